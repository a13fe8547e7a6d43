/- The framework, part 2: a checked interpreter of the model's code over abstract states; no claim is made here. -/
import Derived.Test.YtbjkhapllnkhfaaGreatDoorSF0
import Derived.Below
import Derived.ChangeArms
import Derived.ChangeOld
import Derived.DataReads
import Derived.Handed
import Derived.LaidLaws
import Derived.Lib.AtoiAll
import Derived.Lib.IndexMore
import Derived.Lib.ItoaNum
import Derived.Lib.SlicesS
import Derived.Lib.Split
import Derived.Lib.Strings
import Derived.MakeChecks
import Derived.OrdersHeld
import Derived.Shelf.Slices.Delete
import Derived.Shelf.Slices.Turned
import Derived.Shelf.Spec.SlicesInsertGrow
import Derived.Shelf.Strconv.Itoa3
import Derived.Shelf.Strings.Cut
import Derived.Shelf.Strings.Prefix
import Derived.Shelf.Strings.Search3
import Derived.Shelf.Strings.Split
import Derived.Stop.LaidErr
import Derived.Tactics
set_option linter.unusedVariables false
set_option linter.unusedSimpArgs false
set_option linter.unusedSectionVars false
section
namespace Go.Fw
def alive(l:List BP)(i:Nat):Bool:=
 match l[i]? with
 |some .gone=>false
 |some _=>true
 |none=>false
def AP.MP(l:List BP):AP->Bool
 | .sl s _=>s
 | .rA _=>false
 | .oX _ _=>false
 | .vZ _ _=>false
 | .ref i=>decide (i<l.length)
 | .ptr i _=>alive l i
 | .fn _ K4=>K4.all (alive l)
 |_=>true
def XP.MP(l:List BP):XP->Bool
 | .c p=>p.MP l
 | .agg q=>q.all (AP.MP l)
 | .L8 q=>q.all fun| .inl p=>p.MP l| .inr q=>q.all (AP.MP l)
 | .row _=>false
def BP.MP(l:List BP):BP->Bool
 | .mem q=>q.all (AP.MP l)
 |_=>true
def kinds:List BP->List BP->Bool
 |[],_=>true
 | .mem _::l,.mem _::m=>kinds l m
 | .sl _ r::l,.sl _ q::m=>decide (r=q)&&kinds l m
 | .mem _::l,.gone::m=>kinds l m
 | .sl _ _::l,.gone::m=>kinds l m
 |_,_=>false
def pJ(l:List BP):List (Nat×XP)->Bool
 |[(0,p)]=>p.MP l
 |_=>false
def RU.ok(c:RU):Bool:=
 kinds c.ins.GV c.outs.GV&&pJ c.outs.GV c.outs.D1&&c.outs.GV.all (BP.MP c.outs.GV)
theorem Z_:∀{l m:List BP},kinds l m=true->l.length<=m.length/\ ∀(i:Nat) p,l[i]? =some p->p≠ .gone/\ ∀d r,m[i]? =some (.sl d r)-> ∃d',p= .sl d' r
 |[],m,_=>⟨by simp,fun i p h=>by simp at h⟩
 | .gone::l,[],h=>by simp[kinds]at h
 | .gone::l,_::_,h=>by simp[kinds]at h
 | .mem _::l,[],h=>by simp[kinds]at h
 | .sl _ _::l,[],h=>by simp[kinds]at h
 | .mem q::l,.mem _::m,h=>by
  obtain⟨h1,h2⟩:=Z_ (l:=l) (m:=m) (by simpa[kinds]using h);grind
 | .mem q::l,.gone::m,h=>by
  obtain⟨h1,h2⟩:=Z_ (l:=l) (m:=m) (by simpa[kinds]using h);grind
 | .mem q::l,.sl _ _::m,h=>by simp[kinds]at h
 | .sl d0 r0::l,.sl _ q::m,h=>by
  simp only[kinds,ALJ,ALh]at h;obtain⟨h1,h2⟩:=Z_ (l:=l) (m:=m) h.2;grind
 | .sl d0 r0::l,.gone::m,h=>by
  obtain⟨h1,h2⟩:=Z_ (l:=l) (m:=m) (by simpa[kinds]using h);grind
 | .sl _ _::l,.mem _::m,h=>by simp[kinds]at h
def L1(P:Program)(f:Nat)(c:RU):Prop:=
 c.ok=true/\(∀args w,(callFunc f args).run P w= .ok (.enter f args) w)/\
 ∀(E:Env) (w:World) (v:c.ins.V) (args:Array Value) (u:c.outs.V),args.size=c.ins.D1.length->
  C2 E w (Jg.mk id c.ins.GV v.2) (Jg.mk id c.ins.GV v.2) []->NK E w (Jg.mk id c.ins.GV v.2) id c.ins.D1 v.1 args.toList->c.g v=some u->
  Calls P f args w fun e w' => ∃x E',e= .returned x/\gb E w E' w'/\C2 E' w' (Jg.mk id c.outs.GV u.2) (Jg.mk id c.outs.GV u.2) []/\
   NK E' w' (Jg.mk id c.outs.GV u.2) id c.outs.D1 u.1 [x]/\ ∀i,i<c.ins.GV.length->alive c.outs.GV i=true->E'.IG i=E.IG i/\E'.IF i=E.IF i
theorem mg:∀x:AV,Gp [] x=x
 | .ref b (s::p)=>by rfl
 | .ref b []=>rfl
 | .win b (s::p) i n=>by rfl
 | .win b [] i n=>rfl
 | .J5 b (s::p) i sz j=>by rfl
 | .J5 b [] i sz j=>rfl
 | .v _ _=>rfl
 | .sl _ _ _=>rfl
 | .nil=>rfl
 | .Ir _ _=>rfl
 | .Qf _ _ _ _=>rfl
 | .fn _ _=>rfl
 | .vZ _ _=>rfl
 | .ACj=>rfl
 | .undef=>rfl
theorem cG:Gp []=id:=funext mg
theorem yA:∀x:XV,WV [] x=x
 | .c x=>by simp[WV,mg]
 | .agg l=>by simp[WV,cG]
 | .L8 l=>by
  simp only[WV,cG];congr 1
  conv=>rhs;rw[<-List.map_id l]
  apply ARF;intro x _;cases x with
  |inl x=>simp
  |inr q=>simp
theorem xW(m:Qr)(σ:St):(σ.cY m).tm=σ.tm.map (WV m):=by
 cases m with
 |nil=>
  simp only[St.cY];have:WV []=id:=funext yA;simp_all
 |cons _ _=>rfl
theorem AFG(m:Qr)(σ:St):(σ.cY m).bx=σ.bx.map (Bx.map (Gp m)):=by
 cases m with
 |nil=>grind[St.cY,cG,dF]
 |cons _ _=>
  rfl
theorem iQ(f:AV->AV):∀(m:Qr) (bx:List Bx),Cy (bx.map (Bx.map f)) m=(Cy bx m).map (Bx.map f)
 |[],_=>rfl
 |none::m,bx=>by simp only[Cy];exact iQ f m bx
 |some b::m,bx=>by
  simp only[Cy];rw[<-iQ f m (bx.set b .dead),List.map_set];rfl
theorem Sy:∀{m:Qr} {bx:List Bx} {b:Nat},some b∉m->(Cy bx m)[b]? =bx[b]?
 |[],_,_,_=>rfl
 |none::m,bx,b,h=>by simp only[Cy];exact Sy (by simp_all)
 |some c::m,bx,b,h=>by
  simp only[Cy];rw[Sy (by simp_all),AOK (by grind)]
theorem AFt{E E':Env}{w w':World}{vw vw':List Bx}{m:Qr}(k:Um E w vw E' w' (Cy vw' m))
  (hb:∀b d' r rows',some b∈m->vw'[b]? =some (.sl d' r rows')-> ∃d rows,vw[b]? =some (.sl d r rows)/\List.length rows' =List.length rows/\E'.IF b=E.IF b) (hlen:vw.length<=vw'.length) {x:AV} {v:Value} (h:VR E w vw x v):VR E' w' vw' (Gp m x) v:=by
 have h1:=GQ k h;have gW:∀{b'},some b'∉m->(Cy vw' m)[b']? =vw'[b']?:=fun e=>Sy e
 have get:∀{b'},b'<vw.length-> ∃B,vw'[b']? =some B:=fun hl=>⟨_,AKT (by omega)⟩
 cases x with
 |v t x=>exact h1
 |sl s r x=>exact h1
 |nil=>exact h1
 |Ir c j=>exact⟨by simpa[Kx]using h1.1,h1.2⟩
 |Qf s r x j=>exact h1
 |fn f K4=>exact⟨fun c hc=>by simpa[Kx]using h1.1 c hc,h1.2⟩
 |vZ f rows=>exact h1
 |ACj=>exact h1
 |undef=>trivial
 |ref c p=>
  have other:some c∉m->VR E' w' vw' (.ref c p) v:=fun e=>by
   grind[VR]
  cases p with
  |nil=>
   simp only[Gp];by_cases e:some c∈m
   ·simp only[VR]at h|-
    obtain⟨h0,h⟩:=h;refine⟨h0,?_⟩;cases hc:vw[c]? with
    |none=>simp_all
    |some B=>
     obtain⟨B',Vp⟩:=get (AK1.1 hc).1;rw[Vp];cases B' with
     |mem cs=>trivial
     |dead=>trivial
     |sl d' r rows' =>
      obtain⟨d,rows,e1,e2,e3⟩:=hb c d' r rows' e Vp;rw[e1]at h;refine⟨by simp[DC],⟨_,rfl⟩,?_⟩;grind[C1]
   simp_all
  |cons s p=>
   simp only[Gp];split
   ·trivial
   simp_all
 |win c p off n=>
  have other:some c∉m->VR E' w' vw' (.win c p off n) v:=fun e=>by
   grind[VR]
  cases p with
  |nil=>
   simp only[Gp];by_cases e:some c∈m
   ·simp only[VR]at h|-
    obtain⟨h0,h⟩:=h;refine⟨h0,?_⟩;cases hc:vw[c]? with
    |none=>simp_all
    |some B=>
     obtain⟨B',Vp⟩:=get (AK1.1 hc).1;rw[Vp];cases B' with
     |mem cs=>trivial
     |dead=>trivial
     |sl d' r rows' =>
      obtain⟨d,rows,e1,e2,e3⟩:=hb c d' r rows' e Vp;rw[e1]at h;obtain⟨_,q,ys,a,len,cap,g1,g2,g3,g4⟩:=h;simp only[G8,AKX,AL1]at g1;obtain⟨rfl,g1⟩:=g1;obtain rfl:=AOs g1;rw[C1]at g3;exact⟨by simp[DC],r,rows',a,len,cap,rfl,by omega,by grind[C1],g4⟩
   simp_all
  |cons s p=>
   simp only[Gp];split
   ·trivial
   simp_all
 |J5 c p i sz j=>
  have other:some c∉m->VR E' w' vw' (.J5 c p i sz j) v:=fun e=>by
   grind[VR]
  cases p with
  |nil=>
   simp only[Gp];by_cases e:some c∈m
   ·simp only[VR]at h|-
    obtain⟨h0,h⟩:=h;refine⟨h0,?_⟩;cases hc:vw[c]? with
    |none=>simp_all
    |some B=>
     obtain⟨B',Vp⟩:=get (AK1.1 hc).1;rw[Vp];cases B' with
     |mem cs=>trivial
     |dead=>trivial
     |sl d' r rows' =>
      obtain⟨d,rows,e1,e2,e3⟩:=hb c d' r rows' e Vp;rw[e1]at h;obtain⟨_,q,ys,bb,o,len,cap,g1,g2,g3,g4⟩:=h;simp only[G8,AKX,AL1]at g1;obtain⟨rfl,g1⟩:=g1;obtain rfl:=AOs g1;rw[C1]at g3;exact⟨by simp[DC],r,rows',bb,o,len,cap,rfl,by omega,by grind[C1],g4⟩
   simp_all
  |cons s p=>
   simp only[Gp];split
   ·trivial
   simp_all
theorem AEs{E E':Env}{w w':World}{vw vw':List Bx}{m:Qr}(k:∀x v,VR E w vw x v->VR E' w' vw' (Gp m x) v){x:XV}{v:Value}(h:XR E w vw x v):XR E' w' vw' (WV m x) v:=by
 cases x with
 |c x=>exact k x v h
 |agg l=>
  obtain⟨vs,rfl,Xe⟩:=h;exact⟨vs,rfl,Cc.MX _ k Xe⟩
 |L8 l=>
  obtain⟨vs,rfl,Xe⟩:=h;refine⟨vs,rfl,Cc.MX _ (fun x v hx=> ?_) Xe⟩;cases x with
  |inl x=>exact k x v hx
  |inr q=>
   obtain⟨us,rfl,hus⟩:=hx;exact⟨us,rfl,Cc.MX _ k hus⟩
def MU(J6:Nat->Nat):Nat->List Bx->List Bx->List Bx
 |_,[],bx=>bx
 |i,B::l,bx=>MU J6 (i+1) l (if J6 i<bx.length then bx.set (J6 i) B else bx++[B])
theorem qC(J6:Nat->Nat):∀(i:Nat) (l:List BP) (x:Jg.V l) (bx:List Bx),dm J6 i l x bx=MU J6 i (Jg.mk J6 l x) bx
 |_,[],_,_=>rfl
 |i,p::l,x,bx=>by simp only[dm,Jg.mk,MU];exact qC J6 (i+1) l x.2 _
structure ABa (J6:Nat->Nat) (M N:Nat):Prop where
 lt:∀k,k<M->J6 k<N
 eq:∀k,M<=k->J6 k=N+(k-M)
 inj:∀k k',k<M->k'<M->J6 k=J6 k'->k=k'
theorem ABa.ATS{J6:Nat->Nat}{M N:Nat}(h:ABa J6 M N){k k':Nat}(e:J6 k=J6 k'):k=k':=by
 by_cases h1:k<M
 ·by_cases h2:k'<M
  ·exact h.inj k k' h1 h2 e
  ·have:=h.lt k h1
   have:=h.eq k' (by omega);omega
 ·by_cases h2:k'<M
  ·have:=h.lt k' h2
   have:=h.eq k (by omega);omega
  ·have:=h.eq k (by omega)
   have:=h.eq k' (by omega);omega
theorem jr{J6:Nat->Nat}{M N:Nat}(h:ABa J6 M N):∀{l:List Bx} {i:Nat} {bx:List Bx},bx.length=N+(i-M)->
  (MU J6 i l bx).length=N+(i+l.length-M)/\(∀(j:Nat) B,l[j]? =some B->(MU J6 i l bx)[J6 (i+j)]? =some B)/\
   ∀n,n<bx.length->(∀j,j<l.length->J6 (i+j)≠n)->(MU J6 i l bx)[n]? =bx[n]?
 |[],i,bx,hl=>⟨by grind[MU],fun j B hj=>by simp_all,fun _ _ _=>rfl⟩
 |B::l,i,bx,hl=>by
  simp only[MU];have mQ:(if J6 i<bx.length then bx.set (J6 i) B else bx++[B]).length=N+(i+1-M):=by
   split
   ·rename_i Ix
    by_cases hi:i<M
    ·grind
    ·have:=h.eq i (by omega);omega
   ·rename_i Ix
    by_cases hi:i<M
    ·have:=h.lt i hi;omega
    grind
  have du:(if J6 i<bx.length then bx.set (J6 i) B else bx++[B])[J6 i]? =some B:=by
   split
   ·simp_all
   ·rename_i Ix
    by_cases hi:i<M
    ·grind
    ·have:=h.eq i (by omega)
     grind
  obtain⟨q1,q2,q3⟩:=jr h (l:=l) mQ;refine⟨by grind,fun j C hj=> ?_,fun n hn aO=> ?_⟩
  ·cases j with
   |zero=>
    simp at hj;subst hj;exact(q3 (J6 i) (AK1.1 du).1 (fun j hj e=>by have:=h.ATS e;omega)).trans du
   |succ j=>
    grind
  ·have AZS:=aO 0 (by simp)
   rw[ART]at AZS;rw[q3 n (by omega) (fun j hj=>by have:=aO (j+1) (by simp_all);grind)];grind
theorem gf{J6:Nat->Nat}{M N:Nat}(h:ABa J6 M N){E:Env}{w:World}{vw:List Bx}:∀{l:List Bx} {i:Nat} {bx:List Bx} {Fs:List ABy},bx.length=N+(i-M)->(∀k,i<=k->k<M->bx[J6 k]? =some .dead)->
  Fs.length=l.length->(∀(j:Nat) B F,l[j]? =some B->Fs[j]? =some F->vF E w vw (J6 (i+j)) B F)->C2 E w vw bx Fs.flatten->C2 E w vw (MU J6 i l bx) []
 |[],i,bx,Fs,hl,hd,hF,hB,zk=>by
  grind[List.eq_nil_of_length_eq_zero,MU]
 |B::l,i,bx,F::Fs,hl,hd,hF,hB,zk=>by
  simp only[MU];have hBi:=hB 0 B F rfl rfl;rw[ART]at hBi;have next:∀{R0},R0.length=N+(i+1-M)->(∀k,i+1<=k->k<M->R0[J6 k]? =some .dead)->C2 E w vw R0 Fs.flatten->C2 E w vw (MU J6 (i+1) l R0) []:=by
   intro R0 h1 h2 h3;refine gf h h1 h2 (by simp_all) (fun j C G hC hG=> ?_) h3;have:=hB (j+1) C G (by simp_all) (by simp_all);grind
  rw[ARV]at zk;by_cases hi:i<M
  ·have Ix:=h.lt i hi
   rw[AJe (by omega)];refine next (by grind) (fun k hk1 hk2=> ?_) (zk.put (hd i (AMN _) hi) hBi);rw[AOK (fun e=>by have:=h.ATS e;omega)];grind
  ·have heq:=h.eq i (by omega)
   rw[AJk (by omega)];have e1:J6 i=bx.length:=by omega
   rw[e1]at hBi;exact next (by grind) (fun k hk1 hk2=>by omega) (zk.push hBi)
 |_::_,_,_,[],_,_,hF,_,_=>by simp_all
structure zb (E' E2:Env) (l:List BP) (u:Jg.V l) (vw2:List Bx) (J6:Nat->Nat):Prop where
 ids:∀i,alive l i=true->E2.IG (J6 i)=E'.IG i/\E2.IF (J6 i)=E'.IF i
 bx:∀(i:Nat) p,l[i]? =some p-> ∃y,(Jg.mk id l u)[i]? =some (p.mk id y)/\vw2[J6 i]? =some (p.mk J6 y)
 S:E2.S=E'.S
theorem eN(J6:Nat->Nat):∀{l:List BP} {u:Jg.V l} {i:Nat} {p:BP},l[i]? =some p-> ∃y:p.V,(Jg.mk id l u)[i]? =some (p.mk id y)/\(Jg.mk J6 l u)[i]? =some (p.mk J6 y)
 |q::l,u,0,p,h=>by
  simp at h;subst h;exact⟨u.1,rfl,rfl⟩
 |q::l,u,i+1,p,h=>by
  obtain⟨y,h1,h2⟩:=eN J6 (u:=u.2) (i:=i) (by simpa using h);grind[Jg.mk]
 |[],_,_,_,h=>by simp at h
theorem VY(J6:Nat->Nat):∀{l:List BP} {u:Jg.V l},(Jg.mk J6 l u).length=l.length
 |[],_=>rfl
 |_::l,u=>by simp[Jg.mk,VY J6 (l:=l)]
section
variable{E' E2:Env} {w:World} {l:List BP} {u:Jg.V l} {vw2:List Bx} {J6:Nat->Nat} (r:zb E' E2 l u vw2 J6)
include r
omit r in
theorem xn{i:Nat}(h:alive l i=true):∃p,l[i]? =some p/\p≠ .gone:=by
 unfold alive at h;cases e:l[i]? with
 |none=>rw[e]at h;cases h
 |some p=>
  refine⟨p,rfl,fun hp=> ?_⟩;rw[e,hp]at h;cases h
theorem ADW{p:AP}{y:p.V}{v:Value}(DG:p.MP l=true)(h:VR E' w (Jg.mk id l u) (p.mk id y) v):VR E2 w vw2 (p.mk J6 y) v:=by
 cases p with
 |v t=>exact h
 |sl s q=>
  simp only[AP.MP]at DG;subst DG;simp only[AP.mk,VR,AQY]at h|-;rw[r.S];omega
 |nil=>exact h
 |ref i=>
  simp only[AP.MP,ALh]at DG;obtain⟨p,hp⟩:∃p,l[i]? =some p:=⟨_,AKT DG⟩;obtain⟨z,z1,z2⟩:=r.bx i p hp;simp only[AP.mk,VR,id]at h|-;refine⟨h.1,?_⟩;have h2:=h.2;rw[z1]at h2;rw[z2];cases p with
  |mem q=>trivial
  |gone=>trivial
  |sl d q=>
   have hid:=(r.ids i (by simp[alive,hp])).2;grind[BP.mk]
 |ptr i j=>
  simp only[AP.MP]at DG;obtain⟨p,hp,hg⟩:=xn DG;obtain⟨z,z1,z2⟩:=r.bx i p hp;refine⟨(AK1.1 z2).1,?_⟩;rw[(r.ids i DG).1];exact h.2
 |rA q=>simp[AP.MP]at DG
 |oX i sz=>simp[AP.MP]at DG
 |vZ f rs=>simp[AP.MP]at DG
 |fn f K4=>
  simp only[AP.MP,ARM]at DG;obtain⟨h1,h2⟩:=h;refine⟨fun b hb=> ?_,?_⟩
  ·obtain⟨i,hi,rfl⟩:=ARG.1 hb
   obtain⟨p,hp,_⟩:=xn (DG i hi);obtain⟨z,_,z2⟩:=r.bx i p hp;grind
  ·rw[h2,AR5]
   congr 2
   rw[AR5];apply ARF;intro i hi;simp only[Function.comp,id,(r.ids i (DG i hi)).1]
 |any=>trivial
theorem sC:∀{q:List AP} {y:aM.V q} {vs:List Value},q.all (AP.MP l)=true->mo E' w (Jg.mk id l u) (aM.mk id q y) vs->mo E2 w vw2 (aM.mk J6 q y) vs
 |[],_,[],_,_=>trivial
 |[],_,_::_,_,h=>h.elim
 |p::q,y,[],_,h=>h.elim
 |p::q,y,v::vs,DG,h=>by
  simp only[ARN,ALJ]at DG;exact⟨ADW r DG.1 h.1,sC DG.2 h.2⟩
theorem zQ:∀{q:List (AP ⊕ List AP)} {y:bq.V q} {vs:List Value},(q.all fun| .inl p=>p.MP l| .inr q=>q.all (AP.MP l))=true->Cc (TR E' w (Jg.mk id l u)) (bq.mk id q y) vs->Cc (TR E2 w vw2) (bq.mk J6 q y) vs
 |[],_,[],_,_=>trivial
 |[],_,_::_,_,h=>h.elim
 | .inl p::q,y,[],_,h=>h.elim
 | .inr p::q,y,[],_,h=>h.elim
 | .inl p::q,y,v::vs,DG,h=>by
  simp only[ARN,ALJ]at DG;exact⟨ADW r DG.1 h.1,zQ DG.2 h.2⟩
 | .inr p::q,y,v::vs,DG,h=>by
  simp only[ARN,ALJ]at DG;obtain⟨us,e,hus⟩:=h.1;exact⟨⟨us,e,sC r DG.1 hus⟩,zQ DG.2 h.2⟩
theorem APv{p:XP}{y:p.V}{v:Value}(DG:p.MP l=true)(h:XR E' w (Jg.mk id l u) (p.mk id y) v):XR E2 w vw2 (p.mk J6 y) v:=by
 cases p with
 |c p=>exact ADW r DG h
 |agg q=>
  obtain⟨vs,e,Xe⟩:=h;exact⟨vs,e,sC r DG Xe⟩
 |row q=>simp[XP.MP]at DG
 |L8 q=>
  obtain⟨vs,e,Xe⟩:=h;exact⟨vs,e,zQ r DG Xe⟩
theorem APL{i:Nat}{p:BP}{y:p.V}{F:ABy}(hi:l[i]? =some p)(DG:p.MP l=true)(h:vF E' w (Jg.mk id l u) i (p.mk id y) F):vF E2 w vw2 (J6 i) (p.mk J6 y) F:=by
 cases p with
 |mem q=>
  obtain⟨h1,arr,ty,fr,h2,h3,h4⟩:=h;have hid:=(r.ids i (by simp[alive,hi])).1;exact⟨by simp_all,arr,ty,fr,by simp_all,h3,sC r DG h4⟩
 |sl d q=>
  obtain⟨h1,h2⟩:=h;refine⟨h1,?_⟩;rw[(r.ids i (by simp[alive,hi])).2,r.S];omega
 |gone=>exact h
end
end Go.Fw
end
section
namespace Go.Fw
theorem zR{s:Bb}{N:Nat}{m0 m:Qr}{tm:List XV}{bx:List Bx}{x:s.V}(e:s.fit N m0 tm bx=some (x,m)):∀(k:Nat) p,s.GV[k]? =some p->p≠ .gone-> ∃b B,m[k]? =some (some b)/\bx[b]? =some B/\B≠ .dead/\
  ∀d r,p= .sl d r-> ∃d' rows,B= .sl d' r rows:=by
 simp only[Bb.fit,ALU,AKm]at e;obtain⟨m1,e1,m2,e2,a,e3,c,e4,e5⟩:=e;cases e5;obtain⟨q1,q2⟩:=T1 (J6:=id) e4;grind
theorem AIR(n:Nat):ue (List.replicate n none):=fun i j b h=>by
 grind
theorem ADI{w:World}{B B':Nat->Prop}{w':World}{r:Ty}{v:Value}{x y:List r.D}(h:Rd w B (.sl r) [v] x)(h':Rd w' B' (.sl r) [v] y):y.length=x.length:=by
 grind[Rd]
section
variable{Y:Type} {P:Program} {E:Env} {σ:St} {a:Act} {w:World} {k:K Y} {y:Y}
theorem wj{E' E2:Env}{l:List BP}{u:Jg.V l}{vw2:List Bx}{J6:Nat->Nat}(r:zb E' E2 l u vw2 J6):∀{sl:List (Nat×XP)} {z:GU.V sl} {x:Value},
  pJ l sl=true->NK E' w (Jg.mk id l u) id sl z [x]->XR E2 w vw2 (im sl z J6) x
 |[(0,p)],z,x,DG,h=>by
  obtain⟨⟨v,hv,hx⟩,_⟩:=h;simp at hv;subst hv;exact APv r DG hx
 |[],_,_,DG,_=>by simp[pJ]at DG
 |(_+1,_)::_,_,_,DG,_=>by simp[pJ]at DG
 |(0,_)::_::_,_,_,DG,_=>by simp[pJ]at DG
def iq(c:RU)(xs:List XV)(σ:St):ABy:=
 match c.ins.fit σ.bx.length c.ins.m0 xs (c.ins.opens σ.bx)with
 |some (_,m)=>m.filterMap id
 |none=>[]
theorem xV(h:Rel E σ a w)(s:Bb):∃E',Rel E' { σ with bx:=s.opens σ.bx } a w/\S5 [] E σ.bx w E' (s.opens σ.bx) w/\(∀(i:Nat) d r,s.GV[i]? =some (.sl d r)->E'.IF (σ.bx.length+i)= .slice none 0 0)/\
  (∀x v,XR E w σ.bx x v->XR E' w (s.opens σ.bx) x v):=by
 let E':Env:={ E with IF:=fun k=>if k<σ.bx.length then E.IF k else .slice none 0 0 }
 have hlen:σ.bx.length<=(s.opens σ.bx).length:=by simp[Bb.opens]
 have hold:∀b,b<σ.bx.length->(s.opens σ.bx)[b]? =σ.bx[b]?:=fun b hb=>by grind[Bb.opens,List.getElem?_append_left]
 have re:∀b,b<σ.bx.length->E'.IF b=E.IF b:=fun b hb=>by grind
 have keep:Um E w σ.bx E' w (s.opens σ.bx):=
  ⟨hlen,fun _ _=>rfl,fun _ h=>h,fun _ h=>h,h.bx.st,fun _ _=>rfl,fun b d r rows hb e=>⟨d,rows,by simp_all,fun p hp q ys hg=>⟨hp,⟨ys,hg,rfl⟩,fun hh he=>by simp_all⟩⟩⟩
 obtain⟨Fs,⟨f1,f2⟩,f3⟩:=h.bx;refine⟨E',⟨h.OS,h.tm.imp fun _ _ hx=>QR keep hx,?_⟩,?_,fun i d r hi=>by grind,fun x v hx=>QR keep hx⟩
 ·refine⟨Fs++List.replicate s.GV.length [],⟨by simp[Bb.opens,f1],fun n B F hB hF=> ?_⟩,?_⟩
  ·by_cases hn:n<σ.bx.length
   ·rw[hold n hn]at hB
    rw[AMB (by omega)]at hF;have:=f2 n B F hB hF;cases B with
    |mem cs=>
     obtain⟨rfl,arr,ty,fr,a1,a2,a3⟩:=this;exact⟨rfl,arr,ty,fr,a1,a2,a3.imp fun _ _ hv=>GQ keep hv⟩
    |sl d r rows=>exact⟨this.1,by rw[re n hn];exact this.2⟩
    |dead=>exact this
   ·rw[AMM (by omega)]at hF
    have hF':F=[]:=ARD (AMU hF);subst hF';simp only[Bb.opens]at hB;rw[AMM (by omega),AOR,AKm]at hB;obtain⟨p,_,rfl⟩:=hB;have hh:E'.IF n= .slice none 0 0:=by grind
    cases p with
    |mem q=>rfl
    |gone=>rfl
    |sl d r=>exact⟨by omega,by rw[hh];exact um⟩
  ·have:(Fs++List.replicate s.GV.length []).flatten=Fs.flatten:=by simp
   rw[this];exact⟨f3.nodup,f3.free,f3.lt,f3.st,f3.eG,f3.vz.mono (fun _ h=>h) (fun _ _=>rfl)⟩
 ·refine⟨⟨fun _ h=>h,fun _ h=>h,fun _ h=> .inl h,fun _ h=> .inl h,fun _ _=>rfl,rfl,rfl,rfl,AMN _⟩,hlen,fun b hb=>⟨rfl,re b hb⟩,fun b hb=> ?_,fun n B B' _ hB Vp hd=> ?_⟩
  ·grind
  ·rw[hold n (AK1.1 hB).1,hB]at Vp
   cases Vp;exact⟨XZ.refl hd,fun _ _=>rfl⟩
theorem S5.after{t:ABy}{E E' E'':Env}{bx R0 ATL:List Bx}{w w':World}(h:S5 [] E bx w E' R0 w)(hb:∀b,b<bx.length->R0[b]? =bx[b]?)(k:S5 t E' R0 w E'' ATL w'):S5 t E bx w E'' ATL w':=
 ⟨h.base.trans k.base,APp h.len k.len,fun b Ix=>⟨(k.ids b (AQQ Ix h.len)).1.trans (h.ids b Ix).1,(k.ids b (AQQ Ix h.len)).2.trans (h.ids b Ix).2⟩,fun b hd=>k.dead b (h.dead b hd),fun n B B' hn hB Vp hd=>by
  have Ix:=(AK1.1 hB).1;obtain⟨k1,k2⟩:=k.frame n B B' hn (by simp_all) Vp hd;refine⟨k1,fun c hc=>k2 c ?_⟩;cases B with
  |mem cs=>simp only[BRB]at hc|-;rw[(h.ids n Ix).1];omega
  |sl d r rows=>simp only[BRB]at hc|-;rw[(h.ids n Ix).2];omega
  |dead=>exact hc⟩
def AL2(c:RU)(N:Nat)(xs:List XV)(σ:St)(k:K Y):Option Y:=
 match c.ins.fit N c.ins.m0 xs σ.bx with
 |some (v,m)=>(c.g v).bind fun u=>
  let J6:=bN m σ.bx.length
  let σ1:=σ.cY m
  k (im c.outs.D1 u.1 J6) { σ1 with bx:=dm J6 0 c.outs.GV u.2 (Cy σ1.bx m) }
 |none=>none
def ACx(c:RU)(N:Nat)(xs:List XV)(σ:St):ABy:=
 match c.ins.fit N c.ins.m0 xs σ.bx with
 |some (_,m)=>m.filterMap id
 |none=>[]
theorem ACH{f:Nat}{c:RU}(hc:L1 P f c)(h:Rel E σ a w){N0:Nat}(ADT:∀(i:Nat) d r,c.ins.GV[i]? =some (.sl d r)->E.IF (N0+i)= .slice none 0 0){xs:List XV}{vs:List Value}(hxs:Cc (XR E w σ.bx) xs vs)(hlen:xs.length=c.ins.D1.length)(e:AL2 c N0 xs σ k=some y):
  Calls P f vs.toArray w fun e w' => ∃x E' xv σ',e= .returned x/\Rel E' σ' a w'/\XR E' w' σ'.bx xv x/\S5 (ACx c N0 xs σ) E σ.bx w E' σ'.bx w'/\σ'.tm.length=σ.tm.length/\k xv σ' =some y:=by
 obtain⟨DG,_,xH⟩:=hc;simp only[RU.ok,ALJ]at DG;obtain⟨⟨hk,hslot⟩,hbo⟩:=DG;obtain⟨hklen,hk⟩:=Z_ hk;unfold AL2 at e;split at e
 case h_2=>cases e
 rename_i v m gm;simp only[ALU]at e;obtain⟨u,hg,e⟩:=e;obtain⟨_,E1,hf⟩:=og h.bx hxs ADT (by simp[Bb.m0]) (AIR _) gm;have LP:vs.toArray.size=c.ins.D1.length:=by grind[Cc.len]
 refine(xH E1 w v vs.toArray u LP hf.boxes (by simpa using hf.D1) hg).mono fun e' w' hR=> ?_
 obtain⟨x,E',rfl,base,⟨Fs,hFs1,hFs2⟩,D1,AG_⟩:=hR;simp only[ALu]at hFs2;obtain⟨Fk,k1,k2,k3,k4⟩:=hf.rest;have st:=h.bx.st;have eG:=h.bx.eG;have hM:m.length=c.ins.GV.length:=hf.len;have all:∀i,i<m.length-> ∃b B,m[i]? =some (some b)/\σ.bx[b]? =some B/\B≠ .dead/\ ∀d r,c.ins.GV[i]? =some (.sl d r)-> ∃d' rows,B= .sl d' r rows:=by
  intro i hi;have hp:c.ins.GV[i]? =some (c.ins.GV[i]'(by omega)):=AKT _;grind[zR,Option.some.inj]
 let N:=σ.bx.length
 let M:=m.length
 have AJh:∀i b,m[i]? =some (some b)->bN m N i=b:=fun i b h=>by simp[bN,h]
 have AUU:∀i,M<=i->bN m N i=N+(i-M):=fun i hi=>by
  grind[List.getElem?_eq_none,bN]
 have ro:ABa (bN m N) M N:=⟨fun i hi=>by
   grind,AUU,fun i j hi hj e=>by
   obtain⟨b,B,h1,h2,_⟩:=all i hi;obtain⟨b',B',h1',h2',_⟩:=all j hj;rw[AJh i b h1,AJh j b' h1']at e;subst e;exact hf.inj i j b h1 h1'⟩
 let E2:Env:={
   IG:=fun n=>if n<N then E.IG n else E'.IG (M+(n-N))
   IF:=fun n=>if n<N then E.IF n else E'.IF (M+(n-N))
   T:=fun c=>E.T c\/E'.S c
   S:=E'.S }
 have hS:∀c,E.S c->E'.S c:=fun d hd=>base.S d (hf.S d hd)
 have hSk:∀d∈Fk.flatten,¬E'.S d:=fun d hd hs=>by
  obtain⟨_,n2,_,n4⟩:=k3 d hd;exact(base.Sof d hs).elim n2 (fun h=>h n4)
 have AEW:∀d,E.T d->w'.heap[d]? =w.heap[d]?:=fun d hd=>base.heap d (hf.T d hd)
 have AUA:∀d∈Fk.flatten,w'.heap[d]? =w.heap[d]?:=fun d hd=>base.heap d (k3 d hd).2.2.2
 have AUo:gb E w E2 w':=⟨fun d hd=> .inl hd,hS,fun d hd=>hd,fun d hd=>by
   rcases base.Sof d hd with h|h
   ·exact hf.Sof d h
   ·exact .inr fun ht=>h (hf.T d ht),AEW,base.os,base.tape,base.output,base.size⟩
 let vw':=Jg.mk id c.outs.GV u.2
 let Bs:=Jg.mk (bN m N) c.outs.GV u.2
 let bk:=(Cy σ.bx m).map (Bx.map (Gp m))
 have hbk:Cy (σ.cY m).bx m=bk:=by rw[AFG,iQ]
 have AcI:bk.length=N:=by simp[bk,Kx,N]
 let eF:=MU (bN m N) 0 Bs bk
 have Abr:dm (bN m N) 0 c.outs.GV u.2 (Cy (σ.cY m).bx m)=eF:=by rw[qC,hbk]
 obtain⟨s1,s2,s3⟩:=jr ro (l:=Bs) (i:=0) (bx:=bk) (by omega);have Ac9:Bs.length=c.outs.GV.length:=VY _;have uT:σ.bx.length<=eF.length:=by
  grind
 have rn:zb E' E2 c.outs.GV u.2 eF (bN m N):=by
  refine⟨fun i hi=> ?_,fun i p hp=> ?_,rfl⟩
  ·by_cases him:i<M
   ·obtain⟨b,B,h1,h2,_⟩:=all i him
    have hbl:b<N:=(AK1.1 h2).1;have g1:=hf.ids i b h1;grind
   grind
  ·obtain⟨z,z1,z2⟩:=eN (bN m N) (u:=u.2) hp
   grind
 have AGQ:∀n,n<N->some n∉m->eF[n]? =bk[n]?:=fun n hn hm=>by
  grind
 have keep:Um E w σ.bx E2 w' (Cy eF m):=by
  refine⟨by rw[Kx];omega,fun b hb=>by grind,fun d hd=> .inl hd,hS,st,AEW,fun b d r rows hb hq=> ?_⟩;have hbm:some b∉m:=fun hm=>by grind[Yc]
  rw[Sy hbm,AGQ b hb hbm]at hq;have hq1:=AGO hq;have hq2:σ.bx[b]? =some (.sl d r rows):=by
   rcases TS (FO.refl σ.bx) b _ hq1 with e|e
   all_goals grind
  refine⟨d,rows,hq2,fun p hp q ys hgp=>⟨hp,⟨ys,hgp,rfl⟩,fun h' hh=> ?_⟩⟩;have hFk:Fk[b]? =some (Fk[b]'(by rw[k1.1,Kx];omega)):=AKT _;obtain⟨_,ho⟩:=k1.2 b _ _ hq1 hFk;have e2:E2.IF b=E.IF b:=by grind
  grind[zX,List.mem_flatten,List.mem_of_getElem?]
 have vr:∀x v,VR E w σ.bx x v->VR E2 w' eF (Gp m x) v:=fun x v hx=>by
  refine AFt keep (fun b d' r rows' hbm hq=> ?_) uT hx;obtain⟨i,hi,him⟩:=AQA hbm;have AO5:m[i]? =some (some b):=by grind
  obtain⟨b',B,h1,h2,h3,h4⟩:=all i hi;rw[AO5]at h1;cases h1;have hio:i<c.outs.GV.length:=by omega
  have hp:c.outs.GV[i]? =some c.outs.GV[i]:=AKT hio;obtain⟨z,z1,z2⟩:=rn.bx i _ hp;rw[AJh i b AO5,hq]at z2;have AZX:c.ins.GV[i]? =some (c.ins.GV[i]'(by omega)):=AKT _
  generalize c.outs.GV[i]=po at z hp z1 z2
  cases po with
  |mem q=>simp[BP.mk]at z2
  |gone=>simp[BP.mk]at z2
  |sl d0 q=>
   simp only[BP.mk,AKX,Bx.sl.injEq]at z2;obtain⟨rfl,rfl,z2⟩:=z2;obtain rfl:=AOs z2;obtain⟨d1,hpo⟩:=(hk i _ AZX).2 _ _ hp;obtain⟨d2,rows,rfl⟩:=h4 d1 r (by simp_all);have hbl:b<N:=(AK1.1 h2).1;have eh:E2.IF b=E.IF b:=by grind
   refine⟨d2,rows,h2,?_,eh⟩;obtain⟨F0,hR0,_⟩:=h.bx.take h2;have hFi:Fs[i]? =some (Fs[i]'(by rw[hFs1.1,VY];omega)):=AKT _;obtain⟨_,ho'⟩:=hFs1.2 i _ _ z1 hFi;have hal:alive c.outs.GV i=true:=by simp[alive,hp]
   rw[(AG_ i (by omega) hal).2,(hf.ids i b AO5).2]at ho';exact ADI (ZY hR0.2) (ZY ho')
 have ZM:c.outs.GV.all (BP.MP c.outs.GV)=true:=hbo;have rel:Rel E2 { tm:=(σ.cY m).tm,bx:=eF } a w':=by
  refine⟨h.OS,?_,?_⟩
  ·rw[xW]
   exact Cc.MX _ (fun x v hx=>AEs vr hx) h.tm
  ·refine gf ro (Fs:=Fs) (by omega) (fun i _ hi=> ?_) (by rw[hFs1.1,VY];omega) (fun j B F hB hF=> ?_) ?_
   ·obtain⟨b,B,h1,h2,_⟩:=all i hi
    rw[AJh i b h1];have hbl:b<(Cy σ.bx m).length:=by grind
    have hd:(Cy σ.bx m)[b]? =some .dead:=by
     rw[AKT hbl];exact congrArg some (Yc (AMU h1) (AKT hbl))
    simp only[bk];rw[AOR,hd];rfl
   ·rw[ARQ]
    have hjl:=(AK1.1 hB).1;have hp:c.outs.GV[j]? =some (c.outs.GV[j]'(by omega)):=AKT _;obtain⟨z,z1,z2⟩:=eN (bN m N) (u:=u.2) hp;have Vp:Bs[j]? =_:=z2;rw[hB]at Vp;cases Vp;exact APL rn hp (ARM.1 ZM _ (ALk _)) (hFs1.2 j _ _ z1 hF)
   ·
    refine⟨Fk,⟨by simp[bk,k1.1],fun n B F hn hF=> ?_⟩,?_⟩
    ·simp only[bk]at hn
     rw[AOR,AKm]at hn;obtain⟨B0,hn,rfl⟩:=hn;have hnl:n<N:=by grind
     have h3:=k1.2 n B0 F hn hF;have hFw:∀d∈F,w'.heap[d]? =w.heap[d]?:=fun d hd=>AUA d (APz.2 ⟨F,AMU hF,hd⟩)
     have eb:E2.IG n=E.IG n:=by grind
     have eh:E2.IF n=E.IF n:=by grind
     cases B0 with
     |mem cs=>
      obtain⟨rfl,arr,ty,fr,ha,hu,hv⟩:=h3;exact⟨by rw[eb],arr,ty,fr,by simp_all,hu,Cc.MX _ vr hv⟩
     |sl d r rows=>
      refine⟨h3.1,?_⟩;rw[eh];exact EV hS (fun d hd=>AEW d (st d hd)) hFw h3.2
     |dead=>exact h3
    ·refine⟨AL8.2 ⟨k2,hFs2.nodup,fun x hx z hz he=> ?_⟩,fun d hd ht=> ?_,fun d hd=> ?_,fun d hd=> .inr hd,fun d hd=> ?_,h.bx.vz.mono (fun _ h=> .inl h) AEW⟩
     ·subst he
      exact hFs2.free x hz (base.T x (k3 x hx).2.2.2)
     ·rcases AMt.1 hd with hd|hd
      ·grind
      ·rcases ht with ht|ht
       ·exact hFs2.free d hd (base.T d (hf.T d ht))
       ·exact hFs2.free d hd (hFs2.st d ht)
     ·rcases AMt.1 hd with hd|hd
      ·grind
      ·exact hFs2.lt d hd
     ·rcases hd with hd|hd
      ·grind
      ·exact hFs2.eG d (hFs2.st d hd)
 have ARk:S5 (ACx c N0 xs σ) E σ.bx w E2 eF w':=by
  refine⟨AUo,uT,fun n hn=>⟨by grind,by grind⟩,fun n hn=> ?_,fun n B B' hnt hB Vp hnd=> ?_⟩
  rotate_left 1
  ·have hnl:=(AK1.1 hB).1
   have hnm:some n∉m:=fun hm=>hnt (by
    simp only[ACx,gm,List.mem_filterMap];simp_all)
   rw[AGQ n hnl hnm]at Vp;simp only[bk]at Vp;have hkn:(Cy σ.bx m)[n]? =some B:=by grind[Sy]
   rw[AOR,hkn]at Vp;have Vp:Bx.map (Gp m) B=B':=by simp_all
   have hFk:Fk[n]? =some (Fk[n]'(by rw[k1.1,Kx];omega)):=AKT _;refine⟨?_,fun d hd=> ?_⟩
   ·subst Vp
    cases B with
    |mem cs=>trivial
    |sl d r rows=>rfl
    |dead=>exact absurd rfl hnd
   ·rcases jF (k1.2 n B _ hkn hFk) hd with hs|hs
    all_goals grind[List.mem_flatten,List.mem_of_getElem?]
  have hnl:=(AK1.1 hn).1;have hnm:some n∉m:=fun hm=>by
   obtain⟨i,hi,him⟩:=AQA hm;grind
  rw[AGQ n hnl hnm];simp only[bk];rw[AOR,Sy hnm,hn];rfl
 refine⟨x,E2,im c.outs.D1 u.1 (bN m N),{ tm:=(σ.cY m).tm,bx:=eF },rfl,rel,wj rn hslot D1,ARk,by simp[xW],?_⟩;grind
theorem AE2{f:Nat}{c:RU}(hc:L1 P f c)(h:Rel E σ a w){xs:List XV}{vs:List Value}(hxs:Cc (XR E w σ.bx) xs vs)(e:ph c xs σ k=some y):
  Calls P f vs.toArray w fun e w' => ∃x E' xv σ',e= .returned x/\Rel E' σ' a w'/\XR E' w' σ'.bx xv x/\S5 (iq c xs σ) E σ.bx w E' σ'.bx w'/\σ'.tm.length=σ.tm.length/\k xv σ' =some y:=by
 unfold ph at e;split at e
 case isFalse=>cases e
 rename_i hlen;obtain⟨E',h1,h2,h3,h4⟩:=xV h c.ins;have hold:∀b,b<σ.bx.length->(c.ins.opens σ.bx)[b]? =σ.bx[b]?:=fun b hb=>by grind[Bb.opens,List.getElem?_append_left]
 refine(ACH (N0:=σ.bx.length) hc h1 h3 (hxs.imp fun x v hx=>h4 x v hx) hlen (k:=k) (y:=y) e).mono fun e' w' hR=> ?_
 obtain⟨x,E2,xv,σ',q0,q1,q2,q3,q4,q5⟩:=hR;exact⟨x,E2,xv,σ',q0,q1,q2,h2.after hold q3,q4,q5⟩
end
end Go.Fw
end
section
namespace Go.Fw
def lB(P:Program)(Γ:Nat->Option RU):Prop:= ∀f c,Γ f=some c->L1 P f c
theorem wa{Γ:Nat->Option RU}{σ:St}{o:Op}(h:sX o=false):Kz (fun _=>none) σ o=Kz Γ σ o:=by
 cases o with
 |call c=>
  obtain⟨callee,args,vk⟩:=c;cases callee with
  |value f=>simp[sX]at h
  |invoke _ _=>rfl
  |builtin b=>cases b<;>rfl
 |_=>rfl
theorem AUg{Y:Type}{P:Program}{Γ:Nat->Option RU}{o:Oper}{E:Env}{σ:St}{a:Act}{w:World}{k:K Y}{y:Y}{g:Nat}{c:RU}(hsc:L1 P g c)(h:Rel E σ a w){f:Operand}{args:Array Operand}{vk:Array TypeId}
  (ho:o.op= .call { callee:= .value f,args:=args,argTypes:=vk }) {ps:List Value} (dR:a.eval f= .func (.func g) #[] ps.toArray) {xs:List XV} (Io:Cc (XR E w σ.bx) xs (args.toList.map a.eval++ps)) (ht:Kz Γ σ o.op=iq c xs σ)
  (e:ph c xs σ k=some y) {next:Act->World->Prop} {Q:Exit->Act->World->Prop}
  (hn:∀v w' E' x σ',Rel E' σ' a w'->XR E' w' σ'.bx x v->S5 (Kz Γ σ o.op) E σ.bx w E' σ'.bx w'->σ'.tm.length=σ.tm.length->k x σ' =some y->next (a.put o.dst v) w'):o.wp P a w next Q:=by
 have xH:=AE2 hsc h Io e;have pT:(execOp a.eval o).run P w= .ok (.enter g (args.toList.map a.eval++ps).toArray) w:=by
  have e2:(args.map a.eval)++ps.toArray=(args.toList.map a.eval++ps).toArray:=by
   simp_all
  simp only[execOp,ho,resolve,dR,Deferred.ofValue,Sem.run_bind,Sem.run_pure,Result.andThen_ok,invoke,Array.empty_append,e2,hsc.2.1]
 unfold Oper.wp;rw[pT];simp only[Oper.upon];refine xH.mono fun e w' hR=> ?_
 grind
section
variable{Y:Type} {P:Program} {T:Jr} (hT:Eb P T) {Γ:Nat->Option RU} (hΓ:lB P Γ) {o:Oper} {E:Env} {σ:St} {a:Act} {w:World} {k:K Y} {y:Y}
include hT hΓ
theorem ADq(h:Rel E σ a w)(e:Z6 T Γ o σ k=some y){next:Act->World->Prop}{Q:Exit->Act->World->Prop}
  (hn:∀v w' E' x σ',Rel E' σ' a w'->XR E' w' σ'.bx x v->S5 (Kz Γ σ o.op) E σ.bx w E' σ'.bx w'->σ'.tm.length=σ.tm.length->k x σ' =some y->next (a.put o.dst v) w'):o.wp P a w next Q:=by
 by_cases hc:sX o.op=false
 ·obtain⟨v,w',E',x,σ',hr,h1,h2,h3,h4,h5⟩:=AFr hT h e hc
  rw[wa hc]at h3;unfold Oper.wp;rcases hr with hr|⟨hr,rfl⟩
  ·rw[hr]
   exact hn v w' E' x σ' h1 h2 h3 h4 h5
  ·rw[hr]
   exact hn _ w' E' x σ' h1 h2 h3 h4 h5
 ·
  unfold sX at hc;split at hc
  case h_2=>simp_all
  rename_i f args vk ho;unfold Z6 at e;rw[ho]at e;dsimp only at e;split at e
  case h_3=>cases e
  ·rename_i g K4 hf
   split at e
   case h_2=>cases e
   rename_i c hg;have hv:=h.ev f;rw[hf]at hv;obtain⟨gH,dR⟩:(∀b∈K4,b<σ.bx.length)/\a.eval f= .func (.func g) #[] (K4.map fun b=>Value.pointer (some ⟨E.IG b,0,none⟩)).toArray:=hv;have hsc:=hΓ g c hg;have Io:Cc (XR E w σ.bx) (args.toList.map σ.ev++K4.map fun b=> .c (.Ir b 0)) (args.toList.map a.eval++K4.map fun b=>Value.pointer (some ⟨E.IG b,0,none⟩)):=by
    refine Cc.append (evs h args.toList) ?_
    clear dR hf e
    induction K4 with
    |nil=>trivial
    |cons b l ih=>exact⟨⟨gH b (by simp),rfl⟩,ih (fun c hc=>gH c (by simp[hc]))⟩
   grind[Kz,iq,AUg]
  ·rename_i g rows hf
   split at e
   case h_2=>cases e
   rename_i c hg;have hv:=h.ev f;rw[hf]at hv;obtain⟨ps,dR,gH⟩:∃ps:List Value,a.eval f= .func (.func g) #[] ps.toArray/\Cc (RA E w) rows ps:=hv;have hsc:=hΓ g c hg;have Io:Cc (XR E w σ.bx) (args.toList.map σ.ev++rows.map fun q=> .c (.Qf false q.1 q.2 0)) (args.toList.map a.eval++ps):=by
    refine Cc.append (evs h args.toList) ?_
    clear dR hf e
    induction rows generalizing ps with
    |nil=>
     cases ps with
     |nil=>trivial
     |cons _ _=>exact gH.elim
    |cons q l ih=>
     cases ps with
     |nil=>exact gH.elim
     |cons p ps=>
      obtain⟨⟨bb,o,cs,h1,h2,h3,h4,h5⟩,gH⟩:=gH;exact⟨⟨bb,o,cs,h1,h2,h3,h4,h5⟩,ih ps gH⟩
   grind[Kz,iq,AUg]
end
theorem Rel.tmp{E:Env}{σ:St}{a:Act}{w:World}(h:Rel E σ a w){t:Nat}{x:XV}(e:σ.tm[t]? =some x):∃v,a.tmps[t]? =some v/\XR E w σ.bx x v:=by
 obtain⟨v,h1,h2⟩:=h.tm.get e;simp_all
def AOD:Value->Option Bool
 | .bool b=>some b
 |_=>none
theorem eT{ops:Array Oper}{tmps:Array Value}{j t:Nat}(e:(ops[j]?).bind (·.dst)=some t){v:Value}(hv:tmps[t]? =some v):yielded ops tmps j=AOD v:=by
 simp only[yielded,e,ALi,hv];cases v<;>rfl
theorem tg{E:Env}{w:World}{vw:List Bx}:XR E w vw (.L8 []) undef:=⟨#[],rfl,trivial⟩
structure Ok (E0:Env) (w0:World) (N nb:Nat) (E:Env) (σ:St) (a:Act) (w:World):Prop where
 rel:Rel E σ a w
 base:gb E0 w0 E w
 tm:σ.tm.length=N
 sd:nb<=σ.bx.length
 ids:∀i,i<nb->σ.bx[i]?≠some .dead->E.IG i=E0.IG i/\E.IF i=E0.IF i
theorem Ok.next{E0 E E':Env}{w0 w w':World}{N nb:Nat}{σ σ':St}{a a':Act}{t:ABy}(h:Ok E0 w0 N nb E σ a w)(hr:Rel E' σ' a' w')(hw:S5 t E σ.bx w E' σ'.bx w')(hl:σ'.tm.length=σ.tm.length):Ok E0 w0 N nb E' σ' a' w':=
 ⟨hr,h.base.trans hw.base,hl.trans h.tm,APp h.sd hw.len,fun i hi hd=>by
  have h1:=hw.ids i (AQQ hi h.sd);have h2:=h.ids i hi (fun hh=>hd (hw.dead i hh));simp_all⟩
theorem Ok.put{E0 E:Env}{w0 w:World}{N nb:Nat}{σ:St}{a:Act}(h:Ok E0 w0 N nb E σ a w)(dst:Option Tmp){x:XV}{v:Value}(hx:XR E w σ.bx x v):Ok E0 w0 N nb E (σ.put dst x) (a.put dst v) w:=by
 have e1:(σ.put dst x).bx=σ.bx:=by cases dst<;>rfl
 have e2:(σ.put dst x).tm.length=σ.tm.length:=by cases dst<;>simp[St.put]
 refine⟨h.rel.put dst hx,h.base,e2.trans h.tm,by rw[e1];exact h.sd,fun i hi hd=>h.ids i hi (by simp_all)⟩
theorem Ok.same{E0 E:Env}{w0 w:World}{N nb:Nat}{σ σ1:St}{a:Act}(h:Ok E0 w0 N nb E σ a w)(hr:Rel E σ1 a w)(hb:σ1.bx=σ.bx)(hl:σ1.tm.length=σ.tm.length):Ok E0 w0 N nb E σ1 a w:=
 ⟨hr,h.base,hl.trans h.tm,by rw[hb];exact h.sd,fun i hi hd=>h.ids i hi (by rwa [hb]at hd)⟩
end Go.Fw
end
section
namespace Go.Fw
section
variable{Y:Type}
abbrev k0:K (XV×St):=fun x σ=>some (x,σ)
theorem AFw{op:BinOp}{κ:IntKind}{a b:Int}(k:AV->Option Y):jl op κ a b k=(jl op κ a b some).bind k:=by
 cases op<;>simp[jl]<;>split<;>rfl
theorem AAK{op:BinOp}{κ:IntKind}{a b:Int}(k:AV->Option Y):bj op κ a b k=(bj op κ a b some).bind k:=by
 unfold bj;grind
theorem AEp{op:BinOp}{a b:ABF}(k:AV->Option Y):mj op a b k=(mj op a b some).bind k:=by
 cases op<;>simp[mj]<;>split<;>rfl
theorem tJ{T:Jr}{t:Nat}{op:BinOp}{a b:XV}(k:AV->Option Y):ABM T t op a b k=(ABM T t op a b some).bind k:=by
 unfold ABM;grind[AAK,AFw,AEp]
theorem yW{op:UnOp}{a:XV}(k:AV->Option Y):unX op a k=(unX op a some).bind k:=by
 unfold unX;grind
theorem dC{g:Bool}{a b:XV}(k:AV->Option Y):zH g a b k=(zH g a b some).bind k:=by
 unfold zH;grind
theorem MA{len:Nat}{lo hi:Option XV}(k:Nat->Nat->Option Y):Pj len lo hi k=(Pj len lo hi fun l h=>some (l,h)).bind fun p=>k p.1 p.2:=by
 unfold Pj;grind
theorem ACu{T:Jr}{t:Nat}{σ:St}{x:XV}{lo hi:Option XV}(k:K Y):nV T t σ x lo hi k=(nV T t σ x lo hi k0).bind fun p=>k p.1 p.2:=by
 unfold nV;split
 ·split
  ·rw[MA,MA (Y:=XV×St),ARb];rfl
  ·rfl
 ·split
  ·rw[MA,MA (Y:=XV×St),ARb];rfl
  ·rfl
 ·split
  ·split
   ·rw[MA,MA (Y:=XV×St),ARb];rfl
   ·rfl
  ·rfl
 ·rfl
theorem ACF{T:Jr}{t:Nat}{σ:St}{x i:XV}(k:K Y):oN σ T t x i k=(oN σ T t x i k0).bind fun p=>k p.1 p.2:=by
 unfold oN;grind
theorem vn{T:Jr}{t:Nat}{σ:St}{x i:XV}(k:K Y):Yv T t σ x i k=(Yv T t σ x i k0).bind fun p=>k p.1 p.2:=by
 unfold Yv;grind
theorem AE5{T:Jr}{s d:Nat}{σ:St}{x:XV}(k:K Y):xr T s d σ x k=(xr T s d σ x k0).bind fun p=>k p.1 p.2:=by
 unfold xr;grind
theorem AFP{T:Jr}{t:Nat}{σ:St}{l c:XV}(k:K Y):xU T t σ l c k=(xU T t σ l c k0).bind fun p=>k p.1 p.2:=by
 grind[xU]
theorem qj{T:Jr}{t n:Nat}{ps:List (Nat×XV)}{σ:St}(k:K Y):Sr T t n ps σ k=(Sr T t n ps σ k0).bind fun p=>k p.1 p.2:=by
 grind[Sr,Option.bind_assoc]
theorem zz{T:Jr}{ts:Array TypeId}{σ:St}{a x:XV}(k:K Y):iy T ts σ a x k=(iy T ts σ a x k0).bind fun p=>k p.1 p.2:=by
 unfold iy;split
 all_goals grind
theorem AB8{T:Jr}{ts:Array TypeId}{σ:St}{x:XV}(k:K Y):nv T ts σ x k=(nv T ts σ x k0).bind fun p=>k p.1 p.2:=by
 unfold nv;grind
theorem AFB{c:RU}{xs:List XV}{σ:St}(k:K Y):ph c xs σ k=(ph c xs σ k0).bind fun p=>k p.1 p.2:=by
 grind[ph,Option.bind_assoc]
theorem AAr{σ:St}{x:XV}(k:K Y):eU σ x k=(eU σ x k0).bind fun p=>k p.1 p.2:=by
 unfold eU;grind
theorem AFQ{T:Jr}{Γ:Nat->Option RU}{o:Oper}{σ:St}(k:K Y):Z6 T Γ o σ k=(Z6 T Γ o σ k0).bind fun p=>k p.1 p.2:=by
 unfold Z6;split
 ·rfl
 ·exact AAr k
 ·split
  ·rename_i x _
   cases x<;>rfl
  ·rfl
 ·grind
 ·grind
 ·grind
 ·exact qj k
 ·grind
 ·grind
 ·grind
 ·rw[tJ,tJ (Y:=XV×St),ARb];rfl
 ·rw[yW,yW (Y:=XV×St),ARb];rfl
 ·exact AE5 k
 ·grind
 ·exact AFP k
 ·exact ACu k
 ·grind
 ·grind
 ·exact ACF k
 ·exact vn k
 ·grind
 ·grind[AFB]
 ·grind
 ·grind[zz]
 ·grind[AB8]
 ·split
  ·rw[dC,dC (Y:=XV×St),ARb];rfl
  ·rfl
 ·split
  ·rw[dC,dC (Y:=XV×St),ARb];rfl
  ·rfl
 ·rfl
theorem pR{I:Type}[Nonempty I]{T:Jr}{Γ:Nat->Option RU}{o:Oper}{σ:St}{k:I->K Y}{y:Y}(h:∀i,Z6 T Γ o σ (k i)=some y):∃x σ',Z6 T Γ o σ k0=some (x,σ')/\ ∀i,k i x σ' =some y:=by
 obtain⟨i0⟩:= ‹Nonempty I›;have h0:=h i0;grind[AFQ,Option.bind_eq_some_iff]
end
end Go.Fw
end
section
namespace Go.Fw
def WF{α:Type}(P:Program)(s:Sem α):Prop:= ∀w v w1,s.run P w= .ok v w1-> ∀w',s.run P w' = .ok v w'
section
variable{α β:Type} {P:Program}
theorem WF.pure(x:α):WF P (Pure.pure x:Sem α):=fun w v w1 h w' =>by
 simp_all
theorem WF.bind{s:Sem α}{f:α->Sem β}(h:WF P s)(k:∀v,WF P (f v)):WF P (s >>= f):=fun w v w1 e w' =>by
 rw[Sem.run_bind]at e|-;cases hs:s.run P w with
 |ok u w2=>
  rw[hs]at e;simp only[Result.andThen_ok]at e;rw[h w u w2 hs w'];simp only[Result.andThen_ok];exact k u w2 v w1 e w'
 |halt x w2=>
  simp_all
theorem WF.halt(x:Halt):WF P (.halt x:Sem α):=fun w v w1 e w' =>by simp_all
theorem WF.program:WF P program:=fun w v w1 e w' =>by
 simp_all
theorem WF.typeInfo(t:TypeId):WF P (typeInfo t):=WF.bind WF.program fun p=>by
 split
 ·exact WF.pure _
 ·exact WF.halt _
theorem WF.underlying(t:TypeId):WF P (underlying t):=WF.bind WF.program fun p=>by
 split
 ·exact WF.pure _
 ·exact WF.halt _
theorem WF.sizeOf(t:TypeId):WF P (Go.sizeOf t):=WF.bind (WF.typeInfo t) fun _=>WF.pure _
theorem WF.isAgg(t:TypeId):WF P (isAgg t):=WF.bind (WF.underlying t) fun d=>by
 grind[WF.pure]
theorem WF.zeroValue(t:TypeId):WF P (zeroValue t):=WF.bind (WF.typeInfo t) fun i=>by
 split
 ·exact WF.pure _
 ·exact WF.halt _
theorem WF.asIntOf(v:Value):WF P (asIntOf v):=by
 unfold Go.asIntOf;split
 ·exact WF.pure _
 ·exact WF.halt _
 ·exact WF.halt _
theorem WF.asBool(v:Value):WF P (asBool v):=by
 unfold Go.asBool;split
 ·exact WF.pure _
 ·exact WF.halt _
theorem WF.asAgg(v:Value):WF P (asAgg v):=by
 unfold Go.asAgg;split
 ·exact WF.pure _
 ·exact WF.halt _
theorem WF.sureAddr(v:Value):WF P (Instr.sureAddr v):=by
 unfold Instr.sureAddr;split
 ·exact WF.pure _
 ·exact WF.halt _
theorem WF.AA6{s:Sem α}(h:∀w v w1,s.run P w≠ .ok v w1):WF P s:=fun w v w1 e=>absurd e (h w v w1)
theorem Zp{s:Sem α}{f:α->Sem β}(h:∀x w v w1,(f x).run P w≠ .ok v w1):∀w v w1,(s >>= f).run P w≠ .ok v w1:=fun w v w1 e=>by
 rw[Sem.run_bind]at e;cases hs:s.run P w with
 |ok u w2=>simp_all
 |halt x w2=>simp_all
theorem ky(x:Halt):∀w v w1,(.halt x:Sem α).run P w≠ .ok v w1:=fun w v w1 e=>by simp_all
theorem qZ(e:RuntimeError):∀w v w1,(runtimePanic e:Sem α).run P w≠ .ok v w1:=by
 unfold runtimePanic;refine Zp fun p=> ?_
 dsimp only;split<;>first
  |exact ky _
  |exact Zp fun _=>Zp fun _=>ky _
  |exact Zp fun _=>ky _
theorem WF.bounds(k:IntKind)(x y:Int)(c:BoundsCode):WF P (boundsPanic k x y c:Sem α):=WF.AA6 (by
 grind[boundsPanic,Zp,qZ])
theorem WF.part(t:TypeId)(cs:Array Value)(o:Nat):WF P (part t cs o):=WF.bind (WF.isAgg t) fun b=>by
 split
 ·grind[WF.bind,WF.sizeOf,WF.pure]
 ·split
  ·exact WF.pure _
  ·exact WF.halt _
theorem WF.field(t:TypeId)(x:Value)(f:Nat):WF P (Instr.field t x f):=WF.bind (WF.underlying t) fun d=>by
 split
 ·split
  ·grind[WF.bind,WF.asAgg,WF.part]
  ·exact WF.halt _
 ·exact WF.halt _
theorem WF.indexAt(t:TypeId)(x i:Value):WF P (Instr.indexAt t x i):=WF.bind (WF.asIntOf i) fun q=>by
 obtain⟨k,i⟩:=q;dsimp only;refine WF.bind (WF.underlying t) fun d=> ?_
 have rest:∀q:Option Addr×Nat×TypeId,WF P (do
   let d<-Go.underlying t
   match q.1 with
   |some a=>
    if 0<=i/\i<(q.2.1:Int)then do
     let s<-Go.sizeOf q.2.2
     Pure.pure (Value.pointer (some (a.add (i.toNat*s))))
    else if(decide (q.2.1<=1)&&(match d with| .array .. =>true|_=>false))=true then unsupported (.noEntry "op/indexAddr.an index out of range at an array of length 0 or 1 (ledger 616)")
    else boundsPanic k i q.2.1 .index
   |none=>boundsPanic k i 0 .index:Sem Value):=fun q=>by
  refine WF.bind (WF.underlying t) fun d=> ?_
  split
  ·split
   ·grind[WF.bind,WF.sizeOf,WF.pure]
   ·repeat' split
    all_goals first|exact WF.halt _|exact WF.bounds _ _ _ _
  grind[WF.bounds]
 split
 ·exact WF.bind (WF.sureAddr _) fun _=>WF.bind (WF.pure _) fun q=>rest q
 ·exact WF.bind (WF.pure _) fun q=>rest q
 ·exact WF.bind (WF.halt _) fun q=>rest q
theorem WF.index(t:TypeId)(x i:Value):WF P (Instr.index t x i):=WF.bind (WF.asIntOf i) fun q=>by
 obtain⟨k,i⟩:=q;dsimp only;refine WF.bind (WF.underlying t) fun d=> ?_
 split
 ·grind[WF.bind,WF.sizeOf,WF.part,WF.bounds]
 ·grind[WF.pure,WF.bounds]
 ·exact WF.halt _
theorem WF.extract(x:Value)(i:Nat):WF P (Instr.extract x i):=by
 unfold Instr.extract;split
 ·split
  ·exact WF.pure _
  ·exact WF.halt _
 ·exact WF.halt _
theorem WF.sliceBound(x:Value)(y:Nat)(c:BoundsCode):WF P (Instr.sliceBound x y c):=WF.bind (WF.asIntOf x) fun q=>by
 grind[WF.pure,WF.bounds]
theorem WF.sliceBounds(b:Bool)(len cap:Nat)(l h:Option Value):WF P (Instr.sliceBounds b len cap l h none):=by
 cases h with
 |none=>
  cases l with
  |none=>exact WF.bind (WF.pure _) fun _=>WF.bind (WF.pure _) fun _=>WF.bind (WF.pure _) fun _=>WF.pure _
  |some l=>exact WF.bind (WF.pure _) fun _=>WF.bind (WF.pure _) fun _=>WF.bind (WF.sliceBound _ _ _) fun _=>WF.pure _
 |some h=>
  cases l with
  |none=>exact WF.bind (WF.pure _) fun _=>WF.bind (WF.sliceBound _ _ _) fun _=>WF.bind (WF.pure _) fun _=>WF.pure _
  |some l=>exact WF.bind (WF.pure _) fun _=>WF.bind (WF.sliceBound _ _ _) fun _=>WF.bind (WF.sliceBound _ _ _) fun _=>WF.pure _
theorem WF.asAddr(v:Value):WF P (asAddr v):=by
 unfold Go.asAddr;split
 ·exact WF.pure _
 ·exact WF.AA6 (qZ _)
 ·exact WF.halt _
theorem WF.slice(t:TypeId)(x:Value)(l h:Option Value):WF P (Instr.slice t x l h none):=WF.bind (WF.underlying t) fun d=>by
 split
 ·grind[WF.bind,WF.sliceBounds,WF.pure]
 ·grind[WF.bind,WF.sliceBounds,WF.sizeOf,WF.pure]
 ·refine WF.bind (WF.asAddr _) fun _=>WF.bind (WF.underlying _) fun d=> ?_
  split
  ·grind[WF.bind,WF.sliceBounds,WF.sizeOf,WF.pure]
  ·exact WF.halt _
 ·exact WF.halt _
theorem WF.sliceAt(t:TypeId)(x:Value)(l h:Option Value):WF P (Instr.sliceAt t x l h none):=WF.bind (WF.underlying t) fun d=>by
 grind[WF.bind,WF.sureAddr,WF.sliceBounds,WF.sizeOf,WF.pure,WF.slice]
theorem WF.wm{f:α->Sem β}(h:∀x,WF P (f x)):∀l:List α,WF P (l.mapM f)
 |[]=>WF.pure _
 |x::l=>by
  rw[AVz];exact WF.bind (h x) fun _=>WF.bind (WF.wm h l) fun _=>WF.pure _
theorem WF.mapM{f:α->Sem β}(h:∀x,WF P (f x))(a:Array α):WF P (a.mapM f):=by
 rw[Array.mapM_eq_mapM_toList,<-bind_pure_comp];grind[WF.bind,WF.wm,WF.pure]
theorem WF.build(t:TypeId)(ps:Array (Nat×Value)):WF P (Instr.build t ps):=WF.bind (WF.zeroValue t) fun z=>by
 refine WF.bind (WF.underlying t) fun d=> ?_
 split
 ·refine WF.bind (WF.mapM (fun f=>WF.bind (WF.sizeOf _) fun _=>WF.pure _) _) fun _=> ?_
  split
  ·exact WF.pure _
  ·exact WF.halt _
 ·refine WF.bind (WF.sizeOf _) fun _=> ?_
  split
  ·exact WF.pure _
  ·exact WF.halt _
 ·exact WF.halt _
end
end Go.Fw
end
section
namespace Go.Fw
def Kof(hint:ABy)(E:Env)(w:World)(bx:List Bx)(c:Nat):Prop:=E.T c\/ ∃n B,n∈hint/\bx[n]? =some B/\BRB E w n B c
def uB(K:Nat->Prop)(w w':World):Prop:= ∀c,K c->w'.heap[c]? =w.heap[c]?
theorem AEV{w:World}{B:Nat->Prop}:∀{p:List Yu} {r:Ty} {h:Value} {rows:List r.D} {q:Ty} {ys:List q.D} {bb o len cap i:Nat},Rd w B (.sl r) [h] rows->DC r rows p->G8 r rows p=some ⟨q,ys⟩->
  JC w h p=some (.slice (some ⟨bb,o,none⟩) len cap)->i<ys.length->RB w (.sl r) [h] rows bb
 |[],r,h,rows,q,ys,bb,o,len,cap,i,hr,hp,hg,hh,hi=>by
  rw[C1]at hh;cases hh;simp only[G8,AKX,AL1]at hg;obtain⟨rfl,hg⟩:=hg;obtain rfl:=AOs hg;simp only[RB];grind
 |s::p,r,h,rows,q,ys,bb,o,len,cap,i,hr,hp,hg,hh,hi=>by
  simp only[DC]at hp;obtain⟨hsi,LP,hp⟩:=hp;simp only[Rd]at hr;obtain⟨a,cap',e1,_,hr⟩:=hr;obtain rfl:=(ARH e1).1;rcases hr with hr|⟨b',o',rfl,hb,hr⟩
  ·omega
  obtain⟨cs,hl,hc,hrow⟩:=hr s.i _ (Si hsi);simp only[G8]at hg;split at hg
  case h_2=>cases hg
  rename_i q' x kf;rw[kf]at hp;dsimp only at hp;obtain⟨v,hv,hrv⟩:=iu hrow kf;have hcv:=hc _ _ hv;rw[<-LP]at hcv;simp only[JC,hcv]at hh;have:=AEV hrv hp hg hh hi;simp only[RB];refine⟨b',o',_,cap',rfl,by omega,.inr ⟨s.i,_,cs,Si hsi,hl,hc,?_⟩⟩;clear hc hcv e1 hr;exact RB_cell hrow kf hv this
where
 RB_cell {w:World} {B:Nat->Prop} {c:Nat}:∀{r:Ty} {cs:List Value} {x:r.D} {j:Nat} {t:Ty} {y:t.D} {v:Value},Rd w B r cs x->BV r j x=some ⟨t,y⟩->cs[j]? =some v->RB w t [v] y c->RB w r cs x c
 | .cons c r,cs,x,0,t,y,v,h,e,hv,k=>by
  simp only[Rd]at h;obtain⟨u,l,rfl,h1,h2⟩:=h;simp only[BV,AKX,AL1]at e;obtain⟨rfl,e⟩:=e;obtain rfl:=AOs e;simp at hv;subst hv;simp only[RB];grind
 | .cons c r,cs,x,j+1,t,y,v,h,e,hv,k=>by
  simp only[Rd]at h;obtain⟨u,l,rfl,h1,h2⟩:=h;simp only[BV]at e;have:=RB_cell h2 e (by simp_all) k;simp only[RB];grind
 | .int k,cs,x,0,t,y,v,h,e,hv,k' =>by
  simp only[BV,AKX,AL1]at e;obtain⟨rfl,_⟩:=e;simp[RB]at k'
 | .bool,cs,x,0,t,y,v,h,e,hv,k' =>by
  simp only[BV,AKX,AL1]at e;obtain⟨rfl,_⟩:=e;simp[RB]at k'
 | .str,cs,x,0,t,y,v,h,e,hv,k' =>by
  simp only[BV,AKX,AL1]at e;obtain⟨rfl,_⟩:=e;simp[RB]at k'
 | .sl r,cs,x,0,t,y,v,h,e,hv,k=>by
  simp only[BV,AKX,AL1]at e;obtain⟨rfl,e⟩:=e;obtain rfl:=AOs e;have hl:=oD h;simp only[Ty.n]at hl;obtain⟨u,rfl⟩:=List.length_eq_one_iff.1 hl;simp_all
 | .unit,_,_,_,_,_,_,_,e,_,_=>by simp[BV]at e
 | .int _,_,_,_+1,_,_,_,_,e,_,_=>by simp[BV]at e
 | .bool,_,_,_+1,_,_,_,_,e,_,_=>by simp[BV]at e
 | .str,_,_,_+1,_,_,_,_,e,_,_=>by simp[BV]at e
 | .sl _,_,_,_+1,_,_,_,_,e,_,_=>by simp[BV]at e
section
variable{P:Program} {T:Jr} (hT:Eb P T) {E:Env} {w:World}
include hT
theorem xy{σ:St}{Fs:List ABy}(hB:OD E w σ.bx σ.bx Fs)(st:∀c,E.S c->E.T c){t:Nat}{x:AV}{z:XV}(e:pv T t σ (.c x)=some z){v:Value}(hx:VR E w σ.bx x v):
  ∃bb oo u y,v= .pointer (some ⟨bb,oo,none⟩)/\Ju σ.bx x 0=some y/\XR E w σ.bx z u/\ ∀w',w'.heap[bb]? =w.heap[bb]?->(Instr.loadAt t v).run P w' = .ok u w':=by
 unfold pv at e;split at e
 case h_2=>cases e
 rename_i x' ti vW Wq;cases vW;split at e
 case isTrue=>cases e
 rename_i LP;have mn:=fun w=>Eb.isAgg hT Wq w
 split at e
 ·rename_i ha
  simp only[AKm]at e;obtain⟨l,hl,rfl⟩:=e;obtain⟨h1,h2⟩:=ea hl;have h0:0<l.length:=by omega
  obtain⟨b,o,u,hv,_,_⟩:=MB hB st (h2 0 _ (AKT h0)) hx;obtain⟨cs,c1,c2,c3⟩:=gi hB st hx hv (l:=l) (j:=0) (fun i y hy=>by simp_all);subst hv;have lx:=(hT t ti Wq).und;cases hd:ti.desc with
  |st fs=>
   rw[hd]at lx;obtain⟨fields,hu,_⟩:=lx;refine⟨b,o,.agg cs.toArray,_,rfl,by simpa using h2 0 _ (AKT h0),⟨cs.toArray,rfl,by omega⟩,fun w' hw=>run_loadAt_mid w' b o t cs _ (by have:=c2.of_block hw;grind[Bg,World.rangeAt]) hu rfl ?_⟩;grind[Eb.size]
  |_=>grind[TD.agg]
 ·rename_i ha
  simp only[AMv]at ha;simp only[AKm]at e;obtain⟨y,hy,rfl⟩:=e;obtain⟨b,o,u,hv,hc,hr⟩:=MB hB st hy hx;subst hv;refine⟨b,o,u,y,rfl,hy,hr,fun w' hw=> ?_⟩;have AK_:=mn w';rw[ha]at AK_;simp only[ART]at hc;have gO:w'.cell? ⟨b,o,none⟩=some u:=by grind[World.cell?_of_block]
  simp[Instr.loadAt,Instr.sureAddr,loadVar,AK_,gO]
end
theorem ABK{E E':Env}{w w':World}{vw vw':List Bx}{t:Ty}{x:t.D}{v:Value}(h:VR E w vw (.v t x) v):VR E' w' vw' (.v t x) v:=by
 obtain⟨h1,h2⟩:=h;refine⟨h1,?_⟩;cases t<;>simp_all[Ty.scalar,Rd]
theorem lZ{E E':Env}{w w':World}{vw vw':List Bx}{t:Ty}{x:t.D}{v u:Value}(h:VR E w vw (.v t x) v)(k:VR E' w' vw' (.v t x) u):v=u:=by
 obtain⟨h1,h2⟩:=h;obtain⟨_,k2⟩:=k;cases t<;>simp_all[Ty.scalar,Rd]
def nX(x:XV):Prop:=(∃t z,x= .c (.v t z))\/(∃l,x= .agg l/\ ∀c∈l,∃t z,c= .v t z)
theorem NH{E E':Env}{w w':World}{vw vw':List Bx}{x:XV}{v:Value}(hp:nX x)(h:XR E w vw x v):XR E' w' vw' x v:=by
 rcases hp with⟨t,z,rfl⟩|⟨l,rfl,hl⟩
 ·exact ABK (E:=E) (w:=w) (vw:=vw) (E':=E') (w':=w') (vw':=vw') h
 ·obtain⟨vs,rfl,Xe⟩:=h
  refine⟨vs,rfl,?_⟩
  generalize vs.toList=m at Xe
  induction l generalizing m with
  |nil=>cases m with
   |nil=>trivial
   |cons _ _=>exact Xe.elim
  |cons c l ih=>cases m with
   |nil=>exact Xe.elim
   |cons u m=>
    obtain⟨t,z,rfl⟩:=hl c (by simp);exact⟨ABK Xe.1,ih (fun c hc=>hl c (by simp[hc])) m Xe.2⟩
theorem zB{d:TD}{x z:AV}{p:Bool}(e:uw d x z=some p):(∃t y,x= .v t y)/\ ∃t y,z= .v t y:=by
 unfold uw at e;grind
theorem cA{T:Jr}:∀{i:Nat} {fs:List AEG} {l m:List AV} {r:Bool},Lc T i fs l m=some r->(∀c∈l,∃t z,c= .v t z)/\ ∀c∈m,∃t z,c= .v t z
 |i,[],[],[],r,e=>by simp
 |i,(o,t)::fs,x::l,z::m,r,e=>by
  simp only[Lc]at e;split at e
  case isFalse=>cases e
  split at e
  case h_2=>cases e
  split at e
  case h_2=>cases e
  rename_i p hp;simp only[AKm]at e;obtain⟨r',e1,_⟩:=e;obtain⟨a1,a2⟩:=zB hp;obtain⟨b1,b2⟩:=cA e1;simp_all
 |_,[],[],_::_,_,e=>by simp[Lc]at e
 |_,[],_::_,_,_,e=>by simp[Lc]at e
 |_,_::_,[],_,_,e=>by simp[Lc]at e
 |_,_::_,_::_,[],_,e=>by simp[Lc]at e
theorem AJW{op:BinOp}{κ:IntKind}{a b:Int}{r:AV}(e:jl op κ a b some=some r):∃t x,r= .v t x:=by
 cases op<;>simp only[jl,AKX]at e<;>first
  |exact⟨_,_,e.symm⟩
  |(grind)
  |cases e
theorem AFa{op:BinOp}{κ:IntKind}{a b:Int}{r:AV}(e:bj op κ a b some=some r):∃t x,r= .v t x:=by
 unfold bj at e;grind
theorem AKn{op:BinOp}{a b:ABF}{r:AV}(e:mj op a b some=some r):∃t x,r= .v t x:=by
 cases op<;>simp only[mj,AKX]at e<;>first
  |exact⟨_,_,e.symm⟩
  |(
   split at e
   all_goals grind)
  |cases e
theorem AQF{T:Jr}{t:Nat}{op:BinOp}{a b:XV}{r:AV}(e:ABM T t op a b some=some r):(∃t x,r= .v t x)/\nX a/\nX b:=by
 unfold ABM at e;split at e
 ·refine⟨?_,.inl ⟨_,_,rfl⟩,.inl ⟨_,_,rfl⟩⟩
  grind[AFa,AJW]
 ·exact⟨AKn e,.inl ⟨_,_,rfl⟩,.inl ⟨_,_,rfl⟩⟩
 ·refine⟨?_,.inl ⟨_,_,rfl⟩,.inl ⟨_,_,rfl⟩⟩
  grind
 ·split at e
  ·rename_i hq
   rw[ALU]at hq;obtain⟨fs,_,hq⟩:=hq;obtain⟨q1,q2⟩:=cA hq;cases e;exact⟨⟨_,_,rfl⟩,.inr ⟨_,rfl,q1⟩,.inr ⟨_,rfl,q2⟩⟩
  ·rename_i hq
   rw[ALU]at hq;obtain⟨fs,_,hq⟩:=hq;obtain⟨q1,q2⟩:=cA hq;cases e;exact⟨⟨_,_,rfl⟩,.inr ⟨_,rfl,q1⟩,.inr ⟨_,rfl,q2⟩⟩
  simp_all
 simp_all
theorem AIW{g:Bool}{a b:XV}{r:AV}(e:zH g a b some=some r):(∃t x,r= .v t x)/\nX a/\nX b:=by
 unfold zH at e;split at e
 ·refine⟨?_,.inl ⟨_,_,rfl⟩,.inl ⟨_,_,rfl⟩⟩
  grind
 simp_all
theorem ATQ{op:UnOp}{a:XV}{r:AV}(e:unX op a some=some r):(∃t x,r= .v t x)/\nX a:=by
 unfold unX at e;split at e
 ·cases e;exact⟨⟨_,_,rfl⟩,.inl ⟨_,_,rfl⟩⟩
 ·cases e;exact⟨⟨_,_,rfl⟩,.inl ⟨_,_,rfl⟩⟩
 simp_all
section
variable{Y:Type} {P:Program} {T:Jr} (hT:Eb P T) {Γ:Nat->Option RU} {o:Oper} {E:Env} {σ:St} {a:Act} {w:World} {k:K Y} {y:Y}
include hT
theorem AFg(h:Rel E σ a w){t:TypeId}(ps:Array (Nat×Operand)){s b:Nat}{fs:List AEG}{rw:Option Ty}(Wq:T.get t=some ⟨s,b,.st fs,rw⟩){r:Ty}(hr:T.mJ t=some r)
  {cs:List AV} (hb:kN T fs (eL r) (ps.toList.map fun q=>(q.1,σ.ev q.2))=some cs):
  ∃Ku,(∀w',(Instr.build t (ps.map fun(i,x)=>(i,a.eval x))).run P w' = .ok (.agg Ku) w')/\mo E w σ.bx cs Ku.toList:=by
 obtain⟨i,z,h1,h2,h3,_⟩:=row_zero hT hr;obtain⟨fields,hu,hfs,LP⟩:=AJn hT Wq;obtain⟨Ku,f1,f2⟩:=fJ hT (sn h ps) (arr:=z.cells) (by grind[bK]) hb;refine⟨Ku,fun w' => ?_,f2⟩;have hb:P.built t (ps.map fun(i,x)=>(i,a.eval x)).toList=some Ku:=by
  unfold Program.built;simp only[h1,hu,h2];have hm:fields.toList.mapM (fun f=>(P.info? f.type).map fun i=>(f.offset,i.size))=some (fields.toList.map fun f=>(f.offset,((P.info? f.type).map (·.size)).getD 0)):=by
   grind[uV]
  simp only[hm];rw[<-f1];congr 1;funext n;subst hfs;simp only[List.getElem?_toArray,AOR];cases hn:fields.toList[n]? with
  |none=>simp
  |some f=>
   obtain⟨i',Dc,_⟩:=LP f (AMU hn);simp[Dc]
 grind[run_build]
theorem ADg{hint:ABy}(h:Rel E σ a w)(hq:ld hint σ o.op=true)(e:Z6 T Γ o σ k=some y):
  ∃v x,XR E w σ.bx x v/\k x σ=some y/\ ∀w',uB (Kof hint E w σ.bx) w w'->(execOp a.eval o).run P w' = .ok (.value v) w':=by
 obtain⟨Fs,hB,hS⟩:=h.bx;have st:=hS.st;have wf:∀{s:Sem Value} {v:Value},WF P s->s.run P w= .ok v w-> ∀w',s.run P w' = .ok v w':=fun h1 h2 w' =>h1 w _ w h2 w'
 unfold Z6 at e;split at e
 ·rename_i x ho
  exact⟨a.eval x,_,h.ev x,e,fun w' _=>by grind[execOp,Sem.run_pure]⟩
 ·rename_i x ho
  unfold eU at e;split at e
  ·grind[ld]
  ·exact⟨a.eval x,_,h.ev x,e,fun w' _=>by grind[execOp,Sem.run_pure]⟩
 ·rename_i c xa xb ho
  split at e
  case h_2=>cases e
  rename_i p hp;have hc:=h.ev c;rw[hp]at hc;have gO:=UO (E:=E) (w:=w) (vw:=σ.bx) hc;refine⟨if p then a.eval xa else a.eval xb,if p then σ.ev xa else σ.ev xb,by cases p<;>simp[h.ev],by grind[AGG],fun w' _=>by simp[execOp,ho,gO,asBool]⟩
 ·rename_i t ho;rw[ho]at hq;cases hq
 ·rename_i t x ho;rw[ho]at hq;cases hq
 ·rename_i t ps ho
  split at e
  case h_2=>cases e
  rename_i s b fs rw r Wq hr;split at e
  case h_2=>cases e
  rename_i cs zr;obtain⟨Ku,h1,h2⟩:=AFg hT h ps Wq hr zr;exact⟨.agg Ku,.agg cs,⟨Ku,rfl,h2⟩,e,fun w' _=>by grind[execOp,Sem.run_bind,Result.andThen_ok,Sem.run_pure]⟩
 ·rename_i t n ps ho;rw[ho]at hq;cases hq
 ·rename_i t x ho
  rw[ho]at hq;split at e
  case h_2=>cases e
  rename_i z hz;have hv:=h.ev x;simp only[ld]at hq
  generalize hX:σ.ev x=X at hq hv hz
  cases X with
  |agg l=>cases hq
  |L8 l=>cases hq
  |c ad=>
   obtain⟨bb,oo,u,cell,hp,hc,h2,h3⟩:=xy hT hB st hz hv;refine⟨u,z,h2,e,fun w' pt=> ?_⟩;have hbb:w'.heap[bb]? =w.heap[bb]?:=by
    refine pt bb ?_
    have aj:VR E w σ.bx ad (a.eval x):=hv;cases ad with
    |Ir b j=>
     simp only[ki,ARY]at hq;simp only[Ju]at hc;split at hc
     ·rename_i cs hb
      refine .inr ⟨b,_,hq,hb,?_⟩;have:=aj.2;rw[hp]at this;simp only[Value.pointer.injEq,AKX,Addr.mk.injEq]at this;exact this.1
     simp_all
    |J5 b p i sz j=>
     simp only[ki,ARY]at hq;simp only[Ju]at hc;split at hc
     ·rename_i d q rows hb
      refine .inr ⟨b,_,hq,hb,?_⟩;simp only[VR,hb]at aj;obtain⟨_,hpp,q1,ys,b2,o2,len,cap,g1,g2,g3,g4⟩:=aj;rw[hp]at g4;simp only[Value.pointer.injEq,AKX,Addr.mk.injEq]at g4;obtain⟨rfl,_⟩:=g4;obtain⟨F,⟨_,ho2⟩,_⟩:=hB.get hb;exact AEV (ZY ho2) hpp g1 g3 g2
     simp_all
    |Qf s r z j=>
     obtain⟨b2,o2,cs,g1,g2,_⟩:=aj;rw[hp]at g1;simp only[Value.pointer.injEq,AKX,Addr.mk.injEq]at g1;obtain⟨rfl,_⟩:=g1
     left
     grind
    |_=>cases hq
   grind[execOp,Sem.run_bind,Result.andThen_ok,Sem.run_pure]
 ·rename_i t xa xx ho;rw[ho]at hq;cases hq
 ·rename_i x ho
  have hx:=h.ev x;split at e
  ·rename_i b j hp
   rw[hp]at hx;have vW:b<σ.bx.length/\a.eval x= .pointer (some ⟨E.IG b,j,none⟩):=hx;grind[execOp,Sem.run_pure]
  ·rename_i b p i sz j hp
   rw[hp]at hx;have hpt:fz (a.eval x)=true:=hx.1;grind[fz,execOp,Sem.run_pure]
  ·rename_i s r z j hp
   rw[hp]at hx;obtain⟨bb,oo,cs,hv,hrest⟩:=hx;exact⟨a.eval x,.c (.Qf s r z j),⟨bb,oo,cs,hv,hrest⟩,e,fun w' _=>by grind[execOp,Sem.run_pure]⟩
  ·rename_i f K4 hp
   rw[hp]at hx;have vW:(∀b∈K4,b<σ.bx.length)/\a.eval x= .func (.func f) #[] (K4.map fun b=>Value.pointer (some ⟨E.IG b,0,none⟩)).toArray:=hx;grind[execOp,Sem.run_pure]
  simp_all
 ·rename_i op t x z s ho
  rw[tJ,ALU]at e;obtain⟨r,e1,e⟩:=e;obtain⟨⟨t',x',rfl⟩,p1,p2⟩:=AQF e1;obtain⟨r0,val,h1,h2,h3⟩:=jx hT e1 (h.ev x) (h.ev z) x z;cases h1;refine⟨val,.c (.v t' x'),h3,e,fun w' _=> ?_⟩;obtain⟨r1,val',g1,g2,g3⟩:=jx hT e1 (NH (E':=E) (w':=w') (vw':=σ.bx) p1 (h.ev x)) (NH p2 (h.ev z)) x z;cases g1;have:=lZ h3 g3;subst this;simp only[execOp,ho,Sem.run_bind];simp_all
 ·rename_i op t x ho
  rw[yW,ALU]at e;obtain⟨r,e1,e⟩:=e;obtain⟨⟨t',x',rfl⟩,p1⟩:=ATQ e1;obtain⟨r0,val,h1,h2,h3⟩:=o6 (P:=P) e1 (h.ev x);cases h1;refine⟨val,.c (.v t' x'),h3,e,fun w' _=> ?_⟩;obtain⟨r1,val',g1,g2,g3⟩:=o6 (P:=P) e1 (NH (E':=E) (w':=w') (vw':=σ.bx) p1 (h.ev x));grind[lZ,execOp,Sem.run_bind,Result.andThen_ok,Sem.run_pure]
 ·rename_i s d x ho;rw[ho]at hq;cases hq
 ·rename_i f first K4 ho;rw[ho]at hq;cases hq
 ·rename_i t l c ho;rw[ho]at hq;cases hq
 ·rename_i t x lo hi ho
  obtain⟨z,val,h1,h2,h3⟩:=mT hT hB st e (h.ev x) (AD9 h lo) (AD9 h hi);exact⟨val,z,h3,h1,fun w' _=>by simp only[execOp,ho,Option.map_none,Sem.run_bind,wf (WF.sliceAt _ _ _ _) h2 w',Result.andThen_ok,Sem.run_pure]⟩
 ·rename_i t x f ho
  split at e
  case h_2=>cases e
  rename_i z hz;obtain⟨u,h1,h2⟩:=mi hT hz (h.ev x);refine⟨u,z,h2,e,fun w' _=> ?_⟩;have hw:(Instr.fieldAt t (a.eval x) f).run P w' = .ok u w':=by
   have hx:=h.ev x;unfold yB at hz;split at hz
   case h_2=>cases hz
   rename_i s b fs _ Wq;split at hz
   case h_2=>cases hz
   rename_i o' u' hf;have key:∀ad,a.eval x= .pointer (some ad)->(Instr.fieldAt t (a.eval x) f).run P w' = .ok u w':=by
    intro ad had;rw[had]at h1|-;have r1:=XI hT (w:=w) Wq hf (a:=ad);grind[XI]
   split at hz
   ·rename_i b' j hp
    rw[hp]at hx;exact key _ hx.2
   ·rename_i b' p i sz j hp
    rw[hp]at hx;have hpt:fz (a.eval x)=true:=hx.1;unfold fz at hpt;grind
   ·rename_i s r y' j hp
    rw[hp]at hx;obtain⟨bb,oo,cs,hv,_⟩:=hx;simp_all
   simp_all
  grind[execOp,Sem.run_bind,Result.andThen_ok,Sem.run_pure]
 ·rename_i t x f ho
  split at e
  case h_2=>cases e
  rename_i z hz;obtain⟨u,h1,h2⟩:=qD hT hz (h.ev x);exact⟨u,z,h2,e,fun w' _=>by simp only[execOp,ho,Sem.run_bind,wf (WF.field _ _ _) h1 w',Result.andThen_ok,Sem.run_pure]⟩
 ·rename_i t x i ho
  obtain⟨z,val,h1,h2,h3⟩:=mA hT hB st e (h.ev x) (h.ev i);exact⟨val,z,h3,h1,fun w' _=>by simp only[execOp,ho,Sem.run_bind,wf (WF.indexAt _ _ _) h2 w',Result.andThen_ok,Sem.run_pure]⟩
 ·rename_i t x i ho
  obtain⟨z,val,h1,h2,h3⟩:=fk hT e (h.ev x) (h.ev i);exact⟨val,z,h3,h1,fun w' _=>by simp only[execOp,ho,Sem.run_bind,wf (WF.index _ _ _) h2 w',Result.andThen_ok,Sem.run_pure]⟩
 ·rename_i x i ho
  split at e
  case h_2=>cases e
  rename_i z hz;obtain⟨u,h1,h2⟩:=gX (P:=P) hz (h.ev x);exact⟨u,z,h2,e,fun w' _=>by simp only[execOp,ho,Sem.run_bind,wf (WF.extract _ _) h1 w',Result.andThen_ok,Sem.run_pure]⟩
 ·rename_i f args vk ho;rw[ho]at hq;cases hq
 ·rename_i args vk ho
  split at e
  ·rename_i s t Io hts
   obtain⟨x,rfl,hx⟩:=ZF Io;have hv:=h.ev x;rw[hx]at hv;have aj:=Y_ (E:=E) (w:=w) (vw:=σ.bx) hv;split at e
   case isFalse=>cases e
   rename_i hs;have hu:=ZS hT hs;refine⟨.int .i64 (s.length:Int),.c (.v (.int .i64) (s.length:Int)),VR.int (E:=E) (vw:=σ.bx) _ _,e,fun w' _=> ?_⟩;have LP:(⟨s.toArray⟩:ByteArray).size=s.length:=by rfl
   simp[execOp,ho,resolve,invoke,builtin,Builtin.len_,hts,aj,Be hu,goInt,LP]
  ·rename_i z t _ Io hts
   obtain⟨x,rfl,hx⟩:=ZF Io;have hv:=h.ev x;rw[hx]at hv;split at e
   case isFalse=>cases e
   rename_i hs;split at e
   case h_2=>cases e
   rename_i n hn;obtain⟨el,hu⟩:=pV hT hs;obtain⟨ad,cap,aj⟩:=qF hB st hn hv;refine⟨.int .i64 (n:Int),.c (.v (.int .i64) (n:Int)),VR.int (E:=E) (vw:=σ.bx) _ _,e,fun w' _=> ?_⟩;simp[execOp,ho,resolve,invoke,builtin,Builtin.len_,hts,aj,Be hu,goInt]
  simp_all
 ·rename_i args vk ho;rw[ho]at hq;cases hq
 ·rename_i args vk ho;rw[ho]at hq;cases hq
 ·rename_i args vk ho
  split at e
  case h_2=>cases e
  rename_i x1 x2 Io;obtain⟨o1,o2,rfl,hx1,hx2⟩:=ZL Io;have gH:=h.ev o1;have dR:=h.ev o2;rw[hx1]at gH;rw[hx2]at dR;rw[dC,ALU]at e;obtain⟨r,e1,e⟩:=e;obtain⟨⟨t',x',rfl⟩,p1,p2⟩:=AIW e1;obtain⟨r0,val,h1,h2,h3⟩:=VQ (P:=P) (big:=true) e1 gH dR vk #[] o.type;cases h1;refine⟨val,.c (.v t' x'),h3,e,fun w' _=> ?_⟩;obtain⟨r1,val',g1,g2,g3⟩:=VQ (P:=P) (big:=true) e1 (NH (E':=E) (w':=w') (vw':=σ.bx) p1 gH) (NH p2 dR) vk #[] o.type;cases g1;have:=lZ h3 g3;subst this;simp only[AQY]at g2;simp[execOp,ho,resolve,invoke,builtin,g2]
 ·rename_i args vk ho
  split at e
  case h_2=>cases e
  rename_i x1 x2 Io;obtain⟨o1,o2,rfl,hx1,hx2⟩:=ZL Io;have gH:=h.ev o1;have dR:=h.ev o2;rw[hx1]at gH;rw[hx2]at dR;rw[dC,ALU]at e;obtain⟨r,e1,e⟩:=e;obtain⟨⟨t',x',rfl⟩,p1,p2⟩:=AIW e1;obtain⟨r0,val,h1,h2,h3⟩:=VQ (P:=P) (big:=false) e1 gH dR vk #[] o.type;cases h1;refine⟨val,.c (.v t' x'),h3,e,fun w' _=> ?_⟩;obtain⟨r1,val',g1,g2,g3⟩:=VQ (P:=P) (big:=false) e1 (NH (E':=E) (w':=w') (vw':=σ.bx) p1 gH) (NH p2 dR) vk #[] o.type;cases g1;have:=lZ h3 g3;subst this;simp only[ALY,ANX]at g2;simp[execOp,ho,resolve,invoke,builtin,g2]
 simp_all
end
end Go.Fw
end
section
namespace Go.Fw
section
variable{P:Program} {md:Region.Mode} {ops:Array Oper} {Q:Exit->Act->World->Prop}
theorem uB.refl(K:Nat->Prop)(w:World):uB K w w:=fun _ _=>rfl
def zu(P:Program)(md:Region.Mode)(ops:Array Oper)(Q:Exit->Act->World->Prop):Nat->Array Bool->(Nat->Prop)->Act->World->Prop
 |0,listed,_,a,w=>Region.ready md ops listed=[]/\Q .normal a w
 |fuel+1,listed,K,a,w=>(Region.ready md ops listed=[]->Q .normal a w)/\
  ∀i∈Region.ready md ops listed,wpOp P ops Q i (fun a' w' => ∃K':Nat->Prop,(∀c,K c->K' c)/\uB K w w'/\zu P md ops Q fuel (listed.setIfInBounds i true) K' a' w') a w
theorem xE:∀(fuel:Nat) (listed:Array Bool) (K:Nat->Prop) (a:Act) (w:World),zu P md ops Q fuel listed K a w->wpAny P md ops Q fuel listed a w
 |0,_,_,_,_,h=>h
 |fuel+1,_,_,_,_,h=>⟨h.1,fun i hi=>wpOp_mono (fun a' w' ⟨K',_,_,h'⟩=>xE fuel _ K' a' w' h') (h.2 i hi)⟩
theorem YieldsIf.mono{S S':World->Prop}{o:Oper}{v:Value}{a:Act}(h:YieldsIf P ops S o v a)(hs:∀w,S' w->S w):YieldsIf P ops S' o v a:=
 h.imp (fun⟨h1,h2⟩=>⟨h1,fun w hw=>h2 w (hs w hw)⟩) id
theorem pg{i:Nat}{oi:Oper}{v:Value}(hi:ops[i]? =some oi)(AGd:∀(j:Nat) (o:Oper) cs b,ops[j]? =some o->o.op≠ .select cs b)(hQ:∀c a w,¬Q (.panic c) a w):
  ∀(fuel:Nat) (listed:Array Bool) (K:Nat->Prop) (a:Act) (w:World),
   (∀j oj,ops[j]? =some oj->j≠i->listed.getD j true=false->(∀e∈oj.after,Region.binds md e=true->e.on≠i)->oi.apart ops oj=true)->
   i∈Region.ready md ops listed->YieldsIf P ops (uB K w) oi v a->zu P md ops Q fuel (listed.setIfInBounds i true) K (a.put oi.dst v) w->zu P md ops Q (fuel+1) listed K a w:=by
 intro fuel
 induction fuel with
 |zero=>
  intro listed K a w _ hr hy H;refine⟨fun h=>(by simp_all),fun j hj=> ?_⟩;by_cases hji:j=i
  ·subst hji;exact hy.wpOp hi (uB.refl K w) ⟨K,fun _ h=>h,uB.refl K w,H⟩
  ·have:=ready_mono hj hji
   rw[H.1]at this;cases this
 |succ fuel ih=>
  intro listed K a w Wz hr hy H;refine⟨fun h=>(by simp_all),fun j hj=> ?_⟩;by_cases hji:j=i
  ·subst hji;exact hy.wpOp hi (uB.refl K w) ⟨K,fun _ h=>h,uB.refl K w,H⟩
  ·have h1:=H.2 j (ready_mono hj hji)
   obtain⟨hjun,oj,hoj,ZM⟩:=mem_ready.1 hj;have AR0:∀e∈oj.after,Region.binds md e=true->e.on≠i:=fun e he hb heq=>by
    grind[mem_ready,Nat.lt_or_ge,Array.getElem?_eq_none]
   have h2:=wpOp_putIf hoj (Wz j oj hoj hji hjun AR0) (fun cs b=>AGd i oi cs b hi) (fun cs b=>AGd j oj cs b hoj) (fun c a w h=>absurd h (hQ c _ w)) hy h1;have AOy:∀k ok,ops[k]? =some ok->k≠i->(listed.setIfInBounds j true).getD k true=false->
     (∀e∈ok.after,Region.binds md e=true->e.on≠i)->oi.apart ops ok=true:=fun k ok hk hki hun hno=>by
    refine Wz k ok hk hki ?_ hno
    by_cases hjk:j=k
    all_goals simp_all
   refine wpOp_mono (fun a' w' h3=> ?_) h2;obtain⟨hy',K',hK,hs,ht⟩:=h3;refine⟨K',hK,hs,ih (listed.setIfInBounds j true) K' a' w' AOy (ready_mono hr (Ne.symm hji)) (YieldsIf.mono hy' fun w'' AaU c hc=>(AaU c (hK c hc)).trans (hs c hc)) ?_⟩;grind[Array.setIfInBounds_comm]
end
theorem qK{Y:Type}{f:Nat->List Bool->Option Y}{y:Y}:∀{rs:ABy},(∀ω,yP f rs ω=some y)-> ∀i∈rs,∀ω,f i ω=some y
 |[i],h,j,hj,ω=>by
  simp at hj;subst hj;exact h ω
 |i::j::r,h,k,hk,ω=>by
  rcases ANC.1 hk with rfl|hk
  ·exact h (true::ω)
  ·exact qK (rs:=j::r) (fun ω=>h (false::ω)) k hk ω
theorem ABk{σ:St}{t:Nat}{b:Bool}(e:σ.tm[t]? =some (.c (.v .bool b))):σ.put (some t) (.c (.v .bool b))=σ:=by
 simp only[St.put];obtain⟨tm,bx⟩:=σ;simp only[St.mk.injEq,AQ6];obtain⟨Ix,he⟩:=AK1.1 e;apply ASy;grind
theorem xQ{Y I:Type}[Nonempty I]{C:eD}{ops:Array Oper}{o:Oper}{kn:I->St->Option Y}{σ:St}{y:Y}{E:Env}{a:Act}{w:World}(h:Rel E σ a w)
  (e:∀ω,AEP C ops o (kn ω) σ=some y):
  (Region.wanted o (yielded ops a.tmps)=true/\ ∀ω,(Z6 C.T C.Γ o σ fun x σ' =>kn ω (σ'.put o.dst x))=some y)\/
  (Region.wanted o (yielded ops a.tmps)=false/\ ∀ω,kn ω (σ.put o.dst (.L8 []))=some y):=by
 unfold AEP at e;cases hg:o.guard with
 |none=>
  simp only[hg]at e;grind[Region.wanted]
 |some q=>
  obtain⟨j,want⟩:=q;simp only[hg]at e;cases ht:(ops[j]?).bind (·.dst)with
  |none=>
   simp_all
  |some t=>
   simp only[ht]at e;obtain⟨i0⟩:= ‹Nonempty I›;have e0:=e i0;split at e0
   ·rename_i b hb
    simp only[hb]at e;obtain⟨v,hv,hx⟩:=h.tmp hb;have hvb:=UO (E:=E) (w:=w) (vw:=σ.bx) hx;subst hvb;have hy:yielded ops a.tmps j=some b:=by rw[eT ht hv];rfl
    have hk:=ABk hb;cases b with
    |true=>
     simp only[ALg,tt,hk]at e;cases want with
     |true=>grind[Region.wanted]
     |false=>grind[Region.wanted]
    |false=>
     simp only[AKp,ff,hk]at e;cases want with
     |true=>grind[Region.wanted]
     |false=>grind[Region.wanted]
   ·rename_i hb
    simp only[hb]at e;obtain⟨v,hv,vs,rfl,hx⟩:=h.tmp hb;grind[yielded,eT,Region.wanted]
   simp_all
theorem AIA{ops:Array Oper}{o:Oper}{σ:St}{E:Env}{a:Act}{w:World}(h:Rel E σ a w)(e:idle ops σ o=true):Region.wanted o (yielded ops a.tmps)=false:=by
 unfold idle at e;cases hg:o.guard with
 |none=>simp_all
 |some q=>
  obtain⟨j,want⟩:=q;simp only[hg]at e;cases ht:(ops[j]?).bind (·.dst)with
  |none=>simp_all
  |some t=>
   simp only[ht]at e;split at e
   ·rename_i b hb
    obtain⟨v,hv,hx⟩:=h.tmp hb;have hvb:=UO (E:=E) (w:=w) (vw:=σ.bx) hx;grind[yielded,eT,Region.wanted]
   ·rename_i hb
    obtain⟨v,hv,vs,rfl,hx⟩:=h.tmp hb;grind[yielded,eT,Region.wanted]
   simp_all
theorem xj{Y I:Type}[Nonempty I]{C:eD}{ops:Array Oper}{i:Nat}{o:Oper}(ho:ops[i]? =some o){kn:I->St->Option Y}{σ:St}{y:Y}{E:Env}{a:Act}{w:World}(h:Rel E σ a w)
  (e:∀ω,AEa C ops i (kn ω) σ=some y):
  (Region.wanted o (yielded ops a.tmps)=true/\ ∀ω,(Z6 C.T C.Γ o σ fun x σ' =>kn ω (σ'.put o.dst x))=some y)\/
  (Region.wanted o (yielded ops a.tmps)=false/\ ∀ω,kn ω (σ.put o.dst (.L8 []))=some y):=
 xQ h fun ω=>by
  have:=e ω;unfold AEa at this;simpa only[ho]using this
theorem AHI{hint t:ABy}{E E':Env}{bx R0:List Bx}{w w':World}(h:S5 t E bx w E' R0 w')(ht:∀b∈t,b∉hint)(ha:∀b∈hint,oC R0 b=false):
  (∀c,Kof hint E w bx c->Kof hint E' w' R0 c)/\uB (Kof hint E w bx) w w':=by
 have key:∀n B,n∈hint->bx[n]? =some B-> ∃B',R0[n]? =some B'/\XZ B B'/\ ∀c,BRB E w n B c->w'.heap[c]? =w.heap[c]?:=by
  intro n B hn hB;have hd:=ha n hn;unfold oC at hd;split at hd
  ·cases hd
  ·rename_i B' aO Vp
   obtain⟨h1,h2⟩:=h.frame n B B' (fun hm=>ht n hm hn) hB Vp aO;simp_all
  simp_all
 refine⟨fun c hc=> ?_,fun c hc=> ?_⟩
 ·rcases hc with hc|⟨n,B,hn,hB,hc⟩
  ·exact .inl (h.base.T c hc)
  ·obtain⟨B',Vp,hs,hh⟩:=key n B hn hB
   have hid:=h.ids n (AK1.1 hB).1;refine .inr ⟨n,B',hn,Vp,?_⟩;cases B with
   |mem cs=>
    cases B' with
    |mem iO=>grind[BRB]
    |sl _ _ _=>exact hs.elim
    |dead=>exact hs.elim
   |sl d r rows=>
    cases B' with
    |mem iO=>exact hs.elim
    |dead=>exact hs.elim
    |sl d' r' rows' =>
     simp only[XZ,AL1]at hs;obtain⟨rfl,hs⟩:=hs;obtain rfl:=AOs hs;grind[BRB,sF]
   |dead=>exact hc.elim
 ·rcases hc with hc|⟨n,B,hn,hB,hc⟩
  ·exact h.base.heap c hc
  grind
theorem cW{Y:Type}{C:eD}{hint:ABy}{ops:Array Oper}{kn:List Bool->St->Option Y}{fuel:Nat}{listed:Array Bool}{ω:List Bool}{σ:St}{y:Y}(e:WI C hint ops kn fuel listed ω σ=some y):∀b∈hint,oC σ.bx b=false:=by
 grind[WI,List.all_eq_true]
theorem yM{Y:Type}{P:Program}{C:eD}(hT:Eb P C.T)(hΓ:lB P C.Γ){E0:Env}{w0:World}{N nb:Nat}{hint:ABy}{ops:Array Oper}{kn:List Bool->St->Option Y}{y:Y}{Q:Exit->Act->World->Prop}
  (AGd:Region.noSelect ops=true) (hP:∀c a w,¬Q (.panic c) a w) (hk:∀E σ a w,Ok E0 w0 N nb E σ a w->(∀ω,kn ω σ=some y)->Q .normal a w):
  ∀(fuel:Nat) {listed:Array Bool} {E:Env} {σ:St} {a:Act} {w:World},Ok E0 w0 N nb E σ a w->(∀ω,WI C hint ops kn fuel listed ω σ=some y)->zu P .any ops Q fuel listed (Kof hint E w σ.bx) a w:=by
 intro fuel
 induction fuel with
 |zero=>
  intro listed E σ a w h e;have e1:=fun ω=>e ω
  unfold WI at e1;have hal:=cW (e []);have AQa:(hint.all fun b=> !oC σ.bx b)=true:=ARM.2 fun b hb=>by simp_all
  simp only[AQa,AQY]at e1;cases hr:Region.ready .any ops listed with
  |nil=>
   simp only[hr]at e1;exact⟨hr,hk E σ a w h e1⟩
  |cons i rs=>
   simp_all
 |succ fuel ih=>
  intro listed E σ a w h e;have e1:=fun ω=>e ω
  unfold WI at e1;have hal:=cW (e []);have AQa:(hint.all fun b=> !oC σ.bx b)=true:=ARM.2 fun b hb=>by simp_all
  simp only[AQa,AQY]at e1;cases hr:Region.ready .any ops listed with
  |nil=>
   simp only[hr]at e1;exact⟨fun _=>hk E σ a w h e1,by simp_all⟩
  |cons i0 rs=>
   simp only[hr]at e1;cases hf:(i0::rs).find? (uq hint ops listed σ)with
   |some i=>
    simp only[hf]at e1;have hi:=AVT hf;have ht:=List.find?_some hf
    unfold uq at ht;cases ho:ops[i]? with
    |none=>simp_all
    |some o=>
     simp only[ho,ALJ]at ht;have Wz:=Region.free_spec ho ht.2;rw[<-hr]at hi;have hy:=xj (I:=List Bool) (kn:=fun ω σ' =>WI C hint ops kn fuel (listed.setIfInBounds i true) ω σ') ho h.rel e1;rcases hy with⟨hw,hx⟩|⟨hw,hx⟩
     ·have hq:ld hint σ o.op=true:=by
       rcases AQd _ _▸ht.1 with hq|hi
       ·omega
       ·rw[AIA h.rel hi]at hw
        cases hw
      obtain⟨x,σ',hx0,hx1⟩:=pR hx;obtain⟨v,x',q1,q2,q3⟩:=ADg hT h.rel hq hx0;simp only[k0,AKX,APF]at q2;obtain⟨rfl,rfl⟩:=q2;have mQ:=ih (h.put o.dst q1) hx1;have zk:(σ.put o.dst x').bx=σ.bx:=by cases o.dst<;>rfl
      rw[zk]at mQ;exact pg ho (Region.noSelect_spec AGd) hP fuel listed _ a w Wz hi (.inl ⟨hw,q3⟩) mQ
     ·have mQ:=ih (h.put o.dst tg) hx
      have zk:(σ.put o.dst (.L8 [])).bx=σ.bx:=by cases o.dst<;>rfl
      rw[zk]at mQ;exact pg ho (Region.noSelect_spec AGd) hP fuel listed _ a w Wz hi (.inr ⟨hw,rfl⟩) mQ
   |none=>
    simp only[hf]at e1;have ZM:=qK e1;refine⟨fun h0=>(by simp_all),fun i hi=> ?_⟩;rw[hr]at hi;have hx:=ZM i hi;cases ho:ops[i]? with
    |none=>
     simp_all
    |some o=>
     simp only[ho]at hx;have htc:(Kz C.Γ σ o.op).all (fun b=> !hint.contains b)=true:=by
      have:=hx [];simp_all
     simp only[htc,AQY]at hx;have htn:∀b∈Kz C.Γ σ o.op,b∉hint:=fun b hb hh=>by
      simp_all
     unfold wpOp;simp only[ho];rcases xj (I:=List Bool) (kn:=fun ω σ' =>WI C hint ops kn fuel (listed.setIfInBounds i true) ω σ') ho h.rel hx with⟨hw,hx⟩|⟨hw,hx⟩
     ·rw[AJe hw]
      obtain⟨x,σ',hx0,hx1⟩:=pR hx;refine .inl (ADq hT hΓ h.rel hx0 fun v w' E' x' σ'' g1 g2 g3 g4 g5=> ?_);simp only[k0,AKX,APF]at g5;obtain⟨rfl,rfl⟩:=g5;have zk:(σ''.put o.dst x').bx=σ''.bx:=by cases o.dst<;>rfl
      have ATC:=cW (hx1 []);rw[zk]at ATC;obtain⟨k1,k2⟩:=AHI g3 htn ATC;have mQ:=ih ((h.next g1 g3 g4).put o.dst g2) hx1;grind
     ·rw[AJk (by simp[hw])]
      have mQ:=ih (h.put o.dst tg) hx;have zk:(σ.put o.dst (.L8 [])).bx=σ.bx:=by cases o.dst<;>rfl
      grind[uB.refl]
end Go.Fw
end
section
namespace Go.Fw
theorem Rel.heap{E:Env}{σ:St}{a:Act}{w w':World}(h:Rel E σ a w)(hw:w'.heap=w.heap):Rel E σ a w':=by
 have keep:Um E w σ.bx E w' σ.bx:=by
  refine⟨AMN _,fun _ _=>rfl,fun _ h=>h,fun _ h=>h,h.bx.st,fun _ _=>by rw[hw],fun b d r rows hb e=>⟨d,rows,e,fun p hp q ys hg=>⟨hp,⟨ys,hg,rfl⟩,fun hh he=> ?_⟩⟩⟩;obtain⟨Fs,⟨f1,f2⟩,_⟩:=h.bx;have hF:Fs[b]? =some (Fs[b]'(by have:=(AK1.1 e).1;omega)):=AKT _;exact zX (f2 b _ _ e hF).2 (fun _ _=>by rw[hw]) (fun _ _=>by rw[hw]) hp hg he
 exact⟨h.OS,h.tm.imp fun _ _ hx=>QR keep hx,h.bx.turn (fun _ _ hv=>GQ keep hv) (fun _ h=>h) (fun _ _=>rfl) (fun _ _=>rfl) (fun _ _ _=>by rw[hw]) fun F hF=>⟨hF.nodup,hF.free,fun c hc=>by rw[hw];exact hF.lt c hc,hF.st,fun c hc=>by rw[hw];exact hF.eG c hc,hF.vz.mono (fun _ h=>h) (fun _ _=>by rw[hw])⟩⟩
theorem Ok.drawn{E0 E:Env}{w0 w:World}{N nb:Nat}{σ:St}{a:Act}(h:Ok E0 w0 N nb E σ a w)(n:Nat):Ok E0 w0 N nb E σ a { w with drawn:=n }:=
 ⟨h.rel.heap rfl,⟨h.base.T,h.base.S,h.base.Tof,h.base.Sof,h.base.heap,h.base.os,h.base.tape,h.base.output,h.base.size⟩,h.tm,h.sd,h.ids⟩
theorem pP{Y I:Type}[Nonempty I]{P:Program}{C:eD}(hT:Eb P C.T)(hΓ:lB P C.Γ){E0:Env}{w0:World}{N nb:Nat}{all:Array Oper}{kn:I->St->Option Y}{y:Y}{Q:Exit->Act->World->Prop}
  (hk:∀E σ a w,Ok E0 w0 N nb E σ a w->(∀ω,kn ω σ=some y)->Q .normal a w):∀{l:List Oper} {E:Env} {σ:St} {a:Act} {w:World},Ok E0 w0 N nb E σ a w->(∀ω,y7 C all l (kn ω) σ=some y)->wpList P all Q l a w
 |[],E,σ,a,w,h,e=>hk E σ a w h e
 |o::rest,E,σ,a,w,h,e=>by
  unfold wpList;rcases xQ (kn:=fun ω σ=>y7 C all rest (kn ω) σ) h.rel e with⟨hw,hx⟩|⟨hw,hx⟩
  ·rw[AJe hw]
   obtain⟨x,σ',hx0,hx1⟩:=pR hx;refine .inl (ADq hT hΓ h.rel hx0 fun v w' E' x' σ'' g1 g2 g3 g4 g5=> ?_);simp only[k0,AKX,APF]at g5;obtain⟨rfl,rfl⟩:=g5;exact pP hT hΓ hk ((h.next g1 g3 g4).put o.dst g2) hx1
  ·rw[AJk (by simp[hw])]
   exact pP hT hΓ hk (h.put o.dst tg) hx
def Pg(P:Program)(body:Code)(Q:Exit->Act->World->Prop)(a:Act)(w:World):Prop:=
 ∀(b:Frame) (k:List Item) (cs:List Frame),∃e a' w',Q e a' w'/\Arrives P (lone (b.at a (.code body:: .inLoop body::k)) cs w) b k cs e a' w'
theorem Pg.wp{P:Program}{body:Code}{Q:Exit->Act->World->Prop}{a:Act}{w:World}(h:Pg P body Q a w):(Code.loop body).wp P Q a w:=fun b k cs=>by
 obtain⟨e,a',w',hq,gP⟩:=h b k cs;exact⟨e,a',w',hq,.of_steps (.one step_loop) gP⟩
theorem Pg.AKf{P:Program}{body:Code}{Q:Exit->Act->World->Prop}{a:Act}{w:World}(h:body.wp P (Exit.then (Pg P body Q) Q) a w):Pg P body Q a w:=fun b k cs=>by
 obtain⟨e,a₁,w₁,hq,gP⟩:=h b (.inLoop body::k) cs;cases e with
 |normal=>
  obtain⟨e₂,a₂,w₂,hq₂,harr₂⟩:=hq b k cs;exact⟨e₂,a₂,w₂,hq₂,.of_steps (Steps.trans gP (.one step_inLoop)) harr₂⟩
 |exit id=>exact⟨_,a₁,w₁,hq,.pass (x:= .inLoop body) rfl (fun _ _=> .inl (by simp)) gP⟩
 |goto l=>exact⟨_,a₁,w₁,hq,.pass (x:= .inLoop body) rfl (fun _ _=> .inl (by simp)) gP⟩
 |ret=>exact⟨_,a₁,w₁,hq,.pass (x:= .inLoop body) rfl (fun _ _=> .inl (by simp)) gP⟩
 |panic ch=>exact⟨_,a₁,w₁,hq,.pass (x:= .inLoop body) rfl (fun _ _=> .inl (by simp)) gP⟩
 |outgrown=>exact⟨_,a₁,w₁,hq,.pass (x:= .inLoop body) rfl (fun _ _=> .inl (by simp)) gP⟩
abbrev oF:=Exit->Act->World->Prop
def At(P:Program):Code->oF->Nat->Code->oF->Prop
 | .seq a b,Q,ℓ,body,Q' =>At P a (Exit.then (b.wp P Q) Q) ℓ body Q'\/At P b Q ℓ body Q'
 | .cond _ a b,Q,ℓ,body,Q' =>At P a Q ℓ body Q'\/At P b Q ℓ body Q'
 | .block id c,Q,ℓ,body,Q' =>At P c (Exit.inBlock id Q) ℓ body Q'
 | .loop c,Q,ℓ,body,Q' =>(first c= ℓ /\body=c/\Q' =Q)\/At P c (Exit.then (Pg P c Q) Q) ℓ body Q'
 |_,_,_,_,_=>False
def iA(Q:oF):Prop:= ∀c a w,¬Q (.panic c) a w
theorem iA.then{Q:oF}(h:iA Q)(n:Act->World->Prop):iA (Exit.then n Q):=fun c a w hq=>h c a w hq
theorem iA.inBlock{Q:oF}(h:iA Q)(id:Nat):iA (Exit.inBlock id Q):=fun c a w hq=>h c a w hq
section
variable{Y:Type} {P:Program} {C:eD} (hT:Eb P C.T) (hΓ:lB P C.Γ) (hm:P.follows .mixedOrders=true) {E0:Env} {w0:World} {N nb:Nat} {y:Y} {J:Nat->St->Option Y}
structure Good (E0:Env) (w0:World) (N nb:Nat) (y:Y) (kn:KN Y) (kx:Nat->KN Y) (kr:KN Y) (Q:oF):Prop where
 n:∀E σ a w,Ok E0 w0 N nb E σ a w->(∀ω,kn ω σ=some y)->Q .normal a w
 x:∀id E σ a w,Ok E0 w0 N nb E σ a w->(∀ω,kx id ω σ=some y)->Q (.exit id) a w
 r:∀E σ a w,Ok E0 w0 N nb E σ a w->(∀ω,kr ω σ=some y)->Q .ret a w
def JOk(P:Program)(E0:Env)(w0:World)(N nb:Nat)(y:Y)(J:Nat->St->Option Y)(cd:Code)(Q:oF):Prop:=
 ∀ ℓ body Q',At P cd Q ℓ body Q'-> ∀E σ a w,Ok E0 w0 N nb E σ a w->J ℓ σ=some y->Pg P body Q' a w
include hT hΓ hm in
theorem ACU:∀{cd:Code} {kn:KN Y} {kx:Nat->KN Y} {kr:KN Y} {Q:oF} {E:Env} {σ:St} {a:Act} {w:World},iA Q->Good E0 w0 N nb y kn kx kr Q->JOk P E0 w0 N nb y J cd Q->Ok E0 w0 N nb E σ a w->
  (∀ω,run C J cd kn kx kr ω σ=some y)->cd.wp P Q a w:=by
 intro cd
 induction cd with
 |skip=>intro kn kx kr Q E σ a w hp hg hj h e;exact wp_skip (hg.n E σ a w h e)
 |region id ops draw=>
  intro kn kx kr Q E σ a w hp hg hj h e;simp only[run]at e;cases draw with
  |false=>
   simp only[ALY,ANX]at e;exact wp_region_list (pP hT hΓ hg.n h e)
  |true=>
   simp only[AQY]at e;have hs:Region.noSelect ops=true:=by
    have:=e [];split at this
    ·rename_i hh;exact hh
    ·cases this
   simp only[hs,AQY]at e;exact wp_region_any hm (xE _ _ _ _ _ (yM hT hΓ hs hp hg.n _ (h.drawn _) e))
 |seq x z ihx ihz=>
  intro kn kx kr Q E σ a w hp hg hj h e;simp only[run]at e;refine wp_seq (ihx (hp.then _) ⟨fun E σ a w h e=>ihz hp hg (fun ℓ body Q' S8=>hj ℓ body Q' (.inr S8)) h e,fun id E σ a w h e=>hg.x id E σ a w h e,hg.r⟩ (fun ℓ body Q' S8=>hj ℓ body Q' (.inl S8)) h e)
 |cond c x z ihx ihz=>
  intro kn kx kr Q E σ a w hp hg hj h e;cases c with
  |tmp t=>
   simp only[run]at e;have e0:=e [];split at e0
   ·rename_i b hb
    simp only[hb]at e;obtain⟨v,hv,hx⟩:=h.rel.tmp hb;have hvb:=UO (E:=E) (w:=w) (vw:=σ.bx) hx;subst hvb;have hev:a.eval (.tmp t)= .bool b:=by simp[Act.eval,AUZ,hv]
    have hk:=ABk hb;cases b with
    |true=>
     simp only[ALg,tt,hk]at e;exact wp_cond_true hev (ihx hp hg (fun ℓ body Q' S8=>hj ℓ body Q' (.inl S8)) h e)
    |false=>
     simp only[AKp,ff,hk]at e;exact wp_cond_false hev (ihz hp hg (fun ℓ body Q' S8=>hj ℓ body Q' (.inr S8)) h e)
   ·cases e0
  |_=>cases e []
 |block id c ih=>
  intro kn kx kr Q E σ a w hp hg hj h e;simp only[run]at e;refine wp_block (ih (hp.inBlock id) ⟨hg.n,fun j E σ a w h e=> ?_,hg.r⟩ (fun ℓ body Q' S8=>hj ℓ body Q' S8) h e);simp only[Exit.inBlock];split
  ·rename_i hid
   simp only[hid,AQY]at e;exact hg.n E σ a w h e
  ·rename_i hid
   simp only[hid,ANX]at e;exact hg.x j E σ a w h e
 |loop body ih=>
  intro kn kx kr Q E σ a w hp hg hj h e;simp only[run]at e;exact Pg.wp (hj (first body) body Q (.inl ⟨rfl,rfl,rfl⟩) E σ a w h (e []))
 |exit id=>intro kn kx kr Q E σ a w hp hg hj h e;exact wp_exit (hg.x id E σ a w h e)
 |ret=>intro kn kx kr Q E σ a w hp hg hj h e;exact wp_ret (hg.r E σ a w h e)
 |_=>intro kn kx kr Q E σ a w hp hg hj h e;cases e []
end
end Go.Fw
end
section
namespace Go.Fw
def labels:Code->List Nat
 | .seq a b=>labels a++labels b
 | .cond _ a b=>labels a++labels b
 | .block _ c=>labels c
 | .loop c=>first c::labels c
 |_=>[]
theorem At.label{P:Program}:∀{cd:Code} {Q:oF} {ℓ :Nat} {body:Code} {Q':oF},At P cd Q ℓ body Q'-> ℓ ∈labels cd
 | .seq a b,Q,ℓ,body,Q',h=>by
  simp only[labels,AMt];exact h.imp At.label At.label
 | .cond _ a b,Q,ℓ,body,Q',h=>by
  simp only[labels,AMt];exact h.imp At.label At.label
 | .block _ c,Q,ℓ,body,Q',h=>At.label (cd:=c) h
 | .loop c,Q,ℓ,body,Q',h=>by
  simp only[labels,ANC];exact h.imp (fun h=>h.1.symm) At.label
section
variable{Y:Type} {P:Program} {C:eD} (hT:Eb P C.T) (hΓ:lB P C.Γ) (hm:P.follows .mixedOrders=true) {E0:Env} {w0:World} {N nb:Nat} {y:Y} {J:Nat->St->Option Y}
theorem Sg{ℓ :Nat}:∀{cd:Code} {kn:KN Y} {kx:Nat->KN Y} {kr:KN Y},ℓ ∉labels cd->find C J ℓ cd kn kx kr=none
 | .seq a b,kn,kx,kr,h=>by
  simp only[labels,AMt,AV2]at h;simp only[find];rw[Sg h.1];exact Sg h.2
 | .cond _ a b,kn,kx,kr,h=>by
  simp only[labels,AMt,AV2]at h;simp only[find];rw[Sg h.1];exact Sg h.2
 | .block _ c,kn,kx,kr,h=>by simp only[find];exact Sg (cd:=c) h
 | .loop c,kn,kx,kr,h=>by
  simp only[labels,ANC,AV2]at h;simp only[find];rw[AJk (fun e=>h.1 e.symm)];exact Sg h.2
 | .skip,_,_,_,_=>rfl
 | .region _ _ _,_,_,_,_=>rfl
 | .rangeFunc _ _ _ _,_,_,_,_=>rfl
 | .exit _,_,_,_,_=>rfl
 | .scope _,_,_,_,_=>rfl
 | .label _,_,_,_,_=>rfl
 | .goto _,_,_,_,_=>rfl
 | .ret,_,_,_,_=>rfl
 | .refuse _,_,_,_,_=>rfl
include hT hΓ hm in
theorem AKl{ℓ :Nat}:∀{cd:Code} {kn:KN Y} {kx:Nat->KN Y} {kr:KN Y} {Q:oF} {body:Code} {Q':oF},(labels cd).Nodup->iA Q->Good E0 w0 N nb y kn kx kr Q->JOk P E0 w0 N nb y J cd Q->At P cd Q ℓ body Q'->
  ∃kn' kx' kr',find C J ℓ cd kn kx kr=some (fun ω σ=>run C J body (fun _ σ=>J ℓ σ) kx' kr' ω σ)/\Good E0 w0 N nb y kn' kx' kr' Q'/\iA Q'/\JOk P E0 w0 N nb y J body (Exit.then (Pg P body Q') Q'):=by
 intro cd
 induction cd with
 |seq a b iha ihb=>
  intro kn kx kr Q body Q' hn hp hg hj S8;simp only[labels,AL8]at hn;obtain⟨n1,n2,n3⟩:=hn;have hja:JOk P E0 w0 N nb y J a (Exit.then (b.wp P Q) Q):=fun ℓ body Q' S8=>hj ℓ body Q' (.inl S8)
  have hjb:JOk P E0 w0 N nb y J b Q:=fun ℓ body Q' S8=>hj ℓ body Q' (.inr S8)
  simp only[find];rcases S8 with S8|S8
  ·obtain⟨kn',kx',kr',h1,h2⟩:=iha n1 (hp.then _) (kn:=fun ω σ=>run C J b kn kx kr ω σ) (kx:=kx) (kr:=kr)
    ⟨fun E σ a w h e=>ACU hT hΓ hm hp hg hjb h e,fun id E σ a w h e=>hg.x id E σ a w h e,hg.r⟩ hja S8
   exact⟨kn',kx',kr',by rw[h1],h2⟩
  ·have: ℓ ∉labels a:=fun h=>n3 ℓ h ℓ S8.label rfl
   rw[Sg this];exact ihb n2 hp hg hjb S8
 |cond c a b iha ihb=>
  intro kn kx kr Q body Q' hn hp hg hj S8;simp only[labels,AL8]at hn;obtain⟨n1,n2,n3⟩:=hn;simp only[find];rcases S8 with S8|S8
  ·obtain⟨kn',kx',kr',h1,h2⟩:=iha n1 hp hg (fun ℓ body Q' S8=>hj ℓ body Q' (.inl S8)) S8
   exact⟨kn',kx',kr',by rw[h1],h2⟩
  ·have: ℓ ∉labels a:=fun h=>n3 ℓ h ℓ S8.label rfl
   rw[Sg this];exact ihb n2 hp hg (fun ℓ body Q' S8=>hj ℓ body Q' (.inr S8)) S8
 |block id c ih=>
  intro kn kx kr Q body Q' hn hp hg hj S8;simp only[find];refine ih hn (hp.inBlock id) ⟨hg.n,fun j E σ a w h e=> ?_,hg.r⟩ (fun ℓ body Q' S8=>hj ℓ body Q' S8) S8;simp only[Exit.inBlock];split
  ·rename_i hid
   simp only[hid,AQY]at e;exact hg.n E σ a w h e
  ·rename_i hid
   simp only[hid,ANX]at e;exact hg.x j E σ a w h e
 |loop c ih=>
  intro kn kx kr Q body Q' hn hp hg hj S8;simp only[labels,AUT]at hn;have hj':JOk P E0 w0 N nb y J c (Exit.then (Pg P c Q) Q):=fun ℓ body Q' S8=>hj ℓ body Q' (.inr S8)
  simp only[find];by_cases hl:first c= ℓ
  ·rw[AJe hl]
   rcases S8 with⟨_,rfl,rfl⟩|S8
   ·exact⟨kn,kx,kr,rfl,hg,hp,hj'⟩
   ·exact absurd (hl▸S8.label) hn.1
  ·rw[AJk hl]
   rcases S8 with⟨h,_⟩|S8
   ·exact absurd h hl
   ·exact ih hn.2 (hp.then _) ⟨fun E σ a w h e=>hj (first c) c Q (.inl ⟨rfl,rfl,rfl⟩) E σ a w h (e []),fun id E σ a w h e=>hg.x id E σ a w h e,hg.r⟩ hj' S8
 |_=>intro kn kx kr Q body Q' hn hp hg hj S8;exact S8.elim
end
theorem mw{E:Env}{w:World}{vw:List Bx}:∀{l:List (Nat×XP)} {x:GU.V l} {vals:List Value} {tm:List XV},NK E w vw id l x vals->Cc (XR E w vw) tm vals->Cc (XR E w vw) (GU.mk id l x tm) vals
 |[],_,_,_,_,h=>h
 |(i,p)::l,x,vals,tm,hs,h=>by
  obtain⟨⟨v,hv,hx⟩,hs⟩:=hs;simp only[GU.mk];refine mw hs ?_
  have:=Cc.set (i:=i) h hx;have e:vals.set i v=vals:=by
   apply ASy;grind
  simp_all
theorem Cc.undef{E:Env}{w:World}{vw:List Bx}:∀{vals:List Value} {n:Nat},n=vals.length->Cc (XR E w vw) (List.replicate n (.c .undef)) vals
 |[],n,h=>by subst h;trivial
 |v::vals,n,h=>by
  subst h;simp only[AMK,AVs];exact⟨trivial,Cc.undef rfl⟩
theorem zc.shared{E E1:Env}{w:World}{bx:List Bx}{m:Qr}{s:Bb}{x:s.V}{vals:List Value}(h:zc E w bx m s x vals E1)(hb:C2 E w bx bx []):
  ∃E2,E2.IG=E1.IG/\E2.IF=E1.IF/\gb E w E2 w/\C2 E2 w (Jg.mk id s.GV x.2) (Jg.mk id s.GV x.2) []/\NK E2 w (Jg.mk id s.GV x.2) id s.D1 x.1 vals:=by
 obtain⟨Fk,k1,k2,k3,k4⟩:=h.rest
 let E2:Env:={ E1 with S:=fun c=>E1.S c\/c∈Fk.flatten }
 have st1:=h.boxes.st;have keep:Um E1 w (Jg.mk id s.GV x.2) E2 w (Jg.mk id s.GV x.2):=
  ⟨AMN _,fun _ _=>rfl,fun _ h=>h,fun _ h=> .inl h,st1,fun _ _=>rfl,fun b d r rows _ e=>⟨d,rows,e,fun p hp q ys hg=>⟨hp,⟨ys,hg,rfl⟩,fun _ h=>h⟩⟩⟩
 refine⟨E2,rfl,rfl,⟨h.T,fun c hc=> .inl (h.S c hc),fun c hc=> ?_,fun c hc=> ?_,fun _ _=>rfl,rfl,rfl,rfl,AMN _⟩,?_,?_⟩
 ·rcases k4 c hc with h|h|h
  ·exact .inl h
  ·exact .inr (.inl h)
  ·exact .inr (.inr h)
 ·rcases hc with hc|hc
  ·exact h.Sof c hc
  ·exact .inr (k3 c hc).1
 ·refine h.boxes.turn (E':=E2) (w':=w) (fun _ _ hv=>GQ keep hv) (fun _ h=> .inl h) (fun _ _=>rfl) (fun _ _=>rfl) (fun _ _ _=>rfl) fun F hF=>⟨hF.nodup,hF.free,hF.lt,fun c hc=>hc.elim (hF.st c) fun h=>(k3 c h).2.2.2,hF.eG,hF.vz.mono (fun _ h=>h) (fun _ _=>rfl)⟩
 ·have:∀{l:List (Nat×XP)} {z:GU.V l},NK E1 w (Jg.mk id s.GV x.2) id l z vals->NK E2 w (Jg.mk id s.GV x.2) id l z vals:=by
   intro l
   induction l with
   |nil=>intro z h;trivial
   |cons q l ih=>
    obtain⟨i,p⟩:=q;intro z h;obtain⟨⟨v,hv,hx⟩,hs⟩:=h;exact⟨⟨v,hv,QR keep hx⟩,ih hs⟩
  exact this h.D1
theorem kj:∀{l:List BP} {i n:Nat},(Vj i n l).length=l.length
 |[],_,_=>rfl
 |_::l,i,n=>by simp[Vj,kj (l:=l)]
theorem k_:∀{l:List BP} {i n k b:Nat},(Vj i n l)[k]? =some (some b)->b=i+k/\b<n/\l[k]?≠some .gone
 |[],i,n,k,b,h=>by simp[Vj]at h
 |p::l,i,n,0,b,h=>by
  grind[Vj,List.getElem?_cons_zero,Option.some.injEq]
 |p::l,i,n,k+1,b,h=>by
  simp only[Vj,AVc]at h;obtain⟨h1,h2,h3⟩:=k_ h;grind
theorem kg:∀{l:List BP} {i n k:Nat} {p:BP},l[k]? =some p->p≠ .gone->i+k<n->(Vj i n l)[k]? =some (some (i+k))
 |q::l,i,n,0,p,h,hg,hn=>by
  simp at h;subst h;simp only[Vj,List.getElem?_cons_zero,AKX];simp_all
 |q::l,i,n,k+1,p,h,hg,hn=>by
  simp only[Vj,AVc];rw[kg (l:=l) (i:=i+1) (k:=k) (by simp_all) hg (by omega)];grind
 |[],_,_,_,_,h,_,_=>by simp at h
theorem uJ{l:List BP}{n:Nat}:ue (Vj 0 n l):=fun i j b h k=>by
 have:=(k_ h).1;have:=(k_ k).1;omega
end Go.Fw
end
section
namespace Go.Fw
structure ATr (P:Program) (f:Nat) (fn:Func) (c:RU):Prop where
 at_:P.funcs[f]? =some fn
 call:∀args w,(callFunc f args).run P w= .ok (.enter f args) w
 con:c.ok=true
 tmps:c.ins.D1.length<=fn.ntmps
 labels:∀code,fn.body=some code->(labels code).Nodup
section
variable{P:Program} {C:eD} (hT:Eb P C.T) {E:Env} {σ:St} {a:Act} {w:World}
include hT in
theorem AIL(h:Rel E σ a w):
  ∀{rs:List ResultVar} {xs:List XV},rs.mapM (AIk C.T σ)=some xs-> ∃vs,(∀f:ResultVar->Sem Value,(∀u,f (.tmp u)=pure (a.tmps.getD u undef))->(∀b t,f (.cell b t)=(do loadVar t (<-asAddr (a.tmps.getD b undef))))->
   (rs.mapM f).run P w= .ok vs w)/\Cc (XR E w σ.bx) xs vs:=by
 intro rs
 induction rs with
 |nil=>
  intro xs e;have hx:xs=[]:=by simpa using e.symm
  subst hx;exact⟨[],fun f _ _=>by simp,trivial⟩
 |cons r rs ih=>
  intro xs e;rw[AVz]at e;simp only[Option.bind_eq_bind,ALU,Option.pure_def,AKX]at e;obtain⟨x,e1,ys,e2,rfl⟩:=e;obtain⟨vs,h1,h2⟩:=ih e2;have one:∃v,(∀f:ResultVar->Sem Value,(∀u,f (.tmp u)=pure (a.tmps.getD u undef))->(∀b t,f (.cell b t)=(do loadVar t (<-asAddr (a.tmps.getD b undef))))->(f r).run P w= .ok v w)/\XR E w σ.bx x v:=by
   cases r with
   |tmp t=>
    simp only[AIk]at e1;obtain⟨v,hv,hx⟩:=h.tmp e1;refine⟨v,fun f hf hc=> ?_,hx⟩;rw[hf];simp[AUZ,hv]
   |cell b t=>
    simp only[AIk]at e1;split at e1
    case h_2=>cases e1
    rename_i z hz;obtain⟨v,hv,hx⟩:=h.tmp hz;obtain⟨Fs,hB,hS⟩:=h.bx;cases z with
    |agg l=>simp[pv]at e1
    |L8 l=>simp[pv]at e1
    |c ad=>
     obtain⟨bb,oo,u,cell,hp,_,q2,q3⟩:=xy hT hB hS.st e1 hx;refine⟨u,fun f hf hc=> ?_,q2⟩;have hgd:a.tmps.getD b undef=v:=by simp[AUZ,hv]
     have:=q3 w rfl;rw[hc,hgd,hp];rw[hp]at this;simpa[Instr.loadAt,Instr.sureAddr,asAddr]using this
  obtain⟨v,g1,g2⟩:=one;refine⟨v::vs,fun f hf hc=> ?_,g2,h2⟩;rw[AVz];simp[g1 f hf hc,h1 f hf hc]
theorem kZ{vw:List Bx}:∀{l:List XV} {q:List (AV ⊕ List AV)} {vs:List Value},ABg l=some q->Cc (XR E w vw) l vs->Cc (TR E w vw) q vs
 |[],q,[],e,_=>by
  simp only[ABg,AKX]at e;subst e;trivial
 |[],_,_::_,_,h=>h.elim
 | .c x::l,q,v::vs,e,h=>by
  simp only[ABg,AKm]at e;obtain⟨r,e1,rfl⟩:=e;exact⟨h.1,kZ e1 h.2⟩
 | .agg x::l,q,v::vs,e,h=>by
  simp only[ABg,AKm]at e;obtain⟨r,e1,rfl⟩:=e;exact⟨h.1,kZ e1 h.2⟩
 | .L8 _::_,_,_,e,_=>by simp[ABg]at e
 | .c _::_,_,[],_,h=>h.elim
 | .agg _::_,_,[],_,h=>h.elim
include hT in
theorem vp(h:Rel E σ a w){fn:Func}{x:XV}(e:mI C.T σ fn.results.toList=some x):∃v,(results fn a.tmps).run P w= .ok v w/\XR E w σ.bx x v:=by
 unfold mI at e;have key:∀xs,fn.results.toList.mapM (AIk C.T σ)=some xs-> ∃vs:List Value,(results fn a.tmps).run P w= .ok (if h:vs.toArray.size=1 then vs.toArray[0]else .tuple vs.toArray) w/\Cc (XR E w σ.bx) xs vs:=by
  intro xs hx;obtain⟨vs,h1,h2⟩:=AIL (P:=P) hT h hx;refine⟨vs,?_,h2⟩;unfold results;rw[Array.mapM_eq_mapM_toList];simp only[Sem.run_bind,Sem.run_map];rw[h1 _ (fun _=>rfl) (fun _ _=>rfl)];simp only[Result.andThen_ok,Sem.run_pure]
 split at e
 ·rename_i z hz
  cases e;obtain⟨vs,h1,h2⟩:=key _ hz
  match vs,h2 with
  |[v],h2=>exact⟨v,by simpa using h1,h2.1⟩
  |v::_::_,h2=>exact h2.2.elim
  |[],h2=>exact h2.elim
 ·rename_i l hl hz
  simp only[AKm]at e;obtain⟨q,e1,rfl⟩:=e;obtain⟨vs,h1,h2⟩:=key _ hz;have aO: ¬vs.toArray.size=1:=fun hs=>by
   have:=Cc.len h2
   match l,this with
   |[z],_=>exact hl z rfl
   |[],t=>simp at t hs;omega
   |_::_::_,t=>simp at t hs;omega
  rw[dif_neg aO]at h1;exact⟨_,h1,vs.toArray,rfl,by simpa using kZ e1 h2⟩
 ·cases e
end
theorem jf{E:Env}{w:World}{vw:List Bx}{more:List Value}:∀{l:List (Nat×XP)} {x:GU.V l} {vals:List Value},NK E w vw id l x vals->NK E w vw id l x (vals++more)
 |[],_,_,_=>trivial
 |(i,p)::l,x,vals,h=>by
  obtain⟨⟨v,hv,hx⟩,hs⟩:=h;exact⟨⟨v,by grind,hx⟩,jf hs⟩
def ADt(C:eD)(c:RU)(fn:Func)(code:Code)(J:Nat->Nat->St->Option c.outs.V):Prop:=
 ∀ ℓ,ℓ ∈labels code-> ∃(s:Bb) (F:Nat->s.V->Option c.outs.V),(∀n,J n ℓ =jump c.ins.GV.length s (F n))/\(∀v,F 0 v=none)/\
  ∀n v y,F (n+1) v=some y-> ∀ω,LM C c fn (J n) ℓ ω (s.st fn.ntmps v)=some y
section
variable{P:Program} {C:eD} (hT:Eb P C.T) (hΓ:lB P C.Γ) (hm:P.follows .mixedOrders=true) {fn:Func} {c:RU}
def AQJ(c:RU)(E0:Env)(w0:World)(u:c.outs.V)(e:Ending)(w':World):Prop:=
 ∃x E',e= .returned x/\gb E0 w0 E' w'/\C2 E' w' (Jg.mk id c.outs.GV u.2) (Jg.mk id c.outs.GV u.2) []/\
  NK E' w' (Jg.mk id c.outs.GV u.2) id c.outs.D1 u.1 [x]/\ ∀i,i<c.ins.GV.length->alive c.outs.GV i=true->E'.IG i=E0.IG i/\E'.IF i=E0.IF i
theorem Ok.opens{E0 E:Env}{w0 w:World}{N nb:Nat}{σ:St}{a:Act}(h:Ok E0 w0 N nb E σ a w)(s:Bb):∃E',Ok E0 w0 N nb E' { σ with bx:=s.opens σ.bx } a w/\
  (∀(i:Nat) d r,s.GV[i]? =some (.sl d r)->E'.IF (σ.bx.length+i)= .slice none 0 0)/\(∀x v,XR E w σ.bx x v->XR E' w (s.opens σ.bx) x v):=by
 obtain⟨E',h1,h2,h3,h4⟩:=xV h.rel s;exact⟨E',h.next h1 h2 rfl,h3,h4⟩
theorem AIw{E E':Env}{w:World}{vw:List Bx}{b:Nat}(h:Le E E')(st:∀c,E.S c->E.T c):Um E w vw E' w (vw.set b .dead):=by
 refine⟨by simp,fun b _=>by rw[h.IG],h.T,h.S,st,fun _ _=>rfl,fun c d r rows _ e=> ?_⟩;by_cases hc:c=b
 ·simp_all
 ·rw[AOK (fun e=>hc e.symm)]at e
  exact⟨d,rows,e,fun p hp q ys hg=>⟨hp,⟨ys,hg,rfl⟩,fun h' hh=>by rw[h.IF];omega⟩⟩
theorem AJy{E:Env}{σ:St}{a:Act}{w:World}(h:Rel E σ a w)(b:Nat):∃E',Rel E' (σ.vR b) a w/\Le E E':=by
 unfold St.vR;split
 case h_2=>exact⟨E,h,Le.refl E⟩
 rename_i d r rows hb;obtain⟨F,hF,hB⟩:=h.bx.take hb;have Z2:C2 E w σ.bx (σ.bx.set b .dead) ([]++F++[]):=by simpa using hB
 obtain⟨hle,hB3⟩:=Z2.share;have hk:=AIw (vw:=σ.bx) (b:=b) (w:=w) hle h.bx.st;have hk2:Um E w σ.bx { E with S:=fun c=>E.S c\/c∈F,T:=fun c=>E.T c\/c∈F } w ((σ.bx.set b .dead).map (Bx.vR b r rows)):=by
  refine⟨by simp,hk.IG,hk.T,hk.S,hk.st,hk.heap,fun c d' r' rows' hc e=> ?_⟩;rw[AOR,AKm]at e;obtain⟨B,e,eB⟩:=e;cases B with
  |mem cs=>cases eB
  |dead=>cases eB
  |sl d0 r0 TH=>
   cases eB;exact hk.box c _ _ _ hc e
 have hv:∀x v,VR E w σ.bx x v->VR { E with S:=fun c=>E.S c\/c∈F,T:=fun c=>E.T c\/c∈F } w ((σ.bx.set b .dead).map (Bx.vR b r rows)) (x.vR b r rows) v:=fun x v hx=>by
  unfold AV.vR;split
  ·rename_i c
   split
   ·rename_i hc
    subst hc;obtain⟨h1,h2⟩:=hx;rw[hb]at h2;have hv:=h2.2.2;rw[C1]at hv;simp only[AKX]at hv;have:=ZY hF.2;rw[hv]at this;exact Fz (fun c hc=>hc) (fun _ _=>rfl) this
   ·exact GQ hk2 hx
  ·exact GQ hk2 hx
 refine⟨_,⟨h.OS,?_,?_⟩,hle⟩
 ·refine Cc.MX _ (fun x v hx=> ?_) h.tm
  unfold XV.vR;split
  ·exact hv _ _ hx
  ·exact QR hk2 hx
 ·obtain⟨Fs,⟨hl,h1⟩,h2⟩:=hB
  have h2':Sep E w (F++Fs.flatten):=h2.perm (by simpa using AVl);refine⟨Fs,⟨by simpa using hl,fun k B G Vp hG=> ?_⟩,?_⟩
  ·rw[AOR,AKm]at Vp
   obtain⟨B0,e,rfl⟩:=Vp;have h3:=h1 k B0 G e hG;cases B0 with
   |mem cs=>
    obtain⟨rfl,arr,ty,fr,a1,a2,a3⟩:=h3;exact⟨rfl,arr,ty,fr,a1,a2,Cc.MX _ (fun x v hx=>hv x v hx) a3⟩
   |sl d0 r0 TH=>exact⟨h3.1,EV hle.S (fun _ _=>rfl) (fun _ _=>rfl) h3.2⟩
   |dead=>exact h3
  ·rw[ALu]
   have st:=h.bx.st;refine⟨(AL8.1 h2'.nodup).2.1,fun c hc ht=> ?_,fun c hc=>h2'.lt c (by simp only[AMt];exact .inr hc),fun c hc=>hc.imp (st c) id,fun c hc=>hc.elim (h2'.eG c) fun h' =>h2'.lt c (by simp[h']),h2'.vz.mono (fun _ h=> .inl h) (fun _ _=>rfl)⟩;rcases ht with ht|ht
   ·exact h2'.free c (AMt.2 (.inr hc)) ht
   ·exact(AL8.1 h2'.nodup).2.2 c ht c hc rfl
theorem AIo{σ:St}{b i:Nat}(h:σ.bx[i]? =some .dead):(σ.vR b).bx[i]? =some .dead:=by
 unfold St.vR;split
 ·simp only[AOR,List.getElem?_set]
  split
  ·simp_all
  ·rw[h];rfl
 omega
theorem AEH{σ:St}{b:Nat}:(σ.vR b).bx.length=σ.bx.length/\(σ.vR b).tm.length=σ.tm.length:=by
 grind[St.vR]
theorem Ok.vR{E0 E:Env}{w0 w:World}{N nb:Nat}{σ:St}{a:Act}(h:Ok E0 w0 N nb E σ a w)(b:Nat):∃E',Ok E0 w0 N nb E' (σ.vR b) a w:=by
 obtain⟨E',h1,h2⟩:=AJy h.rel b;refine⟨E',⟨h1,h.base.trans (h2.base w),by rw[AEH.2];exact h.tm,by rw[AEH.1];exact h.sd,fun i hi hd=> ?_⟩⟩;rw[h2.IG,h2.IF];exact h.ids i hi fun e=>hd (AIo e)
theorem Ok.HN{E0:Env}{w0 w:World}{N nb:Nat}{a:Act}:∀(l:List AP) (xs:List AV) {E:Env} {σ:St},Ok E0 w0 N nb E σ a w-> ∃E',Ok E0 w0 N nb E' (HN l xs σ) a w:=by
 intro l xs E σ h
 induction l generalizing xs E σ with
 |nil=>grind[Fw.HN]
 |cons p l ih=>
  unfold Fw.HN;split
  ·rename_i heq
   cases heq;obtain⟨E',h'⟩:=h.vR _;exact ih _ h'
  ·rename_i heq
   cases heq;exact ih _ h
  grind
theorem Ok.AWZ{E0:Env}{w0 w:World}{N nb:Nat}{a:Act}{bs:List BP}:∀(l:List (Nat×XP)) {E:Env} {σ:St},Ok E0 w0 N nb E σ a w-> ∃E',Ok E0 w0 N nb E' (Qz bs l σ) a w:=by
 intro l
 induction l with
 |nil=>intro E σ h;exact⟨E,h⟩
 |cons q l ih=>
  intro E σ h;unfold Qz;split
  ·simp_all
  ·rename_i e
   cases e;split
   ·obtain⟨E',h'⟩:=h.HN [_] [_]
    exact ih h'
   grind
  ·rename_i e
   cases e;split
   ·split
    ·obtain⟨E',h'⟩:=h.HN _ _
     exact ih h'
    grind
   grind
  grind
theorem yC{E:Env}{w:World}{vw:List Bx}{x:AV}{v:Value}(h:VR E w vw x v)(hx:x.wu=true):isSlice v=true:=by
 cases x with
 |ref b p=>exact h.1
 |win b p o n=>exact h.1
 |sl s r y=>
  simp only[VR,Rd]at h;obtain⟨a,cap,h,_⟩:=h;simp only[ANN,AQ6]at h;rw[h];rfl
 |nil=>cases h;rfl
 |_=>cases hx
theorem AC5{E:Env}{σ:St}{a:Act}{w:World}(h:Rel E σ a w)(b j:Nat):Rel E (σ.forget b j) a w/\σ.bx.length<=(σ.forget b j).bx.length/\(∀i:Nat,σ.bx[i]? =some Bx.dead->(σ.forget b j).bx[i]? =some Bx.dead)/\(σ.forget b j).tm=σ.tm:=by
 unfold St.forget;split
 case h_2=>simp_all
 rename_i cs hb;split
 case h_2=>simp_all
 rename_i x hx;split
 case isFalse=>simp_all
 rename_i hs;have hbl:=(AK1.1 hb).1;have hk:Um E w σ.bx E w (σ.bx.set b (.mem (cs.set j (.ref σ.bx.length [])))++[.dead]):=by
  refine⟨by simp,fun _ _=>rfl,fun _ h=>h,fun _ h=>h,h.bx.st,fun _ _=>rfl,fun c d r rows hc e=> ?_⟩;grind
 refine⟨⟨h.OS,h.tm.imp fun _ _ hx=>QR hk hx,?_⟩,by simp,fun i hi=> ?_,rfl⟩
 ·obtain⟨Fs,⟨hl,h1⟩,h2⟩:=h.bx
  refine⟨Fs++[[]],⟨by simp[hl],fun k B G hB hG=> ?_⟩,by simp_all⟩;by_cases hk2:k<σ.bx.length
  ·rw[AMB (by simp_all)]at hB
   rw[AMB (by omega)]at hG;by_cases hkb:b=k
   ·subst hkb
    rw[AQ8 hk2]at hB;cases hB;obtain⟨rfl,arr,ty,fr,a1,a2,a3⟩:=h1 b _ G hb hG;refine⟨rfl,arr,ty,fr,a1,a2,?_⟩;have a4:mo E w (σ.bx.set b (.mem (cs.set j (.ref σ.bx.length [])))++[.dead]) cs arr.toList:=a3.imp fun _ _ hv=>GQ hk hv
    obtain⟨v,hv,hvr⟩:=a3.get hx;have aV:arr.toList.set j v=arr.toList:=by
     apply ASy;grind
    rw[<-aV];refine Cc.set a4 ⟨yC hvr hs,?_⟩;simp_all
   ·rw[AOK hkb]at hB
    have h3:=h1 k B G hB hG;cases B with
    |mem iO=>
     obtain⟨rfl,arr,ty,fr,a1,a2,a3⟩:=h3;exact⟨rfl,arr,ty,fr,a1,a2,a3.imp fun _ _ hv=>GQ hk hv⟩
    |sl d0 r0 TH=>exact h3
    |dead=>exact h3
  ·have hlen:=(AK1.1 hB).1
   simp only[AMf,ARg,AMK,APb]at hlen;have hkk:k=σ.bx.length:=by omega
   subst hkk;rw[AMM (by simp)]at hB;rw[AMM (by omega)]at hG;simp[hl]at hB hG;subst hB hG;rfl
 grind
theorem Ok.forget{E0 E:Env}{w0 w:World}{N nb:Nat}{σ:St}{a:Act}(h:Ok E0 w0 N nb E σ a w)(b j:Nat):Ok E0 w0 N nb E (σ.forget b j) a w:=by
 obtain⟨h1,h2,h3,h4⟩:=AC5 h.rel b j;exact⟨h1,h.base,by rw[h4];exact h.tm,APp h.sd h2,fun i hi hd=>h.ids i hi fun e=>hd (h3 i e)⟩
theorem Ok.Zq{E0 E:Env}{w0 w:World}{N nb:Nat}{a:Act}{bs:List BP}{b:Nat}:∀(l:List AP) (j:Nat) {σ:St},Ok E0 w0 N nb E σ a w->Ok E0 w0 N nb E (Zq bs b j l σ) a w
 |[],_,_,h=>h
 |p::l,j,σ,h=>by
  simp only[Fw.Zq];refine Ok.Zq l (j+1) ?_
  split
  ·split
   ·exact h.forget _ _
   omega
  omega
theorem Ok.ASB{E0 E:Env}{w0 w:World}{N nb:Nat}{a:Act}{bs:List BP}:∀(l:List (Nat×XP)) {σ:St},Ok E0 w0 N nb E σ a w->Ok E0 w0 N nb E (ia bs l σ) a w
 |[],_,h=>h
 |(i,p)::l,σ,h=>by
  simp only[ia];refine Ok.ASB l ?_
  split
  ·split
   ·exact h.Zq _ _
   omega
  omega
theorem Ok.fC{E0:Env}{w0 w:World}{N nb:Nat}{a:Act}:∀(l:List (AP ⊕ List AP)) (xs:List (AV ⊕ List AV)) {E:Env} {σ:St},Ok E0 w0 N nb E σ a w-> ∃E',Ok E0 w0 N nb E' (fC l xs σ) a w:=by
 intro l xs E σ h
 induction l generalizing xs E σ with
 |nil=>unfold Fw.fC;exact⟨E,h⟩
 |cons p l ih=>
  unfold Fw.fC;split
  ·rename_i heq
   cases heq;obtain⟨E',h'⟩:=h.HN _ _;exact ih _ h'
  ·rename_i heq
   cases heq;obtain⟨E',h'⟩:=h.HN _ _;exact ih _ h'
  ·rename_i heq
   cases heq;exact ih _ h
  ·exact⟨E,h⟩
theorem Ok.o3{E0 E:Env}{w0 w:World}{N nb:Nat}{σ:St}{a:Act}(h:Ok E0 w0 N nb E σ a w)(l:List (Nat×XP))(x:XV):∃E',Ok E0 w0 N nb E' (o3 l x σ) a w:=by
 unfold Fw.o3;split
 ·unfold AT1
  split
  ·exact h.HN _ _
  ·exact h.HN _ _
  ·exact h.fC _ _
  ·exact⟨E,h⟩
 ·exact⟨E,h⟩
include hT in
theorem wk{E0 E:Env}{w0 w:World}{N:Nat}{σ:St}{a:Act}{u:c.outs.V}(h:Ok E0 w0 N c.ins.GV.length E σ a w)(e:wV C.T c fn.results.toList σ=some u):
  a.defers=[]/\ ∃v,(results fn a.tmps).run P w= .ok v w/\AQJ c E0 w0 u (.returned v) w:=by
 unfold wV at e;simp only[ALU,AKm]at e;obtain⟨x0,_,x,e1,⟨u',m⟩,e2,rfl⟩:=e;obtain⟨E,h⟩:=h.o3 c.outs.D1 x0;revert h e1 e2
 generalize Fw.o3 c.outs.D1 x0 σ=σ
 intro e1 e2 h;obtain⟨v,h1,h2⟩:=vp hT h.rel e1;obtain⟨E,h,ADT,h4⟩:=h.opens c.outs
 replace h2:=h4 _ _ h2
 obtain⟨hext,E1,hf⟩:=og (tm:=[x]) (vals:=[v]) h.rel.bx ⟨h2,trivial⟩ ADT kj uJ e2;obtain⟨E2,q1,q2,q3,q4,q5⟩:=hf.shared h.rel.bx;refine⟨h.rel.OS,v,h1,v,E2,rfl,h.base.trans q3,q4,q5,fun i hi hal=> ?_⟩;obtain⟨p,hp,hg⟩:∃p,c.outs.GV[i]? =some p/\p≠ .gone:=by
  unfold alive at hal;cases hh:c.outs.GV[i]? with
  |none=>rw[hh]at hal;cases hal
  |some p=>
   refine⟨p,rfl,fun hp=> ?_⟩;rw[hh,hp]at hal;cases hal
 have hm1:=hext.2 i i (by have:=kg (i:=0) (n:=c.ins.GV.length) hp hg (by omega);simpa using this);obtain⟨b,B,g1,g2,g3,_⟩:=zR e2 i p hp hg;rw[hm1]at g1;cases g1;have hid:=hf.ids i i hm1;have AGs:=h.ids i hi (fun hd=>by rw[g2]at hd;cases hd;exact g3 rfl);rw[q1,q2];exact⟨hid.1.trans AGs.1,hid.2.trans AGs.2⟩
include hT hΓ hm in
theorem AIJ{code:Code}(hb:fn.body=some code)(hl:(labels code).Nodup){J:Nat->Nat->St->Option c.outs.V}(hJ:ADt C c fn code J)
  {E0:Env} {w0:World} {u:c.outs.V} {Q:oF} (hp:iA Q)
  (hg:Good E0 w0 fn.ntmps c.ins.GV.length u (fun _=>wV C.T c fn.results.toList) (fun _ _ _=>none) (fun _=>wV C.T c fn.results.toList) Q):
  ∀n,JOk P E0 w0 fn.ntmps c.ins.GV.length u (J n) code Q:=by
 intro n
 induction n with
 |zero=>
  intro ℓ body Q' S8 E σ a w h e;obtain⟨s,F,j1,j2,j3⟩:=hJ ℓ S8.label;rw[j1]at e;simp only[jump]at e;split at e
  ·rw[ALU]at e
   obtain⟨q,_,e⟩:=e;rw[j2]at e;cases e
  ·cases e
 |succ n ih=>
  intro ℓ body Q' S8 E σ a w h e;obtain⟨s,F,j1,j2,j3⟩:=hJ ℓ S8.label;rw[j1]at e;simp only[jump]at e;split at e
  case isFalse=>cases e
  rename_i sd;rw[ALU]at e;obtain⟨⟨v,m⟩,e1,e2⟩:=e;dsimp only at e2;obtain⟨E,h⟩:=h.AWZ (bs:=s.GV) s.D1
  replace h:=h.ASB (bs:=s.GV) s.D1
  revert h e1
  generalize ia s.GV s.D1 (Qz s.GV s.D1 σ)=σ
  intro e1 h;obtain⟨E,h,ADT,h4⟩:=h.opens s;obtain⟨hext,E1,hf⟩:=og h.rel.bx h.rel.tm ADT kj uJ e1;obtain⟨E2,q1,q2,q3,q4,q5⟩:=hf.shared h.rel.bx;have LP:fn.ntmps=a.tmps.toList.length:=by rw[<-Cc.len h.rel.tm,h.tm]
  have DG:Ok E0 w0 fn.ntmps c.ins.GV.length E2 (s.st fn.ntmps v) a w:=by
   refine⟨⟨h.rel.OS,mw q5 (Cc.undef LP),q4⟩,h.base.trans q3,?_,?_,fun i hi hd=> ?_⟩
   ·have:=Cc.len (mw q5 (Cc.undef LP))
    simp only[Bb.st];rw[this,<-LP]
   ·simp only[Bb.st]
    rw[VY];exact sd
   ·simp only[Bb.st]at hd
    have hp':s.GV[i]? =some (s.GV[i]'(by omega)):=AKT _;have hng:s.GV[i]'(by omega)≠ .gone:=fun hg' =>by
     obtain⟨z,z1,_⟩:=eN id (u:=v.2) hp';apply hd;rw[z1]
     generalize s.GV[i]'(by omega)=pp at z hg'
     subst hg';rfl
    have hm1:=hext.2 i i (by have:=kg (i:=0) (n:=c.ins.GV.length) hp' hng (by omega);simpa using this);obtain⟨b,B,g1,g2,g3,_⟩:=zR e1 i _ hp' hng;rw[hm1]at g1;cases g1;have hid:=hf.ids i i hm1;have AGs:=h.ids i hi (fun hd=>by rw[g2]at hd;cases hd;exact g3 rfl);rw[q1,q2];exact⟨hid.1.trans AGs.1,hid.2.trans AGs.2⟩
  have AGK:=j3 n v u e2;obtain⟨kn',kx',kr',hfind,pj,hnp,hj⟩:=AKl hT hΓ hm hl hp hg ih S8;simp only[LM,hb,hfind]at AGK;refine Pg.AKf (ACU hT hΓ hm (hnp.then _) (kn:=fun _ σ=>J n ℓ σ) ⟨fun E σ a w h e=> ?_,fun id E σ a w h e=>pj.x id E σ a w h e,pj.r⟩ hj DG AGK);exact ih ℓ body Q' S8 E σ a w h (e [])
include hT hΓ hm in
theorem AAW{f:Nat}(hf:ATr P f fn c){J:Nat->Nat->St->Option c.outs.V}(hJ:∀code,fn.body=some code->ADt C c fn code J)
  (hg:∀v u,c.g v=some u-> ∃n,∀ω,DO C c fn (J n) ω v=some u):L1 P f c:=by
 refine⟨hf.con,hf.call,fun E w v args u Io hB hS hgv=> ?_⟩;obtain⟨n,hn⟩:=hg v u hgv;cases hb:fn.body with
 |none=>
  have:=hn [];simp only[DO,hb]at this;cases this
 |some code=>
  simp only[DO,hb]at hn;refine calls_of_wp hf.at_ hb ?_
  have hp:iA (bodyPost P fn (AQJ c E w u)):=fun ch a w' hq=>by
   obtain⟨_,x,E',hx,_⟩:=hq;cases hx
  have pj:Good E w fn.ntmps c.ins.GV.length u (fun _=>wV C.T c fn.results.toList) (fun _ _ _=>none) (fun _=>wV C.T c fn.results.toList) (bodyPost P fn (AQJ c E w u)):=
   ⟨fun E' σ a w' h e=>wk hT h (e []),fun id E' σ a w' h e=>(by cases e []),fun E' σ a w' h e=>wk hT h (e [])⟩
  have DG:Ok E w fn.ntmps c.ins.GV.length E (c.ins.st fn.ntmps v) { tmps:=args++Array.replicate (fn.ntmps-args.size) undef,defers:=[] } w:=by
   have htm:Cc (XR E w (Jg.mk id c.ins.GV v.2)) (GU.mk id c.ins.D1 v.1 (List.replicate fn.ntmps (.c .undef))) (args++Array.replicate (fn.ntmps-args.size) undef).toList:=by
    rw[Array.toList_append];refine mw (jf hS) (Cc.undef ?_);have:=hf.tmps;simp;omega
   refine⟨⟨rfl,htm,hB⟩,gb.refl E w,?_,by simp only[Bb.st];rw[VY];exact AMN _,fun _ _ _=>⟨rfl,rfl⟩⟩;simp only[Bb.st];rw[Cc.len htm];have:=hf.tmps;simp;omega
  exact ACU hT hΓ hm hp pj (AIJ hT hΓ hm hb (hf.labels code hb) (hJ code hb) hp pj n) DG hn
end
end Go.Fw
end
section
namespace Go.Fw
def F7:List Ty->Ty
 |[]=> .unit
 |c::l=> .cons c (F7 l)
def ABi(row:TypeId->Option (List Ty×Bool))(cells:TypeId->Nat):Nat->List Field->Option (List Ty)
 |_,[]=>some []
 |o,f::fs=>
  match row f.type with
  |some (l,_)=>if f.offset=o/\cells f.type=l.length then(ABi row cells (o+l.length) fs).map (l++ ·)else none
  |none=>none
def np:List Ty×Bool->Ty
 |(l,true)=>F7 l
 |([c],false)=>c
 |_=> .unit
def rowOf(P:Program):Nat->TypeId->Option (List Ty×Bool)
 |0,_=>none
 |n+1,t=>
  match P.underlying t with
  |some (.int k)=>some ([.int k],false)
  |some .bool=>some ([.bool],false)
  |some .string=>some ([.str],false)
  |some (.slice e)=>
   match rowOf P n e with
   |some q=>if P.cellsOf e=q.1.length/\0<q.1.length then some ([.sl (np q)],false)else none
   |none=>none
  |some (.struct fs)=>
   match ABi (rowOf P n) P.cellsOf 0 fs.toList with
   |some l=>if P.cellsOf t=l.length then some (l,true)else none
   |none=>none
  |_=>none
def Vd:(t:Ty)->t.D->Prop
 | .int k,x=>(Lit.int k x).wf=true
 | .bool,_=>True
 | .str,x=>List.length x<=maxLen
 | .sl r,x=>List.length x<=maxLen/\ ∀y∈x,Vd r y
 | .unit,_=>True
 | .cons c r,x=>Vd c x.1/\Vd r x.2
theorem lO{α:Type}{p:Nat->α->Prop}:∀{n:Nat},(∀i,i<n-> ∃y,p i y)-> ∃x:List α,x.length=n/\ ∀(i:Nat) y,x[i]? =some y->p i y
 |0,_=>⟨[],rfl,fun i y h=>by simp at h⟩
 |n+1,h=>by
  obtain⟨x,h1,h2⟩:=lO (n:=n) (p:=p) (fun i hi=>h i (by omega));obtain⟨y,hy⟩:=h n (by omega);refine⟨x++[y],by simp[h1],fun i z hz=> ?_⟩;grind
theorem xg{w:World}{B:Nat->Prop}:∀{l m:List Ty} {cs ds:List Value} {x:(F7 l).D} {y:(F7 m).D},Rd w B (F7 l) cs x->Rd w B (F7 m) ds y->Vd (F7 l) x->Vd (F7 m) y->
  ∃z:(F7 (l++m)).D,Rd w B (F7 (l++m)) (cs++ds) z/\Vd (F7 (l++m)) z
 |[],m,cs,ds,x,y,h,k,hx,hy=>by
  simp only[F7,Rd]at h;subst h;exact⟨y,k,hy⟩
 |c::l,m,cs,ds,x,y,h,k,hx,hy=>by
  simp only[F7,Rd]at h;obtain⟨v,r,rfl,h1,h2⟩:=h;obtain⟨z,z1,z2⟩:=xg h2 k hx.2 hy;exact⟨(x.1,z),by simp only[ARU,F7,Rd];exact⟨v,r++ds,rfl,h1,z1⟩,hx.1,z2⟩
theorem AEu{P:Program}{n:Nat}{t:TypeId}{l:List Ty}(h:rowOf P n t=some (l,false)):∃c,l=[c]:=by
 cases n with
 |zero=>simp[rowOf]at h
 |succ n=>
  simp only[rowOf]at h;grind
theorem y8{w:World}{B:Nat->Prop}{P:Program}{n:Nat}{t:TypeId}{q:List Ty×Bool}(h:rowOf P n t=some q){cs:List Value}{x:(F7 q.1).D}(hx:Rd w B (F7 q.1) cs x)(hv:Vd (F7 q.1) x):
  (np q).n=q.1.length/\ ∃y:(np q).D,Rd w B (np q) cs y/\Vd (np q) y:=by
 obtain⟨l,b⟩:=q;cases b with
 |true=>
  refine⟨?_,x,hx,hv⟩;clear h hx hv x;simp only[np]
  induction l with
  |nil=>rfl
  |cons c l ih=>simp[F7,Ty.n,ih]
 |false=>
  obtain⟨c,rfl⟩:=AEu h;simp only[F7,Rd]at hx;obtain⟨v,r,rfl,h1,h2⟩:=hx;subst h2;refine⟨?_,x.1,h1,hv.1⟩;have:=oD h1;grind[np]
theorem AFh(a:Addr):a.add 0=a:=by rfl
theorem AFn{w:World}{a:Addr}{v:Value}(h:w.cell? a=some v):a.spot=none:=by
 unfold World.cell? at h;split at h
 all_goals simp_all
section
variable{H:Type} {enc:TypeId×Value->H} {P:Program} {w:World} {spare:Nat->Bool} {held:Bool}
theorem mP:∀(n:Nat) {t:TypeId} {q:List Ty×Bool},rowOf P n t=some q-> ∀{fuel:Nat} {cs:List Value} {x:DataW H×List MemPlace},DataW.trod enc P w 0 spare held fuel t cs=some x->
  ∃y:(F7 q.1).D,Rd w (fun b=>b<w.heap.size) (F7 q.1) cs y/\Vd (F7 q.1) y
 |0,t,q,h,_,_,_,_=>by simp[rowOf]at h
 |n+1,t,q,h,fuel,cs,x,hx=>by
  simp only[rowOf]at h;split at h
  ·rename_i k hu
   cases h;obtain⟨m,rfl,_,hw⟩:=DataW.trod_int hu hx;exact⟨(m,()),by simp[F7,Rd],hw,trivial⟩
  ·rename_i hu
   cases h;obtain⟨b,rfl,_⟩:=DataW.trod_bool hu hx;exact⟨(b,()),by simp[F7,Rd],trivial,trivial⟩
  ·rename_i hu
   cases h;obtain⟨s,rfl,_,hs⟩:=DataW.trod_string hu hx;refine⟨(s.data.toList,()),by simp[F7,Rd],?_,trivial⟩
   show s.data.toList.length<=maxLen
   simp_all
  ·rename_i e hu
   split at h
   case h_2=>cases h
   rename_i q' hq';split at h
   case isFalse=>cases h
   rename_i AGo;cases h;rcases DataW.trod_slice hu hx with⟨rfl,_⟩|⟨a,len,cap,elems,rest,m,_,rfl,_,_,hlc,hcm,WG,S8,_,_⟩
   ·refine⟨([],()),?_,⟨by simp,by simp⟩,trivial⟩
    simp only[F7,Rd];simp_all
   ·have each:∀i,i<len-> ∃y:(np q').D,Vd (np q') y/\ ∃ds,ds.length=(np q').n/\(∀j,j<ds.length->w.cell? ((a.add (i*P.cellsOf e)).add j)=ds[j]?)/\Rd w (fun b=>b<w.heap.size) (np q') ds y:=by
     intro i hi;have hz:elems[i]? =some (elems[i]'(by omega)):=AKT _;have h1:=S8 i hi;rw[hz,ALU]at h1;obtain⟨ds,hds,htr⟩:=h1;obtain⟨z,z1,z2⟩:=mP n hq' htr;obtain⟨_,c1,c2⟩:=World.cells?_some hds
     grind[y8]
    obtain⟨xs,x1,x2⟩:=lO each;refine⟨(xs,()),?_,⟨by grind,fun y hy=> ?_⟩,trivial⟩
    ·simp only[F7,Rd]
     refine⟨_,[],rfl,⟨_,cap,by rw[x1],by omega,?_⟩,rfl⟩;by_cases h0:len=0
     ·omega
     right
     obtain⟨y0,_,ds0,d0,d1,_⟩:=each 0 (by omega);have hn0:0<(np q').n:=by
      rw[d0.symm];have hz:elems[0]? =some (elems[0]'(by omega)):=AKT _;have h1:=S8 0 (by omega);rw[hz,ALU]at h1;obtain⟨ds,hds,htr⟩:=h1;obtain⟨z,z1,z2⟩:=mP n hq' htr;grind[y8]
     have hc0:=d1 0 (by omega);simp only[Nat.zero_mul,AFh]at hc0;have zr:w.cell? a=some (ds0[0]'(by omega)):=by simp_all
     have hsp:=AFn zr;obtain⟨b,o,s⟩:=a;simp only at hsp;subst hsp;refine⟨b,o,rfl,?_,fun i y hy=> ?_⟩
     ·grind[World.cell?,Array.getElem?_eq_some_iff]
     ·have hil:=(AK1.1 hy).1
      obtain⟨_,ds,e0,e1,e2⟩:=x2 i y hy;have hcn:P.cellsOf e=(np q').n:=by
       have hz:elems[i]? =some (elems[i]'(by omega)):=AKT _;have h1:=S8 i (by omega);rw[hz,ALU]at h1;obtain⟨ds,hds,htr⟩:=h1;obtain⟨z,z1,z2⟩:=mP n hq' htr;grind[y8]
      refine⟨ds,e0,fun j v hj=> ?_,e2⟩;grind[List.getElem?_eq_some_iff,Addr.add_eq]
    ·obtain⟨i,hi,rfl⟩:=AQA hy
     exact(x2 i _ (AKT hi)).1
  ·rename_i fs hu
   split at h
   case h_2=>cases h
   rename_i l hl;split at h
   case isFalse=>cases h
   rename_i qN;cases h;obtain⟨xs,m,_,_,hlen,hxs,S8⟩:=DataW.trod_struct hu hx;have key:∀(fs:List Field) (o:Nat) (l:List Ty) (i0:Nat),ABi (rowOf P n) P.cellsOf o fs=some l->cs.length=o+l.length->(∀(i:Nat) (f:Field),fs[i]? =some f-> ∃z,DataW.trod enc P w 0 spare held m f.type ((cs.drop f.offset).take (P.cellsOf f.type))=some z)->
     ∃y:(F7 l).D,Rd w (fun b=>b<w.heap.size) (F7 l) (cs.drop o) y/\Vd (F7 l) y:=by
    intro fs
    induction fs with
    |nil=>
     intro o l i0 hl hc _;simp only[ABi,AKX]at hl;subst hl;refine⟨(),?_,trivial⟩;simp only[F7,Rd];simp_all
    |cons f fs ih=>
     intro o l i0 hl hc S8;simp only[ABi]at hl;split at hl
     case h_2=>cases hl
     rename_i l1 b1 hr;split at hl
     case isFalse=>cases hl
     rename_i hof;simp only[AKm]at hl;obtain⟨l2,wS,rfl⟩:=hl;obtain⟨z,hz⟩:=S8 0 f rfl;obtain⟨y1,a1,a2⟩:=mP n hr hz;obtain⟨y2,b1,b2⟩:=ih (o+l1.length) l2 0 wS (by grind) (fun i f hf=>S8 (i+1) f (by simp_all));grind[xg,List.drop_drop,List.take_append_drop]
   have:=key fs.toList 0 l 0 hl (by omega) (fun i f hf=>by
    grind)
   simp_all
  simp_all
end
end Go.Fw
end
section
open Go.RowKit
namespace Go.Fw
def yK(W:World):Env:={ IG:=fun _=>0,IF:=fun _=> .nilFunc,T:=fun b=>b<W.heap.size,S:=fun b=>b<W.heap.size }
abbrev vD:Bb:=⟨[(0,.c (.v .bool))],[]⟩
theorem AFy{P:Program}{f:Nat}{D1:List (Nat×XP)}{g:Bb.V ⟨D1,[]⟩->Option vD.V}(hs:L1 P f ⟨⟨D1,[]⟩,vD,g⟩){W:World}{args:Array Value}(x:GU.V D1)(hlen:args.size=D1.length)(hgi:∀w':World,(∀c,c<W.heap.size->w'.heap[c]? =W.heap[c]?)->GI w')
  (hx:NK (yK W) W [] id D1 x args.toList) (hg:g (x,())=some ((true,()),())):Calls P f args W fun e W' =>e= .returned (.bool true)/\Below W.heap.size W W':=by
 obtain⟨_,_,h⟩:=hs;refine(h (yK W) W (x,()) args _ hlen ⟨[],⟨rfl,fun k B F h=>by simp[Jg.mk]at h⟩,by simp,by simp,by simp,fun _ h=>h,fun _ h=>h,hgi⟩ hx hg).mono fun e W' hR=> ?_
 obtain⟨v,E',rfl,base,_,⟨⟨v',hv,hxr⟩,_⟩,_⟩:=hR;simp at hv;subst hv;have:v= .bool true:=by
  have h2:VR E' W' [] (.v .bool true) v:=hxr;exact UO h2
 subst this;exact⟨rfl,base.os,base.tape,base.output,base.size,fun k hk=>base.heap k hk⟩
theorem AK5{W:World}{vw:List Bx}{s:Bool}{r:Ty}{v:Value}{y:List r.D}(h:Rd W (fun b=>b<W.heap.size) (.sl r) [v] y):XR (yK W) W vw (XP.mk id (.c (.sl s r)) y) v:=by
 show Rd W (if s then _ else _) (.sl r) [v] y
 cases s<;>exact h
end Go.Fw
end
section
namespace Go.Fw
def Ul:List (Nat×RU)->Nat->Option RU
 |[],_=>none
 |(f,c)::l,g=>if f=g then some c else Ul l g
def AKd(P:Program):List (Nat×RU)->Prop
 |[]=>True
 |q::l=>L1 P q.1 q.2/\AKd P l
theorem kK{P:Program}:∀{l:List (Nat×RU)},AKd P l->lB P (Ul l)
 |[],_=>fun f c e=>by cases e
 |(g,d)::l,h=>fun f c e=>by
  simp only[Ul]at e;split at e
  ·rename_i hg
   cases e;subst hg;exact h.1
  ·exact kK h.2 f c e
theorem aB{P:Program}{f:Nat}{fn:Func}(hf:P.funcs[f]? =some fn)(hn:(fn.name== "runtime.NumGoroutine")=false)(hb:fn.body.isNone=false)(args:Array Value)(w:World):
  (callFunc f args).run P w= .ok (.enter f args) w:=by
 have h1:fn.name≠ "runtime.NumGoroutine" :=by simp_all
 have h2:fn.body≠none:=by
  grind
 simp[callFunc,hf,h1,h2]
def iv(fn:Func)(c:RU):Bool:=
 !(
  fn.name== "runtime.NumGoroutine")&& !fn.body.isNone&&c.ok&&decide (c.ins.D1.length<=fn.ntmps)&&(match fn.body with
  |some code=>decide (labels code).Nodup
  |none=>true)
theorem AUf{P:Program}{f:Nat}{fn:Func}{c:RU}(hf:P.funcs[f]? =some fn)(h:iv fn c=true):ATr P f fn c:=by
 simp only[iv,ALJ,ARI,ALh]at h;obtain⟨⟨⟨⟨h1,h2⟩,h3⟩,h4⟩,h5⟩:=h;refine⟨hf,aB hf h1 h2,h3,h4,fun code hc=> ?_⟩;simp_all
def gY(C:eD)(c:RU)(fn:Func)(J:Nat->Nat->St->Option c.outs.V):List Nat->Prop
 |[]=>True
 | ℓ ::l=>(∃(s:Bb) (F:Nat->s.V->Option c.outs.V),(∀n,J n ℓ =jump c.ins.GV.length s (F n))/\(∀v,F 0 v=none)/\
  ∀n v,∀ω,LM C c fn (J n) ℓ ω (s.st fn.ntmps v)=F (n+1) v)/\gY C c fn J l
theorem gY.ok{C:eD}{c:RU}{fn:Func}{J:Nat->Nat->St->Option c.outs.V}:∀{l:ABy},gY C c fn J l-> ∀ ℓ ∈l,∃(s:Bb) (F:Nat->s.V->Option c.outs.V),(∀n,J n ℓ =jump c.ins.GV.length s (F n))/\(∀v,F 0 v=none)/\
  ∀n v y,F (n+1) v=some y-> ∀ω,LM C c fn (J n) ℓ ω (s.st fn.ntmps v)=some y
 |[],_,ℓ,h=>by cases h
 |k::l,hl,ℓ,h=>by
  rcases ANC.1 h with rfl|h
  ·obtain⟨⟨s,F,h1,h2,h3⟩,_⟩:=hl
   exact⟨s,F,h1,h2,fun n v y e ω=>(h3 n v ω).trans e⟩
  ·exact gY.ok hl.2 ℓ h
def cz(fn:Func):ABy:=
 match fn.body with
 |some code=>labels code
 |none=>[]
def Cj:List AHG->Nat->List Nat
 |[],_=>[]
 |(r,h)::l,q=>if r=q then h else Cj l q
theorem AGv{P:Program}{T:Jr}{l:List (Nat×RU)}{hint:Nat->List Nat}{f:Nat}{fn:Func}{c:RU}(hT:Eb P T)(hm:P.follows .mixedOrders=true)(hf:P.funcs[f]? =some fn)(hl:AKd P l)(hc:iv fn c=true)
  {J:Nat->Nat->St->Option c.outs.V} {L:ABy} (hL:cz fn=L) (hJ:gY ⟨T,Ul l,hint⟩ c fn J L) (n:Nat) (he:∀ω v,DO ⟨T,Ul l,hint⟩ c fn (J n) ω v=c.g v):L1 P f c:=
 AAW (C:=⟨T,Ul l,hint⟩) hT (kK hl) hm (AUf hf hc) (J:=J) (fun code hb ℓ hℓ =>gY.ok hJ ℓ (by
  grind[cz])) fun v u hg=>⟨n,fun ω=>(he ω v).trans hg⟩
end Go.Fw
end
section
namespace Go.M
abbrev CN:Nat:=Go.Fw.CN
def AQ(x:Int):Int:=IntKind.wrap .i64 x
def w8(x:Int):Int:=IntKind.wrap .u8 x
def gU(κ:IntKind)(a b:Int):Int:=κ.wrap (BitVec.ofInt κ.bits a &&& BitVec.ofInt κ.bits b).toNat
def bOr(κ:IntKind)(a b:Int):Int:=κ.wrap (BitVec.ofInt κ.bits a ||| BitVec.ofInt κ.bits b).toNat
def APT(κ:IntKind)(a b:Int):Int:=κ.wrap (BitVec.ofInt κ.bits a ^^^ BitVec.ofInt κ.bits b).toNat
theorem sw:∃n:Nat,2^64<=n:=⟨_,AMN _⟩
noncomputable def AW:Nat:=Classical.choose sw
theorem WR:2^64<=AW:=Classical.choose_spec sw
def ABA{α:Type}(p:Int)(v l:List α):Option (List α):=if 0<=p/\p<=(l.length:Int)/\l.length+v.length<=CN then some (l.take p.toNat++v++l.drop p.toNat)else none
def AHA{α:Type}(p q:Int)(l:List α):Option (List α):=if 0<=p/\p<=q/\q<=(l.length:Int)then some (l.take p.toNat++l.drop q.toNat)else none
end Go.M
end
section
namespace Go.Fw
structure SP (P:Program) where
 f:Nat
 c:RU
 h:L1 P f c
def SP.l{P:Program}:List (SP P)->List (Nat×RU)
 |[]=>[]
 |s::l=>(s.f,s.c)::SP.l l
theorem yY{P:Program}:∀l:List (SP P),AKd P (SP.l l)
 |[]=>trivial
 |s::l=>⟨s.h,yY l⟩
@[reducible] def AP.Cu (R:Type):AP->Type
 | .vZ _ rs=>bu rs->R
 | .v t=>t.D->R
 | .sl _ r=>List r.D->R
 | .rA r=>r.D->R
 | .oX _ _=>Nat×Nat->R
 |_=>R
def AP.un{R:Type}:(p:AP)->p.Cu R->p.V->R
 | .vZ _ _,f,x=>f x
 | .v _,f,x=>f x
 | .sl _ _,f,x=>f x
 | .rA _,f,x=>f x
 | .oX _ _,f,x=>f x
 | .nil,f,_=>f
 | .ref _,f,_=>f
 | .ptr _ _,f,_=>f
 | .fn _ _,f,_=>f
 | .any,f,_=>f
@[reducible] def aM.Cu (R:Type):List AP->Type
 |[]=>R
 |p::l=>p.Cu (aM.Cu R l)
def aM.un{R:Type}:(l:List AP)->aM.Cu R l->aM.V l->R
 |[],f,_=>f
 |p::l,f,x=>aM.un l (p.un f x.1) x.2
@[reducible] def bq.Cu (R:Type):List (AP ⊕ List AP)->Type
 |[]=>R
 | .inl p::l=>p.Cu (bq.Cu R l)
 | .inr q::l=>aM.Cu (bq.Cu R l) q
def bq.un{R:Type}:(l:List (AP ⊕ List AP))->bq.Cu R l->bq.V l->R
 |[],f,_=>f
 | .inl p::l,f,x=>bq.un l (p.un f x.1) x.2
 | .inr q::l,f,x=>bq.un l (aM.un q f x.1) x.2
@[reducible] def XP.Cu (R:Type):XP->Type
 | .c p=>p.Cu R
 | .agg l=>aM.Cu R l
 | .row r=>r.D->R
 | .L8 l=>bq.Cu R l
def XP.un{R:Type}:(p:XP)->p.Cu R->p.V->R
 | .c p,f,x=>p.un f x
 | .agg l,f,x=>aM.un l f x
 | .row _,f,x=>f x
 | .L8 l,f,x=>bq.un l f x
@[reducible] def BP.Cu (R:Type):BP->Type
 | .mem l=>aM.Cu R l
 | .sl _ r=>List r.D->R
 | .gone=>R
def BP.un{R:Type}:(p:BP)->p.Cu R->p.V->R
 | .mem l,f,x=>aM.un l f x
 | .sl _ _,f,x=>f x
 | .gone,f,_=>f
@[reducible] def GU.Cu (R:Type):List (Nat×XP)->Type
 |[]=>R
 |(_,p)::l=>p.Cu (GU.Cu R l)
def GU.un{R:Type}:(l:List (Nat×XP))->GU.Cu R l->GU.V l->R
 |[],f,_=>f
 |(_,p)::l,f,x=>GU.un l (p.un f x.1) x.2
@[reducible] def Jg.Cu (R:Type):List BP->Type
 |[]=>R
 |p::l=>p.Cu (Jg.Cu R l)
def Jg.un{R:Type}:(l:List BP)->Jg.Cu R l->Jg.V l->R
 |[],f,_=>f
 |p::l,f,x=>Jg.un l (p.un f x.1) x.2
@[reducible] def Bb.Cu (s:Bb) (R:Type):Type:=GU.Cu (Jg.Cu R s.GV) s.D1
def Bb.un{R:Type}(s:Bb)(f:s.Cu R)(v:s.V):R:=Jg.un s.GV (GU.un s.D1 f v.1) v.2
structure Lp (o:Bb) where
 ℓ :Nat
 s:Bb
 F:Nat->s.Cu (Option o.V)
def Og{o:Bb}(nb:Nat):List (Lp o)->Nat->Nat->St->Option o.V
 |[],_,_,_=>none
 |p::l,n,ℓ,σ=>if ℓ =p.ℓ then jump nb p.s (p.s.un (p.F n)) σ else Og nb l n ℓ σ
inductive Vh (C:eD) (c:RU) (fn:Func) (J:Nat->Nat->St->Option c.outs.V):List (Lp c.outs)->Prop
 |nil:Vh C c fn J []
 |cons {ℓ :Nat} {s:Bb} {F:Nat->s.Cu (Option c.outs.V)} {l:List (Lp c.outs)} (h0:∀v,s.un (F 0) v=none) (h1:∀n v ω,LM C c fn (J n) ℓ ω (s.st fn.ntmps v)=s.un (F (n+1)) v) (h:Vh C c fn J l):Vh C c fn J (⟨ℓ,s,F⟩::l)
def Lp.ls{o:Bb}:List (Lp o)->List Nat
 |[]=>[]
 |p::l=>p.ℓ ::Lp.ls l
theorem AGS{o:Bb}{nb:Nat}:∀{l:List (Lp o)} (n:Nat) {ℓ :Nat} (p:Lp o) (pre:List (Lp o)),ℓ =p.ℓ ->(Lp.ls (pre++p::l)).Nodup->Og nb (pre++p::l) n ℓ =jump nb p.s (p.s.un (p.F n))
 |l,n,ℓ,p,[],e,_=>by
  funext σ
  simp[Og,e]
 |l,n,ℓ,p,q::pre,e,hn=>by
  funext σ
  have hq: ℓ ≠q.ℓ :=by
   intro h;simp only[ARU,Lp.ls,AUT]at hn;refine hn.1 ?_
   rw[<-h,e];clear hn h e
   induction pre with
   |nil=>simp[Lp.ls]
   |cons a m ih=>simp[Lp.ls,ih]
  have:=congrFun (AGS (nb:=nb) (l:=l) n p pre e (by grind[Lp.ls,List.nodup_cons])) σ;simp only[ARU,Og,AJk hq];omega
theorem Vh.ok{C:eD}{c:RU}{fn:Func}{nb:Nat}(hb:nb=c.ins.GV.length){L:List (Lp c.outs)}(hn:(Lp.ls L).Nodup):∀{l pre:List (Lp c.outs)},L=pre++l->Vh C c fn (Og nb L) l->gY C c fn (Og nb L) (Lp.ls l)
 |[],_,_,_=>trivial
 |⟨ℓ,s,F⟩::l,pre,e,.cons h0 h1 h=>by
  refine⟨⟨s,fun n=>s.un (F n),fun n=> ?_,h0,fun n v ω=>h1 n v ω⟩,Vh.ok hb hn (pre:=pre++[⟨ℓ,s,F⟩]) (by simp[e]) h⟩;subst hb;rw[e];exact AGS n ⟨ℓ,s,F⟩ pre rfl (by simp_all)
def mkP{P:Program}{T:Jr}(hT:Eb P T)(hm:P.follows .mixedOrders=true){f:Nat}{fn:Func}(hf:P.funcs[f]? =some fn)(i o:Bb)(g:i.Cu (Option o.V))(l:List (SP P))(h:List AHG)(L:List (Lp o))(n:Nat)
  (hL:cz fn=Lp.ls L) (hd:decide (Lp.ls L).Nodup=true) (hc:iv fn ⟨i,o,i.un g⟩=true)
  (hJ:Vh ⟨T,Ul (SP.l l),Cj h⟩ ⟨i,o,i.un g⟩ fn (Og i.GV.length L) L)
  (he:∀ω v,DO ⟨T,Ul (SP.l l),Cj h⟩ ⟨i,o,i.un g⟩ fn (Og i.GV.length L n) ω v=i.un g v):SP P:=
 ⟨f,⟨i,o,i.un g⟩,AGv (l:=SP.l l) hT hm hf (yY l) hc (J:=Og i.GV.length L) (L:=Lp.ls L) hL (Vh.ok rfl (by simpa using hd) (pre:=[]) rfl hJ) n he⟩
def AYp{P:Program}{T:Jr}(hT:Eb P T)(hm:P.follows .mixedOrders=true){f:Nat}{fn:Func}(hf:P.funcs[f]? =some fn)(i o:Bb)(g:i.Cu (Option o.V))(l:List (SP P))(h:List AHG)(L:List (Lp o))(n:Nat)
  (hL:cz fn=Lp.ls L) (hd:decide (Lp.ls L).Nodup=true) (hc:iv fn ⟨i,o,i.un g⟩=true)
  (hJ:Vh ⟨T,Ul (SP.l l),Cj h⟩ ⟨i,o,i.un g⟩ fn (Og i.GV.length L) L)
  (he:∀ω v u,i.un g v=some u->DO ⟨T,Ul (SP.l l),Cj h⟩ ⟨i,o,i.un g⟩ fn (Og i.GV.length L n) ω v=some u):SP P:=
 ⟨f,⟨i,o,i.un g⟩,AAW (C:=⟨T,Ul (SP.l l),Cj h⟩) hT (kK (yY l)) hm (AUf hf hc) (J:=Og i.GV.length L) (fun code hb ℓ hℓ =>gY.ok (Vh.ok (nb:=i.GV.length) rfl (by simpa using hd) (pre:=[]) rfl hJ) ℓ (by
  rw[<-hL];simp only[cz,hb];exact hℓ)) fun v u hg=>⟨n,fun ω=>he ω v u hg⟩⟩
theorem AE{Q:List Bool->Prop}(a:Q [])(b:∀ω,Q (false::ω))(d:∀ω,Q (true::ω)):∀ω,Q ω
 |[]=>a
 |false::ω=>b ω
 |true::ω=>d ω
end Go.Fw
end
section
namespace Go.Fw
open Go.Proofs Go.Shelf Go.RowKit Go.Lib
structure hU (P:Program) (ρ:Ren) (nm:String) (fv:Func):Prop where
 mixed:P.follows .mixedOrders=true
 f22:P.funcs[ρ.f 22]? =some { Body2.n22 ρ with name:=nm }
 n22:(nm== "runtime.NumGoroutine")=false
 f29:P.funcs[ρ.f 29]? =some fv
 n29:(fv.name== "runtime.NumGoroutine")=false
 b29:fv.body.isNone=true
 e29:Extern.findNext fv=none
 x29:Extern.find fv=some (Extern.SlicesOverlaps.overlaps #[(ρ.t 24),(ρ.t 24)] #[(ρ.t 4)])
 t0:P.underlying (ρ.t 0)=some (TypeDesc.tuple #[])
 a0:∀w,(isAgg (ρ.t 0)).run P w= .ok false w
 z0:∀w,(Go.sizeOf (ρ.t 0)).run P w= .ok 1 w
 v0:∀w,(zeroValue (ρ.t 0)).run P w= .ok (Value.tuple #[]) w
 t3:P.underlying (ρ.t 3)=some (TypeDesc.int IntKind.i64)
 a3:∀w,(isAgg (ρ.t 3)).run P w= .ok false w
 z3:∀w,(Go.sizeOf (ρ.t 3)).run P w= .ok 1 w
 v3:∀w,(zeroValue (ρ.t 3)).run P w= .ok (Value.int IntKind.i64 0) w
 t4:P.underlying (ρ.t 4)=some (TypeDesc.bool)
 a4:∀w,(isAgg (ρ.t 4)).run P w= .ok false w
 z4:∀w,(Go.sizeOf (ρ.t 4)).run P w= .ok 1 w
 v4:∀w,(zeroValue (ρ.t 4)).run P w= .ok (Value.bool false) w
 t24:P.underlying (ρ.t 24)=some (TypeDesc.slice (ρ.t 9))
 a24:∀w,(isAgg (ρ.t 24)).run P w= .ok false w
 z24:∀w,(Go.sizeOf (ρ.t 24)).run P w= .ok 1 w
 v24:∀w,(zeroValue (ρ.t 24)).run P w= .ok (Value.slice none 0 0) w
section
variable{P:Program} {ρ:Ren} {nm:String} {fv:Func}
theorem e9{w:World}{dT sT ty elem:TypeId}{i0:TypeInfo}{b o ASS AZd Xa l8 n:Nat}{a:Option Addr}{cs:List Value}(hu:P.underlying dT=some (.slice elem))(hi:P.info? elem=some i0)(hn:n=Nat.min Xa ASS)
  (APV:∀W:World,W=w->(Builtin.firstCells i0.size n (.slice a Xa l8)).run P W= .ok cs.toArray W) (sY:w.there b o cs.length) (h1:∀v∈cs,v.oneCell' =true):
  (Builtin.copy_ #[dT,sT] ty #[.slice (some ⟨b,o,none⟩) ASS AZd,.slice a Xa l8]).run P w= .ok (goInt n) (w.setCells b o cs):=by
 have vX:=run_storeCells_cells (P:=P) b o cs 0 w (by simpa using fun j hj=>(sY j hj).1) (by simpa using fun j hj=>(sY j hj).2) h1;rw[ART]at vX;have:=APV w rfl;simp[Builtin.copy_,run_underlying hu,Builtin.lenOf,sizeOf,typeInfo,hi,<-hn,this,vX]
set_option maxHeartbeats 4000000 in
set_option maxRecDepth 100000 in
theorem AIY(L:hU P ρ nm fv){k:Nat}(z9:∀w,(Go.sizeOf (ρ.t 9)).run P w= .ok k w)(ad:Option Addr)(n c i:Nat)(va:Option Addr)(vc:Nat)(w:World)(hi:i<=n)(hnc:n<=c):
  Calls P (ρ.f 22) #[.slice ad n c,.int .i64 i,.slice va 0 vc] w fun e w' =>e= .returned (.slice ad n c)/\w' =w:=by
 have t0:=L.t0;have a0:=L.a0;have z0:=L.z0;have v0:=L.v0;have t3:=L.t3;have a3:=L.a3;have z3:=L.z3;have v3:=L.v3;have t4:=L.t4;have a4:=L.a4;have z4:=L.z4;have v4:=L.v4;have t24:=L.t24;have a24:=L.a24;have z24:=L.z24;have v24:=L.v24;have u0:=run_underlying L.t0;have u3:=run_underlying L.t3;have u4:=run_underlying L.t4;have aL:=run_underlying L.t24;have mixed:=L.mixed
 go_enter L.f22,Body2.n22_ntmps ρ
 cases ad with
 |none=>
  go_wp2
  go_ret
  exact⟨rfl,rfl⟩
 |some a=>
  obtain⟨ab,ao,asp⟩:=a
  go_wp2
  all_goals (go_ret;exact⟨rfl,rfl⟩)
theorem nQ{w:World}(tS tR e:TypeId)(ht:P.underlying tS=some (.slice e))(size:Nat)(hz:∀w,(Go.sizeOf e).run P w= .ok size w)
  (a b:Addr) (la ca lb cb:Nat) (aO:a.block≠b.block) (tA tB:TypeId) (kA kB:Nat)
  (hsa:w.shape? a.block=some (tA,kA)) (hsb:w.shape? b.block=some (tB,kB)) (hkA:kA≠0)
  (hfb:w.frozen? b=false) (hfe:w.frozen? { block:=b.block,off:=kB }=false):
  (Extern.SlicesOverlaps.overlaps #[tS,tS] #[tR] #[.slice (some a) la ca,.slice (some b) lb cb]).run P w= .ok (.bool false) w:=by
 have sd:(a.block !=b.block)=true:=by simp_all
 have AYK:(a.block==b.block)=false:=by simp_all
 change Sem.run P (α:=Value) (do
  let some t:=(#[tS,tS]:Array TypeId)[0]?|stuck "slices.overlaps: no parameter types"
  let .slice elem<-underlying t|stuck "slices.overlaps: slice type expected"
  let size<-sizeOf elem
  match(some a:Option Addr),(some b:Option Addr)with
  |some a,some b=>
   if la=0\/lb=0\/size=0 then pure (Value.bool false)
   else if a.block !=b.block&&(<-frozen a)&&(<-frozen b)then unsupported .addressObserved
   else do
    if a.block !=b.block then do
     noView a;noView b
     if<-mayBeOne a b then return Value.bool ((<-choose (.extern "sameAddr.stringBytes" 2))==1)
    pure (Value.bool (a.block==b.block&&a.off<b.off+lb*size&&b.off<a.off+la*size))
  |_,_=>pure (Value.bool false)) w=_
 by_cases h0:la=0\/lb=0\/size=0
 ·simp[run_underlying ht,hz,h0]
 ·cases kA with
  |zero=>omega
  |succ kA=>
   cases hfa:w.frozen? a<;>cases hfae:w.frozen? { block:=a.block,off:=kA+1 }<;>
    simp[run_underlying ht,hz,h0,sd,AYK,frozen,noView,viewAt,mayBeOne,stringish,shape,Sem.run,hsa,hsb,hfb,hfe,hfa,hfae]
set_option maxHeartbeats 4000000 in
set_option maxRecDepth 100000 in
theorem AEv(L:hU P ρ nm fv){i0:TypeInfo}(zh:P.info? (ρ.t 9)=some i0)(hs0:0<i0.size)(b off n c i:Nat)(va:Addr)(m vc:Nat)(cs vs:List Value)(w:World)(hi:i<n)(hm:0<m)(U7:n+m<=c)(aQ:n+m<=CN)(hvb:va.block≠b)
  (qN:cs.length=n*i0.size) (hvl:vs.length=m*i0.size) (zr:Bg w b off cs) (sY:w.there b off ((n+m)*i0.size))
  (Xe:∀W:World,W.heap[va.block]? =w.heap[va.block]?->(Builtin.firstCells i0.size m (.slice (some va) m vc)).run P W= .ok vs.toArray W) (h1c:∀v∈cs,v.oneCell' =true) (h1v:∀v∈vs,v.oneCell' =true)
  (tA tB:TypeId) (kA kB:Nat) (hsa:w.shape? va.block=some (tA,kA)) (hsb:w.shape? b=some (tB,kB)) (hkA:kA≠0) (hfe:w.frozen? ⟨b,kB,none⟩=false):
  Calls P (ρ.f 22) #[.slice (some ⟨b,off,none⟩) n c,.int .i64 i,.slice (some va) m vc] w fun e w' =>
   e= .returned (.slice (some ⟨b,off,none⟩) (n+m) c)/\ ∃W:World,W.heap=w.heap/\Grown w W/\w' =(W.setCells b (off+(i+m)*i0.size) (cs.drop (i*i0.size))).setCells b (off+i*i0.size) vs:=by
 have t0:=L.t0;have a0:=L.a0;have z0:=L.z0;have v0:=L.v0;have t3:=L.t3;have a3:=L.a3;have z3:=L.z3;have v3:=L.v3;have t4:=L.t4;have a4:=L.a4;have z4:=L.z4;have v4:=L.v4;have t24:=L.t24;have a24:=L.a24;have z24:=L.z24;have v24:=L.v24;have u0:=run_underlying L.t0;have u3:=run_underlying L.t3;have u4:=run_underlying L.t4;have aL:=run_underlying L.t24;have z9:∀w,(Go.sizeOf (ρ.t 9)).run P w= .ok i0.size w:=fun w=>by simp[sizeOf,typeInfo,zh]
 have mixed:=L.mixed;have AID:=aQ;simp only[CN]at AID;have hz1: ¬((m:Int)=0):=by omega
 have hz2: ¬((i:Int)=(n:Int)):=by omega
 generalize hk:i0.size=k at*
 have hmul:(i+m)*k<=(n+m)*k:=AME _ (by omega);have AIy:i*k<=n*k:=AME _ (by omega);have Ix:(i+m)*k<(n+m)*k:=Nat.mul_lt_mul_of_pos_right (by omega) hs0;have hnm:(n+m)*k=n*k+m*k:=ARK ..;have him:(i+m)*k=i*k+m*k:=ARK ..;have hov:∀lb cb,(callFunc (ρ.f 29) #[.slice (some va) m vc,.slice (some ⟨b,off+(i+m)*k,none⟩) lb cb]).run P w= .ok (.value (.bool false)) w:=fun lb cb=>by
  rw[run_callFunc_extern L.f29 L.n29 L.b29 L.e29 L.x29,
   nQ (ρ.t 24) (ρ.t 4) (ρ.t 9) L.t24 k z9 va ⟨b,off+(i+m)*k,none⟩ m vc lb cb hvb tA tB kA kB hsa hsb hkA (sY _ Ix).2 hfe]
  rfl
 have hdl:(cs.drop (i*k)).length=(n-i)*k:=by rw[AVX,qN,ATV]
 have hw1:IntKind.i64.wrap ((i:Int)+(m:Int))=(i:Int)+(m:Int):=by rw[IntKind.wrap_i64];omega
 have hb1:(0:Int)<=(i:Int)+(m:Int):=by omega
 have Qt:i<=n:=by omega
 have htn:((i:Int)+(m:Int)).toNat=i+m:=by omega
 have hb2: ¬(c=i+m):=by omega
 have hb3:(i:Int)<=(n:Int)+(m:Int):=by omega
 have hb4: ¬(c=i):=by omega
 have AR2:∀ty dc sc,(Builtin.copy_ #[(ρ.t 24),(ρ.t 24)] ty #[.slice (some ⟨b,off+(i+m)*k,none⟩) (n+m-(i+m)) dc,.slice (some ⟨b,off+i*k,none⟩) (n+m-i) sc]).run P w.drew= .ok (goInt (n-i:Nat)) (w.drew.setCells b (off+(i+m)*k) (cs.drop (i*k))):=fun ty dc sc=>
  e9 (n:=n-i) L.t24 zh (by simp only[Nat.min_def];split<;>omega) (fun W hW=>by
   subst hW;simp only[Builtin.firstCells,hk];have hl:Bg w.drew b (off+i*k) (cs.drop (i*k)):=fun j v hj=>by
    rw[ASJ]at hj;have:=zr _ v hj
    rwa [<-ARS]at this
   rw[<-hdl];exact L_ hl) (fun j hj=>by
    rw[hdl]at hj;have:(i+m)*k+j<(n+m)*k:=by
     rw[hnm,him];have:(n-i)*k=n*k-i*k:=ATV ..;omega
    have:=sY _ this;rw[<-ARS]at this;exact this) (fun v hv=>h1c v (ASp hv))
 obtain⟨W1,hW1⟩:∃W1,W1=w.drew.setCells b (off+(i+m)*k) (cs.drop (i*k)):=⟨_,rfl⟩;have AYa:W1.heap[va.block]? =w.heap[va.block]?:=by rw[hW1];exact DK _ _ _ _ _ hvb
 have AM6:W1.there b (off+i*k) vs.length:=fun j hj=>by
  rw[hvl]at hj;have h0:=sY (i*k+j) (by omega);rw[<-ARS]at h0;rw[hW1];refine⟨?_,?_⟩
  ·refine isSome_setCells b _ _ _ (fun t ht=> ?_) _ h0.1
   rw[hdl]at ht;have h2:(i+m)*k+t<(n+m)*k:=by
    rw[hnm,him];have:(n-i)*k=n*k-i*k:=ATV ..;omega
   have:=(sY _ h2).1;rw[<-ARS]at this;exact this
  ·rw[World.frozen?_setCells]
   exact h0.2
 have AYq:∀(W:World),(∀x,W.cell? x=W1.cell? x)->(∀x,W.frozen? x=W1.frozen? x)->W.heap=W1.heap-> ∀ty dc,(Builtin.copy_ #[(ρ.t 24),(ρ.t 24)] ty #[.slice (some ⟨b,off+i*k,none⟩) (n+m-i) dc,.slice (some va) m vc]).run P W= .ok (goInt m) (W.setCells b (off+i*k) vs):=fun W hWc hWf xw ty dc=>
  e9 (n:=m) L.t24 zh (by simp only[Nat.min_def];split<;>omega) (fun V hV=>by subst hV;rw[hk];exact Xe _ (by rw[xw];exact AYa)) (fun j hj=>⟨by rw[hWc];exact(AM6 j hj).1,by rw[hWf];exact(AM6 j hj).2⟩) h1v
 rw[<-hW1]at AR2;obtain⟨vab,vao,vas⟩:=va;clear hmul AIy Ix hnm him sY AM6 zr hdl
 go_enter L.f22,Body2.n22_ntmps ρ
 go_wp2_with (simp only[hov])
 go_region_law_o (refine step_copy_runI rfl _ _ (ρ.t 24) (ρ.t 24) rfl _ _ (by simp[Act.eval,Act.put]) (by simp[Act.eval,Act.put]) (AR2 _ _ _) ?_)
 go_wp2_with (at_builtin;refine wpList_copy_runI _ rfl _ _ (ρ.t 24) (ρ.t 24) rfl _ _ rfl rfl (AYq _ (fun _=>rfl) (fun _=>rfl) rfl _ _) ?_)
 go_ret
 first|exact⟨rfl,_,rfl,⟨rfl,rfl,rfl,AMN _⟩,rfl⟩|exact⟨rfl,w.drew,rfl,⟨rfl,rfl,rfl,AMN _⟩,by first|rfl|rw[hW1]⟩
set_option maxHeartbeats 4000000 in
set_option maxRecDepth 100000 in
theorem AIq(L:hU P ρ nm fv){i0:TypeInfo}(zh:P.info? (ρ.t 9)=some i0)(b off n c:Nat)(va:Addr)(m vc:Nat)(vs:List Value)(w:World)(hm:0<m)(U7:n+m<=c)
  (sY:w.there b (off+n*i0.size) vs.length) (hn:oP P w i0.size m (.slice (some va) m vc) vs) (h1v:∀v∈vs,v.oneCell' =true):
  Calls P (ρ.f 22) #[.slice (some ⟨b,off,none⟩) n c,.int .i64 n,.slice (some va) m vc] w fun e w' =>
   e= .returned (.slice (some ⟨b,off,none⟩) (n+m) c)/\w' =w.setCells b (off+n*i0.size) vs:=by
 have t0:=L.t0;have a0:=L.a0;have z0:=L.z0;have v0:=L.v0;have t3:=L.t3;have a3:=L.a3;have z3:=L.z3;have v3:=L.v3;have t4:=L.t4;have a4:=L.a4;have z4:=L.z4;have v4:=L.v4;have t24:=L.t24;have a24:=L.a24;have z24:=L.z24;have v24:=L.v24;have u0:=run_underlying L.t0;have u3:=run_underlying L.t3;have u4:=run_underlying L.t4;have aL:=run_underlying L.t24;have z9:∀w,(Go.sizeOf (ρ.t 9)).run P w= .ok i0.size w:=fun w=>by simp[sizeOf,typeInfo,zh]
 have mixed:=L.mixed;have hz1: ¬((m:Int)=0):=by omega
 have pT:∀ty,(Builtin.append_ #[(ρ.t 24),(ρ.t 24)] ty #[.slice (some ⟨b,off,none⟩) n c,.slice (some va) m vc]).run P w=_:=fun ty=>
  jh (ts:= #[(ρ.t 24),(ρ.t 24)]) (ty:=ty) rfl rfl L.t24 (.inl ⟨_,L.t24⟩) zh rfl hn U7 sY h1v
 clear sY hn
 generalize hk:i0.size=k at*
 obtain⟨vab,vao,vas⟩:=va
 go_enter L.f22,Body2.n22_ntmps ρ
 go_wp2_with (at_builtin;refine Lib.wpList_append_run _ rfl _ _ (ρ.t 24) (ρ.t 24) rfl _ _ rfl rfl _ _ (pT _) ?_)
 go_ret
 exact⟨rfl,rfl⟩
set_option maxHeartbeats 4000000 in
set_option maxRecDepth 100000 in
theorem AIj(L:hU P ρ nm fv){i0:TypeInfo}{z:Value}(zh:P.info? (ρ.t 9)=some i0)(hz:i0.zero=some z)(hby:i0.bytes<=512)(ad:Option Addr)(n c:Nat)(va:Addr)(m vc:Nat)(cs vs:List Value)(w:World)(hm:0<m)(hnc:n<=c)(U7:c<n+m)(aQ:n+m<=CN)
  (ho:∀w',w'.heap=w.heap->(Builtin.firstCells i0.size n (.slice ad n c)).run P w' = .ok cs.toArray w') (hn:oP P w i0.size m (.slice (some va) m vc) vs):
  Calls P (ρ.f 22) #[.slice ad n c,.int .i64 n,.slice (some va) m vc] w fun e w' =>
   e= .returned (.slice (some ⟨w.heap.size,0,none⟩) (n+m) (grownCap w (n+m) c (ρ.t 9)))/\
   w' =w.drew.alloc (.cells (cs.toArray++vs.toArray++Builtin.zeroCells z.cells (grownCap w (n+m) c (ρ.t 9)-(n+m))) (ρ.t 9)):=by
 have t0:=L.t0;have a0:=L.a0;have z0:=L.z0;have v0:=L.v0;have t3:=L.t3;have a3:=L.a3;have z3:=L.z3;have v3:=L.v3;have t4:=L.t4;have a4:=L.a4;have z4:=L.z4;have v4:=L.v4;have t24:=L.t24;have a24:=L.a24;have z24:=L.z24;have v24:=L.v24;have u0:=run_underlying L.t0;have u3:=run_underlying L.t3;have u4:=run_underlying L.t4;have aL:=run_underlying L.t24;have z9:∀w,(Go.sizeOf (ρ.t 9)).run P w= .ok i0.size w:=fun w=>by simp[sizeOf,typeInfo,zh]
 have mixed:=L.mixed;have hz1: ¬((m:Int)=0):=by omega
 have pT:∀ty,(Builtin.append_ #[(ρ.t 24),(ρ.t 24)] ty #[.slice ad n c,.slice (some va) m vc]).run P w=_:=fun ty=>
  ft (ts:= #[(ρ.t 24),(ρ.t 24)]) (ty:=ty) rfl rfl L.t24 (.inl ⟨_,L.t24⟩) zh hz rfl ho hn U7 aQ hby
 clear hn ho
 obtain⟨W1,hW1⟩:∃W1,W1=w.drew.alloc (.cells (cs.toArray++vs.toArray++Builtin.zeroCells z.cells (grownCap w (n+m) c (ρ.t 9)-(n+m))) (ρ.t 9)):=⟨_,rfl⟩;rw[<-hW1]at pT|-;clear hW1
 generalize hk:i0.size=k at*
 obtain⟨vab,vao,vas⟩:=va
 go_enter L.f22,Body2.n22_ntmps ρ
 cases ad with
 |none=>
  go_wp2_with (at_builtin;refine Lib.wpList_append_run _ rfl _ _ (ρ.t 24) (ρ.t 24) rfl _ _ rfl rfl _ _ (pT _) ?_)
  all_goals (go_ret;exact⟨rfl,rfl⟩)
 |some a=>
  obtain⟨ab,ao,asp⟩:=a
  go_wp2_with (at_builtin;refine Lib.wpList_append_run _ rfl _ _ (ρ.t 24) (ρ.t 24) rfl _ _ rfl rfl _ _ (pT _) ?_)
  all_goals (go_ret;exact⟨rfl,rfl⟩)
set_option maxHeartbeats 4000000 in
set_option maxRecDepth 100000 in
theorem AKC(L:hU P ρ nm fv){i0:TypeInfo}{z:Value}(zh:P.info? (ρ.t 9)=some i0)(hz:i0.zero=some z)(hzl:z.cells.size=i0.size)(hs0:0<i0.size)(hby:i0.bytes<=512)(b off n c i:Nat)(va:Addr)(m vc:Nat)(cs vs:List Value)(w:World)(hi:i<n)(hm:0<m)(hnc:n<=c)(U7:c<n+m)(aQ:n+m<=CN)
  (qN:cs.length=n*i0.size) (hvl:vs.length=m*i0.size) (hbw:b<w.heap.size) (zr:Bg w b off cs) (hvw:va.block<w.heap.size)
  (Xe:∀W:World,W.heap[va.block]? =w.heap[va.block]?->(Builtin.firstCells i0.size m (.slice (some va) m vc)).run P W= .ok vs.toArray W) (h1c:∀v∈cs,v.oneCell' =true) (h1v:∀v∈vs,v.oneCell' =true):
  Calls P (ρ.f 22) #[.slice (some ⟨b,off,none⟩) n c,.int .i64 i,.slice (some va) m vc] w fun e w' =>
   e= .returned (.slice (some ⟨w.heap.size,0,none⟩) (n+m) (grownCap w (n+m) c (ρ.t 9)))/\
   ∃W:World,W.heap=w.heap.push (.cells ((cs.take (i*i0.size)).toArray++Builtin.zeroCells z.cells (n+m-i)++Builtin.zeroCells z.cells (grownCap w (n+m) c (ρ.t 9)-(n+m))) (ρ.t 9))/\W.os=w.os/\W.tape=w.tape/\W.output=w.output/\
    w' =(W.setCells w.heap.size (i*i0.size) vs).setCells w.heap.size ((i+m)*i0.size) (cs.drop (i*i0.size)):=by
 have t0:=L.t0;have a0:=L.a0;have z0:=L.z0;have v0:=L.v0;have t3:=L.t3;have a3:=L.a3;have z3:=L.z3;have v3:=L.v3;have t4:=L.t4;have a4:=L.a4;have z4:=L.z4;have v4:=L.v4;have t24:=L.t24;have a24:=L.a24;have z24:=L.z24;have v24:=L.v24;have u0:=run_underlying L.t0;have u3:=run_underlying L.t3;have u4:=run_underlying L.t4;have aL:=run_underlying L.t24;have z9:∀w,(Go.sizeOf (ρ.t 9)).run P w= .ok i0.size w:=fun w=>by simp[sizeOf,typeInfo,zh]
 have mixed:=L.mixed;have AID:=aQ;simp only[CN]at AID;have hz1: ¬((m:Int)=0):=by omega
 have hz2: ¬((i:Int)=(n:Int)):=by omega
 have hz3:(c:Int)<(n:Int)+(m:Int):=by omega
 have hkk:(n:Int)+(m:Int)-(i:Int)=((n+m-i:Nat):Int):=by omega
 have hik:i+(n+m-i)=n+m:=by omega
 have AIy:i*i0.size<=n*i0.size:=AME _ (by omega);have hnm:(n+m)*i0.size=n*i0.size+m*i0.size:=ARK ..;have him:(i+m)*i0.size=i*i0.size+m*i0.size:=ARK ..;have hni:(n-i)*i0.size=n*i0.size-i*i0.size:=ATV ..;have hold:(Builtin.firstCells i0.size i (.slice (some ⟨b,off,none⟩) i c)).run P w.drew= .ok (cs.take (i*i0.size)).toArray w.drew:=by
  simp only[Builtin.firstCells];have hl:(cs.take (i*i0.size)).length=i*i0.size:=by rw[AT_];omega
  have hca:Bg w.drew b off (cs.take (i*i0.size)):=fun j v hj=>by
   rw[AR8]at hj;split at hj
   ·exact zr j v hj
   ·cases hj
  conv=>lhs;rw[<-hl]
  exact L_ hca
 have ASY:(n+m)*i0.bytes<=140737488355328:=by
  have:(n+m)*i0.bytes<=CN*512:=AV0 aQ hby;simp only[CN]at this;omega
 have ALT:(n+m-i)*i0.bytes<=281474976710656:=by
  have:(n+m-i)*i0.bytes<=(n+m)*i0.bytes:=AME _ (by omega);omega
 have hrz:∀ty,(Builtin.append_ #[(ρ.t 24),(ρ.t 3)] ty #[.slice (some ⟨b,off,none⟩) i c,.int .i64 ((n:Int)+(m:Int)-(i:Int))]).run P w=
   .ok (.slice (some ⟨w.heap.size,0,none⟩) (n+m) (grownCap w (n+m) c (ρ.t 9))) (w.drew.alloc (.cells ((cs.take (i*i0.size)).toArray++Builtin.zeroCells z.cells (n+m-i)++Builtin.zeroCells z.cells (grownCap w (n+m) c (ρ.t 9)-(n+m))) (ρ.t 9))):=fun ty=>by
  have h:=Lib.run_append_grow_zeros w (ρ.t 24) (ρ.t 3) ty (ρ.t 9) i0 z .i64 .i64 L.t24 L.t3 zh hz (some ⟨b,off,none⟩) i c (cs.take (i*i0.size)) hold (n+m-i) (by omega) hs0 (by omega) (by omega) ALT (by rw[hik];exact growslice_fits U7 ASY);rw[hik]at h;rw[hkk];exact h
 have hGn:n+m<=grownCap w (n+m) c (ρ.t 9):=grownCap_ge w _ _ _;have AWW:grownCap w (n+m) c (ρ.t 9)<=9223372036854775807:=by
  have:=grownCap_le_maxLen w (n+m) c (ρ.t 9) (by unfold maxLen;omega);unfold maxLen at this;omega
 obtain⟨G,hG⟩:∃G,G=grownCap w (n+m) c (ρ.t 9):=⟨_,rfl⟩;rw[<-hG]at hrz hGn AWW|-;obtain⟨ROW,AFT⟩:∃ROW:Array Value,ROW=(cs.take (i*i0.size)).toArray++Builtin.zeroCells z.cells (n+m-i)++Builtin.zeroCells z.cells (G-(n+m)):=⟨_,rfl⟩;rw[<-AFT]at hrz|-;have hRl:(n+m)*i0.size<=ROW.size:=by
  rw[AFT];simp only[AVg,AVh,size_zeroCells,hzl,AT_];have e1:(n+m-i)*i0.size=(n+m)*i0.size-i*i0.size:=ATV ..;omega
 obtain⟨W1,hW1⟩:∃W1,W1=w.drew.alloc (.cells ROW (ρ.t 9)):=⟨_,rfl⟩;rw[<-hW1]at hrz;have AJ3:W1.heap[w.heap.size]? =some (.cells ROW (ρ.t 9)):=by
  rw[hW1]
  show(w.heap.push (.cells ROW (ρ.t 9)))[w.heap.size]? =_
  simp
 have AHa:∀x,x<w.heap.size->W1.heap[x]? =w.heap[x]?:=fun x hx=>by rw[hW1];exact JH hx
 have hN:∀o l,o+l<=(n+m)*i0.size->W1.there w.heap.size o l:=fun o l h=>Wh (k:=1) AJ3 (by omega) (Yt _)
 have hdl:(cs.drop (i*i0.size)).length=(n-i)*i0.size:=by rw[AVX,qN,hni]
 have AWt:∀(W:World),(∀x,W.cell? x=W1.cell? x)->(∀x,W.frozen? x=W1.frozen? x)->W.heap=W1.heap-> ∀ty dc,(Builtin.copy_ #[(ρ.t 24),(ρ.t 24)] ty #[.slice (some ⟨w.heap.size,i*i0.size,none⟩) (n+m-i) dc,.slice (some va) m vc]).run P W= .ok (goInt m) (W.setCells w.heap.size (i*i0.size) vs):=fun W hWc hWf xw ty dc=>
  e9 (n:=m) L.t24 zh (by simp only[Nat.min_def];split<;>omega) (fun V hV=>by subst hV;exact Xe _ (by rw[xw];exact AHa _ hvw)) (fun j hj=>by
   have:=hN (i*i0.size) (m*i0.size) (by omega) j (by omega);exact⟨by rw[hWc];exact this.1,by rw[hWf];exact this.2⟩) h1v
 have AUD:∀(W:World),(∀x,W.cell? x=(W1.setCells w.heap.size (i*i0.size) vs).cell? x)->(∀x,W.frozen? x=(W1.setCells w.heap.size (i*i0.size) vs).frozen? x)->W.heap=(W1.setCells w.heap.size (i*i0.size) vs).heap-> ∀ty dc sc,(Builtin.copy_ #[(ρ.t 24),(ρ.t 24)] ty #[.slice (some ⟨w.heap.size,(i+m)*i0.size,none⟩) (n+m-(i+m)) dc,.slice (some ⟨b,off+i*i0.size,none⟩) (n-i) sc]).run P W= .ok (goInt (n-i:Nat)) (W.setCells w.heap.size ((i+m)*i0.size) (cs.drop (i*i0.size))):=fun W hWc hWf xw ty dc sc=>
  e9 (n:=n-i) L.t24 zh (by simp only[Nat.min_def];split<;>omega) (fun V hV=>by
   subst hV;simp only[Builtin.firstCells];rw[<-hdl];refine L_ fun j v hj=> ?_
   rw[ASJ]at hj;have h3:=zr _ v hj;rw[<-ARS]at h3;rw[<-h3];refine World.cell?_of_block (a:=⟨b,off+i*i0.size+j,none⟩) ?_
   rw[xw,DK _ _ _ _ _ (show b≠w.heap.size by omega)];exact AHa b hbw) (fun j hj=>by
   have hb:W1.there w.heap.size ((i+m)*i0.size) (cs.drop (i*i0.size)).length:=hN _ _ (by omega);refine⟨?_,?_⟩
   ·rw[hWc]
    exact isSome_setCells _ _ _ _ (fun t ht=>(hN (i*i0.size) vs.length (by omega) t ht).1) _ (hb j hj).1
   ·rw[hWf,World.frozen?_setCells]
    exact(hb j hj).2) (fun v hv=>h1c v (ASp hv))
 generalize hk:i0.size=k at*
 have hE1:∀x,((w.alloc (.cells ROW (ρ.t 9))).drew).cell? x=W1.cell? x:=fun x=>by rw[hW1];rfl
 have hE2:∀x,((w.alloc (.cells ROW (ρ.t 9))).drew).frozen? x=W1.frozen? x:=fun x=>by rw[hW1];rfl
 have hE3:((w.alloc (.cells ROW (ρ.t 9))).drew).heap=W1.heap:=by rw[hW1];rfl
 have hF1:∀x,(((w.alloc (.cells ROW (ρ.t 9))).drew.setCells w.heap.size (i*k) vs).drew).cell? x=(W1.setCells w.heap.size (i*k) vs).cell? x:=fun x=>by rw[hW1];rfl
 have hF2:∀x,(((w.alloc (.cells ROW (ρ.t 9))).drew.setCells w.heap.size (i*k) vs).drew).frozen? x=(W1.setCells w.heap.size (i*k) vs).frozen? x:=fun x=>by rw[hW1];rfl
 have hF3:(((w.alloc (.cells ROW (ρ.t 9))).drew.setCells w.heap.size (i*k) vs).drew).heap=(W1.setCells w.heap.size (i*k) vs).heap:=by rw[hW1];rfl
 have hw1:IntKind.i64.wrap ((i:Int)+(m:Int))=(i:Int)+(m:Int):=by rw[IntKind.wrap_i64];omega
 have hb1:(0:Int)<=(i:Int)+(m:Int):=by omega
 have Qt:i<=n:=by omega
 have htn:((i:Int)+(m:Int)).toNat=i+m:=by omega
 have hb3:(i:Int)<=(n:Int):=by omega
 have hGi: ¬(G=i):=by omega
 have AdN: ¬(G=i+m):=by omega
 have hci: ¬(c=i):=by omega
 subst hW1;clear hkk hik hold AFT hG hRl AIy hnm him hni hdl hN zr Xe AJ3 AHa ASY ALT;obtain⟨vab,vao,vas⟩:=va
 go_enter L.f22,Body2.n22_ntmps ρ
 go_wp2_with (first
  |(at_builtin;refine Lib.wpList_append_run _ rfl _ _ _ _ rfl _ _ rfl rfl _ _ (hrz _) ?_)
  |(at_builtin;refine wpList_copy_runI _ rfl _ _ (ρ.t 24) (ρ.t 24) rfl _ _ rfl rfl (AWt _ hE1 hE2 hE3 _ _) ?_)
  |(at_builtin;refine wpList_copy_runI _ rfl _ _ (ρ.t 24) (ρ.t 24) rfl _ _ rfl rfl (AUD _ (fun _=>rfl) (fun _=>rfl) rfl _ _ _) ?_))
 go_region_law_o (refine step_copy_runI rfl _ _ (ρ.t 24) (ρ.t 24) rfl (.slice (some ⟨w.heap.size,(i+m)*k,none⟩) (n+m-(i+m)) (G-(i+m))) (.slice (some ⟨b,off+i*k,none⟩) (n-i) (c-i)) (by simp[Act.eval,Act.put]) (by simp[Act.eval,Act.put]) (AUD _ hF1 hF2 hF3 (ρ.t 3) (G-(i+m)) (c-i)) ?_)
 go_wp2
 go_ret
 refine⟨rfl,((w.alloc (.cells ROW (ρ.t 9))).drew).drew,rfl,rfl,rfl,rfl,?_⟩;rw[drew_setCells]
end
end Go.Fw
end
section
namespace Go.Fw
open Go.Proofs Go.Shelf Go.RowKit Go.Lib
def Flat(w:World)(r:Ty)(css:List (List Value))(rows:List r.D):Prop:=
 css.length=rows.length/\(∀c∈css,c.length=r.n)/\ ∀(i:Nat) cs y,css[i]? =some cs->rows[i]? =some y->Rd w (fun _=>False) r cs y
theorem Flat.to{w w':World}{r:Ty}(hf:r.flat=true){css:List (List Value)}{rows:List r.D}(h:Flat w r css rows):Flat w' r css rows:=
 ⟨h.1,h.2.1,fun i cs y a b=>i_ hf (h.2.2 i cs y a b)⟩
theorem Flat.take{w:World}{r:Ty}{css:List (List Value)}{rows:List r.D}(h:Flat w r css rows)(n:Nat):Flat w r (css.take n) (rows.take n):=by
 refine⟨by simp[h.1],fun c hc=>h.2.1 c (AVM hc),fun i cs y a b=> ?_⟩;rw[AR8]at a b;split at a
 ·rename_i hi
  rw[AJe hi]at b;exact h.2.2 i cs y a b
 simp_all
theorem Flat.drop{w:World}{r:Ty}{css:List (List Value)}{rows:List r.D}(h:Flat w r css rows)(n:Nat):Flat w r (css.drop n) (rows.drop n):=by
 refine⟨by simp[h.1],fun c hc=>h.2.1 c (ASp hc),fun i cs y a b=> ?_⟩;rw[ASJ]at a b;exact h.2.2 _ cs y a b
theorem Flat.append{w:World}{r:Ty}{css xL:List (List Value)}{rows ATl:List r.D}(h:Flat w r css rows)(k:Flat w r xL ATl):Flat w r (css++xL) (rows++ATl):=by
 refine⟨by simp[h.1,k.1],fun c hc=>(AMt.1 hc).elim (h.2.1 c) (k.2.1 c),fun i cs y a b=> ?_⟩;by_cases hi:i<rows.length
 ·rw[AMB (by rw[h.1];omega)]at a
  rw[AMB hi]at b;exact h.2.2 i cs y a b
 ·rw[AMM (by rw[h.1];omega)]at a
  rw[AMM (by omega)]at b;rw[h.1]at a;exact k.2.2 _ cs y a b
theorem Flat.one{w:World}{r:Ty}(hf:r.flat=true){css:List (List Value)}{rows:List r.D}(h:Flat w r css rows):∀v∈css.flatten,v.oneCell' =true:=by
 intro v hv;obtain⟨c,hc,hv⟩:=APz.1 hv;obtain⟨i,hi,rfl⟩:=AQA hc;have h1:=h.1;exact oV (nE (S:=fun _=>False) (d:=0) hf (h.2.2 i _ _ (AKT hi) (AKT (by omega)))) v hv
theorem Flat.at{w:World}{S:Nat->Prop}{d:Nat}{r:Ty}(hf:r.flat=true){css:List (List Value)}{rows:List r.D}(h:Flat w r css rows):FM w S d r css rows (List.replicate rows.length []):=FM.flat hf h.1 h.2.1 h.2.2
theorem AJ_{w:World}{S:Nat->Prop}{r:Ty}(hf:r.flat=true){css:List (List Value)}{rows:List r.D}{Fs:List ABy}{d:Nat}(h:FM w S d r css rows Fs):Flat w r css rows:=by
 refine⟨h.1,h.2.2.1,fun i cs y a b=> ?_⟩;have hi:=(AK1.1 b).1;have h2:=h.2.1;exact i_ hf (ZY (h.2.2.2 i cs y (Fs[i]'(by omega)) a b (AKT _)))
theorem Flat.xf{w:World}{r:Ty}{css:List (List Value)}{rows:List r.D}(h:Flat w r css rows)(n:Nat)(hn:n<=rows.length):css.flatten.take (n*r.n)=(css.take n).flatten:=by
 have h1:((css.take n).flatten).length=n*r.n:=by
  rw[H5 (n:=r.n) (fun c hc=>h.2.1 c (AVM hc)),AT_,h.1,Nat.min_eq_left hn]
 grind[List.take_append_drop,List.flatten_append,List.take_of_length_le]
theorem Flat.xk{w:World}{r:Ty}{css:List (List Value)}{rows:List r.D}(h:Flat w r css rows)(n:Nat)(hn:n<=rows.length):css.flatten.drop (n*r.n)=(css.drop n).flatten:=by
 have h1:((css.take n).flatten).length=n*r.n:=by
  rw[H5 (n:=r.n) (fun c hc=>h.2.1 c (AVM hc)),AT_,h.1,Nat.min_eq_left hn]
 grind[List.take_append_drop,List.flatten_append,List.drop_eq_nil_of_le]
theorem lu{w:World}{S:Nat->Prop}{d b o cap:Nat}{r:Ty}{rows:List r.D}{css:List (List Value)}{Fs:List ABy}{arr:Array Value}{ty:TypeId}{fr:AEG}(h:FM w S d r css rows Fs)(hb:w.heap[b]? =some (.cells arr ty fr))
  (hc:Bg w b o css.flatten) (ADD:rows.length<=cap) (LP:o+cap*r.n<=arr.size) (hu:AAX fr (arr.size+mk r)):Ow w S (d+1) (.sl r) [.slice (some ⟨b,o,none⟩) rows.length cap] rows (b::Fs.flatten):=by
 simp only[Ow];refine⟨_,cap,rfl,ADD,.inr ⟨b,o,arr,ty,fr,Fs,rfl,hb,LP,hu,rfl,h.2.1,fun j q G hq hG=> ?_⟩⟩;have hj:=(AK1.1 hq).1;have h1:=h.1;have hjl:j<css.length:=by omega
 refine⟨css[j],h.2.2.1 _ (ALk _),fun x u hx=> ?_,h.2.2.2 j _ _ _ (AKT hjl) hq hG⟩;have hxl:=(AK1.1 hx).1;rw[h.2.2.1 _ (ALk _)]at hxl;have:=bT (n:=r.n) (css:=css) (ex:=[]) (i:=j) h.2.2.1 (AKT hjl) hxl;rw[ALu,hx]at this;have:=hc _ _ this;grind
theorem qL{w:World}{b o:Nat}{A V B:List Value}{arr:Array Value}{ty:TypeId}{fr:AEG}(hb:w.heap[b]? =some (.cells arr ty fr))(hs:o+(A.length+V.length)+B.length<=arr.size)(hA:Bg w b o A):
  ∃Ku,((w.setCells b (o+(A.length+V.length)) B).setCells b (o+A.length) V).heap[b]? =some (.cells Ku ty fr)/\Ku.size=arr.size/\Bg ((w.setCells b (o+(A.length+V.length)) B).setCells b (o+A.length) V) b o (A++V++B):=by
 have h1:=Fl B (o+(A.length+V.length)) w b arr ty fr hb;have z1:(FL arr (o+(A.length+V.length)) B).size=arr.size:=Fh ..;have h2:=Fl V (o+A.length) _ b _ ty fr h1;grind[PS,Fh,Bg.append,WO,List.length_append]
theorem l4{w:World}{b o:Nat}{A V B:List Value}{arr:Array Value}{ty:TypeId}{fr:AEG}(hb:w.heap[b]? =some (.cells arr ty fr))(hs:o+(A.length+V.length)+B.length<=arr.size)(hA:Bg w b o A):
  ∃Ku,((w.setCells b (o+A.length) V).setCells b (o+(A.length+V.length)) B).heap[b]? =some (.cells Ku ty fr)/\Ku.size=arr.size/\Bg ((w.setCells b (o+A.length) V).setCells b (o+(A.length+V.length)) B) b o (A++V++B):=by
 have h1:=Fl V (o+A.length) w b arr ty fr hb;have z1:(FL arr (o+A.length) V).size=arr.size:=Fh ..;have h2:=Fl B (o+(A.length+V.length)) _ b _ ty fr h1;grind[PS,Fh,Bg.append,WO,List.length_append]
@[reducible] def xo (r:Ty):Bb:=⟨[(0,.c (.ref 0)),(1,.c (.v (.int .i64))),(2,.c (.sl false r))],[.sl 1 r]⟩
@[reducible] def ADj (r:Ty):Bb:=⟨[(0,.c (.ref 1))],[.gone,.sl 1 r]⟩
theorem AEE{P:Program}{f:Nat}{args:Array Value}{E:Env}{w:World}{r:Ty}{d:Nat}(hd:1<=d){F:ABy}(hS:Sep E w F){l:List r.D}{Q:Ending->World->Prop}
  (h:Calls P f args w Q) (hq:∀e w',Q e w'-> ∃v F',e= .returned v/\isSlice v=true/\Ow w' E.S d (.sl r) [v] l F'/\F'.Nodup/\(∀c∈F',¬E.T c/\c<w'.heap.size)/\(∀c,E.T c->w'.heap[c]? =w.heap[c]?)/\Grown w w'):
  Calls P f args w fun e w' => ∃x E',e= .returned x/\gb E w E' w'/\C2 E' w' [.dead,.sl d r l] [.dead,.sl d r l] []/\
   NK E' w' [.dead,.sl d r l] id [(0,.c (.ref 1))] ((),()) [x]/\ ∀i,i<1->alive [.gone,.sl d r] i=true->E'.IG i=E.IG i/\E'.IF i=E.IF i:=by
 refine h.mono fun e w' hh=> ?_
 obtain⟨v,F',rfl,hv,ho,nd,hfr,hT,hg⟩:=hq e w' hh
 let E':Env:={ E with IF:=fun n=>if n=1 then v else E.IF n }
 refine⟨v,E',rfl,⟨fun _ h=>h,fun _ h=>h,fun _ h=> .inl h,fun _ h=> .inl h,hT,hg.os,hg.tape,hg.output,hg.size⟩,⟨[[],F'],⟨rfl,fun k B F hB hF=> ?_⟩,?_⟩,?_,fun i hi ha=> ?_⟩
 ·match k with
  |0=>
   simp at hB hF;subst hB hF;rfl
  |1=>
   simp at hB hF;subst hB hF;exact⟨hd,ho⟩
  |k+2=>simp at hB
 ·refine⟨by simpa using nd,fun c hc=>(hfr c (by simpa using hc)).1,fun c hc=>(hfr c (by simpa using hc)).2,hS.st,fun c hc=>AQQ (hS.eG c hc) hg.size,hS.vz.mono (fun _ h=>h) hT⟩
 ·refine⟨⟨v,rfl,?_⟩,trivial⟩
  refine⟨hv,?_⟩
  show DC r l []/\(∃q,G8 r l []=some q)/\JC w' (E'.IF 1) []=some v
  refine⟨trivial,⟨_,rfl⟩,?_⟩;rw[C1];simp[E']
 ·have:i=0:=by omega
  subst this;simp[alive]at ha
end Go.Fw
end
section
namespace Go.Fw
open Go.M Go.Proofs Go.Shelf Go.RowKit Go.Lib
theorem AAz{w:World}{b:Nat}{arr:Array Value}{ty:TypeId}{fr:AEG}(h:w.heap[b]? =some (.cells arr ty fr)):w.shape? b=some (ty,arr.size):=by
 simp[World.shape?,h]
theorem AIn{w:World}{b o:Nat}{v:Value}(h:w.cell? ⟨b,o,none⟩=some v):∃arr ty fr,w.heap[b]? =some (.cells arr ty fr)/\o<arr.size:=by
 unfold World.cell? at h;grind
theorem Grown.trans'{w w' w'':World}(h:Grown w w')(k:Grown w' w''):Grown w w'':=⟨k.os.trans h.os,k.tape.trans h.tape,k.output.trans h.output,APp h.size k.size⟩
theorem yE{P:Program}{T:Jr}{ρ:Ren}{nm:String}{fv:Func}(hT:Eb P T)(L:hU P ρ nm fv){r:Ty}(WG:T.N5 (ρ.t 24) r=true)(hf:r.flat=true)(cR:mk r=1)(hn0:0<r.n):
  L1 P (ρ.f 22) ⟨xo r,ADj r,fun v=>(ABA v.1.2.1 v.1.2.2.1 v.2.1).map fun l=>(((),()),((),l,()))⟩:=by
 refine⟨by simp[RU.ok,kinds,pJ,AP.MP,XP.MP,BP.MP],aB L.f22 L.n22 (by kernel_rfl),?_⟩;intro E w v args u ATv hB hS hg;obtain⟨⟨u0,p,vs,u1⟩,rows,u2⟩:=v;obtain⟨⟨⟨⟩,⟨⟩⟩,⟨⟩,l,⟨⟩⟩:=u;simp only[AKm]at hg;obtain⟨l',qR,hg⟩:=hg;simp only[APF,true_and,AQ6]at hg;subst hg;unfold ABA at qR;split at qR
 case isFalse=>cases qR
 rename_i hc;obtain⟨hp0,hp1,aQ⟩:=hc;obtain⟨p,rfl⟩:=ATw hp0;simp only[ALN,AKX]at qR;have hpn:p<=rows.length:=by omega
 obtain⟨⟨a0,h0,x0⟩,⟨a1,h1,x1⟩,⟨a2,h2,x2⟩,_⟩:=hS;have Io:args= #[a0,a1,a2]:=by
  have hl3:args.toList.length=3:=ATv;apply Array.ext'
  match hq:args.toList,hl3 with
  |[b0,b1,b2],_=>
   rw[hq]at h0 h1 h2;simp at h0 h1 h2;simp[h0,h1,h2]
 subst Io;have e0:E.IF 0=a0:=by
  have:VR E w [Bx.sl 1 r rows] (.ref 0 []) a0:=x0;simp only[VR]at this;obtain⟨_,_,_,h⟩:=this;rw[C1]at h;exact AVd h
 have e1:a1= .int .i64 (p:Int):=by
  have:VR E w [Bx.sl 1 r rows] (.v (.int .i64) (p:Int)) a1:=x1;simp only[VR,Rd,ANN,AQ6]at this;exact this.2
 have e2:Rd w E.T (.sl r) [a2] vs:=by
  have:VR E w [Bx.sl 1 r rows] (.sl false r vs) a2:=x2;simp only[VR]at this;simpa using this
 subst e1;obtain⟨Fs,⟨hFl,hFb⟩,hSep⟩:=hB;obtain⟨F,rfl⟩:∃F,Fs=[F]:=by
  match Fs,hFl with
  |[F],_=>exact⟨F,rfl⟩
 have AHM:=hFb 0 (.sl 1 r rows) F rfl rfl;obtain⟨_,ho⟩:=AHM;rw[e0]at ho;simp only[ARV,AT3,ALu]at hSep;have ho0:=ho;obtain⟨ad,cap,css,Fs1,R1,rfl,hle,hd,hp1',hcase⟩:=rv ho;have hd':=AJ_ hf hd;obtain⟨e,ti,hut,Wq,hs1,hby,hrow⟩:=Kv hT WG;obtain⟨i0,z,i1,i2,i3,i4,i5,pj⟩:=Yw hT Wq hrow;have he:e=ρ.t 9:=by
  have:=L.t24.symm.trans hut;simp at this;exact this.symm
 subst he;rw[hs1]at i2;have z9:∀w,(Go.sizeOf (ρ.t 9)).run P w= .ok r.n w:=fun w=>by simp[sizeOf,typeInfo,i1,i2]
 have hzl:z.cells.size=r.n:=by rw[<-ATJ,i5,G5]
 have e2':=e2;simp only[Rd]at e2;obtain⟨va,vc,dR,hvle,hvr⟩:=e2;simp only[ANN,AQ6]at dR;subst dR;have fin:∀{Q:Ending->World->Prop},Calls P (ρ.f 22) #[.slice ad rows.length cap,.int .i64 (p:Int),.slice va vs.length vc] w Q->
   (∀e w',Q e w'-> ∃v F',e= .returned v/\isSlice v=true/\Ow w' E.S 1 (.sl r) [v] l' F'/\F'.Nodup/\(∀c∈F',¬E.T c/\c<w'.heap.size)/\(∀c,E.T c->w'.heap[c]? =w.heap[c]?)/\Grown w w')->_:=fun h hq=>AEE (AMN 1) hSep h hq
 have qa:∀n:Nat,(List.replicate n ([]:ABy)).flatten=[]:=fun n=>by simp
 by_cases hm0:vs.length=0
 ·
  have AZ_:vs=[]:=ANT hm0;subst AZ_;have hl:rows=l':=by rw[<-qR,ALu,AVm]
  subst hl;refine fin (AIY (k:=r.n) L z9 ad rows.length cap p va vc w hpn hle) fun e w' h=> ?_
  obtain⟨rfl,rfl⟩:=h;exact⟨_,F,rfl,rfl,ho0,hSep.nodup,fun c hc=>⟨hSep.free c hc,hSep.lt c hc⟩,fun _ _=>rfl,⟨rfl,rfl,rfl,AMN _⟩⟩
 have hm:0<vs.length:=by omega
 rcases hvr with hvr|⟨vb,vo,rfl,hvT,hvr⟩
 ·exact absurd hvr hm0
 obtain⟨xL,c1,c2,c3,c4⟩:=uM hvr;have aj:Flat w r xL vs:=⟨c1,c2,fun i cs y a b=>i_ hf (c4 i cs y a b)⟩;have AC6:xL.flatten.length=vs.length*r.n:=by rw[H5 c2,c1]
 have AB7:css.flatten.length=rows.length*r.n:=by rw[H5 hd.2.2.1,hd.1]
 have ATA:0<xL.flatten.length:=by rw[AC6];exact Nat.mul_pos hm hn0
 obtain⟨arrv,tyv,frv,hbv,hov⟩:=AIn (c3 0 _ (AKT ATA));have AYU:vb<w.heap.size:=by
  by_cases hh:vb<w.heap.size
  ·exact hh
  ·rw[Array.getElem?_eq_none (by omega)]at hbv;cases hbv
 have qW:oP P w r.n vs.length (.slice (some ⟨vb,vo,none⟩) vs.length vc) xL.flatten:=SI c1 c2 (.inr ⟨vb,vo,rfl,c3⟩);have AT0:∀W:World,W.heap[vb]? =w.heap[vb]?->(Builtin.firstCells r.n vs.length (.slice (some ⟨vb,vo,none⟩) vs.length vc)).run P W= .ok xL.flatten.toArray W:=fun W hW=>by
  simp only[Builtin.firstCells];rw[<-AC6];exact L_ (c3.of_block hW)
 have ALH:=hd'.one hf;have AGM:=aj.one hf;by_cases U7:rows.length+vs.length<=cap
 ·rcases hcase with⟨h0,_⟩|⟨b,o,arr,ty,fr,rfl,hb,LP,hu,rfl,nD⟩
  ·omega
  have hbT: ¬E.T b:=hSep.free b (by simp);have AHT:b<w.heap.size:=hSep.lt b (by simp);have aO:vb≠b:=fun e=>hbT (e▸hvT)
  have Aai:(rows.length+vs.length)*r.n<=cap*r.n:=AME _ U7;have hnm:(rows.length+vs.length)*r.n=rows.length*r.n+vs.length*r.n:=ARK ..;by_cases hpe:p=rows.length
  ·subst hpe
   have hl:rows++vs=l':=by rw[<-qR,List.take_length,ARO,ALu]
   subst hl;have l6:=AIq (ρ:=ρ) L (i0:=i0) i1 b o rows.length cap ⟨vb,vo,none⟩ vs.length vc xL.flatten w hm U7 (by rw[i2];exact Wh (k:=mk r) hb (by omega) hu) (by rw[i2];exact qW) AGM;refine fin l6 fun e w' h=> ?_
   obtain⟨rfl,rfl⟩:=h;obtain⟨Ku,q1,q2,q3⟩:=qL (B:=[]) (V:=xL.flatten) hb (by simp only[APb];omega) nD;rw[AB7,<-i2]at q1 q3;simp only[World.setCells,ALu]at q1 q3;have hfl:=(hd'.append aj).to (w':=w.setCells b (o+rows.length*i0.size) xL.flatten) hf;refine⟨_,b::(List.replicate (rows++vs).length ([]:ABy)).flatten,rfl,rfl,?_,?_,?_,fun c hc=>DK _ _ _ _ _ (fun e=>hbT (e▸hc)),CG _ _ _ _⟩
   ·have:=lu (cap:=cap) (hfl.at (S:=E.S) (d:=0) hf) q1 (by rw[ARP];exact q3) (by rw[AMf];exact U7) (by rw[q2];exact LP) (by rw[q2];exact hu)
    rw[qa]at this|-;rw[AMf]at this;exact this
   ·simp
   ·intro c hc
    rw[qa]at hc;simp at hc;subst hc;exact⟨hbT,by rw[DY];exact AHT⟩
  ·have Ix:p<rows.length:=by omega
   have hpm:p*r.n<=rows.length*r.n:=AME _ hpn;have ANg:(p+vs.length)*r.n=p*r.n+vs.length*r.n:=ARK ..;have l6:=AEv (ρ:=ρ) L (i0:=i0) i1 (by rw[i2];exact hn0) b o rows.length cap p ⟨vb,vo,none⟩ vs.length vc css.flatten xL.flatten w Ix hm U7 aQ aO (by rw[i2];exact AB7) (by rw[i2];exact AC6) nD
    (by rw[i2];exact Wh (k:=mk r) hb (by omega) hu) (by rw[i2];exact AT0) ALH AGM tyv ty arrv.size arr.size (AAz hbv) (AAz hb) (by omega) (by
     have:=hu arr.size (by omega);obtain⟨lo,hi⟩:=fr;simp only[World.frozen?,hb];simp at this|-;omega)
   refine fin l6 fun e w' h=> ?_
   obtain⟨rfl,W,xw,hWg,rfl⟩:=h;have hA:(css.flatten.take (p*r.n)).length=p*r.n:=by rw[AT_];omega
   have hB:(css.flatten.drop (p*r.n)).length=rows.length*r.n-p*r.n:=by rw[AVX,AB7]
   have hbW:W.heap[b]? =some (.cells arr ty fr):=by rw[xw];exact hb
   have hcA:Bg W b o (css.flatten.take (p*r.n)):=Bg.heap (fun j v hj=>by
    rw[AR8]at hj;split at hj
    ·exact nD j v hj
    ·cases hj) xw
   obtain⟨Ku,q1,q2,q3⟩:=qL (B:=css.flatten.drop (p*r.n)) (V:=xL.flatten) hbW (by omega) hcA;rw[hA,AC6,<-ANg,<-i2]at q1 q3
   generalize pt:(W.setCells b (o+(p+vs.length)*i0.size) (css.flatten.drop (p*i0.size))).setCells b (o+p*i0.size) xL.flatten=w' at q1 q3
   have hfl:=(((hd'.take p).append aj).append (hd'.drop p)).to (w':=w') hf;rw[qR]at hfl;have xY:l'.length=rows.length+vs.length:=by rw[<-qR];simp;omega
   refine⟨_,b::(List.replicate l'.length ([]:ABy)).flatten,rfl,rfl,?_,?_,?_,fun c hc=> ?_,?_⟩
   ·have:=lu (cap:=cap) (hfl.at (S:=E.S) (d:=0) hf) q1 (by
     rw[ARP,ARP,<-hd'.xf p hpn,<-hd'.xk p hpn,<-i2];exact q3) (by rw[xY];exact U7) (by rw[q2];exact LP) (by rw[q2];exact hu)
    rw[qa]at this|-;rw[xY]at this;exact this
   ·simp
   ·intro c hc
    rw[qa]at hc;simp at hc;subst hc;refine⟨hbT,?_⟩;rw[<-pt,DY,DY,xw];exact AHT
   ·have hcb:c≠b:=fun e=>hbT (e▸hc)
    rw[<-pt,DK _ _ _ _ _ hcb,DK _ _ _ _ _ hcb,xw]
   ·rw[<-pt]
    exact Grown.trans' hWg (Grown.trans' (CG _ _ _ _) (CG _ _ _ _))
 ·have hgc:=grownCap_ge w (rows.length+vs.length) cap (ρ.t 9)
  by_cases hpe:p=rows.length
  ·subst hpe
   have hl:rows++vs=l':=by rw[<-qR,List.take_length,ARO,ALu]
   subst hl;have hold:rows.length=0\/ ∃b o,ad=some ⟨b,o,none⟩/\Bg w b o css.flatten:=by
    rcases hcase with⟨h0,_⟩|⟨b,of,arr,ty0,fr,rfl,hb,LP,hunf,rfl,hc⟩
    ·exact .inl (by omega)
    ·exact .inr ⟨b,of,rfl,hc⟩
   have l6:=AIj (ρ:=ρ) L (i0:=i0) (z:=z) i1 i4 (by omega) ad rows.length cap ⟨vb,vo,none⟩ vs.length vc css.flatten xL.flatten w hm hle (by omega) aQ (by rw[i2];exact jj hd.1 hd.2.2.1 hold) (by rw[i2];exact qW);refine fin l6 fun e w' h=> ?_
   obtain⟨rfl,rfl⟩:=h
   generalize grownCap w (rows.length+vs.length) cap (ρ.t 9)=gc at hgc|-
   generalize gP:css.flatten.toArray++xL.flatten.toArray++Builtin.zeroCells z.cells (gc-(rows.length+vs.length))=arr
   have hal:arr.toList=(css++xL).flatten++(Builtin.zeroCells z.cells (gc-(rows.length+vs.length))).toList:=by rw[<-gP];simp
   have AXj:arr.size=gc*r.n:=by
    rw[<-gP];simp only[AVg,AVh,cH,hzl,AC6,AB7,<-ARK];congr 1;omega
   have new:(w.drew.alloc (.cells arr (ρ.t 9))).heap[w.heap.size]? =some (.cells arr (ρ.t 9)):=by
    show(w.heap.push (.cells arr (ρ.t 9)))[w.heap.size]? =_
    simp
   have hfl:=(hd'.append aj).to (w':=w.drew.alloc (.cells arr (ρ.t 9))) hf;have hra:=hfl.at (S:=E.S) (d:=0) hf;refine⟨_,w.heap.size::(List.replicate (rows++vs).length ([]:ABy)).flatten,rfl,rfl,?_,?_,?_,fun c hc=>JH (hSep.eG c hc),⟨rfl,rfl,rfl,by show _<=(w.heap.push _).size;simp⟩⟩
   ·have:=iL (cap:=gc) new hal hra.1 (by rw[AMf];exact hgc) (by omega) (Yt _) hra.2.1 hra.2.2.2
    rw[qa]at this|-;rw[AMf]at this;exact this
   ·simp
   ·intro c hc
    rw[qa]at hc;simp at hc;subst hc;exact⟨fun hT' =>Nat.lt_irrefl _ (hSep.eG _ hT'),by show _<(w.heap.push _).size;simp⟩
  ·have Ix:p<rows.length:=by omega
   have hpm:p*r.n<=rows.length*r.n:=AME _ hpn;have ANg:(p+vs.length)*r.n=p*r.n+vs.length*r.n:=ARK ..;have hnm:(rows.length+vs.length)*r.n=rows.length*r.n+vs.length*r.n:=ARK ..;rcases hcase with⟨h0,_⟩|⟨b,o,arr,ty,fr,rfl,hb,LP,hu,rfl,nD⟩
   ·omega
   have AHT:b<w.heap.size:=hSep.lt b (by simp);have l6:=AKC (ρ:=ρ) L (i0:=i0) (z:=z) i1 i4 (by rw[i2];exact hzl) (by rw[i2];exact hn0) (by omega) b o rows.length cap p ⟨vb,vo,none⟩ vs.length vc css.flatten xL.flatten w Ix hm hle (by omega) aQ (by rw[i2];exact AB7) (by rw[i2];exact AC6) AHT nD AYU (by rw[i2];exact AT0) ALH AGM;refine fin l6 fun e w' h=> ?_
   obtain⟨rfl,W,xw,hWo,hWt,hWu,rfl⟩:=h
   generalize grownCap w (rows.length+vs.length) cap (ρ.t 9)=gc at hgc xw|-
   have hA:(css.flatten.take (p*r.n)).length=p*r.n:=by rw[AT_];omega
   have hB:(css.flatten.drop (p*r.n)).length=rows.length*r.n-p*r.n:=by rw[AVX,AB7]
   rw[i2]at xw
   generalize AFT:(css.flatten.take (p*r.n)).toArray++Builtin.zeroCells z.cells (rows.length+vs.length-p)++Builtin.zeroCells z.cells (gc-(rows.length+vs.length))=ROW at xw
   have hRs:ROW.size=gc*r.n:=by
    rw[<-AFT];simp only[AVg,AVh,cH,hzl,hA,<-ARK];congr 1;omega
   have hgm:(rows.length+vs.length)*r.n<=gc*r.n:=AME _ hgc;have hbW:W.heap[w.heap.size]? =some (.cells ROW (ρ.t 9)):=by rw[xw];simp
   have hcA:Bg W w.heap.size 0 (css.flatten.take (p*r.n)):=fun j v hj=>by
    have hjl:=(AK1.1 hj).1;rw[LD hbW,ARQ,<-Array.getElem?_toList,<-AFT];simp only[Array.toList_append,AL3];rw[AMB hjl];exact hj
   obtain⟨Ku,q1,q2,q3⟩:=l4 (B:=css.flatten.drop (p*r.n)) (V:=xL.flatten) hbW (by omega) hcA;rw[hA,AC6,<-ANg,<-i2,ARQ,ARQ]at q1 q3
   generalize pt:(W.setCells w.heap.size (p*i0.size) xL.flatten).setCells w.heap.size ((p+vs.length)*i0.size) (css.flatten.drop (p*i0.size))=w' at q1 q3
   have hfl:=(((hd'.take p).append aj).append (hd'.drop p)).to (w':=w') hf;rw[qR]at hfl;have xY:l'.length=rows.length+vs.length:=by rw[<-qR];simp;omega
   refine⟨_,w.heap.size::(List.replicate l'.length ([]:ABy)).flatten,rfl,rfl,?_,?_,?_,fun c hc=> ?_,?_⟩
   ·have:=lu (cap:=gc) (hfl.at (S:=E.S) (d:=0) hf) q1 (by
     rw[ARP,ARP,<-hd'.xf p hpn,<-hd'.xk p hpn,<-i2];exact q3) (by rw[xY];exact hgc) (by rw[q2];omega) (Yt _)
    rw[qa]at this|-;rw[xY]at this;exact this
   ·simp
   ·intro c hc
    rw[qa]at hc;simp at hc;subst hc;refine⟨fun hT' =>Nat.lt_irrefl _ (hSep.eG _ hT'),?_⟩;rw[<-pt,DY,DY,xw];simp
   ·have qN:=hSep.eG c hc
    rw[<-pt,DK _ _ _ _ _ (by omega),DK _ _ _ _ _ (by omega),xw];exact JH qN
   ·rw[<-pt]
    refine Grown.trans' (w':=W) ⟨hWo,hWt,hWu,by rw[xw];simp⟩ (Grown.trans' (CG _ _ _ _) (CG _ _ _ _))
end Go.Fw
end
section
namespace Go.Fw
open Go.M Go.Proofs Go.Shelf Go.RowKit Go.Lib
structure tG (P:Program) (ρ:Ren) (nm:String):Prop where
 mixed:P.follows .mixedOrders=true
 f24:P.funcs[ρ.f 24]? =some { Body2.n24 ρ with name:=nm }
 n24:(nm== "runtime.NumGoroutine")=false
 t0:P.underlying (ρ.t 0)=some (TypeDesc.tuple #[])
 a0:∀w,(isAgg (ρ.t 0)).run P w= .ok false w
 z0:∀w,(Go.sizeOf (ρ.t 0)).run P w= .ok 1 w
 v0:∀w,(zeroValue (ρ.t 0)).run P w= .ok (Value.tuple #[]) w
 t3:P.underlying (ρ.t 3)=some (TypeDesc.int IntKind.i64)
 a3:∀w,(isAgg (ρ.t 3)).run P w= .ok false w
 z3:∀w,(Go.sizeOf (ρ.t 3)).run P w= .ok 1 w
 v3:∀w,(zeroValue (ρ.t 3)).run P w= .ok (Value.int IntKind.i64 0) w
 t4:P.underlying (ρ.t 4)=some (TypeDesc.bool)
 a4:∀w,(isAgg (ρ.t 4)).run P w= .ok false w
 z4:∀w,(Go.sizeOf (ρ.t 4)).run P w= .ok 1 w
 v4:∀w,(zeroValue (ρ.t 4)).run P w= .ok (Value.bool false) w
 t24:P.underlying (ρ.t 24)=some (TypeDesc.slice (ρ.t 9))
 a24:∀w,(isAgg (ρ.t 24)).run P w= .ok false w
 z24:∀w,(Go.sizeOf (ρ.t 24)).run P w= .ok 1 w
 v24:∀w,(zeroValue (ρ.t 24)).run P w= .ok (Value.slice none 0 0) w
section
variable{P:Program} {ρ:Ren} {nm:String}
set_option maxHeartbeats 4000000 in
set_option maxRecDepth 1000000 in
theorem AIS(L:tG P ρ nm){k:Nat}(z9:∀w,(Go.sizeOf (ρ.t 9)).run P w= .ok k w)(ad:Option Addr)(n c i:Nat)(w:World)(hi:i<=n)(hnc:n<=c):
  Calls P (ρ.f 24) #[.slice ad n c,.int .i64 i,.int .i64 i] w fun e w' =>e= .returned (.slice ad n c)/\w' =w:=by
 have mixed:=L.mixed;have t0:=L.t0;have a0:=L.a0;have z0:=L.z0;have v0:=L.v0;have t3:=L.t3;have a3:=L.a3;have z3:=L.z3;have v3:=L.v3;have t4:=L.t4;have a4:=L.a4;have z4:=L.z4;have v4:=L.v4;have t24:=L.t24;have a24:=L.a24;have z24:=L.z24;have v24:=L.v24;have u0:=run_underlying L.t0;have u3:=run_underlying L.t3;have u4:=run_underlying L.t4;have aL:=run_underlying L.t24
 go_enter L.f24,Body2.n24_ntmps ρ
 cases ad with
 |none=>
  go_wp2
  all_goals (go_ret;exact⟨rfl,rfl⟩)
 |some a=>
  obtain⟨ab,ao,asp⟩:=a
  go_wp2
  all_goals (go_ret;exact⟨rfl,rfl⟩)
theorem AAp{w:World}{t elem ty:TypeId}{i0:TypeInfo}{z:Value}{b o n cap:Nat}{Z:List Value}(hu:P.underlying t=some (.slice elem))(hi:P.info? elem=some i0)(hz:i0.zero=some z)(hn:0<n)(hZ:(Builtin.zeroCells z.cells n).toList=Z)
  (sY:w.there b o Z.length) (h1:∀v∈Z,v.oneCell' =true):(Builtin.clear_ #[t] ty #[.slice (some ⟨b,o,none⟩) n cap]).run P w= .ok (.tuple #[]) (w.setCells b o Z):=by
 have vX:=run_storeCells_cells (P:=P) b o Z 0 w (by simpa using fun j hj=>(sY j hj).1) (by simpa using fun j hj=>(sY j hj).2) h1;rw[ART]at vX;obtain⟨n,rfl⟩:∃m,n=m+1:=⟨n-1,by omega⟩;simp[Builtin.clear_,run_underlying hu,zeroValue,typeInfo,hi,hz,hZ,vX]
set_option maxHeartbeats 4000000 in
set_option maxRecDepth 1000000 in
theorem AGt(L:tG P ρ nm){i0:TypeInfo}{z:Value}(zh:P.info? (ρ.t 9)=some i0)(hz:i0.zero=some z)(b off n c i j:Nat)(cs Z:List Value)(w:World)(hij:i<j)(hj:j<=n)(hnc:n<=c)
  (qN:cs.length=n*i0.size) (zr:Bg w b off cs) (sY:w.there b off (n*i0.size)) (h1c:∀v∈cs,v.oneCell' =true) (hZ:(Builtin.zeroCells z.cells (j-i)).toList=Z) (hZl:Z.length=(j-i)*i0.size) (h1z:∀v∈Z,v.oneCell' =true):
  Calls P (ρ.f 24) #[.slice (some ⟨b,off,none⟩) n c,.int .i64 i,.int .i64 j] w fun e w' =>
   e= .returned (.slice (some ⟨b,off,none⟩) (i+(n-j)) c)/\ ∃W:World,W.heap=w.heap/\Grown w W/\w' =(W.setCells b (off+i*i0.size) (cs.drop (j*i0.size))).setCells b (off+(i+(n-j))*i0.size) Z:=by
 have mixed:=L.mixed;have t0:=L.t0;have a0:=L.a0;have z0:=L.z0;have v0:=L.v0;have t3:=L.t3;have a3:=L.a3;have z3:=L.z3;have v3:=L.v3;have t4:=L.t4;have a4:=L.a4;have z4:=L.z4;have v4:=L.v4;have t24:=L.t24;have a24:=L.a24;have z24:=L.z24;have v24:=L.v24;have u0:=run_underlying L.t0;have u3:=run_underlying L.t3;have u4:=run_underlying L.t4;have aL:=run_underlying L.t24;have z9:∀w,(Go.sizeOf (ρ.t 9)).run P w= .ok i0.size w:=fun w=>by simp[sizeOf,typeInfo,zh]
 obtain⟨k,hk⟩:∃k,i0.size=k:=⟨_,rfl⟩;rw[hk]at qN sY hZl z9|-;have e1:(n-j)*k=n*k-j*k:=ATV ..;have e2:(j-i)*k=j*k-i*k:=ATV ..;have e3:j*k<=n*k:=AME _ hj;have e4:i*k<=j*k:=AME _ (by omega);have e5:(i+(n-j))*k=i*k+(n-j)*k:=ARK ..;obtain⟨news,qW⟩:∃news,news=cs.drop (j*k):=⟨_,rfl⟩;have hlen:news.length=(n-j)*k:=by rw[qW,AVX,qN];omega
 rw[<-qW];obtain⟨A,hA,APV⟩:∃A:Addr,(if c=j then(some ⟨b,off,none⟩:Option Addr)else some ⟨b,off+j*k,none⟩)=some A/\Hid (∀t u,news[t]? =some u->w.drew.cell? (A.add t)=some u):=by
  by_cases h:c=j
  ·refine⟨⟨b,off,none⟩,by simp[h],fun t u hu=> ?_⟩
   have h0:news.length=0:=by rw[hlen,show n-j=0 by omega,Nat.zero_mul]
   rw[AVb.1 h0]at hu;simp at hu
  ·refine⟨⟨b,off+j*k,none⟩,by simp[h],fun t u hu=> ?_⟩
   rw[qW,ASJ]at hu;rw[Addr.add_eq,ARS];exact zr _ u hu
 have s1:Hid (news.length=(n-j)*k):=hlen;have s2:Hid (∀u∈news,u.oneCell' =true):=fun u hu=>h1c u (by rw[qW]at hu;exact ASp hu)
 have s3:Hid (∀t,t<news.length->(w.drew.cell? ⟨b,off+i*k+t,none⟩).isSome=true/\w.drew.frozen? ⟨b,off+i*k+t,none⟩=false):=by
  intro t ht;rw[hlen]at ht;rw[ARS];exact sY _ (by omega)
 obtain⟨W1,hW1⟩:∃W1,W1=w.drew.setCells b (off+i*k) news:=⟨_,rfl⟩;have Abx:∀ty,(Builtin.clear_ #[ρ.t 24] ty #[.slice (some ⟨b,off+(i+(n-j))*k,none⟩) (n-(i+(n-j))) (c-(i+(n-j)))]).run P W1= .ok (.tuple #[]) (W1.setCells b (off+(i+(n-j))*k) Z):=fun ty=>by
  rw[show n-(i+(n-j))=j-i by omega];refine AAp L.t24 zh hz (by omega) hZ (fun t ht=> ?_) h1z;rw[hZl]at ht;have h0:=sY ((i+(n-j))*k+t) (by omega);rw[<-ARS]at h0;rw[hW1];refine⟨isSome_setCells b _ _ _ (fun q hq=> ?_) _ h0.1,by rw[World.frozen?_setCells];exact h0.2⟩;rw[hlen]at hq;have:=(sY (i*k+q) (by omega)).1;rw[<-ARS]at this;exact this
 have hW:Hid (W1=w.drew.setCells b (off+i*k) news):=hW1;have hic:i<=c:=by omega
 have hjc:j<=c:=by omega
 have hjn:(i:Int)<=(j:Int):=by omega
 have fin:∃W:World,W.heap=w.heap/\Grown w W/\W1.setCells b (off+(i+(n-j))*k) Z=(W.setCells b (off+i*k) news).setCells b (off+(i+(n-j))*k) Z:=⟨w.drew,rfl,⟨rfl,rfl,rfl,AMN _⟩,by rw[hW1]⟩;clear hW1 qW hlen e1 e2 e3 e4 e5 sY zr qN hZl
 go_enter L.f24,Body2.n24_ntmps ρ
 go_wp2_with fail
 go_region_law_o (refine step_append_room rfl (.tmp 22) (.tmp 25) (ρ.t 24) rfl (ρ.t 9) i0 k t24 zh hk b off i c (by simp[Act.eval,Act.put]) A (n-j) (c-j) news (by simp[Act.eval,Act.put]) s1.out APV.out s2.out (by omega) s3.out ?_;rw[<-hW.out])
 go_wp2
 go_ret
 exact⟨rfl,fin⟩
end
end Go.Fw
end
section
namespace Go.Fw
open Go.M Go.Proofs Go.Shelf Go.RowKit Go.Lib
theorem FM.take{w:World}{S:Nat->Prop}{d:Nat}{r:Ty}{css:List (List Value)}{rows:List r.D}{Fs:List ABy}(h:FM w S d r css rows Fs)(n:Nat):FM w S d r (css.take n) (rows.take n) (Fs.take n):=by
 refine⟨by simp[h.1],by simp[h.2.1],fun c hc=>h.2.2.1 c (AVM hc),fun i cs y G a b c=> ?_⟩;rw[AR8]at a b c;split at a
 ·rename_i hi
  rw[AJe hi]at b c;exact h.2.2.2 i cs y G a b c
 simp_all
theorem FM.drop{w:World}{S:Nat->Prop}{d:Nat}{r:Ty}{css:List (List Value)}{rows:List r.D}{Fs:List ABy}(h:FM w S d r css rows Fs)(n:Nat):FM w S d r (css.drop n) (rows.drop n) (Fs.drop n):=by
 refine⟨by simp[h.1],by simp[h.2.1],fun c hc=>h.2.2.1 c (ASp hc),fun i cs y G a b c=> ?_⟩;rw[ASJ]at a b c;exact h.2.2.2 _ cs y G a b c
theorem AFY{r:Ty}{css:List (List Value)}(hl:∀c∈css,c.length=r.n)(n:Nat)(hn:n<=css.length):css.flatten.take (n*r.n)=(css.take n).flatten:=by
 have h1:((css.take n).flatten).length=n*r.n:=by
  grind[H5,List.mem_of_mem_take,List.length_take,Nat.min_eq_left]
 grind[List.take_append_drop,List.flatten_append,List.take_of_length_le]
theorem AFo{r:Ty}{css:List (List Value)}(hl:∀c∈css,c.length=r.n)(n:Nat)(hn:n<=css.length):css.flatten.drop (n*r.n)=(css.drop n).flatten:=by
 have h1:((css.take n).flatten).length=n*r.n:=by
  grind[H5,List.mem_of_mem_take,List.length_take,Nat.min_eq_left]
 grind[List.take_append_drop,List.flatten_append,List.drop_eq_nil_of_le]
theorem gx:∀{A B:List ABy},A.Sublist B->A.flatten.Sublist B.flatten
 |_,_,.slnil=> .slnil
 |_,_,.cons b h=>(gx h).trans (List.sublist_append_right _ _)
 |_,_,.cons_cons b h=>(List.Sublist.refl b).append (gx h)
theorem Xh{Fs:List ABy}{p q:Nat}(hpq:p<=q):((Fs.take p++Fs.drop q).flatten).Sublist Fs.flatten:=by
 grind[List.drop_drop,List.drop_sublist,List.take_append_drop,gx]
@[reducible] def xe (d:Nat) (r:Ty):Bb:=⟨[(0,.c (.ref 0)),(1,.c (.v (.int .i64))),(2,.c (.v (.int .i64)))],[.sl d r]⟩
@[reducible] def ADh (d:Nat) (r:Ty):Bb:=⟨[(0,.c (.ref 1))],[.gone,.sl d r]⟩
theorem yj{P:Program}{T:Jr}{ρ:Ren}{nm:String}(hT:Eb P T)(L:tG P ρ nm){r:Ty}(WG:T.N5 (ρ.t 24) r=true)(hn0:0<r.n)(m:Nat):
  L1 P (ρ.f 24) ⟨xe (m+1) r,ADh (m+1) r,fun v=>(AHA v.1.2.1 v.1.2.2.1 v.2.1).map fun l=>(((),()),((),l,()))⟩:=by
 refine⟨by rfl,aB L.f24 L.n24 (by kernel_rfl),?_⟩;intro E w v args u ATv hB hS hg;obtain⟨⟨u0,p,q,u1⟩,rows,u2⟩:=v;obtain⟨⟨⟨⟩,⟨⟩⟩,⟨⟩,l,⟨⟩⟩:=u;simp only[AKm]at hg;obtain⟨l',qR,hg⟩:=hg;simp only[APF,true_and,AQ6]at hg;subst hg;unfold AHA at qR;split at qR
 case isFalse=>cases qR
 rename_i hc;obtain⟨hp0,hpq,hqn⟩:=hc;have hq0:(0:Int)<=q:=Int.le_trans hp0 hpq;obtain⟨p,rfl⟩:=ATw hp0;obtain⟨q,rfl⟩:=ATw hq0;simp only[ALN,AKX]at qR;have APm:p<=q:=by omega
 have ANl:q<=rows.length:=by omega
 obtain⟨⟨a0,h0,x0⟩,⟨a1,h1,x1⟩,⟨a2,h2,x2⟩,_⟩:=hS;have Io:args= #[a0,a1,a2]:=by
  grind
 subst Io;have e0:E.IF 0=a0:=by
  have:VR E w [Bx.sl (m+1) r rows] (.ref 0 []) a0:=x0;grind[VR,C1,Option.some.inj]
 have e1:a1= .int .i64 (p:Int):=by
  have:VR E w [Bx.sl (m+1) r rows] (.v (.int .i64) (p:Int)) a1:=x1;simp only[VR,Rd,ANN,AQ6]at this;simp_all
 have e2:a2= .int .i64 (q:Int):=by
  have:VR E w [Bx.sl (m+1) r rows] (.v (.int .i64) (q:Int)) a2:=x2;simp only[VR,Rd,ANN,AQ6]at this;simp_all
 subst e1 e2;obtain⟨Fs,⟨hFl,hFb⟩,hSep⟩:=hB;obtain⟨F,rfl⟩:∃F,Fs=[F]:=by
  match Fs,hFl with
  |[F],_=>simp_all
 have AHM:=hFb 0 (.sl (m+1) r rows) F rfl rfl;obtain⟨_,ho⟩:=AHM;rw[e0]at ho;simp only[ARV,AT3,ALu]at hSep;have ho0:=ho;obtain⟨ad,cap,css,Fs1,R1,rfl,hle,hd,hp1',hcase⟩:=rv ho;obtain⟨e,ti,hut,Wq,hs1,hby,hrow⟩:=Kv hT WG;obtain⟨i0,z,i1,i2,i3,i4,i5,pj⟩:=Yw hT Wq hrow;have he:e=ρ.t 9:=by
  have:=L.t24.symm.trans hut;simp_all
 subst he;rw[hs1]at i2;have z9:∀w,(Go.sizeOf (ρ.t 9)).run P w= .ok r.n w:=fun w=>by simp[sizeOf,typeInfo,i1,i2]
 have hzl:z.cells.size=r.n:=by rw[<-ATJ,i5,G5]
 have fin:∀{Q:Ending->World->Prop},Calls P (ρ.f 24) #[.slice ad rows.length cap,.int .i64 (p:Int),.int .i64 (q:Int)] w Q->
   (∀e w',Q e w'-> ∃v F',e= .returned v/\isSlice v=true/\Ow w' E.S (m+1) (.sl r) [v] l' F'/\F'.Nodup/\(∀c∈F',¬E.T c/\c<w'.heap.size)/\(∀c,E.T c->w'.heap[c]? =w.heap[c]?)/\Grown w w')->_:=fun h hq=>AEE (by omega) hSep h hq
 by_cases hpe:p=q
 ·subst hpe
  have hl:rows=l':=by simp_all
  subst hl;refine fin (AIS (k:=r.n) L z9 ad rows.length cap p w ANl hle) fun e w' h=> ?_
  obtain⟨rfl,rfl⟩:=h;exact⟨_,F,rfl,rfl,ho0,hSep.nodup,fun c hc=>⟨hSep.free c hc,hSep.lt c hc⟩,fun _ _=>rfl,⟨rfl,rfl,rfl,AMN _⟩⟩
 have Ix:p<q:=by omega
 rcases hcase with⟨h0,_⟩|⟨b,o,arr,ty,fr,rfl,hb,LP,hu,rfl,nD⟩
 ·omega
 have hbT: ¬E.T b:=hSep.free b (by simp);have AHT:b<w.heap.size:=hSep.lt b (by simp);have hnd:=AUT.1 hSep.nodup;have AB7:css.flatten.length=rows.length*r.n:=by rw[H5 hd.2.2.1,hd.1]
 have g1:(rows.length-q)*r.n=rows.length*r.n-q*r.n:=ATV ..;have g2:(q-p)*r.n=q*r.n-p*r.n:=ATV ..;have g3:q*r.n<=rows.length*r.n:=AME _ ANl;have g4:p*r.n<=q*r.n:=AME _ APm;have g5:(p+(rows.length-q))*r.n=p*r.n+(rows.length-q)*r.n:=ARK ..;have g6:rows.length*r.n<=cap*r.n:=AME _ hle;have hzr:Eu r≠[]:=fun h=>by simp_all
 have hZ:(Builtin.zeroCells z.cells (q-p)).toList=(List.replicate (q-p) (Eu r)).flatten:=by
  grind[Builtin.zeroCells,Yf,Eu,G5]
 have hZl:((List.replicate (q-p) (Eu r)).flatten).length=(q-p)*r.n:=by rw[Fb,G5]
 have hZ1:∀v∈(List.replicate (q-p) (Eu r)).flatten,v.oneCell' =true:=fun v hv=>by
  obtain⟨c,hc1,hc2⟩:=APz.1 hv;rw[ARD hc1]at hc2;exact oV (w:=w) (S:=E.S) (d:=0) (jE pj) v hc2
 have l6:=AGt (ρ:=ρ) L (i0:=i0) (z:=z) i1 i4 b o rows.length cap p q css.flatten _ w Ix ANl hle (by simp_all) nD (by grind[Wh,mk]) hd.one hZ (by simp_all) hZ1;refine fin l6 fun e w' h=> ?_
 obtain⟨rfl,W,xw,hWg,rfl⟩:=h;rw[i2];have hA:(css.flatten.take (p*r.n)).length=p*r.n:=by grind
 have hB:(css.flatten.drop (q*r.n)).length=(rows.length-q)*r.n:=by simp_all
 have hbW:W.heap[b]? =some (.cells arr ty fr):=by simp_all
 have hcA:Bg W b o (css.flatten.take (p*r.n)):=Bg.heap (fun j v hj=>by
  rw[AR8]at hj;split at hj
  ·exact nD j v hj
  simp_all) xw
 obtain⟨Ku,q1,q2,q3⟩:=l4 (B:=(List.replicate (q-p) (Eu r)).flatten) (V:=css.flatten.drop (q*r.n)) hbW (by omega) hcA;rw[hA,hB,<-g5]at q1 q3
 generalize pt:(W.setCells b (o+p*r.n) (css.flatten.drop (q*r.n))).setCells b (o+(p+(rows.length-q))*r.n) ((List.replicate (q-p) (Eu r)).flatten)=w' at q1 q3
 have gW:∀c,c≠b->w'.heap[c]? =w.heap[c]?:=fun c hc=>by grind[DK]
 have hcT:∀c,E.T c->c≠b:=fun c hc e=>hbT (e▸hc)
 have hra:=((hd.take p).append (hd.drop q)).mono (w':=w') (S':=E.S) (fun _ h=>h) (fun c hc=>gW c (hcT c (hSep.st c hc))) (fun c hc=>gW c (fun e=>hnd.1 (e▸(Xh APm).subset hc)));rw[qR]at hra;have xY:l'.length=p+(rows.length-q):=by grind
 refine⟨_,b::(Fs1.take p++Fs1.drop q).flatten,rfl,rfl,?_,?_,fun c hc=> ?_,fun c hc=>gW c (hcT c hc),?_⟩
 ·have qN:css.length=rows.length:=hd.1
  have:=lu (cap:=cap) hra q1 (by
   rw[ARP,<-AFY hd.2.2.1 p (by omega),<-AFo hd.2.2.1 q (by omega)];intro j v hj;exact q3 j v (by grind)) (by omega) (by omega) (by simp_all)
  simp_all
 ·grind[List.nodup_cons,Xh]
 ·have AUK:w'.heap.size=w.heap.size:=by grind[DY]
  rcases ANC.1 hc with rfl|hc
  ·simp_all
  ·have hm:c∈b::Fs1.flatten:=AVq _ ((Xh APm).subset hc)
   exact⟨hSep.free c hm,by rw[AUK];exact hSep.lt c hm⟩
 grind[Grown.trans',CG]
end Go.Fw
end
section
namespace Go.Fw
open Go.M Go.Proofs Go.Shelf Go.RowKit Go.Lib
section
variable{P:Program} {ρ:Ren} {nm:String} {fv:Func}
theorem Sa{t:TypeId}{n:Nat}(h:(P.info? t).map (·.size)=some n):∀w,(Go.sizeOf t).run P w= .ok n w:=fun w=>by
 obtain⟨i,hi,rfl⟩:=AKm.1 h;simp[sizeOf,typeInfo,hi]
theorem aq{t:TypeId}{z:Value}(h:(P.info? t).bind (·.zero)=some z):∀w,(zeroValue t).run P w= .ok z w:=fun w=>by
 obtain⟨i,hi,hz⟩:=ALU.1 h;simp[zeroValue,typeInfo,hi,hz]
structure qU (P:Program) (ρ:Ren):Prop where
 t0:P.underlying (ρ.t 0)=some (TypeDesc.tuple #[])
 t3:P.underlying (ρ.t 3)=some (TypeDesc.int IntKind.i64)
 t4:P.underlying (ρ.t 4)=some (TypeDesc.bool)
 t24:P.underlying (ρ.t 24)=some (TypeDesc.slice (ρ.t 9))
 s0:(P.info? (ρ.t 0)).map (·.size)=some 1
 s3:(P.info? (ρ.t 3)).map (·.size)=some 1
 s4:(P.info? (ρ.t 4)).map (·.size)=some 1
 s24:(P.info? (ρ.t 24)).map (·.size)=some 1
 v0:(P.info? (ρ.t 0)).bind (·.zero)=some (Value.tuple #[])
 v3:(P.info? (ρ.t 3)).bind (·.zero)=some (Value.int IntKind.i64 0)
 v4:(P.info? (ρ.t 4)).bind (·.zero)=some (Value.bool false)
 v24:(P.info? (ρ.t 24)).bind (·.zero)=some (Value.slice none 0 0)
theorem qU.ins(h:qU P ρ)(hm:P.follows .mixedOrders=true)(f22:P.funcs[ρ.f 22]? =some { Body2.n22 ρ with name:=nm })(n22:(nm== "runtime.NumGoroutine")=false)(f29:P.funcs[ρ.f 29]? =some fv)(n29:(fv.name== "runtime.NumGoroutine")=false)
  (b29:fv.body.isNone=true) (e29:Extern.findNext fv=none) (x29:Extern.find fv=some (Extern.SlicesOverlaps.overlaps #[(ρ.t 24),(ρ.t 24)] #[(ρ.t 4)])):hU P ρ nm fv:=
 ⟨hm,f22,n22,f29,n29,b29,e29,x29,h.t0,run_isAgg_plain h.t0 rfl,Sa h.s0,aq h.v0,h.t3,run_isAgg_plain h.t3 rfl,Sa h.s3,aq h.v3,h.t4,run_isAgg_plain h.t4 rfl,Sa h.s4,aq h.v4,h.t24,run_isAgg_plain h.t24 rfl,Sa h.s24,aq h.v24⟩
theorem qU.del(h:qU P ρ)(hm:P.follows .mixedOrders=true)(f24:P.funcs[ρ.f 24]? =some { Body2.n24 ρ with name:=nm })(n24:(nm== "runtime.NumGoroutine")=false):tG P ρ nm:=
 ⟨hm,f24,n24,h.t0,run_isAgg_plain h.t0 rfl,Sa h.s0,aq h.v0,h.t3,run_isAgg_plain h.t3 rfl,Sa h.s3,aq h.v3,h.t4,run_isAgg_plain h.t4 rfl,Sa h.s4,aq h.v4,h.t24,run_isAgg_plain h.t24 rfl,Sa h.s24,aq h.v24⟩
@[reducible] def J6 (f22 f24 f29 f30 t24 t9:Nat):Ren:=⟨fun k=>if k=22 then f22 else if k=24 then f24 else if k=29 then f29 else if k=30 then f30 else k,fun k=>if k=24 then t24 else if k=9 then t9 else k,fun k=>k⟩
def AQf{T:Jr}(hT:Eb P T)(L:hU P ρ nm fv){r:Ty}{f:Nat}(hf:ρ.f 22=f)(WG:T.N5 (ρ.t 24) r=true)(hr:(r.flat&&(decide (mk r=1)&&decide (0<r.n)))=true)(g:(xo r).Cu (Option (ADj r).V))
  (hg:∀v:(xo r).V,(xo r).un g v=(ABA v.1.2.1 v.1.2.2.1 v.2.1).map fun l=>(((),()),((),l,()))):SP P:=
 ⟨f,⟨xo r,ADj r,(xo r).un g⟩,by
  simp only[ALJ,ALh]at hr;rw[funext hg,<-hf];exact yE hT L WG hr.1 hr.2.1 hr.2.2⟩
def AZA{T:Jr}(hT:Eb P T)(L:tG P ρ nm){r:Ty}{f:Nat}(m:Nat)(hf:ρ.f 24=f)(WG:T.N5 (ρ.t 24) r=true)(hr:decide (0<r.n)=true)(g:(xe (m+1) r).Cu (Option (ADh (m+1) r).V))
  (hg:∀v:(xe (m+1) r).V,(xe (m+1) r).un g v=(AHA v.1.2.1 v.1.2.2.1 v.2.1).map fun l=>(((),()),((),l,()))):SP P:=
 ⟨f,⟨xe (m+1) r,ADh (m+1) r,(xe (m+1) r).un g⟩,by
  rw[funext hg,<-hf];exact yj hT L WG (of_decide_eq_true hr) m⟩
end
end Go.Fw
end
section
namespace Go.Fw
open Go
def ADv(n:Int):Option ABF:=if-9223372036854775808<=n/\n<=9223372036854775807 then some (Go.Lib.itoa n)else none
def jB(s p:ABF):Option Bool:=if s.length<4294967281 then some (Go.Lib.contains s p)else none
def qJ(s p:ABF):Option ABF:=some (Go.Lib.trimPrefix s p)
def AKF(s p:ABF):Option (List UInt8×List UInt8×Bool):=if s.length<4294967281 then some (Go.Lib.cut s p)else none
def zY(l:List ABF)(x:ABF):Option Int:=if l.length<=9223372036854775807 then some (Go.Lib.idxOfS (l.map fun y=>⟨y.toArray⟩) ⟨x.toArray⟩)else none
def Ei(s:ABF)(most:Int):Option (Int×Bool):=
 if s.length<=1048576 then some (match Go.Lib.atoiAll s with
  | .ok v=>if 0<=v/\(s.length:Int)<=most/\Go.Lib.itoa v=s then(v,true)else(0,false)
  |_=>(0,false))else none
end Go.Fw
end
section
namespace Go.Fw
open Go.M Go.Proofs Go.Shelf Go.RowKit
theorem Sl{P:Program}{f:Nat}{ins outs:List (Nat×XP)}{g:Bb.V ⟨ins,[]⟩->Option (Bb.V ⟨outs,[]⟩)}
  (DG:RU.ok ⟨⟨ins,[]⟩,⟨outs,[]⟩,g⟩=true) (hen:∀args w,(callFunc f args).run P w= .ok (.enter f args) w)
  (h:∀(E:Env) (w:World) (x:GU.V ins) (args:Array Value) (u:GU.V outs),args.size=ins.length->(∀w',Below w.heap.size w w'->GI w')->NK E w [] id ins x args.toList->g (x,())=some (u,())->
   Calls P f args w fun e w' => ∃v,e= .returned v/\Below w.heap.size w w'/\NK E w' [] id outs u [v]):
  L1 P f ⟨⟨ins,[]⟩,⟨outs,[]⟩,g⟩:=by
 refine⟨DG,hen,fun E w v args u LP hB hS hg=> ?_⟩;obtain⟨x,⟨⟩⟩:=v;obtain⟨u,⟨⟩⟩:=u;have hT:∀{w':World},Below w.heap.size w w'-> ∀c,E.T c->w'.heap[c]? =w.heap[c]?:=fun hb c hc=>hb.block c (hB.eG c hc)
 refine(h E w x args u LP (fun w' hb=>hB.vz w' (hT hb)) hS hg).mono fun e w' hR=> ?_
 obtain⟨v,rfl,hb,hs⟩:=hR;exact⟨v,E,rfl,⟨fun _ h=>h,fun _ h=>h,fun _ h=> .inl h,fun _ h=> .inl h,hT hb,hb.os,hb.tape,hb.output,hb.size⟩,
  ⟨[],⟨rfl,fun k B F h=>by simp[Jg.mk]at h⟩,by simp,by simp,by simp,hB.st,fun c hc=>AQQ (hB.eG c hc) hb.size,hB.vz.mono (fun _ h=>h) (hT hb)⟩,hs,fun i hi=>by simp at hi⟩
theorem ud{w:World}(k:Nat)(os:Array Obj):Below w.heap.size w (Go.Sort.grow (w.drewN k) os):=
 ⟨rfl,rfl,rfl,by simp[Go.Sort.grow,World.drewN],fun c hc=>by
  show(w.heap++os)[c]? =_
  rw[Array.getElem?_append_left hc]⟩
theorem AUe{args:Array Value}{a:Value}(hl:args.size=1)(h:args.toList[0]? =some a):args= #[a]:=by
 apply Array.ext'
 match hq:args.toList,(show args.toList.length=1 from hl)with
 |[b],_=>rw[hq]at h;simp at h;simp[h]
theorem wy{args:Array Value}{a b:Value}(hl:args.size=2)(h:args.toList[0]? =some a)(h2:args.toList[1]? =some b):args= #[a,b]:=by
 apply Array.ext'
 match hq:args.toList,(show args.toList.length=2 from hl)with
 |[c,d],_=>rw[hq]at h h2;simp at h h2;simp[h,h2]
theorem AHE{E:Env}{w:World}{vw:List Bx}{n:Int}{v:Value}(h:XR E w vw (.c (.v (.int .i64) n)) v):v= .int .i64 n:=by
 have:VR E w vw (.v (.int .i64) n) v:=h;simp only[VR,Rd,ANN,AQ6]at this;exact this.2
theorem bw{E:Env}{w:World}{vw:List Bx}{n:ABF}{v:Value}(h:XR E w vw (.c (.v .str n)) v):v= .string ⟨n.toArray⟩:=by
 have:VR E w vw (.v .str n) v:=h;simp only[VR,Rd,ANN,AQ6]at this;exact this.2
abbrev sI:XP:= .c (.v (.int .i64))
abbrev sS:XP:= .c (.v .str)
abbrev sB:XP:= .c (.v .bool)
theorem ACE{P:Program}{ρ:Ren}(L:LaysM.n171 P ρ)(hen:∀args w,(callFunc (ρ.f 171) args).run P w= .ok (.enter (ρ.f 171) args) w)(hgi:∀w,GI w->Go.Lib.TabIs P w "internal/strconv.uint64pow10" .u64 Go.Lib.pow10Tab):
  L1 P (ρ.f 171) ⟨⟨[(0,sI)],[]⟩,⟨[(0,sS)],[]⟩,fun v=>(ADv v.1.1).map fun l=>((l,()),())⟩:=by
 refine Sl rfl hen fun E w x args u LP hG hS hg=> ?_
 obtain⟨n,⟨⟩⟩:=x;obtain⟨⟨v0,h0,x0⟩,_⟩:=hS;obtain rfl:=AUe LP h0;obtain rfl:=AHE x0;simp only[AKm]at hg;obtain⟨l,hl,hg⟩:=hg;unfold ADv at hl;split at hl
 case isFalse=>cases hl
 rename_i hc;cases hl;cases hg;refine(Any.strconv_Itoa L n hc.1 hc.2 w (hgi w (hG w (Below.refl _ _)))).mono fun e w' h=> ?_
 obtain⟨rfl,k,os,rfl⟩:=h;exact⟨_,rfl,ud k os,⟨_,rfl,rfl,rfl⟩,trivial⟩
theorem ub{P:Program}{ρ:Ren}(L:Lays.n144 P ρ)(hen:∀args w,(callFunc (ρ.f 144) args).run P w= .ok (.enter (ρ.f 144) args) w)(hgi:∀w:World,GI w-> ∃m,w.cell? ⟨ρ.g 1,0,none⟩=some (.int .i64 m)):
  L1 P (ρ.f 144) ⟨⟨[(0,sS),(1,sS)],[]⟩,⟨[(0,sB)],[]⟩,fun v=>(jB v.1.1 v.1.2.1).map fun l=>((l,()),())⟩:=by
 refine Sl rfl hen fun E w x args u LP hG hS hg=> ?_
 obtain⟨s,p,⟨⟩⟩:=x;obtain⟨⟨v0,h0,x0⟩,⟨v1,h1,x1⟩,_⟩:=hS;obtain rfl:=wy LP h0 h1;obtain rfl:=bw x0;obtain rfl:=bw x1;simp only[AKm]at hg;obtain⟨l,hl,hg⟩:=hg;unfold jB at hl;split at hl
 case isFalse=>cases hl
 rename_i hc;cases hl;cases hg;obtain⟨m,hm⟩:=hgi w (hG w (Below.refl _ _));refine(Any.strings_Contains L ⟨s.toArray⟩ ⟨p.toArray⟩ m w (by simpa[ByteArray.size]using hc) hm).mono fun e w' h=> ?_
 obtain⟨rfl,rfl⟩:=h;exact⟨_,rfl,Below.refl _ _,⟨_,rfl,rfl,rfl⟩,trivial⟩
theorem nf{P:Program}{ρ:Ren}(L:Lays.n101 P ρ)(hen:∀args w,(callFunc (ρ.f 101) args).run P w= .ok (.enter (ρ.f 101) args) w):
  L1 P (ρ.f 101) ⟨⟨[(0,sS),(1,sS)],[]⟩,⟨[(0,sS)],[]⟩,fun v=>(qJ v.1.1 v.1.2.1).map fun l=>((l,()),())⟩:=by
 refine Sl rfl hen fun E w x args u LP hG hS hg=> ?_
 obtain⟨s,p,⟨⟩⟩:=x;obtain⟨⟨v0,h0,x0⟩,⟨v1,h1,x1⟩,_⟩:=hS;obtain rfl:=wy LP h0 h1;obtain rfl:=bw x0;obtain rfl:=bw x1;cases hg;refine(Any.strings_TrimPrefix L ⟨s.toArray⟩ ⟨p.toArray⟩ w).mono fun e w' h=> ?_
 obtain⟨rfl,rfl⟩:=h;exact⟨_,rfl,Below.refl _ _,⟨_,rfl,rfl,rfl⟩,trivial⟩
theorem AFR{P:Program}{ρ:Ren}(L:Lays.n145 P ρ)(hen:∀args w,(callFunc (ρ.f 145) args).run P w= .ok (.enter (ρ.f 145) args) w)(hgi:∀w:World,GI w-> ∃m,w.cell? ⟨ρ.g 1,0,none⟩=some (.int .i64 m)):
  L1 P (ρ.f 145) ⟨⟨[(0,sS),(1,sS)],[]⟩,⟨[(0,.L8 [.inl (.v .str),.inl (.v .str),.inl (.v .bool)])],[]⟩,fun v=>(AKF v.1.1 v.1.2.1).map fun l=>(((l.1,l.2.1,l.2.2,()),()),())⟩:=by
 refine Sl rfl hen fun E w x args u LP hG hS hg=> ?_
 obtain⟨s,p,⟨⟩⟩:=x;obtain⟨⟨v0,h0,x0⟩,⟨v1,h1,x1⟩,_⟩:=hS;obtain rfl:=wy LP h0 h1;obtain rfl:=bw x0;obtain rfl:=bw x1;simp only[AKm]at hg;obtain⟨l,hl,hg⟩:=hg;unfold AKF at hl;split at hl
 case isFalse=>cases hl
 rename_i hc;cases hl;cases hg;obtain⟨m,hm⟩:=hgi w (hG w (Below.refl _ _));refine(Any.strings_Cut L ⟨s.toArray⟩ ⟨p.toArray⟩ m w (by simpa[ByteArray.size]using hc) hm).mono fun e w' h=> ?_
 obtain⟨rfl,n,rfl⟩:=h;exact⟨_,rfl,⟨rfl,rfl,rfl,AMN _,fun _ _=>rfl⟩,⟨_,rfl,_,rfl,⟨rfl,rfl⟩,⟨rfl,rfl⟩,⟨rfl,rfl⟩,trivial⟩,trivial⟩
theorem AAP{P:Program}{ρ:Ren}(L:Lays.n109 P ρ)(hen:∀args w,(callFunc (ρ.f 109) args).run P w= .ok (.enter (ρ.f 109) args) w):
  L1 P (ρ.f 109) ⟨⟨[(0,.c (.sl false .str)),(1,sS)],[]⟩,⟨[(0,sI)],[]⟩,fun v=>(zY v.1.1 v.1.2.1).map fun l=>((l,()),())⟩:=by
 refine Sl rfl hen fun E w x args u LP hG hS hg=> ?_
 obtain⟨s,p,⟨⟩⟩:=x;obtain⟨⟨v0,h0,x0⟩,⟨v1,h1,x1⟩,_⟩:=hS;obtain rfl:=wy LP h0 h1;obtain rfl:=bw x1;simp only[AKm]at hg;obtain⟨l,hl,hg⟩:=hg;unfold zY at hl;split at hl
 case isFalse=>cases hl
 rename_i hc;cases hl;cases hg;have x0':VR E w [] (.sl false .str s) v0:=x0;simp only[VR,Rd]at x0';obtain⟨a,cap,e,hle,hr⟩:=x0';simp only[ANN,AQ6]at e;subst e;by_cases hn:s.length=0
 ·obtain rfl:=ANT hn
  refine(Any.slices_Index_string_empty L a cap ⟨p.toArray⟩ w).mono fun e w' h=> ?_
  obtain⟨rfl,rfl⟩:=h;exact⟨_,rfl,Below.refl _ _,⟨_,rfl,rfl,rfl⟩,trivial⟩
 rcases hr with hr|⟨b,o,rfl,_,hr⟩
 ·exact absurd hr hn
 refine(Any.slices_Index_string L b o s.length cap (s.map fun y=>⟨y.toArray⟩) ⟨p.toArray⟩ w (by simp) hc (fun j hj=> ?_)).mono fun e w' h=> ?_
 ·simp only[ARf]at hj
  obtain⟨cs,qN,hce,hcr⟩:=hr j _ (AKT hj);subst hcr;have:=hce 0 _ rfl;simp[Ty.n]at this;simp[this,hj]
 ·obtain⟨rfl,rfl⟩:=h
  refine⟨_,rfl,Below.refl _ _,⟨_,rfl,rfl,?_⟩,trivial⟩;rw[AOe (by simp)];rfl
theorem nT{P:Program}{f:Nat}(hen:∀args w,(callFunc f args).run P w= .ok (.enter f args) w)
  (hc:∀(s:ByteArray) (m:Int) (w:World),s.size<=1048576->(∀w',Below w.heap.size w w'->GI w')->
   Calls P f #[.string s,.int .i64 m] w fun e w' =>(∃a b,Ei s.data.toList m=some (a,b)/\e= .returned (.tuple #[.int .i64 a,.bool b]))/\Below w.heap.size w w'):
  L1 P f ⟨⟨[(0,sS),(1,sI)],[]⟩,⟨[(0,.L8 [.inl (.v (.int .i64)),.inl (.v .bool)])],[]⟩,fun v=>(Ei v.1.1 v.1.2.1).map fun l=>(((l.1,l.2,()),()),())⟩:=by
 refine Sl rfl hen fun E w x args u LP hG hS hg=> ?_
 obtain⟨s,p,⟨⟩⟩:=x;obtain⟨⟨v0,h0,x0⟩,⟨v1,h1,x1⟩,_⟩:=hS;obtain rfl:=wy LP h0 h1;obtain rfl:=bw x0;obtain rfl:=AHE x1;simp only[AKm]at hg;obtain⟨l,hl,hg⟩:=hg;have hs:s.length<=1048576:=by
  unfold Ei at hl;split at hl
  ·assumption
  ·cases hl
 cases hg;refine(hc ⟨s.toArray⟩ p w (by simpa[ByteArray.size]using hs) hG).mono fun e w' h=> ?_
 obtain⟨⟨a,b,e1,rfl⟩,hb⟩:=h;have e2:Ei s p=some (a,b):=by simpa using e1
 obtain rfl:=AVd (hl.symm.trans e2);exact⟨_,rfl,hb,⟨_,rfl,_,rfl,⟨rfl,rfl⟩,⟨rfl,rfl⟩,trivial⟩,trivial⟩
def txP{P:Program}{f f':Nat}{i o:Bb}{F:i.V->Option o.V}(h:L1 P f' ⟨i,o,F⟩)(hf:f' =f)(g:i.Cu (Option o.V))(hg:∀v:i.V,i.un g v=F v):SP P:=
 ⟨f,⟨i,o,i.un g⟩,by rw[funext hg,<-hf];exact h⟩
end Go.Fw
end
section
namespace Go.Fw
def yQ(s p:ABF):Option (List ABF):=if s.length<4294967281/\1<=p.length then some (Go.Lib.split s p)else none
end Go.Fw
end
section
namespace Go.Fw
open Go.M Go.Proofs Go.Shelf Go.RowKit
theorem AAQ{P:Program}{ρ:Ren}(L:Lays.n146 P ρ)(hen:∀args w,(callFunc (ρ.f 146) args).run P w= .ok (.enter (ρ.f 146) args) w)
  (hgi:∀w:World,GI w-> ∃m,w.cell? ⟨ρ.g 1,0,none⟩=some (.int .i64 m)) (hi9:(P.info? (ρ.t 9)).map (fun i=>(i.zero,i.size,i.bytes))=some (some (.string ByteArray.empty),1,16)):
  L1 P (ρ.f 146) ⟨⟨[(0,sS),(1,sS)],[]⟩,⟨[(0,.c (.sl true .str))],[]⟩,fun v=>(yQ v.1.1 v.1.2.1).map fun l=>((l,()),())⟩:=by
 refine⟨rfl,hen,fun E w v args u LP hB hS hg=> ?_⟩;obtain⟨⟨s,p,⟨⟩⟩,⟨⟩⟩:=v;obtain⟨⟨l,⟨⟩⟩,⟨⟩⟩:=u;obtain⟨⟨v0,h0,x0⟩,⟨v1,h1,x1⟩,_⟩:=hS;obtain rfl:=wy LP h0 h1;obtain rfl:=bw x0;obtain rfl:=bw x1;simp only[AKm]at hg;obtain⟨l',hl,hg⟩:=hg;unfold yQ at hl;split at hl
 case isFalse=>cases hl
 rename_i hc;cases hl;cases hg;have hG:=hB.vz w fun _ _=>rfl
 obtain⟨m,hm⟩:=hgi w hG;refine(Any.strings_Split L hi9 ⟨s.toArray⟩ ⟨p.toArray⟩ m w (by simpa[ByteArray.size]using hc.1) hm (by simpa[ByteArray.size]using hc.2)).mono fun e w' h=> ?_
 obtain⟨rfl,hw⟩:=h;have hlen:=Go.Lib.splitB_all ⟨p.toArray⟩ (by simpa[ByteArray.size]using hc.2) 0 _ ⟨s.toArray⟩ rfl;have ATT:(Go.Lib.splitB ⟨p.toArray⟩ 0 (Go.Lib.countB ⟨s.toArray⟩ ⟨p.toArray⟩) ⟨s.toArray⟩).map (·.data.toList)=Go.Lib.split s p:=Go.Lib.splitB_data _ _ _ _
 generalize Go.Lib.splitB ⟨p.toArray⟩ 0 (Go.Lib.countB ⟨s.toArray⟩ ⟨p.toArray⟩) ⟨s.toArray⟩=q at*
 have hq:(Go.Lib.split s p).length=Go.Lib.countB ⟨s.toArray⟩ ⟨p.toArray⟩+1:=by rw[<-ATT,ARf,hlen]
 have Ix:∀c,E.T c->c<w.heap.size:=fun c hc=>hB.eG c hc
 have hold:∀c,E.T c->w'.heap[c]? =w.heap[c]?:=fun c hc=>by
  rw[hw]
  show(w.heap.push _)[c]? =_
  rw[Array.getElem?_push_lt (Ix c hc),Array.getElem?_eq_getElem (Ix c hc)]
 have AJ3:w'.heap[w.heap.size]? =some (.cells (q.map Value.string).toArray (ρ.t 9)):=by
  rw[hw]
  show(w.heap.push _)[w.heap.size]? =_
  rw[Array.getElem?_push_size]
 have AUK:w'.heap.size=w.heap.size+1:=by rw[hw];exact Array.size_push ..
 refine⟨_,⟨E.IG,E.IF,fun c=>E.T c\/c=w.heap.size,fun c=>E.S c\/c=w.heap.size⟩,rfl,
  ⟨fun _ h=> .inl h,fun _ h=> .inl h,fun _ h=>h.elim .inl fun h=> .inr (.inr h),fun c h=>h.elim .inl fun h=> .inr fun ht=> ?_,hold,by rw[hw];rfl,by rw[hw];rfl,by rw[hw];rfl,by omega⟩,
  ⟨[],⟨rfl,fun k B F h=>by simp[Jg.mk]at h⟩,by simp,by simp,by simp,fun c h=>h.elim (fun h=> .inl (hB.st c h)) .inr,fun c h=> ?_,hB.vz.mono (fun _ h=> .inl h) hold⟩,⟨⟨_,rfl,?_⟩,trivial⟩,fun i hi=>by simp at hi⟩
 ·have:=Ix c ht;omega
 ·rcases h with h|h
  ·have:=Ix c h
   show c<w'.heap.size
   omega
  ·show c<w'.heap.size
   omega
 show Rd w' (fun c=>E.S c\/c=w.heap.size) (.sl .str) [_] (Go.Lib.split s p)
 refine⟨some ⟨w.heap.size,0,none⟩,Go.Lib.countB ⟨s.toArray⟩ ⟨p.toArray⟩+1,by rw[hq],by rw[hq];exact AMN _,.inr ⟨w.heap.size,0,rfl,.inr rfl,fun i y hy=> ?_⟩⟩;have hy':(q[i]?).map (·.data.toList)=some y:=by rw[<-AOR,ATT];exact hy
 obtain⟨z,z1,z2⟩:=AKm.1 hy';refine⟨[.string z],rfl,fun j v hj=> ?_,?_⟩
 ·have hj0:j=0:=by
   rcases j with _|j
   ·rfl
   ·simp at hj
  subst hj0;simp only[List.getElem?_cons_zero,AKX]at hj;subst hj;rw[show 0+i*Ty.n .str+0=i by simp[Ty.n]];simp[World.cell?,AJ3,z1]
 ·show[Value.string z]=[.string ⟨y.toArray⟩]
  rw[<-z2]
end Go.Fw
end
section
namespace Go.Fw
open Go Go.RowKit
theorem wZ{H:Type}{enc:TypeId×Value->H}{a:Assume}{C:Checked}{os:Os}{f:FuncId}{fn:Func}{s:ChangeSpec}{conds:List PathCond}{apart fresh handsOn again:Bool}{X:World->Array Value->Prop}
  (hX:∀(w w':World) (args:Array Value),w.heap=w'.heap->X w args->X w' args)
  (own:ownKnob C.prog.godebug=none) (started:os.Started) (AP8:C.prog.inits.idxOf? f=none) (hfn:C.prog.funcs[f]? =some fn)
  (witness:∃(w:World) (tape:Tape) (i:Input),w.os=os/\(w.forCall tape i).Shaped C.prog/\i.vars=[]/\Input.okWide C.prog (w.forCall tape i) .any w.heap.size f i/\
   ((s.pre enc C.prog fn conds apart (w.forCall tape i).memory i.args/\X (w.forCall tape i).memory i.args)/\sizedMet enc C.prog fn (OpenSpec.ofChange s) apart (w.forCall tape i).memory i.args)/\a.holds C.prog (lone (Frame.enter C.prog f i.args .normal) [] (w.forCall tape i)))
  (AHS:∀(W:World) (base:Nat) (args:Array Value) (ds gs:List (DataW H)) (before:List MemPlace),
   (∀(j:Nat) t v,fn.params[j]? =some t->args[j]? =some v->Value.okWide C.prog W .any base t v)->
   DataW.Whole enc C.prog fn.params.toList s.vars apart W args.toList ds gs before->X W args->W.ShapedOpen C.prog->
   Calls C.prog f args W fun e W' => ∃v,e= .returned v/\s.post enc C.prog fn apart fresh handsOn again W args v W'):
  ReturnsInHanded a C os f .any (fun w args=>(s.pre enc C.prog fn conds apart w args/\X w args)/\sizedMet enc C.prog fn (OpenSpec.ofChange s) apart w args) (s.post enc C.prog fn apart fresh handsOn again):=by
 refine returnsInHanded_of_calls own started AP8 witness ?_
 intro w tape i _ hsh _ DG AX_ _;obtain⟨_,_,_,fn',hfn',_,_,_,_,AK0⟩:=DG;have e:fn' =fn:=AVd (hfn'.symm.trans hfn);subst e;obtain⟨⟨⟨ds,gs,before,hw,hc⟩,hx⟩,hz⟩:=AX_;have pt:=DataW.Whole.of_heap (w':=w.forCall tape i) (by rfl) hw;refine(AHS (w.forCall tape i) w.heap.size i.args ds gs before AK0 pt (hX _ _ _ (by rfl) hx) hsh).mono fun e W' ⟨v,he,hp⟩=> ?_
 subst he;exact ChangeSpec.post_blind hp
theorem sQ{P:Program}{n nm:String}{d:DataW Unit}{r:List (String×DataW Unit)}{W:World}{g:Nat}{ti:TypeId}{ms:Array (String×TypeId)}
  (h:laidMet P ((n,.iface nm d)::r) W) (hg:P.globalNamed n=some g) (ht:(P.globals[g]?).map (·.type)=some ti) (hi:P.underlying ti=some (.interface ms)):gr W g:=by
 obtain⟨ps,⟨g0,t0,cs0,f0,p0,q0,hg0,yl,hv0,hd0,_,e0⟩,_,cy⟩:=h;obtain rfl:=AVd (hg.symm.trans hg0);obtain rfl:=AVd (ht.symm.trans yl);obtain⟨f1,u,v,e,_⟩:=Go.iface_of_trod hi hd0;refine⟨.iface u v,?_,.inr ⟨u,v,rfl⟩⟩;have:=World.var?_cell hg0 hv0 0
 have e':cs0= #[.iface u v]:=by
  obtain⟨l⟩:=cs0;simp only at e;rw[e]
 rw[e']at this;simpa using this
end Go.Fw
end
