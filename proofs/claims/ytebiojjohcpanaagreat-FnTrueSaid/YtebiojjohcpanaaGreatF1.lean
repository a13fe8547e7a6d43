/- The framework, part 2: a checked interpreter of the model's code over abstract states; no claim is made here. -/
import Derived.Test.YtebiojjohcpanaaGreatF0
import Derived.Below
import Derived.ChangeArms
import Derived.ChangeOld
import Derived.DataReads
import Derived.OrdersHeld
import Derived.Shelf.Slices.Delete
import Derived.Shelf.Spec.SlicesInsertGrow
import Derived.Tactics
set_option linter.unusedVariables false
set_option linter.unusedSimpArgs false
set_option linter.unusedSectionVars false
section
namespace Go.Fw
theorem uw{s:Bh}{N:Nat}{m0 m:P5}{tm:List XV}{bx:List Bx}{x:s.V}(e:s.fit N m0 tm bx=some (x,m)):∀(k:Nat) p,s.HE[k]? =some p->p≠ .gone-> ∃b B,m[k]? =some (some b)/\bx[b]? =some B/\B≠ .dead/\
  ∀d r,p= .sl d r-> ∃d' rows,B= .sl d' r rows:=by
 simp only[Bh.fit,AMz,ALL]at e;obtain⟨m1,e1,m2,e2,a,e3,c,e4,e5⟩:=e;cases e5;obtain⟨q1,q2⟩:=Rs (Jh:=id) e4;grind
theorem AHC(n:Nat):pe (List.replicate n none):=fun i j b h=>by
 grind
theorem AAF{w:World}{B B':Nat->Prop}{w':World}{r:Ty}{v:Value}{x y:List r.D}(h:Rd w B (.sl r) [v] x)(h':Rd w' B' (.sl r) [v] y):y.length=x.length:=by
 simp only[Rd]at h h';grind
section
variable{Y:Type} {P:Program} {E:Env} {σ:St} {a:Act} {w:World} {k:K Y} {y:Y}
theorem sE{E' E2:Env}{l:List BP}{u:J6.V l}{vw2:List Bx}{Jh:Nat->Nat}(r:vf E' E2 l u vw2 Jh):∀{sl:List (Nat×XP)} {z:HK.V sl} {x:Value},
  mJ l sl=true->Ou E' w (J6.mk id l u) id sl z [x]->XR E2 w vw2 (fi sl z Jh) x
 |[(0,p)],z,x,Bt,h=>by
  obtain⟨⟨v,hv,hx⟩,_⟩:=h;simp at hv;subst hv;exact APc r Bt hx
 |[],_,_,Bt,_=>by simp[mJ]at Bt
 |(_+1,_)::_,_,_,Bt,_=>by simp[mJ]at Bt
 |(0,_)::_::_,_,_,Bt,_=>by simp[mJ]at Bt
def fX(c:RC)(xs:List XV)(σ:St):ABS:=
 match c.ins.fit σ.bx.length c.ins.m0 xs (c.ins.opens σ.bx)with
 |some (_,m)=>m.filterMap id
 |none=>[]
theorem uB(h:Rel E σ a w)(s:Bh):∃E',Rel E' { σ with bx:=s.opens σ.bx } a w/\Rn [] E σ.bx w E' (s.opens σ.bx) w/\(∀(i:Nat) d r,s.HE[i]? =some (.sl d r)->E'.ID (σ.bx.length+i)= .slice none 0 0)/\
  (∀x v,XR E w σ.bx x v->XR E' w (s.opens σ.bx) x v):=by
 let E':Env:={ E with ID:=fun k=>if k<σ.bx.length then E.ID k else .slice none 0 0 }
 have hlen:σ.bx.length<=(s.opens σ.bx).length:=by simp[Bh.opens]
 have hold:∀b,b<σ.bx.length->(s.opens σ.bx)[b]? =σ.bx[b]?:=fun b hb=>by grind[Bh.opens,List.getElem?_append_left]
 have oL:∀b,b<σ.bx.length->E'.ID b=E.ID b:=fun b hb=>by grind
 have keep:TC E w σ.bx E' w (s.opens σ.bx):=
  ⟨hlen,fun _ _=>rfl,fun _ h=>h,fun _ h=>h,h.bx.st,fun _ _=>rfl,fun b d r rows hb e=>⟨d,rows,by simp_all,fun p hp q ys hg=>⟨hp,⟨ys,hg,rfl⟩,fun hh he=>by simp_all⟩⟩⟩
 obtain⟨Fs,⟨f1,f2⟩,f3⟩:=h.bx;refine⟨E',⟨h.Nn,h.tm.imp fun _ _ hx=>Pt keep hx,?_⟩,?_,fun i d r hi=>by grind,fun x v hx=>Pt keep hx⟩
 ·refine⟨Fs++List.replicate s.HE.length [],⟨by simp[Bh.opens,f1],fun n B F hB hF=> ?_⟩,?_⟩
  ·by_cases hn:n<σ.bx.length
   ·rw[hold n hn]at hB
    rw[ANz (by omega)]at hF;have:=f2 n B F hB hF;cases B with
    |mem cs=>
     obtain⟨rfl,arr,ty,fr,a1,a2,a3⟩:=this;exact⟨rfl,arr,ty,fr,a1,a2,a3.imp fun _ _ hv=>Ga keep hv⟩
    |sl d r rows=>exact⟨this.1,by rw[oL n hn];exact this.2⟩
    |dead=>exact this
   ·rw[AOE (by omega)]at hF
    have hF':F=[]:=AUf (AOA hF);subst hF';simp only[Bh.opens]at hB;rw[AOE (by omega),ARb,ALL]at hB;obtain⟨p,_,rfl⟩:=hB;have hh:E'.ID n= .slice none 0 0:=by grind
    cases p with
    |mem q=>rfl
    |gone=>rfl
    |sl d r=>exact⟨by omega,by rw[hh];exact qQ⟩
  ·have:(Fs++List.replicate s.HE.length []).flatten=Fs.flatten:=by simp
   rw[this];exact⟨f3.nodup,f3.free,f3.lt,f3.st,f3.dh⟩
 ·refine⟨⟨fun _ h=>h,fun _ h=>h,fun _ h=> .inl h,fun _ h=> .inl h,fun _ _=>rfl,rfl,rfl,rfl,AP7 _⟩,hlen,fun b hb=>⟨rfl,oL b hb⟩,fun b hb=> ?_,fun n B B' _ hB UB hd=> ?_⟩
  ·grind
  ·rw[hold n (ALN.1 hB).1,hB]at UB
   cases UB;exact⟨Vv.refl hd,fun _ _=>rfl⟩
theorem Rn.after{t:ABS}{E E' E'':Env}{bx Q5 AWL:List Bx}{w w':World}(h:Rn [] E bx w E' Q5 w)(hb:∀b,b<bx.length->Q5[b]? =bx[b]?)(k:Rn t E' Q5 w E'' AWL w'):Rn t E bx w E'' AWL w':=
 ⟨h.base.trans k.base,ARi h.len k.len,fun b K9=>⟨(k.ids b (AT4 K9 h.len)).1.trans (h.ids b K9).1,(k.ids b (AT4 K9 h.len)).2.trans (h.ids b K9).2⟩,fun b hd=>k.dead b (h.dead b hd),fun n B B' hn hB UB hd=>by
  have K9:=(ALN.1 hB).1;obtain⟨k1,k2⟩:=k.frame n B B' hn (by simp_all) UB hd;refine⟨k1,fun c hc=>k2 c ?_⟩;cases B with
  |mem cs=>simp only[zH]at hc|-;rw[(h.ids n K9).1];omega
  |sl d r rows=>simp only[zH]at hc|-;rw[(h.ids n K9).2];omega
  |dead=>exact hc⟩
def ANU(c:RC)(N:Nat)(xs:List XV)(σ:St)(k:K Y):Option Y:=
 match c.ins.fit N c.ins.m0 xs σ.bx with
 |some (v,m)=>(c.g v).bind fun u=>
  let Jh:=Zk m σ.bx.length
  let σ1:=σ.Zy m
  k (fi c.outs.ED u.1 Jh) { σ1 with bx:=aj Jh 0 c.outs.HE u.2 (DB σ1.bx m) }
 |none=>none
def zV(c:RC)(N:Nat)(xs:List XV)(σ:St):ABS:=
 match c.ins.fit N c.ins.m0 xs σ.bx with
 |some (_,m)=>m.filterMap id
 |none=>[]
theorem AAn{f:Nat}{c:RC}(hc:Xc P f c)(h:Rel E σ a w){N0:Nat}(vx:∀(i:Nat) d r,c.ins.HE[i]? =some (.sl d r)->E.ID (N0+i)= .slice none 0 0){xs:List XV}{vs:List Value}(hxs:Cj (XR E w σ.bx) xs vs)(hlen:xs.length=c.ins.ED.length)(e:ANU c N0 xs σ k=some y):
  Calls P f vs.toArray w fun e w' => ∃x E' xv σ',e= .returned x/\Rel E' σ' a w'/\XR E' w' σ'.bx xv x/\Rn (zV c N0 xs σ) E σ.bx w E' σ'.bx w'/\σ'.tm.length=σ.tm.length/\k xv σ' =some y:=by
 obtain⟨Bt,_,uP⟩:=hc;simp only[RC.ok,ALz]at Bt;obtain⟨⟨hk,hslot⟩,hbo⟩:=Bt;obtain⟨hklen,hk⟩:=XN hk;unfold ANU at e;split at e
 case h_2=>cases e
 rename_i v m eZ;simp only[AMz]at e;obtain⟨u,hg,e⟩:=e;obtain⟨_,E1,hf⟩:=lO h.bx hxs vx (by simp[Bh.m0]) (AHC _) eZ;have Pu:vs.toArray.size=c.ins.ED.length:=by grind[Cj.len]
 refine(uP E1 w v vs.toArray u Pu hf.boxes (by simpa using hf.ED) hg).mono fun e' w' hR=> ?_
 obtain⟨x,E',rfl,base,⟨Fs,hFs1,hFs2⟩,ED,AFh⟩:=hR;simp only[ANm]at hFs2;obtain⟨Fk,k1,k2,k3,k4⟩:=hf.rest;have st:=h.bx.st;have dh:=h.bx.dh;have hM:m.length=c.ins.HE.length:=hf.len;have all:∀i,i<m.length-> ∃b B,m[i]? =some (some b)/\σ.bx[b]? =some B/\B≠ .dead/\ ∀d r,c.ins.HE[i]? =some (.sl d r)-> ∃d' rows,B= .sl d' r rows:=by
  intro i hi;have hp:c.ins.HE[i]? =some (c.ins.HE[i]'(by omega)):=AKS _;grind[uw,Option.some.inj]
 let N:=σ.bx.length
 let M:=m.length
 have AIR:∀i b,m[i]? =some (some b)->Zk m N i=b:=fun i b h=>by simp[Zk,h]
 have AVj:∀i,M<=i->Zk m N i=N+(i-M):=fun i hi=>by
  grind[List.getElem?_eq_none,Zk]
 have ro:ya (Zk m N) M N:=⟨fun i hi=>by
   grind,AVj,fun i j hi hj e=>by
   obtain⟨b,B,h1,h2,_⟩:=all i hi;obtain⟨b',B',h1',h2',_⟩:=all j hj;rw[AIR i b h1,AIR j b' h1']at e;subst e;exact hf.inj i j b h1 h1'⟩
 let E2:Env:={
   IC:=fun n=>if n<N then E.IC n else E'.IC (M+(n-N))
   ID:=fun n=>if n<N then E.ID n else E'.ID (M+(n-N))
   T:=fun c=>E.T c\/E'.S c
   S:=E'.S }
 have hS:∀c,E.S c->E'.S c:=fun d hd=>base.S d (hf.S d hd)
 have hSk:∀d∈Fk.flatten,¬E'.S d:=fun d hd hs=>by
  obtain⟨_,n2,_,n4⟩:=k3 d hd;exact(base.Sof d hs).elim n2 (fun h=>h n4)
 have AE7:∀d,E.T d->w'.heap[d]? =w.heap[d]?:=fun d hd=>base.heap d (hf.T d hd)
 have AVL:∀d∈Fk.flatten,w'.heap[d]? =w.heap[d]?:=fun d hd=>base.heap d (k3 d hd).2.2.2
 have AYA:d_ E w E2 w':=⟨fun d hd=> .inl hd,hS,fun d hd=>hd,fun d hd=>by
   rcases base.Sof d hd with h|h
   ·exact hf.Sof d h
   ·exact .inr fun ht=>h (hf.T d ht),AE7,base.os,base.tape,base.output,base.size⟩
 let vw':=J6.mk id c.outs.HE u.2
 let Bs:=J6.mk (Zk m N) c.outs.HE u.2
 let bk:=(DB σ.bx m).map (Bx.map (Gq m))
 have hbk:DB (σ.Zy m).bx m=bk:=by rw[AD0,eu]
 have Aeq:bk.length=N:=by simp[bk,Ke,N]
 let bZ:=Lg (Zk m N) 0 Bs bk
 have AfR:aj (Zk m N) 0 c.outs.HE u.2 (DB (σ.Zy m).bx m)=bZ:=by rw[mg,hbk]
 obtain⟨s1,s2,s3⟩:=gf ro (l:=Bs) (i:=0) (bx:=bk) (by omega);have Ae1:Bs.length=c.outs.HE.length:=UA _;have rf:σ.bx.length<=bZ.length:=by
  grind
 have rn:vf E' E2 c.outs.HE u.2 bZ (Zk m N):=by
  refine⟨fun i hi=> ?_,fun i p hp=> ?_,rfl⟩
  ·by_cases him:i<M
   ·obtain⟨b,B,h1,h2,_⟩:=all i him
    have hbl:b<N:=(ALN.1 h2).1;have g1:=hf.ids i b h1;grind
   grind
  ·obtain⟨z,z1,z2⟩:=cY (Zk m N) (u:=u.2) hp
   grind
 have AFr:∀n,n<N->some n∉m->bZ[n]? =bk[n]?:=fun n hn hm=>by
  grind
 have keep:TC E w σ.bx E2 w' (DB bZ m):=by
  refine⟨by rw[Ke];omega,fun b hb=>by grind,fun d hd=> .inl hd,hS,st,AE7,fun b d r rows hb hq=> ?_⟩;have hbm:some b∉m:=fun hm=>by grind[Wg]
  rw[RJ hbm,AFr b hb hbm]at hq;have hq1:=AG6 hq;have hq2:σ.bx[b]? =some (.sl d r rows):=by
   rcases S6 (Fb.refl σ.bx) b _ hq1 with e|e
   all_goals grind
  refine⟨d,rows,hq2,fun p hp q ys hgp=>⟨hp,⟨ys,hgp,rfl⟩,fun h' hh=> ?_⟩⟩;have hFk:Fk[b]? =some (Fk[b]'(by rw[k1.1,Ke];omega)):=AKS _;obtain⟨_,ho⟩:=k1.2 b _ _ hq1 hFk;have e2:E2.ID b=E.ID b:=by grind
  grind[vE,List.mem_flatten,List.mem_of_getElem?]
 have vr:∀x v,VR E w σ.bx x v->VR E2 w' bZ (Gq m x) v:=fun x v hx=>by
  refine AC7 keep (fun b d' r DG hbm hq=> ?_) rf hx;obtain⟨i,hi,him⟩:=AQo hbm;have ATi:m[i]? =some (some b):=by grind
  obtain⟨b',B,h1,h2,h3,h4⟩:=all i hi;rw[ATi]at h1;cases h1;have hio:i<c.outs.HE.length:=by omega
  have hp:c.outs.HE[i]? =some c.outs.HE[i]:=AKS hio;obtain⟨z,z1,z2⟩:=rn.bx i _ hp;rw[AIR i b ATi,hq]at z2;have Aaz:c.ins.HE[i]? =some (c.ins.HE[i]'(by omega)):=AKS _
  generalize c.outs.HE[i]=po at z hp z1 z2
  cases po with
  |mem q=>simp[BP.mk]at z2
  |gone=>simp[BP.mk]at z2
  |sl d0 q=>
   simp only[BP.mk,AKr,Bx.sl.injEq]at z2;obtain⟨rfl,rfl,z2⟩:=z2;obtain rfl:=ARU z2;obtain⟨d1,hpo⟩:=(hk i _ Aaz).2 _ _ hp;obtain⟨d2,rows,rfl⟩:=h4 d1 r (by simp_all);have hbl:b<N:=(ALN.1 h2).1;have eh:E2.ID b=E.ID b:=by grind
   refine⟨d2,rows,h2,?_,eh⟩;obtain⟨F0,hR0,_⟩:=h.bx.take h2;have hFi:Fs[i]? =some (Fs[i]'(by rw[hFs1.1,UA];omega)):=AKS _;obtain⟨_,xY⟩:=hFs1.2 i _ _ z1 hFi;have hal:alive c.outs.HE i=true:=by simp[alive,hp]
   rw[(AFh i (by omega) hal).2,(hf.ids i b ATi).2]at xY;exact AAF (XZ hR0.2) (XZ xY)
 have im:c.outs.HE.all (BP.Ly c.outs.HE)=true:=hbo;have rel:Rel E2 { tm:=(σ.Zy m).tm,bx:=bZ } a w':=by
  refine⟨h.Nn,?_,?_⟩
  ·rw[ua]
   exact Cj.Lb _ (fun x v hx=>ADx vr hx) h.tm
  ·refine eJ ro (Fs:=Fs) (by omega) (fun i _ hi=> ?_) (by rw[hFs1.1,UA];omega) (fun j B F hB hF=> ?_) ?_
   ·obtain⟨b,B,h1,h2,_⟩:=all i hi
    rw[AIR i b h1];have hbl:b<(DB σ.bx m).length:=by grind
    have hd:(DB σ.bx m)[b]? =some .dead:=by
     rw[AKS hbl];exact congrArg some (Wg (AOA h1) (AKS hbl))
    simp only[bk];rw[ARb,hd];rfl
   ·rw[AUX]
    have rz:=(ALN.1 hB).1;have hp:c.outs.HE[j]? =some (c.outs.HE[j]'(by omega)):=AKS _;obtain⟨z,z1,z2⟩:=cY (Zk m N) (u:=u.2) hp;have UB:Bs[j]? =_:=z2;rw[hB]at UB;cases UB;exact ASi rn hp (AUY.1 im _ (ANM _)) (hFs1.2 j _ _ z1 hF)
   ·
    refine⟨Fk,⟨by simp[bk,k1.1],fun n B F hn hF=> ?_⟩,?_⟩
    ·simp only[bk]at hn
     rw[ARb,ALL]at hn;obtain⟨B0,hn,rfl⟩:=hn;have y6:n<N:=by grind
     have h3:=k1.2 n B0 F hn hF;have hFw:∀d∈F,w'.heap[d]? =w.heap[d]?:=fun d hd=>AVL d (AST.2 ⟨F,AOA hF,hd⟩)
     have eb:E2.IC n=E.IC n:=by grind
     have eh:E2.ID n=E.ID n:=by grind
     cases B0 with
     |mem cs=>
      obtain⟨rfl,arr,ty,fr,ha,hu,hv⟩:=h3;exact⟨by rw[eb],arr,ty,fr,by simp_all,hu,Cj.Lb _ vr hv⟩
     |sl d r rows=>
      refine⟨h3.1,?_⟩;rw[eh];exact Ek hS (fun d hd=>AE7 d (st d hd)) hFw h3.2
     |dead=>exact h3
    ·refine⟨ANo.2 ⟨k2,hFs2.nodup,fun x hx z hz he=> ?_⟩,fun d hd ht=> ?_,fun d hd=> ?_,fun d hd=> .inr hd,fun d hd=> ?_⟩
     ·subst he
      exact hFs2.free x hz (base.T x (k3 x hx).2.2.2)
     ·rcases AOO.1 hd with hd|hd
      ·grind
      ·rcases ht with ht|ht
       ·exact hFs2.free d hd (base.T d (hf.T d ht))
       ·exact hFs2.free d hd (hFs2.st d ht)
     ·rcases AOO.1 hd with hd|hd
      ·grind
      ·exact hFs2.lt d hd
     ·rcases hd with hd|hd
      ·grind
      ·exact hFs2.dh d (hFs2.st d hd)
 have AVr:Rn (zV c N0 xs σ) E σ.bx w E2 bZ w':=by
  refine⟨AYA,rf,fun n hn=>⟨by grind,by grind⟩,fun n hn=> ?_,fun n B B' hnt hB UB r6=> ?_⟩
  rotate_left 1
  ·have y6:=(ALN.1 hB).1
   have tp:some n∉m:=fun hm=>hnt (by
    simp only[zV,eZ,List.mem_filterMap];simp_all)
   rw[AFr n y6 tp]at UB;simp only[bk]at UB;have hkn:(DB σ.bx m)[n]? =some B:=by grind[RJ]
   rw[ARb,hkn]at UB;have UB:Bx.map (Gq m) B=B':=by simp_all
   have hFk:Fk[n]? =some (Fk[n]'(by rw[k1.1,Ke];omega)):=AKS _;refine⟨?_,fun d hd=> ?_⟩
   ·subst UB
    cases B with
    |mem cs=>trivial
    |sl d r rows=>rfl
    |dead=>exact absurd rfl r6
   ·rcases fc (k1.2 n B _ hkn hFk) hd with hs|hs
    all_goals grind[List.mem_flatten,List.mem_of_getElem?]
  have y6:=(ALN.1 hn).1;have tp:some n∉m:=fun hm=>by
   obtain⟨i,hi,him⟩:=AQo hm;grind
  rw[AFr n y6 tp];simp only[bk];rw[ARb,RJ tp,hn];rfl
 refine⟨x,E2,fi c.outs.ED u.1 (Zk m N),{ tm:=(σ.Zy m).tm,bx:=bZ },rfl,rel,sE rn hslot ED,AVr,by simp[ua],?_⟩;grind
theorem ACS{f:Nat}{c:RC}(hc:Xc P f c)(h:Rel E σ a w){xs:List XV}{vs:List Value}(hxs:Cj (XR E w σ.bx) xs vs)(e:nI c xs σ k=some y):
  Calls P f vs.toArray w fun e w' => ∃x E' xv σ',e= .returned x/\Rel E' σ' a w'/\XR E' w' σ'.bx xv x/\Rn (fX c xs σ) E σ.bx w E' σ'.bx w'/\σ'.tm.length=σ.tm.length/\k xv σ' =some y:=by
 unfold nI at e;split at e
 case isFalse=>cases e
 rename_i hlen;obtain⟨E',h1,h2,h3,h4⟩:=uB h c.ins;have hold:∀b,b<σ.bx.length->(c.ins.opens σ.bx)[b]? =σ.bx[b]?:=fun b hb=>by grind[Bh.opens,List.getElem?_append_left]
 refine(AAn (N0:=σ.bx.length) hc h1 h3 (hxs.imp fun x v hx=>h4 x v hx) hlen (k:=k) (y:=y) e).mono fun e' w' hR=> ?_
 obtain⟨x,E2,xv,σ',q0,q1,q2,q3,q4,q5⟩:=hR;exact⟨x,E2,xv,σ',q0,q1,q2,h2.after hold q3,q4,q5⟩
end
end Go.Fw
end
section
namespace Go.Fw
def iN(P:Program)(Γ:Nat->Option RC):Prop:= ∀f c,Γ f=some c->Xc P f c
theorem sj{Γ:Nat->Option RC}{σ:St}{o:Op}(h:q_ o=false):Kp (fun _=>none) σ o=Kp Γ σ o:=by
 cases o with
 |call c=>
  obtain⟨callee,args,sN⟩:=c;cases callee with
  |value f=>simp[q_]at h
  |invoke _ _=>rfl
  |builtin b=>cases b<;>rfl
 |_=>rfl
theorem AVG{Y:Type}{P:Program}{Γ:Nat->Option RC}{o:Oper}{E:Env}{σ:St}{a:Act}{w:World}{k:K Y}{y:Y}{g:Nat}{c:RC}(hsc:Xc P g c)(h:Rel E σ a w){f:Operand}{args:Array Operand}{sN:Array TypeId}
  (ho:o.op= .call { callee:= .value f,args:=args,argTypes:=sN }) {ps:List Value} (ah:a.eval f= .func (.func g) #[] ps.toArray) {xs:List XV} (Ii:Cj (XR E w σ.bx) xs (args.toList.map a.eval++ps)) (ht:Kp Γ σ o.op=fX c xs σ)
  (e:nI c xs σ k=some y) {next:Act->World->Prop} {Q:Exit->Act->World->Prop}
  (hn:∀v w' E' x σ',Rel E' σ' a w'->XR E' w' σ'.bx x v->Rn (Kp Γ σ o.op) E σ.bx w E' σ'.bx w'->σ'.tm.length=σ.tm.length->k x σ' =some y->next (a.put o.dst v) w'):o.wp P a w next Q:=by
 have uP:=ACS hsc h Ii e;have kX:(execOp a.eval o).run P w= .ok (.enter g (args.toList.map a.eval++ps).toArray) w:=by
  have e2:(args.map a.eval)++ps.toArray=(args.toList.map a.eval++ps).toArray:=by
   simp_all
  simp only[execOp,ho,resolve,ah,Deferred.ofValue,Sem.run_bind,Sem.run_pure,Result.andThen_ok,invoke,Array.empty_append,e2,hsc.2.1]
 unfold Oper.wp;rw[kX];simp only[Oper.upon];refine uP.mono fun e w' hR=> ?_
 grind
section
variable{Y:Type} {P:Program} {T:J4} (hT:FB P T) {Γ:Nat->Option RC} (hΓ:iN P Γ) {o:Oper} {E:Env} {σ:St} {a:Act} {w:World} {k:K Y} {y:Y}
include hT hΓ
theorem ABV(h:Rel E σ a w)(e:YI T Γ o σ k=some y){next:Act->World->Prop}{Q:Exit->Act->World->Prop}
  (hn:∀v w' E' x σ',Rel E' σ' a w'->XR E' w' σ'.bx x v->Rn (Kp Γ σ o.op) E σ.bx w E' σ'.bx w'->σ'.tm.length=σ.tm.length->k x σ' =some y->next (a.put o.dst v) w'):o.wp P a w next Q:=by
 by_cases hc:q_ o.op=false
 ·obtain⟨v,w',E',x,σ',hr,h1,h2,h3,h4,h5⟩:=AD3 hT h e hc
  rw[sj hc]at h3;unfold Oper.wp;rcases hr with hr|⟨hr,rfl⟩
  ·rw[hr]
   exact hn v w' E' x σ' h1 h2 h3 h4 h5
  ·rw[hr]
   exact hn _ w' E' x σ' h1 h2 h3 h4 h5
 ·
  unfold q_ at hc;split at hc
  case h_2=>simp_all
  rename_i f args sN ho;unfold YI at e;rw[ho]at e;dsimp only at e;split at e
  case h_3=>cases e
  ·rename_i g KW hf
   split at e
   case h_2=>cases e
   rename_i c hg;have hv:=h.ev f;rw[hf]at hv;obtain⟨dU,ah⟩:(∀b∈KW,b<σ.bx.length)/\a.eval f= .func (.func g) #[] (KW.map fun b=>Value.pointer (some ⟨E.IC b,0,none⟩)).toArray:=hv;have hsc:=hΓ g c hg;have Ii:Cj (XR E w σ.bx) (args.toList.map σ.ev++KW.map fun b=> .c (.Ie b 0)) (args.toList.map a.eval++KW.map fun b=>Value.pointer (some ⟨E.IC b,0,none⟩)):=by
    refine Cj.append (evs h args.toList) ?_
    clear ah hf e
    induction KW with
    |nil=>trivial
    |cons b l ih=>exact⟨⟨dU b (by simp),rfl⟩,ih (fun c hc=>dU c (by simp[hc]))⟩
   grind[Kp,fX,AVG]
  ·rename_i g rows hf
   split at e
   case h_2=>cases e
   rename_i c hg;have hv:=h.ev f;rw[hf]at hv;obtain⟨ps,ah,dU⟩:∃ps:List Value,a.eval f= .func (.func g) #[] ps.toArray/\Cj (RA E w) rows ps:=hv;have hsc:=hΓ g c hg;have Ii:Cj (XR E w σ.bx) (args.toList.map σ.ev++rows.map fun q=> .c (.Pv false q.1 q.2 0)) (args.toList.map a.eval++ps):=by
    refine Cj.append (evs h args.toList) ?_
    clear ah hf e
    induction rows generalizing ps with
    |nil=>
     cases ps with
     |nil=>trivial
     |cons _ _=>exact dU.elim
    |cons q l ih=>
     cases ps with
     |nil=>exact dU.elim
     |cons p ps=>
      obtain⟨⟨bb,o,cs,h1,h2,h3,h4,h5⟩,dU⟩:=dU;exact⟨⟨bb,o,cs,h1,h2,h3,h4,h5⟩,ih ps dU⟩
   grind[Kp,fX,AVG]
end
theorem Rel.tmp{E:Env}{σ:St}{a:Act}{w:World}(h:Rel E σ a w){t:Nat}{x:XV}(e:σ.tm[t]? =some x):∃v,a.tmps[t]? =some v/\XR E w σ.bx x v:=by
 obtain⟨v,h1,h2⟩:=h.tm.get e;simp_all
def AR5:Value->Option Bool
 | .bool b=>some b
 |_=>none
theorem cm{ops:Array Oper}{tmps:Array Value}{j t:Nat}(e:(ops[j]?).bind (·.dst)=some t){v:Value}(hv:tmps[t]? =some v):yielded ops tmps j=AR5 v:=by
 simp only[yielded,e,ANe,hv];cases v<;>rfl
theorem qU{E:Env}{w:World}{vw:List Bx}:XR E w vw (.Mo []) undef:=⟨#[],rfl,trivial⟩
structure Ok (E0:Env) (w0:World) (N nb:Nat) (E:Env) (σ:St) (a:Act) (w:World):Prop where
 rel:Rel E σ a w
 base:d_ E0 w0 E w
 tm:σ.tm.length=N
 r9:nb<=σ.bx.length
 ids:∀i,i<nb->σ.bx[i]?≠some .dead->E.IC i=E0.IC i/\E.ID i=E0.ID i
theorem Ok.next{E0 E E':Env}{w0 w w':World}{N nb:Nat}{σ σ':St}{a a':Act}{t:ABS}(h:Ok E0 w0 N nb E σ a w)(hr:Rel E' σ' a' w')(hw:Rn t E σ.bx w E' σ'.bx w')(hl:σ'.tm.length=σ.tm.length):Ok E0 w0 N nb E' σ' a' w':=
 ⟨hr,h.base.trans hw.base,hl.trans h.tm,ARi h.r9 hw.len,fun i hi hd=>by
  have h1:=hw.ids i (AT4 hi h.r9);have h2:=h.ids i hi (fun hh=>hd (hw.dead i hh));simp_all⟩
theorem Ok.put{E0 E:Env}{w0 w:World}{N nb:Nat}{σ:St}{a:Act}(h:Ok E0 w0 N nb E σ a w)(dst:Option Tmp){x:XV}{v:Value}(hx:XR E w σ.bx x v):Ok E0 w0 N nb E (σ.put dst x) (a.put dst v) w:=by
 have e1:(σ.put dst x).bx=σ.bx:=by cases dst<;>rfl
 have e2:(σ.put dst x).tm.length=σ.tm.length:=by cases dst<;>simp[St.put]
 refine⟨h.rel.put dst hx,h.base,e2.trans h.tm,by rw[e1];exact h.r9,fun i hi hd=>h.ids i hi (by simp_all)⟩
theorem Ok.same{E0 E:Env}{w0 w:World}{N nb:Nat}{σ σ1:St}{a:Act}(h:Ok E0 w0 N nb E σ a w)(hr:Rel E σ1 a w)(hb:σ1.bx=σ.bx)(hl:σ1.tm.length=σ.tm.length):Ok E0 w0 N nb E σ1 a w:=
 ⟨hr,h.base,hl.trans h.tm,by rw[hb];exact h.r9,fun i hi hd=>h.ids i hi (by simp_all)⟩
end Go.Fw
end
section
namespace Go.Fw
section
variable{Y:Type}
abbrev k0:K (XV×St):=fun x σ=>some (x,σ)
theorem AD9{op:BinOp}{κ:IntKind}{a b:Int}(k:AV->Option Y):gR op κ a b k=(gR op κ a b some).bind k:=by
 cases op<;>simp[gR]<;>split<;>rfl
theorem xe{op:BinOp}{κ:IntKind}{a b:Int}(k:AV->Option Y):ZZ op κ a b k=(ZZ op κ a b some).bind k:=by
 unfold ZZ;grind
theorem ADE{op:BinOp}{a b:ACB}(k:AV->Option Y):kG op a b k=(kG op a b some).bind k:=by
 cases op<;>simp[kG]<;>split<;>rfl
theorem qc{T:J4}{t:Nat}{op:BinOp}{a b:XV}(k:AV->Option Y):ym T t op a b k=(ym T t op a b some).bind k:=by
 unfold ym;grind[xe,AD9,ADE]
theorem vh{op:UnOp}{a:XV}(k:AV->Option Y):unX op a k=(unX op a some).bind k:=by
 unfold unX;grind
theorem ay{g:Bool}{a b:XV}(k:AV->Option Y):vn g a b k=(vn g a b some).bind k:=by
 unfold vn;grind
theorem L_{len:Nat}{lo hi:Option XV}(k:Nat->Nat->Option Y):OH len lo hi k=(OH len lo hi fun l h=>some (l,h)).bind fun p=>k p.1 p.2:=by
 unfold OH;grind
theorem zS{T:J4}{t:Nat}{σ:St}{x:XV}{lo hi:Option XV}(k:K Y):ld T t σ x lo hi k=(ld T t σ x lo hi k0).bind fun p=>k p.1 p.2:=by
 unfold ld;split
 ·split
  ·rw[L_,L_ (Y:=XV×St),AVU];rfl
  ·rfl
 ·split
  ·rw[L_,L_ (Y:=XV×St),AVU];rfl
  ·rfl
 ·split
  ·split
   ·rw[L_,L_ (Y:=XV×St),AVU];rfl
   ·rfl
  ·rfl
 ·rfl
theorem zx{T:J4}{t:Nat}{σ:St}{x i:XV}(k:K Y):lI σ T t x i k=(lI σ T t x i k0).bind fun p=>k p.1 p.2:=by
 unfold lI;grind
theorem sq{T:J4}{t:Nat}{σ:St}{x i:XV}(k:K Y):W7 T t σ x i k=(W7 T t σ x i k0).bind fun p=>k p.1 p.2:=by
 unfold W7;grind
theorem ACd{T:J4}{s d:Nat}{σ:St}{x:XV}(k:K Y):uc T s d σ x k=(uc T s d σ x k0).bind fun p=>k p.1 p.2:=by
 unfold uc;grind
theorem ADC{T:J4}{t:Nat}{σ:St}{l c:XV}(k:K Y):uV T t σ l c k=(uV T t σ l c k0).bind fun p=>k p.1 p.2:=by
 grind[uV]
theorem od{T:J4}{t n:Nat}{ps:List (Nat×XV)}{σ:St}(k:K Y):RH T t n ps σ k=(RH T t n ps σ k0).bind fun p=>k p.1 p.2:=by
 grind[RH,Option.bind_assoc]
theorem w5{T:J4}{ts:Array TypeId}{σ:St}{a x:XV}(k:K Y):fa T ts σ a x k=(fa T ts σ a x k0).bind fun p=>k p.1 p.2:=by
 unfold fa;split
 all_goals grind
theorem AAs{T:J4}{ts:Array TypeId}{σ:St}{x:XV}(k:K Y):l7 T ts σ x k=(l7 T ts σ x k0).bind fun p=>k p.1 p.2:=by
 unfold l7;grind
theorem ACq{c:RC}{xs:List XV}{σ:St}(k:K Y):nI c xs σ k=(nI c xs σ k0).bind fun p=>k p.1 p.2:=by
 grind[nI,Option.bind_assoc]
theorem xf{σ:St}{x:XV}(k:K Y):cW σ x k=(cW σ x k0).bind fun p=>k p.1 p.2:=by
 unfold cW;grind
theorem ADJ{T:J4}{Γ:Nat->Option RC}{o:Oper}{σ:St}(k:K Y):YI T Γ o σ k=(YI T Γ o σ k0).bind fun p=>k p.1 p.2:=by
 unfold YI;split
 ·rfl
 ·exact xf k
 ·split
  ·rename_i x _
   cases x<;>rfl
  ·rfl
 ·grind
 ·grind
 ·grind
 ·exact od k
 ·grind
 ·grind
 ·grind
 ·rw[qc,qc (Y:=XV×St),AVU];rfl
 ·rw[vh,vh (Y:=XV×St),AVU];rfl
 ·exact ACd k
 ·grind
 ·exact ADC k
 ·exact zS k
 ·grind
 ·grind
 ·exact zx k
 ·exact sq k
 ·grind
 ·grind[ACq]
 ·grind
 ·grind[w5]
 ·grind[AAs]
 ·split
  ·rw[ay,ay (Y:=XV×St),AVU];rfl
  ·rfl
 ·split
  ·rw[ay,ay (Y:=XV×St),AVU];rfl
  ·rfl
 ·rfl
theorem l_{I:Type}[Nonempty I]{T:J4}{Γ:Nat->Option RC}{o:Oper}{σ:St}{k:I->K Y}{y:Y}(h:∀i,YI T Γ o σ (k i)=some y):∃x σ',YI T Γ o σ k0=some (x,σ')/\ ∀i,k i x σ' =some y:=by
 obtain⟨i0⟩:= ‹Nonempty I›;have h0:=h i0;grind[ADJ,Option.bind_eq_some_iff]
end
end Go.Fw
end
section
namespace Go.Fw
def WF{α:Type}(P:Program)(s:Sem α):Prop:= ∀w v w1,s.run P w= .ok v w1-> ∀w',s.run P w' = .ok v w'
section
variable{α β:Type} {P:Program}
theorem WF.pure(x:α):WF P (Pure.pure x:Sem α):=fun w v w1 h w' =>by
 simp_all
theorem WF.bind{s:Sem α}{f:α->Sem β}(h:WF P s)(k:∀v,WF P (f v)):WF P (s >>= f):=fun w v w1 e w' =>by
 rw[Sem.run_bind]at e|-;cases hs:s.run P w with
 |ok u w2=>
  rw[hs]at e;simp only[Result.andThen_ok]at e;rw[h w u w2 hs w'];simp only[Result.andThen_ok];exact k u w2 v w1 e w'
 |halt x w2=>
  simp_all
theorem WF.halt(x:Halt):WF P (.halt x:Sem α):=fun w v w1 e w' =>by simp_all
theorem WF.program:WF P program:=fun w v w1 e w' =>by
 simp_all
theorem WF.typeInfo(t:TypeId):WF P (typeInfo t):=WF.bind WF.program fun p=>by
 split
 ·exact WF.pure _
 ·exact WF.halt _
theorem WF.underlying(t:TypeId):WF P (underlying t):=WF.bind WF.program fun p=>by
 split
 ·exact WF.pure _
 ·exact WF.halt _
theorem WF.sizeOf(t:TypeId):WF P (Go.sizeOf t):=WF.bind (WF.typeInfo t) fun _=>WF.pure _
theorem WF.isAgg(t:TypeId):WF P (isAgg t):=WF.bind (WF.underlying t) fun d=>by
 grind[WF.pure]
theorem WF.zeroValue(t:TypeId):WF P (zeroValue t):=WF.bind (WF.typeInfo t) fun i=>by
 split
 ·exact WF.pure _
 ·exact WF.halt _
theorem WF.asIntOf(v:Value):WF P (asIntOf v):=by
 unfold Go.asIntOf;split
 ·exact WF.pure _
 ·exact WF.halt _
 ·exact WF.halt _
theorem WF.asBool(v:Value):WF P (asBool v):=by
 unfold Go.asBool;split
 ·exact WF.pure _
 ·exact WF.halt _
theorem WF.asAgg(v:Value):WF P (asAgg v):=by
 unfold Go.asAgg;split
 ·exact WF.pure _
 ·exact WF.halt _
theorem WF.sureAddr(v:Value):WF P (Instr.sureAddr v):=by
 unfold Instr.sureAddr;split
 ·exact WF.pure _
 ·exact WF.halt _
theorem WF.yj{s:Sem α}(h:∀w v w1,s.run P w≠ .ok v w1):WF P s:=fun w v w1 e=>absurd e (h w v w1)
theorem Xz{s:Sem α}{f:α->Sem β}(h:∀x w v w1,(f x).run P w≠ .ok v w1):∀w v w1,(s >>= f).run P w≠ .ok v w1:=fun w v w1 e=>by
 rw[Sem.run_bind]at e;cases hs:s.run P w with
 |ok u w2=>simp_all
 |halt x w2=>simp_all
theorem iu(x:Halt):∀w v w1,(.halt x:Sem α).run P w≠ .ok v w1:=fun w v w1 e=>by simp_all
theorem nE(e:RuntimeError):∀w v w1,(runtimePanic e:Sem α).run P w≠ .ok v w1:=by
 unfold runtimePanic;refine Xz fun p=> ?_
 dsimp only;split<;>first
  |exact iu _
  |exact Xz fun _=>Xz fun _=>iu _
  |exact Xz fun _=>iu _
theorem WF.bounds(k:IntKind)(x y:Int)(c:BoundsCode):WF P (boundsPanic k x y c:Sem α):=WF.yj (by
 grind[boundsPanic,Xz,nE])
theorem WF.part(t:TypeId)(cs:Array Value)(o:Nat):WF P (part t cs o):=WF.bind (WF.isAgg t) fun b=>by
 split
 ·grind[WF.bind,WF.sizeOf,WF.pure]
 ·split
  ·exact WF.pure _
  ·exact WF.halt _
theorem WF.field(t:TypeId)(x:Value)(f:Nat):WF P (Instr.field t x f):=WF.bind (WF.underlying t) fun d=>by
 split
 ·split
  ·grind[WF.bind,WF.asAgg,WF.part]
  ·exact WF.halt _
 ·exact WF.halt _
theorem WF.indexAt(t:TypeId)(x i:Value):WF P (Instr.indexAt t x i):=WF.bind (WF.asIntOf i) fun q=>by
 obtain⟨k,i⟩:=q;dsimp only;refine WF.bind (WF.underlying t) fun d=> ?_
 have rest:∀q:Option Addr×Nat×TypeId,WF P (do
   let d<-Go.underlying t
   match q.1 with
   |some a=>
    if 0<=i/\i<(q.2.1:Int)then do
     let s<-Go.sizeOf q.2.2
     Pure.pure (Value.pointer (some (a.add (i.toNat*s))))
    else if(decide (q.2.1<=1)&&(match d with| .array .. =>true|_=>false))=true then unsupported (.noEntry "op/indexAddr.an index out of range at an array of length 0 or 1 (ledger 616)")
    else boundsPanic k i q.2.1 .index
   |none=>boundsPanic k i 0 .index:Sem Value):=fun q=>by
  refine WF.bind (WF.underlying t) fun d=> ?_
  split
  ·split
   ·grind[WF.bind,WF.sizeOf,WF.pure]
   ·repeat' split
    all_goals first|exact WF.halt _|exact WF.bounds _ _ _ _
  grind[WF.bounds]
 split
 ·exact WF.bind (WF.sureAddr _) fun _=>WF.bind (WF.pure _) fun q=>rest q
 ·exact WF.bind (WF.pure _) fun q=>rest q
 ·exact WF.bind (WF.halt _) fun q=>rest q
theorem WF.index(t:TypeId)(x i:Value):WF P (Instr.index t x i):=WF.bind (WF.asIntOf i) fun q=>by
 obtain⟨k,i⟩:=q;dsimp only;refine WF.bind (WF.underlying t) fun d=> ?_
 split
 ·grind[WF.bind,WF.sizeOf,WF.part,WF.bounds]
 ·grind[WF.pure,WF.bounds]
 ·exact WF.halt _
theorem WF.extract(x:Value)(i:Nat):WF P (Instr.extract x i):=by
 unfold Instr.extract;split
 ·split
  ·exact WF.pure _
  ·exact WF.halt _
 ·exact WF.halt _
theorem WF.sliceBound(x:Value)(y:Nat)(c:BoundsCode):WF P (Instr.sliceBound x y c):=WF.bind (WF.asIntOf x) fun q=>by
 grind[WF.pure,WF.bounds]
theorem WF.sliceBounds(b:Bool)(len cap:Nat)(l h:Option Value):WF P (Instr.sliceBounds b len cap l h none):=by
 cases h with
 |none=>
  cases l with
  |none=>exact WF.bind (WF.pure _) fun _=>WF.bind (WF.pure _) fun _=>WF.bind (WF.pure _) fun _=>WF.pure _
  |some l=>exact WF.bind (WF.pure _) fun _=>WF.bind (WF.pure _) fun _=>WF.bind (WF.sliceBound _ _ _) fun _=>WF.pure _
 |some h=>
  cases l with
  |none=>exact WF.bind (WF.pure _) fun _=>WF.bind (WF.sliceBound _ _ _) fun _=>WF.bind (WF.pure _) fun _=>WF.pure _
  |some l=>exact WF.bind (WF.pure _) fun _=>WF.bind (WF.sliceBound _ _ _) fun _=>WF.bind (WF.sliceBound _ _ _) fun _=>WF.pure _
theorem WF.asAddr(v:Value):WF P (asAddr v):=by
 unfold Go.asAddr;split
 ·exact WF.pure _
 ·exact WF.yj (nE _)
 ·exact WF.halt _
theorem WF.slice(t:TypeId)(x:Value)(l h:Option Value):WF P (Instr.slice t x l h none):=WF.bind (WF.underlying t) fun d=>by
 split
 ·grind[WF.bind,WF.sliceBounds,WF.pure]
 ·grind[WF.bind,WF.sliceBounds,WF.sizeOf,WF.pure]
 ·refine WF.bind (WF.asAddr _) fun _=>WF.bind (WF.underlying _) fun d=> ?_
  split
  ·grind[WF.bind,WF.sliceBounds,WF.sizeOf,WF.pure]
  ·exact WF.halt _
 ·exact WF.halt _
theorem WF.sliceAt(t:TypeId)(x:Value)(l h:Option Value):WF P (Instr.sliceAt t x l h none):=WF.bind (WF.underlying t) fun d=>by
 grind[WF.bind,WF.sureAddr,WF.sliceBounds,WF.sizeOf,WF.pure,WF.slice]
theorem WF.th{f:α->Sem β}(h:∀x,WF P (f x)):∀l:List α,WF P (l.mapM f)
 |[]=>WF.pure _
 |x::l=>by
  rw[AYm];exact WF.bind (h x) fun _=>WF.bind (WF.th h l) fun _=>WF.pure _
theorem WF.mapM{f:α->Sem β}(h:∀x,WF P (f x))(a:Array α):WF P (a.mapM f):=by
 rw[Array.mapM_eq_mapM_toList,<-bind_pure_comp];grind[WF.bind,WF.th,WF.pure]
theorem WF.build(t:TypeId)(ps:Array (Nat×Value)):WF P (Instr.build t ps):=WF.bind (WF.zeroValue t) fun z=>by
 refine WF.bind (WF.underlying t) fun d=> ?_
 split
 ·refine WF.bind (WF.mapM (fun f=>WF.bind (WF.sizeOf _) fun _=>WF.pure _) _) fun _=> ?_
  split
  ·exact WF.pure _
  ·exact WF.halt _
 ·refine WF.bind (WF.sizeOf _) fun _=> ?_
  split
  ·exact WF.pure _
  ·exact WF.halt _
 ·exact WF.halt _
end
end Go.Fw
end
section
namespace Go.Fw
def Kof(hint:ABS)(E:Env)(w:World)(bx:List Bx)(c:Nat):Prop:=E.T c\/ ∃n B,n∈hint/\bx[n]? =some B/\zH E w n B c
def rV(K:Nat->Prop)(w w':World):Prop:= ∀c,K c->w'.heap[c]? =w.heap[c]?
theorem ABD{w:World}{B:Nat->Prop}:∀{p:List W8} {r:Ty} {h:Value} {rows:List r.D} {q:Ty} {ys:List q.D} {bb o len cap i:Nat},Rd w B (.sl r) [h] rows->DQ r rows p->HO r rows p=some ⟨q,ys⟩->
  JA w h p=some (.slice (some ⟨bb,o,none⟩) len cap)->i<ys.length->RB w (.sl r) [h] rows bb
 |[],r,h,rows,q,ys,bb,o,len,cap,i,hr,hp,hg,hh,hi=>by
  rw[DO]at hh;cases hh;simp only[HO,AKr,ANn]at hg;obtain⟨rfl,hg⟩:=hg;obtain rfl:=ARU hg;simp only[RB];grind
 |s::p,r,h,rows,q,ys,bb,o,len,cap,i,hr,hp,hg,hh,hi=>by
  simp only[DQ]at hp;obtain⟨hsi,Pu,hp⟩:=hp;simp only[Rd]at hr;obtain⟨a,cap',e1,_,hr⟩:=hr;obtain rfl:=(List.cons.inj e1).1;rcases hr with hr|⟨b',o',rfl,hb,hr⟩
  ·omega
  obtain⟨cs,hl,hc,hrow⟩:=hr s.i _ (Re hsi);simp only[HO]at hg;split at hg
  case h_2=>cases hg
  rename_i q' x iS;rw[iS]at hp;dsimp only at hp;obtain⟨v,hv,hrv⟩:=fW hrow iS;have hcv:=hc _ _ hv;rw[<-Pu]at hcv;simp only[JA,hcv]at hh;have:=ABD hrv hp hg hh hi;simp only[RB];refine⟨b',o',_,cap',rfl,by omega,.inr ⟨s.i,_,cs,Re hsi,hl,hc,?_⟩⟩;clear hc hcv e1 hr;exact RB_cell hrow iS hv this
where
 RB_cell {w:World} {B:Nat->Prop} {c:Nat}:∀{r:Ty} {cs:List Value} {x:r.D} {j:Nat} {t:Ty} {y:t.D} {v:Value},Rd w B r cs x->Ba r j x=some ⟨t,y⟩->cs[j]? =some v->RB w t [v] y c->RB w r cs x c
 | .cons c r,cs,x,0,t,y,v,h,e,hv,k=>by
  simp only[Rd]at h;obtain⟨u,l,rfl,h1,h2⟩:=h;simp only[Ba,AKr,ANn]at e;obtain⟨rfl,e⟩:=e;obtain rfl:=ARU e;simp at hv;subst hv;simp only[RB];grind
 | .cons c r,cs,x,j+1,t,y,v,h,e,hv,k=>by
  simp only[Rd]at h;obtain⟨u,l,rfl,h1,h2⟩:=h;simp only[Ba]at e;have:=RB_cell h2 e (by simp_all) k;simp only[RB];grind
 | .int k,cs,x,0,t,y,v,h,e,hv,k' =>by
  simp only[Ba,AKr,ANn]at e;obtain⟨rfl,_⟩:=e;simp[RB]at k'
 | .bool,cs,x,0,t,y,v,h,e,hv,k' =>by
  simp only[Ba,AKr,ANn]at e;obtain⟨rfl,_⟩:=e;simp[RB]at k'
 | .str,cs,x,0,t,y,v,h,e,hv,k' =>by
  simp only[Ba,AKr,ANn]at e;obtain⟨rfl,_⟩:=e;simp[RB]at k'
 | .sl r,cs,x,0,t,y,v,h,e,hv,k=>by
  simp only[Ba,AKr,ANn]at e;obtain⟨rfl,e⟩:=e;obtain rfl:=ARU e;have hl:=ku h;simp only[Ty.n]at hl;obtain⟨u,rfl⟩:=List.length_eq_one_iff.1 hl;simp_all
 | .unit,_,_,_,_,_,_,_,e,_,_=>by simp[Ba]at e
 | .int _,_,_,_+1,_,_,_,_,e,_,_=>by simp[Ba]at e
 | .bool,_,_,_+1,_,_,_,_,e,_,_=>by simp[Ba]at e
 | .str,_,_,_+1,_,_,_,_,e,_,_=>by simp[Ba]at e
 | .sl _,_,_,_+1,_,_,_,_,e,_,_=>by simp[Ba]at e
section
variable{P:Program} {T:J4} (hT:FB P T) {E:Env} {w:World}
include hT
theorem tw{σ:St}{Fs:List ABS}(hB:NW E w σ.bx σ.bx Fs)(st:∀c,E.S c->E.T c){t:Nat}{x:AV}{z:XV}(e:mb T t σ (.c x)=some z){v:Value}(hx:VR E w σ.bx x v):
  ∃bb oo u y,v= .pointer (some ⟨bb,oo,none⟩)/\Jb σ.bx x 0=some y/\XR E w σ.bx z u/\ ∀w',w'.heap[bb]? =w.heap[bb]?->(Instr.loadAt t v).run P w' = .ok u w':=by
 unfold mb at e;split at e
 case h_2=>cases e
 rename_i x' ti hx' U3;cases hx';split at e
 case isTrue=>cases e
 rename_i Pu;have ja:=fun w=>FB.isAgg hT U3 w
 split at e
 ·rename_i ha
  simp only[ALL]at e;obtain⟨l,hl,rfl⟩:=e;obtain⟨h1,h2⟩:=cD hl;have h0:0<l.length:=by omega
  obtain⟨b,o,u,hv,_,_⟩:=Lw hB st (h2 0 _ (AKS h0)) hx;obtain⟨cs,c1,c2,c3⟩:=fB hB st hx hv (l:=l) (j:=0) (fun i y hy=>by simp_all);subst hv;have jI:=(hT t ti U3).und;cases hd:ti.desc with
  |st fs=>
   rw[hd]at jI;obtain⟨fields,hu,_⟩:=jI;refine⟨b,o,.agg cs.toArray,_,rfl,by simpa using h2 0 _ (AKS h0),⟨cs.toArray,rfl,by omega⟩,fun w' hw=>run_loadAt_mid w' b o t cs _ (by have:=c2.of_block hw;grind[Bk,World.rangeAt]) hu rfl ?_⟩;grind[FB.size]
  |_=>grind[TD.agg]
 ·rename_i ha
  simp only[AOP]at ha;simp only[ALL]at e;obtain⟨y,hy,rfl⟩:=e;obtain⟨b,o,u,hv,hc,hr⟩:=Lw hB st hy hx;subst hv;refine⟨b,o,u,y,rfl,hy,hr,fun w' hw=> ?_⟩;have ANZ:=ja w';rw[ha]at ANZ;simp only[AUr]at hc;have aQ:w'.cell? ⟨b,o,none⟩=some u:=by grind[World.cell?_of_block]
  simp[Instr.loadAt,Instr.sureAddr,loadVar,ANZ,aQ]
end
theorem yZ{E E':Env}{w w':World}{vw vw':List Bx}{t:Ty}{x:t.D}{v:Value}(h:VR E w vw (.v t x) v):VR E' w' vw' (.v t x) v:=by
 obtain⟨h1,h2⟩:=h;refine⟨h1,?_⟩;cases t<;>simp_all[Ty.scalar,Rd]
theorem kM{E E':Env}{w w':World}{vw vw':List Bx}{t:Ty}{x:t.D}{v u:Value}(h:VR E w vw (.v t x) v)(k:VR E' w' vw' (.v t x) u):v=u:=by
 obtain⟨h1,h2⟩:=h;obtain⟨_,k2⟩:=k;cases t<;>simp_all[Ty.scalar,Rd]
def ln(x:XV):Prop:=(∃t z,x= .c (.v t z))\/(∃l,x= .agg l/\ ∀c∈l,∃t z,c= .v t z)
theorem Mb{E E':Env}{w w':World}{vw vw':List Bx}{x:XV}{v:Value}(hp:ln x)(h:XR E w vw x v):XR E' w' vw' x v:=by
 rcases hp with⟨t,z,rfl⟩|⟨l,rfl,hl⟩
 ·exact yZ (E:=E) (w:=w) (vw:=vw) (E':=E') (w':=w') (vw':=vw') h
 ·obtain⟨vs,rfl,Vx⟩:=h
  refine⟨vs,rfl,?_⟩
  generalize vs.toList=m at Vx
  induction l generalizing m with
  |nil=>cases m with
   |nil=>trivial
   |cons _ _=>exact Vx.elim
  |cons c l ih=>cases m with
   |nil=>exact Vx.elim
   |cons u m=>
    obtain⟨t,z,rfl⟩:=hl c (by simp);exact⟨yZ Vx.1,ih (fun c hc=>hl c (by simp[hc])) m Vx.2⟩
theorem vC{d:TD}{x z:AV}{p:Bool}(e:qk d x z=some p):(∃t y,x= .v t y)/\ ∃t y,z= .v t y:=by
 unfold qk at e;grind
theorem Z2{T:J4}:∀{i:Nat} {fs:List ADR} {l m:List AV} {r:Bool},LC T i fs l m=some r->(∀c∈l,∃t z,c= .v t z)/\ ∀c∈m,∃t z,c= .v t z
 |i,[],[],[],r,e=>by simp
 |i,(o,t)::fs,x::l,z::m,r,e=>by
  simp only[LC]at e;split at e
  case isFalse=>cases e
  split at e
  case h_2=>cases e
  split at e
  case h_2=>cases e
  rename_i p hp;simp only[ALL]at e;obtain⟨r',e1,_⟩:=e;obtain⟨a1,a2⟩:=vC hp;obtain⟨b1,b2⟩:=Z2 e1;simp_all
 |_,[],[],_::_,_,e=>by simp[LC]at e
 |_,[],_::_,_,_,e=>by simp[LC]at e
 |_,_::_,[],_,_,e=>by simp[LC]at e
 |_,_::_,_::_,[],_,e=>by simp[LC]at e
theorem AMg{op:BinOp}{κ:IntKind}{a b:Int}{r:AV}(e:gR op κ a b some=some r):∃t x,r= .v t x:=by
 cases op<;>simp only[gR,AKr]at e<;>first
  |exact⟨_,_,e.symm⟩
  |(grind)
  |cases e
theorem AD2{op:BinOp}{κ:IntKind}{a b:Int}{r:AV}(e:ZZ op κ a b some=some r):∃t x,r= .v t x:=by
 unfold ZZ at e;grind
theorem AJI{op:BinOp}{a b:ACB}{r:AV}(e:kG op a b some=some r):∃t x,r= .v t x:=by
 cases op<;>simp only[kG,AKr]at e<;>first
  |exact⟨_,_,e.symm⟩
  |(
   split at e
   all_goals grind)
  |cases e
theorem ARM{T:J4}{t:Nat}{op:BinOp}{a b:XV}{r:AV}(e:ym T t op a b some=some r):(∃t x,r= .v t x)/\ln a/\ln b:=by
 unfold ym at e;split at e
 ·refine⟨?_,.inl ⟨_,_,rfl⟩,.inl ⟨_,_,rfl⟩⟩
  grind[AD2,AMg]
 ·exact⟨AJI e,.inl ⟨_,_,rfl⟩,.inl ⟨_,_,rfl⟩⟩
 ·refine⟨?_,.inl ⟨_,_,rfl⟩,.inl ⟨_,_,rfl⟩⟩
  grind
 ·split at e
  ·rename_i hq
   rw[AMz]at hq;obtain⟨fs,_,hq⟩:=hq;obtain⟨q1,q2⟩:=Z2 hq;cases e;exact⟨⟨_,_,rfl⟩,.inr ⟨_,rfl,q1⟩,.inr ⟨_,rfl,q2⟩⟩
  ·rename_i hq
   rw[AMz]at hq;obtain⟨fs,_,hq⟩:=hq;obtain⟨q1,q2⟩:=Z2 hq;cases e;exact⟨⟨_,_,rfl⟩,.inr ⟨_,rfl,q1⟩,.inr ⟨_,rfl,q2⟩⟩
  simp_all
 simp_all
theorem AFL{g:Bool}{a b:XV}{r:AV}(e:vn g a b some=some r):(∃t x,r= .v t x)/\ln a/\ln b:=by
 unfold vn at e;split at e
 ·refine⟨?_,.inl ⟨_,_,rfl⟩,.inl ⟨_,_,rfl⟩⟩
  grind
 simp_all
theorem AWt{op:UnOp}{a:XV}{r:AV}(e:unX op a some=some r):(∃t x,r= .v t x)/\ln a:=by
 unfold unX at e;split at e
 ·cases e;exact⟨⟨_,_,rfl⟩,.inl ⟨_,_,rfl⟩⟩
 ·cases e;exact⟨⟨_,_,rfl⟩,.inl ⟨_,_,rfl⟩⟩
 simp_all
section
variable{Y:Type} {P:Program} {T:J4} (hT:FB P T) {Γ:Nat->Option RC} {o:Oper} {E:Env} {σ:St} {a:Act} {w:World} {k:K Y} {y:Y}
include hT
theorem ACW(h:Rel E σ a w){t:TypeId}(ps:Array (Nat×Operand)){s b:Nat}{fs:List ADR}{rw:Option Ty}(U3:T.get t=some ⟨s,b,.st fs,rw⟩){r:Ty}(hr:T.kO t=some r)
  {cs:List AV} (hb:gm T fs (cI r) (ps.toList.map fun q=>(q.1,σ.ev q.2))=some cs):
  ∃Kg,(∀w',(Instr.build t (ps.map fun(i,x)=>(i,a.eval x))).run P w' = .ok (.agg Kg) w')/\kb E w σ.bx cs Kg.toList:=by
 obtain⟨i,z,h1,h2,h3,_⟩:=row_zero hT hr;obtain⟨fields,hu,hfs,Pu⟩:=ALW hT U3;obtain⟨Kg,f1,f2⟩:=cO hT (qJ h ps) (arr:=z.cells) (by grind[Ym]) hb;refine⟨Kg,fun w' => ?_,f2⟩;have hb:P.built t (ps.map fun(i,x)=>(i,a.eval x)).toList=some Kg:=by
  unfold Program.built;simp only[h1,hu,h2];have hm:fields.toList.mapM (fun f=>(P.info? f.type).map fun i=>(f.offset,i.size))=some (fields.toList.map fun f=>(f.offset,((P.info? f.type).map (·.size)).getD 0)):=by
   grind[pU]
  simp only[hm];rw[<-f1];congr 1;funext n;subst hfs;simp only[List.getElem?_toArray,ARb];cases hn:fields.toList[n]? with
  |none=>simp
  |some f=>
   obtain⟨i',Dr,_⟩:=Pu f (AOA hn);simp[Dr]
 grind[run_build]
theorem zd{hint:ABS}(h:Rel E σ a w)(hq:kK hint σ o.op=true)(e:YI T Γ o σ k=some y):
  ∃v x,XR E w σ.bx x v/\k x σ=some y/\ ∀w',rV (Kof hint E w σ.bx) w w'->(execOp a.eval o).run P w' = .ok (.value v) w':=by
 obtain⟨Fs,hB,hS⟩:=h.bx;have st:=hS.st;have wf:∀{s:Sem Value} {v:Value},WF P s->s.run P w= .ok v w-> ∀w',s.run P w' = .ok v w':=fun h1 h2 w' =>h1 w _ w h2 w'
 unfold YI at e;split at e
 ·rename_i x ho
  exact⟨a.eval x,_,h.ev x,e,fun w' _=>by grind[execOp,Sem.run_pure]⟩
 ·rename_i x ho
  unfold cW at e;split at e
  ·grind[kK]
  ·exact⟨a.eval x,_,h.ev x,e,fun w' _=>by grind[execOp,Sem.run_pure]⟩
 ·rename_i c xa xb ho
  split at e
  case h_2=>cases e
  rename_i p hp;have hc:=h.ev c;rw[hp]at hc;have aQ:=Sk (E:=E) (w:=w) (vw:=σ.bx) hc;refine⟨if p then a.eval xa else a.eval xb,if p then σ.ev xa else σ.ev xb,by cases p<;>simp[h.ev],by grind[AE_],fun w' _=>by simp[execOp,ho,aQ,asBool]⟩
 ·rename_i t ho;rw[ho]at hq;cases hq
 ·rename_i t x ho;rw[ho]at hq;cases hq
 ·rename_i t ps ho
  split at e
  case h_2=>cases e
  rename_i s b fs rw r U3 hr;split at e
  case h_2=>cases e
  rename_i cs yP;obtain⟨Kg,h1,h2⟩:=ACW hT h ps U3 hr yP;exact⟨.agg Kg,.agg cs,⟨Kg,rfl,h2⟩,e,fun w' _=>by grind[execOp,Sem.run_bind,Result.andThen_ok,Sem.run_pure]⟩
 ·rename_i t n ps ho;rw[ho]at hq;cases hq
 ·rename_i t x ho
  rw[ho]at hq;split at e
  case h_2=>cases e
  rename_i z hz;have hv:=h.ev x;simp only[kK]at hq
  generalize hX:σ.ev x=X at hq hv hz
  cases X with
  |agg l=>cases hq
  |Mo l=>cases hq
  |c ad=>
   obtain⟨bb,oo,u,cell,hp,hc,h2,h3⟩:=tw hT hB st hz hv;refine⟨u,z,h2,e,fun w' sb=> ?_⟩;have hbb:w'.heap[bb]? =w.heap[bb]?:=by
    refine sb bb ?_
    have ZC:VR E w σ.bx ad (a.eval x):=hv;cases ad with
    |Ie b j=>
     simp only[jA,AVs]at hq;simp only[Jb]at hc;split at hc
     ·rename_i cs hb
      refine .inr ⟨b,_,hq,hb,?_⟩;have:=ZC.2;rw[hp]at this;simp only[Value.pointer.injEq,AKr,Addr.mk.injEq]at this;exact this.1
     simp_all
    |Ji b p i sz j=>
     simp only[jA,AVs]at hq;simp only[Jb]at hc;split at hc
     ·rename_i d q rows hb
      refine .inr ⟨b,_,hq,hb,?_⟩;simp only[VR,hb]at ZC;obtain⟨_,hpp,q1,ys,b2,o2,len,cap,g1,g2,g3,g4⟩:=ZC;rw[hp]at g4;simp only[Value.pointer.injEq,AKr,Addr.mk.injEq]at g4;obtain⟨rfl,_⟩:=g4;obtain⟨F,⟨_,ho2⟩,_⟩:=hB.get hb;exact ABD (XZ ho2) hpp g1 g3 g2
     simp_all
    |Pv s r z j=>
     obtain⟨b2,o2,cs,g1,g2,_⟩:=ZC;rw[hp]at g1;simp only[Value.pointer.injEq,AKr,Addr.mk.injEq]at g1;obtain⟨rfl,_⟩:=g1
     left
     grind
    |_=>cases hq
   grind[execOp,Sem.run_bind,Result.andThen_ok,Sem.run_pure]
 ·rename_i t xa xx ho;rw[ho]at hq;cases hq
 ·rename_i x ho
  have hx:=h.ev x;split at e
  ·rename_i b j hp
   rw[hp]at hx;have hx':b<σ.bx.length/\a.eval x= .pointer (some ⟨E.IC b,j,none⟩):=hx;grind[execOp,Sem.run_pure]
  ·rename_i b p i sz j hp
   rw[hp]at hx;have hpt:dQ (a.eval x)=true:=hx.1;grind[dQ,execOp,Sem.run_pure]
  ·rename_i s r z j hp
   rw[hp]at hx;obtain⟨bb,oo,cs,hv,hrest⟩:=hx;exact⟨a.eval x,.c (.Pv s r z j),⟨bb,oo,cs,hv,hrest⟩,e,fun w' _=>by grind[execOp,Sem.run_pure]⟩
  ·rename_i f KW hp
   rw[hp]at hx;have hx':(∀b∈KW,b<σ.bx.length)/\a.eval x= .func (.func f) #[] (KW.map fun b=>Value.pointer (some ⟨E.IC b,0,none⟩)).toArray:=hx;grind[execOp,Sem.run_pure]
  simp_all
 ·rename_i op t x z s ho
  rw[qc,AMz]at e;obtain⟨r,e1,e⟩:=e;obtain⟨⟨t',x',rfl⟩,p1,p2⟩:=ARM e1;obtain⟨r0,val,h1,h2,h3⟩:=gv hT e1 (h.ev x) (h.ev z) x z;cases h1;refine⟨val,.c (.v t' x'),h3,e,fun w' _=> ?_⟩;obtain⟨r1,val',g1,g2,g3⟩:=gv hT e1 (Mb (E':=E) (w':=w') (vw':=σ.bx) p1 (h.ev x)) (Mb p2 (h.ev z)) x z;cases g1;have:=kM h3 g3;subst this;simp only[execOp,ho,Sem.run_bind];simp_all
 ·rename_i op t x ho
  rw[vh,AMz]at e;obtain⟨r,e1,e⟩:=e;obtain⟨⟨t',x',rfl⟩,p1⟩:=AWt e1;obtain⟨r0,val,h1,h2,h3⟩:=lU (P:=P) e1 (h.ev x);cases h1;refine⟨val,.c (.v t' x'),h3,e,fun w' _=> ?_⟩;obtain⟨r1,val',g1,g2,g3⟩:=lU (P:=P) e1 (Mb (E':=E) (w':=w') (vw':=σ.bx) p1 (h.ev x));grind[kM,execOp,Sem.run_bind,Result.andThen_ok,Sem.run_pure]
 ·rename_i s d x ho;rw[ho]at hq;cases hq
 ·rename_i f first KW ho;rw[ho]at hq;cases hq
 ·rename_i t l c ho;rw[ho]at hq;cases hq
 ·rename_i t x lo hi ho
  obtain⟨z,val,h1,h2,h3⟩:=kR hT hB st e (h.ev x) (ABb h lo) (ABb h hi);exact⟨val,z,h3,h1,fun w' _=>by simp only[execOp,ho,Option.map_none,Sem.run_bind,wf (WF.sliceAt _ _ _ _) h2 w',Result.andThen_ok,Sem.run_pure]⟩
 ·rename_i t x f ho
  split at e
  case h_2=>cases e
  rename_i z hz;obtain⟨u,h1,h2⟩:=jn hT hz (h.ev x);refine⟨u,z,h2,e,fun w' _=> ?_⟩;have hw:(Instr.fieldAt t (a.eval x) f).run P w' = .ok u w':=by
   have hx:=h.ev x;unfold wR at hz;split at hz
   case h_2=>cases hz
   rename_i s b fs _ U3;split at hz
   case h_2=>cases hz
   rename_i o' u' hf;have key:∀ad,a.eval x= .pointer (some ad)->(Instr.fieldAt t (a.eval x) f).run P w' = .ok u w':=by
    intro ad had;rw[had]at h1|-;have r1:=U8 hT (w:=w) U3 hf (a:=ad);grind[U8]
   split at hz
   ·rename_i b' j hp
    rw[hp]at hx;exact key _ hx.2
   ·rename_i b' p i sz j hp
    rw[hp]at hx;have hpt:dQ (a.eval x)=true:=hx.1;unfold dQ at hpt;grind
   ·rename_i s r y' j hp
    rw[hp]at hx;obtain⟨bb,oo,cs,hv,_⟩:=hx;simp_all
   simp_all
  grind[execOp,Sem.run_bind,Result.andThen_ok,Sem.run_pure]
 ·rename_i t x f ho
  split at e
  case h_2=>cases e
  rename_i z hz;obtain⟨u,h1,h2⟩:=nM hT hz (h.ev x);exact⟨u,z,h2,e,fun w' _=>by simp only[execOp,ho,Sem.run_bind,wf (WF.field _ _ _) h1 w',Result.andThen_ok,Sem.run_pure]⟩
 ·rename_i t x i ho
  obtain⟨z,val,h1,h2,h3⟩:=jc hT hB st e (h.ev x) (h.ev i);exact⟨val,z,h3,h1,fun w' _=>by simp only[execOp,ho,Sem.run_bind,wf (WF.indexAt _ _ _) h2 w',Result.andThen_ok,Sem.run_pure]⟩
 ·rename_i t x i ho
  obtain⟨z,val,h1,h2,h3⟩:=cv hT e (h.ev x) (h.ev i);exact⟨val,z,h3,h1,fun w' _=>by simp only[execOp,ho,Sem.run_bind,wf (WF.index _ _ _) h2 w',Result.andThen_ok,Sem.run_pure]⟩
 ·rename_i x i ho
  split at e
  case h_2=>cases e
  rename_i z hz;obtain⟨u,h1,h2⟩:=eC (P:=P) hz (h.ev x);exact⟨u,z,h2,e,fun w' _=>by simp only[execOp,ho,Sem.run_bind,wf (WF.extract _ _) h1 w',Result.andThen_ok,Sem.run_pure]⟩
 ·rename_i f args sN ho;rw[ho]at hq;cases hq
 ·rename_i args sN ho
  split at e
  ·rename_i s t Ii hts
   obtain⟨x,rfl,hx⟩:=YT Ii;have hv:=h.ev x;rw[hx]at hv;have ZC:=Xx (E:=E) (w:=w) (vw:=σ.bx) hv;split at e
   case isFalse=>cases e
   rename_i hs;have hu:=YO hT hs;refine⟨.int .i64 (s.length:Int),.c (.v (.int .i64) (s.length:Int)),VR.int (E:=E) (vw:=σ.bx) _ _,e,fun w' _=> ?_⟩;have Pu:(⟨s.toArray⟩:ByteArray).size=s.length:=by rfl
   simp[execOp,ho,resolve,invoke,builtin,Builtin.len_,hts,ZC,Bi hu,goInt,Pu]
  ·rename_i z t _ Ii hts
   obtain⟨x,rfl,hx⟩:=YT Ii;have hv:=h.ev x;rw[hx]at hv;split at e
   case isFalse=>cases e
   rename_i hs;split at e
   case h_2=>cases e
   rename_i n hn;obtain⟨el,hu⟩:=lz hT hs;obtain⟨ad,cap,ZC⟩:=nB hB st hn hv;refine⟨.int .i64 (n:Int),.c (.v (.int .i64) (n:Int)),VR.int (E:=E) (vw:=σ.bx) _ _,e,fun w' _=> ?_⟩;simp[execOp,ho,resolve,invoke,builtin,Builtin.len_,hts,ZC,Bi hu,goInt]
  simp_all
 ·rename_i args sN ho;rw[ho]at hq;cases hq
 ·rename_i args sN ho;rw[ho]at hq;cases hq
 ·rename_i args sN ho
  split at e
  case h_2=>cases e
  rename_i x1 x2 Ii;obtain⟨o1,o2,rfl,hx1,hx2⟩:=YE Ii;have dU:=h.ev o1;have ah:=h.ev o2;rw[hx1]at dU;rw[hx2]at ah;rw[ay,AMz]at e;obtain⟨r,e1,e⟩:=e;obtain⟨⟨t',x',rfl⟩,p1,p2⟩:=AFL e1;obtain⟨r0,val,h1,h2,h3⟩:=Tp (P:=P) (big:=true) e1 dU ah sN #[] o.type;cases h1;refine⟨val,.c (.v t' x'),h3,e,fun w' _=> ?_⟩;obtain⟨r1,val',g1,g2,g3⟩:=Tp (P:=P) (big:=true) e1 (Mb (E':=E) (w':=w') (vw':=σ.bx) p1 dU) (Mb p2 ah) sN #[] o.type;cases g1;have:=kM h3 g3;subst this;simp only[ATt]at g2;simp[execOp,ho,resolve,invoke,builtin,g2]
 ·rename_i args sN ho
  split at e
  case h_2=>cases e
  rename_i x1 x2 Ii;obtain⟨o1,o2,rfl,hx1,hx2⟩:=YE Ii;have dU:=h.ev o1;have ah:=h.ev o2;rw[hx1]at dU;rw[hx2]at ah;rw[ay,AMz]at e;obtain⟨r,e1,e⟩:=e;obtain⟨⟨t',x',rfl⟩,p1,p2⟩:=AFL e1;obtain⟨r0,val,h1,h2,h3⟩:=Tp (P:=P) (big:=false) e1 dU ah sN #[] o.type;cases h1;refine⟨val,.c (.v t' x'),h3,e,fun w' _=> ?_⟩;obtain⟨r1,val',g1,g2,g3⟩:=Tp (P:=P) (big:=false) e1 (Mb (E':=E) (w':=w') (vw':=σ.bx) p1 dU) (Mb p2 ah) sN #[] o.type;cases g1;have:=kM h3 g3;subst this;simp only[AL4,AOK]at g2;simp[execOp,ho,resolve,invoke,builtin,g2]
 simp_all
end
end Go.Fw
end
section
namespace Go.Fw
section
variable{P:Program} {md:Region.Mode} {ops:Array Oper} {Q:Exit->Act->World->Prop}
theorem rV.refl(K:Nat->Prop)(w:World):rV K w w:=fun _ _=>rfl
def xl(P:Program)(md:Region.Mode)(ops:Array Oper)(Q:Exit->Act->World->Prop):Nat->Array Bool->(Nat->Prop)->Act->World->Prop
 |0,listed,_,a,w=>Region.ready md ops listed=[]/\Q .normal a w
 |fuel+1,listed,K,a,w=>(Region.ready md ops listed=[]->Q .normal a w)/\
  ∀i∈Region.ready md ops listed,wpOp P ops Q i (fun a' w' => ∃K':Nat->Prop,(∀c,K c->K' c)/\rV K w w'/\xl P md ops Q fuel (listed.setIfInBounds i true) K' a' w') a w
theorem tV:∀(fuel:Nat) (listed:Array Bool) (K:Nat->Prop) (a:Act) (w:World),xl P md ops Q fuel listed K a w->wpAny P md ops Q fuel listed a w
 |0,_,_,_,_,h=>h
 |fuel+1,_,_,_,_,h=>⟨h.1,fun i hi=>wpOp_mono (fun a' w' ⟨K',_,_,h'⟩=>tV fuel _ K' a' w' h') (h.2 i hi)⟩
theorem YieldsIf.mono{S S':World->Prop}{o:Oper}{v:Value}{a:Act}(h:YieldsIf P ops S o v a)(hs:∀w,S' w->S w):YieldsIf P ops S' o v a:=
 h.imp (fun⟨h1,h2⟩=>⟨h1,fun w hw=>h2 w (hs w hw)⟩) id
theorem nJ{i:Nat}{oi:Oper}{v:Value}(hi:ops[i]? =some oi)(AHE:∀(j:Nat) (o:Oper) cs b,ops[j]? =some o->o.op≠ .select cs b)(hQ:∀c a w,¬Q (.panic c) a w):
  ∀(fuel:Nat) (listed:Array Bool) (K:Nat->Prop) (a:Act) (w:World),
   (∀j oj,ops[j]? =some oj->j≠i->listed.getD j true=false->(∀e∈oj.after,Region.binds md e=true->e.on≠i)->oi.apart ops oj=true)->
   i∈Region.ready md ops listed->YieldsIf P ops (rV K w) oi v a->xl P md ops Q fuel (listed.setIfInBounds i true) K (a.put oi.dst v) w->xl P md ops Q (fuel+1) listed K a w:=by
 intro fuel
 induction fuel with
 |zero=>
  intro listed K a w _ hr hy H;refine⟨fun h=>(by simp_all),fun j hj=> ?_⟩;by_cases hji:j=i
  ·subst hji;exact hy.wpOp hi (rV.refl K w) ⟨K,fun _ h=>h,rV.refl K w,H⟩
  ·have:=ready_mono hj hji
   rw[H.1]at this;cases this
 |succ fuel ih=>
  intro listed K a w dL hr hy H;refine⟨fun h=>(by simp_all),fun j hj=> ?_⟩;by_cases hji:j=i
  ·subst hji;exact hy.wpOp hi (rV.refl K w) ⟨K,fun _ h=>h,rV.refl K w,H⟩
  ·have h1:=H.2 j (ready_mono hj hji)
   obtain⟨hjun,oj,hoj,im⟩:=mem_ready.1 hj;have AW3:∀e∈oj.after,Region.binds md e=true->e.on≠i:=fun e he hb heq=>by
    grind[mem_ready,Nat.lt_or_ge,Array.getElem?_eq_none]
   have h2:=wpOp_putIf hoj (dL j oj hoj hji hjun AW3) (fun cs b=>AHE i oi cs b hi) (fun cs b=>AHE j oj cs b hoj) (fun c a w h=>absurd h (hQ c _ w)) hy h1;have AP5:∀k ok,ops[k]? =some ok->k≠i->(listed.setIfInBounds j true).getD k true=false->
     (∀e∈ok.after,Region.binds md e=true->e.on≠i)->oi.apart ops ok=true:=fun k ok hk hki hun hno=>by
    refine dL k ok hk hki ?_ hno
    by_cases hjk:j=k
    all_goals simp_all
   refine wpOp_mono (fun a' w' h3=> ?_) h2;obtain⟨zN,K',hK,hs,ht⟩:=h3;refine⟨K',hK,hs,ih (listed.setIfInBounds j true) K' a' w' AP5 (ready_mono hr (Ne.symm hji)) (YieldsIf.mono zN fun w'' AaD c hc=>(AaD c (hK c hc)).trans (hs c hc)) ?_⟩;grind[Array.setIfInBounds_comm]
end
theorem mv{Y:Type}{f:Nat->List Bool->Option Y}{y:Y}:∀{rs:ABS},(∀ω,vd f rs ω=some y)-> ∀i∈rs,∀ω,f i ω=some y
 |[i],h,j,hj,ω=>by
  simp at hj;subst hj;exact h ω
 |i::j::r,h,k,hk,ω=>by
  rcases AOD.1 hk with rfl|hk
  ·exact h (true::ω)
  ·exact mv (rs:=j::r) (fun ω=>h (false::ω)) k hk ω
theorem yx{σ:St}{t:Nat}{b:Bool}(e:σ.tm[t]? =some (.c (.v .bool b))):σ.put (some t) (.c (.v .bool b))=σ:=by
 simp only[St.put];obtain⟨tm,bx⟩:=σ;simp only[St.mk.injEq,AUK];obtain⟨K9,he⟩:=ALN.1 e;apply AWD;grind
theorem tu{Y I:Type}[Nonempty I]{C:ba}{ops:Array Oper}{o:Oper}{kn:I->St->Option Y}{σ:St}{y:Y}{E:Env}{a:Act}{w:World}(h:Rel E σ a w)
  (e:∀ω,ABk C ops o (kn ω) σ=some y):
  (Region.wanted o (yielded ops a.tmps)=true/\ ∀ω,(YI C.T C.Γ o σ fun x σ' =>kn ω (σ'.put o.dst x))=some y)\/
  (Region.wanted o (yielded ops a.tmps)=false/\ ∀ω,kn ω (σ.put o.dst (.Mo []))=some y):=by
 unfold ABk at e;cases hg:o.guard with
 |none=>
  simp only[hg]at e;grind[Region.wanted]
 |some q=>
  obtain⟨j,want⟩:=q;simp only[hg]at e;cases ht:(ops[j]?).bind (·.dst)with
  |none=>
   simp_all
  |some t=>
   simp only[ht]at e;obtain⟨i0⟩:= ‹Nonempty I›;have e0:=e i0;split at e0
   ·rename_i b hb
    simp only[hb]at e;obtain⟨v,hv,hx⟩:=h.tmp hb;have hvb:=Sk (E:=E) (w:=w) (vw:=σ.bx) hx;subst hvb;have hy:yielded ops a.tmps j=some b:=by rw[cm ht hv];rfl
    have hk:=yx hb;cases b with
    |true=>
     simp only[ANa,tt,hk]at e;cases want with
     |true=>grind[Region.wanted]
     |false=>grind[Region.wanted]
    |false=>
     simp only[ANE,ff,hk]at e;cases want with
     |true=>grind[Region.wanted]
     |false=>grind[Region.wanted]
   ·rename_i hb
    simp only[hb]at e;obtain⟨v,hv,vs,rfl,hx⟩:=h.tmp hb;grind[yielded,cm,Region.wanted]
   simp_all
theorem AGL{ops:Array Oper}{o:Oper}{σ:St}{E:Env}{a:Act}{w:World}(h:Rel E σ a w)(e:idle ops σ o=true):Region.wanted o (yielded ops a.tmps)=false:=by
 unfold idle at e;cases hg:o.guard with
 |none=>simp_all
 |some q=>
  obtain⟨j,want⟩:=q;simp only[hg]at e;cases ht:(ops[j]?).bind (·.dst)with
  |none=>simp_all
  |some t=>
   simp only[ht]at e;split at e
   ·rename_i b hb
    obtain⟨v,hv,hx⟩:=h.tmp hb;have hvb:=Sk (E:=E) (w:=w) (vw:=σ.bx) hx;grind[yielded,cm,Region.wanted]
   ·rename_i hb
    obtain⟨v,hv,vs,rfl,hx⟩:=h.tmp hb;grind[yielded,cm,Region.wanted]
   simp_all
theorem uv{Y I:Type}[Nonempty I]{C:ba}{ops:Array Oper}{i:Nat}{o:Oper}(ho:ops[i]? =some o){kn:I->St->Option Y}{σ:St}{y:Y}{E:Env}{a:Act}{w:World}(h:Rel E σ a w)
  (e:∀ω,AB3 C ops i (kn ω) σ=some y):
  (Region.wanted o (yielded ops a.tmps)=true/\ ∀ω,(YI C.T C.Γ o σ fun x σ' =>kn ω (σ'.put o.dst x))=some y)\/
  (Region.wanted o (yielded ops a.tmps)=false/\ ∀ω,kn ω (σ.put o.dst (.Mo []))=some y):=
 tu h fun ω=>by
  grind[AB3]
theorem AGy{hint t:ABS}{E E':Env}{bx Q5:List Bx}{w w':World}(h:Rn t E bx w E' Q5 w')(ht:∀b∈t,b∉hint)(ha:∀b∈hint,lT Q5 b=false):
  (∀c,Kof hint E w bx c->Kof hint E' w' Q5 c)/\rV (Kof hint E w bx) w w':=by
 have key:∀n B,n∈hint->bx[n]? =some B-> ∃B',Q5[n]? =some B'/\Vv B B'/\ ∀c,zH E w n B c->w'.heap[c]? =w.heap[c]?:=by
  intro n B hn hB;have hd:=ha n hn;unfold lT at hd;split at hd
  ·cases hd
  ·rename_i B' bg UB
   obtain⟨h1,h2⟩:=h.frame n B B' (fun hm=>ht n hm hn) hB UB bg;simp_all
  simp_all
 refine⟨fun c hc=> ?_,fun c hc=> ?_⟩
 ·rcases hc with hc|⟨n,B,hn,hB,hc⟩
  ·exact .inl (h.base.T c hc)
  ·obtain⟨B',UB,hs,hh⟩:=key n B hn hB
   have hid:=h.ids n (ALN.1 hB).1;refine .inr ⟨n,B',hn,UB,?_⟩;cases B with
   |mem cs=>
    cases B' with
    |mem dp=>grind[zH]
    |sl _ _ _=>exact hs.elim
    |dead=>exact hs.elim
   |sl d r rows=>
    cases B' with
    |mem dp=>exact hs.elim
    |dead=>exact hs.elim
    |sl d' r' DG=>
     simp only[Vv,ANn]at hs;obtain⟨rfl,hs⟩:=hs;obtain rfl:=ARU hs;grind[zH,o6]
   |dead=>exact hc.elim
 ·rcases hc with hc|⟨n,B,hn,hB,hc⟩
  ·exact h.base.heap c hc
  grind
theorem Zv{Y:Type}{C:ba}{hint:ABS}{ops:Array Oper}{kn:List Bool->St->Option Y}{fuel:Nat}{listed:Array Bool}{ω:List Bool}{σ:St}{y:Y}(e:Ud C hint ops kn fuel listed ω σ=some y):∀b∈hint,lT σ.bx b=false:=by
 grind[Ud,List.all_eq_true]
theorem wJ{Y:Type}{P:Program}{C:ba}(hT:FB P C.T)(hΓ:iN P C.Γ){E0:Env}{w0:World}{N nb:Nat}{hint:ABS}{ops:Array Oper}{kn:List Bool->St->Option Y}{y:Y}{Q:Exit->Act->World->Prop}
  (AHE:Region.noSelect ops=true) (hP:∀c a w,¬Q (.panic c) a w) (hk:∀E σ a w,Ok E0 w0 N nb E σ a w->(∀ω,kn ω σ=some y)->Q .normal a w):
  ∀(fuel:Nat) {listed:Array Bool} {E:Env} {σ:St} {a:Act} {w:World},Ok E0 w0 N nb E σ a w->(∀ω,Ud C hint ops kn fuel listed ω σ=some y)->xl P .any ops Q fuel listed (Kof hint E w σ.bx) a w:=by
 intro fuel
 induction fuel with
 |zero=>
  intro listed E σ a w h e;have e1:=fun ω=>e ω
  unfold Ud at e1;have hal:=Zv (e []);have APP:(hint.all fun b=> !lT σ.bx b)=true:=AUY.2 fun b hb=>by simp_all
  simp only[APP,ATt]at e1;cases hr:Region.ready .any ops listed with
  |nil=>
   simp only[hr]at e1;exact⟨hr,hk E σ a w h e1⟩
  |cons i rs=>
   simp_all
 |succ fuel ih=>
  intro listed E σ a w h e;have e1:=fun ω=>e ω
  unfold Ud at e1;have hal:=Zv (e []);have APP:(hint.all fun b=> !lT σ.bx b)=true:=AUY.2 fun b hb=>by simp_all
  simp only[APP,ATt]at e1;cases hr:Region.ready .any ops listed with
  |nil=>
   simp only[hr]at e1;exact⟨fun _=>hk E σ a w h e1,by simp_all⟩
  |cons i0 rs=>
   simp only[hr]at e1;cases hf:(i0::rs).find? (rk hint ops listed σ)with
   |some i=>
    simp only[hf]at e1;have hi:=AUb hf;have ht:=AYf hf;unfold rk at ht;cases ho:ops[i]? with
    |none=>simp_all
    |some o=>
     simp only[ho,ALz]at ht;have dL:=Region.free_spec ho ht.2;rw[<-hr]at hi;have hy:=uv (I:=List Bool) (kn:=fun ω σ' =>Ud C hint ops kn fuel (listed.setIfInBounds i true) ω σ') ho h.rel e1;rcases hy with⟨hw,hx⟩|⟨hw,hx⟩
     ·have hq:kK hint σ o.op=true:=by
       rcases ATB _ _▸ht.1 with hq|hi
       ·omega
       ·rw[AGL h.rel hi]at hw
        cases hw
      obtain⟨x,σ',hx0,hx1⟩:=l_ hx;obtain⟨v,x',q1,q2,q3⟩:=zd hT h.rel hq hx0;simp only[k0,AKr,APT]at q2;obtain⟨rfl,rfl⟩:=q2;have jN:=ih (h.put o.dst q1) hx1;have wu:(σ.put o.dst x').bx=σ.bx:=by cases o.dst<;>rfl
      rw[wu]at jN;exact nJ ho (Region.noSelect_spec AHE) hP fuel listed _ a w dL hi (.inl ⟨hw,q3⟩) jN
     ·have jN:=ih (h.put o.dst qU) hx
      have wu:(σ.put o.dst (.Mo [])).bx=σ.bx:=by cases o.dst<;>rfl
      rw[wu]at jN;exact nJ ho (Region.noSelect_spec AHE) hP fuel listed _ a w dL hi (.inr ⟨hw,rfl⟩) jN
   |none=>
    simp only[hf]at e1;have im:=mv e1;refine⟨fun h0=>(by simp_all),fun i hi=> ?_⟩;rw[hr]at hi;have hx:=im i hi;cases ho:ops[i]? with
    |none=>
     simp_all
    |some o=>
     simp only[ho]at hx;have htc:(Kp C.Γ σ o.op).all (fun b=> !hint.contains b)=true:=by
      have:=hx [];simp_all
     simp only[htc,ATt]at hx;have htn:∀b∈Kp C.Γ σ o.op,b∉hint:=fun b hb hh=>by
      simp_all
     unfold wpOp;simp only[ho];rcases uv (I:=List Bool) (kn:=fun ω σ' =>Ud C hint ops kn fuel (listed.setIfInBounds i true) ω σ') ho h.rel hx with⟨hw,hx⟩|⟨hw,hx⟩
     ·rw[AKJ hw]
      obtain⟨x,σ',hx0,hx1⟩:=l_ hx;refine .inl (ABV hT hΓ h.rel hx0 fun v w' E' x' σ'' g1 g2 g3 g4 g5=> ?_);simp only[k0,AKr,APT]at g5;obtain⟨rfl,rfl⟩:=g5;have wu:(σ''.put o.dst x').bx=σ''.bx:=by cases o.dst<;>rfl
      have AWv:=Zv (hx1 []);rw[wu]at AWv;obtain⟨k1,k2⟩:=AGy g3 htn AWv;have jN:=ih ((h.next g1 g3 g4).put o.dst g2) hx1;grind
     ·rw[AKT (by simp[hw])]
      have jN:=ih (h.put o.dst qU) hx;have wu:(σ.put o.dst (.Mo [])).bx=σ.bx:=by cases o.dst<;>rfl
      grind[rV.refl]
end Go.Fw
end
section
namespace Go.Fw
theorem Rel.heap{E:Env}{σ:St}{a:Act}{w w':World}(h:Rel E σ a w)(hw:w'.heap=w.heap):Rel E σ a w':=by
 have keep:TC E w σ.bx E w' σ.bx:=by
  refine⟨AP7 _,fun _ _=>rfl,fun _ h=>h,fun _ h=>h,h.bx.st,fun _ _=>by rw[hw],fun b d r rows hb e=>⟨d,rows,e,fun p hp q ys hg=>⟨hp,⟨ys,hg,rfl⟩,fun hh he=> ?_⟩⟩⟩;obtain⟨Fs,⟨f1,f2⟩,_⟩:=h.bx;have hF:Fs[b]? =some (Fs[b]'(by omega)):=AKS _;exact vE (f2 b _ _ e hF).2 (fun _ _=>by rw[hw]) (fun _ _=>by rw[hw]) hp hg he
 exact⟨h.Nn,h.tm.imp fun _ _ hx=>Pt keep hx,h.bx.turn (fun _ _ hv=>Ga keep hv) (fun _ h=>h) (fun _ _=>rfl) (fun _ _=>rfl) (fun _ _ _=>by rw[hw]) fun F hF=>⟨hF.nodup,hF.free,fun c hc=>by rw[hw];exact hF.lt c hc,hF.st,fun c hc=>by rw[hw];exact hF.dh c hc⟩⟩
theorem Ok.drawn{E0 E:Env}{w0 w:World}{N nb:Nat}{σ:St}{a:Act}(h:Ok E0 w0 N nb E σ a w)(n:Nat):Ok E0 w0 N nb E σ a { w with drawn:=n }:=
 ⟨h.rel.heap rfl,⟨h.base.T,h.base.S,h.base.Tof,h.base.Sof,h.base.heap,h.base.os,h.base.tape,h.base.output,h.base.size⟩,h.tm,h.r9,h.ids⟩
theorem lQ{Y I:Type}[Nonempty I]{P:Program}{C:ba}(hT:FB P C.T)(hΓ:iN P C.Γ){E0:Env}{w0:World}{N nb:Nat}{all:Array Oper}{kn:I->St->Option Y}{y:Y}{Q:Exit->Act->World->Prop}
  (hk:∀E σ a w,Ok E0 w0 N nb E σ a w->(∀ω,kn ω σ=some y)->Q .normal a w):∀{l:List Oper} {E:Env} {σ:St} {a:Act} {w:World},Ok E0 w0 N nb E σ a w->(∀ω,ux C all l (kn ω) σ=some y)->wpList P all Q l a w
 |[],E,σ,a,w,h,e=>hk E σ a w h e
 |o::rest,E,σ,a,w,h,e=>by
  unfold wpList;rcases tu (kn:=fun ω σ=>ux C all rest (kn ω) σ) h.rel e with⟨hw,hx⟩|⟨hw,hx⟩
  ·rw[AKJ hw]
   obtain⟨x,σ',hx0,hx1⟩:=l_ hx;refine .inl (ABV hT hΓ h.rel hx0 fun v w' E' x' σ'' g1 g2 g3 g4 g5=> ?_);simp only[k0,AKr,APT]at g5;obtain⟨rfl,rfl⟩:=g5;exact lQ hT hΓ hk ((h.next g1 g3 g4).put o.dst g2) hx1
  ·rw[AKT (by simp[hw])]
   exact lQ hT hΓ hk (h.put o.dst qU) hx
def PA(P:Program)(body:Code)(Q:Exit->Act->World->Prop)(a:Act)(w:World):Prop:=
 ∀(b:Frame) (k:List Item) (cs:List Frame),∃e a' w',Q e a' w'/\Arrives P (lone (b.at a (.code body:: .inLoop body::k)) cs w) b k cs e a' w'
theorem PA.wp{P:Program}{body:Code}{Q:Exit->Act->World->Prop}{a:Act}{w:World}(h:PA P body Q a w):(Code.loop body).wp P Q a w:=fun b k cs=>by
 obtain⟨e,a',w',hq,df⟩:=h b k cs;exact⟨e,a',w',hq,.of_steps (.one step_loop) df⟩
theorem PA.AJB{P:Program}{body:Code}{Q:Exit->Act->World->Prop}{a:Act}{w:World}(h:body.wp P (Exit.then (PA P body Q) Q) a w):PA P body Q a w:=fun b k cs=>by
 obtain⟨e,a₁,w₁,hq,df⟩:=h b (.inLoop body::k) cs;cases e with
 |normal=>
  obtain⟨e₂,a₂,w₂,hq₂,harr₂⟩:=hq b k cs;exact⟨e₂,a₂,w₂,hq₂,.of_steps (Steps.trans df (.one step_inLoop)) harr₂⟩
 |exit id=>exact⟨_,a₁,w₁,hq,.pass (x:= .inLoop body) rfl (fun _ _=> .inl (by simp)) df⟩
 |goto l=>exact⟨_,a₁,w₁,hq,.pass (x:= .inLoop body) rfl (fun _ _=> .inl (by simp)) df⟩
 |ret=>exact⟨_,a₁,w₁,hq,.pass (x:= .inLoop body) rfl (fun _ _=> .inl (by simp)) df⟩
 |panic ch=>exact⟨_,a₁,w₁,hq,.pass (x:= .inLoop body) rfl (fun _ _=> .inl (by simp)) df⟩
 |outgrown=>exact⟨_,a₁,w₁,hq,.pass (x:= .inLoop body) rfl (fun _ _=> .inl (by simp)) df⟩
abbrev ko:=Exit->Act->World->Prop
def At(P:Program):Code->ko->Nat->Code->ko->Prop
 | .seq a b,Q,ℓ,body,Q' =>At P a (Exit.then (b.wp P Q) Q) ℓ body Q'\/At P b Q ℓ body Q'
 | .cond _ a b,Q,ℓ,body,Q' =>At P a Q ℓ body Q'\/At P b Q ℓ body Q'
 | .block id c,Q,ℓ,body,Q' =>At P c (Exit.inBlock id Q) ℓ body Q'
 | .loop c,Q,ℓ,body,Q' =>(first c= ℓ /\body=c/\Q' =Q)\/At P c (Exit.then (PA P c Q) Q) ℓ body Q'
 |_,_,_,_,_=>False
def e_(Q:ko):Prop:= ∀c a w,¬Q (.panic c) a w
theorem e_.then{Q:ko}(h:e_ Q)(n:Act->World->Prop):e_ (Exit.then n Q):=fun c a w hq=>h c a w hq
theorem e_.inBlock{Q:ko}(h:e_ Q)(id:Nat):e_ (Exit.inBlock id Q):=fun c a w hq=>h c a w hq
section
variable{Y:Type} {P:Program} {C:ba} (hT:FB P C.T) (hΓ:iN P C.Γ) (hm:P.follows .mixedOrders=true) {E0:Env} {w0:World} {N nb:Nat} {y:Y} {J:Nat->St->Option Y}
structure Good (E0:Env) (w0:World) (N nb:Nat) (y:Y) (kn:KN Y) (kx:Nat->KN Y) (kr:KN Y) (Q:ko):Prop where
 n:∀E σ a w,Ok E0 w0 N nb E σ a w->(∀ω,kn ω σ=some y)->Q .normal a w
 x:∀id E σ a w,Ok E0 w0 N nb E σ a w->(∀ω,kx id ω σ=some y)->Q (.exit id) a w
 r:∀E σ a w,Ok E0 w0 N nb E σ a w->(∀ω,kr ω σ=some y)->Q .ret a w
def JOk(P:Program)(E0:Env)(w0:World)(N nb:Nat)(y:Y)(J:Nat->St->Option Y)(cd:Code)(Q:ko):Prop:=
 ∀ ℓ body Q',At P cd Q ℓ body Q'-> ∀E σ a w,Ok E0 w0 N nb E σ a w->J ℓ σ=some y->PA P body Q' a w
include hT hΓ hm in
theorem AAQ:∀{cd:Code} {kn:KN Y} {kx:Nat->KN Y} {kr:KN Y} {Q:ko} {E:Env} {σ:St} {a:Act} {w:World},e_ Q->Good E0 w0 N nb y kn kx kr Q->JOk P E0 w0 N nb y J cd Q->Ok E0 w0 N nb E σ a w->
  (∀ω,run C J cd kn kx kr ω σ=some y)->cd.wp P Q a w:=by
 intro cd
 induction cd with
 |skip=>intro kn kx kr Q E σ a w hp hg hj h e;exact wp_skip (hg.n E σ a w h e)
 |region id ops draw=>
  intro kn kx kr Q E σ a w hp hg hj h e;simp only[run]at e;cases draw with
  |false=>
   simp only[AL4,AOK]at e;exact wp_region_list (lQ hT hΓ hg.n h e)
  |true=>
   simp only[ATt]at e;have hs:Region.noSelect ops=true:=by
    have:=e [];split at this
    ·rename_i hh;exact hh
    ·cases this
   simp only[hs,ATt]at e;exact wp_region_any hm (tV _ _ _ _ _ (wJ hT hΓ hs hp hg.n _ (h.drawn _) e))
 |seq x z ihx ihz=>
  intro kn kx kr Q E σ a w hp hg hj h e;simp only[run]at e;refine wp_seq (ihx (hp.then _) ⟨fun E σ a w h e=>ihz hp hg (fun ℓ body Q' PG=>hj ℓ body Q' (.inr PG)) h e,fun id E σ a w h e=>hg.x id E σ a w h e,hg.r⟩ (fun ℓ body Q' PG=>hj ℓ body Q' (.inl PG)) h e)
 |cond c x z ihx ihz=>
  intro kn kx kr Q E σ a w hp hg hj h e;cases c with
  |tmp t=>
   simp only[run]at e;have e0:=e [];split at e0
   ·rename_i b hb
    simp only[hb]at e;obtain⟨v,hv,hx⟩:=h.rel.tmp hb;have hvb:=Sk (E:=E) (w:=w) (vw:=σ.bx) hx;subst hvb;have zC:a.eval (.tmp t)= .bool b:=by simp[Act.eval,AXB,hv]
    have hk:=yx hb;cases b with
    |true=>
     simp only[ANa,tt,hk]at e;exact wp_cond_true zC (ihx hp hg (fun ℓ body Q' PG=>hj ℓ body Q' (.inl PG)) h e)
    |false=>
     simp only[ANE,ff,hk]at e;exact wp_cond_false zC (ihz hp hg (fun ℓ body Q' PG=>hj ℓ body Q' (.inr PG)) h e)
   ·cases e0
  |_=>cases e []
 |block id c ih=>
  intro kn kx kr Q E σ a w hp hg hj h e;simp only[run]at e;refine wp_block (ih (hp.inBlock id) ⟨hg.n,fun j E σ a w h e=> ?_,hg.r⟩ (fun ℓ body Q' PG=>hj ℓ body Q' PG) h e);simp only[Exit.inBlock];split
  ·rename_i hid
   simp only[hid,ATt]at e;exact hg.n E σ a w h e
  ·rename_i hid
   simp only[hid,AOK]at e;exact hg.x j E σ a w h e
 |loop body ih=>
  intro kn kx kr Q E σ a w hp hg hj h e;simp only[run]at e;exact PA.wp (hj (first body) body Q (.inl ⟨rfl,rfl,rfl⟩) E σ a w h (e []))
 |exit id=>intro kn kx kr Q E σ a w hp hg hj h e;exact wp_exit (hg.x id E σ a w h e)
 |ret=>intro kn kx kr Q E σ a w hp hg hj h e;exact wp_ret (hg.r E σ a w h e)
 |_=>intro kn kx kr Q E σ a w hp hg hj h e;cases e []
end
end Go.Fw
end
section
namespace Go.Fw
def labels:Code->List Nat
 | .seq a b=>labels a++labels b
 | .cond _ a b=>labels a++labels b
 | .block _ c=>labels c
 | .loop c=>first c::labels c
 |_=>[]
theorem At.label{P:Program}:∀{cd:Code} {Q:ko} {ℓ :Nat} {body:Code} {Q':ko},At P cd Q ℓ body Q'-> ℓ ∈labels cd
 | .seq a b,Q,ℓ,body,Q',h=>by
  simp only[labels,AOO];exact h.imp At.label At.label
 | .cond _ a b,Q,ℓ,body,Q',h=>by
  simp only[labels,AOO];exact h.imp At.label At.label
 | .block _ c,Q,ℓ,body,Q',h=>At.label (cd:=c) h
 | .loop c,Q,ℓ,body,Q',h=>by
  simp only[labels,AOD];exact h.imp (fun h=>h.1.symm) At.label
section
variable{Y:Type} {P:Program} {C:ba} (hT:FB P C.T) (hΓ:iN P C.Γ) (hm:P.follows .mixedOrders=true) {E0:Env} {w0:World} {N nb:Nat} {y:Y} {J:Nat->St->Option Y}
theorem RN{ℓ :Nat}:∀{cd:Code} {kn:KN Y} {kx:Nat->KN Y} {kr:KN Y},ℓ ∉labels cd->find C J ℓ cd kn kx kr=none
 | .seq a b,kn,kx,kr,h=>by
  simp only[labels,AOO,AYp]at h;simp only[find];rw[RN h.1];exact RN h.2
 | .cond _ a b,kn,kx,kr,h=>by
  simp only[labels,AOO,AYp]at h;simp only[find];rw[RN h.1];exact RN h.2
 | .block _ c,kn,kx,kr,h=>by simp only[find];exact RN (cd:=c) h
 | .loop c,kn,kx,kr,h=>by
  simp only[labels,AOD,AYp]at h;simp only[find];rw[AKT (fun e=>h.1 e.symm)];exact RN h.2
 | .skip,_,_,_,_=>rfl
 | .region _ _ _,_,_,_,_=>rfl
 | .rangeFunc _ _ _ _,_,_,_,_=>rfl
 | .exit _,_,_,_,_=>rfl
 | .scope _,_,_,_,_=>rfl
 | .label _,_,_,_,_=>rfl
 | .goto _,_,_,_,_=>rfl
 | .ret,_,_,_,_=>rfl
 | .refuse _,_,_,_,_=>rfl
include hT hΓ hm in
theorem AIt{ℓ :Nat}:∀{cd:Code} {kn:KN Y} {kx:Nat->KN Y} {kr:KN Y} {Q:ko} {body:Code} {Q':ko},(labels cd).Nodup->e_ Q->Good E0 w0 N nb y kn kx kr Q->JOk P E0 w0 N nb y J cd Q->At P cd Q ℓ body Q'->
  ∃kn' kx' kr',find C J ℓ cd kn kx kr=some (fun ω σ=>run C J body (fun _ σ=>J ℓ σ) kx' kr' ω σ)/\Good E0 w0 N nb y kn' kx' kr' Q'/\e_ Q'/\JOk P E0 w0 N nb y J body (Exit.then (PA P body Q') Q'):=by
 intro cd
 induction cd with
 |seq a b iha ihb=>
  intro kn kx kr Q body Q' hn hp hg hj PG;simp only[labels,ANo]at hn;obtain⟨n1,n2,n3⟩:=hn;have hja:JOk P E0 w0 N nb y J a (Exit.then (b.wp P Q) Q):=fun ℓ body Q' PG=>hj ℓ body Q' (.inl PG)
  have hjb:JOk P E0 w0 N nb y J b Q:=fun ℓ body Q' PG=>hj ℓ body Q' (.inr PG)
  simp only[find];rcases PG with PG|PG
  ·obtain⟨kn',kx',kr',h1,h2⟩:=iha n1 (hp.then _) (kn:=fun ω σ=>run C J b kn kx kr ω σ) (kx:=kx) (kr:=kr)
    ⟨fun E σ a w h e=>AAQ hT hΓ hm hp hg hjb h e,fun id E σ a w h e=>hg.x id E σ a w h e,hg.r⟩ hja PG
   exact⟨kn',kx',kr',by rw[h1],h2⟩
  ·have: ℓ ∉labels a:=fun h=>n3 ℓ h ℓ PG.label rfl
   rw[RN this];exact ihb n2 hp hg hjb PG
 |cond c a b iha ihb=>
  intro kn kx kr Q body Q' hn hp hg hj PG;simp only[labels,ANo]at hn;obtain⟨n1,n2,n3⟩:=hn;simp only[find];rcases PG with PG|PG
  ·obtain⟨kn',kx',kr',h1,h2⟩:=iha n1 hp hg (fun ℓ body Q' PG=>hj ℓ body Q' (.inl PG)) PG
   exact⟨kn',kx',kr',by rw[h1],h2⟩
  ·have: ℓ ∉labels a:=fun h=>n3 ℓ h ℓ PG.label rfl
   rw[RN this];exact ihb n2 hp hg (fun ℓ body Q' PG=>hj ℓ body Q' (.inr PG)) PG
 |block id c ih=>
  intro kn kx kr Q body Q' hn hp hg hj PG;simp only[find];refine ih hn (hp.inBlock id) ⟨hg.n,fun j E σ a w h e=> ?_,hg.r⟩ (fun ℓ body Q' PG=>hj ℓ body Q' PG) PG;simp only[Exit.inBlock];split
  ·rename_i hid
   simp only[hid,ATt]at e;exact hg.n E σ a w h e
  ·rename_i hid
   simp only[hid,AOK]at e;exact hg.x j E σ a w h e
 |loop c ih=>
  intro kn kx kr Q body Q' hn hp hg hj PG;simp only[labels,AW_]at hn;have hj':JOk P E0 w0 N nb y J c (Exit.then (PA P c Q) Q):=fun ℓ body Q' PG=>hj ℓ body Q' (.inr PG)
  simp only[find];by_cases hl:first c= ℓ
  ·rw[AKJ hl]
   rcases PG with⟨_,rfl,rfl⟩|PG
   ·exact⟨kn,kx,kr,rfl,hg,hp,hj'⟩
   ·exact absurd (hl▸PG.label) hn.1
  ·rw[AKT hl]
   rcases PG with⟨h,_⟩|PG
   ·exact absurd h hl
   ·exact ih hn.2 (hp.then _) ⟨fun E σ a w h e=>hj (first c) c Q (.inl ⟨rfl,rfl,rfl⟩) E σ a w h (e []),fun id E σ a w h e=>hg.x id E σ a w h e,hg.r⟩ hj' PG
 |_=>intro kn kx kr Q body Q' hn hp hg hj PG;exact PG.elim
end
theorem jz{E:Env}{w:World}{vw:List Bx}:∀{l:List (Nat×XP)} {x:HK.V l} {vals:List Value} {tm:List XV},Ou E w vw id l x vals->Cj (XR E w vw) tm vals->Cj (XR E w vw) (HK.mk id l x tm) vals
 |[],_,_,_,_,h=>h
 |(i,p)::l,x,vals,tm,hs,h=>by
  obtain⟨⟨v,hv,hx⟩,hs⟩:=hs;simp only[HK.mk];refine jz hs ?_
  have:=Cj.set (i:=i) h hx;have e:vals.set i v=vals:=by
   apply AWD;grind
  simp_all
theorem Cj.undef{E:Env}{w:World}{vw:List Bx}:∀{vals:List Value} {n:Nat},n=vals.length->Cj (XR E w vw) (List.replicate n (.c .undef)) vals
 |[],n,h=>by subst h;trivial
 |v::vals,n,h=>by
  subst h;simp only[AN9,List.replicate_succ];exact⟨trivial,Cj.undef rfl⟩
theorem wO.shared{E E1:Env}{w:World}{bx:List Bx}{m:P5}{s:Bh}{x:s.V}{vals:List Value}(h:wO E w bx m s x vals E1)(hb:DP E w bx bx []):
  ∃E2,E2.IC=E1.IC/\E2.ID=E1.ID/\d_ E w E2 w/\DP E2 w (J6.mk id s.HE x.2) (J6.mk id s.HE x.2) []/\Ou E2 w (J6.mk id s.HE x.2) id s.ED x.1 vals:=by
 obtain⟨Fk,k1,k2,k3,k4⟩:=h.rest
 let E2:Env:={ E1 with S:=fun c=>E1.S c\/c∈Fk.flatten }
 have st1:=h.boxes.st;have keep:TC E1 w (J6.mk id s.HE x.2) E2 w (J6.mk id s.HE x.2):=
  ⟨AP7 _,fun _ _=>rfl,fun _ h=>h,fun _ h=> .inl h,st1,fun _ _=>rfl,fun b d r rows _ e=>⟨d,rows,e,fun p hp q ys hg=>⟨hp,⟨ys,hg,rfl⟩,fun _ h=>h⟩⟩⟩
 refine⟨E2,rfl,rfl,⟨h.T,fun c hc=> .inl (h.S c hc),fun c hc=> ?_,fun c hc=> ?_,fun _ _=>rfl,rfl,rfl,rfl,AP7 _⟩,?_,?_⟩
 ·grind
 ·rcases hc with hc|hc
  ·exact h.Sof c hc
  grind
 ·refine h.boxes.turn (E':=E2) (w':=w) (fun _ _ hv=>Ga keep hv) (fun _ h=> .inl h) (fun _ _=>rfl) (fun _ _=>rfl) (fun _ _ _=>rfl) fun F hF=>⟨hF.nodup,hF.free,hF.lt,fun c hc=>hc.elim (hF.st c) fun h=>(k3 c h).2.2.2,hF.dh⟩
 ·have:∀{l:List (Nat×XP)} {z:HK.V l},Ou E1 w (J6.mk id s.HE x.2) id l z vals->Ou E2 w (J6.mk id s.HE x.2) id l z vals:=by
   intro l
   induction l with
   |nil=>intro z h;trivial
   |cons q l ih=>
    obtain⟨i,p⟩:=q;intro z h;obtain⟨⟨v,hv,hx⟩,hs⟩:=h;exact⟨⟨v,hv,Pt keep hx⟩,ih hs⟩
  exact this h.ED
theorem iO:∀{l:List BP} {i n:Nat},(Tl i n l).length=l.length
 |[],_,_=>rfl
 |_::l,i,n=>by simp[Tl,iO (l:=l)]
theorem iL:∀{l:List BP} {i n k b:Nat},(Tl i n l)[k]? =some (some b)->b=i+k/\b<n/\l[k]?≠some .gone
 |[],i,n,k,b,h=>by simp[Tl]at h
 |p::l,i,n,0,b,h=>by
  grind[Tl,List.getElem?_cons_zero,Option.some.injEq]
 |p::l,i,n,k+1,b,h=>by
  simp only[Tl,AWK]at h;obtain⟨h1,h2,h3⟩:=iL h;grind
theorem iM:∀{l:List BP} {i n k:Nat} {p:BP},l[k]? =some p->p≠ .gone->i+k<n->(Tl i n l)[k]? =some (some (i+k))
 |q::l,i,n,0,p,h,hg,hn=>by
  simp at h;subst h;simp only[Tl,List.getElem?_cons_zero,AKr];simp_all
 |q::l,i,n,k+1,p,h,hg,hn=>by
  simp only[Tl,AWK];rw[iM (l:=l) (i:=i+1) (k:=k) (by simp_all) hg (by omega)];grind
 |[],_,_,_,_,h,_,_=>by simp at h
theorem qv{l:List BP}{n:Nat}:pe (Tl 0 n l):=fun i j b h k=>by
 have:=(iL h).1;have:=(iL k).1;omega
end Go.Fw
end
section
namespace Go.Fw
structure AYJ (P:Program) (f:Nat) (fn:Func) (c:RC):Prop where
 at_:P.funcs[f]? =some fn
 call:∀args w,(callFunc f args).run P w= .ok (.enter f args) w
 con:c.ok=true
 tmps:c.ins.ED.length<=fn.ntmps
 labels:∀code,fn.body=some code->(labels code).Nodup
section
variable{P:Program} {C:ba} (hT:FB P C.T) {E:Env} {σ:St} {a:Act} {w:World}
include hT in
theorem AG5(h:Rel E σ a w):
  ∀{rs:List ResultVar} {xs:List XV},rs.mapM (AFx C.T σ)=some xs-> ∃vs,(∀f:ResultVar->Sem Value,(∀u,f (.tmp u)=pure (a.tmps.getD u undef))->(∀b t,f (.cell b t)=(do loadVar t (<-asAddr (a.tmps.getD b undef))))->
   (rs.mapM f).run P w= .ok vs w)/\Cj (XR E w σ.bx) xs vs:=by
 intro rs
 induction rs with
 |nil=>
  intro xs e;have hx:xs=[]:=by simpa using e.symm
  subst hx;exact⟨[],fun f _ _=>by simp,trivial⟩
 |cons r rs ih=>
  intro xs e;rw[AYm]at e;simp only[Option.bind_eq_bind,AMz,Option.pure_def,AKr]at e;obtain⟨x,e1,ys,e2,rfl⟩:=e;obtain⟨vs,h1,h2⟩:=ih e2;have one:∃v,(∀f:ResultVar->Sem Value,(∀u,f (.tmp u)=pure (a.tmps.getD u undef))->(∀b t,f (.cell b t)=(do loadVar t (<-asAddr (a.tmps.getD b undef))))->(f r).run P w= .ok v w)/\XR E w σ.bx x v:=by
   cases r with
   |tmp t=>
    simp only[AFx]at e1;obtain⟨v,hv,hx⟩:=h.tmp e1;refine⟨v,fun f hf hc=> ?_,hx⟩;rw[hf];simp[AXB,hv]
   |cell b t=>
    simp only[AFx]at e1;split at e1
    case h_2=>cases e1
    rename_i z hz;obtain⟨v,hv,hx⟩:=h.tmp hz;obtain⟨Fs,hB,hS⟩:=h.bx;cases z with
    |agg l=>simp[mb]at e1
    |Mo l=>simp[mb]at e1
    |c ad=>
     obtain⟨bb,oo,u,cell,hp,_,q2,q3⟩:=tw hT hB hS.st e1 hx;refine⟨u,fun f hf hc=> ?_,q2⟩;have hgd:a.tmps.getD b undef=v:=by simp[AXB,hv]
     have:=q3 w rfl;rw[hc,hgd,hp];rw[hp]at this;simpa[Instr.loadAt,Instr.sureAddr,asAddr]using this
  obtain⟨v,g1,g2⟩:=one;refine⟨v::vs,fun f hf hc=> ?_,g2,h2⟩;rw[AYm];simp[g1 f hf hc,h1 f hf hc]
theorem gx{vw:List Bx}:∀{l:List XV} {q:List (AV ⊕ List AV)} {vs:List Value},xH l=some q->Cj (XR E w vw) l vs->Cj (TR E w vw) q vs
 |[],q,[],e,_=>by
  simp only[xH,AKr]at e;subst e;trivial
 |[],_,_::_,_,h=>h.elim
 | .c x::l,q,v::vs,e,h=>by
  simp only[xH,ALL]at e;obtain⟨r,e1,rfl⟩:=e;exact⟨h.1,gx e1 h.2⟩
 | .agg x::l,q,v::vs,e,h=>by
  simp only[xH,ALL]at e;obtain⟨r,e1,rfl⟩:=e;exact⟨h.1,gx e1 h.2⟩
 | .Mo _::_,_,_,e,_=>by simp[xH]at e
 | .c _::_,_,[],_,h=>h.elim
 | .agg _::_,_,[],_,h=>h.elim
include hT in
theorem sr(h:Rel E σ a w){fn:Func}{x:XV}(e:jy C.T σ fn.results.toList=some x):∃v,(results fn a.tmps).run P w= .ok v w/\XR E w σ.bx x v:=by
 unfold jy at e;have key:∀xs,fn.results.toList.mapM (AFx C.T σ)=some xs-> ∃vs:List Value,(results fn a.tmps).run P w= .ok (if h:vs.toArray.size=1 then vs.toArray[0]else .tuple vs.toArray) w/\Cj (XR E w σ.bx) xs vs:=by
  intro xs hx;obtain⟨vs,h1,h2⟩:=AG5 (P:=P) hT h hx;refine⟨vs,?_,h2⟩;unfold results;rw[Array.mapM_eq_mapM_toList];simp only[Sem.run_bind,Sem.run_map];rw[h1 _ (fun _=>rfl) (fun _ _=>rfl)];simp only[Result.andThen_ok,Sem.run_pure]
 split at e
 ·rename_i z hz
  cases e;obtain⟨vs,h1,h2⟩:=key _ hz
  match vs,h2 with
  |[v],h2=>exact⟨v,by simpa using h1,h2.1⟩
  |v::_::_,h2=>exact h2.2.elim
  |[],h2=>exact h2.elim
 ·rename_i l hl hz
  simp only[ALL]at e;obtain⟨q,e1,rfl⟩:=e;obtain⟨vs,h1,h2⟩:=key _ hz;have bg: ¬vs.toArray.size=1:=fun hs=>by
   have:=Cj.len h2
   match l,this with
   |[z],_=>exact hl z rfl
   |[],t=>simp at t hs;omega
   |_::_::_,t=>simp at t hs;omega
  rw[dif_neg bg]at h1;exact⟨_,h1,vs.toArray,rfl,by simpa using gx e1 h2⟩
 ·cases e
end
theorem gS{E:Env}{w:World}{vw:List Bx}{more:List Value}:∀{l:List (Nat×XP)} {x:HK.V l} {vals:List Value},Ou E w vw id l x vals->Ou E w vw id l x (vals++more)
 |[],_,_,_=>trivial
 |(i,p)::l,x,vals,h=>by
  obtain⟨⟨v,hv,hx⟩,hs⟩:=h;exact⟨⟨v,by grind,hx⟩,gS hs⟩
def ACC(C:ba)(c:RC)(fn:Func)(code:Code)(J:Nat->Nat->St->Option c.outs.V):Prop:=
 ∀ ℓ,ℓ ∈labels code-> ∃(s:Bh) (F:Nat->s.V->Option c.outs.V),(∀n,J n ℓ =jump c.ins.HE.length s (F n))/\(∀v,F 0 v=none)/\
  ∀n v y,F (n+1) v=some y-> ∀ω,Hz C c fn (J n) ℓ ω (s.st fn.ntmps v)=some y
section
variable{P:Program} {C:ba} (hT:FB P C.T) (hΓ:iN P C.Γ) (hm:P.follows .mixedOrders=true) {fn:Func} {c:RC}
def ATs(c:RC)(E0:Env)(w0:World)(u:c.outs.V)(e:Ending)(w':World):Prop:=
 ∃x E',e= .returned x/\d_ E0 w0 E' w'/\DP E' w' (J6.mk id c.outs.HE u.2) (J6.mk id c.outs.HE u.2) []/\
  Ou E' w' (J6.mk id c.outs.HE u.2) id c.outs.ED u.1 [x]/\ ∀i,i<c.ins.HE.length->alive c.outs.HE i=true->E'.IC i=E0.IC i/\E'.ID i=E0.ID i
theorem Ok.opens{E0 E:Env}{w0 w:World}{N nb:Nat}{σ:St}{a:Act}(h:Ok E0 w0 N nb E σ a w)(s:Bh):∃E',Ok E0 w0 N nb E' { σ with bx:=s.opens σ.bx } a w/\
  (∀(i:Nat) d r,s.HE[i]? =some (.sl d r)->E'.ID (σ.bx.length+i)= .slice none 0 0)/\(∀x v,XR E w σ.bx x v->XR E' w (s.opens σ.bx) x v):=by
 obtain⟨E',h1,h2,h3,h4⟩:=uB h.rel s;exact⟨E',h.next h1 h2 rfl,h3,h4⟩
theorem AFX{E E':Env}{w:World}{vw:List Bx}{b:Nat}(h:Le E E')(st:∀c,E.S c->E.T c):TC E w vw E' w (vw.set b .dead):=by
 refine⟨by simp,fun b _=>by rw[h.IC],h.T,h.S,st,fun _ _=>rfl,fun c d r rows _ e=> ?_⟩;by_cases hc:c=b
 ·simp_all
 ·rw[ASh (fun e=>hc e.symm)]at e
  exact⟨d,rows,e,fun p hp q ys hg=>⟨hp,⟨ys,hg,rfl⟩,fun h' hh=>by rw[h.ID];omega⟩⟩
theorem AKn{E:Env}{σ:St}{a:Act}{w:World}(h:Rel E σ a w)(b:Nat):∃E',Rel E' (σ.pH b) a w/\Le E E':=by
 unfold St.pH;split
 case h_2=>grind[Le.refl]
 rename_i d r rows hb;obtain⟨F,hF,hB⟩:=h.bx.take hb;have YW:DP E w σ.bx (σ.bx.set b .dead) ([]++F++[]):=by simp_all
 obtain⟨hle,hB3⟩:=YW.share;have hk:=AFX (vw:=σ.bx) (b:=b) (w:=w) hle h.bx.st;have hk2:TC E w σ.bx { E with S:=fun c=>E.S c\/c∈F,T:=fun c=>E.T c\/c∈F } w ((σ.bx.set b .dead).map (Bx.pH b r rows)):=by
  refine⟨by simp,hk.IC,hk.T,hk.S,hk.st,hk.heap,fun c d' r' DG hc e=> ?_⟩;rw[ARb,ALL]at e;obtain⟨B,e,eB⟩:=e;cases B with
  |mem cs=>cases eB
  |dead=>cases eB
  |sl d0 r0 Rq=>
   cases eB;grind
 have hv:∀x v,VR E w σ.bx x v->VR { E with S:=fun c=>E.S c\/c∈F,T:=fun c=>E.T c\/c∈F } w ((σ.bx.set b .dead).map (Bx.pH b r rows)) (x.pH b r rows) v:=fun x v hx=>by
  unfold AV.pH;split
  ·rename_i c
   split
   ·rename_i hc
    subst hc;obtain⟨h1,h2⟩:=hx;rw[hb]at h2;have hv:=h2.2.2;rw[DO]at hv;simp only[AKr]at hv;have:=XZ hF.2;rw[hv]at this;exact GA (fun c hc=>hc) (fun _ _=>rfl) this
   grind[Ga]
  grind[Ga]
 refine⟨_,⟨h.Nn,?_,?_⟩,hle⟩
 ·refine Cj.Lb _ (fun x v hx=> ?_) h.tm
  unfold XV.pH;split
  ·exact hv _ _ hx
  grind[Pt]
 ·obtain⟨Fs,⟨hl,h1⟩,h2⟩:=hB
  have h2':Sep E w (F++Fs.flatten):=h2.perm (by grind);refine⟨Fs,⟨by simp_all,fun k B G UB hG=> ?_⟩,?_⟩
  ·rw[ARb,ALL]at UB
   obtain⟨B0,e,rfl⟩:=UB;have h3:=h1 k B0 G e hG;cases B0 with
   |mem cs=>
    obtain⟨rfl,arr,ty,fr,a1,a2,a3⟩:=h3;exact⟨rfl,arr,ty,fr,a1,a2,Cj.Lb _ (fun x v hx=>hv x v hx) a3⟩
   |sl d0 r0 Rq=>exact⟨h3.1,Ek hle.S (fun _ _=>rfl) (fun _ _=>rfl) h3.2⟩
   |dead=>exact h3
  ·rw[ANm]
   have st:=h.bx.st;refine⟨(ANo.1 h2'.nodup).2.1,fun c hc ht=> ?_,fun c hc=>h2'.lt c (by simp_all),fun c hc=>hc.imp (st c) id,fun c hc=>hc.elim (h2'.dh c) fun h' =>h2'.lt c (by simp[h'])⟩;rcases ht with ht|ht
   ·exact h2'.free c (AOO.2 (.inr hc)) ht
   ·exact(ANo.1 h2'.nodup).2.2 c ht c hc rfl
theorem AFO{σ:St}{b i:Nat}(h:σ.bx[i]? =some .dead):(σ.pH b).bx[i]? =some .dead:=by
 unfold St.pH;split
 ·simp only[ARb,List.getElem?_set]
  split
  ·simp_all
  ·rw[h];rfl
 omega
theorem ACL{σ:St}{b:Nat}:(σ.pH b).bx.length=σ.bx.length/\(σ.pH b).tm.length=σ.tm.length:=by
 grind[St.pH]
theorem Ok.pH{E0 E:Env}{w0 w:World}{N nb:Nat}{σ:St}{a:Act}(h:Ok E0 w0 N nb E σ a w)(b:Nat):∃E',Ok E0 w0 N nb E' (σ.pH b) a w:=by
 obtain⟨E',h1,h2⟩:=AKn h.rel b;refine⟨E',⟨h1,h.base.trans (h2.base w),by rw[ACL.2];exact h.tm,by rw[ACL.1];exact h.r9,fun i hi hd=> ?_⟩⟩;rw[h2.IC,h2.ID];exact h.ids i hi fun e=>hd (AFO e)
theorem Ok.HS{E0:Env}{w0 w:World}{N nb:Nat}{a:Act}:∀(l:List AP) (xs:List AV) {E:Env} {σ:St},Ok E0 w0 N nb E σ a w-> ∃E',Ok E0 w0 N nb E' (HS l xs σ) a w:=by
 intro l xs E σ h
 induction l generalizing xs E σ with
 |nil=>grind[Fw.HS]
 |cons p l ih=>
  unfold Fw.HS;split
  ·rename_i heq
   cases heq;obtain⟨E',h'⟩:=h.pH _;exact ih _ h'
  ·rename_i heq
   cases heq;exact ih _ h
  grind
theorem Ok.AcB{E0:Env}{w0 w:World}{N nb:Nat}{a:Act}{bs:List BP}:∀(l:List (Nat×XP)) {E:Env} {σ:St},Ok E0 w0 N nb E σ a w-> ∃E',Ok E0 w0 N nb E' (QF bs l σ) a w:=by
 intro l
 induction l with
 |nil=>intro E σ h;exact⟨E,h⟩
 |cons q l ih=>
  intro E σ h;unfold QF;split
  ·simp_all
  ·rename_i e
   cases e;split
   ·obtain⟨E',h'⟩:=h.HS [_] [_]
    exact ih h'
   grind
  ·rename_i e
   cases e;split
   ·split
    ·obtain⟨E',h'⟩:=h.HS _ _
     exact ih h'
    grind
   grind
  grind
theorem wH{E:Env}{w:World}{vw:List Bx}{x:AV}{v:Value}(h:VR E w vw x v)(hx:x.uG=true):isSlice v=true:=by
 cases x with
 |ref b p=>exact h.1
 |win b p o n=>exact h.1
 |sl s r y=>
  simp only[VR,Rd]at h;obtain⟨a,cap,h,_⟩:=h;simp only[AQ2,AUK]at h;rw[h];rfl
 |nil=>cases h;rfl
 |_=>cases hx
theorem AAR{E:Env}{σ:St}{a:Act}{w:World}(h:Rel E σ a w)(b j:Nat):Rel E (σ.forget b j) a w/\σ.bx.length<=(σ.forget b j).bx.length/\(∀i:Nat,σ.bx[i]? =some Bx.dead->(σ.forget b j).bx[i]? =some Bx.dead)/\(σ.forget b j).tm=σ.tm:=by
 unfold St.forget;split
 case h_2=>simp_all
 rename_i cs hb;split
 case h_2=>simp_all
 rename_i x hx;split
 case isFalse=>simp_all
 rename_i hs;have hbl:=(ALN.1 hb).1;have hk:TC E w σ.bx E w (σ.bx.set b (.mem (cs.set j (.ref σ.bx.length [])))++[.dead]):=by
  refine⟨by simp,fun _ _=>rfl,fun _ h=>h,fun _ h=>h,h.bx.st,fun _ _=>rfl,fun c d r rows hc e=> ?_⟩;grind
 refine⟨⟨h.Nn,h.tm.imp fun _ _ hx=>Pt hk hx,?_⟩,by simp,fun i hi=> ?_,rfl⟩
 ·obtain⟨Fs,⟨hl,h1⟩,h2⟩:=h.bx
  refine⟨Fs++[[]],⟨by simp[hl],fun k B G hB hG=> ?_⟩,by simp_all⟩;by_cases hk2:k<σ.bx.length
  ·rw[ANz (by simp_all)]at hB
   rw[ANz (by omega)]at hG;by_cases hkb:b=k
   ·subst hkb
    rw[AUW hk2]at hB;cases hB;obtain⟨rfl,arr,ty,fr,a1,a2,a3⟩:=h1 b _ G hb hG;refine⟨rfl,arr,ty,fr,a1,a2,?_⟩;have a4:kb E w (σ.bx.set b (.mem (cs.set j (.ref σ.bx.length [])))++[.dead]) cs arr.toList:=a3.imp fun _ _ hv=>Ga hk hv
    obtain⟨v,hv,hvr⟩:=a3.get hx;have X6:arr.toList.set j v=arr.toList:=by
     apply AWD;grind
    rw[<-X6];refine Cj.set a4 ⟨wH hvr hs,?_⟩;simp_all
   ·rw[ASh hkb]at hB
    have h3:=h1 k B G hB hG;cases B with
    |mem dp=>
     obtain⟨rfl,arr,ty,fr,a1,a2,a3⟩:=h3;exact⟨rfl,arr,ty,fr,a1,a2,a3.imp fun _ _ hv=>Ga hk hv⟩
    |sl d0 r0 Rq=>exact h3
    |dead=>exact h3
  ·have hlen:=(ALN.1 hB).1
   simp only[API,AUz,AN9,AQL]at hlen;have hkk:k=σ.bx.length:=by omega
   subst hkk;rw[AOE (by simp)]at hB;rw[AOE (by omega)]at hG;simp[hl]at hB hG;subst hB hG;rfl
 grind
theorem Ok.forget{E0 E:Env}{w0 w:World}{N nb:Nat}{σ:St}{a:Act}(h:Ok E0 w0 N nb E σ a w)(b j:Nat):Ok E0 w0 N nb E (σ.forget b j) a w:=by
 obtain⟨h1,h2,h3,h4⟩:=AAR h.rel b j;exact⟨h1,h.base,by rw[h4];exact h.tm,ARi h.r9 h2,fun i hi hd=>h.ids i hi fun e=>hd (h3 i e)⟩
theorem Ok.YH{E0 E:Env}{w0 w:World}{N nb:Nat}{a:Act}{bs:List BP}{b:Nat}:∀(l:List AP) (j:Nat) {σ:St},Ok E0 w0 N nb E σ a w->Ok E0 w0 N nb E (YH bs b j l σ) a w
 |[],_,_,h=>h
 |p::l,j,σ,h=>by
  simp only[Fw.YH];refine Ok.YH l (j+1) ?_
  split
  ·split
   ·exact h.forget _ _
   omega
  omega
theorem Ok.AUs{E0 E:Env}{w0 w:World}{N nb:Nat}{a:Act}{bs:List BP}:∀(l:List (Nat×XP)) {σ:St},Ok E0 w0 N nb E σ a w->Ok E0 w0 N nb E (eE bs l σ) a w
 |[],_,h=>h
 |(i,p)::l,σ,h=>by
  simp only[eE];refine Ok.AUs l ?_
  split
  ·split
   ·exact h.YH _ _
   omega
  omega
theorem Ok.cK{E0:Env}{w0 w:World}{N nb:Nat}{a:Act}:∀(l:List (AP ⊕ List AP)) (xs:List (AV ⊕ List AV)) {E:Env} {σ:St},Ok E0 w0 N nb E σ a w-> ∃E',Ok E0 w0 N nb E' (cK l xs σ) a w:=by
 intro l xs E σ h
 induction l generalizing xs E σ with
 |nil=>unfold Fw.cK;exact⟨E,h⟩
 |cons p l ih=>
  unfold Fw.cK;split
  ·rename_i heq
   cases heq;obtain⟨E',h'⟩:=h.HS _ _;exact ih _ h'
  ·rename_i heq
   cases heq;obtain⟨E',h'⟩:=h.HS _ _;exact ih _ h'
  ·rename_i heq
   cases heq;exact ih _ h
  ·exact⟨E,h⟩
theorem Ok.mB{E0 E:Env}{w0 w:World}{N nb:Nat}{σ:St}{a:Act}(h:Ok E0 w0 N nb E σ a w)(l:List (Nat×XP))(x:XV):∃E',Ok E0 w0 N nb E' (mB l x σ) a w:=by
 unfold Fw.mB;split
 ·unfold AW9
  split
  ·exact h.HS _ _
  ·exact h.HS _ _
  ·exact h.cK _ _
  ·exact⟨E,h⟩
 ·exact⟨E,h⟩
include hT in
theorem tW{E0 E:Env}{w0 w:World}{N:Nat}{σ:St}{a:Act}{u:c.outs.V}(h:Ok E0 w0 N c.ins.HE.length E σ a w)(e:sJ C.T c fn.results.toList σ=some u):
  a.defers=[]/\ ∃v,(results fn a.tmps).run P w= .ok v w/\ATs c E0 w0 u (.returned v) w:=by
 unfold sJ at e;simp only[AMz,ALL]at e;obtain⟨x0,_,x,e1,⟨u',m⟩,e2,rfl⟩:=e;obtain⟨E,h⟩:=h.mB c.outs.ED x0;revert h e1 e2
 generalize Fw.mB c.outs.ED x0 σ=σ
 intro e1 e2 h;obtain⟨v,h1,h2⟩:=sr hT h.rel e1;obtain⟨E,h,vx,h4⟩:=h.opens c.outs
 replace h2:=h4 _ _ h2
 obtain⟨hext,E1,hf⟩:=lO (tm:=[x]) (vals:=[v]) h.rel.bx ⟨h2,trivial⟩ vx iO qv e2;obtain⟨E2,q1,q2,q3,q4,q5⟩:=hf.shared h.rel.bx;refine⟨h.rel.Nn,v,h1,v,E2,rfl,h.base.trans q3,q4,q5,fun i hi hal=> ?_⟩;obtain⟨p,hp,hg⟩:∃p,c.outs.HE[i]? =some p/\p≠ .gone:=by
  unfold alive at hal;cases hh:c.outs.HE[i]? with
  |none=>rw[hh]at hal;cases hal
  |some p=>
   refine⟨p,rfl,fun hp=> ?_⟩;rw[hh,hp]at hal;cases hal
 have hm1:=hext.2 i i (by have:=iM (i:=0) (n:=c.ins.HE.length) hp hg (by omega);simpa using this);obtain⟨b,B,g1,g2,g3,_⟩:=uw e2 i p hp hg;rw[hm1]at g1;cases g1;have hid:=hf.ids i i hm1;have AF2:=h.ids i hi (fun hd=>by rw[g2]at hd;cases hd;exact g3 rfl);rw[q1,q2];exact⟨hid.1.trans AF2.1,hid.2.trans AF2.2⟩
include hT hΓ hm in
theorem AFG{code:Code}(hb:fn.body=some code)(hl:(labels code).Nodup){J:Nat->Nat->St->Option c.outs.V}(hJ:ACC C c fn code J)
  {E0:Env} {w0:World} {u:c.outs.V} {Q:ko} (hp:e_ Q)
  (hg:Good E0 w0 fn.ntmps c.ins.HE.length u (fun _=>sJ C.T c fn.results.toList) (fun _ _ _=>none) (fun _=>sJ C.T c fn.results.toList) Q):
  ∀n,JOk P E0 w0 fn.ntmps c.ins.HE.length u (J n) code Q:=by
 intro n
 induction n with
 |zero=>
  intro ℓ body Q' PG E σ a w h e;obtain⟨s,F,j1,j2,j3⟩:=hJ ℓ PG.label;rw[j1]at e;simp only[jump]at e;split at e
  ·rw[AMz]at e
   obtain⟨q,_,e⟩:=e;rw[j2]at e;cases e
  ·cases e
 |succ n ih=>
  intro ℓ body Q' PG E σ a w h e;obtain⟨s,F,j1,j2,j3⟩:=hJ ℓ PG.label;rw[j1]at e;simp only[jump]at e;split at e
  case isFalse=>cases e
  rename_i r9;rw[AMz]at e;obtain⟨⟨v,m⟩,e1,e2⟩:=e;dsimp only at e2;obtain⟨E,h⟩:=h.AcB (bs:=s.HE) s.ED
  replace h:=h.AUs (bs:=s.HE) s.ED
  revert h e1
  generalize eE s.HE s.ED (QF s.HE s.ED σ)=σ
  intro e1 h;obtain⟨E,h,vx,h4⟩:=h.opens s;obtain⟨hext,E1,hf⟩:=lO h.rel.bx h.rel.tm vx iO qv e1;obtain⟨E2,q1,q2,q3,q4,q5⟩:=hf.shared h.rel.bx;have Pu:fn.ntmps=a.tmps.toList.length:=by rw[<-Cj.len h.rel.tm,h.tm]
  have Bt:Ok E0 w0 fn.ntmps c.ins.HE.length E2 (s.st fn.ntmps v) a w:=by
   refine⟨⟨h.rel.Nn,jz q5 (Cj.undef Pu),q4⟩,h.base.trans q3,?_,?_,fun i hi hd=> ?_⟩
   ·have:=Cj.len (jz q5 (Cj.undef Pu))
    simp only[Bh.st];rw[this,<-Pu]
   ·simp only[Bh.st]
    rw[UA];exact r9
   ·simp only[Bh.st]at hd
    have hp':s.HE[i]? =some (s.HE[i]'(by omega)):=AKS _;have hng:s.HE[i]'(by omega)≠ .gone:=fun yX=>by
     obtain⟨z,z1,_⟩:=cY id (u:=v.2) hp';apply hd;rw[z1]
     generalize s.HE[i]'(by omega)=pp at z yX
     subst yX;rfl
    have hm1:=hext.2 i i (by have:=iM (i:=0) (n:=c.ins.HE.length) hp' hng (by omega);simpa using this);obtain⟨b,B,g1,g2,g3,_⟩:=uw e1 i _ hp' hng;rw[hm1]at g1;cases g1;have hid:=hf.ids i i hm1;have AF2:=h.ids i hi (fun hd=>by rw[g2]at hd;cases hd;exact g3 rfl);rw[q1,q2];exact⟨hid.1.trans AF2.1,hid.2.trans AF2.2⟩
  have AFW:=j3 n v u e2;obtain⟨kn',kx',kr',ABK,mr,hnp,hj⟩:=AIt hT hΓ hm hl hp hg ih PG;simp only[Hz,hb,ABK]at AFW;refine PA.AJB (AAQ hT hΓ hm (hnp.then _) (kn:=fun _ σ=>J n ℓ σ) ⟨fun E σ a w h e=> ?_,fun id E σ a w h e=>mr.x id E σ a w h e,mr.r⟩ hj Bt AFW);exact ih ℓ body Q' PG E σ a w h (e [])
include hT hΓ hm in
theorem AFo{f:Nat}(hf:AYJ P f fn c){J:Nat->Nat->St->Option c.outs.V}(hJ:∀code,fn.body=some code->ACC C c fn code J)
  (hg:∀v u,c.g v=some u-> ∃n,∀ω,DY C c fn (J n) ω v=some u):Xc P f c:=by
 refine⟨hf.con,hf.call,fun E w v args u Ii hB hS hgv=> ?_⟩;obtain⟨n,hn⟩:=hg v u hgv;cases hb:fn.body with
 |none=>
  have:=hn [];simp only[DY,hb]at this;cases this
 |some code=>
  simp only[DY,hb]at hn;refine calls_of_wp hf.at_ hb ?_
  have hp:e_ (bodyPost P fn (ATs c E w u)):=fun ch a w' hq=>by
   obtain⟨_,x,E',hx,_⟩:=hq;cases hx
  have mr:Good E w fn.ntmps c.ins.HE.length u (fun _=>sJ C.T c fn.results.toList) (fun _ _ _=>none) (fun _=>sJ C.T c fn.results.toList) (bodyPost P fn (ATs c E w u)):=
   ⟨fun E' σ a w' h e=>tW hT h (e []),fun id E' σ a w' h e=>(by cases e []),fun E' σ a w' h e=>tW hT h (e [])⟩
  have Bt:Ok E w fn.ntmps c.ins.HE.length E (c.ins.st fn.ntmps v) { tmps:=args++Array.replicate (fn.ntmps-args.size) undef,defers:=[] } w:=by
   have htm:Cj (XR E w (J6.mk id c.ins.HE v.2)) (HK.mk id c.ins.ED v.1 (List.replicate fn.ntmps (.c .undef))) (args++Array.replicate (fn.ntmps-args.size) undef).toList:=by
    rw[Array.toList_append];refine jz (gS hS) (Cj.undef ?_);have:=hf.tmps;simp;omega
   refine⟨⟨rfl,htm,hB⟩,d_.refl E w,?_,by simp only[Bh.st];rw[UA];exact AP7 _,fun _ _ _=>⟨rfl,rfl⟩⟩;simp only[Bh.st];rw[Cj.len htm];have:=hf.tmps;simp;omega
  exact AAQ hT hΓ hm hp mr (AFG hT hΓ hm hb (hf.labels code hb) (hJ code hb) hp mr n) Bt hn
end
end Go.Fw
end
section
namespace Go.Fw
def GG:List Ty->Ty
 |[]=> .unit
 |c::l=> .cons c (GG l)
def yV(row:TypeId->Option (List Ty×Bool))(cells:TypeId->Nat):Nat->List Field->Option (List Ty)
 |_,[]=>some []
 |o,f::fs=>
  match row f.type with
  |some (l,_)=>if f.offset=o/\cells f.type=l.length then(yV row cells (o+l.length) fs).map (l++ ·)else none
  |none=>none
def k_:List Ty×Bool->Ty
 |(l,true)=>GG l
 |([c],false)=>c
 |_=> .unit
def rowOf(P:Program):Nat->TypeId->Option (List Ty×Bool)
 |0,_=>none
 |n+1,t=>
  match P.underlying t with
  |some (.int k)=>some ([.int k],false)
  |some .bool=>some ([.bool],false)
  |some .string=>some ([.str],false)
  |some (.slice e)=>
   match rowOf P n e with
   |some q=>if P.cellsOf e=q.1.length/\0<q.1.length then some ([.sl (k_ q)],false)else none
   |none=>none
  |some (.struct fs)=>
   match yV (rowOf P n) P.cellsOf 0 fs.toList with
   |some l=>if P.cellsOf t=l.length then some (l,true)else none
   |none=>none
  |_=>none
def Vd:(t:Ty)->t.D->Prop
 | .int k,x=>(Lit.int k x).wf=true
 | .bool,_=>True
 | .str,x=>List.length x<=maxLen
 | .sl r,x=>List.length x<=maxLen/\ ∀y∈x,Vd r y
 | .unit,_=>True
 | .cons c r,x=>Vd c x.1/\Vd r x.2
theorem kW{α:Type}{p:Nat->α->Prop}:∀{n:Nat},(∀i,i<n-> ∃y,p i y)-> ∃x:List α,x.length=n/\ ∀(i:Nat) y,x[i]? =some y->p i y
 |0,_=>⟨[],rfl,fun i y h=>by simp at h⟩
 |n+1,h=>by
  obtain⟨x,h1,h2⟩:=kW (n:=n) (p:=p) (fun i hi=>h i (by omega));obtain⟨y,hy⟩:=h n (by omega);refine⟨x++[y],by simp[h1],fun i z hz=> ?_⟩;grind
theorem uj{w:World}{B:Nat->Prop}:∀{l m:List Ty} {cs ds:List Value} {x:(GG l).D} {y:(GG m).D},Rd w B (GG l) cs x->Rd w B (GG m) ds y->Vd (GG l) x->Vd (GG m) y->
  ∃z:(GG (l++m)).D,Rd w B (GG (l++m)) (cs++ds) z/\Vd (GG (l++m)) z
 |[],m,cs,ds,x,y,h,k,hx,hy=>by
  simp only[GG,Rd]at h;subst h;exact⟨y,k,hy⟩
 |c::l,m,cs,ds,x,y,h,k,hx,hy=>by
  simp only[GG,Rd]at h;obtain⟨v,r,rfl,h1,h2⟩:=h;obtain⟨z,z1,z2⟩:=uj h2 k hx.2 hy;exact⟨(x.1,z),by simp only[AWb,GG,Rd];exact⟨v,r++ds,rfl,h1,z1⟩,hx.1,z2⟩
theorem ADz{P:Program}{n:Nat}{t:TypeId}{l:List Ty}(h:rowOf P n t=some (l,false)):∃c,l=[c]:=by
 cases n with
 |zero=>simp[rowOf]at h
 |succ n=>
  simp only[rowOf]at h;grind
theorem ve{w:World}{B:Nat->Prop}{P:Program}{n:Nat}{t:TypeId}{q:List Ty×Bool}(h:rowOf P n t=some q){cs:List Value}{x:(GG q.1).D}(hx:Rd w B (GG q.1) cs x)(hv:Vd (GG q.1) x):
  (k_ q).n=q.1.length/\ ∃y:(k_ q).D,Rd w B (k_ q) cs y/\Vd (k_ q) y:=by
 obtain⟨l,b⟩:=q;cases b with
 |true=>
  refine⟨?_,x,hx,hv⟩;clear h hx hv x;simp only[k_]
  induction l with
  |nil=>rfl
  |cons c l ih=>simp[GG,Ty.n,ih]
 |false=>
  obtain⟨c,rfl⟩:=ADz h;simp only[GG,Rd]at hx;obtain⟨v,r,rfl,h1,h2⟩:=hx;subst h2;refine⟨?_,x.1,h1,hv.1⟩;have:=ku h1;grind[k_]
theorem ADt(a:Addr):a.add 0=a:=by rfl
theorem ACg{w:World}{a:Addr}{v:Value}(h:w.cell? a=some v):a.spot=none:=by
 unfold World.cell? at h;split at h
 all_goals simp_all
section
variable{H:Type} {enc:TypeId×Value->H} {P:Program} {w:World} {spare:Nat->Bool} {held:Bool}
theorem jX:∀(n:Nat) {t:TypeId} {q:List Ty×Bool},rowOf P n t=some q-> ∀{fuel:Nat} {cs:List Value} {x:DataW H×List MemPlace},DataW.trod enc P w 0 spare held fuel t cs=some x->
  ∃y:(GG q.1).D,Rd w (fun b=>b<w.heap.size) (GG q.1) cs y/\Vd (GG q.1) y
 |0,t,q,h,_,_,_,_=>by simp[rowOf]at h
 |n+1,t,q,h,fuel,cs,x,hx=>by
  simp only[rowOf]at h;split at h
  ·rename_i k hu
   cases h;obtain⟨m,rfl,_,hw⟩:=DataW.trod_int hu hx;exact⟨(m,()),by simp[GG,Rd],hw,trivial⟩
  ·rename_i hu
   cases h;obtain⟨b,rfl,_⟩:=DataW.trod_bool hu hx;exact⟨(b,()),by simp[GG,Rd],trivial,trivial⟩
  ·rename_i hu
   cases h;obtain⟨s,rfl,_,hs⟩:=DataW.trod_string hu hx;refine⟨(s.data.toList,()),by simp[GG,Rd],?_,trivial⟩
   show s.data.toList.length<=maxLen
   simp_all
  ·rename_i e hu
   split at h
   case h_2=>cases h
   rename_i q' hq';split at h
   case isFalse=>cases h
   rename_i AF3;cases h;rcases DataW.trod_slice hu hx with⟨rfl,_⟩|⟨a,len,cap,elems,rest,m,_,rfl,_,_,hlc,hcm,Ur,PG,_,_⟩
   ·refine⟨([],()),?_,⟨by simp,by simp⟩,trivial⟩
    simp only[GG,Rd];simp_all
   ·have each:∀i,i<len-> ∃y:(k_ q').D,Vd (k_ q') y/\ ∃ds,ds.length=(k_ q').n/\(∀j,j<ds.length->w.cell? ((a.add (i*P.cellsOf e)).add j)=ds[j]?)/\Rd w (fun b=>b<w.heap.size) (k_ q') ds y:=by
     intro i hi;have hz:elems[i]? =some (elems[i]'(by omega)):=AKS _;have h1:=PG i hi;rw[hz,AMz]at h1;obtain⟨ds,hds,htr⟩:=h1;obtain⟨z,z1,z2⟩:=jX n hq' htr;obtain⟨_,c1,c2⟩:=World.cells?_some hds
     grind[ve]
    obtain⟨xs,x1,x2⟩:=kW each;refine⟨(xs,()),?_,⟨by grind,fun y hy=> ?_⟩,trivial⟩
    ·simp only[GG,Rd]
     refine⟨_,[],rfl,⟨_,cap,by rw[x1],by omega,?_⟩,rfl⟩;by_cases h0:len=0
     ·omega
     right
     obtain⟨y0,_,ds0,d0,d1,_⟩:=each 0 (by omega);have hn0:0<(k_ q').n:=by
      rw[d0.symm];have hz:elems[0]? =some (elems[0]'(by omega)):=AKS _;have h1:=PG 0 (by omega);rw[hz,AMz]at h1;obtain⟨ds,hds,htr⟩:=h1;obtain⟨z,z1,z2⟩:=jX n hq' htr;grind[ve]
     have hc0:=d1 0 (by omega);simp only[Nat.zero_mul,ADt]at hc0;have yP:w.cell? a=some (ds0[0]'(by omega)):=by simp_all
     have hsp:=ACg yP;obtain⟨b,o,s⟩:=a;simp only at hsp;subst hsp;refine⟨b,o,rfl,?_,fun i y hy=> ?_⟩
     ·grind[World.cell?,Array.getElem?_eq_some_iff]
     ·have hil:=(ALN.1 hy).1
      obtain⟨_,ds,e0,e1,e2⟩:=x2 i y hy;have hcn:P.cellsOf e=(k_ q').n:=by
       have hz:elems[i]? =some (elems[i]'(by omega)):=AKS _;have h1:=PG i (by omega);rw[hz,AMz]at h1;obtain⟨ds,hds,htr⟩:=h1;obtain⟨z,z1,z2⟩:=jX n hq' htr;grind[ve]
      refine⟨ds,e0,fun j v hj=> ?_,e2⟩;grind[List.getElem?_eq_some_iff,Addr.add_eq]
    ·obtain⟨i,hi,rfl⟩:=AQo hy
     exact(x2 i _ (AKS hi)).1
  ·rename_i fs hu
   split at h
   case h_2=>cases h
   rename_i l hl;split at h
   case isFalse=>cases h
   rename_i fD;cases h;obtain⟨xs,m,_,_,hlen,hxs,PG⟩:=DataW.trod_struct hu hx;have key:∀(fs:List Field) (o:Nat) (l:List Ty) (i0:Nat),yV (rowOf P n) P.cellsOf o fs=some l->cs.length=o+l.length->(∀(i:Nat) (f:Field),fs[i]? =some f-> ∃z,DataW.trod enc P w 0 spare held m f.type ((cs.drop f.offset).take (P.cellsOf f.type))=some z)->
     ∃y:(GG l).D,Rd w (fun b=>b<w.heap.size) (GG l) (cs.drop o) y/\Vd (GG l) y:=by
    intro fs
    induction fs with
    |nil=>
     intro o l i0 hl hc _;simp only[yV,AKr]at hl;subst hl;refine⟨(),?_,trivial⟩;simp only[GG,Rd];simp_all
    |cons f fs ih=>
     intro o l i0 hl hc PG;simp only[yV]at hl;split at hl
     case h_2=>cases hl
     rename_i l1 b1 hr;split at hl
     case isFalse=>cases hl
     rename_i hof;simp only[ALL]at hl;obtain⟨l2,zJ,rfl⟩:=hl;obtain⟨z,hz⟩:=PG 0 f rfl;obtain⟨y1,a1,a2⟩:=jX n hr hz;obtain⟨y2,b1,b2⟩:=ih (o+l1.length) l2 0 zJ (by grind) (fun i f hf=>PG (i+1) f (by simp_all));grind[uj,List.drop_drop,List.take_append_drop]
   have:=key fs.toList 0 l 0 hl (by omega) (fun i f hf=>by
    grind)
   simp_all
  simp_all
end
end Go.Fw
end
section
open Go.RowKit
namespace Go.Fw
def vl(W:World):Env:={ IC:=fun _=>0,ID:=fun _=> .nilFunc,T:=fun b=>b<W.heap.size,S:=fun b=>b<W.heap.size }
abbrev qX:Bh:=⟨[(0,.c (.v .bool))],[]⟩
theorem ACx{P:Program}{f:Nat}{ED:List (Nat×XP)}{g:Bh.V ⟨ED,[]⟩->Option qX.V}(hs:Xc P f ⟨⟨ED,[]⟩,qX,g⟩){W:World}{args:Array Value}(x:HK.V ED)(hlen:args.size=ED.length)
  (hx:Ou (vl W) W [] id ED x args.toList) (hg:g (x,())=some ((true,()),())):Calls P f args W fun e W' =>e= .returned (.bool true)/\Below W.heap.size W W':=by
 obtain⟨_,_,h⟩:=hs;refine(h (vl W) W (x,()) args _ hlen ⟨[],⟨rfl,fun k B F h=>by simp_all⟩,by simp,by simp,by simp,fun _ h=>h,fun _ h=>h⟩ hx hg).mono fun e W' hR=> ?_
 obtain⟨v,E',rfl,base,_,⟨⟨v',hv,hxr⟩,_⟩,_⟩:=hR;simp at hv;subst hv;have:v= .bool true:=by
  have h2:VR E' W' [] (.v .bool true) v:=hxr;exact Sk h2
 subst this;exact⟨rfl,base.os,base.tape,base.output,base.size,fun k hk=>base.heap k hk⟩
theorem AKy{W:World}{vw:List Bx}{s:Bool}{r:Ty}{v:Value}{y:List r.D}(h:Rd W (fun b=>b<W.heap.size) (.sl r) [v] y):XR (vl W) W vw (XP.mk id (.c (.sl s r)) y) v:=by
 show Rd W (if s then _ else _) (.sl r) [v] y
 cases s<;>exact h
end Go.Fw
end
section
namespace Go.Fw
def Rm:List (Nat×RC)->Nat->Option RC
 |[],_=>none
 |(f,c)::l,g=>if f=g then some c else Rm l g
def AI3(P:Program):List (Nat×RC)->Prop
 |[]=>True
 |q::l=>Xc P q.1 q.2/\AI3 P l
theorem rm{P:Program}:∀{l:List (Nat×RC)},AI3 P l->iN P (Rm l)
 |[],_=>fun f c e=>by cases e
 |(g,d)::l,h=>fun f c e=>by
  simp only[Rm]at e;split at e
  ·rename_i hg
   cases e;subst hg;exact h.1
  ·exact rm h.2 f c e
theorem XS{P:Program}{f:Nat}{fn:Func}(hf:P.funcs[f]? =some fn)(hn:(fn.name== "runtime.NumGoroutine")=false)(hb:fn.body.isNone=false)(args:Array Value)(w:World):
  (callFunc f args).run P w= .ok (.enter f args) w:=by
 have h1:fn.name≠ "runtime.NumGoroutine" :=by simp_all
 have h2:fn.body≠none:=by
  grind
 simp[callFunc,hf,h1,h2]
def jO(fn:Func)(c:RC):Bool:=
 !(
  fn.name== "runtime.NumGoroutine")&& !fn.body.isNone&&c.ok&&decide (c.ins.ED.length<=fn.ntmps)&&(match fn.body with
  |some code=>decide (labels code).Nodup
  |none=>true)
theorem AZt{P:Program}{f:Nat}{fn:Func}{c:RC}(hf:P.funcs[f]? =some fn)(h:jO fn c=true):AYJ P f fn c:=by
 simp only[jO,ALz,ATc,ANK]at h;obtain⟨⟨⟨⟨h1,h2⟩,h3⟩,h4⟩,h5⟩:=h;refine⟨hf,XS hf h1 h2,h3,h4,fun code hc=> ?_⟩;simp_all
def hO(C:ba)(c:RC)(fn:Func)(J:Nat->Nat->St->Option c.outs.V):List Nat->Prop
 |[]=>True
 | ℓ ::l=>(∃(s:Bh) (F:Nat->s.V->Option c.outs.V),(∀n,J n ℓ =jump c.ins.HE.length s (F n))/\(∀v,F 0 v=none)/\
  ∀n v,∀ω,Hz C c fn (J n) ℓ ω (s.st fn.ntmps v)=F (n+1) v)/\hO C c fn J l
theorem hO.ok{C:ba}{c:RC}{fn:Func}{J:Nat->Nat->St->Option c.outs.V}:∀{l:ABS},hO C c fn J l-> ∀ ℓ ∈l,∃(s:Bh) (F:Nat->s.V->Option c.outs.V),(∀n,J n ℓ =jump c.ins.HE.length s (F n))/\(∀v,F 0 v=none)/\
  ∀n v y,F (n+1) v=some y-> ∀ω,Hz C c fn (J n) ℓ ω (s.st fn.ntmps v)=some y
 |[],_,ℓ,h=>by cases h
 |k::l,hl,ℓ,h=>by
  rcases AOD.1 h with rfl|h
  ·obtain⟨⟨s,F,h1,h2,h3⟩,_⟩:=hl
   exact⟨s,F,h1,h2,fun n v y e ω=>(h3 n v ω).trans e⟩
  ·exact hO.ok hl.2 ℓ h
def jg(fn:Func):ABS:=
 match fn.body with
 |some code=>labels code
 |none=>[]
def Cb:List AGY->Nat->List Nat
 |[],_=>[]
 |(r,h)::l,q=>if r=q then h else Cb l q
theorem AFN{P:Program}{T:J4}{l:List (Nat×RC)}{hint:Nat->List Nat}{f:Nat}{fn:Func}{c:RC}(hT:FB P T)(hm:P.follows .mixedOrders=true)(hf:P.funcs[f]? =some fn)(hl:AI3 P l)(hc:jO fn c=true)
  {J:Nat->Nat->St->Option c.outs.V} {L:ABS} (hL:jg fn=L) (hJ:hO ⟨T,Rm l,hint⟩ c fn J L) (n:Nat) (he:∀ω v,DY ⟨T,Rm l,hint⟩ c fn (J n) ω v=c.g v):Xc P f c:=
 AFo (C:=⟨T,Rm l,hint⟩) hT (rm hl) hm (AZt hf hc) (J:=J) (fun code hb ℓ hℓ =>hO.ok hJ ℓ (by
  grind[jg])) fun v u hg=>⟨n,fun ω=>(he ω v).trans hg⟩
end Go.Fw
end
section
namespace Go.M
abbrev D8:Nat:=Go.Fw.D8
def Aa(x:Int):Int:=IntKind.wrap .i64 x
def dY(κ:IntKind)(a b:Int):Int:=κ.wrap (BitVec.ofInt κ.bits a &&& BitVec.ofInt κ.bits b).toNat
def bOr(κ:IntKind)(a b:Int):Int:=κ.wrap (BitVec.ofInt κ.bits a ||| BitVec.ofInt κ.bits b).toNat
def ATx(κ:IntKind)(a b:Int):Int:=κ.wrap (BitVec.ofInt κ.bits a ^^^ BitVec.ofInt κ.bits b).toNat
theorem rS:∃n:Nat,2^64<=n:=⟨_,AP7 _⟩
noncomputable def Ae:Nat:=Classical.choose rS
theorem bo:2^64<=Ae:=Classical.choose_spec rS
def xA{α:Type}(p:Int)(v l:List α):Option (List α):=if 0<=p/\p<=(l.length:Int)/\l.length+v.length<=D8 then some (l.take p.toNat++v++l.drop p.toNat)else none
def AEx{α:Type}(p q:Int)(l:List α):Option (List α):=if 0<=p/\p<=q/\q<=(l.length:Int)then some (l.take p.toNat++l.drop q.toNat)else none
end Go.M
end
section
namespace Go.Fw
structure SP (P:Program) where
 f:Nat
 c:RC
 h:Xc P f c
def SP.l{P:Program}:List (SP P)->List (Nat×RC)
 |[]=>[]
 |s::l=>(s.f,s.c)::SP.l l
theorem ABC{P:Program}:∀l:List (SP P),AI3 P (SP.l l)
 |[]=>trivial
 |s::l=>⟨s.h,ABC l⟩
@[reducible] def AP.Cu (R:Type):AP->Type
 | .r_ _ rs=>aK rs->R
 | .v t=>t.D->R
 | .sl _ r=>List r.D->R
 | .ni r=>r.D->R
 | .lp _ _=>Nat×Nat->R
 |_=>R
def AP.un{R:Type}:(p:AP)->p.Cu R->p.V->R
 | .r_ _ _,f,x=>f x
 | .v _,f,x=>f x
 | .sl _ _,f,x=>f x
 | .ni _,f,x=>f x
 | .lp _ _,f,x=>f x
 | .nil,f,_=>f
 | .ref _,f,_=>f
 | .ptr _ _,f,_=>f
 | .fn _ _,f,_=>f
 | .any,f,_=>f
@[reducible] def YX.Cu (R:Type):List AP->Type
 |[]=>R
 |p::l=>p.Cu (YX.Cu R l)
def YX.un{R:Type}:(l:List AP)->YX.Cu R l->YX.V l->R
 |[],f,_=>f
 |p::l,f,x=>YX.un l (p.un f x.1) x.2
@[reducible] def Yq.Cu (R:Type):List (AP ⊕ List AP)->Type
 |[]=>R
 | .inl p::l=>p.Cu (Yq.Cu R l)
 | .inr q::l=>YX.Cu (Yq.Cu R l) q
def Yq.un{R:Type}:(l:List (AP ⊕ List AP))->Yq.Cu R l->Yq.V l->R
 |[],f,_=>f
 | .inl p::l,f,x=>Yq.un l (p.un f x.1) x.2
 | .inr q::l,f,x=>Yq.un l (YX.un q f x.1) x.2
@[reducible] def XP.Cu (R:Type):XP->Type
 | .c p=>p.Cu R
 | .agg l=>YX.Cu R l
 | .row r=>r.D->R
 | .Mo l=>Yq.Cu R l
def XP.un{R:Type}:(p:XP)->p.Cu R->p.V->R
 | .c p,f,x=>p.un f x
 | .agg l,f,x=>YX.un l f x
 | .row _,f,x=>f x
 | .Mo l,f,x=>Yq.un l f x
@[reducible] def BP.Cu (R:Type):BP->Type
 | .mem l=>YX.Cu R l
 | .sl _ r=>List r.D->R
 | .gone=>R
def BP.un{R:Type}:(p:BP)->p.Cu R->p.V->R
 | .mem l,f,x=>YX.un l f x
 | .sl _ _,f,x=>f x
 | .gone,f,_=>f
@[reducible] def HK.Cu (R:Type):List (Nat×XP)->Type
 |[]=>R
 |(_,p)::l=>p.Cu (HK.Cu R l)
def HK.un{R:Type}:(l:List (Nat×XP))->HK.Cu R l->HK.V l->R
 |[],f,_=>f
 |(_,p)::l,f,x=>HK.un l (p.un f x.1) x.2
@[reducible] def J6.Cu (R:Type):List BP->Type
 |[]=>R
 |p::l=>p.Cu (J6.Cu R l)
def J6.un{R:Type}:(l:List BP)->J6.Cu R l->J6.V l->R
 |[],f,_=>f
 |p::l,f,x=>J6.un l (p.un f x.1) x.2
@[reducible] def Bh.Cu (s:Bh) (R:Type):Type:=HK.Cu (J6.Cu R s.HE) s.ED
def Bh.un{R:Type}(s:Bh)(f:s.Cu R)(v:s.V):R:=J6.un s.HE (HK.un s.ED f v.1) v.2
structure Lp (o:Bh) where
 ℓ :Nat
 s:Bh
 F:Nat->s.Cu (Option o.V)
def MZ{o:Bh}(nb:Nat):List (Lp o)->Nat->Nat->St->Option o.V
 |[],_,_,_=>none
 |p::l,n,ℓ,σ=>if ℓ =p.ℓ then jump nb p.s (p.s.un (p.F n)) σ else MZ nb l n ℓ σ
inductive Xd (C:ba) (c:RC) (fn:Func) (J:Nat->Nat->St->Option c.outs.V):List (Lp c.outs)->Prop
 |nil:Xd C c fn J []
 |cons {ℓ :Nat} {s:Bh} {F:Nat->s.Cu (Option c.outs.V)} {l:List (Lp c.outs)} (h0:∀v,s.un (F 0) v=none) (h1:∀n v ω,Hz C c fn (J n) ℓ ω (s.st fn.ntmps v)=s.un (F (n+1)) v) (h:Xd C c fn J l):Xd C c fn J (⟨ℓ,s,F⟩::l)
def Lp.ls{o:Bh}:List (Lp o)->List Nat
 |[]=>[]
 |p::l=>p.ℓ ::Lp.ls l
theorem AEl{o:Bh}{nb:Nat}:∀{l:List (Lp o)} (n:Nat) {ℓ :Nat} (p:Lp o) (pre:List (Lp o)),ℓ =p.ℓ ->(Lp.ls (pre++p::l)).Nodup->MZ nb (pre++p::l) n ℓ =jump nb p.s (p.s.un (p.F n))
 |l,n,ℓ,p,[],e,_=>by
  funext σ
  simp[MZ,e]
 |l,n,ℓ,p,q::pre,e,hn=>by
  funext σ
  have hq: ℓ ≠q.ℓ :=by
   intro h;simp only[AWb,Lp.ls,AW_]at hn;refine hn.1 ?_
   rw[<-h,e];clear hn h e
   induction pre with
   |nil=>simp[Lp.ls]
   |cons a m ih=>simp[Lp.ls,ih]
  have:=congrFun (AEl (nb:=nb) (l:=l) n p pre e (by grind[Lp.ls,List.nodup_cons])) σ;simp only[AWb,MZ,AKT hq];omega
theorem Xd.ok{C:ba}{c:RC}{fn:Func}{nb:Nat}(hb:nb=c.ins.HE.length){L:List (Lp c.outs)}(hn:(Lp.ls L).Nodup):∀{l pre:List (Lp c.outs)},L=pre++l->Xd C c fn (MZ nb L) l->hO C c fn (MZ nb L) (Lp.ls l)
 |[],_,_,_=>trivial
 |⟨ℓ,s,F⟩::l,pre,e,.cons h0 h1 h=>by
  refine⟨⟨s,fun n=>s.un (F n),fun n=> ?_,h0,fun n v ω=>h1 n v ω⟩,Xd.ok hb hn (pre:=pre++[⟨ℓ,s,F⟩]) (by simp[e]) h⟩;subst hb;rw[e];exact AEl n ⟨ℓ,s,F⟩ pre rfl (by simp_all)
def mkP{P:Program}{T:J4}(hT:FB P T)(hm:P.follows .mixedOrders=true){f:Nat}{fn:Func}(hf:P.funcs[f]? =some fn)(i o:Bh)(g:i.Cu (Option o.V))(l:List (SP P))(h:List AGY)(L:List (Lp o))(n:Nat)
  (hL:jg fn=Lp.ls L) (hd:decide (Lp.ls L).Nodup=true) (hc:jO fn ⟨i,o,i.un g⟩=true)
  (hJ:Xd ⟨T,Rm (SP.l l),Cb h⟩ ⟨i,o,i.un g⟩ fn (MZ i.HE.length L) L)
  (he:∀ω v,DY ⟨T,Rm (SP.l l),Cb h⟩ ⟨i,o,i.un g⟩ fn (MZ i.HE.length L n) ω v=i.un g v):SP P:=
 ⟨f,⟨i,o,i.un g⟩,AFN (l:=SP.l l) hT hm hf (ABC l) hc (J:=MZ i.HE.length L) (L:=Lp.ls L) hL (Xd.ok rfl (by simp_all) (pre:=[]) rfl hJ) n he⟩
theorem AG{Q:List Bool->Prop}(a:Q [])(b:∀ω,Q (false::ω))(d:∀ω,Q (true::ω)):∀ω,Q ω
 |[]=>a
 |false::ω=>b ω
 |true::ω=>d ω
end Go.Fw
end
section
namespace Go.Fw
open Go.Proofs Go.Shelf Go.RowKit Go.Lib
structure eg (P:Program) (ρ:Ren) (nm:String) (fv:Func):Prop where
 mixed:P.follows .mixedOrders=true
 f22:P.funcs[ρ.f 22]? =some { Body2.n22 ρ with name:=nm }
 n22:(nm== "runtime.NumGoroutine")=false
 f29:P.funcs[ρ.f 29]? =some fv
 n29:(fv.name== "runtime.NumGoroutine")=false
 b29:fv.body.isNone=true
 e29:Extern.findNext fv=none
 x29:Extern.find fv=some (Extern.SlicesOverlaps.overlaps #[(ρ.t 24),(ρ.t 24)] #[(ρ.t 4)])
 t0:P.underlying (ρ.t 0)=some (TypeDesc.tuple #[])
 a0:∀w,(isAgg (ρ.t 0)).run P w= .ok false w
 z0:∀w,(Go.sizeOf (ρ.t 0)).run P w= .ok 1 w
 v0:∀w,(zeroValue (ρ.t 0)).run P w= .ok (Value.tuple #[]) w
 t3:P.underlying (ρ.t 3)=some (TypeDesc.int IntKind.i64)
 a3:∀w,(isAgg (ρ.t 3)).run P w= .ok false w
 z3:∀w,(Go.sizeOf (ρ.t 3)).run P w= .ok 1 w
 v3:∀w,(zeroValue (ρ.t 3)).run P w= .ok (Value.int IntKind.i64 0) w
 t4:P.underlying (ρ.t 4)=some (TypeDesc.bool)
 a4:∀w,(isAgg (ρ.t 4)).run P w= .ok false w
 z4:∀w,(Go.sizeOf (ρ.t 4)).run P w= .ok 1 w
 v4:∀w,(zeroValue (ρ.t 4)).run P w= .ok (Value.bool false) w
 t24:P.underlying (ρ.t 24)=some (TypeDesc.slice (ρ.t 9))
 a24:∀w,(isAgg (ρ.t 24)).run P w= .ok false w
 z24:∀w,(Go.sizeOf (ρ.t 24)).run P w= .ok 1 w
 v24:∀w,(zeroValue (ρ.t 24)).run P w= .ok (Value.slice none 0 0) w
section
variable{P:Program} {ρ:Ren} {nm:String} {fv:Func}
theorem bz{w:World}{dT sT ty elem:TypeId}{i0:TypeInfo}{b o AVv AaB Vo j_ n:Nat}{a:Option Addr}{cs:List Value}(hu:P.underlying dT=some (.slice elem))(hi:P.info? elem=some i0)(hn:n=Nat.min Vo AVv)
  (ASX:∀W:World,W=w->(Builtin.firstCells i0.size n (.slice a Vo j_)).run P W= .ok cs.toArray W) (p7:w.there b o cs.length) (h1:∀v∈cs,v.oneCell' =true):
  (Builtin.copy_ #[dT,sT] ty #[.slice (some ⟨b,o,none⟩) AVv AaB,.slice a Vo j_]).run P w= .ok (goInt n) (w.setCells b o cs):=by
 have gO:=run_storeCells_cells (P:=P) b o cs 0 w (by simpa using fun j hj=>(p7 j hj).1) (by simpa using fun j hj=>(p7 j hj).2) h1;rw[AUr]at gO;have:=ASX w rfl;simp[Builtin.copy_,run_underlying hu,Builtin.lenOf,sizeOf,typeInfo,hi,<-hn,this,gO]
set_option maxHeartbeats 4000000 in
set_option maxRecDepth 100000 in
theorem AGU(L:eg P ρ nm fv){k:Nat}(z9:∀w,(Go.sizeOf (ρ.t 9)).run P w= .ok k w)(ad:Option Addr)(n c i:Nat)(va:Option Addr)(vc:Nat)(w:World)(hi:i<=n)(hnc:n<=c):
  Calls P (ρ.f 22) #[.slice ad n c,.int .i64 i,.slice va 0 vc] w fun e w' =>e= .returned (.slice ad n c)/\w' =w:=by
 have t0:=L.t0;have a0:=L.a0;have z0:=L.z0;have v0:=L.v0;have t3:=L.t3;have a3:=L.a3;have z3:=L.z3;have v3:=L.v3;have t4:=L.t4;have a4:=L.a4;have z4:=L.z4;have v4:=L.v4;have t24:=L.t24;have a24:=L.a24;have z24:=L.z24;have v24:=L.v24;have u0:=run_underlying L.t0;have u3:=run_underlying L.t3;have u4:=run_underlying L.t4;have YV:=run_underlying L.t24;have mixed:=L.mixed
 go_enter L.f22,Body2.n22_ntmps ρ
 cases ad with
 |none=>
  go_wp2
  go_ret
  exact⟨rfl,rfl⟩
 |some a=>
  obtain⟨ab,ao,asp⟩:=a
  go_wp2
  all_goals (go_ret;exact⟨rfl,rfl⟩)
theorem lK{w:World}(tS tR e:TypeId)(ht:P.underlying tS=some (.slice e))(size:Nat)(hz:∀w,(Go.sizeOf e).run P w= .ok size w)
  (a b:Addr) (la ca lb cb:Nat) (bg:a.block≠b.block) (tA tB:TypeId) (kA kB:Nat)
  (hsa:w.shape? a.block=some (tA,kA)) (hsb:w.shape? b.block=some (tB,kB)) (hkA:kA≠0)
  (hfb:w.frozen? b=false) (hfe:w.frozen? { block:=b.block,off:=kB }=false):
  (Extern.SlicesOverlaps.overlaps #[tS,tS] #[tR] #[.slice (some a) la ca,.slice (some b) lb cb]).run P w= .ok (.bool false) w:=by
 have r9:(a.block !=b.block)=true:=by simp_all
 have Aaf:(a.block==b.block)=false:=by simp_all
 change Sem.run P (α:=Value) (do
  let some t:=(#[tS,tS]:Array TypeId)[0]?|stuck "slices.overlaps: no parameter types"
  let .slice elem<-underlying t|stuck "slices.overlaps: slice type expected"
  let size<-sizeOf elem
  match(some a:Option Addr),(some b:Option Addr)with
  |some a,some b=>
   if la=0\/lb=0\/size=0 then pure (Value.bool false)
   else if a.block !=b.block&&(<-frozen a)&&(<-frozen b)then unsupported .addressObserved
   else do
    if a.block !=b.block then do
     noView a;noView b
     if<-mayBeOne a b then return Value.bool ((<-choose (.extern "sameAddr.stringBytes" 2))==1)
    pure (Value.bool (a.block==b.block&&a.off<b.off+lb*size&&b.off<a.off+la*size))
  |_,_=>pure (Value.bool false)) w=_
 by_cases h0:la=0\/lb=0\/size=0
 ·simp[run_underlying ht,hz,h0]
 ·cases kA with
  |zero=>omega
  |succ kA=>
   cases hfa:w.frozen? a<;>cases hfae:w.frozen? { block:=a.block,off:=kA+1 }<;>
    simp[run_underlying ht,hz,h0,r9,Aaf,frozen,noView,viewAt,mayBeOne,stringish,shape,Sem.run,hsa,hsb,hfb,hfe,hfa,hfae]
set_option maxHeartbeats 4000000 in
set_option maxRecDepth 100000 in
theorem ACj(L:eg P ρ nm fv){i0:TypeInfo}(wv:P.info? (ρ.t 9)=some i0)(hs0:0<i0.size)(b off n c i:Nat)(va:Addr)(m vc:Nat)(cs vs:List Value)(w:World)(hi:i<n)(hm:0<m)(TW:n+m<=c)(al:n+m<=D8)(hvb:va.block≠b)
  (fD:cs.length=n*i0.size) (hvl:vs.length=m*i0.size) (yP:Bk w b off cs) (p7:w.there b off ((n+m)*i0.size))
  (Vx:∀W:World,W.heap[va.block]? =w.heap[va.block]?->(Builtin.firstCells i0.size m (.slice (some va) m vc)).run P W= .ok vs.toArray W) (h1c:∀v∈cs,v.oneCell' =true) (h1v:∀v∈vs,v.oneCell' =true)
  (tA tB:TypeId) (kA kB:Nat) (hsa:w.shape? va.block=some (tA,kA)) (hsb:w.shape? b=some (tB,kB)) (hkA:kA≠0) (hfe:w.frozen? ⟨b,kB,none⟩=false):
  Calls P (ρ.f 22) #[.slice (some ⟨b,off,none⟩) n c,.int .i64 i,.slice (some va) m vc] w fun e w' =>
   e= .returned (.slice (some ⟨b,off,none⟩) (n+m) c)/\ ∃W:World,W.heap=w.heap/\Grown w W/\w' =(W.setCells b (off+(i+m)*i0.size) (cs.drop (i*i0.size))).setCells b (off+i*i0.size) vs:=by
 have t0:=L.t0;have a0:=L.a0;have z0:=L.z0;have v0:=L.v0;have t3:=L.t3;have a3:=L.a3;have z3:=L.z3;have v3:=L.v3;have t4:=L.t4;have a4:=L.a4;have z4:=L.z4;have v4:=L.v4;have t24:=L.t24;have a24:=L.a24;have z24:=L.z24;have v24:=L.v24;have u0:=run_underlying L.t0;have u3:=run_underlying L.t3;have u4:=run_underlying L.t4;have YV:=run_underlying L.t24;have z9:∀w,(Go.sizeOf (ρ.t 9)).run P w= .ok i0.size w:=fun w=>by simp[sizeOf,typeInfo,wv]
 have mixed:=L.mixed;have AET:=al;simp only[D8]at AET;have hz1: ¬((m:Int)=0):=by omega
 have hz2: ¬((i:Int)=(n:Int)):=by omega
 generalize hk:i0.size=k at*
 have hmul:(i+m)*k<=(n+m)*k:=AOL _ (by omega);have AEe:i*k<=n*k:=AOL _ (by omega);have K9:(i+m)*k<(n+m)*k:=Nat.mul_lt_mul_of_pos_right (by omega) hs0;have tp:(n+m)*k=n*k+m*k:=AUd ..;have him:(i+m)*k=i*k+m*k:=AUd ..;have hov:∀lb cb,(callFunc (ρ.f 29) #[.slice (some va) m vc,.slice (some ⟨b,off+(i+m)*k,none⟩) lb cb]).run P w= .ok (.value (.bool false)) w:=fun lb cb=>by
  rw[run_callFunc_extern L.f29 L.n29 L.b29 L.e29 L.x29,
   lK (ρ.t 24) (ρ.t 4) (ρ.t 9) L.t24 k z9 va ⟨b,off+(i+m)*k,none⟩ m vc lb cb hvb tA tB kA kB hsa hsb hkA (p7 _ K9).2 hfe]
  rfl
 have hdl:(cs.drop (i*k)).length=(n-i)*k:=by rw[AXl,fD,AWI]
 have hw1:IntKind.i64.wrap ((i:Int)+(m:Int))=(i:Int)+(m:Int):=by rw[IntKind.wrap_i64];omega
 have hb1:(0:Int)<=(i:Int)+(m:Int):=by omega
 have P7:i<=n:=by omega
 have htn:((i:Int)+(m:Int)).toNat=i+m:=by omega
 have hb2: ¬(c=i+m):=by omega
 have hb3:(i:Int)<=(n:Int)+(m:Int):=by omega
 have hb4: ¬(c=i):=by omega
 have AXg:∀ty dc sc,(Builtin.copy_ #[(ρ.t 24),(ρ.t 24)] ty #[.slice (some ⟨b,off+(i+m)*k,none⟩) (n+m-(i+m)) dc,.slice (some ⟨b,off+i*k,none⟩) (n+m-i) sc]).run P w.drew= .ok (goInt (n-i:Nat)) (w.drew.setCells b (off+(i+m)*k) (cs.drop (i*k))):=fun ty dc sc=>
  bz (n:=n-i) L.t24 wv (by simp only[Nat.min_def];split<;>omega) (fun W hW=>by
   subst hW;simp only[Builtin.firstCells,hk];have hl:Bk w.drew b (off+i*k) (cs.drop (i*k)):=fun j v hj=>by
    rw[AWz]at hj;have:=yP _ v hj
    rwa [<-AUh]at this
   rw[<-hdl];exact Ln hl) (fun j hj=>by
    rw[hdl]at hj;have:(i+m)*k+j<(n+m)*k:=by
     rw[tp,him];have:(n-i)*k=n*k-i*k:=AWI ..;omega
    have:=p7 _ this;rw[<-AUh]at this;exact this) (fun v hv=>h1c v (AV3 hv))
 obtain⟨W1,hW1⟩:∃W1,W1=w.drew.setCells b (off+(i+m)*k) (cs.drop (i*k)):=⟨_,rfl⟩;have AZB:W1.heap[va.block]? =w.heap[va.block]?:=by rw[hW1];exact Da _ _ _ _ _ hvb
 have ARh:W1.there b (off+i*k) vs.length:=fun j hj=>by
  rw[hvl]at hj;have h0:=p7 (i*k+j) (by omega);rw[<-AUh]at h0;rw[hW1];refine⟨?_,?_⟩
  ·refine isSome_setCells b _ _ _ (fun t ht=> ?_) _ h0.1
   rw[hdl]at ht;have h2:(i+m)*k+t<(n+m)*k:=by
    rw[tp,him];have:(n-i)*k=n*k-i*k:=AWI ..;omega
   have:=(p7 _ h2).1;rw[<-AUh]at this;exact this
  ·rw[World.frozen?_setCells]
   exact h0.2
 have AZS:∀(W:World),(∀x,W.cell? x=W1.cell? x)->(∀x,W.frozen? x=W1.frozen? x)->W.heap=W1.heap-> ∀ty dc,(Builtin.copy_ #[(ρ.t 24),(ρ.t 24)] ty #[.slice (some ⟨b,off+i*k,none⟩) (n+m-i) dc,.slice (some va) m vc]).run P W= .ok (goInt m) (W.setCells b (off+i*k) vs):=fun W hWc hWf tb ty dc=>
  bz (n:=m) L.t24 wv (by simp only[Nat.min_def];split<;>omega) (fun V hV=>by subst hV;rw[hk];exact Vx _ (by rw[tb];exact AZB)) (fun j hj=>⟨by rw[hWc];exact(ARh j hj).1,by rw[hWf];exact(ARh j hj).2⟩) h1v
 rw[<-hW1]at AXg;obtain⟨vab,vao,vas⟩:=va;clear hmul AEe K9 tp him p7 ARh yP hdl
 go_enter L.f22,Body2.n22_ntmps ρ
 go_wp2_with (simp only[hov])
 go_region_law_o (refine step_copy_runI rfl _ _ (ρ.t 24) (ρ.t 24) rfl _ _ (by simp[Act.eval,Act.put]) (by simp[Act.eval,Act.put]) (AXg _ _ _) ?_)
 go_wp2_with (at_builtin;refine wpList_copy_runI _ rfl _ _ (ρ.t 24) (ρ.t 24) rfl _ _ rfl rfl (AZS _ (fun _=>rfl) (fun _=>rfl) rfl _ _) ?_)
 go_ret
 first|exact⟨rfl,_,rfl,⟨rfl,rfl,rfl,AP7 _⟩,rfl⟩|exact⟨rfl,w.drew,rfl,⟨rfl,rfl,rfl,AP7 _⟩,by first|rfl|rw[hW1]⟩
set_option maxHeartbeats 4000000 in
set_option maxRecDepth 100000 in
theorem AEy(L:eg P ρ nm fv){i0:TypeInfo}(wv:P.info? (ρ.t 9)=some i0)(b off n c:Nat)(va:Addr)(m vc:Nat)(vs:List Value)(w:World)(hm:0<m)(TW:n+m<=c)
  (p7:w.there b (off+n*i0.size) vs.length) (hn:ki P w i0.size m (.slice (some va) m vc) vs) (h1v:∀v∈vs,v.oneCell' =true):
  Calls P (ρ.f 22) #[.slice (some ⟨b,off,none⟩) n c,.int .i64 n,.slice (some va) m vc] w fun e w' =>
   e= .returned (.slice (some ⟨b,off,none⟩) (n+m) c)/\w' =w.setCells b (off+n*i0.size) vs:=by
 have t0:=L.t0;have a0:=L.a0;have z0:=L.z0;have v0:=L.v0;have t3:=L.t3;have a3:=L.a3;have z3:=L.z3;have v3:=L.v3;have t4:=L.t4;have a4:=L.a4;have z4:=L.z4;have v4:=L.v4;have t24:=L.t24;have a24:=L.a24;have z24:=L.z24;have v24:=L.v24;have u0:=run_underlying L.t0;have u3:=run_underlying L.t3;have u4:=run_underlying L.t4;have YV:=run_underlying L.t24;have z9:∀w,(Go.sizeOf (ρ.t 9)).run P w= .ok i0.size w:=fun w=>by simp[sizeOf,typeInfo,wv]
 have mixed:=L.mixed;have hz1: ¬((m:Int)=0):=by omega
 have kX:∀ty,(Builtin.append_ #[(ρ.t 24),(ρ.t 24)] ty #[.slice (some ⟨b,off,none⟩) n c,.slice (some va) m vc]).run P w=_:=fun ty=>
  gI (ts:= #[(ρ.t 24),(ρ.t 24)]) (ty:=ty) rfl rfl L.t24 (.inl ⟨_,L.t24⟩) wv rfl hn TW p7 h1v
 clear p7 hn
 generalize hk:i0.size=k at*
 obtain⟨vab,vao,vas⟩:=va
 go_enter L.f22,Body2.n22_ntmps ρ
 go_wp2_with (at_builtin;refine Lib.wpList_append_run _ rfl _ _ (ρ.t 24) (ρ.t 24) rfl _ _ rfl rfl _ _ (kX _) ?_)
 go_ret
 exact⟨rfl,rfl⟩
set_option maxHeartbeats 4000000 in
set_option maxRecDepth 100000 in
theorem AEq(L:eg P ρ nm fv){i0:TypeInfo}{z:Value}(wv:P.info? (ρ.t 9)=some i0)(hz:i0.zero=some z)(hby:i0.bytes<=512)(ad:Option Addr)(n c:Nat)(va:Addr)(m vc:Nat)(cs vs:List Value)(w:World)(hm:0<m)(hnc:n<=c)(TW:c<n+m)(al:n+m<=D8)
  (ho:∀w',w'.heap=w.heap->(Builtin.firstCells i0.size n (.slice ad n c)).run P w' = .ok cs.toArray w') (hn:ki P w i0.size m (.slice (some va) m vc) vs):
  Calls P (ρ.f 22) #[.slice ad n c,.int .i64 n,.slice (some va) m vc] w fun e w' =>
   e= .returned (.slice (some ⟨w.heap.size,0,none⟩) (n+m) (grownCap w (n+m) c (ρ.t 9)))/\
   w' =w.drew.alloc (.cells (cs.toArray++vs.toArray++Builtin.zeroCells z.cells (grownCap w (n+m) c (ρ.t 9)-(n+m))) (ρ.t 9)):=by
 have t0:=L.t0;have a0:=L.a0;have z0:=L.z0;have v0:=L.v0;have t3:=L.t3;have a3:=L.a3;have z3:=L.z3;have v3:=L.v3;have t4:=L.t4;have a4:=L.a4;have z4:=L.z4;have v4:=L.v4;have t24:=L.t24;have a24:=L.a24;have z24:=L.z24;have v24:=L.v24;have u0:=run_underlying L.t0;have u3:=run_underlying L.t3;have u4:=run_underlying L.t4;have YV:=run_underlying L.t24;have z9:∀w,(Go.sizeOf (ρ.t 9)).run P w= .ok i0.size w:=fun w=>by simp[sizeOf,typeInfo,wv]
 have mixed:=L.mixed;have hz1: ¬((m:Int)=0):=by omega
 have kX:∀ty,(Builtin.append_ #[(ρ.t 24),(ρ.t 24)] ty #[.slice ad n c,.slice (some va) m vc]).run P w=_:=fun ty=>
  dN (ts:= #[(ρ.t 24),(ρ.t 24)]) (ty:=ty) rfl rfl L.t24 (.inl ⟨_,L.t24⟩) wv hz rfl ho hn TW al hby
 clear hn ho
 obtain⟨W1,hW1⟩:∃W1,W1=w.drew.alloc (.cells (cs.toArray++vs.toArray++Builtin.zeroCells z.cells (grownCap w (n+m) c (ρ.t 9)-(n+m))) (ρ.t 9)):=⟨_,rfl⟩;rw[<-hW1]at kX|-;clear hW1
 generalize hk:i0.size=k at*
 obtain⟨vab,vao,vas⟩:=va
 go_enter L.f22,Body2.n22_ntmps ρ
 cases ad with
 |none=>
  go_wp2_with (at_builtin;refine Lib.wpList_append_run _ rfl _ _ (ρ.t 24) (ρ.t 24) rfl _ _ rfl rfl _ _ (kX _) ?_)
  all_goals (go_ret;exact⟨rfl,rfl⟩)
 |some a=>
  obtain⟨ab,ao,asp⟩:=a
  go_wp2_with (at_builtin;refine Lib.wpList_append_run _ rfl _ _ (ρ.t 24) (ρ.t 24) rfl _ _ rfl rfl _ _ (kX _) ?_)
  all_goals (go_ret;exact⟨rfl,rfl⟩)
set_option maxHeartbeats 4000000 in
set_option maxRecDepth 100000 in
theorem AJu(L:eg P ρ nm fv){i0:TypeInfo}{z:Value}(wv:P.info? (ρ.t 9)=some i0)(hz:i0.zero=some z)(hzl:z.cells.size=i0.size)(hs0:0<i0.size)(hby:i0.bytes<=512)(b off n c i:Nat)(va:Addr)(m vc:Nat)(cs vs:List Value)(w:World)(hi:i<n)(hm:0<m)(hnc:n<=c)(TW:c<n+m)(al:n+m<=D8)
  (fD:cs.length=n*i0.size) (hvl:vs.length=m*i0.size) (hbw:b<w.heap.size) (yP:Bk w b off cs) (hvw:va.block<w.heap.size)
  (Vx:∀W:World,W.heap[va.block]? =w.heap[va.block]?->(Builtin.firstCells i0.size m (.slice (some va) m vc)).run P W= .ok vs.toArray W) (h1c:∀v∈cs,v.oneCell' =true) (h1v:∀v∈vs,v.oneCell' =true):
  Calls P (ρ.f 22) #[.slice (some ⟨b,off,none⟩) n c,.int .i64 i,.slice (some va) m vc] w fun e w' =>
   e= .returned (.slice (some ⟨w.heap.size,0,none⟩) (n+m) (grownCap w (n+m) c (ρ.t 9)))/\
   ∃W:World,W.heap=w.heap.push (.cells ((cs.take (i*i0.size)).toArray++Builtin.zeroCells z.cells (n+m-i)++Builtin.zeroCells z.cells (grownCap w (n+m) c (ρ.t 9)-(n+m))) (ρ.t 9))/\W.os=w.os/\W.tape=w.tape/\W.output=w.output/\
    w' =(W.setCells w.heap.size (i*i0.size) vs).setCells w.heap.size ((i+m)*i0.size) (cs.drop (i*i0.size)):=by
 have t0:=L.t0;have a0:=L.a0;have z0:=L.z0;have v0:=L.v0;have t3:=L.t3;have a3:=L.a3;have z3:=L.z3;have v3:=L.v3;have t4:=L.t4;have a4:=L.a4;have z4:=L.z4;have v4:=L.v4;have t24:=L.t24;have a24:=L.a24;have z24:=L.z24;have v24:=L.v24;have u0:=run_underlying L.t0;have u3:=run_underlying L.t3;have u4:=run_underlying L.t4;have YV:=run_underlying L.t24;have z9:∀w,(Go.sizeOf (ρ.t 9)).run P w= .ok i0.size w:=fun w=>by simp[sizeOf,typeInfo,wv]
 have mixed:=L.mixed;have AET:=al;simp only[D8]at AET;have hz1: ¬((m:Int)=0):=by omega
 have hz2: ¬((i:Int)=(n:Int)):=by omega
 have hz3:(c:Int)<(n:Int)+(m:Int):=by omega
 have hkk:(n:Int)+(m:Int)-(i:Int)=((n+m-i:Nat):Int):=by omega
 have hik:i+(n+m-i)=n+m:=by omega
 have AEe:i*i0.size<=n*i0.size:=AOL _ (by omega);have tp:(n+m)*i0.size=n*i0.size+m*i0.size:=AUd ..;have him:(i+m)*i0.size=i*i0.size+m*i0.size:=AUd ..;have hni:(n-i)*i0.size=n*i0.size-i*i0.size:=AWI ..;have hold:(Builtin.firstCells i0.size i (.slice (some ⟨b,off,none⟩) i c)).run P w.drew= .ok (cs.take (i*i0.size)).toArray w.drew:=by
  simp only[Builtin.firstCells];have hl:(cs.take (i*i0.size)).length=i*i0.size:=by rw[AWw];omega
  have hca:Bk w.drew b off (cs.take (i*i0.size)):=fun j v hj=>by
   rw[AW0]at hj;split at hj
   ·exact yP j v hj
   ·cases hj
  conv=>lhs;rw[<-hl]
  exact Ln hca
 have AU9:(n+m)*i0.bytes<=140737488355328:=by
  have:(n+m)*i0.bytes<=D8*512:=AYn al hby;simp only[D8]at this;omega
 have AOQ:(n+m-i)*i0.bytes<=281474976710656:=by
  have:(n+m-i)*i0.bytes<=(n+m)*i0.bytes:=AOL _ (by omega);omega
 have hrz:∀ty,(Builtin.append_ #[(ρ.t 24),(ρ.t 3)] ty #[.slice (some ⟨b,off,none⟩) i c,.int .i64 ((n:Int)+(m:Int)-(i:Int))]).run P w=
   .ok (.slice (some ⟨w.heap.size,0,none⟩) (n+m) (grownCap w (n+m) c (ρ.t 9))) (w.drew.alloc (.cells ((cs.take (i*i0.size)).toArray++Builtin.zeroCells z.cells (n+m-i)++Builtin.zeroCells z.cells (grownCap w (n+m) c (ρ.t 9)-(n+m))) (ρ.t 9))):=fun ty=>by
  have h:=Lib.run_append_grow_zeros w (ρ.t 24) (ρ.t 3) ty (ρ.t 9) i0 z .i64 .i64 L.t24 L.t3 wv hz (some ⟨b,off,none⟩) i c (cs.take (i*i0.size)) hold (n+m-i) (by omega) hs0 (by omega) (by omega) AOQ (by rw[hik];exact growslice_fits TW AU9);rw[hik]at h;rw[hkk];exact h
 have hGn:n+m<=grownCap w (n+m) c (ρ.t 9):=grownCap_ge w _ _ _;have Abn:grownCap w (n+m) c (ρ.t 9)<=9223372036854775807:=by
  have:=grownCap_le_maxLen w (n+m) c (ρ.t 9) (by unfold maxLen;omega);unfold maxLen at this;omega
 obtain⟨G,hG⟩:∃G,G=grownCap w (n+m) c (ρ.t 9):=⟨_,rfl⟩;rw[<-hG]at hrz hGn Abn|-;obtain⟨ROW,ADZ⟩:∃ROW:Array Value,ROW=(cs.take (i*i0.size)).toArray++Builtin.zeroCells z.cells (n+m-i)++Builtin.zeroCells z.cells (G-(n+m)):=⟨_,rfl⟩;rw[<-ADZ]at hrz|-;have hRl:(n+m)*i0.size<=ROW.size:=by
  rw[ADZ];simp only[AYW,AYX,size_zeroCells,hzl,AWw];have e1:(n+m-i)*i0.size=(n+m)*i0.size-i*i0.size:=AWI ..;omega
 obtain⟨W1,hW1⟩:∃W1,W1=w.drew.alloc (.cells ROW (ρ.t 9)):=⟨_,rfl⟩;rw[<-hW1]at hrz;have AU3:W1.heap[w.heap.size]? =some (.cells ROW (ρ.t 9)):=by
  rw[hW1]
  show(w.heap.push (.cells ROW (ρ.t 9)))[w.heap.size]? =_
  simp
 have AEi:∀x,x<w.heap.size->W1.heap[x]? =w.heap[x]?:=fun x hx=>by rw[hW1];exact I4 hx
 have hN:∀o l,o+l<=(n+m)*i0.size->W1.there w.heap.size o l:=fun o l h=>U6 (k:=1) AU3 (by omega) (W9 _)
 have hdl:(cs.drop (i*i0.size)).length=(n-i)*i0.size:=by rw[AXl,fD,hni]
 have AZv:∀(W:World),(∀x,W.cell? x=W1.cell? x)->(∀x,W.frozen? x=W1.frozen? x)->W.heap=W1.heap-> ∀ty dc,(Builtin.copy_ #[(ρ.t 24),(ρ.t 24)] ty #[.slice (some ⟨w.heap.size,i*i0.size,none⟩) (n+m-i) dc,.slice (some va) m vc]).run P W= .ok (goInt m) (W.setCells w.heap.size (i*i0.size) vs):=fun W hWc hWf tb ty dc=>
  bz (n:=m) L.t24 wv (by simp only[Nat.min_def];split<;>omega) (fun V hV=>by subst hV;exact Vx _ (by rw[tb];exact AEi _ hvw)) (fun j hj=>by
   have:=hN (i*i0.size) (m*i0.size) (by omega) j (by omega);exact⟨by rw[hWc];exact this.1,by rw[hWf];exact this.2⟩) h1v
 have AXP:∀(W:World),(∀x,W.cell? x=(W1.setCells w.heap.size (i*i0.size) vs).cell? x)->(∀x,W.frozen? x=(W1.setCells w.heap.size (i*i0.size) vs).frozen? x)->W.heap=(W1.setCells w.heap.size (i*i0.size) vs).heap-> ∀ty dc sc,(Builtin.copy_ #[(ρ.t 24),(ρ.t 24)] ty #[.slice (some ⟨w.heap.size,(i+m)*i0.size,none⟩) (n+m-(i+m)) dc,.slice (some ⟨b,off+i*i0.size,none⟩) (n-i) sc]).run P W= .ok (goInt (n-i:Nat)) (W.setCells w.heap.size ((i+m)*i0.size) (cs.drop (i*i0.size))):=fun W hWc hWf tb ty dc sc=>
  bz (n:=n-i) L.t24 wv (by simp only[Nat.min_def];split<;>omega) (fun V hV=>by
   subst hV;simp only[Builtin.firstCells];rw[<-hdl];refine Ln fun j v hj=> ?_
   rw[AWz]at hj;have h3:=yP _ v hj;rw[<-AUh]at h3;rw[<-h3];refine World.cell?_of_block (a:=⟨b,off+i*i0.size+j,none⟩) ?_
   rw[tb,Da _ _ _ _ _ (show b≠w.heap.size by omega)];exact AEi b hbw) (fun j hj=>by
   have hb:W1.there w.heap.size ((i+m)*i0.size) (cs.drop (i*i0.size)).length:=hN _ _ (by omega);refine⟨?_,?_⟩
   ·rw[hWc]
    exact isSome_setCells _ _ _ _ (fun t ht=>(hN (i*i0.size) vs.length (by omega) t ht).1) _ (hb j hj).1
   ·rw[hWf,World.frozen?_setCells]
    exact(hb j hj).2) (fun v hv=>h1c v (AV3 hv))
 generalize hk:i0.size=k at*
 have hE1:∀x,((w.alloc (.cells ROW (ρ.t 9))).drew).cell? x=W1.cell? x:=fun x=>by rw[hW1];rfl
 have hE2:∀x,((w.alloc (.cells ROW (ρ.t 9))).drew).frozen? x=W1.frozen? x:=fun x=>by rw[hW1];rfl
 have hE3:((w.alloc (.cells ROW (ρ.t 9))).drew).heap=W1.heap:=by rw[hW1];rfl
 have hF1:∀x,(((w.alloc (.cells ROW (ρ.t 9))).drew.setCells w.heap.size (i*k) vs).drew).cell? x=(W1.setCells w.heap.size (i*k) vs).cell? x:=fun x=>by rw[hW1];rfl
 have hF2:∀x,(((w.alloc (.cells ROW (ρ.t 9))).drew.setCells w.heap.size (i*k) vs).drew).frozen? x=(W1.setCells w.heap.size (i*k) vs).frozen? x:=fun x=>by rw[hW1];rfl
 have hF3:(((w.alloc (.cells ROW (ρ.t 9))).drew.setCells w.heap.size (i*k) vs).drew).heap=(W1.setCells w.heap.size (i*k) vs).heap:=by rw[hW1];rfl
 have hw1:IntKind.i64.wrap ((i:Int)+(m:Int))=(i:Int)+(m:Int):=by rw[IntKind.wrap_i64];omega
 have hb1:(0:Int)<=(i:Int)+(m:Int):=by omega
 have P7:i<=n:=by omega
 have htn:((i:Int)+(m:Int)).toNat=i+m:=by omega
 have hb3:(i:Int)<=(n:Int):=by omega
 have hGi: ¬(G=i):=by omega
 have Afh: ¬(G=i+m):=by omega
 have hci: ¬(c=i):=by omega
 subst hW1;clear hkk hik hold ADZ hG hRl AEe tp him hni hdl hN yP Vx AU3 AEi AU9 AOQ;obtain⟨vab,vao,vas⟩:=va
 go_enter L.f22,Body2.n22_ntmps ρ
 go_wp2_with (first
  |(at_builtin;refine Lib.wpList_append_run _ rfl _ _ _ _ rfl _ _ rfl rfl _ _ (hrz _) ?_)
  |(at_builtin;refine wpList_copy_runI _ rfl _ _ (ρ.t 24) (ρ.t 24) rfl _ _ rfl rfl (AZv _ hE1 hE2 hE3 _ _) ?_)
  |(at_builtin;refine wpList_copy_runI _ rfl _ _ (ρ.t 24) (ρ.t 24) rfl _ _ rfl rfl (AXP _ (fun _=>rfl) (fun _=>rfl) rfl _ _ _) ?_))
 go_region_law_o (refine step_copy_runI rfl _ _ (ρ.t 24) (ρ.t 24) rfl (.slice (some ⟨w.heap.size,(i+m)*k,none⟩) (n+m-(i+m)) (G-(i+m))) (.slice (some ⟨b,off+i*k,none⟩) (n-i) (c-i)) (by simp[Act.eval,Act.put]) (by simp[Act.eval,Act.put]) (AXP _ hF1 hF2 hF3 (ρ.t 3) (G-(i+m)) (c-i)) ?_)
 go_wp2
 go_ret
 refine⟨rfl,((w.alloc (.cells ROW (ρ.t 9))).drew).drew,rfl,rfl,rfl,rfl,?_⟩;rw[drew_setCells]
end
end Go.Fw
end
section
namespace Go.Fw
open Go.Proofs Go.Shelf Go.RowKit Go.Lib
def Flat(w:World)(r:Ty)(css:List (List Value))(rows:List r.D):Prop:=
 css.length=rows.length/\(∀c∈css,c.length=r.n)/\ ∀(i:Nat) cs y,css[i]? =some cs->rows[i]? =some y->Rd w (fun _=>False) r cs y
theorem Flat.to{w w':World}{r:Ty}(hf:r.flat=true){css:List (List Value)}{rows:List r.D}(h:Flat w r css rows):Flat w' r css rows:=
 ⟨h.1,h.2.1,fun i cs y a b=>fO hf (h.2.2 i cs y a b)⟩
theorem Flat.take{w:World}{r:Ty}{css:List (List Value)}{rows:List r.D}(h:Flat w r css rows)(n:Nat):Flat w r (css.take n) (rows.take n):=by
 refine⟨by simp[h.1],fun c hc=>h.2.1 c (AXd hc),fun i cs y a b=> ?_⟩;rw[AW0]at a b;split at a
 ·rename_i hi
  rw[AKJ hi]at b;exact h.2.2 i cs y a b
 simp_all
theorem Flat.drop{w:World}{r:Ty}{css:List (List Value)}{rows:List r.D}(h:Flat w r css rows)(n:Nat):Flat w r (css.drop n) (rows.drop n):=by
 refine⟨by simp[h.1],fun c hc=>h.2.1 c (AV3 hc),fun i cs y a b=> ?_⟩;rw[AWz]at a b;exact h.2.2 _ cs y a b
theorem Flat.append{w:World}{r:Ty}{css uo:List (List Value)}{rows AXE:List r.D}(h:Flat w r css rows)(k:Flat w r uo AXE):Flat w r (css++uo) (rows++AXE):=by
 refine⟨by simp[h.1,k.1],fun c hc=>(AOO.1 hc).elim (h.2.1 c) (k.2.1 c),fun i cs y a b=> ?_⟩;by_cases hi:i<rows.length
 ·rw[ANz (by rw[h.1];omega)]at a
  rw[ANz hi]at b;exact h.2.2 i cs y a b
 ·rw[AOE (by rw[h.1];omega)]at a
  rw[AOE (by omega)]at b;rw[h.1]at a;exact k.2.2 _ cs y a b
theorem Flat.one{w:World}{r:Ty}(hf:r.flat=true){css:List (List Value)}{rows:List r.D}(h:Flat w r css rows):∀v∈css.flatten,v.oneCell' =true:=by
 intro v hv;obtain⟨c,hc,hv⟩:=AST.1 hv;obtain⟨i,hi,rfl⟩:=AQo hc;have h1:=h.1;exact mS (kL (S:=fun _=>False) (d:=0) hf (h.2.2 i _ _ (AKS hi) (AKS (by omega)))) v hv
theorem Flat.at{w:World}{S:Nat->Prop}{d:Nat}{r:Ty}(hf:r.flat=true){css:List (List Value)}{rows:List r.D}(h:Flat w r css rows):FX w S d r css rows (List.replicate rows.length []):=FX.flat hf h.1 h.2.1 h.2.2
theorem AIr{w:World}{S:Nat->Prop}{r:Ty}(hf:r.flat=true){css:List (List Value)}{rows:List r.D}{Fs:List ABS}{d:Nat}(h:FX w S d r css rows Fs):Flat w r css rows:=by
 refine⟨h.1,h.2.2.1,fun i cs y a b=> ?_⟩;have hi:=(ALN.1 b).1;have h2:=h.2.1;exact fO hf (XZ (h.2.2.2 i cs y (Fs[i]'(by omega)) a b (AKS _)))
theorem Flat.uF{w:World}{r:Ty}{css:List (List Value)}{rows:List r.D}(h:Flat w r css rows)(n:Nat)(hn:n<=rows.length):css.flatten.take (n*r.n)=(css.take n).flatten:=by
 have h1:((css.take n).flatten).length=n*r.n:=by
  rw[IB (n:=r.n) (fun c hc=>h.2.1 c (AXd hc)),AWw,h.1,Nat.min_eq_left hn]
 grind[List.take_append_drop,List.flatten_append,List.take_of_length_le]
theorem Flat.tK{w:World}{r:Ty}{css:List (List Value)}{rows:List r.D}(h:Flat w r css rows)(n:Nat)(hn:n<=rows.length):css.flatten.drop (n*r.n)=(css.drop n).flatten:=by
 have h1:((css.take n).flatten).length=n*r.n:=by
  rw[IB (n:=r.n) (fun c hc=>h.2.1 c (AXd hc)),AWw,h.1,Nat.min_eq_left hn]
 grind[List.take_append_drop,List.flatten_append,List.drop_eq_nil_of_le]
theorem jx{w:World}{S:Nat->Prop}{d b o cap:Nat}{r:Ty}{rows:List r.D}{css:List (List Value)}{Fs:List ABS}{arr:Array Value}{ty:TypeId}{fr:ADR}(h:FX w S d r css rows Fs)(hb:w.heap[b]? =some (.cells arr ty fr))
  (hc:Bk w b o css.flatten) (AAb:rows.length<=cap) (Pu:o+cap*r.n<=arr.size) (hu:xj fr (arr.size+mk r)):Ow w S (d+1) (.sl r) [.slice (some ⟨b,o,none⟩) rows.length cap] rows (b::Fs.flatten):=by
 simp only[Ow];refine⟨_,cap,rfl,AAb,.inr ⟨b,o,arr,ty,fr,Fs,rfl,hb,Pu,hu,rfl,h.2.1,fun j q G hq hG=> ?_⟩⟩;have hj:=(ALN.1 hq).1;have h1:=h.1;have rz:j<css.length:=by omega
 refine⟨css[j],h.2.2.1 _ (ANM _),fun x u hx=> ?_,h.2.2.2 j _ _ _ (AKS rz) hq hG⟩;have hxl:=(ALN.1 hx).1;rw[h.2.2.1 _ (ANM _)]at hxl;have:=ZL (n:=r.n) (css:=css) (ex:=[]) (i:=j) h.2.2.1 (AKS rz) hxl;rw[ANm,hx]at this;have:=hc _ _ this;grind
theorem my{w:World}{b o:Nat}{A V B:List Value}{arr:Array Value}{ty:TypeId}{fr:ADR}(hb:w.heap[b]? =some (.cells arr ty fr))(hs:o+(A.length+V.length)+B.length<=arr.size)(hA:Bk w b o A):
  ∃Kg,((w.setCells b (o+(A.length+V.length)) B).setCells b (o+A.length) V).heap[b]? =some (.cells Kg ty fr)/\Kg.size=arr.size/\Bk ((w.setCells b (o+(A.length+V.length)) B).setCells b (o+A.length) V) b o (A++V++B):=by
 have h1:=F4 B (o+(A.length+V.length)) w b arr ty fr hb;have z1:(FV arr (o+(A.length+V.length)) B).size=arr.size:=Fz ..;have h2:=F4 V (o+A.length) _ b _ ty fr h1;grind[Oz,Fz,Bk.append,UX,List.length_append]
theorem jU{w:World}{b o:Nat}{A V B:List Value}{arr:Array Value}{ty:TypeId}{fr:ADR}(hb:w.heap[b]? =some (.cells arr ty fr))(hs:o+(A.length+V.length)+B.length<=arr.size)(hA:Bk w b o A):
  ∃Kg,((w.setCells b (o+A.length) V).setCells b (o+(A.length+V.length)) B).heap[b]? =some (.cells Kg ty fr)/\Kg.size=arr.size/\Bk ((w.setCells b (o+A.length) V).setCells b (o+(A.length+V.length)) B) b o (A++V++B):=by
 have h1:=F4 V (o+A.length) w b arr ty fr hb;have z1:(FV arr (o+A.length) V).size=arr.size:=Fz ..;have h2:=F4 B (o+(A.length+V.length)) _ b _ ty fr h1;grind[Oz,Fz,Bk.append,UX,List.length_append]
@[reducible] def tJ (r:Ty):Bh:=⟨[(0,.c (.ref 0)),(1,.c (.v (.int .i64))),(2,.c (.sl false r))],[.sl 1 r]⟩
@[reducible] def AAM (r:Ty):Bh:=⟨[(0,.c (.ref 1))],[.gone,.sl 1 r]⟩
theorem ABh{P:Program}{f:Nat}{args:Array Value}{E:Env}{w:World}{r:Ty}{d:Nat}(hd:1<=d){F:ABS}(hS:Sep E w F){l:List r.D}{Q:Ending->World->Prop}
  (h:Calls P f args w Q) (hq:∀e w',Q e w'-> ∃v F',e= .returned v/\isSlice v=true/\Ow w' E.S d (.sl r) [v] l F'/\F'.Nodup/\(∀c∈F',¬E.T c/\c<w'.heap.size)/\(∀c,E.T c->w'.heap[c]? =w.heap[c]?)/\Grown w w'):
  Calls P f args w fun e w' => ∃x E',e= .returned x/\d_ E w E' w'/\DP E' w' [.dead,.sl d r l] [.dead,.sl d r l] []/\
   Ou E' w' [.dead,.sl d r l] id [(0,.c (.ref 1))] ((),()) [x]/\ ∀i,i<1->alive [.gone,.sl d r] i=true->E'.IC i=E.IC i/\E'.ID i=E.ID i:=by
 refine h.mono fun e w' hh=> ?_
 obtain⟨v,F',rfl,hv,ho,nd,hfr,hT,hg⟩:=hq e w' hh
 let E':Env:={ E with ID:=fun n=>if n=1 then v else E.ID n }
 refine⟨v,E',rfl,⟨fun _ h=>h,fun _ h=>h,fun _ h=> .inl h,fun _ h=> .inl h,hT,hg.os,hg.tape,hg.output,hg.size⟩,⟨[[],F'],⟨rfl,fun k B F hB hF=> ?_⟩,?_⟩,?_,fun i hi ha=> ?_⟩
 ·match k with
  |0=>
   simp at hB hF;subst hB hF;rfl
  |1=>
   simp at hB hF;subst hB hF;exact⟨hd,ho⟩
  |k+2=>simp_all
 ·refine⟨by simp_all,fun c hc=>(hfr c (by simp_all)).1,fun c hc=>(hfr c (by simp_all)).2,hS.st,fun c hc=>AT4 (hS.dh c hc) hg.size⟩
 ·refine⟨⟨v,rfl,?_⟩,trivial⟩
  refine⟨hv,?_⟩
  show DQ r l []/\(∃q,HO r l []=some q)/\JA w' (E'.ID 1) []=some v
  refine⟨trivial,⟨_,rfl⟩,?_⟩;rfl
 grind
end Go.Fw
end
section
namespace Go.Fw
open Go.M Go.Proofs Go.Shelf Go.RowKit Go.Lib
theorem yu{w:World}{b:Nat}{arr:Array Value}{ty:TypeId}{fr:ADR}(h:w.heap[b]? =some (.cells arr ty fr)):w.shape? b=some (ty,arr.size):=by
 simp[World.shape?,h]
theorem AE0{w:World}{b o:Nat}{v:Value}(h:w.cell? ⟨b,o,none⟩=some v):∃arr ty fr,w.heap[b]? =some (.cells arr ty fr)/\o<arr.size:=by
 unfold World.cell? at h;grind
theorem Grown.trans'{w w' w'':World}(h:Grown w w')(k:Grown w' w''):Grown w w'':=⟨k.os.trans h.os,k.tape.trans h.tape,k.output.trans h.output,ARi h.size k.size⟩
theorem wZ{P:Program}{T:J4}{ρ:Ren}{nm:String}{fv:Func}(hT:FB P T)(L:eg P ρ nm fv){r:Ty}(Ur:T.Ng (ρ.t 24) r=true)(hf:r.flat=true)(aC:mk r=1)(hn0:0<r.n):
  Xc P (ρ.f 22) ⟨tJ r,AAM r,fun v=>(xA v.1.2.1 v.1.2.2.1 v.2.1).map fun l=>(((),()),((),l,()))⟩:=by
 refine⟨by simp[RC.ok,kinds,mJ,AP.Ly,XP.Ly,BP.Ly],XS L.f22 L.n22 (by kernel_rfl),?_⟩;intro E w v args u AYR hB hS hg;obtain⟨⟨u0,p,vs,u1⟩,rows,u2⟩:=v;obtain⟨⟨⟨⟩,⟨⟩⟩,⟨⟩,l,⟨⟩⟩:=u;simp only[ALL]at hg;obtain⟨l',jJ,hg⟩:=hg;simp only[APT,true_and,AUK]at hg;subst hg;unfold xA at jJ;split at jJ
 case isFalse=>cases jJ
 rename_i hc;obtain⟨hp0,hp1,al⟩:=hc;obtain⟨p,rfl⟩:=AYU hp0;simp only[ANJ,AKr]at jJ;have hpn:p<=rows.length:=by omega
 obtain⟨⟨a0,h0,x0⟩,⟨a1,h1,x1⟩,⟨a2,h2,x2⟩,_⟩:=hS;have Ii:args= #[a0,a1,a2]:=by
  have hl3:args.toList.length=3:=AYR;apply Array.ext'
  match hq:args.toList,hl3 with
  |[b0,b1,b2],_=>
   rw[hq]at h0 h1 h2;simp at h0 h1 h2;simp[h0,h1,h2]
 subst Ii;have e0:E.ID 0=a0:=by
  have:VR E w [Bx.sl 1 r rows] (.ref 0 []) a0:=x0;simp only[VR]at this;obtain⟨_,_,_,h⟩:=this;rw[DO]at h;exact Option.some.inj h
 have e1:a1= .int .i64 (p:Int):=by
  have:VR E w [Bx.sl 1 r rows] (.v (.int .i64) (p:Int)) a1:=x1;simp only[VR,Rd,AQ2,AUK]at this;exact this.2
 have e2:Rd w E.T (.sl r) [a2] vs:=by
  have:VR E w [Bx.sl 1 r rows] (.sl false r vs) a2:=x2;simp only[VR]at this;simpa using this
 subst e1;obtain⟨Fs,⟨hFl,hFb⟩,hSep⟩:=hB;obtain⟨F,rfl⟩:∃F,Fs=[F]:=by
  match Fs,hFl with
  |[F],_=>exact⟨F,rfl⟩
 have AGq:=hFb 0 (.sl 1 r rows) F rfl rfl;obtain⟨_,ho⟩:=AGq;rw[e0]at ho;simp only[AUk,AWf,ANm]at hSep;have ho0:=ho;obtain⟨ad,cap,css,Fs1,R1,rfl,hle,hd,hp1',hcase⟩:=pD ho;have y8:=AIr hf hd;obtain⟨e,ti,hut,U3,hs1,hby,hrow⟩:=Ki hT Ur;obtain⟨i0,z,i1,i2,i3,i4,i5,mr⟩:=XA hT U3 hrow;have he:e=ρ.t 9:=by
  have:=L.t24.symm.trans hut;simp at this;exact this.symm
 subst he;rw[hs1]at i2;have z9:∀w,(Go.sizeOf (ρ.t 9)).run P w= .ok r.n w:=fun w=>by simp[sizeOf,typeInfo,i1,i2]
 have hzl:z.cells.size=r.n:=by rw[<-AWH,i5,HB]
 have e2':=e2;simp only[Rd]at e2;obtain⟨va,vc,ah,hvle,hvr⟩:=e2;simp only[AQ2,AUK]at ah;subst ah;have fin:∀{Q:Ending->World->Prop},Calls P (ρ.f 22) #[.slice ad rows.length cap,.int .i64 (p:Int),.slice va vs.length vc] w Q->
   (∀e w',Q e w'-> ∃v F',e= .returned v/\isSlice v=true/\Ow w' E.S 1 (.sl r) [v] l' F'/\F'.Nodup/\(∀c∈F',¬E.T c/\c<w'.heap.size)/\(∀c,E.T c->w'.heap[c]? =w.heap[c]?)/\Grown w w')->_:=fun h hq=>ABh (AP7 1) hSep h hq
 have nR:∀n:Nat,(List.replicate n ([]:ABS)).flatten=[]:=fun n=>by simp
 by_cases hm0:vs.length=0
 ·
  have AbS:vs=[]:=AP0 hm0;subst AbS;have hl:rows=l':=by rw[<-jJ,ANm,List.take_append_drop]
  subst hl;refine fin (AGU (k:=r.n) L z9 ad rows.length cap p va vc w hpn hle) fun e w' h=> ?_
  obtain⟨rfl,rfl⟩:=h;exact⟨_,F,rfl,rfl,ho0,hSep.nodup,fun c hc=>⟨hSep.free c hc,hSep.lt c hc⟩,fun _ _=>rfl,⟨rfl,rfl,rfl,AP7 _⟩⟩
 have hm:0<vs.length:=by omega
 rcases hvr with hvr|⟨vb,vo,rfl,hvT,hvr⟩
 ·exact absurd hvr hm0
 obtain⟨uo,c1,c2,c3,c4⟩:=pc hvr;have ZC:Flat w r uo vs:=⟨c1,c2,fun i cs y a b=>fO hf (c4 i cs y a b)⟩;have AAS:uo.flatten.length=vs.length*r.n:=by rw[IB c2,c1]
 have AAc:css.flatten.length=rows.length*r.n:=by rw[IB hd.2.2.1,hd.1]
 have AWy:0<uo.flatten.length:=by rw[AAS];exact Nat.mul_pos hm hn0
 obtain⟨arrv,tyv,frv,hbv,hov⟩:=AE0 (c3 0 _ (AKS AWy));have AZ2:vb<w.heap.size:=by
  by_cases hh:vb<w.heap.size
  ·exact hh
  ·rw[Array.getElem?_eq_none (by omega)]at hbv;cases hbv
 have mz:ki P w r.n vs.length (.slice (some ⟨vb,vo,none⟩) vs.length vc) uo.flatten:=Qy c1 c2 (.inr ⟨vb,vo,rfl,c3⟩);have AYM:∀W:World,W.heap[vb]? =w.heap[vb]?->(Builtin.firstCells r.n vs.length (.slice (some ⟨vb,vo,none⟩) vs.length vc)).run P W= .ok uo.flatten.toArray W:=fun W hW=>by
  simp only[Builtin.firstCells];rw[<-AAS];exact Ln (c3.of_block hW)
 have AN_:=y8.one hf;have AGm:=ZC.one hf;by_cases TW:rows.length+vs.length<=cap
 ·rcases hcase with⟨h0,_⟩|⟨b,o,arr,ty,fr,rfl,hb,Pu,hu,rfl,sZ⟩
  ·omega
  have hbT: ¬E.T b:=hSep.free b (by simp);have AFm:b<w.heap.size:=hSep.lt b (by simp);have bg:vb≠b:=fun e=>hbT (e▸hvT)
  have Ad6:(rows.length+vs.length)*r.n<=cap*r.n:=AOL _ TW;have tp:(rows.length+vs.length)*r.n=rows.length*r.n+vs.length*r.n:=AUd ..;by_cases hpe:p=rows.length
  ·subst hpe
   have hl:rows++vs=l':=by rw[<-jJ,List.take_length,AUj,ANm]
   subst hl;have kI:=AEy (ρ:=ρ) L (i0:=i0) i1 b o rows.length cap ⟨vb,vo,none⟩ vs.length vc uo.flatten w hm TW (by rw[i2];exact U6 (k:=mk r) hb (by omega) hu) (by rw[i2];exact mz) AGm;refine fin kI fun e w' h=> ?_
   obtain⟨rfl,rfl⟩:=h;obtain⟨Kg,q1,q2,q3⟩:=my (B:=[]) (V:=uo.flatten) hb (by simp only[AQL];omega) sZ;rw[AAc,<-i2]at q1 q3;simp only[World.setCells,ANm]at q1 q3;have zL:=(y8.append ZC).to (w':=w.setCells b (o+rows.length*i0.size) uo.flatten) hf;refine⟨_,b::(List.replicate (rows++vs).length ([]:ABS)).flatten,rfl,rfl,?_,?_,?_,fun c hc=>Da _ _ _ _ _ (fun e=>hbT (e▸hc)),CH _ _ _ _⟩
   ·have:=jx (cap:=cap) (zL.at (S:=E.S) (d:=0) hf) q1 (by rw[AUe];exact q3) (by rw[API];exact TW) (by rw[q2];exact Pu) (by rw[q2];exact hu)
    rw[nR]at this|-;rw[API]at this;exact this
   ·simp
   ·intro c hc
    rw[nR]at hc;simp at hc;subst hc;exact⟨hbT,by rw[Dm];exact AFm⟩
  ·have K9:p<rows.length:=by omega
   have hpm:p*r.n<=rows.length*r.n:=AOL _ hpn;have APa:(p+vs.length)*r.n=p*r.n+vs.length*r.n:=AUd ..;have kI:=ACj (ρ:=ρ) L (i0:=i0) i1 (by rw[i2];exact hn0) b o rows.length cap p ⟨vb,vo,none⟩ vs.length vc css.flatten uo.flatten w K9 hm TW al bg (by rw[i2];exact AAc) (by rw[i2];exact AAS) sZ
    (by rw[i2];exact U6 (k:=mk r) hb (by omega) hu) (by rw[i2];exact AYM) AN_ AGm tyv ty arrv.size arr.size (yu hbv) (yu hb) (by omega) (by
     have:=hu arr.size (by omega);obtain⟨lo,hi⟩:=fr;simp only[World.frozen?,hb];simp at this|-;omega)
   refine fin kI fun e w' h=> ?_
   obtain⟨rfl,W,tb,hWg,rfl⟩:=h;have hA:(css.flatten.take (p*r.n)).length=p*r.n:=by rw[AWw];omega
   have hB:(css.flatten.drop (p*r.n)).length=rows.length*r.n-p*r.n:=by rw[AXl,AAc]
   have hbW:W.heap[b]? =some (.cells arr ty fr):=by rw[tb];exact hb
   have hcA:Bk W b o (css.flatten.take (p*r.n)):=Bk.heap (fun j v hj=>by
    rw[AW0]at hj;split at hj
    ·exact sZ j v hj
    ·cases hj) tb
   obtain⟨Kg,q1,q2,q3⟩:=my (B:=css.flatten.drop (p*r.n)) (V:=uo.flatten) hbW (by omega) hcA;rw[hA,AAS,<-APa,<-i2]at q1 q3
   generalize sb:(W.setCells b (o+(p+vs.length)*i0.size) (css.flatten.drop (p*i0.size))).setCells b (o+p*i0.size) uo.flatten=w' at q1 q3
   have zL:=(((y8.take p).append ZC).append (y8.drop p)).to (w':=w') hf;rw[jJ]at zL;have hll:l'.length=rows.length+vs.length:=by rw[<-jJ];simp;omega
   refine⟨_,b::(List.replicate l'.length ([]:ABS)).flatten,rfl,rfl,?_,?_,?_,fun c hc=> ?_,?_⟩
   ·have:=jx (cap:=cap) (zL.at (S:=E.S) (d:=0) hf) q1 (by
     rw[AUe,AUe,<-y8.uF p hpn,<-y8.tK p hpn,<-i2];exact q3) (by rw[hll];exact TW) (by rw[q2];exact Pu) (by rw[q2];exact hu)
    rw[nR]at this|-;rw[hll]at this;exact this
   ·simp
   ·intro c hc
    rw[nR]at hc;simp at hc;subst hc;refine⟨hbT,?_⟩;rw[<-sb,Dm,Dm,tb];exact AFm
   ·have hcb:c≠b:=fun e=>hbT (e▸hc)
    rw[<-sb,Da _ _ _ _ _ hcb,Da _ _ _ _ _ hcb,tb]
   ·rw[<-sb]
    exact Grown.trans' hWg (Grown.trans' (CH _ _ _ _) (CH _ _ _ _))
 ·have hgc:=grownCap_ge w (rows.length+vs.length) cap (ρ.t 9)
  by_cases hpe:p=rows.length
  ·subst hpe
   have hl:rows++vs=l':=by rw[<-jJ,List.take_length,AUj,ANm]
   subst hl;have hold:rows.length=0\/ ∃b o,ad=some ⟨b,o,none⟩/\Bk w b o css.flatten:=by
    rcases hcase with⟨h0,_⟩|⟨b,of,arr,ty0,fr,rfl,hb,Pu,hunf,rfl,hc⟩
    ·exact .inl (by omega)
    ·exact .inr ⟨b,of,rfl,hc⟩
   have kI:=AEq (ρ:=ρ) L (i0:=i0) (z:=z) i1 i4 (by omega) ad rows.length cap ⟨vb,vo,none⟩ vs.length vc css.flatten uo.flatten w hm hle (by omega) al (by rw[i2];exact gP hd.1 hd.2.2.1 hold) (by rw[i2];exact mz);refine fin kI fun e w' h=> ?_
   obtain⟨rfl,rfl⟩:=h
   generalize grownCap w (rows.length+vs.length) cap (ρ.t 9)=gc at hgc|-
   generalize df:css.flatten.toArray++uo.flatten.toArray++Builtin.zeroCells z.cells (gc-(rows.length+vs.length))=arr
   have hal:arr.toList=(css++uo).flatten++(Builtin.zeroCells z.cells (gc-(rows.length+vs.length))).toList:=by rw[<-df];simp
   have AcA:arr.size=gc*r.n:=by
    rw[<-df];simp only[AYW,AYX,Z9,hzl,AAS,AAc,<-AUd];congr 1;omega
   have new:(w.drew.alloc (.cells arr (ρ.t 9))).heap[w.heap.size]? =some (.cells arr (ρ.t 9)):=by
    show(w.heap.push (.cells arr (ρ.t 9)))[w.heap.size]? =_
    simp
   have zL:=(y8.append ZC).to (w':=w.drew.alloc (.cells arr (ρ.t 9))) hf;have hra:=zL.at (S:=E.S) (d:=0) hf;refine⟨_,w.heap.size::(List.replicate (rows++vs).length ([]:ABS)).flatten,rfl,rfl,?_,?_,?_,fun c hc=>I4 (hSep.dh c hc),⟨rfl,rfl,rfl,by show _<=(w.heap.push _).size;simp⟩⟩
   ·have:=dr (cap:=gc) new hal hra.1 (by rw[API];exact hgc) (by omega) (W9 _) hra.2.1 hra.2.2.2
    rw[nR]at this|-;rw[API]at this;exact this
   ·simp
   ·intro c hc
    rw[nR]at hc;simp at hc;subst hc;exact⟨fun zE=>Nat.lt_irrefl _ (hSep.dh _ zE),by show _<(w.heap.push _).size;simp⟩
  ·have K9:p<rows.length:=by omega
   have hpm:p*r.n<=rows.length*r.n:=AOL _ hpn;have APa:(p+vs.length)*r.n=p*r.n+vs.length*r.n:=AUd ..;have tp:(rows.length+vs.length)*r.n=rows.length*r.n+vs.length*r.n:=AUd ..;rcases hcase with⟨h0,_⟩|⟨b,o,arr,ty,fr,rfl,hb,Pu,hu,rfl,sZ⟩
   ·omega
   have AFm:b<w.heap.size:=hSep.lt b (by simp);have kI:=AJu (ρ:=ρ) L (i0:=i0) (z:=z) i1 i4 (by rw[i2];exact hzl) (by rw[i2];exact hn0) (by omega) b o rows.length cap p ⟨vb,vo,none⟩ vs.length vc css.flatten uo.flatten w K9 hm hle (by omega) al (by rw[i2];exact AAc) (by rw[i2];exact AAS) AFm sZ AZ2 (by rw[i2];exact AYM) AN_ AGm;refine fin kI fun e w' h=> ?_
   obtain⟨rfl,W,tb,hWo,hWt,hWu,rfl⟩:=h
   generalize grownCap w (rows.length+vs.length) cap (ρ.t 9)=gc at hgc tb|-
   have hA:(css.flatten.take (p*r.n)).length=p*r.n:=by rw[AWw];omega
   have hB:(css.flatten.drop (p*r.n)).length=rows.length*r.n-p*r.n:=by rw[AXl,AAc]
   rw[i2]at tb
   generalize ADZ:(css.flatten.take (p*r.n)).toArray++Builtin.zeroCells z.cells (rows.length+vs.length-p)++Builtin.zeroCells z.cells (gc-(rows.length+vs.length))=ROW at tb
   have hRs:ROW.size=gc*r.n:=by
    rw[<-ADZ];simp only[AYW,AYX,Z9,hzl,hA,<-AUd];congr 1;omega
   have hgm:(rows.length+vs.length)*r.n<=gc*r.n:=AOL _ hgc;have hbW:W.heap[w.heap.size]? =some (.cells ROW (ρ.t 9)):=by rw[tb];simp
   have hcA:Bk W w.heap.size 0 (css.flatten.take (p*r.n)):=fun j v hj=>by
    have rz:=(ALN.1 hj).1;rw[K5 hbW,AUX,<-Array.getElem?_toList,<-ADZ];simp only[Array.toList_append,ANs];rw[ANz rz];exact hj
   obtain⟨Kg,q1,q2,q3⟩:=jU (B:=css.flatten.drop (p*r.n)) (V:=uo.flatten) hbW (by omega) hcA;rw[hA,AAS,<-APa,<-i2,AUX,AUX]at q1 q3
   generalize sb:(W.setCells w.heap.size (p*i0.size) uo.flatten).setCells w.heap.size ((p+vs.length)*i0.size) (css.flatten.drop (p*i0.size))=w' at q1 q3
   have zL:=(((y8.take p).append ZC).append (y8.drop p)).to (w':=w') hf;rw[jJ]at zL;have hll:l'.length=rows.length+vs.length:=by rw[<-jJ];simp;omega
   refine⟨_,w.heap.size::(List.replicate l'.length ([]:ABS)).flatten,rfl,rfl,?_,?_,?_,fun c hc=> ?_,?_⟩
   ·have:=jx (cap:=gc) (zL.at (S:=E.S) (d:=0) hf) q1 (by
     rw[AUe,AUe,<-y8.uF p hpn,<-y8.tK p hpn,<-i2];exact q3) (by rw[hll];exact hgc) (by rw[q2];omega) (W9 _)
    rw[nR]at this|-;rw[hll]at this;exact this
   ·simp
   ·intro c hc
    rw[nR]at hc;simp at hc;subst hc;refine⟨fun zE=>Nat.lt_irrefl _ (hSep.dh _ zE),?_⟩;rw[<-sb,Dm,Dm,tb];simp
   ·have fD:=hSep.dh c hc
    rw[<-sb,Da _ _ _ _ _ (by omega),Da _ _ _ _ _ (by omega),tb];exact I4 fD
   ·rw[<-sb]
    refine Grown.trans' (w':=W) ⟨hWo,hWt,hWu,by rw[tb];simp⟩ (Grown.trans' (CH _ _ _ _) (CH _ _ _ _))
end Go.Fw
end
section
namespace Go.Fw
open Go.M Go.Proofs Go.Shelf Go.RowKit Go.Lib
structure rj (P:Program) (ρ:Ren) (nm:String):Prop where
 mixed:P.follows .mixedOrders=true
 f24:P.funcs[ρ.f 24]? =some { Body2.n24 ρ with name:=nm }
 n24:(nm== "runtime.NumGoroutine")=false
 t0:P.underlying (ρ.t 0)=some (TypeDesc.tuple #[])
 a0:∀w,(isAgg (ρ.t 0)).run P w= .ok false w
 z0:∀w,(Go.sizeOf (ρ.t 0)).run P w= .ok 1 w
 v0:∀w,(zeroValue (ρ.t 0)).run P w= .ok (Value.tuple #[]) w
 t3:P.underlying (ρ.t 3)=some (TypeDesc.int IntKind.i64)
 a3:∀w,(isAgg (ρ.t 3)).run P w= .ok false w
 z3:∀w,(Go.sizeOf (ρ.t 3)).run P w= .ok 1 w
 v3:∀w,(zeroValue (ρ.t 3)).run P w= .ok (Value.int IntKind.i64 0) w
 t4:P.underlying (ρ.t 4)=some (TypeDesc.bool)
 a4:∀w,(isAgg (ρ.t 4)).run P w= .ok false w
 z4:∀w,(Go.sizeOf (ρ.t 4)).run P w= .ok 1 w
 v4:∀w,(zeroValue (ρ.t 4)).run P w= .ok (Value.bool false) w
 t24:P.underlying (ρ.t 24)=some (TypeDesc.slice (ρ.t 9))
 a24:∀w,(isAgg (ρ.t 24)).run P w= .ok false w
 z24:∀w,(Go.sizeOf (ρ.t 24)).run P w= .ok 1 w
 v24:∀w,(zeroValue (ρ.t 24)).run P w= .ok (Value.slice none 0 0) w
section
variable{P:Program} {ρ:Ren} {nm:String}
set_option maxHeartbeats 4000000 in
set_option maxRecDepth 1000000 in
theorem AGB(L:rj P ρ nm){k:Nat}(z9:∀w,(Go.sizeOf (ρ.t 9)).run P w= .ok k w)(ad:Option Addr)(n c i:Nat)(w:World)(hi:i<=n)(hnc:n<=c):
  Calls P (ρ.f 24) #[.slice ad n c,.int .i64 i,.int .i64 i] w fun e w' =>e= .returned (.slice ad n c)/\w' =w:=by
 have mixed:=L.mixed;have t0:=L.t0;have a0:=L.a0;have z0:=L.z0;have v0:=L.v0;have t3:=L.t3;have a3:=L.a3;have z3:=L.z3;have v3:=L.v3;have t4:=L.t4;have a4:=L.a4;have z4:=L.z4;have v4:=L.v4;have t24:=L.t24;have a24:=L.a24;have z24:=L.z24;have v24:=L.v24;have u0:=run_underlying L.t0;have u3:=run_underlying L.t3;have u4:=run_underlying L.t4;have YV:=run_underlying L.t24
 go_enter L.f24,Body2.n24_ntmps ρ
 cases ad with
 |none=>
  go_wp2
  all_goals (go_ret;exact⟨rfl,rfl⟩)
 |some a=>
  obtain⟨ab,ao,asp⟩:=a
  go_wp2
  all_goals (go_ret;exact⟨rfl,rfl⟩)
theorem ye{w:World}{t elem ty:TypeId}{i0:TypeInfo}{z:Value}{b o n cap:Nat}{Z:List Value}(hu:P.underlying t=some (.slice elem))(hi:P.info? elem=some i0)(hz:i0.zero=some z)(hn:0<n)(hZ:(Builtin.zeroCells z.cells n).toList=Z)
  (p7:w.there b o Z.length) (h1:∀v∈Z,v.oneCell' =true):(Builtin.clear_ #[t] ty #[.slice (some ⟨b,o,none⟩) n cap]).run P w= .ok (.tuple #[]) (w.setCells b o Z):=by
 have gO:=run_storeCells_cells (P:=P) b o Z 0 w (by simpa using fun j hj=>(p7 j hj).1) (by simpa using fun j hj=>(p7 j hj).2) h1;rw[AUr]at gO;obtain⟨n,rfl⟩:∃m,n=m+1:=⟨n-1,by omega⟩;simp[Builtin.clear_,run_underlying hu,zeroValue,typeInfo,hi,hz,hZ,gO]
set_option maxHeartbeats 4000000 in
set_option maxRecDepth 1000000 in
theorem AEV(L:rj P ρ nm){i0:TypeInfo}{z:Value}(wv:P.info? (ρ.t 9)=some i0)(hz:i0.zero=some z)(b off n c i j:Nat)(cs Z:List Value)(w:World)(hij:i<j)(hj:j<=n)(hnc:n<=c)
  (fD:cs.length=n*i0.size) (yP:Bk w b off cs) (p7:w.there b off (n*i0.size)) (h1c:∀v∈cs,v.oneCell' =true) (hZ:(Builtin.zeroCells z.cells (j-i)).toList=Z) (hZl:Z.length=(j-i)*i0.size) (h1z:∀v∈Z,v.oneCell' =true):
  Calls P (ρ.f 24) #[.slice (some ⟨b,off,none⟩) n c,.int .i64 i,.int .i64 j] w fun e w' =>
   e= .returned (.slice (some ⟨b,off,none⟩) (i+(n-j)) c)/\ ∃W:World,W.heap=w.heap/\Grown w W/\w' =(W.setCells b (off+i*i0.size) (cs.drop (j*i0.size))).setCells b (off+(i+(n-j))*i0.size) Z:=by
 have mixed:=L.mixed;have t0:=L.t0;have a0:=L.a0;have z0:=L.z0;have v0:=L.v0;have t3:=L.t3;have a3:=L.a3;have z3:=L.z3;have v3:=L.v3;have t4:=L.t4;have a4:=L.a4;have z4:=L.z4;have v4:=L.v4;have t24:=L.t24;have a24:=L.a24;have z24:=L.z24;have v24:=L.v24;have u0:=run_underlying L.t0;have u3:=run_underlying L.t3;have u4:=run_underlying L.t4;have YV:=run_underlying L.t24;have z9:∀w,(Go.sizeOf (ρ.t 9)).run P w= .ok i0.size w:=fun w=>by simp[sizeOf,typeInfo,wv]
 obtain⟨k,hk⟩:∃k,i0.size=k:=⟨_,rfl⟩;rw[hk]at fD p7 hZl z9|-;have e1:(n-j)*k=n*k-j*k:=AWI ..;have e2:(j-i)*k=j*k-i*k:=AWI ..;have e3:j*k<=n*k:=AOL _ hj;have e4:i*k<=j*k:=AOL _ (by omega);have e5:(i+(n-j))*k=i*k+(n-j)*k:=AUd ..;obtain⟨news,mz⟩:∃news,news=cs.drop (j*k):=⟨_,rfl⟩;have hlen:news.length=(n-j)*k:=by rw[mz,AXl,fD];omega
 rw[<-mz];obtain⟨A,hA,ASX⟩:∃A:Addr,(if c=j then(some ⟨b,off,none⟩:Option Addr)else some ⟨b,off+j*k,none⟩)=some A/\Hid (∀t u,news[t]? =some u->w.drew.cell? (A.add t)=some u):=by
  by_cases h:c=j
  ·refine⟨⟨b,off,none⟩,by simp[h],fun t u hu=> ?_⟩
   have h0:news.length=0:=by rw[hlen,show n-j=0 by omega,Nat.zero_mul]
   rw[AYT.1 h0]at hu;simp at hu
  ·refine⟨⟨b,off+j*k,none⟩,by simp[h],fun t u hu=> ?_⟩
   rw[mz,AWz]at hu;rw[Addr.add_eq,AUh];exact yP _ u hu
 have s1:Hid (news.length=(n-j)*k):=hlen;have s2:Hid (∀u∈news,u.oneCell' =true):=fun u hu=>h1c u (by rw[mz]at hu;exact AV3 hu)
 have s3:Hid (∀t,t<news.length->(w.drew.cell? ⟨b,off+i*k+t,none⟩).isSome=true/\w.drew.frozen? ⟨b,off+i*k+t,none⟩=false):=by
  intro t ht;rw[hlen]at ht;rw[AUh];exact p7 _ (by omega)
 obtain⟨W1,hW1⟩:∃W1,W1=w.drew.setCells b (off+i*k) news:=⟨_,rfl⟩;have Afm:∀ty,(Builtin.clear_ #[ρ.t 24] ty #[.slice (some ⟨b,off+(i+(n-j))*k,none⟩) (n-(i+(n-j))) (c-(i+(n-j)))]).run P W1= .ok (.tuple #[]) (W1.setCells b (off+(i+(n-j))*k) Z):=fun ty=>by
  rw[show n-(i+(n-j))=j-i by omega];refine ye L.t24 wv hz (by omega) hZ (fun t ht=> ?_) h1z;rw[hZl]at ht;have h0:=p7 ((i+(n-j))*k+t) (by omega);rw[<-AUh]at h0;rw[hW1];refine⟨isSome_setCells b _ _ _ (fun q hq=> ?_) _ h0.1,by rw[World.frozen?_setCells];exact h0.2⟩;rw[hlen]at hq;have:=(p7 (i*k+q) (by omega)).1;rw[<-AUh]at this;exact this
 have hW:Hid (W1=w.drew.setCells b (off+i*k) news):=hW1;have hic:i<=c:=by omega
 have hjc:j<=c:=by omega
 have hjn:(i:Int)<=(j:Int):=by omega
 have fin:∃W:World,W.heap=w.heap/\Grown w W/\W1.setCells b (off+(i+(n-j))*k) Z=(W.setCells b (off+i*k) news).setCells b (off+(i+(n-j))*k) Z:=⟨w.drew,rfl,⟨rfl,rfl,rfl,AP7 _⟩,by rw[hW1]⟩;clear hW1 mz hlen e1 e2 e3 e4 e5 p7 yP fD hZl
 go_enter L.f24,Body2.n24_ntmps ρ
 go_wp2_with fail
 go_region_law_o (refine step_append_room rfl (.tmp 22) (.tmp 25) (ρ.t 24) rfl (ρ.t 9) i0 k t24 wv hk b off i c (by simp[Act.eval,Act.put]) A (n-j) (c-j) news (by simp[Act.eval,Act.put]) s1.out ASX.out s2.out (by omega) s3.out ?_;rw[<-hW.out])
 go_wp2
 go_ret
 exact⟨rfl,fin⟩
end
end Go.Fw
end
section
namespace Go.Fw
open Go.M Go.Proofs Go.Shelf Go.RowKit Go.Lib
theorem FX.take{w:World}{S:Nat->Prop}{d:Nat}{r:Ty}{css:List (List Value)}{rows:List r.D}{Fs:List ABS}(h:FX w S d r css rows Fs)(n:Nat):FX w S d r (css.take n) (rows.take n) (Fs.take n):=by
 refine⟨by simp[h.1],by simp[h.2.1],fun c hc=>h.2.2.1 c (AXd hc),fun i cs y G a b c=> ?_⟩;rw[AW0]at a b c;split at a
 ·rename_i hi
  rw[AKJ hi]at b c;exact h.2.2.2 i cs y G a b c
 simp_all
theorem FX.drop{w:World}{S:Nat->Prop}{d:Nat}{r:Ty}{css:List (List Value)}{rows:List r.D}{Fs:List ABS}(h:FX w S d r css rows Fs)(n:Nat):FX w S d r (css.drop n) (rows.drop n) (Fs.drop n):=by
 refine⟨by simp[h.1],by simp[h.2.1],fun c hc=>h.2.2.1 c (AV3 hc),fun i cs y G a b c=> ?_⟩;rw[AWz]at a b c;exact h.2.2.2 _ cs y G a b c
theorem ADO{r:Ty}{css:List (List Value)}(hl:∀c∈css,c.length=r.n)(n:Nat)(hn:n<=css.length):css.flatten.take (n*r.n)=(css.take n).flatten:=by
 have h1:((css.take n).flatten).length=n*r.n:=by
  grind[IB,List.mem_of_mem_take,List.length_take,Nat.min_eq_left]
 grind[List.take_append_drop,List.flatten_append,List.take_of_length_le]
theorem ADP{r:Ty}{css:List (List Value)}(hl:∀c∈css,c.length=r.n)(n:Nat)(hn:n<=css.length):css.flatten.drop (n*r.n)=(css.drop n).flatten:=by
 have h1:((css.take n).flatten).length=n*r.n:=by
  grind[IB,List.mem_of_mem_take,List.length_take,Nat.min_eq_left]
 grind[List.take_append_drop,List.flatten_append,List.drop_eq_nil_of_le]
theorem ef:∀{A B:List ABS},A.Sublist B->A.flatten.Sublist B.flatten
 |_,_,.slnil=> .slnil
 |_,_,.cons b h=>(ef h).trans (List.sublist_append_right _ _)
 |_,_,.cons_cons b h=>(List.Sublist.refl b).append (ef h)
theorem Vl{Fs:List ABS}{p q:Nat}(hpq:p<=q):((Fs.take p++Fs.drop q).flatten).Sublist Fs.flatten:=by
 grind[List.drop_drop,List.drop_sublist,List.take_append_drop,ef]
@[reducible] def uO (d:Nat) (r:Ty):Bh:=⟨[(0,.c (.ref 0)),(1,.c (.v (.int .i64))),(2,.c (.v (.int .i64)))],[.sl d r]⟩
@[reducible] def zt (d:Nat) (r:Ty):Bh:=⟨[(0,.c (.ref 1))],[.gone,.sl d r]⟩
theorem vS{P:Program}{T:J4}{ρ:Ren}{nm:String}(hT:FB P T)(L:rj P ρ nm){r:Ty}(Ur:T.Ng (ρ.t 24) r=true)(hn0:0<r.n)(m:Nat):
  Xc P (ρ.f 24) ⟨uO (m+1) r,zt (m+1) r,fun v=>(AEx v.1.2.1 v.1.2.2.1 v.2.1).map fun l=>(((),()),((),l,()))⟩:=by
 refine⟨by rfl,XS L.f24 L.n24 (by kernel_rfl),?_⟩;intro E w v args u AYR hB hS hg;obtain⟨⟨u0,p,q,u1⟩,rows,u2⟩:=v;obtain⟨⟨⟨⟩,⟨⟩⟩,⟨⟩,l,⟨⟩⟩:=u;simp only[ALL]at hg;obtain⟨l',jJ,hg⟩:=hg;simp only[APT,true_and,AUK]at hg;subst hg;unfold AEx at jJ;split at jJ
 case isFalse=>cases jJ
 rename_i hc;obtain⟨hp0,hpq,hqn⟩:=hc;have hq0:(0:Int)<=q:=Int.le_trans hp0 hpq;obtain⟨p,rfl⟩:=AYU hp0;obtain⟨q,rfl⟩:=AYU hq0;simp only[ANJ,AKr]at jJ;have AP9:p<=q:=by omega
 have ARI:q<=rows.length:=by omega
 obtain⟨⟨a0,h0,x0⟩,⟨a1,h1,x1⟩,⟨a2,h2,x2⟩,_⟩:=hS;have Ii:args= #[a0,a1,a2]:=by
  grind
 subst Ii;have e0:E.ID 0=a0:=by
  have:VR E w [Bx.sl (m+1) r rows] (.ref 0 []) a0:=x0;grind[VR,DO,Option.some.inj]
 have e1:a1= .int .i64 (p:Int):=by
  have:VR E w [Bx.sl (m+1) r rows] (.v (.int .i64) (p:Int)) a1:=x1;simp only[VR,Rd,AQ2,AUK]at this;simp_all
 have e2:a2= .int .i64 (q:Int):=by
  have:VR E w [Bx.sl (m+1) r rows] (.v (.int .i64) (q:Int)) a2:=x2;simp only[VR,Rd,AQ2,AUK]at this;simp_all
 subst e1 e2;obtain⟨Fs,⟨hFl,hFb⟩,hSep⟩:=hB;obtain⟨F,rfl⟩:∃F,Fs=[F]:=by
  match Fs,hFl with
  |[F],_=>simp_all
 have AGq:=hFb 0 (.sl (m+1) r rows) F rfl rfl;obtain⟨_,ho⟩:=AGq;rw[e0]at ho;simp only[AUk,AWf,ANm]at hSep;have ho0:=ho;obtain⟨ad,cap,css,Fs1,R1,rfl,hle,hd,hp1',hcase⟩:=pD ho;obtain⟨e,ti,hut,U3,hs1,hby,hrow⟩:=Ki hT Ur;obtain⟨i0,z,i1,i2,i3,i4,i5,mr⟩:=XA hT U3 hrow;have he:e=ρ.t 9:=by
  have:=L.t24.symm.trans hut;simp_all
 subst he;rw[hs1]at i2;have z9:∀w,(Go.sizeOf (ρ.t 9)).run P w= .ok r.n w:=fun w=>by simp[sizeOf,typeInfo,i1,i2]
 have hzl:z.cells.size=r.n:=by rw[<-AWH,i5,HB]
 have fin:∀{Q:Ending->World->Prop},Calls P (ρ.f 24) #[.slice ad rows.length cap,.int .i64 (p:Int),.int .i64 (q:Int)] w Q->
   (∀e w',Q e w'-> ∃v F',e= .returned v/\isSlice v=true/\Ow w' E.S (m+1) (.sl r) [v] l' F'/\F'.Nodup/\(∀c∈F',¬E.T c/\c<w'.heap.size)/\(∀c,E.T c->w'.heap[c]? =w.heap[c]?)/\Grown w w')->_:=fun h hq=>ABh (by omega) hSep h hq
 by_cases hpe:p=q
 ·subst hpe
  have hl:rows=l':=by simp_all
  subst hl;refine fin (AGB (k:=r.n) L z9 ad rows.length cap p w ARI hle) fun e w' h=> ?_
  obtain⟨rfl,rfl⟩:=h;exact⟨_,F,rfl,rfl,ho0,hSep.nodup,fun c hc=>⟨hSep.free c hc,hSep.lt c hc⟩,fun _ _=>rfl,⟨rfl,rfl,rfl,AP7 _⟩⟩
 have K9:p<q:=by omega
 rcases hcase with⟨h0,_⟩|⟨b,o,arr,ty,fr,rfl,hb,Pu,hu,rfl,sZ⟩
 ·omega
 have hbT: ¬E.T b:=hSep.free b (by simp);have AFm:b<w.heap.size:=hSep.lt b (by simp);have r6:=AW_.1 hSep.nodup;have AAc:css.flatten.length=rows.length*r.n:=by rw[IB hd.2.2.1,hd.1]
 have g1:(rows.length-q)*r.n=rows.length*r.n-q*r.n:=AWI ..;have g2:(q-p)*r.n=q*r.n-p*r.n:=AWI ..;have g3:q*r.n<=rows.length*r.n:=AOL _ ARI;have g4:p*r.n<=q*r.n:=AOL _ AP9;have g5:(p+(rows.length-q))*r.n=p*r.n+(rows.length-q)*r.n:=AUd ..;have g6:rows.length*r.n<=cap*r.n:=AOL _ hle;have hzr:Ey r≠[]:=fun h=>by simp_all
 have hZ:(Builtin.zeroCells z.cells (q-p)).toList=(List.replicate (q-p) (Ey r)).flatten:=by
  grind[Builtin.zeroCells,Wc,Ey,HB]
 have hZl:((List.replicate (q-p) (Ey r)).flatten).length=(q-p)*r.n:=by rw[HU,HB]
 have hZ1:∀v∈(List.replicate (q-p) (Ey r)).flatten,v.oneCell' =true:=fun v hv=>by
  obtain⟨c,hc1,hc2⟩:=AST.1 hv;rw[AUf hc1]at hc2;exact mS (w:=w) (S:=E.S) (d:=0) (fg mr) v hc2
 have kI:=AEV (ρ:=ρ) L (i0:=i0) (z:=z) i1 i4 b o rows.length cap p q css.flatten _ w K9 ARI hle (by simp_all) sZ (by grind[U6,mk]) hd.one hZ (by simp_all) hZ1;refine fin kI fun e w' h=> ?_
 obtain⟨rfl,W,tb,hWg,rfl⟩:=h;rw[i2];have hA:(css.flatten.take (p*r.n)).length=p*r.n:=by grind
 have hB:(css.flatten.drop (q*r.n)).length=(rows.length-q)*r.n:=by simp_all
 have hbW:W.heap[b]? =some (.cells arr ty fr):=by simp_all
 have hcA:Bk W b o (css.flatten.take (p*r.n)):=Bk.heap (fun j v hj=>by
  rw[AW0]at hj;split at hj
  ·exact sZ j v hj
  simp_all) tb
 obtain⟨Kg,q1,q2,q3⟩:=jU (B:=(List.replicate (q-p) (Ey r)).flatten) (V:=css.flatten.drop (q*r.n)) hbW (by omega) hcA;rw[hA,hB,<-g5]at q1 q3
 generalize sb:(W.setCells b (o+p*r.n) (css.flatten.drop (q*r.n))).setCells b (o+(p+(rows.length-q))*r.n) ((List.replicate (q-p) (Ey r)).flatten)=w' at q1 q3
 have fZ:∀c,c≠b->w'.heap[c]? =w.heap[c]?:=fun c hc=>by grind[Da]
 have hcT:∀c,E.T c->c≠b:=fun c hc e=>hbT (e▸hc)
 have hra:=((hd.take p).append (hd.drop q)).mono (w':=w') (S':=E.S) (fun _ h=>h) (fun c hc=>fZ c (hcT c (hSep.st c hc))) (fun c hc=>fZ c (fun e=>r6.1 (e▸(Vl AP9).subset hc)));rw[jJ]at hra;have hll:l'.length=p+(rows.length-q):=by grind
 refine⟨_,b::(Fs1.take p++Fs1.drop q).flatten,rfl,rfl,?_,?_,fun c hc=> ?_,fun c hc=>fZ c (hcT c hc),?_⟩
 ·have fD:css.length=rows.length:=hd.1
  have:=jx (cap:=cap) hra q1 (by
   rw[AUe,<-ADO hd.2.2.1 p (by omega),<-ADP hd.2.2.1 q (by omega)];intro j v hj;exact q3 j v (by grind)) (by omega) (by omega) (by simp_all)
  simp_all
 ·grind[List.nodup_cons,Vl]
 ·have AcF:w'.heap.size=w.heap.size:=by grind[Dm]
  rcases AOD.1 hc with rfl|hc
  ·simp_all
  ·have hm:c∈b::Fs1.flatten:=AYc _ ((Vl AP9).subset hc)
   exact⟨hSep.free c hm,by rw[AcF];exact hSep.lt c hm⟩
 grind[Grown.trans',CH]
end Go.Fw
end
section
namespace Go.Fw
open Go.M Go.Proofs Go.Shelf Go.RowKit Go.Lib
section
variable{P:Program} {ρ:Ren} {nm:String} {fv:Func}
theorem RZ{t:TypeId}{n:Nat}(h:(P.info? t).map (·.size)=some n):∀w,(Go.sizeOf t).run P w= .ok n w:=fun w=>by
 obtain⟨i,hi,rfl⟩:=ALL.1 h;simp[sizeOf,typeInfo,hi]
theorem ZR{t:TypeId}{z:Value}(h:(P.info? t).bind (·.zero)=some z):∀w,(zeroValue t).run P w= .ok z w:=fun w=>by
 obtain⟨i,hi,hz⟩:=AMz.1 h;simp[zeroValue,typeInfo,hi,hz]
structure mu (P:Program) (ρ:Ren):Prop where
 t0:P.underlying (ρ.t 0)=some (TypeDesc.tuple #[])
 t3:P.underlying (ρ.t 3)=some (TypeDesc.int IntKind.i64)
 t4:P.underlying (ρ.t 4)=some (TypeDesc.bool)
 t24:P.underlying (ρ.t 24)=some (TypeDesc.slice (ρ.t 9))
 s0:(P.info? (ρ.t 0)).map (·.size)=some 1
 s3:(P.info? (ρ.t 3)).map (·.size)=some 1
 s4:(P.info? (ρ.t 4)).map (·.size)=some 1
 s24:(P.info? (ρ.t 24)).map (·.size)=some 1
 v0:(P.info? (ρ.t 0)).bind (·.zero)=some (Value.tuple #[])
 v3:(P.info? (ρ.t 3)).bind (·.zero)=some (Value.int IntKind.i64 0)
 v4:(P.info? (ρ.t 4)).bind (·.zero)=some (Value.bool false)
 v24:(P.info? (ρ.t 24)).bind (·.zero)=some (Value.slice none 0 0)
theorem mu.ins(h:mu P ρ)(hm:P.follows .mixedOrders=true)(f22:P.funcs[ρ.f 22]? =some { Body2.n22 ρ with name:=nm })(n22:(nm== "runtime.NumGoroutine")=false)(f29:P.funcs[ρ.f 29]? =some fv)(n29:(fv.name== "runtime.NumGoroutine")=false)
  (b29:fv.body.isNone=true) (e29:Extern.findNext fv=none) (x29:Extern.find fv=some (Extern.SlicesOverlaps.overlaps #[(ρ.t 24),(ρ.t 24)] #[(ρ.t 4)])):eg P ρ nm fv:=
 ⟨hm,f22,n22,f29,n29,b29,e29,x29,h.t0,run_isAgg_plain h.t0 rfl,RZ h.s0,ZR h.v0,h.t3,run_isAgg_plain h.t3 rfl,RZ h.s3,ZR h.v3,h.t4,run_isAgg_plain h.t4 rfl,RZ h.s4,ZR h.v4,h.t24,run_isAgg_plain h.t24 rfl,RZ h.s24,ZR h.v24⟩
theorem mu.del(h:mu P ρ)(hm:P.follows .mixedOrders=true)(f24:P.funcs[ρ.f 24]? =some { Body2.n24 ρ with name:=nm })(n24:(nm== "runtime.NumGoroutine")=false):rj P ρ nm:=
 ⟨hm,f24,n24,h.t0,run_isAgg_plain h.t0 rfl,RZ h.s0,ZR h.v0,h.t3,run_isAgg_plain h.t3 rfl,RZ h.s3,ZR h.v3,h.t4,run_isAgg_plain h.t4 rfl,RZ h.s4,ZR h.v4,h.t24,run_isAgg_plain h.t24 rfl,RZ h.s24,ZR h.v24⟩
@[reducible] def Jh (f22 f24 f29 f30 t24 t9:Nat):Ren:=⟨fun k=>if k=22 then f22 else if k=24 then f24 else if k=29 then f29 else if k=30 then f30 else k,fun k=>if k=24 then t24 else if k=9 then t9 else k,fun k=>k⟩
def ARo{T:J4}(hT:FB P T)(L:eg P ρ nm fv){r:Ty}{f:Nat}(hf:ρ.f 22=f)(Ur:T.Ng (ρ.t 24) r=true)(hr:(r.flat&&(decide (mk r=1)&&decide (0<r.n)))=true)(g:(tJ r).Cu (Option (AAM r).V))
  (hg:∀v:(tJ r).V,(tJ r).un g v=(xA v.1.2.1 v.1.2.2.1 v.2.1).map fun l=>(((),()),((),l,()))):SP P:=
 ⟨f,⟨tJ r,AAM r,(tJ r).un g⟩,by
  simp only[ALz,ANK]at hr;rw[funext hg,<-hf];grind[wZ]⟩
def AcG{T:J4}(hT:FB P T)(L:rj P ρ nm){r:Ty}{f:Nat}(m:Nat)(hf:ρ.f 24=f)(Ur:T.Ng (ρ.t 24) r=true)(hr:decide (0<r.n)=true)(g:(uO (m+1) r).Cu (Option (zt (m+1) r).V))
  (hg:∀v:(uO (m+1) r).V,(uO (m+1) r).un g v=(AEx v.1.2.1 v.1.2.2.1 v.2.1).map fun l=>(((),()),((),l,()))):SP P:=
 ⟨f,⟨uO (m+1) r,zt (m+1) r,(uO (m+1) r).un g⟩,by
  rw[funext hg,<-hf];exact vS hT L Ur (of_decide_eq_true hr) m⟩
end
end Go.Fw
end
