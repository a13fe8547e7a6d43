/- The framework, part 2: a checked interpreter of the model's code over abstract states; no claim is made here. -/
import Derived.Test.YtebiojjohcpanaaGreatF0
import Derived.Below
import Derived.ChangeArms
import Derived.ChangeOld
import Derived.DataReads
import Derived.OrdersHeld
import Derived.Shelf.Slices.Delete
import Derived.Shelf.Spec.SlicesInsertGrow
import Derived.Tactics
set_option linter.unusedVariables false
set_option linter.unusedSimpArgs false
set_option linter.unusedSectionVars false
section
namespace Go.Fw
theorem vT{s:BI}{N:Nat}{m0 m:Qi}{tm:List XV}{bx:List Bx}{x:s.V}(e:s.fit N m0 tm bx=some (x,m)):∀(k:Nat) p,s.HO[k]? =some p->p≠ .gone-> ∃b B,m[k]? =some (some b)/\bx[b]? =some B/\B≠ .dead/\
  ∀d r,p= .sl d r-> ∃d' rows,B= .sl d' r rows:=by
 simp only[BI.fit,AOc,AOP]at e;obtain⟨m1,e1,m2,e2,a,e3,c,e4,e5⟩:=e;cases e5;obtain⟨q1,q2⟩:=Sx (Jt:=id) e4;grind
theorem AGS(n:Nat):qh (List.replicate n none):=fun i j b h=>by
 grind
theorem AAg{w:World}{B B':Nat->Prop}{w':World}{r:Ty}{v:Value}{x y:List r.D}(h:Rd w B (.sl r) [v] x)(h':Rd w' B' (.sl r) [v] y):y.length=x.length:=by
 simp only[Rd]at h h';grind
section
variable{Y:Type} {P:Program} {E:Env} {σ:St} {a:Act} {w:World} {k:K Y} {y:Y}
theorem s7{E' E2:Env}{l:List BP}{u:KM.V l}{vw2:List Bx}{Jt:Nat->Nat}(r:vx E' E2 l u vw2 Jt):∀{sl:List (Nat×XP)} {z:HU.V sl} {x:Value},
  nc l sl=true->PD E' w (KM.mk id l u) id sl z [x]->XR E2 w vw2 (gF sl z Jt) x
 |[(0,p)],z,x,EP,h=>by
  obtain⟨⟨v,hv,hx⟩,_⟩:=h;simp at hv;subst hv;exact ARC r EP hx
 |[],_,_,EP,_=>by simp[nc]at EP
 |(_+1,_)::_,_,_,EP,_=>by simp[nc]at EP
 |(0,_)::_::_,_,_,EP,_=>by simp[nc]at EP
def gX(c:Qn)(xs:List XV)(σ:St):ABU:=
 match c.ins.fit σ.bx.length c.ins.m0 xs (c.ins.opens σ.bx)with
 |some (_,m)=>m.filterMap id
 |none=>[]
theorem tw(h:Rel E σ a w)(s:BI):∃E',Rel E' { σ with bx:=s.opens σ.bx } a w/\Sk [] E σ.bx w E' (s.opens σ.bx) w/\(∀(i:Nat) d r,s.HO[i]? =some (.sl d r)->E'.IZ (σ.bx.length+i)= .slice none 0 0)/\
  (∀x v,XR E w σ.bx x v->XR E' w (s.opens σ.bx) x v):=by
 let E':Env:={ E with IZ:=fun k=>if k<σ.bx.length then E.IZ k else .slice none 0 0 }
 have hlen:σ.bx.length<=(s.opens σ.bx).length:=by simp[BI.opens]
 have hold:∀b,b<σ.bx.length->(s.opens σ.bx)[b]? =σ.bx[b]?:=fun b hb=>by grind[BI.opens,List.getElem?_append_left]
 have pD:∀b,b<σ.bx.length->E'.IZ b=E.IZ b:=fun b hb=>by grind
 have keep:T8 E w σ.bx E' w (s.opens σ.bx):=
  ⟨hlen,fun _ _=>rfl,fun _ h=>h,fun _ h=>h,h.bx.st,fun _ _=>rfl,fun b d r rows hb e=>⟨d,rows,by simp_all,fun p hp q ys hg=>⟨hp,⟨ys,hg,rfl⟩,fun hh he=>by simp_all⟩⟩⟩
 obtain⟨Fs,⟨f1,f2⟩,f3⟩:=h.bx;refine⟨E',⟨h.Od,h.tm.imp fun _ _ hx=>P5 keep hx,?_⟩,?_,fun i d r hi=>by grind,fun x v hx=>P5 keep hx⟩
 ·refine⟨Fs++List.replicate s.HO.length [],⟨by simp[BI.opens,f1],fun n B F hB hF=> ?_⟩,?_⟩
  ·by_cases hn:n<σ.bx.length
   ·rw[hold n hn]at hB
    rw[AR1 (by omega)]at hF;have:=f2 n B F hB hF;cases B with
    |mem cs=>
     obtain⟨rfl,arr,ty,fr,a1,a2,a3⟩:=this;exact⟨rfl,arr,ty,fr,a1,a2,a3.imp fun _ _ hv=>Gi keep hv⟩
    |sl d r rows=>exact⟨this.1,by rw[pD n hn];exact this.2⟩
    |dead=>exact this
   ·rw[ASa (by omega)]at hF
    have hF':F=[]:=AV1 (ASU hF);subst hF';simp only[BI.opens]at hB;rw[ASa (by omega),AVI,AOP]at hB;obtain⟨p,_,rfl⟩:=hB;have hh:E'.IZ n= .slice none 0 0:=by grind
    cases p with
    |mem q=>rfl
    |gone=>rfl
    |sl d r=>exact⟨by omega,by rw[hh];exact qL⟩
  ·have:(Fs++List.replicate s.HO.length []).flatten=Fs.flatten:=by simp
   rw[this];exact⟨f3.nodup,f3.free,f3.lt,f3.st,f3.eT⟩
 ·refine⟨⟨fun _ h=>h,fun _ h=>h,fun _ h=> .inl h,fun _ h=> .inl h,fun _ _=>rfl,rfl,rfl,rfl,ATX _⟩,hlen,fun b hb=>⟨rfl,pD b hb⟩,fun b hb=> ?_,fun n B B' _ hB Uf hd=> ?_⟩
  ·grind
  ·rw[hold n (AOS.1 hB).1,hB]at Uf
   cases Uf;exact⟨WS.refl hd,fun _ _=>rfl⟩
theorem Sk.after{t:ABU}{E E' E'':Env}{bx RX AXH:List Bx}{w w':World}(h:Sk [] E bx w E' RX w)(hb:∀b,b<bx.length->RX[b]? =bx[b]?)(k:Sk t E' RX w E'' AXH w'):Sk t E bx w E'' AXH w':=
 ⟨h.base.trans k.base,AVG h.len k.len,fun b Ha=>⟨(k.ids b (AVS Ha h.len)).1.trans (h.ids b Ha).1,(k.ids b (AVS Ha h.len)).2.trans (h.ids b Ha).2⟩,fun b hd=>k.dead b (h.dead b hd),fun n B B' hn hB Uf hd=>by
  have Ha:=(AOS.1 hB).1;obtain⟨k1,k2⟩:=k.frame n B B' hn (by simp_all) Uf hd;refine⟨k1,fun c hc=>k2 c ?_⟩;cases B with
  |mem cs=>simp only[y_]at hc|-;rw[(h.ids n Ha).1];omega
  |sl d r rows=>simp only[y_]at hc|-;rw[(h.ids n Ha).2];omega
  |dead=>exact hc⟩
def AOu(c:Qn)(N:Nat)(xs:List XV)(σ:St)(k:K Y):Option Y:=
 match c.ins.fit N c.ins.m0 xs σ.bx with
 |some (v,m)=>(c.g v).bind fun u=>
  let Jt:=Z_ m σ.bx.length
  let σ1:=σ.aw m
  k (gF c.outs.EH u.1 Jt) { σ1 with bx:=cH Jt 0 c.outs.HO u.2 (DB σ1.bx m) }
 |none=>none
def zV(c:Qn)(N:Nat)(xs:List XV)(σ:St):ABU:=
 match c.ins.fit N c.ins.m0 xs σ.bx with
 |some (_,m)=>m.filterMap id
 |none=>[]
theorem AAF{f:Nat}{c:Qn}(hc:Yy P f c)(h:Rel E σ a w){N0:Nat}(zm:∀(i:Nat) d r,c.ins.HO[i]? =some (.sl d r)->E.IZ (N0+i)= .slice none 0 0){xs:List XV}{vs:List Value}(hxs:Cg (XR E w σ.bx) xs vs)(hlen:xs.length=c.ins.EH.length)(e:AOu c N0 xs σ k=some y):
  Calls P f vs.toArray w fun e w' => ∃x E' xv σ',e= .returned x/\Rel E' σ' a w'/\XR E' w' σ'.bx xv x/\Sk (zV c N0 xs σ) E σ.bx w E' σ'.bx w'/\σ'.tm.length=σ.tm.length/\k xv σ' =some y:=by
 obtain⟨EP,_,uG⟩:=hc;simp only[Qn.ok,AOw]at EP;obtain⟨⟨hk,hslot⟩,hbo⟩:=EP;obtain⟨hklen,hk⟩:=Xy hk;unfold AOu at e;split at e
 case h_2=>cases e
 rename_i v m eZ;simp only[AOc]at e;obtain⟨u,hg,e⟩:=e;obtain⟨_,E1,hf⟩:=m_ h.bx hxs zm (by simp[BI.m0]) (AGS _) eZ;have QW:vs.toArray.size=c.ins.EH.length:=by grind[Cg.len]
 refine(uG E1 w v vs.toArray u QW hf.boxes (by simpa using hf.EH) hg).mono fun e' w' hR=> ?_
 obtain⟨x,E',rfl,base,⟨Fs,hFs1,hFs2⟩,EH,AHZ⟩:=hR;simp only[AQO]at hFs2;obtain⟨Fk,k1,k2,k3,k4⟩:=hf.rest;have st:=h.bx.st;have eT:=h.bx.eT;have hM:m.length=c.ins.HO.length:=hf.len;have all:∀i,i<m.length-> ∃b B,m[i]? =some (some b)/\σ.bx[b]? =some B/\B≠ .dead/\ ∀d r,c.ins.HO[i]? =some (.sl d r)-> ∃d' rows,B= .sl d' r rows:=by
  intro i hi;have hp:c.ins.HO[i]? =some (c.ins.HO[i]'(by omega)):=AOM _;grind[vT,Option.some.inj]
 let N:=σ.bx.length
 let M:=m.length
 have AL0:∀i b,m[i]? =some (some b)->Z_ m N i=b:=fun i b h=>by simp[Z_,h]
 have AWy:∀i,M<=i->Z_ m N i=N+(i-M):=fun i hi=>by
  grind[List.getElem?_eq_none,Z_]
 have ro:wu (Z_ m N) M N:=⟨fun i hi=>by
   grind,AWy,fun i j hi hj e=>by
   obtain⟨b,B,h1,h2,_⟩:=all i hi;obtain⟨b',B',h1',h2',_⟩:=all j hj;rw[AL0 i b h1,AL0 j b' h1']at e;subst e;exact hf.inj i j b h1 h1'⟩
 let E2:Env:={
   Ia:=fun n=>if n<N then E.Ia n else E'.Ia (M+(n-N))
   IZ:=fun n=>if n<N then E.IZ n else E'.IZ (M+(n-N))
   T:=fun c=>E.T c\/E'.S c
   S:=E'.S }
 have hS:∀c,E.S c->E'.S c:=fun d hd=>base.S d (hf.S d hd)
 have hSk:∀d∈Fk.flatten,¬E'.S d:=fun d hd hs=>by
  obtain⟨_,n2,_,n4⟩:=k3 d hd;exact(base.Sof d hs).elim n2 (fun h=>h n4)
 have AEh:∀d,E.T d->w'.heap[d]? =w.heap[d]?:=fun d hd=>base.heap d (hf.T d hd)
 have AWa:∀d∈Fk.flatten,w'.heap[d]? =w.heap[d]?:=fun d hd=>base.heap d (k3 d hd).2.2.2
 have AXk:fJ E w E2 w':=⟨fun d hd=> .inl hd,hS,fun d hd=>hd,fun d hd=>by
   rcases base.Sof d hd with h|h
   ·exact hf.Sof d h
   ·exact .inr fun ht=>h (hf.T d ht),AEh,base.os,base.tape,base.output,base.size⟩
 let vw':=KM.mk id c.outs.HO u.2
 let Bs:=KM.mk (Z_ m N) c.outs.HO u.2
 let bk:=(DB σ.bx m).map (Bx.map (Gx m))
 have hbk:DB (σ.aw m).bx m=bk:=by rw[ACN,et]
 have AgJ:bk.length=N:=by simp[bk,LW,N]
 let cI:=MA (Z_ m N) 0 Bs bk
 have Agl:cH (Z_ m N) 0 c.outs.HO u.2 (DB (σ.aw m).bx m)=cI:=by rw[oA,hbk]
 obtain⟨s1,s2,s3⟩:=iL ro (l:=Bs) (i:=0) (bx:=bk) (by omega);have AgH:Bs.length=c.outs.HO.length:=Ui _;have qi:σ.bx.length<=cI.length:=by
  grind
 have rn:vx E' E2 c.outs.HO u.2 cI (Z_ m N):=by
  refine⟨fun i hi=> ?_,fun i p hp=> ?_,rfl⟩
  ·by_cases him:i<M
   ·obtain⟨b,B,h1,h2,_⟩:=all i him
    have hbl:b<N:=(AOS.1 h2).1;have g1:=hf.ids i b h1;grind
   grind
  ·obtain⟨z,z1,z2⟩:=dP (Z_ m N) (u:=u.2) hp
   grind
 have AHD:∀n,n<N->some n∉m->cI[n]? =bk[n]?:=fun n hn hm=>by
  grind
 have keep:T8 E w σ.bx E2 w' (DB cI m):=by
  refine⟨by rw[LW];omega,fun b hb=>by grind,fun d hd=> .inl hd,hS,st,AEh,fun b d r rows hb hq=> ?_⟩;have hbm:some b∉m:=fun hm=>by grind[Xp]
  rw[SU hbm,AHD b hb hbm]at hq;have hq1:=AE6 hq;have sy:σ.bx[b]? =some (.sl d r rows):=by
   rcases TV (Fg.refl σ.bx) b _ hq1 with e|e
   all_goals grind
  refine⟨d,rows,sy,fun p hp q ys hgp=>⟨hp,⟨ys,hgp,rfl⟩,fun h' hh=> ?_⟩⟩;have hFk:Fk[b]? =some (Fk[b]'(by rw[k1.1,LW];omega)):=AOM _;obtain⟨_,ho⟩:=k1.2 b _ _ hq1 hFk;have e2:E2.IZ b=E.IZ b:=by grind
  grind[v7,List.mem_flatten,List.mem_of_getElem?]
 have vr:∀x v,VR E w σ.bx x v->VR E2 w' cI (Gx m x) v:=fun x v hx=>by
  refine ACt keep (fun b d' r DE hbm hq=> ?_) qi hx;obtain⟨i,hi,him⟩:=AVO hbm;have ATS:m[i]? =some (some b):=by grind
  obtain⟨b',B,h1,h2,h3,h4⟩:=all i hi;rw[ATS]at h1;cases h1;have hio:i<c.outs.HO.length:=by omega
  have hp:c.outs.HO[i]? =some c.outs.HO[i]:=AOM hio;obtain⟨z,z1,z2⟩:=rn.bx i _ hp;rw[AL0 i b ATS,hq]at z2;have Adq:c.ins.HO[i]? =some (c.ins.HO[i]'(by omega)):=AOM _
  generalize c.outs.HO[i]=po at z hp z1 z2
  cases po with
  |mem q=>simp[BP.mk]at z2
  |gone=>simp[BP.mk]at z2
  |sl d0 q=>
   simp only[BP.mk,AON,Bx.sl.injEq]at z2;obtain⟨rfl,rfl,z2⟩:=z2;obtain rfl:=AU_ z2;obtain⟨d1,hpo⟩:=(hk i _ Adq).2 _ _ hp;obtain⟨d2,rows,rfl⟩:=h4 d1 r (by simp_all);have hbl:b<N:=(AOS.1 h2).1;have eh:E2.IZ b=E.IZ b:=by grind
   refine⟨d2,rows,h2,?_,eh⟩;obtain⟨F0,hR0,_⟩:=h.bx.take h2;have hFi:Fs[i]? =some (Fs[i]'(by rw[hFs1.1,Ui];omega)):=AOM _;obtain⟨_,y9⟩:=hFs1.2 i _ _ z1 hFi;have hal:alive c.outs.HO i=true:=by simp[alive,hp]
   rw[(AHZ i (by omega) hal).2,(hf.ids i b ATS).2]at y9;exact AAg (Ye hR0.2) (Ye y9)
 have jH:c.outs.HO.all (BP.MY c.outs.HO)=true:=hbo;have rel:Rel E2 { tm:=(σ.aw m).tm,bx:=cI } a w':=by
  refine⟨h.Od,?_,?_⟩
  ·rw[uB]
   exact Cg.MR _ (fun x v hx=>ADO vr hx) h.tm
  ·refine fy ro (Fs:=Fs) (by omega) (fun i _ hi=> ?_) (by rw[hFs1.1,Ui];omega) (fun j B F hB hF=> ?_) ?_
   ·obtain⟨b,B,h1,h2,_⟩:=all i hi
    rw[AL0 i b h1];have hbl:b<(DB σ.bx m).length:=by grind
    have hd:(DB σ.bx m)[b]? =some .dead:=by
     rw[AOM hbl];exact congrArg some (Xp (ASU h1) (AOM hbl))
    simp only[bk];rw[AVI,hd];rfl
   ·rw[AVt]
    have zA:=(AOS.1 hB).1;have hp:c.outs.HO[j]? =some (c.outs.HO[j]'(by omega)):=AOM _;obtain⟨z,z1,z2⟩:=dP (Z_ m N) (u:=u.2) hp;have Uf:Bs[j]? =_:=z2;rw[hB]at Uf;cases Uf;exact ATA rn hp (AVk.1 jH _ (AO7 _)) (hFs1.2 j _ _ z1 hF)
   ·
    refine⟨Fk,⟨by simp[bk,k1.1],fun n B F hn hF=> ?_⟩,?_⟩
    ·simp only[bk]at hn
     rw[AVI,AOP]at hn;obtain⟨B0,hn,rfl⟩:=hn;have w6:n<N:=by grind
     have h3:=k1.2 n B0 F hn hF;have hFw:∀d∈F,w'.heap[d]? =w.heap[d]?:=fun d hd=>AWa d (AVK.2 ⟨F,ASU hF,hd⟩)
     have eb:E2.Ia n=E.Ia n:=by grind
     have eh:E2.IZ n=E.IZ n:=by grind
     cases B0 with
     |mem cs=>
      obtain⟨rfl,arr,ty,fr,ha,hu,hv⟩:=h3;exact⟨by rw[eb],arr,ty,fr,by simp_all,hu,Cg.MR _ vr hv⟩
     |sl d r rows=>
      refine⟨h3.1,?_⟩;rw[eh];exact En hS (fun d hd=>AEh d (st d hd)) hFw h3.2
     |dead=>exact h3
    ·refine⟨ARZ.2 ⟨k2,hFs2.nodup,fun x hx z hz he=> ?_⟩,fun d hd ht=> ?_,fun d hd=> ?_,fun d hd=> .inr hd,fun d hd=> ?_⟩
     ·subst he
      exact hFs2.free x hz (base.T x (k3 x hx).2.2.2)
     ·rcases ARh.1 hd with hd|hd
      ·grind
      ·rcases ht with ht|ht
       ·exact hFs2.free d hd (base.T d (hf.T d ht))
       ·exact hFs2.free d hd (hFs2.st d ht)
     ·rcases ARh.1 hd with hd|hd
      ·grind
      ·exact hFs2.lt d hd
     ·rcases hd with hd|hd
      ·grind
      ·exact hFs2.eT d (hFs2.st d hd)
 have AXo:Sk (zV c N0 xs σ) E σ.bx w E2 cI w':=by
  refine⟨AXk,qi,fun n hn=>⟨by grind,by grind⟩,fun n hn=> ?_,fun n B B' hnt hB Uf hnd=> ?_⟩
  rotate_left 1
  ·have w6:=(AOS.1 hB).1
   have hnm:some n∉m:=fun hm=>hnt (by
    simp only[zV,eZ,List.mem_filterMap];simp_all)
   rw[AHD n w6 hnm]at Uf;simp only[bk]at Uf;have hkn:(DB σ.bx m)[n]? =some B:=by grind[SU]
   rw[AVI,hkn]at Uf;have Uf:Bx.map (Gx m) B=B':=by simp_all
   have hFk:Fk[n]? =some (Fk[n]'(by rw[k1.1,LW];omega)):=AOM _;refine⟨?_,fun d hd=> ?_⟩
   ·subst Uf
    cases B with
    |mem cs=>trivial
    |sl d r rows=>rfl
    |dead=>exact absurd rfl hnd
   ·rcases gH (k1.2 n B _ hkn hFk) hd with hs|hs
    all_goals grind[List.mem_flatten,List.mem_of_getElem?]
  have w6:=(AOS.1 hn).1;have hnm:some n∉m:=fun hm=>by
   obtain⟨i,hi,him⟩:=AVO hm;grind
  rw[AHD n w6 hnm];simp only[bk];rw[AVI,SU hnm,hn];rfl
 refine⟨x,E2,gF c.outs.EH u.1 (Z_ m N),{ tm:=(σ.aw m).tm,bx:=cI },rfl,rel,s7 rn hslot EH,AXo,by simp[uB],?_⟩;grind
theorem ADc{f:Nat}{c:Qn}(hc:Yy P f c)(h:Rel E σ a w){xs:List XV}{vs:List Value}(hxs:Cg (XR E w σ.bx) xs vs)(e:ny c xs σ k=some y):
  Calls P f vs.toArray w fun e w' => ∃x E' xv σ',e= .returned x/\Rel E' σ' a w'/\XR E' w' σ'.bx xv x/\Sk (gX c xs σ) E σ.bx w E' σ'.bx w'/\σ'.tm.length=σ.tm.length/\k xv σ' =some y:=by
 unfold ny at e;split at e
 case isFalse=>cases e
 rename_i hlen;obtain⟨E',h1,h2,h3,h4⟩:=tw h c.ins;have hold:∀b,b<σ.bx.length->(c.ins.opens σ.bx)[b]? =σ.bx[b]?:=fun b hb=>by grind[BI.opens,List.getElem?_append_left]
 refine(AAF (N0:=σ.bx.length) hc h1 h3 (hxs.imp fun x v hx=>h4 x v hx) hlen (k:=k) (y:=y) e).mono fun e' w' hR=> ?_
 obtain⟨x,E2,xv,σ',q0,q1,q2,q3,q4,q5⟩:=hR;exact⟨x,E2,xv,σ',q0,q1,q2,h2.after hold q3,q4,q5⟩
end
end Go.Fw
end
section
namespace Go.Fw
def jC(P:Program)(Γ:Nat->Option Qn):Prop:= ∀f c,Γ f=some c->Yy P f c
theorem tV{Γ:Nat->Option Qn}{σ:St}{o:Op}(h:rA o=false):Ky (fun _=>none) σ o=Ky Γ σ o:=by
 cases o with
 |call c=>
  obtain⟨callee,args,su⟩:=c;cases callee with
  |value f=>simp[rA]at h
  |invoke _ _=>rfl
  |builtin b=>cases b<;>rfl
 |_=>rfl
theorem AYR{Y:Type}{P:Program}{Γ:Nat->Option Qn}{o:Oper}{E:Env}{σ:St}{a:Act}{w:World}{k:K Y}{y:Y}{g:Nat}{c:Qn}(hsc:Yy P g c)(h:Rel E σ a w){f:Operand}{args:Array Operand}{su:Array TypeId}
  (ho:o.op= .call { callee:= .value f,args:=args,argTypes:=su }) {ps:List Value} (aP:a.eval f= .func (.func g) #[] ps.toArray) {xs:List XV} (I4:Cg (XR E w σ.bx) xs (args.toList.map a.eval++ps)) (ht:Ky Γ σ o.op=gX c xs σ)
  (e:ny c xs σ k=some y) {next:Act->World->Prop} {Q:Exit->Act->World->Prop}
  (hn:∀v w' E' x σ',Rel E' σ' a w'->XR E' w' σ'.bx x v->Sk (Ky Γ σ o.op) E σ.bx w E' σ'.bx w'->σ'.tm.length=σ.tm.length->k x σ' =some y->next (a.put o.dst v) w'):o.wp P a w next Q:=by
 have uG:=ADc hsc h I4 e;have nh:(execOp a.eval o).run P w= .ok (.enter g (args.toList.map a.eval++ps).toArray) w:=by
  have e2:(args.map a.eval)++ps.toArray=(args.toList.map a.eval++ps).toArray:=by
   simp_all
  simp only[execOp,ho,resolve,aP,Deferred.ofValue,Sem.run_bind,Sem.run_pure,Result.andThen_ok,invoke,Array.empty_append,e2,hsc.2.1]
 unfold Oper.wp;rw[nh];simp only[Oper.upon];refine uG.mono fun e w' hR=> ?_
 grind
section
variable{Y:Type} {P:Program} {T:KS} (hT:FE P T) {Γ:Nat->Option Qn} (hΓ:jC P Γ) {o:Oper} {E:Env} {σ:St} {a:Act} {w:World} {k:K Y} {y:Y}
include hT hΓ
theorem ABd(h:Rel E σ a w)(e:YC T Γ o σ k=some y){next:Act->World->Prop}{Q:Exit->Act->World->Prop}
  (hn:∀v w' E' x σ',Rel E' σ' a w'->XR E' w' σ'.bx x v->Sk (Ky Γ σ o.op) E σ.bx w E' σ'.bx w'->σ'.tm.length=σ.tm.length->k x σ' =some y->next (a.put o.dst v) w'):o.wp P a w next Q:=by
 by_cases hc:rA o.op=false
 ·obtain⟨v,w',E',x,σ',hr,h1,h2,h3,h4,h5⟩:=ACg hT h e hc
  rw[tV hc]at h3;unfold Oper.wp;rcases hr with hr|⟨hr,rfl⟩
  ·rw[hr]
   exact hn v w' E' x σ' h1 h2 h3 h4 h5
  ·rw[hr]
   exact hn _ w' E' x σ' h1 h2 h3 h4 h5
 ·
  unfold rA at hc;split at hc
  case h_2=>simp_all
  rename_i f args su ho;unfold YC at e;rw[ho]at e;dsimp only at e;split at e
  case h_3=>cases e
  ·rename_i g LO hf
   split at e
   case h_2=>cases e
   rename_i c hg;have hv:=h.ev f;rw[hf]at hv;obtain⟨eL,aP⟩:(∀b∈LO,b<σ.bx.length)/\a.eval f= .func (.func g) #[] (LO.map fun b=>Value.pointer (some ⟨E.Ia b,0,none⟩)).toArray:=hv;have hsc:=hΓ g c hg;have I4:Cg (XR E w σ.bx) (args.toList.map σ.ev++LO.map fun b=> .c (.I0 b 0)) (args.toList.map a.eval++LO.map fun b=>Value.pointer (some ⟨E.Ia b,0,none⟩)):=by
    refine Cg.append (evs h args.toList) ?_
    clear aP hf e
    induction LO with
    |nil=>trivial
    |cons b l ih=>exact⟨⟨eL b (by simp),rfl⟩,ih (fun c hc=>eL c (by simp[hc]))⟩
   grind[Ky,gX,AYR]
  ·rename_i g rows hf
   split at e
   case h_2=>cases e
   rename_i c hg;have hv:=h.ev f;rw[hf]at hv;obtain⟨ps,aP,eL⟩:∃ps:List Value,a.eval f= .func (.func g) #[] ps.toArray/\Cg (RA E w) rows ps:=hv;have hsc:=hΓ g c hg;have I4:Cg (XR E w σ.bx) (args.toList.map σ.ev++rows.map fun q=> .c (.QX false q.1 q.2 0)) (args.toList.map a.eval++ps):=by
    refine Cg.append (evs h args.toList) ?_
    clear aP hf e
    induction rows generalizing ps with
    |nil=>
     cases ps with
     |nil=>trivial
     |cons _ _=>exact eL.elim
    |cons q l ih=>
     cases ps with
     |nil=>exact eL.elim
     |cons p ps=>
      obtain⟨⟨bb,o,cs,h1,h2,h3,h4,h5⟩,eL⟩:=eL;exact⟨⟨bb,o,cs,h1,h2,h3,h4,h5⟩,ih ps eL⟩
   grind[Ky,gX,AYR]
end
theorem Rel.tmp{E:Env}{σ:St}{a:Act}{w:World}(h:Rel E σ a w){t:Nat}{x:XV}(e:σ.tm[t]? =some x):∃v,a.tmps[t]? =some v/\XR E w σ.bx x v:=by
 obtain⟨v,h1,h2⟩:=h.tm.get e;simp_all
def AQ_:Value->Option Bool
 | .bool b=>some b
 |_=>none
theorem cM{ops:Array Oper}{tmps:Array Value}{j t:Nat}(e:(ops[j]?).bind (·.dst)=some t){v:Value}(hv:tmps[t]? =some v):yielded ops tmps j=AQ_ v:=by
 simp only[yielded,e,AOv,hv];cases v<;>rfl
theorem rP{E:Env}{w:World}{vw:List Bx}:XR E w vw (.NW []) undef:=⟨#[],rfl,trivial⟩
structure Ok (E0:Env) (w0:World) (N nb:Nat) (E:Env) (σ:St) (a:Act) (w:World):Prop where
 rel:Rel E σ a w
 base:fJ E0 w0 E w
 tm:σ.tm.length=N
 si:nb<=σ.bx.length
 ids:∀i,i<nb->σ.bx[i]?≠some .dead->E.Ia i=E0.Ia i/\E.IZ i=E0.IZ i
theorem Ok.next{E0 E E':Env}{w0 w w':World}{N nb:Nat}{σ σ':St}{a a':Act}{t:ABU}(h:Ok E0 w0 N nb E σ a w)(hr:Rel E' σ' a' w')(hw:Sk t E σ.bx w E' σ'.bx w')(hl:σ'.tm.length=σ.tm.length):Ok E0 w0 N nb E' σ' a' w':=
 ⟨hr,h.base.trans hw.base,hl.trans h.tm,AVG h.si hw.len,fun i hi hd=>by
  have h1:=hw.ids i (AVS hi h.si);have h2:=h.ids i hi (fun hh=>hd (hw.dead i hh));simp_all⟩
theorem Ok.put{E0 E:Env}{w0 w:World}{N nb:Nat}{σ:St}{a:Act}(h:Ok E0 w0 N nb E σ a w)(dst:Option Tmp){x:XV}{v:Value}(hx:XR E w σ.bx x v):Ok E0 w0 N nb E (σ.put dst x) (a.put dst v) w:=by
 have e1:(σ.put dst x).bx=σ.bx:=by cases dst<;>rfl
 have e2:(σ.put dst x).tm.length=σ.tm.length:=by cases dst<;>simp[St.put]
 refine⟨h.rel.put dst hx,h.base,e2.trans h.tm,by rw[e1];exact h.si,fun i hi hd=>h.ids i hi (by simp_all)⟩
theorem Ok.same{E0 E:Env}{w0 w:World}{N nb:Nat}{σ σ1:St}{a:Act}(h:Ok E0 w0 N nb E σ a w)(hr:Rel E σ1 a w)(hb:σ1.bx=σ.bx)(hl:σ1.tm.length=σ.tm.length):Ok E0 w0 N nb E σ1 a w:=
 ⟨hr,h.base,hl.trans h.tm,by rw[hb];exact h.si,fun i hi hd=>h.ids i hi (by simp_all)⟩
end Go.Fw
end
section
namespace Go.Fw
section
variable{Y:Type}
abbrev k0:K (XV×St):=fun x σ=>some (x,σ)
theorem ADd{op:BinOp}{κ:IntKind}{a b:Int}(k:AV->Option Y):iG op κ a b k=(iG op κ a b some).bind k:=by
 cases op<;>simp[iG]<;>split<;>rfl
theorem xA{op:BinOp}{κ:IntKind}{a b:Int}(k:AV->Option Y):aI op κ a b k=(aI op κ a b some).bind k:=by
 unfold aI;grind
theorem ADN{op:BinOp}{a b:ACH}(k:AV->Option Y):j9 op a b k=(j9 op a b some).bind k:=by
 cases op<;>simp[j9]<;>split<;>rfl
theorem qW{T:KS}{t:Nat}{op:BinOp}{a b:XV}(k:AV->Option Y):xt T t op a b k=(xt T t op a b some).bind k:=by
 unfold xt;grind[xA,ADd,ADN]
theorem vg{op:UnOp}{a:XV}(k:AV->Option Y):unX op a k=(unX op a some).bind k:=by
 unfold unX;grind
theorem bO{g:Bool}{a b:XV}(k:AV->Option Y):vW g a b k=(vW g a b some).bind k:=by
 unfold vW;grind
theorem MG{len:Nat}{lo hi:Option XV}(k:Nat->Nat->Option Y):PW len lo hi k=(PW len lo hi fun l h=>some (l,h)).bind fun p=>k p.1 p.2:=by
 unfold PW;grind
theorem AAA{T:KS}{t:Nat}{σ:St}{x:XV}{lo hi:Option XV}(k:K Y):mM T t σ x lo hi k=(mM T t σ x lo hi k0).bind fun p=>k p.1 p.2:=by
 unfold mM;split
 ·split
  ·rw[MG,MG (Y:=XV×St),AXQ];rfl
  ·rfl
 ·split
  ·rw[MG,MG (Y:=XV×St),AXQ];rfl
  ·rfl
 ·split
  ·split
   ·rw[MG,MG (Y:=XV×St),AXQ];rfl
   ·rfl
  ·rfl
 ·rfl
theorem zk{T:KS}{t:Nat}{σ:St}{x i:XV}(k:K Y):mA σ T t x i k=(mA σ T t x i k0).bind fun p=>k p.1 p.2:=by
 unfold mA;grind
theorem tD{T:KS}{t:Nat}{σ:St}{x i:XV}(k:K Y):Xu T t σ x i k=(Xu T t σ x i k0).bind fun p=>k p.1 p.2:=by
 unfold Xu;grind
theorem ACp{T:KS}{s d:Nat}{σ:St}{x:XV}(k:K Y):uO T s d σ x k=(uO T s d σ x k0).bind fun p=>k p.1 p.2:=by
 unfold uO;grind
theorem AD4{T:KS}{t:Nat}{σ:St}{l c:XV}(k:K Y):uH T t σ l c k=(uH T t σ l c k0).bind fun p=>k p.1 p.2:=by
 grind[uH]
theorem pg{T:KS}{t n:Nat}{ps:List (Nat×XV)}{σ:St}(k:K Y):SO T t n ps σ k=(SO T t n ps σ k0).bind fun p=>k p.1 p.2:=by
 grind[SO,Option.bind_assoc]
theorem yi{T:KS}{ts:Array TypeId}{σ:St}{a x:XV}(k:K Y):gU T ts σ a x k=(gU T ts σ a x k0).bind fun p=>k p.1 p.2:=by
 unfold gU;split
 all_goals grind
theorem AAW{T:KS}{ts:Array TypeId}{σ:St}{x:XV}(k:K Y):nN T ts σ x k=(nN T ts σ x k0).bind fun p=>k p.1 p.2:=by
 unfold nN;grind
theorem ACv{c:Qn}{xs:List XV}{σ:St}(k:K Y):ny c xs σ k=(ny c xs σ k0).bind fun p=>k p.1 p.2:=by
 grind[ny,Option.bind_assoc]
theorem xp{σ:St}{x:XV}(k:K Y):dD σ x k=(dD σ x k0).bind fun p=>k p.1 p.2:=by
 unfold dD;grind
theorem ADx{T:KS}{Γ:Nat->Option Qn}{o:Oper}{σ:St}(k:K Y):YC T Γ o σ k=(YC T Γ o σ k0).bind fun p=>k p.1 p.2:=by
 unfold YC;split
 ·rfl
 ·exact xp k
 ·split
  ·rename_i x _
   cases x<;>rfl
  ·rfl
 ·grind
 ·grind
 ·grind
 ·exact pg k
 ·grind
 ·grind
 ·grind
 ·rw[qW,qW (Y:=XV×St),AXQ];rfl
 ·rw[vg,vg (Y:=XV×St),AXQ];rfl
 ·exact ACp k
 ·grind
 ·exact AD4 k
 ·exact AAA k
 ·grind
 ·grind
 ·exact zk k
 ·exact tD k
 ·grind
 ·grind[ACv]
 ·grind
 ·grind[yi]
 ·grind[AAW]
 ·split
  ·rw[bO,bO (Y:=XV×St),AXQ];rfl
  ·rfl
 ·split
  ·rw[bO,bO (Y:=XV×St),AXQ];rfl
  ·rfl
 ·rfl
theorem mW{I:Type}[Nonempty I]{T:KS}{Γ:Nat->Option Qn}{o:Oper}{σ:St}{k:I->K Y}{y:Y}(h:∀i,YC T Γ o σ (k i)=some y):∃x σ',YC T Γ o σ k0=some (x,σ')/\ ∀i,k i x σ' =some y:=by
 obtain⟨i0⟩:= ‹Nonempty I›;have h0:=h i0;grind[ADx,Option.bind_eq_some_iff]
end
end Go.Fw
end
section
namespace Go.Fw
def WF{α:Type}(P:Program)(s:Sem α):Prop:= ∀w v w1,s.run P w= .ok v w1-> ∀w',s.run P w' = .ok v w'
section
variable{α β:Type} {P:Program}
theorem WF.pure(x:α):WF P (Pure.pure x:Sem α):=fun w v w1 h w' =>by
 simp_all
theorem WF.bind{s:Sem α}{f:α->Sem β}(h:WF P s)(k:∀v,WF P (f v)):WF P (s >>= f):=fun w v w1 e w' =>by
 rw[Sem.run_bind]at e|-;cases hs:s.run P w with
 |ok u w2=>
  rw[hs]at e;simp only[Result.andThen_ok]at e;rw[h w u w2 hs w'];simp only[Result.andThen_ok];exact k u w2 v w1 e w'
 |halt x w2=>
  simp_all
theorem WF.halt(x:Halt):WF P (.halt x:Sem α):=fun w v w1 e w' =>by simp_all
theorem WF.program:WF P program:=fun w v w1 e w' =>by
 simp_all
theorem WF.typeInfo(t:TypeId):WF P (typeInfo t):=WF.bind WF.program fun p=>by
 split
 ·exact WF.pure _
 ·exact WF.halt _
theorem WF.underlying(t:TypeId):WF P (underlying t):=WF.bind WF.program fun p=>by
 split
 ·exact WF.pure _
 ·exact WF.halt _
theorem WF.sizeOf(t:TypeId):WF P (Go.sizeOf t):=WF.bind (WF.typeInfo t) fun _=>WF.pure _
theorem WF.isAgg(t:TypeId):WF P (isAgg t):=WF.bind (WF.underlying t) fun d=>by
 grind[WF.pure]
theorem WF.zeroValue(t:TypeId):WF P (zeroValue t):=WF.bind (WF.typeInfo t) fun i=>by
 split
 ·exact WF.pure _
 ·exact WF.halt _
theorem WF.asIntOf(v:Value):WF P (asIntOf v):=by
 unfold Go.asIntOf;split
 ·exact WF.pure _
 ·exact WF.halt _
 ·exact WF.halt _
theorem WF.asBool(v:Value):WF P (asBool v):=by
 unfold Go.asBool;split
 ·exact WF.pure _
 ·exact WF.halt _
theorem WF.asAgg(v:Value):WF P (asAgg v):=by
 unfold Go.asAgg;split
 ·exact WF.pure _
 ·exact WF.halt _
theorem WF.sureAddr(v:Value):WF P (Instr.sureAddr v):=by
 unfold Instr.sureAddr;split
 ·exact WF.pure _
 ·exact WF.halt _
theorem WF.xd{s:Sem α}(h:∀w v w1,s.run P w≠ .ok v w1):WF P s:=fun w v w1 e=>absurd e (h w v w1)
theorem YP{s:Sem α}{f:α->Sem β}(h:∀x w v w1,(f x).run P w≠ .ok v w1):∀w v w1,(s >>= f).run P w≠ .ok v w1:=fun w v w1 e=>by
 rw[Sem.run_bind]at e;cases hs:s.run P w with
 |ok u w2=>simp_all
 |halt x w2=>simp_all
theorem jW(x:Halt):∀w v w1,(.halt x:Sem α).run P w≠ .ok v w1:=fun w v w1 e=>by simp_all
theorem n0(e:RuntimeError):∀w v w1,(runtimePanic e:Sem α).run P w≠ .ok v w1:=by
 unfold runtimePanic;refine YP fun p=> ?_
 dsimp only;split<;>first
  |exact jW _
  |exact YP fun _=>YP fun _=>jW _
  |exact YP fun _=>jW _
theorem WF.bounds(k:IntKind)(x y:Int)(c:BoundsCode):WF P (boundsPanic k x y c:Sem α):=WF.xd (by
 grind[boundsPanic,YP,n0])
theorem WF.part(t:TypeId)(cs:Array Value)(o:Nat):WF P (part t cs o):=WF.bind (WF.isAgg t) fun b=>by
 split
 ·grind[WF.bind,WF.sizeOf,WF.pure]
 ·split
  ·exact WF.pure _
  ·exact WF.halt _
theorem WF.field(t:TypeId)(x:Value)(f:Nat):WF P (Instr.field t x f):=WF.bind (WF.underlying t) fun d=>by
 split
 ·split
  ·grind[WF.bind,WF.asAgg,WF.part]
  ·exact WF.halt _
 ·exact WF.halt _
theorem WF.indexAt(t:TypeId)(x i:Value):WF P (Instr.indexAt t x i):=WF.bind (WF.asIntOf i) fun q=>by
 obtain⟨k,i⟩:=q;dsimp only;refine WF.bind (WF.underlying t) fun d=> ?_
 have rest:∀q:Option Addr×Nat×TypeId,WF P (do
   let d<-Go.underlying t
   match q.1 with
   |some a=>
    if 0<=i/\i<(q.2.1:Int)then do
     let s<-Go.sizeOf q.2.2
     Pure.pure (Value.pointer (some (a.add (i.toNat*s))))
    else if(decide (q.2.1<=1)&&(match d with| .array .. =>true|_=>false))=true then unsupported (.noEntry "op/indexAddr.an index out of range at an array of length 0 or 1 (ledger 616)")
    else boundsPanic k i q.2.1 .index
   |none=>boundsPanic k i 0 .index:Sem Value):=fun q=>by
  refine WF.bind (WF.underlying t) fun d=> ?_
  split
  ·split
   ·grind[WF.bind,WF.sizeOf,WF.pure]
   ·repeat' split
    all_goals first|exact WF.halt _|exact WF.bounds _ _ _ _
  grind[WF.bounds]
 split
 ·exact WF.bind (WF.sureAddr _) fun _=>WF.bind (WF.pure _) fun q=>rest q
 ·exact WF.bind (WF.pure _) fun q=>rest q
 ·exact WF.bind (WF.halt _) fun q=>rest q
theorem WF.index(t:TypeId)(x i:Value):WF P (Instr.index t x i):=WF.bind (WF.asIntOf i) fun q=>by
 obtain⟨k,i⟩:=q;dsimp only;refine WF.bind (WF.underlying t) fun d=> ?_
 split
 ·grind[WF.bind,WF.sizeOf,WF.part,WF.bounds]
 ·grind[WF.pure,WF.bounds]
 ·exact WF.halt _
theorem WF.extract(x:Value)(i:Nat):WF P (Instr.extract x i):=by
 unfold Instr.extract;split
 ·split
  ·exact WF.pure _
  ·exact WF.halt _
 ·exact WF.halt _
theorem WF.sliceBound(x:Value)(y:Nat)(c:BoundsCode):WF P (Instr.sliceBound x y c):=WF.bind (WF.asIntOf x) fun q=>by
 grind[WF.pure,WF.bounds]
theorem WF.sliceBounds(b:Bool)(len cap:Nat)(l h:Option Value):WF P (Instr.sliceBounds b len cap l h none):=by
 cases h with
 |none=>
  cases l with
  |none=>exact WF.bind (WF.pure _) fun _=>WF.bind (WF.pure _) fun _=>WF.bind (WF.pure _) fun _=>WF.pure _
  |some l=>exact WF.bind (WF.pure _) fun _=>WF.bind (WF.pure _) fun _=>WF.bind (WF.sliceBound _ _ _) fun _=>WF.pure _
 |some h=>
  cases l with
  |none=>exact WF.bind (WF.pure _) fun _=>WF.bind (WF.sliceBound _ _ _) fun _=>WF.bind (WF.pure _) fun _=>WF.pure _
  |some l=>exact WF.bind (WF.pure _) fun _=>WF.bind (WF.sliceBound _ _ _) fun _=>WF.bind (WF.sliceBound _ _ _) fun _=>WF.pure _
theorem WF.asAddr(v:Value):WF P (asAddr v):=by
 unfold Go.asAddr;split
 ·exact WF.pure _
 ·exact WF.xd (n0 _)
 ·exact WF.halt _
theorem WF.slice(t:TypeId)(x:Value)(l h:Option Value):WF P (Instr.slice t x l h none):=WF.bind (WF.underlying t) fun d=>by
 split
 ·grind[WF.bind,WF.sliceBounds,WF.pure]
 ·grind[WF.bind,WF.sliceBounds,WF.sizeOf,WF.pure]
 ·refine WF.bind (WF.asAddr _) fun _=>WF.bind (WF.underlying _) fun d=> ?_
  split
  ·grind[WF.bind,WF.sliceBounds,WF.sizeOf,WF.pure]
  ·exact WF.halt _
 ·exact WF.halt _
theorem WF.sliceAt(t:TypeId)(x:Value)(l h:Option Value):WF P (Instr.sliceAt t x l h none):=WF.bind (WF.underlying t) fun d=>by
 grind[WF.bind,WF.sureAddr,WF.sliceBounds,WF.sizeOf,WF.pure,WF.slice]
theorem WF.ug{f:α->Sem β}(h:∀x,WF P (f x)):∀l:List α,WF P (l.mapM f)
 |[]=>WF.pure _
 |x::l=>by
  rw[AZ9];exact WF.bind (h x) fun _=>WF.bind (WF.ug h l) fun _=>WF.pure _
theorem WF.mapM{f:α->Sem β}(h:∀x,WF P (f x))(a:Array α):WF P (a.mapM f):=by
 rw[Array.mapM_eq_mapM_toList,<-bind_pure_comp];grind[WF.bind,WF.ug,WF.pure]
theorem WF.build(t:TypeId)(ps:Array (Nat×Value)):WF P (Instr.build t ps):=WF.bind (WF.zeroValue t) fun z=>by
 refine WF.bind (WF.underlying t) fun d=> ?_
 split
 ·refine WF.bind (WF.mapM (fun f=>WF.bind (WF.sizeOf _) fun _=>WF.pure _) _) fun _=> ?_
  split
  ·exact WF.pure _
  ·exact WF.halt _
 ·refine WF.bind (WF.sizeOf _) fun _=> ?_
  split
  ·exact WF.pure _
  ·exact WF.halt _
 ·exact WF.halt _
end
end Go.Fw
end
section
namespace Go.Fw
def Kof(hint:ABU)(E:Env)(w:World)(bx:List Bx)(c:Nat):Prop:=E.T c\/ ∃n B,n∈hint/\bx[n]? =some B/\y_ E w n B c
def qZ(K:Nat->Prop)(w w':World):Prop:= ∀c,K c->w'.heap[c]? =w.heap[c]?
theorem ABK{w:World}{B:Nat->Prop}:∀{p:List Xw} {r:Ty} {h:Value} {rows:List r.D} {q:Ty} {ys:List q.D} {bb o len cap i:Nat},Rd w B (.sl r) [h] rows->DT r rows p->HZ r rows p=some ⟨q,ys⟩->
  JU w h p=some (.slice (some ⟨bb,o,none⟩) len cap)->i<ys.length->RB w (.sl r) [h] rows bb
 |[],r,h,rows,q,ys,bb,o,len,cap,i,hr,hp,hg,hh,hi=>by
  rw[DL]at hh;cases hh;simp only[HZ,AON,ARQ]at hg;obtain⟨rfl,hg⟩:=hg;obtain rfl:=AU_ hg;simp only[RB];grind
 |s::p,r,h,rows,q,ys,bb,o,len,cap,i,hr,hp,hg,hh,hi=>by
  simp only[DT]at hp;obtain⟨hsi,QW,hp⟩:=hp;simp only[Rd]at hr;obtain⟨a,cap',e1,_,hr⟩:=hr;obtain rfl:=(List.cons.inj e1).1;rcases hr with hr|⟨b',o',rfl,hb,hr⟩
  ·omega
  obtain⟨cs,hl,hc,hrow⟩:=hr s.i _ (SV hsi);simp only[HZ]at hg;split at hg
  case h_2=>cases hg
  rename_i q' x jl;rw[jl]at hp;dsimp only at hp;obtain⟨v,hv,hrv⟩:=gK hrow jl;have hcv:=hc _ _ hv;rw[<-QW]at hcv;simp only[JU,hcv]at hh;have:=ABK hrv hp hg hh hi;simp only[RB];refine⟨b',o',_,cap',rfl,by omega,.inr ⟨s.i,_,cs,SV hsi,hl,hc,?_⟩⟩;clear hc hcv e1 hr;exact RB_cell hrow jl hv this
where
 RB_cell {w:World} {B:Nat->Prop} {c:Nat}:∀{r:Ty} {cs:List Value} {x:r.D} {j:Nat} {t:Ty} {y:t.D} {v:Value},Rd w B r cs x->Ba r j x=some ⟨t,y⟩->cs[j]? =some v->RB w t [v] y c->RB w r cs x c
 | .cons c r,cs,x,0,t,y,v,h,e,hv,k=>by
  simp only[Rd]at h;obtain⟨u,l,rfl,h1,h2⟩:=h;simp only[Ba,AON,ARQ]at e;obtain⟨rfl,e⟩:=e;obtain rfl:=AU_ e;simp at hv;subst hv;simp only[RB];grind
 | .cons c r,cs,x,j+1,t,y,v,h,e,hv,k=>by
  simp only[Rd]at h;obtain⟨u,l,rfl,h1,h2⟩:=h;simp only[Ba]at e;have:=RB_cell h2 e (by simp_all) k;simp only[RB];grind
 | .int k,cs,x,0,t,y,v,h,e,hv,k' =>by
  simp only[Ba,AON,ARQ]at e;obtain⟨rfl,_⟩:=e;simp[RB]at k'
 | .bool,cs,x,0,t,y,v,h,e,hv,k' =>by
  simp only[Ba,AON,ARQ]at e;obtain⟨rfl,_⟩:=e;simp[RB]at k'
 | .str,cs,x,0,t,y,v,h,e,hv,k' =>by
  simp only[Ba,AON,ARQ]at e;obtain⟨rfl,_⟩:=e;simp[RB]at k'
 | .sl r,cs,x,0,t,y,v,h,e,hv,k=>by
  simp only[Ba,AON,ARQ]at e;obtain⟨rfl,e⟩:=e;obtain rfl:=AU_ e;have hl:=nQ h;simp only[Ty.n]at hl;obtain⟨u,rfl⟩:=List.length_eq_one_iff.1 hl;simp_all
 | .unit,_,_,_,_,_,_,_,e,_,_=>by simp[Ba]at e
 | .int _,_,_,_+1,_,_,_,_,e,_,_=>by simp[Ba]at e
 | .bool,_,_,_+1,_,_,_,_,e,_,_=>by simp[Ba]at e
 | .str,_,_,_+1,_,_,_,_,e,_,_=>by simp[Ba]at e
 | .sl _,_,_,_+1,_,_,_,_,e,_,_=>by simp[Ba]at e
section
variable{P:Program} {T:KS} (hT:FE P T) {E:Env} {w:World}
include hT
theorem uw{σ:St}{Fs:List ABU}(hB:OG E w σ.bx σ.bx Fs)(st:∀c,E.S c->E.T c){t:Nat}{x:AV}{z:XV}(e:oW T t σ (.c x)=some z){v:Value}(hx:VR E w σ.bx x v):
  ∃bb oo u y,v= .pointer (some ⟨bb,oo,none⟩)/\Js σ.bx x 0=some y/\XR E w σ.bx z u/\ ∀w',w'.heap[bb]? =w.heap[bb]?->(Instr.loadAt t v).run P w' = .ok u w':=by
 unfold oW at e;split at e
 case h_2=>cases e
 rename_i x' ti hx' Vz;cases hx';split at e
 case isTrue=>cases e
 rename_i QW;have lk:=fun w=>FE.isAgg hT Vz w
 split at e
 ·rename_i ha
  simp only[AOP]at e;obtain⟨l,hl,rfl⟩:=e;obtain⟨h1,h2⟩:=ck hl;have h0:0<l.length:=by omega
  obtain⟨b,o,u,hv,_,_⟩:=MQ hB st (h2 0 _ (AOM h0)) hx;obtain⟨cs,c1,c2,c3⟩:=fj hB st hx hv (l:=l) (j:=0) (fun i y hy=>by simp_all);subst hv;have km:=(hT t ti Vz).und;cases hd:ti.desc with
  |st fs=>
   rw[hd]at km;obtain⟨fields,hu,_⟩:=km;refine⟨b,o,.agg cs.toArray,_,rfl,by simpa using h2 0 _ (AOM h0),⟨cs.toArray,rfl,by omega⟩,fun w' hw=>run_loadAt_mid w' b o t cs _ (by have:=c2.of_block hw;grind[Bj,World.rangeAt]) hu rfl ?_⟩;grind[FE.size]
  |_=>grind[TD.agg]
 ·rename_i ha
  simp only[ASw]at ha;simp only[AOP]at e;obtain⟨y,hy,rfl⟩:=e;obtain⟨b,o,u,hv,hc,hr⟩:=MQ hB st hy hx;subst hv;refine⟨b,o,u,y,rfl,hy,hr,fun w' hw=> ?_⟩;have AOf:=lk w';rw[ha]at AOf;simp only[AW4]at hc;have eS:w'.cell? ⟨b,o,none⟩=some u:=by grind[World.cell?_of_block]
  simp[Instr.loadAt,Instr.sureAddr,loadVar,AOf,eS]
end
theorem yb{E E':Env}{w w':World}{vw vw':List Bx}{t:Ty}{x:t.D}{v:Value}(h:VR E w vw (.v t x) v):VR E' w' vw' (.v t x) v:=by
 obtain⟨h1,h2⟩:=h;refine⟨h1,?_⟩;cases t<;>simp_all[Ty.scalar,Rd]
theorem kp{E E':Env}{w w':World}{vw vw':List Bx}{t:Ty}{x:t.D}{v u:Value}(h:VR E w vw (.v t x) v)(k:VR E' w' vw' (.v t x) u):v=u:=by
 obtain⟨h1,h2⟩:=h;obtain⟨_,k2⟩:=k;cases t<;>simp_all[Ty.scalar,Rd]
def nj(x:XV):Prop:=(∃t z,x= .c (.v t z))\/(∃l,x= .agg l/\ ∀c∈l,∃t z,c= .v t z)
theorem M8{E E':Env}{w w':World}{vw vw':List Bx}{x:XV}{v:Value}(hp:nj x)(h:XR E w vw x v):XR E' w' vw' x v:=by
 rcases hp with⟨t,z,rfl⟩|⟨l,rfl,hl⟩
 ·exact yb (E:=E) (w:=w) (vw:=vw) (E':=E') (w':=w') (vw':=vw') h
 ·obtain⟨vs,rfl,Wy⟩:=h
  refine⟨vs,rfl,?_⟩
  generalize vs.toList=m at Wy
  induction l generalizing m with
  |nil=>cases m with
   |nil=>trivial
   |cons _ _=>exact Wy.elim
  |cons c l ih=>cases m with
   |nil=>exact Wy.elim
   |cons u m=>
    obtain⟨t,z,rfl⟩:=hl c (by simp);exact⟨yb Wy.1,ih (fun c hc=>hl c (by simp[hc])) m Wy.2⟩
theorem wG{d:TD}{x z:AV}{p:Bool}(e:rR d x z=some p):(∃t y,x= .v t y)/\ ∃t y,z= .v t y:=by
 unfold rR at e;grind
theorem ay{T:KS}:∀{i:Nat} {fs:List AD9} {l m:List AV} {r:Bool},L8 T i fs l m=some r->(∀c∈l,∃t z,c= .v t z)/\ ∀c∈m,∃t z,c= .v t z
 |i,[],[],[],r,e=>by simp
 |i,(o,t)::fs,x::l,z::m,r,e=>by
  simp only[L8]at e;split at e
  case isFalse=>cases e
  split at e
  case h_2=>cases e
  split at e
  case h_2=>cases e
  rename_i p hp;simp only[AOP]at e;obtain⟨r',e1,_⟩:=e;obtain⟨a1,a2⟩:=wG hp;obtain⟨b1,b2⟩:=ay e1;simp_all
 |_,[],[],_::_,_,e=>by simp[L8]at e
 |_,[],_::_,_,_,e=>by simp[L8]at e
 |_,_::_,[],_,_,e=>by simp[L8]at e
 |_,_::_,_::_,[],_,e=>by simp[L8]at e
theorem AIY{op:BinOp}{κ:IntKind}{a b:Int}{r:AV}(e:iG op κ a b some=some r):∃t x,r= .v t x:=by
 cases op<;>simp only[iG,AON]at e<;>first
  |exact⟨_,_,e.symm⟩
  |(grind)
  |cases e
theorem ADl{op:BinOp}{κ:IntKind}{a b:Int}{r:AV}(e:aI op κ a b some=some r):∃t x,r= .v t x:=by
 unfold aI at e;grind
theorem AL4{op:BinOp}{a b:ACH}{r:AV}(e:j9 op a b some=some r):∃t x,r= .v t x:=by
 cases op<;>simp only[j9,AON]at e<;>first
  |exact⟨_,_,e.symm⟩
  |(
   split at e
   all_goals grind)
  |cases e
theorem AQu{T:KS}{t:Nat}{op:BinOp}{a b:XV}{r:AV}(e:xt T t op a b some=some r):(∃t x,r= .v t x)/\nj a/\nj b:=by
 unfold xt at e;split at e
 ·refine⟨?_,.inl ⟨_,_,rfl⟩,.inl ⟨_,_,rfl⟩⟩
  grind[ADl,AIY]
 ·exact⟨AL4 e,.inl ⟨_,_,rfl⟩,.inl ⟨_,_,rfl⟩⟩
 ·refine⟨?_,.inl ⟨_,_,rfl⟩,.inl ⟨_,_,rfl⟩⟩
  grind
 ·split at e
  ·rename_i hq
   rw[AOc]at hq;obtain⟨fs,_,hq⟩:=hq;obtain⟨q1,q2⟩:=ay hq;cases e;exact⟨⟨_,_,rfl⟩,.inr ⟨_,rfl,q1⟩,.inr ⟨_,rfl,q2⟩⟩
  ·rename_i hq
   rw[AOc]at hq;obtain⟨fs,_,hq⟩:=hq;obtain⟨q1,q2⟩:=ay hq;cases e;exact⟨⟨_,_,rfl⟩,.inr ⟨_,rfl,q1⟩,.inr ⟨_,rfl,q2⟩⟩
  simp_all
 simp_all
theorem AHS{g:Bool}{a b:XV}{r:AV}(e:vW g a b some=some r):(∃t x,r= .v t x)/\nj a/\nj b:=by
 unfold vW at e;split at e
 ·refine⟨?_,.inl ⟨_,_,rfl⟩,.inl ⟨_,_,rfl⟩⟩
  grind
 simp_all
theorem AWW{op:UnOp}{a:XV}{r:AV}(e:unX op a some=some r):(∃t x,r= .v t x)/\nj a:=by
 unfold unX at e;split at e
 ·cases e;exact⟨⟨_,_,rfl⟩,.inl ⟨_,_,rfl⟩⟩
 ·cases e;exact⟨⟨_,_,rfl⟩,.inl ⟨_,_,rfl⟩⟩
 simp_all
section
variable{Y:Type} {P:Program} {T:KS} (hT:FE P T) {Γ:Nat->Option Qn} {o:Oper} {E:Env} {σ:St} {a:Act} {w:World} {k:K Y} {y:Y}
include hT
theorem ACk(h:Rel E σ a w){t:TypeId}(ps:Array (Nat×Operand)){s b:Nat}{fs:List AD9}{rw:Option Ty}(Vz:T.get t=some ⟨s,b,.st fs,rw⟩){r:Ty}(hr:T.j6 t=some r)
  {cs:List AV} (hb:jc T fs (cY r) (ps.toList.map fun q=>(q.1,σ.ev q.2))=some cs):
  ∃LP,(∀w',(Instr.build t (ps.map fun(i,x)=>(i,a.eval x))).run P w' = .ok (.agg LP) w')/\kM E w σ.bx cs LP.toList:=by
 obtain⟨i,z,h1,h2,h3,_⟩:=row_zero hT hr;obtain⟨fields,hu,hfs,QW⟩:=ALN hT Vz;obtain⟨LP,f1,f2⟩:=cL hT (sV h ps) (arr:=z.cells) (by grind[Ze]) hb;refine⟨LP,fun w' => ?_,f2⟩;have hb:P.built t (ps.map fun(i,x)=>(i,a.eval x)).toList=some LP:=by
  unfold Program.built;simp only[h1,hu,h2];have hm:fields.toList.mapM (fun f=>(P.info? f.type).map fun i=>(f.offset,i.size))=some (fields.toList.map fun f=>(f.offset,((P.info? f.type).map (·.size)).getD 0)):=by
   grind[sK]
  simp only[hm];rw[<-f1];congr 1;funext n;subst hfs;simp only[List.getElem?_toArray,AVI];cases hn:fields.toList[n]? with
  |none=>simp
  |some f=>
   obtain⟨i',Du,_⟩:=QW f (ASU hn);simp[Du]
 grind[run_build]
theorem AAk{hint:ABU}(h:Rel E σ a w)(hq:k_ hint σ o.op=true)(e:YC T Γ o σ k=some y):
  ∃v x,XR E w σ.bx x v/\k x σ=some y/\ ∀w',qZ (Kof hint E w σ.bx) w w'->(execOp a.eval o).run P w' = .ok (.value v) w':=by
 obtain⟨Fs,hB,hS⟩:=h.bx;have st:=hS.st;have wf:∀{s:Sem Value} {v:Value},WF P s->s.run P w= .ok v w-> ∀w',s.run P w' = .ok v w':=fun h1 h2 w' =>h1 w _ w h2 w'
 unfold YC at e;split at e
 ·rename_i x ho
  exact⟨a.eval x,_,h.ev x,e,fun w' _=>by grind[execOp,Sem.run_pure]⟩
 ·rename_i x ho
  unfold dD at e;split at e
  ·grind[k_]
  ·exact⟨a.eval x,_,h.ev x,e,fun w' _=>by grind[execOp,Sem.run_pure]⟩
 ·rename_i c xa xb ho
  split at e
  case h_2=>cases e
  rename_i p hp;have hc:=h.ev c;rw[hp]at hc;have eS:=Tf (E:=E) (w:=w) (vw:=σ.bx) hc;refine⟨if p then a.eval xa else a.eval xb,if p then σ.ev xa else σ.ev xb,by cases p<;>simp[h.ev],by grind[AEa],fun w' _=>by simp[execOp,ho,eS,asBool]⟩
 ·rename_i t ho;rw[ho]at hq;cases hq
 ·rename_i t x ho;rw[ho]at hq;cases hq
 ·rename_i t ps ho
  split at e
  case h_2=>cases e
  rename_i s b fs rw r Vz hr;split at e
  case h_2=>cases e
  rename_i cs xW;obtain⟨LP,h1,h2⟩:=ACk hT h ps Vz hr xW;exact⟨.agg LP,.agg cs,⟨LP,rfl,h2⟩,e,fun w' _=>by grind[execOp,Sem.run_bind,Result.andThen_ok,Sem.run_pure]⟩
 ·rename_i t n ps ho;rw[ho]at hq;cases hq
 ·rename_i t x ho
  rw[ho]at hq;split at e
  case h_2=>cases e
  rename_i z hz;have hv:=h.ev x;simp only[k_]at hq
  generalize hX:σ.ev x=X at hq hv hz
  cases X with
  |agg l=>cases hq
  |NW l=>cases hq
  |c ad=>
   obtain⟨bb,oo,u,cell,hp,hc,h2,h3⟩:=uw hT hB st hz hv;refine⟨u,z,h2,e,fun w' tL=> ?_⟩;have hbb:w'.heap[bb]? =w.heap[bb]?:=by
    refine tL bb ?_
    have Zh:VR E w σ.bx ad (a.eval x):=hv;cases ad with
    |I0 b j=>
     simp only[ib,AX1]at hq;simp only[Js]at hc;split at hc
     ·rename_i cs hb
      refine .inr ⟨b,_,hq,hb,?_⟩;have:=Zh.2;rw[hp]at this;simp only[Value.pointer.injEq,AON,Addr.mk.injEq]at this;exact this.1
     simp_all
    |Ju b p i sz j=>
     simp only[ib,AX1]at hq;simp only[Js]at hc;split at hc
     ·rename_i d q rows hb
      refine .inr ⟨b,_,hq,hb,?_⟩;simp only[VR,hb]at Zh;obtain⟨_,hpp,q1,ys,b2,o2,len,cap,g1,g2,g3,g4⟩:=Zh;rw[hp]at g4;simp only[Value.pointer.injEq,AON,Addr.mk.injEq]at g4;obtain⟨rfl,_⟩:=g4;obtain⟨F,⟨_,ho2⟩,_⟩:=hB.get hb;exact ABK (Ye ho2) hpp g1 g3 g2
     simp_all
    |QX s r z j=>
     obtain⟨b2,o2,cs,g1,g2,_⟩:=Zh;rw[hp]at g1;simp only[Value.pointer.injEq,AON,Addr.mk.injEq]at g1;obtain⟨rfl,_⟩:=g1
     left
     grind
    |_=>cases hq
   grind[execOp,Sem.run_bind,Result.andThen_ok,Sem.run_pure]
 ·rename_i t xa xx ho;rw[ho]at hq;cases hq
 ·rename_i x ho
  have hx:=h.ev x;split at e
  ·rename_i b j hp
   rw[hp]at hx;have hx':b<σ.bx.length/\a.eval x= .pointer (some ⟨E.Ia b,j,none⟩):=hx;grind[execOp,Sem.run_pure]
  ·rename_i b p i sz j hp
   rw[hp]at hx;have hpt:eD (a.eval x)=true:=hx.1;grind[eD,execOp,Sem.run_pure]
  ·rename_i s r z j hp
   rw[hp]at hx;obtain⟨bb,oo,cs,hv,hrest⟩:=hx;exact⟨a.eval x,.c (.QX s r z j),⟨bb,oo,cs,hv,hrest⟩,e,fun w' _=>by grind[execOp,Sem.run_pure]⟩
  ·rename_i f LO hp
   rw[hp]at hx;have hx':(∀b∈LO,b<σ.bx.length)/\a.eval x= .func (.func f) #[] (LO.map fun b=>Value.pointer (some ⟨E.Ia b,0,none⟩)).toArray:=hx;grind[execOp,Sem.run_pure]
  simp_all
 ·rename_i op t x z s ho
  rw[qW,AOc]at e;obtain⟨r,e1,e⟩:=e;obtain⟨⟨t',x',rfl⟩,p1,p2⟩:=AQu e1;obtain⟨r0,val,h1,h2,h3⟩:=ir hT e1 (h.ev x) (h.ev z) x z;cases h1;refine⟨val,.c (.v t' x'),h3,e,fun w' _=> ?_⟩;obtain⟨r1,val',g1,g2,g3⟩:=ir hT e1 (M8 (E':=E) (w':=w') (vw':=σ.bx) p1 (h.ev x)) (M8 p2 (h.ev z)) x z;cases g1;have:=kp h3 g3;subst this;simp only[execOp,ho,Sem.run_bind];simp_all
 ·rename_i op t x ho
  rw[vg,AOc]at e;obtain⟨r,e1,e⟩:=e;obtain⟨⟨t',x',rfl⟩,p1⟩:=AWW e1;obtain⟨r0,val,h1,h2,h3⟩:=mb (P:=P) e1 (h.ev x);cases h1;refine⟨val,.c (.v t' x'),h3,e,fun w' _=> ?_⟩;obtain⟨r1,val',g1,g2,g3⟩:=mb (P:=P) e1 (M8 (E':=E) (w':=w') (vw':=σ.bx) p1 (h.ev x));grind[kp,execOp,Sem.run_bind,Result.andThen_ok,Sem.run_pure]
 ·rename_i s d x ho;rw[ho]at hq;cases hq
 ·rename_i f first LO ho;rw[ho]at hq;cases hq
 ·rename_i t l c ho;rw[ho]at hq;cases hq
 ·rename_i t x lo hi ho
  obtain⟨z,val,h1,h2,h3⟩:=lQ hT hB st e (h.ev x) (ABt h lo) (ABt h hi);exact⟨val,z,h3,h1,fun w' _=>by simp only[execOp,ho,Option.map_none,Sem.run_bind,wf (WF.sliceAt _ _ _ _) h2 w',Result.andThen_ok,Sem.run_pure]⟩
 ·rename_i t x f ho
  split at e
  case h_2=>cases e
  rename_i z hz;obtain⟨u,h1,h2⟩:=ku hT hz (h.ev x);refine⟨u,z,h2,e,fun w' _=> ?_⟩;have hw:(Instr.fieldAt t (a.eval x) f).run P w' = .ok u w':=by
   have hx:=h.ev x;unfold wJ at hz;split at hz
   case h_2=>cases hz
   rename_i s b fs _ Vz;split at hz
   case h_2=>cases hz
   rename_i o' u' hf;have key:∀ad,a.eval x= .pointer (some ad)->(Instr.fieldAt t (a.eval x) f).run P w' = .ok u w':=by
    intro ad had;rw[had]at h1|-;have r1:=V4 hT (w:=w) Vz hf (a:=ad);grind[V4]
   split at hz
   ·rename_i b' j hp
    rw[hp]at hx;exact key _ hx.2
   ·rename_i b' p i sz j hp
    rw[hp]at hx;have hpt:eD (a.eval x)=true:=hx.1;unfold eD at hpt;grind
   ·rename_i s r y' j hp
    rw[hp]at hx;obtain⟨bb,oo,cs,hv,_⟩:=hx;simp_all
   simp_all
  grind[execOp,Sem.run_bind,Result.andThen_ok,Sem.run_pure]
 ·rename_i t x f ho
  split at e
  case h_2=>cases e
  rename_i z hz;obtain⟨u,h1,h2⟩:=od hT hz (h.ev x);exact⟨u,z,h2,e,fun w' _=>by simp only[execOp,ho,Sem.run_bind,wf (WF.field _ _ _) h1 w',Result.andThen_ok,Sem.run_pure]⟩
 ·rename_i t x i ho
  obtain⟨z,val,h1,h2,h3⟩:=kh hT hB st e (h.ev x) (h.ev i);exact⟨val,z,h3,h1,fun w' _=>by simp only[execOp,ho,Sem.run_bind,wf (WF.indexAt _ _ _) h2 w',Result.andThen_ok,Sem.run_pure]⟩
 ·rename_i t x i ho
  obtain⟨z,val,h1,h2,h3⟩:=df hT e (h.ev x) (h.ev i);exact⟨val,z,h3,h1,fun w' _=>by simp only[execOp,ho,Sem.run_bind,wf (WF.index _ _ _) h2 w',Result.andThen_ok,Sem.run_pure]⟩
 ·rename_i x i ho
  split at e
  case h_2=>cases e
  rename_i z hz;obtain⟨u,h1,h2⟩:=fH (P:=P) hz (h.ev x);exact⟨u,z,h2,e,fun w' _=>by simp only[execOp,ho,Sem.run_bind,wf (WF.extract _ _) h1 w',Result.andThen_ok,Sem.run_pure]⟩
 ·rename_i f args su ho;rw[ho]at hq;cases hq
 ·rename_i args su ho
  split at e
  ·rename_i s t I4 hts
   obtain⟨x,rfl,hx⟩:=Yc I4;have hv:=h.ev x;rw[hx]at hv;have Zh:=Yh (E:=E) (w:=w) (vw:=σ.bx) hv;split at e
   case isFalse=>cases e
   rename_i hs;have hu:=YQ hT hs;refine⟨.int .i64 (s.length:Int),.c (.v (.int .i64) (s.length:Int)),VR.int (E:=E) (vw:=σ.bx) _ _,e,fun w' _=> ?_⟩;have QW:(⟨s.toArray⟩:ByteArray).size=s.length:=by rfl
   simp[execOp,ho,resolve,invoke,builtin,Builtin.len_,hts,Zh,Bh hu,goInt,QW]
  ·rename_i z t _ I4 hts
   obtain⟨x,rfl,hx⟩:=Yc I4;have hv:=h.ev x;rw[hx]at hv;split at e
   case isFalse=>cases e
   rename_i hs;split at e
   case h_2=>cases e
   rename_i n hn;obtain⟨el,hu⟩:=mC hT hs;obtain⟨ad,cap,Zh⟩:=oG hB st hn hv;refine⟨.int .i64 (n:Int),.c (.v (.int .i64) (n:Int)),VR.int (E:=E) (vw:=σ.bx) _ _,e,fun w' _=> ?_⟩;simp[execOp,ho,resolve,invoke,builtin,Builtin.len_,hts,Zh,Bh hu,goInt]
  simp_all
 ·rename_i args su ho;rw[ho]at hq;cases hq
 ·rename_i args su ho;rw[ho]at hq;cases hq
 ·rename_i args su ho
  split at e
  case h_2=>cases e
  rename_i x1 x2 I4;obtain⟨o1,o2,rfl,hx1,hx2⟩:=YX I4;have eL:=h.ev o1;have aP:=h.ev o2;rw[hx1]at eL;rw[hx2]at aP;rw[bO,AOc]at e;obtain⟨r,e1,e⟩:=e;obtain⟨⟨t',x',rfl⟩,p1,p2⟩:=AHS e1;obtain⟨r0,val,h1,h2,h3⟩:=Ut (P:=P) (big:=true) e1 eL aP su #[] o.type;cases h1;refine⟨val,.c (.v t' x'),h3,e,fun w' _=> ?_⟩;obtain⟨r1,val',g1,g2,g3⟩:=Ut (P:=P) (big:=true) e1 (M8 (E':=E) (w':=w') (vw':=σ.bx) p1 eL) (M8 p2 aP) su #[] o.type;cases g1;have:=kp h3 g3;subst this;simp only[AVR]at g2;simp[execOp,ho,resolve,invoke,builtin,g2]
 ·rename_i args su ho
  split at e
  case h_2=>cases e
  rename_i x1 x2 I4;obtain⟨o1,o2,rfl,hx1,hx2⟩:=YX I4;have eL:=h.ev o1;have aP:=h.ev o2;rw[hx1]at eL;rw[hx2]at aP;rw[bO,AOc]at e;obtain⟨r,e1,e⟩:=e;obtain⟨⟨t',x',rfl⟩,p1,p2⟩:=AHS e1;obtain⟨r0,val,h1,h2,h3⟩:=Ut (P:=P) (big:=false) e1 eL aP su #[] o.type;cases h1;refine⟨val,.c (.v t' x'),h3,e,fun w' _=> ?_⟩;obtain⟨r1,val',g1,g2,g3⟩:=Ut (P:=P) (big:=false) e1 (M8 (E':=E) (w':=w') (vw':=σ.bx) p1 eL) (M8 p2 aP) su #[] o.type;cases g1;have:=kp h3 g3;subst this;simp only[AO5,ATF]at g2;simp[execOp,ho,resolve,invoke,builtin,g2]
 simp_all
end
end Go.Fw
end
section
namespace Go.Fw
section
variable{P:Program} {md:Region.Mode} {ops:Array Oper} {Q:Exit->Act->World->Prop}
theorem qZ.refl(K:Nat->Prop)(w:World):qZ K w w:=fun _ _=>rfl
def ym(P:Program)(md:Region.Mode)(ops:Array Oper)(Q:Exit->Act->World->Prop):Nat->Array Bool->(Nat->Prop)->Act->World->Prop
 |0,listed,_,a,w=>Region.ready md ops listed=[]/\Q .normal a w
 |fuel+1,listed,K,a,w=>(Region.ready md ops listed=[]->Q .normal a w)/\
  ∀i∈Region.ready md ops listed,wpOp P ops Q i (fun a' w' => ∃K':Nat->Prop,(∀c,K c->K' c)/\qZ K w w'/\ym P md ops Q fuel (listed.setIfInBounds i true) K' a' w') a w
theorem tq:∀(fuel:Nat) (listed:Array Bool) (K:Nat->Prop) (a:Act) (w:World),ym P md ops Q fuel listed K a w->wpAny P md ops Q fuel listed a w
 |0,_,_,_,_,h=>h
 |fuel+1,_,_,_,_,h=>⟨h.1,fun i hi=>wpOp_mono (fun a' w' ⟨K',_,_,h'⟩=>tq fuel _ K' a' w' h') (h.2 i hi)⟩
theorem YieldsIf.mono{S S':World->Prop}{o:Oper}{v:Value}{a:Act}(h:YieldsIf P ops S o v a)(hs:∀w,S' w->S w):YieldsIf P ops S' o v a:=
 h.imp (fun⟨h1,h2⟩=>⟨h1,fun w hw=>h2 w (hs w hw)⟩) id
theorem oD{i:Nat}{oi:Oper}{v:Value}(hi:ops[i]? =some oi)(AFq:∀(j:Nat) (o:Oper) cs b,ops[j]? =some o->o.op≠ .select cs b)(hQ:∀c a w,¬Q (.panic c) a w):
  ∀(fuel:Nat) (listed:Array Bool) (K:Nat->Prop) (a:Act) (w:World),
   (∀j oj,ops[j]? =some oj->j≠i->listed.getD j true=false->(∀e∈oj.after,Region.binds md e=true->e.on≠i)->oi.apart ops oj=true)->
   i∈Region.ready md ops listed->YieldsIf P ops (qZ K w) oi v a->ym P md ops Q fuel (listed.setIfInBounds i true) K (a.put oi.dst v) w->ym P md ops Q (fuel+1) listed K a w:=by
 intro fuel
 induction fuel with
 |zero=>
  intro listed K a w _ hr hy H;refine⟨fun h=>(by simp_all),fun j hj=> ?_⟩;by_cases hji:j=i
  ·subst hji;exact hy.wpOp hi (qZ.refl K w) ⟨K,fun _ h=>h,qZ.refl K w,H⟩
  ·have:=ready_mono hj hji
   rw[H.1]at this;cases this
 |succ fuel ih=>
  intro listed K a w dr hr hy H;refine⟨fun h=>(by simp_all),fun j hj=> ?_⟩;by_cases hji:j=i
  ·subst hji;exact hy.wpOp hi (qZ.refl K w) ⟨K,fun _ h=>h,qZ.refl K w,H⟩
  ·have h1:=H.2 j (ready_mono hj hji)
   obtain⟨hjun,oj,hoj,jH⟩:=mem_ready.1 hj;have AXA:∀e∈oj.after,Region.binds md e=true->e.on≠i:=fun e he hb heq=>by
    grind[mem_ready,Nat.lt_or_ge,Array.getElem?_eq_none]
   have h2:=wpOp_putIf hoj (dr j oj hoj hji hjun AXA) (fun cs b=>AFq i oi cs b hi) (fun cs b=>AFq j oj cs b hoj) (fun c a w h=>absurd h (hQ c _ w)) hy h1;have ASL:∀k ok,ops[k]? =some ok->k≠i->(listed.setIfInBounds j true).getD k true=false->
     (∀e∈ok.after,Region.binds md e=true->e.on≠i)->oi.apart ops ok=true:=fun k ok hk hki hun hno=>by
    refine dr k ok hk hki ?_ hno
    by_cases hjk:j=k
    all_goals simp_all
   refine wpOp_mono (fun a' w' h3=> ?_) h2;obtain⟨hy',K',hK,hs,ht⟩:=h3;refine⟨K',hK,hs,ih (listed.setIfInBounds j true) K' a' w' ASL (ready_mono hr (Ne.symm hji)) (YieldsIf.mono hy' fun w'' AdW c hc=>(AdW c (hK c hc)).trans (hs c hc)) ?_⟩;grind[Array.setIfInBounds_comm]
end
theorem oT{Y:Type}{f:Nat->List Bool->Option Y}{y:Y}:∀{rs:ABU},(∀ω,v8 f rs ω=some y)-> ∀i∈rs,∀ω,f i ω=some y
 |[i],h,j,hj,ω=>by
  simp at hj;subst hj;exact h ω
 |i::j::r,h,k,hk,ω=>by
  rcases ASY.1 hk with rfl|hk
  ·exact h (true::ω)
  ·exact oT (rs:=j::r) (fun ω=>h (false::ω)) k hk ω
theorem xm{σ:St}{t:Nat}{b:Bool}(e:σ.tm[t]? =some (.c (.v .bool b))):σ.put (some t) (.c (.v .bool b))=σ:=by
 simp only[St.put];obtain⟨tm,bx⟩:=σ;simp only[St.mk.injEq,AVW];obtain⟨Ha,he⟩:=AOS.1 e;apply AYd;grind
theorem tz{Y I:Type}[Nonempty I]{C:bF}{ops:Array Oper}{o:Oper}{kn:I->St->Option Y}{σ:St}{y:Y}{E:Env}{a:Act}{w:World}(h:Rel E σ a w)
  (e:∀ω,AB3 C ops o (kn ω) σ=some y):
  (Region.wanted o (yielded ops a.tmps)=true/\ ∀ω,(YC C.T C.Γ o σ fun x σ' =>kn ω (σ'.put o.dst x))=some y)\/
  (Region.wanted o (yielded ops a.tmps)=false/\ ∀ω,kn ω (σ.put o.dst (.NW []))=some y):=by
 unfold AB3 at e;cases hg:o.guard with
 |none=>
  simp only[hg]at e;grind[Region.wanted]
 |some q=>
  obtain⟨j,want⟩:=q;simp only[hg]at e;cases ht:(ops[j]?).bind (·.dst)with
  |none=>
   simp_all
  |some t=>
   simp only[ht]at e;obtain⟨i0⟩:= ‹Nonempty I›;have e0:=e i0;split at e0
   ·rename_i b hb
    simp only[hb]at e;obtain⟨v,hv,hx⟩:=h.tmp hb;have hvb:=Tf (E:=E) (w:=w) (vw:=σ.bx) hx;subst hvb;have hy:yielded ops a.tmps j=some b:=by rw[cM ht hv];rfl
    have hk:=xm hb;cases b with
    |true=>
     simp only[APm,tt,hk]at e;cases want with
     |true=>grind[Region.wanted]
     |false=>grind[Region.wanted]
    |false=>
     simp only[AOk,ff,hk]at e;cases want with
     |true=>grind[Region.wanted]
     |false=>grind[Region.wanted]
   ·rename_i hb
    simp only[hb]at e;obtain⟨v,hv,vs,rfl,hx⟩:=h.tmp hb;grind[yielded,cM,Region.wanted]
   simp_all
theorem AFH{ops:Array Oper}{o:Oper}{σ:St}{E:Env}{a:Act}{w:World}(h:Rel E σ a w)(e:idle ops σ o=true):Region.wanted o (yielded ops a.tmps)=false:=by
 unfold idle at e;cases hg:o.guard with
 |none=>simp_all
 |some q=>
  obtain⟨j,want⟩:=q;simp only[hg]at e;cases ht:(ops[j]?).bind (·.dst)with
  |none=>simp_all
  |some t=>
   simp only[ht]at e;split at e
   ·rename_i b hb
    obtain⟨v,hv,hx⟩:=h.tmp hb;have hvb:=Tf (E:=E) (w:=w) (vw:=σ.bx) hx;grind[yielded,cM,Region.wanted]
   ·rename_i hb
    obtain⟨v,hv,vs,rfl,hx⟩:=h.tmp hb;grind[yielded,cM,Region.wanted]
   simp_all
theorem uV{Y I:Type}[Nonempty I]{C:bF}{ops:Array Oper}{i:Nat}{o:Oper}(ho:ops[i]? =some o){kn:I->St->Option Y}{σ:St}{y:Y}{E:Env}{a:Act}{w:World}(h:Rel E σ a w)
  (e:∀ω,ABy C ops i (kn ω) σ=some y):
  (Region.wanted o (yielded ops a.tmps)=true/\ ∀ω,(YC C.T C.Γ o σ fun x σ' =>kn ω (σ'.put o.dst x))=some y)\/
  (Region.wanted o (yielded ops a.tmps)=false/\ ∀ω,kn ω (σ.put o.dst (.NW []))=some y):=
 tz h fun ω=>by
  grind[ABy]
theorem AFZ{hint t:ABU}{E E':Env}{bx RX:List Bx}{w w':World}(h:Sk t E bx w E' RX w')(ht:∀b∈t,b∉hint)(ha:∀b∈hint,mB RX b=false):
  (∀c,Kof hint E w bx c->Kof hint E' w' RX c)/\qZ (Kof hint E w bx) w w':=by
 have key:∀n B,n∈hint->bx[n]? =some B-> ∃B',RX[n]? =some B'/\WS B B'/\ ∀c,y_ E w n B c->w'.heap[c]? =w.heap[c]?:=by
  intro n B hn hB;have hd:=ha n hn;unfold mB at hd;split at hd
  ·cases hd
  ·rename_i B' ew Uf
   obtain⟨h1,h2⟩:=h.frame n B B' (fun hm=>ht n hm hn) hB Uf ew;simp_all
  simp_all
 refine⟨fun c hc=> ?_,fun c hc=> ?_⟩
 ·rcases hc with hc|⟨n,B,hn,hB,hc⟩
  ·exact .inl (h.base.T c hc)
  ·obtain⟨B',Uf,hs,hh⟩:=key n B hn hB
   have hid:=h.ids n (AOS.1 hB).1;refine .inr ⟨n,B',hn,Uf,?_⟩;cases B with
   |mem cs=>
    cases B' with
    |mem eY=>grind[y_]
    |sl _ _ _=>exact hs.elim
    |dead=>exact hs.elim
   |sl d r rows=>
    cases B' with
    |mem eY=>exact hs.elim
    |dead=>exact hs.elim
    |sl d' r' DE=>
     simp only[WS,ARQ]at hs;obtain⟨rfl,hs⟩:=hs;obtain rfl:=AU_ hs;grind[y_,px]
   |dead=>exact hc.elim
 ·rcases hc with hc|⟨n,B,hn,hB,hc⟩
  ·exact h.base.heap c hc
  grind
theorem ai{Y:Type}{C:bF}{hint:ABU}{ops:Array Oper}{kn:List Bool->St->Option Y}{fuel:Nat}{listed:Array Bool}{ω:List Bool}{σ:St}{y:Y}(e:VN C hint ops kn fuel listed ω σ=some y):∀b∈hint,mB σ.bx b=false:=by
 grind[VN,List.all_eq_true]
theorem wc{Y:Type}{P:Program}{C:bF}(hT:FE P C.T)(hΓ:jC P C.Γ){E0:Env}{w0:World}{N nb:Nat}{hint:ABU}{ops:Array Oper}{kn:List Bool->St->Option Y}{y:Y}{Q:Exit->Act->World->Prop}
  (AFq:Region.noSelect ops=true) (hP:∀c a w,¬Q (.panic c) a w) (hk:∀E σ a w,Ok E0 w0 N nb E σ a w->(∀ω,kn ω σ=some y)->Q .normal a w):
  ∀(fuel:Nat) {listed:Array Bool} {E:Env} {σ:St} {a:Act} {w:World},Ok E0 w0 N nb E σ a w->(∀ω,VN C hint ops kn fuel listed ω σ=some y)->ym P .any ops Q fuel listed (Kof hint E w σ.bx) a w:=by
 intro fuel
 induction fuel with
 |zero=>
  intro listed E σ a w h e;have e1:=fun ω=>e ω
  unfold VN at e1;have hal:=ai (e []);have APx:(hint.all fun b=> !mB σ.bx b)=true:=AVk.2 fun b hb=>by simp_all
  simp only[APx,AVR]at e1;cases hr:Region.ready .any ops listed with
  |nil=>
   simp only[hr]at e1;exact⟨hr,hk E σ a w h e1⟩
  |cons i rs=>
   simp_all
 |succ fuel ih=>
  intro listed E σ a w h e;have e1:=fun ω=>e ω
  unfold VN at e1;have hal:=ai (e []);have APx:(hint.all fun b=> !mB σ.bx b)=true:=AVk.2 fun b hb=>by simp_all
  simp only[APx,AVR]at e1;cases hr:Region.ready .any ops listed with
  |nil=>
   simp only[hr]at e1;exact⟨fun _=>hk E σ a w h e1,by simp_all⟩
  |cons i0 rs=>
   simp only[hr]at e1;cases hf:(i0::rs).find? (qU hint ops listed σ)with
   |some i=>
    simp only[hf]at e1;have hi:=AYG hf;have ht:=List.find?_some hf
    unfold qU at ht;cases ho:ops[i]? with
    |none=>simp_all
    |some o=>
     simp only[ho,AOw]at ht;have dr:=Region.free_spec ho ht.2;rw[<-hr]at hi;have hy:=uV (I:=List Bool) (kn:=fun ω σ' =>VN C hint ops kn fuel (listed.setIfInBounds i true) ω σ') ho h.rel e1;rcases hy with⟨hw,hx⟩|⟨hw,hx⟩
     ·have hq:k_ hint σ o.op=true:=by
       rcases AVX _ _▸ht.1 with hq|hi
       ·omega
       ·rw[AFH h.rel hi]at hw
        cases hw
      obtain⟨x,σ',hx0,hx1⟩:=mW hx;obtain⟨v,x',q1,q2,q3⟩:=AAk hT h.rel hq hx0;simp only[k0,AON,AUW]at q2;obtain⟨rfl,rfl⟩:=q2;have kQ:=ih (h.put o.dst q1) hx1;have wg:(σ.put o.dst x').bx=σ.bx:=by cases o.dst<;>rfl
      rw[wg]at kQ;exact oD ho (Region.noSelect_spec AFq) hP fuel listed _ a w dr hi (.inl ⟨hw,q3⟩) kQ
     ·have kQ:=ih (h.put o.dst rP) hx
      have wg:(σ.put o.dst (.NW [])).bx=σ.bx:=by cases o.dst<;>rfl
      rw[wg]at kQ;exact oD ho (Region.noSelect_spec AFq) hP fuel listed _ a w dr hi (.inr ⟨hw,rfl⟩) kQ
   |none=>
    simp only[hf]at e1;have jH:=oT e1;refine⟨fun h0=>(by simp_all),fun i hi=> ?_⟩;rw[hr]at hi;have hx:=jH i hi;cases ho:ops[i]? with
    |none=>
     simp_all
    |some o=>
     simp only[ho]at hx;have htc:(Ky C.Γ σ o.op).all (fun b=> !hint.contains b)=true:=by
      have:=hx [];simp_all
     simp only[htc,AVR]at hx;have htn:∀b∈Ky C.Γ σ o.op,b∉hint:=fun b hb hh=>by
      simp_all
     unfold wpOp;simp only[ho];rcases uV (I:=List Bool) (kn:=fun ω σ' =>VN C hint ops kn fuel (listed.setIfInBounds i true) ω σ') ho h.rel hx with⟨hw,hx⟩|⟨hw,hx⟩
     ·rw[AOJ hw]
      obtain⟨x,σ',hx0,hx1⟩:=mW hx;refine .inl (ABd hT hΓ h.rel hx0 fun v w' E' x' σ'' g1 g2 g3 g4 g5=> ?_);simp only[k0,AON,AUW]at g5;obtain⟨rfl,rfl⟩:=g5;have wg:(σ''.put o.dst x').bx=σ''.bx:=by cases o.dst<;>rfl
      have AWb:=ai (hx1 []);rw[wg]at AWb;obtain⟨k1,k2⟩:=AFZ g3 htn AWb;have kQ:=ih ((h.next g1 g3 g4).put o.dst g2) hx1;grind
     ·rw[AOK (by simp[hw])]
      have kQ:=ih (h.put o.dst rP) hx;have wg:(σ.put o.dst (.NW [])).bx=σ.bx:=by cases o.dst<;>rfl
      grind[qZ.refl]
end Go.Fw
end
section
namespace Go.Fw
theorem Rel.heap{E:Env}{σ:St}{a:Act}{w w':World}(h:Rel E σ a w)(hw:w'.heap=w.heap):Rel E σ a w':=by
 have keep:T8 E w σ.bx E w' σ.bx:=by
  refine⟨ATX _,fun _ _=>rfl,fun _ h=>h,fun _ h=>h,h.bx.st,fun _ _=>by rw[hw],fun b d r rows hb e=>⟨d,rows,e,fun p hp q ys hg=>⟨hp,⟨ys,hg,rfl⟩,fun hh he=> ?_⟩⟩⟩;obtain⟨Fs,⟨f1,f2⟩,_⟩:=h.bx;have hF:Fs[b]? =some (Fs[b]'(by omega)):=AOM _;exact v7 (f2 b _ _ e hF).2 (fun _ _=>by rw[hw]) (fun _ _=>by rw[hw]) hp hg he
 exact⟨h.Od,h.tm.imp fun _ _ hx=>P5 keep hx,h.bx.turn (fun _ _ hv=>Gi keep hv) (fun _ h=>h) (fun _ _=>rfl) (fun _ _=>rfl) (fun _ _ _=>by rw[hw]) fun F hF=>⟨hF.nodup,hF.free,fun c hc=>by rw[hw];exact hF.lt c hc,hF.st,fun c hc=>by rw[hw];exact hF.eT c hc⟩⟩
theorem Ok.drawn{E0 E:Env}{w0 w:World}{N nb:Nat}{σ:St}{a:Act}(h:Ok E0 w0 N nb E σ a w)(n:Nat):Ok E0 w0 N nb E σ a { w with drawn:=n }:=
 ⟨h.rel.heap rfl,⟨h.base.T,h.base.S,h.base.Tof,h.base.Sof,h.base.heap,h.base.os,h.base.tape,h.base.output,h.base.size⟩,h.tm,h.si,h.ids⟩
theorem mL{Y I:Type}[Nonempty I]{P:Program}{C:bF}(hT:FE P C.T)(hΓ:jC P C.Γ){E0:Env}{w0:World}{N nb:Nat}{all:Array Oper}{kn:I->St->Option Y}{y:Y}{Q:Exit->Act->World->Prop}
  (hk:∀E σ a w,Ok E0 w0 N nb E σ a w->(∀ω,kn ω σ=some y)->Q .normal a w):∀{l:List Oper} {E:Env} {σ:St} {a:Act} {w:World},Ok E0 w0 N nb E σ a w->(∀ω,v_ C all l (kn ω) σ=some y)->wpList P all Q l a w
 |[],E,σ,a,w,h,e=>hk E σ a w h e
 |o::rest,E,σ,a,w,h,e=>by
  unfold wpList;rcases tz (kn:=fun ω σ=>v_ C all rest (kn ω) σ) h.rel e with⟨hw,hx⟩|⟨hw,hx⟩
  ·rw[AOJ hw]
   obtain⟨x,σ',hx0,hx1⟩:=mW hx;refine .inl (ABd hT hΓ h.rel hx0 fun v w' E' x' σ'' g1 g2 g3 g4 g5=> ?_);simp only[k0,AON,AUW]at g5;obtain⟨rfl,rfl⟩:=g5;exact mL hT hΓ hk ((h.next g1 g3 g4).put o.dst g2) hx1
  ·rw[AOK (by simp[hw])]
   exact mL hT hΓ hk (h.put o.dst rP) hx
def O7(P:Program)(body:Code)(Q:Exit->Act->World->Prop)(a:Act)(w:World):Prop:=
 ∀(b:Frame) (k:List Item) (cs:List Frame),∃e a' w',Q e a' w'/\Arrives P (lone (b.at a (.code body:: .inLoop body::k)) cs w) b k cs e a' w'
theorem O7.wp{P:Program}{body:Code}{Q:Exit->Act->World->Prop}{a:Act}{w:World}(h:O7 P body Q a w):(Code.loop body).wp P Q a w:=fun b k cs=>by
 obtain⟨e,a',w',hq,eR⟩:=h b k cs;exact⟨e,a',w',hq,.of_steps (.one step_loop) eR⟩
theorem O7.AKS{P:Program}{body:Code}{Q:Exit->Act->World->Prop}{a:Act}{w:World}(h:body.wp P (Exit.then (O7 P body Q) Q) a w):O7 P body Q a w:=fun b k cs=>by
 obtain⟨e,a₁,w₁,hq,eR⟩:=h b (.inLoop body::k) cs;cases e with
 |normal=>
  obtain⟨e₂,a₂,w₂,hq₂,harr₂⟩:=hq b k cs;exact⟨e₂,a₂,w₂,hq₂,.of_steps (Steps.trans eR (.one step_inLoop)) harr₂⟩
 |exit id=>exact⟨_,a₁,w₁,hq,.pass (x:= .inLoop body) rfl (fun _ _=> .inl (by simp)) eR⟩
 |goto l=>exact⟨_,a₁,w₁,hq,.pass (x:= .inLoop body) rfl (fun _ _=> .inl (by simp)) eR⟩
 |ret=>exact⟨_,a₁,w₁,hq,.pass (x:= .inLoop body) rfl (fun _ _=> .inl (by simp)) eR⟩
 |panic ch=>exact⟨_,a₁,w₁,hq,.pass (x:= .inLoop body) rfl (fun _ _=> .inl (by simp)) eR⟩
 |outgrown=>exact⟨_,a₁,w₁,hq,.pass (x:= .inLoop body) rfl (fun _ _=> .inl (by simp)) eR⟩
abbrev mc:=Exit->Act->World->Prop
def At(P:Program):Code->mc->Nat->Code->mc->Prop
 | .seq a b,Q,ℓ,body,Q' =>At P a (Exit.then (b.wp P Q) Q) ℓ body Q'\/At P b Q ℓ body Q'
 | .cond _ a b,Q,ℓ,body,Q' =>At P a Q ℓ body Q'\/At P b Q ℓ body Q'
 | .block id c,Q,ℓ,body,Q' =>At P c (Exit.inBlock id Q) ℓ body Q'
 | .loop c,Q,ℓ,body,Q' =>(first c= ℓ /\body=c/\Q' =Q)\/At P c (Exit.then (O7 P c Q) Q) ℓ body Q'
 |_,_,_,_,_=>False
def fF(Q:mc):Prop:= ∀c a w,¬Q (.panic c) a w
theorem fF.then{Q:mc}(h:fF Q)(n:Act->World->Prop):fF (Exit.then n Q):=fun c a w hq=>h c a w hq
theorem fF.inBlock{Q:mc}(h:fF Q)(id:Nat):fF (Exit.inBlock id Q):=fun c a w hq=>h c a w hq
section
variable{Y:Type} {P:Program} {C:bF} (hT:FE P C.T) (hΓ:jC P C.Γ) (hm:P.follows .mixedOrders=true) {E0:Env} {w0:World} {N nb:Nat} {y:Y} {J:Nat->St->Option Y}
structure Good (E0:Env) (w0:World) (N nb:Nat) (y:Y) (kn:KN Y) (kx:Nat->KN Y) (kr:KN Y) (Q:mc):Prop where
 n:∀E σ a w,Ok E0 w0 N nb E σ a w->(∀ω,kn ω σ=some y)->Q .normal a w
 x:∀id E σ a w,Ok E0 w0 N nb E σ a w->(∀ω,kx id ω σ=some y)->Q (.exit id) a w
 r:∀E σ a w,Ok E0 w0 N nb E σ a w->(∀ω,kr ω σ=some y)->Q .ret a w
def JOk(P:Program)(E0:Env)(w0:World)(N nb:Nat)(y:Y)(J:Nat->St->Option Y)(cd:Code)(Q:mc):Prop:=
 ∀ ℓ body Q',At P cd Q ℓ body Q'-> ∀E σ a w,Ok E0 w0 N nb E σ a w->J ℓ σ=some y->O7 P body Q' a w
include hT hΓ hm in
theorem AAp:∀{cd:Code} {kn:KN Y} {kx:Nat->KN Y} {kr:KN Y} {Q:mc} {E:Env} {σ:St} {a:Act} {w:World},fF Q->Good E0 w0 N nb y kn kx kr Q->JOk P E0 w0 N nb y J cd Q->Ok E0 w0 N nb E σ a w->
  (∀ω,run C J cd kn kx kr ω σ=some y)->cd.wp P Q a w:=by
 intro cd
 induction cd with
 |skip=>intro kn kx kr Q E σ a w hp hg hj h e;exact wp_skip (hg.n E σ a w h e)
 |region id ops draw=>
  intro kn kx kr Q E σ a w hp hg hj h e;simp only[run]at e;cases draw with
  |false=>
   simp only[AO5,ATF]at e;exact wp_region_list (mL hT hΓ hg.n h e)
  |true=>
   simp only[AVR]at e;have hs:Region.noSelect ops=true:=by
    have:=e [];split at this
    ·rename_i hh;exact hh
    ·cases this
   simp only[hs,AVR]at e;exact wp_region_any hm (tq _ _ _ _ _ (wc hT hΓ hs hp hg.n _ (h.drawn _) e))
 |seq x z ihx ihz=>
  intro kn kx kr Q E σ a w hp hg hj h e;simp only[run]at e;refine wp_seq (ihx (hp.then _) ⟨fun E σ a w h e=>ihz hp hg (fun ℓ body Q' Sm=>hj ℓ body Q' (.inr Sm)) h e,fun id E σ a w h e=>hg.x id E σ a w h e,hg.r⟩ (fun ℓ body Q' Sm=>hj ℓ body Q' (.inl Sm)) h e)
 |cond c x z ihx ihz=>
  intro kn kx kr Q E σ a w hp hg hj h e;cases c with
  |tmp t=>
   simp only[run]at e;have e0:=e [];split at e0
   ·rename_i b hb
    simp only[hb]at e;obtain⟨v,hv,hx⟩:=h.rel.tmp hb;have hvb:=Tf (E:=E) (w:=w) (vw:=σ.bx) hx;subst hvb;have hev:a.eval (.tmp t)= .bool b:=by simp[Act.eval,AZW,hv]
    have hk:=xm hb;cases b with
    |true=>
     simp only[APm,tt,hk]at e;exact wp_cond_true hev (ihx hp hg (fun ℓ body Q' Sm=>hj ℓ body Q' (.inl Sm)) h e)
    |false=>
     simp only[AOk,ff,hk]at e;exact wp_cond_false hev (ihz hp hg (fun ℓ body Q' Sm=>hj ℓ body Q' (.inr Sm)) h e)
   ·cases e0
  |_=>cases e []
 |block id c ih=>
  intro kn kx kr Q E σ a w hp hg hj h e;simp only[run]at e;refine wp_block (ih (hp.inBlock id) ⟨hg.n,fun j E σ a w h e=> ?_,hg.r⟩ (fun ℓ body Q' Sm=>hj ℓ body Q' Sm) h e);simp only[Exit.inBlock];split
  ·rename_i hid
   simp only[hid,AVR]at e;exact hg.n E σ a w h e
  ·rename_i hid
   simp only[hid,ATF]at e;exact hg.x j E σ a w h e
 |loop body ih=>
  intro kn kx kr Q E σ a w hp hg hj h e;simp only[run]at e;exact O7.wp (hj (first body) body Q (.inl ⟨rfl,rfl,rfl⟩) E σ a w h (e []))
 |exit id=>intro kn kx kr Q E σ a w hp hg hj h e;exact wp_exit (hg.x id E σ a w h e)
 |ret=>intro kn kx kr Q E σ a w hp hg hj h e;exact wp_ret (hg.r E σ a w h e)
 |_=>intro kn kx kr Q E σ a w hp hg hj h e;cases e []
end
end Go.Fw
end
section
namespace Go.Fw
def labels:Code->List Nat
 | .seq a b=>labels a++labels b
 | .cond _ a b=>labels a++labels b
 | .block _ c=>labels c
 | .loop c=>first c::labels c
 |_=>[]
theorem At.label{P:Program}:∀{cd:Code} {Q:mc} {ℓ :Nat} {body:Code} {Q':mc},At P cd Q ℓ body Q'-> ℓ ∈labels cd
 | .seq a b,Q,ℓ,body,Q',h=>by
  simp only[labels,ARh];exact h.imp At.label At.label
 | .cond _ a b,Q,ℓ,body,Q',h=>by
  simp only[labels,ARh];exact h.imp At.label At.label
 | .block _ c,Q,ℓ,body,Q',h=>At.label (cd:=c) h
 | .loop c,Q,ℓ,body,Q',h=>by
  simp only[labels,ASY];exact h.imp (fun h=>h.1.symm) At.label
section
variable{Y:Type} {P:Program} {C:bF} (hT:FE P C.T) (hΓ:jC P C.Γ) (hm:P.follows .mixedOrders=true) {E0:Env} {w0:World} {N nb:Nat} {y:Y} {J:Nat->St->Option Y}
theorem SB{ℓ :Nat}:∀{cd:Code} {kn:KN Y} {kx:Nat->KN Y} {kr:KN Y},ℓ ∉labels cd->find C J ℓ cd kn kx kr=none
 | .seq a b,kn,kx,kr,h=>by
  simp only[labels,ARh,not_or]at h;simp only[find];rw[SB h.1];exact SB h.2
 | .cond _ a b,kn,kx,kr,h=>by
  simp only[labels,ARh,not_or]at h;simp only[find];rw[SB h.1];exact SB h.2
 | .block _ c,kn,kx,kr,h=>by simp only[find];exact SB (cd:=c) h
 | .loop c,kn,kx,kr,h=>by
  simp only[labels,ASY,not_or]at h;simp only[find];rw[AOK (fun e=>h.1 e.symm)];exact SB h.2
 | .skip,_,_,_,_=>rfl
 | .region _ _ _,_,_,_,_=>rfl
 | .rangeFunc _ _ _ _,_,_,_,_=>rfl
 | .exit _,_,_,_,_=>rfl
 | .scope _,_,_,_,_=>rfl
 | .label _,_,_,_,_=>rfl
 | .goto _,_,_,_,_=>rfl
 | .ret,_,_,_,_=>rfl
 | .refuse _,_,_,_,_=>rfl
include hT hΓ hm in
theorem ANN{ℓ :Nat}:∀{cd:Code} {kn:KN Y} {kx:Nat->KN Y} {kr:KN Y} {Q:mc} {body:Code} {Q':mc},(labels cd).Nodup->fF Q->Good E0 w0 N nb y kn kx kr Q->JOk P E0 w0 N nb y J cd Q->At P cd Q ℓ body Q'->
  ∃kn' kx' kr',find C J ℓ cd kn kx kr=some (fun ω σ=>run C J body (fun _ σ=>J ℓ σ) kx' kr' ω σ)/\Good E0 w0 N nb y kn' kx' kr' Q'/\fF Q'/\JOk P E0 w0 N nb y J body (Exit.then (O7 P body Q') Q'):=by
 intro cd
 induction cd with
 |seq a b iha ihb=>
  intro kn kx kr Q body Q' hn hp hg hj Sm;simp only[labels,ARZ]at hn;obtain⟨n1,n2,n3⟩:=hn;have hja:JOk P E0 w0 N nb y J a (Exit.then (b.wp P Q) Q):=fun ℓ body Q' Sm=>hj ℓ body Q' (.inl Sm)
  have hjb:JOk P E0 w0 N nb y J b Q:=fun ℓ body Q' Sm=>hj ℓ body Q' (.inr Sm)
  simp only[find];rcases Sm with Sm|Sm
  ·obtain⟨kn',kx',kr',h1,h2⟩:=iha n1 (hp.then _) (kn:=fun ω σ=>run C J b kn kx kr ω σ) (kx:=kx) (kr:=kr)
    ⟨fun E σ a w h e=>AAp hT hΓ hm hp hg hjb h e,fun id E σ a w h e=>hg.x id E σ a w h e,hg.r⟩ hja Sm
   exact⟨kn',kx',kr',by rw[h1],h2⟩
  ·have: ℓ ∉labels a:=fun h=>n3 ℓ h ℓ Sm.label rfl
   rw[SB this];exact ihb n2 hp hg hjb Sm
 |cond c a b iha ihb=>
  intro kn kx kr Q body Q' hn hp hg hj Sm;simp only[labels,ARZ]at hn;obtain⟨n1,n2,n3⟩:=hn;simp only[find];rcases Sm with Sm|Sm
  ·obtain⟨kn',kx',kr',h1,h2⟩:=iha n1 hp hg (fun ℓ body Q' Sm=>hj ℓ body Q' (.inl Sm)) Sm
   exact⟨kn',kx',kr',by rw[h1],h2⟩
  ·have: ℓ ∉labels a:=fun h=>n3 ℓ h ℓ Sm.label rfl
   rw[SB this];exact ihb n2 hp hg (fun ℓ body Q' Sm=>hj ℓ body Q' (.inr Sm)) Sm
 |block id c ih=>
  intro kn kx kr Q body Q' hn hp hg hj Sm;simp only[find];refine ih hn (hp.inBlock id) ⟨hg.n,fun j E σ a w h e=> ?_,hg.r⟩ (fun ℓ body Q' Sm=>hj ℓ body Q' Sm) Sm;simp only[Exit.inBlock];split
  ·rename_i hid
   simp only[hid,AVR]at e;exact hg.n E σ a w h e
  ·rename_i hid
   simp only[hid,ATF]at e;exact hg.x j E σ a w h e
 |loop c ih=>
  intro kn kx kr Q body Q' hn hp hg hj Sm;simp only[labels,AZO]at hn;have hj':JOk P E0 w0 N nb y J c (Exit.then (O7 P c Q) Q):=fun ℓ body Q' Sm=>hj ℓ body Q' (.inr Sm)
  simp only[find];by_cases hl:first c= ℓ
  ·rw[AOJ hl]
   rcases Sm with⟨_,rfl,rfl⟩|Sm
   ·exact⟨kn,kx,kr,rfl,hg,hp,hj'⟩
   ·exact absurd (hl▸Sm.label) hn.1
  ·rw[AOK hl]
   rcases Sm with⟨h,_⟩|Sm
   ·exact absurd h hl
   ·exact ih hn.2 (hp.then _) ⟨fun E σ a w h e=>hj (first c) c Q (.inl ⟨rfl,rfl,rfl⟩) E σ a w h (e []),fun id E σ a w h e=>hg.x id E σ a w h e,hg.r⟩ hj' Sm
 |_=>intro kn kx kr Q body Q' hn hp hg hj Sm;exact Sm.elim
end
theorem ks{E:Env}{w:World}{vw:List Bx}:∀{l:List (Nat×XP)} {x:HU.V l} {vals:List Value} {tm:List XV},PD E w vw id l x vals->Cg (XR E w vw) tm vals->Cg (XR E w vw) (HU.mk id l x tm) vals
 |[],_,_,_,_,h=>h
 |(i,p)::l,x,vals,tm,hs,h=>by
  obtain⟨⟨v,hv,hx⟩,hs⟩:=hs;simp only[HU.mk];refine ks hs ?_
  have:=Cg.set (i:=i) h hx;have e:vals.set i v=vals:=by
   apply AYd;grind
  simp_all
theorem Cg.undef{E:Env}{w:World}{vw:List Bx}:∀{vals:List Value} {n:Nat},n=vals.length->Cg (XR E w vw) (List.replicate n (.c .undef)) vals
 |[],n,h=>by subst h;trivial
 |v::vals,n,h=>by
  subst h;simp only[ART,List.replicate_succ];exact⟨trivial,Cg.undef rfl⟩
theorem wL.shared{E E1:Env}{w:World}{bx:List Bx}{m:Qi}{s:BI}{x:s.V}{vals:List Value}(h:wL E w bx m s x vals E1)(hb:DQ E w bx bx []):
  ∃E2,E2.Ia=E1.Ia/\E2.IZ=E1.IZ/\fJ E w E2 w/\DQ E2 w (KM.mk id s.HO x.2) (KM.mk id s.HO x.2) []/\PD E2 w (KM.mk id s.HO x.2) id s.EH x.1 vals:=by
 obtain⟨Fk,k1,k2,k3,k4⟩:=h.rest
 let E2:Env:={ E1 with S:=fun c=>E1.S c\/c∈Fk.flatten }
 have st1:=h.boxes.st;have keep:T8 E1 w (KM.mk id s.HO x.2) E2 w (KM.mk id s.HO x.2):=
  ⟨ATX _,fun _ _=>rfl,fun _ h=>h,fun _ h=> .inl h,st1,fun _ _=>rfl,fun b d r rows _ e=>⟨d,rows,e,fun p hp q ys hg=>⟨hp,⟨ys,hg,rfl⟩,fun _ h=>h⟩⟩⟩
 refine⟨E2,rfl,rfl,⟨h.T,fun c hc=> .inl (h.S c hc),fun c hc=> ?_,fun c hc=> ?_,fun _ _=>rfl,rfl,rfl,rfl,ATX _⟩,?_,?_⟩
 ·grind
 ·rcases hc with hc|hc
  ·exact h.Sof c hc
  grind
 ·refine h.boxes.turn (E':=E2) (w':=w) (fun _ _ hv=>Gi keep hv) (fun _ h=> .inl h) (fun _ _=>rfl) (fun _ _=>rfl) (fun _ _ _=>rfl) fun F hF=>⟨hF.nodup,hF.free,hF.lt,fun c hc=>hc.elim (hF.st c) fun h=>(k3 c h).2.2.2,hF.eT⟩
 ·have:∀{l:List (Nat×XP)} {z:HU.V l},PD E1 w (KM.mk id s.HO x.2) id l z vals->PD E2 w (KM.mk id s.HO x.2) id l z vals:=by
   intro l
   induction l with
   |nil=>intro z h;trivial
   |cons q l ih=>
    obtain⟨i,p⟩:=q;intro z h;obtain⟨⟨v,hv,hx⟩,hs⟩:=h;exact⟨⟨v,hv,P5 keep hx⟩,ih hs⟩
  exact this h.EH
theorem jE:∀{l:List BP} {i n:Nat},(Ua i n l).length=l.length
 |[],_,_=>rfl
 |_::l,i,n=>by simp[Ua,jE (l:=l)]
theorem iY:∀{l:List BP} {i n k b:Nat},(Ua i n l)[k]? =some (some b)->b=i+k/\b<n/\l[k]?≠some .gone
 |[],i,n,k,b,h=>by simp[Ua]at h
 |p::l,i,n,0,b,h=>by
  grind[Ua,List.getElem?_cons_zero,Option.some.injEq]
 |p::l,i,n,k+1,b,h=>by
  simp only[Ua,List.getElem?_cons_succ]at h;obtain⟨h1,h2,h3⟩:=iY h;grind
theorem jo:∀{l:List BP} {i n k:Nat} {p:BP},l[k]? =some p->p≠ .gone->i+k<n->(Ua i n l)[k]? =some (some (i+k))
 |q::l,i,n,0,p,h,hg,hn=>by
  simp at h;subst h;simp only[Ua,List.getElem?_cons_zero,AON];simp_all
 |q::l,i,n,k+1,p,h,hg,hn=>by
  simp only[Ua,List.getElem?_cons_succ];rw[jo (l:=l) (i:=i+1) (k:=k) (by simp_all) hg (by omega)];grind
 |[],_,_,_,_,h,_,_=>by simp at h
theorem rV{l:List BP}{n:Nat}:qh (Ua 0 n l):=fun i j b h k=>by
 have:=(iY h).1;have:=(iY k).1;omega
end Go.Fw
end
section
namespace Go.Fw
structure AWF (P:Program) (f:Nat) (fn:Func) (c:Qn):Prop where
 at_:P.funcs[f]? =some fn
 call:∀args w,(callFunc f args).run P w= .ok (.enter f args) w
 con:c.ok=true
 tmps:c.ins.EH.length<=fn.ntmps
 labels:∀code,fn.body=some code->(labels code).Nodup
section
variable{P:Program} {C:bF} (hT:FE P C.T) {E:Env} {σ:St} {a:Act} {w:World}
include hT in
theorem AGy(h:Rel E σ a w):
  ∀{rs:List ResultVar} {xs:List XV},rs.mapM (AF1 C.T σ)=some xs-> ∃vs,(∀f:ResultVar->Sem Value,(∀u,f (.tmp u)=pure (a.tmps.getD u undef))->(∀b t,f (.cell b t)=(do loadVar t (<-asAddr (a.tmps.getD b undef))))->
   (rs.mapM f).run P w= .ok vs w)/\Cg (XR E w σ.bx) xs vs:=by
 intro rs
 induction rs with
 |nil=>
  intro xs e;have hx:xs=[]:=by simpa using e.symm
  subst hx;exact⟨[],fun f _ _=>by simp,trivial⟩
 |cons r rs ih=>
  intro xs e;rw[AZ9]at e;simp only[Option.bind_eq_bind,AOc,Option.pure_def,AON]at e;obtain⟨x,e1,ys,e2,rfl⟩:=e;obtain⟨vs,h1,h2⟩:=ih e2;have one:∃v,(∀f:ResultVar->Sem Value,(∀u,f (.tmp u)=pure (a.tmps.getD u undef))->(∀b t,f (.cell b t)=(do loadVar t (<-asAddr (a.tmps.getD b undef))))->(f r).run P w= .ok v w)/\XR E w σ.bx x v:=by
   cases r with
   |tmp t=>
    simp only[AF1]at e1;obtain⟨v,hv,hx⟩:=h.tmp e1;refine⟨v,fun f hf hc=> ?_,hx⟩;rw[hf];simp[AZW,hv]
   |cell b t=>
    simp only[AF1]at e1;split at e1
    case h_2=>cases e1
    rename_i z hz;obtain⟨v,hv,hx⟩:=h.tmp hz;obtain⟨Fs,hB,hS⟩:=h.bx;cases z with
    |agg l=>simp[oW]at e1
    |NW l=>simp[oW]at e1
    |c ad=>
     obtain⟨bb,oo,u,cell,hp,_,q2,q3⟩:=uw hT hB hS.st e1 hx;refine⟨u,fun f hf hc=> ?_,q2⟩;have hgd:a.tmps.getD b undef=v:=by simp[AZW,hv]
     have:=q3 w rfl;rw[hc,hgd,hp];rw[hp]at this;simpa[Instr.loadAt,Instr.sureAddr,asAddr]using this
  obtain⟨v,g1,g2⟩:=one;refine⟨v::vs,fun f hf hc=> ?_,g2,h2⟩;rw[AZ9];simp[g1 f hf hc,h1 f hf hc]
theorem ic{vw:List Bx}:∀{l:List XV} {q:List (AV ⊕ List AV)} {vs:List Value},yd l=some q->Cg (XR E w vw) l vs->Cg (TR E w vw) q vs
 |[],q,[],e,_=>by
  simp only[yd,AON]at e;subst e;trivial
 |[],_,_::_,_,h=>h.elim
 | .c x::l,q,v::vs,e,h=>by
  simp only[yd,AOP]at e;obtain⟨r,e1,rfl⟩:=e;exact⟨h.1,ic e1 h.2⟩
 | .agg x::l,q,v::vs,e,h=>by
  simp only[yd,AOP]at e;obtain⟨r,e1,rfl⟩:=e;exact⟨h.1,ic e1 h.2⟩
 | .NW _::_,_,_,e,_=>by simp[yd]at e
 | .c _::_,_,[],_,h=>h.elim
 | .agg _::_,_,[],_,h=>h.elim
include hT in
theorem tY(h:Rel E σ a w){fn:Func}{x:XV}(e:kz C.T σ fn.results.toList=some x):∃v,(results fn a.tmps).run P w= .ok v w/\XR E w σ.bx x v:=by
 unfold kz at e;have key:∀xs,fn.results.toList.mapM (AF1 C.T σ)=some xs-> ∃vs:List Value,(results fn a.tmps).run P w= .ok (if h:vs.toArray.size=1 then vs.toArray[0]else .tuple vs.toArray) w/\Cg (XR E w σ.bx) xs vs:=by
  intro xs hx;obtain⟨vs,h1,h2⟩:=AGy (P:=P) hT h hx;refine⟨vs,?_,h2⟩;unfold results;rw[Array.mapM_eq_mapM_toList];simp only[Sem.run_bind,Sem.run_map];rw[h1 _ (fun _=>rfl) (fun _ _=>rfl)];simp only[Result.andThen_ok,Sem.run_pure]
 split at e
 ·rename_i z hz
  cases e;obtain⟨vs,h1,h2⟩:=key _ hz
  match vs,h2 with
  |[v],h2=>exact⟨v,by simpa using h1,h2.1⟩
  |v::_::_,h2=>exact h2.2.elim
  |[],h2=>exact h2.elim
 ·rename_i l hl hz
  simp only[AOP]at e;obtain⟨q,e1,rfl⟩:=e;obtain⟨vs,h1,h2⟩:=key _ hz;have ew: ¬vs.toArray.size=1:=fun hs=>by
   have:=Cg.len h2
   match l,this with
   |[z],_=>exact hl z rfl
   |[],t=>simp at t hs;omega
   |_::_::_,t=>simp at t hs;omega
  rw[dif_neg ew]at h1;exact⟨_,h1,vs.toArray,rfl,by simpa using ic e1 h2⟩
 ·cases e
end
theorem hI{E:Env}{w:World}{vw:List Bx}{more:List Value}:∀{l:List (Nat×XP)} {x:HU.V l} {vals:List Value},PD E w vw id l x vals->PD E w vw id l x (vals++more)
 |[],_,_,_=>trivial
 |(i,p)::l,x,vals,h=>by
  obtain⟨⟨v,hv,hx⟩,hs⟩:=h;exact⟨⟨v,by grind,hx⟩,hI hs⟩
def ABv(C:bF)(c:Qn)(fn:Func)(code:Code)(J:Nat->Nat->St->Option c.outs.V):Prop:=
 ∀ ℓ,ℓ ∈labels code-> ∃(s:BI) (F:Nat->s.V->Option c.outs.V),(∀n,J n ℓ =jump c.ins.HO.length s (F n))/\(∀v,F 0 v=none)/\
  ∀n v y,F (n+1) v=some y-> ∀ω,HW C c fn (J n) ℓ ω (s.st fn.ntmps v)=some y
section
variable{P:Program} {C:bF} (hT:FE P C.T) (hΓ:jC P C.Γ) (hm:P.follows .mixedOrders=true) {fn:Func} {c:Qn}
def ASv(c:Qn)(E0:Env)(w0:World)(u:c.outs.V)(e:Ending)(w':World):Prop:=
 ∃x E',e= .returned x/\fJ E0 w0 E' w'/\DQ E' w' (KM.mk id c.outs.HO u.2) (KM.mk id c.outs.HO u.2) []/\
  PD E' w' (KM.mk id c.outs.HO u.2) id c.outs.EH u.1 [x]/\ ∀i,i<c.ins.HO.length->alive c.outs.HO i=true->E'.Ia i=E0.Ia i/\E'.IZ i=E0.IZ i
theorem Ok.opens{E0 E:Env}{w0 w:World}{N nb:Nat}{σ:St}{a:Act}(h:Ok E0 w0 N nb E σ a w)(s:BI):∃E',Ok E0 w0 N nb E' { σ with bx:=s.opens σ.bx } a w/\
  (∀(i:Nat) d r,s.HO[i]? =some (.sl d r)->E'.IZ (σ.bx.length+i)= .slice none 0 0)/\(∀x v,XR E w σ.bx x v->XR E' w (s.opens σ.bx) x v):=by
 obtain⟨E',h1,h2,h3,h4⟩:=tw h.rel s;exact⟨E',h.next h1 h2 rfl,h3,h4⟩
theorem AHe{E E':Env}{w:World}{vw:List Bx}{b:Nat}(h:Le E E')(st:∀c,E.S c->E.T c):T8 E w vw E' w (vw.set b .dead):=by
 refine⟨by simp,fun b _=>by rw[h.Ia],h.T,h.S,st,fun _ _=>rfl,fun c d r rows _ e=> ?_⟩;by_cases hc:c=b
 ·simp_all
 ·rw[AVL (fun e=>hc e.symm)]at e
  exact⟨d,rows,e,fun p hp q ys hg=>⟨hp,⟨ys,hg,rfl⟩,fun h' hh=>by rw[h.IZ];omega⟩⟩
theorem ALv{E:Env}{σ:St}{a:Act}{w:World}(h:Rel E σ a w)(b:Nat):∃E',Rel E' (σ.q9 b) a w/\Le E E':=by
 unfold St.q9;split
 case h_2=>grind[Le.refl]
 rename_i d r rows hb;obtain⟨F,hF,hB⟩:=h.bx.take hb;have ZI:DQ E w σ.bx (σ.bx.set b .dead) ([]++F++[]):=by simp_all
 obtain⟨hle,hB3⟩:=ZI.share;have hk:=AHe (vw:=σ.bx) (b:=b) (w:=w) hle h.bx.st;have hk2:T8 E w σ.bx { E with S:=fun c=>E.S c\/c∈F,T:=fun c=>E.T c\/c∈F } w ((σ.bx.set b .dead).map (Bx.q9 b r rows)):=by
  refine⟨by simp,hk.Ia,hk.T,hk.S,hk.st,hk.heap,fun c d' r' DE hc e=> ?_⟩;rw[AVI,AOP]at e;obtain⟨B,e,eB⟩:=e;cases B with
  |mem cs=>cases eB
  |dead=>cases eB
  |sl d0 r0 S7=>
   cases eB;grind
 have hv:∀x v,VR E w σ.bx x v->VR { E with S:=fun c=>E.S c\/c∈F,T:=fun c=>E.T c\/c∈F } w ((σ.bx.set b .dead).map (Bx.q9 b r rows)) (x.q9 b r rows) v:=fun x v hx=>by
  unfold AV.q9;split
  ·rename_i c
   split
   ·rename_i hc
    subst hc;obtain⟨h1,h2⟩:=hx;rw[hb]at h2;have hv:=h2.2.2;rw[DL]at hv;simp only[AON]at hv;have:=Ye hF.2;rw[hv]at this;exact GD (fun c hc=>hc) (fun _ _=>rfl) this
   grind[Gi]
  grind[Gi]
 refine⟨_,⟨h.Od,?_,?_⟩,hle⟩
 ·refine Cg.MR _ (fun x v hx=> ?_) h.tm
  unfold XV.q9;split
  ·exact hv _ _ hx
  grind[P5]
 ·obtain⟨Fs,⟨hl,h1⟩,h2⟩:=hB
  have h2':Sep E w (F++Fs.flatten):=h2.perm (by grind);refine⟨Fs,⟨by simp_all,fun k B G Uf hG=> ?_⟩,?_⟩
  ·rw[AVI,AOP]at Uf
   obtain⟨B0,e,rfl⟩:=Uf;have h3:=h1 k B0 G e hG;cases B0 with
   |mem cs=>
    obtain⟨rfl,arr,ty,fr,a1,a2,a3⟩:=h3;exact⟨rfl,arr,ty,fr,a1,a2,Cg.MR _ (fun x v hx=>hv x v hx) a3⟩
   |sl d0 r0 S7=>exact⟨h3.1,En hle.S (fun _ _=>rfl) (fun _ _=>rfl) h3.2⟩
   |dead=>exact h3
  ·rw[AQO]
   have st:=h.bx.st;refine⟨(ARZ.1 h2'.nodup).2.1,fun c hc ht=> ?_,fun c hc=>h2'.lt c (by simp_all),fun c hc=>hc.imp (st c) id,fun c hc=>hc.elim (h2'.eT c) fun h' =>h2'.lt c (by simp[h'])⟩;rcases ht with ht|ht
   ·exact h2'.free c (ARh.2 (.inr hc)) ht
   ·exact(ARZ.1 h2'.nodup).2.2 c ht c hc rfl
theorem AGa{σ:St}{b i:Nat}(h:σ.bx[i]? =some .dead):(σ.q9 b).bx[i]? =some .dead:=by
 unfold St.q9;split
 ·simp only[AVI,List.getElem?_set]
  split
  ·simp_all
  ·rw[h];rfl
 omega
theorem ABV{σ:St}{b:Nat}:(σ.q9 b).bx.length=σ.bx.length/\(σ.q9 b).tm.length=σ.tm.length:=by
 grind[St.q9]
theorem Ok.q9{E0 E:Env}{w0 w:World}{N nb:Nat}{σ:St}{a:Act}(h:Ok E0 w0 N nb E σ a w)(b:Nat):∃E',Ok E0 w0 N nb E' (σ.q9 b) a w:=by
 obtain⟨E',h1,h2⟩:=ALv h.rel b;refine⟨E',⟨h1,h.base.trans (h2.base w),by rw[ABV.2];exact h.tm,by rw[ABV.1];exact h.si,fun i hi hd=> ?_⟩⟩;rw[h2.Ia,h2.IZ];exact h.ids i hi fun e=>hd (AGa e)
theorem Ok.Hf{E0:Env}{w0 w:World}{N nb:Nat}{a:Act}:∀(l:List AP) (xs:List AV) {E:Env} {σ:St},Ok E0 w0 N nb E σ a w-> ∃E',Ok E0 w0 N nb E' (Hf l xs σ) a w:=by
 intro l xs E σ h
 induction l generalizing xs E σ with
 |nil=>grind[Fw.Hf]
 |cons p l ih=>
  unfold Fw.Hf;split
  ·rename_i heq
   cases heq;obtain⟨E',h'⟩:=h.q9 _;exact ih _ h'
  ·rename_i heq
   cases heq;exact ih _ h
  grind
theorem Ok.AeW{E0:Env}{w0 w:World}{N nb:Nat}{a:Act}{bs:List BP}:∀(l:List (Nat×XP)) {E:Env} {σ:St},Ok E0 w0 N nb E σ a w-> ∃E',Ok E0 w0 N nb E' (Qv bs l σ) a w:=by
 intro l
 induction l with
 |nil=>intro E σ h;exact⟨E,h⟩
 |cons q l ih=>
  intro E σ h;unfold Qv;split
  ·simp_all
  ·rename_i e
   cases e;split
   ·obtain⟨E',h'⟩:=h.Hf [_] [_]
    exact ih h'
   grind
  ·rename_i e
   cases e;split
   ·split
    ·obtain⟨E',h'⟩:=h.Hf _ _
     exact ih h'
    grind
   grind
  grind
theorem vO{E:Env}{w:World}{vw:List Bx}{x:AV}{v:Value}(h:VR E w vw x v)(hx:x.uu=true):isSlice v=true:=by
 cases x with
 |ref b p=>exact h.1
 |win b p o n=>exact h.1
 |sl s r y=>
  simp only[VR,Rd]at h;obtain⟨a,cap,h,_⟩:=h;simp only[ATj,AVW]at h;rw[h];rfl
 |nil=>cases h;rfl
 |_=>cases hx
theorem z6{E:Env}{σ:St}{a:Act}{w:World}(h:Rel E σ a w)(b j:Nat):Rel E (σ.forget b j) a w/\σ.bx.length<=(σ.forget b j).bx.length/\(∀i:Nat,σ.bx[i]? =some Bx.dead->(σ.forget b j).bx[i]? =some Bx.dead)/\(σ.forget b j).tm=σ.tm:=by
 unfold St.forget;split
 case h_2=>simp_all
 rename_i cs hb;split
 case h_2=>simp_all
 rename_i x hx;split
 case isFalse=>simp_all
 rename_i hs;have hbl:=(AOS.1 hb).1;have hk:T8 E w σ.bx E w (σ.bx.set b (.mem (cs.set j (.ref σ.bx.length [])))++[.dead]):=by
  refine⟨by simp,fun _ _=>rfl,fun _ h=>h,fun _ h=>h,h.bx.st,fun _ _=>rfl,fun c d r rows hc e=> ?_⟩;grind
 refine⟨⟨h.Od,h.tm.imp fun _ _ hx=>P5 hk hx,?_⟩,by simp,fun i hi=> ?_,rfl⟩
 ·obtain⟨Fs,⟨hl,h1⟩,h2⟩:=h.bx
  refine⟨Fs++[[]],⟨by simp[hl],fun k B G hB hG=> ?_⟩,by simp_all⟩;by_cases hk2:k<σ.bx.length
  ·rw[AR1 (by simp_all)]at hB
   rw[AR1 (by omega)]at hG;by_cases hkb:b=k
   ·subst hkb
    rw[AVe hk2]at hB;cases hB;obtain⟨rfl,arr,ty,fr,a1,a2,a3⟩:=h1 b _ G hb hG;refine⟨rfl,arr,ty,fr,a1,a2,?_⟩;have a4:kM E w (σ.bx.set b (.mem (cs.set j (.ref σ.bx.length [])))++[.dead]) cs arr.toList:=a3.imp fun _ _ hv=>Gi hk hv
    obtain⟨v,hv,hvr⟩:=a3.get hx;have Va:arr.toList.set j v=arr.toList:=by
     apply AYd;grind
    rw[<-Va];refine Cg.set a4 ⟨vO hvr hs,?_⟩;simp_all
   ·rw[AVL hkb]at hB
    have h3:=h1 k B G hB hG;cases B with
    |mem eY=>
     obtain⟨rfl,arr,ty,fr,a1,a2,a3⟩:=h3;exact⟨rfl,arr,ty,fr,a1,a2,a3.imp fun _ _ hv=>Gi hk hv⟩
    |sl d0 r0 S7=>exact h3
    |dead=>exact h3
  ·have hlen:=(AOS.1 hB).1
   simp only[ASB,AVj,ART,AS0]at hlen;have hkk:k=σ.bx.length:=by omega
   subst hkk;rw[ASa (by simp)]at hB;rw[ASa (by omega)]at hG;simp[hl]at hB hG;subst hB hG;rfl
 grind
theorem Ok.forget{E0 E:Env}{w0 w:World}{N nb:Nat}{σ:St}{a:Act}(h:Ok E0 w0 N nb E σ a w)(b j:Nat):Ok E0 w0 N nb E (σ.forget b j) a w:=by
 obtain⟨h1,h2,h3,h4⟩:=z6 h.rel b j;exact⟨h1,h.base,by rw[h4];exact h.tm,AVG h.si h2,fun i hi hd=>h.ids i hi fun e=>hd (h3 i e)⟩
theorem Ok.Yt{E0 E:Env}{w0 w:World}{N nb:Nat}{a:Act}{bs:List BP}{b:Nat}:∀(l:List AP) (j:Nat) {σ:St},Ok E0 w0 N nb E σ a w->Ok E0 w0 N nb E (Yt bs b j l σ) a w
 |[],_,_,h=>h
 |p::l,j,σ,h=>by
  simp only[Fw.Yt];refine Ok.Yt l (j+1) ?_
  split
  ·split
   ·exact h.forget _ _
   omega
  omega
theorem Ok.AYj{E0 E:Env}{w0 w:World}{N nb:Nat}{a:Act}{bs:List BP}:∀(l:List (Nat×XP)) {σ:St},Ok E0 w0 N nb E σ a w->Ok E0 w0 N nb E (eX bs l σ) a w
 |[],_,h=>h
 |(i,p)::l,σ,h=>by
  simp only[eX];refine Ok.AYj l ?_
  split
  ·split
   ·exact h.Yt _ _
   omega
  omega
theorem Ok.dE{E0:Env}{w0 w:World}{N nb:Nat}{a:Act}:∀(l:List (AP ⊕ List AP)) (xs:List (AV ⊕ List AV)) {E:Env} {σ:St},Ok E0 w0 N nb E σ a w-> ∃E',Ok E0 w0 N nb E' (dE l xs σ) a w:=by
 intro l xs E σ h
 induction l generalizing xs E σ with
 |nil=>unfold Fw.dE;exact⟨E,h⟩
 |cons p l ih=>
  unfold Fw.dE;split
  ·rename_i heq
   cases heq;obtain⟨E',h'⟩:=h.Hf _ _;exact ih _ h'
  ·rename_i heq
   cases heq;obtain⟨E',h'⟩:=h.Hf _ _;exact ih _ h'
  ·rename_i heq
   cases heq;exact ih _ h
  ·exact⟨E,h⟩
theorem Ok.mi{E0 E:Env}{w0 w:World}{N nb:Nat}{σ:St}{a:Act}(h:Ok E0 w0 N nb E σ a w)(l:List (Nat×XP))(x:XV):∃E',Ok E0 w0 N nb E' (mi l x σ) a w:=by
 unfold Fw.mi;split
 ·unfold AZE
  split
  ·exact h.Hf _ _
  ·exact h.Hf _ _
  ·exact h.dE _ _
  ·exact⟨E,h⟩
 ·exact⟨E,h⟩
include hT in
theorem vF{E0 E:Env}{w0 w:World}{N:Nat}{σ:St}{a:Act}{u:c.outs.V}(h:Ok E0 w0 N c.ins.HO.length E σ a w)(e:tO C.T c fn.results.toList σ=some u):
  a.defers=[]/\ ∃v,(results fn a.tmps).run P w= .ok v w/\ASv c E0 w0 u (.returned v) w:=by
 unfold tO at e;simp only[AOc,AOP]at e;obtain⟨x0,_,x,e1,⟨u',m⟩,e2,rfl⟩:=e;obtain⟨E,h⟩:=h.mi c.outs.EH x0;revert h e1 e2
 generalize Fw.mi c.outs.EH x0 σ=σ
 intro e1 e2 h;obtain⟨v,h1,h2⟩:=tY hT h.rel e1;obtain⟨E,h,zm,h4⟩:=h.opens c.outs
 replace h2:=h4 _ _ h2
 obtain⟨hext,E1,hf⟩:=m_ (tm:=[x]) (vals:=[v]) h.rel.bx ⟨h2,trivial⟩ zm jE rV e2;obtain⟨E2,q1,q2,q3,q4,q5⟩:=hf.shared h.rel.bx;refine⟨h.rel.Od,v,h1,v,E2,rfl,h.base.trans q3,q4,q5,fun i hi hal=> ?_⟩;obtain⟨p,hp,hg⟩:∃p,c.outs.HO[i]? =some p/\p≠ .gone:=by
  unfold alive at hal;cases hh:c.outs.HO[i]? with
  |none=>rw[hh]at hal;cases hal
  |some p=>
   refine⟨p,rfl,fun hp=> ?_⟩;rw[hh,hp]at hal;cases hal
 have hm1:=hext.2 i i (by have:=jo (i:=0) (n:=c.ins.HO.length) hp hg (by omega);simpa using this);obtain⟨b,B,g1,g2,g3,_⟩:=vT e2 i p hp hg;rw[hm1]at g1;cases g1;have hid:=hf.ids i i hm1;have AHb:=h.ids i hi (fun hd=>by rw[g2]at hd;cases hd;exact g3 rfl);rw[q1,q2];exact⟨hid.1.trans AHb.1,hid.2.trans AHb.2⟩
include hT hΓ hm in
theorem AGe{code:Code}(hb:fn.body=some code)(hl:(labels code).Nodup){J:Nat->Nat->St->Option c.outs.V}(hJ:ABv C c fn code J)
  {E0:Env} {w0:World} {u:c.outs.V} {Q:mc} (hp:fF Q)
  (hg:Good E0 w0 fn.ntmps c.ins.HO.length u (fun _=>tO C.T c fn.results.toList) (fun _ _ _=>none) (fun _=>tO C.T c fn.results.toList) Q):
  ∀n,JOk P E0 w0 fn.ntmps c.ins.HO.length u (J n) code Q:=by
 intro n
 induction n with
 |zero=>
  intro ℓ body Q' Sm E σ a w h e;obtain⟨s,F,j1,j2,j3⟩:=hJ ℓ Sm.label;rw[j1]at e;simp only[jump]at e;split at e
  ·rw[AOc]at e
   obtain⟨q,_,e⟩:=e;rw[j2]at e;cases e
  ·cases e
 |succ n ih=>
  intro ℓ body Q' Sm E σ a w h e;obtain⟨s,F,j1,j2,j3⟩:=hJ ℓ Sm.label;rw[j1]at e;simp only[jump]at e;split at e
  case isFalse=>cases e
  rename_i si;rw[AOc]at e;obtain⟨⟨v,m⟩,e1,e2⟩:=e;dsimp only at e2;obtain⟨E,h⟩:=h.AeW (bs:=s.HO) s.EH
  replace h:=h.AYj (bs:=s.HO) s.EH
  revert h e1
  generalize eX s.HO s.EH (Qv s.HO s.EH σ)=σ
  intro e1 h;obtain⟨E,h,zm,h4⟩:=h.opens s;obtain⟨hext,E1,hf⟩:=m_ h.rel.bx h.rel.tm zm jE rV e1;obtain⟨E2,q1,q2,q3,q4,q5⟩:=hf.shared h.rel.bx;have QW:fn.ntmps=a.tmps.toList.length:=by rw[<-Cg.len h.rel.tm,h.tm]
  have EP:Ok E0 w0 fn.ntmps c.ins.HO.length E2 (s.st fn.ntmps v) a w:=by
   refine⟨⟨h.rel.Od,ks q5 (Cg.undef QW),q4⟩,h.base.trans q3,?_,?_,fun i hi hd=> ?_⟩
   ·have:=Cg.len (ks q5 (Cg.undef QW))
    simp only[BI.st];rw[this,<-QW]
   ·simp only[BI.st]
    rw[Ui];exact si
   ·simp only[BI.st]at hd
    have hp':s.HO[i]? =some (s.HO[i]'(by omega)):=AOM _;have hng:s.HO[i]'(by omega)≠ .gone:=fun yO=>by
     obtain⟨z,z1,_⟩:=dP id (u:=v.2) hp';apply hd;rw[z1]
     generalize s.HO[i]'(by omega)=pp at z yO
     subst yO;rfl
    have hm1:=hext.2 i i (by have:=jo (i:=0) (n:=c.ins.HO.length) hp' hng (by omega);simpa using this);obtain⟨b,B,g1,g2,g3,_⟩:=vT e1 i _ hp' hng;rw[hm1]at g1;cases g1;have hid:=hf.ids i i hm1;have AHb:=h.ids i hi (fun hd=>by rw[g2]at hd;cases hd;exact g3 rfl);rw[q1,q2];exact⟨hid.1.trans AHb.1,hid.2.trans AHb.2⟩
  have AFJ:=j3 n v u e2;obtain⟨kn',kx',kr',hfind,nw,hnp,hj⟩:=ANN hT hΓ hm hl hp hg ih Sm;simp only[HW,hb,hfind]at AFJ;refine O7.AKS (AAp hT hΓ hm (hnp.then _) (kn:=fun _ σ=>J n ℓ σ) ⟨fun E σ a w h e=> ?_,fun id E σ a w h e=>nw.x id E σ a w h e,nw.r⟩ hj EP AFJ);exact ih ℓ body Q' Sm E σ a w h (e [])
include hT hΓ hm in
theorem AFh{f:Nat}(hf:AWF P f fn c){J:Nat->Nat->St->Option c.outs.V}(hJ:∀code,fn.body=some code->ABv C c fn code J)
  (hg:∀v u,c.g v=some u-> ∃n,∀ω,C9 C c fn (J n) ω v=some u):Yy P f c:=by
 refine⟨hf.con,hf.call,fun E w v args u I4 hB hS hgv=> ?_⟩;obtain⟨n,hn⟩:=hg v u hgv;cases hb:fn.body with
 |none=>
  have:=hn [];simp only[C9,hb]at this;cases this
 |some code=>
  simp only[C9,hb]at hn;refine calls_of_wp hf.at_ hb ?_
  have hp:fF (bodyPost P fn (ASv c E w u)):=fun ch a w' hq=>by
   obtain⟨_,x,E',hx,_⟩:=hq;cases hx
  have nw:Good E w fn.ntmps c.ins.HO.length u (fun _=>tO C.T c fn.results.toList) (fun _ _ _=>none) (fun _=>tO C.T c fn.results.toList) (bodyPost P fn (ASv c E w u)):=
   ⟨fun E' σ a w' h e=>vF hT h (e []),fun id E' σ a w' h e=>(by cases e []),fun E' σ a w' h e=>vF hT h (e [])⟩
  have EP:Ok E w fn.ntmps c.ins.HO.length E (c.ins.st fn.ntmps v) { tmps:=args++Array.replicate (fn.ntmps-args.size) undef,defers:=[] } w:=by
   have htm:Cg (XR E w (KM.mk id c.ins.HO v.2)) (HU.mk id c.ins.EH v.1 (List.replicate fn.ntmps (.c .undef))) (args++Array.replicate (fn.ntmps-args.size) undef).toList:=by
    rw[Array.toList_append];refine ks (hI hS) (Cg.undef ?_);have:=hf.tmps;simp;omega
   refine⟨⟨rfl,htm,hB⟩,fJ.refl E w,?_,by simp only[BI.st];rw[Ui];exact ATX _,fun _ _ _=>⟨rfl,rfl⟩⟩;simp only[BI.st];rw[Cg.len htm];have:=hf.tmps;simp;omega
  exact AAp hT hΓ hm hp nw (AGe hT hΓ hm hb (hf.labels code hb) (hJ code hb) hp nw n) EP hn
end
end Go.Fw
end
section
namespace Go.Fw
def GJ:List Ty->Ty
 |[]=> .unit
 |c::l=> .cons c (GJ l)
def xI(row:TypeId->Option (List Ty×Bool))(cells:TypeId->Nat):Nat->List Field->Option (List Ty)
 |_,[]=>some []
 |o,f::fs=>
  match row f.type with
  |some (l,_)=>if f.offset=o/\cells f.type=l.length then(xI row cells (o+l.length) fs).map (l++ ·)else none
  |none=>none
def mq:List Ty×Bool->Ty
 |(l,true)=>GJ l
 |([c],false)=>c
 |_=> .unit
def rowOf(P:Program):Nat->TypeId->Option (List Ty×Bool)
 |0,_=>none
 |n+1,t=>
  match P.underlying t with
  |some (.int k)=>some ([.int k],false)
  |some .bool=>some ([.bool],false)
  |some .string=>some ([.str],false)
  |some (.slice e)=>
   match rowOf P n e with
   |some q=>if P.cellsOf e=q.1.length/\0<q.1.length then some ([.sl (mq q)],false)else none
   |none=>none
  |some (.struct fs)=>
   match xI (rowOf P n) P.cellsOf 0 fs.toList with
   |some l=>if P.cellsOf t=l.length then some (l,true)else none
   |none=>none
  |_=>none
def Vd:(t:Ty)->t.D->Prop
 | .int k,x=>(Lit.int k x).wf=true
 | .bool,_=>True
 | .str,x=>List.length x<=maxLen
 | .sl r,x=>List.length x<=maxLen/\ ∀y∈x,Vd r y
 | .unit,_=>True
 | .cons c r,x=>Vd c x.1/\Vd r x.2
theorem lD{α:Type}{p:Nat->α->Prop}:∀{n:Nat},(∀i,i<n-> ∃y,p i y)-> ∃x:List α,x.length=n/\ ∀(i:Nat) y,x[i]? =some y->p i y
 |0,_=>⟨[],rfl,fun i y h=>by simp at h⟩
 |n+1,h=>by
  obtain⟨x,h1,h2⟩:=lD (n:=n) (p:=p) (fun i hi=>h i (by omega));obtain⟨y,hy⟩:=h n (by omega);refine⟨x++[y],by simp[h1],fun i z hz=> ?_⟩;grind
theorem vB{w:World}{B:Nat->Prop}:∀{l m:List Ty} {cs ds:List Value} {x:(GJ l).D} {y:(GJ m).D},Rd w B (GJ l) cs x->Rd w B (GJ m) ds y->Vd (GJ l) x->Vd (GJ m) y->
  ∃z:(GJ (l++m)).D,Rd w B (GJ (l++m)) (cs++ds) z/\Vd (GJ (l++m)) z
 |[],m,cs,ds,x,y,h,k,hx,hy=>by
  simp only[GJ,Rd]at h;subst h;exact⟨y,k,hy⟩
 |c::l,m,cs,ds,x,y,h,k,hx,hy=>by
  simp only[GJ,Rd]at h;obtain⟨v,r,rfl,h1,h2⟩:=h;obtain⟨z,z1,z2⟩:=vB h2 k hx.2 hy;exact⟨(x.1,z),by simp only[AWJ,GJ,Rd];exact⟨v,r++ds,rfl,h1,z1⟩,hx.1,z2⟩
theorem ACu{P:Program}{n:Nat}{t:TypeId}{l:List Ty}(h:rowOf P n t=some (l,false)):∃c,l=[c]:=by
 cases n with
 |zero=>simp[rowOf]at h
 |succ n=>
  simp only[rowOf]at h;grind
theorem wC{w:World}{B:Nat->Prop}{P:Program}{n:Nat}{t:TypeId}{q:List Ty×Bool}(h:rowOf P n t=some q){cs:List Value}{x:(GJ q.1).D}(hx:Rd w B (GJ q.1) cs x)(hv:Vd (GJ q.1) x):
  (mq q).n=q.1.length/\ ∃y:(mq q).D,Rd w B (mq q) cs y/\Vd (mq q) y:=by
 obtain⟨l,b⟩:=q;cases b with
 |true=>
  refine⟨?_,x,hx,hv⟩;clear h hx hv x;simp only[mq]
  induction l with
  |nil=>rfl
  |cons c l ih=>simp[GJ,Ty.n,ih]
 |false=>
  obtain⟨c,rfl⟩:=ACu h;simp only[GJ,Rd]at hx;obtain⟨v,r,rfl,h1,h2⟩:=hx;subst h2;refine⟨?_,x.1,h1,hv.1⟩;have:=nQ h1;grind[mq]
theorem ADG(a:Addr):a.add 0=a:=by rfl
theorem ACw{w:World}{a:Addr}{v:Value}(h:w.cell? a=some v):a.spot=none:=by
 unfold World.cell? at h;split at h
 all_goals simp_all
section
variable{H:Type} {enc:TypeId×Value->H} {P:Program} {w:World} {spare:Nat->Bool} {held:Bool}
theorem lM:∀(n:Nat) {t:TypeId} {q:List Ty×Bool},rowOf P n t=some q-> ∀{fuel:Nat} {cs:List Value} {x:DataW H×List MemPlace},DataW.trod enc P w 0 spare held fuel t cs=some x->
  ∃y:(GJ q.1).D,Rd w (fun b=>b<w.heap.size) (GJ q.1) cs y/\Vd (GJ q.1) y
 |0,t,q,h,_,_,_,_=>by simp[rowOf]at h
 |n+1,t,q,h,fuel,cs,x,hx=>by
  simp only[rowOf]at h;split at h
  ·rename_i k hu
   cases h;obtain⟨m,rfl,_,hw⟩:=DataW.trod_int hu hx;exact⟨(m,()),by simp[GJ,Rd],hw,trivial⟩
  ·rename_i hu
   cases h;obtain⟨b,rfl,_⟩:=DataW.trod_bool hu hx;exact⟨(b,()),by simp[GJ,Rd],trivial,trivial⟩
  ·rename_i hu
   cases h;obtain⟨s,rfl,_,hs⟩:=DataW.trod_string hu hx;refine⟨(s.data.toList,()),by simp[GJ,Rd],?_,trivial⟩
   show s.data.toList.length<=maxLen
   simp_all
  ·rename_i e hu
   split at h
   case h_2=>cases h
   rename_i q' hq';split at h
   case isFalse=>cases h
   rename_i AGk;cases h;rcases DataW.trod_slice hu hx with⟨rfl,_⟩|⟨a,len,cap,elems,rest,m,_,rfl,_,_,hlc,hcm,Vb,Sm,_,_⟩
   ·refine⟨([],()),?_,⟨by simp,by simp⟩,trivial⟩
    simp only[GJ,Rd];simp_all
   ·have each:∀i,i<len-> ∃y:(mq q').D,Vd (mq q') y/\ ∃ds,ds.length=(mq q').n/\(∀j,j<ds.length->w.cell? ((a.add (i*P.cellsOf e)).add j)=ds[j]?)/\Rd w (fun b=>b<w.heap.size) (mq q') ds y:=by
     intro i hi;have hz:elems[i]? =some (elems[i]'(by omega)):=AOM _;have h1:=Sm i hi;rw[hz,AOc]at h1;obtain⟨ds,hds,htr⟩:=h1;obtain⟨z,z1,z2⟩:=lM n hq' htr;obtain⟨_,c1,c2⟩:=World.cells?_some hds
     grind[wC]
    obtain⟨xs,x1,x2⟩:=lD each;refine⟨(xs,()),?_,⟨by grind,fun y hy=> ?_⟩,trivial⟩
    ·simp only[GJ,Rd]
     refine⟨_,[],rfl,⟨_,cap,by rw[x1],by omega,?_⟩,rfl⟩;by_cases h0:len=0
     ·omega
     right
     obtain⟨y0,_,ds0,d0,d1,_⟩:=each 0 (by omega);have hn0:0<(mq q').n:=by
      rw[d0.symm];have hz:elems[0]? =some (elems[0]'(by omega)):=AOM _;have h1:=Sm 0 (by omega);rw[hz,AOc]at h1;obtain⟨ds,hds,htr⟩:=h1;obtain⟨z,z1,z2⟩:=lM n hq' htr;grind[wC]
     have hc0:=d1 0 (by omega);simp only[Nat.zero_mul,ADG]at hc0;have xW:w.cell? a=some (ds0[0]'(by omega)):=by simp_all
     have hsp:=ACw xW;obtain⟨b,o,s⟩:=a;simp only at hsp;subst hsp;refine⟨b,o,rfl,?_,fun i y hy=> ?_⟩
     ·grind[World.cell?,Array.getElem?_eq_some_iff]
     ·have hil:=(AOS.1 hy).1
      obtain⟨_,ds,e0,e1,e2⟩:=x2 i y hy;have hcn:P.cellsOf e=(mq q').n:=by
       have hz:elems[i]? =some (elems[i]'(by omega)):=AOM _;have h1:=Sm i (by omega);rw[hz,AOc]at h1;obtain⟨ds,hds,htr⟩:=h1;obtain⟨z,z1,z2⟩:=lM n hq' htr;grind[wC]
      refine⟨ds,e0,fun j v hj=> ?_,e2⟩;grind[List.getElem?_eq_some_iff,Addr.add_eq]
    ·obtain⟨i,hi,rfl⟩:=AVO hy
     exact(x2 i _ (AOM hi)).1
  ·rename_i fs hu
   split at h
   case h_2=>cases h
   rename_i l hl;split at h
   case isFalse=>cases h
   rename_i Xq;cases h;obtain⟨xs,m,_,_,hlen,hxs,Sm⟩:=DataW.trod_struct hu hx;have key:∀(fs:List Field) (o:Nat) (l:List Ty) (i0:Nat),xI (rowOf P n) P.cellsOf o fs=some l->cs.length=o+l.length->(∀(i:Nat) (f:Field),fs[i]? =some f-> ∃z,DataW.trod enc P w 0 spare held m f.type ((cs.drop f.offset).take (P.cellsOf f.type))=some z)->
     ∃y:(GJ l).D,Rd w (fun b=>b<w.heap.size) (GJ l) (cs.drop o) y/\Vd (GJ l) y:=by
    intro fs
    induction fs with
    |nil=>
     intro o l i0 hl hc _;simp only[xI,AON]at hl;subst hl;refine⟨(),?_,trivial⟩;simp only[GJ,Rd];simp_all
    |cons f fs ih=>
     intro o l i0 hl hc Sm;simp only[xI]at hl;split at hl
     case h_2=>cases hl
     rename_i l1 b1 hr;split at hl
     case isFalse=>cases hl
     rename_i hof;simp only[AOP]at hl;obtain⟨l2,vq,rfl⟩:=hl;obtain⟨z,hz⟩:=Sm 0 f rfl;obtain⟨y1,a1,a2⟩:=lM n hr hz;obtain⟨y2,b1,b2⟩:=ih (o+l1.length) l2 0 vq (by grind) (fun i f hf=>Sm (i+1) f (by simp_all));grind[vB,List.drop_drop,List.take_append_drop]
   have:=key fs.toList 0 l 0 hl (by omega) (fun i f hf=>by
    grind)
   simp_all
  simp_all
end
end Go.Fw
end
section
open Go.RowKit
namespace Go.Fw
def wY(W:World):Env:={ Ia:=fun _=>0,IZ:=fun _=> .nilFunc,T:=fun b=>b<W.heap.size,S:=fun b=>b<W.heap.size }
abbrev qM:BI:=⟨[(0,.c (.v .bool))],[]⟩
theorem ACA{P:Program}{f:Nat}{EH:List (Nat×XP)}{g:BI.V ⟨EH,[]⟩->Option qM.V}(hs:Yy P f ⟨⟨EH,[]⟩,qM,g⟩){W:World}{args:Array Value}(x:HU.V EH)(hlen:args.size=EH.length)
  (hx:PD (wY W) W [] id EH x args.toList) (hg:g (x,())=some ((true,()),())):Calls P f args W fun e W' =>e= .returned (.bool true)/\Below W.heap.size W W':=by
 obtain⟨_,_,h⟩:=hs;refine(h (wY W) W (x,()) args _ hlen ⟨[],⟨rfl,fun k B F h=>by simp_all⟩,by simp,by simp,by simp,fun _ h=>h,fun _ h=>h⟩ hx hg).mono fun e W' hR=> ?_
 obtain⟨v,E',rfl,base,_,⟨⟨v',hv,hxr⟩,_⟩,_⟩:=hR;simp at hv;subst hv;have:v= .bool true:=by
  have h2:VR E' W' [] (.v .bool true) v:=hxr;exact Tf h2
 subst this;exact⟨rfl,base.os,base.tape,base.output,base.size,fun k hk=>base.heap k hk⟩
theorem AKX{W:World}{vw:List Bx}{s:Bool}{r:Ty}{v:Value}{y:List r.D}(h:Rd W (fun b=>b<W.heap.size) (.sl r) [v] y):XR (wY W) W vw (XP.mk id (.c (.sl s r)) y) v:=by
 show Rd W (if s then _ else _) (.sl r) [v] y
 cases s<;>exact h
end Go.Fw
end
section
namespace Go.Fw
def Qb:List (Nat×Qn)->Nat->Option Qn
 |[],_=>none
 |(f,c)::l,g=>if f=g then some c else Qb l g
def AJ7(P:Program):List (Nat×Qn)->Prop
 |[]=>True
 |q::l=>Yy P q.1 q.2/\AJ7 P l
theorem qe{P:Program}:∀{l:List (Nat×Qn)},AJ7 P l->jC P (Qb l)
 |[],_=>fun f c e=>by cases e
 |(g,d)::l,h=>fun f c e=>by
  simp only[Qb]at e;split at e
  ·rename_i hg
   cases e;subst hg;exact h.1
  ·exact qe h.2 f c e
theorem YH{P:Program}{f:Nat}{fn:Func}(hf:P.funcs[f]? =some fn)(hn:(fn.name== "runtime.NumGoroutine")=false)(hb:fn.body.isNone=false)(args:Array Value)(w:World):
  (callFunc f args).run P w= .ok (.enter f args) w:=by
 have h1:fn.name≠ "runtime.NumGoroutine" :=by simp_all
 have h2:fn.body≠none:=by
  grind
 simp[callFunc,hf,h1,h2]
def lC(fn:Func)(c:Qn):Bool:=
 !(
  fn.name== "runtime.NumGoroutine")&& !fn.body.isNone&&c.ok&&decide (c.ins.EH.length<=fn.ntmps)&&(match fn.body with
  |some code=>decide (labels code).Nodup
  |none=>true)
theorem Aa9{P:Program}{f:Nat}{fn:Func}{c:Qn}(hf:P.funcs[f]? =some fn)(h:lC fn c=true):AWF P f fn c:=by
 simp only[lC,AOw,AVg,APo]at h;obtain⟨⟨⟨⟨h1,h2⟩,h3⟩,h4⟩,h5⟩:=h;refine⟨hf,YH hf h1 h2,h3,h4,fun code hc=> ?_⟩;simp_all
def jk(C:bF)(c:Qn)(fn:Func)(J:Nat->Nat->St->Option c.outs.V):List Nat->Prop
 |[]=>True
 | ℓ ::l=>(∃(s:BI) (F:Nat->s.V->Option c.outs.V),(∀n,J n ℓ =jump c.ins.HO.length s (F n))/\(∀v,F 0 v=none)/\
  ∀n v,∀ω,HW C c fn (J n) ℓ ω (s.st fn.ntmps v)=F (n+1) v)/\jk C c fn J l
theorem jk.ok{C:bF}{c:Qn}{fn:Func}{J:Nat->Nat->St->Option c.outs.V}:∀{l:ABU},jk C c fn J l-> ∀ ℓ ∈l,∃(s:BI) (F:Nat->s.V->Option c.outs.V),(∀n,J n ℓ =jump c.ins.HO.length s (F n))/\(∀v,F 0 v=none)/\
  ∀n v y,F (n+1) v=some y-> ∀ω,HW C c fn (J n) ℓ ω (s.st fn.ntmps v)=some y
 |[],_,ℓ,h=>by cases h
 |k::l,hl,ℓ,h=>by
  rcases ASY.1 h with rfl|h
  ·obtain⟨⟨s,F,h1,h2,h3⟩,_⟩:=hl
   exact⟨s,F,h1,h2,fun n v y e ω=>(h3 n v ω).trans e⟩
  ·exact jk.ok hl.2 ℓ h
def j0(fn:Func):ABU:=
 match fn.body with
 |some code=>labels code
 |none=>[]
def CM:List AHq->Nat->List Nat
 |[],_=>[]
 |(r,h)::l,q=>if r=q then h else CM l q
theorem AFo{P:Program}{T:KS}{l:List (Nat×Qn)}{hint:Nat->List Nat}{f:Nat}{fn:Func}{c:Qn}(hT:FE P T)(hm:P.follows .mixedOrders=true)(hf:P.funcs[f]? =some fn)(hl:AJ7 P l)(hc:lC fn c=true)
  {J:Nat->Nat->St->Option c.outs.V} {L:ABU} (hL:j0 fn=L) (hJ:jk ⟨T,Qb l,hint⟩ c fn J L) (n:Nat) (he:∀ω v,C9 ⟨T,Qb l,hint⟩ c fn (J n) ω v=c.g v):Yy P f c:=
 AFh (C:=⟨T,Qb l,hint⟩) hT (qe hl) hm (Aa9 hf hc) (J:=J) (fun code hb ℓ hℓ =>jk.ok hJ ℓ (by
  grind[j0])) fun v u hg=>⟨n,fun ω=>(he ω v).trans hg⟩
end Go.Fw
end
section
namespace Go.M
abbrev C_:Nat:=Go.Fw.C_
def AW(x:Int):Int:=IntKind.wrap .i64 x
def eP(κ:IntKind)(a b:Int):Int:=κ.wrap (BitVec.ofInt κ.bits a &&& BitVec.ofInt κ.bits b).toNat
def bOr(κ:IntKind)(a b:Int):Int:=κ.wrap (BitVec.ofInt κ.bits a ||| BitVec.ofInt κ.bits b).toNat
def ARb(κ:IntKind)(a b:Int):Int:=κ.wrap (BitVec.ofInt κ.bits a ^^^ BitVec.ofInt κ.bits b).toNat
theorem rH:∃n:Nat,2^64<=n:=⟨_,ATX _⟩
noncomputable def AZ:Nat:=Classical.choose rH
theorem gS:2^64<=AZ:=Classical.choose_spec rH
def xq{α:Type}(p:Int)(v l:List α):Option (List α):=if 0<=p/\p<=(l.length:Int)/\l.length+v.length<=C_ then some (l.take p.toNat++v++l.drop p.toNat)else none
def AG_{α:Type}(p q:Int)(l:List α):Option (List α):=if 0<=p/\p<=q/\q<=(l.length:Int)then some (l.take p.toNat++l.drop q.toNat)else none
end Go.M
end
section
namespace Go.Fw
structure SP (P:Program) where
 f:Nat
 c:Qn
 h:Yy P f c
def SP.l{P:Program}:List (SP P)->List (Nat×Qn)
 |[]=>[]
 |s::l=>(s.f,s.c)::SP.l l
theorem ABc{P:Program}:∀l:List (SP P),AJ7 P (SP.l l)
 |[]=>trivial
 |s::l=>⟨s.h,ABc l⟩
@[reducible] def AP.Cu (R:Type):AP->Type
 | .sf _ rs=>ar rs->R
 | .v t=>t.D->R
 | .sl _ r=>List r.D->R
 | .pS r=>r.D->R
 | .l9 _ _=>Nat×Nat->R
 |_=>R
def AP.un{R:Type}:(p:AP)->p.Cu R->p.V->R
 | .sf _ _,f,x=>f x
 | .v _,f,x=>f x
 | .sl _ _,f,x=>f x
 | .pS _,f,x=>f x
 | .l9 _ _,f,x=>f x
 | .nil,f,_=>f
 | .ref _,f,_=>f
 | .ptr _ _,f,_=>f
 | .fn _ _,f,_=>f
 | .any,f,_=>f
@[reducible] def ZJ.Cu (R:Type):List AP->Type
 |[]=>R
 |p::l=>p.Cu (ZJ.Cu R l)
def ZJ.un{R:Type}:(l:List AP)->ZJ.Cu R l->ZJ.V l->R
 |[],f,_=>f
 |p::l,f,x=>ZJ.un l (p.un f x.1) x.2
@[reducible] def aA.Cu (R:Type):List (AP ⊕ List AP)->Type
 |[]=>R
 | .inl p::l=>p.Cu (aA.Cu R l)
 | .inr q::l=>ZJ.Cu (aA.Cu R l) q
def aA.un{R:Type}:(l:List (AP ⊕ List AP))->aA.Cu R l->aA.V l->R
 |[],f,_=>f
 | .inl p::l,f,x=>aA.un l (p.un f x.1) x.2
 | .inr q::l,f,x=>aA.un l (ZJ.un q f x.1) x.2
@[reducible] def XP.Cu (R:Type):XP->Type
 | .c p=>p.Cu R
 | .agg l=>ZJ.Cu R l
 | .row r=>r.D->R
 | .NW l=>aA.Cu R l
def XP.un{R:Type}:(p:XP)->p.Cu R->p.V->R
 | .c p,f,x=>p.un f x
 | .agg l,f,x=>ZJ.un l f x
 | .row _,f,x=>f x
 | .NW l,f,x=>aA.un l f x
@[reducible] def BP.Cu (R:Type):BP->Type
 | .mem l=>ZJ.Cu R l
 | .sl _ r=>List r.D->R
 | .gone=>R
def BP.un{R:Type}:(p:BP)->p.Cu R->p.V->R
 | .mem l,f,x=>ZJ.un l f x
 | .sl _ _,f,x=>f x
 | .gone,f,_=>f
@[reducible] def HU.Cu (R:Type):List (Nat×XP)->Type
 |[]=>R
 |(_,p)::l=>p.Cu (HU.Cu R l)
def HU.un{R:Type}:(l:List (Nat×XP))->HU.Cu R l->HU.V l->R
 |[],f,_=>f
 |(_,p)::l,f,x=>HU.un l (p.un f x.1) x.2
@[reducible] def KM.Cu (R:Type):List BP->Type
 |[]=>R
 |p::l=>p.Cu (KM.Cu R l)
def KM.un{R:Type}:(l:List BP)->KM.Cu R l->KM.V l->R
 |[],f,_=>f
 |p::l,f,x=>KM.un l (p.un f x.1) x.2
@[reducible] def BI.Cu (s:BI) (R:Type):Type:=HU.Cu (KM.Cu R s.HO) s.EH
def BI.un{R:Type}(s:BI)(f:s.Cu R)(v:s.V):R:=KM.un s.HO (HU.un s.EH f v.1) v.2
structure Lp (o:BI) where
 ℓ :Nat
 s:BI
 F:Nat->s.Cu (Option o.V)
def LX{o:BI}(nb:Nat):List (Lp o)->Nat->Nat->St->Option o.V
 |[],_,_,_=>none
 |p::l,n,ℓ,σ=>if ℓ =p.ℓ then jump nb p.s (p.s.un (p.F n)) σ else LX nb l n ℓ σ
inductive YZ (C:bF) (c:Qn) (fn:Func) (J:Nat->Nat->St->Option c.outs.V):List (Lp c.outs)->Prop
 |nil:YZ C c fn J []
 |cons {ℓ :Nat} {s:BI} {F:Nat->s.Cu (Option c.outs.V)} {l:List (Lp c.outs)} (h0:∀v,s.un (F 0) v=none) (h1:∀n v ω,HW C c fn (J n) ℓ ω (s.st fn.ntmps v)=s.un (F (n+1)) v) (h:YZ C c fn J l):YZ C c fn J (⟨ℓ,s,F⟩::l)
def Lp.ls{o:BI}:List (Lp o)->List Nat
 |[]=>[]
 |p::l=>p.ℓ ::Lp.ls l
theorem AEM{o:BI}{nb:Nat}:∀{l:List (Lp o)} (n:Nat) {ℓ :Nat} (p:Lp o) (pre:List (Lp o)),ℓ =p.ℓ ->(Lp.ls (pre++p::l)).Nodup->LX nb (pre++p::l) n ℓ =jump nb p.s (p.s.un (p.F n))
 |l,n,ℓ,p,[],e,_=>by
  funext σ
  simp[LX,e]
 |l,n,ℓ,p,q::pre,e,hn=>by
  funext σ
  have hq: ℓ ≠q.ℓ :=by
   intro h;simp only[AWJ,Lp.ls,AZO]at hn;refine hn.1 ?_
   rw[<-h,e];clear hn h e
   induction pre with
   |nil=>simp[Lp.ls]
   |cons a m ih=>simp[Lp.ls,ih]
  have:=congrFun (AEM (nb:=nb) (l:=l) n p pre e (by grind[Lp.ls,List.nodup_cons])) σ;simp only[AWJ,LX,AOK hq];omega
theorem YZ.ok{C:bF}{c:Qn}{fn:Func}{nb:Nat}(hb:nb=c.ins.HO.length){L:List (Lp c.outs)}(hn:(Lp.ls L).Nodup):∀{l pre:List (Lp c.outs)},L=pre++l->YZ C c fn (LX nb L) l->jk C c fn (LX nb L) (Lp.ls l)
 |[],_,_,_=>trivial
 |⟨ℓ,s,F⟩::l,pre,e,.cons h0 h1 h=>by
  refine⟨⟨s,fun n=>s.un (F n),fun n=> ?_,h0,fun n v ω=>h1 n v ω⟩,YZ.ok hb hn (pre:=pre++[⟨ℓ,s,F⟩]) (by simp[e]) h⟩;subst hb;rw[e];exact AEM n ⟨ℓ,s,F⟩ pre rfl (by simp_all)
def mkP{P:Program}{T:KS}(hT:FE P T)(hm:P.follows .mixedOrders=true){f:Nat}{fn:Func}(hf:P.funcs[f]? =some fn)(i o:BI)(g:i.Cu (Option o.V))(l:List (SP P))(h:List AHq)(L:List (Lp o))(n:Nat)
  (hL:j0 fn=Lp.ls L) (hd:decide (Lp.ls L).Nodup=true) (hc:lC fn ⟨i,o,i.un g⟩=true)
  (hJ:YZ ⟨T,Qb (SP.l l),CM h⟩ ⟨i,o,i.un g⟩ fn (LX i.HO.length L) L)
  (he:∀ω v,C9 ⟨T,Qb (SP.l l),CM h⟩ ⟨i,o,i.un g⟩ fn (LX i.HO.length L n) ω v=i.un g v):SP P:=
 ⟨f,⟨i,o,i.un g⟩,AFo (l:=SP.l l) hT hm hf (ABc l) hc (J:=LX i.HO.length L) (L:=Lp.ls L) hL (YZ.ok rfl (by simp_all) (pre:=[]) rfl hJ) n he⟩
theorem AE{Q:List Bool->Prop}(a:Q [])(b:∀ω,Q (false::ω))(d:∀ω,Q (true::ω)):∀ω,Q ω
 |[]=>a
 |false::ω=>b ω
 |true::ω=>d ω
end Go.Fw
end
section
namespace Go.Fw
open Go.Proofs Go.Shelf Go.RowKit Go.Lib
structure fg (P:Program) (ρ:Ren) (nm:String) (fv:Func):Prop where
 mixed:P.follows .mixedOrders=true
 f22:P.funcs[ρ.f 22]? =some { Body2.n22 ρ with name:=nm }
 n22:(nm== "runtime.NumGoroutine")=false
 f29:P.funcs[ρ.f 29]? =some fv
 n29:(fv.name== "runtime.NumGoroutine")=false
 b29:fv.body.isNone=true
 e29:Extern.findNext fv=none
 x29:Extern.find fv=some (Extern.SlicesOverlaps.overlaps #[(ρ.t 24),(ρ.t 24)] #[(ρ.t 4)])
 t0:P.underlying (ρ.t 0)=some (TypeDesc.tuple #[])
 a0:∀w,(isAgg (ρ.t 0)).run P w= .ok false w
 z0:∀w,(Go.sizeOf (ρ.t 0)).run P w= .ok 1 w
 v0:∀w,(zeroValue (ρ.t 0)).run P w= .ok (Value.tuple #[]) w
 t3:P.underlying (ρ.t 3)=some (TypeDesc.int IntKind.i64)
 a3:∀w,(isAgg (ρ.t 3)).run P w= .ok false w
 z3:∀w,(Go.sizeOf (ρ.t 3)).run P w= .ok 1 w
 v3:∀w,(zeroValue (ρ.t 3)).run P w= .ok (Value.int IntKind.i64 0) w
 t4:P.underlying (ρ.t 4)=some (TypeDesc.bool)
 a4:∀w,(isAgg (ρ.t 4)).run P w= .ok false w
 z4:∀w,(Go.sizeOf (ρ.t 4)).run P w= .ok 1 w
 v4:∀w,(zeroValue (ρ.t 4)).run P w= .ok (Value.bool false) w
 t24:P.underlying (ρ.t 24)=some (TypeDesc.slice (ρ.t 9))
 a24:∀w,(isAgg (ρ.t 24)).run P w= .ok false w
 z24:∀w,(Go.sizeOf (ρ.t 24)).run P w= .ok 1 w
 v24:∀w,(zeroValue (ρ.t 24)).run P w= .ok (Value.slice none 0 0) w
section
variable{P:Program} {ρ:Ren} {nm:String} {fv:Func}
theorem dJ{w:World}{dT sT ty elem:TypeId}{i0:TypeInfo}{b o AXM Adx WJ kg n:Nat}{a:Option Addr}{cs:List Value}(hu:P.underlying dT=some (.slice elem))(hi:P.info? elem=some i0)(hn:n=Nat.min WJ AXM)
  (AUp:∀W:World,W=w->(Builtin.firstCells i0.size n (.slice a WJ kg)).run P W= .ok cs.toArray W) (sA:w.there b o cs.length) (h1:∀v∈cs,v.oneCell' =true):
  (Builtin.copy_ #[dT,sT] ty #[.slice (some ⟨b,o,none⟩) AXM Adx,.slice a WJ kg]).run P w= .ok (goInt n) (w.setCells b o cs):=by
 have sk:=run_storeCells_cells (P:=P) b o cs 0 w (by simpa using fun j hj=>(sA j hj).1) (by simpa using fun j hj=>(sA j hj).2) h1;rw[AW4]at sk;have:=AUp w rfl;simp[Builtin.copy_,run_underlying hu,Builtin.lenOf,sizeOf,typeInfo,hi,<-hn,this,sk]
set_option maxHeartbeats 4000000 in
set_option maxRecDepth 100000 in
theorem AGR(L:fg P ρ nm fv){k:Nat}(z9:∀w,(Go.sizeOf (ρ.t 9)).run P w= .ok k w)(ad:Option Addr)(n c i:Nat)(va:Option Addr)(vc:Nat)(w:World)(hi:i<=n)(hnc:n<=c):
  Calls P (ρ.f 22) #[.slice ad n c,.int .i64 i,.slice va 0 vc] w fun e w' =>e= .returned (.slice ad n c)/\w' =w:=by
 have t0:=L.t0;have a0:=L.a0;have z0:=L.z0;have v0:=L.v0;have t3:=L.t3;have a3:=L.a3;have z3:=L.z3;have v3:=L.v3;have t4:=L.t4;have a4:=L.a4;have z4:=L.z4;have v4:=L.v4;have t24:=L.t24;have a24:=L.a24;have z24:=L.z24;have v24:=L.v24;have u0:=run_underlying L.t0;have u3:=run_underlying L.t3;have u4:=run_underlying L.t4;have HS:=run_underlying L.t24;have mixed:=L.mixed
 go_enter L.f22,Body2.n22_ntmps ρ
 cases ad with
 |none=>
  go_wp2
  go_ret
  exact⟨rfl,rfl⟩
 |some a=>
  obtain⟨ab,ao,asp⟩:=a
  go_wp2
  all_goals (go_ret;exact⟨rfl,rfl⟩)
theorem nK{w:World}(tS tR e:TypeId)(ht:P.underlying tS=some (.slice e))(size:Nat)(hz:∀w,(Go.sizeOf e).run P w= .ok size w)
  (a b:Addr) (la ca lb cb:Nat) (ew:a.block≠b.block) (tA tB:TypeId) (kA kB:Nat)
  (hsa:w.shape? a.block=some (tA,kA)) (hsb:w.shape? b.block=some (tB,kB)) (hkA:kA≠0)
  (hfb:w.frozen? b=false) (hfe:w.frozen? { block:=b.block,off:=kB }=false):
  (Extern.SlicesOverlaps.overlaps #[tS,tS] #[tR] #[.slice (some a) la ca,.slice (some b) lb cb]).run P w= .ok (.bool false) w:=by
 have si:(a.block !=b.block)=true:=by simp_all
 have AdS:(a.block==b.block)=false:=by simp_all
 change Sem.run P (α:=Value) (do
  let some t:=(#[tS,tS]:Array TypeId)[0]?|stuck "slices.overlaps: no parameter types"
  let .slice elem<-underlying t|stuck "slices.overlaps: slice type expected"
  let size<-sizeOf elem
  match(some a:Option Addr),(some b:Option Addr)with
  |some a,some b=>
   if la=0\/lb=0\/size=0 then pure (Value.bool false)
   else if a.block !=b.block&&(<-frozen a)&&(<-frozen b)then unsupported .addressObserved
   else do
    if a.block !=b.block then do
     noView a;noView b
     if<-mayBeOne a b then return Value.bool ((<-choose (.extern "sameAddr.stringBytes" 2))==1)
    pure (Value.bool (a.block==b.block&&a.off<b.off+lb*size&&b.off<a.off+la*size))
  |_,_=>pure (Value.bool false)) w=_
 by_cases h0:la=0\/lb=0\/size=0
 ·simp[run_underlying ht,hz,h0]
 ·cases kA with
  |zero=>omega
  |succ kA=>
   cases hfa:w.frozen? a<;>cases hfae:w.frozen? { block:=a.block,off:=kA+1 }<;>
    simp[run_underlying ht,hz,h0,si,AdS,frozen,noView,viewAt,mayBeOne,stringish,shape,Sem.run,hsa,hsb,hfb,hfe,hfa,hfae]
set_option maxHeartbeats 4000000 in
set_option maxRecDepth 100000 in
theorem ADb(L:fg P ρ nm fv){i0:TypeInfo}(wh:P.info? (ρ.t 9)=some i0)(hs0:0<i0.size)(b off n c i:Nat)(va:Addr)(m vc:Nat)(cs vs:List Value)(w:World)(hi:i<n)(hm:0<m)(UK:n+m<=c)(ZQ:n+m<=C_)(hvb:va.block≠b)
  (Xq:cs.length=n*i0.size) (hvl:vs.length=m*i0.size) (xW:Bj w b off cs) (sA:w.there b off ((n+m)*i0.size))
  (Wy:∀W:World,W.heap[va.block]? =w.heap[va.block]?->(Builtin.firstCells i0.size m (.slice (some va) m vc)).run P W= .ok vs.toArray W) (h1c:∀v∈cs,v.oneCell' =true) (h1v:∀v∈vs,v.oneCell' =true)
  (tA tB:TypeId) (kA kB:Nat) (hsa:w.shape? va.block=some (tA,kA)) (hsb:w.shape? b=some (tB,kB)) (hkA:kA≠0) (hfe:w.frozen? ⟨b,kB,none⟩=false):
  Calls P (ρ.f 22) #[.slice (some ⟨b,off,none⟩) n c,.int .i64 i,.slice (some va) m vc] w fun e w' =>
   e= .returned (.slice (some ⟨b,off,none⟩) (n+m) c)/\ ∃W:World,W.heap=w.heap/\Grown w W/\w' =(W.setCells b (off+(i+m)*i0.size) (cs.drop (i*i0.size))).setCells b (off+i*i0.size) vs:=by
 have t0:=L.t0;have a0:=L.a0;have z0:=L.z0;have v0:=L.v0;have t3:=L.t3;have a3:=L.a3;have z3:=L.z3;have v3:=L.v3;have t4:=L.t4;have a4:=L.a4;have z4:=L.z4;have v4:=L.v4;have t24:=L.t24;have a24:=L.a24;have z24:=L.z24;have v24:=L.v24;have u0:=run_underlying L.t0;have u3:=run_underlying L.t3;have u4:=run_underlying L.t4;have HS:=run_underlying L.t24;have z9:∀w,(Go.sizeOf (ρ.t 9)).run P w= .ok i0.size w:=fun w=>by simp[sizeOf,typeInfo,wh]
 have mixed:=L.mixed;have AHN:=ZQ;simp only[C_]at AHN;have hz1: ¬((m:Int)=0):=by omega
 have hz2: ¬((i:Int)=(n:Int)):=by omega
 generalize hk:i0.size=k at*
 have hmul:(i+m)*k<=(n+m)*k:=ASH _ (by omega);have AF0:i*k<=n*k:=ASH _ (by omega);have Ha:(i+m)*k<(n+m)*k:=Nat.mul_lt_mul_of_pos_right (by omega) hs0;have hnm:(n+m)*k=n*k+m*k:=AVn ..;have him:(i+m)*k=i*k+m*k:=AVn ..;have hov:∀lb cb,(callFunc (ρ.f 29) #[.slice (some va) m vc,.slice (some ⟨b,off+(i+m)*k,none⟩) lb cb]).run P w= .ok (.value (.bool false)) w:=fun lb cb=>by
  rw[run_callFunc_extern L.f29 L.n29 L.b29 L.e29 L.x29,
   nK (ρ.t 24) (ρ.t 4) (ρ.t 9) L.t24 k z9 va ⟨b,off+(i+m)*k,none⟩ m vc lb cb hvb tA tB kA kB hsa hsb hkA (sA _ Ha).2 hfe]
  rfl
 have zQ:(cs.drop (i*k)).length=(n-i)*k:=by rw[AZk,Xq,AYi]
 have hw1:IntKind.i64.wrap ((i:Int)+(m:Int))=(i:Int)+(m:Int):=by rw[IntKind.wrap_i64];omega
 have hb1:(0:Int)<=(i:Int)+(m:Int):=by omega
 have VP:i<=n:=by omega
 have htn:((i:Int)+(m:Int)).toNat=i+m:=by omega
 have hb2: ¬(c=i+m):=by omega
 have hb3:(i:Int)<=(n:Int)+(m:Int):=by omega
 have hb4: ¬(c=i):=by omega
 have AY9:∀ty dc sc,(Builtin.copy_ #[(ρ.t 24),(ρ.t 24)] ty #[.slice (some ⟨b,off+(i+m)*k,none⟩) (n+m-(i+m)) dc,.slice (some ⟨b,off+i*k,none⟩) (n+m-i) sc]).run P w.drew= .ok (goInt (n-i:Nat)) (w.drew.setCells b (off+(i+m)*k) (cs.drop (i*k))):=fun ty dc sc=>
  dJ (n:=n-i) L.t24 wh (by simp only[Nat.min_def];split<;>omega) (fun W hW=>by
   subst hW;simp only[Builtin.firstCells,hk];have hl:Bj w.drew b (off+i*k) (cs.drop (i*k)):=fun j v hj=>by
    rw[AY8]at hj;have:=xW _ v hj
    rwa [<-AV_]at this
   rw[<-zQ];exact Mi hl) (fun j hj=>by
    rw[zQ]at hj;have:(i+m)*k+j<(n+m)*k:=by
     rw[hnm,him];have:(n-i)*k=n*k-i*k:=AYi ..;omega
    have:=sA _ this;rw[<-AV_]at this;exact this) (fun v hv=>h1c v (AYV hv))
 obtain⟨W1,hW1⟩:∃W1,W1=w.drew.setCells b (off+(i+m)*k) (cs.drop (i*k)):=⟨_,rfl⟩;have AbJ:W1.heap[va.block]? =w.heap[va.block]?:=by rw[hW1];exact Dd _ _ _ _ _ hvb
 have APn:W1.there b (off+i*k) vs.length:=fun j hj=>by
  rw[hvl]at hj;have h0:=sA (i*k+j) (by omega);rw[<-AV_]at h0;rw[hW1];refine⟨?_,?_⟩
  ·refine isSome_setCells b _ _ _ (fun t ht=> ?_) _ h0.1
   rw[zQ]at ht;have h2:(i+m)*k+t<(n+m)*k:=by
    rw[hnm,him];have:(n-i)*k=n*k-i*k:=AYi ..;omega
   have:=(sA _ h2).1;rw[<-AV_]at this;exact this
  ·rw[World.frozen?_setCells]
   exact h0.2
 have Ac7:∀(W:World),(∀x,W.cell? x=W1.cell? x)->(∀x,W.frozen? x=W1.frozen? x)->W.heap=W1.heap-> ∀ty dc,(Builtin.copy_ #[(ρ.t 24),(ρ.t 24)] ty #[.slice (some ⟨b,off+i*k,none⟩) (n+m-i) dc,.slice (some va) m vc]).run P W= .ok (goInt m) (W.setCells b (off+i*k) vs):=fun W hWc hWf ud ty dc=>
  dJ (n:=m) L.t24 wh (by simp only[Nat.min_def];split<;>omega) (fun V hV=>by subst hV;rw[hk];exact Wy _ (by rw[ud];exact AbJ)) (fun j hj=>⟨by rw[hWc];exact(APn j hj).1,by rw[hWf];exact(APn j hj).2⟩) h1v
 rw[<-hW1]at AY9;obtain⟨vab,vao,vas⟩:=va;clear hmul AF0 Ha hnm him sA APn xW zQ
 go_enter L.f22,Body2.n22_ntmps ρ
 go_wp2_with (simp only[hov])
 go_region_law_o (refine step_copy_runI rfl _ _ (ρ.t 24) (ρ.t 24) rfl _ _ (by simp[Act.eval,Act.put]) (by simp[Act.eval,Act.put]) (AY9 _ _ _) ?_)
 go_wp2_with (at_builtin;refine wpList_copy_runI _ rfl _ _ (ρ.t 24) (ρ.t 24) rfl _ _ rfl rfl (Ac7 _ (fun _=>rfl) (fun _=>rfl) rfl _ _) ?_)
 go_ret
 first|exact⟨rfl,_,rfl,⟨rfl,rfl,rfl,ATX _⟩,rfl⟩|exact⟨rfl,w.drew,rfl,⟨rfl,rfl,rfl,ATX _⟩,by first|rfl|rw[hW1]⟩
set_option maxHeartbeats 4000000 in
set_option maxRecDepth 100000 in
theorem AEP(L:fg P ρ nm fv){i0:TypeInfo}(wh:P.info? (ρ.t 9)=some i0)(b off n c:Nat)(va:Addr)(m vc:Nat)(vs:List Value)(w:World)(hm:0<m)(UK:n+m<=c)
  (sA:w.there b (off+n*i0.size) vs.length) (hn:mV P w i0.size m (.slice (some va) m vc) vs) (h1v:∀v∈vs,v.oneCell' =true):
  Calls P (ρ.f 22) #[.slice (some ⟨b,off,none⟩) n c,.int .i64 n,.slice (some va) m vc] w fun e w' =>
   e= .returned (.slice (some ⟨b,off,none⟩) (n+m) c)/\w' =w.setCells b (off+n*i0.size) vs:=by
 have t0:=L.t0;have a0:=L.a0;have z0:=L.z0;have v0:=L.v0;have t3:=L.t3;have a3:=L.a3;have z3:=L.z3;have v3:=L.v3;have t4:=L.t4;have a4:=L.a4;have z4:=L.z4;have v4:=L.v4;have t24:=L.t24;have a24:=L.a24;have z24:=L.z24;have v24:=L.v24;have u0:=run_underlying L.t0;have u3:=run_underlying L.t3;have u4:=run_underlying L.t4;have HS:=run_underlying L.t24;have z9:∀w,(Go.sizeOf (ρ.t 9)).run P w= .ok i0.size w:=fun w=>by simp[sizeOf,typeInfo,wh]
 have mixed:=L.mixed;have hz1: ¬((m:Int)=0):=by omega
 have nh:∀ty,(Builtin.append_ #[(ρ.t 24),(ρ.t 24)] ty #[.slice (some ⟨b,off,none⟩) n c,.slice (some va) m vc]).run P w=_:=fun ty=>
  iE (ts:= #[(ρ.t 24),(ρ.t 24)]) (ty:=ty) rfl rfl L.t24 (.inl ⟨_,L.t24⟩) wh rfl hn UK sA h1v
 clear sA hn
 generalize hk:i0.size=k at*
 obtain⟨vab,vao,vas⟩:=va
 go_enter L.f22,Body2.n22_ntmps ρ
 go_wp2_with (at_builtin;refine Lib.wpList_append_run _ rfl _ _ (ρ.t 24) (ρ.t 24) rfl _ _ rfl rfl _ _ (nh _) ?_)
 go_ret
 exact⟨rfl,rfl⟩
set_option maxHeartbeats 4000000 in
set_option maxRecDepth 100000 in
theorem AFS(L:fg P ρ nm fv){i0:TypeInfo}{z:Value}(wh:P.info? (ρ.t 9)=some i0)(hz:i0.zero=some z)(hby:i0.bytes<=512)(ad:Option Addr)(n c:Nat)(va:Addr)(m vc:Nat)(cs vs:List Value)(w:World)(hm:0<m)(hnc:n<=c)(UK:c<n+m)(ZQ:n+m<=C_)
  (ho:∀w',w'.heap=w.heap->(Builtin.firstCells i0.size n (.slice ad n c)).run P w' = .ok cs.toArray w') (hn:mV P w i0.size m (.slice (some va) m vc) vs):
  Calls P (ρ.f 22) #[.slice ad n c,.int .i64 n,.slice (some va) m vc] w fun e w' =>
   e= .returned (.slice (some ⟨w.heap.size,0,none⟩) (n+m) (grownCap w (n+m) c (ρ.t 9)))/\
   w' =w.drew.alloc (.cells (cs.toArray++vs.toArray++Builtin.zeroCells z.cells (grownCap w (n+m) c (ρ.t 9)-(n+m))) (ρ.t 9)):=by
 have t0:=L.t0;have a0:=L.a0;have z0:=L.z0;have v0:=L.v0;have t3:=L.t3;have a3:=L.a3;have z3:=L.z3;have v3:=L.v3;have t4:=L.t4;have a4:=L.a4;have z4:=L.z4;have v4:=L.v4;have t24:=L.t24;have a24:=L.a24;have z24:=L.z24;have v24:=L.v24;have u0:=run_underlying L.t0;have u3:=run_underlying L.t3;have u4:=run_underlying L.t4;have HS:=run_underlying L.t24;have z9:∀w,(Go.sizeOf (ρ.t 9)).run P w= .ok i0.size w:=fun w=>by simp[sizeOf,typeInfo,wh]
 have mixed:=L.mixed;have hz1: ¬((m:Int)=0):=by omega
 have nh:∀ty,(Builtin.append_ #[(ρ.t 24),(ρ.t 24)] ty #[.slice ad n c,.slice (some va) m vc]).run P w=_:=fun ty=>
  dy (ts:= #[(ρ.t 24),(ρ.t 24)]) (ty:=ty) rfl rfl L.t24 (.inl ⟨_,L.t24⟩) wh hz rfl ho hn UK ZQ hby
 clear hn ho
 obtain⟨W1,hW1⟩:∃W1,W1=w.drew.alloc (.cells (cs.toArray++vs.toArray++Builtin.zeroCells z.cells (grownCap w (n+m) c (ρ.t 9)-(n+m))) (ρ.t 9)):=⟨_,rfl⟩;rw[<-hW1]at nh|-;clear hW1
 generalize hk:i0.size=k at*
 obtain⟨vab,vao,vas⟩:=va
 go_enter L.f22,Body2.n22_ntmps ρ
 cases ad with
 |none=>
  go_wp2_with (at_builtin;refine Lib.wpList_append_run _ rfl _ _ (ρ.t 24) (ρ.t 24) rfl _ _ rfl rfl _ _ (nh _) ?_)
  all_goals (go_ret;exact⟨rfl,rfl⟩)
 |some a=>
  obtain⟨ab,ao,asp⟩:=a
  go_wp2_with (at_builtin;refine Lib.wpList_append_run _ rfl _ _ (ρ.t 24) (ρ.t 24) rfl _ _ rfl rfl _ _ (nh _) ?_)
  all_goals (go_ret;exact⟨rfl,rfl⟩)
set_option maxHeartbeats 4000000 in
set_option maxRecDepth 100000 in
theorem AKE(L:fg P ρ nm fv){i0:TypeInfo}{z:Value}(wh:P.info? (ρ.t 9)=some i0)(hz:i0.zero=some z)(hzl:z.cells.size=i0.size)(hs0:0<i0.size)(hby:i0.bytes<=512)(b off n c i:Nat)(va:Addr)(m vc:Nat)(cs vs:List Value)(w:World)(hi:i<n)(hm:0<m)(hnc:n<=c)(UK:c<n+m)(ZQ:n+m<=C_)
  (Xq:cs.length=n*i0.size) (hvl:vs.length=m*i0.size) (rk:b<w.heap.size) (xW:Bj w b off cs) (hvw:va.block<w.heap.size)
  (Wy:∀W:World,W.heap[va.block]? =w.heap[va.block]?->(Builtin.firstCells i0.size m (.slice (some va) m vc)).run P W= .ok vs.toArray W) (h1c:∀v∈cs,v.oneCell' =true) (h1v:∀v∈vs,v.oneCell' =true):
  Calls P (ρ.f 22) #[.slice (some ⟨b,off,none⟩) n c,.int .i64 i,.slice (some va) m vc] w fun e w' =>
   e= .returned (.slice (some ⟨w.heap.size,0,none⟩) (n+m) (grownCap w (n+m) c (ρ.t 9)))/\
   ∃W:World,W.heap=w.heap.push (.cells ((cs.take (i*i0.size)).toArray++Builtin.zeroCells z.cells (n+m-i)++Builtin.zeroCells z.cells (grownCap w (n+m) c (ρ.t 9)-(n+m))) (ρ.t 9))/\W.os=w.os/\W.tape=w.tape/\W.output=w.output/\
    w' =(W.setCells w.heap.size (i*i0.size) vs).setCells w.heap.size ((i+m)*i0.size) (cs.drop (i*i0.size)):=by
 have t0:=L.t0;have a0:=L.a0;have z0:=L.z0;have v0:=L.v0;have t3:=L.t3;have a3:=L.a3;have z3:=L.z3;have v3:=L.v3;have t4:=L.t4;have a4:=L.a4;have z4:=L.z4;have v4:=L.v4;have t24:=L.t24;have a24:=L.a24;have z24:=L.z24;have v24:=L.v24;have u0:=run_underlying L.t0;have u3:=run_underlying L.t3;have u4:=run_underlying L.t4;have HS:=run_underlying L.t24;have z9:∀w,(Go.sizeOf (ρ.t 9)).run P w= .ok i0.size w:=fun w=>by simp[sizeOf,typeInfo,wh]
 have mixed:=L.mixed;have AHN:=ZQ;simp only[C_]at AHN;have hz1: ¬((m:Int)=0):=by omega
 have hz2: ¬((i:Int)=(n:Int)):=by omega
 have hz3:(c:Int)<(n:Int)+(m:Int):=by omega
 have hkk:(n:Int)+(m:Int)-(i:Int)=((n+m-i:Nat):Int):=by omega
 have hik:i+(n+m-i)=n+m:=by omega
 have AF0:i*i0.size<=n*i0.size:=ASH _ (by omega);have hnm:(n+m)*i0.size=n*i0.size+m*i0.size:=AVn ..;have him:(i+m)*i0.size=i*i0.size+m*i0.size:=AVn ..;have hni:(n-i)*i0.size=n*i0.size-i*i0.size:=AYi ..;have hold:(Builtin.firstCells i0.size i (.slice (some ⟨b,off,none⟩) i c)).run P w.drew= .ok (cs.take (i*i0.size)).toArray w.drew:=by
  simp only[Builtin.firstCells];have hl:(cs.take (i*i0.size)).length=i*i0.size:=by rw[AYx];omega
  have hca:Bj w.drew b off (cs.take (i*i0.size)):=fun j v hj=>by
   rw[AZD]at hj;split at hj
   ·exact xW j v hj
   ·cases hj
  conv=>lhs;rw[<-hl]
  exact Mi hca
 have AYZ:(n+m)*i0.bytes<=140737488355328:=by
  have:(n+m)*i0.bytes<=C_*512:=Nat.mul_le_mul ZQ hby;simp only[C_]at this;omega
 have AOt:(n+m-i)*i0.bytes<=281474976710656:=by
  have:(n+m-i)*i0.bytes<=(n+m)*i0.bytes:=ASH _ (by omega);omega
 have hrz:∀ty,(Builtin.append_ #[(ρ.t 24),(ρ.t 3)] ty #[.slice (some ⟨b,off,none⟩) i c,.int .i64 ((n:Int)+(m:Int)-(i:Int))]).run P w=
   .ok (.slice (some ⟨w.heap.size,0,none⟩) (n+m) (grownCap w (n+m) c (ρ.t 9))) (w.drew.alloc (.cells ((cs.take (i*i0.size)).toArray++Builtin.zeroCells z.cells (n+m-i)++Builtin.zeroCells z.cells (grownCap w (n+m) c (ρ.t 9)-(n+m))) (ρ.t 9))):=fun ty=>by
  have h:=Lib.run_append_grow_zeros w (ρ.t 24) (ρ.t 3) ty (ρ.t 9) i0 z .i64 .i64 L.t24 L.t3 wh hz (some ⟨b,off,none⟩) i c (cs.take (i*i0.size)) hold (n+m-i) (by omega) hs0 (by omega) (by omega) AOt (by rw[hik];exact growslice_fits UK AYZ);rw[hik]at h;rw[hkk];exact h
 have hGn:n+m<=grownCap w (n+m) c (ρ.t 9):=grownCap_ge w _ _ _;have AcT:grownCap w (n+m) c (ρ.t 9)<=9223372036854775807:=by
  have:=grownCap_le_maxLen w (n+m) c (ρ.t 9) (by unfold maxLen;omega);unfold maxLen at this;omega
 obtain⟨G,hG⟩:∃G,G=grownCap w (n+m) c (ρ.t 9):=⟨_,rfl⟩;rw[<-hG]at hrz hGn AcT|-;obtain⟨ROW,ADP⟩:∃ROW:Array Value,ROW=(cs.take (i*i0.size)).toArray++Builtin.zeroCells z.cells (n+m-i)++Builtin.zeroCells z.cells (G-(n+m)):=⟨_,rfl⟩;rw[<-ADP]at hrz|-;have hRl:(n+m)*i0.size<=ROW.size:=by
  rw[ADP];simp only[AZq,AZr,size_zeroCells,hzl,AYx];have e1:(n+m-i)*i0.size=(n+m)*i0.size-i*i0.size:=AYi ..;omega
 obtain⟨W1,hW1⟩:∃W1,W1=w.drew.alloc (.cells ROW (ρ.t 9)):=⟨_,rfl⟩;rw[<-hW1]at hrz;have AWD:W1.heap[w.heap.size]? =some (.cells ROW (ρ.t 9)):=by
  rw[hW1]
  show(w.heap.push (.cells ROW (ρ.t 9)))[w.heap.size]? =_
  simp
 have AF5:∀x,x<w.heap.size->W1.heap[x]? =w.heap[x]?:=fun x hx=>by rw[hW1];exact JV hx
 have hN:∀o l,o+l<=(n+m)*i0.size->W1.there w.heap.size o l:=fun o l h=>Vj (k:=1) AWD (by omega) (Xt _)
 have zQ:(cs.drop (i*i0.size)).length=(n-i)*i0.size:=by rw[AZk,Xq,hni]
 have Ab8:∀(W:World),(∀x,W.cell? x=W1.cell? x)->(∀x,W.frozen? x=W1.frozen? x)->W.heap=W1.heap-> ∀ty dc,(Builtin.copy_ #[(ρ.t 24),(ρ.t 24)] ty #[.slice (some ⟨w.heap.size,i*i0.size,none⟩) (n+m-i) dc,.slice (some va) m vc]).run P W= .ok (goInt m) (W.setCells w.heap.size (i*i0.size) vs):=fun W hWc hWf ud ty dc=>
  dJ (n:=m) L.t24 wh (by simp only[Nat.min_def];split<;>omega) (fun V hV=>by subst hV;exact Wy _ (by rw[ud];exact AF5 _ hvw)) (fun j hj=>by
   have:=hN (i*i0.size) (m*i0.size) (by omega) j (by omega);exact⟨by rw[hWc];exact this.1,by rw[hWf];exact this.2⟩) h1v
 have AXK:∀(W:World),(∀x,W.cell? x=(W1.setCells w.heap.size (i*i0.size) vs).cell? x)->(∀x,W.frozen? x=(W1.setCells w.heap.size (i*i0.size) vs).frozen? x)->W.heap=(W1.setCells w.heap.size (i*i0.size) vs).heap-> ∀ty dc sc,(Builtin.copy_ #[(ρ.t 24),(ρ.t 24)] ty #[.slice (some ⟨w.heap.size,(i+m)*i0.size,none⟩) (n+m-(i+m)) dc,.slice (some ⟨b,off+i*i0.size,none⟩) (n-i) sc]).run P W= .ok (goInt (n-i:Nat)) (W.setCells w.heap.size ((i+m)*i0.size) (cs.drop (i*i0.size))):=fun W hWc hWf ud ty dc sc=>
  dJ (n:=n-i) L.t24 wh (by simp only[Nat.min_def];split<;>omega) (fun V hV=>by
   subst hV;simp only[Builtin.firstCells];rw[<-zQ];refine Mi fun j v hj=> ?_
   rw[AY8]at hj;have h3:=xW _ v hj;rw[<-AV_]at h3;rw[<-h3];refine World.cell?_of_block (a:=⟨b,off+i*i0.size+j,none⟩) ?_
   rw[ud,Dd _ _ _ _ _ (show b≠w.heap.size by omega)];exact AF5 b rk) (fun j hj=>by
   have hb:W1.there w.heap.size ((i+m)*i0.size) (cs.drop (i*i0.size)).length:=hN _ _ (by omega);refine⟨?_,?_⟩
   ·rw[hWc]
    exact isSome_setCells _ _ _ _ (fun t ht=>(hN (i*i0.size) vs.length (by omega) t ht).1) _ (hb j hj).1
   ·rw[hWf,World.frozen?_setCells]
    exact(hb j hj).2) (fun v hv=>h1c v (AYV hv))
 generalize hk:i0.size=k at*
 have hE1:∀x,((w.alloc (.cells ROW (ρ.t 9))).drew).cell? x=W1.cell? x:=fun x=>by rw[hW1];rfl
 have hE2:∀x,((w.alloc (.cells ROW (ρ.t 9))).drew).frozen? x=W1.frozen? x:=fun x=>by rw[hW1];rfl
 have hE3:((w.alloc (.cells ROW (ρ.t 9))).drew).heap=W1.heap:=by rw[hW1];rfl
 have hF1:∀x,(((w.alloc (.cells ROW (ρ.t 9))).drew.setCells w.heap.size (i*k) vs).drew).cell? x=(W1.setCells w.heap.size (i*k) vs).cell? x:=fun x=>by rw[hW1];rfl
 have hF2:∀x,(((w.alloc (.cells ROW (ρ.t 9))).drew.setCells w.heap.size (i*k) vs).drew).frozen? x=(W1.setCells w.heap.size (i*k) vs).frozen? x:=fun x=>by rw[hW1];rfl
 have hF3:(((w.alloc (.cells ROW (ρ.t 9))).drew.setCells w.heap.size (i*k) vs).drew).heap=(W1.setCells w.heap.size (i*k) vs).heap:=by rw[hW1];rfl
 have hw1:IntKind.i64.wrap ((i:Int)+(m:Int))=(i:Int)+(m:Int):=by rw[IntKind.wrap_i64];omega
 have hb1:(0:Int)<=(i:Int)+(m:Int):=by omega
 have VP:i<=n:=by omega
 have htn:((i:Int)+(m:Int)).toNat=i+m:=by omega
 have hb3:(i:Int)<=(n:Int):=by omega
 have hGi: ¬(G=i):=by omega
 have Ah3: ¬(G=i+m):=by omega
 have hci: ¬(c=i):=by omega
 subst hW1;clear hkk hik hold ADP hG hRl AF0 hnm him hni zQ hN xW Wy AWD AF5 AYZ AOt;obtain⟨vab,vao,vas⟩:=va
 go_enter L.f22,Body2.n22_ntmps ρ
 go_wp2_with (first
  |(at_builtin;refine Lib.wpList_append_run _ rfl _ _ _ _ rfl _ _ rfl rfl _ _ (hrz _) ?_)
  |(at_builtin;refine wpList_copy_runI _ rfl _ _ (ρ.t 24) (ρ.t 24) rfl _ _ rfl rfl (Ab8 _ hE1 hE2 hE3 _ _) ?_)
  |(at_builtin;refine wpList_copy_runI _ rfl _ _ (ρ.t 24) (ρ.t 24) rfl _ _ rfl rfl (AXK _ (fun _=>rfl) (fun _=>rfl) rfl _ _ _) ?_))
 go_region_law_o (refine step_copy_runI rfl _ _ (ρ.t 24) (ρ.t 24) rfl (.slice (some ⟨w.heap.size,(i+m)*k,none⟩) (n+m-(i+m)) (G-(i+m))) (.slice (some ⟨b,off+i*k,none⟩) (n-i) (c-i)) (by simp[Act.eval,Act.put]) (by simp[Act.eval,Act.put]) (AXK _ hF1 hF2 hF3 (ρ.t 3) (G-(i+m)) (c-i)) ?_)
 go_wp2
 go_ret
 refine⟨rfl,((w.alloc (.cells ROW (ρ.t 9))).drew).drew,rfl,rfl,rfl,rfl,?_⟩;rw[drew_setCells]
end
end Go.Fw
end
section
namespace Go.Fw
open Go.Proofs Go.Shelf Go.RowKit Go.Lib
def Flat(w:World)(r:Ty)(css:List (List Value))(rows:List r.D):Prop:=
 css.length=rows.length/\(∀c∈css,c.length=r.n)/\ ∀(i:Nat) cs y,css[i]? =some cs->rows[i]? =some y->Rd w (fun _=>False) r cs y
theorem Flat.to{w w':World}{r:Ty}(hf:r.flat=true){css:List (List Value)}{rows:List r.D}(h:Flat w r css rows):Flat w' r css rows:=
 ⟨h.1,h.2.1,fun i cs y a b=>gR hf (h.2.2 i cs y a b)⟩
theorem Flat.take{w:World}{r:Ty}{css:List (List Value)}{rows:List r.D}(h:Flat w r css rows)(n:Nat):Flat w r (css.take n) (rows.take n):=by
 refine⟨by simp[h.1],fun c hc=>h.2.1 c (AZi hc),fun i cs y a b=> ?_⟩;rw[AZD]at a b;split at a
 ·rename_i hi
  rw[AOJ hi]at b;exact h.2.2 i cs y a b
 simp_all
theorem Flat.drop{w:World}{r:Ty}{css:List (List Value)}{rows:List r.D}(h:Flat w r css rows)(n:Nat):Flat w r (css.drop n) (rows.drop n):=by
 refine⟨by simp[h.1],fun c hc=>h.2.1 c (AYV hc),fun i cs y a b=> ?_⟩;rw[AY8]at a b;exact h.2.2 _ cs y a b
theorem Flat.append{w:World}{r:Ty}{css u_:List (List Value)}{rows AYa:List r.D}(h:Flat w r css rows)(k:Flat w r u_ AYa):Flat w r (css++u_) (rows++AYa):=by
 refine⟨by simp[h.1,k.1],fun c hc=>(ARh.1 hc).elim (h.2.1 c) (k.2.1 c),fun i cs y a b=> ?_⟩;by_cases hi:i<rows.length
 ·rw[AR1 (by rw[h.1];omega)]at a
  rw[AR1 hi]at b;exact h.2.2 i cs y a b
 ·rw[ASa (by rw[h.1];omega)]at a
  rw[ASa (by omega)]at b;rw[h.1]at a;exact k.2.2 _ cs y a b
theorem Flat.one{w:World}{r:Ty}(hf:r.flat=true){css:List (List Value)}{rows:List r.D}(h:Flat w r css rows):∀v∈css.flatten,v.oneCell' =true:=by
 intro v hv;obtain⟨c,hc,hv⟩:=AVK.1 hv;obtain⟨i,hi,rfl⟩:=AVO hc;have h1:=h.1;exact mQ (lU (S:=fun _=>False) (d:=0) hf (h.2.2 i _ _ (AOM hi) (AOM (by omega)))) v hv
theorem Flat.at{w:World}{S:Nat->Prop}{d:Nat}{r:Ty}(hf:r.flat=true){css:List (List Value)}{rows:List r.D}(h:Flat w r css rows):Ff w S d r css rows (List.replicate rows.length []):=Ff.flat hf h.1 h.2.1 h.2.2
theorem AJt{w:World}{S:Nat->Prop}{r:Ty}(hf:r.flat=true){css:List (List Value)}{rows:List r.D}{Fs:List ABU}{d:Nat}(h:Ff w S d r css rows Fs):Flat w r css rows:=by
 refine⟨h.1,h.2.2.1,fun i cs y a b=> ?_⟩;have hi:=(AOS.1 b).1;have h2:=h.2.1;exact gR hf (Ye (h.2.2.2 i cs y (Fs[i]'(by omega)) a b (AOM _)))
theorem Flat.uf{w:World}{r:Ty}{css:List (List Value)}{rows:List r.D}(h:Flat w r css rows)(n:Nat)(hn:n<=rows.length):css.flatten.take (n*r.n)=(css.take n).flatten:=by
 have h1:((css.take n).flatten).length=n*r.n:=by
  rw[ID (n:=r.n) (fun c hc=>h.2.1 c (AZi hc)),AYx,h.1,Nat.min_eq_left hn]
 grind[List.take_append_drop,List.flatten_append,List.take_of_length_le]
theorem Flat.uA{w:World}{r:Ty}{css:List (List Value)}{rows:List r.D}(h:Flat w r css rows)(n:Nat)(hn:n<=rows.length):css.flatten.drop (n*r.n)=(css.drop n).flatten:=by
 have h1:((css.take n).flatten).length=n*r.n:=by
  rw[ID (n:=r.n) (fun c hc=>h.2.1 c (AZi hc)),AYx,h.1,Nat.min_eq_left hn]
 grind[List.take_append_drop,List.flatten_append,List.drop_eq_nil_of_le]
theorem lZ{w:World}{S:Nat->Prop}{d b o cap:Nat}{r:Ty}{rows:List r.D}{css:List (List Value)}{Fs:List ABU}{arr:Array Value}{ty:TypeId}{fr:AD9}(h:Ff w S d r css rows Fs)(hb:w.heap[b]? =some (.cells arr ty fr))
  (hc:Bj w b o css.flatten) (AAX:rows.length<=cap) (QW:o+cap*r.n<=arr.size) (hu:w_ fr (arr.size+mk r)):Ow w S (d+1) (.sl r) [.slice (some ⟨b,o,none⟩) rows.length cap] rows (b::Fs.flatten):=by
 simp only[Ow];refine⟨_,cap,rfl,AAX,.inr ⟨b,o,arr,ty,fr,Fs,rfl,hb,QW,hu,rfl,h.2.1,fun j q G hq hG=> ?_⟩⟩;have hj:=(AOS.1 hq).1;have h1:=h.1;have zA:j<css.length:=by omega
 refine⟨css[j],h.2.2.1 _ (AO7 _),fun x u hx=> ?_,h.2.2.2 j _ _ _ (AOM zA) hq hG⟩;have hxl:=(AOS.1 hx).1;rw[h.2.2.1 _ (AO7 _)]at hxl;have:=Zf (n:=r.n) (css:=css) (ex:=[]) (i:=j) h.2.2.1 (AOM zA) hxl;rw[AQO,hx]at this;have:=hc _ _ this;grind
theorem oC{w:World}{b o:Nat}{A V B:List Value}{arr:Array Value}{ty:TypeId}{fr:AD9}(hb:w.heap[b]? =some (.cells arr ty fr))(hs:o+(A.length+V.length)+B.length<=arr.size)(hA:Bj w b o A):
  ∃LP,((w.setCells b (o+(A.length+V.length)) B).setCells b (o+A.length) V).heap[b]? =some (.cells LP ty fr)/\LP.size=arr.size/\Bj ((w.setCells b (o+(A.length+V.length)) B).setCells b (o+A.length) V) b o (A++V++B):=by
 have h1:=F6 B (o+(A.length+V.length)) w b arr ty fr hb;have z1:(Fc arr (o+(A.length+V.length)) B).size=arr.size:=Fy ..;have h2:=F6 V (o+A.length) _ b _ ty fr h1;grind[PS,Fy,Bj.append,U8,List.length_append]
theorem kd{w:World}{b o:Nat}{A V B:List Value}{arr:Array Value}{ty:TypeId}{fr:AD9}(hb:w.heap[b]? =some (.cells arr ty fr))(hs:o+(A.length+V.length)+B.length<=arr.size)(hA:Bj w b o A):
  ∃LP,((w.setCells b (o+A.length) V).setCells b (o+(A.length+V.length)) B).heap[b]? =some (.cells LP ty fr)/\LP.size=arr.size/\Bj ((w.setCells b (o+A.length) V).setCells b (o+(A.length+V.length)) B) b o (A++V++B):=by
 have h1:=F6 V (o+A.length) w b arr ty fr hb;have z1:(Fc arr (o+A.length) V).size=arr.size:=Fy ..;have h2:=F6 B (o+(A.length+V.length)) _ b _ ty fr h1;grind[PS,Fy,Bj.append,U8,List.length_append]
@[reducible] def uJ (r:Ty):BI:=⟨[(0,.c (.ref 0)),(1,.c (.v (.int .i64))),(2,.c (.sl false r))],[.sl 1 r]⟩
@[reducible] def AAd (r:Ty):BI:=⟨[(0,.c (.ref 1))],[.gone,.sl 1 r]⟩
theorem ABO{P:Program}{f:Nat}{args:Array Value}{E:Env}{w:World}{r:Ty}{d:Nat}(hd:1<=d){F:ABU}(hS:Sep E w F){l:List r.D}{Q:Ending->World->Prop}
  (h:Calls P f args w Q) (hq:∀e w',Q e w'-> ∃v F',e= .returned v/\isSlice v=true/\Ow w' E.S d (.sl r) [v] l F'/\F'.Nodup/\(∀c∈F',¬E.T c/\c<w'.heap.size)/\(∀c,E.T c->w'.heap[c]? =w.heap[c]?)/\Grown w w'):
  Calls P f args w fun e w' => ∃x E',e= .returned x/\fJ E w E' w'/\DQ E' w' [.dead,.sl d r l] [.dead,.sl d r l] []/\
   PD E' w' [.dead,.sl d r l] id [(0,.c (.ref 1))] ((),()) [x]/\ ∀i,i<1->alive [.gone,.sl d r] i=true->E'.Ia i=E.Ia i/\E'.IZ i=E.IZ i:=by
 refine h.mono fun e w' hh=> ?_
 obtain⟨v,F',rfl,hv,ho,nd,hfr,hT,hg⟩:=hq e w' hh
 let E':Env:={ E with IZ:=fun n=>if n=1 then v else E.IZ n }
 refine⟨v,E',rfl,⟨fun _ h=>h,fun _ h=>h,fun _ h=> .inl h,fun _ h=> .inl h,hT,hg.os,hg.tape,hg.output,hg.size⟩,⟨[[],F'],⟨rfl,fun k B F hB hF=> ?_⟩,?_⟩,?_,fun i hi ha=> ?_⟩
 ·match k with
  |0=>
   simp at hB hF;subst hB hF;rfl
  |1=>
   simp at hB hF;subst hB hF;exact⟨hd,ho⟩
  |k+2=>simp_all
 ·refine⟨by simp_all,fun c hc=>(hfr c (by simp_all)).1,fun c hc=>(hfr c (by simp_all)).2,hS.st,fun c hc=>AVS (hS.eT c hc) hg.size⟩
 ·refine⟨⟨v,rfl,?_⟩,trivial⟩
  refine⟨hv,?_⟩
  show DT r l []/\(∃q,HZ r l []=some q)/\JU w' (E'.IZ 1) []=some v
  refine⟨trivial,⟨_,rfl⟩,?_⟩;rfl
 grind
end Go.Fw
end
section
namespace Go.Fw
open Go.M Go.Proofs Go.Shelf Go.RowKit Go.Lib
theorem wm{w:World}{b:Nat}{arr:Array Value}{ty:TypeId}{fr:AD9}(h:w.heap[b]? =some (.cells arr ty fr)):w.shape? b=some (ty,arr.size):=by
 simp[World.shape?,h]
theorem AFr{w:World}{b o:Nat}{v:Value}(h:w.cell? ⟨b,o,none⟩=some v):∃arr ty fr,w.heap[b]? =some (.cells arr ty fr)/\o<arr.size:=by
 unfold World.cell? at h;grind
theorem Grown.trans'{w w' w'':World}(h:Grown w w')(k:Grown w' w''):Grown w w'':=⟨k.os.trans h.os,k.tape.trans h.tape,k.output.trans h.output,AVG h.size k.size⟩
theorem vk{P:Program}{T:KS}{ρ:Ren}{nm:String}{fv:Func}(hT:FE P T)(L:fg P ρ nm fv){r:Ty}(Vb:T.OW (ρ.t 24) r=true)(hf:r.flat=true)(bC:mk r=1)(hn0:0<r.n):
  Yy P (ρ.f 22) ⟨uJ r,AAd r,fun v=>(xq v.1.2.1 v.1.2.2.1 v.2.1).map fun l=>(((),()),((),l,()))⟩:=by
 refine⟨by simp[Qn.ok,kinds,nc,AP.MY,XP.MY,BP.MY],YH L.f22 L.n22 (by kernel_rfl),?_⟩;intro E w v args u AZd hB hS hg;obtain⟨⟨u0,p,vs,u1⟩,rows,u2⟩:=v;obtain⟨⟨⟨⟩,⟨⟩⟩,⟨⟩,l,⟨⟩⟩:=u;simp only[AOP]at hg;obtain⟨l',mT,hg⟩:=hg;simp only[AUW,true_and,AVW]at hg;subst hg;unfold xq at mT;split at mT
 case isFalse=>cases mT
 rename_i hc;obtain⟨hp0,hp1,ZQ⟩:=hc;obtain⟨p,rfl⟩:=AZo hp0;simp only[AO2,AON]at mT;have hpn:p<=rows.length:=by omega
 obtain⟨⟨a0,h0,x0⟩,⟨a1,h1,x1⟩,⟨a2,h2,x2⟩,_⟩:=hS;have I4:args= #[a0,a1,a2]:=by
  have hl3:args.toList.length=3:=AZd;apply Array.ext'
  match hq:args.toList,hl3 with
  |[b0,b1,b2],_=>
   rw[hq]at h0 h1 h2;simp at h0 h1 h2;simp[h0,h1,h2]
 subst I4;have e0:E.IZ 0=a0:=by
  have:VR E w [Bx.sl 1 r rows] (.ref 0 []) a0:=x0;simp only[VR]at this;obtain⟨_,_,_,h⟩:=this;rw[DL]at h;exact Option.some.inj h
 have e1:a1= .int .i64 (p:Int):=by
  have:VR E w [Bx.sl 1 r rows] (.v (.int .i64) (p:Int)) a1:=x1;simp only[VR,Rd,ATj,AVW]at this;exact this.2
 have e2:Rd w E.T (.sl r) [a2] vs:=by
  have:VR E w [Bx.sl 1 r rows] (.sl false r vs) a2:=x2;simp only[VR]at this;simpa using this
 subst e1;obtain⟨Fs,⟨hFl,hFb⟩,hSep⟩:=hB;obtain⟨F,rfl⟩:∃F,Fs=[F]:=by
  match Fs,hFl with
  |[F],_=>exact⟨F,rfl⟩
 have AGI:=hFb 0 (.sl 1 r rows) F rfl rfl;obtain⟨_,ho⟩:=AGI;rw[e0]at ho;simp only[AWn,AYn,AQO]at hSep;have ho0:=ho;obtain⟨ad,cap,css,Fs1,R1,rfl,hle,hd,hp1',hcase⟩:=p8 ho;have yc:=AJt hf hd;obtain⟨e,ti,hut,Vz,hs1,hby,hrow⟩:=LJ hT Vb;obtain⟨i0,z,i1,i2,i3,i4,i5,nw⟩:=Xr hT Vz hrow;have he:e=ρ.t 9:=by
  have:=L.t24.symm.trans hut;simp at this;exact this.symm
 subst he;rw[hs1]at i2;have z9:∀w,(Go.sizeOf (ρ.t 9)).run P w= .ok r.n w:=fun w=>by simp[sizeOf,typeInfo,i1,i2]
 have hzl:z.cells.size=r.n:=by rw[<-AYg,i5,HM]
 have e2':=e2;simp only[Rd]at e2;obtain⟨va,vc,aP,hvle,hvr⟩:=e2;simp only[ATj,AVW]at aP;subst aP;have fin:∀{Q:Ending->World->Prop},Calls P (ρ.f 22) #[.slice ad rows.length cap,.int .i64 (p:Int),.slice va vs.length vc] w Q->
   (∀e w',Q e w'-> ∃v F',e= .returned v/\isSlice v=true/\Ow w' E.S 1 (.sl r) [v] l' F'/\F'.Nodup/\(∀c∈F',¬E.T c/\c<w'.heap.size)/\(∀c,E.T c->w'.heap[c]? =w.heap[c]?)/\Grown w w')->_:=fun h hq=>ABO (ATX 1) hSep h hq
 have oP:∀n:Nat,(List.replicate n ([]:ABU)).flatten=[]:=fun n=>by simp
 by_cases hm0:vs.length=0
 ·
  have Aec:vs=[]:=AUM hm0;subst Aec;have hl:rows=l':=by rw[<-mT,AQO,List.take_append_drop]
  subst hl;refine fin (AGR (k:=r.n) L z9 ad rows.length cap p va vc w hpn hle) fun e w' h=> ?_
  obtain⟨rfl,rfl⟩:=h;exact⟨_,F,rfl,rfl,ho0,hSep.nodup,fun c hc=>⟨hSep.free c hc,hSep.lt c hc⟩,fun _ _=>rfl,⟨rfl,rfl,rfl,ATX _⟩⟩
 have hm:0<vs.length:=by omega
 rcases hvr with hvr|⟨vb,vo,rfl,hvT,hvr⟩
 ·exact absurd hvr hm0
 obtain⟨u_,c1,c2,c3,c4⟩:=rK hvr;have Zh:Flat w r u_ vs:=⟨c1,c2,fun i cs y a b=>gR hf (c4 i cs y a b)⟩;have AA2:u_.flatten.length=vs.length*r.n:=by rw[ID c2,c1]
 have AAI:css.flatten.length=rows.length*r.n:=by rw[ID hd.2.2.1,hd.1]
 have AYm:0<u_.flatten.length:=by rw[AA2];exact Nat.mul_pos hm hn0
 obtain⟨arrv,tyv,frv,hbv,hov⟩:=AFr (c3 0 _ (AOM AYm));have Adm:vb<w.heap.size:=by
  by_cases hh:vb<w.heap.size
  ·exact hh
  ·rw[Array.getElem?_eq_none (by omega)]at hbv;cases hbv
 have oO:mV P w r.n vs.length (.slice (some ⟨vb,vo,none⟩) vs.length vc) u_.flatten:=Rs c1 c2 (.inr ⟨vb,vo,rfl,c3⟩);have AVo:∀W:World,W.heap[vb]? =w.heap[vb]?->(Builtin.firstCells r.n vs.length (.slice (some ⟨vb,vo,none⟩) vs.length vc)).run P W= .ok u_.flatten.toArray W:=fun W hW=>by
  simp only[Builtin.firstCells];rw[<-AA2];exact Mi (c3.of_block hW)
 have AOq:=yc.one hf;have AEf:=Zh.one hf;by_cases UK:rows.length+vs.length<=cap
 ·rcases hcase with⟨h0,_⟩|⟨b,o,arr,ty,fr,rfl,hb,QW,hu,rfl,vf⟩
  ·omega
  have hbT: ¬E.T b:=hSep.free b (by simp);have AGK:b<w.heap.size:=hSep.lt b (by simp);have ew:vb≠b:=fun e=>hbT (e▸hvT)
  have AfG:(rows.length+vs.length)*r.n<=cap*r.n:=ASH _ UK;have hnm:(rows.length+vs.length)*r.n=rows.length*r.n+vs.length*r.n:=AVn ..;by_cases hpe:p=rows.length
  ·subst hpe
   have hl:rows++vs=l':=by rw[<-mT,List.take_length,AWl,AQO]
   subst hl;have kq:=AEP (ρ:=ρ) L (i0:=i0) i1 b o rows.length cap ⟨vb,vo,none⟩ vs.length vc u_.flatten w hm UK (by rw[i2];exact Vj (k:=mk r) hb (by omega) hu) (by rw[i2];exact oO) AEf;refine fin kq fun e w' h=> ?_
   obtain⟨rfl,rfl⟩:=h;obtain⟨LP,q1,q2,q3⟩:=oC (B:=[]) (V:=u_.flatten) hb (by simp only[AS0];omega) vf;rw[AAI,<-i2]at q1 q3;simp only[World.setCells,AQO]at q1 q3;have zC:=(yc.append Zh).to (w':=w.setCells b (o+rows.length*i0.size) u_.flatten) hf;refine⟨_,b::(List.replicate (rows++vs).length ([]:ABU)).flatten,rfl,rfl,?_,?_,?_,fun c hc=>Dd _ _ _ _ _ (fun e=>hbT (e▸hc)),CH _ _ _ _⟩
   ·have:=lZ (cap:=cap) (zC.at (S:=E.S) (d:=0) hf) q1 (by rw[AVq];exact q3) (by rw[ASB];exact UK) (by rw[q2];exact QW) (by rw[q2];exact hu)
    rw[oP]at this|-;rw[ASB]at this;exact this
   ·simp
   ·intro c hc
    rw[oP]at hc;simp at hc;subst hc;exact⟨hbT,by rw[Dq];exact AGK⟩
  ·have Ha:p<rows.length:=by omega
   have hpm:p*r.n<=rows.length*r.n:=ASH _ hpn;have AS3:(p+vs.length)*r.n=p*r.n+vs.length*r.n:=AVn ..;have kq:=ADb (ρ:=ρ) L (i0:=i0) i1 (by rw[i2];exact hn0) b o rows.length cap p ⟨vb,vo,none⟩ vs.length vc css.flatten u_.flatten w Ha hm UK ZQ ew (by rw[i2];exact AAI) (by rw[i2];exact AA2) vf
    (by rw[i2];exact Vj (k:=mk r) hb (by omega) hu) (by rw[i2];exact AVo) AOq AEf tyv ty arrv.size arr.size (wm hbv) (wm hb) (by omega) (by
     have:=hu arr.size (by omega);obtain⟨lo,hi⟩:=fr;simp only[World.frozen?,hb];simp at this|-;omega)
   refine fin kq fun e w' h=> ?_
   obtain⟨rfl,W,ud,hWg,rfl⟩:=h;have hA:(css.flatten.take (p*r.n)).length=p*r.n:=by rw[AYx];omega
   have hB:(css.flatten.drop (p*r.n)).length=rows.length*r.n-p*r.n:=by rw[AZk,AAI]
   have hbW:W.heap[b]? =some (.cells arr ty fr):=by rw[ud];exact hb
   have hcA:Bj W b o (css.flatten.take (p*r.n)):=Bj.heap (fun j v hj=>by
    rw[AZD]at hj;split at hj
    ·exact vf j v hj
    ·cases hj) ud
   obtain⟨LP,q1,q2,q3⟩:=oC (B:=css.flatten.drop (p*r.n)) (V:=u_.flatten) hbW (by omega) hcA;rw[hA,AA2,<-AS3,<-i2]at q1 q3
   generalize tL:(W.setCells b (o+(p+vs.length)*i0.size) (css.flatten.drop (p*i0.size))).setCells b (o+p*i0.size) u_.flatten=w' at q1 q3
   have zC:=(((yc.take p).append Zh).append (yc.drop p)).to (w':=w') hf;rw[mT]at zC;have zG:l'.length=rows.length+vs.length:=by rw[<-mT];simp;omega
   refine⟨_,b::(List.replicate l'.length ([]:ABU)).flatten,rfl,rfl,?_,?_,?_,fun c hc=> ?_,?_⟩
   ·have:=lZ (cap:=cap) (zC.at (S:=E.S) (d:=0) hf) q1 (by
     rw[AVq,AVq,<-yc.uf p hpn,<-yc.uA p hpn,<-i2];exact q3) (by rw[zG];exact UK) (by rw[q2];exact QW) (by rw[q2];exact hu)
    rw[oP]at this|-;rw[zG]at this;exact this
   ·simp
   ·intro c hc
    rw[oP]at hc;simp at hc;subst hc;refine⟨hbT,?_⟩;rw[<-tL,Dq,Dq,ud];exact AGK
   ·have hcb:c≠b:=fun e=>hbT (e▸hc)
    rw[<-tL,Dd _ _ _ _ _ hcb,Dd _ _ _ _ _ hcb,ud]
   ·rw[<-tL]
    exact Grown.trans' hWg (Grown.trans' (CH _ _ _ _) (CH _ _ _ _))
 ·have hgc:=grownCap_ge w (rows.length+vs.length) cap (ρ.t 9)
  by_cases hpe:p=rows.length
  ·subst hpe
   have hl:rows++vs=l':=by rw[<-mT,List.take_length,AWl,AQO]
   subst hl;have hold:rows.length=0\/ ∃b o,ad=some ⟨b,o,none⟩/\Bj w b o css.flatten:=by
    rcases hcase with⟨h0,_⟩|⟨b,of,arr,ty0,fr,rfl,hb,QW,hunf,rfl,hc⟩
    ·exact .inl (by omega)
    ·exact .inr ⟨b,of,rfl,hc⟩
   have kq:=AFS (ρ:=ρ) L (i0:=i0) (z:=z) i1 i4 (by omega) ad rows.length cap ⟨vb,vo,none⟩ vs.length vc css.flatten u_.flatten w hm hle (by omega) ZQ (by rw[i2];exact iQ hd.1 hd.2.2.1 hold) (by rw[i2];exact oO);refine fin kq fun e w' h=> ?_
   obtain⟨rfl,rfl⟩:=h
   generalize grownCap w (rows.length+vs.length) cap (ρ.t 9)=gc at hgc|-
   generalize eR:css.flatten.toArray++u_.flatten.toArray++Builtin.zeroCells z.cells (gc-(rows.length+vs.length))=arr
   have hal:arr.toList=(css++u_).flatten++(Builtin.zeroCells z.cells (gc-(rows.length+vs.length))).toList:=by rw[<-eR];simp
   have AdM:arr.size=gc*r.n:=by
    rw[<-eR];simp only[AZq,AZr,aV,hzl,AA2,AAI,<-AVn];congr 1;omega
   have new:(w.drew.alloc (.cells arr (ρ.t 9))).heap[w.heap.size]? =some (.cells arr (ρ.t 9)):=by
    show(w.heap.push (.cells arr (ρ.t 9)))[w.heap.size]? =_
    simp
   have zC:=(yc.append Zh).to (w':=w.drew.alloc (.cells arr (ρ.t 9))) hf;have hra:=zC.at (S:=E.S) (d:=0) hf;refine⟨_,w.heap.size::(List.replicate (rows++vs).length ([]:ABU)).flatten,rfl,rfl,?_,?_,?_,fun c hc=>JV (hSep.eT c hc),⟨rfl,rfl,rfl,by show _<=(w.heap.push _).size;simp⟩⟩
   ·have:=en (cap:=gc) new hal hra.1 (by rw[ASB];exact hgc) (by omega) (Xt _) hra.2.1 hra.2.2.2
    rw[oP]at this|-;rw[ASB]at this;exact this
   ·simp
   ·intro c hc
    rw[oP]at hc;simp at hc;subst hc;exact⟨fun zB=>Nat.lt_irrefl _ (hSep.eT _ zB),by show _<(w.heap.push _).size;simp⟩
  ·have Ha:p<rows.length:=by omega
   have hpm:p*r.n<=rows.length*r.n:=ASH _ hpn;have AS3:(p+vs.length)*r.n=p*r.n+vs.length*r.n:=AVn ..;have hnm:(rows.length+vs.length)*r.n=rows.length*r.n+vs.length*r.n:=AVn ..;rcases hcase with⟨h0,_⟩|⟨b,o,arr,ty,fr,rfl,hb,QW,hu,rfl,vf⟩
   ·omega
   have AGK:b<w.heap.size:=hSep.lt b (by simp);have kq:=AKE (ρ:=ρ) L (i0:=i0) (z:=z) i1 i4 (by rw[i2];exact hzl) (by rw[i2];exact hn0) (by omega) b o rows.length cap p ⟨vb,vo,none⟩ vs.length vc css.flatten u_.flatten w Ha hm hle (by omega) ZQ (by rw[i2];exact AAI) (by rw[i2];exact AA2) AGK vf Adm (by rw[i2];exact AVo) AOq AEf;refine fin kq fun e w' h=> ?_
   obtain⟨rfl,W,ud,hWo,hWt,hWu,rfl⟩:=h
   generalize grownCap w (rows.length+vs.length) cap (ρ.t 9)=gc at hgc ud|-
   have hA:(css.flatten.take (p*r.n)).length=p*r.n:=by rw[AYx];omega
   have hB:(css.flatten.drop (p*r.n)).length=rows.length*r.n-p*r.n:=by rw[AZk,AAI]
   rw[i2]at ud
   generalize ADP:(css.flatten.take (p*r.n)).toArray++Builtin.zeroCells z.cells (rows.length+vs.length-p)++Builtin.zeroCells z.cells (gc-(rows.length+vs.length))=ROW at ud
   have hRs:ROW.size=gc*r.n:=by
    rw[<-ADP];simp only[AZq,AZr,aV,hzl,hA,<-AVn];congr 1;omega
   have hgm:(rows.length+vs.length)*r.n<=gc*r.n:=ASH _ hgc;have hbW:W.heap[w.heap.size]? =some (.cells ROW (ρ.t 9)):=by rw[ud];simp
   have hcA:Bj W w.heap.size 0 (css.flatten.take (p*r.n)):=fun j v hj=>by
    have zA:=(AOS.1 hj).1;rw[Ld hbW,AVt,<-Array.getElem?_toList,<-ADP];simp only[Array.toList_append,AQM];rw[AR1 zA];exact hj
   obtain⟨LP,q1,q2,q3⟩:=kd (B:=css.flatten.drop (p*r.n)) (V:=u_.flatten) hbW (by omega) hcA;rw[hA,AA2,<-AS3,<-i2,AVt,AVt]at q1 q3
   generalize tL:(W.setCells w.heap.size (p*i0.size) u_.flatten).setCells w.heap.size ((p+vs.length)*i0.size) (css.flatten.drop (p*i0.size))=w' at q1 q3
   have zC:=(((yc.take p).append Zh).append (yc.drop p)).to (w':=w') hf;rw[mT]at zC;have zG:l'.length=rows.length+vs.length:=by rw[<-mT];simp;omega
   refine⟨_,w.heap.size::(List.replicate l'.length ([]:ABU)).flatten,rfl,rfl,?_,?_,?_,fun c hc=> ?_,?_⟩
   ·have:=lZ (cap:=gc) (zC.at (S:=E.S) (d:=0) hf) q1 (by
     rw[AVq,AVq,<-yc.uf p hpn,<-yc.uA p hpn,<-i2];exact q3) (by rw[zG];exact hgc) (by rw[q2];omega) (Xt _)
    rw[oP]at this|-;rw[zG]at this;exact this
   ·simp
   ·intro c hc
    rw[oP]at hc;simp at hc;subst hc;refine⟨fun zB=>Nat.lt_irrefl _ (hSep.eT _ zB),?_⟩;rw[<-tL,Dq,Dq,ud];simp
   ·have Xq:=hSep.eT c hc
    rw[<-tL,Dd _ _ _ _ _ (by omega),Dd _ _ _ _ _ (by omega),ud];exact JV Xq
   ·rw[<-tL]
    refine Grown.trans' (w':=W) ⟨hWo,hWt,hWu,by rw[ud];simp⟩ (Grown.trans' (CH _ _ _ _) (CH _ _ _ _))
end Go.Fw
end
section
namespace Go.Fw
open Go.M Go.Proofs Go.Shelf Go.RowKit Go.Lib
structure qy (P:Program) (ρ:Ren) (nm:String):Prop where
 mixed:P.follows .mixedOrders=true
 f24:P.funcs[ρ.f 24]? =some { Body2.n24 ρ with name:=nm }
 n24:(nm== "runtime.NumGoroutine")=false
 t0:P.underlying (ρ.t 0)=some (TypeDesc.tuple #[])
 a0:∀w,(isAgg (ρ.t 0)).run P w= .ok false w
 z0:∀w,(Go.sizeOf (ρ.t 0)).run P w= .ok 1 w
 v0:∀w,(zeroValue (ρ.t 0)).run P w= .ok (Value.tuple #[]) w
 t3:P.underlying (ρ.t 3)=some (TypeDesc.int IntKind.i64)
 a3:∀w,(isAgg (ρ.t 3)).run P w= .ok false w
 z3:∀w,(Go.sizeOf (ρ.t 3)).run P w= .ok 1 w
 v3:∀w,(zeroValue (ρ.t 3)).run P w= .ok (Value.int IntKind.i64 0) w
 t4:P.underlying (ρ.t 4)=some (TypeDesc.bool)
 a4:∀w,(isAgg (ρ.t 4)).run P w= .ok false w
 z4:∀w,(Go.sizeOf (ρ.t 4)).run P w= .ok 1 w
 v4:∀w,(zeroValue (ρ.t 4)).run P w= .ok (Value.bool false) w
 t24:P.underlying (ρ.t 24)=some (TypeDesc.slice (ρ.t 9))
 a24:∀w,(isAgg (ρ.t 24)).run P w= .ok false w
 z24:∀w,(Go.sizeOf (ρ.t 24)).run P w= .ok 1 w
 v24:∀w,(zeroValue (ρ.t 24)).run P w= .ok (Value.slice none 0 0) w
section
variable{P:Program} {ρ:Ren} {nm:String}
set_option maxHeartbeats 4000000 in
set_option maxRecDepth 1000000 in
theorem AFF(L:qy P ρ nm){k:Nat}(z9:∀w,(Go.sizeOf (ρ.t 9)).run P w= .ok k w)(ad:Option Addr)(n c i:Nat)(w:World)(hi:i<=n)(hnc:n<=c):
  Calls P (ρ.f 24) #[.slice ad n c,.int .i64 i,.int .i64 i] w fun e w' =>e= .returned (.slice ad n c)/\w' =w:=by
 have mixed:=L.mixed;have t0:=L.t0;have a0:=L.a0;have z0:=L.z0;have v0:=L.v0;have t3:=L.t3;have a3:=L.a3;have z3:=L.z3;have v3:=L.v3;have t4:=L.t4;have a4:=L.a4;have z4:=L.z4;have v4:=L.v4;have t24:=L.t24;have a24:=L.a24;have z24:=L.z24;have v24:=L.v24;have u0:=run_underlying L.t0;have u3:=run_underlying L.t3;have u4:=run_underlying L.t4;have HS:=run_underlying L.t24
 go_enter L.f24,Body2.n24_ntmps ρ
 cases ad with
 |none=>
  go_wp2
  all_goals (go_ret;exact⟨rfl,rfl⟩)
 |some a=>
  obtain⟨ab,ao,asp⟩:=a
  go_wp2
  all_goals (go_ret;exact⟨rfl,rfl⟩)
theorem xD{w:World}{t elem ty:TypeId}{i0:TypeInfo}{z:Value}{b o n cap:Nat}{Z:List Value}(hu:P.underlying t=some (.slice elem))(hi:P.info? elem=some i0)(hz:i0.zero=some z)(hn:0<n)(hZ:(Builtin.zeroCells z.cells n).toList=Z)
  (sA:w.there b o Z.length) (h1:∀v∈Z,v.oneCell' =true):(Builtin.clear_ #[t] ty #[.slice (some ⟨b,o,none⟩) n cap]).run P w= .ok (.tuple #[]) (w.setCells b o Z):=by
 have sk:=run_storeCells_cells (P:=P) b o Z 0 w (by simpa using fun j hj=>(sA j hj).1) (by simpa using fun j hj=>(sA j hj).2) h1;rw[AW4]at sk;obtain⟨n,rfl⟩:∃m,n=m+1:=⟨n-1,by omega⟩;simp[Builtin.clear_,run_underlying hu,zeroValue,typeInfo,hi,hz,hZ,sk]
set_option maxHeartbeats 4000000 in
set_option maxRecDepth 1000000 in
theorem AGQ(L:qy P ρ nm){i0:TypeInfo}{z:Value}(wh:P.info? (ρ.t 9)=some i0)(hz:i0.zero=some z)(b off n c i j:Nat)(cs Z:List Value)(w:World)(hij:i<j)(hj:j<=n)(hnc:n<=c)
  (Xq:cs.length=n*i0.size) (xW:Bj w b off cs) (sA:w.there b off (n*i0.size)) (h1c:∀v∈cs,v.oneCell' =true) (hZ:(Builtin.zeroCells z.cells (j-i)).toList=Z) (hZl:Z.length=(j-i)*i0.size) (h1z:∀v∈Z,v.oneCell' =true):
  Calls P (ρ.f 24) #[.slice (some ⟨b,off,none⟩) n c,.int .i64 i,.int .i64 j] w fun e w' =>
   e= .returned (.slice (some ⟨b,off,none⟩) (i+(n-j)) c)/\ ∃W:World,W.heap=w.heap/\Grown w W/\w' =(W.setCells b (off+i*i0.size) (cs.drop (j*i0.size))).setCells b (off+(i+(n-j))*i0.size) Z:=by
 have mixed:=L.mixed;have t0:=L.t0;have a0:=L.a0;have z0:=L.z0;have v0:=L.v0;have t3:=L.t3;have a3:=L.a3;have z3:=L.z3;have v3:=L.v3;have t4:=L.t4;have a4:=L.a4;have z4:=L.z4;have v4:=L.v4;have t24:=L.t24;have a24:=L.a24;have z24:=L.z24;have v24:=L.v24;have u0:=run_underlying L.t0;have u3:=run_underlying L.t3;have u4:=run_underlying L.t4;have HS:=run_underlying L.t24;have z9:∀w,(Go.sizeOf (ρ.t 9)).run P w= .ok i0.size w:=fun w=>by simp[sizeOf,typeInfo,wh]
 obtain⟨k,hk⟩:∃k,i0.size=k:=⟨_,rfl⟩;rw[hk]at Xq sA hZl z9|-;have e1:(n-j)*k=n*k-j*k:=AYi ..;have e2:(j-i)*k=j*k-i*k:=AYi ..;have e3:j*k<=n*k:=ASH _ hj;have e4:i*k<=j*k:=ASH _ (by omega);have e5:(i+(n-j))*k=i*k+(n-j)*k:=AVn ..;obtain⟨news,oO⟩:∃news,news=cs.drop (j*k):=⟨_,rfl⟩;have hlen:news.length=(n-j)*k:=by rw[oO,AZk,Xq];omega
 rw[<-oO];obtain⟨A,hA,AUp⟩:∃A:Addr,(if c=j then(some ⟨b,off,none⟩:Option Addr)else some ⟨b,off+j*k,none⟩)=some A/\Hid (∀t u,news[t]? =some u->w.drew.cell? (A.add t)=some u):=by
  by_cases h:c=j
  ·refine⟨⟨b,off,none⟩,by simp[h],fun t u hu=> ?_⟩
   have h0:news.length=0:=by rw[hlen,show n-j=0 by omega,Nat.zero_mul]
   rw[AZn.1 h0]at hu;simp at hu
  ·refine⟨⟨b,off+j*k,none⟩,by simp[h],fun t u hu=> ?_⟩
   rw[oO,AY8]at hu;rw[Addr.add_eq,AV_];exact xW _ u hu
 have s1:Hid (news.length=(n-j)*k):=hlen;have s2:Hid (∀u∈news,u.oneCell' =true):=fun u hu=>h1c u (by rw[oO]at hu;exact AYV hu)
 have s3:Hid (∀t,t<news.length->(w.drew.cell? ⟨b,off+i*k+t,none⟩).isSome=true/\w.drew.frozen? ⟨b,off+i*k+t,none⟩=false):=by
  intro t ht;rw[hlen]at ht;rw[AV_];exact sA _ (by omega)
 obtain⟨W1,hW1⟩:∃W1,W1=w.drew.setCells b (off+i*k) news:=⟨_,rfl⟩;have Aa2:∀ty,(Builtin.clear_ #[ρ.t 24] ty #[.slice (some ⟨b,off+(i+(n-j))*k,none⟩) (n-(i+(n-j))) (c-(i+(n-j)))]).run P W1= .ok (.tuple #[]) (W1.setCells b (off+(i+(n-j))*k) Z):=fun ty=>by
  rw[show n-(i+(n-j))=j-i by omega];refine xD L.t24 wh hz (by omega) hZ (fun t ht=> ?_) h1z;rw[hZl]at ht;have h0:=sA ((i+(n-j))*k+t) (by omega);rw[<-AV_]at h0;rw[hW1];refine⟨isSome_setCells b _ _ _ (fun q hq=> ?_) _ h0.1,by rw[World.frozen?_setCells];exact h0.2⟩;rw[hlen]at hq;have:=(sA (i*k+q) (by omega)).1;rw[<-AV_]at this;exact this
 have hW:Hid (W1=w.drew.setCells b (off+i*k) news):=hW1;have hic:i<=c:=by omega
 have hjc:j<=c:=by omega
 have hjn:(i:Int)<=(j:Int):=by omega
 have fin:∃W:World,W.heap=w.heap/\Grown w W/\W1.setCells b (off+(i+(n-j))*k) Z=(W.setCells b (off+i*k) news).setCells b (off+(i+(n-j))*k) Z:=⟨w.drew,rfl,⟨rfl,rfl,rfl,ATX _⟩,by rw[hW1]⟩;clear hW1 oO hlen e1 e2 e3 e4 e5 sA xW Xq hZl
 go_enter L.f24,Body2.n24_ntmps ρ
 go_wp2_with fail
 go_region_law_o (refine step_append_room rfl (.tmp 22) (.tmp 25) (ρ.t 24) rfl (ρ.t 9) i0 k t24 wh hk b off i c (by simp[Act.eval,Act.put]) A (n-j) (c-j) news (by simp[Act.eval,Act.put]) s1.out AUp.out s2.out (by omega) s3.out ?_;rw[<-hW.out])
 go_wp2
 go_ret
 exact⟨rfl,fin⟩
end
end Go.Fw
end
section
namespace Go.Fw
open Go.M Go.Proofs Go.Shelf Go.RowKit Go.Lib
theorem Ff.take{w:World}{S:Nat->Prop}{d:Nat}{r:Ty}{css:List (List Value)}{rows:List r.D}{Fs:List ABU}(h:Ff w S d r css rows Fs)(n:Nat):Ff w S d r (css.take n) (rows.take n) (Fs.take n):=by
 refine⟨by simp[h.1],by simp[h.2.1],fun c hc=>h.2.2.1 c (AZi hc),fun i cs y G a b c=> ?_⟩;rw[AZD]at a b c;split at a
 ·rename_i hi
  rw[AOJ hi]at b c;exact h.2.2.2 i cs y G a b c
 simp_all
theorem Ff.drop{w:World}{S:Nat->Prop}{d:Nat}{r:Ty}{css:List (List Value)}{rows:List r.D}{Fs:List ABU}(h:Ff w S d r css rows Fs)(n:Nat):Ff w S d r (css.drop n) (rows.drop n) (Fs.drop n):=by
 refine⟨by simp[h.1],by simp[h.2.1],fun c hc=>h.2.2.1 c (AYV hc),fun i cs y G a b c=> ?_⟩;rw[AY8]at a b c;exact h.2.2.2 _ cs y G a b c
theorem ACL{r:Ty}{css:List (List Value)}(hl:∀c∈css,c.length=r.n)(n:Nat)(hn:n<=css.length):css.flatten.take (n*r.n)=(css.take n).flatten:=by
 have h1:((css.take n).flatten).length=n*r.n:=by
  grind[ID,List.mem_of_mem_take,List.length_take,Nat.min_eq_left]
 grind[List.take_append_drop,List.flatten_append,List.take_of_length_le]
theorem ACB{r:Ty}{css:List (List Value)}(hl:∀c∈css,c.length=r.n)(n:Nat)(hn:n<=css.length):css.flatten.drop (n*r.n)=(css.drop n).flatten:=by
 have h1:((css.take n).flatten).length=n*r.n:=by
  grind[ID,List.mem_of_mem_take,List.length_take,Nat.min_eq_left]
 grind[List.take_append_drop,List.flatten_append,List.drop_eq_nil_of_le]
theorem fi:∀{A B:List ABU},A.Sublist B->A.flatten.Sublist B.flatten
 |_,_,.slnil=> .slnil
 |_,_,.cons b h=>(fi h).trans (List.sublist_append_right _ _)
 |_,_,.cons_cons b h=>(List.Sublist.refl b).append (fi h)
theorem WU{Fs:List ABU}{p q:Nat}(hpq:p<=q):((Fs.take p++Fs.drop q).flatten).Sublist Fs.flatten:=by
 grind[List.drop_drop,List.drop_sublist,List.take_append_drop,fi]
@[reducible] def vC (d:Nat) (r:Ty):BI:=⟨[(0,.c (.ref 0)),(1,.c (.v (.int .i64))),(2,.c (.v (.int .i64)))],[.sl d r]⟩
@[reducible] def zq (d:Nat) (r:Ty):BI:=⟨[(0,.c (.ref 1))],[.gone,.sl d r]⟩
theorem vp{P:Program}{T:KS}{ρ:Ren}{nm:String}(hT:FE P T)(L:qy P ρ nm){r:Ty}(Vb:T.OW (ρ.t 24) r=true)(hn0:0<r.n)(m:Nat):
  Yy P (ρ.f 24) ⟨vC (m+1) r,zq (m+1) r,fun v=>(AG_ v.1.2.1 v.1.2.2.1 v.2.1).map fun l=>(((),()),((),l,()))⟩:=by
 refine⟨by rfl,YH L.f24 L.n24 (by kernel_rfl),?_⟩;intro E w v args u AZd hB hS hg;obtain⟨⟨u0,p,q,u1⟩,rows,u2⟩:=v;obtain⟨⟨⟨⟩,⟨⟩⟩,⟨⟩,l,⟨⟩⟩:=u;simp only[AOP]at hg;obtain⟨l',mT,hg⟩:=hg;simp only[AUW,true_and,AVW]at hg;subst hg;unfold AG_ at mT;split at mT
 case isFalse=>cases mT
 rename_i hc;obtain⟨hp0,hpq,hqn⟩:=hc;have hq0:(0:Int)<=q:=Int.le_trans hp0 hpq;obtain⟨p,rfl⟩:=AZo hp0;obtain⟨q,rfl⟩:=AZo hq0;simp only[AO2,AON]at mT;have AUf:p<=q:=by omega
 have ARY:q<=rows.length:=by omega
 obtain⟨⟨a0,h0,x0⟩,⟨a1,h1,x1⟩,⟨a2,h2,x2⟩,_⟩:=hS;have I4:args= #[a0,a1,a2]:=by
  grind
 subst I4;have e0:E.IZ 0=a0:=by
  have:VR E w [Bx.sl (m+1) r rows] (.ref 0 []) a0:=x0;grind[VR,DL,Option.some.inj]
 have e1:a1= .int .i64 (p:Int):=by
  have:VR E w [Bx.sl (m+1) r rows] (.v (.int .i64) (p:Int)) a1:=x1;simp only[VR,Rd,ATj,AVW]at this;simp_all
 have e2:a2= .int .i64 (q:Int):=by
  have:VR E w [Bx.sl (m+1) r rows] (.v (.int .i64) (q:Int)) a2:=x2;simp only[VR,Rd,ATj,AVW]at this;simp_all
 subst e1 e2;obtain⟨Fs,⟨hFl,hFb⟩,hSep⟩:=hB;obtain⟨F,rfl⟩:∃F,Fs=[F]:=by
  match Fs,hFl with
  |[F],_=>simp_all
 have AGI:=hFb 0 (.sl (m+1) r rows) F rfl rfl;obtain⟨_,ho⟩:=AGI;rw[e0]at ho;simp only[AWn,AYn,AQO]at hSep;have ho0:=ho;obtain⟨ad,cap,css,Fs1,R1,rfl,hle,hd,hp1',hcase⟩:=p8 ho;obtain⟨e,ti,hut,Vz,hs1,hby,hrow⟩:=LJ hT Vb;obtain⟨i0,z,i1,i2,i3,i4,i5,nw⟩:=Xr hT Vz hrow;have he:e=ρ.t 9:=by
  have:=L.t24.symm.trans hut;simp_all
 subst he;rw[hs1]at i2;have z9:∀w,(Go.sizeOf (ρ.t 9)).run P w= .ok r.n w:=fun w=>by simp[sizeOf,typeInfo,i1,i2]
 have hzl:z.cells.size=r.n:=by rw[<-AYg,i5,HM]
 have fin:∀{Q:Ending->World->Prop},Calls P (ρ.f 24) #[.slice ad rows.length cap,.int .i64 (p:Int),.int .i64 (q:Int)] w Q->
   (∀e w',Q e w'-> ∃v F',e= .returned v/\isSlice v=true/\Ow w' E.S (m+1) (.sl r) [v] l' F'/\F'.Nodup/\(∀c∈F',¬E.T c/\c<w'.heap.size)/\(∀c,E.T c->w'.heap[c]? =w.heap[c]?)/\Grown w w')->_:=fun h hq=>ABO (by omega) hSep h hq
 by_cases hpe:p=q
 ·subst hpe
  have hl:rows=l':=by simp_all
  subst hl;refine fin (AFF (k:=r.n) L z9 ad rows.length cap p w ARY hle) fun e w' h=> ?_
  obtain⟨rfl,rfl⟩:=h;exact⟨_,F,rfl,rfl,ho0,hSep.nodup,fun c hc=>⟨hSep.free c hc,hSep.lt c hc⟩,fun _ _=>rfl,⟨rfl,rfl,rfl,ATX _⟩⟩
 have Ha:p<q:=by omega
 rcases hcase with⟨h0,_⟩|⟨b,o,arr,ty,fr,rfl,hb,QW,hu,rfl,vf⟩
 ·omega
 have hbT: ¬E.T b:=hSep.free b (by simp);have AGK:b<w.heap.size:=hSep.lt b (by simp);have hnd:=AZO.1 hSep.nodup;have AAI:css.flatten.length=rows.length*r.n:=by rw[ID hd.2.2.1,hd.1]
 have g1:(rows.length-q)*r.n=rows.length*r.n-q*r.n:=AYi ..;have g2:(q-p)*r.n=q*r.n-p*r.n:=AYi ..;have g3:q*r.n<=rows.length*r.n:=ASH _ ARY;have g4:p*r.n<=q*r.n:=ASH _ AUf;have g5:(p+(rows.length-q))*r.n=p*r.n+(rows.length-q)*r.n:=AVn ..;have g6:rows.length*r.n<=cap*r.n:=ASH _ hle;have hzr:E8 r≠[]:=fun h=>by simp_all
 have hZ:(Builtin.zeroCells z.cells (q-p)).toList=(List.replicate (q-p) (E8 r)).flatten:=by
  grind[Builtin.zeroCells,XW,E8,HM]
 have hZl:((List.replicate (q-p) (E8 r)).flatten).length=(q-p)*r.n:=by rw[He,HM]
 have hZ1:∀v∈(List.replicate (q-p) (E8 r)).flatten,v.oneCell' =true:=fun v hv=>by
  obtain⟨c,hc1,hc2⟩:=AVK.1 hv;rw[AV1 hc1]at hc2;exact mQ (w:=w) (S:=E.S) (d:=0) (gZ nw) v hc2
 have kq:=AGQ (ρ:=ρ) L (i0:=i0) (z:=z) i1 i4 b o rows.length cap p q css.flatten _ w Ha ARY hle (by simp_all) vf (by grind[Vj,mk]) hd.one hZ (by simp_all) hZ1;refine fin kq fun e w' h=> ?_
 obtain⟨rfl,W,ud,hWg,rfl⟩:=h;rw[i2];have hA:(css.flatten.take (p*r.n)).length=p*r.n:=by grind
 have hB:(css.flatten.drop (q*r.n)).length=(rows.length-q)*r.n:=by simp_all
 have hbW:W.heap[b]? =some (.cells arr ty fr):=by simp_all
 have hcA:Bj W b o (css.flatten.take (p*r.n)):=Bj.heap (fun j v hj=>by
  rw[AZD]at hj;split at hj
  ·exact vf j v hj
  simp_all) ud
 obtain⟨LP,q1,q2,q3⟩:=kd (B:=(List.replicate (q-p) (E8 r)).flatten) (V:=css.flatten.drop (q*r.n)) hbW (by omega) hcA;rw[hA,hB,<-g5]at q1 q3
 generalize tL:(W.setCells b (o+p*r.n) (css.flatten.drop (q*r.n))).setCells b (o+(p+(rows.length-q))*r.n) ((List.replicate (q-p) (E8 r)).flatten)=w' at q1 q3
 have gG:∀c,c≠b->w'.heap[c]? =w.heap[c]?:=fun c hc=>by grind[Dd]
 have hcT:∀c,E.T c->c≠b:=fun c hc e=>hbT (e▸hc)
 have hra:=((hd.take p).append (hd.drop q)).mono (w':=w') (S':=E.S) (fun _ h=>h) (fun c hc=>gG c (hcT c (hSep.st c hc))) (fun c hc=>gG c (fun e=>hnd.1 (e▸(WU AUf).subset hc)));rw[mT]at hra;have zG:l'.length=p+(rows.length-q):=by grind
 refine⟨_,b::(Fs1.take p++Fs1.drop q).flatten,rfl,rfl,?_,?_,fun c hc=> ?_,fun c hc=>gG c (hcT c hc),?_⟩
 ·have Xq:css.length=rows.length:=hd.1
  have:=lZ (cap:=cap) hra q1 (by
   rw[AVq,<-ACL hd.2.2.1 p (by omega),<-ACB hd.2.2.1 q (by omega)];intro j v hj;exact q3 j v (by grind)) (by omega) (by omega) (by simp_all)
  simp_all
 ·grind[List.nodup_cons,WU]
 ·have Aau:w'.heap.size=w.heap.size:=by grind[Dq]
  rcases ASY.1 hc with rfl|hc
  ·simp_all
  ·have hm:c∈b::Fs1.flatten:=AZ1 _ ((WU AUf).subset hc)
   exact⟨hSep.free c hm,by rw[Aau];exact hSep.lt c hm⟩
 grind[Grown.trans',CH]
end Go.Fw
end
section
namespace Go.Fw
open Go.M Go.Proofs Go.Shelf Go.RowKit Go.Lib
section
variable{P:Program} {ρ:Ren} {nm:String} {fv:Func}
theorem SL{t:TypeId}{n:Nat}(h:(P.info? t).map (·.size)=some n):∀w,(Go.sizeOf t).run P w= .ok n w:=fun w=>by
 obtain⟨i,hi,rfl⟩:=AOP.1 h;simp[sizeOf,typeInfo,hi]
theorem Zr{t:TypeId}{z:Value}(h:(P.info? t).bind (·.zero)=some z):∀w,(zeroValue t).run P w= .ok z w:=fun w=>by
 obtain⟨i,hi,hz⟩:=AOc.1 h;simp[zeroValue,typeInfo,hi,hz]
structure og (P:Program) (ρ:Ren):Prop where
 t0:P.underlying (ρ.t 0)=some (TypeDesc.tuple #[])
 t3:P.underlying (ρ.t 3)=some (TypeDesc.int IntKind.i64)
 t4:P.underlying (ρ.t 4)=some (TypeDesc.bool)
 t24:P.underlying (ρ.t 24)=some (TypeDesc.slice (ρ.t 9))
 s0:(P.info? (ρ.t 0)).map (·.size)=some 1
 s3:(P.info? (ρ.t 3)).map (·.size)=some 1
 s4:(P.info? (ρ.t 4)).map (·.size)=some 1
 s24:(P.info? (ρ.t 24)).map (·.size)=some 1
 v0:(P.info? (ρ.t 0)).bind (·.zero)=some (Value.tuple #[])
 v3:(P.info? (ρ.t 3)).bind (·.zero)=some (Value.int IntKind.i64 0)
 v4:(P.info? (ρ.t 4)).bind (·.zero)=some (Value.bool false)
 v24:(P.info? (ρ.t 24)).bind (·.zero)=some (Value.slice none 0 0)
theorem og.ins(h:og P ρ)(hm:P.follows .mixedOrders=true)(f22:P.funcs[ρ.f 22]? =some { Body2.n22 ρ with name:=nm })(n22:(nm== "runtime.NumGoroutine")=false)(f29:P.funcs[ρ.f 29]? =some fv)(n29:(fv.name== "runtime.NumGoroutine")=false)
  (b29:fv.body.isNone=true) (e29:Extern.findNext fv=none) (x29:Extern.find fv=some (Extern.SlicesOverlaps.overlaps #[(ρ.t 24),(ρ.t 24)] #[(ρ.t 4)])):fg P ρ nm fv:=
 ⟨hm,f22,n22,f29,n29,b29,e29,x29,h.t0,run_isAgg_plain h.t0 rfl,SL h.s0,Zr h.v0,h.t3,run_isAgg_plain h.t3 rfl,SL h.s3,Zr h.v3,h.t4,run_isAgg_plain h.t4 rfl,SL h.s4,Zr h.v4,h.t24,run_isAgg_plain h.t24 rfl,SL h.s24,Zr h.v24⟩
theorem og.del(h:og P ρ)(hm:P.follows .mixedOrders=true)(f24:P.funcs[ρ.f 24]? =some { Body2.n24 ρ with name:=nm })(n24:(nm== "runtime.NumGoroutine")=false):qy P ρ nm:=
 ⟨hm,f24,n24,h.t0,run_isAgg_plain h.t0 rfl,SL h.s0,Zr h.v0,h.t3,run_isAgg_plain h.t3 rfl,SL h.s3,Zr h.v3,h.t4,run_isAgg_plain h.t4 rfl,SL h.s4,Zr h.v4,h.t24,run_isAgg_plain h.t24 rfl,SL h.s24,Zr h.v24⟩
@[reducible] def Jt (f22 f24 f29 f30 t24 t9:Nat):Ren:=⟨fun k=>if k=22 then f22 else if k=24 then f24 else if k=29 then f29 else if k=30 then f30 else k,fun k=>if k=24 then t24 else if k=9 then t9 else k,fun k=>k⟩
def ARi{T:KS}(hT:FE P T)(L:fg P ρ nm fv){r:Ty}{f:Nat}(hf:ρ.f 22=f)(Vb:T.OW (ρ.t 24) r=true)(hr:(r.flat&&(decide (mk r=1)&&decide (0<r.n)))=true)(g:(uJ r).Cu (Option (AAd r).V))
  (hg:∀v:(uJ r).V,(uJ r).un g v=(xq v.1.2.1 v.1.2.2.1 v.2.1).map fun l=>(((),()),((),l,()))):SP P:=
 ⟨f,⟨uJ r,AAd r,(uJ r).un g⟩,by
  simp only[AOw,APo]at hr;rw[funext hg,<-hf];grind[vk]⟩
def Ab7{T:KS}(hT:FE P T)(L:qy P ρ nm){r:Ty}{f:Nat}(m:Nat)(hf:ρ.f 24=f)(Vb:T.OW (ρ.t 24) r=true)(hr:decide (0<r.n)=true)(g:(vC (m+1) r).Cu (Option (zq (m+1) r).V))
  (hg:∀v:(vC (m+1) r).V,(vC (m+1) r).un g v=(AG_ v.1.2.1 v.1.2.2.1 v.2.1).map fun l=>(((),()),((),l,()))):SP P:=
 ⟨f,⟨vC (m+1) r,zq (m+1) r,(vC (m+1) r).un g⟩,by
  rw[funext hg,<-hf];exact vp hT L Vb (of_decide_eq_true hr) m⟩
end
end Go.Fw
end
