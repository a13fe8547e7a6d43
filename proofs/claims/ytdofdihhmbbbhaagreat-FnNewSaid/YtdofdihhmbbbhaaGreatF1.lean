/- The framework, part 2: a checked interpreter of the model's code over abstract states; no claim is made here. -/
import Derived.Test.YtdofdihhmbbbhaaGreatF0
import Derived.Below
import Derived.ChangeArms
import Derived.ChangeOld
import Derived.DataReads
import Derived.OrdersHeld
import Derived.Tactics
set_option linter.unusedVariables false
set_option linter.unusedSimpArgs false
set_option linter.unusedSectionVars false
section
namespace Go.Fw
theorem Q_ {w:World} {vw:List Bx} {E:Env} {bx:List Bx} {G:mu} (h:A6 E w vw bx G) (hw:Bw bx vw) {d:Nat} (hd:1≤d) {q:Ty} {cx:q.D} {j:Nat} {x:XV} {v:Value} (hv:XR E w vw x v) {K7:q.D} {Gq:List Bx} {d':Nat}
  (e:RF d q cx j x bx=some (K7,Gq,d')):1≤d'∧d'≤d∧ ∃E' F,Ch E w vw bx G E' Gq F∧
   ((j=0∧x.plain=false∧Ow w E'.S (d'-1) q v.cells.toList K7 F)∨(∃t y,v.cells.toList=[v]∧Ow w E'.S (d'-1) t [v] y F∧BR q j cx t y=some K7∧(x.plain=true→t.scalar=true∧isSlice v=false))):=by
 unfold RF at e
 split at e
 ·rename_i l
  split at e
  case isFalse=>cases e
  rename_i hj
  obtain ⟨vs,rfl,J9⟩:=hv
  obtain ⟨h1,h2,E',F,h3,h4⟩:=Ko h hw hd J9 e
  exact ⟨h1,h2,E',F,h3,.inl ⟨hj,rfl,h4⟩⟩
 ·rename_i x
  split at e
  case h_2=>cases e
  rename_i t y0 hc
  simp only [Option.bind_eq_some_iff,Option.map_eq_some_iff,Prod.mk.injEq] at e
  obtain ⟨⟨y,Oh,d1⟩,e1,row,e2,rfl,rfl,rfl⟩:=e
  dsimp only at e2
  have L8:VR E w vw x v:=hv
  have hk:x.known=true:=by cases x<;>simp_all [AV.known,Mc]
  obtain ⟨h1,h2,E',F,h3,h4⟩:=LX h hw hd L8 e1
  refine ⟨h1,h2,E',F,h3,.inr ⟨t,y,by rw [(TB L8 hk).2],h4,e2,fun hp=> ?_⟩⟩
  cases x with
  |v u z=>
   simp only [Mc,Option.map_eq_some_iff,Prod.mk.injEq] at e1
   obtain ⟨z',e3,_⟩:=e1
   obtain ⟨rfl,_⟩:=C3 e3
   obtain ⟨hs,hr⟩:=L8
   refine ⟨hs,?_⟩
   cases u<;>simp_all [Ty.scalar,Rd]<;>rfl
  |_=>simp [XV.plain] at hp
 ·cases e
theorem RX {f:AV→AV} {bx:List Bx} {b d:Nat} {r:Ty} {rows:List r.D}:(bx.set b (.sl d r rows)).map (Bx.map f)=(bx.map (Bx.map f)).set b (.sl d r rows):=by
 rw [List.map_set];rfl
theorem Xu {f:AV→AV} {bx:List Bx} {n d:Nat} {r:Ty} {rows:List r.D} (h:(bx.map (Bx.map f))[n]? =some (.sl d r rows)):bx[n]? =some (.sl d r rows):=by
 rw [List.getElem?_map,Option.map_eq_some_iff] at h
 obtain ⟨B,h1,h2⟩:=h
 cases B with
 |mem cs=>simp [Bx.map] at h2
 |sl d' r' Av=>rw [h1];exact congrArg some h2
 |dead=>simp [Bx.map] at h2
theorem Sd {E:Env} {σ:St} {a:Act} {w:World} (h:Rel E σ a w) {b i sz j:Nat} {p:List Pd} {va v:Value} (Zs:VR E w σ.bx (.Di b p i sz j) va) {x:XV} (hv:XR E w σ.bx x v) (dX: ∀u∈v.cells.toList,u.oneCell' =true)
  {σ':St} (e:Nh σ (.c (.Di b p i sz j)) x=some σ'):
  ∃bb oo E',va= .pointer (some ⟨bb,oo,none⟩)∧w.there bb oo v.cells.toList.length∧Rel E' σ' a (w.setCells bb oo v.cells.toList)∧G8 [b] E σ.bx w E' σ'.bx (w.setCells bb oo v.cells.toList)∧σ'.tm.length=σ.tm.length:=by
 simp only [Nh] at e
 split at e
 case h_2=>cases e
 rename_i d r rows hb
 split at e
 case isFalse=>cases e
 rename_i eY
 simp only [Option.bind_eq_some_iff] at e
 obtain ⟨⟨q,ys⟩,hg,e⟩:=e
 dsimp only at e
 split at e
 case isFalse=>cases e
 rename_i GN
 simp only [Option.bind_eq_some_iff,Option.map_eq_some_iff] at e
 obtain ⟨⟨K7,K0,d2⟩,e1,Av,e2,e3⟩:=e
 dsimp only at e1 e2 e3
 have st:=h.bx.st
 simp only [VR,hb] at Zs
 obtain ⟨_,hp,q1,ys1,bb,o,len,cap,g1,hi,g3,rfl⟩:=Zs
 rw [hg] at g1
 simp only [Option.some.injEq,Sigma.mk.injEq] at g1
 obtain ⟨rfl,g1⟩:=g1
 obtain rfl:=eq_of_heq g1
 have Dw:=(List.getElem?_eq_some_iff.1 hb).1
 obtain ⟨Gb,⟨hd1,ho⟩,hB⟩:=h.bx.take hb
 have OS:Bw (σ.bx.set b .dead) σ.bx:=fun n B hn=>by
  by_cases en:n=b
  ·subst en
   rw [List.getElem?_set_self Dw] at hn
   exact .inl (by simpa using hn.symm)
  ·rw [List.getElem?_set_ne (fun h=>en h.symm)] at hn
   exact .inr hn
 obtain ⟨hd2,hd3,E1,Fx,k1,hrow⟩:=Q_ hB OS (by omega) hv e1
 obtain ⟨A,W,pG,cc⟩:=Dv (d:=d2+p.length) (by omega) ho
 have Ja:=k1.boxes.perm (G':=(Fx++A)++W++[]) (by
  rw [List.append_nil,List.append_nil,List.append_assoc]
  exact List.Perm.append_left _ pG)
 obtain ⟨hle,hB3⟩:=Ja.share
 simp only [List.append_nil] at hB3
 generalize mZ:({ E1 with S:=fun c=>E1.S c∨c∈W,T:=fun c=>E1.T c∨c∈W }:Env)=E3 at hle hB3
 have QD:Le E E3:=k1.le.trans hle
 have gU:Ow w E3.S (d2+p.length) (.sl r) [E.DB b] rows A:=Bd (fun c hc=>by
  subst mZ
  exact hc.imp (k1.le.S c) id) (fun _ _=>rfl) (fun _ _=>rfl) cc
 obtain ⟨h',F1,F2,m1,m2,m3,m4⟩:=RT gU hp hg (by omega)
 rw [g3] at m1
 cases m1
 obtain ⟨m,rfl⟩: ∃m,d2=m+1:=⟨d2-1,by omega⟩
 rw [show m+1+p.length-p.length=m+1 by omega] at m2 m4
 simp only [Nat.add_sub_cancel] at hrow
 obtain ⟨b1,o1,arr,ty,fr,cs,G,R,n1,n2,n3,n4,n5,n6,n7,n8,n9⟩:=Te m2 hi
 simp only [Option.some.injEq,Addr.mk.injEq,and_true] at n1
 obtain ⟨rfl,rfl⟩:=n1
 subst GN
 have gz:A.Perm (G++(bb::R)++F2):=m3.trans (n8.append_right F2)
 obtain ⟨Fs,hFs1,hFs2⟩:=hB3
 have hO:bb∈A:=gz.mem_iff.2 (by simp)
 have JD: ¬E3.T bb:=hFs2.free bb (by simp [hO])
 have QW: ¬E3.S bb:=fun hc=>JD (hFs2.st bb hc)
 have nd:(Fx++(G++(bb::R)++F2)).Nodup:=(List.Perm.append_left Fx gz).nodup_iff.1 (List.nodup_append.1 hFs2.nodup).2.1
 have jx:bb∉Fx:=fun hc=>(List.nodup_append.1 nd).2.2 bb hc bb (by simp) rfl
 have kZ:bb∉G:=fun hc=>(List.nodup_append.1 (List.nodup_append.1 (List.nodup_append.1 nd).2.1).1).2.2 bb hc bb (by simp) rfl
 have lh:bb∉R:=(List.nodup_cons.1 (List.nodup_append.1 (List.nodup_append.1 (List.nodup_append.1 nd).2.1).1).2.1).1
 have lS:bb∉F2:=fun hc=>(List.nodup_append.1 (List.nodup_append.1 nd).2.1).2.2 bb (by simp) bb hc rfl
 have V1:j+v.cells.toList.length≤q.n:=by
  rcases hrow with ⟨rfl,_,ho4⟩|⟨t,y,hc1,ho4,MF,_⟩
  ·rw [Kr ho4];omega
  ·rw [hc1]
   obtain ⟨_,y0,au⟩:=Io MF
   obtain ⟨u,_,_,hu,_⟩:=M0 n7 au
   have:=(List.getElem?_eq_some_iff.1 hu).1
   simp;omega
 have LB:o+i*q.n+j+v.cells.toList.length≤arr.size:=by omega
 let w':=w.setCells bb (o+i*q.n+j) v.cells.toList
 have Lu: ∀c,c≠bb→w'.heap[c]? =w.heap[c]?:=fun c hc=>EU _ _ _ _ _ hc
 have Ru: ∀c,E3.S c→w'.heap[c]? =w.heap[c]?:=fun c hc=>Lu c (fun e=>QW (e▸hc))
 have VU:=D9 v.cells.toList (o+i*q.n+j) w bb arr ty fr n2
 have KU: ∃L6 G' D0,L6.length=q.n∧An w' bb (o+i*q.n) L6∧Ow w' E3.S m q L6 K7 G'∧(Fx++G).Perm (G'++D0):=by
  rcases hrow with ⟨rfl,_,ho4⟩|⟨t,y,hc1,ho4,MF,_⟩
  ·refine ⟨v.cells.toList,Fx,G,Kr ho4,Ih n2 LB,Bd (fun c hc=>hle.S c hc) (fun c hc=>Lu c (fun e=>QW (e▸hle.S c hc))) (fun c hc=>Lu c (fun e=>jx (e▸hc))) ho4,List.Perm.refl _⟩
  ·obtain ⟨_,y0,au⟩:=Io MF
   obtain ⟨u,K1,K2,z1,z2,z3,z4⟩:=M0 n7 au
   have gx:bb∉K2:=fun hc=>kZ (z3.mem_iff.2 (by simp [hc]))
   obtain ⟨F',f1,f2⟩:=z4 w' E3.S v y Fx K7 (fun _ hc=>hc) Ru (fun c hc=>Lu c (fun e=>gx (e▸hc)))
    (Bd (fun c hc=>hle.S c hc) (fun c hc=>Lu c (fun e=>QW (e▸hle.S c hc))) (fun c hc=>Lu c (fun e=>jx (e▸hc))) ho4) MF
   refine ⟨cs.set j v,F',K1,by simpa using n5,fun x u' hx=> ?_,f2,?_⟩
   ·rw [List.getElem?_set] at hx
    split at hx
    ·rename_i jw
     subst jw
     split at hx
     ·cases hx
      have:=Ih (w:=w) (b:=bb) (o:=o+i*q.n+j) (vs:=v.cells.toList) n2 LB 0 v (by rw [hc1];rfl)
      simpa using this
     ·cases hx
    ·rename_i jw
     have hold:=n6 x u' hx
     rw [Ex n2] at hold
     rw [Ex VU,JK LB,if_neg (fun hh=>by rw [hc1] at hh;simp only [List.length_cons,List.length_nil] at hh;omega),hold]
   ·refine (List.Perm.append_left Fx z3).trans ?_
    refine List.Perm.trans ?_ (f1.symm.append_right K1)
    rw [List.append_assoc]
    exact List.Perm.append_left _ List.perm_append_comm
 obtain ⟨L6,G',D0,c1,c2,c3,c4⟩:=KU
 obtain ⟨PX,f1,f2⟩:=n9 w' E3.S (CL arr (o+i*q.n+j) v.cells.toList) L6 K7 G' (fun _ hc=>hc) Ru (fun c hc=>Lu c (fun e=>lh (e▸hc))) VU (EB _ _ _) (fun k hk=>by
  rw [JK LB,if_neg (by omega)]) c1 c2 c3
 obtain ⟨F',f3,f4⟩:=m4 w' E3.S (ys.set i K7) PX Av (fun _ hc=>hc) Ru (fun c hc=>Lu c (fun e=>lS (e▸hc))) f2 e2
 have Pk:(Fx++A).Perm (F'++D0):=by
  have p1:F'.Perm (G'++(bb::R)++F2):=f3.trans (f1.append_right F2)
  refine (List.Perm.append_left Fx gz).trans (List.Perm.trans ?_ (p1.symm.append_right D0))
  classical
  rw [List.perm_iff_count]
  intro c
  have h4:=(List.perm_iff_count.1 c4) c
  simp only [List.count_append] at h4⊢
  omega
 have gm:bb∈F':=(f3.trans (f1.append_right F2)).mem_iff.2 (by simp)
 have gM:A6 E3 w σ.bx K0 F':=by
  have:A6 E3 w σ.bx K0 (F'++D0):=A6.perm (G:=Fx++A) ⟨Fs,hFs1,hFs2⟩ Pk
  exact this.drop
 have Ps:K0.length=σ.bx.length:=by rw [k1.len];simp
 have eL:K0[b]? =some .dead:=by
  obtain ⟨B,hB⟩: ∃B,K0[b]? =some B:=⟨_,List.getElem?_eq_getElem (by omega)⟩
  rcases k1.within b B hB with e|e
  ·rw [hB,e]
  ·rw [List.getElem?_set_self Dw] at e;rw [hB];exact e.symm
 have lI:Av.length=rows.length:=RW hg (by simp) e2
 have kT: ∀E0,Le E0 E3→Ch E0 w σ.bx σ.bx [] E3 K0 (Fx++A):=fun E0 hl=>⟨hl,Ps,fun n B hn=>by
  rcases k1.within n B hn with e|e
  ·exact .inl e
  ·exact (OS n B e),⟨Fs,hFs1,by simpa using hFs2⟩⟩
 have MU: ∀n,E3.DB n=E.DB n:=fun n=>by rw [QD.DB]
 have j0: ∀c,c<w.heap.size→c∉Fx++A→w'.heap[c]? =w.heap[c]?:=fun c _ hc=>Lu c (fun e=>hc (by rw [e];simp [hO]))
 have base:NA E w E3 w':=⟨QD.T,QD.S,QD.Z4,QD.WM,fun c hc=>Lu c (fun e=>JD (e▸QD.T c hc)),(BC _ _ _ _).os,(BC _ _ _ _).tape,(BC _ _ _ _).output,(BC _ _ _ _).size⟩
 have finish: ∀(f:AV→AV) (g:XV→XV),(∀E0,Le E0 E3→(∀c,E0.S c→E0.T c)→ ∀x v,VR E0 w σ.bx x v→VR E3 w' ((K0.map (Bx.map f)).set b (.sl (m+1+p.length) r Av)) (f x) v)→
   (∀x v,XR E w σ.bx x v→XR E3 w' ((K0.map (Bx.map f)).set b (.sl (m+1+p.length) r Av)) (g x) v)→
   Rel E3 { tm:=σ.tm.map g,bx:=(K0.map (Bx.map f)).set b (.sl (m+1+p.length) r Av) } a w':=by
  intro f g hf hg
  refine ⟨h.FL,Ai.EW _ hg h.tm,?_⟩
  have hT:=gM.f8 (E':=E3) (w':=w') (vw':=(K0.map (Bx.map f)).set b (.sl (m+1+p.length) r Av)) f (hf E3 (Le.refl _) hFs2.st) (fun _ h=>h) (fun _ _=>rfl) (fun _ _=>rfl) (fun c hc _=>Lu c (fun e=>by
    rcases hc with hc|hc
    ·exact QW (e▸hc)
    ·exact hc.2 (by rw [e];exact gm))) (fun F hF=>⟨hF.nodup,hF.free,fun c hc=>by rw [Co];exact hF.lt c hc,hF.st,fun c hc=>by rw [Co];exact hF.NM c hc⟩)
  refine A6.put (F:=F') (G:=[]) (by simpa using hT) (by rw [List.getElem?_map,eL];rfl) ⟨by omega,?_⟩
  rw [MU]
  exact f4
 have Zg: ∀f:AV→AV,G8 [b] E σ.bx w E3 ((K0.map (Bx.map f)).set b (.sl (m+1+p.length) r Av)) w':=fun f=>⟨base,by simp [Ps],fun n _=>⟨by rw [QD.C5],MU n⟩,fun n hn=>by
  have Rv:n≠b:=fun e=>by subst e;rw [hb] at hn;cases hn
  have U4:=(List.getElem?_eq_some_iff.1 hn).1
  rw [List.getElem?_set_ne (fun e=>Rv e.symm),List.getElem?_map]
  obtain ⟨B,hB⟩: ∃B,K0[n]? =some B:=⟨_,List.getElem?_eq_getElem (by omega)⟩
  have lN:B= .dead:=by
   rcases (kT E QD).within n B hB with e|e
   ·exact e
   ·rw [hn] at e;cases e;rfl
  rw [hB,lN];rfl,fun n B B' Rv hB Hg WA=>by
  simp at Rv
  have U4:=(List.getElem?_eq_some_iff.1 hB).1
  rw [List.getElem?_set_ne (fun e=>Rv e.symm),List.getElem?_map] at Hg
  obtain ⟨B2,Ja⟩: ∃B2,K0[n]? =some B2:=⟨_,List.getElem?_eq_getElem (by omega)⟩
  rw [Ja] at Hg
  have Hg:Bx.map f B2=B':=by simpa using Hg
  have lJ:B2=B:=by
   rcases (kT E QD).within n B2 Ja with e|e
   ·subst e;exact absurd Hg.symm WA
   ·rw [hB] at e;cases e;rfl
  subst lJ
  refine ⟨?_,fun c hc=>Lu c (fun e=> ?_)⟩
  ·subst Hg
   cases B2 with
   |mem cs=>trivial
   |sl d r rows=>rfl
   |dead=>exact absurd rfl WA
  ·have hF:Fs[n]? =some (Fs[n]'(by have:=(List.getElem?_eq_some_iff.1 Ja).1;rw [hFs1.1];exact this)):=List.getElem?_eq_getElem _
   have Mg:U3 E3 w n B2 c:=by
    cases B2 with
    |mem cs=>simp only [U3] at hc⊢;rw [QD.C5];exact hc
    |sl d r rows=>simp only [U3] at hc⊢;rw [MU];exact hc
    |dead=>exact hc
   rcases Mz (hFs1.2 n B2 _ Ja hF) Mg with hs|hs
   ·exact QW (e▸hs)
   ·exact (List.nodup_append.1 hFs2.nodup).2.2 c (List.mem_flatten.2 ⟨_,List.mem_of_getElem? hF,hs⟩) bb (by simp [hO]) e⟩
 refine ⟨bb,o+i*q.n+j,E3,rfl,Of n2 LB n3,?_,?_,?_⟩
 ·split at e3
  ·rename_i fm
   have h0: ∀E0,Le E0 E3→(∀c,E0.S c→E0.T c)→Hj E0 w σ.bx E3 w' (K0.set b (.sl (m+1+p.length) r Av)):=by
    intro E0 hl fS
    refine Lo b (kT E0 hl) fS (by simp [Ps]) (fun n d r rows hn _ hq=>by
      rw [List.getElem?_set_ne (fun e=>hn e.symm)] at hq;exact hq) (fun _ _=>rfl) (fun _ _=>rfl) rfl rfl j0 (fun d0 r0 Gw hq=> ?_)
    rw [List.getElem?_set_self (by omega)] at hq
    simp only [Option.some.injEq,Bx.sl.injEq] at hq
    obtain ⟨rfl,rfl,hq⟩:=hq
    obtain rfl:=eq_of_heq hq
    refine ⟨d,rows,hb,fun p' ae q' zs VO=> ?_⟩
    rcases hrow with ⟨_,fG,_⟩|⟨t,y,hc1,ho4,MF,aq⟩
    ·rw [fm] at fG;cases fG
    obtain ⟨cA,aK⟩:=aq fm
    have hk:=PU cA hp hg hi MF e2 ae q' zs VO
    refine ⟨hk.1,hk.2,fun hh kN=> ?_⟩
    rw [MU]
    rw [←hl.DB,MU] at kN
    refine S6 (fun Ad=> ?_) (LL f4) hk.1 kN
    by_cases eA:Ad.block=bb∧Ad.spot=none∧Ad.off=o+i*q.n+j
    ·right
     obtain ⟨ab,ao,as⟩:=Ad
     simp only at eA
     rw [eA.1,eA.2.1,eA.2.2]
     refine ⟨v,?_,aK⟩
     have:=Ih (w:=w) (b:=bb) (o:=o+i*q.n+j) (vs:=v.cells.toList) n2 LB 0 v (by rw [hc1];rfl)
     simpa using this
    ·left
     refine World.cell?_setCells_out bb v.cells.toList (o+i*q.n+j) w Ad (fun q1 q2=> ?_)
     rw [hc1]
     simp only [List.length_cons,List.length_nil]
     have:Ad.off≠o+i*q.n+j:=fun q3=>eA ⟨q1,q2,q3⟩
     omega
   have:=finish id id (fun E0 hl fS x v hx=>by rw [K_];exact CS (h0 E0 hl fS) hx) (fun x v hx=>by rw [K_];exact F5 (h0 E QD st) hx)
   rw [K_,List.map_id] at this
   rw [←e3]
   exact this
  ·have h0: ∀E0,Le E0 E3→(∀c,E0.S c→E0.T c)→ ∀x v,VR E0 w σ.bx x v→VR E3 w' ((K0.map (Bx.map (Dm b))).set b (.sl (m+1+p.length) r Av)) (Dm b x) v:=by
    intro E0 hl fS x v hx
    have GM:Hj E0 w σ.bx E3 w' (((K0.map (Bx.map (Dm b))).set b (.sl (m+1+p.length) r Av)).set b .dead):=by
     refine Lo b (kT E0 hl) fS (by simp [Ps]) (fun n d r rows hn _ hq=>by
      rw [List.getElem?_set_ne (fun e=>hn e.symm),List.getElem?_set_ne (fun e=>hn e.symm)] at hq
      exact Xu hq) (fun _ _=>rfl) (fun _ _=>rfl) rfl rfl j0 (fun d0 r0 Gw hq=> ?_)
     rw [List.getElem?_set_self (by simp;omega)] at hq
     cases hq
    exact YO GM hb (by rw [List.getElem?_set_self (by simp;omega)]) lI (by rw [hl.DB]) hx
   have:=finish (Dm b) (To b) h0 (fun x v hx=>Yz (h0 E QD st) hx)
   rw [←e3]
   simp only [St.V8]
   rw [Pm,RX]
   exact this
 ·rw [←e3]
  split
  ·have:=Zg id
   rw [K_] at this
   exact this
  ·simp only [St.V8]
   rw [Pm,RX]
   exact Zg _
 ·rw [←e3]
  split<;>simp [St.V8]
end Go.Fw
end
section
namespace Go.Fw
theorem Ut {w w':World} {S S':Nat→Prop} {d d':Nat} {r:Ty} (hr:r.scalar=true) {cs:List Value} {y:r.D} {F:mu} (h:Ow w S d r cs y F):F=[]∧cs.length=1∧Ow w' S' d' r cs y []:=by
 cases r with
 |int k=>simp only [Ow] at h⊢;obtain ⟨rfl,rfl⟩:=h;exact ⟨rfl,rfl,rfl,trivial⟩
 |bool=>simp only [Ow] at h⊢;obtain ⟨rfl,rfl⟩:=h;exact ⟨rfl,rfl,rfl,trivial⟩
 |str=>simp only [Ow] at h⊢;obtain ⟨rfl,rfl⟩:=h;exact ⟨rfl,rfl,rfl,trivial⟩
 |_=>simp [Ty.scalar] at hr
theorem UX {r:Ty} (hr:r.scalar=true):r.n=1:=by
 cases r<;>simp_all [Ty.scalar,Ty.n]
theorem aV {w:World} {S:Nat→Prop} {d:Nat} {r:Ty} (hr:r.scalar=true):Ow w S d r (CR r) r.z []:=QI (by cases r<;>simp_all [Ty.scalar,Ty.Tu])
theorem Um {r:Ty} (hr:r.scalar=true) {rows:List r.D}: ∀{p:List Pd},BA r rows p→p=[]
 |[],_=>rfl
 |s::p,h=>by
  simp only [BA] at h
  obtain ⟨_,_,h⟩:=h
  exfalso
  cases r with
  |int k=>
   cases hj:s.j with
   |zero=>rw [hj] at h;exact h
   |succ j=>rw [hj] at h;exact h
  |bool=>
   cases hj:s.j with
   |zero=>rw [hj] at h;exact h
   |succ j=>rw [hj] at h;exact h
  |str=>
   cases hj:s.j with
   |zero=>rw [hj] at h;exact h
   |succ j=>rw [hj] at h;exact h
  |_=>simp [Ty.scalar] at hr
theorem flatten_nil {l:List mu} (h: ∀x∈l,x=[]):l.flatten=[]:=by
 induction l with
 |nil=>rfl
 |cons x l ih=>
  rw [List.flatten_cons,h x (by simp),ih (fun y hy=>h y (by simp [hy]))]
  rfl
theorem XS {E:Env} {σ:St} {a:Act} {w:World} (h:Rel E σ a w) {b d off n:Nat} {r:Ty} {rows:List r.D} (hb:σ.bx[b]? =some (.sl d r rows)) (hr:r.scalar=true) (hl:off+n≤rows.length) (hn:0<n):
  ∃bb o cap,E.DB b= .slice (some ⟨bb,o,none⟩) rows.length cap∧rows.length≤cap∧w.there bb (o+off) n∧
   Rel E { σ with bx:=σ.bx.set b (.sl d r ((rows.take off++List.replicate n r.z)++rows.drop (off+n))) } a (w.setCells bb (o+off) (List.replicate n (CR r)).flatten)∧
   G8 [b] E σ.bx w E (σ.bx.set b (.sl d r ((rows.take off++List.replicate n r.z)++rows.drop (off+n)))) (w.setCells bb (o+off) (List.replicate n (CR r)).flatten):=by
 have st:=h.bx.st
 have Zv:=UX hr
 obtain ⟨F,⟨hd,ho⟩,hB⟩:=h.bx.take hb
 simp only [List.append_nil] at hB
 have Dw:=(List.getElem?_eq_some_iff.1 hb).1
 obtain ⟨d',rfl⟩: ∃m,d=m+1:=⟨d-1,by omega⟩
 simp only [Ow] at ho
 obtain ⟨ad,cap,hh,ZB,ho⟩:=ho
 simp only [List.cons.injEq,and_true] at hh
 rcases ho with ⟨rfl,_⟩|⟨bb,o,arr,ty,fr,Fs,rfl,ha,GN,hu,rfl,hFl,MD⟩
 ·omega
 have mQ:List.flatten Fs=[]:=flatten_nil fun x hx=>by
  obtain ⟨i,hi,hxi⟩:=List.getElem_of_mem hx
  obtain ⟨cs,_,_,h3⟩:=MD i (rows[i]'(by omega)) x (List.getElem?_eq_getElem _) (by rw [List.getElem?_eq_getElem hi,hxi])
  exact (Ut (w':=w) (S':=E.S) (d':=0) hr h3).1
 rw [mQ] at hB
 have di:(CR r).length=1:=by rw [Dx,Zv]
 have j9:((List.replicate n (CR r)).flatten).length=n:=by rw [CB,di,Nat.mul_one]
 rw [Zv,Nat.mul_one] at GN
 have LB:o+off+((List.replicate n (CR r)).flatten).length≤arr.size:=by omega
 generalize J9:(List.replicate n (CR r)).flatten=vs at j9 LB
 refine ⟨bb,o,cap,hh,ZB,Of ha (by omega) hu,?_⟩
 have JD: ¬E.T bb:=hB.YG _ (by simp)
 have d9:=hB
 have Lu: ∀c,c≠bb→(w.setCells bb (o+off) vs).heap[c]? =w.heap[c]?:=fun c hc=>EU _ _ _ _ _ hc
 have hw: ∀c,c<w.heap.size→c∉[bb]→(w.setCells bb (o+off) vs).heap[c]? =w.heap[c]?:=fun c _ hc=>Lu c (by simpa using hc)
 have kT:Ch E w σ.bx σ.bx [] E (σ.bx.set b .dead) [bb]:=⟨Le.refl _,by simp,fun n B hn=>by
  by_cases en:n=b
  ·subst en
   rw [List.getElem?_set_self Dw] at hn
   exact .inl (by simpa using hn.symm)
  ·rw [List.getElem?_set_ne (fun h=>en h.symm)] at hn
   exact .inr hn,by simpa using hB⟩
 generalize Vs:(rows.take off++List.replicate n r.z)++rows.drop (off+n)=Av
 have az:Av.length=rows.length:=by
  rw [←Vs]
  simp
  omega
 have GM:Hj E w σ.bx E (w.setCells bb (o+off) vs) (σ.bx.set b (.sl (d'+1) r Av)):=Lo b kT st (by simp) (fun n d r rows hn _ hq=>by
   rw [List.getElem?_set_ne (by omega)] at hq⊢;exact hq) (fun _ _=>rfl) (fun _ _=>rfl) rfl rfl hw (fun d1 r1 aY hq=>by
   rw [List.getElem?_set_self Dw] at hq
   simp only [Option.some.injEq,Bx.sl.injEq] at hq
   obtain ⟨rfl,rfl,hq⟩:=hq
   obtain rfl:=eq_of_heq hq
   refine ⟨d'+1,rows,hb,fun p hp q ys hg=> ?_⟩
   obtain rfl:=Um hr hp
   simp only [Cb,Option.some.injEq,Sigma.mk.injEq] at hg
   obtain ⟨rfl,hg⟩:=hg
   obtain rfl:=eq_of_heq hg
   exact ⟨by simp [BA],⟨Av,by simp [Cb],az⟩,fun h' iJ=>iJ⟩)
 refine ⟨⟨h.FL,h.tm.imp fun _ _ hq=>F5 GM hq,?_⟩,⟨⟨fun _ h=>h,fun _ h=>h,fun _ h=> .inl h,fun _ h=> .inl h,fun c hc=>Lu c (fun e=>JD (e▸hc)),(BC _ _ _ _).os,(BC _ _ _ _).tape,(BC _ _ _ _).output,(BC _ _ _ _).size⟩,by simp,fun _ _=>⟨rfl,rfl⟩,fun n hn=>by
  rw [List.getElem?_set_ne (fun e=>by subst e;rw [hb] at hn;cases hn)];exact hn,fun n B B' Rv hB Hg WA=>by
  simp at Rv
  rw [List.getElem?_set_ne (fun e=>Rv e.symm),hB] at Hg
  cases Hg
  refine ⟨I4.refl WA,fun c hc=>Lu c (fun e=> ?_)⟩
  obtain ⟨Fs,⟨f1,f2⟩,f3⟩:=d9
  have Ja:(σ.bx.set b .dead)[n]? =some B:=by rw [List.getElem?_set_ne (fun e=>Rv e.symm)];exact hB
  have hF:Fs[n]? =some (Fs[n]'(by have:=(List.getElem?_eq_some_iff.1 Ja).1;omega)):=List.getElem?_eq_getElem _
  rcases Mz (f2 n B _ Ja hF) hc with hs|hs
  ·exact JD (e▸st c hs)
  ·exact (List.nodup_append.1 f3.nodup).2.2 c (List.mem_flatten.2 ⟨_,List.mem_of_getElem? hF,hs⟩) bb (by simp) e⟩⟩
 have hT:=hB.turn (E':=E) (w':=w.setCells bb (o+off) vs) (vw':=σ.bx.set b (.sl (d'+1) r Av)) (fun x v hq=>CS GM hq) (fun _ h=>h) (fun _ _=>rfl) (fun _ _=>rfl) (fun c hc _=>Lu c (fun e=>by
   rcases hc with hc|hc
   ·exact JD (e▸st c hc)
   ·exact hc.2 (by simp [e]))) (fun F hF=>⟨hF.nodup,hF.free,fun c hc=>by rw [Co];exact hF.lt c hc,hF.st,fun c hc=>by rw [Co];exact hF.NM c hc⟩)
 have jT:RI E (w.setCells bb (o+off) vs) (σ.bx.set b (.sl (d'+1) r Av)) b (.sl (d'+1) r Av) [bb]:=by
  refine ⟨hd,?_⟩
  simp only [Ow]
  refine ⟨_,cap,by rw [hh,az],by omega,.inr ⟨bb,o,CL arr (o+off) vs,ty,fr,List.replicate Av.length [],rfl,D9 _ _ _ _ _ _ _ ha,by rw [EB,Zv];omega,by rw [EB];exact hu,by simp,by simp,fun i y G hy hG=> ?_⟩⟩
  have kc:G=[]:=List.eq_of_mem_replicate (List.mem_of_getElem? hG)
  subst kc
  have bN:i<rows.length:=by have:=(List.getElem?_eq_some_iff.1 hy).1;omega
  rw [Zv,Nat.mul_one]
  by_cases Pn:off≤i∧i<off+n
  ·have ma:y=r.z:=by
    rw [←Vs,List.getElem?_append_left (by simp;omega),List.getElem?_append_right (by simp;omega)] at hy
    exact List.eq_of_mem_replicate (List.mem_of_getElem? hy)
   subst ma
   refine ⟨CR r,di,fun j v hj=> ?_,aV hr⟩
   have lZ:j=0:=by have:=(List.getElem?_eq_some_iff.1 hj).1;omega
   subst lZ
   rw [Nat.add_zero]
   have:=Ih ha LB (i-off) v (by
    rw [←J9,E8 (by rw [di];omega),di,Nat.mod_one]
    exact hj)
   rw [show o+off+(i-off)=o+i by omega] at this
   exact this
  ·have lR:rows[i]? =some y:=by
    rw [←Vs] at hy
    by_cases h1:i<off
    ·rw [List.getElem?_append_left (by simp;omega),List.getElem?_append_left (by simp;omega),List.getElem?_take,if_pos h1] at hy
     exact hy
    ·rw [List.getElem?_append_right (by simp;omega),List.getElem?_drop] at hy
     rw [←hy]
     congr 1
     simp
     omega
   obtain ⟨cs,c1,c2,c3⟩:=MD i y (Fs[i]'(by omega)) lR (List.getElem?_eq_getElem _)
   obtain ⟨_,c4,c5⟩:=Ut (w':=w.setCells bb (o+off) vs) (S':=E.S) (d':=d') hr c3
   rw [Zv,Nat.mul_one] at c2
   exact ⟨cs,c4,NS c2 ha LB (.inr (by omega)),c5⟩
 have:=A6.put (b:=b) (B:= .sl (d'+1) r Av) (F:=[bb]) (G:=[]) (by simpa using hT) (by rw [List.getElem?_set_self Dw]) jT
 rw [List.set_set] at this
 exact this
section
variable {Y:Type} {P:Program} {T:Dp} (hT:B7 P T) {o:Oper} {E:Env} {σ:St} {a:Act} {w:World} {k:K Y} {y:Y}
include hT
theorem VG (h:Rel E σ a w) {c:Call} {x:XV} (ho:o.op= .call c) (hc:c.callee= .builtin .clear) (DQ:c.args.toList.map σ.ev=[x]) (e:O8 T c.argTypes σ x k=some y)
  (gy: ∀b p off n,x= .c (.NB b p off n)→DM (fun _=>none) σ o.op=[b]): ∃v w' E' xv σ',((execOp a.eval o).run P w= .ok (.value v) w'∨((execOp a.eval o).run P w= .ok .skip w'∧v=undef))∧Rel E' σ' a w'∧XR E' w' σ'.bx xv v∧
   G8 (DM (fun _=>none) σ o.op) E σ.bx w E' σ'.bx w'∧σ'.tm.length=σ.tm.length∧k xv σ' =some y:=by
 obtain ⟨o1,hargs',rfl⟩:=Jv DQ
 have L3:=h.ev o1
 unfold O8 at e
 split at e
 case h_2=>cases e
 rename_i t b off n ht hx
 rw [hx] at L3
 rw [gy b [] off n hx]
 split at e
 case h_2=>cases e
 rename_i d r rows hb
 split at e
 case isFalse=>cases e
 rename_i NW
 rw [Bool.and_eq_true] at NW
 obtain ⟨NW,hr⟩:=NW
 obtain ⟨el,ti,hu,HD,hs,fh,hrow⟩:=Fe hT NW
 obtain ⟨i,z,i1,i2,i3,i4,i5,hg⟩:=M6 hT HD hrow
 have LP:VR E w σ.bx (.NB b [] off n) (a.eval o1):=L3
 simp only [VR,hb] at LP
 obtain ⟨_,_,q,ys,ad,len,cap,cJ,hl,hh,hv⟩:=LP
 simp only [Cb,Option.some.injEq,Sigma.mk.injEq] at cJ
 obtain ⟨rfl,cJ⟩:=cJ
 obtain rfl:=eq_of_heq cJ
 simp only [Df,Option.some.injEq] at hh
 have Zv:=UX hr
 by_cases hn:n=0
 ·subst hn
  have fv:(rows.take off++List.replicate 0 r.z)++rows.drop (off+0)=rows:=by simp
  rw [fv] at e
  have MF:σ.bx.set b (.sl d r rows)=σ.bx:=by
   apply List.ext_getElem?
   intro j
   rw [List.getElem?_set]
   split
   ·rename_i e1
    subst e1
    rw [hb]
    simp [(List.getElem?_eq_some_iff.1 hb).1]
   ·rfl
  rw [MF] at e
  refine ⟨.tuple #[],w,E,.c .undef,σ,.inl ?_,h,trivial,G8.refl _ _ _ _,rfl,e⟩
  have hz: ∃a' c',a.eval o1= .slice a' 0 c':=⟨_,_,by rw [hv];rfl⟩
  obtain ⟨a',c',hz⟩:=hz
  simp only [execOp,ho,resolve,hc,hargs',invoke,builtin,Sem.run_bind,Sem.run_pure,Result.andThen_ok,List.map_toArray,List.map_cons,List.map_nil,Builtin.clear_,ht,hz]
  cases a'<;>simp [AQ hu]
 ·obtain ⟨bb,oo,cap',g1,g2,g3,g4,g5⟩:=XS h (d:=d) hb hr hl (by omega)
  rw [g1] at hh
  simp only [Value.slice.injEq] at hh
  obtain ⟨rfl,rfl,rfl⟩:=hh
  have L8:a.eval o1= .slice (some ⟨bb,oo+off,none⟩) n (cap'-off):=by
   rw [hv,Zv]
   unfold HB
   rw [if_neg (by omega)]
   simp [Addr.add]
  refine ⟨.tuple #[],_,E,.c .undef,_,.inl ?_,g4,trivial,g5,rfl,e⟩
  have hz:(Builtin.zeroCells z.cells n).toList=(List.replicate n (CR r)).flatten:=by
   unfold Builtin.zeroCells
   have mN:z.cells.size=(CR r).length:=by rw [←i5];simp
   have:=Lw i5 n (fun hh=>by have:=Dx r;rw [hh,Zv] at this;simp at this)
   rw [←mN] at this
   exact this
  have h1: ∀v∈(List.replicate n (CR r)).flatten,v.oneCell' =true:=fun v hv=>by
   obtain ⟨l,hl1,YI⟩:=List.mem_flatten.1 hv
   rw [List.eq_of_mem_replicate hl1] at YI
   exact Tk (w:=w) (S:=E.S) (d:=0) (aV hr) v YI
  have j9:((List.replicate n (CR r)).flatten).length=n:=by rw [CB,Dx,Zv,Nat.mul_one]
  have WW:=run_storeCells_cells (P:=P) bb (oo+off) (List.replicate n (CR r)).flatten 0 w (fun j hj=>by simpa using (g3 j (by omega)).1) (fun j hj=>by simpa using (g3 j (by omega)).2) h1
  rw [Nat.add_zero] at WW
  obtain ⟨n',rfl⟩: ∃n',n=n'+1:=⟨n-1,by omega⟩
  simp only [execOp,ho,resolve,hc,hargs',invoke,builtin,Sem.run_bind,Sem.run_pure,Result.andThen_ok,List.map_toArray,List.map_cons,List.map_nil,Builtin.clear_,ht,L8]
  simp [AQ hu,zeroValue,typeInfo,i1,i4,hz,WW]
end
end Go.Fw
end
section
namespace Go.Fw
theorem RH {E:Env} {w:World} {vw:List Bx}: ∀{l:List XV} {bs:mu} {vs:List Value},Uf l=some bs→Ai (XR E w vw) l vs→(∀b∈bs,b<vw.length)∧vs=bs.map fun b=>Value.pointer (some ⟨E.C5 b,0,none⟩)
 |[],bs,vs,e,h=>by
  simp only [Uf,Option.some.injEq] at e
  subst e
  cases vs with
  |nil=>exact ⟨by simp,rfl⟩
  |cons _ _=>exact h.elim
 |x::l,bs,vs,e,h=>by
  unfold Uf at e
  split at e
  ·rename_i heq;cases heq
  ·rename_i b l' heq
   cases heq
   simp only [Option.map_eq_some_iff] at e
   obtain ⟨r,e1,rfl⟩:=e
   cases vs with
   |nil=>exact h.elim
   |cons v vs=>
    obtain ⟨h1,h2⟩:=h
    obtain ⟨k1,k2⟩:=RH e1 h2
    obtain ⟨h3,h4⟩:b<vw.length∧v= .pointer (some ⟨E.C5 b,0,none⟩):=h1
    exact ⟨fun c hc=>(List.mem_cons.1 hc).elim (fun e=>e▸h3) (k1 c),by rw [h4,k2];rfl⟩
  ·cases e
theorem gL {E:Env} {σ:St} {a:Act} {w:World} (h:Rel E σ a w): ∀l:List Operand,Ai (XR E w σ.bx) (l.map σ.ev) (l.map a.eval)
 |[]=>trivial
 |x::l=>⟨h.ev x,gL h l⟩
theorem V3 {E:Env} {σ:St} {a:Act} {w:World} (h:Rel E σ a w): ∀o:Option Operand,OR E w σ.bx (o.map σ.ev) (o.map a.eval)
 |none=>trivial
 |some x=>h.ev x
theorem UT {w:World} {S:Nat→Prop}: ∀{p:List Pd} {d:Nat} {r:Ty} {h:Value} {rows:List r.D} {F:mu} {q:Ty} {ys:List q.D} {v:Value},Ow w S d (.sl r) [h] rows F→BA r rows p→
  Cb r rows p=some ⟨q,ys⟩→d≤p.length→Df w h p=some v→Rd w S (.sl q) [v] ys
 |p,0,r,h,rows,F,q,ys,v,ho,hp,hg,_,hv=>by
  simp only [Ow] at ho
  obtain ⟨h',k,hr⟩:=QS ho.1 hp hg
  have:=k w (fun _ _=>rfl)
  rw [hv] at this
  cases this
  exact hr
 |[],d+1,r,h,rows,F,q,ys,v,ho,hp,hg,hd,hv=>by simp at hd
 |s::p,d+1,r,h,rows,F,q,ys,v,ho,hp,hg,hd,hv=>by
  simp only [BA] at hp
  obtain ⟨hi,GN,hp⟩:=hp
  simp only [Cb] at hg
  obtain ⟨a,len,cap,rfl⟩: ∃a len cap,h= .slice a len cap:=by
   have:=ho
   simp only [Ow] at this
   obtain ⟨a,cap,e,_⟩:=this
   simp only [List.cons.injEq,and_true] at e
   exact ⟨_,_,_,e⟩
  split at hg
  case h_2=>cases hg
  rename_i q' x' MQ
  rw [MQ] at hp
  obtain ⟨b,o,arr,ty,fr,cs,G,R,rfl,hb,hu,hbd,c1,c2,c3,Pk,hback⟩:=Te ho hi
  obtain ⟨u,A1,A2,k1,k2,k3,k4⟩:=M0 c3 MQ
  simp only [Df] at hv
  rw [GN,c2 _ _ k1] at hv
  exact UT k2 hp hg (by simp at hd;omega) hv
theorem VY {E:Env} {σ:St} {a:Act} {w:World} (h:Rel E σ a w) {b i sz j:Nat} {p:List Pd} {va v:Value} (Zs:VR E w σ.bx (.Di b p i sz j) va) {x:XV} (hv:XR E w σ.bx x v) (dX: ∀u∈v.cells.toList,u.oneCell' =true)
  {σ':St} (e:Me σ (.c (.Di b p i sz j)) x=some σ'):
  ∃bb oo E',va= .pointer (some ⟨bb,oo,none⟩)∧w.there bb oo v.cells.toList.length∧Rel E' σ' a (w.setCells bb oo v.cells.toList)∧G8 [b] E σ.bx w E' σ'.bx (w.setCells bb oo v.cells.toList)∧σ'.tm.length=σ.tm.length:=by
 unfold Me LG at e
 split at e
 ·rename_i b0 _ _ _ _ b' s p' off n heq
  cases heq
  split at e
  case isFalse=>cases e
  rename_i Z9
  subst Z9
  split at e
  case h_2=>cases e
  rename_i d r rows hb
  simp only [Option.bind_eq_some_iff,Option.map_eq_some_iff] at e
  obtain ⟨q,⟨⟨q0,ys⟩,hg,rfl⟩,e⟩:=e
  dsimp only at e
  have Dw:=(List.getElem?_eq_some_iff.1 hb).1
  obtain ⟨F,⟨hd1,ho⟩,hB⟩:=h.bx.take hb
  obtain ⟨A,W,pF,cc⟩:=Dv (d:=min d (p'.length+1)) (by omega) ho
  have Ja:=hB.perm (G':=A++W++[]) (by rw [List.append_nil,List.append_nil];exact pF)
  obtain ⟨hle,hB3⟩:=Ja.share
  generalize lM:({ E with S:=fun c=>E.S c∨c∈W,T:=fun c=>E.T c∨c∈W }:Env)=E1 at hle hB3
  have gU:Ow w E1.S (min d (p'.length+1)) (.sl r) [E1.DB b'] rows A:=by
   rw [hle.DB];subst lM;exact cc
  have gM:=hB3.put (b:=b') (B:= .sl (min d (p'.length+1)) r rows) (by rw [List.getElem?_set_self Dw]) ⟨by omega,gU⟩
  rw [List.set_set] at gM
  have hk:Hj E w σ.bx E1 w (σ.bx.set b' (.sl (min d (p'.length+1)) r rows)):=by
   refine ⟨by simp,fun _ _=>by rw [hle.C5],hle.T,hle.S,h.bx.st,fun _ _=>rfl,fun c d' r' Av hc e=> ?_⟩
   by_cases Xh:b' =c
   ·subst Xh
    rw [List.getElem?_set_self Dw] at e
    simp only [Option.some.injEq,Bx.sl.injEq] at e
    obtain ⟨rfl,rfl,e⟩:=e
    obtain rfl:=eq_of_heq e
    exact ⟨d,rows,hb,fun p hp q ys hg=>⟨hp,⟨ys,hg,rfl⟩,fun h' hh=>by rw [hle.DB];exact hh⟩⟩
   ·rw [List.getElem?_set_ne Xh] at e
    exact ⟨d',Av,e,fun p hp q ys hg=>⟨hp,⟨ys,hg,rfl⟩,fun h' hh=>by rw [hle.DB];exact hh⟩⟩
  have L3:VR E w σ.bx (.NB b' (s::p') off n) v:=hv
  have LP:XR E1 w (σ.bx.set b' (.sl (min d (p'.length+1)) r rows)) (.c (.sl true q0 ((ys.drop off).take n))) v:=by
   simp only [VR,hb] at L3
   obtain ⟨_,hp,q1,ys1,a1,len,cap,g1,g2,g3,rfl⟩:=L3
   rw [hg] at g1
   simp only [Option.some.injEq,Sigma.mk.injEq] at g1
   obtain ⟨rfl,g1⟩:=g1
   obtain rfl:=eq_of_heq g1
   have:=UT gU hp hg (by simp only [List.length_cons];omega) (by rw [hle.DB];exact g3)
   exact VM this g2
  have hr:Rel E1 { σ with bx:=σ.bx.set b' (.sl (min d (p'.length+1)) r rows) } a w:=
   ⟨h.FL,h.tm.imp fun _ _ hx=>F5 hk hx,gM.turn (E':=E1) (w':=w) (fun _ _ hv=>CS ⟨by simp,fun _ _=>rfl,fun _ h=>h,fun _ h=>h,hB3.st,fun _ _=>rfl,fun c d' r' Av hc e=>by
    by_cases Xh:b' =c
    ·subst Xh
     rw [List.getElem?_set_self Dw] at e
     simp only [Option.some.injEq,Bx.sl.injEq] at e
     obtain ⟨rfl,rfl,e⟩:=e
     obtain rfl:=eq_of_heq e
     exact ⟨d,rows,hb,fun p hp q ys hg=>⟨hp,⟨ys,hg,rfl⟩,fun h' hh=>hh⟩⟩
    ·rw [List.getElem?_set_ne Xh] at e
     exact ⟨d',Av,e,fun p hp q ys hg=>⟨hp,⟨ys,hg,rfl⟩,fun h' hh=>hh⟩⟩⟩ hv) (fun _ h=>h) (fun _ _=>rfl) (fun _ _=>rfl) (fun _ _ _=>rfl) fun F hF=>hF⟩
  obtain ⟨bb,oo,E',q1,q2,q3,q4,q5⟩:=Sd hr (CS hk Zs) LP dX e
  refine ⟨bb,oo,E',q1,q2,q3,⟨(hle.base w).trans q4.base,by simpa using q4.len,fun c hc=> ?_,fun c hc=> ?_,fun c B B' kC hB Hg hd=> ?_⟩,q5⟩
  ·have:=q4.ids c (by simpa using hc)
   exact ⟨this.1.trans (by rw [hle.C5]),this.2.trans (by rw [hle.DB])⟩
  ·refine q4.dead c ?_
   have Xh:b'≠c:=fun e=>by subst e;rw [hb] at hc;cases hc
   simp only
   rw [List.getElem?_set_ne Xh]
   exact hc
  ·have Xh:b'≠c:=fun e=>kC (by simp [e])
   obtain ⟨f1,f2⟩:=q4.frame c B B' kC (by simp only;rw [List.getElem?_set_ne Xh];exact hB) Hg hd
   refine ⟨f1,fun c' Mg=>f2 c' ?_⟩
   cases B with
   |mem cs=>exact Mg.trans (by rw [hle.C5])
   |sl d0 r0 Gw=>simp only [U3] at Mg⊢;rw [hle.DB];exact Mg
   |dead=>exact Mg
 ·simp only [Option.bind_some] at e
  exact Sd h Zs hv dX e
def RS:Op→Bool
 | .call { callee:= .value _,.. }=>true
 |_=>false
section
variable {Y:Type} {P:Program} {T:Dp} (hT:B7 P T) {o:Oper} {E:Env} {σ:St} {a:Act} {w:World} {k:K Y} {y:Y}
include hT
theorem Vw (h:Rel E σ a w) {t:TypeId} {oa ox:Operand} (ho:o.op= .store t oa ox) {ti:TI} (HD:T.get t=some ti)
  (hc:(σ.ev ox).cells.length=ti.size∧ti.size≠0∧(σ.ev ox).cells.all AV.known=true) {σ':St} (hs:Me σ (σ.ev oa) (σ.ev ox)=some σ') (e:k (.c .undef) σ' =some y):EV P o E σ a w k y:=by
 obtain ⟨c1,c2,c3⟩:=hc
 have PZ:(σ.ev ox).cells≠[]:=fun hh=>by rw [hh] at c1;exact c2 c1.symm
 obtain ⟨J9,dX⟩:=Ql (h.ev ox) c3 PZ
 have hlen:(a.eval ox).cells.toList.length=ti.size:=by rw [←Ai.len J9];exact c1
 have hi:(P.info? t).map (·.size)=some (a.eval ox).cells.toList.length:=by rw [hlen];exact B7.size hT HD
 have Zs:=h.ev oa
 have fin: ∀{bb oo:Nat} {E':Env},a.eval oa= .pointer (some ⟨bb,oo,none⟩)→w.there bb oo (a.eval ox).cells.toList.length→Rel E' σ' a (w.setCells bb oo (a.eval ox).cells.toList)→
   G8 (DM (fun _=>none) σ o.op) E σ.bx w E' σ'.bx (w.setCells bb oo (a.eval ox).cells.toList)→σ'.tm.length=σ.tm.length→EV P o E σ a w k y:=by
  intro bb oo E' e1 e2 e3 e4 e5
  have hr:=P9 (P:=P) e2 hi dX
  refine ⟨undef,_,E',.c .undef,σ',.inr ⟨?_,rfl⟩,e3,trivial,e4,e5,e⟩
  simp only [execOp,ho,e1,Sem.run_bind,hr,Result.andThen_ok,Sem.run_pure]
 generalize kF:σ.ev oa=xa at hs Zs
 cases xa with
 |agg l=>simp [Me,LG,Nh] at hs
 |Hi l=>simp [Me,LG,Nh] at hs
 |c x=>
  cases x with
  |C2 b j=>
   simp only [Me,LG,Option.bind_some,Nh] at hs
   split at hs
   case h_2=>cases hs
   rename_i cs hb
   simp only [Option.map_eq_some_iff] at hs
   obtain ⟨L6,hs,rfl⟩:=hs
   have iz:b<σ.bx.length∧a.eval oa= .pointer (some ⟨E.C5 b,j,none⟩):=Zs
   obtain ⟨q1,q2,q3⟩:=XQ h hb J9 PZ hs
   exact fin iz.2 q1 q2 (by rw [ho];simp only [DM,kF];exact q3) rfl
  |Di b p i sz j=>
   obtain ⟨bb,oo,E',q1,q2,q3,q4,q5⟩:=VY h Zs (h.ev ox) dX hs
   exact fin q1 q2 q3 (by rw [ho];simp only [DM,kF];exact q4) q5
  |_=>simp [Me,LG,Nh] at hs
omit hT in
theorem T5 (h:Rel E σ a w) {x:Operand} (ho:o.op= .assign x) (e:Lk σ (σ.ev x) k=some y):EV P o E σ a w k y:=by
 have hr:(execOp a.eval o).run P w= .ok (.value (a.eval x)) w:=by simp only [execOp,ho,Sem.run_pure]
 have hv:=h.ev x
 unfold Lk at e
 split at e
 ·rename_i b off n hx
  rw [hx] at hv
  simp only [Option.bind_eq_some_iff] at e
  obtain ⟨⟨r,rows,bx,d⟩,e1,e⟩:=e
  dsimp only at e
  have L8:VR E w σ.bx (.NB b [] off n) (a.eval x):=hv
  obtain ⟨hd,F1,F2,k1,ho1⟩:=ND h.bx (Bw.refl _) L8 e1
  obtain ⟨Fs0,gO,Ja⟩:=k1.boxes
  simp only [List.append_nil] at Ja
  have nd:=(List.nodup_append.1 (List.nodup_append.1 Ja.nodup).2.1).1
  obtain ⟨r1,r2,r3⟩:=Hy h k1 (w':=w) hd ho1 (fun c hc=> .inl (List.mem_append.2 (.inl hc))) nd (fun c hc=>Ja.lt c (by simp [hc])) (fun _ _ _=>rfl) ⟨rfl,rfl,rfl,Nat.le_refl _⟩
  exact ⟨_,_,_,_,_,.inl hr,r1,r3,r2.any,rfl,e⟩
 ·exact EV.same h hr hv e
theorem W7 {Γ:Nat→Option KD} (h:Rel E σ a w) (e:Jf T Γ o σ k=some y) (Ss:RS o.op=false):EV P o E σ a w k y:=by
 have same: ∀{v:Value} {x:XV},(execOp a.eval o).run P w= .ok (.value v) w→XR E w σ.bx x v→k x σ=some y→EV P o E σ a w k y:=fun h1 h2 h3=>EV.same h h1 h2 h3
 obtain ⟨Fs,hB,hS⟩:=h.bx
 have st:=hS.st
 unfold Jf at e
 split at e
 ·rename_i x ho
  exact same (v:=a.eval x) (by simp only [execOp,ho,Sem.run_pure]) (h.ev x) e
 ·rename_i x ho
  exact T5 h ho e
 ·rename_i c xa xb ho
  split at e
  case h_2=>cases e
  rename_i p hp
  have hc:=h.ev c
  rw [hp] at hc
  have Mg:=He (E:=E) (w:=w) (vw:=σ.bx) hc
  refine same (v:=if p then a.eval xa else a.eval xb) (x:=if p then σ.ev xa else σ.ev xb) (by simp [execOp,ho,Mg,asBool]) (by cases p<;>simp [h.ev]) ?_
  cases p<;>simpa [ZD] using e
 ·rename_i t ho
  split at e
  case h_2=>cases e
  rename_i r hr
  exact U9 hT h ho hr e
 ·rename_i t x ho
  split at e
  case h_2=>cases e
  rename_i ti HD
  split at e
  case isFalse=>cases e
  rename_i hc
  exact ZE h ho hc.2.2 (fun hh=>by rw [hh] at hc;exact hc.2.1 hc.1.symm) e
 ·rename_i t ps ho
  split at e
  case h_2=>cases e
  rename_i s b fs rw r HD hr
  split at e
  case h_2=>cases e
  rename_i cs Xk
  exact VP hT h ho HD hr Xk e
 ·rename_i t n ps ho
  exact Pv hT h ho e
 ·rename_i t x ho
  split at e
  case h_2=>cases e
  rename_i z hz
  obtain ⟨u,h1,h2⟩:=UJ hT hB st hz (h.ev x)
  exact same (by simp only [execOp,ho,Sem.run_bind,h1,Result.andThen_ok,Sem.run_pure]) h2 e
 ·rename_i t xa xx ho
  split at e
  case h_2=>cases e
  rename_i ti HD
  split at e
  case isFalse=>cases e
  rename_i hc
  split at e
  case h_2=>cases e
  rename_i σ' hs
  exact Vw hT h ho HD hc hs e
 ·rename_i x ho
  have hx:=h.ev x
  split at e
  ·rename_i b j hp
   rw [hp] at hx
   have Xg:b<σ.bx.length∧a.eval x= .pointer (some ⟨E.C5 b,j,none⟩):=hx
   exact same (v:=a.eval x) (by simp only [execOp,ho,Xg.2,Sem.run_pure]) hx e
  ·rename_i b p i sz j hp
   rw [hp] at hx
   have YW:L7 (a.eval x)=true:=hx.1
   refine same (v:=a.eval x) ?_ hx e
   unfold L7 at YW
   split at YW
   ·rename_i hv
    simp only [execOp,ho,hv,Sem.run_pure]
   ·cases YW
  ·rename_i s r z j hp
   rw [hp] at hx
   obtain ⟨bb,oo,cs,hv,hrest⟩:=hx
   exact same (v:=a.eval x) (x:= .c (.FU s r z j)) (by simp only [execOp,ho,hv,Sem.run_pure]) ⟨bb,oo,cs,hv,hrest⟩ e
  ·rename_i f Dr hp
   rw [hp] at hx
   have Xg:(∀b∈Dr,b<σ.bx.length)∧a.eval x= .func (.func f) #[] (Dr.map fun b=>Value.pointer (some ⟨E.C5 b,0,none⟩)).toArray:=hx
   exact same (v:=a.eval x) (by simp only [execOp,ho,Xg.2,Sem.run_pure]) hx e
  ·cases e
 ·rename_i op t x z s ho
  obtain ⟨r,val,h1,h2,h3⟩:=NY hT e (h.ev x) (h.ev z) x z
  exact same (v:=val) (x:= .c r) (by
   simp only [execOp,ho,Sem.run_bind]
   simp only [Sem.run_bind] at h2
   rw [h2];rfl) h3 h1
 ·rename_i op t x ho
  obtain ⟨r,val,h1,h2,h3⟩:=Ou (P:=P) e (h.ev x)
  exact same (v:=val) (x:= .c r) (by simp only [execOp,ho,Sem.run_bind,h2,Result.andThen_ok,Sem.run_pure]) h3 h1
 ·rename_i s d x ho
  exact W8 hT h ho e
 ·rename_i f first Dr ho
  split at e
  case isFalse=>cases e
  rename_i hf
  split at e
  case h_2=>cases e
  rename_i bs mM
  obtain ⟨q1,q2⟩:=RH mM (gL h Dr.toList)
  have dF:first.map a.eval= #[]:=by
   have:first= #[]:=Array.eq_empty_of_size_eq_zero hf
   rw [this];simp
  have fO:Dr.map a.eval=(bs.map fun b=>Value.pointer (some ⟨E.C5 b,0,none⟩)).toArray:=by
   apply Array.ext'
   simpa using q2
  refine same (v:= .func (.func f) #[] (bs.map fun b=>Value.pointer (some ⟨E.C5 b,0,none⟩)).toArray) ?_ (x:= .c (.fn f bs)) ⟨q1,rfl⟩ e
  simp only [execOp,ho,Instr.makeFunc,dF,fO,Sem.run_bind,Sem.run_pure,Result.andThen_ok]
 ·rename_i t l c ho
  exact XU hT h ho e
 ·rename_i t x lo hi ho
  obtain ⟨z,val,h1,h2,h3⟩:=OM hT hB st e (h.ev x) (V3 h lo) (V3 h hi)
  exact same (v:=val) (by simp only [execOp,ho,Option.map_none,Sem.run_bind,h2,Result.andThen_ok,Sem.run_pure]) h3 h1
 ·rename_i t x f ho
  split at e
  case h_2=>cases e
  rename_i z hz
  obtain ⟨u,h1,h2⟩:=OW hT hz (h.ev x)
  exact same (by simp only [execOp,ho,Sem.run_bind,h1,Result.andThen_ok,Sem.run_pure]) h2 e
 ·rename_i t x f ho
  split at e
  case h_2=>cases e
  rename_i z hz
  obtain ⟨u,h1,h2⟩:=Pq hT hz (h.ev x)
  exact same (by simp only [execOp,ho,Sem.run_bind,h1,Result.andThen_ok,Sem.run_pure]) h2 e
 ·rename_i t x i ho
  obtain ⟨z,val,h1,h2,h3⟩:=Oc hT hB st e (h.ev x) (h.ev i)
  exact same (v:=val) (by simp only [execOp,ho,Sem.run_bind,h2,Result.andThen_ok,Sem.run_pure]) h3 h1
 ·rename_i t x i ho
  obtain ⟨z,val,h1,h2,h3⟩:=L2 hT e (h.ev x) (h.ev i)
  exact same (v:=val) (by simp only [execOp,ho,Sem.run_bind,h2,Result.andThen_ok,Sem.run_pure]) h3 h1
 ·rename_i x i ho
  split at e
  case h_2=>cases e
  rename_i z hz
  obtain ⟨u,h1,h2⟩:=MI (P:=P) hz (h.ev x)
  exact same (by simp only [execOp,ho,Sem.run_bind,h1,Result.andThen_ok,Sem.run_pure]) h2 e
 ·rename_i f args Ry ho
  rw [ho] at Ss
  cases Ss
 ·rename_i args Ry ho
  split at e
  ·rename_i s t DQ bF
   obtain ⟨x,rfl,hx⟩:=Jv DQ
   have hv:=h.ev x
   rw [hx] at hv
   have L8:=Jd (E:=E) (w:=w) (vw:=σ.bx) hv
   split at e
   case isFalse=>cases e
   rename_i hs
   have hu:=Jo hT hs
   refine same (v:= .int .i64 (s.length:Int)) (x:= .c (.v (.int .i64) (s.length:Int))) ?_ (VR.int (E:=E) (vw:=σ.bx) _ _) e
   have GN:(⟨s.toArray⟩:ByteArray).size=s.length:=by simp [ByteArray.size]
   simp [execOp,ho,resolve,invoke,builtin,Builtin.len_,bF,L8,AQ hu,goInt,GN]
  ·rename_i z t _ DQ bF
   obtain ⟨x,rfl,hx⟩:=Jv DQ
   have hv:=h.ev x
   rw [hx] at hv
   split at e
   case isFalse=>cases e
   rename_i hs
   split at e
   case h_2=>cases e
   rename_i n hn
   obtain ⟨el,hu⟩:=Oy hT hs
   obtain ⟨ad,cap,L8⟩:=Po hB st hn hv
   refine same (v:= .int .i64 (n:Int)) (x:= .c (.v (.int .i64) (n:Int))) ?_ (VR.int (E:=E) (vw:=σ.bx) _ _) e
   simp [execOp,ho,resolve,invoke,builtin,Builtin.len_,bF,L8,AQ hu,goInt]
  ·cases e
 ·rename_i args Ry ho
  split at e
  case h_2=>cases e
  rename_i x1 x2 DQ
  exact Uj hT h ho rfl DQ e
 ·rename_i args Ry ho
  split at e
  case h_2=>cases e
  rename_i x DQ
  exact VG hT h ho rfl DQ e (fun b p off n hx=>by rw [ho];simp only [DM];rw [DQ,hx])
 ·rename_i args Ry ho
  split at e
  case h_2=>cases e
  rename_i x1 x2 DQ
  obtain ⟨o1,o2,rfl,hx1,hx2⟩:=Je DQ
  have L3:=h.ev o1
  have LP:=h.ev o2
  rw [hx1] at L3
  rw [hx2] at LP
  obtain ⟨r,val,h1,h2,h3⟩:=IG (P:=P) (big:=true) e L3 LP Ry #[] o.type
  simp only [if_true] at h2
  exact same (v:=val) (x:= .c r) (by simp [execOp,ho,resolve,invoke,builtin,h2]) h3 h1
 ·rename_i args Ry ho
  split at e
  case h_2=>cases e
  rename_i x1 x2 DQ
  obtain ⟨o1,o2,rfl,hx1,hx2⟩:=Je DQ
  have L3:=h.ev o1
  have LP:=h.ev o2
  rw [hx1] at L3
  rw [hx2] at LP
  obtain ⟨r,val,h1,h2,h3⟩:=IG (P:=P) (big:=false) e L3 LP Ry #[] o.type
  simp only [Bool.false_eq_true,if_false] at h2
  exact same (v:=val) (x:= .c r) (by simp [execOp,ho,resolve,invoke,builtin,h2]) h3 h1
 ·cases e
end
end Go.Fw
end
section
namespace Go.Fw
def alive (l:List BP) (i:Nat):Bool:=
 match l[i]? with
 |some .gone=>false
 |some _=>true
 |none=>false
def AP.FF (l:List BP):AP→Bool
 | .sl s _=>s
 | .SK _=>false
 | .PA _ _=>false
 | .Sj _ _=>false
 | .ref i=>decide (i<l.length)
 | .ptr i _=>alive l i
 | .fn _ Dr=>Dr.all (alive l)
 |_=>true
def XP.FF (l:List BP):XP→Bool
 | .c p=>p.FF l
 | .agg q=>q.all (AP.FF l)
 | .Hi q=>q.all fun| .inl p=>p.FF l| .inr q=>q.all (AP.FF l)
 | .row _=>false
def BP.FF (l:List BP):BP→Bool
 | .mem q=>q.all (AP.FF l)
 |_=>true
def kinds:List BP→List BP→Bool
 |[],_=>true
 | .mem _::l,.mem _::m=>kinds l m
 | .sl _ r::l,.sl _ q::m=>decide (r=q)&&kinds l m
 | .mem _::l,.gone::m=>kinds l m
 | .sl _ _::l,.gone::m=>kinds l m
 |_,_=>false
def Q4 (l:List BP):List (Nat×XP)→Bool
 |[(0,p)]=>p.FF l
 |_=>false
def KD.ok (c:KD):Bool:=
 kinds c.ins.CU c.outs.CU&&Q4 c.outs.CU c.outs.Bb&&c.outs.CU.all (BP.FF c.outs.CU)
theorem Jn: ∀{l m:List BP},kinds l m=true→l.length≤m.length∧ ∀(i:Nat) p,l[i]? =some p→p≠ .gone∧ ∀d r,m[i]? =some (.sl d r)→ ∃d',p= .sl d' r
 |[],m,_=>⟨by simp,fun i p h=>by simp at h⟩
 | .gone::l,[],h=>by simp [kinds] at h
 | .gone::l,_::_,h=>by simp [kinds] at h
 | .mem _::l,[],h=>by simp [kinds] at h
 | .sl _ _::l,[],h=>by simp [kinds] at h
 | .mem q::l,.mem _::m,h=>by
  obtain ⟨h1,h2⟩:=Jn (l:=l) (m:=m) (by simpa [kinds] using h)
  refine ⟨by simpa using h1,fun i p hp=> ?_⟩
  cases i with
  |zero=>simp at hp;subst hp;exact ⟨by simp,fun d r hh=>by simp at hh⟩
  |succ i=>simpa using h2 i p (by simpa using hp)
 | .mem q::l,.gone::m,h=>by
  obtain ⟨h1,h2⟩:=Jn (l:=l) (m:=m) (by simpa [kinds] using h)
  refine ⟨by simpa using h1,fun i p hp=> ?_⟩
  cases i with
  |zero=>simp at hp;subst hp;exact ⟨by simp,fun d r hh=>by simp at hh⟩
  |succ i=>simpa using h2 i p (by simpa using hp)
 | .mem q::l,.sl _ _::m,h=>by simp [kinds] at h
 | .sl d0 r0::l,.sl _ q::m,h=>by
  simp only [kinds,Bool.and_eq_true,decide_eq_true_eq] at h
  obtain ⟨h1,h2⟩:=Jn (l:=l) (m:=m) h.2
  refine ⟨by simpa using h1,fun i p hp=> ?_⟩
  cases i with
  |zero=>simp at hp;subst hp;exact ⟨by simp,fun d r hh=>by simp at hh;exact ⟨d0,by rw [h.1,hh.2]⟩⟩
  |succ i=>simpa using h2 i p (by simpa using hp)
 | .sl d0 r0::l,.gone::m,h=>by
  obtain ⟨h1,h2⟩:=Jn (l:=l) (m:=m) (by simpa [kinds] using h)
  refine ⟨by simpa using h1,fun i p hp=> ?_⟩
  cases i with
  |zero=>simp at hp;subst hp;exact ⟨by simp,fun d r hh=>by simp at hh⟩
  |succ i=>simpa using h2 i p (by simpa using hp)
 | .sl _ _::l,.mem _::m,h=>by simp [kinds] at h
def Ld (P:Program) (f:Nat) (c:KD):Prop:=
 c.ok=true∧(∀args w,(callFunc f args).run P w= .ok (.enter f args) w)∧
 ∀(E:Env) (w:World) (v:c.ins.V) (args:Array Value) (u:c.outs.V),args.size=c.ins.Bb.length→
  A6 E w (DX.mk id c.ins.CU v.2) (DX.mk id c.ins.CU v.2) []→GJ E w (DX.mk id c.ins.CU v.2) id c.ins.Bb v.1 args.toList→c.g v=some u→
  Calls P f args w fun e w' => ∃x E',e= .returned x∧NA E w E' w'∧A6 E' w' (DX.mk id c.outs.CU u.2) (DX.mk id c.outs.CU u.2) []∧
   GJ E' w' (DX.mk id c.outs.CU u.2) id c.outs.Bb u.1 [x]∧ ∀i,i<c.ins.CU.length→alive c.outs.CU i=true→E'.C5 i=E.C5 i∧E'.DB i=E.DB i
theorem N_: ∀x:AV,Br [] x=x
 | .ref b (s::p)=>by simp [Br]
 | .ref b []=>rfl
 | .NB b (s::p) i n=>by simp [Br]
 | .NB b [] i n=>rfl
 | .Di b (s::p) i sz j=>by simp [Br]
 | .Di b [] i sz j=>rfl
 | .v _ _=>rfl
 | .sl _ _ _=>rfl
 | .nil=>rfl
 | .C2 _ _=>rfl
 | .FU _ _ _ _=>rfl
 | .fn _ _=>rfl
 | .Sj _ _=>rfl
 | .VX=>rfl
 | .undef=>rfl
theorem Kp:Br []=id:=funext N_
theorem TP: ∀x:XV,Ig [] x=x
 | .c x=>by simp [Ig,N_]
 | .agg l=>by simp [Ig,Kp]
 | .Hi l=>by
  simp only [Ig,Kp]
  congr 1
  conv=>rhs;rw [←List.map_id l]
  apply List.map_congr_left
  intro x _
  cases x with
  |inl x=>simp
  |inr q=>simp
theorem Su (m:GI) (σ:St):(σ.Jy m).tm=σ.tm.map (Ig m):=by
 cases m with
 |nil=>
  simp only [St.Jy]
  have:Ig []=id:=funext TP
  rw [this,List.map_id]
 |cons _ _=>rfl
theorem Wb (m:GI) (σ:St):(σ.Jy m).bx=σ.bx.map (Bx.map (Br m)):=by
 cases m with
 |nil=>simp only [St.Jy];rw [Kp,K_]
 |cons _ _=>
  simp only [St.Jy]
  apply List.map_congr_left
  intro B _
  cases B<;>rfl
theorem MJ (f:AV→AV): ∀(m:GI) (bx:List Bx),Ay (bx.map (Bx.map f)) m=(Ay bx m).map (Bx.map f)
 |[],_=>rfl
 |none::m,bx=>by simp only [Ay];exact MJ f m bx
 |some b::m,bx=>by
  simp only [Ay]
  rw [←MJ f m (bx.set b .dead),List.map_set]
  rfl
theorem G5: ∀{m:GI} {bx:List Bx} {b:Nat},some b∉m→(Ay bx m)[b]? =bx[b]?
 |[],_,_,_=>rfl
 |none::m,bx,b,h=>by simp only [Ay];exact G5 (by simpa using h)
 |some c::m,bx,b,h=>by
  simp only [Ay]
  rw [G5 (by simp at h;exact h.2),List.getElem?_set_ne (by simp at h;omega)]
theorem Wo {E E':Env} {w w':World} {vw vw':List Bx} {m:GI} (k:Hj E w vw E' w' (Ay vw' m))
  (hb: ∀b d' r Av,some b∈m→vw'[b]? =some (.sl d' r Av)→ ∃d rows,vw[b]? =some (.sl d r rows)∧List.length Av=List.length rows∧E'.DB b=E.DB b) (hlen:vw.length≤vw'.length) {x:AV} {v:Value} (h:VR E w vw x v):VR E' w' vw' (Br m x) v:=by
 have h1:=CS k h
 have Lu: ∀{b'},some b'∉m→(Ay vw' m)[b']? =vw'[b']?:=fun e=>G5 e
 have get: ∀{b'},b'<vw.length→ ∃B,vw'[b']? =some B:=fun hl=>⟨_,List.getElem?_eq_getElem (by omega)⟩
 cases x with
 |v t x=>exact h1
 |sl s r x=>exact h1
 |nil=>exact h1
 |C2 c j=>exact ⟨by simpa [Cv] using h1.1,h1.2⟩
 |FU s r x j=>exact h1
 |fn f Dr=>exact ⟨fun c hc=>by simpa [Cv] using h1.1 c hc,h1.2⟩
 |Sj f rows=>exact h1
 |VX=>exact h1
 |undef=>trivial
 |ref c p=>
  have other:some c∉m→VR E' w' vw' (.ref c p) v:=fun e=>by
   simp only [VR,Lu e] at h1⊢;exact h1
  cases p with
  |nil=>
   simp only [Br]
   by_cases e:some c∈m
   ·simp only [VR] at h⊢
    obtain ⟨h0,h⟩:=h
    refine ⟨h0,?_⟩
    cases hc:vw[c]? with
    |none=>rw [hc] at h;exact h.elim
    |some B=>
     obtain ⟨B',Hg⟩:=get (List.getElem?_eq_some_iff.1 hc).1
     rw [Hg]
     cases B' with
     |mem cs=>trivial
     |dead=>trivial
     |sl d' r Av=>
      obtain ⟨d,rows,e1,e2,e3⟩:=hb c d' r Av e Hg
      rw [e1] at h
      refine ⟨by simp [BA],⟨_,rfl⟩,?_⟩
      have:=h.2.2
      rw [Aw] at this⊢
      rw [e3];exact this
   ·exact other e
  |cons s p=>
   simp only [Br]
   split
   ·trivial
   ·rename_i e
    exact other (by simpa using e)
 |NB c p off n=>
  have other:some c∉m→VR E' w' vw' (.NB c p off n) v:=fun e=>by
   simp only [VR,Lu e] at h1⊢;exact h1
  cases p with
  |nil=>
   simp only [Br]
   by_cases e:some c∈m
   ·simp only [VR] at h⊢
    obtain ⟨h0,h⟩:=h
    refine ⟨h0,?_⟩
    cases hc:vw[c]? with
    |none=>rw [hc] at h;exact h.elim
    |some B=>
     obtain ⟨B',Hg⟩:=get (List.getElem?_eq_some_iff.1 hc).1
     rw [Hg]
     cases B' with
     |mem cs=>trivial
     |dead=>trivial
     |sl d' r Av=>
      obtain ⟨d,rows,e1,e2,e3⟩:=hb c d' r Av e Hg
      rw [e1] at h
      obtain ⟨_,q,ys,a,len,cap,g1,g2,g3,g4⟩:=h
      simp only [Cb,Option.some.injEq,Sigma.mk.injEq] at g1
      obtain ⟨rfl,g1⟩:=g1
      obtain rfl:=eq_of_heq g1
      rw [Aw] at g3
      exact ⟨by simp [BA],r,Av,a,len,cap,rfl,by rw [e2];exact g2,by rw [Aw,e3];exact g3,g4⟩
   ·exact other e
  |cons s p=>
   simp only [Br]
   split
   ·trivial
   ·rename_i e
    exact other (by simpa using e)
 |Di c p i sz j=>
  have other:some c∉m→VR E' w' vw' (.Di c p i sz j) v:=fun e=>by
   simp only [VR,Lu e] at h1⊢;exact h1
  cases p with
  |nil=>
   simp only [Br]
   by_cases e:some c∈m
   ·simp only [VR] at h⊢
    obtain ⟨h0,h⟩:=h
    refine ⟨h0,?_⟩
    cases hc:vw[c]? with
    |none=>rw [hc] at h;exact h.elim
    |some B=>
     obtain ⟨B',Hg⟩:=get (List.getElem?_eq_some_iff.1 hc).1
     rw [Hg]
     cases B' with
     |mem cs=>trivial
     |dead=>trivial
     |sl d' r Av=>
      obtain ⟨d,rows,e1,e2,e3⟩:=hb c d' r Av e Hg
      rw [e1] at h
      obtain ⟨_,q,ys,bb,o,len,cap,g1,g2,g3,g4⟩:=h
      simp only [Cb,Option.some.injEq,Sigma.mk.injEq] at g1
      obtain ⟨rfl,g1⟩:=g1
      obtain rfl:=eq_of_heq g1
      rw [Aw] at g3
      exact ⟨by simp [BA],r,Av,bb,o,len,cap,rfl,by rw [e2];exact g2,by rw [Aw,e3];exact g3,g4⟩
   ·exact other e
  |cons s p=>
   simp only [Br]
   split
   ·trivial
   ·rename_i e
    exact other (by simpa using e)
theorem Wy {E E':Env} {w w':World} {vw vw':List Bx} {m:GI} (k: ∀x v,VR E w vw x v→VR E' w' vw' (Br m x) v) {x:XV} {v:Value} (h:XR E w vw x v):XR E' w' vw' (Ig m x) v:=by
 cases x with
 |c x=>exact k x v h
 |agg l=>
  obtain ⟨vs,rfl,J9⟩:=h
  exact ⟨vs,rfl,Ai.EW _ k J9⟩
 |Hi l=>
  obtain ⟨vs,rfl,J9⟩:=h
  refine ⟨vs,rfl,Ai.EW _ (fun x v hx=> ?_) J9⟩
  cases x with
  |inl x=>exact k x v hx
  |inr q=>
   obtain ⟨us,rfl,hus⟩:=hx
   exact ⟨us,rfl,Ai.EW _ k hus⟩
def ET (ren:Nat→Nat):Nat→List Bx→List Bx→List Bx
 |_,[],bx=>bx
 |i,B::l,bx=>ET ren (i+1) l (if ren i<bx.length then bx.set (ren i) B else bx++[B])
theorem Ph (ren:Nat→Nat): ∀(i:Nat) (l:List BP) (x:DX.V l) (bx:List Bx),K5 ren i l x bx=ET ren i (DX.mk ren l x) bx
 |_,[],_,_=>rfl
 |i,p::l,x,bx=>by simp only [K5,DX.mk,ET];exact Ph ren (i+1) l x.2 _
structure UH (ren:Nat→Nat) (M N:Nat):Prop where
 lt: ∀k,k<M→ren k<N
 eq: ∀k,M≤k→ren k=N+(k-M)
 inj: ∀k k',k<M→k'<M→ren k=ren k'→k=k'
theorem UH.f0 {ren:Nat→Nat} {M N:Nat} (h:UH ren M N) {k k':Nat} (e:ren k=ren k'):k=k':=by
 by_cases h1:k<M
 ·by_cases h2:k'<M
  ·exact h.inj k k' h1 h2 e
  ·have:=h.lt k h1
   have:=h.eq k' (by omega)
   omega
 ·by_cases h2:k'<M
  ·have:=h.lt k' h2
   have:=h.eq k (by omega)
   omega
  ·have:=h.eq k (by omega)
   have:=h.eq k' (by omega)
   omega
theorem NL {ren:Nat→Nat} {M N:Nat} (h:UH ren M N): ∀{l:List Bx} {i:Nat} {bx:List Bx},bx.length=N+(i-M)→
  (ET ren i l bx).length=N+(i+l.length-M)∧(∀(j:Nat) B,l[j]? =some B→(ET ren i l bx)[ren (i+j)]? =some B)∧
   ∀n,n<bx.length→(∀j,j<l.length→ren (i+j)≠n)→(ET ren i l bx)[n]? =bx[n]?
 |[],i,bx,hl=>⟨by simpa [ET] using hl,fun j B hj=>by simp at hj,fun _ _ _=>rfl⟩
 |B::l,i,bx,hl=>by
  simp only [ET]
  have LO:(if ren i<bx.length then bx.set (ren i) B else bx++[B]).length=N+(i+1-M):=by
   split
   ·rename_i Dw
    by_cases hi:i<M
    ·simp;omega
    ·have:=h.eq i (by omega);omega
   ·rename_i Dw
    by_cases hi:i<M
    ·have:=h.lt i hi;omega
    ·simp;omega
  have KU:(if ren i<bx.length then bx.set (ren i) B else bx++[B])[ren i]? =some B:=by
   split
   ·rename_i Dw;rw [List.getElem?_set_self Dw]
   ·rename_i Dw
    by_cases hi:i<M
    ·have:=h.lt i hi;omega
    ·have:=h.eq i (by omega)
     rw [List.getElem?_append_right (by omega),show ren i-bx.length=0 by omega];rfl
  obtain ⟨q1,q2,q3⟩:=NL h (l:=l) LO
  refine ⟨by rw [q1];simp;omega,fun j C hj=> ?_,fun n hn PZ=> ?_⟩
  ·cases j with
   |zero=>
    simp at hj;subst hj
    exact (q3 (ren i) (List.getElem?_eq_some_iff.1 KU).1 (fun j hj e=>by have:=h.f0 e;omega)).trans KU
   |succ j=>
    have:=q2 j C (by simpa using hj)
    rwa [show i+1+j=i+(j+1) by omega] at this
  ·have fP:=PZ 0 (by simp)
   rw [Nat.add_zero] at fP
   rw [q3 n (by split<;>simp<;>omega) (fun j hj=>by have:=PZ (j+1) (by simp;omega);rwa [show i+(j+1)=i+1+j by omega] at this)]
   split
   ·rw [List.getElem?_set_ne fP]
   ·rw [List.getElem?_append_left hn]
theorem MW {ren:Nat→Nat} {M N:Nat} (h:UH ren M N) {E:Env} {w:World} {vw:List Bx}: ∀{l:List Bx} {i:Nat} {bx:List Bx} {Fs:List mu},bx.length=N+(i-M)→(∀k,i≤k→k<M→bx[ren k]? =some .dead)→
  Fs.length=l.length→(∀(j:Nat) B F,l[j]? =some B→Fs[j]? =some F→RI E w vw (ren (i+j)) B F)→A6 E w vw bx Fs.flatten→A6 E w vw (ET ren i l bx) []
 |[],i,bx,Fs,hl,hd,hF,hB,N4=>by
  have:Fs=[]:=List.eq_nil_of_length_eq_zero hF
  subst this
  simpa [ET] using N4
 |B::l,i,bx,F::Fs,hl,hd,hF,hB,N4=>by
  simp only [ET]
  have gQ:=hB 0 B F rfl rfl
  rw [Nat.add_zero] at gQ
  have next: ∀{Gq},Gq.length=N+(i+1-M)→(∀k,i+1≤k→k<M→Gq[ren k]? =some .dead)→A6 E w vw Gq Fs.flatten→A6 E w vw (ET ren (i+1) l Gq) []:=by
   intro Gq h1 h2 h3
   refine MW h h1 h2 (by simpa using hF) (fun j C G hC hG=> ?_) h3
   have:=hB (j+1) C G (by simpa using hC) (by simpa using hG)
   rwa [show i+(j+1)=i+1+j by omega] at this
  rw [List.flatten_cons] at N4
  by_cases hi:i<M
  ·have Dw:=h.lt i hi
   rw [if_pos (by omega)]
   refine next (by simp;omega) (fun k ig ZZ=> ?_) (N4.put (hd i (Nat.le_refl _) hi) gQ)
   rw [List.getElem?_set_ne (fun e=>by have:=h.f0 e;omega)]
   exact hd k (by omega) ZZ
  ·have heq:=h.eq i (by omega)
   rw [if_neg (by omega)]
   have e1:ren i=bx.length:=by omega
   rw [e1] at gQ
   exact next (by simp;omega) (fun k ig ZZ=>by omega) (N4.push gQ)
 |_::_,_,_,[],_,_,hF,_,_=>by simp at hF
structure TE (E' E2:Env) (l:List BP) (u:DX.V l) (X3:List Bx) (ren:Nat→Nat):Prop where
 ids: ∀i,alive l i=true→E2.C5 (ren i)=E'.C5 i∧E2.DB (ren i)=E'.DB i
 bx: ∀(i:Nat) p,l[i]? =some p→ ∃y,(DX.mk id l u)[i]? =some (p.mk id y)∧X3[ren i]? =some (p.mk ren y)
 S:E2.S=E'.S
theorem LU (ren:Nat→Nat): ∀{l:List BP} {u:DX.V l} {i:Nat} {p:BP},l[i]? =some p→ ∃y:p.V,(DX.mk id l u)[i]? =some (p.mk id y)∧(DX.mk ren l u)[i]? =some (p.mk ren y)
 |q::l,u,0,p,h=>by
  simp at h;subst h
  exact ⟨u.1,rfl,rfl⟩
 |q::l,u,i+1,p,h=>by
  obtain ⟨y,h1,h2⟩:=LU ren (u:=u.2) (i:=i) (by simpa using h)
  exact ⟨y,by simpa [DX.mk] using h1,by simpa [DX.mk] using h2⟩
 |[],_,_,_,h=>by simp at h
theorem IE (ren:Nat→Nat): ∀{l:List BP} {u:DX.V l},(DX.mk ren l u).length=l.length
 |[],_=>rfl
 |_::l,u=>by simp [DX.mk,IE ren (l:=l)]
section
variable {E' E2:Env} {w:World} {l:List BP} {u:DX.V l} {X3:List Bx} {ren:Nat→Nat} (r:TE E' E2 l u X3 ren)
include r
omit r in
theorem Sz {i:Nat} (h:alive l i=true): ∃p,l[i]? =some p∧p≠ .gone:=by
 unfold alive at h
 cases e:l[i]? with
 |none=>rw [e] at h;cases h
 |some p=>
  refine ⟨p,rfl,fun hp=> ?_⟩
  rw [e,hp] at h
  cases h
theorem VZ {p:AP} {y:p.V} {v:Value} (Ef:p.FF l=true) (h:VR E' w (DX.mk id l u) (p.mk id y) v):VR E2 w X3 (p.mk ren y) v:=by
 cases p with
 |v t=>exact h
 |sl s q=>
  simp only [AP.FF] at Ef
  subst Ef
  simp only [AP.mk,VR,if_true] at h⊢
  rw [r.S];exact h
 |nil=>exact h
 |ref i=>
  simp only [AP.FF,decide_eq_true_eq] at Ef
  obtain ⟨p,hp⟩: ∃p,l[i]? =some p:=⟨_,List.getElem?_eq_getElem Ef⟩
  obtain ⟨z,z1,z2⟩:=r.bx i p hp
  simp only [AP.mk,VR,id] at h⊢
  refine ⟨h.1,?_⟩
  have h2:=h.2
  rw [z1] at h2
  rw [z2]
  cases p with
  |mem q=>trivial
  |gone=>trivial
  |sl d q=>
   have SA:=(r.ids i (by simp [alive,hp])).2
   simp only [BP.mk] at h2⊢
   refine ⟨h2.1,h2.2.1,?_⟩
   rw [SA];exact h2.2.2
 |ptr i j=>
  simp only [AP.FF] at Ef
  obtain ⟨p,hp,hg⟩:=Sz Ef
  obtain ⟨z,z1,z2⟩:=r.bx i p hp
  refine ⟨(List.getElem?_eq_some_iff.1 z2).1,?_⟩
  rw [(r.ids i Ef).1]
  exact h.2
 |SK q=>simp [AP.FF] at Ef
 |PA i sz=>simp [AP.FF] at Ef
 |Sj f rs=>simp [AP.FF] at Ef
 |fn f Dr=>
  simp only [AP.FF,List.all_eq_true] at Ef
  obtain ⟨h1,h2⟩:=h
  refine ⟨fun b hb=> ?_,?_⟩
  ·obtain ⟨i,hi,rfl⟩:=List.mem_map.1 hb
   obtain ⟨p,hp,_⟩:=Sz (Ef i hi)
   obtain ⟨z,_,z2⟩:=r.bx i p hp
   exact (List.getElem?_eq_some_iff.1 z2).1
  ·rw [h2,List.map_map]
   congr 2
   rw [List.map_map]
   apply List.map_congr_left
   intro i hi
   simp only [Function.comp,id,(r.ids i (Ef i hi)).1]
 |any=>trivial
theorem QH: ∀{q:List AP} {y:KE.V q} {vs:List Value},q.all (AP.FF l)=true→N1 E' w (DX.mk id l u) (KE.mk id q y) vs→N1 E2 w X3 (KE.mk ren q y) vs
 |[],_,[],_,_=>trivial
 |[],_,_::_,_,h=>h.elim
 |p::q,y,[],_,h=>h.elim
 |p::q,y,v::vs,Ef,h=>by
  simp only [List.all_cons,Bool.and_eq_true] at Ef
  exact ⟨VZ r Ef.1 h.1,QH Ef.2 h.2⟩
theorem TK: ∀{q:List (AP ⊕ List AP)} {y:KR.V q} {vs:List Value},(q.all fun| .inl p=>p.FF l| .inr q=>q.all (AP.FF l))=true→Ai (TR E' w (DX.mk id l u)) (KR.mk id q y) vs→Ai (TR E2 w X3) (KR.mk ren q y) vs
 |[],_,[],_,_=>trivial
 |[],_,_::_,_,h=>h.elim
 | .inl p::q,y,[],_,h=>h.elim
 | .inr p::q,y,[],_,h=>h.elim
 | .inl p::q,y,v::vs,Ef,h=>by
  simp only [List.all_cons,Bool.and_eq_true] at Ef
  exact ⟨VZ r Ef.1 h.1,TK Ef.2 h.2⟩
 | .inr p::q,y,v::vs,Ef,h=>by
  simp only [List.all_cons,Bool.and_eq_true] at Ef
  obtain ⟨us,e,hus⟩:=h.1
  exact ⟨⟨us,e,QH r Ef.1 hus⟩,TK Ef.2 h.2⟩
theorem cP {p:XP} {y:p.V} {v:Value} (Ef:p.FF l=true) (h:XR E' w (DX.mk id l u) (p.mk id y) v):XR E2 w X3 (p.mk ren y) v:=by
 cases p with
 |c p=>exact VZ r Ef h
 |agg q=>
  obtain ⟨vs,e,J9⟩:=h
  exact ⟨vs,e,QH r Ef J9⟩
 |row q=>simp [XP.FF] at Ef
 |Hi q=>
  obtain ⟨vs,e,J9⟩:=h
  exact ⟨vs,e,TK r Ef J9⟩
theorem bz {i:Nat} {p:BP} {y:p.V} {F:mu} (hi:l[i]? =some p) (Ef:p.FF l=true) (h:RI E' w (DX.mk id l u) i (p.mk id y) F):RI E2 w X3 (ren i) (p.mk ren y) F:=by
 cases p with
 |mem q=>
  obtain ⟨h1,arr,ty,fr,h2,h3,h4⟩:=h
  have SA:=(r.ids i (by simp [alive,hi])).1
  exact ⟨by rw [SA];exact h1,arr,ty,fr,by rw [SA];exact h2,h3,QH r Ef h4⟩
 |sl d q=>
  obtain ⟨h1,h2⟩:=h
  refine ⟨h1,?_⟩
  rw [(r.ids i (by simp [alive,hi])).2,r.S]
  exact h2
 |gone=>exact h
end
end Go.Fw
end
section
namespace Go.Fw
theorem TO {s:Cq} {N:Nat} {m0 m:GI} {tm:List XV} {bx:List Bx} {x:s.V} (e:s.fit N m0 tm bx=some (x,m)): ∀(k:Nat) p,s.CU[k]? =some p→p≠ .gone→ ∃b B,m[k]? =some (some b)∧bx[b]? =some B∧B≠ .dead∧
  ∀d r,p= .sl d r→ ∃d' rows,B= .sl d' r rows:=by
 simp only [Cq.fit,Option.bind_eq_some_iff,Option.map_eq_some_iff] at e
 obtain ⟨m1,e1,m2,e2,a,e3,c,e4,e5⟩:=e
 cases e5
 obtain ⟨q1,q2⟩:=Hh (ren:=id) e4
 intro k p hp hg
 obtain ⟨y,_,h⟩:=q2 k p hp
 cases p with
 |gone=>exact absurd rfl hg
 |mem q=>
  obtain ⟨b,cs,h1,h2,_⟩:=h
  exact ⟨b,_,h1,h2,by simp,fun d r hh=>by cases hh⟩
 |sl d r=>
  obtain ⟨b,d',h1,h2,_⟩:=h
  exact ⟨b,_,h1,h2,by simp,fun d r hh=>by cases hh;exact ⟨d',y,rfl⟩⟩
theorem Yr (n:Nat):RK (List.replicate n none):=fun i j b h=>by
 simp [List.getElem?_replicate] at h
theorem VI {w:World} {B B':Nat→Prop} {w':World} {r:Ty} {v:Value} {x y:List r.D} (h:Rd w B (.sl r) [v] x) (h':Rd w' B' (.sl r) [v] y):y.length=x.length:=by
 simp only [Rd] at h h'
 obtain ⟨_,_,e,_⟩:=h
 obtain ⟨_,_,e',_⟩:=h'
 rw [e] at e'
 simp only [List.cons.injEq,Value.slice.injEq,and_true] at e'
 exact e'.2.1.symm
section
variable {Y:Type} {P:Program} {E:Env} {σ:St} {a:Act} {w:World} {k:K Y} {y:Y}
theorem SH {E' E2:Env} {l:List BP} {u:DX.V l} {X3:List Bx} {ren:Nat→Nat} (r:TE E' E2 l u X3 ren): ∀{sl:List (Nat×XP)} {z:Cd.V sl} {x:Value},
  Q4 l sl=true→GJ E' w (DX.mk id l u) id sl z [x]→XR E2 w X3 (M7 sl z ren) x
 |[(0,p)],z,x,Ef,h=>by
  obtain ⟨⟨v,hv,hx⟩,_⟩:=h
  simp at hv
  subst hv
  exact cP r Ef hx
 |[],_,_,Ef,_=>by simp [Q4] at Ef
 |(_+1,_)::_,_,_,Ef,_=>by simp [Q4] at Ef
 |(0,_)::_::_,_,_,Ef,_=>by simp [Q4] at Ef
def JX (c:KD) (xs:List XV) (σ:St):mu:=
 match c.ins.fit σ.bx.length c.ins.m0 xs (c.ins.opens σ.bx) with
 |some (_,m)=>m.filterMap id
 |none=>[]
theorem Sp (h:Rel E σ a w) (s:Cq): ∃E',Rel E' { σ with bx:=s.opens σ.bx } a w∧G8 [] E σ.bx w E' (s.opens σ.bx) w∧(∀(i:Nat) d r,s.CU[i]? =some (.sl d r)→E'.DB (σ.bx.length+i)= .slice none 0 0)∧
  (∀x v,XR E w σ.bx x v→XR E' w (s.opens σ.bx) x v):=by
 let E':Env:={ E with DB:=fun k=>if k<σ.bx.length then E.DB k else .slice none 0 0 }
 have hlen:σ.bx.length≤(s.opens σ.bx).length:=by simp [Cq.opens]
 have hold: ∀b,b<σ.bx.length→(s.opens σ.bx)[b]? =σ.bx[b]?:=fun b hb=>by simp only [Cq.opens];rw [List.getElem?_append_left hb]
 have MU: ∀b,b<σ.bx.length→E'.DB b=E.DB b:=fun b hb=>by simp only [E'];rw [if_pos hb]
 have GM:Hj E w σ.bx E' w (s.opens σ.bx):=
  ⟨hlen,fun _ _=>rfl,fun _ h=>h,fun _ h=>h,h.bx.st,fun _ _=>rfl,fun b d r rows hb e=>⟨d,rows,by rw [←hold b hb];exact e,fun p hp q ys hg=>⟨hp,⟨ys,hg,rfl⟩,fun hh he=>by rw [MU b hb];exact he⟩⟩⟩
 obtain ⟨Fs,⟨f1,f2⟩,f3⟩:=h.bx
 refine ⟨E',⟨h.FL,h.tm.imp fun _ _ hx=>F5 GM hx,?_⟩,?_,fun i d r hi=>by simp only [E'];rw [if_neg (by omega)],fun x v hx=>F5 GM hx⟩
 ·refine ⟨Fs++List.replicate s.CU.length [],⟨by simp [Cq.opens,f1],fun n B F hB hF=> ?_⟩,?_⟩
  ·by_cases hn:n<σ.bx.length
   ·rw [hold n hn] at hB
    rw [List.getElem?_append_left (by omega)] at hF
    have:=f2 n B F hB hF
    cases B with
    |mem cs=>
     obtain ⟨rfl,arr,ty,fr,a1,a2,a3⟩:=this
     exact ⟨rfl,arr,ty,fr,a1,a2,a3.imp fun _ _ hv=>CS GM hv⟩
    |sl d r rows=>exact ⟨this.1,by rw [MU n hn];exact this.2⟩
    |dead=>exact this
   ·rw [List.getElem?_append_right (by omega)] at hF
    have gS:F=[]:=List.eq_of_mem_replicate (List.mem_of_getElem? hF)
    subst gS
    simp only [Cq.opens] at hB
    rw [List.getElem?_append_right (by omega),List.getElem?_map,Option.map_eq_some_iff] at hB
    obtain ⟨p,_,rfl⟩:=hB
    have hh:E'.DB n= .slice none 0 0:=by simp only [E'];rw [if_neg hn]
    cases p with
    |mem q=>rfl
    |gone=>rfl
    |sl d r=>exact ⟨by omega,by rw [hh];exact Qt⟩
  ·have:(Fs++List.replicate s.CU.length []).flatten=Fs.flatten:=by simp
   rw [this]
   exact ⟨f3.nodup,f3.free,f3.lt,f3.st,f3.NM⟩
 ·refine ⟨⟨fun _ h=>h,fun _ h=>h,fun _ h=> .inl h,fun _ h=> .inl h,fun _ _=>rfl,rfl,rfl,rfl,Nat.le_refl _⟩,hlen,fun b hb=>⟨rfl,MU b hb⟩,fun b hb=> ?_,fun n B B' _ hB Hg hd=> ?_⟩
  ·rw [hold b (List.getElem?_eq_some_iff.1 hb).1];exact hb
  ·rw [hold n (List.getElem?_eq_some_iff.1 hB).1,hB] at Hg
   cases Hg
   exact ⟨I4.refl hd,fun _ _=>rfl⟩
theorem G8.after {t:mu} {E E' Yd:Env} {bx Gq gA:List Bx} {w w':World} (h:G8 [] E bx w E' Gq w) (hb: ∀b,b<bx.length→Gq[b]? =bx[b]?) (k:G8 t E' Gq w Yd gA w'):G8 t E bx w Yd gA w':=
 ⟨h.base.trans k.base,Nat.le_trans h.len k.len,fun b Dw=>⟨(k.ids b (Nat.lt_of_lt_of_le Dw h.len)).1.trans (h.ids b Dw).1,(k.ids b (Nat.lt_of_lt_of_le Dw h.len)).2.trans (h.ids b Dw).2⟩,fun b hd=>k.dead b (h.dead b hd),fun n B B' hn hB Hg hd=>by
  have Dw:=(List.getElem?_eq_some_iff.1 hB).1
  obtain ⟨k1,k2⟩:=k.frame n B B' hn (by rw [hb n Dw];exact hB) Hg hd
  refine ⟨k1,fun c hc=>k2 c ?_⟩
  cases B with
  |mem cs=>simp only [U3] at hc⊢;rw [(h.ids n Dw).1];exact hc
  |sl d r rows=>simp only [U3] at hc⊢;rw [(h.ids n Dw).2];exact hc
  |dead=>exact hc⟩
def ar (c:KD) (N:Nat) (xs:List XV) (σ:St) (k:K Y):Option Y:=
 match c.ins.fit N c.ins.m0 xs σ.bx with
 |some (v,m)=>(c.g v).bind fun u=>
  let ren:=KK m σ.bx.length
  let σ1:=σ.Jy m
  k (M7 c.outs.Bb u.1 ren) { σ1 with bx:=K5 ren 0 c.outs.CU u.2 (Ay σ1.bx m) }
 |none=>none
def VJ (c:KD) (N:Nat) (xs:List XV) (σ:St):mu:=
 match c.ins.fit N c.ins.m0 xs σ.bx with
 |some (_,m)=>m.filterMap id
 |none=>[]
theorem Vq {f:Nat} {c:KD} (hc:Ld P f c) (h:Rel E σ a w) {N0:Nat} (Vo: ∀(i:Nat) d r,c.ins.CU[i]? =some (.sl d r)→E.DB (N0+i)= .slice none 0 0) {xs:List XV} {vs:List Value} (dh:Ai (XR E w σ.bx) xs vs) (hlen:xs.length=c.ins.Bb.length) (e:ar c N0 xs σ k=some y):
  Calls P f vs.toArray w fun e w' => ∃x E' xv σ',e= .returned x∧Rel E' σ' a w'∧XR E' w' σ'.bx xv x∧G8 (VJ c N0 xs σ) E σ.bx w E' σ'.bx w'∧σ'.tm.length=σ.tm.length∧k xv σ' =some y:=by
 obtain ⟨Ef,_,Ss⟩:=hc
 simp only [KD.ok,Bool.and_eq_true] at Ef
 obtain ⟨⟨hk,hslot⟩,hbo⟩:=Ef
 obtain ⟨hklen,hk⟩:=Jn hk
 unfold ar at e
 split at e
 case h_2=>cases e
 rename_i v m LB
 simp only [Option.bind_eq_some_iff] at e
 obtain ⟨u,hg,e⟩:=e
 obtain ⟨_,E1,hf⟩:=Ox h.bx dh Vo (by simp [Cq.m0]) (Yr _) LB
 have GN:vs.toArray.size=c.ins.Bb.length:=by rw [←hlen,Ai.len dh];simp
 refine (Ss E1 w v vs.toArray u GN hf.boxes (by simpa using hf.Bb) hg).mono fun e' w' hR=> ?_
 obtain ⟨x,E',rfl,base,⟨Fs,hFs1,hFs2⟩,Bb,UR⟩:=hR
 simp only [List.append_nil] at hFs2
 obtain ⟨Fk,k1,k2,k3,k4⟩:=hf.rest
 have st:=h.bx.st
 have NM:=h.bx.NM
 have hM:m.length=c.ins.CU.length:=hf.len
 have all: ∀i,i<m.length→ ∃b B,m[i]? =some (some b)∧σ.bx[b]? =some B∧B≠ .dead∧ ∀d r,c.ins.CU[i]? =some (.sl d r)→ ∃d' rows,B= .sl d' r rows:=by
  intro i hi
  have hp:c.ins.CU[i]? =some (c.ins.CU[i]'(by omega)):=List.getElem?_eq_getElem _
  obtain ⟨b,B,h1,h2,h3,h4⟩:=TO LB i _ hp (hk i _ hp).1
  exact ⟨b,B,h1,h2,h3,fun d r hh=>h4 d r (by rw [hp] at hh;exact Option.some.inj hh)⟩
 let N:=σ.bx.length
 let M:=m.length
 have VC: ∀i b,m[i]? =some (some b)→KK m N i=b:=fun i b h=>by simp [KK,h]
 have Ym: ∀i,M≤i→KK m N i=N+(i-M):=fun i hi=>by
  have:m[i]? =none:=List.getElem?_eq_none hi
  simp [KK,this,M]
 have ro:UH (KK m N) M N:=⟨fun i hi=>by
   obtain ⟨b,B,h1,h2,_⟩:=all i hi
   rw [VC i b h1]
   exact (List.getElem?_eq_some_iff.1 h2).1,Ym,fun i j hi hj e=>by
   obtain ⟨b,B,h1,h2,_⟩:=all i hi
   obtain ⟨b',B',an,bt,_⟩:=all j hj
   rw [VC i b h1,VC j b' an] at e
   subst e
   exact hf.inj i j b h1 an⟩
 let E2:Env:={
   C5:=fun n=>if n<N then E.C5 n else E'.C5 (M+(n-N))
   DB:=fun n=>if n<N then E.DB n else E'.DB (M+(n-N))
   T:=fun c=>E.T c∨E'.S c
   S:=E'.S }
 have hS: ∀c,E.S c→E'.S c:=fun d hd=>base.S d (hf.S d hd)
 have kY: ∀d∈Fk.flatten,¬E'.S d:=fun d hd hs=>by
  obtain ⟨_,n2,_,n4⟩:=k3 d hd
  exact (base.WM d hs).elim n2 (fun h=>h n4)
 have Uy: ∀d,E.T d→w'.heap[d]? =w.heap[d]?:=fun d hd=>base.heap d (hf.T d hd)
 have YR: ∀d∈Fk.flatten,w'.heap[d]? =w.heap[d]?:=fun d hd=>base.heap d (k3 d hd).2.2.2
 have fq:NA E w E2 w':=⟨fun d hd=> .inl hd,hS,fun d hd=>hd,fun d hd=>by
   rcases base.WM d hd with h|h
   ·exact hf.WM d h
   ·exact .inr fun ht=>h (hf.T d ht),Uy,base.os,base.tape,base.output,base.size⟩
 let vw':=DX.mk id c.outs.CU u.2
 let Bs:=DX.mk (KK m N) c.outs.CU u.2
 let bk:=(Ay σ.bx m).map (Bx.map (Br m))
 have kW:Ay (σ.Jy m).bx m=bk:=by rw [Wb,MJ]
 have ft:bk.length=N:=by simp [bk,Cv,N]
 let K0:=ET (KK m N) 0 Bs bk
 have jO:K5 (KK m N) 0 c.outs.CU u.2 (Ay (σ.Jy m).bx m)=K0:=by rw [Ph,kW]
 obtain ⟨s1,s2,s3⟩:=NL ro (l:=Bs) (i:=0) (bx:=bk) (by simp [ft])
 have jR:Bs.length=c.outs.CU.length:=IE _
 have Ps:σ.bx.length≤K0.length:=by
  show N≤K0.length
  have:K0.length=N+(0+Bs.length-M):=s1
  omega
 have rn:TE E' E2 c.outs.CU u.2 K0 (KK m N):=by
  refine ⟨fun i hi=> ?_,fun i p hp=> ?_,rfl⟩
  ·by_cases him:i<M
   ·obtain ⟨b,B,h1,h2,_⟩:=all i him
    have ZQ:b<N:=(List.getElem?_eq_some_iff.1 h2).1
    have g1:=hf.ids i b h1
    have g2:=UR i (by omega) hi
    rw [VC i b h1]
    simp only [E2,if_pos ZQ]
    exact ⟨by rw [g2.1,g1.1],by rw [g2.2,g1.2]⟩
   ·rw [Ym i (by omega)]
    have: ¬(N+(i-M)<N):=by omega
    simp only [E2,if_neg this]
    rw [show M+(N+(i-M)-N)=i by omega]
    exact ⟨rfl,rfl⟩
  ·obtain ⟨z,z1,z2⟩:=LU (KK m N) (u:=u.2) hp
   refine ⟨z,z1,?_⟩
   have:=s2 i _ z2
   rwa [Nat.zero_add] at this
 have YH: ∀n,n<N→some n∉m→K0[n]? =bk[n]?:=fun n hn hm=>by
  refine s3 n (by omega) fun j hj he=> ?_
  rw [Nat.zero_add] at he
  by_cases hjm:j<M
  ·obtain ⟨b,B,h1,h2,_⟩:=all j hjm
   rw [VC j b h1] at he
   subst he
   exact hm (List.mem_of_getElem? h1)
  ·have:=Ym j (by omega)
   omega
 have GM:Hj E w σ.bx E2 w' (Ay K0 m):=by
  refine ⟨by rw [Cv];exact Ps,fun b hb=>by simp only [E2];rw [if_pos hb],fun d hd=> .inl hd,hS,st,Uy,fun b d r rows hb hq=> ?_⟩
  have gi:some b∉m:=fun hm=>by have:=JL hm hq;cases this
  rw [G5 gi,YH b hb gi] at hq
  have gX:=Xu hq
  have lY:σ.bx[b]? =some (.sl d r rows):=by
   rcases HV (Bw.refl σ.bx) b _ gX with e|e
   ·cases e
   ·exact e
  refine ⟨d,rows,lY,fun p hp q ys cJ=>⟨hp,⟨ys,cJ,rfl⟩,fun h' hh=> ?_⟩⟩
  have fI:Fk[b]? =some (Fk[b]'(by rw [k1.1,Cv];exact hb)):=List.getElem?_eq_getElem _
  obtain ⟨_,ho⟩:=k1.2 b _ _ gX fI
  have e2:E2.DB b=E.DB b:=by simp only [E2];rw [if_pos hb]
  rw [e2]
  exact TH ho (fun d hd=>Uy d (st d hd)) (fun d hd=>YR d (List.mem_flatten.2 ⟨_,List.mem_of_getElem? fI,hd⟩)) hp cJ hh
 have vr: ∀x v,VR E w σ.bx x v→VR E2 w' K0 (Br m x) v:=fun x v hx=>by
  refine Wo GM (fun b d' r Av gi hq=> ?_) Ps hx
  obtain ⟨i,hi,him⟩:=List.getElem_of_mem gi
  have dJ:m[i]? =some (some b):=by rw [List.getElem?_eq_getElem hi,him]
  obtain ⟨b',B,h1,h2,h3,h4⟩:=all i hi
  rw [dJ] at h1;cases h1
  have kP:i<c.outs.CU.length:=by omega
  have hp:c.outs.CU[i]? =some c.outs.CU[i]:=List.getElem?_eq_getElem kP
  obtain ⟨z,z1,z2⟩:=rn.bx i _ hp
  rw [VC i b dJ,hq] at z2
  have fK:c.ins.CU[i]? =some (c.ins.CU[i]'(by omega)):=List.getElem?_eq_getElem _
  generalize c.outs.CU[i]=po at z hp z1 z2
  cases po with
  |mem q=>simp [BP.mk] at z2
  |gone=>simp [BP.mk] at z2
  |sl d0 q=>
   simp only [BP.mk,Option.some.injEq,Bx.sl.injEq] at z2
   obtain ⟨rfl,rfl,z2⟩:=z2
   obtain rfl:=eq_of_heq z2
   obtain ⟨d1,hpo⟩:=(hk i _ fK).2 _ _ hp
   obtain ⟨d2,rows,rfl⟩:=h4 d1 r (by rw [fK,hpo])
   have ZQ:b<N:=(List.getElem?_eq_some_iff.1 h2).1
   have eh:E2.DB b=E.DB b:=by simp only [E2];rw [if_pos ZQ]
   refine ⟨d2,rows,h2,?_,eh⟩
   obtain ⟨F0,hR0,_⟩:=h.bx.take h2
   have l7:Fs[i]? =some (Fs[i]'(by rw [hFs1.1,IE];exact kP)):=List.getElem?_eq_getElem _
   obtain ⟨_,Xc⟩:=hFs1.2 i _ _ z1 l7
   have Xi:alive c.outs.CU i=true:=by simp [alive,hp]
   rw [(UR i (by omega) Xi).2,(hf.ids i b dJ).2] at Xc
   exact VI (LL hR0.2) (LL Xc)
 have M9:c.outs.CU.all (BP.FF c.outs.CU)=true:=hbo
 have rel:Rel E2 { tm:=(σ.Jy m).tm,bx:=K0 } a w':=by
  refine ⟨h.FL,?_,?_⟩
  ·rw [Su]
   exact Ai.EW _ (fun x v hx=>Wy vr hx) h.tm
  ·refine MW ro (Fs:=Fs) (by simp [ft]) (fun i _ hi=> ?_) (by rw [hFs1.1,IE];exact jR.symm) (fun j B F hB hF=> ?_) ?_
   ·obtain ⟨b,B,h1,h2,_⟩:=all i hi
    rw [VC i b h1]
    have ZQ:b<(Ay σ.bx m).length:=by rw [Cv];exact (List.getElem?_eq_some_iff.1 h2).1
    have hd:(Ay σ.bx m)[b]? =some .dead:=by
     rw [List.getElem?_eq_getElem ZQ]
     exact congrArg some (JL (List.mem_of_getElem? h1) (List.getElem?_eq_getElem ZQ))
    simp only [bk]
    rw [List.getElem?_map,hd];rfl
   ·rw [Nat.zero_add]
    have ZN:=(List.getElem?_eq_some_iff.1 hB).1
    have hp:c.outs.CU[j]? =some (c.outs.CU[j]'(by omega)):=List.getElem?_eq_getElem _
    obtain ⟨z,z1,z2⟩:=LU (KK m N) (u:=u.2) hp
    have Hg:Bs[j]? =_:=z2
    rw [hB] at Hg
    cases Hg
    exact bz rn hp (List.all_eq_true.1 M9 _ (List.getElem_mem _)) (hFs1.2 j _ _ z1 hF)
   ·
    refine ⟨Fk,⟨by simp [bk,k1.1],fun n B F hn hF=> ?_⟩,?_⟩
    ·simp only [bk] at hn
     rw [List.getElem?_map,Option.map_eq_some_iff] at hn
     obtain ⟨B0,hn,rfl⟩:=hn
     have U4:n<N:=by have:=(List.getElem?_eq_some_iff.1 hn).1;rwa [Cv] at this
     have h3:=k1.2 n B0 F hn hF
     have ak: ∀d∈F,w'.heap[d]? =w.heap[d]?:=fun d hd=>YR d (List.mem_flatten.2 ⟨F,List.mem_of_getElem? hF,hd⟩)
     have eb:E2.C5 n=E.C5 n:=by simp only [E2];rw [if_pos U4]
     have eh:E2.DB n=E.DB n:=by simp only [E2];rw [if_pos U4]
     cases B0 with
     |mem cs=>
      obtain ⟨rfl,arr,ty,fr,ha,hu,hv⟩:=h3
      exact ⟨by rw [eb],arr,ty,fr,by rw [eb,ak _ (by simp),ha],hu,Ai.EW _ vr hv⟩
     |sl d r rows=>
      refine ⟨h3.1,?_⟩
      rw [eh]
      exact Bd hS (fun d hd=>Uy d (st d hd)) ak h3.2
     |dead=>exact h3
    ·refine ⟨List.nodup_append.2 ⟨k2,hFs2.nodup,fun x hx z hz he=> ?_⟩,fun d hd ht=> ?_,fun d hd=> ?_,fun d hd=> .inr hd,fun d hd=> ?_⟩
     ·subst he
      exact hFs2.free x hz (base.T x (k3 x hx).2.2.2)
     ·rcases List.mem_append.1 hd with hd|hd
      ·rcases ht with ht|ht
       ·exact (k3 d hd).1 ht
       ·exact kY d hd ht
      ·rcases ht with ht|ht
       ·exact hFs2.free d hd (base.T d (hf.T d ht))
       ·exact hFs2.free d hd (hFs2.st d ht)
     ·rcases List.mem_append.1 hd with hd|hd
      ·exact Nat.lt_of_lt_of_le (k3 d hd).2.2.1 base.size
      ·exact hFs2.lt d hd
     ·rcases hd with hd|hd
      ·exact Nat.lt_of_lt_of_le (NM d hd) base.size
      ·exact hFs2.NM d (hFs2.st d hd)
 have Zg:G8 (VJ c N0 xs σ) E σ.bx w E2 K0 w':=by
  refine ⟨fq,Ps,fun n hn=>⟨by simp only [E2];rw [if_pos hn],by simp only [E2];rw [if_pos hn]⟩,fun n hn=> ?_,fun n B B' mV hB Hg WA=> ?_⟩
  rotate_left 1
  ·have U4:=(List.getElem?_eq_some_iff.1 hB).1
   have bZ:some n∉m:=fun hm=>mV (by
    simp only [VJ,LB,List.mem_filterMap]
    exact ⟨some n,hm,rfl⟩)
   rw [YH n U4 bZ] at Hg
   simp only [bk] at Hg
   have kM:(Ay σ.bx m)[n]? =some B:=by rw [G5 bZ];exact hB
   rw [List.getElem?_map,kM] at Hg
   have Hg:Bx.map (Br m) B=B':=by simpa using Hg
   have fI:Fk[n]? =some (Fk[n]'(by rw [k1.1,Cv];exact U4)):=List.getElem?_eq_getElem _
   refine ⟨?_,fun d hd=> ?_⟩
   ·subst Hg
    cases B with
    |mem cs=>trivial
    |sl d r rows=>rfl
    |dead=>exact absurd rfl WA
   ·rcases Mz (k1.2 n B _ kM fI) hd with hs|hs
    ·exact Uy d (st d hs)
    ·exact YR d (List.mem_flatten.2 ⟨_,List.mem_of_getElem? fI,hs⟩)
  have U4:=(List.getElem?_eq_some_iff.1 hn).1
  have bZ:some n∉m:=fun hm=>by
   obtain ⟨i,hi,him⟩:=List.getElem_of_mem hm
   obtain ⟨b,B,h1,h2,h3,_⟩:=all i hi
   rw [List.getElem?_eq_getElem hi,him] at h1
   cases h1
   rw [hn] at h2
   cases h2
   exact h3 rfl
  rw [YH n U4 bZ]
  simp only [bk]
  rw [List.getElem?_map,G5 bZ,hn];rfl
 refine ⟨x,E2,M7 c.outs.Bb u.1 (KK m N),{ tm:=(σ.Jy m).tm,bx:=K0 },rfl,rel,SH rn hslot Bb,Zg,by simp [Su],?_⟩
 rw [jO] at e
 exact e
theorem Xa {f:Nat} {c:KD} (hc:Ld P f c) (h:Rel E σ a w) {xs:List XV} {vs:List Value} (dh:Ai (XR E w σ.bx) xs vs) (e:Pp c xs σ k=some y):
  Calls P f vs.toArray w fun e w' => ∃x E' xv σ',e= .returned x∧Rel E' σ' a w'∧XR E' w' σ'.bx xv x∧G8 (JX c xs σ) E σ.bx w E' σ'.bx w'∧σ'.tm.length=σ.tm.length∧k xv σ' =some y:=by
 unfold Pp at e
 split at e
 case isFalse=>cases e
 rename_i hlen
 obtain ⟨E',h1,h2,h3,h4⟩:=Sp h c.ins
 have hold: ∀b,b<σ.bx.length→(c.ins.opens σ.bx)[b]? =σ.bx[b]?:=fun b hb=>by simp only [Cq.opens];rw [List.getElem?_append_left hb]
 refine (Vq (N0:=σ.bx.length) hc h1 h3 (dh.imp fun x v hx=>h4 x v hx) hlen (k:=k) (y:=y) e).mono fun e' w' hR=> ?_
 obtain ⟨x,E2,xv,σ',q0,q1,q2,q3,q4,q5⟩:=hR
 exact ⟨x,E2,xv,σ',q0,q1,q2,h2.after hold q3,q4,q5⟩
end
end Go.Fw
end
section
namespace Go.Fw
def Nk (P:Program) (Γ:Nat→Option KD):Prop:= ∀f c,Γ f=some c→Ld P f c
theorem SM {Γ:Nat→Option KD} {σ:St} {o:Op} (h:RS o=false):DM (fun _=>none) σ o=DM Γ σ o:=by
 cases o with
 |call c=>
  obtain ⟨callee,args,Ry⟩:=c
  cases callee with
  |value f=>simp [RS] at h
  |invoke _ _=>rfl
  |builtin b=>cases b<;>rfl
 |_=>rfl
theorem fi {Y:Type} {P:Program} {Γ:Nat→Option KD} {o:Oper} {E:Env} {σ:St} {a:Act} {w:World} {k:K Y} {y:Y} {g:Nat} {c:KD} (aq:Ld P g c) (h:Rel E σ a w) {f:Operand} {args:Array Operand} {Ry:Array TypeId}
  (ho:o.op= .call { callee:= .value f,args:=args,argTypes:=Ry }) {ps:List Value} (LP:a.eval f= .func (.func g) #[] ps.toArray) {xs:List XV} (DQ:Ai (XR E w σ.bx) xs (args.toList.map a.eval++ps)) (ht:DM Γ σ o.op=JX c xs σ)
  (e:Pp c xs σ k=some y) {next:Act→World→Prop} {Q:Exit→Act→World→Prop}
  (hn: ∀v w' E' x σ',Rel E' σ' a w'→XR E' w' σ'.bx x v→G8 (DM Γ σ o.op) E σ.bx w E' σ'.bx w'→σ'.tm.length=σ.tm.length→k x σ' =some y→next (a.put o.dst v) w'):o.wp P a w next Q:=by
 have Ss:=Xa aq h DQ e
 have Rx:(execOp a.eval o).run P w= .ok (.enter g (args.toList.map a.eval++ps).toArray) w:=by
  have e2:(args.map a.eval)++ps.toArray=(args.toList.map a.eval++ps).toArray:=by
   apply Array.ext'
   simp
  simp only [execOp,ho,resolve,LP,Deferred.ofValue,Sem.run_bind,Sem.run_pure,Result.andThen_ok,invoke,Array.empty_append,e2,aq.2.1]
 unfold Oper.wp
 rw [Rx]
 simp only [Oper.upon]
 refine Ss.mono fun e w' hR=> ?_
 obtain ⟨x,E',xv,σ',rfl,h1,h2,h3,h4,h5⟩:=hR
 rw [←ht] at h3
 exact hn x w' E' xv σ' h1 h2 h3 h4 h5
section
variable {Y:Type} {P:Program} {T:Dp} (hT:B7 P T) {Γ:Nat→Option KD} (hΓ:Nk P Γ) {o:Oper} {E:Env} {σ:St} {a:Act} {w:World} {k:K Y} {y:Y}
include hT hΓ
theorem V5 (h:Rel E σ a w) (e:Jf T Γ o σ k=some y) {next:Act→World→Prop} {Q:Exit→Act→World→Prop}
  (hn: ∀v w' E' x σ',Rel E' σ' a w'→XR E' w' σ'.bx x v→G8 (DM Γ σ o.op) E σ.bx w E' σ'.bx w'→σ'.tm.length=σ.tm.length→k x σ' =some y→next (a.put o.dst v) w'):o.wp P a w next Q:=by
 by_cases hc:RS o.op=false
 ·obtain ⟨v,w',E',x,σ',hr,h1,h2,h3,h4,h5⟩:=W7 hT h e hc
  rw [SM hc] at h3
  unfold Oper.wp
  rcases hr with hr|⟨hr,rfl⟩
  ·rw [hr]
   exact hn v w' E' x σ' h1 h2 h3 h4 h5
  ·rw [hr]
   exact hn _ w' E' x σ' h1 h2 h3 h4 h5
 ·
  unfold RS at hc
  split at hc
  case h_2=>simp at hc
  rename_i f args Ry ho
  unfold Jf at e
  rw [ho] at e
  dsimp only at e
  split at e
  case h_3=>cases e
  ·rename_i g Dr hf
   split at e
   case h_2=>cases e
   rename_i c hg
   have hv:=h.ev f
   rw [hf] at hv
   obtain ⟨L3,LP⟩:(∀b∈Dr,b<σ.bx.length)∧a.eval f= .func (.func g) #[] (Dr.map fun b=>Value.pointer (some ⟨E.C5 b,0,none⟩)).toArray:=hv
   have aq:=hΓ g c hg
   have DQ:Ai (XR E w σ.bx) (args.toList.map σ.ev++Dr.map fun b=> .c (.C2 b 0)) (args.toList.map a.eval++Dr.map fun b=>Value.pointer (some ⟨E.C5 b,0,none⟩)):=by
    refine Ai.append (gL h args.toList) ?_
    clear LP hf e
    induction Dr with
    |nil=>trivial
    |cons b l ih=>exact ⟨⟨L3 b (by simp),rfl⟩,ih (fun c hc=>L3 c (by simp [hc]))⟩
   have ht:DM Γ σ o.op=JX c (args.toList.map σ.ev++Dr.map fun b=> .c (.C2 b 0)) σ:=by
    rw [ho]
    simp only [DM,hf,hg,JX]
    rfl
   exact fi aq h ho LP DQ ht e hn
  ·rename_i g rows hf
   split at e
   case h_2=>cases e
   rename_i c hg
   have hv:=h.ev f
   rw [hf] at hv
   obtain ⟨ps,LP,L3⟩: ∃ps:List Value,a.eval f= .func (.func g) #[] ps.toArray∧Ai (RA E w) rows ps:=hv
   have aq:=hΓ g c hg
   have DQ:Ai (XR E w σ.bx) (args.toList.map σ.ev++rows.map fun q=> .c (.FU false q.1 q.2 0)) (args.toList.map a.eval++ps):=by
    refine Ai.append (gL h args.toList) ?_
    clear LP hf e
    induction rows generalizing ps with
    |nil=>
     cases ps with
     |nil=>trivial
     |cons _ _=>exact L3.elim
    |cons q l ih=>
     cases ps with
     |nil=>exact L3.elim
     |cons p ps=>
      obtain ⟨⟨bb,o,cs,h1,h2,h3,h4,h5⟩,L3⟩:=L3
      exact ⟨⟨bb,o,cs,h1,h2,h3,h4,h5⟩,ih ps L3⟩
   have ht:DM Γ σ o.op=JX c (args.toList.map σ.ev++rows.map fun q=> .c (.FU false q.1 q.2 0)) σ:=by
    rw [ho]
    simp only [DM,hf,hg,JX]
    rfl
   exact fi aq h ho LP DQ ht e hn
end
theorem Rel.tmp {E:Env} {σ:St} {a:Act} {w:World} (h:Rel E σ a w) {t:Nat} {x:XV} (e:σ.tm[t]? =some x): ∃v,a.tmps[t]? =some v∧XR E w σ.bx x v:=by
 obtain ⟨v,h1,h2⟩:=h.tm.get e
 exact ⟨v,by simpa using h1,h2⟩
def dC:Value→Option Bool
 | .bool b=>some b
 |_=>none
theorem LQ {ops:Array Oper} {tmps:Array Value} {j t:Nat} (e:(ops[j]?).bind (·.dst)=some t) {v:Value} (hv:tmps[t]? =some v):yielded ops tmps j=dC v:=by
 simp only [yielded,e,Option.bind_some,hv]
 cases v<;>rfl
theorem Q7 {E:Env} {w:World} {vw:List Bx}:XR E w vw (.Hi []) undef:=⟨#[],rfl,trivial⟩
structure Ok (E0:Env) (w0:World) (N nb:Nat) (E:Env) (σ:St) (a:Act) (w:World):Prop where
 rel:Rel E σ a w
 base:NA E0 w0 E w
 tm:σ.tm.length=N
 Rv:nb≤σ.bx.length
 ids: ∀i,i<nb→σ.bx[i]?≠some .dead→E.C5 i=E0.C5 i∧E.DB i=E0.DB i
theorem Ok.next {E0 E E':Env} {w0 w w':World} {N nb:Nat} {σ σ':St} {a a':Act} {t:mu} (h:Ok E0 w0 N nb E σ a w) (hr:Rel E' σ' a' w') (hw:G8 t E σ.bx w E' σ'.bx w') (hl:σ'.tm.length=σ.tm.length):Ok E0 w0 N nb E' σ' a' w':=
 ⟨hr,h.base.trans hw.base,hl.trans h.tm,Nat.le_trans h.Rv hw.len,fun i hi hd=>by
  have h1:=hw.ids i (Nat.lt_of_lt_of_le hi h.Rv)
  have h2:=h.ids i hi (fun hh=>hd (hw.dead i hh))
  exact ⟨h1.1.trans h2.1,h1.2.trans h2.2⟩⟩
theorem Ok.put {E0 E:Env} {w0 w:World} {N nb:Nat} {σ:St} {a:Act} (h:Ok E0 w0 N nb E σ a w) (dst:Option Tmp) {x:XV} {v:Value} (hx:XR E w σ.bx x v):Ok E0 w0 N nb E (σ.put dst x) (a.put dst v) w:=by
 have e1:(σ.put dst x).bx=σ.bx:=by cases dst<;>rfl
 have e2:(σ.put dst x).tm.length=σ.tm.length:=by cases dst<;>simp [St.put]
 refine ⟨h.rel.put dst hx,h.base,e2.trans h.tm,by rw [e1];exact h.Rv,fun i hi hd=>h.ids i hi (by rwa [e1] at hd)⟩
theorem Ok.same {E0 E:Env} {w0 w:World} {N nb:Nat} {σ σ1:St} {a:Act} (h:Ok E0 w0 N nb E σ a w) (hr:Rel E σ1 a w) (hb:σ1.bx=σ.bx) (hl:σ1.tm.length=σ.tm.length):Ok E0 w0 N nb E σ1 a w:=
 ⟨hr,h.base,hl.trans h.tm,by rw [hb];exact h.Rv,fun i hi hd=>h.ids i hi (by rwa [hb] at hd)⟩
end Go.Fw
end
section
namespace Go.Fw
section
variable {Y:Type}
abbrev k0:K (XV×St):=fun x σ=>some (x,σ)
theorem W3 {op:BinOp} {κ:IntKind} {a b:Int} (k:AV→Option Y):NJ op κ a b k=(NJ op κ a b some).bind k:=by
 cases op<;>simp [NJ]<;>split<;>rfl
theorem PY {op:BinOp} {κ:IntKind} {a b:Int} (k:AV→Option Y):KH op κ a b k=(KH op κ a b some).bind k:=by
 unfold KH
 split
 ·rfl
 ·cases op<;>simp
theorem Xf {op:BinOp} {a b:List UInt8} (k:AV→Option Y):OL op a b k=(OL op a b some).bind k:=by
 cases op<;>simp [OL]<;>split<;>rfl
theorem RG {T:Dp} {t:Nat} {op:BinOp} {a b:XV} (k:AV→Option Y):Ub T t op a b k=(Ub T t op a b some).bind k:=by
 unfold Ub
 split
 ·split
  ·exact PY k
  ·exact PY k
  ·split
   ·exact W3 k
   ·rfl
 ·exact Xf k
 ·split
  ·split
   ·split<;>rfl
   ·rfl
  ·rfl
 ·split<;>rfl
 ·rfl
theorem S_ {op:UnOp} {a:XV} (k:AV→Option Y):aw op a k=(aw op a some).bind k:=by
 unfold aw
 split<;>rfl
theorem LF {g:Bool} {a b:XV} (k:AV→Option Y):Tm g a b k=(Tm g a b some).bind k:=by
 unfold Tm
 split
 ·split
  ·cases g<;>rfl
  ·rfl
 ·rfl
theorem Ee {len:Nat} {lo hi:Option XV} (k:Nat→Nat→Option Y):FT len lo hi k=(FT len lo hi fun l h=>some (l,h)).bind fun p=>k p.1 p.2:=by
 unfold FT
 dsimp only
 split
 ·split<;>rfl
 ·rfl
theorem Vt {T:Dp} {t:Nat} {σ:St} {x:XV} {lo hi:Option XV} (k:K Y):O1 T t σ x lo hi k=(O1 T t σ x lo hi k0).bind fun p=>k p.1 p.2:=by
 unfold O1
 split
 ·split
  ·rw [Ee,Ee (Y:=XV×St),Option.bind_assoc];rfl
  ·rfl
 ·split
  ·rw [Ee,Ee (Y:=XV×St),Option.bind_assoc];rfl
  ·rfl
 ·split
  ·split
   ·rw [Ee,Ee (Y:=XV×St),Option.bind_assoc];rfl
   ·rfl
  ·rfl
 ·rfl
theorem Vl {T:Dp} {t:Nat} {σ:St} {x i:XV} (k:K Y):O3 σ T t x i k=(O3 σ T t x i k0).bind fun p=>k p.1 p.2:=by
 unfold O3
 split
 ·split
  ·split<;>rfl
  ·rfl
 ·split
  ·split
   ·split<;>rfl
   ·rfl
  ·rfl
 ·split
  ·split
   ·split<;>rfl
   ·rfl
  ·rfl
 ·rfl
theorem SV {T:Dp} {t:Nat} {σ:St} {x i:XV} (k:K Y):JY T t σ x i k=(JY T t σ x i k0).bind fun p=>k p.1 p.2:=by
 unfold JY
 split
 ·split
  ·split<;>rfl
  ·rfl
 ·rfl
theorem Xe {T:Dp} {s d:Nat} {σ:St} {x:XV} (k:K Y):SZ T s d σ x k=(SZ T s d σ x k0).bind fun p=>k p.1 p.2:=by
 unfold SZ
 split
 ·rfl
 ·rfl
 ·split
  ·split<;>rfl
  ·rfl
 ·split<;>rfl
 ·rfl
theorem XB {T:Dp} {t:Nat} {σ:St} {l c:XV} (k:K Y):Sh T t σ l c k=(Sh T t σ l c k0).bind fun p=>k p.1 p.2:=by
 unfold Sh
 split
 ·split
  ·split
   ·split<;>rfl
   ·rfl
  ·rfl
 ·rfl
theorem P2 {T:Dp} {t n:Nat} {ps:List (Nat×XV)} {σ:St} (k:K Y):Gr T t n ps σ k=(Gr T t n ps σ k0).bind fun p=>k p.1 p.2:=by
 unfold Gr
 split
 ·split
  ·split
   ·rw [Option.bind_assoc];rfl
   ·rfl
  ·rfl
 ·rfl
theorem UI {T:Dp} {ts:Array TypeId} {σ:St} {a x:XV} (k:K Y):M8 T ts σ a x k=(M8 T ts σ a x k0).bind fun p=>k p.1 p.2:=by
 unfold M8
 split
 ·split
  ·split
   ·rw [Option.bind_assoc]
    congr 1;funext s
    split
    ·split<;>rfl
    ·rfl
   ·rw [Option.bind_assoc]
    congr 1;funext s
    split
    ·rw [Option.bind_assoc]
     congr 1;funext q
     rw [Option.bind_assoc]
     congr 1;funext z
     split<;>rfl
    ·rfl
   ·rfl
  ·rfl
 ·rfl
theorem VH {T:Dp} {ts:Array TypeId} {σ:St} {x:XV} (k:K Y):O8 T ts σ x k=(O8 T ts σ x k0).bind fun p=>k p.1 p.2:=by
 unfold O8
 split
 ·split
  ·split<;>rfl
  ·rfl
 ·rfl
theorem SX {c:KD} {xs:List XV} {σ:St} (k:K Y):Pp c xs σ k=(Pp c xs σ k0).bind fun p=>k p.1 p.2:=by
 unfold Pp
 split
 ·split
  ·rw [Option.bind_assoc];rfl
  ·rfl
 ·rfl
theorem T7 {σ:St} {x:XV} (k:K Y):Lk σ x k=(Lk σ x k0).bind fun p=>k p.1 p.2:=by
 unfold Lk
 split
 ·rw [Option.bind_assoc];rfl
 ·rfl
theorem Sc {T:Dp} {Γ:Nat→Option KD} {o:Oper} {σ:St} (k:K Y):Jf T Γ o σ k=(Jf T Γ o σ k0).bind fun p=>k p.1 p.2:=by
 unfold Jf
 split
 ·rfl
 ·exact T7 k
 ·split
  ·rename_i x _
   cases x<;>rfl
  ·rfl
 ·split<;>rfl
 ·split
  ·split<;>rfl
  ·rfl
 ·split
  ·split<;>rfl
  ·rfl
 ·exact P2 k
 ·split<;>rfl
 ·split
  ·split
   ·split<;>rfl
   ·rfl
  ·rfl
 ·split<;>rfl
 ·rw [RG,RG (Y:=XV×St),Option.bind_assoc];rfl
 ·rw [S_,S_ (Y:=XV×St),Option.bind_assoc];rfl
 ·exact Xe k
 ·split
  ·split<;>rfl
  ·rfl
 ·exact XB k
 ·exact Vt k
 ·split<;>rfl
 ·split<;>rfl
 ·exact Vl k
 ·exact SV k
 ·split<;>rfl
 ·split
  ·split
   ·exact SX k
   ·rfl
  ·split
   ·exact SX k
   ·rfl
  ·rfl
 ·split
  ·split<;>rfl
  ·split
   ·split<;>rfl
   ·rfl
  ·rfl
 ·split
  ·exact UI k
  ·rfl
 ·split
  ·exact VH k
  ·rfl
 ·split
  ·rw [LF,LF (Y:=XV×St),Option.bind_assoc];rfl
  ·rfl
 ·split
  ·rw [LF,LF (Y:=XV×St),Option.bind_assoc];rfl
  ·rfl
 ·rfl
theorem O0 {I:Type} [Nonempty I] {T:Dp} {Γ:Nat→Option KD} {o:Oper} {σ:St} {k:I→K Y} {y:Y} (h: ∀i,Jf T Γ o σ (k i)=some y): ∃x σ',Jf T Γ o σ k0=some (x,σ')∧ ∀i,k i x σ' =some y:=by
 obtain ⟨i0⟩:= ‹Nonempty I›
 have h0:=h i0
 rw [Sc] at h0
 rw [Option.bind_eq_some_iff] at h0
 obtain ⟨⟨x,σ'⟩,h1,h2⟩:=h0
 refine ⟨x,σ',h1,fun i=> ?_⟩
 have:=h i
 rw [Sc,h1] at this
 exact this
end
end Go.Fw
end
section
namespace Go.Fw
def WF {α:Type} (P:Program) (s:Sem α):Prop:= ∀w v w1,s.run P w= .ok v w1→ ∀w',s.run P w' = .ok v w'
section
variable {α β:Type} {P:Program}
theorem WF.pure (x:α):WF P (Pure.pure x:Sem α):=fun w v w1 h w' =>by
 simp only [Sem.run_pure,Result.ok.injEq] at h⊢
 exact ⟨h.1,trivial⟩
theorem WF.bind {s:Sem α} {f:α→Sem β} (h:WF P s) (k: ∀v,WF P (f v)):WF P (s >>= f):=fun w v w1 e w' =>by
 rw [Sem.run_bind] at e⊢
 cases hs:s.run P w with
 |ok u w2=>
  rw [hs] at e
  simp only [Result.andThen_ok] at e
  rw [h w u w2 hs w']
  simp only [Result.andThen_ok]
  exact k u w2 v w1 e w'
 |halt x w2=>
  rw [hs] at e
  simp [Result.andThen] at e
theorem WF.halt (x:Halt):WF P (.halt x:Sem α):=fun w v w1 e w' =>by simp [Sem.run] at e
theorem WF.program:WF P program:=fun w v w1 e w' =>by
 rw [run_program] at e⊢
 cases e;rfl
theorem WF.typeInfo (t:TypeId):WF P (typeInfo t):=WF.bind WF.program fun p=>by
 split
 ·exact WF.pure _
 ·exact WF.halt _
theorem WF.underlying (t:TypeId):WF P (underlying t):=WF.bind WF.program fun p=>by
 split
 ·exact WF.pure _
 ·exact WF.halt _
theorem WF.sizeOf (t:TypeId):WF P (Go.sizeOf t):=WF.bind (WF.typeInfo t) fun _=>WF.pure _
theorem WF.isAgg (t:TypeId):WF P (isAgg t):=WF.bind (WF.underlying t) fun d=>by
 split<;>exact WF.pure _
theorem WF.zeroValue (t:TypeId):WF P (zeroValue t):=WF.bind (WF.typeInfo t) fun i=>by
 split
 ·exact WF.pure _
 ·exact WF.halt _
theorem WF.asIntOf (v:Value):WF P (asIntOf v):=by
 unfold Go.asIntOf
 split
 ·exact WF.pure _
 ·exact WF.halt _
 ·exact WF.halt _
theorem WF.asBool (v:Value):WF P (asBool v):=by
 unfold Go.asBool
 split
 ·exact WF.pure _
 ·exact WF.halt _
theorem WF.asAgg (v:Value):WF P (asAgg v):=by
 unfold Go.asAgg
 split
 ·exact WF.pure _
 ·exact WF.halt _
theorem WF.sureAddr (v:Value):WF P (Instr.sureAddr v):=by
 unfold Instr.sureAddr
 split
 ·exact WF.pure _
 ·exact WF.halt _
theorem WF.Uw {s:Sem α} (h: ∀w v w1,s.run P w≠ .ok v w1):WF P s:=fun w v w1 e=>absurd e (h w v w1)
theorem Jp {s:Sem α} {f:α→Sem β} (h: ∀x w v w1,(f x).run P w≠ .ok v w1): ∀w v w1,(s >>= f).run P w≠ .ok v w1:=fun w v w1 e=>by
 rw [Sem.run_bind] at e
 cases hs:s.run P w with
 |ok u w2=>rw [hs] at e;exact h u w2 v w1 e
 |halt x w2=>rw [hs] at e;simp [Result.andThen] at e
theorem Ns (x:Halt): ∀w v w1,(.halt x:Sem α).run P w≠ .ok v w1:=fun w v w1 e=>by simp [Sem.run] at e
theorem PT (e:RuntimeError): ∀w v w1,(runtimePanic e:Sem α).run P w≠ .ok v w1:=by
 unfold runtimePanic
 refine Jp fun p=> ?_
 dsimp only
 split<;>first
  |exact Ns _
  |exact Jp fun _=>Jp fun _=>Ns _
  |exact Jp fun _=>Ns _
theorem WF.bounds (k:IntKind) (x y:Int) (c:BoundsCode):WF P (boundsPanic k x y c:Sem α):=WF.Uw (by
 unfold boundsPanic
 dsimp only
 split<;>exact Jp fun _=>PT _)
theorem WF.part (t:TypeId) (cs:Array Value) (o:Nat):WF P (part t cs o):=WF.bind (WF.isAgg t) fun b=>by
 split
 ·exact WF.bind (WF.sizeOf t) fun _=>WF.pure _
 ·split
  ·exact WF.pure _
  ·exact WF.halt _
theorem WF.field (t:TypeId) (x:Value) (f:Nat):WF P (Instr.field t x f):=WF.bind (WF.underlying t) fun d=>by
 split
 ·split
  ·exact WF.bind (WF.asAgg x) fun _=>WF.part _ _ _
  ·exact WF.halt _
 ·exact WF.halt _
theorem WF.indexAt (t:TypeId) (x i:Value):WF P (Instr.indexAt t x i):=WF.bind (WF.asIntOf i) fun q=>by
 obtain ⟨k,i⟩:=q
 dsimp only
 refine WF.bind (WF.underlying t) fun d=> ?_
 have rest: ∀q:Option Addr×Nat×TypeId,WF P (do
   let d←Go.underlying t
   match q.1 with
   |some a=>
    if 0≤i∧i<(q.2.1:Int) then do
     let s←Go.sizeOf q.2.2
     Pure.pure (Value.pointer (some (a.add (i.toNat*s))))
    else if (decide (q.2.1≤1)&&(match d with| .array .. =>true|_=>false))=true then unsupported (.noEntry "op/indexAddr.an index out of range at an array of length 0 or 1 (ledger 616)")
    else boundsPanic k i q.2.1 .index
   |none=>boundsPanic k i 0 .index:Sem Value):=fun q=>by
  refine WF.bind (WF.underlying t) fun d=> ?_
  split
  ·split
   ·exact WF.bind (WF.sizeOf _) fun _=>WF.pure _
   ·repeat' split
    all_goals first|exact WF.halt _|exact WF.bounds _ _ _ _
  ·exact WF.bounds _ _ _ _
 split
 ·exact WF.bind (WF.sureAddr _) fun _=>WF.bind (WF.pure _) fun q=>rest q
 ·exact WF.bind (WF.pure _) fun q=>rest q
 ·exact WF.bind (WF.halt _) fun q=>rest q
theorem WF.index (t:TypeId) (x i:Value):WF P (Instr.index t x i):=WF.bind (WF.asIntOf i) fun q=>by
 obtain ⟨k,i⟩:=q
 dsimp only
 refine WF.bind (WF.underlying t) fun d=> ?_
 split
 ·split
  ·exact WF.bind (WF.sizeOf _) fun _=>WF.part _ _ _
  ·exact WF.bounds _ _ _ _
 ·split
  ·exact WF.pure _
  ·exact WF.bounds _ _ _ _
 ·exact WF.halt _
theorem WF.extract (x:Value) (i:Nat):WF P (Instr.extract x i):=by
 unfold Instr.extract
 split
 ·split
  ·exact WF.pure _
  ·exact WF.halt _
 ·exact WF.halt _
theorem WF.sliceBound (x:Value) (y:Nat) (c:BoundsCode):WF P (Instr.sliceBound x y c):=WF.bind (WF.asIntOf x) fun q=>by
 obtain ⟨k,i⟩:=q
 dsimp only
 split
 ·exact WF.pure _
 ·exact WF.bounds _ _ _ _
theorem WF.sliceBounds (b:Bool) (len cap:Nat) (l h:Option Value):WF P (Instr.sliceBounds b len cap l h none):=by
 cases h with
 |none=>
  cases l with
  |none=>exact WF.bind (WF.pure _) fun _=>WF.bind (WF.pure _) fun _=>WF.bind (WF.pure _) fun _=>WF.pure _
  |some l=>exact WF.bind (WF.pure _) fun _=>WF.bind (WF.pure _) fun _=>WF.bind (WF.sliceBound _ _ _) fun _=>WF.pure _
 |some h=>
  cases l with
  |none=>exact WF.bind (WF.pure _) fun _=>WF.bind (WF.sliceBound _ _ _) fun _=>WF.bind (WF.pure _) fun _=>WF.pure _
  |some l=>exact WF.bind (WF.pure _) fun _=>WF.bind (WF.sliceBound _ _ _) fun _=>WF.bind (WF.sliceBound _ _ _) fun _=>WF.pure _
theorem WF.asAddr (v:Value):WF P (asAddr v):=by
 unfold Go.asAddr
 split
 ·exact WF.pure _
 ·exact WF.Uw (PT _)
 ·exact WF.halt _
theorem WF.slice (t:TypeId) (x:Value) (l h:Option Value):WF P (Instr.slice t x l h none):=WF.bind (WF.underlying t) fun d=>by
 split
 ·exact WF.bind (WF.sliceBounds _ _ _ _ _) fun _=>WF.pure _
 ·exact WF.bind (WF.sliceBounds _ _ _ _ _) fun _=>WF.bind (WF.sizeOf _) fun _=>WF.pure _
 ·refine WF.bind (WF.asAddr _) fun _=>WF.bind (WF.underlying _) fun d=> ?_
  split
  ·exact WF.bind (WF.sliceBounds _ _ _ _ _) fun _=>WF.bind (WF.sizeOf _) fun _=>WF.pure _
  ·exact WF.halt _
 ·exact WF.halt _
theorem WF.sliceAt (t:TypeId) (x:Value) (l h:Option Value):WF P (Instr.sliceAt t x l h none):=WF.bind (WF.underlying t) fun d=>by
 split
 ·exact WF.bind (WF.sureAddr _) fun _=>WF.bind (WF.sliceBounds _ _ _ _ _) fun _=>WF.bind (WF.sizeOf _) fun _=>WF.pure _
 ·exact WF.slice _ _ _ _
theorem WF.Sn {f:α→Sem β} (h: ∀x,WF P (f x)): ∀l:List α,WF P (l.mapM f)
 |[]=>WF.pure _
 |x::l=>by
  rw [List.mapM_cons]
  exact WF.bind (h x) fun _=>WF.bind (WF.Sn h l) fun _=>WF.pure _
theorem WF.mapM {f:α→Sem β} (h: ∀x,WF P (f x)) (a:Array α):WF P (a.mapM f):=by
 rw [Array.mapM_eq_mapM_toList,←bind_pure_comp]
 exact WF.bind (WF.Sn h _) fun _=>WF.pure _
theorem WF.build (t:TypeId) (ps:Array (Nat×Value)):WF P (Instr.build t ps):=WF.bind (WF.zeroValue t) fun z=>by
 refine WF.bind (WF.underlying t) fun d=> ?_
 split
 ·refine WF.bind (WF.mapM (fun f=>WF.bind (WF.sizeOf _) fun _=>WF.pure _) _) fun _=> ?_
  split
  ·exact WF.pure _
  ·exact WF.halt _
 ·refine WF.bind (WF.sizeOf _) fun _=> ?_
  split
  ·exact WF.pure _
  ·exact WF.halt _
 ·exact WF.halt _
end
end Go.Fw
end
section
namespace Go.Fw
def dn (hint:mu) (E:Env) (w:World) (bx:List Bx) (c:Nat):Prop:=E.T c∨ ∃n B,n∈hint∧bx[n]? =some B∧U3 E w n B c
def Ri (K:Nat→Prop) (w w':World):Prop:= ∀c,K c→w'.heap[c]? =w.heap[c]?
theorem WH {w:World} {B:Nat→Prop}: ∀{p:List Pd} {r:Ty} {h:Value} {rows:List r.D} {q:Ty} {ys:List q.D} {bb o len cap i:Nat},Rd w B (.sl r) [h] rows→BA r rows p→Cb r rows p=some ⟨q,ys⟩→
  Df w h p=some (.slice (some ⟨bb,o,none⟩) len cap)→i<ys.length→RB w (.sl r) [h] rows bb
 |[],r,h,rows,q,ys,bb,o,len,cap,i,hr,hp,hg,hh,hi=>by
  rw [Aw] at hh
  cases hh
  simp only [Cb,Option.some.injEq,Sigma.mk.injEq] at hg
  obtain ⟨rfl,hg⟩:=hg
  obtain rfl:=eq_of_heq hg
  simp only [RB]
  exact ⟨bb,o,len,cap,rfl,by omega,.inl rfl⟩
 |s::p,r,h,rows,q,ys,bb,o,len,cap,i,hr,hp,hg,hh,hi=>by
  simp only [BA] at hp
  obtain ⟨hsi,GN,hp⟩:=hp
  simp only [Rd] at hr
  obtain ⟨a,cap',e1,_,hr⟩:=hr
  obtain rfl:=(List.cons.inj e1).1
  rcases hr with hr|⟨b',o',rfl,hb,hr⟩
  ·omega
  obtain ⟨cs,hl,hc,hrow⟩:=hr s.i _ (G2 hsi)
  simp only [Cb] at hg
  split at hg
  case h_2=>cases hg
  rename_i q' x MQ
  rw [MQ] at hp
  dsimp only at hp
  obtain ⟨v,hv,hrv⟩:=Mw hrow MQ
  have ax:=hc _ _ hv
  rw [←GN] at ax
  simp only [Df,ax] at hh
  have:=WH hrv hp hg hh hi
  simp only [RB]
  refine ⟨b',o',_,cap',rfl,by omega,.inr ⟨s.i,_,cs,G2 hsi,hl,hc,?_⟩⟩
  clear hc ax e1 hr
  exact RB_cell hrow MQ hv this
where
 RB_cell {w:World} {B:Nat→Prop} {c:Nat}: ∀{r:Ty} {cs:List Value} {x:r.D} {j:Nat} {t:Ty} {y:t.D} {v:Value},Rd w B r cs x→AR r j x=some ⟨t,y⟩→cs[j]? =some v→RB w t [v] y c→RB w r cs x c
 | .cons c r,cs,x,0,t,y,v,h,e,hv,k=>by
  simp only [Rd] at h
  obtain ⟨u,l,rfl,h1,h2⟩:=h
  simp only [AR,Option.some.injEq,Sigma.mk.injEq] at e
  obtain ⟨rfl,e⟩:=e
  obtain rfl:=eq_of_heq e
  simp at hv;subst hv
  simp only [RB]
  exact ⟨u,l,rfl,.inl k⟩
 | .cons c r,cs,x,j+1,t,y,v,h,e,hv,k=>by
  simp only [Rd] at h
  obtain ⟨u,l,rfl,h1,h2⟩:=h
  simp only [AR] at e
  have:=RB_cell h2 e (by simpa using hv) k
  simp only [RB]
  exact ⟨u,l,rfl,.inr this⟩
 | .int k,cs,x,0,t,y,v,h,e,hv,k' =>by
  simp only [AR,Option.some.injEq,Sigma.mk.injEq] at e
  obtain ⟨rfl,_⟩:=e
  simp [RB] at k'
 | .bool,cs,x,0,t,y,v,h,e,hv,k' =>by
  simp only [AR,Option.some.injEq,Sigma.mk.injEq] at e
  obtain ⟨rfl,_⟩:=e
  simp [RB] at k'
 | .str,cs,x,0,t,y,v,h,e,hv,k' =>by
  simp only [AR,Option.some.injEq,Sigma.mk.injEq] at e
  obtain ⟨rfl,_⟩:=e
  simp [RB] at k'
 | .sl r,cs,x,0,t,y,v,h,e,hv,k=>by
  simp only [AR,Option.some.injEq,Sigma.mk.injEq] at e
  obtain ⟨rfl,e⟩:=e
  obtain rfl:=eq_of_heq e
  have hl:=PM h
  simp only [Ty.n] at hl
  obtain ⟨u,rfl⟩:=List.length_eq_one_iff.1 hl
  simp at hv;subst hv
  exact k
 | .unit,_,_,_,_,_,_,_,e,_,_=>by simp [AR] at e
 | .int _,_,_,_+1,_,_,_,_,e,_,_=>by simp [AR] at e
 | .bool,_,_,_+1,_,_,_,_,e,_,_=>by simp [AR] at e
 | .str,_,_,_+1,_,_,_,_,e,_,_=>by simp [AR] at e
 | .sl _,_,_,_+1,_,_,_,_,e,_,_=>by simp [AR] at e
section
variable {P:Program} {T:Dp} (hT:B7 P T) {E:Env} {w:World}
include hT
theorem Sb {σ:St} {Fs:List mu} (hB:E6 E w σ.bx σ.bx Fs) (st: ∀c,E.S c→E.T c) {t:Nat} {x:AV} {z:XV} (e:Pf T t σ (.c x)=some z) {v:Value} (hx:VR E w σ.bx x v):
  ∃bb oo u y,v= .pointer (some ⟨bb,oo,none⟩)∧Dh σ.bx x 0=some y∧XR E w σ.bx z u∧ ∀w',w'.heap[bb]? =w.heap[bb]?→(Instr.loadAt t v).run P w' = .ok u w':=by
 unfold Pf at e
 split at e
 case h_2=>cases e
 rename_i x' ti Xg HD
 cases Xg
 split at e
 case isTrue=>cases e
 rename_i GN
 have OG:=fun w=>B7.isAgg hT HD w
 split at e
 ·rename_i ha
  simp only [Option.map_eq_some_iff] at e
  obtain ⟨l,hl,rfl⟩:=e
  obtain ⟨h1,h2⟩:=Lq hl
  have h0:0<l.length:=by omega
  obtain ⟨b,o,u,hv,_,_⟩:=EL hB st (h2 0 _ (List.getElem?_eq_getElem h0)) hx
  obtain ⟨cs,c1,c2,c3⟩:=MN hB st hx hv (l:=l) (j:=0) (fun i y hy=>by simpa using h2 i y hy)
  subst hv
  have OO:=(hT t ti HD).YK
  cases hd:ti.desc with
  |st fs=>
   rw [hd] at OO
   obtain ⟨fields,hu,_⟩:=OO
   refine ⟨b,o,.agg cs.toArray,_,rfl,by simpa using h2 0 _ (List.getElem?_eq_getElem h0),⟨cs.toArray,rfl,by simpa using c3⟩,fun w' hw=>run_loadAt_mid w' b o t cs _ (by have:=c2.HW hw;simpa [An,World.rangeAt] using this) hu rfl ?_⟩
   rw [B7.size hT HD,c1,h1]
  |_=>rw [hd] at ha;simp [TD.agg] at ha
 ·rename_i ha
  simp only [Bool.not_eq_true] at ha
  simp only [Option.map_eq_some_iff] at e
  obtain ⟨y,hy,rfl⟩:=e
  obtain ⟨b,o,u,hv,hc,hr⟩:=EL hB st hy hx
  subst hv
  refine ⟨b,o,u,y,rfl,hy,hr,fun w' hw=> ?_⟩
  have ah:=OG w'
  rw [ha] at ah
  simp only [Nat.add_zero] at hc
  have Mg:w'.cell? ⟨b,o,none⟩=some u:=by rw [World.cell?_of_block (a:=⟨b,o,none⟩) hw];exact hc
  simp [Instr.loadAt,Instr.sureAddr,loadVar,ah,Mg]
end
theorem UW {E E':Env} {w w':World} {vw vw':List Bx} {t:Ty} {x:t.D} {v:Value} (h:VR E w vw (.v t x) v):VR E' w' vw' (.v t x) v:=by
 obtain ⟨h1,h2⟩:=h
 refine ⟨h1,?_⟩
 cases t<;>simp_all [Ty.scalar,Rd]
theorem OH {E E':Env} {w w':World} {vw vw':List Bx} {t:Ty} {x:t.D} {v u:Value} (h:VR E w vw (.v t x) v) (k:VR E' w' vw' (.v t x) u):v=u:=by
 obtain ⟨h1,h2⟩:=h
 obtain ⟨_,k2⟩:=k
 cases t<;>simp_all [Ty.scalar,Rd]
def PJ (x:XV):Prop:=(∃t z,x= .c (.v t z))∨(∃l,x= .agg l∧ ∀c∈l,∃t z,c= .v t z)
theorem Ei {E E':Env} {w w':World} {vw vw':List Bx} {x:XV} {v:Value} (hp:PJ x) (h:XR E w vw x v):XR E' w' vw' x v:=by
 rcases hp with ⟨t,z,rfl⟩|⟨l,rfl,hl⟩
 ·exact UW (E:=E) (w:=w) (vw:=vw) (E':=E') (w':=w') (vw':=vw') h
 ·obtain ⟨vs,rfl,J9⟩:=h
  refine ⟨vs,rfl,?_⟩
  generalize vs.toList=m at J9
  induction l generalizing m with
  |nil=>cases m with
   |nil=>trivial
   |cons _ _=>exact J9.elim
  |cons c l ih=>cases m with
   |nil=>exact J9.elim
   |cons u m=>
    obtain ⟨t,z,rfl⟩:=hl c (by simp)
    exact ⟨UW J9.1,ih (fun c hc=>hl c (by simp [hc])) m J9.2⟩
theorem TJ {d:TD} {x z:AV} {p:Bool} (e:RL d x z=some p):(∃t y,x= .v t y)∧ ∃t y,z= .v t y:=by
 unfold RL at e
 split at e
 ·exact ⟨⟨_,_,rfl⟩,_,_,rfl⟩
 ·exact ⟨⟨_,_,rfl⟩,_,_,rfl⟩
 ·exact ⟨⟨_,_,rfl⟩,_,_,rfl⟩
 ·cases e
theorem Ks {T:Dp}: ∀{i:Nat} {fs:List nB} {l m:List AV} {r:Bool},EE T i fs l m=some r→(∀c∈l,∃t z,c= .v t z)∧ ∀c∈m,∃t z,c= .v t z
 |i,[],[],[],r,e=>by simp
 |i,(o,t)::fs,x::l,z::m,r,e=>by
  simp only [EE] at e
  split at e
  case isFalse=>cases e
  split at e
  case h_2=>cases e
  split at e
  case h_2=>cases e
  rename_i p hp
  simp only [Option.map_eq_some_iff] at e
  obtain ⟨r',e1,_⟩:=e
  obtain ⟨a1,a2⟩:=TJ hp
  obtain ⟨b1,b2⟩:=Ks e1
  exact ⟨fun c hc=>(List.mem_cons.1 hc).elim (fun e=>e▸a1) (b1 c),fun c hc=>(List.mem_cons.1 hc).elim (fun e=>e▸a2) (b2 c)⟩
 |_,[],[],_::_,_,e=>by simp [EE] at e
 |_,[],_::_,_,_,e=>by simp [EE] at e
 |_,_::_,[],_,_,e=>by simp [EE] at e
 |_,_::_,_::_,[],_,e=>by simp [EE] at e
theorem Zw {op:BinOp} {κ:IntKind} {a b:Int} {r:AV} (e:NJ op κ a b some=some r): ∃t x,r= .v t x:=by
 cases op<;>simp only [NJ,Option.some.injEq] at e<;>first
  |exact ⟨_,_,e.symm⟩
  |(
   split at e
   ·cases e
   ·cases e;exact ⟨_,_,rfl⟩)
  |cases e
theorem Sg {op:BinOp} {κ:IntKind} {a b:Int} {r:AV} (e:KH op κ a b some=some r): ∃t x,r= .v t x:=by
 unfold KH at e
 split at e
 ·cases e
 ·cases op<;>simp only [Option.some.injEq] at e<;>first
   |exact ⟨_,_,e.symm⟩
   |cases e
theorem Zn {op:BinOp} {a b:List UInt8} {r:AV} (e:OL op a b some=some r): ∃t x,r= .v t x:=by
 cases op<;>simp only [OL,Option.some.injEq] at e<;>first
  |exact ⟨_,_,e.symm⟩
  |(
   split at e
   ·cases e;exact ⟨_,_,rfl⟩
   ·cases e)
  |cases e
theorem cK {T:Dp} {t:Nat} {op:BinOp} {a b:XV} {r:AV} (e:Ub T t op a b some=some r):(∃t x,r= .v t x)∧PJ a∧PJ b:=by
 unfold Ub at e
 split at e
 ·refine ⟨?_,.inl ⟨_,_,rfl⟩,.inl ⟨_,_,rfl⟩⟩
  split at e
  ·exact Sg e
  ·exact Sg e
  ·split at e
   ·exact Zw e
   ·cases e
 ·exact ⟨Zn e,.inl ⟨_,_,rfl⟩,.inl ⟨_,_,rfl⟩⟩
 ·refine ⟨?_,.inl ⟨_,_,rfl⟩,.inl ⟨_,_,rfl⟩⟩
  split at e
  ·split at e
   ·split at e
    ·cases e;exact ⟨_,_,rfl⟩
    ·cases e;exact ⟨_,_,rfl⟩
    ·cases e
   ·cases e
  ·cases e
 ·split at e
  ·rename_i hq
   rw [Option.bind_eq_some_iff] at hq
   obtain ⟨fs,_,hq⟩:=hq
   obtain ⟨q1,q2⟩:=Ks hq
   cases e
   exact ⟨⟨_,_,rfl⟩,.inr ⟨_,rfl,q1⟩,.inr ⟨_,rfl,q2⟩⟩
  ·rename_i hq
   rw [Option.bind_eq_some_iff] at hq
   obtain ⟨fs,_,hq⟩:=hq
   obtain ⟨q1,q2⟩:=Ks hq
   cases e
   exact ⟨⟨_,_,rfl⟩,.inr ⟨_,rfl,q1⟩,.inr ⟨_,rfl,q2⟩⟩
  ·cases e
 ·cases e
theorem YY {g:Bool} {a b:XV} {r:AV} (e:Tm g a b some=some r):(∃t x,r= .v t x)∧PJ a∧PJ b:=by
 unfold Tm at e
 split at e
 ·refine ⟨?_,.inl ⟨_,_,rfl⟩,.inl ⟨_,_,rfl⟩⟩
  split at e
  ·cases g<;>(cases e;exact ⟨_,_,rfl⟩)
  ·cases e
 ·cases e
theorem dz {op:UnOp} {a:XV} {r:AV} (e:aw op a some=some r):(∃t x,r= .v t x)∧PJ a:=by
 unfold aw at e
 split at e
 ·cases e;exact ⟨⟨_,_,rfl⟩,.inl ⟨_,_,rfl⟩⟩
 ·cases e;exact ⟨⟨_,_,rfl⟩,.inl ⟨_,_,rfl⟩⟩
 ·cases e
section
variable {Y:Type} {P:Program} {T:Dp} (hT:B7 P T) {Γ:Nat→Option KD} {o:Oper} {E:Env} {σ:St} {a:Act} {w:World} {k:K Y} {y:Y}
include hT
theorem WU (h:Rel E σ a w) {t:TypeId} (ps:Array (Nat×Operand)) {s b:Nat} {fs:List nB} {rw:Option Ty} (HD:T.get t=some ⟨s,b,.st fs,rw⟩) {r:Ty} (hr:T.On t=some r)
  {cs:List AV} (hb:Nl T fs (LR r) (ps.toList.map fun q=>(q.1,σ.ev q.2))=some cs):
  ∃E_,(∀w',(Instr.build t (ps.map fun (i,x)=>(i,a.eval x))).run P w' = .ok (.agg E_) w')∧N1 E w σ.bx cs E_.toList:=by
 obtain ⟨i,z,h1,h2,h3,_⟩:=QZ hT hr
 obtain ⟨fields,hu,hfs,GN⟩:=Zk hT HD
 obtain ⟨E_,f1,f2⟩:=Lf hT (Rl h ps) (arr:=z.cells) (by rw [h3];exact Kl r) hb
 refine ⟨E_,fun w' => ?_,f2⟩
 have hb:P.built t (ps.map fun (i,x)=>(i,a.eval x)).toList=some E_:=by
  unfold Program.built
  simp only [h1,hu,h2]
  have hm:fields.toList.mapM (fun f=>(P.info? f.type).map fun i=>(f.offset,i.size))=some (fields.toList.map fun f=>(f.offset,((P.info? f.type).map (·.size)).getD 0)):=by
   refine QV fun f hf=> ?_
   obtain ⟨i',Kt,_⟩:=GN f hf
   simp [Kt]
  simp only [hm]
  rw [←f1]
  congr 1
  funext n
  subst hfs
  simp only [List.getElem?_toArray,List.getElem?_map]
  cases hn:fields.toList[n]? with
  |none=>simp
  |some f=>
   obtain ⟨i',Kt,_⟩:=GN f (List.mem_of_getElem? hn)
   simp [Kt]
 exact run_build (P:=P) w' t (ps.map fun (i,x)=>(i,a.eval x)) E_ hb
theorem Vb {hint:mu} (h:Rel E σ a w) (hq:OP hint σ o.op=true) (e:Jf T Γ o σ k=some y):
  ∃v x,XR E w σ.bx x v∧k x σ=some y∧ ∀w',Ri (dn hint E w σ.bx) w w'→(execOp a.eval o).run P w' = .ok (.value v) w':=by
 obtain ⟨Fs,hB,hS⟩:=h.bx
 have st:=hS.st
 have wf: ∀{s:Sem Value} {v:Value},WF P s→s.run P w= .ok v w→ ∀w',s.run P w' = .ok v w':=fun h1 h2 w' =>h1 w _ w h2 w'
 unfold Jf at e
 split at e
 ·rename_i x ho
  exact ⟨a.eval x,_,h.ev x,e,fun w' _=>by simp only [execOp,ho,Sem.run_pure]⟩
 ·rename_i x ho
  unfold Lk at e
  split at e
  ·rename_i hx
   rw [ho] at hq
   simp only [OP,hx] at hq
   cases hq
  ·exact ⟨a.eval x,_,h.ev x,e,fun w' _=>by simp only [execOp,ho,Sem.run_pure]⟩
 ·rename_i c xa xb ho
  split at e
  case h_2=>cases e
  rename_i p hp
  have hc:=h.ev c
  rw [hp] at hc
  have Mg:=He (E:=E) (w:=w) (vw:=σ.bx) hc
  refine ⟨if p then a.eval xa else a.eval xb,if p then σ.ev xa else σ.ev xb,by cases p<;>simp [h.ev],by cases p<;>simpa [ZD] using e,fun w' _=>by simp [execOp,ho,Mg,asBool]⟩
 ·rename_i t ho;rw [ho] at hq;cases hq
 ·rename_i t x ho;rw [ho] at hq;cases hq
 ·rename_i t ps ho
  split at e
  case h_2=>cases e
  rename_i s b fs rw r HD hr
  split at e
  case h_2=>cases e
  rename_i cs Xk
  obtain ⟨E_,h1,h2⟩:=WU hT h ps HD hr Xk
  exact ⟨.agg E_,.agg cs,⟨E_,rfl,h2⟩,e,fun w' _=>by simp only [execOp,ho,Sem.run_bind,h1 w',Result.andThen_ok,Sem.run_pure]⟩
 ·rename_i t n ps ho;rw [ho] at hq;cases hq
 ·rename_i t x ho
  rw [ho] at hq
  split at e
  case h_2=>cases e
  rename_i z hz
  have hv:=h.ev x
  simp only [OP] at hq
  generalize hX:σ.ev x=X at hq hv hz
  cases X with
  |agg l=>cases hq
  |Hi l=>cases hq
  |c ad=>
   obtain ⟨bb,oo,u,cell,hp,hc,h2,h3⟩:=Sb hT hB st hz hv
   refine ⟨u,z,h2,e,fun w' gZ=> ?_⟩
   have Z9:w'.heap[bb]? =w.heap[bb]?:=by
    refine gZ bb ?_
    have L8:VR E w σ.bx ad (a.eval x):=hv
    cases ad with
    |C2 b j=>
     simp only [Nn,List.contains_iff_mem] at hq
     simp only [Dh] at hc
     split at hc
     ·rename_i cs hb
      refine .inr ⟨b,_,hq,hb,?_⟩
      have:=L8.2
      rw [hp] at this
      simp only [Value.pointer.injEq,Option.some.injEq,Addr.mk.injEq] at this
      exact this.1
     ·cases hc
    |Di b p i sz j=>
     simp only [Nn,List.contains_iff_mem] at hq
     simp only [Dh] at hc
     split at hc
     ·rename_i d q rows hb
      refine .inr ⟨b,_,hq,hb,?_⟩
      simp only [VR,hb] at L8
      obtain ⟨_,hpp,q1,ys,b2,o2,len,cap,g1,g2,g3,g4⟩:=L8
      rw [hp] at g4
      simp only [Value.pointer.injEq,Option.some.injEq,Addr.mk.injEq] at g4
      obtain ⟨rfl,_⟩:=g4
      obtain ⟨F,⟨_,cc⟩,_⟩:=hB.get hb
      exact WH (LL cc) hpp g1 g3 g2
     ·cases hc
    |FU s r z j=>
     obtain ⟨b2,o2,cs,g1,g2,_⟩:=L8
     rw [hp] at g1
     simp only [Value.pointer.injEq,Option.some.injEq,Addr.mk.injEq] at g1
     obtain ⟨rfl,_⟩:=g1
     left
     cases s with
     |true=>exact st _ (by simpa using g2)
     |false=>simpa using g2
    |_=>cases hq
   simp only [execOp,ho,Sem.run_bind,h3 w' Z9,Result.andThen_ok,Sem.run_pure]
 ·rename_i t xa xx ho;rw [ho] at hq;cases hq
 ·rename_i x ho
  have hx:=h.ev x
  split at e
  ·rename_i b j hp
   rw [hp] at hx
   have Xg:b<σ.bx.length∧a.eval x= .pointer (some ⟨E.C5 b,j,none⟩):=hx
   exact ⟨a.eval x,_,hx,e,fun w' _=>by simp only [execOp,ho,Xg.2,Sem.run_pure]⟩
  ·rename_i b p i sz j hp
   rw [hp] at hx
   have YW:L7 (a.eval x)=true:=hx.1
   refine ⟨a.eval x,_,hx,e,fun w' _=> ?_⟩
   unfold L7 at YW
   split at YW
   ·rename_i hv
    simp only [execOp,ho,hv,Sem.run_pure]
   ·cases YW
  ·rename_i s r z j hp
   rw [hp] at hx
   obtain ⟨bb,oo,cs,hv,hrest⟩:=hx
   exact ⟨a.eval x,.c (.FU s r z j),⟨bb,oo,cs,hv,hrest⟩,e,fun w' _=>by simp only [execOp,ho,hv,Sem.run_pure]⟩
  ·rename_i f Dr hp
   rw [hp] at hx
   have Xg:(∀b∈Dr,b<σ.bx.length)∧a.eval x= .func (.func f) #[] (Dr.map fun b=>Value.pointer (some ⟨E.C5 b,0,none⟩)).toArray:=hx
   exact ⟨a.eval x,_,hx,e,fun w' _=>by simp only [execOp,ho,Xg.2,Sem.run_pure]⟩
  ·cases e
 ·rename_i op t x z s ho
  rw [RG,Option.bind_eq_some_iff] at e
  obtain ⟨r,e1,e⟩:=e
  obtain ⟨⟨t',x',rfl⟩,p1,p2⟩:=cK e1
  obtain ⟨r0,val,h1,h2,h3⟩:=NY hT e1 (h.ev x) (h.ev z) x z
  cases h1
  refine ⟨val,.c (.v t' x'),h3,e,fun w' _=> ?_⟩
  obtain ⟨r1,val',g1,g2,g3⟩:=NY hT e1 (Ei (E':=E) (w':=w') (vw':=σ.bx) p1 (h.ev x)) (Ei p2 (h.ev z)) x z
  cases g1
  have:=OH h3 g3
  subst this
  simp only [execOp,ho,Sem.run_bind]
  simp only [Sem.run_bind] at g2
  rw [g2];rfl
 ·rename_i op t x ho
  rw [S_,Option.bind_eq_some_iff] at e
  obtain ⟨r,e1,e⟩:=e
  obtain ⟨⟨t',x',rfl⟩,p1⟩:=dz e1
  obtain ⟨r0,val,h1,h2,h3⟩:=Ou (P:=P) e1 (h.ev x)
  cases h1
  refine ⟨val,.c (.v t' x'),h3,e,fun w' _=> ?_⟩
  obtain ⟨r1,val',g1,g2,g3⟩:=Ou (P:=P) e1 (Ei (E':=E) (w':=w') (vw':=σ.bx) p1 (h.ev x))
  cases g1
  have:=OH h3 g3
  subst this
  simp only [execOp,ho,Sem.run_bind,g2,Result.andThen_ok,Sem.run_pure]
 ·rename_i s d x ho;rw [ho] at hq;cases hq
 ·rename_i f first Dr ho;rw [ho] at hq;cases hq
 ·rename_i t l c ho;rw [ho] at hq;cases hq
 ·rename_i t x lo hi ho
  obtain ⟨z,val,h1,h2,h3⟩:=OM hT hB st e (h.ev x) (V3 h lo) (V3 h hi)
  exact ⟨val,z,h3,h1,fun w' _=>by simp only [execOp,ho,Option.map_none,Sem.run_bind,wf (WF.sliceAt _ _ _ _) h2 w',Result.andThen_ok,Sem.run_pure]⟩
 ·rename_i t x f ho
  split at e
  case h_2=>cases e
  rename_i z hz
  obtain ⟨u,h1,h2⟩:=OW hT hz (h.ev x)
  refine ⟨u,z,h2,e,fun w' _=> ?_⟩
  have hw:(Instr.fieldAt t (a.eval x) f).run P w' = .ok u w':=by
   have hx:=h.ev x
   unfold TY at hz
   split at hz
   case h_2=>cases hz
   rename_i s b fs _ HD
   split at hz
   case h_2=>cases hz
   rename_i o' u' hf
   have key: ∀ad,a.eval x= .pointer (some ad)→(Instr.fieldAt t (a.eval x) f).run P w' = .ok u w':=by
    intro ad kv
    rw [kv] at h1⊢
    have r1:=Iq hT (w:=w) HD hf (a:=ad)
    have r2:=Iq hT (w:=w') HD hf (a:=ad)
    rw [r1] at h1
    cases h1
    exact r2
   split at hz
   ·rename_i b' j hp
    rw [hp] at hx
    exact key _ hx.2
   ·rename_i b' p i sz j hp
    rw [hp] at hx
    have YW:L7 (a.eval x)=true:=hx.1
    unfold L7 at YW
    split at YW
    ·rename_i hv;exact key _ hv
    ·cases YW
   ·rename_i s r y' j hp
    rw [hp] at hx
    obtain ⟨bb,oo,cs,hv,_⟩:=hx
    exact key _ hv
   ·cases hz
  simp only [execOp,ho,Sem.run_bind,hw,Result.andThen_ok,Sem.run_pure]
 ·rename_i t x f ho
  split at e
  case h_2=>cases e
  rename_i z hz
  obtain ⟨u,h1,h2⟩:=Pq hT hz (h.ev x)
  exact ⟨u,z,h2,e,fun w' _=>by simp only [execOp,ho,Sem.run_bind,wf (WF.field _ _ _) h1 w',Result.andThen_ok,Sem.run_pure]⟩
 ·rename_i t x i ho
  obtain ⟨z,val,h1,h2,h3⟩:=Oc hT hB st e (h.ev x) (h.ev i)
  exact ⟨val,z,h3,h1,fun w' _=>by simp only [execOp,ho,Sem.run_bind,wf (WF.indexAt _ _ _) h2 w',Result.andThen_ok,Sem.run_pure]⟩
 ·rename_i t x i ho
  obtain ⟨z,val,h1,h2,h3⟩:=L2 hT e (h.ev x) (h.ev i)
  exact ⟨val,z,h3,h1,fun w' _=>by simp only [execOp,ho,Sem.run_bind,wf (WF.index _ _ _) h2 w',Result.andThen_ok,Sem.run_pure]⟩
 ·rename_i x i ho
  split at e
  case h_2=>cases e
  rename_i z hz
  obtain ⟨u,h1,h2⟩:=MI (P:=P) hz (h.ev x)
  exact ⟨u,z,h2,e,fun w' _=>by simp only [execOp,ho,Sem.run_bind,wf (WF.extract _ _) h1 w',Result.andThen_ok,Sem.run_pure]⟩
 ·rename_i f args Ry ho;rw [ho] at hq;cases hq
 ·rename_i args Ry ho
  split at e
  ·rename_i s t DQ bF
   obtain ⟨x,rfl,hx⟩:=Jv DQ
   have hv:=h.ev x
   rw [hx] at hv
   have L8:=Jd (E:=E) (w:=w) (vw:=σ.bx) hv
   split at e
   case isFalse=>cases e
   rename_i hs
   have hu:=Jo hT hs
   refine ⟨.int .i64 (s.length:Int),.c (.v (.int .i64) (s.length:Int)),VR.int (E:=E) (vw:=σ.bx) _ _,e,fun w' _=> ?_⟩
   have GN:(⟨s.toArray⟩:ByteArray).size=s.length:=by simp [ByteArray.size]
   simp [execOp,ho,resolve,invoke,builtin,Builtin.len_,bF,L8,AQ hu,goInt,GN]
  ·rename_i z t _ DQ bF
   obtain ⟨x,rfl,hx⟩:=Jv DQ
   have hv:=h.ev x
   rw [hx] at hv
   split at e
   case isFalse=>cases e
   rename_i hs
   split at e
   case h_2=>cases e
   rename_i n hn
   obtain ⟨el,hu⟩:=Oy hT hs
   obtain ⟨ad,cap,L8⟩:=Po hB st hn hv
   refine ⟨.int .i64 (n:Int),.c (.v (.int .i64) (n:Int)),VR.int (E:=E) (vw:=σ.bx) _ _,e,fun w' _=> ?_⟩
   simp [execOp,ho,resolve,invoke,builtin,Builtin.len_,bF,L8,AQ hu,goInt]
  ·cases e
 ·rename_i args Ry ho;rw [ho] at hq;cases hq
 ·rename_i args Ry ho;rw [ho] at hq;cases hq
 ·rename_i args Ry ho
  split at e
  case h_2=>cases e
  rename_i x1 x2 DQ
  obtain ⟨o1,o2,rfl,hx1,hx2⟩:=Je DQ
  have L3:=h.ev o1
  have LP:=h.ev o2
  rw [hx1] at L3
  rw [hx2] at LP
  rw [LF,Option.bind_eq_some_iff] at e
  obtain ⟨r,e1,e⟩:=e
  obtain ⟨⟨t',x',rfl⟩,p1,p2⟩:=YY e1
  obtain ⟨r0,val,h1,h2,h3⟩:=IG (P:=P) (big:=true) e1 L3 LP Ry #[] o.type
  cases h1
  refine ⟨val,.c (.v t' x'),h3,e,fun w' _=> ?_⟩
  obtain ⟨r1,val',g1,g2,g3⟩:=IG (P:=P) (big:=true) e1 (Ei (E':=E) (w':=w') (vw':=σ.bx) p1 L3) (Ei p2 LP) Ry #[] o.type
  cases g1
  have:=OH h3 g3
  subst this
  simp only [if_true] at g2
  simp [execOp,ho,resolve,invoke,builtin,g2]
 ·rename_i args Ry ho
  split at e
  case h_2=>cases e
  rename_i x1 x2 DQ
  obtain ⟨o1,o2,rfl,hx1,hx2⟩:=Je DQ
  have L3:=h.ev o1
  have LP:=h.ev o2
  rw [hx1] at L3
  rw [hx2] at LP
  rw [LF,Option.bind_eq_some_iff] at e
  obtain ⟨r,e1,e⟩:=e
  obtain ⟨⟨t',x',rfl⟩,p1,p2⟩:=YY e1
  obtain ⟨r0,val,h1,h2,h3⟩:=IG (P:=P) (big:=false) e1 L3 LP Ry #[] o.type
  cases h1
  refine ⟨val,.c (.v t' x'),h3,e,fun w' _=> ?_⟩
  obtain ⟨r1,val',g1,g2,g3⟩:=IG (P:=P) (big:=false) e1 (Ei (E':=E) (w':=w') (vw':=σ.bx) p1 L3) (Ei p2 LP) Ry #[] o.type
  cases g1
  have:=OH h3 g3
  subst this
  simp only [Bool.false_eq_true,if_false] at g2
  simp [execOp,ho,resolve,invoke,builtin,g2]
 ·cases e
end
end Go.Fw
end
section
namespace Go.Fw
section
variable {P:Program} {md:Region.Mode} {ops:Array Oper} {Q:Exit→Act→World→Prop}
theorem Ri.refl (K:Nat→Prop) (w:World):Ri K w w:=fun _ _=>rfl
def Uu (P:Program) (md:Region.Mode) (ops:Array Oper) (Q:Exit→Act→World→Prop):Nat→Array Bool→(Nat→Prop)→Act→World→Prop
 |0,BV,_,a,w=>Region.ready md ops BV=[]∧Q .normal a w
 |fuel+1,BV,K,a,w=>(Region.ready md ops BV=[]→Q .normal a w)∧
  ∀i∈Region.ready md ops BV,wpOp P ops Q i (fun a' w' => ∃K':Nat→Prop,(∀c,K c→K' c)∧Ri K w w'∧Uu P md ops Q fuel (BV.setIfInBounds i true) K' a' w') a w
theorem S4: ∀(fuel:Nat) (BV:Array Bool) (K:Nat→Prop) (a:Act) (w:World),Uu P md ops Q fuel BV K a w→wpAny P md ops Q fuel BV a w
 |0,_,_,_,_,h=>h
 |fuel+1,_,_,_,_,h=>⟨h.1,fun i hi=>wpOp_mono (fun a' w' ⟨K',_,_,h'⟩=>S4 fuel _ K' a' w' h') (h.2 i hi)⟩
theorem YieldsIf.mono {S S':World→Prop} {o:Oper} {v:Value} {a:Act} (h:YieldsIf P ops S o v a) (hs: ∀w,S' w→S w):YieldsIf P ops S' o v a:=
 h.imp (fun ⟨h1,h2⟩=>⟨h1,fun w hw=>h2 w (hs w hw)⟩) id
theorem Pe {i:Nat} {oi:Oper} {v:Value} (hi:ops[i]? =some oi) (YX: ∀(j:Nat) (o:Oper) cs b,ops[j]? =some o→o.op≠ .select cs b) (hQ: ∀c a w,¬Q (.panic c) a w):
  ∀(fuel:Nat) (BV:Array Bool) (K:Nat→Prop) (a:Act) (w:World),
   (∀j oj,ops[j]? =some oj→j≠i→BV.getD j true=false→(∀e∈oj.after,Region.binds md e=true→e.on≠i)→oi.apart ops oj=true)→
   i∈Region.ready md ops BV→YieldsIf P ops (Ri K w) oi v a→Uu P md ops Q fuel (BV.setIfInBounds i true) K (a.put oi.dst v) w→Uu P md ops Q (fuel+1) BV K a w:=by
 intro fuel
 induction fuel with
 |zero=>
  intro BV K a w _ hr hy H
  refine ⟨fun h=>(by rw [h] at hr;cases hr),fun j hj=> ?_⟩
  by_cases hji:j=i
  ·subst hji;exact hy.wpOp hi (Ri.refl K w) ⟨K,fun _ h=>h,Ri.refl K w,H⟩
  ·have:=ready_mono hj hji
   rw [H.1] at this
   cases this
 |succ fuel ih=>
  intro BV K a w JD hr hy H
  refine ⟨fun h=>(by rw [h] at hr;cases hr),fun j hj=> ?_⟩
  by_cases hji:j=i
  ·subst hji;exact hy.wpOp hi (Ri.refl K w) ⟨K,fun _ h=>h,Ri.refl K w,H⟩
  ·have h1:=H.2 j (ready_mono hj hji)
   obtain ⟨hjun,oj,hoj,M9⟩:=mem_ready.1 hj
   have Zy: ∀e∈oj.after,Region.binds md e=true→e.on≠i:=fun e he hb heq=>by
    have h1:=M9 e he hb
    have h0:=(mem_ready.1 hr).1
    rw [heq] at h1
    rcases Nat.lt_or_ge i BV.size with h'|h'
    ·simp [h'] at h0 h1;rw [h0] at h1;cases h1
    ·simp [Array.getElem?_eq_none h'] at h1
   have h2:=wpOp_putIf hoj (JD j oj hoj hji hjun Zy) (fun cs b=>YX i oi cs b hi) (fun cs b=>YX j oj cs b hoj) (fun c a w h=>absurd h (hQ c _ w)) hy h1
   have bK: ∀k ok,ops[k]? =some ok→k≠i→(BV.setIfInBounds j true).getD k true=false→
     (∀e∈ok.after,Region.binds md e=true→e.on≠i)→oi.apart ops ok=true:=fun k ok hk lg ji gI=>by
    refine JD k ok hk lg ?_ gI
    by_cases hjk:j=k
    ·subst hjk;exact hjun
    ·rw [getD_set_ne true hjk] at ji;exact ji
   refine wpOp_mono (fun a' w' h3=> ?_) h2
   obtain ⟨hy',K',hK,hs,ht⟩:=h3
   refine ⟨K',hK,hs,ih (BV.setIfInBounds j true) K' a' w' bK (ready_mono hr (Ne.symm hji)) (YieldsIf.mono hy' fun dg ja c hc=>(ja c (hK c hc)).trans (hs c hc)) ?_⟩
   rw [Array.setIfInBounds_comm _ _ hji]
   exact ht
end
theorem PV {Y:Type} {f:Nat→List Bool→Option Y} {y:Y}: ∀{rs:mu},(∀ω,Tp f rs ω=some y)→ ∀i∈rs,∀ω,f i ω=some y
 |[i],h,j,hj,ω=>by
  simp at hj;subst hj
  exact h ω
 |i::j::r,h,k,hk,ω=>by
  rcases List.mem_cons.1 hk with rfl|hk
  ·exact h (true::ω)
  ·exact PV (rs:=j::r) (fun ω=>h (false::ω)) k hk ω
theorem UD {σ:St} {t:Nat} {b:Bool} (e:σ.tm[t]? =some (.c (.v .bool b))):σ.put (some t) (.c (.v .bool b))=σ:=by
 simp only [St.put]
 obtain ⟨tm,bx⟩:=σ
 simp only [St.mk.injEq,and_true]
 obtain ⟨Dw,he⟩:=List.getElem?_eq_some_iff.1 e
 apply List.ext_getElem?
 intro i
 rw [List.getElem?_set]
 split
 ·rename_i e1;subst e1;exact e.symm
 ·rfl
theorem So {Y I:Type} [Nonempty I] {C:QP} {ops:Array Oper} {o:Oper} {kn:I→St→Option Y} {σ:St} {y:Y} {E:Env} {a:Act} {w:World} (h:Rel E σ a w)
  (e: ∀ω,WR C ops o (kn ω) σ=some y):
  (Region.wanted o (yielded ops a.tmps)=true∧ ∀ω,(Jf C.T C.Γ o σ fun x σ' =>kn ω (σ'.put o.dst x))=some y)∨
  (Region.wanted o (yielded ops a.tmps)=false∧ ∀ω,kn ω (σ.put o.dst (.Hi []))=some y):=by
 unfold WR at e
 cases hg:o.guard with
 |none=>
  simp only [hg] at e
  exact .inl ⟨by simp [Region.wanted,hg],e⟩
 |some q=>
  obtain ⟨j,want⟩:=q
  simp only [hg] at e
  cases ht:(ops[j]?).bind (·.dst) with
  |none=>
   simp only [ht] at e
   obtain ⟨i0⟩:= ‹Nonempty I›
   cases e i0
  |some t=>
   simp only [ht] at e
   obtain ⟨i0⟩:= ‹Nonempty I›
   have e0:=e i0
   split at e0
   ·rename_i b hb
    simp only [hb] at e
    obtain ⟨v,hv,hx⟩:=h.tmp hb
    have fN:=He (E:=E) (w:=w) (vw:=σ.bx) hx
    subst fN
    have hy:yielded ops a.tmps j=some b:=by rw [LQ ht hv];rfl
    have hk:=UD hb
    cases b with
    |true=>
     simp only [cond_true,tt,hk] at e
     cases want with
     |true=>exact .inl ⟨by simp [Region.wanted,hg,hy],fun ω=>by simpa using e ω⟩
     |false=>exact .inr ⟨by simp [Region.wanted,hg,hy],fun ω=>by simpa using e ω⟩
    |false=>
     simp only [cond_false,ff,hk] at e
     cases want with
     |true=>exact .inr ⟨by simp [Region.wanted,hg,hy],fun ω=>by simpa using e ω⟩
     |false=>exact .inl ⟨by simp [Region.wanted,hg,hy],fun ω=>by simpa using e ω⟩
   ·rename_i hb
    simp only [hb] at e
    obtain ⟨v,hv,vs,rfl,hx⟩:=h.tmp hb
    have hy:yielded ops a.tmps j=none:=by rw [LQ ht hv];rfl
    exact .inr ⟨by simp [Region.wanted,hg,hy],e⟩
   ·cases e0
theorem Yt {ops:Array Oper} {o:Oper} {σ:St} {E:Env} {a:Act} {w:World} (h:Rel E σ a w) (e:idle ops σ o=true):Region.wanted o (yielded ops a.tmps)=false:=by
 unfold idle at e
 cases hg:o.guard with
 |none=>simp [hg] at e
 |some q=>
  obtain ⟨j,want⟩:=q
  simp only [hg] at e
  cases ht:(ops[j]?).bind (·.dst) with
  |none=>simp [ht] at e
  |some t=>
   simp only [ht] at e
   split at e
   ·rename_i b hb
    obtain ⟨v,hv,hx⟩:=h.tmp hb
    have fN:=He (E:=E) (w:=w) (vw:=σ.bx) hx
    subst fN
    have hy:yielded ops a.tmps j=some b:=by rw [LQ ht hv];rfl
    cases b<;>cases want<;>simp_all [Region.wanted]
   ·rename_i hb
    obtain ⟨v,hv,vs,rfl,hx⟩:=h.tmp hb
    have hy:yielded ops a.tmps j=none:=by rw [LQ ht hv];rfl
    simp [Region.wanted,hg,hy]
   ·cases e
theorem Sm {Y I:Type} [Nonempty I] {C:QP} {ops:Array Oper} {i:Nat} {o:Oper} (ho:ops[i]? =some o) {kn:I→St→Option Y} {σ:St} {y:Y} {E:Env} {a:Act} {w:World} (h:Rel E σ a w)
  (e: ∀ω,Vz C ops i (kn ω) σ=some y):
  (Region.wanted o (yielded ops a.tmps)=true∧ ∀ω,(Jf C.T C.Γ o σ fun x σ' =>kn ω (σ'.put o.dst x))=some y)∨
  (Region.wanted o (yielded ops a.tmps)=false∧ ∀ω,kn ω (σ.put o.dst (.Hi []))=some y):=
 So h fun ω=>by
  have:=e ω
  unfold Vz at this
  simpa only [ho] using this
theorem Xt {hint t:mu} {E E':Env} {bx Gq:List Bx} {w w':World} (h:G8 t E bx w E' Gq w') (ht: ∀b∈t,b∉hint) (ha: ∀b∈hint,O9 Gq b=false):
  (∀c,dn hint E w bx c→dn hint E' w' Gq c)∧Ri (dn hint E w bx) w w':=by
 have key: ∀n B,n∈hint→bx[n]? =some B→ ∃B',Gq[n]? =some B'∧I4 B B'∧ ∀c,U3 E w n B c→w'.heap[c]? =w.heap[c]?:=by
  intro n B hn hB
  have hd:=ha n hn
  unfold O9 at hd
  split at hd
  ·cases hd
  ·rename_i B' PZ Hg
   obtain ⟨h1,h2⟩:=h.frame n B B' (fun hm=>ht n hm hn) hB Hg PZ
   exact ⟨B',Hg,h1,h2⟩
  ·cases hd
 refine ⟨fun c hc=> ?_,fun c hc=> ?_⟩
 ·rcases hc with hc|⟨n,B,hn,hB,hc⟩
  ·exact .inl (h.base.T c hc)
  ·obtain ⟨B',Hg,hs,hh⟩:=key n B hn hB
   have SA:=h.ids n (List.getElem?_eq_some_iff.1 hB).1
   refine .inr ⟨n,B',hn,Hg,?_⟩
   cases B with
   |mem cs=>
    cases B' with
    |mem L6=>simp only [U3] at hc⊢;rw [SA.1];exact hc
    |sl _ _ _=>exact hs.elim
    |dead=>exact hs.elim
   |sl d r rows=>
    cases B' with
    |mem L6=>exact hs.elim
    |dead=>exact hs.elim
    |sl d' r' Av=>
     simp only [I4,Sigma.mk.injEq] at hs
     obtain ⟨rfl,hs⟩:=hs
     obtain rfl:=eq_of_heq hs
     simp only [U3] at hc⊢
     rw [SA.2]
     exact QO (fun d hd=>hh d hd) hc
   |dead=>exact hc.elim
 ·rcases hc with hc|⟨n,B,hn,hB,hc⟩
  ·exact h.base.heap c hc
  ·obtain ⟨B',_,_,hh⟩:=key n B hn hB
   exact hh c hc
theorem Kq {Y:Type} {C:QP} {hint:mu} {ops:Array Oper} {kn:List Bool→St→Option Y} {fuel:Nat} {BV:Array Bool} {ω:List Bool} {σ:St} {y:Y} (e:IW C hint ops kn fuel BV ω σ=some y): ∀b∈hint,O9 σ.bx b=false:=by
 unfold IW at e
 split at e
 ·rename_i h
  intro b hb
  simpa using (List.all_eq_true.1 h) b hb
 ·cases e
theorem Tq {Y:Type} {P:Program} {C:QP} (hT:B7 P C.T) (hΓ:Nk P C.Γ) {E0:Env} {w0:World} {N nb:Nat} {hint:mu} {ops:Array Oper} {kn:List Bool→St→Option Y} {y:Y} {Q:Exit→Act→World→Prop}
  (YX:Region.noSelect ops=true) (hP: ∀c a w,¬Q (.panic c) a w) (hk: ∀E σ a w,Ok E0 w0 N nb E σ a w→(∀ω,kn ω σ=some y)→Q .normal a w):
  ∀(fuel:Nat) {BV:Array Bool} {E:Env} {σ:St} {a:Act} {w:World},Ok E0 w0 N nb E σ a w→(∀ω,IW C hint ops kn fuel BV ω σ=some y)→Uu P .any ops Q fuel BV (dn hint E w σ.bx) a w:=by
 intro fuel
 induction fuel with
 |zero=>
  intro BV E σ a w h e
  have e1:=fun ω=>e ω
  unfold IW at e1
  have Xi:=Kq (e [])
  have bJ:(hint.all fun b=> !O9 σ.bx b)=true:=List.all_eq_true.2 fun b hb=>by simp [Xi b hb]
  simp only [bJ,if_true] at e1
  cases hr:Region.ready .any ops BV with
  |nil=>
   simp only [hr] at e1
   exact ⟨hr,hk E σ a w h e1⟩
  |cons i rs=>
   simp only [hr] at e1
   cases e1 []
 |succ fuel ih=>
  intro BV E σ a w h e
  have e1:=fun ω=>e ω
  unfold IW at e1
  have Xi:=Kq (e [])
  have bJ:(hint.all fun b=> !O9 σ.bx b)=true:=List.all_eq_true.2 fun b hb=>by simp [Xi b hb]
  simp only [bJ,if_true] at e1
  cases hr:Region.ready .any ops BV with
  |nil=>
   simp only [hr] at e1
   exact ⟨fun _=>hk E σ a w h e1,by rw [hr];simp⟩
  |cons i0 rs=>
   simp only [hr] at e1
   cases hf:(i0::rs).find? (RE hint ops BV σ) with
   |some i=>
    simp only [hf] at e1
    have hi:=List.mem_of_find?_eq_some hf
    have ht:=List.find?_some hf
    unfold RE at ht
    cases ho:ops[i]? with
    |none=>rw [ho] at ht;cases ht
    |some o=>
     simp only [ho,Bool.and_eq_true] at ht
     have JD:=Region.free_spec ho ht.2
     rw [←hr] at hi
     have hy:=Sm (I:=List Bool) (kn:=fun ω σ' =>IW C hint ops kn fuel (BV.setIfInBounds i true) ω σ') ho h.rel e1
     rcases hy with ⟨hw,hx⟩|⟨hw,hx⟩
     ·have hq:OP hint σ o.op=true:=by
       rcases Bool.or_eq_true _ _▸ht.1 with hq|hi
       ·exact hq
       ·rw [Yt h.rel hi] at hw
        cases hw
      obtain ⟨x,σ',hx0,hx1⟩:=O0 hx
      obtain ⟨v,x',q1,q2,q3⟩:=Vb hT h.rel hq hx0
      simp only [k0,Option.some.injEq,Prod.mk.injEq] at q2
      obtain ⟨rfl,rfl⟩:=q2
      have LO:=ih (h.put o.dst q1) hx1
      have N4:(σ.put o.dst x').bx=σ.bx:=by cases o.dst<;>rfl
      rw [N4] at LO
      exact Pe ho (Region.noSelect_spec YX) hP fuel BV _ a w JD hi (.inl ⟨hw,q3⟩) LO
     ·have LO:=ih (h.put o.dst Q7) hx
      have N4:(σ.put o.dst (.Hi [])).bx=σ.bx:=by cases o.dst<;>rfl
      rw [N4] at LO
      exact Pe ho (Region.noSelect_spec YX) hP fuel BV _ a w JD hi (.inr ⟨hw,rfl⟩) LO
   |none=>
    simp only [hf] at e1
    have M9:=PV e1
    refine ⟨fun h0=>(by rw [h0] at hr;cases hr),fun i hi=> ?_⟩
    rw [hr] at hi
    have hx:=M9 i hi
    cases ho:ops[i]? with
    |none=>
     simp only [ho] at hx
     cases hx []
    |some o=>
     simp only [ho] at hx
     have js:(DM C.Γ σ o.op).all (fun b=> !hint.contains b)=true:=by
      have:=hx []
      split at this
      ·rename_i hh;exact hh
      ·cases this
     simp only [js,if_true] at hx
     have lC: ∀b∈DM C.Γ σ o.op,b∉hint:=fun b hb hh=>by
      have:=(List.all_eq_true.1 js) b hb
      simp [hh] at this
     unfold wpOp
     simp only [ho]
     rcases Sm (I:=List Bool) (kn:=fun ω σ' =>IW C hint ops kn fuel (BV.setIfInBounds i true) ω σ') ho h.rel hx with ⟨hw,hx⟩|⟨hw,hx⟩
     ·rw [if_pos hw]
      obtain ⟨x,σ',hx0,hx1⟩:=O0 hx
      refine .inl (V5 hT hΓ h.rel hx0 fun v w' E' x' σ'' g1 g2 g3 g4 g5=> ?_)
      simp only [k0,Option.some.injEq,Prod.mk.injEq] at g5
      obtain ⟨rfl,rfl⟩:=g5
      have N4:(σ''.put o.dst x').bx=σ''.bx:=by cases o.dst<;>rfl
      have eN:=Kq (hx1 [])
      rw [N4] at eN
      obtain ⟨k1,k2⟩:=Xt g3 lC eN
      have LO:=ih ((h.next g1 g3 g4).put o.dst g2) hx1
      rw [N4] at LO
      exact ⟨_,k1,k2,LO⟩
     ·rw [if_neg (by simp [hw])]
      have LO:=ih (h.put o.dst Q7) hx
      have N4:(σ.put o.dst (.Hi [])).bx=σ.bx:=by cases o.dst<;>rfl
      rw [N4] at LO
      exact ⟨_,fun _ h=>h,Ri.refl _ _,LO⟩
end Go.Fw
end
section
namespace Go.Fw
theorem Rel.heap {E:Env} {σ:St} {a:Act} {w w':World} (h:Rel E σ a w) (hw:w'.heap=w.heap):Rel E σ a w':=by
 have GM:Hj E w σ.bx E w' σ.bx:=by
  refine ⟨Nat.le_refl _,fun _ _=>rfl,fun _ h=>h,fun _ h=>h,h.bx.st,fun _ _=>by rw [hw],fun b d r rows hb e=>⟨d,rows,e,fun p hp q ys hg=>⟨hp,⟨ys,hg,rfl⟩,fun hh he=> ?_⟩⟩⟩
  obtain ⟨Fs,⟨f1,f2⟩,_⟩:=h.bx
  have hF:Fs[b]? =some (Fs[b]'(by have:=(List.getElem?_eq_some_iff.1 e).1;omega)):=List.getElem?_eq_getElem _
  exact TH (f2 b _ _ e hF).2 (fun _ _=>by rw [hw]) (fun _ _=>by rw [hw]) hp hg he
 exact ⟨h.FL,h.tm.imp fun _ _ hx=>F5 GM hx,h.bx.turn (fun _ _ hv=>CS GM hv) (fun _ h=>h) (fun _ _=>rfl) (fun _ _=>rfl) (fun _ _ _=>by rw [hw]) fun F hF=>⟨hF.nodup,hF.free,fun c hc=>by rw [hw];exact hF.lt c hc,hF.st,fun c hc=>by rw [hw];exact hF.NM c hc⟩⟩
theorem Ok.drawn {E0 E:Env} {w0 w:World} {N nb:Nat} {σ:St} {a:Act} (h:Ok E0 w0 N nb E σ a w) (n:Nat):Ok E0 w0 N nb E σ a { w with drawn:=n }:=
 ⟨h.rel.heap rfl,⟨h.base.T,h.base.S,h.base.Z4,h.base.WM,h.base.heap,h.base.os,h.base.tape,h.base.output,h.base.size⟩,h.tm,h.Rv,h.ids⟩
theorem PC {Y I:Type} [Nonempty I] {P:Program} {C:QP} (hT:B7 P C.T) (hΓ:Nk P C.Γ) {E0:Env} {w0:World} {N nb:Nat} {all:Array Oper} {kn:I→St→Option Y} {y:Y} {Q:Exit→Act→World→Prop}
  (hk: ∀E σ a w,Ok E0 w0 N nb E σ a w→(∀ω,kn ω σ=some y)→Q .normal a w): ∀{l:List Oper} {E:Env} {σ:St} {a:Act} {w:World},Ok E0 w0 N nb E σ a w→(∀ω,TQ C all l (kn ω) σ=some y)→wpList P all Q l a w
 |[],E,σ,a,w,h,e=>hk E σ a w h e
 |o::rest,E,σ,a,w,h,e=>by
  unfold wpList
  rcases So (kn:=fun ω σ=>TQ C all rest (kn ω) σ) h.rel e with ⟨hw,hx⟩|⟨hw,hx⟩
  ·rw [if_pos hw]
   obtain ⟨x,σ',hx0,hx1⟩:=O0 hx
   refine .inl (V5 hT hΓ h.rel hx0 fun v w' E' x' σ'' g1 g2 g3 g4 g5=> ?_)
   simp only [k0,Option.some.injEq,Prod.mk.injEq] at g5
   obtain ⟨rfl,rfl⟩:=g5
   exact PC hT hΓ hk ((h.next g1 g3 g4).put o.dst g2) hx1
  ·rw [if_neg (by simp [hw])]
   exact PC hT hΓ hk (h.put o.dst Q7) hx
def Fb (P:Program) (body:Code) (Q:Exit→Act→World→Prop) (a:Act) (w:World):Prop:=
 ∀(b:Frame) (k:List Item) (cs:List Frame),∃e a' w',Q e a' w'∧Arrives P (lone (b.at a (.code body:: .inLoop body::k)) cs w) b k cs e a' w'
theorem Fb.wp {P:Program} {body:Code} {Q:Exit→Act→World→Prop} {a:Act} {w:World} (h:Fb P body Q a w):(Code.loop body).wp P Q a w:=fun b k cs=>by
 obtain ⟨e,a',w',hq,Nc⟩:=h b k cs
 exact ⟨e,a',w',hq,.of_steps (.one step_loop) Nc⟩
theorem Fb.ZW {P:Program} {body:Code} {Q:Exit→Act→World→Prop} {a:Act} {w:World} (h:body.wp P (Exit.then (Fb P body Q) Q) a w):Fb P body Q a w:=fun b k cs=>by
 obtain ⟨e,a₁,w₁,hq,Nc⟩:=h b (.inLoop body::k) cs
 cases e with
 |normal=>
  obtain ⟨e₂,a₂,w₂,hq₂,harr₂⟩:=hq b k cs
  exact ⟨e₂,a₂,w₂,hq₂,.of_steps (Steps.trans Nc (.one step_inLoop)) harr₂⟩
 |exit id=>exact ⟨_,a₁,w₁,hq,.pass (x:= .inLoop body) rfl (fun _ _=> .inl (by simp)) Nc⟩
 |goto l=>exact ⟨_,a₁,w₁,hq,.pass (x:= .inLoop body) rfl (fun _ _=> .inl (by simp)) Nc⟩
 |ret=>exact ⟨_,a₁,w₁,hq,.pass (x:= .inLoop body) rfl (fun _ _=> .inl (by simp)) Nc⟩
 |panic ch=>exact ⟨_,a₁,w₁,hq,.pass (x:= .inLoop body) rfl (fun _ _=> .inl (by simp)) Nc⟩
 |outgrown=>exact ⟨_,a₁,w₁,hq,.pass (x:= .inLoop body) rfl (fun _ _=> .inl (by simp)) Nc⟩
abbrev Oq:=Exit→Act→World→Prop
def At (P:Program):Code→Oq→Nat→Code→Oq→Prop
 | .seq a b,Q,ℓ,body,Q' =>At P a (Exit.then (b.wp P Q) Q) ℓ body Q'∨At P b Q ℓ body Q'
 | .cond _ a b,Q,ℓ,body,Q' =>At P a Q ℓ body Q'∨At P b Q ℓ body Q'
 | .block id c,Q,ℓ,body,Q' =>At P c (Exit.inBlock id Q) ℓ body Q'
 | .loop c,Q,ℓ,body,Q' =>(first c= ℓ ∧body=c∧Q' =Q)∨At P c (Exit.then (Fb P c Q) Q) ℓ body Q'
 |_,_,_,_,_=>False
def Mr (Q:Oq):Prop:= ∀c a w,¬Q (.panic c) a w
theorem Mr.then {Q:Oq} (h:Mr Q) (n:Act→World→Prop):Mr (Exit.then n Q):=fun c a w hq=>h c a w hq
theorem Mr.inBlock {Q:Oq} (h:Mr Q) (id:Nat):Mr (Exit.inBlock id Q):=fun c a w hq=>h c a w hq
section
variable {Y:Type} {P:Program} {C:QP} (hT:B7 P C.T) (hΓ:Nk P C.Γ) (hm:P.follows .mixedOrders=true) {E0:Env} {w0:World} {N nb:Nat} {y:Y} {J:Nat→St→Option Y}
structure Good (E0:Env) (w0:World) (N nb:Nat) (y:Y) (kn:KN Y) (kx:Nat→KN Y) (kr:KN Y) (Q:Oq):Prop where
 n: ∀E σ a w,Ok E0 w0 N nb E σ a w→(∀ω,kn ω σ=some y)→Q .normal a w
 x: ∀id E σ a w,Ok E0 w0 N nb E σ a w→(∀ω,kx id ω σ=some y)→Q (.exit id) a w
 r: ∀E σ a w,Ok E0 w0 N nb E σ a w→(∀ω,kr ω σ=some y)→Q .ret a w
def c9 (P:Program) (E0:Env) (w0:World) (N nb:Nat) (y:Y) (J:Nat→St→Option Y) (cd:Code) (Q:Oq):Prop:=
 ∀ ℓ body Q',At P cd Q ℓ body Q'→ ∀E σ a w,Ok E0 w0 N nb E σ a w→J ℓ σ=some y→Fb P body Q' a w
include hT hΓ hm in
theorem VW: ∀{cd:Code} {kn:KN Y} {kx:Nat→KN Y} {kr:KN Y} {Q:Oq} {E:Env} {σ:St} {a:Act} {w:World},Mr Q→Good E0 w0 N nb y kn kx kr Q→c9 P E0 w0 N nb y J cd Q→Ok E0 w0 N nb E σ a w→
  (∀ω,run C J cd kn kx kr ω σ=some y)→cd.wp P Q a w:=by
 intro cd
 induction cd with
 |skip=>intro kn kx kr Q E σ a w hp hg hj h e;exact wp_skip (hg.n E σ a w h e)
 |region id ops draw=>
  intro kn kx kr Q E σ a w hp hg hj h e
  simp only [run] at e
  cases draw with
  |false=>
   simp only [Bool.false_eq_true,if_false] at e
   exact wp_region_list (PC hT hΓ hg.n h e)
  |true=>
   simp only [if_true] at e
   have hs:Region.noSelect ops=true:=by
    have:=e []
    split at this
    ·rename_i hh;exact hh
    ·cases this
   simp only [hs,if_true] at e
   exact wp_region_any hm (S4 _ _ _ _ _ (Tq hT hΓ hs hp hg.n _ (h.drawn _) e))
 |seq x z ihx ihz=>
  intro kn kx kr Q E σ a w hp hg hj h e
  simp only [run] at e
  refine wp_seq (ihx (hp.then _) ⟨fun E σ a w h e=>ihz hp hg (fun ℓ body Q' G9=>hj ℓ body Q' (.inr G9)) h e,fun id E σ a w h e=>hg.x id E σ a w h e,hg.r⟩ (fun ℓ body Q' G9=>hj ℓ body Q' (.inl G9)) h e)
 |cond c x z ihx ihz=>
  intro kn kx kr Q E σ a w hp hg hj h e
  cases c with
  |tmp t=>
   simp only [run] at e
   have e0:=e []
   split at e0
   ·rename_i b hb
    simp only [hb] at e
    obtain ⟨v,hv,hx⟩:=h.rel.tmp hb
    have fN:=He (E:=E) (w:=w) (vw:=σ.bx) hx
    subst fN
    have cl:a.eval (.tmp t)= .bool b:=by simp [Act.eval,Array.getD_eq_getD_getElem?,hv]
    have hk:=UD hb
    cases b with
    |true=>
     simp only [cond_true,tt,hk] at e
     exact wp_cond_true cl (ihx hp hg (fun ℓ body Q' G9=>hj ℓ body Q' (.inl G9)) h e)
    |false=>
     simp only [cond_false,ff,hk] at e
     exact wp_cond_false cl (ihz hp hg (fun ℓ body Q' G9=>hj ℓ body Q' (.inr G9)) h e)
   ·cases e0
  |_=>cases e []
 |block id c ih=>
  intro kn kx kr Q E σ a w hp hg hj h e
  simp only [run] at e
  refine wp_block (ih (hp.inBlock id) ⟨hg.n,fun j E σ a w h e=> ?_,hg.r⟩ (fun ℓ body Q' G9=>hj ℓ body Q' G9) h e)
  simp only [Exit.inBlock]
  split
  ·rename_i SA
   simp only [SA,if_true] at e
   exact hg.n E σ a w h e
  ·rename_i SA
   simp only [SA,if_false] at e
   exact hg.x j E σ a w h e
 |loop body ih=>
  intro kn kx kr Q E σ a w hp hg hj h e
  simp only [run] at e
  exact Fb.wp (hj (first body) body Q (.inl ⟨rfl,rfl,rfl⟩) E σ a w h (e []))
 |exit id=>intro kn kx kr Q E σ a w hp hg hj h e;exact wp_exit (hg.x id E σ a w h e)
 |ret=>intro kn kx kr Q E σ a w hp hg hj h e;exact wp_ret (hg.r E σ a w h e)
 |_=>intro kn kx kr Q E σ a w hp hg hj h e;cases e []
end
end Go.Fw
end
section
namespace Go.Fw
def labels:Code→List Nat
 | .seq a b=>labels a++labels b
 | .cond _ a b=>labels a++labels b
 | .block _ c=>labels c
 | .loop c=>first c::labels c
 |_=>[]
theorem At.label {P:Program}: ∀{cd:Code} {Q:Oq} {ℓ :Nat} {body:Code} {Q':Oq},At P cd Q ℓ body Q'→ ℓ ∈labels cd
 | .seq a b,Q,ℓ,body,Q',h=>by
  simp only [labels,List.mem_append]
  exact h.imp At.label At.label
 | .cond _ a b,Q,ℓ,body,Q',h=>by
  simp only [labels,List.mem_append]
  exact h.imp At.label At.label
 | .block _ c,Q,ℓ,body,Q',h=>At.label (cd:=c) h
 | .loop c,Q,ℓ,body,Q',h=>by
  simp only [labels,List.mem_cons]
  exact h.imp (fun h=>h.1.symm) At.label
section
variable {Y:Type} {P:Program} {C:QP} (hT:B7 P C.T) (hΓ:Nk P C.Γ) (hm:P.follows .mixedOrders=true) {E0:Env} {w0:World} {N nb:Nat} {y:Y} {J:Nat→St→Option Y}
theorem G7 {ℓ :Nat}: ∀{cd:Code} {kn:KN Y} {kx:Nat→KN Y} {kr:KN Y},ℓ ∉labels cd→find C J ℓ cd kn kx kr=none
 | .seq a b,kn,kx,kr,h=>by
  simp only [labels,List.mem_append,not_or] at h
  simp only [find]
  rw [G7 h.1]
  exact G7 h.2
 | .cond _ a b,kn,kx,kr,h=>by
  simp only [labels,List.mem_append,not_or] at h
  simp only [find]
  rw [G7 h.1]
  exact G7 h.2
 | .block _ c,kn,kx,kr,h=>by simp only [find];exact G7 (cd:=c) h
 | .loop c,kn,kx,kr,h=>by
  simp only [labels,List.mem_cons,not_or] at h
  simp only [find]
  rw [if_neg (fun e=>h.1 e.symm)]
  exact G7 h.2
 | .skip,_,_,_,_=>rfl
 | .region _ _ _,_,_,_,_=>rfl
 | .rangeFunc _ _ _ _,_,_,_,_=>rfl
 | .exit _,_,_,_,_=>rfl
 | .scope _,_,_,_,_=>rfl
 | .label _,_,_,_,_=>rfl
 | .goto _,_,_,_,_=>rfl
 | .ret,_,_,_,_=>rfl
 | .refuse _,_,_,_,_=>rfl
include hT hΓ hm in
theorem Zr {ℓ :Nat}: ∀{cd:Code} {kn:KN Y} {kx:Nat→KN Y} {kr:KN Y} {Q:Oq} {body:Code} {Q':Oq},(labels cd).Nodup→Mr Q→Good E0 w0 N nb y kn kx kr Q→c9 P E0 w0 N nb y J cd Q→At P cd Q ℓ body Q'→
  ∃kn' kx' kr',find C J ℓ cd kn kx kr=some (fun ω σ=>run C J body (fun _ σ=>J ℓ σ) kx' kr' ω σ)∧Good E0 w0 N nb y kn' kx' kr' Q'∧Mr Q'∧c9 P E0 w0 N nb y J body (Exit.then (Fb P body Q') Q'):=by
 intro cd
 induction cd with
 |seq a b iha ihb=>
  intro kn kx kr Q body Q' hn hp hg hj G9
  simp only [labels,List.nodup_append] at hn
  obtain ⟨n1,n2,n3⟩:=hn
  have kp:c9 P E0 w0 N nb y J a (Exit.then (b.wp P Q) Q):=fun ℓ body Q' G9=>hj ℓ body Q' (.inl G9)
  have jg:c9 P E0 w0 N nb y J b Q:=fun ℓ body Q' G9=>hj ℓ body Q' (.inr G9)
  simp only [find]
  rcases G9 with G9|G9
  ·obtain ⟨kn',kx',kr',h1,h2⟩:=iha n1 (hp.then _) (kn:=fun ω σ=>run C J b kn kx kr ω σ) (kx:=kx) (kr:=kr)
    ⟨fun E σ a w h e=>VW hT hΓ hm hp hg jg h e,fun id E σ a w h e=>hg.x id E σ a w h e,hg.r⟩ kp G9
   exact ⟨kn',kx',kr',by rw [h1],h2⟩
  ·have: ℓ ∉labels a:=fun h=>n3 ℓ h ℓ G9.label rfl
   rw [G7 this]
   exact ihb n2 hp hg jg G9
 |cond c a b iha ihb=>
  intro kn kx kr Q body Q' hn hp hg hj G9
  simp only [labels,List.nodup_append] at hn
  obtain ⟨n1,n2,n3⟩:=hn
  simp only [find]
  rcases G9 with G9|G9
  ·obtain ⟨kn',kx',kr',h1,h2⟩:=iha n1 hp hg (fun ℓ body Q' G9=>hj ℓ body Q' (.inl G9)) G9
   exact ⟨kn',kx',kr',by rw [h1],h2⟩
  ·have: ℓ ∉labels a:=fun h=>n3 ℓ h ℓ G9.label rfl
   rw [G7 this]
   exact ihb n2 hp hg (fun ℓ body Q' G9=>hj ℓ body Q' (.inr G9)) G9
 |block id c ih=>
  intro kn kx kr Q body Q' hn hp hg hj G9
  simp only [find]
  refine ih hn (hp.inBlock id) ⟨hg.n,fun j E σ a w h e=> ?_,hg.r⟩ (fun ℓ body Q' G9=>hj ℓ body Q' G9) G9
  simp only [Exit.inBlock]
  split
  ·rename_i SA
   simp only [SA,if_true] at e
   exact hg.n E σ a w h e
  ·rename_i SA
   simp only [SA,if_false] at e
   exact hg.x j E σ a w h e
 |loop c ih=>
  intro kn kx kr Q body Q' hn hp hg hj G9
  simp only [labels,List.nodup_cons] at hn
  have jo:c9 P E0 w0 N nb y J c (Exit.then (Fb P c Q) Q):=fun ℓ body Q' G9=>hj ℓ body Q' (.inr G9)
  simp only [find]
  by_cases hl:first c= ℓ
  ·rw [if_pos hl]
   rcases G9 with ⟨_,rfl,rfl⟩|G9
   ·exact ⟨kn,kx,kr,rfl,hg,hp,jo⟩
   ·exact absurd (hl▸G9.label) hn.1
  ·rw [if_neg hl]
   rcases G9 with ⟨h,_⟩|G9
   ·exact absurd h hl
   ·exact ih hn.2 (hp.then _) ⟨fun E σ a w h e=>hj (first c) c Q (.inl ⟨rfl,rfl,rfl⟩) E σ a w h (e []),fun id E σ a w h e=>hg.x id E σ a w h e,hg.r⟩ jo G9
 |_=>intro kn kx kr Q body Q' hn hp hg hj G9;exact G9.elim
end
theorem Ol {E:Env} {w:World} {vw:List Bx}: ∀{l:List (Nat×XP)} {x:Cd.V l} {vals:List Value} {tm:List XV},GJ E w vw id l x vals→Ai (XR E w vw) tm vals→Ai (XR E w vw) (Cd.mk id l x tm) vals
 |[],_,_,_,_,h=>h
 |(i,p)::l,x,vals,tm,hs,h=>by
  obtain ⟨⟨v,hv,hx⟩,hs⟩:=hs
  simp only [Cd.mk]
  refine Ol hs ?_
  have:=Ai.set (i:=i) h hx
  have e:vals.set i v=vals:=by
   apply List.ext_getElem?
   intro j
   rw [List.getElem?_set]
   split
   ·rename_i e;subst e
    rw [if_pos (List.getElem?_eq_some_iff.1 hv).1,hv]
   ·rfl
  rwa [e] at this
theorem Ai.undef {E:Env} {w:World} {vw:List Bx}: ∀{vals:List Value} {n:Nat},n=vals.length→Ai (XR E w vw) (List.replicate n (.c .undef)) vals
 |[],n,h=>by subst h;trivial
 |v::vals,n,h=>by
  subst h
  simp only [List.length_cons,List.replicate_succ]
  exact ⟨trivial,Ai.undef rfl⟩
theorem TL.shared {E E1:Env} {w:World} {bx:List Bx} {m:GI} {s:Cq} {x:s.V} {vals:List Value} (h:TL E w bx m s x vals E1) (hb:A6 E w bx bx []):
  ∃E2,E2.C5=E1.C5∧E2.DB=E1.DB∧NA E w E2 w∧A6 E2 w (DX.mk id s.CU x.2) (DX.mk id s.CU x.2) []∧GJ E2 w (DX.mk id s.CU x.2) id s.Bb x.1 vals:=by
 obtain ⟨Fk,k1,k2,k3,k4⟩:=h.rest
 let E2:Env:={ E1 with S:=fun c=>E1.S c∨c∈Fk.flatten }
 have kq:=h.boxes.st
 have GM:Hj E1 w (DX.mk id s.CU x.2) E2 w (DX.mk id s.CU x.2):=
  ⟨Nat.le_refl _,fun _ _=>rfl,fun _ h=>h,fun _ h=> .inl h,kq,fun _ _=>rfl,fun b d r rows _ e=>⟨d,rows,e,fun p hp q ys hg=>⟨hp,⟨ys,hg,rfl⟩,fun _ h=>h⟩⟩⟩
 refine ⟨E2,rfl,rfl,⟨h.T,fun c hc=> .inl (h.S c hc),fun c hc=> ?_,fun c hc=> ?_,fun _ _=>rfl,rfl,rfl,rfl,Nat.le_refl _⟩,?_,?_⟩
 ·rcases k4 c hc with h|h|h
  ·exact .inl h
  ·exact .inr (.inl h)
  ·exact .inr (.inr h)
 ·rcases hc with hc|hc
  ·exact h.WM c hc
  ·exact .inr (k3 c hc).1
 ·refine h.boxes.turn (E':=E2) (w':=w) (fun _ _ hv=>CS GM hv) (fun _ h=> .inl h) (fun _ _=>rfl) (fun _ _=>rfl) (fun _ _ _=>rfl) fun F hF=>⟨hF.nodup,hF.free,hF.lt,fun c hc=>hc.elim (hF.st c) fun h=>(k3 c h).2.2.2,hF.NM⟩
 ·have: ∀{l:List (Nat×XP)} {z:Cd.V l},GJ E1 w (DX.mk id s.CU x.2) id l z vals→GJ E2 w (DX.mk id s.CU x.2) id l z vals:=by
   intro l
   induction l with
   |nil=>intro z h;trivial
   |cons q l ih=>
    obtain ⟨i,p⟩:=q
    intro z h
    obtain ⟨⟨v,hv,hx⟩,hs⟩:=h
    exact ⟨⟨v,hv,F5 GM hx⟩,ih hs⟩
  exact this h.Bb
theorem Nq: ∀{l:List BP} {i n:Nat},(H8 i n l).length=l.length
 |[],_,_=>rfl
 |_::l,i,n=>by simp [H8,Nq (l:=l)]
theorem Nj: ∀{l:List BP} {i n k b:Nat},(H8 i n l)[k]? =some (some b)→b=i+k∧b<n∧l[k]?≠some .gone
 |[],i,n,k,b,h=>by simp [H8] at h
 |p::l,i,n,0,b,h=>by
  simp only [H8,List.getElem?_cons_zero,Option.some.injEq] at h
  cases p with
  |gone=>simp at h
  |mem q=>split at h<;>simp_all<;>omega
  |sl d r=>split at h<;>simp_all<;>omega
 |p::l,i,n,k+1,b,h=>by
  simp only [H8,List.getElem?_cons_succ] at h
  obtain ⟨h1,h2,h3⟩:=Nj h
  exact ⟨by omega,h2,by simpa using h3⟩
theorem Na: ∀{l:List BP} {i n k:Nat} {p:BP},l[k]? =some p→p≠ .gone→i+k<n→(H8 i n l)[k]? =some (some (i+k))
 |q::l,i,n,0,p,h,hg,hn=>by
  simp at h;subst h
  simp only [H8,List.getElem?_cons_zero,Option.some.injEq]
  cases q with
  |gone=>exact absurd rfl hg
  |mem q=>simp at hn⊢;exact hn
  |sl d r=>simp at hn⊢;exact hn
 |q::l,i,n,k+1,p,h,hg,hn=>by
  simp only [H8,List.getElem?_cons_succ]
  rw [Na (l:=l) (i:=i+1) (k:=k) (by simpa using h) hg (by omega)]
  congr 2;omega
 |[],_,_,_,_,h,_,_=>by simp at h
theorem Qi {l:List BP} {n:Nat}:RK (H8 0 n l):=fun i j b h k=>by
 have:=(Nj h).1
 have:=(Nj k).1
 omega
end Go.Fw
end
section
namespace Go.Fw
structure eI (P:Program) (f:Nat) (fn:Func) (c:KD):Prop where
 at_:P.funcs[f]? =some fn
 call: ∀args w,(callFunc f args).run P w= .ok (.enter f args) w
 lz:c.ok=true
 tmps:c.ins.Bb.length≤fn.ntmps
 labels: ∀code,fn.body=some code→(labels code).Nodup
section
variable {P:Program} {C:QP} (hT:B7 P C.T) {E:Env} {σ:St} {a:Act} {w:World}
include hT in
theorem ZH (h:Rel E σ a w):
  ∀{rs:List ResultVar} {xs:List XV},rs.mapM (Yv C.T σ)=some xs→ ∃vs,(∀f:ResultVar→Sem Value,(∀u,f (.tmp u)=pure (a.tmps.getD u undef))→(∀b t,f (.cell b t)=(do loadVar t (←asAddr (a.tmps.getD b undef))))→
   (rs.mapM f).run P w= .ok vs w)∧Ai (XR E w σ.bx) xs vs:=by
 intro rs
 induction rs with
 |nil=>
  intro xs e
  have hx:xs=[]:=by simpa using e.symm
  subst hx
  exact ⟨[],fun f _ _=>by simp,trivial⟩
 |cons r rs ih=>
  intro xs e
  rw [List.mapM_cons] at e
  simp only [Option.bind_eq_bind,Option.bind_eq_some_iff,Option.pure_def,Option.some.injEq] at e
  obtain ⟨x,e1,ys,e2,rfl⟩:=e
  obtain ⟨vs,h1,h2⟩:=ih e2
  have one: ∃v,(∀f:ResultVar→Sem Value,(∀u,f (.tmp u)=pure (a.tmps.getD u undef))→(∀b t,f (.cell b t)=(do loadVar t (←asAddr (a.tmps.getD b undef))))→(f r).run P w= .ok v w)∧XR E w σ.bx x v:=by
   cases r with
   |tmp t=>
    simp only [Yv] at e1
    obtain ⟨v,hv,hx⟩:=h.tmp e1
    refine ⟨v,fun f hf hc=> ?_,hx⟩
    rw [hf]
    simp [Array.getD_eq_getD_getElem?,hv]
   |cell b t=>
    simp only [Yv] at e1
    split at e1
    case h_2=>cases e1
    rename_i z hz
    obtain ⟨v,hv,hx⟩:=h.tmp hz
    obtain ⟨Fs,hB,hS⟩:=h.bx
    cases z with
    |agg l=>simp [Pf] at e1
    |Hi l=>simp [Pf] at e1
    |c ad=>
     obtain ⟨bb,oo,u,cell,hp,_,q2,q3⟩:=Sb hT hB hS.st e1 hx
     refine ⟨u,fun f hf hc=> ?_,q2⟩
     have mU:a.tmps.getD b undef=v:=by simp [Array.getD_eq_getD_getElem?,hv]
     have:=q3 w rfl
     rw [hc,mU,hp]
     rw [hp] at this
     simpa [Instr.loadAt,Instr.sureAddr,asAddr] using this
  obtain ⟨v,g1,g2⟩:=one
  refine ⟨v::vs,fun f hf hc=> ?_,g2,h2⟩
  rw [List.mapM_cons]
  simp [g1 f hf hc,h1 f hf hc]
theorem NX {vw:List Bx}: ∀{l:List XV} {q:List (AV ⊕ List AV)} {vs:List Value},T9 l=some q→Ai (XR E w vw) l vs→Ai (TR E w vw) q vs
 |[],q,[],e,_=>by
  simp only [T9,Option.some.injEq] at e
  subst e;trivial
 |[],_,_::_,_,h=>h.elim
 | .c x::l,q,v::vs,e,h=>by
  simp only [T9,Option.map_eq_some_iff] at e
  obtain ⟨r,e1,rfl⟩:=e
  exact ⟨h.1,NX e1 h.2⟩
 | .agg x::l,q,v::vs,e,h=>by
  simp only [T9,Option.map_eq_some_iff] at e
  obtain ⟨r,e1,rfl⟩:=e
  exact ⟨h.1,NX e1 h.2⟩
 | .Hi _::_,_,_,e,_=>by simp [T9] at e
 | .c _::_,_,[],_,h=>h.elim
 | .agg _::_,_,[],_,h=>h.elim
include hT in
theorem SO (h:Rel E σ a w) {fn:Func} {x:XV} (e:Q0 C.T σ fn.results.toList=some x): ∃v,(results fn a.tmps).run P w= .ok v w∧XR E w σ.bx x v:=by
 unfold Q0 at e
 have key: ∀xs,fn.results.toList.mapM (Yv C.T σ)=some xs→ ∃vs:List Value,(results fn a.tmps).run P w= .ok (if h:vs.toArray.size=1 then vs.toArray[0] else .tuple vs.toArray) w∧Ai (XR E w σ.bx) xs vs:=by
  intro xs hx
  obtain ⟨vs,h1,h2⟩:=ZH (P:=P) hT h hx
  refine ⟨vs,?_,h2⟩
  unfold results
  rw [Array.mapM_eq_mapM_toList]
  simp only [Sem.run_bind,Sem.run_map]
  rw [h1 _ (fun _=>rfl) (fun _ _=>rfl)]
  simp only [Result.andThen_ok,Sem.run_pure]
 split at e
 ·rename_i z hz
  cases e
  obtain ⟨vs,h1,h2⟩:=key _ hz
  match vs,h2 with
  |[v],h2=>exact ⟨v,by simpa using h1,h2.1⟩
  |v::_::_,h2=>exact h2.2.elim
  |[],h2=>exact h2.elim
 ·rename_i l hl hz
  simp only [Option.map_eq_some_iff] at e
  obtain ⟨q,e1,rfl⟩:=e
  obtain ⟨vs,h1,h2⟩:=key _ hz
  have PZ: ¬vs.toArray.size=1:=fun hs=>by
   have:=Ai.len h2
   match l,this with
   |[z],_=>exact hl z rfl
   |[],t=>simp at t hs;omega
   |_::_::_,t=>simp at t hs;omega
  rw [dif_neg PZ] at h1
  exact ⟨_,h1,vs.toArray,rfl,by simpa using NX e1 h2⟩
 ·cases e
end
theorem NQ {E:Env} {w:World} {vw:List Bx} {more:List Value}: ∀{l:List (Nat×XP)} {x:Cd.V l} {vals:List Value},GJ E w vw id l x vals→GJ E w vw id l x (vals++more)
 |[],_,_,_=>trivial
 |(i,p)::l,x,vals,h=>by
  obtain ⟨⟨v,hv,hx⟩,hs⟩:=h
  exact ⟨⟨v,by rw [List.getElem?_append_left (List.getElem?_eq_some_iff.1 hv).1];exact hv,hx⟩,NQ hs⟩
def V9 (C:QP) (c:KD) (fn:Func) (code:Code) (J:Nat→Nat→St→Option c.outs.V):Prop:=
 ∀ ℓ,ℓ ∈labels code→ ∃(s:Cq) (F:Nat→s.V→Option c.outs.V),(∀n,J n ℓ =jump c.ins.CU.length s (F n))∧(∀v,F 0 v=none)∧
  ∀n v y,F (n+1) v=some y→ ∀ω,Pj C c fn (J n) ℓ ω (s.st fn.ntmps v)=some y
section
variable {P:Program} {C:QP} (hT:B7 P C.T) (hΓ:Nk P C.Γ) (hm:P.follows .mixedOrders=true) {fn:Func} {c:KD}
def bE (c:KD) (E0:Env) (w0:World) (u:c.outs.V) (e:Ending) (w':World):Prop:=
 ∃x E',e= .returned x∧NA E0 w0 E' w'∧A6 E' w' (DX.mk id c.outs.CU u.2) (DX.mk id c.outs.CU u.2) []∧
  GJ E' w' (DX.mk id c.outs.CU u.2) id c.outs.Bb u.1 [x]∧ ∀i,i<c.ins.CU.length→alive c.outs.CU i=true→E'.C5 i=E0.C5 i∧E'.DB i=E0.DB i
theorem Ok.opens {E0 E:Env} {w0 w:World} {N nb:Nat} {σ:St} {a:Act} (h:Ok E0 w0 N nb E σ a w) (s:Cq): ∃E',Ok E0 w0 N nb E' { σ with bx:=s.opens σ.bx } a w∧
  (∀(i:Nat) d r,s.CU[i]? =some (.sl d r)→E'.DB (σ.bx.length+i)= .slice none 0 0)∧(∀x v,XR E w σ.bx x v→XR E' w (s.opens σ.bx) x v):=by
 obtain ⟨E',h1,h2,h3,h4⟩:=Sp h.rel s
 exact ⟨E',h.next h1 h2 rfl,h3,h4⟩
theorem X0 {E E':Env} {w:World} {vw:List Bx} {b:Nat} (h:Le E E') (st: ∀c,E.S c→E.T c):Hj E w vw E' w (vw.set b .dead):=by
 refine ⟨by simp,fun b _=>by rw [h.C5],h.T,h.S,st,fun _ _=>rfl,fun c d r rows _ e=> ?_⟩
 by_cases hc:c=b
 ·subst hc
  rw [List.getElem?_set] at e
  simp only [if_true] at e
  split at e<;>cases e
 ·rw [List.getElem?_set_ne (fun e=>hc e.symm)] at e
  exact ⟨d,rows,e,fun p hp q ys hg=>⟨hp,⟨ys,hg,rfl⟩,fun h' hh=>by rw [h.DB];exact hh⟩⟩
theorem Z8 {E:Env} {σ:St} {a:Act} {w:World} (h:Rel E σ a w) (b:Nat): ∃E',Rel E' (σ.Q3 b) a w∧Le E E':=by
 unfold St.Q3
 split
 case h_2=>exact ⟨E,h,Le.refl E⟩
 rename_i d r rows hb
 obtain ⟨F,hF,hB⟩:=h.bx.take hb
 have Ja:A6 E w σ.bx (σ.bx.set b .dead) ([]++F++[]):=by simpa using hB
 obtain ⟨hle,hB3⟩:=Ja.share
 have hk:=X0 (vw:=σ.bx) (b:=b) (w:=w) hle h.bx.st
 have ZZ:Hj E w σ.bx { E with S:=fun c=>E.S c∨c∈F,T:=fun c=>E.T c∨c∈F } w ((σ.bx.set b .dead).map (Bx.Q3 b r rows)):=by
  refine ⟨by simp,hk.C5,hk.T,hk.S,hk.st,hk.heap,fun c d' r' Av hc e=> ?_⟩
  rw [List.getElem?_map,Option.map_eq_some_iff] at e
  obtain ⟨B,e,eB⟩:=e
  cases B with
  |mem cs=>cases eB
  |dead=>cases eB
  |sl d0 r0 Gw=>
   cases eB
   exact hk.box c _ _ _ hc e
 have hv: ∀x v,VR E w σ.bx x v→VR { E with S:=fun c=>E.S c∨c∈F,T:=fun c=>E.T c∨c∈F } w ((σ.bx.set b .dead).map (Bx.Q3 b r rows)) (x.Q3 b r rows) v:=fun x v hx=>by
  unfold AV.Q3
  split
  ·rename_i c
   split
   ·rename_i hc
    subst hc
    obtain ⟨h1,h2⟩:=hx
    rw [hb] at h2
    have hv:=h2.2.2
    rw [Aw] at hv
    simp only [Option.some.injEq] at hv
    have:=LL hF.2
    rw [hv] at this
    exact B6 (fun c hc=>hc) (fun _ _=>rfl) this
   ·exact CS ZZ hx
  ·exact CS ZZ hx
 refine ⟨_,⟨h.FL,?_,?_⟩,hle⟩
 ·refine Ai.EW _ (fun x v hx=> ?_) h.tm
  unfold XV.Q3
  split
  ·exact hv _ _ hx
  ·exact F5 ZZ hx
 ·obtain ⟨Fs,⟨hl,h1⟩,h2⟩:=hB
  have bt:Sep E w (F++Fs.flatten):=h2.perm (by simpa using List.perm_append_comm)
  refine ⟨Fs,⟨by simpa using hl,fun k B G Hg hG=> ?_⟩,?_⟩
  ·rw [List.getElem?_map,Option.map_eq_some_iff] at Hg
   obtain ⟨B0,e,rfl⟩:=Hg
   have h3:=h1 k B0 G e hG
   cases B0 with
   |mem cs=>
    obtain ⟨rfl,arr,ty,fr,a1,a2,a3⟩:=h3
    exact ⟨rfl,arr,ty,fr,a1,a2,Ai.EW _ (fun x v hx=>hv x v hx) a3⟩
   |sl d0 r0 Gw=>exact ⟨h3.1,Bd hle.S (fun _ _=>rfl) (fun _ _=>rfl) h3.2⟩
   |dead=>exact h3
  ·rw [List.append_nil]
   have st:=h.bx.st
   refine ⟨(List.nodup_append.1 bt.nodup).2.1,fun c hc ht=> ?_,fun c hc=>bt.lt c (by simp only [List.mem_append];exact .inr hc),fun c hc=>hc.imp (st c) id,fun c hc=>hc.elim (bt.NM c) fun h' =>bt.lt c (by simp [h'])⟩
   rcases ht with ht|ht
   ·exact bt.free c (List.mem_append.2 (.inr hc)) ht
   ·exact (List.nodup_append.1 bt.nodup).2.2 c ht c hc rfl
theorem ZK {σ:St} {b i:Nat} (h:σ.bx[i]? =some .dead):(σ.Q3 b).bx[i]? =some .dead:=by
 unfold St.Q3
 split
 ·simp only [List.getElem?_map,List.getElem?_set]
  split
  ·split
   ·rfl
   ·rename_i h2
    subst_vars
    exact absurd (List.getElem?_eq_some_iff.1 h).1 h2
  ·rw [h];rfl
 ·exact h
theorem WJ {σ:St} {b:Nat}:(σ.Q3 b).bx.length=σ.bx.length∧(σ.Q3 b).tm.length=σ.tm.length:=by
 unfold St.Q3
 split<;>simp
theorem Ok.Q3 {E0 E:Env} {w0 w:World} {N nb:Nat} {σ:St} {a:Act} (h:Ok E0 w0 N nb E σ a w) (b:Nat): ∃E',Ok E0 w0 N nb E' (σ.Q3 b) a w:=by
 obtain ⟨E',h1,h2⟩:=Z8 h.rel b
 refine ⟨E',⟨h1,h.base.trans (h2.base w),by rw [WJ.2];exact h.tm,by rw [WJ.1];exact h.Rv,fun i hi hd=> ?_⟩⟩
 rw [h2.C5,h2.DB]
 exact h.ids i hi fun e=>hd (ZK e)
theorem Ok.GO {E0:Env} {w0 w:World} {N nb:Nat} {a:Act}: ∀(l:List AP) (xs:List AV) {E:Env} {σ:St},Ok E0 w0 N nb E σ a w→ ∃E',Ok E0 w0 N nb E' (GO l xs σ) a w:=by
 intro l xs E σ h
 induction l generalizing xs E σ with
 |nil=>unfold Fw.GO;exact ⟨E,h⟩
 |cons p l ih=>
  unfold Fw.GO
  split
  ·rename_i heq
   cases heq
   obtain ⟨E',h'⟩:=h.Q3 _
   exact ih _ h'
  ·rename_i heq
   cases heq
   exact ih _ h
  ·exact ⟨E,h⟩
theorem Ok.ic {E0:Env} {w0 w:World} {N nb:Nat} {a:Act} {bs:List BP}: ∀(l:List (Nat×XP)) {E:Env} {σ:St},Ok E0 w0 N nb E σ a w→ ∃E',Ok E0 w0 N nb E' (GS bs l σ) a w:=by
 intro l
 induction l with
 |nil=>intro E σ h;exact ⟨E,h⟩
 |cons q l ih=>
  intro E σ h
  unfold GS
  split
  ·cases ‹_::_=[]›
  ·rename_i e
   cases e
   split
   ·obtain ⟨E',h'⟩:=h.GO [_] [_]
    exact ih h'
   ·exact ih h
  ·rename_i e
   cases e
   split
   ·split
    ·obtain ⟨E',h'⟩:=h.GO _ _
     exact ih h'
    ·exact ih h
   ·exact ih h
  ·rename_i e
   cases e
   exact ih h
theorem Tw {E:Env} {w:World} {vw:List Bx} {x:AV} {v:Value} (h:VR E w vw x v) (hx:x.S7=true):isSlice v=true:=by
 cases x with
 |ref b p=>exact h.1
 |NB b p o n=>exact h.1
 |sl s r y=>
  simp only [VR,Rd] at h
  obtain ⟨a,cap,h,_⟩:=h
  simp only [List.cons.injEq,and_true] at h
  rw [h];rfl
 |nil=>cases h;rfl
 |_=>cases hx
theorem VV {E:Env} {σ:St} {a:Act} {w:World} (h:Rel E σ a w) (b j:Nat):Rel E (σ.forget b j) a w∧σ.bx.length≤(σ.forget b j).bx.length∧(∀i:Nat,σ.bx[i]? =some Bx.dead→(σ.forget b j).bx[i]? =some Bx.dead)∧(σ.forget b j).tm=σ.tm:=by
 unfold St.forget
 split
 case h_2=>exact ⟨h,Nat.le_refl _,fun _ h=>h,rfl⟩
 rename_i cs hb
 split
 case h_2=>exact ⟨h,Nat.le_refl _,fun _ h=>h,rfl⟩
 rename_i x hx
 split
 case isFalse=>exact ⟨h,Nat.le_refl _,fun _ h=>h,rfl⟩
 rename_i hs
 have ZQ:=(List.getElem?_eq_some_iff.1 hb).1
 have hk:Hj E w σ.bx E w (σ.bx.set b (.mem (cs.set j (.ref σ.bx.length [])))++[.dead]):=by
  refine ⟨by simp,fun _ _=>rfl,fun _ h=>h,fun _ h=>h,h.bx.st,fun _ _=>rfl,fun c d r rows hc e=> ?_⟩
  rw [List.getElem?_append_left (by simpa using hc)] at e
  by_cases Xh:b=c
  ·subst Xh
   rw [List.getElem?_set_self hc] at e
   cases e
  ·rw [List.getElem?_set_ne Xh] at e
   exact ⟨d,rows,e,fun p hp q ys hg=>⟨hp,⟨ys,hg,rfl⟩,fun h' hh=>hh⟩⟩
 refine ⟨⟨h.FL,h.tm.imp fun _ _ hx=>F5 hk hx,?_⟩,by simp,fun i hi=> ?_,rfl⟩
 ·obtain ⟨Fs,⟨hl,h1⟩,h2⟩:=h.bx
  refine ⟨Fs++[[]],⟨by simp [hl],fun k B G hB hG=> ?_⟩,by simpa using h2⟩
  by_cases ZZ:k<σ.bx.length
  ·rw [List.getElem?_append_left (by simpa using ZZ)] at hB
   rw [List.getElem?_append_left (by omega)] at hG
   by_cases hkb:b=k
   ·subst hkb
    rw [List.getElem?_set_self ZZ] at hB
    cases hB
    obtain ⟨rfl,arr,ty,fr,a1,a2,a3⟩:=h1 b _ G hb hG
    refine ⟨rfl,arr,ty,fr,a1,a2,?_⟩
    have a4:N1 E w (σ.bx.set b (.mem (cs.set j (.ref σ.bx.length [])))++[.dead]) cs arr.toList:=a3.imp fun _ _ hv=>CS hk hv
    obtain ⟨v,hv,hvr⟩:=a3.get hx
    have MF:arr.toList.set j v=arr.toList:=by
     apply List.ext_getElem?
     intro i
     by_cases ZS:j=i
     ·subst ZS
      rw [List.getElem?_set_self (List.getElem?_eq_some_iff.1 hv).1,hv]
     ·rw [List.getElem?_set_ne ZS]
    rw [←MF]
    refine Ai.set a4 ⟨Tw hvr hs,?_⟩
    have:(σ.bx.set b (.mem (cs.set j (.ref σ.bx.length [])))++[.dead])[σ.bx.length]? =some .dead:=by
     rw [List.getElem?_append_right (by simp)]
     simp
    rw [this]
    trivial
   ·rw [List.getElem?_set_ne hkb] at hB
    have h3:=h1 k B G hB hG
    cases B with
    |mem L6=>
     obtain ⟨rfl,arr,ty,fr,a1,a2,a3⟩:=h3
     exact ⟨rfl,arr,ty,fr,a1,a2,a3.imp fun _ _ hv=>CS hk hv⟩
    |sl d0 r0 Gw=>exact h3
    |dead=>exact h3
  ·have hlen:=(List.getElem?_eq_some_iff.1 hB).1
   simp only [List.length_append,List.length_set,List.length_cons,List.length_nil] at hlen
   have lE:k=σ.bx.length:=by omega
   subst lE
   rw [List.getElem?_append_right (by simp)] at hB
   rw [List.getElem?_append_right (by omega)] at hG
   simp [hl] at hB hG
   subst hB hG
   rfl
 ·have bN:=(List.getElem?_eq_some_iff.1 hi).1
  rw [List.getElem?_append_left (by simpa using bN)]
  have km:b≠i:=fun e=>by
   subst e
   rw [hb] at hi;cases hi
  rw [List.getElem?_set_ne km]
  exact hi
theorem Ok.forget {E0 E:Env} {w0 w:World} {N nb:Nat} {σ:St} {a:Act} (h:Ok E0 w0 N nb E σ a w) (b j:Nat):Ok E0 w0 N nb E (σ.forget b j) a w:=by
 obtain ⟨h1,h2,h3,h4⟩:=VV h.rel b j
 exact ⟨h1,h.base,by rw [h4];exact h.tm,Nat.le_trans h.Rv h2,fun i hi hd=>h.ids i hi fun e=>hd (h3 i e)⟩
theorem Ok.Jl {E0 E:Env} {w0 w:World} {N nb:Nat} {a:Act} {bs:List BP} {b:Nat}: ∀(l:List AP) (j:Nat) {σ:St},Ok E0 w0 N nb E σ a w→Ok E0 w0 N nb E (Jl bs b j l σ) a w
 |[],_,_,h=>h
 |p::l,j,σ,h=>by
  simp only [Fw.Jl]
  refine Ok.Jl l (j+1) ?_
  split
  ·split
   ·exact h.forget _ _
   ·exact h
  ·exact h
theorem Ok.fR {E0 E:Env} {w0 w:World} {N nb:Nat} {a:Act} {bs:List BP}: ∀(l:List (Nat×XP)) {σ:St},Ok E0 w0 N nb E σ a w→Ok E0 w0 N nb E (MV bs l σ) a w
 |[],_,h=>h
 |(i,p)::l,σ,h=>by
  simp only [MV]
  refine Ok.fR l ?_
  split
  ·split
   ·exact h.Jl _ _
   ·exact h
  ·exact h
include hT in
theorem Sy {E0 E:Env} {w0 w:World} {N:Nat} {σ:St} {a:Act} {u:c.outs.V} (h:Ok E0 w0 N c.ins.CU.length E σ a w) (e:SE C.T c fn.results.toList σ=some u):
  a.defers=[]∧ ∃v,(results fn a.tmps).run P w= .ok v w∧bE c E0 w0 u (.returned v) w:=by
 unfold SE at e
 simp only [Option.bind_eq_some_iff,Option.map_eq_some_iff] at e
 obtain ⟨x,e1,⟨u',m⟩,e2,rfl⟩:=e
 obtain ⟨v,h1,h2⟩:=SO hT h.rel e1
 obtain ⟨E,h,Vo,h4⟩:=h.opens c.outs
 replace h2:=h4 _ _ h2
 obtain ⟨hext,E1,hf⟩:=Ox (tm:=[x]) (vals:=[v]) h.rel.bx ⟨h2,trivial⟩ Vo Nq Qi e2
 obtain ⟨E2,q1,q2,q3,q4,q5⟩:=hf.shared h.rel.bx
 refine ⟨h.rel.FL,v,h1,v,E2,rfl,h.base.trans q3,q4,q5,fun i hi Xi=> ?_⟩
 obtain ⟨p,hp,hg⟩: ∃p,c.outs.CU[i]? =some p∧p≠ .gone:=by
  unfold alive at Xi
  cases hh:c.outs.CU[i]? with
  |none=>rw [hh] at Xi;cases Xi
  |some p=>
   refine ⟨p,rfl,fun hp=> ?_⟩
   rw [hh,hp] at Xi
   cases Xi
 have fk:=hext.2 i i (by have:=Na (i:=0) (n:=c.ins.CU.length) hp hg (by omega);simpa using this)
 obtain ⟨b,B,g1,g2,g3,_⟩:=TO e2 i p hp hg
 rw [fk] at g1
 cases g1
 have SA:=hf.ids i i fk
 have X2:=h.ids i hi (fun hd=>by rw [g2] at hd;cases hd;exact g3 rfl)
 rw [q1,q2]
 exact ⟨SA.1.trans X2.1,SA.2.trans X2.2⟩
include hT hΓ hm in
theorem X5 {code:Code} (hb:fn.body=some code) (hl:(labels code).Nodup) {J:Nat→Nat→St→Option c.outs.V} (hJ:V9 C c fn code J)
  {E0:Env} {w0:World} {u:c.outs.V} {Q:Oq} (hp:Mr Q)
  (hg:Good E0 w0 fn.ntmps c.ins.CU.length u (fun _=>SE C.T c fn.results.toList) (fun _ _ _=>none) (fun _=>SE C.T c fn.results.toList) Q):
  ∀n,c9 P E0 w0 fn.ntmps c.ins.CU.length u (J n) code Q:=by
 intro n
 induction n with
 |zero=>
  intro ℓ body Q' G9 E σ a w h e
  obtain ⟨s,F,j1,j2,j3⟩:=hJ ℓ G9.label
  rw [j1] at e
  simp only [jump] at e
  split at e
  ·rw [Option.bind_eq_some_iff] at e
   obtain ⟨q,_,e⟩:=e
   rw [j2] at e
   cases e
  ·cases e
 |succ n ih=>
  intro ℓ body Q' G9 E σ a w h e
  obtain ⟨s,F,j1,j2,j3⟩:=hJ ℓ G9.label
  rw [j1] at e
  simp only [jump] at e
  split at e
  case isFalse=>cases e
  rename_i Rv
  rw [Option.bind_eq_some_iff] at e
  obtain ⟨⟨v,m⟩,e1,e2⟩:=e
  dsimp only at e2
  obtain ⟨E,h⟩:=h.ic (bs:=s.CU) s.Bb
  replace h:=h.fR (bs:=s.CU) s.Bb
  revert h e1
  generalize MV s.CU s.Bb (GS s.CU s.Bb σ)=σ
  intro e1 h
  obtain ⟨E,h,Vo,h4⟩:=h.opens s
  obtain ⟨hext,E1,hf⟩:=Ox h.rel.bx h.rel.tm Vo Nq Qi e1
  obtain ⟨E2,q1,q2,q3,q4,q5⟩:=hf.shared h.rel.bx
  have GN:fn.ntmps=a.tmps.toList.length:=by rw [←Ai.len h.rel.tm,h.tm]
  have Ef:Ok E0 w0 fn.ntmps c.ins.CU.length E2 (s.st fn.ntmps v) a w:=by
   refine ⟨⟨h.rel.FL,Ol q5 (Ai.undef GN),q4⟩,h.base.trans q3,?_,?_,fun i hi hd=> ?_⟩
   ·have:=Ai.len (Ol q5 (Ai.undef GN))
    simp only [Cq.st]
    rw [this,←GN]
   ·simp only [Cq.st]
    rw [IE]
    exact Rv
   ·simp only [Cq.st] at hd
    have ae:s.CU[i]? =some (s.CU[i]'(by omega)):=List.getElem?_eq_getElem _
    have j_:s.CU[i]'(by omega)≠ .gone:=fun VO=>by
     obtain ⟨z,z1,_⟩:=LU id (u:=v.2) ae
     apply hd
     rw [z1]
     generalize s.CU[i]'(by omega)=pp at z VO
     subst VO
     rfl
    have fk:=hext.2 i i (by have:=Na (i:=0) (n:=c.ins.CU.length) ae j_ (by omega);simpa using this)
    obtain ⟨b,B,g1,g2,g3,_⟩:=TO e1 i _ ae j_
    rw [fk] at g1
    cases g1
    have SA:=hf.ids i i fk
    have X2:=h.ids i hi (fun hd=>by rw [g2] at hd;cases hd;exact g3 rfl)
    rw [q1,q2]
    exact ⟨SA.1.trans X2.1,SA.2.trans X2.2⟩
  have V7:=j3 n v u e2
  obtain ⟨kn',kx',kr',hfind,T_,hnp,hj⟩:=Zr hT hΓ hm hl hp hg ih G9
  simp only [Pj,hb,hfind] at V7
  refine Fb.ZW (VW hT hΓ hm (hnp.then _) (kn:=fun _ σ=>J n ℓ σ) ⟨fun E σ a w h e=> ?_,fun id E σ a w h e=>T_.x id E σ a w h e,T_.r⟩ hj Ef V7)
  exact ih ℓ body Q' G9 E σ a w h (e [])
include hT hΓ hm in
theorem UA {f:Nat} (hf:eI P f fn c) {J:Nat→Nat→St→Option c.outs.V} (hJ: ∀code,fn.body=some code→V9 C c fn code J)
  (hg: ∀v u,c.g v=some u→ ∃n,∀ω,I5 C c fn (J n) ω v=some u):Ld P f c:=by
 refine ⟨hf.lz,hf.call,fun E w v args u DQ hB hS kb=> ?_⟩
 obtain ⟨n,hn⟩:=hg v u kb
 cases hb:fn.body with
 |none=>
  have:=hn []
  simp only [I5,hb] at this
  cases this
 |some code=>
  simp only [I5,hb] at hn
  refine calls_of_wp hf.at_ hb ?_
  have hp:Mr (bodyPost P fn (bE c E w u)):=fun ch a w' hq=>by
   obtain ⟨_,x,E',hx,_⟩:=hq
   cases hx
  have T_:Good E w fn.ntmps c.ins.CU.length u (fun _=>SE C.T c fn.results.toList) (fun _ _ _=>none) (fun _=>SE C.T c fn.results.toList) (bodyPost P fn (bE c E w u)):=
   ⟨fun E' σ a w' h e=>Sy hT h (e []),fun id E' σ a w' h e=>(by cases e []),fun E' σ a w' h e=>Sy hT h (e [])⟩
  have Ef:Ok E w fn.ntmps c.ins.CU.length E (c.ins.st fn.ntmps v) { tmps:=args++Array.replicate (fn.ntmps-args.size) undef,defers:=[] } w:=by
   have bA:Ai (XR E w (DX.mk id c.ins.CU v.2)) (Cd.mk id c.ins.Bb v.1 (List.replicate fn.ntmps (.c .undef))) (args++Array.replicate (fn.ntmps-args.size) undef).toList:=by
    rw [Array.toList_append]
    refine Ol (NQ hS) (Ai.undef ?_)
    have:=hf.tmps
    simp
    omega
   refine ⟨⟨rfl,bA,hB⟩,NA.refl E w,?_,by simp only [Cq.st];rw [IE];exact Nat.le_refl _,fun _ _ _=>⟨rfl,rfl⟩⟩
   simp only [Cq.st]
   rw [Ai.len bA]
   have:=hf.tmps
   simp
   omega
  exact VW hT hΓ hm hp T_ (X5 hT hΓ hm hb (hf.labels code hb) (hJ code hb) hp T_ n) Ef hn
end
end Go.Fw
end
section
namespace Go.Fw
def CJ:List Ty→Ty
 |[]=> .unit
 |c::l=> .cons c (CJ l)
def Ur (row:TypeId→Option (List Ty×Bool)) (cells:TypeId→Nat):Nat→List Field→Option (List Ty)
 |_,[]=>some []
 |o,f::fs=>
  match row f.type with
  |some (l,_)=>if f.offset=o∧cells f.type=l.length then (Ur row cells (o+l.length) fs).map (l++ ·) else none
  |none=>none
def PR:List Ty×Bool→Ty
 |(l,true)=>CJ l
 |([c],false)=>c
 |_=> .unit
def rowOf (P:Program):Nat→TypeId→Option (List Ty×Bool)
 |0,_=>none
 |n+1,t=>
  match P.underlying t with
  |some (.int k)=>some ([.int k],false)
  |some .bool=>some ([.bool],false)
  |some .string=>some ([.str],false)
  |some (.slice e)=>
   match rowOf P n e with
   |some q=>if P.cellsOf e=q.1.length∧0<q.1.length then some ([.sl (PR q)],false) else none
   |none=>none
  |some (.struct fs)=>
   match Ur (rowOf P n) P.cellsOf 0 fs.toList with
   |some l=>if P.cellsOf t=l.length then some (l,true) else none
   |none=>none
  |_=>none
def Vd:(t:Ty)→t.D→Prop
 | .int k,x=>(Lit.int k x).wf=true
 | .bool,_=>True
 | .str,x=>List.length x≤maxLen
 | .sl r,x=>List.length x≤maxLen∧ ∀y∈x,Vd r y
 | .unit,_=>True
 | .cons c r,x=>Vd c x.1∧Vd r x.2
theorem Oi {α:Type} {p:Nat→α→Prop}: ∀{n:Nat},(∀i,i<n→ ∃y,p i y)→ ∃x:List α,x.length=n∧ ∀(i:Nat) y,x[i]? =some y→p i y
 |0,_=>⟨[],rfl,fun i y h=>by simp at h⟩
 |n+1,h=>by
  obtain ⟨x,h1,h2⟩:=Oi (n:=n) (p:=p) (fun i hi=>h i (by omega))
  obtain ⟨y,hy⟩:=h n (by omega)
  refine ⟨x++[y],by simp [h1],fun i z hz=> ?_⟩
  by_cases hi:i<x.length
  ·rw [List.getElem?_append_left hi] at hz
   exact h2 i z hz
  ·rw [List.getElem?_append_right (by omega)] at hz
   have bN:=(List.getElem?_eq_some_iff.1 hz).1
   simp at bN
   have:i=n:=by omega
   subst this
   simp [h1] at hz
   subst hz
   exact hy
theorem S2 {w:World} {B:Nat→Prop}: ∀{l m:List Ty} {cs ds:List Value} {x:(CJ l).D} {y:(CJ m).D},Rd w B (CJ l) cs x→Rd w B (CJ m) ds y→Vd (CJ l) x→Vd (CJ m) y→
  ∃z:(CJ (l++m)).D,Rd w B (CJ (l++m)) (cs++ds) z∧Vd (CJ (l++m)) z
 |[],m,cs,ds,x,y,h,k,hx,hy=>by
  simp only [CJ,Rd] at h
  subst h
  exact ⟨y,k,hy⟩
 |c::l,m,cs,ds,x,y,h,k,hx,hy=>by
  simp only [CJ,Rd] at h
  obtain ⟨v,r,rfl,h1,h2⟩:=h
  obtain ⟨z,z1,z2⟩:=S2 h2 k hx.2 hy
  exact ⟨(x.1,z),by simp only [List.cons_append,CJ,Rd];exact ⟨v,r++ds,rfl,h1,z1⟩,hx.1,z2⟩
theorem WZ {P:Program} {n:Nat} {t:TypeId} {l:List Ty} (h:rowOf P n t=some (l,false)): ∃c,l=[c]:=by
 cases n with
 |zero=>simp [rowOf] at h
 |succ n=>
  simp only [rowOf] at h
  split at h
  ·cases h;exact ⟨_,rfl⟩
  ·cases h;exact ⟨_,rfl⟩
  ·cases h;exact ⟨_,rfl⟩
  ·split at h
   ·split at h
    ·cases h;exact ⟨_,rfl⟩
    ·cases h
   ·cases h
  ·split at h
   ·split at h
    ·cases h
    ·cases h
   ·cases h
  ·cases h
theorem TF {w:World} {B:Nat→Prop} {P:Program} {n:Nat} {t:TypeId} {q:List Ty×Bool} (h:rowOf P n t=some q) {cs:List Value} {x:(CJ q.1).D} (hx:Rd w B (CJ q.1) cs x) (hv:Vd (CJ q.1) x):
  (PR q).n=q.1.length∧ ∃y:(PR q).D,Rd w B (PR q) cs y∧Vd (PR q) y:=by
 obtain ⟨l,b⟩:=q
 cases b with
 |true=>
  refine ⟨?_,x,hx,hv⟩
  clear h hx hv x
  simp only [PR]
  induction l with
  |nil=>rfl
  |cons c l ih=>simp [CJ,Ty.n,ih]
 |false=>
  obtain ⟨c,rfl⟩:=WZ h
  simp only [CJ,Rd] at hx
  obtain ⟨v,r,rfl,h1,h2⟩:=hx
  subst h2
  refine ⟨?_,x.1,h1,hv.1⟩
  have:=PM h1
  simp only [PR]
  simpa using this.symm
theorem Wd (a:Addr):a.add 0=a:=by simp [Addr.add]
theorem Wu {w:World} {a:Addr} {v:Value} (h:w.cell? a=some v):a.spot=none:=by
 unfold World.cell? at h
 split at h
 ·split at h
  ·cases h
  ·rename_i hs;simpa using hs
 ·cases h
section
variable {H:Type} {enc:TypeId×Value→H} {P:Program} {w:World} {spare:Nat→Bool} {held:Bool}
theorem Om: ∀(n:Nat) {t:TypeId} {q:List Ty×Bool},rowOf P n t=some q→ ∀{fuel:Nat} {cs:List Value} {x:DataW H×List MemPlace},DataW.trod enc P w 0 spare held fuel t cs=some x→
  ∃y:(CJ q.1).D,Rd w (fun b=>b<w.heap.size) (CJ q.1) cs y∧Vd (CJ q.1) y
 |0,t,q,h,_,_,_,_=>by simp [rowOf] at h
 |n+1,t,q,h,fuel,cs,x,hx=>by
  simp only [rowOf] at h
  split at h
  ·rename_i k hu
   cases h
   obtain ⟨m,rfl,_,hw⟩:=DataW.trod_int hu hx
   exact ⟨(m,()),by simp [CJ,Rd],hw,trivial⟩
  ·rename_i hu
   cases h
   obtain ⟨b,rfl,_⟩:=DataW.trod_bool hu hx
   exact ⟨(b,()),by simp [CJ,Rd],trivial,trivial⟩
  ·rename_i hu
   cases h
   obtain ⟨s,rfl,_,hs⟩:=DataW.trod_string hu hx
   refine ⟨(s.data.toList,()),by simp [CJ,Rd],?_,trivial⟩
   show s.data.toList.length≤maxLen
   rw [Array.length_toList]
   exact hs
  ·rename_i e hu
   split at h
   case h_2=>cases h
   rename_i q' df
   split at h
   case isFalse=>cases h
   rename_i Td
   cases h
   rcases DataW.trod_slice hu hx with ⟨rfl,_⟩|⟨a,len,cap,elems,rest,m,_,rfl,_,_,hlc,hcm,NW,G9,_,_⟩
   ·refine ⟨([],()),?_,⟨by simp,by simp⟩,trivial⟩
    simp only [CJ,Rd]
    exact ⟨_,[],rfl,⟨_,_,rfl,by simp,.inl rfl⟩,rfl⟩
   ·have each: ∀i,i<len→ ∃y:(PR q').D,Vd (PR q') y∧ ∃ds,ds.length=(PR q').n∧(∀j,j<ds.length→w.cell? ((a.add (i*P.cellsOf e)).add j)=ds[j]?)∧Rd w (fun b=>b<w.heap.size) (PR q') ds y:=by
     intro i hi
     have hz:elems[i]? =some (elems[i]'(by omega)):=List.getElem?_eq_getElem _
     have h1:=G9 i hi
     rw [hz,Option.bind_eq_some_iff] at h1
     obtain ⟨ds,hds,htr⟩:=h1
     obtain ⟨z,z1,z2⟩:=Om n df htr
     obtain ⟨_,c1,c2⟩:=World.cells?_some hds
     obtain ⟨a1,y,a2,a3⟩:=TF df z1 z2
     exact ⟨y,a3,ds,by rw [c1,a1,Td.1],fun j hj=>c2 j (by omega),a2⟩
    obtain ⟨xs,x1,x2⟩:=Oi each
    refine ⟨(xs,()),?_,⟨by show xs.length≤maxLen;omega,fun y hy=> ?_⟩,trivial⟩
    ·simp only [CJ,Rd]
     refine ⟨_,[],rfl,⟨_,cap,by rw [x1],by omega,?_⟩,rfl⟩
     by_cases h0:len=0
     ·exact .inl (by omega)
     right
     obtain ⟨y0,_,ds0,d0,d1,_⟩:=each 0 (by omega)
     have bT:0<(PR q').n:=by
      rw [d0.symm]
      have hz:elems[0]? =some (elems[0]'(by omega)):=List.getElem?_eq_getElem _
      have h1:=G9 0 (by omega)
      rw [hz,Option.bind_eq_some_iff] at h1
      obtain ⟨ds,hds,htr⟩:=h1
      obtain ⟨z,z1,z2⟩:=Om n df htr
      have:=(TF df z1 z2).1
      omega
     have au:=d1 0 (by omega)
     simp only [Nat.zero_mul,Wd] at au
     have Xk:w.cell? a=some (ds0[0]'(by omega)):=by rw [au];exact List.getElem?_eq_getElem _
     have j8:=Wu Xk
     obtain ⟨b,o,s⟩:=a
     simp only at j8
     subst j8
     refine ⟨b,o,rfl,?_,fun i y hy=> ?_⟩
     ·unfold World.cell? at Xk
      split at Xk
      ·rename_i hb;exact (Array.getElem?_eq_some_iff.1 hb).1
      ·cases Xk
     ·have bN:=(List.getElem?_eq_some_iff.1 hy).1
      obtain ⟨_,ds,e0,e1,e2⟩:=x2 i y hy
      have mY:P.cellsOf e=(PR q').n:=by
       have hz:elems[i]? =some (elems[i]'(by omega)):=List.getElem?_eq_getElem _
       have h1:=G9 i (by omega)
       rw [hz,Option.bind_eq_some_iff] at h1
       obtain ⟨ds,hds,htr⟩:=h1
       obtain ⟨z,z1,z2⟩:=Om n df htr
       rw [(TF df z1 z2).1,Td.1]
      refine ⟨ds,e0,fun j v hj=> ?_,e2⟩
      have ZN:=(List.getElem?_eq_some_iff.1 hj).1
      have:=e1 j ZN
      rw [Addr.add_eq,Addr.add_eq,mY] at this
      rw [this,hj]
    ·obtain ⟨i,hi,rfl⟩:=List.getElem_of_mem hy
     exact (x2 i _ (List.getElem?_eq_getElem hi)).1
  ·rename_i fs hu
   split at h
   case h_2=>cases h
   rename_i l hl
   split at h
   case isFalse=>cases h
   rename_i V1
   cases h
   obtain ⟨xs,m,_,_,hlen,dh,G9⟩:=DataW.trod_struct hu hx
   have key: ∀(fs:List Field) (o:Nat) (l:List Ty) (i0:Nat),Ur (rowOf P n) P.cellsOf o fs=some l→cs.length=o+l.length→(∀(i:Nat) (f:Field),fs[i]? =some f→ ∃z,DataW.trod enc P w 0 spare held m f.type ((cs.drop f.offset).take (P.cellsOf f.type))=some z)→
     ∃y:(CJ l).D,Rd w (fun b=>b<w.heap.size) (CJ l) (cs.drop o) y∧Vd (CJ l) y:=by
    intro fs
    induction fs with
    |nil=>
     intro o l i0 hl hc _
     simp only [Ur,Option.some.injEq] at hl
     subst hl
     refine ⟨(),?_,trivial⟩
     simp only [CJ,Rd]
     simp at hc
     simp [hc]
    |cons f fs ih=>
     intro o l i0 hl hc G9
     simp only [Ur] at hl
     split at hl
     case h_2=>cases hl
     rename_i l1 b1 hr
     split at hl
     case isFalse=>cases hl
     rename_i j7
     simp only [Option.map_eq_some_iff] at hl
     obtain ⟨l2,YI,rfl⟩:=hl
     obtain ⟨z,hz⟩:=G9 0 f rfl
     obtain ⟨y1,a1,a2⟩:=Om n hr hz
     obtain ⟨y2,b1,b2⟩:=ih (o+l1.length) l2 0 YI (by simp at hc;omega) (fun i f hf=>G9 (i+1) f (by simpa using hf))
     obtain ⟨y,c1,c2⟩:=S2 a1 b1 a2 b2
     refine ⟨y,?_,c2⟩
     rw [j7.1,j7.2,←List.drop_drop,List.take_append_drop] at c1
     exact c1
   have:=key fs.toList 0 l 0 hl (by rw [hlen,V1];simp) (fun i f hf=>by
    have jq:fs[i]? =some f:=by simpa using hf
    have bN:i<xs.length:=by rw [dh];exact (Array.getElem?_eq_some_iff.1 jq).1
    exact ⟨xs[i],by rw [G9 i f jq];exact List.getElem?_eq_getElem bN⟩)
   simpa using this
  ·cases h
end
end Go.Fw
end
section
open Go.RowKit
namespace Go.Fw
def TX (W:World):Env:={ C5:=fun _=>0,DB:=fun _=> .nilFunc,T:=fun b=>b<W.heap.size,S:=fun b=>b<W.heap.size }
abbrev Rk:Cq:=⟨[(0,.c (.v .bool))],[]⟩
theorem Wt {P:Program} {f:Nat} {Bb:List (Nat×XP)} {g:Cq.V ⟨Bb,[]⟩→Option Rk.V} (hs:Ld P f ⟨⟨Bb,[]⟩,Rk,g⟩) {W:World} {args:Array Value} (x:Cd.V Bb) (hlen:args.size=Bb.length)
  (hx:GJ (TX W) W [] id Bb x args.toList) (hg:g (x,())=some ((true,()),())):Calls P f args W fun e W' =>e= .returned (.bool true)∧Below W.heap.size W W':=by
 obtain ⟨_,_,h⟩:=hs
 refine (h (TX W) W (x,()) args _ hlen ⟨[],⟨rfl,fun k B F h=>by simp [DX.mk] at h⟩,by simp,by simp,by simp,fun _ h=>h,fun _ h=>h⟩ hx hg).mono fun e W' hR=> ?_
 obtain ⟨v,E',rfl,base,_,⟨⟨v',hv,hxr⟩,_⟩,_⟩:=hR
 simp at hv
 subst hv
 have:v= .bool true:=by
  have h2:VR E' W' [] (.v .bool true) v:=hxr
  exact He h2
 subst this
 exact ⟨rfl,base.os,base.tape,base.output,base.size,fun k hk=>base.heap k hk⟩
theorem Z0 {W:World} {vw:List Bx} {s:Bool} {r:Ty} {v:Value} {y:List r.D} (h:Rd W (fun b=>b<W.heap.size) (.sl r) [v] y):XR (TX W) W vw (XP.mk id (.c (.sl s r)) y) v:=by
 show Rd W (if s then _ else _) (.sl r) [v] y
 cases s<;>exact h
end Go.Fw
end
section
namespace Go.Fw
def T0:List (Nat×KD)→Nat→Option KD
 |[],_=>none
 |(f,c)::l,g=>if f=g then some c else T0 l g
def Zc (P:Program):List (Nat×KD)→Prop
 |[]=>True
 |q::l=>Ld P q.1 q.2∧Zc P l
theorem Ng {P:Program}: ∀{l:List (Nat×KD)},Zc P l→Nk P (T0 l)
 |[],_=>fun f c e=>by cases e
 |(g,d)::l,h=>fun f c e=>by
  simp only [T0] at e
  split at e
  ·rename_i hg
   cases e
   subst hg
   exact h.1
  ·exact Ng h.2 f c e
theorem RV {P:Program} {f:Nat} {fn:Func} (hf:P.funcs[f]? =some fn) (hn:(fn.name== "runtime.NumGoroutine")=false) (hb:fn.body.isNone=false) (args:Array Value) (w:World):
  (callFunc f args).run P w= .ok (.enter f args) w:=by
 have h1:fn.name≠ "runtime.NumGoroutine" :=by simpa using hn
 have h2:fn.body≠none:=by
  intro h
  rw [h] at hb
  cases hb
 simp [callFunc,hf,h1,h2]
def My (fn:Func) (c:KD):Bool:=
 !(
  fn.name== "runtime.NumGoroutine")&& !fn.body.isNone&&c.ok&&decide (c.ins.Bb.length≤fn.ntmps)&&(match fn.body with
  |some code=>decide (labels code).Nodup
  |none=>true)
theorem ey {P:Program} {f:Nat} {fn:Func} {c:KD} (hf:P.funcs[f]? =some fn) (h:My fn c=true):eI P f fn c:=by
 simp only [My,Bool.and_eq_true,Bool.not_eq_true',decide_eq_true_eq] at h
 obtain ⟨⟨⟨⟨h1,h2⟩,h3⟩,h4⟩,h5⟩:=h
 refine ⟨hf,RV hf h1 h2,h3,h4,fun code hc=> ?_⟩
 rw [hc] at h5
 simpa using h5
def Ml (C:QP) (c:KD) (fn:Func) (J:Nat→Nat→St→Option c.outs.V):List Nat→Prop
 |[]=>True
 | ℓ ::l=>(∃(s:Cq) (F:Nat→s.V→Option c.outs.V),(∀n,J n ℓ =jump c.ins.CU.length s (F n))∧(∀v,F 0 v=none)∧
  ∀n v,∀ω,Pj C c fn (J n) ℓ ω (s.st fn.ntmps v)=F (n+1) v)∧Ml C c fn J l
theorem Ml.ok {C:QP} {c:KD} {fn:Func} {J:Nat→Nat→St→Option c.outs.V}: ∀{l:mu},Ml C c fn J l→ ∀ ℓ ∈l,∃(s:Cq) (F:Nat→s.V→Option c.outs.V),(∀n,J n ℓ =jump c.ins.CU.length s (F n))∧(∀v,F 0 v=none)∧
  ∀n v y,F (n+1) v=some y→ ∀ω,Pj C c fn (J n) ℓ ω (s.st fn.ntmps v)=some y
 |[],_,ℓ,h=>by cases h
 |k::l,hl,ℓ,h=>by
  rcases List.mem_cons.1 h with rfl|h
  ·obtain ⟨⟨s,F,h1,h2,h3⟩,_⟩:=hl
   exact ⟨s,F,h1,h2,fun n v y e ω=>(h3 n v ω).trans e⟩
  ·exact Ml.ok hl.2 ℓ h
def LM (fn:Func):mu:=
 match fn.body with
 |some code=>labels code
 |none=>[]
def ID:List nS→Nat→List Nat
 |[],_=>[]
 |(r,h)::l,q=>if r=q then h else ID l q
theorem Xr {P:Program} {T:Dp} {l:List (Nat×KD)} {hint:Nat→List Nat} {f:Nat} {fn:Func} {c:KD} (hT:B7 P T) (hm:P.follows .mixedOrders=true) (hf:P.funcs[f]? =some fn) (hl:Zc P l) (hc:My fn c=true)
  {J:Nat→Nat→St→Option c.outs.V} {L:mu} (hL:LM fn=L) (hJ:Ml ⟨T,T0 l,hint⟩ c fn J L) (n:Nat) (he: ∀ω v,I5 ⟨T,T0 l,hint⟩ c fn (J n) ω v=c.g v):Ld P f c:=
 UA (C:=⟨T,T0 l,hint⟩) hT (Ng hl) hm (ey hf hc) (J:=J) (fun code hb ℓ hℓ =>Ml.ok hJ ℓ (by
  rw [←hL]
  simp only [LM,hb]
  exact hℓ)) fun v u hg=>⟨n,fun ω=>(he ω v).trans hg⟩
end Go.Fw
end
section
namespace Go.M
abbrev I8:Nat:=Go.Fw.I8
def As (x:Int):Int:=IntKind.wrap .i64 x
def RM (κ:IntKind) (a b:Int):Int:=κ.wrap (BitVec.ofInt κ.bits a &&& BitVec.ofInt κ.bits b).toNat
def dH (κ:IntKind) (a b:Int):Int:=κ.wrap (BitVec.ofInt κ.bits a ^^^ BitVec.ofInt κ.bits b).toNat
theorem Qu: ∃n:Nat,2^64≤n:=⟨_,Nat.le_refl _⟩
noncomputable def Ao:Nat:=Classical.choose Qu
theorem QF:2^64≤Ao:=Classical.choose_spec Qu
end Go.M
end
section
namespace Go.Fw
structure SP (P:Program) where
 f:Nat
 c:KD
 h:Ld P f c
def SP.l {P:Program}:List (SP P)→List (Nat×KD)
 |[]=>[]
 |s::l=>(s.f,s.c)::SP.l l
theorem TU {P:Program}: ∀l:List (SP P),Zc P (SP.l l)
 |[]=>trivial
 |s::l=>⟨s.h,TU l⟩
@[reducible] def AP.Cu (R:Type):AP→Type
 | .Sj _ rs=>Kn rs→R
 | .v t=>t.D→R
 | .sl _ r=>List r.D→R
 | .SK r=>r.D→R
 | .PA _ _=>Nat×Nat→R
 |_=>R
def AP.un {R:Type}:(p:AP)→p.Cu R→p.V→R
 | .Sj _ _,f,x=>f x
 | .v _,f,x=>f x
 | .sl _ _,f,x=>f x
 | .SK _,f,x=>f x
 | .PA _ _,f,x=>f x
 | .nil,f,_=>f
 | .ref _,f,_=>f
 | .ptr _ _,f,_=>f
 | .fn _ _,f,_=>f
 | .any,f,_=>f
@[reducible] def KE.Cu (R:Type):List AP→Type
 |[]=>R
 |p::l=>p.Cu (KE.Cu R l)
def KE.un {R:Type}:(l:List AP)→KE.Cu R l→KE.V l→R
 |[],f,_=>f
 |p::l,f,x=>KE.un l (p.un f x.1) x.2
@[reducible] def KR.Cu (R:Type):List (AP ⊕ List AP)→Type
 |[]=>R
 | .inl p::l=>p.Cu (KR.Cu R l)
 | .inr q::l=>KE.Cu (KR.Cu R l) q
def KR.un {R:Type}:(l:List (AP ⊕ List AP))→KR.Cu R l→KR.V l→R
 |[],f,_=>f
 | .inl p::l,f,x=>KR.un l (p.un f x.1) x.2
 | .inr q::l,f,x=>KR.un l (KE.un q f x.1) x.2
@[reducible] def XP.Cu (R:Type):XP→Type
 | .c p=>p.Cu R
 | .agg l=>KE.Cu R l
 | .row r=>r.D→R
 | .Hi l=>KR.Cu R l
def XP.un {R:Type}:(p:XP)→p.Cu R→p.V→R
 | .c p,f,x=>p.un f x
 | .agg l,f,x=>KE.un l f x
 | .row _,f,x=>f x
 | .Hi l,f,x=>KR.un l f x
@[reducible] def BP.Cu (R:Type):BP→Type
 | .mem l=>KE.Cu R l
 | .sl _ r=>List r.D→R
 | .gone=>R
def BP.un {R:Type}:(p:BP)→p.Cu R→p.V→R
 | .mem l,f,x=>KE.un l f x
 | .sl _ _,f,x=>f x
 | .gone,f,_=>f
@[reducible] def Cd.Cu (R:Type):List (Nat×XP)→Type
 |[]=>R
 |(_,p)::l=>p.Cu (Cd.Cu R l)
def Cd.un {R:Type}:(l:List (Nat×XP))→Cd.Cu R l→Cd.V l→R
 |[],f,_=>f
 |(_,p)::l,f,x=>Cd.un l (p.un f x.1) x.2
@[reducible] def DX.Cu (R:Type):List BP→Type
 |[]=>R
 |p::l=>p.Cu (DX.Cu R l)
def DX.un {R:Type}:(l:List BP)→DX.Cu R l→DX.V l→R
 |[],f,_=>f
 |p::l,f,x=>DX.un l (p.un f x.1) x.2
@[reducible] def Cq.Cu (s:Cq) (R:Type):Type:=Cd.Cu (DX.Cu R s.CU) s.Bb
def Cq.un {R:Type} (s:Cq) (f:s.Cu R) (v:s.V):R:=DX.un s.CU (Cd.un s.Bb f v.1) v.2
structure Lp (o:Cq) where
 ℓ :Nat
 s:Cq
 F:Nat→s.Cu (Option o.V)
def Rt {o:Cq} (nb:Nat):List (Lp o)→Nat→Nat→St→Option o.V
 |[],_,_,_=>none
 |p::l,n,ℓ,σ=>if ℓ =p.ℓ then jump nb p.s (p.s.un (p.F n)) σ else Rt nb l n ℓ σ
inductive H0 (C:QP) (c:KD) (fn:Func) (J:Nat→Nat→St→Option c.outs.V):List (Lp c.outs)→Prop
 |nil:H0 C c fn J []
 |cons {ℓ :Nat} {s:Cq} {F:Nat→s.Cu (Option c.outs.V)} {l:List (Lp c.outs)} (h0: ∀v,s.un (F 0) v=none) (h1: ∀n v ω,Pj C c fn (J n) ℓ ω (s.st fn.ntmps v)=s.un (F (n+1)) v) (h:H0 C c fn J l):H0 C c fn J (⟨ℓ,s,F⟩::l)
def Lp.ls {o:Cq}:List (Lp o)→List Nat
 |[]=>[]
 |p::l=>p.ℓ ::Lp.ls l
theorem ZM {o:Cq} {nb:Nat}: ∀{l:List (Lp o)} (n:Nat) {ℓ :Nat} (p:Lp o) (pre:List (Lp o)),ℓ =p.ℓ →(Lp.ls (pre++p::l)).Nodup→Rt nb (pre++p::l) n ℓ =jump nb p.s (p.s.un (p.F n))
 |l,n,ℓ,p,[],e,_=>by
  funext σ
  simp [Rt,e]
 |l,n,ℓ,p,q::pre,e,hn=>by
  funext σ
  have hq: ℓ ≠q.ℓ :=by
   intro h
   simp only [List.cons_append,Lp.ls,List.nodup_cons] at hn
   refine hn.1 ?_
   rw [←h,e]
   clear hn h e
   induction pre with
   |nil=>simp [Lp.ls]
   |cons a m ih=>simp [Lp.ls,ih]
  have:=congrFun (ZM (nb:=nb) (l:=l) n p pre e (by simp only [List.cons_append,Lp.ls,List.nodup_cons] at hn;exact hn.2)) σ
  simp only [List.cons_append,Rt,if_neg hq]
  exact this
theorem H0.ok {C:QP} {c:KD} {fn:Func} {nb:Nat} (hb:nb=c.ins.CU.length) {L:List (Lp c.outs)} (hn:(Lp.ls L).Nodup): ∀{l pre:List (Lp c.outs)},L=pre++l→H0 C c fn (Rt nb L) l→Ml C c fn (Rt nb L) (Lp.ls l)
 |[],_,_,_=>trivial
 |⟨ℓ,s,F⟩::l,pre,e,.cons h0 h1 h=>by
  refine ⟨⟨s,fun n=>s.un (F n),fun n=> ?_,h0,fun n v ω=>h1 n v ω⟩,H0.ok hb hn (pre:=pre++[⟨ℓ,s,F⟩]) (by simp [e]) h⟩
  subst hb
  rw [e]
  exact ZM n ⟨ℓ,s,F⟩ pre rfl (by rw [←e];exact hn)
def mP {P:Program} {T:Dp} (hT:B7 P T) (hm:P.follows .mixedOrders=true) {f:Nat} {fn:Func} (hf:P.funcs[f]? =some fn) (i o:Cq) (g:i.Cu (Option o.V)) (l:List (SP P)) (h:List nS) (L:List (Lp o)) (n:Nat)
  (hL:LM fn=Lp.ls L) (hd:decide (Lp.ls L).Nodup=true) (hc:My fn ⟨i,o,i.un g⟩=true)
  (hJ:H0 ⟨T,T0 (SP.l l),ID h⟩ ⟨i,o,i.un g⟩ fn (Rt i.CU.length L) L)
  (he: ∀ω v,I5 ⟨T,T0 (SP.l l),ID h⟩ ⟨i,o,i.un g⟩ fn (Rt i.CU.length L n) ω v=i.un g v):SP P:=
 ⟨f,⟨i,o,i.un g⟩,Xr (l:=SP.l l) hT hm hf (TU l) hc (J:=Rt i.CU.length L) (L:=Lp.ls L) hL (H0.ok rfl (by simpa using hd) (pre:=[]) rfl hJ) n he⟩
def iX {P:Program} {T:Dp} (hT:B7 P T) (hm:P.follows .mixedOrders=true) {f:Nat} {fn:Func} (hf:P.funcs[f]? =some fn) (i o:Cq) (g:i.Cu (Option o.V)) (l:List (SP P)) (h:List nS) (L:List (Lp o)) (n:Nat)
  (hL:LM fn=Lp.ls L) (hd:decide (Lp.ls L).Nodup=true) (hc:My fn ⟨i,o,i.un g⟩=true)
  (hJ:H0 ⟨T,T0 (SP.l l),ID h⟩ ⟨i,o,i.un g⟩ fn (Rt i.CU.length L) L)
  (he: ∀ω v u,i.un g v=some u→I5 ⟨T,T0 (SP.l l),ID h⟩ ⟨i,o,i.un g⟩ fn (Rt i.CU.length L n) ω v=some u):SP P:=
 ⟨f,⟨i,o,i.un g⟩,UA (C:=⟨T,T0 (SP.l l),ID h⟩) hT (Ng (TU l)) hm (ey hf hc) (J:=Rt i.CU.length L) (fun code hb ℓ hℓ =>Ml.ok (H0.ok (nb:=i.CU.length) rfl (by simpa using hd) (pre:=[]) rfl hJ) ℓ (by
  rw [←hL]
  simp only [LM,hb]
  exact hℓ)) fun v u hg=>⟨n,fun ω=>he ω v u hg⟩⟩
theorem Aj {Q:List Bool→Prop} (a:Q []) (b: ∀ω,Q (false::ω)) (d: ∀ω,Q (true::ω)): ∀ω,Q ω
 |[]=>a
 |false::ω=>b ω
 |true::ω=>d ω
end Go.Fw
end
