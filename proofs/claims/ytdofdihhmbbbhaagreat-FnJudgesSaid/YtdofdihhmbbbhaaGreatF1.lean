/- The framework, part 2: a checked interpreter of the model's code over abstract states; no claim is made here. -/
import Derived.Test.YtdofdihhmbbbhaaGreatF0
import Derived.Below
import Derived.ChangeArms
import Derived.ChangeOld
import Derived.DataReads
import Derived.OrdersHeld
import Derived.Shelf.Slices.Delete
import Derived.Shelf.Spec.SlicesInsertGrow
import Derived.Tactics
set_option linter.unusedVariables false
set_option linter.unusedSimpArgs false
set_option linter.unusedSectionVars false
section
namespace Go.Fw
theorem gS{E:Env}{w:World}{vw:List Bx}:∀{l:List XV} {bs:AB1} {vs:List Value},mJ l=some bs→Bw (XR E w vw) l vs→(∀b∈bs,b<vw.length)∧vs=bs.map fun b=>Value.pointer (some ⟨E.GB b,0,none⟩)
 |[],bs,vs,e,h=>by
  simp only[mJ,AIK]at e;subst e;cases vs with
  |nil=>exact⟨by simp,rfl⟩
  |cons _ _=>exact h.elim
 |x::l,bs,vs,e,h=>by
  unfold mJ at e;split at e
  ·rename_i heq;cases heq
  ·rename_i b l' heq
   cases heq;simp only[AIX]at e;obtain⟨r,e1,rfl⟩:=e;cases vs with
   |nil=>exact h.elim
   |cons v vs=>
    obtain⟨h1,h2⟩:=h;obtain⟨k1,k2⟩:=gS e1 h2;obtain⟨h3,h4⟩:b<vw.length∧v= .pointer (some ⟨E.GB b,0,none⟩):=h1;exact⟨fun c hc=>(AKv.1 hc).elim (fun e=>e▸h3) (k1 c),by rw[h4,k2];rfl⟩
  ·cases e
theorem evs{E:Env}{σ:St}{a:Act}{w:World}(h:Rel E σ a w):∀l:List Operand,Bw (XR E w σ.bx) (l.map σ.ev) (l.map a.eval)
 |[]=>trivial
 |x::l=>⟨h.ev x,evs h l⟩
theorem qg{E:Env}{σ:St}{a:Act}{w:World}(h:Rel E σ a w):∀o:Option Operand,OR E w σ.bx (o.map σ.ev) (o.map a.eval)
 |none=>trivial
 |some x=>h.ev x
theorem mo{w:World}{S:Nat→Prop}:∀{p:List dK} {d:Nat} {r:Ty} {h:Value} {rows:List r.D} {F:AB1} {q:Ty} {ys:List q.D} {v:Value},Ow w S d (.sl r) [h] rows F→CX r rows p→
  E6 r rows p=some ⟨q,ys⟩→d≤p.length→HP w h p=some v→Rd w S (.sl q) [v] ys
 |p,0,r,h,rows,F,q,ys,v,ho,hp,hg,_,hv=>by
  simp only[Ow]at ho;obtain⟨h',k,hr⟩:=e_ ho.1 hp hg;have:=k w (fun _ _=>rfl);rw[hv]at this;cases this;exact hr
 |[],d+1,r,h,rows,F,q,ys,v,ho,hp,hg,hd,hv=>by simp at hd
 |s::p,d+1,r,h,rows,F,q,ys,v,ho,hp,hg,hd,hv=>by
  simp only[CX]at hp;obtain⟨hi,Mm,hp⟩:=hp;simp only[E6]at hg;obtain⟨a,len,cap,rfl⟩:∃a len cap,h= .slice a len cap:=by
   have:=ho;simp only[Ow]at this;obtain⟨a,cap,e,_⟩:=this;simp only[AK_,AL0]at e;exact⟨_,_,_,e⟩
  split at hg
  case h_2=>cases hg
  rename_i q' x' Xq;rw[Xq]at hp;obtain⟨b,o,arr,ty,fr,cs,G,R,rfl,hb,hu,hbd,c1,c2,c3,dZ,hback⟩:=lP ho hi;obtain⟨u,A1,A2,k1,k2,k3,k4⟩:=YP c3 Xq;simp only[HP]at hv;rw[Mm,c2 _ _ k1]at hv;exact mo k2 hp hg (by simp at hd;omega) hv
theorem o3{E:Env}{σ:St}{a:Act}{w:World}(h:Rel E σ a w){b i sz j:Nat}{p:List dK}{va v:Value}(hva:VR E w σ.bx (.HW b p i sz j) va){x:XV}(hv:XR E w σ.bx x v)(h1c:∀u∈v.cells.toList,u.oneCell' =true)
  {σ':St} (e:OZ σ (.c (.HW b p i sz j)) x=some σ'):
  ∃bb oo E',va= .pointer (some ⟨bb,oo,none⟩)∧w.there bb oo v.cells.toList.length∧Rel E' σ' a (w.setCells bb oo v.cells.toList)∧Nx [b] E σ.bx w E' σ'.bx (w.setCells bb oo v.cells.toList)∧σ'.tm.length=σ.tm.length:=by
 unfold OZ Vo at e;split at e
 ·rename_i b0 _ _ _ _ b' s p' off n heq
  cases heq;split at e
  case isFalse=>cases e
  rename_i v8;subst v8;split at e
  case h_2=>cases e
  rename_i d r rows hb;simp only[AIm,AIX]at e;obtain⟨q,⟨⟨q0,ys⟩,hg,rfl⟩,e⟩:=e;dsimp only at e;have Dj:=(AIE.1 hb).1;obtain⟨F,⟨hd1,ho⟩,hB⟩:=h.bx.take hb;obtain⟨A,W,pF,ho2⟩:=Hr (d:=min d (p'.length+1)) (by omega) ho;have Sm:=hB.perm (G':=A++W++[]) (by rw[AKb,AKb];exact pF);obtain⟨hle,hB3⟩:=Sm.share
  generalize hE1:({ E with S:=fun c=>E.S c∨c∈W,T:=fun c=>E.T c∨c∈W }:Env)=E1 at hle hB3
  have ho3:Ow w E1.S (min d (p'.length+1)) (.sl r) [E1.GQ b'] rows A:=by
   rw[hle.GQ];subst hE1;exact ho2
  have hB4:=hB3.put (b:=b') (B:= .sl (min d (p'.length+1)) r rows) (by rw[AKW Dj]) ⟨by omega,ho3⟩;rw[AOE]at hB4;have hk:PI E w σ.bx E1 w (σ.bx.set b' (.sl (min d (p'.length+1)) r rows)):=by
   refine⟨by simp,fun _ _=>by rw[hle.GB],hle.T,hle.S,h.bx.st,fun _ _=>rfl,fun c d' r' CC hc e=> ?_⟩;by_cases tB:b' =c
   ·subst tB
    rw[AKW Dj]at e;simp only[AIK,Bx.sl.injEq]at e;obtain⟨rfl,rfl,e⟩:=e;obtain rfl:=ALA e;exact⟨d,rows,hb,fun p hp q ys hg=>⟨hp,⟨ys,hg,rfl⟩,fun h' hh=>by rw[hle.GQ];exact hh⟩⟩
   ·rw[AJo tB]at e
    exact⟨d',CC,e,fun p hp q ys hg=>⟨hp,⟨ys,hg,rfl⟩,fun h' hh=>by rw[hle.GQ];exact hh⟩⟩
  have XF:VR E w σ.bx (.XT b' (s::p') off n) v:=hv;have V0:XR E1 w (σ.bx.set b' (.sl (min d (p'.length+1)) r rows)) (.c (.sl true q0 ((ys.drop off).take n))) v:=by
   simp only[VR,hb]at XF;obtain⟨_,hp,q1,ys1,a1,len,cap,g1,g2,g3,rfl⟩:=XF;rw[hg]at g1;simp only[AIK,AKo]at g1;obtain⟨rfl,g1⟩:=g1;obtain rfl:=ALA g1;have:=mo ho3 hp hg (by simp only[AJ0];omega) (by rw[hle.GQ];exact g3);exact pN this g2
  have hr:Rel E1 { σ with bx:=σ.bx.set b' (.sl (min d (p'.length+1)) r rows) } a w:=
   ⟨h.Kk,h.tm.imp fun _ _ hx=>L9 hk hx,hB4.turn (E':=E1) (w':=w) (fun _ _ hv=>EW ⟨by simp,fun _ _=>rfl,fun _ h=>h,fun _ h=>h,hB3.st,fun _ _=>rfl,fun c d' r' CC hc e=>by
    by_cases tB:b' =c
    ·subst tB
     rw[AKW Dj]at e;simp only[AIK,Bx.sl.injEq]at e;obtain⟨rfl,rfl,e⟩:=e;obtain rfl:=ALA e;exact⟨d,rows,hb,fun p hp q ys hg=>⟨hp,⟨ys,hg,rfl⟩,fun h' hh=>hh⟩⟩
    ·rw[AJo tB]at e
     exact⟨d',CC,e,fun p hp q ys hg=>⟨hp,⟨ys,hg,rfl⟩,fun h' hh=>hh⟩⟩⟩ hv) (fun _ h=>h) (fun _ _=>rfl) (fun _ _=>rfl) (fun _ _ _=>rfl) fun F hF=>hF⟩
  obtain⟨bb,oo,E',q1,q2,q3,q4,q5⟩:=ju hr (EW hk hva) V0 h1c e;refine⟨bb,oo,E',q1,q2,q3,⟨(hle.base w).trans q4.base,by simpa using q4.len,fun c hc=> ?_,fun c hc=> ?_,fun c B B' hct hB Oa hd=> ?_⟩,q5⟩
  ·have:=q4.ids c (by simpa using hc)
   exact⟨this.1.trans (by rw[hle.GB]),this.2.trans (by rw[hle.GQ])⟩
  ·refine q4.dead c ?_
   have tB:b'≠c:=fun e=>by subst e;rw[hb]at hc;cases hc
   simp only;rw[AJo tB];exact hc
  ·have tB:b'≠c:=fun e=>hct (by simp[e])
   obtain⟨f1,f2⟩:=q4.frame c B B' hct (by simp only;rw[AJo tB];exact hB) Oa hd;refine⟨f1,fun c' ZL=>f2 c' ?_⟩;cases B with
   |mem cs=>exact ZL.trans (by rw[hle.GB])
   |sl d0 r0 Na=>simp only[oJ]at ZL⊢;rw[hle.GQ];exact ZL
   |dead=>exact ZL
 ·simp only[AII]at e
  exact ju h hva hv h1c e
def gi:Op→Bool
 | .call { callee:= .value _,.. }=>true
 |_=>false
section
variable{Y:Type} {P:Program} {T:Hq} (hT:D4 P T) {o:Oper} {E:Env} {σ:St} {a:Act} {w:World} {k:K Y} {y:Y}
include hT
theorem ou(h:Rel E σ a w){t:TypeId}{oa ox:Operand}(ho:o.op= .store t oa ox){ti:TI}(N8:T.get t=some ti)
  (hc:(σ.ev ox).cells.length=ti.size∧ti.size≠0∧(σ.ev ox).cells.all AV.known=true) {σ':St} (hs:OZ σ (σ.ev oa) (σ.ev ox)=some σ') (e:k (.c .undef) σ' =some y):I5 P o E σ a w k y:=by
 obtain⟨c1,c2,c3⟩:=hc;have aO:(σ.ev ox).cells≠[]:=fun hh=>by rw[hh]at c1;exact c2 c1.symm
 obtain⟨TE,h1c⟩:=gx (h.ev ox) c3 aO;have hlen:(a.eval ox).cells.toList.length=ti.size:=by rw[←Bw.len TE];exact c1
 have hi:(P.info? t).map (·.size)=some (a.eval ox).cells.toList.length:=by rw[hlen];exact D4.size hT N8
 have hva:=h.ev oa;have fin:∀{bb oo:Nat} {E':Env},a.eval oa= .pointer (some ⟨bb,oo,none⟩)→w.there bb oo (a.eval ox).cells.toList.length→Rel E' σ' a (w.setCells bb oo (a.eval ox).cells.toList)→
   Nx (GZ (fun _=>none) σ o.op) E σ.bx w E' σ'.bx (w.setCells bb oo (a.eval ox).cells.toList)→σ'.tm.length=σ.tm.length→I5 P o E σ a w k y:=by
  intro bb oo E' e1 e2 e3 e4 e5;have hr:=ey (P:=P) e2 hi h1c;refine⟨undef,_,E',.c .undef,σ',.inr ⟨?_,rfl⟩,e3,trivial,e4,e5,e⟩;simp only[execOp,ho,e1,Sem.run_bind,hr,Result.andThen_ok,Sem.run_pure]
 generalize hxa:σ.ev oa=xa at hs hva
 cases xa with
 |agg l=>simp[OZ,Vo,Zy]at hs
 |Kv l=>simp[OZ,Vo,Zy]at hs
 |c x=>
  cases x with
  |GA b j=>
   simp only[OZ,Vo,AII,Zy]at hs;split at hs
   case h_2=>cases hs
   rename_i cs hb;simp only[AIX]at hs;obtain⟨W0,hs,rfl⟩:=hs;have AL7:b<σ.bx.length∧a.eval oa= .pointer (some ⟨E.GB b,j,none⟩):=hva;obtain⟨q1,q2,q3⟩:=qx h hb TE aO hs;exact fin AL7.2 q1 q2 (by rw[ho];simp only[GZ,hxa];exact q3) rfl
  |HW b p i sz j=>
   obtain⟨bb,oo,E',q1,q2,q3,q4,q5⟩:=o3 h hva (h.ev ox) h1c hs;exact fin q1 q2 q3 (by rw[ho];simp only[GZ,hxa];exact q4) q5
  |_=>simp[OZ,Vo,Zy]at hs
omit hT in
theorem oA(h:Rel E σ a w){x:Operand}(ho:o.op= .assign x)(e:Ww σ (σ.ev x) k=some y):I5 P o E σ a w k y:=by
 have hr:(execOp a.eval o).run P w= .ok (.value (a.eval x)) w:=by simp only[execOp,ho,Sem.run_pure]
 have hv:=h.ev x;unfold Ww at e;split at e
 ·rename_i b off n hx
  rw[hx]at hv;simp only[AIm]at e;obtain⟨⟨r,rows,bx,d⟩,e1,e⟩:=e;dsimp only at e;have W4:VR E w σ.bx (.XT b [] off n) (a.eval x):=hv;obtain⟨hd,F1,F2,k1,ho1⟩:=Yy h.bx (Di.refl _) W4 e1;obtain⟨Fs0,hB1,Sm⟩:=k1.boxes;simp only[AKb]at Sm;have nd:=(AJq.1 (AJq.1 Sm.nodup).2.1).1;obtain⟨r1,r2,r3⟩:=Px h k1 (w':=w) hd ho1 (fun c hc=> .inl (AJ6.2 (.inl hc))) nd (fun c hc=>Sm.lt c (by simp[hc])) (fun _ _ _=>rfl) ⟨rfl,rfl,rfl,ALE _⟩;exact⟨_,_,_,_,_,.inl hr,r1,r3,r2.any,rfl,e⟩
 ·exact I5.same h hr hv e
theorem rR{Γ:Nat→Option Qz}(h:Rel E σ a w)(e:S5 T Γ o σ k=some y)(j8:gi o.op=false):I5 P o E σ a w k y:=by
 have same:∀{v:Value} {x:XV},(execOp a.eval o).run P w= .ok (.value v) w→XR E w σ.bx x v→k x σ=some y→I5 P o E σ a w k y:=fun h1 h2 h3=>I5.same h h1 h2 h3
 obtain⟨Fs,hB,hS⟩:=h.bx;have st:=hS.st;unfold S5 at e;split at e
 ·rename_i x ho
  exact same (v:=a.eval x) (by simp only[execOp,ho,Sem.run_pure]) (h.ev x) e
 ·rename_i x ho
  exact oA h ho e
 ·rename_i c xa xb ho
  split at e
  case h_2=>cases e
  rename_i p hp;have hc:=h.ev c;rw[hp]at hc;have ZL:=OW (E:=E) (w:=w) (vw:=σ.bx) hc;refine same (v:=if p then a.eval xa else a.eval xb) (x:=if p then σ.ev xa else σ.ev xb) (by simp[execOp,ho,ZL,asBool]) (by cases p<;>simp[h.ev]) ?_
  cases p<;>simpa[uI]using e
 ·rename_i t ho
  split at e
  case h_2=>cases e
  rename_i r hr;exact pI hT h ho hr e
 ·rename_i t x ho
  split at e
  case h_2=>cases e
  rename_i ti N8;split at e
  case isFalse=>cases e
  rename_i hc;exact uP h ho hc.2.2 (fun hh=>by rw[hh]at hc;exact hc.2.1 hc.1.symm) e
 ·rename_i t ps ho
  split at e
  case h_2=>cases e
  rename_i s b fs rw r N8 hr;split at e
  case h_2=>cases e
  rename_i cs tA;exact pL hT h ho N8 hr tA e
 ·rename_i t n ps ho
  exact eD hT h ho e
 ·rename_i t x ho
  split at e
  case h_2=>cases e
  rename_i z hz;obtain⟨u,h1,h2⟩:=mu hT hB st hz (h.ev x);exact same (by simp only[execOp,ho,Sem.run_bind,h1,Result.andThen_ok,Sem.run_pure]) h2 e
 ·rename_i t xa xx ho
  split at e
  case h_2=>cases e
  rename_i ti N8;split at e
  case isFalse=>cases e
  rename_i hc;split at e
  case h_2=>cases e
  rename_i σ' hs;exact ou hT h ho N8 hc hs e
 ·rename_i x ho
  have hx:=h.ev x;split at e
  ·rename_i b j hp
   rw[hp]at hx;have oI:b<σ.bx.length∧a.eval x= .pointer (some ⟨E.GB b,j,none⟩):=hx;exact same (v:=a.eval x) (by simp only[execOp,ho,oI.2,Sem.run_pure]) hx e
  ·rename_i b p i sz j hp
   rw[hp]at hx;have uW:XM (a.eval x)=true:=hx.1;refine same (v:=a.eval x) ?_ hx e
   unfold XM at uW;split at uW
   ·rename_i hv
    simp only[execOp,ho,hv,Sem.run_pure]
   ·cases uW
  ·rename_i s r z j hp
   rw[hp]at hx;obtain⟨bb,oo,cs,hv,hrest⟩:=hx;exact same (v:=a.eval x) (x:= .c (.K4 s r z j)) (by simp only[execOp,ho,hv,Sem.run_pure]) ⟨bb,oo,cs,hv,hrest⟩ e
  ·rename_i f Hg hp
   rw[hp]at hx;have oI:(∀b∈Hg,b<σ.bx.length)∧a.eval x= .func (.func f) #[] (Hg.map fun b=>Value.pointer (some ⟨E.GB b,0,none⟩)).toArray:=hx;exact same (v:=a.eval x) (by simp only[execOp,ho,oI.2,Sem.run_pure]) hx e
  ·cases e
 ·rename_i op t x z s ho
  obtain⟨r,val,h1,h2,h3⟩:=ZW hT e (h.ev x) (h.ev z) x z;exact same (v:=val) (x:= .c r) (by
   simp only[execOp,ho,Sem.run_bind];simp only[Sem.run_bind]at h2;rw[h2];rfl) h3 h1
 ·rename_i op t x ho
  obtain⟨r,val,h1,h2,h3⟩:=bd (P:=P) e (h.ev x);exact same (v:=val) (x:= .c r) (by simp only[execOp,ho,Sem.run_bind,h2,Result.andThen_ok,Sem.run_pure]) h3 h1
 ·rename_i s d x ho
  exact sQ hT h ho e
 ·rename_i f first Hg ho
  split at e
  case isFalse=>cases e
  rename_i hf;split at e
  case h_2=>cases e
  rename_i bs hbs;obtain⟨q1,q2⟩:=gS hbs (evs h Hg.toList);have AGH:first.map a.eval= #[]:=by
   have:first= #[]:=Array.eq_empty_of_size_eq_zero hf;rw[this];simp
  have AJ_:Hg.map a.eval=(bs.map fun b=>Value.pointer (some ⟨E.GB b,0,none⟩)).toArray:=by
   apply Array.ext';simpa using q2
  refine same (v:= .func (.func f) #[] (bs.map fun b=>Value.pointer (some ⟨E.GB b,0,none⟩)).toArray) ?_ (x:= .c (.fn f bs)) ⟨q1,rfl⟩ e
  simp only[execOp,ho,Instr.makeFunc,AGH,AJ_,Sem.run_bind,Sem.run_pure,Result.andThen_ok]
 ·rename_i t l c ho
  exact r9 hT h ho e
 ·rename_i t x lo hi ho
  obtain⟨z,val,h1,h2,h3⟩:=bT hT hB st e (h.ev x) (qg h lo) (qg h hi);exact same (v:=val) (by simp only[execOp,ho,Option.map_none,Sem.run_bind,h2,Result.andThen_ok,Sem.run_pure]) h3 h1
 ·rename_i t x f ho
  split at e
  case h_2=>cases e
  rename_i z hz;obtain⟨u,h1,h2⟩:=aU hT hz (h.ev x);exact same (by simp only[execOp,ho,Sem.run_bind,h1,Result.andThen_ok,Sem.run_pure]) h2 e
 ·rename_i t x f ho
  split at e
  case h_2=>cases e
  rename_i z hz;obtain⟨u,h1,h2⟩:=dW hT hz (h.ev x);exact same (by simp only[execOp,ho,Sem.run_bind,h1,Result.andThen_ok,Sem.run_pure]) h2 e
 ·rename_i t x i ho
  obtain⟨z,val,h1,h2,h3⟩:=aT hT hB st e (h.ev x) (h.ev i);exact same (v:=val) (by simp only[execOp,ho,Sem.run_bind,h2,Result.andThen_ok,Sem.run_pure]) h3 h1
 ·rename_i t x i ho
  obtain⟨z,val,h1,h2,h3⟩:=XK hT e (h.ev x) (h.ev i);exact same (v:=val) (by simp only[execOp,ho,Sem.run_bind,h2,Result.andThen_ok,Sem.run_pure]) h3 h1
 ·rename_i x i ho
  split at e
  case h_2=>cases e
  rename_i z hz;obtain⟨u,h1,h2⟩:=X1 (P:=P) hz (h.ev x);exact same (by simp only[execOp,ho,Sem.run_bind,h1,Result.andThen_ok,Sem.run_pure]) h2 e
 ·rename_i f args jn ho
  rw[ho]at j8;cases j8
 ·rename_i args jn ho
  split at e
  ·rename_i s t Gp hts
   obtain⟨x,rfl,hx⟩:=TK Gp;have hv:=h.ev x;rw[hx]at hv;have W4:=Tp (E:=E) (w:=w) (vw:=σ.bx) hv;split at e
   case isFalse=>cases e
   rename_i hs;have hu:=Tm hT hs;refine same (v:= .int .i64 (s.length:Int)) (x:= .c (.v (.int .i64) (s.length:Int))) ?_ (VR.int (E:=E) (vw:=σ.bx) _ _) e
   have Mm:(⟨s.toArray⟩:ByteArray).size=s.length:=by simp[ByteArray.size]
   simp[execOp,ho,resolve,invoke,builtin,Builtin.len_,hts,W4,A4 hu,goInt,Mm]
  ·rename_i z t _ Gp hts
   obtain⟨x,rfl,hx⟩:=TK Gp;have hv:=h.ev x;rw[hx]at hv;split at e
   case isFalse=>cases e
   rename_i hs;split at e
   case h_2=>cases e
   rename_i n hn;obtain⟨el,hu⟩:=bn hT hs;obtain⟨ad,cap,W4⟩:=dH hB st hn hv;refine same (v:= .int .i64 (n:Int)) (x:= .c (.v (.int .i64) (n:Int))) ?_ (VR.int (E:=E) (vw:=σ.bx) _ _) e
   simp[execOp,ho,resolve,invoke,builtin,Builtin.len_,hts,W4,A4 hu,goInt]
  ·cases e
 ·rename_i args jn ho
  split at e
  case h_2=>cases e
  rename_i x1 x2 Gp;exact oB hT h ho rfl Gp e
 ·rename_i args jn ho
  split at e
  case h_2=>cases e
  rename_i x Gp;exact pe hT h ho rfl Gp e (fun b p off n hx=>by rw[ho];simp only[GZ];rw[Gp,hx])
 ·rename_i args jn ho
  split at e
  case h_2=>cases e
  rename_i x1 x2 Gp;obtain⟨o1,o2,rfl,hx1,hx2⟩:=TW Gp;have XF:=h.ev o1;have V0:=h.ev o2;rw[hx1]at XF;rw[hx2]at V0;obtain⟨r,val,h1,h2,h3⟩:=P6 (P:=P) (big:=true) e XF V0 jn #[] o.type;simp only[AMF]at h2;exact same (v:=val) (x:= .c r) (by simp[execOp,ho,resolve,invoke,builtin,h2]) h3 h1
 ·rename_i args jn ho
  split at e
  case h_2=>cases e
  rename_i x1 x2 Gp;obtain⟨o1,o2,rfl,hx1,hx2⟩:=TW Gp;have XF:=h.ev o1;have V0:=h.ev o2;rw[hx1]at XF;rw[hx2]at V0;obtain⟨r,val,h1,h2,h3⟩:=P6 (P:=P) (big:=false) e XF V0 jn #[] o.type;simp only[AJp,ALG]at h2;exact same (v:=val) (x:= .c r) (by simp[execOp,ho,resolve,invoke,builtin,h2]) h3 h1
 ·cases e
end
end Go.Fw
end
section
namespace Go.Fw
def alive(l:List BP)(i:Nat):Bool:=
 match l[i]? with
 |some .gone=>false
 |some _=>true
 |none=>false
def AP.Kb(l:List BP):AP→Bool
 | .sl s _=>s
 | .jX _=>false
 | .cS _ _=>false
 | .kJ _ _=>false
 | .ref i=>decide (i<l.length)
 | .ptr i _=>alive l i
 | .fn _ Hg=>Hg.all (alive l)
 |_=>true
def XP.Kb(l:List BP):XP→Bool
 | .c p=>p.Kb l
 | .agg q=>q.all (AP.Kb l)
 | .Kv q=>q.all fun| .inl p=>p.Kb l| .inr q=>q.all (AP.Kb l)
 | .row _=>false
def BP.Kb(l:List BP):BP→Bool
 | .mem q=>q.all (AP.Kb l)
 |_=>true
def kinds:List BP→List BP→Bool
 |[],_=>true
 | .mem _::l,.mem _::m=>kinds l m
 | .sl _ r::l,.sl _ q::m=>decide (r=q)&&kinds l m
 | .mem _::l,.gone::m=>kinds l m
 | .sl _ _::l,.gone::m=>kinds l m
 |_,_=>false
def ia(l:List BP):List (Nat×XP)→Bool
 |[(0,p)]=>p.Kb l
 |_=>false
def Qz.ok(c:Qz):Bool:=
 kinds c.ins.E5 c.outs.E5&&ia c.outs.E5 c.outs.C5&&c.outs.E5.all (BP.Kb c.outs.E5)
theorem Ti:∀{l m:List BP},kinds l m=true→l.length≤m.length∧ ∀(i:Nat) p,l[i]? =some p→p≠ .gone∧ ∀d r,m[i]? =some (.sl d r)→ ∃d',p= .sl d' r
 |[],m,_=>⟨by simp,fun i p h=>by simp at h⟩
 | .gone::l,[],h=>by simp[kinds]at h
 | .gone::l,_::_,h=>by simp[kinds]at h
 | .mem _::l,[],h=>by simp[kinds]at h
 | .sl _ _::l,[],h=>by simp[kinds]at h
 | .mem q::l,.mem _::m,h=>by
  obtain⟨h1,h2⟩:=Ti (l:=l) (m:=m) (by simpa[kinds]using h);refine⟨by simpa using h1,fun i p hp=> ?_⟩;cases i with
  |zero=>simp at hp;subst hp;exact⟨by simp,fun d r hh=>by simp at hh⟩
  |succ i=>simpa using h2 i p (by simpa using hp)
 | .mem q::l,.gone::m,h=>by
  obtain⟨h1,h2⟩:=Ti (l:=l) (m:=m) (by simpa[kinds]using h);refine⟨by simpa using h1,fun i p hp=> ?_⟩;cases i with
  |zero=>simp at hp;subst hp;exact⟨by simp,fun d r hh=>by simp at hh⟩
  |succ i=>simpa using h2 i p (by simpa using hp)
 | .mem q::l,.sl _ _::m,h=>by simp[kinds]at h
 | .sl d0 r0::l,.sl _ q::m,h=>by
  simp only[kinds,AIo,AJJ]at h;obtain⟨h1,h2⟩:=Ti (l:=l) (m:=m) h.2;refine⟨by simpa using h1,fun i p hp=> ?_⟩;cases i with
  |zero=>simp at hp;subst hp;exact⟨by simp,fun d r hh=>by simp at hh;exact⟨d0,by rw[h.1,hh.2]⟩⟩
  |succ i=>simpa using h2 i p (by simpa using hp)
 | .sl d0 r0::l,.gone::m,h=>by
  obtain⟨h1,h2⟩:=Ti (l:=l) (m:=m) (by simpa[kinds]using h);refine⟨by simpa using h1,fun i p hp=> ?_⟩;cases i with
  |zero=>simp at hp;subst hp;exact⟨by simp,fun d r hh=>by simp at hh⟩
  |succ i=>simpa using h2 i p (by simpa using hp)
 | .sl _ _::l,.mem _::m,h=>by simp[kinds]at h
def Wq(P:Program)(f:Nat)(c:Qz):Prop:=
 c.ok=true∧(∀args w,(callFunc f args).run P w= .ok (.enter f args) w)∧
 ∀(E:Env) (w:World) (v:c.ins.V) (args:Array Value) (u:c.outs.V),args.size=c.ins.C5.length→
  CR E w (G_.mk id c.ins.E5 v.2) (G_.mk id c.ins.E5 v.2) []→MU E w (G_.mk id c.ins.E5 v.2) id c.ins.C5 v.1 args.toList→c.g v=some u→
  Calls P f args w fun e w' => ∃x E',e= .returned x∧Yg E w E' w'∧CR E' w' (G_.mk id c.outs.E5 u.2) (G_.mk id c.outs.E5 u.2) []∧
   MU E' w' (G_.mk id c.outs.E5 u.2) id c.outs.C5 u.1 [x]∧ ∀i,i<c.ins.E5.length→alive c.outs.E5 i=true→E'.GB i=E.GB i∧E'.GQ i=E.GQ i
theorem aR:∀x:AV,De [] x=x
 | .ref b (s::p)=>by simp[De]
 | .ref b []=>rfl
 | .XT b (s::p) i n=>by simp[De]
 | .XT b [] i n=>rfl
 | .HW b (s::p) i sz j=>by simp[De]
 | .HW b [] i sz j=>rfl
 | .v _ _=>rfl
 | .sl _ _ _=>rfl
 | .nil=>rfl
 | .GA _ _=>rfl
 | .K4 _ _ _ _=>rfl
 | .fn _ _=>rfl
 | .kJ _ _=>rfl
 | .oX=>rfl
 | .undef=>rfl
theorem VL:De []=id:=funext aR
theorem ky:∀x:XV,Qw [] x=x
 | .c x=>by simp[Qw,aR]
 | .agg l=>by simp[Qw,VL]
 | .Kv l=>by
  simp only[Qw,VL];congr 1
  conv=>rhs;rw[←List.map_id l]
  apply ANx;intro x _;cases x with
  |inl x=>simp
  |inr q=>simp
theorem jv(m:MW)(σ:St):(σ.Sx m).tm=σ.tm.map (Qw m):=by
 cases m with
 |nil=>
  simp only[St.Sx];have:Qw []=id:=funext ky;rw[this,List.map_id]
 |cons _ _=>rfl
theorem sd(m:MW)(σ:St):(σ.Sx m).bx=σ.bx.map (Bx.map (De m)):=by
 cases m with
 |nil=>simp only[St.Sx];rw[VL,Vc]
 |cons _ _=>
  simp only[St.Sx];apply ANx;intro B _;cases B<;>rfl
theorem YI(f:AV→AV):∀(m:MW) (bx:List Bx),CF (bx.map (Bx.map f)) m=(CF bx m).map (Bx.map f)
 |[],_=>rfl
 |none::m,bx=>by simp only[CF];exact YI f m bx
 |some b::m,bx=>by
  simp only[CF];rw[←YI f m (bx.set b .dead),List.map_set];rfl
theorem Nn:∀{m:MW} {bx:List Bx} {b:Nat},some b∉m→(CF bx m)[b]? =bx[b]?
 |[],_,_,_=>rfl
 |none::m,bx,b,h=>by simp only[CF];exact Nn (by simpa using h)
 |some c::m,bx,b,h=>by
  simp only[CF];rw[Nn (by simp at h;exact h.2),AJo (by simp at h;omega)]
theorem rf{E E':Env}{w w':World}{vw vw':List Bx}{m:MW}(k:PI E w vw E' w' (CF vw' m))
  (hb:∀b d' r CC,some b∈m→vw'[b]? =some (.sl d' r CC)→ ∃d rows,vw[b]? =some (.sl d r rows)∧List.length CC=List.length rows∧E'.GQ b=E.GQ b) (hlen:vw.length≤vw'.length) {x:AV} {v:Value} (h:VR E w vw x v):VR E' w' vw' (De m x) v:=by
 have h1:=EW k h;have V4:∀{b'},some b'∉m→(CF vw' m)[b']? =vw'[b']?:=fun e=>Nn e
 have get:∀{b'},b'<vw.length→ ∃B,vw'[b']? =some B:=fun hl=>⟨_,AIH (by omega)⟩
 cases x with
 |v t x=>exact h1
 |sl s r x=>exact h1
 |nil=>exact h1
 |GA c j=>exact⟨by simpa[Fo]using h1.1,h1.2⟩
 |K4 s r x j=>exact h1
 |fn f Hg=>exact⟨fun c hc=>by simpa[Fo]using h1.1 c hc,h1.2⟩
 |kJ f rows=>exact h1
 |oX=>exact h1
 |undef=>trivial
 |ref c p=>
  have other:some c∉m→VR E' w' vw' (.ref c p) v:=fun e=>by
   simp only[VR,V4 e]at h1⊢;exact h1
  cases p with
  |nil=>
   simp only[De];by_cases e:some c∈m
   ·simp only[VR]at h⊢
    obtain⟨h0,h⟩:=h;refine⟨h0,?_⟩;cases hc:vw[c]? with
    |none=>rw[hc]at h;exact h.elim
    |some B=>
     obtain⟨B',Oa⟩:=get (AIE.1 hc).1;rw[Oa];cases B' with
     |mem cs=>trivial
     |dead=>trivial
     |sl d' r CC=>
      obtain⟨d,rows,e1,e2,e3⟩:=hb c d' r CC e Oa;rw[e1]at h;refine⟨by simp[CX],⟨_,rfl⟩,?_⟩;have:=h.2.2;rw[CE]at this⊢;rw[e3];exact this
   ·exact other e
  |cons s p=>
   simp only[De];split
   ·trivial
   ·rename_i e
    exact other (by simpa using e)
 |XT c p off n=>
  have other:some c∉m→VR E' w' vw' (.XT c p off n) v:=fun e=>by
   simp only[VR,V4 e]at h1⊢;exact h1
  cases p with
  |nil=>
   simp only[De];by_cases e:some c∈m
   ·simp only[VR]at h⊢
    obtain⟨h0,h⟩:=h;refine⟨h0,?_⟩;cases hc:vw[c]? with
    |none=>rw[hc]at h;exact h.elim
    |some B=>
     obtain⟨B',Oa⟩:=get (AIE.1 hc).1;rw[Oa];cases B' with
     |mem cs=>trivial
     |dead=>trivial
     |sl d' r CC=>
      obtain⟨d,rows,e1,e2,e3⟩:=hb c d' r CC e Oa;rw[e1]at h;obtain⟨_,q,ys,a,len,cap,g1,g2,g3,g4⟩:=h;simp only[E6,AIK,AKo]at g1;obtain⟨rfl,g1⟩:=g1;obtain rfl:=ALA g1;rw[CE]at g3;exact⟨by simp[CX],r,CC,a,len,cap,rfl,by rw[e2];exact g2,by rw[CE,e3];exact g3,g4⟩
   ·exact other e
  |cons s p=>
   simp only[De];split
   ·trivial
   ·rename_i e
    exact other (by simpa using e)
 |HW c p i sz j=>
  have other:some c∉m→VR E' w' vw' (.HW c p i sz j) v:=fun e=>by
   simp only[VR,V4 e]at h1⊢;exact h1
  cases p with
  |nil=>
   simp only[De];by_cases e:some c∈m
   ·simp only[VR]at h⊢
    obtain⟨h0,h⟩:=h;refine⟨h0,?_⟩;cases hc:vw[c]? with
    |none=>rw[hc]at h;exact h.elim
    |some B=>
     obtain⟨B',Oa⟩:=get (AIE.1 hc).1;rw[Oa];cases B' with
     |mem cs=>trivial
     |dead=>trivial
     |sl d' r CC=>
      obtain⟨d,rows,e1,e2,e3⟩:=hb c d' r CC e Oa;rw[e1]at h;obtain⟨_,q,ys,bb,o,len,cap,g1,g2,g3,g4⟩:=h;simp only[E6,AIK,AKo]at g1;obtain⟨rfl,g1⟩:=g1;obtain rfl:=ALA g1;rw[CE]at g3;exact⟨by simp[CX],r,CC,bb,o,len,cap,rfl,by rw[e2];exact g2,by rw[CE,e3];exact g3,g4⟩
   ·exact other e
  |cons s p=>
   simp only[De];split
   ·trivial
   ·rename_i e
    exact other (by simpa using e)
theorem sU{E E':Env}{w w':World}{vw vw':List Bx}{m:MW}(k:∀x v,VR E w vw x v→VR E' w' vw' (De m x) v){x:XV}{v:Value}(h:XR E w vw x v):XR E' w' vw' (Qw m x) v:=by
 cases x with
 |c x=>exact k x v h
 |agg l=>
  obtain⟨vs,rfl,TE⟩:=h;exact⟨vs,rfl,Bw.I7 _ k TE⟩
 |Kv l=>
  obtain⟨vs,rfl,TE⟩:=h;refine⟨vs,rfl,Bw.I7 _ (fun x v hx=> ?_) TE⟩;cases x with
  |inl x=>exact k x v hx
  |inr q=>
   obtain⟨us,rfl,hus⟩:=hx;exact⟨us,rfl,Bw.I7 _ k hus⟩
def Iq(Hd:Nat→Nat):Nat→List Bx→List Bx→List Bx
 |_,[],bx=>bx
 |i,B::l,bx=>Iq Hd (i+1) l (if Hd i<bx.length then bx.set (Hd i) B else bx++[B])
theorem da(Hd:Nat→Nat):∀(i:Nat) (l:List BP) (x:G_.V l) (bx:List Bx),VS Hd i l x bx=Iq Hd i (G_.mk Hd l x) bx
 |_,[],_,_=>rfl
 |i,p::l,x,bx=>by simp only[VS,G_.mk,Iq];exact da Hd (i+1) l x.2 _
structure mr (Hd:Nat→Nat) (M N:Nat):Prop where
 lt:∀k,k<M→Hd k<N
 eq:∀k,M≤k→Hd k=N+(k-M)
 inj:∀k k',k<M→k'<M→Hd k=Hd k'→k=k'
theorem mr.AKH{Hd:Nat→Nat}{M N:Nat}(h:mr Hd M N){k k':Nat}(e:Hd k=Hd k'):k=k':=by
 by_cases h1:k<M
 ·by_cases h2:k'<M
  ·exact h.inj k k' h1 h2 e
  ·have:=h.lt k h1
   have:=h.eq k' (by omega);omega
 ·by_cases h2:k'<M
  ·have:=h.lt k' h2
   have:=h.eq k (by omega);omega
  ·have:=h.eq k (by omega)
   have:=h.eq k' (by omega);omega
theorem ZM{Hd:Nat→Nat}{M N:Nat}(h:mr Hd M N):∀{l:List Bx} {i:Nat} {bx:List Bx},bx.length=N+(i-M)→
  (Iq Hd i l bx).length=N+(i+l.length-M)∧(∀(j:Nat) B,l[j]? =some B→(Iq Hd i l bx)[Hd (i+j)]? =some B)∧
   ∀n,n<bx.length→(∀j,j<l.length→Hd (i+j)≠n)→(Iq Hd i l bx)[n]? =bx[n]?
 |[],i,bx,hl=>⟨by simpa[Iq]using hl,fun j B hj=>by simp at hj,fun _ _ _=>rfl⟩
 |B::l,i,bx,hl=>by
  simp only[Iq];have VV:(if Hd i<bx.length then bx.set (Hd i) B else bx++[B]).length=N+(i+1-M):=by
   split
   ·rename_i Dj
    by_cases hi:i<M
    ·simp;omega
    ·have:=h.eq i (by omega);omega
   ·rename_i Dj
    by_cases hi:i<M
    ·have:=h.lt i hi;omega
    ·simp;omega
  have Un:(if Hd i<bx.length then bx.set (Hd i) B else bx++[B])[Hd i]? =some B:=by
   split
   ·rename_i Dj;rw[AKW Dj]
   ·rename_i Dj
    by_cases hi:i<M
    ·have:=h.lt i hi;omega
    ·have:=h.eq i (by omega)
     rw[AKi (by omega),show Hd i-bx.length=0 by omega];rfl
  obtain⟨q1,q2,q3⟩:=ZM h (l:=l) VV;refine⟨by rw[q1];simp;omega,fun j C hj=> ?_,fun n hn aO=> ?_⟩
  ·cases j with
   |zero=>
    simp at hj;subst hj;exact(q3 (Hd i) (AIE.1 Un).1 (fun j hj e=>by have:=h.AKH e;omega)).trans Un
   |succ j=>
    have:=q2 j C (by simpa using hj)
    rwa [show i+1+j=i+(j+1)by omega]at this
  ·have AIe:=aO 0 (by simp)
   rw[ANB]at AIe;rw[q3 n (by split<;>simp<;>omega) (fun j hj=>by have:=aO (j+1) (by simp;omega);rwa [show i+(j+1)=i+1+j by omega]at this)];split
   ·rw[AJo AIe]
   ·rw[AJI hn]
theorem X5{Hd:Nat→Nat}{M N:Nat}(h:mr Hd M N){E:Env}{w:World}{vw:List Bx}:∀{l:List Bx} {i:Nat} {bx:List Bx} {Fs:List AB1},bx.length=N+(i-M)→(∀k,i≤k→k<M→bx[Hd k]? =some .dead)→
  Fs.length=l.length→(∀(j:Nat) B F,l[j]? =some B→Fs[j]? =some F→gC E w vw (Hd (i+j)) B F)→CR E w vw bx Fs.flatten→CR E w vw (Iq Hd i l bx) []
 |[],i,bx,Fs,hl,hd,hF,hB,bE=>by
  have:Fs=[]:=AK2 hF;subst this;simpa[Iq]using bE
 |B::l,i,bx,F::Fs,hl,hd,hF,hB,bE=>by
  simp only[Iq];have hBi:=hB 0 B F rfl rfl;rw[ANB]at hBi;have next:∀{NG},NG.length=N+(i+1-M)→(∀k,i+1≤k→k<M→NG[Hd k]? =some .dead)→CR E w vw NG Fs.flatten→CR E w vw (Iq Hd (i+1) l NG) []:=by
   intro NG h1 h2 h3;refine X5 h h1 h2 (by simpa using hF) (fun j C G hC hG=> ?_) h3;have:=hB (j+1) C G (by simpa using hC) (by simpa using hG)
   rwa [show i+(j+1)=i+1+j by omega]at this
  rw[ALO]at bE;by_cases hi:i<M
  ·have Dj:=h.lt i hi
   rw[AIF (by omega)];refine next (by simp;omega) (fun k hk1 yd=> ?_) (bE.put (hd i (ALE _) hi) hBi);rw[AJo (fun e=>by have:=h.AKH e;omega)];exact hd k (by omega) yd
  ·have heq:=h.eq i (by omega)
   rw[AIU (by omega)];have e1:Hd i=bx.length:=by omega
   rw[e1]at hBi;exact next (by simp;omega) (fun k hk1 yd=>by omega) (bE.push hBi)
 |_::_,_,_,[],_,_,hF,_,_=>by simp at hF
structure lK (E' E2:Env) (l:List BP) (u:G_.V l) (uY:List Bx) (Hd:Nat→Nat):Prop where
 ids:∀i,alive l i=true→E2.GB (Hd i)=E'.GB i∧E2.GQ (Hd i)=E'.GQ i
 bx:∀(i:Nat) p,l[i]? =some p→ ∃y,(G_.mk id l u)[i]? =some (p.mk id y)∧uY[Hd i]? =some (p.mk Hd y)
 S:E2.S=E'.S
theorem V7(Hd:Nat→Nat):∀{l:List BP} {u:G_.V l} {i:Nat} {p:BP},l[i]? =some p→ ∃y:p.V,(G_.mk id l u)[i]? =some (p.mk id y)∧(G_.mk Hd l u)[i]? =some (p.mk Hd y)
 |q::l,u,0,p,h=>by
  simp at h;subst h;exact⟨u.1,rfl,rfl⟩
 |q::l,u,i+1,p,h=>by
  obtain⟨y,h1,h2⟩:=V7 Hd (u:=u.2) (i:=i) (by simpa using h);exact⟨y,by simpa[G_.mk]using h1,by simpa[G_.mk]using h2⟩
 |[],_,_,_,h=>by simp at h
theorem P0(Hd:Nat→Nat):∀{l:List BP} {u:G_.V l},(G_.mk Hd l u).length=l.length
 |[],_=>rfl
 |_::l,u=>by simp[G_.mk,P0 Hd (l:=l)]
section
variable{E' E2:Env} {w:World} {l:List BP} {u:G_.V l} {uY:List Bx} {Hd:Nat→Nat} (r:lK E' E2 l u uY Hd)
include r
omit r in
theorem kE{i:Nat}(h:alive l i=true):∃p,l[i]? =some p∧p≠ .gone:=by
 unfold alive at h;cases e:l[i]? with
 |none=>rw[e]at h;cases h
 |some p=>
  refine⟨p,rfl,fun hp=> ?_⟩;rw[e,hp]at h;cases h
theorem oq{p:AP}{y:p.V}{v:Value}(DK:p.Kb l=true)(h:VR E' w (G_.mk id l u) (p.mk id y) v):VR E2 w uY (p.mk Hd y) v:=by
 cases p with
 |v t=>exact h
 |sl s q=>
  simp only[AP.Kb]at DK;subst DK;simp only[AP.mk,VR,AMF]at h⊢;rw[r.S];exact h
 |nil=>exact h
 |ref i=>
  simp only[AP.Kb,AJJ]at DK;obtain⟨p,hp⟩:∃p,l[i]? =some p:=⟨_,AIH DK⟩;obtain⟨z,z1,z2⟩:=r.bx i p hp;simp only[AP.mk,VR,id]at h⊢;refine⟨h.1,?_⟩;have h2:=h.2;rw[z1]at h2;rw[z2];cases p with
  |mem q=>trivial
  |gone=>trivial
  |sl d q=>
   have jC:=(r.ids i (by simp[alive,hp])).2;simp only[BP.mk]at h2⊢;refine⟨h2.1,h2.2.1,?_⟩;rw[jC];exact h2.2.2
 |ptr i j=>
  simp only[AP.Kb]at DK;obtain⟨p,hp,hg⟩:=kE DK;obtain⟨z,z1,z2⟩:=r.bx i p hp;refine⟨(AIE.1 z2).1,?_⟩;rw[(r.ids i DK).1];exact h.2
 |jX q=>simp[AP.Kb]at DK
 |cS i sz=>simp[AP.Kb]at DK
 |kJ f rs=>simp[AP.Kb]at DK
 |fn f Hg=>
  simp only[AP.Kb,ALQ]at DK;obtain⟨h1,h2⟩:=h;refine⟨fun b hb=> ?_,?_⟩
  ·obtain⟨i,hi,rfl⟩:=ANC.1 hb
   obtain⟨p,hp,_⟩:=kE (DK i hi);obtain⟨z,_,z2⟩:=r.bx i p hp;exact(AIE.1 z2).1
  ·rw[h2,AN6]
   congr 2
   rw[AN6];apply ANx;intro i hi;simp only[Function.comp,id,(r.ids i (DK i hi)).1]
 |any=>trivial
theorem fM:∀{q:List AP} {y:Tu.V q} {vs:List Value},q.all (AP.Kb l)=true→bR E' w (G_.mk id l u) (Tu.mk id q y) vs→bR E2 w uY (Tu.mk Hd q y) vs
 |[],_,[],_,_=>trivial
 |[],_,_::_,_,h=>h.elim
 |p::q,y,[],_,h=>h.elim
 |p::q,y,v::vs,DK,h=>by
  simp only[ANP,AIo]at DK;exact⟨oq r DK.1 h.1,fM DK.2 h.2⟩
theorem ka:∀{q:List (AP ⊕ List AP)} {y:UW.V q} {vs:List Value},(q.all fun| .inl p=>p.Kb l| .inr q=>q.all (AP.Kb l))=true→Bw (TR E' w (G_.mk id l u)) (UW.mk id q y) vs→Bw (TR E2 w uY) (UW.mk Hd q y) vs
 |[],_,[],_,_=>trivial
 |[],_,_::_,_,h=>h.elim
 | .inl p::q,y,[],_,h=>h.elim
 | .inr p::q,y,[],_,h=>h.elim
 | .inl p::q,y,v::vs,DK,h=>by
  simp only[ANP,AIo]at DK;exact⟨oq r DK.1 h.1,ka DK.2 h.2⟩
 | .inr p::q,y,v::vs,DK,h=>by
  simp only[ANP,AIo]at DK;obtain⟨us,e,hus⟩:=h.1;exact⟨⟨us,e,fM r DK.1 hus⟩,ka DK.2 h.2⟩
theorem AHk{p:XP}{y:p.V}{v:Value}(DK:p.Kb l=true)(h:XR E' w (G_.mk id l u) (p.mk id y) v):XR E2 w uY (p.mk Hd y) v:=by
 cases p with
 |c p=>exact oq r DK h
 |agg q=>
  obtain⟨vs,e,TE⟩:=h;exact⟨vs,e,fM r DK TE⟩
 |row q=>simp[XP.Kb]at DK
 |Kv q=>
  obtain⟨vs,e,TE⟩:=h;exact⟨vs,e,ka r DK TE⟩
theorem AEx{i:Nat}{p:BP}{y:p.V}{F:AB1}(hi:l[i]? =some p)(DK:p.Kb l=true)(h:gC E' w (G_.mk id l u) i (p.mk id y) F):gC E2 w uY (Hd i) (p.mk Hd y) F:=by
 cases p with
 |mem q=>
  obtain⟨h1,arr,ty,fr,h2,h3,h4⟩:=h;have jC:=(r.ids i (by simp[alive,hi])).1;exact⟨by rw[jC];exact h1,arr,ty,fr,by rw[jC];exact h2,h3,fM r DK h4⟩
 |sl d q=>
  obtain⟨h1,h2⟩:=h;refine⟨h1,?_⟩;rw[(r.ids i (by simp[alive,hi])).2,r.S];exact h2
 |gone=>exact h
end
end Go.Fw
end
section
namespace Go.Fw
theorem lH{s:B3}{N:Nat}{m0 m:MW}{tm:List XV}{bx:List Bx}{x:s.V}(e:s.fit N m0 tm bx=some (x,m)):∀(k:Nat) p,s.E5[k]? =some p→p≠ .gone→ ∃b B,m[k]? =some (some b)∧bx[b]? =some B∧B≠ .dead∧
  ∀d r,p= .sl d r→ ∃d' rows,B= .sl d' r rows:=by
 simp only[B3.fit,AIm,AIX]at e;obtain⟨m1,e1,m2,e2,a,e3,c,e4,e5⟩:=e;cases e5;obtain⟨q1,q2⟩:=OX (Hd:=id) e4;intro k p hp hg;obtain⟨y,_,h⟩:=q2 k p hp;cases p with
 |gone=>exact absurd rfl hg
 |mem q=>
  obtain⟨b,cs,h1,h2,_⟩:=h;exact⟨b,_,h1,h2,by simp,fun d r hh=>by cases hh⟩
 |sl d r=>
  obtain⟨b,d',h1,h2,_⟩:=h;exact⟨b,_,h1,h2,by simp,fun d r hh=>by cases hh;exact⟨d',y,rfl⟩⟩
theorem uK(n:Nat):ik (List.replicate n none):=fun i j b h=>by
 simp[AN2]at h
theorem ov{w:World}{B B':Nat→Prop}{w':World}{r:Ty}{v:Value}{x y:List r.D}(h:Rd w B (.sl r) [v] x)(h':Rd w' B' (.sl r) [v] y):y.length=x.length:=by
 simp only[Rd]at h h';obtain⟨_,_,e,_⟩:=h;obtain⟨_,_,e',_⟩:=h';rw[e]at e';simp only[AK_,Value.slice.injEq,AL0]at e';exact e'.2.1.symm
section
variable{Y:Type} {P:Program} {E:Env} {σ:St} {a:Act} {w:World} {k:K Y} {y:Y}
theorem jk{E' E2:Env}{l:List BP}{u:G_.V l}{uY:List Bx}{Hd:Nat→Nat}(r:lK E' E2 l u uY Hd):∀{sl:List (Nat×XP)} {z:E7.V sl} {x:Value},
  ia l sl=true→MU E' w (G_.mk id l u) id sl z [x]→XR E2 w uY (YU sl z Hd) x
 |[(0,p)],z,x,DK,h=>by
  obtain⟨⟨v,hv,hx⟩,_⟩:=h;simp at hv;subst hv;exact AHk r DK hx
 |[],_,_,DK,_=>by simp[ia]at DK
 |(_+1,_)::_,_,_,DK,_=>by simp[ia]at DK
 |(0,_)::_::_,_,_,DK,_=>by simp[ia]at DK
def Sl(c:Qz)(xs:List XV)(σ:St):AB1:=
 match c.ins.fit σ.bx.length c.ins.m0 xs (c.ins.opens σ.bx)with
 |some (_,m)=>m.filterMap id
 |none=>[]
theorem js(h:Rel E σ a w)(s:B3):∃E',Rel E' { σ with bx:=s.opens σ.bx } a w∧Nx [] E σ.bx w E' (s.opens σ.bx) w∧(∀(i:Nat) d r,s.E5[i]? =some (.sl d r)→E'.GQ (σ.bx.length+i)= .slice none 0 0)∧
  (∀x v,XR E w σ.bx x v→XR E' w (s.opens σ.bx) x v):=by
 let E':Env:={ E with GQ:=fun k=>if k<σ.bx.length then E.GQ k else .slice none 0 0 }
 have hlen:σ.bx.length≤(s.opens σ.bx).length:=by simp[B3.opens]
 have hold:∀b,b<σ.bx.length→(s.opens σ.bx)[b]? =σ.bx[b]?:=fun b hb=>by simp only[B3.opens];rw[AJI hb]
 have Xt:∀b,b<σ.bx.length→E'.GQ b=E.GQ b:=fun b hb=>by simp only[E'];rw[AIF hb]
 have keep:PI E w σ.bx E' w (s.opens σ.bx):=
  ⟨hlen,fun _ _=>rfl,fun _ h=>h,fun _ h=>h,h.bx.st,fun _ _=>rfl,fun b d r rows hb e=>⟨d,rows,by rw[←hold b hb];exact e,fun p hp q ys hg=>⟨hp,⟨ys,hg,rfl⟩,fun hh he=>by rw[Xt b hb];exact he⟩⟩⟩
 obtain⟨Fs,⟨f1,f2⟩,f3⟩:=h.bx;refine⟨E',⟨h.Kk,h.tm.imp fun _ _ hx=>L9 keep hx,?_⟩,?_,fun i d r hi=>by simp only[E'];rw[AIU (by omega)],fun x v hx=>L9 keep hx⟩
 ·refine⟨Fs++List.replicate s.E5.length [],⟨by simp[B3.opens,f1],fun n B F hB hF=> ?_⟩,?_⟩
  ·by_cases hn:n<σ.bx.length
   ·rw[hold n hn]at hB
    rw[AJI (by omega)]at hF;have:=f2 n B F hB hF;cases B with
    |mem cs=>
     obtain⟨rfl,arr,ty,fr,a1,a2,a3⟩:=this;exact⟨rfl,arr,ty,fr,a1,a2,a3.imp fun _ _ hv=>EW keep hv⟩
    |sl d r rows=>exact⟨this.1,by rw[Xt n hn];exact this.2⟩
    |dead=>exact this
   ·rw[AKi (by omega)]at hF
    have hF':F=[]:=ALx (AKh hF);subst hF';simp only[B3.opens]at hB;rw[AKi (by omega),ALC,AIX]at hB;obtain⟨p,_,rfl⟩:=hB;have hh:E'.GQ n= .slice none 0 0:=by simp only[E'];rw[AIU hn]
    cases p with
    |mem q=>rfl
    |gone=>rfl
    |sl d r=>exact⟨by omega,by rw[hh];exact iS⟩
  ·have:(Fs++List.replicate s.E5.length []).flatten=Fs.flatten:=by simp
   rw[this];exact⟨f3.nodup,f3.free,f3.lt,f3.st,f3.ZB⟩
 ·refine⟨⟨fun _ h=>h,fun _ h=>h,fun _ h=> .inl h,fun _ h=> .inl h,fun _ _=>rfl,rfl,rfl,rfl,ALE _⟩,hlen,fun b hb=>⟨rfl,Xt b hb⟩,fun b hb=> ?_,fun n B B' _ hB Oa hd=> ?_⟩
  ·rw[hold b (AIE.1 hb).1];exact hb
  ·rw[hold n (AIE.1 hB).1,hB]at Oa
   cases Oa;exact⟨RC.refl hd,fun _ _=>rfl⟩
theorem Nx.after{t:AB1}{E E' vZ:Env}{bx NG AJz:List Bx}{w w':World}(h:Nx [] E bx w E' NG w)(hb:∀b,b<bx.length→NG[b]? =bx[b]?)(k:Nx t E' NG w vZ AJz w'):Nx t E bx w vZ AJz w':=
 ⟨h.base.trans k.base,ALM h.len k.len,fun b Dj=>⟨(k.ids b (ALH Dj h.len)).1.trans (h.ids b Dj).1,(k.ids b (ALH Dj h.len)).2.trans (h.ids b Dj).2⟩,fun b hd=>k.dead b (h.dead b hd),fun n B B' hn hB Oa hd=>by
  have Dj:=(AIE.1 hB).1;obtain⟨k1,k2⟩:=k.frame n B B' hn (by rw[hb n Dj];exact hB) Oa hd;refine⟨k1,fun c hc=>k2 c ?_⟩;cases B with
  |mem cs=>simp only[oJ]at hc⊢;rw[(h.ids n Dj).1];exact hc
  |sl d r rows=>simp only[oJ]at hc⊢;rw[(h.ids n Dj).2];exact hc
  |dead=>exact hc⟩
def ADC(c:Qz)(N:Nat)(xs:List XV)(σ:St)(k:K Y):Option Y:=
 match c.ins.fit N c.ins.m0 xs σ.bx with
 |some (v,m)=>(c.g v).bind fun u=>
  let Hd:=T5 m σ.bx.length
  let σ1:=σ.Sx m
  k (YU c.outs.C5 u.1 Hd) { σ1 with bx:=VS Hd 0 c.outs.E5 u.2 (CF σ1.bx m) }
 |none=>none
def pj(c:Qz)(N:Nat)(xs:List XV)(σ:St):AB1:=
 match c.ins.fit N c.ins.m0 xs σ.bx with
 |some (_,m)=>m.filterMap id
 |none=>[]
theorem pH{f:Nat}{c:Qz}(hc:Wq P f c)(h:Rel E σ a w){N0:Nat}(kv:∀(i:Nat) d r,c.ins.E5[i]? =some (.sl d r)→E.GQ (N0+i)= .slice none 0 0){xs:List XV}{vs:List Value}(hxs:Bw (XR E w σ.bx) xs vs)(hlen:xs.length=c.ins.C5.length)(e:ADC c N0 xs σ k=some y):
  Calls P f vs.toArray w fun e w' => ∃x E' xv σ',e= .returned x∧Rel E' σ' a w'∧XR E' w' σ'.bx xv x∧Nx (pj c N0 xs σ) E σ.bx w E' σ'.bx w'∧σ'.tm.length=σ.tm.length∧k xv σ' =some y:=by
 obtain⟨DK,_,j8⟩:=hc;simp only[Qz.ok,AIo]at DK;obtain⟨⟨hk,hslot⟩,hbo⟩:=DK;obtain⟨hklen,hk⟩:=Ti hk;unfold ADC at e;split at e
 case h_2=>cases e
 rename_i v m Ve;simp only[AIm]at e;obtain⟨u,hg,e⟩:=e;obtain⟨_,E1,hf⟩:=cz h.bx hxs kv (by simp[B3.m0]) (uK _) Ve;have Mm:vs.toArray.size=c.ins.C5.length:=by rw[←hlen,Bw.len hxs];simp
 refine(j8 E1 w v vs.toArray u Mm hf.boxes (by simpa using hf.C5) hg).mono fun e' w' hR=> ?_
 obtain⟨x,E',rfl,base,⟨Fs,hFs1,hFs2⟩,C5,mQ⟩:=hR;simp only[AKb]at hFs2;obtain⟨Fk,k1,k2,k3,k4⟩:=hf.rest;have st:=h.bx.st;have ZB:=h.bx.ZB;have hM:m.length=c.ins.E5.length:=hf.len;have all:∀i,i<m.length→ ∃b B,m[i]? =some (some b)∧σ.bx[b]? =some B∧B≠ .dead∧ ∀d r,c.ins.E5[i]? =some (.sl d r)→ ∃d' rows,B= .sl d' r rows:=by
  intro i hi;have hp:c.ins.E5[i]? =some (c.ins.E5[i]'(by omega)):=AIH _;obtain⟨b,B,h1,h2,h3,h4⟩:=lH Ve i _ hp (hk i _ hp).1;exact⟨b,B,h1,h2,h3,fun d r hh=>h4 d r (by rw[hp]at hh;exact AN5 hh)⟩
 let N:=σ.bx.length
 let M:=m.length
 have oW:∀i b,m[i]? =some (some b)→T5 m N i=b:=fun i b h=>by simp[T5,h]
 have tw:∀i,M≤i→T5 m N i=N+(i-M):=fun i hi=>by
  have:m[i]? =none:=AMc hi;simp[T5,this,M]
 have ro:mr (T5 m N) M N:=⟨fun i hi=>by
   obtain⟨b,B,h1,h2,_⟩:=all i hi;rw[oW i b h1];exact(AIE.1 h2).1,tw,fun i j hi hj e=>by
   obtain⟨b,B,h1,h2,_⟩:=all i hi;obtain⟨b',B',sD,xN,_⟩:=all j hj;rw[oW i b h1,oW j b' sD]at e;subst e;exact hf.inj i j b h1 sD⟩
 let E2:Env:={
   GB:=fun n=>if n<N then E.GB n else E'.GB (M+(n-N))
   GQ:=fun n=>if n<N then E.GQ n else E'.GQ (M+(n-N))
   T:=fun c=>E.T c∨E'.S c
   S:=E'.S }
 have hS:∀c,E.S c→E'.S c:=fun d hd=>base.S d (hf.S d hd)
 have hSk:∀d∈Fk.flatten,¬E'.S d:=fun d hd hs=>by
  obtain⟨_,n2,_,n4⟩:=k3 d hd;exact(base.qj d hs).elim n2 (fun h=>h n4)
 have nw:∀d,E.T d→w'.heap[d]? =w.heap[d]?:=fun d hd=>base.heap d (hf.T d hd)
 have vo:∀d∈Fk.flatten,w'.heap[d]? =w.heap[d]?:=fun d hd=>base.heap d (k3 d hd).2.2.2
 have AId:Yg E w E2 w':=⟨fun d hd=> .inl hd,hS,fun d hd=>hd,fun d hd=>by
   rcases base.qj d hd with h|h
   ·exact hf.qj d h
   ·exact .inr fun ht=>h (hf.T d ht),nw,base.os,base.tape,base.output,base.size⟩
 let vw':=G_.mk id c.outs.E5 u.2
 let Bs:=G_.mk (T5 m N) c.outs.E5 u.2
 let bk:=(CF σ.bx m).map (Bx.map (De m))
 have hbk:CF (σ.Sx m).bx m=bk:=by rw[sd,YI]
 have AIW:bk.length=N:=by simp[bk,Fo,N]
 let VP:=Iq (T5 m N) 0 Bs bk
 have AMq:VS (T5 m N) 0 c.outs.E5 u.2 (CF (σ.Sx m).bx m)=VP:=by rw[da,hbk]
 obtain⟨s1,s2,s3⟩:=ZM ro (l:=Bs) (i:=0) (bx:=bk) (by simp[AIW]);have AM3:Bs.length=c.outs.E5.length:=P0 _;have dL:σ.bx.length≤VP.length:=by
  show N≤VP.length
  have:VP.length=N+(0+Bs.length-M):=s1;omega
 have rn:lK E' E2 c.outs.E5 u.2 VP (T5 m N):=by
  refine⟨fun i hi=> ?_,fun i p hp=> ?_,rfl⟩
  ·by_cases him:i<M
   ·obtain⟨b,B,h1,h2,_⟩:=all i him
    have oK:b<N:=(AIE.1 h2).1;have g1:=hf.ids i b h1;have g2:=mQ i (by omega) hi;rw[oW i b h1];simp only[E2,AIF oK];exact⟨by rw[g2.1,g1.1],by rw[g2.2,g1.2]⟩
   ·rw[tw i (by omega)]
    have: ¬(N+(i-M)<N):=by omega
    simp only[E2,AIU this];rw[show M+(N+(i-M)-N)=i by omega];exact⟨rfl,rfl⟩
  ·obtain⟨z,z1,z2⟩:=V7 (T5 m N) (u:=u.2) hp
   refine⟨z,z1,?_⟩;have:=s2 i _ z2
   rwa [AL1]at this
 have vh:∀n,n<N→some n∉m→VP[n]? =bk[n]?:=fun n hn hm=>by
  refine s3 n (by omega) fun j hj he=> ?_
  rw[AL1]at he;by_cases hjm:j<M
  ·obtain⟨b,B,h1,h2,_⟩:=all j hjm
   rw[oW j b h1]at he;subst he;exact hm (AKh h1)
  ·have:=tw j (by omega)
   omega
 have keep:PI E w σ.bx E2 w' (CF VP m):=by
  refine⟨by rw[Fo];exact dL,fun b hb=>by simp only[E2];rw[AIF hb],fun d hd=> .inl hd,hS,st,nw,fun b d r rows hb hq=> ?_⟩;have hbm:some b∉m:=fun hm=>by have:=SU hm hq;cases this
  rw[Nn hbm,vh b hb hbm]at hq;have hq1:=vA hq;have iq:σ.bx[b]? =some (.sl d r rows):=by
   rcases OS (Di.refl σ.bx) b _ hq1 with e|e
   ·cases e
   ·exact e
  refine⟨d,rows,iq,fun p hp q ys hgp=>⟨hp,⟨ys,hgp,rfl⟩,fun h' hh=> ?_⟩⟩;have hFk:Fk[b]? =some (Fk[b]'(by rw[k1.1,Fo];exact hb)):=AIH _;obtain⟨_,ho⟩:=k1.2 b _ _ hq1 hFk;have e2:E2.GQ b=E.GQ b:=by simp only[E2];rw[AIF hb]
  rw[e2];exact lx ho (fun d hd=>nw d (st d hd)) (fun d hd=>vo d (AK9.2 ⟨_,AKh hFk,hd⟩)) hp hgp hh
 have vr:∀x v,VR E w σ.bx x v→VR E2 w' VP (De m x) v:=fun x v hx=>by
  refine rf keep (fun b d' r CC hbm hq=> ?_) dL hx;obtain⟨i,hi,him⟩:=ALr hbm;have AHQ:m[i]? =some (some b):=by rw[AIH hi,him]
  obtain⟨b',B,h1,h2,h3,h4⟩:=all i hi;rw[AHQ]at h1;cases h1;have hio:i<c.outs.E5.length:=by omega
  have hp:c.outs.E5[i]? =some c.outs.E5[i]:=AIH hio;obtain⟨z,z1,z2⟩:=rn.bx i _ hp;rw[oW i b AHQ,hq]at z2;have AIw:c.ins.E5[i]? =some (c.ins.E5[i]'(by omega)):=AIH _
  generalize c.outs.E5[i]=po at z hp z1 z2
  cases po with
  |mem q=>simp[BP.mk]at z2
  |gone=>simp[BP.mk]at z2
  |sl d0 q=>
   simp only[BP.mk,AIK,Bx.sl.injEq]at z2;obtain⟨rfl,rfl,z2⟩:=z2;obtain rfl:=ALA z2;obtain⟨d1,hpo⟩:=(hk i _ AIw).2 _ _ hp;obtain⟨d2,rows,rfl⟩:=h4 d1 r (by rw[AIw,hpo]);have oK:b<N:=(AIE.1 h2).1;have eh:E2.GQ b=E.GQ b:=by simp only[E2];rw[AIF oK]
   refine⟨d2,rows,h2,?_,eh⟩;obtain⟨F0,hR0,_⟩:=h.bx.take h2;have hFi:Fs[i]? =some (Fs[i]'(by rw[hFs1.1,P0];exact hio)):=AIH _;obtain⟨_,od⟩:=hFs1.2 i _ _ z1 hFi;have s7:alive c.outs.E5 i=true:=by simp[alive,hp]
   rw[(mQ i (by omega) s7).2,(hf.ids i b AHQ).2]at od;exact ov (Uh hR0.2) (Uh od)
 have XX:c.outs.E5.all (BP.Kb c.outs.E5)=true:=hbo;have rel:Rel E2 { tm:=(σ.Sx m).tm,bx:=VP } a w':=by
  refine⟨h.Kk,?_,?_⟩
  ·rw[jv]
   exact Bw.I7 _ (fun x v hx=>sU vr hx) h.tm
  ·refine X5 ro (Fs:=Fs) (by simp[AIW]) (fun i _ hi=> ?_) (by rw[hFs1.1,P0];exact AM3.symm) (fun j B F hB hF=> ?_) ?_
   ·obtain⟨b,B,h1,h2,_⟩:=all i hi
    rw[oW i b h1];have oK:b<(CF σ.bx m).length:=by rw[Fo];exact(AIE.1 h2).1
    have hd:(CF σ.bx m)[b]? =some .dead:=by
     rw[AIH oK];exact congrArg some (SU (AKh h1) (AIH oK))
    simp only[bk];rw[ALC,hd];rfl
   ·rw[AL1]
    have qq:=(AIE.1 hB).1;have hp:c.outs.E5[j]? =some (c.outs.E5[j]'(by omega)):=AIH _;obtain⟨z,z1,z2⟩:=V7 (T5 m N) (u:=u.2) hp;have Oa:Bs[j]? =_:=z2;rw[hB]at Oa;cases Oa;exact AEx rn hp (ALQ.1 XX _ (AKp _)) (hFs1.2 j _ _ z1 hF)
   ·
    refine⟨Fk,⟨by simp[bk,k1.1],fun n B F hn hF=> ?_⟩,?_⟩
    ·simp only[bk]at hn
     rw[ALC,AIX]at hn;obtain⟨B0,hn,rfl⟩:=hn;have l9:n<N:=by have:=(AIE.1 hn).1;rwa [Fo]at this
     have h3:=k1.2 n B0 F hn hF;have hFw:∀d∈F,w'.heap[d]? =w.heap[d]?:=fun d hd=>vo d (AK9.2 ⟨F,AKh hF,hd⟩)
     have eb:E2.GB n=E.GB n:=by simp only[E2];rw[AIF l9]
     have eh:E2.GQ n=E.GQ n:=by simp only[E2];rw[AIF l9]
     cases B0 with
     |mem cs=>
      obtain⟨rfl,arr,ty,fr,ha,hu,hv⟩:=h3;exact⟨by rw[eb],arr,ty,fr,by rw[eb,hFw _ (by simp),ha],hu,Bw.I7 _ vr hv⟩
     |sl d r rows=>
      refine⟨h3.1,?_⟩;rw[eh];exact DB hS (fun d hd=>nw d (st d hd)) hFw h3.2
     |dead=>exact h3
    ·refine⟨AJq.2 ⟨k2,hFs2.nodup,fun x hx z hz he=> ?_⟩,fun d hd ht=> ?_,fun d hd=> ?_,fun d hd=> .inr hd,fun d hd=> ?_⟩
     ·subst he
      exact hFs2.free x hz (base.T x (k3 x hx).2.2.2)
     ·rcases AJ6.1 hd with hd|hd
      ·rcases ht with ht|ht
       ·exact(k3 d hd).1 ht
       ·exact hSk d hd ht
      ·rcases ht with ht|ht
       ·exact hFs2.free d hd (base.T d (hf.T d ht))
       ·exact hFs2.free d hd (hFs2.st d ht)
     ·rcases AJ6.1 hd with hd|hd
      ·exact ALH (k3 d hd).2.2.1 base.size
      ·exact hFs2.lt d hd
     ·rcases hd with hd|hd
      ·exact ALH (ZB d hd) base.size
      ·exact hFs2.ZB d (hFs2.st d hd)
 have AAd:Nx (pj c N0 xs σ) E σ.bx w E2 VP w':=by
  refine⟨AId,dL,fun n hn=>⟨by simp only[E2];rw[AIF hn],by simp only[E2];rw[AIF hn]⟩,fun n hn=> ?_,fun n B B' hnt hB Oa qk=> ?_⟩
  rotate_left 1
  ·have l9:=(AIE.1 hB).1
   have hnm:some n∉m:=fun hm=>hnt (by
    simp only[pj,Ve,List.mem_filterMap];exact⟨some n,hm,rfl⟩)
   rw[vh n l9 hnm]at Oa;simp only[bk]at Oa;have hkn:(CF σ.bx m)[n]? =some B:=by rw[Nn hnm];exact hB
   rw[ALC,hkn]at Oa;have Oa:Bx.map (De m) B=B':=by simpa using Oa
   have hFk:Fk[n]? =some (Fk[n]'(by rw[k1.1,Fo];exact l9)):=AIH _;refine⟨?_,fun d hd=> ?_⟩
   ·subst Oa
    cases B with
    |mem cs=>trivial
    |sl d r rows=>rfl
    |dead=>exact absurd rfl qk
   ·rcases YX (k1.2 n B _ hkn hFk) hd with hs|hs
    ·exact nw d (st d hs)
    ·exact vo d (AK9.2 ⟨_,AKh hFk,hs⟩)
  have l9:=(AIE.1 hn).1;have hnm:some n∉m:=fun hm=>by
   obtain⟨i,hi,him⟩:=ALr hm;obtain⟨b,B,h1,h2,h3,_⟩:=all i hi;rw[AIH hi,him]at h1;cases h1;rw[hn]at h2;cases h2;exact h3 rfl
  rw[vh n l9 hnm];simp only[bk];rw[ALC,Nn hnm,hn];rfl
 refine⟨x,E2,YU c.outs.C5 u.1 (T5 m N),{ tm:=(σ.Sx m).tm,bx:=VP },rfl,rel,jk rn hslot C5,AAd,by simp[jv],?_⟩;rw[AMq]at e;exact e
theorem rP{f:Nat}{c:Qz}(hc:Wq P f c)(h:Rel E σ a w){xs:List XV}{vs:List Value}(hxs:Bw (XR E w σ.bx) xs vs)(e:df c xs σ k=some y):
  Calls P f vs.toArray w fun e w' => ∃x E' xv σ',e= .returned x∧Rel E' σ' a w'∧XR E' w' σ'.bx xv x∧Nx (Sl c xs σ) E σ.bx w E' σ'.bx w'∧σ'.tm.length=σ.tm.length∧k xv σ' =some y:=by
 unfold df at e;split at e
 case isFalse=>cases e
 rename_i hlen;obtain⟨E',h1,h2,h3,h4⟩:=js h c.ins;have hold:∀b,b<σ.bx.length→(c.ins.opens σ.bx)[b]? =σ.bx[b]?:=fun b hb=>by simp only[B3.opens];rw[AJI hb]
 refine(pH (N0:=σ.bx.length) hc h1 h3 (hxs.imp fun x v hx=>h4 x v hx) hlen (k:=k) (y:=y) e).mono fun e' w' hR=> ?_
 obtain⟨x,E2,xv,σ',q0,q1,q2,q3,q4,q5⟩:=hR;exact⟨x,E2,xv,σ',q0,q1,q2,h2.after hold q3,q4,q5⟩
end
end Go.Fw
end
section
namespace Go.Fw
def ZZ(P:Program)(Γ:Nat→Option Qz):Prop:= ∀f c,Γ f=some c→Wq P f c
theorem jF{Γ:Nat→Option Qz}{σ:St}{o:Op}(h:gi o=false):GZ (fun _=>none) σ o=GZ Γ σ o:=by
 cases o with
 |call c=>
  obtain⟨callee,args,jn⟩:=c;cases callee with
  |value f=>simp[gi]at h
  |invoke _ _=>rfl
  |builtin b=>cases b<;>rfl
 |_=>rfl
theorem AJa{Y:Type}{P:Program}{Γ:Nat→Option Qz}{o:Oper}{E:Env}{σ:St}{a:Act}{w:World}{k:K Y}{y:Y}{g:Nat}{c:Qz}(hsc:Wq P g c)(h:Rel E σ a w){f:Operand}{args:Array Operand}{jn:Array TypeId}
  (ho:o.op= .call { callee:= .value f,args:=args,argTypes:=jn }) {ps:List Value} (V0:a.eval f= .func (.func g) #[] ps.toArray) {xs:List XV} (Gp:Bw (XR E w σ.bx) xs (args.toList.map a.eval++ps)) (ht:GZ Γ σ o.op=Sl c xs σ)
  (e:df c xs σ k=some y) {next:Act→World→Prop} {Q:Exit→Act→World→Prop}
  (hn:∀v w' E' x σ',Rel E' σ' a w'→XR E' w' σ'.bx x v→Nx (GZ Γ σ o.op) E σ.bx w E' σ'.bx w'→σ'.tm.length=σ.tm.length→k x σ' =some y→next (a.put o.dst v) w'):o.wp P a w next Q:=by
 have j8:=rP hsc h Gp e;have jh:(execOp a.eval o).run P w= .ok (.enter g (args.toList.map a.eval++ps).toArray) w:=by
  have e2:(args.map a.eval)++ps.toArray=(args.toList.map a.eval++ps).toArray:=by
   apply Array.ext';simp
  simp only[execOp,ho,resolve,V0,Deferred.ofValue,Sem.run_bind,Sem.run_pure,Result.andThen_ok,invoke,Array.empty_append,e2,hsc.2.1]
 unfold Oper.wp;rw[jh];simp only[Oper.upon];refine j8.mono fun e w' hR=> ?_
 obtain⟨x,E',xv,σ',rfl,h1,h2,h3,h4,h5⟩:=hR;rw[←ht]at h3;exact hn x w' E' xv σ' h1 h2 h3 h4 h5
section
variable{Y:Type} {P:Program} {T:Hq} (hT:D4 P T) {Γ:Nat→Option Qz} (hΓ:ZZ P Γ) {o:Oper} {E:Env} {σ:St} {a:Act} {w:World} {k:K Y} {y:Y}
include hT hΓ
theorem qD(h:Rel E σ a w)(e:S5 T Γ o σ k=some y){next:Act→World→Prop}{Q:Exit→Act→World→Prop}
  (hn:∀v w' E' x σ',Rel E' σ' a w'→XR E' w' σ'.bx x v→Nx (GZ Γ σ o.op) E σ.bx w E' σ'.bx w'→σ'.tm.length=σ.tm.length→k x σ' =some y→next (a.put o.dst v) w'):o.wp P a w next Q:=by
 by_cases hc:gi o.op=false
 ·obtain⟨v,w',E',x,σ',hr,h1,h2,h3,h4,h5⟩:=rR hT h e hc
  rw[jF hc]at h3;unfold Oper.wp;rcases hr with hr|⟨hr,rfl⟩
  ·rw[hr]
   exact hn v w' E' x σ' h1 h2 h3 h4 h5
  ·rw[hr]
   exact hn _ w' E' x σ' h1 h2 h3 h4 h5
 ·
  unfold gi at hc;split at hc
  case h_2=>simp at hc
  rename_i f args jn ho;unfold S5 at e;rw[ho]at e;dsimp only at e;split at e
  case h_3=>cases e
  ·rename_i g Hg hf
   split at e
   case h_2=>cases e
   rename_i c hg;have hv:=h.ev f;rw[hf]at hv;obtain⟨XF,V0⟩:(∀b∈Hg,b<σ.bx.length)∧a.eval f= .func (.func g) #[] (Hg.map fun b=>Value.pointer (some ⟨E.GB b,0,none⟩)).toArray:=hv;have hsc:=hΓ g c hg;have Gp:Bw (XR E w σ.bx) (args.toList.map σ.ev++Hg.map fun b=> .c (.GA b 0)) (args.toList.map a.eval++Hg.map fun b=>Value.pointer (some ⟨E.GB b,0,none⟩)):=by
    refine Bw.append (evs h args.toList) ?_
    clear V0 hf e
    induction Hg with
    |nil=>trivial
    |cons b l ih=>exact⟨⟨XF b (by simp),rfl⟩,ih (fun c hc=>XF c (by simp[hc]))⟩
   have ht:GZ Γ σ o.op=Sl c (args.toList.map σ.ev++Hg.map fun b=> .c (.GA b 0)) σ:=by
    rw[ho];simp only[GZ,hf,hg,Sl];rfl
   exact AJa hsc h ho V0 Gp ht e hn
  ·rename_i g rows hf
   split at e
   case h_2=>cases e
   rename_i c hg;have hv:=h.ev f;rw[hf]at hv;obtain⟨ps,V0,XF⟩:∃ps:List Value,a.eval f= .func (.func g) #[] ps.toArray∧Bw (RA E w) rows ps:=hv;have hsc:=hΓ g c hg;have Gp:Bw (XR E w σ.bx) (args.toList.map σ.ev++rows.map fun q=> .c (.K4 false q.1 q.2 0)) (args.toList.map a.eval++ps):=by
    refine Bw.append (evs h args.toList) ?_
    clear V0 hf e
    induction rows generalizing ps with
    |nil=>
     cases ps with
     |nil=>trivial
     |cons _ _=>exact XF.elim
    |cons q l ih=>
     cases ps with
     |nil=>exact XF.elim
     |cons p ps=>
      obtain⟨⟨bb,o,cs,h1,h2,h3,h4,h5⟩,XF⟩:=XF;exact⟨⟨bb,o,cs,h1,h2,h3,h4,h5⟩,ih ps XF⟩
   have ht:GZ Γ σ o.op=Sl c (args.toList.map σ.ev++rows.map fun q=> .c (.K4 false q.1 q.2 0)) σ:=by
    rw[ho];simp only[GZ,hf,hg,Sl];rfl
   exact AJa hsc h ho V0 Gp ht e hn
end
theorem Rel.tmp{E:Env}{σ:St}{a:Act}{w:World}(h:Rel E σ a w){t:Nat}{x:XV}(e:σ.tm[t]? =some x):∃v,a.tmps[t]? =some v∧XR E w σ.bx x v:=by
 obtain⟨v,h1,h2⟩:=h.tm.get e;exact⟨v,by simpa using h1,h2⟩
def AE8:Value→Option Bool
 | .bool b=>some b
 |_=>none
theorem WA{ops:Array Oper}{tmps:Array Value}{j t:Nat}(e:(ops[j]?).bind (·.dst)=some t){v:Value}(hv:tmps[t]? =some v):yielded ops tmps j=AE8 v:=by
 simp only[yielded,e,AII,hv];cases v<;>rfl
theorem h_{E:Env}{w:World}{vw:List Bx}:XR E w vw (.Kv []) undef:=⟨#[],rfl,trivial⟩
structure Ok (E0:Env) (w0:World) (N nb:Nat) (E:Env) (σ:St) (a:Act) (w:World):Prop where
 rel:Rel E σ a w
 base:Yg E0 w0 E w
 tm:σ.tm.length=N
 ir:nb≤σ.bx.length
 ids:∀i,i<nb→σ.bx[i]?≠some .dead→E.GB i=E0.GB i∧E.GQ i=E0.GQ i
theorem Ok.next{E0 E E':Env}{w0 w w':World}{N nb:Nat}{σ σ':St}{a a':Act}{t:AB1}(h:Ok E0 w0 N nb E σ a w)(hr:Rel E' σ' a' w')(hw:Nx t E σ.bx w E' σ'.bx w')(hl:σ'.tm.length=σ.tm.length):Ok E0 w0 N nb E' σ' a' w':=
 ⟨hr,h.base.trans hw.base,hl.trans h.tm,ALM h.ir hw.len,fun i hi hd=>by
  have h1:=hw.ids i (ALH hi h.ir);have h2:=h.ids i hi (fun hh=>hd (hw.dead i hh));exact⟨h1.1.trans h2.1,h1.2.trans h2.2⟩⟩
theorem Ok.put{E0 E:Env}{w0 w:World}{N nb:Nat}{σ:St}{a:Act}(h:Ok E0 w0 N nb E σ a w)(dst:Option Tmp){x:XV}{v:Value}(hx:XR E w σ.bx x v):Ok E0 w0 N nb E (σ.put dst x) (a.put dst v) w:=by
 have e1:(σ.put dst x).bx=σ.bx:=by cases dst<;>rfl
 have e2:(σ.put dst x).tm.length=σ.tm.length:=by cases dst<;>simp[St.put]
 refine⟨h.rel.put dst hx,h.base,e2.trans h.tm,by rw[e1];exact h.ir,fun i hi hd=>h.ids i hi (by rwa [e1]at hd)⟩
theorem Ok.same{E0 E:Env}{w0 w:World}{N nb:Nat}{σ σ1:St}{a:Act}(h:Ok E0 w0 N nb E σ a w)(hr:Rel E σ1 a w)(hb:σ1.bx=σ.bx)(hl:σ1.tm.length=σ.tm.length):Ok E0 w0 N nb E σ1 a w:=
 ⟨hr,h.base,hl.trans h.tm,by rw[hb];exact h.ir,fun i hi hd=>h.ids i hi (by rwa [hb]at hd)⟩
end Go.Fw
end
section
namespace Go.Fw
section
variable{Y:Type}
abbrev k0:K (XV×St):=fun x σ=>some (x,σ)
theorem rE{op:BinOp}{κ:IntKind}{a b:Int}(k:AV→Option Y):ZD op κ a b k=(ZD op κ a b some).bind k:=by
 cases op<;>simp[ZD]<;>split<;>rfl
theorem dS{op:BinOp}{κ:IntKind}{a b:Int}(k:AV→Option Y):T0 op κ a b k=(T0 op κ a b some).bind k:=by
 unfold T0;split
 ·rfl
 ·cases op<;>simp
theorem sC{op:BinOp}{a b:ACu}(k:AV→Option Y):ai op a b k=(ai op a b some).bind k:=by
 cases op<;>simp[ai]<;>split<;>rfl
theorem fu{T:Hq}{t:Nat}{op:BinOp}{a b:XV}(k:AV→Option Y):mX T t op a b k=(mX T t op a b some).bind k:=by
 unfold mX;split
 ·split
  ·exact dS k
  ·exact dS k
  ·split
   ·exact rE k
   ·rfl
 ·exact sC k
 ·split
  ·split
   ·split<;>rfl
   ·rfl
  ·rfl
 ·split<;>rfl
 ·rfl
theorem lL{op:UnOp}{a:XV}(k:AV→Option Y):unX op a k=(unX op a some).bind k:=by
 unfold unX;split<;>rfl
theorem Vi{g:Bool}{a b:XV}(k:AV→Option Y):lU g a b k=(lU g a b some).bind k:=by
 unfold lU;split
 ·split
  ·cases g<;>rfl
  ·rfl
 ·rfl
theorem I9{len:Nat}{lo hi:Option XV}(k:Nat→Nat→Option Y):LK len lo hi k=(LK len lo hi fun l h=>some (l,h)).bind fun p=>k p.1 p.2:=by
 unfold LK;dsimp only;split
 ·split<;>rfl
 ·rfl
theorem o4{T:Hq}{t:Nat}{σ:St}{x:XV}{lo hi:Option XV}(k:K Y):cQ T t σ x lo hi k=(cQ T t σ x lo hi k0).bind fun p=>k p.1 p.2:=by
 unfold cQ;split
 ·split
  ·rw[I9,I9 (Y:=XV×St),ALP];rfl
  ·rfl
 ·split
  ·rw[I9,I9 (Y:=XV×St),ALP];rfl
  ·rfl
 ·split
  ·split
   ·rw[I9,I9 (Y:=XV×St),ALP];rfl
   ·rfl
  ·rfl
 ·rfl
theorem pK{T:Hq}{t:Nat}{σ:St}{x i:XV}(k:K Y):bw σ T t x i k=(bw σ T t x i k0).bind fun p=>k p.1 p.2:=by
 unfold bw;split
 ·split
  ·split<;>rfl
  ·rfl
 ·split
  ·split
   ·split<;>rfl
   ·rfl
  ·rfl
 ·split
  ·split
   ·split<;>rfl
   ·rfl
  ·rfl
 ·rfl
theorem jV{T:Hq}{t:Nat}{σ:St}{x i:XV}(k:K Y):Sn T t σ x i k=(Sn T t σ x i k0).bind fun p=>k p.1 p.2:=by
 unfold Sn;split
 ·split
  ·split<;>rfl
  ·rfl
 ·rfl
theorem rr{T:Hq}{s d:Nat}{σ:St}{x:XV}(k:K Y):kA T s d σ x k=(kA T s d σ x k0).bind fun p=>k p.1 p.2:=by
 unfold kA;split
 ·rfl
 ·rfl
 ·split
  ·split<;>rfl
  ·rfl
 ·split<;>rfl
 ·rfl
theorem sN{T:Hq}{t:Nat}{σ:St}{l c:XV}(k:K Y):j5 T t σ l c k=(j5 T t σ l c k0).bind fun p=>k p.1 p.2:=by
 unfold j5;split
 ·split
  ·split
   ·split<;>rfl
   ·rfl
  ·rfl
 ·rfl
theorem ef{T:Hq}{t n:Nat}{ps:List (Nat×XV)}{σ:St}(k:K Y):Nw T t n ps σ k=(Nw T t n ps σ k0).bind fun p=>k p.1 p.2:=by
 unfold Nw;split
 ·split
  ·split
   ·rw[ALP];rfl
   ·rfl
  ·rfl
 ·rfl
theorem nM{T:Hq}{ts:Array TypeId}{σ:St}{a x:XV}(k:K Y):YV T ts σ a x k=(YV T ts σ a x k0).bind fun p=>k p.1 p.2:=by
 unfold YV;split
 ·split
  ·split
   ·rw[ALP]
    congr 1;funext s
    split
    ·split<;>rfl
    ·rfl
   ·rw[ALP]
    congr 1;funext s
    split
    ·rw[ALP]
     congr 1;funext q
     rw[ALP];congr 1;funext z;split<;>rfl
    ·rfl
   ·rfl
  ·rfl
 ·rfl
theorem pJ{T:Hq}{ts:Array TypeId}{σ:St}{x:XV}(k:K Y):bl T ts σ x k=(bl T ts σ x k0).bind fun p=>k p.1 p.2:=by
 unfold bl;split
 ·split
  ·split<;>rfl
  ·rfl
 ·rfl
theorem j7{c:Qz}{xs:List XV}{σ:St}(k:K Y):df c xs σ k=(df c xs σ k0).bind fun p=>k p.1 p.2:=by
 unfold df;split
 ·split
  ·rw[ALP];rfl
  ·rfl
 ·rfl
theorem mE{σ:St}{x:XV}(k:K Y):Ww σ x k=(Ww σ x k0).bind fun p=>k p.1 p.2:=by
 unfold Ww;split
 ·rw[ALP];rfl
 ·rfl
theorem jx{T:Hq}{Γ:Nat→Option Qz}{o:Oper}{σ:St}(k:K Y):S5 T Γ o σ k=(S5 T Γ o σ k0).bind fun p=>k p.1 p.2:=by
 unfold S5;split
 ·rfl
 ·exact mE k
 ·split
  ·rename_i x _
   cases x<;>rfl
  ·rfl
 ·split<;>rfl
 ·split
  ·split<;>rfl
  ·rfl
 ·split
  ·split<;>rfl
  ·rfl
 ·exact ef k
 ·split<;>rfl
 ·split
  ·split
   ·split<;>rfl
   ·rfl
  ·rfl
 ·split<;>rfl
 ·rw[fu,fu (Y:=XV×St),ALP];rfl
 ·rw[lL,lL (Y:=XV×St),ALP];rfl
 ·exact rr k
 ·split
  ·split<;>rfl
  ·rfl
 ·exact sN k
 ·exact o4 k
 ·split<;>rfl
 ·split<;>rfl
 ·exact pK k
 ·exact jV k
 ·split<;>rfl
 ·split
  ·split
   ·exact j7 k
   ·rfl
  ·split
   ·exact j7 k
   ·rfl
  ·rfl
 ·split
  ·split<;>rfl
  ·split
   ·split<;>rfl
   ·rfl
  ·rfl
 ·split
  ·exact nM k
  ·rfl
 ·split
  ·exact pJ k
  ·rfl
 ·split
  ·rw[Vi,Vi (Y:=XV×St),ALP];rfl
  ·rfl
 ·split
  ·rw[Vi,Vi (Y:=XV×St),ALP];rfl
  ·rfl
 ·rfl
theorem cD{I:Type}[Nonempty I]{T:Hq}{Γ:Nat→Option Qz}{o:Oper}{σ:St}{k:I→K Y}{y:Y}(h:∀i,S5 T Γ o σ (k i)=some y):∃x σ',S5 T Γ o σ k0=some (x,σ')∧ ∀i,k i x σ' =some y:=by
 obtain⟨i0⟩:= ‹Nonempty I›;have h0:=h i0;rw[jx]at h0;rw[AIm]at h0;obtain⟨⟨x,σ'⟩,h1,h2⟩:=h0;refine⟨x,σ',h1,fun i=> ?_⟩;have:=h i;rw[jx,h1]at this;exact this
end
end Go.Fw
end
section
namespace Go.Fw
def WF{α:Type}(P:Program)(s:Sem α):Prop:= ∀w v w1,s.run P w= .ok v w1→ ∀w',s.run P w' = .ok v w'
section
variable{α β:Type} {P:Program}
theorem WF.pure(x:α):WF P (Pure.pure x:Sem α):=fun w v w1 h w' =>by
 simp only[Sem.run_pure,Result.ok.injEq]at h⊢;exact⟨h.1,trivial⟩
theorem WF.bind{s:Sem α}{f:α→Sem β}(h:WF P s)(k:∀v,WF P (f v)):WF P (s >>= f):=fun w v w1 e w' =>by
 rw[Sem.run_bind]at e⊢;cases hs:s.run P w with
 |ok u w2=>
  rw[hs]at e;simp only[Result.andThen_ok]at e;rw[h w u w2 hs w'];simp only[Result.andThen_ok];exact k u w2 v w1 e w'
 |halt x w2=>
  rw[hs]at e;simp[Result.andThen]at e
theorem WF.halt(x:Halt):WF P (.halt x:Sem α):=fun w v w1 e w' =>by simp[Sem.run]at e
theorem WF.program:WF P program:=fun w v w1 e w' =>by
 rw[run_program]at e⊢;cases e;rfl
theorem WF.typeInfo(t:TypeId):WF P (typeInfo t):=WF.bind WF.program fun p=>by
 split
 ·exact WF.pure _
 ·exact WF.halt _
theorem WF.underlying(t:TypeId):WF P (underlying t):=WF.bind WF.program fun p=>by
 split
 ·exact WF.pure _
 ·exact WF.halt _
theorem WF.sizeOf(t:TypeId):WF P (Go.sizeOf t):=WF.bind (WF.typeInfo t) fun _=>WF.pure _
theorem WF.isAgg(t:TypeId):WF P (isAgg t):=WF.bind (WF.underlying t) fun d=>by
 split<;>exact WF.pure _
theorem WF.zeroValue(t:TypeId):WF P (zeroValue t):=WF.bind (WF.typeInfo t) fun i=>by
 split
 ·exact WF.pure _
 ·exact WF.halt _
theorem WF.asIntOf(v:Value):WF P (asIntOf v):=by
 unfold Go.asIntOf;split
 ·exact WF.pure _
 ·exact WF.halt _
 ·exact WF.halt _
theorem WF.asBool(v:Value):WF P (asBool v):=by
 unfold Go.asBool;split
 ·exact WF.pure _
 ·exact WF.halt _
theorem WF.asAgg(v:Value):WF P (asAgg v):=by
 unfold Go.asAgg;split
 ·exact WF.pure _
 ·exact WF.halt _
theorem WF.sureAddr(v:Value):WF P (Instr.sureAddr v):=by
 unfold Instr.sureAddr;split
 ·exact WF.pure _
 ·exact WF.halt _
theorem WF.nH{s:Sem α}(h:∀w v w1,s.run P w≠ .ok v w1):WF P s:=fun w v w1 e=>absurd e (h w v w1)
theorem Su{s:Sem α}{f:α→Sem β}(h:∀x w v w1,(f x).run P w≠ .ok v w1):∀w v w1,(s >>= f).run P w≠ .ok v w1:=fun w v w1 e=>by
 rw[Sem.run_bind]at e;cases hs:s.run P w with
 |ok u w2=>rw[hs]at e;exact h u w2 v w1 e
 |halt x w2=>rw[hs]at e;simp[Result.andThen]at e
theorem Zn(x:Halt):∀w v w1,(.halt x:Sem α).run P w≠ .ok v w1:=fun w v w1 e=>by simp[Sem.run]at e
theorem dJ(e:RuntimeError):∀w v w1,(runtimePanic e:Sem α).run P w≠ .ok v w1:=by
 unfold runtimePanic;refine Su fun p=> ?_
 dsimp only;split<;>first
  |exact Zn _
  |exact Su fun _=>Su fun _=>Zn _
  |exact Su fun _=>Zn _
theorem WF.bounds(k:IntKind)(x y:Int)(c:BoundsCode):WF P (boundsPanic k x y c:Sem α):=WF.nH (by
 unfold boundsPanic;dsimp only;split<;>exact Su fun _=>dJ _)
theorem WF.part(t:TypeId)(cs:Array Value)(o:Nat):WF P (part t cs o):=WF.bind (WF.isAgg t) fun b=>by
 split
 ·exact WF.bind (WF.sizeOf t) fun _=>WF.pure _
 ·split
  ·exact WF.pure _
  ·exact WF.halt _
theorem WF.field(t:TypeId)(x:Value)(f:Nat):WF P (Instr.field t x f):=WF.bind (WF.underlying t) fun d=>by
 split
 ·split
  ·exact WF.bind (WF.asAgg x) fun _=>WF.part _ _ _
  ·exact WF.halt _
 ·exact WF.halt _
theorem WF.indexAt(t:TypeId)(x i:Value):WF P (Instr.indexAt t x i):=WF.bind (WF.asIntOf i) fun q=>by
 obtain⟨k,i⟩:=q;dsimp only;refine WF.bind (WF.underlying t) fun d=> ?_
 have rest:∀q:Option Addr×Nat×TypeId,WF P (do
   let d←Go.underlying t
   match q.1 with
   |some a=>
    if 0≤i∧i<(q.2.1:Int)then do
     let s←Go.sizeOf q.2.2
     Pure.pure (Value.pointer (some (a.add (i.toNat*s))))
    else if(decide (q.2.1≤1)&&(match d with| .array .. =>true|_=>false))=true then unsupported (.noEntry "op/indexAddr.an index out of range at an array of length 0 or 1 (ledger 616)")
    else boundsPanic k i q.2.1 .index
   |none=>boundsPanic k i 0 .index:Sem Value):=fun q=>by
  refine WF.bind (WF.underlying t) fun d=> ?_
  split
  ·split
   ·exact WF.bind (WF.sizeOf _) fun _=>WF.pure _
   ·repeat' split
    all_goals first|exact WF.halt _|exact WF.bounds _ _ _ _
  ·exact WF.bounds _ _ _ _
 split
 ·exact WF.bind (WF.sureAddr _) fun _=>WF.bind (WF.pure _) fun q=>rest q
 ·exact WF.bind (WF.pure _) fun q=>rest q
 ·exact WF.bind (WF.halt _) fun q=>rest q
theorem WF.index(t:TypeId)(x i:Value):WF P (Instr.index t x i):=WF.bind (WF.asIntOf i) fun q=>by
 obtain⟨k,i⟩:=q;dsimp only;refine WF.bind (WF.underlying t) fun d=> ?_
 split
 ·split
  ·exact WF.bind (WF.sizeOf _) fun _=>WF.part _ _ _
  ·exact WF.bounds _ _ _ _
 ·split
  ·exact WF.pure _
  ·exact WF.bounds _ _ _ _
 ·exact WF.halt _
theorem WF.extract(x:Value)(i:Nat):WF P (Instr.extract x i):=by
 unfold Instr.extract;split
 ·split
  ·exact WF.pure _
  ·exact WF.halt _
 ·exact WF.halt _
theorem WF.sliceBound(x:Value)(y:Nat)(c:BoundsCode):WF P (Instr.sliceBound x y c):=WF.bind (WF.asIntOf x) fun q=>by
 obtain⟨k,i⟩:=q;dsimp only;split
 ·exact WF.pure _
 ·exact WF.bounds _ _ _ _
theorem WF.sliceBounds(b:Bool)(len cap:Nat)(l h:Option Value):WF P (Instr.sliceBounds b len cap l h none):=by
 cases h with
 |none=>
  cases l with
  |none=>exact WF.bind (WF.pure _) fun _=>WF.bind (WF.pure _) fun _=>WF.bind (WF.pure _) fun _=>WF.pure _
  |some l=>exact WF.bind (WF.pure _) fun _=>WF.bind (WF.pure _) fun _=>WF.bind (WF.sliceBound _ _ _) fun _=>WF.pure _
 |some h=>
  cases l with
  |none=>exact WF.bind (WF.pure _) fun _=>WF.bind (WF.sliceBound _ _ _) fun _=>WF.bind (WF.pure _) fun _=>WF.pure _
  |some l=>exact WF.bind (WF.pure _) fun _=>WF.bind (WF.sliceBound _ _ _) fun _=>WF.bind (WF.sliceBound _ _ _) fun _=>WF.pure _
theorem WF.asAddr(v:Value):WF P (asAddr v):=by
 unfold Go.asAddr;split
 ·exact WF.pure _
 ·exact WF.nH (dJ _)
 ·exact WF.halt _
theorem WF.slice(t:TypeId)(x:Value)(l h:Option Value):WF P (Instr.slice t x l h none):=WF.bind (WF.underlying t) fun d=>by
 split
 ·exact WF.bind (WF.sliceBounds _ _ _ _ _) fun _=>WF.pure _
 ·exact WF.bind (WF.sliceBounds _ _ _ _ _) fun _=>WF.bind (WF.sizeOf _) fun _=>WF.pure _
 ·refine WF.bind (WF.asAddr _) fun _=>WF.bind (WF.underlying _) fun d=> ?_
  split
  ·exact WF.bind (WF.sliceBounds _ _ _ _ _) fun _=>WF.bind (WF.sizeOf _) fun _=>WF.pure _
  ·exact WF.halt _
 ·exact WF.halt _
theorem WF.sliceAt(t:TypeId)(x:Value)(l h:Option Value):WF P (Instr.sliceAt t x l h none):=WF.bind (WF.underlying t) fun d=>by
 split
 ·exact WF.bind (WF.sureAddr _) fun _=>WF.bind (WF.sliceBounds _ _ _ _ _) fun _=>WF.bind (WF.sizeOf _) fun _=>WF.pure _
 ·exact WF.slice _ _ _ _
theorem WF.kO{f:α→Sem β}(h:∀x,WF P (f x)):∀l:List α,WF P (l.mapM f)
 |[]=>WF.pure _
 |x::l=>by
  rw[AOT];exact WF.bind (h x) fun _=>WF.bind (WF.kO h l) fun _=>WF.pure _
theorem WF.mapM{f:α→Sem β}(h:∀x,WF P (f x))(a:Array α):WF P (a.mapM f):=by
 rw[Array.mapM_eq_mapM_toList,←bind_pure_comp];exact WF.bind (WF.kO h _) fun _=>WF.pure _
theorem WF.build(t:TypeId)(ps:Array (Nat×Value)):WF P (Instr.build t ps):=WF.bind (WF.zeroValue t) fun z=>by
 refine WF.bind (WF.underlying t) fun d=> ?_
 split
 ·refine WF.bind (WF.mapM (fun f=>WF.bind (WF.sizeOf _) fun _=>WF.pure _) _) fun _=> ?_
  split
  ·exact WF.pure _
  ·exact WF.halt _
 ·refine WF.bind (WF.sizeOf _) fun _=> ?_
  split
  ·exact WF.pure _
  ·exact WF.halt _
 ·exact WF.halt _
end
end Go.Fw
end
section
namespace Go.Fw
def Kof(hint:AB1)(E:Env)(w:World)(bx:List Bx)(c:Nat):Prop:=E.T c∨ ∃n B,n∈hint∧bx[n]? =some B∧oJ E w n B c
def fQ(K:Nat→Prop)(w w':World):Prop:= ∀c,K c→w'.heap[c]? =w.heap[c]?
theorem qu{w:World}{B:Nat→Prop}:∀{p:List dK} {r:Ty} {h:Value} {rows:List r.D} {q:Ty} {ys:List q.D} {bb o len cap i:Nat},Rd w B (.sl r) [h] rows→CX r rows p→E6 r rows p=some ⟨q,ys⟩→
  HP w h p=some (.slice (some ⟨bb,o,none⟩) len cap)→i<ys.length→RB w (.sl r) [h] rows bb
 |[],r,h,rows,q,ys,bb,o,len,cap,i,hr,hp,hg,hh,hi=>by
  rw[CE]at hh;cases hh;simp only[E6,AIK,AKo]at hg;obtain⟨rfl,hg⟩:=hg;obtain rfl:=ALA hg;simp only[RB];exact⟨bb,o,len,cap,rfl,by omega,.inl rfl⟩
 |s::p,r,h,rows,q,ys,bb,o,len,cap,i,hr,hp,hg,hh,hi=>by
  simp only[CX]at hp;obtain⟨hsi,Mm,hp⟩:=hp;simp only[Rd]at hr;obtain⟨a,cap',e1,_,hr⟩:=hr;obtain rfl:=(List.cons.inj e1).1;rcases hr with hr|⟨b',o',rfl,hb,hr⟩
  ·omega
  obtain⟨cs,hl,hc,hrow⟩:=hr s.i _ (Nj hsi);simp only[E6]at hg;split at hg
  case h_2=>cases hg
  rename_i q' x Xq;rw[Xq]at hp;dsimp only at hp;obtain⟨v,hv,hrv⟩:=Ye hrow Xq;have hcv:=hc _ _ hv;rw[←Mm]at hcv;simp only[HP,hcv]at hh;have:=qu hrv hp hg hh hi;simp only[RB];refine⟨b',o',_,cap',rfl,by omega,.inr ⟨s.i,_,cs,Nj hsi,hl,hc,?_⟩⟩;clear hc hcv e1 hr;exact RB_cell hrow Xq hv this
where
 RB_cell {w:World} {B:Nat→Prop} {c:Nat}:∀{r:Ty} {cs:List Value} {x:r.D} {j:Nat} {t:Ty} {y:t.D} {v:Value},Rd w B r cs x→Am r j x=some ⟨t,y⟩→cs[j]? =some v→RB w t [v] y c→RB w r cs x c
 | .cons c r,cs,x,0,t,y,v,h,e,hv,k=>by
  simp only[Rd]at h;obtain⟨u,l,rfl,h1,h2⟩:=h;simp only[Am,AIK,AKo]at e;obtain⟨rfl,e⟩:=e;obtain rfl:=ALA e;simp at hv;subst hv;simp only[RB];exact⟨u,l,rfl,.inl k⟩
 | .cons c r,cs,x,j+1,t,y,v,h,e,hv,k=>by
  simp only[Rd]at h;obtain⟨u,l,rfl,h1,h2⟩:=h;simp only[Am]at e;have:=RB_cell h2 e (by simpa using hv) k;simp only[RB];exact⟨u,l,rfl,.inr this⟩
 | .int k,cs,x,0,t,y,v,h,e,hv,k' =>by
  simp only[Am,AIK,AKo]at e;obtain⟨rfl,_⟩:=e;simp[RB]at k'
 | .bool,cs,x,0,t,y,v,h,e,hv,k' =>by
  simp only[Am,AIK,AKo]at e;obtain⟨rfl,_⟩:=e;simp[RB]at k'
 | .str,cs,x,0,t,y,v,h,e,hv,k' =>by
  simp only[Am,AIK,AKo]at e;obtain⟨rfl,_⟩:=e;simp[RB]at k'
 | .sl r,cs,x,0,t,y,v,h,e,hv,k=>by
  simp only[Am,AIK,AKo]at e;obtain⟨rfl,e⟩:=e;obtain rfl:=ALA e;have hl:=br h;simp only[Ty.n]at hl;obtain⟨u,rfl⟩:=List.length_eq_one_iff.1 hl;simp at hv;subst hv;exact k
 | .unit,_,_,_,_,_,_,_,e,_,_=>by simp[Am]at e
 | .int _,_,_,_+1,_,_,_,_,e,_,_=>by simp[Am]at e
 | .bool,_,_,_+1,_,_,_,_,e,_,_=>by simp[Am]at e
 | .str,_,_,_+1,_,_,_,_,e,_,_=>by simp[Am]at e
 | .sl _,_,_,_+1,_,_,_,_,e,_,_=>by simp[Am]at e
section
variable{P:Program} {T:Hq} (hT:D4 P T) {E:Env} {w:World}
include hT
theorem kV{σ:St}{Fs:List AB1}(hB:KO E w σ.bx σ.bx Fs)(st:∀c,E.S c→E.T c){t:Nat}{x:AV}{z:XV}(e:dY T t σ (.c x)=some z){v:Value}(hx:VR E w σ.bx x v):
  ∃bb oo u y,v= .pointer (some ⟨bb,oo,none⟩)∧HI σ.bx x 0=some y∧XR E w σ.bx z u∧ ∀w',w'.heap[bb]? =w.heap[bb]?→(Instr.loadAt t v).run P w' = .ok u w':=by
 unfold dY at e;split at e
 case h_2=>cases e
 rename_i x' ti oI N8;cases oI;split at e
 case isTrue=>cases e
 rename_i Mm;have ak:=fun w=>D4.isAgg hT N8 w
 split at e
 ·rename_i ha
  simp only[AIX]at e;obtain⟨l,hl,rfl⟩:=e;obtain⟨h1,h2⟩:=WE hl;have h0:0<l.length:=by omega
  obtain⟨b,o,u,hv,_,_⟩:=Io hB st (h2 0 _ (AIH h0)) hx;obtain⟨cs,c1,c2,c3⟩:=X7 hB st hx hv (l:=l) (j:=0) (fun i y hy=>by simpa using h2 i y hy);subst hv;have ae:=(hT t ti N8).vl;cases hd:ti.desc with
  |st fs=>
   rw[hd]at ae;obtain⟨fields,hu,_⟩:=ae;refine⟨b,o,.agg cs.toArray,_,rfl,by simpa using h2 0 _ (AIH h0),⟨cs.toArray,rfl,by simpa using c3⟩,fun w' hw=>run_loadAt_mid w' b o t cs _ (by have:=c2.of_block hw;simpa[B7,World.rangeAt]using this) hu rfl ?_⟩;rw[D4.size hT N8,c1,h1]
  |_=>rw[hd]at ha;simp[TD.agg]at ha
 ·rename_i ha
  simp only[AK5]at ha;simp only[AIX]at e;obtain⟨y,hy,rfl⟩:=e;obtain⟨b,o,u,hv,hc,hr⟩:=Io hB st hy hx;subst hv;refine⟨b,o,u,y,rfl,hy,hr,fun w' hw=> ?_⟩;have ADP:=ak w';rw[ha]at ADP;simp only[ANB]at hc;have ZL:w'.cell? ⟨b,o,none⟩=some u:=by rw[World.cell?_of_block (a:=⟨b,o,none⟩) hw];exact hc
  simp[Instr.loadAt,Instr.sureAddr,loadVar,ADP,ZL]
end
theorem nA{E E':Env}{w w':World}{vw vw':List Bx}{t:Ty}{x:t.D}{v:Value}(h:VR E w vw (.v t x) v):VR E' w' vw' (.v t x) v:=by
 obtain⟨h1,h2⟩:=h;refine⟨h1,?_⟩;cases t<;>simp_all[Ty.scalar,Rd]
theorem ax{E E':Env}{w w':World}{vw vw':List Bx}{t:Ty}{x:t.D}{v u:Value}(h:VR E w vw (.v t x) v)(k:VR E' w' vw' (.v t x) u):v=u:=by
 obtain⟨h1,h2⟩:=h;obtain⟨_,k2⟩:=k;cases t<;>simp_all[Ty.scalar,Rd]
def bu(x:XV):Prop:=(∃t z,x= .c (.v t z))∨(∃l,x= .agg l∧ ∀c∈l,∃t z,c= .v t z)
theorem JT{E E':Env}{w w':World}{vw vw':List Bx}{x:XV}{v:Value}(hp:bu x)(h:XR E w vw x v):XR E' w' vw' x v:=by
 rcases hp with⟨t,z,rfl⟩|⟨l,rfl,hl⟩
 ·exact nA (E:=E) (w:=w) (vw:=vw) (E':=E') (w':=w') (vw':=vw') h
 ·obtain⟨vs,rfl,TE⟩:=h
  refine⟨vs,rfl,?_⟩
  generalize vs.toList=m at TE
  induction l generalizing m with
  |nil=>cases m with
   |nil=>trivial
   |cons _ _=>exact TE.elim
  |cons c l ih=>cases m with
   |nil=>exact TE.elim
   |cons u m=>
    obtain⟨t,z,rfl⟩:=hl c (by simp);exact⟨nA TE.1,ih (fun c hc=>hl c (by simp[hc])) m TE.2⟩
theorem lY{d:TD}{x z:AV}{p:Bool}(e:g_ d x z=some p):(∃t y,x= .v t y)∧ ∃t y,z= .v t y:=by
 unfold g_ at e;split at e
 ·exact⟨⟨_,_,rfl⟩,_,_,rfl⟩
 ·exact⟨⟨_,_,rfl⟩,_,_,rfl⟩
 ·exact⟨⟨_,_,rfl⟩,_,_,rfl⟩
 ·cases e
theorem VN{T:Hq}:∀{i:Nat} {fs:List ADF} {l m:List AV} {r:Bool},IZ T i fs l m=some r→(∀c∈l,∃t z,c= .v t z)∧ ∀c∈m,∃t z,c= .v t z
 |i,[],[],[],r,e=>by simp
 |i,(o,t)::fs,x::l,z::m,r,e=>by
  simp only[IZ]at e;split at e
  case isFalse=>cases e
  split at e
  case h_2=>cases e
  split at e
  case h_2=>cases e
  rename_i p hp;simp only[AIX]at e;obtain⟨r',e1,_⟩:=e;obtain⟨a1,a2⟩:=lY hp;obtain⟨b1,b2⟩:=VN e1;exact⟨fun c hc=>(AKv.1 hc).elim (fun e=>e▸a1) (b1 c),fun c hc=>(AKv.1 hc).elim (fun e=>e▸a2) (b2 c)⟩
 |_,[],[],_::_,_,e=>by simp[IZ]at e
 |_,[],_::_,_,_,e=>by simp[IZ]at e
 |_,_::_,[],_,_,e=>by simp[IZ]at e
 |_,_::_,_::_,[],_,e=>by simp[IZ]at e
theorem wF{op:BinOp}{κ:IntKind}{a b:Int}{r:AV}(e:ZD op κ a b some=some r):∃t x,r= .v t x:=by
 cases op<;>simp only[ZD,AIK]at e<;>first
  |exact⟨_,_,e.symm⟩
  |(
   split at e
   ·cases e
   ·cases e;exact⟨_,_,rfl⟩)
  |cases e
theorem kL{op:BinOp}{κ:IntKind}{a b:Int}{r:AV}(e:T0 op κ a b some=some r):∃t x,r= .v t x:=by
 unfold T0 at e;split at e
 ·cases e
 ·cases op<;>simp only[AIK]at e<;>first
   |exact⟨_,_,e.symm⟩
   |cases e
theorem ABb{op:BinOp}{a b:ACu}{r:AV}(e:ai op a b some=some r):∃t x,r= .v t x:=by
 cases op<;>simp only[ai,AIK]at e<;>first
  |exact⟨_,_,e.symm⟩
  |(
   split at e
   ·cases e;exact⟨_,_,rfl⟩
   ·cases e)
  |cases e
theorem AHU{T:Hq}{t:Nat}{op:BinOp}{a b:XV}{r:AV}(e:mX T t op a b some=some r):(∃t x,r= .v t x)∧bu a∧bu b:=by
 unfold mX at e;split at e
 ·refine⟨?_,.inl ⟨_,_,rfl⟩,.inl ⟨_,_,rfl⟩⟩
  split at e
  ·exact kL e
  ·exact kL e
  ·split at e
   ·exact wF e
   ·cases e
 ·exact⟨ABb e,.inl ⟨_,_,rfl⟩,.inl ⟨_,_,rfl⟩⟩
 ·refine⟨?_,.inl ⟨_,_,rfl⟩,.inl ⟨_,_,rfl⟩⟩
  split at e
  ·split at e
   ·split at e
    ·cases e;exact⟨_,_,rfl⟩
    ·cases e;exact⟨_,_,rfl⟩
    ·cases e
   ·cases e
  ·cases e
 ·split at e
  ·rename_i hq
   rw[AIm]at hq;obtain⟨fs,_,hq⟩:=hq;obtain⟨q1,q2⟩:=VN hq;cases e;exact⟨⟨_,_,rfl⟩,.inr ⟨_,rfl,q1⟩,.inr ⟨_,rfl,q2⟩⟩
  ·rename_i hq
   rw[AIm]at hq;obtain⟨fs,_,hq⟩:=hq;obtain⟨q1,q2⟩:=VN hq;cases e;exact⟨⟨_,_,rfl⟩,.inr ⟨_,rfl,q1⟩,.inr ⟨_,rfl,q2⟩⟩
  ·cases e
 ·cases e
theorem tg{g:Bool}{a b:XV}{r:AV}(e:lU g a b some=some r):(∃t x,r= .v t x)∧bu a∧bu b:=by
 unfold lU at e;split at e
 ·refine⟨?_,.inl ⟨_,_,rfl⟩,.inl ⟨_,_,rfl⟩⟩
  split at e
  ·cases g<;>(cases e;exact⟨_,_,rfl⟩)
  ·cases e
 ·cases e
theorem AKN{op:UnOp}{a:XV}{r:AV}(e:unX op a some=some r):(∃t x,r= .v t x)∧bu a:=by
 unfold unX at e;split at e
 ·cases e;exact⟨⟨_,_,rfl⟩,.inl ⟨_,_,rfl⟩⟩
 ·cases e;exact⟨⟨_,_,rfl⟩,.inl ⟨_,_,rfl⟩⟩
 ·cases e
section
variable{Y:Type} {P:Program} {T:Hq} (hT:D4 P T) {Γ:Nat→Option Qz} {o:Oper} {E:Env} {σ:St} {a:Act} {w:World} {k:K Y} {y:Y}
include hT
theorem sW(h:Rel E σ a w){t:TypeId}(ps:Array (Nat×Operand)){s b:Nat}{fs:List ADF}{rw:Option Ty}(N8:T.get t=some ⟨s,b,.st fs,rw⟩){r:Ty}(hr:T.aI t=some r)
  {cs:List AV} (hb:Zf T fs (WL r) (ps.toList.map fun q=>(q.1,σ.ev q.2))=some cs):
  ∃KQ,(∀w',(Instr.build t (ps.map fun(i,x)=>(i,a.eval x))).run P w' = .ok (.agg KQ) w')∧bR E w σ.bx cs KQ.toList:=by
 obtain⟨i,z,h1,h2,h3,_⟩:=row_zero hT hr;obtain⟨fields,hu,hfs,Mm⟩:=AAP hT N8;obtain⟨KQ,f1,f2⟩:=Wh hT (iJ h ps) (arr:=z.cells) (by rw[h3];exact UH r) hb;refine⟨KQ,fun w' => ?_,f2⟩;have hb:P.built t (ps.map fun(i,x)=>(i,a.eval x)).toList=some KQ:=by
  unfold Program.built;simp only[h1,hu,h2];have hm:fields.toList.mapM (fun f=>(P.info? f.type).map fun i=>(f.offset,i.size))=some (fields.toList.map fun f=>(f.offset,((P.info? f.type).map (·.size)).getD 0)):=by
   refine iR fun f hf=> ?_
   obtain⟨i',D6,_⟩:=Mm f hf;simp[D6]
  simp only[hm];rw[←f1];congr 1;funext n;subst hfs;simp only[List.getElem?_toArray,ALC];cases hn:fields.toList[n]? with
  |none=>simp
  |some f=>
   obtain⟨i',D6,_⟩:=Mm f (AKh hn);simp[D6]
 exact run_build (P:=P) w' t (ps.map fun(i,x)=>(i,a.eval x)) KQ hb
theorem o7{hint:AB1}(h:Rel E σ a w)(hq:bH hint σ o.op=true)(e:S5 T Γ o σ k=some y):
  ∃v x,XR E w σ.bx x v∧k x σ=some y∧ ∀w',fQ (Kof hint E w σ.bx) w w'→(execOp a.eval o).run P w' = .ok (.value v) w':=by
 obtain⟨Fs,hB,hS⟩:=h.bx;have st:=hS.st;have wf:∀{s:Sem Value} {v:Value},WF P s→s.run P w= .ok v w→ ∀w',s.run P w' = .ok v w':=fun h1 h2 w' =>h1 w _ w h2 w'
 unfold S5 at e;split at e
 ·rename_i x ho
  exact⟨a.eval x,_,h.ev x,e,fun w' _=>by simp only[execOp,ho,Sem.run_pure]⟩
 ·rename_i x ho
  unfold Ww at e;split at e
  ·rename_i hx
   rw[ho]at hq;simp only[bH,hx]at hq;cases hq
  ·exact⟨a.eval x,_,h.ev x,e,fun w' _=>by simp only[execOp,ho,Sem.run_pure]⟩
 ·rename_i c xa xb ho
  split at e
  case h_2=>cases e
  rename_i p hp;have hc:=h.ev c;rw[hp]at hc;have ZL:=OW (E:=E) (w:=w) (vw:=σ.bx) hc;refine⟨if p then a.eval xa else a.eval xb,if p then σ.ev xa else σ.ev xb,by cases p<;>simp[h.ev],by cases p<;>simpa[uI]using e,fun w' _=>by simp[execOp,ho,ZL,asBool]⟩
 ·rename_i t ho;rw[ho]at hq;cases hq
 ·rename_i t x ho;rw[ho]at hq;cases hq
 ·rename_i t ps ho
  split at e
  case h_2=>cases e
  rename_i s b fs rw r N8 hr;split at e
  case h_2=>cases e
  rename_i cs tA;obtain⟨KQ,h1,h2⟩:=sW hT h ps N8 hr tA;exact⟨.agg KQ,.agg cs,⟨KQ,rfl,h2⟩,e,fun w' _=>by simp only[execOp,ho,Sem.run_bind,h1 w',Result.andThen_ok,Sem.run_pure]⟩
 ·rename_i t n ps ho;rw[ho]at hq;cases hq
 ·rename_i t x ho
  rw[ho]at hq;split at e
  case h_2=>cases e
  rename_i z hz;have hv:=h.ev x;simp only[bH]at hq
  generalize hX:σ.ev x=X at hq hv hz
  cases X with
  |agg l=>cases hq
  |Kv l=>cases hq
  |c ad=>
   obtain⟨bb,oo,u,cell,hp,hc,h2,h3⟩:=kV hT hB st hz hv;refine⟨u,z,h2,e,fun w' hw' => ?_⟩;have v8:w'.heap[bb]? =w.heap[bb]?:=by
    refine hw' bb ?_
    have W4:VR E w σ.bx ad (a.eval x):=hv;cases ad with
    |GA b j=>
     simp only[Z2,AOJ]at hq;simp only[HI]at hc;split at hc
     ·rename_i cs hb
      refine .inr ⟨b,_,hq,hb,?_⟩;have:=W4.2;rw[hp]at this;simp only[Value.pointer.injEq,AIK,Addr.mk.injEq]at this;exact this.1
     ·cases hc
    |HW b p i sz j=>
     simp only[Z2,AOJ]at hq;simp only[HI]at hc;split at hc
     ·rename_i d q rows hb
      refine .inr ⟨b,_,hq,hb,?_⟩;simp only[VR,hb]at W4;obtain⟨_,hpp,q1,ys,b2,o2,len,cap,g1,g2,g3,g4⟩:=W4;rw[hp]at g4;simp only[Value.pointer.injEq,AIK,Addr.mk.injEq]at g4;obtain⟨rfl,_⟩:=g4;obtain⟨F,⟨_,ho2⟩,_⟩:=hB.get hb;exact qu (Uh ho2) hpp g1 g3 g2
     ·cases hc
    |K4 s r z j=>
     obtain⟨b2,o2,cs,g1,g2,_⟩:=W4;rw[hp]at g1;simp only[Value.pointer.injEq,AIK,Addr.mk.injEq]at g1;obtain⟨rfl,_⟩:=g1
     left
     cases s with
     |true=>exact st _ (by simpa using g2)
     |false=>simpa using g2
    |_=>cases hq
   simp only[execOp,ho,Sem.run_bind,h3 w' v8,Result.andThen_ok,Sem.run_pure]
 ·rename_i t xa xx ho;rw[ho]at hq;cases hq
 ·rename_i x ho
  have hx:=h.ev x;split at e
  ·rename_i b j hp
   rw[hp]at hx;have oI:b<σ.bx.length∧a.eval x= .pointer (some ⟨E.GB b,j,none⟩):=hx;exact⟨a.eval x,_,hx,e,fun w' _=>by simp only[execOp,ho,oI.2,Sem.run_pure]⟩
  ·rename_i b p i sz j hp
   rw[hp]at hx;have uW:XM (a.eval x)=true:=hx.1;refine⟨a.eval x,_,hx,e,fun w' _=> ?_⟩;unfold XM at uW;split at uW
   ·rename_i hv
    simp only[execOp,ho,hv,Sem.run_pure]
   ·cases uW
  ·rename_i s r z j hp
   rw[hp]at hx;obtain⟨bb,oo,cs,hv,hrest⟩:=hx;exact⟨a.eval x,.c (.K4 s r z j),⟨bb,oo,cs,hv,hrest⟩,e,fun w' _=>by simp only[execOp,ho,hv,Sem.run_pure]⟩
  ·rename_i f Hg hp
   rw[hp]at hx;have oI:(∀b∈Hg,b<σ.bx.length)∧a.eval x= .func (.func f) #[] (Hg.map fun b=>Value.pointer (some ⟨E.GB b,0,none⟩)).toArray:=hx;exact⟨a.eval x,_,hx,e,fun w' _=>by simp only[execOp,ho,oI.2,Sem.run_pure]⟩
  ·cases e
 ·rename_i op t x z s ho
  rw[fu,AIm]at e;obtain⟨r,e1,e⟩:=e;obtain⟨⟨t',x',rfl⟩,p1,p2⟩:=AHU e1;obtain⟨r0,val,h1,h2,h3⟩:=ZW hT e1 (h.ev x) (h.ev z) x z;cases h1;refine⟨val,.c (.v t' x'),h3,e,fun w' _=> ?_⟩;obtain⟨r1,val',g1,g2,g3⟩:=ZW hT e1 (JT (E':=E) (w':=w') (vw':=σ.bx) p1 (h.ev x)) (JT p2 (h.ev z)) x z;cases g1;have:=ax h3 g3;subst this;simp only[execOp,ho,Sem.run_bind];simp only[Sem.run_bind]at g2;rw[g2];rfl
 ·rename_i op t x ho
  rw[lL,AIm]at e;obtain⟨r,e1,e⟩:=e;obtain⟨⟨t',x',rfl⟩,p1⟩:=AKN e1;obtain⟨r0,val,h1,h2,h3⟩:=bd (P:=P) e1 (h.ev x);cases h1;refine⟨val,.c (.v t' x'),h3,e,fun w' _=> ?_⟩;obtain⟨r1,val',g1,g2,g3⟩:=bd (P:=P) e1 (JT (E':=E) (w':=w') (vw':=σ.bx) p1 (h.ev x));cases g1;have:=ax h3 g3;subst this;simp only[execOp,ho,Sem.run_bind,g2,Result.andThen_ok,Sem.run_pure]
 ·rename_i s d x ho;rw[ho]at hq;cases hq
 ·rename_i f first Hg ho;rw[ho]at hq;cases hq
 ·rename_i t l c ho;rw[ho]at hq;cases hq
 ·rename_i t x lo hi ho
  obtain⟨z,val,h1,h2,h3⟩:=bT hT hB st e (h.ev x) (qg h lo) (qg h hi);exact⟨val,z,h3,h1,fun w' _=>by simp only[execOp,ho,Option.map_none,Sem.run_bind,wf (WF.sliceAt _ _ _ _) h2 w',Result.andThen_ok,Sem.run_pure]⟩
 ·rename_i t x f ho
  split at e
  case h_2=>cases e
  rename_i z hz;obtain⟨u,h1,h2⟩:=aU hT hz (h.ev x);refine⟨u,z,h2,e,fun w' _=> ?_⟩;have hw:(Instr.fieldAt t (a.eval x) f).run P w' = .ok u w':=by
   have hx:=h.ev x;unfold kq at hz;split at hz
   case h_2=>cases hz
   rename_i s b fs _ N8;split at hz
   case h_2=>cases hz
   rename_i o' u' hf;have key:∀ad,a.eval x= .pointer (some ad)→(Instr.fieldAt t (a.eval x) f).run P w' = .ok u w':=by
    intro ad had;rw[had]at h1⊢;have r1:=Qg hT (w:=w) N8 hf (a:=ad);have r2:=Qg hT (w:=w') N8 hf (a:=ad);rw[r1]at h1;cases h1;exact r2
   split at hz
   ·rename_i b' j hp
    rw[hp]at hx;exact key _ hx.2
   ·rename_i b' p i sz j hp
    rw[hp]at hx;have uW:XM (a.eval x)=true:=hx.1;unfold XM at uW;split at uW
    ·rename_i hv;exact key _ hv
    ·cases uW
   ·rename_i s r y' j hp
    rw[hp]at hx;obtain⟨bb,oo,cs,hv,_⟩:=hx;exact key _ hv
   ·cases hz
  simp only[execOp,ho,Sem.run_bind,hw,Result.andThen_ok,Sem.run_pure]
 ·rename_i t x f ho
  split at e
  case h_2=>cases e
  rename_i z hz;obtain⟨u,h1,h2⟩:=dW hT hz (h.ev x);exact⟨u,z,h2,e,fun w' _=>by simp only[execOp,ho,Sem.run_bind,wf (WF.field _ _ _) h1 w',Result.andThen_ok,Sem.run_pure]⟩
 ·rename_i t x i ho
  obtain⟨z,val,h1,h2,h3⟩:=aT hT hB st e (h.ev x) (h.ev i);exact⟨val,z,h3,h1,fun w' _=>by simp only[execOp,ho,Sem.run_bind,wf (WF.indexAt _ _ _) h2 w',Result.andThen_ok,Sem.run_pure]⟩
 ·rename_i t x i ho
  obtain⟨z,val,h1,h2,h3⟩:=XK hT e (h.ev x) (h.ev i);exact⟨val,z,h3,h1,fun w' _=>by simp only[execOp,ho,Sem.run_bind,wf (WF.index _ _ _) h2 w',Result.andThen_ok,Sem.run_pure]⟩
 ·rename_i x i ho
  split at e
  case h_2=>cases e
  rename_i z hz;obtain⟨u,h1,h2⟩:=X1 (P:=P) hz (h.ev x);exact⟨u,z,h2,e,fun w' _=>by simp only[execOp,ho,Sem.run_bind,wf (WF.extract _ _) h1 w',Result.andThen_ok,Sem.run_pure]⟩
 ·rename_i f args jn ho;rw[ho]at hq;cases hq
 ·rename_i args jn ho
  split at e
  ·rename_i s t Gp hts
   obtain⟨x,rfl,hx⟩:=TK Gp;have hv:=h.ev x;rw[hx]at hv;have W4:=Tp (E:=E) (w:=w) (vw:=σ.bx) hv;split at e
   case isFalse=>cases e
   rename_i hs;have hu:=Tm hT hs;refine⟨.int .i64 (s.length:Int),.c (.v (.int .i64) (s.length:Int)),VR.int (E:=E) (vw:=σ.bx) _ _,e,fun w' _=> ?_⟩;have Mm:(⟨s.toArray⟩:ByteArray).size=s.length:=by simp[ByteArray.size]
   simp[execOp,ho,resolve,invoke,builtin,Builtin.len_,hts,W4,A4 hu,goInt,Mm]
  ·rename_i z t _ Gp hts
   obtain⟨x,rfl,hx⟩:=TK Gp;have hv:=h.ev x;rw[hx]at hv;split at e
   case isFalse=>cases e
   rename_i hs;split at e
   case h_2=>cases e
   rename_i n hn;obtain⟨el,hu⟩:=bn hT hs;obtain⟨ad,cap,W4⟩:=dH hB st hn hv;refine⟨.int .i64 (n:Int),.c (.v (.int .i64) (n:Int)),VR.int (E:=E) (vw:=σ.bx) _ _,e,fun w' _=> ?_⟩;simp[execOp,ho,resolve,invoke,builtin,Builtin.len_,hts,W4,A4 hu,goInt]
  ·cases e
 ·rename_i args jn ho;rw[ho]at hq;cases hq
 ·rename_i args jn ho;rw[ho]at hq;cases hq
 ·rename_i args jn ho
  split at e
  case h_2=>cases e
  rename_i x1 x2 Gp;obtain⟨o1,o2,rfl,hx1,hx2⟩:=TW Gp;have XF:=h.ev o1;have V0:=h.ev o2;rw[hx1]at XF;rw[hx2]at V0;rw[Vi,AIm]at e;obtain⟨r,e1,e⟩:=e;obtain⟨⟨t',x',rfl⟩,p1,p2⟩:=tg e1;obtain⟨r0,val,h1,h2,h3⟩:=P6 (P:=P) (big:=true) e1 XF V0 jn #[] o.type;cases h1;refine⟨val,.c (.v t' x'),h3,e,fun w' _=> ?_⟩;obtain⟨r1,val',g1,g2,g3⟩:=P6 (P:=P) (big:=true) e1 (JT (E':=E) (w':=w') (vw':=σ.bx) p1 XF) (JT p2 V0) jn #[] o.type;cases g1;have:=ax h3 g3;subst this;simp only[AMF]at g2;simp[execOp,ho,resolve,invoke,builtin,g2]
 ·rename_i args jn ho
  split at e
  case h_2=>cases e
  rename_i x1 x2 Gp;obtain⟨o1,o2,rfl,hx1,hx2⟩:=TW Gp;have XF:=h.ev o1;have V0:=h.ev o2;rw[hx1]at XF;rw[hx2]at V0;rw[Vi,AIm]at e;obtain⟨r,e1,e⟩:=e;obtain⟨⟨t',x',rfl⟩,p1,p2⟩:=tg e1;obtain⟨r0,val,h1,h2,h3⟩:=P6 (P:=P) (big:=false) e1 XF V0 jn #[] o.type;cases h1;refine⟨val,.c (.v t' x'),h3,e,fun w' _=> ?_⟩;obtain⟨r1,val',g1,g2,g3⟩:=P6 (P:=P) (big:=false) e1 (JT (E':=E) (w':=w') (vw':=σ.bx) p1 XF) (JT p2 V0) jn #[] o.type;cases g1;have:=ax h3 g3;subst this;simp only[AJp,ALG]at g2;simp[execOp,ho,resolve,invoke,builtin,g2]
 ·cases e
end
end Go.Fw
end
section
namespace Go.Fw
section
variable{P:Program} {md:Region.Mode} {ops:Array Oper} {Q:Exit→Act→World→Prop}
theorem fQ.refl(K:Nat→Prop)(w:World):fQ K w w:=fun _ _=>rfl
def mw(P:Program)(md:Region.Mode)(ops:Array Oper)(Q:Exit→Act→World→Prop):Nat→Array Bool→(Nat→Prop)→Act→World→Prop
 |0,Cy,_,a,w=>Region.ready md ops Cy=[]∧Q .normal a w
 |fuel+1,Cy,K,a,w=>(Region.ready md ops Cy=[]→Q .normal a w)∧
  ∀i∈Region.ready md ops Cy,wpOp P ops Q i (fun a' w' => ∃K':Nat→Prop,(∀c,K c→K' c)∧fQ K w w'∧mw P md ops Q fuel (Cy.setIfInBounds i true) K' a' w') a w
theorem kU:∀(fuel:Nat) (Cy:Array Bool) (K:Nat→Prop) (a:Act) (w:World),mw P md ops Q fuel Cy K a w→wpAny P md ops Q fuel Cy a w
 |0,_,_,_,_,h=>h
 |fuel+1,_,_,_,_,h=>⟨h.1,fun i hi=>wpOp_mono (fun a' w' ⟨K',_,_,h'⟩=>kU fuel _ K' a' w' h') (h.2 i hi)⟩
theorem YieldsIf.mono{S S':World→Prop}{o:Oper}{v:Value}{a:Act}(h:YieldsIf P ops S o v a)(hs:∀w,S' w→S w):YieldsIf P ops S' o v a:=
 h.imp (fun⟨h1,h2⟩=>⟨h1,fun w hw=>h2 w (hs w hw)⟩) id
theorem dR{i:Nat}{oi:Oper}{v:Value}(hi:ops[i]? =some oi)(vV:∀(j:Nat) (o:Oper) cs b,ops[j]? =some o→o.op≠ .select cs b)(hQ:∀c a w,¬Q (.panic c) a w):
  ∀(fuel:Nat) (Cy:Array Bool) (K:Nat→Prop) (a:Act) (w:World),
   (∀j oj,ops[j]? =some oj→j≠i→Cy.getD j true=false→(∀e∈oj.after,Region.binds md e=true→e.on≠i)→oi.apart ops oj=true)→
   i∈Region.ready md ops Cy→YieldsIf P ops (fQ K w) oi v a→mw P md ops Q fuel (Cy.setIfInBounds i true) K (a.put oi.dst v) w→mw P md ops Q (fuel+1) Cy K a w:=by
 intro fuel
 induction fuel with
 |zero=>
  intro Cy K a w _ hr hy H;refine⟨fun h=>(by rw[h]at hr;cases hr),fun j hj=> ?_⟩;by_cases hji:j=i
  ·subst hji;exact hy.wpOp hi (fQ.refl K w) ⟨K,fun _ h=>h,fQ.refl K w,H⟩
  ·have:=ready_mono hj hji
   rw[H.1]at this;cases this
 |succ fuel ih=>
  intro Cy K a w Rg hr hy H;refine⟨fun h=>(by rw[h]at hr;cases hr),fun j hj=> ?_⟩;by_cases hji:j=i
  ·subst hji;exact hy.wpOp hi (fQ.refl K w) ⟨K,fun _ h=>h,fQ.refl K w,H⟩
  ·have h1:=H.2 j (ready_mono hj hji)
   obtain⟨hjun,oj,hoj,XX⟩:=mem_ready.1 hj;have yB:∀e∈oj.after,Region.binds md e=true→e.on≠i:=fun e he hb heq=>by
    have h1:=XX e he hb;have h0:=(mem_ready.1 hr).1;rw[heq]at h1;rcases Nat.lt_or_ge i Cy.size with h'|h'
    ·simp[h']at h0 h1;rw[h0]at h1;cases h1
    ·simp[Array.getElem?_eq_none h']at h1
   have h2:=wpOp_putIf hoj (Rg j oj hoj hji hjun yB) (fun cs b=>vV i oi cs b hi) (fun cs b=>vV j oj cs b hoj) (fun c a w h=>absurd h (hQ c _ w)) hy h1;have AEd:∀k ok,ops[k]? =some ok→k≠i→(Cy.setIfInBounds j true).getD k true=false→
     (∀e∈ok.after,Region.binds md e=true→e.on≠i)→oi.apart ops ok=true:=fun k ok hk hki hun hno=>by
    refine Rg k ok hk hki ?_ hno
    by_cases hjk:j=k
    ·subst hjk;exact hjun
    ·rw[getD_set_ne true hjk]at hun;exact hun
   refine wpOp_mono (fun a' w' h3=> ?_) h2;obtain⟨nB,K',hK,hs,ht⟩:=h3;refine⟨K',hK,hs,ih (Cy.setIfInBounds j true) K' a' w' AEd (ready_mono hr (Ne.symm hji)) (YieldsIf.mono nB fun w'' AMV c hc=>(AMV c (hK c hc)).trans (hs c hc)) ?_⟩;rw[Array.setIfInBounds_comm _ _ hji];exact ht
end
theorem dU{Y:Type}{f:Nat→List Bool→Option Y}{y:Y}:∀{rs:AB1},(∀ω,kj f rs ω=some y)→ ∀i∈rs,∀ω,f i ω=some y
 |[i],h,j,hj,ω=>by
  simp at hj;subst hj;exact h ω
 |i::j::r,h,k,hk,ω=>by
  rcases AKv.1 hk with rfl|hk
  ·exact h (true::ω)
  ·exact dU (rs:=j::r) (fun ω=>h (false::ω)) k hk ω
theorem nX{σ:St}{t:Nat}{b:Bool}(e:σ.tm[t]? =some (.c (.v .bool b))):σ.put (some t) (.c (.v .bool b))=σ:=by
 simp only[St.put];obtain⟨tm,bx⟩:=σ;simp only[St.mk.injEq,AL0];obtain⟨Dj,he⟩:=AIE.1 e;apply ANv;intro i;rw[ALz];split
 ·rename_i e1;subst e1;exact e.symm
 ·rfl
theorem j0{Y I:Type}[Nonempty I]{C:Z6}{ops:Array Oper}{o:Oper}{kn:I→St→Option Y}{σ:St}{y:Y}{E:Env}{a:Act}{w:World}(h:Rel E σ a w)
  (e:∀ω,qV C ops o (kn ω) σ=some y):
  (Region.wanted o (yielded ops a.tmps)=true∧ ∀ω,(S5 C.T C.Γ o σ fun x σ' =>kn ω (σ'.put o.dst x))=some y)∨
  (Region.wanted o (yielded ops a.tmps)=false∧ ∀ω,kn ω (σ.put o.dst (.Kv []))=some y):=by
 unfold qV at e;cases hg:o.guard with
 |none=>
  simp only[hg]at e;exact .inl ⟨by simp[Region.wanted,hg],e⟩
 |some q=>
  obtain⟨j,want⟩:=q;simp only[hg]at e;cases ht:(ops[j]?).bind (·.dst)with
  |none=>
   simp only[ht]at e;obtain⟨i0⟩:= ‹Nonempty I›;cases e i0
  |some t=>
   simp only[ht]at e;obtain⟨i0⟩:= ‹Nonempty I›;have e0:=e i0;split at e0
   ·rename_i b hb
    simp only[hb]at e;obtain⟨v,hv,hx⟩:=h.tmp hb;have hvb:=OW (E:=E) (w:=w) (vw:=σ.bx) hx;subst hvb;have hy:yielded ops a.tmps j=some b:=by rw[WA ht hv];rfl
    have hk:=nX hb;cases b with
    |true=>
     simp only[AKM,tt,hk]at e;cases want with
     |true=>exact .inl ⟨by simp[Region.wanted,hg,hy],fun ω=>by simpa using e ω⟩
     |false=>exact .inr ⟨by simp[Region.wanted,hg,hy],fun ω=>by simpa using e ω⟩
    |false=>
     simp only[AI5,ff,hk]at e;cases want with
     |true=>exact .inr ⟨by simp[Region.wanted,hg,hy],fun ω=>by simpa using e ω⟩
     |false=>exact .inl ⟨by simp[Region.wanted,hg,hy],fun ω=>by simpa using e ω⟩
   ·rename_i hb
    simp only[hb]at e;obtain⟨v,hv,vs,rfl,hx⟩:=h.tmp hb;have hy:yielded ops a.tmps j=none:=by rw[WA ht hv];rfl
    exact .inr ⟨by simp[Region.wanted,hg,hy],e⟩
   ·cases e0
theorem uh{ops:Array Oper}{o:Oper}{σ:St}{E:Env}{a:Act}{w:World}(h:Rel E σ a w)(e:idle ops σ o=true):Region.wanted o (yielded ops a.tmps)=false:=by
 unfold idle at e;cases hg:o.guard with
 |none=>simp[hg]at e
 |some q=>
  obtain⟨j,want⟩:=q;simp only[hg]at e;cases ht:(ops[j]?).bind (·.dst)with
  |none=>simp[ht]at e
  |some t=>
   simp only[ht]at e;split at e
   ·rename_i b hb
    obtain⟨v,hv,hx⟩:=h.tmp hb;have hvb:=OW (E:=E) (w:=w) (vw:=σ.bx) hx;subst hvb;have hy:yielded ops a.tmps j=some b:=by rw[WA ht hv];rfl
    cases b<;>cases want<;>simp_all[Region.wanted]
   ·rename_i hb
    obtain⟨v,hv,vs,rfl,hx⟩:=h.tmp hb;have hy:yielded ops a.tmps j=none:=by rw[WA ht hv];rfl
    simp[Region.wanted,hg,hy]
   ·cases e
theorem kR{Y I:Type}[Nonempty I]{C:Z6}{ops:Array Oper}{i:Nat}{o:Oper}(ho:ops[i]? =some o){kn:I→St→Option Y}{σ:St}{y:Y}{E:Env}{a:Act}{w:World}(h:Rel E σ a w)
  (e:∀ω,qt C ops i (kn ω) σ=some y):
  (Region.wanted o (yielded ops a.tmps)=true∧ ∀ω,(S5 C.T C.Γ o σ fun x σ' =>kn ω (σ'.put o.dst x))=some y)∨
  (Region.wanted o (yielded ops a.tmps)=false∧ ∀ω,kn ω (σ.put o.dst (.Kv []))=some y):=
 j0 h fun ω=>by
  have:=e ω;unfold qt at this;simpa only[ho]using this
theorem um{hint t:AB1}{E E':Env}{bx NG:List Bx}{w w':World}(h:Nx t E bx w E' NG w')(ht:∀b∈t,b∉hint)(ha:∀b∈hint,ck NG b=false):
  (∀c,Kof hint E w bx c→Kof hint E' w' NG c)∧fQ (Kof hint E w bx) w w':=by
 have key:∀n B,n∈hint→bx[n]? =some B→ ∃B',NG[n]? =some B'∧RC B B'∧ ∀c,oJ E w n B c→w'.heap[c]? =w.heap[c]?:=by
  intro n B hn hB;have hd:=ha n hn;unfold ck at hd;split at hd
  ·cases hd
  ·rename_i B' aO Oa
   obtain⟨h1,h2⟩:=h.frame n B B' (fun hm=>ht n hm hn) hB Oa aO;exact⟨B',Oa,h1,h2⟩
  ·cases hd
 refine⟨fun c hc=> ?_,fun c hc=> ?_⟩
 ·rcases hc with hc|⟨n,B,hn,hB,hc⟩
  ·exact .inl (h.base.T c hc)
  ·obtain⟨B',Oa,hs,hh⟩:=key n B hn hB
   have jC:=h.ids n (AIE.1 hB).1;refine .inr ⟨n,B',hn,Oa,?_⟩;cases B with
   |mem cs=>
    cases B' with
    |mem W0=>simp only[oJ]at hc⊢;rw[jC.1];exact hc
    |sl _ _ _=>exact hs.elim
    |dead=>exact hs.elim
   |sl d r rows=>
    cases B' with
    |mem W0=>exact hs.elim
    |dead=>exact hs.elim
    |sl d' r' CC=>
     simp only[RC,AKo]at hs;obtain⟨rfl,hs⟩:=hs;obtain rfl:=ALA hs;simp only[oJ]at hc⊢;rw[jC.2];exact fO (fun d hd=>hh d hd) hc
   |dead=>exact hc.elim
 ·rcases hc with hc|⟨n,B,hn,hB,hc⟩
  ·exact h.base.heap c hc
  ·obtain⟨B',_,_,hh⟩:=key n B hn hB
   exact hh c hc
theorem VK{Y:Type}{C:Z6}{hint:AB1}{ops:Array Oper}{kn:List Bool→St→Option Y}{fuel:Nat}{Cy:Array Bool}{ω:List Bool}{σ:St}{y:Y}(e:QD C hint ops kn fuel Cy ω σ=some y):∀b∈hint,ck σ.bx b=false:=by
 unfold QD at e;split at e
 ·rename_i h
  intro b hb;simpa using(ALQ.1 h) b hb
 ·cases e
theorem lr{Y:Type}{P:Program}{C:Z6}(hT:D4 P C.T)(hΓ:ZZ P C.Γ){E0:Env}{w0:World}{N nb:Nat}{hint:AB1}{ops:Array Oper}{kn:List Bool→St→Option Y}{y:Y}{Q:Exit→Act→World→Prop}
  (vV:Region.noSelect ops=true) (hP:∀c a w,¬Q (.panic c) a w) (hk:∀E σ a w,Ok E0 w0 N nb E σ a w→(∀ω,kn ω σ=some y)→Q .normal a w):
  ∀(fuel:Nat) {Cy:Array Bool} {E:Env} {σ:St} {a:Act} {w:World},Ok E0 w0 N nb E σ a w→(∀ω,QD C hint ops kn fuel Cy ω σ=some y)→mw P .any ops Q fuel Cy (Kof hint E w σ.bx) a w:=by
 intro fuel
 induction fuel with
 |zero=>
  intro Cy E σ a w h e;have e1:=fun ω=>e ω
  unfold QD at e1;have s7:=VK (e []);have ADh:(hint.all fun b=> !ck σ.bx b)=true:=ALQ.2 fun b hb=>by simp[s7 b hb]
  simp only[ADh,AMF]at e1;cases hr:Region.ready .any ops Cy with
  |nil=>
   simp only[hr]at e1;exact⟨hr,hk E σ a w h e1⟩
  |cons i rs=>
   simp only[hr]at e1;cases e1 []
 |succ fuel ih=>
  intro Cy E σ a w h e;have e1:=fun ω=>e ω
  unfold QD at e1;have s7:=VK (e []);have ADh:(hint.all fun b=> !ck σ.bx b)=true:=ALQ.2 fun b hb=>by simp[s7 b hb]
  simp only[ADh,AMF]at e1;cases hr:Region.ready .any ops Cy with
  |nil=>
   simp only[hr]at e1;exact⟨fun _=>hk E σ a w h e1,by rw[hr];simp⟩
  |cons i0 rs=>
   simp only[hr]at e1;cases hf:(i0::rs).find? (ij hint ops Cy σ)with
   |some i=>
    simp only[hf]at e1;have hi:=List.mem_of_find?_eq_some hf
    have ht:=List.find?_some hf
    unfold ij at ht;cases ho:ops[i]? with
    |none=>rw[ho]at ht;cases ht
    |some o=>
     simp only[ho,AIo]at ht;have Rg:=Region.free_spec ho ht.2;rw[←hr]at hi;have hy:=kR (I:=List Bool) (kn:=fun ω σ' =>QD C hint ops kn fuel (Cy.setIfInBounds i true) ω σ') ho h.rel e1;rcases hy with⟨hw,hx⟩|⟨hw,hx⟩
     ·have hq:bH hint σ o.op=true:=by
       rcases ALn _ _▸ht.1 with hq|hi
       ·exact hq
       ·rw[uh h.rel hi]at hw
        cases hw
      obtain⟨x,σ',hx0,hx1⟩:=cD hx;obtain⟨v,x',q1,q2,q3⟩:=o7 hT h.rel hq hx0;simp only[k0,AIK,ALD]at q2;obtain⟨rfl,rfl⟩:=q2;have VV:=ih (h.put o.dst q1) hx1;have bE:(σ.put o.dst x').bx=σ.bx:=by cases o.dst<;>rfl
      rw[bE]at VV;exact dR ho (Region.noSelect_spec vV) hP fuel Cy _ a w Rg hi (.inl ⟨hw,q3⟩) VV
     ·have VV:=ih (h.put o.dst h_) hx
      have bE:(σ.put o.dst (.Kv [])).bx=σ.bx:=by cases o.dst<;>rfl
      rw[bE]at VV;exact dR ho (Region.noSelect_spec vV) hP fuel Cy _ a w Rg hi (.inr ⟨hw,rfl⟩) VV
   |none=>
    simp only[hf]at e1;have XX:=dU e1;refine⟨fun h0=>(by rw[h0]at hr;cases hr),fun i hi=> ?_⟩;rw[hr]at hi;have hx:=XX i hi;cases ho:ops[i]? with
    |none=>
     simp only[ho]at hx;cases hx []
    |some o=>
     simp only[ho]at hx;have htc:(GZ C.Γ σ o.op).all (fun b=> !hint.contains b)=true:=by
      have:=hx [];split at this
      ·rename_i hh;exact hh
      ·cases this
     simp only[htc,AMF]at hx;have htn:∀b∈GZ C.Γ σ o.op,b∉hint:=fun b hb hh=>by
      have:=(ALQ.1 htc) b hb;simp[hh]at this
     unfold wpOp;simp only[ho];rcases kR (I:=List Bool) (kn:=fun ω σ' =>QD C hint ops kn fuel (Cy.setIfInBounds i true) ω σ') ho h.rel hx with⟨hw,hx⟩|⟨hw,hx⟩
     ·rw[AIF hw]
      obtain⟨x,σ',hx0,hx1⟩:=cD hx;refine .inl (qD hT hΓ h.rel hx0 fun v w' E' x' σ'' g1 g2 g3 g4 g5=> ?_);simp only[k0,AIK,ALD]at g5;obtain⟨rfl,rfl⟩:=g5;have bE:(σ''.put o.dst x').bx=σ''.bx:=by cases o.dst<;>rfl
      have AJy:=VK (hx1 []);rw[bE]at AJy;obtain⟨k1,k2⟩:=um g3 htn AJy;have VV:=ih ((h.next g1 g3 g4).put o.dst g2) hx1;rw[bE]at VV;exact⟨_,k1,k2,VV⟩
     ·rw[AIU (by simp[hw])]
      have VV:=ih (h.put o.dst h_) hx;have bE:(σ.put o.dst (.Kv [])).bx=σ.bx:=by cases o.dst<;>rfl
      rw[bE]at VV;exact⟨_,fun _ h=>h,fQ.refl _ _,VV⟩
end Go.Fw
end
section
namespace Go.Fw
theorem Rel.heap{E:Env}{σ:St}{a:Act}{w w':World}(h:Rel E σ a w)(hw:w'.heap=w.heap):Rel E σ a w':=by
 have keep:PI E w σ.bx E w' σ.bx:=by
  refine⟨ALE _,fun _ _=>rfl,fun _ h=>h,fun _ h=>h,h.bx.st,fun _ _=>by rw[hw],fun b d r rows hb e=>⟨d,rows,e,fun p hp q ys hg=>⟨hp,⟨ys,hg,rfl⟩,fun hh he=> ?_⟩⟩⟩;obtain⟨Fs,⟨f1,f2⟩,_⟩:=h.bx;have hF:Fs[b]? =some (Fs[b]'(by have:=(AIE.1 e).1;omega)):=AIH _;exact lx (f2 b _ _ e hF).2 (fun _ _=>by rw[hw]) (fun _ _=>by rw[hw]) hp hg he
 exact⟨h.Kk,h.tm.imp fun _ _ hx=>L9 keep hx,h.bx.turn (fun _ _ hv=>EW keep hv) (fun _ h=>h) (fun _ _=>rfl) (fun _ _=>rfl) (fun _ _ _=>by rw[hw]) fun F hF=>⟨hF.nodup,hF.free,fun c hc=>by rw[hw];exact hF.lt c hc,hF.st,fun c hc=>by rw[hw];exact hF.ZB c hc⟩⟩
theorem Ok.drawn{E0 E:Env}{w0 w:World}{N nb:Nat}{σ:St}{a:Act}(h:Ok E0 w0 N nb E σ a w)(n:Nat):Ok E0 w0 N nb E σ a { w with drawn:=n }:=
 ⟨h.rel.heap rfl,⟨h.base.T,h.base.S,h.base.Tof,h.base.qj,h.base.heap,h.base.os,h.base.tape,h.base.output,h.base.size⟩,h.tm,h.ir,h.ids⟩
theorem cZ{Y I:Type}[Nonempty I]{P:Program}{C:Z6}(hT:D4 P C.T)(hΓ:ZZ P C.Γ){E0:Env}{w0:World}{N nb:Nat}{all:Array Oper}{kn:I→St→Option Y}{y:Y}{Q:Exit→Act→World→Prop}
  (hk:∀E σ a w,Ok E0 w0 N nb E σ a w→(∀ω,kn ω σ=some y)→Q .normal a w):∀{l:List Oper} {E:Env} {σ:St} {a:Act} {w:World},Ok E0 w0 N nb E σ a w→(∀ω,lF C all l (kn ω) σ=some y)→wpList P all Q l a w
 |[],E,σ,a,w,h,e=>hk E σ a w h e
 |o::rest,E,σ,a,w,h,e=>by
  unfold wpList;rcases j0 (kn:=fun ω σ=>lF C all rest (kn ω) σ) h.rel e with⟨hw,hx⟩|⟨hw,hx⟩
  ·rw[AIF hw]
   obtain⟨x,σ',hx0,hx1⟩:=cD hx;refine .inl (qD hT hΓ h.rel hx0 fun v w' E' x' σ'' g1 g2 g3 g4 g5=> ?_);simp only[k0,AIK,ALD]at g5;obtain⟨rfl,rfl⟩:=g5;exact cZ hT hΓ hk ((h.next g1 g3 g4).put o.dst g2) hx1
  ·rw[AIU (by simp[hw])]
   exact cZ hT hΓ hk (h.put o.dst h_) hx
def Lj(P:Program)(body:Code)(Q:Exit→Act→World→Prop)(a:Act)(w:World):Prop:=
 ∀(b:Frame) (k:List Item) (cs:List Frame),∃e a' w',Q e a' w'∧Arrives P (lone (b.at a (.code body:: .inLoop body::k)) cs w) b k cs e a' w'
theorem Lj.wp{P:Program}{body:Code}{Q:Exit→Act→World→Prop}{a:Act}{w:World}(h:Lj P body Q a w):(Code.loop body).wp P Q a w:=fun b k cs=>by
 obtain⟨e,a',w',hq,Zm⟩:=h b k cs;exact⟨e,a',w',hq,.of_steps (.one step_loop) Zm⟩
theorem Lj.AAl{P:Program}{body:Code}{Q:Exit→Act→World→Prop}{a:Act}{w:World}(h:body.wp P (Exit.then (Lj P body Q) Q) a w):Lj P body Q a w:=fun b k cs=>by
 obtain⟨e,a₁,w₁,hq,Zm⟩:=h b (.inLoop body::k) cs;cases e with
 |normal=>
  obtain⟨e₂,a₂,w₂,hq₂,harr₂⟩:=hq b k cs;exact⟨e₂,a₂,w₂,hq₂,.of_steps (Steps.trans Zm (.one step_inLoop)) harr₂⟩
 |exit id=>exact⟨_,a₁,w₁,hq,.pass (x:= .inLoop body) rfl (fun _ _=> .inl (by simp)) Zm⟩
 |goto l=>exact⟨_,a₁,w₁,hq,.pass (x:= .inLoop body) rfl (fun _ _=> .inl (by simp)) Zm⟩
 |ret=>exact⟨_,a₁,w₁,hq,.pass (x:= .inLoop body) rfl (fun _ _=> .inl (by simp)) Zm⟩
 |panic ch=>exact⟨_,a₁,w₁,hq,.pass (x:= .inLoop body) rfl (fun _ _=> .inl (by simp)) Zm⟩
 |outgrown=>exact⟨_,a₁,w₁,hq,.pass (x:= .inLoop body) rfl (fun _ _=> .inl (by simp)) Zm⟩
abbrev cK:=Exit→Act→World→Prop
def At(P:Program):Code→cK→Nat→Code→cK→Prop
 | .seq a b,Q,ℓ,body,Q' =>At P a (Exit.then (b.wp P Q) Q) ℓ body Q'∨At P b Q ℓ body Q'
 | .cond _ a b,Q,ℓ,body,Q' =>At P a Q ℓ body Q'∨At P b Q ℓ body Q'
 | .block id c,Q,ℓ,body,Q' =>At P c (Exit.inBlock id Q) ℓ body Q'
 | .loop c,Q,ℓ,body,Q' =>(first c= ℓ ∧body=c∧Q' =Q)∨At P c (Exit.then (Lj P c Q) Q) ℓ body Q'
 |_,_,_,_,_=>False
def Xc(Q:cK):Prop:= ∀c a w,¬Q (.panic c) a w
theorem Xc.then{Q:cK}(h:Xc Q)(n:Act→World→Prop):Xc (Exit.then n Q):=fun c a w hq=>h c a w hq
theorem Xc.inBlock{Q:cK}(h:Xc Q)(id:Nat):Xc (Exit.inBlock id Q):=fun c a w hq=>h c a w hq
section
variable{Y:Type} {P:Program} {C:Z6} (hT:D4 P C.T) (hΓ:ZZ P C.Γ) (hm:P.follows .mixedOrders=true) {E0:Env} {w0:World} {N nb:Nat} {y:Y} {J:Nat→St→Option Y}
structure Good (E0:Env) (w0:World) (N nb:Nat) (y:Y) (kn:KN Y) (kx:Nat→KN Y) (kr:KN Y) (Q:cK):Prop where
 n:∀E σ a w,Ok E0 w0 N nb E σ a w→(∀ω,kn ω σ=some y)→Q .normal a w
 x:∀id E σ a w,Ok E0 w0 N nb E σ a w→(∀ω,kx id ω σ=some y)→Q (.exit id) a w
 r:∀E σ a w,Ok E0 w0 N nb E σ a w→(∀ω,kr ω σ=some y)→Q .ret a w
def JOk(P:Program)(E0:Env)(w0:World)(N nb:Nat)(y:Y)(J:Nat→St→Option Y)(cd:Code)(Q:cK):Prop:=
 ∀ ℓ body Q',At P cd Q ℓ body Q'→ ∀E σ a w,Ok E0 w0 N nb E σ a w→J ℓ σ=some y→Lj P body Q' a w
include hT hΓ hm in
theorem oS:∀{cd:Code} {kn:KN Y} {kx:Nat→KN Y} {kr:KN Y} {Q:cK} {E:Env} {σ:St} {a:Act} {w:World},Xc Q→Good E0 w0 N nb y kn kx kr Q→JOk P E0 w0 N nb y J cd Q→Ok E0 w0 N nb E σ a w→
  (∀ω,run C J cd kn kx kr ω σ=some y)→cd.wp P Q a w:=by
 intro cd
 induction cd with
 |skip=>intro kn kx kr Q E σ a w hp hg hj h e;exact wp_skip (hg.n E σ a w h e)
 |region id ops draw=>
  intro kn kx kr Q E σ a w hp hg hj h e;simp only[run]at e;cases draw with
  |false=>
   simp only[AJp,ALG]at e;exact wp_region_list (cZ hT hΓ hg.n h e)
  |true=>
   simp only[AMF]at e;have hs:Region.noSelect ops=true:=by
    have:=e [];split at this
    ·rename_i hh;exact hh
    ·cases this
   simp only[hs,AMF]at e;exact wp_region_any hm (kU _ _ _ _ _ (lr hT hΓ hs hp hg.n _ (h.drawn _) e))
 |seq x z ihx ihz=>
  intro kn kx kr Q E σ a w hp hg hj h e;simp only[run]at e;refine wp_seq (ihx (hp.then _) ⟨fun E σ a w h e=>ihz hp hg (fun ℓ body Q' Nz=>hj ℓ body Q' (.inr Nz)) h e,fun id E σ a w h e=>hg.x id E σ a w h e,hg.r⟩ (fun ℓ body Q' Nz=>hj ℓ body Q' (.inl Nz)) h e)
 |cond c x z ihx ihz=>
  intro kn kx kr Q E σ a w hp hg hj h e;cases c with
  |tmp t=>
   simp only[run]at e;have e0:=e [];split at e0
   ·rename_i b hb
    simp only[hb]at e;obtain⟨v,hv,hx⟩:=h.rel.tmp hb;have hvb:=OW (E:=E) (w:=w) (vw:=σ.bx) hx;subst hvb;have lg:a.eval (.tmp t)= .bool b:=by simp[Act.eval,ANd,hv]
    have hk:=nX hb;cases b with
    |true=>
     simp only[AKM,tt,hk]at e;exact wp_cond_true lg (ihx hp hg (fun ℓ body Q' Nz=>hj ℓ body Q' (.inl Nz)) h e)
    |false=>
     simp only[AI5,ff,hk]at e;exact wp_cond_false lg (ihz hp hg (fun ℓ body Q' Nz=>hj ℓ body Q' (.inr Nz)) h e)
   ·cases e0
  |_=>cases e []
 |block id c ih=>
  intro kn kx kr Q E σ a w hp hg hj h e;simp only[run]at e;refine wp_block (ih (hp.inBlock id) ⟨hg.n,fun j E σ a w h e=> ?_,hg.r⟩ (fun ℓ body Q' Nz=>hj ℓ body Q' Nz) h e);simp only[Exit.inBlock];split
  ·rename_i jC
   simp only[jC,AMF]at e;exact hg.n E σ a w h e
  ·rename_i jC
   simp only[jC,ALG]at e;exact hg.x j E σ a w h e
 |loop body ih=>
  intro kn kx kr Q E σ a w hp hg hj h e;simp only[run]at e;exact Lj.wp (hj (first body) body Q (.inl ⟨rfl,rfl,rfl⟩) E σ a w h (e []))
 |exit id=>intro kn kx kr Q E σ a w hp hg hj h e;exact wp_exit (hg.x id E σ a w h e)
 |ret=>intro kn kx kr Q E σ a w hp hg hj h e;exact wp_ret (hg.r E σ a w h e)
 |_=>intro kn kx kr Q E σ a w hp hg hj h e;cases e []
end
end Go.Fw
end
section
namespace Go.Fw
def labels:Code→List Nat
 | .seq a b=>labels a++labels b
 | .cond _ a b=>labels a++labels b
 | .block _ c=>labels c
 | .loop c=>first c::labels c
 |_=>[]
theorem At.label{P:Program}:∀{cd:Code} {Q:cK} {ℓ :Nat} {body:Code} {Q':cK},At P cd Q ℓ body Q'→ ℓ ∈labels cd
 | .seq a b,Q,ℓ,body,Q',h=>by
  simp only[labels,AJ6];exact h.imp At.label At.label
 | .cond _ a b,Q,ℓ,body,Q',h=>by
  simp only[labels,AJ6];exact h.imp At.label At.label
 | .block _ c,Q,ℓ,body,Q',h=>At.label (cd:=c) h
 | .loop c,Q,ℓ,body,Q',h=>by
  simp only[labels,AKv];exact h.imp (fun h=>h.1.symm) At.label
section
variable{Y:Type} {P:Program} {C:Z6} (hT:D4 P C.T) (hΓ:ZZ P C.Γ) (hm:P.follows .mixedOrders=true) {E0:Env} {w0:World} {N nb:Nat} {y:Y} {J:Nat→St→Option Y}
theorem NV{ℓ :Nat}:∀{cd:Code} {kn:KN Y} {kx:Nat→KN Y} {kr:KN Y},ℓ ∉labels cd→find C J ℓ cd kn kx kr=none
 | .seq a b,kn,kx,kr,h=>by
  simp only[labels,AJ6,not_or]at h;simp only[find];rw[NV h.1];exact NV h.2
 | .cond _ a b,kn,kx,kr,h=>by
  simp only[labels,AJ6,not_or]at h;simp only[find];rw[NV h.1];exact NV h.2
 | .block _ c,kn,kx,kr,h=>by simp only[find];exact NV (cd:=c) h
 | .loop c,kn,kx,kr,h=>by
  simp only[labels,AKv,not_or]at h;simp only[find];rw[AIU (fun e=>h.1 e.symm)];exact NV h.2
 | .skip,_,_,_,_=>rfl
 | .region _ _ _,_,_,_,_=>rfl
 | .rangeFunc _ _ _ _,_,_,_,_=>rfl
 | .exit _,_,_,_,_=>rfl
 | .scope _,_,_,_,_=>rfl
 | .label _,_,_,_,_=>rfl
 | .goto _,_,_,_,_=>rfl
 | .ret,_,_,_,_=>rfl
 | .refuse _,_,_,_,_=>rfl
include hT hΓ hm in
theorem AB3{ℓ :Nat}:∀{cd:Code} {kn:KN Y} {kx:Nat→KN Y} {kr:KN Y} {Q:cK} {body:Code} {Q':cK},(labels cd).Nodup→Xc Q→Good E0 w0 N nb y kn kx kr Q→JOk P E0 w0 N nb y J cd Q→At P cd Q ℓ body Q'→
  ∃kn' kx' kr',find C J ℓ cd kn kx kr=some (fun ω σ=>run C J body (fun _ σ=>J ℓ σ) kx' kr' ω σ)∧Good E0 w0 N nb y kn' kx' kr' Q'∧Xc Q'∧JOk P E0 w0 N nb y J body (Exit.then (Lj P body Q') Q'):=by
 intro cd
 induction cd with
 |seq a b iha ihb=>
  intro kn kx kr Q body Q' hn hp hg hj Nz;simp only[labels,AJq]at hn;obtain⟨n1,n2,n3⟩:=hn;have hja:JOk P E0 w0 N nb y J a (Exit.then (b.wp P Q) Q):=fun ℓ body Q' Nz=>hj ℓ body Q' (.inl Nz)
  have hjb:JOk P E0 w0 N nb y J b Q:=fun ℓ body Q' Nz=>hj ℓ body Q' (.inr Nz)
  simp only[find];rcases Nz with Nz|Nz
  ·obtain⟨kn',kx',kr',h1,h2⟩:=iha n1 (hp.then _) (kn:=fun ω σ=>run C J b kn kx kr ω σ) (kx:=kx) (kr:=kr)
    ⟨fun E σ a w h e=>oS hT hΓ hm hp hg hjb h e,fun id E σ a w h e=>hg.x id E σ a w h e,hg.r⟩ hja Nz
   exact⟨kn',kx',kr',by rw[h1],h2⟩
  ·have: ℓ ∉labels a:=fun h=>n3 ℓ h ℓ Nz.label rfl
   rw[NV this];exact ihb n2 hp hg hjb Nz
 |cond c a b iha ihb=>
  intro kn kx kr Q body Q' hn hp hg hj Nz;simp only[labels,AJq]at hn;obtain⟨n1,n2,n3⟩:=hn;simp only[find];rcases Nz with Nz|Nz
  ·obtain⟨kn',kx',kr',h1,h2⟩:=iha n1 hp hg (fun ℓ body Q' Nz=>hj ℓ body Q' (.inl Nz)) Nz
   exact⟨kn',kx',kr',by rw[h1],h2⟩
  ·have: ℓ ∉labels a:=fun h=>n3 ℓ h ℓ Nz.label rfl
   rw[NV this];exact ihb n2 hp hg (fun ℓ body Q' Nz=>hj ℓ body Q' (.inr Nz)) Nz
 |block id c ih=>
  intro kn kx kr Q body Q' hn hp hg hj Nz;simp only[find];refine ih hn (hp.inBlock id) ⟨hg.n,fun j E σ a w h e=> ?_,hg.r⟩ (fun ℓ body Q' Nz=>hj ℓ body Q' Nz) Nz;simp only[Exit.inBlock];split
  ·rename_i jC
   simp only[jC,AMF]at e;exact hg.n E σ a w h e
  ·rename_i jC
   simp only[jC,ALG]at e;exact hg.x j E σ a w h e
 |loop c ih=>
  intro kn kx kr Q body Q' hn hp hg hj Nz;simp only[labels,ANm]at hn;have hj':JOk P E0 w0 N nb y J c (Exit.then (Lj P c Q) Q):=fun ℓ body Q' Nz=>hj ℓ body Q' (.inr Nz)
  simp only[find];by_cases hl:first c= ℓ
  ·rw[AIF hl]
   rcases Nz with⟨_,rfl,rfl⟩|Nz
   ·exact⟨kn,kx,kr,rfl,hg,hp,hj'⟩
   ·exact absurd (hl▸Nz.label) hn.1
  ·rw[AIU hl]
   rcases Nz with⟨h,_⟩|Nz
   ·exact absurd h hl
   ·exact ih hn.2 (hp.then _) ⟨fun E σ a w h e=>hj (first c) c Q (.inl ⟨rfl,rfl,rfl⟩) E σ a w h (e []),fun id E σ a w h e=>hg.x id E σ a w h e,hg.r⟩ hj' Nz
 |_=>intro kn kx kr Q body Q' hn hp hg hj Nz;exact Nz.elim
end
theorem aw{E:Env}{w:World}{vw:List Bx}:∀{l:List (Nat×XP)} {x:E7.V l} {vals:List Value} {tm:List XV},MU E w vw id l x vals→Bw (XR E w vw) tm vals→Bw (XR E w vw) (E7.mk id l x tm) vals
 |[],_,_,_,_,h=>h
 |(i,p)::l,x,vals,tm,hs,h=>by
  obtain⟨⟨v,hv,hx⟩,hs⟩:=hs;simp only[E7.mk];refine aw hs ?_
  have:=Bw.set (i:=i) h hx;have e:vals.set i v=vals:=by
   apply ANv;intro j;rw[ALz];split
   ·rename_i e;subst e
    rw[AIF (AIE.1 hv).1,hv]
   ·rfl
  rwa [e]at this
theorem Bw.undef{E:Env}{w:World}{vw:List Bx}:∀{vals:List Value} {n:Nat},n=vals.length→Bw (XR E w vw) (List.replicate n (.c .undef)) vals
 |[],n,h=>by subst h;trivial
 |v::vals,n,h=>by
  subst h;simp only[AJ0,AN1];exact⟨trivial,Bw.undef rfl⟩
theorem kg.shared{E E1:Env}{w:World}{bx:List Bx}{m:MW}{s:B3}{x:s.V}{vals:List Value}(h:kg E w bx m s x vals E1)(hb:CR E w bx bx []):
  ∃E2,E2.GB=E1.GB∧E2.GQ=E1.GQ∧Yg E w E2 w∧CR E2 w (G_.mk id s.E5 x.2) (G_.mk id s.E5 x.2) []∧MU E2 w (G_.mk id s.E5 x.2) id s.C5 x.1 vals:=by
 obtain⟨Fk,k1,k2,k3,k4⟩:=h.rest
 let E2:Env:={ E1 with S:=fun c=>E1.S c∨c∈Fk.flatten }
 have st1:=h.boxes.st;have keep:PI E1 w (G_.mk id s.E5 x.2) E2 w (G_.mk id s.E5 x.2):=
  ⟨ALE _,fun _ _=>rfl,fun _ h=>h,fun _ h=> .inl h,st1,fun _ _=>rfl,fun b d r rows _ e=>⟨d,rows,e,fun p hp q ys hg=>⟨hp,⟨ys,hg,rfl⟩,fun _ h=>h⟩⟩⟩
 refine⟨E2,rfl,rfl,⟨h.T,fun c hc=> .inl (h.S c hc),fun c hc=> ?_,fun c hc=> ?_,fun _ _=>rfl,rfl,rfl,rfl,ALE _⟩,?_,?_⟩
 ·rcases k4 c hc with h|h|h
  ·exact .inl h
  ·exact .inr (.inl h)
  ·exact .inr (.inr h)
 ·rcases hc with hc|hc
  ·exact h.qj c hc
  ·exact .inr (k3 c hc).1
 ·refine h.boxes.turn (E':=E2) (w':=w) (fun _ _ hv=>EW keep hv) (fun _ h=> .inl h) (fun _ _=>rfl) (fun _ _=>rfl) (fun _ _ _=>rfl) fun F hF=>⟨hF.nodup,hF.free,hF.lt,fun c hc=>hc.elim (hF.st c) fun h=>(k3 c h).2.2.2,hF.ZB⟩
 ·have:∀{l:List (Nat×XP)} {z:E7.V l},MU E1 w (G_.mk id s.E5 x.2) id l z vals→MU E2 w (G_.mk id s.E5 x.2) id l z vals:=by
   intro l
   induction l with
   |nil=>intro z h;trivial
   |cons q l ih=>
    obtain⟨i,p⟩:=q;intro z h;obtain⟨⟨v,hv,hx⟩,hs⟩:=h;exact⟨⟨v,hv,L9 keep hx⟩,ih hs⟩
  exact this h.C5
theorem aC:∀{l:List BP} {i n:Nat},(Pk i n l).length=l.length
 |[],_,_=>rfl
 |_::l,i,n=>by simp[Pk,aC (l:=l)]
theorem Zu:∀{l:List BP} {i n k b:Nat},(Pk i n l)[k]? =some (some b)→b=i+k∧b<n∧l[k]?≠some .gone
 |[],i,n,k,b,h=>by simp[Pk]at h
 |p::l,i,n,0,b,h=>by
  simp only[Pk,List.getElem?_cons_zero,AIK]at h;cases p with
  |gone=>simp at h
  |mem q=>split at h<;>simp_all<;>omega
  |sl d r=>split at h<;>simp_all<;>omega
 |p::l,i,n,k+1,b,h=>by
  simp only[Pk,List.getElem?_cons_succ]at h;obtain⟨h1,h2,h3⟩:=Zu h;exact⟨by omega,h2,by simpa using h3⟩
theorem Zx:∀{l:List BP} {i n k:Nat} {p:BP},l[k]? =some p→p≠ .gone→i+k<n→(Pk i n l)[k]? =some (some (i+k))
 |q::l,i,n,0,p,h,hg,hn=>by
  simp at h;subst h;simp only[Pk,List.getElem?_cons_zero,AIK];cases q with
  |gone=>exact absurd rfl hg
  |mem q=>simp at hn⊢;exact hn
  |sl d r=>simp at hn⊢;exact hn
 |q::l,i,n,k+1,p,h,hg,hn=>by
  simp only[Pk,List.getElem?_cons_succ];rw[Zx (l:=l) (i:=i+1) (k:=k) (by simpa using h) hg (by omega)];congr 2;omega
 |[],_,_,_,_,h,_,_=>by simp at h
theorem gA{l:List BP}{n:Nat}:ik (Pk 0 n l):=fun i j b h k=>by
 have:=(Zu h).1;have:=(Zu k).1;omega
end Go.Fw
end
section
namespace Go.Fw
structure AKC (P:Program) (f:Nat) (fn:Func) (c:Qz):Prop where
 at_:P.funcs[f]? =some fn
 call:∀args w,(callFunc f args).run P w= .ok (.enter f args) w
 con:c.ok=true
 tmps:c.ins.C5.length≤fn.ntmps
 labels:∀code,fn.body=some code→(labels code).Nodup
section
variable{P:Program} {C:Z6} (hT:D4 P C.T) {E:Env} {σ:St} {a:Act} {w:World}
include hT in
theorem vx(h:Rel E σ a w):
  ∀{rs:List ResultVar} {xs:List XV},rs.mapM (uv C.T σ)=some xs→ ∃vs,(∀f:ResultVar→Sem Value,(∀u,f (.tmp u)=pure (a.tmps.getD u undef))→(∀b t,f (.cell b t)=(do loadVar t (←asAddr (a.tmps.getD b undef))))→
   (rs.mapM f).run P w= .ok vs w)∧Bw (XR E w σ.bx) xs vs:=by
 intro rs
 induction rs with
 |nil=>
  intro xs e;have hx:xs=[]:=by simpa using e.symm
  subst hx;exact⟨[],fun f _ _=>by simp,trivial⟩
 |cons r rs ih=>
  intro xs e;rw[AOT]at e;simp only[Option.bind_eq_bind,AIm,Option.pure_def,AIK]at e;obtain⟨x,e1,ys,e2,rfl⟩:=e;obtain⟨vs,h1,h2⟩:=ih e2;have one:∃v,(∀f:ResultVar→Sem Value,(∀u,f (.tmp u)=pure (a.tmps.getD u undef))→(∀b t,f (.cell b t)=(do loadVar t (←asAddr (a.tmps.getD b undef))))→(f r).run P w= .ok v w)∧XR E w σ.bx x v:=by
   cases r with
   |tmp t=>
    simp only[uv]at e1;obtain⟨v,hv,hx⟩:=h.tmp e1;refine⟨v,fun f hf hc=> ?_,hx⟩;rw[hf];simp[ANd,hv]
   |cell b t=>
    simp only[uv]at e1;split at e1
    case h_2=>cases e1
    rename_i z hz;obtain⟨v,hv,hx⟩:=h.tmp hz;obtain⟨Fs,hB,hS⟩:=h.bx;cases z with
    |agg l=>simp[dY]at e1
    |Kv l=>simp[dY]at e1
    |c ad=>
     obtain⟨bb,oo,u,cell,hp,_,q2,q3⟩:=kV hT hB hS.st e1 hx;refine⟨u,fun f hf hc=> ?_,q2⟩;have hgd:a.tmps.getD b undef=v:=by simp[ANd,hv]
     have:=q3 w rfl;rw[hc,hgd,hp];rw[hp]at this;simpa[Instr.loadAt,Instr.sureAddr,asAddr]using this
  obtain⟨v,g1,g2⟩:=one;refine⟨v::vs,fun f hf hc=> ?_,g2,h2⟩;rw[AOT];simp[g1 f hf hc,h1 f hf hc]
theorem Zq{vw:List Bx}:∀{l:List XV} {q:List (AV ⊕ List AV)} {vs:List Value},nI l=some q→Bw (XR E w vw) l vs→Bw (TR E w vw) q vs
 |[],q,[],e,_=>by
  simp only[nI,AIK]at e;subst e;trivial
 |[],_,_::_,_,h=>h.elim
 | .c x::l,q,v::vs,e,h=>by
  simp only[nI,AIX]at e;obtain⟨r,e1,rfl⟩:=e;exact⟨h.1,Zq e1 h.2⟩
 | .agg x::l,q,v::vs,e,h=>by
  simp only[nI,AIX]at e;obtain⟨r,e1,rfl⟩:=e;exact⟨h.1,Zq e1 h.2⟩
 | .Kv _::_,_,_,e,_=>by simp[nI]at e
 | .c _::_,_,[],_,h=>h.elim
 | .agg _::_,_,[],_,h=>h.elim
include hT in
theorem i_(h:Rel E σ a w){fn:Func}{x:XV}(e:fZ C.T σ fn.results.toList=some x):∃v,(results fn a.tmps).run P w= .ok v w∧XR E w σ.bx x v:=by
 unfold fZ at e;have key:∀xs,fn.results.toList.mapM (uv C.T σ)=some xs→ ∃vs:List Value,(results fn a.tmps).run P w= .ok (if h:vs.toArray.size=1 then vs.toArray[0]else .tuple vs.toArray) w∧Bw (XR E w σ.bx) xs vs:=by
  intro xs hx;obtain⟨vs,h1,h2⟩:=vx (P:=P) hT h hx;refine⟨vs,?_,h2⟩;unfold results;rw[Array.mapM_eq_mapM_toList];simp only[Sem.run_bind,Sem.run_map];rw[h1 _ (fun _=>rfl) (fun _ _=>rfl)];simp only[Result.andThen_ok,Sem.run_pure]
 split at e
 ·rename_i z hz
  cases e;obtain⟨vs,h1,h2⟩:=key _ hz
  match vs,h2 with
  |[v],h2=>exact⟨v,by simpa using h1,h2.1⟩
  |v::_::_,h2=>exact h2.2.elim
  |[],h2=>exact h2.elim
 ·rename_i l hl hz
  simp only[AIX]at e;obtain⟨q,e1,rfl⟩:=e;obtain⟨vs,h1,h2⟩:=key _ hz;have aO: ¬vs.toArray.size=1:=fun hs=>by
   have:=Bw.len h2
   match l,this with
   |[z],_=>exact hl z rfl
   |[],t=>simp at t hs;omega
   |_::_::_,t=>simp at t hs;omega
  rw[dif_neg aO]at h1;exact⟨_,h1,vs.toArray,rfl,by simpa using Zq e1 h2⟩
 ·cases e
end
theorem ZN{E:Env}{w:World}{vw:List Bx}{more:List Value}:∀{l:List (Nat×XP)} {x:E7.V l} {vals:List Value},MU E w vw id l x vals→MU E w vw id l x (vals++more)
 |[],_,_,_=>trivial
 |(i,p)::l,x,vals,h=>by
  obtain⟨⟨v,hv,hx⟩,hs⟩:=h;exact⟨⟨v,by rw[AJI (AIE.1 hv).1];exact hv,hx⟩,ZN hs⟩
def qZ(C:Z6)(c:Qz)(fn:Func)(code:Code)(J:Nat→Nat→St→Option c.outs.V):Prop:=
 ∀ ℓ,ℓ ∈labels code→ ∃(s:B3) (F:Nat→s.V→Option c.outs.V),(∀n,J n ℓ =jump c.ins.E5.length s (F n))∧(∀v,F 0 v=none)∧
  ∀n v y,F (n+1) v=some y→ ∀ω,Gh C c fn (J n) ℓ ω (s.st fn.ntmps v)=some y
section
variable{P:Program} {C:Z6} (hT:D4 P C.T) (hΓ:ZZ P C.Γ) (hm:P.follows .mixedOrders=true) {fn:Func} {c:Qz}
def ADz(c:Qz)(E0:Env)(w0:World)(u:c.outs.V)(e:Ending)(w':World):Prop:=
 ∃x E',e= .returned x∧Yg E0 w0 E' w'∧CR E' w' (G_.mk id c.outs.E5 u.2) (G_.mk id c.outs.E5 u.2) []∧
  MU E' w' (G_.mk id c.outs.E5 u.2) id c.outs.C5 u.1 [x]∧ ∀i,i<c.ins.E5.length→alive c.outs.E5 i=true→E'.GB i=E0.GB i∧E'.GQ i=E0.GQ i
theorem Ok.opens{E0 E:Env}{w0 w:World}{N nb:Nat}{σ:St}{a:Act}(h:Ok E0 w0 N nb E σ a w)(s:B3):∃E',Ok E0 w0 N nb E' { σ with bx:=s.opens σ.bx } a w∧
  (∀(i:Nat) d r,s.E5[i]? =some (.sl d r)→E'.GQ (σ.bx.length+i)= .slice none 0 0)∧(∀x v,XR E w σ.bx x v→XR E' w (s.opens σ.bx) x v):=by
 obtain⟨E',h1,h2,h3,h4⟩:=js h.rel s;exact⟨E',h.next h1 h2 rfl,h3,h4⟩
theorem uM{E E':Env}{w:World}{vw:List Bx}{b:Nat}(h:Le E E')(st:∀c,E.S c→E.T c):PI E w vw E' w (vw.set b .dead):=by
 refine⟨by simp,fun b _=>by rw[h.GB],h.T,h.S,st,fun _ _=>rfl,fun c d r rows _ e=> ?_⟩;by_cases hc:c=b
 ·subst hc
  rw[ALz]at e;simp only[AMF]at e;split at e<;>cases e
 ·rw[AJo (fun e=>hc e.symm)]at e
  exact⟨d,rows,e,fun p hp q ys hg=>⟨hp,⟨ys,hg,rfl⟩,fun h' hh=>by rw[h.GQ];exact hh⟩⟩
theorem wT{E:Env}{σ:St}{a:Act}{w:World}(h:Rel E σ a w)(b:Nat):∃E',Rel E' (σ.fS b) a w∧Le E E':=by
 unfold St.fS;split
 case h_2=>exact⟨E,h,Le.refl E⟩
 rename_i d r rows hb;obtain⟨F,hF,hB⟩:=h.bx.take hb;have Sm:CR E w σ.bx (σ.bx.set b .dead) ([]++F++[]):=by simpa using hB
 obtain⟨hle,hB3⟩:=Sm.share;have hk:=uM (vw:=σ.bx) (b:=b) (w:=w) hle h.bx.st;have yd:PI E w σ.bx { E with S:=fun c=>E.S c∨c∈F,T:=fun c=>E.T c∨c∈F } w ((σ.bx.set b .dead).map (Bx.fS b r rows)):=by
  refine⟨by simp,hk.GB,hk.T,hk.S,hk.st,hk.heap,fun c d' r' CC hc e=> ?_⟩;rw[ALC,AIX]at e;obtain⟨B,e,eB⟩:=e;cases B with
  |mem cs=>cases eB
  |dead=>cases eB
  |sl d0 r0 Na=>
   cases eB;exact hk.box c _ _ _ hc e
 have hv:∀x v,VR E w σ.bx x v→VR { E with S:=fun c=>E.S c∨c∈F,T:=fun c=>E.T c∨c∈F } w ((σ.bx.set b .dead).map (Bx.fS b r rows)) (x.fS b r rows) v:=fun x v hx=>by
  unfold AV.fS;split
  ·rename_i c
   split
   ·rename_i hc
    subst hc;obtain⟨h1,h2⟩:=hx;rw[hb]at h2;have hv:=h2.2.2;rw[CE]at hv;simp only[AIK]at hv;have:=Uh hF.2;rw[hv]at this;exact Dr (fun c hc=>hc) (fun _ _=>rfl) this
   ·exact EW yd hx
  ·exact EW yd hx
 refine⟨_,⟨h.Kk,?_,?_⟩,hle⟩
 ·refine Bw.I7 _ (fun x v hx=> ?_) h.tm
  unfold XV.fS;split
  ·exact hv _ _ hx
  ·exact L9 yd hx
 ·obtain⟨Fs,⟨hl,h1⟩,h2⟩:=hB
  have xN:Sep E w (F++Fs.flatten):=h2.perm (by simpa using AK7);refine⟨Fs,⟨by simpa using hl,fun k B G Oa hG=> ?_⟩,?_⟩
  ·rw[ALC,AIX]at Oa
   obtain⟨B0,e,rfl⟩:=Oa;have h3:=h1 k B0 G e hG;cases B0 with
   |mem cs=>
    obtain⟨rfl,arr,ty,fr,a1,a2,a3⟩:=h3;exact⟨rfl,arr,ty,fr,a1,a2,Bw.I7 _ (fun x v hx=>hv x v hx) a3⟩
   |sl d0 r0 Na=>exact⟨h3.1,DB hle.S (fun _ _=>rfl) (fun _ _=>rfl) h3.2⟩
   |dead=>exact h3
  ·rw[AKb]
   have st:=h.bx.st;refine⟨(AJq.1 xN.nodup).2.1,fun c hc ht=> ?_,fun c hc=>xN.lt c (by simp only[AJ6];exact .inr hc),fun c hc=>hc.imp (st c) id,fun c hc=>hc.elim (xN.ZB c) fun h' =>xN.lt c (by simp[h'])⟩;rcases ht with ht|ht
   ·exact xN.free c (AJ6.2 (.inr hc)) ht
   ·exact(AJq.1 xN.nodup).2.2 c ht c hc rfl
theorem tM{σ:St}{b i:Nat}(h:σ.bx[i]? =some .dead):(σ.fS b).bx[i]? =some .dead:=by
 unfold St.fS;split
 ·simp only[ALC,ALz]
  split
  ·split
   ·rfl
   ·rename_i h2
    subst_vars
    exact absurd (AIE.1 h).1 h2
  ·rw[h];rfl
 ·exact h
theorem qe{σ:St}{b:Nat}:(σ.fS b).bx.length=σ.bx.length∧(σ.fS b).tm.length=σ.tm.length:=by
 unfold St.fS;split<;>simp
theorem Ok.fS{E0 E:Env}{w0 w:World}{N nb:Nat}{σ:St}{a:Act}(h:Ok E0 w0 N nb E σ a w)(b:Nat):∃E',Ok E0 w0 N nb E' (σ.fS b) a w:=by
 obtain⟨E',h1,h2⟩:=wT h.rel b;refine⟨E',⟨h1,h.base.trans (h2.base w),by rw[qe.2];exact h.tm,by rw[qe.1];exact h.ir,fun i hi hd=> ?_⟩⟩;rw[h2.GB,h2.GQ];exact h.ids i hi fun e=>hd (tM e)
theorem Ok.Mq{E0:Env}{w0 w:World}{N nb:Nat}{a:Act}:∀(l:List AP) (xs:List AV) {E:Env} {σ:St},Ok E0 w0 N nb E σ a w→ ∃E',Ok E0 w0 N nb E' (Mq l xs σ) a w:=by
 intro l xs E σ h
 induction l generalizing xs E σ with
 |nil=>unfold Fw.Mq;exact⟨E,h⟩
 |cons p l ih=>
  unfold Fw.Mq;split
  ·rename_i heq
   cases heq;obtain⟨E',h'⟩:=h.fS _;exact ih _ h'
  ·rename_i heq
   cases heq;exact ih _ h
  ·exact⟨E,h⟩
theorem Ok.ALW{E0:Env}{w0 w:World}{N nb:Nat}{a:Act}{bs:List BP}:∀(l:List (Nat×XP)) {E:Env} {σ:St},Ok E0 w0 N nb E σ a w→ ∃E',Ok E0 w0 N nb E' (Mo bs l σ) a w:=by
 intro l
 induction l with
 |nil=>intro E σ h;exact⟨E,h⟩
 |cons q l ih=>
  intro E σ h;unfold Mo;split
  ·cases ‹_::_=[]›
  ·rename_i e
   cases e;split
   ·obtain⟨E',h'⟩:=h.Mq [_] [_]
    exact ih h'
   ·exact ih h
  ·rename_i e
   cases e;split
   ·split
    ·obtain⟨E',h'⟩:=h.Mq _ _
     exact ih h'
    ·exact ih h
   ·exact ih h
  ·rename_i e
   cases e;exact ih h
theorem lA{E:Env}{w:World}{vw:List Bx}{x:AV}{v:Value}(h:VR E w vw x v)(hx:x.kH=true):isSlice v=true:=by
 cases x with
 |ref b p=>exact h.1
 |XT b p o n=>exact h.1
 |sl s r y=>
  simp only[VR,Rd]at h;obtain⟨a,cap,h,_⟩:=h;simp only[AK_,AL0]at h;rw[h];rfl
 |nil=>cases h;rfl
 |_=>cases hx
theorem pS{E:Env}{σ:St}{a:Act}{w:World}(h:Rel E σ a w)(b j:Nat):Rel E (σ.forget b j) a w∧σ.bx.length≤(σ.forget b j).bx.length∧(∀i:Nat,σ.bx[i]? =some Bx.dead→(σ.forget b j).bx[i]? =some Bx.dead)∧(σ.forget b j).tm=σ.tm:=by
 unfold St.forget;split
 case h_2=>exact⟨h,ALE _,fun _ h=>h,rfl⟩
 rename_i cs hb;split
 case h_2=>exact⟨h,ALE _,fun _ h=>h,rfl⟩
 rename_i x hx;split
 case isFalse=>exact⟨h,ALE _,fun _ h=>h,rfl⟩
 rename_i hs;have oK:=(AIE.1 hb).1;have hk:PI E w σ.bx E w (σ.bx.set b (.mem (cs.set j (.ref σ.bx.length [])))++[.dead]):=by
  refine⟨by simp,fun _ _=>rfl,fun _ h=>h,fun _ h=>h,h.bx.st,fun _ _=>rfl,fun c d r rows hc e=> ?_⟩;rw[AJI (by simpa using hc)]at e;by_cases tB:b=c
  ·subst tB
   rw[AKW hc]at e;cases e
  ·rw[AJo tB]at e
   exact⟨d,rows,e,fun p hp q ys hg=>⟨hp,⟨ys,hg,rfl⟩,fun h' hh=>hh⟩⟩
 refine⟨⟨h.Kk,h.tm.imp fun _ _ hx=>L9 hk hx,?_⟩,by simp,fun i hi=> ?_,rfl⟩
 ·obtain⟨Fs,⟨hl,h1⟩,h2⟩:=h.bx
  refine⟨Fs++[[]],⟨by simp[hl],fun k B G hB hG=> ?_⟩,by simpa using h2⟩;by_cases yd:k<σ.bx.length
  ·rw[AJI (by simpa using yd)]at hB
   rw[AJI (by omega)]at hG;by_cases hkb:b=k
   ·subst hkb
    rw[AKW yd]at hB;cases hB;obtain⟨rfl,arr,ty,fr,a1,a2,a3⟩:=h1 b _ G hb hG;refine⟨rfl,arr,ty,fr,a1,a2,?_⟩;have a4:bR E w (σ.bx.set b (.mem (cs.set j (.ref σ.bx.length [])))++[.dead]) cs arr.toList:=a3.imp fun _ _ hv=>EW hk hv
    obtain⟨v,hv,hvr⟩:=a3.get hx;have RI:arr.toList.set j v=arr.toList:=by
     apply ANv;intro i;by_cases ue:j=i
     ·subst ue
      rw[AKW (AIE.1 hv).1,hv]
     ·rw[AJo ue]
    rw[←RI];refine Bw.set a4 ⟨lA hvr hs,?_⟩;have:(σ.bx.set b (.mem (cs.set j (.ref σ.bx.length [])))++[.dead])[σ.bx.length]? =some .dead:=by
     rw[AKi (by simp)];simp
    rw[this]
    trivial
   ·rw[AJo hkb]at hB
    have h3:=h1 k B G hB hG;cases B with
    |mem W0=>
     obtain⟨rfl,arr,ty,fr,a1,a2,a3⟩:=h3;exact⟨rfl,arr,ty,fr,a1,a2,a3.imp fun _ _ hv=>EW hk hv⟩
    |sl d0 r0 Na=>exact h3
    |dead=>exact h3
  ·have hlen:=(AIE.1 hB).1
   simp only[AKE,AMK,AJ0,AKu]at hlen;have hkk:k=σ.bx.length:=by omega
   subst hkk;rw[AKi (by simp)]at hB;rw[AKi (by omega)]at hG;simp[hl]at hB hG;subst hB hG;rfl
 ·have hil:=(AIE.1 hi).1
  rw[AJI (by simpa using hil)];have qH:b≠i:=fun e=>by
   subst e;rw[hb]at hi;cases hi
  rw[AJo qH];exact hi
theorem Ok.forget{E0 E:Env}{w0 w:World}{N nb:Nat}{σ:St}{a:Act}(h:Ok E0 w0 N nb E σ a w)(b j:Nat):Ok E0 w0 N nb E (σ.forget b j) a w:=by
 obtain⟨h1,h2,h3,h4⟩:=pS h.rel b j;exact⟨h1,h.base,by rw[h4];exact h.tm,ALM h.ir h2,fun i hi hd=>h.ids i hi fun e=>hd (h3 i e)⟩
theorem Ok.Tj{E0 E:Env}{w0 w:World}{N nb:Nat}{a:Act}{bs:List BP}{b:Nat}:∀(l:List AP) (j:Nat) {σ:St},Ok E0 w0 N nb E σ a w→Ok E0 w0 N nb E (Tj bs b j l σ) a w
 |[],_,_,h=>h
 |p::l,j,σ,h=>by
  simp only[Fw.Tj];refine Ok.Tj l (j+1) ?_
  split
  ·split
   ·exact h.forget _ _
   ·exact h
  ·exact h
theorem Ok.AJX{E0 E:Env}{w0 w:World}{N nb:Nat}{a:Act}{bs:List BP}:∀(l:List (Nat×XP)) {σ:St},Ok E0 w0 N nb E σ a w→Ok E0 w0 N nb E (Xx bs l σ) a w
 |[],_,h=>h
 |(i,p)::l,σ,h=>by
  simp only[Xx];refine Ok.AJX l ?_
  split
  ·split
   ·exact h.Tj _ _
   ·exact h
  ·exact h
include hT in
theorem kK{E0 E:Env}{w0 w:World}{N:Nat}{σ:St}{a:Act}{u:c.outs.V}(h:Ok E0 w0 N c.ins.E5.length E σ a w)(e:jQ C.T c fn.results.toList σ=some u):
  a.defers=[]∧ ∃v,(results fn a.tmps).run P w= .ok v w∧ADz c E0 w0 u (.returned v) w:=by
 unfold jQ at e;simp only[AIm,AIX]at e;obtain⟨x,e1,⟨u',m⟩,e2,rfl⟩:=e;obtain⟨v,h1,h2⟩:=i_ hT h.rel e1;obtain⟨E,h,kv,h4⟩:=h.opens c.outs
 replace h2:=h4 _ _ h2
 obtain⟨hext,E1,hf⟩:=cz (tm:=[x]) (vals:=[v]) h.rel.bx ⟨h2,trivial⟩ kv aC gA e2;obtain⟨E2,q1,q2,q3,q4,q5⟩:=hf.shared h.rel.bx;refine⟨h.rel.Kk,v,h1,v,E2,rfl,h.base.trans q3,q4,q5,fun i hi s7=> ?_⟩;obtain⟨p,hp,hg⟩:∃p,c.outs.E5[i]? =some p∧p≠ .gone:=by
  unfold alive at s7;cases hh:c.outs.E5[i]? with
  |none=>rw[hh]at s7;cases s7
  |some p=>
   refine⟨p,rfl,fun hp=> ?_⟩;rw[hh,hp]at s7;cases s7
 have sy:=hext.2 i i (by have:=Zx (i:=0) (n:=c.ins.E5.length) hp hg (by omega);simpa using this);obtain⟨b,B,g1,g2,g3,_⟩:=lH e2 i p hp hg;rw[sy]at g1;cases g1;have jC:=hf.ids i i sy;have vY:=h.ids i hi (fun hd=>by rw[g2]at hd;cases hd;exact g3 rfl);rw[q1,q2];exact⟨jC.1.trans vY.1,jC.2.trans vY.2⟩
include hT hΓ hm in
theorem uu{code:Code}(hb:fn.body=some code)(hl:(labels code).Nodup){J:Nat→Nat→St→Option c.outs.V}(hJ:qZ C c fn code J)
  {E0:Env} {w0:World} {u:c.outs.V} {Q:cK} (hp:Xc Q)
  (hg:Good E0 w0 fn.ntmps c.ins.E5.length u (fun _=>jQ C.T c fn.results.toList) (fun _ _ _=>none) (fun _=>jQ C.T c fn.results.toList) Q):
  ∀n,JOk P E0 w0 fn.ntmps c.ins.E5.length u (J n) code Q:=by
 intro n
 induction n with
 |zero=>
  intro ℓ body Q' Nz E σ a w h e;obtain⟨s,F,j1,j2,j3⟩:=hJ ℓ Nz.label;rw[j1]at e;simp only[jump]at e;split at e
  ·rw[AIm]at e
   obtain⟨q,_,e⟩:=e;rw[j2]at e;cases e
  ·cases e
 |succ n ih=>
  intro ℓ body Q' Nz E σ a w h e;obtain⟨s,F,j1,j2,j3⟩:=hJ ℓ Nz.label;rw[j1]at e;simp only[jump]at e;split at e
  case isFalse=>cases e
  rename_i ir;rw[AIm]at e;obtain⟨⟨v,m⟩,e1,e2⟩:=e;dsimp only at e2;obtain⟨E,h⟩:=h.ALW (bs:=s.E5) s.C5
  replace h:=h.AJX (bs:=s.E5) s.C5
  revert h e1
  generalize Xx s.E5 s.C5 (Mo s.E5 s.C5 σ)=σ
  intro e1 h;obtain⟨E,h,kv,h4⟩:=h.opens s;obtain⟨hext,E1,hf⟩:=cz h.rel.bx h.rel.tm kv aC gA e1;obtain⟨E2,q1,q2,q3,q4,q5⟩:=hf.shared h.rel.bx;have Mm:fn.ntmps=a.tmps.toList.length:=by rw[←Bw.len h.rel.tm,h.tm]
  have DK:Ok E0 w0 fn.ntmps c.ins.E5.length E2 (s.st fn.ntmps v) a w:=by
   refine⟨⟨h.rel.Kk,aw q5 (Bw.undef Mm),q4⟩,h.base.trans q3,?_,?_,fun i hi hd=> ?_⟩
   ·have:=Bw.len (aw q5 (Bw.undef Mm))
    simp only[B3.st];rw[this,←Mm]
   ·simp only[B3.st]
    rw[P0];exact ir
   ·simp only[B3.st]at hd
    have hp':s.E5[i]? =some (s.E5[i]'(by omega)):=AIH _;have hng:s.E5[i]'(by omega)≠ .gone:=fun n0=>by
     obtain⟨z,z1,_⟩:=V7 id (u:=v.2) hp';apply hd;rw[z1]
     generalize s.E5[i]'(by omega)=pp at z n0
     subst n0;rfl
    have sy:=hext.2 i i (by have:=Zx (i:=0) (n:=c.ins.E5.length) hp' hng (by omega);simpa using this);obtain⟨b,B,g1,g2,g3,_⟩:=lH e1 i _ hp' hng;rw[sy]at g1;cases g1;have jC:=hf.ids i i sy;have vY:=h.ids i hi (fun hd=>by rw[g2]at hd;cases hd;exact g3 rfl);rw[q1,q2];exact⟨jC.1.trans vY.1,jC.2.trans vY.2⟩
  have qY:=j3 n v u e2;obtain⟨kn',kx',kr',hfind,m7,hnp,hj⟩:=AB3 hT hΓ hm hl hp hg ih Nz;simp only[Gh,hb,hfind]at qY;refine Lj.AAl (oS hT hΓ hm (hnp.then _) (kn:=fun _ σ=>J n ℓ σ) ⟨fun E σ a w h e=> ?_,fun id E σ a w h e=>m7.x id E σ a w h e,m7.r⟩ hj DK qY);exact ih ℓ body Q' Nz E σ a w h (e [])
include hT hΓ hm in
theorem uG{f:Nat}(hf:AKC P f fn c){J:Nat→Nat→St→Option c.outs.V}(hJ:∀code,fn.body=some code→qZ C c fn code J)
  (hg:∀v u,c.g v=some u→ ∃n,∀ω,Fz C c fn (J n) ω v=some u):Wq P f c:=by
 refine⟨hf.con,hf.call,fun E w v args u Gp hB hS hgv=> ?_⟩;obtain⟨n,hn⟩:=hg v u hgv;cases hb:fn.body with
 |none=>
  have:=hn [];simp only[Fz,hb]at this;cases this
 |some code=>
  simp only[Fz,hb]at hn;refine calls_of_wp hf.at_ hb ?_
  have hp:Xc (bodyPost P fn (ADz c E w u)):=fun ch a w' hq=>by
   obtain⟨_,x,E',hx,_⟩:=hq;cases hx
  have m7:Good E w fn.ntmps c.ins.E5.length u (fun _=>jQ C.T c fn.results.toList) (fun _ _ _=>none) (fun _=>jQ C.T c fn.results.toList) (bodyPost P fn (ADz c E w u)):=
   ⟨fun E' σ a w' h e=>kK hT h (e []),fun id E' σ a w' h e=>(by cases e []),fun E' σ a w' h e=>kK hT h (e [])⟩
  have DK:Ok E w fn.ntmps c.ins.E5.length E (c.ins.st fn.ntmps v) { tmps:=args++Array.replicate (fn.ntmps-args.size) undef,defers:=[] } w:=by
   have htm:Bw (XR E w (G_.mk id c.ins.E5 v.2)) (E7.mk id c.ins.C5 v.1 (List.replicate fn.ntmps (.c .undef))) (args++Array.replicate (fn.ntmps-args.size) undef).toList:=by
    rw[Array.toList_append];refine aw (ZN hS) (Bw.undef ?_);have:=hf.tmps;simp;omega
   refine⟨⟨rfl,htm,hB⟩,Yg.refl E w,?_,by simp only[B3.st];rw[P0];exact ALE _,fun _ _ _=>⟨rfl,rfl⟩⟩;simp only[B3.st];rw[Bw.len htm];have:=hf.tmps;simp;omega
  exact oS hT hΓ hm hp m7 (uu hT hΓ hm hb (hf.labels code hb) (hJ code hb) hp m7 n) DK hn
end
end Go.Fw
end
section
namespace Go.Fw
def EF:List Ty→Ty
 |[]=> .unit
 |c::l=> .cons c (EF l)
def mj(row:TypeId→Option (List Ty×Bool))(cells:TypeId→Nat):Nat→List Field→Option (List Ty)
 |_,[]=>some []
 |o,f::fs=>
  match row f.type with
  |some (l,_)=>if f.offset=o∧cells f.type=l.length then(mj row cells (o+l.length) fs).map (l++ ·)else none
  |none=>none
def cY:List Ty×Bool→Ty
 |(l,true)=>EF l
 |([c],false)=>c
 |_=> .unit
def rowOf(P:Program):Nat→TypeId→Option (List Ty×Bool)
 |0,_=>none
 |n+1,t=>
  match P.underlying t with
  |some (.int k)=>some ([.int k],false)
  |some .bool=>some ([.bool],false)
  |some .string=>some ([.str],false)
  |some (.slice e)=>
   match rowOf P n e with
   |some q=>if P.cellsOf e=q.1.length∧0<q.1.length then some ([.sl (cY q)],false)else none
   |none=>none
  |some (.struct fs)=>
   match mj (rowOf P n) P.cellsOf 0 fs.toList with
   |some l=>if P.cellsOf t=l.length then some (l,true)else none
   |none=>none
  |_=>none
def Vd:(t:Ty)→t.D→Prop
 | .int k,x=>(Lit.int k x).wf=true
 | .bool,_=>True
 | .str,x=>List.length x≤maxLen
 | .sl r,x=>List.length x≤maxLen∧ ∀y∈x,Vd r y
 | .unit,_=>True
 | .cons c r,x=>Vd c x.1∧Vd r x.2
theorem bJ{α:Type}{p:Nat→α→Prop}:∀{n:Nat},(∀i,i<n→ ∃y,p i y)→ ∃x:List α,x.length=n∧ ∀(i:Nat) y,x[i]? =some y→p i y
 |0,_=>⟨[],rfl,fun i y h=>by simp at h⟩
 |n+1,h=>by
  obtain⟨x,h1,h2⟩:=bJ (n:=n) (p:=p) (fun i hi=>h i (by omega));obtain⟨y,hy⟩:=h n (by omega);refine⟨x++[y],by simp[h1],fun i z hz=> ?_⟩;by_cases hi:i<x.length
  ·rw[AJI hi]at hz
   exact h2 i z hz
  ·rw[AKi (by omega)]at hz
   have hil:=(AIE.1 hz).1;simp at hil;have:i=n:=by omega
   subst this;simp[h1]at hz;subst hz;exact hy
theorem jt{w:World}{B:Nat→Prop}:∀{l m:List Ty} {cs ds:List Value} {x:(EF l).D} {y:(EF m).D},Rd w B (EF l) cs x→Rd w B (EF m) ds y→Vd (EF l) x→Vd (EF m) y→
  ∃z:(EF (l++m)).D,Rd w B (EF (l++m)) (cs++ds) z∧Vd (EF (l++m)) z
 |[],m,cs,ds,x,y,h,k,hx,hy=>by
  simp only[EF,Rd]at h;subst h;exact⟨y,k,hy⟩
 |c::l,m,cs,ds,x,y,h,k,hx,hy=>by
  simp only[EF,Rd]at h;obtain⟨v,r,rfl,h1,h2⟩:=h;obtain⟨z,z1,z2⟩:=jt h2 k hx.2 hy;exact⟨(x.1,z),by simp only[AMR,EF,Rd];exact⟨v,r++ds,rfl,h1,z1⟩,hx.1,z2⟩
theorem sa{P:Program}{n:Nat}{t:TypeId}{l:List Ty}(h:rowOf P n t=some (l,false)):∃c,l=[c]:=by
 cases n with
 |zero=>simp[rowOf]at h
 |succ n=>
  simp only[rowOf]at h;split at h
  ·cases h;exact⟨_,rfl⟩
  ·cases h;exact⟨_,rfl⟩
  ·cases h;exact⟨_,rfl⟩
  ·split at h
   ·split at h
    ·cases h;exact⟨_,rfl⟩
    ·cases h
   ·cases h
  ·split at h
   ·split at h
    ·cases h
    ·cases h
   ·cases h
  ·cases h
theorem lQ{w:World}{B:Nat→Prop}{P:Program}{n:Nat}{t:TypeId}{q:List Ty×Bool}(h:rowOf P n t=some q){cs:List Value}{x:(EF q.1).D}(hx:Rd w B (EF q.1) cs x)(hv:Vd (EF q.1) x):
  (cY q).n=q.1.length∧ ∃y:(cY q).D,Rd w B (cY q) cs y∧Vd (cY q) y:=by
 obtain⟨l,b⟩:=q;cases b with
 |true=>
  refine⟨?_,x,hx,hv⟩;clear h hx hv x;simp only[cY]
  induction l with
  |nil=>rfl
  |cons c l ih=>simp[EF,Ty.n,ih]
 |false=>
  obtain⟨c,rfl⟩:=sa h;simp only[EF,Rd]at hx;obtain⟨v,r,rfl,h1,h2⟩:=hx;subst h2;refine⟨?_,x.1,h1,hv.1⟩;have:=br h1;simp only[cY];simpa using this.symm
theorem rA(a:Addr):a.add 0=a:=by simp[Addr.add]
theorem sH{w:World}{a:Addr}{v:Value}(h:w.cell? a=some v):a.spot=none:=by
 unfold World.cell? at h;split at h
 ·split at h
  ·cases h
  ·rename_i hs;simpa using hs
 ·cases h
section
variable{H:Type} {enc:TypeId×Value→H} {P:Program} {w:World} {spare:Nat→Bool} {held:Bool}
theorem av:∀(n:Nat) {t:TypeId} {q:List Ty×Bool},rowOf P n t=some q→ ∀{fuel:Nat} {cs:List Value} {x:DataW H×List MemPlace},DataW.trod enc P w 0 spare held fuel t cs=some x→
  ∃y:(EF q.1).D,Rd w (fun b=>b<w.heap.size) (EF q.1) cs y∧Vd (EF q.1) y
 |0,t,q,h,_,_,_,_=>by simp[rowOf]at h
 |n+1,t,q,h,fuel,cs,x,hx=>by
  simp only[rowOf]at h;split at h
  ·rename_i k hu
   cases h;obtain⟨m,rfl,_,hw⟩:=DataW.trod_int hu hx;exact⟨(m,()),by simp[EF,Rd],hw,trivial⟩
  ·rename_i hu
   cases h;obtain⟨b,rfl,_⟩:=DataW.trod_bool hu hx;exact⟨(b,()),by simp[EF,Rd],trivial,trivial⟩
  ·rename_i hu
   cases h;obtain⟨s,rfl,_,hs⟩:=DataW.trod_string hu hx;refine⟨(s.data.toList,()),by simp[EF,Rd],?_,trivial⟩
   show s.data.toList.length≤maxLen
   rw[AN3];exact hs
  ·rename_i e hu
   split at h
   case h_2=>cases h
   rename_i q' hq';split at h
   case isFalse=>cases h
   rename_i lh;cases h;rcases DataW.trod_slice hu hx with⟨rfl,_⟩|⟨a,len,cap,elems,rest,m,_,rfl,_,_,hlc,hcm,V2,Nz,_,_⟩
   ·refine⟨([],()),?_,⟨by simp,by simp⟩,trivial⟩
    simp only[EF,Rd];exact⟨_,[],rfl,⟨_,_,rfl,by simp,.inl rfl⟩,rfl⟩
   ·have each:∀i,i<len→ ∃y:(cY q').D,Vd (cY q') y∧ ∃ds,ds.length=(cY q').n∧(∀j,j<ds.length→w.cell? ((a.add (i*P.cellsOf e)).add j)=ds[j]?)∧Rd w (fun b=>b<w.heap.size) (cY q') ds y:=by
     intro i hi;have hz:elems[i]? =some (elems[i]'(by omega)):=AIH _;have h1:=Nz i hi;rw[hz,AIm]at h1;obtain⟨ds,hds,htr⟩:=h1;obtain⟨z,z1,z2⟩:=av n hq' htr;obtain⟨_,c1,c2⟩:=World.cells?_some hds
     obtain⟨a1,y,a2,a3⟩:=lQ hq' z1 z2;exact⟨y,a3,ds,by rw[c1,a1,lh.1],fun j hj=>c2 j (by omega),a2⟩
    obtain⟨xs,x1,x2⟩:=bJ each;refine⟨(xs,()),?_,⟨by show xs.length≤maxLen;omega,fun y hy=> ?_⟩,trivial⟩
    ·simp only[EF,Rd]
     refine⟨_,[],rfl,⟨_,cap,by rw[x1],by omega,?_⟩,rfl⟩;by_cases h0:len=0
     ·exact .inl (by omega)
     right
     obtain⟨y0,_,ds0,d0,d1,_⟩:=each 0 (by omega);have hn0:0<(cY q').n:=by
      rw[d0.symm];have hz:elems[0]? =some (elems[0]'(by omega)):=AIH _;have h1:=Nz 0 (by omega);rw[hz,AIm]at h1;obtain⟨ds,hds,htr⟩:=h1;obtain⟨z,z1,z2⟩:=av n hq' htr;have:=(lQ hq' z1 z2).1;omega
     have hc0:=d1 0 (by omega);simp only[Nat.zero_mul,rA]at hc0;have tA:w.cell? a=some (ds0[0]'(by omega)):=by rw[hc0];exact AIH _
     have q8:=sH tA;obtain⟨b,o,s⟩:=a;simp only at q8;subst q8;refine⟨b,o,rfl,?_,fun i y hy=> ?_⟩
     ·unfold World.cell? at tA
      split at tA
      ·rename_i hb;exact(Array.getElem?_eq_some_iff.1 hb).1
      ·cases tA
     ·have hil:=(AIE.1 hy).1
      obtain⟨_,ds,e0,e1,e2⟩:=x2 i y hy;have hcn:P.cellsOf e=(cY q').n:=by
       have hz:elems[i]? =some (elems[i]'(by omega)):=AIH _;have h1:=Nz i (by omega);rw[hz,AIm]at h1;obtain⟨ds,hds,htr⟩:=h1;obtain⟨z,z1,z2⟩:=av n hq' htr;rw[(lQ hq' z1 z2).1,lh.1]
      refine⟨ds,e0,fun j v hj=> ?_,e2⟩;have qq:=(AIE.1 hj).1;have:=e1 j qq;rw[Addr.add_eq,Addr.add_eq,hcn]at this;rw[this,hj]
    ·obtain⟨i,hi,rfl⟩:=ALr hy
     exact(x2 i _ (AIH hi)).1
  ·rename_i fs hu
   split at h
   case h_2=>cases h
   rename_i l hl;split at h
   case isFalse=>cases h
   rename_i Xp;cases h;obtain⟨xs,m,_,_,hlen,hxs,Nz⟩:=DataW.trod_struct hu hx;have key:∀(fs:List Field) (o:Nat) (l:List Ty) (i0:Nat),mj (rowOf P n) P.cellsOf o fs=some l→cs.length=o+l.length→(∀(i:Nat) (f:Field),fs[i]? =some f→ ∃z,DataW.trod enc P w 0 spare held m f.type ((cs.drop f.offset).take (P.cellsOf f.type))=some z)→
     ∃y:(EF l).D,Rd w (fun b=>b<w.heap.size) (EF l) (cs.drop o) y∧Vd (EF l) y:=by
    intro fs
    induction fs with
    |nil=>
     intro o l i0 hl hc _;simp only[mj,AIK]at hl;subst hl;refine⟨(),?_,trivial⟩;simp only[EF,Rd];simp at hc;simp[hc]
    |cons f fs ih=>
     intro o l i0 hl hc Nz;simp only[mj]at hl;split at hl
     case h_2=>cases hl
     rename_i l1 b1 hr;split at hl
     case isFalse=>cases hl
     rename_i hof;simp only[AIX]at hl;obtain⟨l2,uB,rfl⟩:=hl;obtain⟨z,hz⟩:=Nz 0 f rfl;obtain⟨y1,a1,a2⟩:=av n hr hz;obtain⟨y2,b1,b2⟩:=ih (o+l1.length) l2 0 uB (by simp at hc;omega) (fun i f hf=>Nz (i+1) f (by simpa using hf));obtain⟨y,c1,c2⟩:=jt a1 b1 a2 b2;refine⟨y,?_,c2⟩;rw[hof.1,hof.2,←List.drop_drop,AOK]at c1;exact c1
   have:=key fs.toList 0 l 0 hl (by rw[hlen,Xp];simp) (fun i f hf=>by
    have hf':fs[i]? =some f:=by simpa using hf
    have hil:i<xs.length:=by rw[hxs];exact(Array.getElem?_eq_some_iff.1 hf').1
    exact⟨xs[i],by rw[Nz i f hf'];exact AIH hil⟩)
   simpa using this
  ·cases h
end
end Go.Fw
end
section
open Go.RowKit
namespace Go.Fw
def k_(W:World):Env:={ GB:=fun _=>0,GQ:=fun _=> .nilFunc,T:=fun b=>b<W.heap.size,S:=fun b=>b<W.heap.size }
abbrev gq:B3:=⟨[(0,.c (.v .bool))],[]⟩
theorem sf{P:Program}{f:Nat}{C5:List (Nat×XP)}{g:B3.V ⟨C5,[]⟩→Option gq.V}(hs:Wq P f ⟨⟨C5,[]⟩,gq,g⟩){W:World}{args:Array Value}(x:E7.V C5)(hlen:args.size=C5.length)
  (hx:MU (k_ W) W [] id C5 x args.toList) (hg:g (x,())=some ((true,()),())):Calls P f args W fun e W' =>e= .returned (.bool true)∧Below W.heap.size W W':=by
 obtain⟨_,_,h⟩:=hs;refine(h (k_ W) W (x,()) args _ hlen ⟨[],⟨rfl,fun k B F h=>by simp[G_.mk]at h⟩,by simp,by simp,by simp,fun _ h=>h,fun _ h=>h⟩ hx hg).mono fun e W' hR=> ?_
 obtain⟨v,E',rfl,base,_,⟨⟨v',hv,hxr⟩,_⟩,_⟩:=hR;simp at hv;subst hv;have:v= .bool true:=by
  have h2:VR E' W' [] (.v .bool true) v:=hxr;exact OW h2
 subst this;exact⟨rfl,base.os,base.tape,base.output,base.size,fun k hk=>base.heap k hk⟩
theorem ACm{W:World}{vw:List Bx}{s:Bool}{r:Ty}{v:Value}{y:List r.D}(h:Rd W (fun b=>b<W.heap.size) (.sl r) [v] y):XR (k_ W) W vw (XP.mk id (.c (.sl s r)) y) v:=by
 show Rd W (if s then _ else _) (.sl r) [v] y
 cases s<;>exact h
end Go.Fw
end
section
namespace Go.Fw
def Vk:List (Nat×Qz)→Nat→Option Qz
 |[],_=>none
 |(f,c)::l,g=>if f=g then some c else Vk l g
def zx(P:Program):List (Nat×Qz)→Prop
 |[]=>True
 |q::l=>Wq P q.1 q.2∧zx P l
theorem fi{P:Program}:∀{l:List (Nat×Qz)},zx P l→ZZ P (Vk l)
 |[],_=>fun f c e=>by cases e
 |(g,d)::l,h=>fun f c e=>by
  simp only[Vk]at e;split at e
  ·rename_i hg
   cases e;subst hg;exact h.1
  ·exact fi h.2 f c e
theorem gW{P:Program}{f:Nat}{fn:Func}(hf:P.funcs[f]? =some fn)(hn:(fn.name== "runtime.NumGoroutine")=false)(hb:fn.body.isNone=false)(args:Array Value)(w:World):
  (callFunc f args).run P w= .ok (.enter f args) w:=by
 have h1:fn.name≠ "runtime.NumGoroutine" :=by simpa using hn
 have h2:fn.body≠none:=by
  intro h;rw[h]at hb;cases hb
 simp[callFunc,hf,h1,h2]
def bM(fn:Func)(c:Qz):Bool:=
 !(
  fn.name== "runtime.NumGoroutine")&& !fn.body.isNone&&c.ok&&decide (c.ins.C5.length≤fn.ntmps)&&(match fn.body with
  |some code=>decide (labels code).Nodup
  |none=>true)
theorem ANb{P:Program}{f:Nat}{fn:Func}{c:Qz}(hf:P.funcs[f]? =some fn)(h:bM fn c=true):AKC P f fn c:=by
 simp only[bM,AIo,AMZ,AJJ]at h;obtain⟨⟨⟨⟨h1,h2⟩,h3⟩,h4⟩,h5⟩:=h;refine⟨hf,gW hf h1 h2,h3,h4,fun code hc=> ?_⟩;rw[hc]at h5;simpa using h5
def Z3(C:Z6)(c:Qz)(fn:Func)(J:Nat→Nat→St→Option c.outs.V):List Nat→Prop
 |[]=>True
 | ℓ ::l=>(∃(s:B3) (F:Nat→s.V→Option c.outs.V),(∀n,J n ℓ =jump c.ins.E5.length s (F n))∧(∀v,F 0 v=none)∧
  ∀n v,∀ω,Gh C c fn (J n) ℓ ω (s.st fn.ntmps v)=F (n+1) v)∧Z3 C c fn J l
theorem Z3.ok{C:Z6}{c:Qz}{fn:Func}{J:Nat→Nat→St→Option c.outs.V}:∀{l:AB1},Z3 C c fn J l→ ∀ ℓ ∈l,∃(s:B3) (F:Nat→s.V→Option c.outs.V),(∀n,J n ℓ =jump c.ins.E5.length s (F n))∧(∀v,F 0 v=none)∧
  ∀n v y,F (n+1) v=some y→ ∀ω,Gh C c fn (J n) ℓ ω (s.st fn.ntmps v)=some y
 |[],_,ℓ,h=>by cases h
 |k::l,hl,ℓ,h=>by
  rcases AKv.1 h with rfl|h
  ·obtain⟨⟨s,F,h1,h2,h3⟩,_⟩:=hl
   exact⟨s,F,h1,h2,fun n v y e ω=>(h3 n v ω).trans e⟩
  ·exact Z3.ok hl.2 ℓ h
def aq(fn:Func):AB1:=
 match fn.body with
 |some code=>labels code
 |none=>[]
def DD:List AF1→Nat→List Nat
 |[],_=>[]
 |(r,h)::l,q=>if r=q then h else DD l q
theorem ve{P:Program}{T:Hq}{l:List (Nat×Qz)}{hint:Nat→List Nat}{f:Nat}{fn:Func}{c:Qz}(hT:D4 P T)(hm:P.follows .mixedOrders=true)(hf:P.funcs[f]? =some fn)(hl:zx P l)(hc:bM fn c=true)
  {J:Nat→Nat→St→Option c.outs.V} {L:AB1} (hL:aq fn=L) (hJ:Z3 ⟨T,Vk l,hint⟩ c fn J L) (n:Nat) (he:∀ω v,Fz ⟨T,Vk l,hint⟩ c fn (J n) ω v=c.g v):Wq P f c:=
 uG (C:=⟨T,Vk l,hint⟩) hT (fi hl) hm (ANb hf hc) (J:=J) (fun code hb ℓ hℓ =>Z3.ok hJ ℓ (by
  rw[←hL];simp only[aq,hb];exact hℓ)) fun v u hg=>⟨n,fun ω=>(he ω v).trans hg⟩
end Go.Fw
end
section
namespace Go.M
abbrev Dd:Nat:=Go.Fw.Dd
def AX(x:Int):Int:=IntKind.wrap .i64 x
def Yo(κ:IntKind)(a b:Int):Int:=κ.wrap (BitVec.ofInt κ.bits a &&& BitVec.ofInt κ.bits b).toNat
def bOr(κ:IntKind)(a b:Int):Int:=κ.wrap (BitVec.ofInt κ.bits a ||| BitVec.ofInt κ.bits b).toNat
def ADq(κ:IntKind)(a b:Int):Int:=κ.wrap (BitVec.ofInt κ.bits a ^^^ BitVec.ofInt κ.bits b).toNat
theorem gd:∃n:Nat,2^64≤n:=⟨_,ALE _⟩
noncomputable def AZ:Nat:=Classical.choose gd
theorem SA:2^64≤AZ:=Classical.choose_spec gd
end Go.M
end
section
namespace Go.Fw
structure SP (P:Program) where
 f:Nat
 c:Qz
 h:Wq P f c
def SP.l{P:Program}:List (SP P)→List (Nat×Qz)
 |[]=>[]
 |s::l=>(s.f,s.c)::SP.l l
theorem qR{P:Program}:∀l:List (SP P),zx P (SP.l l)
 |[]=>trivial
 |s::l=>⟨s.h,qR l⟩
@[reducible] def AP.Cu (R:Type):AP→Type
 | .kJ _ rs=>VM rs→R
 | .v t=>t.D→R
 | .sl _ r=>List r.D→R
 | .jX r=>r.D→R
 | .cS _ _=>Nat×Nat→R
 |_=>R
def AP.un{R:Type}:(p:AP)→p.Cu R→p.V→R
 | .kJ _ _,f,x=>f x
 | .v _,f,x=>f x
 | .sl _ _,f,x=>f x
 | .jX _,f,x=>f x
 | .cS _ _,f,x=>f x
 | .nil,f,_=>f
 | .ref _,f,_=>f
 | .ptr _ _,f,_=>f
 | .fn _ _,f,_=>f
 | .any,f,_=>f
@[reducible] def Tu.Cu (R:Type):List AP→Type
 |[]=>R
 |p::l=>p.Cu (Tu.Cu R l)
def Tu.un{R:Type}:(l:List AP)→Tu.Cu R l→Tu.V l→R
 |[],f,_=>f
 |p::l,f,x=>Tu.un l (p.un f x.1) x.2
@[reducible] def UW.Cu (R:Type):List (AP ⊕ List AP)→Type
 |[]=>R
 | .inl p::l=>p.Cu (UW.Cu R l)
 | .inr q::l=>Tu.Cu (UW.Cu R l) q
def UW.un{R:Type}:(l:List (AP ⊕ List AP))→UW.Cu R l→UW.V l→R
 |[],f,_=>f
 | .inl p::l,f,x=>UW.un l (p.un f x.1) x.2
 | .inr q::l,f,x=>UW.un l (Tu.un q f x.1) x.2
@[reducible] def XP.Cu (R:Type):XP→Type
 | .c p=>p.Cu R
 | .agg l=>Tu.Cu R l
 | .row r=>r.D→R
 | .Kv l=>UW.Cu R l
def XP.un{R:Type}:(p:XP)→p.Cu R→p.V→R
 | .c p,f,x=>p.un f x
 | .agg l,f,x=>Tu.un l f x
 | .row _,f,x=>f x
 | .Kv l,f,x=>UW.un l f x
@[reducible] def BP.Cu (R:Type):BP→Type
 | .mem l=>Tu.Cu R l
 | .sl _ r=>List r.D→R
 | .gone=>R
def BP.un{R:Type}:(p:BP)→p.Cu R→p.V→R
 | .mem l,f,x=>Tu.un l f x
 | .sl _ _,f,x=>f x
 | .gone,f,_=>f
@[reducible] def E7.Cu (R:Type):List (Nat×XP)→Type
 |[]=>R
 |(_,p)::l=>p.Cu (E7.Cu R l)
def E7.un{R:Type}:(l:List (Nat×XP))→E7.Cu R l→E7.V l→R
 |[],f,_=>f
 |(_,p)::l,f,x=>E7.un l (p.un f x.1) x.2
@[reducible] def G_.Cu (R:Type):List BP→Type
 |[]=>R
 |p::l=>p.Cu (G_.Cu R l)
def G_.un{R:Type}:(l:List BP)→G_.Cu R l→G_.V l→R
 |[],f,_=>f
 |p::l,f,x=>G_.un l (p.un f x.1) x.2
@[reducible] def B3.Cu (s:B3) (R:Type):Type:=E7.Cu (G_.Cu R s.E5) s.C5
def B3.un{R:Type}(s:B3)(f:s.Cu R)(v:s.V):R:=G_.un s.E5 (E7.un s.C5 f v.1) v.2
structure Lp (o:B3) where
 ℓ :Nat
 s:B3
 F:Nat→s.Cu (Option o.V)
def PG{o:B3}(nb:Nat):List (Lp o)→Nat→Nat→St→Option o.V
 |[],_,_,_=>none
 |p::l,n,ℓ,σ=>if ℓ =p.ℓ then jump nb p.s (p.s.un (p.F n)) σ else PG nb l n ℓ σ
inductive TB (C:Z6) (c:Qz) (fn:Func) (J:Nat→Nat→St→Option c.outs.V):List (Lp c.outs)→Prop
 |nil:TB C c fn J []
 |cons {ℓ :Nat} {s:B3} {F:Nat→s.Cu (Option c.outs.V)} {l:List (Lp c.outs)} (h0:∀v,s.un (F 0) v=none) (h1:∀n v ω,Gh C c fn (J n) ℓ ω (s.st fn.ntmps v)=s.un (F (n+1)) v) (h:TB C c fn J l):TB C c fn J (⟨ℓ,s,F⟩::l)
def Lp.ls{o:B3}:List (Lp o)→List Nat
 |[]=>[]
 |p::l=>p.ℓ ::Lp.ls l
theorem vd{o:B3}{nb:Nat}:∀{l:List (Lp o)} (n:Nat) {ℓ :Nat} (p:Lp o) (pre:List (Lp o)),ℓ =p.ℓ →(Lp.ls (pre++p::l)).Nodup→PG nb (pre++p::l) n ℓ =jump nb p.s (p.s.un (p.F n))
 |l,n,ℓ,p,[],e,_=>by
  funext σ
  simp[PG,e]
 |l,n,ℓ,p,q::pre,e,hn=>by
  funext σ
  have hq: ℓ ≠q.ℓ :=by
   intro h;simp only[AMR,Lp.ls,ANm]at hn;refine hn.1 ?_
   rw[←h,e];clear hn h e
   induction pre with
   |nil=>simp[Lp.ls]
   |cons a m ih=>simp[Lp.ls,ih]
  have:=congrFun (vd (nb:=nb) (l:=l) n p pre e (by simp only[AMR,Lp.ls,ANm]at hn;exact hn.2)) σ;simp only[AMR,PG,AIU hq];exact this
theorem TB.ok{C:Z6}{c:Qz}{fn:Func}{nb:Nat}(hb:nb=c.ins.E5.length){L:List (Lp c.outs)}(hn:(Lp.ls L).Nodup):∀{l pre:List (Lp c.outs)},L=pre++l→TB C c fn (PG nb L) l→Z3 C c fn (PG nb L) (Lp.ls l)
 |[],_,_,_=>trivial
 |⟨ℓ,s,F⟩::l,pre,e,.cons h0 h1 h=>by
  refine⟨⟨s,fun n=>s.un (F n),fun n=> ?_,h0,fun n v ω=>h1 n v ω⟩,TB.ok hb hn (pre:=pre++[⟨ℓ,s,F⟩]) (by simp[e]) h⟩;subst hb;rw[e];exact vd n ⟨ℓ,s,F⟩ pre rfl (by rw[←e];exact hn)
def mkP{P:Program}{T:Hq}(hT:D4 P T)(hm:P.follows .mixedOrders=true){f:Nat}{fn:Func}(hf:P.funcs[f]? =some fn)(i o:B3)(g:i.Cu (Option o.V))(l:List (SP P))(h:List AF1)(L:List (Lp o))(n:Nat)
  (hL:aq fn=Lp.ls L) (hd:decide (Lp.ls L).Nodup=true) (hc:bM fn ⟨i,o,i.un g⟩=true)
  (hJ:TB ⟨T,Vk (SP.l l),DD h⟩ ⟨i,o,i.un g⟩ fn (PG i.E5.length L) L)
  (he:∀ω v,Fz ⟨T,Vk (SP.l l),DD h⟩ ⟨i,o,i.un g⟩ fn (PG i.E5.length L n) ω v=i.un g v):SP P:=
 ⟨f,⟨i,o,i.un g⟩,ve (l:=SP.l l) hT hm hf (qR l) hc (J:=PG i.E5.length L) (L:=Lp.ls L) hL (TB.ok rfl (by simpa using hd) (pre:=[]) rfl hJ) n he⟩
theorem AE{Q:List Bool→Prop}(a:Q [])(b:∀ω,Q (false::ω))(d:∀ω,Q (true::ω)):∀ω,Q ω
 |[]=>a
 |false::ω=>b ω
 |true::ω=>d ω
end Go.Fw
end
section
namespace Go.Fw
open Go.Proofs Go.Shelf Go.RowKit Go.Lib
structure AGr (P:Program) (ρ:Ren) (nm:String) (fv:Func):Prop where
 mixed:P.follows .mixedOrders=true
 f22:P.funcs[ρ.f 22]? =some { Body2.n22 ρ with name:=nm }
 n22:(nm== "runtime.NumGoroutine")=false
 f29:P.funcs[ρ.f 29]? =some fv
 n29:(fv.name== "runtime.NumGoroutine")=false
 b29:fv.body.isNone=true
 e29:Extern.findNext fv=none
 x29:Extern.find fv=some (Extern.SlicesOverlaps.overlaps #[(ρ.t 24),(ρ.t 24)] #[(ρ.t 4)])
 t0:P.underlying (ρ.t 0)=some (TypeDesc.tuple #[])
 a0:∀w,(isAgg (ρ.t 0)).run P w= .ok false w
 z0:∀w,(Go.sizeOf (ρ.t 0)).run P w= .ok 1 w
 v0:∀w,(zeroValue (ρ.t 0)).run P w= .ok (Value.tuple #[]) w
 t3:P.underlying (ρ.t 3)=some (TypeDesc.int IntKind.i64)
 a3:∀w,(isAgg (ρ.t 3)).run P w= .ok false w
 z3:∀w,(Go.sizeOf (ρ.t 3)).run P w= .ok 1 w
 v3:∀w,(zeroValue (ρ.t 3)).run P w= .ok (Value.int IntKind.i64 0) w
 t4:P.underlying (ρ.t 4)=some (TypeDesc.bool)
 a4:∀w,(isAgg (ρ.t 4)).run P w= .ok false w
 z4:∀w,(Go.sizeOf (ρ.t 4)).run P w= .ok 1 w
 v4:∀w,(zeroValue (ρ.t 4)).run P w= .ok (Value.bool false) w
 t24:P.underlying (ρ.t 24)=some (TypeDesc.slice (ρ.t 9))
 a24:∀w,(isAgg (ρ.t 24)).run P w= .ok false w
 z24:∀w,(Go.sizeOf (ρ.t 24)).run P w= .ok 1 w
 v24:∀w,(zeroValue (ρ.t 24)).run P w= .ok (Value.slice none 0 0) w
section
variable{P:Program} {ρ:Ren} {nm:String} {fv:Func}
end
end Go.Fw
end
section
namespace Go.Fw
open Go.Proofs Go.Shelf Go.RowKit Go.Lib
def Flat(w:World)(r:Ty)(css:List (List Value))(rows:List r.D):Prop:=
 css.length=rows.length∧(∀c∈css,c.length=r.n)∧ ∀(i:Nat) cs y,css[i]? =some cs→rows[i]? =some y→Rd w (fun _=>False) r cs y
theorem Flat.to{w w':World}{r:Ty}(hf:r.flat=true){css:List (List Value)}{rows:List r.D}(h:Flat w r css rows):Flat w' r css rows:=
 ⟨h.1,h.2.1,fun i cs y a b=>fH hf (h.2.2 i cs y a b)⟩
theorem Flat.take{w:World}{r:Ty}{css:List (List Value)}{rows:List r.D}(h:Flat w r css rows)(n:Nat):Flat w r (css.take n) (rows.take n):=by
 refine⟨by simp[h.1],fun c hc=>h.2.1 c (AOM hc),fun i cs y a b=> ?_⟩;rw[List.getElem?_take]at a b;split at a
 ·rename_i hi
  rw[AIF hi]at b;exact h.2.2 i cs y a b
 ·cases a
theorem Flat.drop{w:World}{r:Ty}{css:List (List Value)}{rows:List r.D}(h:Flat w r css rows)(n:Nat):Flat w r (css.drop n) (rows.drop n):=by
 refine⟨by simp[h.1],fun c hc=>h.2.1 c (AON hc),fun i cs y a b=> ?_⟩;rw[ANq]at a b;exact h.2.2 _ cs y a b
theorem Flat.append{w:World}{r:Ty}{css ess:List (List Value)}{rows AI1:List r.D}(h:Flat w r css rows)(k:Flat w r ess AI1):Flat w r (css++ess) (rows++AI1):=by
 refine⟨by simp[h.1,k.1],fun c hc=>(AJ6.1 hc).elim (h.2.1 c) (k.2.1 c),fun i cs y a b=> ?_⟩;by_cases hi:i<rows.length
 ·rw[AJI (by rw[h.1];exact hi)]at a
  rw[AJI hi]at b;exact h.2.2 i cs y a b
 ·rw[AKi (by rw[h.1];omega)]at a
  rw[AKi (by omega)]at b;rw[h.1]at a;exact k.2.2 _ cs y a b
theorem Flat.one{w:World}{r:Ty}(hf:r.flat=true){css:List (List Value)}{rows:List r.D}(h:Flat w r css rows):∀v∈css.flatten,v.oneCell' =true:=by
 intro v hv;obtain⟨c,hc,hv⟩:=AK9.1 hv;obtain⟨i,hi,rfl⟩:=ALr hc;have h1:=h.1;exact gm (aS (S:=fun _=>False) (d:=0) hf (h.2.2 i _ _ (AIH hi) (AIH (by omega)))) v hv
theorem Flat.at{w:World}{S:Nat→Prop}{d:Nat}{r:Ty}(hf:r.flat=true){css:List (List Value)}{rows:List r.D}(h:Flat w r css rows):ED w S d r css rows (List.replicate rows.length []):=ED.flat hf h.1 h.2.1 h.2.2
end Go.Fw
end
section
namespace Go.Fw
open Go.M Go.Proofs Go.Shelf Go.RowKit Go.Lib
structure AM_ (P:Program) (ρ:Ren) (nm:String):Prop where
 mixed:P.follows .mixedOrders=true
 f24:P.funcs[ρ.f 24]? =some { Body2.n24 ρ with name:=nm }
 n24:(nm== "runtime.NumGoroutine")=false
 t0:P.underlying (ρ.t 0)=some (TypeDesc.tuple #[])
 a0:∀w,(isAgg (ρ.t 0)).run P w= .ok false w
 z0:∀w,(Go.sizeOf (ρ.t 0)).run P w= .ok 1 w
 v0:∀w,(zeroValue (ρ.t 0)).run P w= .ok (Value.tuple #[]) w
 t3:P.underlying (ρ.t 3)=some (TypeDesc.int IntKind.i64)
 a3:∀w,(isAgg (ρ.t 3)).run P w= .ok false w
 z3:∀w,(Go.sizeOf (ρ.t 3)).run P w= .ok 1 w
 v3:∀w,(zeroValue (ρ.t 3)).run P w= .ok (Value.int IntKind.i64 0) w
 t4:P.underlying (ρ.t 4)=some (TypeDesc.bool)
 a4:∀w,(isAgg (ρ.t 4)).run P w= .ok false w
 z4:∀w,(Go.sizeOf (ρ.t 4)).run P w= .ok 1 w
 v4:∀w,(zeroValue (ρ.t 4)).run P w= .ok (Value.bool false) w
 t24:P.underlying (ρ.t 24)=some (TypeDesc.slice (ρ.t 9))
 a24:∀w,(isAgg (ρ.t 24)).run P w= .ok false w
 z24:∀w,(Go.sizeOf (ρ.t 24)).run P w= .ok 1 w
 v24:∀w,(zeroValue (ρ.t 24)).run P w= .ok (Value.slice none 0 0) w
section
variable{P:Program} {ρ:Ren} {nm:String}
end
end Go.Fw
end
section
namespace Go.Fw
open Go.M Go.Proofs Go.Shelf Go.RowKit Go.Lib
theorem ED.take{w:World}{S:Nat→Prop}{d:Nat}{r:Ty}{css:List (List Value)}{rows:List r.D}{Fs:List AB1}(h:ED w S d r css rows Fs)(n:Nat):ED w S d r (css.take n) (rows.take n) (Fs.take n):=by
 refine⟨by simp[h.1],by simp[h.2.1],fun c hc=>h.2.2.1 c (AOM hc),fun i cs y G a b c=> ?_⟩;rw[List.getElem?_take]at a b c;split at a
 ·rename_i hi
  rw[AIF hi]at b c;exact h.2.2.2 i cs y G a b c
 ·cases a
theorem ED.drop{w:World}{S:Nat→Prop}{d:Nat}{r:Ty}{css:List (List Value)}{rows:List r.D}{Fs:List AB1}(h:ED w S d r css rows Fs)(n:Nat):ED w S d r (css.drop n) (rows.drop n) (Fs.drop n):=by
 refine⟨by simp[h.1],by simp[h.2.1],fun c hc=>h.2.2.1 c (AON hc),fun i cs y G a b c=> ?_⟩;rw[ANq]at a b c;exact h.2.2.2 _ cs y G a b c
end Go.Fw
end
section
namespace Go.Fw
open Go.M Go.Proofs Go.Shelf Go.RowKit Go.Lib
section
variable{P:Program} {ρ:Ren} {nm:String} {fv:Func}
theorem YS{t:TypeId}{n:Nat}(h:(P.info? t).map (·.size)=some n):∀w,(Go.sizeOf t).run P w= .ok n w:=fun w=>by
 obtain⟨i,hi,rfl⟩:=AIX.1 h;simp[sizeOf,typeInfo,hi]
theorem fN{t:TypeId}{z:Value}(h:(P.info? t).bind (·.zero)=some z):∀w,(zeroValue t).run P w= .ok z w:=fun w=>by
 obtain⟨i,hi,hz⟩:=AIm.1 h;simp[zeroValue,typeInfo,hi,hz]
structure AC4 (P:Program) (ρ:Ren):Prop where
 t0:P.underlying (ρ.t 0)=some (TypeDesc.tuple #[])
 t3:P.underlying (ρ.t 3)=some (TypeDesc.int IntKind.i64)
 t4:P.underlying (ρ.t 4)=some (TypeDesc.bool)
 t24:P.underlying (ρ.t 24)=some (TypeDesc.slice (ρ.t 9))
 s0:(P.info? (ρ.t 0)).map (·.size)=some 1
 s3:(P.info? (ρ.t 3)).map (·.size)=some 1
 s4:(P.info? (ρ.t 4)).map (·.size)=some 1
 s24:(P.info? (ρ.t 24)).map (·.size)=some 1
 v0:(P.info? (ρ.t 0)).bind (·.zero)=some (Value.tuple #[])
 v3:(P.info? (ρ.t 3)).bind (·.zero)=some (Value.int IntKind.i64 0)
 v4:(P.info? (ρ.t 4)).bind (·.zero)=some (Value.bool false)
 v24:(P.info? (ρ.t 24)).bind (·.zero)=some (Value.slice none 0 0)
theorem AC4.ins(h:AC4 P ρ)(hm:P.follows .mixedOrders=true)(f22:P.funcs[ρ.f 22]? =some { Body2.n22 ρ with name:=nm })(n22:(nm== "runtime.NumGoroutine")=false)(f29:P.funcs[ρ.f 29]? =some fv)(n29:(fv.name== "runtime.NumGoroutine")=false)
  (b29:fv.body.isNone=true) (e29:Extern.findNext fv=none) (x29:Extern.find fv=some (Extern.SlicesOverlaps.overlaps #[(ρ.t 24),(ρ.t 24)] #[(ρ.t 4)])):AGr P ρ nm fv:=
 ⟨hm,f22,n22,f29,n29,b29,e29,x29,h.t0,run_isAgg_plain h.t0 rfl,YS h.s0,fN h.v0,h.t3,run_isAgg_plain h.t3 rfl,YS h.s3,fN h.v3,h.t4,run_isAgg_plain h.t4 rfl,YS h.s4,fN h.v4,h.t24,run_isAgg_plain h.t24 rfl,YS h.s24,fN h.v24⟩
@[reducible] def Hd (f22 f24 f29 f30 t24 t9:Nat):Ren:=⟨fun k=>if k=22 then f22 else if k=24 then f24 else if k=29 then f29 else if k=30 then f30 else k,fun k=>if k=24 then t24 else if k=9 then t9 else k,fun k=>k⟩
end
end Go.Fw
end
