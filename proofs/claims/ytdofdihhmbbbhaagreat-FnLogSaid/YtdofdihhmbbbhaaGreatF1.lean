/- The framework, part 2: a checked interpreter of the model's code over abstract states; no claim is made here. -/
import Derived.Test.YtdofdihhmbbbhaaGreatF0
import Derived.Below
import Derived.ChangeArms
import Derived.ChangeOld
import Derived.DataReads
import Derived.OrdersHeld
import Derived.Shelf.Slices.Delete
import Derived.Shelf.Spec.SlicesInsertGrow
import Derived.Tactics
set_option linter.unusedVariables false
set_option linter.unusedSimpArgs false
set_option linter.unusedSectionVars false
section
namespace Go.Fw
theorem eY{E:Env}{w:World}{vw:List Bx}:∀{l:List XV} {bs:AAz} {vs:List Value},kW l=some bs→Bi (XR E w vw) l vs→(∀b∈bs,b<vw.length)∧vs=bs.map fun b=>Value.pointer (some ⟨E.Ff b,0,none⟩)
 |[],bs,vs,e,h=>by
  simp only[kW,AG9]at e;subst e;cases vs with
  |nil=>exact⟨by simp,rfl⟩
  |cons _ _=>exact h.elim
 |x::l,bs,vs,e,h=>by
  unfold kW at e;split at e
  ·rename_i heq;cases heq
  ·rename_i b l' heq
   cases heq;simp only[AHF]at e;obtain⟨r,e1,rfl⟩:=e;cases vs with
   |nil=>exact h.elim
   |cons v vs=>
    obtain⟨h1,h2⟩:=h;obtain⟨k1,k2⟩:=eY e1 h2;obtain⟨h3,h4⟩:b<vw.length∧v= .pointer (some ⟨E.Ff b,0,none⟩):=h1;exact⟨fun c hc=>(AI5.1 hc).elim (fun e=>e▸h3) (k1 c),by rw[h4,k2];rfl⟩
  ·cases e
theorem evs{E:Env}{σ:St}{a:Act}{w:World}(h:Rel E σ a w):∀l:List Operand,Bi (XR E w σ.bx) (l.map σ.ev) (l.map a.eval)
 |[]=>trivial
 |x::l=>⟨h.ev x,evs h l⟩
theorem n0{E:Env}{σ:St}{a:Act}{w:World}(h:Rel E σ a w):∀o:Option Operand,OR E w σ.bx (o.map σ.ev) (o.map a.eval)
 |none=>trivial
 |some x=>h.ev x
theorem kS{w:World}{S:Nat→Prop}:∀{p:List bE} {d:Nat} {r:Ty} {h:Value} {rows:List r.D} {F:AAz} {q:Ty} {ys:List q.D} {v:Value},Ow w S d (.sl r) [h] rows F→CI r rows p→
  Ee r rows p=some ⟨q,ys⟩→d≤p.length→Gt w h p=some v→Rd w S (.sl q) [v] ys
 |p,0,r,h,rows,F,q,ys,v,ho,hp,hg,_,hv=>by
  simp only[Ow]at ho;obtain⟨h',k,hr⟩:=cT ho.1 hp hg;have:=k w (fun _ _=>rfl);rw[hv]at this;cases this;exact hr
 |[],d+1,r,h,rows,F,q,ys,v,ho,hp,hg,hd,hv=>by simp at hd
 |s::p,d+1,r,h,rows,F,q,ys,v,ho,hp,hg,hd,hv=>by
  simp only[CI]at hp;obtain⟨hi,LJ,hp⟩:=hp;simp only[Ee]at hg;obtain⟨a,len,cap,rfl⟩:∃a len cap,h= .slice a len cap:=by
   have:=ho;simp only[Ow]at this;obtain⟨a,cap,e,_⟩:=this;simp only[AJD,AKa]at e;exact⟨_,_,_,e⟩
  split at hg
  case h_2=>cases hg
  rename_i q' x' V5;rw[V5]at hp;obtain⟨b,o,arr,ty,fr,cs,G,R,rfl,hb,hu,hbd,c1,c2,c3,az,hback⟩:=iZ ho hi;obtain⟨u,A1,A2,k1,k2,k3,k4⟩:=Wq c3 V5;simp only[Gt]at hv;rw[LJ,c2 _ _ k1]at hv;exact kS k2 hp hg (by simp at hd;omega) hv
theorem lz{E:Env}{σ:St}{a:Act}{w:World}(h:Rel E σ a w){b i sz j:Nat}{p:List bE}{va v:Value}(xV:VR E w σ.bx (.Gd b p i sz j) va){x:XV}(hv:XR E w σ.bx x v)(h1c:∀u∈v.cells.toList,u.oneCell' =true)
  {σ':St} (e:NV σ (.c (.Gd b p i sz j)) x=some σ'):
  ∃bb oo E',va= .pointer (some ⟨bb,oo,none⟩)∧w.there bb oo v.cells.toList.length∧Rel E' σ' a (w.setCells bb oo v.cells.toList)∧Mb [b] E σ.bx w E' σ'.bx (w.setCells bb oo v.cells.toList)∧σ'.tm.length=σ.tm.length:=by
 unfold NV Tn at e;split at e
 ·rename_i b0 _ _ _ _ b' s p' off n heq
  cases heq;split at e
  case isFalse=>cases e
  rename_i s9;subst s9;split at e
  case h_2=>cases e
  rename_i d r rows hb;simp only[AHL,AHF]at e;obtain⟨q,⟨⟨q0,ys⟩,hg,rfl⟩,e⟩:=e;dsimp only at e;have Dl:=(AG0.1 hb).1;obtain⟨F,⟨hd1,ho⟩,hB⟩:=h.bx.take hb;obtain⟨A,W,pF,ho2⟩:=HB (d:=min d (p'.length+1)) (by omega) ho;have Qq:=hB.perm (G':=A++W++[]) (by rw[AIs,AIs];exact pF);obtain⟨hle,hB3⟩:=Qq.share
  generalize hE1:({ E with S:=fun c=>E.S c∨c∈W,T:=fun c=>E.T c∨c∈W }:Env)=E1 at hle hB3
  have ho3:Ow w E1.S (min d (p'.length+1)) (.sl r) [E1.Ft b'] rows A:=by
   rw[hle.Ft];subst hE1;exact ho2
  have hB4:=hB3.put (b:=b') (B:= .sl (min d (p'.length+1)) r rows) (by rw[AIp Dl]) ⟨by omega,ho3⟩;rw[AMF]at hB4;have hk:Np E w σ.bx E1 w (σ.bx.set b' (.sl (min d (p'.length+1)) r rows)):=by
   refine⟨by simp,fun _ _=>by rw[hle.Ff],hle.T,hle.S,h.bx.st,fun _ _=>rfl,fun c d' r' B3 hc e=> ?_⟩;by_cases qJ:b' =c
   ·subst qJ
    rw[AIp Dl]at e;simp only[AG9,Bx.sl.injEq]at e;obtain⟨rfl,rfl,e⟩:=e;obtain rfl:=AJE e;exact⟨d,rows,hb,fun p hp q ys hg=>⟨hp,⟨ys,hg,rfl⟩,fun h' hh=>by rw[hle.Ft];exact hh⟩⟩
   ·rw[AHi qJ]at e
    exact⟨d',B3,e,fun p hp q ys hg=>⟨hp,⟨ys,hg,rfl⟩,fun h' hh=>by rw[hle.Ft];exact hh⟩⟩
  have VB:VR E w σ.bx (.win b' (s::p') off n) v:=hv;have UI:XR E1 w (σ.bx.set b' (.sl (min d (p'.length+1)) r rows)) (.c (.sl true q0 ((ys.drop off).take n))) v:=by
   simp only[VR,hb]at VB;obtain⟨_,hp,q1,ys1,a1,len,cap,g1,g2,g3,rfl⟩:=VB;rw[hg]at g1;simp only[AG9,AIx]at g1;obtain⟨rfl,g1⟩:=g1;obtain rfl:=AJE g1;have:=kS ho3 hp hg (by simp only[AIK];omega) (by rw[hle.Ft];exact g3);exact lx this g2
  have hr:Rel E1 { σ with bx:=σ.bx.set b' (.sl (min d (p'.length+1)) r rows) } a w:=
   ⟨h.Jo,h.tm.imp fun _ _ hx=>Kt hk hx,hB4.turn (E':=E1) (w':=w) (fun _ _ hv=>EB ⟨by simp,fun _ _=>rfl,fun _ h=>h,fun _ h=>h,hB3.st,fun _ _=>rfl,fun c d' r' B3 hc e=>by
    by_cases qJ:b' =c
    ·subst qJ
     rw[AIp Dl]at e;simp only[AG9,Bx.sl.injEq]at e;obtain⟨rfl,rfl,e⟩:=e;obtain rfl:=AJE e;exact⟨d,rows,hb,fun p hp q ys hg=>⟨hp,⟨ys,hg,rfl⟩,fun h' hh=>hh⟩⟩
    ·rw[AHi qJ]at e
     exact⟨d',B3,e,fun p hp q ys hg=>⟨hp,⟨ys,hg,rfl⟩,fun h' hh=>hh⟩⟩⟩ hv) (fun _ h=>h) (fun _ _=>rfl) (fun _ _=>rfl) (fun _ _ _=>rfl) fun F hF=>hF⟩
  obtain⟨bb,oo,E',q1,q2,q3,q4,q5⟩:=gk hr (EB hk xV) UI h1c e;refine⟨bb,oo,E',q1,q2,q3,⟨(hle.base w).trans q4.base,by simpa using q4.len,fun c hc=> ?_,fun c hc=> ?_,fun c B B' hct hB Md hd=> ?_⟩,q5⟩
  ·have:=q4.ids c (by simpa using hc)
   exact⟨this.1.trans (by rw[hle.Ff]),this.2.trans (by rw[hle.Ft])⟩
  ·refine q4.dead c ?_
   have qJ:b'≠c:=fun e=>by subst e;rw[hb]at hc;cases hc
   simp only;rw[AHi qJ];exact hc
  ·have qJ:b'≠c:=fun e=>hct (by simp[e])
   obtain⟨f1,f2⟩:=q4.frame c B B' hct (by simp only;rw[AHi qJ];exact hB) Md hd;refine⟨f1,fun c' XI=>f2 c' ?_⟩;cases B with
   |mem cs=>exact XI.trans (by rw[hle.Ff])
   |sl d0 r0 MA=>simp only[lS]at XI⊢;rw[hle.Ft];exact XI
   |dead=>exact XI
 ·simp only[AHE]at e
  exact gk h xV hv h1c e
def de:Op→Bool
 | .call { callee:= .value _,.. }=>true
 |_=>false
section
variable{Y:Type} {P:Program} {T:G8} (hT:Dd P T) {o:Oper} {E:Env} {σ:St} {a:Act} {w:World} {k:K Y} {y:Y}
include hT
theorem mJ(h:Rel E σ a w){t:TypeId}{oa ox:Operand}(ho:o.op= .store t oa ox){ti:TI}(Mv:T.get t=some ti)
  (hc:(σ.ev ox).cells.length=ti.size∧ti.size≠0∧(σ.ev ox).cells.all AV.known=true) {σ':St} (hs:NV σ (σ.ev oa) (σ.ev ox)=some σ') (e:k (.c .undef) σ' =some y):H6 P o E σ a w k y:=by
 obtain⟨c1,c2,c3⟩:=hc;have YT:(σ.ev ox).cells≠[]:=fun hh=>by rw[hh]at c1;exact c2 c1.symm
 obtain⟨RI,h1c⟩:=fK (h.ev ox) c3 YT;have hlen:(a.eval ox).cells.toList.length=ti.size:=by rw[←Bi.len RI];exact c1
 have hi:(P.info? t).map (·.size)=some (a.eval ox).cells.toList.length:=by rw[hlen];exact Dd.size hT Mv
 have xV:=h.ev oa;have fin:∀{bb oo:Nat} {E':Env},a.eval oa= .pointer (some ⟨bb,oo,none⟩)→w.there bb oo (a.eval ox).cells.toList.length→Rel E' σ' a (w.setCells bb oo (a.eval ox).cells.toList)→
   Mb (F7 (fun _=>none) σ o.op) E σ.bx w E' σ'.bx (w.setCells bb oo (a.eval ox).cells.toList)→σ'.tm.length=σ.tm.length→H6 P o E σ a w k y:=by
  intro bb oo E' e1 e2 e3 e4 e5;have hr:=bY (P:=P) e2 hi h1c;refine⟨undef,_,E',.c .undef,σ',.inr ⟨?_,rfl⟩,e3,trivial,e4,e5,e⟩;simp only[execOp,ho,e1,Sem.run_bind,hr,Result.andThen_ok,Sem.run_pure]
 generalize hxa:σ.ev oa=xa at hs xV
 cases xa with
 |agg l=>simp[NV,Tn,X5]at hs
 |Ju l=>simp[NV,Tn,X5]at hs
 |c x=>
  cases x with
  |FY b j=>
   simp only[NV,Tn,AHE,X5]at hs;split at hs
   case h_2=>cases hs
   rename_i cs hb;simp only[AHF]at hs;obtain⟨VN,hs,rfl⟩:=hs;have AKV:b<σ.bx.length∧a.eval oa= .pointer (some ⟨E.Ff b,j,none⟩):=xV;obtain⟨q1,q2,q3⟩:=pH h hb RI YT hs;exact fin AKV.2 q1 q2 (by rw[ho];simp only[F7,hxa];exact q3) rfl
  |Gd b p i sz j=>
   obtain⟨bb,oo,E',q1,q2,q3,q4,q5⟩:=lz h xV (h.ev ox) h1c hs;exact fin q1 q2 q3 (by rw[ho];simp only[F7,hxa];exact q4) q5
  |_=>simp[NV,Tn,X5]at hs
omit hT in
theorem ke(h:Rel E σ a w){x:Operand}(ho:o.op= .assign x)(e:Uk σ (σ.ev x) k=some y):H6 P o E σ a w k y:=by
 have hr:(execOp a.eval o).run P w= .ok (.value (a.eval x)) w:=by simp only[execOp,ho,Sem.run_pure]
 have hv:=h.ev x;unfold Uk at e;split at e
 ·rename_i b off n hx
  rw[hx]at hv;simp only[AHL]at e;obtain⟨⟨r,rows,bx,d⟩,e1,e⟩:=e;dsimp only at e;have VM:VR E w σ.bx (.win b [] off n) (a.eval x):=hv;obtain⟨hd,F1,F2,k1,ho1⟩:=XU h.bx (DU.refl _) VM e1;obtain⟨Fs0,hB1,Qq⟩:=k1.boxes;simp only[AIs]at Qq;have nd:=(AIJ.1 (AIJ.1 Qq.nodup).2.1).1;obtain⟨r1,r2,r3⟩:=OG h k1 (w':=w) hd ho1 (fun c hc=> .inl (AIf.2 (.inl hc))) nd (fun c hc=>Qq.lt c (by simp[hc])) (fun _ _ _=>rfl) ⟨rfl,rfl,rfl,AJI _⟩;exact⟨_,_,_,_,_,.inl hr,r1,r3,r2.any,rfl,e⟩
 ·exact H6.same h hr hv e
theorem oT{Γ:Nat→Option O2}(h:Rel E σ a w)(e:Q9 T Γ o σ k=some y)(gv:de o.op=false):H6 P o E σ a w k y:=by
 have same:∀{v:Value} {x:XV},(execOp a.eval o).run P w= .ok (.value v) w→XR E w σ.bx x v→k x σ=some y→H6 P o E σ a w k y:=fun h1 h2 h3=>H6.same h h1 h2 h3
 obtain⟨Fs,hB,hS⟩:=h.bx;have st:=hS.st;unfold Q9 at e;split at e
 ·rename_i x ho
  exact same (v:=a.eval x) (by simp only[execOp,ho,Sem.run_pure]) (h.ev x) e
 ·rename_i x ho
  exact ke h ho e
 ·rename_i c xa xb ho
  split at e
  case h_2=>cases e
  rename_i p hp;have hc:=h.ev c;rw[hp]at hc;have XI:=M1 (E:=E) (w:=w) (vw:=σ.bx) hc;refine same (v:=if p then a.eval xa else a.eval xb) (x:=if p then σ.ev xa else σ.ev xb) (by simp[execOp,ho,XI,asBool]) (by cases p<;>simp[h.ev]) ?_
  cases p<;>simpa[rK]using e
 ·rename_i t ho
  split at e
  case h_2=>cases e
  rename_i r hr;exact mg hT h ho hr e
 ·rename_i t x ho
  split at e
  case h_2=>cases e
  rename_i ti Mv;split at e
  case isFalse=>cases e
  rename_i hc;exact rV h ho hc.2.2 (fun hh=>by rw[hh]at hc;exact hc.2.1 hc.1.symm) e
 ·rename_i t ps ho
  split at e
  case h_2=>cases e
  rename_i s b fs rw r Mv hr;split at e
  case h_2=>cases e
  rename_i cs qN;exact mD hT h ho Mv hr qN e
 ·rename_i t n ps ho
  exact bQ hT h ho e
 ·rename_i t x ho
  split at e
  case h_2=>cases e
  rename_i z hz;obtain⟨u,h1,h2⟩:=kV hT hB st hz (h.ev x);exact same (by simp only[execOp,ho,Sem.run_bind,h1,Result.andThen_ok,Sem.run_pure]) h2 e
 ·rename_i t xa xx ho
  split at e
  case h_2=>cases e
  rename_i ti Mv;split at e
  case isFalse=>cases e
  rename_i hc;split at e
  case h_2=>cases e
  rename_i σ' hs;exact mJ hT h ho Mv hc hs e
 ·rename_i x ho
  have hx:=h.ev x;split at e
  ·rename_i b j hp
   rw[hp]at hx;have lT:b<σ.bx.length∧a.eval x= .pointer (some ⟨E.Ff b,j,none⟩):=hx;exact same (v:=a.eval x) (by simp only[execOp,ho,lT.2,Sem.run_pure]) hx e
  ·rename_i b p i sz j hp
   rw[hp]at hx;have qc:VJ (a.eval x)=true:=hx.1;refine same (v:=a.eval x) ?_ hx e
   unfold VJ at qc;split at qc
   ·rename_i hv
    simp only[execOp,ho,hv,Sem.run_pure]
   ·cases qc
  ·rename_i s r z j hp
   rw[hp]at hx;obtain⟨bb,oo,cs,hv,hrest⟩:=hx;exact same (v:=a.eval x) (x:= .c (.KB s r z j)) (by simp only[execOp,ho,hv,Sem.run_pure]) ⟨bb,oo,cs,hv,hrest⟩ e
  ·rename_i f G6 hp
   rw[hp]at hx;have lT:(∀b∈G6,b<σ.bx.length)∧a.eval x= .func (.func f) #[] (G6.map fun b=>Value.pointer (some ⟨E.Ff b,0,none⟩)).toArray:=hx;exact same (v:=a.eval x) (by simp only[execOp,ho,lT.2,Sem.run_pure]) hx e
  ·cases e
 ·rename_i op t x z s ho
  obtain⟨r,val,h1,h2,h3⟩:=Xr hT e (h.ev x) (h.ev z) x z;exact same (v:=val) (x:= .c r) (by
   simp only[execOp,ho,Sem.run_bind];simp only[Sem.run_bind]at h2;rw[h2];rfl) h3 h1
 ·rename_i op t x ho
  obtain⟨r,val,h1,h2,h3⟩:=Zy (P:=P) e (h.ev x);exact same (v:=val) (x:= .c r) (by simp only[execOp,ho,Sem.run_bind,h2,Result.andThen_ok,Sem.run_pure]) h3 h1
 ·rename_i s d x ho
  exact oZ hT h ho e
 ·rename_i f first G6 ho
  split at e
  case isFalse=>cases e
  rename_i hf;split at e
  case h_2=>cases e
  rename_i bs hbs;obtain⟨q1,q2⟩:=eY hbs (evs h G6.toList);have ACK:first.map a.eval= #[]:=by
   have:first= #[]:=Array.eq_empty_of_size_eq_zero hf;rw[this];simp
  have AHX:G6.map a.eval=(bs.map fun b=>Value.pointer (some ⟨E.Ff b,0,none⟩)).toArray:=by
   apply Array.ext';simpa using q2
  refine same (v:= .func (.func f) #[] (bs.map fun b=>Value.pointer (some ⟨E.Ff b,0,none⟩)).toArray) ?_ (x:= .c (.fn f bs)) ⟨q1,rfl⟩ e
  simp only[execOp,ho,Instr.makeFunc,ACK,AHX,Sem.run_bind,Sem.run_pure,Result.andThen_ok]
 ·rename_i t l c ho
  exact oX hT h ho e
 ·rename_i t x lo hi ho
  obtain⟨z,val,h1,h2,h3⟩:=Yj hT hB st e (h.ev x) (n0 h lo) (n0 h hi);exact same (v:=val) (by simp only[execOp,ho,Option.map_none,Sem.run_bind,h2,Result.andThen_ok,Sem.run_pure]) h3 h1
 ·rename_i t x f ho
  split at e
  case h_2=>cases e
  rename_i z hz;obtain⟨u,h1,h2⟩:=Ye hT hz (h.ev x);exact same (by simp only[execOp,ho,Sem.run_bind,h1,Result.andThen_ok,Sem.run_pure]) h2 e
 ·rename_i t x f ho
  split at e
  case h_2=>cases e
  rename_i z hz;obtain⟨u,h1,h2⟩:=a_ hT hz (h.ev x);exact same (by simp only[execOp,ho,Sem.run_bind,h1,Result.andThen_ok,Sem.run_pure]) h2 e
 ·rename_i t x i ho
  obtain⟨z,val,h1,h2,h3⟩:=Yr hT hB st e (h.ev x) (h.ev i);exact same (v:=val) (by simp only[execOp,ho,Sem.run_bind,h2,Result.andThen_ok,Sem.run_pure]) h3 h1
 ·rename_i t x i ho
  obtain⟨z,val,h1,h2,h3⟩:=VV hT e (h.ev x) (h.ev i);exact same (v:=val) (by simp only[execOp,ho,Sem.run_bind,h2,Result.andThen_ok,Sem.run_pure]) h3 h1
 ·rename_i x i ho
  split at e
  case h_2=>cases e
  rename_i z hz;obtain⟨u,h1,h2⟩:=WE (P:=P) hz (h.ev x);exact same (by simp only[execOp,ho,Sem.run_bind,h1,Result.andThen_ok,Sem.run_pure]) h2 e
 ·rename_i f args gH ho
  rw[ho]at gv;cases gv
 ·rename_i args gH ho
  split at e
  ·rename_i s t GJ hts
   obtain⟨x,rfl,hx⟩:=RW GJ;have hv:=h.ev x;rw[hx]at hv;have VM:=Rn (E:=E) (w:=w) (vw:=σ.bx) hv;split at e
   case isFalse=>cases e
   rename_i hs;have hu:=Q8 hT hs;refine same (v:= .int .i64 (s.length:Int)) (x:= .c (.v (.int .i64) (s.length:Int))) ?_ (VR.int (E:=E) (vw:=σ.bx) _ _) e
   have LJ:(⟨s.toArray⟩:ByteArray).size=s.length:=by simp[ByteArray.size]
   simp[execOp,ho,resolve,invoke,builtin,Builtin.len_,hts,VM,Az hu,goInt,LJ]
  ·rename_i z t _ GJ hts
   obtain⟨x,rfl,hx⟩:=RW GJ;have hv:=h.ev x;rw[hx]at hv;split at e
   case isFalse=>cases e
   rename_i hs;split at e
   case h_2=>cases e
   rename_i n hn;obtain⟨el,hu⟩:=ZT hT hs;obtain⟨ad,cap,VM⟩:=bB hB st hn hv;refine same (v:= .int .i64 (n:Int)) (x:= .c (.v (.int .i64) (n:Int))) ?_ (VR.int (E:=E) (vw:=σ.bx) _ _) e
   simp[execOp,ho,resolve,invoke,builtin,Builtin.len_,hts,VM,Az hu,goInt]
  ·cases e
 ·rename_i args gH ho
  split at e
  case h_2=>cases e
  rename_i x1 x2 GJ;exact j7 hT h ho rfl GJ e
 ·rename_i args gH ho
  split at e
  case h_2=>cases e
  rename_i x GJ;exact mh hT h ho rfl GJ e (fun b p off n hx=>by rw[ho];simp only[F7];rw[GJ,hx])
 ·rename_i args gH ho
  split at e
  case h_2=>cases e
  rename_i x1 x2 GJ;obtain⟨o1,o2,rfl,hx1,hx2⟩:=RH GJ;have VB:=h.ev o1;have UI:=h.ev o2;rw[hx1]at VB;rw[hx2]at UI;obtain⟨r,val,h1,h2,h3⟩:=OL (P:=P) (big:=true) e VB UI gH #[] o.type;simp only[AKn]at h2;exact same (v:=val) (x:= .c r) (by simp[execOp,ho,resolve,invoke,builtin,h2]) h3 h1
 ·rename_i args gH ho
  split at e
  case h_2=>cases e
  rename_i x1 x2 GJ;obtain⟨o1,o2,rfl,hx1,hx2⟩:=RH GJ;have VB:=h.ev o1;have UI:=h.ev o2;rw[hx1]at VB;rw[hx2]at UI;obtain⟨r,val,h1,h2,h3⟩:=OL (P:=P) (big:=false) e VB UI gH #[] o.type;simp only[AIB,AJU]at h2;exact same (v:=val) (x:= .c r) (by simp[execOp,ho,resolve,invoke,builtin,h2]) h3 h1
 ·cases e
end
end Go.Fw
end
section
namespace Go.Fw
def alive(l:List BP)(i:Nat):Bool:=
 match l[i]? with
 |some .gone=>false
 |some _=>true
 |none=>false
def AP.Jr(l:List BP):AP→Bool
 | .sl s _=>s
 | .gF _=>false
 | .aL _ _=>false
 | .gf _ _=>false
 | .ref i=>decide (i<l.length)
 | .ptr i _=>alive l i
 | .fn _ G6=>G6.all (alive l)
 |_=>true
def XP.Jr(l:List BP):XP→Bool
 | .c p=>p.Jr l
 | .agg q=>q.all (AP.Jr l)
 | .Ju q=>q.all fun| .inl p=>p.Jr l| .inr q=>q.all (AP.Jr l)
 | .row _=>false
def BP.Jr(l:List BP):BP→Bool
 | .mem q=>q.all (AP.Jr l)
 |_=>true
def kinds:List BP→List BP→Bool
 |[],_=>true
 | .mem _::l,.mem _::m=>kinds l m
 | .sl _ r::l,.sl _ q::m=>decide (r=q)&&kinds l m
 | .mem _::l,.gone::m=>kinds l m
 | .sl _ _::l,.gone::m=>kinds l m
 |_,_=>false
def cg(l:List BP):List (Nat×XP)→Bool
 |[(0,p)]=>p.Jr l
 |_=>false
def O2.ok(c:O2):Bool:=
 kinds c.ins.Ed c.outs.Ed&&cg c.outs.Ed c.outs.Co&&c.outs.Ed.all (BP.Jr c.outs.Ed)
theorem Q4:∀{l m:List BP},kinds l m=true→l.length≤m.length∧ ∀(i:Nat) p,l[i]? =some p→p≠ .gone∧ ∀d r,m[i]? =some (.sl d r)→ ∃d',p= .sl d' r
 |[],m,_=>⟨by simp,fun i p h=>by simp at h⟩
 | .gone::l,[],h=>by simp[kinds]at h
 | .gone::l,_::_,h=>by simp[kinds]at h
 | .mem _::l,[],h=>by simp[kinds]at h
 | .sl _ _::l,[],h=>by simp[kinds]at h
 | .mem q::l,.mem _::m,h=>by
  obtain⟨h1,h2⟩:=Q4 (l:=l) (m:=m) (by simpa[kinds]using h);refine⟨by simpa using h1,fun i p hp=> ?_⟩;cases i with
  |zero=>simp at hp;subst hp;exact⟨by simp,fun d r hh=>by simp at hh⟩
  |succ i=>simpa using h2 i p (by simpa using hp)
 | .mem q::l,.gone::m,h=>by
  obtain⟨h1,h2⟩:=Q4 (l:=l) (m:=m) (by simpa[kinds]using h);refine⟨by simpa using h1,fun i p hp=> ?_⟩;cases i with
  |zero=>simp at hp;subst hp;exact⟨by simp,fun d r hh=>by simp at hh⟩
  |succ i=>simpa using h2 i p (by simpa using hp)
 | .mem q::l,.sl _ _::m,h=>by simp[kinds]at h
 | .sl d0 r0::l,.sl _ q::m,h=>by
  simp only[kinds,AHN,AHl]at h;obtain⟨h1,h2⟩:=Q4 (l:=l) (m:=m) h.2;refine⟨by simpa using h1,fun i p hp=> ?_⟩;cases i with
  |zero=>simp at hp;subst hp;exact⟨by simp,fun d r hh=>by simp at hh;exact⟨d0,by rw[h.1,hh.2]⟩⟩
  |succ i=>simpa using h2 i p (by simpa using hp)
 | .sl d0 r0::l,.gone::m,h=>by
  obtain⟨h1,h2⟩:=Q4 (l:=l) (m:=m) (by simpa[kinds]using h);refine⟨by simpa using h1,fun i p hp=> ?_⟩;cases i with
  |zero=>simp at hp;subst hp;exact⟨by simp,fun d r hh=>by simp at hh⟩
  |succ i=>simpa using h2 i p (by simpa using hp)
 | .sl _ _::l,.mem _::m,h=>by simp[kinds]at h
def Uv(P:Program)(f:Nat)(c:O2):Prop:=
 c.ok=true∧(∀args w,(callFunc f args).run P w= .ok (.enter f args) w)∧
 ∀(E:Env) (w:World) (v:c.ins.V) (args:Array Value) (u:c.outs.V),args.size=c.ins.Co.length→
  CD E w (GZ.mk id c.ins.Ed v.2) (GZ.mk id c.ins.Ed v.2) []→LB E w (GZ.mk id c.ins.Ed v.2) id c.ins.Co v.1 args.toList→c.g v=some u→
  Calls P f args w fun e w' => ∃x E',e= .returned x∧Wx E w E' w'∧CD E' w' (GZ.mk id c.outs.Ed u.2) (GZ.mk id c.outs.Ed u.2) []∧
   LB E' w' (GZ.mk id c.outs.Ed u.2) id c.outs.Co u.1 [x]∧ ∀i,i<c.ins.Ed.length→alive c.outs.Ed i=true→E'.Ff i=E.Ff i∧E'.Ft i=E.Ft i
theorem ZQ:∀x:AV,DP [] x=x
 | .ref b (s::p)=>by simp[DP]
 | .ref b []=>rfl
 | .win b (s::p) i n=>by simp[DP]
 | .win b [] i n=>rfl
 | .Gd b (s::p) i sz j=>by simp[DP]
 | .Gd b [] i sz j=>rfl
 | .v _ _=>rfl
 | .sl _ _ _=>rfl
 | .nil=>rfl
 | .FY _ _=>rfl
 | .KB _ _ _ _=>rfl
 | .fn _ _=>rfl
 | .gf _ _=>rfl
 | .mT=>rfl
 | .undef=>rfl
theorem TM:DP []=id:=funext ZQ
theorem jP:∀x:XV,PS [] x=x
 | .c x=>by simp[PS,ZQ]
 | .agg l=>by simp[PS,TM]
 | .Ju l=>by
  simp only[PS,TM];congr 1
  conv=>rhs;rw[←List.map_id l]
  apply AL2;intro x _;cases x with
  |inl x=>simp
  |inr q=>simp
theorem gT(m:K4)(σ:St):(σ.RL m).tm=σ.tm.map (PS m):=by
 cases m with
 |nil=>
  simp only[St.RL];have:PS []=id:=funext jP;rw[this,List.map_id]
 |cons _ _=>rfl
theorem pI(m:K4)(σ:St):(σ.RL m).bx=σ.bx.map (Bx.map (DP m)):=by
 cases m with
 |nil=>simp only[St.RL];rw[TM,Tc]
 |cons _ _=>
  simp only[St.RL];apply AL2;intro B _;cases B<;>rfl
theorem Vo(f:AV→AV):∀(m:K4) (bx:List Bx),B5 (bx.map (Bx.map f)) m=(B5 bx m).map (Bx.map f)
 |[],_=>rfl
 |none::m,bx=>by simp only[B5];exact Vo f m bx
 |some b::m,bx=>by
  simp only[B5];rw[←Vo f m (bx.set b .dead),List.map_set];rfl
theorem MB:∀{m:K4} {bx:List Bx} {b:Nat},some b∉m→(B5 bx m)[b]? =bx[b]?
 |[],_,_,_=>rfl
 |none::m,bx,b,h=>by simp only[B5];exact MB (by simpa using h)
 |some c::m,bx,b,h=>by
  simp only[B5];rw[MB (by simp at h;exact h.2),AHi (by simp at h;omega)]
theorem pn{E E':Env}{w w':World}{vw vw':List Bx}{m:K4}(k:Np E w vw E' w' (B5 vw' m))
  (hb:∀b d' r B3,some b∈m→vw'[b]? =some (.sl d' r B3)→ ∃d rows,vw[b]? =some (.sl d r rows)∧List.length B3=List.length rows∧E'.Ft b=E.Ft b) (hlen:vw.length≤vw'.length) {x:AV} {v:Value} (h:VR E w vw x v):VR E' w' vw' (DP m x) v:=by
 have h1:=EB k h;have UJ:∀{b'},some b'∉m→(B5 vw' m)[b']? =vw'[b']?:=fun e=>MB e
 have get:∀{b'},b'<vw.length→ ∃B,vw'[b']? =some B:=fun hl=>⟨_,AG7 (by omega)⟩
 cases x with
 |v t x=>exact h1
 |sl s r x=>exact h1
 |nil=>exact h1
 |FY c j=>exact⟨by simpa[FG]using h1.1,h1.2⟩
 |KB s r x j=>exact h1
 |fn f G6=>exact⟨fun c hc=>by simpa[FG]using h1.1 c hc,h1.2⟩
 |gf f rows=>exact h1
 |mT=>exact h1
 |undef=>trivial
 |ref c p=>
  have other:some c∉m→VR E' w' vw' (.ref c p) v:=fun e=>by
   simp only[VR,UJ e]at h1⊢;exact h1
  cases p with
  |nil=>
   simp only[DP];by_cases e:some c∈m
   ·simp only[VR]at h⊢
    obtain⟨h0,h⟩:=h;refine⟨h0,?_⟩;cases hc:vw[c]? with
    |none=>rw[hc]at h;exact h.elim
    |some B=>
     obtain⟨B',Md⟩:=get (AG0.1 hc).1;rw[Md];cases B' with
     |mem cs=>trivial
     |dead=>trivial
     |sl d' r B3=>
      obtain⟨d,rows,e1,e2,e3⟩:=hb c d' r B3 e Md;rw[e1]at h;refine⟨by simp[CI],⟨_,rfl⟩,?_⟩;have:=h.2.2;rw[B6]at this⊢;rw[e3];exact this
   ·exact other e
  |cons s p=>
   simp only[DP];split
   ·trivial
   ·rename_i e
    exact other (by simpa using e)
 |win c p off n=>
  have other:some c∉m→VR E' w' vw' (.win c p off n) v:=fun e=>by
   simp only[VR,UJ e]at h1⊢;exact h1
  cases p with
  |nil=>
   simp only[DP];by_cases e:some c∈m
   ·simp only[VR]at h⊢
    obtain⟨h0,h⟩:=h;refine⟨h0,?_⟩;cases hc:vw[c]? with
    |none=>rw[hc]at h;exact h.elim
    |some B=>
     obtain⟨B',Md⟩:=get (AG0.1 hc).1;rw[Md];cases B' with
     |mem cs=>trivial
     |dead=>trivial
     |sl d' r B3=>
      obtain⟨d,rows,e1,e2,e3⟩:=hb c d' r B3 e Md;rw[e1]at h;obtain⟨_,q,ys,a,len,cap,g1,g2,g3,g4⟩:=h;simp only[Ee,AG9,AIx]at g1;obtain⟨rfl,g1⟩:=g1;obtain rfl:=AJE g1;rw[B6]at g3;exact⟨by simp[CI],r,B3,a,len,cap,rfl,by rw[e2];exact g2,by rw[B6,e3];exact g3,g4⟩
   ·exact other e
  |cons s p=>
   simp only[DP];split
   ·trivial
   ·rename_i e
    exact other (by simpa using e)
 |Gd c p i sz j=>
  have other:some c∉m→VR E' w' vw' (.Gd c p i sz j) v:=fun e=>by
   simp only[VR,UJ e]at h1⊢;exact h1
  cases p with
  |nil=>
   simp only[DP];by_cases e:some c∈m
   ·simp only[VR]at h⊢
    obtain⟨h0,h⟩:=h;refine⟨h0,?_⟩;cases hc:vw[c]? with
    |none=>rw[hc]at h;exact h.elim
    |some B=>
     obtain⟨B',Md⟩:=get (AG0.1 hc).1;rw[Md];cases B' with
     |mem cs=>trivial
     |dead=>trivial
     |sl d' r B3=>
      obtain⟨d,rows,e1,e2,e3⟩:=hb c d' r B3 e Md;rw[e1]at h;obtain⟨_,q,ys,bb,o,len,cap,g1,g2,g3,g4⟩:=h;simp only[Ee,AG9,AIx]at g1;obtain⟨rfl,g1⟩:=g1;obtain rfl:=AJE g1;rw[B6]at g3;exact⟨by simp[CI],r,B3,bb,o,len,cap,rfl,by rw[e2];exact g2,by rw[B6,e3];exact g3,g4⟩
   ·exact other e
  |cons s p=>
   simp only[DP];split
   ·trivial
   ·rename_i e
    exact other (by simpa using e)
theorem pY{E E':Env}{w w':World}{vw vw':List Bx}{m:K4}(k:∀x v,VR E w vw x v→VR E' w' vw' (DP m x) v){x:XV}{v:Value}(h:XR E w vw x v):XR E' w' vw' (PS m x) v:=by
 cases x with
 |c x=>exact k x v h
 |agg l=>
  obtain⟨vs,rfl,RI⟩:=h;exact⟨vs,rfl,Bi.IA _ k RI⟩
 |Ju l=>
  obtain⟨vs,rfl,RI⟩:=h;refine⟨vs,rfl,Bi.IA _ (fun x v hx=> ?_) RI⟩;cases x with
  |inl x=>exact k x v hx
  |inr q=>
   obtain⟨us,rfl,hus⟩:=hx;exact⟨us,rfl,Bi.IA _ k hus⟩
def H0(G4:Nat→Nat):Nat→List Bx→List Bx→List Bx
 |_,[],bx=>bx
 |i,B::l,bx=>H0 G4 (i+1) l (if G4 i<bx.length then bx.set (G4 i) B else bx++[B])
theorem aX(G4:Nat→Nat):∀(i:Nat) (l:List BP) (x:GZ.V l) (bx:List Bx),Tg G4 i l x bx=H0 G4 i (GZ.mk G4 l x) bx
 |_,[],_,_=>rfl
 |i,p::l,x,bx=>by simp only[Tg,GZ.mk,H0];exact aX G4 (i+1) l x.2 _
structure kM (G4:Nat→Nat) (M N:Nat):Prop where
 lt:∀k,k<M→G4 k<N
 eq:∀k,M≤k→G4 k=N+(k-M)
 inj:∀k k',k<M→k'<M→G4 k=G4 k'→k=k'
theorem kM.AHr{G4:Nat→Nat}{M N:Nat}(h:kM G4 M N){k k':Nat}(e:G4 k=G4 k'):k=k':=by
 by_cases h1:k<M
 ·by_cases h2:k'<M
  ·exact h.inj k k' h1 h2 e
  ·have:=h.lt k h1
   have:=h.eq k' (by omega);omega
 ·by_cases h2:k'<M
  ·have:=h.lt k' h2
   have:=h.eq k (by omega);omega
  ·have:=h.eq k (by omega)
   have:=h.eq k' (by omega);omega
theorem XT{G4:Nat→Nat}{M N:Nat}(h:kM G4 M N):∀{l:List Bx} {i:Nat} {bx:List Bx},bx.length=N+(i-M)→
  (H0 G4 i l bx).length=N+(i+l.length-M)∧(∀(j:Nat) B,l[j]? =some B→(H0 G4 i l bx)[G4 (i+j)]? =some B)∧
   ∀n,n<bx.length→(∀j,j<l.length→G4 (i+j)≠n)→(H0 G4 i l bx)[n]? =bx[n]?
 |[],i,bx,hl=>⟨by simpa[H0]using hl,fun j B hj=>by simp at hj,fun _ _ _=>rfl⟩
 |B::l,i,bx,hl=>by
  simp only[H0];have T0:(if G4 i<bx.length then bx.set (G4 i) B else bx++[B]).length=N+(i+1-M):=by
   split
   ·rename_i Dl
    by_cases hi:i<M
    ·simp;omega
    ·have:=h.eq i (by omega);omega
   ·rename_i Dl
    by_cases hi:i<M
    ·have:=h.lt i hi;omega
    ·simp;omega
  have SF:(if G4 i<bx.length then bx.set (G4 i) B else bx++[B])[G4 i]? =some B:=by
   split
   ·rename_i Dl;rw[AIp Dl]
   ·rename_i Dl
    by_cases hi:i<M
    ·have:=h.lt i hi;omega
    ·have:=h.eq i (by omega)
     rw[AIw (by omega),show G4 i-bx.length=0 by omega];rfl
  obtain⟨q1,q2,q3⟩:=XT h (l:=l) T0;refine⟨by rw[q1];simp;omega,fun j C hj=> ?_,fun n hn YT=> ?_⟩
  ·cases j with
   |zero=>
    simp at hj;subst hj;exact(q3 (G4 i) (AG0.1 SF).1 (fun j hj e=>by have:=h.AHr e;omega)).trans SF
   |succ j=>
    have:=q2 j C (by simpa using hj)
    rwa [show i+1+j=i+(j+1)by omega]at this
  ·have AH2:=YT 0 (by simp)
   rw[ALW]at AH2;rw[q3 n (by split<;>simp<;>omega) (fun j hj=>by have:=YT (j+1) (by simp;omega);rwa [show i+(j+1)=i+1+j by omega]at this)];split
   ·rw[AHi AH2]
   ·rw[AHR hn]
theorem WD{G4:Nat→Nat}{M N:Nat}(h:kM G4 M N){E:Env}{w:World}{vw:List Bx}:∀{l:List Bx} {i:Nat} {bx:List Bx} {Fs:List AAz},bx.length=N+(i-M)→(∀k,i≤k→k<M→bx[G4 k]? =some .dead)→
  Fs.length=l.length→(∀(j:Nat) B F,l[j]? =some B→Fs[j]? =some F→eW E w vw (G4 (i+j)) B F)→CD E w vw bx Fs.flatten→CD E w vw (H0 G4 i l bx) []
 |[],i,bx,Fs,hl,hd,hF,hB,YO=>by
  have:Fs=[]:=AI6 hF;subst this;simpa[H0]using YO
 |B::l,i,bx,F::Fs,hl,hd,hF,hB,YO=>by
  simp only[H0];have hBi:=hB 0 B F rfl rfl;rw[ALW]at hBi;have next:∀{Ls},Ls.length=N+(i+1-M)→(∀k,i+1≤k→k<M→Ls[G4 k]? =some .dead)→CD E w vw Ls Fs.flatten→CD E w vw (H0 G4 (i+1) l Ls) []:=by
   intro Ls h1 h2 h3;refine WD h h1 h2 (by simpa using hF) (fun j C G hC hG=> ?_) h3;have:=hB (j+1) C G (by simpa using hC) (by simpa using hG)
   rwa [show i+(j+1)=i+1+j by omega]at this
  rw[AJn]at YO;by_cases hi:i<M
  ·have Dl:=h.lt i hi
   rw[AG5 (by omega)];refine next (by simp;omega) (fun k hk1 ua=> ?_) (YO.put (hd i (AJI _) hi) hBi);rw[AHi (fun e=>by have:=h.AHr e;omega)];exact hd k (by omega) ua
  ·have heq:=h.eq i (by omega)
   rw[AHA (by omega)];have e1:G4 i=bx.length:=by omega
   rw[e1]at hBi;exact next (by simp;omega) (fun k hk1 ua=>by omega) (YO.push hBi)
 |_::_,_,_,[],_,_,hF,_,_=>by simp at hF
structure ic (E' E2:Env) (l:List BP) (u:GZ.V l) (ry:List Bx) (G4:Nat→Nat):Prop where
 ids:∀i,alive l i=true→E2.Ff (G4 i)=E'.Ff i∧E2.Ft (G4 i)=E'.Ft i
 bx:∀(i:Nat) p,l[i]? =some p→ ∃y,(GZ.mk id l u)[i]? =some (p.mk id y)∧ry[G4 i]? =some (p.mk G4 y)
 S:E2.S=E'.S
theorem Ui(G4:Nat→Nat):∀{l:List BP} {u:GZ.V l} {i:Nat} {p:BP},l[i]? =some p→ ∃y:p.V,(GZ.mk id l u)[i]? =some (p.mk id y)∧(GZ.mk G4 l u)[i]? =some (p.mk G4 y)
 |q::l,u,0,p,h=>by
  simp at h;subst h;exact⟨u.1,rfl,rfl⟩
 |q::l,u,i+1,p,h=>by
  obtain⟨y,h1,h2⟩:=Ui G4 (u:=u.2) (i:=i) (by simpa using h);exact⟨y,by simpa[GZ.mk]using h1,by simpa[GZ.mk]using h2⟩
 |[],_,_,_,h=>by simp at h
theorem N9(G4:Nat→Nat):∀{l:List BP} {u:GZ.V l},(GZ.mk G4 l u).length=l.length
 |[],_=>rfl
 |_::l,u=>by simp[GZ.mk,N9 G4 (l:=l)]
section
variable{E' E2:Env} {w:World} {l:List BP} {u:GZ.V l} {ry:List Bx} {G4:Nat→Nat} (r:ic E' E2 l u ry G4)
include r
omit r in
theorem iC{i:Nat}(h:alive l i=true):∃p,l[i]? =some p∧p≠ .gone:=by
 unfold alive at h;cases e:l[i]? with
 |none=>rw[e]at h;cases h
 |some p=>
  refine⟨p,rfl,fun hp=> ?_⟩;rw[e,hp]at h;cases h
theorem mH{p:AP}{y:p.V}{v:Value}(F6:p.Jr l=true)(h:VR E' w (GZ.mk id l u) (p.mk id y) v):VR E2 w ry (p.mk G4 y) v:=by
 cases p with
 |v t=>exact h
 |sl s q=>
  simp only[AP.Jr]at F6;subst F6;simp only[AP.mk,VR,AKn]at h⊢;rw[r.S];exact h
 |nil=>exact h
 |ref i=>
  simp only[AP.Jr,AHl]at F6;obtain⟨p,hp⟩:∃p,l[i]? =some p:=⟨_,AG7 F6⟩;obtain⟨z,z1,z2⟩:=r.bx i p hp;simp only[AP.mk,VR,id]at h⊢;refine⟨h.1,?_⟩;have h2:=h.2;rw[z1]at h2;rw[z2];cases p with
  |mem q=>trivial
  |gone=>trivial
  |sl d q=>
   have hid:=(r.ids i (by simp[alive,hp])).2;simp only[BP.mk]at h2⊢;refine⟨h2.1,h2.2.1,?_⟩;rw[hid];exact h2.2.2
 |ptr i j=>
  simp only[AP.Jr]at F6;obtain⟨p,hp,hg⟩:=iC F6;obtain⟨z,z1,z2⟩:=r.bx i p hp;refine⟨(AG0.1 z2).1,?_⟩;rw[(r.ids i F6).1];exact h.2
 |gF q=>simp[AP.Jr]at F6
 |aL i sz=>simp[AP.Jr]at F6
 |gf f rs=>simp[AP.Jr]at F6
 |fn f G6=>
  simp only[AP.Jr,AJq]at F6;obtain⟨h1,h2⟩:=h;refine⟨fun b hb=> ?_,?_⟩
  ·obtain⟨i,hi,rfl⟩:=ALc.1 hb
   obtain⟨p,hp,_⟩:=iC (F6 i hi);obtain⟨z,_,z2⟩:=r.bx i p hp;exact(AG0.1 z2).1
  ·rw[h2,AL_]
   congr 2
   rw[AL_];apply AL2;intro i hi;simp only[Function.comp,id,(r.ids i (F6 i hi)).1]
 |any=>trivial
theorem cH:∀{q:List AP} {y:Rt.V q} {vs:List Value},q.all (AP.Jr l)=true→YM E' w (GZ.mk id l u) (Rt.mk id q y) vs→YM E2 w ry (Rt.mk G4 q y) vs
 |[],_,[],_,_=>trivial
 |[],_,_::_,_,h=>h.elim
 |p::q,y,[],_,h=>h.elim
 |p::q,y,v::vs,F6,h=>by
  simp only[ALp,AHN]at F6;exact⟨mH r F6.1 h.1,cH F6.2 h.2⟩
theorem jR:∀{q:List (AP ⊕ List AP)} {y:SM.V q} {vs:List Value},(q.all fun| .inl p=>p.Jr l| .inr q=>q.all (AP.Jr l))=true→Bi (TR E' w (GZ.mk id l u)) (SM.mk id q y) vs→Bi (TR E2 w ry) (SM.mk G4 q y) vs
 |[],_,[],_,_=>trivial
 |[],_,_::_,_,h=>h.elim
 | .inl p::q,y,[],_,h=>h.elim
 | .inr p::q,y,[],_,h=>h.elim
 | .inl p::q,y,v::vs,F6,h=>by
  simp only[ALp,AHN]at F6;exact⟨mH r F6.1 h.1,jR F6.2 h.2⟩
 | .inr p::q,y,v::vs,F6,h=>by
  simp only[ALp,AHN]at F6;obtain⟨us,e,hus⟩:=h.1;exact⟨⟨us,e,cH r F6.1 hus⟩,jR F6.2 h.2⟩
theorem AFt{p:XP}{y:p.V}{v:Value}(F6:p.Jr l=true)(h:XR E' w (GZ.mk id l u) (p.mk id y) v):XR E2 w ry (p.mk G4 y) v:=by
 cases p with
 |c p=>exact mH r F6 h
 |agg q=>
  obtain⟨vs,e,RI⟩:=h;exact⟨vs,e,cH r F6 RI⟩
 |row q=>simp[XP.Jr]at F6
 |Ju q=>
  obtain⟨vs,e,RI⟩:=h;exact⟨vs,e,jR r F6 RI⟩
theorem AEC{i:Nat}{p:BP}{y:p.V}{F:AAz}(hi:l[i]? =some p)(F6:p.Jr l=true)(h:eW E' w (GZ.mk id l u) i (p.mk id y) F):eW E2 w ry (G4 i) (p.mk G4 y) F:=by
 cases p with
 |mem q=>
  obtain⟨h1,arr,ty,fr,h2,h3,h4⟩:=h;have hid:=(r.ids i (by simp[alive,hi])).1;exact⟨by rw[hid];exact h1,arr,ty,fr,by rw[hid];exact h2,h3,cH r F6 h4⟩
 |sl d q=>
  obtain⟨h1,h2⟩:=h;refine⟨h1,?_⟩;rw[(r.ids i (by simp[alive,hi])).2,r.S];exact h2
 |gone=>exact h
end
end Go.Fw
end
section
namespace Go.Fw
theorem iH{s:Bn}{N:Nat}{m0 m:K4}{tm:List XV}{bx:List Bx}{x:s.V}(e:s.fit N m0 tm bx=some (x,m)):∀(k:Nat) p,s.Ed[k]? =some p→p≠ .gone→ ∃b B,m[k]? =some (some b)∧bx[b]? =some B∧B≠ .dead∧
  ∀d r,p= .sl d r→ ∃d' rows,B= .sl d' r rows:=by
 simp only[Bn.fit,AHL,AHF]at e;obtain⟨m1,e1,m2,e2,a,e3,c,e4,e5⟩:=e;cases e5;obtain⟨q1,q2⟩:=NL (G4:=id) e4;intro k p hp hg;obtain⟨y,_,h⟩:=q2 k p hp;cases p with
 |gone=>exact absurd rfl hg
 |mem q=>
  obtain⟨b,cs,h1,h2,_⟩:=h;exact⟨b,_,h1,h2,by simp,fun d r hh=>by cases hh⟩
 |sl d r=>
  obtain⟨b,d',h1,h2,_⟩:=h;exact⟨b,_,h1,h2,by simp,fun d r hh=>by cases hh;exact⟨d',y,rfl⟩⟩
theorem qj(n:Nat):fI (List.replicate n none):=fun i j b h=>by
 simp[AL6]at h
theorem mw{w:World}{B B':Nat→Prop}{w':World}{r:Ty}{v:Value}{x y:List r.D}(h:Rd w B (.sl r) [v] x)(h':Rd w' B' (.sl r) [v] y):y.length=x.length:=by
 simp only[Rd]at h h';obtain⟨_,_,e,_⟩:=h;obtain⟨_,_,e',_⟩:=h';rw[e]at e';simp only[AJD,Value.slice.injEq,AKa]at e';exact e'.2.1.symm
section
variable{Y:Type} {P:Program} {E:Env} {σ:St} {a:Act} {w:World} {k:K Y} {y:Y}
theorem fh{E' E2:Env}{l:List BP}{u:GZ.V l}{ry:List Bx}{G4:Nat→Nat}(r:ic E' E2 l u ry G4):∀{sl:List (Nat×XP)} {z:Ej.V sl} {x:Value},
  cg l sl=true→LB E' w (GZ.mk id l u) id sl z [x]→XR E2 w ry (WU sl z G4) x
 |[(0,p)],z,x,F6,h=>by
  obtain⟨⟨v,hv,hx⟩,_⟩:=h;simp at hv;subst hv;exact AFt r F6 hx
 |[],_,_,F6,_=>by simp[cg]at F6
 |(_+1,_)::_,_,_,F6,_=>by simp[cg]at F6
 |(0,_)::_::_,_,_,F6,_=>by simp[cg]at F6
def Qt(c:O2)(xs:List XV)(σ:St):AAz:=
 match c.ins.fit σ.bx.length c.ins.m0 xs (c.ins.opens σ.bx)with
 |some (_,m)=>m.filterMap id
 |none=>[]
theorem ga(h:Rel E σ a w)(s:Bn):∃E',Rel E' { σ with bx:=s.opens σ.bx } a w∧Mb [] E σ.bx w E' (s.opens σ.bx) w∧(∀(i:Nat) d r,s.Ed[i]? =some (.sl d r)→E'.Ft (σ.bx.length+i)= .slice none 0 0)∧
  (∀x v,XR E w σ.bx x v→XR E' w (s.opens σ.bx) x v):=by
 let E':Env:={ E with Ft:=fun k=>if k<σ.bx.length then E.Ft k else .slice none 0 0 }
 have hlen:σ.bx.length≤(s.opens σ.bx).length:=by simp[Bn.opens]
 have hold:∀b,b<σ.bx.length→(s.opens σ.bx)[b]? =σ.bx[b]?:=fun b hb=>by simp only[Bn.opens];rw[AHR hb]
 have WB:∀b,b<σ.bx.length→E'.Ft b=E.Ft b:=fun b hb=>by simp only[E'];rw[AG5 hb]
 have keep:Np E w σ.bx E' w (s.opens σ.bx):=
  ⟨hlen,fun _ _=>rfl,fun _ h=>h,fun _ h=>h,h.bx.st,fun _ _=>rfl,fun b d r rows hb e=>⟨d,rows,by rw[←hold b hb];exact e,fun p hp q ys hg=>⟨hp,⟨ys,hg,rfl⟩,fun hh he=>by rw[WB b hb];exact he⟩⟩⟩
 obtain⟨Fs,⟨f1,f2⟩,f3⟩:=h.bx;refine⟨E',⟨h.Jo,h.tm.imp fun _ _ hx=>Kt keep hx,?_⟩,?_,fun i d r hi=>by simp only[E'];rw[AHA (by omega)],fun x v hx=>Kt keep hx⟩
 ·refine⟨Fs++List.replicate s.Ed.length [],⟨by simp[Bn.opens,f1],fun n B F hB hF=> ?_⟩,?_⟩
  ·by_cases hn:n<σ.bx.length
   ·rw[hold n hn]at hB
    rw[AHR (by omega)]at hF;have:=f2 n B F hB hF;cases B with
    |mem cs=>
     obtain⟨rfl,arr,ty,fr,a1,a2,a3⟩:=this;exact⟨rfl,arr,ty,fr,a1,a2,a3.imp fun _ _ hv=>EB keep hv⟩
    |sl d r rows=>exact⟨this.1,by rw[WB n hn];exact this.2⟩
    |dead=>exact this
   ·rw[AIw (by omega)]at hF
    have hF':F=[]:=AKQ (AIv hF);subst hF';simp only[Bn.opens]at hB;rw[AIw (by omega),AJG,AHF]at hB;obtain⟨p,_,rfl⟩:=hB;have hh:E'.Ft n= .slice none 0 0:=by simp only[E'];rw[AHA hn]
    cases p with
    |mem q=>rfl
    |gone=>rfl
    |sl d r=>exact⟨by omega,by rw[hh];exact cp⟩
  ·have:(Fs++List.replicate s.Ed.length []).flatten=Fs.flatten:=by simp
   rw[this];exact⟨f3.nodup,f3.free,f3.lt,f3.st,f3.XS⟩
 ·refine⟨⟨fun _ h=>h,fun _ h=>h,fun _ h=> .inl h,fun _ h=> .inl h,fun _ _=>rfl,rfl,rfl,rfl,AJI _⟩,hlen,fun b hb=>⟨rfl,WB b hb⟩,fun b hb=> ?_,fun n B B' _ hB Md hd=> ?_⟩
  ·rw[hold b (AG0.1 hb).1];exact hb
  ·rw[hold n (AG0.1 hB).1,hB]at Md
   cases Md;exact⟨Pg.refl hd,fun _ _=>rfl⟩
theorem Mb.after{t:AAz}{E E' re:Env}{bx Ls AHU:List Bx}{w w':World}(h:Mb [] E bx w E' Ls w)(hb:∀b,b<bx.length→Ls[b]? =bx[b]?)(k:Mb t E' Ls w re AHU w'):Mb t E bx w re AHU w':=
 ⟨h.base.trans k.base,AJe h.len k.len,fun b Dl=>⟨(k.ids b (AJW Dl h.len)).1.trans (h.ids b Dl).1,(k.ids b (AJW Dl h.len)).2.trans (h.ids b Dl).2⟩,fun b hd=>k.dead b (h.dead b hd),fun n B B' hn hB Md hd=>by
  have Dl:=(AG0.1 hB).1;obtain⟨k1,k2⟩:=k.frame n B B' hn (by rw[hb n Dl];exact hB) Md hd;refine⟨k1,fun c hc=>k2 c ?_⟩;cases B with
  |mem cs=>simp only[lS]at hc⊢;rw[(h.ids n Dl).1];exact hc
  |sl d r rows=>simp only[lS]at hc⊢;rw[(h.ids n Dl).2];exact hc
  |dead=>exact hc⟩
def ABW(c:O2)(N:Nat)(xs:List XV)(σ:St)(k:K Y):Option Y:=
 match c.ins.fit N c.ins.m0 xs σ.bx with
 |some (v,m)=>(c.g v).bind fun u=>
  let G4:=Sc m σ.bx.length
  let σ1:=σ.RL m
  k (WU c.outs.Co u.1 G4) { σ1 with bx:=Tg G4 0 c.outs.Ed u.2 (B5 σ1.bx m) }
 |none=>none
def mL(c:O2)(N:Nat)(xs:List XV)(σ:St):AAz:=
 match c.ins.fit N c.ins.m0 xs σ.bx with
 |some (_,m)=>m.filterMap id
 |none=>[]
theorem lW{f:Nat}{c:O2}(hc:Uv P f c)(h:Rel E σ a w){N0:Nat}(jQ:∀(i:Nat) d r,c.ins.Ed[i]? =some (.sl d r)→E.Ft (N0+i)= .slice none 0 0){xs:List XV}{vs:List Value}(hxs:Bi (XR E w σ.bx) xs vs)(hlen:xs.length=c.ins.Co.length)(e:ABW c N0 xs σ k=some y):
  Calls P f vs.toArray w fun e w' => ∃x E' xv σ',e= .returned x∧Rel E' σ' a w'∧XR E' w' σ'.bx xv x∧Mb (mL c N0 xs σ) E σ.bx w E' σ'.bx w'∧σ'.tm.length=σ.tm.length∧k xv σ' =some y:=by
 obtain⟨F6,_,gv⟩:=hc;simp only[O2.ok,AHN]at F6;obtain⟨⟨hk,hslot⟩,hbo⟩:=F6;obtain⟨hklen,hk⟩:=Q4 hk;unfold ABW at e;split at e
 case h_2=>cases e
 rename_i v m T6;simp only[AHL]at e;obtain⟨u,hg,e⟩:=e;obtain⟨_,E1,hf⟩:=aR h.bx hxs jQ (by simp[Bn.m0]) (qj _) T6;have LJ:vs.toArray.size=c.ins.Co.length:=by rw[←hlen,Bi.len hxs];simp
 refine(gv E1 w v vs.toArray u LJ hf.boxes (by simpa using hf.Co) hg).mono fun e' w' hR=> ?_
 obtain⟨x,E',rfl,base,⟨Fs,hFs1,hFs2⟩,Co,lJ⟩:=hR;simp only[AIs]at hFs2;obtain⟨Fk,k1,k2,k3,k4⟩:=hf.rest;have st:=h.bx.st;have XS:=h.bx.XS;have hM:m.length=c.ins.Ed.length:=hf.len;have all:∀i,i<m.length→ ∃b B,m[i]? =some (some b)∧σ.bx[b]? =some B∧B≠ .dead∧ ∀d r,c.ins.Ed[i]? =some (.sl d r)→ ∃d' rows,B= .sl d' r rows:=by
  intro i hi;have hp:c.ins.Ed[i]? =some (c.ins.Ed[i]'(by omega)):=AG7 _;obtain⟨b,B,h1,h2,h3,h4⟩:=iH T6 i _ hp (hk i _ hp).1;exact⟨b,B,h1,h2,h3,fun d r hh=>h4 d r (by rw[hp]at hh;exact AL9 hh)⟩
 let N:=σ.bx.length
 let M:=m.length
 have mi:∀i b,m[i]? =some (some b)→Sc m N i=b:=fun i b h=>by simp[Sc,h]
 have sd:∀i,M≤i→Sc m N i=N+(i-M):=fun i hi=>by
  have:m[i]? =none:=AK5 hi;simp[Sc,this,M]
 have ro:kM (Sc m N) M N:=⟨fun i hi=>by
   obtain⟨b,B,h1,h2,_⟩:=all i hi;rw[mi i b h1];exact(AG0.1 h2).1,sd,fun i j hi hj e=>by
   obtain⟨b,B,h1,h2,_⟩:=all i hi;obtain⟨b',B',p_,yM,_⟩:=all j hj;rw[mi i b h1,mi j b' p_]at e;subst e;exact hf.inj i j b h1 p_⟩
 let E2:Env:={
   Ff:=fun n=>if n<N then E.Ff n else E'.Ff (M+(n-N))
   Ft:=fun n=>if n<N then E.Ft n else E'.Ft (M+(n-N))
   T:=fun c=>E.T c∨E'.S c
   S:=E'.S }
 have hS:∀c,E.S c→E'.S c:=fun d hd=>base.S d (hf.S d hd)
 have hSk:∀d∈Fk.flatten,¬E'.S d:=fun d hd hs=>by
  obtain⟨_,n2,_,n4⟩:=k3 d hd;exact(base.nc d hs).elim n2 (fun h=>h n4)
 have jq:∀d,E.T d→w'.heap[d]? =w.heap[d]?:=fun d hd=>base.heap d (hf.T d hd)
 have sN:∀d∈Fk.flatten,w'.heap[d]? =w.heap[d]?:=fun d hd=>base.heap d (k3 d hd).2.2.2
 have AIS:Wx E w E2 w':=⟨fun d hd=> .inl hd,hS,fun d hd=>hd,fun d hd=>by
   rcases base.nc d hd with h|h
   ·exact hf.nc d h
   ·exact .inr fun ht=>h (hf.T d ht),jq,base.os,base.tape,base.output,base.size⟩
 let vw':=GZ.mk id c.outs.Ed u.2
 let Bs:=GZ.mk (Sc m N) c.outs.Ed u.2
 let bk:=(B5 σ.bx m).map (Bx.map (DP m))
 have hbk:B5 (σ.RL m).bx m=bk:=by rw[pI,Vo]
 have AGT:bk.length=N:=by simp[bk,FG,N]
 let Tb:=H0 (Sc m N) 0 Bs bk
 have AKH:Tg (Sc m N) 0 c.outs.Ed u.2 (B5 (σ.RL m).bx m)=Tb:=by rw[aX,hbk]
 obtain⟨s1,s2,s3⟩:=XT ro (l:=Bs) (i:=0) (bx:=bk) (by simp[AGT]);have AJm:Bs.length=c.outs.Ed.length:=N9 _;have ax:σ.bx.length≤Tb.length:=by
  show N≤Tb.length
  have:Tb.length=N+(0+Bs.length-M):=s1;omega
 have rn:ic E' E2 c.outs.Ed u.2 Tb (Sc m N):=by
  refine⟨fun i hi=> ?_,fun i p hp=> ?_,rfl⟩
  ·by_cases him:i<M
   ·obtain⟨b,B,h1,h2,_⟩:=all i him
    have lQ:b<N:=(AG0.1 h2).1;have g1:=hf.ids i b h1;have g2:=lJ i (by omega) hi;rw[mi i b h1];simp only[E2,AG5 lQ];exact⟨by rw[g2.1,g1.1],by rw[g2.2,g1.2]⟩
   ·rw[sd i (by omega)]
    have: ¬(N+(i-M)<N):=by omega
    simp only[E2,AHA this];rw[show M+(N+(i-M)-N)=i by omega];exact⟨rfl,rfl⟩
  ·obtain⟨z,z1,z2⟩:=Ui (Sc m N) (u:=u.2) hp
   refine⟨z,z1,?_⟩;have:=s2 i _ z2
   rwa [AKi]at this
 have rr:∀n,n<N→some n∉m→Tb[n]? =bk[n]?:=fun n hn hm=>by
  refine s3 n (by omega) fun j hj he=> ?_
  rw[AKi]at he;by_cases hjm:j<M
  ·obtain⟨b,B,h1,h2,_⟩:=all j hjm
   rw[mi j b h1]at he;subst he;exact hm (AIv h1)
  ·have:=sd j (by omega)
   omega
 have keep:Np E w σ.bx E2 w' (B5 Tb m):=by
  refine⟨by rw[FG];exact ax,fun b hb=>by simp only[E2];rw[AG5 hb],fun d hd=> .inl hd,hS,st,jq,fun b d r rows hb hq=> ?_⟩;have hbm:some b∉m:=fun hm=>by have:=QF hm hq;cases this
  rw[MB hbm,rr b hb hbm]at hq;have hq1:=qg hq;have fS:σ.bx[b]? =some (.sl d r rows):=by
   rcases Ng (DU.refl σ.bx) b _ hq1 with e|e
   ·cases e
   ·exact e
  refine⟨d,rows,fS,fun p hp q ys hgp=>⟨hp,⟨ys,hgp,rfl⟩,fun h' hh=> ?_⟩⟩;have hFk:Fk[b]? =some (Fk[b]'(by rw[k1.1,FG];exact hb)):=AG7 _;obtain⟨_,ho⟩:=k1.2 b _ _ hq1 hFk;have e2:E2.Ft b=E.Ft b:=by simp only[E2];rw[AG5 hb]
  rw[e2];exact jE ho (fun d hd=>jq d (st d hd)) (fun d hd=>sN d (AJB.2 ⟨_,AIv hFk,hd⟩)) hp hgp hh
 have vr:∀x v,VR E w σ.bx x v→VR E2 w' Tb (DP m x) v:=fun x v hx=>by
  refine pn keep (fun b d' r B3 hbm hq=> ?_) ax hx;obtain⟨i,hi,him⟩:=AKN hbm;have ADA:m[i]? =some (some b):=by rw[AG7 hi,him]
  obtain⟨b',B,h1,h2,h3,h4⟩:=all i hi;rw[ADA]at h1;cases h1;have hio:i<c.outs.Ed.length:=by omega
  have hp:c.outs.Ed[i]? =some c.outs.Ed[i]:=AG7 hio;obtain⟨z,z1,z2⟩:=rn.bx i _ hp;rw[mi i b ADA,hq]at z2;have AGm:c.ins.Ed[i]? =some (c.ins.Ed[i]'(by omega)):=AG7 _
  generalize c.outs.Ed[i]=po at z hp z1 z2
  cases po with
  |mem q=>simp[BP.mk]at z2
  |gone=>simp[BP.mk]at z2
  |sl d0 q=>
   simp only[BP.mk,AG9,Bx.sl.injEq]at z2;obtain⟨rfl,rfl,z2⟩:=z2;obtain rfl:=AJE z2;obtain⟨d1,hpo⟩:=(hk i _ AGm).2 _ _ hp;obtain⟨d2,rows,rfl⟩:=h4 d1 r (by rw[AGm,hpo]);have lQ:b<N:=(AG0.1 h2).1;have eh:E2.Ft b=E.Ft b:=by simp only[E2];rw[AG5 lQ]
   refine⟨d2,rows,h2,?_,eh⟩;obtain⟨F0,hR0,_⟩:=h.bx.take h2;have hFi:Fs[i]? =some (Fs[i]'(by rw[hFs1.1,N9];exact hio)):=AG7 _;obtain⟨_,lb⟩:=hFs1.2 i _ _ z1 hFi;have qL:alive c.outs.Ed i=true:=by simp[alive,hp]
   rw[(lJ i (by omega) qL).2,(hf.ids i b ADA).2]at lb;exact mw (SV hR0.2) (SV lb)
 have W0:c.outs.Ed.all (BP.Jr c.outs.Ed)=true:=hbo;have rel:Rel E2 { tm:=(σ.RL m).tm,bx:=Tb } a w':=by
  refine⟨h.Jo,?_,?_⟩
  ·rw[gT]
   exact Bi.IA _ (fun x v hx=>pY vr hx) h.tm
  ·refine WD ro (Fs:=Fs) (by simp[AGT]) (fun i _ hi=> ?_) (by rw[hFs1.1,N9];exact AJm.symm) (fun j B F hB hF=> ?_) ?_
   ·obtain⟨b,B,h1,h2,_⟩:=all i hi
    rw[mi i b h1];have lQ:b<(B5 σ.bx m).length:=by rw[FG];exact(AG0.1 h2).1
    have hd:(B5 σ.bx m)[b]? =some .dead:=by
     rw[AG7 lQ];exact congrArg some (QF (AIv h1) (AG7 lQ))
    simp only[bk];rw[AJG,hd];rfl
   ·rw[AKi]
    have nS:=(AG0.1 hB).1;have hp:c.outs.Ed[j]? =some (c.outs.Ed[j]'(by omega)):=AG7 _;obtain⟨z,z1,z2⟩:=Ui (Sc m N) (u:=u.2) hp;have Md:Bs[j]? =_:=z2;rw[hB]at Md;cases Md;exact AEC rn hp (AJq.1 W0 _ (AIu _)) (hFs1.2 j _ _ z1 hF)
   ·
    refine⟨Fk,⟨by simp[bk,k1.1],fun n B F hn hF=> ?_⟩,?_⟩
    ·simp only[bk]at hn
     rw[AJG,AHF]at hn;obtain⟨B0,hn,rfl⟩:=hn;have jd:n<N:=by have:=(AG0.1 hn).1;rwa [FG]at this
     have h3:=k1.2 n B0 F hn hF;have hFw:∀d∈F,w'.heap[d]? =w.heap[d]?:=fun d hd=>sN d (AJB.2 ⟨F,AIv hF,hd⟩)
     have eb:E2.Ff n=E.Ff n:=by simp only[E2];rw[AG5 jd]
     have eh:E2.Ft n=E.Ft n:=by simp only[E2];rw[AG5 jd]
     cases B0 with
     |mem cs=>
      obtain⟨rfl,arr,ty,fr,ha,hu,hv⟩:=h3;exact⟨by rw[eb],arr,ty,fr,by rw[eb,hFw _ (by simp),ha],hu,Bi.IA _ vr hv⟩
     |sl d r rows=>
      refine⟨h3.1,?_⟩;rw[eh];exact Cr hS (fun d hd=>jq d (st d hd)) hFw h3.2
     |dead=>exact h3
    ·refine⟨AIJ.2 ⟨k2,hFs2.nodup,fun x hx z hz he=> ?_⟩,fun d hd ht=> ?_,fun d hd=> ?_,fun d hd=> .inr hd,fun d hd=> ?_⟩
     ·subst he
      exact hFs2.free x hz (base.T x (k3 x hx).2.2.2)
     ·rcases AIf.1 hd with hd|hd
      ·rcases ht with ht|ht
       ·exact(k3 d hd).1 ht
       ·exact hSk d hd ht
      ·rcases ht with ht|ht
       ·exact hFs2.free d hd (base.T d (hf.T d ht))
       ·exact hFs2.free d hd (hFs2.st d ht)
     ·rcases AIf.1 hd with hd|hd
      ·exact AJW (k3 d hd).2.2.1 base.size
      ·exact hFs2.lt d hd
     ·rcases hd with hd|hd
      ·exact AJW (XS d hd) base.size
      ·exact hFs2.XS d (hFs2.st d hd)
 have yC:Mb (mL c N0 xs σ) E σ.bx w E2 Tb w':=by
  refine⟨AIS,ax,fun n hn=>⟨by simp only[E2];rw[AG5 hn],by simp only[E2];rw[AG5 hn]⟩,fun n hn=> ?_,fun n B B' hnt hB Md nK=> ?_⟩
  rotate_left 1
  ·have jd:=(AG0.1 hB).1
   have hnm:some n∉m:=fun hm=>hnt (by
    simp only[mL,T6,List.mem_filterMap];exact⟨some n,hm,rfl⟩)
   rw[rr n jd hnm]at Md;simp only[bk]at Md;have hkn:(B5 σ.bx m)[n]? =some B:=by rw[MB hnm];exact hB
   rw[AJG,hkn]at Md;have Md:Bx.map (DP m) B=B':=by simpa using Md
   have hFk:Fk[n]? =some (Fk[n]'(by rw[k1.1,FG];exact jd)):=AG7 _;refine⟨?_,fun d hd=> ?_⟩
   ·subst Md
    cases B with
    |mem cs=>trivial
    |sl d r rows=>rfl
    |dead=>exact absurd rfl nK
   ·rcases Wj (k1.2 n B _ hkn hFk) hd with hs|hs
    ·exact jq d (st d hs)
    ·exact sN d (AJB.2 ⟨_,AIv hFk,hs⟩)
  have jd:=(AG0.1 hn).1;have hnm:some n∉m:=fun hm=>by
   obtain⟨i,hi,him⟩:=AKN hm;obtain⟨b,B,h1,h2,h3,_⟩:=all i hi;rw[AG7 hi,him]at h1;cases h1;rw[hn]at h2;cases h2;exact h3 rfl
  rw[rr n jd hnm];simp only[bk];rw[AJG,MB hnm,hn];rfl
 refine⟨x,E2,WU c.outs.Co u.1 (Sc m N),{ tm:=(σ.RL m).tm,bx:=Tb },rfl,rel,fh rn hslot Co,yC,by simp[gT],?_⟩;rw[AKH]at e;exact e
theorem py{f:Nat}{c:O2}(hc:Uv P f c)(h:Rel E σ a w){xs:List XV}{vs:List Value}(hxs:Bi (XR E w σ.bx) xs vs)(e:bD c xs σ k=some y):
  Calls P f vs.toArray w fun e w' => ∃x E' xv σ',e= .returned x∧Rel E' σ' a w'∧XR E' w' σ'.bx xv x∧Mb (Qt c xs σ) E σ.bx w E' σ'.bx w'∧σ'.tm.length=σ.tm.length∧k xv σ' =some y:=by
 unfold bD at e;split at e
 case isFalse=>cases e
 rename_i hlen;obtain⟨E',h1,h2,h3,h4⟩:=ga h c.ins;have hold:∀b,b<σ.bx.length→(c.ins.opens σ.bx)[b]? =σ.bx[b]?:=fun b hb=>by simp only[Bn.opens];rw[AHR hb]
 refine(lW (N0:=σ.bx.length) hc h1 h3 (hxs.imp fun x v hx=>h4 x v hx) hlen (k:=k) (y:=y) e).mono fun e' w' hR=> ?_
 obtain⟨x,E2,xv,σ',q0,q1,q2,q3,q4,q5⟩:=hR;exact⟨x,E2,xv,σ',q0,q1,q2,h2.after hold q3,q4,q5⟩
end
end Go.Fw
end
section
namespace Go.Fw
def X6(P:Program)(Γ:Nat→Option O2):Prop:= ∀f c,Γ f=some c→Uv P f c
theorem gG{Γ:Nat→Option O2}{σ:St}{o:Op}(h:de o=false):F7 (fun _=>none) σ o=F7 Γ σ o:=by
 cases o with
 |call c=>
  obtain⟨callee,args,gH⟩:=c;cases callee with
  |value f=>simp[de]at h
  |invoke _ _=>rfl
  |builtin b=>cases b<;>rfl
 |_=>rfl
theorem AH4{Y:Type}{P:Program}{Γ:Nat→Option O2}{o:Oper}{E:Env}{σ:St}{a:Act}{w:World}{k:K Y}{y:Y}{g:Nat}{c:O2}(hsc:Uv P g c)(h:Rel E σ a w){f:Operand}{args:Array Operand}{gH:Array TypeId}
  (ho:o.op= .call { callee:= .value f,args:=args,argTypes:=gH }) {ps:List Value} (UI:a.eval f= .func (.func g) #[] ps.toArray) {xs:List XV} (GJ:Bi (XR E w σ.bx) xs (args.toList.map a.eval++ps)) (ht:F7 Γ σ o.op=Qt c xs σ)
  (e:bD c xs σ k=some y) {next:Act→World→Prop} {Q:Exit→Act→World→Prop}
  (hn:∀v w' E' x σ',Rel E' σ' a w'→XR E' w' σ'.bx x v→Mb (F7 Γ σ o.op) E σ.bx w E' σ'.bx w'→σ'.tm.length=σ.tm.length→k x σ' =some y→next (a.put o.dst v) w'):o.wp P a w next Q:=by
 have gv:=py hsc h GJ e;have fW:(execOp a.eval o).run P w= .ok (.enter g (args.toList.map a.eval++ps).toArray) w:=by
  have e2:(args.map a.eval)++ps.toArray=(args.toList.map a.eval++ps).toArray:=by
   apply Array.ext';simp
  simp only[execOp,ho,resolve,UI,Deferred.ofValue,Sem.run_bind,Sem.run_pure,Result.andThen_ok,invoke,Array.empty_append,e2,hsc.2.1]
 unfold Oper.wp;rw[fW];simp only[Oper.upon];refine gv.mono fun e w' hR=> ?_
 obtain⟨x,E',xv,σ',rfl,h1,h2,h3,h4,h5⟩:=hR;rw[←ht]at h3;exact hn x w' E' xv σ' h1 h2 h3 h4 h5
section
variable{Y:Type} {P:Program} {T:G8} (hT:Dd P T) {Γ:Nat→Option O2} (hΓ:X6 P Γ) {o:Oper} {E:Env} {σ:St} {a:Act} {w:World} {k:K Y} {y:Y}
include hT hΓ
theorem nw(h:Rel E σ a w)(e:Q9 T Γ o σ k=some y){next:Act→World→Prop}{Q:Exit→Act→World→Prop}
  (hn:∀v w' E' x σ',Rel E' σ' a w'→XR E' w' σ'.bx x v→Mb (F7 Γ σ o.op) E σ.bx w E' σ'.bx w'→σ'.tm.length=σ.tm.length→k x σ' =some y→next (a.put o.dst v) w'):o.wp P a w next Q:=by
 by_cases hc:de o.op=false
 ·obtain⟨v,w',E',x,σ',hr,h1,h2,h3,h4,h5⟩:=oT hT h e hc
  rw[gG hc]at h3;unfold Oper.wp;rcases hr with hr|⟨hr,rfl⟩
  ·rw[hr]
   exact hn v w' E' x σ' h1 h2 h3 h4 h5
  ·rw[hr]
   exact hn _ w' E' x σ' h1 h2 h3 h4 h5
 ·
  unfold de at hc;split at hc
  case h_2=>simp at hc
  rename_i f args gH ho;unfold Q9 at e;rw[ho]at e;dsimp only at e;split at e
  case h_3=>cases e
  ·rename_i g G6 hf
   split at e
   case h_2=>cases e
   rename_i c hg;have hv:=h.ev f;rw[hf]at hv;obtain⟨VB,UI⟩:(∀b∈G6,b<σ.bx.length)∧a.eval f= .func (.func g) #[] (G6.map fun b=>Value.pointer (some ⟨E.Ff b,0,none⟩)).toArray:=hv;have hsc:=hΓ g c hg;have GJ:Bi (XR E w σ.bx) (args.toList.map σ.ev++G6.map fun b=> .c (.FY b 0)) (args.toList.map a.eval++G6.map fun b=>Value.pointer (some ⟨E.Ff b,0,none⟩)):=by
    refine Bi.append (evs h args.toList) ?_
    clear UI hf e
    induction G6 with
    |nil=>trivial
    |cons b l ih=>exact⟨⟨VB b (by simp),rfl⟩,ih (fun c hc=>VB c (by simp[hc]))⟩
   have ht:F7 Γ σ o.op=Qt c (args.toList.map σ.ev++G6.map fun b=> .c (.FY b 0)) σ:=by
    rw[ho];simp only[F7,hf,hg,Qt];rfl
   exact AH4 hsc h ho UI GJ ht e hn
  ·rename_i g rows hf
   split at e
   case h_2=>cases e
   rename_i c hg;have hv:=h.ev f;rw[hf]at hv;obtain⟨ps,UI,VB⟩:∃ps:List Value,a.eval f= .func (.func g) #[] ps.toArray∧Bi (RA E w) rows ps:=hv;have hsc:=hΓ g c hg;have GJ:Bi (XR E w σ.bx) (args.toList.map σ.ev++rows.map fun q=> .c (.KB false q.1 q.2 0)) (args.toList.map a.eval++ps):=by
    refine Bi.append (evs h args.toList) ?_
    clear UI hf e
    induction rows generalizing ps with
    |nil=>
     cases ps with
     |nil=>trivial
     |cons _ _=>exact VB.elim
    |cons q l ih=>
     cases ps with
     |nil=>exact VB.elim
     |cons p ps=>
      obtain⟨⟨bb,o,cs,h1,h2,h3,h4,h5⟩,VB⟩:=VB;exact⟨⟨bb,o,cs,h1,h2,h3,h4,h5⟩,ih ps VB⟩
   have ht:F7 Γ σ o.op=Qt c (args.toList.map σ.ev++rows.map fun q=> .c (.KB false q.1 q.2 0)) σ:=by
    rw[ho];simp only[F7,hf,hg,Qt];rfl
   exact AH4 hsc h ho UI GJ ht e hn
end
theorem Rel.tmp{E:Env}{σ:St}{a:Act}{w:World}(h:Rel E σ a w){t:Nat}{x:XV}(e:σ.tm[t]? =some x):∃v,a.tmps[t]? =some v∧XR E w σ.bx x v:=by
 obtain⟨v,h1,h2⟩:=h.tm.get e;exact⟨v,by simpa using h1,h2⟩
def AET:Value→Option Bool
 | .bool b=>some b
 |_=>none
theorem Ua{ops:Array Oper}{tmps:Array Value}{j t:Nat}(e:(ops[j]?).bind (·.dst)=some t){v:Value}(hv:tmps[t]? =some v):yielded ops tmps j=AET v:=by
 simp only[yielded,e,AHE,hv];cases v<;>rfl
theorem dx{E:Env}{w:World}{vw:List Bx}:XR E w vw (.Ju []) undef:=⟨#[],rfl,trivial⟩
structure Ok (E0:Env) (w0:World) (N nb:Nat) (E:Env) (σ:St) (a:Act) (w:World):Prop where
 rel:Rel E σ a w
 base:Wx E0 w0 E w
 tm:σ.tm.length=N
 fQ:nb≤σ.bx.length
 ids:∀i,i<nb→σ.bx[i]?≠some .dead→E.Ff i=E0.Ff i∧E.Ft i=E0.Ft i
theorem Ok.next{E0 E E':Env}{w0 w w':World}{N nb:Nat}{σ σ':St}{a a':Act}{t:AAz}(h:Ok E0 w0 N nb E σ a w)(hr:Rel E' σ' a' w')(hw:Mb t E σ.bx w E' σ'.bx w')(hl:σ'.tm.length=σ.tm.length):Ok E0 w0 N nb E' σ' a' w':=
 ⟨hr,h.base.trans hw.base,hl.trans h.tm,AJe h.fQ hw.len,fun i hi hd=>by
  have h1:=hw.ids i (AJW hi h.fQ);have h2:=h.ids i hi (fun hh=>hd (hw.dead i hh));exact⟨h1.1.trans h2.1,h1.2.trans h2.2⟩⟩
theorem Ok.put{E0 E:Env}{w0 w:World}{N nb:Nat}{σ:St}{a:Act}(h:Ok E0 w0 N nb E σ a w)(dst:Option Tmp){x:XV}{v:Value}(hx:XR E w σ.bx x v):Ok E0 w0 N nb E (σ.put dst x) (a.put dst v) w:=by
 have e1:(σ.put dst x).bx=σ.bx:=by cases dst<;>rfl
 have e2:(σ.put dst x).tm.length=σ.tm.length:=by cases dst<;>simp[St.put]
 refine⟨h.rel.put dst hx,h.base,e2.trans h.tm,by rw[e1];exact h.fQ,fun i hi hd=>h.ids i hi (by rwa [e1]at hd)⟩
theorem Ok.same{E0 E:Env}{w0 w:World}{N nb:Nat}{σ σ1:St}{a:Act}(h:Ok E0 w0 N nb E σ a w)(hr:Rel E σ1 a w)(hb:σ1.bx=σ.bx)(hl:σ1.tm.length=σ.tm.length):Ok E0 w0 N nb E σ1 a w:=
 ⟨hr,h.base,hl.trans h.tm,by rw[hb];exact h.fQ,fun i hi hd=>h.ids i hi (by rwa [hb]at hd)⟩
end Go.Fw
end
section
namespace Go.Fw
section
variable{Y:Type}
abbrev k0:K (XV×St):=fun x σ=>some (x,σ)
theorem pk{op:BinOp}{κ:IntKind}{a b:Int}(k:AV→Option Y):XG op κ a b k=(XG op κ a b some).bind k:=by
 cases op<;>simp[XG]<;>split<;>rfl
theorem al{op:BinOp}{κ:IntKind}{a b:Int}(k:AV→Option Y):SJ op κ a b k=(SJ op κ a b some).bind k:=by
 unfold SJ;split
 ·rfl
 ·cases op<;>simp
theorem pc{op:BinOp}{a b:AA_}(k:AV→Option Y):Yk op a b k=(Yk op a b some).bind k:=by
 cases op<;>simp[Yk]<;>split<;>rfl
theorem fO{T:G8}{t:Nat}{op:BinOp}{a b:XV}(k:AV→Option Y):jj T t op a b k=(jj T t op a b some).bind k:=by
 unfold jj;split
 ·split
  ·exact al k
  ·exact al k
  ·split
   ·exact pk k
   ·rfl
 ·exact pc k
 ·split
  ·split
   ·split<;>rfl
   ·rfl
  ·rfl
 ·split<;>rfl
 ·rfl
theorem jV{op:UnOp}{a:XV}(k:AV→Option Y):unX op a k=(unX op a some).bind k:=by
 unfold unX;split<;>rfl
theorem T4{g:Bool}{a b:XV}(k:AV→Option Y):ia g a b k=(ia g a b some).bind k:=by
 unfold ia;split
 ·split
  ·cases g<;>rfl
  ·rfl
 ·rfl
theorem Ie{len:Nat}{lo hi:Option XV}(k:Nat→Nat→Option Y):KR len lo hi k=(KR len lo hi fun l h=>some (l,h)).bind fun p=>k p.1 p.2:=by
 unfold KR;dsimp only;split
 ·split<;>rfl
 ·rfl
theorem lh{T:G8}{t:Nat}{σ:St}{x:XV}{lo hi:Option XV}(k:K Y):aD T t σ x lo hi k=(aD T t σ x lo hi k0).bind fun p=>k p.1 p.2:=by
 unfold aD;split
 ·split
  ·rw[Ie,Ie (Y:=XV×St),AJp];rfl
  ·rfl
 ·split
  ·rw[Ie,Ie (Y:=XV×St),AJp];rfl
  ·rfl
 ·split
  ·split
   ·rw[Ie,Ie (Y:=XV×St),AJp];rfl
   ·rfl
  ·rfl
 ·rfl
theorem lq{T:G8}{t:Nat}{σ:St}{x i:XV}(k:K Y):Z8 σ T t x i k=(Z8 σ T t x i k0).bind fun p=>k p.1 p.2:=by
 unfold Z8;split
 ·split
  ·split<;>rfl
  ·rfl
 ·split
  ·split
   ·split<;>rfl
   ·rfl
  ·rfl
 ·split
  ·split
   ·split<;>rfl
   ·rfl
  ·rfl
 ·rfl
theorem fg{T:G8}{t:Nat}{σ:St}{x i:XV}(k:K Y):Qs T t σ x i k=(Qs T t σ x i k0).bind fun p=>k p.1 p.2:=by
 unfold Qs;split
 ·split
  ·split<;>rfl
  ·rfl
 ·rfl
theorem pe{T:G8}{s d:Nat}{σ:St}{x:XV}(k:K Y):gi T s d σ x k=(gi T s d σ x k0).bind fun p=>k p.1 p.2:=by
 unfold gi;split
 ·rfl
 ·rfl
 ·split
  ·split<;>rfl
  ·rfl
 ·split<;>rfl
 ·rfl
theorem oJ{T:G8}{t:Nat}{σ:St}{l c:XV}(k:K Y):iE T t σ l c k=(iE T t σ l c k0).bind fun p=>k p.1 p.2:=by
 unfold iE;split
 ·split
  ·split
   ·split<;>rfl
   ·rfl
  ·rfl
 ·rfl
theorem bg{T:G8}{t n:Nat}{ps:List (Nat×XV)}{σ:St}(k:K Y):ME T t n ps σ k=(ME T t n ps σ k0).bind fun p=>k p.1 p.2:=by
 unfold ME;split
 ·split
  ·split
   ·rw[AJp];rfl
   ·rfl
  ·rfl
 ·rfl
theorem kZ{T:G8}{ts:Array TypeId}{σ:St}{a x:XV}(k:K Y):Wl T ts σ a x k=(Wl T ts σ a x k0).bind fun p=>k p.1 p.2:=by
 unfold Wl;split
 ·split
  ·split
   ·rw[AJp]
    congr 1;funext s
    split
    ·split<;>rfl
    ·rfl
   ·rw[AJp]
    congr 1;funext s
    split
    ·rw[AJp]
     congr 1;funext q
     rw[AJp];congr 1;funext z;split<;>rfl
    ·rfl
   ·rfl
  ·rfl
 ·rfl
theorem mE{T:G8}{ts:Array TypeId}{σ:St}{x:XV}(k:K Y):Zm T ts σ x k=(Zm T ts σ x k0).bind fun p=>k p.1 p.2:=by
 unfold Zm;split
 ·split
  ·split<;>rfl
  ·rfl
 ·rfl
theorem gm{c:O2}{xs:List XV}{σ:St}(k:K Y):bD c xs σ k=(bD c xs σ k0).bind fun p=>k p.1 p.2:=by
 unfold bD;split
 ·split
  ·rw[AJp];rfl
  ·rfl
 ·rfl
theorem kY{σ:St}{x:XV}(k:K Y):Uk σ x k=(Uk σ x k0).bind fun p=>k p.1 p.2:=by
 unfold Uk;split
 ·rw[AJp];rfl
 ·rfl
theorem gX{T:G8}{Γ:Nat→Option O2}{o:Oper}{σ:St}(k:K Y):Q9 T Γ o σ k=(Q9 T Γ o σ k0).bind fun p=>k p.1 p.2:=by
 unfold Q9;split
 ·rfl
 ·exact kY k
 ·split
  ·rename_i x _
   cases x<;>rfl
  ·rfl
 ·split<;>rfl
 ·split
  ·split<;>rfl
  ·rfl
 ·split
  ·split<;>rfl
  ·rfl
 ·exact bg k
 ·split<;>rfl
 ·split
  ·split
   ·split<;>rfl
   ·rfl
  ·rfl
 ·split<;>rfl
 ·rw[fO,fO (Y:=XV×St),AJp];rfl
 ·rw[jV,jV (Y:=XV×St),AJp];rfl
 ·exact pe k
 ·split
  ·split<;>rfl
  ·rfl
 ·exact oJ k
 ·exact lh k
 ·split<;>rfl
 ·split<;>rfl
 ·exact lq k
 ·exact fg k
 ·split<;>rfl
 ·split
  ·split
   ·exact gm k
   ·rfl
  ·split
   ·exact gm k
   ·rfl
  ·rfl
 ·split
  ·split<;>rfl
  ·split
   ·split<;>rfl
   ·rfl
  ·rfl
 ·split
  ·exact kZ k
  ·rfl
 ·split
  ·exact mE k
  ·rfl
 ·split
  ·rw[T4,T4 (Y:=XV×St),AJp];rfl
  ·rfl
 ·split
  ·rw[T4,T4 (Y:=XV×St),AJp];rfl
  ·rfl
 ·rfl
theorem Zu{I:Type}[Nonempty I]{T:G8}{Γ:Nat→Option O2}{o:Oper}{σ:St}{k:I→K Y}{y:Y}(h:∀i,Q9 T Γ o σ (k i)=some y):∃x σ',Q9 T Γ o σ k0=some (x,σ')∧ ∀i,k i x σ' =some y:=by
 obtain⟨i0⟩:= ‹Nonempty I›;have h0:=h i0;rw[gX]at h0;rw[AHL]at h0;obtain⟨⟨x,σ'⟩,h1,h2⟩:=h0;refine⟨x,σ',h1,fun i=> ?_⟩;have:=h i;rw[gX,h1]at this;exact this
end
end Go.Fw
end
section
namespace Go.Fw
def WF{α:Type}(P:Program)(s:Sem α):Prop:= ∀w v w1,s.run P w= .ok v w1→ ∀w',s.run P w' = .ok v w'
section
variable{α β:Type} {P:Program}
theorem WF.pure(x:α):WF P (Pure.pure x:Sem α):=fun w v w1 h w' =>by
 simp only[Sem.run_pure,Result.ok.injEq]at h⊢;exact⟨h.1,trivial⟩
theorem WF.bind{s:Sem α}{f:α→Sem β}(h:WF P s)(k:∀v,WF P (f v)):WF P (s >>= f):=fun w v w1 e w' =>by
 rw[Sem.run_bind]at e⊢;cases hs:s.run P w with
 |ok u w2=>
  rw[hs]at e;simp only[Result.andThen_ok]at e;rw[h w u w2 hs w'];simp only[Result.andThen_ok];exact k u w2 v w1 e w'
 |halt x w2=>
  rw[hs]at e;simp[Result.andThen]at e
theorem WF.halt(x:Halt):WF P (.halt x:Sem α):=fun w v w1 e w' =>by simp[Sem.run]at e
theorem WF.program:WF P program:=fun w v w1 e w' =>by
 rw[run_program]at e⊢;cases e;rfl
theorem WF.typeInfo(t:TypeId):WF P (typeInfo t):=WF.bind WF.program fun p=>by
 split
 ·exact WF.pure _
 ·exact WF.halt _
theorem WF.underlying(t:TypeId):WF P (underlying t):=WF.bind WF.program fun p=>by
 split
 ·exact WF.pure _
 ·exact WF.halt _
theorem WF.sizeOf(t:TypeId):WF P (Go.sizeOf t):=WF.bind (WF.typeInfo t) fun _=>WF.pure _
theorem WF.isAgg(t:TypeId):WF P (isAgg t):=WF.bind (WF.underlying t) fun d=>by
 split<;>exact WF.pure _
theorem WF.zeroValue(t:TypeId):WF P (zeroValue t):=WF.bind (WF.typeInfo t) fun i=>by
 split
 ·exact WF.pure _
 ·exact WF.halt _
theorem WF.asIntOf(v:Value):WF P (asIntOf v):=by
 unfold Go.asIntOf;split
 ·exact WF.pure _
 ·exact WF.halt _
 ·exact WF.halt _
theorem WF.asBool(v:Value):WF P (asBool v):=by
 unfold Go.asBool;split
 ·exact WF.pure _
 ·exact WF.halt _
theorem WF.asAgg(v:Value):WF P (asAgg v):=by
 unfold Go.asAgg;split
 ·exact WF.pure _
 ·exact WF.halt _
theorem WF.sureAddr(v:Value):WF P (Instr.sureAddr v):=by
 unfold Instr.sureAddr;split
 ·exact WF.pure _
 ·exact WF.halt _
theorem WF.kg{s:Sem α}(h:∀w v w1,s.run P w≠ .ok v w1):WF P s:=fun w v w1 e=>absurd e (h w v w1)
theorem Rh{s:Sem α}{f:α→Sem β}(h:∀x w v w1,(f x).run P w≠ .ok v w1):∀w v w1,(s >>= f).run P w≠ .ok v w1:=fun w v w1 e=>by
 rw[Sem.run_bind]at e;cases hs:s.run P w with
 |ok u w2=>rw[hs]at e;exact h u w2 v w1 e
 |halt x w2=>rw[hs]at e;simp[Result.andThen]at e
theorem Xm(x:Halt):∀w v w1,(.halt x:Sem α).run P w≠ .ok v w1:=fun w v w1 e=>by simp[Sem.run]at e
theorem aZ(e:RuntimeError):∀w v w1,(runtimePanic e:Sem α).run P w≠ .ok v w1:=by
 unfold runtimePanic;refine Rh fun p=> ?_
 dsimp only;split<;>first
  |exact Xm _
  |exact Rh fun _=>Rh fun _=>Xm _
  |exact Rh fun _=>Xm _
theorem WF.bounds(k:IntKind)(x y:Int)(c:BoundsCode):WF P (boundsPanic k x y c:Sem α):=WF.kg (by
 unfold boundsPanic;dsimp only;split<;>exact Rh fun _=>aZ _)
theorem WF.part(t:TypeId)(cs:Array Value)(o:Nat):WF P (part t cs o):=WF.bind (WF.isAgg t) fun b=>by
 split
 ·exact WF.bind (WF.sizeOf t) fun _=>WF.pure _
 ·split
  ·exact WF.pure _
  ·exact WF.halt _
theorem WF.field(t:TypeId)(x:Value)(f:Nat):WF P (Instr.field t x f):=WF.bind (WF.underlying t) fun d=>by
 split
 ·split
  ·exact WF.bind (WF.asAgg x) fun _=>WF.part _ _ _
  ·exact WF.halt _
 ·exact WF.halt _
theorem WF.indexAt(t:TypeId)(x i:Value):WF P (Instr.indexAt t x i):=WF.bind (WF.asIntOf i) fun q=>by
 obtain⟨k,i⟩:=q;dsimp only;refine WF.bind (WF.underlying t) fun d=> ?_
 have rest:∀q:Option Addr×Nat×TypeId,WF P (do
   let d←Go.underlying t
   match q.1 with
   |some a=>
    if 0≤i∧i<(q.2.1:Int)then do
     let s←Go.sizeOf q.2.2
     Pure.pure (Value.pointer (some (a.add (i.toNat*s))))
    else if(decide (q.2.1≤1)&&(match d with| .array .. =>true|_=>false))=true then unsupported (.noEntry "op/indexAddr.an index out of range at an array of length 0 or 1 (ledger 616)")
    else boundsPanic k i q.2.1 .index
   |none=>boundsPanic k i 0 .index:Sem Value):=fun q=>by
  refine WF.bind (WF.underlying t) fun d=> ?_
  split
  ·split
   ·exact WF.bind (WF.sizeOf _) fun _=>WF.pure _
   ·repeat' split
    all_goals first|exact WF.halt _|exact WF.bounds _ _ _ _
  ·exact WF.bounds _ _ _ _
 split
 ·exact WF.bind (WF.sureAddr _) fun _=>WF.bind (WF.pure _) fun q=>rest q
 ·exact WF.bind (WF.pure _) fun q=>rest q
 ·exact WF.bind (WF.halt _) fun q=>rest q
theorem WF.index(t:TypeId)(x i:Value):WF P (Instr.index t x i):=WF.bind (WF.asIntOf i) fun q=>by
 obtain⟨k,i⟩:=q;dsimp only;refine WF.bind (WF.underlying t) fun d=> ?_
 split
 ·split
  ·exact WF.bind (WF.sizeOf _) fun _=>WF.part _ _ _
  ·exact WF.bounds _ _ _ _
 ·split
  ·exact WF.pure _
  ·exact WF.bounds _ _ _ _
 ·exact WF.halt _
theorem WF.extract(x:Value)(i:Nat):WF P (Instr.extract x i):=by
 unfold Instr.extract;split
 ·split
  ·exact WF.pure _
  ·exact WF.halt _
 ·exact WF.halt _
theorem WF.sliceBound(x:Value)(y:Nat)(c:BoundsCode):WF P (Instr.sliceBound x y c):=WF.bind (WF.asIntOf x) fun q=>by
 obtain⟨k,i⟩:=q;dsimp only;split
 ·exact WF.pure _
 ·exact WF.bounds _ _ _ _
theorem WF.sliceBounds(b:Bool)(len cap:Nat)(l h:Option Value):WF P (Instr.sliceBounds b len cap l h none):=by
 cases h with
 |none=>
  cases l with
  |none=>exact WF.bind (WF.pure _) fun _=>WF.bind (WF.pure _) fun _=>WF.bind (WF.pure _) fun _=>WF.pure _
  |some l=>exact WF.bind (WF.pure _) fun _=>WF.bind (WF.pure _) fun _=>WF.bind (WF.sliceBound _ _ _) fun _=>WF.pure _
 |some h=>
  cases l with
  |none=>exact WF.bind (WF.pure _) fun _=>WF.bind (WF.sliceBound _ _ _) fun _=>WF.bind (WF.pure _) fun _=>WF.pure _
  |some l=>exact WF.bind (WF.pure _) fun _=>WF.bind (WF.sliceBound _ _ _) fun _=>WF.bind (WF.sliceBound _ _ _) fun _=>WF.pure _
theorem WF.asAddr(v:Value):WF P (asAddr v):=by
 unfold Go.asAddr;split
 ·exact WF.pure _
 ·exact WF.kg (aZ _)
 ·exact WF.halt _
theorem WF.slice(t:TypeId)(x:Value)(l h:Option Value):WF P (Instr.slice t x l h none):=WF.bind (WF.underlying t) fun d=>by
 split
 ·exact WF.bind (WF.sliceBounds _ _ _ _ _) fun _=>WF.pure _
 ·exact WF.bind (WF.sliceBounds _ _ _ _ _) fun _=>WF.bind (WF.sizeOf _) fun _=>WF.pure _
 ·refine WF.bind (WF.asAddr _) fun _=>WF.bind (WF.underlying _) fun d=> ?_
  split
  ·exact WF.bind (WF.sliceBounds _ _ _ _ _) fun _=>WF.bind (WF.sizeOf _) fun _=>WF.pure _
  ·exact WF.halt _
 ·exact WF.halt _
theorem WF.sliceAt(t:TypeId)(x:Value)(l h:Option Value):WF P (Instr.sliceAt t x l h none):=WF.bind (WF.underlying t) fun d=>by
 split
 ·exact WF.bind (WF.sureAddr _) fun _=>WF.bind (WF.sliceBounds _ _ _ _ _) fun _=>WF.bind (WF.sizeOf _) fun _=>WF.pure _
 ·exact WF.slice _ _ _ _
theorem WF.gd{f:α→Sem β}(h:∀x,WF P (f x)):∀l:List α,WF P (l.mapM f)
 |[]=>WF.pure _
 |x::l=>by
  rw[AMV];exact WF.bind (h x) fun _=>WF.bind (WF.gd h l) fun _=>WF.pure _
theorem WF.mapM{f:α→Sem β}(h:∀x,WF P (f x))(a:Array α):WF P (a.mapM f):=by
 rw[Array.mapM_eq_mapM_toList,←bind_pure_comp];exact WF.bind (WF.gd h _) fun _=>WF.pure _
theorem WF.build(t:TypeId)(ps:Array (Nat×Value)):WF P (Instr.build t ps):=WF.bind (WF.zeroValue t) fun z=>by
 refine WF.bind (WF.underlying t) fun d=> ?_
 split
 ·refine WF.bind (WF.mapM (fun f=>WF.bind (WF.sizeOf _) fun _=>WF.pure _) _) fun _=> ?_
  split
  ·exact WF.pure _
  ·exact WF.halt _
 ·refine WF.bind (WF.sizeOf _) fun _=> ?_
  split
  ·exact WF.pure _
  ·exact WF.halt _
 ·exact WF.halt _
end
end Go.Fw
end
section
namespace Go.Fw
def Kof(hint:AAz)(E:Env)(w:World)(bx:List Bx)(c:Nat):Prop:=E.T c∨ ∃n B,n∈hint∧bx[n]? =some B∧lS E w n B c
def ef(K:Nat→Prop)(w w':World):Prop:= ∀c,K c→w'.heap[c]? =w.heap[c]?
theorem nI{w:World}{B:Nat→Prop}:∀{p:List bE} {r:Ty} {h:Value} {rows:List r.D} {q:Ty} {ys:List q.D} {bb o len cap i:Nat},Rd w B (.sl r) [h] rows→CI r rows p→Ee r rows p=some ⟨q,ys⟩→
  Gt w h p=some (.slice (some ⟨bb,o,none⟩) len cap)→i<ys.length→RB w (.sl r) [h] rows bb
 |[],r,h,rows,q,ys,bb,o,len,cap,i,hr,hp,hg,hh,hi=>by
  rw[B6]at hh;cases hh;simp only[Ee,AG9,AIx]at hg;obtain⟨rfl,hg⟩:=hg;obtain rfl:=AJE hg;simp only[RB];exact⟨bb,o,len,cap,rfl,by omega,.inl rfl⟩
 |s::p,r,h,rows,q,ys,bb,o,len,cap,i,hr,hp,hg,hh,hi=>by
  simp only[CI]at hp;obtain⟨hsi,LJ,hp⟩:=hp;simp only[Rd]at hr;obtain⟨a,cap',e1,_,hr⟩:=hr;obtain rfl:=(List.cons.inj e1).1;rcases hr with hr|⟨b',o',rfl,hb,hr⟩
  ·omega
  obtain⟨cs,hl,hc,hrow⟩:=hr s.i _ (MS hsi);simp only[Ee]at hg;split at hg
  case h_2=>cases hg
  rename_i q' x V5;rw[V5]at hp;dsimp only at hp;obtain⟨v,hv,hrv⟩:=Wi hrow V5;have hcv:=hc _ _ hv;rw[←LJ]at hcv;simp only[Gt,hcv]at hh;have:=nI hrv hp hg hh hi;simp only[RB];refine⟨b',o',_,cap',rfl,by omega,.inr ⟨s.i,_,cs,MS hsi,hl,hc,?_⟩⟩;clear hc hcv e1 hr;exact RB_cell hrow V5 hv this
where
 RB_cell {w:World} {B:Nat→Prop} {c:Nat}:∀{r:Ty} {cs:List Value} {x:r.D} {j:Nat} {t:Ty} {y:t.D} {v:Value},Rd w B r cs x→Ai r j x=some ⟨t,y⟩→cs[j]? =some v→RB w t [v] y c→RB w r cs x c
 | .cons c r,cs,x,0,t,y,v,h,e,hv,k=>by
  simp only[Rd]at h;obtain⟨u,l,rfl,h1,h2⟩:=h;simp only[Ai,AG9,AIx]at e;obtain⟨rfl,e⟩:=e;obtain rfl:=AJE e;simp at hv;subst hv;simp only[RB];exact⟨u,l,rfl,.inl k⟩
 | .cons c r,cs,x,j+1,t,y,v,h,e,hv,k=>by
  simp only[Rd]at h;obtain⟨u,l,rfl,h1,h2⟩:=h;simp only[Ai]at e;have:=RB_cell h2 e (by simpa using hv) k;simp only[RB];exact⟨u,l,rfl,.inr this⟩
 | .int k,cs,x,0,t,y,v,h,e,hv,k' =>by
  simp only[Ai,AG9,AIx]at e;obtain⟨rfl,_⟩:=e;simp[RB]at k'
 | .bool,cs,x,0,t,y,v,h,e,hv,k' =>by
  simp only[Ai,AG9,AIx]at e;obtain⟨rfl,_⟩:=e;simp[RB]at k'
 | .str,cs,x,0,t,y,v,h,e,hv,k' =>by
  simp only[Ai,AG9,AIx]at e;obtain⟨rfl,_⟩:=e;simp[RB]at k'
 | .sl r,cs,x,0,t,y,v,h,e,hv,k=>by
  simp only[Ai,AG9,AIx]at e;obtain⟨rfl,e⟩:=e;obtain rfl:=AJE e;have hl:=aP h;simp only[Ty.n]at hl;obtain⟨u,rfl⟩:=List.length_eq_one_iff.1 hl;simp at hv;subst hv;exact k
 | .unit,_,_,_,_,_,_,_,e,_,_=>by simp[Ai]at e
 | .int _,_,_,_+1,_,_,_,_,e,_,_=>by simp[Ai]at e
 | .bool,_,_,_+1,_,_,_,_,e,_,_=>by simp[Ai]at e
 | .str,_,_,_+1,_,_,_,_,e,_,_=>by simp[Ai]at e
 | .sl _,_,_,_+1,_,_,_,_,e,_,_=>by simp[Ai]at e
section
variable{P:Program} {T:G8} (hT:Dd P T) {E:Env} {w:World}
include hT
theorem gr{σ:St}{Fs:List AAz}(hB:JV E w σ.bx σ.bx Fs)(st:∀c,E.S c→E.T c){t:Nat}{x:AV}{z:XV}(e:aq T t σ (.c x)=some z){v:Value}(hx:VR E w σ.bx x v):
  ∃bb oo u y,v= .pointer (some ⟨bb,oo,none⟩)∧Gm σ.bx x 0=some y∧XR E w σ.bx z u∧ ∀w',w'.heap[bb]? =w.heap[bb]?→(Instr.loadAt t v).run P w' = .ok u w':=by
 unfold aq at e;split at e
 case h_2=>cases e
 rename_i x' ti lT Mv;cases lT;split at e
 case isTrue=>cases e
 rename_i LJ;have Yl:=fun w=>Dd.isAgg hT Mv w
 split at e
 ·rename_i ha
  simp only[AHF]at e;obtain⟨l,hl,rfl⟩:=e;obtain⟨h1,h2⟩:=U4 hl;have h0:0<l.length:=by omega
  obtain⟨b,o,u,hv,_,_⟩:=IQ hB st (h2 0 _ (AG7 h0)) hx;obtain⟨cs,c1,c2,c3⟩:=Vp hB st hx hv (l:=l) (j:=0) (fun i y hy=>by simpa using h2 i y hy);subst hv;have Yy:=(hT t ti Mv).qz;cases hd:ti.desc with
  |st fs=>
   rw[hd]at Yy;obtain⟨fields,hu,_⟩:=Yy;refine⟨b,o,.agg cs.toArray,_,rfl,by simpa using h2 0 _ (AG7 h0),⟨cs.toArray,rfl,by simpa using c3⟩,fun w' hw=>run_loadAt_mid w' b o t cs _ (by have:=c2.of_block hw;simpa[Bp,World.rangeAt]using this) hu rfl ?_⟩;rw[Dd.size hT Mv,c1,h1]
  |_=>rw[hd]at ha;simp[TD.agg]at ha
 ·rename_i ha
  simp only[AI9]at ha;simp only[AHF]at e;obtain⟨y,hy,rfl⟩:=e;obtain⟨b,o,u,hv,hc,hr⟩:=IQ hB st hy hx;subst hv;refine⟨b,o,u,y,rfl,hy,hr,fun w' hw=> ?_⟩;have ABF:=Yl w';rw[ha]at ABF;simp only[ALW]at hc;have XI:w'.cell? ⟨b,o,none⟩=some u:=by rw[World.cell?_of_block (a:=⟨b,o,none⟩) hw];exact hc
  simp[Instr.loadAt,Instr.sureAddr,loadVar,ABF,XI]
end
theorem kX{E E':Env}{w w':World}{vw vw':List Bx}{t:Ty}{x:t.D}{v:Value}(h:VR E w vw (.v t x) v):VR E' w' vw' (.v t x) v:=by
 obtain⟨h1,h2⟩:=h;refine⟨h1,?_⟩;cases t<;>simp_all[Ty.scalar,Rd]
theorem YK{E E':Env}{w w':World}{vw vw':List Bx}{t:Ty}{x:t.D}{v u:Value}(h:VR E w vw (.v t x) v)(k:VR E' w' vw' (.v t x) u):v=u:=by
 obtain⟨h1,h2⟩:=h;obtain⟨_,k2⟩:=k;cases t<;>simp_all[Ty.scalar,Rd]
def aI(x:XV):Prop:=(∃t z,x= .c (.v t z))∨(∃l,x= .agg l∧ ∀c∈l,∃t z,c= .v t z)
theorem I7{E E':Env}{w w':World}{vw vw':List Bx}{x:XV}{v:Value}(hp:aI x)(h:XR E w vw x v):XR E' w' vw' x v:=by
 rcases hp with⟨t,z,rfl⟩|⟨l,rfl,hl⟩
 ·exact kX (E:=E) (w:=w) (vw:=vw) (E':=E') (w':=w') (vw':=vw') h
 ·obtain⟨vs,rfl,RI⟩:=h
  refine⟨vs,rfl,?_⟩
  generalize vs.toList=m at RI
  induction l generalizing m with
  |nil=>cases m with
   |nil=>trivial
   |cons _ _=>exact RI.elim
  |cons c l ih=>cases m with
   |nil=>exact RI.elim
   |cons u m=>
    obtain⟨t,z,rfl⟩:=hl c (by simp);exact⟨kX RI.1,ih (fun c hc=>hl c (by simp[hc])) m RI.2⟩
theorem iR{d:TD}{x z:AV}{p:Bool}(e:eN d x z=some p):(∃t y,x= .v t y)∧ ∃t y,z= .v t y:=by
 unfold eN at e;split at e
 ·exact⟨⟨_,_,rfl⟩,_,_,rfl⟩
 ·exact⟨⟨_,_,rfl⟩,_,_,rfl⟩
 ·exact⟨⟨_,_,rfl⟩,_,_,rfl⟩
 ·cases e
theorem S1{T:G8}:∀{i:Nat} {fs:List ABR} {l m:List AV} {r:Bool},Hy T i fs l m=some r→(∀c∈l,∃t z,c= .v t z)∧ ∀c∈m,∃t z,c= .v t z
 |i,[],[],[],r,e=>by simp
 |i,(o,t)::fs,x::l,z::m,r,e=>by
  simp only[Hy]at e;split at e
  case isFalse=>cases e
  split at e
  case h_2=>cases e
  split at e
  case h_2=>cases e
  rename_i p hp;simp only[AHF]at e;obtain⟨r',e1,_⟩:=e;obtain⟨a1,a2⟩:=iR hp;obtain⟨b1,b2⟩:=S1 e1;exact⟨fun c hc=>(AI5.1 hc).elim (fun e=>e▸a1) (b1 c),fun c hc=>(AI5.1 hc).elim (fun e=>e▸a2) (b2 c)⟩
 |_,[],[],_::_,_,e=>by simp[Hy]at e
 |_,[],_::_,_,_,e=>by simp[Hy]at e
 |_,_::_,[],_,_,e=>by simp[Hy]at e
 |_,_::_,_::_,[],_,e=>by simp[Hy]at e
theorem tY{op:BinOp}{κ:IntKind}{a b:Int}{r:AV}(e:XG op κ a b some=some r):∃t x,r= .v t x:=by
 cases op<;>simp only[XG,AG9]at e<;>first
  |exact⟨_,_,e.symm⟩
  |(
   split at e
   ·cases e
   ·cases e;exact⟨_,_,rfl⟩)
  |cases e
theorem gp{op:BinOp}{κ:IntKind}{a b:Int}{r:AV}(e:SJ op κ a b some=some r):∃t x,r= .v t x:=by
 unfold SJ at e;split at e
 ·cases e
 ·cases op<;>simp only[AG9]at e<;>first
   |exact⟨_,_,e.symm⟩
   |cases e
theorem tT{op:BinOp}{a b:AA_}{r:AV}(e:Yk op a b some=some r):∃t x,r= .v t x:=by
 cases op<;>simp only[Yk,AG9]at e<;>first
  |exact⟨_,_,e.symm⟩
  |(
   split at e
   ·cases e;exact⟨_,_,rfl⟩
   ·cases e)
  |cases e
theorem AEU{T:G8}{t:Nat}{op:BinOp}{a b:XV}{r:AV}(e:jj T t op a b some=some r):(∃t x,r= .v t x)∧aI a∧aI b:=by
 unfold jj at e;split at e
 ·refine⟨?_,.inl ⟨_,_,rfl⟩,.inl ⟨_,_,rfl⟩⟩
  split at e
  ·exact gp e
  ·exact gp e
  ·split at e
   ·exact tY e
   ·cases e
 ·exact⟨tT e,.inl ⟨_,_,rfl⟩,.inl ⟨_,_,rfl⟩⟩
 ·refine⟨?_,.inl ⟨_,_,rfl⟩,.inl ⟨_,_,rfl⟩⟩
  split at e
  ·split at e
   ·split at e
    ·cases e;exact⟨_,_,rfl⟩
    ·cases e;exact⟨_,_,rfl⟩
    ·cases e
   ·cases e
  ·cases e
 ·split at e
  ·rename_i hq
   rw[AHL]at hq;obtain⟨fs,_,hq⟩:=hq;obtain⟨q1,q2⟩:=S1 hq;cases e;exact⟨⟨_,_,rfl⟩,.inr ⟨_,rfl,q1⟩,.inr ⟨_,rfl,q2⟩⟩
  ·rename_i hq
   rw[AHL]at hq;obtain⟨fs,_,hq⟩:=hq;obtain⟨q1,q2⟩:=S1 hq;cases e;exact⟨⟨_,_,rfl⟩,.inr ⟨_,rfl,q1⟩,.inr ⟨_,rfl,q2⟩⟩
  ·cases e
 ·cases e
theorem sk{g:Bool}{a b:XV}{r:AV}(e:ia g a b some=some r):(∃t x,r= .v t x)∧aI a∧aI b:=by
 unfold ia at e;split at e
 ·refine⟨?_,.inl ⟨_,_,rfl⟩,.inl ⟨_,_,rfl⟩⟩
  split at e
  ·cases g<;>(cases e;exact⟨_,_,rfl⟩)
  ·cases e
 ·cases e
theorem AHZ{op:UnOp}{a:XV}{r:AV}(e:unX op a some=some r):(∃t x,r= .v t x)∧aI a:=by
 unfold unX at e;split at e
 ·cases e;exact⟨⟨_,_,rfl⟩,.inl ⟨_,_,rfl⟩⟩
 ·cases e;exact⟨⟨_,_,rfl⟩,.inl ⟨_,_,rfl⟩⟩
 ·cases e
section
variable{Y:Type} {P:Program} {T:G8} (hT:Dd P T) {Γ:Nat→Option O2} {o:Oper} {E:Env} {σ:St} {a:Act} {w:World} {k:K Y} {y:Y}
include hT
theorem o6(h:Rel E σ a w){t:TypeId}(ps:Array (Nat×Operand)){s b:Nat}{fs:List ABR}{rw:Option Ty}(Mv:T.get t=some ⟨s,b,.st fs,rw⟩){r:Ty}(hr:T.Yt t=some r)
  {cs:List AV} (hb:YC T fs (U6 r) (ps.toList.map fun q=>(q.1,σ.ev q.2))=some cs):
  ∃Jd,(∀w',(Instr.build t (ps.map fun(i,x)=>(i,a.eval x))).run P w' = .ok (.agg Jd) w')∧YM E w σ.bx cs Jd.toList:=by
 obtain⟨i,z,h1,h2,h3,_⟩:=row_zero hT hr;obtain⟨fields,hu,hfs,LJ⟩:=vH hT Mv;obtain⟨Jd,f1,f2⟩:=Uq hT (dD h ps) (arr:=z.cells) (by rw[h3];exact SH r) hb;refine⟨Jd,fun w' => ?_,f2⟩;have hb:P.built t (ps.map fun(i,x)=>(i,a.eval x)).toList=some Jd:=by
  unfold Program.built;simp only[h1,hu,h2];have hm:fields.toList.mapM (fun f=>(P.info? f.type).map fun i=>(f.offset,i.size))=some (fields.toList.map fun f=>(f.offset,((P.info? f.type).map (·.size)).getD 0)):=by
   refine eP fun f hf=> ?_
   obtain⟨i',DW,_⟩:=LJ f hf;simp[DW]
  simp only[hm];rw[←f1];congr 1;funext n;subst hfs;simp only[List.getElem?_toArray,AJG];cases hn:fields.toList[n]? with
  |none=>simp
  |some f=>
   obtain⟨i',DW,_⟩:=LJ f (AIv hn);simp[DW]
 exact run_build (P:=P) w' t (ps.map fun(i,x)=>(i,a.eval x)) Jd hb
theorem lg{hint:AAz}(h:Rel E σ a w)(hq:ZL hint σ o.op=true)(e:Q9 T Γ o σ k=some y):
  ∃v x,XR E w σ.bx x v∧k x σ=some y∧ ∀w',ef (Kof hint E w σ.bx) w w'→(execOp a.eval o).run P w' = .ok (.value v) w':=by
 obtain⟨Fs,hB,hS⟩:=h.bx;have st:=hS.st;have wf:∀{s:Sem Value} {v:Value},WF P s→s.run P w= .ok v w→ ∀w',s.run P w' = .ok v w':=fun h1 h2 w' =>h1 w _ w h2 w'
 unfold Q9 at e;split at e
 ·rename_i x ho
  exact⟨a.eval x,_,h.ev x,e,fun w' _=>by simp only[execOp,ho,Sem.run_pure]⟩
 ·rename_i x ho
  unfold Uk at e;split at e
  ·rename_i hx
   rw[ho]at hq;simp only[ZL,hx]at hq;cases hq
  ·exact⟨a.eval x,_,h.ev x,e,fun w' _=>by simp only[execOp,ho,Sem.run_pure]⟩
 ·rename_i c xa xb ho
  split at e
  case h_2=>cases e
  rename_i p hp;have hc:=h.ev c;rw[hp]at hc;have XI:=M1 (E:=E) (w:=w) (vw:=σ.bx) hc;refine⟨if p then a.eval xa else a.eval xb,if p then σ.ev xa else σ.ev xb,by cases p<;>simp[h.ev],by cases p<;>simpa[rK]using e,fun w' _=>by simp[execOp,ho,XI,asBool]⟩
 ·rename_i t ho;rw[ho]at hq;cases hq
 ·rename_i t x ho;rw[ho]at hq;cases hq
 ·rename_i t ps ho
  split at e
  case h_2=>cases e
  rename_i s b fs rw r Mv hr;split at e
  case h_2=>cases e
  rename_i cs qN;obtain⟨Jd,h1,h2⟩:=o6 hT h ps Mv hr qN;exact⟨.agg Jd,.agg cs,⟨Jd,rfl,h2⟩,e,fun w' _=>by simp only[execOp,ho,Sem.run_bind,h1 w',Result.andThen_ok,Sem.run_pure]⟩
 ·rename_i t n ps ho;rw[ho]at hq;cases hq
 ·rename_i t x ho
  rw[ho]at hq;split at e
  case h_2=>cases e
  rename_i z hz;have hv:=h.ev x;simp only[ZL]at hq
  generalize hX:σ.ev x=X at hq hv hz
  cases X with
  |agg l=>cases hq
  |Ju l=>cases hq
  |c ad=>
   obtain⟨bb,oo,u,cell,hp,hc,h2,h3⟩:=gr hT hB st hz hv;refine⟨u,z,h2,e,fun w' hw' => ?_⟩;have s9:w'.heap[bb]? =w.heap[bb]?:=by
    refine hw' bb ?_
    have VM:VR E w σ.bx ad (a.eval x):=hv;cases ad with
    |FY b j=>
     simp only[Xu,AMJ]at hq;simp only[Gm]at hc;split at hc
     ·rename_i cs hb
      refine .inr ⟨b,_,hq,hb,?_⟩;have:=VM.2;rw[hp]at this;simp only[Value.pointer.injEq,AG9,Addr.mk.injEq]at this;exact this.1
     ·cases hc
    |Gd b p i sz j=>
     simp only[Xu,AMJ]at hq;simp only[Gm]at hc;split at hc
     ·rename_i d q rows hb
      refine .inr ⟨b,_,hq,hb,?_⟩;simp only[VR,hb]at VM;obtain⟨_,hpp,q1,ys,b2,o2,len,cap,g1,g2,g3,g4⟩:=VM;rw[hp]at g4;simp only[Value.pointer.injEq,AG9,Addr.mk.injEq]at g4;obtain⟨rfl,_⟩:=g4;obtain⟨F,⟨_,ho2⟩,_⟩:=hB.get hb;exact nI (SV ho2) hpp g1 g3 g2
     ·cases hc
    |KB s r z j=>
     obtain⟨b2,o2,cs,g1,g2,_⟩:=VM;rw[hp]at g1;simp only[Value.pointer.injEq,AG9,Addr.mk.injEq]at g1;obtain⟨rfl,_⟩:=g1
     left
     cases s with
     |true=>exact st _ (by simpa using g2)
     |false=>simpa using g2
    |_=>cases hq
   simp only[execOp,ho,Sem.run_bind,h3 w' s9,Result.andThen_ok,Sem.run_pure]
 ·rename_i t xa xx ho;rw[ho]at hq;cases hq
 ·rename_i x ho
  have hx:=h.ev x;split at e
  ·rename_i b j hp
   rw[hp]at hx;have lT:b<σ.bx.length∧a.eval x= .pointer (some ⟨E.Ff b,j,none⟩):=hx;exact⟨a.eval x,_,hx,e,fun w' _=>by simp only[execOp,ho,lT.2,Sem.run_pure]⟩
  ·rename_i b p i sz j hp
   rw[hp]at hx;have qc:VJ (a.eval x)=true:=hx.1;refine⟨a.eval x,_,hx,e,fun w' _=> ?_⟩;unfold VJ at qc;split at qc
   ·rename_i hv
    simp only[execOp,ho,hv,Sem.run_pure]
   ·cases qc
  ·rename_i s r z j hp
   rw[hp]at hx;obtain⟨bb,oo,cs,hv,hrest⟩:=hx;exact⟨a.eval x,.c (.KB s r z j),⟨bb,oo,cs,hv,hrest⟩,e,fun w' _=>by simp only[execOp,ho,hv,Sem.run_pure]⟩
  ·rename_i f G6 hp
   rw[hp]at hx;have lT:(∀b∈G6,b<σ.bx.length)∧a.eval x= .func (.func f) #[] (G6.map fun b=>Value.pointer (some ⟨E.Ff b,0,none⟩)).toArray:=hx;exact⟨a.eval x,_,hx,e,fun w' _=>by simp only[execOp,ho,lT.2,Sem.run_pure]⟩
  ·cases e
 ·rename_i op t x z s ho
  rw[fO,AHL]at e;obtain⟨r,e1,e⟩:=e;obtain⟨⟨t',x',rfl⟩,p1,p2⟩:=AEU e1;obtain⟨r0,val,h1,h2,h3⟩:=Xr hT e1 (h.ev x) (h.ev z) x z;cases h1;refine⟨val,.c (.v t' x'),h3,e,fun w' _=> ?_⟩;obtain⟨r1,val',g1,g2,g3⟩:=Xr hT e1 (I7 (E':=E) (w':=w') (vw':=σ.bx) p1 (h.ev x)) (I7 p2 (h.ev z)) x z;cases g1;have:=YK h3 g3;subst this;simp only[execOp,ho,Sem.run_bind];simp only[Sem.run_bind]at g2;rw[g2];rfl
 ·rename_i op t x ho
  rw[jV,AHL]at e;obtain⟨r,e1,e⟩:=e;obtain⟨⟨t',x',rfl⟩,p1⟩:=AHZ e1;obtain⟨r0,val,h1,h2,h3⟩:=Zy (P:=P) e1 (h.ev x);cases h1;refine⟨val,.c (.v t' x'),h3,e,fun w' _=> ?_⟩;obtain⟨r1,val',g1,g2,g3⟩:=Zy (P:=P) e1 (I7 (E':=E) (w':=w') (vw':=σ.bx) p1 (h.ev x));cases g1;have:=YK h3 g3;subst this;simp only[execOp,ho,Sem.run_bind,g2,Result.andThen_ok,Sem.run_pure]
 ·rename_i s d x ho;rw[ho]at hq;cases hq
 ·rename_i f first G6 ho;rw[ho]at hq;cases hq
 ·rename_i t l c ho;rw[ho]at hq;cases hq
 ·rename_i t x lo hi ho
  obtain⟨z,val,h1,h2,h3⟩:=Yj hT hB st e (h.ev x) (n0 h lo) (n0 h hi);exact⟨val,z,h3,h1,fun w' _=>by simp only[execOp,ho,Option.map_none,Sem.run_bind,wf (WF.sliceAt _ _ _ _) h2 w',Result.andThen_ok,Sem.run_pure]⟩
 ·rename_i t x f ho
  split at e
  case h_2=>cases e
  rename_i z hz;obtain⟨u,h1,h2⟩:=Ye hT hz (h.ev x);refine⟨u,z,h2,e,fun w' _=> ?_⟩;have hw:(Instr.fieldAt t (a.eval x) f).run P w' = .ok u w':=by
   have hx:=h.ev x;unfold iv at hz;split at hz
   case h_2=>cases hz
   rename_i s b fs _ Mv;split at hz
   case h_2=>cases hz
   rename_i o' u' hf;have key:∀ad,a.eval x= .pointer (some ad)→(Instr.fieldAt t (a.eval x) f).run P w' = .ok u w':=by
    intro ad had;rw[had]at h1⊢;have r1:=PL hT (w:=w) Mv hf (a:=ad);have r2:=PL hT (w:=w') Mv hf (a:=ad);rw[r1]at h1;cases h1;exact r2
   split at hz
   ·rename_i b' j hp
    rw[hp]at hx;exact key _ hx.2
   ·rename_i b' p i sz j hp
    rw[hp]at hx;have qc:VJ (a.eval x)=true:=hx.1;unfold VJ at qc;split at qc
    ·rename_i hv;exact key _ hv
    ·cases qc
   ·rename_i s r y' j hp
    rw[hp]at hx;obtain⟨bb,oo,cs,hv,_⟩:=hx;exact key _ hv
   ·cases hz
  simp only[execOp,ho,Sem.run_bind,hw,Result.andThen_ok,Sem.run_pure]
 ·rename_i t x f ho
  split at e
  case h_2=>cases e
  rename_i z hz;obtain⟨u,h1,h2⟩:=a_ hT hz (h.ev x);exact⟨u,z,h2,e,fun w' _=>by simp only[execOp,ho,Sem.run_bind,wf (WF.field _ _ _) h1 w',Result.andThen_ok,Sem.run_pure]⟩
 ·rename_i t x i ho
  obtain⟨z,val,h1,h2,h3⟩:=Yr hT hB st e (h.ev x) (h.ev i);exact⟨val,z,h3,h1,fun w' _=>by simp only[execOp,ho,Sem.run_bind,wf (WF.indexAt _ _ _) h2 w',Result.andThen_ok,Sem.run_pure]⟩
 ·rename_i t x i ho
  obtain⟨z,val,h1,h2,h3⟩:=VV hT e (h.ev x) (h.ev i);exact⟨val,z,h3,h1,fun w' _=>by simp only[execOp,ho,Sem.run_bind,wf (WF.index _ _ _) h2 w',Result.andThen_ok,Sem.run_pure]⟩
 ·rename_i x i ho
  split at e
  case h_2=>cases e
  rename_i z hz;obtain⟨u,h1,h2⟩:=WE (P:=P) hz (h.ev x);exact⟨u,z,h2,e,fun w' _=>by simp only[execOp,ho,Sem.run_bind,wf (WF.extract _ _) h1 w',Result.andThen_ok,Sem.run_pure]⟩
 ·rename_i f args gH ho;rw[ho]at hq;cases hq
 ·rename_i args gH ho
  split at e
  ·rename_i s t GJ hts
   obtain⟨x,rfl,hx⟩:=RW GJ;have hv:=h.ev x;rw[hx]at hv;have VM:=Rn (E:=E) (w:=w) (vw:=σ.bx) hv;split at e
   case isFalse=>cases e
   rename_i hs;have hu:=Q8 hT hs;refine⟨.int .i64 (s.length:Int),.c (.v (.int .i64) (s.length:Int)),VR.int (E:=E) (vw:=σ.bx) _ _,e,fun w' _=> ?_⟩;have LJ:(⟨s.toArray⟩:ByteArray).size=s.length:=by simp[ByteArray.size]
   simp[execOp,ho,resolve,invoke,builtin,Builtin.len_,hts,VM,Az hu,goInt,LJ]
  ·rename_i z t _ GJ hts
   obtain⟨x,rfl,hx⟩:=RW GJ;have hv:=h.ev x;rw[hx]at hv;split at e
   case isFalse=>cases e
   rename_i hs;split at e
   case h_2=>cases e
   rename_i n hn;obtain⟨el,hu⟩:=ZT hT hs;obtain⟨ad,cap,VM⟩:=bB hB st hn hv;refine⟨.int .i64 (n:Int),.c (.v (.int .i64) (n:Int)),VR.int (E:=E) (vw:=σ.bx) _ _,e,fun w' _=> ?_⟩;simp[execOp,ho,resolve,invoke,builtin,Builtin.len_,hts,VM,Az hu,goInt]
  ·cases e
 ·rename_i args gH ho;rw[ho]at hq;cases hq
 ·rename_i args gH ho;rw[ho]at hq;cases hq
 ·rename_i args gH ho
  split at e
  case h_2=>cases e
  rename_i x1 x2 GJ;obtain⟨o1,o2,rfl,hx1,hx2⟩:=RH GJ;have VB:=h.ev o1;have UI:=h.ev o2;rw[hx1]at VB;rw[hx2]at UI;rw[T4,AHL]at e;obtain⟨r,e1,e⟩:=e;obtain⟨⟨t',x',rfl⟩,p1,p2⟩:=sk e1;obtain⟨r0,val,h1,h2,h3⟩:=OL (P:=P) (big:=true) e1 VB UI gH #[] o.type;cases h1;refine⟨val,.c (.v t' x'),h3,e,fun w' _=> ?_⟩;obtain⟨r1,val',g1,g2,g3⟩:=OL (P:=P) (big:=true) e1 (I7 (E':=E) (w':=w') (vw':=σ.bx) p1 VB) (I7 p2 UI) gH #[] o.type;cases g1;have:=YK h3 g3;subst this;simp only[AKn]at g2;simp[execOp,ho,resolve,invoke,builtin,g2]
 ·rename_i args gH ho
  split at e
  case h_2=>cases e
  rename_i x1 x2 GJ;obtain⟨o1,o2,rfl,hx1,hx2⟩:=RH GJ;have VB:=h.ev o1;have UI:=h.ev o2;rw[hx1]at VB;rw[hx2]at UI;rw[T4,AHL]at e;obtain⟨r,e1,e⟩:=e;obtain⟨⟨t',x',rfl⟩,p1,p2⟩:=sk e1;obtain⟨r0,val,h1,h2,h3⟩:=OL (P:=P) (big:=false) e1 VB UI gH #[] o.type;cases h1;refine⟨val,.c (.v t' x'),h3,e,fun w' _=> ?_⟩;obtain⟨r1,val',g1,g2,g3⟩:=OL (P:=P) (big:=false) e1 (I7 (E':=E) (w':=w') (vw':=σ.bx) p1 VB) (I7 p2 UI) gH #[] o.type;cases g1;have:=YK h3 g3;subst this;simp only[AIB,AJU]at g2;simp[execOp,ho,resolve,invoke,builtin,g2]
 ·cases e
end
end Go.Fw
end
section
namespace Go.Fw
section
variable{P:Program} {md:Region.Mode} {ops:Array Oper} {Q:Exit→Act→World→Prop}
theorem ef.refl(K:Nat→Prop)(w:World):ef K w w:=fun _ _=>rfl
def lH(P:Program)(md:Region.Mode)(ops:Array Oper)(Q:Exit→Act→World→Prop):Nat→Array Bool→(Nat→Prop)→Act→World→Prop
 |0,Cf,_,a,w=>Region.ready md ops Cf=[]∧Q .normal a w
 |fuel+1,Cf,K,a,w=>(Region.ready md ops Cf=[]→Q .normal a w)∧
  ∀i∈Region.ready md ops Cf,wpOp P ops Q i (fun a' w' => ∃K':Nat→Prop,(∀c,K c→K' c)∧ef K w w'∧lH P md ops Q fuel (Cf.setIfInBounds i true) K' a' w') a w
theorem gz:∀(fuel:Nat) (Cf:Array Bool) (K:Nat→Prop) (a:Act) (w:World),lH P md ops Q fuel Cf K a w→wpAny P md ops Q fuel Cf a w
 |0,_,_,_,_,h=>h
 |fuel+1,_,_,_,_,h=>⟨h.1,fun i hi=>wpOp_mono (fun a' w' ⟨K',_,_,h'⟩=>gz fuel _ K' a' w' h') (h.2 i hi)⟩
theorem YieldsIf.mono{S S':World→Prop}{o:Oper}{v:Value}{a:Act}(h:YieldsIf P ops S o v a)(hs:∀w,S' w→S w):YieldsIf P ops S' o v a:=
 h.imp (fun⟨h1,h2⟩=>⟨h1,fun w hw=>h2 w (hs w hw)⟩) id
theorem bG{i:Nat}{oi:Oper}{v:Value}(hi:ops[i]? =some oi)(sY:∀(j:Nat) (o:Oper) cs b,ops[j]? =some o→o.op≠ .select cs b)(hQ:∀c a w,¬Q (.panic c) a w):
  ∀(fuel:Nat) (Cf:Array Bool) (K:Nat→Prop) (a:Act) (w:World),
   (∀j oj,ops[j]? =some oj→j≠i→Cf.getD j true=false→(∀e∈oj.after,Region.binds md e=true→e.on≠i)→oi.apart ops oj=true)→
   i∈Region.ready md ops Cf→YieldsIf P ops (ef K w) oi v a→lH P md ops Q fuel (Cf.setIfInBounds i true) K (a.put oi.dst v) w→lH P md ops Q (fuel+1) Cf K a w:=by
 intro fuel
 induction fuel with
 |zero=>
  intro Cf K a w _ hr hy H;refine⟨fun h=>(by rw[h]at hr;cases hr),fun j hj=> ?_⟩;by_cases hji:j=i
  ·subst hji;exact hy.wpOp hi (ef.refl K w) ⟨K,fun _ h=>h,ef.refl K w,H⟩
  ·have:=ready_mono hj hji
   rw[H.1]at this;cases this
 |succ fuel ih=>
  intro Cf K a w P5 hr hy H;refine⟨fun h=>(by rw[h]at hr;cases hr),fun j hj=> ?_⟩;by_cases hji:j=i
  ·subst hji;exact hy.wpOp hi (ef.refl K w) ⟨K,fun _ h=>h,ef.refl K w,H⟩
  ·have h1:=H.2 j (ready_mono hj hji)
   obtain⟨hjun,oj,hoj,W0⟩:=mem_ready.1 hj;have w5:∀e∈oj.after,Region.binds md e=true→e.on≠i:=fun e he hb heq=>by
    have h1:=W0 e he hb;have h0:=(mem_ready.1 hr).1;rw[heq]at h1;rcases Nat.lt_or_ge i Cf.size with h'|h'
    ·simp[h']at h0 h1;rw[h0]at h1;cases h1
    ·simp[Array.getElem?_eq_none h']at h1
   have h2:=wpOp_putIf hoj (P5 j oj hoj hji hjun w5) (fun cs b=>sY i oi cs b hi) (fun cs b=>sY j oj cs b hoj) (fun c a w h=>absurd h (hQ c _ w)) hy h1;have ADF:∀k ok,ops[k]? =some ok→k≠i→(Cf.setIfInBounds j true).getD k true=false→
     (∀e∈ok.after,Region.binds md e=true→e.on≠i)→oi.apart ops ok=true:=fun k ok hk hki hun hno=>by
    refine P5 k ok hk hki ?_ hno
    by_cases hjk:j=k
    ·subst hjk;exact hjun
    ·rw[getD_set_ne true hjk]at hun;exact hun
   refine wpOp_mono (fun a' w' h3=> ?_) h2;obtain⟨ju,K',hK,hs,ht⟩:=h3;refine⟨K',hK,hs,ih (Cf.setIfInBounds j true) K' a' w' ADF (ready_mono hr (Ne.symm hji)) (YieldsIf.mono ju fun w'' AJX c hc=>(AJX c (hK c hc)).trans (hs c hc)) ?_⟩;rw[Array.setIfInBounds_comm _ _ hji];exact ht
end
theorem ai{Y:Type}{f:Nat→List Bool→Option Y}{y:Y}:∀{rs:AAz},(∀ω,iO f rs ω=some y)→ ∀i∈rs,∀ω,f i ω=some y
 |[i],h,j,hj,ω=>by
  simp at hj;subst hj;exact h ω
 |i::j::r,h,k,hk,ω=>by
  rcases AI5.1 hk with rfl|hk
  ·exact h (true::ω)
  ·exact ai (rs:=j::r) (fun ω=>h (false::ω)) k hk ω
theorem jl{σ:St}{t:Nat}{b:Bool}(e:σ.tm[t]? =some (.c (.v .bool b))):σ.put (some t) (.c (.v .bool b))=σ:=by
 simp only[St.put];obtain⟨tm,bx⟩:=σ;simp only[St.mk.injEq,AKa];obtain⟨Dl,he⟩:=AG0.1 e;apply ALy;intro i;rw[AKW];split
 ·rename_i e1;subst e1;exact e.symm
 ·rfl
theorem gn{Y I:Type}[Nonempty I]{C:Xj}{ops:Array Oper}{o:Oper}{kn:I→St→Option Y}{σ:St}{y:Y}{E:Env}{a:Act}{w:World}(h:Rel E σ a w)
  (e:∀ω,nC C ops o (kn ω) σ=some y):
  (Region.wanted o (yielded ops a.tmps)=true∧ ∀ω,(Q9 C.T C.Γ o σ fun x σ' =>kn ω (σ'.put o.dst x))=some y)∨
  (Region.wanted o (yielded ops a.tmps)=false∧ ∀ω,kn ω (σ.put o.dst (.Ju []))=some y):=by
 unfold nC at e;cases hg:o.guard with
 |none=>
  simp only[hg]at e;exact .inl ⟨by simp[Region.wanted,hg],e⟩
 |some q=>
  obtain⟨j,want⟩:=q;simp only[hg]at e;cases ht:(ops[j]?).bind (·.dst)with
  |none=>
   simp only[ht]at e;obtain⟨i0⟩:= ‹Nonempty I›;cases e i0
  |some t=>
   simp only[ht]at e;obtain⟨i0⟩:= ‹Nonempty I›;have e0:=e i0;split at e0
   ·rename_i b hb
    simp only[hb]at e;obtain⟨v,hv,hx⟩:=h.tmp hb;have hvb:=M1 (E:=E) (w:=w) (vw:=σ.bx) hx;subst hvb;have hy:yielded ops a.tmps j=some b:=by rw[Ua ht hv];rfl
    have hk:=jl hb;cases b with
    |true=>
     simp only[AIz,tt,hk]at e;cases want with
     |true=>exact .inl ⟨by simp[Region.wanted,hg,hy],fun ω=>by simpa using e ω⟩
     |false=>exact .inr ⟨by simp[Region.wanted,hg,hy],fun ω=>by simpa using e ω⟩
    |false=>
     simp only[AHe,ff,hk]at e;cases want with
     |true=>exact .inr ⟨by simp[Region.wanted,hg,hy],fun ω=>by simpa using e ω⟩
     |false=>exact .inl ⟨by simp[Region.wanted,hg,hy],fun ω=>by simpa using e ω⟩
   ·rename_i hb
    simp only[hb]at e;obtain⟨v,hv,vs,rfl,hx⟩:=h.tmp hb;have hy:yielded ops a.tmps j=none:=by rw[Ua ht hv];rfl
    exact .inr ⟨by simp[Region.wanted,hg,hy],e⟩
   ·cases e0
theorem s6{ops:Array Oper}{o:Oper}{σ:St}{E:Env}{a:Act}{w:World}(h:Rel E σ a w)(e:idle ops σ o=true):Region.wanted o (yielded ops a.tmps)=false:=by
 unfold idle at e;cases hg:o.guard with
 |none=>simp[hg]at e
 |some q=>
  obtain⟨j,want⟩:=q;simp only[hg]at e;cases ht:(ops[j]?).bind (·.dst)with
  |none=>simp[ht]at e
  |some t=>
   simp only[ht]at e;split at e
   ·rename_i b hb
    obtain⟨v,hv,hx⟩:=h.tmp hb;have hvb:=M1 (E:=E) (w:=w) (vw:=σ.bx) hx;subst hvb;have hy:yielded ops a.tmps j=some b:=by rw[Ua ht hv];rfl
    cases b<;>cases want<;>simp_all[Region.wanted]
   ·rename_i hb
    obtain⟨v,hv,vs,rfl,hx⟩:=h.tmp hb;have hy:yielded ops a.tmps j=none:=by rw[Ua ht hv];rfl
    simp[Region.wanted,hg,hy]
   ·cases e
theorem hO{Y I:Type}[Nonempty I]{C:Xj}{ops:Array Oper}{i:Nat}{o:Oper}(ho:ops[i]? =some o){kn:I→St→Option Y}{σ:St}{y:Y}{E:Env}{a:Act}{w:World}(h:Rel E σ a w)
  (e:∀ω,nO C ops i (kn ω) σ=some y):
  (Region.wanted o (yielded ops a.tmps)=true∧ ∀ω,(Q9 C.T C.Γ o σ fun x σ' =>kn ω (σ'.put o.dst x))=some y)∨
  (Region.wanted o (yielded ops a.tmps)=false∧ ∀ω,kn ω (σ.put o.dst (.Ju []))=some y):=
 gn h fun ω=>by
  have:=e ω;unfold nO at this;simpa only[ho]using this
theorem rS{hint t:AAz}{E E':Env}{bx Ls:List Bx}{w w':World}(h:Mb t E bx w E' Ls w')(ht:∀b∈t,b∉hint)(ha:∀b∈hint,Z3 Ls b=false):
  (∀c,Kof hint E w bx c→Kof hint E' w' Ls c)∧ef (Kof hint E w bx) w w':=by
 have key:∀n B,n∈hint→bx[n]? =some B→ ∃B',Ls[n]? =some B'∧Pg B B'∧ ∀c,lS E w n B c→w'.heap[c]? =w.heap[c]?:=by
  intro n B hn hB;have hd:=ha n hn;unfold Z3 at hd;split at hd
  ·cases hd
  ·rename_i B' YT Md
   obtain⟨h1,h2⟩:=h.frame n B B' (fun hm=>ht n hm hn) hB Md YT;exact⟨B',Md,h1,h2⟩
  ·cases hd
 refine⟨fun c hc=> ?_,fun c hc=> ?_⟩
 ·rcases hc with hc|⟨n,B,hn,hB,hc⟩
  ·exact .inl (h.base.T c hc)
  ·obtain⟨B',Md,hs,hh⟩:=key n B hn hB
   have hid:=h.ids n (AG0.1 hB).1;refine .inr ⟨n,B',hn,Md,?_⟩;cases B with
   |mem cs=>
    cases B' with
    |mem VN=>simp only[lS]at hc⊢;rw[hid.1];exact hc
    |sl _ _ _=>exact hs.elim
    |dead=>exact hs.elim
   |sl d r rows=>
    cases B' with
    |mem VN=>exact hs.elim
    |dead=>exact hs.elim
    |sl d' r' B3=>
     simp only[Pg,AIx]at hs;obtain⟨rfl,hs⟩:=hs;obtain rfl:=AJE hs;simp only[lS]at hc⊢;rw[hid.2];exact cL (fun d hd=>hh d hd) hc
   |dead=>exact hc.elim
 ·rcases hc with hc|⟨n,B,hn,hB,hc⟩
  ·exact h.base.heap c hc
  ·obtain⟨B',_,_,hh⟩:=key n B hn hB
   exact hh c hc
theorem Sy{Y:Type}{C:Xj}{hint:AAz}{ops:Array Oper}{kn:List Bool→St→Option Y}{fuel:Nat}{Cf:Array Bool}{ω:List Bool}{σ:St}{y:Y}(e:Od C hint ops kn fuel Cf ω σ=some y):∀b∈hint,Z3 σ.bx b=false:=by
 unfold Od at e;split at e
 ·rename_i h
  intro b hb;simpa using(AJq.1 h) b hb
 ·cases e
theorem jU{Y:Type}{P:Program}{C:Xj}(hT:Dd P C.T)(hΓ:X6 P C.Γ){E0:Env}{w0:World}{N nb:Nat}{hint:AAz}{ops:Array Oper}{kn:List Bool→St→Option Y}{y:Y}{Q:Exit→Act→World→Prop}
  (sY:Region.noSelect ops=true) (hP:∀c a w,¬Q (.panic c) a w) (hk:∀E σ a w,Ok E0 w0 N nb E σ a w→(∀ω,kn ω σ=some y)→Q .normal a w):
  ∀(fuel:Nat) {Cf:Array Bool} {E:Env} {σ:St} {a:Act} {w:World},Ok E0 w0 N nb E σ a w→(∀ω,Od C hint ops kn fuel Cf ω σ=some y)→lH P .any ops Q fuel Cf (Kof hint E w σ.bx) a w:=by
 intro fuel
 induction fuel with
 |zero=>
  intro Cf E σ a w h e;have e1:=fun ω=>e ω
  unfold Od at e1;have qL:=Sy (e []);have AD3:(hint.all fun b=> !Z3 σ.bx b)=true:=AJq.2 fun b hb=>by simp[qL b hb]
  simp only[AD3,AKn]at e1;cases hr:Region.ready .any ops Cf with
  |nil=>
   simp only[hr]at e1;exact⟨hr,hk E σ a w h e1⟩
  |cons i rs=>
   simp only[hr]at e1;cases e1 []
 |succ fuel ih=>
  intro Cf E σ a w h e;have e1:=fun ω=>e ω
  unfold Od at e1;have qL:=Sy (e []);have AD3:(hint.all fun b=> !Z3 σ.bx b)=true:=AJq.2 fun b hb=>by simp[qL b hb]
  simp only[AD3,AKn]at e1;cases hr:Region.ready .any ops Cf with
  |nil=>
   simp only[hr]at e1;exact⟨fun _=>hk E σ a w h e1,by rw[hr];simp⟩
  |cons i0 rs=>
   simp only[hr]at e1;cases hf:(i0::rs).find? (cx hint ops Cf σ)with
   |some i=>
    simp only[hf]at e1;have hi:=List.mem_of_find?_eq_some hf
    have ht:=List.find?_some hf
    unfold cx at ht;cases ho:ops[i]? with
    |none=>rw[ho]at ht;cases ht
    |some o=>
     simp only[ho,AHN]at ht;have P5:=Region.free_spec ho ht.2;rw[←hr]at hi;have hy:=hO (I:=List Bool) (kn:=fun ω σ' =>Od C hint ops kn fuel (Cf.setIfInBounds i true) ω σ') ho h.rel e1;rcases hy with⟨hw,hx⟩|⟨hw,hx⟩
     ·have hq:ZL hint σ o.op=true:=by
       rcases AKZ _ _▸ht.1 with hq|hi
       ·exact hq
       ·rw[s6 h.rel hi]at hw
        cases hw
      obtain⟨x,σ',hx0,hx1⟩:=Zu hx;obtain⟨v,x',q1,q2,q3⟩:=lg hT h.rel hq hx0;simp only[k0,AG9,AJH]at q2;obtain⟨rfl,rfl⟩:=q2;have T0:=ih (h.put o.dst q1) hx1;have YO:(σ.put o.dst x').bx=σ.bx:=by cases o.dst<;>rfl
      rw[YO]at T0;exact bG ho (Region.noSelect_spec sY) hP fuel Cf _ a w P5 hi (.inl ⟨hw,q3⟩) T0
     ·have T0:=ih (h.put o.dst dx) hx
      have YO:(σ.put o.dst (.Ju [])).bx=σ.bx:=by cases o.dst<;>rfl
      rw[YO]at T0;exact bG ho (Region.noSelect_spec sY) hP fuel Cf _ a w P5 hi (.inr ⟨hw,rfl⟩) T0
   |none=>
    simp only[hf]at e1;have W0:=ai e1;refine⟨fun h0=>(by rw[h0]at hr;cases hr),fun i hi=> ?_⟩;rw[hr]at hi;have hx:=W0 i hi;cases ho:ops[i]? with
    |none=>
     simp only[ho]at hx;cases hx []
    |some o=>
     simp only[ho]at hx;have htc:(F7 C.Γ σ o.op).all (fun b=> !hint.contains b)=true:=by
      have:=hx [];split at this
      ·rename_i hh;exact hh
      ·cases this
     simp only[htc,AKn]at hx;have htn:∀b∈F7 C.Γ σ o.op,b∉hint:=fun b hb hh=>by
      have:=(AJq.1 htc) b hb;simp[hh]at this
     unfold wpOp;simp only[ho];rcases hO (I:=List Bool) (kn:=fun ω σ' =>Od C hint ops kn fuel (Cf.setIfInBounds i true) ω σ') ho h.rel hx with⟨hw,hx⟩|⟨hw,hx⟩
     ·rw[AG5 hw]
      obtain⟨x,σ',hx0,hx1⟩:=Zu hx;refine .inl (nw hT hΓ h.rel hx0 fun v w' E' x' σ'' g1 g2 g3 g4 g5=> ?_);simp only[k0,AG9,AJH]at g5;obtain⟨rfl,rfl⟩:=g5;have YO:(σ''.put o.dst x').bx=σ''.bx:=by cases o.dst<;>rfl
      have AGW:=Sy (hx1 []);rw[YO]at AGW;obtain⟨k1,k2⟩:=rS g3 htn AGW;have T0:=ih ((h.next g1 g3 g4).put o.dst g2) hx1;rw[YO]at T0;exact⟨_,k1,k2,T0⟩
     ·rw[AHA (by simp[hw])]
      have T0:=ih (h.put o.dst dx) hx;have YO:(σ.put o.dst (.Ju [])).bx=σ.bx:=by cases o.dst<;>rfl
      rw[YO]at T0;exact⟨_,fun _ h=>h,ef.refl _ _,T0⟩
end Go.Fw
end
section
namespace Go.Fw
theorem Rel.heap{E:Env}{σ:St}{a:Act}{w w':World}(h:Rel E σ a w)(hw:w'.heap=w.heap):Rel E σ a w':=by
 have keep:Np E w σ.bx E w' σ.bx:=by
  refine⟨AJI _,fun _ _=>rfl,fun _ h=>h,fun _ h=>h,h.bx.st,fun _ _=>by rw[hw],fun b d r rows hb e=>⟨d,rows,e,fun p hp q ys hg=>⟨hp,⟨ys,hg,rfl⟩,fun hh he=> ?_⟩⟩⟩;obtain⟨Fs,⟨f1,f2⟩,_⟩:=h.bx;have hF:Fs[b]? =some (Fs[b]'(by have:=(AG0.1 e).1;omega)):=AG7 _;exact jE (f2 b _ _ e hF).2 (fun _ _=>by rw[hw]) (fun _ _=>by rw[hw]) hp hg he
 exact⟨h.Jo,h.tm.imp fun _ _ hx=>Kt keep hx,h.bx.turn (fun _ _ hv=>EB keep hv) (fun _ h=>h) (fun _ _=>rfl) (fun _ _=>rfl) (fun _ _ _=>by rw[hw]) fun F hF=>⟨hF.nodup,hF.free,fun c hc=>by rw[hw];exact hF.lt c hc,hF.st,fun c hc=>by rw[hw];exact hF.XS c hc⟩⟩
theorem Ok.drawn{E0 E:Env}{w0 w:World}{N nb:Nat}{σ:St}{a:Act}(h:Ok E0 w0 N nb E σ a w)(n:Nat):Ok E0 w0 N nb E σ a { w with drawn:=n }:=
 ⟨h.rel.heap rfl,⟨h.base.T,h.base.S,h.base.zM,h.base.nc,h.base.heap,h.base.os,h.base.tape,h.base.output,h.base.size⟩,h.tm,h.fQ,h.ids⟩
theorem aW{Y I:Type}[Nonempty I]{P:Program}{C:Xj}(hT:Dd P C.T)(hΓ:X6 P C.Γ){E0:Env}{w0:World}{N nb:Nat}{all:Array Oper}{kn:I→St→Option Y}{y:Y}{Q:Exit→Act→World→Prop}
  (hk:∀E σ a w,Ok E0 w0 N nb E σ a w→(∀ω,kn ω σ=some y)→Q .normal a w):∀{l:List Oper} {E:Env} {σ:St} {a:Act} {w:World},Ok E0 w0 N nb E σ a w→(∀ω,jG C all l (kn ω) σ=some y)→wpList P all Q l a w
 |[],E,σ,a,w,h,e=>hk E σ a w h e
 |o::rest,E,σ,a,w,h,e=>by
  unfold wpList;rcases gn (kn:=fun ω σ=>jG C all rest (kn ω) σ) h.rel e with⟨hw,hx⟩|⟨hw,hx⟩
  ·rw[AG5 hw]
   obtain⟨x,σ',hx0,hx1⟩:=Zu hx;refine .inl (nw hT hΓ h.rel hx0 fun v w' E' x' σ'' g1 g2 g3 g4 g5=> ?_);simp only[k0,AG9,AJH]at g5;obtain⟨rfl,rfl⟩:=g5;exact aW hT hΓ hk ((h.next g1 g3 g4).put o.dst g2) hx1
  ·rw[AHA (by simp[hw])]
   exact aW hT hΓ hk (h.put o.dst dx) hx
def KS(P:Program)(body:Code)(Q:Exit→Act→World→Prop)(a:Act)(w:World):Prop:=
 ∀(b:Frame) (k:List Item) (cs:List Frame),∃e a' w',Q e a' w'∧Arrives P (lone (b.at a (.code body:: .inLoop body::k)) cs w) b k cs e a' w'
theorem KS.wp{P:Program}{body:Code}{Q:Exit→Act→World→Prop}{a:Act}{w:World}(h:KS P body Q a w):(Code.loop body).wp P Q a w:=fun b k cs=>by
 obtain⟨e,a',w',hq,Xh⟩:=h b k cs;exact⟨e,a',w',hq,.of_steps (.one step_loop) Xh⟩
theorem KS.AAN{P:Program}{body:Code}{Q:Exit→Act→World→Prop}{a:Act}{w:World}(h:body.wp P (Exit.then (KS P body Q) Q) a w):KS P body Q a w:=fun b k cs=>by
 obtain⟨e,a₁,w₁,hq,Xh⟩:=h b (.inLoop body::k) cs;cases e with
 |normal=>
  obtain⟨e₂,a₂,w₂,hq₂,harr₂⟩:=hq b k cs;exact⟨e₂,a₂,w₂,hq₂,.of_steps (Steps.trans Xh (.one step_inLoop)) harr₂⟩
 |exit id=>exact⟨_,a₁,w₁,hq,.pass (x:= .inLoop body) rfl (fun _ _=> .inl (by simp)) Xh⟩
 |goto l=>exact⟨_,a₁,w₁,hq,.pass (x:= .inLoop body) rfl (fun _ _=> .inl (by simp)) Xh⟩
 |ret=>exact⟨_,a₁,w₁,hq,.pass (x:= .inLoop body) rfl (fun _ _=> .inl (by simp)) Xh⟩
 |panic ch=>exact⟨_,a₁,w₁,hq,.pass (x:= .inLoop body) rfl (fun _ _=> .inl (by simp)) Xh⟩
 |outgrown=>exact⟨_,a₁,w₁,hq,.pass (x:= .inLoop body) rfl (fun _ _=> .inl (by simp)) Xh⟩
abbrev Za:=Exit→Act→World→Prop
def At(P:Program):Code→Za→Nat→Code→Za→Prop
 | .seq a b,Q,ℓ,body,Q' =>At P a (Exit.then (b.wp P Q) Q) ℓ body Q'∨At P b Q ℓ body Q'
 | .cond _ a b,Q,ℓ,body,Q' =>At P a Q ℓ body Q'∨At P b Q ℓ body Q'
 | .block id c,Q,ℓ,body,Q' =>At P c (Exit.inBlock id Q) ℓ body Q'
 | .loop c,Q,ℓ,body,Q' =>(first c= ℓ ∧body=c∧Q' =Q)∨At P c (Exit.then (KS P c Q) Q) ℓ body Q'
 |_,_,_,_,_=>False
def V7(Q:Za):Prop:= ∀c a w,¬Q (.panic c) a w
theorem V7.then{Q:Za}(h:V7 Q)(n:Act→World→Prop):V7 (Exit.then n Q):=fun c a w hq=>h c a w hq
theorem V7.inBlock{Q:Za}(h:V7 Q)(id:Nat):V7 (Exit.inBlock id Q):=fun c a w hq=>h c a w hq
section
variable{Y:Type} {P:Program} {C:Xj} (hT:Dd P C.T) (hΓ:X6 P C.Γ) (hm:P.follows .mixedOrders=true) {E0:Env} {w0:World} {N nb:Nat} {y:Y} {J:Nat→St→Option Y}
structure Good (E0:Env) (w0:World) (N nb:Nat) (y:Y) (kn:KN Y) (kx:Nat→KN Y) (kr:KN Y) (Q:Za):Prop where
 n:∀E σ a w,Ok E0 w0 N nb E σ a w→(∀ω,kn ω σ=some y)→Q .normal a w
 x:∀id E σ a w,Ok E0 w0 N nb E σ a w→(∀ω,kx id ω σ=some y)→Q (.exit id) a w
 r:∀E σ a w,Ok E0 w0 N nb E σ a w→(∀ω,kr ω σ=some y)→Q .ret a w
def JOk(P:Program)(E0:Env)(w0:World)(N nb:Nat)(y:Y)(J:Nat→St→Option Y)(cd:Code)(Q:Za):Prop:=
 ∀ ℓ body Q',At P cd Q ℓ body Q'→ ∀E σ a w,Ok E0 w0 N nb E σ a w→J ℓ σ=some y→KS P body Q' a w
include hT hΓ hm in
theorem mR:∀{cd:Code} {kn:KN Y} {kx:Nat→KN Y} {kr:KN Y} {Q:Za} {E:Env} {σ:St} {a:Act} {w:World},V7 Q→Good E0 w0 N nb y kn kx kr Q→JOk P E0 w0 N nb y J cd Q→Ok E0 w0 N nb E σ a w→
  (∀ω,run C J cd kn kx kr ω σ=some y)→cd.wp P Q a w:=by
 intro cd
 induction cd with
 |skip=>intro kn kx kr Q E σ a w hp hg hj h e;exact wp_skip (hg.n E σ a w h e)
 |region id ops draw=>
  intro kn kx kr Q E σ a w hp hg hj h e;simp only[run]at e;cases draw with
  |false=>
   simp only[AIB,AJU]at e;exact wp_region_list (aW hT hΓ hg.n h e)
  |true=>
   simp only[AKn]at e;have hs:Region.noSelect ops=true:=by
    have:=e [];split at this
    ·rename_i hh;exact hh
    ·cases this
   simp only[hs,AKn]at e;exact wp_region_any hm (gz _ _ _ _ _ (jU hT hΓ hs hp hg.n _ (h.drawn _) e))
 |seq x z ihx ihz=>
  intro kn kx kr Q E σ a w hp hg hj h e;simp only[run]at e;refine wp_seq (ihx (hp.then _) ⟨fun E σ a w h e=>ihz hp hg (fun ℓ body Q' Lq=>hj ℓ body Q' (.inr Lq)) h e,fun id E σ a w h e=>hg.x id E σ a w h e,hg.r⟩ (fun ℓ body Q' Lq=>hj ℓ body Q' (.inl Lq)) h e)
 |cond c x z ihx ihz=>
  intro kn kx kr Q E σ a w hp hg hj h e;cases c with
  |tmp t=>
   simp only[run]at e;have e0:=e [];split at e0
   ·rename_i b hb
    simp only[hb]at e;obtain⟨v,hv,hx⟩:=h.rel.tmp hb;have hvb:=M1 (E:=E) (w:=w) (vw:=σ.bx) hx;subst hvb;have qG:a.eval (.tmp t)= .bool b:=by simp[Act.eval,ALs,hv]
    have hk:=jl hb;cases b with
    |true=>
     simp only[AIz,tt,hk]at e;exact wp_cond_true qG (ihx hp hg (fun ℓ body Q' Lq=>hj ℓ body Q' (.inl Lq)) h e)
    |false=>
     simp only[AHe,ff,hk]at e;exact wp_cond_false qG (ihz hp hg (fun ℓ body Q' Lq=>hj ℓ body Q' (.inr Lq)) h e)
   ·cases e0
  |_=>cases e []
 |block id c ih=>
  intro kn kx kr Q E σ a w hp hg hj h e;simp only[run]at e;refine wp_block (ih (hp.inBlock id) ⟨hg.n,fun j E σ a w h e=> ?_,hg.r⟩ (fun ℓ body Q' Lq=>hj ℓ body Q' Lq) h e);simp only[Exit.inBlock];split
  ·rename_i hid
   simp only[hid,AKn]at e;exact hg.n E σ a w h e
  ·rename_i hid
   simp only[hid,AJU]at e;exact hg.x j E σ a w h e
 |loop body ih=>
  intro kn kx kr Q E σ a w hp hg hj h e;simp only[run]at e;exact KS.wp (hj (first body) body Q (.inl ⟨rfl,rfl,rfl⟩) E σ a w h (e []))
 |exit id=>intro kn kx kr Q E σ a w hp hg hj h e;exact wp_exit (hg.x id E σ a w h e)
 |ret=>intro kn kx kr Q E σ a w hp hg hj h e;exact wp_ret (hg.r E σ a w h e)
 |_=>intro kn kx kr Q E σ a w hp hg hj h e;cases e []
end
end Go.Fw
end
section
namespace Go.Fw
def labels:Code→List Nat
 | .seq a b=>labels a++labels b
 | .cond _ a b=>labels a++labels b
 | .block _ c=>labels c
 | .loop c=>first c::labels c
 |_=>[]
theorem At.label{P:Program}:∀{cd:Code} {Q:Za} {ℓ :Nat} {body:Code} {Q':Za},At P cd Q ℓ body Q'→ ℓ ∈labels cd
 | .seq a b,Q,ℓ,body,Q',h=>by
  simp only[labels,AIf];exact h.imp At.label At.label
 | .cond _ a b,Q,ℓ,body,Q',h=>by
  simp only[labels,AIf];exact h.imp At.label At.label
 | .block _ c,Q,ℓ,body,Q',h=>At.label (cd:=c) h
 | .loop c,Q,ℓ,body,Q',h=>by
  simp only[labels,AI5];exact h.imp (fun h=>h.1.symm) At.label
section
variable{Y:Type} {P:Program} {C:Xj} (hT:Dd P C.T) (hΓ:X6 P C.Γ) (hm:P.follows .mixedOrders=true) {E0:Env} {w0:World} {N nb:Nat} {y:Y} {J:Nat→St→Option Y}
theorem MO{ℓ :Nat}:∀{cd:Code} {kn:KN Y} {kx:Nat→KN Y} {kr:KN Y},ℓ ∉labels cd→find C J ℓ cd kn kx kr=none
 | .seq a b,kn,kx,kr,h=>by
  simp only[labels,AIf,not_or]at h;simp only[find];rw[MO h.1];exact MO h.2
 | .cond _ a b,kn,kx,kr,h=>by
  simp only[labels,AIf,not_or]at h;simp only[find];rw[MO h.1];exact MO h.2
 | .block _ c,kn,kx,kr,h=>by simp only[find];exact MO (cd:=c) h
 | .loop c,kn,kx,kr,h=>by
  simp only[labels,AI5,not_or]at h;simp only[find];rw[AHA (fun e=>h.1 e.symm)];exact MO h.2
 | .skip,_,_,_,_=>rfl
 | .region _ _ _,_,_,_,_=>rfl
 | .rangeFunc _ _ _ _,_,_,_,_=>rfl
 | .exit _,_,_,_,_=>rfl
 | .scope _,_,_,_,_=>rfl
 | .label _,_,_,_,_=>rfl
 | .goto _,_,_,_,_=>rfl
 | .ret,_,_,_,_=>rfl
 | .refuse _,_,_,_,_=>rfl
include hT hΓ hm in
theorem vW{ℓ :Nat}:∀{cd:Code} {kn:KN Y} {kx:Nat→KN Y} {kr:KN Y} {Q:Za} {body:Code} {Q':Za},(labels cd).Nodup→V7 Q→Good E0 w0 N nb y kn kx kr Q→JOk P E0 w0 N nb y J cd Q→At P cd Q ℓ body Q'→
  ∃kn' kx' kr',find C J ℓ cd kn kx kr=some (fun ω σ=>run C J body (fun _ σ=>J ℓ σ) kx' kr' ω σ)∧Good E0 w0 N nb y kn' kx' kr' Q'∧V7 Q'∧JOk P E0 w0 N nb y J body (Exit.then (KS P body Q') Q'):=by
 intro cd
 induction cd with
 |seq a b iha ihb=>
  intro kn kx kr Q body Q' hn hp hg hj Lq;simp only[labels,AIJ]at hn;obtain⟨n1,n2,n3⟩:=hn;have hja:JOk P E0 w0 N nb y J a (Exit.then (b.wp P Q) Q):=fun ℓ body Q' Lq=>hj ℓ body Q' (.inl Lq)
  have hjb:JOk P E0 w0 N nb y J b Q:=fun ℓ body Q' Lq=>hj ℓ body Q' (.inr Lq)
  simp only[find];rcases Lq with Lq|Lq
  ·obtain⟨kn',kx',kr',h1,h2⟩:=iha n1 (hp.then _) (kn:=fun ω σ=>run C J b kn kx kr ω σ) (kx:=kx) (kr:=kr)
    ⟨fun E σ a w h e=>mR hT hΓ hm hp hg hjb h e,fun id E σ a w h e=>hg.x id E σ a w h e,hg.r⟩ hja Lq
   exact⟨kn',kx',kr',by rw[h1],h2⟩
  ·have: ℓ ∉labels a:=fun h=>n3 ℓ h ℓ Lq.label rfl
   rw[MO this];exact ihb n2 hp hg hjb Lq
 |cond c a b iha ihb=>
  intro kn kx kr Q body Q' hn hp hg hj Lq;simp only[labels,AIJ]at hn;obtain⟨n1,n2,n3⟩:=hn;simp only[find];rcases Lq with Lq|Lq
  ·obtain⟨kn',kx',kr',h1,h2⟩:=iha n1 hp hg (fun ℓ body Q' Lq=>hj ℓ body Q' (.inl Lq)) Lq
   exact⟨kn',kx',kr',by rw[h1],h2⟩
  ·have: ℓ ∉labels a:=fun h=>n3 ℓ h ℓ Lq.label rfl
   rw[MO this];exact ihb n2 hp hg (fun ℓ body Q' Lq=>hj ℓ body Q' (.inr Lq)) Lq
 |block id c ih=>
  intro kn kx kr Q body Q' hn hp hg hj Lq;simp only[find];refine ih hn (hp.inBlock id) ⟨hg.n,fun j E σ a w h e=> ?_,hg.r⟩ (fun ℓ body Q' Lq=>hj ℓ body Q' Lq) Lq;simp only[Exit.inBlock];split
  ·rename_i hid
   simp only[hid,AKn]at e;exact hg.n E σ a w h e
  ·rename_i hid
   simp only[hid,AJU]at e;exact hg.x j E σ a w h e
 |loop c ih=>
  intro kn kx kr Q body Q' hn hp hg hj Lq;simp only[labels,ALt]at hn;have hj':JOk P E0 w0 N nb y J c (Exit.then (KS P c Q) Q):=fun ℓ body Q' Lq=>hj ℓ body Q' (.inr Lq)
  simp only[find];by_cases hl:first c= ℓ
  ·rw[AG5 hl]
   rcases Lq with⟨_,rfl,rfl⟩|Lq
   ·exact⟨kn,kx,kr,rfl,hg,hp,hj'⟩
   ·exact absurd (hl▸Lq.label) hn.1
  ·rw[AHA hl]
   rcases Lq with⟨h,_⟩|Lq
   ·exact absurd h hl
   ·exact ih hn.2 (hp.then _) ⟨fun E σ a w h e=>hj (first c) c Q (.inl ⟨rfl,rfl,rfl⟩) E σ a w h (e []),fun id E σ a w h e=>hg.x id E σ a w h e,hg.r⟩ hj' Lq
 |_=>intro kn kx kr Q body Q' hn hp hg hj Lq;exact Lq.elim
end
theorem YU{E:Env}{w:World}{vw:List Bx}:∀{l:List (Nat×XP)} {x:Ej.V l} {vals:List Value} {tm:List XV},LB E w vw id l x vals→Bi (XR E w vw) tm vals→Bi (XR E w vw) (Ej.mk id l x tm) vals
 |[],_,_,_,_,h=>h
 |(i,p)::l,x,vals,tm,hs,h=>by
  obtain⟨⟨v,hv,hx⟩,hs⟩:=hs;simp only[Ej.mk];refine YU hs ?_
  have:=Bi.set (i:=i) h hx;have e:vals.set i v=vals:=by
   apply ALy;intro j;rw[AKW];split
   ·rename_i e;subst e
    rw[AG5 (AG0.1 hv).1,hv]
   ·rfl
  rwa [e]at this
theorem Bi.undef{E:Env}{w:World}{vw:List Bx}:∀{vals:List Value} {n:Nat},n=vals.length→Bi (XR E w vw) (List.replicate n (.c .undef)) vals
 |[],n,h=>by subst h;trivial
 |v::vals,n,h=>by
  subst h;simp only[AIK,AL5];exact⟨trivial,Bi.undef rfl⟩
theorem iP.shared{E E1:Env}{w:World}{bx:List Bx}{m:K4}{s:Bn}{x:s.V}{vals:List Value}(h:iP E w bx m s x vals E1)(hb:CD E w bx bx []):
  ∃E2,E2.Ff=E1.Ff∧E2.Ft=E1.Ft∧Wx E w E2 w∧CD E2 w (GZ.mk id s.Ed x.2) (GZ.mk id s.Ed x.2) []∧LB E2 w (GZ.mk id s.Ed x.2) id s.Co x.1 vals:=by
 obtain⟨Fk,k1,k2,k3,k4⟩:=h.rest
 let E2:Env:={ E1 with S:=fun c=>E1.S c∨c∈Fk.flatten }
 have st1:=h.boxes.st;have keep:Np E1 w (GZ.mk id s.Ed x.2) E2 w (GZ.mk id s.Ed x.2):=
  ⟨AJI _,fun _ _=>rfl,fun _ h=>h,fun _ h=> .inl h,st1,fun _ _=>rfl,fun b d r rows _ e=>⟨d,rows,e,fun p hp q ys hg=>⟨hp,⟨ys,hg,rfl⟩,fun _ h=>h⟩⟩⟩
 refine⟨E2,rfl,rfl,⟨h.T,fun c hc=> .inl (h.S c hc),fun c hc=> ?_,fun c hc=> ?_,fun _ _=>rfl,rfl,rfl,rfl,AJI _⟩,?_,?_⟩
 ·rcases k4 c hc with h|h|h
  ·exact .inl h
  ·exact .inr (.inl h)
  ·exact .inr (.inr h)
 ·rcases hc with hc|hc
  ·exact h.nc c hc
  ·exact .inr (k3 c hc).1
 ·refine h.boxes.turn (E':=E2) (w':=w) (fun _ _ hv=>EB keep hv) (fun _ h=> .inl h) (fun _ _=>rfl) (fun _ _=>rfl) (fun _ _ _=>rfl) fun F hF=>⟨hF.nodup,hF.free,hF.lt,fun c hc=>hc.elim (hF.st c) fun h=>(k3 c h).2.2.2,hF.XS⟩
 ·have:∀{l:List (Nat×XP)} {z:Ej.V l},LB E1 w (GZ.mk id s.Ed x.2) id l z vals→LB E2 w (GZ.mk id s.Ed x.2) id l z vals:=by
   intro l
   induction l with
   |nil=>intro z h;trivial
   |cons q l ih=>
    obtain⟨i,p⟩:=q;intro z h;obtain⟨⟨v,hv,hx⟩,hs⟩:=h;exact⟨⟨v,hv,Kt keep hx⟩,ih hs⟩
  exact this h.Co
theorem Xd:∀{l:List BP} {i n:Nat},(N7 i n l).length=l.length
 |[],_,_=>rfl
 |_::l,i,n=>by simp[N7,Xd (l:=l)]
theorem X9:∀{l:List BP} {i n k b:Nat},(N7 i n l)[k]? =some (some b)→b=i+k∧b<n∧l[k]?≠some .gone
 |[],i,n,k,b,h=>by simp[N7]at h
 |p::l,i,n,0,b,h=>by
  simp only[N7,List.getElem?_cons_zero,AG9]at h;cases p with
  |gone=>simp at h
  |mem q=>split at h<;>simp_all<;>omega
  |sl d r=>split at h<;>simp_all<;>omega
 |p::l,i,n,k+1,b,h=>by
  simp only[N7,List.getElem?_cons_succ]at h;obtain⟨h1,h2,h3⟩:=X9 h;exact⟨by omega,h2,by simpa using h3⟩
theorem Xz:∀{l:List BP} {i n k:Nat} {p:BP},l[k]? =some p→p≠ .gone→i+k<n→(N7 i n l)[k]? =some (some (i+k))
 |q::l,i,n,0,p,h,hg,hn=>by
  simp at h;subst h;simp only[N7,List.getElem?_cons_zero,AG9];cases q with
  |gone=>exact absurd rfl hg
  |mem q=>simp at hn⊢;exact hn
  |sl d r=>simp at hn⊢;exact hn
 |q::l,i,n,k+1,p,h,hg,hn=>by
  simp only[N7,List.getElem?_cons_succ];rw[Xz (l:=l) (i:=i+1) (k:=k) (by simpa using h) hg (by omega)];congr 2;omega
 |[],_,_,_,_,h,_,_=>by simp at h
theorem dB{l:List BP}{n:Nat}:fI (N7 0 n l):=fun i j b h k=>by
 have:=(X9 h).1;have:=(X9 k).1;omega
end Go.Fw
end
section
namespace Go.Fw
structure AGJ (P:Program) (f:Nat) (fn:Func) (c:O2):Prop where
 at_:P.funcs[f]? =some fn
 call:∀args w,(callFunc f args).run P w= .ok (.enter f args) w
 con:c.ok=true
 tmps:c.ins.Co.length≤fn.ntmps
 labels:∀code,fn.body=some code→(labels code).Nodup
section
variable{P:Program} {C:Xj} (hT:Dd P C.T) {E:Env} {σ:St} {a:Act} {w:World}
include hT in
theorem rZ(h:Rel E σ a w):
  ∀{rs:List ResultVar} {xs:List XV},rs.mapM (qX C.T σ)=some xs→ ∃vs,(∀f:ResultVar→Sem Value,(∀u,f (.tmp u)=pure (a.tmps.getD u undef))→(∀b t,f (.cell b t)=(do loadVar t (←asAddr (a.tmps.getD b undef))))→
   (rs.mapM f).run P w= .ok vs w)∧Bi (XR E w σ.bx) xs vs:=by
 intro rs
 induction rs with
 |nil=>
  intro xs e;have hx:xs=[]:=by simpa using e.symm
  subst hx;exact⟨[],fun f _ _=>by simp,trivial⟩
 |cons r rs ih=>
  intro xs e;rw[AMV]at e;simp only[Option.bind_eq_bind,AHL,Option.pure_def,AG9]at e;obtain⟨x,e1,ys,e2,rfl⟩:=e;obtain⟨vs,h1,h2⟩:=ih e2;have one:∃v,(∀f:ResultVar→Sem Value,(∀u,f (.tmp u)=pure (a.tmps.getD u undef))→(∀b t,f (.cell b t)=(do loadVar t (←asAddr (a.tmps.getD b undef))))→(f r).run P w= .ok v w)∧XR E w σ.bx x v:=by
   cases r with
   |tmp t=>
    simp only[qX]at e1;obtain⟨v,hv,hx⟩:=h.tmp e1;refine⟨v,fun f hf hc=> ?_,hx⟩;rw[hf];simp[ALs,hv]
   |cell b t=>
    simp only[qX]at e1;split at e1
    case h_2=>cases e1
    rename_i z hz;obtain⟨v,hv,hx⟩:=h.tmp hz;obtain⟨Fs,hB,hS⟩:=h.bx;cases z with
    |agg l=>simp[aq]at e1
    |Ju l=>simp[aq]at e1
    |c ad=>
     obtain⟨bb,oo,u,cell,hp,_,q2,q3⟩:=gr hT hB hS.st e1 hx;refine⟨u,fun f hf hc=> ?_,q2⟩;have hgd:a.tmps.getD b undef=v:=by simp[ALs,hv]
     have:=q3 w rfl;rw[hc,hgd,hp];rw[hp]at this;simpa[Instr.loadAt,Instr.sureAddr,asAddr]using this
  obtain⟨v,g1,g2⟩:=one;refine⟨v::vs,fun f hf hc=> ?_,g2,h2⟩;rw[AMV];simp[g1 f hf hc,h1 f hf hc]
theorem XX{vw:List Bx}:∀{l:List XV} {q:List (AV ⊕ List AV)} {vs:List Value},j5 l=some q→Bi (XR E w vw) l vs→Bi (TR E w vw) q vs
 |[],q,[],e,_=>by
  simp only[j5,AG9]at e;subst e;trivial
 |[],_,_::_,_,h=>h.elim
 | .c x::l,q,v::vs,e,h=>by
  simp only[j5,AHF]at e;obtain⟨r,e1,rfl⟩:=e;exact⟨h.1,XX e1 h.2⟩
 | .agg x::l,q,v::vs,e,h=>by
  simp only[j5,AHF]at e;obtain⟨r,e1,rfl⟩:=e;exact⟨h.1,XX e1 h.2⟩
 | .Ju _::_,_,_,e,_=>by simp[j5]at e
 | .c _::_,_,[],_,h=>h.elim
 | .agg _::_,_,[],_,h=>h.elim
include hT in
theorem gP(h:Rel E σ a w){fn:Func}{x:XV}(e:eO C.T σ fn.results.toList=some x):∃v,(results fn a.tmps).run P w= .ok v w∧XR E w σ.bx x v:=by
 unfold eO at e;have key:∀xs,fn.results.toList.mapM (qX C.T σ)=some xs→ ∃vs:List Value,(results fn a.tmps).run P w= .ok (if h:vs.toArray.size=1 then vs.toArray[0]else .tuple vs.toArray) w∧Bi (XR E w σ.bx) xs vs:=by
  intro xs hx;obtain⟨vs,h1,h2⟩:=rZ (P:=P) hT h hx;refine⟨vs,?_,h2⟩;unfold results;rw[Array.mapM_eq_mapM_toList];simp only[Sem.run_bind,Sem.run_map];rw[h1 _ (fun _=>rfl) (fun _ _=>rfl)];simp only[Result.andThen_ok,Sem.run_pure]
 split at e
 ·rename_i z hz
  cases e;obtain⟨vs,h1,h2⟩:=key _ hz
  match vs,h2 with
  |[v],h2=>exact⟨v,by simpa using h1,h2.1⟩
  |v::_::_,h2=>exact h2.2.elim
  |[],h2=>exact h2.elim
 ·rename_i l hl hz
  simp only[AHF]at e;obtain⟨q,e1,rfl⟩:=e;obtain⟨vs,h1,h2⟩:=key _ hz;have YT: ¬vs.toArray.size=1:=fun hs=>by
   have:=Bi.len h2
   match l,this with
   |[z],_=>exact hl z rfl
   |[],t=>simp at t hs;omega
   |_::_::_,t=>simp at t hs;omega
  rw[dif_neg YT]at h1;exact⟨_,h1,vs.toArray,rfl,by simpa using XX e1 h2⟩
 ·cases e
end
theorem XW{E:Env}{w:World}{vw:List Bx}{more:List Value}:∀{l:List (Nat×XP)} {x:Ej.V l} {vals:List Value},LB E w vw id l x vals→LB E w vw id l x (vals++more)
 |[],_,_,_=>trivial
 |(i,p)::l,x,vals,h=>by
  obtain⟨⟨v,hv,hx⟩,hs⟩:=h;exact⟨⟨v,by rw[AHR (AG0.1 hv).1];exact hv,hx⟩,XW hs⟩
def nR(C:Xj)(c:O2)(fn:Func)(code:Code)(J:Nat→Nat→St→Option c.outs.V):Prop:=
 ∀ ℓ,ℓ ∈labels code→ ∃(s:Bn) (F:Nat→s.V→Option c.outs.V),(∀n,J n ℓ =jump c.ins.Ed.length s (F n))∧(∀v,F 0 v=none)∧
  ∀n v y,F (n+1) v=some y→ ∀ω,GH C c fn (J n) ℓ ω (s.st fn.ntmps v)=some y
section
variable{P:Program} {C:Xj} (hT:Dd P C.T) (hΓ:X6 P C.Γ) (hm:P.follows .mixedOrders=true) {fn:Func} {c:O2}
def ABX(c:O2)(E0:Env)(w0:World)(u:c.outs.V)(e:Ending)(w':World):Prop:=
 ∃x E',e= .returned x∧Wx E0 w0 E' w'∧CD E' w' (GZ.mk id c.outs.Ed u.2) (GZ.mk id c.outs.Ed u.2) []∧
  LB E' w' (GZ.mk id c.outs.Ed u.2) id c.outs.Co u.1 [x]∧ ∀i,i<c.ins.Ed.length→alive c.outs.Ed i=true→E'.Ff i=E0.Ff i∧E'.Ft i=E0.Ft i
theorem Ok.opens{E0 E:Env}{w0 w:World}{N nb:Nat}{σ:St}{a:Act}(h:Ok E0 w0 N nb E σ a w)(s:Bn):∃E',Ok E0 w0 N nb E' { σ with bx:=s.opens σ.bx } a w∧
  (∀(i:Nat) d r,s.Ed[i]? =some (.sl d r)→E'.Ft (σ.bx.length+i)= .slice none 0 0)∧(∀x v,XR E w σ.bx x v→XR E' w (s.opens σ.bx) x v):=by
 obtain⟨E',h1,h2,h3,h4⟩:=ga h.rel s;exact⟨E',h.next h1 h2 rfl,h3,h4⟩
theorem sT{E E':Env}{w:World}{vw:List Bx}{b:Nat}(h:Le E E')(st:∀c,E.S c→E.T c):Np E w vw E' w (vw.set b .dead):=by
 refine⟨by simp,fun b _=>by rw[h.Ff],h.T,h.S,st,fun _ _=>rfl,fun c d r rows _ e=> ?_⟩;by_cases hc:c=b
 ·subst hc
  rw[AKW]at e;simp only[AKn]at e;split at e<;>cases e
 ·rw[AHi (fun e=>hc e.symm)]at e
  exact⟨d,rows,e,fun p hp q ys hg=>⟨hp,⟨ys,hg,rfl⟩,fun h' hh=>by rw[h.Ft];exact hh⟩⟩
theorem AAP{E:Env}{σ:St}{a:Act}{w:World}(h:Rel E σ a w)(b:Nat):∃E',Rel E' (σ.fN b) a w∧Le E E':=by
 unfold St.fN;split
 case h_2=>exact⟨E,h,Le.refl E⟩
 rename_i d r rows hb;obtain⟨F,hF,hB⟩:=h.bx.take hb;have Qq:CD E w σ.bx (σ.bx.set b .dead) ([]++F++[]):=by simpa using hB
 obtain⟨hle,hB3⟩:=Qq.share;have hk:=sT (vw:=σ.bx) (b:=b) (w:=w) hle h.bx.st;have ua:Np E w σ.bx { E with S:=fun c=>E.S c∨c∈F,T:=fun c=>E.T c∨c∈F } w ((σ.bx.set b .dead).map (Bx.fN b r rows)):=by
  refine⟨by simp,hk.Ff,hk.T,hk.S,hk.st,hk.heap,fun c d' r' B3 hc e=> ?_⟩;rw[AJG,AHF]at e;obtain⟨B,e,eB⟩:=e;cases B with
  |mem cs=>cases eB
  |dead=>cases eB
  |sl d0 r0 MA=>
   cases eB;exact hk.box c _ _ _ hc e
 have hv:∀x v,VR E w σ.bx x v→VR { E with S:=fun c=>E.S c∨c∈F,T:=fun c=>E.T c∨c∈F } w ((σ.bx.set b .dead).map (Bx.fN b r rows)) (x.fN b r rows) v:=fun x v hx=>by
  unfold AV.fN;split
  ·rename_i c
   split
   ·rename_i hc
    subst hc;obtain⟨h1,h2⟩:=hx;rw[hb]at h2;have hv:=h2.2.2;rw[B6]at hv;simp only[AG9]at hv;have:=SV hF.2;rw[hv]at this;exact DV (fun c hc=>hc) (fun _ _=>rfl) this
   ·exact EB ua hx
  ·exact EB ua hx
 refine⟨_,⟨h.Jo,?_,?_⟩,hle⟩
 ·refine Bi.IA _ (fun x v hx=> ?_) h.tm
  unfold XV.fN;split
  ·exact hv _ _ hx
  ·exact Kt ua hx
 ·obtain⟨Fs,⟨hl,h1⟩,h2⟩:=hB
  have yM:Sep E w (F++Fs.flatten):=h2.perm (by simpa using AJA);refine⟨Fs,⟨by simpa using hl,fun k B G Md hG=> ?_⟩,?_⟩
  ·rw[AJG,AHF]at Md
   obtain⟨B0,e,rfl⟩:=Md;have h3:=h1 k B0 G e hG;cases B0 with
   |mem cs=>
    obtain⟨rfl,arr,ty,fr,a1,a2,a3⟩:=h3;exact⟨rfl,arr,ty,fr,a1,a2,Bi.IA _ (fun x v hx=>hv x v hx) a3⟩
   |sl d0 r0 MA=>exact⟨h3.1,Cr hle.S (fun _ _=>rfl) (fun _ _=>rfl) h3.2⟩
   |dead=>exact h3
  ·rw[AIs]
   have st:=h.bx.st;refine⟨(AIJ.1 yM.nodup).2.1,fun c hc ht=> ?_,fun c hc=>yM.lt c (by simp only[AIf];exact .inr hc),fun c hc=>hc.imp (st c) id,fun c hc=>hc.elim (yM.XS c) fun h' =>yM.lt c (by simp[h'])⟩;rcases ht with ht|ht
   ·exact yM.free c (AIf.2 (.inr hc)) ht
   ·exact(AIJ.1 yM.nodup).2.2 c ht c hc rfl
theorem r6{σ:St}{b i:Nat}(h:σ.bx[i]? =some .dead):(σ.fN b).bx[i]? =some .dead:=by
 unfold St.fN;split
 ·simp only[AJG,AKW]
  split
  ·split
   ·rfl
   ·rename_i h2
    subst_vars
    exact absurd (AG0.1 h).1 h2
  ·rw[h];rfl
 ·exact h
theorem ni{σ:St}{b:Nat}:(σ.fN b).bx.length=σ.bx.length∧(σ.fN b).tm.length=σ.tm.length:=by
 unfold St.fN;split<;>simp
theorem Ok.fN{E0 E:Env}{w0 w:World}{N nb:Nat}{σ:St}{a:Act}(h:Ok E0 w0 N nb E σ a w)(b:Nat):∃E',Ok E0 w0 N nb E' (σ.fN b) a w:=by
 obtain⟨E',h1,h2⟩:=AAP h.rel b;refine⟨E',⟨h1,h.base.trans (h2.base w),by rw[ni.2];exact h.tm,by rw[ni.1];exact h.fQ,fun i hi hd=> ?_⟩⟩;rw[h2.Ff,h2.Ft];exact h.ids i hi fun e=>hd (r6 e)
theorem Ok.LS{E0:Env}{w0 w:World}{N nb:Nat}{a:Act}:∀(l:List AP) (xs:List AV) {E:Env} {σ:St},Ok E0 w0 N nb E σ a w→ ∃E',Ok E0 w0 N nb E' (LS l xs σ) a w:=by
 intro l xs E σ h
 induction l generalizing xs E σ with
 |nil=>unfold Fw.LS;exact⟨E,h⟩
 |cons p l ih=>
  unfold Fw.LS;split
  ·rename_i heq
   cases heq;obtain⟨E',h'⟩:=h.fN _;exact ih _ h'
  ·rename_i heq
   cases heq;exact ih _ h
  ·exact⟨E,h⟩
theorem Ok.AKT{E0:Env}{w0 w:World}{N nb:Nat}{a:Act}{bs:List BP}:∀(l:List (Nat×XP)) {E:Env} {σ:St},Ok E0 w0 N nb E σ a w→ ∃E',Ok E0 w0 N nb E' (LQ bs l σ) a w:=by
 intro l
 induction l with
 |nil=>intro E σ h;exact⟨E,h⟩
 |cons q l ih=>
  intro E σ h;unfold LQ;split
  ·cases ‹_::_=[]›
  ·rename_i e
   cases e;split
   ·obtain⟨E',h'⟩:=h.LS [_] [_]
    exact ih h'
   ·exact ih h
  ·rename_i e
   cases e;split
   ·split
    ·obtain⟨E',h'⟩:=h.LS _ _
     exact ih h'
    ·exact ih h
   ·exact ih h
  ·rename_i e
   cases e;exact ih h
theorem jF{E:Env}{w:World}{vw:List Bx}{x:AV}{v:Value}(h:VR E w vw x v)(hx:x.iB=true):isSlice v=true:=by
 cases x with
 |ref b p=>exact h.1
 |win b p o n=>exact h.1
 |sl s r y=>
  simp only[VR,Rd]at h;obtain⟨a,cap,h,_⟩:=h;simp only[AJD,AKa]at h;rw[h];rfl
 |nil=>cases h;rfl
 |_=>cases hx
theorem l_{E:Env}{σ:St}{a:Act}{w:World}(h:Rel E σ a w)(b j:Nat):Rel E (σ.forget b j) a w∧σ.bx.length≤(σ.forget b j).bx.length∧(∀i:Nat,σ.bx[i]? =some Bx.dead→(σ.forget b j).bx[i]? =some Bx.dead)∧(σ.forget b j).tm=σ.tm:=by
 unfold St.forget;split
 case h_2=>exact⟨h,AJI _,fun _ h=>h,rfl⟩
 rename_i cs hb;split
 case h_2=>exact⟨h,AJI _,fun _ h=>h,rfl⟩
 rename_i x hx;split
 case isFalse=>exact⟨h,AJI _,fun _ h=>h,rfl⟩
 rename_i hs;have lQ:=(AG0.1 hb).1;have hk:Np E w σ.bx E w (σ.bx.set b (.mem (cs.set j (.ref σ.bx.length [])))++[.dead]):=by
  refine⟨by simp,fun _ _=>rfl,fun _ h=>h,fun _ h=>h,h.bx.st,fun _ _=>rfl,fun c d r rows hc e=> ?_⟩;rw[AHR (by simpa using hc)]at e;by_cases qJ:b=c
  ·subst qJ
   rw[AIp hc]at e;cases e
  ·rw[AHi qJ]at e
   exact⟨d,rows,e,fun p hp q ys hg=>⟨hp,⟨ys,hg,rfl⟩,fun h' hh=>hh⟩⟩
 refine⟨⟨h.Jo,h.tm.imp fun _ _ hx=>Kt hk hx,?_⟩,by simp,fun i hi=> ?_,rfl⟩
 ·obtain⟨Fs,⟨hl,h1⟩,h2⟩:=h.bx
  refine⟨Fs++[[]],⟨by simp[hl],fun k B G hB hG=> ?_⟩,by simpa using h2⟩;by_cases ua:k<σ.bx.length
  ·rw[AHR (by simpa using ua)]at hB
   rw[AHR (by omega)]at hG;by_cases hkb:b=k
   ·subst hkb
    rw[AIp ua]at hB;cases hB;obtain⟨rfl,arr,ty,fr,a1,a2,a3⟩:=h1 b _ G hb hG;refine⟨rfl,arr,ty,fr,a1,a2,?_⟩;have a4:YM E w (σ.bx.set b (.mem (cs.set j (.ref σ.bx.length [])))++[.dead]) cs arr.toList:=a3.imp fun _ _ hv=>EB hk hv
    obtain⟨v,hv,hvr⟩:=a3.get hx;have Pd:arr.toList.set j v=arr.toList:=by
     apply ALy;intro i;by_cases tE:j=i
     ·subst tE
      rw[AIp (AG0.1 hv).1,hv]
     ·rw[AHi tE]
    rw[←Pd];refine Bi.set a4 ⟨jF hvr hs,?_⟩;have:(σ.bx.set b (.mem (cs.set j (.ref σ.bx.length [])))++[.dead])[σ.bx.length]? =some .dead:=by
     rw[AIw (by simp)];simp
    rw[this]
    trivial
   ·rw[AHi hkb]at hB
    have h3:=h1 k B G hB hG;cases B with
    |mem VN=>
     obtain⟨rfl,arr,ty,fr,a1,a2,a3⟩:=h3;exact⟨rfl,arr,ty,fr,a1,a2,a3.imp fun _ _ hv=>EB hk hv⟩
    |sl d0 r0 MA=>exact h3
    |dead=>exact h3
  ·have hlen:=(AG0.1 hB).1
   simp only[AIj,AKr,AIK,AI4]at hlen;have hkk:k=σ.bx.length:=by omega
   subst hkk;rw[AIw (by simp)]at hB;rw[AIw (by omega)]at hG;simp[hl]at hB hG;subst hB hG;rfl
 ·have hil:=(AG0.1 hi).1
  rw[AHR (by simpa using hil)];have nD:b≠i:=fun e=>by
   subst e;rw[hb]at hi;cases hi
  rw[AHi nD];exact hi
theorem Ok.forget{E0 E:Env}{w0 w:World}{N nb:Nat}{σ:St}{a:Act}(h:Ok E0 w0 N nb E σ a w)(b j:Nat):Ok E0 w0 N nb E (σ.forget b j) a w:=by
 obtain⟨h1,h2,h3,h4⟩:=l_ h.rel b j;exact⟨h1,h.base,by rw[h4];exact h.tm,AJe h.fQ h2,fun i hi hd=>h.ids i hi fun e=>hd (h3 i e)⟩
theorem Ok.Qu{E0 E:Env}{w0 w:World}{N nb:Nat}{a:Act}{bs:List BP}{b:Nat}:∀(l:List AP) (j:Nat) {σ:St},Ok E0 w0 N nb E σ a w→Ok E0 w0 N nb E (Qu bs b j l σ) a w
 |[],_,_,h=>h
 |p::l,j,σ,h=>by
  simp only[Fw.Qu];refine Ok.Qu l (j+1) ?_
  split
  ·split
   ·exact h.forget _ _
   ·exact h
  ·exact h
theorem Ok.AGx{E0 E:Env}{w0 w:World}{N nb:Nat}{a:Act}{bs:List BP}:∀(l:List (Nat×XP)) {σ:St},Ok E0 w0 N nb E σ a w→Ok E0 w0 N nb E (V8 bs l σ) a w
 |[],_,h=>h
 |(i,p)::l,σ,h=>by
  simp only[V8];refine Ok.AGx l ?_
  split
  ·split
   ·exact h.Qu _ _
   ·exact h
  ·exact h
include hT in
theorem gy{E0 E:Env}{w0 w:World}{N:Nat}{σ:St}{a:Act}{u:c.outs.V}(h:Ok E0 w0 N c.ins.Ed.length E σ a w)(e:fi C.T c fn.results.toList σ=some u):
  a.defers=[]∧ ∃v,(results fn a.tmps).run P w= .ok v w∧ABX c E0 w0 u (.returned v) w:=by
 unfold fi at e;simp only[AHL,AHF]at e;obtain⟨x,e1,⟨u',m⟩,e2,rfl⟩:=e;obtain⟨v,h1,h2⟩:=gP hT h.rel e1;obtain⟨E,h,jQ,h4⟩:=h.opens c.outs
 replace h2:=h4 _ _ h2
 obtain⟨hext,E1,hf⟩:=aR (tm:=[x]) (vals:=[v]) h.rel.bx ⟨h2,trivial⟩ jQ Xd dB e2;obtain⟨E2,q1,q2,q3,q4,q5⟩:=hf.shared h.rel.bx;refine⟨h.rel.Jo,v,h1,v,E2,rfl,h.base.trans q3,q4,q5,fun i hi qL=> ?_⟩;obtain⟨p,hp,hg⟩:∃p,c.outs.Ed[i]? =some p∧p≠ .gone:=by
  unfold alive at qL;cases hh:c.outs.Ed[i]? with
  |none=>rw[hh]at qL;cases qL
  |some p=>
   refine⟨p,rfl,fun hp=> ?_⟩;rw[hh,hp]at qL;cases qL
 have qI:=hext.2 i i (by have:=Xz (i:=0) (n:=c.ins.Ed.length) hp hg (by omega);simpa using this);obtain⟨b,B,g1,g2,g3,_⟩:=iH e2 i p hp hg;rw[qI]at g1;cases g1;have hid:=hf.ids i i qI;have rL:=h.ids i hi (fun hd=>by rw[g2]at hd;cases hd;exact g3 rfl);rw[q1,q2];exact⟨hid.1.trans rL.1,hid.2.trans rL.2⟩
include hT hΓ hm in
theorem so{code:Code}(hb:fn.body=some code)(hl:(labels code).Nodup){J:Nat→Nat→St→Option c.outs.V}(hJ:nR C c fn code J)
  {E0:Env} {w0:World} {u:c.outs.V} {Q:Za} (hp:V7 Q)
  (hg:Good E0 w0 fn.ntmps c.ins.Ed.length u (fun _=>fi C.T c fn.results.toList) (fun _ _ _=>none) (fun _=>fi C.T c fn.results.toList) Q):
  ∀n,JOk P E0 w0 fn.ntmps c.ins.Ed.length u (J n) code Q:=by
 intro n
 induction n with
 |zero=>
  intro ℓ body Q' Lq E σ a w h e;obtain⟨s,F,j1,j2,j3⟩:=hJ ℓ Lq.label;rw[j1]at e;simp only[jump]at e;split at e
  ·rw[AHL]at e
   obtain⟨q,_,e⟩:=e;rw[j2]at e;cases e
  ·cases e
 |succ n ih=>
  intro ℓ body Q' Lq E σ a w h e;obtain⟨s,F,j1,j2,j3⟩:=hJ ℓ Lq.label;rw[j1]at e;simp only[jump]at e;split at e
  case isFalse=>cases e
  rename_i fQ;rw[AHL]at e;obtain⟨⟨v,m⟩,e1,e2⟩:=e;dsimp only at e2;obtain⟨E,h⟩:=h.AKT (bs:=s.Ed) s.Co
  replace h:=h.AGx (bs:=s.Ed) s.Co
  revert h e1
  generalize V8 s.Ed s.Co (LQ s.Ed s.Co σ)=σ
  intro e1 h;obtain⟨E,h,jQ,h4⟩:=h.opens s;obtain⟨hext,E1,hf⟩:=aR h.rel.bx h.rel.tm jQ Xd dB e1;obtain⟨E2,q1,q2,q3,q4,q5⟩:=hf.shared h.rel.bx;have LJ:fn.ntmps=a.tmps.toList.length:=by rw[←Bi.len h.rel.tm,h.tm]
  have F6:Ok E0 w0 fn.ntmps c.ins.Ed.length E2 (s.st fn.ntmps v) a w:=by
   refine⟨⟨h.rel.Jo,YU q5 (Bi.undef LJ),q4⟩,h.base.trans q3,?_,?_,fun i hi hd=> ?_⟩
   ·have:=Bi.len (YU q5 (Bi.undef LJ))
    simp only[Bn.st];rw[this,←LJ]
   ·simp only[Bn.st]
    rw[N9];exact fQ
   ·simp only[Bn.st]at hd
    have hp':s.Ed[i]? =some (s.Ed[i]'(by omega)):=AG7 _;have hng:s.Ed[i]'(by omega)≠ .gone:=fun jn=>by
     obtain⟨z,z1,_⟩:=Ui id (u:=v.2) hp';apply hd;rw[z1]
     generalize s.Ed[i]'(by omega)=pp at z jn
     subst jn;rfl
    have qI:=hext.2 i i (by have:=Xz (i:=0) (n:=c.ins.Ed.length) hp' hng (by omega);simpa using this);obtain⟨b,B,g1,g2,g3,_⟩:=iH e1 i _ hp' hng;rw[qI]at g1;cases g1;have hid:=hf.ids i i qI;have rL:=h.ids i hi (fun hd=>by rw[g2]at hd;cases hd;exact g3 rfl);rw[q1,q2];exact⟨hid.1.trans rL.1,hid.2.trans rL.2⟩
  have ng:=j3 n v u e2;obtain⟨kn',kx',kr',hfind,jy,hnp,hj⟩:=vW hT hΓ hm hl hp hg ih Lq;simp only[GH,hb,hfind]at ng;refine KS.AAN (mR hT hΓ hm (hnp.then _) (kn:=fun _ σ=>J n ℓ σ) ⟨fun E σ a w h e=> ?_,fun id E σ a w h e=>jy.x id E σ a w h e,jy.r⟩ hj F6 ng);exact ih ℓ body Q' Lq E σ a w h (e [])
include hT hΓ hm in
theorem su{f:Nat}(hf:AGJ P f fn c){J:Nat→Nat→St→Option c.outs.V}(hJ:∀code,fn.body=some code→nR C c fn code J)
  (hg:∀v u,c.g v=some u→ ∃n,∀ω,FW C c fn (J n) ω v=some u):Uv P f c:=by
 refine⟨hf.con,hf.call,fun E w v args u GJ hB hS hgv=> ?_⟩;obtain⟨n,hn⟩:=hg v u hgv;cases hb:fn.body with
 |none=>
  have:=hn [];simp only[FW,hb]at this;cases this
 |some code=>
  simp only[FW,hb]at hn;refine calls_of_wp hf.at_ hb ?_
  have hp:V7 (bodyPost P fn (ABX c E w u)):=fun ch a w' hq=>by
   obtain⟨_,x,E',hx,_⟩:=hq;cases hx
  have jy:Good E w fn.ntmps c.ins.Ed.length u (fun _=>fi C.T c fn.results.toList) (fun _ _ _=>none) (fun _=>fi C.T c fn.results.toList) (bodyPost P fn (ABX c E w u)):=
   ⟨fun E' σ a w' h e=>gy hT h (e []),fun id E' σ a w' h e=>(by cases e []),fun E' σ a w' h e=>gy hT h (e [])⟩
  have F6:Ok E w fn.ntmps c.ins.Ed.length E (c.ins.st fn.ntmps v) { tmps:=args++Array.replicate (fn.ntmps-args.size) undef,defers:=[] } w:=by
   have htm:Bi (XR E w (GZ.mk id c.ins.Ed v.2)) (Ej.mk id c.ins.Co v.1 (List.replicate fn.ntmps (.c .undef))) (args++Array.replicate (fn.ntmps-args.size) undef).toList:=by
    rw[Array.toList_append];refine YU (XW hS) (Bi.undef ?_);have:=hf.tmps;simp;omega
   refine⟨⟨rfl,htm,hB⟩,Wx.refl E w,?_,by simp only[Bn.st];rw[N9];exact AJI _,fun _ _ _=>⟨rfl,rfl⟩⟩;simp only[Bn.st];rw[Bi.len htm];have:=hf.tmps;simp;omega
  exact mR hT hΓ hm hp jy (so hT hΓ hm hb (hf.labels code hb) (hJ code hb) hp jy n) F6 hn
end
end Go.Fw
end
section
namespace Go.Fw
def Dr:List Ty→Ty
 |[]=> .unit
 |c::l=> .cons c (Dr l)
def ku(row:TypeId→Option (List Ty×Bool))(cells:TypeId→Nat):Nat→List Field→Option (List Ty)
 |_,[]=>some []
 |o,f::fs=>
  match row f.type with
  |some (l,_)=>if f.offset=o∧cells f.type=l.length then(ku row cells (o+l.length) fs).map (l++ ·)else none
  |none=>none
def Zj:List Ty×Bool→Ty
 |(l,true)=>Dr l
 |([c],false)=>c
 |_=> .unit
def rowOf(P:Program):Nat→TypeId→Option (List Ty×Bool)
 |0,_=>none
 |n+1,t=>
  match P.underlying t with
  |some (.int k)=>some ([.int k],false)
  |some .bool=>some ([.bool],false)
  |some .string=>some ([.str],false)
  |some (.slice e)=>
   match rowOf P n e with
   |some q=>if P.cellsOf e=q.1.length∧0<q.1.length then some ([.sl (Zj q)],false)else none
   |none=>none
  |some (.struct fs)=>
   match ku (rowOf P n) P.cellsOf 0 fs.toList with
   |some l=>if P.cellsOf t=l.length then some (l,true)else none
   |none=>none
  |_=>none
def Vd:(t:Ty)→t.D→Prop
 | .int k,x=>(Lit.int k x).wf=true
 | .bool,_=>True
 | .str,x=>List.length x≤maxLen
 | .sl r,x=>List.length x≤maxLen∧ ∀y∈x,Vd r y
 | .unit,_=>True
 | .cons c r,x=>Vd c x.1∧Vd r x.2
theorem YZ{α:Type}{p:Nat→α→Prop}:∀{n:Nat},(∀i,i<n→ ∃y,p i y)→ ∃x:List α,x.length=n∧ ∀(i:Nat) y,x[i]? =some y→p i y
 |0,_=>⟨[],rfl,fun i y h=>by simp at h⟩
 |n+1,h=>by
  obtain⟨x,h1,h2⟩:=YZ (n:=n) (p:=p) (fun i hi=>h i (by omega));obtain⟨y,hy⟩:=h n (by omega);refine⟨x++[y],by simp[h1],fun i z hz=> ?_⟩;by_cases hi:i<x.length
  ·rw[AHR hi]at hz
   exact h2 i z hz
  ·rw[AIw (by omega)]at hz
   have hil:=(AG0.1 hz).1;simp at hil;have:i=n:=by omega
   subst this;simp[h1]at hz;subst hz;exact hy
theorem gw{w:World}{B:Nat→Prop}:∀{l m:List Ty} {cs ds:List Value} {x:(Dr l).D} {y:(Dr m).D},Rd w B (Dr l) cs x→Rd w B (Dr m) ds y→Vd (Dr l) x→Vd (Dr m) y→
  ∃z:(Dr (l++m)).D,Rd w B (Dr (l++m)) (cs++ds) z∧Vd (Dr (l++m)) z
 |[],m,cs,ds,x,y,h,k,hx,hy=>by
  simp only[Dr,Rd]at h;subst h;exact⟨y,k,hy⟩
 |c::l,m,cs,ds,x,y,h,k,hx,hy=>by
  simp only[Dr,Rd]at h;obtain⟨v,r,rfl,h1,h2⟩:=h;obtain⟨z,z1,z2⟩:=gw h2 k hx.2 hy;exact⟨(x.1,z),by simp only[AKv,Dr,Rd];exact⟨v,r++ds,rfl,h1,z1⟩,hx.1,z2⟩
theorem o_{P:Program}{n:Nat}{t:TypeId}{l:List Ty}(h:rowOf P n t=some (l,false)):∃c,l=[c]:=by
 cases n with
 |zero=>simp[rowOf]at h
 |succ n=>
  simp only[rowOf]at h;split at h
  ·cases h;exact⟨_,rfl⟩
  ·cases h;exact⟨_,rfl⟩
  ·cases h;exact⟨_,rfl⟩
  ·split at h
   ·split at h
    ·cases h;exact⟨_,rfl⟩
    ·cases h
   ·cases h
  ·split at h
   ·split at h
    ·cases h
    ·cases h
   ·cases h
  ·cases h
theorem ix{w:World}{B:Nat→Prop}{P:Program}{n:Nat}{t:TypeId}{q:List Ty×Bool}(h:rowOf P n t=some q){cs:List Value}{x:(Dr q.1).D}(hx:Rd w B (Dr q.1) cs x)(hv:Vd (Dr q.1) x):
  (Zj q).n=q.1.length∧ ∃y:(Zj q).D,Rd w B (Zj q) cs y∧Vd (Zj q) y:=by
 obtain⟨l,b⟩:=q;cases b with
 |true=>
  refine⟨?_,x,hx,hv⟩;clear h hx hv x;simp only[Zj]
  induction l with
  |nil=>rfl
  |cons c l ih=>simp[Dr,Ty.n,ih]
 |false=>
  obtain⟨c,rfl⟩:=o_ h;simp only[Dr,Rd]at hx;obtain⟨v,r,rfl,h1,h2⟩:=hx;subst h2;refine⟨?_,x.1,h1,hv.1⟩;have:=aP h1;simp only[Zj];simpa using this.symm
theorem oh(a:Addr):a.add 0=a:=by simp[Addr.add]
theorem px{w:World}{a:Addr}{v:Value}(h:w.cell? a=some v):a.spot=none:=by
 unfold World.cell? at h;split at h
 ·split at h
  ·cases h
  ·rename_i hs;simpa using hs
 ·cases h
section
variable{H:Type} {enc:TypeId×Value→H} {P:Program} {w:World} {spare:Nat→Bool} {held:Bool}
theorem ZO:∀(n:Nat) {t:TypeId} {q:List Ty×Bool},rowOf P n t=some q→ ∀{fuel:Nat} {cs:List Value} {x:DataW H×List MemPlace},DataW.trod enc P w 0 spare held fuel t cs=some x→
  ∃y:(Dr q.1).D,Rd w (fun b=>b<w.heap.size) (Dr q.1) cs y∧Vd (Dr q.1) y
 |0,t,q,h,_,_,_,_=>by simp[rowOf]at h
 |n+1,t,q,h,fuel,cs,x,hx=>by
  simp only[rowOf]at h;split at h
  ·rename_i k hu
   cases h;obtain⟨m,rfl,_,hw⟩:=DataW.trod_int hu hx;exact⟨(m,()),by simp[Dr,Rd],hw,trivial⟩
  ·rename_i hu
   cases h;obtain⟨b,rfl,_⟩:=DataW.trod_bool hu hx;exact⟨(b,()),by simp[Dr,Rd],trivial,trivial⟩
  ·rename_i hu
   cases h;obtain⟨s,rfl,_,hs⟩:=DataW.trod_string hu hx;refine⟨(s.data.toList,()),by simp[Dr,Rd],?_,trivial⟩
   show s.data.toList.length≤maxLen
   rw[AL7];exact hs
  ·rename_i e hu
   split at h
   case h_2=>cases h
   rename_i q' hq';split at h
   case isFalse=>cases h
   rename_i ik;cases h;rcases DataW.trod_slice hu hx with⟨rfl,_⟩|⟨a,len,cap,elems,rest,m,_,rfl,_,_,hlc,hcm,UK,Lq,_,_⟩
   ·refine⟨([],()),?_,⟨by simp,by simp⟩,trivial⟩
    simp only[Dr,Rd];exact⟨_,[],rfl,⟨_,_,rfl,by simp,.inl rfl⟩,rfl⟩
   ·have each:∀i,i<len→ ∃y:(Zj q').D,Vd (Zj q') y∧ ∃ds,ds.length=(Zj q').n∧(∀j,j<ds.length→w.cell? ((a.add (i*P.cellsOf e)).add j)=ds[j]?)∧Rd w (fun b=>b<w.heap.size) (Zj q') ds y:=by
     intro i hi;have hz:elems[i]? =some (elems[i]'(by omega)):=AG7 _;have h1:=Lq i hi;rw[hz,AHL]at h1;obtain⟨ds,hds,htr⟩:=h1;obtain⟨z,z1,z2⟩:=ZO n hq' htr;obtain⟨_,c1,c2⟩:=World.cells?_some hds
     obtain⟨a1,y,a2,a3⟩:=ix hq' z1 z2;exact⟨y,a3,ds,by rw[c1,a1,ik.1],fun j hj=>c2 j (by omega),a2⟩
    obtain⟨xs,x1,x2⟩:=YZ each;refine⟨(xs,()),?_,⟨by show xs.length≤maxLen;omega,fun y hy=> ?_⟩,trivial⟩
    ·simp only[Dr,Rd]
     refine⟨_,[],rfl,⟨_,cap,by rw[x1],by omega,?_⟩,rfl⟩;by_cases h0:len=0
     ·exact .inl (by omega)
     right
     obtain⟨y0,_,ds0,d0,d1,_⟩:=each 0 (by omega);have hn0:0<(Zj q').n:=by
      rw[d0.symm];have hz:elems[0]? =some (elems[0]'(by omega)):=AG7 _;have h1:=Lq 0 (by omega);rw[hz,AHL]at h1;obtain⟨ds,hds,htr⟩:=h1;obtain⟨z,z1,z2⟩:=ZO n hq' htr;have:=(ix hq' z1 z2).1;omega
     have hc0:=d1 0 (by omega);simp only[Nat.zero_mul,oh]at hc0;have qN:w.cell? a=some (ds0[0]'(by omega)):=by rw[hc0];exact AG7 _
     have pM:=px qN;obtain⟨b,o,s⟩:=a;simp only at pM;subst pM;refine⟨b,o,rfl,?_,fun i y hy=> ?_⟩
     ·unfold World.cell? at qN
      split at qN
      ·rename_i hb;exact(Array.getElem?_eq_some_iff.1 hb).1
      ·cases qN
     ·have hil:=(AG0.1 hy).1
      obtain⟨_,ds,e0,e1,e2⟩:=x2 i y hy;have hcn:P.cellsOf e=(Zj q').n:=by
       have hz:elems[i]? =some (elems[i]'(by omega)):=AG7 _;have h1:=Lq i (by omega);rw[hz,AHL]at h1;obtain⟨ds,hds,htr⟩:=h1;obtain⟨z,z1,z2⟩:=ZO n hq' htr;rw[(ix hq' z1 z2).1,ik.1]
      refine⟨ds,e0,fun j v hj=> ?_,e2⟩;have nS:=(AG0.1 hj).1;have:=e1 j nS;rw[Addr.add_eq,Addr.add_eq,hcn]at this;rw[this,hj]
    ·obtain⟨i,hi,rfl⟩:=AKN hy
     exact(x2 i _ (AG7 hi)).1
  ·rename_i fs hu
   split at h
   case h_2=>cases h
   rename_i l hl;split at h
   case isFalse=>cases h
   rename_i Vm;cases h;obtain⟨xs,m,_,_,hlen,hxs,Lq⟩:=DataW.trod_struct hu hx;have key:∀(fs:List Field) (o:Nat) (l:List Ty) (i0:Nat),ku (rowOf P n) P.cellsOf o fs=some l→cs.length=o+l.length→(∀(i:Nat) (f:Field),fs[i]? =some f→ ∃z,DataW.trod enc P w 0 spare held m f.type ((cs.drop f.offset).take (P.cellsOf f.type))=some z)→
     ∃y:(Dr l).D,Rd w (fun b=>b<w.heap.size) (Dr l) (cs.drop o) y∧Vd (Dr l) y:=by
    intro fs
    induction fs with
    |nil=>
     intro o l i0 hl hc _;simp only[ku,AG9]at hl;subst hl;refine⟨(),?_,trivial⟩;simp only[Dr,Rd];simp at hc;simp[hc]
    |cons f fs ih=>
     intro o l i0 hl hc Lq;simp only[ku]at hl;split at hl
     case h_2=>cases hl
     rename_i l1 b1 hr;split at hl
     case isFalse=>cases hl
     rename_i hof;simp only[AHF]at hl;obtain⟨l2,rN,rfl⟩:=hl;obtain⟨z,hz⟩:=Lq 0 f rfl;obtain⟨y1,a1,a2⟩:=ZO n hr hz;obtain⟨y2,b1,b2⟩:=ih (o+l1.length) l2 0 rN (by simp at hc;omega) (fun i f hf=>Lq (i+1) f (by simpa using hf));obtain⟨y,c1,c2⟩:=gw a1 b1 a2 b2;refine⟨y,?_,c2⟩;rw[hof.1,hof.2,←List.drop_drop,AMK]at c1;exact c1
   have:=key fs.toList 0 l 0 hl (by rw[hlen,Vm];simp) (fun i f hf=>by
    have hf':fs[i]? =some f:=by simpa using hf
    have hil:i<xs.length:=by rw[hxs];exact(Array.getElem?_eq_some_iff.1 hf').1
    exact⟨xs[i],by rw[Lq i f hf'];exact AG7 hil⟩)
   simpa using this
  ·cases h
end
end Go.Fw
end
section
open Go.RowKit
namespace Go.Fw
def jH(W:World):Env:={ Ff:=fun _=>0,Ft:=fun _=> .nilFunc,T:=fun b=>b<W.heap.size,S:=fun b=>b<W.heap.size }
abbrev dK:Bn:=⟨[(0,.c (.v .bool))],[]⟩
theorem oC{P:Program}{f:Nat}{Co:List (Nat×XP)}{g:Bn.V ⟨Co,[]⟩→Option dK.V}(hs:Uv P f ⟨⟨Co,[]⟩,dK,g⟩){W:World}{args:Array Value}(x:Ej.V Co)(hlen:args.size=Co.length)
  (hx:LB (jH W) W [] id Co x args.toList) (hg:g (x,())=some ((true,()),())):Calls P f args W fun e W' =>e= .returned (.bool true)∧Below W.heap.size W W':=by
 obtain⟨_,_,h⟩:=hs;refine(h (jH W) W (x,()) args _ hlen ⟨[],⟨rfl,fun k B F h=>by simp[GZ.mk]at h⟩,by simp,by simp,by simp,fun _ h=>h,fun _ h=>h⟩ hx hg).mono fun e W' hR=> ?_
 obtain⟨v,E',rfl,base,_,⟨⟨v',hv,hxr⟩,_⟩,_⟩:=hR;simp at hv;subst hv;have:v= .bool true:=by
  have h2:VR E' W' [] (.v .bool true) v:=hxr;exact M1 h2
 subst this;exact⟨rfl,base.os,base.tape,base.output,base.size,fun k hk=>base.heap k hk⟩
theorem tL{W:World}{vw:List Bx}{s:Bool}{r:Ty}{v:Value}{y:List r.D}(h:Rd W (fun b=>b<W.heap.size) (.sl r) [v] y):XR (jH W) W vw (XP.mk id (.c (.sl s r)) y) v:=by
 show Rd W (if s then _ else _) (.sl r) [v] y
 cases s<;>exact h
end Go.Fw
end
section
namespace Go.Fw
def T5:List (Nat×O2)→Nat→Option O2
 |[],_=>none
 |(f,c)::l,g=>if f=g then some c else T5 l g
def zC(P:Program):List (Nat×O2)→Prop
 |[]=>True
 |q::l=>Uv P q.1 q.2∧zC P l
theorem dM{P:Program}:∀{l:List (Nat×O2)},zC P l→X6 P (T5 l)
 |[],_=>fun f c e=>by cases e
 |(g,d)::l,h=>fun f c e=>by
  simp only[T5]at e;split at e
  ·rename_i hg
   cases e;subst hg;exact h.1
  ·exact dM h.2 f c e
theorem ey{P:Program}{f:Nat}{fn:Func}(hf:P.funcs[f]? =some fn)(hn:(fn.name== "runtime.NumGoroutine")=false)(hb:fn.body.isNone=false)(args:Array Value)(w:World):
  (callFunc f args).run P w= .ok (.enter f args) w:=by
 have h1:fn.name≠ "runtime.NumGoroutine" :=by simpa using hn
 have h2:fn.body≠none:=by
  intro h;rw[h]at hb;cases hb
 simp[callFunc,hf,h1,h2]
def YX(fn:Func)(c:O2):Bool:=
 !(
  fn.name== "runtime.NumGoroutine")&& !fn.body.isNone&&c.ok&&decide (c.ins.Co.length≤fn.ntmps)&&(match fn.body with
  |some code=>decide (labels code).Nodup
  |none=>true)
theorem AKy{P:Program}{f:Nat}{fn:Func}{c:O2}(hf:P.funcs[f]? =some fn)(h:YX fn c=true):AGJ P f fn c:=by
 simp only[YX,AHN,AK2,AHl]at h;obtain⟨⟨⟨⟨h1,h2⟩,h3⟩,h4⟩,h5⟩:=h;refine⟨hf,ey hf h1 h2,h3,h4,fun code hc=> ?_⟩;rw[hc]at h5;simpa using h5
def X7(C:Xj)(c:O2)(fn:Func)(J:Nat→Nat→St→Option c.outs.V):List Nat→Prop
 |[]=>True
 | ℓ ::l=>(∃(s:Bn) (F:Nat→s.V→Option c.outs.V),(∀n,J n ℓ =jump c.ins.Ed.length s (F n))∧(∀v,F 0 v=none)∧
  ∀n v,∀ω,GH C c fn (J n) ℓ ω (s.st fn.ntmps v)=F (n+1) v)∧X7 C c fn J l
theorem X7.ok{C:Xj}{c:O2}{fn:Func}{J:Nat→Nat→St→Option c.outs.V}:∀{l:AAz},X7 C c fn J l→ ∀ ℓ ∈l,∃(s:Bn) (F:Nat→s.V→Option c.outs.V),(∀n,J n ℓ =jump c.ins.Ed.length s (F n))∧(∀v,F 0 v=none)∧
  ∀n v y,F (n+1) v=some y→ ∀ω,GH C c fn (J n) ℓ ω (s.st fn.ntmps v)=some y
 |[],_,ℓ,h=>by cases h
 |k::l,hl,ℓ,h=>by
  rcases AI5.1 h with rfl|h
  ·obtain⟨⟨s,F,h1,h2,h3⟩,_⟩:=hl
   exact⟨s,F,h1,h2,fun n v y e ω=>(h3 n v ω).trans e⟩
  ·exact X7.ok hl.2 ℓ h
def ZB(fn:Func):AAz:=
 match fn.body with
 |some code=>labels code
 |none=>[]
def C0:List AFr→Nat→List Nat
 |[],_=>[]
 |(r,h)::l,q=>if r=q then h else C0 l q
theorem qx{P:Program}{T:G8}{l:List (Nat×O2)}{hint:Nat→List Nat}{f:Nat}{fn:Func}{c:O2}(hT:Dd P T)(hm:P.follows .mixedOrders=true)(hf:P.funcs[f]? =some fn)(hl:zC P l)(hc:YX fn c=true)
  {J:Nat→Nat→St→Option c.outs.V} {L:AAz} (hL:ZB fn=L) (hJ:X7 ⟨T,T5 l,hint⟩ c fn J L) (n:Nat) (he:∀ω v,FW ⟨T,T5 l,hint⟩ c fn (J n) ω v=c.g v):Uv P f c:=
 su (C:=⟨T,T5 l,hint⟩) hT (dM hl) hm (AKy hf hc) (J:=J) (fun code hb ℓ hℓ =>X7.ok hJ ℓ (by
  rw[←hL];simp only[ZB,hb];exact hℓ)) fun v u hg=>⟨n,fun ω=>(he ω v).trans hg⟩
end Go.Fw
end
section
namespace Go.M
abbrev DH:Nat:=Go.Fw.DH
def AX(x:Int):Int:=IntKind.wrap .i64 x
def W8(κ:IntKind)(a b:Int):Int:=κ.wrap (BitVec.ofInt κ.bits a &&& BitVec.ofInt κ.bits b).toNat
def bOr(κ:IntKind)(a b:Int):Int:=κ.wrap (BitVec.ofInt κ.bits a ||| BitVec.ofInt κ.bits b).toNat
def AEM(κ:IntKind)(a b:Int):Int:=κ.wrap (BitVec.ofInt κ.bits a ^^^ BitVec.ofInt κ.bits b).toNat
theorem dL:∃n:Nat,2^64≤n:=⟨_,AJI _⟩
noncomputable def Aa:Nat:=Classical.choose dL
theorem We:2^64≤Aa:=Classical.choose_spec dL
end Go.M
end
section
namespace Go.Fw
structure SP (P:Program) where
 f:Nat
 c:O2
 h:Uv P f c
def SP.l{P:Program}:List (SP P)→List (Nat×O2)
 |[]=>[]
 |s::l=>(s.f,s.c)::SP.l l
theorem nU{P:Program}:∀l:List (SP P),zC P (SP.l l)
 |[]=>trivial
 |s::l=>⟨s.h,nU l⟩
@[reducible] def AP.Cu (R:Type):AP→Type
 | .gf _ rs=>S9 rs→R
 | .v t=>t.D→R
 | .sl _ r=>List r.D→R
 | .gF r=>r.D→R
 | .aL _ _=>Nat×Nat→R
 |_=>R
def AP.un{R:Type}:(p:AP)→p.Cu R→p.V→R
 | .gf _ _,f,x=>f x
 | .v _,f,x=>f x
 | .sl _ _,f,x=>f x
 | .gF _,f,x=>f x
 | .aL _ _,f,x=>f x
 | .nil,f,_=>f
 | .ref _,f,_=>f
 | .ptr _ _,f,_=>f
 | .fn _ _,f,_=>f
 | .any,f,_=>f
@[reducible] def Rt.Cu (R:Type):List AP→Type
 |[]=>R
 |p::l=>p.Cu (Rt.Cu R l)
def Rt.un{R:Type}:(l:List AP)→Rt.Cu R l→Rt.V l→R
 |[],f,_=>f
 |p::l,f,x=>Rt.un l (p.un f x.1) x.2
@[reducible] def SM.Cu (R:Type):List (AP ⊕ List AP)→Type
 |[]=>R
 | .inl p::l=>p.Cu (SM.Cu R l)
 | .inr q::l=>Rt.Cu (SM.Cu R l) q
def SM.un{R:Type}:(l:List (AP ⊕ List AP))→SM.Cu R l→SM.V l→R
 |[],f,_=>f
 | .inl p::l,f,x=>SM.un l (p.un f x.1) x.2
 | .inr q::l,f,x=>SM.un l (Rt.un q f x.1) x.2
@[reducible] def XP.Cu (R:Type):XP→Type
 | .c p=>p.Cu R
 | .agg l=>Rt.Cu R l
 | .row r=>r.D→R
 | .Ju l=>SM.Cu R l
def XP.un{R:Type}:(p:XP)→p.Cu R→p.V→R
 | .c p,f,x=>p.un f x
 | .agg l,f,x=>Rt.un l f x
 | .row _,f,x=>f x
 | .Ju l,f,x=>SM.un l f x
@[reducible] def BP.Cu (R:Type):BP→Type
 | .mem l=>Rt.Cu R l
 | .sl _ r=>List r.D→R
 | .gone=>R
def BP.un{R:Type}:(p:BP)→p.Cu R→p.V→R
 | .mem l,f,x=>Rt.un l f x
 | .sl _ _,f,x=>f x
 | .gone,f,_=>f
@[reducible] def Ej.Cu (R:Type):List (Nat×XP)→Type
 |[]=>R
 |(_,p)::l=>p.Cu (Ej.Cu R l)
def Ej.un{R:Type}:(l:List (Nat×XP))→Ej.Cu R l→Ej.V l→R
 |[],f,_=>f
 |(_,p)::l,f,x=>Ej.un l (p.un f x.1) x.2
@[reducible] def GZ.Cu (R:Type):List BP→Type
 |[]=>R
 |p::l=>p.Cu (GZ.Cu R l)
def GZ.un{R:Type}:(l:List BP)→GZ.Cu R l→GZ.V l→R
 |[],f,_=>f
 |p::l,f,x=>GZ.un l (p.un f x.1) x.2
@[reducible] def Bn.Cu (s:Bn) (R:Type):Type:=Ej.Cu (GZ.Cu R s.Ed) s.Co
def Bn.un{R:Type}(s:Bn)(f:s.Cu R)(v:s.V):R:=GZ.un s.Ed (Ej.un s.Co f v.1) v.2
structure Lp (o:Bn) where
 ℓ :Nat
 s:Bn
 F:Nat→s.Cu (Option o.V)
def Nj{o:Bn}(nb:Nat):List (Lp o)→Nat→Nat→St→Option o.V
 |[],_,_,_=>none
 |p::l,n,ℓ,σ=>if ℓ =p.ℓ then jump nb p.s (p.s.un (p.F n)) σ else Nj nb l n ℓ σ
inductive Ri (C:Xj) (c:O2) (fn:Func) (J:Nat→Nat→St→Option c.outs.V):List (Lp c.outs)→Prop
 |nil:Ri C c fn J []
 |cons {ℓ :Nat} {s:Bn} {F:Nat→s.Cu (Option c.outs.V)} {l:List (Lp c.outs)} (h0:∀v,s.un (F 0) v=none) (h1:∀n v ω,GH C c fn (J n) ℓ ω (s.st fn.ntmps v)=s.un (F (n+1)) v) (h:Ri C c fn J l):Ri C c fn J (⟨ℓ,s,F⟩::l)
def Lp.ls{o:Bn}:List (Lp o)→List Nat
 |[]=>[]
 |p::l=>p.ℓ ::Lp.ls l
theorem rC{o:Bn}{nb:Nat}:∀{l:List (Lp o)} (n:Nat) {ℓ :Nat} (p:Lp o) (pre:List (Lp o)),ℓ =p.ℓ →(Lp.ls (pre++p::l)).Nodup→Nj nb (pre++p::l) n ℓ =jump nb p.s (p.s.un (p.F n))
 |l,n,ℓ,p,[],e,_=>by
  funext σ
  simp[Nj,e]
 |l,n,ℓ,p,q::pre,e,hn=>by
  funext σ
  have hq: ℓ ≠q.ℓ :=by
   intro h;simp only[AKv,Lp.ls,ALt]at hn;refine hn.1 ?_
   rw[←h,e];clear hn h e
   induction pre with
   |nil=>simp[Lp.ls]
   |cons a m ih=>simp[Lp.ls,ih]
  have:=congrFun (rC (nb:=nb) (l:=l) n p pre e (by simp only[AKv,Lp.ls,ALt]at hn;exact hn.2)) σ;simp only[AKv,Nj,AHA hq];exact this
theorem Ri.ok{C:Xj}{c:O2}{fn:Func}{nb:Nat}(hb:nb=c.ins.Ed.length){L:List (Lp c.outs)}(hn:(Lp.ls L).Nodup):∀{l pre:List (Lp c.outs)},L=pre++l→Ri C c fn (Nj nb L) l→X7 C c fn (Nj nb L) (Lp.ls l)
 |[],_,_,_=>trivial
 |⟨ℓ,s,F⟩::l,pre,e,.cons h0 h1 h=>by
  refine⟨⟨s,fun n=>s.un (F n),fun n=> ?_,h0,fun n v ω=>h1 n v ω⟩,Ri.ok hb hn (pre:=pre++[⟨ℓ,s,F⟩]) (by simp[e]) h⟩;subst hb;rw[e];exact rC n ⟨ℓ,s,F⟩ pre rfl (by rw[←e];exact hn)
def mkP{P:Program}{T:G8}(hT:Dd P T)(hm:P.follows .mixedOrders=true){f:Nat}{fn:Func}(hf:P.funcs[f]? =some fn)(i o:Bn)(g:i.Cu (Option o.V))(l:List (SP P))(h:List AFr)(L:List (Lp o))(n:Nat)
  (hL:ZB fn=Lp.ls L) (hd:decide (Lp.ls L).Nodup=true) (hc:YX fn ⟨i,o,i.un g⟩=true)
  (hJ:Ri ⟨T,T5 (SP.l l),C0 h⟩ ⟨i,o,i.un g⟩ fn (Nj i.Ed.length L) L)
  (he:∀ω v,FW ⟨T,T5 (SP.l l),C0 h⟩ ⟨i,o,i.un g⟩ fn (Nj i.Ed.length L n) ω v=i.un g v):SP P:=
 ⟨f,⟨i,o,i.un g⟩,qx (l:=SP.l l) hT hm hf (nU l) hc (J:=Nj i.Ed.length L) (L:=Lp.ls L) hL (Ri.ok rfl (by simpa using hd) (pre:=[]) rfl hJ) n he⟩
theorem AD{Q:List Bool→Prop}(a:Q [])(b:∀ω,Q (false::ω))(d:∀ω,Q (true::ω)):∀ω,Q ω
 |[]=>a
 |false::ω=>b ω
 |true::ω=>d ω
end Go.Fw
end
section
namespace Go.Fw
open Go.Proofs Go.Shelf Go.RowKit Go.Lib
structure ADX (P:Program) (ρ:Ren) (nm:String) (fv:Func):Prop where
 mixed:P.follows .mixedOrders=true
 f22:P.funcs[ρ.f 22]? =some { Body2.n22 ρ with name:=nm }
 n22:(nm== "runtime.NumGoroutine")=false
 f29:P.funcs[ρ.f 29]? =some fv
 n29:(fv.name== "runtime.NumGoroutine")=false
 b29:fv.body.isNone=true
 e29:Extern.findNext fv=none
 x29:Extern.find fv=some (Extern.SlicesOverlaps.overlaps #[(ρ.t 24),(ρ.t 24)] #[(ρ.t 4)])
 t0:P.underlying (ρ.t 0)=some (TypeDesc.tuple #[])
 a0:∀w,(isAgg (ρ.t 0)).run P w= .ok false w
 z0:∀w,(Go.sizeOf (ρ.t 0)).run P w= .ok 1 w
 v0:∀w,(zeroValue (ρ.t 0)).run P w= .ok (Value.tuple #[]) w
 t3:P.underlying (ρ.t 3)=some (TypeDesc.int IntKind.i64)
 a3:∀w,(isAgg (ρ.t 3)).run P w= .ok false w
 z3:∀w,(Go.sizeOf (ρ.t 3)).run P w= .ok 1 w
 v3:∀w,(zeroValue (ρ.t 3)).run P w= .ok (Value.int IntKind.i64 0) w
 t4:P.underlying (ρ.t 4)=some (TypeDesc.bool)
 a4:∀w,(isAgg (ρ.t 4)).run P w= .ok false w
 z4:∀w,(Go.sizeOf (ρ.t 4)).run P w= .ok 1 w
 v4:∀w,(zeroValue (ρ.t 4)).run P w= .ok (Value.bool false) w
 t24:P.underlying (ρ.t 24)=some (TypeDesc.slice (ρ.t 9))
 a24:∀w,(isAgg (ρ.t 24)).run P w= .ok false w
 z24:∀w,(Go.sizeOf (ρ.t 24)).run P w= .ok 1 w
 v24:∀w,(zeroValue (ρ.t 24)).run P w= .ok (Value.slice none 0 0) w
section
variable{P:Program} {ρ:Ren} {nm:String} {fv:Func}
end
end Go.Fw
end
section
namespace Go.Fw
open Go.Proofs Go.Shelf Go.RowKit Go.Lib
def Flat(w:World)(r:Ty)(css:List (List Value))(rows:List r.D):Prop:=
 css.length=rows.length∧(∀c∈css,c.length=r.n)∧ ∀(i:Nat) cs y,css[i]? =some cs→rows[i]? =some y→Rd w (fun _=>False) r cs y
theorem Flat.to{w w':World}{r:Ty}(hf:r.flat=true){css:List (List Value)}{rows:List r.D}(h:Flat w r css rows):Flat w' r css rows:=
 ⟨h.1,h.2.1,fun i cs y a b=>cS hf (h.2.2 i cs y a b)⟩
theorem Flat.take{w:World}{r:Ty}{css:List (List Value)}{rows:List r.D}(h:Flat w r css rows)(n:Nat):Flat w r (css.take n) (rows.take n):=by
 refine⟨by simp[h.1],fun c hc=>h.2.1 c (AMN hc),fun i cs y a b=> ?_⟩;rw[List.getElem?_take]at a b;split at a
 ·rename_i hi
  rw[AG5 hi]at b;exact h.2.2 i cs y a b
 ·cases a
theorem Flat.drop{w:World}{r:Ty}{css:List (List Value)}{rows:List r.D}(h:Flat w r css rows)(n:Nat):Flat w r (css.drop n) (rows.drop n):=by
 refine⟨by simp[h.1],fun c hc=>h.2.1 c (AMO hc),fun i cs y a b=> ?_⟩;rw[ALv]at a b;exact h.2.2 _ cs y a b
theorem Flat.append{w:World}{r:Ty}{css ess:List (List Value)}{rows AII:List r.D}(h:Flat w r css rows)(k:Flat w r ess AII):Flat w r (css++ess) (rows++AII):=by
 refine⟨by simp[h.1,k.1],fun c hc=>(AIf.1 hc).elim (h.2.1 c) (k.2.1 c),fun i cs y a b=> ?_⟩;by_cases hi:i<rows.length
 ·rw[AHR (by rw[h.1];exact hi)]at a
  rw[AHR hi]at b;exact h.2.2 i cs y a b
 ·rw[AIw (by rw[h.1];omega)]at a
  rw[AIw (by omega)]at b;rw[h.1]at a;exact k.2.2 _ cs y a b
theorem Flat.one{w:World}{r:Ty}(hf:r.flat=true){css:List (List Value)}{rows:List r.D}(h:Flat w r css rows):∀v∈css.flatten,v.oneCell' =true:=by
 intro v hv;obtain⟨c,hc,hv⟩:=AJB.1 hv;obtain⟨i,hi,rfl⟩:=AKN hc;have h1:=h.1;exact dH (Yu (S:=fun _=>False) (d:=0) hf (h.2.2 i _ _ (AG7 hi) (AG7 (by omega)))) v hv
theorem Flat.at{w:World}{S:Nat→Prop}{d:Nat}{r:Ty}(hf:r.flat=true){css:List (List Value)}{rows:List r.D}(h:Flat w r css rows):Ds w S d r css rows (List.replicate rows.length []):=Ds.flat hf h.1 h.2.1 h.2.2
end Go.Fw
end
section
namespace Go.Fw
open Go.M Go.Proofs Go.Shelf Go.RowKit Go.Lib
structure AJP (P:Program) (ρ:Ren) (nm:String):Prop where
 mixed:P.follows .mixedOrders=true
 f24:P.funcs[ρ.f 24]? =some { Body2.n24 ρ with name:=nm }
 n24:(nm== "runtime.NumGoroutine")=false
 t0:P.underlying (ρ.t 0)=some (TypeDesc.tuple #[])
 a0:∀w,(isAgg (ρ.t 0)).run P w= .ok false w
 z0:∀w,(Go.sizeOf (ρ.t 0)).run P w= .ok 1 w
 v0:∀w,(zeroValue (ρ.t 0)).run P w= .ok (Value.tuple #[]) w
 t3:P.underlying (ρ.t 3)=some (TypeDesc.int IntKind.i64)
 a3:∀w,(isAgg (ρ.t 3)).run P w= .ok false w
 z3:∀w,(Go.sizeOf (ρ.t 3)).run P w= .ok 1 w
 v3:∀w,(zeroValue (ρ.t 3)).run P w= .ok (Value.int IntKind.i64 0) w
 t4:P.underlying (ρ.t 4)=some (TypeDesc.bool)
 a4:∀w,(isAgg (ρ.t 4)).run P w= .ok false w
 z4:∀w,(Go.sizeOf (ρ.t 4)).run P w= .ok 1 w
 v4:∀w,(zeroValue (ρ.t 4)).run P w= .ok (Value.bool false) w
 t24:P.underlying (ρ.t 24)=some (TypeDesc.slice (ρ.t 9))
 a24:∀w,(isAgg (ρ.t 24)).run P w= .ok false w
 z24:∀w,(Go.sizeOf (ρ.t 24)).run P w= .ok 1 w
 v24:∀w,(zeroValue (ρ.t 24)).run P w= .ok (Value.slice none 0 0) w
section
variable{P:Program} {ρ:Ren} {nm:String}
end
end Go.Fw
end
section
namespace Go.Fw
open Go.M Go.Proofs Go.Shelf Go.RowKit Go.Lib
theorem Ds.take{w:World}{S:Nat→Prop}{d:Nat}{r:Ty}{css:List (List Value)}{rows:List r.D}{Fs:List AAz}(h:Ds w S d r css rows Fs)(n:Nat):Ds w S d r (css.take n) (rows.take n) (Fs.take n):=by
 refine⟨by simp[h.1],by simp[h.2.1],fun c hc=>h.2.2.1 c (AMN hc),fun i cs y G a b c=> ?_⟩;rw[List.getElem?_take]at a b c;split at a
 ·rename_i hi
  rw[AG5 hi]at b c;exact h.2.2.2 i cs y G a b c
 ·cases a
theorem Ds.drop{w:World}{S:Nat→Prop}{d:Nat}{r:Ty}{css:List (List Value)}{rows:List r.D}{Fs:List AAz}(h:Ds w S d r css rows Fs)(n:Nat):Ds w S d r (css.drop n) (rows.drop n) (Fs.drop n):=by
 refine⟨by simp[h.1],by simp[h.2.1],fun c hc=>h.2.2.1 c (AMO hc),fun i cs y G a b c=> ?_⟩;rw[ALv]at a b c;exact h.2.2.2 _ cs y G a b c
end Go.Fw
end
section
namespace Go.Fw
open Go.M Go.Proofs Go.Shelf Go.RowKit Go.Lib
section
variable{P:Program} {ρ:Ren} {nm:String} {fv:Func}
theorem Wh{t:TypeId}{n:Nat}(h:(P.info? t).map (·.size)=some n):∀w,(Go.sizeOf t).run P w= .ok n w:=fun w=>by
 obtain⟨i,hi,rfl⟩:=AHF.1 h;simp[sizeOf,typeInfo,hi]
theorem cR{t:TypeId}{z:Value}(h:(P.info? t).bind (·.zero)=some z):∀w,(zeroValue t).run P w= .ok z w:=fun w=>by
 obtain⟨i,hi,hz⟩:=AHL.1 h;simp[zeroValue,typeInfo,hi,hz]
structure ABV (P:Program) (ρ:Ren):Prop where
 t0:P.underlying (ρ.t 0)=some (TypeDesc.tuple #[])
 t3:P.underlying (ρ.t 3)=some (TypeDesc.int IntKind.i64)
 t4:P.underlying (ρ.t 4)=some (TypeDesc.bool)
 t24:P.underlying (ρ.t 24)=some (TypeDesc.slice (ρ.t 9))
 s0:(P.info? (ρ.t 0)).map (·.size)=some 1
 s3:(P.info? (ρ.t 3)).map (·.size)=some 1
 s4:(P.info? (ρ.t 4)).map (·.size)=some 1
 s24:(P.info? (ρ.t 24)).map (·.size)=some 1
 v0:(P.info? (ρ.t 0)).bind (·.zero)=some (Value.tuple #[])
 v3:(P.info? (ρ.t 3)).bind (·.zero)=some (Value.int IntKind.i64 0)
 v4:(P.info? (ρ.t 4)).bind (·.zero)=some (Value.bool false)
 v24:(P.info? (ρ.t 24)).bind (·.zero)=some (Value.slice none 0 0)
theorem ABV.ins(h:ABV P ρ)(hm:P.follows .mixedOrders=true)(f22:P.funcs[ρ.f 22]? =some { Body2.n22 ρ with name:=nm })(n22:(nm== "runtime.NumGoroutine")=false)(f29:P.funcs[ρ.f 29]? =some fv)(n29:(fv.name== "runtime.NumGoroutine")=false)
  (b29:fv.body.isNone=true) (e29:Extern.findNext fv=none) (x29:Extern.find fv=some (Extern.SlicesOverlaps.overlaps #[(ρ.t 24),(ρ.t 24)] #[(ρ.t 4)])):ADX P ρ nm fv:=
 ⟨hm,f22,n22,f29,n29,b29,e29,x29,h.t0,run_isAgg_plain h.t0 rfl,Wh h.s0,cR h.v0,h.t3,run_isAgg_plain h.t3 rfl,Wh h.s3,cR h.v3,h.t4,run_isAgg_plain h.t4 rfl,Wh h.s4,cR h.v4,h.t24,run_isAgg_plain h.t24 rfl,Wh h.s24,cR h.v24⟩
@[reducible] def G4 (f22 f24 f29 f30 t24 t9:Nat):Ren:=⟨fun k=>if k=22 then f22 else if k=24 then f24 else if k=29 then f29 else if k=30 then f30 else k,fun k=>if k=24 then t24 else if k=9 then t9 else k,fun k=>k⟩
end
end Go.Fw
end
