/- The framework, part 2: a checked interpreter of the model's code over abstract states; no claim is made here. -/
import Derived.Test.YtdmpcbfbjigonaaGreatDoorF0
import Derived.Below
import Derived.ChangeArms
import Derived.ChangeOld
import Derived.DataReads
import Derived.Handed
import Derived.LaidLaws
import Derived.Lib.AtoiAll
import Derived.Lib.IndexMore
import Derived.Lib.ItoaNum
import Derived.Lib.SlicesS
import Derived.Lib.Strings
import Derived.MakeChecks
import Derived.OrdersHeld
import Derived.Shelf.Slices.Delete
import Derived.Shelf.Slices.Turned
import Derived.Shelf.Spec.SlicesInsertGrow
import Derived.Shelf.Strconv.Itoa3
import Derived.Shelf.Strings.Cut
import Derived.Shelf.Strings.Prefix
import Derived.Shelf.Strings.Search3
import Derived.Stop.LaidErr
import Derived.Tactics
set_option linter.unusedVariables false
set_option linter.unusedSimpArgs false
set_option linter.unusedSectionVars false
section
namespace Go.Fw
theorem aZ{E:Env}{w:World}{vw:List Bx}:∀{l:List XV} {bs:ABC} {vs:List Value},fX l=some bs→BU (XR E w vw) l vs→(∀b∈bs,b<vw.length)∧vs=bs.map fun b=>Value.pointer (some ⟨E.EY b,0,none⟩)
 |[],bs,vs,e,h=>by
  simp only[fX,AD_]at e;subst e;cases vs with
  |nil=>exact⟨by simp,rfl⟩
  |cons _ _=>exact h.elim
 |x::l,bs,vs,e,h=>by
  unfold fX at e;split at e
  ·rename_i heq;cases heq
  ·rename_i b l' heq
   cases heq;simp only[AEC]at e;obtain⟨r,e1,rfl⟩:=e;cases vs with
   |nil=>exact h.elim
   |cons v vs=>
    obtain⟨h1,h2⟩:=h;obtain⟨k1,k2⟩:=aZ e1 h2;obtain⟨h3,h4⟩:b<vw.length∧v= .pointer (some ⟨E.EY b,0,none⟩):=h1;exact⟨fun c hc=>(AEd.1 hc).elim (fun e=>e▸h3) (k1 c),by rw[h4,k2];rfl⟩
  ·cases e
theorem evs{E:Env}{σ:St}{a:Act}{w:World}(h:Rel E σ a w):∀l:List Operand,BU (XR E w σ.bx) (l.map σ.ev) (l.map a.eval)
 |[]=>trivial
 |x::l=>⟨h.ev x,evs h l⟩
theorem jF{E:Env}{σ:St}{a:Act}{w:World}(h:Rel E σ a w):∀o:Option Operand,OR E w σ.bx (o.map σ.ev) (o.map a.eval)
 |none=>trivial
 |some x=>h.ev x
theorem gD{w:World}{S:Nat→Prop}:∀{p:List Xm} {d:Nat} {r:Ty} {h:Value} {rows:List r.D} {F:ABC} {q:Ty} {ys:List q.D} {v:Value},Ow w S d (.sl r) [h] rows F→Bt r rows p→
  Dl r rows p=some ⟨q,ys⟩→d≤p.length→Fb w h p=some v→Rd w S (.sl q) [v] ys
 |p,0,r,h,rows,F,q,ys,v,ho,hp,hg,_,hv=>by
  simp only[Ow]at ho;obtain⟨h',k,hr⟩:=Yj ho.1 hp hg;have:=k w (fun _ _=>rfl);rw[hv]at this;cases this;exact hr
 |[],d+1,r,h,rows,F,q,ys,v,ho,hp,hg,hd,hv=>by simp at hd
 |s::p,d+1,r,h,rows,F,q,ys,v,ho,hp,hg,hd,hv=>by
  simp only[Bt]at hp;obtain⟨hi,He,hp⟩:=hp;simp only[Dl]at hg;obtain⟨a,len,cap,rfl⟩:∃a len cap,h= .slice a len cap:=by
   have:=ho;simp only[Ow]at this;obtain⟨a,cap,e,_⟩:=this;simp only[AEk,AFR]at e;exact⟨_,_,_,e⟩
  split at hg
  case h_2=>cases hg
  rename_i q' x' Sw;rw[Sw]at hp;obtain⟨b,o,arr,ty,fr,cs,G,R,rfl,hb,hu,hbd,c1,c2,c3,Xc,hback⟩:=dV ho hi;obtain⟨u,A1,A2,k1,k2,k3,k4⟩:=Tg c3 Sw;simp only[Fb]at hv;rw[He,c2 _ _ k1]at hv;exact gD k2 hp hg (by simp at hd;omega) hv
theorem iy{E:Env}{σ:St}{a:Act}{w:World}(h:Rel E σ a w){b i sz j:Nat}{p:List Xm}{va v:Value}(sY:VR E w σ.bx (.FP b p i sz j) va){x:XV}(hv:XR E w σ.bx x v)(h1c:∀u∈v.cells.toList,u.oneCell' =true)
  {σ':St} (e:Kr σ (.c (.FP b p i sz j)) x=some σ'):
  ∃bb oo E',va= .pointer (some ⟨bb,oo,none⟩)∧w.there bb oo v.cells.toList.length∧Rel E' σ' a (w.setCells bb oo v.cells.toList)∧Ka [b] E σ.bx w E' σ'.bx (w.setCells bb oo v.cells.toList)∧σ'.tm.length=σ.tm.length:=by
 unfold Kr Q3 at e;split at e
 ·rename_i b0 _ _ _ _ b' s p' off n heq
  cases heq;split at e
  case isFalse=>cases e
  rename_i oF;subst oF;split at e
  case h_2=>cases e
  rename_i d r rows hb;simp only[AED,AEC]at e;obtain⟨q,⟨⟨q0,ys⟩,hg,rfl⟩,e⟩:=e;dsimp only at e;have Er:=(AD7.1 hb).1;obtain⟨F,⟨hd1,ho⟩,hB⟩:=h.bx.take hb;obtain⟨A,W,pF,zg⟩:=Fv (d:=min d (p'.length+1)) (by omega) ho;have OP:=hB.perm (G':=A++W++[]) (by rw[AEX,AEX];exact pF);obtain⟨hle,hB3⟩:=OP.share
  generalize hE1:({ E with S:=fun c=>E.S c∨c∈W,T:=fun c=>E.T c∨c∈W }:Env)=E1 at hle hB3
  have ho3:Ow w E1.S (min d (p'.length+1)) (.sl r) [E1.Ei b'] rows A:=by
   rw[hle.Ei];subst hE1;exact zg
  have hB4:=hB3.put (b:=b') (B:= .sl (min d (p'.length+1)) r rows) (by rw[AEQ Er]) ⟨by omega,ho3⟩;rw[AG8]at hB4;have hk:Ld E w σ.bx E1 w (σ.bx.set b' (.sl (min d (p'.length+1)) r rows)):=by
   refine⟨by simp,fun _ _=>by rw[hle.EY],hle.T,hle.S,h.bx.st,fun _ _=>rfl,fun c d' r' rows' hc e=> ?_⟩;by_cases lX:b' =c
   ·subst lX
    rw[AEQ Er]at e;simp only[AD_,Bx.sl.injEq]at e;obtain⟨rfl,rfl,e⟩:=e;obtain rfl:=AE9 e;exact⟨d,rows,hb,fun p hp q ys hg=>⟨hp,⟨ys,hg,rfl⟩,fun h' hh=>by rw[hle.Ei];exact hh⟩⟩
   ·rw[AEH lX]at e
    exact⟨d',rows',e,fun p hp q ys hg=>⟨hp,⟨ys,hg,rfl⟩,fun h' hh=>by rw[hle.Ei];exact hh⟩⟩
  have SK:VR E w σ.bx (.win b' (s::p') off n) v:=hv;have RD:XR E1 w (σ.bx.set b' (.sl (min d (p'.length+1)) r rows)) (.c (.sl true q0 ((ys.drop off).take n))) v:=by
   simp only[VR,hb]at SK;obtain⟨_,hp,q1,ys1,a1,len,cap,g1,g2,g3,rfl⟩:=SK;rw[hg]at g1;simp only[AD_,AEP]at g1;obtain⟨rfl,g1⟩:=g1;obtain rfl:=AE9 g1;have:=gD ho3 hp hg (by simp only[AEI];omega) (by rw[hle.Ei];exact g3);exact iX this g2
  have hr:Rel E1 { σ with bx:=σ.bx.set b' (.sl (min d (p'.length+1)) r rows) } a w:=
   ⟨h.ID,h.tm.imp fun _ _ hx=>JH hk hx,hB4.turn (E':=E1) (w':=w) (fun _ _ hv=>DN ⟨by simp,fun _ _=>rfl,fun _ h=>h,fun _ h=>h,hB3.st,fun _ _=>rfl,fun c d' r' rows' hc e=>by
    by_cases lX:b' =c
    ·subst lX
     rw[AEQ Er]at e;simp only[AD_,Bx.sl.injEq]at e;obtain⟨rfl,rfl,e⟩:=e;obtain rfl:=AE9 e;exact⟨d,rows,hb,fun p hp q ys hg=>⟨hp,⟨ys,hg,rfl⟩,fun h' hh=>hh⟩⟩
    ·rw[AEH lX]at e
     exact⟨d',rows',e,fun p hp q ys hg=>⟨hp,⟨ys,hg,rfl⟩,fun h' hh=>hh⟩⟩⟩ hv) (fun _ h=>h) (fun _ _=>rfl) (fun _ _=>rfl) (fun _ _ _=>rfl) fun F hF=>hF⟩
  obtain⟨bb,oo,E',q1,q2,q3,q4,q5⟩:=cW hr (DN hk sY) RD h1c e;refine⟨bb,oo,E',q1,q2,q3,⟨(hle.base w).trans q4.base,by simpa using q4.len,fun c hc=> ?_,fun c hc=> ?_,fun c B B' hct hB Kt hd=> ?_⟩,q5⟩
  ·have:=q4.ids c (by simpa using hc)
   exact⟨this.1.trans (by rw[hle.EY]),this.2.trans (by rw[hle.Ei])⟩
  ·refine q4.dead c ?_
   have lX:b'≠c:=fun e=>by subst e;rw[hb]at hc;cases hc
   simp only;rw[AEH lX];exact hc
  ·have lX:b'≠c:=fun e=>hct (by simp[e])
   obtain⟨f1,f2⟩:=q4.frame c B B' hct (by simp only;rw[AEH lX];exact hB) Kt hd;refine⟨f1,fun c' UK=>f2 c' ?_⟩;cases B with
   |mem cs=>exact UK.trans (by rw[hle.EY])
   |sl d0 r0 KW=>simp only[gR]at UK⊢;rw[hle.Ei];exact UK
   |dead=>exact UK
 ·simp only[AEV]at e
  exact cW h sY hv h1c e
def aF:Op→Bool
 | .call { callee:= .value _,.. }=>true
 |_=>false
section
variable{Y:Type} {P:Program} {T:F9} (hT:C2 P T) {o:Oper} {E:Env} {σ:St} {a:Act} {w:World} {k:K Y} {y:Y}
include hT
theorem hO(h:Rel E σ a w){t:TypeId}{oa ox:Operand}(ho:o.op= .store t oa ox){ti:TI}(Kq:T.get t=some ti)
  (hc:(σ.ev ox).cells.length=ti.size∧ti.size≠0∧(σ.ev ox).cells.all AV.known=true) {σ':St} (hs:Kr σ (σ.ev oa) (σ.ev ox)=some σ') (e:k (.c .undef) σ' =some y):Gl P o E σ a w k y:=by
 obtain⟨c1,c2,c3⟩:=hc;have SY:(σ.ev ox).cells≠[]:=fun hh=>by rw[hh]at c1;exact c2 c1.symm
 obtain⟨O7,h1c⟩:=aT (h.ev ox) c3 SY;have hlen:(a.eval ox).cells.toList.length=ti.size:=by rw[←BU.len O7];exact c1
 have hi:(P.info? t).map (·.size)=some (a.eval ox).cells.toList.length:=by rw[hlen];exact C2.size hT Kq
 have sY:=h.ev oa;have fin:∀{bb oo:Nat} {E':Env},a.eval oa= .pointer (some ⟨bb,oo,none⟩)→w.there bb oo (a.eval ox).cells.toList.length→Rel E' σ' a (w.setCells bb oo (a.eval ox).cells.toList)→
   Ka (Eu (fun _=>none) σ o.op) E σ.bx w E' σ'.bx (w.setCells bb oo (a.eval ox).cells.toList)→σ'.tm.length=σ.tm.length→Gl P o E σ a w k y:=by
  intro bb oo E' e1 e2 e3 e4 e5;have hr:=YN (P:=P) e2 hi h1c;refine⟨undef,_,E',.c .undef,σ',.inr ⟨?_,rfl⟩,e3,trivial,e4,e5,e⟩;simp only[execOp,ho,e1,Sem.run_bind,hr,Result.andThen_ok,Sem.run_pure]
 generalize hxa:σ.ev oa=xa at hs sY
 cases xa with
 |agg l=>simp[Kr,Q3,Uo]at hs
 |Hd l=>simp[Kr,Q3,Uo]at hs
 |c x=>
  cases x with
  |Eb b j=>
   simp only[Kr,Q3,AEV,Uo]at hs;split at hs
   case h_2=>cases hs
   rename_i cs hb;simp only[AEC]at hs;obtain⟨SW,hs,rfl⟩:=hs;have AFV:b<σ.bx.length∧a.eval oa= .pointer (some ⟨E.EY b,j,none⟩):=sY;obtain⟨q1,q2,q3⟩:=kM h hb O7 SY hs;exact fin AFV.2 q1 q2 (by rw[ho];simp only[Eu,hxa];exact q3) rfl
  |FP b p i sz j=>
   obtain⟨bb,oo,E',q1,q2,q3,q4,q5⟩:=iy h sY (h.ev ox) h1c hs;exact fin q1 q2 q3 (by rw[ho];simp only[Eu,hxa];exact q4) q5
  |_=>simp[Kr,Q3,Uo]at hs
omit hT in
theorem eX(h:Rel E σ a w){x:Operand}(ho:o.op= .assign x)(e:RY σ (σ.ev x) k=some y):Gl P o E σ a w k y:=by
 have hr:(execOp a.eval o).run P w= .ok (.value (a.eval x)) w:=by simp only[execOp,ho,Sem.run_pure]
 have hv:=h.ev x;unfold RY at e;split at e
 ·rename_i b off n hx
  rw[hx]at hv;simp only[AED]at e;obtain⟨⟨r,rows,bx,d⟩,e1,e⟩:=e;dsimp only at e;have SF:VR E w σ.bx (.win b [] off n) (a.eval x):=hv;obtain⟨hd,F1,F2,k1,ho1⟩:=UP h.bx (Cs.refl _) SF e1;obtain⟨Fs0,hB1,OP⟩:=k1.boxes;simp only[AEX]at OP;have nd:=(AEJ.1 (AEJ.1 OP.nodup).2.1).1;obtain⟨r1,r2,r3⟩:=Lq h k1 (w':=w) hd ho1 (fun c hc=> .inl (AEZ.2 (.inl hc))) nd (fun c hc=>OP.lt c (by simp[hc])) (fun _ _ _=>rfl) ⟨rfl,rfl,rfl,AE7 _⟩;exact⟨_,_,_,_,_,.inl hr,r1,r3,r2.any,rfl,e⟩
 ·exact Gl.same h hr hv e
theorem kW{Γ:Nat→Option NK}(h:Rel E σ a w)(e:PJ T Γ o σ k=some y)(bp:aF o.op=false):Gl P o E σ a w k y:=by
 have same:∀{v:Value} {x:XV},(execOp a.eval o).run P w= .ok (.value v) w→XR E w σ.bx x v→k x σ=some y→Gl P o E σ a w k y:=fun h1 h2 h3=>Gl.same h h1 h2 h3
 obtain⟨Fs,hB,hS⟩:=h.bx;have st:=hS.st;unfold PJ at e;split at e
 ·rename_i x ho
  exact same (v:=a.eval x) (by simp only[execOp,ho,Sem.run_pure]) (h.ev x) e
 ·rename_i x ho
  exact eX h ho e
 ·rename_i c xa xb ho
  split at e
  case h_2=>cases e
  rename_i p hp;have hc:=h.ev c;rw[hp]at hc;have UK:=LB (E:=E) (w:=w) (vw:=σ.bx) hc;refine same (v:=if p then a.eval xa else a.eval xb) (x:=if p then σ.ev xa else σ.ev xb) (by simp[execOp,ho,UK,asBool]) (by cases p<;>simp[h.ev]) ?_
  cases p<;>simpa[lq]using e
 ·rename_i t ho
  split at e
  case h_2=>cases e
  rename_i r hr;exact iv hT h ho hr e
 ·rename_i t x ho
  split at e
  case h_2=>cases e
  rename_i ti Kq;split at e
  case isFalse=>cases e
  rename_i hc;exact nE h ho hc.2.2 (fun hh=>by rw[hh]at hc;exact hc.2.1 hc.1.symm) e
 ·rename_i t ps ho
  split at e
  case h_2=>cases e
  rename_i s b fs rw r Kq hr;split at e
  case h_2=>cases e
  rename_i cs lW;exact iV hT h ho Kq hr lW e
 ·rename_i t n ps ho
  exact YH hT h ho e
 ·rename_i t x ho
  split at e
  case h_2=>cases e
  rename_i z hz;obtain⟨u,h1,h2⟩:=gJ hT hB st hz (h.ev x);exact same (by simp only[execOp,ho,Sem.run_bind,h1,Result.andThen_ok,Sem.run_pure]) h2 e
 ·rename_i t xa xx ho
  split at e
  case h_2=>cases e
  rename_i ti Kq;split at e
  case isFalse=>cases e
  rename_i hc;split at e
  case h_2=>cases e
  rename_i σ' hs;exact hO hT h ho Kq hc hs e
 ·rename_i x ho
  have hx:=h.ev x;split at e
  ·rename_i b j hp
   rw[hp]at hx;have gU:b<σ.bx.length∧a.eval x= .pointer (some ⟨E.EY b,j,none⟩):=hx;exact same (v:=a.eval x) (by simp only[execOp,ho,gU.2,Sem.run_pure]) hx e
  ·rename_i b p i sz j hp
   rw[hp]at hx;have mR:SM (a.eval x)=true:=hx.1;refine same (v:=a.eval x) ?_ hx e
   unfold SM at mR;split at mR
   ·rename_i hv
    simp only[execOp,ho,hv,Sem.run_pure]
   ·cases mR
  ·rename_i s r z j hp
   rw[hp]at hx;obtain⟨bb,oo,cs,hv,hrest⟩:=hx;exact same (v:=a.eval x) (x:= .c (.Iv s r z j)) (by simp only[execOp,ho,hv,Sem.run_pure]) ⟨bb,oo,cs,hv,hrest⟩ e
  ·rename_i f Fq hp
   rw[hp]at hx;have gU:(∀b∈Fq,b<σ.bx.length)∧a.eval x= .func (.func f) #[] (Fq.map fun b=>Value.pointer (some ⟨E.EY b,0,none⟩)).toArray:=hx;exact same (v:=a.eval x) (by simp only[execOp,ho,gU.2,Sem.run_pure]) hx e
  ·cases e
 ·rename_i op t x z s ho
  obtain⟨r,val,h1,h2,h3⟩:=Uf hT e (h.ev x) (h.ev z) x z;exact same (v:=val) (x:= .c r) (by
   simp only[execOp,ho,Sem.run_bind];simp only[Sem.run_bind]at h2;rw[h2];rfl) h3 h1
 ·rename_i op t x ho
  obtain⟨r,val,h1,h2,h3⟩:=WD (P:=P) e (h.ev x);exact same (v:=val) (x:= .c r) (by simp only[execOp,ho,Sem.run_bind,h2,Result.andThen_ok,Sem.run_pure]) h3 h1
 ·rename_i s d x ho
  exact lE hT h ho e
 ·rename_i f first Fq ho
  split at e
  case isFalse=>cases e
  rename_i hf;split at e
  case h_2=>cases e
  rename_i bs hbs;obtain⟨q1,q2⟩:=aZ hbs (evs h Fq.toList);have xr:first.map a.eval= #[]:=by
   have:first= #[]:=Array.eq_empty_of_size_eq_zero hf;rw[this];simp
  have ADv:Fq.map a.eval=(bs.map fun b=>Value.pointer (some ⟨E.EY b,0,none⟩)).toArray:=by
   apply AHN;simpa using q2
  refine same (v:= .func (.func f) #[] (bs.map fun b=>Value.pointer (some ⟨E.EY b,0,none⟩)).toArray) ?_ (x:= .c (.fn f bs)) ⟨q1,rfl⟩ e
  simp only[execOp,ho,Instr.makeFunc,xr,ADv,Sem.run_bind,Sem.run_pure,Result.andThen_ok]
 ·rename_i t l c ho
  exact jz hT h ho e
 ·rename_i t x lo hi ho
  obtain⟨z,val,h1,h2,h3⟩:=Vw hT hB st e (h.ev x) (jF h lo) (jF h hi);exact same (v:=val) (by simp only[execOp,ho,Option.map_none,Sem.run_bind,h2,Result.andThen_ok,Sem.run_pure]) h3 h1
 ·rename_i t x f ho
  split at e
  case h_2=>cases e
  rename_i z hz;obtain⟨u,h1,h2⟩:=Vs hT hz (h.ev x);exact same (by simp only[execOp,ho,Sem.run_bind,h1,Result.andThen_ok,Sem.run_pure]) h2 e
 ·rename_i t x f ho
  split at e
  case h_2=>cases e
  rename_i z hz;obtain⟨u,h1,h2⟩:=Xk hT hz (h.ev x);exact same (by simp only[execOp,ho,Sem.run_bind,h1,Result.andThen_ok,Sem.run_pure]) h2 e
 ·rename_i t x i ho
  obtain⟨z,val,h1,h2,h3⟩:=Vz hT hB st e (h.ev x) (h.ev i);exact same (v:=val) (by simp only[execOp,ho,Sem.run_bind,h2,Result.andThen_ok,Sem.run_pure]) h3 h1
 ·rename_i t x i ho
  obtain⟨z,val,h1,h2,h3⟩:=SA hT e (h.ev x) (h.ev i);exact same (v:=val) (by simp only[execOp,ho,Sem.run_bind,h2,Result.andThen_ok,Sem.run_pure]) h3 h1
 ·rename_i x i ho
  split at e
  case h_2=>cases e
  rename_i z hz;obtain⟨u,h1,h2⟩:=TO (P:=P) hz (h.ev x);exact same (by simp only[execOp,ho,Sem.run_bind,h1,Result.andThen_ok,Sem.run_pure]) h2 e
 ·rename_i f args bN ho
  rw[ho]at bp;cases bp
 ·rename_i args bN ho
  split at e
  ·rename_i s t E6 hts
   obtain⟨x,rfl,hx⟩:=OZ E6;have hv:=h.ev x;rw[hx]at hv;have SF:=PM (E:=E) (w:=w) (vw:=σ.bx) hv;split at e
   case isFalse=>cases e
   rename_i hs;have hu:=O1 hT hs;refine same (v:= .int .i64 (s.length:Int)) (x:= .c (.v (.int .i64) (s.length:Int))) ?_ (VR.int (E:=E) (vw:=σ.bx) _ _) e
   have He:(⟨s.toArray⟩:ByteArray).size=s.length:=by simp[ByteArray.size]
   simp[execOp,ho,resolve,invoke,builtin,Builtin.len_,hts,SF,Am hu,goInt,He]
  ·rename_i z t _ E6 hts
   obtain⟨x,rfl,hx⟩:=OZ E6;have hv:=h.ev x;rw[hx]at hv;split at e
   case isFalse=>cases e
   rename_i hs;split at e
   case h_2=>cases e
   rename_i n hn;obtain⟨el,hu⟩:=Wo hT hs;obtain⟨ad,cap,SF⟩:=XK hB st hn hv;refine same (v:= .int .i64 (n:Int)) (x:= .c (.v (.int .i64) (n:Int))) ?_ (VR.int (E:=E) (vw:=σ.bx) _ _) e
   simp[execOp,ho,resolve,invoke,builtin,Builtin.len_,hts,SF,Am hu,goInt]
  ·cases e
 ·rename_i args bN ho
  split at e
  case h_2=>cases e
  rename_i x1 x2 E6;exact fT hT h ho rfl E6 e
 ·rename_i args bN ho
  split at e
  case h_2=>cases e
  rename_i x E6;exact iM hT h ho rfl E6 e (fun b p off n hx=>by rw[ho];simp only[Eu];rw[E6,hx])
 ·rename_i args bN ho
  split at e
  case h_2=>cases e
  rename_i x1 x2 E6;obtain⟨o1,o2,rfl,hx1,hx2⟩:=PF E6;have SK:=h.ev o1;have RD:=h.ev o2;rw[hx1]at SK;rw[hx2]at RD;obtain⟨r,val,h1,h2,h3⟩:=L6 (P:=P) (big:=true) e SK RD bN #[] o.type;simp only[AGG]at h2;exact same (v:=val) (x:= .c r) (by simp[execOp,ho,resolve,invoke,builtin,h2]) h3 h1
 ·rename_i args bN ho
  split at e
  case h_2=>cases e
  rename_i x1 x2 E6;obtain⟨o1,o2,rfl,hx1,hx2⟩:=PF E6;have SK:=h.ev o1;have RD:=h.ev o2;rw[hx1]at SK;rw[hx2]at RD;obtain⟨r,val,h1,h2,h3⟩:=L6 (P:=P) (big:=false) e SK RD bN #[] o.type;simp only[AER,AFJ]at h2;exact same (v:=val) (x:= .c r) (by simp[execOp,ho,resolve,invoke,builtin,h2]) h3 h1
 ·cases e
end
end Go.Fw
end
section
namespace Go.Fw
def alive(l:List BP)(i:Nat):Bool:=
 match l[i]? with
 |some .gone=>false
 |some _=>true
 |none=>false
def AP.IG(l:List BP):AP→Bool
 | .sl s _=>s
 | .fW _=>false
 | .Wm _ _=>false
 | .dI _ _=>false
 | .ref i=>decide (i<l.length)
 | .ptr i _=>alive l i
 | .fn _ Fq=>Fq.all (alive l)
 |_=>true
def XP.IG(l:List BP):XP→Bool
 | .c p=>p.IG l
 | .agg q=>q.all (AP.IG l)
 | .Hd q=>q.all fun| .inl p=>p.IG l| .inr q=>q.all (AP.IG l)
 | .row _=>false
def BP.IG(l:List BP):BP→Bool
 | .mem q=>q.all (AP.IG l)
 |_=>true
def kinds:List BP→List BP→Bool
 |[],_=>true
 | .mem _::l,.mem _::m=>kinds l m
 | .sl _ r::l,.sl _ q::m=>decide (r=q)&&kinds l m
 | .mem _::l,.gone::m=>kinds l m
 | .sl _ _::l,.gone::m=>kinds l m
 |_,_=>false
def Z2(l:List BP):List (Nat×XP)→Bool
 |[(0,p)]=>p.IG l
 |_=>false
def NK.ok(c:NK):Bool:=
 kinds c.ins.Dk c.outs.Dk&&Z2 c.outs.Dk c.outs.CJ&&c.outs.Dk.all (BP.IG c.outs.Dk)
theorem Oy:∀{l m:List BP},kinds l m=true→l.length≤m.length∧ ∀(i:Nat) p,l[i]? =some p→p≠ .gone∧ ∀d r,m[i]? =some (.sl d r)→ ∃d',p= .sl d' r
 |[],m,_=>⟨by simp,fun i p h=>by simp at h⟩
 | .gone::l,[],h=>by simp[kinds]at h
 | .gone::l,_::_,h=>by simp[kinds]at h
 | .mem _::l,[],h=>by simp[kinds]at h
 | .sl _ _::l,[],h=>by simp[kinds]at h
 | .mem q::l,.mem _::m,h=>by
  obtain⟨h1,h2⟩:=Oy (l:=l) (m:=m) (by simpa[kinds]using h);refine⟨by simpa using h1,fun i p hp=> ?_⟩;cases i with
  |zero=>simp at hp;subst hp;exact⟨by simp,fun d r hh=>by simp at hh⟩
  |succ i=>simpa using h2 i p (by simpa using hp)
 | .mem q::l,.gone::m,h=>by
  obtain⟨h1,h2⟩:=Oy (l:=l) (m:=m) (by simpa[kinds]using h);refine⟨by simpa using h1,fun i p hp=> ?_⟩;cases i with
  |zero=>simp at hp;subst hp;exact⟨by simp,fun d r hh=>by simp at hh⟩
  |succ i=>simpa using h2 i p (by simpa using hp)
 | .mem q::l,.sl _ _::m,h=>by simp[kinds]at h
 | .sl d0 r0::l,.sl _ q::m,h=>by
  simp only[kinds,AEF,AEK]at h;obtain⟨h1,h2⟩:=Oy (l:=l) (m:=m) h.2;refine⟨by simpa using h1,fun i p hp=> ?_⟩;cases i with
  |zero=>simp at hp;subst hp;exact⟨by simp,fun d r hh=>by simp at hh;exact⟨d0,by rw[h.1,hh.2]⟩⟩
  |succ i=>simpa using h2 i p (by simpa using hp)
 | .sl d0 r0::l,.gone::m,h=>by
  obtain⟨h1,h2⟩:=Oy (l:=l) (m:=m) (by simpa[kinds]using h);refine⟨by simpa using h1,fun i p hp=> ?_⟩;cases i with
  |zero=>simp at hp;subst hp;exact⟨by simp,fun d r hh=>by simp at hh⟩
  |succ i=>simpa using h2 i p (by simpa using hp)
 | .sl _ _::l,.mem _::m,h=>by simp[kinds]at h
def IY(P:Program)(f:Nat)(c:NK):Prop:=
 c.ok=true∧(∀args w,(callFunc f args).run P w= .ok (.enter f args) w)∧
 ∀(E:Env) (w:World) (v:c.ins.V) (args:Array Value) (u:c.outs.V),args.size=c.ins.CJ.length→
  Bm E w (FM.mk id c.ins.Dk v.2) (FM.mk id c.ins.Dk v.2) []→Hw E w (FM.mk id c.ins.Dk v.2) id c.ins.CJ v.1 args.toList→c.g v=some u→
  Calls P f args w fun e w' => ∃x E',e= .returned x∧T3 E w E' w'∧Bm E' w' (FM.mk id c.outs.Dk u.2) (FM.mk id c.outs.Dk u.2) []∧
   Hw E' w' (FM.mk id c.outs.Dk u.2) id c.outs.CJ u.1 [x]∧ ∀i,i<c.ins.Dk.length→alive c.outs.Dk i=true→E'.EY i=E.EY i∧E'.Ei i=E.Ei i
theorem V1:∀x:AV,Cn [] x=x
 | .ref b (s::p)=>by simp[Cn]
 | .ref b []=>rfl
 | .win b (s::p) i n=>by simp[Cn]
 | .win b [] i n=>rfl
 | .FP b (s::p) i sz j=>by simp[Cn]
 | .FP b [] i sz j=>rfl
 | .v _ _=>rfl
 | .sl _ _ _=>rfl
 | .nil=>rfl
 | .Eb _ _=>rfl
 | .Iv _ _ _ _=>rfl
 | .fn _ _=>rfl
 | .dI _ _=>rfl
 | .iQ=>rfl
 | .undef=>rfl
theorem QL:Cn []=id:=funext V1
theorem dD:∀x:XV,M4 [] x=x
 | .c x=>by simp[M4,V1]
 | .agg l=>by simp[M4,QL]
 | .Hd l=>by
  simp only[M4,QL];congr 1
  conv=>rhs;rw[←List.map_id l]
  apply AGd;intro x _;cases x with
  |inl x=>simp
  |inr q=>simp
theorem bn(m:JN)(σ:St):(σ.O8 m).tm=σ.tm.map (M4 m):=by
 cases m with
 |nil=>
  simp only[St.O8];have:M4 []=id:=funext dD;rw[this,List.map_id]
 |cons _ _=>rfl
theorem j0(m:JN)(σ:St):(σ.O8 m).bx=σ.bx.map (Bx.map (Cn m)):=by
 cases m with
 |nil=>simp only[St.O8];rw[QL,Qy]
 |cons _ _=>
  simp only[St.O8];apply AGd;intro B _;cases B<;>rfl
theorem S5(f:AV→AV):∀(m:JN) (bx:List Bx),Bh (bx.map (Bx.map f)) m=(Bh bx m).map (Bx.map f)
 |[],_=>rfl
 |none::m,bx=>by simp only[Bh];exact S5 f m bx
 |some b::m,bx=>by
  simp only[Bh];rw[←S5 f m (bx.set b .dead),List.map_set];rfl
theorem KY:∀{m:JN} {bx:List Bx} {b:Nat},some b∉m→(Bh bx m)[b]? =bx[b]?
 |[],_,_,_=>rfl
 |none::m,bx,b,h=>by simp only[Bh];exact KY (by simpa using h)
 |some c::m,bx,b,h=>by
  simp only[Bh];rw[KY (by simp at h;exact h.2),AEH (by simp at h;omega)]
theorem lG{E E':Env}{w w':World}{vw vw':List Bx}{m:JN}(k:Ld E w vw E' w' (Bh vw' m))
  (hb:∀b d' r rows',some b∈m→vw'[b]? =some (.sl d' r rows')→ ∃d rows,vw[b]? =some (.sl d r rows)∧List.length rows' =List.length rows∧E'.Ei b=E.Ei b) (hlen:vw.length≤vw'.length) {x:AV} {v:Value} (h:VR E w vw x v):VR E' w' vw' (Cn m x) v:=by
 have h1:=DN k h;have QQ:∀{b'},some b'∉m→(Bh vw' m)[b']? =vw'[b']?:=fun e=>KY e
 have get:∀{b'},b'<vw.length→ ∃B,vw'[b']? =some B:=fun hl=>⟨_,AD9 (by omega)⟩
 cases x with
 |v t x=>exact h1
 |sl s r x=>exact h1
 |nil=>exact h1
 |Eb c j=>exact⟨by simpa[EC]using h1.1,h1.2⟩
 |Iv s r x j=>exact h1
 |fn f Fq=>exact⟨fun c hc=>by simpa[EC]using h1.1 c hc,h1.2⟩
 |dI f rows=>exact h1
 |iQ=>exact h1
 |undef=>trivial
 |ref c p=>
  have other:some c∉m→VR E' w' vw' (.ref c p) v:=fun e=>by
   simp only[VR,QQ e]at h1⊢;exact h1
  cases p with
  |nil=>
   simp only[Cn];by_cases e:some c∈m
   ·simp only[VR]at h⊢
    obtain⟨h0,h⟩:=h;refine⟨h0,?_⟩;cases hc:vw[c]? with
    |none=>rw[hc]at h;exact h.elim
    |some B=>
     obtain⟨B',Kt⟩:=get (AD7.1 hc).1;rw[Kt];cases B' with
     |mem cs=>trivial
     |dead=>trivial
     |sl d' r rows' =>
      obtain⟨d,rows,e1,e2,e3⟩:=hb c d' r rows' e Kt;rw[e1]at h;refine⟨by simp[Bt],⟨_,rfl⟩,?_⟩;have:=h.2.2;rw[Bi]at this⊢;rw[e3];exact this
   ·exact other e
  |cons s p=>
   simp only[Cn];split
   ·trivial
   ·rename_i e
    exact other (by simpa using e)
 |win c p off n=>
  have other:some c∉m→VR E' w' vw' (.win c p off n) v:=fun e=>by
   simp only[VR,QQ e]at h1⊢;exact h1
  cases p with
  |nil=>
   simp only[Cn];by_cases e:some c∈m
   ·simp only[VR]at h⊢
    obtain⟨h0,h⟩:=h;refine⟨h0,?_⟩;cases hc:vw[c]? with
    |none=>rw[hc]at h;exact h.elim
    |some B=>
     obtain⟨B',Kt⟩:=get (AD7.1 hc).1;rw[Kt];cases B' with
     |mem cs=>trivial
     |dead=>trivial
     |sl d' r rows' =>
      obtain⟨d,rows,e1,e2,e3⟩:=hb c d' r rows' e Kt;rw[e1]at h;obtain⟨_,q,ys,a,len,cap,g1,g2,g3,g4⟩:=h;simp only[Dl,AD_,AEP]at g1;obtain⟨rfl,g1⟩:=g1;obtain rfl:=AE9 g1;rw[Bi]at g3;exact⟨by simp[Bt],r,rows',a,len,cap,rfl,by rw[e2];exact g2,by rw[Bi,e3];exact g3,g4⟩
   ·exact other e
  |cons s p=>
   simp only[Cn];split
   ·trivial
   ·rename_i e
    exact other (by simpa using e)
 |FP c p i sz j=>
  have other:some c∉m→VR E' w' vw' (.FP c p i sz j) v:=fun e=>by
   simp only[VR,QQ e]at h1⊢;exact h1
  cases p with
  |nil=>
   simp only[Cn];by_cases e:some c∈m
   ·simp only[VR]at h⊢
    obtain⟨h0,h⟩:=h;refine⟨h0,?_⟩;cases hc:vw[c]? with
    |none=>rw[hc]at h;exact h.elim
    |some B=>
     obtain⟨B',Kt⟩:=get (AD7.1 hc).1;rw[Kt];cases B' with
     |mem cs=>trivial
     |dead=>trivial
     |sl d' r rows' =>
      obtain⟨d,rows,e1,e2,e3⟩:=hb c d' r rows' e Kt;rw[e1]at h;obtain⟨_,q,ys,bb,o,len,cap,g1,g2,g3,g4⟩:=h;simp only[Dl,AD_,AEP]at g1;obtain⟨rfl,g1⟩:=g1;obtain rfl:=AE9 g1;rw[Bi]at g3;exact⟨by simp[Bt],r,rows',bb,o,len,cap,rfl,by rw[e2];exact g2,by rw[Bi,e3];exact g3,g4⟩
   ·exact other e
  |cons s p=>
   simp only[Cn];split
   ·trivial
   ·rename_i e
    exact other (by simpa using e)
theorem kE{E E':Env}{w w':World}{vw vw':List Bx}{m:JN}(k:∀x v,VR E w vw x v→VR E' w' vw' (Cn m x) v){x:XV}{v:Value}(h:XR E w vw x v):XR E' w' vw' (M4 m x) v:=by
 cases x with
 |c x=>exact k x v h
 |agg l=>
  obtain⟨vs,rfl,O7⟩:=h;exact⟨vs,rfl,BU.Gw _ k O7⟩
 |Hd l=>
  obtain⟨vs,rfl,O7⟩:=h;refine⟨vs,rfl,BU.Gw _ (fun x v hx=> ?_) O7⟩;cases x with
  |inl x=>exact k x v hx
  |inr q=>
   obtain⟨us,rfl,hus⟩:=hx;exact⟨us,rfl,BU.Gw _ k hus⟩
def G_(Fo:Nat→Nat):Nat→List Bx→List Bx→List Bx
 |_,[],bx=>bx
 |i,B::l,bx=>G_ Fo (i+1) l (if Fo i<bx.length then bx.set (Fo i) B else bx++[B])
theorem XL(Fo:Nat→Nat):∀(i:Nat) (l:List BP) (x:FM.V l) (bx:List Bx),Qx Fo i l x bx=G_ Fo i (FM.mk Fo l x) bx
 |_,[],_,_=>rfl
 |i,p::l,x,bx=>by simp only[Qx,FM.mk,G_];exact XL Fo (i+1) l x.2 _
structure fy (Fo:Nat→Nat) (M N:Nat):Prop where
 lt:∀k,k<M→Fo k<N
 eq:∀k,M≤k→Fo k=N+(k-M)
 inj:∀k k',k<M→k'<M→Fo k=Fo k'→k=k'
theorem fy.ADT{Fo:Nat→Nat}{M N:Nat}(h:fy Fo M N){k k':Nat}(e:Fo k=Fo k'):k=k':=by
 by_cases h1:k<M
 ·by_cases h2:k'<M
  ·exact h.inj k k' h1 h2 e
  ·have:=h.lt k h1
   have:=h.eq k' (by omega);omega
 ·by_cases h2:k'<M
  ·have:=h.lt k' h2
   have:=h.eq k (by omega);omega
  ·have:=h.eq k (by omega)
   have:=h.eq k' (by omega);omega
theorem UC{Fo:Nat→Nat}{M N:Nat}(h:fy Fo M N):∀{l:List Bx} {i:Nat} {bx:List Bx},bx.length=N+(i-M)→
  (G_ Fo i l bx).length=N+(i+l.length-M)∧(∀(j:Nat) B,l[j]? =some B→(G_ Fo i l bx)[Fo (i+j)]? =some B)∧
   ∀n,n<bx.length→(∀j,j<l.length→Fo (i+j)≠n)→(G_ Fo i l bx)[n]? =bx[n]?
 |[],i,bx,hl=>⟨by simpa[G_]using hl,fun j B hj=>by simp at hj,fun _ _ _=>rfl⟩
 |B::l,i,bx,hl=>by
  simp only[G_];have Q_:(if Fo i<bx.length then bx.set (Fo i) B else bx++[B]).length=N+(i+1-M):=by
   split
   ·rename_i Er
    by_cases hi:i<M
    ·simp;omega
    ·have:=h.eq i (by omega);omega
   ·rename_i Er
    by_cases hi:i<M
    ·have:=h.lt i hi;omega
    ·simp;omega
  have Pn:(if Fo i<bx.length then bx.set (Fo i) B else bx++[B])[Fo i]? =some B:=by
   split
   ·rename_i Er;rw[AEQ Er]
   ·rename_i Er
    by_cases hi:i<M
    ·have:=h.lt i hi;omega
    ·have:=h.eq i (by omega)
     rw[AES (by omega),show Fo i-bx.length=0 by omega];rfl
  obtain⟨q1,q2,q3⟩:=UC h (l:=l) Q_;refine⟨by rw[q1];simp;omega,fun j C hj=> ?_,fun n hn SY=> ?_⟩
  ·cases j with
   |zero=>
    simp at hj;subst hj;exact(q3 (Fo i) (AD7.1 Pn).1 (fun j hj e=>by have:=h.ADT e;omega)).trans Pn
   |succ j=>
    have:=q2 j C (by simpa using hj)
    rwa [show i+1+j=i+(j+1)by omega]at this
  ·have ABr:=SY 0 (by simp)
   rw[AGS]at ABr;rw[q3 n (by split<;>simp<;>omega) (fun j hj=>by have:=SY (j+1) (by simp;omega);rwa [show i+(j+1)=i+1+j by omega]at this)];split
   ·rw[AEH ABr]
   ·rw[AEG hn]
theorem TE{Fo:Nat→Nat}{M N:Nat}(h:fy Fo M N){E:Env}{w:World}{vw:List Bx}:∀{l:List Bx} {i:Nat} {bx:List Bx} {Fs:List ABC},bx.length=N+(i-M)→(∀k,i≤k→k<M→bx[Fo k]? =some .dead)→
  Fs.length=l.length→(∀(j:Nat) B F,l[j]? =some B→Fs[j]? =some F→ZH E w vw (Fo (i+j)) B F)→Bm E w vw bx Fs.flatten→Bm E w vw (G_ Fo i l bx) []
 |[],i,bx,Fs,hl,hd,hF,hB,Ve=>by
  have:Fs=[]:=AEg hF;subst this;simpa[G_]using Ve
 |B::l,i,bx,F::Fs,hl,hd,hF,hB,Ve=>by
  simp only[G_];have hBi:=hB 0 B F rfl rfl;rw[AGS]at hBi;have next:∀{J0},J0.length=N+(i+1-M)→(∀k,i+1≤k→k<M→J0[Fo k]? =some .dead)→Bm E w vw J0 Fs.flatten→Bm E w vw (G_ Fo (i+1) l J0) []:=by
   intro J0 h1 h2 h3;refine TE h h1 h2 (by simpa using hF) (fun j C G hC hG=> ?_) h3;have:=hB (j+1) C G (by simpa using hC) (by simpa using hG)
   rwa [show i+(j+1)=i+1+j by omega]at this
  rw[AFO]at Ve;by_cases hi:i<M
  ·have Er:=h.lt i hi
   rw[AEA (by omega)];refine next (by simp;omega) (fun k hk1 rm=> ?_) (Ve.put (hd i (AE7 _) hi) hBi);rw[AEH (fun e=>by have:=h.ADT e;omega)];exact hd k (by omega) rm
  ·have heq:=h.eq i (by omega)
   rw[AEB (by omega)];have e1:Fo i=bx.length:=by omega
   rw[e1]at hBi;exact next (by simp;omega) (fun k hk1 rm=>by omega) (Ve.push hBi)
 |_::_,_,_,[],_,_,hF,_,_=>by simp at hF
structure eC (E' E2:Env) (l:List BP) (u:FM.V l) (mX:List Bx) (Fo:Nat→Nat):Prop where
 ids:∀i,alive l i=true→E2.EY (Fo i)=E'.EY i∧E2.Ei (Fo i)=E'.Ei i
 bx:∀(i:Nat) p,l[i]? =some p→ ∃y,(FM.mk id l u)[i]? =some (p.mk id y)∧mX[Fo i]? =some (p.mk Fo y)
 S:E2.S=E'.S
theorem RU(Fo:Nat→Nat):∀{l:List BP} {u:FM.V l} {i:Nat} {p:BP},l[i]? =some p→ ∃y:p.V,(FM.mk id l u)[i]? =some (p.mk id y)∧(FM.mk Fo l u)[i]? =some (p.mk Fo y)
 |q::l,u,0,p,h=>by
  simp at h;subst h;exact⟨u.1,rfl,rfl⟩
 |q::l,u,i+1,p,h=>by
  obtain⟨y,h1,h2⟩:=RU Fo (u:=u.2) (i:=i) (by simpa using h);exact⟨y,by simpa[FM.mk]using h1,by simpa[FM.mk]using h2⟩
 |[],_,_,_,h=>by simp at h
theorem L9(Fo:Nat→Nat):∀{l:List BP} {u:FM.V l},(FM.mk Fo l u).length=l.length
 |[],_=>rfl
 |_::l,u=>by simp[FM.mk,L9 Fo (l:=l)]
section
variable{E' E2:Env} {w:World} {l:List BP} {u:FM.V l} {mX:List Bx} {Fo:Nat→Nat} (r:eC E' E2 l u mX Fo)
include r
omit r in
theorem bf{i:Nat}(h:alive l i=true):∃p,l[i]? =some p∧p≠ .gone:=by
 unfold alive at h;cases e:l[i]? with
 |none=>rw[e]at h;cases h
 |some p=>
  refine⟨p,rfl,fun hp=> ?_⟩;rw[e,hp]at h;cases h
theorem iP{p:AP}{y:p.V}{v:Value}(IK:p.IG l=true)(h:VR E' w (FM.mk id l u) (p.mk id y) v):VR E2 w mX (p.mk Fo y) v:=by
 cases p with
 |v t=>exact h
 |sl s q=>
  simp only[AP.IG]at IK;subst IK;simp only[AP.mk,VR,AGG]at h⊢;rw[r.S];exact h
 |nil=>exact h
 |ref i=>
  simp only[AP.IG,AEK]at IK;obtain⟨p,hp⟩:∃p,l[i]? =some p:=⟨_,AD9 IK⟩;obtain⟨z,z1,z2⟩:=r.bx i p hp;simp only[AP.mk,VR,id]at h⊢;refine⟨h.1,?_⟩;have h2:=h.2;rw[z1]at h2;rw[z2];cases p with
  |mem q=>trivial
  |gone=>trivial
  |sl d q=>
   have hid:=(r.ids i (by simp[alive,hp])).2;simp only[BP.mk]at h2⊢;refine⟨h2.1,h2.2.1,?_⟩;rw[hid];exact h2.2.2
 |ptr i j=>
  simp only[AP.IG]at IK;obtain⟨p,hp,hg⟩:=bf IK;obtain⟨z,z1,z2⟩:=r.bx i p hp;refine⟨(AD7.1 z2).1,?_⟩;rw[(r.ids i IK).1];exact h.2
 |fW q=>simp[AP.IG]at IK
 |Wm i sz=>simp[AP.IG]at IK
 |dI f rs=>simp[AP.IG]at IK
 |fn f Fq=>
  simp only[AP.IG,AF5]at IK;obtain⟨h1,h2⟩:=h;refine⟨fun b hb=> ?_,?_⟩
  ·obtain⟨i,hi,rfl⟩:=AGa.1 hb
   obtain⟨p,hp,_⟩:=bf (IK i hi);obtain⟨z,_,z2⟩:=r.bx i p hp;exact(AD7.1 z2).1
  ·rw[h2,AGp]
   congr 2
   rw[AGp];apply AGd;intro i hi;simp only[Function.comp,id,(r.ids i (IK i hi)).1]
 |any=>trivial
theorem Yd:∀{q:List AP} {y:PQ.V q} {vs:List Value},q.all (AP.IG l)=true→VF E' w (FM.mk id l u) (PQ.mk id q y) vs→VF E2 w mX (PQ.mk Fo q y) vs
 |[],_,[],_,_=>trivial
 |[],_,_::_,_,h=>h.elim
 |p::q,y,[],_,h=>h.elim
 |p::q,y,v::vs,IK,h=>by
  simp only[AGf,AEF]at IK;exact⟨iP r IK.1 h.1,Yd IK.2 h.2⟩
theorem cw:∀{q:List (AP ⊕ List AP)} {y:PV.V q} {vs:List Value},(q.all fun| .inl p=>p.IG l| .inr q=>q.all (AP.IG l))=true→BU (TR E' w (FM.mk id l u)) (PV.mk id q y) vs→BU (TR E2 w mX) (PV.mk Fo q y) vs
 |[],_,[],_,_=>trivial
 |[],_,_::_,_,h=>h.elim
 | .inl p::q,y,[],_,h=>h.elim
 | .inr p::q,y,[],_,h=>h.elim
 | .inl p::q,y,v::vs,IK,h=>by
  simp only[AGf,AEF]at IK;exact⟨iP r IK.1 h.1,cw IK.2 h.2⟩
 | .inr p::q,y,v::vs,IK,h=>by
  simp only[AGf,AEF]at IK;obtain⟨us,e,hus⟩:=h.1;exact⟨⟨us,e,Yd r IK.1 hus⟩,cw IK.2 h.2⟩
theorem wB{p:XP}{y:p.V}{v:Value}(IK:p.IG l=true)(h:XR E' w (FM.mk id l u) (p.mk id y) v):XR E2 w mX (p.mk Fo y) v:=by
 cases p with
 |c p=>exact iP r IK h
 |agg q=>
  obtain⟨vs,e,O7⟩:=h;exact⟨vs,e,Yd r IK O7⟩
 |row q=>simp[XP.IG]at IK
 |Hd q=>
  obtain⟨vs,e,O7⟩:=h;exact⟨vs,e,cw r IK O7⟩
theorem AAE{i:Nat}{p:BP}{y:p.V}{F:ABC}(hi:l[i]? =some p)(IK:p.IG l=true)(h:ZH E' w (FM.mk id l u) i (p.mk id y) F):ZH E2 w mX (Fo i) (p.mk Fo y) F:=by
 cases p with
 |mem q=>
  obtain⟨h1,arr,ty,fr,h2,h3,h4⟩:=h;have hid:=(r.ids i (by simp[alive,hi])).1;exact⟨by rw[hid];exact h1,arr,ty,fr,by rw[hid];exact h2,h3,Yd r IK h4⟩
 |sl d q=>
  obtain⟨h1,h2⟩:=h;refine⟨h1,?_⟩;rw[(r.ids i (by simp[alive,hi])).2,r.S];exact h2
 |gone=>exact h
end
end Go.Fw
end
section
namespace Go.Fw
theorem dr{s:CI}{N:Nat}{m0 m:JN}{tm:List XV}{bx:List Bx}{x:s.V}(e:s.fit N m0 tm bx=some (x,m)):∀(k:Nat) p,s.Dk[k]? =some p→p≠ .gone→ ∃b B,m[k]? =some (some b)∧bx[b]? =some B∧B≠ .dead∧
  ∀d r,p= .sl d r→ ∃d' rows,B= .sl d' r rows:=by
 simp only[CI.fit,AED,AEC]at e;obtain⟨m1,e1,m2,e2,a,e3,c,e4,e5⟩:=e;cases e5;obtain⟨q1,q2⟩:=LC (Fo:=id) e4;intro k p hp hg;obtain⟨y,_,h⟩:=q2 k p hp;cases p with
 |gone=>exact absurd rfl hg
 |mem q=>
  obtain⟨b,cs,h1,h2,_⟩:=h;exact⟨b,_,h1,h2,by simp,fun d r hh=>by cases hh⟩
 |sl d r=>
  obtain⟨b,d',h1,h2,_⟩:=h;exact⟨b,_,h1,h2,by simp,fun d r hh=>by cases hh;exact⟨d',y,rfl⟩⟩
theorem nh(n:Nat):Zw (List.replicate n none):=fun i j b h=>by
 simp[AG3]at h
theorem gu{w:World}{B B':Nat→Prop}{w':World}{r:Ty}{v:Value}{x y:List r.D}(h:Rd w B (.sl r) [v] x)(h':Rd w' B' (.sl r) [v] y):y.length=x.length:=by
 simp only[Rd]at h h';obtain⟨_,_,e,_⟩:=h;obtain⟨_,_,e',_⟩:=h';rw[e]at e';simp only[AEk,Value.slice.injEq,AFR]at e';exact e'.2.1.symm
section
variable{Y:Type} {P:Program} {E:Env} {σ:St} {a:Act} {w:World} {k:K Y} {y:Y}
theorem al{E' E2:Env}{l:List BP}{u:FM.V l}{mX:List Bx}{Fo:Nat→Nat}(r:eC E' E2 l u mX Fo):∀{sl:List (Nat×XP)} {z:DR.V sl} {x:Value},
  Z2 l sl=true→Hw E' w (FM.mk id l u) id sl z [x]→XR E2 w mX (Tq sl z Fo) x
 |[(0,p)],z,x,IK,h=>by
  obtain⟨⟨v,hv,hx⟩,_⟩:=h;simp at hv;subst hv;exact wB r IK hx
 |[],_,_,IK,_=>by simp[Z2]at IK
 |(_+1,_)::_,_,_,IK,_=>by simp[Z2]at IK
 |(0,_)::_::_,_,_,IK,_=>by simp[Z2]at IK
def OS(c:NK)(xs:List XV)(σ:St):ABC:=
 match c.ins.fit σ.bx.length c.ins.m0 xs (c.ins.opens σ.bx)with
 |some (_,m)=>m.filterMap id
 |none=>[]
theorem cO(h:Rel E σ a w)(s:CI):∃E',Rel E' { σ with bx:=s.opens σ.bx } a w∧Ka [] E σ.bx w E' (s.opens σ.bx) w∧(∀(i:Nat) d r,s.Dk[i]? =some (.sl d r)→E'.Ei (σ.bx.length+i)= .slice none 0 0)∧
  (∀x v,XR E w σ.bx x v→XR E' w (s.opens σ.bx) x v):=by
 let E':Env:={ E with Ei:=fun k=>if k<σ.bx.length then E.Ei k else .slice none 0 0 }
 have hlen:σ.bx.length≤(s.opens σ.bx).length:=by simp[CI.opens]
 have hold:∀b,b<σ.bx.length→(s.opens σ.bx)[b]? =σ.bx[b]?:=fun b hb=>by simp only[CI.opens];rw[AEG hb]
 have Sv:∀b,b<σ.bx.length→E'.Ei b=E.Ei b:=fun b hb=>by simp only[E'];rw[AEA hb]
 have keep:Ld E w σ.bx E' w (s.opens σ.bx):=
  ⟨hlen,fun _ _=>rfl,fun _ h=>h,fun _ h=>h,h.bx.st,fun _ _=>rfl,fun b d r rows hb e=>⟨d,rows,by rw[←hold b hb];exact e,fun p hp q ys hg=>⟨hp,⟨ys,hg,rfl⟩,fun hh he=>by rw[Sv b hb];exact he⟩⟩⟩
 obtain⟨Fs,⟨f1,f2⟩,f3⟩:=h.bx;refine⟨E',⟨h.ID,h.tm.imp fun _ _ hx=>JH keep hx,?_⟩,?_,fun i d r hi=>by simp only[E'];rw[AEB (by omega)],fun x v hx=>JH keep hx⟩
 ·refine⟨Fs++List.replicate s.Dk.length [],⟨by simp[CI.opens,f1],fun n B F hB hF=> ?_⟩,?_⟩
  ·by_cases hn:n<σ.bx.length
   ·rw[hold n hn]at hB
    rw[AEG (by omega)]at hF;have:=f2 n B F hB hF;cases B with
    |mem cs=>
     obtain⟨rfl,arr,ty,fr,a1,a2,a3⟩:=this;exact⟨rfl,arr,ty,fr,a1,a2,a3.imp fun _ _ hv=>DN keep hv⟩
    |sl d r rows=>exact⟨this.1,by rw[Sv n hn];exact this.2⟩
    |dead=>exact this
   ·rw[AES (by omega)]at hF
    have hF':F=[]:=AFy (AEN hF);subst hF';simp only[CI.opens]at hB;rw[AES (by omega),AFG,AEC]at hB;obtain⟨p,_,rfl⟩:=hB;have hh:E'.Ei n= .slice none 0 0:=by simp only[E'];rw[AEB hn]
    cases p with
    |mem q=>rfl
    |gone=>rfl
    |sl d r=>exact⟨by omega,by rw[hh];exact Z3⟩
  ·have:(Fs++List.replicate s.Dk.length []).flatten=Fs.flatten:=by simp
   rw[this];exact⟨f3.nodup,f3.free,f3.lt,f3.st,f3.TN,f3.eK.mono (fun _ h=>h) (fun _ _=>rfl)⟩
 ·refine⟨⟨fun _ h=>h,fun _ h=>h,fun _ h=> .inl h,fun _ h=> .inl h,fun _ _=>rfl,rfl,rfl,rfl,AE7 _⟩,hlen,fun b hb=>⟨rfl,Sv b hb⟩,fun b hb=> ?_,fun n B B' _ hB Kt hd=> ?_⟩
  ·rw[hold b (AD7.1 hb).1];exact hb
  ·rw[hold n (AD7.1 hB).1,hB]at Kt
   cases Kt;exact⟨ND.refl hd,fun _ _=>rfl⟩
theorem Ka.after{t:ABC}{E E' nv:Env}{bx J0 ADA:List Bx}{w w':World}(h:Ka [] E bx w E' J0 w)(hb:∀b,b<bx.length→J0[b]? =bx[b]?)(k:Ka t E' J0 w nv ADA w'):Ka t E bx w nv ADA w':=
 ⟨h.base.trans k.base,AFS h.len k.len,fun b Er=>⟨(k.ids b (AFI Er h.len)).1.trans (h.ids b Er).1,(k.ids b (AFI Er h.len)).2.trans (h.ids b Er).2⟩,fun b hd=>k.dead b (h.dead b hd),fun n B B' hn hB Kt hd=>by
  have Er:=(AD7.1 hB).1;obtain⟨k1,k2⟩:=k.frame n B B' hn (by rw[hb n Er];exact hB) Kt hd;refine⟨k1,fun c hc=>k2 c ?_⟩;cases B with
  |mem cs=>simp only[gR]at hc⊢;rw[(h.ids n Er).1];exact hc
  |sl d r rows=>simp only[gR]at hc⊢;rw[(h.ids n Er).2];exact hc
  |dead=>exact hc⟩
def uo(c:NK)(N:Nat)(xs:List XV)(σ:St)(k:K Y):Option Y:=
 match c.ins.fit N c.ins.m0 xs σ.bx with
 |some (v,m)=>(c.g v).bind fun u=>
  let Fo:=QA m σ.bx.length
  let σ1:=σ.O8 m
  k (Tq c.outs.CJ u.1 Fo) { σ1 with bx:=Qx Fo 0 c.outs.Dk u.2 (Bh σ1.bx m) }
 |none=>none
def ia(c:NK)(N:Nat)(xs:List XV)(σ:St):ABC:=
 match c.ins.fit N c.ins.m0 xs σ.bx with
 |some (_,m)=>m.filterMap id
 |none=>[]
theorem hE{f:Nat}{c:NK}(hc:IY P f c)(h:Rel E σ a w){N0:Nat}(dz:∀(i:Nat) d r,c.ins.Dk[i]? =some (.sl d r)→E.Ei (N0+i)= .slice none 0 0){xs:List XV}{vs:List Value}(hxs:BU (XR E w σ.bx) xs vs)(hlen:xs.length=c.ins.CJ.length)(e:uo c N0 xs σ k=some y):
  Calls P f vs.toArray w fun e w' => ∃x E' xv σ',e= .returned x∧Rel E' σ' a w'∧XR E' w' σ'.bx xv x∧Ka (ia c N0 xs σ) E σ.bx w E' σ'.bx w'∧σ'.tm.length=σ.tm.length∧k xv σ' =some y:=by
 obtain⟨IK,_,bp⟩:=hc;simp only[NK.ok,AEF]at IK;obtain⟨⟨hk,hslot⟩,hbo⟩:=IK;obtain⟨hklen,hk⟩:=Oy hk;unfold uo at e;split at e
 case h_2=>cases e
 rename_i v m Qj;simp only[AED]at e;obtain⟨u,hg,e⟩:=e;obtain⟨_,E1,hf⟩:=W7 h.bx hxs dz (by simp[CI.m0]) (nh _) Qj;have He:vs.toArray.size=c.ins.CJ.length:=by rw[←hlen,BU.len hxs];simp
 refine(bp E1 w v vs.toArray u He hf.boxes (by simpa using hf.CJ) hg).mono fun e' w' hR=> ?_
 obtain⟨x,E',rfl,base,⟨Fs,hFs1,hFs2⟩,CJ,eT⟩:=hR;simp only[AEX]at hFs2;obtain⟨Fk,k1,k2,k3,k4⟩:=hf.rest;have st:=h.bx.st;have TN:=h.bx.TN;have hM:m.length=c.ins.Dk.length:=hf.len;have all:∀i,i<m.length→ ∃b B,m[i]? =some (some b)∧σ.bx[b]? =some B∧B≠ .dead∧ ∀d r,c.ins.Dk[i]? =some (.sl d r)→ ∃d' rows,B= .sl d' r rows:=by
  intro i hi;have hp:c.ins.Dk[i]? =some (c.ins.Dk[i]'(by omega)):=AD9 _;obtain⟨b,B,h1,h2,h3,h4⟩:=dr Qj i _ hp (hk i _ hp).1;exact⟨b,B,h1,h2,h3,fun d r hh=>h4 d r (by rw[hp]at hh;exact AGR hh)⟩
 let N:=σ.bx.length
 let M:=m.length
 have im:∀i b,m[i]? =some (some b)→QA m N i=b:=fun i b h=>by simp[QA,h]
 have mL:∀i,M≤i→QA m N i=N+(i-M):=fun i hi=>by
  have:m[i]? =none:=AF2 hi;simp[QA,this,M]
 have ro:fy (QA m N) M N:=⟨fun i hi=>by
   obtain⟨b,B,h1,h2,_⟩:=all i hi;rw[im i b h1];exact(AD7.1 h2).1,mL,fun i j hi hj e=>by
   obtain⟨b,B,h1,h2,_⟩:=all i hi;obtain⟨b',B',sF,q6,_⟩:=all j hj;rw[im i b h1,im j b' sF]at e;subst e;exact hf.inj i j b h1 sF⟩
 let E2:Env:={
   EY:=fun n=>if n<N then E.EY n else E'.EY (M+(n-N))
   Ei:=fun n=>if n<N then E.Ei n else E'.Ei (M+(n-N))
   T:=fun c=>E.T c∨E'.S c
   S:=E'.S }
 have hS:∀c,E.S c→E'.S c:=fun d hd=>base.S d (hf.S d hd)
 have hSk:∀d∈Fk.flatten,¬E'.S d:=fun d hd hs=>by
  obtain⟨_,n2,_,n4⟩:=k3 d hd;exact(base.jL d hs).elim n2 (fun h=>h n4)
 have cR:∀d,E.T d→w'.heap[d]? =w.heap[d]?:=fun d hd=>base.heap d (hf.T d hd)
 have mu:∀d∈Fk.flatten,w'.heap[d]? =w.heap[d]?:=fun d hd=>base.heap d (k3 d hd).2.2.2
 have ABa:T3 E w E2 w':=⟨fun d hd=> .inl hd,hS,fun d hd=>hd,fun d hd=>by
   rcases base.jL d hd with h|h
   ·exact hf.jL d h
   ·exact .inr fun ht=>h (hf.T d ht),cR,base.os,base.tape,base.output,base.size⟩
 let vw':=FM.mk id c.outs.Dk u.2
 let Bs:=FM.mk (QA m N) c.outs.Dk u.2
 let bk:=(Bh σ.bx m).map (Bx.map (Cn m))
 have hbk:Bh (σ.O8 m).bx m=bk:=by rw[j0,S5]
 have ACo:bk.length=N:=by simp[bk,EC,N]
 let Qc:=G_ (QA m N) 0 Bs bk
 have AFn:Qx (QA m N) 0 c.outs.Dk u.2 (Bh (σ.O8 m).bx m)=Qc:=by rw[XL,hbk]
 obtain⟨s1,s2,s3⟩:=UC ro (l:=Bs) (i:=0) (bx:=bk) (by simp[ACo]);have AFe:Bs.length=c.outs.Dk.length:=L9 _;have XJ:σ.bx.length≤Qc.length:=by
  show N≤Qc.length
  have:Qc.length=N+(0+Bs.length-M):=s1;omega
 have rn:eC E' E2 c.outs.Dk u.2 Qc (QA m N):=by
  refine⟨fun i hi=> ?_,fun i p hp=> ?_,rfl⟩
  ·by_cases him:i<M
   ·obtain⟨b,B,h1,h2,_⟩:=all i him
    have l4:b<N:=(AD7.1 h2).1;have g1:=hf.ids i b h1;have g2:=eT i (by omega) hi;rw[im i b h1];simp only[E2,AEA l4];exact⟨by rw[g2.1,g1.1],by rw[g2.2,g1.2]⟩
   ·rw[mL i (by omega)]
    have: ¬(N+(i-M)<N):=by omega
    simp only[E2,AEB this];rw[show M+(N+(i-M)-N)=i by omega];exact⟨rfl,rfl⟩
  ·obtain⟨z,z1,z2⟩:=RU (QA m N) (u:=u.2) hp
   refine⟨z,z1,?_⟩;have:=s2 i _ z2
   rwa [AGB]at this
 have my:∀n,n<N→some n∉m→Qc[n]? =bk[n]?:=fun n hn hm=>by
  refine s3 n (by omega) fun j hj he=> ?_
  rw[AGB]at he;by_cases hjm:j<M
  ·obtain⟨b,B,h1,h2,_⟩:=all j hjm
   rw[im j b h1]at he;subst he;exact hm (AEN h1)
  ·have:=mL j (by omega)
   omega
 have keep:Ld E w σ.bx E2 w' (Bh Qc m):=by
  refine⟨by rw[EC];exact XJ,fun b hb=>by simp only[E2];rw[AEA hb],fun d hd=> .inl hd,hS,st,cR,fun b d r rows hb hq=> ?_⟩;have hbm:some b∉m:=fun hm=>by have:=OI hm hq;cases this
  rw[KY hbm,my b hb hbm]at hq;have hq1:=nU hq;have gW:σ.bx[b]? =some (.sl d r rows):=by
   rcases LH (Cs.refl σ.bx) b _ hq1 with e|e
   ·cases e
   ·exact e
  refine⟨d,rows,gW,fun p hp q ys zJ=>⟨hp,⟨ys,zJ,rfl⟩,fun h' hh=> ?_⟩⟩;have hFk:Fk[b]? =some (Fk[b]'(by rw[k1.1,EC];exact hb)):=AD9 _;obtain⟨_,ho⟩:=k1.2 b _ _ hq1 hFk;have e2:E2.Ei b=E.Ei b:=by simp only[E2];rw[AEA hb]
  rw[e2];exact eH ho (fun d hd=>cR d (st d hd)) (fun d hd=>mu d (AE5.2 ⟨_,AEN hFk,hd⟩)) hp zJ hh
 have vr:∀x v,VR E w σ.bx x v→VR E2 w' Qc (Cn m x) v:=fun x v hx=>by
  refine lG keep (fun b d' r rows' hbm hq=> ?_) XJ hx;obtain⟨i,hi,him⟩:=AFr hbm;have yC:m[i]? =some (some b):=by rw[AD9 hi,him]
  obtain⟨b',B,h1,h2,h3,h4⟩:=all i hi;rw[yC]at h1;cases h1;have hio:i<c.outs.Dk.length:=by omega
  have hp:c.outs.Dk[i]? =some c.outs.Dk[i]:=AD9 hio;obtain⟨z,z1,z2⟩:=rn.bx i _ hp;rw[im i b yC,hq]at z2;have ACh:c.ins.Dk[i]? =some (c.ins.Dk[i]'(by omega)):=AD9 _
  generalize c.outs.Dk[i]=po at z hp z1 z2
  cases po with
  |mem q=>simp[BP.mk]at z2
  |gone=>simp[BP.mk]at z2
  |sl d0 q=>
   simp only[BP.mk,AD_,Bx.sl.injEq]at z2;obtain⟨rfl,rfl,z2⟩:=z2;obtain rfl:=AE9 z2;obtain⟨d1,ZN⟩:=(hk i _ ACh).2 _ _ hp;obtain⟨d2,rows,rfl⟩:=h4 d1 r (by rw[ACh,ZN]);have l4:b<N:=(AD7.1 h2).1;have eh:E2.Ei b=E.Ei b:=by simp only[E2];rw[AEA l4]
   refine⟨d2,rows,h2,?_,eh⟩;obtain⟨F0,hR0,_⟩:=h.bx.take h2;have hFi:Fs[i]? =some (Fs[i]'(by rw[hFs1.1,L9];exact hio)):=AD9 _;obtain⟨_,hY⟩:=hFs1.2 i _ _ z1 hFi;have jC:alive c.outs.Dk i=true:=by simp[alive,hp]
   rw[(eT i (by omega) jC).2,(hf.ids i b yC).2]at hY;exact gu (Pj hR0.2) (Pj hY)
 have OJ:c.outs.Dk.all (BP.IG c.outs.Dk)=true:=hbo;have rel:Rel E2 { tm:=(σ.O8 m).tm,bx:=Qc } a w':=by
  refine⟨h.ID,?_,?_⟩
  ·rw[bn]
   exact BU.Gw _ (fun x v hx=>kE vr hx) h.tm
  ·refine TE ro (Fs:=Fs) (by simp[ACo]) (fun i _ hi=> ?_) (by rw[hFs1.1,L9];exact AFe.symm) (fun j B F hB hF=> ?_) ?_
   ·obtain⟨b,B,h1,h2,_⟩:=all i hi
    rw[im i b h1];have l4:b<(Bh σ.bx m).length:=by rw[EC];exact(AD7.1 h2).1
    have hd:(Bh σ.bx m)[b]? =some .dead:=by
     rw[AD9 l4];exact congrArg some (OI (AEN h1) (AD9 l4))
    simp only[bk];rw[AFG,hd];rfl
   ·rw[AGB]
    have jB:=(AD7.1 hB).1;have hp:c.outs.Dk[j]? =some (c.outs.Dk[j]'(by omega)):=AD9 _;obtain⟨z,z1,z2⟩:=RU (QA m N) (u:=u.2) hp;have Kt:Bs[j]? =_:=z2;rw[hB]at Kt;cases Kt;exact AAE rn hp (AF5.1 OJ _ (AEa _)) (hFs1.2 j _ _ z1 hF)
   ·
    refine⟨Fk,⟨by simp[bk,k1.1],fun n B F hn hF=> ?_⟩,?_⟩
    ·simp only[bk]at hn
     rw[AFG,AEC]at hn;obtain⟨B0,hn,rfl⟩:=hn;have eM:n<N:=by have:=(AD7.1 hn).1;rwa [EC]at this
     have h3:=k1.2 n B0 F hn hF;have vG:∀d∈F,w'.heap[d]? =w.heap[d]?:=fun d hd=>mu d (AE5.2 ⟨F,AEN hF,hd⟩)
     have eb:E2.EY n=E.EY n:=by simp only[E2];rw[AEA eM]
     have eh:E2.Ei n=E.Ei n:=by simp only[E2];rw[AEA eM]
     cases B0 with
     |mem cs=>
      obtain⟨rfl,arr,ty,fr,ha,hu,hv⟩:=h3;exact⟨by rw[eb],arr,ty,fr,by rw[eb,vG _ (by simp),ha],hu,BU.Gw _ vr hv⟩
     |sl d r rows=>
      refine⟨h3.1,?_⟩;rw[eh];exact CT hS (fun d hd=>cR d (st d hd)) vG h3.2
     |dead=>exact h3
    ·refine⟨AEJ.2 ⟨k2,hFs2.nodup,fun x hx z hz he=> ?_⟩,fun d hd ht=> ?_,fun d hd=> ?_,fun d hd=> .inr hd,fun d hd=> ?_,h.bx.eK.mono (fun _ h=> .inl h) cR⟩
     ·subst he
      exact hFs2.free x hz (base.T x (k3 x hx).2.2.2)
     ·rcases AEZ.1 hd with hd|hd
      ·rcases ht with ht|ht
       ·exact(k3 d hd).1 ht
       ·exact hSk d hd ht
      ·rcases ht with ht|ht
       ·exact hFs2.free d hd (base.T d (hf.T d ht))
       ·exact hFs2.free d hd (hFs2.st d ht)
     ·rcases AEZ.1 hd with hd|hd
      ·exact AFI (k3 d hd).2.2.1 base.size
      ·exact hFs2.lt d hd
     ·rcases hd with hd|hd
      ·exact AFI (TN d hd) base.size
      ·exact hFs2.TN d (hFs2.st d hd)
 have sy:Ka (ia c N0 xs σ) E σ.bx w E2 Qc w':=by
  refine⟨ABa,XJ,fun n hn=>⟨by simp only[E2];rw[AEA hn],by simp only[E2];rw[AEA hn]⟩,fun n hn=> ?_,fun n B B' hnt hB Kt jv=> ?_⟩
  rotate_left 1
  ·have eM:=(AD7.1 hB).1
   have ve:some n∉m:=fun hm=>hnt (by
    simp only[ia,Qj,List.mem_filterMap];exact⟨some n,hm,rfl⟩)
   rw[my n eM ve]at Kt;simp only[bk]at Kt;have hkn:(Bh σ.bx m)[n]? =some B:=by rw[KY ve];exact hB
   rw[AFG,hkn]at Kt;have Kt:Bx.map (Cn m) B=B':=by simpa using Kt
   have hFk:Fk[n]? =some (Fk[n]'(by rw[k1.1,EC];exact eM)):=AD9 _;refine⟨?_,fun d hd=> ?_⟩
   ·subst Kt
    cases B with
    |mem cs=>trivial
    |sl d r rows=>rfl
    |dead=>exact absurd rfl jv
   ·rcases Tt (k1.2 n B _ hkn hFk) hd with hs|hs
    ·exact cR d (st d hs)
    ·exact mu d (AE5.2 ⟨_,AEN hFk,hs⟩)
  have eM:=(AD7.1 hn).1;have ve:some n∉m:=fun hm=>by
   obtain⟨i,hi,him⟩:=AFr hm;obtain⟨b,B,h1,h2,h3,_⟩:=all i hi;rw[AD9 hi,him]at h1;cases h1;rw[hn]at h2;cases h2;exact h3 rfl
  rw[my n eM ve];simp only[bk];rw[AFG,KY ve,hn];rfl
 refine⟨x,E2,Tq c.outs.CJ u.1 (QA m N),{ tm:=(σ.O8 m).tm,bx:=Qc },rfl,rel,al rn hslot CJ,sy,by simp[bn],?_⟩;rw[AFn]at e;exact e
theorem kK{f:Nat}{c:NK}(hc:IY P f c)(h:Rel E σ a w){xs:List XV}{vs:List Value}(hxs:BU (XR E w σ.bx) xs vs)(e:Xn c xs σ k=some y):
  Calls P f vs.toArray w fun e w' => ∃x E' xv σ',e= .returned x∧Rel E' σ' a w'∧XR E' w' σ'.bx xv x∧Ka (OS c xs σ) E σ.bx w E' σ'.bx w'∧σ'.tm.length=σ.tm.length∧k xv σ' =some y:=by
 unfold Xn at e;split at e
 case isFalse=>cases e
 rename_i hlen;obtain⟨E',h1,h2,h3,h4⟩:=cO h c.ins;have hold:∀b,b<σ.bx.length→(c.ins.opens σ.bx)[b]? =σ.bx[b]?:=fun b hb=>by simp only[CI.opens];rw[AEG hb]
 refine(hE (N0:=σ.bx.length) hc h1 h3 (hxs.imp fun x v hx=>h4 x v hx) hlen (k:=k) (y:=y) e).mono fun e' w' hR=> ?_
 obtain⟨x,E2,xv,σ',q0,q1,q2,q3,q4,q5⟩:=hR;exact⟨x,E2,xv,σ',q0,q1,q2,h2.after hold q3,q4,q5⟩
end
end Go.Fw
end
section
namespace Go.Fw
def Ub(P:Program)(Γ:Nat→Option NK):Prop:= ∀f c,Γ f=some c→IY P f c
theorem a8{Γ:Nat→Option NK}{σ:St}{o:Op}(h:aF o=false):Eu (fun _=>none) σ o=Eu Γ σ o:=by
 cases o with
 |call c=>
  obtain⟨callee,args,bN⟩:=c;cases callee with
  |value f=>simp[aF]at h
  |invoke _ _=>rfl
  |builtin b=>cases b<;>rfl
 |_=>rfl
theorem AB_{Y:Type}{P:Program}{Γ:Nat→Option NK}{o:Oper}{E:Env}{σ:St}{a:Act}{w:World}{k:K Y}{y:Y}{g:Nat}{c:NK}(vE:IY P g c)(h:Rel E σ a w){f:Operand}{args:Array Operand}{bN:Array TypeId}
  (ho:o.op= .call { callee:= .value f,args:=args,argTypes:=bN }) {ps:List Value} (RD:a.eval f= .func (.func g) #[] ps.toArray) {xs:List XV} (E6:BU (XR E w σ.bx) xs (args.toList.map a.eval++ps)) (ht:Eu Γ σ o.op=OS c xs σ)
  (e:Xn c xs σ k=some y) {next:Act→World→Prop} {Q:Exit→Act→World→Prop}
  (hn:∀v w' E' x σ',Rel E' σ' a w'→XR E' w' σ'.bx x v→Ka (Eu Γ σ o.op) E σ.bx w E' σ'.bx w'→σ'.tm.length=σ.tm.length→k x σ' =some y→next (a.put o.dst v) w'):o.wp P a w next Q:=by
 have bp:=kK vE h E6 e;have ar:(execOp a.eval o).run P w= .ok (.enter g (args.toList.map a.eval++ps).toArray) w:=by
  have e2:(args.map a.eval)++ps.toArray=(args.toList.map a.eval++ps).toArray:=by
   apply AHN;simp
  simp only[execOp,ho,resolve,RD,Deferred.ofValue,Sem.run_bind,Sem.run_pure,Result.andThen_ok,invoke,Array.empty_append,e2,vE.2.1]
 unfold Oper.wp;rw[ar];simp only[Oper.upon];refine bp.mono fun e w' hR=> ?_
 obtain⟨x,E',xv,σ',rfl,h1,h2,h3,h4,h5⟩:=hR;rw[←ht]at h3;exact hn x w' E' xv σ' h1 h2 h3 h4 h5
section
variable{Y:Type} {P:Program} {T:F9} (hT:C2 P T) {Γ:Nat→Option NK} (hΓ:Ub P Γ) {o:Oper} {E:Env} {σ:St} {a:Act} {w:World} {k:K Y} {y:Y}
include hT hΓ
theorem iz(h:Rel E σ a w)(e:PJ T Γ o σ k=some y){next:Act→World→Prop}{Q:Exit→Act→World→Prop}
  (hn:∀v w' E' x σ',Rel E' σ' a w'→XR E' w' σ'.bx x v→Ka (Eu Γ σ o.op) E σ.bx w E' σ'.bx w'→σ'.tm.length=σ.tm.length→k x σ' =some y→next (a.put o.dst v) w'):o.wp P a w next Q:=by
 by_cases hc:aF o.op=false
 ·obtain⟨v,w',E',x,σ',hr,h1,h2,h3,h4,h5⟩:=kW hT h e hc
  rw[a8 hc]at h3;unfold Oper.wp;rcases hr with hr|⟨hr,rfl⟩
  ·rw[hr]
   exact hn v w' E' x σ' h1 h2 h3 h4 h5
  ·rw[hr]
   exact hn _ w' E' x σ' h1 h2 h3 h4 h5
 ·
  unfold aF at hc;split at hc
  case h_2=>simp at hc
  rename_i f args bN ho;unfold PJ at e;rw[ho]at e;dsimp only at e;split at e
  case h_3=>cases e
  ·rename_i g Fq hf
   split at e
   case h_2=>cases e
   rename_i c hg;have hv:=h.ev f;rw[hf]at hv;obtain⟨SK,RD⟩:(∀b∈Fq,b<σ.bx.length)∧a.eval f= .func (.func g) #[] (Fq.map fun b=>Value.pointer (some ⟨E.EY b,0,none⟩)).toArray:=hv;have vE:=hΓ g c hg;have E6:BU (XR E w σ.bx) (args.toList.map σ.ev++Fq.map fun b=> .c (.Eb b 0)) (args.toList.map a.eval++Fq.map fun b=>Value.pointer (some ⟨E.EY b,0,none⟩)):=by
    refine BU.append (evs h args.toList) ?_
    clear RD hf e
    induction Fq with
    |nil=>trivial
    |cons b l ih=>exact⟨⟨SK b (by simp),rfl⟩,ih (fun c hc=>SK c (by simp[hc]))⟩
   have ht:Eu Γ σ o.op=OS c (args.toList.map σ.ev++Fq.map fun b=> .c (.Eb b 0)) σ:=by
    rw[ho];simp only[Eu,hf,hg,OS];rfl
   exact AB_ vE h ho RD E6 ht e hn
  ·rename_i g rows hf
   split at e
   case h_2=>cases e
   rename_i c hg;have hv:=h.ev f;rw[hf]at hv;obtain⟨ps,RD,SK⟩:∃ps:List Value,a.eval f= .func (.func g) #[] ps.toArray∧BU (RA E w) rows ps:=hv;have vE:=hΓ g c hg;have E6:BU (XR E w σ.bx) (args.toList.map σ.ev++rows.map fun q=> .c (.Iv false q.1 q.2 0)) (args.toList.map a.eval++ps):=by
    refine BU.append (evs h args.toList) ?_
    clear RD hf e
    induction rows generalizing ps with
    |nil=>
     cases ps with
     |nil=>trivial
     |cons _ _=>exact SK.elim
    |cons q l ih=>
     cases ps with
     |nil=>exact SK.elim
     |cons p ps=>
      obtain⟨⟨bb,o,cs,h1,h2,h3,h4,h5⟩,SK⟩:=SK;exact⟨⟨bb,o,cs,h1,h2,h3,h4,h5⟩,ih ps SK⟩
   have ht:Eu Γ σ o.op=OS c (args.toList.map σ.ev++rows.map fun q=> .c (.Iv false q.1 q.2 0)) σ:=by
    rw[ho];simp only[Eu,hf,hg,OS];rfl
   exact AB_ vE h ho RD E6 ht e hn
end
theorem Rel.tmp{E:Env}{σ:St}{a:Act}{w:World}(h:Rel E σ a w){t:Nat}{x:XV}(e:σ.tm[t]? =some x):∃v,a.tmps[t]? =some v∧XR E w σ.bx x v:=by
 obtain⟨v,h1,h2⟩:=h.tm.get e;exact⟨v,by simpa using h1,h2⟩
def AA2:Value→Option Bool
 | .bool b=>some b
 |_=>none
theorem R0{ops:Array Oper}{tmps:Array Value}{j t:Nat}(e:(ops[j]?).bind (·.dst)=some t){v:Value}(hv:tmps[t]? =some v):yielded ops tmps j=AA2 v:=by
 simp only[yielded,e,AEV,hv];cases v<;>rfl
theorem Zz{E:Env}{w:World}{vw:List Bx}:XR E w vw (.Hd []) undef:=⟨#[],rfl,trivial⟩
structure Ok (E0:Env) (w0:World) (N nb:Nat) (E:Env) (σ:St) (a:Act) (w:World):Prop where
 rel:Rel E σ a w
 base:T3 E0 w0 E w
 tm:σ.tm.length=N
 ah:nb≤σ.bx.length
 ids:∀i,i<nb→σ.bx[i]?≠some .dead→E.EY i=E0.EY i∧E.Ei i=E0.Ei i
theorem Ok.next{E0 E E':Env}{w0 w w':World}{N nb:Nat}{σ σ':St}{a a':Act}{t:ABC}(h:Ok E0 w0 N nb E σ a w)(hr:Rel E' σ' a' w')(hw:Ka t E σ.bx w E' σ'.bx w')(hl:σ'.tm.length=σ.tm.length):Ok E0 w0 N nb E' σ' a' w':=
 ⟨hr,h.base.trans hw.base,hl.trans h.tm,AFS h.ah hw.len,fun i hi hd=>by
  have h1:=hw.ids i (AFI hi h.ah);have h2:=h.ids i hi (fun hh=>hd (hw.dead i hh));exact⟨h1.1.trans h2.1,h1.2.trans h2.2⟩⟩
theorem Ok.put{E0 E:Env}{w0 w:World}{N nb:Nat}{σ:St}{a:Act}(h:Ok E0 w0 N nb E σ a w)(dst:Option Tmp){x:XV}{v:Value}(hx:XR E w σ.bx x v):Ok E0 w0 N nb E (σ.put dst x) (a.put dst v) w:=by
 have e1:(σ.put dst x).bx=σ.bx:=by cases dst<;>rfl
 have e2:(σ.put dst x).tm.length=σ.tm.length:=by cases dst<;>simp[St.put]
 refine⟨h.rel.put dst hx,h.base,e2.trans h.tm,by rw[e1];exact h.ah,fun i hi hd=>h.ids i hi (by rwa [e1]at hd)⟩
theorem Ok.same{E0 E:Env}{w0 w:World}{N nb:Nat}{σ σ1:St}{a:Act}(h:Ok E0 w0 N nb E σ a w)(hr:Rel E σ1 a w)(hb:σ1.bx=σ.bx)(hl:σ1.tm.length=σ.tm.length):Ok E0 w0 N nb E σ1 a w:=
 ⟨hr,h.base,hl.trans h.tm,by rw[hb];exact h.ah,fun i hi hd=>h.ids i hi (by rwa [hb]at hd)⟩
end Go.Fw
end
section
namespace Go.Fw
section
variable{Y:Type}
abbrev k0:K (XV×St):=fun x σ=>some (x,σ)
theorem kL{op:BinOp}{κ:IntKind}{a b:Int}(k:AV→Option Y):UH op κ a b k=(UH op κ a b some).bind k:=by
 cases op<;>simp[UH]<;>split<;>rfl
theorem XQ{op:BinOp}{κ:IntKind}{a b:Int}(k:AV→Option Y):PY op κ a b k=(PY op κ a b some).bind k:=by
 unfold PY;split
 ·rfl
 ·cases op<;>simp
theorem lH{op:BinOp}{a b:AAh}(k:AV→Option Y):VL op a b k=(VL op a b some).bind k:=by
 cases op<;>simp[VL]<;>split<;>rfl
theorem aU{T:F9}{t:Nat}{op:BinOp}{a b:XV}(k:AV→Option Y):fJ T t op a b k=(fJ T t op a b some).bind k:=by
 unfold fJ;split
 ·split
  ·exact XQ k
  ·exact XQ k
  ·split
   ·exact kL k
   ·rfl
 ·exact lH k
 ·split
  ·split
   ·split<;>rfl
   ·rfl
  ·rfl
 ·split<;>rfl
 ·rfl
theorem cy{op:UnOp}{a:XV}(k:AV→Option Y):vB op a k=(vB op a some).bind k:=by
 unfold vB;split<;>rfl
theorem Qd{g:Bool}{a b:XV}(k:AV→Option Y):du g a b k=(du g a b some).bind k:=by
 unfold du;split
 ·split
  ·cases g<;>rfl
  ·rfl
 ·rfl
theorem G8{len:Nat}{lo hi:Option XV}(k:Nat→Nat→Option Y):Ip len lo hi k=(Ip len lo hi fun l h=>some (l,h)).bind fun p=>k p.1 p.2:=by
 unfold Ip;dsimp only;split
 ·split<;>rfl
 ·rfl
theorem ic{T:F9}{t:Nat}{σ:St}{x:XV}{lo hi:Option XV}(k:K Y):Wg T t σ x lo hi k=(Wg T t σ x lo hi k0).bind fun p=>k p.1 p.2:=by
 unfold Wg;split
 ·split
  ·rw[G8,G8 (Y:=XV×St),AFP];rfl
  ·rfl
 ·split
  ·rw[G8,G8 (Y:=XV×St),AFP];rfl
  ·rfl
 ·split
  ·split
   ·rw[G8,G8 (Y:=XV×St),AFP];rfl
   ·rfl
  ·rfl
 ·rfl
theorem iO{T:F9}{t:Nat}{σ:St}{x i:XV}(k:K Y):Wf σ T t x i k=(Wf σ T t x i k0).bind fun p=>k p.1 p.2:=by
 unfold Wf;split
 ·split
  ·split<;>rfl
  ·rfl
 ·split
  ·split
   ·split<;>rfl
   ·rfl
  ·rfl
 ·split
  ·split
   ·split<;>rfl
   ·rfl
  ·rfl
 ·rfl
theorem bR{T:F9}{t:Nat}{σ:St}{x i:XV}(k:K Y):OQ T t σ x i k=(OQ T t σ x i k0).bind fun p=>k p.1 p.2:=by
 unfold OQ;split
 ·split
  ·split<;>rfl
  ·rfl
 ·rfl
theorem k_{T:F9}{s d:Nat}{σ:St}{x:XV}(k:K Y):bq T s d σ x k=(bq T s d σ x k0).bind fun p=>k p.1 p.2:=by
 unfold bq;split
 ·rfl
 ·rfl
 ·split
  ·split<;>rfl
  ·rfl
 ·split<;>rfl
 ·rfl
theorem kt{T:F9}{t:Nat}{σ:St}{l c:XV}(k:K Y):bw T t σ l c k=(bw T t σ l c k0).bind fun p=>k p.1 p.2:=by
 unfold bw;split
 ·split
  ·split
   ·split<;>rfl
   ·rfl
  ·rfl
 ·rfl
theorem X2{T:F9}{t n:Nat}{ps:List (Nat×XV)}{σ:St}(k:K Y):KX T t n ps σ k=(KX T t n ps σ k0).bind fun p=>k p.1 p.2:=by
 unfold KX;split
 ·split
  ·split
   ·rw[AFP];rfl
   ·rfl
  ·rfl
 ·rfl
theorem eO{T:F9}{ts:Array TypeId}{σ:St}{a x:XV}(k:K Y):Te T ts σ a x k=(Te T ts σ a x k0).bind fun p=>k p.1 p.2:=by
 unfold Te;split
 ·split
  ·split
   ·rw[AFP]
    congr 1;funext s
    split
    ·split<;>rfl
    ·rfl
   ·rw[AFP]
    congr 1;funext s
    split
    ·rw[AFP]
     congr 1;funext q
     rw[AFP];congr 1;funext z;split<;>rfl
    ·rfl
   ·rfl
  ·rfl
 ·rfl
theorem iE{T:F9}{ts:Array TypeId}{σ:St}{x:XV}(k:K Y):WM T ts σ x k=(WM T ts σ x k0).bind fun p=>k p.1 p.2:=by
 unfold WM;split
 ·split
  ·split<;>rfl
  ·rfl
 ·rfl
theorem bz{c:NK}{xs:List XV}{σ:St}(k:K Y):Xn c xs σ k=(Xn c xs σ k0).bind fun p=>k p.1 p.2:=by
 unfold Xn;split
 ·split
  ·rw[AFP];rfl
  ·rfl
 ·rfl
theorem fl{σ:St}{x:XV}(k:K Y):RY σ x k=(RY σ x k0).bind fun p=>k p.1 p.2:=by
 unfold RY;split
 ·rw[AFP];rfl
 ·rfl
theorem cE{T:F9}{Γ:Nat→Option NK}{o:Oper}{σ:St}(k:K Y):PJ T Γ o σ k=(PJ T Γ o σ k0).bind fun p=>k p.1 p.2:=by
 unfold PJ;split
 ·rfl
 ·exact fl k
 ·split
  ·rename_i x _
   cases x<;>rfl
  ·rfl
 ·split<;>rfl
 ·split
  ·split<;>rfl
  ·rfl
 ·split
  ·split<;>rfl
  ·rfl
 ·exact X2 k
 ·split<;>rfl
 ·split
  ·split
   ·split<;>rfl
   ·rfl
  ·rfl
 ·split<;>rfl
 ·rw[aU,aU (Y:=XV×St),AFP];rfl
 ·rw[cy,cy (Y:=XV×St),AFP];rfl
 ·exact k_ k
 ·split
  ·split<;>rfl
  ·rfl
 ·exact kt k
 ·exact ic k
 ·split<;>rfl
 ·split<;>rfl
 ·exact iO k
 ·exact bR k
 ·split<;>rfl
 ·split
  ·split
   ·exact bz k
   ·rfl
  ·split
   ·exact bz k
   ·rfl
  ·rfl
 ·split
  ·split<;>rfl
  ·split
   ·split<;>rfl
   ·rfl
  ·rfl
 ·split
  ·exact eO k
  ·rfl
 ·split
  ·exact iE k
  ·rfl
 ·split
  ·rw[Qd,Qd (Y:=XV×St),AFP];rfl
  ·rfl
 ·split
  ·rw[Qd,Qd (Y:=XV×St),AFP];rfl
  ·rfl
 ·rfl
theorem WC{I:Type}[Nonempty I]{T:F9}{Γ:Nat→Option NK}{o:Oper}{σ:St}{k:I→K Y}{y:Y}(h:∀i,PJ T Γ o σ (k i)=some y):∃x σ',PJ T Γ o σ k0=some (x,σ')∧ ∀i,k i x σ' =some y:=by
 obtain⟨i0⟩:= ‹Nonempty I›;have h0:=h i0;rw[cE]at h0;rw[AED]at h0;obtain⟨⟨x,σ'⟩,h1,h2⟩:=h0;refine⟨x,σ',h1,fun i=> ?_⟩;have:=h i;rw[cE,h1]at this;exact this
end
end Go.Fw
end
section
namespace Go.Fw
def WF{α:Type}(P:Program)(s:Sem α):Prop:= ∀w v w1,s.run P w= .ok v w1→ ∀w',s.run P w' = .ok v w'
section
variable{α β:Type} {P:Program}
theorem WF.pure(x:α):WF P (Pure.pure x:Sem α):=fun w v w1 h w' =>by
 simp only[Sem.run_pure,Result.ok.injEq]at h⊢;exact⟨h.1,trivial⟩
theorem WF.bind{s:Sem α}{f:α→Sem β}(h:WF P s)(k:∀v,WF P (f v)):WF P (s >>= f):=fun w v w1 e w' =>by
 rw[Sem.run_bind]at e⊢;cases hs:s.run P w with
 |ok u w2=>
  rw[hs]at e;simp only[Result.andThen_ok]at e;rw[h w u w2 hs w'];simp only[Result.andThen_ok];exact k u w2 v w1 e w'
 |halt x w2=>
  rw[hs]at e;simp[Result.andThen]at e
theorem WF.halt(x:Halt):WF P (.halt x:Sem α):=fun w v w1 e w' =>by simp[Sem.run]at e
theorem WF.program:WF P program:=fun w v w1 e w' =>by
 rw[run_program]at e⊢;cases e;rfl
theorem WF.typeInfo(t:TypeId):WF P (typeInfo t):=WF.bind WF.program fun p=>by
 split
 ·exact WF.pure _
 ·exact WF.halt _
theorem WF.underlying(t:TypeId):WF P (underlying t):=WF.bind WF.program fun p=>by
 split
 ·exact WF.pure _
 ·exact WF.halt _
theorem WF.sizeOf(t:TypeId):WF P (Go.sizeOf t):=WF.bind (WF.typeInfo t) fun _=>WF.pure _
theorem WF.isAgg(t:TypeId):WF P (isAgg t):=WF.bind (WF.underlying t) fun d=>by
 split<;>exact WF.pure _
theorem WF.zeroValue(t:TypeId):WF P (zeroValue t):=WF.bind (WF.typeInfo t) fun i=>by
 split
 ·exact WF.pure _
 ·exact WF.halt _
theorem WF.asIntOf(v:Value):WF P (asIntOf v):=by
 unfold Go.asIntOf;split
 ·exact WF.pure _
 ·exact WF.halt _
 ·exact WF.halt _
theorem WF.asBool(v:Value):WF P (asBool v):=by
 unfold Go.asBool;split
 ·exact WF.pure _
 ·exact WF.halt _
theorem WF.asAgg(v:Value):WF P (asAgg v):=by
 unfold Go.asAgg;split
 ·exact WF.pure _
 ·exact WF.halt _
theorem WF.sureAddr(v:Value):WF P (Instr.sureAddr v):=by
 unfold Instr.sureAddr;split
 ·exact WF.pure _
 ·exact WF.halt _
theorem WF.gN{s:Sem α}(h:∀w v w1,s.run P w≠ .ok v w1):WF P s:=fun w v w1 e=>absurd e (h w v w1)
theorem OU{s:Sem α}{f:α→Sem β}(h:∀x w v w1,(f x).run P w≠ .ok v w1):∀w v w1,(s >>= f).run P w≠ .ok v w1:=fun w v w1 e=>by
 rw[Sem.run_bind]at e;cases hs:s.run P w with
 |ok u w2=>rw[hs]at e;exact h u w2 v w1 e
 |halt x w2=>rw[hs]at e;simp[Result.andThen]at e
theorem US(x:Halt):∀w v w1,(.halt x:Sem α).run P w≠ .ok v w1:=fun w v w1 e=>by simp[Sem.run]at e
theorem Xj(e:RuntimeError):∀w v w1,(runtimePanic e:Sem α).run P w≠ .ok v w1:=by
 unfold runtimePanic;refine OU fun p=> ?_
 dsimp only;split<;>first
  |exact US _
  |exact OU fun _=>OU fun _=>US _
  |exact OU fun _=>US _
theorem WF.bounds(k:IntKind)(x y:Int)(c:BoundsCode):WF P (boundsPanic k x y c:Sem α):=WF.gN (by
 unfold boundsPanic;dsimp only;split<;>exact OU fun _=>Xj _)
theorem WF.part(t:TypeId)(cs:Array Value)(o:Nat):WF P (part t cs o):=WF.bind (WF.isAgg t) fun b=>by
 split
 ·exact WF.bind (WF.sizeOf t) fun _=>WF.pure _
 ·split
  ·exact WF.pure _
  ·exact WF.halt _
theorem WF.field(t:TypeId)(x:Value)(f:Nat):WF P (Instr.field t x f):=WF.bind (WF.underlying t) fun d=>by
 split
 ·split
  ·exact WF.bind (WF.asAgg x) fun _=>WF.part _ _ _
  ·exact WF.halt _
 ·exact WF.halt _
theorem WF.indexAt(t:TypeId)(x i:Value):WF P (Instr.indexAt t x i):=WF.bind (WF.asIntOf i) fun q=>by
 obtain⟨k,i⟩:=q;dsimp only;refine WF.bind (WF.underlying t) fun d=> ?_
 have rest:∀q:Option Addr×Nat×TypeId,WF P (do
   let d←Go.underlying t
   match q.1 with
   |some a=>
    if 0≤i∧i<(q.2.1:Int)then do
     let s←Go.sizeOf q.2.2
     Pure.pure (Value.pointer (some (a.add (i.toNat*s))))
    else if(decide (q.2.1≤1)&&(match d with| .array .. =>true|_=>false))=true then unsupported (.noEntry "op/indexAddr.an index out of range at an array of length 0 or 1 (ledger 616)")
    else boundsPanic k i q.2.1 .index
   |none=>boundsPanic k i 0 .index:Sem Value):=fun q=>by
  refine WF.bind (WF.underlying t) fun d=> ?_
  split
  ·split
   ·exact WF.bind (WF.sizeOf _) fun _=>WF.pure _
   ·repeat' split
    all_goals first|exact WF.halt _|exact WF.bounds _ _ _ _
  ·exact WF.bounds _ _ _ _
 split
 ·exact WF.bind (WF.sureAddr _) fun _=>WF.bind (WF.pure _) fun q=>rest q
 ·exact WF.bind (WF.pure _) fun q=>rest q
 ·exact WF.bind (WF.halt _) fun q=>rest q
theorem WF.index(t:TypeId)(x i:Value):WF P (Instr.index t x i):=WF.bind (WF.asIntOf i) fun q=>by
 obtain⟨k,i⟩:=q;dsimp only;refine WF.bind (WF.underlying t) fun d=> ?_
 split
 ·split
  ·exact WF.bind (WF.sizeOf _) fun _=>WF.part _ _ _
  ·exact WF.bounds _ _ _ _
 ·split
  ·exact WF.pure _
  ·exact WF.bounds _ _ _ _
 ·exact WF.halt _
theorem WF.extract(x:Value)(i:Nat):WF P (Instr.extract x i):=by
 unfold Instr.extract;split
 ·split
  ·exact WF.pure _
  ·exact WF.halt _
 ·exact WF.halt _
theorem WF.sliceBound(x:Value)(y:Nat)(c:BoundsCode):WF P (Instr.sliceBound x y c):=WF.bind (WF.asIntOf x) fun q=>by
 obtain⟨k,i⟩:=q;dsimp only;split
 ·exact WF.pure _
 ·exact WF.bounds _ _ _ _
theorem WF.sliceBounds(b:Bool)(len cap:Nat)(l h:Option Value):WF P (Instr.sliceBounds b len cap l h none):=by
 cases h with
 |none=>
  cases l with
  |none=>exact WF.bind (WF.pure _) fun _=>WF.bind (WF.pure _) fun _=>WF.bind (WF.pure _) fun _=>WF.pure _
  |some l=>exact WF.bind (WF.pure _) fun _=>WF.bind (WF.pure _) fun _=>WF.bind (WF.sliceBound _ _ _) fun _=>WF.pure _
 |some h=>
  cases l with
  |none=>exact WF.bind (WF.pure _) fun _=>WF.bind (WF.sliceBound _ _ _) fun _=>WF.bind (WF.pure _) fun _=>WF.pure _
  |some l=>exact WF.bind (WF.pure _) fun _=>WF.bind (WF.sliceBound _ _ _) fun _=>WF.bind (WF.sliceBound _ _ _) fun _=>WF.pure _
theorem WF.asAddr(v:Value):WF P (asAddr v):=by
 unfold Go.asAddr;split
 ·exact WF.pure _
 ·exact WF.gN (Xj _)
 ·exact WF.halt _
theorem WF.slice(t:TypeId)(x:Value)(l h:Option Value):WF P (Instr.slice t x l h none):=WF.bind (WF.underlying t) fun d=>by
 split
 ·exact WF.bind (WF.sliceBounds _ _ _ _ _) fun _=>WF.pure _
 ·exact WF.bind (WF.sliceBounds _ _ _ _ _) fun _=>WF.bind (WF.sizeOf _) fun _=>WF.pure _
 ·refine WF.bind (WF.asAddr _) fun _=>WF.bind (WF.underlying _) fun d=> ?_
  split
  ·exact WF.bind (WF.sliceBounds _ _ _ _ _) fun _=>WF.bind (WF.sizeOf _) fun _=>WF.pure _
  ·exact WF.halt _
 ·exact WF.halt _
theorem WF.sliceAt(t:TypeId)(x:Value)(l h:Option Value):WF P (Instr.sliceAt t x l h none):=WF.bind (WF.underlying t) fun d=>by
 split
 ·exact WF.bind (WF.sureAddr _) fun _=>WF.bind (WF.sliceBounds _ _ _ _ _) fun _=>WF.bind (WF.sizeOf _) fun _=>WF.pure _
 ·exact WF.slice _ _ _ _
theorem WF.b_{f:α→Sem β}(h:∀x,WF P (f x)):∀l:List α,WF P (l.mapM f)
 |[]=>WF.pure _
 |x::l=>by
  rw[AHL];exact WF.bind (h x) fun _=>WF.bind (WF.b_ h l) fun _=>WF.pure _
theorem WF.mapM{f:α→Sem β}(h:∀x,WF P (f x))(a:Array α):WF P (a.mapM f):=by
 rw[Array.mapM_eq_mapM_toList,←bind_pure_comp];exact WF.bind (WF.b_ h _) fun _=>WF.pure _
theorem WF.build(t:TypeId)(ps:Array (Nat×Value)):WF P (Instr.build t ps):=WF.bind (WF.zeroValue t) fun z=>by
 refine WF.bind (WF.underlying t) fun d=> ?_
 split
 ·refine WF.bind (WF.mapM (fun f=>WF.bind (WF.sizeOf _) fun _=>WF.pure _) _) fun _=> ?_
  split
  ·exact WF.pure _
  ·exact WF.halt _
 ·refine WF.bind (WF.sizeOf _) fun _=> ?_
  split
  ·exact WF.pure _
  ·exact WF.halt _
 ·exact WF.halt _
end
end Go.Fw
end
section
namespace Go.Fw
def Kof(hint:ABC)(E:Env)(w:World)(bx:List Bx)(c:Nat):Prop:=E.T c∨ ∃n B,n∈hint∧bx[n]? =some B∧gR E w n B c
def ZP(K:Nat→Prop)(w w':World):Prop:= ∀c,K c→w'.heap[c]? =w.heap[c]?
theorem i7{w:World}{B:Nat→Prop}:∀{p:List Xm} {r:Ty} {h:Value} {rows:List r.D} {q:Ty} {ys:List q.D} {bb o len cap i:Nat},Rd w B (.sl r) [h] rows→Bt r rows p→Dl r rows p=some ⟨q,ys⟩→
  Fb w h p=some (.slice (some ⟨bb,o,none⟩) len cap)→i<ys.length→RB w (.sl r) [h] rows bb
 |[],r,h,rows,q,ys,bb,o,len,cap,i,hr,hp,hg,hh,hi=>by
  rw[Bi]at hh;cases hh;simp only[Dl,AD_,AEP]at hg;obtain⟨rfl,hg⟩:=hg;obtain rfl:=AE9 hg;simp only[RB];exact⟨bb,o,len,cap,rfl,by omega,.inl rfl⟩
 |s::p,r,h,rows,q,ys,bb,o,len,cap,i,hr,hp,hg,hh,hi=>by
  simp only[Bt]at hp;obtain⟨hsi,He,hp⟩:=hp;simp only[Rd]at hr;obtain⟨a,cap',e1,_,hr⟩:=hr;obtain rfl:=(AFs e1).1;rcases hr with hr|⟨b',o',rfl,hb,hr⟩
  ·omega
  obtain⟨cs,hl,hc,hrow⟩:=hr s.i _ (KR hsi);simp only[Dl]at hg;split at hg
  case h_2=>cases hg
  rename_i q' x Sw;rw[Sw]at hp;dsimp only at hp;obtain⟨v,hv,hrv⟩:=Tm hrow Sw;have vS:=hc _ _ hv;rw[←He]at vS;simp only[Fb,vS]at hh;have:=i7 hrv hp hg hh hi;simp only[RB];refine⟨b',o',_,cap',rfl,by omega,.inr ⟨s.i,_,cs,KR hsi,hl,hc,?_⟩⟩;clear hc vS e1 hr;exact RB_cell hrow Sw hv this
where
 RB_cell {w:World} {B:Nat→Prop} {c:Nat}:∀{r:Ty} {cs:List Value} {x:r.D} {j:Nat} {t:Ty} {y:t.D} {v:Value},Rd w B r cs x→AY r j x=some ⟨t,y⟩→cs[j]? =some v→RB w t [v] y c→RB w r cs x c
 | .cons c r,cs,x,0,t,y,v,h,e,hv,k=>by
  simp only[Rd]at h;obtain⟨u,l,rfl,h1,h2⟩:=h;simp only[AY,AD_,AEP]at e;obtain⟨rfl,e⟩:=e;obtain rfl:=AE9 e;simp at hv;subst hv;simp only[RB];exact⟨u,l,rfl,.inl k⟩
 | .cons c r,cs,x,j+1,t,y,v,h,e,hv,k=>by
  simp only[Rd]at h;obtain⟨u,l,rfl,h1,h2⟩:=h;simp only[AY]at e;have:=RB_cell h2 e (by simpa using hv) k;simp only[RB];exact⟨u,l,rfl,.inr this⟩
 | .int k,cs,x,0,t,y,v,h,e,hv,k' =>by
  simp only[AY,AD_,AEP]at e;obtain⟨rfl,_⟩:=e;simp[RB]at k'
 | .bool,cs,x,0,t,y,v,h,e,hv,k' =>by
  simp only[AY,AD_,AEP]at e;obtain⟨rfl,_⟩:=e;simp[RB]at k'
 | .str,cs,x,0,t,y,v,h,e,hv,k' =>by
  simp only[AY,AD_,AEP]at e;obtain⟨rfl,_⟩:=e;simp[RB]at k'
 | .sl r,cs,x,0,t,y,v,h,e,hv,k=>by
  simp only[AY,AD_,AEP]at e;obtain⟨rfl,e⟩:=e;obtain rfl:=AE9 e;have hl:=WL h;simp only[Ty.n]at hl;obtain⟨u,rfl⟩:=List.length_eq_one_iff.1 hl;simp at hv;subst hv;exact k
 | .unit,_,_,_,_,_,_,_,e,_,_=>by simp[AY]at e
 | .int _,_,_,_+1,_,_,_,_,e,_,_=>by simp[AY]at e
 | .bool,_,_,_+1,_,_,_,_,e,_,_=>by simp[AY]at e
 | .str,_,_,_+1,_,_,_,_,e,_,_=>by simp[AY]at e
 | .sl _,_,_,_+1,_,_,_,_,e,_,_=>by simp[AY]at e
section
variable{P:Program} {T:F9} (hT:C2 P T) {E:Env} {w:World}
include hT
theorem br{σ:St}{Fs:List ABC}(hB:H0 E w σ.bx σ.bx Fs)(st:∀c,E.S c→E.T c){t:Nat}{x:AV}{z:XV}(e:XS T t σ (.c x)=some z){v:Value}(hx:VR E w σ.bx x v):
  ∃bb oo u y,v= .pointer (some ⟨bb,oo,none⟩)∧FV σ.bx x 0=some y∧XR E w σ.bx z u∧ ∀w',w'.heap[bb]? =w.heap[bb]?→(Instr.loadAt t v).run P w' = .ok u w':=by
 unfold XS at e;split at e
 case h_2=>cases e
 rename_i x' ti gU Kq;cases gU;split at e
 case isTrue=>cases e
 rename_i He;have VG:=fun w=>C2.isAgg hT Kq w
 split at e
 ·rename_i ha
  simp only[AEC]at e;obtain⟨l,hl,rfl⟩:=e;obtain⟨h1,h2⟩:=RQ hl;have h0:0<l.length:=by omega
  obtain⟨b,o,u,hv,_,_⟩:=Gu hB st (h2 0 _ (AD9 h0)) hx;obtain⟨cs,c1,c2,c3⟩:=Tb hB st hx hv (l:=l) (j:=0) (fun i y hy=>by simpa using h2 i y hy);subst hv;have Vj:=(hT t ti Kq).nS;cases hd:ti.desc with
  |st fs=>
   rw[hd]at Vj;obtain⟨fields,hu,_⟩:=Vj;refine⟨b,o,.agg cs.toArray,_,rfl,by simpa using h2 0 _ (AD9 h0),⟨cs.toArray,rfl,by simpa using c3⟩,fun w' hw=>run_loadAt_mid w' b o t cs _ (by have:=c2.of_block hw;simpa[Bb,World.rangeAt]using this) hu rfl ?_⟩;rw[C2.size hT Kq,c1,h1]
  |_=>rw[hd]at ha;simp[TD.agg]at ha
 ·rename_i ha
  simp only[AEz]at ha;simp only[AEC]at e;obtain⟨y,hy,rfl⟩:=e;obtain⟨b,o,u,hv,hc,hr⟩:=Gu hB st hy hx;subst hv;refine⟨b,o,u,y,rfl,hy,hr,fun w' hw=> ?_⟩;have uh:=VG w';rw[ha]at uh;simp only[AGS]at hc;have UK:w'.cell? ⟨b,o,none⟩=some u:=by rw[World.cell?_of_block (a:=⟨b,o,none⟩) hw];exact hc
  simp[Instr.loadAt,Instr.sureAddr,loadVar,uh,UK]
end
theorem fj{E E':Env}{w w':World}{vw vw':List Bx}{t:Ty}{x:t.D}{v:Value}(h:VR E w vw (.v t x) v):VR E' w' vw' (.v t x) v:=by
 obtain⟨h1,h2⟩:=h;refine⟨h1,?_⟩;cases t<;>simp_all[Ty.scalar,Rd]
theorem VI{E E':Env}{w w':World}{vw vw':List Bx}{t:Ty}{x:t.D}{v u:Value}(h:VR E w vw (.v t x) v)(k:VR E' w' vw' (.v t x) u):v=u:=by
 obtain⟨h1,h2⟩:=h;obtain⟨_,k2⟩:=k;cases t<;>simp_all[Ty.scalar,Rd]
def W0(x:XV):Prop:=(∃t z,x= .c (.v t z))∨(∃l,x= .agg l∧ ∀c∈l,∃t z,c= .v t z)
theorem Ha{E E':Env}{w w':World}{vw vw':List Bx}{x:XV}{v:Value}(hp:W0 x)(h:XR E w vw x v):XR E' w' vw' x v:=by
 rcases hp with⟨t,z,rfl⟩|⟨l,rfl,hl⟩
 ·exact fj (E:=E) (w:=w) (vw:=vw) (E':=E') (w':=w') (vw':=vw') h
 ·obtain⟨vs,rfl,O7⟩:=h
  refine⟨vs,rfl,?_⟩
  generalize vs.toList=m at O7
  induction l generalizing m with
  |nil=>cases m with
   |nil=>trivial
   |cons _ _=>exact O7.elim
  |cons c l ih=>cases m with
   |nil=>exact O7.elim
   |cons u m=>
    obtain⟨t,z,rfl⟩:=hl c (by simp);exact⟨fj O7.1,ih (fun c hc=>hl c (by simp[hc])) m O7.2⟩
theorem dX{d:TD}{x z:AV}{p:Bool}(e:ZC d x z=some p):(∃t y,x= .v t y)∧ ∃t y,z= .v t y:=by
 unfold ZC at e;split at e
 ·exact⟨⟨_,_,rfl⟩,_,_,rfl⟩
 ·exact⟨⟨_,_,rfl⟩,_,_,rfl⟩
 ·exact⟨⟨_,_,rfl⟩,_,_,rfl⟩
 ·cases e
theorem Qb{T:F9}:∀{i:Nat} {fs:List ABP} {l m:List AV} {r:Bool},Gj T i fs l m=some r→(∀c∈l,∃t z,c= .v t z)∧ ∀c∈m,∃t z,c= .v t z
 |i,[],[],[],r,e=>by simp
 |i,(o,t)::fs,x::l,z::m,r,e=>by
  simp only[Gj]at e;split at e
  case isFalse=>cases e
  split at e
  case h_2=>cases e
  split at e
  case h_2=>cases e
  rename_i p hp;simp only[AEC]at e;obtain⟨r',e1,_⟩:=e;obtain⟨a1,a2⟩:=dX hp;obtain⟨b1,b2⟩:=Qb e1;exact⟨fun c hc=>(AEd.1 hc).elim (fun e=>e▸a1) (b1 c),fun c hc=>(AEd.1 hc).elim (fun e=>e▸a2) (b2 c)⟩
 |_,[],[],_::_,_,e=>by simp[Gj]at e
 |_,[],_::_,_,_,e=>by simp[Gj]at e
 |_,_::_,[],_,_,e=>by simp[Gj]at e
 |_,_::_,_::_,[],_,e=>by simp[Gj]at e
theorem qi{op:BinOp}{κ:IntKind}{a b:Int}{r:AV}(e:UH op κ a b some=some r):∃t x,r= .v t x:=by
 cases op<;>simp only[UH,AD_]at e<;>first
  |exact⟨_,_,e.symm⟩
  |(
   split at e
   ·cases e
   ·cases e;exact⟨_,_,rfl⟩)
  |cases e
theorem cI{op:BinOp}{κ:IntKind}{a b:Int}{r:AV}(e:PY op κ a b some=some r):∃t x,r= .v t x:=by
 unfold PY at e;split at e
 ·cases e
 ·cases op<;>simp only[AD_]at e<;>first
   |exact⟨_,_,e.symm⟩
   |cases e
theorem o8{op:BinOp}{a b:AAh}{r:AV}(e:VL op a b some=some r):∃t x,r= .v t x:=by
 cases op<;>simp only[VL,AD_]at e<;>first
  |exact⟨_,_,e.symm⟩
  |(
   split at e
   ·cases e;exact⟨_,_,rfl⟩
   ·cases e)
  |cases e
theorem AAl{T:F9}{t:Nat}{op:BinOp}{a b:XV}{r:AV}(e:fJ T t op a b some=some r):(∃t x,r= .v t x)∧W0 a∧W0 b:=by
 unfold fJ at e;split at e
 ·refine⟨?_,.inl ⟨_,_,rfl⟩,.inl ⟨_,_,rfl⟩⟩
  split at e
  ·exact cI e
  ·exact cI e
  ·split at e
   ·exact qi e
   ·cases e
 ·exact⟨o8 e,.inl ⟨_,_,rfl⟩,.inl ⟨_,_,rfl⟩⟩
 ·refine⟨?_,.inl ⟨_,_,rfl⟩,.inl ⟨_,_,rfl⟩⟩
  split at e
  ·split at e
   ·split at e
    ·cases e;exact⟨_,_,rfl⟩
    ·cases e;exact⟨_,_,rfl⟩
    ·cases e
   ·cases e
  ·cases e
 ·split at e
  ·rename_i hq
   rw[AED]at hq;obtain⟨fs,_,hq⟩:=hq;obtain⟨q1,q2⟩:=Qb hq;cases e;exact⟨⟨_,_,rfl⟩,.inr ⟨_,rfl,q1⟩,.inr ⟨_,rfl,q2⟩⟩
  ·rename_i hq
   rw[AED]at hq;obtain⟨fs,_,hq⟩:=hq;obtain⟨q1,q2⟩:=Qb hq;cases e;exact⟨⟨_,_,rfl⟩,.inr ⟨_,rfl,q1⟩,.inr ⟨_,rfl,q2⟩⟩
  ·cases e
 ·cases e
theorem mc{g:Bool}{a b:XV}{r:AV}(e:du g a b some=some r):(∃t x,r= .v t x)∧W0 a∧W0 b:=by
 unfold du at e;split at e
 ·refine⟨?_,.inl ⟨_,_,rfl⟩,.inl ⟨_,_,rfl⟩⟩
  split at e
  ·cases g<;>(cases e;exact⟨_,_,rfl⟩)
  ·cases e
 ·cases e
theorem ADb{op:UnOp}{a:XV}{r:AV}(e:vB op a some=some r):(∃t x,r= .v t x)∧W0 a:=by
 unfold vB at e;split at e
 ·cases e;exact⟨⟨_,_,rfl⟩,.inl ⟨_,_,rfl⟩⟩
 ·cases e;exact⟨⟨_,_,rfl⟩,.inl ⟨_,_,rfl⟩⟩
 ·cases e
section
variable{Y:Type} {P:Program} {T:F9} (hT:C2 P T) {Γ:Nat→Option NK} {o:Oper} {E:Env} {σ:St} {a:Act} {w:World} {k:K Y} {y:Y}
include hT
theorem lF(h:Rel E σ a w){t:TypeId}(ps:Array (Nat×Operand)){s b:Nat}{fs:List ABP}{rw:Option Ty}(Kq:T.get t=some ⟨s,b,.st fs,rw⟩){r:Ty}(hr:T.Vt t=some r)
  {cs:List AV} (hb:UZ T fs (Rw r) (ps.toList.map fun q=>(q.1,σ.ev q.2))=some cs):
  ∃Hy,(∀w',(Instr.build t (ps.map fun(i,x)=>(i,a.eval x))).run P w' = .ok (.agg Hy) w')∧VF E w σ.bx cs Hy.toList:=by
 obtain⟨i,z,h1,h2,h3,_⟩:=row_zero hT hr;obtain⟨fields,hu,zI,He⟩:=rX hT Kq;obtain⟨Hy,f1,f2⟩:=Rx hT (Z6 h ps) (arr:=z.cells) (by rw[h3];exact Pr r) hb;refine⟨Hy,fun w' => ?_,f2⟩;have hb:P.built t (ps.map fun(i,x)=>(i,a.eval x)).toList=some Hy:=by
  unfold Program.built;simp only[h1,hu,h2];have hm:fields.toList.mapM (fun f=>(P.info? f.type).map fun i=>(f.offset,i.size))=some (fields.toList.map fun f=>(f.offset,((P.info? f.type).map (·.size)).getD 0)):=by
   refine Zr fun f hf=> ?_
   obtain⟨i',Dg,_⟩:=He f hf;simp[Dg]
  simp only[hm];rw[←f1];congr 1;funext n;subst zI;simp only[List.getElem?_toArray,AFG];cases hn:fields.toList[n]? with
  |none=>simp
  |some f=>
   obtain⟨i',Dg,_⟩:=He f (AEN hn);simp[Dg]
 exact run_build (P:=P) w' t (ps.map fun(i,x)=>(i,a.eval x)) Hy hb
theorem gn{hint:ABC}(h:Rel E σ a w)(hq:Vu hint σ o.op=true)(e:PJ T Γ o σ k=some y):
  ∃v x,XR E w σ.bx x v∧k x σ=some y∧ ∀w',ZP (Kof hint E w σ.bx) w w'→(execOp a.eval o).run P w' = .ok (.value v) w':=by
 obtain⟨Fs,hB,hS⟩:=h.bx;have st:=hS.st;have wf:∀{s:Sem Value} {v:Value},WF P s→s.run P w= .ok v w→ ∀w',s.run P w' = .ok v w':=fun h1 h2 w' =>h1 w _ w h2 w'
 unfold PJ at e;split at e
 ·rename_i x ho
  exact⟨a.eval x,_,h.ev x,e,fun w' _=>by simp only[execOp,ho,Sem.run_pure]⟩
 ·rename_i x ho
  unfold RY at e;split at e
  ·rename_i hx
   rw[ho]at hq;simp only[Vu,hx]at hq;cases hq
  ·exact⟨a.eval x,_,h.ev x,e,fun w' _=>by simp only[execOp,ho,Sem.run_pure]⟩
 ·rename_i c xa xb ho
  split at e
  case h_2=>cases e
  rename_i p hp;have hc:=h.ev c;rw[hp]at hc;have UK:=LB (E:=E) (w:=w) (vw:=σ.bx) hc;refine⟨if p then a.eval xa else a.eval xb,if p then σ.ev xa else σ.ev xb,by cases p<;>simp[h.ev],by cases p<;>simpa[lq]using e,fun w' _=>by simp[execOp,ho,UK,asBool]⟩
 ·rename_i t ho;rw[ho]at hq;cases hq
 ·rename_i t x ho;rw[ho]at hq;cases hq
 ·rename_i t ps ho
  split at e
  case h_2=>cases e
  rename_i s b fs rw r Kq hr;split at e
  case h_2=>cases e
  rename_i cs lW;obtain⟨Hy,h1,h2⟩:=lF hT h ps Kq hr lW;exact⟨.agg Hy,.agg cs,⟨Hy,rfl,h2⟩,e,fun w' _=>by simp only[execOp,ho,Sem.run_bind,h1 w',Result.andThen_ok,Sem.run_pure]⟩
 ·rename_i t n ps ho;rw[ho]at hq;cases hq
 ·rename_i t x ho
  rw[ho]at hq;split at e
  case h_2=>cases e
  rename_i z hz;have hv:=h.ev x;simp only[Vu]at hq
  generalize hX:σ.ev x=X at hq hv hz
  cases X with
  |agg l=>cases hq
  |Hd l=>cases hq
  |c ad=>
   obtain⟨bb,oo,u,cell,hp,hc,h2,h3⟩:=br hT hB st hz hv;refine⟨u,z,h2,e,fun w' oC=> ?_⟩;have oF:w'.heap[bb]? =w.heap[bb]?:=by
    refine oC bb ?_
    have SF:VR E w σ.bx ad (a.eval x):=hv;cases ad with
    |Eb b j=>
     simp only[U4,AGo]at hq;simp only[FV]at hc;split at hc
     ·rename_i cs hb
      refine .inr ⟨b,_,hq,hb,?_⟩;have:=SF.2;rw[hp]at this;simp only[Value.pointer.injEq,AD_,Addr.mk.injEq]at this;exact this.1
     ·cases hc
    |FP b p i sz j=>
     simp only[U4,AGo]at hq;simp only[FV]at hc;split at hc
     ·rename_i d q rows hb
      refine .inr ⟨b,_,hq,hb,?_⟩;simp only[VR,hb]at SF;obtain⟨_,hpp,q1,ys,b2,o2,len,cap,g1,g2,g3,g4⟩:=SF;rw[hp]at g4;simp only[Value.pointer.injEq,AD_,Addr.mk.injEq]at g4;obtain⟨rfl,_⟩:=g4;obtain⟨F,⟨_,zg⟩,_⟩:=hB.get hb;exact i7 (Pj zg) hpp g1 g3 g2
     ·cases hc
    |Iv s r z j=>
     obtain⟨b2,o2,cs,g1,g2,_⟩:=SF;rw[hp]at g1;simp only[Value.pointer.injEq,AD_,Addr.mk.injEq]at g1;obtain⟨rfl,_⟩:=g1
     left
     cases s with
     |true=>exact st _ (by simpa using g2)
     |false=>simpa using g2
    |_=>cases hq
   simp only[execOp,ho,Sem.run_bind,h3 w' oF,Result.andThen_ok,Sem.run_pure]
 ·rename_i t xa xx ho;rw[ho]at hq;cases hq
 ·rename_i x ho
  have hx:=h.ev x;split at e
  ·rename_i b j hp
   rw[hp]at hx;have gU:b<σ.bx.length∧a.eval x= .pointer (some ⟨E.EY b,j,none⟩):=hx;exact⟨a.eval x,_,hx,e,fun w' _=>by simp only[execOp,ho,gU.2,Sem.run_pure]⟩
  ·rename_i b p i sz j hp
   rw[hp]at hx;have mR:SM (a.eval x)=true:=hx.1;refine⟨a.eval x,_,hx,e,fun w' _=> ?_⟩;unfold SM at mR;split at mR
   ·rename_i hv
    simp only[execOp,ho,hv,Sem.run_pure]
   ·cases mR
  ·rename_i s r z j hp
   rw[hp]at hx;obtain⟨bb,oo,cs,hv,hrest⟩:=hx;exact⟨a.eval x,.c (.Iv s r z j),⟨bb,oo,cs,hv,hrest⟩,e,fun w' _=>by simp only[execOp,ho,hv,Sem.run_pure]⟩
  ·rename_i f Fq hp
   rw[hp]at hx;have gU:(∀b∈Fq,b<σ.bx.length)∧a.eval x= .func (.func f) #[] (Fq.map fun b=>Value.pointer (some ⟨E.EY b,0,none⟩)).toArray:=hx;exact⟨a.eval x,_,hx,e,fun w' _=>by simp only[execOp,ho,gU.2,Sem.run_pure]⟩
  ·cases e
 ·rename_i op t x z s ho
  rw[aU,AED]at e;obtain⟨r,e1,e⟩:=e;obtain⟨⟨t',x',rfl⟩,p1,p2⟩:=AAl e1;obtain⟨r0,val,h1,h2,h3⟩:=Uf hT e1 (h.ev x) (h.ev z) x z;cases h1;refine⟨val,.c (.v t' x'),h3,e,fun w' _=> ?_⟩;obtain⟨r1,val',g1,g2,g3⟩:=Uf hT e1 (Ha (E':=E) (w':=w') (vw':=σ.bx) p1 (h.ev x)) (Ha p2 (h.ev z)) x z;cases g1;have:=VI h3 g3;subst this;simp only[execOp,ho,Sem.run_bind];simp only[Sem.run_bind]at g2;rw[g2];rfl
 ·rename_i op t x ho
  rw[cy,AED]at e;obtain⟨r,e1,e⟩:=e;obtain⟨⟨t',x',rfl⟩,p1⟩:=ADb e1;obtain⟨r0,val,h1,h2,h3⟩:=WD (P:=P) e1 (h.ev x);cases h1;refine⟨val,.c (.v t' x'),h3,e,fun w' _=> ?_⟩;obtain⟨r1,val',g1,g2,g3⟩:=WD (P:=P) e1 (Ha (E':=E) (w':=w') (vw':=σ.bx) p1 (h.ev x));cases g1;have:=VI h3 g3;subst this;simp only[execOp,ho,Sem.run_bind,g2,Result.andThen_ok,Sem.run_pure]
 ·rename_i s d x ho;rw[ho]at hq;cases hq
 ·rename_i f first Fq ho;rw[ho]at hq;cases hq
 ·rename_i t l c ho;rw[ho]at hq;cases hq
 ·rename_i t x lo hi ho
  obtain⟨z,val,h1,h2,h3⟩:=Vw hT hB st e (h.ev x) (jF h lo) (jF h hi);exact⟨val,z,h3,h1,fun w' _=>by simp only[execOp,ho,Option.map_none,Sem.run_bind,wf (WF.sliceAt _ _ _ _) h2 w',Result.andThen_ok,Sem.run_pure]⟩
 ·rename_i t x f ho
  split at e
  case h_2=>cases e
  rename_i z hz;obtain⟨u,h1,h2⟩:=Vs hT hz (h.ev x);refine⟨u,z,h2,e,fun w' _=> ?_⟩;have hw:(Instr.fieldAt t (a.eval x) f).run P w' = .ok u w':=by
   have hx:=h.ev x;unfold dp at hz;split at hz
   case h_2=>cases hz
   rename_i s b fs _ Kq;split at hz
   case h_2=>cases hz
   rename_i o' u' hf;have key:∀ad,a.eval x= .pointer (some ad)→(Instr.fieldAt t (a.eval x) f).run P w' = .ok u w':=by
    intro ad had;rw[had]at h1⊢;have r1:=Ml hT (w:=w) Kq hf (a:=ad);have r2:=Ml hT (w:=w') Kq hf (a:=ad);rw[r1]at h1;cases h1;exact r2
   split at hz
   ·rename_i b' j hp
    rw[hp]at hx;exact key _ hx.2
   ·rename_i b' p i sz j hp
    rw[hp]at hx;have mR:SM (a.eval x)=true:=hx.1;unfold SM at mR;split at mR
    ·rename_i hv;exact key _ hv
    ·cases mR
   ·rename_i s r y' j hp
    rw[hp]at hx;obtain⟨bb,oo,cs,hv,_⟩:=hx;exact key _ hv
   ·cases hz
  simp only[execOp,ho,Sem.run_bind,hw,Result.andThen_ok,Sem.run_pure]
 ·rename_i t x f ho
  split at e
  case h_2=>cases e
  rename_i z hz;obtain⟨u,h1,h2⟩:=Xk hT hz (h.ev x);exact⟨u,z,h2,e,fun w' _=>by simp only[execOp,ho,Sem.run_bind,wf (WF.field _ _ _) h1 w',Result.andThen_ok,Sem.run_pure]⟩
 ·rename_i t x i ho
  obtain⟨z,val,h1,h2,h3⟩:=Vz hT hB st e (h.ev x) (h.ev i);exact⟨val,z,h3,h1,fun w' _=>by simp only[execOp,ho,Sem.run_bind,wf (WF.indexAt _ _ _) h2 w',Result.andThen_ok,Sem.run_pure]⟩
 ·rename_i t x i ho
  obtain⟨z,val,h1,h2,h3⟩:=SA hT e (h.ev x) (h.ev i);exact⟨val,z,h3,h1,fun w' _=>by simp only[execOp,ho,Sem.run_bind,wf (WF.index _ _ _) h2 w',Result.andThen_ok,Sem.run_pure]⟩
 ·rename_i x i ho
  split at e
  case h_2=>cases e
  rename_i z hz;obtain⟨u,h1,h2⟩:=TO (P:=P) hz (h.ev x);exact⟨u,z,h2,e,fun w' _=>by simp only[execOp,ho,Sem.run_bind,wf (WF.extract _ _) h1 w',Result.andThen_ok,Sem.run_pure]⟩
 ·rename_i f args bN ho;rw[ho]at hq;cases hq
 ·rename_i args bN ho
  split at e
  ·rename_i s t E6 hts
   obtain⟨x,rfl,hx⟩:=OZ E6;have hv:=h.ev x;rw[hx]at hv;have SF:=PM (E:=E) (w:=w) (vw:=σ.bx) hv;split at e
   case isFalse=>cases e
   rename_i hs;have hu:=O1 hT hs;refine⟨.int .i64 (s.length:Int),.c (.v (.int .i64) (s.length:Int)),VR.int (E:=E) (vw:=σ.bx) _ _,e,fun w' _=> ?_⟩;have He:(⟨s.toArray⟩:ByteArray).size=s.length:=by simp[ByteArray.size]
   simp[execOp,ho,resolve,invoke,builtin,Builtin.len_,hts,SF,Am hu,goInt,He]
  ·rename_i z t _ E6 hts
   obtain⟨x,rfl,hx⟩:=OZ E6;have hv:=h.ev x;rw[hx]at hv;split at e
   case isFalse=>cases e
   rename_i hs;split at e
   case h_2=>cases e
   rename_i n hn;obtain⟨el,hu⟩:=Wo hT hs;obtain⟨ad,cap,SF⟩:=XK hB st hn hv;refine⟨.int .i64 (n:Int),.c (.v (.int .i64) (n:Int)),VR.int (E:=E) (vw:=σ.bx) _ _,e,fun w' _=> ?_⟩;simp[execOp,ho,resolve,invoke,builtin,Builtin.len_,hts,SF,Am hu,goInt]
  ·cases e
 ·rename_i args bN ho;rw[ho]at hq;cases hq
 ·rename_i args bN ho;rw[ho]at hq;cases hq
 ·rename_i args bN ho
  split at e
  case h_2=>cases e
  rename_i x1 x2 E6;obtain⟨o1,o2,rfl,hx1,hx2⟩:=PF E6;have SK:=h.ev o1;have RD:=h.ev o2;rw[hx1]at SK;rw[hx2]at RD;rw[Qd,AED]at e;obtain⟨r,e1,e⟩:=e;obtain⟨⟨t',x',rfl⟩,p1,p2⟩:=mc e1;obtain⟨r0,val,h1,h2,h3⟩:=L6 (P:=P) (big:=true) e1 SK RD bN #[] o.type;cases h1;refine⟨val,.c (.v t' x'),h3,e,fun w' _=> ?_⟩;obtain⟨r1,val',g1,g2,g3⟩:=L6 (P:=P) (big:=true) e1 (Ha (E':=E) (w':=w') (vw':=σ.bx) p1 SK) (Ha p2 RD) bN #[] o.type;cases g1;have:=VI h3 g3;subst this;simp only[AGG]at g2;simp[execOp,ho,resolve,invoke,builtin,g2]
 ·rename_i args bN ho
  split at e
  case h_2=>cases e
  rename_i x1 x2 E6;obtain⟨o1,o2,rfl,hx1,hx2⟩:=PF E6;have SK:=h.ev o1;have RD:=h.ev o2;rw[hx1]at SK;rw[hx2]at RD;rw[Qd,AED]at e;obtain⟨r,e1,e⟩:=e;obtain⟨⟨t',x',rfl⟩,p1,p2⟩:=mc e1;obtain⟨r0,val,h1,h2,h3⟩:=L6 (P:=P) (big:=false) e1 SK RD bN #[] o.type;cases h1;refine⟨val,.c (.v t' x'),h3,e,fun w' _=> ?_⟩;obtain⟨r1,val',g1,g2,g3⟩:=L6 (P:=P) (big:=false) e1 (Ha (E':=E) (w':=w') (vw':=σ.bx) p1 SK) (Ha p2 RD) bN #[] o.type;cases g1;have:=VI h3 g3;subst this;simp only[AER,AFJ]at g2;simp[execOp,ho,resolve,invoke,builtin,g2]
 ·cases e
end
end Go.Fw
end
section
namespace Go.Fw
section
variable{P:Program} {md:Region.Mode} {ops:Array Oper} {Q:Exit→Act→World→Prop}
theorem ZP.refl(K:Nat→Prop)(w:World):ZP K w w:=fun _ _=>rfl
def ey(P:Program)(md:Region.Mode)(ops:Array Oper)(Q:Exit→Act→World→Prop):Nat→Array Bool→(Nat→Prop)→Act→World→Prop
 |0,listed,_,a,w=>Region.ready md ops listed=[]∧Q .normal a w
 |fuel+1,listed,K,a,w=>(Region.ready md ops listed=[]→Q .normal a w)∧
  ∀i∈Region.ready md ops listed,wpOp P ops Q i (fun a' w' => ∃K':Nat→Prop,(∀c,K c→K' c)∧ZP K w w'∧ey P md ops Q fuel (listed.setIfInBounds i true) K' a' w') a w
theorem cc:∀(fuel:Nat) (listed:Array Bool) (K:Nat→Prop) (a:Act) (w:World),ey P md ops Q fuel listed K a w→wpAny P md ops Q fuel listed a w
 |0,_,_,_,_,h=>h
 |fuel+1,_,_,_,_,h=>⟨h.1,fun i hi=>wpOp_mono (fun a' w' ⟨K',_,_,h'⟩=>cc fuel _ K' a' w' h') (h.2 i hi)⟩
theorem YieldsIf.mono{S S':World→Prop}{o:Oper}{v:Value}{a:Act}(h:YieldsIf P ops S o v a)(hs:∀w,S' w→S w):YieldsIf P ops S' o v a:=
 h.imp (fun⟨h1,h2⟩=>⟨h1,fun w hw=>h2 w (hs w hw)⟩) id
theorem XH{i:Nat}{oi:Oper}{v:Value}(hi:ops[i]? =some oi)(nN:∀(j:Nat) (o:Oper) cs b,ops[j]? =some o→o.op≠ .select cs b)(hQ:∀c a w,¬Q (.panic c) a w):
  ∀(fuel:Nat) (listed:Array Bool) (K:Nat→Prop) (a:Act) (w:World),
   (∀j oj,ops[j]? =some oj→j≠i→listed.getD j true=false→(∀e∈oj.after,Region.binds md e=true→e.on≠i)→oi.apart ops oj=true)→
   i∈Region.ready md ops listed→YieldsIf P ops (ZP K w) oi v a→ey P md ops Q fuel (listed.setIfInBounds i true) K (a.put oi.dst v) w→ey P md ops Q (fuel+1) listed K a w:=by
 intro fuel
 induction fuel with
 |zero=>
  intro listed K a w _ hr hy H;refine⟨fun h=>(by rw[h]at hr;cases hr),fun j hj=> ?_⟩;by_cases hji:j=i
  ·subst hji;exact hy.wpOp hi (ZP.refl K w) ⟨K,fun _ h=>h,ZP.refl K w,H⟩
  ·have:=ready_mono hj hji
   rw[H.1]at this;cases this
 |succ fuel ih=>
  intro listed K a w LI hr hy H;refine⟨fun h=>(by rw[h]at hr;cases hr),fun j hj=> ?_⟩;by_cases hji:j=i
  ·subst hji;exact hy.wpOp hi (ZP.refl K w) ⟨K,fun _ h=>h,ZP.refl K w,H⟩
  ·have h1:=H.2 j (ready_mono hj hji)
   obtain⟨hjun,oj,hoj,OJ⟩:=mem_ready.1 hj;have uP:∀e∈oj.after,Region.binds md e=true→e.on≠i:=fun e he hb heq=>by
    have h1:=OJ e he hb;have h0:=(mem_ready.1 hr).1;rw[heq]at h1;rcases Nat.lt_or_ge i listed.size with h'|h'
    ·simp[h']at h0 h1;rw[h0]at h1;cases h1
    ·simp[Array.getElem?_eq_none h']at h1
   have h2:=wpOp_putIf hoj (LI j oj hoj hji hjun uP) (fun cs b=>nN i oi cs b hi) (fun cs b=>nN j oj cs b hoj) (fun c a w h=>absurd h (hQ c _ w)) hy h1;have yB:∀k ok,ops[k]? =some ok→k≠i→(listed.setIfInBounds j true).getD k true=false→
     (∀e∈ok.after,Region.binds md e=true→e.on≠i)→oi.apart ops ok=true:=fun k ok hk hki hun hno=>by
    refine LI k ok hk hki ?_ hno
    by_cases hjk:j=k
    ·subst hjk;exact hjun
    ·rw[getD_set_ne true hjk]at hun;exact hun
   refine wpOp_mono (fun a' w' h3=> ?_) h2;obtain⟨jm,K',hK,hs,ht⟩:=h3;refine⟨K',hK,hs,ih (listed.setIfInBounds j true) K' a' w' yB (ready_mono hr (Ne.symm hji)) (YieldsIf.mono jm fun w'' AFf c hc=>(AFf c (hK c hc)).trans (hs c hc)) ?_⟩;rw[Array.setIfInBounds_comm _ _ hji];exact ht
end
theorem Xd{Y:Type}{f:Nat→List Bool→Option Y}{y:Y}:∀{rs:ABC},(∀ω,dh f rs ω=some y)→ ∀i∈rs,∀ω,f i ω=some y
 |[i],h,j,hj,ω=>by
  simp at hj;subst hj;exact h ω
 |i::j::r,h,k,hk,ω=>by
  rcases AEd.1 hk with rfl|hk
  ·exact h (true::ω)
  ·exact Xd (rs:=j::r) (fun ω=>h (false::ω)) k hk ω
theorem fC{σ:St}{t:Nat}{b:Bool}(e:σ.tm[t]? =some (.c (.v .bool b))):σ.put (some t) (.c (.v .bool b))=σ:=by
 simp only[St.put];obtain⟨tm,bx⟩:=σ;simp only[St.mk.injEq,AFR];obtain⟨Er,he⟩:=AD7.1 e;apply AGb;intro i;rw[AGN];split
 ·rename_i e1;subst e1;exact e.symm
 ·rfl
theorem cL{Y I:Type}[Nonempty I]{C:V_}{ops:Array Oper}{o:Oper}{kn:I→St→Option Y}{σ:St}{y:Y}{E:Env}{a:Act}{w:World}(h:Rel E σ a w)
  (e:∀ω,jd C ops o (kn ω) σ=some y):
  (Region.wanted o (yielded ops a.tmps)=true∧ ∀ω,(PJ C.T C.Γ o σ fun x σ' =>kn ω (σ'.put o.dst x))=some y)∨
  (Region.wanted o (yielded ops a.tmps)=false∧ ∀ω,kn ω (σ.put o.dst (.Hd []))=some y):=by
 unfold jd at e;cases hg:o.guard with
 |none=>
  simp only[hg]at e;exact .inl ⟨by simp[Region.wanted,hg],e⟩
 |some q=>
  obtain⟨j,want⟩:=q;simp only[hg]at e;cases ht:(ops[j]?).bind (·.dst)with
  |none=>
   simp only[ht]at e;obtain⟨i0⟩:= ‹Nonempty I›;cases e i0
  |some t=>
   simp only[ht]at e;obtain⟨i0⟩:= ‹Nonempty I›;have e0:=e i0;split at e0
   ·rename_i b hb
    simp only[hb]at e;obtain⟨v,hv,hx⟩:=h.tmp hb;have hvb:=LB (E:=E) (w:=w) (vw:=σ.bx) hx;subst hvb;have hy:yielded ops a.tmps j=some b:=by rw[R0 ht hv];rfl
    have hk:=fC hb;cases b with
    |true=>
     simp only[AEb,tt,hk]at e;cases want with
     |true=>exact .inl ⟨by simp[Region.wanted,hg,hy],fun ω=>by simpa using e ω⟩
     |false=>exact .inr ⟨by simp[Region.wanted,hg,hy],fun ω=>by simpa using e ω⟩
    |false=>
     simp only[AEL,ff,hk]at e;cases want with
     |true=>exact .inr ⟨by simp[Region.wanted,hg,hy],fun ω=>by simpa using e ω⟩
     |false=>exact .inl ⟨by simp[Region.wanted,hg,hy],fun ω=>by simpa using e ω⟩
   ·rename_i hb
    simp only[hb]at e;obtain⟨v,hv,vs,rfl,hx⟩:=h.tmp hb;have hy:yielded ops a.tmps j=none:=by rw[R0 ht hv];rfl
    exact .inr ⟨by simp[Region.wanted,hg,hy],e⟩
   ·cases e0
theorem mm{ops:Array Oper}{o:Oper}{σ:St}{E:Env}{a:Act}{w:World}(h:Rel E σ a w)(e:idle ops σ o=true):Region.wanted o (yielded ops a.tmps)=false:=by
 unfold idle at e;cases hg:o.guard with
 |none=>simp[hg]at e
 |some q=>
  obtain⟨j,want⟩:=q;simp only[hg]at e;cases ht:(ops[j]?).bind (·.dst)with
  |none=>simp[ht]at e
  |some t=>
   simp only[ht]at e;split at e
   ·rename_i b hb
    obtain⟨v,hv,hx⟩:=h.tmp hb;have hvb:=LB (E:=E) (w:=w) (vw:=σ.bx) hx;subst hvb;have hy:yielded ops a.tmps j=some b:=by rw[R0 ht hv];rfl
    cases b<;>cases want<;>simp_all[Region.wanted]
   ·rename_i hb
    obtain⟨v,hv,vs,rfl,hx⟩:=h.tmp hb;have hy:yielded ops a.tmps j=none:=by rw[R0 ht hv];rfl
    simp[Region.wanted,hg,hy]
   ·cases e
theorem cQ{Y I:Type}[Nonempty I]{C:V_}{ops:Array Oper}{i:Nat}{o:Oper}(ho:ops[i]? =some o){kn:I→St→Option Y}{σ:St}{y:Y}{E:Env}{a:Act}{w:World}(h:Rel E σ a w)
  (e:∀ω,jY C ops i (kn ω) σ=some y):
  (Region.wanted o (yielded ops a.tmps)=true∧ ∀ω,(PJ C.T C.Γ o σ fun x σ' =>kn ω (σ'.put o.dst x))=some y)∨
  (Region.wanted o (yielded ops a.tmps)=false∧ ∀ω,kn ω (σ.put o.dst (.Hd []))=some y):=
 cL h fun ω=>by
  have:=e ω;unfold jY at this;simpa only[ho]using this
theorem mK{hint t:ABC}{E E':Env}{bx J0:List Bx}{w w':World}(h:Ka t E bx w E' J0 w')(ht:∀b∈t,b∉hint)(ha:∀b∈hint,WJ J0 b=false):
  (∀c,Kof hint E w bx c→Kof hint E' w' J0 c)∧ZP (Kof hint E w bx) w w':=by
 have key:∀n B,n∈hint→bx[n]? =some B→ ∃B',J0[n]? =some B'∧ND B B'∧ ∀c,gR E w n B c→w'.heap[c]? =w.heap[c]?:=by
  intro n B hn hB;have hd:=ha n hn;unfold WJ at hd;split at hd
  ·cases hd
  ·rename_i B' SY Kt
   obtain⟨h1,h2⟩:=h.frame n B B' (fun hm=>ht n hm hn) hB Kt SY;exact⟨B',Kt,h1,h2⟩
  ·cases hd
 refine⟨fun c hc=> ?_,fun c hc=> ?_⟩
 ·rcases hc with hc|⟨n,B,hn,hB,hc⟩
  ·exact .inl (h.base.T c hc)
  ·obtain⟨B',Kt,hs,hh⟩:=key n B hn hB
   have hid:=h.ids n (AD7.1 hB).1;refine .inr ⟨n,B',hn,Kt,?_⟩;cases B with
   |mem cs=>
    cases B' with
    |mem SW=>simp only[gR]at hc⊢;rw[hid.1];exact hc
    |sl _ _ _=>exact hs.elim
    |dead=>exact hs.elim
   |sl d r rows=>
    cases B' with
    |mem SW=>exact hs.elim
    |dead=>exact hs.elim
    |sl d' r' rows' =>
     simp only[ND,AEP]at hs;obtain⟨rfl,hs⟩:=hs;obtain rfl:=AE9 hs;simp only[gR]at hc⊢;rw[hid.2];exact Ya (fun d hd=>hh d hd) hc
   |dead=>exact hc.elim
 ·rcases hc with hc|⟨n,B,hn,hB,hc⟩
  ·exact h.base.heap c hc
  ·obtain⟨B',_,_,hh⟩:=key n B hn hB
   exact hh c hc
theorem QZ{Y:Type}{C:V_}{hint:ABC}{ops:Array Oper}{kn:List Bool→St→Option Y}{fuel:Nat}{listed:Array Bool}{ω:List Bool}{σ:St}{y:Y}(e:MK C hint ops kn fuel listed ω σ=some y):∀b∈hint,WJ σ.bx b=false:=by
 unfold MK at e;split at e
 ·rename_i h
  intro b hb;simpa using(AF5.1 h) b hb
 ·cases e
theorem dP{Y:Type}{P:Program}{C:V_}(hT:C2 P C.T)(hΓ:Ub P C.Γ){E0:Env}{w0:World}{N nb:Nat}{hint:ABC}{ops:Array Oper}{kn:List Bool→St→Option Y}{y:Y}{Q:Exit→Act→World→Prop}
  (nN:Region.noSelect ops=true) (hP:∀c a w,¬Q (.panic c) a w) (hk:∀E σ a w,Ok E0 w0 N nb E σ a w→(∀ω,kn ω σ=some y)→Q .normal a w):
  ∀(fuel:Nat) {listed:Array Bool} {E:Env} {σ:St} {a:Act} {w:World},Ok E0 w0 N nb E σ a w→(∀ω,MK C hint ops kn fuel listed ω σ=some y)→ey P .any ops Q fuel listed (Kof hint E w σ.bx) a w:=by
 intro fuel
 induction fuel with
 |zero=>
  intro listed E σ a w h e;have e1:=fun ω=>e ω
  unfold MK at e1;have jC:=QZ (e []);have AAy:(hint.all fun b=> !WJ σ.bx b)=true:=AF5.2 fun b hb=>by simp[jC b hb]
  simp only[AAy,AGG]at e1;cases hr:Region.ready .any ops listed with
  |nil=>
   simp only[hr]at e1;exact⟨hr,hk E σ a w h e1⟩
  |cons i rs=>
   simp only[hr]at e1;cases e1 []
 |succ fuel ih=>
  intro listed E σ a w h e;have e1:=fun ω=>e ω
  unfold MK at e1;have jC:=QZ (e []);have AAy:(hint.all fun b=> !WJ σ.bx b)=true:=AF5.2 fun b hb=>by simp[jC b hb]
  simp only[AAy,AGG]at e1;cases hr:Region.ready .any ops listed with
  |nil=>
   simp only[hr]at e1;exact⟨fun _=>hk E σ a w h e1,by rw[hr];simp⟩
  |cons i0 rs=>
   simp only[hr]at e1;cases hf:(i0::rs).find? (aB hint ops listed σ)with
   |some i=>
    simp only[hf]at e1;have hi:=List.mem_of_find?_eq_some hf
    have ht:=List.find?_some hf
    unfold aB at ht;cases ho:ops[i]? with
    |none=>rw[ho]at ht;cases ht
    |some o=>
     simp only[ho,AEF]at ht;have LI:=Region.free_spec ho ht.2;rw[←hr]at hi;have hy:=cQ (I:=List Bool) (kn:=fun ω σ' =>MK C hint ops kn fuel (listed.setIfInBounds i true) ω σ') ho h.rel e1;rcases hy with⟨hw,hx⟩|⟨hw,hx⟩
     ·have hq:Vu hint σ o.op=true:=by
       rcases AF6 _ _▸ht.1 with hq|hi
       ·exact hq
       ·rw[mm h.rel hi]at hw
        cases hw
      obtain⟨x,σ',hx0,hx1⟩:=WC hx;obtain⟨v,x',q1,q2,q3⟩:=gn hT h.rel hq hx0;simp only[k0,AD_,AFH]at q2;obtain⟨rfl,rfl⟩:=q2;have Q_:=ih (h.put o.dst q1) hx1;have Ve:(σ.put o.dst x').bx=σ.bx:=by cases o.dst<;>rfl
      rw[Ve]at Q_;exact XH ho (Region.noSelect_spec nN) hP fuel listed _ a w LI hi (.inl ⟨hw,q3⟩) Q_
     ·have Q_:=ih (h.put o.dst Zz) hx
      have Ve:(σ.put o.dst (.Hd [])).bx=σ.bx:=by cases o.dst<;>rfl
      rw[Ve]at Q_;exact XH ho (Region.noSelect_spec nN) hP fuel listed _ a w LI hi (.inr ⟨hw,rfl⟩) Q_
   |none=>
    simp only[hf]at e1;have OJ:=Xd e1;refine⟨fun h0=>(by rw[h0]at hr;cases hr),fun i hi=> ?_⟩;rw[hr]at hi;have hx:=OJ i hi;cases ho:ops[i]? with
    |none=>
     simp only[ho]at hx;cases hx []
    |some o=>
     simp only[ho]at hx;have htc:(Eu C.Γ σ o.op).all (fun b=> !hint.contains b)=true:=by
      have:=hx [];split at this
      ·rename_i hh;exact hh
      ·cases this
     simp only[htc,AGG]at hx;have htn:∀b∈Eu C.Γ σ o.op,b∉hint:=fun b hb hh=>by
      have:=(AF5.1 htc) b hb;simp[hh]at this
     unfold wpOp;simp only[ho];rcases cQ (I:=List Bool) (kn:=fun ω σ' =>MK C hint ops kn fuel (listed.setIfInBounds i true) ω σ') ho h.rel hx with⟨hw,hx⟩|⟨hw,hx⟩
     ·rw[AEA hw]
      obtain⟨x,σ',hx0,hx1⟩:=WC hx;refine .inl (iz hT hΓ h.rel hx0 fun v w' E' x' σ'' g1 g2 g3 g4 g5=> ?_);simp only[k0,AD_,AFH]at g5;obtain⟨rfl,rfl⟩:=g5;have Ve:(σ''.put o.dst x').bx=σ''.bx:=by cases o.dst<;>rfl
      have ACy:=QZ (hx1 []);rw[Ve]at ACy;obtain⟨k1,k2⟩:=mK g3 htn ACy;have Q_:=ih ((h.next g1 g3 g4).put o.dst g2) hx1;rw[Ve]at Q_;exact⟨_,k1,k2,Q_⟩
     ·rw[AEB (by simp[hw])]
      have Q_:=ih (h.put o.dst Zz) hx;have Ve:(σ.put o.dst (.Hd [])).bx=σ.bx:=by cases o.dst<;>rfl
      rw[Ve]at Q_;exact⟨_,fun _ h=>h,ZP.refl _ _,Q_⟩
end Go.Fw
end
section
namespace Go.Fw
theorem Rel.heap{E:Env}{σ:St}{a:Act}{w w':World}(h:Rel E σ a w)(hw:w'.heap=w.heap):Rel E σ a w':=by
 have keep:Ld E w σ.bx E w' σ.bx:=by
  refine⟨AE7 _,fun _ _=>rfl,fun _ h=>h,fun _ h=>h,h.bx.st,fun _ _=>by rw[hw],fun b d r rows hb e=>⟨d,rows,e,fun p hp q ys hg=>⟨hp,⟨ys,hg,rfl⟩,fun hh he=> ?_⟩⟩⟩;obtain⟨Fs,⟨f1,f2⟩,_⟩:=h.bx;have hF:Fs[b]? =some (Fs[b]'(by have:=(AD7.1 e).1;omega)):=AD9 _;exact eH (f2 b _ _ e hF).2 (fun _ _=>by rw[hw]) (fun _ _=>by rw[hw]) hp hg he
 exact⟨h.ID,h.tm.imp fun _ _ hx=>JH keep hx,h.bx.turn (fun _ _ hv=>DN keep hv) (fun _ h=>h) (fun _ _=>rfl) (fun _ _=>rfl) (fun _ _ _=>by rw[hw]) fun F hF=>⟨hF.nodup,hF.free,fun c hc=>by rw[hw];exact hF.lt c hc,hF.st,fun c hc=>by rw[hw];exact hF.TN c hc,hF.eK.mono (fun _ h=>h) (fun _ _=>by rw[hw])⟩⟩
theorem Ok.drawn{E0 E:Env}{w0 w:World}{N nb:Nat}{σ:St}{a:Act}(h:Ok E0 w0 N nb E σ a w)(n:Nat):Ok E0 w0 N nb E σ a { w with drawn:=n }:=
 ⟨h.rel.heap rfl,⟨h.base.T,h.base.S,h.base.ru,h.base.jL,h.base.heap,h.base.os,h.base.tape,h.base.output,h.base.size⟩,h.tm,h.ah,h.ids⟩
theorem Wz{Y I:Type}[Nonempty I]{P:Program}{C:V_}(hT:C2 P C.T)(hΓ:Ub P C.Γ){E0:Env}{w0:World}{N nb:Nat}{all:Array Oper}{kn:I→St→Option Y}{y:Y}{Q:Exit→Act→World→Prop}
  (hk:∀E σ a w,Ok E0 w0 N nb E σ a w→(∀ω,kn ω σ=some y)→Q .normal a w):∀{l:List Oper} {E:Env} {σ:St} {a:Act} {w:World},Ok E0 w0 N nb E σ a w→(∀ω,dG C all l (kn ω) σ=some y)→wpList P all Q l a w
 |[],E,σ,a,w,h,e=>hk E σ a w h e
 |o::rest,E,σ,a,w,h,e=>by
  unfold wpList;rcases cL (kn:=fun ω σ=>dG C all rest (kn ω) σ) h.rel e with⟨hw,hx⟩|⟨hw,hx⟩
  ·rw[AEA hw]
   obtain⟨x,σ',hx0,hx1⟩:=WC hx;refine .inl (iz hT hΓ h.rel hx0 fun v w' E' x' σ'' g1 g2 g3 g4 g5=> ?_);simp only[k0,AD_,AFH]at g5;obtain⟨rfl,rfl⟩:=g5;exact Wz hT hΓ hk ((h.next g1 g3 g4).put o.dst g2) hx1
  ·rw[AEB (by simp[hw])]
   exact Wz hT hΓ hk (h.put o.dst Zz) hx
def Ih(P:Program)(body:Code)(Q:Exit→Act→World→Prop)(a:Act)(w:World):Prop:=
 ∀(b:Frame) (k:List Item) (cs:List Frame),∃e a' w',Q e a' w'∧Arrives P (lone (b.at a (.code body:: .inLoop body::k)) cs w) b k cs e a' w'
theorem Ih.wp{P:Program}{body:Code}{Q:Exit→Act→World→Prop}{a:Act}{w:World}(h:Ih P body Q a w):(Code.loop body).wp P Q a w:=fun b k cs=>by
 obtain⟨e,a',w',hq,Ua⟩:=h b k cs;exact⟨e,a',w',hq,.of_steps (.one step_loop) Ua⟩
theorem Ih.uD{P:Program}{body:Code}{Q:Exit→Act→World→Prop}{a:Act}{w:World}(h:body.wp P (Exit.then (Ih P body Q) Q) a w):Ih P body Q a w:=fun b k cs=>by
 obtain⟨e,a₁,w₁,hq,Ua⟩:=h b (.inLoop body::k) cs;cases e with
 |normal=>
  obtain⟨e₂,a₂,w₂,hq₂,harr₂⟩:=hq b k cs;exact⟨e₂,a₂,w₂,hq₂,.of_steps (Steps.trans Ua (.one step_inLoop)) harr₂⟩
 |exit id=>exact⟨_,a₁,w₁,hq,.pass (x:= .inLoop body) rfl (fun _ _=> .inl (by simp)) Ua⟩
 |goto l=>exact⟨_,a₁,w₁,hq,.pass (x:= .inLoop body) rfl (fun _ _=> .inl (by simp)) Ua⟩
 |ret=>exact⟨_,a₁,w₁,hq,.pass (x:= .inLoop body) rfl (fun _ _=> .inl (by simp)) Ua⟩
 |panic ch=>exact⟨_,a₁,w₁,hq,.pass (x:= .inLoop body) rfl (fun _ _=> .inl (by simp)) Ua⟩
 |outgrown=>exact⟨_,a₁,w₁,hq,.pass (x:= .inLoop body) rfl (fun _ _=> .inl (by simp)) Ua⟩
abbrev WV:=Exit→Act→World→Prop
def At(P:Program):Code→WV→Nat→Code→WV→Prop
 | .seq a b,Q,ℓ,body,Q' =>At P a (Exit.then (b.wp P Q) Q) ℓ body Q'∨At P b Q ℓ body Q'
 | .cond _ a b,Q,ℓ,body,Q' =>At P a Q ℓ body Q'∨At P b Q ℓ body Q'
 | .block id c,Q,ℓ,body,Q' =>At P c (Exit.inBlock id Q) ℓ body Q'
 | .loop c,Q,ℓ,body,Q' =>(first c= ℓ ∧body=c∧Q' =Q)∨At P c (Exit.then (Ih P c Q) Q) ℓ body Q'
 |_,_,_,_,_=>False
def Sj(Q:WV):Prop:= ∀c a w,¬Q (.panic c) a w
theorem Sj.then{Q:WV}(h:Sj Q)(n:Act→World→Prop):Sj (Exit.then n Q):=fun c a w hq=>h c a w hq
theorem Sj.inBlock{Q:WV}(h:Sj Q)(id:Nat):Sj (Exit.inBlock id Q):=fun c a w hq=>h c a w hq
section
variable{Y:Type} {P:Program} {C:V_} (hT:C2 P C.T) (hΓ:Ub P C.Γ) (hm:P.follows .mixedOrders=true) {E0:Env} {w0:World} {N nb:Nat} {y:Y} {J:Nat→St→Option Y}
structure Good (E0:Env) (w0:World) (N nb:Nat) (y:Y) (kn:KN Y) (kx:Nat→KN Y) (kr:KN Y) (Q:WV):Prop where
 n:∀E σ a w,Ok E0 w0 N nb E σ a w→(∀ω,kn ω σ=some y)→Q .normal a w
 x:∀id E σ a w,Ok E0 w0 N nb E σ a w→(∀ω,kx id ω σ=some y)→Q (.exit id) a w
 r:∀E σ a w,Ok E0 w0 N nb E σ a w→(∀ω,kr ω σ=some y)→Q .ret a w
def w6(P:Program)(E0:Env)(w0:World)(N nb:Nat)(y:Y)(J:Nat→St→Option Y)(cd:Code)(Q:WV):Prop:=
 ∀ ℓ body Q',At P cd Q ℓ body Q'→ ∀E σ a w,Ok E0 w0 N nb E σ a w→J ℓ σ=some y→Ih P body Q' a w
include hT hΓ hm in
theorem gj:∀{cd:Code} {kn:KN Y} {kx:Nat→KN Y} {kr:KN Y} {Q:WV} {E:Env} {σ:St} {a:Act} {w:World},Sj Q→Good E0 w0 N nb y kn kx kr Q→w6 P E0 w0 N nb y J cd Q→Ok E0 w0 N nb E σ a w→
  (∀ω,run C J cd kn kx kr ω σ=some y)→cd.wp P Q a w:=by
 intro cd
 induction cd with
 |skip=>intro kn kx kr Q E σ a w hp hg hj h e;exact wp_skip (hg.n E σ a w h e)
 |region id ops draw=>
  intro kn kx kr Q E σ a w hp hg hj h e;simp only[run]at e;cases draw with
  |false=>
   simp only[AER,AFJ]at e;exact wp_region_list (Wz hT hΓ hg.n h e)
  |true=>
   simp only[AGG]at e;have hs:Region.noSelect ops=true:=by
    have:=e [];split at this
    ·rename_i hh;exact hh
    ·cases this
   simp only[hs,AGG]at e;exact wp_region_any hm (cc _ _ _ _ _ (dP hT hΓ hs hp hg.n _ (h.drawn _) e))
 |seq x z ihx ihz=>
  intro kn kx kr Q E σ a w hp hg hj h e;simp only[run]at e;refine wp_seq (ihx (hp.then _) ⟨fun E σ a w h e=>ihz hp hg (fun ℓ body Q' KZ=>hj ℓ body Q' (.inr KZ)) h e,fun id E σ a w h e=>hg.x id E σ a w h e,hg.r⟩ (fun ℓ body Q' KZ=>hj ℓ body Q' (.inl KZ)) h e)
 |cond c x z ihx ihz=>
  intro kn kx kr Q E σ a w hp hg hj h e;cases c with
  |tmp t=>
   simp only[run]at e;have e0:=e [];split at e0
   ·rename_i b hb
    simp only[hb]at e;obtain⟨v,hv,hx⟩:=h.rel.tmp hb;have hvb:=LB (E:=E) (w:=w) (vw:=σ.bx) hx;subst hvb;have u0:a.eval (.tmp t)= .bool b:=by simp[Act.eval,AGU,hv]
    have hk:=fC hb;cases b with
    |true=>
     simp only[AEb,tt,hk]at e;exact wp_cond_true u0 (ihx hp hg (fun ℓ body Q' KZ=>hj ℓ body Q' (.inl KZ)) h e)
    |false=>
     simp only[AEL,ff,hk]at e;exact wp_cond_false u0 (ihz hp hg (fun ℓ body Q' KZ=>hj ℓ body Q' (.inr KZ)) h e)
   ·cases e0
  |_=>cases e []
 |block id c ih=>
  intro kn kx kr Q E σ a w hp hg hj h e;simp only[run]at e;refine wp_block (ih (hp.inBlock id) ⟨hg.n,fun j E σ a w h e=> ?_,hg.r⟩ (fun ℓ body Q' KZ=>hj ℓ body Q' KZ) h e);simp only[Exit.inBlock];split
  ·rename_i hid
   simp only[hid,AGG]at e;exact hg.n E σ a w h e
  ·rename_i hid
   simp only[hid,AFJ]at e;exact hg.x j E σ a w h e
 |loop body ih=>
  intro kn kx kr Q E σ a w hp hg hj h e;simp only[run]at e;exact Ih.wp (hj (first body) body Q (.inl ⟨rfl,rfl,rfl⟩) E σ a w h (e []))
 |exit id=>intro kn kx kr Q E σ a w hp hg hj h e;exact wp_exit (hg.x id E σ a w h e)
 |ret=>intro kn kx kr Q E σ a w hp hg hj h e;exact wp_ret (hg.r E σ a w h e)
 |_=>intro kn kx kr Q E σ a w hp hg hj h e;cases e []
end
end Go.Fw
end
section
namespace Go.Fw
def labels:Code→List Nat
 | .seq a b=>labels a++labels b
 | .cond _ a b=>labels a++labels b
 | .block _ c=>labels c
 | .loop c=>first c::labels c
 |_=>[]
theorem At.label{P:Program}:∀{cd:Code} {Q:WV} {ℓ :Nat} {body:Code} {Q':WV},At P cd Q ℓ body Q'→ ℓ ∈labels cd
 | .seq a b,Q,ℓ,body,Q',h=>by
  simp only[labels,AEZ];exact h.imp At.label At.label
 | .cond _ a b,Q,ℓ,body,Q',h=>by
  simp only[labels,AEZ];exact h.imp At.label At.label
 | .block _ c,Q,ℓ,body,Q',h=>At.label (cd:=c) h
 | .loop c,Q,ℓ,body,Q',h=>by
  simp only[labels,AEd];exact h.imp (fun h=>h.1.symm) At.label
section
variable{Y:Type} {P:Program} {C:V_} (hT:C2 P C.T) (hΓ:Ub P C.Γ) (hm:P.follows .mixedOrders=true) {E0:Env} {w0:World} {N nb:Nat} {y:Y} {J:Nat→St→Option Y}
theorem KS{ℓ :Nat}:∀{cd:Code} {kn:KN Y} {kx:Nat→KN Y} {kr:KN Y},ℓ ∉labels cd→find C J ℓ cd kn kx kr=none
 | .seq a b,kn,kx,kr,h=>by
  simp only[labels,AEZ,AHO]at h;simp only[find];rw[KS h.1];exact KS h.2
 | .cond _ a b,kn,kx,kr,h=>by
  simp only[labels,AEZ,AHO]at h;simp only[find];rw[KS h.1];exact KS h.2
 | .block _ c,kn,kx,kr,h=>by simp only[find];exact KS (cd:=c) h
 | .loop c,kn,kx,kr,h=>by
  simp only[labels,AEd,AHO]at h;simp only[find];rw[AEB (fun e=>h.1 e.symm)];exact KS h.2
 | .skip,_,_,_,_=>rfl
 | .region _ _ _,_,_,_,_=>rfl
 | .rangeFunc _ _ _ _,_,_,_,_=>rfl
 | .exit _,_,_,_,_=>rfl
 | .scope _,_,_,_,_=>rfl
 | .label _,_,_,_,_=>rfl
 | .goto _,_,_,_,_=>rfl
 | .ret,_,_,_,_=>rfl
 | .refuse _,_,_,_,_=>rfl
include hT hΓ hm in
theorem rU{ℓ :Nat}:∀{cd:Code} {kn:KN Y} {kx:Nat→KN Y} {kr:KN Y} {Q:WV} {body:Code} {Q':WV},(labels cd).Nodup→Sj Q→Good E0 w0 N nb y kn kx kr Q→w6 P E0 w0 N nb y J cd Q→At P cd Q ℓ body Q'→
  ∃kn' kx' kr',find C J ℓ cd kn kx kr=some (fun ω σ=>run C J body (fun _ σ=>J ℓ σ) kx' kr' ω σ)∧Good E0 w0 N nb y kn' kx' kr' Q'∧Sj Q'∧w6 P E0 w0 N nb y J body (Exit.then (Ih P body Q') Q'):=by
 intro cd
 induction cd with
 |seq a b iha ihb=>
  intro kn kx kr Q body Q' hn hp hg hj KZ;simp only[labels,AEJ]at hn;obtain⟨n1,n2,n3⟩:=hn;have hja:w6 P E0 w0 N nb y J a (Exit.then (b.wp P Q) Q):=fun ℓ body Q' KZ=>hj ℓ body Q' (.inl KZ)
  have hjb:w6 P E0 w0 N nb y J b Q:=fun ℓ body Q' KZ=>hj ℓ body Q' (.inr KZ)
  simp only[find];rcases KZ with KZ|KZ
  ·obtain⟨kn',kx',kr',h1,h2⟩:=iha n1 (hp.then _) (kn:=fun ω σ=>run C J b kn kx kr ω σ) (kx:=kx) (kr:=kr)
    ⟨fun E σ a w h e=>gj hT hΓ hm hp hg hjb h e,fun id E σ a w h e=>hg.x id E σ a w h e,hg.r⟩ hja KZ
   exact⟨kn',kx',kr',by rw[h1],h2⟩
  ·have: ℓ ∉labels a:=fun h=>n3 ℓ h ℓ KZ.label rfl
   rw[KS this];exact ihb n2 hp hg hjb KZ
 |cond c a b iha ihb=>
  intro kn kx kr Q body Q' hn hp hg hj KZ;simp only[labels,AEJ]at hn;obtain⟨n1,n2,n3⟩:=hn;simp only[find];rcases KZ with KZ|KZ
  ·obtain⟨kn',kx',kr',h1,h2⟩:=iha n1 hp hg (fun ℓ body Q' KZ=>hj ℓ body Q' (.inl KZ)) KZ
   exact⟨kn',kx',kr',by rw[h1],h2⟩
  ·have: ℓ ∉labels a:=fun h=>n3 ℓ h ℓ KZ.label rfl
   rw[KS this];exact ihb n2 hp hg (fun ℓ body Q' KZ=>hj ℓ body Q' (.inr KZ)) KZ
 |block id c ih=>
  intro kn kx kr Q body Q' hn hp hg hj KZ;simp only[find];refine ih hn (hp.inBlock id) ⟨hg.n,fun j E σ a w h e=> ?_,hg.r⟩ (fun ℓ body Q' KZ=>hj ℓ body Q' KZ) KZ;simp only[Exit.inBlock];split
  ·rename_i hid
   simp only[hid,AGG]at e;exact hg.n E σ a w h e
  ·rename_i hid
   simp only[hid,AFJ]at e;exact hg.x j E σ a w h e
 |loop c ih=>
  intro kn kx kr Q body Q' hn hp hg hj KZ;simp only[labels,AGW]at hn;have hj':w6 P E0 w0 N nb y J c (Exit.then (Ih P c Q) Q):=fun ℓ body Q' KZ=>hj ℓ body Q' (.inr KZ)
  simp only[find];by_cases hl:first c= ℓ
  ·rw[AEA hl]
   rcases KZ with⟨_,rfl,rfl⟩|KZ
   ·exact⟨kn,kx,kr,rfl,hg,hp,hj'⟩
   ·exact absurd (hl▸KZ.label) hn.1
  ·rw[AEB hl]
   rcases KZ with⟨h,_⟩|KZ
   ·exact absurd h hl
   ·exact ih hn.2 (hp.then _) ⟨fun E σ a w h e=>hj (first c) c Q (.inl ⟨rfl,rfl,rfl⟩) E σ a w h (e []),fun id E σ a w h e=>hg.x id E σ a w h e,hg.r⟩ hj' KZ
 |_=>intro kn kx kr Q body Q' hn hp hg hj KZ;exact KZ.elim
end
theorem VE{E:Env}{w:World}{vw:List Bx}:∀{l:List (Nat×XP)} {x:DR.V l} {vals:List Value} {tm:List XV},Hw E w vw id l x vals→BU (XR E w vw) tm vals→BU (XR E w vw) (DR.mk id l x tm) vals
 |[],_,_,_,_,h=>h
 |(i,p)::l,x,vals,tm,hs,h=>by
  obtain⟨⟨v,hv,hx⟩,hs⟩:=hs;simp only[DR.mk];refine VE hs ?_
  have:=BU.set (i:=i) h hx;have e:vals.set i v=vals:=by
   apply AGb;intro j;rw[AGN];split
   ·rename_i e;subst e
    rw[AEA (AD7.1 hv).1,hv]
   ·rfl
  rwa [e]at this
theorem BU.undef{E:Env}{w:World}{vw:List Bx}:∀{vals:List Value} {n:Nat},n=vals.length→BU (XR E w vw) (List.replicate n (.c .undef)) vals
 |[],n,h=>by subst h;trivial
 |v::vals,n,h=>by
  subst h;simp only[AEI,AGg];exact⟨trivial,BU.undef rfl⟩
theorem dE.shared{E E1:Env}{w:World}{bx:List Bx}{m:JN}{s:CI}{x:s.V}{vals:List Value}(h:dE E w bx m s x vals E1)(hb:Bm E w bx bx []):
  ∃E2,E2.EY=E1.EY∧E2.Ei=E1.Ei∧T3 E w E2 w∧Bm E2 w (FM.mk id s.Dk x.2) (FM.mk id s.Dk x.2) []∧Hw E2 w (FM.mk id s.Dk x.2) id s.CJ x.1 vals:=by
 obtain⟨Fk,k1,k2,k3,k4⟩:=h.rest
 let E2:Env:={ E1 with S:=fun c=>E1.S c∨c∈Fk.flatten }
 have st1:=h.boxes.st;have keep:Ld E1 w (FM.mk id s.Dk x.2) E2 w (FM.mk id s.Dk x.2):=
  ⟨AE7 _,fun _ _=>rfl,fun _ h=>h,fun _ h=> .inl h,st1,fun _ _=>rfl,fun b d r rows _ e=>⟨d,rows,e,fun p hp q ys hg=>⟨hp,⟨ys,hg,rfl⟩,fun _ h=>h⟩⟩⟩
 refine⟨E2,rfl,rfl,⟨h.T,fun c hc=> .inl (h.S c hc),fun c hc=> ?_,fun c hc=> ?_,fun _ _=>rfl,rfl,rfl,rfl,AE7 _⟩,?_,?_⟩
 ·rcases k4 c hc with h|h|h
  ·exact .inl h
  ·exact .inr (.inl h)
  ·exact .inr (.inr h)
 ·rcases hc with hc|hc
  ·exact h.jL c hc
  ·exact .inr (k3 c hc).1
 ·refine h.boxes.turn (E':=E2) (w':=w) (fun _ _ hv=>DN keep hv) (fun _ h=> .inl h) (fun _ _=>rfl) (fun _ _=>rfl) (fun _ _ _=>rfl) fun F hF=>⟨hF.nodup,hF.free,hF.lt,fun c hc=>hc.elim (hF.st c) fun h=>(k3 c h).2.2.2,hF.TN,hF.eK.mono (fun _ h=>h) (fun _ _=>rfl)⟩
 ·have:∀{l:List (Nat×XP)} {z:DR.V l},Hw E1 w (FM.mk id s.Dk x.2) id l z vals→Hw E2 w (FM.mk id s.Dk x.2) id l z vals:=by
   intro l
   induction l with
   |nil=>intro z h;trivial
   |cons q l ih=>
    obtain⟨i,p⟩:=q;intro z h;obtain⟨⟨v,hv,hx⟩,hs⟩:=h;exact⟨⟨v,hv,JH keep hx⟩,ih hs⟩
  exact this h.CJ
theorem Us:∀{l:List BP} {i n:Nat},(Lt i n l).length=l.length
 |[],_,_=>rfl
 |_::l,i,n=>by simp[Lt,Us (l:=l)]
theorem UX:∀{l:List BP} {i n k b:Nat},(Lt i n l)[k]? =some (some b)→b=i+k∧b<n∧l[k]?≠some .gone
 |[],i,n,k,b,h=>by simp[Lt]at h
 |p::l,i,n,0,b,h=>by
  simp only[Lt,List.getElem?_cons_zero,AD_]at h;cases p with
  |gone=>simp at h
  |mem q=>split at h<;>simp_all<;>omega
  |sl d r=>split at h<;>simp_all<;>omega
 |p::l,i,n,k+1,b,h=>by
  simp only[Lt,List.getElem?_cons_succ]at h;obtain⟨h1,h2,h3⟩:=UX h;exact⟨by omega,h2,by simpa using h3⟩
theorem Ue:∀{l:List BP} {i n k:Nat} {p:BP},l[k]? =some p→p≠ .gone→i+k<n→(Lt i n l)[k]? =some (some (i+k))
 |q::l,i,n,0,p,h,hg,hn=>by
  simp at h;subst h;simp only[Lt,List.getElem?_cons_zero,AD_];cases q with
  |gone=>exact absurd rfl hg
  |mem q=>simp at hn⊢;exact hn
  |sl d r=>simp at hn⊢;exact hn
 |q::l,i,n,k+1,p,h,hg,hn=>by
  simp only[Lt,List.getElem?_cons_succ];rw[Ue (l:=l) (i:=i+1) (k:=k) (by simpa using h) hg (by omega)];congr 2;omega
 |[],_,_,_,_,h,_,_=>by simp at h
theorem aG{l:List BP}{n:Nat}:Zw (Lt 0 n l):=fun i j b h k=>by
 have:=(UX h).1;have:=(UX k).1;omega
end Go.Fw
end
section
namespace Go.Fw
structure AB6 (P:Program) (f:Nat) (fn:Func) (c:NK):Prop where
 at_:P.funcs[f]? =some fn
 call:∀args w,(callFunc f args).run P w= .ok (.enter f args) w
 con:c.ok=true
 tmps:c.ins.CJ.length≤fn.ntmps
 labels:∀code,fn.body=some code→(labels code).Nodup
section
variable{P:Program} {C:V_} (hT:C2 P C.T) {E:Env} {σ:St} {a:Act} {w:World}
include hT in
theorem l7(h:Rel E σ a w):
  ∀{rs:List ResultVar} {xs:List XV},rs.mapM (l9 C.T σ)=some xs→ ∃vs,(∀f:ResultVar→Sem Value,(∀u,f (.tmp u)=pure (a.tmps.getD u undef))→(∀b t,f (.cell b t)=(do loadVar t (←asAddr (a.tmps.getD b undef))))→
   (rs.mapM f).run P w= .ok vs w)∧BU (XR E w σ.bx) xs vs:=by
 intro rs
 induction rs with
 |nil=>
  intro xs e;have hx:xs=[]:=by simpa using e.symm
  subst hx;exact⟨[],fun f _ _=>by simp,trivial⟩
 |cons r rs ih=>
  intro xs e;rw[AHL]at e;simp only[Option.bind_eq_bind,AED,Option.pure_def,AD_]at e;obtain⟨x,e1,ys,e2,rfl⟩:=e;obtain⟨vs,h1,h2⟩:=ih e2;have one:∃v,(∀f:ResultVar→Sem Value,(∀u,f (.tmp u)=pure (a.tmps.getD u undef))→(∀b t,f (.cell b t)=(do loadVar t (←asAddr (a.tmps.getD b undef))))→(f r).run P w= .ok v w)∧XR E w σ.bx x v:=by
   cases r with
   |tmp t=>
    simp only[l9]at e1;obtain⟨v,hv,hx⟩:=h.tmp e1;refine⟨v,fun f hf hc=> ?_,hx⟩;rw[hf];simp[AGU,hv]
   |cell b t=>
    simp only[l9]at e1;split at e1
    case h_2=>cases e1
    rename_i z hz;obtain⟨v,hv,hx⟩:=h.tmp hz;obtain⟨Fs,hB,hS⟩:=h.bx;cases z with
    |agg l=>simp[XS]at e1
    |Hd l=>simp[XS]at e1
    |c ad=>
     obtain⟨bb,oo,u,cell,hp,_,q2,q3⟩:=br hT hB hS.st e1 hx;refine⟨u,fun f hf hc=> ?_,q2⟩;have hgd:a.tmps.getD b undef=v:=by simp[AGU,hv]
     have:=q3 w rfl;rw[hc,hgd,hp];rw[hp]at this;simpa[Instr.loadAt,Instr.sureAddr,asAddr]using this
  obtain⟨v,g1,g2⟩:=one;refine⟨v::vs,fun f hf hc=> ?_,g2,h2⟩;rw[AHL];simp[g1 f hf hc,h1 f hf hc]
theorem Ux{vw:List Bx}:∀{l:List XV} {q:List (AV ⊕ List AV)} {vs:List Value},ft l=some q→BU (XR E w vw) l vs→BU (TR E w vw) q vs
 |[],q,[],e,_=>by
  simp only[ft,AD_]at e;subst e;trivial
 |[],_,_::_,_,h=>h.elim
 | .c x::l,q,v::vs,e,h=>by
  simp only[ft,AEC]at e;obtain⟨r,e1,rfl⟩:=e;exact⟨h.1,Ux e1 h.2⟩
 | .agg x::l,q,v::vs,e,h=>by
  simp only[ft,AEC]at e;obtain⟨r,e1,rfl⟩:=e;exact⟨h.1,Ux e1 h.2⟩
 | .Hd _::_,_,_,e,_=>by simp[ft]at e
 | .c _::_,_,[],_,h=>h.elim
 | .agg _::_,_,[],_,h=>h.elim
include hT in
theorem bE(h:Rel E σ a w){fn:Func}{x:XV}(e:V0 C.T σ fn.results.toList=some x):∃v,(results fn a.tmps).run P w= .ok v w∧XR E w σ.bx x v:=by
 unfold V0 at e;have key:∀xs,fn.results.toList.mapM (l9 C.T σ)=some xs→ ∃vs:List Value,(results fn a.tmps).run P w= .ok (if h:vs.toArray.size=1 then vs.toArray[0]else .tuple vs.toArray) w∧BU (XR E w σ.bx) xs vs:=by
  intro xs hx;obtain⟨vs,h1,h2⟩:=l7 (P:=P) hT h hx;refine⟨vs,?_,h2⟩;unfold results;rw[Array.mapM_eq_mapM_toList];simp only[Sem.run_bind,Sem.run_map];rw[h1 _ (fun _=>rfl) (fun _ _=>rfl)];simp only[Result.andThen_ok,Sem.run_pure]
 split at e
 ·rename_i z hz
  cases e;obtain⟨vs,h1,h2⟩:=key _ hz
  match vs,h2 with
  |[v],h2=>exact⟨v,by simpa using h1,h2.1⟩
  |v::_::_,h2=>exact h2.2.elim
  |[],h2=>exact h2.elim
 ·rename_i l hl hz
  simp only[AEC]at e;obtain⟨q,e1,rfl⟩:=e;obtain⟨vs,h1,h2⟩:=key _ hz;have SY: ¬vs.toArray.size=1:=fun hs=>by
   have:=BU.len h2
   match l,this with
   |[z],_=>exact hl z rfl
   |[],t=>simp at t hs;omega
   |_::_::_,t=>simp at t hs;omega
  rw[dif_neg SY]at h1;exact⟨_,h1,vs.toArray,rfl,by simpa using Ux e1 h2⟩
 ·cases e
end
theorem UM{E:Env}{w:World}{vw:List Bx}{more:List Value}:∀{l:List (Nat×XP)} {x:DR.V l} {vals:List Value},Hw E w vw id l x vals→Hw E w vw id l x (vals++more)
 |[],_,_,_=>trivial
 |(i,p)::l,x,vals,h=>by
  obtain⟨⟨v,hv,hx⟩,hs⟩:=h;exact⟨⟨v,by rw[AEG (AD7.1 hv).1];exact hv,hx⟩,UM hs⟩
def jT(C:V_)(c:NK)(fn:Func)(code:Code)(J:Nat→Nat→St→Option c.outs.V):Prop:=
 ∀ ℓ,ℓ ∈labels code→ ∃(s:CI) (F:Nat→s.V→Option c.outs.V),(∀n,J n ℓ =jump c.ins.Dk.length s (F n))∧(∀v,F 0 v=none)∧
  ∀n v y,F (n+1) v=some y→ ∀ω,Hn C c fn (J n) ℓ ω (s.st fn.ntmps v)=some y
section
variable{P:Program} {C:V_} (hT:C2 P C.T) (hΓ:Ub P C.Γ) (hm:P.follows .mixedOrders=true) {fn:Func} {c:NK}
def zj(c:NK)(E0:Env)(w0:World)(u:c.outs.V)(e:Ending)(w':World):Prop:=
 ∃x E',e= .returned x∧T3 E0 w0 E' w'∧Bm E' w' (FM.mk id c.outs.Dk u.2) (FM.mk id c.outs.Dk u.2) []∧
  Hw E' w' (FM.mk id c.outs.Dk u.2) id c.outs.CJ u.1 [x]∧ ∀i,i<c.ins.Dk.length→alive c.outs.Dk i=true→E'.EY i=E0.EY i∧E'.Ei i=E0.Ei i
theorem Ok.opens{E0 E:Env}{w0 w:World}{N nb:Nat}{σ:St}{a:Act}(h:Ok E0 w0 N nb E σ a w)(s:CI):∃E',Ok E0 w0 N nb E' { σ with bx:=s.opens σ.bx } a w∧
  (∀(i:Nat) d r,s.Dk[i]? =some (.sl d r)→E'.Ei (σ.bx.length+i)= .slice none 0 0)∧(∀x v,XR E w σ.bx x v→XR E' w (s.opens σ.bx) x v):=by
 obtain⟨E',h1,h2,h3,h4⟩:=cO h.rel s;exact⟨E',h.next h1 h2 rfl,h3,h4⟩
theorem mF{E E':Env}{w:World}{vw:List Bx}{b:Nat}(h:Le E E')(st:∀c,E.S c→E.T c):Ld E w vw E' w (vw.set b .dead):=by
 refine⟨by simp,fun b _=>by rw[h.EY],h.T,h.S,st,fun _ _=>rfl,fun c d r rows _ e=> ?_⟩;by_cases hc:c=b
 ·subst hc
  rw[AGN]at e;simp only[AGG]at e;split at e<;>cases e
 ·rw[AEH (fun e=>hc e.symm)]at e
  exact⟨d,rows,e,fun p hp q ys hg=>⟨hp,⟨ys,hg,rfl⟩,fun h' hh=>by rw[h.Ei];exact hh⟩⟩
theorem od{E:Env}{σ:St}{a:Act}{w:World}(h:Rel E σ a w)(b:Nat):∃E',Rel E' (σ.aR b) a w∧Le E E':=by
 unfold St.aR;split
 case h_2=>exact⟨E,h,Le.refl E⟩
 rename_i d r rows hb;obtain⟨F,hF,hB⟩:=h.bx.take hb;have OP:Bm E w σ.bx (σ.bx.set b .dead) ([]++F++[]):=by simpa using hB
 obtain⟨hle,hB3⟩:=OP.share;have hk:=mF (vw:=σ.bx) (b:=b) (w:=w) hle h.bx.st;have rm:Ld E w σ.bx { E with S:=fun c=>E.S c∨c∈F,T:=fun c=>E.T c∨c∈F } w ((σ.bx.set b .dead).map (Bx.aR b r rows)):=by
  refine⟨by simp,hk.EY,hk.T,hk.S,hk.st,hk.heap,fun c d' r' rows' hc e=> ?_⟩;rw[AFG,AEC]at e;obtain⟨B,e,eB⟩:=e;cases B with
  |mem cs=>cases eB
  |dead=>cases eB
  |sl d0 r0 KW=>
   cases eB;exact hk.box c _ _ _ hc e
 have hv:∀x v,VR E w σ.bx x v→VR { E with S:=fun c=>E.S c∨c∈F,T:=fun c=>E.T c∨c∈F } w ((σ.bx.set b .dead).map (Bx.aR b r rows)) (x.aR b r rows) v:=fun x v hx=>by
  unfold AV.aR;split
  ·rename_i c
   split
   ·rename_i hc
    subst hc;obtain⟨h1,h2⟩:=hx;rw[hb]at h2;have hv:=h2.2.2;rw[Bi]at hv;simp only[AD_]at hv;have:=Pj hF.2;rw[hv]at this;exact Cv (fun c hc=>hc) (fun _ _=>rfl) this
   ·exact DN rm hx
  ·exact DN rm hx
 refine⟨_,⟨h.ID,?_,?_⟩,hle⟩
 ·refine BU.Gw _ (fun x v hx=> ?_) h.tm
  unfold XV.aR;split
  ·exact hv _ _ hx
  ·exact JH rm hx
 ·obtain⟨Fs,⟨hl,h1⟩,h2⟩:=hB
  have q6:Sep E w (F++Fs.flatten):=h2.perm (by simpa using AE4);refine⟨Fs,⟨by simpa using hl,fun k B G Kt hG=> ?_⟩,?_⟩
  ·rw[AFG,AEC]at Kt
   obtain⟨B0,e,rfl⟩:=Kt;have h3:=h1 k B0 G e hG;cases B0 with
   |mem cs=>
    obtain⟨rfl,arr,ty,fr,a1,a2,a3⟩:=h3;exact⟨rfl,arr,ty,fr,a1,a2,BU.Gw _ (fun x v hx=>hv x v hx) a3⟩
   |sl d0 r0 KW=>exact⟨h3.1,CT hle.S (fun _ _=>rfl) (fun _ _=>rfl) h3.2⟩
   |dead=>exact h3
  ·rw[AEX]
   have st:=h.bx.st;refine⟨(AEJ.1 q6.nodup).2.1,fun c hc ht=> ?_,fun c hc=>q6.lt c (by simp only[AEZ];exact .inr hc),fun c hc=>hc.imp (st c) id,fun c hc=>hc.elim (q6.TN c) fun h' =>q6.lt c (by simp[h']),q6.eK.mono (fun _ h=> .inl h) (fun _ _=>rfl)⟩;rcases ht with ht|ht
   ·exact q6.free c (AEZ.2 (.inr hc)) ht
   ·exact(AEJ.1 q6.nodup).2.2 c ht c hc rfl
theorem mb{σ:St}{b i:Nat}(h:σ.bx[i]? =some .dead):(σ.aR b).bx[i]? =some .dead:=by
 unfold St.aR;split
 ·simp only[AFG,AGN]
  split
  ·split
   ·rfl
   ·rename_i h2
    subst_vars
    exact absurd (AD7.1 h).1 h2
  ·rw[h];rfl
 ·exact h
theorem jX{σ:St}{b:Nat}:(σ.aR b).bx.length=σ.bx.length∧(σ.aR b).tm.length=σ.tm.length:=by
 unfold St.aR;split<;>simp
theorem Ok.aR{E0 E:Env}{w0 w:World}{N nb:Nat}{σ:St}{a:Act}(h:Ok E0 w0 N nb E σ a w)(b:Nat):∃E',Ok E0 w0 N nb E' (σ.aR b) a w:=by
 obtain⟨E',h1,h2⟩:=od h.rel b;refine⟨E',⟨h1,h.base.trans (h2.base w),by rw[jX.2];exact h.tm,by rw[jX.1];exact h.ah,fun i hi hd=> ?_⟩⟩;rw[h2.EY,h2.Ei];exact h.ids i hi fun e=>hd (mb e)
theorem Ok.Du{E0:Env}{w0 w:World}{N nb:Nat}{a:Act}:∀(l:List AP) (xs:List AV) {E:Env} {σ:St},Ok E0 w0 N nb E σ a w→ ∃E',Ok E0 w0 N nb E' (Du l xs σ) a w:=by
 intro l xs E σ h
 induction l generalizing xs E σ with
 |nil=>unfold Fw.Du;exact⟨E,h⟩
 |cons p l ih=>
  unfold Fw.Du;split
  ·rename_i heq
   cases heq;obtain⟨E',h'⟩:=h.aR _;exact ih _ h'
  ·rename_i heq
   cases heq;exact ih _ h
  ·exact⟨E,h⟩
theorem Ok.AFw{E0:Env}{w0 w:World}{N nb:Nat}{a:Act}{bs:List BP}:∀(l:List (Nat×XP)) {E:Env} {σ:St},Ok E0 w0 N nb E σ a w→ ∃E',Ok E0 w0 N nb E' (JX bs l σ) a w:=by
 intro l
 induction l with
 |nil=>intro E σ h;exact⟨E,h⟩
 |cons q l ih=>
  intro E σ h;unfold JX;split
  ·cases ‹_::_=[]›
  ·rename_i e
   cases e;split
   ·obtain⟨E',h'⟩:=h.Du [_] [_]
    exact ih h'
   ·exact ih h
  ·rename_i e
   cases e;split
   ·split
    ·obtain⟨E',h'⟩:=h.Du _ _
     exact ih h'
    ·exact ih h
   ·exact ih h
  ·rename_i e
   cases e;exact ih h
theorem di{E:Env}{w:World}{vw:List Bx}{x:AV}{v:Value}(h:VR E w vw x v)(hx:x.cJ=true):isSlice v=true:=by
 cases x with
 |ref b p=>exact h.1
 |win b p o n=>exact h.1
 |sl s r y=>
  simp only[VR,Rd]at h;obtain⟨a,cap,h,_⟩:=h;simp only[AEk,AFR]at h;rw[h];rfl
 |nil=>cases h;rfl
 |_=>cases hx
theorem iR{E:Env}{σ:St}{a:Act}{w:World}(h:Rel E σ a w)(b j:Nat):Rel E (σ.forget b j) a w∧σ.bx.length≤(σ.forget b j).bx.length∧(∀i:Nat,σ.bx[i]? =some Bx.dead→(σ.forget b j).bx[i]? =some Bx.dead)∧(σ.forget b j).tm=σ.tm:=by
 unfold St.forget;split
 case h_2=>exact⟨h,AE7 _,fun _ h=>h,rfl⟩
 rename_i cs hb;split
 case h_2=>exact⟨h,AE7 _,fun _ h=>h,rfl⟩
 rename_i x hx;split
 case isFalse=>exact⟨h,AE7 _,fun _ h=>h,rfl⟩
 rename_i hs;have l4:=(AD7.1 hb).1;have hk:Ld E w σ.bx E w (σ.bx.set b (.mem (cs.set j (.ref σ.bx.length [])))++[.dead]):=by
  refine⟨by simp,fun _ _=>rfl,fun _ h=>h,fun _ h=>h,h.bx.st,fun _ _=>rfl,fun c d r rows hc e=> ?_⟩;rw[AEG (by simpa using hc)]at e;by_cases lX:b=c
  ·subst lX
   rw[AEQ hc]at e;cases e
  ·rw[AEH lX]at e
   exact⟨d,rows,e,fun p hp q ys hg=>⟨hp,⟨ys,hg,rfl⟩,fun h' hh=>hh⟩⟩
 refine⟨⟨h.ID,h.tm.imp fun _ _ hx=>JH hk hx,?_⟩,by simp,fun i hi=> ?_,rfl⟩
 ·obtain⟨Fs,⟨hl,h1⟩,h2⟩:=h.bx
  refine⟨Fs++[[]],⟨by simp[hl],fun k B G hB hG=> ?_⟩,by simpa using h2⟩;by_cases rm:k<σ.bx.length
  ·rw[AEG (by simpa using rm)]at hB
   rw[AEG (by omega)]at hG;by_cases hkb:b=k
   ·subst hkb
    rw[AEQ rm]at hB;cases hB;obtain⟨rfl,arr,ty,fr,a1,a2,a3⟩:=h1 b _ G hb hG;refine⟨rfl,arr,ty,fr,a1,a2,?_⟩;have a4:VF E w (σ.bx.set b (.mem (cs.set j (.ref σ.bx.length [])))++[.dead]) cs arr.toList:=a3.imp fun _ _ hv=>DN hk hv
    obtain⟨v,hv,hvr⟩:=a3.get hx;have QV:arr.toList.set j v=arr.toList:=by
     apply AGb;intro i;by_cases vU:j=i
     ·subst vU
      rw[AEQ (AD7.1 hv).1,hv]
     ·rw[AEH vU]
    rw[←QV];refine BU.set a4 ⟨di hvr hs,?_⟩;have:(σ.bx.set b (.mem (cs.set j (.ref σ.bx.length [])))++[.dead])[σ.bx.length]? =some .dead:=by
     rw[AES (by simp)];simp
    rw[this]
    trivial
   ·rw[AEH hkb]at hB
    have h3:=h1 k B G hB hG;cases B with
    |mem SW=>
     obtain⟨rfl,arr,ty,fr,a1,a2,a3⟩:=h3;exact⟨rfl,arr,ty,fr,a1,a2,a3.imp fun _ _ hv=>DN hk hv⟩
    |sl d0 r0 KW=>exact h3
    |dead=>exact h3
  ·have hlen:=(AD7.1 hB).1
   simp only[AEM,AGr,AEI,AEc]at hlen;have hkk:k=σ.bx.length:=by omega
   subst hkk;rw[AES (by simp)]at hB;rw[AES (by omega)]at hG;simp[hl]at hB hG;subst hB hG;rfl
 ·have hil:=(AD7.1 hi).1
  rw[AEG (by simpa using hil)];have hbi:b≠i:=fun e=>by
   subst e;rw[hb]at hi;cases hi
  rw[AEH hbi];exact hi
theorem Ok.forget{E0 E:Env}{w0 w:World}{N nb:Nat}{σ:St}{a:Act}(h:Ok E0 w0 N nb E σ a w)(b j:Nat):Ok E0 w0 N nb E (σ.forget b j) a w:=by
 obtain⟨h1,h2,h3,h4⟩:=iR h.rel b j;exact⟨h1,h.base,by rw[h4];exact h.tm,AFS h.ah h2,fun i hi hd=>h.ids i hi fun e=>hd (h3 i e)⟩
theorem Ok.Oj{E0 E:Env}{w0 w:World}{N nb:Nat}{a:Act}{bs:List BP}{b:Nat}:∀(l:List AP) (j:Nat) {σ:St},Ok E0 w0 N nb E σ a w→Ok E0 w0 N nb E (Oj bs b j l σ) a w
 |[],_,_,h=>h
 |p::l,j,σ,h=>by
  simp only[Fw.Oj];refine Ok.Oj l (j+1) ?_
  split
  ·split
   ·exact h.forget _ _
   ·exact h
  ·exact h
theorem Ok.ACB{E0 E:Env}{w0 w:World}{N nb:Nat}{a:Act}{bs:List BP}:∀(l:List (Nat×XP)) {σ:St},Ok E0 w0 N nb E σ a w→Ok E0 w0 N nb E (TL bs l σ) a w
 |[],_,h=>h
 |(i,p)::l,σ,h=>by
  simp only[TL];refine Ok.ACB l ?_
  split
  ·split
   ·exact h.Oj _ _
   ·exact h
  ·exact h
theorem Ok.RM{E0:Env}{w0 w:World}{N nb:Nat}{a:Act}:∀(l:List (AP ⊕ List AP)) (xs:List (AV ⊕ List AV)) {E:Env} {σ:St},Ok E0 w0 N nb E σ a w→ ∃E',Ok E0 w0 N nb E' (RM l xs σ) a w:=by
 intro l xs E σ h
 induction l generalizing xs E σ with
 |nil=>unfold Fw.RM;exact⟨E,h⟩
 |cons p l ih=>
  unfold Fw.RM;split
  ·rename_i heq
   cases heq;obtain⟨E',h'⟩:=h.Du _ _;exact ih _ h'
  ·rename_i heq
   cases heq;obtain⟨E',h'⟩:=h.Du _ _;exact ih _ h'
  ·rename_i heq
   cases heq;exact ih _ h
  ·exact⟨E,h⟩
theorem Ok.W8{E0 E:Env}{w0 w:World}{N nb:Nat}{σ:St}{a:Act}(h:Ok E0 w0 N nb E σ a w)(l:List (Nat×XP))(x:XV):∃E',Ok E0 w0 N nb E' (W8 l x σ) a w:=by
 unfold Fw.W8;split
 ·unfold ADE
  split
  ·exact h.Du _ _
  ·exact h.Du _ _
  ·exact h.RM _ _
  ·exact⟨E,h⟩
 ·exact⟨E,h⟩
include hT in
theorem cb{E0 E:Env}{w0 w:World}{N:Nat}{σ:St}{a:Act}{u:c.outs.V}(h:Ok E0 w0 N c.ins.Dk.length E σ a w)(e:bd C.T c fn.results.toList σ=some u):
  a.defers=[]∧ ∃v,(results fn a.tmps).run P w= .ok v w∧zj c E0 w0 u (.returned v) w:=by
 unfold bd at e;simp only[AED,AEC]at e;obtain⟨x0,_,x,e1,⟨u',m⟩,e2,rfl⟩:=e;obtain⟨E,h⟩:=h.W8 c.outs.CJ x0;revert h e1 e2
 generalize Fw.W8 c.outs.CJ x0 σ=σ
 intro e1 e2 h;obtain⟨v,h1,h2⟩:=bE hT h.rel e1;obtain⟨E,h,dz,h4⟩:=h.opens c.outs
 replace h2:=h4 _ _ h2
 obtain⟨hext,E1,hf⟩:=W7 (tm:=[x]) (vals:=[v]) h.rel.bx ⟨h2,trivial⟩ dz Us aG e2;obtain⟨E2,q1,q2,q3,q4,q5⟩:=hf.shared h.rel.bx;refine⟨h.rel.ID,v,h1,v,E2,rfl,h.base.trans q3,q4,q5,fun i hi jC=> ?_⟩;obtain⟨p,hp,hg⟩:∃p,c.outs.Dk[i]? =some p∧p≠ .gone:=by
  unfold alive at jC;cases hh:c.outs.Dk[i]? with
  |none=>rw[hh]at jC;cases jC
  |some p=>
   refine⟨p,rfl,fun hp=> ?_⟩;rw[hh,hp]at jC;cases jC
 have n0:=hext.2 i i (by have:=Ue (i:=0) (n:=c.ins.Dk.length) hp hg (by omega);simpa using this);obtain⟨b,B,g1,g2,g3,_⟩:=dr e2 i p hp hg;rw[n0]at g1;cases g1;have hid:=hf.ids i i n0;have mn:=h.ids i hi (fun hd=>by rw[g2]at hd;cases hd;exact g3 rfl);rw[q1,q2];exact⟨hid.1.trans mn.1,hid.2.trans mn.2⟩
include hT hΓ hm in
theorem mI{code:Code}(hb:fn.body=some code)(hl:(labels code).Nodup){J:Nat→Nat→St→Option c.outs.V}(hJ:jT C c fn code J)
  {E0:Env} {w0:World} {u:c.outs.V} {Q:WV} (hp:Sj Q)
  (hg:Good E0 w0 fn.ntmps c.ins.Dk.length u (fun _=>bd C.T c fn.results.toList) (fun _ _ _=>none) (fun _=>bd C.T c fn.results.toList) Q):
  ∀n,w6 P E0 w0 fn.ntmps c.ins.Dk.length u (J n) code Q:=by
 intro n
 induction n with
 |zero=>
  intro ℓ body Q' KZ E σ a w h e;obtain⟨s,F,j1,j2,j3⟩:=hJ ℓ KZ.label;rw[j1]at e;simp only[jump]at e;split at e
  ·rw[AED]at e
   obtain⟨q,_,e⟩:=e;rw[j2]at e;cases e
  ·cases e
 |succ n ih=>
  intro ℓ body Q' KZ E σ a w h e;obtain⟨s,F,j1,j2,j3⟩:=hJ ℓ KZ.label;rw[j1]at e;simp only[jump]at e;split at e
  case isFalse=>cases e
  rename_i ah;rw[AED]at e;obtain⟨⟨v,m⟩,e1,e2⟩:=e;dsimp only at e2;obtain⟨E,h⟩:=h.AFw (bs:=s.Dk) s.CJ
  replace h:=h.ACB (bs:=s.Dk) s.CJ
  revert h e1
  generalize TL s.Dk s.CJ (JX s.Dk s.CJ σ)=σ
  intro e1 h;obtain⟨E,h,dz,h4⟩:=h.opens s;obtain⟨hext,E1,hf⟩:=W7 h.rel.bx h.rel.tm dz Us aG e1;obtain⟨E2,q1,q2,q3,q4,q5⟩:=hf.shared h.rel.bx;have He:fn.ntmps=a.tmps.toList.length:=by rw[←BU.len h.rel.tm,h.tm]
  have IK:Ok E0 w0 fn.ntmps c.ins.Dk.length E2 (s.st fn.ntmps v) a w:=by
   refine⟨⟨h.rel.ID,VE q5 (BU.undef He),q4⟩,h.base.trans q3,?_,?_,fun i hi hd=> ?_⟩
   ·have:=BU.len (VE q5 (BU.undef He))
    simp only[CI.st];rw[this,←He]
   ·simp only[CI.st]
    rw[L9];exact ah
   ·simp only[CI.st]at hd
    have vF:s.Dk[i]? =some (s.Dk[i]'(by omega)):=AD9 _;have hng:s.Dk[i]'(by omega)≠ .gone:=fun gP=>by
     obtain⟨z,z1,_⟩:=RU id (u:=v.2) vF;apply hd;rw[z1]
     generalize s.Dk[i]'(by omega)=pp at z gP
     subst gP;rfl
    have n0:=hext.2 i i (by have:=Ue (i:=0) (n:=c.ins.Dk.length) vF hng (by omega);simpa using this);obtain⟨b,B,g1,g2,g3,_⟩:=dr e1 i _ vF hng;rw[n0]at g1;cases g1;have hid:=hf.ids i i n0;have mn:=h.ids i hi (fun hd=>by rw[g2]at hd;cases hd;exact g3 rfl);rw[q1,q2];exact⟨hid.1.trans mn.1,hid.2.trans mn.2⟩
  have vI:=j3 n v u e2;obtain⟨kn',kx',kr',hfind,fR,hnp,hj⟩:=rU hT hΓ hm hl hp hg ih KZ;simp only[Hn,hb,hfind]at vI;refine Ih.uD (gj hT hΓ hm (hnp.then _) (kn:=fun _ σ=>J n ℓ σ) ⟨fun E σ a w h e=> ?_,fun id E σ a w h e=>fR.x id E σ a w h e,fR.r⟩ hj IK vI);exact ih ℓ body Q' KZ E σ a w h (e [])
include hT hΓ hm in
theorem lr{f:Nat}(hf:AB6 P f fn c){J:Nat→Nat→St→Option c.outs.V}(hJ:∀code,fn.body=some code→jT C c fn code J)
  (hg:∀v u,c.g v=some u→ ∃n,∀ω,HJ C c fn (J n) ω v=some u):IY P f c:=by
 refine⟨hf.con,hf.call,fun E w v args u E6 hB hS hgv=> ?_⟩;obtain⟨n,hn⟩:=hg v u hgv;cases hb:fn.body with
 |none=>
  have:=hn [];simp only[HJ,hb]at this;cases this
 |some code=>
  simp only[HJ,hb]at hn;refine calls_of_wp hf.at_ hb ?_
  have hp:Sj (bodyPost P fn (zj c E w u)):=fun ch a w' hq=>by
   obtain⟨_,x,E',hx,_⟩:=hq;cases hx
  have fR:Good E w fn.ntmps c.ins.Dk.length u (fun _=>bd C.T c fn.results.toList) (fun _ _ _=>none) (fun _=>bd C.T c fn.results.toList) (bodyPost P fn (zj c E w u)):=
   ⟨fun E' σ a w' h e=>cb hT h (e []),fun id E' σ a w' h e=>(by cases e []),fun E' σ a w' h e=>cb hT h (e [])⟩
  have IK:Ok E w fn.ntmps c.ins.Dk.length E (c.ins.st fn.ntmps v) { tmps:=args++Array.replicate (fn.ntmps-args.size) undef,defers:=[] } w:=by
   have w5:BU (XR E w (FM.mk id c.ins.Dk v.2)) (DR.mk id c.ins.CJ v.1 (List.replicate fn.ntmps (.c .undef))) (args++Array.replicate (fn.ntmps-args.size) undef).toList:=by
    rw[Array.toList_append];refine VE (UM hS) (BU.undef ?_);have:=hf.tmps;simp;omega
   refine⟨⟨rfl,w5,hB⟩,T3.refl E w,?_,by simp only[CI.st];rw[L9];exact AE7 _,fun _ _ _=>⟨rfl,rfl⟩⟩;simp only[CI.st];rw[BU.len w5];have:=hf.tmps;simp;omega
  exact gj hT hΓ hm hp fR (mI hT hΓ hm hb (hf.labels code hb) (hJ code hb) hp fR n) IK hn
end
end Go.Fw
end
section
namespace Go.Fw
def DE:List Ty→Ty
 |[]=> .unit
 |c::l=> .cons c (DE l)
def fS(row:TypeId→Option (List Ty×Bool))(cells:TypeId→Nat):Nat→List Field→Option (List Ty)
 |_,[]=>some []
 |o,f::fs=>
  match row f.type with
  |some (l,_)=>if f.offset=o∧cells f.type=l.length then(fS row cells (o+l.length) fs).map (l++ ·)else none
  |none=>none
def XA:List Ty×Bool→Ty
 |(l,true)=>DE l
 |([c],false)=>c
 |_=> .unit
def rowOf(P:Program):Nat→TypeId→Option (List Ty×Bool)
 |0,_=>none
 |n+1,t=>
  match P.underlying t with
  |some (.int k)=>some ([.int k],false)
  |some .bool=>some ([.bool],false)
  |some .string=>some ([.str],false)
  |some (.slice e)=>
   match rowOf P n e with
   |some q=>if P.cellsOf e=q.1.length∧0<q.1.length then some ([.sl (XA q)],false)else none
   |none=>none
  |some (.struct fs)=>
   match fS (rowOf P n) P.cellsOf 0 fs.toList with
   |some l=>if P.cellsOf t=l.length then some (l,true)else none
   |none=>none
  |_=>none
def Vd:(t:Ty)→t.D→Prop
 | .int k,x=>(Lit.int k x).wf=true
 | .bool,_=>True
 | .str,x=>List.length x≤maxLen
 | .sl r,x=>List.length x≤maxLen∧ ∀y∈x,Vd r y
 | .unit,_=>True
 | .cons c r,x=>Vd c x.1∧Vd r x.2
theorem VM{α:Type}{p:Nat→α→Prop}:∀{n:Nat},(∀i,i<n→ ∃y,p i y)→ ∃x:List α,x.length=n∧ ∀(i:Nat) y,x[i]? =some y→p i y
 |0,_=>⟨[],rfl,fun i y h=>by simp at h⟩
 |n+1,h=>by
  obtain⟨x,h1,h2⟩:=VM (n:=n) (p:=p) (fun i hi=>h i (by omega));obtain⟨y,hy⟩:=h n (by omega);refine⟨x++[y],by simp[h1],fun i z hz=> ?_⟩;by_cases hi:i<x.length
  ·rw[AEG hi]at hz
   exact h2 i z hz
  ·rw[AES (by omega)]at hz
   have hil:=(AD7.1 hz).1;simp at hil;have:i=n:=by omega
   subst this;simp[h1]at hz;subst hz;exact hy
theorem cB{w:World}{B:Nat→Prop}:∀{l m:List Ty} {cs ds:List Value} {x:(DE l).D} {y:(DE m).D},Rd w B (DE l) cs x→Rd w B (DE m) ds y→Vd (DE l) x→Vd (DE m) y→
  ∃z:(DE (l++m)).D,Rd w B (DE (l++m)) (cs++ds) z∧Vd (DE (l++m)) z
 |[],m,cs,ds,x,y,h,k,hx,hy=>by
  simp only[DE,Rd]at h;subst h;exact⟨y,k,hy⟩
 |c::l,m,cs,ds,x,y,h,k,hx,hy=>by
  simp only[DE,Rd]at h;obtain⟨v,r,rfl,h1,h2⟩:=h;obtain⟨z,z1,z2⟩:=cB h2 k hx.2 hy;exact⟨(x.1,z),by simp only[AGD,DE,Rd];exact⟨v,r++ds,rfl,h1,z1⟩,hx.1,z2⟩
theorem kb{P:Program}{n:Nat}{t:TypeId}{l:List Ty}(h:rowOf P n t=some (l,false)):∃c,l=[c]:=by
 cases n with
 |zero=>simp[rowOf]at h
 |succ n=>
  simp only[rowOf]at h;split at h
  ·cases h;exact⟨_,rfl⟩
  ·cases h;exact⟨_,rfl⟩
  ·cases h;exact⟨_,rfl⟩
  ·split at h
   ·split at h
    ·cases h;exact⟨_,rfl⟩
    ·cases h
   ·cases h
  ·split at h
   ·split at h
    ·cases h
    ·cases h
   ·cases h
  ·cases h
theorem dd{w:World}{B:Nat→Prop}{P:Program}{n:Nat}{t:TypeId}{q:List Ty×Bool}(h:rowOf P n t=some q){cs:List Value}{x:(DE q.1).D}(hx:Rd w B (DE q.1) cs x)(hv:Vd (DE q.1) x):
  (XA q).n=q.1.length∧ ∃y:(XA q).D,Rd w B (XA q) cs y∧Vd (XA q) y:=by
 obtain⟨l,b⟩:=q;cases b with
 |true=>
  refine⟨?_,x,hx,hv⟩;clear h hx hv x;simp only[XA]
  induction l with
  |nil=>rfl
  |cons c l ih=>simp[DE,Ty.n,ih]
 |false=>
  obtain⟨c,rfl⟩:=kb h;simp only[DE,Rd]at hx;obtain⟨v,r,rfl,h1,h2⟩:=hx;subst h2;refine⟨?_,x.1,h1,hv.1⟩;have:=WL h1;simp only[XA];simpa using this.symm
theorem kD(a:Addr):a.add 0=a:=by simp[Addr.add]
theorem ka{w:World}{a:Addr}{v:Value}(h:w.cell? a=some v):a.spot=none:=by
 unfold World.cell? at h;split at h
 ·split at h
  ·cases h
  ·rename_i hs;simpa using hs
 ·cases h
section
variable{H:Type} {enc:TypeId×Value→H} {P:Program} {w:World} {spare:Nat→Bool} {held:Bool}
theorem VJ:∀(n:Nat) {t:TypeId} {q:List Ty×Bool},rowOf P n t=some q→ ∀{fuel:Nat} {cs:List Value} {x:DataW H×List MemPlace},DataW.trod enc P w 0 spare held fuel t cs=some x→
  ∃y:(DE q.1).D,Rd w (fun b=>b<w.heap.size) (DE q.1) cs y∧Vd (DE q.1) y
 |0,t,q,h,_,_,_,_=>by simp[rowOf]at h
 |n+1,t,q,h,fuel,cs,x,hx=>by
  simp only[rowOf]at h;split at h
  ·rename_i k hu
   cases h;obtain⟨m,rfl,_,hw⟩:=DataW.trod_int hu hx;exact⟨(m,()),by simp[DE,Rd],hw,trivial⟩
  ·rename_i hu
   cases h;obtain⟨b,rfl,_⟩:=DataW.trod_bool hu hx;exact⟨(b,()),by simp[DE,Rd],trivial,trivial⟩
  ·rename_i hu
   cases h;obtain⟨s,rfl,_,hs⟩:=DataW.trod_string hu hx;refine⟨(s.data.toList,()),by simp[DE,Rd],?_,trivial⟩
   show s.data.toList.length≤maxLen
   rw[AGh];exact hs
  ·rename_i e hu
   split at h
   case h_2=>cases h
   rename_i q' hq';split at h
   case isFalse=>cases h
   rename_i cn;cases h;rcases DataW.trod_slice hu hx with⟨rfl,_⟩|⟨a,len,cap,elems,rest,m,_,rfl,_,_,hlc,hcm,RF,KZ,_,_⟩
   ·refine⟨([],()),?_,⟨by simp,by simp⟩,trivial⟩
    simp only[DE,Rd];exact⟨_,[],rfl,⟨_,_,rfl,by simp,.inl rfl⟩,rfl⟩
   ·have each:∀i,i<len→ ∃y:(XA q').D,Vd (XA q') y∧ ∃ds,ds.length=(XA q').n∧(∀j,j<ds.length→w.cell? ((a.add (i*P.cellsOf e)).add j)=ds[j]?)∧Rd w (fun b=>b<w.heap.size) (XA q') ds y:=by
     intro i hi;have hz:elems[i]? =some (elems[i]'(by omega)):=AD9 _;have h1:=KZ i hi;rw[hz,AED]at h1;obtain⟨ds,vd,htr⟩:=h1;obtain⟨z,z1,z2⟩:=VJ n hq' htr;obtain⟨_,c1,c2⟩:=World.cells?_some vd
     obtain⟨a1,y,a2,a3⟩:=dd hq' z1 z2;exact⟨y,a3,ds,by rw[c1,a1,cn.1],fun j hj=>c2 j (by omega),a2⟩
    obtain⟨xs,x1,x2⟩:=VM each;refine⟨(xs,()),?_,⟨by show xs.length≤maxLen;omega,fun y hy=> ?_⟩,trivial⟩
    ·simp only[DE,Rd]
     refine⟨_,[],rfl,⟨_,cap,by rw[x1],by omega,?_⟩,rfl⟩;by_cases h0:len=0
     ·exact .inl (by omega)
     right
     obtain⟨y0,_,ds0,d0,d1,_⟩:=each 0 (by omega);have hn0:0<(XA q').n:=by
      rw[d0.symm];have hz:elems[0]? =some (elems[0]'(by omega)):=AD9 _;have h1:=KZ 0 (by omega);rw[hz,AED]at h1;obtain⟨ds,vd,htr⟩:=h1;obtain⟨z,z1,z2⟩:=VJ n hq' htr;have:=(dd hq' z1 z2).1;omega
     have lU:=d1 0 (by omega);simp only[Nat.zero_mul,kD]at lU;have lW:w.cell? a=some (ds0[0]'(by omega)):=by rw[lU];exact AD9 _
     have oB:=ka lW;obtain⟨b,o,s⟩:=a;simp only at oB;subst oB;refine⟨b,o,rfl,?_,fun i y hy=> ?_⟩
     ·unfold World.cell? at lW
      split at lW
      ·rename_i hb;exact(Array.getElem?_eq_some_iff.1 hb).1
      ·cases lW
     ·have hil:=(AD7.1 hy).1
      obtain⟨_,ds,e0,e1,e2⟩:=x2 i y hy;have hcn:P.cellsOf e=(XA q').n:=by
       have hz:elems[i]? =some (elems[i]'(by omega)):=AD9 _;have h1:=KZ i (by omega);rw[hz,AED]at h1;obtain⟨ds,vd,htr⟩:=h1;obtain⟨z,z1,z2⟩:=VJ n hq' htr;rw[(dd hq' z1 z2).1,cn.1]
      refine⟨ds,e0,fun j v hj=> ?_,e2⟩;have jB:=(AD7.1 hj).1;have:=e1 j jB;rw[Addr.add_eq,Addr.add_eq,hcn]at this;rw[this,hj]
    ·obtain⟨i,hi,rfl⟩:=AFr hy
     exact(x2 i _ (AD9 hi)).1
  ·rename_i fs hu
   split at h
   case h_2=>cases h
   rename_i l hl;split at h
   case isFalse=>cases h
   rename_i cT;cases h;obtain⟨xs,m,_,_,hlen,hxs,KZ⟩:=DataW.trod_struct hu hx;have key:∀(fs:List Field) (o:Nat) (l:List Ty) (i0:Nat),fS (rowOf P n) P.cellsOf o fs=some l→cs.length=o+l.length→(∀(i:Nat) (f:Field),fs[i]? =some f→ ∃z,DataW.trod enc P w 0 spare held m f.type ((cs.drop f.offset).take (P.cellsOf f.type))=some z)→
     ∃y:(DE l).D,Rd w (fun b=>b<w.heap.size) (DE l) (cs.drop o) y∧Vd (DE l) y:=by
    intro fs
    induction fs with
    |nil=>
     intro o l i0 hl hc _;simp only[fS,AD_]at hl;subst hl;refine⟨(),?_,trivial⟩;simp only[DE,Rd];simp at hc;simp[hc]
    |cons f fs ih=>
     intro o l i0 hl hc KZ;simp only[fS]at hl;split at hl
     case h_2=>cases hl
     rename_i l1 b1 hr;split at hl
     case isFalse=>cases hl
     rename_i hof;simp only[AEC]at hl;obtain⟨l2,r_,rfl⟩:=hl;obtain⟨z,hz⟩:=KZ 0 f rfl;obtain⟨y1,a1,a2⟩:=VJ n hr hz;obtain⟨y2,b1,b2⟩:=ih (o+l1.length) l2 0 r_ (by simp at hc;omega) (fun i f hf=>KZ (i+1) f (by simpa using hf));obtain⟨y,c1,c2⟩:=cB a1 b1 a2 b2;refine⟨y,?_,c2⟩;rw[hof.1,hof.2,←AHK,AG_]at c1;exact c1
   have:=key fs.toList 0 l 0 hl (by rw[hlen,cT];simp) (fun i f hf=>by
    have hf':fs[i]? =some f:=by simpa using hf
    have hil:i<xs.length:=by rw[hxs];exact(Array.getElem?_eq_some_iff.1 hf').1
    exact⟨xs[i],by rw[KZ i f hf'];exact AD9 hil⟩)
   simpa using this
  ·cases h
end
end Go.Fw
end
section
open Go.RowKit
namespace Go.Fw
def dO(W:World):Env:={ EY:=fun _=>0,Ei:=fun _=> .nilFunc,T:=fun b=>b<W.heap.size,S:=fun b=>b<W.heap.size }
abbrev ZO:CI:=⟨[(0,.c (.v .bool))],[]⟩
theorem kX{P:Program}{f:Nat}{CJ:List (Nat×XP)}{g:CI.V ⟨CJ,[]⟩→Option ZO.V}(hs:IY P f ⟨⟨CJ,[]⟩,ZO,g⟩){W:World}{args:Array Value}(x:DR.V CJ)(hlen:args.size=CJ.length)(ld:∀w':World,(∀c,c<W.heap.size→w'.heap[c]? =W.heap[c]?)→GI w')
  (hx:Hw (dO W) W [] id CJ x args.toList) (hg:g (x,())=some ((true,()),())):Calls P f args W fun e W' =>e= .returned (.bool true)∧Below W.heap.size W W':=by
 obtain⟨_,_,h⟩:=hs;refine(h (dO W) W (x,()) args _ hlen ⟨[],⟨rfl,fun k B F h=>by simp[FM.mk]at h⟩,by simp,by simp,by simp,fun _ h=>h,fun _ h=>h,ld⟩ hx hg).mono fun e W' hR=> ?_
 obtain⟨v,E',rfl,base,_,⟨⟨v',hv,hxr⟩,_⟩,_⟩:=hR;simp at hv;subst hv;have:v= .bool true:=by
  have h2:VR E' W' [] (.v .bool true) v:=hxr;exact LB h2
 subst this;exact⟨rfl,base.os,base.tape,base.output,base.size,fun k hk=>base.heap k hk⟩
theorem pg{W:World}{vw:List Bx}{s:Bool}{r:Ty}{v:Value}{y:List r.D}(h:Rd W (fun b=>b<W.heap.size) (.sl r) [v] y):XR (dO W) W vw (XP.mk id (.c (.sl s r)) y) v:=by
 show Rd W (if s then _ else _) (.sl r) [v] y
 cases s<;>exact h
end Go.Fw
end
section
namespace Go.Fw
def UW:List (Nat×NK)→Nat→Option NK
 |[],_=>none
 |(f,c)::l,g=>if f=g then some c else UW l g
def pJ(P:Program):List (Nat×NK)→Prop
 |[]=>True
 |q::l=>IY P q.1 q.2∧pJ P l
theorem Z0{P:Program}:∀{l:List (Nat×NK)},pJ P l→Ub P (UW l)
 |[],_=>fun f c e=>by cases e
 |(g,d)::l,h=>fun f c e=>by
  simp only[UW]at e;split at e
  ·rename_i hg
   cases e;subst hg;exact h.1
  ·exact Z0 h.2 f c e
theorem Zm{P:Program}{f:Nat}{fn:Func}(hf:P.funcs[f]? =some fn)(hn:(fn.name== "runtime.NumGoroutine")=false)(hb:fn.body.isNone=false)(args:Array Value)(w:World):
  (callFunc f args).run P w= .ok (.enter f args) w:=by
 have h1:fn.name≠ "runtime.NumGoroutine" :=by simpa using hn
 have h2:fn.body≠none:=by
  intro h;rw[h]at hb;cases hb
 simp[callFunc,hf,h1,h2]
def Vg(fn:Func)(c:NK):Bool:=
 !(
  fn.name== "runtime.NumGoroutine")&& !fn.body.isNone&&c.ok&&decide (c.ins.CJ.length≤fn.ntmps)&&(match fn.body with
  |some code=>decide (labels code).Nodup
  |none=>true)
theorem AFC{P:Program}{f:Nat}{fn:Func}{c:NK}(hf:P.funcs[f]? =some fn)(h:Vg fn c=true):AB6 P f fn c:=by
 simp only[Vg,AEF,AGK,AEK]at h;obtain⟨⟨⟨⟨h1,h2⟩,h3⟩,h4⟩,h5⟩:=h;refine⟨hf,Zm hf h1 h2,h3,h4,fun code hc=> ?_⟩;rw[hc]at h5;simpa using h5
def Ug(C:V_)(c:NK)(fn:Func)(J:Nat→Nat→St→Option c.outs.V):List Nat→Prop
 |[]=>True
 | ℓ ::l=>(∃(s:CI) (F:Nat→s.V→Option c.outs.V),(∀n,J n ℓ =jump c.ins.Dk.length s (F n))∧(∀v,F 0 v=none)∧
  ∀n v,∀ω,Hn C c fn (J n) ℓ ω (s.st fn.ntmps v)=F (n+1) v)∧Ug C c fn J l
theorem Ug.ok{C:V_}{c:NK}{fn:Func}{J:Nat→Nat→St→Option c.outs.V}:∀{l:ABC},Ug C c fn J l→ ∀ ℓ ∈l,∃(s:CI) (F:Nat→s.V→Option c.outs.V),(∀n,J n ℓ =jump c.ins.Dk.length s (F n))∧(∀v,F 0 v=none)∧
  ∀n v y,F (n+1) v=some y→ ∀ω,Hn C c fn (J n) ℓ ω (s.st fn.ntmps v)=some y
 |[],_,ℓ,h=>by cases h
 |k::l,hl,ℓ,h=>by
  rcases AEd.1 h with rfl|h
  ·obtain⟨⟨s,F,h1,h2,h3⟩,_⟩:=hl
   exact⟨s,F,h1,h2,fun n v y e ω=>(h3 n v ω).trans e⟩
  ·exact Ug.ok hl.2 ℓ h
def VS(fn:Func):ABC:=
 match fn.body with
 |some code=>labels code
 |none=>[]
def EN:List ACa→Nat→List Nat
 |[],_=>[]
 |(r,h)::l,q=>if r=q then h else EN l q
theorem mY{P:Program}{T:F9}{l:List (Nat×NK)}{hint:Nat→List Nat}{f:Nat}{fn:Func}{c:NK}(hT:C2 P T)(hm:P.follows .mixedOrders=true)(hf:P.funcs[f]? =some fn)(hl:pJ P l)(hc:Vg fn c=true)
  {J:Nat→Nat→St→Option c.outs.V} {L:ABC} (hL:VS fn=L) (hJ:Ug ⟨T,UW l,hint⟩ c fn J L) (n:Nat) (he:∀ω v,HJ ⟨T,UW l,hint⟩ c fn (J n) ω v=c.g v):IY P f c:=
 lr (C:=⟨T,UW l,hint⟩) hT (Z0 hl) hm (AFC hf hc) (J:=J) (fun code hb ℓ hℓ =>Ug.ok hJ ℓ (by
  rw[←hL];simp only[VS,hb];exact hℓ)) fun v u hg=>⟨n,fun ω=>(he ω v).trans hg⟩
end Go.Fw
end
section
namespace Go.M
abbrev Cg:Nat:=Go.Fw.Cg
def AX(x:Int):Int:=IntKind.wrap .i64 x
def w8(x:Int):Int:=IntKind.wrap .u8 x
def T4(κ:IntKind)(a b:Int):Int:=κ.wrap (BitVec.ofInt κ.bits a &&& BitVec.ofInt κ.bits b).toNat
def bOr(κ:IntKind)(a b:Int):Int:=κ.wrap (BitVec.ofInt κ.bits a ||| BitVec.ofInt κ.bits b).toNat
def wv(κ:IntKind)(a b:Int):Int:=κ.wrap (BitVec.ofInt κ.bits a ^^^ BitVec.ofInt κ.bits b).toNat
theorem Z9:∃n:Nat,2^64≤n:=⟨_,AE7 _⟩
noncomputable def Ar:Nat:=Classical.choose Z9
theorem VV:2^64≤Ar:=Classical.choose_spec Z9
end Go.M
end
section
namespace Go.Fw
structure SP (P:Program) where
 f:Nat
 c:NK
 h:IY P f c
def SP.l{P:Program}:List (SP P)→List (Nat×NK)
 |[]=>[]
 |s::l=>(s.f,s.c)::SP.l l
theorem jj{P:Program}:∀l:List (SP P),pJ P (SP.l l)
 |[]=>trivial
 |s::l=>⟨s.h,jj l⟩
@[reducible] def AP.Cu (R:Type):AP→Type
 | .dI _ rs=>QC rs→R
 | .v t=>t.D→R
 | .sl _ r=>List r.D→R
 | .fW r=>r.D→R
 | .Wm _ _=>Nat×Nat→R
 |_=>R
def AP.un{R:Type}:(p:AP)→p.Cu R→p.V→R
 | .dI _ _,f,x=>f x
 | .v _,f,x=>f x
 | .sl _ _,f,x=>f x
 | .fW _,f,x=>f x
 | .Wm _ _,f,x=>f x
 | .nil,f,_=>f
 | .ref _,f,_=>f
 | .ptr _ _,f,_=>f
 | .fn _ _,f,_=>f
 | .any,f,_=>f
@[reducible] def PQ.Cu (R:Type):List AP→Type
 |[]=>R
 |p::l=>p.Cu (PQ.Cu R l)
def PQ.un{R:Type}:(l:List AP)→PQ.Cu R l→PQ.V l→R
 |[],f,_=>f
 |p::l,f,x=>PQ.un l (p.un f x.1) x.2
@[reducible] def PV.Cu (R:Type):List (AP ⊕ List AP)→Type
 |[]=>R
 | .inl p::l=>p.Cu (PV.Cu R l)
 | .inr q::l=>PQ.Cu (PV.Cu R l) q
def PV.un{R:Type}:(l:List (AP ⊕ List AP))→PV.Cu R l→PV.V l→R
 |[],f,_=>f
 | .inl p::l,f,x=>PV.un l (p.un f x.1) x.2
 | .inr q::l,f,x=>PV.un l (PQ.un q f x.1) x.2
@[reducible] def XP.Cu (R:Type):XP→Type
 | .c p=>p.Cu R
 | .agg l=>PQ.Cu R l
 | .row r=>r.D→R
 | .Hd l=>PV.Cu R l
def XP.un{R:Type}:(p:XP)→p.Cu R→p.V→R
 | .c p,f,x=>p.un f x
 | .agg l,f,x=>PQ.un l f x
 | .row _,f,x=>f x
 | .Hd l,f,x=>PV.un l f x
@[reducible] def BP.Cu (R:Type):BP→Type
 | .mem l=>PQ.Cu R l
 | .sl _ r=>List r.D→R
 | .gone=>R
def BP.un{R:Type}:(p:BP)→p.Cu R→p.V→R
 | .mem l,f,x=>PQ.un l f x
 | .sl _ _,f,x=>f x
 | .gone,f,_=>f
@[reducible] def DR.Cu (R:Type):List (Nat×XP)→Type
 |[]=>R
 |(_,p)::l=>p.Cu (DR.Cu R l)
def DR.un{R:Type}:(l:List (Nat×XP))→DR.Cu R l→DR.V l→R
 |[],f,_=>f
 |(_,p)::l,f,x=>DR.un l (p.un f x.1) x.2
@[reducible] def FM.Cu (R:Type):List BP→Type
 |[]=>R
 |p::l=>p.Cu (FM.Cu R l)
def FM.un{R:Type}:(l:List BP)→FM.Cu R l→FM.V l→R
 |[],f,_=>f
 |p::l,f,x=>FM.un l (p.un f x.1) x.2
@[reducible] def CI.Cu (s:CI) (R:Type):Type:=DR.Cu (FM.Cu R s.Dk) s.CJ
def CI.un{R:Type}(s:CI)(f:s.Cu R)(v:s.V):R:=FM.un s.Dk (DR.un s.CJ f v.1) v.2
structure Lp (o:CI) where
 ℓ :Nat
 s:CI
 F:Nat→s.Cu (Option o.V)
def Pd{o:CI}(nb:Nat):List (Lp o)→Nat→Nat→St→Option o.V
 |[],_,_,_=>none
 |p::l,n,ℓ,σ=>if ℓ =p.ℓ then jump nb p.s (p.s.un (p.F n)) σ else Pd nb l n ℓ σ
inductive OW (C:V_) (c:NK) (fn:Func) (J:Nat→Nat→St→Option c.outs.V):List (Lp c.outs)→Prop
 |nil:OW C c fn J []
 |cons {ℓ :Nat} {s:CI} {F:Nat→s.Cu (Option c.outs.V)} {l:List (Lp c.outs)} (h0:∀v,s.un (F 0) v=none) (h1:∀n v ω,Hn C c fn (J n) ℓ ω (s.st fn.ntmps v)=s.un (F (n+1)) v) (h:OW C c fn J l):OW C c fn J (⟨ℓ,s,F⟩::l)
def Lp.ls{o:CI}:List (Lp o)→List Nat
 |[]=>[]
 |p::l=>p.ℓ ::Lp.ls l
theorem nF{o:CI}{nb:Nat}:∀{l:List (Lp o)} (n:Nat) {ℓ :Nat} (p:Lp o) (pre:List (Lp o)),ℓ =p.ℓ →(Lp.ls (pre++p::l)).Nodup→Pd nb (pre++p::l) n ℓ =jump nb p.s (p.s.un (p.F n))
 |l,n,ℓ,p,[],e,_=>by
  funext σ
  simp[Pd,e]
 |l,n,ℓ,p,q::pre,e,hn=>by
  funext σ
  have hq: ℓ ≠q.ℓ :=by
   intro h;simp only[AGD,Lp.ls,AGW]at hn;refine hn.1 ?_
   rw[←h,e];clear hn h e
   induction pre with
   |nil=>simp[Lp.ls]
   |cons a m ih=>simp[Lp.ls,ih]
  have:=congrFun (nF (nb:=nb) (l:=l) n p pre e (by simp only[AGD,Lp.ls,AGW]at hn;exact hn.2)) σ;simp only[AGD,Pd,AEB hq];exact this
theorem OW.ok{C:V_}{c:NK}{fn:Func}{nb:Nat}(hb:nb=c.ins.Dk.length){L:List (Lp c.outs)}(hn:(Lp.ls L).Nodup):∀{l pre:List (Lp c.outs)},L=pre++l→OW C c fn (Pd nb L) l→Ug C c fn (Pd nb L) (Lp.ls l)
 |[],_,_,_=>trivial
 |⟨ℓ,s,F⟩::l,pre,e,.cons h0 h1 h=>by
  refine⟨⟨s,fun n=>s.un (F n),fun n=> ?_,h0,fun n v ω=>h1 n v ω⟩,OW.ok hb hn (pre:=pre++[⟨ℓ,s,F⟩]) (by simp[e]) h⟩;subst hb;rw[e];exact nF n ⟨ℓ,s,F⟩ pre rfl (by rw[←e];exact hn)
def mkP{P:Program}{T:F9}(hT:C2 P T)(hm:P.follows .mixedOrders=true){f:Nat}{fn:Func}(hf:P.funcs[f]? =some fn)(i o:CI)(g:i.Cu (Option o.V))(l:List (SP P))(h:List ACa)(L:List (Lp o))(n:Nat)
  (hL:VS fn=Lp.ls L) (hd:decide (Lp.ls L).Nodup=true) (hc:Vg fn ⟨i,o,i.un g⟩=true)
  (hJ:OW ⟨T,UW (SP.l l),EN h⟩ ⟨i,o,i.un g⟩ fn (Pd i.Dk.length L) L)
  (he:∀ω v,HJ ⟨T,UW (SP.l l),EN h⟩ ⟨i,o,i.un g⟩ fn (Pd i.Dk.length L n) ω v=i.un g v):SP P:=
 ⟨f,⟨i,o,i.un g⟩,mY (l:=SP.l l) hT hm hf (jj l) hc (J:=Pd i.Dk.length L) (L:=Lp.ls L) hL (OW.ok rfl (by simpa using hd) (pre:=[]) rfl hJ) n he⟩
theorem AD{Q:List Bool→Prop}(a:Q [])(b:∀ω,Q (false::ω))(d:∀ω,Q (true::ω)):∀ω,Q ω
 |[]=>a
 |false::ω=>b ω
 |true::ω=>d ω
end Go.Fw
end
section
namespace Go.Fw
open Go.Proofs Go.Shelf Go.RowKit Go.Lib
structure wt (P:Program) (ρ:Ren) (nm:String) (fv:Func):Prop where
 mixed:P.follows .mixedOrders=true
 f22:P.funcs[ρ.f 22]? =some { Body2.n22 ρ with name:=nm }
 n22:(nm== "runtime.NumGoroutine")=false
 f29:P.funcs[ρ.f 29]? =some fv
 n29:(fv.name== "runtime.NumGoroutine")=false
 wh:fv.body.isNone=true
 e29:Extern.findNext fv=none
 x29:Extern.find fv=some (Extern.SlicesOverlaps.overlaps #[(ρ.t 24),(ρ.t 24)] #[(ρ.t 4)])
 t0:P.underlying (ρ.t 0)=some (TypeDesc.tuple #[])
 a0:∀w,(isAgg (ρ.t 0)).run P w= .ok false w
 z0:∀w,(Go.sizeOf (ρ.t 0)).run P w= .ok 1 w
 v0:∀w,(zeroValue (ρ.t 0)).run P w= .ok (Value.tuple #[]) w
 t3:P.underlying (ρ.t 3)=some (TypeDesc.int IntKind.i64)
 a3:∀w,(isAgg (ρ.t 3)).run P w= .ok false w
 z3:∀w,(Go.sizeOf (ρ.t 3)).run P w= .ok 1 w
 v3:∀w,(zeroValue (ρ.t 3)).run P w= .ok (Value.int IntKind.i64 0) w
 t4:P.underlying (ρ.t 4)=some (TypeDesc.bool)
 a4:∀w,(isAgg (ρ.t 4)).run P w= .ok false w
 z4:∀w,(Go.sizeOf (ρ.t 4)).run P w= .ok 1 w
 v4:∀w,(zeroValue (ρ.t 4)).run P w= .ok (Value.bool false) w
 t24:P.underlying (ρ.t 24)=some (TypeDesc.slice (ρ.t 9))
 a24:∀w,(isAgg (ρ.t 24)).run P w= .ok false w
 z24:∀w,(Go.sizeOf (ρ.t 24)).run P w= .ok 1 w
 v24:∀w,(zeroValue (ρ.t 24)).run P w= .ok (Value.slice none 0 0) w
section
variable{P:Program} {ρ:Ren} {nm:String} {fv:Func}
end
end Go.Fw
end
section
namespace Go.Fw
open Go.Proofs Go.Shelf Go.RowKit Go.Lib
def Flat(w:World)(r:Ty)(css:List (List Value))(rows:List r.D):Prop:=
 css.length=rows.length∧(∀c∈css,c.length=r.n)∧ ∀(i:Nat) cs y,css[i]? =some cs→rows[i]? =some y→Rd w (fun _=>False) r cs y
theorem Flat.take{w:World}{r:Ty}{css:List (List Value)}{rows:List r.D}(h:Flat w r css rows)(n:Nat):Flat w r (css.take n) (rows.take n):=by
 refine⟨by simp[h.1],fun c hc=>h.2.1 c (List.mem_of_mem_take hc),fun i cs y a b=> ?_⟩;rw[List.getElem?_take]at a b;split at a
 ·rename_i hi
  rw[AEA hi]at b;exact h.2.2 i cs y a b
 ·cases a
theorem Flat.drop{w:World}{r:Ty}{css:List (List Value)}{rows:List r.D}(h:Flat w r css rows)(n:Nat):Flat w r (css.drop n) (rows.drop n):=by
 refine⟨by simp[h.1],fun c hc=>h.2.1 c (List.mem_of_mem_drop hc),fun i cs y a b=> ?_⟩;rw[AGn]at a b;exact h.2.2 _ cs y a b
theorem Flat.append{w:World}{r:Ty}{css ess:List (List Value)}{rows ACY:List r.D}(h:Flat w r css rows)(k:Flat w r ess ACY):Flat w r (css++ess) (rows++ACY):=by
 refine⟨by simp[h.1,k.1],fun c hc=>(AEZ.1 hc).elim (h.2.1 c) (k.2.1 c),fun i cs y a b=> ?_⟩;by_cases hi:i<rows.length
 ·rw[AEG (by rw[h.1];exact hi)]at a
  rw[AEG hi]at b;exact h.2.2 i cs y a b
 ·rw[AES (by rw[h.1];omega)]at a
  rw[AES (by omega)]at b;rw[h.1]at a;exact k.2.2 _ cs y a b
theorem Flat.one{w:World}{r:Ty}(hf:r.flat=true){css:List (List Value)}{rows:List r.D}(h:Flat w r css rows):∀v∈css.flatten,v.oneCell' =true:=by
 intro v hv;obtain⟨c,hc,hv⟩:=AE5.1 hv;obtain⟨i,hi,rfl⟩:=AFr hc;have h1:=h.1;exact ZX (V3 (S:=fun _=>False) (d:=0) hf (h.2.2 i _ _ (AD9 hi) (AD9 (by omega)))) v hv
theorem Flat.at{w:World}{S:Nat→Prop}{d:Nat}{r:Ty}(hf:r.flat=true){css:List (List Value)}{rows:List r.D}(h:Flat w r css rows):DC w S d r css rows (List.replicate rows.length []):=DC.flat hf h.1 h.2.1 h.2.2
end Go.Fw
end
section
namespace Go.Fw
open Go.M Go.Proofs Go.Shelf Go.RowKit Go.Lib
structure AEp (P:Program) (ρ:Ren) (nm:String):Prop where
 mixed:P.follows .mixedOrders=true
 f24:P.funcs[ρ.f 24]? =some { Body2.n24 ρ with name:=nm }
 n24:(nm== "runtime.NumGoroutine")=false
 t0:P.underlying (ρ.t 0)=some (TypeDesc.tuple #[])
 a0:∀w,(isAgg (ρ.t 0)).run P w= .ok false w
 z0:∀w,(Go.sizeOf (ρ.t 0)).run P w= .ok 1 w
 v0:∀w,(zeroValue (ρ.t 0)).run P w= .ok (Value.tuple #[]) w
 t3:P.underlying (ρ.t 3)=some (TypeDesc.int IntKind.i64)
 a3:∀w,(isAgg (ρ.t 3)).run P w= .ok false w
 z3:∀w,(Go.sizeOf (ρ.t 3)).run P w= .ok 1 w
 v3:∀w,(zeroValue (ρ.t 3)).run P w= .ok (Value.int IntKind.i64 0) w
 t4:P.underlying (ρ.t 4)=some (TypeDesc.bool)
 a4:∀w,(isAgg (ρ.t 4)).run P w= .ok false w
 z4:∀w,(Go.sizeOf (ρ.t 4)).run P w= .ok 1 w
 v4:∀w,(zeroValue (ρ.t 4)).run P w= .ok (Value.bool false) w
 t24:P.underlying (ρ.t 24)=some (TypeDesc.slice (ρ.t 9))
 a24:∀w,(isAgg (ρ.t 24)).run P w= .ok false w
 z24:∀w,(Go.sizeOf (ρ.t 24)).run P w= .ok 1 w
 v24:∀w,(zeroValue (ρ.t 24)).run P w= .ok (Value.slice none 0 0) w
section
variable{P:Program} {ρ:Ren} {nm:String}
end
end Go.Fw
end
section
namespace Go.Fw
open Go.M Go.Proofs Go.Shelf Go.RowKit Go.Lib
theorem DC.take{w:World}{S:Nat→Prop}{d:Nat}{r:Ty}{css:List (List Value)}{rows:List r.D}{Fs:List ABC}(h:DC w S d r css rows Fs)(n:Nat):DC w S d r (css.take n) (rows.take n) (Fs.take n):=by
 refine⟨by simp[h.1],by simp[h.2.1],fun c hc=>h.2.2.1 c (List.mem_of_mem_take hc),fun i cs y G a b c=> ?_⟩;rw[List.getElem?_take]at a b c;split at a
 ·rename_i hi
  rw[AEA hi]at b c;exact h.2.2.2 i cs y G a b c
 ·cases a
theorem DC.drop{w:World}{S:Nat→Prop}{d:Nat}{r:Ty}{css:List (List Value)}{rows:List r.D}{Fs:List ABC}(h:DC w S d r css rows Fs)(n:Nat):DC w S d r (css.drop n) (rows.drop n) (Fs.drop n):=by
 refine⟨by simp[h.1],by simp[h.2.1],fun c hc=>h.2.2.1 c (List.mem_of_mem_drop hc),fun i cs y G a b c=> ?_⟩;rw[AGn]at a b c;exact h.2.2.2 _ cs y G a b c
end Go.Fw
end
section
namespace Go.Fw
open Go.M Go.Proofs Go.Shelf Go.RowKit Go.Lib
section
variable{P:Program} {ρ:Ren} {nm:String} {fv:Func}
theorem Ti{t:TypeId}{n:Nat}(h:(P.info? t).map (·.size)=some n):∀w,(Go.sizeOf t).run P w= .ok n w:=fun w=>by
 obtain⟨i,hi,rfl⟩:=AEC.1 h;simp[sizeOf,typeInfo,hi]
theorem YX{t:TypeId}{z:Value}(h:(P.info? t).bind (·.zero)=some z):∀w,(zeroValue t).run P w= .ok z w:=fun w=>by
 obtain⟨i,hi,hz⟩:=AED.1 h;simp[zeroValue,typeInfo,hi,hz]
structure uv (P:Program) (ρ:Ren):Prop where
 t0:P.underlying (ρ.t 0)=some (TypeDesc.tuple #[])
 t3:P.underlying (ρ.t 3)=some (TypeDesc.int IntKind.i64)
 t4:P.underlying (ρ.t 4)=some (TypeDesc.bool)
 t24:P.underlying (ρ.t 24)=some (TypeDesc.slice (ρ.t 9))
 s0:(P.info? (ρ.t 0)).map (·.size)=some 1
 s3:(P.info? (ρ.t 3)).map (·.size)=some 1
 s4:(P.info? (ρ.t 4)).map (·.size)=some 1
 s24:(P.info? (ρ.t 24)).map (·.size)=some 1
 v0:(P.info? (ρ.t 0)).bind (·.zero)=some (Value.tuple #[])
 v3:(P.info? (ρ.t 3)).bind (·.zero)=some (Value.int IntKind.i64 0)
 v4:(P.info? (ρ.t 4)).bind (·.zero)=some (Value.bool false)
 v24:(P.info? (ρ.t 24)).bind (·.zero)=some (Value.slice none 0 0)
theorem uv.ins(h:uv P ρ)(hm:P.follows .mixedOrders=true)(f22:P.funcs[ρ.f 22]? =some { Body2.n22 ρ with name:=nm })(n22:(nm== "runtime.NumGoroutine")=false)(f29:P.funcs[ρ.f 29]? =some fv)(n29:(fv.name== "runtime.NumGoroutine")=false)
  (wh:fv.body.isNone=true) (e29:Extern.findNext fv=none) (x29:Extern.find fv=some (Extern.SlicesOverlaps.overlaps #[(ρ.t 24),(ρ.t 24)] #[(ρ.t 4)])):wt P ρ nm fv:=
 ⟨hm,f22,n22,f29,n29,wh,e29,x29,h.t0,run_isAgg_plain h.t0 rfl,Ti h.s0,YX h.v0,h.t3,run_isAgg_plain h.t3 rfl,Ti h.s3,YX h.v3,h.t4,run_isAgg_plain h.t4 rfl,Ti h.s4,YX h.v4,h.t24,run_isAgg_plain h.t24 rfl,Ti h.s24,YX h.v24⟩
@[reducible] def Fo (f22 f24 f29 f30 t24 t9:Nat):Ren:=⟨fun k=>if k=22 then f22 else if k=24 then f24 else if k=29 then f29 else if k=30 then f30 else k,fun k=>if k=24 then t24 else if k=9 then t9 else k,fun k=>k⟩
end
end Go.Fw
end
section
namespace Go.Fw
open Go
def jH(n:Int):Option AAh:=if-9223372036854775808≤n∧n≤9223372036854775807 then some (Go.Lib.itoa n)else none
def Tj(s p:AAh):Option Bool:=if s.length<4294967281 then some (Go.Lib.contains s p)else none
def XN(s p:AAh):Option AAh:=some (Go.Lib.trimPrefix s p)
def su(s p:AAh):Option (List UInt8×List UInt8×Bool):=if s.length<4294967281 then some (Go.Lib.cut s p)else none
def dC(l:List AAh)(x:AAh):Option Int:=if l.length≤9223372036854775807 then some (Go.Lib.idxOfS (l.map fun y=>⟨y.toArray⟩) ⟨x.toArray⟩)else none
def CW(s:AAh)(most:Int):Option (Int×Bool):=
 if s.length≤1048576 then some (match Go.Lib.atoiAll s with
  | .ok v=>if 0≤v∧(s.length:Int)≤most∧Go.Lib.itoa v=s then(v,true)else(0,false)
  |_=>(0,false))else none
end Go.Fw
end
section
namespace Go.Fw
open Go.M Go.Proofs Go.Shelf Go.RowKit
theorem KP{P:Program}{f:Nat}{ins outs:List (Nat×XP)}{g:CI.V ⟨ins,[]⟩→Option (CI.V ⟨outs,[]⟩)}
  (IK:NK.ok ⟨⟨ins,[]⟩,⟨outs,[]⟩,g⟩=true) (kO:∀args w,(callFunc f args).run P w= .ok (.enter f args) w)
  (h:∀(E:Env) (w:World) (x:DR.V ins) (args:Array Value) (u:DR.V outs),args.size=ins.length→(∀w',Below w.heap.size w w'→GI w')→Hw E w [] id ins x args.toList→g (x,())=some (u,())→
   Calls P f args w fun e w' => ∃v,e= .returned v∧Below w.heap.size w w'∧Hw E w' [] id outs u [v]):
  IY P f ⟨⟨ins,[]⟩,⟨outs,[]⟩,g⟩:=by
 refine⟨IK,kO,fun E w v args u He hB hS hg=> ?_⟩;obtain⟨x,⟨⟩⟩:=v;obtain⟨u,⟨⟩⟩:=u;have hT:∀{w':World},Below w.heap.size w w'→ ∀c,E.T c→w'.heap[c]? =w.heap[c]?:=fun hb c hc=>hb.block c (hB.TN c hc)
 refine(h E w x args u He (fun w' hb=>hB.eK w' (hT hb)) hS hg).mono fun e w' hR=> ?_
 obtain⟨v,rfl,hb,hs⟩:=hR;exact⟨v,E,rfl,⟨fun _ h=>h,fun _ h=>h,fun _ h=> .inl h,fun _ h=> .inl h,hT hb,hb.os,hb.tape,hb.output,hb.size⟩,
  ⟨[],⟨rfl,fun k B F h=>by simp[FM.mk]at h⟩,by simp,by simp,by simp,hB.st,fun c hc=>AFI (hB.TN c hc) hb.size,hB.eK.mono (fun _ h=>h) (hT hb)⟩,hs,fun i hi=>by simp at hi⟩
theorem aM{w:World}(k:Nat)(os:Array Obj):Below w.heap.size w (Go.Sort.grow (w.drewN k) os):=
 ⟨rfl,rfl,rfl,by simp[Go.Sort.grow,World.drewN],fun c hc=>by
  show(w.heap++os)[c]? =_
  rw[Array.getElem?_append_left hc]⟩
theorem ABy{args:Array Value}{a:Value}(hl:args.size=1)(h:args.toList[0]? =some a):args= #[a]:=by
 apply AHN
 match hq:args.toList,(show args.toList.length=1 from hl)with
 |[b],_=>rw[hq]at h;simp at h;simp[h]
theorem fm{args:Array Value}{a b:Value}(hl:args.size=2)(h:args.toList[0]? =some a)(h2:args.toList[1]? =some b):args= #[a,b]:=by
 apply AHN
 match hq:args.toList,(show args.toList.length=2 from hl)with
 |[c,d],_=>rw[hq]at h h2;simp at h h2;simp[h,h2]
theorem nK{E:Env}{w:World}{vw:List Bx}{n:Int}{v:Value}(h:XR E w vw (.c (.v (.int .i64) n)) v):v= .int .i64 n:=by
 have:VR E w vw (.v (.int .i64) n) v:=h;simp only[VR,Rd,AEk,AFR]at this;exact this.2
theorem Sh{E:Env}{w:World}{vw:List Bx}{n:AAh}{v:Value}(h:XR E w vw (.c (.v .str n)) v):v= .string ⟨n.toArray⟩:=by
 have:VR E w vw (.v .str n) v:=h;simp only[VR,Rd,AEk,AFR]at this;exact this.2
abbrev sI:XP:= .c (.v (.int .i64))
abbrev sS:XP:= .c (.v .str)
abbrev sB:XP:= .c (.v .bool)
theorem iW{P:Program}{ρ:Ren}(L:LaysM.n171 P ρ)(kO:∀args w,(callFunc (ρ.f 171) args).run P w= .ok (.enter (ρ.f 171) args) w)(ld:∀w,GI w→Go.Lib.TabIs P w "internal/strconv.uint64pow10" .u64 Go.Lib.pow10Tab):
  IY P (ρ.f 171) ⟨⟨[(0,sI)],[]⟩,⟨[(0,sS)],[]⟩,fun v=>(jH v.1.1).map fun l=>((l,()),())⟩:=by
 refine KP rfl kO fun E w x args u He hG hS hg=> ?_
 obtain⟨n,⟨⟩⟩:=x;obtain⟨⟨v0,h0,x0⟩,_⟩:=hS;obtain rfl:=ABy He h0;obtain rfl:=nK x0;simp only[AEC]at hg;obtain⟨l,hl,hg⟩:=hg;unfold jH at hl;split at hl
 case isFalse=>cases hl
 rename_i hc;cases hl;cases hg;refine(Any.strconv_Itoa L n hc.1 hc.2 w (ld w (hG w (Below.refl _ _)))).mono fun e w' h=> ?_
 obtain⟨rfl,k,os,rfl⟩:=h;exact⟨_,rfl,aM k os,⟨_,rfl,rfl,rfl⟩,trivial⟩
theorem ZY{P:Program}{ρ:Ren}(L:Lays.n144 P ρ)(kO:∀args w,(callFunc (ρ.f 144) args).run P w= .ok (.enter (ρ.f 144) args) w)(ld:∀w:World,GI w→ ∃m,w.cell? ⟨ρ.g 1,0,none⟩=some (.int .i64 m)):
  IY P (ρ.f 144) ⟨⟨[(0,sS),(1,sS)],[]⟩,⟨[(0,sB)],[]⟩,fun v=>(Tj v.1.1 v.1.2.1).map fun l=>((l,()),())⟩:=by
 refine KP rfl kO fun E w x args u He hG hS hg=> ?_
 obtain⟨s,p,⟨⟩⟩:=x;obtain⟨⟨v0,h0,x0⟩,⟨v1,h1,x1⟩,_⟩:=hS;obtain rfl:=fm He h0 h1;obtain rfl:=Sh x0;obtain rfl:=Sh x1;simp only[AEC]at hg;obtain⟨l,hl,hg⟩:=hg;unfold Tj at hl;split at hl
 case isFalse=>cases hl
 rename_i hc;cases hl;cases hg;obtain⟨m,hm⟩:=ld w (hG w (Below.refl _ _));refine(Any.strings_Contains L ⟨s.toArray⟩ ⟨p.toArray⟩ m w (by simpa[ByteArray.size]using hc) hm).mono fun e w' h=> ?_
 obtain⟨rfl,rfl⟩:=h;exact⟨_,rfl,Below.refl _ _,⟨_,rfl,rfl,rfl⟩,trivial⟩
theorem WO{P:Program}{ρ:Ren}(L:Lays.n101 P ρ)(kO:∀args w,(callFunc (ρ.f 101) args).run P w= .ok (.enter (ρ.f 101) args) w):
  IY P (ρ.f 101) ⟨⟨[(0,sS),(1,sS)],[]⟩,⟨[(0,sS)],[]⟩,fun v=>(XN v.1.1 v.1.2.1).map fun l=>((l,()),())⟩:=by
 refine KP rfl kO fun E w x args u He hG hS hg=> ?_
 obtain⟨s,p,⟨⟩⟩:=x;obtain⟨⟨v0,h0,x0⟩,⟨v1,h1,x1⟩,_⟩:=hS;obtain rfl:=fm He h0 h1;obtain rfl:=Sh x0;obtain rfl:=Sh x1;cases hg;refine(Any.strings_TrimPrefix L ⟨s.toArray⟩ ⟨p.toArray⟩ w).mono fun e w' h=> ?_
 obtain⟨rfl,rfl⟩:=h;exact⟨_,rfl,Below.refl _ _,⟨_,rfl,rfl,rfl⟩,trivial⟩
theorem kp{P:Program}{ρ:Ren}(L:Lays.n145 P ρ)(kO:∀args w,(callFunc (ρ.f 145) args).run P w= .ok (.enter (ρ.f 145) args) w)(ld:∀w:World,GI w→ ∃m,w.cell? ⟨ρ.g 1,0,none⟩=some (.int .i64 m)):
  IY P (ρ.f 145) ⟨⟨[(0,sS),(1,sS)],[]⟩,⟨[(0,.Hd [.inl (.v .str),.inl (.v .str),.inl (.v .bool)])],[]⟩,fun v=>(su v.1.1 v.1.2.1).map fun l=>(((l.1,l.2.1,l.2.2,()),()),())⟩:=by
 refine KP rfl kO fun E w x args u He hG hS hg=> ?_
 obtain⟨s,p,⟨⟩⟩:=x;obtain⟨⟨v0,h0,x0⟩,⟨v1,h1,x1⟩,_⟩:=hS;obtain rfl:=fm He h0 h1;obtain rfl:=Sh x0;obtain rfl:=Sh x1;simp only[AEC]at hg;obtain⟨l,hl,hg⟩:=hg;unfold su at hl;split at hl
 case isFalse=>cases hl
 rename_i hc;cases hl;cases hg;obtain⟨m,hm⟩:=ld w (hG w (Below.refl _ _));refine(Any.strings_Cut L ⟨s.toArray⟩ ⟨p.toArray⟩ m w (by simpa[ByteArray.size]using hc) hm).mono fun e w' h=> ?_
 obtain⟨rfl,n,rfl⟩:=h;exact⟨_,rfl,⟨rfl,rfl,rfl,AE7 _,fun _ _=>rfl⟩,⟨_,rfl,_,rfl,⟨rfl,rfl⟩,⟨rfl,rfl⟩,⟨rfl,rfl⟩,trivial⟩,trivial⟩
theorem ew{P:Program}{ρ:Ren}(L:Lays.n109 P ρ)(kO:∀args w,(callFunc (ρ.f 109) args).run P w= .ok (.enter (ρ.f 109) args) w):
  IY P (ρ.f 109) ⟨⟨[(0,.c (.sl false .str)),(1,sS)],[]⟩,⟨[(0,sI)],[]⟩,fun v=>(dC v.1.1 v.1.2.1).map fun l=>((l,()),())⟩:=by
 refine KP rfl kO fun E w x args u He hG hS hg=> ?_
 obtain⟨s,p,⟨⟩⟩:=x;obtain⟨⟨v0,h0,x0⟩,⟨v1,h1,x1⟩,_⟩:=hS;obtain rfl:=fm He h0 h1;obtain rfl:=Sh x1;simp only[AEC]at hg;obtain⟨l,hl,hg⟩:=hg;unfold dC at hl;split at hl
 case isFalse=>cases hl
 rename_i hc;cases hl;cases hg;have x0':VR E w [] (.sl false .str s) v0:=x0;simp only[VR,Rd]at x0';obtain⟨a,cap,e,hle,hr⟩:=x0';simp only[AEk,AFR]at e;subst e;by_cases hn:s.length=0
 ·obtain rfl:=AEg hn
  refine(Any.slices_Index_string_empty L a cap ⟨p.toArray⟩ w).mono fun e w' h=> ?_
  obtain⟨rfl,rfl⟩:=h;exact⟨_,rfl,Below.refl _ _,⟨_,rfl,rfl,rfl⟩,trivial⟩
 rcases hr with hr|⟨b,o,rfl,_,hr⟩
 ·exact absurd hr hn
 refine(Any.slices_Index_string L b o s.length cap (s.map fun y=>⟨y.toArray⟩) ⟨p.toArray⟩ w (by simp) hc (fun j hj=> ?_)).mono fun e w' h=> ?_
 ·simp only[AGc]at hj
  obtain⟨cs,cT,hce,hcr⟩:=hr j _ (AD9 hj);subst hcr;have:=hce 0 _ rfl;simp[Ty.n]at this;simp[this,hj]
 ·obtain⟨rfl,rfl⟩:=h
  refine⟨_,rfl,Below.refl _ _,⟨_,rfl,rfl,?_⟩,trivial⟩;rw[AF7 (by simp)];rfl
theorem WZ{P:Program}{f:Nat}(kO:∀args w,(callFunc f args).run P w= .ok (.enter f args) w)
  (hc:∀(s:ByteArray) (m:Int) (w:World),s.size≤1048576→(∀w',Below w.heap.size w w'→GI w')→
   Calls P f #[.string s,.int .i64 m] w fun e w' =>(∃a b,CW s.data.toList m=some (a,b)∧e= .returned (.tuple #[.int .i64 a,.bool b]))∧Below w.heap.size w w'):
  IY P f ⟨⟨[(0,sS),(1,sI)],[]⟩,⟨[(0,.Hd [.inl (.v (.int .i64)),.inl (.v .bool)])],[]⟩,fun v=>(CW v.1.1 v.1.2.1).map fun l=>(((l.1,l.2,()),()),())⟩:=by
 refine KP rfl kO fun E w x args u He hG hS hg=> ?_
 obtain⟨s,p,⟨⟩⟩:=x;obtain⟨⟨v0,h0,x0⟩,⟨v1,h1,x1⟩,_⟩:=hS;obtain rfl:=fm He h0 h1;obtain rfl:=Sh x0;obtain rfl:=nK x1;simp only[AEC]at hg;obtain⟨l,hl,hg⟩:=hg;have hs:s.length≤1048576:=by
  unfold CW at hl;split at hl
  ·assumption
  ·cases hl
 cases hg;refine(hc ⟨s.toArray⟩ p w (by simpa[ByteArray.size]using hs) hG).mono fun e w' h=> ?_
 obtain⟨⟨a,b,e1,rfl⟩,hb⟩:=h;have e2:CW s p=some (a,b):=by simpa using e1
 obtain rfl:=AGR (hl.symm.trans e2);exact⟨_,rfl,hb,⟨_,rfl,_,rfl,⟨rfl,rfl⟩,⟨rfl,rfl⟩,trivial⟩,trivial⟩
def txP{P:Program}{f f':Nat}{i o:CI}{F:i.V→Option o.V}(h:IY P f' ⟨i,o,F⟩)(hf:f' =f)(g:i.Cu (Option o.V))(hg:∀v:i.V,i.un g v=F v):SP P:=
 ⟨f,⟨i,o,i.un g⟩,by rw[funext hg,←hf];exact h⟩
end Go.Fw
end
section
namespace Go.Fw
open Go Go.RowKit
theorem bX{H:Type}{enc:TypeId×Value→H}{a:Assume}{C:Checked}{os:Os}{f:FuncId}{fn:Func}{s:ChangeSpec}{conds:List PathCond}{apart fresh handsOn again:Bool}{X:World→Array Value→Prop}
  (hX:∀(w w':World) (args:Array Value),w.heap=w'.heap→X w args→X w' args)
  (own:ownKnob C.prog.godebug=none) (started:os.Started) (xp:C.prog.inits.idxOf? f=none) (hfn:C.prog.funcs[f]? =some fn)
  (witness:∃(w:World) (tape:Tape) (i:Input),w.os=os∧(w.forCall tape i).Shaped C.prog∧i.vars=[]∧Input.okWide C.prog (w.forCall tape i) .any w.heap.size f i∧
   ((s.pre enc C.prog fn conds apart (w.forCall tape i).memory i.args∧X (w.forCall tape i).memory i.args)∧sizedMet enc C.prog fn (OpenSpec.ofChange s) apart (w.forCall tape i).memory i.args)∧a.holds C.prog (lone (Frame.enter C.prog f i.args .normal) [] (w.forCall tape i)))
  (mM:∀(W:World) (base:Nat) (args:Array Value) (ds gs:List (DataW H)) (before:List MemPlace),
   (∀(j:Nat) t v,fn.params[j]? =some t→args[j]? =some v→Value.okWide C.prog W .any base t v)→
   DataW.Whole enc C.prog fn.params.toList s.vars apart W args.toList ds gs before→X W args→W.ShapedOpen C.prog→
   Calls C.prog f args W fun e W' => ∃v,e= .returned v∧s.post enc C.prog fn apart fresh handsOn again W args v W'):
  ReturnsInHanded a C os f .any (fun w args=>(s.pre enc C.prog fn conds apart w args∧X w args)∧sizedMet enc C.prog fn (OpenSpec.ofChange s) apart w args) (s.post enc C.prog fn apart fresh handsOn again):=by
 refine returnsInHanded_of_calls own started xp witness ?_
 intro w tape i _ hsh _ IK AF8 _;obtain⟨_,_,_,fn',hfn',_,_,_,_,oX⟩:=IK;have e:fn' =fn:=AGR (hfn'.symm.trans hfn);subst e;obtain⟨⟨⟨ds,gs,before,hw,hc⟩,hx⟩,hz⟩:=AF8;have oC:=DataW.Whole.of_heap (w':=w.forCall tape i) (by rfl) hw;refine(mM (w.forCall tape i) w.heap.size i.args ds gs before oX oC (hX _ _ _ (by rfl) hx) hsh).mono fun e W' ⟨v,he,hp⟩=> ?_
 subst he;exact ChangeSpec.post_blind hp
theorem Zo{P:Program}{n nm:String}{d:DataW Unit}{r:List (String×DataW Unit)}{W:World}{g:Nat}{ti:TypeId}{ms:Array (String×TypeId)}
  (h:laidMet P ((n,.iface nm d)::r) W) (hg:P.globalNamed n=some g) (ht:(P.globals[g]?).map (·.type)=some ti) (hi:P.underlying ti=some (.interface ms)):Sn W g:=by
 obtain⟨ps,⟨g0,t0,cs0,f0,p0,q0,hg0,da,hv0,hd0,_,e0⟩,_,Qm⟩:=h;obtain rfl:=AGR (hg.symm.trans hg0);obtain rfl:=AGR (ht.symm.trans da);obtain⟨f1,u,v,e,_⟩:=Go.iface_of_trod hi hd0;refine⟨.iface u v,?_,.inr ⟨u,v,rfl⟩⟩;have:=World.var?_cell hg0 hv0 0
 have e':cs0= #[.iface u v]:=by
  obtain⟨l⟩:=cs0;simp only at e;rw[e]
 rw[e']at this;simpa using this
end Go.Fw
end
