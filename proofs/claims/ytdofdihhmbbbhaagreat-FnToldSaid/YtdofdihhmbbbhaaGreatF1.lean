/- The framework, part 2: a checked interpreter of the model's code over abstract states; no claim is made here. -/
import Derived.Test.YtdofdihhmbbbhaaGreatF0
import Derived.Below
import Derived.ChangeArms
import Derived.ChangeOld
import Derived.DataReads
import Derived.OrdersHeld
import Derived.Shelf.Slices.Delete
import Derived.Shelf.Spec.SlicesInsertGrow
import Derived.Tactics
set_option linter.unusedVariables false
set_option linter.unusedSimpArgs false
set_option linter.unusedSectionVars false
section
namespace Go.Fw
theorem dx{E:Env}{w:World}{vw:List Bx}:∀{l:List XV} {bs:AAU} {vs:List Value},kF l=some bs→Bj (XR E w vw) l vs→(∀b∈bs,b<vw.length)∧vs=bs.map fun b=>Value.pointer (some ⟨E.Fc b,0,none⟩)
 |[],bs,vs,e,h=>by
  simp only[kF,AGL]at e;subst e;cases vs with
  |nil=>exact⟨by simp,rfl⟩
  |cons _ _=>exact h.elim
 |x::l,bs,vs,e,h=>by
  unfold kF at e;split at e
  ·rename_i heq;cases heq
  ·rename_i b l' heq
   cases heq;simp only[AGV]at e;obtain⟨r,e1,rfl⟩:=e;cases vs with
   |nil=>exact h.elim
   |cons v vs=>
    obtain⟨h1,h2⟩:=h;obtain⟨k1,k2⟩:=dx e1 h2;obtain⟨h3,h4⟩:b<vw.length∧v= .pointer (some ⟨E.Fc b,0,none⟩):=h1;exact⟨fun c hc=>(AIU.1 hc).elim (fun e=>e▸h3) (k1 c),by rw[h4,k2];rfl⟩
  ·cases e
theorem evs{E:Env}{σ:St}{a:Act}{w:World}(h:Rel E σ a w):∀l:List Operand,Bj (XR E w σ.bx) (l.map σ.ev) (l.map a.eval)
 |[]=>trivial
 |x::l=>⟨h.ev x,evs h l⟩
theorem mU{E:Env}{σ:St}{a:Act}{w:World}(h:Rel E σ a w):∀o:Option Operand,OR E w σ.bx (o.map σ.ev) (o.map a.eval)
 |none=>trivial
 |some x=>h.ev x
theorem kR{w:World}{S:Nat→Prop}:∀{p:List ae} {d:Nat} {r:Ty} {h:Value} {rows:List r.D} {F:AAU} {q:Ty} {ys:List q.D} {v:Value},Ow w S d (.sl r) [h] rows F→CJ r rows p→
  EY r rows p=some ⟨q,ys⟩→d≤p.length→Gw w h p=some v→Rd w S (.sl q) [v] ys
 |p,0,r,h,rows,F,q,ys,v,ho,hp,hg,_,hv=>by
  simp only[Ow]at ho;obtain⟨h',k,hr⟩:=bl ho.1 hp hg;have:=k w (fun _ _=>rfl);rw[hv]at this;cases this;exact hr
 |[],d+1,r,h,rows,F,q,ys,v,ho,hp,hg,hd,hv=>by simp at hd
 |s::p,d+1,r,h,rows,F,q,ys,v,ho,hp,hg,hd,hv=>by
  simp only[CJ]at hp;obtain⟨hi,LW,hp⟩:=hp;simp only[EY]at hg;obtain⟨a,len,cap,rfl⟩:∃a len cap,h= .slice a len cap:=by
   have:=ho;simp only[Ow]at this;obtain⟨a,cap,e,_⟩:=this;simp only[AId,AJo]at e;exact⟨_,_,_,e⟩
  split at hg
  case h_2=>cases hg
  rename_i q' x' WC;rw[WC]at hp;obtain⟨b,o,arr,ty,fr,cs,G,R,rfl,hb,hu,hbd,c1,c2,c3,aO,hback⟩:=iD ho hi;obtain⟨u,A1,A2,k1,k2,k3,k4⟩:=WW c3 WC;simp only[Gw]at hv;rw[LW,c2 _ _ k1]at hv;exact kR k2 hp hg (by simp at hd;omega) hv
theorem lf{E:Env}{σ:St}{a:Act}{w:World}(h:Rel E σ a w){b i sz j:Nat}{p:List ae}{va v:Value}(wI:VR E w σ.bx (.Gq b p i sz j) va){x:XV}(hv:XR E w σ.bx x v)(h1c:∀u∈v.cells.toList,u.oneCell' =true)
  {σ':St} (e:NB σ (.c (.Gq b p i sz j)) x=some σ'):
  ∃bb oo E',va= .pointer (some ⟨bb,oo,none⟩)∧w.there bb oo v.cells.toList.length∧Rel E' σ' a (w.setCells bb oo v.cells.toList)∧MV [b] E σ.bx w E' σ'.bx (w.setCells bb oo v.cells.toList)∧σ'.tm.length=σ.tm.length:=by
 unfold NB Ts at e;split at e
 ·rename_i b0 _ _ _ _ b' s p' off n heq
  cases heq;split at e
  case isFalse=>cases e
  rename_i sW;subst sW;split at e
  case h_2=>cases e
  rename_i d r rows hb;simp only[AGs,AGV]at e;obtain⟨q,⟨⟨q0,ys⟩,hg,rfl⟩,e⟩:=e;dsimp only at e;have Dl:=(AF9.1 hb).1;obtain⟨F,⟨hd1,ho⟩,hB⟩:=h.bx.take hb;obtain⟨A,W,pF,ho2⟩:=HJ (d:=min d (p'.length+1)) (by omega) ho;have Ql:=hB.perm (G':=A++W++[]) (by rw[AH7,AH7];exact pF);obtain⟨hle,hB3⟩:=Ql.share
  generalize hE1:({ E with S:=fun c=>E.S c∨c∈W,T:=fun c=>E.T c∨c∈W }:Env)=E1 at hle hB3
  have ho3:Ow w E1.S (min d (p'.length+1)) (.sl r) [E1.Fq b'] rows A:=by
   rw[hle.Fq];subst hE1;exact ho2
  have hB4:=hB3.put (b:=b') (B:= .sl (min d (p'.length+1)) r rows) (by rw[AH0 Dl]) ⟨by omega,ho3⟩;rw[ALg]at hB4;have hk:Nk E w σ.bx E1 w (σ.bx.set b' (.sl (min d (p'.length+1)) r rows)):=by
   refine⟨by simp,fun _ _=>by rw[hle.Fc],hle.T,hle.S,h.bx.st,fun _ _=>rfl,fun c d' r' B3 hc e=> ?_⟩;by_cases pe:b' =c
   ·subst pe
    rw[AH0 Dl]at e;simp only[AGL,Bx.sl.injEq]at e;obtain⟨rfl,rfl,e⟩:=e;obtain rfl:=AIe e;exact⟨d,rows,hb,fun p hp q ys hg=>⟨hp,⟨ys,hg,rfl⟩,fun h' hh=>by rw[hle.Fq];exact hh⟩⟩
   ·rw[AHF pe]at e
    exact⟨d',B3,e,fun p hp q ys hg=>⟨hp,⟨ys,hg,rfl⟩,fun h' hh=>by rw[hle.Fq];exact hh⟩⟩
  have U5:VR E w σ.bx (.VP b' (s::p') off n) v:=hv;have UA:XR E1 w (σ.bx.set b' (.sl (min d (p'.length+1)) r rows)) (.c (.sl true q0 ((ys.drop off).take n))) v:=by
   simp only[VR,hb]at U5;obtain⟨_,hp,q1,ys1,a1,len,cap,g1,g2,g3,rfl⟩:=U5;rw[hg]at g1;simp only[AGL,AIM]at g1;obtain⟨rfl,g1⟩:=g1;obtain rfl:=AIe g1;have:=kR ho3 hp hg (by simp only[AHh];omega) (by rw[hle.Fq];exact g3);exact lP this g2
  have hr:Rel E1 { σ with bx:=σ.bx.set b' (.sl (min d (p'.length+1)) r rows) } a w:=
   ⟨h.Jq,h.tm.imp fun _ _ hx=>Ku hk hx,hB4.turn (E':=E1) (w':=w) (fun _ _ hv=>D_ ⟨by simp,fun _ _=>rfl,fun _ h=>h,fun _ h=>h,hB3.st,fun _ _=>rfl,fun c d' r' B3 hc e=>by
    by_cases pe:b' =c
    ·subst pe
     rw[AH0 Dl]at e;simp only[AGL,Bx.sl.injEq]at e;obtain⟨rfl,rfl,e⟩:=e;obtain rfl:=AIe e;exact⟨d,rows,hb,fun p hp q ys hg=>⟨hp,⟨ys,hg,rfl⟩,fun h' hh=>hh⟩⟩
    ·rw[AHF pe]at e
     exact⟨d',B3,e,fun p hp q ys hg=>⟨hp,⟨ys,hg,rfl⟩,fun h' hh=>hh⟩⟩⟩ hv) (fun _ h=>h) (fun _ _=>rfl) (fun _ _=>rfl) (fun _ _ _=>rfl) fun F hF=>hF⟩
  obtain⟨bb,oo,E',q1,q2,q3,q4,q5⟩:=gH hr (D_ hk wI) UA h1c e;refine⟨bb,oo,E',q1,q2,q3,⟨(hle.base w).trans q4.base,by simpa using q4.len,fun c hc=> ?_,fun c hc=> ?_,fun c B B' hct hB NQ hd=> ?_⟩,q5⟩
  ·have:=q4.ids c (by simpa using hc)
   exact⟨this.1.trans (by rw[hle.Fc]),this.2.trans (by rw[hle.Fq])⟩
  ·refine q4.dead c ?_
   have pe:b'≠c:=fun e=>by subst e;rw[hb]at hc;cases hc
   simp only;rw[AHF pe];exact hc
  ·have pe:b'≠c:=fun e=>hct (by simp[e])
   obtain⟨f1,f2⟩:=q4.frame c B B' hct (by simp only;rw[AHF pe];exact hB) NQ hd;refine⟨f1,fun c' W7=>f2 c' ?_⟩;cases B with
   |mem cs=>exact W7.trans (by rw[hle.Fc])
   |sl d0 r0 L9=>simp only[kt]at W7⊢;rw[hle.Fq];exact W7
   |dead=>exact W7
 ·simp only[AGR]at e
  exact gH h wI hv h1c e
def ea:Op→Bool
 | .call { callee:= .value _,.. }=>true
 |_=>false
section
variable{Y:Type} {P:Program} {T:HE} (hT:DY P T) {o:Oper} {E:Env} {σ:St} {a:Act} {w:World} {k:K Y} {y:Y}
include hT
theorem lL(h:Rel E σ a w){t:TypeId}{oa ox:Operand}(ho:o.op= .store t oa ox){ti:TI}(Mu:T.get t=some ti)
  (hc:(σ.ev ox).cells.length=ti.size∧ti.size≠0∧(σ.ev ox).cells.all AV.known=true) {σ':St} (hs:NB σ (σ.ev oa) (σ.ev ox)=some σ') (e:k (.c .undef) σ' =some y):IF P o E σ a w k y:=by
 obtain⟨c1,c2,c3⟩:=hc;have YU:(σ.ev ox).cells≠[]:=fun hh=>by rw[hh]at c1;exact c2 c1.symm
 obtain⟨RH,h1c⟩:=eN (h.ev ox) c3 YU;have hlen:(a.eval ox).cells.toList.length=ti.size:=by rw[←Bj.len RH];exact c1
 have hi:(P.info? t).map (·.size)=some (a.eval ox).cells.toList.length:=by rw[hlen];exact DY.size hT Mu
 have wI:=h.ev oa;have fin:∀{bb oo:Nat} {E':Env},a.eval oa= .pointer (some ⟨bb,oo,none⟩)→w.there bb oo (a.eval ox).cells.toList.length→Rel E' σ' a (w.setCells bb oo (a.eval ox).cells.toList)→
   MV (GA (fun _=>none) σ o.op) E σ.bx w E' σ'.bx (w.setCells bb oo (a.eval ox).cells.toList)→σ'.tm.length=σ.tm.length→IF P o E σ a w k y:=by
  intro bb oo E' e1 e2 e3 e4 e5;have hr:=bM (P:=P) e2 hi h1c;refine⟨undef,_,E',.c .undef,σ',.inr ⟨?_,rfl⟩,e3,trivial,e4,e5,e⟩;simp only[execOp,ho,e1,Sem.run_bind,hr,Result.andThen_ok,Sem.run_pure]
 generalize hxa:σ.ev oa=xa at hs wI
 cases xa with
 |agg l=>simp[NB,Ts,XZ]at hs
 |Jy l=>simp[NB,Ts,XZ]at hs
 |c x=>
  cases x with
  |FW b j=>
   simp only[NB,Ts,AGR,XZ]at hs;split at hs
   case h_2=>cases hs
   rename_i cs hb;simp only[AGV]at hs;obtain⟨VB,hs,rfl⟩:=hs;have AKn:b<σ.bx.length∧a.eval oa= .pointer (some ⟨E.Fc b,j,none⟩):=wI;obtain⟨q1,q2,q3⟩:=oJ h hb RH YU hs;exact fin AKn.2 q1 q2 (by rw[ho];simp only[GA,hxa];exact q3) rfl
  |Gq b p i sz j=>
   obtain⟨bb,oo,E',q1,q2,q3,q4,q5⟩:=lf h wI (h.ev ox) h1c hs;exact fin q1 q2 q3 (by rw[ho];simp only[GA,hxa];exact q4) q5
  |_=>simp[NB,Ts,XZ]at hs
omit hT in
theorem kQ(h:Rel E σ a w){x:Operand}(ho:o.op= .assign x)(e:Un σ (σ.ev x) k=some y):IF P o E σ a w k y:=by
 have hr:(execOp a.eval o).run P w= .ok (.value (a.eval x)) w:=by simp only[execOp,ho,Sem.run_pure]
 have hv:=h.ev x;unfold Un at e;split at e
 ·rename_i b off n hx
  rw[hx]at hv;simp only[AGs]at e;obtain⟨⟨r,rows,bx,d⟩,e1,e⟩:=e;dsimp only at e;have VD:VR E w σ.bx (.VP b [] off n) (a.eval x):=hv;obtain⟨hd,F1,F2,k1,ho1⟩:=XB h.bx (DO.refl _) VD e1;obtain⟨Fs0,hB1,Ql⟩:=k1.boxes;simp only[AH7]at Ql;have nd:=(AHW.1 (AHW.1 Ql.nodup).2.1).1;obtain⟨r1,r2,r3⟩:=OO h k1 (w':=w) hd ho1 (fun c hc=> .inl (AHp.2 (.inl hc))) nd (fun c hc=>Ql.lt c (by simp[hc])) (fun _ _ _=>rfl) ⟨rfl,rfl,rfl,AIi _⟩;exact⟨_,_,_,_,_,.inl hr,r1,r3,r2.any,rfl,e⟩
 ·exact IF.same h hr hv e
theorem oc{Γ:Nat→Option PQ}(h:Rel E σ a w)(e:Qz T Γ o σ k=some y)(gN:ea o.op=false):IF P o E σ a w k y:=by
 have same:∀{v:Value} {x:XV},(execOp a.eval o).run P w= .ok (.value v) w→XR E w σ.bx x v→k x σ=some y→IF P o E σ a w k y:=fun h1 h2 h3=>IF.same h h1 h2 h3
 obtain⟨Fs,hB,hS⟩:=h.bx;have st:=hS.st;unfold Qz at e;split at e
 ·rename_i x ho
  exact same (v:=a.eval x) (by simp only[execOp,ho,Sem.run_pure]) (h.ev x) e
 ·rename_i x ho
  exact kQ h ho e
 ·rename_i c xa xb ho
  split at e
  case h_2=>cases e
  rename_i p hp;have hc:=h.ev c;rw[hp]at hc;have W7:=Mb (E:=E) (w:=w) (vw:=σ.bx) hc;refine same (v:=if p then a.eval xa else a.eval xb) (x:=if p then σ.ev xa else σ.ev xb) (by simp[execOp,ho,W7,asBool]) (by cases p<;>simp[h.ev]) ?_
  cases p<;>simpa[r8]using e
 ·rename_i t ho
  split at e
  case h_2=>cases e
  rename_i r hr;exact lU hT h ho hr e
 ·rename_i t x ho
  split at e
  case h_2=>cases e
  rename_i ti Mu;split at e
  case isFalse=>cases e
  rename_i hc;exact rY h ho hc.2.2 (fun hh=>by rw[hh]at hc;exact hc.2.1 hc.1.symm) e
 ·rename_i t ps ho
  split at e
  case h_2=>cases e
  rename_i s b fs rw r Mu hr;split at e
  case h_2=>cases e
  rename_i cs pd;exact k_ hT h ho Mu hr pd e
 ·rename_i t n ps ho
  exact aj hT h ho e
 ·rename_i t x ho
  split at e
  case h_2=>cases e
  rename_i z hz;obtain⟨u,h1,h2⟩:=kK hT hB st hz (h.ev x);exact same (by simp only[execOp,ho,Sem.run_bind,h1,Result.andThen_ok,Sem.run_pure]) h2 e
 ·rename_i t xa xx ho
  split at e
  case h_2=>cases e
  rename_i ti Mu;split at e
  case isFalse=>cases e
  rename_i hc;split at e
  case h_2=>cases e
  rename_i σ' hs;exact lL hT h ho Mu hc hs e
 ·rename_i x ho
  have hx:=h.ev x;split at e
  ·rename_i b j hp
   rw[hp]at hx;have ks:b<σ.bx.length∧a.eval x= .pointer (some ⟨E.Fc b,j,none⟩):=hx;exact same (v:=a.eval x) (by simp only[execOp,ho,ks.2,Sem.run_pure]) hx e
  ·rename_i b p i sz j hp
   rw[hp]at hx;have qT:Uy (a.eval x)=true:=hx.1;refine same (v:=a.eval x) ?_ hx e
   unfold Uy at qT;split at qT
   ·rename_i hv
    simp only[execOp,ho,hv,Sem.run_pure]
   ·cases qT
  ·rename_i s r z j hp
   rw[hp]at hx;obtain⟨bb,oo,cs,hv,hrest⟩:=hx;exact same (v:=a.eval x) (x:= .c (.J4 s r z j)) (by simp only[execOp,ho,hv,Sem.run_pure]) ⟨bb,oo,cs,hv,hrest⟩ e
  ·rename_i f G6 hp
   rw[hp]at hx;have ks:(∀b∈G6,b<σ.bx.length)∧a.eval x= .func (.func f) #[] (G6.map fun b=>Value.pointer (some ⟨E.Fc b,0,none⟩)).toArray:=hx;exact same (v:=a.eval x) (by simp only[execOp,ho,ks.2,Sem.run_pure]) hx e
  ·cases e
 ·rename_i op t x z s ho
  obtain⟨r,val,h1,h2,h3⟩:=Xh hT e (h.ev x) (h.ev z) x z;exact same (v:=val) (x:= .c r) (by
   simp only[execOp,ho,Sem.run_bind];simp only[Sem.run_bind]at h2;rw[h2];rfl) h3 h1
 ·rename_i op t x ho
  obtain⟨r,val,h1,h2,h3⟩:=ZP (P:=P) e (h.ev x);exact same (v:=val) (x:= .c r) (by simp only[execOp,ho,Sem.run_bind,h2,Result.andThen_ok,Sem.run_pure]) h3 h1
 ·rename_i s d x ho
  exact nn hT h ho e
 ·rename_i f first G6 ho
  split at e
  case isFalse=>cases e
  rename_i hf;split at e
  case h_2=>cases e
  rename_i bs hbs;obtain⟨q1,q2⟩:=dx hbs (evs h G6.toList);have ABz:first.map a.eval= #[]:=by
   have:first= #[]:=Array.eq_empty_of_size_eq_zero hf;rw[this];simp
  have AF_:G6.map a.eval=(bs.map fun b=>Value.pointer (some ⟨E.Fc b,0,none⟩)).toArray:=by
   apply Array.ext';simpa using q2
  refine same (v:= .func (.func f) #[] (bs.map fun b=>Value.pointer (some ⟨E.Fc b,0,none⟩)).toArray) ?_ (x:= .c (.fn f bs)) ⟨q1,rfl⟩ e
  simp only[execOp,ho,Instr.makeFunc,ABz,AF_,Sem.run_bind,Sem.run_pure,Result.andThen_ok]
 ·rename_i t l c ho
  exact nX hT h ho e
 ·rename_i t x lo hi ho
  obtain⟨z,val,h1,h2,h3⟩:=Yn hT hB st e (h.ev x) (mU h lo) (mU h hi);exact same (v:=val) (by simp only[execOp,ho,Option.map_none,Sem.run_bind,h2,Result.andThen_ok,Sem.run_pure]) h3 h1
 ·rename_i t x f ho
  split at e
  case h_2=>cases e
  rename_i z hz;obtain⟨u,h1,h2⟩:=Yy hT hz (h.ev x);exact same (by simp only[execOp,ho,Sem.run_bind,h1,Result.andThen_ok,Sem.run_pure]) h2 e
 ·rename_i t x f ho
  split at e
  case h_2=>cases e
  rename_i z hz;obtain⟨u,h1,h2⟩:=aQ hT hz (h.ev x);exact same (by simp only[execOp,ho,Sem.run_bind,h1,Result.andThen_ok,Sem.run_pure]) h2 e
 ·rename_i t x i ho
  obtain⟨z,val,h1,h2,h3⟩:=YM hT hB st e (h.ev x) (h.ev i);exact same (v:=val) (by simp only[execOp,ho,Sem.run_bind,h2,Result.andThen_ok,Sem.run_pure]) h3 h1
 ·rename_i t x i ho
  obtain⟨z,val,h1,h2,h3⟩:=VK hT e (h.ev x) (h.ev i);exact same (v:=val) (by simp only[execOp,ho,Sem.run_bind,h2,Result.andThen_ok,Sem.run_pure]) h3 h1
 ·rename_i x i ho
  split at e
  case h_2=>cases e
  rename_i z hz;obtain⟨u,h1,h2⟩:=V_ (P:=P) hz (h.ev x);exact same (by simp only[execOp,ho,Sem.run_bind,h1,Result.andThen_ok,Sem.run_pure]) h2 e
 ·rename_i f args fm ho
  rw[ho]at gN;cases gN
 ·rename_i args fm ho
  split at e
  ·rename_i s t GI hts
   obtain⟨x,rfl,hx⟩:=Qt GI;have hv:=h.ev x;rw[hx]at hv;have VD:=RS (E:=E) (w:=w) (vw:=σ.bx) hv;split at e
   case isFalse=>cases e
   rename_i hs;have hu:=RP hT hs;refine same (v:= .int .i64 (s.length:Int)) (x:= .c (.v (.int .i64) (s.length:Int))) ?_ (VR.int (E:=E) (vw:=σ.bx) _ _) e
   have LW:(⟨s.toArray⟩:ByteArray).size=s.length:=by simp[ByteArray.size]
   simp[execOp,ho,resolve,invoke,builtin,Builtin.len_,hts,VD,Aw hu,goInt,LW]
  ·rename_i z t _ GI hts
   obtain⟨x,rfl,hx⟩:=Qt GI;have hv:=h.ev x;rw[hx]at hv;split at e
   case isFalse=>cases e
   rename_i hs;split at e
   case h_2=>cases e
   rename_i n hn;obtain⟨el,hu⟩:=ZE hT hs;obtain⟨ad,cap,VD⟩:=af hB st hn hv;refine same (v:= .int .i64 (n:Int)) (x:= .c (.v (.int .i64) (n:Int))) ?_ (VR.int (E:=E) (vw:=σ.bx) _ _) e
   simp[execOp,ho,resolve,invoke,builtin,Builtin.len_,hts,VD,Aw hu,goInt]
  ·cases e
 ·rename_i args fm ho
  split at e
  case h_2=>cases e
  rename_i x1 x2 GI;exact jh hT h ho rfl GI e
 ·rename_i args fm ho
  split at e
  case h_2=>cases e
  rename_i x GI;exact mB hT h ho rfl GI e (fun b p off n hx=>by rw[ho];simp only[GA];rw[GI,hx])
 ·rename_i args fm ho
  split at e
  case h_2=>cases e
  rename_i x1 x2 GI;obtain⟨o1,o2,rfl,hx1,hx2⟩:=RL GI;have U5:=h.ev o1;have UA:=h.ev o2;rw[hx1]at U5;rw[hx2]at UA;obtain⟨r,val,h1,h2,h3⟩:=OP (P:=P) (big:=true) e U5 UA fm #[] o.type;simp only[AKA]at h2;exact same (v:=val) (x:= .c r) (by simp[execOp,ho,resolve,invoke,builtin,h2]) h3 h1
 ·rename_i args fm ho
  split at e
  case h_2=>cases e
  rename_i x1 x2 GI;obtain⟨o1,o2,rfl,hx1,hx2⟩:=RL GI;have U5:=h.ev o1;have UA:=h.ev o2;rw[hx1]at U5;rw[hx2]at UA;obtain⟨r,val,h1,h2,h3⟩:=OP (P:=P) (big:=false) e U5 UA fm #[] o.type;simp only[AHU,AIk]at h2;exact same (v:=val) (x:= .c r) (by simp[execOp,ho,resolve,invoke,builtin,h2]) h3 h1
 ·cases e
end
end Go.Fw
end
section
namespace Go.Fw
def alive(l:List BP)(i:Nat):Bool:=
 match l[i]? with
 |some .gone=>false
 |some _=>true
 |none=>false
def AP.Ju(l:List BP):AP→Bool
 | .sl s _=>s
 | .fi _=>false
 | .Zf _ _=>false
 | .gD _ _=>false
 | .ref i=>decide (i<l.length)
 | .ptr i _=>alive l i
 | .fn _ G6=>G6.all (alive l)
 |_=>true
def XP.Ju(l:List BP):XP→Bool
 | .c p=>p.Ju l
 | .agg q=>q.all (AP.Ju l)
 | .Jy q=>q.all fun| .inl p=>p.Ju l| .inr q=>q.all (AP.Ju l)
 | .row _=>false
def BP.Ju(l:List BP):BP→Bool
 | .mem q=>q.all (AP.Ju l)
 |_=>true
def kinds:List BP→List BP→Bool
 |[],_=>true
 | .mem _::l,.mem _::m=>kinds l m
 | .sl _ r::l,.sl _ q::m=>decide (r=q)&&kinds l m
 | .mem _::l,.gone::m=>kinds l m
 | .sl _ _::l,.gone::m=>kinds l m
 |_,_=>false
def cF(l:List BP):List (Nat×XP)→Bool
 |[(0,p)]=>p.Ju l
 |_=>false
def PQ.ok(c:PQ):Bool:=
 kinds c.ins.Eb c.outs.Eb&&cF c.outs.Eb c.outs.Cn&&c.outs.Eb.all (BP.Ju c.outs.Eb)
theorem RF:∀{l m:List BP},kinds l m=true→l.length≤m.length∧ ∀(i:Nat) p,l[i]? =some p→p≠ .gone∧ ∀d r,m[i]? =some (.sl d r)→ ∃d',p= .sl d' r
 |[],m,_=>⟨by simp,fun i p h=>by simp at h⟩
 | .gone::l,[],h=>by simp[kinds]at h
 | .gone::l,_::_,h=>by simp[kinds]at h
 | .mem _::l,[],h=>by simp[kinds]at h
 | .sl _ _::l,[],h=>by simp[kinds]at h
 | .mem q::l,.mem _::m,h=>by
  obtain⟨h1,h2⟩:=RF (l:=l) (m:=m) (by simpa[kinds]using h);refine⟨by simpa using h1,fun i p hp=> ?_⟩;cases i with
  |zero=>simp at hp;subst hp;exact⟨by simp,fun d r hh=>by simp at hh⟩
  |succ i=>simpa using h2 i p (by simpa using hp)
 | .mem q::l,.gone::m,h=>by
  obtain⟨h1,h2⟩:=RF (l:=l) (m:=m) (by simpa[kinds]using h);refine⟨by simpa using h1,fun i p hp=> ?_⟩;cases i with
  |zero=>simp at hp;subst hp;exact⟨by simp,fun d r hh=>by simp at hh⟩
  |succ i=>simpa using h2 i p (by simpa using hp)
 | .mem q::l,.sl _ _::m,h=>by simp[kinds]at h
 | .sl d0 r0::l,.sl _ q::m,h=>by
  simp only[kinds,AGx,AG7]at h;obtain⟨h1,h2⟩:=RF (l:=l) (m:=m) h.2;refine⟨by simpa using h1,fun i p hp=> ?_⟩;cases i with
  |zero=>simp at hp;subst hp;exact⟨by simp,fun d r hh=>by simp at hh;exact⟨d0,by rw[h.1,hh.2]⟩⟩
  |succ i=>simpa using h2 i p (by simpa using hp)
 | .sl d0 r0::l,.gone::m,h=>by
  obtain⟨h1,h2⟩:=RF (l:=l) (m:=m) (by simpa[kinds]using h);refine⟨by simpa using h1,fun i p hp=> ?_⟩;cases i with
  |zero=>simp at hp;subst hp;exact⟨by simp,fun d r hh=>by simp at hh⟩
  |succ i=>simpa using h2 i p (by simpa using hp)
 | .sl _ _::l,.mem _::m,h=>by simp[kinds]at h
def Ur(P:Program)(f:Nat)(c:PQ):Prop:=
 c.ok=true∧(∀args w,(callFunc f args).run P w= .ok (.enter f args) w)∧
 ∀(E:Env) (w:World) (v:c.ins.V) (args:Array Value) (u:c.outs.V),args.size=c.ins.Cn.length→
  CD E w (GY.mk id c.ins.Eb v.2) (GY.mk id c.ins.Eb v.2) []→LB E w (GY.mk id c.ins.Eb v.2) id c.ins.Cn v.1 args.toList→c.g v=some u→
  Calls P f args w fun e w' => ∃x E',e= .returned x∧Wr E w E' w'∧CD E' w' (GY.mk id c.outs.Eb u.2) (GY.mk id c.outs.Eb u.2) []∧
   LB E' w' (GY.mk id c.outs.Eb u.2) id c.outs.Cn u.1 [x]∧ ∀i,i<c.ins.Eb.length→alive c.outs.Eb i=true→E'.Fc i=E.Fc i∧E'.Fq i=E.Fq i
theorem Yk:∀x:AV,DM [] x=x
 | .ref b (s::p)=>by simp[DM]
 | .ref b []=>rfl
 | .VP b (s::p) i n=>by simp[DM]
 | .VP b [] i n=>rfl
 | .Gq b (s::p) i sz j=>by simp[DM]
 | .Gq b [] i sz j=>rfl
 | .v _ _=>rfl
 | .sl _ _ _=>rfl
 | .nil=>rfl
 | .FW _ _=>rfl
 | .J4 _ _ _ _=>rfl
 | .fn _ _=>rfl
 | .gD _ _=>rfl
 | .lr=>rfl
 | .undef=>rfl
theorem S_:DM []=id:=funext Yk
theorem iJ:∀x:XV,PK [] x=x
 | .c x=>by simp[PK,Yk]
 | .agg l=>by simp[PK,S_]
 | .Jy l=>by
  simp only[PK,S_];congr 1
  conv=>rhs;rw[←List.map_id l]
  apply ALO;intro x _;cases x with
  |inl x=>simp
  |inr q=>simp
theorem gi(m:K5)(σ:St):(σ.Q1 m).tm=σ.tm.map (PK m):=by
 cases m with
 |nil=>
  simp only[St.Q1];have:PK []=id:=funext iJ;rw[this,List.map_id]
 |cons _ _=>rfl
theorem oV(m:K5)(σ:St):(σ.Q1 m).bx=σ.bx.map (Bx.map (DM m)):=by
 cases m with
 |nil=>simp only[St.Q1];rw[S_,Tl]
 |cons _ _=>
  simp only[St.Q1];apply ALO;intro B _;cases B<;>rfl
theorem Vv(f:AV→AV):∀(m:K5) (bx:List Bx),B7 (bx.map (Bx.map f)) m=(B7 bx m).map (Bx.map f)
 |[],_=>rfl
 |none::m,bx=>by simp only[B7];exact Vv f m bx
 |some b::m,bx=>by
  simp only[B7];rw[←Vv f m (bx.set b .dead),List.map_set];rfl
theorem MD:∀{m:K5} {bx:List Bx} {b:Nat},some b∉m→(B7 bx m)[b]? =bx[b]?
 |[],_,_,_=>rfl
 |none::m,bx,b,h=>by simp only[B7];exact MD (by simpa using h)
 |some c::m,bx,b,h=>by
  simp only[B7];rw[MD (by simp at h;exact h.2),AHF (by simp at h;omega)]
theorem pE{E E':Env}{w w':World}{vw vw':List Bx}{m:K5}(k:Nk E w vw E' w' (B7 vw' m))
  (hb:∀b d' r B3,some b∈m→vw'[b]? =some (.sl d' r B3)→ ∃d rows,vw[b]? =some (.sl d r rows)∧List.length B3=List.length rows∧E'.Fq b=E.Fq b) (hlen:vw.length≤vw'.length) {x:AV} {v:Value} (h:VR E w vw x v):VR E' w' vw' (DM m x) v:=by
 have h1:=D_ k h;have T7:∀{b'},some b'∉m→(B7 vw' m)[b']? =vw'[b']?:=fun e=>MD e
 have get:∀{b'},b'<vw.length→ ∃B,vw'[b']? =some B:=fun hl=>⟨_,AGI (by omega)⟩
 cases x with
 |v t x=>exact h1
 |sl s r x=>exact h1
 |nil=>exact h1
 |FW c j=>exact⟨by simpa[FR]using h1.1,h1.2⟩
 |J4 s r x j=>exact h1
 |fn f G6=>exact⟨fun c hc=>by simpa[FR]using h1.1 c hc,h1.2⟩
 |gD f rows=>exact h1
 |lr=>exact h1
 |undef=>trivial
 |ref c p=>
  have other:some c∉m→VR E' w' vw' (.ref c p) v:=fun e=>by
   simp only[VR,T7 e]at h1⊢;exact h1
  cases p with
  |nil=>
   simp only[DM];by_cases e:some c∈m
   ·simp only[VR]at h⊢
    obtain⟨h0,h⟩:=h;refine⟨h0,?_⟩;cases hc:vw[c]? with
    |none=>rw[hc]at h;exact h.elim
    |some B=>
     obtain⟨B',NQ⟩:=get (AF9.1 hc).1;rw[NQ];cases B' with
     |mem cs=>trivial
     |dead=>trivial
     |sl d' r B3=>
      obtain⟨d,rows,e1,e2,e3⟩:=hb c d' r B3 e NQ;rw[e1]at h;refine⟨by simp[CJ],⟨_,rfl⟩,?_⟩;have:=h.2.2;rw[B5]at this⊢;rw[e3];exact this
   ·exact other e
  |cons s p=>
   simp only[DM];split
   ·trivial
   ·rename_i e
    exact other (by simpa using e)
 |VP c p off n=>
  have other:some c∉m→VR E' w' vw' (.VP c p off n) v:=fun e=>by
   simp only[VR,T7 e]at h1⊢;exact h1
  cases p with
  |nil=>
   simp only[DM];by_cases e:some c∈m
   ·simp only[VR]at h⊢
    obtain⟨h0,h⟩:=h;refine⟨h0,?_⟩;cases hc:vw[c]? with
    |none=>rw[hc]at h;exact h.elim
    |some B=>
     obtain⟨B',NQ⟩:=get (AF9.1 hc).1;rw[NQ];cases B' with
     |mem cs=>trivial
     |dead=>trivial
     |sl d' r B3=>
      obtain⟨d,rows,e1,e2,e3⟩:=hb c d' r B3 e NQ;rw[e1]at h;obtain⟨_,q,ys,a,len,cap,g1,g2,g3,g4⟩:=h;simp only[EY,AGL,AIM]at g1;obtain⟨rfl,g1⟩:=g1;obtain rfl:=AIe g1;rw[B5]at g3;exact⟨by simp[CJ],r,B3,a,len,cap,rfl,by rw[e2];exact g2,by rw[B5,e3];exact g3,g4⟩
   ·exact other e
  |cons s p=>
   simp only[DM];split
   ·trivial
   ·rename_i e
    exact other (by simpa using e)
 |Gq c p i sz j=>
  have other:some c∉m→VR E' w' vw' (.Gq c p i sz j) v:=fun e=>by
   simp only[VR,T7 e]at h1⊢;exact h1
  cases p with
  |nil=>
   simp only[DM];by_cases e:some c∈m
   ·simp only[VR]at h⊢
    obtain⟨h0,h⟩:=h;refine⟨h0,?_⟩;cases hc:vw[c]? with
    |none=>rw[hc]at h;exact h.elim
    |some B=>
     obtain⟨B',NQ⟩:=get (AF9.1 hc).1;rw[NQ];cases B' with
     |mem cs=>trivial
     |dead=>trivial
     |sl d' r B3=>
      obtain⟨d,rows,e1,e2,e3⟩:=hb c d' r B3 e NQ;rw[e1]at h;obtain⟨_,q,ys,bb,o,len,cap,g1,g2,g3,g4⟩:=h;simp only[EY,AGL,AIM]at g1;obtain⟨rfl,g1⟩:=g1;obtain rfl:=AIe g1;rw[B5]at g3;exact⟨by simp[CJ],r,B3,bb,o,len,cap,rfl,by rw[e2];exact g2,by rw[B5,e3];exact g3,g4⟩
   ·exact other e
  |cons s p=>
   simp only[DM];split
   ·trivial
   ·rename_i e
    exact other (by simpa using e)
theorem pL{E E':Env}{w w':World}{vw vw':List Bx}{m:K5}(k:∀x v,VR E w vw x v→VR E' w' vw' (DM m x) v){x:XV}{v:Value}(h:XR E w vw x v):XR E' w' vw' (PK m x) v:=by
 cases x with
 |c x=>exact k x v h
 |agg l=>
  obtain⟨vs,rfl,RH⟩:=h;exact⟨vs,rfl,Bj.Ie _ k RH⟩
 |Jy l=>
  obtain⟨vs,rfl,RH⟩:=h;refine⟨vs,rfl,Bj.Ie _ (fun x v hx=> ?_) RH⟩;cases x with
  |inl x=>exact k x v hx
  |inr q=>
   obtain⟨us,rfl,hus⟩:=hx;exact⟨us,rfl,Bj.Ie _ k hus⟩
def IK(G5:Nat→Nat):Nat→List Bx→List Bx→List Bx
 |_,[],bx=>bx
 |i,B::l,bx=>IK G5 (i+1) l (if G5 i<bx.length then bx.set (G5 i) B else bx++[B])
theorem aU(G5:Nat→Nat):∀(i:Nat) (l:List BP) (x:GY.V l) (bx:List Bx),T3 G5 i l x bx=IK G5 i (GY.mk G5 l x) bx
 |_,[],_,_=>rfl
 |i,p::l,x,bx=>by simp only[T3,GY.mk,IK];exact aU G5 (i+1) l x.2 _
structure jV (G5:Nat→Nat) (M N:Nat):Prop where
 lt:∀k,k<M→G5 k<N
 eq:∀k,M≤k→G5 k=N+(k-M)
 inj:∀k k',k<M→k'<M→G5 k=G5 k'→k=k'
theorem jV.AHI{G5:Nat→Nat}{M N:Nat}(h:jV G5 M N){k k':Nat}(e:G5 k=G5 k'):k=k':=by
 by_cases h1:k<M
 ·by_cases h2:k'<M
  ·exact h.inj k k' h1 h2 e
  ·have:=h.lt k h1
   have:=h.eq k' (by omega);omega
 ·by_cases h2:k'<M
  ·have:=h.lt k' h2
   have:=h.eq k (by omega);omega
  ·have:=h.eq k (by omega)
   have:=h.eq k' (by omega);omega
theorem W9{G5:Nat→Nat}{M N:Nat}(h:jV G5 M N):∀{l:List Bx} {i:Nat} {bx:List Bx},bx.length=N+(i-M)→
  (IK G5 i l bx).length=N+(i+l.length-M)∧(∀(j:Nat) B,l[j]? =some B→(IK G5 i l bx)[G5 (i+j)]? =some B)∧
   ∀n,n<bx.length→(∀j,j<l.length→G5 (i+j)≠n)→(IK G5 i l bx)[n]? =bx[n]?
 |[],i,bx,hl=>⟨by simpa[IK]using hl,fun j B hj=>by simp at hj,fun _ _ _=>rfl⟩
 |B::l,i,bx,hl=>by
  simp only[IK];have Tp:(if G5 i<bx.length then bx.set (G5 i) B else bx++[B]).length=N+(i+1-M):=by
   split
   ·rename_i Dl
    by_cases hi:i<M
    ·simp;omega
    ·have:=h.eq i (by omega);omega
   ·rename_i Dl
    by_cases hi:i<M
    ·have:=h.lt i hi;omega
    ·simp;omega
  have SO:(if G5 i<bx.length then bx.set (G5 i) B else bx++[B])[G5 i]? =some B:=by
   split
   ·rename_i Dl;rw[AH0 Dl]
   ·rename_i Dl
    by_cases hi:i<M
    ·have:=h.lt i hi;omega
    ·have:=h.eq i (by omega)
     rw[AIC (by omega),show G5 i-bx.length=0 by omega];rfl
  obtain⟨q1,q2,q3⟩:=W9 h (l:=l) Tp;refine⟨by rw[q1];simp;omega,fun j C hj=> ?_,fun n hn YU=> ?_⟩
  ·cases j with
   |zero=>
    simp at hj;subst hj;exact(q3 (G5 i) (AF9.1 SO).1 (fun j hj e=>by have:=h.AHI e;omega)).trans SO
   |succ j=>
    have:=q2 j C (by simpa using hj)
    rwa [show i+1+j=i+(j+1)by omega]at this
  ·have AGg:=YU 0 (by simp)
   rw[AK1]at AGg;rw[q3 n (by split<;>simp<;>omega) (fun j hj=>by have:=YU (j+1) (by simp;omega);rwa [show i+(j+1)=i+1+j by omega]at this)];split
   ·rw[AHF AGg]
   ·rw[AG0 hn]
theorem Ve{G5:Nat→Nat}{M N:Nat}(h:jV G5 M N){E:Env}{w:World}{vw:List Bx}:∀{l:List Bx} {i:Nat} {bx:List Bx} {Fs:List AAU},bx.length=N+(i-M)→(∀k,i≤k→k<M→bx[G5 k]? =some .dead)→
  Fs.length=l.length→(∀(j:Nat) B F,l[j]? =some B→Fs[j]? =some F→dV E w vw (G5 (i+j)) B F)→CD E w vw bx Fs.flatten→CD E w vw (IK G5 i l bx) []
 |[],i,bx,Fs,hl,hd,hF,hB,Yc=>by
  have:Fs=[]:=AIV hF;subst this;simpa[IK]using Yc
 |B::l,i,bx,F::Fs,hl,hd,hF,hB,Yc=>by
  simp only[IK];have hBi:=hB 0 B F rfl rfl;rw[AK1]at hBi;have next:∀{Ls},Ls.length=N+(i+1-M)→(∀k,i+1≤k→k<M→Ls[G5 k]? =some .dead)→CD E w vw Ls Fs.flatten→CD E w vw (IK G5 (i+1) l Ls) []:=by
   intro Ls h1 h2 h3;refine Ve h h1 h2 (by simpa using hF) (fun j C G hC hG=> ?_) h3;have:=hB (j+1) C G (by simpa using hC) (by simpa using hG)
   rwa [show i+(j+1)=i+1+j by omega]at this
  rw[AI2]at Yc;by_cases hi:i<M
  ·have Dl:=h.lt i hi
   rw[AGH (by omega)];refine next (by simp;omega) (fun k hk1 sZ=> ?_) (Yc.put (hd i (AIi _) hi) hBi);rw[AHF (fun e=>by have:=h.AHI e;omega)];exact hd k (by omega) sZ
  ·have heq:=h.eq i (by omega)
   rw[AGU (by omega)];have e1:G5 i=bx.length:=by omega
   rw[e1]at hBi;exact next (by simp;omega) (fun k hk1 sZ=>by omega) (Yc.push hBi)
 |_::_,_,_,[],_,_,hF,_,_=>by simp at hF
structure ix (E' E2:Env) (l:List BP) (u:GY.V l) (qV:List Bx) (G5:Nat→Nat):Prop where
 ids:∀i,alive l i=true→E2.Fc (G5 i)=E'.Fc i∧E2.Fq (G5 i)=E'.Fq i
 bx:∀(i:Nat) p,l[i]? =some p→ ∃y,(GY.mk id l u)[i]? =some (p.mk id y)∧qV[G5 i]? =some (p.mk G5 y)
 S:E2.S=E'.S
theorem UW(G5:Nat→Nat):∀{l:List BP} {u:GY.V l} {i:Nat} {p:BP},l[i]? =some p→ ∃y:p.V,(GY.mk id l u)[i]? =some (p.mk id y)∧(GY.mk G5 l u)[i]? =some (p.mk G5 y)
 |q::l,u,0,p,h=>by
  simp at h;subst h;exact⟨u.1,rfl,rfl⟩
 |q::l,u,i+1,p,h=>by
  obtain⟨y,h1,h2⟩:=UW G5 (u:=u.2) (i:=i) (by simpa using h);exact⟨y,by simpa[GY.mk]using h1,by simpa[GY.mk]using h2⟩
 |[],_,_,_,h=>by simp at h
theorem N6(G5:Nat→Nat):∀{l:List BP} {u:GY.V l},(GY.mk G5 l u).length=l.length
 |[],_=>rfl
 |_::l,u=>by simp[GY.mk,N6 G5 (l:=l)]
section
variable{E' E2:Env} {w:World} {l:List BP} {u:GY.V l} {qV:List Bx} {G5:Nat→Nat} (r:ix E' E2 l u qV G5)
include r
omit r in
theorem gK{i:Nat}(h:alive l i=true):∃p,l[i]? =some p∧p≠ .gone:=by
 unfold alive at h;cases e:l[i]? with
 |none=>rw[e]at h;cases h
 |some p=>
  refine⟨p,rfl,fun hp=> ?_⟩;rw[e,hp]at h;cases h
theorem mP{p:AP}{y:p.V}{v:Value}(G3:p.Ju l=true)(h:VR E' w (GY.mk id l u) (p.mk id y) v):VR E2 w qV (p.mk G5 y) v:=by
 cases p with
 |v t=>exact h
 |sl s q=>
  simp only[AP.Ju]at G3;subst G3;simp only[AP.mk,VR,AKA]at h⊢;rw[r.S];exact h
 |nil=>exact h
 |ref i=>
  simp only[AP.Ju,AG7]at G3;obtain⟨p,hp⟩:∃p,l[i]? =some p:=⟨_,AGI G3⟩;obtain⟨z,z1,z2⟩:=r.bx i p hp;simp only[AP.mk,VR,id]at h⊢;refine⟨h.1,?_⟩;have h2:=h.2;rw[z1]at h2;rw[z2];cases p with
  |mem q=>trivial
  |gone=>trivial
  |sl d q=>
   have fJ:=(r.ids i (by simp[alive,hp])).2;simp only[BP.mk]at h2⊢;refine⟨h2.1,h2.2.1,?_⟩;rw[fJ];exact h2.2.2
 |ptr i j=>
  simp only[AP.Ju]at G3;obtain⟨p,hp,hg⟩:=gK G3;obtain⟨z,z1,z2⟩:=r.bx i p hp;refine⟨(AF9.1 z2).1,?_⟩;rw[(r.ids i G3).1];exact h.2
 |fi q=>simp[AP.Ju]at G3
 |Zf i sz=>simp[AP.Ju]at G3
 |gD f rs=>simp[AP.Ju]at G3
 |fn f G6=>
  simp only[AP.Ju,AI7]at G3;obtain⟨h1,h2⟩:=h;refine⟨fun b hb=> ?_,?_⟩
  ·obtain⟨i,hi,rfl⟩:=AK3.1 hb
   obtain⟨p,hp,_⟩:=gK (G3 i hi);obtain⟨z,_,z2⟩:=r.bx i p hp;exact(AF9.1 z2).1
  ·rw[h2,ALX]
   congr 2
   rw[ALX];apply ALO;intro i hi;simp only[Function.comp,id,(r.ids i (G3 i hi)).1]
 |any=>trivial
theorem bp:∀{q:List AP} {y:Rn.V q} {vs:List Value},q.all (AP.Ju l)=true→YB E' w (GY.mk id l u) (Rn.mk id q y) vs→YB E2 w qV (Rn.mk G5 q y) vs
 |[],_,[],_,_=>trivial
 |[],_,_::_,_,h=>h.elim
 |p::q,y,[],_,h=>h.elim
 |p::q,y,v::vs,G3,h=>by
  simp only[AK_,AGx]at G3;exact⟨mP r G3.1 h.1,bp G3.2 h.2⟩
theorem iY:∀{q:List (AP ⊕ List AP)} {y:R_.V q} {vs:List Value},(q.all fun| .inl p=>p.Ju l| .inr q=>q.all (AP.Ju l))=true→Bj (TR E' w (GY.mk id l u)) (R_.mk id q y) vs→Bj (TR E2 w qV) (R_.mk G5 q y) vs
 |[],_,[],_,_=>trivial
 |[],_,_::_,_,h=>h.elim
 | .inl p::q,y,[],_,h=>h.elim
 | .inr p::q,y,[],_,h=>h.elim
 | .inl p::q,y,v::vs,G3,h=>by
  simp only[AK_,AGx]at G3;exact⟨mP r G3.1 h.1,iY G3.2 h.2⟩
 | .inr p::q,y,v::vs,G3,h=>by
  simp only[AK_,AGx]at G3;obtain⟨us,e,hus⟩:=h.1;exact⟨⟨us,e,bp r G3.1 hus⟩,iY G3.2 h.2⟩
theorem ADT{p:XP}{y:p.V}{v:Value}(G3:p.Ju l=true)(h:XR E' w (GY.mk id l u) (p.mk id y) v):XR E2 w qV (p.mk G5 y) v:=by
 cases p with
 |c p=>exact mP r G3 h
 |agg q=>
  obtain⟨vs,e,RH⟩:=h;exact⟨vs,e,bp r G3 RH⟩
 |row q=>simp[XP.Ju]at G3
 |Jy q=>
  obtain⟨vs,e,RH⟩:=h;exact⟨vs,e,iY r G3 RH⟩
theorem ABu{i:Nat}{p:BP}{y:p.V}{F:AAU}(hi:l[i]? =some p)(G3:p.Ju l=true)(h:dV E' w (GY.mk id l u) i (p.mk id y) F):dV E2 w qV (G5 i) (p.mk G5 y) F:=by
 cases p with
 |mem q=>
  obtain⟨h1,arr,ty,fr,h2,h3,h4⟩:=h;have fJ:=(r.ids i (by simp[alive,hi])).1;exact⟨by rw[fJ];exact h1,arr,ty,fr,by rw[fJ];exact h2,h3,bp r G3 h4⟩
 |sl d q=>
  obtain⟨h1,h2⟩:=h;refine⟨h1,?_⟩;rw[(r.ids i (by simp[alive,hi])).2,r.S];exact h2
 |gone=>exact h
end
end Go.Fw
end
section
namespace Go.Fw
theorem ig{s:Bn}{N:Nat}{m0 m:K5}{tm:List XV}{bx:List Bx}{x:s.V}(e:s.fit N m0 tm bx=some (x,m)):∀(k:Nat) p,s.Eb[k]? =some p→p≠ .gone→ ∃b B,m[k]? =some (some b)∧bx[b]? =some B∧B≠ .dead∧
  ∀d r,p= .sl d r→ ∃d' rows,B= .sl d' r rows:=by
 simp only[Bn.fit,AGs,AGV]at e;obtain⟨m1,e1,m2,e2,a,e3,c,e4,e5⟩:=e;cases e5;obtain⟨q1,q2⟩:=Mi (G5:=id) e4;intro k p hp hg;obtain⟨y,_,h⟩:=q2 k p hp;cases p with
 |gone=>exact absurd rfl hg
 |mem q=>
  obtain⟨b,cs,h1,h2,_⟩:=h;exact⟨b,_,h1,h2,by simp,fun d r hh=>by cases hh⟩
 |sl d r=>
  obtain⟨b,d',h1,h2,_⟩:=h;exact⟨b,_,h1,h2,by simp,fun d r hh=>by cases hh;exact⟨d',y,rfl⟩⟩
theorem sE(n:Nat):dM (List.replicate n none):=fun i j b h=>by
 simp[ALS]at h
theorem l8{w:World}{B B':Nat→Prop}{w':World}{r:Ty}{v:Value}{x y:List r.D}(h:Rd w B (.sl r) [v] x)(h':Rd w' B' (.sl r) [v] y):y.length=x.length:=by
 simp only[Rd]at h h';obtain⟨_,_,e,_⟩:=h;obtain⟨_,_,e',_⟩:=h';rw[e]at e';simp only[AId,Value.slice.injEq,AJo]at e';exact e'.2.1.symm
section
variable{Y:Type} {P:Program} {E:Env} {σ:St} {a:Act} {w:World} {k:K Y} {y:Y}
theorem fk{E' E2:Env}{l:List BP}{u:GY.V l}{qV:List Bx}{G5:Nat→Nat}(r:ix E' E2 l u qV G5):∀{sl:List (Nat×XP)} {z:Eg.V sl} {x:Value},
  cF l sl=true→LB E' w (GY.mk id l u) id sl z [x]→XR E2 w qV (WV sl z G5) x
 |[(0,p)],z,x,G3,h=>by
  obtain⟨⟨v,hv,hx⟩,_⟩:=h;simp at hv;subst hv;exact ADT r G3 hx
 |[],_,_,G3,_=>by simp[cF]at G3
 |(_+1,_)::_,_,_,G3,_=>by simp[cF]at G3
 |(0,_)::_::_,_,_,G3,_=>by simp[cF]at G3
def Qm(c:PQ)(xs:List XV)(σ:St):AAU:=
 match c.ins.fit σ.bx.length c.ins.m0 xs (c.ins.opens σ.bx)with
 |some (_,m)=>m.filterMap id
 |none=>[]
theorem gE(h:Rel E σ a w)(s:Bn):∃E',Rel E' { σ with bx:=s.opens σ.bx } a w∧MV [] E σ.bx w E' (s.opens σ.bx) w∧(∀(i:Nat) d r,s.Eb[i]? =some (.sl d r)→E'.Fq (σ.bx.length+i)= .slice none 0 0)∧
  (∀x v,XR E w σ.bx x v→XR E' w (s.opens σ.bx) x v):=by
 let E':Env:={ E with Fq:=fun k=>if k<σ.bx.length then E.Fq k else .slice none 0 0 }
 have hlen:σ.bx.length≤(s.opens σ.bx).length:=by simp[Bn.opens]
 have hold:∀b,b<σ.bx.length→(s.opens σ.bx)[b]? =σ.bx[b]?:=fun b hb=>by simp only[Bn.opens];rw[AG0 hb]
 have V1:∀b,b<σ.bx.length→E'.Fq b=E.Fq b:=fun b hb=>by simp only[E'];rw[AGH hb]
 have keep:Nk E w σ.bx E' w (s.opens σ.bx):=
  ⟨hlen,fun _ _=>rfl,fun _ h=>h,fun _ h=>h,h.bx.st,fun _ _=>rfl,fun b d r rows hb e=>⟨d,rows,by rw[←hold b hb];exact e,fun p hp q ys hg=>⟨hp,⟨ys,hg,rfl⟩,fun hh he=>by rw[V1 b hb];exact he⟩⟩⟩
 obtain⟨Fs,⟨f1,f2⟩,f3⟩:=h.bx;refine⟨E',⟨h.Jq,h.tm.imp fun _ _ hx=>Ku keep hx,?_⟩,?_,fun i d r hi=>by simp only[E'];rw[AGU (by omega)],fun x v hx=>Ku keep hx⟩
 ·refine⟨Fs++List.replicate s.Eb.length [],⟨by simp[Bn.opens,f1],fun n B F hB hF=> ?_⟩,?_⟩
  ·by_cases hn:n<σ.bx.length
   ·rw[hold n hn]at hB
    rw[AG0 (by omega)]at hF;have:=f2 n B F hB hF;cases B with
    |mem cs=>
     obtain⟨rfl,arr,ty,fr,a1,a2,a3⟩:=this;exact⟨rfl,arr,ty,fr,a1,a2,a3.imp fun _ _ hv=>D_ keep hv⟩
    |sl d r rows=>exact⟨this.1,by rw[V1 n hn];exact this.2⟩
    |dead=>exact this
   ·rw[AIC (by omega)]at hF
    have hF':F=[]:=AJN (AH9 hF);subst hF';simp only[Bn.opens]at hB;rw[AIC (by omega),AIg,AGV]at hB;obtain⟨p,_,rfl⟩:=hB;have hh:E'.Fq n= .slice none 0 0:=by simp only[E'];rw[AGU hn]
    cases p with
    |mem q=>rfl
    |gone=>rfl
    |sl d r=>exact⟨by omega,by rw[hh];exact dd⟩
  ·have:(Fs++List.replicate s.Eb.length []).flatten=Fs.flatten:=by simp
   rw[this];exact⟨f3.nodup,f3.free,f3.lt,f3.st,f3.W0⟩
 ·refine⟨⟨fun _ h=>h,fun _ h=>h,fun _ h=> .inl h,fun _ h=> .inl h,fun _ _=>rfl,rfl,rfl,rfl,AIi _⟩,hlen,fun b hb=>⟨rfl,V1 b hb⟩,fun b hb=> ?_,fun n B B' _ hB NQ hd=> ?_⟩
  ·rw[hold b (AF9.1 hb).1];exact hb
  ·rw[hold n (AF9.1 hB).1,hB]at NQ
   cases NQ;exact⟨PZ.refl hd,fun _ _=>rfl⟩
theorem MV.after{t:AAU}{E E' qE:Env}{bx Ls AIE:List Bx}{w w':World}(h:MV [] E bx w E' Ls w)(hb:∀b,b<bx.length→Ls[b]? =bx[b]?)(k:MV t E' Ls w qE AIE w'):MV t E bx w qE AIE w':=
 ⟨h.base.trans k.base,AIx h.len k.len,fun b Dl=>⟨(k.ids b (AIm Dl h.len)).1.trans (h.ids b Dl).1,(k.ids b (AIm Dl h.len)).2.trans (h.ids b Dl).2⟩,fun b hd=>k.dead b (h.dead b hd),fun n B B' hn hB NQ hd=>by
  have Dl:=(AF9.1 hB).1;obtain⟨k1,k2⟩:=k.frame n B B' hn (by rw[hb n Dl];exact hB) NQ hd;refine⟨k1,fun c hc=>k2 c ?_⟩;cases B with
  |mem cs=>simp only[kt]at hc⊢;rw[(h.ids n Dl).1];exact hc
  |sl d r rows=>simp only[kt]at hc⊢;rw[(h.ids n Dl).2];exact hc
  |dead=>exact hc⟩
def AAo(c:PQ)(N:Nat)(xs:List XV)(σ:St)(k:K Y):Option Y:=
 match c.ins.fit N c.ins.m0 xs σ.bx with
 |some (v,m)=>(c.g v).bind fun u=>
  let G5:=SH m σ.bx.length
  let σ1:=σ.Q1 m
  k (WV c.outs.Cn u.1 G5) { σ1 with bx:=T3 G5 0 c.outs.Eb u.2 (B7 σ1.bx m) }
 |none=>none
def mI(c:PQ)(N:Nat)(xs:List XV)(σ:St):AAU:=
 match c.ins.fit N c.ins.m0 xs σ.bx with
 |some (_,m)=>m.filterMap id
 |none=>[]
theorem mT{f:Nat}{c:PQ}(hc:Ur P f c)(h:Rel E σ a w){N0:Nat}(iU:∀(i:Nat) d r,c.ins.Eb[i]? =some (.sl d r)→E.Fq (N0+i)= .slice none 0 0){xs:List XV}{vs:List Value}(hxs:Bj (XR E w σ.bx) xs vs)(hlen:xs.length=c.ins.Cn.length)(e:AAo c N0 xs σ k=some y):
  Calls P f vs.toArray w fun e w' => ∃x E' xv σ',e= .returned x∧Rel E' σ' a w'∧XR E' w' σ'.bx xv x∧MV (mI c N0 xs σ) E σ.bx w E' σ'.bx w'∧σ'.tm.length=σ.tm.length∧k xv σ' =some y:=by
 obtain⟨G3,_,gN⟩:=hc;simp only[PQ.ok,AGx]at G3;obtain⟨⟨hk,hslot⟩,hbo⟩:=G3;obtain⟨hklen,hk⟩:=RF hk;unfold AAo at e;split at e
 case h_2=>cases e
 rename_i v m Tf;simp only[AGs]at e;obtain⟨u,hg,e⟩:=e;obtain⟨_,E1,hf⟩:=Z9 h.bx hxs iU (by simp[Bn.m0]) (sE _) Tf;have LW:vs.toArray.size=c.ins.Cn.length:=by rw[←hlen,Bj.len hxs];simp
 refine(gN E1 w v vs.toArray u LW hf.boxes (by simpa using hf.Cn) hg).mono fun e' w' hR=> ?_
 obtain⟨x,E',rfl,base,⟨Fs,hFs1,hFs2⟩,Cn,ke⟩:=hR;simp only[AH7]at hFs2;obtain⟨Fk,k1,k2,k3,k4⟩:=hf.rest;have st:=h.bx.st;have W0:=h.bx.W0;have hM:m.length=c.ins.Eb.length:=hf.len;have all:∀i,i<m.length→ ∃b B,m[i]? =some (some b)∧σ.bx[b]? =some B∧B≠ .dead∧ ∀d r,c.ins.Eb[i]? =some (.sl d r)→ ∃d' rows,B= .sl d' r rows:=by
  intro i hi;have hp:c.ins.Eb[i]? =some (c.ins.Eb[i]'(by omega)):=AGI _;obtain⟨b,B,h1,h2,h3,h4⟩:=ig Tf i _ hp (hk i _ hp).1;exact⟨b,B,h1,h2,h3,fun d r hh=>h4 d r (by rw[hp]at hh;exact ALW hh)⟩
 let N:=σ.bx.length
 let M:=m.length
 have la:∀i b,m[i]? =some (some b)→SH m N i=b:=fun i b h=>by simp[SH,h]
 have qz:∀i,M≤i→SH m N i=N+(i-M):=fun i hi=>by
  have:m[i]? =none:=AKQ hi;simp[SH,this,M]
 have ro:jV (SH m N) M N:=⟨fun i hi=>by
   obtain⟨b,B,h1,h2,_⟩:=all i hi;rw[la i b h1];exact(AF9.1 h2).1,qz,fun i j hi hj e=>by
   obtain⟨b,B,h1,h2,_⟩:=all i hi;obtain⟨b',B',pV,ux,_⟩:=all j hj;rw[la i b h1,la j b' pV]at e;subst e;exact hf.inj i j b h1 pV⟩
 let E2:Env:={
   Fc:=fun n=>if n<N then E.Fc n else E'.Fc (M+(n-N))
   Fq:=fun n=>if n<N then E.Fq n else E'.Fq (M+(n-N))
   T:=fun c=>E.T c∨E'.S c
   S:=E'.S }
 have hS:∀c,E.S c→E'.S c:=fun d hd=>base.S d (hf.S d hd)
 have hSk:∀d∈Fk.flatten,¬E'.S d:=fun d hd hs=>by
  obtain⟨_,n2,_,n4⟩:=k3 d hd;exact(base.nJ d hs).elim n2 (fun h=>h n4)
 have jy:∀d,E.T d→w'.heap[d]? =w.heap[d]?:=fun d hd=>base.heap d (hf.T d hd)
 have sK:∀d∈Fk.flatten,w'.heap[d]? =w.heap[d]?:=fun d hd=>base.heap d (k3 d hd).2.2.2
 have AHs:Wr E w E2 w':=⟨fun d hd=> .inl hd,hS,fun d hd=>hd,fun d hd=>by
   rcases base.nJ d hd with h|h
   ·exact hf.nJ d h
   ·exact .inr fun ht=>h (hf.T d ht),jy,base.os,base.tape,base.output,base.size⟩
 let vw':=GY.mk id c.outs.Eb u.2
 let Bs:=GY.mk (SH m N) c.outs.Eb u.2
 let bk:=(B7 σ.bx m).map (Bx.map (DM m))
 have hbk:B7 (σ.Q1 m).bx m=bk:=by rw[oV,Vv]
 have AFz:bk.length=N:=by simp[bk,FR,N]
 let TX:=IK (SH m N) 0 Bs bk
 have AIz:T3 (SH m N) 0 c.outs.Eb u.2 (B7 (σ.Q1 m).bx m)=TX:=by rw[aU,hbk]
 obtain⟨s1,s2,s3⟩:=W9 ro (l:=Bs) (i:=0) (bx:=bk) (by simp[AFz]);have AJg:Bs.length=c.outs.Eb.length:=N6 _;have aV:σ.bx.length≤TX.length:=by
  show N≤TX.length
  have:TX.length=N+(0+Bs.length-M):=s1;omega
 have rn:ix E' E2 c.outs.Eb u.2 TX (SH m N):=by
  refine⟨fun i hi=> ?_,fun i p hp=> ?_,rfl⟩
  ·by_cases him:i<M
   ·obtain⟨b,B,h1,h2,_⟩:=all i him
    have kq:b<N:=(AF9.1 h2).1;have g1:=hf.ids i b h1;have g2:=ke i (by omega) hi;rw[la i b h1];simp only[E2,AGH kq];exact⟨by rw[g2.1,g1.1],by rw[g2.2,g1.2]⟩
   ·rw[qz i (by omega)]
    have: ¬(N+(i-M)<N):=by omega
    simp only[E2,AGU this];rw[show M+(N+(i-M)-N)=i by omega];exact⟨rfl,rfl⟩
  ·obtain⟨z,z1,z2⟩:=UW (SH m N) (u:=u.2) hp
   refine⟨z,z1,?_⟩;have:=s2 i _ z2
   rwa [AJv]at this
 have rJ:∀n,n<N→some n∉m→TX[n]? =bk[n]?:=fun n hn hm=>by
  refine s3 n (by omega) fun j hj he=> ?_
  rw[AJv]at he;by_cases hjm:j<M
  ·obtain⟨b,B,h1,h2,_⟩:=all j hjm
   rw[la j b h1]at he;subst he;exact hm (AH9 h1)
  ·have:=qz j (by omega)
   omega
 have keep:Nk E w σ.bx E2 w' (B7 TX m):=by
  refine⟨by rw[FR];exact aV,fun b hb=>by simp only[E2];rw[AGH hb],fun d hd=> .inl hd,hS,st,jy,fun b d r rows hb hq=> ?_⟩;have hbm:some b∉m:=fun hm=>by have:=QM hm hq;cases this
  rw[MD hbm,rJ b hb hbm]at hq;have hq1:=sA hq;have eu:σ.bx[b]? =some (.sl d r rows):=by
   rcases M5 (DO.refl σ.bx) b _ hq1 with e|e
   ·cases e
   ·exact e
  refine⟨d,rows,eu,fun p hp q ys hgp=>⟨hp,⟨ys,hgp,rfl⟩,fun h' hh=> ?_⟩⟩;have hFk:Fk[b]? =some (Fk[b]'(by rw[k1.1,FR];exact hb)):=AGI _;obtain⟨_,ho⟩:=k1.2 b _ _ hq1 hFk;have e2:E2.Fq b=E.Fq b:=by simp only[E2];rw[AGH hb]
  rw[e2];exact hI ho (fun d hd=>jy d (st d hd)) (fun d hd=>sK d (AIb.2 ⟨_,AH9 hFk,hd⟩)) hp hgp hh
 have vr:∀x v,VR E w σ.bx x v→VR E2 w' TX (DM m x) v:=fun x v hx=>by
  refine pE keep (fun b d' r B3 hbm hq=> ?_) aV hx;obtain⟨i,hi,him⟩:=AJE hbm;have ABH:m[i]? =some (some b):=by rw[AGI hi,him]
  obtain⟨b',B,h1,h2,h3,h4⟩:=all i hi;rw[ABH]at h1;cases h1;have hio:i<c.outs.Eb.length:=by omega
  have hp:c.outs.Eb[i]? =some c.outs.Eb[i]:=AGI hio;obtain⟨z,z1,z2⟩:=rn.bx i _ hp;rw[la i b ABH,hq]at z2;have AGu:c.ins.Eb[i]? =some (c.ins.Eb[i]'(by omega)):=AGI _
  generalize c.outs.Eb[i]=po at z hp z1 z2
  cases po with
  |mem q=>simp[BP.mk]at z2
  |gone=>simp[BP.mk]at z2
  |sl d0 q=>
   simp only[BP.mk,AGL,Bx.sl.injEq]at z2;obtain⟨rfl,rfl,z2⟩:=z2;obtain rfl:=AIe z2;obtain⟨d1,hpo⟩:=(hk i _ AGu).2 _ _ hp;obtain⟨d2,rows,rfl⟩:=h4 d1 r (by rw[AGu,hpo]);have kq:b<N:=(AF9.1 h2).1;have eh:E2.Fq b=E.Fq b:=by simp only[E2];rw[AGH kq]
   refine⟨d2,rows,h2,?_,eh⟩;obtain⟨F0,hR0,_⟩:=h.bx.take h2;have hFi:Fs[i]? =some (Fs[i]'(by rw[hFs1.1,N6];exact hio)):=AGI _;obtain⟨_,mN⟩:=hFs1.2 i _ _ z1 hFi;have pf:alive c.outs.Eb i=true:=by simp[alive,hp]
   rw[(ke i (by omega) pf).2,(hf.ids i b ABH).2]at mN;exact l8 (SE hR0.2) (SE mN)
 have Wt:c.outs.Eb.all (BP.Ju c.outs.Eb)=true:=hbo;have rel:Rel E2 { tm:=(σ.Q1 m).tm,bx:=TX } a w':=by
  refine⟨h.Jq,?_,?_⟩
  ·rw[gi]
   exact Bj.Ie _ (fun x v hx=>pL vr hx) h.tm
  ·refine Ve ro (Fs:=Fs) (by simp[AFz]) (fun i _ hi=> ?_) (by rw[hFs1.1,N6];exact AJg.symm) (fun j B F hB hF=> ?_) ?_
   ·obtain⟨b,B,h1,h2,_⟩:=all i hi
    rw[la i b h1];have kq:b<(B7 σ.bx m).length:=by rw[FR];exact(AF9.1 h2).1
    have hd:(B7 σ.bx m)[b]? =some .dead:=by
     rw[AGI kq];exact congrArg some (QM (AH9 h1) (AGI kq))
    simp only[bk];rw[AIg,hd];rfl
   ·rw[AJv]
    have nN:=(AF9.1 hB).1;have hp:c.outs.Eb[j]? =some (c.outs.Eb[j]'(by omega)):=AGI _;obtain⟨z,z1,z2⟩:=UW (SH m N) (u:=u.2) hp;have NQ:Bs[j]? =_:=z2;rw[hB]at NQ;cases NQ;exact ABu rn hp (AI7.1 Wt _ (AIN _)) (hFs1.2 j _ _ z1 hF)
   ·
    refine⟨Fk,⟨by simp[bk,k1.1],fun n B F hn hF=> ?_⟩,?_⟩
    ·simp only[bk]at hn
     rw[AIg,AGV]at hn;obtain⟨B0,hn,rfl⟩:=hn;have jH:n<N:=by have:=(AF9.1 hn).1;rwa [FR]at this
     have h3:=k1.2 n B0 F hn hF;have hFw:∀d∈F,w'.heap[d]? =w.heap[d]?:=fun d hd=>sK d (AIb.2 ⟨F,AH9 hF,hd⟩)
     have eb:E2.Fc n=E.Fc n:=by simp only[E2];rw[AGH jH]
     have eh:E2.Fq n=E.Fq n:=by simp only[E2];rw[AGH jH]
     cases B0 with
     |mem cs=>
      obtain⟨rfl,arr,ty,fr,ha,hu,hv⟩:=h3;exact⟨by rw[eb],arr,ty,fr,by rw[eb,hFw _ (by simp),ha],hu,Bj.Ie _ vr hv⟩
     |sl d r rows=>
      refine⟨h3.1,?_⟩;rw[eh];exact Cq hS (fun d hd=>jy d (st d hd)) hFw h3.2
     |dead=>exact h3
    ·refine⟨AHW.2 ⟨k2,hFs2.nodup,fun x hx z hz he=> ?_⟩,fun d hd ht=> ?_,fun d hd=> ?_,fun d hd=> .inr hd,fun d hd=> ?_⟩
     ·subst he
      exact hFs2.free x hz (base.T x (k3 x hx).2.2.2)
     ·rcases AHp.1 hd with hd|hd
      ·rcases ht with ht|ht
       ·exact(k3 d hd).1 ht
       ·exact hSk d hd ht
      ·rcases ht with ht|ht
       ·exact hFs2.free d hd (base.T d (hf.T d ht))
       ·exact hFs2.free d hd (hFs2.st d ht)
     ·rcases AHp.1 hd with hd|hd
      ·exact AIm (k3 d hd).2.2.1 base.size
      ·exact hFs2.lt d hd
     ·rcases hd with hd|hd
      ·exact AIm (W0 d hd) base.size
      ·exact hFs2.W0 d (hFs2.st d hd)
 have yX:MV (mI c N0 xs σ) E σ.bx w E2 TX w':=by
  refine⟨AHs,aV,fun n hn=>⟨by simp only[E2];rw[AGH hn],by simp only[E2];rw[AGH hn]⟩,fun n hn=> ?_,fun n B B' hnt hB NQ nO=> ?_⟩
  rotate_left 1
  ·have jH:=(AF9.1 hB).1
   have hnm:some n∉m:=fun hm=>hnt (by
    simp only[mI,Tf,List.mem_filterMap];exact⟨some n,hm,rfl⟩)
   rw[rJ n jH hnm]at NQ;simp only[bk]at NQ;have hkn:(B7 σ.bx m)[n]? =some B:=by rw[MD hnm];exact hB
   rw[AIg,hkn]at NQ;have NQ:Bx.map (DM m) B=B':=by simpa using NQ
   have hFk:Fk[n]? =some (Fk[n]'(by rw[k1.1,FR];exact jH)):=AGI _;refine⟨?_,fun d hd=> ?_⟩
   ·subst NQ
    cases B with
    |mem cs=>trivial
    |sl d r rows=>rfl
    |dead=>exact absurd rfl nO
   ·rcases Wa (k1.2 n B _ hkn hFk) hd with hs|hs
    ·exact jy d (st d hs)
    ·exact sK d (AIb.2 ⟨_,AH9 hFk,hs⟩)
  have jH:=(AF9.1 hn).1;have hnm:some n∉m:=fun hm=>by
   obtain⟨i,hi,him⟩:=AJE hm;obtain⟨b,B,h1,h2,h3,_⟩:=all i hi;rw[AGI hi,him]at h1;cases h1;rw[hn]at h2;cases h2;exact h3 rfl
  rw[rJ n jH hnm];simp only[bk];rw[AIg,MD hnm,hn];rfl
 refine⟨x,E2,WV c.outs.Cn u.1 (SH m N),{ tm:=(σ.Q1 m).tm,bx:=TX },rfl,rel,fk rn hslot Cn,yX,by simp[gi],?_⟩;rw[AIz]at e;exact e
theorem nj{f:Nat}{c:PQ}(hc:Ur P f c)(h:Rel E σ a w){xs:List XV}{vs:List Value}(hxs:Bj (XR E w σ.bx) xs vs)(e:aH c xs σ k=some y):
  Calls P f vs.toArray w fun e w' => ∃x E' xv σ',e= .returned x∧Rel E' σ' a w'∧XR E' w' σ'.bx xv x∧MV (Qm c xs σ) E σ.bx w E' σ'.bx w'∧σ'.tm.length=σ.tm.length∧k xv σ' =some y:=by
 unfold aH at e;split at e
 case isFalse=>cases e
 rename_i hlen;obtain⟨E',h1,h2,h3,h4⟩:=gE h c.ins;have hold:∀b,b<σ.bx.length→(c.ins.opens σ.bx)[b]? =σ.bx[b]?:=fun b hb=>by simp only[Bn.opens];rw[AG0 hb]
 refine(mT (N0:=σ.bx.length) hc h1 h3 (hxs.imp fun x v hx=>h4 x v hx) hlen (k:=k) (y:=y) e).mono fun e' w' hR=> ?_
 obtain⟨x,E2,xv,σ',q0,q1,q2,q3,q4,q5⟩:=hR;exact⟨x,E2,xv,σ',q0,q1,q2,h2.after hold q3,q4,q5⟩
end
end Go.Fw
end
section
namespace Go.Fw
def XC(P:Program)(Γ:Nat→Option PQ):Prop:= ∀f c,Γ f=some c→Ur P f c
theorem fc{Γ:Nat→Option PQ}{σ:St}{o:Op}(h:ea o=false):GA (fun _=>none) σ o=GA Γ σ o:=by
 cases o with
 |call c=>
  obtain⟨callee,args,fm⟩:=c;cases callee with
  |value f=>simp[ea]at h
  |invoke _ _=>rfl
  |builtin b=>cases b<;>rfl
 |_=>rfl
theorem AHD{Y:Type}{P:Program}{Γ:Nat→Option PQ}{o:Oper}{E:Env}{σ:St}{a:Act}{w:World}{k:K Y}{y:Y}{g:Nat}{c:PQ}(hsc:Ur P g c)(h:Rel E σ a w){f:Operand}{args:Array Operand}{fm:Array TypeId}
  (ho:o.op= .call { callee:= .value f,args:=args,argTypes:=fm }) {ps:List Value} (UA:a.eval f= .func (.func g) #[] ps.toArray) {xs:List XV} (GI:Bj (XR E w σ.bx) xs (args.toList.map a.eval++ps)) (ht:GA Γ σ o.op=Qm c xs σ)
  (e:aH c xs σ k=some y) {next:Act→World→Prop} {Q:Exit→Act→World→Prop}
  (hn:∀v w' E' x σ',Rel E' σ' a w'→XR E' w' σ'.bx x v→MV (GA Γ σ o.op) E σ.bx w E' σ'.bx w'→σ'.tm.length=σ.tm.length→k x σ' =some y→next (a.put o.dst v) w'):o.wp P a w next Q:=by
 have gN:=nj hsc h GI e;have fq:(execOp a.eval o).run P w= .ok (.enter g (args.toList.map a.eval++ps).toArray) w:=by
  have e2:(args.map a.eval)++ps.toArray=(args.toList.map a.eval++ps).toArray:=by
   apply Array.ext';simp
  simp only[execOp,ho,resolve,UA,Deferred.ofValue,Sem.run_bind,Sem.run_pure,Result.andThen_ok,invoke,Array.empty_append,e2,hsc.2.1]
 unfold Oper.wp;rw[fq];simp only[Oper.upon];refine gN.mono fun e w' hR=> ?_
 obtain⟨x,E',xv,σ',rfl,h1,h2,h3,h4,h5⟩:=hR;rw[←ht]at h3;exact hn x w' E' xv σ' h1 h2 h3 h4 h5
section
variable{Y:Type} {P:Program} {T:HE} (hT:DY P T) {Γ:Nat→Option PQ} (hΓ:XC P Γ) {o:Oper} {E:Env} {σ:St} {a:Act} {w:World} {k:K Y} {y:Y}
include hT hΓ
theorem mw(h:Rel E σ a w)(e:Qz T Γ o σ k=some y){next:Act→World→Prop}{Q:Exit→Act→World→Prop}
  (hn:∀v w' E' x σ',Rel E' σ' a w'→XR E' w' σ'.bx x v→MV (GA Γ σ o.op) E σ.bx w E' σ'.bx w'→σ'.tm.length=σ.tm.length→k x σ' =some y→next (a.put o.dst v) w'):o.wp P a w next Q:=by
 by_cases hc:ea o.op=false
 ·obtain⟨v,w',E',x,σ',hr,h1,h2,h3,h4,h5⟩:=oc hT h e hc
  rw[fc hc]at h3;unfold Oper.wp;rcases hr with hr|⟨hr,rfl⟩
  ·rw[hr]
   exact hn v w' E' x σ' h1 h2 h3 h4 h5
  ·rw[hr]
   exact hn _ w' E' x σ' h1 h2 h3 h4 h5
 ·
  unfold ea at hc;split at hc
  case h_2=>simp at hc
  rename_i f args fm ho;unfold Qz at e;rw[ho]at e;dsimp only at e;split at e
  case h_3=>cases e
  ·rename_i g G6 hf
   split at e
   case h_2=>cases e
   rename_i c hg;have hv:=h.ev f;rw[hf]at hv;obtain⟨U5,UA⟩:(∀b∈G6,b<σ.bx.length)∧a.eval f= .func (.func g) #[] (G6.map fun b=>Value.pointer (some ⟨E.Fc b,0,none⟩)).toArray:=hv;have hsc:=hΓ g c hg;have GI:Bj (XR E w σ.bx) (args.toList.map σ.ev++G6.map fun b=> .c (.FW b 0)) (args.toList.map a.eval++G6.map fun b=>Value.pointer (some ⟨E.Fc b,0,none⟩)):=by
    refine Bj.append (evs h args.toList) ?_
    clear UA hf e
    induction G6 with
    |nil=>trivial
    |cons b l ih=>exact⟨⟨U5 b (by simp),rfl⟩,ih (fun c hc=>U5 c (by simp[hc]))⟩
   have ht:GA Γ σ o.op=Qm c (args.toList.map σ.ev++G6.map fun b=> .c (.FW b 0)) σ:=by
    rw[ho];simp only[GA,hf,hg,Qm];rfl
   exact AHD hsc h ho UA GI ht e hn
  ·rename_i g rows hf
   split at e
   case h_2=>cases e
   rename_i c hg;have hv:=h.ev f;rw[hf]at hv;obtain⟨ps,UA,U5⟩:∃ps:List Value,a.eval f= .func (.func g) #[] ps.toArray∧Bj (RA E w) rows ps:=hv;have hsc:=hΓ g c hg;have GI:Bj (XR E w σ.bx) (args.toList.map σ.ev++rows.map fun q=> .c (.J4 false q.1 q.2 0)) (args.toList.map a.eval++ps):=by
    refine Bj.append (evs h args.toList) ?_
    clear UA hf e
    induction rows generalizing ps with
    |nil=>
     cases ps with
     |nil=>trivial
     |cons _ _=>exact U5.elim
    |cons q l ih=>
     cases ps with
     |nil=>exact U5.elim
     |cons p ps=>
      obtain⟨⟨bb,o,cs,h1,h2,h3,h4,h5⟩,U5⟩:=U5;exact⟨⟨bb,o,cs,h1,h2,h3,h4,h5⟩,ih ps U5⟩
   have ht:GA Γ σ o.op=Qm c (args.toList.map σ.ev++rows.map fun q=> .c (.J4 false q.1 q.2 0)) σ:=by
    rw[ho];simp only[GA,hf,hg,Qm];rfl
   exact AHD hsc h ho UA GI ht e hn
end
theorem Rel.tmp{E:Env}{σ:St}{a:Act}{w:World}(h:Rel E σ a w){t:Nat}{x:XV}(e:σ.tm[t]? =some x):∃v,a.tmps[t]? =some v∧XR E w σ.bx x v:=by
 obtain⟨v,h1,h2⟩:=h.tm.get e;exact⟨v,by simpa using h1,h2⟩
def ACr:Value→Option Bool
 | .bool b=>some b
 |_=>none
theorem US{ops:Array Oper}{tmps:Array Value}{j t:Nat}(e:(ops[j]?).bind (·.dst)=some t){v:Value}(hv:tmps[t]? =some v):yielded ops tmps j=ACr v:=by
 simp only[yielded,e,AGR,hv];cases v<;>rfl
theorem cI{E:Env}{w:World}{vw:List Bx}:XR E w vw (.Jy []) undef:=⟨#[],rfl,trivial⟩
structure Ok (E0:Env) (w0:World) (N nb:Nat) (E:Env) (σ:St) (a:Act) (w:World):Prop where
 rel:Rel E σ a w
 base:Wr E0 w0 E w
 tm:σ.tm.length=N
 ey:nb≤σ.bx.length
 ids:∀i,i<nb→σ.bx[i]?≠some .dead→E.Fc i=E0.Fc i∧E.Fq i=E0.Fq i
theorem Ok.next{E0 E E':Env}{w0 w w':World}{N nb:Nat}{σ σ':St}{a a':Act}{t:AAU}(h:Ok E0 w0 N nb E σ a w)(hr:Rel E' σ' a' w')(hw:MV t E σ.bx w E' σ'.bx w')(hl:σ'.tm.length=σ.tm.length):Ok E0 w0 N nb E' σ' a' w':=
 ⟨hr,h.base.trans hw.base,hl.trans h.tm,AIx h.ey hw.len,fun i hi hd=>by
  have h1:=hw.ids i (AIm hi h.ey);have h2:=h.ids i hi (fun hh=>hd (hw.dead i hh));exact⟨h1.1.trans h2.1,h1.2.trans h2.2⟩⟩
theorem Ok.put{E0 E:Env}{w0 w:World}{N nb:Nat}{σ:St}{a:Act}(h:Ok E0 w0 N nb E σ a w)(dst:Option Tmp){x:XV}{v:Value}(hx:XR E w σ.bx x v):Ok E0 w0 N nb E (σ.put dst x) (a.put dst v) w:=by
 have e1:(σ.put dst x).bx=σ.bx:=by cases dst<;>rfl
 have e2:(σ.put dst x).tm.length=σ.tm.length:=by cases dst<;>simp[St.put]
 refine⟨h.rel.put dst hx,h.base,e2.trans h.tm,by rw[e1];exact h.ey,fun i hi hd=>h.ids i hi (by rwa [e1]at hd)⟩
theorem Ok.same{E0 E:Env}{w0 w:World}{N nb:Nat}{σ σ1:St}{a:Act}(h:Ok E0 w0 N nb E σ a w)(hr:Rel E σ1 a w)(hb:σ1.bx=σ.bx)(hl:σ1.tm.length=σ.tm.length):Ok E0 w0 N nb E σ1 a w:=
 ⟨hr,h.base,hl.trans h.tm,by rw[hb];exact h.ey,fun i hi hd=>h.ids i hi (by rwa [hb]at hd)⟩
end Go.Fw
end
section
namespace Go.Fw
section
variable{Y:Type}
abbrev k0:K (XV×St):=fun x σ=>some (x,σ)
theorem oK{op:BinOp}{κ:IntKind}{a b:Int}(k:AV→Option Y):Wy op κ a b k=(Wy op κ a b some).bind k:=by
 cases op<;>simp[Wy]<;>split<;>rfl
theorem aD{op:BinOp}{κ:IntKind}{a b:Int}(k:AV→Option Y):Sk op κ a b k=(Sk op κ a b some).bind k:=by
 unfold Sk;split
 ·rfl
 ·cases op<;>simp
theorem nq{op:BinOp}{a b:AAg}(k:AV→Option Y):Ys op a b k=(Ys op a b some).bind k:=by
 cases op<;>simp[Ys]<;>split<;>rfl
theorem dK{T:HE}{t:Nat}{op:BinOp}{a b:XV}(k:AV→Option Y):ja T t op a b k=(ja T t op a b some).bind k:=by
 unfold ja;split
 ·split
  ·exact aD k
  ·exact aD k
  ·split
   ·exact oK k
   ·rfl
 ·exact nq k
 ·split
  ·split
   ·split<;>rfl
   ·rfl
  ·rfl
 ·split<;>rfl
 ·rfl
theorem jA{op:UnOp}{a:XV}(k:AV→Option Y):unX op a k=(unX op a some).bind k:=by
 unfold unX;split<;>rfl
theorem Tx{g:Bool}{a b:XV}(k:AV→Option Y):hE g a b k=(hE g a b some).bind k:=by
 unfold hE;split
 ·split
  ·cases g<;>rfl
  ·rfl
 ·rfl
theorem Ig{len:Nat}{lo hi:Option XV}(k:Nat→Nat→Option Y):KK len lo hi k=(KK len lo hi fun l h=>some (l,h)).bind fun p=>k p.1 p.2:=by
 unfold KK;dsimp only;split
 ·split<;>rfl
 ·rfl
theorem mC{T:HE}{t:Nat}{σ:St}{x:XV}{lo hi:Option XV}(k:K Y):ZB T t σ x lo hi k=(ZB T t σ x lo hi k0).bind fun p=>k p.1 p.2:=by
 unfold ZB;split
 ·split
  ·rw[Ig,Ig (Y:=XV×St),AI3];rfl
  ·rfl
 ·split
  ·rw[Ig,Ig (Y:=XV×St),AI3];rfl
  ·rfl
 ·split
  ·split
   ·rw[Ig,Ig (Y:=XV×St),AI3];rfl
   ·rfl
  ·rfl
 ·rfl
theorem mS{T:HE}{t:Nat}{σ:St}{x i:XV}(k:K Y):ZI σ T t x i k=(ZI σ T t x i k0).bind fun p=>k p.1 p.2:=by
 unfold ZI;split
 ·split
  ·split<;>rfl
  ·rfl
 ·split
  ·split
   ·split<;>rfl
   ·rfl
  ·rfl
 ·split
  ·split
   ·split<;>rfl
   ·rfl
  ·rfl
 ·rfl
theorem fS{T:HE}{t:Nat}{σ:St}{x i:XV}(k:K Y):Qk T t σ x i k=(Qk T t σ x i k0).bind fun p=>k p.1 p.2:=by
 unfold Qk;split
 ·split
  ·split<;>rfl
  ·rfl
 ·rfl
theorem nz{T:HE}{s d:Nat}{σ:St}{x:XV}(k:K Y):gj T s d σ x k=(gj T s d σ x k0).bind fun p=>k p.1 p.2:=by
 unfold gj;split
 ·rfl
 ·rfl
 ·split
  ·split<;>rfl
  ·rfl
 ·split<;>rfl
 ·rfl
theorem oQ{T:HE}{t:Nat}{σ:St}{l c:XV}(k:K Y):gk T t σ l c k=(gk T t σ l c k0).bind fun p=>k p.1 p.2:=by
 unfold gk;split
 ·split
  ·split
   ·split<;>rfl
   ·rfl
  ·rfl
 ·rfl
theorem aw{T:HE}{t n:Nat}{ps:List (Nat×XV)}{σ:St}(k:K Y):MR T t n ps σ k=(MR T t n ps σ k0).bind fun p=>k p.1 p.2:=by
 unfold MR;split
 ·split
  ·split
   ·rw[AI3];rfl
   ·rfl
  ·rfl
 ·rfl
theorem kk{T:HE}{ts:Array TypeId}{σ:St}{a x:XV}(k:K Y):WG T ts σ a x k=(WG T ts σ a x k0).bind fun p=>k p.1 p.2:=by
 unfold WG;split
 ·split
  ·split
   ·rw[AI3]
    congr 1;funext s
    split
    ·split<;>rfl
    ·rfl
   ·rw[AI3]
    congr 1;funext s
    split
    ·rw[AI3]
     congr 1;funext q
     rw[AI3];congr 1;funext z;split<;>rfl
    ·rfl
   ·rfl
  ·rfl
 ·rfl
theorem lF{T:HE}{ts:Array TypeId}{σ:St}{x:XV}(k:K Y):Za T ts σ x k=(Za T ts σ x k0).bind fun p=>k p.1 p.2:=by
 unfold Za;split
 ·split
  ·split<;>rfl
  ·rfl
 ·rfl
theorem gh{c:PQ}{xs:List XV}{σ:St}(k:K Y):aH c xs σ k=(aH c xs σ k0).bind fun p=>k p.1 p.2:=by
 unfold aH;split
 ·split
  ·rw[AI3];rfl
  ·rfl
 ·rfl
theorem jv{σ:St}{x:XV}(k:K Y):Un σ x k=(Un σ x k0).bind fun p=>k p.1 p.2:=by
 unfold Un;split
 ·rw[AI3];rfl
 ·rfl
theorem ga{T:HE}{Γ:Nat→Option PQ}{o:Oper}{σ:St}(k:K Y):Qz T Γ o σ k=(Qz T Γ o σ k0).bind fun p=>k p.1 p.2:=by
 unfold Qz;split
 ·rfl
 ·exact jv k
 ·split
  ·rename_i x _
   cases x<;>rfl
  ·rfl
 ·split<;>rfl
 ·split
  ·split<;>rfl
  ·rfl
 ·split
  ·split<;>rfl
  ·rfl
 ·exact aw k
 ·split<;>rfl
 ·split
  ·split
   ·split<;>rfl
   ·rfl
  ·rfl
 ·split<;>rfl
 ·rw[dK,dK (Y:=XV×St),AI3];rfl
 ·rw[jA,jA (Y:=XV×St),AI3];rfl
 ·exact nz k
 ·split
  ·split<;>rfl
  ·rfl
 ·exact oQ k
 ·exact mC k
 ·split<;>rfl
 ·split<;>rfl
 ·exact mS k
 ·exact fS k
 ·split<;>rfl
 ·split
  ·split
   ·exact gh k
   ·rfl
  ·split
   ·exact gh k
   ·rfl
  ·rfl
 ·split
  ·split<;>rfl
  ·split
   ·split<;>rfl
   ·rfl
  ·rfl
 ·split
  ·exact kk k
  ·rfl
 ·split
  ·exact lF k
  ·rfl
 ·split
  ·rw[Tx,Tx (Y:=XV×St),AI3];rfl
  ·rfl
 ·split
  ·rw[Tx,Tx (Y:=XV×St),AI3];rfl
  ·rfl
 ·rfl
theorem Zs{I:Type}[Nonempty I]{T:HE}{Γ:Nat→Option PQ}{o:Oper}{σ:St}{k:I→K Y}{y:Y}(h:∀i,Qz T Γ o σ (k i)=some y):∃x σ',Qz T Γ o σ k0=some (x,σ')∧ ∀i,k i x σ' =some y:=by
 obtain⟨i0⟩:= ‹Nonempty I›;have h0:=h i0;rw[ga]at h0;rw[AGs]at h0;obtain⟨⟨x,σ'⟩,h1,h2⟩:=h0;refine⟨x,σ',h1,fun i=> ?_⟩;have:=h i;rw[ga,h1]at this;exact this
end
end Go.Fw
end
section
namespace Go.Fw
def WF{α:Type}(P:Program)(s:Sem α):Prop:= ∀w v w1,s.run P w= .ok v w1→ ∀w',s.run P w' = .ok v w'
section
variable{α β:Type} {P:Program}
theorem WF.pure(x:α):WF P (Pure.pure x:Sem α):=fun w v w1 h w' =>by
 simp only[Sem.run_pure,Result.ok.injEq]at h⊢;exact⟨h.1,trivial⟩
theorem WF.bind{s:Sem α}{f:α→Sem β}(h:WF P s)(k:∀v,WF P (f v)):WF P (s >>= f):=fun w v w1 e w' =>by
 rw[Sem.run_bind]at e⊢;cases hs:s.run P w with
 |ok u w2=>
  rw[hs]at e;simp only[Result.andThen_ok]at e;rw[h w u w2 hs w'];simp only[Result.andThen_ok];exact k u w2 v w1 e w'
 |halt x w2=>
  rw[hs]at e;simp[Result.andThen]at e
theorem WF.halt(x:Halt):WF P (.halt x:Sem α):=fun w v w1 e w' =>by simp[Sem.run]at e
theorem WF.program:WF P program:=fun w v w1 e w' =>by
 rw[run_program]at e⊢;cases e;rfl
theorem WF.typeInfo(t:TypeId):WF P (typeInfo t):=WF.bind WF.program fun p=>by
 split
 ·exact WF.pure _
 ·exact WF.halt _
theorem WF.underlying(t:TypeId):WF P (underlying t):=WF.bind WF.program fun p=>by
 split
 ·exact WF.pure _
 ·exact WF.halt _
theorem WF.sizeOf(t:TypeId):WF P (Go.sizeOf t):=WF.bind (WF.typeInfo t) fun _=>WF.pure _
theorem WF.isAgg(t:TypeId):WF P (isAgg t):=WF.bind (WF.underlying t) fun d=>by
 split<;>exact WF.pure _
theorem WF.zeroValue(t:TypeId):WF P (zeroValue t):=WF.bind (WF.typeInfo t) fun i=>by
 split
 ·exact WF.pure _
 ·exact WF.halt _
theorem WF.asIntOf(v:Value):WF P (asIntOf v):=by
 unfold Go.asIntOf;split
 ·exact WF.pure _
 ·exact WF.halt _
 ·exact WF.halt _
theorem WF.asBool(v:Value):WF P (asBool v):=by
 unfold Go.asBool;split
 ·exact WF.pure _
 ·exact WF.halt _
theorem WF.asAgg(v:Value):WF P (asAgg v):=by
 unfold Go.asAgg;split
 ·exact WF.pure _
 ·exact WF.halt _
theorem WF.sureAddr(v:Value):WF P (Instr.sureAddr v):=by
 unfold Instr.sureAddr;split
 ·exact WF.pure _
 ·exact WF.halt _
theorem WF.jk{s:Sem α}(h:∀w v w1,s.run P w≠ .ok v w1):WF P s:=fun w v w1 e=>absurd e (h w v w1)
theorem RI{s:Sem α}{f:α→Sem β}(h:∀x w v w1,(f x).run P w≠ .ok v w1):∀w v w1,(s >>= f).run P w≠ .ok v w1:=fun w v w1 e=>by
 rw[Sem.run_bind]at e;cases hs:s.run P w with
 |ok u w2=>rw[hs]at e;exact h u w2 v w1 e
 |halt x w2=>rw[hs]at e;simp[Result.andThen]at e
theorem XL(x:Halt):∀w v w1,(.halt x:Sem α).run P w≠ .ok v w1:=fun w v w1 e=>by simp[Sem.run]at e
theorem ag(e:RuntimeError):∀w v w1,(runtimePanic e:Sem α).run P w≠ .ok v w1:=by
 unfold runtimePanic;refine RI fun p=> ?_
 dsimp only;split<;>first
  |exact XL _
  |exact RI fun _=>RI fun _=>XL _
  |exact RI fun _=>XL _
theorem WF.bounds(k:IntKind)(x y:Int)(c:BoundsCode):WF P (boundsPanic k x y c:Sem α):=WF.jk (by
 unfold boundsPanic;dsimp only;split<;>exact RI fun _=>ag _)
theorem WF.part(t:TypeId)(cs:Array Value)(o:Nat):WF P (part t cs o):=WF.bind (WF.isAgg t) fun b=>by
 split
 ·exact WF.bind (WF.sizeOf t) fun _=>WF.pure _
 ·split
  ·exact WF.pure _
  ·exact WF.halt _
theorem WF.field(t:TypeId)(x:Value)(f:Nat):WF P (Instr.field t x f):=WF.bind (WF.underlying t) fun d=>by
 split
 ·split
  ·exact WF.bind (WF.asAgg x) fun _=>WF.part _ _ _
  ·exact WF.halt _
 ·exact WF.halt _
theorem WF.indexAt(t:TypeId)(x i:Value):WF P (Instr.indexAt t x i):=WF.bind (WF.asIntOf i) fun q=>by
 obtain⟨k,i⟩:=q;dsimp only;refine WF.bind (WF.underlying t) fun d=> ?_
 have rest:∀q:Option Addr×Nat×TypeId,WF P (do
   let d←Go.underlying t
   match q.1 with
   |some a=>
    if 0≤i∧i<(q.2.1:Int)then do
     let s←Go.sizeOf q.2.2
     Pure.pure (Value.pointer (some (a.add (i.toNat*s))))
    else if(decide (q.2.1≤1)&&(match d with| .array .. =>true|_=>false))=true then unsupported (.noEntry "op/indexAddr.an index out of range at an array of length 0 or 1 (ledger 616)")
    else boundsPanic k i q.2.1 .index
   |none=>boundsPanic k i 0 .index:Sem Value):=fun q=>by
  refine WF.bind (WF.underlying t) fun d=> ?_
  split
  ·split
   ·exact WF.bind (WF.sizeOf _) fun _=>WF.pure _
   ·repeat' split
    all_goals first|exact WF.halt _|exact WF.bounds _ _ _ _
  ·exact WF.bounds _ _ _ _
 split
 ·exact WF.bind (WF.sureAddr _) fun _=>WF.bind (WF.pure _) fun q=>rest q
 ·exact WF.bind (WF.pure _) fun q=>rest q
 ·exact WF.bind (WF.halt _) fun q=>rest q
theorem WF.index(t:TypeId)(x i:Value):WF P (Instr.index t x i):=WF.bind (WF.asIntOf i) fun q=>by
 obtain⟨k,i⟩:=q;dsimp only;refine WF.bind (WF.underlying t) fun d=> ?_
 split
 ·split
  ·exact WF.bind (WF.sizeOf _) fun _=>WF.part _ _ _
  ·exact WF.bounds _ _ _ _
 ·split
  ·exact WF.pure _
  ·exact WF.bounds _ _ _ _
 ·exact WF.halt _
theorem WF.extract(x:Value)(i:Nat):WF P (Instr.extract x i):=by
 unfold Instr.extract;split
 ·split
  ·exact WF.pure _
  ·exact WF.halt _
 ·exact WF.halt _
theorem WF.sliceBound(x:Value)(y:Nat)(c:BoundsCode):WF P (Instr.sliceBound x y c):=WF.bind (WF.asIntOf x) fun q=>by
 obtain⟨k,i⟩:=q;dsimp only;split
 ·exact WF.pure _
 ·exact WF.bounds _ _ _ _
theorem WF.sliceBounds(b:Bool)(len cap:Nat)(l h:Option Value):WF P (Instr.sliceBounds b len cap l h none):=by
 cases h with
 |none=>
  cases l with
  |none=>exact WF.bind (WF.pure _) fun _=>WF.bind (WF.pure _) fun _=>WF.bind (WF.pure _) fun _=>WF.pure _
  |some l=>exact WF.bind (WF.pure _) fun _=>WF.bind (WF.pure _) fun _=>WF.bind (WF.sliceBound _ _ _) fun _=>WF.pure _
 |some h=>
  cases l with
  |none=>exact WF.bind (WF.pure _) fun _=>WF.bind (WF.sliceBound _ _ _) fun _=>WF.bind (WF.pure _) fun _=>WF.pure _
  |some l=>exact WF.bind (WF.pure _) fun _=>WF.bind (WF.sliceBound _ _ _) fun _=>WF.bind (WF.sliceBound _ _ _) fun _=>WF.pure _
theorem WF.asAddr(v:Value):WF P (asAddr v):=by
 unfold Go.asAddr;split
 ·exact WF.pure _
 ·exact WF.jk (ag _)
 ·exact WF.halt _
theorem WF.slice(t:TypeId)(x:Value)(l h:Option Value):WF P (Instr.slice t x l h none):=WF.bind (WF.underlying t) fun d=>by
 split
 ·exact WF.bind (WF.sliceBounds _ _ _ _ _) fun _=>WF.pure _
 ·exact WF.bind (WF.sliceBounds _ _ _ _ _) fun _=>WF.bind (WF.sizeOf _) fun _=>WF.pure _
 ·refine WF.bind (WF.asAddr _) fun _=>WF.bind (WF.underlying _) fun d=> ?_
  split
  ·exact WF.bind (WF.sliceBounds _ _ _ _ _) fun _=>WF.bind (WF.sizeOf _) fun _=>WF.pure _
  ·exact WF.halt _
 ·exact WF.halt _
theorem WF.sliceAt(t:TypeId)(x:Value)(l h:Option Value):WF P (Instr.sliceAt t x l h none):=WF.bind (WF.underlying t) fun d=>by
 split
 ·exact WF.bind (WF.sureAddr _) fun _=>WF.bind (WF.sliceBounds _ _ _ _ _) fun _=>WF.bind (WF.sizeOf _) fun _=>WF.pure _
 ·exact WF.slice _ _ _ _
theorem WF.gL{f:α→Sem β}(h:∀x,WF P (f x)):∀l:List α,WF P (l.mapM f)
 |[]=>WF.pure _
 |x::l=>by
  rw[ALx];exact WF.bind (h x) fun _=>WF.bind (WF.gL h l) fun _=>WF.pure _
theorem WF.mapM{f:α→Sem β}(h:∀x,WF P (f x))(a:Array α):WF P (a.mapM f):=by
 rw[Array.mapM_eq_mapM_toList,←bind_pure_comp];exact WF.bind (WF.gL h _) fun _=>WF.pure _
theorem WF.build(t:TypeId)(ps:Array (Nat×Value)):WF P (Instr.build t ps):=WF.bind (WF.zeroValue t) fun z=>by
 refine WF.bind (WF.underlying t) fun d=> ?_
 split
 ·refine WF.bind (WF.mapM (fun f=>WF.bind (WF.sizeOf _) fun _=>WF.pure _) _) fun _=> ?_
  split
  ·exact WF.pure _
  ·exact WF.halt _
 ·refine WF.bind (WF.sizeOf _) fun _=> ?_
  split
  ·exact WF.pure _
  ·exact WF.halt _
 ·exact WF.halt _
end
end Go.Fw
end
section
namespace Go.Fw
def Kof(hint:AAU)(E:Env)(w:World)(bx:List Bx)(c:Nat):Prop:=E.T c∨ ∃n B,n∈hint∧bx[n]? =some B∧kt E w n B c
def dt(K:Nat→Prop)(w w':World):Prop:= ∀c,K c→w'.heap[c]? =w.heap[c]?
theorem nE{w:World}{B:Nat→Prop}:∀{p:List ae} {r:Ty} {h:Value} {rows:List r.D} {q:Ty} {ys:List q.D} {bb o len cap i:Nat},Rd w B (.sl r) [h] rows→CJ r rows p→EY r rows p=some ⟨q,ys⟩→
  Gw w h p=some (.slice (some ⟨bb,o,none⟩) len cap)→i<ys.length→RB w (.sl r) [h] rows bb
 |[],r,h,rows,q,ys,bb,o,len,cap,i,hr,hp,hg,hh,hi=>by
  rw[B5]at hh;cases hh;simp only[EY,AGL,AIM]at hg;obtain⟨rfl,hg⟩:=hg;obtain rfl:=AIe hg;simp only[RB];exact⟨bb,o,len,cap,rfl,by omega,.inl rfl⟩
 |s::p,r,h,rows,q,ys,bb,o,len,cap,i,hr,hp,hg,hh,hi=>by
  simp only[CJ]at hp;obtain⟨hsi,LW,hp⟩:=hp;simp only[Rd]at hr;obtain⟨a,cap',e1,_,hr⟩:=hr;obtain rfl:=(List.cons.inj e1).1;rcases hr with hr|⟨b',o',rfl,hb,hr⟩
  ·omega
  obtain⟨cs,hl,hc,hrow⟩:=hr s.i _ (L5 hsi);simp only[EY]at hg;split at hg
  case h_2=>cases hg
  rename_i q' x WC;rw[WC]at hp;dsimp only at hp;obtain⟨v,hv,hrv⟩:=WR hrow WC;have z8:=hc _ _ hv;rw[←LW]at z8;simp only[Gw,z8]at hh;have:=nE hrv hp hg hh hi;simp only[RB];refine⟨b',o',_,cap',rfl,by omega,.inr ⟨s.i,_,cs,L5 hsi,hl,hc,?_⟩⟩;clear hc z8 e1 hr;exact RB_cell hrow WC hv this
where
 RB_cell {w:World} {B:Nat→Prop} {c:Nat}:∀{r:Ty} {cs:List Value} {x:r.D} {j:Nat} {t:Ty} {y:t.D} {v:Value},Rd w B r cs x→Ah r j x=some ⟨t,y⟩→cs[j]? =some v→RB w t [v] y c→RB w r cs x c
 | .cons c r,cs,x,0,t,y,v,h,e,hv,k=>by
  simp only[Rd]at h;obtain⟨u,l,rfl,h1,h2⟩:=h;simp only[Ah,AGL,AIM]at e;obtain⟨rfl,e⟩:=e;obtain rfl:=AIe e;simp at hv;subst hv;simp only[RB];exact⟨u,l,rfl,.inl k⟩
 | .cons c r,cs,x,j+1,t,y,v,h,e,hv,k=>by
  simp only[Rd]at h;obtain⟨u,l,rfl,h1,h2⟩:=h;simp only[Ah]at e;have:=RB_cell h2 e (by simpa using hv) k;simp only[RB];exact⟨u,l,rfl,.inr this⟩
 | .int k,cs,x,0,t,y,v,h,e,hv,k' =>by
  simp only[Ah,AGL,AIM]at e;obtain⟨rfl,_⟩:=e;simp[RB]at k'
 | .bool,cs,x,0,t,y,v,h,e,hv,k' =>by
  simp only[Ah,AGL,AIM]at e;obtain⟨rfl,_⟩:=e;simp[RB]at k'
 | .str,cs,x,0,t,y,v,h,e,hv,k' =>by
  simp only[Ah,AGL,AIM]at e;obtain⟨rfl,_⟩:=e;simp[RB]at k'
 | .sl r,cs,x,0,t,y,v,h,e,hv,k=>by
  simp only[Ah,AGL,AIM]at e;obtain⟨rfl,e⟩:=e;obtain rfl:=AIe e;have hl:=Zo h;simp only[Ty.n]at hl;obtain⟨u,rfl⟩:=List.length_eq_one_iff.1 hl;simp at hv;subst hv;exact k
 | .unit,_,_,_,_,_,_,_,e,_,_=>by simp[Ah]at e
 | .int _,_,_,_+1,_,_,_,_,e,_,_=>by simp[Ah]at e
 | .bool,_,_,_+1,_,_,_,_,e,_,_=>by simp[Ah]at e
 | .str,_,_,_+1,_,_,_,_,e,_,_=>by simp[Ah]at e
 | .sl _,_,_,_+1,_,_,_,_,e,_,_=>by simp[Ah]at e
section
variable{P:Program} {T:HE} (hT:DY P T) {E:Env} {w:World}
include hT
theorem gp{σ:St}{Fs:List AAU}(hB:JX E w σ.bx σ.bx Fs)(st:∀c,E.S c→E.T c){t:Nat}{x:AV}{z:XV}(e:aF T t σ (.c x)=some z){v:Value}(hx:VR E w σ.bx x v):
  ∃bb oo u y,v= .pointer (some ⟨bb,oo,none⟩)∧Gg σ.bx x 0=some y∧XR E w σ.bx z u∧ ∀w',w'.heap[bb]? =w.heap[bb]?→(Instr.loadAt t v).run P w' = .ok u w':=by
 unfold aF at e;split at e
 case h_2=>cases e
 rename_i x' ti ks Mu;cases ks;split at e
 case isTrue=>cases e
 rename_i LW;have Yi:=fun w=>DY.isAgg hT Mu w
 split at e
 ·rename_i ha
  simp only[AGV]at e;obtain⟨l,hl,rfl⟩:=e;obtain⟨h1,h2⟩:=UQ hl;have h0:0<l.length:=by omega
  obtain⟨b,o,u,hv,_,_⟩:=H7 hB st (h2 0 _ (AGI h0)) hx;obtain⟨cs,c1,c2,c3⟩:=VU hB st hx hv (l:=l) (j:=0) (fun i y hy=>by simpa using h2 i y hy);subst hv;have YW:=(hT t ti Mu).qH;cases hd:ti.desc with
  |st fs=>
   rw[hd]at YW;obtain⟨fields,hu,_⟩:=YW;refine⟨b,o,.agg cs.toArray,_,rfl,by simpa using h2 0 _ (AGI h0),⟨cs.toArray,rfl,by simpa using c3⟩,fun w' hw=>run_loadAt_mid w' b o t cs _ (by have:=c2.of_block hw;simpa[Bp,World.rangeAt]using this) hu rfl ?_⟩;rw[DY.size hT Mu,c1,h1]
  |_=>rw[hd]at ha;simp[TD.agg]at ha
 ·rename_i ha
  simp only[AIY]at ha;simp only[AGV]at e;obtain⟨y,hy,rfl⟩:=e;obtain⟨b,o,u,hv,hc,hr⟩:=H7 hB st hy hx;subst hv;refine⟨b,o,u,y,rfl,hy,hr,fun w' hw=> ?_⟩;have AAI:=Yi w';rw[ha]at AAI;simp only[AK1]at hc;have W7:w'.cell? ⟨b,o,none⟩=some u:=by rw[World.cell?_of_block (a:=⟨b,o,none⟩) hw];exact hc
  simp[Instr.loadAt,Instr.sureAddr,loadVar,AAI,W7]
end
theorem j6{E E':Env}{w w':World}{vw vw':List Bx}{t:Ty}{x:t.D}{v:Value}(h:VR E w vw (.v t x) v):VR E' w' vw' (.v t x) v:=by
 obtain⟨h1,h2⟩:=h;refine⟨h1,?_⟩;cases t<;>simp_all[Ty.scalar,Rd]
theorem X4{E E':Env}{w w':World}{vw vw':List Bx}{t:Ty}{x:t.D}{v u:Value}(h:VR E w vw (.v t x) v)(k:VR E' w' vw' (.v t x) u):v=u:=by
 obtain⟨h1,h2⟩:=h;obtain⟨_,k2⟩:=k;cases t<;>simp_all[Ty.scalar,Rd]
def ZX(x:XV):Prop:=(∃t z,x= .c (.v t z))∨(∃l,x= .agg l∧ ∀c∈l,∃t z,c= .v t z)
theorem Iz{E E':Env}{w w':World}{vw vw':List Bx}{x:XV}{v:Value}(hp:ZX x)(h:XR E w vw x v):XR E' w' vw' x v:=by
 rcases hp with⟨t,z,rfl⟩|⟨l,rfl,hl⟩
 ·exact j6 (E:=E) (w:=w) (vw:=vw) (E':=E') (w':=w') (vw':=vw') h
 ·obtain⟨vs,rfl,RH⟩:=h
  refine⟨vs,rfl,?_⟩
  generalize vs.toList=m at RH
  induction l generalizing m with
  |nil=>cases m with
   |nil=>trivial
   |cons _ _=>exact RH.elim
  |cons c l ih=>cases m with
   |nil=>exact RH.elim
   |cons u m=>
    obtain⟨t,z,rfl⟩:=hl c (by simp);exact⟨j6 RH.1,ih (fun c hc=>hl c (by simp[hc])) m RH.2⟩
theorem iw{d:TD}{x z:AV}{p:Bool}(e:dZ d x z=some p):(∃t y,x= .v t y)∧ ∃t y,z= .v t y:=by
 unfold dZ at e;split at e
 ·exact⟨⟨_,_,rfl⟩,_,_,rfl⟩
 ·exact⟨⟨_,_,rfl⟩,_,_,rfl⟩
 ·exact⟨⟨_,_,rfl⟩,_,_,rfl⟩
 ·cases e
theorem TN{T:HE}:∀{i:Nat} {fs:List ABD} {l m:List AV} {r:Bool},Hw T i fs l m=some r→(∀c∈l,∃t z,c= .v t z)∧ ∀c∈m,∃t z,c= .v t z
 |i,[],[],[],r,e=>by simp
 |i,(o,t)::fs,x::l,z::m,r,e=>by
  simp only[Hw]at e;split at e
  case isFalse=>cases e
  split at e
  case h_2=>cases e
  split at e
  case h_2=>cases e
  rename_i p hp;simp only[AGV]at e;obtain⟨r',e1,_⟩:=e;obtain⟨a1,a2⟩:=iw hp;obtain⟨b1,b2⟩:=TN e1;exact⟨fun c hc=>(AIU.1 hc).elim (fun e=>e▸a1) (b1 c),fun c hc=>(AIU.1 hc).elim (fun e=>e▸a2) (b2 c)⟩
 |_,[],[],_::_,_,e=>by simp[Hw]at e
 |_,[],_::_,_,_,e=>by simp[Hw]at e
 |_,_::_,[],_,_,e=>by simp[Hw]at e
 |_,_::_,_::_,[],_,e=>by simp[Hw]at e
theorem xF{op:BinOp}{κ:IntKind}{a b:Int}{r:AV}(e:Wy op κ a b some=some r):∃t x,r= .v t x:=by
 cases op<;>simp only[Wy,AGL]at e<;>first
  |exact⟨_,_,e.symm⟩
  |(
   split at e
   ·cases e
   ·cases e;exact⟨_,_,rfl⟩)
  |cases e
theorem gO{op:BinOp}{κ:IntKind}{a b:Int}{r:AV}(e:Sk op κ a b some=some r):∃t x,r= .v t x:=by
 unfold Sk at e;split at e
 ·cases e
 ·cases op<;>simp only[AGL]at e<;>first
   |exact⟨_,_,e.symm⟩
   |cases e
theorem te{op:BinOp}{a b:AAg}{r:AV}(e:Ys op a b some=some r):∃t x,r= .v t x:=by
 cases op<;>simp only[Ys,AGL]at e<;>first
  |exact⟨_,_,e.symm⟩
  |(
   split at e
   ·cases e;exact⟨_,_,rfl⟩
   ·cases e)
  |cases e
theorem ABI{T:HE}{t:Nat}{op:BinOp}{a b:XV}{r:AV}(e:ja T t op a b some=some r):(∃t x,r= .v t x)∧ZX a∧ZX b:=by
 unfold ja at e;split at e
 ·refine⟨?_,.inl ⟨_,_,rfl⟩,.inl ⟨_,_,rfl⟩⟩
  split at e
  ·exact gO e
  ·exact gO e
  ·split at e
   ·exact xF e
   ·cases e
 ·exact⟨te e,.inl ⟨_,_,rfl⟩,.inl ⟨_,_,rfl⟩⟩
 ·refine⟨?_,.inl ⟨_,_,rfl⟩,.inl ⟨_,_,rfl⟩⟩
  split at e
  ·split at e
   ·split at e
    ·cases e;exact⟨_,_,rfl⟩
    ·cases e;exact⟨_,_,rfl⟩
    ·cases e
   ·cases e
  ·cases e
 ·split at e
  ·rename_i hq
   rw[AGs]at hq;obtain⟨fs,_,hq⟩:=hq;obtain⟨q1,q2⟩:=TN hq;cases e;exact⟨⟨_,_,rfl⟩,.inr ⟨_,rfl,q1⟩,.inr ⟨_,rfl,q2⟩⟩
  ·rename_i hq
   rw[AGs]at hq;obtain⟨fs,_,hq⟩:=hq;obtain⟨q1,q2⟩:=TN hq;cases e;exact⟨⟨_,_,rfl⟩,.inr ⟨_,rfl,q1⟩,.inr ⟨_,rfl,q2⟩⟩
  ·cases e
 ·cases e
theorem ra{g:Bool}{a b:XV}{r:AV}(e:hE g a b some=some r):(∃t x,r= .v t x)∧ZX a∧ZX b:=by
 unfold hE at e;split at e
 ·refine⟨?_,.inl ⟨_,_,rfl⟩,.inl ⟨_,_,rfl⟩⟩
  split at e
  ·cases g<;>(cases e;exact⟨_,_,rfl⟩)
  ·cases e
 ·cases e
theorem AG8{op:UnOp}{a:XV}{r:AV}(e:unX op a some=some r):(∃t x,r= .v t x)∧ZX a:=by
 unfold unX at e;split at e
 ·cases e;exact⟨⟨_,_,rfl⟩,.inl ⟨_,_,rfl⟩⟩
 ·cases e;exact⟨⟨_,_,rfl⟩,.inl ⟨_,_,rfl⟩⟩
 ·cases e
section
variable{Y:Type} {P:Program} {T:HE} (hT:DY P T) {Γ:Nat→Option PQ} {o:Oper} {E:Env} {σ:St} {a:Act} {w:World} {k:K Y} {y:Y}
include hT
theorem oT(h:Rel E σ a w){t:TypeId}(ps:Array (Nat×Operand)){s b:Nat}{fs:List ABD}{rw:Option Ty}(Mu:T.get t=some ⟨s,b,.st fs,rw⟩){r:Ty}(hr:T.YN t=some r)
  {cs:List AV} (hb:XF T fs (Ug r) (ps.toList.map fun q=>(q.1,σ.ev q.2))=some cs):
  ∃Jf,(∀w',(Instr.build t (ps.map fun(i,x)=>(i,a.eval x))).run P w' = .ok (.agg Jf) w')∧YB E w σ.bx cs Jf.toList:=by
 obtain⟨i,z,h1,h2,h3,_⟩:=row_zero hT hr;obtain⟨fields,hu,hfs,LW⟩:=uB hT Mu;obtain⟨Jf,f1,f2⟩:=UZ hT (eL h ps) (arr:=z.cells) (by rw[h3];exact Ss r) hb;refine⟨Jf,fun w' => ?_,f2⟩;have hb:P.built t (ps.map fun(i,x)=>(i,a.eval x)).toList=some Jf:=by
  unfold Program.built;simp only[h1,hu,h2];have hm:fields.toList.mapM (fun f=>(P.info? f.type).map fun i=>(f.offset,i.size))=some (fields.toList.map fun f=>(f.offset,((P.info? f.type).map (·.size)).getD 0)):=by
   refine cV fun f hf=> ?_
   obtain⟨i',Dh,_⟩:=LW f hf;simp[Dh]
  simp only[hm];rw[←f1];congr 1;funext n;subst hfs;simp only[List.getElem?_toArray,AIg];cases hn:fields.toList[n]? with
  |none=>simp
  |some f=>
   obtain⟨i',Dh,_⟩:=LW f (AH9 hn);simp[Dh]
 exact run_build (P:=P) w' t (ps.map fun(i,x)=>(i,a.eval x)) Jf hb
theorem mO{hint:AAU}(h:Rel E σ a w)(hq:Yp hint σ o.op=true)(e:Qz T Γ o σ k=some y):
  ∃v x,XR E w σ.bx x v∧k x σ=some y∧ ∀w',dt (Kof hint E w σ.bx) w w'→(execOp a.eval o).run P w' = .ok (.value v) w':=by
 obtain⟨Fs,hB,hS⟩:=h.bx;have st:=hS.st;have wf:∀{s:Sem Value} {v:Value},WF P s→s.run P w= .ok v w→ ∀w',s.run P w' = .ok v w':=fun h1 h2 w' =>h1 w _ w h2 w'
 unfold Qz at e;split at e
 ·rename_i x ho
  exact⟨a.eval x,_,h.ev x,e,fun w' _=>by simp only[execOp,ho,Sem.run_pure]⟩
 ·rename_i x ho
  unfold Un at e;split at e
  ·rename_i hx
   rw[ho]at hq;simp only[Yp,hx]at hq;cases hq
  ·exact⟨a.eval x,_,h.ev x,e,fun w' _=>by simp only[execOp,ho,Sem.run_pure]⟩
 ·rename_i c xa xb ho
  split at e
  case h_2=>cases e
  rename_i p hp;have hc:=h.ev c;rw[hp]at hc;have W7:=Mb (E:=E) (w:=w) (vw:=σ.bx) hc;refine⟨if p then a.eval xa else a.eval xb,if p then σ.ev xa else σ.ev xb,by cases p<;>simp[h.ev],by cases p<;>simpa[r8]using e,fun w' _=>by simp[execOp,ho,W7,asBool]⟩
 ·rename_i t ho;rw[ho]at hq;cases hq
 ·rename_i t x ho;rw[ho]at hq;cases hq
 ·rename_i t ps ho
  split at e
  case h_2=>cases e
  rename_i s b fs rw r Mu hr;split at e
  case h_2=>cases e
  rename_i cs pd;obtain⟨Jf,h1,h2⟩:=oT hT h ps Mu hr pd;exact⟨.agg Jf,.agg cs,⟨Jf,rfl,h2⟩,e,fun w' _=>by simp only[execOp,ho,Sem.run_bind,h1 w',Result.andThen_ok,Sem.run_pure]⟩
 ·rename_i t n ps ho;rw[ho]at hq;cases hq
 ·rename_i t x ho
  rw[ho]at hq;split at e
  case h_2=>cases e
  rename_i z hz;have hv:=h.ev x;simp only[Yp]at hq
  generalize hX:σ.ev x=X at hq hv hz
  cases X with
  |agg l=>cases hq
  |Jy l=>cases hq
  |c ad=>
   obtain⟨bb,oo,u,cell,hp,hc,h2,h3⟩:=gp hT hB st hz hv;refine⟨u,z,h2,e,fun w' hw' => ?_⟩;have sW:w'.heap[bb]? =w.heap[bb]?:=by
    refine hw' bb ?_
    have VD:VR E w σ.bx ad (a.eval x):=hv;cases ad with
    |FW b j=>
     simp only[XH,ALk]at hq;simp only[Gg]at hc;split at hc
     ·rename_i cs hb
      refine .inr ⟨b,_,hq,hb,?_⟩;have:=VD.2;rw[hp]at this;simp only[Value.pointer.injEq,AGL,Addr.mk.injEq]at this;exact this.1
     ·cases hc
    |Gq b p i sz j=>
     simp only[XH,ALk]at hq;simp only[Gg]at hc;split at hc
     ·rename_i d q rows hb
      refine .inr ⟨b,_,hq,hb,?_⟩;simp only[VR,hb]at VD;obtain⟨_,hpp,q1,ys,b2,o2,len,cap,g1,g2,g3,g4⟩:=VD;rw[hp]at g4;simp only[Value.pointer.injEq,AGL,Addr.mk.injEq]at g4;obtain⟨rfl,_⟩:=g4;obtain⟨F,⟨_,ho2⟩,_⟩:=hB.get hb;exact nE (SE ho2) hpp g1 g3 g2
     ·cases hc
    |J4 s r z j=>
     obtain⟨b2,o2,cs,g1,g2,_⟩:=VD;rw[hp]at g1;simp only[Value.pointer.injEq,AGL,Addr.mk.injEq]at g1;obtain⟨rfl,_⟩:=g1
     left
     cases s with
     |true=>exact st _ (by simpa using g2)
     |false=>simpa using g2
    |_=>cases hq
   simp only[execOp,ho,Sem.run_bind,h3 w' sW,Result.andThen_ok,Sem.run_pure]
 ·rename_i t xa xx ho;rw[ho]at hq;cases hq
 ·rename_i x ho
  have hx:=h.ev x;split at e
  ·rename_i b j hp
   rw[hp]at hx;have ks:b<σ.bx.length∧a.eval x= .pointer (some ⟨E.Fc b,j,none⟩):=hx;exact⟨a.eval x,_,hx,e,fun w' _=>by simp only[execOp,ho,ks.2,Sem.run_pure]⟩
  ·rename_i b p i sz j hp
   rw[hp]at hx;have qT:Uy (a.eval x)=true:=hx.1;refine⟨a.eval x,_,hx,e,fun w' _=> ?_⟩;unfold Uy at qT;split at qT
   ·rename_i hv
    simp only[execOp,ho,hv,Sem.run_pure]
   ·cases qT
  ·rename_i s r z j hp
   rw[hp]at hx;obtain⟨bb,oo,cs,hv,hrest⟩:=hx;exact⟨a.eval x,.c (.J4 s r z j),⟨bb,oo,cs,hv,hrest⟩,e,fun w' _=>by simp only[execOp,ho,hv,Sem.run_pure]⟩
  ·rename_i f G6 hp
   rw[hp]at hx;have ks:(∀b∈G6,b<σ.bx.length)∧a.eval x= .func (.func f) #[] (G6.map fun b=>Value.pointer (some ⟨E.Fc b,0,none⟩)).toArray:=hx;exact⟨a.eval x,_,hx,e,fun w' _=>by simp only[execOp,ho,ks.2,Sem.run_pure]⟩
  ·cases e
 ·rename_i op t x z s ho
  rw[dK,AGs]at e;obtain⟨r,e1,e⟩:=e;obtain⟨⟨t',x',rfl⟩,p1,p2⟩:=ABI e1;obtain⟨r0,val,h1,h2,h3⟩:=Xh hT e1 (h.ev x) (h.ev z) x z;cases h1;refine⟨val,.c (.v t' x'),h3,e,fun w' _=> ?_⟩;obtain⟨r1,val',g1,g2,g3⟩:=Xh hT e1 (Iz (E':=E) (w':=w') (vw':=σ.bx) p1 (h.ev x)) (Iz p2 (h.ev z)) x z;cases g1;have:=X4 h3 g3;subst this;simp only[execOp,ho,Sem.run_bind];simp only[Sem.run_bind]at g2;rw[g2];rfl
 ·rename_i op t x ho
  rw[jA,AGs]at e;obtain⟨r,e1,e⟩:=e;obtain⟨⟨t',x',rfl⟩,p1⟩:=AG8 e1;obtain⟨r0,val,h1,h2,h3⟩:=ZP (P:=P) e1 (h.ev x);cases h1;refine⟨val,.c (.v t' x'),h3,e,fun w' _=> ?_⟩;obtain⟨r1,val',g1,g2,g3⟩:=ZP (P:=P) e1 (Iz (E':=E) (w':=w') (vw':=σ.bx) p1 (h.ev x));cases g1;have:=X4 h3 g3;subst this;simp only[execOp,ho,Sem.run_bind,g2,Result.andThen_ok,Sem.run_pure]
 ·rename_i s d x ho;rw[ho]at hq;cases hq
 ·rename_i f first G6 ho;rw[ho]at hq;cases hq
 ·rename_i t l c ho;rw[ho]at hq;cases hq
 ·rename_i t x lo hi ho
  obtain⟨z,val,h1,h2,h3⟩:=Yn hT hB st e (h.ev x) (mU h lo) (mU h hi);exact⟨val,z,h3,h1,fun w' _=>by simp only[execOp,ho,Option.map_none,Sem.run_bind,wf (WF.sliceAt _ _ _ _) h2 w',Result.andThen_ok,Sem.run_pure]⟩
 ·rename_i t x f ho
  split at e
  case h_2=>cases e
  rename_i z hz;obtain⟨u,h1,h2⟩:=Yy hT hz (h.ev x);refine⟨u,z,h2,e,fun w' _=> ?_⟩;have hw:(Instr.fieldAt t (a.eval x) f).run P w' = .ok u w':=by
   have hx:=h.ev x;unfold g7 at hz;split at hz
   case h_2=>cases hz
   rename_i s b fs _ Mu;split at hz
   case h_2=>cases hz
   rename_i o' u' hf;have key:∀ad,a.eval x= .pointer (some ad)→(Instr.fieldAt t (a.eval x) f).run P w' = .ok u w':=by
    intro ad had;rw[had]at h1⊢;have r1:=PL hT (w:=w) Mu hf (a:=ad);have r2:=PL hT (w:=w') Mu hf (a:=ad);rw[r1]at h1;cases h1;exact r2
   split at hz
   ·rename_i b' j hp
    rw[hp]at hx;exact key _ hx.2
   ·rename_i b' p i sz j hp
    rw[hp]at hx;have qT:Uy (a.eval x)=true:=hx.1;unfold Uy at qT;split at qT
    ·rename_i hv;exact key _ hv
    ·cases qT
   ·rename_i s r y' j hp
    rw[hp]at hx;obtain⟨bb,oo,cs,hv,_⟩:=hx;exact key _ hv
   ·cases hz
  simp only[execOp,ho,Sem.run_bind,hw,Result.andThen_ok,Sem.run_pure]
 ·rename_i t x f ho
  split at e
  case h_2=>cases e
  rename_i z hz;obtain⟨u,h1,h2⟩:=aQ hT hz (h.ev x);exact⟨u,z,h2,e,fun w' _=>by simp only[execOp,ho,Sem.run_bind,wf (WF.field _ _ _) h1 w',Result.andThen_ok,Sem.run_pure]⟩
 ·rename_i t x i ho
  obtain⟨z,val,h1,h2,h3⟩:=YM hT hB st e (h.ev x) (h.ev i);exact⟨val,z,h3,h1,fun w' _=>by simp only[execOp,ho,Sem.run_bind,wf (WF.indexAt _ _ _) h2 w',Result.andThen_ok,Sem.run_pure]⟩
 ·rename_i t x i ho
  obtain⟨z,val,h1,h2,h3⟩:=VK hT e (h.ev x) (h.ev i);exact⟨val,z,h3,h1,fun w' _=>by simp only[execOp,ho,Sem.run_bind,wf (WF.index _ _ _) h2 w',Result.andThen_ok,Sem.run_pure]⟩
 ·rename_i x i ho
  split at e
  case h_2=>cases e
  rename_i z hz;obtain⟨u,h1,h2⟩:=V_ (P:=P) hz (h.ev x);exact⟨u,z,h2,e,fun w' _=>by simp only[execOp,ho,Sem.run_bind,wf (WF.extract _ _) h1 w',Result.andThen_ok,Sem.run_pure]⟩
 ·rename_i f args fm ho;rw[ho]at hq;cases hq
 ·rename_i args fm ho
  split at e
  ·rename_i s t GI hts
   obtain⟨x,rfl,hx⟩:=Qt GI;have hv:=h.ev x;rw[hx]at hv;have VD:=RS (E:=E) (w:=w) (vw:=σ.bx) hv;split at e
   case isFalse=>cases e
   rename_i hs;have hu:=RP hT hs;refine⟨.int .i64 (s.length:Int),.c (.v (.int .i64) (s.length:Int)),VR.int (E:=E) (vw:=σ.bx) _ _,e,fun w' _=> ?_⟩;have LW:(⟨s.toArray⟩:ByteArray).size=s.length:=by simp[ByteArray.size]
   simp[execOp,ho,resolve,invoke,builtin,Builtin.len_,hts,VD,Aw hu,goInt,LW]
  ·rename_i z t _ GI hts
   obtain⟨x,rfl,hx⟩:=Qt GI;have hv:=h.ev x;rw[hx]at hv;split at e
   case isFalse=>cases e
   rename_i hs;split at e
   case h_2=>cases e
   rename_i n hn;obtain⟨el,hu⟩:=ZE hT hs;obtain⟨ad,cap,VD⟩:=af hB st hn hv;refine⟨.int .i64 (n:Int),.c (.v (.int .i64) (n:Int)),VR.int (E:=E) (vw:=σ.bx) _ _,e,fun w' _=> ?_⟩;simp[execOp,ho,resolve,invoke,builtin,Builtin.len_,hts,VD,Aw hu,goInt]
  ·cases e
 ·rename_i args fm ho;rw[ho]at hq;cases hq
 ·rename_i args fm ho;rw[ho]at hq;cases hq
 ·rename_i args fm ho
  split at e
  case h_2=>cases e
  rename_i x1 x2 GI;obtain⟨o1,o2,rfl,hx1,hx2⟩:=RL GI;have U5:=h.ev o1;have UA:=h.ev o2;rw[hx1]at U5;rw[hx2]at UA;rw[Tx,AGs]at e;obtain⟨r,e1,e⟩:=e;obtain⟨⟨t',x',rfl⟩,p1,p2⟩:=ra e1;obtain⟨r0,val,h1,h2,h3⟩:=OP (P:=P) (big:=true) e1 U5 UA fm #[] o.type;cases h1;refine⟨val,.c (.v t' x'),h3,e,fun w' _=> ?_⟩;obtain⟨r1,val',g1,g2,g3⟩:=OP (P:=P) (big:=true) e1 (Iz (E':=E) (w':=w') (vw':=σ.bx) p1 U5) (Iz p2 UA) fm #[] o.type;cases g1;have:=X4 h3 g3;subst this;simp only[AKA]at g2;simp[execOp,ho,resolve,invoke,builtin,g2]
 ·rename_i args fm ho
  split at e
  case h_2=>cases e
  rename_i x1 x2 GI;obtain⟨o1,o2,rfl,hx1,hx2⟩:=RL GI;have U5:=h.ev o1;have UA:=h.ev o2;rw[hx1]at U5;rw[hx2]at UA;rw[Tx,AGs]at e;obtain⟨r,e1,e⟩:=e;obtain⟨⟨t',x',rfl⟩,p1,p2⟩:=ra e1;obtain⟨r0,val,h1,h2,h3⟩:=OP (P:=P) (big:=false) e1 U5 UA fm #[] o.type;cases h1;refine⟨val,.c (.v t' x'),h3,e,fun w' _=> ?_⟩;obtain⟨r1,val',g1,g2,g3⟩:=OP (P:=P) (big:=false) e1 (Iz (E':=E) (w':=w') (vw':=σ.bx) p1 U5) (Iz p2 UA) fm #[] o.type;cases g1;have:=X4 h3 g3;subst this;simp only[AHU,AIk]at g2;simp[execOp,ho,resolve,invoke,builtin,g2]
 ·cases e
end
end Go.Fw
end
section
namespace Go.Fw
section
variable{P:Program} {md:Region.Mode} {ops:Array Oper} {Q:Exit→Act→World→Prop}
theorem dt.refl(K:Nat→Prop)(w:World):dt K w w:=fun _ _=>rfl
def ka(P:Program)(md:Region.Mode)(ops:Array Oper)(Q:Exit→Act→World→Prop):Nat→Array Bool→(Nat→Prop)→Act→World→Prop
 |0,Ch,_,a,w=>Region.ready md ops Ch=[]∧Q .normal a w
 |fuel+1,Ch,K,a,w=>(Region.ready md ops Ch=[]→Q .normal a w)∧
  ∀i∈Region.ready md ops Ch,wpOp P ops Q i (fun a' w' => ∃K':Nat→Prop,(∀c,K c→K' c)∧dt K w w'∧ka P md ops Q fuel (Ch.setIfInBounds i true) K' a' w') a w
theorem gI:∀(fuel:Nat) (Ch:Array Bool) (K:Nat→Prop) (a:Act) (w:World),ka P md ops Q fuel Ch K a w→wpAny P md ops Q fuel Ch a w
 |0,_,_,_,_,h=>h
 |fuel+1,_,_,_,_,h=>⟨h.1,fun i hi=>wpOp_mono (fun a' w' ⟨K',_,_,h'⟩=>gI fuel _ K' a' w' h') (h.2 i hi)⟩
theorem YieldsIf.mono{S S':World→Prop}{o:Oper}{v:Value}{a:Act}(h:YieldsIf P ops S o v a)(hs:∀w,S' w→S w):YieldsIf P ops S' o v a:=
 h.imp (fun⟨h1,h2⟩=>⟨h1,fun w hw=>h2 w (hs w hw)⟩) id
theorem aI{i:Nat}{oi:Oper}{v:Value}(hi:ops[i]? =some oi)(sD:∀(j:Nat) (o:Oper) cs b,ops[j]? =some o→o.op≠ .select cs b)(hQ:∀c a w,¬Q (.panic c) a w):
  ∀(fuel:Nat) (Ch:Array Bool) (K:Nat→Prop) (a:Act) (w:World),
   (∀j oj,ops[j]? =some oj→j≠i→Ch.getD j true=false→(∀e∈oj.after,Region.binds md e=true→e.on≠i)→oi.apart ops oj=true)→
   i∈Region.ready md ops Ch→YieldsIf P ops (dt K w) oi v a→ka P md ops Q fuel (Ch.setIfInBounds i true) K (a.put oi.dst v) w→ka P md ops Q (fuel+1) Ch K a w:=by
 intro fuel
 induction fuel with
 |zero=>
  intro Ch K a w _ hr hy H;refine⟨fun h=>(by rw[h]at hr;cases hr),fun j hj=> ?_⟩;by_cases hji:j=i
  ·subst hji;exact hy.wpOp hi (dt.refl K w) ⟨K,fun _ h=>h,dt.refl K w,H⟩
  ·have:=ready_mono hj hji
   rw[H.1]at this;cases this
 |succ fuel ih=>
  intro Ch K a w Pu hr hy H;refine⟨fun h=>(by rw[h]at hr;cases hr),fun j hj=> ?_⟩;by_cases hji:j=i
  ·subst hji;exact hy.wpOp hi (dt.refl K w) ⟨K,fun _ h=>h,dt.refl K w,H⟩
  ·have h1:=H.2 j (ready_mono hj hji)
   obtain⟨hjun,oj,hoj,Wt⟩:=mem_ready.1 hj;have sk:∀e∈oj.after,Region.binds md e=true→e.on≠i:=fun e he hb heq=>by
    have h1:=Wt e he hb;have h0:=(mem_ready.1 hr).1;rw[heq]at h1;rcases Nat.lt_or_ge i Ch.size with h'|h'
    ·simp[h']at h0 h1;rw[h0]at h1;cases h1
    ·simp[Array.getElem?_eq_none h']at h1
   have h2:=wpOp_putIf hoj (Pu j oj hoj hji hjun sk) (fun cs b=>sD i oi cs b hi) (fun cs b=>sD j oj cs b hoj) (fun c a w h=>absurd h (hQ c _ w)) hy h1;have ABi:∀k ok,ops[k]? =some ok→k≠i→(Ch.setIfInBounds j true).getD k true=false→
     (∀e∈ok.after,Region.binds md e=true→e.on≠i)→oi.apart ops ok=true:=fun k ok hk hki hun hno=>by
    refine Pu k ok hk hki ?_ hno
    by_cases hjk:j=k
    ·subst hjk;exact hjun
    ·rw[getD_set_ne true hjk]at hun;exact hun
   refine wpOp_mono (fun a' w' h3=> ?_) h2;obtain⟨kP,K',hK,hs,ht⟩:=h3;refine⟨K',hK,hs,ih (Ch.setIfInBounds j true) K' a' w' ABi (ready_mono hr (Ne.symm hji)) (YieldsIf.mono kP fun w'' AKw c hc=>(AKw c (hK c hc)).trans (hs c hc)) ?_⟩;rw[Array.setIfInBounds_comm _ _ hji];exact ht
end
theorem aL{Y:Type}{f:Nat→List Bool→Option Y}{y:Y}:∀{rs:AAU},(∀ω,iX f rs ω=some y)→ ∀i∈rs,∀ω,f i ω=some y
 |[i],h,j,hj,ω=>by
  simp at hj;subst hj;exact h ω
 |i::j::r,h,k,hk,ω=>by
  rcases AIU.1 hk with rfl|hk
  ·exact h (true::ω)
  ·exact aL (rs:=j::r) (fun ω=>h (false::ω)) k hk ω
theorem js{σ:St}{t:Nat}{b:Bool}(e:σ.tm[t]? =some (.c (.v .bool b))):σ.put (some t) (.c (.v .bool b))=σ:=by
 simp only[St.put];obtain⟨tm,bx⟩:=σ;simp only[St.mk.injEq,AJo];obtain⟨Dl,he⟩:=AF9.1 e;apply ALM;intro i;rw[AJb];split
 ·rename_i e1;subst e1;exact e.symm
 ·rfl
theorem gf{Y I:Type}[Nonempty I]{C:Xk}{ops:Array Oper}{o:Oper}{kn:I→St→Option Y}{σ:St}{y:Y}{E:Env}{a:Act}{w:World}(h:Rel E σ a w)
  (e:∀ω,m7 C ops o (kn ω) σ=some y):
  (Region.wanted o (yielded ops a.tmps)=true∧ ∀ω,(Qz C.T C.Γ o σ fun x σ' =>kn ω (σ'.put o.dst x))=some y)∨
  (Region.wanted o (yielded ops a.tmps)=false∧ ∀ω,kn ω (σ.put o.dst (.Jy []))=some y):=by
 unfold m7 at e;cases hg:o.guard with
 |none=>
  simp only[hg]at e;exact .inl ⟨by simp[Region.wanted,hg],e⟩
 |some q=>
  obtain⟨j,want⟩:=q;simp only[hg]at e;cases ht:(ops[j]?).bind (·.dst)with
  |none=>
   simp only[ht]at e;obtain⟨i0⟩:= ‹Nonempty I›;cases e i0
  |some t=>
   simp only[ht]at e;obtain⟨i0⟩:= ‹Nonempty I›;have e0:=e i0;split at e0
   ·rename_i b hb
    simp only[hb]at e;obtain⟨v,hv,hx⟩:=h.tmp hb;have hvb:=Mb (E:=E) (w:=w) (vw:=σ.bx) hx;subst hvb;have hy:yielded ops a.tmps j=some b:=by rw[US ht hv];rfl
    have hk:=js hb;cases b with
    |true=>
     simp only[AIO,tt,hk]at e;cases want with
     |true=>exact .inl ⟨by simp[Region.wanted,hg,hy],fun ω=>by simpa using e ω⟩
     |false=>exact .inr ⟨by simp[Region.wanted,hg,hy],fun ω=>by simpa using e ω⟩
    |false=>
     simp only[AG6,ff,hk]at e;cases want with
     |true=>exact .inr ⟨by simp[Region.wanted,hg,hy],fun ω=>by simpa using e ω⟩
     |false=>exact .inl ⟨by simp[Region.wanted,hg,hy],fun ω=>by simpa using e ω⟩
   ·rename_i hb
    simp only[hb]at e;obtain⟨v,hv,vs,rfl,hx⟩:=h.tmp hb;have hy:yielded ops a.tmps j=none:=by rw[US ht hv];rfl
    exact .inr ⟨by simp[Region.wanted,hg,hy],e⟩
   ·cases e0
theorem p_{ops:Array Oper}{o:Oper}{σ:St}{E:Env}{a:Act}{w:World}(h:Rel E σ a w)(e:idle ops σ o=true):Region.wanted o (yielded ops a.tmps)=false:=by
 unfold idle at e;cases hg:o.guard with
 |none=>simp[hg]at e
 |some q=>
  obtain⟨j,want⟩:=q;simp only[hg]at e;cases ht:(ops[j]?).bind (·.dst)with
  |none=>simp[ht]at e
  |some t=>
   simp only[ht]at e;split at e
   ·rename_i b hb
    obtain⟨v,hv,hx⟩:=h.tmp hb;have hvb:=Mb (E:=E) (w:=w) (vw:=σ.bx) hx;subst hvb;have hy:yielded ops a.tmps j=some b:=by rw[US ht hv];rfl
    cases b<;>cases want<;>simp_all[Region.wanted]
   ·rename_i hb
    obtain⟨v,hv,vs,rfl,hx⟩:=h.tmp hb;have hy:yielded ops a.tmps j=none:=by rw[US ht hv];rfl
    simp[Region.wanted,hg,hy]
   ·cases e
theorem gg{Y I:Type}[Nonempty I]{C:Xk}{ops:Array Oper}{i:Nat}{o:Oper}(ho:ops[i]? =some o){kn:I→St→Option Y}{σ:St}{y:Y}{E:Env}{a:Act}{w:World}(h:Rel E σ a w)
  (e:∀ω,mi C ops i (kn ω) σ=some y):
  (Region.wanted o (yielded ops a.tmps)=true∧ ∀ω,(Qz C.T C.Γ o σ fun x σ' =>kn ω (σ'.put o.dst x))=some y)∨
  (Region.wanted o (yielded ops a.tmps)=false∧ ∀ω,kn ω (σ.put o.dst (.Jy []))=some y):=
 gf h fun ω=>by
  have:=e ω;unfold mi at this;simpa only[ho]using this
theorem qD{hint t:AAU}{E E':Env}{bx Ls:List Bx}{w w':World}(h:MV t E bx w E' Ls w')(ht:∀b∈t,b∉hint)(ha:∀b∈hint,Z_ Ls b=false):
  (∀c,Kof hint E w bx c→Kof hint E' w' Ls c)∧dt (Kof hint E w bx) w w':=by
 have key:∀n B,n∈hint→bx[n]? =some B→ ∃B',Ls[n]? =some B'∧PZ B B'∧ ∀c,kt E w n B c→w'.heap[c]? =w.heap[c]?:=by
  intro n B hn hB;have hd:=ha n hn;unfold Z_ at hd;split at hd
  ·cases hd
  ·rename_i B' YU NQ
   obtain⟨h1,h2⟩:=h.frame n B B' (fun hm=>ht n hm hn) hB NQ YU;exact⟨B',NQ,h1,h2⟩
  ·cases hd
 refine⟨fun c hc=> ?_,fun c hc=> ?_⟩
 ·rcases hc with hc|⟨n,B,hn,hB,hc⟩
  ·exact .inl (h.base.T c hc)
  ·obtain⟨B',NQ,hs,hh⟩:=key n B hn hB
   have fJ:=h.ids n (AF9.1 hB).1;refine .inr ⟨n,B',hn,NQ,?_⟩;cases B with
   |mem cs=>
    cases B' with
    |mem VB=>simp only[kt]at hc⊢;rw[fJ.1];exact hc
    |sl _ _ _=>exact hs.elim
    |dead=>exact hs.elim
   |sl d r rows=>
    cases B' with
    |mem VB=>exact hs.elim
    |dead=>exact hs.elim
    |sl d' r' B3=>
     simp only[PZ,AIM]at hs;obtain⟨rfl,hs⟩:=hs;obtain rfl:=AIe hs;simp only[kt]at hc⊢;rw[fJ.2];exact bu (fun d hd=>hh d hd) hc
   |dead=>exact hc.elim
 ·rcases hc with hc|⟨n,B,hn,hB,hc⟩
  ·exact h.base.heap c hc
  ·obtain⟨B',_,_,hh⟩:=key n B hn hB
   exact hh c hc
theorem TB{Y:Type}{C:Xk}{hint:AAU}{ops:Array Oper}{kn:List Bool→St→Option Y}{fuel:Nat}{Ch:Array Bool}{ω:List Bool}{σ:St}{y:Y}(e:Oh C hint ops kn fuel Ch ω σ=some y):∀b∈hint,Z_ σ.bx b=false:=by
 unfold Oh at e;split at e
 ·rename_i h
  intro b hb;simpa using(AI7.1 h) b hb
 ·cases e
theorem jC{Y:Type}{P:Program}{C:Xk}(hT:DY P C.T)(hΓ:XC P C.Γ){E0:Env}{w0:World}{N nb:Nat}{hint:AAU}{ops:Array Oper}{kn:List Bool→St→Option Y}{y:Y}{Q:Exit→Act→World→Prop}
  (sD:Region.noSelect ops=true) (hP:∀c a w,¬Q (.panic c) a w) (hk:∀E σ a w,Ok E0 w0 N nb E σ a w→(∀ω,kn ω σ=some y)→Q .normal a w):
  ∀(fuel:Nat) {Ch:Array Bool} {E:Env} {σ:St} {a:Act} {w:World},Ok E0 w0 N nb E σ a w→(∀ω,Oh C hint ops kn fuel Ch ω σ=some y)→ka P .any ops Q fuel Ch (Kof hint E w σ.bx) a w:=by
 intro fuel
 induction fuel with
 |zero=>
  intro Ch E σ a w h e;have e1:=fun ω=>e ω
  unfold Oh at e1;have pf:=TB (e []);have AEE:(hint.all fun b=> !Z_ σ.bx b)=true:=AI7.2 fun b hb=>by simp[pf b hb]
  simp only[AEE,AKA]at e1;cases hr:Region.ready .any ops Ch with
  |nil=>
   simp only[hr]at e1;exact⟨hr,hk E σ a w h e1⟩
  |cons i rs=>
   simp only[hr]at e1;cases e1 []
 |succ fuel ih=>
  intro Ch E σ a w h e;have e1:=fun ω=>e ω
  unfold Oh at e1;have pf:=TB (e []);have AEE:(hint.all fun b=> !Z_ σ.bx b)=true:=AI7.2 fun b hb=>by simp[pf b hb]
  simp only[AEE,AKA]at e1;cases hr:Region.ready .any ops Ch with
  |nil=>
   simp only[hr]at e1;exact⟨fun _=>hk E σ a w h e1,by rw[hr];simp⟩
  |cons i0 rs=>
   simp only[hr]at e1;cases hf:(i0::rs).find? (dr hint ops Ch σ)with
   |some i=>
    simp only[hf]at e1;have hi:=List.mem_of_find?_eq_some hf
    have ht:=List.find?_some hf
    unfold dr at ht;cases ho:ops[i]? with
    |none=>rw[ho]at ht;cases ht
    |some o=>
     simp only[ho,AGx]at ht;have Pu:=Region.free_spec ho ht.2;rw[←hr]at hi;have hy:=gg (I:=List Bool) (kn:=fun ω σ' =>Oh C hint ops kn fuel (Ch.setIfInBounds i true) ω σ') ho h.rel e1;rcases hy with⟨hw,hx⟩|⟨hw,hx⟩
     ·have hq:Yp hint σ o.op=true:=by
       rcases AJd _ _▸ht.1 with hq|hi
       ·exact hq
       ·rw[p_ h.rel hi]at hw
        cases hw
      obtain⟨x,σ',hx0,hx1⟩:=Zs hx;obtain⟨v,x',q1,q2,q3⟩:=mO hT h.rel hq hx0;simp only[k0,AGL,AIh]at q2;obtain⟨rfl,rfl⟩:=q2;have Tp:=ih (h.put o.dst q1) hx1;have Yc:(σ.put o.dst x').bx=σ.bx:=by cases o.dst<;>rfl
      rw[Yc]at Tp;exact aI ho (Region.noSelect_spec sD) hP fuel Ch _ a w Pu hi (.inl ⟨hw,q3⟩) Tp
     ·have Tp:=ih (h.put o.dst cI) hx
      have Yc:(σ.put o.dst (.Jy [])).bx=σ.bx:=by cases o.dst<;>rfl
      rw[Yc]at Tp;exact aI ho (Region.noSelect_spec sD) hP fuel Ch _ a w Pu hi (.inr ⟨hw,rfl⟩) Tp
   |none=>
    simp only[hf]at e1;have Wt:=aL e1;refine⟨fun h0=>(by rw[h0]at hr;cases hr),fun i hi=> ?_⟩;rw[hr]at hi;have hx:=Wt i hi;cases ho:ops[i]? with
    |none=>
     simp only[ho]at hx;cases hx []
    |some o=>
     simp only[ho]at hx;have htc:(GA C.Γ σ o.op).all (fun b=> !hint.contains b)=true:=by
      have:=hx [];split at this
      ·rename_i hh;exact hh
      ·cases this
     simp only[htc,AKA]at hx;have htn:∀b∈GA C.Γ σ o.op,b∉hint:=fun b hb hh=>by
      have:=(AI7.1 htc) b hb;simp[hh]at this
     unfold wpOp;simp only[ho];rcases gg (I:=List Bool) (kn:=fun ω σ' =>Oh C hint ops kn fuel (Ch.setIfInBounds i true) ω σ') ho h.rel hx with⟨hw,hx⟩|⟨hw,hx⟩
     ·rw[AGH hw]
      obtain⟨x,σ',hx0,hx1⟩:=Zs hx;refine .inl (mw hT hΓ h.rel hx0 fun v w' E' x' σ'' g1 g2 g3 g4 g5=> ?_);simp only[k0,AGL,AIh]at g5;obtain⟨rfl,rfl⟩:=g5;have Yc:(σ''.put o.dst x').bx=σ''.bx:=by cases o.dst<;>rfl
      have AH3:=TB (hx1 []);rw[Yc]at AH3;obtain⟨k1,k2⟩:=qD g3 htn AH3;have Tp:=ih ((h.next g1 g3 g4).put o.dst g2) hx1;rw[Yc]at Tp;exact⟨_,k1,k2,Tp⟩
     ·rw[AGU (by simp[hw])]
      have Tp:=ih (h.put o.dst cI) hx;have Yc:(σ.put o.dst (.Jy [])).bx=σ.bx:=by cases o.dst<;>rfl
      rw[Yc]at Tp;exact⟨_,fun _ h=>h,dt.refl _ _,Tp⟩
end Go.Fw
end
section
namespace Go.Fw
theorem Rel.heap{E:Env}{σ:St}{a:Act}{w w':World}(h:Rel E σ a w)(hw:w'.heap=w.heap):Rel E σ a w':=by
 have keep:Nk E w σ.bx E w' σ.bx:=by
  refine⟨AIi _,fun _ _=>rfl,fun _ h=>h,fun _ h=>h,h.bx.st,fun _ _=>by rw[hw],fun b d r rows hb e=>⟨d,rows,e,fun p hp q ys hg=>⟨hp,⟨ys,hg,rfl⟩,fun hh he=> ?_⟩⟩⟩;obtain⟨Fs,⟨f1,f2⟩,_⟩:=h.bx;have hF:Fs[b]? =some (Fs[b]'(by have:=(AF9.1 e).1;omega)):=AGI _;exact hI (f2 b _ _ e hF).2 (fun _ _=>by rw[hw]) (fun _ _=>by rw[hw]) hp hg he
 exact⟨h.Jq,h.tm.imp fun _ _ hx=>Ku keep hx,h.bx.turn (fun _ _ hv=>D_ keep hv) (fun _ h=>h) (fun _ _=>rfl) (fun _ _=>rfl) (fun _ _ _=>by rw[hw]) fun F hF=>⟨hF.nodup,hF.free,fun c hc=>by rw[hw];exact hF.lt c hc,hF.st,fun c hc=>by rw[hw];exact hF.W0 c hc⟩⟩
theorem Ok.drawn{E0 E:Env}{w0 w:World}{N nb:Nat}{σ:St}{a:Act}(h:Ok E0 w0 N nb E σ a w)(n:Nat):Ok E0 w0 N nb E σ a { w with drawn:=n }:=
 ⟨h.rel.heap rfl,⟨h.base.T,h.base.S,h.base.sb,h.base.nJ,h.base.heap,h.base.os,h.base.tape,h.base.output,h.base.size⟩,h.tm,h.ey,h.ids⟩
theorem Zb{Y I:Type}[Nonempty I]{P:Program}{C:Xk}(hT:DY P C.T)(hΓ:XC P C.Γ){E0:Env}{w0:World}{N nb:Nat}{all:Array Oper}{kn:I→St→Option Y}{y:Y}{Q:Exit→Act→World→Prop}
  (hk:∀E σ a w,Ok E0 w0 N nb E σ a w→(∀ω,kn ω σ=some y)→Q .normal a w):∀{l:List Oper} {E:Env} {σ:St} {a:Act} {w:World},Ok E0 w0 N nb E σ a w→(∀ω,iy C all l (kn ω) σ=some y)→wpList P all Q l a w
 |[],E,σ,a,w,h,e=>hk E σ a w h e
 |o::rest,E,σ,a,w,h,e=>by
  unfold wpList;rcases gf (kn:=fun ω σ=>iy C all rest (kn ω) σ) h.rel e with⟨hw,hx⟩|⟨hw,hx⟩
  ·rw[AGH hw]
   obtain⟨x,σ',hx0,hx1⟩:=Zs hx;refine .inl (mw hT hΓ h.rel hx0 fun v w' E' x' σ'' g1 g2 g3 g4 g5=> ?_);simp only[k0,AGL,AIh]at g5;obtain⟨rfl,rfl⟩:=g5;exact Zb hT hΓ hk ((h.next g1 g3 g4).put o.dst g2) hx1
  ·rw[AGU (by simp[hw])]
   exact Zb hT hΓ hk (h.put o.dst cI) hx
def KI(P:Program)(body:Code)(Q:Exit→Act→World→Prop)(a:Act)(w:World):Prop:=
 ∀(b:Frame) (k:List Item) (cs:List Frame),∃e a' w',Q e a' w'∧Arrives P (lone (b.at a (.code body:: .inLoop body::k)) cs w) b k cs e a' w'
theorem KI.wp{P:Program}{body:Code}{Q:Exit→Act→World→Prop}{a:Act}{w:World}(h:KI P body Q a w):(Code.loop body).wp P Q a w:=fun b k cs=>by
 obtain⟨e,a',w',hq,XQ⟩:=h b k cs;exact⟨e,a',w',hq,.of_steps (.one step_loop) XQ⟩
theorem KI.yd{P:Program}{body:Code}{Q:Exit→Act→World→Prop}{a:Act}{w:World}(h:body.wp P (Exit.then (KI P body Q) Q) a w):KI P body Q a w:=fun b k cs=>by
 obtain⟨e,a₁,w₁,hq,XQ⟩:=h b (.inLoop body::k) cs;cases e with
 |normal=>
  obtain⟨e₂,a₂,w₂,hq₂,harr₂⟩:=hq b k cs;exact⟨e₂,a₂,w₂,hq₂,.of_steps (Steps.trans XQ (.one step_inLoop)) harr₂⟩
 |exit id=>exact⟨_,a₁,w₁,hq,.pass (x:= .inLoop body) rfl (fun _ _=> .inl (by simp)) XQ⟩
 |goto l=>exact⟨_,a₁,w₁,hq,.pass (x:= .inLoop body) rfl (fun _ _=> .inl (by simp)) XQ⟩
 |ret=>exact⟨_,a₁,w₁,hq,.pass (x:= .inLoop body) rfl (fun _ _=> .inl (by simp)) XQ⟩
 |panic ch=>exact⟨_,a₁,w₁,hq,.pass (x:= .inLoop body) rfl (fun _ _=> .inl (by simp)) XQ⟩
 |outgrown=>exact⟨_,a₁,w₁,hq,.pass (x:= .inLoop body) rfl (fun _ _=> .inl (by simp)) XQ⟩
abbrev ZM:=Exit→Act→World→Prop
def At(P:Program):Code→ZM→Nat→Code→ZM→Prop
 | .seq a b,Q,ℓ,body,Q' =>At P a (Exit.then (b.wp P Q) Q) ℓ body Q'∨At P b Q ℓ body Q'
 | .cond _ a b,Q,ℓ,body,Q' =>At P a Q ℓ body Q'∨At P b Q ℓ body Q'
 | .block id c,Q,ℓ,body,Q' =>At P c (Exit.inBlock id Q) ℓ body Q'
 | .loop c,Q,ℓ,body,Q' =>(first c= ℓ ∧body=c∧Q' =Q)∨At P c (Exit.then (KI P c Q) Q) ℓ body Q'
 |_,_,_,_,_=>False
def Vi(Q:ZM):Prop:= ∀c a w,¬Q (.panic c) a w
theorem Vi.then{Q:ZM}(h:Vi Q)(n:Act→World→Prop):Vi (Exit.then n Q):=fun c a w hq=>h c a w hq
theorem Vi.inBlock{Q:ZM}(h:Vi Q)(id:Nat):Vi (Exit.inBlock id Q):=fun c a w hq=>h c a w hq
section
variable{Y:Type} {P:Program} {C:Xk} (hT:DY P C.T) (hΓ:XC P C.Γ) (hm:P.follows .mixedOrders=true) {E0:Env} {w0:World} {N nb:Nat} {y:Y} {J:Nat→St→Option Y}
structure Good (E0:Env) (w0:World) (N nb:Nat) (y:Y) (kn:KN Y) (kx:Nat→KN Y) (kr:KN Y) (Q:ZM):Prop where
 n:∀E σ a w,Ok E0 w0 N nb E σ a w→(∀ω,kn ω σ=some y)→Q .normal a w
 x:∀id E σ a w,Ok E0 w0 N nb E σ a w→(∀ω,kx id ω σ=some y)→Q (.exit id) a w
 r:∀E σ a w,Ok E0 w0 N nb E σ a w→(∀ω,kr ω σ=some y)→Q .ret a w
def JOk(P:Program)(E0:Env)(w0:World)(N nb:Nat)(y:Y)(J:Nat→St→Option Y)(cd:Code)(Q:ZM):Prop:=
 ∀ ℓ body Q',At P cd Q ℓ body Q'→ ∀E σ a w,Ok E0 w0 N nb E σ a w→J ℓ σ=some y→KI P body Q' a w
include hT hΓ hm in
theorem lh:∀{cd:Code} {kn:KN Y} {kx:Nat→KN Y} {kr:KN Y} {Q:ZM} {E:Env} {σ:St} {a:Act} {w:World},Vi Q→Good E0 w0 N nb y kn kx kr Q→JOk P E0 w0 N nb y J cd Q→Ok E0 w0 N nb E σ a w→
  (∀ω,run C J cd kn kx kr ω σ=some y)→cd.wp P Q a w:=by
 intro cd
 induction cd with
 |skip=>intro kn kx kr Q E σ a w hp hg hj h e;exact wp_skip (hg.n E σ a w h e)
 |region id ops draw=>
  intro kn kx kr Q E σ a w hp hg hj h e;simp only[run]at e;cases draw with
  |false=>
   simp only[AHU,AIk]at e;exact wp_region_list (Zb hT hΓ hg.n h e)
  |true=>
   simp only[AKA]at e;have hs:Region.noSelect ops=true:=by
    have:=e [];split at this
    ·rename_i hh;exact hh
    ·cases this
   simp only[hs,AKA]at e;exact wp_region_any hm (gI _ _ _ _ _ (jC hT hΓ hs hp hg.n _ (h.drawn _) e))
 |seq x z ihx ihz=>
  intro kn kx kr Q E σ a w hp hg hj h e;simp only[run]at e;refine wp_seq (ihx (hp.then _) ⟨fun E σ a w h e=>ihz hp hg (fun ℓ body Q' MY=>hj ℓ body Q' (.inr MY)) h e,fun id E σ a w h e=>hg.x id E σ a w h e,hg.r⟩ (fun ℓ body Q' MY=>hj ℓ body Q' (.inl MY)) h e)
 |cond c x z ihx ihz=>
  intro kn kx kr Q E σ a w hp hg hj h e;cases c with
  |tmp t=>
   simp only[run]at e;have e0:=e [];split at e0
   ·rename_i b hb
    simp only[hb]at e;obtain⟨v,hv,hx⟩:=h.rel.tmp hb;have hvb:=Mb (E:=E) (w:=w) (vw:=σ.bx) hx;subst hvb;have pZ:a.eval (.tmp t)= .bool b:=by simp[Act.eval,ALG,hv]
    have hk:=js hb;cases b with
    |true=>
     simp only[AIO,tt,hk]at e;exact wp_cond_true pZ (ihx hp hg (fun ℓ body Q' MY=>hj ℓ body Q' (.inl MY)) h e)
    |false=>
     simp only[AG6,ff,hk]at e;exact wp_cond_false pZ (ihz hp hg (fun ℓ body Q' MY=>hj ℓ body Q' (.inr MY)) h e)
   ·cases e0
  |_=>cases e []
 |block id c ih=>
  intro kn kx kr Q E σ a w hp hg hj h e;simp only[run]at e;refine wp_block (ih (hp.inBlock id) ⟨hg.n,fun j E σ a w h e=> ?_,hg.r⟩ (fun ℓ body Q' MY=>hj ℓ body Q' MY) h e);simp only[Exit.inBlock];split
  ·rename_i fJ
   simp only[fJ,AKA]at e;exact hg.n E σ a w h e
  ·rename_i fJ
   simp only[fJ,AIk]at e;exact hg.x j E σ a w h e
 |loop body ih=>
  intro kn kx kr Q E σ a w hp hg hj h e;simp only[run]at e;exact KI.wp (hj (first body) body Q (.inl ⟨rfl,rfl,rfl⟩) E σ a w h (e []))
 |exit id=>intro kn kx kr Q E σ a w hp hg hj h e;exact wp_exit (hg.x id E σ a w h e)
 |ret=>intro kn kx kr Q E σ a w hp hg hj h e;exact wp_ret (hg.r E σ a w h e)
 |_=>intro kn kx kr Q E σ a w hp hg hj h e;cases e []
end
end Go.Fw
end
section
namespace Go.Fw
def labels:Code→List Nat
 | .seq a b=>labels a++labels b
 | .cond _ a b=>labels a++labels b
 | .block _ c=>labels c
 | .loop c=>first c::labels c
 |_=>[]
theorem At.label{P:Program}:∀{cd:Code} {Q:ZM} {ℓ :Nat} {body:Code} {Q':ZM},At P cd Q ℓ body Q'→ ℓ ∈labels cd
 | .seq a b,Q,ℓ,body,Q',h=>by
  simp only[labels,AHp];exact h.imp At.label At.label
 | .cond _ a b,Q,ℓ,body,Q',h=>by
  simp only[labels,AHp];exact h.imp At.label At.label
 | .block _ c,Q,ℓ,body,Q',h=>At.label (cd:=c) h
 | .loop c,Q,ℓ,body,Q',h=>by
  simp only[labels,AIU];exact h.imp (fun h=>h.1.symm) At.label
section
variable{Y:Type} {P:Program} {C:Xk} (hT:DY P C.T) (hΓ:XC P C.Γ) (hm:P.follows .mixedOrders=true) {E0:Env} {w0:World} {N nb:Nat} {y:Y} {J:Nat→St→Option Y}
theorem MI{ℓ :Nat}:∀{cd:Code} {kn:KN Y} {kx:Nat→KN Y} {kr:KN Y},ℓ ∉labels cd→find C J ℓ cd kn kx kr=none
 | .seq a b,kn,kx,kr,h=>by
  simp only[labels,AHp,not_or]at h;simp only[find];rw[MI h.1];exact MI h.2
 | .cond _ a b,kn,kx,kr,h=>by
  simp only[labels,AHp,not_or]at h;simp only[find];rw[MI h.1];exact MI h.2
 | .block _ c,kn,kx,kr,h=>by simp only[find];exact MI (cd:=c) h
 | .loop c,kn,kx,kr,h=>by
  simp only[labels,AIU,not_or]at h;simp only[find];rw[AGU (fun e=>h.1 e.symm)];exact MI h.2
 | .skip,_,_,_,_=>rfl
 | .region _ _ _,_,_,_,_=>rfl
 | .rangeFunc _ _ _ _,_,_,_,_=>rfl
 | .exit _,_,_,_,_=>rfl
 | .scope _,_,_,_,_=>rfl
 | .label _,_,_,_,_=>rfl
 | .goto _,_,_,_,_=>rfl
 | .ret,_,_,_,_=>rfl
 | .refuse _,_,_,_,_=>rfl
include hT hΓ hm in
theorem uG{ℓ :Nat}:∀{cd:Code} {kn:KN Y} {kx:Nat→KN Y} {kr:KN Y} {Q:ZM} {body:Code} {Q':ZM},(labels cd).Nodup→Vi Q→Good E0 w0 N nb y kn kx kr Q→JOk P E0 w0 N nb y J cd Q→At P cd Q ℓ body Q'→
  ∃kn' kx' kr',find C J ℓ cd kn kx kr=some (fun ω σ=>run C J body (fun _ σ=>J ℓ σ) kx' kr' ω σ)∧Good E0 w0 N nb y kn' kx' kr' Q'∧Vi Q'∧JOk P E0 w0 N nb y J body (Exit.then (KI P body Q') Q'):=by
 intro cd
 induction cd with
 |seq a b iha ihb=>
  intro kn kx kr Q body Q' hn hp hg hj MY;simp only[labels,AHW]at hn;obtain⟨n1,n2,n3⟩:=hn;have hja:JOk P E0 w0 N nb y J a (Exit.then (b.wp P Q) Q):=fun ℓ body Q' MY=>hj ℓ body Q' (.inl MY)
  have hjb:JOk P E0 w0 N nb y J b Q:=fun ℓ body Q' MY=>hj ℓ body Q' (.inr MY)
  simp only[find];rcases MY with MY|MY
  ·obtain⟨kn',kx',kr',h1,h2⟩:=iha n1 (hp.then _) (kn:=fun ω σ=>run C J b kn kx kr ω σ) (kx:=kx) (kr:=kr)
    ⟨fun E σ a w h e=>lh hT hΓ hm hp hg hjb h e,fun id E σ a w h e=>hg.x id E σ a w h e,hg.r⟩ hja MY
   exact⟨kn',kx',kr',by rw[h1],h2⟩
  ·have: ℓ ∉labels a:=fun h=>n3 ℓ h ℓ MY.label rfl
   rw[MI this];exact ihb n2 hp hg hjb MY
 |cond c a b iha ihb=>
  intro kn kx kr Q body Q' hn hp hg hj MY;simp only[labels,AHW]at hn;obtain⟨n1,n2,n3⟩:=hn;simp only[find];rcases MY with MY|MY
  ·obtain⟨kn',kx',kr',h1,h2⟩:=iha n1 hp hg (fun ℓ body Q' MY=>hj ℓ body Q' (.inl MY)) MY
   exact⟨kn',kx',kr',by rw[h1],h2⟩
  ·have: ℓ ∉labels a:=fun h=>n3 ℓ h ℓ MY.label rfl
   rw[MI this];exact ihb n2 hp hg (fun ℓ body Q' MY=>hj ℓ body Q' (.inr MY)) MY
 |block id c ih=>
  intro kn kx kr Q body Q' hn hp hg hj MY;simp only[find];refine ih hn (hp.inBlock id) ⟨hg.n,fun j E σ a w h e=> ?_,hg.r⟩ (fun ℓ body Q' MY=>hj ℓ body Q' MY) MY;simp only[Exit.inBlock];split
  ·rename_i fJ
   simp only[fJ,AKA]at e;exact hg.n E σ a w h e
  ·rename_i fJ
   simp only[fJ,AIk]at e;exact hg.x j E σ a w h e
 |loop c ih=>
  intro kn kx kr Q body Q' hn hp hg hj MY;simp only[labels,ALH]at hn;have hj':JOk P E0 w0 N nb y J c (Exit.then (KI P c Q) Q):=fun ℓ body Q' MY=>hj ℓ body Q' (.inr MY)
  simp only[find];by_cases hl:first c= ℓ
  ·rw[AGH hl]
   rcases MY with⟨_,rfl,rfl⟩|MY
   ·exact⟨kn,kx,kr,rfl,hg,hp,hj'⟩
   ·exact absurd (hl▸MY.label) hn.1
  ·rw[AGU hl]
   rcases MY with⟨h,_⟩|MY
   ·exact absurd h hl
   ·exact ih hn.2 (hp.then _) ⟨fun E σ a w h e=>hj (first c) c Q (.inl ⟨rfl,rfl,rfl⟩) E σ a w h (e []),fun id E σ a w h e=>hg.x id E σ a w h e,hg.r⟩ hj' MY
 |_=>intro kn kx kr Q body Q' hn hp hg hj MY;exact MY.elim
end
theorem YC{E:Env}{w:World}{vw:List Bx}:∀{l:List (Nat×XP)} {x:Eg.V l} {vals:List Value} {tm:List XV},LB E w vw id l x vals→Bj (XR E w vw) tm vals→Bj (XR E w vw) (Eg.mk id l x tm) vals
 |[],_,_,_,_,h=>h
 |(i,p)::l,x,vals,tm,hs,h=>by
  obtain⟨⟨v,hv,hx⟩,hs⟩:=hs;simp only[Eg.mk];refine YC hs ?_
  have:=Bj.set (i:=i) h hx;have e:vals.set i v=vals:=by
   apply ALM;intro j;rw[AJb];split
   ·rename_i e;subst e
    rw[AGH (AF9.1 hv).1,hv]
   ·rfl
  rwa [e]at this
theorem Bj.undef{E:Env}{w:World}{vw:List Bx}:∀{vals:List Value} {n:Nat},n=vals.length→Bj (XR E w vw) (List.replicate n (.c .undef)) vals
 |[],n,h=>by subst h;trivial
 |v::vals,n,h=>by
  subst h;simp only[AHh,ALR];exact⟨trivial,Bj.undef rfl⟩
theorem ij.shared{E E1:Env}{w:World}{bx:List Bx}{m:K5}{s:Bn}{x:s.V}{vals:List Value}(h:ij E w bx m s x vals E1)(hb:CD E w bx bx []):
  ∃E2,E2.Fc=E1.Fc∧E2.Fq=E1.Fq∧Wr E w E2 w∧CD E2 w (GY.mk id s.Eb x.2) (GY.mk id s.Eb x.2) []∧LB E2 w (GY.mk id s.Eb x.2) id s.Cn x.1 vals:=by
 obtain⟨Fk,k1,k2,k3,k4⟩:=h.rest
 let E2:Env:={ E1 with S:=fun c=>E1.S c∨c∈Fk.flatten }
 have st1:=h.boxes.st;have keep:Nk E1 w (GY.mk id s.Eb x.2) E2 w (GY.mk id s.Eb x.2):=
  ⟨AIi _,fun _ _=>rfl,fun _ h=>h,fun _ h=> .inl h,st1,fun _ _=>rfl,fun b d r rows _ e=>⟨d,rows,e,fun p hp q ys hg=>⟨hp,⟨ys,hg,rfl⟩,fun _ h=>h⟩⟩⟩
 refine⟨E2,rfl,rfl,⟨h.T,fun c hc=> .inl (h.S c hc),fun c hc=> ?_,fun c hc=> ?_,fun _ _=>rfl,rfl,rfl,rfl,AIi _⟩,?_,?_⟩
 ·rcases k4 c hc with h|h|h
  ·exact .inl h
  ·exact .inr (.inl h)
  ·exact .inr (.inr h)
 ·rcases hc with hc|hc
  ·exact h.nJ c hc
  ·exact .inr (k3 c hc).1
 ·refine h.boxes.turn (E':=E2) (w':=w) (fun _ _ hv=>D_ keep hv) (fun _ h=> .inl h) (fun _ _=>rfl) (fun _ _=>rfl) (fun _ _ _=>rfl) fun F hF=>⟨hF.nodup,hF.free,hF.lt,fun c hc=>hc.elim (hF.st c) fun h=>(k3 c h).2.2.2,hF.W0⟩
 ·have:∀{l:List (Nat×XP)} {z:Eg.V l},LB E1 w (GY.mk id s.Eb x.2) id l z vals→LB E2 w (GY.mk id s.Eb x.2) id l z vals:=by
   intro l
   induction l with
   |nil=>intro z h;trivial
   |cons q l ih=>
    obtain⟨i,p⟩:=q;intro z h;obtain⟨⟨v,hv,hx⟩,hs⟩:=h;exact⟨⟨v,hv,Ku keep hx⟩,ih hs⟩
  exact this h.Cn
theorem Xn:∀{l:List BP} {i n:Nat},(ON i n l).length=l.length
 |[],_,_=>rfl
 |_::l,i,n=>by simp[ON,Xn (l:=l)]
theorem Xr:∀{l:List BP} {i n k b:Nat},(ON i n l)[k]? =some (some b)→b=i+k∧b<n∧l[k]?≠some .gone
 |[],i,n,k,b,h=>by simp[ON]at h
 |p::l,i,n,0,b,h=>by
  simp only[ON,List.getElem?_cons_zero,AGL]at h;cases p with
  |gone=>simp at h
  |mem q=>split at h<;>simp_all<;>omega
  |sl d r=>split at h<;>simp_all<;>omega
 |p::l,i,n,k+1,b,h=>by
  simp only[ON,List.getElem?_cons_succ]at h;obtain⟨h1,h2,h3⟩:=Xr h;exact⟨by omega,h2,by simpa using h3⟩
theorem Xy:∀{l:List BP} {i n k:Nat} {p:BP},l[k]? =some p→p≠ .gone→i+k<n→(ON i n l)[k]? =some (some (i+k))
 |q::l,i,n,0,p,h,hg,hn=>by
  simp at h;subst h;simp only[ON,List.getElem?_cons_zero,AGL];cases q with
  |gone=>exact absurd rfl hg
  |mem q=>simp at hn⊢;exact hn
  |sl d r=>simp at hn⊢;exact hn
 |q::l,i,n,k+1,p,h,hg,hn=>by
  simp only[ON,List.getElem?_cons_succ];rw[Xy (l:=l) (i:=i+1) (k:=k) (by simpa using h) hg (by omega)];congr 2;omega
 |[],_,_,_,_,h,_,_=>by simp at h
theorem de{l:List BP}{n:Nat}:dM (ON 0 n l):=fun i j b h k=>by
 have:=(Xr h).1;have:=(Xr k).1;omega
end Go.Fw
end
section
namespace Go.Fw
structure AGw (P:Program) (f:Nat) (fn:Func) (c:PQ):Prop where
 at_:P.funcs[f]? =some fn
 call:∀args w,(callFunc f args).run P w= .ok (.enter f args) w
 con:c.ok=true
 tmps:c.ins.Cn.length≤fn.ntmps
 labels:∀code,fn.body=some code→(labels code).Nodup
section
variable{P:Program} {C:Xk} (hT:DY P C.T) {E:Env} {σ:St} {a:Act} {w:World}
include hT in
theorem qX(h:Rel E σ a w):
  ∀{rs:List ResultVar} {xs:List XV},rs.mapM (rm C.T σ)=some xs→ ∃vs,(∀f:ResultVar→Sem Value,(∀u,f (.tmp u)=pure (a.tmps.getD u undef))→(∀b t,f (.cell b t)=(do loadVar t (←asAddr (a.tmps.getD b undef))))→
   (rs.mapM f).run P w= .ok vs w)∧Bj (XR E w σ.bx) xs vs:=by
 intro rs
 induction rs with
 |nil=>
  intro xs e;have hx:xs=[]:=by simpa using e.symm
  subst hx;exact⟨[],fun f _ _=>by simp,trivial⟩
 |cons r rs ih=>
  intro xs e;rw[ALx]at e;simp only[Option.bind_eq_bind,AGs,Option.pure_def,AGL]at e;obtain⟨x,e1,ys,e2,rfl⟩:=e;obtain⟨vs,h1,h2⟩:=ih e2;have one:∃v,(∀f:ResultVar→Sem Value,(∀u,f (.tmp u)=pure (a.tmps.getD u undef))→(∀b t,f (.cell b t)=(do loadVar t (←asAddr (a.tmps.getD b undef))))→(f r).run P w= .ok v w)∧XR E w σ.bx x v:=by
   cases r with
   |tmp t=>
    simp only[rm]at e1;obtain⟨v,hv,hx⟩:=h.tmp e1;refine⟨v,fun f hf hc=> ?_,hx⟩;rw[hf];simp[ALG,hv]
   |cell b t=>
    simp only[rm]at e1;split at e1
    case h_2=>cases e1
    rename_i z hz;obtain⟨v,hv,hx⟩:=h.tmp hz;obtain⟨Fs,hB,hS⟩:=h.bx;cases z with
    |agg l=>simp[aF]at e1
    |Jy l=>simp[aF]at e1
    |c ad=>
     obtain⟨bb,oo,u,cell,hp,_,q2,q3⟩:=gp hT hB hS.st e1 hx;refine⟨u,fun f hf hc=> ?_,q2⟩;have hgd:a.tmps.getD b undef=v:=by simp[ALG,hv]
     have:=q3 w rfl;rw[hc,hgd,hp];rw[hp]at this;simpa[Instr.loadAt,Instr.sureAddr,asAddr]using this
  obtain⟨v,g1,g2⟩:=one;refine⟨v::vs,fun f hf hc=> ?_,g2,h2⟩;rw[ALx];simp[g1 f hf hc,h1 f hf hc]
theorem XM{vw:List Bx}:∀{l:List XV} {q:List (AV ⊕ List AV)} {vs:List Value},kC l=some q→Bj (XR E w vw) l vs→Bj (TR E w vw) q vs
 |[],q,[],e,_=>by
  simp only[kC,AGL]at e;subst e;trivial
 |[],_,_::_,_,h=>h.elim
 | .c x::l,q,v::vs,e,h=>by
  simp only[kC,AGV]at e;obtain⟨r,e1,rfl⟩:=e;exact⟨h.1,XM e1 h.2⟩
 | .agg x::l,q,v::vs,e,h=>by
  simp only[kC,AGV]at e;obtain⟨r,e1,rfl⟩:=e;exact⟨h.1,XM e1 h.2⟩
 | .Jy _::_,_,_,e,_=>by simp[kC]at e
 | .c _::_,_,[],_,h=>h.elim
 | .agg _::_,_,[],_,h=>h.elim
include hT in
theorem fZ(h:Rel E σ a w){fn:Func}{x:XV}(e:eJ C.T σ fn.results.toList=some x):∃v,(results fn a.tmps).run P w= .ok v w∧XR E w σ.bx x v:=by
 unfold eJ at e;have key:∀xs,fn.results.toList.mapM (rm C.T σ)=some xs→ ∃vs:List Value,(results fn a.tmps).run P w= .ok (if h:vs.toArray.size=1 then vs.toArray[0]else .tuple vs.toArray) w∧Bj (XR E w σ.bx) xs vs:=by
  intro xs hx;obtain⟨vs,h1,h2⟩:=qX (P:=P) hT h hx;refine⟨vs,?_,h2⟩;unfold results;rw[Array.mapM_eq_mapM_toList];simp only[Sem.run_bind,Sem.run_map];rw[h1 _ (fun _=>rfl) (fun _ _=>rfl)];simp only[Result.andThen_ok,Sem.run_pure]
 split at e
 ·rename_i z hz
  cases e;obtain⟨vs,h1,h2⟩:=key _ hz
  match vs,h2 with
  |[v],h2=>exact⟨v,by simpa using h1,h2.1⟩
  |v::_::_,h2=>exact h2.2.elim
  |[],h2=>exact h2.elim
 ·rename_i l hl hz
  simp only[AGV]at e;obtain⟨q,e1,rfl⟩:=e;obtain⟨vs,h1,h2⟩:=key _ hz;have YU: ¬vs.toArray.size=1:=fun hs=>by
   have:=Bj.len h2
   match l,this with
   |[z],_=>exact hl z rfl
   |[],t=>simp at t hs;omega
   |_::_::_,t=>simp at t hs;omega
  rw[dif_neg YU]at h1;exact⟨_,h1,vs.toArray,rfl,by simpa using XM e1 h2⟩
 ·cases e
end
theorem Wz{E:Env}{w:World}{vw:List Bx}{more:List Value}:∀{l:List (Nat×XP)} {x:Eg.V l} {vals:List Value},LB E w vw id l x vals→LB E w vw id l x (vals++more)
 |[],_,_,_=>trivial
 |(i,p)::l,x,vals,h=>by
  obtain⟨⟨v,hv,hx⟩,hs⟩:=h;exact⟨⟨v,by rw[AG0 (AF9.1 hv).1];exact hv,hx⟩,Wz hs⟩
def nK(C:Xk)(c:PQ)(fn:Func)(code:Code)(J:Nat→Nat→St→Option c.outs.V):Prop:=
 ∀ ℓ,ℓ ∈labels code→ ∃(s:Bn) (F:Nat→s.V→Option c.outs.V),(∀n,J n ℓ =jump c.ins.Eb.length s (F n))∧(∀v,F 0 v=none)∧
  ∀n v y,F (n+1) v=some y→ ∀ω,GL C c fn (J n) ℓ ω (s.st fn.ntmps v)=some y
section
variable{P:Program} {C:Xk} (hT:DY P C.T) (hΓ:XC P C.Γ) (hm:P.follows .mixedOrders=true) {fn:Func} {c:PQ}
def ABG(c:PQ)(E0:Env)(w0:World)(u:c.outs.V)(e:Ending)(w':World):Prop:=
 ∃x E',e= .returned x∧Wr E0 w0 E' w'∧CD E' w' (GY.mk id c.outs.Eb u.2) (GY.mk id c.outs.Eb u.2) []∧
  LB E' w' (GY.mk id c.outs.Eb u.2) id c.outs.Cn u.1 [x]∧ ∀i,i<c.ins.Eb.length→alive c.outs.Eb i=true→E'.Fc i=E0.Fc i∧E'.Fq i=E0.Fq i
theorem Ok.opens{E0 E:Env}{w0 w:World}{N nb:Nat}{σ:St}{a:Act}(h:Ok E0 w0 N nb E σ a w)(s:Bn):∃E',Ok E0 w0 N nb E' { σ with bx:=s.opens σ.bx } a w∧
  (∀(i:Nat) d r,s.Eb[i]? =some (.sl d r)→E'.Fq (σ.bx.length+i)= .slice none 0 0)∧(∀x v,XR E w σ.bx x v→XR E' w (s.opens σ.bx) x v):=by
 obtain⟨E',h1,h2,h3,h4⟩:=gE h.rel s;exact⟨E',h.next h1 h2 rfl,h3,h4⟩
theorem qW{E E':Env}{w:World}{vw:List Bx}{b:Nat}(h:Le E E')(st:∀c,E.S c→E.T c):Nk E w vw E' w (vw.set b .dead):=by
 refine⟨by simp,fun b _=>by rw[h.Fc],h.T,h.S,st,fun _ _=>rfl,fun c d r rows _ e=> ?_⟩;by_cases hc:c=b
 ·subst hc
  rw[AJb]at e;simp only[AKA]at e;split at e<;>cases e
 ·rw[AHF (fun e=>hc e.symm)]at e
  exact⟨d,rows,e,fun p hp q ys hg=>⟨hp,⟨ys,hg,rfl⟩,fun h' hh=>by rw[h.Fq];exact hh⟩⟩
theorem vE{E:Env}{σ:St}{a:Act}{w:World}(h:Rel E σ a w)(b:Nat):∃E',Rel E' (σ.eC b) a w∧Le E E':=by
 unfold St.eC;split
 case h_2=>exact⟨E,h,Le.refl E⟩
 rename_i d r rows hb;obtain⟨F,hF,hB⟩:=h.bx.take hb;have Ql:CD E w σ.bx (σ.bx.set b .dead) ([]++F++[]):=by simpa using hB
 obtain⟨hle,hB3⟩:=Ql.share;have hk:=qW (vw:=σ.bx) (b:=b) (w:=w) hle h.bx.st;have sZ:Nk E w σ.bx { E with S:=fun c=>E.S c∨c∈F,T:=fun c=>E.T c∨c∈F } w ((σ.bx.set b .dead).map (Bx.eC b r rows)):=by
  refine⟨by simp,hk.Fc,hk.T,hk.S,hk.st,hk.heap,fun c d' r' B3 hc e=> ?_⟩;rw[AIg,AGV]at e;obtain⟨B,e,eB⟩:=e;cases B with
  |mem cs=>cases eB
  |dead=>cases eB
  |sl d0 r0 L9=>
   cases eB;exact hk.box c _ _ _ hc e
 have hv:∀x v,VR E w σ.bx x v→VR { E with S:=fun c=>E.S c∨c∈F,T:=fun c=>E.T c∨c∈F } w ((σ.bx.set b .dead).map (Bx.eC b r rows)) (x.eC b r rows) v:=fun x v hx=>by
  unfold AV.eC;split
  ·rename_i c
   split
   ·rename_i hc
    subst hc;obtain⟨h1,h2⟩:=hx;rw[hb]at h2;have hv:=h2.2.2;rw[B5]at hv;simp only[AGL]at hv;have:=SE hF.2;rw[hv]at this;exact DT (fun c hc=>hc) (fun _ _=>rfl) this
   ·exact D_ sZ hx
  ·exact D_ sZ hx
 refine⟨_,⟨h.Jq,?_,?_⟩,hle⟩
 ·refine Bj.Ie _ (fun x v hx=> ?_) h.tm
  unfold XV.eC;split
  ·exact hv _ _ hx
  ·exact Ku sZ hx
 ·obtain⟨Fs,⟨hl,h1⟩,h2⟩:=hB
  have ux:Sep E w (F++Fs.flatten):=h2.perm (by simpa using AIa);refine⟨Fs,⟨by simpa using hl,fun k B G NQ hG=> ?_⟩,?_⟩
  ·rw[AIg,AGV]at NQ
   obtain⟨B0,e,rfl⟩:=NQ;have h3:=h1 k B0 G e hG;cases B0 with
   |mem cs=>
    obtain⟨rfl,arr,ty,fr,a1,a2,a3⟩:=h3;exact⟨rfl,arr,ty,fr,a1,a2,Bj.Ie _ (fun x v hx=>hv x v hx) a3⟩
   |sl d0 r0 L9=>exact⟨h3.1,Cq hle.S (fun _ _=>rfl) (fun _ _=>rfl) h3.2⟩
   |dead=>exact h3
  ·rw[AH7]
   have st:=h.bx.st;refine⟨(AHW.1 ux.nodup).2.1,fun c hc ht=> ?_,fun c hc=>ux.lt c (by simp only[AHp];exact .inr hc),fun c hc=>hc.imp (st c) id,fun c hc=>hc.elim (ux.W0 c) fun h' =>ux.lt c (by simp[h'])⟩;rcases ht with ht|ht
   ·exact ux.free c (AHp.2 (.inr hc)) ht
   ·exact(AHW.1 ux.nodup).2.2 c ht c hc rfl
theorem ry{σ:St}{b i:Nat}(h:σ.bx[i]? =some .dead):(σ.eC b).bx[i]? =some .dead:=by
 unfold St.eC;split
 ·simp only[AIg,AJb]
  split
  ·split
   ·rfl
   ·rename_i h2
    subst_vars
    exact absurd (AF9.1 h).1 h2
  ·rw[h];rfl
 ·exact h
theorem nQ{σ:St}{b:Nat}:(σ.eC b).bx.length=σ.bx.length∧(σ.eC b).tm.length=σ.tm.length:=by
 unfold St.eC;split<;>simp
theorem Ok.eC{E0 E:Env}{w0 w:World}{N nb:Nat}{σ:St}{a:Act}(h:Ok E0 w0 N nb E σ a w)(b:Nat):∃E',Ok E0 w0 N nb E' (σ.eC b) a w:=by
 obtain⟨E',h1,h2⟩:=vE h.rel b;refine⟨E',⟨h1,h.base.trans (h2.base w),by rw[nQ.2];exact h.tm,by rw[nQ.1];exact h.ey,fun i hi hd=> ?_⟩⟩;rw[h2.Fc,h2.Fq];exact h.ids i hi fun e=>hd (ry e)
theorem Ok.LQ{E0:Env}{w0 w:World}{N nb:Nat}{a:Act}:∀(l:List AP) (xs:List AV) {E:Env} {σ:St},Ok E0 w0 N nb E σ a w→ ∃E',Ok E0 w0 N nb E' (LQ l xs σ) a w:=by
 intro l xs E σ h
 induction l generalizing xs E σ with
 |nil=>unfold Fw.LQ;exact⟨E,h⟩
 |cons p l ih=>
  unfold Fw.LQ;split
  ·rename_i heq
   cases heq;obtain⟨E',h'⟩:=h.eC _;exact ih _ h'
  ·rename_i heq
   cases heq;exact ih _ h
  ·exact⟨E,h⟩
theorem Ok.AJG{E0:Env}{w0 w:World}{N nb:Nat}{a:Act}{bs:List BP}:∀(l:List (Nat×XP)) {E:Env} {σ:St},Ok E0 w0 N nb E σ a w→ ∃E',Ok E0 w0 N nb E' (LI bs l σ) a w:=by
 intro l
 induction l with
 |nil=>intro E σ h;exact⟨E,h⟩
 |cons q l ih=>
  intro E σ h;unfold LI;split
  ·cases ‹_::_=[]›
  ·rename_i e
   cases e;split
   ·obtain⟨E',h'⟩:=h.LQ [_] [_]
    exact ih h'
   ·exact ih h
  ·rename_i e
   cases e;split
   ·split
    ·obtain⟨E',h'⟩:=h.LQ _ _
     exact ih h'
    ·exact ih h
   ·exact ih h
  ·rename_i e
   cases e;exact ih h
theorem hO{E:Env}{w:World}{vw:List Bx}{x:AV}{v:Value}(h:VR E w vw x v)(hx:x.gF=true):isSlice v=true:=by
 cases x with
 |ref b p=>exact h.1
 |VP b p o n=>exact h.1
 |sl s r y=>
  simp only[VR,Rd]at h;obtain⟨a,cap,h,_⟩:=h;simp only[AId,AJo]at h;rw[h];rfl
 |nil=>cases h;rfl
 |_=>cases hx
theorem mH{E:Env}{σ:St}{a:Act}{w:World}(h:Rel E σ a w)(b j:Nat):Rel E (σ.forget b j) a w∧σ.bx.length≤(σ.forget b j).bx.length∧(∀i:Nat,σ.bx[i]? =some Bx.dead→(σ.forget b j).bx[i]? =some Bx.dead)∧(σ.forget b j).tm=σ.tm:=by
 unfold St.forget;split
 case h_2=>exact⟨h,AIi _,fun _ h=>h,rfl⟩
 rename_i cs hb;split
 case h_2=>exact⟨h,AIi _,fun _ h=>h,rfl⟩
 rename_i x hx;split
 case isFalse=>exact⟨h,AIi _,fun _ h=>h,rfl⟩
 rename_i hs;have kq:=(AF9.1 hb).1;have hk:Nk E w σ.bx E w (σ.bx.set b (.mem (cs.set j (.ref σ.bx.length [])))++[.dead]):=by
  refine⟨by simp,fun _ _=>rfl,fun _ h=>h,fun _ h=>h,h.bx.st,fun _ _=>rfl,fun c d r rows hc e=> ?_⟩;rw[AG0 (by simpa using hc)]at e;by_cases pe:b=c
  ·subst pe
   rw[AH0 hc]at e;cases e
  ·rw[AHF pe]at e
   exact⟨d,rows,e,fun p hp q ys hg=>⟨hp,⟨ys,hg,rfl⟩,fun h' hh=>hh⟩⟩
 refine⟨⟨h.Jq,h.tm.imp fun _ _ hx=>Ku hk hx,?_⟩,by simp,fun i hi=> ?_,rfl⟩
 ·obtain⟨Fs,⟨hl,h1⟩,h2⟩:=h.bx
  refine⟨Fs++[[]],⟨by simp[hl],fun k B G hB hG=> ?_⟩,by simpa using h2⟩;by_cases sZ:k<σ.bx.length
  ·rw[AG0 (by simpa using sZ)]at hB
   rw[AG0 (by omega)]at hG;by_cases hkb:b=k
   ·subst hkb
    rw[AH0 sZ]at hB;cases hB;obtain⟨rfl,arr,ty,fr,a1,a2,a3⟩:=h1 b _ G hb hG;refine⟨rfl,arr,ty,fr,a1,a2,?_⟩;have a4:YB E w (σ.bx.set b (.mem (cs.set j (.ref σ.bx.length [])))++[.dead]) cs arr.toList:=a3.imp fun _ _ hv=>D_ hk hv
    obtain⟨v,hv,hvr⟩:=a3.get hx;have PX:arr.toList.set j v=arr.toList:=by
     apply ALM;intro i;by_cases sR:j=i
     ·subst sR
      rw[AH0 (AF9.1 hv).1,hv]
     ·rw[AHF sR]
    rw[←PX];refine Bj.set a4 ⟨hO hvr hs,?_⟩;have:(σ.bx.set b (.mem (cs.set j (.ref σ.bx.length [])))++[.dead])[σ.bx.length]? =some .dead:=by
     rw[AIC (by simp)];simp
    rw[this]
    trivial
   ·rw[AHF hkb]at hB
    have h3:=h1 k B G hB hG;cases B with
    |mem VB=>
     obtain⟨rfl,arr,ty,fr,a1,a2,a3⟩:=h3;exact⟨rfl,arr,ty,fr,a1,a2,a3.imp fun _ _ hv=>D_ hk hv⟩
    |sl d0 r0 L9=>exact h3
    |dead=>exact h3
  ·have hlen:=(AF9.1 hB).1
   simp only[AHw,AKB,AHh,AIT]at hlen;have hkk:k=σ.bx.length:=by omega
   subst hkk;rw[AIC (by simp)]at hB;rw[AIC (by omega)]at hG;simp[hl]at hB hG;subst hB hG;rfl
 ·have hil:=(AF9.1 hi).1
  rw[AG0 (by simpa using hil)];have nM:b≠i:=fun e=>by
   subst e;rw[hb]at hi;cases hi
  rw[AHF nM];exact hi
theorem Ok.forget{E0 E:Env}{w0 w:World}{N nb:Nat}{σ:St}{a:Act}(h:Ok E0 w0 N nb E σ a w)(b j:Nat):Ok E0 w0 N nb E (σ.forget b j) a w:=by
 obtain⟨h1,h2,h3,h4⟩:=mH h.rel b j;exact⟨h1,h.base,by rw[h4];exact h.tm,AIx h.ey h2,fun i hi hd=>h.ids i hi fun e=>hd (h3 i e)⟩
theorem Ok.Rj{E0 E:Env}{w0 w:World}{N nb:Nat}{a:Act}{bs:List BP}{b:Nat}:∀(l:List AP) (j:Nat) {σ:St},Ok E0 w0 N nb E σ a w→Ok E0 w0 N nb E (Rj bs b j l σ) a w
 |[],_,_,h=>h
 |p::l,j,σ,h=>by
  simp only[Fw.Rj];refine Ok.Rj l (j+1) ?_
  split
  ·split
   ·exact h.forget _ _
   ·exact h
  ·exact h
theorem Ok.AIJ{E0 E:Env}{w0 w:World}{N nb:Nat}{a:Act}{bs:List BP}:∀(l:List (Nat×XP)) {σ:St},Ok E0 w0 N nb E σ a w→Ok E0 w0 N nb E (Vw bs l σ) a w
 |[],_,h=>h
 |(i,p)::l,σ,h=>by
  simp only[Vw];refine Ok.AIJ l ?_
  split
  ·split
   ·exact h.Rj _ _
   ·exact h
  ·exact h
include hT in
theorem gY{E0 E:Env}{w0 w:World}{N:Nat}{σ:St}{a:Act}{u:c.outs.V}(h:Ok E0 w0 N c.ins.Eb.length E σ a w)(e:fQ C.T c fn.results.toList σ=some u):
  a.defers=[]∧ ∃v,(results fn a.tmps).run P w= .ok v w∧ABG c E0 w0 u (.returned v) w:=by
 unfold fQ at e;simp only[AGs,AGV]at e;obtain⟨x,e1,⟨u',m⟩,e2,rfl⟩:=e;obtain⟨v,h1,h2⟩:=fZ hT h.rel e1;obtain⟨E,h,iU,h4⟩:=h.opens c.outs
 replace h2:=h4 _ _ h2
 obtain⟨hext,E1,hf⟩:=Z9 (tm:=[x]) (vals:=[v]) h.rel.bx ⟨h2,trivial⟩ iU Xn de e2;obtain⟨E2,q1,q2,q3,q4,q5⟩:=hf.shared h.rel.bx;refine⟨h.rel.Jq,v,h1,v,E2,rfl,h.base.trans q3,q4,q5,fun i hi pf=> ?_⟩;obtain⟨p,hp,hg⟩:∃p,c.outs.Eb[i]? =some p∧p≠ .gone:=by
  unfold alive at pf;cases hh:c.outs.Eb[i]? with
  |none=>rw[hh]at pf;cases pf
  |some p=>
   refine⟨p,rfl,fun hp=> ?_⟩;rw[hh,hp]at pf;cases pf
 have pk:=hext.2 i i (by have:=Xy (i:=0) (n:=c.ins.Eb.length) hp hg (by omega);simpa using this);obtain⟨b,B,g1,g2,g3,_⟩:=ig e2 i p hp hg;rw[pk]at g1;cases g1;have fJ:=hf.ids i i pk;have sO:=h.ids i hi (fun hd=>by rw[g2]at hd;cases hd;exact g3 rfl);rw[q1,q2];exact⟨fJ.1.trans sO.1,fJ.2.trans sO.2⟩
include hT hΓ hm in
theorem rl{code:Code}(hb:fn.body=some code)(hl:(labels code).Nodup){J:Nat→Nat→St→Option c.outs.V}(hJ:nK C c fn code J)
  {E0:Env} {w0:World} {u:c.outs.V} {Q:ZM} (hp:Vi Q)
  (hg:Good E0 w0 fn.ntmps c.ins.Eb.length u (fun _=>fQ C.T c fn.results.toList) (fun _ _ _=>none) (fun _=>fQ C.T c fn.results.toList) Q):
  ∀n,JOk P E0 w0 fn.ntmps c.ins.Eb.length u (J n) code Q:=by
 intro n
 induction n with
 |zero=>
  intro ℓ body Q' MY E σ a w h e;obtain⟨s,F,j1,j2,j3⟩:=hJ ℓ MY.label;rw[j1]at e;simp only[jump]at e;split at e
  ·rw[AGs]at e
   obtain⟨q,_,e⟩:=e;rw[j2]at e;cases e
  ·cases e
 |succ n ih=>
  intro ℓ body Q' MY E σ a w h e;obtain⟨s,F,j1,j2,j3⟩:=hJ ℓ MY.label;rw[j1]at e;simp only[jump]at e;split at e
  case isFalse=>cases e
  rename_i ey;rw[AGs]at e;obtain⟨⟨v,m⟩,e1,e2⟩:=e;dsimp only at e2;obtain⟨E,h⟩:=h.AJG (bs:=s.Eb) s.Cn
  replace h:=h.AIJ (bs:=s.Eb) s.Cn
  revert h e1
  generalize Vw s.Eb s.Cn (LI s.Eb s.Cn σ)=σ
  intro e1 h;obtain⟨E,h,iU,h4⟩:=h.opens s;obtain⟨hext,E1,hf⟩:=Z9 h.rel.bx h.rel.tm iU Xn de e1;obtain⟨E2,q1,q2,q3,q4,q5⟩:=hf.shared h.rel.bx;have LW:fn.ntmps=a.tmps.toList.length:=by rw[←Bj.len h.rel.tm,h.tm]
  have G3:Ok E0 w0 fn.ntmps c.ins.Eb.length E2 (s.st fn.ntmps v) a w:=by
   refine⟨⟨h.rel.Jq,YC q5 (Bj.undef LW),q4⟩,h.base.trans q3,?_,?_,fun i hi hd=> ?_⟩
   ·have:=Bj.len (YC q5 (Bj.undef LW))
    simp only[Bn.st];rw[this,←LW]
   ·simp only[Bn.st]
    rw[N6];exact ey
   ·simp only[Bn.st]at hd
    have hp':s.Eb[i]? =some (s.Eb[i]'(by omega)):=AGI _;have hng:s.Eb[i]'(by omega)≠ .gone:=fun kV=>by
     obtain⟨z,z1,_⟩:=UW id (u:=v.2) hp';apply hd;rw[z1]
     generalize s.Eb[i]'(by omega)=pp at z kV
     subst kV;rfl
    have pk:=hext.2 i i (by have:=Xy (i:=0) (n:=c.ins.Eb.length) hp' hng (by omega);simpa using this);obtain⟨b,B,g1,g2,g3,_⟩:=ig e1 i _ hp' hng;rw[pk]at g1;cases g1;have fJ:=hf.ids i i pk;have sO:=h.ids i hi (fun hd=>by rw[g2]at hd;cases hd;exact g3 rfl);rw[q1,q2];exact⟨fJ.1.trans sO.1,fJ.2.trans sO.2⟩
  have mX:=j3 n v u e2;obtain⟨kn',kx',kr',hfind,jt,hnp,hj⟩:=uG hT hΓ hm hl hp hg ih MY;simp only[GL,hb,hfind]at mX;refine KI.yd (lh hT hΓ hm (hnp.then _) (kn:=fun _ σ=>J n ℓ σ) ⟨fun E σ a w h e=> ?_,fun id E σ a w h e=>jt.x id E σ a w h e,jt.r⟩ hj G3 mX);exact ih ℓ body Q' MY E σ a w h (e [])
include hT hΓ hm in
theorem qN{f:Nat}(hf:AGw P f fn c){J:Nat→Nat→St→Option c.outs.V}(hJ:∀code,fn.body=some code→nK C c fn code J)
  (hg:∀v u,c.g v=some u→ ∃n,∀ω,FQ C c fn (J n) ω v=some u):Ur P f c:=by
 refine⟨hf.con,hf.call,fun E w v args u GI hB hS hgv=> ?_⟩;obtain⟨n,hn⟩:=hg v u hgv;cases hb:fn.body with
 |none=>
  have:=hn [];simp only[FQ,hb]at this;cases this
 |some code=>
  simp only[FQ,hb]at hn;refine calls_of_wp hf.at_ hb ?_
  have hp:Vi (bodyPost P fn (ABG c E w u)):=fun ch a w' hq=>by
   obtain⟨_,x,E',hx,_⟩:=hq;cases hx
  have jt:Good E w fn.ntmps c.ins.Eb.length u (fun _=>fQ C.T c fn.results.toList) (fun _ _ _=>none) (fun _=>fQ C.T c fn.results.toList) (bodyPost P fn (ABG c E w u)):=
   ⟨fun E' σ a w' h e=>gY hT h (e []),fun id E' σ a w' h e=>(by cases e []),fun E' σ a w' h e=>gY hT h (e [])⟩
  have G3:Ok E w fn.ntmps c.ins.Eb.length E (c.ins.st fn.ntmps v) { tmps:=args++Array.replicate (fn.ntmps-args.size) undef,defers:=[] } w:=by
   have htm:Bj (XR E w (GY.mk id c.ins.Eb v.2)) (Eg.mk id c.ins.Cn v.1 (List.replicate fn.ntmps (.c .undef))) (args++Array.replicate (fn.ntmps-args.size) undef).toList:=by
    rw[Array.toList_append];refine YC (Wz hS) (Bj.undef ?_);have:=hf.tmps;simp;omega
   refine⟨⟨rfl,htm,hB⟩,Wr.refl E w,?_,by simp only[Bn.st];rw[N6];exact AIi _,fun _ _ _=>⟨rfl,rfl⟩⟩;simp only[Bn.st];rw[Bj.len htm];have:=hf.tmps;simp;omega
  exact lh hT hΓ hm hp jt (rl hT hΓ hm hb (hf.labels code hb) (hJ code hb) hp jt n) G3 hn
end
end Go.Fw
end
section
namespace Go.Fw
def Dq:List Ty→Ty
 |[]=> .unit
 |c::l=> .cons c (Dq l)
def kU(row:TypeId→Option (List Ty×Bool))(cells:TypeId→Nat):Nat→List Field→Option (List Ty)
 |_,[]=>some []
 |o,f::fs=>
  match row f.type with
  |some (l,_)=>if f.offset=o∧cells f.type=l.length then(kU row cells (o+l.length) fs).map (l++ ·)else none
  |none=>none
def Zg:List Ty×Bool→Ty
 |(l,true)=>Dq l
 |([c],false)=>c
 |_=> .unit
def rowOf(P:Program):Nat→TypeId→Option (List Ty×Bool)
 |0,_=>none
 |n+1,t=>
  match P.underlying t with
  |some (.int k)=>some ([.int k],false)
  |some .bool=>some ([.bool],false)
  |some .string=>some ([.str],false)
  |some (.slice e)=>
   match rowOf P n e with
   |some q=>if P.cellsOf e=q.1.length∧0<q.1.length then some ([.sl (Zg q)],false)else none
   |none=>none
  |some (.struct fs)=>
   match kU (rowOf P n) P.cellsOf 0 fs.toList with
   |some l=>if P.cellsOf t=l.length then some (l,true)else none
   |none=>none
  |_=>none
def Vd:(t:Ty)→t.D→Prop
 | .int k,x=>(Lit.int k x).wf=true
 | .bool,_=>True
 | .str,x=>List.length x≤maxLen
 | .sl r,x=>List.length x≤maxLen∧ ∀y∈x,Vd r y
 | .unit,_=>True
 | .cons c r,x=>Vd c x.1∧Vd r x.2
theorem YJ{α:Type}{p:Nat→α→Prop}:∀{n:Nat},(∀i,i<n→ ∃y,p i y)→ ∃x:List α,x.length=n∧ ∀(i:Nat) y,x[i]? =some y→p i y
 |0,_=>⟨[],rfl,fun i y h=>by simp at h⟩
 |n+1,h=>by
  obtain⟨x,h1,h2⟩:=YJ (n:=n) (p:=p) (fun i hi=>h i (by omega));obtain⟨y,hy⟩:=h n (by omega);refine⟨x++[y],by simp[h1],fun i z hz=> ?_⟩;by_cases hi:i<x.length
  ·rw[AG0 hi]at hz
   exact h2 i z hz
  ·rw[AIC (by omega)]at hz
   have hil:=(AF9.1 hz).1;simp at hil;have:i=n:=by omega
   subst this;simp[h1]at hz;subst hz;exact hy
theorem gU{w:World}{B:Nat→Prop}:∀{l m:List Ty} {cs ds:List Value} {x:(Dq l).D} {y:(Dq m).D},Rd w B (Dq l) cs x→Rd w B (Dq m) ds y→Vd (Dq l) x→Vd (Dq m) y→
  ∃z:(Dq (l++m)).D,Rd w B (Dq (l++m)) (cs++ds) z∧Vd (Dq (l++m)) z
 |[],m,cs,ds,x,y,h,k,hx,hy=>by
  simp only[Dq,Rd]at h;subst h;exact⟨y,k,hy⟩
 |c::l,m,cs,ds,x,y,h,k,hx,hy=>by
  simp only[Dq,Rd]at h;obtain⟨v,r,rfl,h1,h2⟩:=h;obtain⟨z,z1,z2⟩:=gU h2 k hx.2 hy;exact⟨(x.1,z),by simp only[AKF,Dq,Rd];exact⟨v,r++ds,rfl,h1,z1⟩,hx.1,z2⟩
theorem oO{P:Program}{n:Nat}{t:TypeId}{l:List Ty}(h:rowOf P n t=some (l,false)):∃c,l=[c]:=by
 cases n with
 |zero=>simp[rowOf]at h
 |succ n=>
  simp only[rowOf]at h;split at h
  ·cases h;exact⟨_,rfl⟩
  ·cases h;exact⟨_,rfl⟩
  ·cases h;exact⟨_,rfl⟩
  ·split at h
   ·split at h
    ·cases h;exact⟨_,rfl⟩
    ·cases h
   ·cases h
  ·split at h
   ·split at h
    ·cases h
    ·cases h
   ·cases h
  ·cases h
theorem gw{w:World}{B:Nat→Prop}{P:Program}{n:Nat}{t:TypeId}{q:List Ty×Bool}(h:rowOf P n t=some q){cs:List Value}{x:(Dq q.1).D}(hx:Rd w B (Dq q.1) cs x)(hv:Vd (Dq q.1) x):
  (Zg q).n=q.1.length∧ ∃y:(Zg q).D,Rd w B (Zg q) cs y∧Vd (Zg q) y:=by
 obtain⟨l,b⟩:=q;cases b with
 |true=>
  refine⟨?_,x,hx,hv⟩;clear h hx hv x;simp only[Zg]
  induction l with
  |nil=>rfl
  |cons c l ih=>simp[Dq,Ty.n,ih]
 |false=>
  obtain⟨c,rfl⟩:=oO h;simp only[Dq,Rd]at hx;obtain⟨v,r,rfl,h1,h2⟩:=hx;subst h2;refine⟨?_,x.1,h1,hv.1⟩;have:=Zo h1;simp only[Zg];simpa using this.symm
theorem o7(a:Addr):a.add 0=a:=by simp[Addr.add]
theorem nw{w:World}{a:Addr}{v:Value}(h:w.cell? a=some v):a.spot=none:=by
 unfold World.cell? at h;split at h
 ·split at h
  ·cases h
  ·rename_i hs;simpa using hs
 ·cases h
section
variable{H:Type} {enc:TypeId×Value→H} {P:Program} {w:World} {spare:Nat→Bool} {held:Bool}
theorem YG:∀(n:Nat) {t:TypeId} {q:List Ty×Bool},rowOf P n t=some q→ ∀{fuel:Nat} {cs:List Value} {x:DataW H×List MemPlace},DataW.trod enc P w 0 spare held fuel t cs=some x→
  ∃y:(Dq q.1).D,Rd w (fun b=>b<w.heap.size) (Dq q.1) cs y∧Vd (Dq q.1) y
 |0,t,q,h,_,_,_,_=>by simp[rowOf]at h
 |n+1,t,q,h,fuel,cs,x,hx=>by
  simp only[rowOf]at h;split at h
  ·rename_i k hu
   cases h;obtain⟨m,rfl,_,hw⟩:=DataW.trod_int hu hx;exact⟨(m,()),by simp[Dq,Rd],hw,trivial⟩
  ·rename_i hu
   cases h;obtain⟨b,rfl,_⟩:=DataW.trod_bool hu hx;exact⟨(b,()),by simp[Dq,Rd],trivial,trivial⟩
  ·rename_i hu
   cases h;obtain⟨s,rfl,_,hs⟩:=DataW.trod_string hu hx;refine⟨(s.data.toList,()),by simp[Dq,Rd],?_,trivial⟩
   show s.data.toList.length≤maxLen
   rw[ALT];exact hs
  ·rename_i e hu
   split at h
   case h_2=>cases h
   rename_i q' hq';split at h
   case isFalse=>cases h
   rename_i iT;cases h;rcases DataW.trod_slice hu hx with⟨rfl,_⟩|⟨a,len,cap,elems,rest,m,_,rfl,_,_,hlc,hcm,T8,MY,_,_⟩
   ·refine⟨([],()),?_,⟨by simp,by simp⟩,trivial⟩
    simp only[Dq,Rd];exact⟨_,[],rfl,⟨_,_,rfl,by simp,.inl rfl⟩,rfl⟩
   ·have each:∀i,i<len→ ∃y:(Zg q').D,Vd (Zg q') y∧ ∃ds,ds.length=(Zg q').n∧(∀j,j<ds.length→w.cell? ((a.add (i*P.cellsOf e)).add j)=ds[j]?)∧Rd w (fun b=>b<w.heap.size) (Zg q') ds y:=by
     intro i hi;have hz:elems[i]? =some (elems[i]'(by omega)):=AGI _;have h1:=MY i hi;rw[hz,AGs]at h1;obtain⟨ds,hds,htr⟩:=h1;obtain⟨z,z1,z2⟩:=YG n hq' htr;obtain⟨_,c1,c2⟩:=World.cells?_some hds
     obtain⟨a1,y,a2,a3⟩:=gw hq' z1 z2;exact⟨y,a3,ds,by rw[c1,a1,iT.1],fun j hj=>c2 j (by omega),a2⟩
    obtain⟨xs,x1,x2⟩:=YJ each;refine⟨(xs,()),?_,⟨by show xs.length≤maxLen;omega,fun y hy=> ?_⟩,trivial⟩
    ·simp only[Dq,Rd]
     refine⟨_,[],rfl,⟨_,cap,by rw[x1],by omega,?_⟩,rfl⟩;by_cases h0:len=0
     ·exact .inl (by omega)
     right
     obtain⟨y0,_,ds0,d0,d1,_⟩:=each 0 (by omega);have hn0:0<(Zg q').n:=by
      rw[d0.symm];have hz:elems[0]? =some (elems[0]'(by omega)):=AGI _;have h1:=MY 0 (by omega);rw[hz,AGs]at h1;obtain⟨ds,hds,htr⟩:=h1;obtain⟨z,z1,z2⟩:=YG n hq' htr;have:=(gw hq' z1 z2).1;omega
     have hc0:=d1 0 (by omega);simp only[Nat.zero_mul,o7]at hc0;have pd:w.cell? a=some (ds0[0]'(by omega)):=by rw[hc0];exact AGI _
     have og:=nw pd;obtain⟨b,o,s⟩:=a;simp only at og;subst og;refine⟨b,o,rfl,?_,fun i y hy=> ?_⟩
     ·unfold World.cell? at pd
      split at pd
      ·rename_i hb;exact(Array.getElem?_eq_some_iff.1 hb).1
      ·cases pd
     ·have hil:=(AF9.1 hy).1
      obtain⟨_,ds,e0,e1,e2⟩:=x2 i y hy;have hcn:P.cellsOf e=(Zg q').n:=by
       have hz:elems[i]? =some (elems[i]'(by omega)):=AGI _;have h1:=MY i (by omega);rw[hz,AGs]at h1;obtain⟨ds,hds,htr⟩:=h1;obtain⟨z,z1,z2⟩:=YG n hq' htr;rw[(gw hq' z1 z2).1,iT.1]
      refine⟨ds,e0,fun j v hj=> ?_,e2⟩;have nN:=(AF9.1 hj).1;have:=e1 j nN;rw[Addr.add_eq,Addr.add_eq,hcn]at this;rw[this,hj]
    ·obtain⟨i,hi,rfl⟩:=AJE hy
     exact(x2 i _ (AGI hi)).1
  ·rename_i fs hu
   split at h
   case h_2=>cases h
   rename_i l hl;split at h
   case isFalse=>cases h
   rename_i Vp;cases h;obtain⟨xs,m,_,_,hlen,hxs,MY⟩:=DataW.trod_struct hu hx;have key:∀(fs:List Field) (o:Nat) (l:List Ty) (i0:Nat),kU (rowOf P n) P.cellsOf o fs=some l→cs.length=o+l.length→(∀(i:Nat) (f:Field),fs[i]? =some f→ ∃z,DataW.trod enc P w 0 spare held m f.type ((cs.drop f.offset).take (P.cellsOf f.type))=some z)→
     ∃y:(Dq l).D,Rd w (fun b=>b<w.heap.size) (Dq l) (cs.drop o) y∧Vd (Dq l) y:=by
    intro fs
    induction fs with
    |nil=>
     intro o l i0 hl hc _;simp only[kU,AGL]at hl;subst hl;refine⟨(),?_,trivial⟩;simp only[Dq,Rd];simp at hc;simp[hc]
    |cons f fs ih=>
     intro o l i0 hl hc MY;simp only[kU]at hl;split at hl
     case h_2=>cases hl
     rename_i l1 b1 hr;split at hl
     case isFalse=>cases hl
     rename_i hof;simp only[AGV]at hl;obtain⟨l2,r7,rfl⟩:=hl;obtain⟨z,hz⟩:=MY 0 f rfl;obtain⟨y1,a1,a2⟩:=YG n hr hz;obtain⟨y2,b1,b2⟩:=ih (o+l1.length) l2 0 r7 (by simp at hc;omega) (fun i f hf=>MY (i+1) f (by simpa using hf));obtain⟨y,c1,c2⟩:=gU a1 b1 a2 b2;refine⟨y,?_,c2⟩;rw[hof.1,hof.2,←List.drop_drop,ALl]at c1;exact c1
   have:=key fs.toList 0 l 0 hl (by rw[hlen,Vp];simp) (fun i f hf=>by
    have hf':fs[i]? =some f:=by simpa using hf
    have hil:i<xs.length:=by rw[hxs];exact(Array.getElem?_eq_some_iff.1 hf').1
    exact⟨xs[i],by rw[MY i f hf'];exact AGI hil⟩)
   simpa using this
  ·cases h
end
end Go.Fw
end
section
open Go.RowKit
namespace Go.Fw
def iL(W:World):Env:={ Fc:=fun _=>0,Fq:=fun _=> .nilFunc,T:=fun b=>b<W.heap.size,S:=fun b=>b<W.heap.size }
abbrev eS:Bn:=⟨[(0,.c (.v .bool))],[]⟩
theorem pK{P:Program}{f:Nat}{Cn:List (Nat×XP)}{g:Bn.V ⟨Cn,[]⟩→Option eS.V}(hs:Ur P f ⟨⟨Cn,[]⟩,eS,g⟩){W:World}{args:Array Value}(x:Eg.V Cn)(hlen:args.size=Cn.length)
  (hx:LB (iL W) W [] id Cn x args.toList) (hg:g (x,())=some ((true,()),())):Calls P f args W fun e W' =>e= .returned (.bool true)∧Below W.heap.size W W':=by
 obtain⟨_,_,h⟩:=hs;refine(h (iL W) W (x,()) args _ hlen ⟨[],⟨rfl,fun k B F h=>by simp[GY.mk]at h⟩,by simp,by simp,by simp,fun _ h=>h,fun _ h=>h⟩ hx hg).mono fun e W' hR=> ?_
 obtain⟨v,E',rfl,base,_,⟨⟨v',hv,hxr⟩,_⟩,_⟩:=hR;simp at hv;subst hv;have:v= .bool true:=by
  have h2:VR E' W' [] (.v .bool true) v:=hxr;exact Mb h2
 subst this;exact⟨rfl,base.os,base.tape,base.output,base.size,fun k hk=>base.heap k hk⟩
theorem xX{W:World}{vw:List Bx}{s:Bool}{r:Ty}{v:Value}{y:List r.D}(h:Rd W (fun b=>b<W.heap.size) (.sl r) [v] y):XR (iL W) W vw (XP.mk id (.c (.sl s r)) y) v:=by
 show Rd W (if s then _ else _) (.sl r) [v] y
 cases s<;>exact h
end Go.Fw
end
section
namespace Go.Fw
def Te:List (Nat×PQ)→Nat→Option PQ
 |[],_=>none
 |(f,c)::l,g=>if f=g then some c else Te l g
def sx(P:Program):List (Nat×PQ)→Prop
 |[]=>True
 |q::l=>Ur P q.1 q.2∧sx P l
theorem eK{P:Program}:∀{l:List (Nat×PQ)},sx P l→XC P (Te l)
 |[],_=>fun f c e=>by cases e
 |(g,d)::l,h=>fun f c e=>by
  simp only[Te]at e;split at e
  ·rename_i hg
   cases e;subst hg;exact h.1
  ·exact eK h.2 f c e
theorem dJ{P:Program}{f:Nat}{fn:Func}(hf:P.funcs[f]? =some fn)(hn:(fn.name== "runtime.NumGoroutine")=false)(hb:fn.body.isNone=false)(args:Array Value)(w:World):
  (callFunc f args).run P w= .ok (.enter f args) w:=by
 have h1:fn.name≠ "runtime.NumGoroutine" :=by simpa using hn
 have h2:fn.body≠none:=by
  intro h;rw[h]at hb;cases hb
 simp[callFunc,hf,h1,h2]
def YA(fn:Func)(c:PQ):Bool:=
 !(
  fn.name== "runtime.NumGoroutine")&& !fn.body.isNone&&c.ok&&decide (c.ins.Cn.length≤fn.ntmps)&&(match fn.body with
  |some code=>decide (labels code).Nodup
  |none=>true)
theorem AJJ{P:Program}{f:Nat}{fn:Func}{c:PQ}(hf:P.funcs[f]? =some fn)(h:YA fn c=true):AGw P f fn c:=by
 simp only[YA,AGx,AKP,AG7]at h;obtain⟨⟨⟨⟨h1,h2⟩,h3⟩,h4⟩,h5⟩:=h;refine⟨hf,dJ hf h1 h2,h3,h4,fun code hc=> ?_⟩;rw[hc]at h5;simpa using h5
def Xl(C:Xk)(c:PQ)(fn:Func)(J:Nat→Nat→St→Option c.outs.V):List Nat→Prop
 |[]=>True
 | ℓ ::l=>(∃(s:Bn) (F:Nat→s.V→Option c.outs.V),(∀n,J n ℓ =jump c.ins.Eb.length s (F n))∧(∀v,F 0 v=none)∧
  ∀n v,∀ω,GL C c fn (J n) ℓ ω (s.st fn.ntmps v)=F (n+1) v)∧Xl C c fn J l
theorem Xl.ok{C:Xk}{c:PQ}{fn:Func}{J:Nat→Nat→St→Option c.outs.V}:∀{l:AAU},Xl C c fn J l→ ∀ ℓ ∈l,∃(s:Bn) (F:Nat→s.V→Option c.outs.V),(∀n,J n ℓ =jump c.ins.Eb.length s (F n))∧(∀v,F 0 v=none)∧
  ∀n v y,F (n+1) v=some y→ ∀ω,GL C c fn (J n) ℓ ω (s.st fn.ntmps v)=some y
 |[],_,ℓ,h=>by cases h
 |k::l,hl,ℓ,h=>by
  rcases AIU.1 h with rfl|h
  ·obtain⟨⟨s,F,h1,h2,h3⟩,_⟩:=hl
   exact⟨s,F,h1,h2,fun n v y e ω=>(h3 n v ω).trans e⟩
  ·exact Xl.ok hl.2 ℓ h
def YT(fn:Func):AAU:=
 match fn.body with
 |some code=>labels code
 |none=>[]
def Cy:List AFK→Nat→List Nat
 |[],_=>[]
 |(r,h)::l,q=>if r=q then h else Cy l q
theorem sP{P:Program}{T:HE}{l:List (Nat×PQ)}{hint:Nat→List Nat}{f:Nat}{fn:Func}{c:PQ}(hT:DY P T)(hm:P.follows .mixedOrders=true)(hf:P.funcs[f]? =some fn)(hl:sx P l)(hc:YA fn c=true)
  {J:Nat→Nat→St→Option c.outs.V} {L:AAU} (hL:YT fn=L) (hJ:Xl ⟨T,Te l,hint⟩ c fn J L) (n:Nat) (he:∀ω v,FQ ⟨T,Te l,hint⟩ c fn (J n) ω v=c.g v):Ur P f c:=
 qN (C:=⟨T,Te l,hint⟩) hT (eK hl) hm (AJJ hf hc) (J:=J) (fun code hb ℓ hℓ =>Xl.ok hJ ℓ (by
  rw[←hL];simp only[YT,hb];exact hℓ)) fun v u hg=>⟨n,fun ω=>(he ω v).trans hg⟩
end Go.Fw
end
section
namespace Go.M
abbrev DE:Nat:=Go.Fw.DE
def AX(x:Int):Int:=IntKind.wrap .i64 x
def Wi(κ:IntKind)(a b:Int):Int:=κ.wrap (BitVec.ofInt κ.bits a &&& BitVec.ofInt κ.bits b).toNat
def bOr(κ:IntKind)(a b:Int):Int:=κ.wrap (BitVec.ofInt κ.bits a ||| BitVec.ofInt κ.bits b).toNat
def ADh(κ:IntKind)(a b:Int):Int:=κ.wrap (BitVec.ofInt κ.bits a ^^^ BitVec.ofInt κ.bits b).toNat
theorem cX:∃n:Nat,2^64≤n:=⟨_,AIi _⟩
noncomputable def Ac:Nat:=Classical.choose cX
theorem X5:2^64≤Ac:=Classical.choose_spec cX
end Go.M
end
section
namespace Go.Fw
structure SP (P:Program) where
 f:Nat
 c:PQ
 h:Ur P f c
def SP.l{P:Program}:List (SP P)→List (Nat×PQ)
 |[]=>[]
 |s::l=>(s.f,s.c)::SP.l l
theorem m6{P:Program}:∀l:List (SP P),sx P (SP.l l)
 |[]=>trivial
 |s::l=>⟨s.h,m6 l⟩
@[reducible] def AP.Cu (R:Type):AP→Type
 | .gD _ rs=>TU rs→R
 | .v t=>t.D→R
 | .sl _ r=>List r.D→R
 | .fi r=>r.D→R
 | .Zf _ _=>Nat×Nat→R
 |_=>R
def AP.un{R:Type}:(p:AP)→p.Cu R→p.V→R
 | .gD _ _,f,x=>f x
 | .v _,f,x=>f x
 | .sl _ _,f,x=>f x
 | .fi _,f,x=>f x
 | .Zf _ _,f,x=>f x
 | .nil,f,_=>f
 | .ref _,f,_=>f
 | .ptr _ _,f,_=>f
 | .fn _ _,f,_=>f
 | .any,f,_=>f
@[reducible] def Rn.Cu (R:Type):List AP→Type
 |[]=>R
 |p::l=>p.Cu (Rn.Cu R l)
def Rn.un{R:Type}:(l:List AP)→Rn.Cu R l→Rn.V l→R
 |[],f,_=>f
 |p::l,f,x=>Rn.un l (p.un f x.1) x.2
@[reducible] def R_.Cu (R:Type):List (AP ⊕ List AP)→Type
 |[]=>R
 | .inl p::l=>p.Cu (R_.Cu R l)
 | .inr q::l=>Rn.Cu (R_.Cu R l) q
def R_.un{R:Type}:(l:List (AP ⊕ List AP))→R_.Cu R l→R_.V l→R
 |[],f,_=>f
 | .inl p::l,f,x=>R_.un l (p.un f x.1) x.2
 | .inr q::l,f,x=>R_.un l (Rn.un q f x.1) x.2
@[reducible] def XP.Cu (R:Type):XP→Type
 | .c p=>p.Cu R
 | .agg l=>Rn.Cu R l
 | .row r=>r.D→R
 | .Jy l=>R_.Cu R l
def XP.un{R:Type}:(p:XP)→p.Cu R→p.V→R
 | .c p,f,x=>p.un f x
 | .agg l,f,x=>Rn.un l f x
 | .row _,f,x=>f x
 | .Jy l,f,x=>R_.un l f x
@[reducible] def BP.Cu (R:Type):BP→Type
 | .mem l=>Rn.Cu R l
 | .sl _ r=>List r.D→R
 | .gone=>R
def BP.un{R:Type}:(p:BP)→p.Cu R→p.V→R
 | .mem l,f,x=>Rn.un l f x
 | .sl _ _,f,x=>f x
 | .gone,f,_=>f
@[reducible] def Eg.Cu (R:Type):List (Nat×XP)→Type
 |[]=>R
 |(_,p)::l=>p.Cu (Eg.Cu R l)
def Eg.un{R:Type}:(l:List (Nat×XP))→Eg.Cu R l→Eg.V l→R
 |[],f,_=>f
 |(_,p)::l,f,x=>Eg.un l (p.un f x.1) x.2
@[reducible] def GY.Cu (R:Type):List BP→Type
 |[]=>R
 |p::l=>p.Cu (GY.Cu R l)
def GY.un{R:Type}:(l:List BP)→GY.Cu R l→GY.V l→R
 |[],f,_=>f
 |p::l,f,x=>GY.un l (p.un f x.1) x.2
@[reducible] def Bn.Cu (s:Bn) (R:Type):Type:=Eg.Cu (GY.Cu R s.Eb) s.Cn
def Bn.un{R:Type}(s:Bn)(f:s.Cu R)(v:s.V):R:=GY.un s.Eb (Eg.un s.Cn f v.1) v.2
structure Lp (o:Bn) where
 ℓ :Nat
 s:Bn
 F:Nat→s.Cu (Option o.V)
def Ng{o:Bn}(nb:Nat):List (Lp o)→Nat→Nat→St→Option o.V
 |[],_,_,_=>none
 |p::l,n,ℓ,σ=>if ℓ =p.ℓ then jump nb p.s (p.s.un (p.F n)) σ else Ng nb l n ℓ σ
inductive RN (C:Xk) (c:PQ) (fn:Func) (J:Nat→Nat→St→Option c.outs.V):List (Lp c.outs)→Prop
 |nil:RN C c fn J []
 |cons {ℓ :Nat} {s:Bn} {F:Nat→s.Cu (Option c.outs.V)} {l:List (Lp c.outs)} (h0:∀v,s.un (F 0) v=none) (h1:∀n v ω,GL C c fn (J n) ℓ ω (s.st fn.ntmps v)=s.un (F (n+1)) v) (h:RN C c fn J l):RN C c fn J (⟨ℓ,s,F⟩::l)
def Lp.ls{o:Bn}:List (Lp o)→List Nat
 |[]=>[]
 |p::l=>p.ℓ ::Lp.ls l
theorem qq{o:Bn}{nb:Nat}:∀{l:List (Lp o)} (n:Nat) {ℓ :Nat} (p:Lp o) (pre:List (Lp o)),ℓ =p.ℓ →(Lp.ls (pre++p::l)).Nodup→Ng nb (pre++p::l) n ℓ =jump nb p.s (p.s.un (p.F n))
 |l,n,ℓ,p,[],e,_=>by
  funext σ
  simp[Ng,e]
 |l,n,ℓ,p,q::pre,e,hn=>by
  funext σ
  have hq: ℓ ≠q.ℓ :=by
   intro h;simp only[AKF,Lp.ls,ALH]at hn;refine hn.1 ?_
   rw[←h,e];clear hn h e
   induction pre with
   |nil=>simp[Lp.ls]
   |cons a m ih=>simp[Lp.ls,ih]
  have:=congrFun (qq (nb:=nb) (l:=l) n p pre e (by simp only[AKF,Lp.ls,ALH]at hn;exact hn.2)) σ;simp only[AKF,Ng,AGU hq];exact this
theorem RN.ok{C:Xk}{c:PQ}{fn:Func}{nb:Nat}(hb:nb=c.ins.Eb.length){L:List (Lp c.outs)}(hn:(Lp.ls L).Nodup):∀{l pre:List (Lp c.outs)},L=pre++l→RN C c fn (Ng nb L) l→Xl C c fn (Ng nb L) (Lp.ls l)
 |[],_,_,_=>trivial
 |⟨ℓ,s,F⟩::l,pre,e,.cons h0 h1 h=>by
  refine⟨⟨s,fun n=>s.un (F n),fun n=> ?_,h0,fun n v ω=>h1 n v ω⟩,RN.ok hb hn (pre:=pre++[⟨ℓ,s,F⟩]) (by simp[e]) h⟩;subst hb;rw[e];exact qq n ⟨ℓ,s,F⟩ pre rfl (by rw[←e];exact hn)
def mkP{P:Program}{T:HE}(hT:DY P T)(hm:P.follows .mixedOrders=true){f:Nat}{fn:Func}(hf:P.funcs[f]? =some fn)(i o:Bn)(g:i.Cu (Option o.V))(l:List (SP P))(h:List AFK)(L:List (Lp o))(n:Nat)
  (hL:YT fn=Lp.ls L) (hd:decide (Lp.ls L).Nodup=true) (hc:YA fn ⟨i,o,i.un g⟩=true)
  (hJ:RN ⟨T,Te (SP.l l),Cy h⟩ ⟨i,o,i.un g⟩ fn (Ng i.Eb.length L) L)
  (he:∀ω v,FQ ⟨T,Te (SP.l l),Cy h⟩ ⟨i,o,i.un g⟩ fn (Ng i.Eb.length L n) ω v=i.un g v):SP P:=
 ⟨f,⟨i,o,i.un g⟩,sP (l:=SP.l l) hT hm hf (m6 l) hc (J:=Ng i.Eb.length L) (L:=Lp.ls L) hL (RN.ok rfl (by simpa using hd) (pre:=[]) rfl hJ) n he⟩
theorem AE{Q:List Bool→Prop}(a:Q [])(b:∀ω,Q (false::ω))(d:∀ω,Q (true::ω)):∀ω,Q ω
 |[]=>a
 |false::ω=>b ω
 |true::ω=>d ω
end Go.Fw
end
section
namespace Go.Fw
open Go.Proofs Go.Shelf Go.RowKit Go.Lib
structure AEQ (P:Program) (ρ:Ren) (nm:String) (fv:Func):Prop where
 mixed:P.follows .mixedOrders=true
 f22:P.funcs[ρ.f 22]? =some { Body2.n22 ρ with name:=nm }
 n22:(nm== "runtime.NumGoroutine")=false
 f29:P.funcs[ρ.f 29]? =some fv
 n29:(fv.name== "runtime.NumGoroutine")=false
 b29:fv.body.isNone=true
 e29:Extern.findNext fv=none
 x29:Extern.find fv=some (Extern.SlicesOverlaps.overlaps #[(ρ.t 24),(ρ.t 24)] #[(ρ.t 4)])
 t0:P.underlying (ρ.t 0)=some (TypeDesc.tuple #[])
 a0:∀w,(isAgg (ρ.t 0)).run P w= .ok false w
 z0:∀w,(Go.sizeOf (ρ.t 0)).run P w= .ok 1 w
 v0:∀w,(zeroValue (ρ.t 0)).run P w= .ok (Value.tuple #[]) w
 t3:P.underlying (ρ.t 3)=some (TypeDesc.int IntKind.i64)
 a3:∀w,(isAgg (ρ.t 3)).run P w= .ok false w
 z3:∀w,(Go.sizeOf (ρ.t 3)).run P w= .ok 1 w
 v3:∀w,(zeroValue (ρ.t 3)).run P w= .ok (Value.int IntKind.i64 0) w
 t4:P.underlying (ρ.t 4)=some (TypeDesc.bool)
 a4:∀w,(isAgg (ρ.t 4)).run P w= .ok false w
 z4:∀w,(Go.sizeOf (ρ.t 4)).run P w= .ok 1 w
 v4:∀w,(zeroValue (ρ.t 4)).run P w= .ok (Value.bool false) w
 t24:P.underlying (ρ.t 24)=some (TypeDesc.slice (ρ.t 9))
 a24:∀w,(isAgg (ρ.t 24)).run P w= .ok false w
 z24:∀w,(Go.sizeOf (ρ.t 24)).run P w= .ok 1 w
 v24:∀w,(zeroValue (ρ.t 24)).run P w= .ok (Value.slice none 0 0) w
section
variable{P:Program} {ρ:Ren} {nm:String} {fv:Func}
end
end Go.Fw
end
section
namespace Go.Fw
open Go.Proofs Go.Shelf Go.RowKit Go.Lib
def Flat(w:World)(r:Ty)(css:List (List Value))(rows:List r.D):Prop:=
 css.length=rows.length∧(∀c∈css,c.length=r.n)∧ ∀(i:Nat) cs y,css[i]? =some cs→rows[i]? =some y→Rd w (fun _=>False) r cs y
theorem Flat.to{w w':World}{r:Ty}(hf:r.flat=true){css:List (List Value)}{rows:List r.D}(h:Flat w r css rows):Flat w' r css rows:=
 ⟨h.1,h.2.1,fun i cs y a b=>bj hf (h.2.2 i cs y a b)⟩
theorem Flat.take{w:World}{r:Ty}{css:List (List Value)}{rows:List r.D}(h:Flat w r css rows)(n:Nat):Flat w r (css.take n) (rows.take n):=by
 refine⟨by simp[h.1],fun c hc=>h.2.1 c (ALp hc),fun i cs y a b=> ?_⟩;rw[List.getElem?_take]at a b;split at a
 ·rename_i hi
  rw[AGH hi]at b;exact h.2.2 i cs y a b
 ·cases a
theorem Flat.drop{w:World}{r:Ty}{css:List (List Value)}{rows:List r.D}(h:Flat w r css rows)(n:Nat):Flat w r (css.drop n) (rows.drop n):=by
 refine⟨by simp[h.1],fun c hc=>h.2.1 c (ALq hc),fun i cs y a b=> ?_⟩;rw[ALJ]at a b;exact h.2.2 _ cs y a b
theorem Flat.append{w:World}{r:Ty}{css ess:List (List Value)}{rows AGk:List r.D}(h:Flat w r css rows)(k:Flat w r ess AGk):Flat w r (css++ess) (rows++AGk):=by
 refine⟨by simp[h.1,k.1],fun c hc=>(AHp.1 hc).elim (h.2.1 c) (k.2.1 c),fun i cs y a b=> ?_⟩;by_cases hi:i<rows.length
 ·rw[AG0 (by rw[h.1];exact hi)]at a
  rw[AG0 hi]at b;exact h.2.2 i cs y a b
 ·rw[AIC (by rw[h.1];omega)]at a
  rw[AIC (by omega)]at b;rw[h.1]at a;exact k.2.2 _ cs y a b
theorem Flat.one{w:World}{r:Ty}(hf:r.flat=true){css:List (List Value)}{rows:List r.D}(h:Flat w r css rows):∀v∈css.flatten,v.oneCell' =true:=by
 intro v hv;obtain⟨c,hc,hv⟩:=AIb.1 hv;obtain⟨i,hi,rfl⟩:=AJE hc;have h1:=h.1;exact cr (YZ (S:=fun _=>False) (d:=0) hf (h.2.2 i _ _ (AGI hi) (AGI (by omega)))) v hv
theorem Flat.at{w:World}{S:Nat→Prop}{d:Nat}{r:Ty}(hf:r.flat=true){css:List (List Value)}{rows:List r.D}(h:Flat w r css rows):Dr w S d r css rows (List.replicate rows.length []):=Dr.flat hf h.1 h.2.1 h.2.2
end Go.Fw
end
section
namespace Go.Fw
open Go.M Go.Proofs Go.Shelf Go.RowKit Go.Lib
structure AI5 (P:Program) (ρ:Ren) (nm:String):Prop where
 mixed:P.follows .mixedOrders=true
 f24:P.funcs[ρ.f 24]? =some { Body2.n24 ρ with name:=nm }
 n24:(nm== "runtime.NumGoroutine")=false
 t0:P.underlying (ρ.t 0)=some (TypeDesc.tuple #[])
 a0:∀w,(isAgg (ρ.t 0)).run P w= .ok false w
 z0:∀w,(Go.sizeOf (ρ.t 0)).run P w= .ok 1 w
 v0:∀w,(zeroValue (ρ.t 0)).run P w= .ok (Value.tuple #[]) w
 t3:P.underlying (ρ.t 3)=some (TypeDesc.int IntKind.i64)
 a3:∀w,(isAgg (ρ.t 3)).run P w= .ok false w
 z3:∀w,(Go.sizeOf (ρ.t 3)).run P w= .ok 1 w
 v3:∀w,(zeroValue (ρ.t 3)).run P w= .ok (Value.int IntKind.i64 0) w
 t4:P.underlying (ρ.t 4)=some (TypeDesc.bool)
 a4:∀w,(isAgg (ρ.t 4)).run P w= .ok false w
 z4:∀w,(Go.sizeOf (ρ.t 4)).run P w= .ok 1 w
 v4:∀w,(zeroValue (ρ.t 4)).run P w= .ok (Value.bool false) w
 t24:P.underlying (ρ.t 24)=some (TypeDesc.slice (ρ.t 9))
 a24:∀w,(isAgg (ρ.t 24)).run P w= .ok false w
 z24:∀w,(Go.sizeOf (ρ.t 24)).run P w= .ok 1 w
 v24:∀w,(zeroValue (ρ.t 24)).run P w= .ok (Value.slice none 0 0) w
section
variable{P:Program} {ρ:Ren} {nm:String}
end
end Go.Fw
end
section
namespace Go.Fw
open Go.M Go.Proofs Go.Shelf Go.RowKit Go.Lib
theorem Dr.take{w:World}{S:Nat→Prop}{d:Nat}{r:Ty}{css:List (List Value)}{rows:List r.D}{Fs:List AAU}(h:Dr w S d r css rows Fs)(n:Nat):Dr w S d r (css.take n) (rows.take n) (Fs.take n):=by
 refine⟨by simp[h.1],by simp[h.2.1],fun c hc=>h.2.2.1 c (ALp hc),fun i cs y G a b c=> ?_⟩;rw[List.getElem?_take]at a b c;split at a
 ·rename_i hi
  rw[AGH hi]at b c;exact h.2.2.2 i cs y G a b c
 ·cases a
theorem Dr.drop{w:World}{S:Nat→Prop}{d:Nat}{r:Ty}{css:List (List Value)}{rows:List r.D}{Fs:List AAU}(h:Dr w S d r css rows Fs)(n:Nat):Dr w S d r (css.drop n) (rows.drop n) (Fs.drop n):=by
 refine⟨by simp[h.1],by simp[h.2.1],fun c hc=>h.2.2.1 c (ALq hc),fun i cs y G a b c=> ?_⟩;rw[ALJ]at a b c;exact h.2.2.2 _ cs y G a b c
end Go.Fw
end
section
namespace Go.Fw
open Go.M Go.Proofs Go.Shelf Go.RowKit Go.Lib
section
variable{P:Program} {ρ:Ren} {nm:String} {fv:Func}
theorem WD{t:TypeId}{n:Nat}(h:(P.info? t).map (·.size)=some n):∀w,(Go.sizeOf t).run P w= .ok n w:=fun w=>by
 obtain⟨i,hi,rfl⟩:=AGV.1 h;simp[sizeOf,typeInfo,hi]
theorem bg{t:TypeId}{z:Value}(h:(P.info? t).bind (·.zero)=some z):∀w,(zeroValue t).run P w= .ok z w:=fun w=>by
 obtain⟨i,hi,hz⟩:=AGs.1 h;simp[zeroValue,typeInfo,hi,hz]
structure AAk (P:Program) (ρ:Ren):Prop where
 t0:P.underlying (ρ.t 0)=some (TypeDesc.tuple #[])
 t3:P.underlying (ρ.t 3)=some (TypeDesc.int IntKind.i64)
 t4:P.underlying (ρ.t 4)=some (TypeDesc.bool)
 t24:P.underlying (ρ.t 24)=some (TypeDesc.slice (ρ.t 9))
 s0:(P.info? (ρ.t 0)).map (·.size)=some 1
 s3:(P.info? (ρ.t 3)).map (·.size)=some 1
 s4:(P.info? (ρ.t 4)).map (·.size)=some 1
 s24:(P.info? (ρ.t 24)).map (·.size)=some 1
 v0:(P.info? (ρ.t 0)).bind (·.zero)=some (Value.tuple #[])
 v3:(P.info? (ρ.t 3)).bind (·.zero)=some (Value.int IntKind.i64 0)
 v4:(P.info? (ρ.t 4)).bind (·.zero)=some (Value.bool false)
 v24:(P.info? (ρ.t 24)).bind (·.zero)=some (Value.slice none 0 0)
theorem AAk.ins(h:AAk P ρ)(hm:P.follows .mixedOrders=true)(f22:P.funcs[ρ.f 22]? =some { Body2.n22 ρ with name:=nm })(n22:(nm== "runtime.NumGoroutine")=false)(f29:P.funcs[ρ.f 29]? =some fv)(n29:(fv.name== "runtime.NumGoroutine")=false)
  (b29:fv.body.isNone=true) (e29:Extern.findNext fv=none) (x29:Extern.find fv=some (Extern.SlicesOverlaps.overlaps #[(ρ.t 24),(ρ.t 24)] #[(ρ.t 4)])):AEQ P ρ nm fv:=
 ⟨hm,f22,n22,f29,n29,b29,e29,x29,h.t0,run_isAgg_plain h.t0 rfl,WD h.s0,bg h.v0,h.t3,run_isAgg_plain h.t3 rfl,WD h.s3,bg h.v3,h.t4,run_isAgg_plain h.t4 rfl,WD h.s4,bg h.v4,h.t24,run_isAgg_plain h.t24 rfl,WD h.s24,bg h.v24⟩
@[reducible] def G5 (f22 f24 f29 f30 t24 t9:Nat):Ren:=⟨fun k=>if k=22 then f22 else if k=24 then f24 else if k=29 then f29 else if k=30 then f30 else k,fun k=>if k=24 then t24 else if k=9 then t9 else k,fun k=>k⟩
end
end Go.Fw
end
