/- The framework, part 2: a checked interpreter of the model's code over abstract states; no claim is made here. -/
import Derived.Test.YtancechjahedgaaDoorF0
import Derived.Below
import Derived.ChangeArms
import Derived.ChangeOld
import Derived.DataReads
import Derived.Handed
import Derived.Lib.AtoiAll
import Derived.Lib.IndexMore
import Derived.Lib.ItoaNum
import Derived.Lib.SlicesS
import Derived.Lib.Strings
import Derived.MakeChecks
import Derived.OrdersHeld
import Derived.Shelf.Slices.Delete
import Derived.Shelf.Slices.Turned
import Derived.Shelf.Spec.SlicesInsertGrow
import Derived.Shelf.Strconv.Itoa3
import Derived.Shelf.Strings.Cut
import Derived.Shelf.Strings.Prefix
import Derived.Shelf.Strings.Search3
import Derived.Stop.LaidErr
import Derived.Tactics
set_option linter.unusedVariables false
set_option linter.unusedSimpArgs false
set_option linter.unusedSectionVars false
section
namespace Go.Fw
theorem JQ{E:Env}{w:World}{vw:List Bx}:∀{l:List XV} {bs:V6} {vs:List Value},MD l=some bs→AF (XR E w vw) l vs→(∀b∈bs,b<vw.length)∧vs=bs.map fun b=>Value.pointer (some ⟨E.BC b,0,none⟩)
 |[],bs,vs,e,h=>by
  simp only[MD,WL]at e;subst e;cases vs with
  |nil=>exact⟨by simp,rfl⟩
  |cons _ _=>exact h.elim
 |x::l,bs,vs,e,h=>by
  unfold MD at e;split at e
  ·rename_i heq;cases heq
  ·rename_i b l' heq
   cases heq;simp only[WM]at e;obtain⟨r,e1,rfl⟩:=e;cases vs with
   |nil=>exact h.elim
   |cons v vs=>
    obtain⟨h1,h2⟩:=h;obtain⟨k1,k2⟩:=JQ e1 h2;obtain⟨h3,h4⟩:b<vw.length∧v= .pointer (some ⟨E.BC b,0,none⟩):=h1;exact⟨fun c hc=>(Wy.1 hc).elim (fun e=>e▸h3) (k1 c),by rw[h4,k2];rfl⟩
  ·cases e
theorem Sb{E:Env}{σ:St}{a:Act}{w:World}(h:Rel E σ a w):∀l:List Operand,AF (XR E w σ.bx) (l.map σ.ev) (l.map a.eval)
 |[]=>trivial
 |x::l=>⟨h.ev x,Sb h l⟩
theorem NW{E:Env}{σ:St}{a:Act}{w:World}(h:Rel E σ a w):∀o:Option Operand,OR E w σ.bx (o.map σ.ev) (o.map a.eval)
 |none=>trivial
 |some x=>h.ev x
theorem Lx{w:World}{S:Nat→Prop}:∀{p:List Ie} {d:Nat} {r:Ty} {h:Value} {rows:List r.D} {F:V6} {q:Ty} {ys:List q.D} {v:Value},Ow w S d (.sl r) [h] rows F→AM r rows p→
  Ay r rows p=some ⟨q,ys⟩→d≤p.length→BU w h p=some v→Rd w S (.sl q) [v] ys
 |p,0,r,h,rows,F,q,ys,v,ho,hp,hg,_,hv=>by
  simp only[Ow]at ho;obtain⟨h',k,hr⟩:=I7 ho.1 hp hg;have:=k w (fun _ _=>rfl);rw[hv]at this;cases this;exact hr
 |[],d+1,r,h,rows,F,q,ys,v,ho,hp,hg,hd,hv=>by simp at hd
 |s::p,d+1,r,h,rows,F,q,ys,v,ho,hp,hg,hd,hv=>by
  simp only[AM]at hp;obtain⟨hi,CK,hp⟩:=hp;simp only[Ay]at hg;obtain⟨a,len,cap,rfl⟩:∃a len cap,h= .slice a len cap:=by
   have:=ho;simp only[Ow]at this;obtain⟨a,cap,e,_⟩:=this;simp only[Wg,W3]at e;exact⟨_,_,_,e⟩
  split at hg
  case h_2=>cases hg
  rename_i q' x' Fu;rw[Fu]at hp;obtain⟨b,o,arr,ty,fr,cs,G,R,rfl,hb,hu,hbd,c1,c2,c3,IZ,hback⟩:=Lb ho hi;obtain⟨u,A1,A2,k1,k2,k3,k4⟩:=GX c3 Fu;simp only[BU]at hv;rw[CK,c2 _ _ k1]at hv;exact Lx k2 hp hg (by simp at hd;omega) hv
theorem Mu{E:Env}{σ:St}{a:Act}{w:World}(h:Rel E σ a w){b i sz j:Nat}{p:List Ie}{va v:Value}(Pc:VR E w σ.bx (.BT b p i sz j) va){x:XV}(hv:XR E w σ.bx x v)(Q9:∀u∈v.cells.toList,u.oneCell' =true)
  {σ':St} (e:GN σ (.c (.BT b p i sz j)) x=some σ'):
  ∃bb oo E',va= .pointer (some ⟨bb,oo,none⟩)∧w.there bb oo v.cells.toList.length∧Rel E' σ' a (w.setCells bb oo v.cells.toList)∧Cn [b] E σ.bx w E' σ'.bx (w.setCells bb oo v.cells.toList)∧σ'.tm.length=σ.tm.length:=by
 unfold GN E7 at e;split at e
 ·rename_i b0 _ _ _ _ b' s p' off n heq
  cases heq;split at e
  case isFalse=>cases e
  rename_i Pv;subst Pv;split at e
  case h_2=>cases e
  rename_i d r rows hb;simp only[WN,WM]at e;obtain⟨q,⟨⟨q0,ys⟩,hg,rfl⟩,e⟩:=e;dsimp only at e;have CA:=(WJ.1 hb).1;obtain⟨F,⟨hd1,ho⟩,hB⟩:=h.bx.take hb;obtain⟨A,W,pF,Qp⟩:=Bc (d:=min d (p'.length+1)) (by omega) ho;have Dv:=hB.perm (G':=A++W++[]) (by rw[Wj,Wj];exact pF);obtain⟨hle,hB3⟩:=Dv.share
  generalize Vt:({ E with S:=fun c=>E.S c∨c∈W,T:=fun c=>E.T c∨c∈W }:Env)=E1 at hle hB3
  have Sn:Ow w E1.S (min d (p'.length+1)) (.sl r) [E1.BD b'] rows A:=by
   rw[hle.BD];subst Vt;exact Qp
  have SX:=hB3.put (b:=b') (B:= .sl (min d (p'.length+1)) r rows) (by rw[WV CA]) ⟨by omega,Sn⟩;rw[Xr]at SX;have hk:C8 E w σ.bx E1 w (σ.bx.set b' (.sl (min d (p'.length+1)) r rows)):=by
   refine⟨by simp,fun _ _=>by rw[hle.BC],hle.T,hle.S,h.bx.st,fun _ _=>rfl,fun c d' r' rows' hc e=> ?_⟩;by_cases OS:b' =c
   ·subst OS
    rw[WV CA]at e;simp only[WL,Bx.sl.injEq]at e;obtain⟨rfl,rfl,e⟩:=e;obtain rfl:=Wi e;exact⟨d,rows,hb,fun p hp q ys hg=>⟨hp,⟨ys,hg,rfl⟩,fun h' hh=>by rw[hle.BD];exact hh⟩⟩
   ·rw[WQ OS]at e
    exact⟨d',rows',e,fun p hp q ys hg=>⟨hp,⟨ys,hg,rfl⟩,fun h' hh=>by rw[hle.BD];exact hh⟩⟩
  have Fe:VR E w σ.bx (.win b' (s::p') off n) v:=hv;have FD:XR E1 w (σ.bx.set b' (.sl (min d (p'.length+1)) r rows)) (.c (.sl true q0 ((ys.drop off).take n))) v:=by
   simp only[VR,hb]at Fe;obtain⟨_,hp,q1,ys1,a1,len,cap,g1,g2,g3,rfl⟩:=Fe;rw[hg]at g1;simp only[WL,WU]at g1;obtain⟨rfl,g1⟩:=g1;obtain rfl:=Wi g1;have:=Lx Sn hp hg (by simp only[Wa];omega) (by rw[hle.BD];exact g3);exact Mg this g2
  have hr:Rel E1 { σ with bx:=σ.bx.set b' (.sl (min d (p'.length+1)) r rows) } a w:=
   ⟨h.CC,h.tm.imp fun _ _ hx=>CN hk hx,SX.turn (E':=E1) (w':=w) (fun _ _ hv=>Av ⟨by simp,fun _ _=>rfl,fun _ h=>h,fun _ h=>h,hB3.st,fun _ _=>rfl,fun c d' r' rows' hc e=>by
    by_cases OS:b' =c
    ·subst OS
     rw[WV CA]at e;simp only[WL,Bx.sl.injEq]at e;obtain⟨rfl,rfl,e⟩:=e;obtain rfl:=Wi e;exact⟨d,rows,hb,fun p hp q ys hg=>⟨hp,⟨ys,hg,rfl⟩,fun h' hh=>hh⟩⟩
    ·rw[WQ OS]at e
     exact⟨d',rows',e,fun p hp q ys hg=>⟨hp,⟨ys,hg,rfl⟩,fun h' hh=>hh⟩⟩⟩ hv) (fun _ h=>h) (fun _ _=>rfl) (fun _ _=>rfl) (fun _ _ _=>rfl) fun F hF=>hF⟩
  obtain⟨bb,oo,E',q1,q2,q3,q4,q5⟩:=Kq hr (Av hk Pc) FD Q9 e;refine⟨bb,oo,E',q1,q2,q3,⟨(hle.base w).trans q4.base,by simpa using q4.len,fun c hc=> ?_,fun c hc=> ?_,fun c B B' Tw hB Cs hd=> ?_⟩,q5⟩
  ·have:=q4.ids c (by simpa using hc)
   exact⟨this.1.trans (by rw[hle.BC]),this.2.trans (by rw[hle.BD])⟩
  ·refine q4.dead c ?_
   have OS:b'≠c:=fun e=>by subst e;rw[hb]at hc;cases hc
   simp only;rw[WQ OS];exact hc
  ·have OS:b'≠c:=fun e=>Tw (by simp[e])
   obtain⟨f1,f2⟩:=q4.frame c B B' Tw (by simp only;rw[WQ OS];exact hB) Cs hd;refine⟨f1,fun c' Iw=>f2 c' ?_⟩;cases B with
   |mem cs=>exact Iw.trans (by rw[hle.BC])
   |sl d0 r0 Ch=>simp only[MX]at Iw⊢;rw[hle.BD];exact Iw
   |dead=>exact Iw
 ·simp only[W7]at e
  exact Kq h Pc hv Q9 e
def J_:Op→Bool
 | .call { callee:= .value _,.. }=>true
 |_=>false
section
variable{Y:Type} {P:Program} {T:Bb} (hT:An P T) {o:Oper} {E:Env} {σ:St} {a:Act} {w:World} {k:K Y} {y:Y}
include hT
theorem My(h:Rel E σ a w){t:TypeId}{oa ox:Operand}(ho:o.op= .store t oa ox){ti:TI}(Cw:T.get t=some ti)
  (hc:(σ.ev ox).cells.length=ti.size∧ti.size≠0∧(σ.ev ox).cells.all AV.known=true) {σ':St} (hs:GN σ (σ.ev oa) (σ.ev ox)=some σ') (e:k (.c .undef) σ' =some y):Bo P o E σ a w k y:=by
 obtain⟨c1,c2,c3⟩:=hc;have I5:(σ.ev ox).cells≠[]:=fun hh=>by rw[hh]at c1;exact c2 c1.symm
 obtain⟨ED,Q9⟩:=Jt (h.ev ox) c3 I5;have hlen:(a.eval ox).cells.toList.length=ti.size:=by rw[←AF.len ED];exact c1
 have hi:(P.info? t).map (·.size)=some (a.eval ox).cells.toList.length:=by rw[hlen];exact An.size hT Cw
 have Pc:=h.ev oa;have fin:∀{bb oo:Nat} {E':Env},a.eval oa= .pointer (some ⟨bb,oo,none⟩)→w.there bb oo (a.eval ox).cells.toList.length→Rel E' σ' a (w.setCells bb oo (a.eval ox).cells.toList)→
   Cn (BK (fun _=>none) σ o.op) E σ.bx w E' σ'.bx (w.setCells bb oo (a.eval ox).cells.toList)→σ'.tm.length=σ.tm.length→Bo P o E σ a w k y:=by
  intro bb oo E' e1 e2 e3 e4 e5;have hr:=Iq (P:=P) e2 hi Q9;refine⟨undef,_,E',.c .undef,σ',.inr ⟨?_,rfl⟩,e3,trivial,e4,e5,e⟩;simp only[execOp,ho,e1,Sem.run_bind,hr,Result.andThen_ok,Sem.run_pure]
 generalize UP:σ.ev oa=xa at hs Pc
 cases xa with
 |agg l=>simp[GN,E7,Gz]at hs
 |DY l=>simp[GN,E7,Gz]at hs
 |c x=>
  cases x with
  |BA b j=>
   simp only[GN,E7,W7,Gz]at hs;split at hs
   case h_2=>cases hs
   rename_i cs hb;simp only[WM]at hs;obtain⟨Fl,hs,rfl⟩:=hs;have Tm:b<σ.bx.length∧a.eval oa= .pointer (some ⟨E.BC b,j,none⟩):=Pc;obtain⟨q1,q2,q3⟩:=OA h hb ED I5 hs;exact fin Tm.2 q1 q2 (by rw[ho];simp only[BK,UP];exact q3) rfl
  |BT b p i sz j=>
   obtain⟨bb,oo,E',q1,q2,q3,q4,q5⟩:=Mu h Pc (h.ev ox) Q9 hs;exact fin q1 q2 q3 (by rw[ho];simp only[BK,UP];exact q4) q5
  |_=>simp[GN,E7,Gz]at hs
omit hT in
theorem MB(h:Rel E σ a w){x:Operand}(ho:o.op= .assign x)(e:FZ σ (σ.ev x) k=some y):Bo P o E σ a w k y:=by
 have hr:(execOp a.eval o).run P w= .ok (.value (a.eval x)) w:=by simp only[execOp,ho,Sem.run_pure]
 have hv:=h.ev x;unfold FZ at e;split at e
 ·rename_i b off n hx
  rw[hx]at hv;simp only[WN]at e;obtain⟨⟨r,rows,bx,d⟩,e1,e⟩:=e;dsimp only at e;have Fi:VR E w σ.bx (.win b [] off n) (a.eval x):=hv;obtain⟨hd,F1,F2,k1,ho1⟩:=Gj h.bx (Aj.refl _) Fi e1;obtain⟨Fs0,Sl,Dv⟩:=k1.boxes;simp only[Wj]at Dv;have nd:=(WS.1 (WS.1 Dv.nodup).2.1).1;obtain⟨r1,r2,r3⟩:=DE h k1 (w':=w) hd ho1 (fun c hc=> .inl (Wc.2 (.inl hc))) nd (fun c hc=>Dv.lt c (by simp[hc])) (fun _ _ _=>rfl) ⟨rfl,rfl,rfl,Wu _⟩;exact⟨_,_,_,_,_,.inl hr,r1,r3,r2.any,rfl,e⟩
 ·exact Bo.same h hr hv e
theorem N9{Γ:Nat→Option EN}(h:Rel E σ a w)(e:D1 T Γ o σ k=some y)(K4:J_ o.op=false):Bo P o E σ a w k y:=by
 have same:∀{v:Value} {x:XV},(execOp a.eval o).run P w= .ok (.value v) w→XR E w σ.bx x v→k x σ=some y→Bo P o E σ a w k y:=fun h1 h2 h3=>Bo.same h h1 h2 h3
 obtain⟨Fs,hB,hS⟩:=h.bx;have st:=hS.st;unfold D1 at e;split at e
 ·rename_i x ho
  exact same (v:=a.eval x) (by simp only[execOp,ho,Sem.run_pure]) (h.ev x) e
 ·rename_i x ho
  exact MB h ho e
 ·rename_i c xa xb ho
  split at e
  case h_2=>cases e
  rename_i p hp;have hc:=h.ev c;rw[hp]at hc;have Iw:=Cp (E:=E) (w:=w) (vw:=σ.bx) hc;refine same (v:=if p then a.eval xa else a.eval xb) (x:=if p then σ.ev xa else σ.ev xb) (by simp[execOp,ho,Iw,asBool]) (by cases p<;>simp[h.ev]) ?_
  cases p<;>simpa[O5]using e
 ·rename_i t ho
  split at e
  case h_2=>cases e
  rename_i r hr;exact M7 hT h ho hr e
 ·rename_i t x ho
  split at e
  case h_2=>cases e
  rename_i ti Cw;split at e
  case isFalse=>cases e
  rename_i hc;exact Oc h ho hc.2.2 (fun hh=>by rw[hh]at hc;exact hc.2.1 hc.1.symm) e
 ·rename_i t ps ho
  split at e
  case h_2=>cases e
  rename_i s b fs rw r Cw hr;split at e
  case h_2=>cases e
  rename_i cs OO;exact Mc hT h ho Cw hr OO e
 ·rename_i t n ps ho
  exact Iz hT h ho e
 ·rename_i t x ho
  split at e
  case h_2=>cases e
  rename_i z hz;obtain⟨u,h1,h2⟩:=MT hT hB st hz (h.ev x);exact same (by simp only[execOp,ho,Sem.run_bind,h1,Result.andThen_ok,Sem.run_pure]) h2 e
 ·rename_i t xa xx ho
  split at e
  case h_2=>cases e
  rename_i ti Cw;split at e
  case isFalse=>cases e
  rename_i hc;split at e
  case h_2=>cases e
  rename_i σ' hs;exact My hT h ho Cw hc hs e
 ·rename_i x ho
  have hx:=h.ev x;split at e
  ·rename_i b j hp
   rw[hp]at hx;have OQ:b<σ.bx.length∧a.eval x= .pointer (some ⟨E.BC b,j,none⟩):=hx;exact same (v:=a.eval x) (by simp only[execOp,ho,OQ.2,Sem.run_pure]) hx e
  ·rename_i b p i sz j hp
   rw[hp]at hx;have PK:Ff (a.eval x)=true:=hx.1;refine same (v:=a.eval x) ?_ hx e
   unfold Ff at PK;split at PK
   ·rename_i hv
    simp only[execOp,ho,hv,Sem.run_pure]
   ·cases PK
  ·rename_i s r z j hp
   rw[hp]at hx;obtain⟨bb,oo,cs,hv,hrest⟩:=hx;exact same (v:=a.eval x) (x:= .c (.CH s r z j)) (by simp only[execOp,ho,hv,Sem.run_pure]) ⟨bb,oo,cs,hv,hrest⟩ e
  ·rename_i f BZ hp
   rw[hp]at hx;have OQ:(∀b∈BZ,b<σ.bx.length)∧a.eval x= .func (.func f) #[] (BZ.map fun b=>Value.pointer (some ⟨E.BC b,0,none⟩)).toArray:=hx;exact same (v:=a.eval x) (by simp only[execOp,ho,OQ.2,Sem.run_pure]) hx e
  ·cases e
 ·rename_i op t x z s ho
  obtain⟨r,val,h1,h2,h3⟩:=G5 hT e (h.ev x) (h.ev z) x z;exact same (v:=val) (x:= .c r) (by
   simp only[execOp,ho,Sem.run_bind];simp only[Sem.run_bind]at h2;rw[h2];rfl) h3 h1
 ·rename_i op t x ho
  obtain⟨r,val,h1,h2,h3⟩:=Hv (P:=P) e (h.ev x);exact same (v:=val) (x:= .c r) (by simp only[execOp,ho,Sem.run_bind,h2,Result.andThen_ok,Sem.run_pure]) h3 h1
 ·rename_i s d x ho
  exact N3 hT h ho e
 ·rename_i f first BZ ho
  split at e
  case isFalse=>cases e
  rename_i hf;split at e
  case h_2=>cases e
  rename_i bs VK;obtain⟨q1,q2⟩:=JQ VK (Sb h BZ.toList);have Q0:first.map a.eval= #[]:=by
   have:first= #[]:=Array.eq_empty_of_size_eq_zero hf;rw[this];simp
  have Rw:BZ.map a.eval=(bs.map fun b=>Value.pointer (some ⟨E.BC b,0,none⟩)).toArray:=by
   apply Xw;simpa using q2
  refine same (v:= .func (.func f) #[] (bs.map fun b=>Value.pointer (some ⟨E.BC b,0,none⟩)).toArray) ?_ (x:= .c (.fn f bs)) ⟨q1,rfl⟩ e
  simp only[execOp,ho,Instr.makeFunc,Q0,Rw,Sem.run_bind,Sem.run_pure,Result.andThen_ok]
 ·rename_i t l c ho
  exact OG hT h ho e
 ·rename_i t x lo hi ho
  obtain⟨z,val,h1,h2,h3⟩:=Ha hT hB st e (h.ev x) (NW h lo) (NW h hi);exact same (v:=val) (by simp only[execOp,ho,Option.map_none,Sem.run_bind,h2,Result.andThen_ok,Sem.run_pure]) h3 h1
 ·rename_i t x f ho
  split at e
  case h_2=>cases e
  rename_i z hz;obtain⟨u,h1,h2⟩:=Hg hT hz (h.ev x);exact same (by simp only[execOp,ho,Sem.run_bind,h1,Result.andThen_ok,Sem.run_pure]) h2 e
 ·rename_i t x f ho
  split at e
  case h_2=>cases e
  rename_i z hz;obtain⟨u,h1,h2⟩:=IL hT hz (h.ev x);exact same (by simp only[execOp,ho,Sem.run_bind,h1,Result.andThen_ok,Sem.run_pure]) h2 e
 ·rename_i t x i ho
  obtain⟨z,val,h1,h2,h3⟩:=HZ hT hB st e (h.ev x) (h.ev i);exact same (v:=val) (by simp only[execOp,ho,Sem.run_bind,h2,Result.andThen_ok,Sem.run_pure]) h3 h1
 ·rename_i t x i ho
  obtain⟨z,val,h1,h2,h3⟩:=Fg hT e (h.ev x) (h.ev i);exact same (v:=val) (by simp only[execOp,ho,Sem.run_bind,h2,Result.andThen_ok,Sem.run_pure]) h3 h1
 ·rename_i x i ho
  split at e
  case h_2=>cases e
  rename_i z hz;obtain⟨u,h1,h2⟩:=GS (P:=P) hz (h.ev x);exact same (by simp only[execOp,ho,Sem.run_bind,h1,Result.andThen_ok,Sem.run_pure]) h2 e
 ·rename_i f args KS ho
  rw[ho]at K4;cases K4
 ·rename_i args KS ho
  split at e
  ·rename_i s t BM Qv
   obtain⟨x,rfl,hx⟩:=EC BM;have hv:=h.ev x;rw[hx]at hv;have Fi:=D_ (E:=E) (w:=w) (vw:=σ.bx) hv;split at e
   case isFalse=>cases e
   rename_i hs;have hu:=D9 hT hs;refine same (v:= .int .i64 (s.length:Int)) (x:= .c (.v (.int .i64) (s.length:Int))) ?_ (VR.int (E:=E) (vw:=σ.bx) _ _) e
   have CK:(⟨s.toArray⟩:ByteArray).size=s.length:=by simp[ByteArray.size]
   simp[execOp,ho,resolve,invoke,builtin,Builtin.len_,Qv,Fi,AD hu,goInt,CK]
  ·rename_i z t _ BM Qv
   obtain⟨x,rfl,hx⟩:=EC BM;have hv:=h.ev x;rw[hx]at hv;split at e
   case isFalse=>cases e
   rename_i hs;split at e
   case h_2=>cases e
   rename_i n hn;obtain⟨el,hu⟩:=Hy hT hs;obtain⟨ad,cap,Fi⟩:=IK hB st hn hv;refine same (v:= .int .i64 (n:Int)) (x:= .c (.v (.int .i64) (n:Int))) ?_ (VR.int (E:=E) (vw:=σ.bx) _ _) e
   simp[execOp,ho,resolve,invoke,builtin,Builtin.len_,Qv,Fi,AD hu,goInt]
  ·cases e
 ·rename_i args KS ho
  split at e
  case h_2=>cases e
  rename_i x1 x2 BM;exact MR hT h ho rfl BM e
 ·rename_i args KS ho
  split at e
  case h_2=>cases e
  rename_i x BM;exact Me hT h ho rfl BM e (fun b p off n hx=>by rw[ho];simp only[BK];rw[BM,hx])
 ·rename_i args KS ho
  split at e
  case h_2=>cases e
  rename_i x1 x2 BM;obtain⟨o1,o2,rfl,hx1,hx2⟩:=EA BM;have Fe:=h.ev o1;have FD:=h.ev o2;rw[hx1]at Fe;rw[hx2]at FD;obtain⟨r,val,h1,h2,h3⟩:=DG (P:=P) (big:=true) e Fe FD KS #[] o.type;simp only[Xh]at h2;exact same (v:=val) (x:= .c r) (by simp[execOp,ho,resolve,invoke,builtin,h2]) h3 h1
 ·rename_i args KS ho
  split at e
  case h_2=>cases e
  rename_i x1 x2 BM;obtain⟨o1,o2,rfl,hx1,hx2⟩:=EA BM;have Fe:=h.ev o1;have FD:=h.ev o2;rw[hx1]at Fe;rw[hx2]at FD;obtain⟨r,val,h1,h2,h3⟩:=DG (P:=P) (big:=false) e Fe FD KS #[] o.type;simp only[W0,XS]at h2;exact same (v:=val) (x:= .c r) (by simp[execOp,ho,resolve,invoke,builtin,h2]) h3 h1
 ·cases e
end
end Go.Fw
end
section
namespace Go.Fw
def alive(l:List BP)(i:Nat):Bool:=
 match l[i]? with
 |some .gone=>false
 |some _=>true
 |none=>false
def AP.CB(l:List BP):AP→Bool
 | .sl s _=>s
 | .L1 _=>false
 | .H4 _ _=>false
 | .LB _ _=>false
 | .ref i=>decide (i<l.length)
 | .ptr i _=>alive l i
 | .fn _ BZ=>BZ.all (alive l)
 |_=>true
def XP.CB(l:List BP):XP→Bool
 | .c p=>p.CB l
 | .agg q=>q.all (AP.CB l)
 | .DY q=>q.all fun| .inl p=>p.CB l| .inr q=>q.all (AP.CB l)
 | .row _=>false
def BP.CB(l:List BP):BP→Bool
 | .mem q=>q.all (AP.CB l)
 |_=>true
def kinds:List BP→List BP→Bool
 |[],_=>true
 | .mem _::l,.mem _::m=>kinds l m
 | .sl _ r::l,.sl _ q::m=>decide (r=q)&&kinds l m
 | .mem _::l,.gone::m=>kinds l m
 | .sl _ _::l,.gone::m=>kinds l m
 |_,_=>false
def Jg(l:List BP):List (Nat×XP)→Bool
 |[(0,p)]=>p.CB l
 |_=>false
def EN.ok(c:EN):Bool:=
 kinds c.ins.Az c.outs.Az&&Jg c.outs.Az c.outs.Ab&&c.outs.Az.all (BP.CB c.outs.Az)
theorem EE:∀{l m:List BP},kinds l m=true→l.length≤m.length∧ ∀(i:Nat) p,l[i]? =some p→p≠ .gone∧ ∀d r,m[i]? =some (.sl d r)→ ∃d',p= .sl d' r
 |[],m,_=>⟨by simp,fun i p h=>by simp at h⟩
 | .gone::l,[],h=>by simp[kinds]at h
 | .gone::l,_::_,h=>by simp[kinds]at h
 | .mem _::l,[],h=>by simp[kinds]at h
 | .sl _ _::l,[],h=>by simp[kinds]at h
 | .mem q::l,.mem _::m,h=>by
  obtain⟨h1,h2⟩:=EE (l:=l) (m:=m) (by simpa[kinds]using h);refine⟨by simpa using h1,fun i p hp=> ?_⟩;cases i with
  |zero=>simp at hp;subst hp;exact⟨by simp,fun d r hh=>by simp at hh⟩
  |succ i=>simpa using h2 i p (by simpa using hp)
 | .mem q::l,.gone::m,h=>by
  obtain⟨h1,h2⟩:=EE (l:=l) (m:=m) (by simpa[kinds]using h);refine⟨by simpa using h1,fun i p hp=> ?_⟩;cases i with
  |zero=>simp at hp;subst hp;exact⟨by simp,fun d r hh=>by simp at hh⟩
  |succ i=>simpa using h2 i p (by simpa using hp)
 | .mem q::l,.sl _ _::m,h=>by simp[kinds]at h
 | .sl d0 r0::l,.sl _ q::m,h=>by
  simp only[kinds,WY,Wo]at h;obtain⟨h1,h2⟩:=EE (l:=l) (m:=m) h.2;refine⟨by simpa using h1,fun i p hp=> ?_⟩;cases i with
  |zero=>simp at hp;subst hp;exact⟨by simp,fun d r hh=>by simp at hh;exact⟨d0,by rw[h.1,hh.2]⟩⟩
  |succ i=>simpa using h2 i p (by simpa using hp)
 | .sl d0 r0::l,.gone::m,h=>by
  obtain⟨h1,h2⟩:=EE (l:=l) (m:=m) (by simpa[kinds]using h);refine⟨by simpa using h1,fun i p hp=> ?_⟩;cases i with
  |zero=>simp at hp;subst hp;exact⟨by simp,fun d r hh=>by simp at hh⟩
  |succ i=>simpa using h2 i p (by simpa using hp)
 | .sl _ _::l,.mem _::m,h=>by simp[kinds]at h
def DL(P:Program)(f:Nat)(c:EN):Prop:=
 c.ok=true∧(∀args w,(callFunc f args).run P w= .ok (.enter f args) w)∧
 ∀(E:Env) (w:World) (v:c.ins.V) (args:Array Value) (u:c.outs.V),args.size=c.ins.Ab.length→
  AK E w (BQ.mk id c.ins.Az v.2) (BQ.mk id c.ins.Az v.2) []→B_ E w (BQ.mk id c.ins.Az v.2) id c.ins.Ab v.1 args.toList→c.g v=some u→
  Calls P f args w fun e w' => ∃x E',e= .returned x∧Gh E w E' w'∧AK E' w' (BQ.mk id c.outs.Az u.2) (BQ.mk id c.outs.Az u.2) []∧
   B_ E' w' (BQ.mk id c.outs.Az u.2) id c.outs.Ab u.1 [x]∧ ∀i,i<c.ins.Az.length→alive c.outs.Az i=true→E'.BC i=E.BC i∧E'.BD i=E.BD i
theorem Hl:∀x:AV,Ai [] x=x
 | .ref b (s::p)=>by simp[Ai]
 | .ref b []=>rfl
 | .win b (s::p) i n=>by simp[Ai]
 | .win b [] i n=>rfl
 | .BT b (s::p) i sz j=>by simp[Ai]
 | .BT b [] i sz j=>rfl
 | .v _ _=>rfl
 | .sl _ _ _=>rfl
 | .nil=>rfl
 | .BA _ _=>rfl
 | .CH _ _ _ _=>rfl
 | .fn _ _=>rfl
 | .LB _ _=>rfl
 | .M_=>rfl
 | .undef=>rfl
theorem El:Ai []=id:=funext Hl
theorem LI:∀x:XV,DX [] x=x
 | .c x=>by simp[DX,Hl]
 | .agg l=>by simp[DX,El]
 | .DY l=>by
  simp only[DX,El];congr 1
  conv=>rhs;rw[←List.map_id l]
  apply XO;intro x _;cases x with
  |inl x=>simp
  |inr q=>simp
theorem Kr(m:CQ)(σ:St):(σ.EG m).tm=σ.tm.map (DX m):=by
 cases m with
 |nil=>
  simp only[St.EG];have:DX []=id:=funext LI;rw[this,List.map_id]
 |cons _ _=>rfl
theorem OJ(m:CQ)(σ:St):(σ.EG m).bx=σ.bx.map (Bx.map (Ai m)):=by
 cases m with
 |nil=>simp only[St.EG];rw[El,E5]
 |cons _ _=>
  simp only[St.EG];apply XO;intro B _;cases B<;>rfl
theorem GP(f:AV→AV):∀(m:CQ) (bx:List Bx),AH (bx.map (Bx.map f)) m=(AH bx m).map (Bx.map f)
 |[],_=>rfl
 |none::m,bx=>by simp only[AH];exact GP f m bx
 |some b::m,bx=>by
  simp only[AH];rw[←GP f m (bx.set b .dead),List.map_set];rfl
theorem Ck:∀{m:CQ} {bx:List Bx} {b:Nat},some b∉m→(AH bx m)[b]? =bx[b]?
 |[],_,_,_=>rfl
 |none::m,bx,b,h=>by simp only[AH];exact Ck (by simpa using h)
 |some c::m,bx,b,h=>by
  simp only[AH];rw[Ck (by simp at h;exact h.2),WQ (by simp at h;omega)]
theorem Nl{E E':Env}{w w':World}{vw vw':List Bx}{m:CQ}(k:C8 E w vw E' w' (AH vw' m))
  (hb:∀b d' r rows',some b∈m→vw'[b]? =some (.sl d' r rows')→ ∃d rows,vw[b]? =some (.sl d r rows)∧List.length rows' =List.length rows∧E'.BD b=E.BD b) (hlen:vw.length≤vw'.length) {x:AV} {v:Value} (h:VR E w vw x v):VR E' w' vw' (Ai m x) v:=by
 have h1:=Av k h;have En:∀{b'},some b'∉m→(AH vw' m)[b']? =vw'[b']?:=fun e=>Ck e
 have get:∀{b'},b'<vw.length→ ∃B,vw'[b']? =some B:=fun hl=>⟨_,WK (by omega)⟩
 cases x with
 |v t x=>exact h1
 |sl s r x=>exact h1
 |nil=>exact h1
 |BA c j=>exact⟨by simpa[A8]using h1.1,h1.2⟩
 |CH s r x j=>exact h1
 |fn f BZ=>exact⟨fun c hc=>by simpa[A8]using h1.1 c hc,h1.2⟩
 |LB f rows=>exact h1
 |M_=>exact h1
 |undef=>trivial
 |ref c p=>
  have other:some c∉m→VR E' w' vw' (.ref c p) v:=fun e=>by
   simp only[VR,En e]at h1⊢;exact h1
  cases p with
  |nil=>
   simp only[Ai];by_cases e:some c∈m
   ·simp only[VR]at h⊢
    obtain⟨h0,h⟩:=h;refine⟨h0,?_⟩;cases hc:vw[c]? with
    |none=>rw[hc]at h;exact h.elim
    |some B=>
     obtain⟨B',Cs⟩:=get (WJ.1 hc).1;rw[Cs];cases B' with
     |mem cs=>trivial
     |dead=>trivial
     |sl d' r rows' =>
      obtain⟨d,rows,e1,e2,e3⟩:=hb c d' r rows' e Cs;rw[e1]at h;refine⟨by simp[AM],⟨_,rfl⟩,?_⟩;have:=h.2.2;rw[AJ]at this⊢;rw[e3];exact this
   ·exact other e
  |cons s p=>
   simp only[Ai];split
   ·trivial
   ·rename_i e
    exact other (by simpa using e)
 |win c p off n=>
  have other:some c∉m→VR E' w' vw' (.win c p off n) v:=fun e=>by
   simp only[VR,En e]at h1⊢;exact h1
  cases p with
  |nil=>
   simp only[Ai];by_cases e:some c∈m
   ·simp only[VR]at h⊢
    obtain⟨h0,h⟩:=h;refine⟨h0,?_⟩;cases hc:vw[c]? with
    |none=>rw[hc]at h;exact h.elim
    |some B=>
     obtain⟨B',Cs⟩:=get (WJ.1 hc).1;rw[Cs];cases B' with
     |mem cs=>trivial
     |dead=>trivial
     |sl d' r rows' =>
      obtain⟨d,rows,e1,e2,e3⟩:=hb c d' r rows' e Cs;rw[e1]at h;obtain⟨_,q,ys,a,len,cap,g1,g2,g3,g4⟩:=h;simp only[Ay,WL,WU]at g1;obtain⟨rfl,g1⟩:=g1;obtain rfl:=Wi g1;rw[AJ]at g3;exact⟨by simp[AM],r,rows',a,len,cap,rfl,by rw[e2];exact g2,by rw[AJ,e3];exact g3,g4⟩
   ·exact other e
  |cons s p=>
   simp only[Ai];split
   ·trivial
   ·rename_i e
    exact other (by simpa using e)
 |BT c p i sz j=>
  have other:some c∉m→VR E' w' vw' (.BT c p i sz j) v:=fun e=>by
   simp only[VR,En e]at h1⊢;exact h1
  cases p with
  |nil=>
   simp only[Ai];by_cases e:some c∈m
   ·simp only[VR]at h⊢
    obtain⟨h0,h⟩:=h;refine⟨h0,?_⟩;cases hc:vw[c]? with
    |none=>rw[hc]at h;exact h.elim
    |some B=>
     obtain⟨B',Cs⟩:=get (WJ.1 hc).1;rw[Cs];cases B' with
     |mem cs=>trivial
     |dead=>trivial
     |sl d' r rows' =>
      obtain⟨d,rows,e1,e2,e3⟩:=hb c d' r rows' e Cs;rw[e1]at h;obtain⟨_,q,ys,bb,o,len,cap,g1,g2,g3,g4⟩:=h;simp only[Ay,WL,WU]at g1;obtain⟨rfl,g1⟩:=g1;obtain rfl:=Wi g1;rw[AJ]at g3;exact⟨by simp[AM],r,rows',bb,o,len,cap,rfl,by rw[e2];exact g2,by rw[AJ,e3];exact g3,g4⟩
   ·exact other e
  |cons s p=>
   simp only[Ai];split
   ·trivial
   ·rename_i e
    exact other (by simpa using e)
theorem N6{E E':Env}{w w':World}{vw vw':List Bx}{m:CQ}(k:∀x v,VR E w vw x v→VR E' w' vw' (Ai m x) v){x:XV}{v:Value}(h:XR E w vw x v):XR E' w' vw' (DX m x) v:=by
 cases x with
 |c x=>exact k x v h
 |agg l=>
  obtain⟨vs,rfl,ED⟩:=h;exact⟨vs,rfl,AF.Bi _ k ED⟩
 |DY l=>
  obtain⟨vs,rfl,ED⟩:=h;refine⟨vs,rfl,AF.Bi _ (fun x v hx=> ?_) ED⟩;cases x with
  |inl x=>exact k x v hx
  |inr q=>
   obtain⟨us,rfl,hus⟩:=hx;exact⟨us,rfl,AF.Bi _ k hus⟩
def Bl(BX:Nat→Nat):Nat→List Bx→List Bx→List Bx
 |_,[],bx=>bx
 |i,B::l,bx=>Bl BX (i+1) l (if BX i<bx.length then bx.set (BX i) B else bx++[B])
theorem Ia(BX:Nat→Nat):∀(i:Nat) (l:List BP) (x:BQ.V l) (bx:List Bx),Ez BX i l x bx=Bl BX i (BQ.mk BX l x) bx
 |_,[],_,_=>rfl
 |i,p::l,x,bx=>by simp only[Ez,BQ.mk,Bl];exact Ia BX (i+1) l x.2 _
structure L_ (BX:Nat→Nat) (M N:Nat):Prop where
 lt:∀k,k<M→BX k<N
 eq:∀k,M≤k→BX k=N+(k-M)
 inj:∀k k',k<M→k'<M→BX k=BX k'→k=k'
theorem L_.R9{BX:Nat→Nat}{M N:Nat}(h:L_ BX M N){k k':Nat}(e:BX k=BX k'):k=k':=by
 by_cases h1:k<M
 ·by_cases h2:k'<M
  ·exact h.inj k k' h1 h2 e
  ·have:=h.lt k h1
   have:=h.eq k' (by omega);omega
 ·by_cases h2:k'<M
  ·have:=h.lt k' h2
   have:=h.eq k (by omega);omega
  ·have:=h.eq k (by omega)
   have:=h.eq k' (by omega);omega
theorem Gp{BX:Nat→Nat}{M N:Nat}(h:L_ BX M N):∀{l:List Bx} {i:Nat} {bx:List Bx},bx.length=N+(i-M)→
  (Bl BX i l bx).length=N+(i+l.length-M)∧(∀(j:Nat) B,l[j]? =some B→(Bl BX i l bx)[BX (i+j)]? =some B)∧
   ∀n,n<bx.length→(∀j,j<l.length→BX (i+j)≠n)→(Bl BX i l bx)[n]? =bx[n]?
 |[],i,bx,hl=>⟨by simpa[Bl]using hl,fun j B hj=>by simp at hj,fun _ _ _=>rfl⟩
 |B::l,i,bx,hl=>by
  simp only[Bl];have E6:(if BX i<bx.length then bx.set (BX i) B else bx++[B]).length=N+(i+1-M):=by
   split
   ·rename_i CA
    by_cases hi:i<M
    ·simp;omega
    ·have:=h.eq i (by omega);omega
   ·rename_i CA
    by_cases hi:i<M
    ·have:=h.lt i hi;omega
    ·simp;omega
  have EP:(if BX i<bx.length then bx.set (BX i) B else bx++[B])[BX i]? =some B:=by
   split
   ·rename_i CA;rw[WV CA]
   ·rename_i CA
    by_cases hi:i<M
    ·have:=h.lt i hi;omega
    ·have:=h.eq i (by omega)
     rw[WW (by omega),show BX i-bx.length=0 by omega];rfl
  obtain⟨q1,q2,q3⟩:=Gp h (l:=l) E6;refine⟨by rw[q1];simp;omega,fun j C hj=> ?_,fun n hn I5=> ?_⟩
  ·cases j with
   |zero=>
    simp at hj;subst hj;exact(q3 (BX i) (WJ.1 EP).1 (fun j hj e=>by have:=h.R9 e;omega)).trans EP
   |succ j=>
    have:=q2 j C (by simpa using hj)
    rwa [show i+1+j=i+(j+1)by omega]at this
  ·have RM:=I5 0 (by simp)
   rw[XJ]at RM;rw[q3 n (by split<;>simp<;>omega) (fun j hj=>by have:=I5 (j+1) (by simp;omega);rwa [show i+(j+1)=i+1+j by omega]at this)];split
   ·rw[WQ RM]
   ·rw[WO hn]
theorem GM{BX:Nat→Nat}{M N:Nat}(h:L_ BX M N){E:Env}{w:World}{vw:List Bx}:∀{l:List Bx} {i:Nat} {bx:List Bx} {Fs:List V6},bx.length=N+(i-M)→(∀k,i≤k→k<M→bx[BX k]? =some .dead)→
  Fs.length=l.length→(∀(j:Nat) B F,l[j]? =some B→Fs[j]? =some F→Jk E w vw (BX (i+j)) B F)→AK E w vw bx Fs.flatten→AK E w vw (Bl BX i l bx) []
 |[],i,bx,Fs,hl,hd,hF,hB,HH=>by
  have:Fs=[]:=Wd hF;subst this;simpa[Bl]using HH
 |B::l,i,bx,F::Fs,hl,hd,hF,hB,HH=>by
  simp only[Bl];have SY:=hB 0 B F rfl rfl;rw[XJ]at SY;have next:∀{Cd},Cd.length=N+(i+1-M)→(∀k,i+1≤k→k<M→Cd[BX k]? =some .dead)→AK E w vw Cd Fs.flatten→AK E w vw (Bl BX (i+1) l Cd) []:=by
   intro Cd h1 h2 h3;refine GM h h1 h2 (by simpa using hF) (fun j C G hC hG=> ?_) h3;have:=hB (j+1) C G (by simpa using hC) (by simpa using hG)
   rwa [show i+(j+1)=i+1+j by omega]at this
  rw[Wv]at HH;by_cases hi:i<M
  ·have CA:=h.lt i hi
   rw[Wt (by omega)];refine next (by simp;omega) (fun k TV P1=> ?_) (HH.put (hd i (Wu _) hi) SY);rw[WQ (fun e=>by have:=h.R9 e;omega)];exact hd k (by omega) P1
  ·have heq:=h.eq i (by omega)
   rw[Wr (by omega)];have e1:BX i=bx.length:=by omega
   rw[e1]at SY;exact next (by simp;omega) (fun k TV P1=>by omega) (HH.push SY)
 |_::_,_,_,[],_,_,hF,_,_=>by simp at hF
structure LO (E' E2:Env) (l:List BP) (u:BQ.V l) (Oq:List Bx) (BX:Nat→Nat):Prop where
 ids:∀i,alive l i=true→E2.BC (BX i)=E'.BC i∧E2.BD (BX i)=E'.BD i
 bx:∀(i:Nat) p,l[i]? =some p→ ∃y,(BQ.mk id l u)[i]? =some (p.mk id y)∧Oq[BX i]? =some (p.mk BX y)
 S:E2.S=E'.S
theorem FN(BX:Nat→Nat):∀{l:List BP} {u:BQ.V l} {i:Nat} {p:BP},l[i]? =some p→ ∃y:p.V,(BQ.mk id l u)[i]? =some (p.mk id y)∧(BQ.mk BX l u)[i]? =some (p.mk BX y)
 |q::l,u,0,p,h=>by
  simp at h;subst h;exact⟨u.1,rfl,rfl⟩
 |q::l,u,i+1,p,h=>by
  obtain⟨y,h1,h2⟩:=FN BX (u:=u.2) (i:=i) (by simpa using h);exact⟨y,by simpa[BQ.mk]using h1,by simpa[BQ.mk]using h2⟩
 |[],_,_,_,h=>by simp at h
theorem DA(BX:Nat→Nat):∀{l:List BP} {u:BQ.V l},(BQ.mk BX l u).length=l.length
 |[],_=>rfl
 |_::l,u=>by simp[BQ.mk,DA BX (l:=l)]
section
variable{E' E2:Env} {w:World} {l:List BP} {u:BQ.V l} {Oq:List Bx} {BX:Nat→Nat} (r:LO E' E2 l u Oq BX)
include r
omit r in
theorem K3{i:Nat}(h:alive l i=true):∃p,l[i]? =some p∧p≠ .gone:=by
 unfold alive at h;cases e:l[i]? with
 |none=>rw[e]at h;cases h
 |some p=>
  refine⟨p,rfl,fun hp=> ?_⟩;rw[e,hp]at h;cases h
theorem M5{p:AP}{y:p.V}{v:Value}(Da:p.CB l=true)(h:VR E' w (BQ.mk id l u) (p.mk id y) v):VR E2 w Oq (p.mk BX y) v:=by
 cases p with
 |v t=>exact h
 |sl s q=>
  simp only[AP.CB]at Da;subst Da;simp only[AP.mk,VR,Xh]at h⊢;rw[r.S];exact h
 |nil=>exact h
 |ref i=>
  simp only[AP.CB,Wo]at Da;obtain⟨p,hp⟩:∃p,l[i]? =some p:=⟨_,WK Da⟩;obtain⟨z,z1,z2⟩:=r.bx i p hp;simp only[AP.mk,VR,id]at h⊢;refine⟨h.1,?_⟩;have h2:=h.2;rw[z1]at h2;rw[z2];cases p with
  |mem q=>trivial
  |gone=>trivial
  |sl d q=>
   have hid:=(r.ids i (by simp[alive,hp])).2;simp only[BP.mk]at h2⊢;refine⟨h2.1,h2.2.1,?_⟩;rw[hid];exact h2.2.2
 |ptr i j=>
  simp only[AP.CB]at Da;obtain⟨p,hp,hg⟩:=K3 Da;obtain⟨z,z1,z2⟩:=r.bx i p hp;refine⟨(WJ.1 z2).1,?_⟩;rw[(r.ids i Da).1];exact h.2
 |L1 q=>simp[AP.CB]at Da
 |H4 i sz=>simp[AP.CB]at Da
 |LB f rs=>simp[AP.CB]at Da
 |fn f BZ=>
  simp only[AP.CB,W9]at Da;obtain⟨h1,h2⟩:=h;refine⟨fun b hb=> ?_,?_⟩
  ·obtain⟨i,hi,rfl⟩:=List.mem_map.1 hb
   obtain⟨p,hp,_⟩:=K3 (Da i hi);obtain⟨z,_,z2⟩:=r.bx i p hp;exact(WJ.1 z2).1
  ·rw[h2,Xt]
   congr 2
   rw[Xt];apply XO;intro i hi;simp only[Function.comp,id,(r.ids i (Da i hi)).1]
 |any=>trivial
theorem JB:∀{q:List AP} {y:EL.V q} {vs:List Value},q.all (AP.CB l)=true→HF E' w (BQ.mk id l u) (EL.mk id q y) vs→HF E2 w Oq (EL.mk BX q y) vs
 |[],_,[],_,_=>trivial
 |[],_,_::_,_,h=>h.elim
 |p::q,y,[],_,h=>h.elim
 |p::q,y,v::vs,Da,h=>by
  simp only[Xn,WY]at Da;exact⟨M5 r Da.1 h.1,JB Da.2 h.2⟩
theorem LM:∀{q:List (AP ⊕ List AP)} {y:EZ.V q} {vs:List Value},(q.all fun| .inl p=>p.CB l| .inr q=>q.all (AP.CB l))=true→AF (TR E' w (BQ.mk id l u)) (EZ.mk id q y) vs→AF (TR E2 w Oq) (EZ.mk BX q y) vs
 |[],_,[],_,_=>trivial
 |[],_,_::_,_,h=>h.elim
 | .inl p::q,y,[],_,h=>h.elim
 | .inr p::q,y,[],_,h=>h.elim
 | .inl p::q,y,v::vs,Da,h=>by
  simp only[Xn,WY]at Da;exact⟨M5 r Da.1 h.1,LM Da.2 h.2⟩
 | .inr p::q,y,v::vs,Da,h=>by
  simp only[Xn,WY]at Da;obtain⟨us,e,hus⟩:=h.1;exact⟨⟨us,e,JB r Da.1 hus⟩,LM Da.2 h.2⟩
theorem QL{p:XP}{y:p.V}{v:Value}(Da:p.CB l=true)(h:XR E' w (BQ.mk id l u) (p.mk id y) v):XR E2 w Oq (p.mk BX y) v:=by
 cases p with
 |c p=>exact M5 r Da h
 |agg q=>
  obtain⟨vs,e,ED⟩:=h;exact⟨vs,e,JB r Da ED⟩
 |row q=>simp[XP.CB]at Da
 |DY q=>
  obtain⟨vs,e,ED⟩:=h;exact⟨vs,e,LM r Da ED⟩
theorem Qt{i:Nat}{p:BP}{y:p.V}{F:V6}(hi:l[i]? =some p)(Da:p.CB l=true)(h:Jk E' w (BQ.mk id l u) i (p.mk id y) F):Jk E2 w Oq (BX i) (p.mk BX y) F:=by
 cases p with
 |mem q=>
  obtain⟨h1,arr,ty,fr,h2,h3,h4⟩:=h;have hid:=(r.ids i (by simp[alive,hi])).1;exact⟨by rw[hid];exact h1,arr,ty,fr,by rw[hid];exact h2,h3,JB r Da h4⟩
 |sl d q=>
  obtain⟨h1,h2⟩:=h;refine⟨h1,?_⟩;rw[(r.ids i (by simp[alive,hi])).2,r.S];exact h2
 |gone=>exact h
end
end Go.Fw
end
section
namespace Go.Fw
theorem LF{s:CS}{N:Nat}{m0 m:CQ}{tm:List XV}{bx:List Bx}{x:s.V}(e:s.fit N m0 tm bx=some (x,m)):∀(k:Nat) p,s.Az[k]? =some p→p≠ .gone→ ∃b B,m[k]? =some (some b)∧bx[b]? =some B∧B≠ .dead∧
  ∀d r,p= .sl d r→ ∃d' rows,B= .sl d' r rows:=by
 simp only[CS.fit,WN,WM]at e;obtain⟨m1,e1,m2,e2,a,e3,c,e4,e5⟩:=e;cases e5;obtain⟨q1,q2⟩:=C6 (BX:=id) e4;intro k p hp hg;obtain⟨y,_,h⟩:=q2 k p hp;cases p with
 |gone=>exact absurd rfl hg
 |mem q=>
  obtain⟨b,cs,h1,h2,_⟩:=h;exact⟨b,_,h1,h2,by simp,fun d r hh=>by cases hh⟩
 |sl d r=>
  obtain⟨b,d',h1,h2,_⟩:=h;exact⟨b,_,h1,h2,by simp,fun d r hh=>by cases hh;exact⟨d',y,rfl⟩⟩
theorem PB(n:Nat):J1 (List.replicate n none):=fun i j b h=>by
 simp[List.getElem?_replicate]at h
theorem Mx{w:World}{B B':Nat→Prop}{w':World}{r:Ty}{v:Value}{x y:List r.D}(h:Rd w B (.sl r) [v] x)(h':Rd w' B' (.sl r) [v] y):y.length=x.length:=by
 simp only[Rd]at h h';obtain⟨_,_,e,_⟩:=h;obtain⟨_,_,e',_⟩:=h';rw[e]at e';simp only[Wg,Value.slice.injEq,W3]at e';exact e'.2.1.symm
section
variable{Y:Type} {P:Program} {E:Env} {σ:St} {a:Act} {w:World} {k:K Y} {y:Y}
theorem KK{E' E2:Env}{l:List BP}{u:BQ.V l}{Oq:List Bx}{BX:Nat→Nat}(r:LO E' E2 l u Oq BX):∀{sl:List (Nat×XP)} {z:Aw.V sl} {x:Value},
  Jg l sl=true→B_ E' w (BQ.mk id l u) id sl z [x]→XR E2 w Oq (GV sl z BX) x
 |[(0,p)],z,x,Da,h=>by
  obtain⟨⟨v,hv,hx⟩,_⟩:=h;simp at hv;subst hv;exact QL r Da hx
 |[],_,_,Da,_=>by simp[Jg]at Da
 |(_+1,_)::_,_,_,Da,_=>by simp[Jg]at Da
 |(0,_)::_::_,_,_,Da,_=>by simp[Jg]at Da
def Dy(c:EN)(xs:List XV)(σ:St):V6:=
 match c.ins.fit σ.bx.length c.ins.m0 xs (c.ins.opens σ.bx)with
 |some (_,m)=>m.filterMap id
 |none=>[]
theorem Kv(h:Rel E σ a w)(s:CS):∃E',Rel E' { σ with bx:=s.opens σ.bx } a w∧Cn [] E σ.bx w E' (s.opens σ.bx) w∧(∀(i:Nat) d r,s.Az[i]? =some (.sl d r)→E'.BD (σ.bx.length+i)= .slice none 0 0)∧
  (∀x v,XR E w σ.bx x v→XR E' w (s.opens σ.bx) x v):=by
 let E':Env:={ E with BD:=fun k=>if k<σ.bx.length then E.BD k else .slice none 0 0 }
 have hlen:σ.bx.length≤(s.opens σ.bx).length:=by simp[CS.opens]
 have hold:∀b,b<σ.bx.length→(s.opens σ.bx)[b]? =σ.bx[b]?:=fun b hb=>by simp only[CS.opens];rw[WO hb]
 have F7:∀b,b<σ.bx.length→E'.BD b=E.BD b:=fun b hb=>by simp only[E'];rw[Wt hb]
 have keep:C8 E w σ.bx E' w (s.opens σ.bx):=
  ⟨hlen,fun _ _=>rfl,fun _ h=>h,fun _ h=>h,h.bx.st,fun _ _=>rfl,fun b d r rows hb e=>⟨d,rows,by rw[←hold b hb];exact e,fun p hp q ys hg=>⟨hp,⟨ys,hg,rfl⟩,fun hh he=>by rw[F7 b hb];exact he⟩⟩⟩
 obtain⟨Fs,⟨f1,f2⟩,f3⟩:=h.bx;refine⟨E',⟨h.CC,h.tm.imp fun _ _ hx=>CN keep hx,?_⟩,?_,fun i d r hi=>by simp only[E'];rw[Wr (by omega)],fun x v hx=>CN keep hx⟩
 ·refine⟨Fs++List.replicate s.Az.length [],⟨by simp[CS.opens,f1],fun n B F hB hF=> ?_⟩,?_⟩
  ·by_cases hn:n<σ.bx.length
   ·rw[hold n hn]at hB
    rw[WO (by omega)]at hF;have:=f2 n B F hB hF;cases B with
    |mem cs=>
     obtain⟨rfl,arr,ty,fr,a1,a2,a3⟩:=this;exact⟨rfl,arr,ty,fr,a1,a2,a3.imp fun _ _ hv=>Av keep hv⟩
    |sl d r rows=>exact⟨this.1,by rw[F7 n hn];exact this.2⟩
    |dead=>exact this
   ·rw[WW (by omega)]at hF
    have Sj:F=[]:=W5 (WT hF);subst Sj;simp only[CS.opens]at hB;rw[WW (by omega),Wl,WM]at hB;obtain⟨p,_,rfl⟩:=hB;have hh:E'.BD n= .slice none 0 0:=by simp only[E'];rw[Wr hn]
    cases p with
    |mem q=>rfl
    |gone=>rfl
    |sl d r=>exact⟨by omega,by rw[hh];exact Jw⟩
  ·have:(Fs++List.replicate s.Az.length []).flatten=Fs.flatten:=by simp
   rw[this];exact⟨f3.nodup,f3.free,f3.lt,f3.st,f3.GD,f3.Lo.mono (fun _ h=>h) (fun _ _=>rfl)⟩
 ·refine⟨⟨fun _ h=>h,fun _ h=>h,fun _ h=> .inl h,fun _ h=> .inl h,fun _ _=>rfl,rfl,rfl,rfl,Wu _⟩,hlen,fun b hb=>⟨rfl,F7 b hb⟩,fun b hb=> ?_,fun n B B' _ hB Cs hd=> ?_⟩
  ·rw[hold b (WJ.1 hb).1];exact hb
  ·rw[hold n (WJ.1 hB).1,hB]at Cs
   cases Cs;exact⟨Db.refl hd,fun _ _=>rfl⟩
theorem Cn.after{t:V6}{E E' O9:Env}{bx Cd R2:List Bx}{w w':World}(h:Cn [] E bx w E' Cd w)(hb:∀b,b<bx.length→Cd[b]? =bx[b]?)(k:Cn t E' Cd w O9 R2 w'):Cn t E bx w O9 R2 w':=
 ⟨h.base.trans k.base,XN h.len k.len,fun b CA=>⟨(k.ids b (Wq CA h.len)).1.trans (h.ids b CA).1,(k.ids b (Wq CA h.len)).2.trans (h.ids b CA).2⟩,fun b hd=>k.dead b (h.dead b hd),fun n B B' hn hB Cs hd=>by
  have CA:=(WJ.1 hB).1;obtain⟨k1,k2⟩:=k.frame n B B' hn (by rw[hb n CA];exact hB) Cs hd;refine⟨k1,fun c hc=>k2 c ?_⟩;cases B with
  |mem cs=>simp only[MX]at hc⊢;rw[(h.ids n CA).1];exact hc
  |sl d r rows=>simp only[MX]at hc⊢;rw[(h.ids n CA).2];exact hc
  |dead=>exact hc⟩
def P5(c:EN)(N:Nat)(xs:List XV)(σ:St)(k:K Y):Option Y:=
 match c.ins.fit N c.ins.m0 xs σ.bx with
 |some (v,m)=>(c.g v).bind fun u=>
  let BX:=ES m σ.bx.length
  let σ1:=σ.EG m
  k (GV c.outs.Ab u.1 BX) { σ1 with bx:=Ez BX 0 c.outs.Az u.2 (AH σ1.bx m) }
 |none=>none
def Mf(c:EN)(N:Nat)(xs:List XV)(σ:St):V6:=
 match c.ins.fit N c.ins.m0 xs σ.bx with
 |some (_,m)=>m.filterMap id
 |none=>[]
theorem M4{f:Nat}{c:EN}(hc:DL P f c)(h:Rel E σ a w){N0:Nat}(Mr:∀(i:Nat) d r,c.ins.Az[i]? =some (.sl d r)→E.BD (N0+i)= .slice none 0 0){xs:List XV}{vs:List Value}(RG:AF (XR E w σ.bx) xs vs)(hlen:xs.length=c.ins.Ab.length)(e:P5 c N0 xs σ k=some y):
  Calls P f vs.toArray w fun e w' => ∃x E' xv σ',e= .returned x∧Rel E' σ' a w'∧XR E' w' σ'.bx xv x∧Cn (Mf c N0 xs σ) E σ.bx w E' σ'.bx w'∧σ'.tm.length=σ.tm.length∧k xv σ' =some y:=by
 obtain⟨Da,_,K4⟩:=hc;simp only[EN.ok,WY]at Da;obtain⟨⟨hk,hslot⟩,hbo⟩:=Da;obtain⟨hklen,hk⟩:=EE hk;unfold P5 at e;split at e
 case h_2=>cases e
 rename_i v m Ew;simp only[WN]at e;obtain⟨u,hg,e⟩:=e;obtain⟨_,E1,hf⟩:=Ht h.bx RG Mr (by simp[CS.m0]) (PB _) Ew;have CK:vs.toArray.size=c.ins.Ab.length:=by rw[←hlen,AF.len RG];simp
 refine(K4 E1 w v vs.toArray u CK hf.boxes (by simpa using hf.Ab) hg).mono fun e' w' hR=> ?_
 obtain⟨x,E',rfl,base,⟨Fs,hFs1,hFs2⟩,Ab,L9⟩:=hR;simp only[Wj]at hFs2;obtain⟨Fk,k1,k2,k3,k4⟩:=hf.rest;have st:=h.bx.st;have GD:=h.bx.GD;have hM:m.length=c.ins.Az.length:=hf.len;have all:∀i,i<m.length→ ∃b B,m[i]? =some (some b)∧σ.bx[b]? =some B∧B≠ .dead∧ ∀d r,c.ins.Az[i]? =some (.sl d r)→ ∃d' rows,B= .sl d' r rows:=by
  intro i hi;have hp:c.ins.Az[i]? =some (c.ins.Az[i]'(by omega)):=WK _;obtain⟨b,B,h1,h2,h3,h4⟩:=LF Ew i _ hp (hk i _ hp).1;exact⟨b,B,h1,h2,h3,fun d r hh=>h4 d r (by rw[hp]at hh;exact Option.some.inj hh)⟩
 let N:=σ.bx.length
 let M:=m.length
 have Mi:∀i b,m[i]? =some (some b)→ES m N i=b:=fun i b h=>by simp[ES,h]
 have O0:∀i,M≤i→ES m N i=N+(i-M):=fun i hi=>by
  have:m[i]? =none:=XZ hi;simp[ES,this,M]
 have ro:L_ (ES m N) M N:=⟨fun i hi=>by
   obtain⟨b,B,h1,h2,_⟩:=all i hi;rw[Mi i b h1];exact(WJ.1 h2).1,O0,fun i j hi hj e=>by
   obtain⟨b,B,h1,h2,_⟩:=all i hi;obtain⟨b',B',h1',P3,_⟩:=all j hj;rw[Mi i b h1,Mi j b' h1']at e;subst e;exact hf.inj i j b h1 h1'⟩
 let E2:Env:={
   BC:=fun n=>if n<N then E.BC n else E'.BC (M+(n-N))
   BD:=fun n=>if n<N then E.BD n else E'.BD (M+(n-N))
   T:=fun c=>E.T c∨E'.S c
   S:=E'.S }
 have hS:∀c,E.S c→E'.S c:=fun d hd=>base.S d (hf.S d hd)
 have U1:∀d∈Fk.flatten,¬E'.S d:=fun d hd hs=>by
  obtain⟨_,n2,_,n4⟩:=k3 d hd;exact(base.NQ d hs).elim n2 (fun h=>h n4)
 have K0:∀d,E.T d→w'.heap[d]? =w.heap[d]?:=fun d hd=>base.heap d (hf.T d hd)
 have PN:∀d∈Fk.flatten,w'.heap[d]? =w.heap[d]?:=fun d hd=>base.heap d (k3 d hd).2.2.2
 have SG:Gh E w E2 w':=⟨fun d hd=> .inl hd,hS,fun d hd=>hd,fun d hd=>by
   rcases base.NQ d hd with h|h
   ·exact hf.NQ d h
   ·exact .inr fun ht=>h (hf.T d ht),K0,base.os,base.tape,base.output,base.size⟩
 let vw':=BQ.mk id c.outs.Az u.2
 let Bs:=BQ.mk (ES m N) c.outs.Az u.2
 let bk:=(AH σ.bx m).map (Bx.map (Ai m))
 have VH:AH (σ.EG m).bx m=bk:=by rw[OJ,GP]
 have RU:bk.length=N:=by simp[bk,A8,N]
 let Et:=Bl (ES m N) 0 Bs bk
 have TT:Ez (ES m N) 0 c.outs.Az u.2 (AH (σ.EG m).bx m)=Et:=by rw[Ia,VH]
 obtain⟨s1,s2,s3⟩:=Gp ro (l:=Bs) (i:=0) (bx:=bk) (by simp[RU]);have Tj:Bs.length=c.outs.Az.length:=DA _;have Ii:σ.bx.length≤Et.length:=by
  show N≤Et.length
  have:Et.length=N+(0+Bs.length-M):=s1;omega
 have rn:LO E' E2 c.outs.Az u.2 Et (ES m N):=by
  refine⟨fun i hi=> ?_,fun i p hp=> ?_,rfl⟩
  ·by_cases him:i<M
   ·obtain⟨b,B,h1,h2,_⟩:=all i him
    have PW:b<N:=(WJ.1 h2).1;have g1:=hf.ids i b h1;have g2:=L9 i (by omega) hi;rw[Mi i b h1];simp only[E2,Wt PW];exact⟨by rw[g2.1,g1.1],by rw[g2.2,g1.2]⟩
   ·rw[O0 i (by omega)]
    have: ¬(N+(i-M)<N):=by omega
    simp only[E2,Wr this];rw[show M+(N+(i-M)-N)=i by omega];exact⟨rfl,rfl⟩
  ·obtain⟨z,z1,z2⟩:=FN (ES m N) (u:=u.2) hp
   refine⟨z,z1,?_⟩;have:=s2 i _ z2
   rwa [XA]at this
 have PH:∀n,n<N→some n∉m→Et[n]? =bk[n]?:=fun n hn hm=>by
  refine s3 n (by omega) fun j hj he=> ?_
  rw[XA]at he;by_cases hjm:j<M
  ·obtain⟨b,B,h1,h2,_⟩:=all j hjm
   rw[Mi j b h1]at he;subst he;exact hm (WT h1)
  ·have:=O0 j (by omega)
   omega
 have keep:C8 E w σ.bx E2 w' (AH Et m):=by
  refine⟨by rw[A8];exact Ii,fun b hb=>by simp only[E2];rw[Wt hb],fun d hd=> .inl hd,hS,st,K0,fun b d r rows hb hq=> ?_⟩;have Sa:some b∉m:=fun hm=>by have:=Dp hm hq;cases this
  rw[Ck Sa,PH b hb Sa]at hq;have Sf:=Ol hq;have Ug:σ.bx[b]? =some (.sl d r rows):=by
   rcases C1 (Aj.refl σ.bx) b _ Sf with e|e
   ·cases e
   ·exact e
  refine⟨d,rows,Ug,fun p hp q ys Qj=>⟨hp,⟨ys,Qj,rfl⟩,fun h' hh=> ?_⟩⟩;have SR:Fk[b]? =some (Fk[b]'(by rw[k1.1,A8];exact hb)):=WK _;obtain⟨_,ho⟩:=k1.2 b _ _ Sf SR;have e2:E2.BD b=E.BD b:=by simp only[E2];rw[Wt hb]
  rw[e2];exact LS ho (fun d hd=>K0 d (st d hd)) (fun d hd=>PN d (Wh.2 ⟨_,WT SR,hd⟩)) hp Qj hh
 have vr:∀x v,VR E w σ.bx x v→VR E2 w' Et (Ai m x) v:=fun x v hx=>by
  refine Nl keep (fun b d' r rows' Sa hq=> ?_) Ii hx;obtain⟨i,hi,him⟩:=W4 Sa;have Q2:m[i]? =some (some b):=by rw[WK hi,him]
  obtain⟨b',B,h1,h2,h3,h4⟩:=all i hi;rw[Q2]at h1;cases h1;have UR:i<c.outs.Az.length:=by omega
  have hp:c.outs.Az[i]? =some c.outs.Az[i]:=WK UR;obtain⟨z,z1,z2⟩:=rn.bx i _ hp;rw[Mi i b Q2,hq]at z2;have Rv:c.ins.Az[i]? =some (c.ins.Az[i]'(by omega)):=WK _
  generalize c.outs.Az[i]=po at z hp z1 z2
  cases po with
  |mem q=>simp[BP.mk]at z2
  |gone=>simp[BP.mk]at z2
  |sl d0 q=>
   simp only[BP.mk,WL,Bx.sl.injEq]at z2;obtain⟨rfl,rfl,z2⟩:=z2;obtain rfl:=Wi z2;obtain⟨d1,hpo⟩:=(hk i _ Rv).2 _ _ hp;obtain⟨d2,rows,rfl⟩:=h4 d1 r (by rw[Rv,hpo]);have PW:b<N:=(WJ.1 h2).1;have eh:E2.BD b=E.BD b:=by simp only[E2];rw[Wt PW]
   refine⟨d2,rows,h2,?_,eh⟩;obtain⟨F0,hR0,_⟩:=h.bx.take h2;have Vc:Fs[i]? =some (Fs[i]'(by rw[hFs1.1,DA];exact UR)):=WK _;obtain⟨_,N1⟩:=hFs1.2 i _ _ z1 Vc;have Oi:alive c.outs.Az i=true:=by simp[alive,hp]
   rw[(L9 i (by omega) Oi).2,(hf.ids i b Q2).2]at N1;exact Mx (ER hR0.2) (ER N1)
 have EM:c.outs.Az.all (BP.CB c.outs.Az)=true:=hbo;have rel:Rel E2 { tm:=(σ.EG m).tm,bx:=Et } a w':=by
  refine⟨h.CC,?_,?_⟩
  ·rw[Kr]
   exact AF.Bi _ (fun x v hx=>N6 vr hx) h.tm
  ·refine GM ro (Fs:=Fs) (by simp[RU]) (fun i _ hi=> ?_) (by rw[hFs1.1,DA];exact Tj.symm) (fun j B F hB hF=> ?_) ?_
   ·obtain⟨b,B,h1,h2,_⟩:=all i hi
    rw[Mi i b h1];have PW:b<(AH σ.bx m).length:=by rw[A8];exact(WJ.1 h2).1
    have hd:(AH σ.bx m)[b]? =some .dead:=by
     rw[WK PW];exact congrArg some (Dp (WT h1) (WK PW))
    simp only[bk];rw[Wl,hd];rfl
   ·rw[XA]
    have ON:=(WJ.1 hB).1;have hp:c.outs.Az[j]? =some (c.outs.Az[j]'(by omega)):=WK _;obtain⟨z,z1,z2⟩:=FN (ES m N) (u:=u.2) hp;have Cs:Bs[j]? =_:=z2;rw[hB]at Cs;cases Cs;exact Qt rn hp (W9.1 EM _ (XB _)) (hFs1.2 j _ _ z1 hF)
   ·
    refine⟨Fk,⟨by simp[bk,k1.1],fun n B F hn hF=> ?_⟩,?_⟩
    ·simp only[bk]at hn
     rw[Wl,WM]at hn;obtain⟨B0,hn,rfl⟩:=hn;have MY:n<N:=by have:=(WJ.1 hn).1;rwa [A8]at this
     have h3:=k1.2 n B0 F hn hF;have P_:∀d∈F,w'.heap[d]? =w.heap[d]?:=fun d hd=>PN d (Wh.2 ⟨F,WT hF,hd⟩)
     have eb:E2.BC n=E.BC n:=by simp only[E2];rw[Wt MY]
     have eh:E2.BD n=E.BD n:=by simp only[E2];rw[Wt MY]
     cases B0 with
     |mem cs=>
      obtain⟨rfl,arr,ty,fr,ha,hu,hv⟩:=h3;exact⟨by rw[eb],arr,ty,fr,by rw[eb,P_ _ (by simp),ha],hu,AF.Bi _ vr hv⟩
     |sl d r rows=>
      refine⟨h3.1,?_⟩;rw[eh];exact Ae hS (fun d hd=>K0 d (st d hd)) P_ h3.2
     |dead=>exact h3
    ·refine⟨WS.2 ⟨k2,hFs2.nodup,fun x hx z hz he=> ?_⟩,fun d hd ht=> ?_,fun d hd=> ?_,fun d hd=> .inr hd,fun d hd=> ?_,h.bx.Lo.mono (fun _ h=> .inl h) K0⟩
     ·subst he
      exact hFs2.free x hz (base.T x (k3 x hx).2.2.2)
     ·rcases Wc.1 hd with hd|hd
      ·rcases ht with ht|ht
       ·exact(k3 d hd).1 ht
       ·exact U1 d hd ht
      ·rcases ht with ht|ht
       ·exact hFs2.free d hd (base.T d (hf.T d ht))
       ·exact hFs2.free d hd (hFs2.st d ht)
     ·rcases Wc.1 hd with hd|hd
      ·exact Wq (k3 d hd).2.2.1 base.size
      ·exact hFs2.lt d hd
     ·rcases hd with hd|hd
      ·exact Wq (GD d hd) base.size
      ·exact hFs2.GD d (hFs2.st d hd)
 have Pd:Cn (Mf c N0 xs σ) E σ.bx w E2 Et w':=by
  refine⟨SG,Ii,fun n hn=>⟨by simp only[E2];rw[Wt hn],by simp only[E2];rw[Wt hn]⟩,fun n hn=> ?_,fun n B B' VL hB Cs NJ=> ?_⟩
  rotate_left 1
  ·have MY:=(WJ.1 hB).1
   have QS:some n∉m:=fun hm=>VL (by
    simp only[Mf,Ew,List.mem_filterMap];exact⟨some n,hm,rfl⟩)
   rw[PH n MY QS]at Cs;simp only[bk]at Cs;have UO:(AH σ.bx m)[n]? =some B:=by rw[Ck QS];exact hB
   rw[Wl,UO]at Cs;have Cs:Bx.map (Ai m) B=B':=by simpa using Cs
   have SR:Fk[n]? =some (Fk[n]'(by rw[k1.1,A8];exact MY)):=WK _;refine⟨?_,fun d hd=> ?_⟩
   ·subst Cs
    cases B with
    |mem cs=>trivial
    |sl d r rows=>rfl
    |dead=>exact absurd rfl NJ
   ·rcases Gc (k1.2 n B _ UO SR) hd with hs|hs
    ·exact K0 d (st d hs)
    ·exact PN d (Wh.2 ⟨_,WT SR,hs⟩)
  have MY:=(WJ.1 hn).1;have QS:some n∉m:=fun hm=>by
   obtain⟨i,hi,him⟩:=W4 hm;obtain⟨b,B,h1,h2,h3,_⟩:=all i hi;rw[WK hi,him]at h1;cases h1;rw[hn]at h2;cases h2;exact h3 rfl
  rw[PH n MY QS];simp only[bk];rw[Wl,Ck QS,hn];rfl
 refine⟨x,E2,GV c.outs.Ab u.1 (ES m N),{ tm:=(σ.EG m).tm,bx:=Et },rfl,rel,KK rn hslot Ab,Pd,by simp[Kr],?_⟩;rw[TT]at e;exact e
theorem Nq{f:Nat}{c:EN}(hc:DL P f c)(h:Rel E σ a w){xs:List XV}{vs:List Value}(RG:AF (XR E w σ.bx) xs vs)(e:IW c xs σ k=some y):
  Calls P f vs.toArray w fun e w' => ∃x E' xv σ',e= .returned x∧Rel E' σ' a w'∧XR E' w' σ'.bx xv x∧Cn (Dy c xs σ) E σ.bx w E' σ'.bx w'∧σ'.tm.length=σ.tm.length∧k xv σ' =some y:=by
 unfold IW at e;split at e
 case isFalse=>cases e
 rename_i hlen;obtain⟨E',h1,h2,h3,h4⟩:=Kv h c.ins;have hold:∀b,b<σ.bx.length→(c.ins.opens σ.bx)[b]? =σ.bx[b]?:=fun b hb=>by simp only[CS.opens];rw[WO hb]
 refine(M4 (N0:=σ.bx.length) hc h1 h3 (RG.imp fun x v hx=>h4 x v hx) hlen (k:=k) (y:=y) e).mono fun e' w' hR=> ?_
 obtain⟨x,E2,xv,σ',q0,q1,q2,q3,q4,q5⟩:=hR;exact⟨x,E2,xv,σ',q0,q1,q2,h2.after hold q3,q4,q5⟩
end
end Go.Fw
end
section
namespace Go.Fw
def G2(P:Program)(Γ:Nat→Option EN):Prop:= ∀f c,Γ f=some c→DL P f c
theorem KX{Γ:Nat→Option EN}{σ:St}{o:Op}(h:J_ o=false):BK (fun _=>none) σ o=BK Γ σ o:=by
 cases o with
 |call c=>
  obtain⟨callee,args,KS⟩:=c;cases callee with
  |value f=>simp[J_]at h
  |invoke _ _=>rfl
  |builtin b=>cases b<;>rfl
 |_=>rfl
theorem R8{Y:Type}{P:Program}{Γ:Nat→Option EN}{o:Oper}{E:Env}{σ:St}{a:Act}{w:World}{k:K Y}{y:Y}{g:Nat}{c:EN}(QA:DL P g c)(h:Rel E σ a w){f:Operand}{args:Array Operand}{KS:Array TypeId}
  (ho:o.op= .call { callee:= .value f,args:=args,argTypes:=KS }) {ps:List Value} (FD:a.eval f= .func (.func g) #[] ps.toArray) {xs:List XV} (BM:AF (XR E w σ.bx) xs (args.toList.map a.eval++ps)) (ht:BK Γ σ o.op=Dy c xs σ)
  (e:IW c xs σ k=some y) {next:Act→World→Prop} {Q:Exit→Act→World→Prop}
  (hn:∀v w' E' x σ',Rel E' σ' a w'→XR E' w' σ'.bx x v→Cn (BK Γ σ o.op) E σ.bx w E' σ'.bx w'→σ'.tm.length=σ.tm.length→k x σ' =some y→next (a.put o.dst v) w'):o.wp P a w next Q:=by
 have K4:=Nq QA h BM e;have Ki:(execOp a.eval o).run P w= .ok (.enter g (args.toList.map a.eval++ps).toArray) w:=by
  have e2:(args.map a.eval)++ps.toArray=(args.toList.map a.eval++ps).toArray:=by
   apply Xw;simp
  simp only[execOp,ho,resolve,FD,Deferred.ofValue,Sem.run_bind,Sem.run_pure,Result.andThen_ok,invoke,Array.empty_append,e2,QA.2.1]
 unfold Oper.wp;rw[Ki];simp only[Oper.upon];refine K4.mono fun e w' hR=> ?_
 obtain⟨x,E',xv,σ',rfl,h1,h2,h3,h4,h5⟩:=hR;rw[←ht]at h3;exact hn x w' E' xv σ' h1 h2 h3 h4 h5
section
variable{Y:Type} {P:Program} {T:Bb} (hT:An P T) {Γ:Nat→Option EN} (hΓ:G2 P Γ) {o:Oper} {E:Env} {σ:St} {a:Act} {w:World} {k:K Y} {y:Y}
include hT hΓ
theorem NL(h:Rel E σ a w)(e:D1 T Γ o σ k=some y){next:Act→World→Prop}{Q:Exit→Act→World→Prop}
  (hn:∀v w' E' x σ',Rel E' σ' a w'→XR E' w' σ'.bx x v→Cn (BK Γ σ o.op) E σ.bx w E' σ'.bx w'→σ'.tm.length=σ.tm.length→k x σ' =some y→next (a.put o.dst v) w'):o.wp P a w next Q:=by
 by_cases hc:J_ o.op=false
 ·obtain⟨v,w',E',x,σ',hr,h1,h2,h3,h4,h5⟩:=N9 hT h e hc
  rw[KX hc]at h3;unfold Oper.wp;rcases hr with hr|⟨hr,rfl⟩
  ·rw[hr]
   exact hn v w' E' x σ' h1 h2 h3 h4 h5
  ·rw[hr]
   exact hn _ w' E' x σ' h1 h2 h3 h4 h5
 ·
  unfold J_ at hc;split at hc
  case h_2=>simp at hc
  rename_i f args KS ho;unfold D1 at e;rw[ho]at e;dsimp only at e;split at e
  case h_3=>cases e
  ·rename_i g BZ hf
   split at e
   case h_2=>cases e
   rename_i c hg;have hv:=h.ev f;rw[hf]at hv;obtain⟨Fe,FD⟩:(∀b∈BZ,b<σ.bx.length)∧a.eval f= .func (.func g) #[] (BZ.map fun b=>Value.pointer (some ⟨E.BC b,0,none⟩)).toArray:=hv;have QA:=hΓ g c hg;have BM:AF (XR E w σ.bx) (args.toList.map σ.ev++BZ.map fun b=> .c (.BA b 0)) (args.toList.map a.eval++BZ.map fun b=>Value.pointer (some ⟨E.BC b,0,none⟩)):=by
    refine AF.append (Sb h args.toList) ?_
    clear FD hf e
    induction BZ with
    |nil=>trivial
    |cons b l ih=>exact⟨⟨Fe b (by simp),rfl⟩,ih (fun c hc=>Fe c (by simp[hc]))⟩
   have ht:BK Γ σ o.op=Dy c (args.toList.map σ.ev++BZ.map fun b=> .c (.BA b 0)) σ:=by
    rw[ho];simp only[BK,hf,hg,Dy];rfl
   exact R8 QA h ho FD BM ht e hn
  ·rename_i g rows hf
   split at e
   case h_2=>cases e
   rename_i c hg;have hv:=h.ev f;rw[hf]at hv;obtain⟨ps,FD,Fe⟩:∃ps:List Value,a.eval f= .func (.func g) #[] ps.toArray∧AF (RA E w) rows ps:=hv;have QA:=hΓ g c hg;have BM:AF (XR E w σ.bx) (args.toList.map σ.ev++rows.map fun q=> .c (.CH false q.1 q.2 0)) (args.toList.map a.eval++ps):=by
    refine AF.append (Sb h args.toList) ?_
    clear FD hf e
    induction rows generalizing ps with
    |nil=>
     cases ps with
     |nil=>trivial
     |cons _ _=>exact Fe.elim
    |cons q l ih=>
     cases ps with
     |nil=>exact Fe.elim
     |cons p ps=>
      obtain⟨⟨bb,o,cs,h1,h2,h3,h4,h5⟩,Fe⟩:=Fe;exact⟨⟨bb,o,cs,h1,h2,h3,h4,h5⟩,ih ps Fe⟩
   have ht:BK Γ σ o.op=Dy c (args.toList.map σ.ev++rows.map fun q=> .c (.CH false q.1 q.2 0)) σ:=by
    rw[ho];simp only[BK,hf,hg,Dy];rfl
   exact R8 QA h ho FD BM ht e hn
end
theorem Rel.tmp{E:Env}{σ:St}{a:Act}{w:World}(h:Rel E σ a w){t:Nat}{x:XV}(e:σ.tm[t]? =some x):∃v,a.tmps[t]? =some v∧XR E w σ.bx x v:=by
 obtain⟨v,h1,h2⟩:=h.tm.get e;exact⟨v,by simpa using h1,h2⟩
def QY:Value→Option Bool
 | .bool b=>some b
 |_=>none
theorem FR{ops:Array Oper}{tmps:Array Value}{j t:Nat}(e:(ops[j]?).bind (·.dst)=some t){v:Value}(hv:tmps[t]? =some v):yielded ops tmps j=QY v:=by
 simp only[yielded,e,W7,hv];cases v<;>rfl
theorem JL{E:Env}{w:World}{vw:List Bx}:XR E w vw (.DY []) undef:=⟨#[],rfl,trivial⟩
structure Ok (E0:Env) (w0:World) (N nb:Nat) (E:Env) (σ:St) (a:Act) (w:World):Prop where
 rel:Rel E σ a w
 base:Gh E0 w0 E w
 tm:σ.tm.length=N
 KI:nb≤σ.bx.length
 ids:∀i,i<nb→σ.bx[i]?≠some .dead→E.BC i=E0.BC i∧E.BD i=E0.BD i
theorem Ok.next{E0 E E':Env}{w0 w w':World}{N nb:Nat}{σ σ':St}{a a':Act}{t:V6}(h:Ok E0 w0 N nb E σ a w)(hr:Rel E' σ' a' w')(hw:Cn t E σ.bx w E' σ'.bx w')(hl:σ'.tm.length=σ.tm.length):Ok E0 w0 N nb E' σ' a' w':=
 ⟨hr,h.base.trans hw.base,hl.trans h.tm,XN h.KI hw.len,fun i hi hd=>by
  have h1:=hw.ids i (Wq hi h.KI);have h2:=h.ids i hi (fun hh=>hd (hw.dead i hh));exact⟨h1.1.trans h2.1,h1.2.trans h2.2⟩⟩
theorem Ok.put{E0 E:Env}{w0 w:World}{N nb:Nat}{σ:St}{a:Act}(h:Ok E0 w0 N nb E σ a w)(dst:Option Tmp){x:XV}{v:Value}(hx:XR E w σ.bx x v):Ok E0 w0 N nb E (σ.put dst x) (a.put dst v) w:=by
 have e1:(σ.put dst x).bx=σ.bx:=by cases dst<;>rfl
 have e2:(σ.put dst x).tm.length=σ.tm.length:=by cases dst<;>simp[St.put]
 refine⟨h.rel.put dst hx,h.base,e2.trans h.tm,by rw[e1];exact h.KI,fun i hi hd=>h.ids i hi (by rwa [e1]at hd)⟩
theorem Ok.same{E0 E:Env}{w0 w:World}{N nb:Nat}{σ σ1:St}{a:Act}(h:Ok E0 w0 N nb E σ a w)(hr:Rel E σ1 a w)(hb:σ1.bx=σ.bx)(hl:σ1.tm.length=σ.tm.length):Ok E0 w0 N nb E σ1 a w:=
 ⟨hr,h.base,hl.trans h.tm,by rw[hb];exact h.KI,fun i hi hd=>h.ids i hi (by rwa [hb]at hd)⟩
end Go.Fw
end
section
namespace Go.Fw
section
variable{Y:Type}
abbrev k0:K (XV×St):=fun x σ=>some (x,σ)
theorem Nt{op:BinOp}{κ:IntKind}{a b:Int}(k:AV→Option Y):Gn op κ a b k=(Gn op κ a b some).bind k:=by
 cases op<;>simp[Gn]<;>split<;>rfl
theorem Ic{op:BinOp}{κ:IntKind}{a b:Int}(k:AV→Option Y):Ec op κ a b k=(Ec op κ a b some).bind k:=by
 unfold Ec;split
 ·rfl
 ·cases op<;>simp
theorem Ny{op:BinOp}{a b:V7}(k:AV→Option Y):HI op a b k=(HI op a b some).bind k:=by
 cases op<;>simp[HI]<;>split<;>rfl
theorem JG{T:Bb}{t:Nat}{op:BinOp}{a b:XV}(k:AV→Option Y):L0 T t op a b k=(L0 T t op a b some).bind k:=by
 unfold L0;split
 ·split
  ·exact Ic k
  ·exact Ic k
  ·split
   ·exact Nt k
   ·rfl
 ·exact Ny k
 ·split
  ·split
   ·split<;>rfl
   ·rfl
  ·rfl
 ·split<;>rfl
 ·rfl
theorem LW{op:UnOp}{a:XV}(k:AV→Option Y):QB op a k=(QB op a some).bind k:=by
 unfold QB;split<;>rfl
theorem FC{g:Bool}{a b:XV}(k:AV→Option Y):LK g a b k=(LK g a b some).bind k:=by
 unfold LK;split
 ·split
  ·cases g<;>rfl
  ·rfl
 ·rfl
theorem Bj{len:Nat}{lo hi:Option XV}(k:Nat→Nat→Option Y):CL len lo hi k=(CL len lo hi fun l h=>some (l,h)).bind fun p=>k p.1 p.2:=by
 unfold CL;dsimp only;split
 ·split<;>rfl
 ·rfl
theorem NA{T:Bb}{t:Nat}{σ:St}{x:XV}{lo hi:Option XV}(k:K Y):H6 T t σ x lo hi k=(H6 T t σ x lo hi k0).bind fun p=>k p.1 p.2:=by
 unfold H6;split
 ·split
  ·rw[Bj,Bj (Y:=XV×St),Ww];rfl
  ·rfl
 ·split
  ·rw[Bj,Bj (Y:=XV×St),Ww];rfl
  ·rfl
 ·split
  ·split
   ·rw[Bj,Bj (Y:=XV×St),Ww];rfl
   ·rfl
  ·rfl
 ·rfl
theorem NB{T:Bb}{t:Nat}{σ:St}{x i:XV}(k:K Y):Hu σ T t x i k=(Hu σ T t x i k0).bind fun p=>k p.1 p.2:=by
 unfold Hu;split
 ·split
  ·split<;>rfl
  ·rfl
 ·split
  ·split
   ·split<;>rfl
   ·rfl
  ·rfl
 ·split
  ·split
   ·split<;>rfl
   ·rfl
  ·rfl
 ·rfl
theorem Kh{T:Bb}{t:Nat}{σ:St}{x i:XV}(k:K Y):Dw T t σ x i k=(Dw T t σ x i k0).bind fun p=>k p.1 p.2:=by
 unfold Dw;split
 ·split
  ·split<;>rfl
  ·rfl
 ·rfl
theorem OD{T:Bb}{s d:Nat}{σ:St}{x:XV}(k:K Y):Km T s d σ x k=(Km T s d σ x k0).bind fun p=>k p.1 p.2:=by
 unfold Km;split
 ·rfl
 ·rfl
 ·split
  ·split<;>rfl
  ·rfl
 ·split<;>rfl
 ·rfl
theorem N_{T:Bb}{t:Nat}{σ:St}{l c:XV}(k:K Y):Kn T t σ l c k=(Kn T t σ l c k0).bind fun p=>k p.1 p.2:=by
 unfold Kn;split
 ·split
  ·split
   ·split<;>rfl
   ·rfl
  ·rfl
 ·rfl
theorem Iy{T:Bb}{t n:Nat}{ps:List (Nat×XV)}{σ:St}(k:K Y):Cm T t n ps σ k=(Cm T t n ps σ k0).bind fun p=>k p.1 p.2:=by
 unfold Cm;split
 ·split
  ·split
   ·rw[Ww];rfl
   ·rfl
  ·rfl
 ·rfl
theorem MO{T:Bb}{ts:Array TypeId}{σ:St}{a x:XV}(k:K Y):GZ T ts σ a x k=(GZ T ts σ a x k0).bind fun p=>k p.1 p.2:=by
 unfold GZ;split
 ·split
  ·split
   ·rw[Ww]
    congr 1;funext s
    split
    ·split<;>rfl
    ·rfl
   ·rw[Ww]
    congr 1;funext s
    split
    ·rw[Ww]
     congr 1;funext q
     rw[Ww];congr 1;funext z;split<;>rfl
    ·rfl
   ·rfl
  ·rfl
 ·rfl
theorem M8{T:Bb}{ts:Array TypeId}{σ:St}{x:XV}(k:K Y):Hw T ts σ x k=(Hw T ts σ x k0).bind fun p=>k p.1 p.2:=by
 unfold Hw;split
 ·split
  ·split<;>rfl
  ·rfl
 ·rfl
theorem Kx{c:EN}{xs:List XV}{σ:St}(k:K Y):IW c xs σ k=(IW c xs σ k0).bind fun p=>k p.1 p.2:=by
 unfold IW;split
 ·split
  ·rw[Ww];rfl
  ·rfl
 ·rfl
theorem Lv{σ:St}{x:XV}(k:K Y):FZ σ x k=(FZ σ x k0).bind fun p=>k p.1 p.2:=by
 unfold FZ;split
 ·rw[Ww];rfl
 ·rfl
theorem Kw{T:Bb}{Γ:Nat→Option EN}{o:Oper}{σ:St}(k:K Y):D1 T Γ o σ k=(D1 T Γ o σ k0).bind fun p=>k p.1 p.2:=by
 unfold D1;split
 ·rfl
 ·exact Lv k
 ·split
  ·rename_i x _
   cases x<;>rfl
  ·rfl
 ·split<;>rfl
 ·split
  ·split<;>rfl
  ·rfl
 ·split
  ·split<;>rfl
  ·rfl
 ·exact Iy k
 ·split<;>rfl
 ·split
  ·split
   ·split<;>rfl
   ·rfl
  ·rfl
 ·split<;>rfl
 ·rw[JG,JG (Y:=XV×St),Ww];rfl
 ·rw[LW,LW (Y:=XV×St),Ww];rfl
 ·exact OD k
 ·split
  ·split<;>rfl
  ·rfl
 ·exact N_ k
 ·exact NA k
 ·split<;>rfl
 ·split<;>rfl
 ·exact NB k
 ·exact Kh k
 ·split<;>rfl
 ·split
  ·split
   ·exact Kx k
   ·rfl
  ·split
   ·exact Kx k
   ·rfl
  ·rfl
 ·split
  ·split<;>rfl
  ·split
   ·split<;>rfl
   ·rfl
  ·rfl
 ·split
  ·exact MO k
  ·rfl
 ·split
  ·exact M8 k
  ·rfl
 ·split
  ·rw[FC,FC (Y:=XV×St),Ww];rfl
  ·rfl
 ·split
  ·rw[FC,FC (Y:=XV×St),Ww];rfl
  ·rfl
 ·rfl
theorem H_{I:Type}[Nonempty I]{T:Bb}{Γ:Nat→Option EN}{o:Oper}{σ:St}{k:I→K Y}{y:Y}(h:∀i,D1 T Γ o σ (k i)=some y):∃x σ',D1 T Γ o σ k0=some (x,σ')∧ ∀i,k i x σ' =some y:=by
 obtain⟨i0⟩:= ‹Nonempty I›;have h0:=h i0;rw[Kw]at h0;rw[WN]at h0;obtain⟨⟨x,σ'⟩,h1,h2⟩:=h0;refine⟨x,σ',h1,fun i=> ?_⟩;have:=h i;rw[Kw,h1]at this;exact this
end
end Go.Fw
end
section
namespace Go.Fw
def WF{α:Type}(P:Program)(s:Sem α):Prop:= ∀w v w1,s.run P w= .ok v w1→ ∀w',s.run P w' = .ok v w'
section
variable{α β:Type} {P:Program}
theorem WF.pure(x:α):WF P (Pure.pure x:Sem α):=fun w v w1 h w' =>by
 simp only[Sem.run_pure,Result.ok.injEq]at h⊢;exact⟨h.1,trivial⟩
theorem WF.bind{s:Sem α}{f:α→Sem β}(h:WF P s)(k:∀v,WF P (f v)):WF P (s >>= f):=fun w v w1 e w' =>by
 rw[Sem.run_bind]at e⊢;cases hs:s.run P w with
 |ok u w2=>
  rw[hs]at e;simp only[Result.andThen_ok]at e;rw[h w u w2 hs w'];simp only[Result.andThen_ok];exact k u w2 v w1 e w'
 |halt x w2=>
  rw[hs]at e;simp[Result.andThen]at e
theorem WF.halt(x:Halt):WF P (.halt x:Sem α):=fun w v w1 e w' =>by simp[Sem.run]at e
theorem WF.program:WF P program:=fun w v w1 e w' =>by
 rw[run_program]at e⊢;cases e;rfl
theorem WF.typeInfo(t:TypeId):WF P (typeInfo t):=WF.bind WF.program fun p=>by
 split
 ·exact WF.pure _
 ·exact WF.halt _
theorem WF.underlying(t:TypeId):WF P (underlying t):=WF.bind WF.program fun p=>by
 split
 ·exact WF.pure _
 ·exact WF.halt _
theorem WF.sizeOf(t:TypeId):WF P (Go.sizeOf t):=WF.bind (WF.typeInfo t) fun _=>WF.pure _
theorem WF.isAgg(t:TypeId):WF P (isAgg t):=WF.bind (WF.underlying t) fun d=>by
 split<;>exact WF.pure _
theorem WF.zeroValue(t:TypeId):WF P (zeroValue t):=WF.bind (WF.typeInfo t) fun i=>by
 split
 ·exact WF.pure _
 ·exact WF.halt _
theorem WF.asIntOf(v:Value):WF P (asIntOf v):=by
 unfold Go.asIntOf;split
 ·exact WF.pure _
 ·exact WF.halt _
 ·exact WF.halt _
theorem WF.asBool(v:Value):WF P (asBool v):=by
 unfold Go.asBool;split
 ·exact WF.pure _
 ·exact WF.halt _
theorem WF.asAgg(v:Value):WF P (asAgg v):=by
 unfold Go.asAgg;split
 ·exact WF.pure _
 ·exact WF.halt _
theorem WF.sureAddr(v:Value):WF P (Instr.sureAddr v):=by
 unfold Instr.sureAddr;split
 ·exact WF.pure _
 ·exact WF.halt _
theorem WF.L4{s:Sem α}(h:∀w v w1,s.run P w≠ .ok v w1):WF P s:=fun w v w1 e=>absurd e (h w v w1)
theorem D3{s:Sem α}{f:α→Sem β}(h:∀x w v w1,(f x).run P w≠ .ok v w1):∀w v w1,(s >>= f).run P w≠ .ok v w1:=fun w v w1 e=>by
 rw[Sem.run_bind]at e;cases hs:s.run P w with
 |ok u w2=>rw[hs]at e;exact h u w2 v w1 e
 |halt x w2=>rw[hs]at e;simp[Result.andThen]at e
theorem Gy(x:Halt):∀w v w1,(.halt x:Sem α).run P w≠ .ok v w1:=fun w v w1 e=>by simp[Sem.run]at e
theorem Im(e:RuntimeError):∀w v w1,(runtimePanic e:Sem α).run P w≠ .ok v w1:=by
 unfold runtimePanic;refine D3 fun p=> ?_
 dsimp only;split<;>first
  |exact Gy _
  |exact D3 fun _=>D3 fun _=>Gy _
  |exact D3 fun _=>Gy _
theorem WF.bounds(k:IntKind)(x y:Int)(c:BoundsCode):WF P (boundsPanic k x y c:Sem α):=WF.L4 (by
 unfold boundsPanic;dsimp only;split<;>exact D3 fun _=>Im _)
theorem WF.part(t:TypeId)(cs:Array Value)(o:Nat):WF P (part t cs o):=WF.bind (WF.isAgg t) fun b=>by
 split
 ·exact WF.bind (WF.sizeOf t) fun _=>WF.pure _
 ·split
  ·exact WF.pure _
  ·exact WF.halt _
theorem WF.field(t:TypeId)(x:Value)(f:Nat):WF P (Instr.field t x f):=WF.bind (WF.underlying t) fun d=>by
 split
 ·split
  ·exact WF.bind (WF.asAgg x) fun _=>WF.part _ _ _
  ·exact WF.halt _
 ·exact WF.halt _
theorem WF.indexAt(t:TypeId)(x i:Value):WF P (Instr.indexAt t x i):=WF.bind (WF.asIntOf i) fun q=>by
 obtain⟨k,i⟩:=q;dsimp only;refine WF.bind (WF.underlying t) fun d=> ?_
 have rest:∀q:Option Addr×Nat×TypeId,WF P (do
   let d←Go.underlying t
   match q.1 with
   |some a=>
    if 0≤i∧i<(q.2.1:Int)then do
     let s←Go.sizeOf q.2.2
     Pure.pure (Value.pointer (some (a.add (i.toNat*s))))
    else if(decide (q.2.1≤1)&&(match d with| .array .. =>true|_=>false))=true then unsupported (.noEntry "op/indexAddr.an index out of range at an array of length 0 or 1 (ledger 616)")
    else boundsPanic k i q.2.1 .index
   |none=>boundsPanic k i 0 .index:Sem Value):=fun q=>by
  refine WF.bind (WF.underlying t) fun d=> ?_
  split
  ·split
   ·exact WF.bind (WF.sizeOf _) fun _=>WF.pure _
   ·repeat' split
    all_goals first|exact WF.halt _|exact WF.bounds _ _ _ _
  ·exact WF.bounds _ _ _ _
 split
 ·exact WF.bind (WF.sureAddr _) fun _=>WF.bind (WF.pure _) fun q=>rest q
 ·exact WF.bind (WF.pure _) fun q=>rest q
 ·exact WF.bind (WF.halt _) fun q=>rest q
theorem WF.index(t:TypeId)(x i:Value):WF P (Instr.index t x i):=WF.bind (WF.asIntOf i) fun q=>by
 obtain⟨k,i⟩:=q;dsimp only;refine WF.bind (WF.underlying t) fun d=> ?_
 split
 ·split
  ·exact WF.bind (WF.sizeOf _) fun _=>WF.part _ _ _
  ·exact WF.bounds _ _ _ _
 ·split
  ·exact WF.pure _
  ·exact WF.bounds _ _ _ _
 ·exact WF.halt _
theorem WF.extract(x:Value)(i:Nat):WF P (Instr.extract x i):=by
 unfold Instr.extract;split
 ·split
  ·exact WF.pure _
  ·exact WF.halt _
 ·exact WF.halt _
theorem WF.sliceBound(x:Value)(y:Nat)(c:BoundsCode):WF P (Instr.sliceBound x y c):=WF.bind (WF.asIntOf x) fun q=>by
 obtain⟨k,i⟩:=q;dsimp only;split
 ·exact WF.pure _
 ·exact WF.bounds _ _ _ _
theorem WF.sliceBounds(b:Bool)(len cap:Nat)(l h:Option Value):WF P (Instr.sliceBounds b len cap l h none):=by
 cases h with
 |none=>
  cases l with
  |none=>exact WF.bind (WF.pure _) fun _=>WF.bind (WF.pure _) fun _=>WF.bind (WF.pure _) fun _=>WF.pure _
  |some l=>exact WF.bind (WF.pure _) fun _=>WF.bind (WF.pure _) fun _=>WF.bind (WF.sliceBound _ _ _) fun _=>WF.pure _
 |some h=>
  cases l with
  |none=>exact WF.bind (WF.pure _) fun _=>WF.bind (WF.sliceBound _ _ _) fun _=>WF.bind (WF.pure _) fun _=>WF.pure _
  |some l=>exact WF.bind (WF.pure _) fun _=>WF.bind (WF.sliceBound _ _ _) fun _=>WF.bind (WF.sliceBound _ _ _) fun _=>WF.pure _
theorem WF.asAddr(v:Value):WF P (asAddr v):=by
 unfold Go.asAddr;split
 ·exact WF.pure _
 ·exact WF.L4 (Im _)
 ·exact WF.halt _
theorem WF.slice(t:TypeId)(x:Value)(l h:Option Value):WF P (Instr.slice t x l h none):=WF.bind (WF.underlying t) fun d=>by
 split
 ·exact WF.bind (WF.sliceBounds _ _ _ _ _) fun _=>WF.pure _
 ·exact WF.bind (WF.sliceBounds _ _ _ _ _) fun _=>WF.bind (WF.sizeOf _) fun _=>WF.pure _
 ·refine WF.bind (WF.asAddr _) fun _=>WF.bind (WF.underlying _) fun d=> ?_
  split
  ·exact WF.bind (WF.sliceBounds _ _ _ _ _) fun _=>WF.bind (WF.sizeOf _) fun _=>WF.pure _
  ·exact WF.halt _
 ·exact WF.halt _
theorem WF.sliceAt(t:TypeId)(x:Value)(l h:Option Value):WF P (Instr.sliceAt t x l h none):=WF.bind (WF.underlying t) fun d=>by
 split
 ·exact WF.bind (WF.sureAddr _) fun _=>WF.bind (WF.sliceBounds _ _ _ _ _) fun _=>WF.bind (WF.sizeOf _) fun _=>WF.pure _
 ·exact WF.slice _ _ _ _
theorem WF.K7{f:α→Sem β}(h:∀x,WF P (f x)):∀l:List α,WF P (l.mapM f)
 |[]=>WF.pure _
 |x::l=>by
  rw[Xv];exact WF.bind (h x) fun _=>WF.bind (WF.K7 h l) fun _=>WF.pure _
theorem WF.mapM{f:α→Sem β}(h:∀x,WF P (f x))(a:Array α):WF P (a.mapM f):=by
 rw[Array.mapM_eq_mapM_toList,←bind_pure_comp];exact WF.bind (WF.K7 h _) fun _=>WF.pure _
theorem WF.build(t:TypeId)(ps:Array (Nat×Value)):WF P (Instr.build t ps):=WF.bind (WF.zeroValue t) fun z=>by
 refine WF.bind (WF.underlying t) fun d=> ?_
 split
 ·refine WF.bind (WF.mapM (fun f=>WF.bind (WF.sizeOf _) fun _=>WF.pure _) _) fun _=> ?_
  split
  ·exact WF.pure _
  ·exact WF.halt _
 ·refine WF.bind (WF.sizeOf _) fun _=> ?_
  split
  ·exact WF.pure _
  ·exact WF.halt _
 ·exact WF.halt _
end
end Go.Fw
end
section
namespace Go.Fw
def SV(hint:V6)(E:Env)(w:World)(bx:List Bx)(c:Nat):Prop:=E.T c∨ ∃n B,n∈hint∧bx[n]? =some B∧MX E w n B c
def JY(K:Nat→Prop)(w w':World):Prop:= ∀c,K c→w'.heap[c]? =w.heap[c]?
theorem NZ{w:World}{B:Nat→Prop}:∀{p:List Ie} {r:Ty} {h:Value} {rows:List r.D} {q:Ty} {ys:List q.D} {bb o len cap i:Nat},Rd w B (.sl r) [h] rows→AM r rows p→Ay r rows p=some ⟨q,ys⟩→
  BU w h p=some (.slice (some ⟨bb,o,none⟩) len cap)→i<ys.length→RB w (.sl r) [h] rows bb
 |[],r,h,rows,q,ys,bb,o,len,cap,i,hr,hp,hg,hh,hi=>by
  rw[AJ]at hh;cases hh;simp only[Ay,WL,WU]at hg;obtain⟨rfl,hg⟩:=hg;obtain rfl:=Wi hg;simp only[RB];exact⟨bb,o,len,cap,rfl,by omega,.inl rfl⟩
 |s::p,r,h,rows,q,ys,bb,o,len,cap,i,hr,hp,hg,hh,hi=>by
  simp only[AM]at hp;obtain⟨hsi,CK,hp⟩:=hp;simp only[Rd]at hr;obtain⟨a,cap',e1,_,hr⟩:=hr;obtain rfl:=(XH e1).1;rcases hr with hr|⟨b',o',rfl,hb,hr⟩
  ·omega
  obtain⟨cs,hl,hc,hrow⟩:=hr s.i _ (Cf hsi);simp only[Ay]at hg;split at hg
  case h_2=>cases hg
  rename_i q' x Fu;rw[Fu]at hp;dsimp only at hp;obtain⟨v,hv,hrv⟩:=GY hrow Fu;have QE:=hc _ _ hv;rw[←CK]at QE;simp only[BU,QE]at hh;have:=NZ hrv hp hg hh hi;simp only[RB];refine⟨b',o',_,cap',rfl,by omega,.inr ⟨s.i,_,cs,Cf hsi,hl,hc,?_⟩⟩;clear hc QE e1 hr;exact RB_cell hrow Fu hv this
where
 RB_cell {w:World} {B:Nat→Prop} {c:Nat}:∀{r:Ty} {cs:List Value} {x:r.D} {j:Nat} {t:Ty} {y:t.D} {v:Value},Rd w B r cs x→AB r j x=some ⟨t,y⟩→cs[j]? =some v→RB w t [v] y c→RB w r cs x c
 | .cons c r,cs,x,0,t,y,v,h,e,hv,k=>by
  simp only[Rd]at h;obtain⟨u,l,rfl,h1,h2⟩:=h;simp only[AB,WL,WU]at e;obtain⟨rfl,e⟩:=e;obtain rfl:=Wi e;simp at hv;subst hv;simp only[RB];exact⟨u,l,rfl,.inl k⟩
 | .cons c r,cs,x,j+1,t,y,v,h,e,hv,k=>by
  simp only[Rd]at h;obtain⟨u,l,rfl,h1,h2⟩:=h;simp only[AB]at e;have:=RB_cell h2 e (by simpa using hv) k;simp only[RB];exact⟨u,l,rfl,.inr this⟩
 | .int k,cs,x,0,t,y,v,h,e,hv,k' =>by
  simp only[AB,WL,WU]at e;obtain⟨rfl,_⟩:=e;simp[RB]at k'
 | .bool,cs,x,0,t,y,v,h,e,hv,k' =>by
  simp only[AB,WL,WU]at e;obtain⟨rfl,_⟩:=e;simp[RB]at k'
 | .str,cs,x,0,t,y,v,h,e,hv,k' =>by
  simp only[AB,WL,WU]at e;obtain⟨rfl,_⟩:=e;simp[RB]at k'
 | .sl r,cs,x,0,t,y,v,h,e,hv,k=>by
  simp only[AB,WL,WU]at e;obtain⟨rfl,e⟩:=e;obtain rfl:=Wi e;have hl:=Hs h;simp only[Ty.n]at hl;obtain⟨u,rfl⟩:=List.length_eq_one_iff.1 hl;simp at hv;subst hv;exact k
 | .unit,_,_,_,_,_,_,_,e,_,_=>by simp[AB]at e
 | .int _,_,_,_+1,_,_,_,_,e,_,_=>by simp[AB]at e
 | .bool,_,_,_+1,_,_,_,_,e,_,_=>by simp[AB]at e
 | .str,_,_,_+1,_,_,_,_,e,_,_=>by simp[AB]at e
 | .sl _,_,_,_+1,_,_,_,_,e,_,_=>by simp[AB]at e
section
variable{P:Program} {T:Bb} (hT:An P T) {E:Env} {w:World}
include hT
theorem K5{σ:St}{Fs:List V6}(hB:B9 E w σ.bx σ.bx Fs)(st:∀c,E.S c→E.T c){t:Nat}{x:AV}{z:XV}(e:IU T t σ (.c x)=some z){v:Value}(hx:VR E w σ.bx x v):
  ∃bb oo u y,v= .pointer (some ⟨bb,oo,none⟩)∧BS σ.bx x 0=some y∧XR E w σ.bx z u∧ ∀w',w'.heap[bb]? =w.heap[bb]?→(Instr.loadAt t v).run P w' = .ok u w':=by
 unfold IU at e;split at e
 case h_2=>cases e
 rename_i x' ti OQ Cw;cases OQ;split at e
 case isTrue=>cases e
 rename_i CK;have Hb:=fun w=>An.isAgg hT Cw w
 split at e
 ·rename_i ha
  simp only[WM]at e;obtain⟨l,hl,rfl⟩:=e;obtain⟨h1,h2⟩:=FK hl;have h0:0<l.length:=by omega
  obtain⟨b,o,u,hv,_,_⟩:=Bn hB st (h2 0 _ (WK h0)) hx;obtain⟨cs,c1,c2,c3⟩:=GF hB st hx hv (l:=l) (j:=0) (fun i y hy=>by simpa using h2 i y hy);subst hv;have HV:=(hT t ti Cw).Ot;cases hd:ti.desc with
  |st fs=>
   rw[hd]at HV;obtain⟨fields,hu,_⟩:=HV;refine⟨b,o,.agg cs.toArray,_,rfl,by simpa using h2 0 _ (WK h0),⟨cs.toArray,rfl,by simpa using c3⟩,fun w' hw=>run_loadAt_mid w' b o t cs _ (by have:=c2.of_block hw;simpa[AG,World.rangeAt]using this) hu rfl ?_⟩;rw[An.size hT Cw,c1,h1]
  |_=>rw[hd]at ha;simp[TD.agg]at ha
 ·rename_i ha
  simp only[Bool.not_eq_true]at ha;simp only[WM]at e;obtain⟨y,hy,rfl⟩:=e;obtain⟨b,o,u,hv,hc,hr⟩:=Bn hB st hy hx;subst hv;refine⟨b,o,u,y,rfl,hy,hr,fun w' hw=> ?_⟩;have P6:=Hb w';rw[ha]at P6;simp only[XJ]at hc;have Iw:w'.cell? ⟨b,o,none⟩=some u:=by rw[World.cell?_of_block (a:=⟨b,o,none⟩) hw];exact hc
  simp[Instr.loadAt,Instr.sureAddr,loadVar,P6,Iw]
end
theorem MS{E E':Env}{w w':World}{vw vw':List Bx}{t:Ty}{x:t.D}{v:Value}(h:VR E w vw (.v t x) v):VR E' w' vw' (.v t x) v:=by
 obtain⟨h1,h2⟩:=h;refine⟨h1,?_⟩;cases t<;>simp_all[Ty.scalar,Rd]
theorem Hq{E E':Env}{w w':World}{vw vw':List Bx}{t:Ty}{x:t.D}{v u:Value}(h:VR E w vw (.v t x) v)(k:VR E' w' vw' (.v t x) u):v=u:=by
 obtain⟨h1,h2⟩:=h;obtain⟨_,k2⟩:=k;cases t<;>simp_all[Ty.scalar,Rd]
def II(x:XV):Prop:=(∃t z,x= .c (.v t z))∨(∃l,x= .agg l∧ ∀c∈l,∃t z,c= .v t z)
theorem Bt{E E':Env}{w w':World}{vw vw':List Bx}{x:XV}{v:Value}(hp:II x)(h:XR E w vw x v):XR E' w' vw' x v:=by
 rcases hp with⟨t,z,rfl⟩|⟨l,rfl,hl⟩
 ·exact MS (E:=E) (w:=w) (vw:=vw) (E':=E') (w':=w') (vw':=vw') h
 ·obtain⟨vs,rfl,ED⟩:=h
  refine⟨vs,rfl,?_⟩
  generalize vs.toList=m at ED
  induction l generalizing m with
  |nil=>cases m with
   |nil=>trivial
   |cons _ _=>exact ED.elim
  |cons c l ih=>cases m with
   |nil=>exact ED.elim
   |cons u m=>
    obtain⟨t,z,rfl⟩:=hl c (by simp);exact⟨MS ED.1,ih (fun c hc=>hl c (by simp[hc])) m ED.2⟩
theorem LX{d:TD}{x z:AV}{p:Bool}(e:J8 d x z=some p):(∃t y,x= .v t y)∧ ∃t y,z= .v t y:=by
 unfold J8 at e;split at e
 ·exact⟨⟨_,_,rfl⟩,_,_,rfl⟩
 ·exact⟨⟨_,_,rfl⟩,_,_,rfl⟩
 ·exact⟨⟨_,_,rfl⟩,_,_,rfl⟩
 ·cases e
theorem Eo{T:Bb}:∀{i:Nat} {fs:List V8} {l m:List AV} {r:Bool},Bg T i fs l m=some r→(∀c∈l,∃t z,c= .v t z)∧ ∀c∈m,∃t z,c= .v t z
 |i,[],[],[],r,e=>by simp
 |i,(o,t)::fs,x::l,z::m,r,e=>by
  simp only[Bg]at e;split at e
  case isFalse=>cases e
  split at e
  case h_2=>cases e
  split at e
  case h_2=>cases e
  rename_i p hp;simp only[WM]at e;obtain⟨r',e1,_⟩:=e;obtain⟨a1,a2⟩:=LX hp;obtain⟨b1,b2⟩:=Eo e1;exact⟨fun c hc=>(Wy.1 hc).elim (fun e=>e▸a1) (b1 c),fun c hc=>(Wy.1 hc).elim (fun e=>e▸a2) (b2 c)⟩
 |_,[],[],_::_,_,e=>by simp[Bg]at e
 |_,[],_::_,_,_,e=>by simp[Bg]at e
 |_,_::_,[],_,_,e=>by simp[Bg]at e
 |_,_::_,_::_,[],_,e=>by simp[Bg]at e
theorem Pw{op:BinOp}{κ:IntKind}{a b:Int}{r:AV}(e:Gn op κ a b some=some r):∃t x,r= .v t x:=by
 cases op<;>simp only[Gn,WL]at e<;>first
  |exact⟨_,_,e.symm⟩
  |(
   split at e
   ·cases e
   ·cases e;exact⟨_,_,rfl⟩)
  |cases e
theorem Kz{op:BinOp}{κ:IntKind}{a b:Int}{r:AV}(e:Ec op κ a b some=some r):∃t x,r= .v t x:=by
 unfold Ec at e;split at e
 ·cases e
 ·cases op<;>simp only[WL]at e<;>first
   |exact⟨_,_,e.symm⟩
   |cases e
theorem Pn{op:BinOp}{a b:V7}{r:AV}(e:HI op a b some=some r):∃t x,r= .v t x:=by
 cases op<;>simp only[HI,WL]at e<;>first
  |exact⟨_,_,e.symm⟩
  |(
   split at e
   ·cases e;exact⟨_,_,rfl⟩
   ·cases e)
  |cases e
theorem Q1{T:Bb}{t:Nat}{op:BinOp}{a b:XV}{r:AV}(e:L0 T t op a b some=some r):(∃t x,r= .v t x)∧II a∧II b:=by
 unfold L0 at e;split at e
 ·refine⟨?_,.inl ⟨_,_,rfl⟩,.inl ⟨_,_,rfl⟩⟩
  split at e
  ·exact Kz e
  ·exact Kz e
  ·split at e
   ·exact Pw e
   ·cases e
 ·exact⟨Pn e,.inl ⟨_,_,rfl⟩,.inl ⟨_,_,rfl⟩⟩
 ·refine⟨?_,.inl ⟨_,_,rfl⟩,.inl ⟨_,_,rfl⟩⟩
  split at e
  ·split at e
   ·split at e
    ·cases e;exact⟨_,_,rfl⟩
    ·cases e;exact⟨_,_,rfl⟩
    ·cases e
   ·cases e
  ·cases e
 ·split at e
  ·rename_i hq
   rw[WN]at hq;obtain⟨fs,_,hq⟩:=hq;obtain⟨q1,q2⟩:=Eo hq;cases e;exact⟨⟨_,_,rfl⟩,.inr ⟨_,rfl,q1⟩,.inr ⟨_,rfl,q2⟩⟩
  ·rename_i hq
   rw[WN]at hq;obtain⟨fs,_,hq⟩:=hq;obtain⟨q1,q2⟩:=Eo hq;cases e;exact⟨⟨_,_,rfl⟩,.inr ⟨_,rfl,q1⟩,.inr ⟨_,rfl,q2⟩⟩
  ·cases e
 ·cases e
theorem PL{g:Bool}{a b:XV}{r:AV}(e:LK g a b some=some r):(∃t x,r= .v t x)∧II a∧II b:=by
 unfold LK at e;split at e
 ·refine⟨?_,.inl ⟨_,_,rfl⟩,.inl ⟨_,_,rfl⟩⟩
  split at e
  ·cases g<;>(cases e;exact⟨_,_,rfl⟩)
  ·cases e
 ·cases e
theorem Rm{op:UnOp}{a:XV}{r:AV}(e:QB op a some=some r):(∃t x,r= .v t x)∧II a:=by
 unfold QB at e;split at e
 ·cases e;exact⟨⟨_,_,rfl⟩,.inl ⟨_,_,rfl⟩⟩
 ·cases e;exact⟨⟨_,_,rfl⟩,.inl ⟨_,_,rfl⟩⟩
 ·cases e
section
variable{Y:Type} {P:Program} {T:Bb} (hT:An P T) {Γ:Nat→Option EN} {o:Oper} {E:Env} {σ:St} {a:Act} {w:World} {k:K Y} {y:Y}
include hT
theorem OL(h:Rel E σ a w){t:TypeId}(ps:Array (Nat×Operand)){s b:Nat}{fs:List V8}{rw:Option Ty}(Cw:T.get t=some ⟨s,b,.st fs,rw⟩){r:Ty}(hr:T.Hc t=some r)
  {cs:List AV} (hb:HB T fs (FO r) (ps.toList.map fun q=>(q.1,σ.ev q.2))=some cs):
  ∃B8,(∀w',(Instr.build t (ps.map fun(i,x)=>(i,a.eval x))).run P w' = .ok (.agg B8) w')∧HF E w σ.bx cs B8.toList:=by
 obtain⟨i,z,h1,h2,h3,_⟩:=row_zero hT hr;obtain⟨fields,hu,hfs,CK⟩:=PY hT Cw;obtain⟨B8,f1,f2⟩:=FY hT (Jb h ps) (arr:=z.cells) (by rw[h3];exact Ea r) hb;refine⟨B8,fun w' => ?_,f2⟩;have hb:P.built t (ps.map fun(i,x)=>(i,a.eval x)).toList=some B8:=by
  unfold Program.built;simp only[h1,hu,h2];have hm:fields.toList.mapM (fun f=>(P.info? f.type).map fun i=>(f.offset,i.size))=some (fields.toList.map fun f=>(f.offset,((P.info? f.type).map (·.size)).getD 0)):=by
   refine KB fun f hf=> ?_
   obtain⟨i',NR,_⟩:=CK f hf;simp[NR]
  simp only[hm];rw[←f1];congr 1;funext n;subst hfs;simp only[List.getElem?_toArray,Wl];cases hn:fields.toList[n]? with
  |none=>simp
  |some f=>
   obtain⟨i',NR,_⟩:=CK f (WT hn);simp[NR]
 exact run_build (P:=P) w' t (ps.map fun(i,x)=>(i,a.eval x)) B8 hb
theorem Mp{hint:V6}(h:Rel E σ a w)(hq:HW hint σ o.op=true)(e:D1 T Γ o σ k=some y):
  ∃v x,XR E w σ.bx x v∧k x σ=some y∧ ∀w',JY (SV hint E w σ.bx) w w'→(execOp a.eval o).run P w' = .ok (.value v) w':=by
 obtain⟨Fs,hB,hS⟩:=h.bx;have st:=hS.st;have wf:∀{s:Sem Value} {v:Value},WF P s→s.run P w= .ok v w→ ∀w',s.run P w' = .ok v w':=fun h1 h2 w' =>h1 w _ w h2 w'
 unfold D1 at e;split at e
 ·rename_i x ho
  exact⟨a.eval x,_,h.ev x,e,fun w' _=>by simp only[execOp,ho,Sem.run_pure]⟩
 ·rename_i x ho
  unfold FZ at e;split at e
  ·rename_i hx
   rw[ho]at hq;simp only[HW,hx]at hq;cases hq
  ·exact⟨a.eval x,_,h.ev x,e,fun w' _=>by simp only[execOp,ho,Sem.run_pure]⟩
 ·rename_i c xa xb ho
  split at e
  case h_2=>cases e
  rename_i p hp;have hc:=h.ev c;rw[hp]at hc;have Iw:=Cp (E:=E) (w:=w) (vw:=σ.bx) hc;refine⟨if p then a.eval xa else a.eval xb,if p then σ.ev xa else σ.ev xb,by cases p<;>simp[h.ev],by cases p<;>simpa[O5]using e,fun w' _=>by simp[execOp,ho,Iw,asBool]⟩
 ·rename_i t ho;rw[ho]at hq;cases hq
 ·rename_i t x ho;rw[ho]at hq;cases hq
 ·rename_i t ps ho
  split at e
  case h_2=>cases e
  rename_i s b fs rw r Cw hr;split at e
  case h_2=>cases e
  rename_i cs OO;obtain⟨B8,h1,h2⟩:=OL hT h ps Cw hr OO;exact⟨.agg B8,.agg cs,⟨B8,rfl,h2⟩,e,fun w' _=>by simp only[execOp,ho,Sem.run_bind,h1 w',Result.andThen_ok,Sem.run_pure]⟩
 ·rename_i t n ps ho;rw[ho]at hq;cases hq
 ·rename_i t x ho
  rw[ho]at hq;split at e
  case h_2=>cases e
  rename_i z hz;have hv:=h.ev x;simp only[HW]at hq
  generalize hX:σ.ev x=X at hq hv hz
  cases X with
  |agg l=>cases hq
  |DY l=>cases hq
  |c ad=>
   obtain⟨bb,oo,u,cell,hp,hc,h2,h3⟩:=K5 hT hB st hz hv;refine⟨u,z,h2,e,fun w' Q_=> ?_⟩;have Pv:w'.heap[bb]? =w.heap[bb]?:=by
    refine Q_ bb ?_
    have Fi:VR E w σ.bx ad (a.eval x):=hv;cases ad with
    |BA b j=>
     simp only[Gt,XY]at hq;simp only[BS]at hc;split at hc
     ·rename_i cs hb
      refine .inr ⟨b,_,hq,hb,?_⟩;have:=Fi.2;rw[hp]at this;simp only[Value.pointer.injEq,WL,Addr.mk.injEq]at this;exact this.1
     ·cases hc
    |BT b p i sz j=>
     simp only[Gt,XY]at hq;simp only[BS]at hc;split at hc
     ·rename_i d q rows hb
      refine .inr ⟨b,_,hq,hb,?_⟩;simp only[VR,hb]at Fi;obtain⟨_,hpp,q1,ys,b2,o2,len,cap,g1,g2,g3,g4⟩:=Fi;rw[hp]at g4;simp only[Value.pointer.injEq,WL,Addr.mk.injEq]at g4;obtain⟨rfl,_⟩:=g4;obtain⟨F,⟨_,Qp⟩,_⟩:=hB.get hb;exact NZ (ER Qp) hpp g1 g3 g2
     ·cases hc
    |CH s r z j=>
     obtain⟨b2,o2,cs,g1,g2,_⟩:=Fi;rw[hp]at g1;simp only[Value.pointer.injEq,WL,Addr.mk.injEq]at g1;obtain⟨rfl,_⟩:=g1
     left
     cases s with
     |true=>exact st _ (by simpa using g2)
     |false=>simpa using g2
    |_=>cases hq
   simp only[execOp,ho,Sem.run_bind,h3 w' Pv,Result.andThen_ok,Sem.run_pure]
 ·rename_i t xa xx ho;rw[ho]at hq;cases hq
 ·rename_i x ho
  have hx:=h.ev x;split at e
  ·rename_i b j hp
   rw[hp]at hx;have OQ:b<σ.bx.length∧a.eval x= .pointer (some ⟨E.BC b,j,none⟩):=hx;exact⟨a.eval x,_,hx,e,fun w' _=>by simp only[execOp,ho,OQ.2,Sem.run_pure]⟩
  ·rename_i b p i sz j hp
   rw[hp]at hx;have PK:Ff (a.eval x)=true:=hx.1;refine⟨a.eval x,_,hx,e,fun w' _=> ?_⟩;unfold Ff at PK;split at PK
   ·rename_i hv
    simp only[execOp,ho,hv,Sem.run_pure]
   ·cases PK
  ·rename_i s r z j hp
   rw[hp]at hx;obtain⟨bb,oo,cs,hv,hrest⟩:=hx;exact⟨a.eval x,.c (.CH s r z j),⟨bb,oo,cs,hv,hrest⟩,e,fun w' _=>by simp only[execOp,ho,hv,Sem.run_pure]⟩
  ·rename_i f BZ hp
   rw[hp]at hx;have OQ:(∀b∈BZ,b<σ.bx.length)∧a.eval x= .func (.func f) #[] (BZ.map fun b=>Value.pointer (some ⟨E.BC b,0,none⟩)).toArray:=hx;exact⟨a.eval x,_,hx,e,fun w' _=>by simp only[execOp,ho,OQ.2,Sem.run_pure]⟩
  ·cases e
 ·rename_i op t x z s ho
  rw[JG,WN]at e;obtain⟨r,e1,e⟩:=e;obtain⟨⟨t',x',rfl⟩,p1,p2⟩:=Q1 e1;obtain⟨r0,val,h1,h2,h3⟩:=G5 hT e1 (h.ev x) (h.ev z) x z;cases h1;refine⟨val,.c (.v t' x'),h3,e,fun w' _=> ?_⟩;obtain⟨r1,val',g1,g2,g3⟩:=G5 hT e1 (Bt (E':=E) (w':=w') (vw':=σ.bx) p1 (h.ev x)) (Bt p2 (h.ev z)) x z;cases g1;have:=Hq h3 g3;subst this;simp only[execOp,ho,Sem.run_bind];simp only[Sem.run_bind]at g2;rw[g2];rfl
 ·rename_i op t x ho
  rw[LW,WN]at e;obtain⟨r,e1,e⟩:=e;obtain⟨⟨t',x',rfl⟩,p1⟩:=Rm e1;obtain⟨r0,val,h1,h2,h3⟩:=Hv (P:=P) e1 (h.ev x);cases h1;refine⟨val,.c (.v t' x'),h3,e,fun w' _=> ?_⟩;obtain⟨r1,val',g1,g2,g3⟩:=Hv (P:=P) e1 (Bt (E':=E) (w':=w') (vw':=σ.bx) p1 (h.ev x));cases g1;have:=Hq h3 g3;subst this;simp only[execOp,ho,Sem.run_bind,g2,Result.andThen_ok,Sem.run_pure]
 ·rename_i s d x ho;rw[ho]at hq;cases hq
 ·rename_i f first BZ ho;rw[ho]at hq;cases hq
 ·rename_i t l c ho;rw[ho]at hq;cases hq
 ·rename_i t x lo hi ho
  obtain⟨z,val,h1,h2,h3⟩:=Ha hT hB st e (h.ev x) (NW h lo) (NW h hi);exact⟨val,z,h3,h1,fun w' _=>by simp only[execOp,ho,Option.map_none,Sem.run_bind,wf (WF.sliceAt _ _ _ _) h2 w',Result.andThen_ok,Sem.run_pure]⟩
 ·rename_i t x f ho
  split at e
  case h_2=>cases e
  rename_i z hz;obtain⟨u,h1,h2⟩:=Hg hT hz (h.ev x);refine⟨u,z,h2,e,fun w' _=> ?_⟩;have hw:(Instr.fieldAt t (a.eval x) f).run P w' = .ok u w':=by
   have hx:=h.ev x;unfold Li at hz;split at hz
   case h_2=>cases hz
   rename_i s b fs _ Cw;split at hz
   case h_2=>cases hz
   rename_i o' u' hf;have key:∀ad,a.eval x= .pointer (some ad)→(Instr.fieldAt t (a.eval x) f).run P w' = .ok u w':=by
    intro ad Ui;rw[Ui]at h1⊢;have r1:=DV hT (w:=w) Cw hf (a:=ad);have r2:=DV hT (w:=w') Cw hf (a:=ad);rw[r1]at h1;cases h1;exact r2
   split at hz
   ·rename_i b' j hp
    rw[hp]at hx;exact key _ hx.2
   ·rename_i b' p i sz j hp
    rw[hp]at hx;have PK:Ff (a.eval x)=true:=hx.1;unfold Ff at PK;split at PK
    ·rename_i hv;exact key _ hv
    ·cases PK
   ·rename_i s r y' j hp
    rw[hp]at hx;obtain⟨bb,oo,cs,hv,_⟩:=hx;exact key _ hv
   ·cases hz
  simp only[execOp,ho,Sem.run_bind,hw,Result.andThen_ok,Sem.run_pure]
 ·rename_i t x f ho
  split at e
  case h_2=>cases e
  rename_i z hz;obtain⟨u,h1,h2⟩:=IL hT hz (h.ev x);exact⟨u,z,h2,e,fun w' _=>by simp only[execOp,ho,Sem.run_bind,wf (WF.field _ _ _) h1 w',Result.andThen_ok,Sem.run_pure]⟩
 ·rename_i t x i ho
  obtain⟨z,val,h1,h2,h3⟩:=HZ hT hB st e (h.ev x) (h.ev i);exact⟨val,z,h3,h1,fun w' _=>by simp only[execOp,ho,Sem.run_bind,wf (WF.indexAt _ _ _) h2 w',Result.andThen_ok,Sem.run_pure]⟩
 ·rename_i t x i ho
  obtain⟨z,val,h1,h2,h3⟩:=Fg hT e (h.ev x) (h.ev i);exact⟨val,z,h3,h1,fun w' _=>by simp only[execOp,ho,Sem.run_bind,wf (WF.index _ _ _) h2 w',Result.andThen_ok,Sem.run_pure]⟩
 ·rename_i x i ho
  split at e
  case h_2=>cases e
  rename_i z hz;obtain⟨u,h1,h2⟩:=GS (P:=P) hz (h.ev x);exact⟨u,z,h2,e,fun w' _=>by simp only[execOp,ho,Sem.run_bind,wf (WF.extract _ _) h1 w',Result.andThen_ok,Sem.run_pure]⟩
 ·rename_i f args KS ho;rw[ho]at hq;cases hq
 ·rename_i args KS ho
  split at e
  ·rename_i s t BM Qv
   obtain⟨x,rfl,hx⟩:=EC BM;have hv:=h.ev x;rw[hx]at hv;have Fi:=D_ (E:=E) (w:=w) (vw:=σ.bx) hv;split at e
   case isFalse=>cases e
   rename_i hs;have hu:=D9 hT hs;refine⟨.int .i64 (s.length:Int),.c (.v (.int .i64) (s.length:Int)),VR.int (E:=E) (vw:=σ.bx) _ _,e,fun w' _=> ?_⟩;have CK:(⟨s.toArray⟩:ByteArray).size=s.length:=by simp[ByteArray.size]
   simp[execOp,ho,resolve,invoke,builtin,Builtin.len_,Qv,Fi,AD hu,goInt,CK]
  ·rename_i z t _ BM Qv
   obtain⟨x,rfl,hx⟩:=EC BM;have hv:=h.ev x;rw[hx]at hv;split at e
   case isFalse=>cases e
   rename_i hs;split at e
   case h_2=>cases e
   rename_i n hn;obtain⟨el,hu⟩:=Hy hT hs;obtain⟨ad,cap,Fi⟩:=IK hB st hn hv;refine⟨.int .i64 (n:Int),.c (.v (.int .i64) (n:Int)),VR.int (E:=E) (vw:=σ.bx) _ _,e,fun w' _=> ?_⟩;simp[execOp,ho,resolve,invoke,builtin,Builtin.len_,Qv,Fi,AD hu,goInt]
  ·cases e
 ·rename_i args KS ho;rw[ho]at hq;cases hq
 ·rename_i args KS ho;rw[ho]at hq;cases hq
 ·rename_i args KS ho
  split at e
  case h_2=>cases e
  rename_i x1 x2 BM;obtain⟨o1,o2,rfl,hx1,hx2⟩:=EA BM;have Fe:=h.ev o1;have FD:=h.ev o2;rw[hx1]at Fe;rw[hx2]at FD;rw[FC,WN]at e;obtain⟨r,e1,e⟩:=e;obtain⟨⟨t',x',rfl⟩,p1,p2⟩:=PL e1;obtain⟨r0,val,h1,h2,h3⟩:=DG (P:=P) (big:=true) e1 Fe FD KS #[] o.type;cases h1;refine⟨val,.c (.v t' x'),h3,e,fun w' _=> ?_⟩;obtain⟨r1,val',g1,g2,g3⟩:=DG (P:=P) (big:=true) e1 (Bt (E':=E) (w':=w') (vw':=σ.bx) p1 Fe) (Bt p2 FD) KS #[] o.type;cases g1;have:=Hq h3 g3;subst this;simp only[Xh]at g2;simp[execOp,ho,resolve,invoke,builtin,g2]
 ·rename_i args KS ho
  split at e
  case h_2=>cases e
  rename_i x1 x2 BM;obtain⟨o1,o2,rfl,hx1,hx2⟩:=EA BM;have Fe:=h.ev o1;have FD:=h.ev o2;rw[hx1]at Fe;rw[hx2]at FD;rw[FC,WN]at e;obtain⟨r,e1,e⟩:=e;obtain⟨⟨t',x',rfl⟩,p1,p2⟩:=PL e1;obtain⟨r0,val,h1,h2,h3⟩:=DG (P:=P) (big:=false) e1 Fe FD KS #[] o.type;cases h1;refine⟨val,.c (.v t' x'),h3,e,fun w' _=> ?_⟩;obtain⟨r1,val',g1,g2,g3⟩:=DG (P:=P) (big:=false) e1 (Bt (E':=E) (w':=w') (vw':=σ.bx) p1 Fe) (Bt p2 FD) KS #[] o.type;cases g1;have:=Hq h3 g3;subst this;simp only[W0,XS]at g2;simp[execOp,ho,resolve,invoke,builtin,g2]
 ·cases e
end
end Go.Fw
end
section
namespace Go.Fw
section
variable{P:Program} {md:Region.Mode} {ops:Array Oper} {Q:Exit→Act→World→Prop}
theorem JY.refl(K:Nat→Prop)(w:World):JY K w w:=fun _ _=>rfl
def Ls(P:Program)(md:Region.Mode)(ops:Array Oper)(Q:Exit→Act→World→Prop):Nat→Array Bool→(Nat→Prop)→Act→World→Prop
 |0,AZ,_,a,w=>Region.ready md ops AZ=[]∧Q .normal a w
 |fuel+1,AZ,K,a,w=>(Region.ready md ops AZ=[]→Q .normal a w)∧
  ∀i∈Region.ready md ops AZ,wpOp P ops Q i (fun a' w' => ∃K':Nat→Prop,(∀c,K c→K' c)∧JY K w w'∧Ls P md ops Q fuel (AZ.setIfInBounds i true) K' a' w') a w
theorem Kp:∀(fuel:Nat) (AZ:Array Bool) (K:Nat→Prop) (a:Act) (w:World),Ls P md ops Q fuel AZ K a w→wpAny P md ops Q fuel AZ a w
 |0,_,_,_,_,h=>h
 |fuel+1,_,_,_,_,h=>⟨h.1,fun i hi=>wpOp_mono (fun a' w' ⟨K',_,_,h'⟩=>Kp fuel _ K' a' w' h') (h.2 i hi)⟩
theorem YieldsIf.mono{S S':World→Prop}{o:Oper}{v:Value}{a:Act}(h:YieldsIf P ops S o v a)(hs:∀w,S' w→S w):YieldsIf P ops S' o v a:=
 h.imp (fun⟨h1,h2⟩=>⟨h1,fun w hw=>h2 w (hs w hw)⟩) id
theorem Ib{i:Nat}{oi:Oper}{v:Value}(hi:ops[i]? =some oi)(On:∀(j:Nat) (o:Oper) cs b,ops[j]? =some o→o.op≠ .select cs b)(hQ:∀c a w,¬Q (.panic c) a w):
  ∀(fuel:Nat) (AZ:Array Bool) (K:Nat→Prop) (a:Act) (w:World),
   (∀j oj,ops[j]? =some oj→j≠i→AZ.getD j true=false→(∀e∈oj.after,Region.binds md e=true→e.on≠i)→oi.apart ops oj=true)→
   i∈Region.ready md ops AZ→YieldsIf P ops (JY K w) oi v a→Ls P md ops Q fuel (AZ.setIfInBounds i true) K (a.put oi.dst v) w→Ls P md ops Q (fuel+1) AZ K a w:=by
 intro fuel
 induction fuel with
 |zero=>
  intro AZ K a w _ hr hy H;refine⟨fun h=>(by rw[h]at hr;cases hr),fun j hj=> ?_⟩;by_cases hji:j=i
  ·subst hji;exact hy.wpOp hi (JY.refl K w) ⟨K,fun _ h=>h,JY.refl K w,H⟩
  ·have:=ready_mono hj hji
   rw[H.1]at this;cases this
 |succ fuel ih=>
  intro AZ K a w Cr hr hy H;refine⟨fun h=>(by rw[h]at hr;cases hr),fun j hj=> ?_⟩;by_cases hji:j=i
  ·subst hji;exact hy.wpOp hi (JY.refl K w) ⟨K,fun _ h=>h,JY.refl K w,H⟩
  ·have h1:=H.2 j (ready_mono hj hji)
   obtain⟨hjun,oj,hoj,EM⟩:=mem_ready.1 hj;have Ph:∀e∈oj.after,Region.binds md e=true→e.on≠i:=fun e he hb heq=>by
    have h1:=EM e he hb;have h0:=(mem_ready.1 hr).1;rw[heq]at h1;rcases Nat.lt_or_ge i AZ.size with h'|h'
    ·simp[h']at h0 h1;rw[h0]at h1;cases h1
    ·simp[Array.getElem?_eq_none h']at h1
   have h2:=wpOp_putIf hoj (Cr j oj hoj hji hjun Ph) (fun cs b=>On i oi cs b hi) (fun cs b=>On j oj cs b hoj) (fun c a w h=>absurd h (hQ c _ w)) hy h1;have QM:∀k ok,ops[k]? =some ok→k≠i→(AZ.setIfInBounds j true).getD k true=false→
     (∀e∈ok.after,Region.binds md e=true→e.on≠i)→oi.apart ops ok=true:=fun k ok hk U_ UG Sq=>by
    refine Cr k ok hk U_ ?_ Sq
    by_cases hjk:j=k
    ·subst hjk;exact hjun
    ·rw[getD_set_ne true hjk]at UG;exact UG
   refine wpOp_mono (fun a' w' h3=> ?_) h2;obtain⟨hy',K',hK,hs,ht⟩:=h3;refine⟨K',hK,hs,ih (AZ.setIfInBounds j true) K' a' w' QM (ready_mono hr (Ne.symm hji)) (YieldsIf.mono hy' fun Q4 Sr c hc=>(Sr c (hK c hc)).trans (hs c hc)) ?_⟩;rw[Array.setIfInBounds_comm _ _ hji];exact ht
end
theorem IM{Y:Type}{f:Nat→List Bool→Option Y}{y:Y}:∀{rs:V6},(∀ω,LY f rs ω=some y)→ ∀i∈rs,∀ω,f i ω=some y
 |[i],h,j,hj,ω=>by
  simp at hj;subst hj;exact h ω
 |i::j::r,h,k,hk,ω=>by
  rcases Wy.1 hk with rfl|hk
  ·exact h (true::ω)
  ·exact IM (rs:=j::r) (fun ω=>h (false::ω)) k hk ω
theorem MJ{σ:St}{t:Nat}{b:Bool}(e:σ.tm[t]? =some (.c (.v .bool b))):σ.put (some t) (.c (.v .bool b))=σ:=by
 simp only[St.put];obtain⟨tm,bx⟩:=σ;simp only[St.mk.injEq,W3];obtain⟨CA,he⟩:=WJ.1 e;apply XL;intro i;rw[W_];split
 ·rename_i e1;subst e1;exact e.symm
 ·rfl
theorem Kl{Y I:Type}[Nonempty I]{C:KH}{ops:Array Oper}{o:Oper}{kn:I→St→Option Y}{σ:St}{y:Y}{E:Env}{a:Act}{w:World}(h:Rel E σ a w)
  (e:∀ω,NU C ops o (kn ω) σ=some y):
  (Region.wanted o (yielded ops a.tmps)=true∧ ∀ω,(D1 C.T C.Γ o σ fun x σ' =>kn ω (σ'.put o.dst x))=some y)∨
  (Region.wanted o (yielded ops a.tmps)=false∧ ∀ω,kn ω (σ.put o.dst (.DY []))=some y):=by
 unfold NU at e;cases hg:o.guard with
 |none=>
  simp only[hg]at e;exact .inl ⟨by simp[Region.wanted,hg],e⟩
 |some q=>
  obtain⟨j,want⟩:=q;simp only[hg]at e;cases ht:(ops[j]?).bind (·.dst)with
  |none=>
   simp only[ht]at e;obtain⟨i0⟩:= ‹Nonempty I›;cases e i0
  |some t=>
   simp only[ht]at e;obtain⟨i0⟩:= ‹Nonempty I›;have e0:=e i0;split at e0
   ·rename_i b hb
    simp only[hb]at e;obtain⟨v,hv,hx⟩:=h.tmp hb;have R0:=Cp (E:=E) (w:=w) (vw:=σ.bx) hx;subst R0;have hy:yielded ops a.tmps j=some b:=by rw[FR ht hv];rfl
    have hk:=MJ hb;cases b with
    |true=>
     simp only[Xa,tt,hk]at e;cases want with
     |true=>exact .inl ⟨by simp[Region.wanted,hg,hy],fun ω=>by simpa using e ω⟩
     |false=>exact .inr ⟨by simp[Region.wanted,hg,hy],fun ω=>by simpa using e ω⟩
    |false=>
     simp only[XD,ff,hk]at e;cases want with
     |true=>exact .inr ⟨by simp[Region.wanted,hg,hy],fun ω=>by simpa using e ω⟩
     |false=>exact .inl ⟨by simp[Region.wanted,hg,hy],fun ω=>by simpa using e ω⟩
   ·rename_i hb
    simp only[hb]at e;obtain⟨v,hv,vs,rfl,hx⟩:=h.tmp hb;have hy:yielded ops a.tmps j=none:=by rw[FR ht hv];rfl
    exact .inr ⟨by simp[Region.wanted,hg,hy],e⟩
   ·cases e0
theorem O1{ops:Array Oper}{o:Oper}{σ:St}{E:Env}{a:Act}{w:World}(h:Rel E σ a w)(e:idle ops σ o=true):Region.wanted o (yielded ops a.tmps)=false:=by
 unfold idle at e;cases hg:o.guard with
 |none=>simp[hg]at e
 |some q=>
  obtain⟨j,want⟩:=q;simp only[hg]at e;cases ht:(ops[j]?).bind (·.dst)with
  |none=>simp[ht]at e
  |some t=>
   simp only[ht]at e;split at e
   ·rename_i b hb
    obtain⟨v,hv,hx⟩:=h.tmp hb;have R0:=Cp (E:=E) (w:=w) (vw:=σ.bx) hx;subst R0;have hy:yielded ops a.tmps j=some b:=by rw[FR ht hv];rfl
    cases b<;>cases want<;>simp_all[Region.wanted]
   ·rename_i hb
    obtain⟨v,hv,vs,rfl,hx⟩:=h.tmp hb;have hy:yielded ops a.tmps j=none:=by rw[FR ht hv];rfl
    simp[Region.wanted,hg,hy]
   ·cases e
theorem Ky{Y I:Type}[Nonempty I]{C:KH}{ops:Array Oper}{i:Nat}{o:Oper}(ho:ops[i]? =some o){kn:I→St→Option Y}{σ:St}{y:Y}{E:Env}{a:Act}{w:World}(h:Rel E σ a w)
  (e:∀ω,NT C ops i (kn ω) σ=some y):
  (Region.wanted o (yielded ops a.tmps)=true∧ ∀ω,(D1 C.T C.Γ o σ fun x σ' =>kn ω (σ'.put o.dst x))=some y)∨
  (Region.wanted o (yielded ops a.tmps)=false∧ ∀ω,kn ω (σ.put o.dst (.DY []))=some y):=
 Kl h fun ω=>by
  have:=e ω;unfold NT at this;simpa only[ho]using this
theorem Oa{hint t:V6}{E E':Env}{bx Cd:List Bx}{w w':World}(h:Cn t E bx w E' Cd w')(ht:∀b∈t,b∉hint)(ha:∀b∈hint,Hr Cd b=false):
  (∀c,SV hint E w bx c→SV hint E' w' Cd c)∧JY (SV hint E w bx) w w':=by
 have key:∀n B,n∈hint→bx[n]? =some B→ ∃B',Cd[n]? =some B'∧Db B B'∧ ∀c,MX E w n B c→w'.heap[c]? =w.heap[c]?:=by
  intro n B hn hB;have hd:=ha n hn;unfold Hr at hd;split at hd
  ·cases hd
  ·rename_i B' I5 Cs
   obtain⟨h1,h2⟩:=h.frame n B B' (fun hm=>ht n hm hn) hB Cs I5;exact⟨B',Cs,h1,h2⟩
  ·cases hd
 refine⟨fun c hc=> ?_,fun c hc=> ?_⟩
 ·rcases hc with hc|⟨n,B,hn,hB,hc⟩
  ·exact .inl (h.base.T c hc)
  ·obtain⟨B',Cs,hs,hh⟩:=key n B hn hB
   have hid:=h.ids n (WJ.1 hB).1;refine .inr ⟨n,B',hn,Cs,?_⟩;cases B with
   |mem cs=>
    cases B' with
    |mem Fl=>simp only[MX]at hc⊢;rw[hid.1];exact hc
    |sl _ _ _=>exact hs.elim
    |dead=>exact hs.elim
   |sl d r rows=>
    cases B' with
    |mem Fl=>exact hs.elim
    |dead=>exact hs.elim
    |sl d' r' rows' =>
     simp only[Db,WU]at hs;obtain⟨rfl,hs⟩:=hs;obtain rfl:=Wi hs;simp only[MX]at hc⊢;rw[hid.2];exact JA (fun d hd=>hh d hd) hc
   |dead=>exact hc.elim
 ·rcases hc with hc|⟨n,B,hn,hB,hc⟩
  ·exact h.base.heap c hc
  ·obtain⟨B',_,_,hh⟩:=key n B hn hB
   exact hh c hc
theorem Ej{Y:Type}{C:KH}{hint:V6}{ops:Array Oper}{kn:List Bool→St→Option Y}{fuel:Nat}{AZ:Array Bool}{ω:List Bool}{σ:St}{y:Y}(e:DM C hint ops kn fuel AZ ω σ=some y):∀b∈hint,Hr σ.bx b=false:=by
 unfold DM at e;split at e
 ·rename_i h
  intro b hb;simpa using(W9.1 h) b hb
 ·cases e
theorem Lc{Y:Type}{P:Program}{C:KH}(hT:An P C.T)(hΓ:G2 P C.Γ){E0:Env}{w0:World}{N nb:Nat}{hint:V6}{ops:Array Oper}{kn:List Bool→St→Option Y}{y:Y}{Q:Exit→Act→World→Prop}
  (On:Region.noSelect ops=true) (hP:∀c a w,¬Q (.panic c) a w) (hk:∀E σ a w,Ok E0 w0 N nb E σ a w→(∀ω,kn ω σ=some y)→Q .normal a w):
  ∀(fuel:Nat) {AZ:Array Bool} {E:Env} {σ:St} {a:Act} {w:World},Ok E0 w0 N nb E σ a w→(∀ω,DM C hint ops kn fuel AZ ω σ=some y)→Ls P .any ops Q fuel AZ (SV hint E w σ.bx) a w:=by
 intro fuel
 induction fuel with
 |zero=>
  intro AZ E σ a w h e;have e1:=fun ω=>e ω
  unfold DM at e1;have Oi:=Ej (e []);have Qh:(hint.all fun b=> !Hr σ.bx b)=true:=W9.2 fun b hb=>by simp[Oi b hb]
  simp only[Qh,Xh]at e1;cases hr:Region.ready .any ops AZ with
  |nil=>
   simp only[hr]at e1;exact⟨hr,hk E σ a w h e1⟩
  |cons i rs=>
   simp only[hr]at e1;cases e1 []
 |succ fuel ih=>
  intro AZ E σ a w h e;have e1:=fun ω=>e ω
  unfold DM at e1;have Oi:=Ej (e []);have Qh:(hint.all fun b=> !Hr σ.bx b)=true:=W9.2 fun b hb=>by simp[Oi b hb]
  simp only[Qh,Xh]at e1;cases hr:Region.ready .any ops AZ with
  |nil=>
   simp only[hr]at e1;exact⟨fun _=>hk E σ a w h e1,by rw[hr];simp⟩
  |cons i0 rs=>
   simp only[hr]at e1;cases hf:(i0::rs).find? (JX hint ops AZ σ)with
   |some i=>
    simp only[hf]at e1;have hi:=List.mem_of_find?_eq_some hf
    have ht:=List.find?_some hf
    unfold JX at ht;cases ho:ops[i]? with
    |none=>rw[ho]at ht;cases ht
    |some o=>
     simp only[ho,WY]at ht;have Cr:=Region.free_spec ho ht.2;rw[←hr]at hi;have hy:=Ky (I:=List Bool) (kn:=fun ω σ' =>DM C hint ops kn fuel (AZ.setIfInBounds i true) ω σ') ho h.rel e1;rcases hy with⟨hw,hx⟩|⟨hw,hx⟩
     ·have hq:HW hint σ o.op=true:=by
       rcases Xp _ _▸ht.1 with hq|hi
       ·exact hq
       ·rw[O1 h.rel hi]at hw
        cases hw
      obtain⟨x,σ',hx0,hx1⟩:=H_ hx;obtain⟨v,x',q1,q2,q3⟩:=Mp hT h.rel hq hx0;simp only[k0,WL,Wn]at q2;obtain⟨rfl,rfl⟩:=q2;have E6:=ih (h.put o.dst q1) hx1;have HH:(σ.put o.dst x').bx=σ.bx:=by cases o.dst<;>rfl
      rw[HH]at E6;exact Ib ho (Region.noSelect_spec On) hP fuel AZ _ a w Cr hi (.inl ⟨hw,q3⟩) E6
     ·have E6:=ih (h.put o.dst JL) hx
      have HH:(σ.put o.dst (.DY [])).bx=σ.bx:=by cases o.dst<;>rfl
      rw[HH]at E6;exact Ib ho (Region.noSelect_spec On) hP fuel AZ _ a w Cr hi (.inr ⟨hw,rfl⟩) E6
   |none=>
    simp only[hf]at e1;have EM:=IM e1;refine⟨fun h0=>(by rw[h0]at hr;cases hr),fun i hi=> ?_⟩;rw[hr]at hi;have hx:=EM i hi;cases ho:ops[i]? with
    |none=>
     simp only[ho]at hx;cases hx []
    |some o=>
     simp only[ho]at hx;have UW:(BK C.Γ σ o.op).all (fun b=> !hint.contains b)=true:=by
      have:=hx [];split at this
      ·rename_i hh;exact hh
      ·cases this
     simp only[UW,Xh]at hx;have U3:∀b∈BK C.Γ σ o.op,b∉hint:=fun b hb hh=>by
      have:=(W9.1 UW) b hb;simp[hh]at this
     unfold wpOp;simp only[ho];rcases Ky (I:=List Bool) (kn:=fun ω σ' =>DM C hint ops kn fuel (AZ.setIfInBounds i true) ω σ') ho h.rel hx with⟨hw,hx⟩|⟨hw,hx⟩
     ·rw[Wt hw]
      obtain⟨x,σ',hx0,hx1⟩:=H_ hx;refine .inl (NL hT hΓ h.rel hx0 fun v w' E' x' σ'' g1 g2 g3 g4 g5=> ?_);simp only[k0,WL,Wn]at g5;obtain⟨rfl,rfl⟩:=g5;have HH:(σ''.put o.dst x').bx=σ''.bx:=by cases o.dst<;>rfl
      have Rq:=Ej (hx1 []);rw[HH]at Rq;obtain⟨k1,k2⟩:=Oa g3 U3 Rq;have E6:=ih ((h.next g1 g3 g4).put o.dst g2) hx1;rw[HH]at E6;exact⟨_,k1,k2,E6⟩
     ·rw[Wr (by simp[hw])]
      have E6:=ih (h.put o.dst JL) hx;have HH:(σ.put o.dst (.DY [])).bx=σ.bx:=by cases o.dst<;>rfl
      rw[HH]at E6;exact⟨_,fun _ h=>h,JY.refl _ _,E6⟩
end Go.Fw
end
section
namespace Go.Fw
theorem Rel.heap{E:Env}{σ:St}{a:Act}{w w':World}(h:Rel E σ a w)(hw:w'.heap=w.heap):Rel E σ a w':=by
 have keep:C8 E w σ.bx E w' σ.bx:=by
  refine⟨Wu _,fun _ _=>rfl,fun _ h=>h,fun _ h=>h,h.bx.st,fun _ _=>by rw[hw],fun b d r rows hb e=>⟨d,rows,e,fun p hp q ys hg=>⟨hp,⟨ys,hg,rfl⟩,fun hh he=> ?_⟩⟩⟩;obtain⟨Fs,⟨f1,f2⟩,_⟩:=h.bx;have hF:Fs[b]? =some (Fs[b]'(by have:=(WJ.1 e).1;omega)):=WK _;exact LS (f2 b _ _ e hF).2 (fun _ _=>by rw[hw]) (fun _ _=>by rw[hw]) hp hg he
 exact⟨h.CC,h.tm.imp fun _ _ hx=>CN keep hx,h.bx.turn (fun _ _ hv=>Av keep hv) (fun _ h=>h) (fun _ _=>rfl) (fun _ _=>rfl) (fun _ _ _=>by rw[hw]) fun F hF=>⟨hF.nodup,hF.free,fun c hc=>by rw[hw];exact hF.lt c hc,hF.st,fun c hc=>by rw[hw];exact hF.GD c hc,hF.Lo.mono (fun _ h=>h) (fun _ _=>by rw[hw])⟩⟩
theorem Ok.drawn{E0 E:Env}{w0 w:World}{N nb:Nat}{σ:St}{a:Act}(h:Ok E0 w0 N nb E σ a w)(n:Nat):Ok E0 w0 N nb E σ a { w with drawn:=n }:=
 ⟨h.rel.heap rfl,⟨h.base.T,h.base.S,h.base.Pt,h.base.NQ,h.base.heap,h.base.os,h.base.tape,h.base.output,h.base.size⟩,h.tm,h.KI,h.ids⟩
theorem IF{Y I:Type}[Nonempty I]{P:Program}{C:KH}(hT:An P C.T)(hΓ:G2 P C.Γ){E0:Env}{w0:World}{N nb:Nat}{all:Array Oper}{kn:I→St→Option Y}{y:Y}{Q:Exit→Act→World→Prop}
  (hk:∀E σ a w,Ok E0 w0 N nb E σ a w→(∀ω,kn ω σ=some y)→Q .normal a w):∀{l:List Oper} {E:Env} {σ:St} {a:Act} {w:World},Ok E0 w0 N nb E σ a w→(∀ω,LR C all l (kn ω) σ=some y)→wpList P all Q l a w
 |[],E,σ,a,w,h,e=>hk E σ a w h e
 |o::rest,E,σ,a,w,h,e=>by
  unfold wpList;rcases Kl (kn:=fun ω σ=>LR C all rest (kn ω) σ) h.rel e with⟨hw,hx⟩|⟨hw,hx⟩
  ·rw[Wt hw]
   obtain⟨x,σ',hx0,hx1⟩:=H_ hx;refine .inl (NL hT hΓ h.rel hx0 fun v w' E' x' σ'' g1 g2 g3 g4 g5=> ?_);simp only[k0,WL,Wn]at g5;obtain⟨rfl,rfl⟩:=g5;exact IF hT hΓ hk ((h.next g1 g3 g4).put o.dst g2) hx1
  ·rw[Wr (by simp[hw])]
   exact IF hT hΓ hk (h.put o.dst JL) hx
def CM(P:Program)(body:Code)(Q:Exit→Act→World→Prop)(a:Act)(w:World):Prop:=
 ∀(b:Frame) (k:List Item) (cs:List Frame),∃e a' w',Q e a' w'∧Arrives P (lone (b.at a (.code body:: .inLoop body::k)) cs w) b k cs e a' w'
theorem CM.wp{P:Program}{body:Code}{Q:Exit→Act→World→Prop}{a:Act}{w:World}(h:CM P body Q a w):(Code.loop body).wp P Q a w:=fun b k cs=>by
 obtain⟨e,a',w',hq,G3⟩:=h b k cs;exact⟨e,a',w',hq,.of_steps (.one step_loop) G3⟩
theorem CM.P0{P:Program}{body:Code}{Q:Exit→Act→World→Prop}{a:Act}{w:World}(h:body.wp P (Exit.then (CM P body Q) Q) a w):CM P body Q a w:=fun b k cs=>by
 obtain⟨e,a₁,w₁,hq,G3⟩:=h b (.inLoop body::k) cs;cases e with
 |normal=>
  obtain⟨e₂,a₂,w₂,hq₂,harr₂⟩:=hq b k cs;exact⟨e₂,a₂,w₂,hq₂,.of_steps (Steps.trans G3 (.one step_inLoop)) harr₂⟩
 |exit id=>exact⟨_,a₁,w₁,hq,.pass (x:= .inLoop body) rfl (fun _ _=> .inl (by simp)) G3⟩
 |goto l=>exact⟨_,a₁,w₁,hq,.pass (x:= .inLoop body) rfl (fun _ _=> .inl (by simp)) G3⟩
 |ret=>exact⟨_,a₁,w₁,hq,.pass (x:= .inLoop body) rfl (fun _ _=> .inl (by simp)) G3⟩
 |panic ch=>exact⟨_,a₁,w₁,hq,.pass (x:= .inLoop body) rfl (fun _ _=> .inl (by simp)) G3⟩
 |outgrown=>exact⟨_,a₁,w₁,hq,.pass (x:= .inLoop body) rfl (fun _ _=> .inl (by simp)) G3⟩
abbrev IG:=Exit→Act→World→Prop
def At(P:Program):Code→IG→Nat→Code→IG→Prop
 | .seq a b,Q,ℓ,body,Q' =>At P a (Exit.then (b.wp P Q) Q) ℓ body Q'∨At P b Q ℓ body Q'
 | .cond _ a b,Q,ℓ,body,Q' =>At P a Q ℓ body Q'∨At P b Q ℓ body Q'
 | .block id c,Q,ℓ,body,Q' =>At P c (Exit.inBlock id Q) ℓ body Q'
 | .loop c,Q,ℓ,body,Q' =>(first c= ℓ ∧body=c∧Q' =Q)∨At P c (Exit.then (CM P c Q) Q) ℓ body Q'
 |_,_,_,_,_=>False
def F8(Q:IG):Prop:= ∀c a w,¬Q (.panic c) a w
theorem F8.then{Q:IG}(h:F8 Q)(n:Act→World→Prop):F8 (Exit.then n Q):=fun c a w hq=>h c a w hq
theorem F8.inBlock{Q:IG}(h:F8 Q)(id:Nat):F8 (Exit.inBlock id Q):=fun c a w hq=>h c a w hq
section
variable{Y:Type} {P:Program} {C:KH} (hT:An P C.T) (hΓ:G2 P C.Γ) (hm:P.follows .mixedOrders=true) {E0:Env} {w0:World} {N nb:Nat} {y:Y} {J:Nat→St→Option Y}
structure Good (E0:Env) (w0:World) (N nb:Nat) (y:Y) (kn:KN Y) (kx:Nat→KN Y) (kr:KN Y) (Q:IG):Prop where
 n:∀E σ a w,Ok E0 w0 N nb E σ a w→(∀ω,kn ω σ=some y)→Q .normal a w
 x:∀id E σ a w,Ok E0 w0 N nb E σ a w→(∀ω,kx id ω σ=some y)→Q (.exit id) a w
 r:∀E σ a w,Ok E0 w0 N nb E σ a w→(∀ω,kr ω σ=some y)→Q .ret a w
def QV(P:Program)(E0:Env)(w0:World)(N nb:Nat)(y:Y)(J:Nat→St→Option Y)(cd:Code)(Q:IG):Prop:=
 ∀ ℓ body Q',At P cd Q ℓ body Q'→ ∀E σ a w,Ok E0 w0 N nb E σ a w→J ℓ σ=some y→CM P body Q' a w
include hT hΓ hm in
theorem Md:∀{cd:Code} {kn:KN Y} {kx:Nat→KN Y} {kr:KN Y} {Q:IG} {E:Env} {σ:St} {a:Act} {w:World},F8 Q→Good E0 w0 N nb y kn kx kr Q→QV P E0 w0 N nb y J cd Q→Ok E0 w0 N nb E σ a w→
  (∀ω,run C J cd kn kx kr ω σ=some y)→cd.wp P Q a w:=by
 intro cd
 induction cd with
 |skip=>intro kn kx kr Q E σ a w hp hg hj h e;exact wp_skip (hg.n E σ a w h e)
 |region id ops draw=>
  intro kn kx kr Q E σ a w hp hg hj h e;simp only[run]at e;cases draw with
  |false=>
   simp only[W0,XS]at e;exact wp_region_list (IF hT hΓ hg.n h e)
  |true=>
   simp only[Xh]at e;have hs:Region.noSelect ops=true:=by
    have:=e [];split at this
    ·rename_i hh;exact hh
    ·cases this
   simp only[hs,Xh]at e;exact wp_region_any hm (Kp _ _ _ _ _ (Lc hT hΓ hs hp hg.n _ (h.drawn _) e))
 |seq x z ihx ihz=>
  intro kn kx kr Q E σ a w hp hg hj h e;simp only[run]at e;refine wp_seq (ihx (hp.then _) ⟨fun E σ a w h e=>ihz hp hg (fun ℓ body Q' Co=>hj ℓ body Q' (.inr Co)) h e,fun id E σ a w h e=>hg.x id E σ a w h e,hg.r⟩ (fun ℓ body Q' Co=>hj ℓ body Q' (.inl Co)) h e)
 |cond c x z ihx ihz=>
  intro kn kx kr Q E σ a w hp hg hj h e;cases c with
  |tmp t=>
   simp only[run]at e;have e0:=e [];split at e0
   ·rename_i b hb
    simp only[hb]at e;obtain⟨v,hv,hx⟩:=h.rel.tmp hb;have R0:=Cp (E:=E) (w:=w) (vw:=σ.bx) hx;subst R0;have Sh:a.eval (.tmp t)= .bool b:=by simp[Act.eval,XE,hv]
    have hk:=MJ hb;cases b with
    |true=>
     simp only[Xa,tt,hk]at e;exact wp_cond_true Sh (ihx hp hg (fun ℓ body Q' Co=>hj ℓ body Q' (.inl Co)) h e)
    |false=>
     simp only[XD,ff,hk]at e;exact wp_cond_false Sh (ihz hp hg (fun ℓ body Q' Co=>hj ℓ body Q' (.inr Co)) h e)
   ·cases e0
  |_=>cases e []
 |block id c ih=>
  intro kn kx kr Q E σ a w hp hg hj h e;simp only[run]at e;refine wp_block (ih (hp.inBlock id) ⟨hg.n,fun j E σ a w h e=> ?_,hg.r⟩ (fun ℓ body Q' Co=>hj ℓ body Q' Co) h e);simp only[Exit.inBlock];split
  ·rename_i hid
   simp only[hid,Xh]at e;exact hg.n E σ a w h e
  ·rename_i hid
   simp only[hid,XS]at e;exact hg.x j E σ a w h e
 |loop body ih=>
  intro kn kx kr Q E σ a w hp hg hj h e;simp only[run]at e;exact CM.wp (hj (first body) body Q (.inl ⟨rfl,rfl,rfl⟩) E σ a w h (e []))
 |exit id=>intro kn kx kr Q E σ a w hp hg hj h e;exact wp_exit (hg.x id E σ a w h e)
 |ret=>intro kn kx kr Q E σ a w hp hg hj h e;exact wp_ret (hg.r E σ a w h e)
 |_=>intro kn kx kr Q E σ a w hp hg hj h e;cases e []
end
end Go.Fw
end
section
namespace Go.Fw
def labels:Code→List Nat
 | .seq a b=>labels a++labels b
 | .cond _ a b=>labels a++labels b
 | .block _ c=>labels c
 | .loop c=>first c::labels c
 |_=>[]
theorem At.label{P:Program}:∀{cd:Code} {Q:IG} {ℓ :Nat} {body:Code} {Q':IG},At P cd Q ℓ body Q'→ ℓ ∈labels cd
 | .seq a b,Q,ℓ,body,Q',h=>by
  simp only[labels,Wc];exact h.imp At.label At.label
 | .cond _ a b,Q,ℓ,body,Q',h=>by
  simp only[labels,Wc];exact h.imp At.label At.label
 | .block _ c,Q,ℓ,body,Q',h=>At.label (cd:=c) h
 | .loop c,Q,ℓ,body,Q',h=>by
  simp only[labels,Wy];exact h.imp (fun h=>h.1.symm) At.label
section
variable{Y:Type} {P:Program} {C:KH} (hT:An P C.T) (hΓ:G2 P C.Γ) (hm:P.follows .mixedOrders=true) {E0:Env} {w0:World} {N nb:Nat} {y:Y} {J:Nat→St→Option Y}
theorem Cj{ℓ :Nat}:∀{cd:Code} {kn:KN Y} {kx:Nat→KN Y} {kr:KN Y},ℓ ∉labels cd→find C J ℓ cd kn kx kr=none
 | .seq a b,kn,kx,kr,h=>by
  simp only[labels,Wc,not_or]at h;simp only[find];rw[Cj h.1];exact Cj h.2
 | .cond _ a b,kn,kx,kr,h=>by
  simp only[labels,Wc,not_or]at h;simp only[find];rw[Cj h.1];exact Cj h.2
 | .block _ c,kn,kx,kr,h=>by simp only[find];exact Cj (cd:=c) h
 | .loop c,kn,kx,kr,h=>by
  simp only[labels,Wy,not_or]at h;simp only[find];rw[Wr (fun e=>h.1 e.symm)];exact Cj h.2
 | .skip,_,_,_,_=>rfl
 | .region _ _ _,_,_,_,_=>rfl
 | .rangeFunc _ _ _ _,_,_,_,_=>rfl
 | .exit _,_,_,_,_=>rfl
 | .scope _,_,_,_,_=>rfl
 | .label _,_,_,_,_=>rfl
 | .goto _,_,_,_,_=>rfl
 | .ret,_,_,_,_=>rfl
 | .refuse _,_,_,_,_=>rfl
include hT hΓ hm in
theorem Pk{ℓ :Nat}:∀{cd:Code} {kn:KN Y} {kx:Nat→KN Y} {kr:KN Y} {Q:IG} {body:Code} {Q':IG},(labels cd).Nodup→F8 Q→Good E0 w0 N nb y kn kx kr Q→QV P E0 w0 N nb y J cd Q→At P cd Q ℓ body Q'→
  ∃kn' kx' kr',find C J ℓ cd kn kx kr=some (fun ω σ=>run C J body (fun _ σ=>J ℓ σ) kx' kr' ω σ)∧Good E0 w0 N nb y kn' kx' kr' Q'∧F8 Q'∧QV P E0 w0 N nb y J body (Exit.then (CM P body Q') Q'):=by
 intro cd
 induction cd with
 |seq a b iha ihb=>
  intro kn kx kr Q body Q' hn hp hg hj Co;simp only[labels,WS]at hn;obtain⟨n1,n2,n3⟩:=hn;have VP:QV P E0 w0 N nb y J a (Exit.then (b.wp P Q) Q):=fun ℓ body Q' Co=>hj ℓ body Q' (.inl Co)
  have UC:QV P E0 w0 N nb y J b Q:=fun ℓ body Q' Co=>hj ℓ body Q' (.inr Co)
  simp only[find];rcases Co with Co|Co
  ·obtain⟨kn',kx',kr',h1,h2⟩:=iha n1 (hp.then _) (kn:=fun ω σ=>run C J b kn kx kr ω σ) (kx:=kx) (kr:=kr)
    ⟨fun E σ a w h e=>Md hT hΓ hm hp hg UC h e,fun id E σ a w h e=>hg.x id E σ a w h e,hg.r⟩ VP Co
   exact⟨kn',kx',kr',by rw[h1],h2⟩
  ·have: ℓ ∉labels a:=fun h=>n3 ℓ h ℓ Co.label rfl
   rw[Cj this];exact ihb n2 hp hg UC Co
 |cond c a b iha ihb=>
  intro kn kx kr Q body Q' hn hp hg hj Co;simp only[labels,WS]at hn;obtain⟨n1,n2,n3⟩:=hn;simp only[find];rcases Co with Co|Co
  ·obtain⟨kn',kx',kr',h1,h2⟩:=iha n1 hp hg (fun ℓ body Q' Co=>hj ℓ body Q' (.inl Co)) Co
   exact⟨kn',kx',kr',by rw[h1],h2⟩
  ·have: ℓ ∉labels a:=fun h=>n3 ℓ h ℓ Co.label rfl
   rw[Cj this];exact ihb n2 hp hg (fun ℓ body Q' Co=>hj ℓ body Q' (.inr Co)) Co
 |block id c ih=>
  intro kn kx kr Q body Q' hn hp hg hj Co;simp only[find];refine ih hn (hp.inBlock id) ⟨hg.n,fun j E σ a w h e=> ?_,hg.r⟩ (fun ℓ body Q' Co=>hj ℓ body Q' Co) Co;simp only[Exit.inBlock];split
  ·rename_i hid
   simp only[hid,Xh]at e;exact hg.n E σ a w h e
  ·rename_i hid
   simp only[hid,XS]at e;exact hg.x j E σ a w h e
 |loop c ih=>
  intro kn kx kr Q body Q' hn hp hg hj Co;simp only[labels,XM]at hn;have T4:QV P E0 w0 N nb y J c (Exit.then (CM P c Q) Q):=fun ℓ body Q' Co=>hj ℓ body Q' (.inr Co)
  simp only[find];by_cases hl:first c= ℓ
  ·rw[Wt hl]
   rcases Co with⟨_,rfl,rfl⟩|Co
   ·exact⟨kn,kx,kr,rfl,hg,hp,T4⟩
   ·exact absurd (hl▸Co.label) hn.1
  ·rw[Wr hl]
   rcases Co with⟨h,_⟩|Co
   ·exact absurd h hl
   ·exact ih hn.2 (hp.then _) ⟨fun E σ a w h e=>hj (first c) c Q (.inl ⟨rfl,rfl,rfl⟩) E σ a w h (e []),fun id E σ a w h e=>hg.x id E σ a w h e,hg.r⟩ T4 Co
 |_=>intro kn kx kr Q body Q' hn hp hg hj Co;exact Co.elim
end
theorem Hk{E:Env}{w:World}{vw:List Bx}:∀{l:List (Nat×XP)} {x:Aw.V l} {vals:List Value} {tm:List XV},B_ E w vw id l x vals→AF (XR E w vw) tm vals→AF (XR E w vw) (Aw.mk id l x tm) vals
 |[],_,_,_,_,h=>h
 |(i,p)::l,x,vals,tm,hs,h=>by
  obtain⟨⟨v,hv,hx⟩,hs⟩:=hs;simp only[Aw.mk];refine Hk hs ?_
  have:=AF.set (i:=i) h hx;have e:vals.set i v=vals:=by
   apply XL;intro j;rw[W_];split
   ·rename_i e;subst e
    rw[Wt (WJ.1 hv).1,hv]
   ·rfl
  rwa [e]at this
theorem AF.undef{E:Env}{w:World}{vw:List Bx}:∀{vals:List Value} {n:Nat},n=vals.length→AF (XR E w vw) (List.replicate n (.c .undef)) vals
 |[],n,h=>by subst h;trivial
 |v::vals,n,h=>by
  subst h;simp only[Wa,XT];exact⟨trivial,AF.undef rfl⟩
theorem LU.shared{E E1:Env}{w:World}{bx:List Bx}{m:CQ}{s:CS}{x:s.V}{vals:List Value}(h:LU E w bx m s x vals E1)(hb:AK E w bx bx []):
  ∃E2,E2.BC=E1.BC∧E2.BD=E1.BD∧Gh E w E2 w∧AK E2 w (BQ.mk id s.Az x.2) (BQ.mk id s.Az x.2) []∧B_ E2 w (BQ.mk id s.Az x.2) id s.Ab x.1 vals:=by
 obtain⟨Fk,k1,k2,k3,k4⟩:=h.rest
 let E2:Env:={ E1 with S:=fun c=>E1.S c∨c∈Fk.flatten }
 have Ve:=h.boxes.st;have keep:C8 E1 w (BQ.mk id s.Az x.2) E2 w (BQ.mk id s.Az x.2):=
  ⟨Wu _,fun _ _=>rfl,fun _ h=>h,fun _ h=> .inl h,Ve,fun _ _=>rfl,fun b d r rows _ e=>⟨d,rows,e,fun p hp q ys hg=>⟨hp,⟨ys,hg,rfl⟩,fun _ h=>h⟩⟩⟩
 refine⟨E2,rfl,rfl,⟨h.T,fun c hc=> .inl (h.S c hc),fun c hc=> ?_,fun c hc=> ?_,fun _ _=>rfl,rfl,rfl,rfl,Wu _⟩,?_,?_⟩
 ·rcases k4 c hc with h|h|h
  ·exact .inl h
  ·exact .inr (.inl h)
  ·exact .inr (.inr h)
 ·rcases hc with hc|hc
  ·exact h.NQ c hc
  ·exact .inr (k3 c hc).1
 ·refine h.boxes.turn (E':=E2) (w':=w) (fun _ _ hv=>Av keep hv) (fun _ h=> .inl h) (fun _ _=>rfl) (fun _ _=>rfl) (fun _ _ _=>rfl) fun F hF=>⟨hF.nodup,hF.free,hF.lt,fun c hc=>hc.elim (hF.st c) fun h=>(k3 c h).2.2.2,hF.GD,hF.Lo.mono (fun _ h=>h) (fun _ _=>rfl)⟩
 ·have:∀{l:List (Nat×XP)} {z:Aw.V l},B_ E1 w (BQ.mk id s.Az x.2) id l z vals→B_ E2 w (BQ.mk id s.Az x.2) id l z vals:=by
   intro l
   induction l with
   |nil=>intro z h;trivial
   |cons q l ih=>
    obtain⟨i,p⟩:=q;intro z h;obtain⟨⟨v,hv,hx⟩,hs⟩:=h;exact⟨⟨v,hv,CN keep hx⟩,ih hs⟩
  exact this h.Ab
theorem G8:∀{l:List BP} {i n:Nat},(DD i n l).length=l.length
 |[],_,_=>rfl
 |_::l,i,n=>by simp[DD,G8 (l:=l)]
theorem HD:∀{l:List BP} {i n k b:Nat},(DD i n l)[k]? =some (some b)→b=i+k∧b<n∧l[k]?≠some .gone
 |[],i,n,k,b,h=>by simp[DD]at h
 |p::l,i,n,0,b,h=>by
  simp only[DD,List.getElem?_cons_zero,WL]at h;cases p with
  |gone=>simp at h
  |mem q=>split at h<;>simp_all<;>omega
  |sl d r=>split at h<;>simp_all<;>omega
 |p::l,i,n,k+1,b,h=>by
  simp only[DD,List.getElem?_cons_succ]at h;obtain⟨h1,h2,h3⟩:=HD h;exact⟨by omega,h2,by simpa using h3⟩
theorem HA:∀{l:List BP} {i n k:Nat} {p:BP},l[k]? =some p→p≠ .gone→i+k<n→(DD i n l)[k]? =some (some (i+k))
 |q::l,i,n,0,p,h,hg,hn=>by
  simp at h;subst h;simp only[DD,List.getElem?_cons_zero,WL];cases q with
  |gone=>exact absurd rfl hg
  |mem q=>simp at hn⊢;exact hn
  |sl d r=>simp at hn⊢;exact hn
 |q::l,i,n,k+1,p,h,hg,hn=>by
  simp only[DD,List.getElem?_cons_succ];rw[HA (l:=l) (i:=i+1) (k:=k) (by simpa using h) hg (by omega)];congr 2;omega
 |[],_,_,_,_,h,_,_=>by simp at h
theorem JS{l:List BP}{n:Nat}:J1 (DD 0 n l):=fun i j b h k=>by
 have:=(HD h).1;have:=(HD k).1;omega
end Go.Fw
end
section
namespace Go.Fw
structure RS (P:Program) (f:Nat) (fn:Func) (c:EN):Prop where
 at_:P.funcs[f]? =some fn
 call:∀args w,(callFunc f args).run P w= .ok (.enter f args) w
 VE:c.ok=true
 tmps:c.ins.Ab.length≤fn.ntmps
 labels:∀code,fn.body=some code→(labels code).Nodup
section
variable{P:Program} {C:KH} (hT:An P C.T) {E:Env} {σ:St} {a:Act} {w:World}
include hT in
theorem PD(h:Rel E σ a w):
  ∀{rs:List ResultVar} {xs:List XV},rs.mapM (OY C.T σ)=some xs→ ∃vs,(∀f:ResultVar→Sem Value,(∀u,f (.tmp u)=pure (a.tmps.getD u undef))→(∀b t,f (.cell b t)=(do loadVar t (←asAddr (a.tmps.getD b undef))))→
   (rs.mapM f).run P w= .ok vs w)∧AF (XR E w σ.bx) xs vs:=by
 intro rs
 induction rs with
 |nil=>
  intro xs e;have hx:xs=[]:=by simpa using e.symm
  subst hx;exact⟨[],fun f _ _=>by simp,trivial⟩
 |cons r rs ih=>
  intro xs e;rw[Xv]at e;simp only[Option.bind_eq_bind,WN,Option.pure_def,WL]at e;obtain⟨x,e1,ys,e2,rfl⟩:=e;obtain⟨vs,h1,h2⟩:=ih e2;have one:∃v,(∀f:ResultVar→Sem Value,(∀u,f (.tmp u)=pure (a.tmps.getD u undef))→(∀b t,f (.cell b t)=(do loadVar t (←asAddr (a.tmps.getD b undef))))→(f r).run P w= .ok v w)∧XR E w σ.bx x v:=by
   cases r with
   |tmp t=>
    simp only[OY]at e1;obtain⟨v,hv,hx⟩:=h.tmp e1;refine⟨v,fun f hf hc=> ?_,hx⟩;rw[hf];simp[XE,hv]
   |cell b t=>
    simp only[OY]at e1;split at e1
    case h_2=>cases e1
    rename_i z hz;obtain⟨v,hv,hx⟩:=h.tmp hz;obtain⟨Fs,hB,hS⟩:=h.bx;cases z with
    |agg l=>simp[IU]at e1
    |DY l=>simp[IU]at e1
    |c ad=>
     obtain⟨bb,oo,u,cell,hp,_,q2,q3⟩:=K5 hT hB hS.st e1 hx;refine⟨u,fun f hf hc=> ?_,q2⟩;have Tc:a.tmps.getD b undef=v:=by simp[XE,hv]
     have:=q3 w rfl;rw[hc,Tc,hp];rw[hp]at this;simpa[Instr.loadAt,Instr.sureAddr,asAddr]using this
  obtain⟨v,g1,g2⟩:=one;refine⟨v::vs,fun f hf hc=> ?_,g2,h2⟩;rw[Xv];simp[g1 f hf hc,h1 f hf hc]
theorem Gv{vw:List Bx}:∀{l:List XV} {q:List (AV ⊕ List AV)} {vs:List Value},Lt l=some q→AF (XR E w vw) l vs→AF (TR E w vw) q vs
 |[],q,[],e,_=>by
  simp only[Lt,WL]at e;subst e;trivial
 |[],_,_::_,_,h=>h.elim
 | .c x::l,q,v::vs,e,h=>by
  simp only[Lt,WM]at e;obtain⟨r,e1,rfl⟩:=e;exact⟨h.1,Gv e1 h.2⟩
 | .agg x::l,q,v::vs,e,h=>by
  simp only[Lt,WM]at e;obtain⟨r,e1,rfl⟩:=e;exact⟨h.1,Gv e1 h.2⟩
 | .DY _::_,_,_,e,_=>by simp[Lt]at e
 | .c _::_,_,[],_,h=>h.elim
 | .agg _::_,_,[],_,h=>h.elim
include hT in
theorem KM(h:Rel E σ a w){fn:Func}{x:XV}(e:J9 C.T σ fn.results.toList=some x):∃v,(results fn a.tmps).run P w= .ok v w∧XR E w σ.bx x v:=by
 unfold J9 at e;have key:∀xs,fn.results.toList.mapM (OY C.T σ)=some xs→ ∃vs:List Value,(results fn a.tmps).run P w= .ok (if h:vs.toArray.size=1 then vs.toArray[0]else .tuple vs.toArray) w∧AF (XR E w σ.bx) xs vs:=by
  intro xs hx;obtain⟨vs,h1,h2⟩:=PD (P:=P) hT h hx;refine⟨vs,?_,h2⟩;unfold results;rw[Array.mapM_eq_mapM_toList];simp only[Sem.run_bind,Sem.run_map];rw[h1 _ (fun _=>rfl) (fun _ _=>rfl)];simp only[Result.andThen_ok,Sem.run_pure]
 split at e
 ·rename_i z hz
  cases e;obtain⟨vs,h1,h2⟩:=key _ hz
  match vs,h2 with
  |[v],h2=>exact⟨v,by simpa using h1,h2.1⟩
  |v::_::_,h2=>exact h2.2.elim
  |[],h2=>exact h2.elim
 ·rename_i l hl hz
  simp only[WM]at e;obtain⟨q,e1,rfl⟩:=e;obtain⟨vs,h1,h2⟩:=key _ hz;have I5: ¬vs.toArray.size=1:=fun hs=>by
   have:=AF.len h2
   match l,this with
   |[z],_=>exact hl z rfl
   |[],t=>simp at t hs;omega
   |_::_::_,t=>simp at t hs;omega
  rw[dif_neg I5]at h1;exact⟨_,h1,vs.toArray,rfl,by simpa using Gv e1 h2⟩
 ·cases e
end
theorem Gk{E:Env}{w:World}{vw:List Bx}{more:List Value}:∀{l:List (Nat×XP)} {x:Aw.V l} {vals:List Value},B_ E w vw id l x vals→B_ E w vw id l x (vals++more)
 |[],_,_,_=>trivial
 |(i,p)::l,x,vals,h=>by
  obtain⟨⟨v,hv,hx⟩,hs⟩:=h;exact⟨⟨v,by rw[WO (WJ.1 hv).1];exact hv,hx⟩,Gk hs⟩
def NH(C:KH)(c:EN)(fn:Func)(code:Code)(J:Nat→Nat→St→Option c.outs.V):Prop:=
 ∀ ℓ,ℓ ∈labels code→ ∃(s:CS) (F:Nat→s.V→Option c.outs.V),(∀n,J n ℓ =jump c.ins.Az.length s (F n))∧(∀v,F 0 v=none)∧
  ∀n v y,F (n+1) v=some y→ ∀ω,MI C c fn (J n) ℓ ω (s.st fn.ntmps v)=some y
section
variable{P:Program} {C:KH} (hT:An P C.T) (hΓ:G2 P C.Γ) (hm:P.follows .mixedOrders=true) {fn:Func} {c:EN}
def Ql(c:EN)(E0:Env)(w0:World)(u:c.outs.V)(e:Ending)(w':World):Prop:=
 ∃x E',e= .returned x∧Gh E0 w0 E' w'∧AK E' w' (BQ.mk id c.outs.Az u.2) (BQ.mk id c.outs.Az u.2) []∧
  B_ E' w' (BQ.mk id c.outs.Az u.2) id c.outs.Ab u.1 [x]∧ ∀i,i<c.ins.Az.length→alive c.outs.Az i=true→E'.BC i=E0.BC i∧E'.BD i=E0.BD i
theorem Ok.opens{E0 E:Env}{w0 w:World}{N nb:Nat}{σ:St}{a:Act}(h:Ok E0 w0 N nb E σ a w)(s:CS):∃E',Ok E0 w0 N nb E' { σ with bx:=s.opens σ.bx } a w∧
  (∀(i:Nat) d r,s.Az[i]? =some (.sl d r)→E'.BD (σ.bx.length+i)= .slice none 0 0)∧(∀x v,XR E w σ.bx x v→XR E' w (s.opens σ.bx) x v):=by
 obtain⟨E',h1,h2,h3,h4⟩:=Kv h.rel s;exact⟨E',h.next h1 h2 rfl,h3,h4⟩
theorem Oe{E E':Env}{w:World}{vw:List Bx}{b:Nat}(h:Le E E')(st:∀c,E.S c→E.T c):C8 E w vw E' w (vw.set b .dead):=by
 refine⟨by simp,fun b _=>by rw[h.BC],h.T,h.S,st,fun _ _=>rfl,fun c d r rows _ e=> ?_⟩;by_cases hc:c=b
 ·subst hc
  rw[W_]at e;simp only[Xh]at e;split at e<;>cases e
 ·rw[WQ (fun e=>hc e.symm)]at e
  exact⟨d,rows,e,fun p hp q ys hg=>⟨hp,⟨ys,hg,rfl⟩,fun h' hh=>by rw[h.BD];exact hh⟩⟩
theorem Pe{E:Env}{σ:St}{a:Act}{w:World}(h:Rel E σ a w)(b:Nat):∃E',Rel E' (σ.J6 b) a w∧Le E E':=by
 unfold St.J6;split
 case h_2=>exact⟨E,h,Le.refl E⟩
 rename_i d r rows hb;obtain⟨F,hF,hB⟩:=h.bx.take hb;have Dv:AK E w σ.bx (σ.bx.set b .dead) ([]++F++[]):=by simpa using hB
 obtain⟨hle,hB3⟩:=Dv.share;have hk:=Oe (vw:=σ.bx) (b:=b) (w:=w) hle h.bx.st;have P1:C8 E w σ.bx { E with S:=fun c=>E.S c∨c∈F,T:=fun c=>E.T c∨c∈F } w ((σ.bx.set b .dead).map (Bx.J6 b r rows)):=by
  refine⟨by simp,hk.BC,hk.T,hk.S,hk.st,hk.heap,fun c d' r' rows' hc e=> ?_⟩;rw[Wl,WM]at e;obtain⟨B,e,eB⟩:=e;cases B with
  |mem cs=>cases eB
  |dead=>cases eB
  |sl d0 r0 Ch=>
   cases eB;exact hk.box c _ _ _ hc e
 have hv:∀x v,VR E w σ.bx x v→VR { E with S:=fun c=>E.S c∨c∈F,T:=fun c=>E.T c∨c∈F } w ((σ.bx.set b .dead).map (Bx.J6 b r rows)) (x.J6 b r rows) v:=fun x v hx=>by
  unfold AV.J6;split
  ·rename_i c
   split
   ·rename_i hc
    subst hc;obtain⟨h1,h2⟩:=hx;rw[hb]at h2;have hv:=h2.2.2;rw[AJ]at hv;simp only[WL]at hv;have:=ER hF.2;rw[hv]at this;exact Ak (fun c hc=>hc) (fun _ _=>rfl) this
   ·exact Av P1 hx
  ·exact Av P1 hx
 refine⟨_,⟨h.CC,?_,?_⟩,hle⟩
 ·refine AF.Bi _ (fun x v hx=> ?_) h.tm
  unfold XV.J6;split
  ·exact hv _ _ hx
  ·exact CN P1 hx
 ·obtain⟨Fs,⟨hl,h1⟩,h2⟩:=hB
  have P3:Sep E w (F++Fs.flatten):=h2.perm (by simpa using Wf);refine⟨Fs,⟨by simpa using hl,fun k B G Cs hG=> ?_⟩,?_⟩
  ·rw[Wl,WM]at Cs
   obtain⟨B0,e,rfl⟩:=Cs;have h3:=h1 k B0 G e hG;cases B0 with
   |mem cs=>
    obtain⟨rfl,arr,ty,fr,a1,a2,a3⟩:=h3;exact⟨rfl,arr,ty,fr,a1,a2,AF.Bi _ (fun x v hx=>hv x v hx) a3⟩
   |sl d0 r0 Ch=>exact⟨h3.1,Ae hle.S (fun _ _=>rfl) (fun _ _=>rfl) h3.2⟩
   |dead=>exact h3
  ·rw[Wj]
   have st:=h.bx.st;refine⟨(WS.1 P3.nodup).2.1,fun c hc ht=> ?_,fun c hc=>P3.lt c (by simp only[Wc];exact .inr hc),fun c hc=>hc.imp (st c) id,fun c hc=>hc.elim (P3.GD c) fun h' =>P3.lt c (by simp[h']),P3.Lo.mono (fun _ h=> .inl h) (fun _ _=>rfl)⟩;rcases ht with ht|ht
   ·exact P3.free c (Wc.2 (.inr hc)) ht
   ·exact(WS.1 P3.nodup).2.2 c ht c hc rfl
theorem Oh{σ:St}{b i:Nat}(h:σ.bx[i]? =some .dead):(σ.J6 b).bx[i]? =some .dead:=by
 unfold St.J6;split
 ·simp only[Wl,W_]
  split
  ·split
   ·rfl
   ·rename_i h2
    subst_vars
    exact absurd (WJ.1 h).1 h2
  ·rw[h];rfl
 ·exact h
theorem NX{σ:St}{b:Nat}:(σ.J6 b).bx.length=σ.bx.length∧(σ.J6 b).tm.length=σ.tm.length:=by
 unfold St.J6;split<;>simp
theorem Ok.J6{E0 E:Env}{w0 w:World}{N nb:Nat}{σ:St}{a:Act}(h:Ok E0 w0 N nb E σ a w)(b:Nat):∃E',Ok E0 w0 N nb E' (σ.J6 b) a w:=by
 obtain⟨E',h1,h2⟩:=Pe h.rel b;refine⟨E',⟨h1,h.base.trans (h2.base w),by rw[NX.2];exact h.tm,by rw[NX.1];exact h.KI,fun i hi hd=> ?_⟩⟩;rw[h2.BC,h2.BD];exact h.ids i hi fun e=>hd (Oh e)
theorem Ok.CV{E0:Env}{w0 w:World}{N nb:Nat}{a:Act}:∀(l:List AP) (xs:List AV) {E:Env} {σ:St},Ok E0 w0 N nb E σ a w→ ∃E',Ok E0 w0 N nb E' (CV l xs σ) a w:=by
 intro l xs E σ h
 induction l generalizing xs E σ with
 |nil=>unfold Fw.CV;exact⟨E,h⟩
 |cons p l ih=>
  unfold Fw.CV;split
  ·rename_i heq
   cases heq;obtain⟨E',h'⟩:=h.J6 _;exact ih _ h'
  ·rename_i heq
   cases heq;exact ih _ h
  ·exact⟨E,h⟩
theorem Ok.S9{E0:Env}{w0 w:World}{N nb:Nat}{a:Act}{bs:List BP}:∀(l:List (Nat×XP)) {E:Env} {σ:St},Ok E0 w0 N nb E σ a w→ ∃E',Ok E0 w0 N nb E' (CW bs l σ) a w:=by
 intro l
 induction l with
 |nil=>intro E σ h;exact⟨E,h⟩
 |cons q l ih=>
  intro E σ h;unfold CW;split
  ·cases ‹_::_=[]›
  ·rename_i e
   cases e;split
   ·obtain⟨E',h'⟩:=h.CV [_] [_]
    exact ih h'
   ·exact ih h
  ·rename_i e
   cases e;split
   ·split
    ·obtain⟨E',h'⟩:=h.CV _ _
     exact ih h'
    ·exact ih h
   ·exact ih h
  ·rename_i e
   cases e;exact ih h
theorem Ll{E:Env}{w:World}{vw:List Bx}{x:AV}{v:Value}(h:VR E w vw x v)(hx:x.Ko=true):isSlice v=true:=by
 cases x with
 |ref b p=>exact h.1
 |win b p o n=>exact h.1
 |sl s r y=>
  simp only[VR,Rd]at h;obtain⟨a,cap,h,_⟩:=h;simp only[Wg,W3]at h;rw[h];rfl
 |nil=>cases h;rfl
 |_=>cases hx
theorem Ma{E:Env}{σ:St}{a:Act}{w:World}(h:Rel E σ a w)(b j:Nat):Rel E (σ.forget b j) a w∧σ.bx.length≤(σ.forget b j).bx.length∧(∀i:Nat,σ.bx[i]? =some Bx.dead→(σ.forget b j).bx[i]? =some Bx.dead)∧(σ.forget b j).tm=σ.tm:=by
 unfold St.forget;split
 case h_2=>exact⟨h,Wu _,fun _ h=>h,rfl⟩
 rename_i cs hb;split
 case h_2=>exact⟨h,Wu _,fun _ h=>h,rfl⟩
 rename_i x hx;split
 case isFalse=>exact⟨h,Wu _,fun _ h=>h,rfl⟩
 rename_i hs;have PW:=(WJ.1 hb).1;have hk:C8 E w σ.bx E w (σ.bx.set b (.mem (cs.set j (.ref σ.bx.length [])))++[.dead]):=by
  refine⟨by simp,fun _ _=>rfl,fun _ h=>h,fun _ h=>h,h.bx.st,fun _ _=>rfl,fun c d r rows hc e=> ?_⟩;rw[WO (by simpa using hc)]at e;by_cases OS:b=c
  ·subst OS
   rw[WV hc]at e;cases e
  ·rw[WQ OS]at e
   exact⟨d,rows,e,fun p hp q ys hg=>⟨hp,⟨ys,hg,rfl⟩,fun h' hh=>hh⟩⟩
 refine⟨⟨h.CC,h.tm.imp fun _ _ hx=>CN hk hx,?_⟩,by simp,fun i hi=> ?_,rfl⟩
 ·obtain⟨Fs,⟨hl,h1⟩,h2⟩:=h.bx
  refine⟨Fs++[[]],⟨by simp[hl],fun k B G hB hG=> ?_⟩,by simpa using h2⟩;by_cases P1:k<σ.bx.length
  ·rw[WO (by simpa using P1)]at hB
   rw[WO (by omega)]at hG;by_cases hkb:b=k
   ·subst hkb
    rw[WV P1]at hB;cases hB;obtain⟨rfl,arr,ty,fr,a1,a2,a3⟩:=h1 b _ G hb hG;refine⟨rfl,arr,ty,fr,a1,a2,?_⟩;have a4:HF E w (σ.bx.set b (.mem (cs.set j (.ref σ.bx.length [])))++[.dead]) cs arr.toList:=a3.imp fun _ _ hv=>Av hk hv
    obtain⟨v,hv,hvr⟩:=a3.get hx;have Ft:arr.toList.set j v=arr.toList:=by
     apply XL;intro i;by_cases P7:j=i
     ·subst P7
      rw[WV (WJ.1 hv).1,hv]
     ·rw[WQ P7]
    rw[←Ft];refine AF.set a4 ⟨Ll hvr hs,?_⟩;have:(σ.bx.set b (.mem (cs.set j (.ref σ.bx.length [])))++[.dead])[σ.bx.length]? =some .dead:=by
     rw[WW (by simp)];simp
    rw[this]
    trivial
   ·rw[WQ hkb]at hB
    have h3:=h1 k B G hB hG;cases B with
    |mem Fl=>
     obtain⟨rfl,arr,ty,fr,a1,a2,a3⟩:=h3;exact⟨rfl,arr,ty,fr,a1,a2,a3.imp fun _ _ hv=>Av hk hv⟩
    |sl d0 r0 Ch=>exact h3
    |dead=>exact h3
  ·have hlen:=(WJ.1 hB).1
   simp only[Wb,List.length_set,Wa,Wm]at hlen;have VB:k=σ.bx.length:=by omega
   subst VB;rw[WW (by simp)]at hB;rw[WW (by omega)]at hG;simp[hl]at hB hG;subst hB hG;rfl
 ·have Qr:=(WJ.1 hi).1
  rw[WO (by simpa using Qr)];have Vs:b≠i:=fun e=>by
   subst e;rw[hb]at hi;cases hi
  rw[WQ Vs];exact hi
theorem Ok.forget{E0 E:Env}{w0 w:World}{N nb:Nat}{σ:St}{a:Act}(h:Ok E0 w0 N nb E σ a w)(b j:Nat):Ok E0 w0 N nb E (σ.forget b j) a w:=by
 obtain⟨h1,h2,h3,h4⟩:=Ma h.rel b j;exact⟨h1,h.base,by rw[h4];exact h.tm,XN h.KI h2,fun i hi hd=>h.ids i hi fun e=>hd (h3 i e)⟩
theorem Ok.D2{E0 E:Env}{w0 w:World}{N nb:Nat}{a:Act}{bs:List BP}{b:Nat}:∀(l:List AP) (j:Nat) {σ:St},Ok E0 w0 N nb E σ a w→Ok E0 w0 N nb E (D2 bs b j l σ) a w
 |[],_,_,h=>h
 |p::l,j,σ,h=>by
  simp only[Fw.D2];refine Ok.D2 l (j+1) ?_
  split
  ·split
   ·exact h.forget _ _
   ·exact h
  ·exact h
theorem Ok.SM{E0 E:Env}{w0 w:World}{N nb:Nat}{a:Act}{bs:List BP}:∀(l:List (Nat×XP)) {σ:St},Ok E0 w0 N nb E σ a w→Ok E0 w0 N nb E (F_ bs l σ) a w
 |[],_,h=>h
 |(i,p)::l,σ,h=>by
  simp only[F_];refine Ok.SM l ?_
  split
  ·split
   ·exact h.D2 _ _
   ·exact h
  ·exact h
include hT in
theorem Ks{E0 E:Env}{w0 w:World}{N:Nat}{σ:St}{a:Act}{u:c.outs.V}(h:Ok E0 w0 N c.ins.Az.length E σ a w)(e:Ke C.T c fn.results.toList σ=some u):
  a.defers=[]∧ ∃v,(results fn a.tmps).run P w= .ok v w∧Ql c E0 w0 u (.returned v) w:=by
 unfold Ke at e;simp only[WN,WM]at e;obtain⟨x,e1,⟨u',m⟩,e2,rfl⟩:=e;obtain⟨v,h1,h2⟩:=KM hT h.rel e1;obtain⟨E,h,Mr,h4⟩:=h.opens c.outs
 replace h2:=h4 _ _ h2
 obtain⟨hext,E1,hf⟩:=Ht (tm:=[x]) (vals:=[v]) h.rel.bx ⟨h2,trivial⟩ Mr G8 JS e2;obtain⟨E2,q1,q2,q3,q4,q5⟩:=hf.shared h.rel.bx;refine⟨h.rel.CC,v,h1,v,E2,rfl,h.base.trans q3,q4,q5,fun i hi Oi=> ?_⟩;obtain⟨p,hp,hg⟩:∃p,c.outs.Az[i]? =some p∧p≠ .gone:=by
  unfold alive at Oi;cases hh:c.outs.Az[i]? with
  |none=>rw[hh]at Oi;cases Oi
  |some p=>
   refine⟨p,rfl,fun hp=> ?_⟩;rw[hh,hp]at Oi;cases Oi
 have RD:=hext.2 i i (by have:=HA (i:=0) (n:=c.ins.Az.length) hp hg (by omega);simpa using this);obtain⟨b,B,g1,g2,g3,_⟩:=LF e2 i p hp hg;rw[RD]at g1;cases g1;have hid:=hf.ids i i RD;have O8:=h.ids i hi (fun hd=>by rw[g2]at hd;cases hd;exact g3 rfl);rw[q1,q2];exact⟨hid.1.trans O8.1,hid.2.trans O8.2⟩
include hT hΓ hm in
theorem PM{code:Code}(hb:fn.body=some code)(hl:(labels code).Nodup){J:Nat→Nat→St→Option c.outs.V}(hJ:NH C c fn code J)
  {E0:Env} {w0:World} {u:c.outs.V} {Q:IG} (hp:F8 Q)
  (hg:Good E0 w0 fn.ntmps c.ins.Az.length u (fun _=>Ke C.T c fn.results.toList) (fun _ _ _=>none) (fun _=>Ke C.T c fn.results.toList) Q):
  ∀n,QV P E0 w0 fn.ntmps c.ins.Az.length u (J n) code Q:=by
 intro n
 induction n with
 |zero=>
  intro ℓ body Q' Co E σ a w h e;obtain⟨s,F,j1,j2,j3⟩:=hJ ℓ Co.label;rw[j1]at e;simp only[jump]at e;split at e
  ·rw[WN]at e
   obtain⟨q,_,e⟩:=e;rw[j2]at e;cases e
  ·cases e
 |succ n ih=>
  intro ℓ body Q' Co E σ a w h e;obtain⟨s,F,j1,j2,j3⟩:=hJ ℓ Co.label;rw[j1]at e;simp only[jump]at e;split at e
  case isFalse=>cases e
  rename_i KI;rw[WN]at e;obtain⟨⟨v,m⟩,e1,e2⟩:=e;dsimp only at e2;obtain⟨E,h⟩:=h.S9 (bs:=s.Az) s.Ab
  replace h:=h.SM (bs:=s.Az) s.Ab
  revert h e1
  generalize F_ s.Az s.Ab (CW s.Az s.Ab σ)=σ
  intro e1 h;obtain⟨E,h,Mr,h4⟩:=h.opens s;obtain⟨hext,E1,hf⟩:=Ht h.rel.bx h.rel.tm Mr G8 JS e1;obtain⟨E2,q1,q2,q3,q4,q5⟩:=hf.shared h.rel.bx;have CK:fn.ntmps=a.tmps.toList.length:=by rw[←AF.len h.rel.tm,h.tm]
  have Da:Ok E0 w0 fn.ntmps c.ins.Az.length E2 (s.st fn.ntmps v) a w:=by
   refine⟨⟨h.rel.CC,Hk q5 (AF.undef CK),q4⟩,h.base.trans q3,?_,?_,fun i hi hd=> ?_⟩
   ·have:=AF.len (Hk q5 (AF.undef CK))
    simp only[CS.st];rw[this,←CK]
   ·simp only[CS.st]
    rw[DA];exact KI
   ·simp only[CS.st]at hd
    have QJ:s.Az[i]? =some (s.Az[i]'(by omega)):=WK _;have T1:s.Az[i]'(by omega)≠ .gone:=fun Mk=>by
     obtain⟨z,z1,_⟩:=FN id (u:=v.2) QJ;apply hd;rw[z1]
     generalize s.Az[i]'(by omega)=pp at z Mk
     subst Mk;rfl
    have RD:=hext.2 i i (by have:=HA (i:=0) (n:=c.ins.Az.length) QJ T1 (by omega);simpa using this);obtain⟨b,B,g1,g2,g3,_⟩:=LF e1 i _ QJ T1;rw[RD]at g1;cases g1;have hid:=hf.ids i i RD;have O8:=h.ids i hi (fun hd=>by rw[g2]at hd;cases hd;exact g3 rfl);rw[q1,q2];exact⟨hid.1.trans O8.1,hid.2.trans O8.2⟩
  have QG:=j3 n v u e2;obtain⟨kn',kx',kr',hfind,L5,hnp,hj⟩:=Pk hT hΓ hm hl hp hg ih Co;simp only[MI,hb,hfind]at QG;refine CM.P0 (Md hT hΓ hm (hnp.then _) (kn:=fun _ σ=>J n ℓ σ) ⟨fun E σ a w h e=> ?_,fun id E σ a w h e=>L5.x id E σ a w h e,L5.r⟩ hj Da QG);exact ih ℓ body Q' Co E σ a w h (e [])
include hT hΓ hm in
theorem O7{f:Nat}(hf:RS P f fn c){J:Nat→Nat→St→Option c.outs.V}(hJ:∀code,fn.body=some code→NH C c fn code J)
  (hg:∀v u,c.g v=some u→ ∃n,∀ω,IA C c fn (J n) ω v=some u):DL P f c:=by
 refine⟨hf.VE,hf.call,fun E w v args u BM hB hS Vg=> ?_⟩;obtain⟨n,hn⟩:=hg v u Vg;cases hb:fn.body with
 |none=>
  have:=hn [];simp only[IA,hb]at this;cases this
 |some code=>
  simp only[IA,hb]at hn;refine calls_of_wp hf.at_ hb ?_
  have hp:F8 (bodyPost P fn (Ql c E w u)):=fun ch a w' hq=>by
   obtain⟨_,x,E',hx,_⟩:=hq;cases hx
  have L5:Good E w fn.ntmps c.ins.Az.length u (fun _=>Ke C.T c fn.results.toList) (fun _ _ _=>none) (fun _=>Ke C.T c fn.results.toList) (bodyPost P fn (Ql c E w u)):=
   ⟨fun E' σ a w' h e=>Ks hT h (e []),fun id E' σ a w' h e=>(by cases e []),fun E' σ a w' h e=>Ks hT h (e [])⟩
  have Da:Ok E w fn.ntmps c.ins.Az.length E (c.ins.st fn.ntmps v) { tmps:=args++Array.replicate (fn.ntmps-args.size) undef,defers:=[] } w:=by
   have Qn:AF (XR E w (BQ.mk id c.ins.Az v.2)) (Aw.mk id c.ins.Ab v.1 (List.replicate fn.ntmps (.c .undef))) (args++Array.replicate (fn.ntmps-args.size) undef).toList:=by
    rw[Array.toList_append];refine Hk (Gk hS) (AF.undef ?_);have:=hf.tmps;simp;omega
   refine⟨⟨rfl,Qn,hB⟩,Gh.refl E w,?_,by simp only[CS.st];rw[DA];exact Wu _,fun _ _ _=>⟨rfl,rfl⟩⟩;simp only[CS.st];rw[AF.len Qn];have:=hf.tmps;simp;omega
  exact Md hT hΓ hm hp L5 (PM hT hΓ hm hb (hf.labels code hb) (hJ code hb) hp L5 n) Da hn
end
end Go.Fw
end
section
namespace Go.Fw
def AY:List Ty→Ty
 |[]=> .unit
 |c::l=> .cons c (AY l)
def MP(row:TypeId→Option (List Ty×Bool))(cells:TypeId→Nat):Nat→List Field→Option (List Ty)
 |_,[]=>some []
 |o,f::fs=>
  match row f.type with
  |some (l,_)=>if f.offset=o∧cells f.type=l.length then(MP row cells (o+l.length) fs).map (l++ ·)else none
  |none=>none
def H7:List Ty×Bool→Ty
 |(l,true)=>AY l
 |([c],false)=>c
 |_=> .unit
def rowOf(P:Program):Nat→TypeId→Option (List Ty×Bool)
 |0,_=>none
 |n+1,t=>
  match P.underlying t with
  |some (.int k)=>some ([.int k],false)
  |some .bool=>some ([.bool],false)
  |some .string=>some ([.str],false)
  |some (.slice e)=>
   match rowOf P n e with
   |some q=>if P.cellsOf e=q.1.length∧0<q.1.length then some ([.sl (H7 q)],false)else none
   |none=>none
  |some (.struct fs)=>
   match MP (rowOf P n) P.cellsOf 0 fs.toList with
   |some l=>if P.cellsOf t=l.length then some (l,true)else none
   |none=>none
  |_=>none
def Vd:(t:Ty)→t.D→Prop
 | .int k,x=>(Lit.int k x).wf=true
 | .bool,_=>True
 | .str,x=>List.length x≤maxLen
 | .sl r,x=>List.length x≤maxLen∧ ∀y∈x,Vd r y
 | .unit,_=>True
 | .cons c r,x=>Vd c x.1∧Vd r x.2
theorem HN{α:Type}{p:Nat→α→Prop}:∀{n:Nat},(∀i,i<n→ ∃y,p i y)→ ∃x:List α,x.length=n∧ ∀(i:Nat) y,x[i]? =some y→p i y
 |0,_=>⟨[],rfl,fun i y h=>by simp at h⟩
 |n+1,h=>by
  obtain⟨x,h1,h2⟩:=HN (n:=n) (p:=p) (fun i hi=>h i (by omega));obtain⟨y,hy⟩:=h n (by omega);refine⟨x++[y],by simp[h1],fun i z hz=> ?_⟩;by_cases hi:i<x.length
  ·rw[WO hi]at hz
   exact h2 i z hz
  ·rw[WW (by omega)]at hz
   have Qr:=(WJ.1 hz).1;simp at Qr;have:i=n:=by omega
   subst this;simp[h1]at hz;subst hz;exact hy
theorem K9{w:World}{B:Nat→Prop}:∀{l m:List Ty} {cs ds:List Value} {x:(AY l).D} {y:(AY m).D},Rd w B (AY l) cs x→Rd w B (AY m) ds y→Vd (AY l) x→Vd (AY m) y→
  ∃z:(AY (l++m)).D,Rd w B (AY (l++m)) (cs++ds) z∧Vd (AY (l++m)) z
 |[],m,cs,ds,x,y,h,k,hx,hy=>by
  simp only[AY,Rd]at h;subst h;exact⟨y,k,hy⟩
 |c::l,m,cs,ds,x,y,h,k,hx,hy=>by
  simp only[AY,Rd]at h;obtain⟨v,r,rfl,h1,h2⟩:=h;obtain⟨z,z1,z2⟩:=K9 h2 k hx.2 hy;exact⟨(x.1,z),by simp only[XG,AY,Rd];exact⟨v,r++ds,rfl,h1,z1⟩,hx.1,z2⟩
theorem N4{P:Program}{n:Nat}{t:TypeId}{l:List Ty}(h:rowOf P n t=some (l,false)):∃c,l=[c]:=by
 cases n with
 |zero=>simp[rowOf]at h
 |succ n=>
  simp only[rowOf]at h;split at h
  ·cases h;exact⟨_,rfl⟩
  ·cases h;exact⟨_,rfl⟩
  ·cases h;exact⟨_,rfl⟩
  ·split at h
   ·split at h
    ·cases h;exact⟨_,rfl⟩
    ·cases h
   ·cases h
  ·split at h
   ·split at h
    ·cases h
    ·cases h
   ·cases h
  ·cases h
theorem LG{w:World}{B:Nat→Prop}{P:Program}{n:Nat}{t:TypeId}{q:List Ty×Bool}(h:rowOf P n t=some q){cs:List Value}{x:(AY q.1).D}(hx:Rd w B (AY q.1) cs x)(hv:Vd (AY q.1) x):
  (H7 q).n=q.1.length∧ ∃y:(H7 q).D,Rd w B (H7 q) cs y∧Vd (H7 q) y:=by
 obtain⟨l,b⟩:=q;cases b with
 |true=>
  refine⟨?_,x,hx,hv⟩;clear h hx hv x;simp only[H7]
  induction l with
  |nil=>rfl
  |cons c l ih=>simp[AY,Ty.n,ih]
 |false=>
  obtain⟨c,rfl⟩:=N4 h;simp only[AY,Rd]at hx;obtain⟨v,r,rfl,h1,h2⟩:=hx;subst h2;refine⟨?_,x.1,h1,hv.1⟩;have:=Hs h1;simp only[H7];simpa using this.symm
theorem Nz(a:Addr):a.add 0=a:=by simp[Addr.add]
theorem OI{w:World}{a:Addr}{v:Value}(h:w.cell? a=some v):a.spot=none:=by
 unfold World.cell? at h;split at h
 ·split at h
  ·cases h
  ·rename_i hs;simpa using hs
 ·cases h
section
variable{H:Type} {enc:TypeId×Value→H} {P:Program} {w:World} {spare:Nat→Bool} {held:Bool}
theorem HG:∀(n:Nat) {t:TypeId} {q:List Ty×Bool},rowOf P n t=some q→ ∀{fuel:Nat} {cs:List Value} {x:DataW H×List MemPlace},DataW.trod enc P w 0 spare held fuel t cs=some x→
  ∃y:(AY q.1).D,Rd w (fun b=>b<w.heap.size) (AY q.1) cs y∧Vd (AY q.1) y
 |0,t,q,h,_,_,_,_=>by simp[rowOf]at h
 |n+1,t,q,h,fuel,cs,x,hx=>by
  simp only[rowOf]at h;split at h
  ·rename_i k hu
   cases h;obtain⟨m,rfl,_,hw⟩:=DataW.trod_int hu hx;exact⟨(m,()),by simp[AY,Rd],hw,trivial⟩
  ·rename_i hu
   cases h;obtain⟨b,rfl,_⟩:=DataW.trod_bool hu hx;exact⟨(b,()),by simp[AY,Rd],trivial,trivial⟩
  ·rename_i hu
   cases h;obtain⟨s,rfl,_,hs⟩:=DataW.trod_string hu hx;refine⟨(s.data.toList,()),by simp[AY,Rd],?_,trivial⟩
   show s.data.toList.length≤maxLen
   rw[XU];exact hs
  ·rename_i e hu
   split at h
   case h_2=>cases h
   rename_i q' RE;split at h
   case isFalse=>cases h
   rename_i LN;cases h;rcases DataW.trod_slice hu hx with⟨rfl,_⟩|⟨a,len,cap,elems,rest,m,_,rfl,_,_,hlc,hcm,HT,Co,_,_⟩
   ·refine⟨([],()),?_,⟨by simp,by simp⟩,trivial⟩
    simp only[AY,Rd];exact⟨_,[],rfl,⟨_,_,rfl,by simp,.inl rfl⟩,rfl⟩
   ·have each:∀i,i<len→ ∃y:(H7 q').D,Vd (H7 q') y∧ ∃ds,ds.length=(H7 q').n∧(∀j,j<ds.length→w.cell? ((a.add (i*P.cellsOf e)).add j)=ds[j]?)∧Rd w (fun b=>b<w.heap.size) (H7 q') ds y:=by
     intro i hi;have hz:elems[i]? =some (elems[i]'(by omega)):=WK _;have h1:=Co i hi;rw[hz,WN]at h1;obtain⟨ds,hds,htr⟩:=h1;obtain⟨z,z1,z2⟩:=HG n RE htr;obtain⟨_,c1,c2⟩:=World.cells?_some hds
     obtain⟨a1,y,a2,a3⟩:=LG RE z1 z2;exact⟨y,a3,ds,by rw[c1,a1,LN.1],fun j hj=>c2 j (by omega),a2⟩
    obtain⟨xs,x1,x2⟩:=HN each;refine⟨(xs,()),?_,⟨by show xs.length≤maxLen;omega,fun y hy=> ?_⟩,trivial⟩
    ·simp only[AY,Rd]
     refine⟨_,[],rfl,⟨_,cap,by rw[x1],by omega,?_⟩,rfl⟩;by_cases h0:len=0
     ·exact .inl (by omega)
     right
     obtain⟨y0,_,ds0,d0,d1,_⟩:=each 0 (by omega);have V2:0<(H7 q').n:=by
      rw[d0.symm];have hz:elems[0]? =some (elems[0]'(by omega)):=WK _;have h1:=Co 0 (by omega);rw[hz,WN]at h1;obtain⟨ds,hds,htr⟩:=h1;obtain⟨z,z1,z2⟩:=HG n RE htr;have:=(LG RE z1 z2).1;omega
     have Pf:=d1 0 (by omega);simp only[Nat.zero_mul,Nz]at Pf;have OO:w.cell? a=some (ds0[0]'(by omega)):=by rw[Pf];exact WK _
     have UA:=OI OO;obtain⟨b,o,s⟩:=a;simp only at UA;subst UA;refine⟨b,o,rfl,?_,fun i y hy=> ?_⟩
     ·unfold World.cell? at OO
      split at OO
      ·rename_i hb;exact(Array.getElem?_eq_some_iff.1 hb).1
      ·cases OO
     ·have Qr:=(WJ.1 hy).1
      obtain⟨_,ds,e0,e1,e2⟩:=x2 i y hy;have Uc:P.cellsOf e=(H7 q').n:=by
       have hz:elems[i]? =some (elems[i]'(by omega)):=WK _;have h1:=Co i (by omega);rw[hz,WN]at h1;obtain⟨ds,hds,htr⟩:=h1;obtain⟨z,z1,z2⟩:=HG n RE htr;rw[(LG RE z1 z2).1,LN.1]
      refine⟨ds,e0,fun j v hj=> ?_,e2⟩;have ON:=(WJ.1 hj).1;have:=e1 j ON;rw[Addr.add_eq,Addr.add_eq,Uc]at this;rw[this,hj]
    ·obtain⟨i,hi,rfl⟩:=W4 hy
     exact(x2 i _ (WK hi)).1
  ·rename_i fs hu
   split at h
   case h_2=>cases h
   rename_i l hl;split at h
   case isFalse=>cases h
   rename_i Nb;cases h;obtain⟨xs,m,_,_,hlen,RG,Co⟩:=DataW.trod_struct hu hx;have key:∀(fs:List Field) (o:Nat) (l:List Ty) (i0:Nat),MP (rowOf P n) P.cellsOf o fs=some l→cs.length=o+l.length→(∀(i:Nat) (f:Field),fs[i]? =some f→ ∃z,DataW.trod enc P w 0 spare held m f.type ((cs.drop f.offset).take (P.cellsOf f.type))=some z)→
     ∃y:(AY l).D,Rd w (fun b=>b<w.heap.size) (AY l) (cs.drop o) y∧Vd (AY l) y:=by
    intro fs
    induction fs with
    |nil=>
     intro o l i0 hl hc _;simp only[MP,WL]at hl;subst hl;refine⟨(),?_,trivial⟩;simp only[AY,Rd];simp at hc;simp[hc]
    |cons f fs ih=>
     intro o l i0 hl hc Co;simp only[MP]at hl;split at hl
     case h_2=>cases hl
     rename_i l1 b1 hr;split at hl
     case isFalse=>cases hl
     rename_i UD;simp only[WM]at hl;obtain⟨l2,hl2,rfl⟩:=hl;obtain⟨z,hz⟩:=Co 0 f rfl;obtain⟨y1,a1,a2⟩:=HG n hr hz;obtain⟨y2,b1,b2⟩:=ih (o+l1.length) l2 0 hl2 (by simp at hc;omega) (fun i f hf=>Co (i+1) f (by simpa using hf));obtain⟨y,c1,c2⟩:=K9 a1 b1 a2 b2;refine⟨y,?_,c2⟩;rw[UD.1,UD.2,←List.drop_drop,Xl]at c1;exact c1
   have:=key fs.toList 0 l 0 hl (by rw[hlen,Nb];simp) (fun i f hf=>by
    have UF:fs[i]? =some f:=by simpa using hf
    have Qr:i<xs.length:=by rw[RG];exact(Array.getElem?_eq_some_iff.1 UF).1
    exact⟨xs[i],by rw[Co i f UF];exact WK Qr⟩)
   simpa using this
  ·cases h
end
end Go.Fw
end
section
open Go.RowKit
namespace Go.Fw
def Ja(W:World):Env:={ BC:=fun _=>0,BD:=fun _=> .nilFunc,T:=fun b=>b<W.heap.size,S:=fun b=>b<W.heap.size }
abbrev Jz:CS:=⟨[(0,.c (.v .bool))],[]⟩
theorem Nk{P:Program}{f:Nat}{Ab:List (Nat×XP)}{g:CS.V ⟨Ab,[]⟩→Option Jz.V}(hs:DL P f ⟨⟨Ab,[]⟩,Jz,g⟩){W:World}{args:Array Value}(x:Aw.V Ab)(hlen:args.size=Ab.length)(Pl:∀w':World,(∀c,c<W.heap.size→w'.heap[c]? =W.heap[c]?)→GI w')
  (hx:B_ (Ja W) W [] id Ab x args.toList) (hg:g (x,())=some ((true,()),())):Calls P f args W fun e W' =>e= .returned (.bool true)∧Below W.heap.size W W':=by
 obtain⟨_,_,h⟩:=hs;refine(h (Ja W) W (x,()) args _ hlen ⟨[],⟨rfl,fun k B F h=>by simp[BQ.mk]at h⟩,by simp,by simp,by simp,fun _ h=>h,fun _ h=>h,Pl⟩ hx hg).mono fun e W' hR=> ?_
 obtain⟨v,E',rfl,base,_,⟨⟨v',hv,hxr⟩,_⟩,_⟩:=hR;simp at hv;subst hv;have:v= .bool true:=by
  have h2:VR E' W' [] (.v .bool true) v:=hxr;exact Cp h2
 subst this;exact⟨rfl,base.os,base.tape,base.output,base.size,fun k hk=>base.heap k hk⟩
theorem Of{W:World}{vw:List Bx}{l:List Ty}(hl:l.all Ty.cell=true){cs:Array Value}{y:(AY l).D}(h:Rd W (fun b=>b<W.heap.size) (AY l) cs.toList y):XR (Ja W) W vw (XP.mk id (.row (AY l)) y) (.agg cs):=by
 refine⟨cs,rfl,?_⟩;have key:∀(l:List Ty) (cs:List Value) (y:(AY l).D),l.all Ty.cell=true→Rd W (fun b=>b<W.heap.size) (AY l) cs y→HF (Ja W) W vw (Hp (AY l) y) cs:=by
  intro l
  induction l with
  |nil=>
   intro cs y _ h;simp only[AY,Rd]at h;subst h
   trivial
  |cons c l ih=>
   intro cs y hc h;simp only[Xn,WY]at hc;simp only[AY,Rd]at h;obtain⟨v,r,rfl,h1,h2⟩:=h;refine⟨?_,ih r y.2 hc.2 h2⟩;cases c with
   |sl q=>exact h1
   |int k=>exact⟨rfl,by simpa[Rd]using h1⟩
   |bool=>exact⟨rfl,by simpa[Rd]using h1⟩
   |str=>exact⟨rfl,by simpa[Rd]using h1⟩
   |unit=>simp[Ty.cell]at hc
   |cons c r=>simp[Ty.cell]at hc
 exact key l cs.toList y hl h
end Go.Fw
end
section
namespace Go.Fw
def PV:List (Nat×EN)→Nat→Option EN
 |[],_=>none
 |(f,c)::l,g=>if f=g then some c else PV l g
def Po(P:Program):List (Nat×EN)→Prop
 |[]=>True
 |q::l=>DL P q.1 q.2∧Po P l
theorem JD{P:Program}:∀{l:List (Nat×EN)},Po P l→G2 P (PV l)
 |[],_=>fun f c e=>by cases e
 |(g,d)::l,h=>fun f c e=>by
  simp only[PV]at e;split at e
  ·rename_i hg
   cases e;subst hg;exact h.1
  ·exact JD h.2 f c e
theorem JR{P:Program}{f:Nat}{fn:Func}(hf:P.funcs[f]? =some fn)(hn:(fn.name== "runtime.NumGoroutine")=false)(hb:fn.body.isNone=false)(args:Array Value)(w:World):
  (callFunc f args).run P w= .ok (.enter f args) w:=by
 have h1:fn.name≠ "runtime.NumGoroutine" :=by simpa using hn
 have h2:fn.body≠none:=by
  intro h;rw[h]at hb;cases hb
 simp[callFunc,hf,h1,h2]
def He(fn:Func)(c:EN):Bool:=
 !(
  fn.name== "runtime.NumGoroutine")&& !fn.body.isNone&&c.ok&&decide (c.ins.Ab.length≤fn.ntmps)&&(match fn.body with
  |some code=>decide (labels code).Nodup
  |none=>true)
theorem S1{P:Program}{f:Nat}{fn:Func}{c:EN}(hf:P.funcs[f]? =some fn)(h:He fn c=true):RS P f fn c:=by
 simp only[He,WY,Bool.not_eq_true',Wo]at h;obtain⟨⟨⟨⟨h1,h2⟩,h3⟩,h4⟩,h5⟩:=h;refine⟨hf,JR hf h1 h2,h3,h4,fun code hc=> ?_⟩;rw[hc]at h5;simpa using h5
def G7(C:KH)(c:EN)(fn:Func)(J:Nat→Nat→St→Option c.outs.V):List Nat→Prop
 |[]=>True
 | ℓ ::l=>(∃(s:CS) (F:Nat→s.V→Option c.outs.V),(∀n,J n ℓ =jump c.ins.Az.length s (F n))∧(∀v,F 0 v=none)∧
  ∀n v,∀ω,MI C c fn (J n) ℓ ω (s.st fn.ntmps v)=F (n+1) v)∧G7 C c fn J l
theorem G7.ok{C:KH}{c:EN}{fn:Func}{J:Nat→Nat→St→Option c.outs.V}:∀{l:V6},G7 C c fn J l→ ∀ ℓ ∈l,∃(s:CS) (F:Nat→s.V→Option c.outs.V),(∀n,J n ℓ =jump c.ins.Az.length s (F n))∧(∀v,F 0 v=none)∧
  ∀n v y,F (n+1) v=some y→ ∀ω,MI C c fn (J n) ℓ ω (s.st fn.ntmps v)=some y
 |[],_,ℓ,h=>by cases h
 |k::l,hl,ℓ,h=>by
  rcases Wy.1 h with rfl|h
  ·obtain⟨⟨s,F,h1,h2,h3⟩,_⟩:=hl
   exact⟨s,F,h1,h2,fun n v y e ω=>(h3 n v ω).trans e⟩
  ·exact G7.ok hl.2 ℓ h
def Hf(fn:Func):V6:=
 match fn.body with
 |some code=>labels code
 |none=>[]
def Jd:List WD→Nat→List Nat
 |[],_=>[]
 |(r,h)::l,q=>if r=q then h else Jd l q
theorem Ov{P:Program}{T:Bb}{l:List (Nat×EN)}{hint:Nat→List Nat}{f:Nat}{fn:Func}{c:EN}(hT:An P T)(hm:P.follows .mixedOrders=true)(hf:P.funcs[f]? =some fn)(hl:Po P l)(hc:He fn c=true)
  {J:Nat→Nat→St→Option c.outs.V} {L:V6} (hL:Hf fn=L) (hJ:G7 ⟨T,PV l,hint⟩ c fn J L) (n:Nat) (he:∀ω v,IA ⟨T,PV l,hint⟩ c fn (J n) ω v=c.g v):DL P f c:=
 O7 (C:=⟨T,PV l,hint⟩) hT (JD hl) hm (S1 hf hc) (J:=J) (fun code hb ℓ hℓ =>G7.ok hJ ℓ (by
  rw[←hL];simp only[Hf,hb];exact hℓ)) fun v u hg=>⟨n,fun ω=>(he ω v).trans hg⟩
end Go.Fw
end
section
namespace Go.M
abbrev FE:Nat:=Go.Fw.FE
def IV(x:Int):Int:=IntKind.wrap .i64 x
def w8(x:Int):Int:=IntKind.wrap .u8 x
theorem J3:∃n:Nat,2^64≤n:=⟨_,Wu _⟩
noncomputable def HQ:Nat:=Classical.choose J3
theorem NI:2^64≤HQ:=Classical.choose_spec J3
end Go.M
end
section
namespace Go.Fw
structure SP (P:Program) where
 f:Nat
 c:EN
 h:DL P f c
def SP.l{P:Program}:List (SP P)→List (Nat×EN)
 |[]=>[]
 |s::l=>(s.f,s.c)::SP.l l
theorem NS{P:Program}:∀l:List (SP P),Po P (SP.l l)
 |[]=>trivial
 |s::l=>⟨s.h,NS l⟩
@[reducible] def AP.Cu (R:Type):AP→Type
 | .LB _ rs=>Ef rs→R
 | .v t=>t.D→R
 | .sl _ r=>List r.D→R
 | .L1 r=>r.D→R
 | .H4 _ _=>Nat×Nat→R
 |_=>R
def AP.un{R:Type}:(p:AP)→p.Cu R→p.V→R
 | .LB _ _,f,x=>f x
 | .v _,f,x=>f x
 | .sl _ _,f,x=>f x
 | .L1 _,f,x=>f x
 | .H4 _ _,f,x=>f x
 | .nil,f,_=>f
 | .ref _,f,_=>f
 | .ptr _ _,f,_=>f
 | .fn _ _,f,_=>f
 | .any,f,_=>f
@[reducible] def EL.Cu (R:Type):List AP→Type
 |[]=>R
 |p::l=>p.Cu (EL.Cu R l)
def EL.un{R:Type}:(l:List AP)→EL.Cu R l→EL.V l→R
 |[],f,_=>f
 |p::l,f,x=>EL.un l (p.un f x.1) x.2
@[reducible] def EZ.Cu (R:Type):List (AP ⊕ List AP)→Type
 |[]=>R
 | .inl p::l=>p.Cu (EZ.Cu R l)
 | .inr q::l=>EL.Cu (EZ.Cu R l) q
def EZ.un{R:Type}:(l:List (AP ⊕ List AP))→EZ.Cu R l→EZ.V l→R
 |[],f,_=>f
 | .inl p::l,f,x=>EZ.un l (p.un f x.1) x.2
 | .inr q::l,f,x=>EZ.un l (EL.un q f x.1) x.2
@[reducible] def XP.Cu (R:Type):XP→Type
 | .c p=>p.Cu R
 | .agg l=>EL.Cu R l
 | .row r=>r.D→R
 | .DY l=>EZ.Cu R l
def XP.un{R:Type}:(p:XP)→p.Cu R→p.V→R
 | .c p,f,x=>p.un f x
 | .agg l,f,x=>EL.un l f x
 | .row _,f,x=>f x
 | .DY l,f,x=>EZ.un l f x
@[reducible] def BP.Cu (R:Type):BP→Type
 | .mem l=>EL.Cu R l
 | .sl _ r=>List r.D→R
 | .gone=>R
def BP.un{R:Type}:(p:BP)→p.Cu R→p.V→R
 | .mem l,f,x=>EL.un l f x
 | .sl _ _,f,x=>f x
 | .gone,f,_=>f
@[reducible] def Aw.Cu (R:Type):List (Nat×XP)→Type
 |[]=>R
 |(_,p)::l=>p.Cu (Aw.Cu R l)
def Aw.un{R:Type}:(l:List (Nat×XP))→Aw.Cu R l→Aw.V l→R
 |[],f,_=>f
 |(_,p)::l,f,x=>Aw.un l (p.un f x.1) x.2
@[reducible] def BQ.Cu (R:Type):List BP→Type
 |[]=>R
 |p::l=>p.Cu (BQ.Cu R l)
def BQ.un{R:Type}:(l:List BP)→BQ.Cu R l→BQ.V l→R
 |[],f,_=>f
 |p::l,f,x=>BQ.un l (p.un f x.1) x.2
@[reducible] def CS.Cu (s:CS) (R:Type):Type:=Aw.Cu (BQ.Cu R s.Az) s.Ab
def CS.un{R:Type}(s:CS)(f:s.Cu R)(v:s.V):R:=BQ.un s.Az (Aw.un s.Ab f v.1) v.2
structure Lp (o:CS) where
 ℓ :Nat
 s:CS
 F:Nat→s.Cu (Option o.V)
def Oj{o:CS}(nb:Nat):List (Lp o)→Nat→Nat→St→Option o.V
 |[],_,_,_=>none
 |p::l,n,ℓ,σ=>if ℓ =p.ℓ then jump nb p.s (p.s.un (p.F n)) σ else Oj nb l n ℓ σ
inductive D7 (C:KH) (c:EN) (fn:Func) (J:Nat→Nat→St→Option c.outs.V):List (Lp c.outs)→Prop
 |nil:D7 C c fn J []
 |cons {ℓ :Nat} {s:CS} {F:Nat→s.Cu (Option c.outs.V)} {l:List (Lp c.outs)} (h0:∀v,s.un (F 0) v=none) (h1:∀n v ω,MI C c fn (J n) ℓ ω (s.st fn.ntmps v)=s.un (F (n+1)) v) (h:D7 C c fn J l):D7 C c fn J (⟨ℓ,s,F⟩::l)
def Lp.ls{o:CS}:List (Lp o)→List Nat
 |[]=>[]
 |p::l=>p.ℓ ::Lp.ls l
theorem OU{o:CS}{nb:Nat}:∀{l:List (Lp o)} (n:Nat) {ℓ :Nat} (p:Lp o) (pre:List (Lp o)),ℓ =p.ℓ →(Lp.ls (pre++p::l)).Nodup→Oj nb (pre++p::l) n ℓ =jump nb p.s (p.s.un (p.F n))
 |l,n,ℓ,p,[],e,_=>by
  funext σ
  simp[Oj,e]
 |l,n,ℓ,p,q::pre,e,hn=>by
  funext σ
  have hq: ℓ ≠q.ℓ :=by
   intro h;simp only[XG,Lp.ls,XM]at hn;refine hn.1 ?_
   rw[←h,e];clear hn h e
   induction pre with
   |nil=>simp[Lp.ls]
   |cons a m ih=>simp[Lp.ls,ih]
  have:=congrFun (OU (nb:=nb) (l:=l) n p pre e (by simp only[XG,Lp.ls,XM]at hn;exact hn.2)) σ;simp only[XG,Oj,Wr hq];exact this
theorem D7.ok{C:KH}{c:EN}{fn:Func}{nb:Nat}(hb:nb=c.ins.Az.length){L:List (Lp c.outs)}(hn:(Lp.ls L).Nodup):∀{l pre:List (Lp c.outs)},L=pre++l→D7 C c fn (Oj nb L) l→G7 C c fn (Oj nb L) (Lp.ls l)
 |[],_,_,_=>trivial
 |⟨ℓ,s,F⟩::l,pre,e,.cons h0 h1 h=>by
  refine⟨⟨s,fun n=>s.un (F n),fun n=> ?_,h0,fun n v ω=>h1 n v ω⟩,D7.ok hb hn (pre:=pre++[⟨ℓ,s,F⟩]) (by simp[e]) h⟩;subst hb;rw[e];exact OU n ⟨ℓ,s,F⟩ pre rfl (by rw[←e];exact hn)
def U7{P:Program}{T:Bb}(hT:An P T)(hm:P.follows .mixedOrders=true){f:Nat}{fn:Func}(hf:P.funcs[f]? =some fn)(i o:CS)(g:i.Cu (Option o.V))(l:List (SP P))(h:List WD)(L:List (Lp o))(n:Nat)
  (hL:Hf fn=Lp.ls L) (hd:decide (Lp.ls L).Nodup=true) (hc:He fn ⟨i,o,i.un g⟩=true)
  (hJ:D7 ⟨T,PV (SP.l l),Jd h⟩ ⟨i,o,i.un g⟩ fn (Oj i.Az.length L) L)
  (he:∀ω v,IA ⟨T,PV (SP.l l),Jd h⟩ ⟨i,o,i.un g⟩ fn (Oj i.Az.length L n) ω v=i.un g v):SP P:=
 ⟨f,⟨i,o,i.un g⟩,Ov (l:=SP.l l) hT hm hf (NS l) hc (J:=Oj i.Az.length L) (L:=Lp.ls L) hL (D7.ok rfl (by simpa using hd) (pre:=[]) rfl hJ) n he⟩
end Go.Fw
end
section
namespace Go.Fw
open Go.Proofs Go.Shelf Go.RowKit Go.Lib
structure Qx (P:Program) (ρ:Ren) (nm:String) (fv:Func):Prop where
 mixed:P.follows .mixedOrders=true
 f22:P.funcs[ρ.f 22]? =some { Body2.n22 ρ with name:=nm }
 n22:(nm== "runtime.NumGoroutine")=false
 f29:P.funcs[ρ.f 29]? =some fv
 n29:(fv.name== "runtime.NumGoroutine")=false
 T9:fv.body.isNone=true
 UH:Extern.findNext fv=none
 Tv:Extern.find fv=some (Extern.SlicesOverlaps.overlaps #[(ρ.t 24),(ρ.t 24)] #[(ρ.t 4)])
 t0:P.underlying (ρ.t 0)=some (TypeDesc.tuple #[])
 a0:∀w,(isAgg (ρ.t 0)).run P w= .ok false w
 z0:∀w,(Go.sizeOf (ρ.t 0)).run P w= .ok 1 w
 v0:∀w,(zeroValue (ρ.t 0)).run P w= .ok (Value.tuple #[]) w
 t3:P.underlying (ρ.t 3)=some (TypeDesc.int IntKind.i64)
 a3:∀w,(isAgg (ρ.t 3)).run P w= .ok false w
 z3:∀w,(Go.sizeOf (ρ.t 3)).run P w= .ok 1 w
 v3:∀w,(zeroValue (ρ.t 3)).run P w= .ok (Value.int IntKind.i64 0) w
 t4:P.underlying (ρ.t 4)=some (TypeDesc.bool)
 a4:∀w,(isAgg (ρ.t 4)).run P w= .ok false w
 z4:∀w,(Go.sizeOf (ρ.t 4)).run P w= .ok 1 w
 v4:∀w,(zeroValue (ρ.t 4)).run P w= .ok (Value.bool false) w
 t24:P.underlying (ρ.t 24)=some (TypeDesc.slice (ρ.t 9))
 a24:∀w,(isAgg (ρ.t 24)).run P w= .ok false w
 z24:∀w,(Go.sizeOf (ρ.t 24)).run P w= .ok 1 w
 v24:∀w,(zeroValue (ρ.t 24)).run P w= .ok (Value.slice none 0 0) w
section
variable{P:Program} {ρ:Ren} {nm:String} {fv:Func}
end
end Go.Fw
end
section
namespace Go.Fw
open Go.Proofs Go.Shelf Go.RowKit Go.Lib
def Flat(w:World)(r:Ty)(css:List (List Value))(rows:List r.D):Prop:=
 css.length=rows.length∧(∀c∈css,c.length=r.n)∧ ∀(i:Nat) cs y,css[i]? =some cs→rows[i]? =some y→Rd w (fun _=>False) r cs y
theorem Flat.take{w:World}{r:Ty}{css:List (List Value)}{rows:List r.D}(h:Flat w r css rows)(n:Nat):Flat w r (css.take n) (rows.take n):=by
 refine⟨by simp[h.1],fun c hc=>h.2.1 c (List.mem_of_mem_take hc),fun i cs y a b=> ?_⟩;rw[List.getElem?_take]at a b;split at a
 ·rename_i hi
  rw[Wt hi]at b;exact h.2.2 i cs y a b
 ·cases a
theorem Flat.drop{w:World}{r:Ty}{css:List (List Value)}{rows:List r.D}(h:Flat w r css rows)(n:Nat):Flat w r (css.drop n) (rows.drop n):=by
 refine⟨by simp[h.1],fun c hc=>h.2.1 c (List.mem_of_mem_drop hc),fun i cs y a b=> ?_⟩;rw[XW]at a b;exact h.2.2 _ cs y a b
theorem Flat.append{w:World}{r:Ty}{css T3:List (List Value)}{rows Rh:List r.D}(h:Flat w r css rows)(k:Flat w r T3 Rh):Flat w r (css++T3) (rows++Rh):=by
 refine⟨by simp[h.1,k.1],fun c hc=>(Wc.1 hc).elim (h.2.1 c) (k.2.1 c),fun i cs y a b=> ?_⟩;by_cases hi:i<rows.length
 ·rw[WO (by rw[h.1];exact hi)]at a
  rw[WO hi]at b;exact h.2.2 i cs y a b
 ·rw[WW (by rw[h.1];omega)]at a
  rw[WW (by omega)]at b;rw[h.1]at a;exact k.2.2 _ cs y a b
theorem Flat.one{w:World}{r:Ty}(hf:r.flat=true){css:List (List Value)}{rows:List r.D}(h:Flat w r css rows):∀v∈css.flatten,v.oneCell' =true:=by
 intro v hv;obtain⟨c,hc,hv⟩:=Wh.1 hv;obtain⟨i,hi,rfl⟩:=W4 hc;have h1:=h.1;exact Jj (HK (S:=fun _=>False) (d:=0) hf (h.2.2 i _ _ (WK hi) (WK (by omega)))) v hv
theorem Flat.at{w:World}{S:Nat→Prop}{d:Nat}{r:Ty}(hf:r.flat=true){css:List (List Value)}{rows:List r.D}(h:Flat w r css rows):Ap w S d r css rows (List.replicate rows.length []):=Ap.flat hf h.1 h.2.1 h.2.2
end Go.Fw
end
section
namespace Go.Fw
open Go.M Go.Proofs Go.Shelf Go.RowKit Go.Lib
structure TM (P:Program) (ρ:Ren) (nm:String):Prop where
 mixed:P.follows .mixedOrders=true
 f24:P.funcs[ρ.f 24]? =some { Body2.n24 ρ with name:=nm }
 n24:(nm== "runtime.NumGoroutine")=false
 t0:P.underlying (ρ.t 0)=some (TypeDesc.tuple #[])
 a0:∀w,(isAgg (ρ.t 0)).run P w= .ok false w
 z0:∀w,(Go.sizeOf (ρ.t 0)).run P w= .ok 1 w
 v0:∀w,(zeroValue (ρ.t 0)).run P w= .ok (Value.tuple #[]) w
 t3:P.underlying (ρ.t 3)=some (TypeDesc.int IntKind.i64)
 a3:∀w,(isAgg (ρ.t 3)).run P w= .ok false w
 z3:∀w,(Go.sizeOf (ρ.t 3)).run P w= .ok 1 w
 v3:∀w,(zeroValue (ρ.t 3)).run P w= .ok (Value.int IntKind.i64 0) w
 t4:P.underlying (ρ.t 4)=some (TypeDesc.bool)
 a4:∀w,(isAgg (ρ.t 4)).run P w= .ok false w
 z4:∀w,(Go.sizeOf (ρ.t 4)).run P w= .ok 1 w
 v4:∀w,(zeroValue (ρ.t 4)).run P w= .ok (Value.bool false) w
 t24:P.underlying (ρ.t 24)=some (TypeDesc.slice (ρ.t 9))
 a24:∀w,(isAgg (ρ.t 24)).run P w= .ok false w
 z24:∀w,(Go.sizeOf (ρ.t 24)).run P w= .ok 1 w
 v24:∀w,(zeroValue (ρ.t 24)).run P w= .ok (Value.slice none 0 0) w
section
variable{P:Program} {ρ:Ren} {nm:String}
end
end Go.Fw
end
section
namespace Go.Fw
open Go.M Go.Proofs Go.Shelf Go.RowKit Go.Lib
theorem Ap.take{w:World}{S:Nat→Prop}{d:Nat}{r:Ty}{css:List (List Value)}{rows:List r.D}{Fs:List V6}(h:Ap w S d r css rows Fs)(n:Nat):Ap w S d r (css.take n) (rows.take n) (Fs.take n):=by
 refine⟨by simp[h.1],by simp[h.2.1],fun c hc=>h.2.2.1 c (List.mem_of_mem_take hc),fun i cs y G a b c=> ?_⟩;rw[List.getElem?_take]at a b c;split at a
 ·rename_i hi
  rw[Wt hi]at b c;exact h.2.2.2 i cs y G a b c
 ·cases a
theorem Ap.drop{w:World}{S:Nat→Prop}{d:Nat}{r:Ty}{css:List (List Value)}{rows:List r.D}{Fs:List V6}(h:Ap w S d r css rows Fs)(n:Nat):Ap w S d r (css.drop n) (rows.drop n) (Fs.drop n):=by
 refine⟨by simp[h.1],by simp[h.2.1],fun c hc=>h.2.2.1 c (List.mem_of_mem_drop hc),fun i cs y G a b c=> ?_⟩;rw[XW]at a b c;exact h.2.2.2 _ cs y G a b c
end Go.Fw
end
section
namespace Go.Fw
open Go.M Go.Proofs Go.Shelf Go.RowKit Go.Lib
section
variable{P:Program} {ρ:Ren} {nm:String} {fv:Func}
theorem GW{t:TypeId}{n:Nat}(h:(P.info? t).map (·.size)=some n):∀w,(Go.sizeOf t).run P w= .ok n w:=fun w=>by
 obtain⟨i,hi,rfl⟩:=WM.1 h;simp[sizeOf,typeInfo,hi]
theorem I4{t:TypeId}{z:Value}(h:(P.info? t).bind (·.zero)=some z):∀w,(zeroValue t).run P w= .ok z w:=fun w=>by
 obtain⟨i,hi,hz⟩:=WN.1 h;simp[zeroValue,typeInfo,hi,hz]
structure P4 (P:Program) (ρ:Ren):Prop where
 t0:P.underlying (ρ.t 0)=some (TypeDesc.tuple #[])
 t3:P.underlying (ρ.t 3)=some (TypeDesc.int IntKind.i64)
 t4:P.underlying (ρ.t 4)=some (TypeDesc.bool)
 t24:P.underlying (ρ.t 24)=some (TypeDesc.slice (ρ.t 9))
 s0:(P.info? (ρ.t 0)).map (·.size)=some 1
 s3:(P.info? (ρ.t 3)).map (·.size)=some 1
 s4:(P.info? (ρ.t 4)).map (·.size)=some 1
 Ti:(P.info? (ρ.t 24)).map (·.size)=some 1
 v0:(P.info? (ρ.t 0)).bind (·.zero)=some (Value.tuple #[])
 v3:(P.info? (ρ.t 3)).bind (·.zero)=some (Value.int IntKind.i64 0)
 v4:(P.info? (ρ.t 4)).bind (·.zero)=some (Value.bool false)
 v24:(P.info? (ρ.t 24)).bind (·.zero)=some (Value.slice none 0 0)
theorem P4.ins(h:P4 P ρ)(hm:P.follows .mixedOrders=true)(f22:P.funcs[ρ.f 22]? =some { Body2.n22 ρ with name:=nm })(n22:(nm== "runtime.NumGoroutine")=false)(f29:P.funcs[ρ.f 29]? =some fv)(n29:(fv.name== "runtime.NumGoroutine")=false)
  (T9:fv.body.isNone=true) (UH:Extern.findNext fv=none) (Tv:Extern.find fv=some (Extern.SlicesOverlaps.overlaps #[(ρ.t 24),(ρ.t 24)] #[(ρ.t 4)])):Qx P ρ nm fv:=
 ⟨hm,f22,n22,f29,n29,T9,UH,Tv,h.t0,run_isAgg_plain h.t0 rfl,GW h.s0,I4 h.v0,h.t3,run_isAgg_plain h.t3 rfl,GW h.s3,I4 h.v3,h.t4,run_isAgg_plain h.t4 rfl,GW h.s4,I4 h.v4,h.t24,run_isAgg_plain h.t24 rfl,GW h.Ti,I4 h.v24⟩
@[reducible] def BX (f22 f24 f29 f30 t24 t9:Nat):Ren:=⟨fun k=>if k=22 then f22 else if k=24 then f24 else if k=29 then f29 else if k=30 then f30 else k,fun k=>if k=24 then t24 else if k=9 then t9 else k,fun k=>k⟩
end
end Go.Fw
end
section
namespace Go.Fw
open Go
def Nd(n:Int):Option V7:=if-9223372036854775808≤n∧n≤9223372036854775807 then some (Go.Lib.itoa n)else none
def Gd(s p:V7):Option Bool:=if s.length<4294967281 then some (Go.Lib.contains s p)else none
end Go.Fw
end
section
namespace Go.Fw
open Go.M Go.Proofs Go.Shelf Go.RowKit
theorem Ik{P:Program}{f:Nat}{ins outs:List (Nat×XP)}{g:CS.V ⟨ins,[]⟩→Option (CS.V ⟨outs,[]⟩)}
  (Da:EN.ok ⟨⟨ins,[]⟩,⟨outs,[]⟩,g⟩=true) (Ra:∀args w,(callFunc f args).run P w= .ok (.enter f args) w)
  (h:∀(E:Env) (w:World) (x:Aw.V ins) (args:Array Value) (u:Aw.V outs),args.size=ins.length→GI w→B_ E w [] id ins x args.toList→g (x,())=some (u,())→
   Calls P f args w fun e w' => ∃v,e= .returned v∧Below w.heap.size w w'∧B_ E w' [] id outs u [v]):
  DL P f ⟨⟨ins,[]⟩,⟨outs,[]⟩,g⟩:=by
 refine⟨Da,Ra,fun E w v args u CK hB hS hg=> ?_⟩;obtain⟨x,⟨⟩⟩:=v;obtain⟨u,⟨⟩⟩:=u;have hT:∀{w':World},Below w.heap.size w w'→ ∀c,E.T c→w'.heap[c]? =w.heap[c]?:=fun hb c hc=>hb.block c (hB.GD c hc)
 refine(h E w x args u CK (hB.Lo w fun _ _=>rfl) hS hg).mono fun e w' hR=> ?_
 obtain⟨v,rfl,hb,hs⟩:=hR;exact⟨v,E,rfl,⟨fun _ h=>h,fun _ h=>h,fun _ h=> .inl h,fun _ h=> .inl h,hT hb,hb.os,hb.tape,hb.output,hb.size⟩,
  ⟨[],⟨rfl,fun k B F h=>by simp[BQ.mk]at h⟩,by simp,by simp,by simp,hB.st,fun c hc=>Wq (hB.GD c hc) hb.size,hB.Lo.mono (fun _ h=>h) (hT hb)⟩,hs,fun i hi=>by simp at hi⟩
theorem M9{w:World}(k:Nat)(os:Array Obj):Below w.heap.size w (Go.Sort.grow (w.drewN k) os):=
 ⟨rfl,rfl,rfl,by simp[Go.Sort.grow,World.drewN],fun c hc=>by
  show(w.heap++os)[c]? =_
  rw[Array.getElem?_append_left hc]⟩
theorem Re{args:Array Value}{a:Value}(hl:args.size=1)(h:args.toList[0]? =some a):args= #[a]:=by
 apply Xw
 match hq:args.toList,(show args.toList.length=1 from hl)with
 |[b],_=>rw[hq]at h;simp at h;simp[h]
theorem Rr{args:Array Value}{a b:Value}(hl:args.size=2)(h:args.toList[0]? =some a)(h2:args.toList[1]? =some b):args= #[a,b]:=by
 apply Xw
 match hq:args.toList,(show args.toList.length=2 from hl)with
 |[c,d],_=>rw[hq]at h h2;simp at h h2;simp[h,h2]
theorem Qy{E:Env}{w:World}{vw:List Bx}{n:Int}{v:Value}(h:XR E w vw (.c (.v (.int .i64) n)) v):v= .int .i64 n:=by
 have:VR E w vw (.v (.int .i64) n) v:=h;simp only[VR,Rd,Wg,W3]at this;exact this.2
theorem OW{E:Env}{w:World}{vw:List Bx}{n:V7}{v:Value}(h:XR E w vw (.c (.v .str n)) v):v= .string ⟨n.toArray⟩:=by
 have:VR E w vw (.v .str n) v:=h;simp only[VR,Rd,Wg,W3]at this;exact this.2
abbrev sI:XP:= .c (.v (.int .i64))
abbrev sS:XP:= .c (.v .str)
abbrev sB:XP:= .c (.v .bool)
theorem Mw{P:Program}{ρ:Ren}(L:LaysM.n171 P ρ)(Ra:∀args w,(callFunc (ρ.f 171) args).run P w= .ok (.enter (ρ.f 171) args) w)(Pl:∀w,GI w→Go.Lib.TabIs P w "internal/strconv.uint64pow10" .u64 Go.Lib.pow10Tab):
  DL P (ρ.f 171) ⟨⟨[(0,sI)],[]⟩,⟨[(0,sS)],[]⟩,fun v=>(Nd v.1.1).map fun l=>((l,()),())⟩:=by
 refine Ik rfl Ra fun E w x args u CK hG hS hg=> ?_
 obtain⟨n,⟨⟩⟩:=x;obtain⟨⟨v0,h0,x0⟩,_⟩:=hS;obtain rfl:=Re CK h0;obtain rfl:=Qy x0;simp only[WM]at hg;obtain⟨l,hl,hg⟩:=hg;unfold Nd at hl;split at hl
 case isFalse=>cases hl
 rename_i hc;cases hl;cases hg;refine(Any.strconv_Itoa L n hc.1 hc.2 w (Pl w hG)).mono fun e w' h=> ?_
 obtain⟨rfl,k,os,rfl⟩:=h;exact⟨_,rfl,M9 k os,⟨_,rfl,rfl,rfl⟩,trivial⟩
theorem Jf{P:Program}{ρ:Ren}(L:Lays.n144 P ρ)(Ra:∀args w,(callFunc (ρ.f 144) args).run P w= .ok (.enter (ρ.f 144) args) w)(Pl:∀w:World,GI w→ ∃m,w.cell? ⟨ρ.g 1,0,none⟩=some (.int .i64 m)):
  DL P (ρ.f 144) ⟨⟨[(0,sS),(1,sS)],[]⟩,⟨[(0,sB)],[]⟩,fun v=>(Gd v.1.1 v.1.2.1).map fun l=>((l,()),())⟩:=by
 refine Ik rfl Ra fun E w x args u CK hG hS hg=> ?_
 obtain⟨s,p,⟨⟩⟩:=x;obtain⟨⟨v0,h0,x0⟩,⟨v1,h1,x1⟩,_⟩:=hS;obtain rfl:=Rr CK h0 h1;obtain rfl:=OW x0;obtain rfl:=OW x1;simp only[WM]at hg;obtain⟨l,hl,hg⟩:=hg;unfold Gd at hl;split at hl
 case isFalse=>cases hl
 rename_i hc;cases hl;cases hg;obtain⟨m,hm⟩:=Pl w hG;refine(Any.strings_Contains L ⟨s.toArray⟩ ⟨p.toArray⟩ m w (by simpa[ByteArray.size]using hc) hm).mono fun e w' h=> ?_
 obtain⟨rfl,rfl⟩:=h;exact⟨_,rfl,Below.refl _ _,⟨_,rfl,rfl,rfl⟩,trivial⟩
def UM{P:Program}{f f':Nat}{i o:CS}{F:i.V→Option o.V}(h:DL P f' ⟨i,o,F⟩)(hf:f' =f)(g:i.Cu (Option o.V))(hg:∀v:i.V,i.un g v=F v):SP P:=
 ⟨f,⟨i,o,i.un g⟩,by rw[funext hg,←hf];exact h⟩
end Go.Fw
end
section
namespace Go.Fw
open Go Go.RowKit
theorem KR{H:Type}{enc:TypeId×Value→H}{a:Assume}{C:Checked}{os:Os}{f:FuncId}{fn:Func}{s:ChangeSpec}{conds:List PathCond}{apart fresh handsOn again:Bool}{X:World→Array Value→Prop}
  (hX:∀(w w':World) (args:Array Value),w.heap=w'.heap→X w args→X w' args)
  (own:ownKnob C.prog.godebug=none) (started:os.Started) (Qm:C.prog.inits.idxOf? f=none) (Sy:C.prog.funcs[f]? =some fn)
  (witness:∃(w:World) (tape:Tape) (i:Input),w.os=os∧(w.forCall tape i).Shaped C.prog∧i.vars=[]∧Input.okWide C.prog (w.forCall tape i) .any w.heap.size f i∧
   ((s.pre enc C.prog fn conds apart (w.forCall tape i).memory i.args∧X (w.forCall tape i).memory i.args)∧sizedMet enc C.prog fn (OpenSpec.ofChange s) apart (w.forCall tape i).memory i.args)∧a.holds C.prog (lone (Frame.enter C.prog f i.args .normal) [] (w.forCall tape i)))
  (O4:∀(W:World) (base:Nat) (args:Array Value) (ds gs:List (DataW H)) (before:List MemPlace),
   (∀(j:Nat) t v,fn.params[j]? =some t→args[j]? =some v→Value.okWide C.prog W .any base t v)→
   DataW.Whole enc C.prog fn.params.toList s.vars apart W args.toList ds gs before→X W args→W.ShapedOpen C.prog→
   Calls C.prog f args W fun e W' => ∃v,e= .returned v∧s.post enc C.prog fn apart fresh handsOn again W args v W'):
  ReturnsInHanded a C os f .any (fun w args=>(s.pre enc C.prog fn conds apart w args∧X w args)∧sizedMet enc C.prog fn (OpenSpec.ofChange s) apart w args) (s.post enc C.prog fn apart fresh handsOn again):=by
 refine returnsInHanded_of_calls own started Qm witness ?_
 intro w tape i _ Rk _ Da Sw _;obtain⟨_,_,_,fn',hfn',_,_,_,_,Pr⟩:=Da;have e:fn' =fn:=Option.some.inj (hfn'.symm.trans Sy);subst e;obtain⟨⟨⟨ds,gs,before,hw,hc⟩,hx⟩,hz⟩:=Sw;have Q_:=DataW.Whole.of_heap (w':=w.forCall tape i) (by rfl) hw;refine(O4 (w.forCall tape i) w.heap.size i.args ds gs before Pr Q_ (hX _ _ _ (by rfl) hx) Rk).mono fun e W' ⟨v,he,hp⟩=> ?_
 subst he;exact ChangeSpec.post_blind hp
end Go.Fw
end
