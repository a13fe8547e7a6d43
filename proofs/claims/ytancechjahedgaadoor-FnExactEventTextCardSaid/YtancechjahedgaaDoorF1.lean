/- The framework, part 2: a checked interpreter of the model's code over abstract states; no claim is made here. -/
import Derived.Test.YtancechjahedgaaDoorF0
import Derived.Below
import Derived.ChangeArms
import Derived.ChangeOld
import Derived.DataReads
import Derived.Handed
import Derived.Lib.AtoiAll
import Derived.Lib.IndexMore
import Derived.Lib.ItoaNum
import Derived.Lib.SlicesS
import Derived.Lib.Strings
import Derived.MakeChecks
import Derived.OrdersHeld
import Derived.Shelf.Slices.Delete
import Derived.Shelf.Slices.Turned
import Derived.Shelf.Spec.SlicesInsertGrow
import Derived.Shelf.Strconv.Itoa3
import Derived.Shelf.Strings.Cut
import Derived.Shelf.Strings.Prefix
import Derived.Shelf.Strings.Search3
import Derived.Stop.LaidErr
import Derived.Tactics
set_option linter.unusedVariables false
set_option linter.unusedSimpArgs false
set_option linter.unusedSectionVars false
section
namespace Go.Fw
theorem H0{E:Env}{w:World}{vw:List Bx}:∀{l:List XV} {bs:T7} {vs:List Value},Kr l=some bs→AF (XR E w vw) l vs→(∀b∈bs,b<vw.length)∧vs=bs.map fun b=>Value.pointer (some ⟨E.A5 b,0,none⟩)
 |[],bs,vs,e,h=>by
  simp only[Kr,UG]at e;subst e;cases vs with
  |nil=>exact⟨by simp,rfl⟩
  |cons _ _=>exact h.elim
 |x::l,bs,vs,e,h=>by
  unfold Kr at e;split at e
  ·rename_i heq;cases heq
  ·rename_i b l' heq
   cases heq;simp only[UI]at e;obtain⟨r,e1,rfl⟩:=e;cases vs with
   |nil=>exact h.elim
   |cons v vs=>
    obtain⟨h1,h2⟩:=h;obtain⟨k1,k2⟩:=H0 e1 h2;obtain⟨h3,h4⟩:b<vw.length∧v= .pointer (some ⟨E.A5 b,0,none⟩):=h1;exact⟨fun c hc=>(Uo.1 hc).elim (fun e=>e▸h3) (k1 c),by rw[h4,k2];rfl⟩
  ·cases e
theorem Qt{E:Env}{σ:St}{a:Act}{w:World}(h:Rel E σ a w):∀l:List Operand,AF (XR E w σ.bx) (l.map σ.ev) (l.map a.eval)
 |[]=>trivial
 |x::l=>⟨h.ev x,Qt h l⟩
theorem MC{E:Env}{σ:St}{a:Act}{w:World}(h:Rel E σ a w):∀o:Option Operand,OR E w σ.bx (o.map σ.ev) (o.map a.eval)
 |none=>trivial
 |some x=>h.ev x
theorem Ka{w:World}{S:Nat→Prop}:∀{p:List HW} {d:Nat} {r:Ty} {h:Value} {rows:List r.D} {F:T7} {q:Ty} {ys:List q.D} {v:Value},Ow w S d (.sl r) [h] rows F→AM r rows p→
  Aq r rows p=some ⟨q,ys⟩→d≤p.length→BG w h p=some v→Rd w S (.sl q) [v] ys
 |p,0,r,h,rows,F,q,ys,v,ho,hp,hg,_,hv=>by
  simp only[Ow]at ho;obtain⟨h',k,hr⟩:=Hn ho.1 hp hg;have:=k w (fun _ _=>rfl);rw[hv]at this;cases this;exact hr
 |[],d+1,r,h,rows,F,q,ys,v,ho,hp,hg,hd,hv=>by simp at hd
 |s::p,d+1,r,h,rows,F,q,ys,v,ho,hp,hg,hd,hv=>by
  simp only[AM]at hp;obtain⟨hi,CB,hp⟩:=hp;simp only[Aq]at hg;obtain⟨a,len,cap,rfl⟩:∃a len cap,h= .slice a len cap:=by
   have:=ho;simp only[Ow]at this;obtain⟨a,cap,e,_⟩:=this;simp only[Ua,Us]at e;exact⟨_,_,_,e⟩
  split at hg
  case h_2=>cases hg
  rename_i q' x' E_;rw[E_]at hp;obtain⟨b,o,arr,ty,fr,cs,G,R,rfl,hb,hu,hbd,c1,c2,c3,HT,hback⟩:=Jx ho hi;obtain⟨u,A1,A2,k1,k2,k3,k4⟩:=Fb c3 E_;simp only[BG]at hv;rw[CB,c2 _ _ k1]at hv;exact Ka k2 hp hg (by simp at hd;omega) hv
theorem Lk{E:Env}{σ:St}{a:Act}{w:World}(h:Rel E σ a w){b i sz j:Nat}{p:List HW}{va v:Value}(Nq:VR E w σ.bx (.BH b p i sz j) va){x:XV}(hv:XR E w σ.bx x v)(PS:∀u∈v.cells.toList,u.oneCell' =true)
  {σ':St} (e:FK σ (.c (.BH b p i sz j)) x=some σ'):
  ∃bb oo E',va= .pointer (some ⟨bb,oo,none⟩)∧w.there bb oo v.cells.toList.length∧Rel E' σ' a (w.setCells bb oo v.cells.toList)∧CX [b] E σ.bx w E' σ'.bx (w.setCells bb oo v.cells.toList)∧σ'.tm.length=σ.tm.length:=by
 unfold FK EN at e;split at e
 ·rename_i b0 _ _ _ _ b' s p' off n heq
  cases heq;split at e
  case isFalse=>cases e
  rename_i Nz;subst Nz;split at e
  case h_2=>cases e
  rename_i d r rows hb;simp only[UJ,UI]at e;obtain⟨q,⟨⟨q0,ys⟩,hg,rfl⟩,e⟩:=e;dsimp only at e;have CK:=(UF.1 hb).1;obtain⟨F,⟨hd1,ho⟩,hB⟩:=h.bx.take hb;obtain⟨A,W,pF,O1⟩:=BO (d:=min d (p'.length+1)) (by omega) ho;have DQ:=hB.perm (G':=A++W++[]) (by rw[Ud,Ud];exact pF);obtain⟨hle,hB3⟩:=DQ.share
  generalize Tn:({ E with S:=fun c=>E.S c∨c∈W,T:=fun c=>E.T c∨c∈W }:Env)=E1 at hle hB3
  have Qm:Ow w E1.S (min d (p'.length+1)) (.sl r) [E1.A7 b'] rows A:=by
   rw[hle.A7];subst Tn;exact O1
  have Qn:=hB3.put (b:=b') (B:= .sl (min d (p'.length+1)) r rows) (by rw[UQ CK]) ⟨by omega,Qm⟩;rw[VZ]at Qn;have hk:Cm E w σ.bx E1 w (σ.bx.set b' (.sl (min d (p'.length+1)) r rows)):=by
   refine⟨by simp,fun _ _=>by rw[hle.A5],hle.T,hle.S,h.bx.st,fun _ _=>rfl,fun c d' r' rows' hc e=> ?_⟩;by_cases Mn:b' =c
   ·subst Mn
    rw[UQ CK]at e;simp only[UG,Bx.sl.injEq]at e;obtain⟨rfl,rfl,e⟩:=e;obtain rfl:=Uc e;exact⟨d,rows,hb,fun p hp q ys hg=>⟨hp,⟨ys,hg,rfl⟩,fun h' hh=>by rw[hle.A7];exact hh⟩⟩
   ·rw[UL Mn]at e
    exact⟨d',rows',e,fun p hp q ys hg=>⟨hp,⟨ys,hg,rfl⟩,fun h' hh=>by rw[hle.A7];exact hh⟩⟩
  have Ex:VR E w σ.bx (.win b' (s::p') off n) v:=hv;have ER:XR E1 w (σ.bx.set b' (.sl (min d (p'.length+1)) r rows)) (.c (.sl true q0 ((ys.drop off).take n))) v:=by
   simp only[VR,hb]at Ex;obtain⟨_,hp,q1,ys1,a1,len,cap,g1,g2,g3,rfl⟩:=Ex;rw[hg]at g1;simp only[UG,UP]at g1;obtain⟨rfl,g1⟩:=g1;obtain rfl:=Uc g1;have:=Ka Qm hp hg (by simp only[Uf];omega) (by rw[hle.A7];exact g3);exact Lj this g2
  have hr:Rel E1 { σ with bx:=σ.bx.set b' (.sl (min d (p'.length+1)) r rows) } a w:=
   ⟨h.Bu,h.tm.imp fun _ _ hx=>B_ hk hx,Qn.turn (E':=E1) (w':=w) (fun _ _ hv=>Al ⟨by simp,fun _ _=>rfl,fun _ h=>h,fun _ h=>h,hB3.st,fun _ _=>rfl,fun c d' r' rows' hc e=>by
    by_cases Mn:b' =c
    ·subst Mn
     rw[UQ CK]at e;simp only[UG,Bx.sl.injEq]at e;obtain⟨rfl,rfl,e⟩:=e;obtain rfl:=Uc e;exact⟨d,rows,hb,fun p hp q ys hg=>⟨hp,⟨ys,hg,rfl⟩,fun h' hh=>hh⟩⟩
    ·rw[UL Mn]at e
     exact⟨d',rows',e,fun p hp q ys hg=>⟨hp,⟨ys,hg,rfl⟩,fun h' hh=>hh⟩⟩⟩ hv) (fun _ h=>h) (fun _ _=>rfl) (fun _ _=>rfl) (fun _ _ _=>rfl) fun F hF=>hF⟩
  obtain⟨bb,oo,E',q1,q2,q3,q4,q5⟩:=JW hr (Al hk Nq) ER PS e;refine⟨bb,oo,E',q1,q2,q3,⟨(hle.base w).trans q4.base,by simpa using q4.len,fun c hc=> ?_,fun c hc=> ?_,fun c B B' R6 hB CZ hd=> ?_⟩,q5⟩
  ·have:=q4.ids c (by simpa using hc)
   exact⟨this.1.trans (by rw[hle.A5]),this.2.trans (by rw[hle.A7])⟩
  ·refine q4.dead c ?_
   have Mn:b'≠c:=fun e=>by subst e;rw[hb]at hc;cases hc
   simp only;rw[UL Mn];exact hc
  ·have Mn:b'≠c:=fun e=>R6 (by simp[e])
   obtain⟨f1,f2⟩:=q4.frame c B B' R6 (by simp only;rw[UL Mn];exact hB) CZ hd;refine⟨f1,fun c' Hj=>f2 c' ?_⟩;cases B with
   |mem cs=>exact Hj.trans (by rw[hle.A5])
   |sl d0 r0 CV=>simp only[K_]at Hj⊢;rw[hle.A7];exact Hj
   |dead=>exact Hj
 ·simp only[Uw]at e
  exact JW h Nq hv PS e
def Ik:Op→Bool
 | .call { callee:= .value _,.. }=>true
 |_=>false
section
variable{Y:Type} {P:Program} {T:BQ} (hT:Ag P T) {o:Oper} {E:Env} {σ:St} {a:Act} {w:World} {k:K Y} {y:Y}
include hT
theorem LG(h:Rel E σ a w){t:TypeId}{oa ox:Operand}(ho:o.op= .store t oa ox){ti:TI}(Ce:T.get t=some ti)
  (hc:(σ.ev ox).cells.length=ti.size∧ti.size≠0∧(σ.ev ox).cells.all AV.known=true) {σ':St} (hs:FK σ (σ.ev oa) (σ.ev ox)=some σ') (e:k (.c .undef) σ' =some y):BV P o E σ a w k y:=by
 obtain⟨c1,c2,c3⟩:=hc;have Ht:(σ.ev ox).cells≠[]:=fun hh=>by rw[hh]at c1;exact c2 c1.symm
 obtain⟨Dg,PS⟩:=Ie (h.ev ox) c3 Ht;have hlen:(a.eval ox).cells.toList.length=ti.size:=by rw[←AF.len Dg];exact c1
 have hi:(P.info? t).map (·.size)=some (a.eval ox).cells.toList.length:=by rw[hlen];exact Ag.size hT Ce
 have Nq:=h.ev oa;have fin:∀{bb oo:Nat} {E':Env},a.eval oa= .pointer (some ⟨bb,oo,none⟩)→w.there bb oo (a.eval ox).cells.toList.length→Rel E' σ' a (w.setCells bb oo (a.eval ox).cells.toList)→
   CX (A_ (fun _=>none) σ o.op) E σ.bx w E' σ'.bx (w.setCells bb oo (a.eval ox).cells.toList)→σ'.tm.length=σ.tm.length→BV P o E σ a w k y:=by
  intro bb oo E' e1 e2 e3 e4 e5;have hr:=Ha (P:=P) e2 hi PS;refine⟨undef,_,E',.c .undef,σ',.inr ⟨?_,rfl⟩,e3,trivial,e4,e5,e⟩;simp only[execOp,ho,e1,Sem.run_bind,hr,Result.andThen_ok,Sem.run_pure]
 generalize SY:σ.ev oa=xa at hs Nq
 cases xa with
 |agg l=>simp[FK,EN,Fo]at hs
 |C9 l=>simp[FK,EN,Fo]at hs
 |c x=>
  cases x with
  |A6 b j=>
   simp only[FK,EN,Uw,Fo]at hs;split at hs
   case h_2=>cases hs
   rename_i cs hb;simp only[UI]at hs;obtain⟨Eu,hs,rfl⟩:=hs;have RQ:b<σ.bx.length∧a.eval oa= .pointer (some ⟨E.A5 b,j,none⟩):=Nq;obtain⟨q1,q2,q3⟩:=Mg h hb Dg Ht hs;exact fin RQ.2 q1 q2 (by rw[ho];simp only[A_,SY];exact q3) rfl
  |BH b p i sz j=>
   obtain⟨bb,oo,E',q1,q2,q3,q4,q5⟩:=Lk h Nq (h.ev ox) PS hs;exact fin q1 q2 q3 (by rw[ho];simp only[A_,SY];exact q4) q5
  |_=>simp[FK,EN,Fo]at hs
omit hT in
theorem K7(h:Rel E σ a w){x:Operand}(ho:o.op= .assign x)(e:EV σ (σ.ev x) k=some y):BV P o E σ a w k y:=by
 have hr:(execOp a.eval o).run P w= .ok (.value (a.eval x)) w:=by simp only[execOp,ho,Sem.run_pure]
 have hv:=h.ev x;unfold EV at e;split at e
 ·rename_i b off n hx
  rw[hx]at hv;simp only[UJ]at e;obtain⟨⟨r,rows,bx,d⟩,e1,e⟩:=e;dsimp only at e;have Ep:VR E w σ.bx (.win b [] off n) (a.eval x):=hv;obtain⟨hd,F1,F2,k1,ho1⟩:=Fh h.bx (Ac.refl _) Ep e1;obtain⟨Fs0,Qy,DQ⟩:=k1.boxes;simp only[Ud]at DQ;have nd:=(UN.1 (UN.1 DQ.nodup).2.1).1;obtain⟨r1,r2,r3⟩:=Cv h k1 (w':=w) hd ho1 (fun c hc=> .inl (UU.2 (.inl hc))) nd (fun c hc=>DQ.lt c (by simp[hc])) (fun _ _ _=>rfl) ⟨rfl,rfl,rfl,Ui _⟩;exact⟨_,_,_,_,_,.inl hr,r1,r3,r2.any,rfl,e⟩
 ·exact BV.same h hr hv e
theorem Md{Γ:Nat→Option Dn}(h:Rel E σ a w)(e:DY T Γ o σ k=some y)(Jh:Ik o.op=false):BV P o E σ a w k y:=by
 have same:∀{v:Value} {x:XV},(execOp a.eval o).run P w= .ok (.value v) w→XR E w σ.bx x v→k x σ=some y→BV P o E σ a w k y:=fun h1 h2 h3=>BV.same h h1 h2 h3
 obtain⟨Fs,hB,hS⟩:=h.bx;have st:=hS.st;unfold DY at e;split at e
 ·rename_i x ho
  exact same (v:=a.eval x) (by simp only[execOp,ho,Sem.run_pure]) (h.ev x) e
 ·rename_i x ho
  exact K7 h ho e
 ·rename_i c xa xb ho
  split at e
  case h_2=>cases e
  rename_i p hp;have hc:=h.ev c;rw[hp]at hc;have Hj:=CY (E:=E) (w:=w) (vw:=σ.bx) hc;refine same (v:=if p then a.eval xa else a.eval xb) (x:=if p then σ.ev xa else σ.ev xb) (by simp[execOp,ho,Hj,asBool]) (by cases p<;>simp[h.ev]) ?_
  cases p<;>simpa[Nc]using e
 ·rename_i t ho
  split at e
  case h_2=>cases e
  rename_i r hr;exact LN hT h ho hr e
 ·rename_i t x ho
  split at e
  case h_2=>cases e
  rename_i ti Ce;split at e
  case isFalse=>cases e
  rename_i hc;exact Mr h ho hc.2.2 (fun hh=>by rw[hh]at hc;exact hc.2.1 hc.1.symm) e
 ·rename_i t ps ho
  split at e
  case h_2=>cases e
  rename_i s b fs rw r Ce hr;split at e
  case h_2=>cases e
  rename_i cs Mp;exact LA hT h ho Ce hr Mp e
 ·rename_i t n ps ho
  exact Hc hT h ho e
 ·rename_i t x ho
  split at e
  case h_2=>cases e
  rename_i z hz;obtain⟨u,h1,h2⟩:=Kj hT hB st hz (h.ev x);exact same (by simp only[execOp,ho,Sem.run_bind,h1,Result.andThen_ok,Sem.run_pure]) h2 e
 ·rename_i t xa xx ho
  split at e
  case h_2=>cases e
  rename_i ti Ce;split at e
  case isFalse=>cases e
  rename_i hc;split at e
  case h_2=>cases e
  rename_i σ' hs;exact LG hT h ho Ce hc hs e
 ·rename_i x ho
  have hx:=h.ev x;split at e
  ·rename_i b j hp
   rw[hp]at hx;have Mq:b<σ.bx.length∧a.eval x= .pointer (some ⟨E.A5 b,j,none⟩):=hx;exact same (v:=a.eval x) (by simp only[execOp,ho,Mq.2,Sem.run_pure]) hx e
  ·rename_i b p i sz j hp
   rw[hp]at hx;have NQ:Ez (a.eval x)=true:=hx.1;refine same (v:=a.eval x) ?_ hx e
   unfold Ez at NQ;split at NQ
   ·rename_i hv
    simp only[execOp,ho,hv,Sem.run_pure]
   ·cases NQ
  ·rename_i s r z j hp
   rw[hp]at hx;obtain⟨bb,oo,cs,hv,hrest⟩:=hx;exact same (v:=a.eval x) (x:= .c (.B3 s r z j)) (by simp only[execOp,ho,hv,Sem.run_pure]) ⟨bb,oo,cs,hv,hrest⟩ e
  ·rename_i f BL hp
   rw[hp]at hx;have Mq:(∀b∈BL,b<σ.bx.length)∧a.eval x= .func (.func f) #[] (BL.map fun b=>Value.pointer (some ⟨E.A5 b,0,none⟩)).toArray:=hx;exact same (v:=a.eval x) (by simp only[execOp,ho,Mq.2,Sem.run_pure]) hx e
  ·cases e
 ·rename_i op t x z s ho
  obtain⟨r,val,h1,h2,h3⟩:=Fp hT e (h.ev x) (h.ev z) x z;exact same (v:=val) (x:= .c r) (by
   simp only[execOp,ho,Sem.run_bind];simp only[Sem.run_bind]at h2;rw[h2];rfl) h3 h1
 ·rename_i op t x ho
  obtain⟨r,val,h1,h2,h3⟩:=HA (P:=P) e (h.ev x);exact same (v:=val) (x:= .c r) (by simp only[execOp,ho,Sem.run_bind,h2,Result.andThen_ok,Sem.run_pure]) h3 h1
 ·rename_i s d x ho
  exact MY hT h ho e
 ·rename_i f first BL ho
  split at e
  case isFalse=>cases e
  rename_i hf;split at e
  case h_2=>cases e
  rename_i bs Tb;obtain⟨q1,q2⟩:=H0 Tb (Qt h BL.toList);have O9:first.map a.eval= #[]:=by
   have:first= #[]:=Array.eq_empty_of_size_eq_zero hf;rw[this];simp
  have Po:BL.map a.eval=(bs.map fun b=>Value.pointer (some ⟨E.A5 b,0,none⟩)).toArray:=by
   apply Array.ext';simpa using q2
  refine same (v:= .func (.func f) #[] (bs.map fun b=>Value.pointer (some ⟨E.A5 b,0,none⟩)).toArray) ?_ (x:= .c (.fn f bs)) ⟨q1,rfl⟩ e
  simp only[execOp,ho,Instr.makeFunc,O9,Po,Sem.run_bind,Sem.run_pure,Result.andThen_ok]
 ·rename_i t l c ho
  exact MM hT h ho e
 ·rename_i t x lo hi ho
  obtain⟨z,val,h1,h2,h3⟩:=Gd hT hB st e (h.ev x) (MC h lo) (MC h hi);exact same (v:=val) (by simp only[execOp,ho,Option.map_none,Sem.run_bind,h2,Result.andThen_ok,Sem.run_pure]) h3 h1
 ·rename_i t x f ho
  split at e
  case h_2=>cases e
  rename_i z hz;obtain⟨u,h1,h2⟩:=GZ hT hz (h.ev x);exact same (by simp only[execOp,ho,Sem.run_bind,h1,Result.andThen_ok,Sem.run_pure]) h2 e
 ·rename_i t x f ho
  split at e
  case h_2=>cases e
  rename_i z hz;obtain⟨u,h1,h2⟩:=HQ hT hz (h.ev x);exact same (by simp only[execOp,ho,Sem.run_bind,h1,Result.andThen_ok,Sem.run_pure]) h2 e
 ·rename_i t x i ho
  obtain⟨z,val,h1,h2,h3⟩:=Gn hT hB st e (h.ev x) (h.ev i);exact same (v:=val) (by simp only[execOp,ho,Sem.run_bind,h2,Result.andThen_ok,Sem.run_pure]) h3 h1
 ·rename_i t x i ho
  obtain⟨z,val,h1,h2,h3⟩:=Es hT e (h.ev x) (h.ev i);exact same (v:=val) (by simp only[execOp,ho,Sem.run_bind,h2,Result.andThen_ok,Sem.run_pure]) h3 h1
 ·rename_i x i ho
  split at e
  case h_2=>cases e
  rename_i z hz;obtain⟨u,h1,h2⟩:=FC (P:=P) hz (h.ev x);exact same (by simp only[execOp,ho,Sem.run_bind,h1,Result.andThen_ok,Sem.run_pure]) h2 e
 ·rename_i f args JR ho
  rw[ho]at Jh;cases Jh
 ·rename_i args JR ho
  split at e
  ·rename_i s t BC Oz
   obtain⟨x,rfl,hx⟩:=DZ BC;have hv:=h.ev x;rw[hx]at hv;have Ep:=Dj (E:=E) (w:=w) (vw:=σ.bx) hv;split at e
   case isFalse=>cases e
   rename_i hs;have hu:=DV hT hs;refine same (v:= .int .i64 (s.length:Int)) (x:= .c (.v (.int .i64) (s.length:Int))) ?_ (VR.int (E:=E) (vw:=σ.bx) _ _) e
   have CB:(⟨s.toArray⟩:ByteArray).size=s.length:=by simp[ByteArray.size]
   simp[execOp,ho,resolve,invoke,builtin,Builtin.len_,Oz,Ep,AD hu,goInt,CB]
  ·rename_i z t _ BC Oz
   obtain⟨x,rfl,hx⟩:=DZ BC;have hv:=h.ev x;rw[hx]at hv;split at e
   case isFalse=>cases e
   rename_i hs;split at e
   case h_2=>cases e
   rename_i n hn;obtain⟨el,hu⟩:=Gv hT hs;obtain⟨ad,cap,Ep⟩:=HJ hB st hn hv;refine same (v:= .int .i64 (n:Int)) (x:= .c (.v (.int .i64) (n:Int))) ?_ (VR.int (E:=E) (vw:=σ.bx) _ _) e
   simp[execOp,ho,resolve,invoke,builtin,Builtin.len_,Oz,Ep,AD hu,goInt]
  ·cases e
 ·rename_i args JR ho
  split at e
  case h_2=>cases e
  rename_i x1 x2 BC;exact Ky hT h ho rfl BC e
 ·rename_i args JR ho
  split at e
  case h_2=>cases e
  rename_i x BC;exact LD hT h ho rfl BC e (fun b p off n hx=>by rw[ho];simp only[A_];rw[BC,hx])
 ·rename_i args JR ho
  split at e
  case h_2=>cases e
  rename_i x1 x2 BC;obtain⟨o1,o2,rfl,hx1,hx2⟩:=Dc BC;have Ex:=h.ev o1;have ER:=h.ev o2;rw[hx1]at Ex;rw[hx2]at ER;obtain⟨r,val,h1,h2,h3⟩:=Ct (P:=P) (big:=true) e Ex ER JR #[] o.type;simp only[VN]at h2;exact same (v:=val) (x:= .c r) (by simp[execOp,ho,resolve,invoke,builtin,h2]) h3 h1
 ·rename_i args JR ho
  split at e
  case h_2=>cases e
  rename_i x1 x2 BC;obtain⟨o1,o2,rfl,hx1,hx2⟩:=Dc BC;have Ex:=h.ev o1;have ER:=h.ev o2;rw[hx1]at Ex;rw[hx2]at ER;obtain⟨r,val,h1,h2,h3⟩:=Ct (P:=P) (big:=false) e Ex ER JR #[] o.type;simp only[Ut,VI]at h2;exact same (v:=val) (x:= .c r) (by simp[execOp,ho,resolve,invoke,builtin,h2]) h3 h1
 ·cases e
end
end Go.Fw
end
section
namespace Go.Fw
def alive(l:List BP)(i:Nat):Bool:=
 match l[i]? with
 |some .gone=>false
 |some _=>true
 |none=>false
def AP.Br(l:List BP):AP→Bool
 | .sl s _=>s
 | .Km _=>false
 | .G8 _ _=>false
 | .J2 _ _=>false
 | .ref i=>decide (i<l.length)
 | .ptr i _=>alive l i
 | .fn _ BL=>BL.all (alive l)
 |_=>true
def XP.Br(l:List BP):XP→Bool
 | .c p=>p.Br l
 | .agg q=>q.all (AP.Br l)
 | .C9 q=>q.all fun| .inl p=>p.Br l| .inr q=>q.all (AP.Br l)
 | .row _=>false
def BP.Br(l:List BP):BP→Bool
 | .mem q=>q.all (AP.Br l)
 |_=>true
def kinds:List BP→List BP→Bool
 |[],_=>true
 | .mem _::l,.mem _::m=>kinds l m
 | .sl _ r::l,.sl _ q::m=>decide (r=q)&&kinds l m
 | .mem _::l,.gone::m=>kinds l m
 | .sl _ _::l,.gone::m=>kinds l m
 |_,_=>false
def IH(l:List BP):List (Nat×XP)→Bool
 |[(0,p)]=>p.Br l
 |_=>false
def Dn.ok(c:Dn):Bool:=
 kinds c.ins.Ar c.outs.Ar&&IH c.outs.Ar c.outs.AX&&c.outs.Ar.all (BP.Br c.outs.Ar)
theorem Dk:∀{l m:List BP},kinds l m=true→l.length≤m.length∧ ∀(i:Nat) p,l[i]? =some p→p≠ .gone∧ ∀d r,m[i]? =some (.sl d r)→ ∃d',p= .sl d' r
 |[],m,_=>⟨by simp,fun i p h=>by simp at h⟩
 | .gone::l,[],h=>by simp[kinds]at h
 | .gone::l,_::_,h=>by simp[kinds]at h
 | .mem _::l,[],h=>by simp[kinds]at h
 | .sl _ _::l,[],h=>by simp[kinds]at h
 | .mem q::l,.mem _::m,h=>by
  obtain⟨h1,h2⟩:=Dk (l:=l) (m:=m) (by simpa[kinds]using h);refine⟨by simpa using h1,fun i p hp=> ?_⟩;cases i with
  |zero=>simp at hp;subst hp;exact⟨by simp,fun d r hh=>by simp at hh⟩
  |succ i=>simpa using h2 i p (by simpa using hp)
 | .mem q::l,.gone::m,h=>by
  obtain⟨h1,h2⟩:=Dk (l:=l) (m:=m) (by simpa[kinds]using h);refine⟨by simpa using h1,fun i p hp=> ?_⟩;cases i with
  |zero=>simp at hp;subst hp;exact⟨by simp,fun d r hh=>by simp at hh⟩
  |succ i=>simpa using h2 i p (by simpa using hp)
 | .mem q::l,.sl _ _::m,h=>by simp[kinds]at h
 | .sl d0 r0::l,.sl _ q::m,h=>by
  simp only[kinds,UT,Uj]at h;obtain⟨h1,h2⟩:=Dk (l:=l) (m:=m) h.2;refine⟨by simpa using h1,fun i p hp=> ?_⟩;cases i with
  |zero=>simp at hp;subst hp;exact⟨by simp,fun d r hh=>by simp at hh;exact⟨d0,by rw[h.1,hh.2]⟩⟩
  |succ i=>simpa using h2 i p (by simpa using hp)
 | .sl d0 r0::l,.gone::m,h=>by
  obtain⟨h1,h2⟩:=Dk (l:=l) (m:=m) (by simpa[kinds]using h);refine⟨by simpa using h1,fun i p hp=> ?_⟩;cases i with
  |zero=>simp at hp;subst hp;exact⟨by simp,fun d r hh=>by simp at hh⟩
  |succ i=>simpa using h2 i p (by simpa using hp)
 | .sl _ _::l,.mem _::m,h=>by simp[kinds]at h
def C8(P:Program)(f:Nat)(c:Dn):Prop:=
 c.ok=true∧(∀args w,(callFunc f args).run P w= .ok (.enter f args) w)∧
 ∀(E:Env) (w:World) (v:c.ins.V) (args:Array Value) (u:c.outs.V),args.size=c.ins.AX.length→
  AK E w (BD.mk id c.ins.Ar v.2) (BD.mk id c.ins.Ar v.2) []→Bq E w (BD.mk id c.ins.Ar v.2) id c.ins.AX v.1 args.toList→c.g v=some u→
  Calls P f args w fun e w' => ∃x E',e= .returned x∧Fc E w E' w'∧AK E' w' (BD.mk id c.outs.Ar u.2) (BD.mk id c.outs.Ar u.2) []∧
   Bq E' w' (BD.mk id c.outs.Ar u.2) id c.outs.AX u.1 [x]∧ ∀i,i<c.ins.Ar.length→alive c.outs.Ar i=true→E'.A5 i=E.A5 i∧E'.A7 i=E.A7 i
theorem Gh:∀x:AV,Ab [] x=x
 | .ref b (s::p)=>by simp[Ab]
 | .ref b []=>rfl
 | .win b (s::p) i n=>by simp[Ab]
 | .win b [] i n=>rfl
 | .BH b (s::p) i sz j=>by simp[Ab]
 | .BH b [] i sz j=>rfl
 | .v _ _=>rfl
 | .sl _ _ _=>rfl
 | .nil=>rfl
 | .A6 _ _=>rfl
 | .B3 _ _ _ _=>rfl
 | .fn _ _=>rfl
 | .J2 _ _=>rfl
 | .LF=>rfl
 | .undef=>rfl
theorem D7:Ab []=id:=funext Gh
theorem J5:∀x:XV,Cz [] x=x
 | .c x=>by simp[Cz,Gh]
 | .agg l=>by simp[Cz,D7]
 | .C9 l=>by
  simp only[Cz,D7];congr 1
  conv=>rhs;rw[←List.map_id l]
  apply VC;intro x _;cases x with
  |inl x=>simp
  |inr q=>simp
theorem Jo(m:CC)(σ:St):(σ.Dh m).tm=σ.tm.map (Cz m):=by
 cases m with
 |nil=>
  simp only[St.Dh];have:Cz []=id:=funext J5;rw[this,List.map_id]
 |cons _ _=>rfl
theorem MR(m:CC)(σ:St):(σ.Dh m).bx=σ.bx.map (Bx.map (Ab m)):=by
 cases m with
 |nil=>simp only[St.Dh];rw[D7,EK]
 |cons _ _=>
  simp only[St.Dh];apply VC;intro B _;cases B<;>rfl
theorem E9(f:AV→AV):∀(m:CC) (bx:List Bx),AH (bx.map (Bx.map f)) m=(AH bx m).map (Bx.map f)
 |[],_=>rfl
 |none::m,bx=>by simp only[AH];exact E9 f m bx
 |some b::m,bx=>by
  simp only[AH];rw[←E9 f m (bx.set b .dead),List.map_set];rfl
theorem CU:∀{m:CC} {bx:List Bx} {b:Nat},some b∉m→(AH bx m)[b]? =bx[b]?
 |[],_,_,_=>rfl
 |none::m,bx,b,h=>by simp only[AH];exact CU (by simpa using h)
 |some c::m,bx,b,h=>by
  simp only[AH];rw[CU (by simp at h;exact h.2),UL (by simp at h;omega)]
theorem Mk{E E':Env}{w w':World}{vw vw':List Bx}{m:CC}(k:Cm E w vw E' w' (AH vw' m))
  (hb:∀b d' r rows',some b∈m→vw'[b]? =some (.sl d' r rows')→ ∃d rows,vw[b]? =some (.sl d r rows)∧List.length rows' =List.length rows∧E'.A7 b=E.A7 b) (hlen:vw.length≤vw'.length) {x:AV} {v:Value} (h:VR E w vw x v):VR E' w' vw' (Ab m x) v:=by
 have h1:=Al k h;have D3:∀{b'},some b'∉m→(AH vw' m)[b']? =vw'[b']?:=fun e=>CU e
 have get:∀{b'},b'<vw.length→ ∃B,vw'[b']? =some B:=fun hl=>⟨_,UH (by omega)⟩
 cases x with
 |v t x=>exact h1
 |sl s r x=>exact h1
 |nil=>exact h1
 |A6 c j=>exact⟨by simpa[Az]using h1.1,h1.2⟩
 |B3 s r x j=>exact h1
 |fn f BL=>exact⟨fun c hc=>by simpa[Az]using h1.1 c hc,h1.2⟩
 |J2 f rows=>exact h1
 |LF=>exact h1
 |undef=>trivial
 |ref c p=>
  have other:some c∉m→VR E' w' vw' (.ref c p) v:=fun e=>by
   simp only[VR,D3 e]at h1⊢;exact h1
  cases p with
  |nil=>
   simp only[Ab];by_cases e:some c∈m
   ·simp only[VR]at h⊢
    obtain⟨h0,h⟩:=h;refine⟨h0,?_⟩;cases hc:vw[c]? with
    |none=>rw[hc]at h;exact h.elim
    |some B=>
     obtain⟨B',CZ⟩:=get (UF.1 hc).1;rw[CZ];cases B' with
     |mem cs=>trivial
     |dead=>trivial
     |sl d' r rows' =>
      obtain⟨d,rows,e1,e2,e3⟩:=hb c d' r rows' e CZ;rw[e1]at h;refine⟨by simp[AM],⟨_,rfl⟩,?_⟩;have:=h.2.2;rw[AJ]at this⊢;rw[e3];exact this
   ·exact other e
  |cons s p=>
   simp only[Ab];split
   ·trivial
   ·rename_i e
    exact other (by simpa using e)
 |win c p off n=>
  have other:some c∉m→VR E' w' vw' (.win c p off n) v:=fun e=>by
   simp only[VR,D3 e]at h1⊢;exact h1
  cases p with
  |nil=>
   simp only[Ab];by_cases e:some c∈m
   ·simp only[VR]at h⊢
    obtain⟨h0,h⟩:=h;refine⟨h0,?_⟩;cases hc:vw[c]? with
    |none=>rw[hc]at h;exact h.elim
    |some B=>
     obtain⟨B',CZ⟩:=get (UF.1 hc).1;rw[CZ];cases B' with
     |mem cs=>trivial
     |dead=>trivial
     |sl d' r rows' =>
      obtain⟨d,rows,e1,e2,e3⟩:=hb c d' r rows' e CZ;rw[e1]at h;obtain⟨_,q,ys,a,len,cap,g1,g2,g3,g4⟩:=h;simp only[Aq,UG,UP]at g1;obtain⟨rfl,g1⟩:=g1;obtain rfl:=Uc g1;rw[AJ]at g3;exact⟨by simp[AM],r,rows',a,len,cap,rfl,by rw[e2];exact g2,by rw[AJ,e3];exact g3,g4⟩
   ·exact other e
  |cons s p=>
   simp only[Ab];split
   ·trivial
   ·rename_i e
    exact other (by simpa using e)
 |BH c p i sz j=>
  have other:some c∉m→VR E' w' vw' (.BH c p i sz j) v:=fun e=>by
   simp only[VR,D3 e]at h1⊢;exact h1
  cases p with
  |nil=>
   simp only[Ab];by_cases e:some c∈m
   ·simp only[VR]at h⊢
    obtain⟨h0,h⟩:=h;refine⟨h0,?_⟩;cases hc:vw[c]? with
    |none=>rw[hc]at h;exact h.elim
    |some B=>
     obtain⟨B',CZ⟩:=get (UF.1 hc).1;rw[CZ];cases B' with
     |mem cs=>trivial
     |dead=>trivial
     |sl d' r rows' =>
      obtain⟨d,rows,e1,e2,e3⟩:=hb c d' r rows' e CZ;rw[e1]at h;obtain⟨_,q,ys,bb,o,len,cap,g1,g2,g3,g4⟩:=h;simp only[Aq,UG,UP]at g1;obtain⟨rfl,g1⟩:=g1;obtain rfl:=Uc g1;rw[AJ]at g3;exact⟨by simp[AM],r,rows',bb,o,len,cap,rfl,by rw[e2];exact g2,by rw[AJ,e3];exact g3,g4⟩
   ·exact other e
  |cons s p=>
   simp only[Ab];split
   ·trivial
   ·rename_i e
    exact other (by simpa using e)
theorem Me{E E':Env}{w w':World}{vw vw':List Bx}{m:CC}(k:∀x v,VR E w vw x v→VR E' w' vw' (Ab m x) v){x:XV}{v:Value}(h:XR E w vw x v):XR E' w' vw' (Cz m x) v:=by
 cases x with
 |c x=>exact k x v h
 |agg l=>
  obtain⟨vs,rfl,Dg⟩:=h;exact⟨vs,rfl,AF.Ba _ k Dg⟩
 |C9 l=>
  obtain⟨vs,rfl,Dg⟩:=h;refine⟨vs,rfl,AF.Ba _ (fun x v hx=> ?_) Dg⟩;cases x with
  |inl x=>exact k x v hx
  |inr q=>
   obtain⟨us,rfl,hus⟩:=hx;exact⟨us,rfl,AF.Ba _ k hus⟩
def BX(BK:Nat→Nat):Nat→List Bx→List Bx→List Bx
 |_,[],bx=>bx
 |i,B::l,bx=>BX BK (i+1) l (if BK i<bx.length then bx.set (BK i) B else bx++[B])
theorem HY(BK:Nat→Nat):∀(i:Nat) (l:List BP) (x:BD.V l) (bx:List Bx),EI BK i l x bx=BX BK i (BD.mk BK l x) bx
 |_,[],_,_=>rfl
 |i,p::l,x,bx=>by simp only[EI,BD.mk,BX];exact HY BK (i+1) l x.2 _
structure Kq (BK:Nat→Nat) (M N:Nat):Prop where
 lt:∀k,k<M→BK k<N
 eq:∀k,M≤k→BK k=N+(k-M)
 inj:∀k k',k<M→k'<M→BK k=BK k'→k=k'
theorem Kq.Pl{BK:Nat→Nat}{M N:Nat}(h:Kq BK M N){k k':Nat}(e:BK k=BK k'):k=k':=by
 by_cases h1:k<M
 ·by_cases h2:k'<M
  ·exact h.inj k k' h1 h2 e
  ·have:=h.lt k h1
   have:=h.eq k' (by omega);omega
 ·by_cases h2:k'<M
  ·have:=h.lt k' h2
   have:=h.eq k (by omega);omega
  ·have:=h.eq k (by omega)
   have:=h.eq k' (by omega);omega
theorem Fi{BK:Nat→Nat}{M N:Nat}(h:Kq BK M N):∀{l:List Bx} {i:Nat} {bx:List Bx},bx.length=N+(i-M)→
  (BX BK i l bx).length=N+(i+l.length-M)∧(∀(j:Nat) B,l[j]? =some B→(BX BK i l bx)[BK (i+j)]? =some B)∧
   ∀n,n<bx.length→(∀j,j<l.length→BK (i+j)≠n)→(BX BK i l bx)[n]? =bx[n]?
 |[],i,bx,hl=>⟨by simpa[BX]using hl,fun j B hj=>by simp at hj,fun _ _ _=>rfl⟩
 |B::l,i,bx,hl=>by
  simp only[BX];have EJ:(if BK i<bx.length then bx.set (BK i) B else bx++[B]).length=N+(i+1-M):=by
   split
   ·rename_i CK
    by_cases hi:i<M
    ·simp;omega
    ·have:=h.eq i (by omega);omega
   ·rename_i CK
    by_cases hi:i<M
    ·have:=h.lt i hi;omega
    ·simp;omega
  have Dr:(if BK i<bx.length then bx.set (BK i) B else bx++[B])[BK i]? =some B:=by
   split
   ·rename_i CK;rw[UQ CK]
   ·rename_i CK
    by_cases hi:i<M
    ·have:=h.lt i hi;omega
    ·have:=h.eq i (by omega)
     rw[UR (by omega),show BK i-bx.length=0 by omega];rfl
  obtain⟨q1,q2,q3⟩:=Fi h (l:=l) EJ;refine⟨by rw[q1];simp;omega,fun j C hj=> ?_,fun n hn Ht=> ?_⟩
  ·cases j with
   |zero=>
    simp at hj;subst hj;exact(q3 (BK i) (UF.1 Dr).1 (fun j hj e=>by have:=h.Pl e;omega)).trans Dr
   |succ j=>
    have:=q2 j C (by simpa using hj)
    rwa [show i+1+j=i+(j+1)by omega]at this
  ·have Pk:=Ht 0 (by simp)
   rw[VB]at Pk;rw[q3 n (by split<;>simp<;>omega) (fun j hj=>by have:=Ht (j+1) (by simp;omega);rwa [show i+(j+1)=i+1+j by omega]at this)];split
   ·rw[UL Pk]
   ·rw[UK hn]
theorem FQ{BK:Nat→Nat}{M N:Nat}(h:Kq BK M N){E:Env}{w:World}{vw:List Bx}:∀{l:List Bx} {i:Nat} {bx:List Bx} {Fs:List T7},bx.length=N+(i-M)→(∀k,i≤k→k<M→bx[BK k]? =some .dead)→
  Fs.length=l.length→(∀(j:Nat) B F,l[j]? =some B→Fs[j]? =some F→Im E w vw (BK (i+j)) B F)→AK E w vw bx Fs.flatten→AK E w vw (BX BK i l bx) []
 |[],i,bx,Fs,hl,hd,hF,hB,Gm=>by
  have:Fs=[]:=UW hF;subst this;simpa[BX]using Gm
 |B::l,i,bx,F::Fs,hl,hd,hF,hB,Gm=>by
  simp only[BX];have Qk:=hB 0 B F rfl rfl;rw[VB]at Qk;have next:∀{CO},CO.length=N+(i+1-M)→(∀k,i+1≤k→k<M→CO[BK k]? =some .dead)→AK E w vw CO Fs.flatten→AK E w vw (BX BK (i+1) l CO) []:=by
   intro CO h1 h2 h3;refine FQ h h1 h2 (by simpa using hF) (fun j C G hC hG=> ?_) h3;have:=hB (j+1) C G (by simpa using hC) (by simpa using hG)
   rwa [show i+(j+1)=i+1+j by omega]at this
  rw[Uk]at Gm;by_cases hi:i<M
  ·have CK:=h.lt i hi
   rw[Uy (by omega)];refine next (by simp;omega) (fun k Q1 OI=> ?_) (Gm.put (hd i (Ui _) hi) Qk);rw[UL (fun e=>by have:=h.Pl e;omega)];exact hd k (by omega) OI
  ·have heq:=h.eq i (by omega)
   rw[U1 (by omega)];have e1:BK i=bx.length:=by omega
   rw[e1]at Qk;exact next (by simp;omega) (fun k Q1 OI=>by omega) (Gm.push Qk)
 |_::_,_,_,[],_,_,hF,_,_=>by simp at hF
structure KG (E' E2:Env) (l:List BP) (u:BD.V l) (NW:List Bx) (BK:Nat→Nat):Prop where
 ids:∀i,alive l i=true→E2.A5 (BK i)=E'.A5 i∧E2.A7 (BK i)=E'.A7 i
 bx:∀(i:Nat) p,l[i]? =some p→ ∃y,(BD.mk id l u)[i]? =some (p.mk id y)∧NW[BK i]? =some (p.mk BK y)
 S:E2.S=E'.S
theorem EZ(BK:Nat→Nat):∀{l:List BP} {u:BD.V l} {i:Nat} {p:BP},l[i]? =some p→ ∃y:p.V,(BD.mk id l u)[i]? =some (p.mk id y)∧(BD.mk BK l u)[i]? =some (p.mk BK y)
 |q::l,u,0,p,h=>by
  simp at h;subst h;exact⟨u.1,rfl,rfl⟩
 |q::l,u,i+1,p,h=>by
  obtain⟨y,h1,h2⟩:=EZ BK (u:=u.2) (i:=i) (by simpa using h);exact⟨y,by simpa[BD.mk]using h1,by simpa[BD.mk]using h2⟩
 |[],_,_,_,h=>by simp at h
theorem Cp(BK:Nat→Nat):∀{l:List BP} {u:BD.V l},(BD.mk BK l u).length=l.length
 |[],_=>rfl
 |_::l,u=>by simp[BD.mk,Cp BK (l:=l)]
section
variable{E' E2:Env} {w:World} {l:List BP} {u:BD.V l} {NW:List Bx} {BK:Nat→Nat} (r:KG E' E2 l u NW BK)
include r
omit r in
theorem JX{i:Nat}(h:alive l i=true):∃p,l[i]? =some p∧p≠ .gone:=by
 unfold alive at h;cases e:l[i]? with
 |none=>rw[e]at h;cases h
 |some p=>
  refine⟨p,rfl,fun hp=> ?_⟩;rw[e,hp]at h;cases h
theorem LO{p:AP}{y:p.V}{v:Value}(DA:p.Br l=true)(h:VR E' w (BD.mk id l u) (p.mk id y) v):VR E2 w NW (p.mk BK y) v:=by
 cases p with
 |v t=>exact h
 |sl s q=>
  simp only[AP.Br]at DA;subst DA;simp only[AP.mk,VR,VN]at h⊢;rw[r.S];exact h
 |nil=>exact h
 |ref i=>
  simp only[AP.Br,Uj]at DA;obtain⟨p,hp⟩:∃p,l[i]? =some p:=⟨_,UH DA⟩;obtain⟨z,z1,z2⟩:=r.bx i p hp;simp only[AP.mk,VR,id]at h⊢;refine⟨h.1,?_⟩;have h2:=h.2;rw[z1]at h2;rw[z2];cases p with
  |mem q=>trivial
  |gone=>trivial
  |sl d q=>
   have hid:=(r.ids i (by simp[alive,hp])).2;simp only[BP.mk]at h2⊢;refine⟨h2.1,h2.2.1,?_⟩;rw[hid];exact h2.2.2
 |ptr i j=>
  simp only[AP.Br]at DA;obtain⟨p,hp,hg⟩:=JX DA;obtain⟨z,z1,z2⟩:=r.bx i p hp;refine⟨(UF.1 z2).1,?_⟩;rw[(r.ids i DA).1];exact h.2
 |Km q=>simp[AP.Br]at DA
 |G8 i sz=>simp[AP.Br]at DA
 |J2 f rs=>simp[AP.Br]at DA
 |fn f BL=>
  simp only[AP.Br,Uz]at DA;obtain⟨h1,h2⟩:=h;refine⟨fun b hb=> ?_,?_⟩
  ·obtain⟨i,hi,rfl⟩:=List.mem_map.1 hb
   obtain⟨p,hp,_⟩:=JX (DA i hi);obtain⟨z,_,z2⟩:=r.bx i p hp;exact(UF.1 z2).1
  ·rw[h2,Vb]
   congr 2
   rw[Vb];apply VC;intro i hi;simp only[Function.comp,id,(r.ids i (DA i hi)).1]
 |any=>trivial
theorem Hq:∀{q:List AP} {y:Dm.V q} {vs:List Value},q.all (AP.Br l)=true→GD E' w (BD.mk id l u) (Dm.mk id q y) vs→GD E2 w NW (Dm.mk BK q y) vs
 |[],_,[],_,_=>trivial
 |[],_,_::_,_,h=>h.elim
 |p::q,y,[],_,h=>h.elim
 |p::q,y,v::vs,DA,h=>by
  simp only[VV,UT]at DA;exact⟨LO r DA.1 h.1,Hq DA.2 h.2⟩
theorem Js:∀{q:List (AP ⊕ List AP)} {y:Dx.V q} {vs:List Value},(q.all fun| .inl p=>p.Br l| .inr q=>q.all (AP.Br l))=true→AF (TR E' w (BD.mk id l u)) (Dx.mk id q y) vs→AF (TR E2 w NW) (Dx.mk BK q y) vs
 |[],_,[],_,_=>trivial
 |[],_,_::_,_,h=>h.elim
 | .inl p::q,y,[],_,h=>h.elim
 | .inr p::q,y,[],_,h=>h.elim
 | .inl p::q,y,v::vs,DA,h=>by
  simp only[VV,UT]at DA;exact⟨LO r DA.1 h.1,Js DA.2 h.2⟩
 | .inr p::q,y,v::vs,DA,h=>by
  simp only[VV,UT]at DA;obtain⟨us,e,hus⟩:=h.1;exact⟨⟨us,e,Hq r DA.1 hus⟩,Js DA.2 h.2⟩
theorem PB{p:XP}{y:p.V}{v:Value}(DA:p.Br l=true)(h:XR E' w (BD.mk id l u) (p.mk id y) v):XR E2 w NW (p.mk BK y) v:=by
 cases p with
 |c p=>exact LO r DA h
 |agg q=>
  obtain⟨vs,e,Dg⟩:=h;exact⟨vs,e,Hq r DA Dg⟩
 |row q=>simp[XP.Br]at DA
 |C9 q=>
  obtain⟨vs,e,Dg⟩:=h;exact⟨vs,e,Js r DA Dg⟩
theorem Oq{i:Nat}{p:BP}{y:p.V}{F:T7}(hi:l[i]? =some p)(DA:p.Br l=true)(h:Im E' w (BD.mk id l u) i (p.mk id y) F):Im E2 w NW (BK i) (p.mk BK y) F:=by
 cases p with
 |mem q=>
  obtain⟨h1,arr,ty,fr,h2,h3,h4⟩:=h;have hid:=(r.ids i (by simp[alive,hi])).1;exact⟨by rw[hid];exact h1,arr,ty,fr,by rw[hid];exact h2,h3,Hq r DA h4⟩
 |sl d q=>
  obtain⟨h1,h2⟩:=h;refine⟨h1,?_⟩;rw[(r.ids i (by simp[alive,hi])).2,r.S];exact h2
 |gone=>exact h
end
end Go.Fw
end
section
namespace Go.Fw
theorem KE{s:CM}{N:Nat}{m0 m:CC}{tm:List XV}{bx:List Bx}{x:s.V}(e:s.fit N m0 tm bx=some (x,m)):∀(k:Nat) p,s.Ar[k]? =some p→p≠ .gone→ ∃b B,m[k]? =some (some b)∧bx[b]? =some B∧B≠ .dead∧
  ∀d r,p= .sl d r→ ∃d' rows,B= .sl d' r rows:=by
 simp only[CM.fit,UJ,UI]at e;obtain⟨m1,e1,m2,e2,a,e3,c,e4,e5⟩:=e;cases e5;obtain⟨q1,q2⟩:=Cd (BK:=id) e4;intro k p hp hg;obtain⟨y,_,h⟩:=q2 k p hp;cases p with
 |gone=>exact absurd rfl hg
 |mem q=>
  obtain⟨b,cs,h1,h2,_⟩:=h;exact⟨b,_,h1,h2,by simp,fun d r hh=>by cases hh⟩
 |sl d r=>
  obtain⟨b,d',h1,h2,_⟩:=h;exact⟨b,_,h1,h2,by simp,fun d r hh=>by cases hh;exact⟨d',y,rfl⟩⟩
theorem NT(n:Nat):Ih (List.replicate n none):=fun i j b h=>by
 simp[List.getElem?_replicate]at h
theorem Ld{w:World}{B B':Nat→Prop}{w':World}{r:Ty}{v:Value}{x y:List r.D}(h:Rd w B (.sl r) [v] x)(h':Rd w' B' (.sl r) [v] y):y.length=x.length:=by
 simp only[Rd]at h h';obtain⟨_,_,e,_⟩:=h;obtain⟨_,_,e',_⟩:=h';rw[e]at e';simp only[Ua,Value.slice.injEq,Us]at e';exact e'.2.1.symm
section
variable{Y:Type} {P:Program} {E:Env} {σ:St} {a:Act} {w:World} {k:K Y} {y:Y}
theorem I_{E' E2:Env}{l:List BP}{u:BD.V l}{NW:List Bx}{BK:Nat→Nat}(r:KG E' E2 l u NW BK):∀{sl:List (Nat×XP)} {z:An.V sl} {x:Value},
  IH l sl=true→Bq E' w (BD.mk id l u) id sl z [x]→XR E2 w NW (FV sl z BK) x
 |[(0,p)],z,x,DA,h=>by
  obtain⟨⟨v,hv,hx⟩,_⟩:=h;simp at hv;subst hv;exact PB r DA hx
 |[],_,_,DA,_=>by simp[IH]at DA
 |(_+1,_)::_,_,_,DA,_=>by simp[IH]at DA
 |(0,_)::_::_,_,_,DA,_=>by simp[IH]at DA
def DP(c:Dn)(xs:List XV)(σ:St):T7:=
 match c.ins.fit σ.bx.length c.ins.m0 xs (c.ins.opens σ.bx)with
 |some (_,m)=>m.filterMap id
 |none=>[]
theorem JT(h:Rel E σ a w)(s:CM):∃E',Rel E' { σ with bx:=s.opens σ.bx } a w∧CX [] E σ.bx w E' (s.opens σ.bx) w∧(∀(i:Nat) d r,s.Ar[i]? =some (.sl d r)→E'.A7 (σ.bx.length+i)= .slice none 0 0)∧
  (∀x v,XR E w σ.bx x v→XR E' w (s.opens σ.bx) x v):=by
 let E':Env:={ E with A7:=fun k=>if k<σ.bx.length then E.A7 k else .slice none 0 0 }
 have hlen:σ.bx.length≤(s.opens σ.bx).length:=by simp[CM.opens]
 have hold:∀b,b<σ.bx.length→(s.opens σ.bx)[b]? =σ.bx[b]?:=fun b hb=>by simp only[CM.opens];rw[UK hb]
 have FN:∀b,b<σ.bx.length→E'.A7 b=E.A7 b:=fun b hb=>by simp only[E'];rw[Uy hb]
 have keep:Cm E w σ.bx E' w (s.opens σ.bx):=
  ⟨hlen,fun _ _=>rfl,fun _ h=>h,fun _ h=>h,h.bx.st,fun _ _=>rfl,fun b d r rows hb e=>⟨d,rows,by rw[←hold b hb];exact e,fun p hp q ys hg=>⟨hp,⟨ys,hg,rfl⟩,fun hh he=>by rw[FN b hb];exact he⟩⟩⟩
 obtain⟨Fs,⟨f1,f2⟩,f3⟩:=h.bx;refine⟨E',⟨h.Bu,h.tm.imp fun _ _ hx=>B_ keep hx,?_⟩,?_,fun i d r hi=>by simp only[E'];rw[U1 (by omega)],fun x v hx=>B_ keep hx⟩
 ·refine⟨Fs++List.replicate s.Ar.length [],⟨by simp[CM.opens,f1],fun n B F hB hF=> ?_⟩,?_⟩
  ·by_cases hn:n<σ.bx.length
   ·rw[hold n hn]at hB
    rw[UK (by omega)]at hF;have:=f2 n B F hB hF;cases B with
    |mem cs=>
     obtain⟨rfl,arr,ty,fr,a1,a2,a3⟩:=this;exact⟨rfl,arr,ty,fr,a1,a2,a3.imp fun _ _ hv=>Al keep hv⟩
    |sl d r rows=>exact⟨this.1,by rw[FN n hn];exact this.2⟩
    |dead=>exact this
   ·rw[UR (by omega)]at hF
    have Qz:F=[]:=Uu (UO hF);subst Qz;simp only[CM.opens]at hB;rw[UR (by omega),Ue,UI]at hB;obtain⟨p,_,rfl⟩:=hB;have hh:E'.A7 n= .slice none 0 0:=by simp only[E'];rw[U1 hn]
    cases p with
    |mem q=>rfl
    |gone=>rfl
    |sl d r=>exact⟨by omega,by rw[hh];exact H_⟩
  ·have:(Fs++List.replicate s.Ar.length []).flatten=Fs.flatten:=by simp
   rw[this];exact⟨f3.nodup,f3.free,f3.lt,f3.st,f3.FI,f3.KS.mono (fun _ h=>h) (fun _ _=>rfl)⟩
 ·refine⟨⟨fun _ h=>h,fun _ h=>h,fun _ h=> .inl h,fun _ h=> .inl h,fun _ _=>rfl,rfl,rfl,rfl,Ui _⟩,hlen,fun b hb=>⟨rfl,FN b hb⟩,fun b hb=> ?_,fun n B B' _ hB CZ hd=> ?_⟩
  ·rw[hold b (UF.1 hb).1];exact hb
  ·rw[hold n (UF.1 hB).1,hB]at CZ
   cases CZ;exact⟨C7.refl hd,fun _ _=>rfl⟩
theorem CX.after{t:T7}{E E' NJ:Env}{bx CO Pp:List Bx}{w w':World}(h:CX [] E bx w E' CO w)(hb:∀b,b<bx.length→CO[b]? =bx[b]?)(k:CX t E' CO w NJ Pp w'):CX t E bx w NJ Pp w':=
 ⟨h.base.trans k.base,VA h.len k.len,fun b CK=>⟨(k.ids b (Uh CK h.len)).1.trans (h.ids b CK).1,(k.ids b (Uh CK h.len)).2.trans (h.ids b CK).2⟩,fun b hd=>k.dead b (h.dead b hd),fun n B B' hn hB CZ hd=>by
  have CK:=(UF.1 hB).1;obtain⟨k1,k2⟩:=k.frame n B B' hn (by rw[hb n CK];exact hB) CZ hd;refine⟨k1,fun c hc=>k2 c ?_⟩;cases B with
  |mem cs=>simp only[K_]at hc⊢;rw[(h.ids n CK).1];exact hc
  |sl d r rows=>simp only[K_]at hc⊢;rw[(h.ids n CK).2];exact hc
  |dead=>exact hc⟩
def OO(c:Dn)(N:Nat)(xs:List XV)(σ:St)(k:K Y):Option Y:=
 match c.ins.fit N c.ins.m0 xs σ.bx with
 |some (v,m)=>(c.g v).bind fun u=>
  let BK:=D2 m σ.bx.length
  let σ1:=σ.Dh m
  k (FV c.outs.AX u.1 BK) { σ1 with bx:=EI BK 0 c.outs.Ar u.2 (AH σ1.bx m) }
 |none=>none
def Ll(c:Dn)(N:Nat)(xs:List XV)(σ:St):T7:=
 match c.ins.fit N c.ins.m0 xs σ.bx with
 |some (_,m)=>m.filterMap id
 |none=>[]
theorem Lh{f:Nat}{c:Dn}(hc:C8 P f c)(h:Rel E σ a w){N0:Nat}(LZ:∀(i:Nat) d r,c.ins.Ar[i]? =some (.sl d r)→E.A7 (N0+i)= .slice none 0 0){xs:List XV}{vs:List Value}(Pb:AF (XR E w σ.bx) xs vs)(hlen:xs.length=c.ins.AX.length)(e:OO c N0 xs σ k=some y):
  Calls P f vs.toArray w fun e w' => ∃x E' xv σ',e= .returned x∧Rel E' σ' a w'∧XR E' w' σ'.bx xv x∧CX (Ll c N0 xs σ) E σ.bx w E' σ'.bx w'∧σ'.tm.length=σ.tm.length∧k xv σ' =some y:=by
 obtain⟨DA,_,Jh⟩:=hc;simp only[Dn.ok,UT]at DA;obtain⟨⟨hk,hslot⟩,hbo⟩:=DA;obtain⟨hklen,hk⟩:=Dk hk;unfold OO at e;split at e
 case h_2=>cases e
 rename_i v m EM;simp only[UJ]at e;obtain⟨u,hg,e⟩:=e;obtain⟨_,E1,hf⟩:=G_ h.bx Pb LZ (by simp[CM.m0]) (NT _) EM;have CB:vs.toArray.size=c.ins.AX.length:=by rw[←hlen,AF.len Pb];simp
 refine(Jh E1 w v vs.toArray u CB hf.boxes (by simpa using hf.AX) hg).mono fun e' w' hR=> ?_
 obtain⟨x,E',rfl,base,⟨Fs,hFs1,hFs2⟩,AX,Kd⟩:=hR;simp only[Ud]at hFs2;obtain⟨Fk,k1,k2,k3,k4⟩:=hf.rest;have st:=h.bx.st;have FI:=h.bx.FI;have hM:m.length=c.ins.Ar.length:=hf.len;have all:∀i,i<m.length→ ∃b B,m[i]? =some (some b)∧σ.bx[b]? =some B∧B≠ .dead∧ ∀d r,c.ins.Ar[i]? =some (.sl d r)→ ∃d' rows,B= .sl d' r rows:=by
  intro i hi;have hp:c.ins.Ar[i]? =some (c.ins.Ar[i]'(by omega)):=UH _;obtain⟨b,B,h1,h2,h3,h4⟩:=KE EM i _ hp (hk i _ hp).1;exact⟨b,B,h1,h2,h3,fun d r hh=>h4 d r (by rw[hp]at hh;exact Option.some.inj hh)⟩
 let N:=σ.bx.length
 let M:=m.length
 have Lm:∀i b,m[i]? =some (some b)→D2 m N i=b:=fun i b h=>by simp[D2,h]
 have My:∀i,M≤i→D2 m N i=N+(i-M):=fun i hi=>by
  have:m[i]? =none:=VT hi;simp[D2,this,M]
 have ro:Kq (D2 m N) M N:=⟨fun i hi=>by
   obtain⟨b,B,h1,h2,_⟩:=all i hi;rw[Lm i b h1];exact(UF.1 h2).1,My,fun i j hi hj e=>by
   obtain⟨b,B,h1,h2,_⟩:=all i hi;obtain⟨b',B',h1',OT,_⟩:=all j hj;rw[Lm i b h1,Lm j b' h1']at e;subst e;exact hf.inj i j b h1 h1'⟩
 let E2:Env:={
   A5:=fun n=>if n<N then E.A5 n else E'.A5 (M+(n-N))
   A7:=fun n=>if n<N then E.A7 n else E'.A7 (M+(n-N))
   T:=fun c=>E.T c∨E'.S c
   S:=E'.S }
 have hS:∀c,E.S c→E'.S c:=fun d hd=>base.S d (hf.S d hd)
 have S3:∀d∈Fk.flatten,¬E'.S d:=fun d hd hs=>by
  obtain⟨_,n2,_,n4⟩:=k3 d hd;exact(base.L7 d hs).elim n2 (fun h=>h n4)
 have Ji:∀d,E.T d→w'.heap[d]? =w.heap[d]?:=fun d hd=>base.heap d (hf.T d hd)
 have NP:∀d∈Fk.flatten,w'.heap[d]? =w.heap[d]?:=fun d hd=>base.heap d (k3 d hd).2.2.2
 have QN:Fc E w E2 w':=⟨fun d hd=> .inl hd,hS,fun d hd=>hd,fun d hd=>by
   rcases base.L7 d hd with h|h
   ·exact hf.L7 d h
   ·exact .inr fun ht=>h (hf.T d ht),Ji,base.os,base.tape,base.output,base.size⟩
 let vw':=BD.mk id c.outs.Ar u.2
 let Bs:=BD.mk (D2 m N) c.outs.Ar u.2
 let bk:=(AH σ.bx m).map (Bx.map (Ab m))
 have TG:AH (σ.Dh m).bx m=bk:=by rw[MR,E9]
 have Qh:bk.length=N:=by simp[bk,Az,N]
 let EC:=BX (D2 m N) 0 Bs bk
 have RS:EI (D2 m N) 0 c.outs.Ar u.2 (AH (σ.Dh m).bx m)=EC:=by rw[HY,TG]
 obtain⟨s1,s2,s3⟩:=Fi ro (l:=Bs) (i:=0) (bx:=bk) (by simp[Qh]);have RN:Bs.length=c.outs.Ar.length:=Cp _;have HG:σ.bx.length≤EC.length:=by
  show N≤EC.length
  have:EC.length=N+(0+Bs.length-M):=s1;omega
 have rn:KG E' E2 c.outs.Ar u.2 EC (D2 m N):=by
  refine⟨fun i hi=> ?_,fun i p hp=> ?_,rfl⟩
  ·by_cases him:i<M
   ·obtain⟨b,B,h1,h2,_⟩:=all i him
    have Np:b<N:=(UF.1 h2).1;have g1:=hf.ids i b h1;have g2:=Kd i (by omega) hi;rw[Lm i b h1];simp only[E2,Uy Np];exact⟨by rw[g2.1,g1.1],by rw[g2.2,g1.2]⟩
   ·rw[My i (by omega)]
    have: ¬(N+(i-M)<N):=by omega
    simp only[E2,U1 this];rw[show M+(N+(i-M)-N)=i by omega];exact⟨rfl,rfl⟩
  ·obtain⟨z,z1,z2⟩:=EZ (D2 m N) (u:=u.2) hp
   refine⟨z,z1,?_⟩;have:=s2 i _ z2
   rwa [U2]at this
 have Nf:∀n,n<N→some n∉m→EC[n]? =bk[n]?:=fun n hn hm=>by
  refine s3 n (by omega) fun j hj he=> ?_
  rw[U2]at he;by_cases hjm:j<M
  ·obtain⟨b,B,h1,h2,_⟩:=all j hjm
   rw[Lm j b h1]at he;subst he;exact hm (UO h1)
  ·have:=My j (by omega)
   omega
 have keep:Cm E w σ.bx E2 w' (AH EC m):=by
  refine⟨by rw[Az];exact HG,fun b hb=>by simp only[E2];rw[Uy hb],fun d hd=> .inl hd,hS,st,Ji,fun b d r rows hb hq=> ?_⟩;have Qv:some b∉m:=fun hm=>by have:=DJ hm hq;cases this
  rw[CU Qv,Nf b hb Qv]at hq;have Ql:=NN hq;have TV:σ.bx[b]? =some (.sl d r rows):=by
   rcases Ca (Ac.refl σ.bx) b _ Ql with e|e
   ·cases e
   ·exact e
  refine⟨d,rows,TV,fun p hp q ys O5=>⟨hp,⟨ys,O5,rfl⟩,fun h' hh=> ?_⟩⟩;have QO:Fk[b]? =some (Fk[b]'(by rw[k1.1,Az];exact hb)):=UH _;obtain⟨_,ho⟩:=k1.2 b _ _ Ql QO;have e2:E2.A7 b=E.A7 b:=by simp only[E2];rw[Uy hb]
  rw[e2];exact KH ho (fun d hd=>Ji d (st d hd)) (fun d hd=>NP d (UZ.2 ⟨_,UO QO,hd⟩)) hp O5 hh
 have vr:∀x v,VR E w σ.bx x v→VR E2 w' EC (Ab m x) v:=fun x v hx=>by
  refine Mk keep (fun b d' r rows' Qv hq=> ?_) HG hx;obtain⟨i,hi,him⟩:=Ur Qv;have O3:m[i]? =some (some b):=by rw[UH hi,him]
  obtain⟨b',B,h1,h2,h3,h4⟩:=all i hi;rw[O3]at h1;cases h1;have SA:i<c.outs.Ar.length:=by omega
  have hp:c.outs.Ar[i]? =some c.outs.Ar[i]:=UH SA;obtain⟨z,z1,z2⟩:=rn.bx i _ hp;rw[Lm i b O3,hq]at z2;have QU:c.ins.Ar[i]? =some (c.ins.Ar[i]'(by omega)):=UH _
  generalize c.outs.Ar[i]=po at z hp z1 z2
  cases po with
  |mem q=>simp[BP.mk]at z2
  |gone=>simp[BP.mk]at z2
  |sl d0 q=>
   simp only[BP.mk,UG,Bx.sl.injEq]at z2;obtain⟨rfl,rfl,z2⟩:=z2;obtain rfl:=Uc z2;obtain⟨d1,hpo⟩:=(hk i _ QU).2 _ _ hp;obtain⟨d2,rows,rfl⟩:=h4 d1 r (by rw[QU,hpo]);have Np:b<N:=(UF.1 h2).1;have eh:E2.A7 b=E.A7 b:=by simp only[E2];rw[Uy Np]
   refine⟨d2,rows,h2,?_,eh⟩;obtain⟨F0,hR0,_⟩:=h.bx.take h2;have Sh:Fs[i]? =some (Fs[i]'(by rw[hFs1.1,Cp];exact SA)):=UH _;obtain⟨_,Ma⟩:=hFs1.2 i _ _ z1 Sh;have NH:alive c.outs.Ar i=true:=by simp[alive,hp]
   rw[(Kd i (by omega) NH).2,(hf.ids i b O3).2]at Ma;exact Ld (Dy hR0.2) (Dy Ma)
 have E6:c.outs.Ar.all (BP.Br c.outs.Ar)=true:=hbo;have rel:Rel E2 { tm:=(σ.Dh m).tm,bx:=EC } a w':=by
  refine⟨h.Bu,?_,?_⟩
  ·rw[Jo]
   exact AF.Ba _ (fun x v hx=>Me vr hx) h.tm
  ·refine FQ ro (Fs:=Fs) (by simp[Qh]) (fun i _ hi=> ?_) (by rw[hFs1.1,Cp];exact RN.symm) (fun j B F hB hF=> ?_) ?_
   ·obtain⟨b,B,h1,h2,_⟩:=all i hi
    rw[Lm i b h1];have Np:b<(AH σ.bx m).length:=by rw[Az];exact(UF.1 h2).1
    have hd:(AH σ.bx m)[b]? =some .dead:=by
     rw[UH Np];exact congrArg some (DJ (UO h1) (UH Np))
    simp only[bk];rw[Ue,hd];rfl
   ·rw[U2]
    have Mo:=(UF.1 hB).1;have hp:c.outs.Ar[j]? =some (c.outs.Ar[j]'(by omega)):=UH _;obtain⟨z,z1,z2⟩:=EZ (D2 m N) (u:=u.2) hp;have CZ:Bs[j]? =_:=z2;rw[hB]at CZ;cases CZ;exact Oq rn hp (Uz.1 E6 _ (VG _)) (hFs1.2 j _ _ z1 hF)
   ·
    refine⟨Fk,⟨by simp[bk,k1.1],fun n B F hn hF=> ?_⟩,?_⟩
    ·simp only[bk]at hn
     rw[Ue,UI]at hn;obtain⟨B0,hn,rfl⟩:=hn;have K9:n<N:=by have:=(UF.1 hn).1;rwa [Az]at this
     have h3:=k1.2 n B0 F hn hF;have OY:∀d∈F,w'.heap[d]? =w.heap[d]?:=fun d hd=>NP d (UZ.2 ⟨F,UO hF,hd⟩)
     have eb:E2.A5 n=E.A5 n:=by simp only[E2];rw[Uy K9]
     have eh:E2.A7 n=E.A7 n:=by simp only[E2];rw[Uy K9]
     cases B0 with
     |mem cs=>
      obtain⟨rfl,arr,ty,fr,ha,hu,hv⟩:=h3;exact⟨by rw[eb],arr,ty,fr,by rw[eb,OY _ (by simp),ha],hu,AF.Ba _ vr hv⟩
     |sl d r rows=>
      refine⟨h3.1,?_⟩;rw[eh];exact AY hS (fun d hd=>Ji d (st d hd)) OY h3.2
     |dead=>exact h3
    ·refine⟨UN.2 ⟨k2,hFs2.nodup,fun x hx z hz he=> ?_⟩,fun d hd ht=> ?_,fun d hd=> ?_,fun d hd=> .inr hd,fun d hd=> ?_,h.bx.KS.mono (fun _ h=> .inl h) Ji⟩
     ·subst he
      exact hFs2.free x hz (base.T x (k3 x hx).2.2.2)
     ·rcases UU.1 hd with hd|hd
      ·rcases ht with ht|ht
       ·exact(k3 d hd).1 ht
       ·exact S3 d hd ht
      ·rcases ht with ht|ht
       ·exact hFs2.free d hd (base.T d (hf.T d ht))
       ·exact hFs2.free d hd (hFs2.st d ht)
     ·rcases UU.1 hd with hd|hd
      ·exact Uh (k3 d hd).2.2.1 base.size
      ·exact hFs2.lt d hd
     ·rcases hd with hd|hd
      ·exact Uh (FI d hd) base.size
      ·exact hFs2.FI d (hFs2.st d hd)
 have N1:CX (Ll c N0 xs σ) E σ.bx w E2 EC w':=by
  refine⟨QN,HG,fun n hn=>⟨by simp only[E2];rw[Uy hn],by simp only[E2];rw[Uy hn]⟩,fun n hn=> ?_,fun n B B' Sz hB CZ MF=> ?_⟩
  rotate_left 1
  ·have K9:=(UF.1 hB).1
   have Ov:some n∉m:=fun hm=>Sz (by
    simp only[Ll,EM,List.mem_filterMap];exact⟨some n,hm,rfl⟩)
   rw[Nf n K9 Ov]at CZ;simp only[bk]at CZ;have SK:(AH σ.bx m)[n]? =some B:=by rw[CU Ov];exact hB
   rw[Ue,SK]at CZ;have CZ:Bx.map (Ab m) B=B':=by simpa using CZ
   have QO:Fk[n]? =some (Fk[n]'(by rw[k1.1,Az];exact K9)):=UH _;refine⟨?_,fun d hd=> ?_⟩
   ·subst CZ
    cases B with
    |mem cs=>trivial
    |sl d r rows=>rfl
    |dead=>exact absurd rfl MF
   ·rcases FU (k1.2 n B _ SK QO) hd with hs|hs
    ·exact Ji d (st d hs)
    ·exact NP d (UZ.2 ⟨_,UO QO,hs⟩)
  have K9:=(UF.1 hn).1;have Ov:some n∉m:=fun hm=>by
   obtain⟨i,hi,him⟩:=Ur hm;obtain⟨b,B,h1,h2,h3,_⟩:=all i hi;rw[UH hi,him]at h1;cases h1;rw[hn]at h2;cases h2;exact h3 rfl
  rw[Nf n K9 Ov];simp only[bk];rw[Ue,CU Ov,hn];rfl
 refine⟨x,E2,FV c.outs.AX u.1 (D2 m N),{ tm:=(σ.Dh m).tm,bx:=EC },rfl,rel,I_ rn hslot AX,N1,by simp[Jo],?_⟩;rw[RS]at e;exact e
theorem ML{f:Nat}{c:Dn}(hc:C8 P f c)(h:Rel E σ a w){xs:List XV}{vs:List Value}(Pb:AF (XR E w σ.bx) xs vs)(e:HS c xs σ k=some y):
  Calls P f vs.toArray w fun e w' => ∃x E' xv σ',e= .returned x∧Rel E' σ' a w'∧XR E' w' σ'.bx xv x∧CX (DP c xs σ) E σ.bx w E' σ'.bx w'∧σ'.tm.length=σ.tm.length∧k xv σ' =some y:=by
 unfold HS at e;split at e
 case isFalse=>cases e
 rename_i hlen;obtain⟨E',h1,h2,h3,h4⟩:=JT h c.ins;have hold:∀b,b<σ.bx.length→(c.ins.opens σ.bx)[b]? =σ.bx[b]?:=fun b hb=>by simp only[CM.opens];rw[UK hb]
 refine(Lh (N0:=σ.bx.length) hc h1 h3 (Pb.imp fun x v hx=>h4 x v hx) hlen (k:=k) (y:=y) e).mono fun e' w' hR=> ?_
 obtain⟨x,E2,xv,σ',q0,q1,q2,q3,q4,q5⟩:=hR;exact⟨x,E2,xv,σ',q0,q1,q2,h2.after hold q3,q4,q5⟩
end
end Go.Fw
end
section
namespace Go.Fw
def F4(P:Program)(Γ:Nat→Option Dn):Prop:= ∀f c,Γ f=some c→C8 P f c
theorem JK{Γ:Nat→Option Dn}{σ:St}{o:Op}(h:Ik o=false):A_ (fun _=>none) σ o=A_ Γ σ o:=by
 cases o with
 |call c=>
  obtain⟨callee,args,JR⟩:=c;cases callee with
  |value f=>simp[Ik]at h
  |invoke _ _=>rfl
  |builtin b=>cases b<;>rfl
 |_=>rfl
theorem Ps{Y:Type}{P:Program}{Γ:Nat→Option Dn}{o:Oper}{E:Env}{σ:St}{a:Act}{w:World}{k:K Y}{y:Y}{g:Nat}{c:Dn}(OQ:C8 P g c)(h:Rel E σ a w){f:Operand}{args:Array Operand}{JR:Array TypeId}
  (ho:o.op= .call { callee:= .value f,args:=args,argTypes:=JR }) {ps:List Value} (ER:a.eval f= .func (.func g) #[] ps.toArray) {xs:List XV} (BC:AF (XR E w σ.bx) xs (args.toList.map a.eval++ps)) (ht:A_ Γ σ o.op=DP c xs σ)
  (e:HS c xs σ k=some y) {next:Act→World→Prop} {Q:Exit→Act→World→Prop}
  (hn:∀v w' E' x σ',Rel E' σ' a w'→XR E' w' σ'.bx x v→CX (A_ Γ σ o.op) E σ.bx w E' σ'.bx w'→σ'.tm.length=σ.tm.length→k x σ' =some y→next (a.put o.dst v) w'):o.wp P a w next Q:=by
 have Jh:=ML OQ h BC e;have JA:(execOp a.eval o).run P w= .ok (.enter g (args.toList.map a.eval++ps).toArray) w:=by
  have e2:(args.map a.eval)++ps.toArray=(args.toList.map a.eval++ps).toArray:=by
   apply Array.ext';simp
  simp only[execOp,ho,resolve,ER,Deferred.ofValue,Sem.run_bind,Sem.run_pure,Result.andThen_ok,invoke,Array.empty_append,e2,OQ.2.1]
 unfold Oper.wp;rw[JA];simp only[Oper.upon];refine Jh.mono fun e w' hR=> ?_
 obtain⟨x,E',xv,σ',rfl,h1,h2,h3,h4,h5⟩:=hR;rw[←ht]at h3;exact hn x w' E' xv σ' h1 h2 h3 h4 h5
section
variable{Y:Type} {P:Program} {T:BQ} (hT:Ag P T) {Γ:Nat→Option Dn} (hΓ:F4 P Γ) {o:Oper} {E:Env} {σ:St} {a:Act} {w:World} {k:K Y} {y:Y}
include hT hΓ
theorem MI(h:Rel E σ a w)(e:DY T Γ o σ k=some y){next:Act→World→Prop}{Q:Exit→Act→World→Prop}
  (hn:∀v w' E' x σ',Rel E' σ' a w'→XR E' w' σ'.bx x v→CX (A_ Γ σ o.op) E σ.bx w E' σ'.bx w'→σ'.tm.length=σ.tm.length→k x σ' =some y→next (a.put o.dst v) w'):o.wp P a w next Q:=by
 by_cases hc:Ik o.op=false
 ·obtain⟨v,w',E',x,σ',hr,h1,h2,h3,h4,h5⟩:=Md hT h e hc
  rw[JK hc]at h3;unfold Oper.wp;rcases hr with hr|⟨hr,rfl⟩
  ·rw[hr]
   exact hn v w' E' x σ' h1 h2 h3 h4 h5
  ·rw[hr]
   exact hn _ w' E' x σ' h1 h2 h3 h4 h5
 ·
  unfold Ik at hc;split at hc
  case h_2=>simp at hc
  rename_i f args JR ho;unfold DY at e;rw[ho]at e;dsimp only at e;split at e
  case h_3=>cases e
  ·rename_i g BL hf
   split at e
   case h_2=>cases e
   rename_i c hg;have hv:=h.ev f;rw[hf]at hv;obtain⟨Ex,ER⟩:(∀b∈BL,b<σ.bx.length)∧a.eval f= .func (.func g) #[] (BL.map fun b=>Value.pointer (some ⟨E.A5 b,0,none⟩)).toArray:=hv;have OQ:=hΓ g c hg;have BC:AF (XR E w σ.bx) (args.toList.map σ.ev++BL.map fun b=> .c (.A6 b 0)) (args.toList.map a.eval++BL.map fun b=>Value.pointer (some ⟨E.A5 b,0,none⟩)):=by
    refine AF.append (Qt h args.toList) ?_
    clear ER hf e
    induction BL with
    |nil=>trivial
    |cons b l ih=>exact⟨⟨Ex b (by simp),rfl⟩,ih (fun c hc=>Ex c (by simp[hc]))⟩
   have ht:A_ Γ σ o.op=DP c (args.toList.map σ.ev++BL.map fun b=> .c (.A6 b 0)) σ:=by
    rw[ho];simp only[A_,hf,hg,DP];rfl
   exact Ps OQ h ho ER BC ht e hn
  ·rename_i g rows hf
   split at e
   case h_2=>cases e
   rename_i c hg;have hv:=h.ev f;rw[hf]at hv;obtain⟨ps,ER,Ex⟩:∃ps:List Value,a.eval f= .func (.func g) #[] ps.toArray∧AF (RA E w) rows ps:=hv;have OQ:=hΓ g c hg;have BC:AF (XR E w σ.bx) (args.toList.map σ.ev++rows.map fun q=> .c (.B3 false q.1 q.2 0)) (args.toList.map a.eval++ps):=by
    refine AF.append (Qt h args.toList) ?_
    clear ER hf e
    induction rows generalizing ps with
    |nil=>
     cases ps with
     |nil=>trivial
     |cons _ _=>exact Ex.elim
    |cons q l ih=>
     cases ps with
     |nil=>exact Ex.elim
     |cons p ps=>
      obtain⟨⟨bb,o,cs,h1,h2,h3,h4,h5⟩,Ex⟩:=Ex;exact⟨⟨bb,o,cs,h1,h2,h3,h4,h5⟩,ih ps Ex⟩
   have ht:A_ Γ σ o.op=DP c (args.toList.map σ.ev++rows.map fun q=> .c (.B3 false q.1 q.2 0)) σ:=by
    rw[ho];simp only[A_,hf,hg,DP];rfl
   exact Ps OQ h ho ER BC ht e hn
end
theorem Rel.tmp{E:Env}{σ:St}{a:Act}{w:World}(h:Rel E σ a w){t:Nat}{x:XV}(e:σ.tm[t]? =some x):∃v,a.tmps[t]? =some v∧XR E w σ.bx x v:=by
 obtain⟨v,h1,h2⟩:=h.tm.get e;exact⟨v,by simpa using h1,h2⟩
def O2:Value→Option Bool
 | .bool b=>some b
 |_=>none
theorem Eh{ops:Array Oper}{tmps:Array Value}{j t:Nat}(e:(ops[j]?).bind (·.dst)=some t){v:Value}(hv:tmps[t]? =some v):yielded ops tmps j=O2 v:=by
 simp only[yielded,e,Uw,hv];cases v<;>rfl
theorem IP{E:Env}{w:World}{vw:List Bx}:XR E w vw (.C9 []) undef:=⟨#[],rfl,trivial⟩
structure Ok (E0:Env) (w0:World) (N nb:Nat) (E:Env) (σ:St) (a:Act) (w:World):Prop where
 rel:Rel E σ a w
 base:Fc E0 w0 E w
 tm:σ.tm.length=N
 I6:nb≤σ.bx.length
 ids:∀i,i<nb→σ.bx[i]?≠some .dead→E.A5 i=E0.A5 i∧E.A7 i=E0.A7 i
theorem Ok.next{E0 E E':Env}{w0 w w':World}{N nb:Nat}{σ σ':St}{a a':Act}{t:T7}(h:Ok E0 w0 N nb E σ a w)(hr:Rel E' σ' a' w')(hw:CX t E σ.bx w E' σ'.bx w')(hl:σ'.tm.length=σ.tm.length):Ok E0 w0 N nb E' σ' a' w':=
 ⟨hr,h.base.trans hw.base,hl.trans h.tm,VA h.I6 hw.len,fun i hi hd=>by
  have h1:=hw.ids i (Uh hi h.I6);have h2:=h.ids i hi (fun hh=>hd (hw.dead i hh));exact⟨h1.1.trans h2.1,h1.2.trans h2.2⟩⟩
theorem Ok.put{E0 E:Env}{w0 w:World}{N nb:Nat}{σ:St}{a:Act}(h:Ok E0 w0 N nb E σ a w)(dst:Option Tmp){x:XV}{v:Value}(hx:XR E w σ.bx x v):Ok E0 w0 N nb E (σ.put dst x) (a.put dst v) w:=by
 have e1:(σ.put dst x).bx=σ.bx:=by cases dst<;>rfl
 have e2:(σ.put dst x).tm.length=σ.tm.length:=by cases dst<;>simp[St.put]
 refine⟨h.rel.put dst hx,h.base,e2.trans h.tm,by rw[e1];exact h.I6,fun i hi hd=>h.ids i hi (by rwa [e1]at hd)⟩
theorem Ok.same{E0 E:Env}{w0 w:World}{N nb:Nat}{σ σ1:St}{a:Act}(h:Ok E0 w0 N nb E σ a w)(hr:Rel E σ1 a w)(hb:σ1.bx=σ.bx)(hl:σ1.tm.length=σ.tm.length):Ok E0 w0 N nb E σ1 a w:=
 ⟨hr,h.base,hl.trans h.tm,by rw[hb];exact h.I6,fun i hi hd=>h.ids i hi (by rwa [hb]at hd)⟩
end Go.Fw
end
section
namespace Go.Fw
section
variable{Y:Type}
abbrev k0:K (XV×St):=fun x σ=>some (x,σ)
theorem Mc{op:BinOp}{κ:IntKind}{a b:Int}(k:AV→Option Y):Fe op κ a b k=(Fe op κ a b some).bind k:=by
 cases op<;>simp[Fe]<;>split<;>rfl
theorem HZ{op:BinOp}{κ:IntKind}{a b:Int}(k:AV→Option Y):Dz op κ a b k=(Dz op κ a b some).bind k:=by
 unfold Dz;split
 ·rfl
 ·cases op<;>simp
theorem MN{op:BinOp}{a b:List UInt8}(k:AV→Option Y):GO op a b k=(GO op a b some).bind k:=by
 cases op<;>simp[GO]<;>split<;>rfl
theorem Ir{T:BQ}{t:Nat}{op:BinOp}{a b:XV}(k:AV→Option Y):Kv T t op a b k=(Kv T t op a b some).bind k:=by
 unfold Kv;split
 ·split
  ·exact HZ k
  ·exact HZ k
  ·split
   ·exact Mc k
   ·rfl
 ·exact MN k
 ·split
  ·split
   ·split<;>rfl
   ·rfl
  ·rfl
 ·split<;>rfl
 ·rfl
theorem KK{op:UnOp}{a:XV}(k:AV→Option Y):OX op a k=(OX op a some).bind k:=by
 unfold OX;split<;>rfl
theorem EL{g:Bool}{a b:XV}(k:AV→Option Y):J3 g a b k=(J3 g a b some).bind k:=by
 unfold J3;split
 ·split
  ·cases g<;>rfl
  ·rfl
 ·rfl
theorem Bd{len:Nat}{lo hi:Option XV}(k:Nat→Nat→Option Y):B7 len lo hi k=(B7 len lo hi fun l h=>some (l,h)).bind fun p=>k p.1 p.2:=by
 unfold B7;dsimp only;split
 ·split<;>rfl
 ·rfl
theorem Lq{T:BQ}{t:Nat}{σ:St}{x:XV}{lo hi:Option XV}(k:K Y):Gx T t σ x lo hi k=(Gx T t σ x lo hi k0).bind fun p=>k p.1 p.2:=by
 unfold Gx;split
 ·split
  ·rw[Bd,Bd (Y:=XV×St),Ul];rfl
  ·rfl
 ·split
  ·rw[Bd,Bd (Y:=XV×St),Ul];rfl
  ·rfl
 ·split
  ·split
   ·rw[Bd,Bd (Y:=XV×St),Ul];rfl
   ·rfl
  ·rfl
 ·rfl
theorem LL{T:BQ}{t:Nat}{σ:St}{x i:XV}(k:K Y):G6 σ T t x i k=(G6 σ T t x i k0).bind fun p=>k p.1 p.2:=by
 unfold G6;split
 ·split
  ·split<;>rfl
  ·rfl
 ·split
  ·split
   ·split<;>rfl
   ·rfl
  ·rfl
 ·split
  ·split
   ·split<;>rfl
   ·rfl
  ·rfl
 ·rfl
theorem JB{T:BQ}{t:Nat}{σ:St}{x i:XV}(k:K Y):DO T t σ x i k=(DO T t σ x i k0).bind fun p=>k p.1 p.2:=by
 unfold DO;split
 ·split
  ·split<;>rfl
  ·rfl
 ·rfl
theorem Ml{T:BQ}{s d:Nat}{σ:St}{x:XV}(k:K Y):Jm T s d σ x k=(Jm T s d σ x k0).bind fun p=>k p.1 p.2:=by
 unfold Jm;split
 ·rfl
 ·rfl
 ·split
  ·split<;>rfl
  ·rfl
 ·split<;>rfl
 ·rfl
theorem MO{T:BQ}{t:Nat}{σ:St}{l c:XV}(k:K Y):Jb T t σ l c k=(Jb T t σ l c k0).bind fun p=>k p.1 p.2:=by
 unfold Jb;split
 ·split
  ·split
   ·split<;>rfl
   ·rfl
  ·rfl
 ·rfl
theorem Hb{T:BQ}{t n:Nat}{ps:List (Nat×XV)}{σ:St}(k:K Y):CQ T t n ps σ k=(CQ T t n ps σ k0).bind fun p=>k p.1 p.2:=by
 unfold CQ;split
 ·split
  ·split
   ·rw[Ul];rfl
   ·rfl
  ·rfl
 ·rfl
theorem K0{T:BQ}{ts:Array TypeId}{σ:St}{a x:XV}(k:K Y):FW T ts σ a x k=(FW T ts σ a x k0).bind fun p=>k p.1 p.2:=by
 unfold FW;split
 ·split
  ·split
   ·rw[Ul]
    congr 1;funext s
    split
    ·split<;>rfl
    ·rfl
   ·rw[Ul]
    congr 1;funext s
    split
    ·rw[Ul]
     congr 1;funext q
     rw[Ul];congr 1;funext z;split<;>rfl
    ·rfl
   ·rfl
  ·rfl
 ·rfl
theorem LS{T:BQ}{ts:Array TypeId}{σ:St}{x:XV}(k:K Y):Gq T ts σ x k=(Gq T ts σ x k0).bind fun p=>k p.1 p.2:=by
 unfold Gq;split
 ·split
  ·split<;>rfl
  ·rfl
 ·rfl
theorem JV{c:Dn}{xs:List XV}{σ:St}(k:K Y):HS c xs σ k=(HS c xs σ k0).bind fun p=>k p.1 p.2:=by
 unfold HS;split
 ·split
  ·rw[Ul];rfl
  ·rfl
 ·rfl
theorem Kf{σ:St}{x:XV}(k:K Y):EV σ x k=(EV σ x k0).bind fun p=>k p.1 p.2:=by
 unfold EV;split
 ·rw[Ul];rfl
 ·rfl
theorem Jl{T:BQ}{Γ:Nat→Option Dn}{o:Oper}{σ:St}(k:K Y):DY T Γ o σ k=(DY T Γ o σ k0).bind fun p=>k p.1 p.2:=by
 unfold DY;split
 ·rfl
 ·exact Kf k
 ·split
  ·rename_i x _
   cases x<;>rfl
  ·rfl
 ·split<;>rfl
 ·split
  ·split<;>rfl
  ·rfl
 ·split
  ·split<;>rfl
  ·rfl
 ·exact Hb k
 ·split<;>rfl
 ·split
  ·split
   ·split<;>rfl
   ·rfl
  ·rfl
 ·split<;>rfl
 ·rw[Ir,Ir (Y:=XV×St),Ul];rfl
 ·rw[KK,KK (Y:=XV×St),Ul];rfl
 ·exact Ml k
 ·split
  ·split<;>rfl
  ·rfl
 ·exact MO k
 ·exact Lq k
 ·split<;>rfl
 ·split<;>rfl
 ·exact LL k
 ·exact JB k
 ·split<;>rfl
 ·split
  ·split
   ·exact JV k
   ·rfl
  ·split
   ·exact JV k
   ·rfl
  ·rfl
 ·split
  ·split<;>rfl
  ·split
   ·split<;>rfl
   ·rfl
  ·rfl
 ·split
  ·exact K0 k
  ·rfl
 ·split
  ·exact LS k
  ·rfl
 ·split
  ·rw[EL,EL (Y:=XV×St),Ul];rfl
  ·rfl
 ·split
  ·rw[EL,EL (Y:=XV×St),Ul];rfl
  ·rfl
 ·rfl
theorem G4{I:Type}[Nonempty I]{T:BQ}{Γ:Nat→Option Dn}{o:Oper}{σ:St}{k:I→K Y}{y:Y}(h:∀i,DY T Γ o σ (k i)=some y):∃x σ',DY T Γ o σ k0=some (x,σ')∧ ∀i,k i x σ' =some y:=by
 obtain⟨i0⟩:= ‹Nonempty I›;have h0:=h i0;rw[Jl]at h0;rw[UJ]at h0;obtain⟨⟨x,σ'⟩,h1,h2⟩:=h0;refine⟨x,σ',h1,fun i=> ?_⟩;have:=h i;rw[Jl,h1]at this;exact this
end
end Go.Fw
end
section
namespace Go.Fw
def WF{α:Type}(P:Program)(s:Sem α):Prop:= ∀w v w1,s.run P w= .ok v w1→ ∀w',s.run P w' = .ok v w'
section
variable{α β:Type} {P:Program}
theorem WF.pure(x:α):WF P (Pure.pure x:Sem α):=fun w v w1 h w' =>by
 simp only[Sem.run_pure,Result.ok.injEq]at h⊢;exact⟨h.1,trivial⟩
theorem WF.bind{s:Sem α}{f:α→Sem β}(h:WF P s)(k:∀v,WF P (f v)):WF P (s >>= f):=fun w v w1 e w' =>by
 rw[Sem.run_bind]at e⊢;cases hs:s.run P w with
 |ok u w2=>
  rw[hs]at e;simp only[Result.andThen_ok]at e;rw[h w u w2 hs w'];simp only[Result.andThen_ok];exact k u w2 v w1 e w'
 |halt x w2=>
  rw[hs]at e;simp[Result.andThen]at e
theorem WF.halt(x:Halt):WF P (.halt x:Sem α):=fun w v w1 e w' =>by simp[Sem.run]at e
theorem WF.program:WF P program:=fun w v w1 e w' =>by
 rw[run_program]at e⊢;cases e;rfl
theorem WF.typeInfo(t:TypeId):WF P (typeInfo t):=WF.bind WF.program fun p=>by
 split
 ·exact WF.pure _
 ·exact WF.halt _
theorem WF.underlying(t:TypeId):WF P (underlying t):=WF.bind WF.program fun p=>by
 split
 ·exact WF.pure _
 ·exact WF.halt _
theorem WF.sizeOf(t:TypeId):WF P (Go.sizeOf t):=WF.bind (WF.typeInfo t) fun _=>WF.pure _
theorem WF.isAgg(t:TypeId):WF P (isAgg t):=WF.bind (WF.underlying t) fun d=>by
 split<;>exact WF.pure _
theorem WF.zeroValue(t:TypeId):WF P (zeroValue t):=WF.bind (WF.typeInfo t) fun i=>by
 split
 ·exact WF.pure _
 ·exact WF.halt _
theorem WF.asIntOf(v:Value):WF P (asIntOf v):=by
 unfold Go.asIntOf;split
 ·exact WF.pure _
 ·exact WF.halt _
 ·exact WF.halt _
theorem WF.asBool(v:Value):WF P (asBool v):=by
 unfold Go.asBool;split
 ·exact WF.pure _
 ·exact WF.halt _
theorem WF.asAgg(v:Value):WF P (asAgg v):=by
 unfold Go.asAgg;split
 ·exact WF.pure _
 ·exact WF.halt _
theorem WF.sureAddr(v:Value):WF P (Instr.sureAddr v):=by
 unfold Instr.sureAddr;split
 ·exact WF.pure _
 ·exact WF.halt _
theorem WF.Ke{s:Sem α}(h:∀w v w1,s.run P w≠ .ok v w1):WF P s:=fun w v w1 e=>absurd e (h w v w1)
theorem Db{s:Sem α}{f:α→Sem β}(h:∀x w v w1,(f x).run P w≠ .ok v w1):∀w v w1,(s >>= f).run P w≠ .ok v w1:=fun w v w1 e=>by
 rw[Sem.run_bind]at e;cases hs:s.run P w with
 |ok u w2=>rw[hs]at e;exact h u w2 v w1 e
 |halt x w2=>rw[hs]at e;simp[Result.andThen]at e
theorem Fz(x:Halt):∀w v w1,(.halt x:Sem α).run P w≠ .ok v w1:=fun w v w1 e=>by simp[Sem.run]at e
theorem HP(e:RuntimeError):∀w v w1,(runtimePanic e:Sem α).run P w≠ .ok v w1:=by
 unfold runtimePanic;refine Db fun p=> ?_
 dsimp only;split<;>first
  |exact Fz _
  |exact Db fun _=>Db fun _=>Fz _
  |exact Db fun _=>Fz _
theorem WF.bounds(k:IntKind)(x y:Int)(c:BoundsCode):WF P (boundsPanic k x y c:Sem α):=WF.Ke (by
 unfold boundsPanic;dsimp only;split<;>exact Db fun _=>HP _)
theorem WF.part(t:TypeId)(cs:Array Value)(o:Nat):WF P (part t cs o):=WF.bind (WF.isAgg t) fun b=>by
 split
 ·exact WF.bind (WF.sizeOf t) fun _=>WF.pure _
 ·split
  ·exact WF.pure _
  ·exact WF.halt _
theorem WF.field(t:TypeId)(x:Value)(f:Nat):WF P (Instr.field t x f):=WF.bind (WF.underlying t) fun d=>by
 split
 ·split
  ·exact WF.bind (WF.asAgg x) fun _=>WF.part _ _ _
  ·exact WF.halt _
 ·exact WF.halt _
theorem WF.indexAt(t:TypeId)(x i:Value):WF P (Instr.indexAt t x i):=WF.bind (WF.asIntOf i) fun q=>by
 obtain⟨k,i⟩:=q;dsimp only;refine WF.bind (WF.underlying t) fun d=> ?_
 have rest:∀q:Option Addr×Nat×TypeId,WF P (do
   let d←Go.underlying t
   match q.1 with
   |some a=>
    if 0≤i∧i<(q.2.1:Int)then do
     let s←Go.sizeOf q.2.2
     Pure.pure (Value.pointer (some (a.add (i.toNat*s))))
    else if(decide (q.2.1≤1)&&(match d with| .array .. =>true|_=>false))=true then unsupported (.noEntry "op/indexAddr.an index out of range at an array of length 0 or 1 (ledger 616)")
    else boundsPanic k i q.2.1 .index
   |none=>boundsPanic k i 0 .index:Sem Value):=fun q=>by
  refine WF.bind (WF.underlying t) fun d=> ?_
  split
  ·split
   ·exact WF.bind (WF.sizeOf _) fun _=>WF.pure _
   ·repeat' split
    all_goals first|exact WF.halt _|exact WF.bounds _ _ _ _
  ·exact WF.bounds _ _ _ _
 split
 ·exact WF.bind (WF.sureAddr _) fun _=>WF.bind (WF.pure _) fun q=>rest q
 ·exact WF.bind (WF.pure _) fun q=>rest q
 ·exact WF.bind (WF.halt _) fun q=>rest q
theorem WF.index(t:TypeId)(x i:Value):WF P (Instr.index t x i):=WF.bind (WF.asIntOf i) fun q=>by
 obtain⟨k,i⟩:=q;dsimp only;refine WF.bind (WF.underlying t) fun d=> ?_
 split
 ·split
  ·exact WF.bind (WF.sizeOf _) fun _=>WF.part _ _ _
  ·exact WF.bounds _ _ _ _
 ·split
  ·exact WF.pure _
  ·exact WF.bounds _ _ _ _
 ·exact WF.halt _
theorem WF.extract(x:Value)(i:Nat):WF P (Instr.extract x i):=by
 unfold Instr.extract;split
 ·split
  ·exact WF.pure _
  ·exact WF.halt _
 ·exact WF.halt _
theorem WF.sliceBound(x:Value)(y:Nat)(c:BoundsCode):WF P (Instr.sliceBound x y c):=WF.bind (WF.asIntOf x) fun q=>by
 obtain⟨k,i⟩:=q;dsimp only;split
 ·exact WF.pure _
 ·exact WF.bounds _ _ _ _
theorem WF.sliceBounds(b:Bool)(len cap:Nat)(l h:Option Value):WF P (Instr.sliceBounds b len cap l h none):=by
 cases h with
 |none=>
  cases l with
  |none=>exact WF.bind (WF.pure _) fun _=>WF.bind (WF.pure _) fun _=>WF.bind (WF.pure _) fun _=>WF.pure _
  |some l=>exact WF.bind (WF.pure _) fun _=>WF.bind (WF.pure _) fun _=>WF.bind (WF.sliceBound _ _ _) fun _=>WF.pure _
 |some h=>
  cases l with
  |none=>exact WF.bind (WF.pure _) fun _=>WF.bind (WF.sliceBound _ _ _) fun _=>WF.bind (WF.pure _) fun _=>WF.pure _
  |some l=>exact WF.bind (WF.pure _) fun _=>WF.bind (WF.sliceBound _ _ _) fun _=>WF.bind (WF.sliceBound _ _ _) fun _=>WF.pure _
theorem WF.asAddr(v:Value):WF P (asAddr v):=by
 unfold Go.asAddr;split
 ·exact WF.pure _
 ·exact WF.Ke (HP _)
 ·exact WF.halt _
theorem WF.slice(t:TypeId)(x:Value)(l h:Option Value):WF P (Instr.slice t x l h none):=WF.bind (WF.underlying t) fun d=>by
 split
 ·exact WF.bind (WF.sliceBounds _ _ _ _ _) fun _=>WF.pure _
 ·exact WF.bind (WF.sliceBounds _ _ _ _ _) fun _=>WF.bind (WF.sizeOf _) fun _=>WF.pure _
 ·refine WF.bind (WF.asAddr _) fun _=>WF.bind (WF.underlying _) fun d=> ?_
  split
  ·exact WF.bind (WF.sliceBounds _ _ _ _ _) fun _=>WF.bind (WF.sizeOf _) fun _=>WF.pure _
  ·exact WF.halt _
 ·exact WF.halt _
theorem WF.sliceAt(t:TypeId)(x:Value)(l h:Option Value):WF P (Instr.sliceAt t x l h none):=WF.bind (WF.underlying t) fun d=>by
 split
 ·exact WF.bind (WF.sureAddr _) fun _=>WF.bind (WF.sliceBounds _ _ _ _ _) fun _=>WF.bind (WF.sizeOf _) fun _=>WF.pure _
 ·exact WF.slice _ _ _ _
theorem WF.Ja{f:α→Sem β}(h:∀x,WF P (f x)):∀l:List α,WF P (l.mapM f)
 |[]=>WF.pure _
 |x::l=>by
  rw[Ve];exact WF.bind (h x) fun _=>WF.bind (WF.Ja h l) fun _=>WF.pure _
theorem WF.mapM{f:α→Sem β}(h:∀x,WF P (f x))(a:Array α):WF P (a.mapM f):=by
 rw[Array.mapM_eq_mapM_toList,←bind_pure_comp];exact WF.bind (WF.Ja h _) fun _=>WF.pure _
theorem WF.build(t:TypeId)(ps:Array (Nat×Value)):WF P (Instr.build t ps):=WF.bind (WF.zeroValue t) fun z=>by
 refine WF.bind (WF.underlying t) fun d=> ?_
 split
 ·refine WF.bind (WF.mapM (fun f=>WF.bind (WF.sizeOf _) fun _=>WF.pure _) _) fun _=> ?_
  split
  ·exact WF.pure _
  ·exact WF.halt _
 ·refine WF.bind (WF.sizeOf _) fun _=> ?_
  split
  ·exact WF.pure _
  ·exact WF.halt _
 ·exact WF.halt _
end
end Go.Fw
end
section
namespace Go.Fw
def Pq(hint:T7)(E:Env)(w:World)(bx:List Bx)(c:Nat):Prop:=E.T c∨ ∃n B,n∈hint∧bx[n]? =some B∧K_ E w n B c
def II(K:Nat→Prop)(w w':World):Prop:= ∀c,K c→w'.heap[c]? =w.heap[c]?
theorem L8{w:World}{B:Nat→Prop}:∀{p:List HW} {r:Ty} {h:Value} {rows:List r.D} {q:Ty} {ys:List q.D} {bb o len cap i:Nat},Rd w B (.sl r) [h] rows→AM r rows p→Aq r rows p=some ⟨q,ys⟩→
  BG w h p=some (.slice (some ⟨bb,o,none⟩) len cap)→i<ys.length→RB w (.sl r) [h] rows bb
 |[],r,h,rows,q,ys,bb,o,len,cap,i,hr,hp,hg,hh,hi=>by
  rw[AJ]at hh;cases hh;simp only[Aq,UG,UP]at hg;obtain⟨rfl,hg⟩:=hg;obtain rfl:=Uc hg;simp only[RB];exact⟨bb,o,len,cap,rfl,by omega,.inl rfl⟩
 |s::p,r,h,rows,q,ys,bb,o,len,cap,i,hr,hp,hg,hh,hi=>by
  simp only[AM]at hp;obtain⟨hsi,CB,hp⟩:=hp;simp only[Rd]at hr;obtain⟨a,cap',e1,_,hr⟩:=hr;obtain rfl:=(List.cons.inj e1).1;rcases hr with hr|⟨b',o',rfl,hb,hr⟩
  ·omega
  obtain⟨cs,hl,hc,hrow⟩:=hr s.i _ (CR hsi);simp only[Aq]at hg;split at hg
  case h_2=>cases hg
  rename_i q' x E_;rw[E_]at hp;dsimp only at hp;obtain⟨v,hv,hrv⟩:=FX hrow E_;have Oa:=hc _ _ hv;rw[←CB]at Oa;simp only[BG,Oa]at hh;have:=L8 hrv hp hg hh hi;simp only[RB];refine⟨b',o',_,cap',rfl,by omega,.inr ⟨s.i,_,cs,CR hsi,hl,hc,?_⟩⟩;clear hc Oa e1 hr;exact RB_cell hrow E_ hv this
where
 RB_cell {w:World} {B:Nat→Prop} {c:Nat}:∀{r:Ty} {cs:List Value} {x:r.D} {j:Nat} {t:Ty} {y:t.D} {v:Value},Rd w B r cs x→AB r j x=some ⟨t,y⟩→cs[j]? =some v→RB w t [v] y c→RB w r cs x c
 | .cons c r,cs,x,0,t,y,v,h,e,hv,k=>by
  simp only[Rd]at h;obtain⟨u,l,rfl,h1,h2⟩:=h;simp only[AB,UG,UP]at e;obtain⟨rfl,e⟩:=e;obtain rfl:=Uc e;simp at hv;subst hv;simp only[RB];exact⟨u,l,rfl,.inl k⟩
 | .cons c r,cs,x,j+1,t,y,v,h,e,hv,k=>by
  simp only[Rd]at h;obtain⟨u,l,rfl,h1,h2⟩:=h;simp only[AB]at e;have:=RB_cell h2 e (by simpa using hv) k;simp only[RB];exact⟨u,l,rfl,.inr this⟩
 | .int k,cs,x,0,t,y,v,h,e,hv,k' =>by
  simp only[AB,UG,UP]at e;obtain⟨rfl,_⟩:=e;simp[RB]at k'
 | .bool,cs,x,0,t,y,v,h,e,hv,k' =>by
  simp only[AB,UG,UP]at e;obtain⟨rfl,_⟩:=e;simp[RB]at k'
 | .str,cs,x,0,t,y,v,h,e,hv,k' =>by
  simp only[AB,UG,UP]at e;obtain⟨rfl,_⟩:=e;simp[RB]at k'
 | .sl r,cs,x,0,t,y,v,h,e,hv,k=>by
  simp only[AB,UG,UP]at e;obtain⟨rfl,e⟩:=e;obtain rfl:=Uc e;have hl:=HE h;simp only[Ty.n]at hl;obtain⟨u,rfl⟩:=List.length_eq_one_iff.1 hl;simp at hv;subst hv;exact k
 | .unit,_,_,_,_,_,_,_,e,_,_=>by simp[AB]at e
 | .int _,_,_,_+1,_,_,_,_,e,_,_=>by simp[AB]at e
 | .bool,_,_,_+1,_,_,_,_,e,_,_=>by simp[AB]at e
 | .str,_,_,_+1,_,_,_,_,e,_,_=>by simp[AB]at e
 | .sl _,_,_,_+1,_,_,_,_,e,_,_=>by simp[AB]at e
section
variable{P:Program} {T:BQ} (hT:Ag P T) {E:Env} {w:World}
include hT
theorem Jf{σ:St}{Fs:List T7}(hB:Bo E w σ.bx σ.bx Fs)(st:∀c,E.S c→E.T c){t:Nat}{x:AV}{z:XV}(e:HM T t σ (.c x)=some z){v:Value}(hx:VR E w σ.bx x v):
  ∃bb oo u y,v= .pointer (some ⟨bb,oo,none⟩)∧BE σ.bx x 0=some y∧XR E w σ.bx z u∧ ∀w',w'.heap[bb]? =w.heap[bb]?→(Instr.loadAt t v).run P w' = .ok u w':=by
 unfold HM at e;split at e
 case h_2=>cases e
 rename_i x' ti Mq Ce;cases Mq;split at e
 case isTrue=>cases e
 rename_i CB;have GU:=fun w=>Ag.isAgg hT Ce w
 split at e
 ·rename_i ha
  simp only[UI]at e;obtain⟨l,hl,rfl⟩:=e;obtain⟨h1,h2⟩:=Em hl;have h0:0<l.length:=by omega
  obtain⟨b,o,u,hv,_,_⟩:=Bb hB st (h2 0 _ (UH h0)) hx;obtain⟨cs,c1,c2,c3⟩:=FD hB st hx hv (l:=l) (j:=0) (fun i y hy=>by simpa using h2 i y hy);subst hv;have Gk:=(hT t ti Ce).M4;cases hd:ti.desc with
  |st fs=>
   rw[hd]at Gk;obtain⟨fields,hu,_⟩:=Gk;refine⟨b,o,.agg cs.toArray,_,rfl,by simpa using h2 0 _ (UH h0),⟨cs.toArray,rfl,by simpa using c3⟩,fun w' hw=>run_loadAt_mid w' b o t cs _ (by have:=c2.of_block hw;simpa[AG,World.rangeAt]using this) hu rfl ?_⟩;rw[Ag.size hT Ce,c1,h1]
  |_=>rw[hd]at ha;simp[TD.agg]at ha
 ·rename_i ha
  simp only[Bool.not_eq_true]at ha;simp only[UI]at e;obtain⟨y,hy,rfl⟩:=e;obtain⟨b,o,u,hv,hc,hr⟩:=Bb hB st hy hx;subst hv;refine⟨b,o,u,y,rfl,hy,hr,fun w' hw=> ?_⟩;have Oc:=GU w';rw[ha]at Oc;simp only[VB]at hc;have Hj:w'.cell? ⟨b,o,none⟩=some u:=by rw[World.cell?_of_block (a:=⟨b,o,none⟩) hw];exact hc
  simp[Instr.loadAt,Instr.sureAddr,loadVar,Oc,Hj]
end
theorem Ks{E E':Env}{w w':World}{vw vw':List Bx}{t:Ty}{x:t.D}{v:Value}(h:VR E w vw (.v t x) v):VR E' w' vw' (.v t x) v:=by
 obtain⟨h1,h2⟩:=h;refine⟨h1,?_⟩;cases t<;>simp_all[Ty.scalar,Rd]
theorem GQ{E E':Env}{w w':World}{vw vw':List Bx}{t:Ty}{x:t.D}{v u:Value}(h:VR E w vw (.v t x) v)(k:VR E' w' vw' (.v t x) u):v=u:=by
 obtain⟨h1,h2⟩:=h;obtain⟨_,k2⟩:=k;cases t<;>simp_all[Ty.scalar,Rd]
def Gw(x:XV):Prop:=(∃t z,x= .c (.v t z))∨(∃l,x= .agg l∧ ∀c∈l,∃t z,c= .v t z)
theorem Bf{E E':Env}{w w':World}{vw vw':List Bx}{x:XV}{v:Value}(hp:Gw x)(h:XR E w vw x v):XR E' w' vw' x v:=by
 rcases hp with⟨t,z,rfl⟩|⟨l,rfl,hl⟩
 ·exact Ks (E:=E) (w:=w) (vw:=vw) (E':=E') (w':=w') (vw':=vw') h
 ·obtain⟨vs,rfl,Dg⟩:=h
  refine⟨vs,rfl,?_⟩
  generalize vs.toList=m at Dg
  induction l generalizing m with
  |nil=>cases m with
   |nil=>trivial
   |cons _ _=>exact Dg.elim
  |cons c l ih=>cases m with
   |nil=>exact Dg.elim
   |cons u m=>
    obtain⟨t,z,rfl⟩:=hl c (by simp);exact⟨Ks Dg.1,ih (fun c hc=>hl c (by simp[hc])) m Dg.2⟩
theorem J4{d:TD}{x z:AV}{p:Bool}(e:IY d x z=some p):(∃t y,x= .v t y)∧ ∃t y,z= .v t y:=by
 unfold IY at e;split at e
 ·exact⟨⟨_,_,rfl⟩,_,_,rfl⟩
 ·exact⟨⟨_,_,rfl⟩,_,_,rfl⟩
 ·exact⟨⟨_,_,rfl⟩,_,_,rfl⟩
 ·cases e
theorem D6{T:BQ}:∀{i:Nat} {fs:List T8} {l m:List AV} {r:Bool},BU T i fs l m=some r→(∀c∈l,∃t z,c= .v t z)∧ ∀c∈m,∃t z,c= .v t z
 |i,[],[],[],r,e=>by simp
 |i,(o,t)::fs,x::l,z::m,r,e=>by
  simp only[BU]at e;split at e
  case isFalse=>cases e
  split at e
  case h_2=>cases e
  split at e
  case h_2=>cases e
  rename_i p hp;simp only[UI]at e;obtain⟨r',e1,_⟩:=e;obtain⟨a1,a2⟩:=J4 hp;obtain⟨b1,b2⟩:=D6 e1;exact⟨fun c hc=>(Uo.1 hc).elim (fun e=>e▸a1) (b1 c),fun c hc=>(Uo.1 hc).elim (fun e=>e▸a2) (b2 c)⟩
 |_,[],[],_::_,_,e=>by simp[BU]at e
 |_,[],_::_,_,_,e=>by simp[BU]at e
 |_,_::_,[],_,_,e=>by simp[BU]at e
 |_,_::_,_::_,[],_,e=>by simp[BU]at e
theorem N6{op:BinOp}{κ:IntKind}{a b:Int}{r:AV}(e:Fe op κ a b some=some r):∃t x,r= .v t x:=by
 cases op<;>simp only[Fe,UG]at e<;>first
  |exact⟨_,_,e.symm⟩
  |(
   split at e
   ·cases e
   ·cases e;exact⟨_,_,rfl⟩)
  |cases e
theorem Jj{op:BinOp}{κ:IntKind}{a b:Int}{r:AV}(e:Dz op κ a b some=some r):∃t x,r= .v t x:=by
 unfold Dz at e;split at e
 ·cases e
 ·cases op<;>simp only[UG]at e<;>first
   |exact⟨_,_,e.symm⟩
   |cases e
theorem Nt{op:BinOp}{a b:List UInt8}{r:AV}(e:GO op a b some=some r):∃t x,r= .v t x:=by
 cases op<;>simp only[GO,UG]at e<;>first
  |exact⟨_,_,e.symm⟩
  |(
   split at e
   ·cases e;exact⟨_,_,rfl⟩
   ·cases e)
  |cases e
theorem PK{T:BQ}{t:Nat}{op:BinOp}{a b:XV}{r:AV}(e:Kv T t op a b some=some r):(∃t x,r= .v t x)∧Gw a∧Gw b:=by
 unfold Kv at e;split at e
 ·refine⟨?_,.inl ⟨_,_,rfl⟩,.inl ⟨_,_,rfl⟩⟩
  split at e
  ·exact Jj e
  ·exact Jj e
  ·split at e
   ·exact N6 e
   ·cases e
 ·exact⟨Nt e,.inl ⟨_,_,rfl⟩,.inl ⟨_,_,rfl⟩⟩
 ·refine⟨?_,.inl ⟨_,_,rfl⟩,.inl ⟨_,_,rfl⟩⟩
  split at e
  ·split at e
   ·split at e
    ·cases e;exact⟨_,_,rfl⟩
    ·cases e;exact⟨_,_,rfl⟩
    ·cases e
   ·cases e
  ·cases e
 ·split at e
  ·rename_i hq
   rw[UJ]at hq;obtain⟨fs,_,hq⟩:=hq;obtain⟨q1,q2⟩:=D6 hq;cases e;exact⟨⟨_,_,rfl⟩,.inr ⟨_,rfl,q1⟩,.inr ⟨_,rfl,q2⟩⟩
  ·rename_i hq
   rw[UJ]at hq;obtain⟨fs,_,hq⟩:=hq;obtain⟨q1,q2⟩:=D6 hq;cases e;exact⟨⟨_,_,rfl⟩,.inr ⟨_,rfl,q1⟩,.inr ⟨_,rfl,q2⟩⟩
  ·cases e
 ·cases e
theorem NC{g:Bool}{a b:XV}{r:AV}(e:J3 g a b some=some r):(∃t x,r= .v t x)∧Gw a∧Gw b:=by
 unfold J3 at e;split at e
 ·refine⟨?_,.inl ⟨_,_,rfl⟩,.inl ⟨_,_,rfl⟩⟩
  split at e
  ·cases g<;>(cases e;exact⟨_,_,rfl⟩)
  ·cases e
 ·cases e
theorem QH{op:UnOp}{a:XV}{r:AV}(e:OX op a some=some r):(∃t x,r= .v t x)∧Gw a:=by
 unfold OX at e;split at e
 ·cases e;exact⟨⟨_,_,rfl⟩,.inl ⟨_,_,rfl⟩⟩
 ·cases e;exact⟨⟨_,_,rfl⟩,.inl ⟨_,_,rfl⟩⟩
 ·cases e
section
variable{Y:Type} {P:Program} {T:BQ} (hT:Ag P T) {Γ:Nat→Option Dn} {o:Oper} {E:Env} {σ:St} {a:Act} {w:World} {k:K Y} {y:Y}
include hT
theorem Mb(h:Rel E σ a w){t:TypeId}(ps:Array (Nat×Operand)){s b:Nat}{fs:List T8}{rw:Option Ty}(Ce:T.get t=some ⟨s,b,.st fs,rw⟩){r:Ty}(hr:T.GR t=some r)
  {cs:List AV} (hb:GA T fs (Ek r) (ps.toList.map fun q=>(q.1,σ.ev q.2))=some cs):
  ∃Bn,(∀w',(Instr.build t (ps.map fun(i,x)=>(i,a.eval x))).run P w' = .ok (.agg Bn) w')∧GD E w σ.bx cs Bn.toList:=by
 obtain⟨i,z,h1,h2,h3,_⟩:=row_zero hT hr;obtain⟨fields,hu,hfs,CB⟩:=OE hT Ce;obtain⟨Bn,f1,f2⟩:=EY hT (H7 h ps) (arr:=z.cells) (by rw[h3];exact Dw r) hb;refine⟨Bn,fun w' => ?_,f2⟩;have hb:P.built t (ps.map fun(i,x)=>(i,a.eval x)).toList=some Bn:=by
  unfold Program.built;simp only[h1,hu,h2];have hm:fields.toList.mapM (fun f=>(P.info? f.type).map fun i=>(f.offset,i.size))=some (fields.toList.map fun f=>(f.offset,((P.info? f.type).map (·.size)).getD 0)):=by
   refine IW fun f hf=> ?_
   obtain⟨i',MA,_⟩:=CB f hf;simp[MA]
  simp only[hm];rw[←f1];congr 1;funext n;subst hfs;simp only[List.getElem?_toArray,Ue];cases hn:fields.toList[n]? with
  |none=>simp
  |some f=>
   obtain⟨i',MA,_⟩:=CB f (UO hn);simp[MA]
 exact run_build (P:=P) w' t (ps.map fun(i,x)=>(i,a.eval x)) Bn hb
theorem LY{hint:T7}(h:Rel E σ a w)(hq:GK hint σ o.op=true)(e:DY T Γ o σ k=some y):
  ∃v x,XR E w σ.bx x v∧k x σ=some y∧ ∀w',II (Pq hint E w σ.bx) w w'→(execOp a.eval o).run P w' = .ok (.value v) w':=by
 obtain⟨Fs,hB,hS⟩:=h.bx;have st:=hS.st;have wf:∀{s:Sem Value} {v:Value},WF P s→s.run P w= .ok v w→ ∀w',s.run P w' = .ok v w':=fun h1 h2 w' =>h1 w _ w h2 w'
 unfold DY at e;split at e
 ·rename_i x ho
  exact⟨a.eval x,_,h.ev x,e,fun w' _=>by simp only[execOp,ho,Sem.run_pure]⟩
 ·rename_i x ho
  unfold EV at e;split at e
  ·rename_i hx
   rw[ho]at hq;simp only[GK,hx]at hq;cases hq
  ·exact⟨a.eval x,_,h.ev x,e,fun w' _=>by simp only[execOp,ho,Sem.run_pure]⟩
 ·rename_i c xa xb ho
  split at e
  case h_2=>cases e
  rename_i p hp;have hc:=h.ev c;rw[hp]at hc;have Hj:=CY (E:=E) (w:=w) (vw:=σ.bx) hc;refine⟨if p then a.eval xa else a.eval xb,if p then σ.ev xa else σ.ev xb,by cases p<;>simp[h.ev],by cases p<;>simpa[Nc]using e,fun w' _=>by simp[execOp,ho,Hj,asBool]⟩
 ·rename_i t ho;rw[ho]at hq;cases hq
 ·rename_i t x ho;rw[ho]at hq;cases hq
 ·rename_i t ps ho
  split at e
  case h_2=>cases e
  rename_i s b fs rw r Ce hr;split at e
  case h_2=>cases e
  rename_i cs Mp;obtain⟨Bn,h1,h2⟩:=Mb hT h ps Ce hr Mp;exact⟨.agg Bn,.agg cs,⟨Bn,rfl,h2⟩,e,fun w' _=>by simp only[execOp,ho,Sem.run_bind,h1 w',Result.andThen_ok,Sem.run_pure]⟩
 ·rename_i t n ps ho;rw[ho]at hq;cases hq
 ·rename_i t x ho
  rw[ho]at hq;split at e
  case h_2=>cases e
  rename_i z hz;have hv:=h.ev x;simp only[GK]at hq
  generalize hX:σ.ev x=X at hq hv hz
  cases X with
  |agg l=>cases hq
  |C9 l=>cases hq
  |c ad=>
   obtain⟨bb,oo,u,cell,hp,hc,h2,h3⟩:=Jf hT hB st hz hv;refine⟨u,z,h2,e,fun w' PT=> ?_⟩;have Nz:w'.heap[bb]? =w.heap[bb]?:=by
    refine PT bb ?_
    have Ep:VR E w σ.bx ad (a.eval x):=hv;cases ad with
    |A6 b j=>
     simp only[F6,VP]at hq;simp only[BE]at hc;split at hc
     ·rename_i cs hb
      refine .inr ⟨b,_,hq,hb,?_⟩;have:=Ep.2;rw[hp]at this;simp only[Value.pointer.injEq,UG,Addr.mk.injEq]at this;exact this.1
     ·cases hc
    |BH b p i sz j=>
     simp only[F6,VP]at hq;simp only[BE]at hc;split at hc
     ·rename_i d q rows hb
      refine .inr ⟨b,_,hq,hb,?_⟩;simp only[VR,hb]at Ep;obtain⟨_,hpp,q1,ys,b2,o2,len,cap,g1,g2,g3,g4⟩:=Ep;rw[hp]at g4;simp only[Value.pointer.injEq,UG,Addr.mk.injEq]at g4;obtain⟨rfl,_⟩:=g4;obtain⟨F,⟨_,O1⟩,_⟩:=hB.get hb;exact L8 (Dy O1) hpp g1 g3 g2
     ·cases hc
    |B3 s r z j=>
     obtain⟨b2,o2,cs,g1,g2,_⟩:=Ep;rw[hp]at g1;simp only[Value.pointer.injEq,UG,Addr.mk.injEq]at g1;obtain⟨rfl,_⟩:=g1
     left
     cases s with
     |true=>exact st _ (by simpa using g2)
     |false=>simpa using g2
    |_=>cases hq
   simp only[execOp,ho,Sem.run_bind,h3 w' Nz,Result.andThen_ok,Sem.run_pure]
 ·rename_i t xa xx ho;rw[ho]at hq;cases hq
 ·rename_i x ho
  have hx:=h.ev x;split at e
  ·rename_i b j hp
   rw[hp]at hx;have Mq:b<σ.bx.length∧a.eval x= .pointer (some ⟨E.A5 b,j,none⟩):=hx;exact⟨a.eval x,_,hx,e,fun w' _=>by simp only[execOp,ho,Mq.2,Sem.run_pure]⟩
  ·rename_i b p i sz j hp
   rw[hp]at hx;have NQ:Ez (a.eval x)=true:=hx.1;refine⟨a.eval x,_,hx,e,fun w' _=> ?_⟩;unfold Ez at NQ;split at NQ
   ·rename_i hv
    simp only[execOp,ho,hv,Sem.run_pure]
   ·cases NQ
  ·rename_i s r z j hp
   rw[hp]at hx;obtain⟨bb,oo,cs,hv,hrest⟩:=hx;exact⟨a.eval x,.c (.B3 s r z j),⟨bb,oo,cs,hv,hrest⟩,e,fun w' _=>by simp only[execOp,ho,hv,Sem.run_pure]⟩
  ·rename_i f BL hp
   rw[hp]at hx;have Mq:(∀b∈BL,b<σ.bx.length)∧a.eval x= .func (.func f) #[] (BL.map fun b=>Value.pointer (some ⟨E.A5 b,0,none⟩)).toArray:=hx;exact⟨a.eval x,_,hx,e,fun w' _=>by simp only[execOp,ho,Mq.2,Sem.run_pure]⟩
  ·cases e
 ·rename_i op t x z s ho
  rw[Ir,UJ]at e;obtain⟨r,e1,e⟩:=e;obtain⟨⟨t',x',rfl⟩,p1,p2⟩:=PK e1;obtain⟨r0,val,h1,h2,h3⟩:=Fp hT e1 (h.ev x) (h.ev z) x z;cases h1;refine⟨val,.c (.v t' x'),h3,e,fun w' _=> ?_⟩;obtain⟨r1,val',g1,g2,g3⟩:=Fp hT e1 (Bf (E':=E) (w':=w') (vw':=σ.bx) p1 (h.ev x)) (Bf p2 (h.ev z)) x z;cases g1;have:=GQ h3 g3;subst this;simp only[execOp,ho,Sem.run_bind];simp only[Sem.run_bind]at g2;rw[g2];rfl
 ·rename_i op t x ho
  rw[KK,UJ]at e;obtain⟨r,e1,e⟩:=e;obtain⟨⟨t',x',rfl⟩,p1⟩:=QH e1;obtain⟨r0,val,h1,h2,h3⟩:=HA (P:=P) e1 (h.ev x);cases h1;refine⟨val,.c (.v t' x'),h3,e,fun w' _=> ?_⟩;obtain⟨r1,val',g1,g2,g3⟩:=HA (P:=P) e1 (Bf (E':=E) (w':=w') (vw':=σ.bx) p1 (h.ev x));cases g1;have:=GQ h3 g3;subst this;simp only[execOp,ho,Sem.run_bind,g2,Result.andThen_ok,Sem.run_pure]
 ·rename_i s d x ho;rw[ho]at hq;cases hq
 ·rename_i f first BL ho;rw[ho]at hq;cases hq
 ·rename_i t l c ho;rw[ho]at hq;cases hq
 ·rename_i t x lo hi ho
  obtain⟨z,val,h1,h2,h3⟩:=Gd hT hB st e (h.ev x) (MC h lo) (MC h hi);exact⟨val,z,h3,h1,fun w' _=>by simp only[execOp,ho,Option.map_none,Sem.run_bind,wf (WF.sliceAt _ _ _ _) h2 w',Result.andThen_ok,Sem.run_pure]⟩
 ·rename_i t x f ho
  split at e
  case h_2=>cases e
  rename_i z hz;obtain⟨u,h1,h2⟩:=GZ hT hz (h.ev x);refine⟨u,z,h2,e,fun w' _=> ?_⟩;have hw:(Instr.fieldAt t (a.eval x) f).run P w' = .ok u w':=by
   have hx:=h.ev x;unfold KO at hz;split at hz
   case h_2=>cases hz
   rename_i s b fs _ Ce;split at hz
   case h_2=>cases hz
   rename_i o' u' hf;have key:∀ad,a.eval x= .pointer (some ad)→(Instr.fieldAt t (a.eval x) f).run P w' = .ok u w':=by
    intro ad Su;rw[Su]at h1⊢;have r1:=C6 hT (w:=w) Ce hf (a:=ad);have r2:=C6 hT (w:=w') Ce hf (a:=ad);rw[r1]at h1;cases h1;exact r2
   split at hz
   ·rename_i b' j hp
    rw[hp]at hx;exact key _ hx.2
   ·rename_i b' p i sz j hp
    rw[hp]at hx;have NQ:Ez (a.eval x)=true:=hx.1;unfold Ez at NQ;split at NQ
    ·rename_i hv;exact key _ hv
    ·cases NQ
   ·rename_i s r y' j hp
    rw[hp]at hx;obtain⟨bb,oo,cs,hv,_⟩:=hx;exact key _ hv
   ·cases hz
  simp only[execOp,ho,Sem.run_bind,hw,Result.andThen_ok,Sem.run_pure]
 ·rename_i t x f ho
  split at e
  case h_2=>cases e
  rename_i z hz;obtain⟨u,h1,h2⟩:=HQ hT hz (h.ev x);exact⟨u,z,h2,e,fun w' _=>by simp only[execOp,ho,Sem.run_bind,wf (WF.field _ _ _) h1 w',Result.andThen_ok,Sem.run_pure]⟩
 ·rename_i t x i ho
  obtain⟨z,val,h1,h2,h3⟩:=Gn hT hB st e (h.ev x) (h.ev i);exact⟨val,z,h3,h1,fun w' _=>by simp only[execOp,ho,Sem.run_bind,wf (WF.indexAt _ _ _) h2 w',Result.andThen_ok,Sem.run_pure]⟩
 ·rename_i t x i ho
  obtain⟨z,val,h1,h2,h3⟩:=Es hT e (h.ev x) (h.ev i);exact⟨val,z,h3,h1,fun w' _=>by simp only[execOp,ho,Sem.run_bind,wf (WF.index _ _ _) h2 w',Result.andThen_ok,Sem.run_pure]⟩
 ·rename_i x i ho
  split at e
  case h_2=>cases e
  rename_i z hz;obtain⟨u,h1,h2⟩:=FC (P:=P) hz (h.ev x);exact⟨u,z,h2,e,fun w' _=>by simp only[execOp,ho,Sem.run_bind,wf (WF.extract _ _) h1 w',Result.andThen_ok,Sem.run_pure]⟩
 ·rename_i f args JR ho;rw[ho]at hq;cases hq
 ·rename_i args JR ho
  split at e
  ·rename_i s t BC Oz
   obtain⟨x,rfl,hx⟩:=DZ BC;have hv:=h.ev x;rw[hx]at hv;have Ep:=Dj (E:=E) (w:=w) (vw:=σ.bx) hv;split at e
   case isFalse=>cases e
   rename_i hs;have hu:=DV hT hs;refine⟨.int .i64 (s.length:Int),.c (.v (.int .i64) (s.length:Int)),VR.int (E:=E) (vw:=σ.bx) _ _,e,fun w' _=> ?_⟩;have CB:(⟨s.toArray⟩:ByteArray).size=s.length:=by simp[ByteArray.size]
   simp[execOp,ho,resolve,invoke,builtin,Builtin.len_,Oz,Ep,AD hu,goInt,CB]
  ·rename_i z t _ BC Oz
   obtain⟨x,rfl,hx⟩:=DZ BC;have hv:=h.ev x;rw[hx]at hv;split at e
   case isFalse=>cases e
   rename_i hs;split at e
   case h_2=>cases e
   rename_i n hn;obtain⟨el,hu⟩:=Gv hT hs;obtain⟨ad,cap,Ep⟩:=HJ hB st hn hv;refine⟨.int .i64 (n:Int),.c (.v (.int .i64) (n:Int)),VR.int (E:=E) (vw:=σ.bx) _ _,e,fun w' _=> ?_⟩;simp[execOp,ho,resolve,invoke,builtin,Builtin.len_,Oz,Ep,AD hu,goInt]
  ·cases e
 ·rename_i args JR ho;rw[ho]at hq;cases hq
 ·rename_i args JR ho;rw[ho]at hq;cases hq
 ·rename_i args JR ho
  split at e
  case h_2=>cases e
  rename_i x1 x2 BC;obtain⟨o1,o2,rfl,hx1,hx2⟩:=Dc BC;have Ex:=h.ev o1;have ER:=h.ev o2;rw[hx1]at Ex;rw[hx2]at ER;rw[EL,UJ]at e;obtain⟨r,e1,e⟩:=e;obtain⟨⟨t',x',rfl⟩,p1,p2⟩:=NC e1;obtain⟨r0,val,h1,h2,h3⟩:=Ct (P:=P) (big:=true) e1 Ex ER JR #[] o.type;cases h1;refine⟨val,.c (.v t' x'),h3,e,fun w' _=> ?_⟩;obtain⟨r1,val',g1,g2,g3⟩:=Ct (P:=P) (big:=true) e1 (Bf (E':=E) (w':=w') (vw':=σ.bx) p1 Ex) (Bf p2 ER) JR #[] o.type;cases g1;have:=GQ h3 g3;subst this;simp only[VN]at g2;simp[execOp,ho,resolve,invoke,builtin,g2]
 ·rename_i args JR ho
  split at e
  case h_2=>cases e
  rename_i x1 x2 BC;obtain⟨o1,o2,rfl,hx1,hx2⟩:=Dc BC;have Ex:=h.ev o1;have ER:=h.ev o2;rw[hx1]at Ex;rw[hx2]at ER;rw[EL,UJ]at e;obtain⟨r,e1,e⟩:=e;obtain⟨⟨t',x',rfl⟩,p1,p2⟩:=NC e1;obtain⟨r0,val,h1,h2,h3⟩:=Ct (P:=P) (big:=false) e1 Ex ER JR #[] o.type;cases h1;refine⟨val,.c (.v t' x'),h3,e,fun w' _=> ?_⟩;obtain⟨r1,val',g1,g2,g3⟩:=Ct (P:=P) (big:=false) e1 (Bf (E':=E) (w':=w') (vw':=σ.bx) p1 Ex) (Bf p2 ER) JR #[] o.type;cases g1;have:=GQ h3 g3;subst this;simp only[Ut,VI]at g2;simp[execOp,ho,resolve,invoke,builtin,g2]
 ·cases e
end
end Go.Fw
end
section
namespace Go.Fw
section
variable{P:Program} {md:Region.Mode} {ops:Array Oper} {Q:Exit→Act→World→Prop}
theorem II.refl(K:Nat→Prop)(w:World):II K w w:=fun _ _=>rfl
def KY(P:Program)(md:Region.Mode)(ops:Array Oper)(Q:Exit→Act→World→Prop):Nat→Array Bool→(Nat→Prop)→Act→World→Prop
 |0,AR,_,a,w=>Region.ready md ops AR=[]∧Q .normal a w
 |fuel+1,AR,K,a,w=>(Region.ready md ops AR=[]→Q .normal a w)∧
  ∀i∈Region.ready md ops AR,wpOp P ops Q i (fun a' w' => ∃K':Nat→Prop,(∀c,K c→K' c)∧II K w w'∧KY P md ops Q fuel (AR.setIfInBounds i true) K' a' w') a w
theorem JY:∀(fuel:Nat) (AR:Array Bool) (K:Nat→Prop) (a:Act) (w:World),KY P md ops Q fuel AR K a w→wpAny P md ops Q fuel AR a w
 |0,_,_,_,_,h=>h
 |fuel+1,_,_,_,_,h=>⟨h.1,fun i hi=>wpOp_mono (fun a' w' ⟨K',_,_,h'⟩=>JY fuel _ K' a' w' h') (h.2 i hi)⟩
theorem YieldsIf.mono{S S':World→Prop}{o:Oper}{v:Value}{a:Act}(h:YieldsIf P ops S o v a)(hs:∀w,S' w→S w):YieldsIf P ops S' o v a:=
 h.imp (fun⟨h1,h2⟩=>⟨h1,fun w hw=>h2 w (hs w hw)⟩) id
theorem HO{i:Nat}{oi:Oper}{v:Value}(hi:ops[i]? =some oi)(Mt:∀(j:Nat) (o:Oper) cs b,ops[j]? =some o→o.op≠ .select cs b)(hQ:∀c a w,¬Q (.panic c) a w):
  ∀(fuel:Nat) (AR:Array Bool) (K:Nat→Prop) (a:Act) (w:World),
   (∀j oj,ops[j]? =some oj→j≠i→AR.getD j true=false→(∀e∈oj.after,Region.binds md e=true→e.on≠i)→oi.apart ops oj=true)→
   i∈Region.ready md ops AR→YieldsIf P ops (II K w) oi v a→KY P md ops Q fuel (AR.setIfInBounds i true) K (a.put oi.dst v) w→KY P md ops Q (fuel+1) AR K a w:=by
 intro fuel
 induction fuel with
 |zero=>
  intro AR K a w _ hr hy H;refine⟨fun h=>(by rw[h]at hr;cases hr),fun j hj=> ?_⟩;by_cases hji:j=i
  ·subst hji;exact hy.wpOp hi (II.refl K w) ⟨K,fun _ h=>h,II.refl K w,H⟩
  ·have:=ready_mono hj hji
   rw[H.1]at this;cases this
 |succ fuel ih=>
  intro AR K a w Cg hr hy H;refine⟨fun h=>(by rw[h]at hr;cases hr),fun j hj=> ?_⟩;by_cases hji:j=i
  ·subst hji;exact hy.wpOp hi (II.refl K w) ⟨K,fun _ h=>h,II.refl K w,H⟩
  ·have h1:=H.2 j (ready_mono hj hji)
   obtain⟨hjun,oj,hoj,E6⟩:=mem_ready.1 hj;have N7:∀e∈oj.after,Region.binds md e=true→e.on≠i:=fun e he hb heq=>by
    have h1:=E6 e he hb;have h0:=(mem_ready.1 hr).1;rw[heq]at h1;rcases Nat.lt_or_ge i AR.size with h'|h'
    ·simp[h']at h0 h1;rw[h0]at h1;cases h1
    ·simp[Array.getElem?_eq_none h']at h1
   have h2:=wpOp_putIf hoj (Cg j oj hoj hji hjun N7) (fun cs b=>Mt i oi cs b hi) (fun cs b=>Mt j oj cs b hoj) (fun c a w h=>absurd h (hQ c _ w)) hy h1;have PO:∀k ok,ops[k]? =some ok→k≠i→(AR.setIfInBounds j true).getD k true=false→
     (∀e∈ok.after,Region.binds md e=true→e.on≠i)→oi.apart ops ok=true:=fun k ok hk Tk SC Qq=>by
    refine Cg k ok hk Tk ?_ Qq
    by_cases hjk:j=k
    ·subst hjk;exact hjun
    ·rw[getD_set_ne true hjk]at SC;exact SC
   refine wpOp_mono (fun a' w' h3=> ?_) h2;obtain⟨hy',K',hK,hs,ht⟩:=h3;refine⟨K',hK,hs,ih (AR.setIfInBounds j true) K' a' w' PO (ready_mono hr (Ne.symm hji)) (YieldsIf.mono hy' fun PZ Rh c hc=>(Rh c (hK c hc)).trans (hs c hc)) ?_⟩;rw[Array.setIfInBounds_comm _ _ hji];exact ht
end
theorem HU{Y:Type}{f:Nat→List Bool→Option Y}{y:Y}:∀{rs:T7},(∀ω,KL f rs ω=some y)→ ∀i∈rs,∀ω,f i ω=some y
 |[i],h,j,hj,ω=>by
  simp at hj;subst hj;exact h ω
 |i::j::r,h,k,hk,ω=>by
  rcases Uo.1 hk with rfl|hk
  ·exact h (true::ω)
  ·exact HU (rs:=j::r) (fun ω=>h (false::ω)) k hk ω
theorem KW{σ:St}{t:Nat}{b:Bool}(e:σ.tm[t]? =some (.c (.v .bool b))):σ.put (some t) (.c (.v .bool b))=σ:=by
 simp only[St.put];obtain⟨tm,bx⟩:=σ;simp only[St.mk.injEq,Us];obtain⟨CK,he⟩:=UF.1 e;apply U8;intro i;rw[U0];split
 ·rename_i e1;subst e1;exact e.symm
 ·rfl
theorem Jr{Y I:Type}[Nonempty I]{C:I8}{ops:Array Oper}{o:Oper}{kn:I→St→Option Y}{σ:St}{y:Y}{E:Env}{a:Act}{w:World}(h:Rel E σ a w)
  (e:∀ω,Ls C ops o (kn ω) σ=some y):
  (Region.wanted o (yielded ops a.tmps)=true∧ ∀ω,(DY C.T C.Γ o σ fun x σ' =>kn ω (σ'.put o.dst x))=some y)∨
  (Region.wanted o (yielded ops a.tmps)=false∧ ∀ω,kn ω (σ.put o.dst (.C9 []))=some y):=by
 unfold Ls at e;cases hg:o.guard with
 |none=>
  simp only[hg]at e;exact .inl ⟨by simp[Region.wanted,hg],e⟩
 |some q=>
  obtain⟨j,want⟩:=q;simp only[hg]at e;cases ht:(ops[j]?).bind (·.dst)with
  |none=>
   simp only[ht]at e;obtain⟨i0⟩:= ‹Nonempty I›;cases e i0
  |some t=>
   simp only[ht]at e;obtain⟨i0⟩:= ‹Nonempty I›;have e0:=e i0;split at e0
   ·rename_i b hb
    simp only[hb]at e;obtain⟨v,hv,hx⟩:=h.tmp hb;have Qi:=CY (E:=E) (w:=w) (vw:=σ.bx) hx;subst Qi;have hy:yielded ops a.tmps j=some b:=by rw[Eh ht hv];rfl
    have hk:=KW hb;cases b with
    |true=>
     simp only[cond_true,tt,hk]at e;cases want with
     |true=>exact .inl ⟨by simp[Region.wanted,hg,hy],fun ω=>by simpa using e ω⟩
     |false=>exact .inr ⟨by simp[Region.wanted,hg,hy],fun ω=>by simpa using e ω⟩
    |false=>
     simp only[cond_false,ff,hk]at e;cases want with
     |true=>exact .inr ⟨by simp[Region.wanted,hg,hy],fun ω=>by simpa using e ω⟩
     |false=>exact .inl ⟨by simp[Region.wanted,hg,hy],fun ω=>by simpa using e ω⟩
   ·rename_i hb
    simp only[hb]at e;obtain⟨v,hv,vs,rfl,hx⟩:=h.tmp hb;have hy:yielded ops a.tmps j=none:=by rw[Eh ht hv];rfl
    exact .inr ⟨by simp[Region.wanted,hg,hy],e⟩
   ·cases e0
theorem Na{ops:Array Oper}{o:Oper}{σ:St}{E:Env}{a:Act}{w:World}(h:Rel E σ a w)(e:idle ops σ o=true):Region.wanted o (yielded ops a.tmps)=false:=by
 unfold idle at e;cases hg:o.guard with
 |none=>simp[hg]at e
 |some q=>
  obtain⟨j,want⟩:=q;simp only[hg]at e;cases ht:(ops[j]?).bind (·.dst)with
  |none=>simp[ht]at e
  |some t=>
   simp only[ht]at e;split at e
   ·rename_i b hb
    obtain⟨v,hv,hx⟩:=h.tmp hb;have Qi:=CY (E:=E) (w:=w) (vw:=σ.bx) hx;subst Qi;have hy:yielded ops a.tmps j=some b:=by rw[Eh ht hv];rfl
    cases b<;>cases want<;>simp_all[Region.wanted]
   ·rename_i hb
    obtain⟨v,hv,vs,rfl,hx⟩:=h.tmp hb;have hy:yielded ops a.tmps j=none:=by rw[Eh ht hv];rfl
    simp[Region.wanted,hg,hy]
   ·cases e
theorem JS{Y I:Type}[Nonempty I]{C:I8}{ops:Array Oper}{i:Nat}{o:Oper}(ho:ops[i]? =some o){kn:I→St→Option Y}{σ:St}{y:Y}{E:Env}{a:Act}{w:World}(h:Rel E σ a w)
  (e:∀ω,MB C ops i (kn ω) σ=some y):
  (Region.wanted o (yielded ops a.tmps)=true∧ ∀ω,(DY C.T C.Γ o σ fun x σ' =>kn ω (σ'.put o.dst x))=some y)∨
  (Region.wanted o (yielded ops a.tmps)=false∧ ∀ω,kn ω (σ.put o.dst (.C9 []))=some y):=
 Jr h fun ω=>by
  have:=e ω;unfold MB at this;simpa only[ho]using this
theorem M8{hint t:T7}{E E':Env}{bx CO:List Bx}{w w':World}(h:CX t E bx w E' CO w')(ht:∀b∈t,b∉hint)(ha:∀b∈hint,Gu CO b=false):
  (∀c,Pq hint E w bx c→Pq hint E' w' CO c)∧II (Pq hint E w bx) w w':=by
 have key:∀n B,n∈hint→bx[n]? =some B→ ∃B',CO[n]? =some B'∧C7 B B'∧ ∀c,K_ E w n B c→w'.heap[c]? =w.heap[c]?:=by
  intro n B hn hB;have hd:=ha n hn;unfold Gu at hd;split at hd
  ·cases hd
  ·rename_i B' Ht CZ
   obtain⟨h1,h2⟩:=h.frame n B B' (fun hm=>ht n hm hn) hB CZ Ht;exact⟨B',CZ,h1,h2⟩
  ·cases hd
 refine⟨fun c hc=> ?_,fun c hc=> ?_⟩
 ·rcases hc with hc|⟨n,B,hn,hB,hc⟩
  ·exact .inl (h.base.T c hc)
  ·obtain⟨B',CZ,hs,hh⟩:=key n B hn hB
   have hid:=h.ids n (UF.1 hB).1;refine .inr ⟨n,B',hn,CZ,?_⟩;cases B with
   |mem cs=>
    cases B' with
    |mem Eu=>simp only[K_]at hc⊢;rw[hid.1];exact hc
    |sl _ _ _=>exact hs.elim
    |dead=>exact hs.elim
   |sl d r rows=>
    cases B' with
    |mem Eu=>exact hs.elim
    |dead=>exact hs.elim
    |sl d' r' rows' =>
     simp only[C7,UP]at hs;obtain⟨rfl,hs⟩:=hs;obtain rfl:=Uc hs;simp only[K_]at hc⊢;rw[hid.2];exact Hp (fun d hd=>hh d hd) hc
   |dead=>exact hc.elim
 ·rcases hc with hc|⟨n,B,hn,hB,hc⟩
  ·exact h.base.heap c hc
  ·obtain⟨B',_,_,hh⟩:=key n B hn hB
   exact hh c hc
theorem D5{Y:Type}{C:I8}{hint:T7}{ops:Array Oper}{kn:List Bool→St→Option Y}{fuel:Nat}{AR:Array Bool}{ω:List Bool}{σ:St}{y:Y}(e:Cw C hint ops kn fuel AR ω σ=some y):∀b∈hint,Gu σ.bx b=false:=by
 unfold Cw at e;split at e
 ·rename_i h
  intro b hb;simpa using(Uz.1 h) b hb
 ·cases e
theorem J8{Y:Type}{P:Program}{C:I8}(hT:Ag P C.T)(hΓ:F4 P C.Γ){E0:Env}{w0:World}{N nb:Nat}{hint:T7}{ops:Array Oper}{kn:List Bool→St→Option Y}{y:Y}{Q:Exit→Act→World→Prop}
  (Mt:Region.noSelect ops=true) (hP:∀c a w,¬Q (.panic c) a w) (hk:∀E σ a w,Ok E0 w0 N nb E σ a w→(∀ω,kn ω σ=some y)→Q .normal a w):
  ∀(fuel:Nat) {AR:Array Bool} {E:Env} {σ:St} {a:Act} {w:World},Ok E0 w0 N nb E σ a w→(∀ω,Cw C hint ops kn fuel AR ω σ=some y)→KY P .any ops Q fuel AR (Pq hint E w σ.bx) a w:=by
 intro fuel
 induction fuel with
 |zero=>
  intro AR E σ a w h e;have e1:=fun ω=>e ω
  unfold Cw at e1;have NH:=D5 (e []);have Ol:(hint.all fun b=> !Gu σ.bx b)=true:=Uz.2 fun b hb=>by simp[NH b hb]
  simp only[Ol,VN]at e1;cases hr:Region.ready .any ops AR with
  |nil=>
   simp only[hr]at e1;exact⟨hr,hk E σ a w h e1⟩
  |cons i rs=>
   simp only[hr]at e1;cases e1 []
 |succ fuel ih=>
  intro AR E σ a w h e;have e1:=fun ω=>e ω
  unfold Cw at e1;have NH:=D5 (e []);have Ol:(hint.all fun b=> !Gu σ.bx b)=true:=Uz.2 fun b hb=>by simp[NH b hb]
  simp only[Ol,VN]at e1;cases hr:Region.ready .any ops AR with
  |nil=>
   simp only[hr]at e1;exact⟨fun _=>hk E σ a w h e1,by rw[hr];simp⟩
  |cons i0 rs=>
   simp only[hr]at e1;cases hf:(i0::rs).find? (IE hint ops AR σ)with
   |some i=>
    simp only[hf]at e1;have hi:=List.mem_of_find?_eq_some hf
    have ht:=List.find?_some hf
    unfold IE at ht;cases ho:ops[i]? with
    |none=>rw[ho]at ht;cases ht
    |some o=>
     simp only[ho,UT]at ht;have Cg:=Region.free_spec ho ht.2;rw[←hr]at hi;have hy:=JS (I:=List Bool) (kn:=fun ω σ' =>Cw C hint ops kn fuel (AR.setIfInBounds i true) ω σ') ho h.rel e1;rcases hy with⟨hw,hx⟩|⟨hw,hx⟩
     ·have hq:GK hint σ o.op=true:=by
       rcases VX _ _▸ht.1 with hq|hi
       ·exact hq
       ·rw[Na h.rel hi]at hw
        cases hw
      obtain⟨x,σ',hx0,hx1⟩:=G4 hx;obtain⟨v,x',q1,q2,q3⟩:=LY hT h.rel hq hx0;simp only[k0,UG,Ug]at q2;obtain⟨rfl,rfl⟩:=q2;have EJ:=ih (h.put o.dst q1) hx1;have Gm:(σ.put o.dst x').bx=σ.bx:=by cases o.dst<;>rfl
      rw[Gm]at EJ;exact HO ho (Region.noSelect_spec Mt) hP fuel AR _ a w Cg hi (.inl ⟨hw,q3⟩) EJ
     ·have EJ:=ih (h.put o.dst IP) hx
      have Gm:(σ.put o.dst (.C9 [])).bx=σ.bx:=by cases o.dst<;>rfl
      rw[Gm]at EJ;exact HO ho (Region.noSelect_spec Mt) hP fuel AR _ a w Cg hi (.inr ⟨hw,rfl⟩) EJ
   |none=>
    simp only[hf]at e1;have E6:=HU e1;refine⟨fun h0=>(by rw[h0]at hr;cases hr),fun i hi=> ?_⟩;rw[hr]at hi;have hx:=E6 i hi;cases ho:ops[i]? with
    |none=>
     simp only[ho]at hx;cases hx []
    |some o=>
     simp only[ho]at hx;have R_:(A_ C.Γ σ o.op).all (fun b=> !hint.contains b)=true:=by
      have:=hx [];split at this
      ·rename_i hh;exact hh
      ·cases this
     simp only[R_,VN]at hx;have TH:∀b∈A_ C.Γ σ o.op,b∉hint:=fun b hb hh=>by
      have:=(Uz.1 R_) b hb;simp[hh]at this
     unfold wpOp;simp only[ho];rcases JS (I:=List Bool) (kn:=fun ω σ' =>Cw C hint ops kn fuel (AR.setIfInBounds i true) ω σ') ho h.rel hx with⟨hw,hx⟩|⟨hw,hx⟩
     ·rw[Uy hw]
      obtain⟨x,σ',hx0,hx1⟩:=G4 hx;refine .inl (MI hT hΓ h.rel hx0 fun v w' E' x' σ'' g1 g2 g3 g4 g5=> ?_);simp only[k0,UG,Ug]at g5;obtain⟨rfl,rfl⟩:=g5;have Gm:(σ''.put o.dst x').bx=σ''.bx:=by cases o.dst<;>rfl
      have Pm:=D5 (hx1 []);rw[Gm]at Pm;obtain⟨k1,k2⟩:=M8 g3 TH Pm;have EJ:=ih ((h.next g1 g3 g4).put o.dst g2) hx1;rw[Gm]at EJ;exact⟨_,k1,k2,EJ⟩
     ·rw[U1 (by simp[hw])]
      have EJ:=ih (h.put o.dst IP) hx;have Gm:(σ.put o.dst (.C9 [])).bx=σ.bx:=by cases o.dst<;>rfl
      rw[Gm]at EJ;exact⟨_,fun _ h=>h,II.refl _ _,EJ⟩
end Go.Fw
end
section
namespace Go.Fw
theorem Rel.heap{E:Env}{σ:St}{a:Act}{w w':World}(h:Rel E σ a w)(hw:w'.heap=w.heap):Rel E σ a w':=by
 have keep:Cm E w σ.bx E w' σ.bx:=by
  refine⟨Ui _,fun _ _=>rfl,fun _ h=>h,fun _ h=>h,h.bx.st,fun _ _=>by rw[hw],fun b d r rows hb e=>⟨d,rows,e,fun p hp q ys hg=>⟨hp,⟨ys,hg,rfl⟩,fun hh he=> ?_⟩⟩⟩;obtain⟨Fs,⟨f1,f2⟩,_⟩:=h.bx;have hF:Fs[b]? =some (Fs[b]'(by have:=(UF.1 e).1;omega)):=UH _;exact KH (f2 b _ _ e hF).2 (fun _ _=>by rw[hw]) (fun _ _=>by rw[hw]) hp hg he
 exact⟨h.Bu,h.tm.imp fun _ _ hx=>B_ keep hx,h.bx.turn (fun _ _ hv=>Al keep hv) (fun _ h=>h) (fun _ _=>rfl) (fun _ _=>rfl) (fun _ _ _=>by rw[hw]) fun F hF=>⟨hF.nodup,hF.free,fun c hc=>by rw[hw];exact hF.lt c hc,hF.st,fun c hc=>by rw[hw];exact hF.FI c hc,hF.KS.mono (fun _ h=>h) (fun _ _=>by rw[hw])⟩⟩
theorem Ok.drawn{E0 E:Env}{w0 w:World}{N nb:Nat}{σ:St}{a:Act}(h:Ok E0 w0 N nb E σ a w)(n:Nat):Ok E0 w0 N nb E σ a { w with drawn:=n }:=
 ⟨h.rel.heap rfl,⟨h.base.T,h.base.S,h.base.N_,h.base.L7,h.base.heap,h.base.os,h.base.tape,h.base.output,h.base.size⟩,h.tm,h.I6,h.ids⟩
theorem G2{Y I:Type}[Nonempty I]{P:Program}{C:I8}(hT:Ag P C.T)(hΓ:F4 P C.Γ){E0:Env}{w0:World}{N nb:Nat}{all:Array Oper}{kn:I→St→Option Y}{y:Y}{Q:Exit→Act→World→Prop}
  (hk:∀E σ a w,Ok E0 w0 N nb E σ a w→(∀ω,kn ω σ=some y)→Q .normal a w):∀{l:List Oper} {E:Env} {σ:St} {a:Act} {w:World},Ok E0 w0 N nb E σ a w→(∀ω,Ju C all l (kn ω) σ=some y)→wpList P all Q l a w
 |[],E,σ,a,w,h,e=>hk E σ a w h e
 |o::rest,E,σ,a,w,h,e=>by
  unfold wpList;rcases Jr (kn:=fun ω σ=>Ju C all rest (kn ω) σ) h.rel e with⟨hw,hx⟩|⟨hw,hx⟩
  ·rw[Uy hw]
   obtain⟨x,σ',hx0,hx1⟩:=G4 hx;refine .inl (MI hT hΓ h.rel hx0 fun v w' E' x' σ'' g1 g2 g3 g4 g5=> ?_);simp only[k0,UG,Ug]at g5;obtain⟨rfl,rfl⟩:=g5;exact G2 hT hΓ hk ((h.next g1 g3 g4).put o.dst g2) hx1
  ·rw[U1 (by simp[hw])]
   exact G2 hT hΓ hk (h.put o.dst IP) hx
def Bz(P:Program)(body:Code)(Q:Exit→Act→World→Prop)(a:Act)(w:World):Prop:=
 ∀(b:Frame) (k:List Item) (cs:List Frame),∃e a' w',Q e a' w'∧Arrives P (lone (b.at a (.code body:: .inLoop body::k)) cs w) b k cs e a' w'
theorem Bz.wp{P:Program}{body:Code}{Q:Exit→Act→World→Prop}{a:Act}{w:World}(h:Bz P body Q a w):(Code.loop body).wp P Q a w:=fun b k cs=>by
 obtain⟨e,a',w',hq,F_⟩:=h b k cs;exact⟨e,a',w',hq,.of_steps (.one step_loop) F_⟩
theorem Bz.OC{P:Program}{body:Code}{Q:Exit→Act→World→Prop}{a:Act}{w:World}(h:body.wp P (Exit.then (Bz P body Q) Q) a w):Bz P body Q a w:=fun b k cs=>by
 obtain⟨e,a₁,w₁,hq,F_⟩:=h b (.inLoop body::k) cs;cases e with
 |normal=>
  obtain⟨e₂,a₂,w₂,hq₂,harr₂⟩:=hq b k cs;exact⟨e₂,a₂,w₂,hq₂,.of_steps (Steps.trans F_ (.one step_inLoop)) harr₂⟩
 |exit id=>exact⟨_,a₁,w₁,hq,.pass (x:= .inLoop body) rfl (fun _ _=> .inl (by simp)) F_⟩
 |goto l=>exact⟨_,a₁,w₁,hq,.pass (x:= .inLoop body) rfl (fun _ _=> .inl (by simp)) F_⟩
 |ret=>exact⟨_,a₁,w₁,hq,.pass (x:= .inLoop body) rfl (fun _ _=> .inl (by simp)) F_⟩
 |panic ch=>exact⟨_,a₁,w₁,hq,.pass (x:= .inLoop body) rfl (fun _ _=> .inl (by simp)) F_⟩
 |outgrown=>exact⟨_,a₁,w₁,hq,.pass (x:= .inLoop body) rfl (fun _ _=> .inl (by simp)) F_⟩
abbrev HC:=Exit→Act→World→Prop
def At(P:Program):Code→HC→Nat→Code→HC→Prop
 | .seq a b,Q,ℓ,body,Q' =>At P a (Exit.then (b.wp P Q) Q) ℓ body Q'∨At P b Q ℓ body Q'
 | .cond _ a b,Q,ℓ,body,Q' =>At P a Q ℓ body Q'∨At P b Q ℓ body Q'
 | .block id c,Q,ℓ,body,Q' =>At P c (Exit.inBlock id Q) ℓ body Q'
 | .loop c,Q,ℓ,body,Q' =>(first c= ℓ ∧body=c∧Q' =Q)∨At P c (Exit.then (Bz P c Q) Q) ℓ body Q'
 |_,_,_,_,_=>False
def FG(Q:HC):Prop:= ∀c a w,¬Q (.panic c) a w
theorem FG.then{Q:HC}(h:FG Q)(n:Act→World→Prop):FG (Exit.then n Q):=fun c a w hq=>h c a w hq
theorem FG.inBlock{Q:HC}(h:FG Q)(id:Nat):FG (Exit.inBlock id Q):=fun c a w hq=>h c a w hq
section
variable{Y:Type} {P:Program} {C:I8} (hT:Ag P C.T) (hΓ:F4 P C.Γ) (hm:P.follows .mixedOrders=true) {E0:Env} {w0:World} {N nb:Nat} {y:Y} {J:Nat→St→Option Y}
structure Good (E0:Env) (w0:World) (N nb:Nat) (y:Y) (kn:KN Y) (kx:Nat→KN Y) (kr:KN Y) (Q:HC):Prop where
 n:∀E σ a w,Ok E0 w0 N nb E σ a w→(∀ω,kn ω σ=some y)→Q .normal a w
 x:∀id E σ a w,Ok E0 w0 N nb E σ a w→(∀ω,kx id ω σ=some y)→Q (.exit id) a w
 r:∀E σ a w,Ok E0 w0 N nb E σ a w→(∀ω,kr ω σ=some y)→Q .ret a w
def Om(P:Program)(E0:Env)(w0:World)(N nb:Nat)(y:Y)(J:Nat→St→Option Y)(cd:Code)(Q:HC):Prop:=
 ∀ ℓ body Q',At P cd Q ℓ body Q'→ ∀E σ a w,Ok E0 w0 N nb E σ a w→J ℓ σ=some y→Bz P body Q' a w
include hT hΓ hm in
theorem LM:∀{cd:Code} {kn:KN Y} {kx:Nat→KN Y} {kr:KN Y} {Q:HC} {E:Env} {σ:St} {a:Act} {w:World},FG Q→Good E0 w0 N nb y kn kx kr Q→Om P E0 w0 N nb y J cd Q→Ok E0 w0 N nb E σ a w→
  (∀ω,run C J cd kn kx kr ω σ=some y)→cd.wp P Q a w:=by
 intro cd
 induction cd with
 |skip=>intro kn kx kr Q E σ a w hp hg hj h e;exact wp_skip (hg.n E σ a w h e)
 |region id ops draw=>
  intro kn kx kr Q E σ a w hp hg hj h e;simp only[run]at e;cases draw with
  |false=>
   simp only[Ut,VI]at e;exact wp_region_list (G2 hT hΓ hg.n h e)
  |true=>
   simp only[VN]at e;have hs:Region.noSelect ops=true:=by
    have:=e [];split at this
    ·rename_i hh;exact hh
    ·cases this
   simp only[hs,VN]at e;exact wp_region_any hm (JY _ _ _ _ _ (J8 hT hΓ hs hp hg.n _ (h.drawn _) e))
 |seq x z ihx ihz=>
  intro kn kx kr Q E σ a w hp hg hj h e;simp only[run]at e;refine wp_seq (ihx (hp.then _) ⟨fun E σ a w h e=>ihz hp hg (fun ℓ body Q' CW=>hj ℓ body Q' (.inr CW)) h e,fun id E σ a w h e=>hg.x id E σ a w h e,hg.r⟩ (fun ℓ body Q' CW=>hj ℓ body Q' (.inl CW)) h e)
 |cond c x z ihx ihz=>
  intro kn kx kr Q E σ a w hp hg hj h e;cases c with
  |tmp t=>
   simp only[run]at e;have e0:=e [];split at e0
   ·rename_i b hb
    simp only[hb]at e;obtain⟨v,hv,hx⟩:=h.rel.tmp hb;have Qi:=CY (E:=E) (w:=w) (vw:=σ.bx) hx;subst Qi;have Qr:a.eval (.tmp t)= .bool b:=by simp[Act.eval,U4,hv]
    have hk:=KW hb;cases b with
    |true=>
     simp only[cond_true,tt,hk]at e;exact wp_cond_true Qr (ihx hp hg (fun ℓ body Q' CW=>hj ℓ body Q' (.inl CW)) h e)
    |false=>
     simp only[cond_false,ff,hk]at e;exact wp_cond_false Qr (ihz hp hg (fun ℓ body Q' CW=>hj ℓ body Q' (.inr CW)) h e)
   ·cases e0
  |_=>cases e []
 |block id c ih=>
  intro kn kx kr Q E σ a w hp hg hj h e;simp only[run]at e;refine wp_block (ih (hp.inBlock id) ⟨hg.n,fun j E σ a w h e=> ?_,hg.r⟩ (fun ℓ body Q' CW=>hj ℓ body Q' CW) h e);simp only[Exit.inBlock];split
  ·rename_i hid
   simp only[hid,VN]at e;exact hg.n E σ a w h e
  ·rename_i hid
   simp only[hid,VI]at e;exact hg.x j E σ a w h e
 |loop body ih=>
  intro kn kx kr Q E σ a w hp hg hj h e;simp only[run]at e;exact Bz.wp (hj (first body) body Q (.inl ⟨rfl,rfl,rfl⟩) E σ a w h (e []))
 |exit id=>intro kn kx kr Q E σ a w hp hg hj h e;exact wp_exit (hg.x id E σ a w h e)
 |ret=>intro kn kx kr Q E σ a w hp hg hj h e;exact wp_ret (hg.r E σ a w h e)
 |_=>intro kn kx kr Q E σ a w hp hg hj h e;cases e []
end
end Go.Fw
end
section
namespace Go.Fw
def labels:Code→List Nat
 | .seq a b=>labels a++labels b
 | .cond _ a b=>labels a++labels b
 | .block _ c=>labels c
 | .loop c=>first c::labels c
 |_=>[]
theorem At.label{P:Program}:∀{cd:Code} {Q:HC} {ℓ :Nat} {body:Code} {Q':HC},At P cd Q ℓ body Q'→ ℓ ∈labels cd
 | .seq a b,Q,ℓ,body,Q',h=>by
  simp only[labels,UU];exact h.imp At.label At.label
 | .cond _ a b,Q,ℓ,body,Q',h=>by
  simp only[labels,UU];exact h.imp At.label At.label
 | .block _ c,Q,ℓ,body,Q',h=>At.label (cd:=c) h
 | .loop c,Q,ℓ,body,Q',h=>by
  simp only[labels,Uo];exact h.imp (fun h=>h.1.symm) At.label
section
variable{Y:Type} {P:Program} {C:I8} (hT:Ag P C.T) (hΓ:F4 P C.Γ) (hm:P.follows .mixedOrders=true) {E0:Env} {w0:World} {N nb:Nat} {y:Y} {J:Nat→St→Option Y}
theorem CT{ℓ :Nat}:∀{cd:Code} {kn:KN Y} {kx:Nat→KN Y} {kr:KN Y},ℓ ∉labels cd→find C J ℓ cd kn kx kr=none
 | .seq a b,kn,kx,kr,h=>by
  simp only[labels,UU,not_or]at h;simp only[find];rw[CT h.1];exact CT h.2
 | .cond _ a b,kn,kx,kr,h=>by
  simp only[labels,UU,not_or]at h;simp only[find];rw[CT h.1];exact CT h.2
 | .block _ c,kn,kx,kr,h=>by simp only[find];exact CT (cd:=c) h
 | .loop c,kn,kx,kr,h=>by
  simp only[labels,Uo,not_or]at h;simp only[find];rw[U1 (fun e=>h.1 e.symm)];exact CT h.2
 | .skip,_,_,_,_=>rfl
 | .region _ _ _,_,_,_,_=>rfl
 | .rangeFunc _ _ _ _,_,_,_,_=>rfl
 | .exit _,_,_,_,_=>rfl
 | .scope _,_,_,_,_=>rfl
 | .label _,_,_,_,_=>rfl
 | .goto _,_,_,_,_=>rfl
 | .ret,_,_,_,_=>rfl
 | .refuse _,_,_,_,_=>rfl
include hT hΓ hm in
theorem N4{ℓ :Nat}:∀{cd:Code} {kn:KN Y} {kx:Nat→KN Y} {kr:KN Y} {Q:HC} {body:Code} {Q':HC},(labels cd).Nodup→FG Q→Good E0 w0 N nb y kn kx kr Q→Om P E0 w0 N nb y J cd Q→At P cd Q ℓ body Q'→
  ∃kn' kx' kr',find C J ℓ cd kn kx kr=some (fun ω σ=>run C J body (fun _ σ=>J ℓ σ) kx' kr' ω σ)∧Good E0 w0 N nb y kn' kx' kr' Q'∧FG Q'∧Om P E0 w0 N nb y J body (Exit.then (Bz P body Q') Q'):=by
 intro cd
 induction cd with
 |seq a b iha ihb=>
  intro kn kx kr Q body Q' hn hp hg hj CW;simp only[labels,UN]at hn;obtain⟨n1,n2,n3⟩:=hn;have Sq:Om P E0 w0 N nb y J a (Exit.then (b.wp P Q) Q):=fun ℓ body Q' CW=>hj ℓ body Q' (.inl CW)
  have SJ:Om P E0 w0 N nb y J b Q:=fun ℓ body Q' CW=>hj ℓ body Q' (.inr CW)
  simp only[find];rcases CW with CW|CW
  ·obtain⟨kn',kx',kr',h1,h2⟩:=iha n1 (hp.then _) (kn:=fun ω σ=>run C J b kn kx kr ω σ) (kx:=kx) (kr:=kr)
    ⟨fun E σ a w h e=>LM hT hΓ hm hp hg SJ h e,fun id E σ a w h e=>hg.x id E σ a w h e,hg.r⟩ Sq CW
   exact⟨kn',kx',kr',by rw[h1],h2⟩
  ·have: ℓ ∉labels a:=fun h=>n3 ℓ h ℓ CW.label rfl
   rw[CT this];exact ihb n2 hp hg SJ CW
 |cond c a b iha ihb=>
  intro kn kx kr Q body Q' hn hp hg hj CW;simp only[labels,UN]at hn;obtain⟨n1,n2,n3⟩:=hn;simp only[find];rcases CW with CW|CW
  ·obtain⟨kn',kx',kr',h1,h2⟩:=iha n1 hp hg (fun ℓ body Q' CW=>hj ℓ body Q' (.inl CW)) CW
   exact⟨kn',kx',kr',by rw[h1],h2⟩
  ·have: ℓ ∉labels a:=fun h=>n3 ℓ h ℓ CW.label rfl
   rw[CT this];exact ihb n2 hp hg (fun ℓ body Q' CW=>hj ℓ body Q' (.inr CW)) CW
 |block id c ih=>
  intro kn kx kr Q body Q' hn hp hg hj CW;simp only[find];refine ih hn (hp.inBlock id) ⟨hg.n,fun j E σ a w h e=> ?_,hg.r⟩ (fun ℓ body Q' CW=>hj ℓ body Q' CW) CW;simp only[Exit.inBlock];split
  ·rename_i hid
   simp only[hid,VN]at e;exact hg.n E σ a w h e
  ·rename_i hid
   simp only[hid,VI]at e;exact hg.x j E σ a w h e
 |loop c ih=>
  intro kn kx kr Q body Q' hn hp hg hj CW;simp only[labels,U9]at hn;have Rx:Om P E0 w0 N nb y J c (Exit.then (Bz P c Q) Q):=fun ℓ body Q' CW=>hj ℓ body Q' (.inr CW)
  simp only[find];by_cases hl:first c= ℓ
  ·rw[Uy hl]
   rcases CW with⟨_,rfl,rfl⟩|CW
   ·exact⟨kn,kx,kr,rfl,hg,hp,Rx⟩
   ·exact absurd (hl▸CW.label) hn.1
  ·rw[U1 hl]
   rcases CW with⟨h,_⟩|CW
   ·exact absurd h hl
   ·exact ih hn.2 (hp.then _) ⟨fun E σ a w h e=>hj (first c) c Q (.inl ⟨rfl,rfl,rfl⟩) E σ a w h (e []),fun id E σ a w h e=>hg.x id E σ a w h e,hg.r⟩ Rx CW
 |_=>intro kn kx kr Q body Q' hn hp hg hj CW;exact CW.elim
end
theorem Gp{E:Env}{w:World}{vw:List Bx}:∀{l:List (Nat×XP)} {x:An.V l} {vals:List Value} {tm:List XV},Bq E w vw id l x vals→AF (XR E w vw) tm vals→AF (XR E w vw) (An.mk id l x tm) vals
 |[],_,_,_,_,h=>h
 |(i,p)::l,x,vals,tm,hs,h=>by
  obtain⟨⟨v,hv,hx⟩,hs⟩:=hs;simp only[An.mk];refine Gp hs ?_
  have:=AF.set (i:=i) h hx;have e:vals.set i v=vals:=by
   apply U8;intro j;rw[U0];split
   ·rename_i e;subst e
    rw[Uy (UF.1 hv).1,hv]
   ·rfl
  rwa [e]at this
theorem AF.undef{E:Env}{w:World}{vw:List Bx}:∀{vals:List Value} {n:Nat},n=vals.length→AF (XR E w vw) (List.replicate n (.c .undef)) vals
 |[],n,h=>by subst h;trivial
 |v::vals,n,h=>by
  subst h;simp only[Uf,VE];exact⟨trivial,AF.undef rfl⟩
theorem KI.shared{E E1:Env}{w:World}{bx:List Bx}{m:CC}{s:CM}{x:s.V}{vals:List Value}(h:KI E w bx m s x vals E1)(hb:AK E w bx bx []):
  ∃E2,E2.A5=E1.A5∧E2.A7=E1.A7∧Fc E w E2 w∧AK E2 w (BD.mk id s.Ar x.2) (BD.mk id s.Ar x.2) []∧Bq E2 w (BD.mk id s.Ar x.2) id s.AX x.1 vals:=by
 obtain⟨Fk,k1,k2,k3,k4⟩:=h.rest
 let E2:Env:={ E1 with S:=fun c=>E1.S c∨c∈Fk.flatten }
 have TM:=h.boxes.st;have keep:Cm E1 w (BD.mk id s.Ar x.2) E2 w (BD.mk id s.Ar x.2):=
  ⟨Ui _,fun _ _=>rfl,fun _ h=>h,fun _ h=> .inl h,TM,fun _ _=>rfl,fun b d r rows _ e=>⟨d,rows,e,fun p hp q ys hg=>⟨hp,⟨ys,hg,rfl⟩,fun _ h=>h⟩⟩⟩
 refine⟨E2,rfl,rfl,⟨h.T,fun c hc=> .inl (h.S c hc),fun c hc=> ?_,fun c hc=> ?_,fun _ _=>rfl,rfl,rfl,rfl,Ui _⟩,?_,?_⟩
 ·rcases k4 c hc with h|h|h
  ·exact .inl h
  ·exact .inr (.inl h)
  ·exact .inr (.inr h)
 ·rcases hc with hc|hc
  ·exact h.L7 c hc
  ·exact .inr (k3 c hc).1
 ·refine h.boxes.turn (E':=E2) (w':=w) (fun _ _ hv=>Al keep hv) (fun _ h=> .inl h) (fun _ _=>rfl) (fun _ _=>rfl) (fun _ _ _=>rfl) fun F hF=>⟨hF.nodup,hF.free,hF.lt,fun c hc=>hc.elim (hF.st c) fun h=>(k3 c h).2.2.2,hF.FI,hF.KS.mono (fun _ h=>h) (fun _ _=>rfl)⟩
 ·have:∀{l:List (Nat×XP)} {z:An.V l},Bq E1 w (BD.mk id s.Ar x.2) id l z vals→Bq E2 w (BD.mk id s.Ar x.2) id l z vals:=by
   intro l
   induction l with
   |nil=>intro z h;trivial
   |cons q l ih=>
    obtain⟨i,p⟩:=q;intro z h;obtain⟨⟨v,hv,hx⟩,hs⟩:=h;exact⟨⟨v,hv,B_ keep hx⟩,ih hs⟩
  exact this h.AX
theorem GB:∀{l:List BP} {i n:Nat},(Co i n l).length=l.length
 |[],_,_=>rfl
 |_::l,i,n=>by simp[Co,GB (l:=l)]
theorem Fu:∀{l:List BP} {i n k b:Nat},(Co i n l)[k]? =some (some b)→b=i+k∧b<n∧l[k]?≠some .gone
 |[],i,n,k,b,h=>by simp[Co]at h
 |p::l,i,n,0,b,h=>by
  simp only[Co,List.getElem?_cons_zero,UG]at h;cases p with
  |gone=>simp at h
  |mem q=>split at h<;>simp_all<;>omega
  |sl d r=>split at h<;>simp_all<;>omega
 |p::l,i,n,k+1,b,h=>by
  simp only[Co,List.getElem?_cons_succ]at h;obtain⟨h1,h2,h3⟩:=Fu h;exact⟨by omega,h2,by simpa using h3⟩
theorem Fq:∀{l:List BP} {i n k:Nat} {p:BP},l[k]? =some p→p≠ .gone→i+k<n→(Co i n l)[k]? =some (some (i+k))
 |q::l,i,n,0,p,h,hg,hn=>by
  simp at h;subst h;simp only[Co,List.getElem?_cons_zero,UG];cases q with
  |gone=>exact absurd rfl hg
  |mem q=>simp at hn⊢;exact hn
  |sl d r=>simp at hn⊢;exact hn
 |q::l,i,n,k+1,p,h,hg,hn=>by
  simp only[Co,List.getElem?_cons_succ];rw[Fq (l:=l) (i:=i+1) (k:=k) (by simpa using h) hg (by omega)];congr 2;omega
 |[],_,_,_,_,h,_,_=>by simp at h
theorem IF{l:List BP}{n:Nat}:Ih (Co 0 n l):=fun i j b h k=>by
 have:=(Fu h).1;have:=(Fu k).1;omega
end Go.Fw
end
section
namespace Go.Fw
structure QC (P:Program) (f:Nat) (fn:Func) (c:Dn):Prop where
 at_:P.funcs[f]? =some fn
 call:∀args w,(callFunc f args).run P w= .ok (.enter f args) w
 TZ:c.ok=true
 tmps:c.ins.AX.length≤fn.ntmps
 labels:∀code,fn.body=some code→(labels code).Nodup
section
variable{P:Program} {C:I8} (hT:Ag P C.T) {E:Env} {σ:St} {a:Act} {w:World}
include hT in
theorem Ng(h:Rel E σ a w):
  ∀{rs:List ResultVar} {xs:List XV},rs.mapM (NZ C.T σ)=some xs→ ∃vs,(∀f:ResultVar→Sem Value,(∀u,f (.tmp u)=pure (a.tmps.getD u undef))→(∀b t,f (.cell b t)=(do loadVar t (←asAddr (a.tmps.getD b undef))))→
   (rs.mapM f).run P w= .ok vs w)∧AF (XR E w σ.bx) xs vs:=by
 intro rs
 induction rs with
 |nil=>
  intro xs e;have hx:xs=[]:=by simpa using e.symm
  subst hx;exact⟨[],fun f _ _=>by simp,trivial⟩
 |cons r rs ih=>
  intro xs e;rw[Ve]at e;simp only[Option.bind_eq_bind,UJ,Option.pure_def,UG]at e;obtain⟨x,e1,ys,e2,rfl⟩:=e;obtain⟨vs,h1,h2⟩:=ih e2;have one:∃v,(∀f:ResultVar→Sem Value,(∀u,f (.tmp u)=pure (a.tmps.getD u undef))→(∀b t,f (.cell b t)=(do loadVar t (←asAddr (a.tmps.getD b undef))))→(f r).run P w= .ok v w)∧XR E w σ.bx x v:=by
   cases r with
   |tmp t=>
    simp only[NZ]at e1;obtain⟨v,hv,hx⟩:=h.tmp e1;refine⟨v,fun f hf hc=> ?_,hx⟩;rw[hf];simp[U4,hv]
   |cell b t=>
    simp only[NZ]at e1;split at e1
    case h_2=>cases e1
    rename_i z hz;obtain⟨v,hv,hx⟩:=h.tmp hz;obtain⟨Fs,hB,hS⟩:=h.bx;cases z with
    |agg l=>simp[HM]at e1
    |C9 l=>simp[HM]at e1
    |c ad=>
     obtain⟨bb,oo,u,cell,hp,_,q2,q3⟩:=Jf hT hB hS.st e1 hx;refine⟨u,fun f hf hc=> ?_,q2⟩;have Q8:a.tmps.getD b undef=v:=by simp[U4,hv]
     have:=q3 w rfl;rw[hc,Q8,hp];rw[hp]at this;simpa[Instr.loadAt,Instr.sureAddr,asAddr]using this
  obtain⟨v,g1,g2⟩:=one;refine⟨v::vs,fun f hf hc=> ?_,g2,h2⟩;rw[Ve];simp[g1 f hf hc,h1 f hf hc]
theorem F7{vw:List Bx}:∀{l:List XV} {q:List (AV ⊕ List AV)} {vs:List Value},K6 l=some q→AF (XR E w vw) l vs→AF (TR E w vw) q vs
 |[],q,[],e,_=>by
  simp only[K6,UG]at e;subst e;trivial
 |[],_,_::_,_,h=>h.elim
 | .c x::l,q,v::vs,e,h=>by
  simp only[K6,UI]at e;obtain⟨r,e1,rfl⟩:=e;exact⟨h.1,F7 e1 h.2⟩
 | .agg x::l,q,v::vs,e,h=>by
  simp only[K6,UI]at e;obtain⟨r,e1,rfl⟩:=e;exact⟨h.1,F7 e1 h.2⟩
 | .C9 _::_,_,_,e,_=>by simp[K6]at e
 | .c _::_,_,[],_,h=>h.elim
 | .agg _::_,_,[],_,h=>h.elim
include hT in
theorem JH(h:Rel E σ a w){fn:Func}{x:XV}(e:IV C.T σ fn.results.toList=some x):∃v,(results fn a.tmps).run P w= .ok v w∧XR E w σ.bx x v:=by
 unfold IV at e;have key:∀xs,fn.results.toList.mapM (NZ C.T σ)=some xs→ ∃vs:List Value,(results fn a.tmps).run P w= .ok (if h:vs.toArray.size=1 then vs.toArray[0]else .tuple vs.toArray) w∧AF (XR E w σ.bx) xs vs:=by
  intro xs hx;obtain⟨vs,h1,h2⟩:=Ng (P:=P) hT h hx;refine⟨vs,?_,h2⟩;unfold results;rw[Array.mapM_eq_mapM_toList];simp only[Sem.run_bind,Sem.run_map];rw[h1 _ (fun _=>rfl) (fun _ _=>rfl)];simp only[Result.andThen_ok,Sem.run_pure]
 split at e
 ·rename_i z hz
  cases e;obtain⟨vs,h1,h2⟩:=key _ hz
  match vs,h2 with
  |[v],h2=>exact⟨v,by simpa using h1,h2.1⟩
  |v::_::_,h2=>exact h2.2.elim
  |[],h2=>exact h2.elim
 ·rename_i l hl hz
  simp only[UI]at e;obtain⟨q,e1,rfl⟩:=e;obtain⟨vs,h1,h2⟩:=key _ hz;have Ht: ¬vs.toArray.size=1:=fun hs=>by
   have:=AF.len h2
   match l,this with
   |[z],_=>exact hl z rfl
   |[],t=>simp at t hs;omega
   |_::_::_,t=>simp at t hs;omega
  rw[dif_neg Ht]at h1;exact⟨_,h1,vs.toArray,rfl,by simpa using F7 e1 h2⟩
 ·cases e
end
theorem Fm{E:Env}{w:World}{vw:List Bx}{more:List Value}:∀{l:List (Nat×XP)} {x:An.V l} {vals:List Value},Bq E w vw id l x vals→Bq E w vw id l x (vals++more)
 |[],_,_,_=>trivial
 |(i,p)::l,x,vals,h=>by
  obtain⟨⟨v,hv,hx⟩,hs⟩:=h;exact⟨⟨v,by rw[UK (UF.1 hv).1];exact hv,hx⟩,Fm hs⟩
def L_(C:I8)(c:Dn)(fn:Func)(code:Code)(J:Nat→Nat→St→Option c.outs.V):Prop:=
 ∀ ℓ,ℓ ∈labels code→ ∃(s:CM) (F:Nat→s.V→Option c.outs.V),(∀n,J n ℓ =jump c.ins.Ar.length s (F n))∧(∀v,F 0 v=none)∧
  ∀n v y,F (n+1) v=some y→ ∀ω,Ku C c fn (J n) ℓ ω (s.st fn.ntmps v)=some y
section
variable{P:Program} {C:I8} (hT:Ag P C.T) (hΓ:F4 P C.Γ) (hm:P.follows .mixedOrders=true) {fn:Func} {c:Dn}
def Of(c:Dn)(E0:Env)(w0:World)(u:c.outs.V)(e:Ending)(w':World):Prop:=
 ∃x E',e= .returned x∧Fc E0 w0 E' w'∧AK E' w' (BD.mk id c.outs.Ar u.2) (BD.mk id c.outs.Ar u.2) []∧
  Bq E' w' (BD.mk id c.outs.Ar u.2) id c.outs.AX u.1 [x]∧ ∀i,i<c.ins.Ar.length→alive c.outs.Ar i=true→E'.A5 i=E0.A5 i∧E'.A7 i=E0.A7 i
theorem Ok.opens{E0 E:Env}{w0 w:World}{N nb:Nat}{σ:St}{a:Act}(h:Ok E0 w0 N nb E σ a w)(s:CM):∃E',Ok E0 w0 N nb E' { σ with bx:=s.opens σ.bx } a w∧
  (∀(i:Nat) d r,s.Ar[i]? =some (.sl d r)→E'.A7 (σ.bx.length+i)= .slice none 0 0)∧(∀x v,XR E w σ.bx x v→XR E' w (s.opens σ.bx) x v):=by
 obtain⟨E',h1,h2,h3,h4⟩:=JT h.rel s;exact⟨E',h.next h1 h2 rfl,h3,h4⟩
theorem Nd{E E':Env}{w:World}{vw:List Bx}{b:Nat}(h:Le E E')(st:∀c,E.S c→E.T c):Cm E w vw E' w (vw.set b .dead):=by
 refine⟨by simp,fun b _=>by rw[h.A5],h.T,h.S,st,fun _ _=>rfl,fun c d r rows _ e=> ?_⟩;by_cases hc:c=b
 ·subst hc
  rw[U0]at e;simp only[VN]at e;split at e<;>cases e
 ·rw[UL (fun e=>hc e.symm)]at e
  exact⟨d,rows,e,fun p hp q ys hg=>⟨hp,⟨ys,hg,rfl⟩,fun h' hh=>by rw[h.A7];exact hh⟩⟩
theorem OH{E:Env}{σ:St}{a:Act}{w:World}(h:Rel E σ a w)(b:Nat):∃E',Rel E' (σ.H3 b) a w∧Le E E':=by
 unfold St.H3;split
 case h_2=>exact⟨E,h,Le.refl E⟩
 rename_i d r rows hb;obtain⟨F,hF,hB⟩:=h.bx.take hb;have DQ:AK E w σ.bx (σ.bx.set b .dead) ([]++F++[]):=by simpa using hB
 obtain⟨hle,hB3⟩:=DQ.share;have hk:=Nd (vw:=σ.bx) (b:=b) (w:=w) hle h.bx.st;have OI:Cm E w σ.bx { E with S:=fun c=>E.S c∨c∈F,T:=fun c=>E.T c∨c∈F } w ((σ.bx.set b .dead).map (Bx.H3 b r rows)):=by
  refine⟨by simp,hk.A5,hk.T,hk.S,hk.st,hk.heap,fun c d' r' rows' hc e=> ?_⟩;rw[Ue,UI]at e;obtain⟨B,e,eB⟩:=e;cases B with
  |mem cs=>cases eB
  |dead=>cases eB
  |sl d0 r0 CV=>
   cases eB;exact hk.box c _ _ _ hc e
 have hv:∀x v,VR E w σ.bx x v→VR { E with S:=fun c=>E.S c∨c∈F,T:=fun c=>E.T c∨c∈F } w ((σ.bx.set b .dead).map (Bx.H3 b r rows)) (x.H3 b r rows) v:=fun x v hx=>by
  unfold AV.H3;split
  ·rename_i c
   split
   ·rename_i hc
    subst hc;obtain⟨h1,h2⟩:=hx;rw[hb]at h2;have hv:=h2.2.2;rw[AJ]at hv;simp only[UG]at hv;have:=Dy hF.2;rw[hv]at this;exact Ae (fun c hc=>hc) (fun _ _=>rfl) this
   ·exact Al OI hx
  ·exact Al OI hx
 refine⟨_,⟨h.Bu,?_,?_⟩,hle⟩
 ·refine AF.Ba _ (fun x v hx=> ?_) h.tm
  unfold XV.H3;split
  ·exact hv _ _ hx
  ·exact B_ OI hx
 ·obtain⟨Fs,⟨hl,h1⟩,h2⟩:=hB
  have OT:Sep E w (F++Fs.flatten):=h2.perm (by simpa using UY);refine⟨Fs,⟨by simpa using hl,fun k B G CZ hG=> ?_⟩,?_⟩
  ·rw[Ue,UI]at CZ
   obtain⟨B0,e,rfl⟩:=CZ;have h3:=h1 k B0 G e hG;cases B0 with
   |mem cs=>
    obtain⟨rfl,arr,ty,fr,a1,a2,a3⟩:=h3;exact⟨rfl,arr,ty,fr,a1,a2,AF.Ba _ (fun x v hx=>hv x v hx) a3⟩
   |sl d0 r0 CV=>exact⟨h3.1,AY hle.S (fun _ _=>rfl) (fun _ _=>rfl) h3.2⟩
   |dead=>exact h3
  ·rw[Ud]
   have st:=h.bx.st;refine⟨(UN.1 OT.nodup).2.1,fun c hc ht=> ?_,fun c hc=>OT.lt c (by simp only[UU];exact .inr hc),fun c hc=>hc.imp (st c) id,fun c hc=>hc.elim (OT.FI c) fun h' =>OT.lt c (by simp[h']),OT.KS.mono (fun _ h=> .inl h) (fun _ _=>rfl)⟩;rcases ht with ht|ht
   ·exact OT.free c (UU.2 (.inr hc)) ht
   ·exact(UN.1 OT.nodup).2.2 c ht c hc rfl
theorem M0{σ:St}{b i:Nat}(h:σ.bx[i]? =some .dead):(σ.H3 b).bx[i]? =some .dead:=by
 unfold St.H3;split
 ·simp only[Ue,U0]
  split
  ·split
   ·rfl
   ·rename_i h2
    subst_vars
    exact absurd (UF.1 h).1 h2
  ·rw[h];rfl
 ·exact h
theorem L6{σ:St}{b:Nat}:(σ.H3 b).bx.length=σ.bx.length∧(σ.H3 b).tm.length=σ.tm.length:=by
 unfold St.H3;split<;>simp
theorem Ok.H3{E0 E:Env}{w0 w:World}{N nb:Nat}{σ:St}{a:Act}(h:Ok E0 w0 N nb E σ a w)(b:Nat):∃E',Ok E0 w0 N nb E' (σ.H3 b) a w:=by
 obtain⟨E',h1,h2⟩:=OH h.rel b;refine⟨E',⟨h1,h.base.trans (h2.base w),by rw[L6.2];exact h.tm,by rw[L6.1];exact h.I6,fun i hi hd=> ?_⟩⟩;rw[h2.A5,h2.A7];exact h.ids i hi fun e=>hd (M0 e)
theorem Ok.CH{E0:Env}{w0 w:World}{N nb:Nat}{a:Act}:∀(l:List AP) (xs:List AV) {E:Env} {σ:St},Ok E0 w0 N nb E σ a w→ ∃E',Ok E0 w0 N nb E' (CH l xs σ) a w:=by
 intro l xs E σ h
 induction l generalizing xs E σ with
 |nil=>unfold Fw.CH;exact⟨E,h⟩
 |cons p l ih=>
  unfold Fw.CH;split
  ·rename_i heq
   cases heq;obtain⟨E',h'⟩:=h.H3 _;exact ih _ h'
  ·rename_i heq
   cases heq;exact ih _ h
  ·exact⟨E,h⟩
theorem Ok.Rm{E0:Env}{w0 w:World}{N nb:Nat}{a:Act}{bs:List BP}:∀(l:List (Nat×XP)) {E:Env} {σ:St},Ok E0 w0 N nb E σ a w→ ∃E',Ok E0 w0 N nb E' (CG bs l σ) a w:=by
 intro l
 induction l with
 |nil=>intro E σ h;exact⟨E,h⟩
 |cons q l ih=>
  intro E σ h;unfold CG;split
  ·cases ‹_::_=[]›
  ·rename_i e
   cases e;split
   ·obtain⟨E',h'⟩:=h.CH [_] [_]
    exact ih h'
   ·exact ih h
  ·rename_i e
   cases e;split
   ·split
    ·obtain⟨E',h'⟩:=h.CH _ _
     exact ih h'
    ·exact ih h
   ·exact ih h
  ·rename_i e
   cases e;exact ih h
theorem J1{E:Env}{w:World}{vw:List Bx}{x:AV}{v:Value}(h:VR E w vw x v)(hx:x.Jq=true):isSlice v=true:=by
 cases x with
 |ref b p=>exact h.1
 |win b p o n=>exact h.1
 |sl s r y=>
  simp only[VR,Rd]at h;obtain⟨a,cap,h,_⟩:=h;simp only[Ua,Us]at h;rw[h];rfl
 |nil=>cases h;rfl
 |_=>cases hx
theorem Li{E:Env}{σ:St}{a:Act}{w:World}(h:Rel E σ a w)(b j:Nat):Rel E (σ.forget b j) a w∧σ.bx.length≤(σ.forget b j).bx.length∧(∀i:Nat,σ.bx[i]? =some Bx.dead→(σ.forget b j).bx[i]? =some Bx.dead)∧(σ.forget b j).tm=σ.tm:=by
 unfold St.forget;split
 case h_2=>exact⟨h,Ui _,fun _ h=>h,rfl⟩
 rename_i cs hb;split
 case h_2=>exact⟨h,Ui _,fun _ h=>h,rfl⟩
 rename_i x hx;split
 case isFalse=>exact⟨h,Ui _,fun _ h=>h,rfl⟩
 rename_i hs;have Np:=(UF.1 hb).1;have hk:Cm E w σ.bx E w (σ.bx.set b (.mem (cs.set j (.ref σ.bx.length [])))++[.dead]):=by
  refine⟨by simp,fun _ _=>rfl,fun _ h=>h,fun _ h=>h,h.bx.st,fun _ _=>rfl,fun c d r rows hc e=> ?_⟩;rw[UK (by simpa using hc)]at e;by_cases Mn:b=c
  ·subst Mn
   rw[UQ hc]at e;cases e
  ·rw[UL Mn]at e
   exact⟨d,rows,e,fun p hp q ys hg=>⟨hp,⟨ys,hg,rfl⟩,fun h' hh=>hh⟩⟩
 refine⟨⟨h.Bu,h.tm.imp fun _ _ hx=>B_ hk hx,?_⟩,by simp,fun i hi=> ?_,rfl⟩
 ·obtain⟨Fs,⟨hl,h1⟩,h2⟩:=h.bx
  refine⟨Fs++[[]],⟨by simp[hl],fun k B G hB hG=> ?_⟩,by simpa using h2⟩;by_cases OI:k<σ.bx.length
  ·rw[UK (by simpa using OI)]at hB
   rw[UK (by omega)]at hG;by_cases hkb:b=k
   ·subst hkb
    rw[UQ OI]at hB;cases hB;obtain⟨rfl,arr,ty,fr,a1,a2,a3⟩:=h1 b _ G hb hG;refine⟨rfl,arr,ty,fr,a1,a2,?_⟩;have a4:GD E w (σ.bx.set b (.mem (cs.set j (.ref σ.bx.length [])))++[.dead]) cs arr.toList:=a3.imp fun _ _ hv=>Al hk hv
    obtain⟨v,hv,hvr⟩:=a3.get hx;have E4:arr.toList.set j v=arr.toList:=by
     apply U8;intro i;by_cases OW:j=i
     ·subst OW
      rw[UQ (UF.1 hv).1,hv]
     ·rw[UL OW]
    rw[←E4];refine AF.set a4 ⟨J1 hvr hs,?_⟩;have:(σ.bx.set b (.mem (cs.set j (.ref σ.bx.length [])))++[.dead])[σ.bx.length]? =some .dead:=by
     rw[UR (by simp)];simp
    rw[this]
    trivial
   ·rw[UL hkb]at hB
    have h3:=h1 k B G hB hG;cases B with
    |mem Eu=>
     obtain⟨rfl,arr,ty,fr,a1,a2,a3⟩:=h3;exact⟨rfl,arr,ty,fr,a1,a2,a3.imp fun _ _ hv=>Al hk hv⟩
    |sl d0 r0 CV=>exact h3
    |dead=>exact h3
  ·have hlen:=(UF.1 hB).1
   simp only[Ub,List.length_set,Uf,Um]at hlen;have TW:k=σ.bx.length:=by omega
   subst TW;rw[UR (by simp)]at hB;rw[UR (by omega)]at hG;simp[hl]at hB hG;subst hB hG;rfl
 ·have PI:=(UF.1 hi).1
  rw[UK (by simpa using PI)];have Sw:b≠i:=fun e=>by
   subst e;rw[hb]at hi;cases hi
  rw[UL Sw];exact hi
theorem Ok.forget{E0 E:Env}{w0 w:World}{N nb:Nat}{σ:St}{a:Act}(h:Ok E0 w0 N nb E σ a w)(b j:Nat):Ok E0 w0 N nb E (σ.forget b j) a w:=by
 obtain⟨h1,h2,h3,h4⟩:=Li h.rel b j;exact⟨h1,h.base,by rw[h4];exact h.tm,VA h.I6 h2,fun i hi hd=>h.ids i hi fun e=>hd (h3 i e)⟩
theorem Ok.Dl{E0 E:Env}{w0 w:World}{N nb:Nat}{a:Act}{bs:List BP}{b:Nat}:∀(l:List AP) (j:Nat) {σ:St},Ok E0 w0 N nb E σ a w→Ok E0 w0 N nb E (Dl bs b j l σ) a w
 |[],_,_,h=>h
 |p::l,j,σ,h=>by
  simp only[Fw.Dl];refine Ok.Dl l (j+1) ?_
  split
  ·split
   ·exact h.forget _ _
   ·exact h
  ·exact h
theorem Ok.P0{E0 E:Env}{w0 w:World}{N nb:Nat}{a:Act}{bs:List BP}:∀(l:List (Nat×XP)) {σ:St},Ok E0 w0 N nb E σ a w→Ok E0 w0 N nb E (E7 bs l σ) a w
 |[],_,h=>h
 |(i,p)::l,σ,h=>by
  simp only[E7];refine Ok.P0 l ?_
  split
  ·split
   ·exact h.Dl _ _
   ·exact h
  ·exact h
include hT in
theorem Jc{E0 E:Env}{w0 w:World}{N:Nat}{σ:St}{a:Act}{u:c.outs.V}(h:Ok E0 w0 N c.ins.Ar.length E σ a w)(e:JO C.T c fn.results.toList σ=some u):
  a.defers=[]∧ ∃v,(results fn a.tmps).run P w= .ok v w∧Of c E0 w0 u (.returned v) w:=by
 unfold JO at e;simp only[UJ,UI]at e;obtain⟨x,e1,⟨u',m⟩,e2,rfl⟩:=e;obtain⟨v,h1,h2⟩:=JH hT h.rel e1;obtain⟨E,h,LZ,h4⟩:=h.opens c.outs
 replace h2:=h4 _ _ h2
 obtain⟨hext,E1,hf⟩:=G_ (tm:=[x]) (vals:=[v]) h.rel.bx ⟨h2,trivial⟩ LZ GB IF e2;obtain⟨E2,q1,q2,q3,q4,q5⟩:=hf.shared h.rel.bx;refine⟨h.rel.Bu,v,h1,v,E2,rfl,h.base.trans q3,q4,q5,fun i hi NH=> ?_⟩;obtain⟨p,hp,hg⟩:∃p,c.outs.Ar[i]? =some p∧p≠ .gone:=by
  unfold alive at NH;cases hh:c.outs.Ar[i]? with
  |none=>rw[hh]at NH;cases NH
  |some p=>
   refine⟨p,rfl,fun hp=> ?_⟩;rw[hh,hp]at NH;cases NH
 have PX:=hext.2 i i (by have:=Fq (i:=0) (n:=c.ins.Ar.length) hp hg (by omega);simpa using this);obtain⟨b,B,g1,g2,g3,_⟩:=KE e2 i p hp hg;rw[PX]at g1;cases g1;have hid:=hf.ids i i PX;have NA:=h.ids i hi (fun hd=>by rw[g2]at hd;cases hd;exact g3 rfl);rw[q1,q2];exact⟨hid.1.trans NA.1,hid.2.trans NA.2⟩
include hT hΓ hm in
theorem NI{code:Code}(hb:fn.body=some code)(hl:(labels code).Nodup){J:Nat→Nat→St→Option c.outs.V}(hJ:L_ C c fn code J)
  {E0:Env} {w0:World} {u:c.outs.V} {Q:HC} (hp:FG Q)
  (hg:Good E0 w0 fn.ntmps c.ins.Ar.length u (fun _=>JO C.T c fn.results.toList) (fun _ _ _=>none) (fun _=>JO C.T c fn.results.toList) Q):
  ∀n,Om P E0 w0 fn.ntmps c.ins.Ar.length u (J n) code Q:=by
 intro n
 induction n with
 |zero=>
  intro ℓ body Q' CW E σ a w h e;obtain⟨s,F,j1,j2,j3⟩:=hJ ℓ CW.label;rw[j1]at e;simp only[jump]at e;split at e
  ·rw[UJ]at e
   obtain⟨q,_,e⟩:=e;rw[j2]at e;cases e
  ·cases e
 |succ n ih=>
  intro ℓ body Q' CW E σ a w h e;obtain⟨s,F,j1,j2,j3⟩:=hJ ℓ CW.label;rw[j1]at e;simp only[jump]at e;split at e
  case isFalse=>cases e
  rename_i I6;rw[UJ]at e;obtain⟨⟨v,m⟩,e1,e2⟩:=e;dsimp only at e2;obtain⟨E,h⟩:=h.Rm (bs:=s.Ar) s.AX
  replace h:=h.P0 (bs:=s.Ar) s.AX
  revert h e1
  generalize E7 s.Ar s.AX (CG s.Ar s.AX σ)=σ
  intro e1 h;obtain⟨E,h,LZ,h4⟩:=h.opens s;obtain⟨hext,E1,hf⟩:=G_ h.rel.bx h.rel.tm LZ GB IF e1;obtain⟨E2,q1,q2,q3,q4,q5⟩:=hf.shared h.rel.bx;have CB:fn.ntmps=a.tmps.toList.length:=by rw[←AF.len h.rel.tm,h.tm]
  have DA:Ok E0 w0 fn.ntmps c.ins.Ar.length E2 (s.st fn.ntmps v) a w:=by
   refine⟨⟨h.rel.Bu,Gp q5 (AF.undef CB),q4⟩,h.base.trans q3,?_,?_,fun i hi hd=> ?_⟩
   ·have:=AF.len (Gp q5 (AF.undef CB))
    simp only[CM.st];rw[this,←CB]
   ·simp only[CM.st]
    rw[Cp];exact I6
   ·simp only[CM.st]at hd
    have OL:s.Ar[i]? =some (s.Ar[i]'(by omega)):=UH _;have SR:s.Ar[i]'(by omega)≠ .gone:=fun LU=>by
     obtain⟨z,z1,_⟩:=EZ id (u:=v.2) OL;apply hd;rw[z1]
     generalize s.Ar[i]'(by omega)=pp at z LU
     subst LU;rfl
    have PX:=hext.2 i i (by have:=Fq (i:=0) (n:=c.ins.Ar.length) OL SR (by omega);simpa using this);obtain⟨b,B,g1,g2,g3,_⟩:=KE e1 i _ OL SR;rw[PX]at g1;cases g1;have hid:=hf.ids i i PX;have NA:=h.ids i hi (fun hd=>by rw[g2]at hd;cases hd;exact g3 rfl);rw[q1,q2];exact⟨hid.1.trans NA.1,hid.2.trans NA.2⟩
  have OV:=j3 n v u e2;obtain⟨kn',kx',kr',hfind,Kt,hnp,hj⟩:=N4 hT hΓ hm hl hp hg ih CW;simp only[Ku,hb,hfind]at OV;refine Bz.OC (LM hT hΓ hm (hnp.then _) (kn:=fun _ σ=>J n ℓ σ) ⟨fun E σ a w h e=> ?_,fun id E σ a w h e=>Kt.x id E σ a w h e,Kt.r⟩ hj DA OV);exact ih ℓ body Q' CW E σ a w h (e [])
include hT hΓ hm in
theorem Mz{f:Nat}(hf:QC P f fn c){J:Nat→Nat→St→Option c.outs.V}(hJ:∀code,fn.body=some code→L_ C c fn code J)
  (hg:∀v u,c.g v=some u→ ∃n,∀ω,Gy C c fn (J n) ω v=some u):C8 P f c:=by
 refine⟨hf.TZ,hf.call,fun E w v args u BC hB hS S9=> ?_⟩;obtain⟨n,hn⟩:=hg v u S9;cases hb:fn.body with
 |none=>
  have:=hn [];simp only[Gy,hb]at this;cases this
 |some code=>
  simp only[Gy,hb]at hn;refine calls_of_wp hf.at_ hb ?_
  have hp:FG (bodyPost P fn (Of c E w u)):=fun ch a w' hq=>by
   obtain⟨_,x,E',hx,_⟩:=hq;cases hx
  have Kt:Good E w fn.ntmps c.ins.Ar.length u (fun _=>JO C.T c fn.results.toList) (fun _ _ _=>none) (fun _=>JO C.T c fn.results.toList) (bodyPost P fn (Of c E w u)):=
   ⟨fun E' σ a w' h e=>Jc hT h (e []),fun id E' σ a w' h e=>(by cases e []),fun E' σ a w' h e=>Jc hT h (e [])⟩
  have DA:Ok E w fn.ntmps c.ins.Ar.length E (c.ins.st fn.ntmps v) { tmps:=args++Array.replicate (fn.ntmps-args.size) undef,defers:=[] } w:=by
   have O8:AF (XR E w (BD.mk id c.ins.Ar v.2)) (An.mk id c.ins.AX v.1 (List.replicate fn.ntmps (.c .undef))) (args++Array.replicate (fn.ntmps-args.size) undef).toList:=by
    rw[Array.toList_append];refine Gp (Fm hS) (AF.undef ?_);have:=hf.tmps;simp;omega
   refine⟨⟨rfl,O8,hB⟩,Fc.refl E w,?_,by simp only[CM.st];rw[Cp];exact Ui _,fun _ _ _=>⟨rfl,rfl⟩⟩;simp only[CM.st];rw[AF.len O8];have:=hf.tmps;simp;omega
  exact LM hT hΓ hm hp Kt (NI hT hΓ hm hb (hf.labels code hb) (hJ code hb) hp Kt n) DA hn
end
end Go.Fw
end
section
namespace Go.Fw
def AU:List Ty→Ty
 |[]=> .unit
 |c::l=> .cons c (AU l)
def KV(row:TypeId→Option (List Ty×Bool))(cells:TypeId→Nat):Nat→List Field→Option (List Ty)
 |_,[]=>some []
 |o,f::fs=>
  match row f.type with
  |some (l,_)=>if f.offset=o∧cells f.type=l.length then(KV row cells (o+l.length) fs).map (l++ ·)else none
  |none=>none
def HB:List Ty×Bool→Ty
 |(l,true)=>AU l
 |([c],false)=>c
 |_=> .unit
def rowOf(P:Program):Nat→TypeId→Option (List Ty×Bool)
 |0,_=>none
 |n+1,t=>
  match P.underlying t with
  |some (.int k)=>some ([.int k],false)
  |some .bool=>some ([.bool],false)
  |some .string=>some ([.str],false)
  |some (.slice e)=>
   match rowOf P n e with
   |some q=>if P.cellsOf e=q.1.length∧0<q.1.length then some ([.sl (HB q)],false)else none
   |none=>none
  |some (.struct fs)=>
   match KV (rowOf P n) P.cellsOf 0 fs.toList with
   |some l=>if P.cellsOf t=l.length then some (l,true)else none
   |none=>none
  |_=>none
def Vd:(t:Ty)→t.D→Prop
 | .int k,x=>(Lit.int k x).wf=true
 | .bool,_=>True
 | .str,x=>List.length x≤maxLen
 | .sl r,x=>List.length x≤maxLen∧ ∀y∈x,Vd r y
 | .unit,_=>True
 | .cons c r,x=>Vd c x.1∧Vd r x.2
theorem GG{α:Type}{p:Nat→α→Prop}:∀{n:Nat},(∀i,i<n→ ∃y,p i y)→ ∃x:List α,x.length=n∧ ∀(i:Nat) y,x[i]? =some y→p i y
 |0,_=>⟨[],rfl,fun i y h=>by simp at h⟩
 |n+1,h=>by
  obtain⟨x,h1,h2⟩:=GG (n:=n) (p:=p) (fun i hi=>h i (by omega));obtain⟨y,hy⟩:=h n (by omega);refine⟨x++[y],by simp[h1],fun i z hz=> ?_⟩;by_cases hi:i<x.length
  ·rw[UK hi]at hz
   exact h2 i z hz
  ·rw[UR (by omega)]at hz
   have PI:=(UF.1 hz).1;simp at PI;have:i=n:=by omega
   subst this;simp[h1]at hz;subst hz;exact hy
theorem JU{w:World}{B:Nat→Prop}:∀{l m:List Ty} {cs ds:List Value} {x:(AU l).D} {y:(AU m).D},Rd w B (AU l) cs x→Rd w B (AU m) ds y→Vd (AU l) x→Vd (AU m) y→
  ∃z:(AU (l++m)).D,Rd w B (AU (l++m)) (cs++ds) z∧Vd (AU (l++m)) z
 |[],m,cs,ds,x,y,h,k,hx,hy=>by
  simp only[AU,Rd]at h;subst h;exact⟨y,k,hy⟩
 |c::l,m,cs,ds,x,y,h,k,hx,hy=>by
  simp only[AU,Rd]at h;obtain⟨v,r,rfl,h1,h2⟩:=h;obtain⟨z,z1,z2⟩:=JU h2 k hx.2 hy;exact⟨(x.1,z),by simp only[U6,AU,Rd];exact⟨v,r++ds,rfl,h1,z1⟩,hx.1,z2⟩
theorem MJ{P:Program}{n:Nat}{t:TypeId}{l:List Ty}(h:rowOf P n t=some (l,false)):∃c,l=[c]:=by
 cases n with
 |zero=>simp[rowOf]at h
 |succ n=>
  simp only[rowOf]at h;split at h
  ·cases h;exact⟨_,rfl⟩
  ·cases h;exact⟨_,rfl⟩
  ·cases h;exact⟨_,rfl⟩
  ·split at h
   ·split at h
    ·cases h;exact⟨_,rfl⟩
    ·cases h
   ·cases h
  ·split at h
   ·split at h
    ·cases h
    ·cases h
   ·cases h
  ·cases h
theorem J9{w:World}{B:Nat→Prop}{P:Program}{n:Nat}{t:TypeId}{q:List Ty×Bool}(h:rowOf P n t=some q){cs:List Value}{x:(AU q.1).D}(hx:Rd w B (AU q.1) cs x)(hv:Vd (AU q.1) x):
  (HB q).n=q.1.length∧ ∃y:(HB q).D,Rd w B (HB q) cs y∧Vd (HB q) y:=by
 obtain⟨l,b⟩:=q;cases b with
 |true=>
  refine⟨?_,x,hx,hv⟩;clear h hx hv x;simp only[HB]
  induction l with
  |nil=>rfl
  |cons c l ih=>simp[AU,Ty.n,ih]
 |false=>
  obtain⟨c,rfl⟩:=MJ h;simp only[AU,Rd]at hx;obtain⟨v,r,rfl,h1,h2⟩:=hx;subst h2;refine⟨?_,x.1,h1,hv.1⟩;have:=HE h1;simp only[HB];simpa using this.symm
theorem MW(a:Addr):a.add 0=a:=by simp[Addr.add]
theorem MQ{w:World}{a:Addr}{v:Value}(h:w.cell? a=some v):a.spot=none:=by
 unfold World.cell? at h;split at h
 ·split at h
  ·cases h
  ·rename_i hs;simpa using hs
 ·cases h
section
variable{H:Type} {enc:TypeId×Value→H} {P:Program} {w:World} {spare:Nat→Bool} {held:Bool}
theorem GM:∀(n:Nat) {t:TypeId} {q:List Ty×Bool},rowOf P n t=some q→ ∀{fuel:Nat} {cs:List Value} {x:DataW H×List MemPlace},DataW.trod enc P w 0 spare held fuel t cs=some x→
  ∃y:(AU q.1).D,Rd w (fun b=>b<w.heap.size) (AU q.1) cs y∧Vd (AU q.1) y
 |0,t,q,h,_,_,_,_=>by simp[rowOf]at h
 |n+1,t,q,h,fuel,cs,x,hx=>by
  simp only[rowOf]at h;split at h
  ·rename_i k hu
   cases h;obtain⟨m,rfl,_,hw⟩:=DataW.trod_int hu hx;exact⟨(m,()),by simp[AU,Rd],hw,trivial⟩
  ·rename_i hu
   cases h;obtain⟨b,rfl,_⟩:=DataW.trod_bool hu hx;exact⟨(b,()),by simp[AU,Rd],trivial,trivial⟩
  ·rename_i hu
   cases h;obtain⟨s,rfl,_,hs⟩:=DataW.trod_string hu hx;refine⟨(s.data.toList,()),by simp[AU,Rd],?_,trivial⟩
   show s.data.toList.length≤maxLen
   rw[VF];exact hs
  ·rename_i e hu
   split at h
   case h_2=>cases h
   rename_i q' PV;split at h
   case isFalse=>cases h
   rename_i KA;cases h;rcases DataW.trod_slice hu hx with⟨rfl,_⟩|⟨a,len,cap,elems,rest,m,_,rfl,_,_,hlc,hcm,Gj,CW,_,_⟩
   ·refine⟨([],()),?_,⟨by simp,by simp⟩,trivial⟩
    simp only[AU,Rd];exact⟨_,[],rfl,⟨_,_,rfl,by simp,.inl rfl⟩,rfl⟩
   ·have each:∀i,i<len→ ∃y:(HB q').D,Vd (HB q') y∧ ∃ds,ds.length=(HB q').n∧(∀j,j<ds.length→w.cell? ((a.add (i*P.cellsOf e)).add j)=ds[j]?)∧Rd w (fun b=>b<w.heap.size) (HB q') ds y:=by
     intro i hi;have hz:elems[i]? =some (elems[i]'(by omega)):=UH _;have h1:=CW i hi;rw[hz,UJ]at h1;obtain⟨ds,hds,htr⟩:=h1;obtain⟨z,z1,z2⟩:=GM n PV htr;obtain⟨_,c1,c2⟩:=World.cells?_some hds
     obtain⟨a1,y,a2,a3⟩:=J9 PV z1 z2;exact⟨y,a3,ds,by rw[c1,a1,KA.1],fun j hj=>c2 j (by omega),a2⟩
    obtain⟨xs,x1,x2⟩:=GG each;refine⟨(xs,()),?_,⟨by show xs.length≤maxLen;omega,fun y hy=> ?_⟩,trivial⟩
    ·simp only[AU,Rd]
     refine⟨_,[],rfl,⟨_,cap,by rw[x1],by omega,?_⟩,rfl⟩;by_cases h0:len=0
     ·exact .inl (by omega)
     right
     obtain⟨y0,_,ds0,d0,d1,_⟩:=each 0 (by omega);have T2:0<(HB q').n:=by
      rw[d0.symm];have hz:elems[0]? =some (elems[0]'(by omega)):=UH _;have h1:=CW 0 (by omega);rw[hz,UJ]at h1;obtain⟨ds,hds,htr⟩:=h1;obtain⟨z,z1,z2⟩:=GM n PV htr;have:=(J9 PV z1 z2).1;omega
     have Ny:=d1 0 (by omega);simp only[Nat.zero_mul,MW]at Ny;have Mp:w.cell? a=some (ds0[0]'(by omega)):=by rw[Ny];exact UH _
     have SN:=MQ Mp;obtain⟨b,o,s⟩:=a;simp only at SN;subst SN;refine⟨b,o,rfl,?_,fun i y hy=> ?_⟩
     ·unfold World.cell? at Mp
      split at Mp
      ·rename_i hb;exact(Array.getElem?_eq_some_iff.1 hb).1
      ·cases Mp
     ·have PI:=(UF.1 hy).1
      obtain⟨_,ds,e0,e1,e2⟩:=x2 i y hy;have Te:P.cellsOf e=(HB q').n:=by
       have hz:elems[i]? =some (elems[i]'(by omega)):=UH _;have h1:=CW i (by omega);rw[hz,UJ]at h1;obtain⟨ds,hds,htr⟩:=h1;obtain⟨z,z1,z2⟩:=GM n PV htr;rw[(J9 PV z1 z2).1,KA.1]
      refine⟨ds,e0,fun j v hj=> ?_,e2⟩;have Mo:=(UF.1 hj).1;have:=e1 j Mo;rw[Addr.add_eq,Addr.add_eq,Te]at this;rw[this,hj]
    ·obtain⟨i,hi,rfl⟩:=Ur hy
     exact(x2 i _ (UH hi)).1
  ·rename_i fs hu
   split at h
   case h_2=>cases h
   rename_i l hl;split at h
   case isFalse=>cases h
   rename_i MG;cases h;obtain⟨xs,m,_,_,hlen,Pb,CW⟩:=DataW.trod_struct hu hx;have key:∀(fs:List Field) (o:Nat) (l:List Ty) (i0:Nat),KV (rowOf P n) P.cellsOf o fs=some l→cs.length=o+l.length→(∀(i:Nat) (f:Field),fs[i]? =some f→ ∃z,DataW.trod enc P w 0 spare held m f.type ((cs.drop f.offset).take (P.cellsOf f.type))=some z)→
     ∃y:(AU l).D,Rd w (fun b=>b<w.heap.size) (AU l) (cs.drop o) y∧Vd (AU l) y:=by
    intro fs
    induction fs with
    |nil=>
     intro o l i0 hl hc _;simp only[KV,UG]at hl;subst hl;refine⟨(),?_,trivial⟩;simp only[AU,Rd];simp at hc;simp[hc]
    |cons f fs ih=>
     intro o l i0 hl hc CW;simp only[KV]at hl;split at hl
     case h_2=>cases hl
     rename_i l1 b1 hr;split at hl
     case isFalse=>cases hl
     rename_i Sa;simp only[UI]at hl;obtain⟨l2,hl2,rfl⟩:=hl;obtain⟨z,hz⟩:=CW 0 f rfl;obtain⟨y1,a1,a2⟩:=GM n hr hz;obtain⟨y2,b1,b2⟩:=ih (o+l1.length) l2 0 hl2 (by simp at hc;omega) (fun i f hf=>CW (i+1) f (by simpa using hf));obtain⟨y,c1,c2⟩:=JU a1 b1 a2 b2;refine⟨y,?_,c2⟩;rw[Sa.1,Sa.2,←List.drop_drop,VQ]at c1;exact c1
   have:=key fs.toList 0 l 0 hl (by rw[hlen,MG];simp) (fun i f hf=>by
    have SF:fs[i]? =some f:=by simpa using hf
    have PI:i<xs.length:=by rw[Pb];exact(Array.getElem?_eq_some_iff.1 SF).1
    exact⟨xs[i],by rw[CW i f SF];exact UH PI⟩)
   simpa using this
  ·cases h
end
end Go.Fw
end
section
open Go.RowKit
namespace Go.Fw
def IQ(W:World):Env:={ A5:=fun _=>0,A7:=fun _=> .nilFunc,T:=fun b=>b<W.heap.size,S:=fun b=>b<W.heap.size }
abbrev H9:CM:=⟨[(0,.c (.v .bool))],[]⟩
theorem MV{P:Program}{f:Nat}{AX:List (Nat×XP)}{g:CM.V ⟨AX,[]⟩→Option H9.V}(hs:C8 P f ⟨⟨AX,[]⟩,H9,g⟩){W:World}{args:Array Value}(x:An.V AX)(hlen:args.size=AX.length)(PQ:∀w':World,(∀c,c<W.heap.size→w'.heap[c]? =W.heap[c]?)→GI w')
  (hx:Bq (IQ W) W [] id AX x args.toList) (hg:g (x,())=some ((true,()),())):Calls P f args W fun e W' =>e= .returned (.bool true)∧Below W.heap.size W W':=by
 obtain⟨_,_,h⟩:=hs;refine(h (IQ W) W (x,()) args _ hlen ⟨[],⟨rfl,fun k B F h=>by simp[BD.mk]at h⟩,by simp,by simp,by simp,fun _ h=>h,fun _ h=>h,PQ⟩ hx hg).mono fun e W' hR=> ?_
 obtain⟨v,E',rfl,base,_,⟨⟨v',hv,hxr⟩,_⟩,_⟩:=hR;simp at hv;subst hv;have:v= .bool true:=by
  have h2:VR E' W' [] (.v .bool true) v:=hxr;exact CY h2
 subst this;exact⟨rfl,base.os,base.tape,base.output,base.size,fun k hk=>base.heap k hk⟩
theorem NV{W:World}{vw:List Bx}{l:List Ty}(hl:l.all Ty.cell=true){cs:Array Value}{y:(AU l).D}(h:Rd W (fun b=>b<W.heap.size) (AU l) cs.toList y):XR (IQ W) W vw (XP.mk id (.row (AU l)) y) (.agg cs):=by
 refine⟨cs,rfl,?_⟩;have key:∀(l:List Ty) (cs:List Value) (y:(AU l).D),l.all Ty.cell=true→Rd W (fun b=>b<W.heap.size) (AU l) cs y→GD (IQ W) W vw (GP (AU l) y) cs:=by
  intro l
  induction l with
  |nil=>
   intro cs y _ h;simp only[AU,Rd]at h;subst h
   trivial
  |cons c l ih=>
   intro cs y hc h;simp only[VV,UT]at hc;simp only[AU,Rd]at h;obtain⟨v,r,rfl,h1,h2⟩:=h;refine⟨?_,ih r y.2 hc.2 h2⟩;cases c with
   |sl q=>exact h1
   |int k=>exact⟨rfl,by simpa[Rd]using h1⟩
   |bool=>exact⟨rfl,by simpa[Rd]using h1⟩
   |str=>exact⟨rfl,by simpa[Rd]using h1⟩
   |unit=>simp[Ty.cell]at hc
   |cons c r=>simp[Ty.cell]at hc
 exact key l cs.toList y hl h
end Go.Fw
end
section
namespace Go.Fw
def Nl:List (Nat×Dn)→Nat→Option Dn
 |[],_=>none
 |(f,c)::l,g=>if f=g then some c else Nl l g
def Nu(P:Program):List (Nat×Dn)→Prop
 |[]=>True
 |q::l=>C8 P q.1 q.2∧Nu P l
theorem Iy{P:Program}:∀{l:List (Nat×Dn)},Nu P l→F4 P (Nl l)
 |[],_=>fun f c e=>by cases e
 |(g,d)::l,h=>fun f c e=>by
  simp only[Nl]at e;split at e
  ·rename_i hg
   cases e;subst hg;exact h.1
  ·exact Iy h.2 f c e
theorem Iz{P:Program}{f:Nat}{fn:Func}(hf:P.funcs[f]? =some fn)(hn:(fn.name== "runtime.NumGoroutine")=false)(hb:fn.body.isNone=false)(args:Array Value)(w:World):
  (callFunc f args).run P w= .ok (.enter f args) w:=by
 have h1:fn.name≠ "runtime.NumGoroutine" :=by simpa using hn
 have h2:fn.body≠none:=by
  intro h;rw[h]at hb;cases hb
 simp[callFunc,hf,h1,h2]
def Gl(fn:Func)(c:Dn):Bool:=
 !(
  fn.name== "runtime.NumGoroutine")&& !fn.body.isNone&&c.ok&&decide (c.ins.AX.length≤fn.ntmps)&&(match fn.body with
  |some code=>decide (labels code).Nodup
  |none=>true)
theorem Q9{P:Program}{f:Nat}{fn:Func}{c:Dn}(hf:P.funcs[f]? =some fn)(h:Gl fn c=true):QC P f fn c:=by
 simp only[Gl,UT,Bool.not_eq_true',Uj]at h;obtain⟨⟨⟨⟨h1,h2⟩,h3⟩,h4⟩,h5⟩:=h;refine⟨hf,Iz hf h1 h2,h3,h4,fun code hc=> ?_⟩;rw[hc]at h5;simpa using h5
def Fv(C:I8)(c:Dn)(fn:Func)(J:Nat→Nat→St→Option c.outs.V):List Nat→Prop
 |[]=>True
 | ℓ ::l=>(∃(s:CM) (F:Nat→s.V→Option c.outs.V),(∀n,J n ℓ =jump c.ins.Ar.length s (F n))∧(∀v,F 0 v=none)∧
  ∀n v,∀ω,Ku C c fn (J n) ℓ ω (s.st fn.ntmps v)=F (n+1) v)∧Fv C c fn J l
theorem Fv.ok{C:I8}{c:Dn}{fn:Func}{J:Nat→Nat→St→Option c.outs.V}:∀{l:T7},Fv C c fn J l→ ∀ ℓ ∈l,∃(s:CM) (F:Nat→s.V→Option c.outs.V),(∀n,J n ℓ =jump c.ins.Ar.length s (F n))∧(∀v,F 0 v=none)∧
  ∀n v y,F (n+1) v=some y→ ∀ω,Ku C c fn (J n) ℓ ω (s.st fn.ntmps v)=some y
 |[],_,ℓ,h=>by cases h
 |k::l,hl,ℓ,h=>by
  rcases Uo.1 h with rfl|h
  ·obtain⟨⟨s,F,h1,h2,h3⟩,_⟩:=hl
   exact⟨s,F,h1,h2,fun n v y e ω=>(h3 n v ω).trans e⟩
  ·exact Fv.ok hl.2 ℓ h
def Gg(fn:Func):T7:=
 match fn.body with
 |some code=>labels code
 |none=>[]
def IU:List UD→Nat→List Nat
 |[],_=>[]
 |(r,h)::l,q=>if r=q then h else IU l q
theorem Mw{P:Program}{T:BQ}{l:List (Nat×Dn)}{hint:Nat→List Nat}{f:Nat}{fn:Func}{c:Dn}(hT:Ag P T)(hm:P.follows .mixedOrders=true)(hf:P.funcs[f]? =some fn)(hl:Nu P l)(hc:Gl fn c=true)
  {J:Nat→Nat→St→Option c.outs.V} {L:T7} (hL:Gg fn=L) (hJ:Fv ⟨T,Nl l,hint⟩ c fn J L) (n:Nat) (he:∀ω v,Gy ⟨T,Nl l,hint⟩ c fn (J n) ω v=c.g v):C8 P f c:=
 Mz (C:=⟨T,Nl l,hint⟩) hT (Iy hl) hm (Q9 hf hc) (J:=J) (fun code hb ℓ hℓ =>Fv.ok hJ ℓ (by
  rw[←hL];simp only[Gg,hb];exact hℓ)) fun v u hg=>⟨n,fun ω=>(he ω v).trans hg⟩
end Go.Fw
end
section
namespace Go.M
abbrev Dp:Nat:=Go.Fw.Dp
def NO(x:Int):Int:=IntKind.wrap .i64 x
def w8(x:Int):Int:=IntKind.wrap .u8 x
theorem Ig:∃n:Nat,2^64≤n:=⟨_,Ui _⟩
noncomputable def Mi:Nat:=Classical.choose Ig
theorem Nr:2^64≤Mi:=Classical.choose_spec Ig
end Go.M
end
section
namespace Go.Fw
structure SP (P:Program) where
 f:Nat
 c:Dn
 h:C8 P f c
def SP.l{P:Program}:List (SP P)→List (Nat×Dn)
 |[]=>[]
 |s::l=>(s.f,s.c)::SP.l l
theorem MD{P:Program}:∀l:List (SP P),Nu P (SP.l l)
 |[]=>trivial
 |s::l=>⟨s.h,MD l⟩
@[reducible] def AP.Cu (R:Type):AP→Type
 | .J2 _ rs=>EB rs→R
 | .v t=>t.D→R
 | .sl _ r=>List r.D→R
 | .Km r=>r.D→R
 | .G8 _ _=>Nat×Nat→R
 |_=>R
def AP.un{R:Type}:(p:AP)→p.Cu R→p.V→R
 | .J2 _ _,f,x=>f x
 | .v _,f,x=>f x
 | .sl _ _,f,x=>f x
 | .Km _,f,x=>f x
 | .G8 _ _,f,x=>f x
 | .nil,f,_=>f
 | .ref _,f,_=>f
 | .ptr _ _,f,_=>f
 | .fn _ _,f,_=>f
 | .any,f,_=>f
@[reducible] def Dm.Cu (R:Type):List AP→Type
 |[]=>R
 |p::l=>p.Cu (Dm.Cu R l)
def Dm.un{R:Type}:(l:List AP)→Dm.Cu R l→Dm.V l→R
 |[],f,_=>f
 |p::l,f,x=>Dm.un l (p.un f x.1) x.2
@[reducible] def Dx.Cu (R:Type):List (AP ⊕ List AP)→Type
 |[]=>R
 | .inl p::l=>p.Cu (Dx.Cu R l)
 | .inr q::l=>Dm.Cu (Dx.Cu R l) q
def Dx.un{R:Type}:(l:List (AP ⊕ List AP))→Dx.Cu R l→Dx.V l→R
 |[],f,_=>f
 | .inl p::l,f,x=>Dx.un l (p.un f x.1) x.2
 | .inr q::l,f,x=>Dx.un l (Dm.un q f x.1) x.2
@[reducible] def XP.Cu (R:Type):XP→Type
 | .c p=>p.Cu R
 | .agg l=>Dm.Cu R l
 | .row r=>r.D→R
 | .C9 l=>Dx.Cu R l
def XP.un{R:Type}:(p:XP)→p.Cu R→p.V→R
 | .c p,f,x=>p.un f x
 | .agg l,f,x=>Dm.un l f x
 | .row _,f,x=>f x
 | .C9 l,f,x=>Dx.un l f x
@[reducible] def BP.Cu (R:Type):BP→Type
 | .mem l=>Dm.Cu R l
 | .sl _ r=>List r.D→R
 | .gone=>R
def BP.un{R:Type}:(p:BP)→p.Cu R→p.V→R
 | .mem l,f,x=>Dm.un l f x
 | .sl _ _,f,x=>f x
 | .gone,f,_=>f
@[reducible] def An.Cu (R:Type):List (Nat×XP)→Type
 |[]=>R
 |(_,p)::l=>p.Cu (An.Cu R l)
def An.un{R:Type}:(l:List (Nat×XP))→An.Cu R l→An.V l→R
 |[],f,_=>f
 |(_,p)::l,f,x=>An.un l (p.un f x.1) x.2
@[reducible] def BD.Cu (R:Type):List BP→Type
 |[]=>R
 |p::l=>p.Cu (BD.Cu R l)
def BD.un{R:Type}:(l:List BP)→BD.Cu R l→BD.V l→R
 |[],f,_=>f
 |p::l,f,x=>BD.un l (p.un f x.1) x.2
@[reducible] def CM.Cu (s:CM) (R:Type):Type:=An.Cu (BD.Cu R s.Ar) s.AX
def CM.un{R:Type}(s:CM)(f:s.Cu R)(v:s.V):R:=BD.un s.Ar (An.un s.AX f v.1) v.2
structure Lp (o:CM) where
 ℓ :Nat
 s:CM
 F:Nat→s.Cu (Option o.V)
def Nk{o:CM}(nb:Nat):List (Lp o)→Nat→Nat→St→Option o.V
 |[],_,_,_=>none
 |p::l,n,ℓ,σ=>if ℓ =p.ℓ then jump nb p.s (p.s.un (p.F n)) σ else Nk nb l n ℓ σ
inductive Di (C:I8) (c:Dn) (fn:Func) (J:Nat→Nat→St→Option c.outs.V):List (Lp c.outs)→Prop
 |nil:Di C c fn J []
 |cons {ℓ :Nat} {s:CM} {F:Nat→s.Cu (Option c.outs.V)} {l:List (Lp c.outs)} (h0:∀v,s.un (F 0) v=none) (h1:∀n v ω,Ku C c fn (J n) ℓ ω (s.st fn.ntmps v)=s.un (F (n+1)) v) (h:Di C c fn J l):Di C c fn J (⟨ℓ,s,F⟩::l)
def Lp.ls{o:CM}:List (Lp o)→List Nat
 |[]=>[]
 |p::l=>p.ℓ ::Lp.ls l
theorem NU{o:CM}{nb:Nat}:∀{l:List (Lp o)} (n:Nat) {ℓ :Nat} (p:Lp o) (pre:List (Lp o)),ℓ =p.ℓ →(Lp.ls (pre++p::l)).Nodup→Nk nb (pre++p::l) n ℓ =jump nb p.s (p.s.un (p.F n))
 |l,n,ℓ,p,[],e,_=>by
  funext σ
  simp[Nk,e]
 |l,n,ℓ,p,q::pre,e,hn=>by
  funext σ
  have hq: ℓ ≠q.ℓ :=by
   intro h;simp only[U6,Lp.ls,U9]at hn;refine hn.1 ?_
   rw[←h,e];clear hn h e
   induction pre with
   |nil=>simp[Lp.ls]
   |cons a m ih=>simp[Lp.ls,ih]
  have:=congrFun (NU (nb:=nb) (l:=l) n p pre e (by simp only[U6,Lp.ls,U9]at hn;exact hn.2)) σ;simp only[U6,Nk,U1 hq];exact this
theorem Di.ok{C:I8}{c:Dn}{fn:Func}{nb:Nat}(hb:nb=c.ins.Ar.length){L:List (Lp c.outs)}(hn:(Lp.ls L).Nodup):∀{l pre:List (Lp c.outs)},L=pre++l→Di C c fn (Nk nb L) l→Fv C c fn (Nk nb L) (Lp.ls l)
 |[],_,_,_=>trivial
 |⟨ℓ,s,F⟩::l,pre,e,.cons h0 h1 h=>by
  refine⟨⟨s,fun n=>s.un (F n),fun n=> ?_,h0,fun n v ω=>h1 n v ω⟩,Di.ok hb hn (pre:=pre++[⟨ℓ,s,F⟩]) (by simp[e]) h⟩;subst hb;rw[e];exact NU n ⟨ℓ,s,F⟩ pre rfl (by rw[←e];exact hn)
def S7{P:Program}{T:BQ}(hT:Ag P T)(hm:P.follows .mixedOrders=true){f:Nat}{fn:Func}(hf:P.funcs[f]? =some fn)(i o:CM)(g:i.Cu (Option o.V))(l:List (SP P))(h:List UD)(L:List (Lp o))(n:Nat)
  (hL:Gg fn=Lp.ls L) (hd:decide (Lp.ls L).Nodup=true) (hc:Gl fn ⟨i,o,i.un g⟩=true)
  (hJ:Di ⟨T,Nl (SP.l l),IU h⟩ ⟨i,o,i.un g⟩ fn (Nk i.Ar.length L) L)
  (he:∀ω v,Gy ⟨T,Nl (SP.l l),IU h⟩ ⟨i,o,i.un g⟩ fn (Nk i.Ar.length L n) ω v=i.un g v):SP P:=
 ⟨f,⟨i,o,i.un g⟩,Mw (l:=SP.l l) hT hm hf (MD l) hc (J:=Nk i.Ar.length L) (L:=Lp.ls L) hL (Di.ok rfl (by simpa using hd) (pre:=[]) rfl hJ) n he⟩
end Go.Fw
end
section
namespace Go.Fw
open Go.Proofs Go.Shelf Go.RowKit Go.Lib
structure PA (P:Program) (ρ:Ren) (nm:String) (fv:Func):Prop where
 mixed:P.follows .mixedOrders=true
 f22:P.funcs[ρ.f 22]? =some { Body2.n22 ρ with name:=nm }
 n22:(nm== "runtime.NumGoroutine")=false
 f29:P.funcs[ρ.f 29]? =some fv
 n29:(fv.name== "runtime.NumGoroutine")=false
 SB:fv.body.isNone=true
 SL:Extern.findNext fv=none
 SM:Extern.find fv=some (Extern.SlicesOverlaps.overlaps #[(ρ.t 24),(ρ.t 24)] #[(ρ.t 4)])
 t0:P.underlying (ρ.t 0)=some (TypeDesc.tuple #[])
 a0:∀w,(isAgg (ρ.t 0)).run P w= .ok false w
 z0:∀w,(Go.sizeOf (ρ.t 0)).run P w= .ok 1 w
 v0:∀w,(zeroValue (ρ.t 0)).run P w= .ok (Value.tuple #[]) w
 t3:P.underlying (ρ.t 3)=some (TypeDesc.int IntKind.i64)
 a3:∀w,(isAgg (ρ.t 3)).run P w= .ok false w
 z3:∀w,(Go.sizeOf (ρ.t 3)).run P w= .ok 1 w
 v3:∀w,(zeroValue (ρ.t 3)).run P w= .ok (Value.int IntKind.i64 0) w
 t4:P.underlying (ρ.t 4)=some (TypeDesc.bool)
 a4:∀w,(isAgg (ρ.t 4)).run P w= .ok false w
 z4:∀w,(Go.sizeOf (ρ.t 4)).run P w= .ok 1 w
 v4:∀w,(zeroValue (ρ.t 4)).run P w= .ok (Value.bool false) w
 t24:P.underlying (ρ.t 24)=some (TypeDesc.slice (ρ.t 9))
 a24:∀w,(isAgg (ρ.t 24)).run P w= .ok false w
 z24:∀w,(Go.sizeOf (ρ.t 24)).run P w= .ok 1 w
 v24:∀w,(zeroValue (ρ.t 24)).run P w= .ok (Value.slice none 0 0) w
section
variable{P:Program} {ρ:Ren} {nm:String} {fv:Func}
end
end Go.Fw
end
section
namespace Go.Fw
open Go.Proofs Go.Shelf Go.RowKit Go.Lib
def Flat(w:World)(r:Ty)(css:List (List Value))(rows:List r.D):Prop:=
 css.length=rows.length∧(∀c∈css,c.length=r.n)∧ ∀(i:Nat) cs y,css[i]? =some cs→rows[i]? =some y→Rd w (fun _=>False) r cs y
theorem Flat.take{w:World}{r:Ty}{css:List (List Value)}{rows:List r.D}(h:Flat w r css rows)(n:Nat):Flat w r (css.take n) (rows.take n):=by
 refine⟨by simp[h.1],fun c hc=>h.2.1 c (List.mem_of_mem_take hc),fun i cs y a b=> ?_⟩;rw[List.getElem?_take]at a b;split at a
 ·rename_i hi
  rw[Uy hi]at b;exact h.2.2 i cs y a b
 ·cases a
theorem Flat.drop{w:World}{r:Ty}{css:List (List Value)}{rows:List r.D}(h:Flat w r css rows)(n:Nat):Flat w r (css.drop n) (rows.drop n):=by
 refine⟨by simp[h.1],fun c hc=>h.2.1 c (List.mem_of_mem_drop hc),fun i cs y a b=> ?_⟩;rw[VH]at a b;exact h.2.2 _ cs y a b
theorem Flat.append{w:World}{r:Ty}{css R0:List (List Value)}{rows Qe:List r.D}(h:Flat w r css rows)(k:Flat w r R0 Qe):Flat w r (css++R0) (rows++Qe):=by
 refine⟨by simp[h.1,k.1],fun c hc=>(UU.1 hc).elim (h.2.1 c) (k.2.1 c),fun i cs y a b=> ?_⟩;by_cases hi:i<rows.length
 ·rw[UK (by rw[h.1];exact hi)]at a
  rw[UK hi]at b;exact h.2.2 i cs y a b
 ·rw[UR (by rw[h.1];omega)]at a
  rw[UR (by omega)]at b;rw[h.1]at a;exact k.2.2 _ cs y a b
theorem Flat.one{w:World}{r:Ty}(hf:r.flat=true){css:List (List Value)}{rows:List r.D}(h:Flat w r css rows):∀v∈css.flatten,v.oneCell' =true:=by
 intro v hv;obtain⟨c,hc,hv⟩:=UZ.1 hv;obtain⟨i,hi,rfl⟩:=Ur hc;have h1:=h.1;exact Iw (GH (S:=fun _=>False) (d:=0) hf (h.2.2 i _ _ (UH hi) (UH (by omega)))) v hv
theorem Flat.at{w:World}{S:Nat→Prop}{d:Nat}{r:Ty}(hf:r.flat=true){css:List (List Value)}{rows:List r.D}(h:Flat w r css rows):Ai w S d r css rows (List.replicate rows.length []):=Ai.flat hf h.1 h.2.1 h.2.2
end Go.Fw
end
section
namespace Go.Fw
open Go.M Go.Proofs Go.Shelf Go.RowKit Go.Lib
structure RH (P:Program) (ρ:Ren) (nm:String):Prop where
 mixed:P.follows .mixedOrders=true
 f24:P.funcs[ρ.f 24]? =some { Body2.n24 ρ with name:=nm }
 n24:(nm== "runtime.NumGoroutine")=false
 t0:P.underlying (ρ.t 0)=some (TypeDesc.tuple #[])
 a0:∀w,(isAgg (ρ.t 0)).run P w= .ok false w
 z0:∀w,(Go.sizeOf (ρ.t 0)).run P w= .ok 1 w
 v0:∀w,(zeroValue (ρ.t 0)).run P w= .ok (Value.tuple #[]) w
 t3:P.underlying (ρ.t 3)=some (TypeDesc.int IntKind.i64)
 a3:∀w,(isAgg (ρ.t 3)).run P w= .ok false w
 z3:∀w,(Go.sizeOf (ρ.t 3)).run P w= .ok 1 w
 v3:∀w,(zeroValue (ρ.t 3)).run P w= .ok (Value.int IntKind.i64 0) w
 t4:P.underlying (ρ.t 4)=some (TypeDesc.bool)
 a4:∀w,(isAgg (ρ.t 4)).run P w= .ok false w
 z4:∀w,(Go.sizeOf (ρ.t 4)).run P w= .ok 1 w
 v4:∀w,(zeroValue (ρ.t 4)).run P w= .ok (Value.bool false) w
 t24:P.underlying (ρ.t 24)=some (TypeDesc.slice (ρ.t 9))
 a24:∀w,(isAgg (ρ.t 24)).run P w= .ok false w
 z24:∀w,(Go.sizeOf (ρ.t 24)).run P w= .ok 1 w
 v24:∀w,(zeroValue (ρ.t 24)).run P w= .ok (Value.slice none 0 0) w
section
variable{P:Program} {ρ:Ren} {nm:String}
end
end Go.Fw
end
section
namespace Go.Fw
open Go.M Go.Proofs Go.Shelf Go.RowKit Go.Lib
theorem Ai.take{w:World}{S:Nat→Prop}{d:Nat}{r:Ty}{css:List (List Value)}{rows:List r.D}{Fs:List T7}(h:Ai w S d r css rows Fs)(n:Nat):Ai w S d r (css.take n) (rows.take n) (Fs.take n):=by
 refine⟨by simp[h.1],by simp[h.2.1],fun c hc=>h.2.2.1 c (List.mem_of_mem_take hc),fun i cs y G a b c=> ?_⟩;rw[List.getElem?_take]at a b c;split at a
 ·rename_i hi
  rw[Uy hi]at b c;exact h.2.2.2 i cs y G a b c
 ·cases a
theorem Ai.drop{w:World}{S:Nat→Prop}{d:Nat}{r:Ty}{css:List (List Value)}{rows:List r.D}{Fs:List T7}(h:Ai w S d r css rows Fs)(n:Nat):Ai w S d r (css.drop n) (rows.drop n) (Fs.drop n):=by
 refine⟨by simp[h.1],by simp[h.2.1],fun c hc=>h.2.2.1 c (List.mem_of_mem_drop hc),fun i cs y G a b c=> ?_⟩;rw[VH]at a b c;exact h.2.2.2 _ cs y G a b c
end Go.Fw
end
section
namespace Go.Fw
open Go.M Go.Proofs Go.Shelf Go.RowKit Go.Lib
section
variable{P:Program} {ρ:Ren} {nm:String} {fv:Func}
theorem Fa{t:TypeId}{n:Nat}(h:(P.info? t).map (·.size)=some n):∀w,(Go.sizeOf t).run P w= .ok n w:=fun w=>by
 obtain⟨i,hi,rfl⟩:=UI.1 h;simp[sizeOf,typeInfo,hi]
theorem Hr{t:TypeId}{z:Value}(h:(P.info? t).bind (·.zero)=some z):∀w,(zeroValue t).run P w= .ok z w:=fun w=>by
 obtain⟨i,hi,hz⟩:=UJ.1 h;simp[zeroValue,typeInfo,hi,hz]
structure OU (P:Program) (ρ:Ren):Prop where
 t0:P.underlying (ρ.t 0)=some (TypeDesc.tuple #[])
 t3:P.underlying (ρ.t 3)=some (TypeDesc.int IntKind.i64)
 t4:P.underlying (ρ.t 4)=some (TypeDesc.bool)
 t24:P.underlying (ρ.t 24)=some (TypeDesc.slice (ρ.t 9))
 s0:(P.info? (ρ.t 0)).map (·.size)=some 1
 s3:(P.info? (ρ.t 3)).map (·.size)=some 1
 s4:(P.info? (ρ.t 4)).map (·.size)=some 1
 Ss:(P.info? (ρ.t 24)).map (·.size)=some 1
 v0:(P.info? (ρ.t 0)).bind (·.zero)=some (Value.tuple #[])
 v3:(P.info? (ρ.t 3)).bind (·.zero)=some (Value.int IntKind.i64 0)
 v4:(P.info? (ρ.t 4)).bind (·.zero)=some (Value.bool false)
 v24:(P.info? (ρ.t 24)).bind (·.zero)=some (Value.slice none 0 0)
theorem OU.ins(h:OU P ρ)(hm:P.follows .mixedOrders=true)(f22:P.funcs[ρ.f 22]? =some { Body2.n22 ρ with name:=nm })(n22:(nm== "runtime.NumGoroutine")=false)(f29:P.funcs[ρ.f 29]? =some fv)(n29:(fv.name== "runtime.NumGoroutine")=false)
  (SB:fv.body.isNone=true) (SL:Extern.findNext fv=none) (SM:Extern.find fv=some (Extern.SlicesOverlaps.overlaps #[(ρ.t 24),(ρ.t 24)] #[(ρ.t 4)])):PA P ρ nm fv:=
 ⟨hm,f22,n22,f29,n29,SB,SL,SM,h.t0,run_isAgg_plain h.t0 rfl,Fa h.s0,Hr h.v0,h.t3,run_isAgg_plain h.t3 rfl,Fa h.s3,Hr h.v3,h.t4,run_isAgg_plain h.t4 rfl,Fa h.s4,Hr h.v4,h.t24,run_isAgg_plain h.t24 rfl,Fa h.Ss,Hr h.v24⟩
@[reducible] def BK (f22 f24 f29 f30 t24 t9:Nat):Ren:=⟨fun k=>if k=22 then f22 else if k=24 then f24 else if k=29 then f29 else if k=30 then f30 else k,fun k=>if k=24 then t24 else if k=9 then t9 else k,fun k=>k⟩
end
end Go.Fw
end
section
namespace Go.Fw
open Go
def Lx(n:Int):Option (List UInt8):=if-9223372036854775808≤n∧n≤9223372036854775807 then some (Go.Lib.itoa n)else none
end Go.Fw
end
section
namespace Go.Fw
open Go.M Go.Proofs Go.Shelf Go.RowKit
theorem Kx{P:Program}{f:Nat}{ins outs:List (Nat×XP)}{g:CM.V ⟨ins,[]⟩→Option (CM.V ⟨outs,[]⟩)}
  (DA:Dn.ok ⟨⟨ins,[]⟩,⟨outs,[]⟩,g⟩=true) (Re:∀args w,(callFunc f args).run P w= .ok (.enter f args) w)
  (h:∀(E:Env) (w:World) (x:An.V ins) (args:Array Value) (u:An.V outs),args.size=ins.length→GI w→Bq E w [] id ins x args.toList→g (x,())=some (u,())→
   Calls P f args w fun e w' => ∃v,e= .returned v∧Below w.heap.size w w'∧Bq E w' [] id outs u [v]):
  C8 P f ⟨⟨ins,[]⟩,⟨outs,[]⟩,g⟩:=by
 refine⟨DA,Re,fun E w v args u CB hB hS hg=> ?_⟩;obtain⟨x,⟨⟩⟩:=v;obtain⟨u,⟨⟩⟩:=u;have hT:∀{w':World},Below w.heap.size w w'→ ∀c,E.T c→w'.heap[c]? =w.heap[c]?:=fun hb c hc=>hb.block c (hB.FI c hc)
 refine(h E w x args u CB (hB.KS w fun _ _=>rfl) hS hg).mono fun e w' hR=> ?_
 obtain⟨v,rfl,hb,hs⟩:=hR;exact⟨v,E,rfl,⟨fun _ h=>h,fun _ h=>h,fun _ h=> .inl h,fun _ h=> .inl h,hT hb,hb.os,hb.tape,hb.output,hb.size⟩,
  ⟨[],⟨rfl,fun k B F h=>by simp[BD.mk]at h⟩,by simp,by simp,by simp,hB.st,fun c hc=>Uh (hB.FI c hc) hb.size,hB.KS.mono (fun _ h=>h) (hT hb)⟩,hs,fun i hi=>by simp at hi⟩
theorem Lf{w:World}(k:Nat)(os:Array Obj):Below w.heap.size w (Go.Sort.grow (w.drewN k) os):=
 ⟨rfl,rfl,rfl,by simp[Go.Sort.grow,World.drewN],fun c hc=>by
  show(w.heap++os)[c]? =_
  rw[Array.getElem?_append_left hc]⟩
theorem Pv{args:Array Value}{a:Value}(hl:args.size=1)(h:args.toList[0]? =some a):args= #[a]:=by
 apply Array.ext'
 match hq:args.toList,(show args.toList.length=1 from hl)with
 |[b],_=>rw[hq]at h;simp at h;simp[h]
theorem PD{E:Env}{w:World}{vw:List Bx}{n:Int}{v:Value}(h:XR E w vw (.c (.v (.int .i64) n)) v):v= .int .i64 n:=by
 have:VR E w vw (.v (.int .i64) n) v:=h;simp only[VR,Rd,Ua,Us]at this;exact this.2
abbrev sI:XP:= .c (.v (.int .i64))
abbrev sS:XP:= .c (.v .str)
theorem LX{P:Program}{ρ:Ren}(L:LaysM.n171 P ρ)(Re:∀args w,(callFunc (ρ.f 171) args).run P w= .ok (.enter (ρ.f 171) args) w)(PQ:∀w,GI w→Go.Lib.TabIs P w "internal/strconv.uint64pow10" .u64 Go.Lib.pow10Tab):
  C8 P (ρ.f 171) ⟨⟨[(0,sI)],[]⟩,⟨[(0,sS)],[]⟩,fun v=>(Lx v.1.1).map fun l=>((l,()),())⟩:=by
 refine Kx rfl Re fun E w x args u CB hG hS hg=> ?_
 obtain⟨n,⟨⟩⟩:=x;obtain⟨⟨v0,h0,x0⟩,_⟩:=hS;obtain rfl:=Pv CB h0;obtain rfl:=PD x0;simp only[UI]at hg;obtain⟨l,hl,hg⟩:=hg;unfold Lx at hl;split at hl
 case isFalse=>cases hl
 rename_i hc;cases hl;cases hg;refine(Any.strconv_Itoa L n hc.1 hc.2 w (PQ w hG)).mono fun e w' h=> ?_
 obtain⟨rfl,k,os,rfl⟩:=h;exact⟨_,rfl,Lf k os,⟨_,rfl,rfl,rfl⟩,trivial⟩
def Tc{P:Program}{f f':Nat}{i o:CM}{F:i.V→Option o.V}(h:C8 P f' ⟨i,o,F⟩)(hf:f' =f)(g:i.Cu (Option o.V))(hg:∀v:i.V,i.un g v=F v):SP P:=
 ⟨f,⟨i,o,i.un g⟩,by rw[funext hg,←hf];exact h⟩
end Go.Fw
end
section
namespace Go.Fw
open Go Go.RowKit
theorem JQ{H:Type}{enc:TypeId×Value→H}{a:Assume}{C:Checked}{os:Os}{f:FuncId}{fn:Func}{s:ChangeSpec}{conds:List PathCond}{apart fresh handsOn again:Bool}{X:World→Array Value→Prop}
  (hX:∀(w w':World) (args:Array Value),w.heap=w'.heap→X w args→X w' args)
  (own:ownKnob C.prog.godebug=none) (started:os.Started) (PM:C.prog.inits.idxOf? f=none) (Rg:C.prog.funcs[f]? =some fn)
  (witness:∃(w:World) (tape:Tape) (i:Input),w.os=os∧(w.forCall tape i).Shaped C.prog∧i.vars=[]∧Input.okWide C.prog (w.forCall tape i) .any w.heap.size f i∧
   ((s.pre enc C.prog fn conds apart (w.forCall tape i).memory i.args∧X (w.forCall tape i).memory i.args)∧sizedMet enc C.prog fn (OpenSpec.ofChange s) apart (w.forCall tape i).memory i.args)∧a.holds C.prog (lone (Frame.enter C.prog f i.args .normal) [] (w.forCall tape i)))
  (NX:∀(W:World) (base:Nat) (args:Array Value) (ds gs:List (DataW H)) (before:List MemPlace),
   (∀(j:Nat) t v,fn.params[j]? =some t→args[j]? =some v→Value.okWide C.prog W .any base t v)→
   DataW.Whole enc C.prog fn.params.toList s.vars apart W args.toList ds gs before→X W args→W.ShapedOpen C.prog→
   Calls C.prog f args W fun e W' => ∃v,e= .returned v∧s.post enc C.prog fn apart fresh handsOn again W args v W'):
  ReturnsInHanded a C os f .any (fun w args=>(s.pre enc C.prog fn conds apart w args∧X w args)∧sizedMet enc C.prog fn (OpenSpec.ofChange s) apart w args) (s.post enc C.prog fn apart fresh handsOn again):=by
 refine returnsInHanded_of_calls own started PM witness ?_
 intro w tape i _ P_ _ DA Rj _;obtain⟨_,_,_,fn',hfn',_,_,_,_,N9⟩:=DA;have e:fn' =fn:=Option.some.inj (hfn'.symm.trans Rg);subst e;obtain⟨⟨⟨ds,gs,before,hw,hc⟩,hx⟩,hz⟩:=Rj;have PT:=DataW.Whole.of_heap (w':=w.forCall tape i) (by rfl) hw;refine(NX (w.forCall tape i) w.heap.size i.args ds gs before N9 PT (hX _ _ _ (by rfl) hx) P_).mono fun e W' ⟨v,he,hp⟩=> ?_
 subst he;exact ChangeSpec.post_blind hp
end Go.Fw
end
