/- The framework, part 2: a checked interpreter of the model's code over abstract states; no claim is made here. -/
import Derived.Test.YtancechjahedgaaDoorF0
import Derived.Below
import Derived.ChangeArms
import Derived.ChangeOld
import Derived.DataReads
import Derived.Handed
import Derived.LaidLaws
import Derived.Lib.AtoiAll
import Derived.Lib.IndexMore
import Derived.Lib.ItoaNum
import Derived.Lib.SlicesS
import Derived.Lib.Strings
import Derived.MakeChecks
import Derived.OrdersHeld
import Derived.Shelf.Slices.Delete
import Derived.Shelf.Slices.Turned
import Derived.Shelf.Spec.SlicesInsertGrow
import Derived.Shelf.Strconv.Itoa3
import Derived.Shelf.Strings.Cut
import Derived.Shelf.Strings.Prefix
import Derived.Shelf.Strings.Search3
import Derived.Stop.LaidErr
import Derived.Tactics
set_option linter.unusedVariables false
set_option linter.unusedSimpArgs false
set_option linter.unusedSectionVars false
section
namespace Go.Fw
theorem LW{E:Env}{w:World}{vw:List Bx}:∀{l:List XV} {bs:ZD} {vs:List Value},OB l=some bs→AJ (XR E w vw) l vs→(∀b∈bs,b<vw.length)∧vs=bs.map fun b=>Value.pointer (some ⟨E.BR b,0,none⟩)
 |[],bs,vs,e,h=>by
  simp only[OB,ZU]at e;subst e;cases vs with
  |nil=>exact⟨by simp,rfl⟩
  |cons _ _=>exact h.elim
 |x::l,bs,vs,e,h=>by
  unfold OB at e;split at e
  ·rename_i heq;cases heq
  ·rename_i b l' heq
   cases heq;simp only[ZV]at e;obtain⟨r,e1,rfl⟩:=e;cases vs with
   |nil=>exact h.elim
   |cons v vs=>
    obtain⟨h1,h2⟩:=h;obtain⟨k1,k2⟩:=LW e1 h2;obtain⟨h3,h4⟩:b<vw.length∧v= .pointer (some ⟨E.BR b,0,none⟩):=h1;exact⟨fun c hc=>(Z1.1 hc).elim (fun e=>e▸h3) (k1 c),by rw[h4,k2];rfl⟩
  ·cases e
theorem VA{E:Env}{σ:St}{a:Act}{w:World}(h:Rel E σ a w):∀l:List Operand,AJ (XR E w σ.bx) (l.map σ.ev) (l.map a.eval)
 |[]=>trivial
 |x::l=>⟨h.ev x,VA h l⟩
theorem Pv{E:Env}{σ:St}{a:Act}{w:World}(h:Rel E σ a w):∀o:Option Operand,OR E w σ.bx (o.map σ.ev) (o.map a.eval)
 |none=>trivial
 |some x=>h.ev x
theorem Nd{w:World}{S:Nat→Prop}:∀{p:List Jn} {d:Nat} {r:Ty} {h:Value} {rows:List r.D} {F:ZD} {q:Ty} {ys:List q.D} {v:Value},Ow w S d (.sl r) [h] rows F→AW r rows p→
  A8 r rows p=some ⟨q,ys⟩→d≤p.length→Bm w h p=some v→Rd w S (.sl q) [v] ys
 |p,0,r,h,rows,F,q,ys,v,ho,hp,hg,_,hv=>by
  simp only[Ow]at ho;obtain⟨h',k,hr⟩:=KU ho.1 hp hg;have:=k w (fun _ _=>rfl);rw[hv]at this;cases this;exact hr
 |[],d+1,r,h,rows,F,q,ys,v,ho,hp,hg,hd,hv=>by simp at hd
 |s::p,d+1,r,h,rows,F,q,ys,v,ho,hp,hg,hd,hv=>by
  simp only[AW]at hp;obtain⟨hi,CO,hp⟩:=hp;simp only[A8]at hg;obtain⟨a,len,cap,rfl⟩:∃a len cap,h= .slice a len cap:=by
   have:=ho;simp only[Ow]at this;obtain⟨a,cap,e,_⟩:=this;simp only[Zo,Z_]at e;exact⟨_,_,_,e⟩
  split at hg
  case h_2=>cases hg
  rename_i q' x' HY;rw[HY]at hp;obtain⟨b,o,arr,ty,fr,cs,G,R,rfl,hb,hu,hbd,c1,c2,c3,Js,hback⟩:=NB ho hi;obtain⟨u,A1,A2,k1,k2,k3,k4⟩:=Ht c3 HY;simp only[Bm]at hv;rw[CO,c2 _ _ k1]at hv;exact Nd k2 hp hg (by simp at hd;omega) hv
theorem PA{E:Env}{σ:St}{a:Act}{w:World}(h:Rel E σ a w){b i sz j:Nat}{p:List Jn}{va v:Value}(SC:VR E w σ.bx (.Bl b p i sz j) va){x:XV}(hv:XR E w σ.bx x v)(Tn:∀u∈v.cells.toList,u.oneCell' =true)
  {σ':St} (e:Hc σ (.c (.Bl b p i sz j)) x=some σ'):
  ∃bb oo E',va= .pointer (some ⟨bb,oo,none⟩)∧w.there bb oo v.cells.toList.length∧Rel E' σ' a (w.setCells bb oo v.cells.toList)∧DZ [b] E σ.bx w E' σ'.bx (w.setCells bb oo v.cells.toList)∧σ'.tm.length=σ.tm.length:=by
 unfold Hc GF at e;split at e
 ·rename_i b0 _ _ _ _ b' s p' off n heq
  cases heq;split at e
  case isFalse=>cases e
  rename_i SJ;subst SJ;split at e
  case h_2=>cases e
  rename_i d r rows hb;simp only[ZW,ZV]at e;obtain⟨q,⟨⟨q0,ys⟩,hg,rfl⟩,e⟩:=e;dsimp only at e;have CK:=(ZS.1 hb).1;obtain⟨F,⟨hd1,ho⟩,hB⟩:=h.bx.take hb;obtain⟨A,W,pF,S_⟩:=B3 (d:=min d (p'.length+1)) (by omega) ho;have Ey:=hB.perm (G':=A++W++[]) (by rw[Zu,Zu];exact pF);obtain⟨hle,hB3⟩:=Ey.share
  generalize YR:({ E with S:=fun c=>E.S c∨c∈W,T:=fun c=>E.T c∨c∈W }:Env)=E1 at hle hB3
  have VN:Ow w E1.S (min d (p'.length+1)) (.sl r) [E1.BT b'] rows A:=by
   rw[hle.BT];subst YR;exact S_
  have VF:=hB3.put (b:=b') (B:= .sl (min d (p'.length+1)) r rows) (by rw[Zd CK]) ⟨by omega,VN⟩;rw[bD]at VF;have hk:D5 E w σ.bx E1 w (σ.bx.set b' (.sl (min d (p'.length+1)) r rows)):=by
   refine⟨by simp,fun _ _=>by rw[hle.BR],hle.T,hle.S,h.bx.st,fun _ _=>rfl,fun c d' r' rows' hc e=> ?_⟩;by_cases QZ:b' =c
   ·subst QZ
    rw[Zd CK]at e;simp only[ZU,Bx.sl.injEq]at e;obtain⟨rfl,rfl,e⟩:=e;obtain rfl:=Zw e;exact⟨d,rows,hb,fun p hp q ys hg=>⟨hp,⟨ys,hg,rfl⟩,fun h' hh=>by rw[hle.BT];exact hh⟩⟩
   ·rw[ZZ QZ]at e
    exact⟨d',rows',e,fun p hp q ys hg=>⟨hp,⟨ys,hg,rfl⟩,fun h' hh=>by rw[hle.BT];exact hh⟩⟩
  have G7:VR E w σ.bx (.win b' (s::p') off n) v:=hv;have GY:XR E1 w (σ.bx.set b' (.sl (min d (p'.length+1)) r rows)) (.c (.sl true q0 ((ys.drop off).take n))) v:=by
   simp only[VR,hb]at G7;obtain⟨_,hp,q1,ys1,a1,len,cap,g1,g2,g3,rfl⟩:=G7;rw[hg]at g1;simp only[ZU,Zc]at g1;obtain⟨rfl,g1⟩:=g1;obtain rfl:=Zw g1;have:=Nd VN hp hg (by simp only[Zj];omega) (by rw[hle.BT];exact g3);exact Oj this g2
  have hr:Rel E1 { σ with bx:=σ.bx.set b' (.sl (min d (p'.length+1)) r rows) } a w:=
   ⟨h.Cg,h.tm.imp fun _ _ hx=>C2 hk hx,VF.turn (E':=E1) (w':=w) (fun _ _ hv=>A3 ⟨by simp,fun _ _=>rfl,fun _ h=>h,fun _ h=>h,hB3.st,fun _ _=>rfl,fun c d' r' rows' hc e=>by
    by_cases QZ:b' =c
    ·subst QZ
     rw[Zd CK]at e;simp only[ZU,Bx.sl.injEq]at e;obtain⟨rfl,rfl,e⟩:=e;obtain rfl:=Zw e;exact⟨d,rows,hb,fun p hp q ys hg=>⟨hp,⟨ys,hg,rfl⟩,fun h' hh=>hh⟩⟩
    ·rw[ZZ QZ]at e
     exact⟨d',rows',e,fun p hp q ys hg=>⟨hp,⟨ys,hg,rfl⟩,fun h' hh=>hh⟩⟩⟩ hv) (fun _ h=>h) (fun _ _=>rfl) (fun _ _=>rfl) (fun _ _ _=>rfl) fun F hF=>hF⟩
  obtain⟨bb,oo,E',q1,q2,q3,q4,q5⟩:=Mg hr (A3 hk SC) GY Tn e;refine⟨bb,oo,E',q1,q2,q3,⟨(hle.base w).trans q4.base,by simpa using q4.len,fun c hc=> ?_,fun c hc=> ?_,fun c B B' XG hB D2 hd=> ?_⟩,q5⟩
  ·have:=q4.ids c (by simpa using hc)
   exact⟨this.1.trans (by rw[hle.BR]),this.2.trans (by rw[hle.BT])⟩
  ·refine q4.dead c ?_
   have QZ:b'≠c:=fun e=>by subst e;rw[hb]at hc;cases hc
   simp only;rw[ZZ QZ];exact hc
  ·have QZ:b'≠c:=fun e=>XG (by simp[e])
   obtain⟨f1,f2⟩:=q4.frame c B B' XG (by simp only;rw[ZZ QZ];exact hB) D2 hd;refine⟨f1,fun c' KH=>f2 c' ?_⟩;cases B with
   |mem cs=>exact KH.trans (by rw[hle.BR])
   |sl d0 r0 DP=>simp only[Ob]at KH⊢;rw[hle.BT];exact KH
   |dead=>exact KH
 ·simp only[aE]at e
  exact Mg h SC hv Tn e
def LU:Op→Bool
 | .call { callee:= .value _,.. }=>true
 |_=>false
section
variable{Y:Type} {P:Program} {T:Bw} (hT:Av P T) {o:Oper} {E:Env} {σ:St} {a:Act} {w:World} {k:K Y} {y:Y}
include hT
theorem O3(h:Rel E σ a w){t:TypeId}{oa ox:Operand}(ho:o.op= .store t oa ox){ti:TI}(Dw:T.get t=some ti)
  (hc:(σ.ev ox).cells.length=ti.size∧ti.size≠0∧(σ.ev ox).cells.all AV.known=true) {σ':St} (hs:Hc σ (σ.ev oa) (σ.ev ox)=some σ') (e:k (.c .undef) σ' =some y):CG P o E σ a w k y:=by
 obtain⟨c1,c2,c3⟩:=hc;have Hm:(σ.ev ox).cells≠[]:=fun hh=>by rw[hh]at c1;exact c2 c1.symm
 obtain⟨FB,Tn⟩:=Ks (h.ev ox) c3 Hm;have hlen:(a.eval ox).cells.toList.length=ti.size:=by rw[←AJ.len FB];exact c1
 have hi:(P.info? t).map (·.size)=some (a.eval ox).cells.toList.length:=by rw[hlen];exact Av.size hT Dw
 have SC:=h.ev oa;have fin:∀{bb oo:Nat} {E':Env},a.eval oa= .pointer (some ⟨bb,oo,none⟩)→w.there bb oo (a.eval ox).cells.toList.length→Rel E' σ' a (w.setCells bb oo (a.eval ox).cells.toList)→
   DZ (BZ (fun _=>none) σ o.op) E σ.bx w E' σ'.bx (w.setCells bb oo (a.eval ox).cells.toList)→σ'.tm.length=σ.tm.length→CG P o E σ a w k y:=by
  intro bb oo E' e1 e2 e3 e4 e5;have hr:=KP (P:=P) e2 hi Tn;refine⟨undef,_,E',.c .undef,σ',.inr ⟨?_,rfl⟩,e3,trivial,e4,e5,e⟩;simp only[execOp,ho,e1,Sem.run_bind,hr,Result.andThen_ok,Sem.run_pure]
 generalize Ww:σ.ev oa=xa at hs SC
 cases xa with
 |agg l=>simp[Hc,GF,IP]at hs
 |D6 l=>simp[Hc,GF,IP]at hs
 |c x=>
  cases x with
  |BS b j=>
   simp only[Hc,GF,aE,IP]at hs;split at hs
   case h_2=>cases hs
   rename_i cs hb;simp only[ZV]at hs;obtain⟨G2,hs,rfl⟩:=hs;have WQ:b<σ.bx.length∧a.eval oa= .pointer (some ⟨E.BR b,j,none⟩):=SC;obtain⟨q1,q2,q3⟩:=QD h hb FB Hm hs;exact fin WQ.2 q1 q2 (by rw[ho];simp only[BZ,Ww];exact q3) rfl
  |Bl b p i sz j=>
   obtain⟨bb,oo,E',q1,q2,q3,q4,q5⟩:=PA h SC (h.ev ox) Tn hs;exact fin q1 q2 q3 (by rw[ho];simp only[BZ,Ww];exact q4) q5
  |_=>simp[Hc,GF,IP]at hs
omit hT in
theorem Ny(h:Rel E σ a w){x:Operand}(ho:o.op= .assign x)(e:Gr σ (σ.ev x) k=some y):CG P o E σ a w k y:=by
 have hr:(execOp a.eval o).run P w= .ok (.value (a.eval x)) w:=by simp only[execOp,ho,Sem.run_pure]
 have hv:=h.ev x;unfold Gr at e;split at e
 ·rename_i b off n hx
  rw[hx]at hv;simp only[ZW]at e;obtain⟨⟨r,rows,bx,d⟩,e1,e⟩:=e;dsimp only at e;have G4:VR E w σ.bx (.win b [] off n) (a.eval x):=hv;obtain⟨hd,F1,F2,k1,ho1⟩:=Hy h.bx (Aq.refl _) G4 e1;obtain⟨Fs0,VE,Ey⟩:=k1.boxes;simp only[Zu]at Ey;have nd:=(Za.1 (Za.1 Ey.nodup).2.1).1;obtain⟨r1,r2,r3⟩:=EG h k1 (w':=w) hd ho1 (fun c hc=> .inl (Zk.2 (.inl hc))) nd (fun c hc=>Ey.lt c (by simp[hc])) (fun _ _ _=>rfl) ⟨rfl,rfl,rfl,Zx _⟩;exact⟨_,_,_,_,_,.inl hr,r1,r3,r2.any,rfl,e⟩
 ·exact CG.same h hr hv e
theorem QK{Γ:Nat→Option FX}(h:Rel E σ a w)(e:FC T Γ o σ k=some y)(MQ:LU o.op=false):CG P o E σ a w k y:=by
 have same:∀{v:Value} {x:XV},(execOp a.eval o).run P w= .ok (.value v) w→XR E w σ.bx x v→k x σ=some y→CG P o E σ a w k y:=fun h1 h2 h3=>CG.same h h1 h2 h3
 obtain⟨Fs,hB,hS⟩:=h.bx;have st:=hS.st;unfold FC at e;split at e
 ·rename_i x ho
  exact same (v:=a.eval x) (by simp only[execOp,ho,Sem.run_pure]) (h.ev x) e
 ·rename_i x ho
  exact Ny h ho e
 ·rename_i c xa xb ho
  split at e
  case h_2=>cases e
  rename_i p hp;have hc:=h.ev c;rw[hp]at hc;have KH:=Dx (E:=E) (w:=w) (vw:=σ.bx) hc;refine same (v:=if p then a.eval xa else a.eval xb) (x:=if p then σ.ev xa else σ.ev xb) (by simp[execOp,ho,KH,asBool]) (by cases p<;>simp[h.ev]) ?_
  cases p<;>simpa[Q6]using e
 ·rename_i t ho
  split at e
  case h_2=>cases e
  rename_i r hr;exact PG hT h ho hr e
 ·rename_i t x ho
  split at e
  case h_2=>cases e
  rename_i ti Dw;split at e
  case isFalse=>cases e
  rename_i hc;exact RU h ho hc.2.2 (fun hh=>by rw[hh]at hc;exact hc.2.1 hc.1.symm) e
 ·rename_i t ps ho
  split at e
  case h_2=>cases e
  rename_i s b fs rw r Dw hr;split at e
  case h_2=>cases e
  rename_i cs Qf;exact Oe hT h ho Dw hr Qf e
 ·rename_i t n ps ho
  exact KM hT h ho e
 ·rename_i t x ho
  split at e
  case h_2=>cases e
  rename_i z hz;obtain⟨u,h1,h2⟩:=N_ hT hB st hz (h.ev x);exact same (by simp only[execOp,ho,Sem.run_bind,h1,Result.andThen_ok,Sem.run_pure]) h2 e
 ·rename_i t xa xx ho
  split at e
  case h_2=>cases e
  rename_i ti Dw;split at e
  case isFalse=>cases e
  rename_i hc;split at e
  case h_2=>cases e
  rename_i σ' hs;exact O3 hT h ho Dw hc hs e
 ·rename_i x ho
  have hx:=h.ev x;split at e
  ·rename_i b j hp
   rw[hp]at hx;have Qb:b<σ.bx.length∧a.eval x= .pointer (some ⟨E.BR b,j,none⟩):=hx;exact same (v:=a.eval x) (by simp only[execOp,ho,Qb.2,Sem.run_pure]) hx e
  ·rename_i b p i sz j hp
   rw[hp]at hx;have Q9:G3 (a.eval x)=true:=hx.1;refine same (v:=a.eval x) ?_ hx e
   unfold G3 at Q9;split at Q9
   ·rename_i hv
    simp only[execOp,ho,hv,Sem.run_pure]
   ·cases Q9
  ·rename_i s r z j hp
   rw[hp]at hx;obtain⟨bb,oo,cs,hv,hrest⟩:=hx;exact same (v:=a.eval x) (x:= .c (.Cn s r z j)) (by simp only[execOp,ho,hv,Sem.run_pure]) ⟨bb,oo,cs,hv,hrest⟩ e
  ·rename_i f Bu hp
   rw[hp]at hx;have Qb:(∀b∈Bu,b<σ.bx.length)∧a.eval x= .func (.func f) #[] (Bu.map fun b=>Value.pointer (some ⟨E.BR b,0,none⟩)).toArray:=hx;exact same (v:=a.eval x) (by simp only[execOp,ho,Qb.2,Sem.run_pure]) hx e
  ·cases e
 ·rename_i op t x z s ho
  obtain⟨r,val,h1,h2,h3⟩:=IF hT e (h.ev x) (h.ev z) x z;exact same (v:=val) (x:= .c r) (by
   simp only[execOp,ho,Sem.run_bind];simp only[Sem.run_bind]at h2;rw[h2];rfl) h3 h1
 ·rename_i op t x ho
  obtain⟨r,val,h1,h2,h3⟩:=Ji (P:=P) e (h.ev x);exact same (v:=val) (x:= .c r) (by simp only[execOp,ho,Sem.run_bind,h2,Result.andThen_ok,Sem.run_pure]) h3 h1
 ·rename_i s d x ho
  exact QU hT h ho e
 ·rename_i f first Bu ho
  split at e
  case isFalse=>cases e
  rename_i hf;split at e
  case h_2=>cases e
  rename_i bs Xz;obtain⟨q1,q2⟩:=LW Xz (VA h Bu.toList);have TL:first.map a.eval= #[]:=by
   have:first= #[]:=Array.eq_empty_of_size_eq_zero hf;rw[this];simp
  have Ug:Bu.map a.eval=(bs.map fun b=>Value.pointer (some ⟨E.BR b,0,none⟩)).toArray:=by
   apply bJ;simpa using q2
  refine same (v:= .func (.func f) #[] (bs.map fun b=>Value.pointer (some ⟨E.BR b,0,none⟩)).toArray) ?_ (x:= .c (.fn f bs)) ⟨q1,rfl⟩ e
  simp only[execOp,ho,Instr.makeFunc,TL,Ug,Sem.run_bind,Sem.run_pure,Result.andThen_ok]
 ·rename_i t l c ho
  exact QO hT h ho e
 ·rename_i t x lo hi ho
  obtain⟨z,val,h1,h2,h3⟩:=Ig hT hB st e (h.ev x) (Pv h lo) (Pv h hi);exact same (v:=val) (by simp only[execOp,ho,Option.map_none,Sem.run_bind,h2,Result.andThen_ok,Sem.run_pure]) h3 h1
 ·rename_i t x f ho
  split at e
  case h_2=>cases e
  rename_i z hz;obtain⟨u,h1,h2⟩:=Iq hT hz (h.ev x);exact same (by simp only[execOp,ho,Sem.run_bind,h1,Result.andThen_ok,Sem.run_pure]) h2 e
 ·rename_i t x f ho
  split at e
  case h_2=>cases e
  rename_i z hz;obtain⟨u,h1,h2⟩:=Jr hT hz (h.ev x);exact same (by simp only[execOp,ho,Sem.run_bind,h1,Result.andThen_ok,Sem.run_pure]) h2 e
 ·rename_i t x i ho
  obtain⟨z,val,h1,h2,h3⟩:=JF hT hB st e (h.ev x) (h.ev i);exact same (v:=val) (by simp only[execOp,ho,Sem.run_bind,h2,Result.andThen_ok,Sem.run_pure]) h3 h1
 ·rename_i t x i ho
  obtain⟨z,val,h1,h2,h3⟩:=Gz hT e (h.ev x) (h.ev i);exact same (v:=val) (by simp only[execOp,ho,Sem.run_bind,h2,Result.andThen_ok,Sem.run_pure]) h3 h1
 ·rename_i x i ho
  split at e
  case h_2=>cases e
  rename_i z hz;obtain⟨u,h1,h2⟩:=HL (P:=P) hz (h.ev x);exact same (by simp only[execOp,ho,Sem.run_bind,h1,Result.andThen_ok,Sem.run_pure]) h2 e
 ·rename_i f args L2 ho
  rw[ho]at MQ;cases MQ
 ·rename_i args L2 ho
  split at e
  ·rename_i s t Bd S2
   obtain⟨x,rfl,hx⟩:=FA Bd;have hv:=h.ev x;rw[hx]at hv;have G4:=FQ (E:=E) (w:=w) (vw:=σ.bx) hv;split at e
   case isFalse=>cases e
   rename_i hs;have hu:=FR hT hs;refine same (v:= .int .i64 (s.length:Int)) (x:= .c (.v (.int .i64) (s.length:Int))) ?_ (VR.int (E:=E) (vw:=σ.bx) _ _) e
   have CO:(⟨s.toArray⟩:ByteArray).size=s.length:=by simp[ByteArray.size]
   simp[execOp,ho,resolve,invoke,builtin,Builtin.len_,S2,G4,AD hu,goInt,CO]
  ·rename_i z t _ Bd S2
   obtain⟨x,rfl,hx⟩:=FA Bd;have hv:=h.ev x;rw[hx]at hv;split at e
   case isFalse=>cases e
   rename_i hs;split at e
   case h_2=>cases e
   rename_i n hn;obtain⟨el,hu⟩:=JX hT hs;obtain⟨ad,cap,G4⟩:=J5 hB st hn hv;refine same (v:= .int .i64 (n:Int)) (x:= .c (.v (.int .i64) (n:Int))) ?_ (VR.int (E:=E) (vw:=σ.bx) _ _) e
   simp[execOp,ho,resolve,invoke,builtin,Builtin.len_,S2,G4,AD hu,goInt]
  ·cases e
 ·rename_i args L2 ho
  split at e
  case h_2=>cases e
  rename_i x1 x2 Bd;exact N2 hT h ho rfl Bd e
 ·rename_i args L2 ho
  split at e
  case h_2=>cases e
  rename_i x Bd;exact O_ hT h ho rfl Bd e (fun b p off n hx=>by rw[ho];simp only[BZ];rw[Bd,hx])
 ·rename_i args L2 ho
  split at e
  case h_2=>cases e
  rename_i x1 x2 Bd;obtain⟨o1,o2,rfl,hx1,hx2⟩:=E_ Bd;have G7:=h.ev o1;have GY:=h.ev o2;rw[hx1]at G7;rw[hx2]at GY;obtain⟨r,val,h1,h2,h3⟩:=D_ (P:=P) (big:=true) e G7 GY L2 #[] o.type;simp only[an]at h2;exact same (v:=val) (x:= .c r) (by simp[execOp,ho,resolve,invoke,builtin,h2]) h3 h1
 ·rename_i args L2 ho
  split at e
  case h_2=>cases e
  rename_i x1 x2 Bd;obtain⟨o1,o2,rfl,hx1,hx2⟩:=E_ Bd;have G7:=h.ev o1;have GY:=h.ev o2;rw[hx1]at G7;rw[hx2]at GY;obtain⟨r,val,h1,h2,h3⟩:=D_ (P:=P) (big:=false) e G7 GY L2 #[] o.type;simp only[Z6,aV]at h2;exact same (v:=val) (x:= .c r) (by simp[execOp,ho,resolve,invoke,builtin,h2]) h3 h1
 ·cases e
end
end Go.Fw
end
section
namespace Go.Fw
def alive(l:List BP)(i:Nat):Bool:=
 match l[i]? with
 |some .gone=>false
 |some _=>true
 |none=>false
def AP.Ci(l:List BP):AP→Bool
 | .sl s _=>s
 | .Nn _=>false
 | .JJ _ _=>false
 | .M3 _ _=>false
 | .ref i=>decide (i<l.length)
 | .ptr i _=>alive l i
 | .fn _ Bu=>Bu.all (alive l)
 |_=>true
def XP.Ci(l:List BP):XP→Bool
 | .c p=>p.Ci l
 | .agg q=>q.all (AP.Ci l)
 | .D6 q=>q.all fun| .inl p=>p.Ci l| .inr q=>q.all (AP.Ci l)
 | .row _=>false
def BP.Ci(l:List BP):BP→Bool
 | .mem q=>q.all (AP.Ci l)
 |_=>true
def kinds:List BP→List BP→Bool
 |[],_=>true
 | .mem _::l,.mem _::m=>kinds l m
 | .sl _ r::l,.sl _ q::m=>decide (r=q)&&kinds l m
 | .mem _::l,.gone::m=>kinds l m
 | .sl _ _::l,.gone::m=>kinds l m
 |_,_=>false
def Kw(l:List BP):List (Nat×XP)→Bool
 |[(0,p)]=>p.Ci l
 |_=>false
def FX.ok(c:FX):Bool:=
 kinds c.ins.A9 c.outs.A9&&Kw c.outs.A9 c.outs.Ai&&c.outs.A9.all (BP.Ci c.outs.A9)
theorem FF:∀{l m:List BP},kinds l m=true→l.length≤m.length∧ ∀(i:Nat) p,l[i]? =some p→p≠ .gone∧ ∀d r,m[i]? =some (.sl d r)→ ∃d',p= .sl d' r
 |[],m,_=>⟨by simp,fun i p h=>by simp at h⟩
 | .gone::l,[],h=>by simp[kinds]at h
 | .gone::l,_::_,h=>by simp[kinds]at h
 | .mem _::l,[],h=>by simp[kinds]at h
 | .sl _ _::l,[],h=>by simp[kinds]at h
 | .mem q::l,.mem _::m,h=>by
  obtain⟨h1,h2⟩:=FF (l:=l) (m:=m) (by simpa[kinds]using h);refine⟨by simpa using h1,fun i p hp=> ?_⟩;cases i with
  |zero=>simp at hp;subst hp;exact⟨by simp,fun d r hh=>by simp at hh⟩
  |succ i=>simpa using h2 i p (by simpa using hp)
 | .mem q::l,.gone::m,h=>by
  obtain⟨h1,h2⟩:=FF (l:=l) (m:=m) (by simpa[kinds]using h);refine⟨by simpa using h1,fun i p hp=> ?_⟩;cases i with
  |zero=>simp at hp;subst hp;exact⟨by simp,fun d r hh=>by simp at hh⟩
  |succ i=>simpa using h2 i p (by simpa using hp)
 | .mem q::l,.sl _ _::m,h=>by simp[kinds]at h
 | .sl d0 r0::l,.sl _ q::m,h=>by
  simp only[kinds,Zg,Zs]at h;obtain⟨h1,h2⟩:=FF (l:=l) (m:=m) h.2;refine⟨by simpa using h1,fun i p hp=> ?_⟩;cases i with
  |zero=>simp at hp;subst hp;exact⟨by simp,fun d r hh=>by simp at hh;exact⟨d0,by rw[h.1,hh.2]⟩⟩
  |succ i=>simpa using h2 i p (by simpa using hp)
 | .sl d0 r0::l,.gone::m,h=>by
  obtain⟨h1,h2⟩:=FF (l:=l) (m:=m) (by simpa[kinds]using h);refine⟨by simpa using h1,fun i p hp=> ?_⟩;cases i with
  |zero=>simp at hp;subst hp;exact⟨by simp,fun d r hh=>by simp at hh⟩
  |succ i=>simpa using h2 i p (by simpa using hp)
 | .sl _ _::l,.mem _::m,h=>by simp[kinds]at h
def Cz(P:Program)(f:Nat)(c:FX):Prop:=
 c.ok=true∧(∀args w,(callFunc f args).run P w= .ok (.enter f args) w)∧
 ∀(E:Env) (w:World) (v:c.ins.V) (args:Array Value) (u:c.outs.V),args.size=c.ins.Ai.length→
  AQ E w (Bj.mk id c.ins.A9 v.2) (Bj.mk id c.ins.A9 v.2) []→Cc E w (Bj.mk id c.ins.A9 v.2) id c.ins.Ai v.1 args.toList→c.g v=some u→
  Calls P f args w fun e w' => ∃x E',e= .returned x∧Hw E w E' w'∧AQ E' w' (Bj.mk id c.outs.A9 u.2) (Bj.mk id c.outs.A9 u.2) []∧
   Cc E' w' (Bj.mk id c.outs.A9 u.2) id c.outs.Ai u.1 [x]∧ ∀i,i<c.ins.A9.length→alive c.outs.A9 i=true→E'.BR i=E.BR i∧E'.BT i=E.BT i
theorem JA:∀x:AV,Ap [] x=x
 | .ref b (s::p)=>by simp[Ap]
 | .ref b []=>rfl
 | .win b (s::p) i n=>by simp[Ap]
 | .win b [] i n=>rfl
 | .Bl b (s::p) i sz j=>by simp[Ap]
 | .Bl b [] i sz j=>rfl
 | .v _ _=>rfl
 | .sl _ _ _=>rfl
 | .nil=>rfl
 | .BS _ _=>rfl
 | .Cn _ _ _ _=>rfl
 | .fn _ _=>rfl
 | .M3 _ _=>rfl
 | .Om=>rfl
 | .undef=>rfl
theorem F9:Ap []=id:=funext JA
theorem ND:∀x:XV,EK [] x=x
 | .c x=>by simp[EK,JA]
 | .agg l=>by simp[EK,F9]
 | .D6 l=>by
  simp only[EK,F9];congr 1
  conv=>rhs;rw[←List.map_id l]
  apply aY;intro x _;cases x with
  |inl x=>simp
  |inr q=>simp
theorem MK(m:DB)(σ:St):(σ.FK m).tm=σ.tm.map (EK m):=by
 cases m with
 |nil=>
  simp only[St.FK];have:EK []=id:=funext ND;rw[this,List.map_id]
 |cons _ _=>rfl
theorem QM(m:DB)(σ:St):(σ.FK m).bx=σ.bx.map (Bx.map (Ap m)):=by
 cases m with
 |nil=>simp only[St.FK];rw[F9,GH]
 |cons _ _=>
  simp only[St.FK];apply aY;intro B _;cases B<;>rfl
theorem He(f:AV→AV):∀(m:DB) (bx:List Bx),AN (bx.map (Bx.map f)) m=(AN bx m).map (Bx.map f)
 |[],_=>rfl
 |none::m,bx=>by simp only[AN];exact He f m bx
 |some b::m,bx=>by
  simp only[AN];rw[←He f m (bx.set b .dead),List.map_set];rfl
theorem DQ:∀{m:DB} {bx:List Bx} {b:Nat},some b∉m→(AN bx m)[b]? =bx[b]?
 |[],_,_,_=>rfl
 |none::m,bx,b,h=>by simp only[AN];exact DQ (by simpa using h)
 |some c::m,bx,b,h=>by
  simp only[AN];rw[DQ (by simp at h;exact h.2),ZZ (by simp at h;omega)]
theorem P1{E E':Env}{w w':World}{vw vw':List Bx}{m:DB}(k:D5 E w vw E' w' (AN vw' m))
  (hb:∀b d' r rows',some b∈m→vw'[b]? =some (.sl d' r rows')→ ∃d rows,vw[b]? =some (.sl d r rows)∧List.length rows' =List.length rows∧E'.BT b=E.BT b) (hlen:vw.length≤vw'.length) {x:AV} {v:Value} (h:VR E w vw x v):VR E' w' vw' (Ap m x) v:=by
 have h1:=A3 k h;have F6:∀{b'},some b'∉m→(AN vw' m)[b']? =vw'[b']?:=fun e=>DQ e
 have get:∀{b'},b'<vw.length→ ∃B,vw'[b']? =some B:=fun hl=>⟨_,ZT (by omega)⟩
 cases x with
 |v t x=>exact h1
 |sl s r x=>exact h1
 |nil=>exact h1
 |BS c j=>exact⟨by simpa[BL]using h1.1,h1.2⟩
 |Cn s r x j=>exact h1
 |fn f Bu=>exact⟨fun c hc=>by simpa[BL]using h1.1 c hc,h1.2⟩
 |M3 f rows=>exact h1
 |Om=>exact h1
 |undef=>trivial
 |ref c p=>
  have other:some c∉m→VR E' w' vw' (.ref c p) v:=fun e=>by
   simp only[VR,F6 e]at h1⊢;exact h1
  cases p with
  |nil=>
   simp only[Ap];by_cases e:some c∈m
   ·simp only[VR]at h⊢
    obtain⟨h0,h⟩:=h;refine⟨h0,?_⟩;cases hc:vw[c]? with
    |none=>rw[hc]at h;exact h.elim
    |some B=>
     obtain⟨B',D2⟩:=get (ZS.1 hc).1;rw[D2];cases B' with
     |mem cs=>trivial
     |dead=>trivial
     |sl d' r rows' =>
      obtain⟨d,rows,e1,e2,e3⟩:=hb c d' r rows' e D2;rw[e1]at h;refine⟨by simp[AW],⟨_,rfl⟩,?_⟩;have:=h.2.2;rw[AO]at this⊢;rw[e3];exact this
   ·exact other e
  |cons s p=>
   simp only[Ap];split
   ·trivial
   ·rename_i e
    exact other (by simpa using e)
 |win c p off n=>
  have other:some c∉m→VR E' w' vw' (.win c p off n) v:=fun e=>by
   simp only[VR,F6 e]at h1⊢;exact h1
  cases p with
  |nil=>
   simp only[Ap];by_cases e:some c∈m
   ·simp only[VR]at h⊢
    obtain⟨h0,h⟩:=h;refine⟨h0,?_⟩;cases hc:vw[c]? with
    |none=>rw[hc]at h;exact h.elim
    |some B=>
     obtain⟨B',D2⟩:=get (ZS.1 hc).1;rw[D2];cases B' with
     |mem cs=>trivial
     |dead=>trivial
     |sl d' r rows' =>
      obtain⟨d,rows,e1,e2,e3⟩:=hb c d' r rows' e D2;rw[e1]at h;obtain⟨_,q,ys,a,len,cap,g1,g2,g3,g4⟩:=h;simp only[A8,ZU,Zc]at g1;obtain⟨rfl,g1⟩:=g1;obtain rfl:=Zw g1;rw[AO]at g3;exact⟨by simp[AW],r,rows',a,len,cap,rfl,by rw[e2];exact g2,by rw[AO,e3];exact g3,g4⟩
   ·exact other e
  |cons s p=>
   simp only[Ap];split
   ·trivial
   ·rename_i e
    exact other (by simpa using e)
 |Bl c p i sz j=>
  have other:some c∉m→VR E' w' vw' (.Bl c p i sz j) v:=fun e=>by
   simp only[VR,F6 e]at h1⊢;exact h1
  cases p with
  |nil=>
   simp only[Ap];by_cases e:some c∈m
   ·simp only[VR]at h⊢
    obtain⟨h0,h⟩:=h;refine⟨h0,?_⟩;cases hc:vw[c]? with
    |none=>rw[hc]at h;exact h.elim
    |some B=>
     obtain⟨B',D2⟩:=get (ZS.1 hc).1;rw[D2];cases B' with
     |mem cs=>trivial
     |dead=>trivial
     |sl d' r rows' =>
      obtain⟨d,rows,e1,e2,e3⟩:=hb c d' r rows' e D2;rw[e1]at h;obtain⟨_,q,ys,bb,o,len,cap,g1,g2,g3,g4⟩:=h;simp only[A8,ZU,Zc]at g1;obtain⟨rfl,g1⟩:=g1;obtain rfl:=Zw g1;rw[AO]at g3;exact⟨by simp[AW],r,rows',bb,o,len,cap,rfl,by rw[e2];exact g2,by rw[AO,e3];exact g3,g4⟩
   ·exact other e
  |cons s p=>
   simp only[Ap];split
   ·trivial
   ·rename_i e
    exact other (by simpa using e)
theorem P5{E E':Env}{w w':World}{vw vw':List Bx}{m:DB}(k:∀x v,VR E w vw x v→VR E' w' vw' (Ap m x) v){x:XV}{v:Value}(h:XR E w vw x v):XR E' w' vw' (EK m x) v:=by
 cases x with
 |c x=>exact k x v h
 |agg l=>
  obtain⟨vs,rfl,FB⟩:=h;exact⟨vs,rfl,AJ.CE _ k FB⟩
 |D6 l=>
  obtain⟨vs,rfl,FB⟩:=h;refine⟨vs,rfl,AJ.CE _ (fun x v hx=> ?_) FB⟩;cases x with
  |inl x=>exact k x v hx
  |inr q=>
   obtain⟨us,rfl,hus⟩:=hx;exact⟨us,rfl,AJ.CE _ k hus⟩
def CJ(Bt:Nat→Nat):Nat→List Bx→List Bx→List Bx
 |_,[],bx=>bx
 |i,B::l,bx=>CJ Bt (i+1) l (if Bt i<bx.length then bx.set (Bt i) B else bx++[B])
theorem Jw(Bt:Nat→Nat):∀(i:Nat) (l:List BP) (x:Bj.V l) (bx:List Bx),GS Bt i l x bx=CJ Bt i (Bj.mk Bt l x) bx
 |_,[],_,_=>rfl
 |i,p::l,x,bx=>by simp only[GS,Bj.mk,CJ];exact Jw Bt (i+1) l x.2 _
structure OD (Bt:Nat→Nat) (M N:Nat):Prop where
 lt:∀k,k<M→Bt k<N
 eq:∀k,M≤k→Bt k=N+(k-M)
 inj:∀k k',k<M→k'<M→Bt k=Bt k'→k=k'
theorem OD.Ui{Bt:Nat→Nat}{M N:Nat}(h:OD Bt M N){k k':Nat}(e:Bt k=Bt k'):k=k':=by
 by_cases h1:k<M
 ·by_cases h2:k'<M
  ·exact h.inj k k' h1 h2 e
  ·have:=h.lt k h1
   have:=h.eq k' (by omega);omega
 ·by_cases h2:k'<M
  ·have:=h.lt k' h2
   have:=h.eq k (by omega);omega
  ·have:=h.eq k (by omega)
   have:=h.eq k' (by omega);omega
theorem H3{Bt:Nat→Nat}{M N:Nat}(h:OD Bt M N):∀{l:List Bx} {i:Nat} {bx:List Bx},bx.length=N+(i-M)→
  (CJ Bt i l bx).length=N+(i+l.length-M)∧(∀(j:Nat) B,l[j]? =some B→(CJ Bt i l bx)[Bt (i+j)]? =some B)∧
   ∀n,n<bx.length→(∀j,j<l.length→Bt (i+j)≠n)→(CJ Bt i l bx)[n]? =bx[n]?
 |[],i,bx,hl=>⟨by simpa[CJ]using hl,fun j B hj=>by simp at hj,fun _ _ _=>rfl⟩
 |B::l,i,bx,hl=>by
  simp only[CJ];have GU:(if Bt i<bx.length then bx.set (Bt i) B else bx++[B]).length=N+(i+1-M):=by
   split
   ·rename_i CK
    by_cases hi:i<M
    ·simp;omega
    ·have:=h.eq i (by omega);omega
   ·rename_i CK
    by_cases hi:i<M
    ·have:=h.lt i hi;omega
    ·simp;omega
  have Fo:(if Bt i<bx.length then bx.set (Bt i) B else bx++[B])[Bt i]? =some B:=by
   split
   ·rename_i CK;rw[Zd CK]
   ·rename_i CK
    by_cases hi:i<M
    ·have:=h.lt i hi;omega
    ·have:=h.eq i (by omega)
     rw[Zf (by omega),show Bt i-bx.length=0 by omega];rfl
  obtain⟨q1,q2,q3⟩:=H3 h (l:=l) GU;refine⟨by rw[q1];simp;omega,fun j C hj=> ?_,fun n hn Hm=> ?_⟩
  ·cases j with
   |zero=>
    simp at hj;subst hj;exact(q3 (Bt i) (ZS.1 Fo).1 (fun j hj e=>by have:=h.Ui e;omega)).trans Fo
   |succ j=>
    have:=q2 j C (by simpa using hj)
    rwa [show i+1+j=i+(j+1)by omega]at this
  ·have Uv:=Hm 0 (by simp)
   rw[aP]at Uv;rw[q3 n (by split<;>simp<;>omega) (fun j hj=>by have:=Hm (j+1) (by simp;omega);rwa [show i+(j+1)=i+1+j by omega]at this)];split
   ·rw[ZZ Uv]
   ·rw[ZX hn]
theorem HF{Bt:Nat→Nat}{M N:Nat}(h:OD Bt M N){E:Env}{w:World}{vw:List Bx}:∀{l:List Bx} {i:Nat} {bx:List Bx} {Fs:List ZD},bx.length=N+(i-M)→(∀k,i≤k→k<M→bx[Bt k]? =some .dead)→
  Fs.length=l.length→(∀(j:Nat) B F,l[j]? =some B→Fs[j]? =some F→Kj E w vw (Bt (i+j)) B F)→AQ E w vw bx Fs.flatten→AQ E w vw (CJ Bt i l bx) []
 |[],i,bx,Fs,hl,hd,hF,hB,Ip=>by
  have:Fs=[]:=Zm hF;subst this;simpa[CJ]using Ip
 |B::l,i,bx,F::Fs,hl,hd,hF,hB,Ip=>by
  simp only[CJ];have VQ:=hB 0 B F rfl rfl;rw[aP]at VQ;have next:∀{DN},DN.length=N+(i+1-M)→(∀k,i+1≤k→k<M→DN[Bt k]? =some .dead)→AQ E w vw DN Fs.flatten→AQ E w vw (CJ Bt (i+1) l DN) []:=by
   intro DN h1 h2 h3;refine HF h h1 h2 (by simpa using hF) (fun j C G hC hG=> ?_) h3;have:=hB (j+1) C G (by simpa using hC) (by simpa using hG)
   rwa [show i+(j+1)=i+1+j by omega]at this
  rw[Z2]at Ip;by_cases hi:i<M
  ·have CK:=h.lt i hi
   rw[Zn (by omega)];refine next (by simp;omega) (fun k Vs SM=> ?_) (Ip.put (hd i (Zx _) hi) VQ);rw[ZZ (fun e=>by have:=h.Ui e;omega)];exact hd k (by omega) SM
  ·have heq:=h.eq i (by omega)
   rw[Zp (by omega)];have e1:Bt i=bx.length:=by omega
   rw[e1]at VQ;exact next (by simp;omega) (fun k Vs SM=>by omega) (Ip.push VQ)
 |_::_,_,_,[],_,_,hF,_,_=>by simp at hF
structure NH (E' E2:Env) (l:List BP) (u:Bj.V l) (RL:List Bx) (Bt:Nat→Nat):Prop where
 ids:∀i,alive l i=true→E2.BR (Bt i)=E'.BR i∧E2.BT (Bt i)=E'.BT i
 bx:∀(i:Nat) p,l[i]? =some p→ ∃y,(Bj.mk id l u)[i]? =some (p.mk id y)∧RL[Bt i]? =some (p.mk Bt y)
 S:E2.S=E'.S
theorem Gj(Bt:Nat→Nat):∀{l:List BP} {u:Bj.V l} {i:Nat} {p:BP},l[i]? =some p→ ∃y:p.V,(Bj.mk id l u)[i]? =some (p.mk id y)∧(Bj.mk Bt l u)[i]? =some (p.mk Bt y)
 |q::l,u,0,p,h=>by
  simp at h;subst h;exact⟨u.1,rfl,rfl⟩
 |q::l,u,i+1,p,h=>by
  obtain⟨y,h1,h2⟩:=Gj Bt (u:=u.2) (i:=i) (by simpa using h);exact⟨y,by simpa[Bj.mk]using h1,by simpa[Bj.mk]using h2⟩
 |[],_,_,_,h=>by simp at h
theorem EF(Bt:Nat→Nat):∀{l:List BP} {u:Bj.V l},(Bj.mk Bt l u).length=l.length
 |[],_=>rfl
 |_::l,u=>by simp[Bj.mk,EF Bt (l:=l)]
section
variable{E' E2:Env} {w:World} {l:List BP} {u:Bj.V l} {RL:List Bx} {Bt:Nat→Nat} (r:NH E' E2 l u RL Bt)
include r
omit r in
theorem Mi{i:Nat}(h:alive l i=true):∃p,l[i]? =some p∧p≠ .gone:=by
 unfold alive at h;cases e:l[i]? with
 |none=>rw[e]at h;cases h
 |some p=>
  refine⟨p,rfl,fun hp=> ?_⟩;rw[e,hp]at h;cases h
theorem Ou{p:AP}{y:p.V}{v:Value}(EX:p.Ci l=true)(h:VR E' w (Bj.mk id l u) (p.mk id y) v):VR E2 w RL (p.mk Bt y) v:=by
 cases p with
 |v t=>exact h
 |sl s q=>
  simp only[AP.Ci]at EX;subst EX;simp only[AP.mk,VR,an]at h⊢;rw[r.S];exact h
 |nil=>exact h
 |ref i=>
  simp only[AP.Ci,Zs]at EX;obtain⟨p,hp⟩:∃p,l[i]? =some p:=⟨_,ZT EX⟩;obtain⟨z,z1,z2⟩:=r.bx i p hp;simp only[AP.mk,VR,id]at h⊢;refine⟨h.1,?_⟩;have h2:=h.2;rw[z1]at h2;rw[z2];cases p with
  |mem q=>trivial
  |gone=>trivial
  |sl d q=>
   have hid:=(r.ids i (by simp[alive,hp])).2;simp only[BP.mk]at h2⊢;refine⟨h2.1,h2.2.1,?_⟩;rw[hid];exact h2.2.2
 |ptr i j=>
  simp only[AP.Ci]at EX;obtain⟨p,hp,hg⟩:=Mi EX;obtain⟨z,z1,z2⟩:=r.bx i p hp;refine⟨(ZS.1 z2).1,?_⟩;rw[(r.ids i EX).1];exact h.2
 |Nn q=>simp[AP.Ci]at EX
 |JJ i sz=>simp[AP.Ci]at EX
 |M3 f rs=>simp[AP.Ci]at EX
 |fn f Bu=>
  simp only[AP.Ci,aI]at EX;obtain⟨h1,h2⟩:=h;refine⟨fun b hb=> ?_,?_⟩
  ·obtain⟨i,hi,rfl⟩:=List.mem_map.1 hb
   obtain⟨p,hp,_⟩:=Mi (EX i hi);obtain⟨z,_,z2⟩:=r.bx i p hp;exact(ZS.1 z2).1
  ·rw[h2,bF]
   congr 2
   rw[bF];apply aY;intro i hi;simp only[Function.comp,id,(r.ids i (EX i hi)).1]
 |any=>trivial
theorem Ka:∀{q:List AP} {y:FW.V q} {vs:List Value},q.all (AP.Ci l)=true→Ir E' w (Bj.mk id l u) (FW.mk id q y) vs→Ir E2 w RL (FW.mk Bt q y) vs
 |[],_,[],_,_=>trivial
 |[],_,_::_,_,h=>h.elim
 |p::q,y,[],_,h=>h.elim
 |p::q,y,v::vs,EX,h=>by
  simp only[List.all_cons,Zg]at EX;exact⟨Ou r EX.1 h.1,Ka EX.2 h.2⟩
theorem NF:∀{q:List (AP ⊕ List AP)} {y:Fc.V q} {vs:List Value},(q.all fun| .inl p=>p.Ci l| .inr q=>q.all (AP.Ci l))=true→AJ (TR E' w (Bj.mk id l u)) (Fc.mk id q y) vs→AJ (TR E2 w RL) (Fc.mk Bt q y) vs
 |[],_,[],_,_=>trivial
 |[],_,_::_,_,h=>h.elim
 | .inl p::q,y,[],_,h=>h.elim
 | .inr p::q,y,[],_,h=>h.elim
 | .inl p::q,y,v::vs,EX,h=>by
  simp only[List.all_cons,Zg]at EX;exact⟨Ou r EX.1 h.1,NF EX.2 h.2⟩
 | .inr p::q,y,v::vs,EX,h=>by
  simp only[List.all_cons,Zg]at EX;obtain⟨us,e,hus⟩:=h.1;exact⟨⟨us,e,Ka r EX.1 hus⟩,NF EX.2 h.2⟩
theorem Ti{p:XP}{y:p.V}{v:Value}(EX:p.Ci l=true)(h:XR E' w (Bj.mk id l u) (p.mk id y) v):XR E2 w RL (p.mk Bt y) v:=by
 cases p with
 |c p=>exact Ou r EX h
 |agg q=>
  obtain⟨vs,e,FB⟩:=h;exact⟨vs,e,Ka r EX FB⟩
 |row q=>simp[XP.Ci]at EX
 |D6 q=>
  obtain⟨vs,e,FB⟩:=h;exact⟨vs,e,NF r EX FB⟩
theorem Td{i:Nat}{p:BP}{y:p.V}{F:ZD}(hi:l[i]? =some p)(EX:p.Ci l=true)(h:Kj E' w (Bj.mk id l u) i (p.mk id y) F):Kj E2 w RL (Bt i) (p.mk Bt y) F:=by
 cases p with
 |mem q=>
  obtain⟨h1,arr,ty,fr,h2,h3,h4⟩:=h;have hid:=(r.ids i (by simp[alive,hi])).1;exact⟨by rw[hid];exact h1,arr,ty,fr,by rw[hid];exact h2,h3,Ka r EX h4⟩
 |sl d q=>
  obtain⟨h1,h2⟩:=h;refine⟨h1,?_⟩;rw[(r.ids i (by simp[alive,hi])).2,r.S];exact h2
 |gone=>exact h
end
end Go.Fw
end
section
namespace Go.Fw
theorem NX{s:C0}{N:Nat}{m0 m:DB}{tm:List XV}{bx:List Bx}{x:s.V}(e:s.fit N m0 tm bx=some (x,m)):∀(k:Nat) p,s.A9[k]? =some p→p≠ .gone→ ∃b B,m[k]? =some (some b)∧bx[b]? =some B∧B≠ .dead∧
  ∀d r,p= .sl d r→ ∃d' rows,B= .sl d' r rows:=by
 simp only[C0.fit,ZW,ZV]at e;obtain⟨m1,e1,m2,e2,a,e3,c,e4,e5⟩:=e;cases e5;obtain⟨q1,q2⟩:=Dr (Bt:=id) e4;intro k p hp hg;obtain⟨y,_,h⟩:=q2 k p hp;cases p with
 |gone=>exact absurd rfl hg
 |mem q=>
  obtain⟨b,cs,h1,h2,_⟩:=h;exact⟨b,_,h1,h2,by simp,fun d r hh=>by cases hh⟩
 |sl d r=>
  obtain⟨b,d',h1,h2,_⟩:=h;exact⟨b,_,h1,h2,by simp,fun d r hh=>by cases hh;exact⟨d',y,rfl⟩⟩
theorem Qx(n:Nat):K3 (List.replicate n none):=fun i j b h=>by
 simp[List.getElem?_replicate]at h
theorem Oq{w:World}{B B':Nat→Prop}{w':World}{r:Ty}{v:Value}{x y:List r.D}(h:Rd w B (.sl r) [v] x)(h':Rd w' B' (.sl r) [v] y):y.length=x.length:=by
 simp only[Rd]at h h';obtain⟨_,_,e,_⟩:=h;obtain⟨_,_,e',_⟩:=h';rw[e]at e';simp only[Zo,Value.slice.injEq,Z_]at e';exact e'.2.1.symm
section
variable{Y:Type} {P:Program} {E:Env} {σ:St} {a:Act} {w:World} {k:K Y} {y:Y}
theorem L7{E' E2:Env}{l:List BP}{u:Bj.V l}{RL:List Bx}{Bt:Nat→Nat}(r:NH E' E2 l u RL Bt):∀{sl:List (Nat×XP)} {z:A5.V sl} {x:Value},
  Kw l sl=true→Cc E' w (Bj.mk id l u) id sl z [x]→XR E2 w RL (Hk sl z Bt) x
 |[(0,p)],z,x,EX,h=>by
  obtain⟨⟨v,hv,hx⟩,_⟩:=h;simp at hv;subst hv;exact Ti r EX hx
 |[],_,_,EX,_=>by simp[Kw]at EX
 |(_+1,_)::_,_,_,EX,_=>by simp[Kw]at EX
 |(0,_)::_::_,_,_,EX,_=>by simp[Kw]at EX
def Ex(c:FX)(xs:List XV)(σ:St):ZD:=
 match c.ins.fit σ.bx.length c.ins.m0 xs (c.ins.opens σ.bx)with
 |some (_,m)=>m.filterMap id
 |none=>[]
theorem MX(h:Rel E σ a w)(s:C0):∃E',Rel E' { σ with bx:=s.opens σ.bx } a w∧DZ [] E σ.bx w E' (s.opens σ.bx) w∧(∀(i:Nat) d r,s.A9[i]? =some (.sl d r)→E'.BT (σ.bx.length+i)= .slice none 0 0)∧
  (∀x v,XR E w σ.bx x v→XR E' w (s.opens σ.bx) x v):=by
 let E':Env:={ E with BT:=fun k=>if k<σ.bx.length then E.BT k else .slice none 0 0 }
 have hlen:σ.bx.length≤(s.opens σ.bx).length:=by simp[C0.opens]
 have hold:∀b,b<σ.bx.length→(s.opens σ.bx)[b]? =σ.bx[b]?:=fun b hb=>by simp only[C0.opens];rw[ZX hb]
 have HX:∀b,b<σ.bx.length→E'.BT b=E.BT b:=fun b hb=>by simp only[E'];rw[Zn hb]
 have keep:D5 E w σ.bx E' w (s.opens σ.bx):=
  ⟨hlen,fun _ _=>rfl,fun _ h=>h,fun _ h=>h,h.bx.st,fun _ _=>rfl,fun b d r rows hb e=>⟨d,rows,by rw[←hold b hb];exact e,fun p hp q ys hg=>⟨hp,⟨ys,hg,rfl⟩,fun hh he=>by rw[HX b hb];exact he⟩⟩⟩
 obtain⟨Fs,⟨f1,f2⟩,f3⟩:=h.bx;refine⟨E',⟨h.Cg,h.tm.imp fun _ _ hx=>C2 keep hx,?_⟩,?_,fun i d r hi=>by simp only[E'];rw[Zp (by omega)],fun x v hx=>C2 keep hx⟩
 ·refine⟨Fs++List.replicate s.A9.length [],⟨by simp[C0.opens,f1],fun n B F hB hF=> ?_⟩,?_⟩
  ·by_cases hn:n<σ.bx.length
   ·rw[hold n hn]at hB
    rw[ZX (by omega)]at hF;have:=f2 n B F hB hF;cases B with
    |mem cs=>
     obtain⟨rfl,arr,ty,fr,a1,a2,a3⟩:=this;exact⟨rfl,arr,ty,fr,a1,a2,a3.imp fun _ _ hv=>A3 keep hv⟩
    |sl d r rows=>exact⟨this.1,by rw[HX n hn];exact this.2⟩
    |dead=>exact this
   ·rw[Zf (by omega)]at hF
    have VL:F=[]:=aC (Zb hF);subst VL;simp only[C0.opens]at hB;rw[Zf (by omega),Zy,ZV]at hB;obtain⟨p,_,rfl⟩:=hB;have hh:E'.BT n= .slice none 0 0:=by simp only[E'];rw[Zp hn]
    cases p with
    |mem q=>rfl
    |gone=>rfl
    |sl d r=>exact⟨by omega,by rw[hh];exact Ld⟩
  ·have:(Fs++List.replicate s.A9.length []).flatten=Fs.flatten:=by simp
   rw[this];exact⟨f3.nodup,f3.free,f3.lt,f3.st,f3.HU,f3.NY.mono (fun _ h=>h) (fun _ _=>rfl)⟩
 ·refine⟨⟨fun _ h=>h,fun _ h=>h,fun _ h=> .inl h,fun _ h=> .inl h,fun _ _=>rfl,rfl,rfl,rfl,Zx _⟩,hlen,fun b hb=>⟨rfl,HX b hb⟩,fun b hb=> ?_,fun n B B' _ hB D2 hd=> ?_⟩
  ·rw[hold b (ZS.1 hb).1];exact hb
  ·rw[hold n (ZS.1 hB).1,hB]at D2
   cases D2;exact⟨EZ.refl hd,fun _ _=>rfl⟩
theorem DZ.after{t:ZD}{E E' Qp:Env}{bx DN Ua:List Bx}{w w':World}(h:DZ [] E bx w E' DN w)(hb:∀b,b<bx.length→DN[b]? =bx[b]?)(k:DZ t E' DN w Qp Ua w'):DZ t E bx w Qp Ua w':=
 ⟨h.base.trans k.base,ai h.len k.len,fun b CK=>⟨(k.ids b (Z0 CK h.len)).1.trans (h.ids b CK).1,(k.ids b (Z0 CK h.len)).2.trans (h.ids b CK).2⟩,fun b hd=>k.dead b (h.dead b hd),fun n B B' hn hB D2 hd=>by
  have CK:=(ZS.1 hB).1;obtain⟨k1,k2⟩:=k.frame n B B' hn (by rw[hb n CK];exact hB) D2 hd;refine⟨k1,fun c hc=>k2 c ?_⟩;cases B with
  |mem cs=>simp only[Ob]at hc⊢;rw[(h.ids n CK).1];exact hc
  |sl d r rows=>simp only[Ob]at hc⊢;rw[(h.ids n CK).2];exact hc
  |dead=>exact hc⟩
def Sb(c:FX)(N:Nat)(xs:List XV)(σ:St)(k:K Y):Option Y:=
 match c.ins.fit N c.ins.m0 xs σ.bx with
 |some (v,m)=>(c.g v).bind fun u=>
  let Bt:=Fi m σ.bx.length
  let σ1:=σ.FK m
  k (Hk c.outs.Ai u.1 Bt) { σ1 with bx:=GS Bt 0 c.outs.A9 u.2 (AN σ1.bx m) }
 |none=>none
def O5(c:FX)(N:Nat)(xs:List XV)(σ:St):ZD:=
 match c.ins.fit N c.ins.m0 xs σ.bx with
 |some (_,m)=>m.filterMap id
 |none=>[]
theorem O0{f:Nat}{c:FX}(hc:Cz P f c)(h:Rel E σ a w){N0:Nat}(Oi:∀(i:Nat) d r,c.ins.A9[i]? =some (.sl d r)→E.BT (N0+i)= .slice none 0 0){xs:List XV}{vs:List Value}(Tl:AJ (XR E w σ.bx) xs vs)(hlen:xs.length=c.ins.Ai.length)(e:Sb c N0 xs σ k=some y):
  Calls P f vs.toArray w fun e w' => ∃x E' xv σ',e= .returned x∧Rel E' σ' a w'∧XR E' w' σ'.bx xv x∧DZ (O5 c N0 xs σ) E σ.bx w E' σ'.bx w'∧σ'.tm.length=σ.tm.length∧k xv σ' =some y:=by
 obtain⟨EX,_,MQ⟩:=hc;simp only[FX.ok,Zg]at EX;obtain⟨⟨hk,hslot⟩,hbo⟩:=EX;obtain⟨hklen,hk⟩:=FF hk;unfold Sb at e;split at e
 case h_2=>cases e
 rename_i v m GR;simp only[ZW]at e;obtain⟨u,hg,e⟩:=e;obtain⟨_,E1,hf⟩:=Jg h.bx Tl Oi (by simp[C0.m0]) (Qx _) GR;have CO:vs.toArray.size=c.ins.Ai.length:=by rw[←hlen,AJ.len Tl];simp
 refine(MQ E1 w v vs.toArray u CO hf.boxes (by simpa using hf.Ai) hg).mono fun e' w' hR=> ?_
 obtain⟨x,E',rfl,base,⟨Fs,hFs1,hFs2⟩,Ai,Ng⟩:=hR;simp only[Zu]at hFs2;obtain⟨Fk,k1,k2,k3,k4⟩:=hf.rest;have st:=h.bx.st;have HU:=h.bx.HU;have hM:m.length=c.ins.A9.length:=hf.len;have all:∀i,i<m.length→ ∃b B,m[i]? =some (some b)∧σ.bx[b]? =some B∧B≠ .dead∧ ∀d r,c.ins.A9[i]? =some (.sl d r)→ ∃d' rows,B= .sl d' r rows:=by
  intro i hi;have hp:c.ins.A9[i]? =some (c.ins.A9[i]'(by omega)):=ZT _;obtain⟨b,B,h1,h2,h3,h4⟩:=NX GR i _ hp (hk i _ hp).1;exact⟨b,B,h1,h2,h3,fun d r hh=>h4 d r (by rw[hp]at hh;exact ah hh)⟩
 let N:=σ.bx.length
 let M:=m.length
 have O4:∀i b,m[i]? =some (some b)→Fi m N i=b:=fun i b h=>by simp[Fi,h]
 have Q5:∀i,M≤i→Fi m N i=N+(i-M):=fun i hi=>by
  have:m[i]? =none:=aU hi;simp[Fi,this,M]
 have ro:OD (Fi m N) M N:=⟨fun i hi=>by
   obtain⟨b,B,h1,h2,_⟩:=all i hi;rw[O4 i b h1];exact(ZS.1 h2).1,Q5,fun i j hi hj e=>by
   obtain⟨b,B,h1,h2,_⟩:=all i hi;obtain⟨b',B',h1',Si,_⟩:=all j hj;rw[O4 i b h1,O4 j b' h1']at e;subst e;exact hf.inj i j b h1 h1'⟩
 let E2:Env:={
   BR:=fun n=>if n<N then E.BR n else E'.BR (M+(n-N))
   BT:=fun n=>if n<N then E.BT n else E'.BT (M+(n-N))
   T:=fun c=>E.T c∨E'.S c
   S:=E'.S }
 have hS:∀c,E.S c→E'.S c:=fun d hd=>base.S d (hf.S d hd)
 have Xt:∀d∈Fk.flatten,¬E'.S d:=fun d hd hs=>by
  obtain⟨_,n2,_,n4⟩:=k3 d hd;exact(base.Pe d hs).elim n2 (fun h=>h n4)
 have MJ:∀d,E.T d→w'.heap[d]? =w.heap[d]?:=fun d hd=>base.heap d (hf.T d hd)
 have RC:∀d∈Fk.flatten,w'.heap[d]? =w.heap[d]?:=fun d hd=>base.heap d (k3 d hd).2.2.2
 have UZ:Hw E w E2 w':=⟨fun d hd=> .inl hd,hS,fun d hd=>hd,fun d hd=>by
   rcases base.Pe d hd with h|h
   ·exact hf.Pe d h
   ·exact .inr fun ht=>h (hf.T d ht),MJ,base.os,base.tape,base.output,base.size⟩
 let vw':=Bj.mk id c.outs.A9 u.2
 let Bs:=Bj.mk (Fi m N) c.outs.A9 u.2
 let bk:=(AN σ.bx m).map (Bx.map (Ap m))
 have X3:AN (σ.FK m).bx m=bk:=by rw[QM,He]
 have UU:bk.length=N:=by simp[bk,BL,N]
 let GD:=CJ (Fi m N) 0 Bs bk
 have V8:GS (Fi m N) 0 c.outs.A9 u.2 (AN (σ.FK m).bx m)=GD:=by rw[Jw,X3]
 obtain⟨s1,s2,s3⟩:=H3 ro (l:=Bs) (i:=0) (bx:=bk) (by simp[UU]);have WS:Bs.length=c.outs.A9.length:=EF _;have Jy:σ.bx.length≤GD.length:=by
  show N≤GD.length
  have:GD.length=N+(0+Bs.length-M):=s1;omega
 have rn:NH E' E2 c.outs.A9 u.2 GD (Fi m N):=by
  refine⟨fun i hi=> ?_,fun i p hp=> ?_,rfl⟩
  ·by_cases him:i<M
   ·obtain⟨b,B,h1,h2,_⟩:=all i him
    have Rh:b<N:=(ZS.1 h2).1;have g1:=hf.ids i b h1;have g2:=Ng i (by omega) hi;rw[O4 i b h1];simp only[E2,Zn Rh];exact⟨by rw[g2.1,g1.1],by rw[g2.2,g1.2]⟩
   ·rw[Q5 i (by omega)]
    have: ¬(N+(i-M)<N):=by omega
    simp only[E2,Zp this];rw[show M+(N+(i-M)-N)=i by omega];exact⟨rfl,rfl⟩
  ·obtain⟨z,z1,z2⟩:=Gj (Fi m N) (u:=u.2) hp
   refine⟨z,z1,?_⟩;have:=s2 i _ z2
   rwa [aM]at this
 have Qg:∀n,n<N→some n∉m→GD[n]? =bk[n]?:=fun n hn hm=>by
  refine s3 n (by omega) fun j hj he=> ?_
  rw[aM]at he;by_cases hjm:j<M
  ·obtain⟨b,B,h1,h2,_⟩:=all j hjm
   rw[O4 j b h1]at he;subst he;exact hm (Zb h1)
  ·have:=Q5 j (by omega)
   omega
 have keep:D5 E w σ.bx E2 w' (AN GD m):=by
  refine⟨by rw[BL];exact Jy,fun b hb=>by simp only[E2];rw[Zn hb],fun d hd=> .inl hd,hS,st,MJ,fun b d r rows hb hq=> ?_⟩;have VI:some b∉m:=fun hm=>by have:=Ef hm hq;cases this
  rw[DQ VI,Qg b hb VI]at hq;have VB:=RF hq;have Yn:σ.bx[b]? =some (.sl d r rows):=by
   rcases Dn (Aq.refl σ.bx) b _ VB with e|e
   ·cases e
   ·exact e
  refine⟨d,rows,Yn,fun p hp q ys S4=>⟨hp,⟨ys,S4,rfl⟩,fun h' hh=> ?_⟩⟩;have UW:Fk[b]? =some (Fk[b]'(by rw[k1.1,BL];exact hb)):=ZT _;obtain⟨_,ho⟩:=k1.2 b _ _ VB UW;have e2:E2.BT b=E.BT b:=by simp only[E2];rw[Zn hb]
  rw[e2];exact NV ho (fun d hd=>MJ d (st d hd)) (fun d hd=>RC d (Zt.2 ⟨_,Zb UW,hd⟩)) hp S4 hh
 have vr:∀x v,VR E w σ.bx x v→VR E2 w' GD (Ap m x) v:=fun x v hx=>by
  refine P1 keep (fun b d' r rows' VI hq=> ?_) Jy hx;obtain⟨i,hi,him⟩:=aA VI;have Th:m[i]? =some (some b):=by rw[ZT hi,him]
  obtain⟨b',B,h1,h2,h3,h4⟩:=all i hi;rw[Th]at h1;cases h1;have Wp:i<c.outs.A9.length:=by omega
  have hp:c.outs.A9[i]? =some c.outs.A9[i]:=ZT Wp;obtain⟨z,z1,z2⟩:=rn.bx i _ hp;rw[O4 i b Th,hq]at z2;have T3:c.ins.A9[i]? =some (c.ins.A9[i]'(by omega)):=ZT _
  generalize c.outs.A9[i]=po at z hp z1 z2
  cases po with
  |mem q=>simp[BP.mk]at z2
  |gone=>simp[BP.mk]at z2
  |sl d0 q=>
   simp only[BP.mk,ZU,Bx.sl.injEq]at z2;obtain⟨rfl,rfl,z2⟩:=z2;obtain rfl:=Zw z2;obtain⟨d1,Ku⟩:=(hk i _ T3).2 _ _ hp;obtain⟨d2,rows,rfl⟩:=h4 d1 r (by rw[T3,Ku]);have Rh:b<N:=(ZS.1 h2).1;have eh:E2.BT b=E.BT b:=by simp only[E2];rw[Zn Rh]
   refine⟨d2,rows,h2,?_,eh⟩;obtain⟨F0,hR0,_⟩:=h.bx.take h2;have Yw:Fs[i]? =some (Fs[i]'(by rw[hFs1.1,EF];exact Wp)):=ZT _;obtain⟨_,QC⟩:=hFs1.2 i _ _ z1 Yw;have QF:alive c.outs.A9 i=true:=by simp[alive,hp]
   rw[(Ng i (by omega) QF).2,(hf.ids i b Th).2]at QC;exact Oq (Fb hR0.2) (Fb QC)
 have Es:c.outs.A9.all (BP.Ci c.outs.A9)=true:=hbo;have rel:Rel E2 { tm:=(σ.FK m).tm,bx:=GD } a w':=by
  refine⟨h.Cg,?_,?_⟩
  ·rw[MK]
   exact AJ.CE _ (fun x v hx=>P5 vr hx) h.tm
  ·refine HF ro (Fs:=Fs) (by simp[UU]) (fun i _ hi=> ?_) (by rw[hFs1.1,EF];exact WS.symm) (fun j B F hB hF=> ?_) ?_
   ·obtain⟨b,B,h1,h2,_⟩:=all i hi
    rw[O4 i b h1];have Rh:b<(AN σ.bx m).length:=by rw[BL];exact(ZS.1 h2).1
    have hd:(AN σ.bx m)[b]? =some .dead:=by
     rw[ZT Rh];exact congrArg some (Ef (Zb h1) (ZT Rh))
    simp only[bk];rw[Zy,hd];rfl
   ·rw[aM]
    have Qa:=(ZS.1 hB).1;have hp:c.outs.A9[j]? =some (c.outs.A9[j]'(by omega)):=ZT _;obtain⟨z,z1,z2⟩:=Gj (Fi m N) (u:=u.2) hp;have D2:Bs[j]? =_:=z2;rw[hB]at D2;cases D2;exact Td rn hp (aI.1 Es _ (aF _)) (hFs1.2 j _ _ z1 hF)
   ·
    refine⟨Fk,⟨by simp[bk,k1.1],fun n B F hn hF=> ?_⟩,?_⟩
    ·simp only[bk]at hn
     rw[Zy,ZV]at hn;obtain⟨B0,hn,rfl⟩:=hn;have Oa:n<N:=by have:=(ZS.1 hn).1;rwa [BL]at this
     have h3:=k1.2 n B0 F hn hF;have SW:∀d∈F,w'.heap[d]? =w.heap[d]?:=fun d hd=>RC d (Zt.2 ⟨F,Zb hF,hd⟩)
     have eb:E2.BR n=E.BR n:=by simp only[E2];rw[Zn Oa]
     have eh:E2.BT n=E.BT n:=by simp only[E2];rw[Zn Oa]
     cases B0 with
     |mem cs=>
      obtain⟨rfl,arr,ty,fr,ha,hu,hv⟩:=h3;exact⟨by rw[eb],arr,ty,fr,by rw[eb,SW _ (by simp),ha],hu,AJ.CE _ vr hv⟩
     |sl d r rows=>
      refine⟨h3.1,?_⟩;rw[eh];exact Ak hS (fun d hd=>MJ d (st d hd)) SW h3.2
     |dead=>exact h3
    ·refine⟨Za.2 ⟨k2,hFs2.nodup,fun x hx z hz he=> ?_⟩,fun d hd ht=> ?_,fun d hd=> ?_,fun d hd=> .inr hd,fun d hd=> ?_,h.bx.NY.mono (fun _ h=> .inl h) MJ⟩
     ·subst he
      exact hFs2.free x hz (base.T x (k3 x hx).2.2.2)
     ·rcases Zk.1 hd with hd|hd
      ·rcases ht with ht|ht
       ·exact(k3 d hd).1 ht
       ·exact Xt d hd ht
      ·rcases ht with ht|ht
       ·exact hFs2.free d hd (base.T d (hf.T d ht))
       ·exact hFs2.free d hd (hFs2.st d ht)
     ·rcases Zk.1 hd with hd|hd
      ·exact Z0 (k3 d hd).2.2.1 base.size
      ·exact hFs2.lt d hd
     ·rcases hd with hd|hd
      ·exact Z0 (HU d hd) base.size
      ·exact hFs2.HU d (hFs2.st d hd)
 have Rv:DZ (O5 c N0 xs σ) E σ.bx w E2 GD w':=by
  refine⟨UZ,Jy,fun n hn=>⟨by simp only[E2];rw[Zn hn],by simp only[E2];rw[Zn hn]⟩,fun n hn=> ?_,fun n B B' YE hB D2 Pt=> ?_⟩
  rotate_left 1
  ·have Oa:=(ZS.1 hB).1
   have TP:some n∉m:=fun hm=>YE (by
    simp only[O5,GR,List.mem_filterMap];exact⟨some n,hm,rfl⟩)
   rw[Qg n Oa TP]at D2;simp only[bk]at D2;have Wq:(AN σ.bx m)[n]? =some B:=by rw[DQ TP];exact hB
   rw[Zy,Wq]at D2;have D2:Bx.map (Ap m) B=B':=by simpa using D2
   have UW:Fk[n]? =some (Fk[n]'(by rw[k1.1,BL];exact Oa)):=ZT _;refine⟨?_,fun d hd=> ?_⟩
   ·subst D2
    cases B with
    |mem cs=>trivial
    |sl d r rows=>rfl
    |dead=>exact absurd rfl Pt
   ·rcases Ho (k1.2 n B _ Wq UW) hd with hs|hs
    ·exact MJ d (st d hs)
    ·exact RC d (Zt.2 ⟨_,Zb UW,hs⟩)
  have Oa:=(ZS.1 hn).1;have TP:some n∉m:=fun hm=>by
   obtain⟨i,hi,him⟩:=aA hm;obtain⟨b,B,h1,h2,h3,_⟩:=all i hi;rw[ZT hi,him]at h1;cases h1;rw[hn]at h2;cases h2;exact h3 rfl
  rw[Qg n Oa TP];simp only[bk];rw[Zy,DQ TP,hn];rfl
 refine⟨x,E2,Hk c.outs.Ai u.1 (Fi m N),{ tm:=(σ.FK m).tm,bx:=GD },rfl,rel,L7 rn hslot Ai,Rv,by simp[MK],?_⟩;rw[V8]at e;exact e
theorem P4{f:Nat}{c:FX}(hc:Cz P f c)(h:Rel E σ a w){xs:List XV}{vs:List Value}(Tl:AJ (XR E w σ.bx) xs vs)(e:J9 c xs σ k=some y):
  Calls P f vs.toArray w fun e w' => ∃x E' xv σ',e= .returned x∧Rel E' σ' a w'∧XR E' w' σ'.bx xv x∧DZ (Ex c xs σ) E σ.bx w E' σ'.bx w'∧σ'.tm.length=σ.tm.length∧k xv σ' =some y:=by
 unfold J9 at e;split at e
 case isFalse=>cases e
 rename_i hlen;obtain⟨E',h1,h2,h3,h4⟩:=MX h c.ins;have hold:∀b,b<σ.bx.length→(c.ins.opens σ.bx)[b]? =σ.bx[b]?:=fun b hb=>by simp only[C0.opens];rw[ZX hb]
 refine(O0 (N0:=σ.bx.length) hc h1 h3 (Tl.imp fun x v hx=>h4 x v hx) hlen (k:=k) (y:=y) e).mono fun e' w' hR=> ?_
 obtain⟨x,E2,xv,σ',q0,q1,q2,q3,q4,q5⟩:=hR;exact⟨x,E2,xv,σ',q0,q1,q2,h2.after hold q3,q4,q5⟩
end
end Go.Fw
end
section
namespace Go.Fw
def H_(P:Program)(Γ:Nat→Option FX):Prop:= ∀f c,Γ f=some c→Cz P f c
theorem MG{Γ:Nat→Option FX}{σ:St}{o:Op}(h:LU o=false):BZ (fun _=>none) σ o=BZ Γ σ o:=by
 cases o with
 |call c=>
  obtain⟨callee,args,L2⟩:=c;cases callee with
  |value f=>simp[LU]at h
  |invoke _ _=>rfl
  |builtin b=>cases b<;>rfl
 |_=>rfl
theorem UD{Y:Type}{P:Program}{Γ:Nat→Option FX}{o:Oper}{E:Env}{σ:St}{a:Act}{w:World}{k:K Y}{y:Y}{g:Nat}{c:FX}(SV:Cz P g c)(h:Rel E σ a w){f:Operand}{args:Array Operand}{L2:Array TypeId}
  (ho:o.op= .call { callee:= .value f,args:=args,argTypes:=L2 }) {ps:List Value} (GY:a.eval f= .func (.func g) #[] ps.toArray) {xs:List XV} (Bd:AJ (XR E w σ.bx) xs (args.toList.map a.eval++ps)) (ht:BZ Γ σ o.op=Ex c xs σ)
  (e:J9 c xs σ k=some y) {next:Act→World→Prop} {Q:Exit→Act→World→Prop}
  (hn:∀v w' E' x σ',Rel E' σ' a w'→XR E' w' σ'.bx x v→DZ (BZ Γ σ o.op) E σ.bx w E' σ'.bx w'→σ'.tm.length=σ.tm.length→k x σ' =some y→next (a.put o.dst v) w'):o.wp P a w next Q:=by
 have MQ:=P4 SV h Bd e;have Lu:(execOp a.eval o).run P w= .ok (.enter g (args.toList.map a.eval++ps).toArray) w:=by
  have e2:(args.map a.eval)++ps.toArray=(args.toList.map a.eval++ps).toArray:=by
   apply bJ;simp
  simp only[execOp,ho,resolve,GY,Deferred.ofValue,Sem.run_bind,Sem.run_pure,Result.andThen_ok,invoke,Array.empty_append,e2,SV.2.1]
 unfold Oper.wp;rw[Lu];simp only[Oper.upon];refine MQ.mono fun e w' hR=> ?_
 obtain⟨x,E',xv,σ',rfl,h1,h2,h3,h4,h5⟩:=hR;rw[←ht]at h3;exact hn x w' E' xv σ' h1 h2 h3 h4 h5
section
variable{Y:Type} {P:Program} {T:Bw} (hT:Av P T) {Γ:Nat→Option FX} (hΓ:H_ P Γ) {o:Oper} {E:Env} {σ:St} {a:Act} {w:World} {k:K Y} {y:Y}
include hT hΓ
theorem PZ(h:Rel E σ a w)(e:FC T Γ o σ k=some y){next:Act→World→Prop}{Q:Exit→Act→World→Prop}
  (hn:∀v w' E' x σ',Rel E' σ' a w'→XR E' w' σ'.bx x v→DZ (BZ Γ σ o.op) E σ.bx w E' σ'.bx w'→σ'.tm.length=σ.tm.length→k x σ' =some y→next (a.put o.dst v) w'):o.wp P a w next Q:=by
 by_cases hc:LU o.op=false
 ·obtain⟨v,w',E',x,σ',hr,h1,h2,h3,h4,h5⟩:=QK hT h e hc
  rw[MG hc]at h3;unfold Oper.wp;rcases hr with hr|⟨hr,rfl⟩
  ·rw[hr]
   exact hn v w' E' x σ' h1 h2 h3 h4 h5
  ·rw[hr]
   exact hn _ w' E' x σ' h1 h2 h3 h4 h5
 ·
  unfold LU at hc;split at hc
  case h_2=>simp at hc
  rename_i f args L2 ho;unfold FC at e;rw[ho]at e;dsimp only at e;split at e
  case h_3=>cases e
  ·rename_i g Bu hf
   split at e
   case h_2=>cases e
   rename_i c hg;have hv:=h.ev f;rw[hf]at hv;obtain⟨G7,GY⟩:(∀b∈Bu,b<σ.bx.length)∧a.eval f= .func (.func g) #[] (Bu.map fun b=>Value.pointer (some ⟨E.BR b,0,none⟩)).toArray:=hv;have SV:=hΓ g c hg;have Bd:AJ (XR E w σ.bx) (args.toList.map σ.ev++Bu.map fun b=> .c (.BS b 0)) (args.toList.map a.eval++Bu.map fun b=>Value.pointer (some ⟨E.BR b,0,none⟩)):=by
    refine AJ.append (VA h args.toList) ?_
    clear GY hf e
    induction Bu with
    |nil=>trivial
    |cons b l ih=>exact⟨⟨G7 b (by simp),rfl⟩,ih (fun c hc=>G7 c (by simp[hc]))⟩
   have ht:BZ Γ σ o.op=Ex c (args.toList.map σ.ev++Bu.map fun b=> .c (.BS b 0)) σ:=by
    rw[ho];simp only[BZ,hf,hg,Ex];rfl
   exact UD SV h ho GY Bd ht e hn
  ·rename_i g rows hf
   split at e
   case h_2=>cases e
   rename_i c hg;have hv:=h.ev f;rw[hf]at hv;obtain⟨ps,GY,G7⟩:∃ps:List Value,a.eval f= .func (.func g) #[] ps.toArray∧AJ (RA E w) rows ps:=hv;have SV:=hΓ g c hg;have Bd:AJ (XR E w σ.bx) (args.toList.map σ.ev++rows.map fun q=> .c (.Cn false q.1 q.2 0)) (args.toList.map a.eval++ps):=by
    refine AJ.append (VA h args.toList) ?_
    clear GY hf e
    induction rows generalizing ps with
    |nil=>
     cases ps with
     |nil=>trivial
     |cons _ _=>exact G7.elim
    |cons q l ih=>
     cases ps with
     |nil=>exact G7.elim
     |cons p ps=>
      obtain⟨⟨bb,o,cs,h1,h2,h3,h4,h5⟩,G7⟩:=G7;exact⟨⟨bb,o,cs,h1,h2,h3,h4,h5⟩,ih ps G7⟩
   have ht:BZ Γ σ o.op=Ex c (args.toList.map σ.ev++rows.map fun q=> .c (.Cn false q.1 q.2 0)) σ:=by
    rw[ho];simp only[BZ,hf,hg,Ex];rfl
   exact UD SV h ho GY Bd ht e hn
end
theorem Rel.tmp{E:Env}{σ:St}{a:Act}{w:World}(h:Rel E σ a w){t:Nat}{x:XV}(e:σ.tm[t]? =some x):∃v,a.tmps[t]? =some v∧XR E w σ.bx x v:=by
 obtain⟨v,h1,h2⟩:=h.tm.get e;exact⟨v,by simpa using h1,h2⟩
def TY:Value→Option Bool
 | .bool b=>some b
 |_=>none
theorem Gg{ops:Array Oper}{tmps:Array Value}{j t:Nat}(e:(ops[j]?).bind (·.dst)=some t){v:Value}(hv:tmps[t]? =some v):yielded ops tmps j=TY v:=by
 simp only[yielded,e,aE,hv];cases v<;>rfl
theorem LB{E:Env}{w:World}{vw:List Bx}:XR E w vw (.D6 []) undef:=⟨#[],rfl,trivial⟩
structure Ok (E0:Env) (w0:World) (N nb:Nat) (E:Env) (σ:St) (a:Act) (w:World):Prop where
 rel:Rel E σ a w
 base:Hw E0 w0 E w
 tm:σ.tm.length=N
 Lt:nb≤σ.bx.length
 ids:∀i,i<nb→σ.bx[i]?≠some .dead→E.BR i=E0.BR i∧E.BT i=E0.BT i
theorem Ok.next{E0 E E':Env}{w0 w w':World}{N nb:Nat}{σ σ':St}{a a':Act}{t:ZD}(h:Ok E0 w0 N nb E σ a w)(hr:Rel E' σ' a' w')(hw:DZ t E σ.bx w E' σ'.bx w')(hl:σ'.tm.length=σ.tm.length):Ok E0 w0 N nb E' σ' a' w':=
 ⟨hr,h.base.trans hw.base,hl.trans h.tm,ai h.Lt hw.len,fun i hi hd=>by
  have h1:=hw.ids i (Z0 hi h.Lt);have h2:=h.ids i hi (fun hh=>hd (hw.dead i hh));exact⟨h1.1.trans h2.1,h1.2.trans h2.2⟩⟩
theorem Ok.put{E0 E:Env}{w0 w:World}{N nb:Nat}{σ:St}{a:Act}(h:Ok E0 w0 N nb E σ a w)(dst:Option Tmp){x:XV}{v:Value}(hx:XR E w σ.bx x v):Ok E0 w0 N nb E (σ.put dst x) (a.put dst v) w:=by
 have e1:(σ.put dst x).bx=σ.bx:=by cases dst<;>rfl
 have e2:(σ.put dst x).tm.length=σ.tm.length:=by cases dst<;>simp[St.put]
 refine⟨h.rel.put dst hx,h.base,e2.trans h.tm,by rw[e1];exact h.Lt,fun i hi hd=>h.ids i hi (by rwa [e1]at hd)⟩
theorem Ok.same{E0 E:Env}{w0 w:World}{N nb:Nat}{σ σ1:St}{a:Act}(h:Ok E0 w0 N nb E σ a w)(hr:Rel E σ1 a w)(hb:σ1.bx=σ.bx)(hl:σ1.tm.length=σ.tm.length):Ok E0 w0 N nb E σ1 a w:=
 ⟨hr,h.base,hl.trans h.tm,by rw[hb];exact h.Lt,fun i hi hd=>h.ids i hi (by rwa [hb]at hd)⟩
end Go.Fw
end
section
namespace Go.Fw
section
variable{Y:Type}
abbrev k0:K (XV×St):=fun x σ=>some (x,σ)
theorem P2{op:BinOp}{κ:IntKind}{a b:Int}(k:AV→Option Y):H4 op κ a b k=(H4 op κ a b some).bind k:=by
 cases op<;>simp[H4]<;>split<;>rfl
theorem Jt{op:BinOp}{κ:IntKind}{a b:Int}(k:AV→Option Y):Ft op κ a b k=(Ft op κ a b some).bind k:=by
 unfold Ft;split
 ·rfl
 ·cases op<;>simp
theorem P3{op:BinOp}{a b:ZC}(k:AV→Option Y):I6 op a b k=(I6 op a b some).bind k:=by
 cases op<;>simp[I6]<;>split<;>rfl
theorem Lk{T:Bw}{t:Nat}{op:BinOp}{a b:XV}(k:AV→Option Y):OL T t op a b k=(OL T t op a b some).bind k:=by
 unfold OL;split
 ·split
  ·exact Jt k
  ·exact Jt k
  ·split
   ·exact P2 k
   ·rfl
 ·exact P3 k
 ·split
  ·split
   ·split<;>rfl
   ·rfl
  ·rfl
 ·split<;>rfl
 ·rfl
theorem NP{op:UnOp}{a:XV}(k:AV→Option Y):Sp op a k=(Sp op a some).bind k:=by
 unfold Sp;split<;>rfl
theorem GK{g:Bool}{a b:XV}(k:AV→Option Y):NK g a b k=(NK g a b some).bind k:=by
 unfold NK;split
 ·split
  ·cases g<;>rfl
  ·rfl
 ·rfl
theorem CC{len:Nat}{lo hi:Option XV}(k:Nat→Nat→Option Y):Cr len lo hi k=(Cr len lo hi fun l h=>some (l,h)).bind fun p=>k p.1 p.2:=by
 unfold Cr;dsimp only;split
 ·split<;>rfl
 ·rfl
theorem Oy{T:Bw}{t:Nat}{σ:St}{x:XV}{lo hi:Option XV}(k:K Y):JH T t σ x lo hi k=(JH T t σ x lo hi k0).bind fun p=>k p.1 p.2:=by
 unfold JH;split
 ·split
  ·rw[CC,CC (Y:=XV×St),Z3];rfl
  ·rfl
 ·split
  ·rw[CC,CC (Y:=XV×St),Z3];rfl
  ·rfl
 ·split
  ·split
   ·rw[CC,CC (Y:=XV×St),Z3];rfl
   ·rfl
  ·rfl
 ·rfl
theorem PI{T:Bw}{t:Nat}{σ:St}{x i:XV}(k:K Y):Ja σ T t x i k=(Ja σ T t x i k0).bind fun p=>k p.1 p.2:=by
 unfold Ja;split
 ·split
  ·split<;>rfl
  ·rfl
 ·split
  ·split
   ·split<;>rfl
   ·rfl
  ·rfl
 ·split
  ·split
   ·split<;>rfl
   ·rfl
  ·rfl
 ·rfl
theorem L3{T:Bw}{t:Nat}{σ:St}{x i:XV}(k:K Y):Ez T t σ x i k=(Ez T t σ x i k0).bind fun p=>k p.1 p.2:=by
 unfold Ez;split
 ·split
  ·split<;>rfl
  ·rfl
 ·rfl
theorem QW{T:Bw}{s d:Nat}{σ:St}{x:XV}(k:K Y):MU T s d σ x k=(MU T s d σ x k0).bind fun p=>k p.1 p.2:=by
 unfold MU;split
 ·rfl
 ·rfl
 ·split
  ·split<;>rfl
  ·rfl
 ·split<;>rfl
 ·rfl
theorem P0{T:Bw}{t:Nat}{σ:St}{l c:XV}(k:K Y):Mf T t σ l c k=(Mf T t σ l c k0).bind fun p=>k p.1 p.2:=by
 unfold Mf;split
 ·split
  ·split
   ·split<;>rfl
   ·rfl
  ·rfl
 ·rfl
theorem KK{T:Bw}{t n:Nat}{ps:List (Nat×XV)}{σ:St}(k:K Y):DW T t n ps σ k=(DW T t n ps σ k0).bind fun p=>k p.1 p.2:=by
 unfold DW;split
 ·split
  ·split
   ·rw[Z3];rfl
   ·rfl
  ·rfl
 ·rfl
theorem ON{T:Bw}{ts:Array TypeId}{σ:St}{a x:XV}(k:K Y):Hv T ts σ a x k=(Hv T ts σ a x k0).bind fun p=>k p.1 p.2:=by
 unfold Hv;split
 ·split
  ·split
   ·rw[Z3]
    congr 1;funext s
    split
    ·split<;>rfl
    ·rfl
   ·rw[Z3]
    congr 1;funext s
    split
    ·rw[Z3]
     congr 1;funext q
     rw[Z3];congr 1;funext z;split<;>rfl
    ·rfl
   ·rfl
  ·rfl
 ·rfl
theorem Oz{T:Bw}{ts:Array TypeId}{σ:St}{x:XV}(k:K Y):Jl T ts σ x k=(Jl T ts σ x k0).bind fun p=>k p.1 p.2:=by
 unfold Jl;split
 ·split
  ·split<;>rfl
  ·rfl
 ·rfl
theorem Ma{c:FX}{xs:List XV}{σ:St}(k:K Y):J9 c xs σ k=(J9 c xs σ k0).bind fun p=>k p.1 p.2:=by
 unfold J9;split
 ·split
  ·rw[Z3];rfl
  ·rfl
 ·rfl
theorem OT{σ:St}{x:XV}(k:K Y):Gr σ x k=(Gr σ x k0).bind fun p=>k p.1 p.2:=by
 unfold Gr;split
 ·rw[Z3];rfl
 ·rfl
theorem Md{T:Bw}{Γ:Nat→Option FX}{o:Oper}{σ:St}(k:K Y):FC T Γ o σ k=(FC T Γ o σ k0).bind fun p=>k p.1 p.2:=by
 unfold FC;split
 ·rfl
 ·exact OT k
 ·split
  ·rename_i x _
   cases x<;>rfl
  ·rfl
 ·split<;>rfl
 ·split
  ·split<;>rfl
  ·rfl
 ·split
  ·split<;>rfl
  ·rfl
 ·exact KK k
 ·split<;>rfl
 ·split
  ·split
   ·split<;>rfl
   ·rfl
  ·rfl
 ·split<;>rfl
 ·rw[Lk,Lk (Y:=XV×St),Z3];rfl
 ·rw[NP,NP (Y:=XV×St),Z3];rfl
 ·exact QW k
 ·split
  ·split<;>rfl
  ·rfl
 ·exact P0 k
 ·exact Oy k
 ·split<;>rfl
 ·split<;>rfl
 ·exact PI k
 ·exact L3 k
 ·split<;>rfl
 ·split
  ·split
   ·exact Ma k
   ·rfl
  ·split
   ·exact Ma k
   ·rfl
  ·rfl
 ·split
  ·split<;>rfl
  ·split
   ·split<;>rfl
   ·rfl
  ·rfl
 ·split
  ·exact ON k
  ·rfl
 ·split
  ·exact Oz k
  ·rfl
 ·split
  ·rw[GK,GK (Y:=XV×St),Z3];rfl
  ·rfl
 ·split
  ·rw[GK,GK (Y:=XV×St),Z3];rfl
  ·rfl
 ·rfl
theorem JN{I:Type}[Nonempty I]{T:Bw}{Γ:Nat→Option FX}{o:Oper}{σ:St}{k:I→K Y}{y:Y}(h:∀i,FC T Γ o σ (k i)=some y):∃x σ',FC T Γ o σ k0=some (x,σ')∧ ∀i,k i x σ' =some y:=by
 obtain⟨i0⟩:= ‹Nonempty I›;have h0:=h i0;rw[Md]at h0;rw[ZW]at h0;obtain⟨⟨x,σ'⟩,h1,h2⟩:=h0;refine⟨x,σ',h1,fun i=> ?_⟩;have:=h i;rw[Md,h1]at this;exact this
end
end Go.Fw
end
section
namespace Go.Fw
def WF{α:Type}(P:Program)(s:Sem α):Prop:= ∀w v w1,s.run P w= .ok v w1→ ∀w',s.run P w' = .ok v w'
section
variable{α β:Type} {P:Program}
theorem WF.pure(x:α):WF P (Pure.pure x:Sem α):=fun w v w1 h w' =>by
 simp only[Sem.run_pure,Result.ok.injEq]at h⊢;exact⟨h.1,trivial⟩
theorem WF.bind{s:Sem α}{f:α→Sem β}(h:WF P s)(k:∀v,WF P (f v)):WF P (s >>= f):=fun w v w1 e w' =>by
 rw[Sem.run_bind]at e⊢;cases hs:s.run P w with
 |ok u w2=>
  rw[hs]at e;simp only[Result.andThen_ok]at e;rw[h w u w2 hs w'];simp only[Result.andThen_ok];exact k u w2 v w1 e w'
 |halt x w2=>
  rw[hs]at e;simp[Result.andThen]at e
theorem WF.halt(x:Halt):WF P (.halt x:Sem α):=fun w v w1 e w' =>by simp[Sem.run]at e
theorem WF.program:WF P program:=fun w v w1 e w' =>by
 rw[run_program]at e⊢;cases e;rfl
theorem WF.typeInfo(t:TypeId):WF P (typeInfo t):=WF.bind WF.program fun p=>by
 split
 ·exact WF.pure _
 ·exact WF.halt _
theorem WF.underlying(t:TypeId):WF P (underlying t):=WF.bind WF.program fun p=>by
 split
 ·exact WF.pure _
 ·exact WF.halt _
theorem WF.sizeOf(t:TypeId):WF P (Go.sizeOf t):=WF.bind (WF.typeInfo t) fun _=>WF.pure _
theorem WF.isAgg(t:TypeId):WF P (isAgg t):=WF.bind (WF.underlying t) fun d=>by
 split<;>exact WF.pure _
theorem WF.zeroValue(t:TypeId):WF P (zeroValue t):=WF.bind (WF.typeInfo t) fun i=>by
 split
 ·exact WF.pure _
 ·exact WF.halt _
theorem WF.asIntOf(v:Value):WF P (asIntOf v):=by
 unfold Go.asIntOf;split
 ·exact WF.pure _
 ·exact WF.halt _
 ·exact WF.halt _
theorem WF.asBool(v:Value):WF P (asBool v):=by
 unfold Go.asBool;split
 ·exact WF.pure _
 ·exact WF.halt _
theorem WF.asAgg(v:Value):WF P (asAgg v):=by
 unfold Go.asAgg;split
 ·exact WF.pure _
 ·exact WF.halt _
theorem WF.sureAddr(v:Value):WF P (Instr.sureAddr v):=by
 unfold Instr.sureAddr;split
 ·exact WF.pure _
 ·exact WF.halt _
theorem WF.Nu{s:Sem α}(h:∀w v w1,s.run P w≠ .ok v w1):WF P s:=fun w v w1 e=>absurd e (h w v w1)
theorem E7{s:Sem α}{f:α→Sem β}(h:∀x w v w1,(f x).run P w≠ .ok v w1):∀w v w1,(s >>= f).run P w≠ .ok v w1:=fun w v w1 e=>by
 rw[Sem.run_bind]at e;cases hs:s.run P w with
 |ok u w2=>rw[hs]at e;exact h u w2 v w1 e
 |halt x w2=>rw[hs]at e;simp[Result.andThen]at e
theorem IH(x:Halt):∀w v w1,(.halt x:Sem α).run P w≠ .ok v w1:=fun w v w1 e=>by simp[Sem.run]at e
theorem Jz(e:RuntimeError):∀w v w1,(runtimePanic e:Sem α).run P w≠ .ok v w1:=by
 unfold runtimePanic;refine E7 fun p=> ?_
 dsimp only;split<;>first
  |exact IH _
  |exact E7 fun _=>E7 fun _=>IH _
  |exact E7 fun _=>IH _
theorem WF.bounds(k:IntKind)(x y:Int)(c:BoundsCode):WF P (boundsPanic k x y c:Sem α):=WF.Nu (by
 unfold boundsPanic;dsimp only;split<;>exact E7 fun _=>Jz _)
theorem WF.part(t:TypeId)(cs:Array Value)(o:Nat):WF P (part t cs o):=WF.bind (WF.isAgg t) fun b=>by
 split
 ·exact WF.bind (WF.sizeOf t) fun _=>WF.pure _
 ·split
  ·exact WF.pure _
  ·exact WF.halt _
theorem WF.field(t:TypeId)(x:Value)(f:Nat):WF P (Instr.field t x f):=WF.bind (WF.underlying t) fun d=>by
 split
 ·split
  ·exact WF.bind (WF.asAgg x) fun _=>WF.part _ _ _
  ·exact WF.halt _
 ·exact WF.halt _
theorem WF.indexAt(t:TypeId)(x i:Value):WF P (Instr.indexAt t x i):=WF.bind (WF.asIntOf i) fun q=>by
 obtain⟨k,i⟩:=q;dsimp only;refine WF.bind (WF.underlying t) fun d=> ?_
 have rest:∀q:Option Addr×Nat×TypeId,WF P (do
   let d←Go.underlying t
   match q.1 with
   |some a=>
    if 0≤i∧i<(q.2.1:Int)then do
     let s←Go.sizeOf q.2.2
     Pure.pure (Value.pointer (some (a.add (i.toNat*s))))
    else if(decide (q.2.1≤1)&&(match d with| .array .. =>true|_=>false))=true then unsupported (.noEntry "op/indexAddr.an index out of range at an array of length 0 or 1 (ledger 616)")
    else boundsPanic k i q.2.1 .index
   |none=>boundsPanic k i 0 .index:Sem Value):=fun q=>by
  refine WF.bind (WF.underlying t) fun d=> ?_
  split
  ·split
   ·exact WF.bind (WF.sizeOf _) fun _=>WF.pure _
   ·repeat' split
    all_goals first|exact WF.halt _|exact WF.bounds _ _ _ _
  ·exact WF.bounds _ _ _ _
 split
 ·exact WF.bind (WF.sureAddr _) fun _=>WF.bind (WF.pure _) fun q=>rest q
 ·exact WF.bind (WF.pure _) fun q=>rest q
 ·exact WF.bind (WF.halt _) fun q=>rest q
theorem WF.index(t:TypeId)(x i:Value):WF P (Instr.index t x i):=WF.bind (WF.asIntOf i) fun q=>by
 obtain⟨k,i⟩:=q;dsimp only;refine WF.bind (WF.underlying t) fun d=> ?_
 split
 ·split
  ·exact WF.bind (WF.sizeOf _) fun _=>WF.part _ _ _
  ·exact WF.bounds _ _ _ _
 ·split
  ·exact WF.pure _
  ·exact WF.bounds _ _ _ _
 ·exact WF.halt _
theorem WF.extract(x:Value)(i:Nat):WF P (Instr.extract x i):=by
 unfold Instr.extract;split
 ·split
  ·exact WF.pure _
  ·exact WF.halt _
 ·exact WF.halt _
theorem WF.sliceBound(x:Value)(y:Nat)(c:BoundsCode):WF P (Instr.sliceBound x y c):=WF.bind (WF.asIntOf x) fun q=>by
 obtain⟨k,i⟩:=q;dsimp only;split
 ·exact WF.pure _
 ·exact WF.bounds _ _ _ _
theorem WF.sliceBounds(b:Bool)(len cap:Nat)(l h:Option Value):WF P (Instr.sliceBounds b len cap l h none):=by
 cases h with
 |none=>
  cases l with
  |none=>exact WF.bind (WF.pure _) fun _=>WF.bind (WF.pure _) fun _=>WF.bind (WF.pure _) fun _=>WF.pure _
  |some l=>exact WF.bind (WF.pure _) fun _=>WF.bind (WF.pure _) fun _=>WF.bind (WF.sliceBound _ _ _) fun _=>WF.pure _
 |some h=>
  cases l with
  |none=>exact WF.bind (WF.pure _) fun _=>WF.bind (WF.sliceBound _ _ _) fun _=>WF.bind (WF.pure _) fun _=>WF.pure _
  |some l=>exact WF.bind (WF.pure _) fun _=>WF.bind (WF.sliceBound _ _ _) fun _=>WF.bind (WF.sliceBound _ _ _) fun _=>WF.pure _
theorem WF.asAddr(v:Value):WF P (asAddr v):=by
 unfold Go.asAddr;split
 ·exact WF.pure _
 ·exact WF.Nu (Jz _)
 ·exact WF.halt _
theorem WF.slice(t:TypeId)(x:Value)(l h:Option Value):WF P (Instr.slice t x l h none):=WF.bind (WF.underlying t) fun d=>by
 split
 ·exact WF.bind (WF.sliceBounds _ _ _ _ _) fun _=>WF.pure _
 ·exact WF.bind (WF.sliceBounds _ _ _ _ _) fun _=>WF.bind (WF.sizeOf _) fun _=>WF.pure _
 ·refine WF.bind (WF.asAddr _) fun _=>WF.bind (WF.underlying _) fun d=> ?_
  split
  ·exact WF.bind (WF.sliceBounds _ _ _ _ _) fun _=>WF.bind (WF.sizeOf _) fun _=>WF.pure _
  ·exact WF.halt _
 ·exact WF.halt _
theorem WF.sliceAt(t:TypeId)(x:Value)(l h:Option Value):WF P (Instr.sliceAt t x l h none):=WF.bind (WF.underlying t) fun d=>by
 split
 ·exact WF.bind (WF.sureAddr _) fun _=>WF.bind (WF.sliceBounds _ _ _ _ _) fun _=>WF.bind (WF.sizeOf _) fun _=>WF.pure _
 ·exact WF.slice _ _ _ _
theorem WF.Mj{f:α→Sem β}(h:∀x,WF P (f x)):∀l:List α,WF P (l.mapM f)
 |[]=>WF.pure _
 |x::l=>by
  rw[bI];exact WF.bind (h x) fun _=>WF.bind (WF.Mj h l) fun _=>WF.pure _
theorem WF.mapM{f:α→Sem β}(h:∀x,WF P (f x))(a:Array α):WF P (a.mapM f):=by
 rw[Array.mapM_eq_mapM_toList,←bind_pure_comp];exact WF.bind (WF.Mj h _) fun _=>WF.pure _
theorem WF.build(t:TypeId)(ps:Array (Nat×Value)):WF P (Instr.build t ps):=WF.bind (WF.zeroValue t) fun z=>by
 refine WF.bind (WF.underlying t) fun d=> ?_
 split
 ·refine WF.bind (WF.mapM (fun f=>WF.bind (WF.sizeOf _) fun _=>WF.pure _) _) fun _=> ?_
  split
  ·exact WF.pure _
  ·exact WF.halt _
 ·refine WF.bind (WF.sizeOf _) fun _=> ?_
  split
  ·exact WF.pure _
  ·exact WF.halt _
 ·exact WF.halt _
end
end Go.Fw
end
section
namespace Go.Fw
def U4(hint:ZD)(E:Env)(w:World)(bx:List Bx)(c:Nat):Prop:=E.T c∨ ∃n B,n∈hint∧bx[n]? =some B∧Ob E w n B c
def Kt(K:Nat→Prop)(w w':World):Prop:= ∀c,K c→w'.heap[c]? =w.heap[c]?
theorem Pc{w:World}{B:Nat→Prop}:∀{p:List Jn} {r:Ty} {h:Value} {rows:List r.D} {q:Ty} {ys:List q.D} {bb o len cap i:Nat},Rd w B (.sl r) [h] rows→AW r rows p→A8 r rows p=some ⟨q,ys⟩→
  Bm w h p=some (.slice (some ⟨bb,o,none⟩) len cap)→i<ys.length→RB w (.sl r) [h] rows bb
 |[],r,h,rows,q,ys,bb,o,len,cap,i,hr,hp,hg,hh,hi=>by
  rw[AO]at hh;cases hh;simp only[A8,ZU,Zc]at hg;obtain⟨rfl,hg⟩:=hg;obtain rfl:=Zw hg;simp only[RB];exact⟨bb,o,len,cap,rfl,by omega,.inl rfl⟩
 |s::p,r,h,rows,q,ys,bb,o,len,cap,i,hr,hp,hg,hh,hi=>by
  simp only[AW]at hp;obtain⟨hsi,CO,hp⟩:=hp;simp only[Rd]at hr;obtain⟨a,cap',e1,_,hr⟩:=hr;obtain rfl:=(Z8 e1).1;rcases hr with hr|⟨b',o',rfl,hb,hr⟩
  ·omega
  obtain⟨cs,hl,hc,hrow⟩:=hr s.i _ (DS hsi);simp only[A8]at hg;split at hg
  case h_2=>cases hg
  rename_i q' x HY;rw[HY]at hp;dsimp only at hp;obtain⟨v,hv,hrv⟩:=Hr hrow HY;have Sk:=hc _ _ hv;rw[←CO]at Sk;simp only[Bm,Sk]at hh;have:=Pc hrv hp hg hh hi;simp only[RB];refine⟨b',o',_,cap',rfl,by omega,.inr ⟨s.i,_,cs,DS hsi,hl,hc,?_⟩⟩;clear hc Sk e1 hr;exact RB_cell hrow HY hv this
where
 RB_cell {w:World} {B:Nat→Prop} {c:Nat}:∀{r:Ty} {cs:List Value} {x:r.D} {j:Nat} {t:Ty} {y:t.D} {v:Value},Rd w B r cs x→AB r j x=some ⟨t,y⟩→cs[j]? =some v→RB w t [v] y c→RB w r cs x c
 | .cons c r,cs,x,0,t,y,v,h,e,hv,k=>by
  simp only[Rd]at h;obtain⟨u,l,rfl,h1,h2⟩:=h;simp only[AB,ZU,Zc]at e;obtain⟨rfl,e⟩:=e;obtain rfl:=Zw e;simp at hv;subst hv;simp only[RB];exact⟨u,l,rfl,.inl k⟩
 | .cons c r,cs,x,j+1,t,y,v,h,e,hv,k=>by
  simp only[Rd]at h;obtain⟨u,l,rfl,h1,h2⟩:=h;simp only[AB]at e;have:=RB_cell h2 e (by simpa using hv) k;simp only[RB];exact⟨u,l,rfl,.inr this⟩
 | .int k,cs,x,0,t,y,v,h,e,hv,k' =>by
  simp only[AB,ZU,Zc]at e;obtain⟨rfl,_⟩:=e;simp[RB]at k'
 | .bool,cs,x,0,t,y,v,h,e,hv,k' =>by
  simp only[AB,ZU,Zc]at e;obtain⟨rfl,_⟩:=e;simp[RB]at k'
 | .str,cs,x,0,t,y,v,h,e,hv,k' =>by
  simp only[AB,ZU,Zc]at e;obtain⟨rfl,_⟩:=e;simp[RB]at k'
 | .sl r,cs,x,0,t,y,v,h,e,hv,k=>by
  simp only[AB,ZU,Zc]at e;obtain⟨rfl,e⟩:=e;obtain rfl:=Zw e;have hl:=Jm h;simp only[Ty.n]at hl;obtain⟨u,rfl⟩:=List.length_eq_one_iff.1 hl;simp at hv;subst hv;exact k
 | .unit,_,_,_,_,_,_,_,e,_,_=>by simp[AB]at e
 | .int _,_,_,_+1,_,_,_,_,e,_,_=>by simp[AB]at e
 | .bool,_,_,_+1,_,_,_,_,e,_,_=>by simp[AB]at e
 | .str,_,_,_+1,_,_,_,_,e,_,_=>by simp[AB]at e
 | .sl _,_,_,_+1,_,_,_,_,e,_,_=>by simp[AB]at e
section
variable{P:Program} {T:Bw} (hT:Av P T) {E:Env} {w:World}
include hT
theorem MZ{σ:St}{Fs:List ZD}(hB:Cd E w σ.bx σ.bx Fs)(st:∀c,E.S c→E.T c){t:Nat}{x:AV}{z:XV}(e:J3 T t σ (.c x)=some z){v:Value}(hx:VR E w σ.bx x v):
  ∃bb oo u y,v= .pointer (some ⟨bb,oo,none⟩)∧Bo σ.bx x 0=some y∧XR E w σ.bx z u∧ ∀w',w'.heap[bb]? =w.heap[bb]?→(Instr.loadAt t v).run P w' = .ok u w':=by
 unfold J3 at e;split at e
 case h_2=>cases e
 rename_i x' ti Qb Dw;cases Qb;split at e
 case isTrue=>cases e
 rename_i CO;have JE:=fun w=>Av.isAgg hT Dw w
 split at e
 ·rename_i ha
  simp only[ZV]at e;obtain⟨l,hl,rfl⟩:=e;obtain⟨h1,h2⟩:=Ga hl;have h0:0<l.length:=by omega
  obtain⟨b,o,u,hv,_,_⟩:=CD hB st (h2 0 _ (ZT h0)) hx;obtain⟨cs,c1,c2,c3⟩:=HI hB st hx hv (l:=l) (j:=0) (fun i y hy=>by simpa using h2 i y hy);subst hv;have JG:=(hT t ti Dw).Q4;cases hd:ti.desc with
  |st fs=>
   rw[hd]at JG;obtain⟨fields,hu,_⟩:=JG;refine⟨b,o,.agg cs.toArray,_,rfl,by simpa using h2 0 _ (ZT h0),⟨cs.toArray,rfl,by simpa using c3⟩,fun w' hw=>run_loadAt_mid w' b o t cs _ (by have:=c2.of_block hw;simpa[AL,World.rangeAt]using this) hu rfl ?_⟩;rw[Av.size hT Dw,c1,h1]
  |_=>rw[hd]at ha;simp[TD.agg]at ha
 ·rename_i ha
  simp only[Bool.not_eq_true]at ha;simp only[ZV]at e;obtain⟨y,hy,rfl⟩:=e;obtain⟨b,o,u,hv,hc,hr⟩:=CD hB st hy hx;subst hv;refine⟨b,o,u,y,rfl,hy,hr,fun w' hw=> ?_⟩;have SU:=JE w';rw[ha]at SU;simp only[aP]at hc;have KH:w'.cell? ⟨b,o,none⟩=some u:=by rw[World.cell?_of_block (a:=⟨b,o,none⟩) hw];exact hc
  simp[Instr.loadAt,Instr.sureAddr,loadVar,SU,KH]
end
theorem Nz{E E':Env}{w w':World}{vw vw':List Bx}{t:Ty}{x:t.D}{v:Value}(h:VR E w vw (.v t x) v):VR E' w' vw' (.v t x) v:=by
 obtain⟨h1,h2⟩:=h;refine⟨h1,?_⟩;cases t<;>simp_all[Ty.scalar,Rd]
theorem Iz{E E':Env}{w w':World}{vw vw':List Bx}{t:Ty}{x:t.D}{v u:Value}(h:VR E w vw (.v t x) v)(k:VR E' w' vw' (.v t x) u):v=u:=by
 obtain⟨h1,h2⟩:=h;obtain⟨_,k2⟩:=k;cases t<;>simp_all[Ty.scalar,Rd]
def JZ(x:XV):Prop:=(∃t z,x= .c (.v t z))∨(∃l,x= .agg l∧ ∀c∈l,∃t z,c= .v t z)
theorem CS{E E':Env}{w w':World}{vw vw':List Bx}{x:XV}{v:Value}(hp:JZ x)(h:XR E w vw x v):XR E' w' vw' x v:=by
 rcases hp with⟨t,z,rfl⟩|⟨l,rfl,hl⟩
 ·exact Nz (E:=E) (w:=w) (vw:=vw) (E':=E') (w':=w') (vw':=vw') h
 ·obtain⟨vs,rfl,FB⟩:=h
  refine⟨vs,rfl,?_⟩
  generalize vs.toList=m at FB
  induction l generalizing m with
  |nil=>cases m with
   |nil=>trivial
   |cons _ _=>exact FB.elim
  |cons c l ih=>cases m with
   |nil=>exact FB.elim
   |cons u m=>
    obtain⟨t,z,rfl⟩:=hl c (by simp);exact⟨Nz FB.1,ih (fun c hc=>hl c (by simp[hc])) m FB.2⟩
theorem M_{d:TD}{x z:AV}{p:Bool}(e:LS d x z=some p):(∃t y,x= .v t y)∧ ∃t y,z= .v t y:=by
 unfold LS at e;split at e
 ·exact⟨⟨_,_,rfl⟩,_,_,rfl⟩
 ·exact⟨⟨_,_,rfl⟩,_,_,rfl⟩
 ·exact⟨⟨_,_,rfl⟩,_,_,rfl⟩
 ·cases e
theorem GA{T:Bw}:∀{i:Nat} {fs:List ZE} {l m:List AV} {r:Bool},B_ T i fs l m=some r→(∀c∈l,∃t z,c= .v t z)∧ ∀c∈m,∃t z,c= .v t z
 |i,[],[],[],r,e=>by simp
 |i,(o,t)::fs,x::l,z::m,r,e=>by
  simp only[B_]at e;split at e
  case isFalse=>cases e
  split at e
  case h_2=>cases e
  split at e
  case h_2=>cases e
  rename_i p hp;simp only[ZV]at e;obtain⟨r',e1,_⟩:=e;obtain⟨a1,a2⟩:=M_ hp;obtain⟨b1,b2⟩:=GA e1;exact⟨fun c hc=>(Z1.1 hc).elim (fun e=>e▸a1) (b1 c),fun c hc=>(Z1.1 hc).elim (fun e=>e▸a2) (b2 c)⟩
 |_,[],[],_::_,_,e=>by simp[B_]at e
 |_,[],_::_,_,_,e=>by simp[B_]at e
 |_,_::_,[],_,_,e=>by simp[B_]at e
 |_,_::_,_::_,[],_,e=>by simp[B_]at e
theorem Rn{op:BinOp}{κ:IntKind}{a b:Int}{r:AV}(e:H4 op κ a b some=some r):∃t x,r= .v t x:=by
 cases op<;>simp only[H4,ZU]at e<;>first
  |exact⟨_,_,e.symm⟩
  |(
   split at e
   ·cases e
   ·cases e;exact⟨_,_,rfl⟩)
  |cases e
theorem MY{op:BinOp}{κ:IntKind}{a b:Int}{r:AV}(e:Ft op κ a b some=some r):∃t x,r= .v t x:=by
 unfold Ft at e;split at e
 ·cases e
 ·cases op<;>simp only[ZU]at e<;>first
   |exact⟨_,_,e.symm⟩
   |cases e
theorem Rz{op:BinOp}{a b:ZC}{r:AV}(e:I6 op a b some=some r):∃t x,r= .v t x:=by
 cases op<;>simp only[I6,ZU]at e<;>first
  |exact⟨_,_,e.symm⟩
  |(
   split at e
   ·cases e;exact⟨_,_,rfl⟩
   ·cases e)
  |cases e
theorem TQ{T:Bw}{t:Nat}{op:BinOp}{a b:XV}{r:AV}(e:OL T t op a b some=some r):(∃t x,r= .v t x)∧JZ a∧JZ b:=by
 unfold OL at e;split at e
 ·refine⟨?_,.inl ⟨_,_,rfl⟩,.inl ⟨_,_,rfl⟩⟩
  split at e
  ·exact MY e
  ·exact MY e
  ·split at e
   ·exact Rn e
   ·cases e
 ·exact⟨Rz e,.inl ⟨_,_,rfl⟩,.inl ⟨_,_,rfl⟩⟩
 ·refine⟨?_,.inl ⟨_,_,rfl⟩,.inl ⟨_,_,rfl⟩⟩
  split at e
  ·split at e
   ·split at e
    ·cases e;exact⟨_,_,rfl⟩
    ·cases e;exact⟨_,_,rfl⟩
    ·cases e
   ·cases e
  ·cases e
 ·split at e
  ·rename_i hq
   rw[ZW]at hq;obtain⟨fs,_,hq⟩:=hq;obtain⟨q1,q2⟩:=GA hq;cases e;exact⟨⟨_,_,rfl⟩,.inr ⟨_,rfl,q1⟩,.inr ⟨_,rfl,q2⟩⟩
  ·rename_i hq
   rw[ZW]at hq;obtain⟨fs,_,hq⟩:=hq;obtain⟨q1,q2⟩:=GA hq;cases e;exact⟨⟨_,_,rfl⟩,.inr ⟨_,rfl,q1⟩,.inr ⟨_,rfl,q2⟩⟩
  ·cases e
 ·cases e
theorem Qi{g:Bool}{a b:XV}{r:AV}(e:NK g a b some=some r):(∃t x,r= .v t x)∧JZ a∧JZ b:=by
 unfold NK at e;split at e
 ·refine⟨?_,.inl ⟨_,_,rfl⟩,.inl ⟨_,_,rfl⟩⟩
  split at e
  ·cases g<;>(cases e;exact⟨_,_,rfl⟩)
  ·cases e
 ·cases e
theorem T5{op:UnOp}{a:XV}{r:AV}(e:Sp op a some=some r):(∃t x,r= .v t x)∧JZ a:=by
 unfold Sp at e;split at e
 ·cases e;exact⟨⟨_,_,rfl⟩,.inl ⟨_,_,rfl⟩⟩
 ·cases e;exact⟨⟨_,_,rfl⟩,.inl ⟨_,_,rfl⟩⟩
 ·cases e
section
variable{Y:Type} {P:Program} {T:Bw} (hT:Av P T) {Γ:Nat→Option FX} {o:Oper} {E:Env} {σ:St} {a:Act} {w:World} {k:K Y} {y:Y}
include hT
theorem QR(h:Rel E σ a w){t:TypeId}(ps:Array (Nat×Operand)){s b:Nat}{fs:List ZE}{rw:Option Ty}(Dw:T.get t=some ⟨s,b,.st fs,rw⟩){r:Ty}(hr:T.Il t=some r)
  {cs:List AV} (hb:IL T fs (GZ r) (ps.toList.map fun q=>(q.1,σ.ev q.2))=some cs):
  ∃Cb,(∀w',(Instr.build t (ps.map fun(i,x)=>(i,a.eval x))).run P w' = .ok (.agg Cb) w')∧Ir E w σ.bx cs Cb.toList:=by
 obtain⟨i,z,h1,h2,h3,_⟩:=row_zero hT hr;obtain⟨fields,hu,hfs,CO⟩:=Rr hT Dw;obtain⟨Cb,f1,f2⟩:=Gx hT (Kl h ps) (arr:=z.cells) (by rw[h3];exact Ff r) hb;refine⟨Cb,fun w' => ?_,f2⟩;have hb:P.built t (ps.map fun(i,x)=>(i,a.eval x)).toList=some Cb:=by
  unfold Program.built;simp only[h1,hu,h2];have hm:fields.toList.mapM (fun f=>(P.info? f.type).map fun i=>(f.offset,i.size))=some (fields.toList.map fun f=>(f.offset,((P.info? f.type).map (·.size)).getD 0)):=by
   refine Ll fun f hf=> ?_
   obtain⟨i',Pp,_⟩:=CO f hf;simp[Pp]
  simp only[hm];rw[←f1];congr 1;funext n;subst hfs;simp only[List.getElem?_toArray,Zy];cases hn:fields.toList[n]? with
  |none=>simp
  |some f=>
   obtain⟨i',Pp,_⟩:=CO f (Zb hn);simp[Pp]
 exact run_build (P:=P) w' t (ps.map fun(i,x)=>(i,a.eval x)) Cb hb
theorem O9{hint:ZD}(h:Rel E σ a w)(hq:I0 hint σ o.op=true)(e:FC T Γ o σ k=some y):
  ∃v x,XR E w σ.bx x v∧k x σ=some y∧ ∀w',Kt (U4 hint E w σ.bx) w w'→(execOp a.eval o).run P w' = .ok (.value v) w':=by
 obtain⟨Fs,hB,hS⟩:=h.bx;have st:=hS.st;have wf:∀{s:Sem Value} {v:Value},WF P s→s.run P w= .ok v w→ ∀w',s.run P w' = .ok v w':=fun h1 h2 w' =>h1 w _ w h2 w'
 unfold FC at e;split at e
 ·rename_i x ho
  exact⟨a.eval x,_,h.ev x,e,fun w' _=>by simp only[execOp,ho,Sem.run_pure]⟩
 ·rename_i x ho
  unfold Gr at e;split at e
  ·rename_i hx
   rw[ho]at hq;simp only[I0,hx]at hq;cases hq
  ·exact⟨a.eval x,_,h.ev x,e,fun w' _=>by simp only[execOp,ho,Sem.run_pure]⟩
 ·rename_i c xa xb ho
  split at e
  case h_2=>cases e
  rename_i p hp;have hc:=h.ev c;rw[hp]at hc;have KH:=Dx (E:=E) (w:=w) (vw:=σ.bx) hc;refine⟨if p then a.eval xa else a.eval xb,if p then σ.ev xa else σ.ev xb,by cases p<;>simp[h.ev],by cases p<;>simpa[Q6]using e,fun w' _=>by simp[execOp,ho,KH,asBool]⟩
 ·rename_i t ho;rw[ho]at hq;cases hq
 ·rename_i t x ho;rw[ho]at hq;cases hq
 ·rename_i t ps ho
  split at e
  case h_2=>cases e
  rename_i s b fs rw r Dw hr;split at e
  case h_2=>cases e
  rename_i cs Qf;obtain⟨Cb,h1,h2⟩:=QR hT h ps Dw hr Qf;exact⟨.agg Cb,.agg cs,⟨Cb,rfl,h2⟩,e,fun w' _=>by simp only[execOp,ho,Sem.run_bind,h1 w',Result.andThen_ok,Sem.run_pure]⟩
 ·rename_i t n ps ho;rw[ho]at hq;cases hq
 ·rename_i t x ho
  rw[ho]at hq;split at e
  case h_2=>cases e
  rename_i z hz;have hv:=h.ev x;simp only[I0]at hq
  generalize hX:σ.ev x=X at hq hv hz
  cases X with
  |agg l=>cases hq
  |D6 l=>cases hq
  |c ad=>
   obtain⟨bb,oo,u,cell,hp,hc,h2,h3⟩:=MZ hT hB st hz hv;refine⟨u,z,h2,e,fun w' R_=> ?_⟩;have SJ:w'.heap[bb]? =w.heap[bb]?:=by
    refine R_ bb ?_
    have G4:VR E w σ.bx ad (a.eval x):=hv;cases ad with
    |BS b j=>
     simp only[IA,ak]at hq;simp only[Bo]at hc;split at hc
     ·rename_i cs hb
      refine .inr ⟨b,_,hq,hb,?_⟩;have:=G4.2;rw[hp]at this;simp only[Value.pointer.injEq,ZU,Addr.mk.injEq]at this;exact this.1
     ·cases hc
    |Bl b p i sz j=>
     simp only[IA,ak]at hq;simp only[Bo]at hc;split at hc
     ·rename_i d q rows hb
      refine .inr ⟨b,_,hq,hb,?_⟩;simp only[VR,hb]at G4;obtain⟨_,hpp,q1,ys,b2,o2,len,cap,g1,g2,g3,g4⟩:=G4;rw[hp]at g4;simp only[Value.pointer.injEq,ZU,Addr.mk.injEq]at g4;obtain⟨rfl,_⟩:=g4;obtain⟨F,⟨_,S_⟩,_⟩:=hB.get hb;exact Pc (Fb S_) hpp g1 g3 g2
     ·cases hc
    |Cn s r z j=>
     obtain⟨b2,o2,cs,g1,g2,_⟩:=G4;rw[hp]at g1;simp only[Value.pointer.injEq,ZU,Addr.mk.injEq]at g1;obtain⟨rfl,_⟩:=g1
     left
     cases s with
     |true=>exact st _ (by simpa using g2)
     |false=>simpa using g2
    |_=>cases hq
   simp only[execOp,ho,Sem.run_bind,h3 w' SJ,Result.andThen_ok,Sem.run_pure]
 ·rename_i t xa xx ho;rw[ho]at hq;cases hq
 ·rename_i x ho
  have hx:=h.ev x;split at e
  ·rename_i b j hp
   rw[hp]at hx;have Qb:b<σ.bx.length∧a.eval x= .pointer (some ⟨E.BR b,j,none⟩):=hx;exact⟨a.eval x,_,hx,e,fun w' _=>by simp only[execOp,ho,Qb.2,Sem.run_pure]⟩
  ·rename_i b p i sz j hp
   rw[hp]at hx;have Q9:G3 (a.eval x)=true:=hx.1;refine⟨a.eval x,_,hx,e,fun w' _=> ?_⟩;unfold G3 at Q9;split at Q9
   ·rename_i hv
    simp only[execOp,ho,hv,Sem.run_pure]
   ·cases Q9
  ·rename_i s r z j hp
   rw[hp]at hx;obtain⟨bb,oo,cs,hv,hrest⟩:=hx;exact⟨a.eval x,.c (.Cn s r z j),⟨bb,oo,cs,hv,hrest⟩,e,fun w' _=>by simp only[execOp,ho,hv,Sem.run_pure]⟩
  ·rename_i f Bu hp
   rw[hp]at hx;have Qb:(∀b∈Bu,b<σ.bx.length)∧a.eval x= .func (.func f) #[] (Bu.map fun b=>Value.pointer (some ⟨E.BR b,0,none⟩)).toArray:=hx;exact⟨a.eval x,_,hx,e,fun w' _=>by simp only[execOp,ho,Qb.2,Sem.run_pure]⟩
  ·cases e
 ·rename_i op t x z s ho
  rw[Lk,ZW]at e;obtain⟨r,e1,e⟩:=e;obtain⟨⟨t',x',rfl⟩,p1,p2⟩:=TQ e1;obtain⟨r0,val,h1,h2,h3⟩:=IF hT e1 (h.ev x) (h.ev z) x z;cases h1;refine⟨val,.c (.v t' x'),h3,e,fun w' _=> ?_⟩;obtain⟨r1,val',g1,g2,g3⟩:=IF hT e1 (CS (E':=E) (w':=w') (vw':=σ.bx) p1 (h.ev x)) (CS p2 (h.ev z)) x z;cases g1;have:=Iz h3 g3;subst this;simp only[execOp,ho,Sem.run_bind];simp only[Sem.run_bind]at g2;rw[g2];rfl
 ·rename_i op t x ho
  rw[NP,ZW]at e;obtain⟨r,e1,e⟩:=e;obtain⟨⟨t',x',rfl⟩,p1⟩:=T5 e1;obtain⟨r0,val,h1,h2,h3⟩:=Ji (P:=P) e1 (h.ev x);cases h1;refine⟨val,.c (.v t' x'),h3,e,fun w' _=> ?_⟩;obtain⟨r1,val',g1,g2,g3⟩:=Ji (P:=P) e1 (CS (E':=E) (w':=w') (vw':=σ.bx) p1 (h.ev x));cases g1;have:=Iz h3 g3;subst this;simp only[execOp,ho,Sem.run_bind,g2,Result.andThen_ok,Sem.run_pure]
 ·rename_i s d x ho;rw[ho]at hq;cases hq
 ·rename_i f first Bu ho;rw[ho]at hq;cases hq
 ·rename_i t l c ho;rw[ho]at hq;cases hq
 ·rename_i t x lo hi ho
  obtain⟨z,val,h1,h2,h3⟩:=Ig hT hB st e (h.ev x) (Pv h lo) (Pv h hi);exact⟨val,z,h3,h1,fun w' _=>by simp only[execOp,ho,Option.map_none,Sem.run_bind,wf (WF.sliceAt _ _ _ _) h2 w',Result.andThen_ok,Sem.run_pure]⟩
 ·rename_i t x f ho
  split at e
  case h_2=>cases e
  rename_i z hz;obtain⟨u,h1,h2⟩:=Iq hT hz (h.ev x);refine⟨u,z,h2,e,fun w' _=> ?_⟩;have hw:(Instr.fieldAt t (a.eval x) f).run P w' = .ok u w':=by
   have hx:=h.ev x;unfold My at hz;split at hz
   case h_2=>cases hz
   rename_i s b fs _ Dw;split at hz
   case h_2=>cases hz
   rename_i o' u' hf;have key:∀ad,a.eval x= .pointer (some ad)→(Instr.fieldAt t (a.eval x) f).run P w' = .ok u w':=by
    intro ad YU;rw[YU]at h1⊢;have r1:=EL hT (w:=w) Dw hf (a:=ad);have r2:=EL hT (w:=w') Dw hf (a:=ad);rw[r1]at h1;cases h1;exact r2
   split at hz
   ·rename_i b' j hp
    rw[hp]at hx;exact key _ hx.2
   ·rename_i b' p i sz j hp
    rw[hp]at hx;have Q9:G3 (a.eval x)=true:=hx.1;unfold G3 at Q9;split at Q9
    ·rename_i hv;exact key _ hv
    ·cases Q9
   ·rename_i s r y' j hp
    rw[hp]at hx;obtain⟨bb,oo,cs,hv,_⟩:=hx;exact key _ hv
   ·cases hz
  simp only[execOp,ho,Sem.run_bind,hw,Result.andThen_ok,Sem.run_pure]
 ·rename_i t x f ho
  split at e
  case h_2=>cases e
  rename_i z hz;obtain⟨u,h1,h2⟩:=Jr hT hz (h.ev x);exact⟨u,z,h2,e,fun w' _=>by simp only[execOp,ho,Sem.run_bind,wf (WF.field _ _ _) h1 w',Result.andThen_ok,Sem.run_pure]⟩
 ·rename_i t x i ho
  obtain⟨z,val,h1,h2,h3⟩:=JF hT hB st e (h.ev x) (h.ev i);exact⟨val,z,h3,h1,fun w' _=>by simp only[execOp,ho,Sem.run_bind,wf (WF.indexAt _ _ _) h2 w',Result.andThen_ok,Sem.run_pure]⟩
 ·rename_i t x i ho
  obtain⟨z,val,h1,h2,h3⟩:=Gz hT e (h.ev x) (h.ev i);exact⟨val,z,h3,h1,fun w' _=>by simp only[execOp,ho,Sem.run_bind,wf (WF.index _ _ _) h2 w',Result.andThen_ok,Sem.run_pure]⟩
 ·rename_i x i ho
  split at e
  case h_2=>cases e
  rename_i z hz;obtain⟨u,h1,h2⟩:=HL (P:=P) hz (h.ev x);exact⟨u,z,h2,e,fun w' _=>by simp only[execOp,ho,Sem.run_bind,wf (WF.extract _ _) h1 w',Result.andThen_ok,Sem.run_pure]⟩
 ·rename_i f args L2 ho;rw[ho]at hq;cases hq
 ·rename_i args L2 ho
  split at e
  ·rename_i s t Bd S2
   obtain⟨x,rfl,hx⟩:=FA Bd;have hv:=h.ev x;rw[hx]at hv;have G4:=FQ (E:=E) (w:=w) (vw:=σ.bx) hv;split at e
   case isFalse=>cases e
   rename_i hs;have hu:=FR hT hs;refine⟨.int .i64 (s.length:Int),.c (.v (.int .i64) (s.length:Int)),VR.int (E:=E) (vw:=σ.bx) _ _,e,fun w' _=> ?_⟩;have CO:(⟨s.toArray⟩:ByteArray).size=s.length:=by simp[ByteArray.size]
   simp[execOp,ho,resolve,invoke,builtin,Builtin.len_,S2,G4,AD hu,goInt,CO]
  ·rename_i z t _ Bd S2
   obtain⟨x,rfl,hx⟩:=FA Bd;have hv:=h.ev x;rw[hx]at hv;split at e
   case isFalse=>cases e
   rename_i hs;split at e
   case h_2=>cases e
   rename_i n hn;obtain⟨el,hu⟩:=JX hT hs;obtain⟨ad,cap,G4⟩:=J5 hB st hn hv;refine⟨.int .i64 (n:Int),.c (.v (.int .i64) (n:Int)),VR.int (E:=E) (vw:=σ.bx) _ _,e,fun w' _=> ?_⟩;simp[execOp,ho,resolve,invoke,builtin,Builtin.len_,S2,G4,AD hu,goInt]
  ·cases e
 ·rename_i args L2 ho;rw[ho]at hq;cases hq
 ·rename_i args L2 ho;rw[ho]at hq;cases hq
 ·rename_i args L2 ho
  split at e
  case h_2=>cases e
  rename_i x1 x2 Bd;obtain⟨o1,o2,rfl,hx1,hx2⟩:=E_ Bd;have G7:=h.ev o1;have GY:=h.ev o2;rw[hx1]at G7;rw[hx2]at GY;rw[GK,ZW]at e;obtain⟨r,e1,e⟩:=e;obtain⟨⟨t',x',rfl⟩,p1,p2⟩:=Qi e1;obtain⟨r0,val,h1,h2,h3⟩:=D_ (P:=P) (big:=true) e1 G7 GY L2 #[] o.type;cases h1;refine⟨val,.c (.v t' x'),h3,e,fun w' _=> ?_⟩;obtain⟨r1,val',g1,g2,g3⟩:=D_ (P:=P) (big:=true) e1 (CS (E':=E) (w':=w') (vw':=σ.bx) p1 G7) (CS p2 GY) L2 #[] o.type;cases g1;have:=Iz h3 g3;subst this;simp only[an]at g2;simp[execOp,ho,resolve,invoke,builtin,g2]
 ·rename_i args L2 ho
  split at e
  case h_2=>cases e
  rename_i x1 x2 Bd;obtain⟨o1,o2,rfl,hx1,hx2⟩:=E_ Bd;have G7:=h.ev o1;have GY:=h.ev o2;rw[hx1]at G7;rw[hx2]at GY;rw[GK,ZW]at e;obtain⟨r,e1,e⟩:=e;obtain⟨⟨t',x',rfl⟩,p1,p2⟩:=Qi e1;obtain⟨r0,val,h1,h2,h3⟩:=D_ (P:=P) (big:=false) e1 G7 GY L2 #[] o.type;cases h1;refine⟨val,.c (.v t' x'),h3,e,fun w' _=> ?_⟩;obtain⟨r1,val',g1,g2,g3⟩:=D_ (P:=P) (big:=false) e1 (CS (E':=E) (w':=w') (vw':=σ.bx) p1 G7) (CS p2 GY) L2 #[] o.type;cases g1;have:=Iz h3 g3;subst this;simp only[Z6,aV]at g2;simp[execOp,ho,resolve,invoke,builtin,g2]
 ·cases e
end
end Go.Fw
end
section
namespace Go.Fw
section
variable{P:Program} {md:Region.Mode} {ops:Array Oper} {Q:Exit→Act→World→Prop}
theorem Kt.refl(K:Nat→Prop)(w:World):Kt K w w:=fun _ _=>rfl
def OU(P:Program)(md:Region.Mode)(ops:Array Oper)(Q:Exit→Act→World→Prop):Nat→Array Bool→(Nat→Prop)→Act→World→Prop
 |0,listed,_,a,w=>Region.ready md ops listed=[]∧Q .normal a w
 |fuel+1,listed,K,a,w=>(Region.ready md ops listed=[]→Q .normal a w)∧
  ∀i∈Region.ready md ops listed,wpOp P ops Q i (fun a' w' => ∃K':Nat→Prop,(∀c,K c→K' c)∧Kt K w w'∧OU P md ops Q fuel (listed.setIfInBounds i true) K' a' w') a w
theorem Mb:∀(fuel:Nat) (listed:Array Bool) (K:Nat→Prop) (a:Act) (w:World),OU P md ops Q fuel listed K a w→wpAny P md ops Q fuel listed a w
 |0,_,_,_,_,h=>h
 |fuel+1,_,_,_,_,h=>⟨h.1,fun i hi=>wpOp_mono (fun a' w' ⟨K',_,_,h'⟩=>Mb fuel _ K' a' w' h') (h.2 i hi)⟩
theorem YieldsIf.mono{S S':World→Prop}{o:Oper}{v:Value}{a:Act}(h:YieldsIf P ops S o v a)(hs:∀w,S' w→S w):YieldsIf P ops S' o v a:=
 h.imp (fun⟨h1,h2⟩=>⟨h1,fun w hw=>h2 w (hs w hw)⟩) id
theorem J0{i:Nat}{oi:Oper}{v:Value}(hi:ops[i]? =some oi)(Qj:∀(j:Nat) (o:Oper) cs b,ops[j]? =some o→o.op≠ .select cs b)(hQ:∀c a w,¬Q (.panic c) a w):
  ∀(fuel:Nat) (listed:Array Bool) (K:Nat→Prop) (a:Act) (w:World),
   (∀j oj,ops[j]? =some oj→j≠i→listed.getD j true=false→(∀e∈oj.after,Region.binds md e=true→e.on≠i)→oi.apart ops oj=true)→
   i∈Region.ready md ops listed→YieldsIf P ops (Kt K w) oi v a→OU P md ops Q fuel (listed.setIfInBounds i true) K (a.put oi.dst v) w→OU P md ops Q (fuel+1) listed K a w:=by
 intro fuel
 induction fuel with
 |zero=>
  intro listed K a w _ hr hy H;refine⟨fun h=>(by rw[h]at hr;cases hr),fun j hj=> ?_⟩;by_cases hji:j=i
  ·subst hji;exact hy.wpOp hi (Kt.refl K w) ⟨K,fun _ h=>h,Kt.refl K w,H⟩
  ·have:=ready_mono hj hji
   rw[H.1]at this;cases this
 |succ fuel ih=>
  intro listed K a w Dp hr hy H;refine⟨fun h=>(by rw[h]at hr;cases hr),fun j hj=> ?_⟩;by_cases hji:j=i
  ·subst hji;exact hy.wpOp hi (Kt.refl K w) ⟨K,fun _ h=>h,Kt.refl K w,H⟩
  ·have h1:=H.2 j (ready_mono hj hji)
   obtain⟨hjun,oj,hoj,Es⟩:=mem_ready.1 hj;have Rs:∀e∈oj.after,Region.binds md e=true→e.on≠i:=fun e he hb heq=>by
    have h1:=Es e he hb;have h0:=(mem_ready.1 hr).1;rw[heq]at h1;rcases Nat.lt_or_ge i listed.size with h'|h'
    ·simp[h']at h0 h1;rw[h0]at h1;cases h1
    ·simp[Array.getElem?_eq_none h']at h1
   have h2:=wpOp_putIf hoj (Dp j oj hoj hji hjun Rs) (fun cs b=>Qj i oi cs b hi) (fun cs b=>Qj j oj cs b hoj) (fun c a w h=>absurd h (hQ c _ w)) hy h1;have TB:∀k ok,ops[k]? =some ok→k≠i→(listed.setIfInBounds j true).getD k true=false→
     (∀e∈ok.after,Region.binds md e=true→e.on≠i)→oi.apart ops ok=true:=fun k ok hk YJ XM VV=>by
    refine Dp k ok hk YJ ?_ VV
    by_cases hjk:j=k
    ·subst hjk;exact hjun
    ·rw[getD_set_ne true hjk]at XM;exact XM
   refine wpOp_mono (fun a' w' h3=> ?_) h2;obtain⟨hy',K',hK,hs,ht⟩:=h3;refine⟨K',hK,hs,ih (listed.setIfInBounds j true) K' a' w' TB (ready_mono hr (Ne.symm hji)) (YieldsIf.mono hy' fun Tp WM c hc=>(WM c (hK c hc)).trans (hs c hc)) ?_⟩;rw[Array.setIfInBounds_comm _ _ hji];exact ht
end
theorem J7{Y:Type}{f:Nat→List Bool→Option Y}{y:Y}:∀{rs:ZD},(∀ω,Mx f rs ω=some y)→ ∀i∈rs,∀ω,f i ω=some y
 |[i],h,j,hj,ω=>by
  simp at hj;subst hj;exact h ω
 |i::j::r,h,k,hk,ω=>by
  rcases Z1.1 hk with rfl|hk
  ·exact h (true::ω)
  ·exact J7 (rs:=j::r) (fun ω=>h (false::ω)) k hk ω
theorem N1{σ:St}{t:Nat}{b:Bool}(e:σ.tm[t]? =some (.c (.v .bool b))):σ.put (some t) (.c (.v .bool b))=σ:=by
 simp only[St.put];obtain⟨tm,bx⟩:=σ;simp only[St.mk.injEq,Z_];obtain⟨CK,he⟩:=ZS.1 e;apply aW;intro i;rw[aK];split
 ·rename_i e1;subst e1;exact e.symm
 ·rfl
theorem Mk{Y I:Type}[Nonempty I]{C:Ls}{ops:Array Oper}{o:Oper}{kn:I→St→Option Y}{σ:St}{y:Y}{E:Env}{a:Act}{w:World}(h:Rel E σ a w)
  (e:∀ω,Pk C ops o (kn ω) σ=some y):
  (Region.wanted o (yielded ops a.tmps)=true∧ ∀ω,(FC C.T C.Γ o σ fun x σ' =>kn ω (σ'.put o.dst x))=some y)∨
  (Region.wanted o (yielded ops a.tmps)=false∧ ∀ω,kn ω (σ.put o.dst (.D6 []))=some y):=by
 unfold Pk at e;cases hg:o.guard with
 |none=>
  simp only[hg]at e;exact .inl ⟨by simp[Region.wanted,hg],e⟩
 |some q=>
  obtain⟨j,want⟩:=q;simp only[hg]at e;cases ht:(ops[j]?).bind (·.dst)with
  |none=>
   simp only[ht]at e;obtain⟨i0⟩:= ‹Nonempty I›;cases e i0
  |some t=>
   simp only[ht]at e;obtain⟨i0⟩:= ‹Nonempty I›;have e0:=e i0;split at e0
   ·rename_i b hb
    simp only[hb]at e;obtain⟨v,hv,hx⟩:=h.tmp hb;have Uf:=Dx (E:=E) (w:=w) (vw:=σ.bx) hx;subst Uf;have hy:yielded ops a.tmps j=some b:=by rw[Gg ht hv];rfl
    have hk:=N1 hb;cases b with
    |true=>
     simp only[aL,tt,hk]at e;cases want with
     |true=>exact .inl ⟨by simp[Region.wanted,hg,hy],fun ω=>by simpa using e ω⟩
     |false=>exact .inr ⟨by simp[Region.wanted,hg,hy],fun ω=>by simpa using e ω⟩
    |false=>
     simp only[Z4,ff,hk]at e;cases want with
     |true=>exact .inr ⟨by simp[Region.wanted,hg,hy],fun ω=>by simpa using e ω⟩
     |false=>exact .inl ⟨by simp[Region.wanted,hg,hy],fun ω=>by simpa using e ω⟩
   ·rename_i hb
    simp only[hb]at e;obtain⟨v,hv,vs,rfl,hx⟩:=h.tmp hb;have hy:yielded ops a.tmps j=none:=by rw[Gg ht hv];rfl
    exact .inr ⟨by simp[Region.wanted,hg,hy],e⟩
   ·cases e0
theorem RO{ops:Array Oper}{o:Oper}{σ:St}{E:Env}{a:Act}{w:World}(h:Rel E σ a w)(e:idle ops σ o=true):Region.wanted o (yielded ops a.tmps)=false:=by
 unfold idle at e;cases hg:o.guard with
 |none=>simp[hg]at e
 |some q=>
  obtain⟨j,want⟩:=q;simp only[hg]at e;cases ht:(ops[j]?).bind (·.dst)with
  |none=>simp[ht]at e
  |some t=>
   simp only[ht]at e;split at e
   ·rename_i b hb
    obtain⟨v,hv,hx⟩:=h.tmp hb;have Uf:=Dx (E:=E) (w:=w) (vw:=σ.bx) hx;subst Uf;have hy:yielded ops a.tmps j=some b:=by rw[Gg ht hv];rfl
    cases b<;>cases want<;>simp_all[Region.wanted]
   ·rename_i hb
    obtain⟨v,hv,vs,rfl,hx⟩:=h.tmp hb;have hy:yielded ops a.tmps j=none:=by rw[Gg ht hv];rfl
    simp[Region.wanted,hg,hy]
   ·cases e
theorem Mc{Y I:Type}[Nonempty I]{C:Ls}{ops:Array Oper}{i:Nat}{o:Oper}(ho:ops[i]? =some o){kn:I→St→Option Y}{σ:St}{y:Y}{E:Env}{a:Act}{w:World}(h:Rel E σ a w)
  (e:∀ω,PV C ops i (kn ω) σ=some y):
  (Region.wanted o (yielded ops a.tmps)=true∧ ∀ω,(FC C.T C.Γ o σ fun x σ' =>kn ω (σ'.put o.dst x))=some y)∨
  (Region.wanted o (yielded ops a.tmps)=false∧ ∀ω,kn ω (σ.put o.dst (.D6 []))=some y):=
 Mk h fun ω=>by
  have:=e ω;unfold PV at this;simpa only[ho]using this
theorem Qm{hint t:ZD}{E E':Env}{bx DN:List Bx}{w w':World}(h:DZ t E bx w E' DN w')(ht:∀b∈t,b∉hint)(ha:∀b∈hint,JW DN b=false):
  (∀c,U4 hint E w bx c→U4 hint E' w' DN c)∧Kt (U4 hint E w bx) w w':=by
 have key:∀n B,n∈hint→bx[n]? =some B→ ∃B',DN[n]? =some B'∧EZ B B'∧ ∀c,Ob E w n B c→w'.heap[c]? =w.heap[c]?:=by
  intro n B hn hB;have hd:=ha n hn;unfold JW at hd;split at hd
  ·cases hd
  ·rename_i B' Hm D2
   obtain⟨h1,h2⟩:=h.frame n B B' (fun hm=>ht n hm hn) hB D2 Hm;exact⟨B',D2,h1,h2⟩
  ·cases hd
 refine⟨fun c hc=> ?_,fun c hc=> ?_⟩
 ·rcases hc with hc|⟨n,B,hn,hB,hc⟩
  ·exact .inl (h.base.T c hc)
  ·obtain⟨B',D2,hs,hh⟩:=key n B hn hB
   have hid:=h.ids n (ZS.1 hB).1;refine .inr ⟨n,B',hn,D2,?_⟩;cases B with
   |mem cs=>
    cases B' with
    |mem G2=>simp only[Ob]at hc⊢;rw[hid.1];exact hc
    |sl _ _ _=>exact hs.elim
    |dead=>exact hs.elim
   |sl d r rows=>
    cases B' with
    |mem G2=>exact hs.elim
    |dead=>exact hs.elim
    |sl d' r' rows' =>
     simp only[EZ,Zc]at hs;obtain⟨rfl,hs⟩:=hs;obtain rfl:=Zw hs;simp only[Ob]at hc⊢;rw[hid.2];exact KW (fun d hd=>hh d hd) hc
   |dead=>exact hc.elim
 ·rcases hc with hc|⟨n,B,hn,hB,hc⟩
  ·exact h.base.heap c hc
  ·obtain⟨B',_,_,hh⟩:=key n B hn hB
   exact hh c hc
theorem Fy{Y:Type}{C:Ls}{hint:ZD}{ops:Array Oper}{kn:List Bool→St→Option Y}{fuel:Nat}{listed:Array Bool}{ω:List Bool}{σ:St}{y:Y}(e:EJ C hint ops kn fuel listed ω σ=some y):∀b∈hint,JW σ.bx b=false:=by
 unfold EJ at e;split at e
 ·rename_i h
  intro b hb;simpa using(aI.1 h) b hb
 ·cases e
theorem NM{Y:Type}{P:Program}{C:Ls}(hT:Av P C.T)(hΓ:H_ P C.Γ){E0:Env}{w0:World}{N nb:Nat}{hint:ZD}{ops:Array Oper}{kn:List Bool→St→Option Y}{y:Y}{Q:Exit→Act→World→Prop}
  (Qj:Region.noSelect ops=true) (hP:∀c a w,¬Q (.panic c) a w) (hk:∀E σ a w,Ok E0 w0 N nb E σ a w→(∀ω,kn ω σ=some y)→Q .normal a w):
  ∀(fuel:Nat) {listed:Array Bool} {E:Env} {σ:St} {a:Act} {w:World},Ok E0 w0 N nb E σ a w→(∀ω,EJ C hint ops kn fuel listed ω σ=some y)→OU P .any ops Q fuel listed (U4 hint E w σ.bx) a w:=by
 intro fuel
 induction fuel with
 |zero=>
  intro listed E σ a w h e;have e1:=fun ω=>e ω
  unfold EJ at e1;have QF:=Fy (e []);have Tg:(hint.all fun b=> !JW σ.bx b)=true:=aI.2 fun b hb=>by simp[QF b hb]
  simp only[Tg,an]at e1;cases hr:Region.ready .any ops listed with
  |nil=>
   simp only[hr]at e1;exact⟨hr,hk E σ a w h e1⟩
  |cons i rs=>
   simp only[hr]at e1;cases e1 []
 |succ fuel ih=>
  intro listed E σ a w h e;have e1:=fun ω=>e ω
  unfold EJ at e1;have QF:=Fy (e []);have Tg:(hint.all fun b=> !JW σ.bx b)=true:=aI.2 fun b hb=>by simp[QF b hb]
  simp only[Tg,an]at e1;cases hr:Region.ready .any ops listed with
  |nil=>
   simp only[hr]at e1;exact⟨fun _=>hk E σ a w h e1,by rw[hr];simp⟩
  |cons i0 rs=>
   simp only[hr]at e1;cases hf:(i0::rs).find? (Kk hint ops listed σ)with
   |some i=>
    simp only[hf]at e1;have hi:=List.mem_of_find?_eq_some hf
    have ht:=List.find?_some hf
    unfold Kk at ht;cases ho:ops[i]? with
    |none=>rw[ho]at ht;cases ht
    |some o=>
     simp only[ho,Zg]at ht;have Dp:=Region.free_spec ho ht.2;rw[←hr]at hi;have hy:=Mc (I:=List Bool) (kn:=fun ω σ' =>EJ C hint ops kn fuel (listed.setIfInBounds i true) ω σ') ho h.rel e1;rcases hy with⟨hw,hx⟩|⟨hw,hx⟩
     ·have hq:I0 hint σ o.op=true:=by
       rcases bB _ _▸ht.1 with hq|hi
       ·exact hq
       ·rw[RO h.rel hi]at hw
        cases hw
      obtain⟨x,σ',hx0,hx1⟩:=JN hx;obtain⟨v,x',q1,q2,q3⟩:=O9 hT h.rel hq hx0;simp only[k0,ZU,Zz]at q2;obtain⟨rfl,rfl⟩:=q2;have GU:=ih (h.put o.dst q1) hx1;have Ip:(σ.put o.dst x').bx=σ.bx:=by cases o.dst<;>rfl
      rw[Ip]at GU;exact J0 ho (Region.noSelect_spec Qj) hP fuel listed _ a w Dp hi (.inl ⟨hw,q3⟩) GU
     ·have GU:=ih (h.put o.dst LB) hx
      have Ip:(σ.put o.dst (.D6 [])).bx=σ.bx:=by cases o.dst<;>rfl
      rw[Ip]at GU;exact J0 ho (Region.noSelect_spec Qj) hP fuel listed _ a w Dp hi (.inr ⟨hw,rfl⟩) GU
   |none=>
    simp only[hf]at e1;have Es:=J7 e1;refine⟨fun h0=>(by rw[h0]at hr;cases hr),fun i hi=> ?_⟩;rw[hr]at hi;have hx:=Es i hi;cases ho:ops[i]? with
    |none=>
     simp only[ho]at hx;cases hx []
    |some o=>
     simp only[ho]at hx;have XY:(BZ C.Γ σ o.op).all (fun b=> !hint.contains b)=true:=by
      have:=hx [];split at this
      ·rename_i hh;exact hh
      ·cases this
     simp only[XY,an]at hx;have X5:∀b∈BZ C.Γ σ o.op,b∉hint:=fun b hb hh=>by
      have:=(aI.1 XY) b hb;simp[hh]at this
     unfold wpOp;simp only[ho];rcases Mc (I:=List Bool) (kn:=fun ω σ' =>EJ C hint ops kn fuel (listed.setIfInBounds i true) ω σ') ho h.rel hx with⟨hw,hx⟩|⟨hw,hx⟩
     ·rw[Zn hw]
      obtain⟨x,σ',hx0,hx1⟩:=JN hx;refine .inl (PZ hT hΓ h.rel hx0 fun v w' E' x' σ'' g1 g2 g3 g4 g5=> ?_);simp only[k0,ZU,Zz]at g5;obtain⟨rfl,rfl⟩:=g5;have Ip:(σ''.put o.dst x').bx=σ''.bx:=by cases o.dst<;>rfl
      have T9:=Fy (hx1 []);rw[Ip]at T9;obtain⟨k1,k2⟩:=Qm g3 X5 T9;have GU:=ih ((h.next g1 g3 g4).put o.dst g2) hx1;rw[Ip]at GU;exact⟨_,k1,k2,GU⟩
     ·rw[Zp (by simp[hw])]
      have GU:=ih (h.put o.dst LB) hx;have Ip:(σ.put o.dst (.D6 [])).bx=σ.bx:=by cases o.dst<;>rfl
      rw[Ip]at GU;exact⟨_,fun _ h=>h,Kt.refl _ _,GU⟩
end Go.Fw
end
section
namespace Go.Fw
theorem Rel.heap{E:Env}{σ:St}{a:Act}{w w':World}(h:Rel E σ a w)(hw:w'.heap=w.heap):Rel E σ a w':=by
 have keep:D5 E w σ.bx E w' σ.bx:=by
  refine⟨Zx _,fun _ _=>rfl,fun _ h=>h,fun _ h=>h,h.bx.st,fun _ _=>by rw[hw],fun b d r rows hb e=>⟨d,rows,e,fun p hp q ys hg=>⟨hp,⟨ys,hg,rfl⟩,fun hh he=> ?_⟩⟩⟩;obtain⟨Fs,⟨f1,f2⟩,_⟩:=h.bx;have hF:Fs[b]? =some (Fs[b]'(by have:=(ZS.1 e).1;omega)):=ZT _;exact NV (f2 b _ _ e hF).2 (fun _ _=>by rw[hw]) (fun _ _=>by rw[hw]) hp hg he
 exact⟨h.Cg,h.tm.imp fun _ _ hx=>C2 keep hx,h.bx.turn (fun _ _ hv=>A3 keep hv) (fun _ h=>h) (fun _ _=>rfl) (fun _ _=>rfl) (fun _ _ _=>by rw[hw]) fun F hF=>⟨hF.nodup,hF.free,fun c hc=>by rw[hw];exact hF.lt c hc,hF.st,fun c hc=>by rw[hw];exact hF.HU c hc,hF.NY.mono (fun _ h=>h) (fun _ _=>by rw[hw])⟩⟩
theorem Ok.drawn{E0 E:Env}{w0 w:World}{N nb:Nat}{σ:St}{a:Act}(h:Ok E0 w0 N nb E σ a w)(n:Nat):Ok E0 w0 N nb E σ a { w with drawn:=n }:=
 ⟨h.rel.heap rfl,⟨h.base.T,h.base.S,h.base.Rq,h.base.Pe,h.base.heap,h.base.os,h.base.tape,h.base.output,h.base.size⟩,h.tm,h.Lt,h.ids⟩
theorem JQ{Y I:Type}[Nonempty I]{P:Program}{C:Ls}(hT:Av P C.T)(hΓ:H_ P C.Γ){E0:Env}{w0:World}{N nb:Nat}{all:Array Oper}{kn:I→St→Option Y}{y:Y}{Q:Exit→Act→World→Prop}
  (hk:∀E σ a w,Ok E0 w0 N nb E σ a w→(∀ω,kn ω σ=some y)→Q .normal a w):∀{l:List Oper} {E:Env} {σ:St} {a:Act} {w:World},Ok E0 w0 N nb E σ a w→(∀ω,NT C all l (kn ω) σ=some y)→wpList P all Q l a w
 |[],E,σ,a,w,h,e=>hk E σ a w h e
 |o::rest,E,σ,a,w,h,e=>by
  unfold wpList;rcases Mk (kn:=fun ω σ=>NT C all rest (kn ω) σ) h.rel e with⟨hw,hx⟩|⟨hw,hx⟩
  ·rw[Zn hw]
   obtain⟨x,σ',hx0,hx1⟩:=JN hx;refine .inl (PZ hT hΓ h.rel hx0 fun v w' E' x' σ'' g1 g2 g3 g4 g5=> ?_);simp only[k0,ZU,Zz]at g5;obtain⟨rfl,rfl⟩:=g5;exact JQ hT hΓ hk ((h.next g1 g3 g4).put o.dst g2) hx1
  ·rw[Zp (by simp[hw])]
   exact JQ hT hΓ hk (h.put o.dst LB) hx
def Ct(P:Program)(body:Code)(Q:Exit→Act→World→Prop)(a:Act)(w:World):Prop:=
 ∀(b:Frame) (k:List Item) (cs:List Frame),∃e a' w',Q e a' w'∧Arrives P (lone (b.at a (.code body:: .inLoop body::k)) cs w) b k cs e a' w'
theorem Ct.wp{P:Program}{body:Code}{Q:Exit→Act→World→Prop}{a:Act}{w:World}(h:Ct P body Q a w):(Code.loop body).wp P Q a w:=fun b k cs=>by
 obtain⟨e,a',w',hq,IG⟩:=h b k cs;exact⟨e,a',w',hq,.of_steps (.one step_loop) IG⟩
theorem Ct.SL{P:Program}{body:Code}{Q:Exit→Act→World→Prop}{a:Act}{w:World}(h:body.wp P (Exit.then (Ct P body Q) Q) a w):Ct P body Q a w:=fun b k cs=>by
 obtain⟨e,a₁,w₁,hq,IG⟩:=h b (.inLoop body::k) cs;cases e with
 |normal=>
  obtain⟨e₂,a₂,w₂,hq₂,harr₂⟩:=hq b k cs;exact⟨e₂,a₂,w₂,hq₂,.of_steps (Steps.trans IG (.one step_inLoop)) harr₂⟩
 |exit id=>exact⟨_,a₁,w₁,hq,.pass (x:= .inLoop body) rfl (fun _ _=> .inl (by simp)) IG⟩
 |goto l=>exact⟨_,a₁,w₁,hq,.pass (x:= .inLoop body) rfl (fun _ _=> .inl (by simp)) IG⟩
 |ret=>exact⟨_,a₁,w₁,hq,.pass (x:= .inLoop body) rfl (fun _ _=> .inl (by simp)) IG⟩
 |panic ch=>exact⟨_,a₁,w₁,hq,.pass (x:= .inLoop body) rfl (fun _ _=> .inl (by simp)) IG⟩
 |outgrown=>exact⟨_,a₁,w₁,hq,.pass (x:= .inLoop body) rfl (fun _ _=> .inl (by simp)) IG⟩
abbrev Jd:=Exit→Act→World→Prop
def At(P:Program):Code→Jd→Nat→Code→Jd→Prop
 | .seq a b,Q,ℓ,body,Q' =>At P a (Exit.then (b.wp P Q) Q) ℓ body Q'∨At P b Q ℓ body Q'
 | .cond _ a b,Q,ℓ,body,Q' =>At P a Q ℓ body Q'∨At P b Q ℓ body Q'
 | .block id c,Q,ℓ,body,Q' =>At P c (Exit.inBlock id Q) ℓ body Q'
 | .loop c,Q,ℓ,body,Q' =>(first c= ℓ ∧body=c∧Q' =Q)∨At P c (Exit.then (Ct P c Q) Q) ℓ body Q'
 |_,_,_,_,_=>False
def HQ(Q:Jd):Prop:= ∀c a w,¬Q (.panic c) a w
theorem HQ.then{Q:Jd}(h:HQ Q)(n:Act→World→Prop):HQ (Exit.then n Q):=fun c a w hq=>h c a w hq
theorem HQ.inBlock{Q:Jd}(h:HQ Q)(id:Nat):HQ (Exit.inBlock id Q):=fun c a w hq=>h c a w hq
section
variable{Y:Type} {P:Program} {C:Ls} (hT:Av P C.T) (hΓ:H_ P C.Γ) (hm:P.follows .mixedOrders=true) {E0:Env} {w0:World} {N nb:Nat} {y:Y} {J:Nat→St→Option Y}
structure Good (E0:Env) (w0:World) (N nb:Nat) (y:Y) (kn:KN Y) (kx:Nat→KN Y) (kr:KN Y) (Q:Jd):Prop where
 n:∀E σ a w,Ok E0 w0 N nb E σ a w→(∀ω,kn ω σ=some y)→Q .normal a w
 x:∀id E σ a w,Ok E0 w0 N nb E σ a w→(∀ω,kx id ω σ=some y)→Q (.exit id) a w
 r:∀E σ a w,Ok E0 w0 N nb E σ a w→(∀ω,kr ω σ=some y)→Q .ret a w
def Sq(P:Program)(E0:Env)(w0:World)(N nb:Nat)(y:Y)(J:Nat→St→Option Y)(cd:Code)(Q:Jd):Prop:=
 ∀ ℓ body Q',At P cd Q ℓ body Q'→ ∀E σ a w,Ok E0 w0 N nb E σ a w→J ℓ σ=some y→Ct P body Q' a w
include hT hΓ hm in
theorem PK:∀{cd:Code} {kn:KN Y} {kx:Nat→KN Y} {kr:KN Y} {Q:Jd} {E:Env} {σ:St} {a:Act} {w:World},HQ Q→Good E0 w0 N nb y kn kx kr Q→Sq P E0 w0 N nb y J cd Q→Ok E0 w0 N nb E σ a w→
  (∀ω,run C J cd kn kx kr ω σ=some y)→cd.wp P Q a w:=by
 intro cd
 induction cd with
 |skip=>intro kn kx kr Q E σ a w hp hg hj h e;exact wp_skip (hg.n E σ a w h e)
 |region id ops draw=>
  intro kn kx kr Q E σ a w hp hg hj h e;simp only[run]at e;cases draw with
  |false=>
   simp only[Z6,aV]at e;exact wp_region_list (JQ hT hΓ hg.n h e)
  |true=>
   simp only[an]at e;have hs:Region.noSelect ops=true:=by
    have:=e [];split at this
    ·rename_i hh;exact hh
    ·cases this
   simp only[hs,an]at e;exact wp_region_any hm (Mb _ _ _ _ _ (NM hT hΓ hs hp hg.n _ (h.drawn _) e))
 |seq x z ihx ihz=>
  intro kn kx kr Q E σ a w hp hg hj h e;simp only[run]at e;refine wp_seq (ihx (hp.then _) ⟨fun E σ a w h e=>ihz hp hg (fun ℓ body Q' DY=>hj ℓ body Q' (.inr DY)) h e,fun id E σ a w h e=>hg.x id E σ a w h e,hg.r⟩ (fun ℓ body Q' DY=>hj ℓ body Q' (.inl DY)) h e)
 |cond c x z ihx ihz=>
  intro kn kx kr Q E σ a w hp hg hj h e;cases c with
  |tmp t=>
   simp only[run]at e;have e0:=e [];split at e0
   ·rename_i b hb
    simp only[hb]at e;obtain⟨v,hv,hx⟩:=h.rel.tmp hb;have Uf:=Dx (E:=E) (w:=w) (vw:=σ.bx) hx;subst Uf;have VD:a.eval (.tmp t)= .bool b:=by simp[Act.eval,aQ,hv]
    have hk:=N1 hb;cases b with
    |true=>
     simp only[aL,tt,hk]at e;exact wp_cond_true VD (ihx hp hg (fun ℓ body Q' DY=>hj ℓ body Q' (.inl DY)) h e)
    |false=>
     simp only[Z4,ff,hk]at e;exact wp_cond_false VD (ihz hp hg (fun ℓ body Q' DY=>hj ℓ body Q' (.inr DY)) h e)
   ·cases e0
  |_=>cases e []
 |block id c ih=>
  intro kn kx kr Q E σ a w hp hg hj h e;simp only[run]at e;refine wp_block (ih (hp.inBlock id) ⟨hg.n,fun j E σ a w h e=> ?_,hg.r⟩ (fun ℓ body Q' DY=>hj ℓ body Q' DY) h e);simp only[Exit.inBlock];split
  ·rename_i hid
   simp only[hid,an]at e;exact hg.n E σ a w h e
  ·rename_i hid
   simp only[hid,aV]at e;exact hg.x j E σ a w h e
 |loop body ih=>
  intro kn kx kr Q E σ a w hp hg hj h e;simp only[run]at e;exact Ct.wp (hj (first body) body Q (.inl ⟨rfl,rfl,rfl⟩) E σ a w h (e []))
 |exit id=>intro kn kx kr Q E σ a w hp hg hj h e;exact wp_exit (hg.x id E σ a w h e)
 |ret=>intro kn kx kr Q E σ a w hp hg hj h e;exact wp_ret (hg.r E σ a w h e)
 |_=>intro kn kx kr Q E σ a w hp hg hj h e;cases e []
end
end Go.Fw
end
section
namespace Go.Fw
def labels:Code→List Nat
 | .seq a b=>labels a++labels b
 | .cond _ a b=>labels a++labels b
 | .block _ c=>labels c
 | .loop c=>first c::labels c
 |_=>[]
theorem At.label{P:Program}:∀{cd:Code} {Q:Jd} {ℓ :Nat} {body:Code} {Q':Jd},At P cd Q ℓ body Q'→ ℓ ∈labels cd
 | .seq a b,Q,ℓ,body,Q',h=>by
  simp only[labels,Zk];exact h.imp At.label At.label
 | .cond _ a b,Q,ℓ,body,Q',h=>by
  simp only[labels,Zk];exact h.imp At.label At.label
 | .block _ c,Q,ℓ,body,Q',h=>At.label (cd:=c) h
 | .loop c,Q,ℓ,body,Q',h=>by
  simp only[labels,Z1];exact h.imp (fun h=>h.1.symm) At.label
section
variable{Y:Type} {P:Program} {C:Ls} (hT:Av P C.T) (hΓ:H_ P C.Γ) (hm:P.follows .mixedOrders=true) {E0:Env} {w0:World} {N nb:Nat} {y:Y} {J:Nat→St→Option Y}
theorem DT{ℓ :Nat}:∀{cd:Code} {kn:KN Y} {kx:Nat→KN Y} {kr:KN Y},ℓ ∉labels cd→find C J ℓ cd kn kx kr=none
 | .seq a b,kn,kx,kr,h=>by
  simp only[labels,Zk,not_or]at h;simp only[find];rw[DT h.1];exact DT h.2
 | .cond _ a b,kn,kx,kr,h=>by
  simp only[labels,Zk,not_or]at h;simp only[find];rw[DT h.1];exact DT h.2
 | .block _ c,kn,kx,kr,h=>by simp only[find];exact DT (cd:=c) h
 | .loop c,kn,kx,kr,h=>by
  simp only[labels,Z1,not_or]at h;simp only[find];rw[Zp (fun e=>h.1 e.symm)];exact DT h.2
 | .skip,_,_,_,_=>rfl
 | .region _ _ _,_,_,_,_=>rfl
 | .rangeFunc _ _ _ _,_,_,_,_=>rfl
 | .exit _,_,_,_,_=>rfl
 | .scope _,_,_,_,_=>rfl
 | .label _,_,_,_,_=>rfl
 | .goto _,_,_,_,_=>rfl
 | .ret,_,_,_,_=>rfl
 | .refuse _,_,_,_,_=>rfl
include hT hΓ hm in
theorem SH{ℓ :Nat}:∀{cd:Code} {kn:KN Y} {kx:Nat→KN Y} {kr:KN Y} {Q:Jd} {body:Code} {Q':Jd},(labels cd).Nodup→HQ Q→Good E0 w0 N nb y kn kx kr Q→Sq P E0 w0 N nb y J cd Q→At P cd Q ℓ body Q'→
  ∃kn' kx' kr',find C J ℓ cd kn kx kr=some (fun ω σ=>run C J body (fun _ σ=>J ℓ σ) kx' kr' ω σ)∧Good E0 w0 N nb y kn' kx' kr' Q'∧HQ Q'∧Sq P E0 w0 N nb y J body (Exit.then (Ct P body Q') Q'):=by
 intro cd
 induction cd with
 |seq a b iha ihb=>
  intro kn kx kr Q body Q' hn hp hg hj DY;simp only[labels,Za]at hn;obtain⟨n1,n2,n3⟩:=hn;have YV:Sq P E0 w0 N nb y J a (Exit.then (b.wp P Q) Q):=fun ℓ body Q' DY=>hj ℓ body Q' (.inl DY)
  have W6:Sq P E0 w0 N nb y J b Q:=fun ℓ body Q' DY=>hj ℓ body Q' (.inr DY)
  simp only[find];rcases DY with DY|DY
  ·obtain⟨kn',kx',kr',h1,h2⟩:=iha n1 (hp.then _) (kn:=fun ω σ=>run C J b kn kx kr ω σ) (kx:=kx) (kr:=kr)
    ⟨fun E σ a w h e=>PK hT hΓ hm hp hg W6 h e,fun id E σ a w h e=>hg.x id E σ a w h e,hg.r⟩ YV DY
   exact⟨kn',kx',kr',by rw[h1],h2⟩
  ·have: ℓ ∉labels a:=fun h=>n3 ℓ h ℓ DY.label rfl
   rw[DT this];exact ihb n2 hp hg W6 DY
 |cond c a b iha ihb=>
  intro kn kx kr Q body Q' hn hp hg hj DY;simp only[labels,Za]at hn;obtain⟨n1,n2,n3⟩:=hn;simp only[find];rcases DY with DY|DY
  ·obtain⟨kn',kx',kr',h1,h2⟩:=iha n1 hp hg (fun ℓ body Q' DY=>hj ℓ body Q' (.inl DY)) DY
   exact⟨kn',kx',kr',by rw[h1],h2⟩
  ·have: ℓ ∉labels a:=fun h=>n3 ℓ h ℓ DY.label rfl
   rw[DT this];exact ihb n2 hp hg (fun ℓ body Q' DY=>hj ℓ body Q' (.inr DY)) DY
 |block id c ih=>
  intro kn kx kr Q body Q' hn hp hg hj DY;simp only[find];refine ih hn (hp.inBlock id) ⟨hg.n,fun j E σ a w h e=> ?_,hg.r⟩ (fun ℓ body Q' DY=>hj ℓ body Q' DY) DY;simp only[Exit.inBlock];split
  ·rename_i hid
   simp only[hid,an]at e;exact hg.n E σ a w h e
  ·rename_i hid
   simp only[hid,aV]at e;exact hg.x j E σ a w h e
 |loop c ih=>
  intro kn kx kr Q body Q' hn hp hg hj DY;simp only[labels,aX]at hn;have Wc:Sq P E0 w0 N nb y J c (Exit.then (Ct P c Q) Q):=fun ℓ body Q' DY=>hj ℓ body Q' (.inr DY)
  simp only[find];by_cases hl:first c= ℓ
  ·rw[Zn hl]
   rcases DY with⟨_,rfl,rfl⟩|DY
   ·exact⟨kn,kx,kr,rfl,hg,hp,Wc⟩
   ·exact absurd (hl▸DY.label) hn.1
  ·rw[Zp hl]
   rcases DY with⟨h,_⟩|DY
   ·exact absurd h hl
   ·exact ih hn.2 (hp.then _) ⟨fun E σ a w h e=>hj (first c) c Q (.inl ⟨rfl,rfl,rfl⟩) E σ a w h (e []),fun id E σ a w h e=>hg.x id E σ a w h e,hg.r⟩ Wc DY
 |_=>intro kn kx kr Q body Q' hn hp hg hj DY;exact DY.elim
end
theorem Iv{E:Env}{w:World}{vw:List Bx}:∀{l:List (Nat×XP)} {x:A5.V l} {vals:List Value} {tm:List XV},Cc E w vw id l x vals→AJ (XR E w vw) tm vals→AJ (XR E w vw) (A5.mk id l x tm) vals
 |[],_,_,_,_,h=>h
 |(i,p)::l,x,vals,tm,hs,h=>by
  obtain⟨⟨v,hv,hx⟩,hs⟩:=hs;simp only[A5.mk];refine Iv hs ?_
  have:=AJ.set (i:=i) h hx;have e:vals.set i v=vals:=by
   apply aW;intro j;rw[aK];split
   ·rename_i e;subst e
    rw[Zn (ZS.1 hv).1,hv]
   ·rfl
  rwa [e]at this
theorem AJ.undef{E:Env}{w:World}{vw:List Bx}:∀{vals:List Value} {n:Nat},n=vals.length→AJ (XR E w vw) (List.replicate n (.c .undef)) vals
 |[],n,h=>by subst h;trivial
 |v::vals,n,h=>by
  subst h;simp only[Zj,aa];exact⟨trivial,AJ.undef rfl⟩
theorem NQ.shared{E E1:Env}{w:World}{bx:List Bx}{m:DB}{s:C0}{x:s.V}{vals:List Value}(h:NQ E w bx m s x vals E1)(hb:AQ E w bx bx []):
  ∃E2,E2.BR=E1.BR∧E2.BT=E1.BT∧Hw E w E2 w∧AQ E2 w (Bj.mk id s.A9 x.2) (Bj.mk id s.A9 x.2) []∧Cc E2 w (Bj.mk id s.A9 x.2) id s.Ai x.1 vals:=by
 obtain⟨Fk,k1,k2,k3,k4⟩:=h.rest
 let E2:Env:={ E1 with S:=fun c=>E1.S c∨c∈Fk.flatten }
 have Xr:=h.boxes.st;have keep:D5 E1 w (Bj.mk id s.A9 x.2) E2 w (Bj.mk id s.A9 x.2):=
  ⟨Zx _,fun _ _=>rfl,fun _ h=>h,fun _ h=> .inl h,Xr,fun _ _=>rfl,fun b d r rows _ e=>⟨d,rows,e,fun p hp q ys hg=>⟨hp,⟨ys,hg,rfl⟩,fun _ h=>h⟩⟩⟩
 refine⟨E2,rfl,rfl,⟨h.T,fun c hc=> .inl (h.S c hc),fun c hc=> ?_,fun c hc=> ?_,fun _ _=>rfl,rfl,rfl,rfl,Zx _⟩,?_,?_⟩
 ·rcases k4 c hc with h|h|h
  ·exact .inl h
  ·exact .inr (.inl h)
  ·exact .inr (.inr h)
 ·rcases hc with hc|hc
  ·exact h.Pe c hc
  ·exact .inr (k3 c hc).1
 ·refine h.boxes.turn (E':=E2) (w':=w) (fun _ _ hv=>A3 keep hv) (fun _ h=> .inl h) (fun _ _=>rfl) (fun _ _=>rfl) (fun _ _ _=>rfl) fun F hF=>⟨hF.nodup,hF.free,hF.lt,fun c hc=>hc.elim (hF.st c) fun h=>(k3 c h).2.2.2,hF.HU,hF.NY.mono (fun _ h=>h) (fun _ _=>rfl)⟩
 ·have:∀{l:List (Nat×XP)} {z:A5.V l},Cc E1 w (Bj.mk id s.A9 x.2) id l z vals→Cc E2 w (Bj.mk id s.A9 x.2) id l z vals:=by
   intro l
   induction l with
   |nil=>intro z h;trivial
   |cons q l ih=>
    obtain⟨i,p⟩:=q;intro z h;obtain⟨⟨v,hv,hx⟩,hs⟩:=h;exact⟨⟨v,hv,C2 keep hx⟩,ih hs⟩
  exact this h.Ai
theorem IQ:∀{l:List BP} {i n:Nat},(EE i n l).length=l.length
 |[],_,_=>rfl
 |_::l,i,n=>by simp[EE,IQ (l:=l)]
theorem IV:∀{l:List BP} {i n k b:Nat},(EE i n l)[k]? =some (some b)→b=i+k∧b<n∧l[k]?≠some .gone
 |[],i,n,k,b,h=>by simp[EE]at h
 |p::l,i,n,0,b,h=>by
  simp only[EE,List.getElem?_cons_zero,ZU]at h;cases p with
  |gone=>simp at h
  |mem q=>split at h<;>simp_all<;>omega
  |sl d r=>split at h<;>simp_all<;>omega
 |p::l,i,n,k+1,b,h=>by
  simp only[EE,List.getElem?_cons_succ]at h;obtain⟨h1,h2,h3⟩:=IV h;exact⟨by omega,h2,by simpa using h3⟩
theorem IE:∀{l:List BP} {i n k:Nat} {p:BP},l[k]? =some p→p≠ .gone→i+k<n→(EE i n l)[k]? =some (some (i+k))
 |q::l,i,n,0,p,h,hg,hn=>by
  simp at h;subst h;simp only[EE,List.getElem?_cons_zero,ZU];cases q with
  |gone=>exact absurd rfl hg
  |mem q=>simp at hn⊢;exact hn
  |sl d r=>simp at hn⊢;exact hn
 |q::l,i,n,k+1,p,h,hg,hn=>by
  simp only[EE,List.getElem?_cons_succ];rw[IE (l:=l) (i:=i+1) (k:=k) (by simpa using h) hg (by omega)];congr 2;omega
 |[],_,_,_,_,h,_,_=>by simp at h
theorem Lc{l:List BP}{n:Nat}:K3 (EE 0 n l):=fun i j b h k=>by
 have:=(IV h).1;have:=(IV k).1;omega
end Go.Fw
end
section
namespace Go.Fw
structure Uu (P:Program) (f:Nat) (fn:Func) (c:FX):Prop where
 at_:P.funcs[f]? =some fn
 call:∀args w,(callFunc f args).run P w= .ok (.enter f args) w
 YK:c.ok=true
 tmps:c.ins.Ai.length≤fn.ntmps
 labels:∀code,fn.body=some code→(labels code).Nodup
section
variable{P:Program} {C:Ls} (hT:Av P C.T) {E:Env} {σ:St} {a:Act} {w:World}
include hT in
theorem Qo(h:Rel E σ a w):
  ∀{rs:List ResultVar} {xs:List XV},rs.mapM (Rf C.T σ)=some xs→ ∃vs,(∀f:ResultVar→Sem Value,(∀u,f (.tmp u)=pure (a.tmps.getD u undef))→(∀b t,f (.cell b t)=(do loadVar t (←asAddr (a.tmps.getD b undef))))→
   (rs.mapM f).run P w= .ok vs w)∧AJ (XR E w σ.bx) xs vs:=by
 intro rs
 induction rs with
 |nil=>
  intro xs e;have hx:xs=[]:=by simpa using e.symm
  subst hx;exact⟨[],fun f _ _=>by simp,trivial⟩
 |cons r rs ih=>
  intro xs e;rw[bI]at e;simp only[Option.bind_eq_bind,ZW,Option.pure_def,ZU]at e;obtain⟨x,e1,ys,e2,rfl⟩:=e;obtain⟨vs,h1,h2⟩:=ih e2;have one:∃v,(∀f:ResultVar→Sem Value,(∀u,f (.tmp u)=pure (a.tmps.getD u undef))→(∀b t,f (.cell b t)=(do loadVar t (←asAddr (a.tmps.getD b undef))))→(f r).run P w= .ok v w)∧XR E w σ.bx x v:=by
   cases r with
   |tmp t=>
    simp only[Rf]at e1;obtain⟨v,hv,hx⟩:=h.tmp e1;refine⟨v,fun f hf hc=> ?_,hx⟩;rw[hf];simp[aQ,hv]
   |cell b t=>
    simp only[Rf]at e1;split at e1
    case h_2=>cases e1
    rename_i z hz;obtain⟨v,hv,hx⟩:=h.tmp hz;obtain⟨Fs,hB,hS⟩:=h.bx;cases z with
    |agg l=>simp[J3]at e1
    |D6 l=>simp[J3]at e1
    |c ad=>
     obtain⟨bb,oo,u,cell,hp,_,q2,q3⟩:=MZ hT hB hS.st e1 hx;refine⟨u,fun f hf hc=> ?_,q2⟩;have WX:a.tmps.getD b undef=v:=by simp[aQ,hv]
     have:=q3 w rfl;rw[hc,WX,hp];rw[hp]at this;simpa[Instr.loadAt,Instr.sureAddr,asAddr]using this
  obtain⟨v,g1,g2⟩:=one;refine⟨v::vs,fun f hf hc=> ?_,g2,h2⟩;rw[bI];simp[g1 f hf hc,h1 f hf hc]
theorem IM{vw:List Bx}:∀{l:List XV} {q:List (AV ⊕ List AV)} {vs:List Value},N3 l=some q→AJ (XR E w vw) l vs→AJ (TR E w vw) q vs
 |[],q,[],e,_=>by
  simp only[N3,ZU]at e;subst e;trivial
 |[],_,_::_,_,h=>h.elim
 | .c x::l,q,v::vs,e,h=>by
  simp only[N3,ZV]at e;obtain⟨r,e1,rfl⟩:=e;exact⟨h.1,IM e1 h.2⟩
 | .agg x::l,q,v::vs,e,h=>by
  simp only[N3,ZV]at e;obtain⟨r,e1,rfl⟩:=e;exact⟨h.1,IM e1 h.2⟩
 | .D6 _::_,_,_,e,_=>by simp[N3]at e
 | .c _::_,_,[],_,h=>h.elim
 | .agg _::_,_,[],_,h=>h.elim
include hT in
theorem MD(h:Rel E σ a w){fn:Func}{x:XV}(e:Kf C.T σ fn.results.toList=some x):∃v,(results fn a.tmps).run P w= .ok v w∧XR E w σ.bx x v:=by
 unfold Kf at e;have key:∀xs,fn.results.toList.mapM (Rf C.T σ)=some xs→ ∃vs:List Value,(results fn a.tmps).run P w= .ok (if h:vs.toArray.size=1 then vs.toArray[0]else .tuple vs.toArray) w∧AJ (XR E w σ.bx) xs vs:=by
  intro xs hx;obtain⟨vs,h1,h2⟩:=Qo (P:=P) hT h hx;refine⟨vs,?_,h2⟩;unfold results;rw[Array.mapM_eq_mapM_toList];simp only[Sem.run_bind,Sem.run_map];rw[h1 _ (fun _=>rfl) (fun _ _=>rfl)];simp only[Result.andThen_ok,Sem.run_pure]
 split at e
 ·rename_i z hz
  cases e;obtain⟨vs,h1,h2⟩:=key _ hz
  match vs,h2 with
  |[v],h2=>exact⟨v,by simpa using h1,h2.1⟩
  |v::_::_,h2=>exact h2.2.elim
  |[],h2=>exact h2.elim
 ·rename_i l hl hz
  simp only[ZV]at e;obtain⟨q,e1,rfl⟩:=e;obtain⟨vs,h1,h2⟩:=key _ hz;have Hm: ¬vs.toArray.size=1:=fun hs=>by
   have:=AJ.len h2
   match l,this with
   |[z],_=>exact hl z rfl
   |[],t=>simp at t hs;omega
   |_::_::_,t=>simp at t hs;omega
  rw[dif_neg Hm]at h1;exact⟨_,h1,vs.toArray,rfl,by simpa using IM e1 h2⟩
 ·cases e
end
theorem H5{E:Env}{w:World}{vw:List Bx}{more:List Value}:∀{l:List (Nat×XP)} {x:A5.V l} {vals:List Value},Cc E w vw id l x vals→Cc E w vw id l x (vals++more)
 |[],_,_,_=>trivial
 |(i,p)::l,x,vals,h=>by
  obtain⟨⟨v,hv,hx⟩,hs⟩:=h;exact⟨⟨v,by rw[ZX (ZS.1 hv).1];exact hv,hx⟩,H5 hs⟩
def PX(C:Ls)(c:FX)(fn:Func)(code:Code)(J:Nat→Nat→St→Option c.outs.V):Prop:=
 ∀ ℓ,ℓ ∈labels code→ ∃(s:C0) (F:Nat→s.V→Option c.outs.V),(∀n,J n ℓ =jump c.ins.A9.length s (F n))∧(∀v,F 0 v=none)∧
  ∀n v y,F (n+1) v=some y→ ∀ω,N5 C c fn (J n) ℓ ω (s.st fn.ntmps v)=some y
section
variable{P:Program} {C:Ls} (hT:Av P C.T) (hΓ:H_ P C.Γ) (hm:P.follows .mixedOrders=true) {fn:Func} {c:FX}
def Tj(c:FX)(E0:Env)(w0:World)(u:c.outs.V)(e:Ending)(w':World):Prop:=
 ∃x E',e= .returned x∧Hw E0 w0 E' w'∧AQ E' w' (Bj.mk id c.outs.A9 u.2) (Bj.mk id c.outs.A9 u.2) []∧
  Cc E' w' (Bj.mk id c.outs.A9 u.2) id c.outs.Ai u.1 [x]∧ ∀i,i<c.ins.A9.length→alive c.outs.A9 i=true→E'.BR i=E0.BR i∧E'.BT i=E0.BT i
theorem Ok.opens{E0 E:Env}{w0 w:World}{N nb:Nat}{σ:St}{a:Act}(h:Ok E0 w0 N nb E σ a w)(s:C0):∃E',Ok E0 w0 N nb E' { σ with bx:=s.opens σ.bx } a w∧
  (∀(i:Nat) d r,s.A9[i]? =some (.sl d r)→E'.BT (σ.bx.length+i)= .slice none 0 0)∧(∀x v,XR E w σ.bx x v→XR E' w (s.opens σ.bx) x v):=by
 obtain⟨E',h1,h2,h3,h4⟩:=MX h.rel s;exact⟨E',h.next h1 h2 rfl,h3,h4⟩
theorem Qr{E E':Env}{w:World}{vw:List Bx}{b:Nat}(h:Le E E')(st:∀c,E.S c→E.T c):D5 E w vw E' w (vw.set b .dead):=by
 refine⟨by simp,fun b _=>by rw[h.BR],h.T,h.S,st,fun _ _=>rfl,fun c d r rows _ e=> ?_⟩;by_cases hc:c=b
 ·subst hc
  rw[aK]at e;simp only[an]at e;split at e<;>cases e
 ·rw[ZZ (fun e=>hc e.symm)]at e
  exact⟨d,rows,e,fun p hp q ys hg=>⟨hp,⟨ys,hg,rfl⟩,fun h' hh=>by rw[h.BT];exact hh⟩⟩
theorem SD{E:Env}{σ:St}{a:Act}{w:World}(h:Rel E σ a w)(b:Nat):∃E',Rel E' (σ.LY b) a w∧Le E E':=by
 unfold St.LY;split
 case h_2=>exact⟨E,h,Le.refl E⟩
 rename_i d r rows hb;obtain⟨F,hF,hB⟩:=h.bx.take hb;have Ey:AQ E w σ.bx (σ.bx.set b .dead) ([]++F++[]):=by simpa using hB
 obtain⟨hle,hB3⟩:=Ey.share;have hk:=Qr (vw:=σ.bx) (b:=b) (w:=w) hle h.bx.st;have SM:D5 E w σ.bx { E with S:=fun c=>E.S c∨c∈F,T:=fun c=>E.T c∨c∈F } w ((σ.bx.set b .dead).map (Bx.LY b r rows)):=by
  refine⟨by simp,hk.BR,hk.T,hk.S,hk.st,hk.heap,fun c d' r' rows' hc e=> ?_⟩;rw[Zy,ZV]at e;obtain⟨B,e,eB⟩:=e;cases B with
  |mem cs=>cases eB
  |dead=>cases eB
  |sl d0 r0 DP=>
   cases eB;exact hk.box c _ _ _ hc e
 have hv:∀x v,VR E w σ.bx x v→VR { E with S:=fun c=>E.S c∨c∈F,T:=fun c=>E.T c∨c∈F } w ((σ.bx.set b .dead).map (Bx.LY b r rows)) (x.LY b r rows) v:=fun x v hx=>by
  unfold AV.LY;split
  ·rename_i c
   split
   ·rename_i hc
    subst hc;obtain⟨h1,h2⟩:=hx;rw[hb]at h2;have hv:=h2.2.2;rw[AO]at hv;simp only[ZU]at hv;have:=Fb hF.2;rw[hv]at this;exact Ar (fun c hc=>hc) (fun _ _=>rfl) this
   ·exact A3 SM hx
  ·exact A3 SM hx
 refine⟨_,⟨h.Cg,?_,?_⟩,hle⟩
 ·refine AJ.CE _ (fun x v hx=> ?_) h.tm
  unfold XV.LY;split
  ·exact hv _ _ hx
  ·exact C2 SM hx
 ·obtain⟨Fs,⟨hl,h1⟩,h2⟩:=hB
  have Si:Sep E w (F++Fs.flatten):=h2.perm (by simpa using Zr);refine⟨Fs,⟨by simpa using hl,fun k B G D2 hG=> ?_⟩,?_⟩
  ·rw[Zy,ZV]at D2
   obtain⟨B0,e,rfl⟩:=D2;have h3:=h1 k B0 G e hG;cases B0 with
   |mem cs=>
    obtain⟨rfl,arr,ty,fr,a1,a2,a3⟩:=h3;exact⟨rfl,arr,ty,fr,a1,a2,AJ.CE _ (fun x v hx=>hv x v hx) a3⟩
   |sl d0 r0 DP=>exact⟨h3.1,Ak hle.S (fun _ _=>rfl) (fun _ _=>rfl) h3.2⟩
   |dead=>exact h3
  ·rw[Zu]
   have st:=h.bx.st;refine⟨(Za.1 Si.nodup).2.1,fun c hc ht=> ?_,fun c hc=>Si.lt c (by simp only[Zk];exact .inr hc),fun c hc=>hc.imp (st c) id,fun c hc=>hc.elim (Si.HU c) fun h' =>Si.lt c (by simp[h']),Si.NY.mono (fun _ h=> .inl h) (fun _ _=>rfl)⟩;rcases ht with ht|ht
   ·exact Si.free c (Zk.2 (.inr hc)) ht
   ·exact(Za.1 Si.nodup).2.2 c ht c hc rfl
theorem Rc{σ:St}{b i:Nat}(h:σ.bx[i]? =some .dead):(σ.LY b).bx[i]? =some .dead:=by
 unfold St.LY;split
 ·simp only[Zy,aK]
  split
  ·split
   ·rfl
   ·rename_i h2
    subst_vars
    exact absurd (ZS.1 h).1 h2
  ·rw[h];rfl
 ·exact h
theorem Pn{σ:St}{b:Nat}:(σ.LY b).bx.length=σ.bx.length∧(σ.LY b).tm.length=σ.tm.length:=by
 unfold St.LY;split<;>simp
theorem Ok.LY{E0 E:Env}{w0 w:World}{N nb:Nat}{σ:St}{a:Act}(h:Ok E0 w0 N nb E σ a w)(b:Nat):∃E',Ok E0 w0 N nb E' (σ.LY b) a w:=by
 obtain⟨E',h1,h2⟩:=SD h.rel b;refine⟨E',⟨h1,h.base.trans (h2.base w),by rw[Pn.2];exact h.tm,by rw[Pn.1];exact h.Lt,fun i hi hd=> ?_⟩⟩;rw[h2.BR,h2.BT];exact h.ids i hi fun e=>hd (Rc e)
theorem Ok.DE{E0:Env}{w0 w:World}{N nb:Nat}{a:Act}:∀(l:List AP) (xs:List AV) {E:Env} {σ:St},Ok E0 w0 N nb E σ a w→ ∃E',Ok E0 w0 N nb E' (DE l xs σ) a w:=by
 intro l xs E σ h
 induction l generalizing xs E σ with
 |nil=>unfold Fw.DE;exact⟨E,h⟩
 |cons p l ih=>
  unfold Fw.DE;split
  ·rename_i heq
   cases heq;obtain⟨E',h'⟩:=h.LY _;exact ih _ h'
  ·rename_i heq
   cases heq;exact ih _ h
  ·exact⟨E,h⟩
theorem Ok.WT{E0:Env}{w0 w:World}{N nb:Nat}{a:Act}{bs:List BP}:∀(l:List (Nat×XP)) {E:Env} {σ:St},Ok E0 w0 N nb E σ a w→ ∃E',Ok E0 w0 N nb E' (DG bs l σ) a w:=by
 intro l
 induction l with
 |nil=>intro E σ h;exact⟨E,h⟩
 |cons q l ih=>
  intro E σ h;unfold DG;split
  ·cases ‹_::_=[]›
  ·rename_i e
   cases e;split
   ·obtain⟨E',h'⟩:=h.DE [_] [_]
    exact ih h'
   ·exact ih h
  ·rename_i e
   cases e;split
   ·split
    ·obtain⟨E',h'⟩:=h.DE _ _
     exact ih h'
    ·exact ih h
   ·exact ih h
  ·rename_i e
   cases e;exact ih h
theorem NJ{E:Env}{w:World}{vw:List Bx}{x:AV}{v:Value}(h:VR E w vw x v)(hx:x.MP=true):isSlice v=true:=by
 cases x with
 |ref b p=>exact h.1
 |win b p o n=>exact h.1
 |sl s r y=>
  simp only[VR,Rd]at h;obtain⟨a,cap,h,_⟩:=h;simp only[Zo,Z_]at h;rw[h];rfl
 |nil=>cases h;rfl
 |_=>cases hx
theorem PJ{E:Env}{σ:St}{a:Act}{w:World}(h:Rel E σ a w)(b j:Nat):Rel E (σ.forget b j) a w∧σ.bx.length≤(σ.forget b j).bx.length∧(∀i:Nat,σ.bx[i]? =some Bx.dead→(σ.forget b j).bx[i]? =some Bx.dead)∧(σ.forget b j).tm=σ.tm:=by
 unfold St.forget;split
 case h_2=>exact⟨h,Zx _,fun _ h=>h,rfl⟩
 rename_i cs hb;split
 case h_2=>exact⟨h,Zx _,fun _ h=>h,rfl⟩
 rename_i x hx;split
 case isFalse=>exact⟨h,Zx _,fun _ h=>h,rfl⟩
 rename_i hs;have Rh:=(ZS.1 hb).1;have hk:D5 E w σ.bx E w (σ.bx.set b (.mem (cs.set j (.ref σ.bx.length [])))++[.dead]):=by
  refine⟨by simp,fun _ _=>rfl,fun _ h=>h,fun _ h=>h,h.bx.st,fun _ _=>rfl,fun c d r rows hc e=> ?_⟩;rw[ZX (by simpa using hc)]at e;by_cases QZ:b=c
  ·subst QZ
   rw[Zd hc]at e;cases e
  ·rw[ZZ QZ]at e
   exact⟨d,rows,e,fun p hp q ys hg=>⟨hp,⟨ys,hg,rfl⟩,fun h' hh=>hh⟩⟩
 refine⟨⟨h.Cg,h.tm.imp fun _ _ hx=>C2 hk hx,?_⟩,by simp,fun i hi=> ?_,rfl⟩
 ·obtain⟨Fs,⟨hl,h1⟩,h2⟩:=h.bx
  refine⟨Fs++[[]],⟨by simp[hl],fun k B G hB hG=> ?_⟩,by simpa using h2⟩;by_cases SM:k<σ.bx.length
  ·rw[ZX (by simpa using SM)]at hB
   rw[ZX (by omega)]at hG;by_cases hkb:b=k
   ·subst hkb
    rw[Zd SM]at hB;cases hB;obtain⟨rfl,arr,ty,fr,a1,a2,a3⟩:=h1 b _ G hb hG;refine⟨rfl,arr,ty,fr,a1,a2,?_⟩;have a4:Ir E w (σ.bx.set b (.mem (cs.set j (.ref σ.bx.length [])))++[.dead]) cs arr.toList:=a3.imp fun _ _ hv=>A3 hk hv
    obtain⟨v,hv,hvr⟩:=a3.get hx;have HD:arr.toList.set j v=arr.toList:=by
     apply aW;intro i;by_cases Sl:j=i
     ·subst Sl
      rw[Zd (ZS.1 hv).1,hv]
     ·rw[ZZ Sl]
    rw[←HD];refine AJ.set a4 ⟨NJ hvr hs,?_⟩;have:(σ.bx.set b (.mem (cs.set j (.ref σ.bx.length [])))++[.dead])[σ.bx.length]? =some .dead:=by
     rw[Zf (by simp)];simp
    rw[this]
    trivial
   ·rw[ZZ hkb]at hB
    have h3:=h1 k B G hB hG;cases B with
    |mem G2=>
     obtain⟨rfl,arr,ty,fr,a1,a2,a3⟩:=h3;exact⟨rfl,arr,ty,fr,a1,a2,a3.imp fun _ _ hv=>A3 hk hv⟩
    |sl d0 r0 DP=>exact h3
    |dead=>exact h3
  ·have hlen:=(ZS.1 hB).1
   simp only[Zl,List.length_set,Zj,Zv]at hlen;have YF:k=σ.bx.length:=by omega
   subst YF;rw[Zf (by simp)]at hB;rw[Zf (by omega)]at hG;simp[hl]at hB hG;subst hB hG;rfl
 ·have TK:=(ZS.1 hi).1
  rw[ZX (by simpa using TK)];have X1:b≠i:=fun e=>by
   subst e;rw[hb]at hi;cases hi
  rw[ZZ X1];exact hi
theorem Ok.forget{E0 E:Env}{w0 w:World}{N nb:Nat}{σ:St}{a:Act}(h:Ok E0 w0 N nb E σ a w)(b j:Nat):Ok E0 w0 N nb E (σ.forget b j) a w:=by
 obtain⟨h1,h2,h3,h4⟩:=PJ h.rel b j;exact⟨h1,h.base,by rw[h4];exact h.tm,ai h.Lt h2,fun i hi hd=>h.ids i hi fun e=>hd (h3 i e)⟩
theorem Ok.E4{E0 E:Env}{w0 w:World}{N nb:Nat}{a:Act}{bs:List BP}{b:Nat}:∀(l:List AP) (j:Nat) {σ:St},Ok E0 w0 N nb E σ a w→Ok E0 w0 N nb E (E4 bs b j l σ) a w
 |[],_,_,h=>h
 |p::l,j,σ,h=>by
  simp only[Fw.E4];refine Ok.E4 l (j+1) ?_
  split
  ·split
   ·exact h.forget _ _
   ·exact h
  ·exact h
theorem Ok.Ub{E0 E:Env}{w0 w:World}{N nb:Nat}{a:Act}{bs:List BP}:∀(l:List (Nat×XP)) {σ:St},Ok E0 w0 N nb E σ a w→Ok E0 w0 N nb E (Hd bs l σ) a w
 |[],_,h=>h
 |(i,p)::l,σ,h=>by
  simp only[Hd];refine Ok.Ub l ?_
  split
  ·split
   ·exact h.E4 _ _
   ·exact h
  ·exact h
include hT in
theorem MI{E0 E:Env}{w0 w:World}{N:Nat}{σ:St}{a:Act}{u:c.outs.V}(h:Ok E0 w0 N c.ins.A9.length E σ a w)(e:L1 C.T c fn.results.toList σ=some u):
  a.defers=[]∧ ∃v,(results fn a.tmps).run P w= .ok v w∧Tj c E0 w0 u (.returned v) w:=by
 unfold L1 at e;simp only[ZW,ZV]at e;obtain⟨x,e1,⟨u',m⟩,e2,rfl⟩:=e;obtain⟨v,h1,h2⟩:=MD hT h.rel e1;obtain⟨E,h,Oi,h4⟩:=h.opens c.outs
 replace h2:=h4 _ _ h2
 obtain⟨hext,E1,hf⟩:=Jg (tm:=[x]) (vals:=[v]) h.rel.bx ⟨h2,trivial⟩ Oi IQ Lc e2;obtain⟨E2,q1,q2,q3,q4,q5⟩:=hf.shared h.rel.bx;refine⟨h.rel.Cg,v,h1,v,E2,rfl,h.base.trans q3,q4,q5,fun i hi QF=> ?_⟩;obtain⟨p,hp,hg⟩:∃p,c.outs.A9[i]? =some p∧p≠ .gone:=by
  unfold alive at QF;cases hh:c.outs.A9[i]? with
  |none=>rw[hh]at QF;cases QF
  |some p=>
   refine⟨p,rfl,fun hp=> ?_⟩;rw[hh,hp]at QF;cases QF
 have Tv:=hext.2 i i (by have:=IE (i:=0) (n:=c.ins.A9.length) hp hg (by omega);simpa using this);obtain⟨b,B,g1,g2,g3,_⟩:=NX e2 i p hp hg;rw[Tv]at g1;cases g1;have hid:=hf.ids i i Tv;have RQ:=h.ids i hi (fun hd=>by rw[g2]at hd;cases hd;exact g3 rfl);rw[q1,q2];exact⟨hid.1.trans RQ.1,hid.2.trans RQ.2⟩
include hT hΓ hm in
theorem Q3{code:Code}(hb:fn.body=some code)(hl:(labels code).Nodup){J:Nat→Nat→St→Option c.outs.V}(hJ:PX C c fn code J)
  {E0:Env} {w0:World} {u:c.outs.V} {Q:Jd} (hp:HQ Q)
  (hg:Good E0 w0 fn.ntmps c.ins.A9.length u (fun _=>L1 C.T c fn.results.toList) (fun _ _ _=>none) (fun _=>L1 C.T c fn.results.toList) Q):
  ∀n,Sq P E0 w0 fn.ntmps c.ins.A9.length u (J n) code Q:=by
 intro n
 induction n with
 |zero=>
  intro ℓ body Q' DY E σ a w h e;obtain⟨s,F,j1,j2,j3⟩:=hJ ℓ DY.label;rw[j1]at e;simp only[jump]at e;split at e
  ·rw[ZW]at e
   obtain⟨q,_,e⟩:=e;rw[j2]at e;cases e
  ·cases e
 |succ n ih=>
  intro ℓ body Q' DY E σ a w h e;obtain⟨s,F,j1,j2,j3⟩:=hJ ℓ DY.label;rw[j1]at e;simp only[jump]at e;split at e
  case isFalse=>cases e
  rename_i Lt;rw[ZW]at e;obtain⟨⟨v,m⟩,e1,e2⟩:=e;dsimp only at e2;obtain⟨E,h⟩:=h.WT (bs:=s.A9) s.Ai
  replace h:=h.Ub (bs:=s.A9) s.Ai
  revert h e1
  generalize Hd s.A9 s.Ai (DG s.A9 s.Ai σ)=σ
  intro e1 h;obtain⟨E,h,Oi,h4⟩:=h.opens s;obtain⟨hext,E1,hf⟩:=Jg h.rel.bx h.rel.tm Oi IQ Lc e1;obtain⟨E2,q1,q2,q3,q4,q5⟩:=hf.shared h.rel.bx;have CO:fn.ntmps=a.tmps.toList.length:=by rw[←AJ.len h.rel.tm,h.tm]
  have EX:Ok E0 w0 fn.ntmps c.ins.A9.length E2 (s.st fn.ntmps v) a w:=by
   refine⟨⟨h.rel.Cg,Iv q5 (AJ.undef CO),q4⟩,h.base.trans q3,?_,?_,fun i hi hd=> ?_⟩
   ·have:=AJ.len (Iv q5 (AJ.undef CO))
    simp only[C0.st];rw[this,←CO]
   ·simp only[C0.st]
    rw[EF];exact Lt
   ·simp only[C0.st]at hd
    have SX:s.A9[i]? =some (s.A9[i]'(by omega)):=ZT _;have XB:s.A9[i]'(by omega)≠ .gone:=fun O8=>by
     obtain⟨z,z1,_⟩:=Gj id (u:=v.2) SX;apply hd;rw[z1]
     generalize s.A9[i]'(by omega)=pp at z O8
     subst O8;rfl
    have Tv:=hext.2 i i (by have:=IE (i:=0) (n:=c.ins.A9.length) SX XB (by omega);simpa using this);obtain⟨b,B,g1,g2,g3,_⟩:=NX e1 i _ SX XB;rw[Tv]at g1;cases g1;have hid:=hf.ids i i Tv;have RQ:=h.ids i hi (fun hd=>by rw[g2]at hd;cases hd;exact g3 rfl);rw[q1,q2];exact⟨hid.1.trans RQ.1,hid.2.trans RQ.2⟩
  have SR:=j3 n v u e2;obtain⟨kn',kx',kr',hfind,Nk,hnp,hj⟩:=SH hT hΓ hm hl hp hg ih DY;simp only[N5,hb,hfind]at SR;refine Ct.SL (PK hT hΓ hm (hnp.then _) (kn:=fun _ σ=>J n ℓ σ) ⟨fun E σ a w h e=> ?_,fun id E σ a w h e=>Nk.x id E σ a w h e,Nk.r⟩ hj EX SR);exact ih ℓ body Q' DY E σ a w h (e [])
include hT hΓ hm in
theorem RT{f:Nat}(hf:Uu P f fn c){J:Nat→Nat→St→Option c.outs.V}(hJ:∀code,fn.body=some code→PX C c fn code J)
  (hg:∀v u,c.g v=some u→ ∃n,∀ω,JI C c fn (J n) ω v=some u):Cz P f c:=by
 refine⟨hf.YK,hf.call,fun E w v args u Bd hB hS YQ=> ?_⟩;obtain⟨n,hn⟩:=hg v u YQ;cases hb:fn.body with
 |none=>
  have:=hn [];simp only[JI,hb]at this;cases this
 |some code=>
  simp only[JI,hb]at hn;refine calls_of_wp hf.at_ hb ?_
  have hp:HQ (bodyPost P fn (Tj c E w u)):=fun ch a w' hq=>by
   obtain⟨_,x,E',hx,_⟩:=hq;cases hx
  have Nk:Good E w fn.ntmps c.ins.A9.length u (fun _=>L1 C.T c fn.results.toList) (fun _ _ _=>none) (fun _=>L1 C.T c fn.results.toList) (bodyPost P fn (Tj c E w u)):=
   ⟨fun E' σ a w' h e=>MI hT h (e []),fun id E' σ a w' h e=>(by cases e []),fun E' σ a w' h e=>MI hT h (e [])⟩
  have EX:Ok E w fn.ntmps c.ins.A9.length E (c.ins.st fn.ntmps v) { tmps:=args++Array.replicate (fn.ntmps-args.size) undef,defers:=[] } w:=by
   have TX:AJ (XR E w (Bj.mk id c.ins.A9 v.2)) (A5.mk id c.ins.Ai v.1 (List.replicate fn.ntmps (.c .undef))) (args++Array.replicate (fn.ntmps-args.size) undef).toList:=by
    rw[Array.toList_append];refine Iv (H5 hS) (AJ.undef ?_);have:=hf.tmps;simp;omega
   refine⟨⟨rfl,TX,hB⟩,Hw.refl E w,?_,by simp only[C0.st];rw[EF];exact Zx _,fun _ _ _=>⟨rfl,rfl⟩⟩;simp only[C0.st];rw[AJ.len TX];have:=hf.tmps;simp;omega
  exact PK hT hΓ hm hp Nk (Q3 hT hΓ hm hb (hf.labels code hb) (hJ code hb) hp Nk n) EX hn
end
end Go.Fw
end
section
namespace Go.Fw
def Ay:List Ty→Ty
 |[]=> .unit
 |c::l=> .cons c (Ay l)
def OC(row:TypeId→Option (List Ty×Bool))(cells:TypeId→Nat):Nat→List Field→Option (List Ty)
 |_,[]=>some []
 |o,f::fs=>
  match row f.type with
  |some (l,_)=>if f.offset=o∧cells f.type=l.length then(OC row cells (o+l.length) fs).map (l++ ·)else none
  |none=>none
def JP:List Ty×Bool→Ty
 |(l,true)=>Ay l
 |([c],false)=>c
 |_=> .unit
def rowOf(P:Program):Nat→TypeId→Option (List Ty×Bool)
 |0,_=>none
 |n+1,t=>
  match P.underlying t with
  |some (.int k)=>some ([.int k],false)
  |some .bool=>some ([.bool],false)
  |some .string=>some ([.str],false)
  |some (.slice e)=>
   match rowOf P n e with
   |some q=>if P.cellsOf e=q.1.length∧0<q.1.length then some ([.sl (JP q)],false)else none
   |none=>none
  |some (.struct fs)=>
   match OC (rowOf P n) P.cellsOf 0 fs.toList with
   |some l=>if P.cellsOf t=l.length then some (l,true)else none
   |none=>none
  |_=>none
def Vd:(t:Ty)→t.D→Prop
 | .int k,x=>(Lit.int k x).wf=true
 | .bool,_=>True
 | .str,x=>List.length x≤maxLen
 | .sl r,x=>List.length x≤maxLen∧ ∀y∈x,Vd r y
 | .unit,_=>True
 | .cons c r,x=>Vd c x.1∧Vd r x.2
theorem Ih{α:Type}{p:Nat→α→Prop}:∀{n:Nat},(∀i,i<n→ ∃y,p i y)→ ∃x:List α,x.length=n∧ ∀(i:Nat) y,x[i]? =some y→p i y
 |0,_=>⟨[],rfl,fun i y h=>by simp at h⟩
 |n+1,h=>by
  obtain⟨x,h1,h2⟩:=Ih (n:=n) (p:=p) (fun i hi=>h i (by omega));obtain⟨y,hy⟩:=h n (by omega);refine⟨x++[y],by simp[h1],fun i z hz=> ?_⟩;by_cases hi:i<x.length
  ·rw[ZX hi]at hz
   exact h2 i z hz
  ·rw[Zf (by omega)]at hz
   have TK:=(ZS.1 hz).1;simp at TK;have:i=n:=by omega
   subst this;simp[h1]at hz;subst hz;exact hy
theorem MW{w:World}{B:Nat→Prop}:∀{l m:List Ty} {cs ds:List Value} {x:(Ay l).D} {y:(Ay m).D},Rd w B (Ay l) cs x→Rd w B (Ay m) ds y→Vd (Ay l) x→Vd (Ay m) y→
  ∃z:(Ay (l++m)).D,Rd w B (Ay (l++m)) (cs++ds) z∧Vd (Ay (l++m)) z
 |[],m,cs,ds,x,y,h,k,hx,hy=>by
  simp only[Ay,Rd]at h;subst h;exact⟨y,k,hy⟩
 |c::l,m,cs,ds,x,y,h,k,hx,hy=>by
  simp only[Ay,Rd]at h;obtain⟨v,r,rfl,h1,h2⟩:=h;obtain⟨z,z1,z2⟩:=MW h2 k hx.2 hy;exact⟨(x.1,z),by simp only[aJ,Ay,Rd];exact⟨v,r++ds,rfl,h1,z1⟩,hx.1,z2⟩
theorem P9{P:Program}{n:Nat}{t:TypeId}{l:List Ty}(h:rowOf P n t=some (l,false)):∃c,l=[c]:=by
 cases n with
 |zero=>simp[rowOf]at h
 |succ n=>
  simp only[rowOf]at h;split at h
  ·cases h;exact⟨_,rfl⟩
  ·cases h;exact⟨_,rfl⟩
  ·cases h;exact⟨_,rfl⟩
  ·split at h
   ·split at h
    ·cases h;exact⟨_,rfl⟩
    ·cases h
   ·cases h
  ·split at h
   ·split at h
    ·cases h
    ·cases h
   ·cases h
  ·cases h
theorem Mw{w:World}{B:Nat→Prop}{P:Program}{n:Nat}{t:TypeId}{q:List Ty×Bool}(h:rowOf P n t=some q){cs:List Value}{x:(Ay q.1).D}(hx:Rd w B (Ay q.1) cs x)(hv:Vd (Ay q.1) x):
  (JP q).n=q.1.length∧ ∃y:(JP q).D,Rd w B (JP q) cs y∧Vd (JP q) y:=by
 obtain⟨l,b⟩:=q;cases b with
 |true=>
  refine⟨?_,x,hx,hv⟩;clear h hx hv x;simp only[JP]
  induction l with
  |nil=>rfl
  |cons c l ih=>simp[Ay,Ty.n,ih]
 |false=>
  obtain⟨c,rfl⟩:=P9 h;simp only[Ay,Rd]at hx;obtain⟨v,r,rfl,h1,h2⟩:=hx;subst h2;refine⟨?_,x.1,h1,hv.1⟩;have:=Jm h1;simp only[JP];simpa using this.symm
theorem QJ(a:Addr):a.add 0=a:=by simp[Addr.add]
theorem P6{w:World}{a:Addr}{v:Value}(h:w.cell? a=some v):a.spot=none:=by
 unfold World.cell? at h;split at h
 ·split at h
  ·cases h
  ·rename_i hs;simpa using hs
 ·cases h
section
variable{H:Type} {enc:TypeId×Value→H} {P:Program} {w:World} {spare:Nat→Bool} {held:Bool}
theorem Ik:∀(n:Nat) {t:TypeId} {q:List Ty×Bool},rowOf P n t=some q→ ∀{fuel:Nat} {cs:List Value} {x:DataW H×List MemPlace},DataW.trod enc P w 0 spare held fuel t cs=some x→
  ∃y:(Ay q.1).D,Rd w (fun b=>b<w.heap.size) (Ay q.1) cs y∧Vd (Ay q.1) y
 |0,t,q,h,_,_,_,_=>by simp[rowOf]at h
 |n+1,t,q,h,fuel,cs,x,hx=>by
  simp only[rowOf]at h;split at h
  ·rename_i k hu
   cases h;obtain⟨m,rfl,_,hw⟩:=DataW.trod_int hu hx;exact⟨(m,()),by simp[Ay,Rd],hw,trivial⟩
  ·rename_i hu
   cases h;obtain⟨b,rfl,_⟩:=DataW.trod_bool hu hx;exact⟨(b,()),by simp[Ay,Rd],trivial,trivial⟩
  ·rename_i hu
   cases h;obtain⟨s,rfl,_,hs⟩:=DataW.trod_string hu hx;refine⟨(s.data.toList,()),by simp[Ay,Rd],?_,trivial⟩
   show s.data.toList.length≤maxLen
   rw[ae];exact hs
  ·rename_i e hu
   split at h
   case h_2=>cases h
   rename_i q' Tu;split at h
   case isFalse=>cases h
   rename_i M7;cases h;rcases DataW.trod_slice hu hx with⟨rfl,_⟩|⟨a,len,cap,elems,rest,m,_,rfl,_,_,hlc,hcm,Ib,DY,_,_⟩
   ·refine⟨([],()),?_,⟨by simp,by simp⟩,trivial⟩
    simp only[Ay,Rd];exact⟨_,[],rfl,⟨_,_,rfl,by simp,.inl rfl⟩,rfl⟩
   ·have each:∀i,i<len→ ∃y:(JP q').D,Vd (JP q') y∧ ∃ds,ds.length=(JP q').n∧(∀j,j<ds.length→w.cell? ((a.add (i*P.cellsOf e)).add j)=ds[j]?)∧Rd w (fun b=>b<w.heap.size) (JP q') ds y:=by
     intro i hi;have hz:elems[i]? =some (elems[i]'(by omega)):=ZT _;have h1:=DY i hi;rw[hz,ZW]at h1;obtain⟨ds,Sn,htr⟩:=h1;obtain⟨z,z1,z2⟩:=Ik n Tu htr;obtain⟨_,c1,c2⟩:=World.cells?_some Sn
     obtain⟨a1,y,a2,a3⟩:=Mw Tu z1 z2;exact⟨y,a3,ds,by rw[c1,a1,M7.1],fun j hj=>c2 j (by omega),a2⟩
    obtain⟨xs,x1,x2⟩:=Ih each;refine⟨(xs,()),?_,⟨by show xs.length≤maxLen;omega,fun y hy=> ?_⟩,trivial⟩
    ·simp only[Ay,Rd]
     refine⟨_,[],rfl,⟨_,cap,by rw[x1],by omega,?_⟩,rfl⟩;by_cases h0:len=0
     ·exact .inl (by omega)
     right
     obtain⟨y0,_,ds0,d0,d1,_⟩:=each 0 (by omega);have Y8:0<(JP q').n:=by
      rw[d0.symm];have hz:elems[0]? =some (elems[0]'(by omega)):=ZT _;have h1:=DY 0 (by omega);rw[hz,ZW]at h1;obtain⟨ds,Sn,htr⟩:=h1;obtain⟨z,z1,z2⟩:=Ik n Tu htr;have:=(Mw Tu z1 z2).1;omega
     have Qe:=d1 0 (by omega);simp only[Nat.zero_mul,QJ]at Qe;have Qf:w.cell? a=some (ds0[0]'(by omega)):=by rw[Qe];exact ZT _
     have Wr:=P6 Qf;obtain⟨b,o,s⟩:=a;simp only at Wr;subst Wr;refine⟨b,o,rfl,?_,fun i y hy=> ?_⟩
     ·unfold World.cell? at Qf
      split at Qf
      ·rename_i hb;exact(Array.getElem?_eq_some_iff.1 hb).1
      ·cases Qf
     ·have TK:=(ZS.1 hy).1
      obtain⟨_,ds,e0,e1,e2⟩:=x2 i y hy;have YP:P.cellsOf e=(JP q').n:=by
       have hz:elems[i]? =some (elems[i]'(by omega)):=ZT _;have h1:=DY i (by omega);rw[hz,ZW]at h1;obtain⟨ds,Sn,htr⟩:=h1;obtain⟨z,z1,z2⟩:=Ik n Tu htr;rw[(Mw Tu z1 z2).1,M7.1]
      refine⟨ds,e0,fun j v hj=> ?_,e2⟩;have Qa:=(ZS.1 hj).1;have:=e1 j Qa;rw[Addr.add_eq,Addr.add_eq,YP]at this;rw[this,hj]
    ·obtain⟨i,hi,rfl⟩:=aA hy
     exact(x2 i _ (ZT hi)).1
  ·rename_i fs hu
   split at h
   case h_2=>cases h
   rename_i l hl;split at h
   case isFalse=>cases h
   rename_i Oc;cases h;obtain⟨xs,m,_,_,hlen,Tl,DY⟩:=DataW.trod_struct hu hx;have key:∀(fs:List Field) (o:Nat) (l:List Ty) (i0:Nat),OC (rowOf P n) P.cellsOf o fs=some l→cs.length=o+l.length→(∀(i:Nat) (f:Field),fs[i]? =some f→ ∃z,DataW.trod enc P w 0 spare held m f.type ((cs.drop f.offset).take (P.cellsOf f.type))=some z)→
     ∃y:(Ay l).D,Rd w (fun b=>b<w.heap.size) (Ay l) (cs.drop o) y∧Vd (Ay l) y:=by
    intro fs
    induction fs with
    |nil=>
     intro o l i0 hl hc _;simp only[OC,ZU]at hl;subst hl;refine⟨(),?_,trivial⟩;simp only[Ay,Rd];simp at hc;simp[hc]
    |cons f fs ih=>
     intro o l i0 hl hc DY;simp only[OC]at hl;split at hl
     case h_2=>cases hl
     rename_i l1 b1 hr;split at hl
     case isFalse=>cases hl
     rename_i XQ;simp only[ZV]at hl;obtain⟨l2,hl2,rfl⟩:=hl;obtain⟨z,hz⟩:=DY 0 f rfl;obtain⟨y1,a1,a2⟩:=Ik n hr hz;obtain⟨y2,b1,b2⟩:=ih (o+l1.length) l2 0 hl2 (by simp at hc;omega) (fun i f hf=>DY (i+1) f (by simpa using hf));obtain⟨y,c1,c2⟩:=MW a1 b1 a2 b2;refine⟨y,?_,c2⟩;rw[XQ.1,XQ.2,←bH,a8]at c1;exact c1
   have:=key fs.toList 0 l 0 hl (by rw[hlen,Oc];simp) (fun i f hf=>by
    have W7:fs[i]? =some f:=by simpa using hf
    have TK:i<xs.length:=by rw[Tl];exact(Array.getElem?_eq_some_iff.1 W7).1
    exact⟨xs[i],by rw[DY i f W7];exact ZT TK⟩)
   simpa using this
  ·cases h
end
end Go.Fw
end
section
open Go.RowKit
namespace Go.Fw
def NO(W:World):Env:={ BR:=fun _=>0,BT:=fun _=> .nilFunc,T:=fun b=>b<W.heap.size,S:=fun b=>b<W.heap.size }
abbrev Lb:C0:=⟨[(0,.c (.v .bool))],[]⟩
theorem QB{P:Program}{f:Nat}{Ai:List (Nat×XP)}{g:C0.V ⟨Ai,[]⟩→Option Lb.V}(hs:Cz P f ⟨⟨Ai,[]⟩,Lb,g⟩){W:World}{args:Array Value}(x:A5.V Ai)(hlen:args.size=Ai.length)(Qk:∀w':World,(∀c,c<W.heap.size→w'.heap[c]? =W.heap[c]?)→GI w')
  (hx:Cc (NO W) W [] id Ai x args.toList) (hg:g (x,())=some ((true,()),())):Calls P f args W fun e W' =>e= .returned (.bool true)∧Below W.heap.size W W':=by
 obtain⟨_,_,h⟩:=hs;refine(h (NO W) W (x,()) args _ hlen ⟨[],⟨rfl,fun k B F h=>by simp[Bj.mk]at h⟩,by simp,by simp,by simp,fun _ h=>h,fun _ h=>h,Qk⟩ hx hg).mono fun e W' hR=> ?_
 obtain⟨v,E',rfl,base,_,⟨⟨v',hv,hxr⟩,_⟩,_⟩:=hR;simp at hv;subst hv;have:v= .bool true:=by
  have h2:VR E' W' [] (.v .bool true) v:=hxr;exact Dx h2
 subst this;exact⟨rfl,base.os,base.tape,base.output,base.size,fun k hk=>base.heap k hk⟩
theorem Su{W:World}{vw:List Bx}{t:Ty}(ht:t.scalar=true){v:Value}{y:t.D}(h:Rd W (fun b=>b<W.heap.size) t [v] y):XR (NO W) W vw (XP.mk id (.c (.v t)) y) v:=by
 refine⟨ht,?_⟩;cases t<;>simp_all[Ty.scalar,Rd]
end Go.Fw
end
section
namespace Go.Fw
def Rj:List (Nat×FX)→Nat→Option FX
 |[],_=>none
 |(f,c)::l,g=>if f=g then some c else Rj l g
def Ry(P:Program):List (Nat×FX)→Prop
 |[]=>True
 |q::l=>Cz P q.1 q.2∧Ry P l
theorem LV{P:Program}:∀{l:List (Nat×FX)},Ry P l→H_ P (Rj l)
 |[],_=>fun f c e=>by cases e
 |(g,d)::l,h=>fun f c e=>by
  simp only[Rj]at e;split at e
  ·rename_i hg
   cases e;subst hg;exact h.1
  ·exact LV h.2 f c e
theorem Kp{P:Program}{f:Nat}{fn:Func}(hf:P.funcs[f]? =some fn)(hn:(fn.name== "runtime.NumGoroutine")=false)(hb:fn.body.isNone=false)(args:Array Value)(w:World):
  (callFunc f args).run P w= .ok (.enter f args) w:=by
 have h1:fn.name≠ "runtime.NumGoroutine" :=by simpa using hn
 have h2:fn.body≠none:=by
  intro h;rw[h]at hb;cases hb
 simp[callFunc,hf,h1,h2]
def IY(fn:Func)(c:FX):Bool:=
 !(
  fn.name== "runtime.NumGoroutine")&& !fn.body.isNone&&c.ok&&decide (c.ins.Ai.length≤fn.ntmps)&&(match fn.body with
  |some code=>decide (labels code).Nodup
  |none=>true)
theorem WJ{P:Program}{f:Nat}{fn:Func}{c:FX}(hf:P.funcs[f]? =some fn)(h:IY fn c=true):Uu P f fn c:=by
 simp only[IY,Zg,Bool.not_eq_true',Zs]at h;obtain⟨⟨⟨⟨h1,h2⟩,h3⟩,h4⟩,h5⟩:=h;refine⟨hf,Kp hf h1 h2,h3,h4,fun code hc=> ?_⟩;rw[hc]at h5;simpa using h5
def II(C:Ls)(c:FX)(fn:Func)(J:Nat→Nat→St→Option c.outs.V):List Nat→Prop
 |[]=>True
 | ℓ ::l=>(∃(s:C0) (F:Nat→s.V→Option c.outs.V),(∀n,J n ℓ =jump c.ins.A9.length s (F n))∧(∀v,F 0 v=none)∧
  ∀n v,∀ω,N5 C c fn (J n) ℓ ω (s.st fn.ntmps v)=F (n+1) v)∧II C c fn J l
theorem II.ok{C:Ls}{c:FX}{fn:Func}{J:Nat→Nat→St→Option c.outs.V}:∀{l:ZD},II C c fn J l→ ∀ ℓ ∈l,∃(s:C0) (F:Nat→s.V→Option c.outs.V),(∀n,J n ℓ =jump c.ins.A9.length s (F n))∧(∀v,F 0 v=none)∧
  ∀n v y,F (n+1) v=some y→ ∀ω,N5 C c fn (J n) ℓ ω (s.st fn.ntmps v)=some y
 |[],_,ℓ,h=>by cases h
 |k::l,hl,ℓ,h=>by
  rcases Z1.1 h with rfl|h
  ·obtain⟨⟨s,F,h1,h2,h3⟩,_⟩:=hl
   exact⟨s,F,h1,h2,fun n v y e ω=>(h3 n v ω).trans e⟩
  ·exact II.ok hl.2 ℓ h
def Ii(fn:Func):ZD:=
 match fn.body with
 |some code=>labels code
 |none=>[]
def K8:List ZL→Nat→List Nat
 |[],_=>[]
 |(r,h)::l,q=>if r=q then h else K8 l q
theorem Q2{P:Program}{T:Bw}{l:List (Nat×FX)}{hint:Nat→List Nat}{f:Nat}{fn:Func}{c:FX}(hT:Av P T)(hm:P.follows .mixedOrders=true)(hf:P.funcs[f]? =some fn)(hl:Ry P l)(hc:IY fn c=true)
  {J:Nat→Nat→St→Option c.outs.V} {L:ZD} (hL:Ii fn=L) (hJ:II ⟨T,Rj l,hint⟩ c fn J L) (n:Nat) (he:∀ω v,JI ⟨T,Rj l,hint⟩ c fn (J n) ω v=c.g v):Cz P f c:=
 RT (C:=⟨T,Rj l,hint⟩) hT (LV hl) hm (WJ hf hc) (J:=J) (fun code hb ℓ hℓ =>II.ok hJ ℓ (by
  rw[←hL];simp only[Ii,hb];exact hℓ)) fun v u hg=>⟨n,fun ω=>(he ω v).trans hg⟩
end Go.Fw
end
section
namespace Go.M
abbrev GC:Nat:=Go.Fw.GC
def EY(x:Int):Int:=IntKind.wrap .i64 x
def w8(x:Int):Int:=IntKind.wrap .u8 x
theorem LZ:∃n:Nat,2^64≤n:=⟨_,Zx _⟩
noncomputable def F5:Nat:=Classical.choose LZ
theorem PQ:2^64≤F5:=Classical.choose_spec LZ
end Go.M
end
section
namespace Go.Fw
structure SP (P:Program) where
 f:Nat
 c:FX
 h:Cz P f c
def SP.l{P:Program}:List (SP P)→List (Nat×FX)
 |[]=>[]
 |s::l=>(s.f,s.c)::SP.l l
theorem Pj{P:Program}:∀l:List (SP P),Ry P (SP.l l)
 |[]=>trivial
 |s::l=>⟨s.h,Pj l⟩
@[reducible] def AP.Cu (R:Type):AP→Type
 | .M3 _ rs=>F_ rs→R
 | .v t=>t.D→R
 | .sl _ r=>List r.D→R
 | .Nn r=>r.D→R
 | .JJ _ _=>Nat×Nat→R
 |_=>R
def AP.un{R:Type}:(p:AP)→p.Cu R→p.V→R
 | .M3 _ _,f,x=>f x
 | .v _,f,x=>f x
 | .sl _ _,f,x=>f x
 | .Nn _,f,x=>f x
 | .JJ _ _,f,x=>f x
 | .nil,f,_=>f
 | .ref _,f,_=>f
 | .ptr _ _,f,_=>f
 | .fn _ _,f,_=>f
 | .any,f,_=>f
@[reducible] def FW.Cu (R:Type):List AP→Type
 |[]=>R
 |p::l=>p.Cu (FW.Cu R l)
def FW.un{R:Type}:(l:List AP)→FW.Cu R l→FW.V l→R
 |[],f,_=>f
 |p::l,f,x=>FW.un l (p.un f x.1) x.2
@[reducible] def Fc.Cu (R:Type):List (AP ⊕ List AP)→Type
 |[]=>R
 | .inl p::l=>p.Cu (Fc.Cu R l)
 | .inr q::l=>FW.Cu (Fc.Cu R l) q
def Fc.un{R:Type}:(l:List (AP ⊕ List AP))→Fc.Cu R l→Fc.V l→R
 |[],f,_=>f
 | .inl p::l,f,x=>Fc.un l (p.un f x.1) x.2
 | .inr q::l,f,x=>Fc.un l (FW.un q f x.1) x.2
@[reducible] def XP.Cu (R:Type):XP→Type
 | .c p=>p.Cu R
 | .agg l=>FW.Cu R l
 | .row r=>r.D→R
 | .D6 l=>Fc.Cu R l
def XP.un{R:Type}:(p:XP)→p.Cu R→p.V→R
 | .c p,f,x=>p.un f x
 | .agg l,f,x=>FW.un l f x
 | .row _,f,x=>f x
 | .D6 l,f,x=>Fc.un l f x
@[reducible] def BP.Cu (R:Type):BP→Type
 | .mem l=>FW.Cu R l
 | .sl _ r=>List r.D→R
 | .gone=>R
def BP.un{R:Type}:(p:BP)→p.Cu R→p.V→R
 | .mem l,f,x=>FW.un l f x
 | .sl _ _,f,x=>f x
 | .gone,f,_=>f
@[reducible] def A5.Cu (R:Type):List (Nat×XP)→Type
 |[]=>R
 |(_,p)::l=>p.Cu (A5.Cu R l)
def A5.un{R:Type}:(l:List (Nat×XP))→A5.Cu R l→A5.V l→R
 |[],f,_=>f
 |(_,p)::l,f,x=>A5.un l (p.un f x.1) x.2
@[reducible] def Bj.Cu (R:Type):List BP→Type
 |[]=>R
 |p::l=>p.Cu (Bj.Cu R l)
def Bj.un{R:Type}:(l:List BP)→Bj.Cu R l→Bj.V l→R
 |[],f,_=>f
 |p::l,f,x=>Bj.un l (p.un f x.1) x.2
@[reducible] def C0.Cu (s:C0) (R:Type):Type:=A5.Cu (Bj.Cu R s.A9) s.Ai
def C0.un{R:Type}(s:C0)(f:s.Cu R)(v:s.V):R:=Bj.un s.A9 (A5.un s.Ai f v.1) v.2
structure Lp (o:C0) where
 ℓ :Nat
 s:C0
 F:Nat→s.Cu (Option o.V)
def RV{o:C0}(nb:Nat):List (Lp o)→Nat→Nat→St→Option o.V
 |[],_,_,_=>none
 |p::l,n,ℓ,σ=>if ℓ =p.ℓ then jump nb p.s (p.s.un (p.F n)) σ else RV nb l n ℓ σ
inductive FD (C:Ls) (c:FX) (fn:Func) (J:Nat→Nat→St→Option c.outs.V):List (Lp c.outs)→Prop
 |nil:FD C c fn J []
 |cons {ℓ :Nat} {s:C0} {F:Nat→s.Cu (Option c.outs.V)} {l:List (Lp c.outs)} (h0:∀v,s.un (F 0) v=none) (h1:∀n v ω,N5 C c fn (J n) ℓ ω (s.st fn.ntmps v)=s.un (F (n+1)) v) (h:FD C c fn J l):FD C c fn J (⟨ℓ,s,F⟩::l)
def Lp.ls{o:C0}:List (Lp o)→List Nat
 |[]=>[]
 |p::l=>p.ℓ ::Lp.ls l
theorem Qq{o:C0}{nb:Nat}:∀{l:List (Lp o)} (n:Nat) {ℓ :Nat} (p:Lp o) (pre:List (Lp o)),ℓ =p.ℓ →(Lp.ls (pre++p::l)).Nodup→RV nb (pre++p::l) n ℓ =jump nb p.s (p.s.un (p.F n))
 |l,n,ℓ,p,[],e,_=>by
  funext σ
  simp[RV,e]
 |l,n,ℓ,p,q::pre,e,hn=>by
  funext σ
  have hq: ℓ ≠q.ℓ :=by
   intro h;simp only[aJ,Lp.ls,aX]at hn;refine hn.1 ?_
   rw[←h,e];clear hn h e
   induction pre with
   |nil=>simp[Lp.ls]
   |cons a m ih=>simp[Lp.ls,ih]
  have:=congrFun (Qq (nb:=nb) (l:=l) n p pre e (by simp only[aJ,Lp.ls,aX]at hn;exact hn.2)) σ;simp only[aJ,RV,Zp hq];exact this
theorem FD.ok{C:Ls}{c:FX}{fn:Func}{nb:Nat}(hb:nb=c.ins.A9.length){L:List (Lp c.outs)}(hn:(Lp.ls L).Nodup):∀{l pre:List (Lp c.outs)},L=pre++l→FD C c fn (RV nb L) l→II C c fn (RV nb L) (Lp.ls l)
 |[],_,_,_=>trivial
 |⟨ℓ,s,F⟩::l,pre,e,.cons h0 h1 h=>by
  refine⟨⟨s,fun n=>s.un (F n),fun n=> ?_,h0,fun n v ω=>h1 n v ω⟩,FD.ok hb hn (pre:=pre++[⟨ℓ,s,F⟩]) (by simp[e]) h⟩;subst hb;rw[e];exact Qq n ⟨ℓ,s,F⟩ pre rfl (by rw[←e];exact hn)
def Xo{P:Program}{T:Bw}(hT:Av P T)(hm:P.follows .mixedOrders=true){f:Nat}{fn:Func}(hf:P.funcs[f]? =some fn)(i o:C0)(g:i.Cu (Option o.V))(l:List (SP P))(h:List ZL)(L:List (Lp o))(n:Nat)
  (hL:Ii fn=Lp.ls L) (hd:decide (Lp.ls L).Nodup=true) (hc:IY fn ⟨i,o,i.un g⟩=true)
  (hJ:FD ⟨T,Rj (SP.l l),K8 h⟩ ⟨i,o,i.un g⟩ fn (RV i.A9.length L) L)
  (he:∀ω v,JI ⟨T,Rj (SP.l l),K8 h⟩ ⟨i,o,i.un g⟩ fn (RV i.A9.length L n) ω v=i.un g v):SP P:=
 ⟨f,⟨i,o,i.un g⟩,Q2 (l:=SP.l l) hT hm hf (Pj l) hc (J:=RV i.A9.length L) (L:=Lp.ls L) hL (FD.ok rfl (by simpa using hd) (pre:=[]) rfl hJ) n he⟩
end Go.Fw
end
section
namespace Go.Fw
open Go.Proofs Go.Shelf Go.RowKit Go.Lib
structure TV (P:Program) (ρ:Ren) (nm:String) (fv:Func):Prop where
 mixed:P.follows .mixedOrders=true
 f22:P.funcs[ρ.f 22]? =some { Body2.n22 ρ with name:=nm }
 n22:(nm== "runtime.NumGoroutine")=false
 f29:P.funcs[ρ.f 29]? =some fv
 n29:(fv.name== "runtime.NumGoroutine")=false
 XF:fv.body.isNone=true
 W8:Extern.findNext fv=none
 Wj:Extern.find fv=some (Extern.SlicesOverlaps.overlaps #[(ρ.t 24),(ρ.t 24)] #[(ρ.t 4)])
 t0:P.underlying (ρ.t 0)=some (TypeDesc.tuple #[])
 a0:∀w,(isAgg (ρ.t 0)).run P w= .ok false w
 z0:∀w,(Go.sizeOf (ρ.t 0)).run P w= .ok 1 w
 v0:∀w,(zeroValue (ρ.t 0)).run P w= .ok (Value.tuple #[]) w
 t3:P.underlying (ρ.t 3)=some (TypeDesc.int IntKind.i64)
 a3:∀w,(isAgg (ρ.t 3)).run P w= .ok false w
 z3:∀w,(Go.sizeOf (ρ.t 3)).run P w= .ok 1 w
 v3:∀w,(zeroValue (ρ.t 3)).run P w= .ok (Value.int IntKind.i64 0) w
 t4:P.underlying (ρ.t 4)=some (TypeDesc.bool)
 a4:∀w,(isAgg (ρ.t 4)).run P w= .ok false w
 z4:∀w,(Go.sizeOf (ρ.t 4)).run P w= .ok 1 w
 v4:∀w,(zeroValue (ρ.t 4)).run P w= .ok (Value.bool false) w
 t24:P.underlying (ρ.t 24)=some (TypeDesc.slice (ρ.t 9))
 a24:∀w,(isAgg (ρ.t 24)).run P w= .ok false w
 z24:∀w,(Go.sizeOf (ρ.t 24)).run P w= .ok 1 w
 v24:∀w,(zeroValue (ρ.t 24)).run P w= .ok (Value.slice none 0 0) w
section
variable{P:Program} {ρ:Ren} {nm:String} {fv:Func}
end
end Go.Fw
end
section
namespace Go.Fw
open Go.Proofs Go.Shelf Go.RowKit Go.Lib
def Flat(w:World)(r:Ty)(css:List (List Value))(rows:List r.D):Prop:=
 css.length=rows.length∧(∀c∈css,c.length=r.n)∧ ∀(i:Nat) cs y,css[i]? =some cs→rows[i]? =some y→Rd w (fun _=>False) r cs y
theorem Flat.take{w:World}{r:Ty}{css:List (List Value)}{rows:List r.D}(h:Flat w r css rows)(n:Nat):Flat w r (css.take n) (rows.take n):=by
 refine⟨by simp[h.1],fun c hc=>h.2.1 c (List.mem_of_mem_take hc),fun i cs y a b=> ?_⟩;rw[List.getElem?_take]at a b;split at a
 ·rename_i hi
  rw[Zn hi]at b;exact h.2.2 i cs y a b
 ·cases a
theorem Flat.drop{w:World}{r:Ty}{css:List (List Value)}{rows:List r.D}(h:Flat w r css rows)(n:Nat):Flat w r (css.drop n) (rows.drop n):=by
 refine⟨by simp[h.1],fun c hc=>h.2.1 c (List.mem_of_mem_drop hc),fun i cs y a b=> ?_⟩;rw[af]at a b;exact h.2.2 _ cs y a b
theorem Flat.append{w:World}{r:Ty}{css W_:List (List Value)}{rows Um:List r.D}(h:Flat w r css rows)(k:Flat w r W_ Um):Flat w r (css++W_) (rows++Um):=by
 refine⟨by simp[h.1,k.1],fun c hc=>(Zk.1 hc).elim (h.2.1 c) (k.2.1 c),fun i cs y a b=> ?_⟩;by_cases hi:i<rows.length
 ·rw[ZX (by rw[h.1];exact hi)]at a
  rw[ZX hi]at b;exact h.2.2 i cs y a b
 ·rw[Zf (by rw[h.1];omega)]at a
  rw[Zf (by omega)]at b;rw[h.1]at a;exact k.2.2 _ cs y a b
theorem Flat.one{w:World}{r:Ty}(hf:r.flat=true){css:List (List Value)}{rows:List r.D}(h:Flat w r css rows):∀v∈css.flatten,v.oneCell' =true:=by
 intro v hv;obtain⟨c,hc,hv⟩:=Zt.1 hv;obtain⟨i,hi,rfl⟩:=aA hc;have h1:=h.1;exact Kg (I5 (S:=fun _=>False) (d:=0) hf (h.2.2 i _ _ (ZT hi) (ZT (by omega)))) v hv
theorem Flat.at{w:World}{S:Nat→Prop}{d:Nat}{r:Ty}(hf:r.flat=true){css:List (List Value)}{rows:List r.D}(h:Flat w r css rows):Ax w S d r css rows (List.replicate rows.length []):=Ax.flat hf h.1 h.2.1 h.2.2
end Go.Fw
end
section
namespace Go.Fw
open Go.M Go.Proofs Go.Shelf Go.RowKit Go.Lib
structure Vo (P:Program) (ρ:Ren) (nm:String):Prop where
 mixed:P.follows .mixedOrders=true
 f24:P.funcs[ρ.f 24]? =some { Body2.n24 ρ with name:=nm }
 n24:(nm== "runtime.NumGoroutine")=false
 t0:P.underlying (ρ.t 0)=some (TypeDesc.tuple #[])
 a0:∀w,(isAgg (ρ.t 0)).run P w= .ok false w
 z0:∀w,(Go.sizeOf (ρ.t 0)).run P w= .ok 1 w
 v0:∀w,(zeroValue (ρ.t 0)).run P w= .ok (Value.tuple #[]) w
 t3:P.underlying (ρ.t 3)=some (TypeDesc.int IntKind.i64)
 a3:∀w,(isAgg (ρ.t 3)).run P w= .ok false w
 z3:∀w,(Go.sizeOf (ρ.t 3)).run P w= .ok 1 w
 v3:∀w,(zeroValue (ρ.t 3)).run P w= .ok (Value.int IntKind.i64 0) w
 t4:P.underlying (ρ.t 4)=some (TypeDesc.bool)
 a4:∀w,(isAgg (ρ.t 4)).run P w= .ok false w
 z4:∀w,(Go.sizeOf (ρ.t 4)).run P w= .ok 1 w
 v4:∀w,(zeroValue (ρ.t 4)).run P w= .ok (Value.bool false) w
 t24:P.underlying (ρ.t 24)=some (TypeDesc.slice (ρ.t 9))
 a24:∀w,(isAgg (ρ.t 24)).run P w= .ok false w
 z24:∀w,(Go.sizeOf (ρ.t 24)).run P w= .ok 1 w
 v24:∀w,(zeroValue (ρ.t 24)).run P w= .ok (Value.slice none 0 0) w
section
variable{P:Program} {ρ:Ren} {nm:String}
end
end Go.Fw
end
section
namespace Go.Fw
open Go.M Go.Proofs Go.Shelf Go.RowKit Go.Lib
theorem Ax.take{w:World}{S:Nat→Prop}{d:Nat}{r:Ty}{css:List (List Value)}{rows:List r.D}{Fs:List ZD}(h:Ax w S d r css rows Fs)(n:Nat):Ax w S d r (css.take n) (rows.take n) (Fs.take n):=by
 refine⟨by simp[h.1],by simp[h.2.1],fun c hc=>h.2.2.1 c (List.mem_of_mem_take hc),fun i cs y G a b c=> ?_⟩;rw[List.getElem?_take]at a b c;split at a
 ·rename_i hi
  rw[Zn hi]at b c;exact h.2.2.2 i cs y G a b c
 ·cases a
theorem Ax.drop{w:World}{S:Nat→Prop}{d:Nat}{r:Ty}{css:List (List Value)}{rows:List r.D}{Fs:List ZD}(h:Ax w S d r css rows Fs)(n:Nat):Ax w S d r (css.drop n) (rows.drop n) (Fs.drop n):=by
 refine⟨by simp[h.1],by simp[h.2.1],fun c hc=>h.2.2.1 c (List.mem_of_mem_drop hc),fun i cs y G a b c=> ?_⟩;rw[af]at a b c;exact h.2.2.2 _ cs y G a b c
end Go.Fw
end
section
namespace Go.Fw
open Go.M Go.Proofs Go.Shelf Go.RowKit Go.Lib
section
variable{P:Program} {ρ:Ren} {nm:String} {fv:Func}
theorem Hq{t:TypeId}{n:Nat}(h:(P.info? t).map (·.size)=some n):∀w,(Go.sizeOf t).run P w= .ok n w:=fun w=>by
 obtain⟨i,hi,rfl⟩:=ZV.1 h;simp[sizeOf,typeInfo,hi]
theorem KY{t:TypeId}{z:Value}(h:(P.info? t).bind (·.zero)=some z):∀w,(zeroValue t).run P w= .ok z w:=fun w=>by
 obtain⟨i,hi,hz⟩:=ZW.1 h;simp[zeroValue,typeInfo,hi,hz]
structure Sf (P:Program) (ρ:Ren):Prop where
 t0:P.underlying (ρ.t 0)=some (TypeDesc.tuple #[])
 t3:P.underlying (ρ.t 3)=some (TypeDesc.int IntKind.i64)
 t4:P.underlying (ρ.t 4)=some (TypeDesc.bool)
 t24:P.underlying (ρ.t 24)=some (TypeDesc.slice (ρ.t 9))
 s0:(P.info? (ρ.t 0)).map (·.size)=some 1
 s3:(P.info? (ρ.t 3)).map (·.size)=some 1
 s4:(P.info? (ρ.t 4)).map (·.size)=some 1
 VM:(P.info? (ρ.t 24)).map (·.size)=some 1
 v0:(P.info? (ρ.t 0)).bind (·.zero)=some (Value.tuple #[])
 v3:(P.info? (ρ.t 3)).bind (·.zero)=some (Value.int IntKind.i64 0)
 v4:(P.info? (ρ.t 4)).bind (·.zero)=some (Value.bool false)
 v24:(P.info? (ρ.t 24)).bind (·.zero)=some (Value.slice none 0 0)
theorem Sf.ins(h:Sf P ρ)(hm:P.follows .mixedOrders=true)(f22:P.funcs[ρ.f 22]? =some { Body2.n22 ρ with name:=nm })(n22:(nm== "runtime.NumGoroutine")=false)(f29:P.funcs[ρ.f 29]? =some fv)(n29:(fv.name== "runtime.NumGoroutine")=false)
  (XF:fv.body.isNone=true) (W8:Extern.findNext fv=none) (Wj:Extern.find fv=some (Extern.SlicesOverlaps.overlaps #[(ρ.t 24),(ρ.t 24)] #[(ρ.t 4)])):TV P ρ nm fv:=
 ⟨hm,f22,n22,f29,n29,XF,W8,Wj,h.t0,run_isAgg_plain h.t0 rfl,Hq h.s0,KY h.v0,h.t3,run_isAgg_plain h.t3 rfl,Hq h.s3,KY h.v3,h.t4,run_isAgg_plain h.t4 rfl,Hq h.s4,KY h.v4,h.t24,run_isAgg_plain h.t24 rfl,Hq h.VM,KY h.v24⟩
@[reducible] def Bt (f22 f24 f29 f30 t24 t9:Nat):Ren:=⟨fun k=>if k=22 then f22 else if k=24 then f24 else if k=29 then f29 else if k=30 then f30 else k,fun k=>if k=24 then t24 else if k=9 then t9 else k,fun k=>k⟩
end
end Go.Fw
end
section
namespace Go.Fw
open Go
def PR(n:Int):Option ZC:=if-9223372036854775808≤n∧n≤9223372036854775807 then some (Go.Lib.itoa n)else none
def Hn(s p:ZC):Option Bool:=if s.length<4294967281 then some (Go.Lib.contains s p)else none
def J4(s p:ZC):Option ZC:=some (Go.Lib.trimPrefix s p)
def SO(s p:ZC):Option (List UInt8×List UInt8×Bool):=if s.length<4294967281 then some (Go.Lib.cut s p)else none
def Mm(l:List ZC)(x:ZC):Option Int:=if l.length≤9223372036854775807 then some (Go.Lib.idxOfS (l.map fun y=>⟨y.toArray⟩) ⟨x.toArray⟩)else none
def Am(s:ZC)(most:Int):Option (Int×Bool):=
 if s.length≤1048576 then some (match Go.Lib.atoiAll s with
  | .ok v=>if 0≤v∧(s.length:Int)≤most∧Go.Lib.itoa v=s then(v,true)else(0,false)
  |_=>(0,false))else none
end Go.Fw
end
section
namespace Go.Fw
open Go.M Go.Proofs Go.Shelf Go.RowKit
theorem DU{P:Program}{f:Nat}{ins outs:List (Nat×XP)}{g:C0.V ⟨ins,[]⟩→Option (C0.V ⟨outs,[]⟩)}
  (EX:FX.ok ⟨⟨ins,[]⟩,⟨outs,[]⟩,g⟩=true) (QL:∀args w,(callFunc f args).run P w= .ok (.enter f args) w)
  (h:∀(E:Env) (w:World) (x:A5.V ins) (args:Array Value) (u:A5.V outs),args.size=ins.length→(∀w',Below w.heap.size w w'→GI w')→Cc E w [] id ins x args.toList→g (x,())=some (u,())→
   Calls P f args w fun e w' => ∃v,e= .returned v∧Below w.heap.size w w'∧Cc E w' [] id outs u [v]):
  Cz P f ⟨⟨ins,[]⟩,⟨outs,[]⟩,g⟩:=by
 refine⟨EX,QL,fun E w v args u CO hB hS hg=> ?_⟩;obtain⟨x,⟨⟩⟩:=v;obtain⟨u,⟨⟩⟩:=u;have hT:∀{w':World},Below w.heap.size w w'→ ∀c,E.T c→w'.heap[c]? =w.heap[c]?:=fun hb c hc=>hb.block c (hB.HU c hc)
 refine(h E w x args u CO (fun w' hb=>hB.NY w' (hT hb)) hS hg).mono fun e w' hR=> ?_
 obtain⟨v,rfl,hb,hs⟩:=hR;exact⟨v,E,rfl,⟨fun _ h=>h,fun _ h=>h,fun _ h=> .inl h,fun _ h=> .inl h,hT hb,hb.os,hb.tape,hb.output,hb.size⟩,
  ⟨[],⟨rfl,fun k B F h=>by simp[Bj.mk]at h⟩,by simp,by simp,by simp,hB.st,fun c hc=>Z0 (hB.HU c hc) hb.size,hB.NY.mono (fun _ h=>h) (hT hb)⟩,hs,fun i hi=>by simp at hi⟩
theorem Km{w:World}(k:Nat)(os:Array Obj):Below w.heap.size w (Go.Sort.grow (w.drewN k) os):=
 ⟨rfl,rfl,rfl,by simp[Go.Sort.grow,World.drewN],fun c hc=>by
  show(w.heap++os)[c]? =_
  rw[Array.getElem?_append_left hc]⟩
theorem UR{args:Array Value}{a:Value}(hl:args.size=1)(h:args.toList[0]? =some a):args= #[a]:=by
 apply bJ
 match hq:args.toList,(show args.toList.length=1 from hl)with
 |[b],_=>rw[hq]at h;simp at h;simp[h]
theorem Nx{args:Array Value}{a b:Value}(hl:args.size=2)(h:args.toList[0]? =some a)(h2:args.toList[1]? =some b):args= #[a,b]:=by
 apply bJ
 match hq:args.toList,(show args.toList.length=2 from hl)with
 |[c,d],_=>rw[hq]at h h2;simp at h h2;simp[h,h2]
theorem RY{E:Env}{w:World}{vw:List Bx}{n:Int}{v:Value}(h:XR E w vw (.c (.v (.int .i64) n)) v):v= .int .i64 n:=by
 have:VR E w vw (.v (.int .i64) n) v:=h;simp only[VR,Rd,Zo,Z_]at this;exact this.2
theorem HH{E:Env}{w:World}{vw:List Bx}{n:ZC}{v:Value}(h:XR E w vw (.c (.v .str n)) v):v= .string ⟨n.toArray⟩:=by
 have:VR E w vw (.v .str n) v:=h;simp only[VR,Rd,Zo,Z_]at this;exact this.2
abbrev sI:XP:= .c (.v (.int .i64))
abbrev sS:XP:= .c (.v .str)
abbrev sB:XP:= .c (.v .bool)
theorem Ox{P:Program}{ρ:Ren}(L:LaysM.n171 P ρ)(QL:∀args w,(callFunc (ρ.f 171) args).run P w= .ok (.enter (ρ.f 171) args) w)(Qk:∀w,GI w→Go.Lib.TabIs P w "internal/strconv.uint64pow10" .u64 Go.Lib.pow10Tab):
  Cz P (ρ.f 171) ⟨⟨[(0,sI)],[]⟩,⟨[(0,sS)],[]⟩,fun v=>(PR v.1.1).map fun l=>((l,()),())⟩:=by
 refine DU rfl QL fun E w x args u CO hG hS hg=> ?_
 obtain⟨n,⟨⟩⟩:=x;obtain⟨⟨v0,h0,x0⟩,_⟩:=hS;obtain rfl:=UR CO h0;obtain rfl:=RY x0;simp only[ZV]at hg;obtain⟨l,hl,hg⟩:=hg;unfold PR at hl;split at hl
 case isFalse=>cases hl
 rename_i hc;cases hl;cases hg;refine(Any.strconv_Itoa L n hc.1 hc.2 w (Qk w (hG w (Below.refl _ _)))).mono fun e w' h=> ?_
 obtain⟨rfl,k,os,rfl⟩:=h;exact⟨_,rfl,Km k os,⟨_,rfl,rfl,rfl⟩,trivial⟩
theorem LO{P:Program}{ρ:Ren}(L:Lays.n144 P ρ)(QL:∀args w,(callFunc (ρ.f 144) args).run P w= .ok (.enter (ρ.f 144) args) w)(Qk:∀w:World,GI w→ ∃m,w.cell? ⟨ρ.g 1,0,none⟩=some (.int .i64 m)):
  Cz P (ρ.f 144) ⟨⟨[(0,sS),(1,sS)],[]⟩,⟨[(0,sB)],[]⟩,fun v=>(Hn v.1.1 v.1.2.1).map fun l=>((l,()),())⟩:=by
 refine DU rfl QL fun E w x args u CO hG hS hg=> ?_
 obtain⟨s,p,⟨⟩⟩:=x;obtain⟨⟨v0,h0,x0⟩,⟨v1,h1,x1⟩,_⟩:=hS;obtain rfl:=Nx CO h0 h1;obtain rfl:=HH x0;obtain rfl:=HH x1;simp only[ZV]at hg;obtain⟨l,hl,hg⟩:=hg;unfold Hn at hl;split at hl
 case isFalse=>cases hl
 rename_i hc;cases hl;cases hg;obtain⟨m,hm⟩:=Qk w (hG w (Below.refl _ _));refine(Any.strings_Contains L ⟨s.toArray⟩ ⟨p.toArray⟩ m w (by simpa[ByteArray.size]using hc) hm).mono fun e w' h=> ?_
 obtain⟨rfl,rfl⟩:=h;exact⟨_,rfl,Below.refl _ _,⟨_,rfl,rfl,rfl⟩,trivial⟩
theorem Jh{P:Program}{ρ:Ren}(L:Lays.n101 P ρ)(QL:∀args w,(callFunc (ρ.f 101) args).run P w= .ok (.enter (ρ.f 101) args) w):
  Cz P (ρ.f 101) ⟨⟨[(0,sS),(1,sS)],[]⟩,⟨[(0,sS)],[]⟩,fun v=>(J4 v.1.1 v.1.2.1).map fun l=>((l,()),())⟩:=by
 refine DU rfl QL fun E w x args u CO hG hS hg=> ?_
 obtain⟨s,p,⟨⟩⟩:=x;obtain⟨⟨v0,h0,x0⟩,⟨v1,h1,x1⟩,_⟩:=hS;obtain rfl:=Nx CO h0 h1;obtain rfl:=HH x0;obtain rfl:=HH x1;cases hg;refine(Any.strings_TrimPrefix L ⟨s.toArray⟩ ⟨p.toArray⟩ w).mono fun e w' h=> ?_
 obtain⟨rfl,rfl⟩:=h;exact⟨_,rfl,Below.refl _ _,⟨_,rfl,rfl,rfl⟩,trivial⟩
theorem QX{P:Program}{ρ:Ren}(L:Lays.n145 P ρ)(QL:∀args w,(callFunc (ρ.f 145) args).run P w= .ok (.enter (ρ.f 145) args) w)(Qk:∀w:World,GI w→ ∃m,w.cell? ⟨ρ.g 1,0,none⟩=some (.int .i64 m)):
  Cz P (ρ.f 145) ⟨⟨[(0,sS),(1,sS)],[]⟩,⟨[(0,.D6 [.inl (.v .str),.inl (.v .str),.inl (.v .bool)])],[]⟩,fun v=>(SO v.1.1 v.1.2.1).map fun l=>(((l.1,l.2.1,l.2.2,()),()),())⟩:=by
 refine DU rfl QL fun E w x args u CO hG hS hg=> ?_
 obtain⟨s,p,⟨⟩⟩:=x;obtain⟨⟨v0,h0,x0⟩,⟨v1,h1,x1⟩,_⟩:=hS;obtain rfl:=Nx CO h0 h1;obtain rfl:=HH x0;obtain rfl:=HH x1;simp only[ZV]at hg;obtain⟨l,hl,hg⟩:=hg;unfold SO at hl;split at hl
 case isFalse=>cases hl
 rename_i hc;cases hl;cases hg;obtain⟨m,hm⟩:=Qk w (hG w (Below.refl _ _));refine(Any.strings_Cut L ⟨s.toArray⟩ ⟨p.toArray⟩ m w (by simpa[ByteArray.size]using hc) hm).mono fun e w' h=> ?_
 obtain⟨rfl,n,rfl⟩:=h;exact⟨_,rfl,⟨rfl,rfl,rfl,Zx _,fun _ _=>rfl⟩,⟨_,rfl,_,rfl,⟨rfl,rfl⟩,⟨rfl,rfl⟩,⟨rfl,rfl⟩,trivial⟩,trivial⟩
theorem NZ{P:Program}{ρ:Ren}(L:Lays.n109 P ρ)(QL:∀args w,(callFunc (ρ.f 109) args).run P w= .ok (.enter (ρ.f 109) args) w):
  Cz P (ρ.f 109) ⟨⟨[(0,.c (.sl false .str)),(1,sS)],[]⟩,⟨[(0,sI)],[]⟩,fun v=>(Mm v.1.1 v.1.2.1).map fun l=>((l,()),())⟩:=by
 refine DU rfl QL fun E w x args u CO hG hS hg=> ?_
 obtain⟨s,p,⟨⟩⟩:=x;obtain⟨⟨v0,h0,x0⟩,⟨v1,h1,x1⟩,_⟩:=hS;obtain rfl:=Nx CO h0 h1;obtain rfl:=HH x1;simp only[ZV]at hg;obtain⟨l,hl,hg⟩:=hg;unfold Mm at hl;split at hl
 case isFalse=>cases hl
 rename_i hc;cases hl;cases hg;have XK:VR E w [] (.sl false .str s) v0:=x0;simp only[VR,Rd]at XK;obtain⟨a,cap,e,hle,hr⟩:=XK;simp only[Zo,Z_]at e;subst e;by_cases hn:s.length=0
 ·obtain rfl:=Zm hn
  refine(Any.slices_Index_string_empty L a cap ⟨p.toArray⟩ w).mono fun e w' h=> ?_
  obtain⟨rfl,rfl⟩:=h;exact⟨_,rfl,Below.refl _ _,⟨_,rfl,rfl,rfl⟩,trivial⟩
 rcases hr with hr|⟨b,o,rfl,_,hr⟩
 ·exact absurd hr hn
 refine(Any.slices_Index_string L b o s.length cap (s.map fun y=>⟨y.toArray⟩) ⟨p.toArray⟩ w (by simp) hc (fun j hj=> ?_)).mono fun e w' h=> ?_
 ·simp only[List.length_map]at hj
  obtain⟨cs,Oc,hce,V4⟩:=hr j _ (ZT hj);subst V4;have:=hce 0 _ rfl;simp[Ty.n]at this;simp[this,hj]
 ·obtain⟨rfl,rfl⟩:=h
  refine⟨_,rfl,Below.refl _ _,⟨_,rfl,rfl,?_⟩,trivial⟩;rw[ay (by simp)];rfl
theorem Je{P:Program}{f:Nat}(QL:∀args w,(callFunc f args).run P w= .ok (.enter f args) w)
  (hc:∀(s:ByteArray) (m:Int) (w:World),s.size≤1048576→(∀w',Below w.heap.size w w'→GI w')→
   Calls P f #[.string s,.int .i64 m] w fun e w' =>(∃a b,Am s.data.toList m=some (a,b)∧e= .returned (.tuple #[.int .i64 a,.bool b]))∧Below w.heap.size w w'):
  Cz P f ⟨⟨[(0,sS),(1,sI)],[]⟩,⟨[(0,.D6 [.inl (.v (.int .i64)),.inl (.v .bool)])],[]⟩,fun v=>(Am v.1.1 v.1.2.1).map fun l=>(((l.1,l.2,()),()),())⟩:=by
 refine DU rfl QL fun E w x args u CO hG hS hg=> ?_
 obtain⟨s,p,⟨⟩⟩:=x;obtain⟨⟨v0,h0,x0⟩,⟨v1,h1,x1⟩,_⟩:=hS;obtain rfl:=Nx CO h0 h1;obtain rfl:=HH x0;obtain rfl:=RY x1;simp only[ZV]at hg;obtain⟨l,hl,hg⟩:=hg;have hs:s.length≤1048576:=by
  unfold Am at hl;split at hl
  ·assumption
  ·cases hl
 cases hg;refine(hc ⟨s.toArray⟩ p w (by simpa[ByteArray.size]using hs) hG).mono fun e w' h=> ?_
 obtain⟨⟨a,b,e1,rfl⟩,hb⟩:=h;have e2:Am s p=some (a,b):=by simpa using e1
 obtain rfl:=ah (hl.symm.trans e2);exact⟨_,rfl,hb,⟨_,rfl,_,rfl,⟨rfl,rfl⟩,⟨rfl,rfl⟩,trivial⟩,trivial⟩
def Tz{P:Program}{f f':Nat}{i o:C0}{F:i.V→Option o.V}(h:Cz P f' ⟨i,o,F⟩)(hf:f' =f)(g:i.Cu (Option o.V))(hg:∀v:i.V,i.un g v=F v):SP P:=
 ⟨f,⟨i,o,i.un g⟩,by rw[funext hg,←hf];exact h⟩
end Go.Fw
end
section
namespace Go.Fw
open Go Go.RowKit
theorem MB{H:Type}{enc:TypeId×Value→H}{a:Assume}{C:Checked}{os:Os}{f:FuncId}{fn:Func}{s:ChangeSpec}{conds:List PathCond}{apart fresh handsOn again:Bool}{X:World→Array Value→Prop}
  (hX:∀(w w':World) (args:Array Value),w.heap=w'.heap→X w args→X w' args)
  (own:ownKnob C.prog.godebug=none) (started:os.Started) (TJ:C.prog.inits.idxOf? f=none) (WV:C.prog.funcs[f]? =some fn)
  (witness:∃(w:World) (tape:Tape) (i:Input),w.os=os∧(w.forCall tape i).Shaped C.prog∧i.vars=[]∧Input.okWide C.prog (w.forCall tape i) .any w.heap.size f i∧
   ((s.pre enc C.prog fn conds apart (w.forCall tape i).memory i.args∧X (w.forCall tape i).memory i.args)∧sizedMet enc C.prog fn (OpenSpec.ofChange s) apart (w.forCall tape i).memory i.args)∧a.holds C.prog (lone (Frame.enter C.prog f i.args .normal) [] (w.forCall tape i)))
  (Qz:∀(W:World) (base:Nat) (args:Array Value) (ds gs:List (DataW H)) (before:List MemPlace),
   (∀(j:Nat) t v,fn.params[j]? =some t→args[j]? =some v→Value.okWide C.prog W .any base t v)→
   DataW.Whole enc C.prog fn.params.toList s.vars apart W args.toList ds gs before→X W args→W.ShapedOpen C.prog→
   Calls C.prog f args W fun e W' => ∃v,e= .returned v∧s.post enc C.prog fn apart fresh handsOn again W args v W'):
  ReturnsInHanded a C os f .any (fun w args=>(s.pre enc C.prog fn conds apart w args∧X w args)∧sizedMet enc C.prog fn (OpenSpec.ofChange s) apart w args) (s.post enc C.prog fn apart fresh handsOn again):=by
 refine returnsInHanded_of_calls own started TJ witness ?_
 intro w tape i _ Uo _ EX V6 _;obtain⟨_,_,_,fn',hfn',_,_,_,_,R9⟩:=EX;have e:fn' =fn:=ah (hfn'.symm.trans WV);subst e;obtain⟨⟨⟨ds,gs,before,hw,hc⟩,hx⟩,hz⟩:=V6;have R_:=DataW.Whole.of_heap (w':=w.forCall tape i) (by rfl) hw;refine(Qz (w.forCall tape i) w.heap.size i.args ds gs before R9 R_ (hX _ _ _ (by rfl) hx) Uo).mono fun e W' ⟨v,he,hp⟩=> ?_
 subst he;exact ChangeSpec.post_blind hp
theorem Lj{P:Program}{n nm:String}{d:DataW Unit}{r:List (String×DataW Unit)}{W:World}{g:Nat}{ti:TypeId}{ms:Array (String×TypeId)}
  (h:laidMet P ((n,.iface nm d)::r) W) (hg:P.globalNamed n=some g) (ht:(P.globals[g]?).map (·.type)=some ti) (hi:P.underlying ti=some (.interface ms)):HS W g:=by
 obtain⟨ps,⟨g0,t0,cs0,f0,p0,q0,hg0,NS,VT,WA,_,e0⟩,_,GP⟩:=h;obtain rfl:=ah (hg.symm.trans hg0);obtain rfl:=ah (ht.symm.trans NS);obtain⟨f1,u,v,e,_⟩:=Go.iface_of_trod hi WA;refine⟨.iface u v,?_,.inr ⟨u,v,rfl⟩⟩;have:=World.var?_cell hg0 VT 0
 have e':cs0= #[.iface u v]:=by
  obtain⟨l⟩:=cs0;simp only at e;rw[e]
 rw[e']at this;simpa using this
end Go.Fw
end
