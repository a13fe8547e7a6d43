/- FnExactHonestRead:for every input the law returns true,and each argument reads behind the call as it read before;no condition. -/
import Derived.Test.YtgaopeilfepjmaaGreatRows
import Derived.Test.YtgaopeilfepjmaaGreatE0
import Derived.Test.YtgaopeilfepjmaaGreatM0
import Derived.WalkKit
import Derived.ProofKit
import Derived.OpenShut
import Derived.ShutString
import Derived.ChangeOld
import Derived.Below
import Derived.SizedLaws
set_option linter.unusedVariables false
set_option linter.unusedSimpArgs false
set_option linter.unusedSectionVars false
namespace Go.Proofs.YtgaopeilfepjmaaGreat
open Go Go.Fw Go.M Go.ChangeShapes Go.WideShapes Go.ChangeAt Go.RowKit
namespace fnExactHonestRead
theorem kO{P:Program}{Bh:List (Nat×XP)}{g:(⟨Bh,[]⟩:Bl).Cu (Option cM.V)}(f:Nat)(s:SP P)(hf:s.f=f)(hc:s.c=⟨⟨Bh,[]⟩,cM,Bl.un ⟨Bh,[]⟩ g⟩){W:World}{args:Array Value}(x:DC.V Bh)(hlen:args.size=Bh.length)
  (hx:G2 (Zp W) W [] id Bh x args.toList) (hg:Bl.un ⟨Bh,[]⟩ g (x,())=some ((true,()),())):Calls P f args W fun e W' =>e= .returned (.bool true)∧Below W.heap.size W W':=by
 have h:=s.h;rw[hc,hf]at h;exact mb h x hlen hx hg
theorem own:ownKnob Tryz.prog.godebug=none:=by kernel_rfl
theorem laidOut:laidOutB Tryz.prog=true:=by kernel_rfl
set_option maxRecDepth 100000 in
theorem lifted(os:Os)(started:os.Started)(H:Type)(enc:TypeId×Value→H):
  ReturnsInHanded {} Tryz.checked os 4 .any (Rows.fnExactHonestReadSpec.pre6 enc Tryz.prog Tryz.f4 Rows.fnExactHonestReadRow.domain false) (Rows.fnExactHonestReadSpec.post enc Tryz.prog Tryz.f4 false true false false):=by
 refine returnsInHanded_of_change_sized (C:=Tryz.checked) own started (by kernel_rfl) Tryz.func4
  (ChangeSpec.witness6 (enc:=enc) (C:=Tryz.checked) false ⟨#[],#[.agg #[.slice none 0 0,.int .i64 0,.slice none 0 0,.slice none 0 0,.slice none 0 0,.int .i64 0,.slice none 0 0,.slice none 0 0,.slice none 0 0,.slice none 0 0,.bool false],.int .i64 0],[]⟩ 8 (by kernel_rfl) (by kernel_rfl) (by kernel_rfl) (by kernel_rfl)) ?_
 intro W base args ds gs before wN hW AHN AFC _;have yQ:∀(j:Nat) t v,Tryz.f4.params[j]? =some t→args[j]? =some v→Value.okWide Tryz.prog W .any base t v:=wN;have hW':=hW;obtain⟨p,q,hA0,hV,rfl,hfz,mu⟩:=hW;have hA:DataW.TrodAll enc Tryz.prog W 0 (fun _=>true) true Tryz.f4.params.toList args.toList ds p:=hA0;rw[Tryz.params4]at hA yQ;obtain⟨v0,vs0,d0,ds0,p0,q0,Fh,rfl,rfl,h0,r0⟩:=trodAll_cons hA;obtain⟨v1,vs1,d1,ds1,p1,q1,rfl,rfl,rfl,h1,r1⟩:=trodAll_cons r0;obtain⟨rfl,rfl,rfl⟩:=trodAll_nil r1;obtain rfl:args= #[v0,v1]:=by cases args;simp_all
 obtain⟨rfl,rfl⟩:=trodVars_none hV;have k0:=h0;have lt0:∀x∈p0,x.block<W.heap.size:=by obtain⟨m,hm⟩:=k0;exact DataW.trod_lt m _ _ _ hm
 obtain⟨c0,rfl,yX⟩:=okWide_struct Tryz.underlying71 (yQ 0 71 v0 rfl rfl);obtain⟨m0,hm0⟩:=h0;obtain⟨y0,a0_,b0⟩:=Wv 8 (P:=Tryz.prog) (t:=71) (q:=([.sl (.int .i64),.int .i64,.sl (.cons (.sl (.cons (.int .i64) (.cons (.int .i64) (.cons (.bool) (.cons (.str) (.unit)))))) (.cons (.sl (.cons (.int .i64) (.cons (.int .i64) (.cons (.bool) (.cons (.str) (.unit)))))) (.cons (.int .i64) (.unit)))),.sl (.int .i64),.sl (.cons (.sl (.int .i64)) (.cons (.bool) (.cons (.int .i64) (.unit)))),.int .i64,.sl (.cons (.int .i64) (.cons (.sl (.cons (.str) (.cons (.sl (.int .i64)) (.cons (.bool) (.unit))))) (.unit))),.sl (.cons (.int .i64) (.cons (.int .i64) (.cons (.sl (.int .i64)) (.cons (.sl (.cons (.int .i64) (.cons (.int .i64) (.cons (.bool) (.cons (.str) (.unit)))))) (.cons (.bool) (.cons (.sl (.sl (.int .i64))) (.unit))))))),.sl (.cons (.int .i64) (.cons (.int .i64) (.cons (.sl (.cons (.int .i64) (.cons (.int .i64) (.cons (.str) (.unit))))) (.unit)))),.sl (.cons (.int .i64) (.cons (.str) (.cons (.bool) (.unit)))),.bool],true)) (by kernel_rfl) hm0;have k1:=h1;have lt1:∀x∈p1,x.block<W.heap.size:=by obtain⟨m,hm⟩:=k1;exact DataW.trod_lt m _ _ _ hm
 obtain⟨c1,rfl⟩:=okWide_int Tryz.underlying3 (yQ 1 3 v1 rfl rfl);obtain⟨m1,X5⟩:=h1;obtain⟨y1,a1_,b1⟩:=Wv 8 (P:=Tryz.prog) (t:=3) (q:=([.int .i64],false)) (by kernel_rfl) X5;obtain⟨w1,_,e1,a1,_⟩:=a1_;cases e1;clear hA0 wN AFC;have hu:∀F:Wk.i4.Cu (Option cM.V),Bl.un Wk.i4 F ((y0,y1.1,()),())=F y0 y1.1:=fun F=>rfl
 refine(kO 4 Wk.s4 (by kernel_rfl) (Bh:=Wk.i4.Bh) (g:=DE) (by kernel_rfl) (y0,y1.1,()) rfl ⟨⟨_,rfl,pN (l:=[.sl (.int .i64),.int .i64,.sl (.cons (.sl (.cons (.int .i64) (.cons (.int .i64) (.cons (.bool) (.cons (.str) (.unit)))))) (.cons (.sl (.cons (.int .i64) (.cons (.int .i64) (.cons (.bool) (.cons (.str) (.unit)))))) (.cons (.int .i64) (.unit)))),.sl (.int .i64),.sl (.cons (.sl (.int .i64)) (.cons (.bool) (.cons (.int .i64) (.unit)))),.int .i64,.sl (.cons (.int .i64) (.cons (.sl (.cons (.str) (.cons (.sl (.int .i64)) (.cons (.bool) (.unit))))) (.unit))),.sl (.cons (.int .i64) (.cons (.int .i64) (.cons (.sl (.int .i64)) (.cons (.sl (.cons (.int .i64) (.cons (.int .i64) (.cons (.bool) (.cons (.str) (.unit)))))) (.cons (.bool) (.cons (.sl (.sl (.int .i64))) (.unit))))))),.sl (.cons (.int .i64) (.cons (.int .i64) (.cons (.sl (.cons (.int .i64) (.cons (.int .i64) (.cons (.str) (.unit))))) (.unit)))),.sl (.cons (.int .i64) (.cons (.str) (.cons (.bool) (.unit)))),.bool]) rfl a0_⟩,⟨_,rfl,zr rfl a1⟩,trivial⟩ ((hu DE).trans (U9 b0 b1.1))).mono fun e W' ⟨he,bel⟩=> ?_
 subst he;exact⟨_,rfl,_,_,_,[],_,[],hW',trodAll_mk1 (shut_bool Tryz.underlying4 _),(trodAll_cons_mk (Below.trod laidOut (by kernel_rfl) (of_decide_eq_true (by kernel_rfl)) k0 bel lt0) (trodAll_cons_mk (Below.trod laidOut (by kernel_rfl) (of_decide_eq_true (by kernel_rfl)) k1 bel lt1) trodAll_mk0)),rfl,bel.frame _,fun h=>by cases h⟩
theorem AFM:Tryz.pinned.checked.prog.funcNamed Rows.fnExactHonestReadRow.func=some 4:=by kernel_rfl
theorem AB8:(Rows.fnExactHonestReadRow.inPlace==Tryz.pinned.checked.prog.inPlace 4)=true:=by kernel_rfl
theorem ABo:(Rows.fnExactHonestReadRow.unfollowed==Tryz.pinned.checked.prog.unfollowed 4)=true:=by kernel_rfl
theorem AAU:(Rows.fnExactHonestReadRow.recurses==Tryz.pinned.checked.prog.recurses 4)=true:=by kernel_rfl
theorem ACC:(Rows.fnExactHonestReadRow.named==Tryz.pinned.checked.prog.varsNamed 4)=true:=by kernel_rfl
theorem AD2:joinedFacts Tryz.pinned.checked.prog 4 Tryz.f4 Rows.fnExactHonestReadSpec Rows.fnExactHonestReadRow=true:=by
 unfold joinedFacts;rw[AB8,ABo,AAU,ACC]
 kernel_rfl
theorem AF4:decide (Func.isInstance Tryz.pinned.checked.prog Tryz.f4 Rows.fnExactHonestReadRow.origin Rows.fnExactHonestReadRow.targs)=true:=by kernel_rfl
theorem AE1:Func.isWrapper Tryz.pinned.checked.prog Tryz.f4 Rows.fnExactHonestReadRow.wrapper Rows.fnExactHonestReadRow.mainSum:=by unfold Func.isWrapper;first|(rw[if_pos (by decide+kernel)];kernel_rfl)|(rw[if_neg (by decide+kernel)];exact⟨rfl,rfl⟩)
theorem over:Rows.fnExactHonestReadRow.holds Tryz.pinned (OpenSpec.ofChange Rows.fnExactHonestReadSpec):=
 OpenClaim.holds_of_wide 4 Tryz.f4 rfl rfl rfl rfl rfl rfl rfl ⟨rfl,rfl,rfl,rfl,rfl⟩ rfl rfl rfl rfl rfl AFM Tryz.func4 AD2
  (of_decide_eq_true AF4) AE1
  (fun os started H enc _=>lifted os started H enc)
end fnExactHonestRead
/-- The row,under a short name,for the claim. -/
theorem fnExactHonestRead_holds:Rows.FnExactHonestReadSaid:=fnExactHonestRead.over
end Go.Proofs.YtgaopeilfepjmaaGreat
#print axioms Go.Proofs.YtgaopeilfepjmaaGreat.fnExactHonestRead_holds
