/- FnRun:for every input the law returns true,and each argument reads behind the call as it read before;no condition. -/
import Derived.Test.YtdkfcaidapdecaaGreatRows
import Derived.Test.YtdkfcaidapdecaaGreatE1
import Derived.Test.YtdkfcaidapdecaaGreatM1
import Derived.WalkKit
import Derived.ProofKit
import Derived.OpenShut
import Derived.ShutString
import Derived.ChangeOld
import Derived.Below
import Derived.SizedLaws
set_option linter.unusedVariables false
set_option linter.unusedSimpArgs false
set_option linter.unusedSectionVars false
namespace Go.Proofs.YtdkfcaidapdecaaGreat
open Go Go.Fw Go.M Go.ChangeShapes Go.WideShapes Go.ChangeAt Go.RowKit
namespace fnRun
theorem xf{P:Program}{D2:List (Nat×XP)}{g:(⟨D2,[]⟩:A6).Cu (Option pX.V)}(f:Nat)(s:SP P)(hf:s.f=f)(hc:s.c=⟨⟨D2,[]⟩,pX,A6.un ⟨D2,[]⟩ g⟩){W:World}{args:Array Value}(x:G9.V D2)(hlen:args.size=D2.length)
  (hx:Oy (tO W) W [] id D2 x args.toList) (hg:A6.un ⟨D2,[]⟩ g (x,())=some ((true,()),())):Calls P f args W fun e W' =>e= .returned (.bool true)∧Below W.heap.size W W':=by
 have h:=s.h;rw[hc,hf]at h;exact ABH h x hlen hx hg
theorem own:ownKnob Tryz.prog.godebug=none:=by kernel_rfl
theorem laidOut:laidOutB Tryz.prog=true:=by kernel_rfl
set_option maxRecDepth 100000 in
theorem lifted(os:Os)(started:os.Started)(H:Type)(enc:TypeId×Value→H):
  ReturnsInHanded {} Tryz.checked os 5 .any (Rows.fnRunSpec.pre6 enc Tryz.prog Tryz.f5 Rows.fnRunRow.domain false) (Rows.fnRunSpec.post enc Tryz.prog Tryz.f5 false true false false):=by
 refine returnsInHanded_of_change_sized (C:=Tryz.checked) own started (by kernel_rfl) Tryz.func5
  (ChangeSpec.witness6 (enc:=enc) (C:=Tryz.checked) false ⟨#[],#[.slice none 0 0],[]⟩ 8 (by kernel_rfl) (by kernel_rfl) (by kernel_rfl) (by kernel_rfl)) ?_
 intro W base args ds gs before ANT hW Aex AY0 _;have AWZ:∀(j:Nat) t v,Tryz.f5.params[j]? =some t→args[j]? =some v→Value.okWide Tryz.prog W .any base t v:=ANT;have hW':=hW;obtain⟨p,q,hA0,hV,rfl,hfz,yH⟩:=hW;have hA:DataW.TrodAll enc Tryz.prog W 0 (fun _=>true) true Tryz.f5.params.toList args.toList ds p:=hA0;rw[Tryz.params5]at hA AWZ;obtain⟨v0,vs0,d0,ds0,p0,q0,Is,rfl,rfl,h0,r0⟩:=trodAll_cons hA;obtain⟨rfl,rfl,rfl⟩:=trodAll_nil r0;obtain rfl:args= #[v0]:=by cases args;simp_all
 obtain⟨rfl,rfl⟩:=trodVars_none hV;have k0:=h0;have lt0:∀x∈p0,x.block<W.heap.size:=by obtain⟨m,hm⟩:=k0;exact DataW.trod_lt m _ _ _ hm
 obtain⟨a0,len0,cap0,rfl⟩:=okWide_slice Tryz.underlying22 (AWZ 0 22 v0 rfl rfl);obtain⟨m0,hm0⟩:=h0;obtain⟨y0,a0_,b0⟩:=j9 8 (P:=Tryz.prog) (t:=22) (q:=([.sl (.int .u8)],false)) (by kernel_rfl) hm0;obtain⟨w0,_,e0,a0,_⟩:=a0_;cases e0;clear hA0 ANT AY0;have hu:∀F:Wk.i5.Cu (Option pX.V),A6.un Wk.i5 F ((y0.1,()),())=F y0.1:=fun F=>rfl
 refine(xf 5 Wk.s5 (by kernel_rfl) (D2:=Wk.i5.D2) (g:=RR) (by kernel_rfl) (y0.1,()) rfl ⟨⟨_,rfl,AKL a0⟩,trivial⟩ ((hu RR).trans (zC b0.1))).mono fun e W' ⟨he,bel⟩=> ?_
 subst he;exact⟨_,rfl,_,_,_,[],_,[],hW',trodAll_mk1 (shut_bool Tryz.underlying4 _),(trodAll_cons_mk (Below.trod laidOut (by kernel_rfl) (of_decide_eq_true (by kernel_rfl)) k0 bel lt0) trodAll_mk0),rfl,bel.frame _,fun h=>by cases h⟩
theorem AZ8:Tryz.pinned.checked.prog.funcNamed Rows.fnRunRow.func=some 5:=by kernel_rfl
theorem AV3:(Rows.fnRunRow.inPlace==Tryz.pinned.checked.prog.inPlace 5)=true:=by kernel_rfl
theorem ATs:(Rows.fnRunRow.unfollowed==Tryz.pinned.checked.prog.unfollowed 5)=true:=by kernel_rfl
theorem AU4:(Rows.fnRunRow.recurses==Tryz.pinned.checked.prog.recurses 5)=true:=by kernel_rfl
theorem ATj:(Rows.fnRunRow.named==Tryz.pinned.checked.prog.varsNamed 5)=true:=by kernel_rfl
theorem Aad:joinedFacts Tryz.pinned.checked.prog 5 Tryz.f5 Rows.fnRunSpec Rows.fnRunRow=true:=by
 unfold joinedFacts;rw[AV3,ATs,AU4,ATj]
 kernel_rfl
theorem AZ4:decide (Func.isInstance Tryz.pinned.checked.prog Tryz.f5 Rows.fnRunRow.origin Rows.fnRunRow.targs)=true:=by kernel_rfl
theorem Aav:Func.isWrapper Tryz.pinned.checked.prog Tryz.f5 Rows.fnRunRow.wrapper Rows.fnRunRow.mainSum:=by unfold Func.isWrapper;first|(rw[if_pos (by decide+kernel)];kernel_rfl)|(rw[if_neg (by decide+kernel)];exact⟨rfl,rfl⟩)
theorem over:Rows.fnRunRow.holds Tryz.pinned (OpenSpec.ofChange Rows.fnRunSpec):=
 OpenClaim.holds_of_wide 5 Tryz.f5 rfl rfl rfl rfl rfl rfl rfl ⟨rfl,rfl,rfl,rfl,rfl⟩ rfl rfl rfl rfl rfl AZ8 Tryz.func5 Aad
  (of_decide_eq_true AZ4) Aav
  (fun os started H enc _=>lifted os started H enc)
end fnRun
/-- The row,under a short name,for the claim. -/
theorem fnRun_holds:Rows.FnRunSaid:=fnRun.over
end Go.Proofs.YtdkfcaidapdecaaGreat
#print axioms Go.Proofs.YtdkfcaidapdecaaGreat.fnRun_holds
