/- FnWhole:for every input the law returns true,and each argument reads behind the call as it read before;no condition. -/
import Derived.Test.YtgaopeilfepjmaaGreatRows
import Derived.Test.YtgaopeilfepjmaaGreatE0
import Derived.Test.YtgaopeilfepjmaaGreatM1
import Derived.WalkKit
import Derived.ProofKit
import Derived.OpenShut
import Derived.ShutString
import Derived.ChangeOld
import Derived.Below
import Derived.SizedLaws
set_option linter.unusedVariables false
set_option linter.unusedSimpArgs false
set_option linter.unusedSectionVars false
namespace Go.Proofs.YtgaopeilfepjmaaGreat
open Go Go.Fw Go.M Go.ChangeShapes Go.WideShapes Go.ChangeAt Go.RowKit
namespace fnWhole
theorem kH{P:Program}{Cv:List (Nat×XP)}{g:(⟨Cv,[]⟩:Bg).Cu (Option av.V)}(f:Nat)(s:SP P)(hf:s.f=f)(hc:s.c=⟨⟨Cv,[]⟩,av,Bg.un ⟨Cv,[]⟩ g⟩){W:World}{args:Array Value}(x:Ef.V Cv)(hlen:args.size=Cv.length)
  (hx:Jz (fN W) W [] id Cv x args.toList) (hg:Bg.un ⟨Cv,[]⟩ g (x,())=some ((true,()),())):Calls P f args W fun e W' =>e= .returned (.bool true)∧Below W.heap.size W W':=by
 have h:=s.h;rw[hc,hf]at h;exact nM h x hlen hx hg
theorem own:ownKnob Tryz.prog.godebug=none:=by kernel_rfl
theorem laidOut:laidOutB Tryz.prog=true:=by kernel_rfl
set_option maxRecDepth 100000 in
theorem lifted(os:Os)(started:os.Started)(H:Type)(enc:TypeId×Value→H):
  ReturnsInHanded {} Tryz.checked os 3 .any (Rows.fnWholeSpec.pre6 enc Tryz.prog Tryz.f3 Rows.fnWholeRow.domain false) (Rows.fnWholeSpec.post enc Tryz.prog Tryz.f3 false true false false):=by
 refine returnsInHanded_of_change_sized (C:=Tryz.checked) own started (by kernel_rfl) Tryz.func3
  (ChangeSpec.witness6 (enc:=enc) (C:=Tryz.checked) false ⟨#[],#[.slice none 0 0],[]⟩ 8 (by kernel_rfl) (by kernel_rfl) (by kernel_rfl) (by kernel_rfl)) ?_
 intro W base args ds gs before vk hW AKE AG3 _;have ABn:∀(j:Nat) t v,Tryz.f3.params[j]? =some t→args[j]? =some v→Value.okWide Tryz.prog W .any base t v:=vk;have hW':=hW;obtain⟨p,q,hA0,hV,rfl,hfz,kF⟩:=hW;have hA:DataW.TrodAll enc Tryz.prog W 0 (fun _=>true) true Tryz.f3.params.toList args.toList ds p:=hA0;rw[Tryz.params3]at hA ABn;obtain⟨v0,vs0,d0,ds0,p0,q0,Ff,rfl,rfl,h0,r0⟩:=trodAll_cons hA;obtain⟨rfl,rfl,rfl⟩:=trodAll_nil r0;obtain rfl:args= #[v0]:=by cases args;simp_all
 obtain⟨rfl,rfl⟩:=trodVars_none hV;have k0:=h0;have lt0:∀x∈p0,x.block<W.heap.size:=by obtain⟨m,hm⟩:=k0;exact DataW.trod_lt m _ _ _ hm
 obtain⟨a0,AE8,cap0,rfl⟩:=okWide_slice Tryz.underlying22 (ABn 0 22 v0 rfl rfl);obtain⟨m0,vv⟩:=h0;obtain⟨y0,a0_,b0⟩:=WG 8 (P:=Tryz.prog) (t:=22) (q:=([.sl (.int .u8)],false)) (by kernel_rfl) vv;obtain⟨w0,_,e0,a0,_⟩:=a0_;cases e0;clear hA0 vk AG3;have hu:∀F:Wk.i3.Cu (Option av.V),Bg.un Wk.i3 F ((y0.1,()),())=F y0.1:=fun F=>rfl
 refine(kH 3 Wk.s3 (by kernel_rfl) (Cv:=Wk.i3.Cv) (g:=Ls) (by kernel_rfl) (y0.1,()) rfl ⟨⟨_,rfl,sy a0⟩,trivial⟩ ((hu Ls).trans (gR b0.1))).mono fun e W' ⟨he,bel⟩=> ?_
 subst he;exact⟨_,rfl,_,_,_,[],_,[],hW',trodAll_mk1 (shut_bool Tryz.underlying4 _),(trodAll_cons_mk (Below.trod laidOut (by kernel_rfl) (of_decide_eq_true (by kernel_rfl)) k0 bel lt0) trodAll_mk0),rfl,bel.frame _,fun h=>by cases h⟩
theorem AEd:Tryz.pinned.checked.prog.funcNamed Rows.fnWholeRow.func=some 3:=by kernel_rfl
theorem ABh:(Rows.fnWholeRow.inPlace==Tryz.pinned.checked.prog.inPlace 3)=true:=by kernel_rfl
theorem ABJ:(Rows.fnWholeRow.unfollowed==Tryz.pinned.checked.prog.unfollowed 3)=true:=by kernel_rfl
theorem ABM:(Rows.fnWholeRow.recurses==Tryz.pinned.checked.prog.recurses 3)=true:=by kernel_rfl
theorem ACB:(Rows.fnWholeRow.named==Tryz.pinned.checked.prog.varsNamed 3)=true:=by kernel_rfl
theorem AEk:joinedFacts Tryz.pinned.checked.prog 3 Tryz.f3 Rows.fnWholeSpec Rows.fnWholeRow=true:=by
 unfold joinedFacts;rw[ABh,ABJ,ABM,ACB]
 kernel_rfl
theorem AGr:decide (Func.isInstance Tryz.pinned.checked.prog Tryz.f3 Rows.fnWholeRow.origin Rows.fnWholeRow.targs)=true:=by kernel_rfl
theorem AFk:Func.isWrapper Tryz.pinned.checked.prog Tryz.f3 Rows.fnWholeRow.wrapper Rows.fnWholeRow.mainSum:=by unfold Func.isWrapper;first|(rw[if_pos (by decide+kernel)];kernel_rfl)|(rw[if_neg (by decide+kernel)];exact⟨rfl,rfl⟩)
theorem over:Rows.fnWholeRow.holds Tryz.pinned (OpenSpec.ofChange Rows.fnWholeSpec):=
 OpenClaim.holds_of_wide 3 Tryz.f3 rfl rfl rfl rfl rfl rfl rfl ⟨rfl,rfl,rfl,rfl,rfl⟩ rfl rfl rfl rfl rfl AEd Tryz.func3 AEk
  (of_decide_eq_true AGr) AFk
  (fun os started H enc _=>lifted os started H enc)
end fnWhole
/-- The row,under a short name,for the claim. -/
theorem fnWhole_holds:Rows.FnWholeSaid:=fnWhole.over
end Go.Proofs.YtgaopeilfepjmaaGreat
#print axioms Go.Proofs.YtgaopeilfepjmaaGreat.fnWhole_holds
