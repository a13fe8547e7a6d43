/- FnTrue:for every input the law returns true,and each argument reads behind the call as it read before;no condition. -/
import Derived.Test.YtebiojjohcpanaaGreatRows
import Derived.Test.YtebiojjohcpanaaGreatE1
import Derived.Test.YtebiojjohcpanaaGreatM1
import Derived.WalkKit
import Derived.ProofKit
import Derived.OpenShut
import Derived.ShutString
import Derived.ChangeOld
import Derived.Below
import Derived.SizedLaws
set_option linter.unusedVariables false
set_option linter.unusedSimpArgs false
set_option linter.unusedSectionVars false
namespace Go.Proofs.YtebiojjohcpanaaGreat
open Go Go.Fw Go.M Go.ChangeShapes Go.WideShapes Go.ChangeAt Go.RowKit
namespace fnTrue
theorem zu{P:Program}{ED:List (Nat×XP)}{g:(⟨ED,[]⟩:Bh).Cu (Option qX.V)}(f:Nat)(s:SP P)(hf:s.f=f)(hc:s.c=⟨⟨ED,[]⟩,qX,Bh.un ⟨ED,[]⟩ g⟩){W:World}{args:Array Value}(x:HK.V ED)(hlen:args.size=ED.length)
  (hx:Ou (vl W) W [] id ED x args.toList) (hg:Bh.un ⟨ED,[]⟩ g (x,())=some ((true,()),())):Calls P f args W fun e W' =>e= .returned (.bool true)/\Below W.heap.size W W':=by
 have h:=s.h;rw[hc,hf]at h;exact ACx h x hlen hx hg
theorem own:ownKnob Tryz.prog.godebug=none:=by kernel_rfl
theorem laidOut:laidOutB Tryz.prog=true:=by kernel_rfl
set_option maxRecDepth 100000 in
theorem lifted(os:Os)(started:os.Started)(H:Type)(enc:TypeId×Value->H):
  ReturnsInHanded {} Tryz.checked os 3 .any (Rows.fnTrueSpec.pre6 enc Tryz.prog Tryz.f3 Rows.fnTrueRow.domain false) (Rows.fnTrueSpec.post enc Tryz.prog Tryz.f3 false true false false):=by
 refine returnsInHanded_of_change_sized (C:=Tryz.checked) own started (by kernel_rfl) Tryz.func3
  (ChangeSpec.witness6 (enc:=enc) (C:=Tryz.checked) false ⟨#[],#[.slice none 0 0],[]⟩ 8 (by kernel_rfl) (by kernel_rfl) (by kernel_rfl) (by kernel_rfl)) ?_
 intro W base args ds gs before ANV hW AgQ AcR _;have AUt:∀(j:Nat) t v,Tryz.f3.params[j]? =some t->args[j]? =some v->Value.okWide Tryz.prog W .any base t v:=ANV;have hW':=hW;obtain⟨p,q,hA0,hV,rfl,hfz,r6⟩:=hW;have hA:DataW.TrodAll enc Tryz.prog W 0 (fun _=>true) true Tryz.f3.params.toList args.toList ds p:=hA0;rw[Tryz.params3]at hA AUt;obtain⟨v0,vs0,d0,ds0,p0,q0,Ii,rfl,rfl,h0,r0⟩:=trodAll_cons hA;obtain⟨rfl,rfl,rfl⟩:=trodAll_nil r0;obtain rfl:args= #[v0]:=by cases args;simp_all
 obtain⟨rfl,rfl⟩:=trodVars_none hV;have k0:=h0;have lt0:∀x∈p0,x.block<W.heap.size:=by obtain⟨m,hm⟩:=k0;exact DataW.trod_lt m _ _ _ hm
 obtain⟨a0,ny,cap0,rfl⟩:=okWide_slice Tryz.underlying22 (AUt 0 22 v0 rfl rfl);obtain⟨m0,hm0⟩:=h0;obtain⟨y0,a0_,b0⟩:=jX 8 (P:=Tryz.prog) (t:=22) (q:=([.sl (.int .u8)],false)) (by kernel_rfl) hm0;obtain⟨w0,_,e0,a0,_⟩:=a0_;cases e0;clear hA0 ANV AcR;have hu:∀F:Wk.i3.Cu (Option qX.V),Bh.un Wk.i3 F ((y0.1,()),())=F y0.1:=fun F=>rfl
 refine(zu 3 Wk.s3 (by kernel_rfl) (ED:=Wk.i3.ED) (g:=Rf) (by kernel_rfl) (y0.1,()) rfl ⟨⟨_,rfl,AKy a0⟩,trivial⟩ ((hu Rf).trans (w_ b0.1))).mono fun e W' ⟨he,bel⟩=> ?_
 subst he;exact⟨_,rfl,_,_,_,[],_,[],hW',trodAll_mk1 (shut_bool Tryz.underlying4 _),(trodAll_cons_mk (Below.trod laidOut (by kernel_rfl) (of_decide_eq_true (by kernel_rfl)) k0 bel lt0) trodAll_mk0),rfl,bel.frame _,fun h=>by cases h⟩
theorem Aa9:Tryz.pinned.checked.prog.funcNamed Rows.fnTrueRow.func=some 3:=by kernel_rfl
theorem AV6:(Rows.fnTrueRow.inPlace==Tryz.pinned.checked.prog.inPlace 3)=true:=by kernel_rfl
theorem AUw:(Rows.fnTrueRow.unfollowed==Tryz.pinned.checked.prog.unfollowed 3)=true:=by kernel_rfl
theorem AVK:(Rows.fnTrueRow.recurses==Tryz.pinned.checked.prog.recurses 3)=true:=by kernel_rfl
theorem AX6:(Rows.fnTrueRow.named==Tryz.pinned.checked.prog.varsNamed 3)=true:=by kernel_rfl
theorem AZj:joinedFacts Tryz.pinned.checked.prog 3 Tryz.f3 Rows.fnTrueSpec Rows.fnTrueRow=true:=by
 unfold joinedFacts;rw[AV6,AUw,AVK,AX6]
 kernel_rfl
theorem Abs:decide (Func.isInstance Tryz.pinned.checked.prog Tryz.f3 Rows.fnTrueRow.origin Rows.fnTrueRow.targs)=true:=by kernel_rfl
theorem AbJ:Func.isWrapper Tryz.pinned.checked.prog Tryz.f3 Rows.fnTrueRow.wrapper Rows.fnTrueRow.mainSum:=by unfold Func.isWrapper;first|(rw[if_pos (by decide+kernel)];kernel_rfl)|(rw[if_neg (by decide+kernel)];exact⟨rfl,rfl⟩)
theorem over:Rows.fnTrueRow.holds Tryz.pinned (OpenSpec.ofChange Rows.fnTrueSpec):=
 OpenClaim.holds_of_wide 3 Tryz.f3 rfl rfl rfl rfl rfl rfl rfl ⟨rfl,rfl,rfl,rfl,rfl⟩ rfl rfl rfl rfl rfl Aa9 Tryz.func3 AZj
  (of_decide_eq_true Abs) AbJ
  (fun os started H enc _=>lifted os started H enc)
end fnTrue
/-- The row,under a short name,for the claim. -/
theorem fnTrue_holds:Rows.FnTrueSaid:=fnTrue.over
end Go.Proofs.YtebiojjohcpanaaGreat
#print axioms Go.Proofs.YtebiojjohcpanaaGreat.fnTrue_holds
