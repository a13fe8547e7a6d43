/- FnKept:for every input the law returns true,and each argument reads behind the call as it read before;no condition. -/
import Derived.Test.YtebiojjohcpanaaGreatRows
import Derived.Test.YtebiojjohcpanaaGreatE1
import Derived.Test.YtebiojjohcpanaaGreatM1
import Derived.WalkKit
import Derived.ProofKit
import Derived.OpenShut
import Derived.ShutString
import Derived.ChangeOld
import Derived.Below
import Derived.SizedLaws
set_option linter.unusedVariables false
set_option linter.unusedSimpArgs false
set_option linter.unusedSectionVars false
namespace Go.Proofs.YtebiojjohcpanaaGreat
open Go Go.Fw Go.M Go.ChangeShapes Go.WideShapes Go.ChangeAt Go.RowKit
namespace fnKept
theorem ya{P:Program}{D3:List (Nat×XP)}{g:(⟨D3,[]⟩:BZ).Cu (Option oP.V)}(f:Nat)(s:SP P)(hf:s.f=f)(hc:s.c=⟨⟨D3,[]⟩,oP,BZ.un ⟨D3,[]⟩ g⟩){W:World}{args:Array Value}(x:G5.V D3)(hlen:args.size=D3.length)
  (hx:OB (tv W) W [] id D3 x args.toList) (hg:BZ.un ⟨D3,[]⟩ g (x,())=some ((true,()),())):Calls P f args W fun e W' =>e= .returned (.bool true)∧Below W.heap.size W W':=by
 have h:=s.h;rw[hc,hf]at h;exact ABr h x hlen hx hg
theorem own:ownKnob Tryz.prog.godebug=none:=by kernel_rfl
theorem laidOut:laidOutB Tryz.prog=true:=by kernel_rfl
set_option maxRecDepth 100000 in
theorem lifted(os:Os)(started:os.Started)(H:Type)(enc:TypeId×Value→H):
  ReturnsInHanded {} Tryz.checked os 5 .any (Rows.fnKeptSpec.pre6 enc Tryz.prog Tryz.f5 Rows.fnKeptRow.domain false) (Rows.fnKeptSpec.post enc Tryz.prog Tryz.f5 false true false false):=by
 refine returnsInHanded_of_change_sized (C:=Tryz.checked) own started (by kernel_rfl) Tryz.func5
  (ChangeSpec.witness6 (enc:=enc) (C:=Tryz.checked) false ⟨#[],#[.slice none 0 0],[]⟩ 8 (by kernel_rfl) (by kernel_rfl) (by kernel_rfl) (by kernel_rfl)) ?_
 intro W base args ds gs before AM8 hW AfL AYU _;have AVU:∀(j:Nat) t v,Tryz.f5.params[j]? =some t→args[j]? =some v→Value.okWide Tryz.prog W .any base t v:=AM8;have hW':=hW;obtain⟨p,q,hA0,hV,rfl,hfz,qt⟩:=hW;have hA:DataW.TrodAll enc Tryz.prog W 0 (fun _=>true) true Tryz.f5.params.toList args.toList ds p:=hA0;rw[Tryz.params5]at hA AVU;obtain⟨v0,vs0,d0,ds0,p0,q0,IQ,rfl,rfl,h0,r0⟩:=trodAll_cons hA;obtain⟨rfl,rfl,rfl⟩:=trodAll_nil r0;obtain rfl:args= #[v0]:=by cases args;simp_all
 obtain⟨rfl,rfl⟩:=trodVars_none hV;have k0:=h0;have lt0:∀x∈p0,x.block<W.heap.size:=by obtain⟨m,hm⟩:=k0;exact DataW.trod_lt m _ _ _ hm
 obtain⟨a0,nY,cap0,rfl⟩:=okWide_slice Tryz.underlying22 (AVU 0 22 v0 rfl rfl);obtain⟨m0,hm0⟩:=h0;obtain⟨y0,a0_,b0⟩:=jO 8 (P:=Tryz.prog) (t:=22) (q:=([.sl (.int .u8)],false)) (by kernel_rfl) hm0;obtain⟨w0,_,e0,a0,_⟩:=a0_;cases e0;clear hA0 AM8 AYU;have hu:∀F:Wk.i5.Cu (Option oP.V),BZ.un Wk.i5 F ((y0.1,()),())=F y0.1:=fun F=>rfl
 refine(ya 5 Wk.s5 (by kernel_rfl) (D3:=Wk.i5.D3) (g:=Ql) (by kernel_rfl) (y0.1,()) rfl ⟨⟨_,rfl,AJG a0⟩,trivial⟩ ((hu Ql).trans (w_ b0.1))).mono fun e W' ⟨he,bel⟩=> ?_
 subst he;exact⟨_,rfl,_,_,_,[],_,[],hW',trodAll_mk1 (shut_bool Tryz.underlying4 _),(trodAll_cons_mk (Below.trod laidOut (by kernel_rfl) (of_decide_eq_true (by kernel_rfl)) k0 bel lt0) trodAll_mk0),rfl,bel.frame _,fun h=>by cases h⟩
theorem AZb:Tryz.pinned.checked.prog.funcNamed Rows.fnKeptRow.func=some 5:=by kernel_rfl
theorem AXJ:(Rows.fnKeptRow.inPlace==Tryz.pinned.checked.prog.inPlace 5)=true:=by kernel_rfl
theorem AUr:(Rows.fnKeptRow.unfollowed==Tryz.pinned.checked.prog.unfollowed 5)=true:=by kernel_rfl
theorem AT3:(Rows.fnKeptRow.recurses==Tryz.pinned.checked.prog.recurses 5)=true:=by kernel_rfl
theorem AXE:(Rows.fnKeptRow.named==Tryz.pinned.checked.prog.varsNamed 5)=true:=by kernel_rfl
theorem AZZ:joinedFacts Tryz.pinned.checked.prog 5 Tryz.f5 Rows.fnKeptSpec Rows.fnKeptRow=true:=by
 unfold joinedFacts;rw[AXJ,AUr,AT3,AXE]
 kernel_rfl
theorem AYc:decide (Func.isInstance Tryz.pinned.checked.prog Tryz.f5 Rows.fnKeptRow.origin Rows.fnKeptRow.targs)=true:=by kernel_rfl
theorem AZ1:Func.isWrapper Tryz.pinned.checked.prog Tryz.f5 Rows.fnKeptRow.wrapper Rows.fnKeptRow.mainSum:=by unfold Func.isWrapper;first|(rw[if_pos (by decide+kernel)];kernel_rfl)|(rw[if_neg (by decide+kernel)];exact⟨rfl,rfl⟩)
theorem over:Rows.fnKeptRow.holds Tryz.pinned (OpenSpec.ofChange Rows.fnKeptSpec):=
 OpenClaim.holds_of_wide 5 Tryz.f5 rfl rfl rfl rfl rfl rfl rfl ⟨rfl,rfl,rfl,rfl,rfl⟩ rfl rfl rfl rfl rfl AZb Tryz.func5 AZZ
  (of_decide_eq_true AYc) AZ1
  (fun os started H enc _=>lifted os started H enc)
end fnKept
/-- The row,under a short name,for the claim. -/
theorem fnKept_holds:Rows.FnKeptSaid:=fnKept.over
end Go.Proofs.YtebiojjohcpanaaGreat
#print axioms Go.Proofs.YtebiojjohcpanaaGreat.fnKept_holds
