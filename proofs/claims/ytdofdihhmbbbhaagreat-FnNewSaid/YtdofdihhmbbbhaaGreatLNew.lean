/- FnNew:for every input the law returns true,and each argument reads behind the call as it read before;no condition. -/
import Derived.Test.YtdofdihhmbbbhaaGreatRows
import Derived.Test.YtdofdihhmbbbhaaGreatE0
import Derived.Test.YtdofdihhmbbbhaaGreatM0
import Derived.WalkKit
import Derived.ProofKit
import Derived.OpenShut
import Derived.ShutString
import Derived.ChangeOld
import Derived.Below
import Derived.SizedLaws
set_option linter.unusedVariables false
set_option linter.unusedSimpArgs false
set_option linter.unusedSectionVars false
namespace Go.Proofs.YtdofdihhmbbbhaaGreat
open Go Go.Fw Go.M Go.ChangeShapes Go.WideShapes Go.ChangeAt Go.RowKit
namespace fnNew
theorem Ve {P:Program} {Bb:List (Nat×XP)} {g:(⟨Bb,[]⟩:Cq).Cu (Option Rk.V)} (f:Nat) (s:SP P) (hf:s.f=f) (hc:s.c=⟨⟨Bb,[]⟩,Rk,Cq.un ⟨Bb,[]⟩ g⟩) {W:World} {args:Array Value} (x:Cd.V Bb) (hlen:args.size=Bb.length)
  (hx:GJ (TX W) W [] id Bb x args.toList) (hg:Cq.un ⟨Bb,[]⟩ g (x,())=some ((true,()),())):Calls P f args W fun e W' =>e= .returned (.bool true)∧Below W.heap.size W W':=by
 have h:=s.h
 rw [hc,hf] at h
 exact Wt h x hlen hx hg
theorem own:ownKnob Tryz.prog.godebug=none:=by kernel_rfl
theorem laidOut:laidOutB Tryz.prog=true:=by kernel_rfl
set_option maxRecDepth 100000 in
theorem lifted (os:Os) (started:os.Started) (H:Type) (enc:TypeId×Value→H):
  ReturnsInHanded {} Tryz.checked os 3 .any (Rows.fnNewSpec.pre6 enc Tryz.prog Tryz.f3 Rows.fnNewRow.domain false) (Rows.fnNewSpec.post enc Tryz.prog Tryz.f3 false true false false):=by
 refine returnsInHanded_of_change_sized (C:=Tryz.checked) own started (by kernel_rfl) Tryz.func3
  (ChangeSpec.witness6 (enc:=enc) (C:=Tryz.checked) false ⟨#[],#[.slice none 0 0],[]⟩ 8 (by kernel_rfl) (by kernel_rfl) (by kernel_rfl) (by kernel_rfl)) ?_
 intro W base args ds gs before aW hW kf g0 _
 have fC: ∀(j:Nat) t v,Tryz.f3.params[j]? =some t→args[j]? =some v→Value.okWide Tryz.prog W .any base t v:=aW
 have lk:=hW
 obtain ⟨p,q,hA0,hV,rfl,hfz,WA⟩:=hW
 have hA:DataW.TrodAll enc Tryz.prog W 0 (fun _=>true) true Tryz.f3.params.toList args.toList ds p:=hA0
 rw [Tryz.params3] at hA fC
 obtain ⟨v0,vs0,d0,ds0,p0,q0,DQ,rfl,rfl,h0,r0⟩:=trodAll_cons hA
 obtain ⟨rfl,rfl,rfl⟩:=trodAll_nil r0
 obtain rfl:args= #[v0]:=by cases args;simp_all
 obtain ⟨rfl,rfl⟩:=trodVars_none hV
 have k0:=h0
 have mA: ∀x∈p0,x.block<W.heap.size:=by obtain ⟨m,hm⟩:=k0;exact DataW.trod_lt m _ _ _ hm
 obtain ⟨a0,len0,cap0,rfl⟩:=okWide_slice Tryz.underlying22 (fC 0 22 v0 rfl rfl)
 obtain ⟨m0,hm0⟩:=h0
 obtain ⟨y0,a0_,b0⟩:=Om 8 (P:=Tryz.prog) (t:=22) (q:=([.sl (.int .u8)],false)) (by kernel_rfl) hm0
 obtain ⟨w0,_,e0,a0,_⟩:=a0_
 cases e0
 clear hA0 aW g0
 have hu: ∀F:Wk.i3.Cu (Option Rk.V),Cq.un Wk.i3 F ((y0.1,()),())=F y0.1:=fun F=>rfl
 refine (Ve 3 Wk.s3 (by kernel_rfl) (Bb:=Wk.i3.Bb) (g:=Jg) (by kernel_rfl) (y0.1,()) rfl ⟨⟨_,rfl,Z0 a0⟩,trivial⟩ ((hu Jg).trans (Vg b0.1))).mono fun e W' ⟨he,bel⟩=> ?_
 subst he
 exact ⟨_,rfl,_,_,_,[],_,[],lk,trodAll_mk1 (shut_bool Tryz.underlying4 _),(trodAll_cons_mk (Below.trod laidOut (by kernel_rfl) (of_decide_eq_true (by kernel_rfl)) k0 bel mA) trodAll_mk0),rfl,bel.frame _,fun h=>by cases h⟩
theorem jB:Tryz.pinned.checked.prog.funcNamed Rows.fnNewRow.func=some 3:=by kernel_rfl
theorem f6:(Rows.fnNewRow.inPlace==Tryz.pinned.checked.prog.inPlace 3)=true:=by kernel_rfl
theorem eg:(Rows.fnNewRow.unfollowed==Tryz.pinned.checked.prog.unfollowed 3)=true:=by kernel_rfl
theorem fz:(Rows.fnNewRow.recurses==Tryz.pinned.checked.prog.recurses 3)=true:=by kernel_rfl
theorem fB:(Rows.fnNewRow.named==Tryz.pinned.checked.prog.varsNamed 3)=true:=by kernel_rfl
theorem ia:joinedFacts Tryz.pinned.checked.prog 3 Tryz.f3 Rows.fnNewSpec Rows.fnNewRow=true:=by
 unfold joinedFacts
 rw [f6,eg,fz,fB]
 kernel_rfl
theorem jW:decide (Func.isInstance Tryz.pinned.checked.prog Tryz.f3 Rows.fnNewRow.origin Rows.fnNewRow.targs)=true:=by kernel_rfl
theorem ir:Func.isWrapper Tryz.pinned.checked.prog Tryz.f3 Rows.fnNewRow.wrapper Rows.fnNewRow.mainSum:=by unfold Func.isWrapper;first|(rw [if_pos (by decide+kernel)];kernel_rfl)|(rw [if_neg (by decide+kernel)];exact ⟨rfl,rfl⟩)
theorem over:Rows.fnNewRow.holds Tryz.pinned (OpenSpec.ofChange Rows.fnNewSpec):=
 OpenClaim.holds_of_wide 3 Tryz.f3 rfl rfl rfl rfl rfl rfl rfl ⟨rfl,rfl,rfl,rfl,rfl⟩ rfl rfl rfl rfl rfl jB Tryz.func3 ia
  (of_decide_eq_true jW) ir
  (fun os started H enc _=>lifted os started H enc)
end fnNew
/-- The row,under a short name,for the claim. -/
theorem fnNew_holds:Rows.FnNewSaid:=fnNew.over
end Go.Proofs.YtdofdihhmbbbhaaGreat
#print axioms Go.Proofs.YtdofdihhmbbbhaaGreat.fnNew_holds
