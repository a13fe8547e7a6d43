/- FnSure:for every input the law returns true,and each argument reads behind the call as it read before;no condition. -/
import Derived.Test.YtebiojjohcpanaaGreatRows
import Derived.Test.YtebiojjohcpanaaGreatE1
import Derived.Test.YtebiojjohcpanaaGreatM1
import Derived.WalkKit
import Derived.ProofKit
import Derived.OpenShut
import Derived.ShutString
import Derived.ChangeOld
import Derived.Below
import Derived.SizedLaws
set_option linter.unusedVariables false
set_option linter.unusedSimpArgs false
set_option linter.unusedSectionVars false
namespace Go.Proofs.YtebiojjohcpanaaGreat
open Go Go.Fw Go.M Go.ChangeShapes Go.WideShapes Go.ChangeAt Go.RowKit
namespace fnSure
theorem xt{P:Program}{Dz:List (Nat×XP)}{g:(⟨Dz,[]⟩:BX).Cu (Option pA.V)}(f:Nat)(s:SP P)(hf:s.f=f)(hc:s.c=⟨⟨Dz,[]⟩,pA,BX.un ⟨Dz,[]⟩ g⟩){W:World}{args:Array Value}(x:Gx.V Dz)(hlen:args.size=Dz.length)
  (hx:N7 (tc W) W [] id Dz x args.toList) (hg:BX.un ⟨Dz,[]⟩ g (x,())=some ((true,()),())):Calls P f args W fun e W' =>e= .returned (.bool true)∧Below W.heap.size W W':=by
 have h:=s.h;rw[hc,hf]at h;exact AAr h x hlen hx hg
theorem own:ownKnob Tryz.prog.godebug=none:=by kernel_rfl
theorem laidOut:laidOutB Tryz.prog=true:=by kernel_rfl
set_option maxRecDepth 100000 in
theorem lifted(os:Os)(started:os.Started)(H:Type)(enc:TypeId×Value→H):
  ReturnsInHanded {} Tryz.checked os 6 .any (Rows.fnSureSpec.pre6 enc Tryz.prog Tryz.f6 Rows.fnSureRow.domain false) (Rows.fnSureSpec.post enc Tryz.prog Tryz.f6 false true false false):=by
 refine returnsInHanded_of_change_sized (C:=Tryz.checked) own started (by kernel_rfl) Tryz.func6
  (ChangeSpec.witness6 (enc:=enc) (C:=Tryz.checked) false ⟨#[],#[.slice none 0 0],[]⟩ 8 (by kernel_rfl) (by kernel_rfl) (by kernel_rfl) (by kernel_rfl)) ?_
 intro W base args ds gs before ALU hW Aen Aas _;have AT8:∀(j:Nat) t v,Tryz.f6.params[j]? =some t→args[j]? =some v→Value.okWide Tryz.prog W .any base t v:=ALU;have hW':=hW;obtain⟨p,q,hA0,hV,rfl,hfz,qO⟩:=hW;have hA:DataW.TrodAll enc Tryz.prog W 0 (fun _=>true) true Tryz.f6.params.toList args.toList ds p:=hA0;rw[Tryz.params6]at hA AT8;obtain⟨v0,vs0,d0,ds0,p0,q0,II,rfl,rfl,h0,r0⟩:=trodAll_cons hA;obtain⟨rfl,rfl,rfl⟩:=trodAll_nil r0;obtain rfl:args= #[v0]:=by cases args;simp_all
 obtain⟨rfl,rfl⟩:=trodVars_none hV;have k0:=h0;have lt0:∀x∈p0,x.block<W.heap.size:=by obtain⟨m,hm⟩:=k0;exact DataW.trod_lt m _ _ _ hm
 obtain⟨a0,lz,cap0,rfl⟩:=okWide_slice Tryz.underlying22 (AT8 0 22 v0 rfl rfl);obtain⟨m0,hm0⟩:=h0;obtain⟨y0,a0_,b0⟩:=gk 8 (P:=Tryz.prog) (t:=22) (q:=([.sl (.int .u8)],false)) (by kernel_rfl) hm0;obtain⟨w0,_,e0,a0,_⟩:=a0_;cases e0;clear hA0 ALU Aas;have hu:∀F:Wk.i6.Cu (Option pA.V),BX.un Wk.i6 F ((y0.1,()),())=F y0.1:=fun F=>rfl
 refine(xt 6 Wk.s6 (by kernel_rfl) (Dz:=Wk.i6.Dz) (g:=QZ) (by kernel_rfl) (y0.1,()) rfl ⟨⟨_,rfl,AIY a0⟩,trivial⟩ ((hu QZ).trans (wR b0.1))).mono fun e W' ⟨he,bel⟩=> ?_
 subst he;exact⟨_,rfl,_,_,_,[],_,[],hW',trodAll_mk1 (shut_bool Tryz.underlying4 _),(trodAll_cons_mk (Below.trod laidOut (by kernel_rfl) (of_decide_eq_true (by kernel_rfl)) k0 bel lt0) trodAll_mk0),rfl,bel.frame _,fun h=>by cases h⟩
theorem AZi:Tryz.pinned.checked.prog.funcNamed Rows.fnSureRow.func=some 6:=by kernel_rfl
theorem AUW:(Rows.fnSureRow.inPlace==Tryz.pinned.checked.prog.inPlace 6)=true:=by kernel_rfl
theorem ATl:(Rows.fnSureRow.unfollowed==Tryz.pinned.checked.prog.unfollowed 6)=true:=by kernel_rfl
theorem ATc:(Rows.fnSureRow.recurses==Tryz.pinned.checked.prog.recurses 6)=true:=by kernel_rfl
theorem AUQ:(Rows.fnSureRow.named==Tryz.pinned.checked.prog.varsNamed 6)=true:=by kernel_rfl
theorem AXs:joinedFacts Tryz.pinned.checked.prog 6 Tryz.f6 Rows.fnSureSpec Rows.fnSureRow=true:=by
 unfold joinedFacts;rw[AUW,ATl,ATc,AUQ]
 kernel_rfl
theorem AbO:decide (Func.isInstance Tryz.pinned.checked.prog Tryz.f6 Rows.fnSureRow.origin Rows.fnSureRow.targs)=true:=by kernel_rfl
theorem AYS:Func.isWrapper Tryz.pinned.checked.prog Tryz.f6 Rows.fnSureRow.wrapper Rows.fnSureRow.mainSum:=by unfold Func.isWrapper;first|(rw[if_pos (by decide+kernel)];kernel_rfl)|(rw[if_neg (by decide+kernel)];exact⟨rfl,rfl⟩)
theorem over:Rows.fnSureRow.holds Tryz.pinned (OpenSpec.ofChange Rows.fnSureSpec):=
 OpenClaim.holds_of_wide 6 Tryz.f6 rfl rfl rfl rfl rfl rfl rfl ⟨rfl,rfl,rfl,rfl,rfl⟩ rfl rfl rfl rfl rfl AZi Tryz.func6 AXs
  (of_decide_eq_true AbO) AYS
  (fun os started H enc _=>lifted os started H enc)
end fnSure
/-- The row,under a short name,for the claim. -/
theorem fnSure_holds:Rows.FnSureSaid:=fnSure.over
end Go.Proofs.YtebiojjohcpanaaGreat
#print axioms Go.Proofs.YtebiojjohcpanaaGreat.fnSure_holds
