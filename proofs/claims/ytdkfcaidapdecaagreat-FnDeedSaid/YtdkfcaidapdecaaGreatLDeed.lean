/- FnDeed:for every input the law returns true,and each argument reads behind the call as it read before;no condition. -/
import Derived.Test.YtdkfcaidapdecaaGreatRows
import Derived.Test.YtdkfcaidapdecaaGreatE1
import Derived.Test.YtdkfcaidapdecaaGreatM1
import Derived.WalkKit
import Derived.ProofKit
import Derived.OpenShut
import Derived.ShutString
import Derived.ChangeOld
import Derived.Below
import Derived.SizedLaws
set_option linter.unusedVariables false
set_option linter.unusedSimpArgs false
set_option linter.unusedSectionVars false
namespace Go.Proofs.YtdkfcaidapdecaaGreat
open Go Go.Fw Go.M Go.ChangeShapes Go.WideShapes Go.ChangeAt Go.RowKit
namespace fnDeed
theorem w4{P:Program}{EM:List (Nat×XP)}{g:(⟨EM,[]⟩:BE).Cu (Option pY.V)}(f:Nat)(s:SP P)(hf:s.f=f)(hc:s.c=⟨⟨EM,[]⟩,pY,BE.un ⟨EM,[]⟩ g⟩){W:World}{args:Array Value}(x:G8.V EM)(hlen:args.size=EM.length)
  (hx:OS (s_ W) W [] id EM x args.toList) (hg:BE.un ⟨EM,[]⟩ g (x,())=some ((true,()),())):Calls P f args W fun e W' =>e= .returned (.bool true)∧Below W.heap.size W W':=by
 have h:=s.h;rw[hc,hf]at h;exact AAw h x hlen hx hg
theorem own:ownKnob Tryz.prog.godebug=none:=by kernel_rfl
theorem laidOut:laidOutB Tryz.prog=true:=by kernel_rfl
set_option maxRecDepth 100000 in
theorem lifted(os:Os)(started:os.Started)(H:Type)(enc:TypeId×Value→H):
  ReturnsInHanded {} Tryz.checked os 4 .any (Rows.fnDeedSpec.pre6 enc Tryz.prog Tryz.f4 Rows.fnDeedRow.domain false) (Rows.fnDeedSpec.post enc Tryz.prog Tryz.f4 false true false false):=by
 refine returnsInHanded_of_change_sized (C:=Tryz.checked) own started (by kernel_rfl) Tryz.func4
  (ChangeSpec.witness6 (enc:=enc) (C:=Tryz.checked) false ⟨#[],#[.slice none 0 0],[]⟩ 8 (by kernel_rfl) (by kernel_rfl) (by kernel_rfl) (by kernel_rfl)) ?_
 intro W base args ds gs before ALs hW AdC AYO _;have ASo:∀(j:Nat) t v,Tryz.f4.params[j]? =some t→args[j]? =some v→Value.okWide Tryz.prog W .any base t v:=ALs;have hW':=hW;obtain⟨p,q,hA0,hV,rfl,hfz,xu⟩:=hW;have hA:DataW.TrodAll enc Tryz.prog W 0 (fun _=>true) true Tryz.f4.params.toList args.toList ds p:=hA0;rw[Tryz.params4]at hA ASo;obtain⟨v0,vs0,d0,ds0,p0,q0,Ie,rfl,rfl,h0,r0⟩:=trodAll_cons hA;obtain⟨rfl,rfl,rfl⟩:=trodAll_nil r0;obtain rfl:args= #[v0]:=by cases args;simp_all
 obtain⟨rfl,rfl⟩:=trodVars_none hV;have k0:=h0;have lt0:∀x∈p0,x.block<W.heap.size:=by obtain⟨m,hm⟩:=k0;exact DataW.trod_lt m _ _ _ hm
 obtain⟨a0,len0,cap0,rfl⟩:=okWide_slice Tryz.underlying22 (ASo 0 22 v0 rfl rfl);obtain⟨m0,hm0⟩:=h0;obtain⟨y0,a0_,b0⟩:=iu 8 (P:=Tryz.prog) (t:=22) (q:=([.sl (.int .u8)],false)) (by kernel_rfl) hm0;obtain⟨w0,_,e0,a0,_⟩:=a0_;cases e0;clear hA0 ALs AYO;have hu:∀F:Wk.i4.Cu (Option pY.V),BE.un Wk.i4 F ((y0.1,()),())=F y0.1:=fun F=>rfl
 refine(w4 4 Wk.s4 (by kernel_rfl) (EM:=Wk.i4.EM) (g:=Uj) (by kernel_rfl) (y0.1,()) rfl ⟨⟨_,rfl,AFc a0⟩,trivial⟩ ((hu Uj).trans (v_ b0.1))).mono fun e W' ⟨he,bel⟩=> ?_
 subst he;exact⟨_,rfl,_,_,_,[],_,[],hW',trodAll_mk1 (shut_bool Tryz.underlying4 _),(trodAll_cons_mk (Below.trod laidOut (by kernel_rfl) (of_decide_eq_true (by kernel_rfl)) k0 bel lt0) trodAll_mk0),rfl,bel.frame _,fun h=>by cases h⟩
theorem AZH:Tryz.pinned.checked.prog.funcNamed Rows.fnDeedRow.func=some 4:=by kernel_rfl
theorem AVu:(Rows.fnDeedRow.inPlace==Tryz.pinned.checked.prog.inPlace 4)=true:=by kernel_rfl
theorem AVp:(Rows.fnDeedRow.unfollowed==Tryz.pinned.checked.prog.unfollowed 4)=true:=by kernel_rfl
theorem ASt:(Rows.fnDeedRow.recurses==Tryz.pinned.checked.prog.recurses 4)=true:=by kernel_rfl
theorem ATr:(Rows.fnDeedRow.named==Tryz.pinned.checked.prog.varsNamed 4)=true:=by kernel_rfl
theorem AXx:joinedFacts Tryz.pinned.checked.prog 4 Tryz.f4 Rows.fnDeedSpec Rows.fnDeedRow=true:=by
 unfold joinedFacts;rw[AVu,AVp,ASt,ATr]
 kernel_rfl
theorem AXM:decide (Func.isInstance Tryz.pinned.checked.prog Tryz.f4 Rows.fnDeedRow.origin Rows.fnDeedRow.targs)=true:=by kernel_rfl
theorem AaP:Func.isWrapper Tryz.pinned.checked.prog Tryz.f4 Rows.fnDeedRow.wrapper Rows.fnDeedRow.mainSum:=by unfold Func.isWrapper;first|(rw[if_pos (by decide+kernel)];kernel_rfl)|(rw[if_neg (by decide+kernel)];exact⟨rfl,rfl⟩)
theorem over:Rows.fnDeedRow.holds Tryz.pinned (OpenSpec.ofChange Rows.fnDeedSpec):=
 OpenClaim.holds_of_wide 4 Tryz.f4 rfl rfl rfl rfl rfl rfl rfl ⟨rfl,rfl,rfl,rfl,rfl⟩ rfl rfl rfl rfl rfl AZH Tryz.func4 AXx
  (of_decide_eq_true AXM) AaP
  (fun os started H enc _=>lifted os started H enc)
end fnDeed
/-- The row,under a short name,for the claim. -/
theorem fnDeed_holds:Rows.FnDeedSaid:=fnDeed.over
end Go.Proofs.YtdkfcaidapdecaaGreat
#print axioms Go.Proofs.YtdkfcaidapdecaaGreat.fnDeed_holds
