/- FnHonestAdd:for every input the law returns true,and each argument reads behind the call as it read before;no condition. -/
import Derived.Test.YtebiojjohcpanaaGreatRows
import Derived.Test.YtebiojjohcpanaaGreatE1
import Derived.Test.YtebiojjohcpanaaGreatM1
import Derived.WalkKit
import Derived.ProofKit
import Derived.OpenShut
import Derived.ShutString
import Derived.ChangeOld
import Derived.Below
import Derived.SizedLaws
set_option linter.unusedVariables false
set_option linter.unusedSimpArgs false
set_option linter.unusedSectionVars false
namespace Go.Proofs.YtebiojjohcpanaaGreat
open Go Go.Fw Go.M Go.ChangeShapes Go.WideShapes Go.ChangeAt Go.RowKit
namespace fnHonestAdd
theorem yo{P:Program}{D8:List (Nat×XP)}{g:(⟨D8,[]⟩:BE).Cu (Option qf.V)}(f:Nat)(s:SP P)(hf:s.f=f)(hc:s.c=⟨⟨D8,[]⟩,qf,BE.un ⟨D8,[]⟩ g⟩){W:World}{args:Array Value}(x:HA.V D8)(hlen:args.size=D8.length)
  (hx:Ot (ug W) W [] id D8 x args.toList) (hg:BE.un ⟨D8,[]⟩ g (x,())=some ((true,()),())):Calls P f args W fun e W' =>e= .returned (.bool true)∧Below W.heap.size W W':=by
 have h:=s.h;rw[hc,hf]at h;exact AC2 h x hlen hx hg
theorem own:ownKnob Tryz.prog.godebug=none:=by kernel_rfl
theorem laidOut:laidOutB Tryz.prog=true:=by kernel_rfl
set_option maxRecDepth 100000 in
theorem lifted(os:Os)(started:os.Started)(H:Type)(enc:TypeId×Value→H):
  ReturnsInHanded {} Tryz.checked os 7 .any (Rows.fnHonestAddSpec.pre6 enc Tryz.prog Tryz.f7 Rows.fnHonestAddRow.domain false) (Rows.fnHonestAddSpec.post enc Tryz.prog Tryz.f7 false true false false):=by
 refine returnsInHanded_of_change_sized (C:=Tryz.checked) own started (by kernel_rfl) Tryz.func7
  (ChangeSpec.witness6 (enc:=enc) (C:=Tryz.checked) false ⟨#[],#[.slice none 0 0],[]⟩ 8 (by kernel_rfl) (by kernel_rfl) (by kernel_rfl) (by kernel_rfl)) ?_
 intro W base args ds gs before ANs hW Aep AcI _;have AWQ:∀(j:Nat) t v,Tryz.f7.params[j]? =some t→args[j]? =some v→Value.okWide Tryz.prog W .any base t v:=ANs;have hW':=hW;obtain⟨p,q,hA0,hV,rfl,hfz,hnd⟩:=hW;have hA:DataW.TrodAll enc Tryz.prog W 0 (fun _=>true) true Tryz.f7.params.toList args.toList ds p:=hA0;rw[Tryz.params7]at hA AWQ;obtain⟨v0,vs0,d0,ds0,p0,q0,Ih,rfl,rfl,h0,r0⟩:=trodAll_cons hA;obtain⟨rfl,rfl,rfl⟩:=trodAll_nil r0;obtain rfl:args= #[v0]:=by cases args;simp_all
 obtain⟨rfl,rfl⟩:=trodVars_none hV;have k0:=h0;have lt0:∀x∈p0,x.block<W.heap.size:=by obtain⟨m,hm⟩:=k0;exact DataW.trod_lt m _ _ _ hm
 obtain⟨a0,AZM,cap0,rfl⟩:=okWide_slice Tryz.underlying22 (AWQ 0 22 v0 rfl rfl);obtain⟨m0,hm0⟩:=h0;obtain⟨y0,a0_,b0⟩:=km 8 (P:=Tryz.prog) (t:=22) (q:=([.sl (.int .u8)],false)) (by kernel_rfl) hm0;obtain⟨w0,_,e0,a0,_⟩:=a0_;cases e0;clear hA0 ANs AcI;have hu:∀F:Wk.i7.Cu (Option qf.V),BE.un Wk.i7 F ((y0.1,()),())=F y0.1:=fun F=>rfl
 refine(yo 7 Wk.s7 (by kernel_rfl) (D8:=Wk.i7.D8) (g:=MH) (by kernel_rfl) (y0.1,()) rfl ⟨⟨_,rfl,AJb a0⟩,trivial⟩ ((hu MH).trans (lG b0.1))).mono fun e W' ⟨he,bel⟩=> ?_
 subst he;exact⟨_,rfl,_,_,_,[],_,[],hW',trodAll_mk1 (shut_bool Tryz.underlying4 _),(trodAll_cons_mk (Below.trod laidOut (by kernel_rfl) (of_decide_eq_true (by kernel_rfl)) k0 bel lt0) trodAll_mk0),rfl,bel.frame _,fun h=>by cases h⟩
theorem AbU:Tryz.pinned.checked.prog.funcNamed Rows.fnHonestAddRow.func=some 7:=by kernel_rfl
theorem AUl:(Rows.fnHonestAddRow.inPlace==Tryz.pinned.checked.prog.inPlace 7)=true:=by kernel_rfl
theorem AUw:(Rows.fnHonestAddRow.unfollowed==Tryz.pinned.checked.prog.unfollowed 7)=true:=by kernel_rfl
theorem AU3:(Rows.fnHonestAddRow.recurses==Tryz.pinned.checked.prog.recurses 7)=true:=by kernel_rfl
theorem AWm:(Rows.fnHonestAddRow.named==Tryz.pinned.checked.prog.varsNamed 7)=true:=by kernel_rfl
theorem AcC:joinedFacts Tryz.pinned.checked.prog 7 Tryz.f7 Rows.fnHonestAddSpec Rows.fnHonestAddRow=true:=by
 unfold joinedFacts;rw[AUl,AUw,AU3,AWm]
 kernel_rfl
theorem AaH:decide (Func.isInstance Tryz.pinned.checked.prog Tryz.f7 Rows.fnHonestAddRow.origin Rows.fnHonestAddRow.targs)=true:=by kernel_rfl
theorem AZr:Func.isWrapper Tryz.pinned.checked.prog Tryz.f7 Rows.fnHonestAddRow.wrapper Rows.fnHonestAddRow.mainSum:=by unfold Func.isWrapper;first|(rw[if_pos (by decide+kernel)];kernel_rfl)|(rw[if_neg (by decide+kernel)];exact⟨rfl,rfl⟩)
theorem over:Rows.fnHonestAddRow.holds Tryz.pinned (OpenSpec.ofChange Rows.fnHonestAddSpec):=
 OpenClaim.holds_of_wide 7 Tryz.f7 rfl rfl rfl rfl rfl rfl rfl ⟨rfl,rfl,rfl,rfl,rfl⟩ rfl rfl rfl rfl rfl AbU Tryz.func7 AcC
  (of_decide_eq_true AaH) AZr
  (fun os started H enc _=>lifted os started H enc)
end fnHonestAdd
/-- The row,under a short name,for the claim. -/
theorem fnHonestAdd_holds:Rows.FnHonestAddSaid:=fnHonestAdd.over
end Go.Proofs.YtebiojjohcpanaaGreat
#print axioms Go.Proofs.YtebiojjohcpanaaGreat.fnHonestAdd_holds
