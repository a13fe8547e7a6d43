/- FnSame:for every input the law returns true,and each argument reads behind the call as it read before;no condition. -/
import Derived.Test.YtebiojjohcpanaaGreatRows
import Derived.Test.YtebiojjohcpanaaGreatE1
import Derived.Test.YtebiojjohcpanaaGreatM1
import Derived.WalkKit
import Derived.ProofKit
import Derived.OpenShut
import Derived.ShutString
import Derived.ChangeOld
import Derived.Below
import Derived.SizedLaws
set_option linter.unusedVariables false
set_option linter.unusedSimpArgs false
set_option linter.unusedSectionVars false
namespace Go.Proofs.YtebiojjohcpanaaGreat
open Go Go.Fw Go.M Go.ChangeShapes Go.WideShapes Go.ChangeAt Go.RowKit
namespace fnSame
theorem yG{P:Program}{Dy:List (Nat×XP)}{g:(⟨Dy,[]⟩:Ba).Cu (Option qN.V)}(f:Nat)(s:SP P)(hf:s.f=f)(hc:s.c=⟨⟨Dy,[]⟩,qN,Ba.un ⟨Dy,[]⟩ g⟩){W:World}{args:Array Value}(x:Gt.V Dy)(hlen:args.size=Dy.length)
  (hx:OW (vA W) W [] id Dy x args.toList) (hg:Ba.un ⟨Dy,[]⟩ g (x,())=some ((true,()),())):Calls P f args W fun e W' =>e= .returned (.bool true)∧Below W.heap.size W W':=by
 have h:=s.h;rw[hc,hf]at h;exact ACr h x hlen hx hg
theorem own:ownKnob Tryz.prog.godebug=none:=by kernel_rfl
theorem laidOut:laidOutB Tryz.prog=true:=by kernel_rfl
set_option maxRecDepth 100000 in
theorem lifted(os:Os)(started:os.Started)(H:Type)(enc:TypeId×Value→H):
  ReturnsInHanded {} Tryz.checked os 4 .any (Rows.fnSameSpec.pre6 enc Tryz.prog Tryz.f4 Rows.fnSameRow.domain false) (Rows.fnSameSpec.post enc Tryz.prog Tryz.f4 false true false false):=by
 refine returnsInHanded_of_change_sized (C:=Tryz.checked) own started (by kernel_rfl) Tryz.func4
  (ChangeSpec.witness6 (enc:=enc) (C:=Tryz.checked) false ⟨#[],#[.slice none 0 0],[]⟩ 8 (by kernel_rfl) (by kernel_rfl) (by kernel_rfl) (by kernel_rfl)) ?_
 intro W base args ds gs before AM_ hW AeJ Aa2 _;have AWj:∀(j:Nat) t v,Tryz.f4.params[j]? =some t→args[j]? =some v→Value.okWide Tryz.prog W .any base t v:=AM_;have hW':=hW;obtain⟨p,q,hA0,hV,rfl,hfz,qw⟩:=hW;have hA:DataW.TrodAll enc Tryz.prog W 0 (fun _=>true) true Tryz.f4.params.toList args.toList ds p:=hA0;rw[Tryz.params4]at hA AWj;obtain⟨v0,vs0,d0,ds0,p0,q0,H_,rfl,rfl,h0,r0⟩:=trodAll_cons hA;obtain⟨rfl,rfl,rfl⟩:=trodAll_nil r0;obtain rfl:args= #[v0]:=by cases args;simp_all
 obtain⟨rfl,rfl⟩:=trodVars_none hV;have k0:=h0;have lt0:∀x∈p0,x.block<W.heap.size:=by obtain⟨m,hm⟩:=k0;exact DataW.trod_lt m _ _ _ hm
 obtain⟨a0,nD,cap0,rfl⟩:=okWide_slice Tryz.underlying22 (AWj 0 22 v0 rfl rfl);obtain⟨m0,hm0⟩:=h0;obtain⟨y0,a0_,b0⟩:=iE 8 (P:=Tryz.prog) (t:=22) (q:=([.sl (.int .u8)],false)) (by kernel_rfl) hm0;obtain⟨w0,_,e0,a0,_⟩:=a0_;cases e0;clear hA0 AM_ Aa2;have hu:∀F:Wk.i4.Cu (Option qN.V),Ba.un Wk.i4 F ((y0.1,()),())=F y0.1:=fun F=>rfl
 refine(yG 4 Wk.s4 (by kernel_rfl) (Dy:=Wk.i4.Dy) (g:=Qv) (by kernel_rfl) (y0.1,()) rfl ⟨⟨_,rfl,AIz a0⟩,trivial⟩ ((hu Qv).trans (wa b0.1))).mono fun e W' ⟨he,bel⟩=> ?_
 subst he;exact⟨_,rfl,_,_,_,[],_,[],hW',trodAll_mk1 (shut_bool Tryz.underlying4 _),(trodAll_cons_mk (Below.trod laidOut (by kernel_rfl) (of_decide_eq_true (by kernel_rfl)) k0 bel lt0) trodAll_mk0),rfl,bel.frame _,fun h=>by cases h⟩
theorem AYq:Tryz.pinned.checked.prog.funcNamed Rows.fnSameRow.func=some 4:=by kernel_rfl
theorem AUX:(Rows.fnSameRow.inPlace==Tryz.pinned.checked.prog.inPlace 4)=true:=by kernel_rfl
theorem AWb:(Rows.fnSameRow.unfollowed==Tryz.pinned.checked.prog.unfollowed 4)=true:=by kernel_rfl
theorem AUH:(Rows.fnSameRow.recurses==Tryz.pinned.checked.prog.recurses 4)=true:=by kernel_rfl
theorem AUf:(Rows.fnSameRow.named==Tryz.pinned.checked.prog.varsNamed 4)=true:=by kernel_rfl
theorem AYY:joinedFacts Tryz.pinned.checked.prog 4 Tryz.f4 Rows.fnSameSpec Rows.fnSameRow=true:=by
 unfold joinedFacts;rw[AUX,AWb,AUH,AUf]
 kernel_rfl
theorem AbA:decide (Func.isInstance Tryz.pinned.checked.prog Tryz.f4 Rows.fnSameRow.origin Rows.fnSameRow.targs)=true:=by kernel_rfl
theorem AZo:Func.isWrapper Tryz.pinned.checked.prog Tryz.f4 Rows.fnSameRow.wrapper Rows.fnSameRow.mainSum:=by unfold Func.isWrapper;first|(rw[if_pos (by decide+kernel)];kernel_rfl)|(rw[if_neg (by decide+kernel)];exact⟨rfl,rfl⟩)
theorem over:Rows.fnSameRow.holds Tryz.pinned (OpenSpec.ofChange Rows.fnSameSpec):=
 OpenClaim.holds_of_wide 4 Tryz.f4 rfl rfl rfl rfl rfl rfl rfl ⟨rfl,rfl,rfl,rfl,rfl⟩ rfl rfl rfl rfl rfl AYq Tryz.func4 AYY
  (of_decide_eq_true AbA) AZo
  (fun os started H enc _=>lifted os started H enc)
end fnSame
/-- The row,under a short name,for the claim. -/
theorem fnSame_holds:Rows.FnSameSaid:=fnSame.over
end Go.Proofs.YtebiojjohcpanaaGreat
#print axioms Go.Proofs.YtebiojjohcpanaaGreat.fnSame_holds
