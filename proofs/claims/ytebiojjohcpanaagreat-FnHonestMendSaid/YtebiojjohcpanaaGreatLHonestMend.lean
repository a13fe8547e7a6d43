/- FnHonestMend:for every input the law returns true,and each argument reads behind the call as it read before;no condition. -/
import Derived.Test.YtebiojjohcpanaaGreatRows
import Derived.Test.YtebiojjohcpanaaGreatE1
import Derived.Test.YtebiojjohcpanaaGreatM1
import Derived.WalkKit
import Derived.ProofKit
import Derived.OpenShut
import Derived.ShutString
import Derived.ChangeOld
import Derived.Below
import Derived.SizedLaws
set_option linter.unusedVariables false
set_option linter.unusedSimpArgs false
set_option linter.unusedSectionVars false
namespace Go.Proofs.YtebiojjohcpanaaGreat
open Go Go.Fw Go.M Go.ChangeShapes Go.WideShapes Go.ChangeAt Go.RowKit
namespace fnHonestMend
theorem zd{P:Program}{EH:List (Nat×XP)}{g:(⟨EH,[]⟩:BI).Cu (Option qM.V)}(f:Nat)(s:SP P)(hf:s.f=f)(hc:s.c=⟨⟨EH,[]⟩,qM,BI.un ⟨EH,[]⟩ g⟩){W:World}{args:Array Value}(x:HU.V EH)(hlen:args.size=EH.length)
  (hx:PD (wY W) W [] id EH x args.toList) (hg:BI.un ⟨EH,[]⟩ g (x,())=some ((true,()),())):Calls P f args W fun e W' =>e= .returned (.bool true)/\Below W.heap.size W W':=by
 have h:=s.h;rw[hc,hf]at h;exact ACA h x hlen hx hg
theorem own:ownKnob Tryz.prog.godebug=none:=by kernel_rfl
theorem laidOut:laidOutB Tryz.prog=true:=by kernel_rfl
set_option maxRecDepth 100000 in
theorem lifted(os:Os)(started:os.Started)(H:Type)(enc:TypeId×Value->H):
  ReturnsInHanded {} Tryz.checked os 8 .any (Rows.fnHonestMendSpec.pre6 enc Tryz.prog Tryz.f8 Rows.fnHonestMendRow.domain false) (Rows.fnHonestMendSpec.post enc Tryz.prog Tryz.f8 false true false false):=by
 refine returnsInHanded_of_change_sized (C:=Tryz.checked) own started (by kernel_rfl) Tryz.func8
  (ChangeSpec.witness6 (enc:=enc) (C:=Tryz.checked) false ⟨#[],#[.slice none 0 0],[]⟩ 8 (by kernel_rfl) (by kernel_rfl) (by kernel_rfl) (by kernel_rfl)) ?_
 intro W base args ds gs before AOo hW AhQ Ab6 _;have AYL:∀(j:Nat) t v,Tryz.f8.params[j]? =some t->args[j]? =some v->Value.okWide Tryz.prog W .any base t v:=AOo;have hW':=hW;obtain⟨p,q,hA0,hV,rfl,hfz,hnd⟩:=hW;have hA:DataW.TrodAll enc Tryz.prog W 0 (fun _=>true) true Tryz.f8.params.toList args.toList ds p:=hA0;rw[Tryz.params8]at hA AYL;obtain⟨v0,vs0,d0,ds0,p0,q0,I4,rfl,rfl,h0,r0⟩:=trodAll_cons hA;obtain⟨rfl,rfl,rfl⟩:=trodAll_nil r0;obtain rfl:args= #[v0]:=by cases args;simp_all
 obtain⟨rfl,rfl⟩:=trodVars_none hV;have k0:=h0;have lt0:∀x∈p0,x.block<W.heap.size:=by obtain⟨m,hm⟩:=k0;exact DataW.trod_lt m _ _ _ hm
 obtain⟨a0,Aax,cap0,rfl⟩:=okWide_slice Tryz.underlying22 (AYL 0 22 v0 rfl rfl);obtain⟨m0,hm0⟩:=h0;obtain⟨y0,a0_,b0⟩:=lM 8 (P:=Tryz.prog) (t:=22) (q:=([.sl (.int .u8)],false)) (by kernel_rfl) hm0;obtain⟨w0,_,e0,a0,_⟩:=a0_;cases e0;clear hA0 AOo Ab6;have hu:∀F:Wk.i8.Cu (Option qM.V),BI.un Wk.i8 F ((y0.1,()),())=F y0.1:=fun F=>rfl
 refine(zd 8 Wk.s8 (by kernel_rfl) (EH:=Wk.i8.EH) (g:=K7) (by kernel_rfl) (y0.1,()) rfl ⟨⟨_,rfl,AKX a0⟩,trivial⟩ ((hu K7).trans (lh b0.1))).mono fun e W' ⟨he,bel⟩=> ?_
 subst he;exact⟨_,rfl,_,_,_,[],_,[],hW',trodAll_mk1 (shut_bool Tryz.underlying4 _),(trodAll_cons_mk (Below.trod laidOut (by kernel_rfl) (of_decide_eq_true (by kernel_rfl)) k0 bel lt0) trodAll_mk0),rfl,bel.frame _,fun h=>by cases h⟩
theorem Aaj:Tryz.pinned.checked.prog.funcNamed Rows.fnHonestMendRow.func=some 8:=by kernel_rfl
theorem AZe:(Rows.fnHonestMendRow.inPlace==Tryz.pinned.checked.prog.inPlace 8)=true:=by kernel_rfl
theorem AXi:(Rows.fnHonestMendRow.unfollowed==Tryz.pinned.checked.prog.unfollowed 8)=true:=by kernel_rfl
theorem AZX:(Rows.fnHonestMendRow.recurses==Tryz.pinned.checked.prog.recurses 8)=true:=by kernel_rfl
theorem AYH:(Rows.fnHonestMendRow.named==Tryz.pinned.checked.prog.varsNamed 8)=true:=by kernel_rfl
theorem AcU:joinedFacts Tryz.pinned.checked.prog 8 Tryz.f8 Rows.fnHonestMendSpec Rows.fnHonestMendRow=true:=by
 unfold joinedFacts;rw[AZe,AXi,AZX,AYH]
 kernel_rfl
theorem AeV:decide (Func.isInstance Tryz.pinned.checked.prog Tryz.f8 Rows.fnHonestMendRow.origin Rows.fnHonestMendRow.targs)=true:=by kernel_rfl
theorem AdF:Func.isWrapper Tryz.pinned.checked.prog Tryz.f8 Rows.fnHonestMendRow.wrapper Rows.fnHonestMendRow.mainSum:=by unfold Func.isWrapper;first|(rw[if_pos (by decide+kernel)];kernel_rfl)|(rw[if_neg (by decide+kernel)];exact⟨rfl,rfl⟩)
theorem over:Rows.fnHonestMendRow.holds Tryz.pinned (OpenSpec.ofChange Rows.fnHonestMendSpec):=
 OpenClaim.holds_of_wide 8 Tryz.f8 rfl rfl rfl rfl rfl rfl rfl ⟨rfl,rfl,rfl,rfl,rfl⟩ rfl rfl rfl rfl rfl Aaj Tryz.func8 AcU
  (of_decide_eq_true AeV) AdF
  (fun os started H enc _=>lifted os started H enc)
end fnHonestMend
/-- The row,under a short name,for the claim. -/
theorem fnHonestMend_holds:Rows.FnHonestMendSaid:=fnHonestMend.over
end Go.Proofs.YtebiojjohcpanaaGreat
#print axioms Go.Proofs.YtebiojjohcpanaaGreat.fnHonestMend_holds
