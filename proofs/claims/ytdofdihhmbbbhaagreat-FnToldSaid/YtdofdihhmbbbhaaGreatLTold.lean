/- FnTold:for every input the law returns true,and each argument reads behind the call as it read before;no condition. -/
import Derived.Test.YtdofdihhmbbbhaaGreatRows
import Derived.Test.YtdofdihhmbbbhaaGreatE0
import Derived.Test.YtdofdihhmbbbhaaGreatM1
import Derived.WalkKit
import Derived.ProofKit
import Derived.OpenShut
import Derived.ShutString
import Derived.ChangeOld
import Derived.Below
import Derived.SizedLaws
set_option linter.unusedVariables false
set_option linter.unusedSimpArgs false
set_option linter.unusedSectionVars false
namespace Go.Proofs.YtdofdihhmbbbhaaGreat
open Go Go.Fw Go.M Go.ChangeShapes Go.WideShapes Go.ChangeAt Go.RowKit
namespace fnTold
theorem kz{P:Program}{Cn:List (Nat×XP)}{g:(⟨Cn,[]⟩:Bn).Cu (Option eS.V)}(f:Nat)(s:SP P)(hf:s.f=f)(hc:s.c=⟨⟨Cn,[]⟩,eS,Bn.un ⟨Cn,[]⟩ g⟩){W:World}{args:Array Value}(x:Eg.V Cn)(hlen:args.size=Cn.length)
  (hx:LB (iL W) W [] id Cn x args.toList) (hg:Bn.un ⟨Cn,[]⟩ g (x,())=some ((true,()),())):Calls P f args W fun e W' =>e= .returned (.bool true)∧Below W.heap.size W W':=by
 have h:=s.h;rw[hc,hf]at h;exact pK h x hlen hx hg
theorem own:ownKnob Tryz.prog.godebug=none:=by kernel_rfl
theorem laidOut:laidOutB Tryz.prog=true:=by kernel_rfl
set_option maxRecDepth 100000 in
theorem lifted(os:Os)(started:os.Started)(H:Type)(enc:TypeId×Value→H):
  ReturnsInHanded {} Tryz.checked os 4 .any (Rows.fnToldSpec.pre6 enc Tryz.prog Tryz.f4 Rows.fnToldRow.domain false) (Rows.fnToldSpec.post enc Tryz.prog Tryz.f4 false true false false):=by
 refine returnsInHanded_of_change_sized (C:=Tryz.checked) own started (by kernel_rfl) Tryz.func4
  (ChangeSpec.witness6 (enc:=enc) (C:=Tryz.checked) false ⟨#[],#[.slice none 0 0],[]⟩ 8 (by kernel_rfl) (by kernel_rfl) (by kernel_rfl) (by kernel_rfl)) ?_
 intro W base args ds gs before AAh hW AMQ AJR _;have AHa:∀(j:Nat) t v,Tryz.f4.params[j]? =some t→args[j]? =some v→Value.okWide Tryz.prog W .any base t v:=AAh;have hW':=hW;obtain⟨p,q,hA0,hV,rfl,hfz,nO⟩:=hW;have hA:DataW.TrodAll enc Tryz.prog W 0 (fun _=>true) true Tryz.f4.params.toList args.toList ds p:=hA0;rw[Tryz.params4]at hA AHa;obtain⟨v0,vs0,d0,ds0,p0,q0,GI,rfl,rfl,h0,r0⟩:=trodAll_cons hA;obtain⟨rfl,rfl,rfl⟩:=trodAll_nil r0;obtain rfl:args= #[v0]:=by cases args;simp_all
 obtain⟨rfl,rfl⟩:=trodVars_none hV;have k0:=h0;have lt0:∀x∈p0,x.block<W.heap.size:=by obtain⟨m,hm⟩:=k0;exact DataW.trod_lt m _ _ _ hm
 obtain⟨a0,len0,cap0,rfl⟩:=okWide_slice Tryz.underlying22 (AHa 0 22 v0 rfl rfl);obtain⟨m0,hm0⟩:=h0;obtain⟨y0,a0_,b0⟩:=YG 8 (P:=Tryz.prog) (t:=22) (q:=([.sl (.int .u8)],false)) (by kernel_rfl) hm0;obtain⟨w0,_,e0,a0,_⟩:=a0_;cases e0;clear hA0 AAh AJR;have hu:∀F:Wk.i4.Cu (Option eS.V),Bn.un Wk.i4 F ((y0.1,()),())=F y0.1:=fun F=>rfl
 refine(kz 4 Wk.s4 (by kernel_rfl) (Cn:=Wk.i4.Cn) (g:=O0) (by kernel_rfl) (y0.1,()) rfl ⟨⟨_,rfl,xX a0⟩,trivial⟩ ((hu O0).trans (jr b0.1))).mono fun e W' ⟨he,bel⟩=> ?_
 subst he;exact⟨_,rfl,_,_,_,[],_,[],hW',trodAll_mk1 (shut_bool Tryz.underlying4 _),(trodAll_cons_mk (Below.trod laidOut (by kernel_rfl) (of_decide_eq_true (by kernel_rfl)) k0 bel lt0) trodAll_mk0),rfl,bel.frame _,fun h=>by cases h⟩
theorem AK0:Tryz.pinned.checked.prog.funcNamed Rows.fnToldRow.func=some 4:=by kernel_rfl
theorem AGd:(Rows.fnToldRow.inPlace==Tryz.pinned.checked.prog.inPlace 4)=true:=by kernel_rfl
theorem AHX:(Rows.fnToldRow.unfollowed==Tryz.pinned.checked.prog.unfollowed 4)=true:=by kernel_rfl
theorem AHQ:(Rows.fnToldRow.recurses==Tryz.pinned.checked.prog.recurses 4)=true:=by kernel_rfl
theorem AFx:(Rows.fnToldRow.named==Tryz.pinned.checked.prog.varsNamed 4)=true:=by kernel_rfl
theorem AJc:joinedFacts Tryz.pinned.checked.prog 4 Tryz.f4 Rows.fnToldSpec Rows.fnToldRow=true:=by
 unfold joinedFacts;rw[AGd,AHX,AHQ,AFx]
 kernel_rfl
theorem AKZ:decide (Func.isInstance Tryz.pinned.checked.prog Tryz.f4 Rows.fnToldRow.origin Rows.fnToldRow.targs)=true:=by kernel_rfl
theorem AJt:Func.isWrapper Tryz.pinned.checked.prog Tryz.f4 Rows.fnToldRow.wrapper Rows.fnToldRow.mainSum:=by unfold Func.isWrapper;first|(rw[if_pos (by decide+kernel)];kernel_rfl)|(rw[if_neg (by decide+kernel)];exact⟨rfl,rfl⟩)
theorem over:Rows.fnToldRow.holds Tryz.pinned (OpenSpec.ofChange Rows.fnToldSpec):=
 OpenClaim.holds_of_wide 4 Tryz.f4 rfl rfl rfl rfl rfl rfl rfl ⟨rfl,rfl,rfl,rfl,rfl⟩ rfl rfl rfl rfl rfl AK0 Tryz.func4 AJc
  (of_decide_eq_true AKZ) AJt
  (fun os started H enc _=>lifted os started H enc)
end fnTold
/-- The row,under a short name,for the claim. -/
theorem fnTold_holds:Rows.FnToldSaid:=fnTold.over
end Go.Proofs.YtdofdihhmbbbhaaGreat
#print axioms Go.Proofs.YtdofdihhmbbbhaaGreat.fnTold_holds
