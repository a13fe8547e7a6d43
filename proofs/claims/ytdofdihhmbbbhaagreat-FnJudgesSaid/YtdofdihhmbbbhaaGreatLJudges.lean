/- FnJudges:for every input the law returns true,and each argument reads behind the call as it read before;no condition. -/
import Derived.Test.YtdofdihhmbbbhaaGreatRows
import Derived.Test.YtdofdihhmbbbhaaGreatE1
import Derived.Test.YtdofdihhmbbbhaaGreatM1
import Derived.WalkKit
import Derived.ProofKit
import Derived.OpenShut
import Derived.ShutString
import Derived.ChangeOld
import Derived.Below
import Derived.SizedLaws
set_option linter.unusedVariables false
set_option linter.unusedSimpArgs false
set_option linter.unusedSectionVars false
namespace Go.Proofs.YtdofdihhmbbbhaaGreat
open Go Go.Fw Go.M Go.ChangeShapes Go.WideShapes Go.ChangeAt Go.RowKit
namespace fnJudges
theorem pn{P:Program}{C5:List (Nat×XP)}{g:(⟨C5,[]⟩:B3).Cu (Option gq.V)}(f:Nat)(s:SP P)(hf:s.f=f)(hc:s.c=⟨⟨C5,[]⟩,gq,B3.un ⟨C5,[]⟩ g⟩){W:World}{args:Array Value}(x:E7.V C5)(hlen:args.size=C5.length)
  (hx:MU (k_ W) W [] id C5 x args.toList) (hg:B3.un ⟨C5,[]⟩ g (x,())=some ((true,()),())):Calls P f args W fun e W' =>e= .returned (.bool true)∧Below W.heap.size W W':=by
 have h:=s.h;rw[hc,hf]at h;exact sf h x hlen hx hg
theorem own:ownKnob Tryz.prog.godebug=none:=by kernel_rfl
theorem laidOut:laidOutB Tryz.prog=true:=by kernel_rfl
set_option maxRecDepth 100000 in
theorem lifted(os:Os)(started:os.Started)(H:Type)(enc:TypeId×Value→H):
  ReturnsInHanded {} Tryz.checked os 6 .any (Rows.fnJudgesSpec.pre6 enc Tryz.prog Tryz.f6 Rows.fnJudgesRow.domain false) (Rows.fnJudgesSpec.post enc Tryz.prog Tryz.f6 false true false false):=by
 refine returnsInHanded_of_change_sized (C:=Tryz.checked) own started (by kernel_rfl) Tryz.func6
  (ChangeSpec.witness6 (enc:=enc) (C:=Tryz.checked) false ⟨#[],#[.slice none 0 0],[]⟩ 8 (by kernel_rfl) (by kernel_rfl) (by kernel_rfl) (by kernel_rfl)) ?_
 intro W base args ds gs before ACr hW APP AMu _;have AKk:∀(j:Nat) t v,Tryz.f6.params[j]? =some t→args[j]? =some v→Value.okWide Tryz.prog W .any base t v:=ACr;have hW':=hW;obtain⟨p,q,hA0,hV,rfl,hfz,qk⟩:=hW;have hA:DataW.TrodAll enc Tryz.prog W 0 (fun _=>true) true Tryz.f6.params.toList args.toList ds p:=hA0;rw[Tryz.params6]at hA AKk;obtain⟨v0,vs0,d0,ds0,p0,q0,Gp,rfl,rfl,h0,r0⟩:=trodAll_cons hA;obtain⟨rfl,rfl,rfl⟩:=trodAll_nil r0;obtain rfl:args= #[v0]:=by cases args;simp_all
 obtain⟨rfl,rfl⟩:=trodVars_none hV;have k0:=h0;have lt0:∀x∈p0,x.block<W.heap.size:=by obtain⟨m,hm⟩:=k0;exact DataW.trod_lt m _ _ _ hm
 obtain⟨a0,len0,cap0,rfl⟩:=okWide_slice Tryz.underlying22 (AKk 0 22 v0 rfl rfl);obtain⟨m0,hm0⟩:=h0;obtain⟨y0,a0_,b0⟩:=av 8 (P:=Tryz.prog) (t:=22) (q:=([.sl (.int .u8)],false)) (by kernel_rfl) hm0;obtain⟨w0,_,e0,a0,_⟩:=a0_;cases e0;clear hA0 ACr AMu;have hu:∀F:Wk.i6.Cu (Option gq.V),B3.un Wk.i6 F ((y0.1,()),())=F y0.1:=fun F=>rfl
 refine(pn 6 Wk.s6 (by kernel_rfl) (C5:=Wk.i6.C5) (g:=Ml) (by kernel_rfl) (y0.1,()) rfl ⟨⟨_,rfl,ACm a0⟩,trivial⟩ ((hu Ml).trans (jG b0.1))).mono fun e W' ⟨he,bel⟩=> ?_
 subst he;exact⟨_,rfl,_,_,_,[],_,[],hW',trodAll_mk1 (shut_bool Tryz.underlying4 _),(trodAll_cons_mk (Below.trod laidOut (by kernel_rfl) (of_decide_eq_true (by kernel_rfl)) k0 bel lt0) trodAll_mk0),rfl,bel.frame _,fun h=>by cases h⟩
theorem AMT:Tryz.pinned.checked.prog.funcNamed Rows.fnJudgesRow.func=some 6:=by kernel_rfl
theorem AJU:(Rows.fnJudgesRow.inPlace==Tryz.pinned.checked.prog.inPlace 6)=true:=by kernel_rfl
theorem AIj:(Rows.fnJudgesRow.unfollowed==Tryz.pinned.checked.prog.unfollowed 6)=true:=by kernel_rfl
theorem AJZ:(Rows.fnJudgesRow.recurses==Tryz.pinned.checked.prog.recurses 6)=true:=by kernel_rfl
theorem AIf:(Rows.fnJudgesRow.named==Tryz.pinned.checked.prog.varsNamed 6)=true:=by kernel_rfl
theorem ANX:joinedFacts Tryz.pinned.checked.prog 6 Tryz.f6 Rows.fnJudgesSpec Rows.fnJudgesRow=true:=by
 unfold joinedFacts;rw[AJU,AIj,AJZ,AIf]
 kernel_rfl
theorem AND:decide (Func.isInstance Tryz.pinned.checked.prog Tryz.f6 Rows.fnJudgesRow.origin Rows.fnJudgesRow.targs)=true:=by kernel_rfl
theorem AMg:Func.isWrapper Tryz.pinned.checked.prog Tryz.f6 Rows.fnJudgesRow.wrapper Rows.fnJudgesRow.mainSum:=by unfold Func.isWrapper;first|(rw[if_pos (by decide+kernel)];kernel_rfl)|(rw[if_neg (by decide+kernel)];exact⟨rfl,rfl⟩)
theorem over:Rows.fnJudgesRow.holds Tryz.pinned (OpenSpec.ofChange Rows.fnJudgesSpec):=
 OpenClaim.holds_of_wide 6 Tryz.f6 rfl rfl rfl rfl rfl rfl rfl ⟨rfl,rfl,rfl,rfl,rfl⟩ rfl rfl rfl rfl rfl AMT Tryz.func6 ANX
  (of_decide_eq_true AND) AMg
  (fun os started H enc _=>lifted os started H enc)
end fnJudges
/-- The row,under a short name,for the claim. -/
theorem fnJudges_holds:Rows.FnJudgesSaid:=fnJudges.over
end Go.Proofs.YtdofdihhmbbbhaaGreat
#print axioms Go.Proofs.YtdofdihhmbbbhaaGreat.fnJudges_holds
