/- FnLog:for every input the law returns true,and each argument reads behind the call as it read before;no condition. -/
import Derived.Test.YtdofdihhmbbbhaaGreatRows
import Derived.Test.YtdofdihhmbbbhaaGreatE0
import Derived.Test.YtdofdihhmbbbhaaGreatM1
import Derived.WalkKit
import Derived.ProofKit
import Derived.OpenShut
import Derived.ShutString
import Derived.ChangeOld
import Derived.Below
import Derived.SizedLaws
set_option linter.unusedVariables false
set_option linter.unusedSimpArgs false
set_option linter.unusedSectionVars false
namespace Go.Proofs.YtdofdihhmbbbhaaGreat
open Go Go.Fw Go.M Go.ChangeShapes Go.WideShapes Go.ChangeAt Go.RowKit
namespace fnLog
theorem mn{P:Program}{Co:List (Nat×XP)}{g:(⟨Co,[]⟩:Bn).Cu (Option dK.V)}(f:Nat)(s:SP P)(hf:s.f=f)(hc:s.c=⟨⟨Co,[]⟩,dK,Bn.un ⟨Co,[]⟩ g⟩){W:World}{args:Array Value}(x:Ej.V Co)(hlen:args.size=Co.length)
  (hx:LB (jH W) W [] id Co x args.toList) (hg:Bn.un ⟨Co,[]⟩ g (x,())=some ((true,()),())):Calls P f args W fun e W' =>e= .returned (.bool true)∧Below W.heap.size W W':=by
 have h:=s.h;rw[hc,hf]at h;exact oC h x hlen hx hg
theorem own:ownKnob Tryz.prog.godebug=none:=by kernel_rfl
theorem laidOut:laidOutB Tryz.prog=true:=by kernel_rfl
set_option maxRecDepth 100000 in
theorem lifted(os:Os)(started:os.Started)(H:Type)(enc:TypeId×Value→H):
  ReturnsInHanded {} Tryz.checked os 5 .any (Rows.fnLogSpec.pre6 enc Tryz.prog Tryz.f5 Rows.fnLogRow.domain false) (Rows.fnLogSpec.post enc Tryz.prog Tryz.f5 false true false false):=by
 refine returnsInHanded_of_change_sized (C:=Tryz.checked) own started (by kernel_rfl) Tryz.func5
  (ChangeSpec.witness6 (enc:=enc) (C:=Tryz.checked) false ⟨#[],#[.slice none 0 0],[]⟩ 8 (by kernel_rfl) (by kernel_rfl) (by kernel_rfl) (by kernel_rfl)) ?_
 intro W base args ds gs before AAs hW ANp ALb _;have AGc:∀(j:Nat) t v,Tryz.f5.params[j]? =some t→args[j]? =some v→Value.okWide Tryz.prog W .any base t v:=AAs;have hW':=hW;obtain⟨p,q,hA0,hV,rfl,hfz,nK⟩:=hW;have hA:DataW.TrodAll enc Tryz.prog W 0 (fun _=>true) true Tryz.f5.params.toList args.toList ds p:=hA0;rw[Tryz.params5]at hA AGc;obtain⟨v0,vs0,d0,ds0,p0,q0,GJ,rfl,rfl,h0,r0⟩:=trodAll_cons hA;obtain⟨rfl,rfl,rfl⟩:=trodAll_nil r0;obtain rfl:args= #[v0]:=by cases args;simp_all
 obtain⟨rfl,rfl⟩:=trodVars_none hV;have k0:=h0;have lt0:∀x∈p0,x.block<W.heap.size:=by obtain⟨m,hm⟩:=k0;exact DataW.trod_lt m _ _ _ hm
 obtain⟨a0,len0,cap0,rfl⟩:=okWide_slice Tryz.underlying22 (AGc 0 22 v0 rfl rfl);obtain⟨m0,hm0⟩:=h0;obtain⟨y0,a0_,b0⟩:=ZO 8 (P:=Tryz.prog) (t:=22) (q:=([.sl (.int .u8)],false)) (by kernel_rfl) hm0;obtain⟨w0,_,e0,a0,_⟩:=a0_;cases e0;clear hA0 AAs ALb;have hu:∀F:Wk.i5.Cu (Option dK.V),Bn.un Wk.i5 F ((y0.1,()),())=F y0.1:=fun F=>rfl
 refine(mn 5 Wk.s5 (by kernel_rfl) (Co:=Wk.i5.Co) (g:=RD) (by kernel_rfl) (y0.1,()) rfl ⟨⟨_,rfl,tL a0⟩,trivial⟩ ((hu RD).trans (mO b0.1))).mono fun e W' ⟨he,bel⟩=> ?_
 subst he;exact⟨_,rfl,_,_,_,[],_,[],hW',trodAll_mk1 (shut_bool Tryz.underlying4 _),(trodAll_cons_mk (Below.trod laidOut (by kernel_rfl) (of_decide_eq_true (by kernel_rfl)) k0 bel lt0) trodAll_mk0),rfl,bel.frame _,fun h=>by cases h⟩
theorem AKp:Tryz.pinned.checked.prog.funcNamed Rows.fnLogRow.func=some 5:=by kernel_rfl
theorem AGF:(Rows.fnLogRow.inPlace==Tryz.pinned.checked.prog.inPlace 5)=true:=by kernel_rfl
theorem AGH:(Rows.fnLogRow.unfollowed==Tryz.pinned.checked.prog.unfollowed 5)=true:=by kernel_rfl
theorem AHx:(Rows.fnLogRow.recurses==Tryz.pinned.checked.prog.recurses 5)=true:=by kernel_rfl
theorem AHP:(Rows.fnLogRow.named==Tryz.pinned.checked.prog.varsNamed 5)=true:=by kernel_rfl
theorem AKu:joinedFacts Tryz.pinned.checked.prog 5 Tryz.f5 Rows.fnLogSpec Rows.fnLogRow=true:=by
 unfold joinedFacts;rw[AGF,AGH,AHx,AHP]
 kernel_rfl
theorem AJS:decide (Func.isInstance Tryz.pinned.checked.prog Tryz.f5 Rows.fnLogRow.origin Rows.fnLogRow.targs)=true:=by kernel_rfl
theorem AJs:Func.isWrapper Tryz.pinned.checked.prog Tryz.f5 Rows.fnLogRow.wrapper Rows.fnLogRow.mainSum:=by unfold Func.isWrapper;first|(rw[if_pos (by decide+kernel)];kernel_rfl)|(rw[if_neg (by decide+kernel)];exact⟨rfl,rfl⟩)
theorem over:Rows.fnLogRow.holds Tryz.pinned (OpenSpec.ofChange Rows.fnLogSpec):=
 OpenClaim.holds_of_wide 5 Tryz.f5 rfl rfl rfl rfl rfl rfl rfl ⟨rfl,rfl,rfl,rfl,rfl⟩ rfl rfl rfl rfl rfl AKp Tryz.func5 AKu
  (of_decide_eq_true AJS) AJs
  (fun os started H enc _=>lifted os started H enc)
end fnLog
/-- The row,under a short name,for the claim. -/
theorem fnLog_holds:Rows.FnLogSaid:=fnLog.over
end Go.Proofs.YtdofdihhmbbbhaaGreat
#print axioms Go.Proofs.YtdofdihhmbbbhaaGreat.fnLog_holds
