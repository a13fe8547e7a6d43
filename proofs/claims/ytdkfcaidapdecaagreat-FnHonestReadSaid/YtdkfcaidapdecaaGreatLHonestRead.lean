/- FnHonestRead:for every input the law returns true,and each argument reads behind the call as it read before;no condition. -/
import Derived.Test.YtdkfcaidapdecaaGreatRows
import Derived.Test.YtdkfcaidapdecaaGreatE1
import Derived.Test.YtdkfcaidapdecaaGreatM1
import Derived.WalkKit
import Derived.ProofKit
import Derived.OpenShut
import Derived.ShutString
import Derived.ChangeOld
import Derived.Below
import Derived.SizedLaws
set_option linter.unusedVariables false
set_option linter.unusedSimpArgs false
set_option linter.unusedSectionVars false
namespace Go.Proofs.YtdkfcaidapdecaaGreat
open Go Go.Fw Go.M Go.ChangeShapes Go.WideShapes Go.ChangeAt Go.RowKit
namespace fnHonestRead
theorem xL{P:Program}{Dr:List (Nat×XP)}{g:(⟨Dr,[]⟩:A5).Cu (Option nH.V)}(f:Nat)(s:SP P)(hf:s.f=f)(hc:s.c=⟨⟨Dr,[]⟩,nH,A5.un ⟨Dr,[]⟩ g⟩){W:World}{args:Array Value}(x:Gy.V Dr)(hlen:args.size=Dr.length)
  (hx:OG (tW W) W [] id Dr x args.toList) (hg:A5.un ⟨Dr,[]⟩ g (x,())=some ((true,()),())):Calls P f args W fun e W' =>e= .returned (.bool true)∧Below W.heap.size W W':=by
 have h:=s.h;rw[hc,hf]at h;exact za h x hlen hx hg
theorem own:ownKnob Tryz.prog.godebug=none:=by kernel_rfl
theorem laidOut:laidOutB Tryz.prog=true:=by kernel_rfl
set_option maxRecDepth 100000 in
theorem lifted(os:Os)(started:os.Started)(H:Type)(enc:TypeId×Value→H):
  ReturnsInHanded {} Tryz.checked os 3 .any (Rows.fnHonestReadSpec.pre6 enc Tryz.prog Tryz.f3 Rows.fnHonestReadRow.domain false) (Rows.fnHonestReadSpec.post enc Tryz.prog Tryz.f3 false true false false):=by
 refine returnsInHanded_of_change_sized (C:=Tryz.checked) own started (by kernel_rfl) Tryz.func3
  (ChangeSpec.witness6 (enc:=enc) (C:=Tryz.checked) false ⟨#[],#[.slice none 0 0],[]⟩ 8 (by kernel_rfl) (by kernel_rfl) (by kernel_rfl) (by kernel_rfl)) ?_
 intro W base args ds gs before AJ5 hW AbB AZG _;have ASR:∀(j:Nat) t v,Tryz.f3.params[j]? =some t→args[j]? =some v→Value.okWide Tryz.prog W .any base t v:=AJ5;have hW':=hW;obtain⟨p,q,hA0,hV,rfl,hfz,we⟩:=hW;have hA:DataW.TrodAll enc Tryz.prog W 0 (fun _=>true) true Tryz.f3.params.toList args.toList ds p:=hA0;rw[Tryz.params3]at hA ASR;obtain⟨v0,vs0,d0,ds0,p0,q0,IP,rfl,rfl,h0,r0⟩:=trodAll_cons hA;obtain⟨rfl,rfl,rfl⟩:=trodAll_nil r0;obtain rfl:args= #[v0]:=by cases args;simp_all
 obtain⟨rfl,rfl⟩:=trodVars_none hV;have k0:=h0;have lt0:∀x∈p0,x.block<W.heap.size:=by obtain⟨m,hm⟩:=k0;exact DataW.trod_lt m _ _ _ hm
 obtain⟨a0,len0,cap0,rfl⟩:=okWide_slice Tryz.underlying22 (ASR 0 22 v0 rfl rfl);obtain⟨m0,hm0⟩:=h0;obtain⟨y0,a0_,b0⟩:=iq 8 (P:=Tryz.prog) (t:=22) (q:=([.sl (.int .u8)],false)) (by kernel_rfl) hm0;obtain⟨w0,_,e0,a0,_⟩:=a0_;cases e0;clear hA0 AJ5 AZG;have hu:∀F:Wk.i3.Cu (Option nH.V),A5.un Wk.i3 F ((y0.1,()),())=F y0.1:=fun F=>rfl
 refine(xL 3 Wk.s3 (by kernel_rfl) (Dr:=Wk.i3.Dr) (g:=KO) (by kernel_rfl) (y0.1,()) rfl ⟨⟨_,rfl,AJ0 a0⟩,trivial⟩ ((hu KO).trans (jK b0.1))).mono fun e W' ⟨he,bel⟩=> ?_
 subst he;exact⟨_,rfl,_,_,_,[],_,[],hW',trodAll_mk1 (shut_bool Tryz.underlying4 _),(trodAll_cons_mk (Below.trod laidOut (by kernel_rfl) (of_decide_eq_true (by kernel_rfl)) k0 bel lt0) trodAll_mk0),rfl,bel.frame _,fun h=>by cases h⟩
theorem AX7:Tryz.pinned.checked.prog.funcNamed Rows.fnHonestReadRow.func=some 3:=by kernel_rfl
theorem ATJ:(Rows.fnHonestReadRow.inPlace==Tryz.pinned.checked.prog.inPlace 3)=true:=by kernel_rfl
theorem AUH:(Rows.fnHonestReadRow.unfollowed==Tryz.pinned.checked.prog.unfollowed 3)=true:=by kernel_rfl
theorem AUS:(Rows.fnHonestReadRow.recurses==Tryz.pinned.checked.prog.recurses 3)=true:=by kernel_rfl
theorem ARs:(Rows.fnHonestReadRow.named==Tryz.pinned.checked.prog.varsNamed 3)=true:=by kernel_rfl
theorem AWU:joinedFacts Tryz.pinned.checked.prog 3 Tryz.f3 Rows.fnHonestReadSpec Rows.fnHonestReadRow=true:=by
 unfold joinedFacts;rw[ATJ,AUH,AUS,ARs]
 kernel_rfl
theorem AX6:decide (Func.isInstance Tryz.pinned.checked.prog Tryz.f3 Rows.fnHonestReadRow.origin Rows.fnHonestReadRow.targs)=true:=by kernel_rfl
theorem AYu:Func.isWrapper Tryz.pinned.checked.prog Tryz.f3 Rows.fnHonestReadRow.wrapper Rows.fnHonestReadRow.mainSum:=by unfold Func.isWrapper;first|(rw[if_pos (by decide+kernel)];kernel_rfl)|(rw[if_neg (by decide+kernel)];exact⟨rfl,rfl⟩)
theorem over:Rows.fnHonestReadRow.holds Tryz.pinned (OpenSpec.ofChange Rows.fnHonestReadSpec):=
 OpenClaim.holds_of_wide 3 Tryz.f3 rfl rfl rfl rfl rfl rfl rfl ⟨rfl,rfl,rfl,rfl,rfl⟩ rfl rfl rfl rfl rfl AX7 Tryz.func3 AWU
  (of_decide_eq_true AX6) AYu
  (fun os started H enc _=>lifted os started H enc)
end fnHonestRead
/-- The row,under a short name,for the claim. -/
theorem fnHonestRead_holds:Rows.FnHonestReadSaid:=fnHonestRead.over
end Go.Proofs.YtdkfcaidapdecaaGreat
#print axioms Go.Proofs.YtdkfcaidapdecaaGreat.fnHonestRead_holds
