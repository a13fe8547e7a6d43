/- FnExactEventText:for every input the law returns true,and each argument reads behind the call as it read before;no condition. -/
import Derived.Test.YtancechjahedgaaDoorRows
import Derived.Test.YtancechjahedgaaDoorCards
import Derived.Test.YtancechjahedgaaDoorTie
import Derived.Lay
import Derived.LaidMore
import Derived.SevenTiedAt
import Derived.Stop.LaidErr
import Derived.Test.YtancechjahedgaaDoorE0
import Derived.Test.YtancechjahedgaaDoorM0
import Derived.WalkKit
import Derived.ProofKit
import Derived.OpenShut
import Derived.ShutString
import Derived.ChangeOld
import Derived.Below
import Derived.SizedLaws
set_option linter.unusedVariables false
set_option linter.unusedSimpArgs false
set_option linter.unusedSectionVars false
namespace Go.Proofs.YtancechjahedgaaDoor
open Go Go.Fw Go.M Go.ChangeShapes Go.WideShapes Go.ChangeAt Go.RowKit
namespace fnExactEventText
theorem LC{P:Program}{AX:List (Nat×XP)}{g:(⟨AX,[]⟩:CM).Cu (Option H9.V)}(f:Nat)(s:SP P)(hf:s.f=f)(hc:s.c=⟨⟨AX,[]⟩,H9,CM.un ⟨AX,[]⟩ g⟩){W:World}{args:Array Value}(x:An.V AX)(hlen:args.size=AX.length)(PQ:∀w':World,(∀c,c<W.heap.size→w'.heap[c]? =W.heap[c]?)→GI w')
  (hx:Bq (IQ W) W [] id AX x args.toList) (hg:CM.un ⟨AX,[]⟩ g (x,())=some ((true,()),())):Calls P f args W fun e W' =>e= .returned (.bool true)∧Below W.heap.size W W':=by
 have h:=s.h;rw[hc,hf]at h;exact MV h x hlen PQ hx hg
theorem Qb{l:List (String×DataW Unit)}{W:World}(h1:(l.all fun x=>x.2.handleName?.isNone)=true)(h2:(l.drop 2).head? =some ("internal/strconv.uint64pow10",Go.Lib.tabData .u64 Go.Lib.pow10Tab))(hL:laidMetH Tryd.prog l W)(P_:W.ShapedOpen Tryd.prog):
  ∀w':World,(∀c,c<W.heap.size→w'.heap[c]? =W.heap[c]?)→GI w':=by
 rw[MakeChecks.laidMetH_plain _ _ _ h1]at hL
 match l,h2,hL with
 |a::b::x::r,h2,hL=>
  simp only[List.drop_succ_cons,List.drop_zero,List.head?_cons,Option.some.injEq]at h2;subst h2;have ht:=Go.Lib.tabIs_of_head (e:=78) (n:=20) Wk.Lb (by kernel_rfl:(Tryd.prog.globals[MS]?).map (·.type)=some 93) (by kernel_rfl) (by kernel_rfl) (by kernel_rfl) (by kernel_rfl) hL.tail.tail;exact fun w' hw=>GI.of Wk.Lb ht (Wk.maxOf P_) hw
theorem own:ownKnob Tryd.prog.godebug=none:=by kernel_rfl
theorem laidOut:laidOutB Tryd.prog=true:=by kernel_rfl
set_option maxRecDepth 100000 in
theorem lifted(os:Os)(started:os.Started)(H:Type)(enc:TypeId×Value→H):
  ReturnsInHanded {} Tryd.checked os 3 .any (fun w args=>(Rows.fnExactEventTextSpec.pre enc Tryd.prog Tryd.f3 Rows.fnExactEventTextRow.domain false w args∧laidMetH Tryd.prog Rows.fnExactEventTextRow.laid w)∧sizedMet enc Tryd.prog Tryd.f3 (OpenSpec.ofChange Rows.fnExactEventTextSpec) false w args) (Rows.fnExactEventTextSpec.post enc Tryd.prog Tryd.f3 false true false false):=by
 refine JQ (C:=Tryd.checked) (X:=fun w _=>laidMetH Tryd.prog Rows.fnExactEventTextRow.laid w) (fun _ _ _ hh h=>h.of_heap hh) own started (by kernel_rfl) Tryd.func3
  (ChangeSpec.witness_shaped (enc:=enc) (C:=Tryd.checked) (os:=os) (X:=fun w _=>laidMetH Tryd.prog Rows.fnExactEventTextRow.laid w) false (World.laidAll Tryd.prog os Rows.fnExactEventTextRow.laid) #[.agg #[.int .i64 0,.int .i64 0,.string ByteArray.empty]] 8 (World.laidAll_os _ _ _) (World.shaped_of_ZipB (by kernel_rfl) (by kernel_rfl)) (by kernel_rfl) (by kernel_rfl) (by kernel_rfl)
   (by rw[MakeChecks.laidMetH_plain _ _ _ (by kernel_rfl)];exact laidMet_laidAll _ (by kernel_rfl) (by kernel_rfl))) ?_
 intro W base args ds gs before OP hW hL P_;have PQ:=Qb (l:=Rows.fnExactEventTextRow.laid) (by kernel_rfl) (by kernel_rfl) hL P_;have N9:∀(j:Nat) t v,Tryd.f3.params[j]? =some t→args[j]? =some v→Value.okWide Tryd.prog W .any base t v:=OP;have TA:=hW;obtain⟨p,q,hA0,hV,rfl,hfz,MF⟩:=hW;have hA:DataW.TrodAll enc Tryd.prog W 0 (fun _=>true) true Tryd.f3.params.toList args.toList ds p:=hA0;rw[Tryd.params3]at hA N9;obtain⟨v0,vs0,d0,ds0,p0,q0,BC,rfl,rfl,h0,r0⟩:=trodAll_cons hA;obtain⟨rfl,rfl,rfl⟩:=trodAll_nil r0;obtain rfl:args= #[v0]:=by cases args;simp_all
 obtain⟨rfl,rfl⟩:=trodVars_none hV;have k0:=h0;have Tm:∀x∈p0,x.block<W.heap.size:=by obtain⟨m,hm⟩:=k0;exact DataW.trod_lt m _ _ _ hm
 obtain⟨c0,rfl,Ny⟩:=okWide_struct Tryd.underlying23 (N9 0 23 v0 rfl rfl);obtain⟨m0,hm0⟩:=h0;obtain⟨y0,a0_,b0⟩:=GM 8 (P:=Tryd.prog) (t:=23) (q:=([.int .i64,.int .i64,.str],true)) (by kernel_rfl) hm0;clear hA0 OP;have hu:∀F:Wk.i3.Cu (Option H9.V),CM.un Wk.i3 F ((y0,()),())=F y0:=fun F=>rfl
 refine(LC 3 Wk.s3 (by kernel_rfl) (AX:=Wk.i3.AX) (g:=Av) (by kernel_rfl) (y0,()) rfl PQ ⟨⟨_,rfl,NV (l:=[.int .i64,.int .i64,.str]) rfl a0_⟩,trivial⟩ ((hu Av).trans (E5 b0))).mono fun e W' ⟨he,bel⟩=> ?_
 subst he;exact⟨_,rfl,_,_,_,[],_,[],TA,trodAll_mk1 (shut_bool Tryd.underlying4 _),(trodAll_cons_mk (Below.trod laidOut (by kernel_rfl) (of_decide_eq_true (by kernel_rfl)) k0 bel Tm) trodAll_mk0),rfl,bel.frame _,fun h=>by cases h⟩
theorem Rt:Tryd.pinned.checked.prog.funcNamed Rows.fnExactEventTextRow.func=some 3:=by kernel_rfl
theorem QE:(Rows.fnExactEventTextRow.inPlace==Tryd.pinned.checked.prog.inPlace 3)=true:=by kernel_rfl
theorem Pr:(Rows.fnExactEventTextRow.unfollowed==Tryd.pinned.checked.prog.unfollowed 3)=true:=by kernel_rfl
theorem P3:(Rows.fnExactEventTextRow.recurses==Tryd.pinned.checked.prog.recurses 3)=true:=by kernel_rfl
theorem QQ:(Rows.fnExactEventTextRow.named==Tryd.pinned.checked.prog.varsNamed 3)=true:=by kernel_rfl
theorem RL:joinedFacts Tryd.pinned.checked.prog 3 Tryd.f3 Rows.fnExactEventTextSpec Rows.fnExactEventTextRow=true:=by
 unfold joinedFacts;rw[QE,Pr,P3,QQ]
 kernel_rfl
theorem Rf:decide (Func.isInstance Tryd.pinned.checked.prog Tryd.f3 Rows.fnExactEventTextRow.origin Rows.fnExactEventTextRow.targs)=true:=by kernel_rfl
theorem Rb:Func.isWrapper Tryd.pinned.checked.prog Tryd.f3 Rows.fnExactEventTextRow.wrapper Rows.fnExactEventTextRow.mainSum:=by unfold Func.isWrapper;first|(rw[if_pos (by decide+kernel)];kernel_rfl)|(rw[if_neg (by decide+kernel)];exact⟨rfl,rfl⟩)
theorem over:Rows.fnExactEventTextRow.holds Tryd.pinned (OpenSpec.ofChange Rows.fnExactEventTextSpec):=
 OpenClaim.holds_of_wide 3 Tryd.f3 rfl rfl rfl rfl rfl rfl rfl ⟨rfl,rfl,rfl,rfl,rfl⟩ rfl rfl rfl rfl rfl Rt Tryd.func3 RL
  (of_decide_eq_true Rf) Rb
  (fun os started H enc _=>lifted os started H enc)
end fnExactEventText
/-- The row,under a short name,for the claim. -/
theorem fnExactEventText_holds:Rows.FnExactEventTextSaid:=fnExactEventText.over
end Go.Proofs.YtancechjahedgaaDoor
#print axioms Go.Proofs.YtancechjahedgaaDoor.fnExactEventText_holds
namespace Go.Proofs.YtancechjahedgaaDoor
open Go Go.ChangeShapes Go.WideShapes Go.ChangeAt Go.RowKit
/-- The card. -/
theorem fnExactEventText_card_holds:Rows.FnExactEventTextCardSaid:=
 Claim7.holds_tied_plain_at .later [] [.data,.data,.data] true (true, "ae25c938eb5c7c25e9f44705c8427f8d7348de20e0df36d913d28909697e9972") true fnExactEventText_holds (fun _ h=>by cases h) (by kernel_rfl) (fun _ h=>by cases h) fnExactEventText_row_tie rfl ⟨rfl,rfl⟩ (by kernel_rfl) rfl
  (fun f fn hf Rg=>by
   obtain rfl:f=3:=Option.some.inj ((show Tryd.prog.funcNamed "loop.example/g00178/laws.FnExactEventText" =some 3 by kernel_rfl).symm.trans hf) |>.symm
   obtain rfl:fn=Tryd.f3:=(Option.some.inj (Tryd.func3.symm.trans Rg)).symm;exact⟨by kernel_rfl,fun j t ht=>by
    rw[Tryd.params3]at ht;have hm:t∈[23]:=by simpa using Array.mem_of_getElem? ht
    have E6:([23].all fun u=> !Tryd.prog.wantsStandIn u)=true:=by kernel_rfl
    exact(show Tryd.prog.wantsStandIn t=false by simpa using List.all_eq_true.1 E6 t hm)⟩)
  (by kernel_rfl)
end Go.Proofs.YtancechjahedgaaDoor
#print axioms Go.Proofs.YtancechjahedgaaDoor.fnExactEventText_card_holds
