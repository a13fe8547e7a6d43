/- FnExactDeedLine:for every input the law returns true,and each argument reads behind the call as it read before;no condition. -/
import Derived.Test.YtancechjahedgaaDoorRows
import Derived.Test.YtancechjahedgaaDoorCards
import Derived.Test.YtancechjahedgaaDoorTie
import Derived.Lay
import Derived.LaidMore
import Derived.SevenTiedAt
import Derived.Stop.LaidErr
import Derived.Test.YtancechjahedgaaDoorE0
import Derived.Test.YtancechjahedgaaDoorM0
import Derived.WalkKit
import Derived.ProofKit
import Derived.OpenShut
import Derived.ShutString
import Derived.ChangeOld
import Derived.Below
import Derived.SizedLaws
set_option linter.unusedVariables false
set_option linter.unusedSimpArgs false
set_option linter.unusedSectionVars false
namespace Go.Proofs.YtancechjahedgaaDoor
open Go Go.Fw Go.M Go.ChangeShapes Go.WideShapes Go.ChangeAt Go.RowKit
namespace fnExactDeedLine
theorem NC{P:Program}{Ab:List (Nat×XP)}{g:(⟨Ab,[]⟩:CS).Cu (Option Jz.V)}(f:Nat)(s:SP P)(hf:s.f=f)(hc:s.c=⟨⟨Ab,[]⟩,Jz,CS.un ⟨Ab,[]⟩ g⟩){W:World}{args:Array Value}(x:Aw.V Ab)(hlen:args.size=Ab.length)(Pl:∀w':World,(∀c,c<W.heap.size→w'.heap[c]? =W.heap[c]?)→GI w')
  (hx:B_ (Ja W) W [] id Ab x args.toList) (hg:CS.un ⟨Ab,[]⟩ g (x,())=some ((true,()),())):Calls P f args W fun e W' =>e= .returned (.bool true)∧Below W.heap.size W W':=by
 have h:=s.h;rw[hc,hf]at h;exact Nk h x hlen Pl hx hg
theorem Rx{l:List (String×DataW Unit)}{W:World}(h1:(l.all fun x=>x.2.handleName?.isNone)=true)(h2:(l.drop 2).head? =some ("internal/strconv.uint64pow10",Go.Lib.tabData .u64 Go.Lib.pow10Tab))(hL:laidMetH Tryd.prog l W)(Rk:W.ShapedOpen Tryd.prog):
  ∀w':World,(∀c,c<W.heap.size→w'.heap[c]? =W.heap[c]?)→GI w':=by
 rw[MakeChecks.laidMetH_plain _ _ _ h1]at hL
 match l,h2,hL with
 |a::b::x::r,h2,hL=>
  simp only[List.drop_succ_cons,List.drop_zero,List.head?_cons,Option.some.injEq]at h2;subst h2;have ht:=Go.Lib.tabIs_of_head (e:=78) (n:=20) Wk.NF (by kernel_rfl:(Tryd.prog.globals[Nx]?).map (·.type)=some 93) (by kernel_rfl) (by kernel_rfl) (by kernel_rfl) (by kernel_rfl) hL.tail.tail;exact fun w' hw=>GI.of Wk.NF ht (Wk.maxOf Rk) hw
theorem own:ownKnob Tryd.prog.godebug=none:=by kernel_rfl
theorem laidOut:laidOutB Tryd.prog=true:=by kernel_rfl
set_option maxRecDepth 100000 in
theorem lifted(os:Os)(started:os.Started)(H:Type)(enc:TypeId×Value→H):
  ReturnsInHanded {} Tryd.checked os 4 .any (fun w args=>(Rows.fnExactDeedLineSpec.pre enc Tryd.prog Tryd.f4 Rows.fnExactDeedLineRow.domain false w args∧laidMetH Tryd.prog Rows.fnExactDeedLineRow.laid w)∧sizedMet enc Tryd.prog Tryd.f4 (OpenSpec.ofChange Rows.fnExactDeedLineSpec) false w args) (Rows.fnExactDeedLineSpec.post enc Tryd.prog Tryd.f4 false true false false):=by
 refine KR (C:=Tryd.checked) (X:=fun w _=>laidMetH Tryd.prog Rows.fnExactDeedLineRow.laid w) (fun _ _ _ hh h=>h.of_heap hh) own started (by kernel_rfl) Tryd.func4
  (ChangeSpec.witness_shaped (enc:=enc) (C:=Tryd.checked) (os:=os) (X:=fun w _=>laidMetH Tryd.prog Rows.fnExactDeedLineRow.laid w) false (World.laidAll Tryd.prog os Rows.fnExactDeedLineRow.laid) #[.agg #[.int .i64 0,.int .i64 0,.int .i64 0,.int .i64 0,.string ByteArray.empty]] 8 (World.laidAll_os _ _ _) (World.shaped_of_ZipB (by kernel_rfl) (by kernel_rfl)) (by kernel_rfl) (by kernel_rfl) (by kernel_rfl)
   (by rw[MakeChecks.laidMetH_plain _ _ _ (by kernel_rfl)];exact laidMet_laidAll _ (by kernel_rfl) (by kernel_rfl))) ?_
 intro W base args ds gs before QD hW hL Rk;have Pl:=Rx (l:=Rows.fnExactDeedLineRow.laid) (by kernel_rfl) (by kernel_rfl) hL Rk;have Pr:∀(j:Nat) t v,Tryd.f4.params[j]? =some t→args[j]? =some v→Value.okWide Tryd.prog W .any base t v:=QD;have U0:=hW;obtain⟨p,q,hA0,hV,rfl,hfz,NJ⟩:=hW;have hA:DataW.TrodAll enc Tryd.prog W 0 (fun _=>true) true Tryd.f4.params.toList args.toList ds p:=hA0;rw[Tryd.params4]at hA Pr;obtain⟨v0,vs0,d0,ds0,p0,q0,BM,rfl,rfl,h0,r0⟩:=trodAll_cons hA;obtain⟨rfl,rfl,rfl⟩:=trodAll_nil r0;obtain rfl:args= #[v0]:=by cases args;simp_all
 obtain⟨rfl,rfl⟩:=trodVars_none hV;have k0:=h0;have VA:∀x∈p0,x.block<W.heap.size:=by obtain⟨m,hm⟩:=k0;exact DataW.trod_lt m _ _ _ hm
 obtain⟨c0,rfl,Pf⟩:=okWide_struct Tryd.underlying30 (Pr 0 30 v0 rfl rfl);obtain⟨m0,hm0⟩:=h0;obtain⟨y0,a0_,b0⟩:=HG 8 (P:=Tryd.prog) (t:=30) (q:=([.int .i64,.int .i64,.int .i64,.int .i64,.str],true)) (by kernel_rfl) hm0;clear hA0 QD;have hu:∀F:Wk.i4.Cu (Option Jz.V),CS.un Wk.i4 F ((y0,()),())=F y0:=fun F=>rfl
 refine(NC 4 Wk.s4 (by kernel_rfl) (Ab:=Wk.i4.Ab) (g:=A7) (by kernel_rfl) (y0,()) rfl Pl ⟨⟨_,rfl,Of (l:=[.int .i64,.int .i64,.int .i64,.int .i64,.str]) rfl a0_⟩,trivial⟩ ((hu A7).trans (GC b0))).mono fun e W' ⟨he,bel⟩=> ?_
 subst he;exact⟨_,rfl,_,_,_,[],_,[],U0,trodAll_mk1 (shut_bool Tryd.underlying4 _),(trodAll_cons_mk (Below.trod laidOut (by kernel_rfl) (of_decide_eq_true (by kernel_rfl)) k0 bel VA) trodAll_mk0),rfl,bel.frame _,fun h=>by cases h⟩
theorem TL:Tryd.pinned.checked.prog.funcNamed Rows.fnExactDeedLineRow.func=some 4:=by kernel_rfl
theorem R_:(Rows.fnExactDeedLineRow.inPlace==Tryd.pinned.checked.prog.inPlace 4)=true:=by kernel_rfl
theorem Rj:(Rows.fnExactDeedLineRow.unfollowed==Tryd.pinned.checked.prog.unfollowed 4)=true:=by kernel_rfl
theorem RR:(Rows.fnExactDeedLineRow.recurses==Tryd.pinned.checked.prog.recurses 4)=true:=by kernel_rfl
theorem SU:(Rows.fnExactDeedLineRow.named==Tryd.pinned.checked.prog.varsNamed 4)=true:=by kernel_rfl
theorem S2:joinedFacts Tryd.pinned.checked.prog 4 Tryd.f4 Rows.fnExactDeedLineSpec Rows.fnExactDeedLineRow=true:=by
 unfold joinedFacts;rw[R_,Rj,RR,SU]
 kernel_rfl
theorem Sv:decide (Func.isInstance Tryd.pinned.checked.prog Tryd.f4 Rows.fnExactDeedLineRow.origin Rows.fnExactDeedLineRow.targs)=true:=by kernel_rfl
theorem TZ:Func.isWrapper Tryd.pinned.checked.prog Tryd.f4 Rows.fnExactDeedLineRow.wrapper Rows.fnExactDeedLineRow.mainSum:=by unfold Func.isWrapper;first|(rw[if_pos (by decide+kernel)];kernel_rfl)|(rw[if_neg (by decide+kernel)];exact⟨rfl,rfl⟩)
theorem over:Rows.fnExactDeedLineRow.holds Tryd.pinned (OpenSpec.ofChange Rows.fnExactDeedLineSpec):=
 OpenClaim.holds_of_wide 4 Tryd.f4 rfl rfl rfl rfl rfl rfl rfl ⟨rfl,rfl,rfl,rfl,rfl⟩ rfl rfl rfl rfl rfl TL Tryd.func4 S2
  (of_decide_eq_true Sv) TZ
  (fun os started H enc _=>lifted os started H enc)
end fnExactDeedLine
/-- The row,under a short name,for the claim. -/
theorem fnExactDeedLine_holds:Rows.FnExactDeedLineSaid:=fnExactDeedLine.over
end Go.Proofs.YtancechjahedgaaDoor
#print axioms Go.Proofs.YtancechjahedgaaDoor.fnExactDeedLine_holds
namespace Go.Proofs.YtancechjahedgaaDoor
open Go Go.ChangeShapes Go.WideShapes Go.ChangeAt Go.RowKit
/-- The card. -/
theorem fnExactDeedLine_card_holds:Rows.FnExactDeedLineCardSaid:=
 Claim7.holds_tied_plain_at .later [] [.data,.data,.data] true (true, "ae25c938eb5c7c25e9f44705c8427f8d7348de20e0df36d913d28909697e9972") true fnExactDeedLine_holds (fun _ h=>by cases h) (by kernel_rfl) (fun _ h=>by cases h) fnExactDeedLine_row_tie rfl ⟨rfl,rfl⟩ (by kernel_rfl) rfl
  (fun f fn hf Sy=>by
   obtain rfl:f=4:=Option.some.inj ((show Tryd.prog.funcNamed "loop.example/g00178/laws.FnExactDeedLine" =some 4 by kernel_rfl).symm.trans hf) |>.symm
   obtain rfl:fn=Tryd.f4:=(Option.some.inj (Tryd.func4.symm.trans Sy)).symm;exact⟨by kernel_rfl,fun j t ht=>by
    rw[Tryd.params4]at ht;have hm:t∈[30]:=by simpa using Array.mem_of_getElem? ht
    have EM:([30].all fun u=> !Tryd.prog.wantsStandIn u)=true:=by kernel_rfl
    exact(show Tryd.prog.wantsStandIn t=false by simpa using List.all_eq_true.1 EM t hm)⟩)
  (by kernel_rfl)
end Go.Proofs.YtancechjahedgaaDoor
#print axioms Go.Proofs.YtancechjahedgaaDoor.fnExactDeedLine_card_holds
