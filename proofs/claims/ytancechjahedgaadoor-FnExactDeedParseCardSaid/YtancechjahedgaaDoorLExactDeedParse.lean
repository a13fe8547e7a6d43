/- FnExactDeedParse:for every input the law returns true,and each argument reads behind the call as it read before;no condition. -/
import Derived.Test.YtancechjahedgaaDoorRows
import Derived.Test.YtancechjahedgaaDoorCards
import Derived.Test.YtancechjahedgaaDoorTie
import Derived.Lay
import Derived.LaidMore
import Derived.SevenTiedAt
import Derived.Stop.LaidErr
import Derived.Test.YtancechjahedgaaDoorE0
import Derived.Test.YtancechjahedgaaDoorM0
import Derived.WalkKit
import Derived.ProofKit
import Derived.OpenShut
import Derived.ShutString
import Derived.ChangeOld
import Derived.Below
import Derived.SizedLaws
set_option linter.unusedVariables false
set_option linter.unusedSimpArgs false
set_option linter.unusedSectionVars false
namespace Go.Proofs.YtancechjahedgaaDoor
open Go Go.Fw Go.M Go.ChangeShapes Go.WideShapes Go.ChangeAt Go.RowKit
namespace fnExactDeedParse
theorem Oh{P:Program}{Ai:List (Nat×XP)}{g:(⟨Ai,[]⟩:C0).Cu (Option Lb.V)}(f:Nat)(s:SP P)(hf:s.f=f)(hc:s.c=⟨⟨Ai,[]⟩,Lb,C0.un ⟨Ai,[]⟩ g⟩){W:World}{args:Array Value}(x:A5.V Ai)(hlen:args.size=Ai.length)(Qk:∀w':World,(∀c,c<W.heap.size→w'.heap[c]? =W.heap[c]?)→GI w')
  (hx:Cc (NO W) W [] id Ai x args.toList) (hg:C0.un ⟨Ai,[]⟩ g (x,())=some ((true,()),())):Calls P f args W fun e W' =>e= .returned (.bool true)∧Below W.heap.size W W':=by
 have h:=s.h;rw[hc,hf]at h;exact QB h x hlen Qk hx hg
theorem T6{l:List (String×DataW Unit)}{W:World}(h1:(l.all fun x=>x.2.handleName?.isNone)=true)(h2:(l.drop 2).head? =some ("internal/strconv.uint64pow10",Go.Lib.tabData .u64 Go.Lib.pow10Tab)){d1 d2:DataW Unit}{m1 m2:String}(h3:(l.drop 3).head? =some ("strconv.ErrRange",.iface m1 d1))(h4:(l.drop 4).head? =some ("strconv.ErrSyntax",.iface m2 d2))(hL:laidMetH Tryd.prog l W)(Uo:W.ShapedOpen Tryd.prog):
  ∀w':World,(∀c,c<W.heap.size→w'.heap[c]? =W.heap[c]?)→GI w':=by
 rw[MakeChecks.laidMetH_plain _ _ _ h1]at hL
 match l,h2,h3,h4,hL with
 |a::b::x::r,h2,h3,h4,hL=>
  simp only[List.drop_succ_cons,List.drop_zero,List.head?_cons,Option.some.injEq]at h2;subst h2;have ht:=Go.Lib.tabIs_of_head (e:=78) (n:=20) Wk.PB (by kernel_rfl:(Tryd.prog.globals[QE]?).map (·.type)=some 93) (by kernel_rfl) (by kernel_rfl) (by kernel_rfl) (by kernel_rfl) hL.tail.tail
  match r,h3,h4,hL with
  |y1::y2::r,h3,h4,hL=>
   simp only[List.drop_succ_cons,List.drop_zero,List.head?_cons,Option.some.injEq]at h3 h4;subst h3 h4;have k1:=Lj hL.tail.tail.tail (by kernel_rfl:Tryd.prog.globalNamed "strconv.ErrRange" =some VX) (by kernel_rfl:(Tryd.prog.globals[VX]?).map (·.type)=some 69) Tryd.underlying69;have k2:=Lj hL.tail.tail.tail.tail (by kernel_rfl:Tryd.prog.globalNamed "strconv.ErrSyntax" =some U9) (by kernel_rfl:(Tryd.prog.globals[U9]?).map (·.type)=some 69) Tryd.underlying69;exact fun w' hw=>GI.of Wk.PB ht (Wk.maxOf Uo) k2 k1 hw
theorem own:ownKnob Tryd.prog.godebug=none:=by kernel_rfl
theorem laidOut:laidOutB Tryd.prog=true:=by kernel_rfl
set_option maxRecDepth 100000 in
theorem lifted(os:Os)(started:os.Started)(H:Type)(enc:TypeId×Value→H):
  ReturnsInHanded {} Tryd.checked os 5 .any (fun w args=>(Rows.fnExactDeedParseSpec.pre enc Tryd.prog Tryd.f5 Rows.fnExactDeedParseRow.domain false w args∧laidMetH Tryd.prog Rows.fnExactDeedParseRow.laid w)∧sizedMet enc Tryd.prog Tryd.f5 (OpenSpec.ofChange Rows.fnExactDeedParseSpec) false w args) (Rows.fnExactDeedParseSpec.post enc Tryd.prog Tryd.f5 false true false false):=by
 refine MB (C:=Tryd.checked) (X:=fun w _=>laidMetH Tryd.prog Rows.fnExactDeedParseRow.laid w) (fun _ _ _ hh h=>h.of_heap hh) own started (by kernel_rfl) Tryd.func5
  (ChangeSpec.witness_shaped (enc:=enc) (C:=Tryd.checked) (os:=os) (X:=fun w _=>laidMetH Tryd.prog Rows.fnExactDeedParseRow.laid w) false (World.laidAll Tryd.prog os Rows.fnExactDeedParseRow.laid) #[.string ByteArray.empty] 8 (World.laidAll_os _ _ _) (World.shaped_of_ZipB (by kernel_rfl) (by kernel_rfl)) (by kernel_rfl) (by kernel_rfl) (by kernel_rfl)
   (by rw[MakeChecks.laidMetH_plain _ _ _ (by kernel_rfl)];exact laidMet_laidAll _ (by kernel_rfl) (by kernel_rfl))) ?_
 intro W base args ds gs before Sg hW hL Uo;have Qk:=T6 (l:=Rows.fnExactDeedParseRow.laid) (by kernel_rfl) (by kernel_rfl) (h3:=rfl) (h4:=rfl) hL Uo;have R9:∀(j:Nat) t v,Tryd.f5.params[j]? =some t→args[j]? =some v→Value.okWide Tryd.prog W .any base t v:=Sg;have Yc:=hW;obtain⟨p,q,hA0,hV,rfl,hfz,Pt⟩:=hW;have hA:DataW.TrodAll enc Tryd.prog W 0 (fun _=>true) true Tryd.f5.params.toList args.toList ds p:=hA0;rw[Tryd.params5]at hA R9;obtain⟨v0,vs0,d0,ds0,p0,q0,Bd,rfl,rfl,h0,r0⟩:=trodAll_cons hA;obtain⟨rfl,rfl,rfl⟩:=trodAll_nil r0;obtain rfl:args= #[v0]:=by cases args;simp_all
 obtain⟨rfl,rfl⟩:=trodVars_none hV;have k0:=h0;have Xc:∀x∈p0,x.block<W.heap.size:=by obtain⟨m,hm⟩:=k0;exact DataW.trod_lt m _ _ _ hm
 obtain⟨c0,rfl⟩:=okWide_string Tryd.underlying9 (R9 0 9 v0 rfl rfl);obtain⟨m0,hm0⟩:=h0;obtain⟨y0,a0_,b0⟩:=Ik 8 (P:=Tryd.prog) (t:=9) (q:=([.str],false)) (by kernel_rfl) hm0;obtain⟨w0,_,e0,a0,_⟩:=a0_;cases e0;clear hA0 Sg;have hu:∀F:Wk.i5.Cu (Option Lb.V),C0.un Wk.i5 F ((y0.1,()),())=F y0.1:=fun F=>rfl
 refine(Oh 5 Wk.s5 (by kernel_rfl) (Ai:=Wk.i5.Ai) (g:=BA) (by kernel_rfl) (y0.1,()) rfl Qk ⟨⟨_,rfl,Su rfl a0⟩,trivial⟩ ((hu BA).trans (HC b0.1))).mono fun e W' ⟨he,bel⟩=> ?_
 subst he;exact⟨_,rfl,_,_,_,[],_,[],Yc,trodAll_mk1 (shut_bool Tryd.underlying4 _),(trodAll_cons_mk (Below.trod laidOut (by kernel_rfl) (of_decide_eq_true (by kernel_rfl)) k0 bel Xc) trodAll_mk0),rfl,bel.frame _,fun h=>by cases h⟩
theorem Wa:Tryd.pinned.checked.prog.funcNamed Rows.fnExactDeedParseRow.func=some 5:=by kernel_rfl
theorem UQ:(Rows.fnExactDeedParseRow.inPlace==Tryd.pinned.checked.prog.inPlace 5)=true:=by kernel_rfl
theorem Uh:(Rows.fnExactDeedParseRow.unfollowed==Tryd.pinned.checked.prog.unfollowed 5)=true:=by kernel_rfl
theorem U5:(Rows.fnExactDeedParseRow.recurses==Tryd.pinned.checked.prog.recurses 5)=true:=by kernel_rfl
theorem U1:(Rows.fnExactDeedParseRow.named==Tryd.pinned.checked.prog.varsNamed 5)=true:=by kernel_rfl
theorem WW:joinedFacts Tryd.pinned.checked.prog 5 Tryd.f5 Rows.fnExactDeedParseSpec Rows.fnExactDeedParseRow=true:=by
 unfold joinedFacts;rw[UQ,Uh,U5,U1]
 kernel_rfl
theorem WO:decide (Func.isInstance Tryd.pinned.checked.prog Tryd.f5 Rows.fnExactDeedParseRow.origin Rows.fnExactDeedParseRow.targs)=true:=by kernel_rfl
theorem WU:Func.isWrapper Tryd.pinned.checked.prog Tryd.f5 Rows.fnExactDeedParseRow.wrapper Rows.fnExactDeedParseRow.mainSum:=by unfold Func.isWrapper;first|(rw[if_pos (by decide+kernel)];kernel_rfl)|(rw[if_neg (by decide+kernel)];exact⟨rfl,rfl⟩)
theorem over:Rows.fnExactDeedParseRow.holds Tryd.pinned (OpenSpec.ofChange Rows.fnExactDeedParseSpec):=
 OpenClaim.holds_of_wide 5 Tryd.f5 rfl rfl rfl rfl rfl rfl rfl ⟨rfl,rfl,rfl,rfl,rfl⟩ rfl rfl rfl rfl rfl Wa Tryd.func5 WW
  (of_decide_eq_true WO) WU
  (fun os started H enc _=>lifted os started H enc)
end fnExactDeedParse
/-- The row,under a short name,for the claim. -/
theorem fnExactDeedParse_holds:Rows.FnExactDeedParseSaid:=fnExactDeedParse.over
end Go.Proofs.YtancechjahedgaaDoor
#print axioms Go.Proofs.YtancechjahedgaaDoor.fnExactDeedParse_holds
namespace Go.Proofs.YtancechjahedgaaDoor
open Go Go.ChangeShapes Go.WideShapes Go.ChangeAt Go.RowKit
/-- The card. -/
theorem fnExactDeedParse_card_holds:Rows.FnExactDeedParseCardSaid:=
 Claim7.holds_tied_plain_at .later [] [.data,.data,.data,.sentinel,.sentinel] true (true, "ae25c938eb5c7c25e9f44705c8427f8d7348de20e0df36d913d28909697e9972") true fnExactDeedParse_holds (fun _ h=>by cases h) (by kernel_rfl) (fun _ h=>by cases h) fnExactDeedParse_row_tie rfl ⟨rfl,rfl⟩ (by kernel_rfl) rfl
  (fun f fn hf WV=>by
   obtain rfl:f=5:=Option.some.inj ((show Tryd.prog.funcNamed "loop.example/g00178/laws.FnExactDeedParse" =some 5 by kernel_rfl).symm.trans hf) |>.symm
   obtain rfl:fn=Tryd.f5:=(Option.some.inj (Tryd.func5.symm.trans WV)).symm;exact⟨by kernel_rfl,fun j t ht=>by
    rw[Tryd.params5]at ht;have hm:t∈[9]:=by simpa using Array.mem_of_getElem? ht
    have Es:([9].all fun u=> !Tryd.prog.wantsStandIn u)=true:=by kernel_rfl
    exact(show Tryd.prog.wantsStandIn t=false by simpa using List.all_eq_true.1 Es t hm)⟩)
  (by kernel_rfl)
end Go.Proofs.YtancechjahedgaaDoor
#print axioms Go.Proofs.YtancechjahedgaaDoor.fnExactDeedParse_card_holds
