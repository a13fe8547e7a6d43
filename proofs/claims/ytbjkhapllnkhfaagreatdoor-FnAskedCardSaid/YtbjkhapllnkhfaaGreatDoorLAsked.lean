/- FnAsked:for every input the law returns true,and each argument reads behind the call as it read before;no condition. -/
import Derived.Test.YtbjkhapllnkhfaaGreatDoorRows
import Derived.Test.YtbjkhapllnkhfaaGreatDoorCards
import Derived.Test.YtbjkhapllnkhfaaGreatDoorAK0
import Derived.Test.YtbjkhapllnkhfaaGreatDoorTie
import Derived.Lay
import Derived.LaidMore
import Derived.SevenTiedAt
import Derived.Stop.LaidErr
import Derived.Test.YtbjkhapllnkhfaaGreatDoorAE3
import Derived.Test.YtbjkhapllnkhfaaGreatDoorAM1
import Derived.WalkKit
import Derived.ProofKit
import Derived.OpenShut
import Derived.ShutString
import Derived.ChangeOld
import Derived.Below
import Derived.SizedLaws
set_option linter.unusedVariables false
set_option linter.unusedSimpArgs false
set_option linter.unusedSectionVars false
namespace Go.Proofs.YtbjkhapllnkhfaaGreatDoor
open Go Go.Fw Go.M Go.ChangeShapes Go.WideShapes Go.ChangeAt Go.RowKit
namespace fnAsked
theorem AEz{P:Program}{EK:List (Nat×XP)}{g:(⟨EK,[]⟩:BK).Cu (Option xW.V)}(f:Nat)(s:SP P)(hf:s.f=f)(hc:s.c=⟨⟨EK,[]⟩,xW,BK.un ⟨EK,[]⟩ g⟩){W:World}{args:Array Value}(x:G5.V EK)(hlen:args.size=EK.length)(hgi:∀w':World,(∀c,c<W.heap.size->w'.heap[c]? =W.heap[c]?)->GI w')
  (hx:Np (AA7 W) W [] id EK x args.toList) (hg:BK.un ⟨EK,[]⟩ g (x,())=some ((true,()),())):Calls P f args W fun e W' =>e= .returned (.bool true)/\Below W.heap.size W W':=by
 have h:=s.h;rw[hc,hf]at h;exact AHx h x hlen hgi hx hg
theorem AVA{l:List (String×DataW Unit)}{W:World}(h1:(l.all fun x=>x.2.handleName?.isNone)=true)(h2:(l.drop 2).head? =some ("internal/strconv.uint64pow10",Go.Lib.tabData .u64 Go.Lib.pow10Tab)){d1 d2:DataW Unit}{m1 m2:String}(h3:(l.drop 3).head? =some ("strconv.ErrRange",.iface m1 d1))(h4:(l.drop 4).head? =some ("strconv.ErrSyntax",.iface m2 d2))(hL:laidMetH Tryz.prog l W)(hsh:W.ShapedOpen Tryz.prog):
  ∀w':World,(∀c,c<W.heap.size->w'.heap[c]? =W.heap[c]?)->GI w':=by
 rw[MakeChecks.laidMetH_plain _ _ _ h1]at hL
 match l,h2,h3,h4,hL with
 |a0::a1::x::r,h2,h3,h4,hL=>
  simp only[List.drop_succ_cons,List.drop_zero,List.head?_cons,Option.some.injEq]at h2;subst h2;have ht:=Go.Lib.tabIs_of_head (e:=267) (n:=20) Wk.AFb (by kernel_rfl:(Tryz.prog.globals[AHm]?).map (·.type)=some 297) (by kernel_rfl) (by kernel_rfl) (by kernel_rfl) (by kernel_rfl) hL.tail.tail
  match r,h3,h4,hL with
  |y1::y2::r,h3,h4,hL=>
   simp only[List.drop_succ_cons,List.drop_zero,List.head?_cons,Option.some.injEq]at h3 h4;subst h3 h4;have k1:=xE hL.tail.tail.tail (by kernel_rfl:Tryz.prog.globalNamed "strconv.ErrRange" =some gE2) (by kernel_rfl:(Tryz.prog.globals[gE2]?).map (·.type)=some 192) Tryz.underlying192;have k2:=xE hL.tail.tail.tail.tail (by kernel_rfl:Tryz.prog.globalNamed "strconv.ErrSyntax" =some gE1) (by kernel_rfl:(Tryz.prog.globals[gE1]?).map (·.type)=some 192) Tryz.underlying192;exact fun w' hw=>GI.of Wk.AFb ht (Wk.maxOf hsh) k2 k1 hw
theorem own:ownKnob Tryz.prog.godebug=none:=by kernel_rfl
theorem laidOut:laidOutB Tryz.prog=true:=by kernel_rfl
set_option maxRecDepth 100000 in
theorem lifted(os:Os)(started:os.Started)(H:Type)(enc:TypeId×Value->H):
  ReturnsInHanded {} Tryz.checked os 5 .any (fun w args=>(Rows.fnAskedSpec.pre enc Tryz.prog Tryz.f5 Rows.fnAskedRow.domain false w args/\laidMetH Tryz.prog Rows.fnAskedRow.laid w)/\sizedMet enc Tryz.prog Tryz.f5 (OpenSpec.ofChange Rows.fnAskedSpec) false w args) (Rows.fnAskedSpec.post enc Tryz.prog Tryz.f5 false true false false):=by
 refine ye (C:=Tryz.checked) (X:=fun w _=>laidMetH Tryz.prog Rows.fnAskedRow.laid w) (fun _ _ _ hh h=>h.of_heap hh) own started (by kernel_rfl) Tryz.func5
  (ChangeSpec.witness_shaped (enc:=enc) (C:=Tryz.checked) (os:=os) (X:=fun w _=>laidMetH Tryz.prog Rows.fnAskedRow.laid w) false (World.laidAll Tryz.prog os Rows.fnAskedRow.laid) #[.slice none 0 0] 8 (World.laidAll_os _ _ _) (World.shaped_of_ZipB (by kernel_rfl) (by kernel_rfl)) (by kernel_rfl) (by kernel_rfl) (by kernel_rfl)
   (by rw[MakeChecks.laidMetH_plain _ _ _ (by kernel_rfl)];exact laidMet_laidAll _ (by kernel_rfl) (by kernel_rfl))) ?_
 intro W base args ds gs before AO0 hW hL hsh;have hgi:=AVA (l:=Rows.fnAskedRow.laid) (by kernel_rfl) (by kernel_rfl) (h3:=rfl) (h4:=rfl) hL hsh;have ALt:∀(j:Nat) t v,Tryz.f5.params[j]? =some t->args[j]? =some v->Value.okWide Tryz.prog W .any base t v:=AO0;have hW':=hW;obtain⟨p,q,hA0,hV,rfl,hfz,hnd⟩:=hW;have hA:DataW.TrodAll enc Tryz.prog W 0 (fun _=>true) true Tryz.f5.params.toList args.toList ds p:=hA0;rw[Tryz.params5]at hA ALt;obtain⟨v0,vs0,d0,ds0,p0,q0,JO,rfl,rfl,h0,r0⟩:=trodAll_cons hA;obtain⟨rfl,rfl,rfl⟩:=trodAll_nil r0;obtain rfl:args= #[v0]:=by cases args;simp_all
 obtain⟨rfl,rfl⟩:=trodVars_none hV;have k0:=h0;have lt0:∀x∈p0,x.block<W.heap.size:=by obtain⟨m,hm⟩:=k0;exact DataW.trod_lt m _ _ _ hm
 obtain⟨a0,len0,cap0,rfl⟩:=okWide_slice Tryz.underlying32 (ALt 0 32 v0 rfl rfl);obtain⟨m0,hm0⟩:=h0;obtain⟨y0,a0_,b0⟩:=o_ 8 (P:=Tryz.prog) (t:=32) (q:=([.sl (.int .u8)],false)) (by kernel_rfl) hm0;obtain⟨w0,_,e0,a0,_⟩:=a0_;cases e0;clear hA0 AO0;have hu:∀F:Wk.i5.Cu (Option xW.V),BK.un Wk.i5 F ((y0.1,()),())=F y0.1:=fun F=>rfl
 refine(AEz 5 Wk.s5 (by kernel_rfl) (EK:=Wk.i5.EK) (g:=VH) (by kernel_rfl) (y0.1,()) rfl hgi ⟨⟨_,rfl,ANy a0⟩,trivial⟩ ((hu VH).trans (AAk b0.1))).mono fun e W' ⟨he,bel⟩=> ?_
 subst he;exact⟨_,rfl,_,_,_,[],_,[],hW',trodAll_mk1 (shut_bool Tryz.underlying4 _),(trodAll_cons_mk (Below.trod laidOut (by kernel_rfl) (of_decide_eq_true (by kernel_rfl)) k0 bel lt0) trodAll_mk0),rfl,bel.frame _,fun h=>by cases h⟩
theorem AcB:Tryz.pinned.checked.prog.funcNamed Rows.fnAskedRow.func=some 5:=by kernel_rfl
theorem AWl:(Rows.fnAskedRow.inPlace==Tryz.pinned.checked.prog.inPlace 5)=true:=by kernel_rfl
theorem AXI:(Rows.fnAskedRow.unfollowed==Tryz.pinned.checked.prog.unfollowed 5)=true:=by kernel_rfl
theorem AXS:(Rows.fnAskedRow.recurses==Tryz.pinned.checked.prog.recurses 5)=true:=by kernel_rfl
theorem AWH:(Rows.fnAskedRow.named==Tryz.pinned.checked.prog.varsNamed 5)=true:=by kernel_rfl
theorem Aas:joinedFacts Tryz.pinned.checked.prog 5 Tryz.f5 Rows.fnAskedSpec Rows.fnAskedRow=true:=by
 unfold joinedFacts;rw[AWl,AXI,AXS,AWH]
 kernel_rfl
theorem AZ9:decide (Func.isInstance Tryz.pinned.checked.prog Tryz.f5 Rows.fnAskedRow.origin Rows.fnAskedRow.targs)=true:=by kernel_rfl
theorem AcL:Func.isWrapper Tryz.pinned.checked.prog Tryz.f5 Rows.fnAskedRow.wrapper Rows.fnAskedRow.mainSum:=by unfold Func.isWrapper;first|(rw[if_pos (by decide+kernel)];kernel_rfl)|(rw[if_neg (by decide+kernel)];exact⟨rfl,rfl⟩)
theorem over:Rows.fnAskedRow.holds Tryz.pinned (OpenSpec.ofChange Rows.fnAskedSpec):=
 OpenClaim.holds_of_wide 5 Tryz.f5 rfl rfl rfl rfl rfl rfl rfl ⟨rfl,rfl,rfl,rfl,rfl⟩ rfl rfl rfl rfl rfl AcB Tryz.func5 Aas
  (of_decide_eq_true AZ9) AcL
  (fun os started H enc _=>lifted os started H enc)
end fnAsked
/-- The row,under a short name,for the claim. -/
theorem fnAsked_holds:Rows.FnAskedSaid:=fnAsked.over
end Go.Proofs.YtbjkhapllnkhfaaGreatDoor
#print axioms Go.Proofs.YtbjkhapllnkhfaaGreatDoor.fnAsked_holds
namespace Go.Proofs.YtbjkhapllnkhfaaGreatDoor
open Go Go.ChangeShapes Go.WideShapes Go.ChangeAt Go.RowKit
theorem cWf:Rows.fnAskedRow.wfByText (OpenSpec.ofChange Rows.fnAskedSpec)=true:=by kernel_rfl
theorem AUS:Tryz.pinned.checked.prog.mainIs=some (((true, "c93fc08bcd255a4b646cbab66789bf6594ec878e9a92f4e2702ad7dd35c8167c"):Bool×String).1,((true, "c93fc08bcd255a4b646cbab66789bf6594ec878e9a92f4e2702ad7dd35c8167c"):Bool×String).2.toList):=by kernel_rfl
theorem AVF:Tryz.prog.funcNamed "loop.example/g00178/laws.FnAsked" =some 5:=by kernel_rfl
theorem AUj:([32].all fun u=> !Tryz.prog.wantsStandIn u)=true:=by kernel_rfl
/-- The card. -/
theorem fnAsked_card_holds:Rows.FnAskedCardSaid:=
 Claim7.holds_tied_plain_at .later [] [.data,.data,.data,.sentinel,.sentinel] true (true, "c93fc08bcd255a4b646cbab66789bf6594ec878e9a92f4e2702ad7dd35c8167c") true fnAsked_holds (fun _ h=>by cases h) cWf (fun _ h=>by cases h) fnAsked_row_tie rfl ⟨rfl,rfl⟩ AUS rfl
  (fun f fn hf hfn=>by
   obtain rfl:f=5:=Option.some.inj (AVF.symm.trans hf) |>.symm
   obtain rfl:fn=Tryz.f5:=(Option.some.inj (Tryz.func5.symm.trans hfn)).symm;exact⟨cLooks,fun j t ht=>by
    rw[Tryz.params5]at ht;have hm:t∈[32]:=by simpa using Array.mem_of_getElem? ht
    exact(show Tryz.prog.wantsStandIn t=false by simpa using List.all_eq_true.1 AUj t hm)⟩)
  cGoes
end Go.Proofs.YtbjkhapllnkhfaaGreatDoor
#print axioms Go.Proofs.YtbjkhapllnkhfaaGreatDoor.fnAsked_card_holds
