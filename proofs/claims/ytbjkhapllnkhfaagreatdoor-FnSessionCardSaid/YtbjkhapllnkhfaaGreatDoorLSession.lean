/- FnSession:for every input the law returns true,and each argument reads behind the call as it read before;no condition. -/
import Derived.Test.YtbjkhapllnkhfaaGreatDoorRows
import Derived.Test.YtbjkhapllnkhfaaGreatDoorCards
import Derived.Test.YtbjkhapllnkhfaaGreatDoorSK0
import Derived.Test.YtbjkhapllnkhfaaGreatDoorTie
import Derived.Lay
import Derived.LaidMore
import Derived.SevenTiedAt
import Derived.Stop.LaidErr
import Derived.Test.YtbjkhapllnkhfaaGreatDoorSE3
import Derived.Test.YtbjkhapllnkhfaaGreatDoorSM1
import Derived.WalkKit
import Derived.ProofKit
import Derived.OpenShut
import Derived.ShutString
import Derived.ChangeOld
import Derived.Below
import Derived.SizedLaws
set_option linter.unusedVariables false
set_option linter.unusedSimpArgs false
set_option linter.unusedSectionVars false
namespace Go.Proofs.YtbjkhapllnkhfaaGreatDoor
open Go Go.Fw Go.M Go.ChangeShapes Go.WideShapes Go.ChangeAt Go.RowKit
namespace fnSession
theorem ACr{P:Program}{D1:List (Nat×XP)}{g:(⟨D1,[]⟩:Bb).Cu (Option vD.V)}(f:Nat)(s:SP P)(hf:s.f=f)(hc:s.c=⟨⟨D1,[]⟩,vD,Bb.un ⟨D1,[]⟩ g⟩){W:World}{args:Array Value}(x:GU.V D1)(hlen:args.size=D1.length)(hgi:∀w':World,(∀c,c<W.heap.size->w'.heap[c]? =W.heap[c]?)->GI w')
  (hx:NK (yK W) W [] id D1 x args.toList) (hg:Bb.un ⟨D1,[]⟩ g (x,())=some ((true,()),())):Calls P f args W fun e W' =>e= .returned (.bool true)/\Below W.heap.size W W':=by
 have h:=s.h;rw[hc,hf]at h;exact AFy h x hlen hgi hx hg
theorem AUL{l:List (String×DataW Unit)}{W:World}(h1:(l.all fun x=>x.2.handleName?.isNone)=true)(h2:(l.drop 2).head? =some ("internal/strconv.uint64pow10",Go.Lib.tabData .u64 Go.Lib.pow10Tab)){d1 d2:DataW Unit}{m1 m2:String}(h3:(l.drop 4).head? =some ("strconv.ErrRange",.iface m1 d1))(h4:(l.drop 5).head? =some ("strconv.ErrSyntax",.iface m2 d2))(hL:laidMetH Tryz.prog l W)(hsh:W.ShapedOpen Tryz.prog):
  ∀w':World,(∀c,c<W.heap.size->w'.heap[c]? =W.heap[c]?)->GI w':=by
 rw[MakeChecks.laidMetH_plain _ _ _ h1]at hL
 match l,h2,h3,h4,hL with
 |a0::a1::x::z0::r,h2,h3,h4,hL=>
  simp only[List.drop_succ_cons,List.drop_zero,List.head?_cons,Option.some.injEq]at h2;subst h2;have ht:=Go.Lib.tabIs_of_head (e:=267) (n:=20) Wk.ADR (by kernel_rfl:(Tryz.prog.globals[AFb]?).map (·.type)=some 297) (by kernel_rfl) (by kernel_rfl) (by kernel_rfl) (by kernel_rfl) hL.tail.tail
  match r,h3,h4,hL with
  |y1::y2::r,h3,h4,hL=>
   simp only[List.drop_succ_cons,List.drop_zero,List.head?_cons,Option.some.injEq]at h3 h4;subst h3 h4;have k1:=sQ hL.tail.tail.tail.tail (by kernel_rfl:Tryz.prog.globalNamed "strconv.ErrRange" =some gE2) (by kernel_rfl:(Tryz.prog.globals[gE2]?).map (·.type)=some 192) Tryz.underlying192;have k2:=sQ hL.tail.tail.tail.tail.tail (by kernel_rfl:Tryz.prog.globalNamed "strconv.ErrSyntax" =some gE1) (by kernel_rfl:(Tryz.prog.globals[gE1]?).map (·.type)=some 192) Tryz.underlying192;exact fun w' hw=>GI.of Wk.ADR ht (Wk.maxOf hsh) k2 k1 hw
theorem own:ownKnob Tryz.prog.godebug=none:=by kernel_rfl
theorem laidOut:laidOutB Tryz.prog=true:=by kernel_rfl
set_option maxRecDepth 100000 in
theorem lifted(os:Os)(started:os.Started)(H:Type)(enc:TypeId×Value->H):
  ReturnsInHanded {} Tryz.checked os 4 .any (fun w args=>(Rows.fnSessionSpec.pre enc Tryz.prog Tryz.f4 Rows.fnSessionRow.domain false w args/\laidMetH Tryz.prog Rows.fnSessionRow.laid w)/\sizedMet enc Tryz.prog Tryz.f4 (OpenSpec.ofChange Rows.fnSessionSpec) false w args) (Rows.fnSessionSpec.post enc Tryz.prog Tryz.f4 false true false false):=by
 refine wZ (C:=Tryz.checked) (X:=fun w _=>laidMetH Tryz.prog Rows.fnSessionRow.laid w) (fun _ _ _ hh h=>h.of_heap hh) own started (by kernel_rfl) Tryz.func4
  (ChangeSpec.witness_shaped (enc:=enc) (C:=Tryz.checked) (os:=os) (X:=fun w _=>laidMetH Tryz.prog Rows.fnSessionRow.laid w) false (World.laidAll Tryz.prog os Rows.fnSessionRow.laid) #[.slice none 0 0] 8 (World.laidAll_os _ _ _) (World.shaped_of_ZipB (by kernel_rfl) (by kernel_rfl)) (by kernel_rfl) (by kernel_rfl) (by kernel_rfl)
   (by rw[MakeChecks.laidMetH_plain _ _ _ (by kernel_rfl)];exact laidMet_laidAll _ (by kernel_rfl) (by kernel_rfl))) ?_
 intro W base args ds gs before AL0 hW hL hsh;have hgi:=AUL (l:=Rows.fnSessionRow.laid) (by kernel_rfl) (by kernel_rfl) (h3:=rfl) (h4:=rfl) hL hsh;have AK0:∀(j:Nat) t v,Tryz.f4.params[j]? =some t->args[j]? =some v->Value.okWide Tryz.prog W .any base t v:=AL0;have hW':=hW;obtain⟨p,q,hA0,hV,rfl,hfz,hnd⟩:=hW;have hA:DataW.TrodAll enc Tryz.prog W 0 (fun _=>true) true Tryz.f4.params.toList args.toList ds p:=hA0;rw[Tryz.params4]at hA AK0;obtain⟨v0,vs0,d0,ds0,p0,q0,Io,rfl,rfl,h0,r0⟩:=trodAll_cons hA;obtain⟨rfl,rfl,rfl⟩:=trodAll_nil r0;obtain rfl:args= #[v0]:=by cases args;simp_all
 obtain⟨rfl,rfl⟩:=trodVars_none hV;have k0:=h0;have lt0:∀x∈p0,x.block<W.heap.size:=by obtain⟨m,hm⟩:=k0;exact DataW.trod_lt m _ _ _ hm
 obtain⟨a0,len0,cap0,rfl⟩:=okWide_slice Tryz.underlying32 (AK0 0 32 v0 rfl rfl);obtain⟨m0,hm0⟩:=h0;obtain⟨y0,a0_,b0⟩:=mP 8 (P:=Tryz.prog) (t:=32) (q:=([.sl (.int .u8)],false)) (by kernel_rfl) hm0;obtain⟨w0,_,e0,a0,_⟩:=a0_;cases e0;clear hA0 AL0;have hu:∀F:Wk.i4.Cu (Option vD.V),Bb.un Wk.i4 F ((y0.1,()),())=F y0.1:=fun F=>rfl
 refine(ACr 4 Wk.s4 (by kernel_rfl) (D1:=Wk.i4.D1) (g:=O7) (by kernel_rfl) (y0.1,()) rfl hgi ⟨⟨_,rfl,AK5 a0⟩,trivial⟩ ((hu O7).trans (sP b0.1))).mono fun e W' ⟨he,bel⟩=> ?_
 subst he;exact⟨_,rfl,_,_,_,[],_,[],hW',trodAll_mk1 (shut_bool Tryz.underlying4 _),(trodAll_cons_mk (Below.trod laidOut (by kernel_rfl) (of_decide_eq_true (by kernel_rfl)) k0 bel lt0) trodAll_mk0),rfl,bel.frame _,fun h=>by cases h⟩
theorem AWx:Tryz.pinned.checked.prog.funcNamed Rows.fnSessionRow.func=some 4:=by kernel_rfl
theorem ASi:(Rows.fnSessionRow.inPlace==Tryz.pinned.checked.prog.inPlace 4)=true:=by kernel_rfl
theorem AUF:(Rows.fnSessionRow.unfollowed==Tryz.pinned.checked.prog.unfollowed 4)=true:=by kernel_rfl
theorem AT2:(Rows.fnSessionRow.recurses==Tryz.pinned.checked.prog.recurses 4)=true:=by kernel_rfl
theorem ASe:(Rows.fnSessionRow.named==Tryz.pinned.checked.prog.varsNamed 4)=true:=by kernel_rfl
theorem AY9:joinedFacts Tryz.pinned.checked.prog 4 Tryz.f4 Rows.fnSessionSpec Rows.fnSessionRow=true:=by
 unfold joinedFacts;rw[ASi,AUF,AT2,ASe]
 kernel_rfl
theorem AYv:decide (Func.isInstance Tryz.pinned.checked.prog Tryz.f4 Rows.fnSessionRow.origin Rows.fnSessionRow.targs)=true:=by kernel_rfl
theorem AWu:Func.isWrapper Tryz.pinned.checked.prog Tryz.f4 Rows.fnSessionRow.wrapper Rows.fnSessionRow.mainSum:=by unfold Func.isWrapper;first|(rw[if_pos (by decide+kernel)];kernel_rfl)|(rw[if_neg (by decide+kernel)];exact⟨rfl,rfl⟩)
theorem over:Rows.fnSessionRow.holds Tryz.pinned (OpenSpec.ofChange Rows.fnSessionSpec):=
 OpenClaim.holds_of_wide 4 Tryz.f4 rfl rfl rfl rfl rfl rfl rfl ⟨rfl,rfl,rfl,rfl,rfl⟩ rfl rfl rfl rfl rfl AWx Tryz.func4 AY9
  (of_decide_eq_true AYv) AWu
  (fun os started H enc _=>lifted os started H enc)
end fnSession
/-- The row,under a short name,for the claim. -/
theorem fnSession_holds:Rows.FnSessionSaid:=fnSession.over
end Go.Proofs.YtbjkhapllnkhfaaGreatDoor
#print axioms Go.Proofs.YtbjkhapllnkhfaaGreatDoor.fnSession_holds
namespace Go.Proofs.YtbjkhapllnkhfaaGreatDoor
open Go Go.ChangeShapes Go.WideShapes Go.ChangeAt Go.RowKit
theorem cWf:Rows.fnSessionRow.wfByText (OpenSpec.ofChange Rows.fnSessionSpec)=true:=by kernel_rfl
theorem AUt:Tryz.pinned.checked.prog.mainIs=some (((true, "c93fc08bcd255a4b646cbab66789bf6594ec878e9a92f4e2702ad7dd35c8167c"):Bool×String).1,((true, "c93fc08bcd255a4b646cbab66789bf6594ec878e9a92f4e2702ad7dd35c8167c"):Bool×String).2.toList):=by kernel_rfl
theorem AUn:Tryz.prog.funcNamed "loop.example/g00178/laws.FnSession" =some 4:=by kernel_rfl
theorem AVJ:([32].all fun u=> !Tryz.prog.wantsStandIn u)=true:=by kernel_rfl
/-- The card. -/
theorem fnSession_card_holds:Rows.FnSessionCardSaid:=
 Claim7.holds_tied_plain_at .later [] [.data,.data,.data,.data,.sentinel,.sentinel,.pinned] true (true, "c93fc08bcd255a4b646cbab66789bf6594ec878e9a92f4e2702ad7dd35c8167c") true fnSession_holds (fun _ h=>by cases h) cWf (fun _ h=>by cases h) fnSession_row_tie rfl ⟨rfl,rfl⟩ AUt rfl
  (fun f fn hf hfn=>by
   obtain rfl:f=4:=Option.some.inj (AUn.symm.trans hf) |>.symm
   obtain rfl:fn=Tryz.f4:=(Option.some.inj (Tryz.func4.symm.trans hfn)).symm;exact⟨cLooks,fun j t ht=>by
    rw[Tryz.params4]at ht;have hm:t∈[32]:=by simpa using Array.mem_of_getElem? ht
    exact(show Tryz.prog.wantsStandIn t=false by simpa using List.all_eq_true.1 AVJ t hm)⟩)
  cGoes
end Go.Proofs.YtbjkhapllnkhfaaGreatDoor
#print axioms Go.Proofs.YtbjkhapllnkhfaaGreatDoor.fnSession_card_holds
