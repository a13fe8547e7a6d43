/- FnExactSession:for every input the law returns true,and each argument reads behind the call as it read before;no condition. -/
import Derived.Test.YtbjkhapllnkhfaaGreatDoorRows
import Derived.Test.YtbjkhapllnkhfaaGreatDoorCards
import Derived.Test.YtbjkhapllnkhfaaGreatDoorK0
import Derived.Test.YtbjkhapllnkhfaaGreatDoorTie
import Derived.Lay
import Derived.LaidMore
import Derived.SevenTiedAt
import Derived.Stop.LaidErr
import Derived.Test.YtbjkhapllnkhfaaGreatDoorE1
import Derived.Test.YtbjkhapllnkhfaaGreatDoorM1
import Derived.WalkKit
import Derived.ProofKit
import Derived.OpenShut
import Derived.ShutString
import Derived.ChangeOld
import Derived.Below
import Derived.SizedLaws
set_option linter.unusedVariables false
set_option linter.unusedSimpArgs false
set_option linter.unusedSectionVars false
namespace Go.Proofs.YtbjkhapllnkhfaaGreatDoor
open Go Go.Fw Go.M Go.ChangeShapes Go.WideShapes Go.ChangeAt Go.RowKit
namespace fnExactSession
theorem AAp{P:Program}{Dw:List (Nat×XP)}{g:(⟨Dw,[]⟩:Bc).Cu (Option rQ.V)}(f:Nat)(s:SP P)(hf:s.f=f)(hc:s.c=⟨⟨Dw,[]⟩,rQ,Bc.un ⟨Dw,[]⟩ g⟩){W:World}{args:Array Value}(x:GF.V Dw)(hlen:args.size=Dw.length)(hgi:∀w':World,(∀c,c<W.heap.size->w'.heap[c]? =W.heap[c]?)->GI w')
  (hx:Mm (mm W) W [] id Dw x args.toList) (hg:Bc.un ⟨Dw,[]⟩ g (x,())=some ((true,()),())):Calls P f args W fun e W' =>e= .returned (.bool true)/\Below W.heap.size W W':=by
 have h:=s.h;rw[hc,hf]at h;exact ADr h x hlen hgi hx hg
theorem APn{l:List (String×DataW Unit)}{W:World}(h1:(l.all fun x=>x.2.handleName?.isNone)=true)(h2:(l.drop 2).head? =some ("internal/strconv.uint64pow10",Go.Lib.tabData .u64 Go.Lib.pow10Tab)){d1 d2:DataW Unit}{m1 m2:String}(h3:(l.drop 4).head? =some ("strconv.ErrRange",.iface m1 d1))(h4:(l.drop 5).head? =some ("strconv.ErrSyntax",.iface m2 d2))(hL:laidMetH Tryz.prog l W)(hsh:W.ShapedOpen Tryz.prog):
  ∀w':World,(∀c,c<W.heap.size->w'.heap[c]? =W.heap[c]?)->GI w':=by
 rw[MakeChecks.laidMetH_plain _ _ _ h1]at hL
 match l,h2,h3,h4,hL with
 |a0::a1::x::z0::r,h2,h3,h4,hL=>
  simp only[List.drop_succ_cons,List.drop_zero,List.head?_cons,Option.some.injEq]at h2;subst h2;have ht:=Go.Lib.tabIs_of_head (e:=267) (n:=20) Wk.ABS (by kernel_rfl:(Tryz.prog.globals[AEC]?).map (·.type)=some 297) (by kernel_rfl) (by kernel_rfl) (by kernel_rfl) (by kernel_rfl) hL.tail.tail
  match r,h3,h4,hL with
  |y1::y2::r,h3,h4,hL=>
   simp only[List.drop_succ_cons,List.drop_zero,List.head?_cons,Option.some.injEq]at h3 h4;subst h3 h4;have k1:=sP hL.tail.tail.tail.tail (by kernel_rfl:Tryz.prog.globalNamed "strconv.ErrRange" =some gE2) (by kernel_rfl:(Tryz.prog.globals[gE2]?).map (·.type)=some 192) Tryz.underlying192;have k2:=sP hL.tail.tail.tail.tail.tail (by kernel_rfl:Tryz.prog.globalNamed "strconv.ErrSyntax" =some gE1) (by kernel_rfl:(Tryz.prog.globals[gE1]?).map (·.type)=some 192) Tryz.underlying192;exact fun w' hw=>GI.of Wk.ABS ht (Wk.maxOf hsh) k2 k1 hw
theorem own:ownKnob Tryz.prog.godebug=none:=by kernel_rfl
theorem laidOut:laidOutB Tryz.prog=true:=by kernel_rfl
set_option maxRecDepth 100000 in
theorem lifted(os:Os)(started:os.Started)(H:Type)(enc:TypeId×Value->H):
  ReturnsInHanded {} Tryz.checked os 3 .any (fun w args=>(Rows.fnExactSessionSpec.pre enc Tryz.prog Tryz.f3 Rows.fnExactSessionRow.domain false w args/\laidMetH Tryz.prog Rows.fnExactSessionRow.laid w)/\sizedMet enc Tryz.prog Tryz.f3 (OpenSpec.ofChange Rows.fnExactSessionSpec) false w args) (Rows.fnExactSessionSpec.post enc Tryz.prog Tryz.f3 false true false false):=by
 refine tv (C:=Tryz.checked) (X:=fun w _=>laidMetH Tryz.prog Rows.fnExactSessionRow.laid w) (fun _ _ _ hh h=>h.of_heap hh) own started (by kernel_rfl) Tryz.func3
  (ChangeSpec.witness_shaped (enc:=enc) (C:=Tryz.checked) (os:=os) (X:=fun w _=>laidMetH Tryz.prog Rows.fnExactSessionRow.laid w) false (World.laidAll Tryz.prog os Rows.fnExactSessionRow.laid) #[.agg #[.slice none 0 0,.int .i64 0],.string ByteArray.empty] 8 (World.laidAll_os _ _ _) (World.shaped_of_ZipB (by kernel_rfl) (by kernel_rfl)) (by kernel_rfl) (by kernel_rfl) (by kernel_rfl)
   (by rw[MakeChecks.laidMetH_plain _ _ _ (by kernel_rfl)];exact laidMet_laidAll _ (by kernel_rfl) (by kernel_rfl))) ?_
 intro W base args ds gs before AJk hW hL hsh;have hgi:=APn (l:=Rows.fnExactSessionRow.laid) (by kernel_rfl) (by kernel_rfl) (h3:=rfl) (h4:=rfl) hL hsh;have AEq:∀(j:Nat) t v,Tryz.f3.params[j]? =some t->args[j]? =some v->Value.okWide Tryz.prog W .any base t v:=AJk;have hW':=hW;obtain⟨p,q,hA0,hV,rfl,hfz,hnd⟩:=hW;have hA:DataW.TrodAll enc Tryz.prog W 0 (fun _=>true) true Tryz.f3.params.toList args.toList ds p:=hA0;rw[Tryz.params3]at hA AEq;obtain⟨v0,vs0,d0,ds0,p0,q0,IV,rfl,rfl,h0,r0⟩:=trodAll_cons hA;obtain⟨v1,vs1,d1,ds1,p1,q1,rfl,rfl,rfl,h1,r1⟩:=trodAll_cons r0;obtain⟨rfl,rfl,rfl⟩:=trodAll_nil r1;obtain rfl:args= #[v0,v1]:=by cases args;simp_all
 obtain⟨rfl,rfl⟩:=trodVars_none hV;have k0:=h0;have lt0:∀x∈p0,x.block<W.heap.size:=by obtain⟨m,hm⟩:=k0;exact DataW.trod_lt m _ _ _ hm
 obtain⟨c0,rfl,hc0⟩:=okWide_struct Tryz.underlying24 (AEq 0 24 v0 rfl rfl);obtain⟨m0,hm0⟩:=h0;obtain⟨y0,a0_,b0⟩:=gL 8 (P:=Tryz.prog) (t:=24) (q:=([.sl (.int .i64),.int .i64],true)) (by kernel_rfl) hm0;have k1:=h1;have lt1:∀x∈p1,x.block<W.heap.size:=by obtain⟨m,hm⟩:=k1;exact DataW.trod_lt m _ _ _ hm
 obtain⟨c1,rfl⟩:=okWide_string Tryz.underlying9 (AEq 1 9 v1 rfl rfl);obtain⟨m1,hm1⟩:=h1;obtain⟨y1,a1_,b1⟩:=gL 8 (P:=Tryz.prog) (t:=9) (q:=([.str],false)) (by kernel_rfl) hm1;obtain⟨w1,_,e1,a1,_⟩:=a1_;cases e1;clear hA0 AJk;have hu:∀F:Wk.i3.Cu (Option rQ.V),Bc.un Wk.i3 F ((y0,y1.1,()),())=F y0 y1.1:=fun F=>rfl
 refine(AAp 3 Wk.s3 (by kernel_rfl) (Dw:=Wk.i3.Dw) (g:=IY) (by kernel_rfl) (y0,y1.1,()) rfl hgi ⟨⟨_,rfl,AGU (l:=[.sl (.int .i64),.int .i64]) rfl a0_⟩,⟨_,rfl,AMN rfl a1⟩,trivial⟩ ((hu IY).trans (gv b0 b1.1))).mono fun e W' ⟨he,bel⟩=> ?_
 subst he;exact⟨_,rfl,_,_,_,[],_,[],hW',trodAll_mk1 (shut_bool Tryz.underlying4 _),(trodAll_cons_mk (Below.trod laidOut (by kernel_rfl) (of_decide_eq_true (by kernel_rfl)) k0 bel lt0) (trodAll_cons_mk (Below.trod laidOut (by kernel_rfl) (of_decide_eq_true (by kernel_rfl)) k1 bel lt1) trodAll_mk0)),rfl,bel.frame _,fun h=>by cases h⟩
theorem AWk:Tryz.pinned.checked.prog.funcNamed Rows.fnExactSessionRow.func=some 3:=by kernel_rfl
theorem APZ:(Rows.fnExactSessionRow.inPlace==Tryz.pinned.checked.prog.inPlace 3)=true:=by kernel_rfl
theorem APx:(Rows.fnExactSessionRow.unfollowed==Tryz.pinned.checked.prog.unfollowed 3)=true:=by kernel_rfl
theorem ARW:(Rows.fnExactSessionRow.recurses==Tryz.pinned.checked.prog.recurses 3)=true:=by kernel_rfl
theorem ASf:(Rows.fnExactSessionRow.named==Tryz.pinned.checked.prog.varsNamed 3)=true:=by kernel_rfl
theorem AT1:joinedFacts Tryz.pinned.checked.prog 3 Tryz.f3 Rows.fnExactSessionSpec Rows.fnExactSessionRow=true:=by
 unfold joinedFacts;rw[APZ,APx,ARW,ASf]
 kernel_rfl
theorem AUc:decide (Func.isInstance Tryz.pinned.checked.prog Tryz.f3 Rows.fnExactSessionRow.origin Rows.fnExactSessionRow.targs)=true:=by kernel_rfl
theorem AT0:Func.isWrapper Tryz.pinned.checked.prog Tryz.f3 Rows.fnExactSessionRow.wrapper Rows.fnExactSessionRow.mainSum:=by unfold Func.isWrapper;first|(rw[if_pos (by decide+kernel)];kernel_rfl)|(rw[if_neg (by decide+kernel)];exact⟨rfl,rfl⟩)
theorem over:Rows.fnExactSessionRow.holds Tryz.pinned (OpenSpec.ofChange Rows.fnExactSessionSpec):=
 OpenClaim.holds_of_wide 3 Tryz.f3 rfl rfl rfl rfl rfl rfl rfl ⟨rfl,rfl,rfl,rfl,rfl⟩ rfl rfl rfl rfl rfl AWk Tryz.func3 AT1
  (of_decide_eq_true AUc) AT0
  (fun os started H enc _=>lifted os started H enc)
end fnExactSession
/-- The row,under a short name,for the claim. -/
theorem fnExactSession_holds:Rows.FnExactSessionSaid:=fnExactSession.over
end Go.Proofs.YtbjkhapllnkhfaaGreatDoor
#print axioms Go.Proofs.YtbjkhapllnkhfaaGreatDoor.fnExactSession_holds
namespace Go.Proofs.YtbjkhapllnkhfaaGreatDoor
open Go Go.ChangeShapes Go.WideShapes Go.ChangeAt Go.RowKit
theorem cWf:Rows.fnExactSessionRow.wfByText (OpenSpec.ofChange Rows.fnExactSessionSpec)=true:=by kernel_rfl
theorem cMain:Tryz.pinned.checked.prog.mainIs=some (((true, "c93fc08bcd255a4b646cbab66789bf6594ec878e9a92f4e2702ad7dd35c8167c"):Bool×String).1,((true, "c93fc08bcd255a4b646cbab66789bf6594ec878e9a92f4e2702ad7dd35c8167c"):Bool×String).2.toList):=by kernel_rfl
theorem cName:Tryz.prog.funcNamed "loop.example/g00178/laws.FnExactSession" =some 3:=by kernel_rfl
theorem cWant:([24,9].all fun u=> !Tryz.prog.wantsStandIn u)=true:=by kernel_rfl
/-- The card. -/
theorem fnExactSession_card_holds:Rows.FnExactSessionCardSaid:=
 Claim7.holds_tied_plain_at .later [] [.data,.data,.data,.data,.sentinel,.sentinel,.pinned] true (true, "c93fc08bcd255a4b646cbab66789bf6594ec878e9a92f4e2702ad7dd35c8167c") true fnExactSession_holds (fun _ h=>by cases h) cWf (fun _ h=>by cases h) fnExactSession_row_tie rfl ⟨rfl,rfl⟩ cMain rfl
  (fun f fn hf hfn=>by
   obtain rfl:f=3:=Option.some.inj (cName.symm.trans hf) |>.symm
   obtain rfl:fn=Tryz.f3:=(Option.some.inj (Tryz.func3.symm.trans hfn)).symm;exact⟨cLooks,fun j t ht=>by
    rw[Tryz.params3]at ht;have hm:t∈[24,9]:=by simpa using Array.mem_of_getElem? ht
    exact(show Tryz.prog.wantsStandIn t=false by simpa using List.all_eq_true.1 cWant t hm)⟩)
  cGoes
end Go.Proofs.YtbjkhapllnkhfaaGreatDoor
#print axioms Go.Proofs.YtbjkhapllnkhfaaGreatDoor.fnExactSession_card_holds
