/- FnDeedText:for every input the law returns true,and each argument reads behind the call as it read before;no condition. -/
import Derived.Test.YtdmpcbfbjigonaaGreatDoorRows
import Derived.Test.YtdmpcbfbjigonaaGreatDoorCards
import Derived.Test.YtdmpcbfbjigonaaGreatDoorTie
import Derived.Lay
import Derived.LaidMore
import Derived.SevenTiedAt
import Derived.Stop.LaidErr
import Derived.Test.YtdmpcbfbjigonaaGreatDoorE0
import Derived.Test.YtdmpcbfbjigonaaGreatDoorM1
import Derived.WalkKit
import Derived.ProofKit
import Derived.OpenShut
import Derived.ShutString
import Derived.ChangeOld
import Derived.Below
import Derived.SizedLaws
set_option linter.unusedVariables false
set_option linter.unusedSimpArgs false
set_option linter.unusedSectionVars false
namespace Go.Proofs.YtdmpcbfbjigonaaGreatDoor
open Go Go.Fw Go.M Go.ChangeShapes Go.WideShapes Go.ChangeAt Go.RowKit
namespace fnDeedText
theorem iY{P:Program}{CJ:List (Nat×XP)}{g:(⟨CJ,[]⟩:CI).Cu (Option ZO.V)}(f:Nat)(s:SP P)(hf:s.f=f)(hc:s.c=⟨⟨CJ,[]⟩,ZO,CI.un ⟨CJ,[]⟩ g⟩){W:World}{args:Array Value}(x:DR.V CJ)(hlen:args.size=CJ.length)(ld:∀w':World,(∀c,c<W.heap.size→w'.heap[c]? =W.heap[c]?)→GI w')
  (hx:Hw (dO W) W [] id CJ x args.toList) (hg:CI.un ⟨CJ,[]⟩ g (x,())=some ((true,()),())):Calls P f args W fun e W' =>e= .returned (.bool true)∧Below W.heap.size W W':=by
 have h:=s.h;rw[hc,hf]at h;exact kX h x hlen ld hx hg
theorem ACC{l:List (String×DataW Unit)}{W:World}(h1:(l.all fun x=>x.2.handleName?.isNone)=true)(h2:(l.drop 2).head? =some ("internal/strconv.uint64pow10",Go.Lib.tabData .u64 Go.Lib.pow10Tab)){d1 d2:DataW Unit}{m1 m2:String}(h3:(l.drop 3).head? =some ("strconv.ErrRange",.iface m1 d1))(h4:(l.drop 4).head? =some ("strconv.ErrSyntax",.iface m2 d2))(hL:laidMetH Tryz.prog l W)(hsh:W.ShapedOpen Tryz.prog):
  ∀w':World,(∀c,c<W.heap.size→w'.heap[c]? =W.heap[c]?)→GI w':=by
 rw[MakeChecks.laidMetH_plain _ _ _ h1]at hL
 match l,h2,h3,h4,hL with
 |a::b::x::r,h2,h3,h4,hL=>
  simp only[List.drop_succ_cons,List.drop_zero,List.head?_cons,Option.some.injEq]at h2;subst h2;have ht:=Go.Lib.tabIs_of_head (e:=207) (n:=20) Wk.iK (by kernel_rfl:(Tryz.prog.globals[kz]?).map (·.type)=some 220) (by kernel_rfl) (by kernel_rfl) (by kernel_rfl) (by kernel_rfl) hL.tail.tail
  match r,h3,h4,hL with
  |y1::y2::r,h3,h4,hL=>
   simp only[List.drop_succ_cons,List.drop_zero,List.head?_cons,Option.some.injEq]at h3 h4;subst h3 h4;have k1:=Zo hL.tail.tail.tail (by kernel_rfl:Tryz.prog.globalNamed "strconv.ErrRange" =some gE2) (by kernel_rfl:(Tryz.prog.globals[gE2]?).map (·.type)=some 120) Tryz.underlying120;have k2:=Zo hL.tail.tail.tail.tail (by kernel_rfl:Tryz.prog.globalNamed "strconv.ErrSyntax" =some gE1) (by kernel_rfl:(Tryz.prog.globals[gE1]?).map (·.type)=some 120) Tryz.underlying120;exact fun w' hw=>GI.of Wk.iK ht (Wk.maxOf hsh) k2 k1 hw
theorem own:ownKnob Tryz.prog.godebug=none:=by kernel_rfl
theorem laidOut:laidOutB Tryz.prog=true:=by kernel_rfl
set_option maxRecDepth 100000 in
theorem lifted(os:Os)(started:os.Started)(H:Type)(enc:TypeId×Value→H):
  ReturnsInHanded {} Tryz.checked os 3 .any (fun w args=>(Rows.fnDeedTextSpec.pre enc Tryz.prog Tryz.f3 Rows.fnDeedTextRow.domain false w args∧laidMetH Tryz.prog Rows.fnDeedTextRow.laid w)∧sizedMet enc Tryz.prog Tryz.f3 (OpenSpec.ofChange Rows.fnDeedTextSpec) false w args) (Rows.fnDeedTextSpec.post enc Tryz.prog Tryz.f3 false true false false):=by
 refine bX (C:=Tryz.checked) (X:=fun w _=>laidMetH Tryz.prog Rows.fnDeedTextRow.laid w) (fun _ _ _ hh h=>h.of_heap hh) own started (by kernel_rfl) Tryz.func3
  (ChangeSpec.witness_shaped (enc:=enc) (C:=Tryz.checked) (os:=os) (X:=fun w _=>laidMetH Tryz.prog Rows.fnDeedTextRow.laid w) false (World.laidAll Tryz.prog os Rows.fnDeedTextRow.laid) #[.slice none 0 0] 8 (World.laidAll_os _ _ _) (World.shaped_of_ZipB (by kernel_rfl) (by kernel_rfl)) (by kernel_rfl) (by kernel_rfl) (by kernel_rfl)
   (by rw[MakeChecks.laidMetH_plain _ _ _ (by kernel_rfl)];exact laidMet_laidAll _ (by kernel_rfl) (by kernel_rfl))) ?_
 intro W base args ds gs before vQ hW hL hsh;have ld:=ACC (l:=Rows.fnDeedTextRow.laid) (by kernel_rfl) (by kernel_rfl) (h3:=rfl) (h4:=rfl) hL hsh;have oX:∀(j:Nat) t v,Tryz.f3.params[j]? =some t→args[j]? =some v→Value.okWide Tryz.prog W .any base t v:=vQ;have hW':=hW;obtain⟨p,q,hA0,hV,rfl,hfz,jv⟩:=hW;have hA:DataW.TrodAll enc Tryz.prog W 0 (fun _=>true) true Tryz.f3.params.toList args.toList ds p:=hA0;rw[Tryz.params3]at hA oX;obtain⟨v0,vs0,d0,ds0,p0,q0,E6,rfl,rfl,h0,r0⟩:=trodAll_cons hA;obtain⟨rfl,rfl,rfl⟩:=trodAll_nil r0;obtain rfl:args= #[v0]:=by cases args;simp_all
 obtain⟨rfl,rfl⟩:=trodVars_none hV;have k0:=h0;have lt0:∀x∈p0,x.block<W.heap.size:=by obtain⟨m,hm⟩:=k0;exact DataW.trod_lt m _ _ _ hm
 obtain⟨a0,len0,cap0,rfl⟩:=okWide_slice Tryz.underlying22 (oX 0 22 v0 rfl rfl);obtain⟨m0,hm0⟩:=h0;obtain⟨y0,a0_,b0⟩:=VJ 8 (P:=Tryz.prog) (t:=22) (q:=([.sl (.int .u8)],false)) (by kernel_rfl) hm0;obtain⟨w0,_,e0,a0,_⟩:=a0_;cases e0;clear hA0 vQ;have hu:∀F:Wk.i3.Cu (Option ZO.V),CI.un Wk.i3 F ((y0.1,()),())=F y0.1:=fun F=>rfl
 refine(iY 3 Wk.s3 (by kernel_rfl) (CJ:=Wk.i3.CJ) (g:=Hh) (by kernel_rfl) (y0.1,()) rfl ld ⟨⟨_,rfl,pg a0⟩,trivial⟩ ((hu Hh).trans (YI b0.1))).mono fun e W' ⟨he,bel⟩=> ?_
 subst he;exact⟨_,rfl,_,_,_,[],_,[],hW',trodAll_mk1 (shut_bool Tryz.underlying4 _),(trodAll_cons_mk (Below.trod laidOut (by kernel_rfl) (of_decide_eq_true (by kernel_rfl)) k0 bel lt0) trodAll_mk0),rfl,bel.frame _,fun h=>by cases h⟩
theorem AFd:Tryz.pinned.checked.prog.funcNamed Rows.fnDeedTextRow.func=some 3:=by kernel_rfl
theorem ABg:(Rows.fnDeedTextRow.inPlace==Tryz.pinned.checked.prog.inPlace 3)=true:=by kernel_rfl
theorem ACQ:(Rows.fnDeedTextRow.unfollowed==Tryz.pinned.checked.prog.unfollowed 3)=true:=by kernel_rfl
theorem ADc:(Rows.fnDeedTextRow.recurses==Tryz.pinned.checked.prog.recurses 3)=true:=by kernel_rfl
theorem ADx:(Rows.fnDeedTextRow.named==Tryz.pinned.checked.prog.varsNamed 3)=true:=by kernel_rfl
theorem AFu:joinedFacts Tryz.pinned.checked.prog 3 Tryz.f3 Rows.fnDeedTextSpec Rows.fnDeedTextRow=true:=by
 unfold joinedFacts;rw[ABg,ACQ,ADc,ADx]
 kernel_rfl
theorem AE8:decide (Func.isInstance Tryz.pinned.checked.prog Tryz.f3 Rows.fnDeedTextRow.origin Rows.fnDeedTextRow.targs)=true:=by kernel_rfl
theorem AFc:Func.isWrapper Tryz.pinned.checked.prog Tryz.f3 Rows.fnDeedTextRow.wrapper Rows.fnDeedTextRow.mainSum:=by unfold Func.isWrapper;first|(rw[if_pos (by decide+kernel)];kernel_rfl)|(rw[if_neg (by decide+kernel)];exact⟨rfl,rfl⟩)
theorem over:Rows.fnDeedTextRow.holds Tryz.pinned (OpenSpec.ofChange Rows.fnDeedTextSpec):=
 OpenClaim.holds_of_wide 3 Tryz.f3 rfl rfl rfl rfl rfl rfl rfl ⟨rfl,rfl,rfl,rfl,rfl⟩ rfl rfl rfl rfl rfl AFd Tryz.func3 AFu
  (of_decide_eq_true AE8) AFc
  (fun os started H enc _=>lifted os started H enc)
end fnDeedText
/-- The row,under a short name,for the claim. -/
theorem fnDeedText_holds:Rows.FnDeedTextSaid:=fnDeedText.over
end Go.Proofs.YtdmpcbfbjigonaaGreatDoor
#print axioms Go.Proofs.YtdmpcbfbjigonaaGreatDoor.fnDeedText_holds
namespace Go.Proofs.YtdmpcbfbjigonaaGreatDoor
open Go Go.ChangeShapes Go.WideShapes Go.ChangeAt Go.RowKit
/-- The card. -/
theorem fnDeedText_card_holds:Rows.FnDeedTextCardSaid:=
 Claim7.holds_tied_plain_at .later [] [.data,.data,.data,.sentinel,.sentinel] true (true, "1e651622b7fdf17c778bed5dbc276dc2830f7b5d785d491f75731aaab9cb0251") true fnDeedText_holds (fun _ h=>by cases h) (by kernel_rfl) (fun _ h=>by cases h) fnDeedText_row_tie rfl ⟨rfl,rfl⟩ (by kernel_rfl) rfl
  (fun f fn hf hfn=>by
   obtain rfl:f=3:=Option.some.inj ((show Tryz.prog.funcNamed "loop.example/g00178/laws.FnDeedText" =some 3 by kernel_rfl).symm.trans hf) |>.symm
   obtain rfl:fn=Tryz.f3:=(Option.some.inj (Tryz.func3.symm.trans hfn)).symm;exact⟨by kernel_rfl,fun j t ht=>by
    rw[Tryz.params3]at ht;have hm:t∈[22]:=by simpa using Array.mem_of_getElem? ht
    have OJ:([22].all fun u=> !Tryz.prog.wantsStandIn u)=true:=by kernel_rfl
    exact(show Tryz.prog.wantsStandIn t=false by simpa using List.all_eq_true.1 OJ t hm)⟩)
  (by kernel_rfl)
end Go.Proofs.YtdmpcbfbjigonaaGreatDoor
#print axioms Go.Proofs.YtdmpcbfbjigonaaGreatDoor.fnDeedText_card_holds
