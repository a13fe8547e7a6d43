/- FnExactJudgeKept: for every input the law returns true, and each argument reads behind the call as it read before; no condition. -/
import Derived.Test.YtekamaodealggaaGreatRows
import Derived.Test.YtekamaodealggaaGreatE0
import Derived.Test.YtekamaodealggaaGreatM0
import Derived.WalkKit
import Derived.ProofKit
import Derived.OpenShut
import Derived.ShutString
import Derived.ChangeOld
import Derived.Below
import Derived.SizedLaws
set_option linter.unusedVariables false
set_option linter.unusedSimpArgs false
namespace Go.Proofs.YtekamaodealggaaGreat
open Go Go.Fw Go.M Go.ChangeShapes Go.WideShapes Go.ChangeAt Go.RowKit
namespace fnExactJudgeKept
theorem own : ownKnob Tryz.prog.godebug = none := by kernel_rfl
theorem laidOut : laidOutB Tryz.prog = true := by kernel_rfl
set_option maxRecDepth 100000 in
theorem lifted (os : Os) (started : os.Started) (H : Type) (enc : TypeId × Value → H) :
    ReturnsInHanded {} Tryz.checked os 7 .any (Rows.fnExactJudgeKeptSpec.pre6 enc Tryz.prog Tryz.f7 Rows.fnExactJudgeKeptRow.domain false) (Rows.fnExactJudgeKeptSpec.post enc Tryz.prog Tryz.f7 false true false false) := by
  refine returnsInHanded_of_change_sized (C := Tryz.checked) own started (by kernel_rfl) Tryz.func7
    (ChangeSpec.witness6 (enc := enc) (C := Tryz.checked) false ⟨#[], #[.agg #[.slice none 0 0, .int .i64 0, .slice none 0 0, .slice none 0 0, .slice none 0 0, .int .i64 0, .slice none 0 0, .slice none 0 0, .slice none 0 0, .slice none 0 0, .bool false]], []⟩ 8 (by kernel_rfl) (by kernel_rfl) (by kernel_rfl) (by kernel_rfl)) ?_
  intro W base args ds gs before hval0 hW hcnd hsz0 _
  have hval : ∀ (j : Nat) t v, Tryz.f7.params[j]? = some t → args[j]? = some v → Value.okWide Tryz.prog W .any base t v := hval0
  have hW' := hW
  obtain ⟨p, q, hA0, hV, rfl, hfz, hnd⟩ := hW
  have hA : DataW.TrodAll enc Tryz.prog W 0 (fun _ => true) true Tryz.f7.params.toList args.toList ds p := hA0
  rw [Tryz.params7] at hA hval
  obtain ⟨v0, vs0, d0, ds0, p0, q0, hargs, rfl, rfl, h0, r0⟩ := trodAll_cons hA
  obtain ⟨rfl, rfl, rfl⟩ := trodAll_nil r0
  obtain rfl : args = #[v0] := by cases args; simp_all
  obtain ⟨rfl, rfl⟩ := trodVars_none hV
  have k0 := h0
  have lt0 : ∀ x ∈ p0, x.block < W.heap.size := by obtain ⟨m, hm⟩ := k0; exact DataW.trod_lt m _ _ _ hm
  obtain ⟨c0, rfl, hc0⟩ := okWide_struct Tryz.underlying34 (hval 0 34 v0 rfl rfl)
  obtain ⟨m0, hm0⟩ := h0
  obtain ⟨y0, a0_, b0⟩ := trod_rd 8 (P := Tryz.prog) (t := 34) (q := ([.sl (.int .i64), .int .i64, .sl (.cons (.sl (.cons (.int .i64) (.cons (.int .i64) (.cons (.bool) (.cons (.str) (.unit)))))) (.cons (.sl (.cons (.int .i64) (.cons (.int .i64) (.cons (.bool) (.cons (.str) (.unit)))))) (.cons (.int .i64) (.unit)))), .sl (.int .i64), .sl (.cons (.sl (.int .i64)) (.cons (.bool) (.cons (.int .i64) (.unit)))), .int .i64, .sl (.cons (.int .i64) (.cons (.sl (.cons (.str) (.cons (.sl (.int .i64)) (.cons (.bool) (.unit))))) (.unit))), .sl (.cons (.int .i64) (.cons (.int .i64) (.cons (.sl (.int .i64)) (.cons (.sl (.cons (.int .i64) (.cons (.int .i64) (.cons (.bool) (.cons (.str) (.unit)))))) (.cons (.bool) (.cons (.sl (.sl (.int .i64))) (.unit))))))), .sl (.cons (.int .i64) (.cons (.int .i64) (.cons (.sl (.cons (.int .i64) (.cons (.int .i64) (.cons (.str) (.unit))))) (.unit)))), .sl (.cons (.int .i64) (.cons (.str) (.cons (.bool) (.unit)))), .bool], true)) (by kernel_rfl) hm0
  clear hA0 hval0 hsz0
  refine (law_calls (slots := Wk.i7.slots) Wk.s7 (y0, ()) rfl ⟨⟨_, rfl, slot_row (l := [.sl (.int .i64), .int .i64, .sl (.cons (.sl (.cons (.int .i64) (.cons (.int .i64) (.cons (.bool) (.cons (.str) (.unit)))))) (.cons (.sl (.cons (.int .i64) (.cons (.int .i64) (.cons (.bool) (.cons (.str) (.unit)))))) (.cons (.int .i64) (.unit)))), .sl (.int .i64), .sl (.cons (.sl (.int .i64)) (.cons (.bool) (.cons (.int .i64) (.unit)))), .int .i64, .sl (.cons (.int .i64) (.cons (.sl (.cons (.str) (.cons (.sl (.int .i64)) (.cons (.bool) (.unit))))) (.unit))), .sl (.cons (.int .i64) (.cons (.int .i64) (.cons (.sl (.int .i64)) (.cons (.sl (.cons (.int .i64) (.cons (.int .i64) (.cons (.bool) (.cons (.str) (.unit)))))) (.cons (.bool) (.cons (.sl (.sl (.int .i64))) (.unit))))))), .sl (.cons (.int .i64) (.cons (.int .i64) (.cons (.sl (.cons (.int .i64) (.cons (.int .i64) (.cons (.str) (.unit))))) (.unit)))), .sl (.cons (.int .i64) (.cons (.str) (.cons (.bool) (.unit)))), .bool]) rfl a0_⟩, trivial⟩ (FnExactJudgeKept_true b0)).mono fun e W' ⟨he, bel⟩ => ?_
  subst he
  exact ⟨_, rfl, _, _, _, [], _, [], hW', trodAll_mk1 (shut_bool Tryz.underlying4 _), (trodAll_cons_mk (Below.trod laidOut (by kernel_rfl) (of_decide_eq_true (by kernel_rfl)) k0 bel lt0) trodAll_mk0), rfl, bel.frame _, fun h => by cases h⟩
theorem over : Rows.fnExactJudgeKeptRow.holds Tryz.pinned (OpenSpec.ofChange Rows.fnExactJudgeKeptSpec) :=
  OpenClaim.holds_of_wide 7 Tryz.f7 rfl rfl rfl rfl rfl rfl rfl ⟨rfl, rfl, rfl, rfl, rfl⟩ rfl rfl rfl rfl rfl (by kernel_rfl) Tryz.func7 (by kernel_rfl)
    (of_decide_eq_true (by kernel_rfl)) (by unfold Func.isWrapper; first | (rw [if_pos (by decide +kernel)]; kernel_rfl) | (rw [if_neg (by decide +kernel)]; exact ⟨rfl, rfl⟩))
    (fun os started H enc _ => lifted os started H enc)
end fnExactJudgeKept
/-- The row, under a short name, for the claim. -/
theorem fnExactJudgeKept_holds : Rows.FnExactJudgeKeptSaid := fnExactJudgeKept.over
end Go.Proofs.YtekamaodealggaaGreat
#print axioms Go.Proofs.YtekamaodealggaaGreat.fnExactJudgeKept_holds
