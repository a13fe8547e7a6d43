/- FnExactToldBy: for every input the law returns true, and each argument reads behind the call as it read before; no condition. -/
import Derived.Test.YtekamaodealggabGreatRows
import Derived.Test.YtekamaodealggabGreatE0
import Derived.Test.YtekamaodealggabGreatM0
import Derived.WalkKit
import Derived.ProofKit
import Derived.OpenShut
import Derived.ShutString
import Derived.ChangeOld
import Derived.Below
import Derived.SizedLaws
set_option linter.unusedVariables false
set_option linter.unusedSimpArgs false
namespace Go.Proofs.YtekamaodealggabGreat
open Go Go.Fw Go.M Go.ChangeShapes Go.WideShapes Go.ChangeAt Go.RowKit
namespace fnExactToldBy
theorem own : ownKnob Tryz.prog.godebug = none := by kernel_rfl
theorem laidOut : laidOutB Tryz.prog = true := by kernel_rfl
set_option maxRecDepth 100000 in
theorem lifted (os : Os) (started : os.Started) (H : Type) (enc : TypeId × Value → H) :
    ReturnsInHanded {} Tryz.checked os 4 .any (Rows.fnExactToldBySpec.pre6 enc Tryz.prog Tryz.f4 Rows.fnExactToldByRow.domain false) (Rows.fnExactToldBySpec.post enc Tryz.prog Tryz.f4 false true false false) := by
  refine returnsInHanded_of_change_sized (C := Tryz.checked) own started (by kernel_rfl) Tryz.func4
    (ChangeSpec.witness6 (enc := enc) (C := Tryz.checked) false ⟨#[], #[.agg #[.slice none 0 0, .int .i64 0, .slice none 0 0, .slice none 0 0, .slice none 0 0, .int .i64 0, .slice none 0 0, .slice none 0 0, .slice none 0 0, .slice none 0 0, .bool false], .int .i64 0], []⟩ 8 (by kernel_rfl) (by kernel_rfl) (by kernel_rfl) (by kernel_rfl)) ?_
  intro W base args ds gs before hval0 hW hcnd hsz0 _
  have hval : ∀ (j : Nat) t v, Tryz.f4.params[j]? = some t → args[j]? = some v → Value.okWide Tryz.prog W .any base t v := hval0
  have hW' := hW
  obtain ⟨p, q, hA0, hV, rfl, hfz, hnd⟩ := hW
  have hA : DataW.TrodAll enc Tryz.prog W 0 (fun _ => true) true Tryz.f4.params.toList args.toList ds p := hA0
  rw [Tryz.params4] at hA hval
  obtain ⟨v0, vs0, d0, ds0, p0, q0, hargs, rfl, rfl, h0, r0⟩ := trodAll_cons hA
  obtain ⟨v1, vs1, d1, ds1, p1, q1, rfl, rfl, rfl, h1, r1⟩ := trodAll_cons r0
  obtain ⟨rfl, rfl, rfl⟩ := trodAll_nil r1
  obtain rfl : args = #[v0, v1] := by cases args; simp_all
  obtain ⟨rfl, rfl⟩ := trodVars_none hV
  have k0 := h0
  have lt0 : ∀ x ∈ p0, x.block < W.heap.size := by obtain ⟨m, hm⟩ := k0; exact DataW.trod_lt m _ _ _ hm
  obtain ⟨c0, rfl, hc0⟩ := okWide_struct Tryz.underlying34 (hval 0 34 v0 rfl rfl)
  obtain ⟨m0, hm0⟩ := h0
  obtain ⟨y0, a0_, b0⟩ := trod_rd 8 (P := Tryz.prog) (t := 34) (q := ([.sl (.int .i64), .int .i64, .sl (.cons (.sl (.cons (.int .i64) (.cons (.int .i64) (.cons (.bool) (.cons (.str) (.unit)))))) (.cons (.sl (.cons (.int .i64) (.cons (.int .i64) (.cons (.bool) (.cons (.str) (.unit)))))) (.cons (.int .i64) (.unit)))), .sl (.int .i64), .sl (.cons (.sl (.int .i64)) (.cons (.bool) (.cons (.int .i64) (.unit)))), .int .i64, .sl (.cons (.int .i64) (.cons (.sl (.cons (.str) (.cons (.sl (.int .i64)) (.cons (.bool) (.unit))))) (.unit))), .sl (.cons (.int .i64) (.cons (.int .i64) (.cons (.sl (.int .i64)) (.cons (.sl (.cons (.int .i64) (.cons (.int .i64) (.cons (.bool) (.cons (.str) (.unit)))))) (.cons (.bool) (.cons (.sl (.sl (.int .i64))) (.unit))))))), .sl (.cons (.int .i64) (.cons (.int .i64) (.cons (.sl (.cons (.int .i64) (.cons (.int .i64) (.cons (.str) (.unit))))) (.unit)))), .sl (.cons (.int .i64) (.cons (.str) (.cons (.bool) (.unit)))), .bool], true)) (by kernel_rfl) hm0
  have k1 := h1
  have lt1 : ∀ x ∈ p1, x.block < W.heap.size := by obtain ⟨m, hm⟩ := k1; exact DataW.trod_lt m _ _ _ hm
  obtain ⟨c1, rfl⟩ := okWide_int Tryz.underlying3 (hval 1 3 v1 rfl rfl)
  obtain ⟨m1, hm1⟩ := h1
  obtain ⟨y1, a1_, b1⟩ := trod_rd 8 (P := Tryz.prog) (t := 3) (q := ([.int .i64], false)) (by kernel_rfl) hm1
  obtain ⟨w1, _, e1, a1, _⟩ := a1_
  cases e1
  clear hA0 hval0 hsz0
  refine (law_calls (slots := Wk.i4.slots) Wk.s4 (y0, y1.1, ()) rfl ⟨⟨_, rfl, slot_row (l := [.sl (.int .i64), .int .i64, .sl (.cons (.sl (.cons (.int .i64) (.cons (.int .i64) (.cons (.bool) (.cons (.str) (.unit)))))) (.cons (.sl (.cons (.int .i64) (.cons (.int .i64) (.cons (.bool) (.cons (.str) (.unit)))))) (.cons (.int .i64) (.unit)))), .sl (.int .i64), .sl (.cons (.sl (.int .i64)) (.cons (.bool) (.cons (.int .i64) (.unit)))), .int .i64, .sl (.cons (.int .i64) (.cons (.sl (.cons (.str) (.cons (.sl (.int .i64)) (.cons (.bool) (.unit))))) (.unit))), .sl (.cons (.int .i64) (.cons (.int .i64) (.cons (.sl (.int .i64)) (.cons (.sl (.cons (.int .i64) (.cons (.int .i64) (.cons (.bool) (.cons (.str) (.unit)))))) (.cons (.bool) (.cons (.sl (.sl (.int .i64))) (.unit))))))), .sl (.cons (.int .i64) (.cons (.int .i64) (.cons (.sl (.cons (.int .i64) (.cons (.int .i64) (.cons (.str) (.unit))))) (.unit)))), .sl (.cons (.int .i64) (.cons (.str) (.cons (.bool) (.unit)))), .bool]) rfl a0_⟩, ⟨_, rfl, slot_v rfl a1⟩, trivial⟩ (FnExactToldBy_true b0 b1.1)).mono fun e W' ⟨he, bel⟩ => ?_
  subst he
  exact ⟨_, rfl, _, _, _, [], _, [], hW', trodAll_mk1 (shut_bool Tryz.underlying4 _), (trodAll_cons_mk (Below.trod laidOut (by kernel_rfl) (of_decide_eq_true (by kernel_rfl)) k0 bel lt0) (trodAll_cons_mk (Below.trod laidOut (by kernel_rfl) (of_decide_eq_true (by kernel_rfl)) k1 bel lt1) trodAll_mk0)), rfl, bel.frame _, fun h => by cases h⟩
theorem over : Rows.fnExactToldByRow.holds Tryz.pinned (OpenSpec.ofChange Rows.fnExactToldBySpec) :=
  OpenClaim.holds_of_wide 4 Tryz.f4 rfl rfl rfl rfl rfl rfl rfl ⟨rfl, rfl, rfl, rfl, rfl⟩ rfl rfl rfl rfl rfl (by kernel_rfl) Tryz.func4 (by kernel_rfl)
    (of_decide_eq_true (by kernel_rfl)) (by unfold Func.isWrapper; first | (rw [if_pos (by decide +kernel)]; kernel_rfl) | (rw [if_neg (by decide +kernel)]; exact ⟨rfl, rfl⟩))
    (fun os started H enc _ => lifted os started H enc)
end fnExactToldBy
/-- The row, under a short name, for the claim. -/
theorem fnExactToldBy_holds : Rows.FnExactToldBySaid := fnExactToldBy.over
end Go.Proofs.YtekamaodealggabGreat
#print axioms Go.Proofs.YtekamaodealggabGreat.fnExactToldBy_holds
