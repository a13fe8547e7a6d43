/- What each function computes, printed by a program out of the translation; what is printed is checked in the equations. -/
import Derived.Test.YtekamaodealggabGreatG0
set_option linter.unusedVariables false
set_option linter.unusedSimpArgs false
namespace Go.M
noncomputable section
/-- impl.JudgeSame -/
abbrev V_impl_JudgeSame : Type := (Bool × Unit) × Unit
def impl_JudgeSame_step4 (R4 : (List (Int × Int × List (Int × Int × List UInt8 × Unit) × Unit)) → Int → Int → List Int → Int → (List (List (Int × Int × Bool × List UInt8 × Unit) × List (Int × Int × Bool × List UInt8 × Unit) × Int × Unit)) → List Int → (List (List Int × Bool × Int × Unit)) → Int → (List (Int × List (List UInt8 × List Int × Bool × Unit) × Unit)) → (List (Int × Int × List Int × List (Int × Int × Bool × List UInt8 × Unit) × Bool × List (List Int) × Unit)) → (List (Int × Int × List (Int × Int × List UInt8 × Unit) × Unit)) → (List (Int × List UInt8 × Bool × Unit)) → Bool → Option V_impl_JudgeSame) (R7 : (List (Int × Int × List (Int × Int × List UInt8 × Unit) × Unit)) → Int → Int → (List (Int × Int × List UInt8 × Unit)) → Int → Int → List Int → Int → (List (List (Int × Int × Bool × List UInt8 × Unit) × List (Int × Int × Bool × List UInt8 × Unit) × Int × Unit)) → List Int → (List (List Int × Bool × Int × Unit)) → Int → (List (Int × List (List UInt8 × List Int × Bool × Unit) × Unit)) → (List (Int × Int × List Int × List (Int × Int × Bool × List UInt8 × Unit) × Bool × List (List Int) × Unit)) → (List (Int × Int × List (Int × Int × List UInt8 × Unit) × Unit)) → (List (Int × List UInt8 × Bool × Unit)) → Bool → Option V_impl_JudgeSame) (t22 : List (Int × Int × List (Int × Int × List UInt8 × Unit) × Unit)) (t23 : Int) (t24 : Int) (b0_0 : List Int) (b0_1 : Int) (b0_2 : List (List (Int × Int × Bool × List UInt8 × Unit) × List (Int × Int × Bool × List UInt8 × Unit) × Int × Unit)) (b0_3 : List Int) (b0_4 : List (List Int × Bool × Int × Unit)) (b0_5 : Int) (b0_6 : List (Int × List (List UInt8 × List Int × Bool × Unit) × Unit)) (b0_7 : List (Int × Int × List Int × List (Int × Int × Bool × List UInt8 × Unit) × Bool × List (List Int) × Unit)) (b0_8 : List (Int × Int × List (Int × Int × List UInt8 × Unit) × Unit)) (b0_9 : List (Int × List UInt8 × Bool × Unit)) (b0_10 : Bool) : Option V_impl_JudgeSame :=
  cond (decide (t24 < t23))
    (if (0 : Int) ≤ t24 ∧ t24 < (t22.length : Int) then (
    R7 t22 t23 t24 ((t22.getD (t24.toNat) (0, 0, [], ())).2.2.1) (((t22.getD (t24.toNat) (0, 0, [], ())).2.2.1).length : Int) 0 b0_0 b0_1 b0_2 b0_3 b0_4 b0_5 b0_6 b0_7 b0_8 b0_9 b0_10) else none)
  (some ((true, ()), ()))
def impl_JudgeSame_step7 (R4 : (List (Int × Int × List (Int × Int × List UInt8 × Unit) × Unit)) → Int → Int → List Int → Int → (List (List (Int × Int × Bool × List UInt8 × Unit) × List (Int × Int × Bool × List UInt8 × Unit) × Int × Unit)) → List Int → (List (List Int × Bool × Int × Unit)) → Int → (List (Int × List (List UInt8 × List Int × Bool × Unit) × Unit)) → (List (Int × Int × List Int × List (Int × Int × Bool × List UInt8 × Unit) × Bool × List (List Int) × Unit)) → (List (Int × Int × List (Int × Int × List UInt8 × Unit) × Unit)) → (List (Int × List UInt8 × Bool × Unit)) → Bool → Option V_impl_JudgeSame) (R7 : (List (Int × Int × List (Int × Int × List UInt8 × Unit) × Unit)) → Int → Int → (List (Int × Int × List UInt8 × Unit)) → Int → Int → List Int → Int → (List (List (Int × Int × Bool × List UInt8 × Unit) × List (Int × Int × Bool × List UInt8 × Unit) × Int × Unit)) → List Int → (List (List Int × Bool × Int × Unit)) → Int → (List (Int × List (List UInt8 × List Int × Bool × Unit) × Unit)) → (List (Int × Int × List Int × List (Int × Int × Bool × List UInt8 × Unit) × Bool × List (List Int) × Unit)) → (List (Int × Int × List (Int × Int × List UInt8 × Unit) × Unit)) → (List (Int × List UInt8 × Bool × Unit)) → Bool → Option V_impl_JudgeSame) (t22 : List (Int × Int × List (Int × Int × List UInt8 × Unit) × Unit)) (t23 : Int) (t24 : Int) (t29 : List (Int × Int × List UInt8 × Unit)) (t30 : Int) (t31 : Int) (b0_0 : List Int) (b0_1 : Int) (b0_2 : List (List (Int × Int × Bool × List UInt8 × Unit) × List (Int × Int × Bool × List UInt8 × Unit) × Int × Unit)) (b0_3 : List Int) (b0_4 : List (List Int × Bool × Int × Unit)) (b0_5 : Int) (b0_6 : List (Int × List (List UInt8 × List Int × Bool × Unit) × Unit)) (b0_7 : List (Int × Int × List Int × List (Int × Int × Bool × List UInt8 × Unit) × Bool × List (List Int) × Unit)) (b0_8 : List (Int × Int × List (Int × Int × List UInt8 × Unit) × Unit)) (b0_9 : List (Int × List UInt8 × Bool × Unit)) (b0_10 : Bool) : Option V_impl_JudgeSame :=
  cond (decide (t31 < t30))
    (if (0 : Int) ≤ t31 ∧ t31 < (t29.length : Int) then (
    (impl_PlaceOk ((t29.getD (t31.toNat) (0, 0, [], ())).2.1)).bind fun u8 =>
    cond (u8.1.1)
      (if (0 : Int) ≤ (0 : Int) ∧ (0 : Int) < (b0_8.length : Int) then (
      (impl_isAhead ((t29.getD (t31.toNat) (0, 0, [], ())).2.1) ((b0_8.getD 0 (0, 0, [], ())).1, (b0_8.getD 0 (0, 0, [], ())).2.1, (b0_8.getD 0 (0, 0, [], ())).2.2.1, ())).bind fun u10 =>
      cond (u10.1.1)
        (if (0 : Int) ≤ (1 : Int) ∧ (1 : Int) < (b0_8.length : Int) then (
        (impl_isAhead ((t29.getD (t31.toNat) (0, 0, [], ())).2.1) ((b0_8.getD 1 (0, 0, [], ())).1, (b0_8.getD 1 (0, 0, [], ())).2.1, (b0_8.getD 1 (0, 0, [], ())).2.2.1, ())).bind fun u12 =>
        cond (((t29.getD (t31.toNat) (0, 0, [], ())).1) != 1)
          (R7 t22 t23 t24 t29 t30 (w64 (t31 + 1)) b0_0 b0_1 b0_2 b0_3 b0_4 b0_5 b0_6 b0_7 b0_8 b0_9 b0_10)
        (cond (decide (((t29.getD (t31.toNat) (0, 0, [], ())).2.1) ≤ b0_5))
          (R7 t22 t23 t24 t29 t30 (w64 (t31 + 1)) b0_0 b0_1 b0_2 b0_3 b0_4 b0_5 b0_6 b0_7 b0_8 b0_9 b0_10)
        (cond (!u12.1.1)
          (R7 t22 t23 t24 t29 t30 (w64 (t31 + 1)) b0_0 b0_1 b0_2 b0_3 b0_4 b0_5 b0_6 b0_7 b0_8 b0_9 b0_10)
        (if (0 : Int) ≤ (0 : Int) ∧ (0 : Int) < (b0_8.length : Int) then (
        (impl_told ((b0_8.getD 0 (0, 0, [], ())).1, (b0_8.getD 0 (0, 0, [], ())).2.1, (b0_8.getD 0 (0, 0, [], ())).2.2.1, ()) ((t29.getD (t31.toNat) (0, 0, [], ())).2.1)).bind fun u16 =>
        if (0 : Int) ≤ (1 : Int) ∧ (1 : Int) < (b0_8.length : Int) then (
        (impl_told ((b0_8.getD 1 (0, 0, [], ())).1, (b0_8.getD 1 (0, 0, [], ())).2.1, (b0_8.getD 1 (0, 0, [], ())).2.2.1, ()) ((t29.getD (t31.toNat) (0, 0, [], ())).2.1)).bind fun u18 =>
        cond ((u16.1.1.2.1 != u18.1.1.2.1))
          (some ((false, ()), ()))
        (cond ((!(u16.1.1.1 == u18.1.1.1)))
          (some ((false, ()), ()))
        (R7 t22 t23 t24 t29 t30 (w64 (t31 + 1)) b0_0 b0_1 b0_2 b0_3 b0_4 b0_5 b0_6 b0_7 b0_8 b0_9 b0_10))) else none) else none)))) else none)
      (cond (((t29.getD (t31.toNat) (0, 0, [], ())).1) != 1)
        (R7 t22 t23 t24 t29 t30 (w64 (t31 + 1)) b0_0 b0_1 b0_2 b0_3 b0_4 b0_5 b0_6 b0_7 b0_8 b0_9 b0_10)
      (cond (decide (((t29.getD (t31.toNat) (0, 0, [], ())).2.1) ≤ b0_5))
        (R7 t22 t23 t24 t29 t30 (w64 (t31 + 1)) b0_0 b0_1 b0_2 b0_3 b0_4 b0_5 b0_6 b0_7 b0_8 b0_9 b0_10)
      (R7 t22 t23 t24 t29 t30 (w64 (t31 + 1)) b0_0 b0_1 b0_2 b0_3 b0_4 b0_5 b0_6 b0_7 b0_8 b0_9 b0_10)))) else none)
    (cond (((t29.getD (t31.toNat) (0, 0, [], ())).1) != 1)
      (R7 t22 t23 t24 t29 t30 (w64 (t31 + 1)) b0_0 b0_1 b0_2 b0_3 b0_4 b0_5 b0_6 b0_7 b0_8 b0_9 b0_10)
    (cond (decide (((t29.getD (t31.toNat) (0, 0, [], ())).2.1) ≤ b0_5))
      (R7 t22 t23 t24 t29 t30 (w64 (t31 + 1)) b0_0 b0_1 b0_2 b0_3 b0_4 b0_5 b0_6 b0_7 b0_8 b0_9 b0_10)
    (R7 t22 t23 t24 t29 t30 (w64 (t31 + 1)) b0_0 b0_1 b0_2 b0_3 b0_4 b0_5 b0_6 b0_7 b0_8 b0_9 b0_10)))) else none)
  (R4 t22 t23 (w64 (t24 + 1)) b0_0 b0_1 b0_2 b0_3 b0_4 b0_5 b0_6 b0_7 b0_8 b0_9 b0_10)
mutual
def impl_JudgeSame_L4 : Nat → (List (Int × Int × List (Int × Int × List UInt8 × Unit) × Unit)) → Int → Int → List Int → Int → (List (List (Int × Int × Bool × List UInt8 × Unit) × List (Int × Int × Bool × List UInt8 × Unit) × Int × Unit)) → List Int → (List (List Int × Bool × Int × Unit)) → Int → (List (Int × List (List UInt8 × List Int × Bool × Unit) × Unit)) → (List (Int × Int × List Int × List (Int × Int × Bool × List UInt8 × Unit) × Bool × List (List Int) × Unit)) → (List (Int × Int × List (Int × Int × List UInt8 × Unit) × Unit)) → (List (Int × List UInt8 × Bool × Unit)) → Bool → Option V_impl_JudgeSame
  | 0, _, _, _, _, _, _, _, _, _, _, _, _, _, _ => none
  | n + 1, a0, a1, a2, a3, a4, a5, a6, a7, a8, a9, a10, a11, a12, a13 => impl_JudgeSame_step4 (impl_JudgeSame_L4 n) (impl_JudgeSame_L7 n) a0 a1 a2 a3 a4 a5 a6 a7 a8 a9 a10 a11 a12 a13
def impl_JudgeSame_L7 : Nat → (List (Int × Int × List (Int × Int × List UInt8 × Unit) × Unit)) → Int → Int → (List (Int × Int × List UInt8 × Unit)) → Int → Int → List Int → Int → (List (List (Int × Int × Bool × List UInt8 × Unit) × List (Int × Int × Bool × List UInt8 × Unit) × Int × Unit)) → List Int → (List (List Int × Bool × Int × Unit)) → Int → (List (Int × List (List UInt8 × List Int × Bool × Unit) × Unit)) → (List (Int × Int × List Int × List (Int × Int × Bool × List UInt8 × Unit) × Bool × List (List Int) × Unit)) → (List (Int × Int × List (Int × Int × List UInt8 × Unit) × Unit)) → (List (Int × List UInt8 × Bool × Unit)) → Bool → Option V_impl_JudgeSame
  | 0, _, _, _, _, _, _, _, _, _, _, _, _, _, _, _, _, _ => none
  | n + 1, a0, a1, a2, a3, a4, a5, a6, a7, a8, a9, a10, a11, a12, a13, a14, a15, a16 => impl_JudgeSame_step7 (impl_JudgeSame_L4 n) (impl_JudgeSame_L7 n) a0 a1 a2 a3 a4 a5 a6 a7 a8 a9 a10 a11 a12 a13 a14 a15 a16
end
def impl_JudgeSame_entry (R4 : (List (Int × Int × List (Int × Int × List UInt8 × Unit) × Unit)) → Int → Int → List Int → Int → (List (List (Int × Int × Bool × List UInt8 × Unit) × List (Int × Int × Bool × List UInt8 × Unit) × Int × Unit)) → List Int → (List (List Int × Bool × Int × Unit)) → Int → (List (Int × List (List UInt8 × List Int × Bool × Unit) × Unit)) → (List (Int × Int × List Int × List (Int × Int × Bool × List UInt8 × Unit) × Bool × List (List Int) × Unit)) → (List (Int × Int × List (Int × Int × List UInt8 × Unit) × Unit)) → (List (Int × List UInt8 × Bool × Unit)) → Bool → Option V_impl_JudgeSame) (R7 : (List (Int × Int × List (Int × Int × List UInt8 × Unit) × Unit)) → Int → Int → (List (Int × Int × List UInt8 × Unit)) → Int → Int → List Int → Int → (List (List (Int × Int × Bool × List UInt8 × Unit) × List (Int × Int × Bool × List UInt8 × Unit) × Int × Unit)) → List Int → (List (List Int × Bool × Int × Unit)) → Int → (List (Int × List (List UInt8 × List Int × Bool × Unit) × Unit)) → (List (Int × Int × List Int × List (Int × Int × Bool × List UInt8 × Unit) × Bool × List (List Int) × Unit)) → (List (Int × Int × List (Int × Int × List UInt8 × Unit) × Unit)) → (List (Int × List UInt8 × Bool × Unit)) → Bool → Option V_impl_JudgeSame) (p0 : List Int × Int × List (List (Int × Int × Bool × List UInt8 × Unit) × List (Int × Int × Bool × List UInt8 × Unit) × Int × Unit) × List Int × List (List Int × Bool × Int × Unit) × Int × List (Int × List (List UInt8 × List Int × Bool × Unit) × Unit) × List (Int × Int × List Int × List (Int × Int × Bool × List UInt8 × Unit) × Bool × List (List Int) × Unit) × List (Int × Int × List (Int × Int × List UInt8 × Unit) × Unit) × List (Int × List UInt8 × Bool × Unit) × Bool × Unit) : Option V_impl_JudgeSame :=
  (impl_WorldOk (p0.1, p0.2.1, p0.2.2.1, p0.2.2.2.1, p0.2.2.2.2.1, p0.2.2.2.2.2.1, p0.2.2.2.2.2.2.1, p0.2.2.2.2.2.2.2.1, p0.2.2.2.2.2.2.2.2.1, p0.2.2.2.2.2.2.2.2.2.1, p0.2.2.2.2.2.2.2.2.2.2.1, ())).bind fun u1 =>
  cond (!u1.1.1)
    ((impl_WorldOk (p0.1, p0.2.1, p0.2.2.1, p0.2.2.2.1, p0.2.2.2.2.1, p0.2.2.2.2.2.1, p0.2.2.2.2.2.2.1, p0.2.2.2.2.2.2.2.1, p0.2.2.2.2.2.2.2.2.1, p0.2.2.2.2.2.2.2.2.2.1, p0.2.2.2.2.2.2.2.2.2.2.1, ())).bind fun u2 =>
    some ((u2.1.1, ()), ()))
  (cond (p0.2.2.2.2.2.2.2.2.2.2.1)
    ((impl_WorldOk (p0.1, p0.2.1, p0.2.2.1, p0.2.2.2.1, p0.2.2.2.2.1, p0.2.2.2.2.2.1, p0.2.2.2.2.2.2.1, p0.2.2.2.2.2.2.2.1, p0.2.2.2.2.2.2.2.2.1, p0.2.2.2.2.2.2.2.2.2.1, p0.2.2.2.2.2.2.2.2.2.2.1, ())).bind fun u4 =>
    some ((u4.1.1, ()), ()))
  (R4 p0.2.2.2.2.2.2.2.2.1 (p0.2.2.2.2.2.2.2.2.1.length : Int) 0 p0.1 p0.2.1 p0.2.2.1 p0.2.2.2.1 p0.2.2.2.2.1 p0.2.2.2.2.2.1 p0.2.2.2.2.2.2.1 p0.2.2.2.2.2.2.2.1 p0.2.2.2.2.2.2.2.2.1 p0.2.2.2.2.2.2.2.2.2.1 p0.2.2.2.2.2.2.2.2.2.2.1))
def impl_JudgeSame (p0 : List Int × Int × List (List (Int × Int × Bool × List UInt8 × Unit) × List (Int × Int × Bool × List UInt8 × Unit) × Int × Unit) × List Int × List (List Int × Bool × Int × Unit) × Int × List (Int × List (List UInt8 × List Int × Bool × Unit) × Unit) × List (Int × Int × List Int × List (Int × Int × Bool × List UInt8 × Unit) × Bool × List (List Int) × Unit) × List (Int × Int × List (Int × Int × List UInt8 × Unit) × Unit) × List (Int × List UInt8 × Bool × Unit) × Bool × Unit) : Option V_impl_JudgeSame := impl_JudgeSame_entry (impl_JudgeSame_L4 FUEL) (impl_JudgeSame_L7 FUEL) p0

/-- spec.JudgeAll -/
abbrev V_spec_JudgeAll : Type := (Bool × Unit) × Unit
def spec_JudgeAll (p0 : List Int × Int × List (List (Int × Int × Bool × List UInt8 × Unit) × List (Int × Int × Bool × List UInt8 × Unit) × Int × Unit) × List Int × List (List Int × Bool × Int × Unit) × Int × List (Int × List (List UInt8 × List Int × Bool × Unit) × Unit) × List (Int × Int × List Int × List (Int × Int × Bool × List UInt8 × Unit) × Bool × List (List Int) × Unit) × List (Int × Int × List (Int × Int × List UInt8 × Unit) × Unit) × List (Int × List UInt8 × Bool × Unit) × Bool × Unit) : Option V_spec_JudgeAll :=
  (spec_JudgeOrder (p0.1, p0.2.1, p0.2.2.1, p0.2.2.2.1, p0.2.2.2.2.1, p0.2.2.2.2.2.1, p0.2.2.2.2.2.2.1, p0.2.2.2.2.2.2.2.1, p0.2.2.2.2.2.2.2.2.1, p0.2.2.2.2.2.2.2.2.2.1, p0.2.2.2.2.2.2.2.2.2.2.1, ())).bind fun u1 =>
  cond (u1.1.1)
    ((spec_JudgeTrue (p0.1, p0.2.1, p0.2.2.1, p0.2.2.2.1, p0.2.2.2.2.1, p0.2.2.2.2.2.1, p0.2.2.2.2.2.2.1, p0.2.2.2.2.2.2.2.1, p0.2.2.2.2.2.2.2.2.1, p0.2.2.2.2.2.2.2.2.2.1, p0.2.2.2.2.2.2.2.2.2.2.1, ())).bind fun u2 =>
    cond (u2.1.1)
      ((spec_JudgeKept (p0.1, p0.2.1, p0.2.2.1, p0.2.2.2.1, p0.2.2.2.2.1, p0.2.2.2.2.2.1, p0.2.2.2.2.2.2.1, p0.2.2.2.2.2.2.2.1, p0.2.2.2.2.2.2.2.2.1, p0.2.2.2.2.2.2.2.2.2.1, p0.2.2.2.2.2.2.2.2.2.2.1, ())).bind fun u3 =>
      cond (u3.1.1)
        ((spec_JudgeWhole (p0.1, p0.2.1, p0.2.2.1, p0.2.2.2.1, p0.2.2.2.2.1, p0.2.2.2.2.2.1, p0.2.2.2.2.2.2.1, p0.2.2.2.2.2.2.2.1, p0.2.2.2.2.2.2.2.2.1, p0.2.2.2.2.2.2.2.2.2.1, p0.2.2.2.2.2.2.2.2.2.2.1, ())).bind fun u4 =>
        cond (u4.1.1)
          ((spec_JudgeSame (p0.1, p0.2.1, p0.2.2.1, p0.2.2.2.1, p0.2.2.2.2.1, p0.2.2.2.2.2.1, p0.2.2.2.2.2.2.1, p0.2.2.2.2.2.2.2.1, p0.2.2.2.2.2.2.2.2.1, p0.2.2.2.2.2.2.2.2.2.1, p0.2.2.2.2.2.2.2.2.2.2.1, ())).bind fun u5 =>
          some ((u5.1.1, ()), ()))
        (some ((false, ()), ())))
      (some ((false, ()), ())))
    (some ((false, ()), ())))
  (some ((false, ()), ()))

/-- impl.JudgeAll -/
abbrev V_impl_JudgeAll : Type := (Bool × Unit) × Unit
def impl_JudgeAll (p0 : List Int × Int × List (List (Int × Int × Bool × List UInt8 × Unit) × List (Int × Int × Bool × List UInt8 × Unit) × Int × Unit) × List Int × List (List Int × Bool × Int × Unit) × Int × List (Int × List (List UInt8 × List Int × Bool × Unit) × Unit) × List (Int × Int × List Int × List (Int × Int × Bool × List UInt8 × Unit) × Bool × List (List Int) × Unit) × List (Int × Int × List (Int × Int × List UInt8 × Unit) × Unit) × List (Int × List UInt8 × Bool × Unit) × Bool × Unit) : Option V_impl_JudgeAll :=
  (impl_JudgeOrder (p0.1, p0.2.1, p0.2.2.1, p0.2.2.2.1, p0.2.2.2.2.1, p0.2.2.2.2.2.1, p0.2.2.2.2.2.2.1, p0.2.2.2.2.2.2.2.1, p0.2.2.2.2.2.2.2.2.1, p0.2.2.2.2.2.2.2.2.2.1, p0.2.2.2.2.2.2.2.2.2.2.1, ())).bind fun u1 =>
  cond (u1.1.1)
    ((impl_JudgeTrue (p0.1, p0.2.1, p0.2.2.1, p0.2.2.2.1, p0.2.2.2.2.1, p0.2.2.2.2.2.1, p0.2.2.2.2.2.2.1, p0.2.2.2.2.2.2.2.1, p0.2.2.2.2.2.2.2.2.1, p0.2.2.2.2.2.2.2.2.2.1, p0.2.2.2.2.2.2.2.2.2.2.1, ())).bind fun u2 =>
    cond (u2.1.1)
      ((impl_JudgeKept (p0.1, p0.2.1, p0.2.2.1, p0.2.2.2.1, p0.2.2.2.2.1, p0.2.2.2.2.2.1, p0.2.2.2.2.2.2.1, p0.2.2.2.2.2.2.2.1, p0.2.2.2.2.2.2.2.2.1, p0.2.2.2.2.2.2.2.2.2.1, p0.2.2.2.2.2.2.2.2.2.2.1, ())).bind fun u3 =>
      cond (u3.1.1)
        ((impl_JudgeWhole (p0.1, p0.2.1, p0.2.2.1, p0.2.2.2.1, p0.2.2.2.2.1, p0.2.2.2.2.2.1, p0.2.2.2.2.2.2.1, p0.2.2.2.2.2.2.2.1, p0.2.2.2.2.2.2.2.2.1, p0.2.2.2.2.2.2.2.2.2.1, p0.2.2.2.2.2.2.2.2.2.2.1, ())).bind fun u4 =>
        cond (u4.1.1)
          ((impl_JudgeSame (p0.1, p0.2.1, p0.2.2.1, p0.2.2.2.1, p0.2.2.2.2.1, p0.2.2.2.2.2.1, p0.2.2.2.2.2.2.1, p0.2.2.2.2.2.2.2.1, p0.2.2.2.2.2.2.2.2.1, p0.2.2.2.2.2.2.2.2.2.1, p0.2.2.2.2.2.2.2.2.2.2.1, ())).bind fun u5 =>
          some ((u5.1.1, ()), ()))
        (some ((false, ()), ())))
      (some ((false, ()), ())))
    (some ((false, ()), ())))
  (some ((false, ()), ()))

/-- laws.FnExactJudgeAll -/
abbrev V_laws_FnExactJudgeAll : Type := (Bool × Unit) × Unit
def laws_FnExactJudgeAll (p0 : List Int × Int × List (List (Int × Int × Bool × List UInt8 × Unit) × List (Int × Int × Bool × List UInt8 × Unit) × Int × Unit) × List Int × List (List Int × Bool × Int × Unit) × Int × List (Int × List (List UInt8 × List Int × Bool × Unit) × Unit) × List (Int × Int × List Int × List (Int × Int × Bool × List UInt8 × Unit) × Bool × List (List Int) × Unit) × List (Int × Int × List (Int × Int × List UInt8 × Unit) × Unit) × List (Int × List UInt8 × Bool × Unit) × Bool × Unit) : Option V_laws_FnExactJudgeAll :=
  (laws_szWorld (p0.1, p0.2.1, p0.2.2.1, p0.2.2.2.1, p0.2.2.2.2.1, p0.2.2.2.2.2.1, p0.2.2.2.2.2.2.1, p0.2.2.2.2.2.2.2.1, p0.2.2.2.2.2.2.2.2.1, p0.2.2.2.2.2.2.2.2.2.1, p0.2.2.2.2.2.2.2.2.2.2.1, ()) 1048576).bind fun u1 =>
  cond (decide (u1.1.1 < 0))
    (some ((true, ()), ()))
  ((laws_toWorld (p0.1, p0.2.1, p0.2.2.1, p0.2.2.2.1, p0.2.2.2.2.1, p0.2.2.2.2.2.1, p0.2.2.2.2.2.2.1, p0.2.2.2.2.2.2.2.1, p0.2.2.2.2.2.2.2.2.1, p0.2.2.2.2.2.2.2.2.2.1, p0.2.2.2.2.2.2.2.2.2.2.1, ())).bind fun u2 =>
  (spec_JudgeAll (u2.2.1, u2.1.1.2.1, u2.2.2.1, u2.2.2.2.1, u2.2.2.2.2.1, u2.1.1.2.2.2.2.2.1, u2.2.2.2.2.2.1, u2.2.2.2.2.2.2.1, u2.2.2.2.2.2.2.2.1, u2.2.2.2.2.2.2.2.2.1, u2.1.1.2.2.2.2.2.2.2.2.2.2.1, ())).bind fun u3 =>
  (laws_toWorld (p0.1, p0.2.1, p0.2.2.1, p0.2.2.2.1, p0.2.2.2.2.1, p0.2.2.2.2.2.1, p0.2.2.2.2.2.2.1, p0.2.2.2.2.2.2.2.1, p0.2.2.2.2.2.2.2.2.1, p0.2.2.2.2.2.2.2.2.2.1, p0.2.2.2.2.2.2.2.2.2.2.1, ())).bind fun u4 =>
  (impl_JudgeAll (u4.2.1, u4.1.1.2.1, u4.2.2.1, u4.2.2.2.1, u4.2.2.2.2.1, u4.1.1.2.2.2.2.2.1, u4.2.2.2.2.2.1, u4.2.2.2.2.2.2.1, u4.2.2.2.2.2.2.2.1, u4.2.2.2.2.2.2.2.2.1, u4.1.1.2.2.2.2.2.2.2.2.2.2.1, ())).bind fun u5 =>
  cond (u5.1.1 != u3.1.1)
    (some ((false, ()), ()))
  ((laws_toWorld (p0.1, p0.2.1, p0.2.2.1, p0.2.2.2.1, p0.2.2.2.2.1, p0.2.2.2.2.2.1, p0.2.2.2.2.2.2.1, p0.2.2.2.2.2.2.2.1, p0.2.2.2.2.2.2.2.2.1, p0.2.2.2.2.2.2.2.2.2.1, p0.2.2.2.2.2.2.2.2.2.2.1, ())).bind fun u6 =>
  (laws_eqWorld (u4.2.1, u4.1.1.2.1, u4.2.2.1, u4.2.2.2.1, u4.2.2.2.2.1, u4.1.1.2.2.2.2.2.1, u4.2.2.2.2.2.1, u4.2.2.2.2.2.2.1, u4.2.2.2.2.2.2.2.1, u4.2.2.2.2.2.2.2.2.1, u4.1.1.2.2.2.2.2.2.2.2.2.2.1, ()) (u6.2.1, u6.1.1.2.1, u6.2.2.1, u6.2.2.2.1, u6.2.2.2.2.1, u6.1.1.2.2.2.2.2.1, u6.2.2.2.2.2.1, u6.2.2.2.2.2.2.1, u6.2.2.2.2.2.2.2.1, u6.2.2.2.2.2.2.2.2.1, u6.1.1.2.2.2.2.2.2.2.2.2.2.1, ())).bind fun u7 =>
  cond (!u7.1.1)
    (some ((false, ()), ()))
  (some ((true, ()), ()))))
end
end Go.M
