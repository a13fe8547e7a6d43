/- What each function computes, printed by a program out of the translation; what is printed is checked in the equations. -/
import Derived.Test.YtobkjajoopkgkaaF2
set_option linter.unusedVariables false
set_option linter.unusedSimpArgs false
namespace Go.M
noncomputable section
/-- spec.l1In -/
abbrev V_spec_l1In : Type := (Bool × Unit) × Unit
def spec_l1In (p0 : Int) (p1 : Int) (p2 : Int) : Option V_spec_l1In :=
  cond (decide (p0 ≥ p1))
    (some ((decide (p0 ≤ p2), ()), ()))
  (some ((false, ()), ()))

/-- spec.ConfigOk -/
abbrev V_spec_ConfigOk : Type := (Bool × Unit) × Unit
def spec_ConfigOk_step4 (R4 : Int → List Int → Int → Option V_spec_ConfigOk) (t3 : Int) (b0_0 : List Int) (b0_1 : Int) : Option V_spec_ConfigOk :=
  cond ((decide (t3 < (b0_0.length : Int))))
    (if (0 : Int) ≤ t3 ∧ t3 < (b0_0.length : Int) then (
    (spec_l1In (b0_0.getD (t3.toNat) 0) 0 7).bind fun u5 =>
    cond (!u5.1.1)
      (some ((false, ()), ()))
    (R4 (w64 (t3 + 1)) b0_0 b0_1)) else none)
  (some ((true, ()), ()))
def spec_ConfigOk_L4 : Nat → Int → List Int → Int → Option V_spec_ConfigOk
  | 0, _, _, _ => none
  | n + 1, a0, a1, a2 => spec_ConfigOk_step4 (spec_ConfigOk_L4 n) a0 a1 a2
def spec_ConfigOk_entry (R4 : Int → List Int → Int → Option V_spec_ConfigOk) (p0 : List Int × Int × Unit) : Option V_spec_ConfigOk :=
  (spec_l1In (p0.1.length : Int) 1 8).bind fun u1 =>
  cond (!u1.1.1)
    (some ((false, ()), ()))
  ((spec_l1In p0.2.1 1 4).bind fun u2 =>
  cond (!u2.1.1)
    (some ((false, ()), ()))
  (R4 0 p0.1 p0.2.1))
def spec_ConfigOk (p0 : List Int × Int × Unit) : Option V_spec_ConfigOk := spec_ConfigOk_entry (spec_ConfigOk_L4 FUEL) p0

/-- spec.PutNum -/
abbrev V_spec_PutNum : Type := (Unit × Unit) × (List Int × Unit)
def spec_PutNum_step4 (R4 : Int → List Int → Option V_spec_PutNum) (t0 : Int) (b0 : List Int) : Option V_spec_PutNum :=
  cond (decide (t0 > 127))
    (if b0.length + 1 ≤ LIM then (
    R4 (w64 (t0.tdiv 128)) (b0 ++ [w8 ((w64 ((t0.tmod 128) + 128)))])) else none)
  (if b0.length + 1 ≤ LIM then (
  some (((), ()), (b0 ++ [w8 (t0)], ()))) else none)
def spec_PutNum_L4 : Nat → Int → List Int → Option V_spec_PutNum
  | 0, _, _ => none
  | n + 1, a0, a1 => spec_PutNum_step4 (spec_PutNum_L4 n) a0 a1
def spec_PutNum_entry (R4 : Int → List Int → Option V_spec_PutNum) (p0 : Int) : Option V_spec_PutNum :=
  cond (decide (p0 < 0))
    (some (((), ()), ([], ())))
  (R4 p0 [])
def spec_PutNum (p0 : Int) : Option V_spec_PutNum := spec_PutNum_entry (spec_PutNum_L4 FUEL) p0

/-- spec.l17List -/
abbrev V_spec_l17List : Type := (Unit × Unit) × (List Int × Unit)
def spec_l17List_step3 (R3 : List Int → Int → List Int → Option V_spec_l17List) (t0 : List Int) (t4 : Int) (b0 : List Int) : Option V_spec_l17List :=
  cond ((decide (t4 < (t0.length : Int))))
    (if (0 : Int) ≤ t4 ∧ t4 < (t0.length : Int) then (
    (spec_PutNum (t0.getD (t4.toNat) 0)).bind fun u4 =>
    if b0.length + u4.2.1.length ≤ LIM then (
    R3 t0 (w64 (t4 + 1)) (b0 ++ u4.2.1)) else none) else none)
  (some (((), ()), (b0, ())))
def spec_l17List_L3 : Nat → List Int → Int → List Int → Option V_spec_l17List
  | 0, _, _, _ => none
  | n + 1, a0, a1, a2 => spec_l17List_step3 (spec_l17List_L3 n) a0 a1 a2
def spec_l17List_entry (R3 : List Int → Int → List Int → Option V_spec_l17List) (p0 : List Int) : Option V_spec_l17List :=
  (spec_PutNum (p0.length : Int)).bind fun u1 =>
  R3 p0 0 u1.2.1
def spec_l17List (p0 : List Int) : Option V_spec_l17List := spec_l17List_entry (spec_l17List_L3 FUEL) p0

/-- impl.within -/
abbrev V_impl_within : Type := (Bool × Unit) × Unit
def impl_within (p0 : Int) (p1 : Int) (p2 : Int) : Option V_impl_within :=
  cond (decide (p0 ≥ p1))
    (some ((decide (p0 ≤ p2), ()), ()))
  (some ((false, ()), ()))

/-- impl.ConfigOk -/
abbrev V_impl_ConfigOk : Type := (Bool × Unit) × Unit
def impl_ConfigOk_step2 (R2 : List Int → Int → Int → List Int → Int → Option V_impl_ConfigOk) (t6 : List Int) (t7 : Int) (t8 : Int) (b0_0 : List Int) (b0_1 : Int) : Option V_impl_ConfigOk :=
  cond (decide (t8 < t7))
    (if (0 : Int) ≤ t8 ∧ t8 < (t6.length : Int) then (
    (impl_within (t6.getD (t8.toNat) 0) 0 7).bind fun u2 =>
    cond (!u2.1.1)
      (some ((false, ()), ()))
    (R2 t6 t7 (w64 (t8 + 1)) b0_0 b0_1)) else none)
  ((impl_within (b0_0.length : Int) 1 8).bind fun u3 =>
  cond (u3.1.1)
    ((impl_within b0_1 1 4).bind fun u4 =>
    some ((u4.1.1, ()), ()))
  (some ((false, ()), ())))
def impl_ConfigOk_L2 : Nat → List Int → Int → Int → List Int → Int → Option V_impl_ConfigOk
  | 0, _, _, _, _, _ => none
  | n + 1, a0, a1, a2, a3, a4 => impl_ConfigOk_step2 (impl_ConfigOk_L2 n) a0 a1 a2 a3 a4
def impl_ConfigOk_entry (R2 : List Int → Int → Int → List Int → Int → Option V_impl_ConfigOk) (p0 : List Int × Int × Unit) : Option V_impl_ConfigOk :=
  R2 p0.1 (p0.1.length : Int) 0 p0.1 p0.2.1
def impl_ConfigOk (p0 : List Int × Int × Unit) : Option V_impl_ConfigOk := impl_ConfigOk_entry (impl_ConfigOk_L2 FUEL) p0

/-- impl.PutNum -/
abbrev V_impl_PutNum : Type := (Unit × Unit) × (List Int × Unit)
def impl_PutNum_step4 (R4 : Int → List Int → Option V_impl_PutNum) (t0 : Int) (b0 : List Int) : Option V_impl_PutNum :=
  cond (decide (t0 > 127))
    (if b0.length + 1 ≤ LIM then (
    R4 (t0.fdiv (2 ^ 7)) (b0 ++ [w8 ((bOr .i64 (bAnd .i64 t0 127) 128))])) else none)
  (if b0.length + 1 ≤ LIM then (
  some (((), ()), (b0 ++ [w8 (t0)], ()))) else none)
def impl_PutNum_L4 : Nat → Int → List Int → Option V_impl_PutNum
  | 0, _, _ => none
  | n + 1, a0, a1 => impl_PutNum_step4 (impl_PutNum_L4 n) a0 a1
def impl_PutNum_entry (R4 : Int → List Int → Option V_impl_PutNum) (p0 : Int) : Option V_impl_PutNum :=
  cond (decide (p0 < 0))
    (some (((), ()), ([], ())))
  (R4 p0 [])
def impl_PutNum (p0 : Int) : Option V_impl_PutNum := impl_PutNum_entry (impl_PutNum_L4 FUEL) p0

/-- impl.putNums -/
abbrev V_impl_putNums : Type := (Unit × Unit) × (List Int × Unit)
def impl_putNums_step3 (R3 : List Int → Int → Int → List Int → Option V_impl_putNums) (t7 : List Int) (t8 : Int) (t9 : Int) (b0 : List Int) : Option V_impl_putNums :=
  cond (decide (t9 < t8))
    (if (0 : Int) ≤ t9 ∧ t9 < (t7.length : Int) then (
    (impl_PutNum (t7.getD (t9.toNat) 0)).bind fun u2 =>
    if b0.length + u2.2.1.length ≤ LIM then (
    R3 t7 t8 (w64 (t9 + 1)) (b0 ++ u2.2.1)) else none) else none)
  (some (((), ()), (b0, ())))
def impl_putNums_L3 : Nat → List Int → Int → Int → List Int → Option V_impl_putNums
  | 0, _, _, _, _ => none
  | n + 1, a0, a1, a2, a3 => impl_putNums_step3 (impl_putNums_L3 n) a0 a1 a2 a3
def impl_putNums_entry (R3 : List Int → Int → Int → List Int → Option V_impl_putNums) (p0 : List Int) : Option V_impl_putNums :=
  R3 p0 (p0.length : Int) 0 []
def impl_putNums (p0 : List Int) : Option V_impl_putNums := impl_putNums_entry (impl_putNums_L3 FUEL) p0

/-- impl.putList -/
abbrev V_impl_putList : Type := (Unit × Unit) × (List Int × Unit)
def impl_putList (p0 : List Int) : Option V_impl_putList :=
  (impl_PutNum (p0.length : Int)).bind fun u1 =>
  (impl_putNums p0).bind fun u2 =>
  if u1.2.1.length + u2.2.1.length ≤ LIM then (
  some (((), ()), (u1.2.1 ++ u2.2.1, ()))) else none

/-- spec.GetNum -/
abbrev V_spec_GetNum : Type := ((Int × Int × Bool × Unit) × Unit) × Unit
def spec_GetNum_step6 (R6 : List Int → Int → Int → Int → Int → Option V_spec_GetNum) (t0 : List Int) (t1 : Int) (t7 : Int) (t8 : Int) (t9 : Int) : Option V_spec_GetNum :=
  cond (decide (t9 < 9))
    (cond ((decide ((w64 (t1 + t9)) < (t0.length : Int))))
      (if (0 : Int) ≤ w64 (t1 + t9) ∧ w64 (t1 + t9) < (t0.length : Int) then (
      let x3 : Int := (t0.getD ((w64 (t1 + t9)).toNat) 0)
      let x4 : Int := w64 (((w64 (x3)).tmod 128) * t8)
      cond ((decide ((w64 (x3)) < 128)))
        (cond ((w64 (x3)) == 0)
          (cond (decide (t9 > 0))
            (some (((0, 0, false, ()), ()), ()))
          (some (((w64 (t7 + x4), (w64 ((w64 (t1 + t9)) + 1)), true, ()), ()), ())))
        (some (((w64 (t7 + x4), (w64 ((w64 (t1 + t9)) + 1)), true, ()), ()), ())))
      (R6 t0 t1 (w64 (t7 + x4)) (w64 (t8 * 128)) (w64 (t9 + 1)))) else none)
    (some (((0, 0, false, ()), ()), ())))
  (some (((0, 0, false, ()), ()), ()))
def spec_GetNum_L6 : Nat → List Int → Int → Int → Int → Int → Option V_spec_GetNum
  | 0, _, _, _, _, _ => none
  | n + 1, a0, a1, a2, a3, a4 => spec_GetNum_step6 (spec_GetNum_L6 n) a0 a1 a2 a3 a4
def spec_GetNum_entry (R6 : List Int → Int → Int → Int → Int → Option V_spec_GetNum) (p0 : List Int) (p1 : Int) : Option V_spec_GetNum :=
  cond (decide (p1 < 0))
    (some (((0, 0, false, ()), ()), ()))
  (cond ((decide (p1 ≥ (p0.length : Int))))
    (some (((0, 0, false, ()), ()), ()))
  (R6 p0 p1 0 1 0))
def spec_GetNum (p0 : List Int) (p1 : Int) : Option V_spec_GetNum := spec_GetNum_entry (spec_GetNum_L6 FUEL) p0 p1

/-- spec.l17Num -/
abbrev V_spec_l17Num : Type := (Int × Unit) × ((Unit × Int × Bool × Unit) × List Int × Unit)
def spec_l17Num (b0_1 : Int) (b0_2 : Bool) (b1 : List Int) : Option V_spec_l17Num :=
  (spec_GetNum b1 b0_1).bind fun u1 =>
  cond (!u1.1.1.2.2.1)
    (some ((0, ()), (((), b0_1, false, ()), b1, ())))
  (cond (!b0_2)
    (some ((0, ()), (((), b0_1, false, ()), b1, ())))
  (some ((u1.1.1.1, ()), (((), u1.1.1.2.1, b0_2, ()), b1, ()))))

/-- spec.l17Nums -/
abbrev V_spec_l17Nums : Type := (Unit × Unit) × ((Unit × Int × Bool × Unit) × List Int × List Int × Unit)
def spec_l17Nums_step4 (R4 : Int → Int → Int → Bool → List Int → List Int → Option V_spec_l17Nums) (t3 : Int) (t5 : Int) (b0_1 : Int) (b0_2 : Bool) (b1 : List Int) (b2 : List Int) : Option V_spec_l17Nums :=
  cond (decide (t5 < t3))
    (cond (b0_2)
      ((spec_l17Num b0_1 b0_2 b1).bind fun u2 =>
      if b2.length + 1 ≤ LIM then (
      R4 t3 (w64 (t5 + 1)) u2.2.1.2.1 u2.2.1.2.2.1 u2.2.2.1 (b2 ++ [u2.1.1])) else none)
    (some (((), ()), (((), b0_1, b0_2, ()), b1, b2, ()))))
  (some (((), ()), (((), b0_1, b0_2, ()), b1, b2, ())))
def spec_l17Nums_L4 : Nat → Int → Int → Int → Bool → List Int → List Int → Option V_spec_l17Nums
  | 0, _, _, _, _, _, _ => none
  | n + 1, a0, a1, a2, a3, a4, a5 => spec_l17Nums_step4 (spec_l17Nums_L4 n) a0 a1 a2 a3 a4 a5
def spec_l17Nums_entry (R4 : Int → Int → Int → Bool → List Int → List Int → Option V_spec_l17Nums) (b0_1 : Int) (b0_2 : Bool) (b1 : List Int) : Option V_spec_l17Nums :=
  (spec_l17Num b0_1 b0_2 b1).bind fun u1 =>
  R4 u1.1.1 0 u1.2.1.2.1 u1.2.1.2.2.1 u1.2.2.1 []
def spec_l17Nums (b0_1 : Int) (b0_2 : Bool) (b1 : List Int) : Option V_spec_l17Nums := spec_l17Nums_entry (spec_l17Nums_L4 FUEL) b0_1 b0_2 b1

/-- spec.l17End -/
abbrev V_spec_l17End : Type := (Bool × Unit) × ((Unit × Int × Bool × Unit) × List Int × Unit)
def spec_l17End (b0_1 : Int) (b0_2 : Bool) (b1 : List Int) : Option V_spec_l17End :=
  cond (b0_2)
    (some (((b0_1 == (b1.length : Int)), ()), (((), b0_1, b0_2, ()), b1, ())))
  (some ((false, ()), (((), b0_1, b0_2, ()), b1, ())))

/-- impl.GetNum -/
abbrev V_impl_GetNum : Type := ((Int × Int × Bool × Unit) × Unit) × Unit
def impl_GetNum_step5 (R5 : List Int → Int → Int → Int → Option V_impl_GetNum) (t0 : List Int) (t1 : Int) (t7 : Int) (t8 : Int) : Option V_impl_GetNum :=
  cond (decide (t8 < 9))
    (cond (decide (t8 < (w64 ((t0.length : Int) - t1))))
      (if (0 : Int) ≤ w64 (t1 + t8) ∧ w64 (t1 + t8) < (t0.length : Int) then (
      let x2 : Int := (t0.getD ((w64 (t1 + t8)).toNat) 0)
      if w64 (7 * t8) < 0 then none else (
      let x4 : Int := w64 ((bAnd .i64 (w64 (x2)) 127) * 2 ^ (min (w64 (7 * t8)).toNat 64))
      cond ((decide ((w64 (x2)) > 127)))
        (R5 t0 t1 (bOr .i64 t7 x4) (w64 (t8 + 1)))
      (cond (decide (t8 > 0))
        (cond ((w64 (x2)) == 0)
          (some (((0, 0, false, ()), ()), ()))
        (some (((bOr .i64 t7 x4, (w64 ((w64 (t1 + t8)) + 1)), true, ()), ()), ())))
      (some (((bOr .i64 t7 x4, (w64 ((w64 (t1 + t8)) + 1)), true, ()), ()), ()))))) else none)
    (some (((0, 0, false, ()), ()), ())))
  (some (((0, 0, false, ()), ()), ()))
def impl_GetNum_L5 : Nat → List Int → Int → Int → Int → Option V_impl_GetNum
  | 0, _, _, _, _ => none
  | n + 1, a0, a1, a2, a3 => impl_GetNum_step5 (impl_GetNum_L5 n) a0 a1 a2 a3
def impl_GetNum_entry (R5 : List Int → Int → Int → Int → Option V_impl_GetNum) (p0 : List Int) (p1 : Int) : Option V_impl_GetNum :=
  cond (decide (p1 < 0))
    (some (((0, 0, false, ()), ()), ()))
  (R5 p0 p1 0 0)
def impl_GetNum (p0 : List Int) (p1 : Int) : Option V_impl_GetNum := impl_GetNum_entry (impl_GetNum_L5 FUEL) p0 p1

/-- (*impl.reader).num -/
abbrev V_impl_reader_num : Type := (Int × Unit) × ((Unit × Int × Bool × Unit) × List Int × Unit)
def impl_reader_num (b0_1 : Int) (b0_2 : Bool) (b1 : List Int) : Option V_impl_reader_num :=
  (impl_GetNum b1 b0_1).bind fun u1 =>
  cond (b0_2)
    (some ((0, ()), (((), b0_1, true, ()), b1, ())))
  (cond (!u1.1.1.2.2.1)
    (some ((0, ()), (((), b0_1, true, ()), b1, ())))
  (some ((u1.1.1.1, ()), (((), u1.1.1.2.1, b0_2, ()), b1, ()))))

/-- (*impl.reader).count -/
abbrev V_impl_reader_count : Type := (Int × Unit) × ((Unit × Int × Bool × Unit) × List Int × Unit)
def impl_reader_count (p1 : Int) (b0_1 : Int) (b0_2 : Bool) (b1 : List Int) : Option V_impl_reader_count :=
  (impl_reader_num b0_1 b0_2 b1).bind fun u1 =>
  cond (decide (u1.1.1 > p1))
    (some ((0, ()), (((), u1.2.1.2.1, true, ()), u1.2.2.1, ())))
  (some ((u1.1.1, ()), (((), u1.2.1.2.1, u1.2.1.2.2.1, ()), u1.2.2.1, ())))

/-- (*impl.reader).list -/
abbrev V_impl_reader_list : Type := (Unit × Unit) × ((Unit × Int × Bool × Unit) × List Int × List Int × Unit)
def impl_reader_list_step4 (R4 : Int → Int → Int → Bool → List Int → List Int → Option V_impl_reader_list) (t12 : Int) (t13 : Int) (b0_1 : Int) (b0_2 : Bool) (b1 : List Int) (b2 : List Int) : Option V_impl_reader_list :=
  cond (decide (t13 < t12))
    ((impl_reader_num b0_1 b0_2 b1).bind fun u2 =>
    if b2.length + 1 ≤ LIM then (
    R4 t12 (w64 (t13 + 1)) u2.2.1.2.1 u2.2.1.2.2.1 u2.2.2.1 (b2 ++ [u2.1.1])) else none)
  (some (((), ()), (((), b0_1, b0_2, ()), b1, b2, ())))
def impl_reader_list_L4 : Nat → Int → Int → Int → Bool → List Int → List Int → Option V_impl_reader_list
  | 0, _, _, _, _, _, _ => none
  | n + 1, a0, a1, a2, a3, a4, a5 => impl_reader_list_step4 (impl_reader_list_L4 n) a0 a1 a2 a3 a4 a5
def impl_reader_list_entry (R4 : Int → Int → Int → Bool → List Int → List Int → Option V_impl_reader_list) (p1 : Int) (b0_1 : Int) (b0_2 : Bool) (b1 : List Int) : Option V_impl_reader_list :=
  (impl_reader_count p1 b0_1 b0_2 b1).bind fun u1 =>
  R4 u1.1.1 0 u1.2.1.2.1 u1.2.1.2.2.1 u1.2.2.1 []
def impl_reader_list (p1 : Int) (b0_1 : Int) (b0_2 : Bool) (b1 : List Int) : Option V_impl_reader_list := impl_reader_list_entry (impl_reader_list_L4 FUEL) p1 b0_1 b0_2 b1

/-- (*impl.reader).done -/
abbrev V_impl_reader_done : Type := (Bool × Unit) × ((Unit × Int × Bool × Unit) × List Int × Unit)
def impl_reader_done (b0_1 : Int) (b0_2 : Bool) (b1 : List Int) : Option V_impl_reader_done :=
  cond (!b0_2)
    (some (((b0_1 == (b1.length : Int)), ()), (((), b0_1, b0_2, ()), b1, ())))
  (some ((false, ()), (((), b0_1, b0_2, ()), b1, ())))

/-- laws.big -/
abbrev V_laws_big : Type := (Bool × Unit) × Unit
def laws_big (p0 : List Int) : Option V_laws_big :=
  some (((decide ((p0.length : Int) > 1048576)), ()), ())

/-- spec.l1New -/
abbrev V_spec_l1New : Type := (Unit × Unit) × ((List Int × Int × Int × Unit) × Unit)
def spec_l1New_step3 (R3 : List Int → Int → Int → Option V_spec_l1New) (t0 : List Int) (t3 : Int) (t4 : Int) : Option V_spec_l1New :=
  cond ((decide (t4 < (t0.length : Int))))
    (cond (decide (t4 < 4000))
      (if (0 : Int) ≤ t4 ∧ t4 < (t0.length : Int) then (
      R3 t0 (bAnd .i64 (w64 ((w64 ((w64 (t3 * 131)) + (w64 ((t0.getD (t4.toNat) 0))))) + 7)) 1073741823) (w64 (t4 + 1))) else none)
    (some (((), ()), ((t0, 0, t3, ()), ()))))
  (some (((), ()), ((t0, 0, t3, ()), ())))
def spec_l1New_L3 : Nat → List Int → Int → Int → Option V_spec_l1New
  | 0, _, _, _ => none
  | n + 1, a0, a1, a2 => spec_l1New_step3 (spec_l1New_L3 n) a0 a1 a2
def spec_l1New_entry (R3 : List Int → Int → Int → Option V_spec_l1New) (p0 : List Int) : Option V_spec_l1New :=
  R3 p0 (w64 (17817 + (p0.length : Int))) 0
def spec_l1New (p0 : List Int) : Option V_spec_l1New := spec_l1New_entry (spec_l1New_L3 FUEL) p0

/-- spec.l1Byte -/
abbrev V_spec_l1Byte : Type := (Int × Unit) × ((List Int × Int × Int × Unit) × Unit)
def spec_l1Byte (b0_0 : List Int) (b0_1 : Int) (b0_2 : Int) : Option V_spec_l1Byte :=
  let x2 : Int := w64 ((w64 (b0_2 * 6364136223846793005)) + 1442695040888963407)
  let x3 : Int := bXor .i64 (x2.fdiv (2 ^ 33)) (x2.fdiv (2 ^ 45))
  cond ((decide (b0_1 < (b0_0.length : Int))))
    (if (0 : Int) ≤ b0_1 ∧ b0_1 < (b0_0.length : Int) then (
    some ((bAnd .i64 (w64 ((bAnd .i64 x3 255) + (w64 ((b0_0.getD (b0_1.toNat) 0))))) 255, ()), ((b0_0, w64 (b0_1 + 1), x2, ()), ()))) else none)
  (some ((bAnd .i64 x3 255, ()), ((b0_0, b0_1, x2, ()), ())))

/-- spec.l1Below -/
abbrev V_spec_l1Below : Type := (Int × Unit) × ((List Int × Int × Int × Unit) × Unit)
def spec_l1Below (p1 : Int) (b0_0 : List Int) (b0_1 : Int) (b0_2 : Int) : Option V_spec_l1Below :=
  cond (decide (p1 ≤ 0))
    (some ((0, ()), ((b0_0, b0_1, b0_2, ()), ())))
  (cond (decide (p1 ≤ 256))
    ((spec_l1Byte b0_0 b0_1 b0_2).bind fun u1 =>
    if p1 = 0 then none else (
    some ((u1.1.1.tmod p1, ()), ((u1.2.1.1, u1.2.1.2.1, u1.2.1.2.2.1, ()), ()))))
  ((spec_l1Byte b0_0 b0_1 b0_2).bind fun u2 =>
  (spec_l1Byte u2.2.1.1 u2.2.1.2.1 u2.2.1.2.2.1).bind fun u3 =>
  (spec_l1Byte u3.2.1.1 u3.2.1.2.1 u3.2.1.2.2.1).bind fun u4 =>
  (spec_l1Byte u4.2.1.1 u4.2.1.2.1 u4.2.1.2.2.1).bind fun u5 =>
  if p1 = 0 then none else (
  some ((((w64 ((w64 ((w64 ((w64 (u2.1.1 * 16777216)) + (w64 (u3.1.1 * 65536)))) + (w64 (u4.1.1 * 256)))) + u5.1.1)).tmod p1), ()), ((u5.2.1.1, u5.2.1.2.1, u5.2.1.2.2.1, ()), ())))))

/-- spec.l1Once -/
abbrev V_spec_l1Once : Type := (Bool × Unit) × ((List Int × Int × Int × Unit) × Unit)
def spec_l1Once (p1 : Int) (b0_0 : List Int) (b0_1 : Int) (b0_2 : Int) : Option V_spec_l1Once :=
  (spec_l1Below p1 b0_0 b0_1 b0_2).bind fun u1 =>
  some ((u1.1.1 == 0, ()), ((u1.2.1.1, u1.2.1.2.1, u1.2.1.2.2.1, ()), ()))

/-- spec.l4DrawRight -/
abbrev V_spec_l4DrawRight : Type := ((Unit × Int × Unit) × Unit) × ((List Int × Int × Int × Unit) × List Int × Unit)
def spec_l4DrawRight_step4 (R4 : Int → Int → List Int → Int → Int → Int → List Int → Int → List Int → Option V_spec_l4DrawRight) (t4 : Int) (t5 : Int) (b0_0 : List Int) (b0_1 : Int) (b0_2 : Int) (b1_1 : Int) (b2 : List Int) (b3_1 : Int) (b4 : List Int) : Option V_spec_l4DrawRight :=
  cond (decide (t5 < t4))
    ((spec_l1Below 5 b0_0 b0_1 b0_2).bind fun u3 =>
    if b4.length + 1 ≤ LIM then (
    R4 t4 (w64 (t5 + 1)) u3.2.1.1 u3.2.1.2.1 u3.2.1.2.2.1 b1_1 b2 b3_1 (b4 ++ [u3.1.1])) else none)
  ((spec_l1Once 2 b0_0 b0_1 b0_2).bind fun u5 =>
  cond (u5.1.1)
    (some ((((), 2, ()), ()), ((u5.2.1.1, u5.2.1.2.1, u5.2.1.2.2.1, ()), b4, ())))
  (some ((((), b3_1, ()), ()), ((u5.2.1.1, u5.2.1.2.1, u5.2.1.2.2.1, ()), b4, ()))))
def spec_l4DrawRight_L4 : Nat → Int → Int → List Int → Int → Int → Int → List Int → Int → List Int → Option V_spec_l4DrawRight
  | 0, _, _, _, _, _, _, _, _, _ => none
  | n + 1, a0, a1, a2, a3, a4, a5, a6, a7, a8 => spec_l4DrawRight_step4 (spec_l4DrawRight_L4 n) a0 a1 a2 a3 a4 a5 a6 a7 a8
def spec_l4DrawRight_entry (R4 : Int → Int → List Int → Int → Int → Int → List Int → Int → List Int → Option V_spec_l4DrawRight) (b0_0 : List Int) (b0_1 : Int) (b0_2 : Int) : Option V_spec_l4DrawRight :=
  (spec_l1Below 3 b0_0 b0_1 b0_2).bind fun u1 =>
  (spec_l1Below 5 u1.2.1.1 u1.2.1.2.1 u1.2.1.2.2.1).bind fun u2 =>
  R4 (w64 (3 + u2.1.1)) 0 u2.2.1.1 u2.2.1.2.1 u2.2.1.2.2.1 0 [] (w64 (1 + u1.1.1)) []
def spec_l4DrawRight (b0_0 : List Int) (b0_1 : Int) (b0_2 : Int) : Option V_spec_l4DrawRight := spec_l4DrawRight_entry (spec_l4DrawRight_L4 FUEL) b0_0 b0_1 b0_2

/-- spec.l1PickInt -/
abbrev V_spec_l1PickInt : Type := (Int × Unit) × ((List Int × Int × Int × Unit) × Unit)
def spec_l1PickInt (p1 : List Int) (b0_0 : List Int) (b0_1 : Int) (b0_2 : Int) : Option V_spec_l1PickInt :=
  (spec_l1Below (p1.length : Int) b0_0 b0_1 b0_2).bind fun u1 =>
  if (0 : Int) ≤ u1.1.1 ∧ u1.1.1 < (p1.length : Int) then (
  some (((p1.getD (u1.1.1.toNat) 0), ()), ((u1.2.1.1, u1.2.1.2.1, u1.2.1.2.2.1, ()), ()))) else none

/-- spec.l4Draw -/
abbrev V_spec_l4Draw : Type := ((Unit × Int × Unit) × Unit) × ((List Int × Int × Int × Unit) × List Int × Unit)
def spec_l4Draw (b0_0 : List Int) (b0_1 : Int) (b0_2 : Int) : Option V_spec_l4Draw :=
  (spec_l4DrawRight b0_0 b0_1 b0_2).bind fun u1 =>
  (spec_l1Below 20 u1.2.1.1 u1.2.1.2.1 u1.2.1.2.2.1).bind fun u2 =>
  cond (u2.1.1 == 0)
    ((spec_l1PickInt [0, 4, 5] u2.2.1.1 u2.2.1.2.1 u2.2.1.2.2.1).bind fun u3 =>
    some ((((), u3.1.1, ()), ()), ((u3.2.1.1, u3.2.1.2.1, u3.2.1.2.2.1, ()), u1.2.2.1, ())))
  (cond (u2.1.1 == 1)
    ((spec_l1PickInt [(-1), 7, 8] u2.2.1.1 u2.2.1.2.1 u2.2.1.2.2.1).bind fun u4 =>
    if (0 : Int) ≤ (0 : Int) ∧ (0 : Int) < (u1.2.2.1.length : Int) then (
    some ((((), u1.1.1.2.1, ()), ()), ((u4.2.1.1, u4.2.1.2.1, u4.2.1.2.2.1, ()), (u1.2.2.1.set 0 u4.1.1), ()))) else none)
  (cond (u2.1.1 == 2)
    ((spec_l1PickInt [0, 8, 9] u2.2.1.1 u2.2.1.2.1 u2.2.1.2.2.1).bind fun u6 =>
    if (0 : Int) ≤ u6.1.1 ∧ u6.1.1 ≤ u6.1.1 ∧ u6.1.1 ≤ (LIM : Int) then (
    some ((((), u1.1.1.2.1, ()), ()), ((u6.2.1.1, u6.2.1.2.1, u6.2.1.2.2.1, ()), (List.replicate (u6.1.1.toNat) 0), ()))) else none)
  (some ((((), u1.1.1.2.1, ()), ()), ((u2.2.1.1, u2.2.1.2.1, u2.2.1.2.2.1, ()), u1.2.2.1, ())))))

/-- spec.l17Spoil -/
abbrev V_spec_l17Spoil : Type := (Unit × Unit) × ((List Int × Int × Int × Unit) × List Int × Unit)
def spec_l17Spoil (p1 : List Int) (b0_0 : List Int) (b0_1 : Int) (b0_2 : Int) : Option V_spec_l17Spoil :=
  if 0 + p1.length ≤ LIM then (
  cond (((p1.length : Int) == 0))
    (some (((), ()), ((b0_0, b0_1, b0_2, ()), p1, ())))
  ((spec_l1Below 6 b0_0 b0_1 b0_2).bind fun u2 =>
  cond (u2.1.1 == 0)
    ((spec_l1Below (p1.length : Int) u2.2.1.1 u2.2.1.2.1 u2.2.1.2.2.1).bind fun u3 =>
    (spec_l1PickInt [0, 1, 2, 3, 7, 8, 127, 128, 255] u3.2.1.1 u3.2.1.2.1 u3.2.1.2.2.1).bind fun u4 =>
    if (0 : Int) ≤ u3.1.1 ∧ u3.1.1 < (p1.length : Int) then (
    some (((), ()), ((u4.2.1.1, u4.2.1.2.1, u4.2.1.2.2.1, ()), (p1.set (u3.1.1.toNat) (w8 (u4.1.1))), ()))) else none)
  (cond (u2.1.1 == 1)
    ((spec_l1Below (w64 ((p1.length : Int) + 1)) u2.2.1.1 u2.2.1.2.1 u2.2.1.2.2.1).bind fun u7 =>
    if (0 : Int) ≤ (0 : Int) ∧ (0 : Int) ≤ u7.1.1 ∧ u7.1.1 ≤ (p1.length : Int) then (
    some (((), ()), ((u7.2.1.1, u7.2.1.2.1, u7.2.1.2.2.1, ()), ((p1.drop 0).take ((u7.1.1.toNat) - 0)), ()))) else none)
  (cond (u2.1.1 == 2)
    (if p1.length + 1 ≤ LIM then (
    some (((), ()), ((u2.2.1.1, u2.2.1.2.1, u2.2.1.2.2.1, ()), p1 ++ [0], ()))) else none)
  (some (((), ()), ((u2.2.1.1, u2.2.1.2.1, u2.2.1.2.2.1, ()), p1, ()))))))) else none

/-- spec.l1Place -/
abbrev V_spec_l1Place : Type := (Int × Unit) × Unit
def spec_l1Place (p0 : Int) (p1 : Int) : Option V_spec_l1Place :=
  some ((w64 ((w64 (4294967296 * p0)) + p1), ()), ())

/-- spec.l1DrawPlace -/
abbrev V_spec_l1DrawPlace : Type := (Int × Unit) × ((List Int × Int × Int × Unit) × Unit)
def spec_l1DrawPlace (b0_0 : List Int) (b0_1 : Int) (b0_2 : Int) : Option V_spec_l1DrawPlace :=
  (spec_l1Below 3 b0_0 b0_1 b0_2).bind fun u1 =>
  (spec_l1Below 6 u1.2.1.1 u1.2.1.2.1 u1.2.1.2.2.1).bind fun u2 =>
  (spec_l1Place (w64 (1 + u1.1.1)) (w64 (1 + u2.1.1))).bind fun u3 =>
  (spec_l1Below 15 u2.2.1.1 u2.2.1.2.1 u2.2.1.2.2.1).bind fun u4 =>
  cond (u4.1.1 == 0)
    ((spec_l1PickInt [0, (-1), 4294967296, 4294967297, 9223372036854775807, (-9223372036854775808)] u4.2.1.1 u4.2.1.2.1 u4.2.1.2.2.1).bind fun u5 =>
    some ((u5.1.1, ()), ((u5.2.1.1, u5.2.1.2.1, u5.2.1.2.2.1, ()), ())))
  (cond (u4.1.1 == 1)
    ((spec_l1PickInt [0, 30, 31] u4.2.1.1 u4.2.1.2.1 u4.2.1.2.2.1).bind fun u6 =>
    (spec_l1PickInt [0, 60, 61] u6.2.1.1 u6.2.1.2.1 u6.2.1.2.2.1).bind fun u7 =>
    (spec_l1Place u6.1.1 u7.1.1).bind fun u8 =>
    some ((u8.1.1, ()), ((u7.2.1.1, u7.2.1.2.1, u7.2.1.2.2.1, ()), ())))
  (some ((u3.1.1, ()), ((u4.2.1.1, u4.2.1.2.1, u4.2.1.2.2.1, ()), ()))))

/-- spec.l4Asc -/
abbrev V_spec_l4Asc : Type := (Bool × Unit) × Unit
def spec_l4Asc_step2 (R2 : List Int → Int → Int → Int → Option V_spec_l4Asc) (t0 : List Int) (t1 : Int) (t2 : Int) (t7 : Int) : Option V_spec_l4Asc :=
  cond ((decide (t7 < (t0.length : Int))))
    (if (0 : Int) ≤ t7 ∧ t7 < (t0.length : Int) then (
    (spec_l1In (t0.getD (t7.toNat) 0) t1 t2).bind fun u3 =>
    cond (!u3.1.1)
      (some ((false, ()), ()))
    (cond (decide (t7 > 0))
      (if (0 : Int) ≤ w64 (t7 - 1) ∧ w64 (t7 - 1) < (t0.length : Int) then (
      if (0 : Int) ≤ t7 ∧ t7 < (t0.length : Int) then (
      cond (decide ((t0.getD ((w64 (t7 - 1)).toNat) 0) ≥ (t0.getD (t7.toNat) 0)))
        (some ((false, ()), ()))
      (R2 t0 t1 t2 (w64 (t7 + 1)))) else none) else none)
    (R2 t0 t1 t2 (w64 (t7 + 1))))) else none)
  (some ((true, ()), ()))
def spec_l4Asc_L2 : Nat → List Int → Int → Int → Int → Option V_spec_l4Asc
  | 0, _, _, _, _ => none
  | n + 1, a0, a1, a2, a3 => spec_l4Asc_step2 (spec_l4Asc_L2 n) a0 a1 a2 a3
def spec_l4Asc_entry (R2 : List Int → Int → Int → Int → Option V_spec_l4Asc) (p0 : List Int) (p1 : Int) (p2 : Int) : Option V_spec_l4Asc :=
  R2 p0 p1 p2 0
def spec_l4Asc (p0 : List Int) (p1 : Int) (p2 : Int) : Option V_spec_l4Asc := spec_l4Asc_entry (spec_l4Asc_L2 FUEL) p0 p1 p2

/-- spec.NodesOk -/
abbrev V_spec_NodesOk : Type := (Bool × Unit) × Unit
def spec_NodesOk (p0 : List Int × Int × Unit) (p1 : List Int) : Option V_spec_NodesOk :=
  (spec_ConfigOk (p0.1, p0.2.1, ())).bind fun u1 =>
  cond (u1.1.1)
    ((spec_l4Asc p1 0 (w64 ((p0.1.length : Int) - 1))).bind fun u3 =>
    some ((u3.1.1, ()), ()))
  (some ((false, ()), ()))

/-- spec.l4Span -/
abbrev V_spec_l4Span : Type := (Int × Unit) × Unit
def spec_l4Span_step4 (R4 : List Int → Int → Int → List Int → Int → List Bool → Option V_spec_l4Span) (t1 : List Int) (t6 : Int) (t7 : Int) (b0_0 : List Int) (b0_1 : Int) (b1 : List Bool) : Option V_spec_l4Span :=
  cond ((decide (t7 < (t1.length : Int))))
    (if (0 : Int) ≤ t7 ∧ t7 < (t1.length : Int) then (
    let x3 : Int := (t1.getD (t7.toNat) 0)
    if (0 : Int) ≤ x3 ∧ x3 < (b0_0.length : Int) then (
    let x4 : Int := (b0_0.getD (x3.toNat) 0)
    if (0 : Int) ≤ x4 ∧ x4 < (b1.length : Int) then (
    cond (!(b1.getD (x4.toNat) false))
      (if (0 : Int) ≤ x4 ∧ x4 < (b1.length : Int) then (
      R4 t1 (w64 (t6 + 1)) (w64 (t7 + 1)) b0_0 b0_1 (b1.set (x4.toNat) true)) else none)
    (R4 t1 t6 (w64 (t7 + 1)) b0_0 b0_1 b1)) else none) else none) else none)
  (some ((t6, ()), ()))
def spec_l4Span_L4 : Nat → List Int → Int → Int → List Int → Int → List Bool → Option V_spec_l4Span
  | 0, _, _, _, _, _, _ => none
  | n + 1, a0, a1, a2, a3, a4, a5 => spec_l4Span_step4 (spec_l4Span_L4 n) a0 a1 a2 a3 a4 a5
def spec_l4Span_entry (R4 : List Int → Int → Int → List Int → Int → List Bool → Option V_spec_l4Span) (p0 : List Int × Int × Unit) (p1 : List Int) : Option V_spec_l4Span :=
  R4 p1 0 0 p0.1 p0.2.1 (List.replicate 8 false)
def spec_l4Span (p0 : List Int × Int × Unit) (p1 : List Int) : Option V_spec_l4Span := spec_l4Span_entry (spec_l4Span_L4 FUEL) p0 p1

/-- spec.Holds -/
abbrev V_spec_Holds : Type := (Bool × Unit) × Unit
def spec_Holds (p0 : List Int × Int × Unit) (p1 : List Int) : Option V_spec_Holds :=
  (spec_NodesOk (p0.1, p0.2.1, ()) p1).bind fun u1 =>
  cond (u1.1.1)
    ((spec_l4Span (p0.1, p0.2.1, ()) p1).bind fun u2 =>
    some (((decide (u2.1.1 ≥ p0.2.1)), ()), ()))
  (some ((false, ()), ()))

/-- impl.ascends -/
abbrev V_impl_ascends : Type := (Bool × Unit) × Unit
def impl_ascends_step2 (R2 : List Int → Int → List Int → Int → Int → Option V_impl_ascends) (t0 : List Int) (t1 : Int) (t7 : List Int) (t8 : Int) (t9 : Int) : Option V_impl_ascends :=
  cond (decide (t9 < t8))
    (if (0 : Int) ≤ t9 ∧ t9 < (t7.length : Int) then (
    let x1 : Int := (t7.getD (t9.toNat) 0)
    (impl_within x1 0 t1).bind fun u2 =>
    cond (!u2.1.1)
      (some ((false, ()), ()))
    (cond (decide (t9 > 0))
      (if (0 : Int) ≤ w64 (t9 - 1) ∧ w64 (t9 - 1) < (t0.length : Int) then (
      cond (decide ((t0.getD ((w64 (t9 - 1)).toNat) 0) ≥ x1))
        (some ((false, ()), ()))
      (R2 t0 t1 t7 t8 (w64 (t9 + 1)))) else none)
    (R2 t0 t1 t7 t8 (w64 (t9 + 1))))) else none)
  (some ((true, ()), ()))
def impl_ascends_L2 : Nat → List Int → Int → List Int → Int → Int → Option V_impl_ascends
  | 0, _, _, _, _, _ => none
  | n + 1, a0, a1, a2, a3, a4 => impl_ascends_step2 (impl_ascends_L2 n) a0 a1 a2 a3 a4
def impl_ascends_entry (R2 : List Int → Int → List Int → Int → Int → Option V_impl_ascends) (p0 : List Int) (p1 : Int) : Option V_impl_ascends :=
  R2 p0 p1 p0 (p0.length : Int) 0
def impl_ascends (p0 : List Int) (p1 : Int) : Option V_impl_ascends := impl_ascends_entry (impl_ascends_L2 FUEL) p0 p1

/-- impl.NodesOk -/
abbrev V_impl_NodesOk : Type := (Bool × Unit) × Unit
def impl_NodesOk (p0 : List Int × Int × Unit) (p1 : List Int) : Option V_impl_NodesOk :=
  (impl_ConfigOk (p0.1, p0.2.1, ())).bind fun u1 =>
  cond (u1.1.1)
    ((impl_ascends p1 (w64 ((p0.1.length : Int) - 1))).bind fun u3 =>
    some ((u3.1.1, ()), ()))
  (some ((false, ()), ()))

/-- slices.Index[[]int,int] -/
abbrev V_slices_Index_int_int : Type := (Int × Unit) × Unit
def slices_Index_int_int_step2 (R2 : List Int → Int → Int → Int → Option V_slices_Index_int_int) (t0 : List Int) (t1 : Int) (t7 : Int) (t8 : Int) : Option V_slices_Index_int_int :=
  cond (decide (t8 < t7))
    (if (0 : Int) ≤ t8 ∧ t8 < (t0.length : Int) then (
    cond (t1 == (t0.getD (t8.toNat) 0))
      (some ((t8, ()), ()))
    (R2 t0 t1 t7 (w64 (t8 + 1)))) else none)
  (some (((-1), ()), ()))
def slices_Index_int_int_L2 : Nat → List Int → Int → Int → Int → Option V_slices_Index_int_int
  | 0, _, _, _, _ => none
  | n + 1, a0, a1, a2, a3 => slices_Index_int_int_step2 (slices_Index_int_int_L2 n) a0 a1 a2 a3
def slices_Index_int_int_entry (R2 : List Int → Int → Int → Int → Option V_slices_Index_int_int) (p0 : List Int) (p1 : Int) : Option V_slices_Index_int_int :=
  R2 p0 p1 (p0.length : Int) 0
def slices_Index_int_int (p0 : List Int) (p1 : Int) : Option V_slices_Index_int_int := slices_Index_int_int_entry (slices_Index_int_int_L2 FUEL) p0 p1

/-- slices.Contains[[]int,int] -/
abbrev V_slices_Contains_int_int : Type := (Bool × Unit) × Unit
def slices_Contains_int_int (p0 : List Int) (p1 : Int) : Option V_slices_Contains_int_int :=
  (slices_Index_int_int p0 p1).bind fun u1 =>
  some ((decide (u1.1.1 ≥ 0), ()), ())

/-- impl.SpanOf -/
abbrev V_impl_SpanOf : Type := (Int × Unit) × Unit
def impl_SpanOf_step5 (R5 : List Int → Int → Int → List Int → Int → List Int → Option V_impl_SpanOf) (t13 : List Int) (t14 : Int) (t15 : Int) (b0_0 : List Int) (b0_1 : Int) (b1 : List Int) : Option V_impl_SpanOf :=
  cond (decide (t15 < t14))
    (if (0 : Int) ≤ t15 ∧ t15 < (t13.length : Int) then (
    let x2 : Int := (t13.getD (t15.toNat) 0)
    if (0 : Int) ≤ x2 ∧ x2 < (b0_0.length : Int) then (
    (slices_Contains_int_int b1 (b0_0.getD (x2.toNat) 0)).bind fun u4 =>
    cond (!u4.1.1)
      (if (0 : Int) ≤ x2 ∧ x2 < (b0_0.length : Int) then (
      if b1.length + 1 ≤ LIM then (
      R5 t13 t14 (w64 (t15 + 1)) b0_0 b0_1 (b1 ++ [(b0_0.getD (x2.toNat) 0)])) else none) else none)
    (R5 t13 t14 (w64 (t15 + 1)) b0_0 b0_1 b1)) else none) else none)
  (some (((b1.length : Int), ()), ()))
def impl_SpanOf_L5 : Nat → List Int → Int → Int → List Int → Int → List Int → Option V_impl_SpanOf
  | 0, _, _, _, _, _, _ => none
  | n + 1, a0, a1, a2, a3, a4, a5 => impl_SpanOf_step5 (impl_SpanOf_L5 n) a0 a1 a2 a3 a4 a5
def impl_SpanOf_entry (R5 : List Int → Int → Int → List Int → Int → List Int → Option V_impl_SpanOf) (p0 : List Int × Int × Unit) (p1 : List Int) : Option V_impl_SpanOf :=
  (impl_NodesOk (p0.1, p0.2.1, ()) p1).bind fun u1 =>
  cond (!u1.1.1)
    (some (((-1), ()), ()))
  (R5 p1 (p1.length : Int) 0 p0.1 p0.2.1 [])
def impl_SpanOf (p0 : List Int × Int × Unit) (p1 : List Int) : Option V_impl_SpanOf := impl_SpanOf_entry (impl_SpanOf_L5 FUEL) p0 p1

/-- impl.Holds -/
abbrev V_impl_Holds : Type := (Bool × Unit) × Unit
def impl_Holds (p0 : List Int × Int × Unit) (p1 : List Int) : Option V_impl_Holds :=
  (impl_NodesOk (p0.1, p0.2.1, ()) p1).bind fun u1 =>
  cond (u1.1.1)
    ((impl_SpanOf (p0.1, p0.2.1, ()) p1).bind fun u2 =>
    some (((decide (u2.1.1 ≥ p0.2.1)), ()), ()))
  (some ((false, ()), ()))

/-- impl.flagNum -/
abbrev V_impl_flagNum : Type := (Int × Unit) × Unit
def impl_flagNum (p0 : Bool) : Option V_impl_flagNum :=
  cond (p0)
    (some ((1, ()), ()))
  (some ((0, ()), ()))

/-- impl.isEpoch -/
abbrev V_impl_isEpoch : Type := (Bool × Unit) × Unit
def impl_isEpoch (p0 : Int) : Option V_impl_isEpoch :=
  (impl_within p0 1 30).bind fun u1 =>
  some ((u1.1.1, ()), ())

/-- spec.PlaceOk -/
abbrev V_spec_PlaceOk : Type := (Bool × Unit) × Unit
def spec_PlaceOk (p0 : Int) : Option V_spec_PlaceOk :=
  cond (decide (p0 > 0))
    ((spec_l1In (w64 (p0.tdiv 4294967296)) 1 30).bind fun u2 =>
    cond (u2.1.1)
      ((spec_l1In (p0.tmod 4294967296) 1 60).bind fun u3 =>
      some ((u3.1.1, ()), ()))
    (some ((false, ()), ())))
  (some ((false, ()), ()))

/-- spec.EpochOf -/
abbrev V_spec_EpochOf : Type := (Int × Unit) × Unit
def spec_EpochOf (p0 : Int) : Option V_spec_EpochOf :=
  (spec_PlaceOk p0).bind fun u1 =>
  cond (!u1.1.1)
    (some ((0, ()), ()))
  (some (((w64 (p0.tdiv 4294967296)), ()), ()))

/-- spec.RegOk -/
abbrev V_spec_RegOk : Type := (Bool × Unit) × Unit
def spec_RegOk_step5 (R5 : Int → Int → List Int → Int → (List (List Int × Bool × Int × Unit)) → Int → Option V_spec_RegOk) (t5 : Int) (t6 : Int) (b0_0 : List Int) (b0_1 : Int) (b1_0 : List (List Int × Bool × Int × Unit)) (b1_1 : Int) : Option V_spec_RegOk :=
  cond (decide (t6 < t5))
    (if (0 : Int) ≤ t6 ∧ t6 < (b1_0.length : Int) then (
    (spec_Holds (b0_0, b0_1, ()) ((b1_0.getD (t6.toNat) ([], false, 0, ())).1)).bind fun u6 =>
    cond (!u6.1.1)
      (some ((false, ()), ()))
    ((spec_l1In ((b1_0.getD (t6.toNat) ([], false, 0, ())).2.2.1) 0 60).bind fun u8 =>
    cond (!u8.1.1)
      (some ((false, ()), ()))
    (cond (!((b1_0.getD (t6.toNat) ([], false, 0, ())).2.1))
      (cond (((b1_0.getD (t6.toNat) ([], false, 0, ())).2.2.1) != 0)
        (some ((false, ()), ()))
      (cond (((b1_0.getD (t6.toNat) ([], false, 0, ())).2.1))
        (cond (t6 == (w64 (t5 - 1)))
          (some ((false, ()), ()))
        (cond (decide (t6 > 0))
          (if (0 : Int) ≤ w64 (t6 - 1) ∧ w64 (t6 - 1) < (b1_0.length : Int) then (
          cond (!((b1_0.getD ((w64 (t6 - 1)).toNat) ([], false, 0, ())).2.1))
            (some ((false, ()), ()))
          (R5 t5 (w64 (t6 + 1)) b0_0 b0_1 b1_0 b1_1)) else none)
        (R5 t5 (w64 (t6 + 1)) b0_0 b0_1 b1_0 b1_1)))
      (R5 t5 (w64 (t6 + 1)) b0_0 b0_1 b1_0 b1_1)))
    (cond (((b1_0.getD (t6.toNat) ([], false, 0, ())).2.1))
      (cond (t6 == (w64 (t5 - 1)))
        (some ((false, ()), ()))
      (cond (decide (t6 > 0))
        (if (0 : Int) ≤ w64 (t6 - 1) ∧ w64 (t6 - 1) < (b1_0.length : Int) then (
        cond (!((b1_0.getD ((w64 (t6 - 1)).toNat) ([], false, 0, ())).2.1))
          (some ((false, ()), ()))
        (R5 t5 (w64 (t6 + 1)) b0_0 b0_1 b1_0 b1_1)) else none)
      (R5 t5 (w64 (t6 + 1)) b0_0 b0_1 b1_0 b1_1)))
    (R5 t5 (w64 (t6 + 1)) b0_0 b0_1 b1_0 b1_1))))) else none)
  (some ((true, ()), ()))
def spec_RegOk_L5 : Nat → Int → Int → List Int → Int → (List (List Int × Bool × Int × Unit)) → Int → Option V_spec_RegOk
  | 0, _, _, _, _, _, _ => none
  | n + 1, a0, a1, a2, a3, a4, a5 => spec_RegOk_step5 (spec_RegOk_L5 n) a0 a1 a2 a3 a4 a5
def spec_RegOk_entry (R5 : Int → Int → List Int → Int → (List (List Int × Bool × Int × Unit)) → Int → Option V_spec_RegOk) (p0 : List Int × Int × Unit) (p1 : List (List Int × Bool × Int × Unit) × Int × Unit) : Option V_spec_RegOk :=
  (spec_ConfigOk (p0.1, p0.2.1, ())).bind fun u1 =>
  cond (!u1.1.1)
    (some ((false, ()), ()))
  (cond ((decide ((p1.1.length : Int) > 30)))
    (some ((false, ()), ()))
  (cond (p1.2.1 != 0)
    ((spec_PlaceOk p1.2.1).bind fun u3 =>
    cond (!u3.1.1)
      (some ((false, ()), ()))
    ((spec_EpochOf p1.2.1).bind fun u4 =>
    cond ((decide (u4.1.1 > (p1.1.length : Int))))
      (some ((false, ()), ()))
    (R5 (p1.1.length : Int) 0 p0.1 p0.2.1 p1.1 p1.2.1)))
  (R5 (p1.1.length : Int) 0 p0.1 p0.2.1 p1.1 p1.2.1)))
def spec_RegOk (p0 : List Int × Int × Unit) (p1 : List (List Int × Bool × Int × Unit) × Int × Unit) : Option V_spec_RegOk := spec_RegOk_entry (spec_RegOk_L5 FUEL) p0 p1

/-- spec.l3Bit -/
abbrev V_spec_l3Bit : Type := (Int × Unit) × Unit
def spec_l3Bit (p0 : Bool) : Option V_spec_l3Bit :=
  cond (p0)
    (some ((1, ()), ()))
  (some ((0, ()), ()))

/-- spec.RegPack -/
abbrev V_spec_RegPack : Type := ((Unit × Bool × Unit) × Unit) × (List Int × Unit)
def spec_RegPack_step5 (R5 : Int → (List (List Int × Bool × Int × Unit)) → Int → List Int → Option V_spec_RegPack) (t7 : Int) (b0_0 : List (List Int × Bool × Int × Unit)) (b0_1 : Int) (b1 : List Int) : Option V_spec_RegPack :=
  cond ((decide (t7 < (b0_0.length : Int))))
    (if (0 : Int) ≤ t7 ∧ t7 < (b0_0.length : Int) then (
    (spec_l17List ((b0_0.getD (t7.toNat) ([], false, 0, ())).1)).bind fun u6 =>
    if b1.length + u6.2.1.length ≤ LIM then (
    (spec_l3Bit ((b0_0.getD (t7.toNat) ([], false, 0, ())).2.1)).bind fun u7 =>
    (spec_PutNum u7.1.1).bind fun u8 =>
    if (b1 ++ u6.2.1).length + u8.2.1.length ≤ LIM then (
    let x9 : List Int := (b1 ++ u6.2.1) ++ u8.2.1
    (spec_PutNum ((b0_0.getD (t7.toNat) ([], false, 0, ())).2.2.1)).bind fun u11 =>
    if x9.length + u11.2.1.length ≤ LIM then (
    R5 (w64 (t7 + 1)) b0_0 b0_1 (x9 ++ u11.2.1)) else none) else none) else none) else none)
  (some ((((), true, ()), ()), (b1, ())))
def spec_RegPack_L5 : Nat → Int → (List (List Int × Bool × Int × Unit)) → Int → List Int → Option V_spec_RegPack
  | 0, _, _, _, _ => none
  | n + 1, a0, a1, a2, a3 => spec_RegPack_step5 (spec_RegPack_L5 n) a0 a1 a2 a3
def spec_RegPack_entry (R5 : Int → (List (List Int × Bool × Int × Unit)) → Int → List Int → Option V_spec_RegPack) (p0 : List Int × Int × Unit) (p1 : List (List Int × Bool × Int × Unit) × Int × Unit) : Option V_spec_RegPack :=
  (spec_RegOk (p0.1, p0.2.1, ()) (p1.1, p1.2.1, ())).bind fun u1 =>
  cond (!u1.1.1)
    (some ((((), false, ()), ()), ([], ())))
  ((spec_PutNum p1.2.1).bind fun u2 =>
  (spec_PutNum (p1.1.length : Int)).bind fun u3 =>
  if u2.2.1.length + u3.2.1.length ≤ LIM then (
  R5 0 p1.1 p1.2.1 (u2.2.1 ++ u3.2.1)) else none)
def spec_RegPack (p0 : List Int × Int × Unit) (p1 : List (List Int × Bool × Int × Unit) × Int × Unit) : Option V_spec_RegPack := spec_RegPack_entry (spec_RegPack_L5 FUEL) p0 p1

/-- impl.eraOk -/
abbrev V_impl_eraOk : Type := (Bool × Unit) × Unit
def impl_eraOk (p0 : List Int × Int × Unit) (p1 : List Int × Bool × Int × Unit) : Option V_impl_eraOk :=
  (impl_Holds (p0.1, p0.2.1, ()) p1.1).bind fun u1 =>
  cond (u1.1.1)
    ((impl_within p1.2.2.1 0 60).bind fun u2 =>
    cond (u2.1.1)
      (cond (p1.2.1)
        (some ((true, ()), ()))
      (some ((p1.2.2.1 == 0, ()), ())))
    (some ((false, ()), ())))
  (some ((false, ()), ()))

/-- impl.isOff -/
abbrev V_impl_isOff : Type := (Bool × Unit) × Unit
def impl_isOff (p0 : Int) : Option V_impl_isOff :=
  (impl_within p0 1 60).bind fun u1 =>
  some ((u1.1.1, ()), ())

/-- impl.PlaceOk -/
abbrev V_impl_PlaceOk : Type := (Bool × Unit) × Unit
def impl_PlaceOk (p0 : Int) : Option V_impl_PlaceOk :=
  (impl_isEpoch (w64 (p0.tdiv 4294967296))).bind fun u2 =>
  cond (u2.1.1)
    ((impl_isOff (p0.tmod 4294967296)).bind fun u3 =>
    some ((u3.1.1, ()), ()))
  (some ((false, ()), ()))

/-- impl.EpochOf -/
abbrev V_impl_EpochOf : Type := (Int × Unit) × Unit
def impl_EpochOf (p0 : Int) : Option V_impl_EpochOf :=
  (impl_PlaceOk p0).bind fun u1 =>
  cond (!u1.1.1)
    (some ((0, ()), ()))
  (some (((w64 (p0.tdiv 4294967296)), ()), ()))

/-- impl.RegOk -/
abbrev V_impl_RegOk : Type := (Bool × Unit) × Unit
def impl_RegOk_step2 (R2 : (List (List Int × Bool × Int × Unit)) → Int → Int → List Int → Int → (List (List Int × Bool × Int × Unit)) → Int → Option V_impl_RegOk) (t9 : List (List Int × Bool × Int × Unit)) (t10 : Int) (t11 : Int) (b0_0 : List Int) (b0_1 : Int) (b1_0 : List (List Int × Bool × Int × Unit)) (b1_1 : Int) : Option V_impl_RegOk :=
  cond (decide (t11 < t10))
    (if (0 : Int) ≤ t11 ∧ t11 < (t9.length : Int) then (
    (impl_eraOk (b0_0, b0_1, ()) ((t9.getD (t11.toNat) ([], false, 0, ())).1, (t9.getD (t11.toNat) ([], false, 0, ())).2.1, (t9.getD (t11.toNat) ([], false, 0, ())).2.2.1, ())).bind fun u1 =>
    cond (!u1.1.1)
      (some ((false, ()), ()))
    (cond (((t9.getD (t11.toNat) ([], false, 0, ())).2.1))
      (cond (t11 == (w64 ((b1_0.length : Int) - 1)))
        (some ((false, ()), ()))
      (cond (decide (t11 > 0))
        (if (0 : Int) ≤ w64 (t11 - 1) ∧ w64 (t11 - 1) < (b1_0.length : Int) then (
        cond (!((b1_0.getD ((w64 (t11 - 1)).toNat) ([], false, 0, ())).2.1))
          (some ((false, ()), ()))
        (R2 t9 t10 (w64 (t11 + 1)) b0_0 b0_1 b1_0 b1_1)) else none)
      (R2 t9 t10 (w64 (t11 + 1)) b0_0 b0_1 b1_0 b1_1)))
    (R2 t9 t10 (w64 (t11 + 1)) b0_0 b0_1 b1_0 b1_1))) else none)
  (cond (b1_1 == 0)
    ((impl_ConfigOk (b0_0, b0_1, ())).bind fun u5 =>
    cond (u5.1.1)
      (cond ((decide ((b1_0.length : Int) ≤ 30)))
        (some ((true, ()), ()))
      (some ((false, ()), ())))
    (some ((false, ()), ())))
  ((impl_EpochOf b1_1).bind fun u7 =>
  (impl_within u7.1.1 1 (b1_0.length : Int)).bind fun u8 =>
  (impl_ConfigOk (b0_0, b0_1, ())).bind fun u9 =>
  cond (u9.1.1)
    (cond ((decide ((b1_0.length : Int) ≤ 30)))
      (some ((u8.1.1, ()), ()))
    (some ((false, ()), ())))
  (some ((false, ()), ()))))
def impl_RegOk_L2 : Nat → (List (List Int × Bool × Int × Unit)) → Int → Int → List Int → Int → (List (List Int × Bool × Int × Unit)) → Int → Option V_impl_RegOk
  | 0, _, _, _, _, _, _, _ => none
  | n + 1, a0, a1, a2, a3, a4, a5, a6 => impl_RegOk_step2 (impl_RegOk_L2 n) a0 a1 a2 a3 a4 a5 a6
def impl_RegOk_entry (R2 : (List (List Int × Bool × Int × Unit)) → Int → Int → List Int → Int → (List (List Int × Bool × Int × Unit)) → Int → Option V_impl_RegOk) (p0 : List Int × Int × Unit) (p1 : List (List Int × Bool × Int × Unit) × Int × Unit) : Option V_impl_RegOk :=
  R2 p1.1 (p1.1.length : Int) 0 p0.1 p0.2.1 p1.1 p1.2.1
def impl_RegOk (p0 : List Int × Int × Unit) (p1 : List (List Int × Bool × Int × Unit) × Int × Unit) : Option V_impl_RegOk := impl_RegOk_entry (impl_RegOk_L2 FUEL) p0 p1

/-- impl.RegPack -/
abbrev V_impl_RegPack : Type := ((Unit × Bool × Unit) × Unit) × (List Int × Unit)
def impl_RegPack_step5 (R5 : (List (List Int × Bool × Int × Unit)) → Int → Int → List Int → Option V_impl_RegPack) (t21 : List (List Int × Bool × Int × Unit)) (t22 : Int) (t23 : Int) (b0 : List Int) : Option V_impl_RegPack :=
  cond (decide (t23 < t22))
    (if (0 : Int) ≤ t23 ∧ t23 < (t21.length : Int) then (
    (impl_putList ((t21.getD (t23.toNat) ([], false, 0, ())).1)).bind fun u3 =>
    if b0.length + u3.2.1.length ≤ LIM then (
    (impl_flagNum ((t21.getD (t23.toNat) ([], false, 0, ())).2.1)).bind fun u6 =>
    (impl_putNums [u6.1.1, ((t21.getD (t23.toNat) ([], false, 0, ())).2.2.1)]).bind fun u7 =>
    if (b0 ++ u3.2.1).length + u7.2.1.length ≤ LIM then (
    R5 t21 t22 (w64 (t23 + 1)) ((b0 ++ u3.2.1) ++ u7.2.1)) else none) else none) else none)
  (some ((((), true, ()), ()), (b0, ())))
def impl_RegPack_L5 : Nat → (List (List Int × Bool × Int × Unit)) → Int → Int → List Int → Option V_impl_RegPack
  | 0, _, _, _, _ => none
  | n + 1, a0, a1, a2, a3 => impl_RegPack_step5 (impl_RegPack_L5 n) a0 a1 a2 a3
def impl_RegPack_entry (R5 : (List (List Int × Bool × Int × Unit)) → Int → Int → List Int → Option V_impl_RegPack) (p0 : List Int × Int × Unit) (p1 : List (List Int × Bool × Int × Unit) × Int × Unit) : Option V_impl_RegPack :=
  (impl_RegOk (p0.1, p0.2.1, ()) (p1.1, p1.2.1, ())).bind fun u1 =>
  cond (!u1.1.1)
    (some ((((), false, ()), ()), ([], ())))
  ((impl_putNums [p1.2.1, (p1.1.length : Int)]).bind fun u2 =>
  R5 p1.1 (p1.1.length : Int) 0 u2.2.1)
def impl_RegPack (p0 : List Int × Int × Unit) (p1 : List (List Int × Bool × Int × Unit) × Int × Unit) : Option V_impl_RegPack := impl_RegPack_entry (impl_RegPack_L5 FUEL) p0 p1

/-- spec.RegRead -/
abbrev V_spec_RegRead : Type := (((Unit × Int × Unit) × Bool × Unit) × Unit) × (List Int × (List (List Int × Bool × Int × Unit)) × Unit)
def spec_RegRead_step5 (R5 : Int → Int → List Int → List Int → Int → Int → (List (List Int × Bool × Int × Unit)) → Int → Bool → Int → (List (List Int × Bool × Int × Unit)) → Option V_spec_RegRead) (t8 : Int) (t9 : Int) (b0 : List Int) (b1_0 : List Int) (b1_1 : Int) (b2_1 : Int) (b3 : List (List Int × Bool × Int × Unit)) (b4_1 : Int) (b4_2 : Bool) (b5_1 : Int) (b6 : List (List Int × Bool × Int × Unit)) : Option V_spec_RegRead :=
  cond (decide (t9 < t8))
    (cond (b4_2)
      ((spec_l17Nums b4_1 b4_2 b0).bind fun u3 =>
      (spec_l17Num u3.2.1.2.1 u3.2.1.2.2.1 u3.2.2.1).bind fun u4 =>
      (spec_l17Num u4.2.1.2.1 u4.2.1.2.2.1 u4.2.2.1).bind fun u5 =>
      cond (u5.2.1.2.2.1)
        (if b6.length + 1 ≤ LIM then (
        R5 t8 (w64 (t9 + 1)) u5.2.2.1 b1_0 b1_1 b2_1 b3 u5.2.1.2.1 (decide (u4.1.1 ≤ 1)) b5_1 (b6 ++ [(u3.2.2.2.1, u4.1.1 == 1, u5.1.1, ())])) else none)
      (if b6.length + 1 ≤ LIM then (
      R5 t8 (w64 (t9 + 1)) u5.2.2.1 b1_0 b1_1 b2_1 b3 u5.2.1.2.1 false b5_1 (b6 ++ [(u3.2.2.2.1, u4.1.1 == 1, u5.1.1, ())])) else none))
    ((spec_l17End b4_1 b4_2 b0).bind fun u8 =>
    cond (!u8.1.1)
      (some (((((), 0, ()), false, ()), ()), (u8.2.2.1, [], ())))
    ((spec_RegOk (b1_0, b1_1, ()) (b6, b5_1, ())).bind fun u9 =>
    cond (!u9.1.1)
      (some (((((), 0, ()), false, ()), ()), (u8.2.2.1, [], ())))
    (some (((((), b5_1, ()), true, ()), ()), (u8.2.2.1, b6, ()))))))
  ((spec_l17End b4_1 b4_2 b0).bind fun u10 =>
  cond (!u10.1.1)
    (some (((((), 0, ()), false, ()), ()), (u10.2.2.1, [], ())))
  ((spec_RegOk (b1_0, b1_1, ()) (b6, b5_1, ())).bind fun u11 =>
  cond (!u11.1.1)
    (some (((((), 0, ()), false, ()), ()), (u10.2.2.1, [], ())))
  (some (((((), b5_1, ()), true, ()), ()), (u10.2.2.1, b6, ())))))
def spec_RegRead_L5 : Nat → Int → Int → List Int → List Int → Int → Int → (List (List Int × Bool × Int × Unit)) → Int → Bool → Int → (List (List Int × Bool × Int × Unit)) → Option V_spec_RegRead
  | 0, _, _, _, _, _, _, _, _, _, _, _ => none
  | n + 1, a0, a1, a2, a3, a4, a5, a6, a7, a8, a9, a10 => spec_RegRead_step5 (spec_RegRead_L5 n) a0 a1 a2 a3 a4 a5 a6 a7 a8 a9 a10
def spec_RegRead_entry (R5 : Int → Int → List Int → List Int → Int → Int → (List (List Int × Bool × Int × Unit)) → Int → Bool → Int → (List (List Int × Bool × Int × Unit)) → Option V_spec_RegRead) (p0 : List Int × Int × Unit) (b0 : List Int) : Option V_spec_RegRead :=
  (spec_l17Num 0 true b0).bind fun u1 =>
  (spec_l17Num u1.2.1.2.1 u1.2.1.2.2.1 u1.2.2.1).bind fun u2 =>
  R5 u2.1.1 0 u2.2.2.1 p0.1 p0.2.1 0 [] u2.2.1.2.1 u2.2.1.2.2.1 u1.1.1 []
def spec_RegRead (p0 : List Int × Int × Unit) (b0 : List Int) : Option V_spec_RegRead := spec_RegRead_entry (spec_RegRead_L5 FUEL) p0 b0

/-- (*impl.reader).flag -/
abbrev V_impl_reader_flag : Type := (Bool × Unit) × ((Unit × Int × Bool × Unit) × List Int × Unit)
def impl_reader_flag (b0_1 : Int) (b0_2 : Bool) (b1 : List Int) : Option V_impl_reader_flag :=
  (impl_reader_count 1 b0_1 b0_2 b1).bind fun u1 =>
  some ((u1.1.1 == 1, ()), (((), u1.2.1.2.1, u1.2.1.2.2.1, ()), u1.2.2.1, ()))

/-- impl.RegRead -/
abbrev V_impl_RegRead : Type := (((Unit × Int × Unit) × Bool × Unit) × Unit) × (List Int × (List (List Int × Bool × Int × Unit)) × Unit)
def impl_RegRead_step6 (R6 : Int → Int → List Int → List Int → Int → Int → (List (List Int × Bool × Int × Unit)) → Int → Bool → Int → (List (List Int × Bool × Int × Unit)) → Option V_impl_RegRead) (t8 : Int) (t9 : Int) (b0 : List Int) (b1_0 : List Int) (b1_1 : Int) (b2_1 : Int) (b3 : List (List Int × Bool × Int × Unit)) (b4_1 : Int) (b4_2 : Bool) (b5_1 : Int) (b6 : List (List Int × Bool × Int × Unit)) : Option V_impl_RegRead :=
  cond (decide (t9 < t8))
    (cond (!b4_2)
      ((impl_reader_list 8 b4_1 b4_2 b0).bind fun u3 =>
      (impl_reader_flag u3.2.1.2.1 u3.2.1.2.2.1 u3.2.2.1).bind fun u4 =>
      (impl_reader_num u4.2.1.2.1 u4.2.1.2.2.1 u4.2.2.1).bind fun u5 =>
      if b6.length + 1 ≤ LIM then (
      R6 t8 (w64 (t9 + 1)) u5.2.2.1 b1_0 b1_1 b2_1 b3 u5.2.1.2.1 u5.2.1.2.2.1 b5_1 (b6 ++ [(u3.2.2.2.1, u4.1.1, u5.1.1, ())])) else none)
    ((impl_reader_done b4_1 b4_2 b0).bind fun u7 =>
    cond (!u7.1.1)
      (some (((((), 0, ()), false, ()), ()), (u7.2.2.1, [], ())))
    ((impl_RegOk (b1_0, b1_1, ()) (b6, b5_1, ())).bind fun u8 =>
    cond (!u8.1.1)
      (some (((((), 0, ()), false, ()), ()), (u7.2.2.1, [], ())))
    (some (((((), b5_1, ()), true, ()), ()), (u7.2.2.1, b6, ()))))))
  ((impl_reader_done b4_1 b4_2 b0).bind fun u9 =>
  cond (!u9.1.1)
    (some (((((), 0, ()), false, ()), ()), (u9.2.2.1, [], ())))
  ((impl_RegOk (b1_0, b1_1, ()) (b6, b5_1, ())).bind fun u10 =>
  cond (!u10.1.1)
    (some (((((), 0, ()), false, ()), ()), (u9.2.2.1, [], ())))
  (some (((((), b5_1, ()), true, ()), ()), (u9.2.2.1, b6, ())))))
def impl_RegRead_L6 : Nat → Int → Int → List Int → List Int → Int → Int → (List (List Int × Bool × Int × Unit)) → Int → Bool → Int → (List (List Int × Bool × Int × Unit)) → Option V_impl_RegRead
  | 0, _, _, _, _, _, _, _, _, _, _, _ => none
  | n + 1, a0, a1, a2, a3, a4, a5, a6, a7, a8, a9, a10 => impl_RegRead_step6 (impl_RegRead_L6 n) a0 a1 a2 a3 a4 a5 a6 a7 a8 a9 a10
def impl_RegRead_entry (R6 : Int → Int → List Int → List Int → Int → Int → (List (List Int × Bool × Int × Unit)) → Int → Bool → Int → (List (List Int × Bool × Int × Unit)) → Option V_impl_RegRead) (p0 : List Int × Int × Unit) (b0 : List Int) : Option V_impl_RegRead :=
  (impl_reader_num 0 false b0).bind fun u1 =>
  (impl_reader_count 30 u1.2.1.2.1 u1.2.1.2.2.1 u1.2.2.1).bind fun u2 =>
  R6 u2.1.1 0 u2.2.2.1 p0.1 p0.2.1 0 [] u2.2.1.2.1 u2.2.1.2.2.1 u1.1.1 []
def impl_RegRead (p0 : List Int × Int × Unit) (b0 : List Int) : Option V_impl_RegRead := impl_RegRead_entry (impl_RegRead_L6 FUEL) p0 b0

/-- spec.l4Has -/
abbrev V_spec_l4Has : Type := (Bool × Unit) × Unit
def spec_l4Has_step2 (R2 : List Int → Int → Int → Option V_spec_l4Has) (t0 : List Int) (t1 : Int) (t5 : Int) : Option V_spec_l4Has :=
  cond ((decide (t5 < (t0.length : Int))))
    (if (0 : Int) ≤ t5 ∧ t5 < (t0.length : Int) then (
    cond ((t0.getD (t5.toNat) 0) == t1)
      (some ((true, ()), ()))
    (R2 t0 t1 (w64 (t5 + 1)))) else none)
  (some ((false, ()), ()))
def spec_l4Has_L2 : Nat → List Int → Int → Int → Option V_spec_l4Has
  | 0, _, _, _ => none
  | n + 1, a0, a1, a2 => spec_l4Has_step2 (spec_l4Has_L2 n) a0 a1 a2
def spec_l4Has_entry (R2 : List Int → Int → Int → Option V_spec_l4Has) (p0 : List Int) (p1 : Int) : Option V_spec_l4Has :=
  R2 p0 p1 0
def spec_l4Has (p0 : List Int) (p1 : Int) : Option V_spec_l4Has := spec_l4Has_entry (spec_l4Has_L2 FUEL) p0 p1

/-- spec.FirstOpen -/
abbrev V_spec_FirstOpen : Type := (Int × Unit) × Unit
def spec_FirstOpen_step2 (R2 : Int → (List (List Int × Bool × Int × Unit)) → Int → Option V_spec_FirstOpen) (t3 : Int) (b0_0 : List (List Int × Bool × Int × Unit)) (b0_1 : Int) : Option V_spec_FirstOpen :=
  cond ((decide (t3 < (b0_0.length : Int))))
    (if (0 : Int) ≤ t3 ∧ t3 < (b0_0.length : Int) then (
    cond (!((b0_0.getD (t3.toNat) ([], false, 0, ())).2.1))
      (some ((w64 (t3 + 1), ()), ()))
    (R2 (w64 (t3 + 1)) b0_0 b0_1)) else none)
  (some ((0, ()), ()))
def spec_FirstOpen_L2 : Nat → Int → (List (List Int × Bool × Int × Unit)) → Int → Option V_spec_FirstOpen
  | 0, _, _, _ => none
  | n + 1, a0, a1, a2 => spec_FirstOpen_step2 (spec_FirstOpen_L2 n) a0 a1 a2
def spec_FirstOpen_entry (R2 : Int → (List (List Int × Bool × Int × Unit)) → Int → Option V_spec_FirstOpen) (p0 : List (List Int × Bool × Int × Unit) × Int × Unit) : Option V_spec_FirstOpen :=
  R2 0 p0.1 p0.2.1
def spec_FirstOpen (p0 : List (List Int × Bool × Int × Unit) × Int × Unit) : Option V_spec_FirstOpen := spec_FirstOpen_entry (spec_FirstOpen_L2 FUEL) p0

/-- spec.l1Max -/
abbrev V_spec_l1Max : Type := (Int × Unit) × Unit
def spec_l1Max (p0 : Int) (p1 : Int) : Option V_spec_l1Max :=
  cond (decide (p0 > p1))
    (some ((p0, ()), ()))
  (some ((p1, ()), ()))

/-- spec.l4Put -/
abbrev V_spec_l4Put : Type := (Unit × Unit) × (List Int × Unit)
def spec_l4Put_step4 (R4 : List Int → Int → Bool → Int → List Int → Option V_spec_l4Put) (t0 : List Int) (t1 : Int) (t6 : Bool) (t7 : Int) (b0 : List Int) : Option V_spec_l4Put :=
  cond ((decide (t7 < (t0.length : Int))))
    (cond (!t6)
      (if (0 : Int) ≤ t7 ∧ t7 < (t0.length : Int) then (
      cond (decide ((t0.getD (t7.toNat) 0) > t1))
        (if b0.length + 1 ≤ LIM then (
        if (0 : Int) ≤ t7 ∧ t7 < (t0.length : Int) then (
        if (b0 ++ [t1]).length + 1 ≤ LIM then (
        R4 t0 t1 true (w64 (t7 + 1)) ((b0 ++ [t1]) ++ [(t0.getD (t7.toNat) 0)])) else none) else none) else none)
      (if (0 : Int) ≤ t7 ∧ t7 < (t0.length : Int) then (
      if b0.length + 1 ≤ LIM then (
      R4 t0 t1 t6 (w64 (t7 + 1)) (b0 ++ [(t0.getD (t7.toNat) 0)])) else none) else none)) else none)
    (if (0 : Int) ≤ t7 ∧ t7 < (t0.length : Int) then (
    if b0.length + 1 ≤ LIM then (
    R4 t0 t1 t6 (w64 (t7 + 1)) (b0 ++ [(t0.getD (t7.toNat) 0)])) else none) else none))
  (cond (!t6)
    (if b0.length + 1 ≤ LIM then (
    some (((), ()), (b0 ++ [t1], ()))) else none)
  (some (((), ()), (b0, ()))))
def spec_l4Put_L4 : Nat → List Int → Int → Bool → Int → List Int → Option V_spec_l4Put
  | 0, _, _, _, _, _ => none
  | n + 1, a0, a1, a2, a3, a4 => spec_l4Put_step4 (spec_l4Put_L4 n) a0 a1 a2 a3 a4
def spec_l4Put_entry (R4 : List Int → Int → Bool → Int → List Int → Option V_spec_l4Put) (p0 : List Int) (p1 : Int) : Option V_spec_l4Put :=
  (spec_l4Has p0 p1).bind fun u1 =>
  R4 p0 p1 u1.1.1 0 []
def spec_l4Put (p0 : List Int) (p1 : Int) : Option V_spec_l4Put := spec_l4Put_entry (spec_l4Put_L4 FUEL) p0 p1

/-- spec.l4DrawNodes -/
abbrev V_spec_l4DrawNodes : Type := (Unit × Unit) × ((List Int × Int × Int × Unit) × List Int × Unit)
def spec_l4DrawNodes_step4 (R4 : Int → Int → List Int → Int → Int → List Int → Int → List Int → Option V_spec_l4DrawNodes) (t6 : Int) (t7 : Int) (b0_0 : List Int) (b0_1 : Int) (b0_2 : Int) (b1_0 : List Int) (b1_1 : Int) (b2 : List Int) : Option V_spec_l4DrawNodes :=
  cond (decide (t7 < t6))
    ((spec_l1Max (b1_0.length : Int) 1).bind fun u3 =>
    (spec_l1Below u3.1.1 b0_0 b0_1 b0_2).bind fun u4 =>
    (spec_l4Put b2 u4.1.1).bind fun u5 =>
    R4 t6 (w64 (t7 + 1)) u4.2.1.1 u4.2.1.2.1 u4.2.1.2.2.1 b1_0 b1_1 u5.2.1)
  ((spec_l1Once 20 b0_0 b0_1 b0_2).bind fun u6 =>
  cond (u6.1.1)
    ((spec_l1PickInt [(-1), 0, (b1_0.length : Int)] u6.2.1.1 u6.2.1.2.1 u6.2.1.2.2.1).bind fun u7 =>
    if b2.length + 1 ≤ LIM then (
    some (((), ()), ((u7.2.1.1, u7.2.1.2.1, u7.2.1.2.2.1, ()), b2 ++ [u7.1.1], ()))) else none)
  (some (((), ()), ((u6.2.1.1, u6.2.1.2.1, u6.2.1.2.2.1, ()), b2, ()))))
def spec_l4DrawNodes_L4 : Nat → Int → Int → List Int → Int → Int → List Int → Int → List Int → Option V_spec_l4DrawNodes
  | 0, _, _, _, _, _, _, _, _ => none
  | n + 1, a0, a1, a2, a3, a4, a5, a6, a7 => spec_l4DrawNodes_step4 (spec_l4DrawNodes_L4 n) a0 a1 a2 a3 a4 a5 a6 a7
def spec_l4DrawNodes_entry (R4 : Int → Int → List Int → Int → Int → List Int → Int → List Int → Option V_spec_l4DrawNodes) (p1 : List Int × Int × Unit) (b0_0 : List Int) (b0_1 : Int) (b0_2 : Int) : Option V_spec_l4DrawNodes :=
  (spec_l1Below (w64 ((p1.1.length : Int) + 2)) b0_0 b0_1 b0_2).bind fun u2 =>
  R4 u2.1.1 0 u2.2.1.1 u2.2.1.2.1 u2.2.1.2.2.1 p1.1 p1.2.1 []
def spec_l4DrawNodes (p1 : List Int × Int × Unit) (b0_0 : List Int) (b0_1 : Int) (b0_2 : Int) : Option V_spec_l4DrawNodes := spec_l4DrawNodes_entry (spec_l4DrawNodes_L4 FUEL) p1 b0_0 b0_1 b0_2

/-- spec.l7DrawSet -/
abbrev V_spec_l7DrawSet : Type := (Unit × Unit) × ((List Int × Int × Int × Unit) × List Int × Unit)
def spec_l7DrawSet_step3 (R3 : Int → List Int → Int → Int → List Int → Int → List Int → Option V_spec_l7DrawSet) (t6 : Int) (b0_0 : List Int) (b0_1 : Int) (b0_2 : Int) (b1_0 : List Int) (b1_1 : Int) (b2 : List Int) : Option V_spec_l7DrawSet :=
  cond ((decide (t6 < (b1_0.length : Int))))
    ((spec_Holds (b1_0, b1_1, ()) b2).bind fun u3 =>
    cond (!u3.1.1)
      ((spec_l4Put b2 t6).bind fun u4 =>
      R3 (w64 (t6 + 1)) b0_0 b0_1 b0_2 b1_0 b1_1 u4.2.1)
    (some (((), ()), ((b0_0, b0_1, b0_2, ()), b2, ()))))
  (some (((), ()), ((b0_0, b0_1, b0_2, ()), b2, ())))
def spec_l7DrawSet_L3 : Nat → Int → List Int → Int → Int → List Int → Int → List Int → Option V_spec_l7DrawSet
  | 0, _, _, _, _, _, _, _ => none
  | n + 1, a0, a1, a2, a3, a4, a5, a6 => spec_l7DrawSet_step3 (spec_l7DrawSet_L3 n) a0 a1 a2 a3 a4 a5 a6
def spec_l7DrawSet_entry (R3 : Int → List Int → Int → Int → List Int → Int → List Int → Option V_spec_l7DrawSet) (p1 : List Int × Int × Unit) (b0_0 : List Int) (b0_1 : Int) (b0_2 : Int) : Option V_spec_l7DrawSet :=
  (spec_l4DrawNodes (p1.1, p1.2.1, ()) b0_0 b0_1 b0_2).bind fun u1 =>
  R3 0 u1.2.1.1 u1.2.1.2.1 u1.2.1.2.2.1 p1.1 p1.2.1 u1.2.2.1
def spec_l7DrawSet (p1 : List Int × Int × Unit) (b0_0 : List Int) (b0_1 : Int) (b0_2 : Int) : Option V_spec_l7DrawSet := spec_l7DrawSet_entry (spec_l7DrawSet_L3 FUEL) p1 b0_0 b0_1 b0_2

/-- spec.l7Copy -/
abbrev V_spec_l7Copy : Type := ((Unit × Int × Unit) × Unit) × ((List (List Int × Bool × Int × Unit)) × Unit)
def spec_l7Copy_step3 (R3 : Int → (List (List Int × Bool × Int × Unit)) → Int → Int → (List (List Int × Bool × Int × Unit)) → Int → (List (List Int × Bool × Int × Unit)) → Option V_spec_l7Copy) (t4 : Int) (b0_0 : List (List Int × Bool × Int × Unit)) (b0_1 : Int) (b1_1 : Int) (b2 : List (List Int × Bool × Int × Unit)) (b3_1 : Int) (b4 : List (List Int × Bool × Int × Unit)) : Option V_spec_l7Copy :=
  cond ((decide (t4 < (b0_0.length : Int))))
    (if (0 : Int) ≤ t4 ∧ t4 < (b0_0.length : Int) then (
    if 0 + ((b0_0.getD (t4.toNat) ([], false, 0, ())).1).length ≤ LIM then (
    if b4.length + 1 ≤ LIM then (
    R3 (w64 (t4 + 1)) b0_0 b0_1 b1_1 b2 b3_1 (b4 ++ [(((b0_0.getD (t4.toNat) ([], false, 0, ())).1), (b0_0.getD (t4.toNat) ([], false, 0, ())).2.1, (b0_0.getD (t4.toNat) ([], false, 0, ())).2.2.1, ())])) else none) else none) else none)
  (some ((((), b3_1, ()), ()), (b4, ())))
def spec_l7Copy_L3 : Nat → Int → (List (List Int × Bool × Int × Unit)) → Int → Int → (List (List Int × Bool × Int × Unit)) → Int → (List (List Int × Bool × Int × Unit)) → Option V_spec_l7Copy
  | 0, _, _, _, _, _, _, _ => none
  | n + 1, a0, a1, a2, a3, a4, a5, a6 => spec_l7Copy_step3 (spec_l7Copy_L3 n) a0 a1 a2 a3 a4 a5 a6
def spec_l7Copy_entry (R3 : Int → (List (List Int × Bool × Int × Unit)) → Int → Int → (List (List Int × Bool × Int × Unit)) → Int → (List (List Int × Bool × Int × Unit)) → Option V_spec_l7Copy) (p0 : List (List Int × Bool × Int × Unit) × Int × Unit) : Option V_spec_l7Copy :=
  R3 0 p0.1 p0.2.1 0 [] p0.2.1 []
def spec_l7Copy (p0 : List (List Int × Bool × Int × Unit) × Int × Unit) : Option V_spec_l7Copy := spec_l7Copy_entry (spec_l7Copy_L3 FUEL) p0

/-- spec.RegOpen -/
abbrev V_spec_RegOpen : Type := (((Unit × Int × Unit) × Int × Bool × Unit) × Unit) × ((List (List Int × Bool × Int × Unit)) × Unit)
def spec_RegOpen (p0 : List Int × Int × Unit) (p1 : List (List Int × Bool × Int × Unit) × Int × Unit) (p2 : List Int) : Option V_spec_RegOpen :=
  (spec_RegOk (p0.1, p0.2.1, ()) (p1.1, p1.2.1, ())).bind fun u1 =>
  cond (!u1.1.1)
    (some (((((), 0, ()), 0, false, ()), ()), ([], ())))
  ((spec_l7Copy (p1.1, p1.2.1, ())).bind fun u2 =>
  (spec_Holds (p0.1, p0.2.1, ()) p2).bind fun u3 =>
  cond (!u3.1.1)
    (some (((((), u2.1.1.2.1, ()), 0, false, ()), ()), (u2.2.1, ())))
  (cond (((p1.1.length : Int) == 30))
    (some (((((), u2.1.1.2.1, ()), 0, false, ()), ()), (u2.2.1, ())))
  (if 0 + p2.length ≤ LIM then (
  if u2.2.1.length + 1 ≤ LIM then (
  let x5 : List (List Int × Bool × Int × Unit) := u2.2.1 ++ [(p2, false, 0, ())]
  some (((((), u2.1.1.2.1, ()), (x5.length : Int), true, ()), ()), (x5, ()))) else none) else none)))

/-- spec.RegClose -/
abbrev V_spec_RegClose : Type := (((Unit × Int × Unit) × Bool × Unit) × Unit) × ((List (List Int × Bool × Int × Unit)) × Unit)
def spec_RegClose (p0 : List Int × Int × Unit) (p1 : List (List Int × Bool × Int × Unit) × Int × Unit) (p2 : Int) (p3 : Int) : Option V_spec_RegClose :=
  (spec_RegOk (p0.1, p0.2.1, ()) (p1.1, p1.2.1, ())).bind fun u1 =>
  cond (!u1.1.1)
    (some (((((), 0, ()), false, ()), ()), ([], ())))
  ((spec_l7Copy (p1.1, p1.2.1, ())).bind fun u2 =>
  (spec_FirstOpen (p1.1, p1.2.1, ())).bind fun u3 =>
  cond ((p2 != (p1.1.length : Int)))
    (some (((((), u2.1.1.2.1, ()), false, ()), ()), (u2.2.1, ())))
  (cond (u3.1.1 == 0)
    (some (((((), u2.1.1.2.1, ()), false, ()), ()), (u2.2.1, ())))
  (cond (p2 == u3.1.1)
    (some (((((), u2.1.1.2.1, ()), false, ()), ()), (u2.2.1, ())))
  ((spec_l1In p3 0 60).bind fun u5 =>
  cond (!u5.1.1)
    (some (((((), u2.1.1.2.1, ()), false, ()), ()), (u2.2.1, ())))
  (if (0 : Int) ≤ w64 (u3.1.1 - 1) ∧ w64 (u3.1.1 - 1) < (u2.2.1.length : Int) then (
  let x6 : List (List Int × Bool × Int × Unit) := (u2.2.1.set ((w64 (u3.1.1 - 1)).toNat) ((u2.2.1.getD ((w64 (u3.1.1 - 1)).toNat) ([], false, 0, ())).1, true, (u2.2.1.getD ((w64 (u3.1.1 - 1)).toNat) ([], false, 0, ())).2.2.1, ()))
  if (0 : Int) ≤ w64 (u3.1.1 - 1) ∧ w64 (u3.1.1 - 1) < (x6.length : Int) then (
  some (((((), u2.1.1.2.1, ()), true, ()), ()), ((x6.set ((w64 (u3.1.1 - 1)).toNat) ((x6.getD ((w64 (u3.1.1 - 1)).toNat) ([], false, 0, ())).1, (x6.getD ((w64 (u3.1.1 - 1)).toNat) ([], false, 0, ())).2.1, p3, ())), ()))) else none) else none)))))

/-- spec.RegTrim -/
abbrev V_spec_RegTrim : Type := (((Unit × Int × Unit) × Bool × Unit) × Unit) × ((List (List Int × Bool × Int × Unit)) × Unit)
def spec_RegTrim (p0 : List Int × Int × Unit) (p1 : List (List Int × Bool × Int × Unit) × Int × Unit) (p2 : Int) : Option V_spec_RegTrim :=
  (spec_RegOk (p0.1, p0.2.1, ()) (p1.1, p1.2.1, ())).bind fun u1 =>
  cond (!u1.1.1)
    (some (((((), 0, ()), false, ()), ()), ([], ())))
  ((spec_l7Copy (p1.1, p1.2.1, ())).bind fun u2 =>
  (spec_PlaceOk p2).bind fun u3 =>
  cond (!u3.1.1)
    (some (((((), u2.1.1.2.1, ()), false, ()), ()), (u2.2.1, ())))
  ((spec_EpochOf p2).bind fun u4 =>
  cond ((decide (u4.1.1 > (p1.1.length : Int))))
    (some (((((), u2.1.1.2.1, ()), false, ()), ()), (u2.2.1, ())))
  ((spec_l1Max u2.1.1.2.1 p2).bind fun u6 =>
  some (((((), u6.1.1, ()), true, ()), ()), (u2.2.1, ())))))

/-- spec.l7DrawRight -/
abbrev V_spec_l7DrawRight : Type := ((Unit × Int × Unit) × Unit) × ((List Int × Int × Int × Unit) × (List (List Int × Bool × Int × Unit)) × Unit)
def spec_l7DrawRight_step3 (R3 : Int → List Int → Int → Int → List Int → Int → Int → (List (List Int × Bool × Int × Unit)) → Int → (List (List Int × Bool × Int × Unit)) → Option V_spec_l7DrawRight) (t6 : Int) (b0_0 : List Int) (b0_1 : Int) (b0_2 : Int) (b1_0 : List Int) (b1_1 : Int) (b2_1 : Int) (b3 : List (List Int × Bool × Int × Unit)) (b4_1 : Int) (b5 : List (List Int × Bool × Int × Unit)) : Option V_spec_l7DrawRight :=
  (spec_l1Below 7 b0_0 b0_1 b0_2).bind fun u1 =>
  cond (decide (t6 < u1.1.1))
    ((spec_l7DrawSet (b1_0, b1_1, ()) u1.2.1.1 u1.2.1.2.1 u1.2.1.2.2.1).bind fun u2 =>
    (spec_RegOpen (b1_0, b1_1, ()) (b5, b4_1, ()) u2.2.2.1).bind fun u3 =>
    (spec_l1Below 4 u2.2.1.1 u2.2.1.2.1 u2.2.1.2.2.1).bind fun u4 =>
    cond (u4.1.1 == 0)
      ((spec_l1Below 5 u4.2.1.1 u4.2.1.2.1 u4.2.1.2.2.1).bind fun u5 =>
      (spec_RegClose (b1_0, b1_1, ()) (b5, b4_1, ()) (b5.length : Int) u5.1.1).bind fun u6 =>
      cond (u6.1.1.2.1)
        (R3 (w64 (t6 + 1)) u5.2.1.1 u5.2.1.2.1 u5.2.1.2.2.1 b1_0 b1_1 b2_1 b3 u6.1.1.1.2.1 u6.2.1)
      (R3 (w64 (t6 + 1)) u5.2.1.1 u5.2.1.2.1 u5.2.1.2.2.1 b1_0 b1_1 b2_1 b3 b4_1 b5))
    (cond (u4.1.1 == 1)
      ((spec_l1Below 2 u4.2.1.1 u4.2.1.2.1 u4.2.1.2.2.1).bind fun u7 =>
      (spec_l1Below 4 u7.2.1.1 u7.2.1.2.1 u7.2.1.2.2.1).bind fun u8 =>
      (spec_l1Place (w64 (1 + u7.1.1)) (w64 (1 + u8.1.1))).bind fun u9 =>
      (spec_RegTrim (b1_0, b1_1, ()) (b5, b4_1, ()) u9.1.1).bind fun u10 =>
      cond (u10.1.1.2.1)
        (R3 (w64 (t6 + 1)) u8.2.1.1 u8.2.1.2.1 u8.2.1.2.2.1 b1_0 b1_1 b2_1 b3 u10.1.1.1.2.1 u10.2.1)
      (R3 (w64 (t6 + 1)) u8.2.1.1 u8.2.1.2.1 u8.2.1.2.2.1 b1_0 b1_1 b2_1 b3 b4_1 b5))
    (cond (u3.1.1.2.2.1)
      (R3 (w64 (t6 + 1)) u4.2.1.1 u4.2.1.2.1 u4.2.1.2.2.1 b1_0 b1_1 b2_1 b3 u3.1.1.1.2.1 u3.2.1)
    (R3 (w64 (t6 + 1)) u4.2.1.1 u4.2.1.2.1 u4.2.1.2.2.1 b1_0 b1_1 b2_1 b3 b4_1 b5))))
  (some ((((), b4_1, ()), ()), ((u1.2.1.1, u1.2.1.2.1, u1.2.1.2.2.1, ()), b5, ())))
def spec_l7DrawRight_L3 : Nat → Int → List Int → Int → Int → List Int → Int → Int → (List (List Int × Bool × Int × Unit)) → Int → (List (List Int × Bool × Int × Unit)) → Option V_spec_l7DrawRight
  | 0, _, _, _, _, _, _, _, _, _, _ => none
  | n + 1, a0, a1, a2, a3, a4, a5, a6, a7, a8, a9 => spec_l7DrawRight_step3 (spec_l7DrawRight_L3 n) a0 a1 a2 a3 a4 a5 a6 a7 a8 a9
def spec_l7DrawRight_entry (R3 : Int → List Int → Int → Int → List Int → Int → Int → (List (List Int × Bool × Int × Unit)) → Int → (List (List Int × Bool × Int × Unit)) → Option V_spec_l7DrawRight) (p1 : List Int × Int × Unit) (b0_0 : List Int) (b0_1 : Int) (b0_2 : Int) : Option V_spec_l7DrawRight :=
  R3 0 b0_0 b0_1 b0_2 p1.1 p1.2.1 0 [] 0 []
def spec_l7DrawRight (p1 : List Int × Int × Unit) (b0_0 : List Int) (b0_1 : Int) (b0_2 : Int) : Option V_spec_l7DrawRight := spec_l7DrawRight_entry (spec_l7DrawRight_L3 FUEL) p1 b0_0 b0_1 b0_2

/-- spec.l7Draw -/
abbrev V_spec_l7Draw : Type := ((Unit × Int × Unit) × Unit) × ((List Int × Int × Int × Unit) × (List (List Int × Bool × Int × Unit)) × Unit)
def spec_l7Draw_step17 (R17 : List Int → List Int → Int → Int → Int → (List (List Int × Bool × Int × Unit)) → Int → (List (List Int × Bool × Int × Unit)) → Option V_spec_l7Draw) (t7 : List Int) (b0_0 : List Int) (b0_1 : Int) (b0_2 : Int) (b1_1 : Int) (b2 : List (List Int × Bool × Int × Unit)) (b3_1 : Int) (b4 : List (List Int × Bool × Int × Unit)) : Option V_spec_l7Draw :=
  (spec_l1Below 2 b0_0 b0_1 b0_2).bind fun u11 =>
  cond ((decide ((b4.length : Int) < (w64 (30 + u11.1.1)))))
    (if b4.length + 1 ≤ LIM then (
    R17 t7 u11.2.1.1 u11.2.1.2.1 u11.2.1.2.2.1 b1_1 b2 b3_1 (b4 ++ [(t7, false, 0, ())])) else none)
  (some ((((), b3_1, ()), ()), ((u11.2.1.1, u11.2.1.2.1, u11.2.1.2.2.1, ()), b4, ())))
def spec_l7Draw_L17 : Nat → List Int → List Int → Int → Int → Int → (List (List Int × Bool × Int × Unit)) → Int → (List (List Int × Bool × Int × Unit)) → Option V_spec_l7Draw
  | 0, _, _, _, _, _, _, _, _ => none
  | n + 1, a0, a1, a2, a3, a4, a5, a6, a7 => spec_l7Draw_step17 (spec_l7Draw_L17 n) a0 a1 a2 a3 a4 a5 a6 a7
def spec_l7Draw_entry (R17 : List Int → List Int → Int → Int → Int → (List (List Int × Bool × Int × Unit)) → Int → (List (List Int × Bool × Int × Unit)) → Option V_spec_l7Draw) (p1 : List Int × Int × Unit) (b0_0 : List Int) (b0_1 : Int) (b0_2 : Int) : Option V_spec_l7Draw :=
  (spec_l7DrawRight (p1.1, p1.2.1, ()) b0_0 b0_1 b0_2).bind fun u1 =>
  let x2 : Int := (u1.2.2.1.length : Int)
  (spec_l1Below 25 u1.2.1.1 u1.2.1.2.1 u1.2.1.2.2.1).bind fun u3 =>
  cond (u3.1.1 == 0)
    ((spec_l1DrawPlace u3.2.1.1 u3.2.1.2.1 u3.2.1.2.2.1).bind fun u4 =>
    some ((((), u4.1.1, ()), ()), ((u4.2.1.1, u4.2.1.2.1, u4.2.1.2.2.1, ()), u1.2.2.1, ())))
  (cond (u3.1.1 == 1)
    (cond (decide (x2 > 0))
      (if (0 : Int) ≤ w64 (x2 - 1) ∧ w64 (x2 - 1) < (u1.2.2.1.length : Int) then (
      some ((((), u1.1.1.2.1, ()), ()), ((u3.2.1.1, u3.2.1.2.1, u3.2.1.2.2.1, ()), (u1.2.2.1.set ((w64 (x2 - 1)).toNat) ((u1.2.2.1.getD ((w64 (x2 - 1)).toNat) ([], false, 0, ())).1, true, (u1.2.2.1.getD ((w64 (x2 - 1)).toNat) ([], false, 0, ())).2.2.1, ())), ()))) else none)
    (some ((((), u1.1.1.2.1, ()), ()), ((u3.2.1.1, u3.2.1.2.1, u3.2.1.2.2.1, ()), u1.2.2.1, ()))))
  (cond (u3.1.1 == 2)
    (cond (decide (x2 > 0))
      ((spec_l1PickInt [(-1), 1, 60, 61] u3.2.1.1 u3.2.1.2.1 u3.2.1.2.2.1).bind fun u6 =>
      if (0 : Int) ≤ (0 : Int) ∧ (0 : Int) < (u1.2.2.1.length : Int) then (
      some ((((), u1.1.1.2.1, ()), ()), ((u6.2.1.1, u6.2.1.2.1, u6.2.1.2.2.1, ()), (u1.2.2.1.set 0 ((u1.2.2.1.getD 0 ([], false, 0, ())).1, (u1.2.2.1.getD 0 ([], false, 0, ())).2.1, u6.1.1, ())), ()))) else none)
    (some ((((), u1.1.1.2.1, ()), ()), ((u3.2.1.1, u3.2.1.2.1, u3.2.1.2.2.1, ()), u1.2.2.1, ()))))
  (cond (u3.1.1 == 3)
    (cond (decide (x2 > 0))
      ((spec_l4DrawNodes (p1.1, p1.2.1, ()) u3.2.1.1 u3.2.1.2.1 u3.2.1.2.2.1).bind fun u8 =>
      if (0 : Int) ≤ (0 : Int) ∧ (0 : Int) < (u1.2.2.1.length : Int) then (
      some ((((), u1.1.1.2.1, ()), ()), ((u8.2.1.1, u8.2.1.2.1, u8.2.1.2.2.1, ()), (u1.2.2.1.set 0 (u8.2.2.1, (u1.2.2.1.getD 0 ([], false, 0, ())).2.1, (u1.2.2.1.getD 0 ([], false, 0, ())).2.2.1, ())), ()))) else none)
    (some ((((), u1.1.1.2.1, ()), ()), ((u3.2.1.1, u3.2.1.2.1, u3.2.1.2.2.1, ()), u1.2.2.1, ()))))
  (cond (u3.1.1 == 4)
    ((spec_l7DrawSet (p1.1, p1.2.1, ()) u3.2.1.1 u3.2.1.2.1 u3.2.1.2.2.1).bind fun u10 =>
    R17 u10.2.2.1 u10.2.1.1 u10.2.1.2.1 u10.2.1.2.2.1 0 [] u1.1.1.2.1 u1.2.2.1)
  (some ((((), u1.1.1.2.1, ()), ()), ((u3.2.1.1, u3.2.1.2.1, u3.2.1.2.2.1, ()), u1.2.2.1, ())))))))
def spec_l7Draw (p1 : List Int × Int × Unit) (b0_0 : List Int) (b0_1 : Int) (b0_2 : Int) : Option V_spec_l7Draw := spec_l7Draw_entry (spec_l7Draw_L17 FUEL) p1 b0_0 b0_1 b0_2

/-- spec.DrawRegOk -/
abbrev V_spec_DrawRegOk : Type := (((Unit × Int × Unit) × (Unit × Int × Unit) × Unit) × Unit) × (List Int × (List (List Int × Bool × Int × Unit)) × Unit)
def spec_DrawRegOk (p0 : List Int) : Option V_spec_DrawRegOk :=
  (spec_l1New p0).bind fun u1 =>
  (spec_l4Draw u1.2.1.1 u1.2.1.2.1 u1.2.1.2.2.1).bind fun u2 =>
  (spec_l7Draw (u2.2.2.1, u2.1.1.2.1, ()) u2.2.1.1 u2.2.1.2.1 u2.2.1.2.2.1).bind fun u3 =>
  some (((((), u2.1.1.2.1, ()), ((), u3.1.1.2.1, ()), ()), ()), (u2.2.2.1, u3.2.2.1, ()))

/-- spec.DrawRegPack -/
abbrev V_spec_DrawRegPack : Type := (((Unit × Int × Unit) × (Unit × Int × Unit) × Unit) × Unit) × (List Int × (List (List Int × Bool × Int × Unit)) × Unit)
def spec_DrawRegPack (p0 : List Int) : Option V_spec_DrawRegPack :=
  (spec_DrawRegOk p0).bind fun u1 =>
  some (((((), u1.1.1.1.2.1, ()), ((), u1.1.1.2.1.2.1, ()), ()), ()), (u1.2.1, u1.2.2.1, ()))

/-- spec.DrawRegRead -/
abbrev V_spec_DrawRegRead : Type := (((Unit × Int × Unit) × Unit × Unit) × Unit) × (List Int × List Int × Unit)
def spec_DrawRegRead (p0 : List Int) : Option V_spec_DrawRegRead :=
  (spec_l1New p0).bind fun u1 =>
  (spec_l4DrawRight u1.2.1.1 u1.2.1.2.1 u1.2.1.2.2.1).bind fun u2 =>
  (spec_l7DrawRight (u2.2.2.1, u2.1.1.2.1, ()) u2.2.1.1 u2.2.1.2.1 u2.2.1.2.2.1).bind fun u3 =>
  (spec_RegPack (u2.2.2.1, u2.1.1.2.1, ()) (u3.2.2.1, u3.1.1.2.1, ())).bind fun u4 =>
  (spec_l17Spoil u4.2.1 u3.2.1.1 u3.2.1.2.1 u3.2.1.2.2.1).bind fun u5 =>
  some (((((), u2.1.1.2.1, ()), (), ()), ()), (u2.2.2.1, u5.2.2.1, ()))

/-- laws.FnRegBytes -/
abbrev V_laws_FnRegBytes : Type := (Bool × Unit) × Unit
def laws_FnRegBytes (p0 : List Int) : Option V_laws_FnRegBytes :=
  (laws_big p0).bind fun u1 =>
  cond (u1.1.1)
    (some ((true, ()), ()))
  ((spec_DrawRegPack p0).bind fun u2 =>
  (impl_RegPack (u2.2.1, u2.1.1.1.2.1, ()) (u2.2.2.1, u2.1.1.2.1.2.1, ())).bind fun u3 =>
  (spec_RegPack (u2.2.1, u2.1.1.1.2.1, ()) (u2.2.2.1, u2.1.1.2.1.2.1, ())).bind fun u4 =>
  cond ((u3.1.1.2.1 != u4.1.1.2.1))
    (some ((false, ()), ()))
  (cond (u3.1.1.2.1)
    ((impl_RegRead (u2.2.1, u2.1.1.1.2.1, ()) u3.2.1).bind fun u6 =>
    cond (!u6.1.1.2.1)
      (some ((false, ()), ()))
    (cond ((u6.1.1.1.2.1 == u2.1.1.2.1.2.1))
      (cond ((u6.2.2.1.length : Int) == (u2.2.2.1.length : Int))
        (cond (!(decide (u6.1.1.1.2.1 ≥ 0)))
          (some ((false, ()), ()))
        ((spec_DrawRegRead p0).bind fun u11 =>
        (impl_RegRead (u11.2.1, u11.1.1.1.2.1, ()) u11.2.2.1).bind fun u12 =>
        (spec_RegRead (u11.2.1, u11.1.1.1.2.1, ()) u12.2.1).bind fun u13 =>
        cond ((u12.1.1.2.1 != u13.1.1.2.1))
          (some ((false, ()), ()))
        ((impl_RegPack (u11.2.1, u11.1.1.1.2.1, ()) (u12.2.2.1, u12.1.1.1.2.1, ())).bind fun u15 =>
        cond (!u12.1.1.2.1)
          (cond ((u12.2.2.1.length : Int) == 0)
            (some ((true, ()), ()))
          (cond (u12.1.1.2.1)
            (cond (u15.1.1.2.1)
              (some (((u15.2.1.map fun n : Int => UInt8.ofNat n.toNat) == (u13.2.1.map fun n : Int => UInt8.ofNat n.toNat), ()), ()))
            (some ((false, ()), ())))
          (some ((false, ()), ()))))
        (cond (u12.1.1.2.1)
          (cond (u15.1.1.2.1)
            (some (((u15.2.1.map fun n : Int => UInt8.ofNat n.toNat) == (u13.2.1.map fun n : Int => UInt8.ofNat n.toNat), ()), ()))
          (some ((false, ()), ())))
        (some ((false, ()), ()))))))
      (some ((false, ()), ())))
    (some ((false, ()), ()))))
  ((spec_DrawRegRead p0).bind fun u21 =>
  (impl_RegRead (u21.2.1, u21.1.1.1.2.1, ()) u21.2.2.1).bind fun u22 =>
  (spec_RegRead (u21.2.1, u21.1.1.1.2.1, ()) u22.2.1).bind fun u23 =>
  cond ((u22.1.1.2.1 != u23.1.1.2.1))
    (some ((false, ()), ()))
  ((impl_RegPack (u21.2.1, u21.1.1.1.2.1, ()) (u22.2.2.1, u22.1.1.1.2.1, ())).bind fun u25 =>
  cond (!u22.1.1.2.1)
    (cond ((u22.2.2.1.length : Int) == 0)
      (some ((true, ()), ()))
    (cond (u22.1.1.2.1)
      (cond (u25.1.1.2.1)
        (some (((u25.2.1.map fun n : Int => UInt8.ofNat n.toNat) == (u23.2.1.map fun n : Int => UInt8.ofNat n.toNat), ()), ()))
      (some ((false, ()), ())))
    (some ((false, ()), ()))))
  (cond (u22.1.1.2.1)
    (cond (u25.1.1.2.1)
      (some (((u25.2.1.map fun n : Int => UInt8.ofNat n.toNat) == (u23.2.1.map fun n : Int => UInt8.ofNat n.toNat), ()), ()))
    (some ((false, ()), ())))
  (some ((false, ()), ())))))))
end
end Go.M
