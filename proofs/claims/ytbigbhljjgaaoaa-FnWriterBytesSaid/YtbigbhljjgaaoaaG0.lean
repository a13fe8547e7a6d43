/- What each function computes, printed by a program out of the translation; what is printed is checked in the equations. -/
import Derived.Test.YtbigbhljjgaaoaaF1
set_option linter.unusedVariables false
set_option linter.unusedSimpArgs false
namespace Go.M
noncomputable section
/-- laws.szIntS -/
abbrev V_laws_szIntS : Type := (Int × Unit) × Unit
def laws_szIntS (p0 : List Int) (p1 : Int) : Option V_laws_szIntS :=
  let x1 : Int := w64 (p1 - (p0.length : Int))
  cond (decide (x1 < 0))
    (some (((-1), ()), ()))
  (some ((x1, ()), ()))

/-- laws.szConfig -/
abbrev V_laws_szConfig : Type := (Int × Unit) × Unit
def laws_szConfig (p0 : List Int × Int × Unit) (p1 : Int) : Option V_laws_szConfig :=
  (laws_szIntS p0.1 p1).bind fun u1 =>
  cond (decide (u1.1.1 < 0))
    (some (((-1), ()), ()))
  (some ((u1.1.1, ()), ()))

/-- laws.toIntS -/
abbrev V_laws_toIntS : Type := (Unit × Unit) × (List Int × Unit)
def laws_toIntS_step3 (R3 : List Int → Int → List Int → Option V_laws_toIntS) (t0 : List Int) (t4 : Int) (b0 : List Int) : Option V_laws_toIntS :=
  cond ((decide (t4 < (t0.length : Int))))
    (if (0 : Int) ≤ t4 ∧ t4 < (t0.length : Int) then (
    if (0 : Int) ≤ t4 ∧ t4 < (b0.length : Int) then (
    R3 t0 (w64 (t4 + 1)) (b0.set (t4.toNat) (t0.getD (t4.toNat) 0))) else none) else none)
  (some (((), ()), (b0, ())))
def laws_toIntS_L3 : Nat → List Int → Int → List Int → Option V_laws_toIntS
  | 0, _, _, _ => none
  | n + 1, a0, a1, a2 => laws_toIntS_step3 (laws_toIntS_L3 n) a0 a1 a2
def laws_toIntS_entry (R3 : List Int → Int → List Int → Option V_laws_toIntS) (p0 : List Int) : Option V_laws_toIntS :=
  if (0 : Int) ≤ (p0.length : Int) ∧ (p0.length : Int) ≤ (p0.length : Int) ∧ (p0.length : Int) ≤ (LIM : Int) then (
  R3 p0 0 (List.replicate ((p0.length : Int).toNat) 0)) else none
def laws_toIntS (p0 : List Int) : Option V_laws_toIntS := laws_toIntS_entry (laws_toIntS_L3 FUEL) p0

/-- laws.toConfig -/
abbrev V_laws_toConfig : Type := ((Unit × Int × Unit) × Unit) × (List Int × Unit)
def laws_toConfig (p0 : List Int × Int × Unit) : Option V_laws_toConfig :=
  (laws_toIntS p0.1).bind fun u1 =>
  some ((((), p0.2.1, ()), ()), (u1.2.1, ()))

/-- spec.l1In -/
abbrev V_spec_l1In : Type := (Bool × Unit) × Unit
def spec_l1In (p0 : Int) (p1 : Int) (p2 : Int) : Option V_spec_l1In :=
  cond (decide (p0 ≥ p1))
    (some ((decide (p0 ≤ p2), ()), ()))
  (some ((false, ()), ()))

/-- spec.ConfigOk -/
abbrev V_spec_ConfigOk : Type := (Bool × Unit) × Unit
def spec_ConfigOk_step4 (R4 : Int → List Int → Int → Option V_spec_ConfigOk) (t3 : Int) (b0_0 : List Int) (b0_1 : Int) : Option V_spec_ConfigOk :=
  cond ((decide (t3 < (b0_0.length : Int))))
    (if (0 : Int) ≤ t3 ∧ t3 < (b0_0.length : Int) then (
    (spec_l1In (b0_0.getD (t3.toNat) 0) 0 7).bind fun u5 =>
    cond (!u5.1.1)
      (some ((false, ()), ()))
    (R4 (w64 (t3 + 1)) b0_0 b0_1)) else none)
  (some ((true, ()), ()))
def spec_ConfigOk_L4 : Nat → Int → List Int → Int → Option V_spec_ConfigOk
  | 0, _, _, _ => none
  | n + 1, a0, a1, a2 => spec_ConfigOk_step4 (spec_ConfigOk_L4 n) a0 a1 a2
def spec_ConfigOk_entry (R4 : Int → List Int → Int → Option V_spec_ConfigOk) (p0 : List Int × Int × Unit) : Option V_spec_ConfigOk :=
  (spec_l1In (p0.1.length : Int) 1 8).bind fun u1 =>
  cond (!u1.1.1)
    (some ((false, ()), ()))
  ((spec_l1In p0.2.1 1 4).bind fun u2 =>
  cond (!u2.1.1)
    (some ((false, ()), ()))
  (R4 0 p0.1 p0.2.1))
def spec_ConfigOk (p0 : List Int × Int × Unit) : Option V_spec_ConfigOk := spec_ConfigOk_entry (spec_ConfigOk_L4 FUEL) p0

/-- spec.PutNum -/
abbrev V_spec_PutNum : Type := (Unit × Unit) × (List Int × Unit)
def spec_PutNum_step4 (R4 : Int → List Int → Option V_spec_PutNum) (t0 : Int) (b0 : List Int) : Option V_spec_PutNum :=
  cond (decide (t0 > 127))
    (if b0.length + 1 ≤ LIM then (
    R4 (w64 (t0.tdiv 128)) (b0 ++ [w8 ((w64 ((t0.tmod 128) + 128)))])) else none)
  (if b0.length + 1 ≤ LIM then (
  some (((), ()), (b0 ++ [w8 (t0)], ()))) else none)
def spec_PutNum_L4 : Nat → Int → List Int → Option V_spec_PutNum
  | 0, _, _ => none
  | n + 1, a0, a1 => spec_PutNum_step4 (spec_PutNum_L4 n) a0 a1
def spec_PutNum_entry (R4 : Int → List Int → Option V_spec_PutNum) (p0 : Int) : Option V_spec_PutNum :=
  cond (decide (p0 < 0))
    (some (((), ()), ([], ())))
  (R4 p0 [])
def spec_PutNum (p0 : Int) : Option V_spec_PutNum := spec_PutNum_entry (spec_PutNum_L4 FUEL) p0

/-- spec.l17List -/
abbrev V_spec_l17List : Type := (Unit × Unit) × (List Int × Unit)
def spec_l17List_step3 (R3 : List Int → Int → List Int → Option V_spec_l17List) (t0 : List Int) (t4 : Int) (b0 : List Int) : Option V_spec_l17List :=
  cond ((decide (t4 < (t0.length : Int))))
    (if (0 : Int) ≤ t4 ∧ t4 < (t0.length : Int) then (
    (spec_PutNum (t0.getD (t4.toNat) 0)).bind fun u4 =>
    if b0.length + u4.2.1.length ≤ LIM then (
    R3 t0 (w64 (t4 + 1)) (b0 ++ u4.2.1)) else none) else none)
  (some (((), ()), (b0, ())))
def spec_l17List_L3 : Nat → List Int → Int → List Int → Option V_spec_l17List
  | 0, _, _, _ => none
  | n + 1, a0, a1, a2 => spec_l17List_step3 (spec_l17List_L3 n) a0 a1 a2
def spec_l17List_entry (R3 : List Int → Int → List Int → Option V_spec_l17List) (p0 : List Int) : Option V_spec_l17List :=
  (spec_PutNum (p0.length : Int)).bind fun u1 =>
  R3 p0 0 u1.2.1
def spec_l17List (p0 : List Int) : Option V_spec_l17List := spec_l17List_entry (spec_l17List_L3 FUEL) p0

/-- spec.ConfigPack -/
abbrev V_spec_ConfigPack : Type := ((Unit × Bool × Unit) × Unit) × (List Int × Unit)
def spec_ConfigPack (p0 : List Int × Int × Unit) : Option V_spec_ConfigPack :=
  (spec_ConfigOk (p0.1, p0.2.1, ())).bind fun u1 =>
  cond (!u1.1.1)
    (some ((((), false, ()), ()), ([], ())))
  ((spec_l17List p0.1).bind fun u2 =>
  (spec_PutNum p0.2.1).bind fun u3 =>
  if u2.2.1.length + u3.2.1.length ≤ LIM then (
  some ((((), true, ()), ()), (u2.2.1 ++ u3.2.1, ()))) else none)

/-- impl.within -/
abbrev V_impl_within : Type := (Bool × Unit) × Unit
def impl_within (p0 : Int) (p1 : Int) (p2 : Int) : Option V_impl_within :=
  cond (decide (p0 ≥ p1))
    (some ((decide (p0 ≤ p2), ()), ()))
  (some ((false, ()), ()))

/-- impl.ConfigOk -/
abbrev V_impl_ConfigOk : Type := (Bool × Unit) × Unit
def impl_ConfigOk_step2 (R2 : List Int → Int → Int → List Int → Int → Option V_impl_ConfigOk) (t6 : List Int) (t7 : Int) (t8 : Int) (b0_0 : List Int) (b0_1 : Int) : Option V_impl_ConfigOk :=
  cond (decide (t8 < t7))
    (if (0 : Int) ≤ t8 ∧ t8 < (t6.length : Int) then (
    (impl_within (t6.getD (t8.toNat) 0) 0 7).bind fun u2 =>
    cond (!u2.1.1)
      (some ((false, ()), ()))
    (R2 t6 t7 (w64 (t8 + 1)) b0_0 b0_1)) else none)
  ((impl_within (b0_0.length : Int) 1 8).bind fun u3 =>
  cond (u3.1.1)
    ((impl_within b0_1 1 4).bind fun u4 =>
    some ((u4.1.1, ()), ()))
  (some ((false, ()), ())))
def impl_ConfigOk_L2 : Nat → List Int → Int → Int → List Int → Int → Option V_impl_ConfigOk
  | 0, _, _, _, _, _ => none
  | n + 1, a0, a1, a2, a3, a4 => impl_ConfigOk_step2 (impl_ConfigOk_L2 n) a0 a1 a2 a3 a4
def impl_ConfigOk_entry (R2 : List Int → Int → Int → List Int → Int → Option V_impl_ConfigOk) (p0 : List Int × Int × Unit) : Option V_impl_ConfigOk :=
  R2 p0.1 (p0.1.length : Int) 0 p0.1 p0.2.1
def impl_ConfigOk (p0 : List Int × Int × Unit) : Option V_impl_ConfigOk := impl_ConfigOk_entry (impl_ConfigOk_L2 FUEL) p0

/-- impl.PutNum -/
abbrev V_impl_PutNum : Type := (Unit × Unit) × (List Int × Unit)
def impl_PutNum_step4 (R4 : Int → List Int → Option V_impl_PutNum) (t0 : Int) (b0 : List Int) : Option V_impl_PutNum :=
  cond (decide (t0 > 127))
    (if b0.length + 1 ≤ LIM then (
    R4 (t0.fdiv (2 ^ 7)) (b0 ++ [w8 ((bOr .i64 (bAnd .i64 t0 127) 128))])) else none)
  (if b0.length + 1 ≤ LIM then (
  some (((), ()), (b0 ++ [w8 (t0)], ()))) else none)
def impl_PutNum_L4 : Nat → Int → List Int → Option V_impl_PutNum
  | 0, _, _ => none
  | n + 1, a0, a1 => impl_PutNum_step4 (impl_PutNum_L4 n) a0 a1
def impl_PutNum_entry (R4 : Int → List Int → Option V_impl_PutNum) (p0 : Int) : Option V_impl_PutNum :=
  cond (decide (p0 < 0))
    (some (((), ()), ([], ())))
  (R4 p0 [])
def impl_PutNum (p0 : Int) : Option V_impl_PutNum := impl_PutNum_entry (impl_PutNum_L4 FUEL) p0

/-- impl.putNums -/
abbrev V_impl_putNums : Type := (Unit × Unit) × (List Int × Unit)
def impl_putNums_step3 (R3 : List Int → Int → Int → List Int → Option V_impl_putNums) (t7 : List Int) (t8 : Int) (t9 : Int) (b0 : List Int) : Option V_impl_putNums :=
  cond (decide (t9 < t8))
    (if (0 : Int) ≤ t9 ∧ t9 < (t7.length : Int) then (
    (impl_PutNum (t7.getD (t9.toNat) 0)).bind fun u2 =>
    if b0.length + u2.2.1.length ≤ LIM then (
    R3 t7 t8 (w64 (t9 + 1)) (b0 ++ u2.2.1)) else none) else none)
  (some (((), ()), (b0, ())))
def impl_putNums_L3 : Nat → List Int → Int → Int → List Int → Option V_impl_putNums
  | 0, _, _, _, _ => none
  | n + 1, a0, a1, a2, a3 => impl_putNums_step3 (impl_putNums_L3 n) a0 a1 a2 a3
def impl_putNums_entry (R3 : List Int → Int → Int → List Int → Option V_impl_putNums) (p0 : List Int) : Option V_impl_putNums :=
  R3 p0 (p0.length : Int) 0 []
def impl_putNums (p0 : List Int) : Option V_impl_putNums := impl_putNums_entry (impl_putNums_L3 FUEL) p0

/-- impl.putList -/
abbrev V_impl_putList : Type := (Unit × Unit) × (List Int × Unit)
def impl_putList (p0 : List Int) : Option V_impl_putList :=
  (impl_PutNum (p0.length : Int)).bind fun u1 =>
  (impl_putNums p0).bind fun u2 =>
  if u1.2.1.length + u2.2.1.length ≤ LIM then (
  some (((), ()), (u1.2.1 ++ u2.2.1, ()))) else none

/-- impl.ConfigPack -/
abbrev V_impl_ConfigPack : Type := ((Unit × Bool × Unit) × Unit) × (List Int × Unit)
def impl_ConfigPack (p0 : List Int × Int × Unit) : Option V_impl_ConfigPack :=
  (impl_ConfigOk (p0.1, p0.2.1, ())).bind fun u1 =>
  cond (!u1.1.1)
    (some ((((), false, ()), ()), ([], ())))
  ((impl_putList p0.1).bind fun u2 =>
  (impl_PutNum p0.2.1).bind fun u3 =>
  if u2.2.1.length + u3.2.1.length ≤ LIM then (
  some ((((), true, ()), ()), (u2.2.1 ++ u3.2.1, ()))) else none)

/-- laws.eqByteS -/
abbrev V_laws_eqByteS : Type := (Bool × Unit) × Unit
def laws_eqByteS_step4 (R4 : List Int → List Int → Int → Option V_laws_eqByteS) (t0 : List Int) (t1 : List Int) (t5 : Int) : Option V_laws_eqByteS :=
  cond ((decide (t5 < (t0.length : Int))))
    (if (0 : Int) ≤ t5 ∧ t5 < (t0.length : Int) then (
    if (0 : Int) ≤ t5 ∧ t5 < (t1.length : Int) then (
    cond ((t0.getD (t5.toNat) 0) != (t1.getD (t5.toNat) 0))
      (some ((false, ()), ()))
    (R4 t0 t1 (w64 (t5 + 1)))) else none) else none)
  (some ((true, ()), ()))
def laws_eqByteS_L4 : Nat → List Int → List Int → Int → Option V_laws_eqByteS
  | 0, _, _, _ => none
  | n + 1, a0, a1, a2 => laws_eqByteS_step4 (laws_eqByteS_L4 n) a0 a1 a2
def laws_eqByteS_entry (R4 : List Int → List Int → Int → Option V_laws_eqByteS) (p0 : List Int) (p1 : List Int) : Option V_laws_eqByteS :=
  cond (((p0.length : Int) != (p1.length : Int)))
    (some ((false, ()), ()))
  (R4 p0 p1 0)
def laws_eqByteS (p0 : List Int) (p1 : List Int) : Option V_laws_eqByteS := laws_eqByteS_entry (laws_eqByteS_L4 FUEL) p0 p1

/-- laws.eqIntS -/
abbrev V_laws_eqIntS : Type := (Bool × Unit) × Unit
def laws_eqIntS_step4 (R4 : List Int → List Int → Int → Option V_laws_eqIntS) (t0 : List Int) (t1 : List Int) (t5 : Int) : Option V_laws_eqIntS :=
  cond ((decide (t5 < (t0.length : Int))))
    (if (0 : Int) ≤ t5 ∧ t5 < (t0.length : Int) then (
    if (0 : Int) ≤ t5 ∧ t5 < (t1.length : Int) then (
    cond ((t0.getD (t5.toNat) 0) != (t1.getD (t5.toNat) 0))
      (some ((false, ()), ()))
    (R4 t0 t1 (w64 (t5 + 1)))) else none) else none)
  (some ((true, ()), ()))
def laws_eqIntS_L4 : Nat → List Int → List Int → Int → Option V_laws_eqIntS
  | 0, _, _, _ => none
  | n + 1, a0, a1, a2 => laws_eqIntS_step4 (laws_eqIntS_L4 n) a0 a1 a2
def laws_eqIntS_entry (R4 : List Int → List Int → Int → Option V_laws_eqIntS) (p0 : List Int) (p1 : List Int) : Option V_laws_eqIntS :=
  cond (((p0.length : Int) != (p1.length : Int)))
    (some ((false, ()), ()))
  (R4 p0 p1 0)
def laws_eqIntS (p0 : List Int) (p1 : List Int) : Option V_laws_eqIntS := laws_eqIntS_entry (laws_eqIntS_L4 FUEL) p0 p1

/-- laws.eqConfig -/
abbrev V_laws_eqConfig : Type := (Bool × Unit) × Unit
def laws_eqConfig (p0 : List Int × Int × Unit) (p1 : List Int × Int × Unit) : Option V_laws_eqConfig :=
  (laws_eqIntS p0.1 p1.1).bind fun u1 =>
  cond (!u1.1.1)
    (some ((false, ()), ()))
  (cond (p0.2.1 != p1.2.1)
    (some ((false, ()), ()))
  (some ((true, ()), ())))

/-- laws.markIntS -/
abbrev V_laws_markIntS : Type := (Int × Unit) × (List Int × Unit)
def laws_markIntS_step2 (R2 : Int → Int → List Int → Option V_laws_markIntS) (t1 : Int) (t5 : Int) (b0 : List Int) : Option V_laws_markIntS :=
  cond ((decide (t5 < (b0.length : Int))))
    (if (0 : Int) ≤ t5 ∧ t5 < (b0.length : Int) then (
    R2 (w64 (t1 + 1)) (w64 (t5 + 1)) (b0.set (t5.toNat) t1)) else none)
  (some ((t1, ()), (b0, ())))
def laws_markIntS_L2 : Nat → Int → Int → List Int → Option V_laws_markIntS
  | 0, _, _, _ => none
  | n + 1, a0, a1, a2 => laws_markIntS_step2 (laws_markIntS_L2 n) a0 a1 a2
def laws_markIntS_entry (R2 : Int → Int → List Int → Option V_laws_markIntS) (p1 : Int) (b0 : List Int) : Option V_laws_markIntS :=
  R2 p1 0 b0
def laws_markIntS (p1 : Int) (b0 : List Int) : Option V_laws_markIntS := laws_markIntS_entry (laws_markIntS_L2 FUEL) p1 b0

/-- laws.markConfig -/
abbrev V_laws_markConfig : Type := (Int × Unit) × (List Int × Unit)
def laws_markConfig (p0_1 : Int) (p1 : Int) (b0 : List Int) : Option V_laws_markConfig :=
  (laws_markIntS p1 b0).bind fun u1 =>
  some ((u1.1.1, ()), (u1.2.1, ()))

/-- laws.markByteS -/
abbrev V_laws_markByteS : Type := (Int × Unit) × (List Int × Unit)
def laws_markByteS_step2 (R2 : Int → Int → List Int → Option V_laws_markByteS) (t1 : Int) (t5 : Int) (b0 : List Int) : Option V_laws_markByteS :=
  cond ((decide (t5 < (b0.length : Int))))
    (if (0 : Int) ≤ t5 ∧ t5 < (b0.length : Int) then (
    R2 (w64 (t1 + 1)) (w64 (t5 + 1)) (b0.set (t5.toNat) (w8 (t1)))) else none)
  (some ((t1, ()), (b0, ())))
def laws_markByteS_L2 : Nat → Int → Int → List Int → Option V_laws_markByteS
  | 0, _, _, _ => none
  | n + 1, a0, a1, a2 => laws_markByteS_step2 (laws_markByteS_L2 n) a0 a1 a2
def laws_markByteS_entry (R2 : Int → Int → List Int → Option V_laws_markByteS) (p1 : Int) (b0 : List Int) : Option V_laws_markByteS :=
  R2 p1 0 b0
def laws_markByteS (p1 : Int) (b0 : List Int) : Option V_laws_markByteS := laws_markByteS_entry (laws_markByteS_L2 FUEL) p1 b0

/-- laws.heldByteS -/
abbrev V_laws_heldByteS : Type := (Int × Unit) × Unit
def laws_heldByteS_step2 (R2 : List Int → Int → Int → Option V_laws_heldByteS) (t0 : List Int) (t1 : Int) (t5 : Int) : Option V_laws_heldByteS :=
  cond ((decide (t5 < (t0.length : Int))))
    (if (0 : Int) ≤ t5 ∧ t5 < (t0.length : Int) then (
    cond ((t0.getD (t5.toNat) 0) != (w8 (t1)))
      (some (((-1), ()), ()))
    (R2 t0 (w64 (t1 + 1)) (w64 (t5 + 1)))) else none)
  (some ((t1, ()), ()))
def laws_heldByteS_L2 : Nat → List Int → Int → Int → Option V_laws_heldByteS
  | 0, _, _, _ => none
  | n + 1, a0, a1, a2 => laws_heldByteS_step2 (laws_heldByteS_L2 n) a0 a1 a2
def laws_heldByteS_entry (R2 : List Int → Int → Int → Option V_laws_heldByteS) (p0 : List Int) (p1 : Int) : Option V_laws_heldByteS :=
  R2 p0 p1 0
def laws_heldByteS (p0 : List Int) (p1 : Int) : Option V_laws_heldByteS := laws_heldByteS_entry (laws_heldByteS_L2 FUEL) p0 p1

/-- laws.FnExactConfigPack -/
abbrev V_laws_FnExactConfigPack : Type := (Bool × Unit) × Unit
def laws_FnExactConfigPack (p0 : List Int × Int × Unit) : Option V_laws_FnExactConfigPack :=
  (laws_szConfig (p0.1, p0.2.1, ()) 1048576).bind fun u1 =>
  cond (decide (u1.1.1 < 0))
    (some ((true, ()), ()))
  ((laws_toConfig (p0.1, p0.2.1, ())).bind fun u2 =>
  (spec_ConfigPack (u2.2.1, u2.1.1.2.1, ())).bind fun u3 =>
  (laws_toConfig (p0.1, p0.2.1, ())).bind fun u4 =>
  (impl_ConfigPack (u4.2.1, u4.1.1.2.1, ())).bind fun u5 =>
  (laws_eqByteS u5.2.1 u3.2.1).bind fun u6 =>
  cond (!u6.1.1)
    (some ((false, ()), ()))
  (cond ((u5.1.1.2.1 != u3.1.1.2.1))
    (some ((false, ()), ()))
  ((laws_toConfig (p0.1, p0.2.1, ())).bind fun u8 =>
  (laws_eqConfig (u4.2.1, u4.1.1.2.1, ()) (u8.2.1, u8.1.1.2.1, ())).bind fun u9 =>
  cond (!u9.1.1)
    (some ((false, ()), ()))
  ((laws_markConfig u4.1.1.2.1 1 u4.2.1).bind fun u10 =>
  cond (decide (u10.1.1 < 0))
    (some ((false, ()), ()))
  ((laws_eqByteS u5.2.1 u3.2.1).bind fun u11 =>
  cond (!u11.1.1)
    (some ((false, ()), ()))
  (cond ((u5.1.1.2.1 != u3.1.1.2.1))
    (some ((false, ()), ()))
  ((laws_markByteS 1 u5.2.1).bind fun u13 =>
  (laws_heldByteS u13.2.1 1).bind fun u14 =>
  cond (decide (u14.1.1 < 0))
    (some ((false, ()), ()))
  (cond (u14.1.1 != u13.1.1)
    (some ((false, ()), ()))
  ((laws_toConfig (p0.1, p0.2.1, ())).bind fun u15 =>
  (impl_ConfigPack (u15.2.1, u15.1.1.2.1, ())).bind fun u16 =>
  (laws_eqByteS u16.2.1 u3.2.1).bind fun u17 =>
  cond (!u17.1.1)
    (some ((false, ()), ()))
  (cond ((u16.1.1.2.1 != u3.1.1.2.1))
    (some ((false, ()), ()))
  ((laws_heldByteS u13.2.1 1).bind fun u19 =>
  cond (decide (u19.1.1 < 0))
    (some ((false, ()), ()))
  (cond (u19.1.1 != u13.1.1)
    (some ((false, ()), ()))
  (some ((true, ()), ()))))))))))))))

/-- laws.toByteS -/
abbrev V_laws_toByteS : Type := (Unit × Unit) × (List Int × Unit)
def laws_toByteS_step3 (R3 : List Int → Int → List Int → Option V_laws_toByteS) (t0 : List Int) (t4 : Int) (b0 : List Int) : Option V_laws_toByteS :=
  cond ((decide (t4 < (t0.length : Int))))
    (if (0 : Int) ≤ t4 ∧ t4 < (t0.length : Int) then (
    if (0 : Int) ≤ t4 ∧ t4 < (b0.length : Int) then (
    R3 t0 (w64 (t4 + 1)) (b0.set (t4.toNat) (t0.getD (t4.toNat) 0))) else none) else none)
  (some (((), ()), (b0, ())))
def laws_toByteS_L3 : Nat → List Int → Int → List Int → Option V_laws_toByteS
  | 0, _, _, _ => none
  | n + 1, a0, a1, a2 => laws_toByteS_step3 (laws_toByteS_L3 n) a0 a1 a2
def laws_toByteS_entry (R3 : List Int → Int → List Int → Option V_laws_toByteS) (p0 : List Int) : Option V_laws_toByteS :=
  if (0 : Int) ≤ (p0.length : Int) ∧ (p0.length : Int) ≤ (p0.length : Int) ∧ (p0.length : Int) ≤ (LIM : Int) then (
  R3 p0 0 (List.replicate ((p0.length : Int).toNat) 0)) else none
def laws_toByteS (p0 : List Int) : Option V_laws_toByteS := laws_toByteS_entry (laws_toByteS_L3 FUEL) p0

/-- spec.GetNum -/
abbrev V_spec_GetNum : Type := ((Int × Int × Bool × Unit) × Unit) × Unit
def spec_GetNum_step6 (R6 : List Int → Int → Int → Int → Int → Option V_spec_GetNum) (t0 : List Int) (t1 : Int) (t7 : Int) (t8 : Int) (t9 : Int) : Option V_spec_GetNum :=
  cond (decide (t9 < 9))
    (cond ((decide ((w64 (t1 + t9)) < (t0.length : Int))))
      (if (0 : Int) ≤ w64 (t1 + t9) ∧ w64 (t1 + t9) < (t0.length : Int) then (
      let x3 : Int := (t0.getD ((w64 (t1 + t9)).toNat) 0)
      let x4 : Int := w64 (((w64 (x3)).tmod 128) * t8)
      cond ((decide ((w64 (x3)) < 128)))
        (cond ((w64 (x3)) == 0)
          (cond (decide (t9 > 0))
            (some (((0, 0, false, ()), ()), ()))
          (some (((w64 (t7 + x4), (w64 ((w64 (t1 + t9)) + 1)), true, ()), ()), ())))
        (some (((w64 (t7 + x4), (w64 ((w64 (t1 + t9)) + 1)), true, ()), ()), ())))
      (R6 t0 t1 (w64 (t7 + x4)) (w64 (t8 * 128)) (w64 (t9 + 1)))) else none)
    (some (((0, 0, false, ()), ()), ())))
  (some (((0, 0, false, ()), ()), ()))
def spec_GetNum_L6 : Nat → List Int → Int → Int → Int → Int → Option V_spec_GetNum
  | 0, _, _, _, _, _ => none
  | n + 1, a0, a1, a2, a3, a4 => spec_GetNum_step6 (spec_GetNum_L6 n) a0 a1 a2 a3 a4
def spec_GetNum_entry (R6 : List Int → Int → Int → Int → Int → Option V_spec_GetNum) (p0 : List Int) (p1 : Int) : Option V_spec_GetNum :=
  cond (decide (p1 < 0))
    (some (((0, 0, false, ()), ()), ()))
  (cond ((decide (p1 ≥ (p0.length : Int))))
    (some (((0, 0, false, ()), ()), ()))
  (R6 p0 p1 0 1 0))
def spec_GetNum (p0 : List Int) (p1 : Int) : Option V_spec_GetNum := spec_GetNum_entry (spec_GetNum_L6 FUEL) p0 p1

/-- spec.l17Num -/
abbrev V_spec_l17Num : Type := (Int × Unit) × ((Unit × Int × Bool × Unit) × List Int × Unit)
def spec_l17Num (b0_1 : Int) (b0_2 : Bool) (b1 : List Int) : Option V_spec_l17Num :=
  (spec_GetNum b1 b0_1).bind fun u1 =>
  cond (!u1.1.1.2.2.1)
    (some ((0, ()), (((), b0_1, false, ()), b1, ())))
  (cond (!b0_2)
    (some ((0, ()), (((), b0_1, false, ()), b1, ())))
  (some ((u1.1.1.1, ()), (((), u1.1.1.2.1, b0_2, ()), b1, ()))))

/-- spec.l17Nums -/
abbrev V_spec_l17Nums : Type := (Unit × Unit) × ((Unit × Int × Bool × Unit) × List Int × List Int × Unit)
def spec_l17Nums_step4 (R4 : Int → Int → Int → Bool → List Int → List Int → Option V_spec_l17Nums) (t3 : Int) (t5 : Int) (b0_1 : Int) (b0_2 : Bool) (b1 : List Int) (b2 : List Int) : Option V_spec_l17Nums :=
  cond (decide (t5 < t3))
    (cond (b0_2)
      ((spec_l17Num b0_1 b0_2 b1).bind fun u2 =>
      if b2.length + 1 ≤ LIM then (
      R4 t3 (w64 (t5 + 1)) u2.2.1.2.1 u2.2.1.2.2.1 u2.2.2.1 (b2 ++ [u2.1.1])) else none)
    (some (((), ()), (((), b0_1, b0_2, ()), b1, b2, ()))))
  (some (((), ()), (((), b0_1, b0_2, ()), b1, b2, ())))
def spec_l17Nums_L4 : Nat → Int → Int → Int → Bool → List Int → List Int → Option V_spec_l17Nums
  | 0, _, _, _, _, _, _ => none
  | n + 1, a0, a1, a2, a3, a4, a5 => spec_l17Nums_step4 (spec_l17Nums_L4 n) a0 a1 a2 a3 a4 a5
def spec_l17Nums_entry (R4 : Int → Int → Int → Bool → List Int → List Int → Option V_spec_l17Nums) (b0_1 : Int) (b0_2 : Bool) (b1 : List Int) : Option V_spec_l17Nums :=
  (spec_l17Num b0_1 b0_2 b1).bind fun u1 =>
  R4 u1.1.1 0 u1.2.1.2.1 u1.2.1.2.2.1 u1.2.2.1 []
def spec_l17Nums (b0_1 : Int) (b0_2 : Bool) (b1 : List Int) : Option V_spec_l17Nums := spec_l17Nums_entry (spec_l17Nums_L4 FUEL) b0_1 b0_2 b1

/-- spec.l17End -/
abbrev V_spec_l17End : Type := (Bool × Unit) × ((Unit × Int × Bool × Unit) × List Int × Unit)
def spec_l17End (b0_1 : Int) (b0_2 : Bool) (b1 : List Int) : Option V_spec_l17End :=
  cond (b0_2)
    (some (((b0_1 == (b1.length : Int)), ()), (((), b0_1, b0_2, ()), b1, ())))
  (some ((false, ()), (((), b0_1, b0_2, ()), b1, ())))

/-- spec.ConfigRead -/
abbrev V_spec_ConfigRead : Type := (((Unit × Int × Unit) × Bool × Unit) × Unit) × (List Int × List Int × Unit)
def spec_ConfigRead (b0 : List Int) : Option V_spec_ConfigRead :=
  (spec_l17Nums 0 true b0).bind fun u1 =>
  (spec_l17Num u1.2.1.2.1 u1.2.1.2.2.1 u1.2.2.1).bind fun u2 =>
  (spec_l17End u2.2.1.2.1 u2.2.1.2.2.1 u2.2.2.1).bind fun u3 =>
  cond (!u3.1.1)
    (some (((((), 0, ()), false, ()), ()), (u3.2.2.1, [], ())))
  ((spec_ConfigOk (u1.2.2.2.1, u2.1.1, ())).bind fun u4 =>
  cond (!u4.1.1)
    (some (((((), 0, ()), false, ()), ()), (u3.2.2.1, [], ())))
  (some (((((), u2.1.1, ()), true, ()), ()), (u3.2.2.1, u1.2.2.2.1, ()))))

/-- impl.GetNum -/
abbrev V_impl_GetNum : Type := ((Int × Int × Bool × Unit) × Unit) × Unit
def impl_GetNum_step5 (R5 : List Int → Int → Int → Int → Option V_impl_GetNum) (t0 : List Int) (t1 : Int) (t7 : Int) (t8 : Int) : Option V_impl_GetNum :=
  cond (decide (t8 < 9))
    (cond (decide (t8 < (w64 ((t0.length : Int) - t1))))
      (if (0 : Int) ≤ w64 (t1 + t8) ∧ w64 (t1 + t8) < (t0.length : Int) then (
      let x2 : Int := (t0.getD ((w64 (t1 + t8)).toNat) 0)
      if w64 (7 * t8) < 0 then none else (
      let x4 : Int := w64 ((bAnd .i64 (w64 (x2)) 127) * 2 ^ (min (w64 (7 * t8)).toNat 64))
      cond ((decide ((w64 (x2)) > 127)))
        (R5 t0 t1 (bOr .i64 t7 x4) (w64 (t8 + 1)))
      (cond (decide (t8 > 0))
        (cond ((w64 (x2)) == 0)
          (some (((0, 0, false, ()), ()), ()))
        (some (((bOr .i64 t7 x4, (w64 ((w64 (t1 + t8)) + 1)), true, ()), ()), ())))
      (some (((bOr .i64 t7 x4, (w64 ((w64 (t1 + t8)) + 1)), true, ()), ()), ()))))) else none)
    (some (((0, 0, false, ()), ()), ())))
  (some (((0, 0, false, ()), ()), ()))
def impl_GetNum_L5 : Nat → List Int → Int → Int → Int → Option V_impl_GetNum
  | 0, _, _, _, _ => none
  | n + 1, a0, a1, a2, a3 => impl_GetNum_step5 (impl_GetNum_L5 n) a0 a1 a2 a3
def impl_GetNum_entry (R5 : List Int → Int → Int → Int → Option V_impl_GetNum) (p0 : List Int) (p1 : Int) : Option V_impl_GetNum :=
  cond (decide (p1 < 0))
    (some (((0, 0, false, ()), ()), ()))
  (R5 p0 p1 0 0)
def impl_GetNum (p0 : List Int) (p1 : Int) : Option V_impl_GetNum := impl_GetNum_entry (impl_GetNum_L5 FUEL) p0 p1

/-- (*impl.reader).num -/
abbrev V_impl_reader_num : Type := (Int × Unit) × ((Unit × Int × Bool × Unit) × List Int × Unit)
def impl_reader_num (b0_1 : Int) (b0_2 : Bool) (b1 : List Int) : Option V_impl_reader_num :=
  (impl_GetNum b1 b0_1).bind fun u1 =>
  cond (b0_2)
    (some ((0, ()), (((), b0_1, true, ()), b1, ())))
  (cond (!u1.1.1.2.2.1)
    (some ((0, ()), (((), b0_1, true, ()), b1, ())))
  (some ((u1.1.1.1, ()), (((), u1.1.1.2.1, b0_2, ()), b1, ()))))

/-- (*impl.reader).count -/
abbrev V_impl_reader_count : Type := (Int × Unit) × ((Unit × Int × Bool × Unit) × List Int × Unit)
def impl_reader_count (p1 : Int) (b0_1 : Int) (b0_2 : Bool) (b1 : List Int) : Option V_impl_reader_count :=
  (impl_reader_num b0_1 b0_2 b1).bind fun u1 =>
  cond (decide (u1.1.1 > p1))
    (some ((0, ()), (((), u1.2.1.2.1, true, ()), u1.2.2.1, ())))
  (some ((u1.1.1, ()), (((), u1.2.1.2.1, u1.2.1.2.2.1, ()), u1.2.2.1, ())))

/-- (*impl.reader).list -/
abbrev V_impl_reader_list : Type := (Unit × Unit) × ((Unit × Int × Bool × Unit) × List Int × List Int × Unit)
def impl_reader_list_step4 (R4 : Int → Int → Int → Bool → List Int → List Int → Option V_impl_reader_list) (t12 : Int) (t13 : Int) (b0_1 : Int) (b0_2 : Bool) (b1 : List Int) (b2 : List Int) : Option V_impl_reader_list :=
  cond (decide (t13 < t12))
    ((impl_reader_num b0_1 b0_2 b1).bind fun u2 =>
    if b2.length + 1 ≤ LIM then (
    R4 t12 (w64 (t13 + 1)) u2.2.1.2.1 u2.2.1.2.2.1 u2.2.2.1 (b2 ++ [u2.1.1])) else none)
  (some (((), ()), (((), b0_1, b0_2, ()), b1, b2, ())))
def impl_reader_list_L4 : Nat → Int → Int → Int → Bool → List Int → List Int → Option V_impl_reader_list
  | 0, _, _, _, _, _, _ => none
  | n + 1, a0, a1, a2, a3, a4, a5 => impl_reader_list_step4 (impl_reader_list_L4 n) a0 a1 a2 a3 a4 a5
def impl_reader_list_entry (R4 : Int → Int → Int → Bool → List Int → List Int → Option V_impl_reader_list) (p1 : Int) (b0_1 : Int) (b0_2 : Bool) (b1 : List Int) : Option V_impl_reader_list :=
  (impl_reader_count p1 b0_1 b0_2 b1).bind fun u1 =>
  R4 u1.1.1 0 u1.2.1.2.1 u1.2.1.2.2.1 u1.2.2.1 []
def impl_reader_list (p1 : Int) (b0_1 : Int) (b0_2 : Bool) (b1 : List Int) : Option V_impl_reader_list := impl_reader_list_entry (impl_reader_list_L4 FUEL) p1 b0_1 b0_2 b1

/-- (*impl.reader).done -/
abbrev V_impl_reader_done : Type := (Bool × Unit) × ((Unit × Int × Bool × Unit) × List Int × Unit)
def impl_reader_done (b0_1 : Int) (b0_2 : Bool) (b1 : List Int) : Option V_impl_reader_done :=
  cond (!b0_2)
    (some (((b0_1 == (b1.length : Int)), ()), (((), b0_1, b0_2, ()), b1, ())))
  (some ((false, ()), (((), b0_1, b0_2, ()), b1, ())))

/-- impl.ConfigRead -/
abbrev V_impl_ConfigRead : Type := (((Unit × Int × Unit) × Bool × Unit) × Unit) × (List Int × List Int × Unit)
def impl_ConfigRead (b0 : List Int) : Option V_impl_ConfigRead :=
  (impl_reader_list 8 0 false b0).bind fun u1 =>
  (impl_reader_num u1.2.1.2.1 u1.2.1.2.2.1 u1.2.2.1).bind fun u2 =>
  (impl_reader_done u2.2.1.2.1 u2.2.1.2.2.1 u2.2.2.1).bind fun u3 =>
  cond (!u3.1.1)
    (some (((((), 0, ()), false, ()), ()), (u3.2.2.1, [], ())))
  ((impl_ConfigOk (u1.2.2.2.1, u2.1.1, ())).bind fun u4 =>
  cond (!u4.1.1)
    (some (((((), 0, ()), false, ()), ()), (u3.2.2.1, [], ())))
  (some (((((), u2.1.1, ()), true, ()), ()), (u3.2.2.1, u1.2.2.2.1, ()))))

/-- laws.heldIntS -/
abbrev V_laws_heldIntS : Type := (Int × Unit) × Unit
def laws_heldIntS_step2 (R2 : List Int → Int → Int → Option V_laws_heldIntS) (t0 : List Int) (t1 : Int) (t5 : Int) : Option V_laws_heldIntS :=
  cond ((decide (t5 < (t0.length : Int))))
    (if (0 : Int) ≤ t5 ∧ t5 < (t0.length : Int) then (
    cond ((t0.getD (t5.toNat) 0) != t1)
      (some (((-1), ()), ()))
    (R2 t0 (w64 (t1 + 1)) (w64 (t5 + 1)))) else none)
  (some ((t1, ()), ()))
def laws_heldIntS_L2 : Nat → List Int → Int → Int → Option V_laws_heldIntS
  | 0, _, _, _ => none
  | n + 1, a0, a1, a2 => laws_heldIntS_step2 (laws_heldIntS_L2 n) a0 a1 a2
def laws_heldIntS_entry (R2 : List Int → Int → Int → Option V_laws_heldIntS) (p0 : List Int) (p1 : Int) : Option V_laws_heldIntS :=
  R2 p0 p1 0
def laws_heldIntS (p0 : List Int) (p1 : Int) : Option V_laws_heldIntS := laws_heldIntS_entry (laws_heldIntS_L2 FUEL) p0 p1

/-- laws.heldConfig -/
abbrev V_laws_heldConfig : Type := (Int × Unit) × Unit
def laws_heldConfig (p0 : List Int × Int × Unit) (p1 : Int) : Option V_laws_heldConfig :=
  (laws_heldIntS p0.1 p1).bind fun u1 =>
  cond (decide (u1.1.1 < 0))
    (some (((-1), ()), ()))
  (some ((u1.1.1, ()), ()))

/-- laws.FnExactConfigRead -/
abbrev V_laws_FnExactConfigRead : Type := (Bool × Unit) × Unit
def laws_FnExactConfigRead (p0 : List Int) : Option V_laws_FnExactConfigRead :=
  cond ((decide ((p0.length : Int) > 1048576)))
    (some ((true, ()), ()))
  ((laws_toByteS p0).bind fun u2 =>
  (spec_ConfigRead u2.2.1).bind fun u3 =>
  (laws_toByteS p0).bind fun u4 =>
  (impl_ConfigRead u4.2.1).bind fun u5 =>
  (laws_eqConfig (u5.2.2.1, u5.1.1.1.2.1, ()) (u3.2.2.1, u3.1.1.1.2.1, ())).bind fun u6 =>
  cond (!u6.1.1)
    (some ((false, ()), ()))
  (cond ((u5.1.1.2.1 != u3.1.1.2.1))
    (some ((false, ()), ()))
  ((laws_toByteS p0).bind fun u8 =>
  (laws_eqByteS u5.2.1 u8.2.1).bind fun u9 =>
  cond (!u9.1.1)
    (some ((false, ()), ()))
  ((laws_markByteS 1 u5.2.1).bind fun u10 =>
  cond (decide (u10.1.1 < 0))
    (some ((false, ()), ()))
  ((laws_eqConfig (u5.2.2.1, u5.1.1.1.2.1, ()) (u3.2.2.1, u3.1.1.1.2.1, ())).bind fun u11 =>
  cond (!u11.1.1)
    (some ((false, ()), ()))
  (cond ((u5.1.1.2.1 != u3.1.1.2.1))
    (some ((false, ()), ()))
  ((laws_markConfig u5.1.1.1.2.1 1 u5.2.2.1).bind fun u13 =>
  (laws_heldConfig (u13.2.1, u5.1.1.1.2.1, ()) 1).bind fun u14 =>
  cond (decide (u14.1.1 < 0))
    (some ((false, ()), ()))
  (cond (u14.1.1 != u13.1.1)
    (some ((false, ()), ()))
  ((laws_toByteS p0).bind fun u15 =>
  (impl_ConfigRead u15.2.1).bind fun u16 =>
  (laws_eqConfig (u16.2.2.1, u16.1.1.1.2.1, ()) (u3.2.2.1, u3.1.1.1.2.1, ())).bind fun u17 =>
  cond (!u17.1.1)
    (some ((false, ()), ()))
  (cond ((u16.1.1.2.1 != u3.1.1.2.1))
    (some ((false, ()), ()))
  ((laws_heldConfig (u13.2.1, u5.1.1.1.2.1, ()) 1).bind fun u19 =>
  cond (decide (u19.1.1 < 0))
    (some ((false, ()), ()))
  (cond (u19.1.1 != u13.1.1)
    (some ((false, ()), ()))
  (some ((true, ()), ()))))))))))))))

/-- laws.szEvent -/
abbrev V_laws_szEvent : Type := (Int × Unit) × Unit
def laws_szEvent (p0 : Int × Int × List UInt8 × Unit) (p1 : Int) : Option V_laws_szEvent :=
  let x1 : Int := (p0.2.2.1.length : Int)
  cond ((decide ((w64 (p1 - x1)) < 0)))
    (some (((-1), ()), ()))
  (some ((w64 (p1 - x1), ()), ()))

/-- laws.szEventS -/
abbrev V_laws_szEventS : Type := (Int × Unit) × Unit
def laws_szEventS_step5 (R5 : (List (Int × Int × List UInt8 × Unit)) → Int → Int → Option V_laws_szEventS) (t0 : List (Int × Int × List UInt8 × Unit)) (t1 : Int) (t5 : Int) : Option V_laws_szEventS :=
  cond ((decide (t5 < (t0.length : Int))))
    (if (0 : Int) ≤ t5 ∧ t5 < (t0.length : Int) then (
    (laws_szEvent ((t0.getD (t5.toNat) (0, 0, [], ())).1, (t0.getD (t5.toNat) (0, 0, [], ())).2.1, (t0.getD (t5.toNat) (0, 0, [], ())).2.2.1, ()) t1).bind fun u3 =>
    cond (decide (u3.1.1 < 0))
      (some (((-1), ()), ()))
    (R5 t0 u3.1.1 (w64 (t5 + 1)))) else none)
  (some ((t1, ()), ()))
def laws_szEventS_L5 : Nat → (List (Int × Int × List UInt8 × Unit)) → Int → Int → Option V_laws_szEventS
  | 0, _, _, _ => none
  | n + 1, a0, a1, a2 => laws_szEventS_step5 (laws_szEventS_L5 n) a0 a1 a2
def laws_szEventS_entry (R5 : (List (Int × Int × List UInt8 × Unit)) → Int → Int → Option V_laws_szEventS) (p0 : List (Int × Int × List UInt8 × Unit)) (p1 : Int) : Option V_laws_szEventS :=
  let x1 : Int := w64 (p1 - (p0.length : Int))
  cond (decide (x1 < 0))
    (some (((-1), ()), ()))
  (R5 p0 x1 0)
def laws_szEventS (p0 : List (Int × Int × List UInt8 × Unit)) (p1 : Int) : Option V_laws_szEventS := laws_szEventS_entry (laws_szEventS_L5 FUEL) p0 p1

/-- laws.szReader -/
abbrev V_laws_szReader : Type := (Int × Unit) × Unit
def laws_szReader (p0 : Int × Int × List (Int × Int × List UInt8 × Unit) × Unit) (p1 : Int) : Option V_laws_szReader :=
  (laws_szEventS p0.2.2.1 p1).bind fun u1 =>
  cond (decide (u1.1.1 < 0))
    (some (((-1), ()), ()))
  (some ((u1.1.1, ()), ()))

/-- laws.toEvent -/
abbrev V_laws_toEvent : Type := ((Int × Int × List UInt8 × Unit) × Unit) × Unit
def laws_toEvent (p0 : Int × Int × List UInt8 × Unit) : Option V_laws_toEvent :=
  some (((p0.1, p0.2.1, p0.2.2.1, ()), ()), ())

/-- laws.toEventS -/
abbrev V_laws_toEventS : Type := (Unit × Unit) × ((List (Int × Int × List UInt8 × Unit)) × Unit)
def laws_toEventS_step3 (R3 : (List (Int × Int × List UInt8 × Unit)) → Int → (List (Int × Int × List UInt8 × Unit)) → Option V_laws_toEventS) (t0 : List (Int × Int × List UInt8 × Unit)) (t4 : Int) (b0 : List (Int × Int × List UInt8 × Unit)) : Option V_laws_toEventS :=
  cond ((decide (t4 < (t0.length : Int))))
    (if (0 : Int) ≤ t4 ∧ t4 < (t0.length : Int) then (
    (laws_toEvent ((t0.getD (t4.toNat) (0, 0, [], ())).1, (t0.getD (t4.toNat) (0, 0, [], ())).2.1, (t0.getD (t4.toNat) (0, 0, [], ())).2.2.1, ())).bind fun u3 =>
    if (0 : Int) ≤ t4 ∧ t4 < (b0.length : Int) then (
    R3 t0 (w64 (t4 + 1)) (b0.set (t4.toNat) (u3.1.1.1, u3.1.1.2.1, u3.1.1.2.2.1, ()))) else none) else none)
  (some (((), ()), (b0, ())))
def laws_toEventS_L3 : Nat → (List (Int × Int × List UInt8 × Unit)) → Int → (List (Int × Int × List UInt8 × Unit)) → Option V_laws_toEventS
  | 0, _, _, _ => none
  | n + 1, a0, a1, a2 => laws_toEventS_step3 (laws_toEventS_L3 n) a0 a1 a2
def laws_toEventS_entry (R3 : (List (Int × Int × List UInt8 × Unit)) → Int → (List (Int × Int × List UInt8 × Unit)) → Option V_laws_toEventS) (p0 : List (Int × Int × List UInt8 × Unit)) : Option V_laws_toEventS :=
  if (0 : Int) ≤ (p0.length : Int) ∧ (p0.length : Int) ≤ (p0.length : Int) ∧ (p0.length : Int) ≤ (LIM : Int) then (
  R3 p0 0 (List.replicate ((p0.length : Int).toNat) (0, 0, [], ()))) else none
def laws_toEventS (p0 : List (Int × Int × List UInt8 × Unit)) : Option V_laws_toEventS := laws_toEventS_entry (laws_toEventS_L3 FUEL) p0

/-- laws.toReader -/
abbrev V_laws_toReader : Type := ((Int × Int × Unit × Unit) × Unit) × ((List (Int × Int × List UInt8 × Unit)) × Unit)
def laws_toReader (p0 : Int × Int × List (Int × Int × List UInt8 × Unit) × Unit) : Option V_laws_toReader :=
  (laws_toEventS p0.2.2.1).bind fun u1 =>
  some (((p0.1, p0.2.1, (), ()), ()), (u1.2.1, ()))

/-- spec.l17Event -/
abbrev V_spec_l17Event : Type := (Bool × Unit) × Unit
def spec_l17Event (p0 : Int × Int × List UInt8 × Unit) : Option V_spec_l17Event :=
  (spec_l1In p0.1 1 5).bind fun u1 =>
  cond (u1.1.1)
    (cond (decide (p0.2.1 ≥ 0))
      (some ((decide ((p0.2.2.1.length : Int) ≤ 40), ()), ()))
    (some ((false, ()), ())))
  (some ((false, ()), ()))

/-- spec.ReaderOk -/
abbrev V_spec_ReaderOk : Type := (Bool × Unit) × Unit
def spec_ReaderOk (p0 : Int × Int × List (Int × Int × List UInt8 × Unit) × Unit) : Option V_spec_ReaderOk :=
  (spec_l1In p0.1 1 31).bind fun u1 =>
  cond (u1.1.1)
    ((spec_l1In p0.2.1 1 61).bind fun u2 =>
    cond (u2.1.1)
      (some ((decide ((p0.2.2.1.length : Int) ≤ 120), ()), ()))
    (some ((false, ()), ())))
  (some ((false, ()), ()))

/-- spec.l17Reader -/
abbrev V_spec_l17Reader : Type := (Bool × Unit) × Unit
def spec_l17Reader_step2 (R2 : Int → Int → Int → (List (Int × Int × List UInt8 × Unit)) → Option V_spec_l17Reader) (t3 : Int) (b0_0 : Int) (b0_1 : Int) (b0_2 : List (Int × Int × List UInt8 × Unit)) : Option V_spec_l17Reader :=
  cond ((decide (t3 < (b0_2.length : Int))))
    (if (0 : Int) ≤ t3 ∧ t3 < (b0_2.length : Int) then (
    (spec_l17Event ((b0_2.getD (t3.toNat) (0, 0, [], ())).1, (b0_2.getD (t3.toNat) (0, 0, [], ())).2.1, (b0_2.getD (t3.toNat) (0, 0, [], ())).2.2.1, ())).bind fun u2 =>
    cond (!u2.1.1)
      (some ((false, ()), ()))
    (R2 (w64 (t3 + 1)) b0_0 b0_1 b0_2)) else none)
  ((spec_ReaderOk (b0_0, b0_1, b0_2, ())).bind fun u3 =>
  some ((u3.1.1, ()), ()))
def spec_l17Reader_L2 : Nat → Int → Int → Int → (List (Int × Int × List UInt8 × Unit)) → Option V_spec_l17Reader
  | 0, _, _, _, _ => none
  | n + 1, a0, a1, a2, a3 => spec_l17Reader_step2 (spec_l17Reader_L2 n) a0 a1 a2 a3
def spec_l17Reader_entry (R2 : Int → Int → Int → (List (Int × Int × List UInt8 × Unit)) → Option V_spec_l17Reader) (p0 : Int × Int × List (Int × Int × List UInt8 × Unit) × Unit) : Option V_spec_l17Reader :=
  R2 0 p0.1 p0.2.1 p0.2.2.1
def spec_l17Reader (p0 : Int × Int × List (Int × Int × List UInt8 × Unit) × Unit) : Option V_spec_l17Reader := spec_l17Reader_entry (spec_l17Reader_L2 FUEL) p0

/-- spec.PutText -/
abbrev V_spec_PutText : Type := (Unit × Unit) × (List Int × Unit)
def spec_PutText (p0 : List UInt8) : Option V_spec_PutText :=
  (spec_PutNum (p0.length : Int)).bind fun u1 =>
  if p0.length ≤ LIM then (
  let x2 : List Int := (p0.map fun c => (c.toNat : Int))
  if u1.2.1.length + x2.length ≤ LIM then (
  some (((), ()), (u1.2.1 ++ x2, ()))) else none) else none

/-- spec.ReaderPack -/
abbrev V_spec_ReaderPack : Type := ((Unit × Bool × Unit) × Unit) × (List Int × Unit)
def spec_ReaderPack_step5 (R5 : Int → Int → Int → (List (Int × Int × List UInt8 × Unit)) → List Int → Option V_spec_ReaderPack) (t5 : Int) (b0_0 : Int) (b0_1 : Int) (b0_2 : List (Int × Int × List UInt8 × Unit)) (b1 : List Int) : Option V_spec_ReaderPack :=
  cond ((decide (t5 < (b0_2.length : Int))))
    (if (0 : Int) ≤ t5 ∧ t5 < (b0_2.length : Int) then (
    (spec_PutNum ((b0_2.getD (t5.toNat) (0, 0, [], ())).1)).bind fun u10 =>
    if b1.length + u10.2.1.length ≤ LIM then (
    (spec_PutNum ((b0_2.getD (t5.toNat) (0, 0, [], ())).2.1)).bind fun u11 =>
    if (b1 ++ u10.2.1).length + u11.2.1.length ≤ LIM then (
    let x12 : List Int := (b1 ++ u10.2.1) ++ u11.2.1
    (spec_PutText ((b0_2.getD (t5.toNat) (0, 0, [], ())).2.2.1)).bind fun u14 =>
    if x12.length + u14.2.1.length ≤ LIM then (
    R5 (w64 (t5 + 1)) b0_0 b0_1 b0_2 (x12 ++ u14.2.1)) else none) else none) else none) else none)
  (some ((((), true, ()), ()), (b1, ())))
def spec_ReaderPack_L5 : Nat → Int → Int → Int → (List (Int × Int × List UInt8 × Unit)) → List Int → Option V_spec_ReaderPack
  | 0, _, _, _, _, _ => none
  | n + 1, a0, a1, a2, a3, a4 => spec_ReaderPack_step5 (spec_ReaderPack_L5 n) a0 a1 a2 a3 a4
def spec_ReaderPack_entry (R5 : Int → Int → Int → (List (Int × Int × List UInt8 × Unit)) → List Int → Option V_spec_ReaderPack) (p0 : Int × Int × List (Int × Int × List UInt8 × Unit) × Unit) : Option V_spec_ReaderPack :=
  (spec_l17Reader (p0.1, p0.2.1, p0.2.2.1, ())).bind fun u1 =>
  cond (!u1.1.1)
    (some ((((), false, ()), ()), ([], ())))
  ((spec_PutNum p0.1).bind fun u3 =>
  (spec_PutNum p0.2.1).bind fun u4 =>
  if u3.2.1.length + u4.2.1.length ≤ LIM then (
  (spec_PutNum (p0.2.2.1.length : Int)).bind fun u5 =>
  if (u3.2.1 ++ u4.2.1).length + u5.2.1.length ≤ LIM then (
  R5 0 p0.1 p0.2.1 p0.2.2.1 ((u3.2.1 ++ u4.2.1) ++ u5.2.1)) else none) else none)
def spec_ReaderPack (p0 : Int × Int × List (Int × Int × List UInt8 × Unit) × Unit) : Option V_spec_ReaderPack := spec_ReaderPack_entry (spec_ReaderPack_L5 FUEL) p0

/-- impl.ReaderOk -/
abbrev V_impl_ReaderOk : Type := (Bool × Unit) × Unit
def impl_ReaderOk (p0 : Int × Int × List (Int × Int × List UInt8 × Unit) × Unit) : Option V_impl_ReaderOk :=
  (impl_within p0.1 1 31).bind fun u1 =>
  cond (u1.1.1)
    ((impl_within p0.2.1 1 61).bind fun u2 =>
    cond (u2.1.1)
      (some ((decide ((p0.2.2.1.length : Int) ≤ 120), ()), ()))
    (some ((false, ()), ())))
  (some ((false, ()), ()))

/-- impl.dataOk -/
abbrev V_impl_dataOk : Type := (Bool × Unit) × Unit
def impl_dataOk (p0 : List UInt8) : Option V_impl_dataOk :=
  some (((decide ((p0.length : Int) ≤ 40)), ()), ())

/-- impl.eventFits -/
abbrev V_impl_eventFits : Type := (Bool × Unit) × Unit
def impl_eventFits (p0 : Int × Int × List UInt8 × Unit) : Option V_impl_eventFits :=
  (impl_within p0.1 1 5).bind fun u1 =>
  cond (u1.1.1)
    (cond (decide (p0.2.1 ≥ 0))
      ((impl_dataOk p0.2.2.1).bind fun u2 =>
      some ((u2.1.1, ()), ()))
    (some ((false, ()), ())))
  (some ((false, ()), ()))

/-- impl.PutText -/
abbrev V_impl_PutText : Type := (Unit × Unit) × (List Int × Unit)
def impl_PutText (p0 : List UInt8) : Option V_impl_PutText :=
  (impl_PutNum (p0.length : Int)).bind fun u1 =>
  if u1.2.1.length + (p0.map fun c => (c.toNat : Int)).length ≤ LIM then (
  some (((), ()), ((u1.2.1 ++ (p0.map fun c => (c.toNat : Int))), ()))) else none

/-- impl.ReaderPack -/
abbrev V_impl_ReaderPack : Type := ((Unit × Bool × Unit) × Unit) × (List Int × Unit)
def impl_ReaderPack_step5 (R5 : (List (Int × Int × List UInt8 × Unit)) → Int → Int → List Int → Option V_impl_ReaderPack) (t20 : List (Int × Int × List UInt8 × Unit)) (t21 : Int) (t22 : Int) (b0 : List Int) : Option V_impl_ReaderPack :=
  cond (decide (t22 < t21))
    (if (0 : Int) ≤ t22 ∧ t22 < (t20.length : Int) then (
    (impl_eventFits ((t20.getD (t22.toNat) (0, 0, [], ())).1, (t20.getD (t22.toNat) (0, 0, [], ())).2.1, (t20.getD (t22.toNat) (0, 0, [], ())).2.2.1, ())).bind fun u5 =>
    cond (!u5.1.1)
      (some ((((), false, ()), ()), ([], ())))
    ((impl_putNums [((t20.getD (t22.toNat) (0, 0, [], ())).1), ((t20.getD (t22.toNat) (0, 0, [], ())).2.1)]).bind fun u8 =>
    if b0.length + u8.2.1.length ≤ LIM then (
    (impl_PutText ((t20.getD (t22.toNat) (0, 0, [], ())).2.2.1)).bind fun u10 =>
    if (b0 ++ u8.2.1).length + u10.2.1.length ≤ LIM then (
    R5 t20 t21 (w64 (t22 + 1)) ((b0 ++ u8.2.1) ++ u10.2.1)) else none) else none)) else none)
  (some ((((), true, ()), ()), (b0, ())))
def impl_ReaderPack_L5 : Nat → (List (Int × Int × List UInt8 × Unit)) → Int → Int → List Int → Option V_impl_ReaderPack
  | 0, _, _, _, _ => none
  | n + 1, a0, a1, a2, a3 => impl_ReaderPack_step5 (impl_ReaderPack_L5 n) a0 a1 a2 a3
def impl_ReaderPack_entry (R5 : (List (Int × Int × List UInt8 × Unit)) → Int → Int → List Int → Option V_impl_ReaderPack) (p0 : Int × Int × List (Int × Int × List UInt8 × Unit) × Unit) : Option V_impl_ReaderPack :=
  (impl_ReaderOk (p0.1, p0.2.1, p0.2.2.1, ())).bind fun u1 =>
  cond (!u1.1.1)
    (some ((((), false, ()), ()), ([], ())))
  ((impl_putNums [p0.1, p0.2.1, (p0.2.2.1.length : Int)]).bind fun u3 =>
  R5 p0.2.2.1 (p0.2.2.1.length : Int) 0 u3.2.1)
def impl_ReaderPack (p0 : Int × Int × List (Int × Int × List UInt8 × Unit) × Unit) : Option V_impl_ReaderPack := impl_ReaderPack_entry (impl_ReaderPack_L5 FUEL) p0

/-- laws.eqEvent -/
abbrev V_laws_eqEvent : Type := (Bool × Unit) × Unit
def laws_eqEvent (p0 : Int × Int × List UInt8 × Unit) (p1 : Int × Int × List UInt8 × Unit) : Option V_laws_eqEvent :=
  cond (p0.1 != p1.1)
    (some ((false, ()), ()))
  (cond (p0.2.1 != p1.2.1)
    (some ((false, ()), ()))
  (cond ((!(p0.2.2.1 == p1.2.2.1)))
    (some ((false, ()), ()))
  (some ((true, ()), ()))))

/-- laws.eqEventS -/
abbrev V_laws_eqEventS : Type := (Bool × Unit) × Unit
def laws_eqEventS_step4 (R4 : (List (Int × Int × List UInt8 × Unit)) → (List (Int × Int × List UInt8 × Unit)) → Int → Option V_laws_eqEventS) (t0 : List (Int × Int × List UInt8 × Unit)) (t1 : List (Int × Int × List UInt8 × Unit)) (t5 : Int) : Option V_laws_eqEventS :=
  cond ((decide (t5 < (t0.length : Int))))
    (if (0 : Int) ≤ t5 ∧ t5 < (t0.length : Int) then (
    if (0 : Int) ≤ t5 ∧ t5 < (t1.length : Int) then (
    (laws_eqEvent ((t0.getD (t5.toNat) (0, 0, [], ())).1, (t0.getD (t5.toNat) (0, 0, [], ())).2.1, (t0.getD (t5.toNat) (0, 0, [], ())).2.2.1, ()) ((t1.getD (t5.toNat) (0, 0, [], ())).1, (t1.getD (t5.toNat) (0, 0, [], ())).2.1, (t1.getD (t5.toNat) (0, 0, [], ())).2.2.1, ())).bind fun u3 =>
    cond (!u3.1.1)
      (some ((false, ()), ()))
    (R4 t0 t1 (w64 (t5 + 1)))) else none) else none)
  (some ((true, ()), ()))
def laws_eqEventS_L4 : Nat → (List (Int × Int × List UInt8 × Unit)) → (List (Int × Int × List UInt8 × Unit)) → Int → Option V_laws_eqEventS
  | 0, _, _, _ => none
  | n + 1, a0, a1, a2 => laws_eqEventS_step4 (laws_eqEventS_L4 n) a0 a1 a2
def laws_eqEventS_entry (R4 : (List (Int × Int × List UInt8 × Unit)) → (List (Int × Int × List UInt8 × Unit)) → Int → Option V_laws_eqEventS) (p0 : List (Int × Int × List UInt8 × Unit)) (p1 : List (Int × Int × List UInt8 × Unit)) : Option V_laws_eqEventS :=
  cond (((p0.length : Int) != (p1.length : Int)))
    (some ((false, ()), ()))
  (R4 p0 p1 0)
def laws_eqEventS (p0 : List (Int × Int × List UInt8 × Unit)) (p1 : List (Int × Int × List UInt8 × Unit)) : Option V_laws_eqEventS := laws_eqEventS_entry (laws_eqEventS_L4 FUEL) p0 p1

/-- laws.eqReader -/
abbrev V_laws_eqReader : Type := (Bool × Unit) × Unit
def laws_eqReader (p0 : Int × Int × List (Int × Int × List UInt8 × Unit) × Unit) (p1 : Int × Int × List (Int × Int × List UInt8 × Unit) × Unit) : Option V_laws_eqReader :=
  cond (p0.1 != p1.1)
    (some ((false, ()), ()))
  (cond (p0.2.1 != p1.2.1)
    (some ((false, ()), ()))
  ((laws_eqEventS p0.2.2.1 p1.2.2.1).bind fun u1 =>
  cond (!u1.1.1)
    (some ((false, ()), ()))
  (some ((true, ()), ()))))

/-- laws.markText -/
abbrev V_laws_markText : Type := (List UInt8 × Unit) × Unit
def laws_markText_step4 (R4 : Int → List UInt8 → Option V_laws_markText) (t0 : Int) (t3 : List UInt8) : Option V_laws_markText :=
  cond (decide (t0 > 0))
    (let x2 : List UInt8 := ([w8 ((w64 (48 + (t0.tmod 10))))].map fun n : Int => UInt8.ofNat n.toNat)
    if x2.length + t3.length ≤ LIM then (
    R4 (w64 (t0.tdiv 10)) (x2 ++ t3)) else none)
  (if 1 + t3.length ≤ LIM then (
  some (([109] ++ t3, ()), ())) else none)
def laws_markText_L4 : Nat → Int → List UInt8 → Option V_laws_markText
  | 0, _, _ => none
  | n + 1, a0, a1 => laws_markText_step4 (laws_markText_L4 n) a0 a1
def laws_markText_entry (R4 : Int → List UInt8 → Option V_laws_markText) (p0 : Int) : Option V_laws_markText :=
  cond (decide (p0 ≤ 0))
    (some (([109, 48], ()), ()))
  (R4 p0 [])
def laws_markText (p0 : Int) : Option V_laws_markText := laws_markText_entry (laws_markText_L4 FUEL) p0

/-- laws.markEventS -/
abbrev V_laws_markEventS : Type := (Int × Unit) × ((List (Int × Int × List UInt8 × Unit)) × Unit)
def laws_markEventS_step2 (R2 : Int → Int → (List (Int × Int × List UInt8 × Unit)) → Option V_laws_markEventS) (t1 : Int) (t5 : Int) (b0 : List (Int × Int × List UInt8 × Unit)) : Option V_laws_markEventS :=
  cond ((decide (t5 < (b0.length : Int))))
    (if (0 : Int) ≤ t5 ∧ t5 < (b0.length : Int) then (
    let x2 : List (Int × Int × List UInt8 × Unit) := (b0.set (t5.toNat) (t1, (b0.getD (t5.toNat) (0, 0, [], ())).2.1, (b0.getD (t5.toNat) (0, 0, [], ())).2.2.1, ()))
    if (0 : Int) ≤ t5 ∧ t5 < (x2.length : Int) then (
    let x3 : List (Int × Int × List UInt8 × Unit) := (x2.set (t5.toNat) ((x2.getD (t5.toNat) (0, 0, [], ())).1, w64 (t1 + 1), (x2.getD (t5.toNat) (0, 0, [], ())).2.2.1, ()))
    let x4 : Int := w64 ((w64 (t1 + 1)) + 1)
    (laws_markText x4).bind fun u5 =>
    if (0 : Int) ≤ t5 ∧ t5 < (x3.length : Int) then (
    R2 (w64 (x4 + 1)) (w64 (t5 + 1)) (x3.set (t5.toNat) ((x3.getD (t5.toNat) (0, 0, [], ())).1, (x3.getD (t5.toNat) (0, 0, [], ())).2.1, u5.1.1, ()))) else none) else none) else none)
  (some ((t1, ()), (b0, ())))
def laws_markEventS_L2 : Nat → Int → Int → (List (Int × Int × List UInt8 × Unit)) → Option V_laws_markEventS
  | 0, _, _, _ => none
  | n + 1, a0, a1, a2 => laws_markEventS_step2 (laws_markEventS_L2 n) a0 a1 a2
def laws_markEventS_entry (R2 : Int → Int → (List (Int × Int × List UInt8 × Unit)) → Option V_laws_markEventS) (p1 : Int) (b0 : List (Int × Int × List UInt8 × Unit)) : Option V_laws_markEventS :=
  R2 p1 0 b0
def laws_markEventS (p1 : Int) (b0 : List (Int × Int × List UInt8 × Unit)) : Option V_laws_markEventS := laws_markEventS_entry (laws_markEventS_L2 FUEL) p1 b0

/-- laws.markReader -/
abbrev V_laws_markReader : Type := (Int × Unit) × ((List (Int × Int × List UInt8 × Unit)) × Unit)
def laws_markReader (p0_0 : Int) (p0_1 : Int) (p1 : Int) (b0 : List (Int × Int × List UInt8 × Unit)) : Option V_laws_markReader :=
  (laws_markEventS p1 b0).bind fun u1 =>
  some ((u1.1.1, ()), (u1.2.1, ()))

/-- laws.FnExactReaderPack -/
abbrev V_laws_FnExactReaderPack : Type := (Bool × Unit) × Unit
def laws_FnExactReaderPack (p0 : Int × Int × List (Int × Int × List UInt8 × Unit) × Unit) : Option V_laws_FnExactReaderPack :=
  (laws_szReader (p0.1, p0.2.1, p0.2.2.1, ()) 1048576).bind fun u1 =>
  cond (decide (u1.1.1 < 0))
    (some ((true, ()), ()))
  ((laws_toReader (p0.1, p0.2.1, p0.2.2.1, ())).bind fun u2 =>
  (spec_ReaderPack (u2.1.1.1, u2.1.1.2.1, u2.2.1, ())).bind fun u3 =>
  (laws_toReader (p0.1, p0.2.1, p0.2.2.1, ())).bind fun u4 =>
  (impl_ReaderPack (u4.1.1.1, u4.1.1.2.1, u4.2.1, ())).bind fun u5 =>
  (laws_eqByteS u5.2.1 u3.2.1).bind fun u6 =>
  cond (!u6.1.1)
    (some ((false, ()), ()))
  (cond ((u5.1.1.2.1 != u3.1.1.2.1))
    (some ((false, ()), ()))
  ((laws_toReader (p0.1, p0.2.1, p0.2.2.1, ())).bind fun u8 =>
  (laws_eqReader (u4.1.1.1, u4.1.1.2.1, u4.2.1, ()) (u8.1.1.1, u8.1.1.2.1, u8.2.1, ())).bind fun u9 =>
  cond (!u9.1.1)
    (some ((false, ()), ()))
  ((laws_markReader u4.1.1.1 u4.1.1.2.1 1 u4.2.1).bind fun u10 =>
  cond (decide (u10.1.1 < 0))
    (some ((false, ()), ()))
  ((laws_eqByteS u5.2.1 u3.2.1).bind fun u11 =>
  cond (!u11.1.1)
    (some ((false, ()), ()))
  (cond ((u5.1.1.2.1 != u3.1.1.2.1))
    (some ((false, ()), ()))
  ((laws_markByteS 1 u5.2.1).bind fun u13 =>
  (laws_heldByteS u13.2.1 1).bind fun u14 =>
  cond (decide (u14.1.1 < 0))
    (some ((false, ()), ()))
  (cond (u14.1.1 != u13.1.1)
    (some ((false, ()), ()))
  ((laws_toReader (p0.1, p0.2.1, p0.2.2.1, ())).bind fun u15 =>
  (impl_ReaderPack (u15.1.1.1, u15.1.1.2.1, u15.2.1, ())).bind fun u16 =>
  (laws_eqByteS u16.2.1 u3.2.1).bind fun u17 =>
  cond (!u17.1.1)
    (some ((false, ()), ()))
  (cond ((u16.1.1.2.1 != u3.1.1.2.1))
    (some ((false, ()), ()))
  ((laws_heldByteS u13.2.1 1).bind fun u19 =>
  cond (decide (u19.1.1 < 0))
    (some ((false, ()), ()))
  (cond (u19.1.1 != u13.1.1)
    (some ((false, ()), ()))
  (some ((true, ()), ()))))))))))))))

/-- spec.GetText -/
abbrev V_spec_GetText : Type := ((List UInt8 × Int × Bool × Unit) × Unit) × Unit
def spec_GetText (p0 : List Int) (p1 : Int) : Option V_spec_GetText :=
  (spec_GetNum p0 p1).bind fun u1 =>
  cond (!u1.1.1.2.2.1)
    (some ((([], 0, false, ()), ()), ()))
  (cond ((decide (u1.1.1.1 > (w64 ((p0.length : Int) - u1.1.1.2.1)))))
    (some ((([], 0, false, ()), ()), ()))
  (let x4 : Int := w64 (u1.1.1.2.1 + u1.1.1.1)
  if (0 : Int) ≤ u1.1.1.2.1 ∧ u1.1.1.2.1 ≤ x4 ∧ x4 ≤ (p0.length : Int) then (
  some ((((((p0.drop (u1.1.1.2.1.toNat)).take ((x4.toNat) - (u1.1.1.2.1.toNat))).map fun n : Int => UInt8.ofNat n.toNat), (w64 (u1.1.1.2.1 + u1.1.1.1)), true, ()), ()), ())) else none))

/-- spec.l17Text -/
abbrev V_spec_l17Text : Type := (List UInt8 × Unit) × ((Unit × Int × Bool × Unit) × List Int × Unit)
def spec_l17Text (b0_1 : Int) (b0_2 : Bool) (b1 : List Int) : Option V_spec_l17Text :=
  (spec_GetText b1 b0_1).bind fun u1 =>
  cond (!u1.1.1.2.2.1)
    (some (([], ()), (((), b0_1, false, ()), b1, ())))
  (cond (!b0_2)
    (some (([], ()), (((), b0_1, false, ()), b1, ())))
  (some ((u1.1.1.1, ()), (((), u1.1.1.2.1, b0_2, ()), b1, ()))))

/-- spec.ReaderRead -/
abbrev V_spec_ReaderRead : Type := (((Int × Int × Unit × Unit) × Bool × Unit) × Unit) × (List Int × (List (Int × Int × List UInt8 × Unit)) × Unit)
def spec_ReaderRead_step6 (R6 : Int → Int → List Int → Int → Int → (List (Int × Int × List UInt8 × Unit)) → Int → Bool → Int → Int → (List (Int × Int × List UInt8 × Unit)) → Option V_spec_ReaderRead) (t6 : Int) (t7 : Int) (b0 : List Int) (b1_0 : Int) (b1_1 : Int) (b2 : List (Int × Int × List UInt8 × Unit)) (b3_1 : Int) (b3_2 : Bool) (b4_0 : Int) (b4_1 : Int) (b5 : List (Int × Int × List UInt8 × Unit)) : Option V_spec_ReaderRead :=
  cond (decide (t7 < t6))
    (cond (b3_2)
      ((spec_l17Num b3_1 b3_2 b0).bind fun u4 =>
      (spec_l17Num u4.2.1.2.1 u4.2.1.2.2.1 u4.2.2.1).bind fun u5 =>
      (spec_l17Text u5.2.1.2.1 u5.2.1.2.2.1 u5.2.2.1).bind fun u6 =>
      if b5.length + 1 ≤ LIM then (
      R6 t6 (w64 (t7 + 1)) u6.2.2.1 b1_0 b1_1 b2 u6.2.1.2.1 u6.2.1.2.2.1 b4_0 b4_1 (b5 ++ [(u4.1.1, u5.1.1, u6.1.1, ())])) else none)
    ((spec_l17End b3_1 b3_2 b0).bind fun u8 =>
    cond (!u8.1.1)
      (some ((((0, 0, (), ()), false, ()), ()), (u8.2.2.1, [], ())))
    ((spec_l17Reader (b4_0, b4_1, b5, ())).bind fun u9 =>
    cond (!u9.1.1)
      (some ((((0, 0, (), ()), false, ()), ()), (u8.2.2.1, [], ())))
    (some ((((b4_0, b4_1, (), ()), true, ()), ()), (u8.2.2.1, b5, ()))))))
  ((spec_l17End b3_1 b3_2 b0).bind fun u10 =>
  cond (!u10.1.1)
    (some ((((0, 0, (), ()), false, ()), ()), (u10.2.2.1, [], ())))
  ((spec_l17Reader (b4_0, b4_1, b5, ())).bind fun u11 =>
  cond (!u11.1.1)
    (some ((((0, 0, (), ()), false, ()), ()), (u10.2.2.1, [], ())))
  (some ((((b4_0, b4_1, (), ()), true, ()), ()), (u10.2.2.1, b5, ())))))
def spec_ReaderRead_L6 : Nat → Int → Int → List Int → Int → Int → (List (Int × Int × List UInt8 × Unit)) → Int → Bool → Int → Int → (List (Int × Int × List UInt8 × Unit)) → Option V_spec_ReaderRead
  | 0, _, _, _, _, _, _, _, _, _, _, _ => none
  | n + 1, a0, a1, a2, a3, a4, a5, a6, a7, a8, a9, a10 => spec_ReaderRead_step6 (spec_ReaderRead_L6 n) a0 a1 a2 a3 a4 a5 a6 a7 a8 a9 a10
def spec_ReaderRead_entry (R6 : Int → Int → List Int → Int → Int → (List (Int × Int × List UInt8 × Unit)) → Int → Bool → Int → Int → (List (Int × Int × List UInt8 × Unit)) → Option V_spec_ReaderRead) (b0 : List Int) : Option V_spec_ReaderRead :=
  (spec_l17Num 0 true b0).bind fun u1 =>
  (spec_l17Num u1.2.1.2.1 u1.2.1.2.2.1 u1.2.2.1).bind fun u2 =>
  (spec_l17Num u2.2.1.2.1 u2.2.1.2.2.1 u2.2.2.1).bind fun u3 =>
  R6 u3.1.1 0 u3.2.2.1 0 0 [] u3.2.1.2.1 u3.2.1.2.2.1 u1.1.1 u2.1.1 []
def spec_ReaderRead (b0 : List Int) : Option V_spec_ReaderRead := spec_ReaderRead_entry (spec_ReaderRead_L6 FUEL) b0

/-- (*impl.reader).text -/
abbrev V_impl_reader_text : Type := (List UInt8 × Unit) × ((Unit × Int × Bool × Unit) × List Int × Unit)
def impl_reader_text (b0_1 : Int) (b0_2 : Bool) (b1 : List Int) : Option V_impl_reader_text :=
  (impl_reader_num b0_1 b0_2 b1).bind fun u1 =>
  cond (u1.2.1.2.2.1)
    (some (([], ()), (((), u1.2.1.2.1, true, ()), u1.2.2.1, ())))
  (cond (decide (u1.1.1 > (w64 ((u1.2.2.1.length : Int) - u1.2.1.2.1))))
    (some (([], ()), (((), u1.2.1.2.1, true, ()), u1.2.2.1, ())))
  (let x4 : Int := w64 (u1.2.1.2.1 + u1.1.1)
  if (0 : Int) ≤ w64 (x4 - u1.1.1) ∧ w64 (x4 - u1.1.1) ≤ x4 ∧ x4 ≤ (u1.2.2.1.length : Int) then (
  some (((((u1.2.2.1.drop ((w64 (x4 - u1.1.1)).toNat)).take ((x4.toNat) - ((w64 (x4 - u1.1.1)).toNat))).map fun n : Int => UInt8.ofNat n.toNat), ()), (((), x4, u1.2.1.2.2.1, ()), u1.2.2.1, ()))) else none))

/-- impl.ReaderRead -/
abbrev V_impl_ReaderRead : Type := (((Int × Int × Unit × Unit) × Bool × Unit) × Unit) × (List Int × (List (Int × Int × List UInt8 × Unit)) × Unit)
def impl_ReaderRead_step7 (R7 : Int → Int → List Int → Int → Int → (List (Int × Int × List UInt8 × Unit)) → Int → Bool → Int → Int → (List (Int × Int × List UInt8 × Unit)) → Option V_impl_ReaderRead) (t6 : Int) (t7 : Int) (b0 : List Int) (b1_0 : Int) (b1_1 : Int) (b2 : List (Int × Int × List UInt8 × Unit)) (b3_1 : Int) (b3_2 : Bool) (b4_0 : Int) (b4_1 : Int) (b5 : List (Int × Int × List UInt8 × Unit)) : Option V_impl_ReaderRead :=
  cond (decide (t7 < t6))
    (cond (!b3_2)
      ((impl_reader_num b3_1 b3_2 b0).bind fun u4 =>
      (impl_reader_num u4.2.1.2.1 u4.2.1.2.2.1 u4.2.2.1).bind fun u5 =>
      (impl_reader_text u5.2.1.2.1 u5.2.1.2.2.1 u5.2.2.1).bind fun u6 =>
      cond (u6.2.1.2.2.1)
        (if b5.length + 1 ≤ LIM then (
        R7 t6 (w64 (t7 + 1)) u6.2.2.1 b1_0 b1_1 b2 u6.2.1.2.1 true b4_0 b4_1 (b5 ++ [(u4.1.1, u5.1.1, u6.1.1, ())])) else none)
      ((impl_eventFits (u4.1.1, u5.1.1, u6.1.1, ())).bind fun u8 =>
      if b5.length + 1 ≤ LIM then (
      R7 t6 (w64 (t7 + 1)) u6.2.2.1 b1_0 b1_1 b2 u6.2.1.2.1 (!u8.1.1) b4_0 b4_1 (b5 ++ [(u4.1.1, u5.1.1, u6.1.1, ())])) else none))
    ((impl_reader_done b3_1 b3_2 b0).bind fun u10 =>
    cond (!u10.1.1)
      (some ((((0, 0, (), ()), false, ()), ()), (u10.2.2.1, [], ())))
    ((impl_ReaderOk (b4_0, b4_1, b5, ())).bind fun u11 =>
    cond (!u11.1.1)
      (some ((((0, 0, (), ()), false, ()), ()), (u10.2.2.1, [], ())))
    (some ((((b4_0, b4_1, (), ()), true, ()), ()), (u10.2.2.1, b5, ()))))))
  ((impl_reader_done b3_1 b3_2 b0).bind fun u12 =>
  cond (!u12.1.1)
    (some ((((0, 0, (), ()), false, ()), ()), (u12.2.2.1, [], ())))
  ((impl_ReaderOk (b4_0, b4_1, b5, ())).bind fun u13 =>
  cond (!u13.1.1)
    (some ((((0, 0, (), ()), false, ()), ()), (u12.2.2.1, [], ())))
  (some ((((b4_0, b4_1, (), ()), true, ()), ()), (u12.2.2.1, b5, ())))))
def impl_ReaderRead_L7 : Nat → Int → Int → List Int → Int → Int → (List (Int × Int × List UInt8 × Unit)) → Int → Bool → Int → Int → (List (Int × Int × List UInt8 × Unit)) → Option V_impl_ReaderRead
  | 0, _, _, _, _, _, _, _, _, _, _, _ => none
  | n + 1, a0, a1, a2, a3, a4, a5, a6, a7, a8, a9, a10 => impl_ReaderRead_step7 (impl_ReaderRead_L7 n) a0 a1 a2 a3 a4 a5 a6 a7 a8 a9 a10
def impl_ReaderRead_entry (R7 : Int → Int → List Int → Int → Int → (List (Int × Int × List UInt8 × Unit)) → Int → Bool → Int → Int → (List (Int × Int × List UInt8 × Unit)) → Option V_impl_ReaderRead) (b0 : List Int) : Option V_impl_ReaderRead :=
  (impl_reader_num 0 false b0).bind fun u1 =>
  (impl_reader_num u1.2.1.2.1 u1.2.1.2.2.1 u1.2.2.1).bind fun u2 =>
  (impl_reader_count 120 u2.2.1.2.1 u2.2.1.2.2.1 u2.2.2.1).bind fun u3 =>
  R7 u3.1.1 0 u3.2.2.1 0 0 [] u3.2.1.2.1 u3.2.1.2.2.1 u1.1.1 u2.1.1 []
def impl_ReaderRead (b0 : List Int) : Option V_impl_ReaderRead := impl_ReaderRead_entry (impl_ReaderRead_L7 FUEL) b0

/-- laws.heldEventS -/
abbrev V_laws_heldEventS : Type := (Int × Unit) × Unit
def laws_heldEventS_step2 (R2 : (List (Int × Int × List UInt8 × Unit)) → Int → Int → Option V_laws_heldEventS) (t0 : List (Int × Int × List UInt8 × Unit)) (t1 : Int) (t5 : Int) : Option V_laws_heldEventS :=
  cond ((decide (t5 < (t0.length : Int))))
    (if (0 : Int) ≤ t5 ∧ t5 < (t0.length : Int) then (
    cond (((t0.getD (t5.toNat) (0, 0, [], ())).1) != t1)
      (some (((-1), ()), ()))
    (if (0 : Int) ≤ t5 ∧ t5 < (t0.length : Int) then (
    cond (((t0.getD (t5.toNat) (0, 0, [], ())).2.1) != (w64 (t1 + 1)))
      (some (((-1), ()), ()))
    (let x4 : Int := w64 ((w64 (t1 + 1)) + 1)
    if (0 : Int) ≤ t5 ∧ t5 < (t0.length : Int) then (
    (laws_markText x4).bind fun u6 =>
    cond (!(((t0.getD (t5.toNat) (0, 0, [], ())).2.2.1) == u6.1.1))
      (some (((-1), ()), ()))
    (R2 t0 (w64 (x4 + 1)) (w64 (t5 + 1)))) else none)) else none)) else none)
  (some ((t1, ()), ()))
def laws_heldEventS_L2 : Nat → (List (Int × Int × List UInt8 × Unit)) → Int → Int → Option V_laws_heldEventS
  | 0, _, _, _ => none
  | n + 1, a0, a1, a2 => laws_heldEventS_step2 (laws_heldEventS_L2 n) a0 a1 a2
def laws_heldEventS_entry (R2 : (List (Int × Int × List UInt8 × Unit)) → Int → Int → Option V_laws_heldEventS) (p0 : List (Int × Int × List UInt8 × Unit)) (p1 : Int) : Option V_laws_heldEventS :=
  R2 p0 p1 0
def laws_heldEventS (p0 : List (Int × Int × List UInt8 × Unit)) (p1 : Int) : Option V_laws_heldEventS := laws_heldEventS_entry (laws_heldEventS_L2 FUEL) p0 p1

/-- laws.heldReader -/
abbrev V_laws_heldReader : Type := (Int × Unit) × Unit
def laws_heldReader (p0 : Int × Int × List (Int × Int × List UInt8 × Unit) × Unit) (p1 : Int) : Option V_laws_heldReader :=
  (laws_heldEventS p0.2.2.1 p1).bind fun u1 =>
  cond (decide (u1.1.1 < 0))
    (some (((-1), ()), ()))
  (some ((u1.1.1, ()), ()))

/-- laws.FnExactReaderRead -/
abbrev V_laws_FnExactReaderRead : Type := (Bool × Unit) × Unit
def laws_FnExactReaderRead (p0 : List Int) : Option V_laws_FnExactReaderRead :=
  cond ((decide ((p0.length : Int) > 1048576)))
    (some ((true, ()), ()))
  ((laws_toByteS p0).bind fun u2 =>
  (spec_ReaderRead u2.2.1).bind fun u3 =>
  (laws_toByteS p0).bind fun u4 =>
  (impl_ReaderRead u4.2.1).bind fun u5 =>
  (laws_eqReader (u5.1.1.1.1, u5.1.1.1.2.1, u5.2.2.1, ()) (u3.1.1.1.1, u3.1.1.1.2.1, u3.2.2.1, ())).bind fun u6 =>
  cond (!u6.1.1)
    (some ((false, ()), ()))
  (cond ((u5.1.1.2.1 != u3.1.1.2.1))
    (some ((false, ()), ()))
  ((laws_toByteS p0).bind fun u8 =>
  (laws_eqByteS u5.2.1 u8.2.1).bind fun u9 =>
  cond (!u9.1.1)
    (some ((false, ()), ()))
  ((laws_markByteS 1 u5.2.1).bind fun u10 =>
  cond (decide (u10.1.1 < 0))
    (some ((false, ()), ()))
  ((laws_eqReader (u5.1.1.1.1, u5.1.1.1.2.1, u5.2.2.1, ()) (u3.1.1.1.1, u3.1.1.1.2.1, u3.2.2.1, ())).bind fun u11 =>
  cond (!u11.1.1)
    (some ((false, ()), ()))
  (cond ((u5.1.1.2.1 != u3.1.1.2.1))
    (some ((false, ()), ()))
  ((laws_markReader u5.1.1.1.1 u5.1.1.1.2.1 1 u5.2.2.1).bind fun u13 =>
  (laws_heldReader (u5.1.1.1.1, u5.1.1.1.2.1, u13.2.1, ()) 1).bind fun u14 =>
  cond (decide (u14.1.1 < 0))
    (some ((false, ()), ()))
  (cond (u14.1.1 != u13.1.1)
    (some ((false, ()), ()))
  ((laws_toByteS p0).bind fun u15 =>
  (impl_ReaderRead u15.2.1).bind fun u16 =>
  (laws_eqReader (u16.1.1.1.1, u16.1.1.1.2.1, u16.2.2.1, ()) (u3.1.1.1.1, u3.1.1.1.2.1, u3.2.2.1, ())).bind fun u17 =>
  cond (!u17.1.1)
    (some ((false, ()), ()))
  (cond ((u16.1.1.2.1 != u3.1.1.2.1))
    (some ((false, ()), ()))
  ((laws_heldReader (u5.1.1.1.1, u5.1.1.1.2.1, u13.2.1, ()) 1).bind fun u19 =>
  cond (decide (u19.1.1 < 0))
    (some ((false, ()), ()))
  (cond (u19.1.1 != u13.1.1)
    (some ((false, ()), ()))
  (some ((true, ()), ()))))))))))))))

/-- laws.big -/
abbrev V_laws_big : Type := (Bool × Unit) × Unit
def laws_big (p0 : List Int) : Option V_laws_big :=
  some (((decide ((p0.length : Int) > 1048576)), ()), ())

/-- spec.l1New -/
abbrev V_spec_l1New : Type := (Unit × Unit) × ((List Int × Int × Int × Unit) × Unit)
def spec_l1New_step3 (R3 : List Int → Int → Int → Option V_spec_l1New) (t0 : List Int) (t3 : Int) (t4 : Int) : Option V_spec_l1New :=
  cond ((decide (t4 < (t0.length : Int))))
    (cond (decide (t4 < 4000))
      (if (0 : Int) ≤ t4 ∧ t4 < (t0.length : Int) then (
      R3 t0 (bAnd .i64 (w64 ((w64 ((w64 (t3 * 131)) + (w64 ((t0.getD (t4.toNat) 0))))) + 7)) 1073741823) (w64 (t4 + 1))) else none)
    (some (((), ()), ((t0, 0, t3, ()), ()))))
  (some (((), ()), ((t0, 0, t3, ()), ())))
def spec_l1New_L3 : Nat → List Int → Int → Int → Option V_spec_l1New
  | 0, _, _, _ => none
  | n + 1, a0, a1, a2 => spec_l1New_step3 (spec_l1New_L3 n) a0 a1 a2
def spec_l1New_entry (R3 : List Int → Int → Int → Option V_spec_l1New) (p0 : List Int) : Option V_spec_l1New :=
  R3 p0 (w64 (17817 + (p0.length : Int))) 0
def spec_l1New (p0 : List Int) : Option V_spec_l1New := spec_l1New_entry (spec_l1New_L3 FUEL) p0

/-- spec.l1Byte -/
abbrev V_spec_l1Byte : Type := (Int × Unit) × ((List Int × Int × Int × Unit) × Unit)
def spec_l1Byte (b0_0 : List Int) (b0_1 : Int) (b0_2 : Int) : Option V_spec_l1Byte :=
  let x2 : Int := w64 ((w64 (b0_2 * 6364136223846793005)) + 1442695040888963407)
  let x3 : Int := bXor .i64 (x2.fdiv (2 ^ 33)) (x2.fdiv (2 ^ 45))
  cond ((decide (b0_1 < (b0_0.length : Int))))
    (if (0 : Int) ≤ b0_1 ∧ b0_1 < (b0_0.length : Int) then (
    some ((bAnd .i64 (w64 ((bAnd .i64 x3 255) + (w64 ((b0_0.getD (b0_1.toNat) 0))))) 255, ()), ((b0_0, w64 (b0_1 + 1), x2, ()), ()))) else none)
  (some ((bAnd .i64 x3 255, ()), ((b0_0, b0_1, x2, ()), ())))

/-- spec.l1Below -/
abbrev V_spec_l1Below : Type := (Int × Unit) × ((List Int × Int × Int × Unit) × Unit)
def spec_l1Below (p1 : Int) (b0_0 : List Int) (b0_1 : Int) (b0_2 : Int) : Option V_spec_l1Below :=
  cond (decide (p1 ≤ 0))
    (some ((0, ()), ((b0_0, b0_1, b0_2, ()), ())))
  (cond (decide (p1 ≤ 256))
    ((spec_l1Byte b0_0 b0_1 b0_2).bind fun u1 =>
    if p1 = 0 then none else (
    some ((u1.1.1.tmod p1, ()), ((u1.2.1.1, u1.2.1.2.1, u1.2.1.2.2.1, ()), ()))))
  ((spec_l1Byte b0_0 b0_1 b0_2).bind fun u2 =>
  (spec_l1Byte u2.2.1.1 u2.2.1.2.1 u2.2.1.2.2.1).bind fun u3 =>
  (spec_l1Byte u3.2.1.1 u3.2.1.2.1 u3.2.1.2.2.1).bind fun u4 =>
  (spec_l1Byte u4.2.1.1 u4.2.1.2.1 u4.2.1.2.2.1).bind fun u5 =>
  if p1 = 0 then none else (
  some ((((w64 ((w64 ((w64 ((w64 (u2.1.1 * 16777216)) + (w64 (u3.1.1 * 65536)))) + (w64 (u4.1.1 * 256)))) + u5.1.1)).tmod p1), ()), ((u5.2.1.1, u5.2.1.2.1, u5.2.1.2.2.1, ()), ())))))

/-- spec.l1Once -/
abbrev V_spec_l1Once : Type := (Bool × Unit) × ((List Int × Int × Int × Unit) × Unit)
def spec_l1Once (p1 : Int) (b0_0 : List Int) (b0_1 : Int) (b0_2 : Int) : Option V_spec_l1Once :=
  (spec_l1Below p1 b0_0 b0_1 b0_2).bind fun u1 =>
  some ((u1.1.1 == 0, ()), ((u1.2.1.1, u1.2.1.2.1, u1.2.1.2.2.1, ()), ()))

/-- spec.l4DrawRight -/
abbrev V_spec_l4DrawRight : Type := ((Unit × Int × Unit) × Unit) × ((List Int × Int × Int × Unit) × List Int × Unit)
def spec_l4DrawRight_step4 (R4 : Int → Int → List Int → Int → Int → Int → List Int → Int → List Int → Option V_spec_l4DrawRight) (t4 : Int) (t5 : Int) (b0_0 : List Int) (b0_1 : Int) (b0_2 : Int) (b1_1 : Int) (b2 : List Int) (b3_1 : Int) (b4 : List Int) : Option V_spec_l4DrawRight :=
  cond (decide (t5 < t4))
    ((spec_l1Below 5 b0_0 b0_1 b0_2).bind fun u3 =>
    if b4.length + 1 ≤ LIM then (
    R4 t4 (w64 (t5 + 1)) u3.2.1.1 u3.2.1.2.1 u3.2.1.2.2.1 b1_1 b2 b3_1 (b4 ++ [u3.1.1])) else none)
  ((spec_l1Once 2 b0_0 b0_1 b0_2).bind fun u5 =>
  cond (u5.1.1)
    (some ((((), 2, ()), ()), ((u5.2.1.1, u5.2.1.2.1, u5.2.1.2.2.1, ()), b4, ())))
  (some ((((), b3_1, ()), ()), ((u5.2.1.1, u5.2.1.2.1, u5.2.1.2.2.1, ()), b4, ()))))
def spec_l4DrawRight_L4 : Nat → Int → Int → List Int → Int → Int → Int → List Int → Int → List Int → Option V_spec_l4DrawRight
  | 0, _, _, _, _, _, _, _, _, _ => none
  | n + 1, a0, a1, a2, a3, a4, a5, a6, a7, a8 => spec_l4DrawRight_step4 (spec_l4DrawRight_L4 n) a0 a1 a2 a3 a4 a5 a6 a7 a8
def spec_l4DrawRight_entry (R4 : Int → Int → List Int → Int → Int → Int → List Int → Int → List Int → Option V_spec_l4DrawRight) (b0_0 : List Int) (b0_1 : Int) (b0_2 : Int) : Option V_spec_l4DrawRight :=
  (spec_l1Below 3 b0_0 b0_1 b0_2).bind fun u1 =>
  (spec_l1Below 5 u1.2.1.1 u1.2.1.2.1 u1.2.1.2.2.1).bind fun u2 =>
  R4 (w64 (3 + u2.1.1)) 0 u2.2.1.1 u2.2.1.2.1 u2.2.1.2.2.1 0 [] (w64 (1 + u1.1.1)) []
def spec_l4DrawRight (b0_0 : List Int) (b0_1 : Int) (b0_2 : Int) : Option V_spec_l4DrawRight := spec_l4DrawRight_entry (spec_l4DrawRight_L4 FUEL) b0_0 b0_1 b0_2

/-- spec.l1PickInt -/
abbrev V_spec_l1PickInt : Type := (Int × Unit) × ((List Int × Int × Int × Unit) × Unit)
def spec_l1PickInt (p1 : List Int) (b0_0 : List Int) (b0_1 : Int) (b0_2 : Int) : Option V_spec_l1PickInt :=
  (spec_l1Below (p1.length : Int) b0_0 b0_1 b0_2).bind fun u1 =>
  if (0 : Int) ≤ u1.1.1 ∧ u1.1.1 < (p1.length : Int) then (
  some (((p1.getD (u1.1.1.toNat) 0), ()), ((u1.2.1.1, u1.2.1.2.1, u1.2.1.2.2.1, ()), ()))) else none

/-- spec.l4Draw -/
abbrev V_spec_l4Draw : Type := ((Unit × Int × Unit) × Unit) × ((List Int × Int × Int × Unit) × List Int × Unit)
def spec_l4Draw (b0_0 : List Int) (b0_1 : Int) (b0_2 : Int) : Option V_spec_l4Draw :=
  (spec_l4DrawRight b0_0 b0_1 b0_2).bind fun u1 =>
  (spec_l1Below 20 u1.2.1.1 u1.2.1.2.1 u1.2.1.2.2.1).bind fun u2 =>
  cond (u2.1.1 == 0)
    ((spec_l1PickInt [0, 4, 5] u2.2.1.1 u2.2.1.2.1 u2.2.1.2.2.1).bind fun u3 =>
    some ((((), u3.1.1, ()), ()), ((u3.2.1.1, u3.2.1.2.1, u3.2.1.2.2.1, ()), u1.2.2.1, ())))
  (cond (u2.1.1 == 1)
    ((spec_l1PickInt [(-1), 7, 8] u2.2.1.1 u2.2.1.2.1 u2.2.1.2.2.1).bind fun u4 =>
    if (0 : Int) ≤ (0 : Int) ∧ (0 : Int) < (u1.2.2.1.length : Int) then (
    some ((((), u1.1.1.2.1, ()), ()), ((u4.2.1.1, u4.2.1.2.1, u4.2.1.2.2.1, ()), (u1.2.2.1.set 0 u4.1.1), ()))) else none)
  (cond (u2.1.1 == 2)
    ((spec_l1PickInt [0, 8, 9] u2.2.1.1 u2.2.1.2.1 u2.2.1.2.2.1).bind fun u6 =>
    if (0 : Int) ≤ u6.1.1 ∧ u6.1.1 ≤ u6.1.1 ∧ u6.1.1 ≤ (LIM : Int) then (
    some ((((), u1.1.1.2.1, ()), ()), ((u6.2.1.1, u6.2.1.2.1, u6.2.1.2.2.1, ()), (List.replicate (u6.1.1.toNat) 0), ()))) else none)
  (some ((((), u1.1.1.2.1, ()), ()), ((u2.2.1.1, u2.2.1.2.1, u2.2.1.2.2.1, ()), u1.2.2.1, ())))))

/-- spec.DrawConfigPack -/
abbrev V_spec_DrawConfigPack : Type := ((Unit × Int × Unit) × Unit) × (List Int × Unit)
def spec_DrawConfigPack (p0 : List Int) : Option V_spec_DrawConfigPack :=
  (spec_l1New p0).bind fun u1 =>
  (spec_l4Draw u1.2.1.1 u1.2.1.2.1 u1.2.1.2.2.1).bind fun u2 =>
  some ((((), u2.1.1.2.1, ()), ()), (u2.2.2.1, ()))

/-- laws.sameInts -/
abbrev V_laws_sameInts : Type := (Bool × Unit) × Unit
def laws_sameInts_step4 (R4 : List Int → List Int → Int → Option V_laws_sameInts) (t0 : List Int) (t1 : List Int) (t5 : Int) : Option V_laws_sameInts :=
  cond ((decide (t5 < (t0.length : Int))))
    (if (0 : Int) ≤ t5 ∧ t5 < (t0.length : Int) then (
    if (0 : Int) ≤ t5 ∧ t5 < (t1.length : Int) then (
    cond ((t0.getD (t5.toNat) 0) != (t1.getD (t5.toNat) 0))
      (some ((false, ()), ()))
    (R4 t0 t1 (w64 (t5 + 1)))) else none) else none)
  (some ((true, ()), ()))
def laws_sameInts_L4 : Nat → List Int → List Int → Int → Option V_laws_sameInts
  | 0, _, _, _ => none
  | n + 1, a0, a1, a2 => laws_sameInts_step4 (laws_sameInts_L4 n) a0 a1 a2
def laws_sameInts_entry (R4 : List Int → List Int → Int → Option V_laws_sameInts) (p0 : List Int) (p1 : List Int) : Option V_laws_sameInts :=
  cond (((p0.length : Int) != (p1.length : Int)))
    (some ((false, ()), ()))
  (R4 p0 p1 0)
def laws_sameInts (p0 : List Int) (p1 : List Int) : Option V_laws_sameInts := laws_sameInts_entry (laws_sameInts_L4 FUEL) p0 p1

/-- spec.l17Spoil -/
abbrev V_spec_l17Spoil : Type := (Unit × Unit) × ((List Int × Int × Int × Unit) × List Int × Unit)
def spec_l17Spoil (p1 : List Int) (b0_0 : List Int) (b0_1 : Int) (b0_2 : Int) : Option V_spec_l17Spoil :=
  if 0 + p1.length ≤ LIM then (
  cond (((p1.length : Int) == 0))
    (some (((), ()), ((b0_0, b0_1, b0_2, ()), p1, ())))
  ((spec_l1Below 6 b0_0 b0_1 b0_2).bind fun u2 =>
  cond (u2.1.1 == 0)
    ((spec_l1Below (p1.length : Int) u2.2.1.1 u2.2.1.2.1 u2.2.1.2.2.1).bind fun u3 =>
    (spec_l1PickInt [0, 1, 2, 3, 7, 8, 127, 128, 255] u3.2.1.1 u3.2.1.2.1 u3.2.1.2.2.1).bind fun u4 =>
    if (0 : Int) ≤ u3.1.1 ∧ u3.1.1 < (p1.length : Int) then (
    some (((), ()), ((u4.2.1.1, u4.2.1.2.1, u4.2.1.2.2.1, ()), (p1.set (u3.1.1.toNat) (w8 (u4.1.1))), ()))) else none)
  (cond (u2.1.1 == 1)
    ((spec_l1Below (w64 ((p1.length : Int) + 1)) u2.2.1.1 u2.2.1.2.1 u2.2.1.2.2.1).bind fun u7 =>
    if (0 : Int) ≤ (0 : Int) ∧ (0 : Int) ≤ u7.1.1 ∧ u7.1.1 ≤ (p1.length : Int) then (
    some (((), ()), ((u7.2.1.1, u7.2.1.2.1, u7.2.1.2.2.1, ()), ((p1.drop 0).take ((u7.1.1.toNat) - 0)), ()))) else none)
  (cond (u2.1.1 == 2)
    (if p1.length + 1 ≤ LIM then (
    some (((), ()), ((u2.2.1.1, u2.2.1.2.1, u2.2.1.2.2.1, ()), p1 ++ [0], ()))) else none)
  (some (((), ()), ((u2.2.1.1, u2.2.1.2.1, u2.2.1.2.2.1, ()), p1, ()))))))) else none

/-- spec.DrawConfigRead -/
abbrev V_spec_DrawConfigRead : Type := (Unit × Unit) × (List Int × Unit)
def spec_DrawConfigRead (p0 : List Int) : Option V_spec_DrawConfigRead :=
  (spec_l1New p0).bind fun u1 =>
  (spec_l4DrawRight u1.2.1.1 u1.2.1.2.1 u1.2.1.2.2.1).bind fun u2 =>
  (spec_ConfigPack (u2.2.2.1, u2.1.1.2.1, ())).bind fun u3 =>
  (spec_l17Spoil u3.2.1 u2.2.1.1 u2.2.1.2.1 u2.2.1.2.2.1).bind fun u4 =>
  some (((), ()), (u4.2.2.1, ()))

/-- laws.FnConfigBytes -/
abbrev V_laws_FnConfigBytes : Type := (Bool × Unit) × Unit
def laws_FnConfigBytes (p0 : List Int) : Option V_laws_FnConfigBytes :=
  (laws_big p0).bind fun u1 =>
  cond (u1.1.1)
    (some ((true, ()), ()))
  ((spec_DrawConfigPack p0).bind fun u2 =>
  (impl_ConfigPack (u2.2.1, u2.1.1.2.1, ())).bind fun u3 =>
  (spec_ConfigPack (u2.2.1, u2.1.1.2.1, ())).bind fun u4 =>
  cond ((u3.1.1.2.1 != u4.1.1.2.1))
    (some ((false, ()), ()))
  (cond (u3.1.1.2.1)
    ((impl_ConfigRead u3.2.1).bind fun u6 =>
    cond (!u6.1.1.2.1)
      (some ((false, ()), ()))
    ((laws_sameInts u6.2.2.1 u2.2.1).bind fun u7 =>
    cond (u7.1.1)
      (cond (!(u6.1.1.1.2.1 == u2.1.1.2.1))
        (some ((false, ()), ()))
      ((spec_DrawConfigRead p0).bind fun u9 =>
      (impl_ConfigRead u9.2.1).bind fun u10 =>
      (spec_ConfigRead u10.2.1).bind fun u11 =>
      cond ((u10.1.1.2.1 != u11.1.1.2.1))
        (some ((false, ()), ()))
      ((impl_ConfigPack (u10.2.2.1, u10.1.1.1.2.1, ())).bind fun u13 =>
      cond (!u10.1.1.2.1)
        (cond ((u10.2.2.1.length : Int) == 0)
          (some ((true, ()), ()))
        (cond (u10.1.1.2.1)
          (cond (u13.1.1.2.1)
            (some (((u13.2.1.map fun n : Int => UInt8.ofNat n.toNat) == (u11.2.1.map fun n : Int => UInt8.ofNat n.toNat), ()), ()))
          (some ((false, ()), ())))
        (some ((false, ()), ()))))
      (cond (u10.1.1.2.1)
        (cond (u13.1.1.2.1)
          (some (((u13.2.1.map fun n : Int => UInt8.ofNat n.toNat) == (u11.2.1.map fun n : Int => UInt8.ofNat n.toNat), ()), ()))
        (some ((false, ()), ())))
      (some ((false, ()), ()))))))
    (some ((false, ()), ()))))
  ((spec_DrawConfigRead p0).bind fun u19 =>
  (impl_ConfigRead u19.2.1).bind fun u20 =>
  (spec_ConfigRead u20.2.1).bind fun u21 =>
  cond ((u20.1.1.2.1 != u21.1.1.2.1))
    (some ((false, ()), ()))
  ((impl_ConfigPack (u20.2.2.1, u20.1.1.1.2.1, ())).bind fun u23 =>
  cond (!u20.1.1.2.1)
    (cond ((u20.2.2.1.length : Int) == 0)
      (some ((true, ()), ()))
    (cond (u20.1.1.2.1)
      (cond (u23.1.1.2.1)
        (some (((u23.2.1.map fun n : Int => UInt8.ofNat n.toNat) == (u21.2.1.map fun n : Int => UInt8.ofNat n.toNat), ()), ()))
      (some ((false, ()), ())))
    (some ((false, ()), ()))))
  (cond (u20.1.1.2.1)
    (cond (u23.1.1.2.1)
      (some (((u23.2.1.map fun n : Int => UInt8.ofNat n.toNat) == (u21.2.1.map fun n : Int => UInt8.ofNat n.toNat), ()), ()))
    (some ((false, ()), ())))
  (some ((false, ()), ())))))))

/-- spec.l1Place -/
abbrev V_spec_l1Place : Type := (Int × Unit) × Unit
def spec_l1Place (p0 : Int) (p1 : Int) : Option V_spec_l1Place :=
  some ((w64 ((w64 (4294967296 * p0)) + p1), ()), ())

/-- spec.l1DrawPlace -/
abbrev V_spec_l1DrawPlace : Type := (Int × Unit) × ((List Int × Int × Int × Unit) × Unit)
def spec_l1DrawPlace (b0_0 : List Int) (b0_1 : Int) (b0_2 : Int) : Option V_spec_l1DrawPlace :=
  (spec_l1Below 3 b0_0 b0_1 b0_2).bind fun u1 =>
  (spec_l1Below 6 u1.2.1.1 u1.2.1.2.1 u1.2.1.2.2.1).bind fun u2 =>
  (spec_l1Place (w64 (1 + u1.1.1)) (w64 (1 + u2.1.1))).bind fun u3 =>
  (spec_l1Below 15 u2.2.1.1 u2.2.1.2.1 u2.2.1.2.2.1).bind fun u4 =>
  cond (u4.1.1 == 0)
    ((spec_l1PickInt [0, (-1), 4294967296, 4294967297, 9223372036854775807, (-9223372036854775808)] u4.2.1.1 u4.2.1.2.1 u4.2.1.2.2.1).bind fun u5 =>
    some ((u5.1.1, ()), ((u5.2.1.1, u5.2.1.2.1, u5.2.1.2.2.1, ()), ())))
  (cond (u4.1.1 == 1)
    ((spec_l1PickInt [0, 30, 31] u4.2.1.1 u4.2.1.2.1 u4.2.1.2.2.1).bind fun u6 =>
    (spec_l1PickInt [0, 60, 61] u6.2.1.1 u6.2.1.2.1 u6.2.1.2.2.1).bind fun u7 =>
    (spec_l1Place u6.1.1 u7.1.1).bind fun u8 =>
    some ((u8.1.1, ()), ((u7.2.1.1, u7.2.1.2.1, u7.2.1.2.2.1, ()), ())))
  (some ((u3.1.1, ()), ((u4.2.1.1, u4.2.1.2.1, u4.2.1.2.2.1, ()), ()))))

/-- spec.l10DrawReader -/
abbrev V_spec_l10DrawReader : Type := ((Int × Int × Unit × Unit) × Unit) × ((List Int × Int × Int × Unit) × (List (Int × Int × List UInt8 × Unit)) × Unit)
def spec_l10DrawReader_step3 (R3 : Int → List Int → Int → Int → Int → Int → (List (Int × Int × List UInt8 × Unit)) → Int → Int → (List (Int × Int × List UInt8 × Unit)) → Option V_spec_l10DrawReader) (t4 : Int) (b0_0 : List Int) (b0_1 : Int) (b0_2 : Int) (b1_0 : Int) (b1_1 : Int) (b2 : List (Int × Int × List UInt8 × Unit)) (b3_0 : Int) (b3_1 : Int) (b4 : List (Int × Int × List UInt8 × Unit)) : Option V_spec_l10DrawReader :=
  (spec_l1Below 4 b0_0 b0_1 b0_2).bind fun u3 =>
  cond (decide (t4 < u3.1.1))
    ((spec_l1Below 5 u3.2.1.1 u3.2.1.2.1 u3.2.1.2.2.1).bind fun u4 =>
    (spec_l1DrawPlace u4.2.1.1 u4.2.1.2.1 u4.2.1.2.2.1).bind fun u5 =>
    if b4.length + 1 ≤ LIM then (
    R3 (w64 (t4 + 1)) u5.2.1.1 u5.2.1.2.1 u5.2.1.2.2.1 b1_0 b1_1 b2 b3_0 b3_1 (b4 ++ [(w64 (1 + u4.1.1), u5.1.1, [], ())])) else none)
  ((spec_l1Below 25 u3.2.1.1 u3.2.1.2.1 u3.2.1.2.2.1).bind fun u13 =>
  cond (u13.1.1 == 0)
    ((spec_l1PickInt [0, 31, 32] u13.2.1.1 u13.2.1.2.1 u13.2.1.2.2.1).bind fun u14 =>
    some (((u14.1.1, b3_1, (), ()), ()), ((u14.2.1.1, u14.2.1.2.1, u14.2.1.2.2.1, ()), b4, ())))
  (cond (u13.1.1 == 1)
    ((spec_l1PickInt [0, 60, 61, 62] u13.2.1.1 u13.2.1.2.1 u13.2.1.2.2.1).bind fun u15 =>
    some (((b3_0, u15.1.1, (), ()), ()), ((u15.2.1.1, u15.2.1.2.1, u15.2.1.2.2.1, ()), b4, ())))
  (cond (u13.1.1 == 2)
    ((spec_l1Below 2 u13.2.1.1 u13.2.1.2.1 u13.2.1.2.2.1).bind fun u16 =>
    if (0 : Int) ≤ (w64 (120 + u16.1.1)) ∧ (w64 (120 + u16.1.1)) ≤ (w64 (120 + u16.1.1)) ∧ (w64 (120 + u16.1.1)) ≤ (LIM : Int) then (
    some (((b3_0, b3_1, (), ()), ()), ((u16.2.1.1, u16.2.1.2.1, u16.2.1.2.2.1, ()), (List.replicate ((w64 (120 + u16.1.1)).toNat) (0, 0, [], ())), ()))) else none)
  (some (((b3_0, b3_1, (), ()), ()), ((u13.2.1.1, u13.2.1.2.1, u13.2.1.2.2.1, ()), b4, ()))))))
def spec_l10DrawReader_L3 : Nat → Int → List Int → Int → Int → Int → Int → (List (Int × Int × List UInt8 × Unit)) → Int → Int → (List (Int × Int × List UInt8 × Unit)) → Option V_spec_l10DrawReader
  | 0, _, _, _, _, _, _, _, _, _, _ => none
  | n + 1, a0, a1, a2, a3, a4, a5, a6, a7, a8, a9 => spec_l10DrawReader_step3 (spec_l10DrawReader_L3 n) a0 a1 a2 a3 a4 a5 a6 a7 a8 a9
def spec_l10DrawReader_entry (R3 : Int → List Int → Int → Int → Int → Int → (List (Int × Int × List UInt8 × Unit)) → Int → Int → (List (Int × Int × List UInt8 × Unit)) → Option V_spec_l10DrawReader) (b0_0 : List Int) (b0_1 : Int) (b0_2 : Int) : Option V_spec_l10DrawReader :=
  (spec_l1Below 3 b0_0 b0_1 b0_2).bind fun u1 =>
  (spec_l1Below 5 u1.2.1.1 u1.2.1.2.1 u1.2.1.2.2.1).bind fun u2 =>
  R3 0 u2.2.1.1 u2.2.1.2.1 u2.2.1.2.2.1 0 0 [] (w64 (1 + u1.1.1)) (w64 (1 + u2.1.1)) []
def spec_l10DrawReader (b0_0 : List Int) (b0_1 : Int) (b0_2 : Int) : Option V_spec_l10DrawReader := spec_l10DrawReader_entry (spec_l10DrawReader_L3 FUEL) b0_0 b0_1 b0_2

/-- spec.DrawReaderPack -/
abbrev V_spec_DrawReaderPack : Type := ((Int × Int × Unit × Unit) × Unit) × ((List (Int × Int × List UInt8 × Unit)) × Unit)
def spec_DrawReaderPack (p0 : List Int) : Option V_spec_DrawReaderPack :=
  (spec_l1New p0).bind fun u1 =>
  (spec_l10DrawReader u1.2.1.1 u1.2.1.2.1 u1.2.1.2.2.1).bind fun u2 =>
  some (((u2.1.1.1, u2.1.1.2.1, (), ()), ()), (u2.2.2.1, ()))

/-- laws.sameEvents -/
abbrev V_laws_sameEvents : Type := (Bool × Unit) × Unit
def laws_sameEvents_step4 (R4 : (List (Int × Int × List UInt8 × Unit)) → (List (Int × Int × List UInt8 × Unit)) → Int → Option V_laws_sameEvents) (t0 : List (Int × Int × List UInt8 × Unit)) (t1 : List (Int × Int × List UInt8 × Unit)) (t5 : Int) : Option V_laws_sameEvents :=
  cond ((decide (t5 < (t0.length : Int))))
    (if (0 : Int) ≤ t5 ∧ t5 < (t0.length : Int) then (
    if (0 : Int) ≤ t5 ∧ t5 < (t1.length : Int) then (
    cond ((!((((t0.getD (t5.toNat) (0, 0, [], ())).1) == ((t1.getD (t5.toNat) (0, 0, [], ())).1)) && ((((t0.getD (t5.toNat) (0, 0, [], ())).2.1) == ((t1.getD (t5.toNat) (0, 0, [], ())).2.1)) && ((((t0.getD (t5.toNat) (0, 0, [], ())).2.2.1) == ((t1.getD (t5.toNat) (0, 0, [], ())).2.2.1)) && true)))))
      (some ((false, ()), ()))
    (R4 t0 t1 (w64 (t5 + 1)))) else none) else none)
  (some ((true, ()), ()))
def laws_sameEvents_L4 : Nat → (List (Int × Int × List UInt8 × Unit)) → (List (Int × Int × List UInt8 × Unit)) → Int → Option V_laws_sameEvents
  | 0, _, _, _ => none
  | n + 1, a0, a1, a2 => laws_sameEvents_step4 (laws_sameEvents_L4 n) a0 a1 a2
def laws_sameEvents_entry (R4 : (List (Int × Int × List UInt8 × Unit)) → (List (Int × Int × List UInt8 × Unit)) → Int → Option V_laws_sameEvents) (p0 : List (Int × Int × List UInt8 × Unit)) (p1 : List (Int × Int × List UInt8 × Unit)) : Option V_laws_sameEvents :=
  cond (((p0.length : Int) != (p1.length : Int)))
    (some ((false, ()), ()))
  (R4 p0 p1 0)
def laws_sameEvents (p0 : List (Int × Int × List UInt8 × Unit)) (p1 : List (Int × Int × List UInt8 × Unit)) : Option V_laws_sameEvents := laws_sameEvents_entry (laws_sameEvents_L4 FUEL) p0 p1

/-- spec.l1Pick -/
abbrev V_spec_l1Pick : Type := (List UInt8 × Unit) × ((List Int × Int × Int × Unit) × Unit)
def spec_l1Pick (p1 : List (List UInt8)) (b0_0 : List Int) (b0_1 : Int) (b0_2 : Int) : Option V_spec_l1Pick :=
  (spec_l1Below (p1.length : Int) b0_0 b0_1 b0_2).bind fun u1 =>
  if (0 : Int) ≤ u1.1.1 ∧ u1.1.1 < (p1.length : Int) then (
  some (((p1.getD (u1.1.1.toNat) []), ()), ((u1.2.1.1, u1.2.1.2.1, u1.2.1.2.2.1, ()), ()))) else none

/-- spec.DrawReaderRead -/
abbrev V_spec_DrawReaderRead : Type := (Unit × Unit) × (List Int × Unit)
def spec_DrawReaderRead_step4 (R4 : Int → List Int → Int → Int → Int → Int → (List (Int × Int × List UInt8 × Unit)) → Option V_spec_DrawReaderRead) (t5 : Int) (b0_0 : List Int) (b0_1 : Int) (b0_2 : Int) (b1_0 : Int) (b1_1 : Int) (b2 : List (Int × Int × List UInt8 × Unit)) : Option V_spec_DrawReaderRead :=
  cond ((decide (t5 < (b2.length : Int))))
    ((spec_l1Below 3 b0_0 b0_1 b0_2).bind fun u4 =>
    (spec_l1Place (w64 (1 + u4.1.1)) 1).bind fun u5 =>
    if (0 : Int) ≤ t5 ∧ t5 < (b2.length : Int) then (
    let x6 : List (Int × Int × List UInt8 × Unit) := (b2.set (t5.toNat) ((b2.getD (t5.toNat) (0, 0, [], ())).1, u5.1.1, (b2.getD (t5.toNat) (0, 0, [], ())).2.2.1, ()))
    (spec_l1Below 5 u4.2.1.1 u4.2.1.2.1 u4.2.1.2.2.1).bind fun u7 =>
    if (0 : Int) ≤ t5 ∧ t5 < (x6.length : Int) then (
    let x8 : List (Int × Int × List UInt8 × Unit) := (x6.set (t5.toNat) (w64 (1 + u7.1.1), (x6.getD (t5.toNat) (0, 0, [], ())).2.1, (x6.getD (t5.toNat) (0, 0, [], ())).2.2.1, ()))
    (spec_l1Pick [[], [97], [98, 99]] u7.2.1.1 u7.2.1.2.1 u7.2.1.2.2.1).bind fun u9 =>
    if (0 : Int) ≤ t5 ∧ t5 < (x8.length : Int) then (
    R4 (w64 (t5 + 1)) u9.2.1.1 u9.2.1.2.1 u9.2.1.2.2.1 b1_0 b1_1 (x8.set (t5.toNat) ((x8.getD (t5.toNat) (0, 0, [], ())).1, (x8.getD (t5.toNat) (0, 0, [], ())).2.1, u9.1.1, ()))) else none) else none) else none)
  ((spec_ReaderPack (b1_0, b1_1, b2, ())).bind fun u11 =>
  (spec_l17Spoil u11.2.1 b0_0 b0_1 b0_2).bind fun u12 =>
  some (((), ()), (u12.2.2.1, ())))
def spec_DrawReaderRead_L4 : Nat → Int → List Int → Int → Int → Int → Int → (List (Int × Int × List UInt8 × Unit)) → Option V_spec_DrawReaderRead
  | 0, _, _, _, _, _, _, _ => none
  | n + 1, a0, a1, a2, a3, a4, a5, a6 => spec_DrawReaderRead_step4 (spec_DrawReaderRead_L4 n) a0 a1 a2 a3 a4 a5 a6
def spec_DrawReaderRead_entry (R4 : Int → List Int → Int → Int → Int → Int → (List (Int × Int × List UInt8 × Unit)) → Option V_spec_DrawReaderRead) (p0 : List Int) : Option V_spec_DrawReaderRead :=
  (spec_l1New p0).bind fun u1 =>
  (spec_l10DrawReader u1.2.1.1 u1.2.1.2.1 u1.2.1.2.2.1).bind fun u2 =>
  R4 0 u2.2.1.1 u2.2.1.2.1 u2.2.1.2.2.1 u2.1.1.1 u2.1.1.2.1 u2.2.2.1
def spec_DrawReaderRead (p0 : List Int) : Option V_spec_DrawReaderRead := spec_DrawReaderRead_entry (spec_DrawReaderRead_L4 FUEL) p0

/-- laws.FnReaderBytes -/
abbrev V_laws_FnReaderBytes : Type := (Bool × Unit) × Unit
def laws_FnReaderBytes (p0 : List Int) : Option V_laws_FnReaderBytes :=
  (laws_big p0).bind fun u1 =>
  cond (u1.1.1)
    (some ((true, ()), ()))
  ((spec_DrawReaderPack p0).bind fun u2 =>
  (impl_ReaderPack (u2.1.1.1, u2.1.1.2.1, u2.2.1, ())).bind fun u3 =>
  (spec_ReaderPack (u2.1.1.1, u2.1.1.2.1, u2.2.1, ())).bind fun u4 =>
  cond ((u3.1.1.2.1 != u4.1.1.2.1))
    (some ((false, ()), ()))
  (cond (u3.1.1.2.1)
    ((impl_ReaderRead u3.2.1).bind fun u6 =>
    cond (!u6.1.1.2.1)
      (some ((false, ()), ()))
    (cond ((u6.1.1.1.1 == u2.1.1.1))
      (cond ((u6.1.1.1.2.1 == u2.1.1.2.1))
        ((laws_sameEvents u6.2.2.1 u2.2.1).bind fun u9 =>
        cond (!u9.1.1)
          (some ((false, ()), ()))
        ((spec_DrawReaderRead p0).bind fun u10 =>
        (impl_ReaderRead u10.2.1).bind fun u11 =>
        (spec_ReaderRead u11.2.1).bind fun u12 =>
        cond ((u11.1.1.2.1 != u12.1.1.2.1))
          (some ((false, ()), ()))
        ((impl_ReaderPack (u11.1.1.1.1, u11.1.1.1.2.1, u11.2.2.1, ())).bind fun u14 =>
        cond (!u11.1.1.2.1)
          (cond ((u11.2.2.1.length : Int) == 0)
            (some ((true, ()), ()))
          (cond (u11.1.1.2.1)
            (cond (u14.1.1.2.1)
              (some (((u14.2.1.map fun n : Int => UInt8.ofNat n.toNat) == (u12.2.1.map fun n : Int => UInt8.ofNat n.toNat), ()), ()))
            (some ((false, ()), ())))
          (some ((false, ()), ()))))
        (cond (u11.1.1.2.1)
          (cond (u14.1.1.2.1)
            (some (((u14.2.1.map fun n : Int => UInt8.ofNat n.toNat) == (u12.2.1.map fun n : Int => UInt8.ofNat n.toNat), ()), ()))
          (some ((false, ()), ())))
        (some ((false, ()), ()))))))
      (some ((false, ()), ())))
    (some ((false, ()), ()))))
  ((spec_DrawReaderRead p0).bind fun u20 =>
  (impl_ReaderRead u20.2.1).bind fun u21 =>
  (spec_ReaderRead u21.2.1).bind fun u22 =>
  cond ((u21.1.1.2.1 != u22.1.1.2.1))
    (some ((false, ()), ()))
  ((impl_ReaderPack (u21.1.1.1.1, u21.1.1.1.2.1, u21.2.2.1, ())).bind fun u24 =>
  cond (!u21.1.1.2.1)
    (cond ((u21.2.2.1.length : Int) == 0)
      (some ((true, ()), ()))
    (cond (u21.1.1.2.1)
      (cond (u24.1.1.2.1)
        (some (((u24.2.1.map fun n : Int => UInt8.ofNat n.toNat) == (u22.2.1.map fun n : Int => UInt8.ofNat n.toNat), ()), ()))
      (some ((false, ()), ())))
    (some ((false, ()), ()))))
  (cond (u21.1.1.2.1)
    (cond (u24.1.1.2.1)
      (some (((u24.2.1.map fun n : Int => UInt8.ofNat n.toNat) == (u22.2.1.map fun n : Int => UInt8.ofNat n.toNat), ()), ()))
    (some ((false, ()), ())))
  (some ((false, ()), ())))))))

/-- laws.szWord -/
abbrev V_laws_szWord : Type := (Int × Unit) × Unit
def laws_szWord (p0 : List UInt8 × List Int × Bool × Unit) (p1 : Int) : Option V_laws_szWord :=
  let x1 : Int := w64 (p1 - (p0.1.length : Int))
  cond (decide (x1 < 0))
    (some (((-1), ()), ()))
  ((laws_szIntS p0.2.1 x1).bind fun u2 =>
  cond (decide (u2.1.1 < 0))
    (some (((-1), ()), ()))
  (some ((u2.1.1, ()), ())))

/-- laws.szWordS -/
abbrev V_laws_szWordS : Type := (Int × Unit) × Unit
def laws_szWordS_step5 (R5 : (List (List UInt8 × List Int × Bool × Unit)) → Int → Int → Option V_laws_szWordS) (t0 : List (List UInt8 × List Int × Bool × Unit)) (t1 : Int) (t5 : Int) : Option V_laws_szWordS :=
  cond ((decide (t5 < (t0.length : Int))))
    (if (0 : Int) ≤ t5 ∧ t5 < (t0.length : Int) then (
    (laws_szWord ((t0.getD (t5.toNat) ([], [], false, ())).1, (t0.getD (t5.toNat) ([], [], false, ())).2.1, (t0.getD (t5.toNat) ([], [], false, ())).2.2.1, ()) t1).bind fun u3 =>
    cond (decide (u3.1.1 < 0))
      (some (((-1), ()), ()))
    (R5 t0 u3.1.1 (w64 (t5 + 1)))) else none)
  (some ((t1, ()), ()))
def laws_szWordS_L5 : Nat → (List (List UInt8 × List Int × Bool × Unit)) → Int → Int → Option V_laws_szWordS
  | 0, _, _, _ => none
  | n + 1, a0, a1, a2 => laws_szWordS_step5 (laws_szWordS_L5 n) a0 a1 a2
def laws_szWordS_entry (R5 : (List (List UInt8 × List Int × Bool × Unit)) → Int → Int → Option V_laws_szWordS) (p0 : List (List UInt8 × List Int × Bool × Unit)) (p1 : Int) : Option V_laws_szWordS :=
  let x1 : Int := w64 (p1 - (p0.length : Int))
  cond (decide (x1 < 0))
    (some (((-1), ()), ()))
  (R5 p0 x1 0)
def laws_szWordS (p0 : List (List UInt8 × List Int × Bool × Unit)) (p1 : Int) : Option V_laws_szWordS := laws_szWordS_entry (laws_szWordS_L5 FUEL) p0 p1

/-- laws.szWriter -/
abbrev V_laws_szWriter : Type := (Int × Unit) × Unit
def laws_szWriter (p0 : Int × List (List UInt8 × List Int × Bool × Unit) × Unit) (p1 : Int) : Option V_laws_szWriter :=
  (laws_szWordS p0.2.1 p1).bind fun u1 =>
  cond (decide (u1.1.1 < 0))
    (some (((-1), ()), ()))
  (some ((u1.1.1, ()), ()))

/-- laws.toWord -/
abbrev V_laws_toWord : Type := ((List UInt8 × Unit × Bool × Unit) × Unit) × (List Int × Unit)
def laws_toWord (p0 : List UInt8 × List Int × Bool × Unit) : Option V_laws_toWord :=
  (laws_toIntS p0.2.1).bind fun u1 =>
  some (((p0.1, (), p0.2.2.1, ()), ()), (u1.2.1, ()))

/-- laws.toWordS -/
abbrev V_laws_toWordS : Type := (Unit × Unit) × ((List (List UInt8 × List Int × Bool × Unit)) × Unit)
def laws_toWordS_step3 (R3 : (List (List UInt8 × List Int × Bool × Unit)) → Int → (List (List UInt8 × List Int × Bool × Unit)) → Option V_laws_toWordS) (t0 : List (List UInt8 × List Int × Bool × Unit)) (t4 : Int) (b0 : List (List UInt8 × List Int × Bool × Unit)) : Option V_laws_toWordS :=
  cond ((decide (t4 < (t0.length : Int))))
    (if (0 : Int) ≤ t4 ∧ t4 < (t0.length : Int) then (
    (laws_toWord ((t0.getD (t4.toNat) ([], [], false, ())).1, (t0.getD (t4.toNat) ([], [], false, ())).2.1, (t0.getD (t4.toNat) ([], [], false, ())).2.2.1, ())).bind fun u3 =>
    if (0 : Int) ≤ t4 ∧ t4 < (b0.length : Int) then (
    R3 t0 (w64 (t4 + 1)) (b0.set (t4.toNat) (u3.1.1.1, u3.2.1, u3.1.1.2.2.1, ()))) else none) else none)
  (some (((), ()), (b0, ())))
def laws_toWordS_L3 : Nat → (List (List UInt8 × List Int × Bool × Unit)) → Int → (List (List UInt8 × List Int × Bool × Unit)) → Option V_laws_toWordS
  | 0, _, _, _ => none
  | n + 1, a0, a1, a2 => laws_toWordS_step3 (laws_toWordS_L3 n) a0 a1 a2
def laws_toWordS_entry (R3 : (List (List UInt8 × List Int × Bool × Unit)) → Int → (List (List UInt8 × List Int × Bool × Unit)) → Option V_laws_toWordS) (p0 : List (List UInt8 × List Int × Bool × Unit)) : Option V_laws_toWordS :=
  if (0 : Int) ≤ (p0.length : Int) ∧ (p0.length : Int) ≤ (p0.length : Int) ∧ (p0.length : Int) ≤ (LIM : Int) then (
  R3 p0 0 (List.replicate ((p0.length : Int).toNat) ([], [], false, ()))) else none
def laws_toWordS (p0 : List (List UInt8 × List Int × Bool × Unit)) : Option V_laws_toWordS := laws_toWordS_entry (laws_toWordS_L3 FUEL) p0

/-- laws.toWriter -/
abbrev V_laws_toWriter : Type := ((Int × Unit × Unit) × Unit) × ((List (List UInt8 × List Int × Bool × Unit)) × Unit)
def laws_toWriter (p0 : Int × List (List UInt8 × List Int × Bool × Unit) × Unit) : Option V_laws_toWriter :=
  (laws_toWordS p0.2.1).bind fun u1 =>
  some (((p0.1, (), ()), ()), (u1.2.1, ()))

/-- spec.l4Asc -/
abbrev V_spec_l4Asc : Type := (Bool × Unit) × Unit
def spec_l4Asc_step2 (R2 : List Int → Int → Int → Int → Option V_spec_l4Asc) (t0 : List Int) (t1 : Int) (t2 : Int) (t7 : Int) : Option V_spec_l4Asc :=
  cond ((decide (t7 < (t0.length : Int))))
    (if (0 : Int) ≤ t7 ∧ t7 < (t0.length : Int) then (
    (spec_l1In (t0.getD (t7.toNat) 0) t1 t2).bind fun u3 =>
    cond (!u3.1.1)
      (some ((false, ()), ()))
    (cond (decide (t7 > 0))
      (if (0 : Int) ≤ w64 (t7 - 1) ∧ w64 (t7 - 1) < (t0.length : Int) then (
      if (0 : Int) ≤ t7 ∧ t7 < (t0.length : Int) then (
      cond (decide ((t0.getD ((w64 (t7 - 1)).toNat) 0) ≥ (t0.getD (t7.toNat) 0)))
        (some ((false, ()), ()))
      (R2 t0 t1 t2 (w64 (t7 + 1)))) else none) else none)
    (R2 t0 t1 t2 (w64 (t7 + 1))))) else none)
  (some ((true, ()), ()))
def spec_l4Asc_L2 : Nat → List Int → Int → Int → Int → Option V_spec_l4Asc
  | 0, _, _, _, _ => none
  | n + 1, a0, a1, a2, a3 => spec_l4Asc_step2 (spec_l4Asc_L2 n) a0 a1 a2 a3
def spec_l4Asc_entry (R2 : List Int → Int → Int → Int → Option V_spec_l4Asc) (p0 : List Int) (p1 : Int) (p2 : Int) : Option V_spec_l4Asc :=
  R2 p0 p1 p2 0
def spec_l4Asc (p0 : List Int) (p1 : Int) (p2 : Int) : Option V_spec_l4Asc := spec_l4Asc_entry (spec_l4Asc_L2 FUEL) p0 p1 p2

/-- spec.NodesOk -/
abbrev V_spec_NodesOk : Type := (Bool × Unit) × Unit
def spec_NodesOk (p0 : List Int × Int × Unit) (p1 : List Int) : Option V_spec_NodesOk :=
  (spec_ConfigOk (p0.1, p0.2.1, ())).bind fun u1 =>
  cond (u1.1.1)
    ((spec_l4Asc p1 0 (w64 ((p0.1.length : Int) - 1))).bind fun u3 =>
    some ((u3.1.1, ()), ()))
  (some ((false, ()), ()))

/-- spec.l4Span -/
abbrev V_spec_l4Span : Type := (Int × Unit) × Unit
def spec_l4Span_step4 (R4 : List Int → Int → Int → List Int → Int → List Bool → Option V_spec_l4Span) (t1 : List Int) (t6 : Int) (t7 : Int) (b0_0 : List Int) (b0_1 : Int) (b1 : List Bool) : Option V_spec_l4Span :=
  cond ((decide (t7 < (t1.length : Int))))
    (if (0 : Int) ≤ t7 ∧ t7 < (t1.length : Int) then (
    let x3 : Int := (t1.getD (t7.toNat) 0)
    if (0 : Int) ≤ x3 ∧ x3 < (b0_0.length : Int) then (
    let x4 : Int := (b0_0.getD (x3.toNat) 0)
    if (0 : Int) ≤ x4 ∧ x4 < (b1.length : Int) then (
    cond (!(b1.getD (x4.toNat) false))
      (if (0 : Int) ≤ x4 ∧ x4 < (b1.length : Int) then (
      R4 t1 (w64 (t6 + 1)) (w64 (t7 + 1)) b0_0 b0_1 (b1.set (x4.toNat) true)) else none)
    (R4 t1 t6 (w64 (t7 + 1)) b0_0 b0_1 b1)) else none) else none) else none)
  (some ((t6, ()), ()))
def spec_l4Span_L4 : Nat → List Int → Int → Int → List Int → Int → List Bool → Option V_spec_l4Span
  | 0, _, _, _, _, _, _ => none
  | n + 1, a0, a1, a2, a3, a4, a5 => spec_l4Span_step4 (spec_l4Span_L4 n) a0 a1 a2 a3 a4 a5
def spec_l4Span_entry (R4 : List Int → Int → Int → List Int → Int → List Bool → Option V_spec_l4Span) (p0 : List Int × Int × Unit) (p1 : List Int) : Option V_spec_l4Span :=
  R4 p1 0 0 p0.1 p0.2.1 (List.replicate 8 false)
def spec_l4Span (p0 : List Int × Int × Unit) (p1 : List Int) : Option V_spec_l4Span := spec_l4Span_entry (spec_l4Span_L4 FUEL) p0 p1

/-- spec.Holds -/
abbrev V_spec_Holds : Type := (Bool × Unit) × Unit
def spec_Holds (p0 : List Int × Int × Unit) (p1 : List Int) : Option V_spec_Holds :=
  (spec_NodesOk (p0.1, p0.2.1, ()) p1).bind fun u1 =>
  cond (u1.1.1)
    ((spec_l4Span (p0.1, p0.2.1, ()) p1).bind fun u2 =>
    some (((decide (u2.1.1 ≥ p0.2.1)), ()), ()))
  (some ((false, ()), ()))

/-- spec.WriterOk -/
abbrev V_spec_WriterOk : Type := (Bool × Unit) × Unit
def spec_WriterOk_step5 (R5 : Int → Int → List Int → Int → Int → (List (List UInt8 × List Int × Bool × Unit)) → Option V_spec_WriterOk) (t5 : Int) (t6 : Int) (b0_0 : List Int) (b0_1 : Int) (b1_0 : Int) (b1_1 : List (List UInt8 × List Int × Bool × Unit)) : Option V_spec_WriterOk :=
  cond ((decide (t6 < (b1_1.length : Int))))
    (if (0 : Int) ≤ t6 ∧ t6 < (b1_1.length : Int) then (
    cond ((decide ((((b1_1.getD (t6.toNat) ([], [], false, ())).1).length : Int) > 40)))
      (some ((false, ()), ()))
    ((spec_NodesOk (b0_0, b0_1, ()) ((b1_1.getD (t6.toNat) ([], [], false, ())).2.1)).bind fun u7 =>
    cond (!u7.1.1)
      (some ((false, ()), ()))
    ((spec_Holds (b0_0, b0_1, ()) ((b1_1.getD (t6.toNat) ([], [], false, ())).2.1)).bind fun u9 =>
    cond (u9.1.1 != ((b1_1.getD (t6.toNat) ([], [], false, ())).2.2.1))
      (some ((false, ()), ()))
    (cond (!((b1_1.getD (t6.toNat) ([], [], false, ())).2.2.1))
      (R5 (w64 (t5 + 1)) (w64 (t6 + 1)) b0_0 b0_1 b1_0 b1_1)
    (R5 t5 (w64 (t6 + 1)) b0_0 b0_1 b1_0 b1_1))))) else none)
  (some ((decide (t5 ≤ 6), ()), ()))
def spec_WriterOk_L5 : Nat → Int → Int → List Int → Int → Int → (List (List UInt8 × List Int × Bool × Unit)) → Option V_spec_WriterOk
  | 0, _, _, _, _, _, _ => none
  | n + 1, a0, a1, a2, a3, a4, a5 => spec_WriterOk_step5 (spec_WriterOk_L5 n) a0 a1 a2 a3 a4 a5
def spec_WriterOk_entry (R5 : Int → Int → List Int → Int → Int → (List (List UInt8 × List Int × Bool × Unit)) → Option V_spec_WriterOk) (p0 : List Int × Int × Unit) (p1 : Int × List (List UInt8 × List Int × Bool × Unit) × Unit) : Option V_spec_WriterOk :=
  (spec_ConfigOk (p0.1, p0.2.1, ())).bind fun u1 =>
  cond (!u1.1.1)
    (some ((false, ()), ()))
  ((spec_l1In p1.1 1 30).bind fun u2 =>
  cond (!u2.1.1)
    (some ((false, ()), ()))
  (cond (decide ((p1.2.1.length : Int) > 60))
    (some ((false, ()), ()))
  (R5 0 0 p0.1 p0.2.1 p1.1 p1.2.1)))
def spec_WriterOk (p0 : List Int × Int × Unit) (p1 : Int × List (List UInt8 × List Int × Bool × Unit) × Unit) : Option V_spec_WriterOk := spec_WriterOk_entry (spec_WriterOk_L5 FUEL) p0 p1

/-- spec.WriterPack -/
abbrev V_spec_WriterPack : Type := ((Unit × Bool × Unit) × Unit) × (List Int × Unit)
def spec_WriterPack_step5 (R5 : Int → Int → (List (List UInt8 × List Int × Bool × Unit)) → List Int → Option V_spec_WriterPack) (t7 : Int) (b0_0 : Int) (b0_1 : List (List UInt8 × List Int × Bool × Unit)) (b1 : List Int) : Option V_spec_WriterPack :=
  cond ((decide (t7 < (b0_1.length : Int))))
    (if (0 : Int) ≤ t7 ∧ t7 < (b0_1.length : Int) then (
    if (0 : Int) ≤ t7 ∧ t7 < (b0_1.length : Int) then (
    (spec_PutText ((b0_1.getD (t7.toNat) ([], [], false, ())).1)).bind fun u7 =>
    if b1.length + u7.2.1.length ≤ LIM then (
    (spec_l17List ((b0_1.getD (t7.toNat) ([], [], false, ())).2.1)).bind fun u8 =>
    if (b1 ++ u7.2.1).length + u8.2.1.length ≤ LIM then (
    R5 (w64 (t7 + 1)) b0_0 b0_1 ((b1 ++ u7.2.1) ++ u8.2.1)) else none) else none) else none) else none)
  (some ((((), true, ()), ()), (b1, ())))
def spec_WriterPack_L5 : Nat → Int → Int → (List (List UInt8 × List Int × Bool × Unit)) → List Int → Option V_spec_WriterPack
  | 0, _, _, _, _ => none
  | n + 1, a0, a1, a2, a3 => spec_WriterPack_step5 (spec_WriterPack_L5 n) a0 a1 a2 a3
def spec_WriterPack_entry (R5 : Int → Int → (List (List UInt8 × List Int × Bool × Unit)) → List Int → Option V_spec_WriterPack) (p0 : List Int × Int × Unit) (p1 : Int × List (List UInt8 × List Int × Bool × Unit) × Unit) : Option V_spec_WriterPack :=
  (spec_WriterOk (p0.1, p0.2.1, ()) (p1.1, p1.2.1, ())).bind fun u1 =>
  cond (!u1.1.1)
    (some ((((), false, ()), ()), ([], ())))
  ((spec_PutNum p1.1).bind fun u3 =>
  (spec_PutNum (p1.2.1.length : Int)).bind fun u4 =>
  if u3.2.1.length + u4.2.1.length ≤ LIM then (
  R5 0 p1.1 p1.2.1 (u3.2.1 ++ u4.2.1)) else none)
def spec_WriterPack (p0 : List Int × Int × Unit) (p1 : Int × List (List UInt8 × List Int × Bool × Unit) × Unit) : Option V_spec_WriterPack := spec_WriterPack_entry (spec_WriterPack_L5 FUEL) p0 p1

/-- impl.ascends -/
abbrev V_impl_ascends : Type := (Bool × Unit) × Unit
def impl_ascends_step2 (R2 : List Int → Int → List Int → Int → Int → Option V_impl_ascends) (t0 : List Int) (t1 : Int) (t7 : List Int) (t8 : Int) (t9 : Int) : Option V_impl_ascends :=
  cond (decide (t9 < t8))
    (if (0 : Int) ≤ t9 ∧ t9 < (t7.length : Int) then (
    let x1 : Int := (t7.getD (t9.toNat) 0)
    (impl_within x1 0 t1).bind fun u2 =>
    cond (!u2.1.1)
      (some ((false, ()), ()))
    (cond (decide (t9 > 0))
      (if (0 : Int) ≤ w64 (t9 - 1) ∧ w64 (t9 - 1) < (t0.length : Int) then (
      cond (decide ((t0.getD ((w64 (t9 - 1)).toNat) 0) ≥ x1))
        (some ((false, ()), ()))
      (R2 t0 t1 t7 t8 (w64 (t9 + 1)))) else none)
    (R2 t0 t1 t7 t8 (w64 (t9 + 1))))) else none)
  (some ((true, ()), ()))
def impl_ascends_L2 : Nat → List Int → Int → List Int → Int → Int → Option V_impl_ascends
  | 0, _, _, _, _, _ => none
  | n + 1, a0, a1, a2, a3, a4 => impl_ascends_step2 (impl_ascends_L2 n) a0 a1 a2 a3 a4
def impl_ascends_entry (R2 : List Int → Int → List Int → Int → Int → Option V_impl_ascends) (p0 : List Int) (p1 : Int) : Option V_impl_ascends :=
  R2 p0 p1 p0 (p0.length : Int) 0
def impl_ascends (p0 : List Int) (p1 : Int) : Option V_impl_ascends := impl_ascends_entry (impl_ascends_L2 FUEL) p0 p1

/-- impl.NodesOk -/
abbrev V_impl_NodesOk : Type := (Bool × Unit) × Unit
def impl_NodesOk (p0 : List Int × Int × Unit) (p1 : List Int) : Option V_impl_NodesOk :=
  (impl_ConfigOk (p0.1, p0.2.1, ())).bind fun u1 =>
  cond (u1.1.1)
    ((impl_ascends p1 (w64 ((p0.1.length : Int) - 1))).bind fun u3 =>
    some ((u3.1.1, ()), ()))
  (some ((false, ()), ()))

/-- slices.Index[[]int,int] -/
abbrev V_slices_Index_int_int : Type := (Int × Unit) × Unit
def slices_Index_int_int_step2 (R2 : List Int → Int → Int → Int → Option V_slices_Index_int_int) (t0 : List Int) (t1 : Int) (t7 : Int) (t8 : Int) : Option V_slices_Index_int_int :=
  cond (decide (t8 < t7))
    (if (0 : Int) ≤ t8 ∧ t8 < (t0.length : Int) then (
    cond (t1 == (t0.getD (t8.toNat) 0))
      (some ((t8, ()), ()))
    (R2 t0 t1 t7 (w64 (t8 + 1)))) else none)
  (some (((-1), ()), ()))
def slices_Index_int_int_L2 : Nat → List Int → Int → Int → Int → Option V_slices_Index_int_int
  | 0, _, _, _, _ => none
  | n + 1, a0, a1, a2, a3 => slices_Index_int_int_step2 (slices_Index_int_int_L2 n) a0 a1 a2 a3
def slices_Index_int_int_entry (R2 : List Int → Int → Int → Int → Option V_slices_Index_int_int) (p0 : List Int) (p1 : Int) : Option V_slices_Index_int_int :=
  R2 p0 p1 (p0.length : Int) 0
def slices_Index_int_int (p0 : List Int) (p1 : Int) : Option V_slices_Index_int_int := slices_Index_int_int_entry (slices_Index_int_int_L2 FUEL) p0 p1

/-- slices.Contains[[]int,int] -/
abbrev V_slices_Contains_int_int : Type := (Bool × Unit) × Unit
def slices_Contains_int_int (p0 : List Int) (p1 : Int) : Option V_slices_Contains_int_int :=
  (slices_Index_int_int p0 p1).bind fun u1 =>
  some ((decide (u1.1.1 ≥ 0), ()), ())

/-- impl.SpanOf -/
abbrev V_impl_SpanOf : Type := (Int × Unit) × Unit
def impl_SpanOf_step5 (R5 : List Int → Int → Int → List Int → Int → List Int → Option V_impl_SpanOf) (t13 : List Int) (t14 : Int) (t15 : Int) (b0_0 : List Int) (b0_1 : Int) (b1 : List Int) : Option V_impl_SpanOf :=
  cond (decide (t15 < t14))
    (if (0 : Int) ≤ t15 ∧ t15 < (t13.length : Int) then (
    let x2 : Int := (t13.getD (t15.toNat) 0)
    if (0 : Int) ≤ x2 ∧ x2 < (b0_0.length : Int) then (
    (slices_Contains_int_int b1 (b0_0.getD (x2.toNat) 0)).bind fun u4 =>
    cond (!u4.1.1)
      (if (0 : Int) ≤ x2 ∧ x2 < (b0_0.length : Int) then (
      if b1.length + 1 ≤ LIM then (
      R5 t13 t14 (w64 (t15 + 1)) b0_0 b0_1 (b1 ++ [(b0_0.getD (x2.toNat) 0)])) else none) else none)
    (R5 t13 t14 (w64 (t15 + 1)) b0_0 b0_1 b1)) else none) else none)
  (some (((b1.length : Int), ()), ()))
def impl_SpanOf_L5 : Nat → List Int → Int → Int → List Int → Int → List Int → Option V_impl_SpanOf
  | 0, _, _, _, _, _, _ => none
  | n + 1, a0, a1, a2, a3, a4, a5 => impl_SpanOf_step5 (impl_SpanOf_L5 n) a0 a1 a2 a3 a4 a5
def impl_SpanOf_entry (R5 : List Int → Int → Int → List Int → Int → List Int → Option V_impl_SpanOf) (p0 : List Int × Int × Unit) (p1 : List Int) : Option V_impl_SpanOf :=
  (impl_NodesOk (p0.1, p0.2.1, ()) p1).bind fun u1 =>
  cond (!u1.1.1)
    (some (((-1), ()), ()))
  (R5 p1 (p1.length : Int) 0 p0.1 p0.2.1 [])
def impl_SpanOf (p0 : List Int × Int × Unit) (p1 : List Int) : Option V_impl_SpanOf := impl_SpanOf_entry (impl_SpanOf_L5 FUEL) p0 p1

/-- impl.Holds -/
abbrev V_impl_Holds : Type := (Bool × Unit) × Unit
def impl_Holds (p0 : List Int × Int × Unit) (p1 : List Int) : Option V_impl_Holds :=
  (impl_NodesOk (p0.1, p0.2.1, ()) p1).bind fun u1 =>
  cond (u1.1.1)
    ((impl_SpanOf (p0.1, p0.2.1, ()) p1).bind fun u2 =>
    some (((decide (u2.1.1 ≥ p0.2.1)), ()), ()))
  (some ((false, ()), ()))

/-- impl.flagNum -/
abbrev V_impl_flagNum : Type := (Int × Unit) × Unit
def impl_flagNum (p0 : Bool) : Option V_impl_flagNum :=
  cond (p0)
    (some ((1, ()), ()))
  (some ((0, ()), ()))

/-- impl.isEpoch -/
abbrev V_impl_isEpoch : Type := (Bool × Unit) × Unit
def impl_isEpoch (p0 : Int) : Option V_impl_isEpoch :=
  (impl_within p0 1 30).bind fun u1 =>
  some ((u1.1.1, ()), ())

/-- impl.WriterOk -/
abbrev V_impl_WriterOk : Type := (Bool × Unit) × Unit
def impl_WriterOk_step3 (R3 : Int → (List (List UInt8 × List Int × Bool × Unit)) → Int → Int → List Int → Int → Int → (List (List UInt8 × List Int × Bool × Unit)) → Option V_impl_WriterOk) (t5 : Int) (t9 : List (List UInt8 × List Int × Bool × Unit)) (t10 : Int) (t11 : Int) (b0_0 : List Int) (b0_1 : Int) (b1_0 : Int) (b1_1 : List (List UInt8 × List Int × Bool × Unit)) : Option V_impl_WriterOk :=
  cond (decide (t11 < t10))
    (if (0 : Int) ≤ t11 ∧ t11 < (t9.length : Int) then (
    (impl_dataOk ((t9.getD (t11.toNat) ([], [], false, ())).1)).bind fun u3 =>
    cond (!u3.1.1)
      (some ((false, ()), ()))
    ((impl_NodesOk (b0_0, b0_1, ()) ((t9.getD (t11.toNat) ([], [], false, ())).2.1)).bind fun u4 =>
    cond (!u4.1.1)
      (some ((false, ()), ()))
    ((impl_Holds (b0_0, b0_1, ()) ((t9.getD (t11.toNat) ([], [], false, ())).2.1)).bind fun u6 =>
    cond (((t9.getD (t11.toNat) ([], [], false, ())).2.2.1) != u6.1.1)
      (some ((false, ()), ()))
    ((impl_flagNum (!((t9.getD (t11.toNat) ([], [], false, ())).2.2.1))).bind fun u8 =>
    R3 (w64 (t5 + u8.1.1)) t9 t10 (w64 (t11 + 1)) b0_0 b0_1 b1_0 b1_1)))) else none)
  ((impl_ConfigOk (b0_0, b0_1, ())).bind fun u9 =>
  cond (u9.1.1)
    ((impl_isEpoch b1_0).bind fun u10 =>
    cond (u10.1.1)
      (cond ((decide ((b1_1.length : Int) ≤ 60)))
        (some ((decide (t5 ≤ 6), ()), ()))
      (some ((false, ()), ())))
    (some ((false, ()), ())))
  (some ((false, ()), ())))
def impl_WriterOk_L3 : Nat → Int → (List (List UInt8 × List Int × Bool × Unit)) → Int → Int → List Int → Int → Int → (List (List UInt8 × List Int × Bool × Unit)) → Option V_impl_WriterOk
  | 0, _, _, _, _, _, _, _, _ => none
  | n + 1, a0, a1, a2, a3, a4, a5, a6, a7 => impl_WriterOk_step3 (impl_WriterOk_L3 n) a0 a1 a2 a3 a4 a5 a6 a7
def impl_WriterOk_entry (R3 : Int → (List (List UInt8 × List Int × Bool × Unit)) → Int → Int → List Int → Int → Int → (List (List UInt8 × List Int × Bool × Unit)) → Option V_impl_WriterOk) (p0 : List Int × Int × Unit) (p1 : Int × List (List UInt8 × List Int × Bool × Unit) × Unit) : Option V_impl_WriterOk :=
  R3 0 p1.2.1 (p1.2.1.length : Int) 0 p0.1 p0.2.1 p1.1 p1.2.1
def impl_WriterOk (p0 : List Int × Int × Unit) (p1 : Int × List (List UInt8 × List Int × Bool × Unit) × Unit) : Option V_impl_WriterOk := impl_WriterOk_entry (impl_WriterOk_L3 FUEL) p0 p1

/-- impl.WriterPack -/
abbrev V_impl_WriterPack : Type := ((Unit × Bool × Unit) × Unit) × (List Int × Unit)
def impl_WriterPack_step5 (R5 : (List (List UInt8 × List Int × Bool × Unit)) → Int → Int → List Int → Option V_impl_WriterPack) (t21 : List (List UInt8 × List Int × Bool × Unit)) (t22 : Int) (t23 : Int) (b0 : List Int) : Option V_impl_WriterPack :=
  cond (decide (t23 < t22))
    (if (0 : Int) ≤ t23 ∧ t23 < (t21.length : Int) then (
    (impl_PutText ((t21.getD (t23.toNat) ([], [], false, ())).1)).bind fun u6 =>
    if b0.length + u6.2.1.length ≤ LIM then (
    (impl_putList ((t21.getD (t23.toNat) ([], [], false, ())).2.1)).bind fun u7 =>
    if (b0 ++ u6.2.1).length + u7.2.1.length ≤ LIM then (
    R5 t21 t22 (w64 (t23 + 1)) ((b0 ++ u6.2.1) ++ u7.2.1)) else none) else none) else none)
  (some ((((), true, ()), ()), (b0, ())))
def impl_WriterPack_L5 : Nat → (List (List UInt8 × List Int × Bool × Unit)) → Int → Int → List Int → Option V_impl_WriterPack
  | 0, _, _, _, _ => none
  | n + 1, a0, a1, a2, a3 => impl_WriterPack_step5 (impl_WriterPack_L5 n) a0 a1 a2 a3
def impl_WriterPack_entry (R5 : (List (List UInt8 × List Int × Bool × Unit)) → Int → Int → List Int → Option V_impl_WriterPack) (p0 : List Int × Int × Unit) (p1 : Int × List (List UInt8 × List Int × Bool × Unit) × Unit) : Option V_impl_WriterPack :=
  (impl_WriterOk (p0.1, p0.2.1, ()) (p1.1, p1.2.1, ())).bind fun u1 =>
  cond (!u1.1.1)
    (some ((((), false, ()), ()), ([], ())))
  ((impl_putNums [p1.1, (p1.2.1.length : Int)]).bind fun u3 =>
  R5 p1.2.1 (p1.2.1.length : Int) 0 u3.2.1)
def impl_WriterPack (p0 : List Int × Int × Unit) (p1 : Int × List (List UInt8 × List Int × Bool × Unit) × Unit) : Option V_impl_WriterPack := impl_WriterPack_entry (impl_WriterPack_L5 FUEL) p0 p1

/-- laws.eqWord -/
abbrev V_laws_eqWord : Type := (Bool × Unit) × Unit
def laws_eqWord (p0 : List UInt8 × List Int × Bool × Unit) (p1 : List UInt8 × List Int × Bool × Unit) : Option V_laws_eqWord :=
  cond (!(p0.1 == p1.1))
    (some ((false, ()), ()))
  ((laws_eqIntS p0.2.1 p1.2.1).bind fun u1 =>
  cond (!u1.1.1)
    (some ((false, ()), ()))
  (cond (p0.2.2.1 != p1.2.2.1)
    (some ((false, ()), ()))
  (some ((true, ()), ()))))

/-- laws.eqWordS -/
abbrev V_laws_eqWordS : Type := (Bool × Unit) × Unit
def laws_eqWordS_step4 (R4 : (List (List UInt8 × List Int × Bool × Unit)) → (List (List UInt8 × List Int × Bool × Unit)) → Int → Option V_laws_eqWordS) (t0 : List (List UInt8 × List Int × Bool × Unit)) (t1 : List (List UInt8 × List Int × Bool × Unit)) (t5 : Int) : Option V_laws_eqWordS :=
  cond ((decide (t5 < (t0.length : Int))))
    (if (0 : Int) ≤ t5 ∧ t5 < (t0.length : Int) then (
    if (0 : Int) ≤ t5 ∧ t5 < (t1.length : Int) then (
    (laws_eqWord ((t0.getD (t5.toNat) ([], [], false, ())).1, (t0.getD (t5.toNat) ([], [], false, ())).2.1, (t0.getD (t5.toNat) ([], [], false, ())).2.2.1, ()) ((t1.getD (t5.toNat) ([], [], false, ())).1, (t1.getD (t5.toNat) ([], [], false, ())).2.1, (t1.getD (t5.toNat) ([], [], false, ())).2.2.1, ())).bind fun u3 =>
    cond (!u3.1.1)
      (some ((false, ()), ()))
    (R4 t0 t1 (w64 (t5 + 1)))) else none) else none)
  (some ((true, ()), ()))
def laws_eqWordS_L4 : Nat → (List (List UInt8 × List Int × Bool × Unit)) → (List (List UInt8 × List Int × Bool × Unit)) → Int → Option V_laws_eqWordS
  | 0, _, _, _ => none
  | n + 1, a0, a1, a2 => laws_eqWordS_step4 (laws_eqWordS_L4 n) a0 a1 a2
def laws_eqWordS_entry (R4 : (List (List UInt8 × List Int × Bool × Unit)) → (List (List UInt8 × List Int × Bool × Unit)) → Int → Option V_laws_eqWordS) (p0 : List (List UInt8 × List Int × Bool × Unit)) (p1 : List (List UInt8 × List Int × Bool × Unit)) : Option V_laws_eqWordS :=
  cond (((p0.length : Int) != (p1.length : Int)))
    (some ((false, ()), ()))
  (R4 p0 p1 0)
def laws_eqWordS (p0 : List (List UInt8 × List Int × Bool × Unit)) (p1 : List (List UInt8 × List Int × Bool × Unit)) : Option V_laws_eqWordS := laws_eqWordS_entry (laws_eqWordS_L4 FUEL) p0 p1

/-- laws.eqWriter -/
abbrev V_laws_eqWriter : Type := (Bool × Unit) × Unit
def laws_eqWriter (p0 : Int × List (List UInt8 × List Int × Bool × Unit) × Unit) (p1 : Int × List (List UInt8 × List Int × Bool × Unit) × Unit) : Option V_laws_eqWriter :=
  cond (p0.1 != p1.1)
    (some ((false, ()), ()))
  ((laws_eqWordS p0.2.1 p1.2.1).bind fun u1 =>
  cond (!u1.1.1)
    (some ((false, ()), ()))
  (some ((true, ()), ())))

/-- laws_markIntS, over a slice inside a row -/
abbrev V_laws_markIntS_at_RSLIBE : Type := (Int × Unit) × ((List (List UInt8 × List Int × Bool × Unit)) × Unit)
def laws_markIntS_at_RSLIBE1 (k : Nat) (p0 : Int) (b0 : List (List UInt8 × List Int × Bool × Unit)) : Option V_laws_markIntS_at_RSLIBE :=
  (laws_markIntS p0 ((b0.getD k ([], [], false, ())).2.1)).bind fun u => some (u.1, (b0.set k ((b0.getD k ([], [], false, ())).1, u.2.1, (b0.getD k ([], [], false, ())).2.2.1, ()), ()))
def laws_markIntS_at_RSLIBE (kj : Nat × Nat) (p0 : Int) (b0 : List (List UInt8 × List Int × Bool × Unit)) : Option V_laws_markIntS_at_RSLIBE :=
  match kj.2 with
  | 1 => laws_markIntS_at_RSLIBE1 kj.1 p0 b0
  | _ => none

/-- laws.markWordS -/
abbrev V_laws_markWordS : Type := (Int × Unit) × ((List (List UInt8 × List Int × Bool × Unit)) × Unit)
def laws_markWordS_step2 (R2 : Int → Int → (List (List UInt8 × List Int × Bool × Unit)) → Option V_laws_markWordS) (t1 : Int) (t5 : Int) (b0 : List (List UInt8 × List Int × Bool × Unit)) : Option V_laws_markWordS :=
  cond ((decide (t5 < (b0.length : Int))))
    ((laws_markText t1).bind fun u2 =>
    if (0 : Int) ≤ t5 ∧ t5 < (b0.length : Int) then (
    let x3 : List (List UInt8 × List Int × Bool × Unit) := (b0.set (t5.toNat) (u2.1.1, (b0.getD (t5.toNat) ([], [], false, ())).2.1, (b0.getD (t5.toNat) ([], [], false, ())).2.2.1, ()))
    if (0 : Int) ≤ t5 ∧ t5 < (x3.length : Int) then (
    (laws_markIntS_at_RSLIBE (t5.toNat, 1) (w64 (t1 + 1)) x3).bind fun u4 =>
    if (0 : Int) ≤ t5 ∧ t5 < (u4.2.1.length : Int) then (
    R2 (w64 (u4.1.1 + 1)) (w64 (t5 + 1)) (u4.2.1.set (t5.toNat) ((u4.2.1.getD (t5.toNat) ([], [], false, ())).1, (u4.2.1.getD (t5.toNat) ([], [], false, ())).2.1, (u4.1.1.tmod 3) == 0, ()))) else none) else none) else none)
  (some ((t1, ()), (b0, ())))
def laws_markWordS_L2 : Nat → Int → Int → (List (List UInt8 × List Int × Bool × Unit)) → Option V_laws_markWordS
  | 0, _, _, _ => none
  | n + 1, a0, a1, a2 => laws_markWordS_step2 (laws_markWordS_L2 n) a0 a1 a2
def laws_markWordS_entry (R2 : Int → Int → (List (List UInt8 × List Int × Bool × Unit)) → Option V_laws_markWordS) (p1 : Int) (b0 : List (List UInt8 × List Int × Bool × Unit)) : Option V_laws_markWordS :=
  R2 p1 0 b0
def laws_markWordS (p1 : Int) (b0 : List (List UInt8 × List Int × Bool × Unit)) : Option V_laws_markWordS := laws_markWordS_entry (laws_markWordS_L2 FUEL) p1 b0

/-- laws.markWriter -/
abbrev V_laws_markWriter : Type := (Int × Unit) × ((List (List UInt8 × List Int × Bool × Unit)) × Unit)
def laws_markWriter (p0_0 : Int) (p1 : Int) (b0 : List (List UInt8 × List Int × Bool × Unit)) : Option V_laws_markWriter :=
  (laws_markWordS p1 b0).bind fun u1 =>
  some ((u1.1.1, ()), (u1.2.1, ()))

/-- laws.FnExactWriterPack -/
abbrev V_laws_FnExactWriterPack : Type := (Bool × Unit) × Unit
def laws_FnExactWriterPack (p0 : List Int × Int × Unit) (p1 : Int × List (List UInt8 × List Int × Bool × Unit) × Unit) : Option V_laws_FnExactWriterPack :=
  (laws_szConfig (p0.1, p0.2.1, ()) 1048576).bind fun u1 =>
  cond (decide (u1.1.1 < 0))
    (some ((true, ()), ()))
  ((laws_szWriter (p1.1, p1.2.1, ()) u1.1.1).bind fun u2 =>
  cond (decide (u2.1.1 < 0))
    (some ((true, ()), ()))
  ((laws_toConfig (p0.1, p0.2.1, ())).bind fun u3 =>
  (laws_toWriter (p1.1, p1.2.1, ())).bind fun u4 =>
  (spec_WriterPack (u3.2.1, u3.1.1.2.1, ()) (u4.1.1.1, u4.2.1, ())).bind fun u5 =>
  (laws_toConfig (p0.1, p0.2.1, ())).bind fun u6 =>
  (laws_toWriter (p1.1, p1.2.1, ())).bind fun u7 =>
  (impl_WriterPack (u6.2.1, u6.1.1.2.1, ()) (u7.1.1.1, u7.2.1, ())).bind fun u8 =>
  (laws_eqByteS u8.2.1 u5.2.1).bind fun u9 =>
  cond (!u9.1.1)
    (some ((false, ()), ()))
  (cond ((u8.1.1.2.1 != u5.1.1.2.1))
    (some ((false, ()), ()))
  ((laws_toConfig (p0.1, p0.2.1, ())).bind fun u11 =>
  (laws_eqConfig (u6.2.1, u6.1.1.2.1, ()) (u11.2.1, u11.1.1.2.1, ())).bind fun u12 =>
  cond (!u12.1.1)
    (some ((false, ()), ()))
  ((laws_toWriter (p1.1, p1.2.1, ())).bind fun u13 =>
  (laws_eqWriter (u7.1.1.1, u7.2.1, ()) (u13.1.1.1, u13.2.1, ())).bind fun u14 =>
  cond (!u14.1.1)
    (some ((false, ()), ()))
  ((laws_markConfig u6.1.1.2.1 1 u6.2.1).bind fun u15 =>
  (laws_markWriter u7.1.1.1 u15.1.1 u7.2.1).bind fun u16 =>
  cond (decide (u16.1.1 < 0))
    (some ((false, ()), ()))
  ((laws_eqByteS u8.2.1 u5.2.1).bind fun u17 =>
  cond (!u17.1.1)
    (some ((false, ()), ()))
  (cond ((u8.1.1.2.1 != u5.1.1.2.1))
    (some ((false, ()), ()))
  ((laws_markByteS 1 u8.2.1).bind fun u19 =>
  (laws_heldByteS u19.2.1 1).bind fun u20 =>
  cond (decide (u20.1.1 < 0))
    (some ((false, ()), ()))
  (cond (u20.1.1 != u19.1.1)
    (some ((false, ()), ()))
  ((laws_toConfig (p0.1, p0.2.1, ())).bind fun u21 =>
  (laws_toWriter (p1.1, p1.2.1, ())).bind fun u22 =>
  (impl_WriterPack (u21.2.1, u21.1.1.2.1, ()) (u22.1.1.1, u22.2.1, ())).bind fun u23 =>
  (laws_eqByteS u23.2.1 u5.2.1).bind fun u24 =>
  cond (!u24.1.1)
    (some ((false, ()), ()))
  (cond ((u23.1.1.2.1 != u5.1.1.2.1))
    (some ((false, ()), ()))
  ((laws_heldByteS u19.2.1 1).bind fun u26 =>
  cond (decide (u26.1.1 < 0))
    (some ((false, ()), ()))
  (cond (u26.1.1 != u19.1.1)
    (some ((false, ()), ()))
  (some ((true, ()), ()))))))))))))))))

/-- laws.szEra -/
abbrev V_laws_szEra : Type := (Int × Unit) × Unit
def laws_szEra (p0 : List Int × Bool × Int × Unit) (p1 : Int) : Option V_laws_szEra :=
  (laws_szIntS p0.1 p1).bind fun u1 =>
  cond (decide (u1.1.1 < 0))
    (some (((-1), ()), ()))
  (some ((u1.1.1, ()), ()))

/-- laws.szEraS -/
abbrev V_laws_szEraS : Type := (Int × Unit) × Unit
def laws_szEraS_step5 (R5 : (List (List Int × Bool × Int × Unit)) → Int → Int → Option V_laws_szEraS) (t0 : List (List Int × Bool × Int × Unit)) (t1 : Int) (t5 : Int) : Option V_laws_szEraS :=
  cond ((decide (t5 < (t0.length : Int))))
    (if (0 : Int) ≤ t5 ∧ t5 < (t0.length : Int) then (
    (laws_szEra ((t0.getD (t5.toNat) ([], false, 0, ())).1, (t0.getD (t5.toNat) ([], false, 0, ())).2.1, (t0.getD (t5.toNat) ([], false, 0, ())).2.2.1, ()) t1).bind fun u3 =>
    cond (decide (u3.1.1 < 0))
      (some (((-1), ()), ()))
    (R5 t0 u3.1.1 (w64 (t5 + 1)))) else none)
  (some ((t1, ()), ()))
def laws_szEraS_L5 : Nat → (List (List Int × Bool × Int × Unit)) → Int → Int → Option V_laws_szEraS
  | 0, _, _, _ => none
  | n + 1, a0, a1, a2 => laws_szEraS_step5 (laws_szEraS_L5 n) a0 a1 a2
def laws_szEraS_entry (R5 : (List (List Int × Bool × Int × Unit)) → Int → Int → Option V_laws_szEraS) (p0 : List (List Int × Bool × Int × Unit)) (p1 : Int) : Option V_laws_szEraS :=
  let x1 : Int := w64 (p1 - (p0.length : Int))
  cond (decide (x1 < 0))
    (some (((-1), ()), ()))
  (R5 p0 x1 0)
def laws_szEraS (p0 : List (List Int × Bool × Int × Unit)) (p1 : Int) : Option V_laws_szEraS := laws_szEraS_entry (laws_szEraS_L5 FUEL) p0 p1

/-- laws.szRegister -/
abbrev V_laws_szRegister : Type := (Int × Unit) × Unit
def laws_szRegister (p0 : List (List Int × Bool × Int × Unit) × Int × Unit) (p1 : Int) : Option V_laws_szRegister :=
  (laws_szEraS p0.1 p1).bind fun u1 =>
  cond (decide (u1.1.1 < 0))
    (some (((-1), ()), ()))
  (some ((u1.1.1, ()), ()))

/-- laws.toEra -/
abbrev V_laws_toEra : Type := ((Unit × Bool × Int × Unit) × Unit) × (List Int × Unit)
def laws_toEra (p0 : List Int × Bool × Int × Unit) : Option V_laws_toEra :=
  (laws_toIntS p0.1).bind fun u1 =>
  some ((((), p0.2.1, p0.2.2.1, ()), ()), (u1.2.1, ()))

/-- laws.toEraS -/
abbrev V_laws_toEraS : Type := (Unit × Unit) × ((List (List Int × Bool × Int × Unit)) × Unit)
def laws_toEraS_step3 (R3 : (List (List Int × Bool × Int × Unit)) → Int → (List (List Int × Bool × Int × Unit)) → Option V_laws_toEraS) (t0 : List (List Int × Bool × Int × Unit)) (t4 : Int) (b0 : List (List Int × Bool × Int × Unit)) : Option V_laws_toEraS :=
  cond ((decide (t4 < (t0.length : Int))))
    (if (0 : Int) ≤ t4 ∧ t4 < (t0.length : Int) then (
    (laws_toEra ((t0.getD (t4.toNat) ([], false, 0, ())).1, (t0.getD (t4.toNat) ([], false, 0, ())).2.1, (t0.getD (t4.toNat) ([], false, 0, ())).2.2.1, ())).bind fun u3 =>
    if (0 : Int) ≤ t4 ∧ t4 < (b0.length : Int) then (
    R3 t0 (w64 (t4 + 1)) (b0.set (t4.toNat) (u3.2.1, u3.1.1.2.1, u3.1.1.2.2.1, ()))) else none) else none)
  (some (((), ()), (b0, ())))
def laws_toEraS_L3 : Nat → (List (List Int × Bool × Int × Unit)) → Int → (List (List Int × Bool × Int × Unit)) → Option V_laws_toEraS
  | 0, _, _, _ => none
  | n + 1, a0, a1, a2 => laws_toEraS_step3 (laws_toEraS_L3 n) a0 a1 a2
def laws_toEraS_entry (R3 : (List (List Int × Bool × Int × Unit)) → Int → (List (List Int × Bool × Int × Unit)) → Option V_laws_toEraS) (p0 : List (List Int × Bool × Int × Unit)) : Option V_laws_toEraS :=
  if (0 : Int) ≤ (p0.length : Int) ∧ (p0.length : Int) ≤ (p0.length : Int) ∧ (p0.length : Int) ≤ (LIM : Int) then (
  R3 p0 0 (List.replicate ((p0.length : Int).toNat) ([], false, 0, ()))) else none
def laws_toEraS (p0 : List (List Int × Bool × Int × Unit)) : Option V_laws_toEraS := laws_toEraS_entry (laws_toEraS_L3 FUEL) p0

/-- laws.toRegister -/
abbrev V_laws_toRegister : Type := ((Unit × Int × Unit) × Unit) × ((List (List Int × Bool × Int × Unit)) × Unit)
def laws_toRegister (p0 : List (List Int × Bool × Int × Unit) × Int × Unit) : Option V_laws_toRegister :=
  (laws_toEraS p0.1).bind fun u1 =>
  some ((((), p0.2.1, ()), ()), (u1.2.1, ()))

/-- spec.PlaceOk -/
abbrev V_spec_PlaceOk : Type := (Bool × Unit) × Unit
def spec_PlaceOk (p0 : Int) : Option V_spec_PlaceOk :=
  cond (decide (p0 > 0))
    ((spec_l1In (w64 (p0.tdiv 4294967296)) 1 30).bind fun u2 =>
    cond (u2.1.1)
      ((spec_l1In (p0.tmod 4294967296) 1 60).bind fun u3 =>
      some ((u3.1.1, ()), ()))
    (some ((false, ()), ())))
  (some ((false, ()), ()))

/-- spec.EpochOf -/
abbrev V_spec_EpochOf : Type := (Int × Unit) × Unit
def spec_EpochOf (p0 : Int) : Option V_spec_EpochOf :=
  (spec_PlaceOk p0).bind fun u1 =>
  cond (!u1.1.1)
    (some ((0, ()), ()))
  (some (((w64 (p0.tdiv 4294967296)), ()), ()))

/-- spec.RegOk -/
abbrev V_spec_RegOk : Type := (Bool × Unit) × Unit
def spec_RegOk_step5 (R5 : Int → Int → List Int → Int → (List (List Int × Bool × Int × Unit)) → Int → Option V_spec_RegOk) (t5 : Int) (t6 : Int) (b0_0 : List Int) (b0_1 : Int) (b1_0 : List (List Int × Bool × Int × Unit)) (b1_1 : Int) : Option V_spec_RegOk :=
  cond (decide (t6 < t5))
    (if (0 : Int) ≤ t6 ∧ t6 < (b1_0.length : Int) then (
    (spec_Holds (b0_0, b0_1, ()) ((b1_0.getD (t6.toNat) ([], false, 0, ())).1)).bind fun u6 =>
    cond (!u6.1.1)
      (some ((false, ()), ()))
    ((spec_l1In ((b1_0.getD (t6.toNat) ([], false, 0, ())).2.2.1) 0 60).bind fun u8 =>
    cond (!u8.1.1)
      (some ((false, ()), ()))
    (cond (!((b1_0.getD (t6.toNat) ([], false, 0, ())).2.1))
      (cond (((b1_0.getD (t6.toNat) ([], false, 0, ())).2.2.1) != 0)
        (some ((false, ()), ()))
      (cond (((b1_0.getD (t6.toNat) ([], false, 0, ())).2.1))
        (cond (t6 == (w64 (t5 - 1)))
          (some ((false, ()), ()))
        (cond (decide (t6 > 0))
          (if (0 : Int) ≤ w64 (t6 - 1) ∧ w64 (t6 - 1) < (b1_0.length : Int) then (
          cond (!((b1_0.getD ((w64 (t6 - 1)).toNat) ([], false, 0, ())).2.1))
            (some ((false, ()), ()))
          (R5 t5 (w64 (t6 + 1)) b0_0 b0_1 b1_0 b1_1)) else none)
        (R5 t5 (w64 (t6 + 1)) b0_0 b0_1 b1_0 b1_1)))
      (R5 t5 (w64 (t6 + 1)) b0_0 b0_1 b1_0 b1_1)))
    (cond (((b1_0.getD (t6.toNat) ([], false, 0, ())).2.1))
      (cond (t6 == (w64 (t5 - 1)))
        (some ((false, ()), ()))
      (cond (decide (t6 > 0))
        (if (0 : Int) ≤ w64 (t6 - 1) ∧ w64 (t6 - 1) < (b1_0.length : Int) then (
        cond (!((b1_0.getD ((w64 (t6 - 1)).toNat) ([], false, 0, ())).2.1))
          (some ((false, ()), ()))
        (R5 t5 (w64 (t6 + 1)) b0_0 b0_1 b1_0 b1_1)) else none)
      (R5 t5 (w64 (t6 + 1)) b0_0 b0_1 b1_0 b1_1)))
    (R5 t5 (w64 (t6 + 1)) b0_0 b0_1 b1_0 b1_1))))) else none)
  (some ((true, ()), ()))
def spec_RegOk_L5 : Nat → Int → Int → List Int → Int → (List (List Int × Bool × Int × Unit)) → Int → Option V_spec_RegOk
  | 0, _, _, _, _, _, _ => none
  | n + 1, a0, a1, a2, a3, a4, a5 => spec_RegOk_step5 (spec_RegOk_L5 n) a0 a1 a2 a3 a4 a5
def spec_RegOk_entry (R5 : Int → Int → List Int → Int → (List (List Int × Bool × Int × Unit)) → Int → Option V_spec_RegOk) (p0 : List Int × Int × Unit) (p1 : List (List Int × Bool × Int × Unit) × Int × Unit) : Option V_spec_RegOk :=
  (spec_ConfigOk (p0.1, p0.2.1, ())).bind fun u1 =>
  cond (!u1.1.1)
    (some ((false, ()), ()))
  (cond ((decide ((p1.1.length : Int) > 30)))
    (some ((false, ()), ()))
  (cond (p1.2.1 != 0)
    ((spec_PlaceOk p1.2.1).bind fun u3 =>
    cond (!u3.1.1)
      (some ((false, ()), ()))
    ((spec_EpochOf p1.2.1).bind fun u4 =>
    cond ((decide (u4.1.1 > (p1.1.length : Int))))
      (some ((false, ()), ()))
    (R5 (p1.1.length : Int) 0 p0.1 p0.2.1 p1.1 p1.2.1)))
  (R5 (p1.1.length : Int) 0 p0.1 p0.2.1 p1.1 p1.2.1)))
def spec_RegOk (p0 : List Int × Int × Unit) (p1 : List (List Int × Bool × Int × Unit) × Int × Unit) : Option V_spec_RegOk := spec_RegOk_entry (spec_RegOk_L5 FUEL) p0 p1

/-- spec.l3Bit -/
abbrev V_spec_l3Bit : Type := (Int × Unit) × Unit
def spec_l3Bit (p0 : Bool) : Option V_spec_l3Bit :=
  cond (p0)
    (some ((1, ()), ()))
  (some ((0, ()), ()))

/-- spec.RegPack -/
abbrev V_spec_RegPack : Type := ((Unit × Bool × Unit) × Unit) × (List Int × Unit)
def spec_RegPack_step5 (R5 : Int → (List (List Int × Bool × Int × Unit)) → Int → List Int → Option V_spec_RegPack) (t7 : Int) (b0_0 : List (List Int × Bool × Int × Unit)) (b0_1 : Int) (b1 : List Int) : Option V_spec_RegPack :=
  cond ((decide (t7 < (b0_0.length : Int))))
    (if (0 : Int) ≤ t7 ∧ t7 < (b0_0.length : Int) then (
    (spec_l17List ((b0_0.getD (t7.toNat) ([], false, 0, ())).1)).bind fun u6 =>
    if b1.length + u6.2.1.length ≤ LIM then (
    (spec_l3Bit ((b0_0.getD (t7.toNat) ([], false, 0, ())).2.1)).bind fun u7 =>
    (spec_PutNum u7.1.1).bind fun u8 =>
    if (b1 ++ u6.2.1).length + u8.2.1.length ≤ LIM then (
    let x9 : List Int := (b1 ++ u6.2.1) ++ u8.2.1
    (spec_PutNum ((b0_0.getD (t7.toNat) ([], false, 0, ())).2.2.1)).bind fun u11 =>
    if x9.length + u11.2.1.length ≤ LIM then (
    R5 (w64 (t7 + 1)) b0_0 b0_1 (x9 ++ u11.2.1)) else none) else none) else none) else none)
  (some ((((), true, ()), ()), (b1, ())))
def spec_RegPack_L5 : Nat → Int → (List (List Int × Bool × Int × Unit)) → Int → List Int → Option V_spec_RegPack
  | 0, _, _, _, _ => none
  | n + 1, a0, a1, a2, a3 => spec_RegPack_step5 (spec_RegPack_L5 n) a0 a1 a2 a3
def spec_RegPack_entry (R5 : Int → (List (List Int × Bool × Int × Unit)) → Int → List Int → Option V_spec_RegPack) (p0 : List Int × Int × Unit) (p1 : List (List Int × Bool × Int × Unit) × Int × Unit) : Option V_spec_RegPack :=
  (spec_RegOk (p0.1, p0.2.1, ()) (p1.1, p1.2.1, ())).bind fun u1 =>
  cond (!u1.1.1)
    (some ((((), false, ()), ()), ([], ())))
  ((spec_PutNum p1.2.1).bind fun u2 =>
  (spec_PutNum (p1.1.length : Int)).bind fun u3 =>
  if u2.2.1.length + u3.2.1.length ≤ LIM then (
  R5 0 p1.1 p1.2.1 (u2.2.1 ++ u3.2.1)) else none)
def spec_RegPack (p0 : List Int × Int × Unit) (p1 : List (List Int × Bool × Int × Unit) × Int × Unit) : Option V_spec_RegPack := spec_RegPack_entry (spec_RegPack_L5 FUEL) p0 p1

/-- impl.eraOk -/
abbrev V_impl_eraOk : Type := (Bool × Unit) × Unit
def impl_eraOk (p0 : List Int × Int × Unit) (p1 : List Int × Bool × Int × Unit) : Option V_impl_eraOk :=
  (impl_Holds (p0.1, p0.2.1, ()) p1.1).bind fun u1 =>
  cond (u1.1.1)
    ((impl_within p1.2.2.1 0 60).bind fun u2 =>
    cond (u2.1.1)
      (cond (p1.2.1)
        (some ((true, ()), ()))
      (some ((p1.2.2.1 == 0, ()), ())))
    (some ((false, ()), ())))
  (some ((false, ()), ()))

/-- impl.isOff -/
abbrev V_impl_isOff : Type := (Bool × Unit) × Unit
def impl_isOff (p0 : Int) : Option V_impl_isOff :=
  (impl_within p0 1 60).bind fun u1 =>
  some ((u1.1.1, ()), ())

/-- impl.PlaceOk -/
abbrev V_impl_PlaceOk : Type := (Bool × Unit) × Unit
def impl_PlaceOk (p0 : Int) : Option V_impl_PlaceOk :=
  (impl_isEpoch (w64 (p0.tdiv 4294967296))).bind fun u2 =>
  cond (u2.1.1)
    ((impl_isOff (p0.tmod 4294967296)).bind fun u3 =>
    some ((u3.1.1, ()), ()))
  (some ((false, ()), ()))

/-- impl.EpochOf -/
abbrev V_impl_EpochOf : Type := (Int × Unit) × Unit
def impl_EpochOf (p0 : Int) : Option V_impl_EpochOf :=
  (impl_PlaceOk p0).bind fun u1 =>
  cond (!u1.1.1)
    (some ((0, ()), ()))
  (some (((w64 (p0.tdiv 4294967296)), ()), ()))

/-- impl.RegOk -/
abbrev V_impl_RegOk : Type := (Bool × Unit) × Unit
def impl_RegOk_step2 (R2 : (List (List Int × Bool × Int × Unit)) → Int → Int → List Int → Int → (List (List Int × Bool × Int × Unit)) → Int → Option V_impl_RegOk) (t9 : List (List Int × Bool × Int × Unit)) (t10 : Int) (t11 : Int) (b0_0 : List Int) (b0_1 : Int) (b1_0 : List (List Int × Bool × Int × Unit)) (b1_1 : Int) : Option V_impl_RegOk :=
  cond (decide (t11 < t10))
    (if (0 : Int) ≤ t11 ∧ t11 < (t9.length : Int) then (
    (impl_eraOk (b0_0, b0_1, ()) ((t9.getD (t11.toNat) ([], false, 0, ())).1, (t9.getD (t11.toNat) ([], false, 0, ())).2.1, (t9.getD (t11.toNat) ([], false, 0, ())).2.2.1, ())).bind fun u1 =>
    cond (!u1.1.1)
      (some ((false, ()), ()))
    (cond (((t9.getD (t11.toNat) ([], false, 0, ())).2.1))
      (cond (t11 == (w64 ((b1_0.length : Int) - 1)))
        (some ((false, ()), ()))
      (cond (decide (t11 > 0))
        (if (0 : Int) ≤ w64 (t11 - 1) ∧ w64 (t11 - 1) < (b1_0.length : Int) then (
        cond (!((b1_0.getD ((w64 (t11 - 1)).toNat) ([], false, 0, ())).2.1))
          (some ((false, ()), ()))
        (R2 t9 t10 (w64 (t11 + 1)) b0_0 b0_1 b1_0 b1_1)) else none)
      (R2 t9 t10 (w64 (t11 + 1)) b0_0 b0_1 b1_0 b1_1)))
    (R2 t9 t10 (w64 (t11 + 1)) b0_0 b0_1 b1_0 b1_1))) else none)
  (cond (b1_1 == 0)
    ((impl_ConfigOk (b0_0, b0_1, ())).bind fun u5 =>
    cond (u5.1.1)
      (cond ((decide ((b1_0.length : Int) ≤ 30)))
        (some ((true, ()), ()))
      (some ((false, ()), ())))
    (some ((false, ()), ())))
  ((impl_EpochOf b1_1).bind fun u7 =>
  (impl_within u7.1.1 1 (b1_0.length : Int)).bind fun u8 =>
  (impl_ConfigOk (b0_0, b0_1, ())).bind fun u9 =>
  cond (u9.1.1)
    (cond ((decide ((b1_0.length : Int) ≤ 30)))
      (some ((u8.1.1, ()), ()))
    (some ((false, ()), ())))
  (some ((false, ()), ()))))
def impl_RegOk_L2 : Nat → (List (List Int × Bool × Int × Unit)) → Int → Int → List Int → Int → (List (List Int × Bool × Int × Unit)) → Int → Option V_impl_RegOk
  | 0, _, _, _, _, _, _, _ => none
  | n + 1, a0, a1, a2, a3, a4, a5, a6 => impl_RegOk_step2 (impl_RegOk_L2 n) a0 a1 a2 a3 a4 a5 a6
def impl_RegOk_entry (R2 : (List (List Int × Bool × Int × Unit)) → Int → Int → List Int → Int → (List (List Int × Bool × Int × Unit)) → Int → Option V_impl_RegOk) (p0 : List Int × Int × Unit) (p1 : List (List Int × Bool × Int × Unit) × Int × Unit) : Option V_impl_RegOk :=
  R2 p1.1 (p1.1.length : Int) 0 p0.1 p0.2.1 p1.1 p1.2.1
def impl_RegOk (p0 : List Int × Int × Unit) (p1 : List (List Int × Bool × Int × Unit) × Int × Unit) : Option V_impl_RegOk := impl_RegOk_entry (impl_RegOk_L2 FUEL) p0 p1

/-- impl.RegPack -/
abbrev V_impl_RegPack : Type := ((Unit × Bool × Unit) × Unit) × (List Int × Unit)
def impl_RegPack_step5 (R5 : (List (List Int × Bool × Int × Unit)) → Int → Int → List Int → Option V_impl_RegPack) (t21 : List (List Int × Bool × Int × Unit)) (t22 : Int) (t23 : Int) (b0 : List Int) : Option V_impl_RegPack :=
  cond (decide (t23 < t22))
    (if (0 : Int) ≤ t23 ∧ t23 < (t21.length : Int) then (
    (impl_putList ((t21.getD (t23.toNat) ([], false, 0, ())).1)).bind fun u3 =>
    if b0.length + u3.2.1.length ≤ LIM then (
    (impl_flagNum ((t21.getD (t23.toNat) ([], false, 0, ())).2.1)).bind fun u6 =>
    (impl_putNums [u6.1.1, ((t21.getD (t23.toNat) ([], false, 0, ())).2.2.1)]).bind fun u7 =>
    if (b0 ++ u3.2.1).length + u7.2.1.length ≤ LIM then (
    R5 t21 t22 (w64 (t23 + 1)) ((b0 ++ u3.2.1) ++ u7.2.1)) else none) else none) else none)
  (some ((((), true, ()), ()), (b0, ())))
def impl_RegPack_L5 : Nat → (List (List Int × Bool × Int × Unit)) → Int → Int → List Int → Option V_impl_RegPack
  | 0, _, _, _, _ => none
  | n + 1, a0, a1, a2, a3 => impl_RegPack_step5 (impl_RegPack_L5 n) a0 a1 a2 a3
def impl_RegPack_entry (R5 : (List (List Int × Bool × Int × Unit)) → Int → Int → List Int → Option V_impl_RegPack) (p0 : List Int × Int × Unit) (p1 : List (List Int × Bool × Int × Unit) × Int × Unit) : Option V_impl_RegPack :=
  (impl_RegOk (p0.1, p0.2.1, ()) (p1.1, p1.2.1, ())).bind fun u1 =>
  cond (!u1.1.1)
    (some ((((), false, ()), ()), ([], ())))
  ((impl_putNums [p1.2.1, (p1.1.length : Int)]).bind fun u2 =>
  R5 p1.1 (p1.1.length : Int) 0 u2.2.1)
def impl_RegPack (p0 : List Int × Int × Unit) (p1 : List (List Int × Bool × Int × Unit) × Int × Unit) : Option V_impl_RegPack := impl_RegPack_entry (impl_RegPack_L5 FUEL) p0 p1

/-- laws.eqEra -/
abbrev V_laws_eqEra : Type := (Bool × Unit) × Unit
def laws_eqEra (p0 : List Int × Bool × Int × Unit) (p1 : List Int × Bool × Int × Unit) : Option V_laws_eqEra :=
  (laws_eqIntS p0.1 p1.1).bind fun u1 =>
  cond (!u1.1.1)
    (some ((false, ()), ()))
  (cond (p0.2.1 != p1.2.1)
    (some ((false, ()), ()))
  (cond (p0.2.2.1 != p1.2.2.1)
    (some ((false, ()), ()))
  (some ((true, ()), ()))))

/-- laws.eqEraS -/
abbrev V_laws_eqEraS : Type := (Bool × Unit) × Unit
def laws_eqEraS_step4 (R4 : (List (List Int × Bool × Int × Unit)) → (List (List Int × Bool × Int × Unit)) → Int → Option V_laws_eqEraS) (t0 : List (List Int × Bool × Int × Unit)) (t1 : List (List Int × Bool × Int × Unit)) (t5 : Int) : Option V_laws_eqEraS :=
  cond ((decide (t5 < (t0.length : Int))))
    (if (0 : Int) ≤ t5 ∧ t5 < (t0.length : Int) then (
    if (0 : Int) ≤ t5 ∧ t5 < (t1.length : Int) then (
    (laws_eqEra ((t0.getD (t5.toNat) ([], false, 0, ())).1, (t0.getD (t5.toNat) ([], false, 0, ())).2.1, (t0.getD (t5.toNat) ([], false, 0, ())).2.2.1, ()) ((t1.getD (t5.toNat) ([], false, 0, ())).1, (t1.getD (t5.toNat) ([], false, 0, ())).2.1, (t1.getD (t5.toNat) ([], false, 0, ())).2.2.1, ())).bind fun u3 =>
    cond (!u3.1.1)
      (some ((false, ()), ()))
    (R4 t0 t1 (w64 (t5 + 1)))) else none) else none)
  (some ((true, ()), ()))
def laws_eqEraS_L4 : Nat → (List (List Int × Bool × Int × Unit)) → (List (List Int × Bool × Int × Unit)) → Int → Option V_laws_eqEraS
  | 0, _, _, _ => none
  | n + 1, a0, a1, a2 => laws_eqEraS_step4 (laws_eqEraS_L4 n) a0 a1 a2
def laws_eqEraS_entry (R4 : (List (List Int × Bool × Int × Unit)) → (List (List Int × Bool × Int × Unit)) → Int → Option V_laws_eqEraS) (p0 : List (List Int × Bool × Int × Unit)) (p1 : List (List Int × Bool × Int × Unit)) : Option V_laws_eqEraS :=
  cond (((p0.length : Int) != (p1.length : Int)))
    (some ((false, ()), ()))
  (R4 p0 p1 0)
def laws_eqEraS (p0 : List (List Int × Bool × Int × Unit)) (p1 : List (List Int × Bool × Int × Unit)) : Option V_laws_eqEraS := laws_eqEraS_entry (laws_eqEraS_L4 FUEL) p0 p1

/-- laws.eqRegister -/
abbrev V_laws_eqRegister : Type := (Bool × Unit) × Unit
def laws_eqRegister (p0 : List (List Int × Bool × Int × Unit) × Int × Unit) (p1 : List (List Int × Bool × Int × Unit) × Int × Unit) : Option V_laws_eqRegister :=
  (laws_eqEraS p0.1 p1.1).bind fun u1 =>
  cond (!u1.1.1)
    (some ((false, ()), ()))
  (cond (p0.2.1 != p1.2.1)
    (some ((false, ()), ()))
  (some ((true, ()), ())))

/-- laws_markIntS, over a slice inside a row -/
abbrev V_laws_markIntS_at_RLIBIE : Type := (Int × Unit) × ((List (List Int × Bool × Int × Unit)) × Unit)
def laws_markIntS_at_RLIBIE0 (k : Nat) (p0 : Int) (b0 : List (List Int × Bool × Int × Unit)) : Option V_laws_markIntS_at_RLIBIE :=
  (laws_markIntS p0 ((b0.getD k ([], false, 0, ())).1)).bind fun u => some (u.1, (b0.set k (u.2.1, (b0.getD k ([], false, 0, ())).2.1, (b0.getD k ([], false, 0, ())).2.2.1, ()), ()))
def laws_markIntS_at_RLIBIE (kj : Nat × Nat) (p0 : Int) (b0 : List (List Int × Bool × Int × Unit)) : Option V_laws_markIntS_at_RLIBIE :=
  match kj.2 with
  | 0 => laws_markIntS_at_RLIBIE0 kj.1 p0 b0
  | _ => none

/-- laws.markEraS -/
abbrev V_laws_markEraS : Type := (Int × Unit) × ((List (List Int × Bool × Int × Unit)) × Unit)
def laws_markEraS_step2 (R2 : Int → Int → (List (List Int × Bool × Int × Unit)) → Option V_laws_markEraS) (t1 : Int) (t5 : Int) (b0 : List (List Int × Bool × Int × Unit)) : Option V_laws_markEraS :=
  cond ((decide (t5 < (b0.length : Int))))
    (if (0 : Int) ≤ t5 ∧ t5 < (b0.length : Int) then (
    (laws_markIntS_at_RLIBIE (t5.toNat, 0) t1 b0).bind fun u2 =>
    if (0 : Int) ≤ t5 ∧ t5 < (u2.2.1.length : Int) then (
    let x3 : List (List Int × Bool × Int × Unit) := (u2.2.1.set (t5.toNat) ((u2.2.1.getD (t5.toNat) ([], false, 0, ())).1, (u2.1.1.tmod 3) == 0, (u2.2.1.getD (t5.toNat) ([], false, 0, ())).2.2.1, ()))
    if (0 : Int) ≤ t5 ∧ t5 < (x3.length : Int) then (
    R2 (w64 ((w64 (u2.1.1 + 1)) + 1)) (w64 (t5 + 1)) (x3.set (t5.toNat) ((x3.getD (t5.toNat) ([], false, 0, ())).1, (x3.getD (t5.toNat) ([], false, 0, ())).2.1, w64 (u2.1.1 + 1), ()))) else none) else none) else none)
  (some ((t1, ()), (b0, ())))
def laws_markEraS_L2 : Nat → Int → Int → (List (List Int × Bool × Int × Unit)) → Option V_laws_markEraS
  | 0, _, _, _ => none
  | n + 1, a0, a1, a2 => laws_markEraS_step2 (laws_markEraS_L2 n) a0 a1 a2
def laws_markEraS_entry (R2 : Int → Int → (List (List Int × Bool × Int × Unit)) → Option V_laws_markEraS) (p1 : Int) (b0 : List (List Int × Bool × Int × Unit)) : Option V_laws_markEraS :=
  R2 p1 0 b0
def laws_markEraS (p1 : Int) (b0 : List (List Int × Bool × Int × Unit)) : Option V_laws_markEraS := laws_markEraS_entry (laws_markEraS_L2 FUEL) p1 b0

/-- laws.markRegister -/
abbrev V_laws_markRegister : Type := (Int × Unit) × ((List (List Int × Bool × Int × Unit)) × Unit)
def laws_markRegister (p0_1 : Int) (p1 : Int) (b0 : List (List Int × Bool × Int × Unit)) : Option V_laws_markRegister :=
  (laws_markEraS p1 b0).bind fun u1 =>
  some ((u1.1.1, ()), (u1.2.1, ()))

/-- laws.FnExactRegPack -/
abbrev V_laws_FnExactRegPack : Type := (Bool × Unit) × Unit
def laws_FnExactRegPack (p0 : List Int × Int × Unit) (p1 : List (List Int × Bool × Int × Unit) × Int × Unit) : Option V_laws_FnExactRegPack :=
  (laws_szConfig (p0.1, p0.2.1, ()) 1048576).bind fun u1 =>
  cond (decide (u1.1.1 < 0))
    (some ((true, ()), ()))
  ((laws_szRegister (p1.1, p1.2.1, ()) u1.1.1).bind fun u2 =>
  cond (decide (u2.1.1 < 0))
    (some ((true, ()), ()))
  ((laws_toConfig (p0.1, p0.2.1, ())).bind fun u3 =>
  (laws_toRegister (p1.1, p1.2.1, ())).bind fun u4 =>
  (spec_RegPack (u3.2.1, u3.1.1.2.1, ()) (u4.2.1, u4.1.1.2.1, ())).bind fun u5 =>
  (laws_toConfig (p0.1, p0.2.1, ())).bind fun u6 =>
  (laws_toRegister (p1.1, p1.2.1, ())).bind fun u7 =>
  (impl_RegPack (u6.2.1, u6.1.1.2.1, ()) (u7.2.1, u7.1.1.2.1, ())).bind fun u8 =>
  (laws_eqByteS u8.2.1 u5.2.1).bind fun u9 =>
  cond (!u9.1.1)
    (some ((false, ()), ()))
  (cond ((u8.1.1.2.1 != u5.1.1.2.1))
    (some ((false, ()), ()))
  ((laws_toConfig (p0.1, p0.2.1, ())).bind fun u11 =>
  (laws_eqConfig (u6.2.1, u6.1.1.2.1, ()) (u11.2.1, u11.1.1.2.1, ())).bind fun u12 =>
  cond (!u12.1.1)
    (some ((false, ()), ()))
  ((laws_toRegister (p1.1, p1.2.1, ())).bind fun u13 =>
  (laws_eqRegister (u7.2.1, u7.1.1.2.1, ()) (u13.2.1, u13.1.1.2.1, ())).bind fun u14 =>
  cond (!u14.1.1)
    (some ((false, ()), ()))
  ((laws_markConfig u6.1.1.2.1 1 u6.2.1).bind fun u15 =>
  (laws_markRegister u7.1.1.2.1 u15.1.1 u7.2.1).bind fun u16 =>
  cond (decide (u16.1.1 < 0))
    (some ((false, ()), ()))
  ((laws_eqByteS u8.2.1 u5.2.1).bind fun u17 =>
  cond (!u17.1.1)
    (some ((false, ()), ()))
  (cond ((u8.1.1.2.1 != u5.1.1.2.1))
    (some ((false, ()), ()))
  ((laws_markByteS 1 u8.2.1).bind fun u19 =>
  (laws_heldByteS u19.2.1 1).bind fun u20 =>
  cond (decide (u20.1.1 < 0))
    (some ((false, ()), ()))
  (cond (u20.1.1 != u19.1.1)
    (some ((false, ()), ()))
  ((laws_toConfig (p0.1, p0.2.1, ())).bind fun u21 =>
  (laws_toRegister (p1.1, p1.2.1, ())).bind fun u22 =>
  (impl_RegPack (u21.2.1, u21.1.1.2.1, ()) (u22.2.1, u22.1.1.2.1, ())).bind fun u23 =>
  (laws_eqByteS u23.2.1 u5.2.1).bind fun u24 =>
  cond (!u24.1.1)
    (some ((false, ()), ()))
  (cond ((u23.1.1.2.1 != u5.1.1.2.1))
    (some ((false, ()), ()))
  ((laws_heldByteS u19.2.1 1).bind fun u26 =>
  cond (decide (u26.1.1 < 0))
    (some ((false, ()), ()))
  (cond (u26.1.1 != u19.1.1)
    (some ((false, ()), ()))
  (some ((true, ()), ()))))))))))))))))

/-- spec.RegRead -/
abbrev V_spec_RegRead : Type := (((Unit × Int × Unit) × Bool × Unit) × Unit) × (List Int × (List (List Int × Bool × Int × Unit)) × Unit)
def spec_RegRead_step5 (R5 : Int → Int → List Int → List Int → Int → Int → (List (List Int × Bool × Int × Unit)) → Int → Bool → Int → (List (List Int × Bool × Int × Unit)) → Option V_spec_RegRead) (t8 : Int) (t9 : Int) (b0 : List Int) (b1_0 : List Int) (b1_1 : Int) (b2_1 : Int) (b3 : List (List Int × Bool × Int × Unit)) (b4_1 : Int) (b4_2 : Bool) (b5_1 : Int) (b6 : List (List Int × Bool × Int × Unit)) : Option V_spec_RegRead :=
  cond (decide (t9 < t8))
    (cond (b4_2)
      ((spec_l17Nums b4_1 b4_2 b0).bind fun u3 =>
      (spec_l17Num u3.2.1.2.1 u3.2.1.2.2.1 u3.2.2.1).bind fun u4 =>
      (spec_l17Num u4.2.1.2.1 u4.2.1.2.2.1 u4.2.2.1).bind fun u5 =>
      cond (u5.2.1.2.2.1)
        (if b6.length + 1 ≤ LIM then (
        R5 t8 (w64 (t9 + 1)) u5.2.2.1 b1_0 b1_1 b2_1 b3 u5.2.1.2.1 (decide (u4.1.1 ≤ 1)) b5_1 (b6 ++ [(u3.2.2.2.1, u4.1.1 == 1, u5.1.1, ())])) else none)
      (if b6.length + 1 ≤ LIM then (
      R5 t8 (w64 (t9 + 1)) u5.2.2.1 b1_0 b1_1 b2_1 b3 u5.2.1.2.1 false b5_1 (b6 ++ [(u3.2.2.2.1, u4.1.1 == 1, u5.1.1, ())])) else none))
    ((spec_l17End b4_1 b4_2 b0).bind fun u8 =>
    cond (!u8.1.1)
      (some (((((), 0, ()), false, ()), ()), (u8.2.2.1, [], ())))
    ((spec_RegOk (b1_0, b1_1, ()) (b6, b5_1, ())).bind fun u9 =>
    cond (!u9.1.1)
      (some (((((), 0, ()), false, ()), ()), (u8.2.2.1, [], ())))
    (some (((((), b5_1, ()), true, ()), ()), (u8.2.2.1, b6, ()))))))
  ((spec_l17End b4_1 b4_2 b0).bind fun u10 =>
  cond (!u10.1.1)
    (some (((((), 0, ()), false, ()), ()), (u10.2.2.1, [], ())))
  ((spec_RegOk (b1_0, b1_1, ()) (b6, b5_1, ())).bind fun u11 =>
  cond (!u11.1.1)
    (some (((((), 0, ()), false, ()), ()), (u10.2.2.1, [], ())))
  (some (((((), b5_1, ()), true, ()), ()), (u10.2.2.1, b6, ())))))
def spec_RegRead_L5 : Nat → Int → Int → List Int → List Int → Int → Int → (List (List Int × Bool × Int × Unit)) → Int → Bool → Int → (List (List Int × Bool × Int × Unit)) → Option V_spec_RegRead
  | 0, _, _, _, _, _, _, _, _, _, _, _ => none
  | n + 1, a0, a1, a2, a3, a4, a5, a6, a7, a8, a9, a10 => spec_RegRead_step5 (spec_RegRead_L5 n) a0 a1 a2 a3 a4 a5 a6 a7 a8 a9 a10
def spec_RegRead_entry (R5 : Int → Int → List Int → List Int → Int → Int → (List (List Int × Bool × Int × Unit)) → Int → Bool → Int → (List (List Int × Bool × Int × Unit)) → Option V_spec_RegRead) (p0 : List Int × Int × Unit) (b0 : List Int) : Option V_spec_RegRead :=
  (spec_l17Num 0 true b0).bind fun u1 =>
  (spec_l17Num u1.2.1.2.1 u1.2.1.2.2.1 u1.2.2.1).bind fun u2 =>
  R5 u2.1.1 0 u2.2.2.1 p0.1 p0.2.1 0 [] u2.2.1.2.1 u2.2.1.2.2.1 u1.1.1 []
def spec_RegRead (p0 : List Int × Int × Unit) (b0 : List Int) : Option V_spec_RegRead := spec_RegRead_entry (spec_RegRead_L5 FUEL) p0 b0

/-- (*impl.reader).flag -/
abbrev V_impl_reader_flag : Type := (Bool × Unit) × ((Unit × Int × Bool × Unit) × List Int × Unit)
def impl_reader_flag (b0_1 : Int) (b0_2 : Bool) (b1 : List Int) : Option V_impl_reader_flag :=
  (impl_reader_count 1 b0_1 b0_2 b1).bind fun u1 =>
  some ((u1.1.1 == 1, ()), (((), u1.2.1.2.1, u1.2.1.2.2.1, ()), u1.2.2.1, ()))

/-- impl.RegRead -/
abbrev V_impl_RegRead : Type := (((Unit × Int × Unit) × Bool × Unit) × Unit) × (List Int × (List (List Int × Bool × Int × Unit)) × Unit)
def impl_RegRead_step6 (R6 : Int → Int → List Int → List Int → Int → Int → (List (List Int × Bool × Int × Unit)) → Int → Bool → Int → (List (List Int × Bool × Int × Unit)) → Option V_impl_RegRead) (t8 : Int) (t9 : Int) (b0 : List Int) (b1_0 : List Int) (b1_1 : Int) (b2_1 : Int) (b3 : List (List Int × Bool × Int × Unit)) (b4_1 : Int) (b4_2 : Bool) (b5_1 : Int) (b6 : List (List Int × Bool × Int × Unit)) : Option V_impl_RegRead :=
  cond (decide (t9 < t8))
    (cond (!b4_2)
      ((impl_reader_list 8 b4_1 b4_2 b0).bind fun u3 =>
      (impl_reader_flag u3.2.1.2.1 u3.2.1.2.2.1 u3.2.2.1).bind fun u4 =>
      (impl_reader_num u4.2.1.2.1 u4.2.1.2.2.1 u4.2.2.1).bind fun u5 =>
      if b6.length + 1 ≤ LIM then (
      R6 t8 (w64 (t9 + 1)) u5.2.2.1 b1_0 b1_1 b2_1 b3 u5.2.1.2.1 u5.2.1.2.2.1 b5_1 (b6 ++ [(u3.2.2.2.1, u4.1.1, u5.1.1, ())])) else none)
    ((impl_reader_done b4_1 b4_2 b0).bind fun u7 =>
    cond (!u7.1.1)
      (some (((((), 0, ()), false, ()), ()), (u7.2.2.1, [], ())))
    ((impl_RegOk (b1_0, b1_1, ()) (b6, b5_1, ())).bind fun u8 =>
    cond (!u8.1.1)
      (some (((((), 0, ()), false, ()), ()), (u7.2.2.1, [], ())))
    (some (((((), b5_1, ()), true, ()), ()), (u7.2.2.1, b6, ()))))))
  ((impl_reader_done b4_1 b4_2 b0).bind fun u9 =>
  cond (!u9.1.1)
    (some (((((), 0, ()), false, ()), ()), (u9.2.2.1, [], ())))
  ((impl_RegOk (b1_0, b1_1, ()) (b6, b5_1, ())).bind fun u10 =>
  cond (!u10.1.1)
    (some (((((), 0, ()), false, ()), ()), (u9.2.2.1, [], ())))
  (some (((((), b5_1, ()), true, ()), ()), (u9.2.2.1, b6, ())))))
def impl_RegRead_L6 : Nat → Int → Int → List Int → List Int → Int → Int → (List (List Int × Bool × Int × Unit)) → Int → Bool → Int → (List (List Int × Bool × Int × Unit)) → Option V_impl_RegRead
  | 0, _, _, _, _, _, _, _, _, _, _, _ => none
  | n + 1, a0, a1, a2, a3, a4, a5, a6, a7, a8, a9, a10 => impl_RegRead_step6 (impl_RegRead_L6 n) a0 a1 a2 a3 a4 a5 a6 a7 a8 a9 a10
def impl_RegRead_entry (R6 : Int → Int → List Int → List Int → Int → Int → (List (List Int × Bool × Int × Unit)) → Int → Bool → Int → (List (List Int × Bool × Int × Unit)) → Option V_impl_RegRead) (p0 : List Int × Int × Unit) (b0 : List Int) : Option V_impl_RegRead :=
  (impl_reader_num 0 false b0).bind fun u1 =>
  (impl_reader_count 30 u1.2.1.2.1 u1.2.1.2.2.1 u1.2.2.1).bind fun u2 =>
  R6 u2.1.1 0 u2.2.2.1 p0.1 p0.2.1 0 [] u2.2.1.2.1 u2.2.1.2.2.1 u1.1.1 []
def impl_RegRead (p0 : List Int × Int × Unit) (b0 : List Int) : Option V_impl_RegRead := impl_RegRead_entry (impl_RegRead_L6 FUEL) p0 b0

/-- laws.heldEraS -/
abbrev V_laws_heldEraS : Type := (Int × Unit) × Unit
def laws_heldEraS_step2 (R2 : (List (List Int × Bool × Int × Unit)) → Int → Int → Option V_laws_heldEraS) (t0 : List (List Int × Bool × Int × Unit)) (t1 : Int) (t5 : Int) : Option V_laws_heldEraS :=
  cond ((decide (t5 < (t0.length : Int))))
    (if (0 : Int) ≤ t5 ∧ t5 < (t0.length : Int) then (
    (laws_heldIntS ((t0.getD (t5.toNat) ([], false, 0, ())).1) t1).bind fun u2 =>
    cond (decide (u2.1.1 < 0))
      (some (((-1), ()), ()))
    (if (0 : Int) ≤ t5 ∧ t5 < (t0.length : Int) then (
    cond ((((t0.getD (t5.toNat) ([], false, 0, ())).2.1) != ((u2.1.1.tmod 3) == 0)))
      (some (((-1), ()), ()))
    (if (0 : Int) ≤ t5 ∧ t5 < (t0.length : Int) then (
    cond ((((t0.getD (t5.toNat) ([], false, 0, ())).2.2.1) != (w64 (u2.1.1 + 1))))
      (some (((-1), ()), ()))
    (R2 t0 (w64 ((w64 (u2.1.1 + 1)) + 1)) (w64 (t5 + 1)))) else none)) else none)) else none)
  (some ((t1, ()), ()))
def laws_heldEraS_L2 : Nat → (List (List Int × Bool × Int × Unit)) → Int → Int → Option V_laws_heldEraS
  | 0, _, _, _ => none
  | n + 1, a0, a1, a2 => laws_heldEraS_step2 (laws_heldEraS_L2 n) a0 a1 a2
def laws_heldEraS_entry (R2 : (List (List Int × Bool × Int × Unit)) → Int → Int → Option V_laws_heldEraS) (p0 : List (List Int × Bool × Int × Unit)) (p1 : Int) : Option V_laws_heldEraS :=
  R2 p0 p1 0
def laws_heldEraS (p0 : List (List Int × Bool × Int × Unit)) (p1 : Int) : Option V_laws_heldEraS := laws_heldEraS_entry (laws_heldEraS_L2 FUEL) p0 p1

/-- laws.heldRegister -/
abbrev V_laws_heldRegister : Type := (Int × Unit) × Unit
def laws_heldRegister (p0 : List (List Int × Bool × Int × Unit) × Int × Unit) (p1 : Int) : Option V_laws_heldRegister :=
  (laws_heldEraS p0.1 p1).bind fun u1 =>
  cond (decide (u1.1.1 < 0))
    (some (((-1), ()), ()))
  (some ((u1.1.1, ()), ()))

/-- laws.FnExactRegRead -/
abbrev V_laws_FnExactRegRead : Type := (Bool × Unit) × Unit
def laws_FnExactRegRead (p0 : List Int × Int × Unit) (p1 : List Int) : Option V_laws_FnExactRegRead :=
  cond ((decide ((p1.length : Int) > 1048576)))
    (some ((true, ()), ()))
  ((laws_szConfig (p0.1, p0.2.1, ()) 1048576).bind fun u2 =>
  cond (decide (u2.1.1 < 0))
    (some ((true, ()), ()))
  ((laws_toConfig (p0.1, p0.2.1, ())).bind fun u3 =>
  (laws_toByteS p1).bind fun u4 =>
  (spec_RegRead (u3.2.1, u3.1.1.2.1, ()) u4.2.1).bind fun u5 =>
  (laws_toConfig (p0.1, p0.2.1, ())).bind fun u6 =>
  (laws_toByteS p1).bind fun u7 =>
  (impl_RegRead (u6.2.1, u6.1.1.2.1, ()) u7.2.1).bind fun u8 =>
  (laws_eqRegister (u8.2.2.1, u8.1.1.1.2.1, ()) (u5.2.2.1, u5.1.1.1.2.1, ())).bind fun u9 =>
  cond (!u9.1.1)
    (some ((false, ()), ()))
  (cond ((u8.1.1.2.1 != u5.1.1.2.1))
    (some ((false, ()), ()))
  ((laws_toConfig (p0.1, p0.2.1, ())).bind fun u11 =>
  (laws_eqConfig (u6.2.1, u6.1.1.2.1, ()) (u11.2.1, u11.1.1.2.1, ())).bind fun u12 =>
  cond (!u12.1.1)
    (some ((false, ()), ()))
  ((laws_toByteS p1).bind fun u13 =>
  (laws_eqByteS u8.2.1 u13.2.1).bind fun u14 =>
  cond (!u14.1.1)
    (some ((false, ()), ()))
  ((laws_markConfig u6.1.1.2.1 1 u6.2.1).bind fun u15 =>
  (laws_markByteS u15.1.1 u8.2.1).bind fun u16 =>
  cond (decide (u16.1.1 < 0))
    (some ((false, ()), ()))
  ((laws_eqRegister (u8.2.2.1, u8.1.1.1.2.1, ()) (u5.2.2.1, u5.1.1.1.2.1, ())).bind fun u17 =>
  cond (!u17.1.1)
    (some ((false, ()), ()))
  (cond ((u8.1.1.2.1 != u5.1.1.2.1))
    (some ((false, ()), ()))
  ((laws_markRegister u8.1.1.1.2.1 1 u8.2.2.1).bind fun u19 =>
  (laws_heldRegister (u19.2.1, u8.1.1.1.2.1, ()) 1).bind fun u20 =>
  cond (decide (u20.1.1 < 0))
    (some ((false, ()), ()))
  (cond (u20.1.1 != u19.1.1)
    (some ((false, ()), ()))
  ((laws_toConfig (p0.1, p0.2.1, ())).bind fun u21 =>
  (laws_toByteS p1).bind fun u22 =>
  (impl_RegRead (u21.2.1, u21.1.1.2.1, ()) u22.2.1).bind fun u23 =>
  (laws_eqRegister (u23.2.2.1, u23.1.1.1.2.1, ()) (u5.2.2.1, u5.1.1.1.2.1, ())).bind fun u24 =>
  cond (!u24.1.1)
    (some ((false, ()), ()))
  (cond ((u23.1.1.2.1 != u5.1.1.2.1))
    (some ((false, ()), ()))
  ((laws_heldRegister (u19.2.1, u8.1.1.1.2.1, ()) 1).bind fun u26 =>
  cond (decide (u26.1.1 < 0))
    (some ((false, ()), ()))
  (cond (u26.1.1 != u19.1.1)
    (some ((false, ()), ()))
  (some ((true, ()), ()))))))))))))))))

/-- spec.WriterRead -/
abbrev V_spec_WriterRead : Type := (((Int × Unit × Unit) × Bool × Unit) × Unit) × (List Int × (List (List UInt8 × List Int × Bool × Unit)) × Unit)
def spec_WriterRead_step5 (R5 : Int → Int → List Int → List Int → Int → Int → (List (List UInt8 × List Int × Bool × Unit)) → Int → Bool → Int → (List (List UInt8 × List Int × Bool × Unit)) → Option V_spec_WriterRead) (t8 : Int) (t9 : Int) (b0 : List Int) (b1_0 : List Int) (b1_1 : Int) (b2_0 : Int) (b3 : List (List UInt8 × List Int × Bool × Unit)) (b4_1 : Int) (b4_2 : Bool) (b5_0 : Int) (b6 : List (List UInt8 × List Int × Bool × Unit)) : Option V_spec_WriterRead :=
  cond (decide (t9 < t8))
    (cond (b4_2)
      ((spec_l17Text b4_1 b4_2 b0).bind fun u3 =>
      (spec_l17Nums u3.2.1.2.1 u3.2.1.2.2.1 u3.2.2.1).bind fun u4 =>
      (spec_Holds (b1_0, b1_1, ()) u4.2.2.2.1).bind fun u5 =>
      if b6.length + 1 ≤ LIM then (
      R5 t8 (w64 (t9 + 1)) u4.2.2.1 b1_0 b1_1 b2_0 b3 u4.2.1.2.1 u4.2.1.2.2.1 b5_0 (b6 ++ [(u3.1.1, u4.2.2.2.1, u5.1.1, ())])) else none)
    ((spec_l17End b4_1 b4_2 b0).bind fun u7 =>
    cond (!u7.1.1)
      (some ((((0, (), ()), false, ()), ()), (u7.2.2.1, [], ())))
    ((spec_WriterOk (b1_0, b1_1, ()) (b5_0, b6, ())).bind fun u8 =>
    cond (!u8.1.1)
      (some ((((0, (), ()), false, ()), ()), (u7.2.2.1, [], ())))
    (some ((((b5_0, (), ()), true, ()), ()), (u7.2.2.1, b6, ()))))))
  ((spec_l17End b4_1 b4_2 b0).bind fun u9 =>
  cond (!u9.1.1)
    (some ((((0, (), ()), false, ()), ()), (u9.2.2.1, [], ())))
  ((spec_WriterOk (b1_0, b1_1, ()) (b5_0, b6, ())).bind fun u10 =>
  cond (!u10.1.1)
    (some ((((0, (), ()), false, ()), ()), (u9.2.2.1, [], ())))
  (some ((((b5_0, (), ()), true, ()), ()), (u9.2.2.1, b6, ())))))
def spec_WriterRead_L5 : Nat → Int → Int → List Int → List Int → Int → Int → (List (List UInt8 × List Int × Bool × Unit)) → Int → Bool → Int → (List (List UInt8 × List Int × Bool × Unit)) → Option V_spec_WriterRead
  | 0, _, _, _, _, _, _, _, _, _, _, _ => none
  | n + 1, a0, a1, a2, a3, a4, a5, a6, a7, a8, a9, a10 => spec_WriterRead_step5 (spec_WriterRead_L5 n) a0 a1 a2 a3 a4 a5 a6 a7 a8 a9 a10
def spec_WriterRead_entry (R5 : Int → Int → List Int → List Int → Int → Int → (List (List UInt8 × List Int × Bool × Unit)) → Int → Bool → Int → (List (List UInt8 × List Int × Bool × Unit)) → Option V_spec_WriterRead) (p0 : List Int × Int × Unit) (b0 : List Int) : Option V_spec_WriterRead :=
  (spec_l17Num 0 true b0).bind fun u1 =>
  (spec_l17Num u1.2.1.2.1 u1.2.1.2.2.1 u1.2.2.1).bind fun u2 =>
  R5 u2.1.1 0 u2.2.2.1 p0.1 p0.2.1 0 [] u2.2.1.2.1 u2.2.1.2.2.1 u1.1.1 []
def spec_WriterRead (p0 : List Int × Int × Unit) (b0 : List Int) : Option V_spec_WriterRead := spec_WriterRead_entry (spec_WriterRead_L5 FUEL) p0 b0

/-- impl.WriterRead -/
abbrev V_impl_WriterRead : Type := (((Int × Unit × Unit) × Bool × Unit) × Unit) × (List Int × (List (List UInt8 × List Int × Bool × Unit)) × Unit)
def impl_WriterRead_step6 (R6 : Int → Int → List Int → List Int → Int → Int → (List (List UInt8 × List Int × Bool × Unit)) → Int → Bool → Int → (List (List UInt8 × List Int × Bool × Unit)) → Option V_impl_WriterRead) (t8 : Int) (t9 : Int) (b0 : List Int) (b1_0 : List Int) (b1_1 : Int) (b2_0 : Int) (b3 : List (List UInt8 × List Int × Bool × Unit)) (b4_1 : Int) (b4_2 : Bool) (b5_0 : Int) (b6 : List (List UInt8 × List Int × Bool × Unit)) : Option V_impl_WriterRead :=
  cond (decide (t9 < t8))
    (cond (!b4_2)
      ((impl_reader_text b4_1 b4_2 b0).bind fun u3 =>
      (impl_reader_list 8 u3.2.1.2.1 u3.2.1.2.2.1 u3.2.2.1).bind fun u4 =>
      (impl_Holds (b1_0, b1_1, ()) u4.2.2.2.1).bind fun u5 =>
      if b6.length + 1 ≤ LIM then (
      R6 t8 (w64 (t9 + 1)) u4.2.2.1 b1_0 b1_1 b2_0 b3 u4.2.1.2.1 u4.2.1.2.2.1 b5_0 (b6 ++ [(u3.1.1, u4.2.2.2.1, u5.1.1, ())])) else none)
    ((impl_reader_done b4_1 b4_2 b0).bind fun u7 =>
    cond (!u7.1.1)
      (some ((((0, (), ()), false, ()), ()), (u7.2.2.1, [], ())))
    ((impl_WriterOk (b1_0, b1_1, ()) (b5_0, b6, ())).bind fun u8 =>
    cond (!u8.1.1)
      (some ((((0, (), ()), false, ()), ()), (u7.2.2.1, [], ())))
    (some ((((b5_0, (), ()), true, ()), ()), (u7.2.2.1, b6, ()))))))
  ((impl_reader_done b4_1 b4_2 b0).bind fun u9 =>
  cond (!u9.1.1)
    (some ((((0, (), ()), false, ()), ()), (u9.2.2.1, [], ())))
  ((impl_WriterOk (b1_0, b1_1, ()) (b5_0, b6, ())).bind fun u10 =>
  cond (!u10.1.1)
    (some ((((0, (), ()), false, ()), ()), (u9.2.2.1, [], ())))
  (some ((((b5_0, (), ()), true, ()), ()), (u9.2.2.1, b6, ())))))
def impl_WriterRead_L6 : Nat → Int → Int → List Int → List Int → Int → Int → (List (List UInt8 × List Int × Bool × Unit)) → Int → Bool → Int → (List (List UInt8 × List Int × Bool × Unit)) → Option V_impl_WriterRead
  | 0, _, _, _, _, _, _, _, _, _, _, _ => none
  | n + 1, a0, a1, a2, a3, a4, a5, a6, a7, a8, a9, a10 => impl_WriterRead_step6 (impl_WriterRead_L6 n) a0 a1 a2 a3 a4 a5 a6 a7 a8 a9 a10
def impl_WriterRead_entry (R6 : Int → Int → List Int → List Int → Int → Int → (List (List UInt8 × List Int × Bool × Unit)) → Int → Bool → Int → (List (List UInt8 × List Int × Bool × Unit)) → Option V_impl_WriterRead) (p0 : List Int × Int × Unit) (b0 : List Int) : Option V_impl_WriterRead :=
  (impl_reader_num 0 false b0).bind fun u1 =>
  (impl_reader_count 60 u1.2.1.2.1 u1.2.1.2.2.1 u1.2.2.1).bind fun u2 =>
  R6 u2.1.1 0 u2.2.2.1 p0.1 p0.2.1 0 [] u2.2.1.2.1 u2.2.1.2.2.1 u1.1.1 []
def impl_WriterRead (p0 : List Int × Int × Unit) (b0 : List Int) : Option V_impl_WriterRead := impl_WriterRead_entry (impl_WriterRead_L6 FUEL) p0 b0

/-- laws.heldWordS -/
abbrev V_laws_heldWordS : Type := (Int × Unit) × Unit
def laws_heldWordS_step2 (R2 : (List (List UInt8 × List Int × Bool × Unit)) → Int → Int → Option V_laws_heldWordS) (t0 : List (List UInt8 × List Int × Bool × Unit)) (t1 : Int) (t5 : Int) : Option V_laws_heldWordS :=
  cond ((decide (t5 < (t0.length : Int))))
    (if (0 : Int) ≤ t5 ∧ t5 < (t0.length : Int) then (
    (laws_markText t1).bind fun u3 =>
    cond (!(((t0.getD (t5.toNat) ([], [], false, ())).1) == u3.1.1))
      (some (((-1), ()), ()))
    (if (0 : Int) ≤ t5 ∧ t5 < (t0.length : Int) then (
    (laws_heldIntS ((t0.getD (t5.toNat) ([], [], false, ())).2.1) (w64 (t1 + 1))).bind fun u4 =>
    cond (decide (u4.1.1 < 0))
      (some (((-1), ()), ()))
    (if (0 : Int) ≤ t5 ∧ t5 < (t0.length : Int) then (
    cond ((((t0.getD (t5.toNat) ([], [], false, ())).2.2.1) != ((u4.1.1.tmod 3) == 0)))
      (some (((-1), ()), ()))
    (R2 t0 (w64 (u4.1.1 + 1)) (w64 (t5 + 1)))) else none)) else none)) else none)
  (some ((t1, ()), ()))
def laws_heldWordS_L2 : Nat → (List (List UInt8 × List Int × Bool × Unit)) → Int → Int → Option V_laws_heldWordS
  | 0, _, _, _ => none
  | n + 1, a0, a1, a2 => laws_heldWordS_step2 (laws_heldWordS_L2 n) a0 a1 a2
def laws_heldWordS_entry (R2 : (List (List UInt8 × List Int × Bool × Unit)) → Int → Int → Option V_laws_heldWordS) (p0 : List (List UInt8 × List Int × Bool × Unit)) (p1 : Int) : Option V_laws_heldWordS :=
  R2 p0 p1 0
def laws_heldWordS (p0 : List (List UInt8 × List Int × Bool × Unit)) (p1 : Int) : Option V_laws_heldWordS := laws_heldWordS_entry (laws_heldWordS_L2 FUEL) p0 p1

/-- laws.heldWriter -/
abbrev V_laws_heldWriter : Type := (Int × Unit) × Unit
def laws_heldWriter (p0 : Int × List (List UInt8 × List Int × Bool × Unit) × Unit) (p1 : Int) : Option V_laws_heldWriter :=
  (laws_heldWordS p0.2.1 p1).bind fun u1 =>
  cond (decide (u1.1.1 < 0))
    (some (((-1), ()), ()))
  (some ((u1.1.1, ()), ()))

/-- laws.FnExactWriterRead -/
abbrev V_laws_FnExactWriterRead : Type := (Bool × Unit) × Unit
def laws_FnExactWriterRead (p0 : List Int × Int × Unit) (p1 : List Int) : Option V_laws_FnExactWriterRead :=
  cond ((decide ((p1.length : Int) > 1048576)))
    (some ((true, ()), ()))
  ((laws_szConfig (p0.1, p0.2.1, ()) 1048576).bind fun u2 =>
  cond (decide (u2.1.1 < 0))
    (some ((true, ()), ()))
  ((laws_toConfig (p0.1, p0.2.1, ())).bind fun u3 =>
  (laws_toByteS p1).bind fun u4 =>
  (spec_WriterRead (u3.2.1, u3.1.1.2.1, ()) u4.2.1).bind fun u5 =>
  (laws_toConfig (p0.1, p0.2.1, ())).bind fun u6 =>
  (laws_toByteS p1).bind fun u7 =>
  (impl_WriterRead (u6.2.1, u6.1.1.2.1, ()) u7.2.1).bind fun u8 =>
  (laws_eqWriter (u8.1.1.1.1, u8.2.2.1, ()) (u5.1.1.1.1, u5.2.2.1, ())).bind fun u9 =>
  cond (!u9.1.1)
    (some ((false, ()), ()))
  (cond ((u8.1.1.2.1 != u5.1.1.2.1))
    (some ((false, ()), ()))
  ((laws_toConfig (p0.1, p0.2.1, ())).bind fun u11 =>
  (laws_eqConfig (u6.2.1, u6.1.1.2.1, ()) (u11.2.1, u11.1.1.2.1, ())).bind fun u12 =>
  cond (!u12.1.1)
    (some ((false, ()), ()))
  ((laws_toByteS p1).bind fun u13 =>
  (laws_eqByteS u8.2.1 u13.2.1).bind fun u14 =>
  cond (!u14.1.1)
    (some ((false, ()), ()))
  ((laws_markConfig u6.1.1.2.1 1 u6.2.1).bind fun u15 =>
  (laws_markByteS u15.1.1 u8.2.1).bind fun u16 =>
  cond (decide (u16.1.1 < 0))
    (some ((false, ()), ()))
  ((laws_eqWriter (u8.1.1.1.1, u8.2.2.1, ()) (u5.1.1.1.1, u5.2.2.1, ())).bind fun u17 =>
  cond (!u17.1.1)
    (some ((false, ()), ()))
  (cond ((u8.1.1.2.1 != u5.1.1.2.1))
    (some ((false, ()), ()))
  ((laws_markWriter u8.1.1.1.1 1 u8.2.2.1).bind fun u19 =>
  (laws_heldWriter (u8.1.1.1.1, u19.2.1, ()) 1).bind fun u20 =>
  cond (decide (u20.1.1 < 0))
    (some ((false, ()), ()))
  (cond (u20.1.1 != u19.1.1)
    (some ((false, ()), ()))
  ((laws_toConfig (p0.1, p0.2.1, ())).bind fun u21 =>
  (laws_toByteS p1).bind fun u22 =>
  (impl_WriterRead (u21.2.1, u21.1.1.2.1, ()) u22.2.1).bind fun u23 =>
  (laws_eqWriter (u23.1.1.1.1, u23.2.2.1, ()) (u5.1.1.1.1, u5.2.2.1, ())).bind fun u24 =>
  cond (!u24.1.1)
    (some ((false, ()), ()))
  (cond ((u23.1.1.2.1 != u5.1.1.2.1))
    (some ((false, ()), ()))
  ((laws_heldWriter (u8.1.1.1.1, u19.2.1, ()) 1).bind fun u26 =>
  cond (decide (u26.1.1 < 0))
    (some ((false, ()), ()))
  (cond (u26.1.1 != u19.1.1)
    (some ((false, ()), ()))
  (some ((true, ()), ()))))))))))))))))

/-- spec.l8Copy -/
abbrev V_spec_l8Copy : Type := ((Int × Unit × Unit) × Unit) × ((List (List UInt8 × List Int × Bool × Unit)) × Unit)
def spec_l8Copy_step3 (R3 : Int → Int → (List (List UInt8 × List Int × Bool × Unit)) → Int → (List (List UInt8 × List Int × Bool × Unit)) → Int → (List (List UInt8 × List Int × Bool × Unit)) → Option V_spec_l8Copy) (t4 : Int) (b0_0 : Int) (b0_1 : List (List UInt8 × List Int × Bool × Unit)) (b1_0 : Int) (b2 : List (List UInt8 × List Int × Bool × Unit)) (b3_0 : Int) (b4 : List (List UInt8 × List Int × Bool × Unit)) : Option V_spec_l8Copy :=
  cond ((decide (t4 < (b0_1.length : Int))))
    (if (0 : Int) ≤ t4 ∧ t4 < (b0_1.length : Int) then (
    if 0 + ((b0_1.getD (t4.toNat) ([], [], false, ())).2.1).length ≤ LIM then (
    if b4.length + 1 ≤ LIM then (
    R3 (w64 (t4 + 1)) b0_0 b0_1 b1_0 b2 b3_0 (b4 ++ [((b0_1.getD (t4.toNat) ([], [], false, ())).1, ((b0_1.getD (t4.toNat) ([], [], false, ())).2.1), (b0_1.getD (t4.toNat) ([], [], false, ())).2.2.1, ())])) else none) else none) else none)
  (some (((b3_0, (), ()), ()), (b4, ())))
def spec_l8Copy_L3 : Nat → Int → Int → (List (List UInt8 × List Int × Bool × Unit)) → Int → (List (List UInt8 × List Int × Bool × Unit)) → Int → (List (List UInt8 × List Int × Bool × Unit)) → Option V_spec_l8Copy
  | 0, _, _, _, _, _, _, _ => none
  | n + 1, a0, a1, a2, a3, a4, a5, a6 => spec_l8Copy_step3 (spec_l8Copy_L3 n) a0 a1 a2 a3 a4 a5 a6
def spec_l8Copy_entry (R3 : Int → Int → (List (List UInt8 × List Int × Bool × Unit)) → Int → (List (List UInt8 × List Int × Bool × Unit)) → Int → (List (List UInt8 × List Int × Bool × Unit)) → Option V_spec_l8Copy) (p0 : Int × List (List UInt8 × List Int × Bool × Unit) × Unit) : Option V_spec_l8Copy :=
  R3 0 p0.1 p0.2.1 0 [] p0.1 []
def spec_l8Copy (p0 : Int × List (List UInt8 × List Int × Bool × Unit) × Unit) : Option V_spec_l8Copy := spec_l8Copy_entry (spec_l8Copy_L3 FUEL) p0

/-- spec.WriterAdd -/
abbrev V_spec_WriterAdd : Type := (((Int × Unit × Unit) × Int × Bool × Unit) × Unit) × ((List (List UInt8 × List Int × Bool × Unit)) × Unit)
def spec_WriterAdd (p0 : List Int × Int × Unit) (p1 : Int × List (List UInt8 × List Int × Bool × Unit) × Unit) (p2 : List UInt8) : Option V_spec_WriterAdd :=
  (spec_WriterOk (p0.1, p0.2.1, ()) (p1.1, p1.2.1, ())).bind fun u1 =>
  cond (!u1.1.1)
    (some ((((0, (), ()), 0, false, ()), ()), ([], ())))
  ((spec_l8Copy (p1.1, p1.2.1, ())).bind fun u2 =>
  if u2.2.1.length + 1 ≤ LIM then (
  let x3 : List (List UInt8 × List Int × Bool × Unit) := u2.2.1 ++ [(p2, [], false, ())]
  (spec_WriterOk (p0.1, p0.2.1, ()) (u2.1.1.1, x3, ())).bind fun u4 =>
  cond (!u4.1.1)
    ((spec_l8Copy (p1.1, p1.2.1, ())).bind fun u5 =>
    some ((((u5.1.1.1, (), ()), 0, false, ()), ()), (u5.2.1, ())))
  (some ((((u2.1.1.1, (), ()), (x3.length : Int), true, ()), ()), (x3, ())))) else none)

/-- spec.l1Max -/
abbrev V_spec_l1Max : Type := (Int × Unit) × Unit
def spec_l1Max (p0 : Int) (p1 : Int) : Option V_spec_l1Max :=
  cond (decide (p0 > p1))
    (some ((p0, ()), ()))
  (some ((p1, ()), ()))

/-- spec.l4Has -/
abbrev V_spec_l4Has : Type := (Bool × Unit) × Unit
def spec_l4Has_step2 (R2 : List Int → Int → Int → Option V_spec_l4Has) (t0 : List Int) (t1 : Int) (t5 : Int) : Option V_spec_l4Has :=
  cond ((decide (t5 < (t0.length : Int))))
    (if (0 : Int) ≤ t5 ∧ t5 < (t0.length : Int) then (
    cond ((t0.getD (t5.toNat) 0) == t1)
      (some ((true, ()), ()))
    (R2 t0 t1 (w64 (t5 + 1)))) else none)
  (some ((false, ()), ()))
def spec_l4Has_L2 : Nat → List Int → Int → Int → Option V_spec_l4Has
  | 0, _, _, _ => none
  | n + 1, a0, a1, a2 => spec_l4Has_step2 (spec_l4Has_L2 n) a0 a1 a2
def spec_l4Has_entry (R2 : List Int → Int → Int → Option V_spec_l4Has) (p0 : List Int) (p1 : Int) : Option V_spec_l4Has :=
  R2 p0 p1 0
def spec_l4Has (p0 : List Int) (p1 : Int) : Option V_spec_l4Has := spec_l4Has_entry (spec_l4Has_L2 FUEL) p0 p1

/-- spec.l4Put -/
abbrev V_spec_l4Put : Type := (Unit × Unit) × (List Int × Unit)
def spec_l4Put_step4 (R4 : List Int → Int → Bool → Int → List Int → Option V_spec_l4Put) (t0 : List Int) (t1 : Int) (t6 : Bool) (t7 : Int) (b0 : List Int) : Option V_spec_l4Put :=
  cond ((decide (t7 < (t0.length : Int))))
    (cond (!t6)
      (if (0 : Int) ≤ t7 ∧ t7 < (t0.length : Int) then (
      cond (decide ((t0.getD (t7.toNat) 0) > t1))
        (if b0.length + 1 ≤ LIM then (
        if (0 : Int) ≤ t7 ∧ t7 < (t0.length : Int) then (
        if (b0 ++ [t1]).length + 1 ≤ LIM then (
        R4 t0 t1 true (w64 (t7 + 1)) ((b0 ++ [t1]) ++ [(t0.getD (t7.toNat) 0)])) else none) else none) else none)
      (if (0 : Int) ≤ t7 ∧ t7 < (t0.length : Int) then (
      if b0.length + 1 ≤ LIM then (
      R4 t0 t1 t6 (w64 (t7 + 1)) (b0 ++ [(t0.getD (t7.toNat) 0)])) else none) else none)) else none)
    (if (0 : Int) ≤ t7 ∧ t7 < (t0.length : Int) then (
    if b0.length + 1 ≤ LIM then (
    R4 t0 t1 t6 (w64 (t7 + 1)) (b0 ++ [(t0.getD (t7.toNat) 0)])) else none) else none))
  (cond (!t6)
    (if b0.length + 1 ≤ LIM then (
    some (((), ()), (b0 ++ [t1], ()))) else none)
  (some (((), ()), (b0, ()))))
def spec_l4Put_L4 : Nat → List Int → Int → Bool → Int → List Int → Option V_spec_l4Put
  | 0, _, _, _, _, _ => none
  | n + 1, a0, a1, a2, a3, a4 => spec_l4Put_step4 (spec_l4Put_L4 n) a0 a1 a2 a3 a4
def spec_l4Put_entry (R4 : List Int → Int → Bool → Int → List Int → Option V_spec_l4Put) (p0 : List Int) (p1 : Int) : Option V_spec_l4Put :=
  (spec_l4Has p0 p1).bind fun u1 =>
  R4 p0 p1 u1.1.1 0 []
def spec_l4Put (p0 : List Int) (p1 : Int) : Option V_spec_l4Put := spec_l4Put_entry (spec_l4Put_L4 FUEL) p0 p1

/-- spec.WriterAck -/
abbrev V_spec_WriterAck : Type := (((Int × Unit × Unit) × Bool × Unit) × Unit) × ((List (List UInt8 × List Int × Bool × Unit)) × Unit)
def spec_WriterAck (p0 : List Int × Int × Unit) (p1 : Int × List (List UInt8 × List Int × Bool × Unit) × Unit) (p2 : Int) (p3 : Int) : Option V_spec_WriterAck :=
  (spec_WriterOk (p0.1, p0.2.1, ()) (p1.1, p1.2.1, ())).bind fun u1 =>
  cond (!u1.1.1)
    (some ((((0, (), ()), false, ()), ()), ([], ())))
  ((spec_l8Copy (p1.1, p1.2.1, ())).bind fun u2 =>
  (spec_l1In p2 1 (p1.2.1.length : Int)).bind fun u4 =>
  cond (!u4.1.1)
    (some ((((u2.1.1.1, (), ()), false, ()), ()), (u2.2.1, ())))
  ((spec_l1In p3 0 (w64 ((p0.1.length : Int) - 1))).bind fun u6 =>
  cond (!u6.1.1)
    (some ((((u2.1.1.1, (), ()), false, ()), ()), (u2.2.1, ())))
  (if (0 : Int) ≤ w64 (p2 - 1) ∧ w64 (p2 - 1) < (p1.2.1.length : Int) then (
  cond (((p1.2.1.getD ((w64 (p2 - 1)).toNat) ([], [], false, ())).2.2.1))
    (some ((((u2.1.1.1, (), ()), false, ()), ()), (u2.2.1, ())))
  (if (0 : Int) ≤ w64 (p2 - 1) ∧ w64 (p2 - 1) < (u2.2.1.length : Int) then (
  (spec_l4Put ((u2.2.1.getD ((w64 (p2 - 1)).toNat) ([], [], false, ())).2.1) p3).bind fun u8 =>
  if (0 : Int) ≤ w64 (p2 - 1) ∧ w64 (p2 - 1) < (u2.2.1.length : Int) then (
  let x9 : List (List UInt8 × List Int × Bool × Unit) := (u2.2.1.set ((w64 (p2 - 1)).toNat) ((u2.2.1.getD ((w64 (p2 - 1)).toNat) ([], [], false, ())).1, u8.2.1, (u2.2.1.getD ((w64 (p2 - 1)).toNat) ([], [], false, ())).2.2.1, ()))
  if (0 : Int) ≤ w64 (p2 - 1) ∧ w64 (p2 - 1) < (x9.length : Int) then (
  (spec_Holds (p0.1, p0.2.1, ()) ((x9.getD ((w64 (p2 - 1)).toNat) ([], [], false, ())).2.1)).bind fun u10 =>
  if (0 : Int) ≤ w64 (p2 - 1) ∧ w64 (p2 - 1) < (x9.length : Int) then (
  some ((((u2.1.1.1, (), ()), true, ()), ()), ((x9.set ((w64 (p2 - 1)).toNat) ((x9.getD ((w64 (p2 - 1)).toNat) ([], [], false, ())).1, (x9.getD ((w64 (p2 - 1)).toNat) ([], [], false, ())).2.1, u10.1.1, ())), ()))) else none) else none) else none) else none)) else none)))

/-- spec.l8DrawRight -/
abbrev V_spec_l8DrawRight : Type := ((Int × Unit × Unit) × Unit) × ((List Int × Int × Int × Unit) × (List (List UInt8 × List Int × Bool × Unit)) × Unit)
def spec_l8DrawRight_step3 (R3 : Int → List Int → Int → Int → List Int → Int → Int → (List (List UInt8 × List Int × Bool × Unit)) → Int → (List (List UInt8 × List Int × Bool × Unit)) → Option V_spec_l8DrawRight) (t6 : Int) (b0_0 : List Int) (b0_1 : Int) (b0_2 : Int) (b1_0 : List Int) (b1_1 : Int) (b2_0 : Int) (b3 : List (List UInt8 × List Int × Bool × Unit)) (b4_0 : Int) (b5 : List (List UInt8 × List Int × Bool × Unit)) : Option V_spec_l8DrawRight :=
  (spec_l1Below 14 b0_0 b0_1 b0_2).bind fun u2 =>
  cond (decide (t6 < u2.1.1))
    ((spec_l1Pick [[], [97], [98, 99]] u2.2.1.1 u2.2.1.2.1 u2.2.1.2.2.1).bind fun u3 =>
    (spec_WriterAdd (b1_0, b1_1, ()) (b4_0, b5, ()) u3.1.1).bind fun u4 =>
    (spec_l1Once 2 u3.2.1.1 u3.2.1.2.1 u3.2.1.2.2.1).bind fun u5 =>
    cond (u5.1.1)
      ((spec_l1Max (b5.length : Int) 1).bind fun u6 =>
      (spec_l1Below u6.1.1 u5.2.1.1 u5.2.1.2.1 u5.2.1.2.2.1).bind fun u7 =>
      (spec_l1Below (b1_0.length : Int) u7.2.1.1 u7.2.1.2.1 u7.2.1.2.2.1).bind fun u8 =>
      (spec_WriterAck (b1_0, b1_1, ()) (b4_0, b5, ()) (w64 (1 + u7.1.1)) u8.1.1).bind fun u9 =>
      cond (u9.1.1.2.1)
        (R3 (w64 (t6 + 1)) u8.2.1.1 u8.2.1.2.1 u8.2.1.2.2.1 b1_0 b1_1 b2_0 b3 u9.1.1.1.1 u9.2.1)
      (R3 (w64 (t6 + 1)) u8.2.1.1 u8.2.1.2.1 u8.2.1.2.2.1 b1_0 b1_1 b2_0 b3 b4_0 b5))
    (cond (u4.1.1.2.2.1)
      (R3 (w64 (t6 + 1)) u5.2.1.1 u5.2.1.2.1 u5.2.1.2.2.1 b1_0 b1_1 b2_0 b3 u4.1.1.1.1 u4.2.1)
    (R3 (w64 (t6 + 1)) u5.2.1.1 u5.2.1.2.1 u5.2.1.2.2.1 b1_0 b1_1 b2_0 b3 b4_0 b5)))
  (some (((b4_0, (), ()), ()), ((u2.2.1.1, u2.2.1.2.1, u2.2.1.2.2.1, ()), b5, ())))
def spec_l8DrawRight_L3 : Nat → Int → List Int → Int → Int → List Int → Int → Int → (List (List UInt8 × List Int × Bool × Unit)) → Int → (List (List UInt8 × List Int × Bool × Unit)) → Option V_spec_l8DrawRight
  | 0, _, _, _, _, _, _, _, _, _, _ => none
  | n + 1, a0, a1, a2, a3, a4, a5, a6, a7, a8, a9 => spec_l8DrawRight_step3 (spec_l8DrawRight_L3 n) a0 a1 a2 a3 a4 a5 a6 a7 a8 a9
def spec_l8DrawRight_entry (R3 : Int → List Int → Int → Int → List Int → Int → Int → (List (List UInt8 × List Int × Bool × Unit)) → Int → (List (List UInt8 × List Int × Bool × Unit)) → Option V_spec_l8DrawRight) (p1 : List Int × Int × Unit) (b0_0 : List Int) (b0_1 : Int) (b0_2 : Int) : Option V_spec_l8DrawRight :=
  (spec_l1Below 4 b0_0 b0_1 b0_2).bind fun u1 =>
  R3 0 u1.2.1.1 u1.2.1.2.1 u1.2.1.2.2.1 p1.1 p1.2.1 0 [] (w64 (1 + u1.1.1)) []
def spec_l8DrawRight (p1 : List Int × Int × Unit) (b0_0 : List Int) (b0_1 : Int) (b0_2 : Int) : Option V_spec_l8DrawRight := spec_l8DrawRight_entry (spec_l8DrawRight_L3 FUEL) p1 b0_0 b0_1 b0_2

/-- spec.l8Draw -/
abbrev V_spec_l8Draw : Type := ((Int × Unit × Unit) × Unit) × ((List Int × Int × Int × Unit) × (List (List UInt8 × List Int × Bool × Unit)) × Unit)
def spec_l8Draw_step11 (R11 : List Int → Int → Int → Int → (List (List UInt8 × List Int × Bool × Unit)) → Int → (List (List UInt8 × List Int × Bool × Unit)) → Option V_spec_l8Draw) (b0_0 : List Int) (b0_1 : Int) (b0_2 : Int) (b1_0 : Int) (b2 : List (List UInt8 × List Int × Bool × Unit)) (b3_0 : Int) (b4 : List (List UInt8 × List Int × Bool × Unit)) : Option V_spec_l8Draw :=
  cond ((decide ((b4.length : Int) < 60)))
    (cond ((decide ((b4.length : Int) > 0)))
      (if (0 : Int) ≤ (0 : Int) ∧ (0 : Int) < (b4.length : Int) then (
      if b4.length + 1 ≤ LIM then (
      R11 b0_0 b0_1 b0_2 b1_0 b2 b3_0 (b4 ++ [((b4.getD 0 ([], [], false, ())).1, (b4.getD 0 ([], [], false, ())).2.1, (b4.getD 0 ([], [], false, ())).2.2.1, ())])) else none) else none)
    (some (((b3_0, (), ()), ()), ((b0_0, b0_1, b0_2, ()), b4, ()))))
  (some (((b3_0, (), ()), ()), ((b0_0, b0_1, b0_2, ()), b4, ())))
def spec_l8Draw_L11 : Nat → List Int → Int → Int → Int → (List (List UInt8 × List Int × Bool × Unit)) → Int → (List (List UInt8 × List Int × Bool × Unit)) → Option V_spec_l8Draw
  | 0, _, _, _, _, _, _, _ => none
  | n + 1, a0, a1, a2, a3, a4, a5, a6 => spec_l8Draw_step11 (spec_l8Draw_L11 n) a0 a1 a2 a3 a4 a5 a6
def spec_l8Draw_entry (R11 : List Int → Int → Int → Int → (List (List UInt8 × List Int × Bool × Unit)) → Int → (List (List UInt8 × List Int × Bool × Unit)) → Option V_spec_l8Draw) (p1 : List Int × Int × Unit) (b0_0 : List Int) (b0_1 : Int) (b0_2 : Int) : Option V_spec_l8Draw :=
  (spec_l8DrawRight (p1.1, p1.2.1, ()) b0_0 b0_1 b0_2).bind fun u1 =>
  (spec_l1Below 25 u1.2.1.1 u1.2.1.2.1 u1.2.1.2.2.1).bind fun u2 =>
  cond (u2.1.1 == 0)
    ((spec_l1PickInt [0, 30, 31] u2.2.1.1 u2.2.1.2.1 u2.2.1.2.2.1).bind fun u3 =>
    some (((u3.1.1, (), ()), ()), ((u3.2.1.1, u3.2.1.2.1, u3.2.1.2.2.1, ()), u1.2.2.1, ())))
  (cond (u2.1.1 == 1)
    (cond (decide ((u1.2.2.1.length : Int) > 0))
      (if (0 : Int) ≤ (0 : Int) ∧ (0 : Int) < (u1.2.2.1.length : Int) then (
      if (0 : Int) ≤ (0 : Int) ∧ (0 : Int) < (u1.2.2.1.length : Int) then (
      some (((u1.1.1.1, (), ()), ()), ((u2.2.1.1, u2.2.1.2.1, u2.2.1.2.2.1, ()), (u1.2.2.1.set 0 ((u1.2.2.1.getD 0 ([], [], false, ())).1, (u1.2.2.1.getD 0 ([], [], false, ())).2.1, !((u1.2.2.1.getD 0 ([], [], false, ())).2.2.1), ())), ()))) else none) else none)
    (some (((u1.1.1.1, (), ()), ()), ((u2.2.1.1, u2.2.1.2.1, u2.2.1.2.2.1, ()), u1.2.2.1, ()))))
  (cond (u2.1.1 == 2)
    ((spec_l1Below 2 u2.2.1.1 u2.2.1.2.1 u2.2.1.2.2.1).bind fun u7 =>
    if (0 : Int) ≤ (w64 (40 + u7.1.1)) ∧ (w64 (40 + u7.1.1)) ≤ (w64 (40 + u7.1.1)) ∧ (w64 (40 + u7.1.1)) ≤ (LIM : Int) then (
    if u1.2.2.1.length + 1 ≤ LIM then (
    some (((u1.1.1.1, (), ()), ()), ((u7.2.1.1, u7.2.1.2.1, u7.2.1.2.2.1, ()), (u1.2.2.1 ++ [(((List.replicate ((w64 (40 + u7.1.1)).toNat) 0).map fun n : Int => UInt8.ofNat n.toNat), [], false, ())]), ()))) else none) else none)
  (cond (u2.1.1 == 3)
    (R11 u2.2.1.1 u2.2.1.2.1 u2.2.1.2.2.1 0 [] u1.1.1.1 u1.2.2.1)
  (some (((u1.1.1.1, (), ()), ()), ((u2.2.1.1, u2.2.1.2.1, u2.2.1.2.2.1, ()), u1.2.2.1, ()))))))
def spec_l8Draw (p1 : List Int × Int × Unit) (b0_0 : List Int) (b0_1 : Int) (b0_2 : Int) : Option V_spec_l8Draw := spec_l8Draw_entry (spec_l8Draw_L11 FUEL) p1 b0_0 b0_1 b0_2

/-- spec.DrawWriterOk -/
abbrev V_spec_DrawWriterOk : Type := (((Unit × Int × Unit) × (Int × Unit × Unit) × Unit) × Unit) × (List Int × (List (List UInt8 × List Int × Bool × Unit)) × Unit)
def spec_DrawWriterOk (p0 : List Int) : Option V_spec_DrawWriterOk :=
  (spec_l1New p0).bind fun u1 =>
  (spec_l4Draw u1.2.1.1 u1.2.1.2.1 u1.2.1.2.2.1).bind fun u2 =>
  (spec_l8Draw (u2.2.2.1, u2.1.1.2.1, ()) u2.2.1.1 u2.2.1.2.1 u2.2.1.2.2.1).bind fun u3 =>
  some (((((), u2.1.1.2.1, ()), (u3.1.1.1, (), ()), ()), ()), (u2.2.2.1, u3.2.2.1, ()))

/-- spec.DrawWriterPack -/
abbrev V_spec_DrawWriterPack : Type := (((Unit × Int × Unit) × (Int × Unit × Unit) × Unit) × Unit) × (List Int × (List (List UInt8 × List Int × Bool × Unit)) × Unit)
def spec_DrawWriterPack (p0 : List Int) : Option V_spec_DrawWriterPack :=
  (spec_DrawWriterOk p0).bind fun u1 =>
  some (((((), u1.1.1.1.2.1, ()), (u1.1.1.2.1.1, (), ()), ()), ()), (u1.2.1, u1.2.2.1, ()))

/-- impl.WriterSure -/
abbrev V_impl_WriterSure : Type := (Int × Unit) × Unit
def impl_WriterSure_step2 (R2 : (List (List UInt8 × List Int × Bool × Unit)) → Int → Int → Int → (List (List UInt8 × List Int × Bool × Unit)) → Option V_impl_WriterSure) (t6 : List (List UInt8 × List Int × Bool × Unit)) (t7 : Int) (t8 : Int) (b0_0 : Int) (b0_1 : List (List UInt8 × List Int × Bool × Unit)) : Option V_impl_WriterSure :=
  cond (decide (t8 < t7))
    (if (0 : Int) ≤ t8 ∧ t8 < (t6.length : Int) then (
    cond (!((t6.getD (t8.toNat) ([], [], false, ())).2.2.1))
      (some ((t8, ()), ()))
    (R2 t6 t7 (w64 (t8 + 1)) b0_0 b0_1)) else none)
  (some (((b0_1.length : Int), ()), ()))
def impl_WriterSure_L2 : Nat → (List (List UInt8 × List Int × Bool × Unit)) → Int → Int → Int → (List (List UInt8 × List Int × Bool × Unit)) → Option V_impl_WriterSure
  | 0, _, _, _, _, _ => none
  | n + 1, a0, a1, a2, a3, a4 => impl_WriterSure_step2 (impl_WriterSure_L2 n) a0 a1 a2 a3 a4
def impl_WriterSure_entry (R2 : (List (List UInt8 × List Int × Bool × Unit)) → Int → Int → Int → (List (List UInt8 × List Int × Bool × Unit)) → Option V_impl_WriterSure) (p0 : Int × List (List UInt8 × List Int × Bool × Unit) × Unit) : Option V_impl_WriterSure :=
  R2 p0.2.1 (p0.2.1.length : Int) 0 p0.1 p0.2.1
def impl_WriterSure (p0 : Int × List (List UInt8 × List Int × Bool × Unit) × Unit) : Option V_impl_WriterSure := impl_WriterSure_entry (impl_WriterSure_L2 FUEL) p0

/-- spec.DrawWriterRead -/
abbrev V_spec_DrawWriterRead : Type := (((Unit × Int × Unit) × Unit × Unit) × Unit) × (List Int × List Int × Unit)
def spec_DrawWriterRead (p0 : List Int) : Option V_spec_DrawWriterRead :=
  (spec_l1New p0).bind fun u1 =>
  (spec_l4DrawRight u1.2.1.1 u1.2.1.2.1 u1.2.1.2.2.1).bind fun u2 =>
  (spec_l8DrawRight (u2.2.2.1, u2.1.1.2.1, ()) u2.2.1.1 u2.2.1.2.1 u2.2.1.2.2.1).bind fun u3 =>
  (spec_WriterPack (u2.2.2.1, u2.1.1.2.1, ()) (u3.1.1.1, u3.2.2.1, ())).bind fun u4 =>
  (spec_l17Spoil u4.2.1 u3.2.1.1 u3.2.1.2.1 u3.2.1.2.2.1).bind fun u5 =>
  some (((((), u2.1.1.2.1, ()), (), ()), ()), (u2.2.2.1, u5.2.2.1, ()))

/-- laws.FnWriterBytes -/
abbrev V_laws_FnWriterBytes : Type := (Bool × Unit) × Unit
def laws_FnWriterBytes (p0 : List Int) : Option V_laws_FnWriterBytes :=
  (laws_big p0).bind fun u1 =>
  cond (u1.1.1)
    (some ((true, ()), ()))
  ((spec_DrawWriterPack p0).bind fun u2 =>
  (impl_WriterPack (u2.2.1, u2.1.1.1.2.1, ()) (u2.1.1.2.1.1, u2.2.2.1, ())).bind fun u3 =>
  (spec_WriterPack (u2.2.1, u2.1.1.1.2.1, ()) (u2.1.1.2.1.1, u2.2.2.1, ())).bind fun u4 =>
  cond ((u3.1.1.2.1 != u4.1.1.2.1))
    (some ((false, ()), ()))
  (cond (u3.1.1.2.1)
    ((impl_WriterRead (u2.2.1, u2.1.1.1.2.1, ()) u3.2.1).bind fun u6 =>
    cond (!u6.1.1.2.1)
      (some ((false, ()), ()))
    (cond ((u6.1.1.1.1 == u2.1.1.2.1.1))
      (cond ((u6.2.2.1.length : Int) == (u2.2.2.1.length : Int))
        ((impl_WriterSure (u6.1.1.1.1, u6.2.2.1, ())).bind fun u10 =>
        (impl_WriterSure (u2.1.1.2.1.1, u2.2.2.1, ())).bind fun u11 =>
        cond ((!(u10.1.1 == u11.1.1)))
          (some ((false, ()), ()))
        ((spec_DrawWriterRead p0).bind fun u13 =>
        (impl_WriterRead (u13.2.1, u13.1.1.1.2.1, ()) u13.2.2.1).bind fun u14 =>
        (spec_WriterRead (u13.2.1, u13.1.1.1.2.1, ()) u14.2.1).bind fun u15 =>
        cond ((u14.1.1.2.1 != u15.1.1.2.1))
          (some ((false, ()), ()))
        ((impl_WriterPack (u13.2.1, u13.1.1.1.2.1, ()) (u14.1.1.1.1, u14.2.2.1, ())).bind fun u17 =>
        cond (!u14.1.1.2.1)
          (cond ((u14.2.2.1.length : Int) == 0)
            (some ((true, ()), ()))
          (cond (u14.1.1.2.1)
            (cond (u17.1.1.2.1)
              (some (((u17.2.1.map fun n : Int => UInt8.ofNat n.toNat) == (u15.2.1.map fun n : Int => UInt8.ofNat n.toNat), ()), ()))
            (some ((false, ()), ())))
          (some ((false, ()), ()))))
        (cond (u14.1.1.2.1)
          (cond (u17.1.1.2.1)
            (some (((u17.2.1.map fun n : Int => UInt8.ofNat n.toNat) == (u15.2.1.map fun n : Int => UInt8.ofNat n.toNat), ()), ()))
          (some ((false, ()), ())))
        (some ((false, ()), ()))))))
      (some ((false, ()), ())))
    (some ((false, ()), ()))))
  ((spec_DrawWriterRead p0).bind fun u23 =>
  (impl_WriterRead (u23.2.1, u23.1.1.1.2.1, ()) u23.2.2.1).bind fun u24 =>
  (spec_WriterRead (u23.2.1, u23.1.1.1.2.1, ()) u24.2.1).bind fun u25 =>
  cond ((u24.1.1.2.1 != u25.1.1.2.1))
    (some ((false, ()), ()))
  ((impl_WriterPack (u23.2.1, u23.1.1.1.2.1, ()) (u24.1.1.1.1, u24.2.2.1, ())).bind fun u27 =>
  cond (!u24.1.1.2.1)
    (cond ((u24.2.2.1.length : Int) == 0)
      (some ((true, ()), ()))
    (cond (u24.1.1.2.1)
      (cond (u27.1.1.2.1)
        (some (((u27.2.1.map fun n : Int => UInt8.ofNat n.toNat) == (u25.2.1.map fun n : Int => UInt8.ofNat n.toNat), ()), ()))
      (some ((false, ()), ())))
    (some ((false, ()), ()))))
  (cond (u24.1.1.2.1)
    (cond (u27.1.1.2.1)
      (some (((u27.2.1.map fun n : Int => UInt8.ofNat n.toNat) == (u25.2.1.map fun n : Int => UInt8.ofNat n.toNat), ()), ()))
    (some ((false, ()), ())))
  (some ((false, ()), ())))))))
end
end Go.M
