/- What each function computes, printed by a program out of the translation; what is printed is checked in the equations. -/
import Derived.Test.YtekamaodealggaaGreatF1
set_option linter.unusedVariables false
set_option linter.unusedSimpArgs false
namespace Go.M
noncomputable section
/-- laws.szIntS -/
abbrev V_laws_szIntS : Type := (Int × Unit) × Unit
def laws_szIntS (p0 : List Int) (p1 : Int) : Option V_laws_szIntS :=
  let x1 : Int := w64 (p1 - (p0.length : Int))
  cond (decide (x1 < 0))
    (some (((-1), ()), ()))
  (some ((x1, ()), ()))

/-- laws.szConfig -/
abbrev V_laws_szConfig : Type := (Int × Unit) × Unit
def laws_szConfig (p0 : List Int × Int × Unit) (p1 : Int) : Option V_laws_szConfig :=
  (laws_szIntS p0.1 p1).bind fun u1 =>
  cond (decide (u1.1.1 < 0))
    (some (((-1), ()), ()))
  (some ((u1.1.1, ()), ()))

/-- laws.toIntS -/
abbrev V_laws_toIntS : Type := (Unit × Unit) × (List Int × Unit)
def laws_toIntS_step3 (R3 : List Int → Int → List Int → Option V_laws_toIntS) (t0 : List Int) (t4 : Int) (b0 : List Int) : Option V_laws_toIntS :=
  cond ((decide (t4 < (t0.length : Int))))
    (if (0 : Int) ≤ t4 ∧ t4 < (t0.length : Int) then (
    if (0 : Int) ≤ t4 ∧ t4 < (b0.length : Int) then (
    R3 t0 (w64 (t4 + 1)) (b0.set (t4.toNat) (t0.getD (t4.toNat) 0))) else none) else none)
  (some (((), ()), (b0, ())))
def laws_toIntS_L3 : Nat → List Int → Int → List Int → Option V_laws_toIntS
  | 0, _, _, _ => none
  | n + 1, a0, a1, a2 => laws_toIntS_step3 (laws_toIntS_L3 n) a0 a1 a2
def laws_toIntS_entry (R3 : List Int → Int → List Int → Option V_laws_toIntS) (p0 : List Int) : Option V_laws_toIntS :=
  if (0 : Int) ≤ (p0.length : Int) ∧ (p0.length : Int) ≤ (p0.length : Int) ∧ (p0.length : Int) ≤ (LIM : Int) then (
  R3 p0 0 (List.replicate ((p0.length : Int).toNat) 0)) else none
def laws_toIntS (p0 : List Int) : Option V_laws_toIntS := laws_toIntS_entry (laws_toIntS_L3 FUEL) p0

/-- laws.toConfig -/
abbrev V_laws_toConfig : Type := ((Unit × Int × Unit) × Unit) × (List Int × Unit)
def laws_toConfig (p0 : List Int × Int × Unit) : Option V_laws_toConfig :=
  (laws_toIntS p0.1).bind fun u1 =>
  some ((((), p0.2.1, ()), ()), (u1.2.1, ()))

/-- spec.l1In -/
abbrev V_spec_l1In : Type := (Bool × Unit) × Unit
def spec_l1In (p0 : Int) (p1 : Int) (p2 : Int) : Option V_spec_l1In :=
  cond (decide (p0 ≥ p1))
    (some ((decide (p0 ≤ p2), ()), ()))
  (some ((false, ()), ()))

/-- spec.ConfigOk -/
abbrev V_spec_ConfigOk : Type := (Bool × Unit) × Unit
def spec_ConfigOk_step4 (R4 : Int → List Int → Int → Option V_spec_ConfigOk) (t3 : Int) (b0_0 : List Int) (b0_1 : Int) : Option V_spec_ConfigOk :=
  cond ((decide (t3 < (b0_0.length : Int))))
    (if (0 : Int) ≤ t3 ∧ t3 < (b0_0.length : Int) then (
    (spec_l1In (b0_0.getD (t3.toNat) 0) 0 7).bind fun u5 =>
    cond (!u5.1.1)
      (some ((false, ()), ()))
    (R4 (w64 (t3 + 1)) b0_0 b0_1)) else none)
  (some ((true, ()), ()))
def spec_ConfigOk_L4 : Nat → Int → List Int → Int → Option V_spec_ConfigOk
  | 0, _, _, _ => none
  | n + 1, a0, a1, a2 => spec_ConfigOk_step4 (spec_ConfigOk_L4 n) a0 a1 a2
def spec_ConfigOk_entry (R4 : Int → List Int → Int → Option V_spec_ConfigOk) (p0 : List Int × Int × Unit) : Option V_spec_ConfigOk :=
  (spec_l1In (p0.1.length : Int) 1 8).bind fun u1 =>
  cond (!u1.1.1)
    (some ((false, ()), ()))
  ((spec_l1In p0.2.1 1 4).bind fun u2 =>
  cond (!u2.1.1)
    (some ((false, ()), ()))
  (R4 0 p0.1 p0.2.1))
def spec_ConfigOk (p0 : List Int × Int × Unit) : Option V_spec_ConfigOk := spec_ConfigOk_entry (spec_ConfigOk_L4 FUEL) p0

/-- impl.within -/
abbrev V_impl_within : Type := (Bool × Unit) × Unit
def impl_within (p0 : Int) (p1 : Int) (p2 : Int) : Option V_impl_within :=
  cond (decide (p0 ≥ p1))
    (some ((decide (p0 ≤ p2), ()), ()))
  (some ((false, ()), ()))

/-- impl.ConfigOk -/
abbrev V_impl_ConfigOk : Type := (Bool × Unit) × Unit
def impl_ConfigOk_step2 (R2 : List Int → Int → Int → List Int → Int → Option V_impl_ConfigOk) (t6 : List Int) (t7 : Int) (t8 : Int) (b0_0 : List Int) (b0_1 : Int) : Option V_impl_ConfigOk :=
  cond (decide (t8 < t7))
    (if (0 : Int) ≤ t8 ∧ t8 < (t6.length : Int) then (
    (impl_within (t6.getD (t8.toNat) 0) 0 7).bind fun u2 =>
    cond (!u2.1.1)
      (some ((false, ()), ()))
    (R2 t6 t7 (w64 (t8 + 1)) b0_0 b0_1)) else none)
  ((impl_within (b0_0.length : Int) 1 8).bind fun u3 =>
  cond (u3.1.1)
    ((impl_within b0_1 1 4).bind fun u4 =>
    some ((u4.1.1, ()), ()))
  (some ((false, ()), ())))
def impl_ConfigOk_L2 : Nat → List Int → Int → Int → List Int → Int → Option V_impl_ConfigOk
  | 0, _, _, _, _, _ => none
  | n + 1, a0, a1, a2, a3, a4 => impl_ConfigOk_step2 (impl_ConfigOk_L2 n) a0 a1 a2 a3 a4
def impl_ConfigOk_entry (R2 : List Int → Int → Int → List Int → Int → Option V_impl_ConfigOk) (p0 : List Int × Int × Unit) : Option V_impl_ConfigOk :=
  R2 p0.1 (p0.1.length : Int) 0 p0.1 p0.2.1
def impl_ConfigOk (p0 : List Int × Int × Unit) : Option V_impl_ConfigOk := impl_ConfigOk_entry (impl_ConfigOk_L2 FUEL) p0

/-- laws.eqIntS -/
abbrev V_laws_eqIntS : Type := (Bool × Unit) × Unit
def laws_eqIntS_step4 (R4 : List Int → List Int → Int → Option V_laws_eqIntS) (t0 : List Int) (t1 : List Int) (t5 : Int) : Option V_laws_eqIntS :=
  cond ((decide (t5 < (t0.length : Int))))
    (if (0 : Int) ≤ t5 ∧ t5 < (t0.length : Int) then (
    if (0 : Int) ≤ t5 ∧ t5 < (t1.length : Int) then (
    cond ((t0.getD (t5.toNat) 0) != (t1.getD (t5.toNat) 0))
      (some ((false, ()), ()))
    (R4 t0 t1 (w64 (t5 + 1)))) else none) else none)
  (some ((true, ()), ()))
def laws_eqIntS_L4 : Nat → List Int → List Int → Int → Option V_laws_eqIntS
  | 0, _, _, _ => none
  | n + 1, a0, a1, a2 => laws_eqIntS_step4 (laws_eqIntS_L4 n) a0 a1 a2
def laws_eqIntS_entry (R4 : List Int → List Int → Int → Option V_laws_eqIntS) (p0 : List Int) (p1 : List Int) : Option V_laws_eqIntS :=
  cond (((p0.length : Int) != (p1.length : Int)))
    (some ((false, ()), ()))
  (R4 p0 p1 0)
def laws_eqIntS (p0 : List Int) (p1 : List Int) : Option V_laws_eqIntS := laws_eqIntS_entry (laws_eqIntS_L4 FUEL) p0 p1

/-- laws.eqConfig -/
abbrev V_laws_eqConfig : Type := (Bool × Unit) × Unit
def laws_eqConfig (p0 : List Int × Int × Unit) (p1 : List Int × Int × Unit) : Option V_laws_eqConfig :=
  (laws_eqIntS p0.1 p1.1).bind fun u1 =>
  cond (!u1.1.1)
    (some ((false, ()), ()))
  (cond (p0.2.1 != p1.2.1)
    (some ((false, ()), ()))
  (some ((true, ()), ())))

/-- laws.szEvent -/
abbrev V_laws_szEvent : Type := (Int × Unit) × Unit
def laws_szEvent (p0 : Int × Int × List UInt8 × Unit) (p1 : Int) : Option V_laws_szEvent :=
  let x1 : Int := (p0.2.2.1.length : Int)
  cond ((decide ((w64 (p1 - x1)) < 0)))
    (some (((-1), ()), ()))
  (some ((w64 (p1 - x1), ()), ()))

/-- laws.szEventS -/
abbrev V_laws_szEventS : Type := (Int × Unit) × Unit
def laws_szEventS_step5 (R5 : (List (Int × Int × List UInt8 × Unit)) → Int → Int → Option V_laws_szEventS) (t0 : List (Int × Int × List UInt8 × Unit)) (t1 : Int) (t5 : Int) : Option V_laws_szEventS :=
  cond ((decide (t5 < (t0.length : Int))))
    (if (0 : Int) ≤ t5 ∧ t5 < (t0.length : Int) then (
    (laws_szEvent ((t0.getD (t5.toNat) (0, 0, [], ())).1, (t0.getD (t5.toNat) (0, 0, [], ())).2.1, (t0.getD (t5.toNat) (0, 0, [], ())).2.2.1, ()) t1).bind fun u3 =>
    cond (decide (u3.1.1 < 0))
      (some (((-1), ()), ()))
    (R5 t0 u3.1.1 (w64 (t5 + 1)))) else none)
  (some ((t1, ()), ()))
def laws_szEventS_L5 : Nat → (List (Int × Int × List UInt8 × Unit)) → Int → Int → Option V_laws_szEventS
  | 0, _, _, _ => none
  | n + 1, a0, a1, a2 => laws_szEventS_step5 (laws_szEventS_L5 n) a0 a1 a2
def laws_szEventS_entry (R5 : (List (Int × Int × List UInt8 × Unit)) → Int → Int → Option V_laws_szEventS) (p0 : List (Int × Int × List UInt8 × Unit)) (p1 : Int) : Option V_laws_szEventS :=
  let x1 : Int := w64 (p1 - (p0.length : Int))
  cond (decide (x1 < 0))
    (some (((-1), ()), ()))
  (R5 p0 x1 0)
def laws_szEventS (p0 : List (Int × Int × List UInt8 × Unit)) (p1 : Int) : Option V_laws_szEventS := laws_szEventS_entry (laws_szEventS_L5 FUEL) p0 p1

/-- laws.szReader -/
abbrev V_laws_szReader : Type := (Int × Unit) × Unit
def laws_szReader (p0 : Int × Int × List (Int × Int × List UInt8 × Unit) × Unit) (p1 : Int) : Option V_laws_szReader :=
  (laws_szEventS p0.2.2.1 p1).bind fun u1 =>
  cond (decide (u1.1.1 < 0))
    (some (((-1), ()), ()))
  (some ((u1.1.1, ()), ()))

/-- laws.toEvent -/
abbrev V_laws_toEvent : Type := ((Int × Int × List UInt8 × Unit) × Unit) × Unit
def laws_toEvent (p0 : Int × Int × List UInt8 × Unit) : Option V_laws_toEvent :=
  some (((p0.1, p0.2.1, p0.2.2.1, ()), ()), ())

/-- laws.toEventS -/
abbrev V_laws_toEventS : Type := (Unit × Unit) × ((List (Int × Int × List UInt8 × Unit)) × Unit)
def laws_toEventS_step3 (R3 : (List (Int × Int × List UInt8 × Unit)) → Int → (List (Int × Int × List UInt8 × Unit)) → Option V_laws_toEventS) (t0 : List (Int × Int × List UInt8 × Unit)) (t4 : Int) (b0 : List (Int × Int × List UInt8 × Unit)) : Option V_laws_toEventS :=
  cond ((decide (t4 < (t0.length : Int))))
    (if (0 : Int) ≤ t4 ∧ t4 < (t0.length : Int) then (
    (laws_toEvent ((t0.getD (t4.toNat) (0, 0, [], ())).1, (t0.getD (t4.toNat) (0, 0, [], ())).2.1, (t0.getD (t4.toNat) (0, 0, [], ())).2.2.1, ())).bind fun u3 =>
    if (0 : Int) ≤ t4 ∧ t4 < (b0.length : Int) then (
    R3 t0 (w64 (t4 + 1)) (b0.set (t4.toNat) (u3.1.1.1, u3.1.1.2.1, u3.1.1.2.2.1, ()))) else none) else none)
  (some (((), ()), (b0, ())))
def laws_toEventS_L3 : Nat → (List (Int × Int × List UInt8 × Unit)) → Int → (List (Int × Int × List UInt8 × Unit)) → Option V_laws_toEventS
  | 0, _, _, _ => none
  | n + 1, a0, a1, a2 => laws_toEventS_step3 (laws_toEventS_L3 n) a0 a1 a2
def laws_toEventS_entry (R3 : (List (Int × Int × List UInt8 × Unit)) → Int → (List (Int × Int × List UInt8 × Unit)) → Option V_laws_toEventS) (p0 : List (Int × Int × List UInt8 × Unit)) : Option V_laws_toEventS :=
  if (0 : Int) ≤ (p0.length : Int) ∧ (p0.length : Int) ≤ (p0.length : Int) ∧ (p0.length : Int) ≤ (LIM : Int) then (
  R3 p0 0 (List.replicate ((p0.length : Int).toNat) (0, 0, [], ()))) else none
def laws_toEventS (p0 : List (Int × Int × List UInt8 × Unit)) : Option V_laws_toEventS := laws_toEventS_entry (laws_toEventS_L3 FUEL) p0

/-- laws.toReader -/
abbrev V_laws_toReader : Type := ((Int × Int × Unit × Unit) × Unit) × ((List (Int × Int × List UInt8 × Unit)) × Unit)
def laws_toReader (p0 : Int × Int × List (Int × Int × List UInt8 × Unit) × Unit) : Option V_laws_toReader :=
  (laws_toEventS p0.2.2.1).bind fun u1 =>
  some (((p0.1, p0.2.1, (), ()), ()), (u1.2.1, ()))

/-- spec.ReaderOk -/
abbrev V_spec_ReaderOk : Type := (Bool × Unit) × Unit
def spec_ReaderOk (p0 : Int × Int × List (Int × Int × List UInt8 × Unit) × Unit) : Option V_spec_ReaderOk :=
  (spec_l1In p0.1 1 31).bind fun u1 =>
  cond (u1.1.1)
    ((spec_l1In p0.2.1 1 61).bind fun u2 =>
    cond (u2.1.1)
      (some ((decide ((p0.2.2.1.length : Int) ≤ 120), ()), ()))
    (some ((false, ()), ())))
  (some ((false, ()), ()))

/-- impl.ReaderOk -/
abbrev V_impl_ReaderOk : Type := (Bool × Unit) × Unit
def impl_ReaderOk (p0 : Int × Int × List (Int × Int × List UInt8 × Unit) × Unit) : Option V_impl_ReaderOk :=
  (impl_within p0.1 1 31).bind fun u1 =>
  cond (u1.1.1)
    ((impl_within p0.2.1 1 61).bind fun u2 =>
    cond (u2.1.1)
      (some ((decide ((p0.2.2.1.length : Int) ≤ 120), ()), ()))
    (some ((false, ()), ())))
  (some ((false, ()), ()))

/-- impl.dataOk -/
abbrev V_impl_dataOk : Type := (Bool × Unit) × Unit
def impl_dataOk (p0 : List UInt8) : Option V_impl_dataOk :=
  some (((decide ((p0.length : Int) ≤ 40)), ()), ())

/-- laws.eqEvent -/
abbrev V_laws_eqEvent : Type := (Bool × Unit) × Unit
def laws_eqEvent (p0 : Int × Int × List UInt8 × Unit) (p1 : Int × Int × List UInt8 × Unit) : Option V_laws_eqEvent :=
  cond (p0.1 != p1.1)
    (some ((false, ()), ()))
  (cond (p0.2.1 != p1.2.1)
    (some ((false, ()), ()))
  (cond ((!(p0.2.2.1 == p1.2.2.1)))
    (some ((false, ()), ()))
  (some ((true, ()), ()))))

/-- laws.eqEventS -/
abbrev V_laws_eqEventS : Type := (Bool × Unit) × Unit
def laws_eqEventS_step4 (R4 : (List (Int × Int × List UInt8 × Unit)) → (List (Int × Int × List UInt8 × Unit)) → Int → Option V_laws_eqEventS) (t0 : List (Int × Int × List UInt8 × Unit)) (t1 : List (Int × Int × List UInt8 × Unit)) (t5 : Int) : Option V_laws_eqEventS :=
  cond ((decide (t5 < (t0.length : Int))))
    (if (0 : Int) ≤ t5 ∧ t5 < (t0.length : Int) then (
    if (0 : Int) ≤ t5 ∧ t5 < (t1.length : Int) then (
    (laws_eqEvent ((t0.getD (t5.toNat) (0, 0, [], ())).1, (t0.getD (t5.toNat) (0, 0, [], ())).2.1, (t0.getD (t5.toNat) (0, 0, [], ())).2.2.1, ()) ((t1.getD (t5.toNat) (0, 0, [], ())).1, (t1.getD (t5.toNat) (0, 0, [], ())).2.1, (t1.getD (t5.toNat) (0, 0, [], ())).2.2.1, ())).bind fun u3 =>
    cond (!u3.1.1)
      (some ((false, ()), ()))
    (R4 t0 t1 (w64 (t5 + 1)))) else none) else none)
  (some ((true, ()), ()))
def laws_eqEventS_L4 : Nat → (List (Int × Int × List UInt8 × Unit)) → (List (Int × Int × List UInt8 × Unit)) → Int → Option V_laws_eqEventS
  | 0, _, _, _ => none
  | n + 1, a0, a1, a2 => laws_eqEventS_step4 (laws_eqEventS_L4 n) a0 a1 a2
def laws_eqEventS_entry (R4 : (List (Int × Int × List UInt8 × Unit)) → (List (Int × Int × List UInt8 × Unit)) → Int → Option V_laws_eqEventS) (p0 : List (Int × Int × List UInt8 × Unit)) (p1 : List (Int × Int × List UInt8 × Unit)) : Option V_laws_eqEventS :=
  cond (((p0.length : Int) != (p1.length : Int)))
    (some ((false, ()), ()))
  (R4 p0 p1 0)
def laws_eqEventS (p0 : List (Int × Int × List UInt8 × Unit)) (p1 : List (Int × Int × List UInt8 × Unit)) : Option V_laws_eqEventS := laws_eqEventS_entry (laws_eqEventS_L4 FUEL) p0 p1

/-- laws.eqReader -/
abbrev V_laws_eqReader : Type := (Bool × Unit) × Unit
def laws_eqReader (p0 : Int × Int × List (Int × Int × List UInt8 × Unit) × Unit) (p1 : Int × Int × List (Int × Int × List UInt8 × Unit) × Unit) : Option V_laws_eqReader :=
  cond (p0.1 != p1.1)
    (some ((false, ()), ()))
  (cond (p0.2.1 != p1.2.1)
    (some ((false, ()), ()))
  ((laws_eqEventS p0.2.2.1 p1.2.2.1).bind fun u1 =>
  cond (!u1.1.1)
    (some ((false, ()), ()))
  (some ((true, ()), ()))))

/-- spec.l1Place -/
abbrev V_spec_l1Place : Type := (Int × Unit) × Unit
def spec_l1Place (p0 : Int) (p1 : Int) : Option V_spec_l1Place :=
  some ((w64 ((w64 (4294967296 * p0)) + p1), ()), ())

/-- laws.szWord -/
abbrev V_laws_szWord : Type := (Int × Unit) × Unit
def laws_szWord (p0 : List UInt8 × List Int × Bool × Unit) (p1 : Int) : Option V_laws_szWord :=
  let x1 : Int := w64 (p1 - (p0.1.length : Int))
  cond (decide (x1 < 0))
    (some (((-1), ()), ()))
  ((laws_szIntS p0.2.1 x1).bind fun u2 =>
  cond (decide (u2.1.1 < 0))
    (some (((-1), ()), ()))
  (some ((u2.1.1, ()), ())))

/-- laws.szWordS -/
abbrev V_laws_szWordS : Type := (Int × Unit) × Unit
def laws_szWordS_step5 (R5 : (List (List UInt8 × List Int × Bool × Unit)) → Int → Int → Option V_laws_szWordS) (t0 : List (List UInt8 × List Int × Bool × Unit)) (t1 : Int) (t5 : Int) : Option V_laws_szWordS :=
  cond ((decide (t5 < (t0.length : Int))))
    (if (0 : Int) ≤ t5 ∧ t5 < (t0.length : Int) then (
    (laws_szWord ((t0.getD (t5.toNat) ([], [], false, ())).1, (t0.getD (t5.toNat) ([], [], false, ())).2.1, (t0.getD (t5.toNat) ([], [], false, ())).2.2.1, ()) t1).bind fun u3 =>
    cond (decide (u3.1.1 < 0))
      (some (((-1), ()), ()))
    (R5 t0 u3.1.1 (w64 (t5 + 1)))) else none)
  (some ((t1, ()), ()))
def laws_szWordS_L5 : Nat → (List (List UInt8 × List Int × Bool × Unit)) → Int → Int → Option V_laws_szWordS
  | 0, _, _, _ => none
  | n + 1, a0, a1, a2 => laws_szWordS_step5 (laws_szWordS_L5 n) a0 a1 a2
def laws_szWordS_entry (R5 : (List (List UInt8 × List Int × Bool × Unit)) → Int → Int → Option V_laws_szWordS) (p0 : List (List UInt8 × List Int × Bool × Unit)) (p1 : Int) : Option V_laws_szWordS :=
  let x1 : Int := w64 (p1 - (p0.length : Int))
  cond (decide (x1 < 0))
    (some (((-1), ()), ()))
  (R5 p0 x1 0)
def laws_szWordS (p0 : List (List UInt8 × List Int × Bool × Unit)) (p1 : Int) : Option V_laws_szWordS := laws_szWordS_entry (laws_szWordS_L5 FUEL) p0 p1

/-- laws.szWriter -/
abbrev V_laws_szWriter : Type := (Int × Unit) × Unit
def laws_szWriter (p0 : Int × List (List UInt8 × List Int × Bool × Unit) × Unit) (p1 : Int) : Option V_laws_szWriter :=
  (laws_szWordS p0.2.1 p1).bind fun u1 =>
  cond (decide (u1.1.1 < 0))
    (some (((-1), ()), ()))
  (some ((u1.1.1, ()), ()))

/-- laws.toWord -/
abbrev V_laws_toWord : Type := ((List UInt8 × Unit × Bool × Unit) × Unit) × (List Int × Unit)
def laws_toWord (p0 : List UInt8 × List Int × Bool × Unit) : Option V_laws_toWord :=
  (laws_toIntS p0.2.1).bind fun u1 =>
  some (((p0.1, (), p0.2.2.1, ()), ()), (u1.2.1, ()))

/-- laws.toWordS -/
abbrev V_laws_toWordS : Type := (Unit × Unit) × ((List (List UInt8 × List Int × Bool × Unit)) × Unit)
def laws_toWordS_step3 (R3 : (List (List UInt8 × List Int × Bool × Unit)) → Int → (List (List UInt8 × List Int × Bool × Unit)) → Option V_laws_toWordS) (t0 : List (List UInt8 × List Int × Bool × Unit)) (t4 : Int) (b0 : List (List UInt8 × List Int × Bool × Unit)) : Option V_laws_toWordS :=
  cond ((decide (t4 < (t0.length : Int))))
    (if (0 : Int) ≤ t4 ∧ t4 < (t0.length : Int) then (
    (laws_toWord ((t0.getD (t4.toNat) ([], [], false, ())).1, (t0.getD (t4.toNat) ([], [], false, ())).2.1, (t0.getD (t4.toNat) ([], [], false, ())).2.2.1, ())).bind fun u3 =>
    if (0 : Int) ≤ t4 ∧ t4 < (b0.length : Int) then (
    R3 t0 (w64 (t4 + 1)) (b0.set (t4.toNat) (u3.1.1.1, u3.2.1, u3.1.1.2.2.1, ()))) else none) else none)
  (some (((), ()), (b0, ())))
def laws_toWordS_L3 : Nat → (List (List UInt8 × List Int × Bool × Unit)) → Int → (List (List UInt8 × List Int × Bool × Unit)) → Option V_laws_toWordS
  | 0, _, _, _ => none
  | n + 1, a0, a1, a2 => laws_toWordS_step3 (laws_toWordS_L3 n) a0 a1 a2
def laws_toWordS_entry (R3 : (List (List UInt8 × List Int × Bool × Unit)) → Int → (List (List UInt8 × List Int × Bool × Unit)) → Option V_laws_toWordS) (p0 : List (List UInt8 × List Int × Bool × Unit)) : Option V_laws_toWordS :=
  if (0 : Int) ≤ (p0.length : Int) ∧ (p0.length : Int) ≤ (p0.length : Int) ∧ (p0.length : Int) ≤ (LIM : Int) then (
  R3 p0 0 (List.replicate ((p0.length : Int).toNat) ([], [], false, ()))) else none
def laws_toWordS (p0 : List (List UInt8 × List Int × Bool × Unit)) : Option V_laws_toWordS := laws_toWordS_entry (laws_toWordS_L3 FUEL) p0

/-- laws.toWriter -/
abbrev V_laws_toWriter : Type := ((Int × Unit × Unit) × Unit) × ((List (List UInt8 × List Int × Bool × Unit)) × Unit)
def laws_toWriter (p0 : Int × List (List UInt8 × List Int × Bool × Unit) × Unit) : Option V_laws_toWriter :=
  (laws_toWordS p0.2.1).bind fun u1 =>
  some (((p0.1, (), ()), ()), (u1.2.1, ()))

/-- spec.l4Asc -/
abbrev V_spec_l4Asc : Type := (Bool × Unit) × Unit
def spec_l4Asc_step2 (R2 : List Int → Int → Int → Int → Option V_spec_l4Asc) (t0 : List Int) (t1 : Int) (t2 : Int) (t7 : Int) : Option V_spec_l4Asc :=
  cond ((decide (t7 < (t0.length : Int))))
    (if (0 : Int) ≤ t7 ∧ t7 < (t0.length : Int) then (
    (spec_l1In (t0.getD (t7.toNat) 0) t1 t2).bind fun u3 =>
    cond (!u3.1.1)
      (some ((false, ()), ()))
    (cond (decide (t7 > 0))
      (if (0 : Int) ≤ w64 (t7 - 1) ∧ w64 (t7 - 1) < (t0.length : Int) then (
      if (0 : Int) ≤ t7 ∧ t7 < (t0.length : Int) then (
      cond (decide ((t0.getD ((w64 (t7 - 1)).toNat) 0) ≥ (t0.getD (t7.toNat) 0)))
        (some ((false, ()), ()))
      (R2 t0 t1 t2 (w64 (t7 + 1)))) else none) else none)
    (R2 t0 t1 t2 (w64 (t7 + 1))))) else none)
  (some ((true, ()), ()))
def spec_l4Asc_L2 : Nat → List Int → Int → Int → Int → Option V_spec_l4Asc
  | 0, _, _, _, _ => none
  | n + 1, a0, a1, a2, a3 => spec_l4Asc_step2 (spec_l4Asc_L2 n) a0 a1 a2 a3
def spec_l4Asc_entry (R2 : List Int → Int → Int → Int → Option V_spec_l4Asc) (p0 : List Int) (p1 : Int) (p2 : Int) : Option V_spec_l4Asc :=
  R2 p0 p1 p2 0
def spec_l4Asc (p0 : List Int) (p1 : Int) (p2 : Int) : Option V_spec_l4Asc := spec_l4Asc_entry (spec_l4Asc_L2 FUEL) p0 p1 p2

/-- spec.NodesOk -/
abbrev V_spec_NodesOk : Type := (Bool × Unit) × Unit
def spec_NodesOk (p0 : List Int × Int × Unit) (p1 : List Int) : Option V_spec_NodesOk :=
  (spec_ConfigOk (p0.1, p0.2.1, ())).bind fun u1 =>
  cond (u1.1.1)
    ((spec_l4Asc p1 0 (w64 ((p0.1.length : Int) - 1))).bind fun u3 =>
    some ((u3.1.1, ()), ()))
  (some ((false, ()), ()))

/-- spec.l4Span -/
abbrev V_spec_l4Span : Type := (Int × Unit) × Unit
def spec_l4Span_step4 (R4 : List Int → Int → Int → List Int → Int → List Bool → Option V_spec_l4Span) (t1 : List Int) (t6 : Int) (t7 : Int) (b0_0 : List Int) (b0_1 : Int) (b1 : List Bool) : Option V_spec_l4Span :=
  cond ((decide (t7 < (t1.length : Int))))
    (if (0 : Int) ≤ t7 ∧ t7 < (t1.length : Int) then (
    let x3 : Int := (t1.getD (t7.toNat) 0)
    if (0 : Int) ≤ x3 ∧ x3 < (b0_0.length : Int) then (
    let x4 : Int := (b0_0.getD (x3.toNat) 0)
    if (0 : Int) ≤ x4 ∧ x4 < (b1.length : Int) then (
    cond (!(b1.getD (x4.toNat) false))
      (if (0 : Int) ≤ x4 ∧ x4 < (b1.length : Int) then (
      R4 t1 (w64 (t6 + 1)) (w64 (t7 + 1)) b0_0 b0_1 (b1.set (x4.toNat) true)) else none)
    (R4 t1 t6 (w64 (t7 + 1)) b0_0 b0_1 b1)) else none) else none) else none)
  (some ((t6, ()), ()))
def spec_l4Span_L4 : Nat → List Int → Int → Int → List Int → Int → List Bool → Option V_spec_l4Span
  | 0, _, _, _, _, _, _ => none
  | n + 1, a0, a1, a2, a3, a4, a5 => spec_l4Span_step4 (spec_l4Span_L4 n) a0 a1 a2 a3 a4 a5
def spec_l4Span_entry (R4 : List Int → Int → Int → List Int → Int → List Bool → Option V_spec_l4Span) (p0 : List Int × Int × Unit) (p1 : List Int) : Option V_spec_l4Span :=
  R4 p1 0 0 p0.1 p0.2.1 (List.replicate 8 false)
def spec_l4Span (p0 : List Int × Int × Unit) (p1 : List Int) : Option V_spec_l4Span := spec_l4Span_entry (spec_l4Span_L4 FUEL) p0 p1

/-- spec.Holds -/
abbrev V_spec_Holds : Type := (Bool × Unit) × Unit
def spec_Holds (p0 : List Int × Int × Unit) (p1 : List Int) : Option V_spec_Holds :=
  (spec_NodesOk (p0.1, p0.2.1, ()) p1).bind fun u1 =>
  cond (u1.1.1)
    ((spec_l4Span (p0.1, p0.2.1, ()) p1).bind fun u2 =>
    some (((decide (u2.1.1 ≥ p0.2.1)), ()), ()))
  (some ((false, ()), ()))

/-- spec.WriterOk -/
abbrev V_spec_WriterOk : Type := (Bool × Unit) × Unit
def spec_WriterOk_step5 (R5 : Int → Int → List Int → Int → Int → (List (List UInt8 × List Int × Bool × Unit)) → Option V_spec_WriterOk) (t5 : Int) (t6 : Int) (b0_0 : List Int) (b0_1 : Int) (b1_0 : Int) (b1_1 : List (List UInt8 × List Int × Bool × Unit)) : Option V_spec_WriterOk :=
  cond ((decide (t6 < (b1_1.length : Int))))
    (if (0 : Int) ≤ t6 ∧ t6 < (b1_1.length : Int) then (
    cond ((decide ((((b1_1.getD (t6.toNat) ([], [], false, ())).1).length : Int) > 40)))
      (some ((false, ()), ()))
    ((spec_NodesOk (b0_0, b0_1, ()) ((b1_1.getD (t6.toNat) ([], [], false, ())).2.1)).bind fun u7 =>
    cond (!u7.1.1)
      (some ((false, ()), ()))
    ((spec_Holds (b0_0, b0_1, ()) ((b1_1.getD (t6.toNat) ([], [], false, ())).2.1)).bind fun u9 =>
    cond (u9.1.1 != ((b1_1.getD (t6.toNat) ([], [], false, ())).2.2.1))
      (some ((false, ()), ()))
    (cond (!((b1_1.getD (t6.toNat) ([], [], false, ())).2.2.1))
      (R5 (w64 (t5 + 1)) (w64 (t6 + 1)) b0_0 b0_1 b1_0 b1_1)
    (R5 t5 (w64 (t6 + 1)) b0_0 b0_1 b1_0 b1_1))))) else none)
  (some ((decide (t5 ≤ 6), ()), ()))
def spec_WriterOk_L5 : Nat → Int → Int → List Int → Int → Int → (List (List UInt8 × List Int × Bool × Unit)) → Option V_spec_WriterOk
  | 0, _, _, _, _, _, _ => none
  | n + 1, a0, a1, a2, a3, a4, a5 => spec_WriterOk_step5 (spec_WriterOk_L5 n) a0 a1 a2 a3 a4 a5
def spec_WriterOk_entry (R5 : Int → Int → List Int → Int → Int → (List (List UInt8 × List Int × Bool × Unit)) → Option V_spec_WriterOk) (p0 : List Int × Int × Unit) (p1 : Int × List (List UInt8 × List Int × Bool × Unit) × Unit) : Option V_spec_WriterOk :=
  (spec_ConfigOk (p0.1, p0.2.1, ())).bind fun u1 =>
  cond (!u1.1.1)
    (some ((false, ()), ()))
  ((spec_l1In p1.1 1 30).bind fun u2 =>
  cond (!u2.1.1)
    (some ((false, ()), ()))
  (cond (decide ((p1.2.1.length : Int) > 60))
    (some ((false, ()), ()))
  (R5 0 0 p0.1 p0.2.1 p1.1 p1.2.1)))
def spec_WriterOk (p0 : List Int × Int × Unit) (p1 : Int × List (List UInt8 × List Int × Bool × Unit) × Unit) : Option V_spec_WriterOk := spec_WriterOk_entry (spec_WriterOk_L5 FUEL) p0 p1

/-- impl.ascends -/
abbrev V_impl_ascends : Type := (Bool × Unit) × Unit
def impl_ascends_step2 (R2 : List Int → Int → List Int → Int → Int → Option V_impl_ascends) (t0 : List Int) (t1 : Int) (t7 : List Int) (t8 : Int) (t9 : Int) : Option V_impl_ascends :=
  cond (decide (t9 < t8))
    (if (0 : Int) ≤ t9 ∧ t9 < (t7.length : Int) then (
    let x1 : Int := (t7.getD (t9.toNat) 0)
    (impl_within x1 0 t1).bind fun u2 =>
    cond (!u2.1.1)
      (some ((false, ()), ()))
    (cond (decide (t9 > 0))
      (if (0 : Int) ≤ w64 (t9 - 1) ∧ w64 (t9 - 1) < (t0.length : Int) then (
      cond (decide ((t0.getD ((w64 (t9 - 1)).toNat) 0) ≥ x1))
        (some ((false, ()), ()))
      (R2 t0 t1 t7 t8 (w64 (t9 + 1)))) else none)
    (R2 t0 t1 t7 t8 (w64 (t9 + 1))))) else none)
  (some ((true, ()), ()))
def impl_ascends_L2 : Nat → List Int → Int → List Int → Int → Int → Option V_impl_ascends
  | 0, _, _, _, _, _ => none
  | n + 1, a0, a1, a2, a3, a4 => impl_ascends_step2 (impl_ascends_L2 n) a0 a1 a2 a3 a4
def impl_ascends_entry (R2 : List Int → Int → List Int → Int → Int → Option V_impl_ascends) (p0 : List Int) (p1 : Int) : Option V_impl_ascends :=
  R2 p0 p1 p0 (p0.length : Int) 0
def impl_ascends (p0 : List Int) (p1 : Int) : Option V_impl_ascends := impl_ascends_entry (impl_ascends_L2 FUEL) p0 p1

/-- impl.NodesOk -/
abbrev V_impl_NodesOk : Type := (Bool × Unit) × Unit
def impl_NodesOk (p0 : List Int × Int × Unit) (p1 : List Int) : Option V_impl_NodesOk :=
  (impl_ConfigOk (p0.1, p0.2.1, ())).bind fun u1 =>
  cond (u1.1.1)
    ((impl_ascends p1 (w64 ((p0.1.length : Int) - 1))).bind fun u3 =>
    some ((u3.1.1, ()), ()))
  (some ((false, ()), ()))

/-- slices.Index[[]int,int] -/
abbrev V_slices_Index_int_int : Type := (Int × Unit) × Unit
def slices_Index_int_int_step2 (R2 : List Int → Int → Int → Int → Option V_slices_Index_int_int) (t0 : List Int) (t1 : Int) (t7 : Int) (t8 : Int) : Option V_slices_Index_int_int :=
  cond (decide (t8 < t7))
    (if (0 : Int) ≤ t8 ∧ t8 < (t0.length : Int) then (
    cond (t1 == (t0.getD (t8.toNat) 0))
      (some ((t8, ()), ()))
    (R2 t0 t1 t7 (w64 (t8 + 1)))) else none)
  (some (((-1), ()), ()))
def slices_Index_int_int_L2 : Nat → List Int → Int → Int → Int → Option V_slices_Index_int_int
  | 0, _, _, _, _ => none
  | n + 1, a0, a1, a2, a3 => slices_Index_int_int_step2 (slices_Index_int_int_L2 n) a0 a1 a2 a3
def slices_Index_int_int_entry (R2 : List Int → Int → Int → Int → Option V_slices_Index_int_int) (p0 : List Int) (p1 : Int) : Option V_slices_Index_int_int :=
  R2 p0 p1 (p0.length : Int) 0
def slices_Index_int_int (p0 : List Int) (p1 : Int) : Option V_slices_Index_int_int := slices_Index_int_int_entry (slices_Index_int_int_L2 FUEL) p0 p1

/-- slices.Contains[[]int,int] -/
abbrev V_slices_Contains_int_int : Type := (Bool × Unit) × Unit
def slices_Contains_int_int (p0 : List Int) (p1 : Int) : Option V_slices_Contains_int_int :=
  (slices_Index_int_int p0 p1).bind fun u1 =>
  some ((decide (u1.1.1 ≥ 0), ()), ())

/-- impl.SpanOf -/
abbrev V_impl_SpanOf : Type := (Int × Unit) × Unit
def impl_SpanOf_step5 (R5 : List Int → Int → Int → List Int → Int → List Int → Option V_impl_SpanOf) (t13 : List Int) (t14 : Int) (t15 : Int) (b0_0 : List Int) (b0_1 : Int) (b1 : List Int) : Option V_impl_SpanOf :=
  cond (decide (t15 < t14))
    (if (0 : Int) ≤ t15 ∧ t15 < (t13.length : Int) then (
    let x2 : Int := (t13.getD (t15.toNat) 0)
    if (0 : Int) ≤ x2 ∧ x2 < (b0_0.length : Int) then (
    (slices_Contains_int_int b1 (b0_0.getD (x2.toNat) 0)).bind fun u4 =>
    cond (!u4.1.1)
      (if (0 : Int) ≤ x2 ∧ x2 < (b0_0.length : Int) then (
      if b1.length + 1 ≤ LIM then (
      R5 t13 t14 (w64 (t15 + 1)) b0_0 b0_1 (b1 ++ [(b0_0.getD (x2.toNat) 0)])) else none) else none)
    (R5 t13 t14 (w64 (t15 + 1)) b0_0 b0_1 b1)) else none) else none)
  (some (((b1.length : Int), ()), ()))
def impl_SpanOf_L5 : Nat → List Int → Int → Int → List Int → Int → List Int → Option V_impl_SpanOf
  | 0, _, _, _, _, _, _ => none
  | n + 1, a0, a1, a2, a3, a4, a5 => impl_SpanOf_step5 (impl_SpanOf_L5 n) a0 a1 a2 a3 a4 a5
def impl_SpanOf_entry (R5 : List Int → Int → Int → List Int → Int → List Int → Option V_impl_SpanOf) (p0 : List Int × Int × Unit) (p1 : List Int) : Option V_impl_SpanOf :=
  (impl_NodesOk (p0.1, p0.2.1, ()) p1).bind fun u1 =>
  cond (!u1.1.1)
    (some (((-1), ()), ()))
  (R5 p1 (p1.length : Int) 0 p0.1 p0.2.1 [])
def impl_SpanOf (p0 : List Int × Int × Unit) (p1 : List Int) : Option V_impl_SpanOf := impl_SpanOf_entry (impl_SpanOf_L5 FUEL) p0 p1

/-- impl.Holds -/
abbrev V_impl_Holds : Type := (Bool × Unit) × Unit
def impl_Holds (p0 : List Int × Int × Unit) (p1 : List Int) : Option V_impl_Holds :=
  (impl_NodesOk (p0.1, p0.2.1, ()) p1).bind fun u1 =>
  cond (u1.1.1)
    ((impl_SpanOf (p0.1, p0.2.1, ()) p1).bind fun u2 =>
    some (((decide (u2.1.1 ≥ p0.2.1)), ()), ()))
  (some ((false, ()), ()))

/-- impl.flagNum -/
abbrev V_impl_flagNum : Type := (Int × Unit) × Unit
def impl_flagNum (p0 : Bool) : Option V_impl_flagNum :=
  cond (p0)
    (some ((1, ()), ()))
  (some ((0, ()), ()))

/-- impl.isEpoch -/
abbrev V_impl_isEpoch : Type := (Bool × Unit) × Unit
def impl_isEpoch (p0 : Int) : Option V_impl_isEpoch :=
  (impl_within p0 1 30).bind fun u1 =>
  some ((u1.1.1, ()), ())

/-- impl.WriterOk -/
abbrev V_impl_WriterOk : Type := (Bool × Unit) × Unit
def impl_WriterOk_step3 (R3 : Int → (List (List UInt8 × List Int × Bool × Unit)) → Int → Int → List Int → Int → Int → (List (List UInt8 × List Int × Bool × Unit)) → Option V_impl_WriterOk) (t5 : Int) (t9 : List (List UInt8 × List Int × Bool × Unit)) (t10 : Int) (t11 : Int) (b0_0 : List Int) (b0_1 : Int) (b1_0 : Int) (b1_1 : List (List UInt8 × List Int × Bool × Unit)) : Option V_impl_WriterOk :=
  cond (decide (t11 < t10))
    (if (0 : Int) ≤ t11 ∧ t11 < (t9.length : Int) then (
    (impl_dataOk ((t9.getD (t11.toNat) ([], [], false, ())).1)).bind fun u3 =>
    cond (!u3.1.1)
      (some ((false, ()), ()))
    ((impl_NodesOk (b0_0, b0_1, ()) ((t9.getD (t11.toNat) ([], [], false, ())).2.1)).bind fun u4 =>
    cond (!u4.1.1)
      (some ((false, ()), ()))
    ((impl_Holds (b0_0, b0_1, ()) ((t9.getD (t11.toNat) ([], [], false, ())).2.1)).bind fun u6 =>
    cond (((t9.getD (t11.toNat) ([], [], false, ())).2.2.1) != u6.1.1)
      (some ((false, ()), ()))
    ((impl_flagNum (!((t9.getD (t11.toNat) ([], [], false, ())).2.2.1))).bind fun u8 =>
    R3 (w64 (t5 + u8.1.1)) t9 t10 (w64 (t11 + 1)) b0_0 b0_1 b1_0 b1_1)))) else none)
  ((impl_ConfigOk (b0_0, b0_1, ())).bind fun u9 =>
  cond (u9.1.1)
    ((impl_isEpoch b1_0).bind fun u10 =>
    cond (u10.1.1)
      (cond ((decide ((b1_1.length : Int) ≤ 60)))
        (some ((decide (t5 ≤ 6), ()), ()))
      (some ((false, ()), ())))
    (some ((false, ()), ())))
  (some ((false, ()), ())))
def impl_WriterOk_L3 : Nat → Int → (List (List UInt8 × List Int × Bool × Unit)) → Int → Int → List Int → Int → Int → (List (List UInt8 × List Int × Bool × Unit)) → Option V_impl_WriterOk
  | 0, _, _, _, _, _, _, _, _ => none
  | n + 1, a0, a1, a2, a3, a4, a5, a6, a7 => impl_WriterOk_step3 (impl_WriterOk_L3 n) a0 a1 a2 a3 a4 a5 a6 a7
def impl_WriterOk_entry (R3 : Int → (List (List UInt8 × List Int × Bool × Unit)) → Int → Int → List Int → Int → Int → (List (List UInt8 × List Int × Bool × Unit)) → Option V_impl_WriterOk) (p0 : List Int × Int × Unit) (p1 : Int × List (List UInt8 × List Int × Bool × Unit) × Unit) : Option V_impl_WriterOk :=
  R3 0 p1.2.1 (p1.2.1.length : Int) 0 p0.1 p0.2.1 p1.1 p1.2.1
def impl_WriterOk (p0 : List Int × Int × Unit) (p1 : Int × List (List UInt8 × List Int × Bool × Unit) × Unit) : Option V_impl_WriterOk := impl_WriterOk_entry (impl_WriterOk_L3 FUEL) p0 p1

/-- laws.eqWord -/
abbrev V_laws_eqWord : Type := (Bool × Unit) × Unit
def laws_eqWord (p0 : List UInt8 × List Int × Bool × Unit) (p1 : List UInt8 × List Int × Bool × Unit) : Option V_laws_eqWord :=
  cond (!(p0.1 == p1.1))
    (some ((false, ()), ()))
  ((laws_eqIntS p0.2.1 p1.2.1).bind fun u1 =>
  cond (!u1.1.1)
    (some ((false, ()), ()))
  (cond (p0.2.2.1 != p1.2.2.1)
    (some ((false, ()), ()))
  (some ((true, ()), ()))))

/-- laws.eqWordS -/
abbrev V_laws_eqWordS : Type := (Bool × Unit) × Unit
def laws_eqWordS_step4 (R4 : (List (List UInt8 × List Int × Bool × Unit)) → (List (List UInt8 × List Int × Bool × Unit)) → Int → Option V_laws_eqWordS) (t0 : List (List UInt8 × List Int × Bool × Unit)) (t1 : List (List UInt8 × List Int × Bool × Unit)) (t5 : Int) : Option V_laws_eqWordS :=
  cond ((decide (t5 < (t0.length : Int))))
    (if (0 : Int) ≤ t5 ∧ t5 < (t0.length : Int) then (
    if (0 : Int) ≤ t5 ∧ t5 < (t1.length : Int) then (
    (laws_eqWord ((t0.getD (t5.toNat) ([], [], false, ())).1, (t0.getD (t5.toNat) ([], [], false, ())).2.1, (t0.getD (t5.toNat) ([], [], false, ())).2.2.1, ()) ((t1.getD (t5.toNat) ([], [], false, ())).1, (t1.getD (t5.toNat) ([], [], false, ())).2.1, (t1.getD (t5.toNat) ([], [], false, ())).2.2.1, ())).bind fun u3 =>
    cond (!u3.1.1)
      (some ((false, ()), ()))
    (R4 t0 t1 (w64 (t5 + 1)))) else none) else none)
  (some ((true, ()), ()))
def laws_eqWordS_L4 : Nat → (List (List UInt8 × List Int × Bool × Unit)) → (List (List UInt8 × List Int × Bool × Unit)) → Int → Option V_laws_eqWordS
  | 0, _, _, _ => none
  | n + 1, a0, a1, a2 => laws_eqWordS_step4 (laws_eqWordS_L4 n) a0 a1 a2
def laws_eqWordS_entry (R4 : (List (List UInt8 × List Int × Bool × Unit)) → (List (List UInt8 × List Int × Bool × Unit)) → Int → Option V_laws_eqWordS) (p0 : List (List UInt8 × List Int × Bool × Unit)) (p1 : List (List UInt8 × List Int × Bool × Unit)) : Option V_laws_eqWordS :=
  cond (((p0.length : Int) != (p1.length : Int)))
    (some ((false, ()), ()))
  (R4 p0 p1 0)
def laws_eqWordS (p0 : List (List UInt8 × List Int × Bool × Unit)) (p1 : List (List UInt8 × List Int × Bool × Unit)) : Option V_laws_eqWordS := laws_eqWordS_entry (laws_eqWordS_L4 FUEL) p0 p1

/-- laws.eqWriter -/
abbrev V_laws_eqWriter : Type := (Bool × Unit) × Unit
def laws_eqWriter (p0 : Int × List (List UInt8 × List Int × Bool × Unit) × Unit) (p1 : Int × List (List UInt8 × List Int × Bool × Unit) × Unit) : Option V_laws_eqWriter :=
  cond (p0.1 != p1.1)
    (some ((false, ()), ()))
  ((laws_eqWordS p0.2.1 p1.2.1).bind fun u1 =>
  cond (!u1.1.1)
    (some ((false, ()), ()))
  (some ((true, ()), ())))

/-- laws.szEra -/
abbrev V_laws_szEra : Type := (Int × Unit) × Unit
def laws_szEra (p0 : List Int × Bool × Int × Unit) (p1 : Int) : Option V_laws_szEra :=
  (laws_szIntS p0.1 p1).bind fun u1 =>
  cond (decide (u1.1.1 < 0))
    (some (((-1), ()), ()))
  (some ((u1.1.1, ()), ()))

/-- laws.szEraS -/
abbrev V_laws_szEraS : Type := (Int × Unit) × Unit
def laws_szEraS_step5 (R5 : (List (List Int × Bool × Int × Unit)) → Int → Int → Option V_laws_szEraS) (t0 : List (List Int × Bool × Int × Unit)) (t1 : Int) (t5 : Int) : Option V_laws_szEraS :=
  cond ((decide (t5 < (t0.length : Int))))
    (if (0 : Int) ≤ t5 ∧ t5 < (t0.length : Int) then (
    (laws_szEra ((t0.getD (t5.toNat) ([], false, 0, ())).1, (t0.getD (t5.toNat) ([], false, 0, ())).2.1, (t0.getD (t5.toNat) ([], false, 0, ())).2.2.1, ()) t1).bind fun u3 =>
    cond (decide (u3.1.1 < 0))
      (some (((-1), ()), ()))
    (R5 t0 u3.1.1 (w64 (t5 + 1)))) else none)
  (some ((t1, ()), ()))
def laws_szEraS_L5 : Nat → (List (List Int × Bool × Int × Unit)) → Int → Int → Option V_laws_szEraS
  | 0, _, _, _ => none
  | n + 1, a0, a1, a2 => laws_szEraS_step5 (laws_szEraS_L5 n) a0 a1 a2
def laws_szEraS_entry (R5 : (List (List Int × Bool × Int × Unit)) → Int → Int → Option V_laws_szEraS) (p0 : List (List Int × Bool × Int × Unit)) (p1 : Int) : Option V_laws_szEraS :=
  let x1 : Int := w64 (p1 - (p0.length : Int))
  cond (decide (x1 < 0))
    (some (((-1), ()), ()))
  (R5 p0 x1 0)
def laws_szEraS (p0 : List (List Int × Bool × Int × Unit)) (p1 : Int) : Option V_laws_szEraS := laws_szEraS_entry (laws_szEraS_L5 FUEL) p0 p1

/-- laws.szRegister -/
abbrev V_laws_szRegister : Type := (Int × Unit) × Unit
def laws_szRegister (p0 : List (List Int × Bool × Int × Unit) × Int × Unit) (p1 : Int) : Option V_laws_szRegister :=
  (laws_szEraS p0.1 p1).bind fun u1 =>
  cond (decide (u1.1.1 < 0))
    (some (((-1), ()), ()))
  (some ((u1.1.1, ()), ()))

/-- laws.toEra -/
abbrev V_laws_toEra : Type := ((Unit × Bool × Int × Unit) × Unit) × (List Int × Unit)
def laws_toEra (p0 : List Int × Bool × Int × Unit) : Option V_laws_toEra :=
  (laws_toIntS p0.1).bind fun u1 =>
  some ((((), p0.2.1, p0.2.2.1, ()), ()), (u1.2.1, ()))

/-- laws.toEraS -/
abbrev V_laws_toEraS : Type := (Unit × Unit) × ((List (List Int × Bool × Int × Unit)) × Unit)
def laws_toEraS_step3 (R3 : (List (List Int × Bool × Int × Unit)) → Int → (List (List Int × Bool × Int × Unit)) → Option V_laws_toEraS) (t0 : List (List Int × Bool × Int × Unit)) (t4 : Int) (b0 : List (List Int × Bool × Int × Unit)) : Option V_laws_toEraS :=
  cond ((decide (t4 < (t0.length : Int))))
    (if (0 : Int) ≤ t4 ∧ t4 < (t0.length : Int) then (
    (laws_toEra ((t0.getD (t4.toNat) ([], false, 0, ())).1, (t0.getD (t4.toNat) ([], false, 0, ())).2.1, (t0.getD (t4.toNat) ([], false, 0, ())).2.2.1, ())).bind fun u3 =>
    if (0 : Int) ≤ t4 ∧ t4 < (b0.length : Int) then (
    R3 t0 (w64 (t4 + 1)) (b0.set (t4.toNat) (u3.2.1, u3.1.1.2.1, u3.1.1.2.2.1, ()))) else none) else none)
  (some (((), ()), (b0, ())))
def laws_toEraS_L3 : Nat → (List (List Int × Bool × Int × Unit)) → Int → (List (List Int × Bool × Int × Unit)) → Option V_laws_toEraS
  | 0, _, _, _ => none
  | n + 1, a0, a1, a2 => laws_toEraS_step3 (laws_toEraS_L3 n) a0 a1 a2
def laws_toEraS_entry (R3 : (List (List Int × Bool × Int × Unit)) → Int → (List (List Int × Bool × Int × Unit)) → Option V_laws_toEraS) (p0 : List (List Int × Bool × Int × Unit)) : Option V_laws_toEraS :=
  if (0 : Int) ≤ (p0.length : Int) ∧ (p0.length : Int) ≤ (p0.length : Int) ∧ (p0.length : Int) ≤ (LIM : Int) then (
  R3 p0 0 (List.replicate ((p0.length : Int).toNat) ([], false, 0, ()))) else none
def laws_toEraS (p0 : List (List Int × Bool × Int × Unit)) : Option V_laws_toEraS := laws_toEraS_entry (laws_toEraS_L3 FUEL) p0

/-- laws.toRegister -/
abbrev V_laws_toRegister : Type := ((Unit × Int × Unit) × Unit) × ((List (List Int × Bool × Int × Unit)) × Unit)
def laws_toRegister (p0 : List (List Int × Bool × Int × Unit) × Int × Unit) : Option V_laws_toRegister :=
  (laws_toEraS p0.1).bind fun u1 =>
  some ((((), p0.2.1, ()), ()), (u1.2.1, ()))

/-- spec.PlaceOk -/
abbrev V_spec_PlaceOk : Type := (Bool × Unit) × Unit
def spec_PlaceOk (p0 : Int) : Option V_spec_PlaceOk :=
  cond (decide (p0 > 0))
    ((spec_l1In (w64 (p0.tdiv 4294967296)) 1 30).bind fun u2 =>
    cond (u2.1.1)
      ((spec_l1In (p0.tmod 4294967296) 1 60).bind fun u3 =>
      some ((u3.1.1, ()), ()))
    (some ((false, ()), ())))
  (some ((false, ()), ()))

/-- spec.EpochOf -/
abbrev V_spec_EpochOf : Type := (Int × Unit) × Unit
def spec_EpochOf (p0 : Int) : Option V_spec_EpochOf :=
  (spec_PlaceOk p0).bind fun u1 =>
  cond (!u1.1.1)
    (some ((0, ()), ()))
  (some (((w64 (p0.tdiv 4294967296)), ()), ()))

/-- spec.RegOk -/
abbrev V_spec_RegOk : Type := (Bool × Unit) × Unit
def spec_RegOk_step5 (R5 : Int → Int → List Int → Int → (List (List Int × Bool × Int × Unit)) → Int → Option V_spec_RegOk) (t5 : Int) (t6 : Int) (b0_0 : List Int) (b0_1 : Int) (b1_0 : List (List Int × Bool × Int × Unit)) (b1_1 : Int) : Option V_spec_RegOk :=
  cond (decide (t6 < t5))
    (if (0 : Int) ≤ t6 ∧ t6 < (b1_0.length : Int) then (
    (spec_Holds (b0_0, b0_1, ()) ((b1_0.getD (t6.toNat) ([], false, 0, ())).1)).bind fun u6 =>
    cond (!u6.1.1)
      (some ((false, ()), ()))
    ((spec_l1In ((b1_0.getD (t6.toNat) ([], false, 0, ())).2.2.1) 0 60).bind fun u8 =>
    cond (!u8.1.1)
      (some ((false, ()), ()))
    (cond (!((b1_0.getD (t6.toNat) ([], false, 0, ())).2.1))
      (cond (((b1_0.getD (t6.toNat) ([], false, 0, ())).2.2.1) != 0)
        (some ((false, ()), ()))
      (cond (((b1_0.getD (t6.toNat) ([], false, 0, ())).2.1))
        (cond (t6 == (w64 (t5 - 1)))
          (some ((false, ()), ()))
        (cond (decide (t6 > 0))
          (if (0 : Int) ≤ w64 (t6 - 1) ∧ w64 (t6 - 1) < (b1_0.length : Int) then (
          cond (!((b1_0.getD ((w64 (t6 - 1)).toNat) ([], false, 0, ())).2.1))
            (some ((false, ()), ()))
          (R5 t5 (w64 (t6 + 1)) b0_0 b0_1 b1_0 b1_1)) else none)
        (R5 t5 (w64 (t6 + 1)) b0_0 b0_1 b1_0 b1_1)))
      (R5 t5 (w64 (t6 + 1)) b0_0 b0_1 b1_0 b1_1)))
    (cond (((b1_0.getD (t6.toNat) ([], false, 0, ())).2.1))
      (cond (t6 == (w64 (t5 - 1)))
        (some ((false, ()), ()))
      (cond (decide (t6 > 0))
        (if (0 : Int) ≤ w64 (t6 - 1) ∧ w64 (t6 - 1) < (b1_0.length : Int) then (
        cond (!((b1_0.getD ((w64 (t6 - 1)).toNat) ([], false, 0, ())).2.1))
          (some ((false, ()), ()))
        (R5 t5 (w64 (t6 + 1)) b0_0 b0_1 b1_0 b1_1)) else none)
      (R5 t5 (w64 (t6 + 1)) b0_0 b0_1 b1_0 b1_1)))
    (R5 t5 (w64 (t6 + 1)) b0_0 b0_1 b1_0 b1_1))))) else none)
  (some ((true, ()), ()))
def spec_RegOk_L5 : Nat → Int → Int → List Int → Int → (List (List Int × Bool × Int × Unit)) → Int → Option V_spec_RegOk
  | 0, _, _, _, _, _, _ => none
  | n + 1, a0, a1, a2, a3, a4, a5 => spec_RegOk_step5 (spec_RegOk_L5 n) a0 a1 a2 a3 a4 a5
def spec_RegOk_entry (R5 : Int → Int → List Int → Int → (List (List Int × Bool × Int × Unit)) → Int → Option V_spec_RegOk) (p0 : List Int × Int × Unit) (p1 : List (List Int × Bool × Int × Unit) × Int × Unit) : Option V_spec_RegOk :=
  (spec_ConfigOk (p0.1, p0.2.1, ())).bind fun u1 =>
  cond (!u1.1.1)
    (some ((false, ()), ()))
  (cond ((decide ((p1.1.length : Int) > 30)))
    (some ((false, ()), ()))
  (cond (p1.2.1 != 0)
    ((spec_PlaceOk p1.2.1).bind fun u3 =>
    cond (!u3.1.1)
      (some ((false, ()), ()))
    ((spec_EpochOf p1.2.1).bind fun u4 =>
    cond ((decide (u4.1.1 > (p1.1.length : Int))))
      (some ((false, ()), ()))
    (R5 (p1.1.length : Int) 0 p0.1 p0.2.1 p1.1 p1.2.1)))
  (R5 (p1.1.length : Int) 0 p0.1 p0.2.1 p1.1 p1.2.1)))
def spec_RegOk (p0 : List Int × Int × Unit) (p1 : List (List Int × Bool × Int × Unit) × Int × Unit) : Option V_spec_RegOk := spec_RegOk_entry (spec_RegOk_L5 FUEL) p0 p1

/-- impl.eraOk -/
abbrev V_impl_eraOk : Type := (Bool × Unit) × Unit
def impl_eraOk (p0 : List Int × Int × Unit) (p1 : List Int × Bool × Int × Unit) : Option V_impl_eraOk :=
  (impl_Holds (p0.1, p0.2.1, ()) p1.1).bind fun u1 =>
  cond (u1.1.1)
    ((impl_within p1.2.2.1 0 60).bind fun u2 =>
    cond (u2.1.1)
      (cond (p1.2.1)
        (some ((true, ()), ()))
      (some ((p1.2.2.1 == 0, ()), ())))
    (some ((false, ()), ())))
  (some ((false, ()), ()))

/-- impl.isOff -/
abbrev V_impl_isOff : Type := (Bool × Unit) × Unit
def impl_isOff (p0 : Int) : Option V_impl_isOff :=
  (impl_within p0 1 60).bind fun u1 =>
  some ((u1.1.1, ()), ())

/-- impl.PlaceOk -/
abbrev V_impl_PlaceOk : Type := (Bool × Unit) × Unit
def impl_PlaceOk (p0 : Int) : Option V_impl_PlaceOk :=
  (impl_isEpoch (w64 (p0.tdiv 4294967296))).bind fun u2 =>
  cond (u2.1.1)
    ((impl_isOff (p0.tmod 4294967296)).bind fun u3 =>
    some ((u3.1.1, ()), ()))
  (some ((false, ()), ()))

/-- impl.EpochOf -/
abbrev V_impl_EpochOf : Type := (Int × Unit) × Unit
def impl_EpochOf (p0 : Int) : Option V_impl_EpochOf :=
  (impl_PlaceOk p0).bind fun u1 =>
  cond (!u1.1.1)
    (some ((0, ()), ()))
  (some (((w64 (p0.tdiv 4294967296)), ()), ()))

/-- impl.RegOk -/
abbrev V_impl_RegOk : Type := (Bool × Unit) × Unit
def impl_RegOk_step2 (R2 : (List (List Int × Bool × Int × Unit)) → Int → Int → List Int → Int → (List (List Int × Bool × Int × Unit)) → Int → Option V_impl_RegOk) (t9 : List (List Int × Bool × Int × Unit)) (t10 : Int) (t11 : Int) (b0_0 : List Int) (b0_1 : Int) (b1_0 : List (List Int × Bool × Int × Unit)) (b1_1 : Int) : Option V_impl_RegOk :=
  cond (decide (t11 < t10))
    (if (0 : Int) ≤ t11 ∧ t11 < (t9.length : Int) then (
    (impl_eraOk (b0_0, b0_1, ()) ((t9.getD (t11.toNat) ([], false, 0, ())).1, (t9.getD (t11.toNat) ([], false, 0, ())).2.1, (t9.getD (t11.toNat) ([], false, 0, ())).2.2.1, ())).bind fun u1 =>
    cond (!u1.1.1)
      (some ((false, ()), ()))
    (cond (((t9.getD (t11.toNat) ([], false, 0, ())).2.1))
      (cond (t11 == (w64 ((b1_0.length : Int) - 1)))
        (some ((false, ()), ()))
      (cond (decide (t11 > 0))
        (if (0 : Int) ≤ w64 (t11 - 1) ∧ w64 (t11 - 1) < (b1_0.length : Int) then (
        cond (!((b1_0.getD ((w64 (t11 - 1)).toNat) ([], false, 0, ())).2.1))
          (some ((false, ()), ()))
        (R2 t9 t10 (w64 (t11 + 1)) b0_0 b0_1 b1_0 b1_1)) else none)
      (R2 t9 t10 (w64 (t11 + 1)) b0_0 b0_1 b1_0 b1_1)))
    (R2 t9 t10 (w64 (t11 + 1)) b0_0 b0_1 b1_0 b1_1))) else none)
  (cond (b1_1 == 0)
    ((impl_ConfigOk (b0_0, b0_1, ())).bind fun u5 =>
    cond (u5.1.1)
      (cond ((decide ((b1_0.length : Int) ≤ 30)))
        (some ((true, ()), ()))
      (some ((false, ()), ())))
    (some ((false, ()), ())))
  ((impl_EpochOf b1_1).bind fun u7 =>
  (impl_within u7.1.1 1 (b1_0.length : Int)).bind fun u8 =>
  (impl_ConfigOk (b0_0, b0_1, ())).bind fun u9 =>
  cond (u9.1.1)
    (cond ((decide ((b1_0.length : Int) ≤ 30)))
      (some ((u8.1.1, ()), ()))
    (some ((false, ()), ())))
  (some ((false, ()), ()))))
def impl_RegOk_L2 : Nat → (List (List Int × Bool × Int × Unit)) → Int → Int → List Int → Int → (List (List Int × Bool × Int × Unit)) → Int → Option V_impl_RegOk
  | 0, _, _, _, _, _, _, _ => none
  | n + 1, a0, a1, a2, a3, a4, a5, a6 => impl_RegOk_step2 (impl_RegOk_L2 n) a0 a1 a2 a3 a4 a5 a6
def impl_RegOk_entry (R2 : (List (List Int × Bool × Int × Unit)) → Int → Int → List Int → Int → (List (List Int × Bool × Int × Unit)) → Int → Option V_impl_RegOk) (p0 : List Int × Int × Unit) (p1 : List (List Int × Bool × Int × Unit) × Int × Unit) : Option V_impl_RegOk :=
  R2 p1.1 (p1.1.length : Int) 0 p0.1 p0.2.1 p1.1 p1.2.1
def impl_RegOk (p0 : List Int × Int × Unit) (p1 : List (List Int × Bool × Int × Unit) × Int × Unit) : Option V_impl_RegOk := impl_RegOk_entry (impl_RegOk_L2 FUEL) p0 p1

/-- laws.eqEra -/
abbrev V_laws_eqEra : Type := (Bool × Unit) × Unit
def laws_eqEra (p0 : List Int × Bool × Int × Unit) (p1 : List Int × Bool × Int × Unit) : Option V_laws_eqEra :=
  (laws_eqIntS p0.1 p1.1).bind fun u1 =>
  cond (!u1.1.1)
    (some ((false, ()), ()))
  (cond (p0.2.1 != p1.2.1)
    (some ((false, ()), ()))
  (cond (p0.2.2.1 != p1.2.2.1)
    (some ((false, ()), ()))
  (some ((true, ()), ()))))

/-- laws.eqEraS -/
abbrev V_laws_eqEraS : Type := (Bool × Unit) × Unit
def laws_eqEraS_step4 (R4 : (List (List Int × Bool × Int × Unit)) → (List (List Int × Bool × Int × Unit)) → Int → Option V_laws_eqEraS) (t0 : List (List Int × Bool × Int × Unit)) (t1 : List (List Int × Bool × Int × Unit)) (t5 : Int) : Option V_laws_eqEraS :=
  cond ((decide (t5 < (t0.length : Int))))
    (if (0 : Int) ≤ t5 ∧ t5 < (t0.length : Int) then (
    if (0 : Int) ≤ t5 ∧ t5 < (t1.length : Int) then (
    (laws_eqEra ((t0.getD (t5.toNat) ([], false, 0, ())).1, (t0.getD (t5.toNat) ([], false, 0, ())).2.1, (t0.getD (t5.toNat) ([], false, 0, ())).2.2.1, ()) ((t1.getD (t5.toNat) ([], false, 0, ())).1, (t1.getD (t5.toNat) ([], false, 0, ())).2.1, (t1.getD (t5.toNat) ([], false, 0, ())).2.2.1, ())).bind fun u3 =>
    cond (!u3.1.1)
      (some ((false, ()), ()))
    (R4 t0 t1 (w64 (t5 + 1)))) else none) else none)
  (some ((true, ()), ()))
def laws_eqEraS_L4 : Nat → (List (List Int × Bool × Int × Unit)) → (List (List Int × Bool × Int × Unit)) → Int → Option V_laws_eqEraS
  | 0, _, _, _ => none
  | n + 1, a0, a1, a2 => laws_eqEraS_step4 (laws_eqEraS_L4 n) a0 a1 a2
def laws_eqEraS_entry (R4 : (List (List Int × Bool × Int × Unit)) → (List (List Int × Bool × Int × Unit)) → Int → Option V_laws_eqEraS) (p0 : List (List Int × Bool × Int × Unit)) (p1 : List (List Int × Bool × Int × Unit)) : Option V_laws_eqEraS :=
  cond (((p0.length : Int) != (p1.length : Int)))
    (some ((false, ()), ()))
  (R4 p0 p1 0)
def laws_eqEraS (p0 : List (List Int × Bool × Int × Unit)) (p1 : List (List Int × Bool × Int × Unit)) : Option V_laws_eqEraS := laws_eqEraS_entry (laws_eqEraS_L4 FUEL) p0 p1

/-- laws.eqRegister -/
abbrev V_laws_eqRegister : Type := (Bool × Unit) × Unit
def laws_eqRegister (p0 : List (List Int × Bool × Int × Unit) × Int × Unit) (p1 : List (List Int × Bool × Int × Unit) × Int × Unit) : Option V_laws_eqRegister :=
  (laws_eqEraS p0.1 p1.1).bind fun u1 =>
  cond (!u1.1.1)
    (some ((false, ()), ()))
  (cond (p0.2.1 != p1.2.1)
    (some ((false, ()), ()))
  (some ((true, ()), ())))

/-- laws.szEntry -/
abbrev V_laws_szEntry : Type := (Int × Unit) × Unit
def laws_szEntry (p0 : Int × Int × Bool × List UInt8 × Unit) (p1 : Int) : Option V_laws_szEntry :=
  let x1 : Int := (p0.2.2.2.1.length : Int)
  cond ((decide ((w64 (p1 - x1)) < 0)))
    (some (((-1), ()), ()))
  (some ((w64 (p1 - x1), ()), ()))

/-- laws.szEntryS -/
abbrev V_laws_szEntryS : Type := (Int × Unit) × Unit
def laws_szEntryS_step5 (R5 : (List (Int × Int × Bool × List UInt8 × Unit)) → Int → Int → Option V_laws_szEntryS) (t0 : List (Int × Int × Bool × List UInt8 × Unit)) (t1 : Int) (t5 : Int) : Option V_laws_szEntryS :=
  cond ((decide (t5 < (t0.length : Int))))
    (if (0 : Int) ≤ t5 ∧ t5 < (t0.length : Int) then (
    (laws_szEntry ((t0.getD (t5.toNat) (0, 0, false, [], ())).1, (t0.getD (t5.toNat) (0, 0, false, [], ())).2.1, (t0.getD (t5.toNat) (0, 0, false, [], ())).2.2.1, (t0.getD (t5.toNat) (0, 0, false, [], ())).2.2.2.1, ()) t1).bind fun u3 =>
    cond (decide (u3.1.1 < 0))
      (some (((-1), ()), ()))
    (R5 t0 u3.1.1 (w64 (t5 + 1)))) else none)
  (some ((t1, ()), ()))
def laws_szEntryS_L5 : Nat → (List (Int × Int × Bool × List UInt8 × Unit)) → Int → Int → Option V_laws_szEntryS
  | 0, _, _, _ => none
  | n + 1, a0, a1, a2 => laws_szEntryS_step5 (laws_szEntryS_L5 n) a0 a1 a2
def laws_szEntryS_entry (R5 : (List (Int × Int × Bool × List UInt8 × Unit)) → Int → Int → Option V_laws_szEntryS) (p0 : List (Int × Int × Bool × List UInt8 × Unit)) (p1 : Int) : Option V_laws_szEntryS :=
  let x1 : Int := w64 (p1 - (p0.length : Int))
  cond (decide (x1 < 0))
    (some (((-1), ()), ()))
  (R5 p0 x1 0)
def laws_szEntryS (p0 : List (Int × Int × Bool × List UInt8 × Unit)) (p1 : Int) : Option V_laws_szEntryS := laws_szEntryS_entry (laws_szEntryS_L5 FUEL) p0 p1

/-- laws.szStore -/
abbrev V_laws_szStore : Type := (Int × Unit) × Unit
def laws_szStore (p0 : List (Int × Int × Bool × List UInt8 × Unit) × List (Int × Int × Bool × List UInt8 × Unit) × Int × Unit) (p1 : Int) : Option V_laws_szStore :=
  (laws_szEntryS p0.1 p1).bind fun u1 =>
  cond (decide (u1.1.1 < 0))
    (some (((-1), ()), ()))
  ((laws_szEntryS p0.2.1 u1.1.1).bind fun u2 =>
  cond (decide (u2.1.1 < 0))
    (some (((-1), ()), ()))
  (some ((u2.1.1, ()), ())))

/-- laws.szStoreS -/
abbrev V_laws_szStoreS : Type := (Int × Unit) × Unit
def laws_szStoreS_step5 (R5 : (List (List (Int × Int × Bool × List UInt8 × Unit) × List (Int × Int × Bool × List UInt8 × Unit) × Int × Unit)) → Int → Int → Option V_laws_szStoreS) (t0 : List (List (Int × Int × Bool × List UInt8 × Unit) × List (Int × Int × Bool × List UInt8 × Unit) × Int × Unit)) (t1 : Int) (t5 : Int) : Option V_laws_szStoreS :=
  cond ((decide (t5 < (t0.length : Int))))
    (if (0 : Int) ≤ t5 ∧ t5 < (t0.length : Int) then (
    (laws_szStore ((t0.getD (t5.toNat) ([], [], 0, ())).1, (t0.getD (t5.toNat) ([], [], 0, ())).2.1, (t0.getD (t5.toNat) ([], [], 0, ())).2.2.1, ()) t1).bind fun u3 =>
    cond (decide (u3.1.1 < 0))
      (some (((-1), ()), ()))
    (R5 t0 u3.1.1 (w64 (t5 + 1)))) else none)
  (some ((t1, ()), ()))
def laws_szStoreS_L5 : Nat → (List (List (Int × Int × Bool × List UInt8 × Unit) × List (Int × Int × Bool × List UInt8 × Unit) × Int × Unit)) → Int → Int → Option V_laws_szStoreS
  | 0, _, _, _ => none
  | n + 1, a0, a1, a2 => laws_szStoreS_step5 (laws_szStoreS_L5 n) a0 a1 a2
def laws_szStoreS_entry (R5 : (List (List (Int × Int × Bool × List UInt8 × Unit) × List (Int × Int × Bool × List UInt8 × Unit) × Int × Unit)) → Int → Int → Option V_laws_szStoreS) (p0 : List (List (Int × Int × Bool × List UInt8 × Unit) × List (Int × Int × Bool × List UInt8 × Unit) × Int × Unit)) (p1 : Int) : Option V_laws_szStoreS :=
  let x1 : Int := w64 (p1 - (p0.length : Int))
  cond (decide (x1 < 0))
    (some (((-1), ()), ()))
  (R5 p0 x1 0)
def laws_szStoreS (p0 : List (List (Int × Int × Bool × List UInt8 × Unit) × List (Int × Int × Bool × List UInt8 × Unit) × Int × Unit)) (p1 : Int) : Option V_laws_szStoreS := laws_szStoreS_entry (laws_szStoreS_L5 FUEL) p0 p1

/-- laws.szWriterS -/
abbrev V_laws_szWriterS : Type := (Int × Unit) × Unit
def laws_szWriterS_step5 (R5 : (List (Int × List (List UInt8 × List Int × Bool × Unit) × Unit)) → Int → Int → Option V_laws_szWriterS) (t0 : List (Int × List (List UInt8 × List Int × Bool × Unit) × Unit)) (t1 : Int) (t5 : Int) : Option V_laws_szWriterS :=
  cond ((decide (t5 < (t0.length : Int))))
    (if (0 : Int) ≤ t5 ∧ t5 < (t0.length : Int) then (
    (laws_szWriter ((t0.getD (t5.toNat) (0, [], ())).1, (t0.getD (t5.toNat) (0, [], ())).2.1, ()) t1).bind fun u3 =>
    cond (decide (u3.1.1 < 0))
      (some (((-1), ()), ()))
    (R5 t0 u3.1.1 (w64 (t5 + 1)))) else none)
  (some ((t1, ()), ()))
def laws_szWriterS_L5 : Nat → (List (Int × List (List UInt8 × List Int × Bool × Unit) × Unit)) → Int → Int → Option V_laws_szWriterS
  | 0, _, _, _ => none
  | n + 1, a0, a1, a2 => laws_szWriterS_step5 (laws_szWriterS_L5 n) a0 a1 a2
def laws_szWriterS_entry (R5 : (List (Int × List (List UInt8 × List Int × Bool × Unit) × Unit)) → Int → Int → Option V_laws_szWriterS) (p0 : List (Int × List (List UInt8 × List Int × Bool × Unit) × Unit)) (p1 : Int) : Option V_laws_szWriterS :=
  let x1 : Int := w64 (p1 - (p0.length : Int))
  cond (decide (x1 < 0))
    (some (((-1), ()), ()))
  (R5 p0 x1 0)
def laws_szWriterS (p0 : List (Int × List (List UInt8 × List Int × Bool × Unit) × Unit)) (p1 : Int) : Option V_laws_szWriterS := laws_szWriterS_entry (laws_szWriterS_L5 FUEL) p0 p1

/-- laws.szIntSS -/
abbrev V_laws_szIntSS : Type := (Int × Unit) × Unit
def laws_szIntSS_step5 (R5 : List (List Int) → Int → Int → Option V_laws_szIntSS) (t0 : List (List Int)) (t1 : Int) (t5 : Int) : Option V_laws_szIntSS :=
  cond ((decide (t5 < (t0.length : Int))))
    (if (0 : Int) ≤ t5 ∧ t5 < (t0.length : Int) then (
    (laws_szIntS (t0.getD (t5.toNat) []) t1).bind fun u3 =>
    cond (decide (u3.1.1 < 0))
      (some (((-1), ()), ()))
    (R5 t0 u3.1.1 (w64 (t5 + 1)))) else none)
  (some ((t1, ()), ()))
def laws_szIntSS_L5 : Nat → List (List Int) → Int → Int → Option V_laws_szIntSS
  | 0, _, _, _ => none
  | n + 1, a0, a1, a2 => laws_szIntSS_step5 (laws_szIntSS_L5 n) a0 a1 a2
def laws_szIntSS_entry (R5 : List (List Int) → Int → Int → Option V_laws_szIntSS) (p0 : List (List Int)) (p1 : Int) : Option V_laws_szIntSS :=
  let x1 : Int := w64 (p1 - (p0.length : Int))
  cond (decide (x1 < 0))
    (some (((-1), ()), ()))
  (R5 p0 x1 0)
def laws_szIntSS (p0 : List (List Int)) (p1 : Int) : Option V_laws_szIntSS := laws_szIntSS_entry (laws_szIntSS_L5 FUEL) p0 p1

/-- laws.szMend -/
abbrev V_laws_szMend : Type := (Int × Unit) × Unit
def laws_szMend (p0 : Int × Int × List Int × List (Int × Int × Bool × List UInt8 × Unit) × Bool × List (List Int) × Unit) (p1 : Int) : Option V_laws_szMend :=
  (laws_szIntS p0.2.2.1 p1).bind fun u1 =>
  cond (decide (u1.1.1 < 0))
    (some (((-1), ()), ()))
  ((laws_szEntryS p0.2.2.2.1 u1.1.1).bind fun u2 =>
  cond (decide (u2.1.1 < 0))
    (some (((-1), ()), ()))
  ((laws_szIntSS p0.2.2.2.2.2.1 u2.1.1).bind fun u3 =>
  cond (decide (u3.1.1 < 0))
    (some (((-1), ()), ()))
  (some ((u3.1.1, ()), ()))))

/-- laws.szMendS -/
abbrev V_laws_szMendS : Type := (Int × Unit) × Unit
def laws_szMendS_step5 (R5 : (List (Int × Int × List Int × List (Int × Int × Bool × List UInt8 × Unit) × Bool × List (List Int) × Unit)) → Int → Int → Option V_laws_szMendS) (t0 : List (Int × Int × List Int × List (Int × Int × Bool × List UInt8 × Unit) × Bool × List (List Int) × Unit)) (t1 : Int) (t5 : Int) : Option V_laws_szMendS :=
  cond ((decide (t5 < (t0.length : Int))))
    (if (0 : Int) ≤ t5 ∧ t5 < (t0.length : Int) then (
    (laws_szMend ((t0.getD (t5.toNat) (0, 0, [], [], false, [], ())).1, (t0.getD (t5.toNat) (0, 0, [], [], false, [], ())).2.1, (t0.getD (t5.toNat) (0, 0, [], [], false, [], ())).2.2.1, (t0.getD (t5.toNat) (0, 0, [], [], false, [], ())).2.2.2.1, (t0.getD (t5.toNat) (0, 0, [], [], false, [], ())).2.2.2.2.1, (t0.getD (t5.toNat) (0, 0, [], [], false, [], ())).2.2.2.2.2.1, ()) t1).bind fun u3 =>
    cond (decide (u3.1.1 < 0))
      (some (((-1), ()), ()))
    (R5 t0 u3.1.1 (w64 (t5 + 1)))) else none)
  (some ((t1, ()), ()))
def laws_szMendS_L5 : Nat → (List (Int × Int × List Int × List (Int × Int × Bool × List UInt8 × Unit) × Bool × List (List Int) × Unit)) → Int → Int → Option V_laws_szMendS
  | 0, _, _, _ => none
  | n + 1, a0, a1, a2 => laws_szMendS_step5 (laws_szMendS_L5 n) a0 a1 a2
def laws_szMendS_entry (R5 : (List (Int × Int × List Int × List (Int × Int × Bool × List UInt8 × Unit) × Bool × List (List Int) × Unit)) → Int → Int → Option V_laws_szMendS) (p0 : List (Int × Int × List Int × List (Int × Int × Bool × List UInt8 × Unit) × Bool × List (List Int) × Unit)) (p1 : Int) : Option V_laws_szMendS :=
  let x1 : Int := w64 (p1 - (p0.length : Int))
  cond (decide (x1 < 0))
    (some (((-1), ()), ()))
  (R5 p0 x1 0)
def laws_szMendS (p0 : List (Int × Int × List Int × List (Int × Int × Bool × List UInt8 × Unit) × Bool × List (List Int) × Unit)) (p1 : Int) : Option V_laws_szMendS := laws_szMendS_entry (laws_szMendS_L5 FUEL) p0 p1

/-- laws.szReaderS -/
abbrev V_laws_szReaderS : Type := (Int × Unit) × Unit
def laws_szReaderS_step5 (R5 : (List (Int × Int × List (Int × Int × List UInt8 × Unit) × Unit)) → Int → Int → Option V_laws_szReaderS) (t0 : List (Int × Int × List (Int × Int × List UInt8 × Unit) × Unit)) (t1 : Int) (t5 : Int) : Option V_laws_szReaderS :=
  cond ((decide (t5 < (t0.length : Int))))
    (if (0 : Int) ≤ t5 ∧ t5 < (t0.length : Int) then (
    (laws_szReader ((t0.getD (t5.toNat) (0, 0, [], ())).1, (t0.getD (t5.toNat) (0, 0, [], ())).2.1, (t0.getD (t5.toNat) (0, 0, [], ())).2.2.1, ()) t1).bind fun u3 =>
    cond (decide (u3.1.1 < 0))
      (some (((-1), ()), ()))
    (R5 t0 u3.1.1 (w64 (t5 + 1)))) else none)
  (some ((t1, ()), ()))
def laws_szReaderS_L5 : Nat → (List (Int × Int × List (Int × Int × List UInt8 × Unit) × Unit)) → Int → Int → Option V_laws_szReaderS
  | 0, _, _, _ => none
  | n + 1, a0, a1, a2 => laws_szReaderS_step5 (laws_szReaderS_L5 n) a0 a1 a2
def laws_szReaderS_entry (R5 : (List (Int × Int × List (Int × Int × List UInt8 × Unit) × Unit)) → Int → Int → Option V_laws_szReaderS) (p0 : List (Int × Int × List (Int × Int × List UInt8 × Unit) × Unit)) (p1 : Int) : Option V_laws_szReaderS :=
  let x1 : Int := w64 (p1 - (p0.length : Int))
  cond (decide (x1 < 0))
    (some (((-1), ()), ()))
  (R5 p0 x1 0)
def laws_szReaderS (p0 : List (Int × Int × List (Int × Int × List UInt8 × Unit) × Unit)) (p1 : Int) : Option V_laws_szReaderS := laws_szReaderS_entry (laws_szReaderS_L5 FUEL) p0 p1

/-- laws.szSent -/
abbrev V_laws_szSent : Type := (Int × Unit) × Unit
def laws_szSent (p0 : Int × List UInt8 × Bool × Unit) (p1 : Int) : Option V_laws_szSent :=
  let x1 : Int := (p0.2.1.length : Int)
  cond ((decide ((w64 (p1 - x1)) < 0)))
    (some (((-1), ()), ()))
  (some ((w64 (p1 - x1), ()), ()))

/-- laws.szSentS -/
abbrev V_laws_szSentS : Type := (Int × Unit) × Unit
def laws_szSentS_step5 (R5 : (List (Int × List UInt8 × Bool × Unit)) → Int → Int → Option V_laws_szSentS) (t0 : List (Int × List UInt8 × Bool × Unit)) (t1 : Int) (t5 : Int) : Option V_laws_szSentS :=
  cond ((decide (t5 < (t0.length : Int))))
    (if (0 : Int) ≤ t5 ∧ t5 < (t0.length : Int) then (
    (laws_szSent ((t0.getD (t5.toNat) (0, [], false, ())).1, (t0.getD (t5.toNat) (0, [], false, ())).2.1, (t0.getD (t5.toNat) (0, [], false, ())).2.2.1, ()) t1).bind fun u3 =>
    cond (decide (u3.1.1 < 0))
      (some (((-1), ()), ()))
    (R5 t0 u3.1.1 (w64 (t5 + 1)))) else none)
  (some ((t1, ()), ()))
def laws_szSentS_L5 : Nat → (List (Int × List UInt8 × Bool × Unit)) → Int → Int → Option V_laws_szSentS
  | 0, _, _, _ => none
  | n + 1, a0, a1, a2 => laws_szSentS_step5 (laws_szSentS_L5 n) a0 a1 a2
def laws_szSentS_entry (R5 : (List (Int × List UInt8 × Bool × Unit)) → Int → Int → Option V_laws_szSentS) (p0 : List (Int × List UInt8 × Bool × Unit)) (p1 : Int) : Option V_laws_szSentS :=
  let x1 : Int := w64 (p1 - (p0.length : Int))
  cond (decide (x1 < 0))
    (some (((-1), ()), ()))
  (R5 p0 x1 0)
def laws_szSentS (p0 : List (Int × List UInt8 × Bool × Unit)) (p1 : Int) : Option V_laws_szSentS := laws_szSentS_entry (laws_szSentS_L5 FUEL) p0 p1

/-- laws.szWorld -/
abbrev V_laws_szWorld : Type := (Int × Unit) × Unit
def laws_szWorld (p0 : List Int × Int × List (List (Int × Int × Bool × List UInt8 × Unit) × List (Int × Int × Bool × List UInt8 × Unit) × Int × Unit) × List Int × List (List Int × Bool × Int × Unit) × Int × List (Int × List (List UInt8 × List Int × Bool × Unit) × Unit) × List (Int × Int × List Int × List (Int × Int × Bool × List UInt8 × Unit) × Bool × List (List Int) × Unit) × List (Int × Int × List (Int × Int × List UInt8 × Unit) × Unit) × List (Int × List UInt8 × Bool × Unit) × Bool × Unit) (p1 : Int) : Option V_laws_szWorld :=
  (laws_szConfig (p0.1, p0.2.1, ()) p1).bind fun u1 =>
  cond (decide (u1.1.1 < 0))
    (some (((-1), ()), ()))
  ((laws_szStoreS p0.2.2.1 u1.1.1).bind fun u2 =>
  cond (decide (u2.1.1 < 0))
    (some (((-1), ()), ()))
  ((laws_szIntS p0.2.2.2.1 u2.1.1).bind fun u3 =>
  cond (decide (u3.1.1 < 0))
    (some (((-1), ()), ()))
  ((laws_szRegister (p0.2.2.2.2.1, p0.2.2.2.2.2.1, ()) u3.1.1).bind fun u4 =>
  cond (decide (u4.1.1 < 0))
    (some (((-1), ()), ()))
  ((laws_szWriterS p0.2.2.2.2.2.2.1 u4.1.1).bind fun u5 =>
  cond (decide (u5.1.1 < 0))
    (some (((-1), ()), ()))
  ((laws_szMendS p0.2.2.2.2.2.2.2.1 u5.1.1).bind fun u6 =>
  cond (decide (u6.1.1 < 0))
    (some (((-1), ()), ()))
  ((laws_szReaderS p0.2.2.2.2.2.2.2.2.1 u6.1.1).bind fun u7 =>
  cond (decide (u7.1.1 < 0))
    (some (((-1), ()), ()))
  ((laws_szSentS p0.2.2.2.2.2.2.2.2.2.1 u7.1.1).bind fun u8 =>
  cond (decide (u8.1.1 < 0))
    (some (((-1), ()), ()))
  (some ((u8.1.1, ()), ())))))))))

/-- laws.toEntry -/
abbrev V_laws_toEntry : Type := ((Int × Int × Bool × List UInt8 × Unit) × Unit) × Unit
def laws_toEntry (p0 : Int × Int × Bool × List UInt8 × Unit) : Option V_laws_toEntry :=
  some (((p0.1, p0.2.1, p0.2.2.1, p0.2.2.2.1, ()), ()), ())

/-- laws.toEntryS -/
abbrev V_laws_toEntryS : Type := (Unit × Unit) × ((List (Int × Int × Bool × List UInt8 × Unit)) × Unit)
def laws_toEntryS_step3 (R3 : (List (Int × Int × Bool × List UInt8 × Unit)) → Int → (List (Int × Int × Bool × List UInt8 × Unit)) → Option V_laws_toEntryS) (t0 : List (Int × Int × Bool × List UInt8 × Unit)) (t4 : Int) (b0 : List (Int × Int × Bool × List UInt8 × Unit)) : Option V_laws_toEntryS :=
  cond ((decide (t4 < (t0.length : Int))))
    (if (0 : Int) ≤ t4 ∧ t4 < (t0.length : Int) then (
    (laws_toEntry ((t0.getD (t4.toNat) (0, 0, false, [], ())).1, (t0.getD (t4.toNat) (0, 0, false, [], ())).2.1, (t0.getD (t4.toNat) (0, 0, false, [], ())).2.2.1, (t0.getD (t4.toNat) (0, 0, false, [], ())).2.2.2.1, ())).bind fun u3 =>
    if (0 : Int) ≤ t4 ∧ t4 < (b0.length : Int) then (
    R3 t0 (w64 (t4 + 1)) (b0.set (t4.toNat) (u3.1.1.1, u3.1.1.2.1, u3.1.1.2.2.1, u3.1.1.2.2.2.1, ()))) else none) else none)
  (some (((), ()), (b0, ())))
def laws_toEntryS_L3 : Nat → (List (Int × Int × Bool × List UInt8 × Unit)) → Int → (List (Int × Int × Bool × List UInt8 × Unit)) → Option V_laws_toEntryS
  | 0, _, _, _ => none
  | n + 1, a0, a1, a2 => laws_toEntryS_step3 (laws_toEntryS_L3 n) a0 a1 a2
def laws_toEntryS_entry (R3 : (List (Int × Int × Bool × List UInt8 × Unit)) → Int → (List (Int × Int × Bool × List UInt8 × Unit)) → Option V_laws_toEntryS) (p0 : List (Int × Int × Bool × List UInt8 × Unit)) : Option V_laws_toEntryS :=
  if (0 : Int) ≤ (p0.length : Int) ∧ (p0.length : Int) ≤ (p0.length : Int) ∧ (p0.length : Int) ≤ (LIM : Int) then (
  R3 p0 0 (List.replicate ((p0.length : Int).toNat) (0, 0, false, [], ()))) else none
def laws_toEntryS (p0 : List (Int × Int × Bool × List UInt8 × Unit)) : Option V_laws_toEntryS := laws_toEntryS_entry (laws_toEntryS_L3 FUEL) p0

/-- laws.toStore -/
abbrev V_laws_toStore : Type := ((Unit × Unit × Int × Unit) × Unit) × ((List (Int × Int × Bool × List UInt8 × Unit)) × (List (Int × Int × Bool × List UInt8 × Unit)) × Unit)
def laws_toStore (p0 : List (Int × Int × Bool × List UInt8 × Unit) × List (Int × Int × Bool × List UInt8 × Unit) × Int × Unit) : Option V_laws_toStore :=
  (laws_toEntryS p0.1).bind fun u1 =>
  (laws_toEntryS p0.2.1).bind fun u2 =>
  some ((((), (), p0.2.2.1, ()), ()), (u1.2.1, u2.2.1, ()))

/-- laws.toStoreS -/
abbrev V_laws_toStoreS : Type := (Unit × Unit) × ((List (List (Int × Int × Bool × List UInt8 × Unit) × List (Int × Int × Bool × List UInt8 × Unit) × Int × Unit)) × Unit)
def laws_toStoreS_step3 (R3 : (List (List (Int × Int × Bool × List UInt8 × Unit) × List (Int × Int × Bool × List UInt8 × Unit) × Int × Unit)) → Int → (List (List (Int × Int × Bool × List UInt8 × Unit) × List (Int × Int × Bool × List UInt8 × Unit) × Int × Unit)) → Option V_laws_toStoreS) (t0 : List (List (Int × Int × Bool × List UInt8 × Unit) × List (Int × Int × Bool × List UInt8 × Unit) × Int × Unit)) (t4 : Int) (b0 : List (List (Int × Int × Bool × List UInt8 × Unit) × List (Int × Int × Bool × List UInt8 × Unit) × Int × Unit)) : Option V_laws_toStoreS :=
  cond ((decide (t4 < (t0.length : Int))))
    (if (0 : Int) ≤ t4 ∧ t4 < (t0.length : Int) then (
    (laws_toStore ((t0.getD (t4.toNat) ([], [], 0, ())).1, (t0.getD (t4.toNat) ([], [], 0, ())).2.1, (t0.getD (t4.toNat) ([], [], 0, ())).2.2.1, ())).bind fun u3 =>
    if (0 : Int) ≤ t4 ∧ t4 < (b0.length : Int) then (
    R3 t0 (w64 (t4 + 1)) (b0.set (t4.toNat) (u3.2.1, u3.2.2.1, u3.1.1.2.2.1, ()))) else none) else none)
  (some (((), ()), (b0, ())))
def laws_toStoreS_L3 : Nat → (List (List (Int × Int × Bool × List UInt8 × Unit) × List (Int × Int × Bool × List UInt8 × Unit) × Int × Unit)) → Int → (List (List (Int × Int × Bool × List UInt8 × Unit) × List (Int × Int × Bool × List UInt8 × Unit) × Int × Unit)) → Option V_laws_toStoreS
  | 0, _, _, _ => none
  | n + 1, a0, a1, a2 => laws_toStoreS_step3 (laws_toStoreS_L3 n) a0 a1 a2
def laws_toStoreS_entry (R3 : (List (List (Int × Int × Bool × List UInt8 × Unit) × List (Int × Int × Bool × List UInt8 × Unit) × Int × Unit)) → Int → (List (List (Int × Int × Bool × List UInt8 × Unit) × List (Int × Int × Bool × List UInt8 × Unit) × Int × Unit)) → Option V_laws_toStoreS) (p0 : List (List (Int × Int × Bool × List UInt8 × Unit) × List (Int × Int × Bool × List UInt8 × Unit) × Int × Unit)) : Option V_laws_toStoreS :=
  if (0 : Int) ≤ (p0.length : Int) ∧ (p0.length : Int) ≤ (p0.length : Int) ∧ (p0.length : Int) ≤ (LIM : Int) then (
  R3 p0 0 (List.replicate ((p0.length : Int).toNat) ([], [], 0, ()))) else none
def laws_toStoreS (p0 : List (List (Int × Int × Bool × List UInt8 × Unit) × List (Int × Int × Bool × List UInt8 × Unit) × Int × Unit)) : Option V_laws_toStoreS := laws_toStoreS_entry (laws_toStoreS_L3 FUEL) p0

/-- laws.toWriterS -/
abbrev V_laws_toWriterS : Type := (Unit × Unit) × ((List (Int × List (List UInt8 × List Int × Bool × Unit) × Unit)) × Unit)
def laws_toWriterS_step3 (R3 : (List (Int × List (List UInt8 × List Int × Bool × Unit) × Unit)) → Int → (List (Int × List (List UInt8 × List Int × Bool × Unit) × Unit)) → Option V_laws_toWriterS) (t0 : List (Int × List (List UInt8 × List Int × Bool × Unit) × Unit)) (t4 : Int) (b0 : List (Int × List (List UInt8 × List Int × Bool × Unit) × Unit)) : Option V_laws_toWriterS :=
  cond ((decide (t4 < (t0.length : Int))))
    (if (0 : Int) ≤ t4 ∧ t4 < (t0.length : Int) then (
    (laws_toWriter ((t0.getD (t4.toNat) (0, [], ())).1, (t0.getD (t4.toNat) (0, [], ())).2.1, ())).bind fun u3 =>
    if (0 : Int) ≤ t4 ∧ t4 < (b0.length : Int) then (
    R3 t0 (w64 (t4 + 1)) (b0.set (t4.toNat) (u3.1.1.1, u3.2.1, ()))) else none) else none)
  (some (((), ()), (b0, ())))
def laws_toWriterS_L3 : Nat → (List (Int × List (List UInt8 × List Int × Bool × Unit) × Unit)) → Int → (List (Int × List (List UInt8 × List Int × Bool × Unit) × Unit)) → Option V_laws_toWriterS
  | 0, _, _, _ => none
  | n + 1, a0, a1, a2 => laws_toWriterS_step3 (laws_toWriterS_L3 n) a0 a1 a2
def laws_toWriterS_entry (R3 : (List (Int × List (List UInt8 × List Int × Bool × Unit) × Unit)) → Int → (List (Int × List (List UInt8 × List Int × Bool × Unit) × Unit)) → Option V_laws_toWriterS) (p0 : List (Int × List (List UInt8 × List Int × Bool × Unit) × Unit)) : Option V_laws_toWriterS :=
  if (0 : Int) ≤ (p0.length : Int) ∧ (p0.length : Int) ≤ (p0.length : Int) ∧ (p0.length : Int) ≤ (LIM : Int) then (
  R3 p0 0 (List.replicate ((p0.length : Int).toNat) (0, [], ()))) else none
def laws_toWriterS (p0 : List (Int × List (List UInt8 × List Int × Bool × Unit) × Unit)) : Option V_laws_toWriterS := laws_toWriterS_entry (laws_toWriterS_L3 FUEL) p0

/-- laws.toIntSS -/
abbrev V_laws_toIntSS : Type := (Unit × Unit) × (List (List Int) × Unit)
def laws_toIntSS_step3 (R3 : List (List Int) → Int → List (List Int) → Option V_laws_toIntSS) (t0 : List (List Int)) (t4 : Int) (b0 : List (List Int)) : Option V_laws_toIntSS :=
  cond ((decide (t4 < (t0.length : Int))))
    (if (0 : Int) ≤ t4 ∧ t4 < (t0.length : Int) then (
    (laws_toIntS (t0.getD (t4.toNat) [])).bind fun u3 =>
    if (0 : Int) ≤ t4 ∧ t4 < (b0.length : Int) then (
    R3 t0 (w64 (t4 + 1)) (b0.set (t4.toNat) u3.2.1)) else none) else none)
  (some (((), ()), (b0, ())))
def laws_toIntSS_L3 : Nat → List (List Int) → Int → List (List Int) → Option V_laws_toIntSS
  | 0, _, _, _ => none
  | n + 1, a0, a1, a2 => laws_toIntSS_step3 (laws_toIntSS_L3 n) a0 a1 a2
def laws_toIntSS_entry (R3 : List (List Int) → Int → List (List Int) → Option V_laws_toIntSS) (p0 : List (List Int)) : Option V_laws_toIntSS :=
  if (0 : Int) ≤ (p0.length : Int) ∧ (p0.length : Int) ≤ (p0.length : Int) ∧ (p0.length : Int) ≤ (LIM : Int) then (
  R3 p0 0 (List.replicate ((p0.length : Int).toNat) [])) else none
def laws_toIntSS (p0 : List (List Int)) : Option V_laws_toIntSS := laws_toIntSS_entry (laws_toIntSS_L3 FUEL) p0

/-- laws.toMend -/
abbrev V_laws_toMend : Type := ((Int × Int × Unit × Unit × Bool × Unit × Unit) × Unit) × (List Int × (List (Int × Int × Bool × List UInt8 × Unit)) × List (List Int) × Unit)
def laws_toMend (p0 : Int × Int × List Int × List (Int × Int × Bool × List UInt8 × Unit) × Bool × List (List Int) × Unit) : Option V_laws_toMend :=
  (laws_toIntS p0.2.2.1).bind fun u1 =>
  (laws_toEntryS p0.2.2.2.1).bind fun u2 =>
  (laws_toIntSS p0.2.2.2.2.2.1).bind fun u3 =>
  some (((p0.1, p0.2.1, (), (), p0.2.2.2.2.1, (), ()), ()), (u1.2.1, u2.2.1, u3.2.1, ()))

/-- laws.toMendS -/
abbrev V_laws_toMendS : Type := (Unit × Unit) × ((List (Int × Int × List Int × List (Int × Int × Bool × List UInt8 × Unit) × Bool × List (List Int) × Unit)) × Unit)
def laws_toMendS_step3 (R3 : (List (Int × Int × List Int × List (Int × Int × Bool × List UInt8 × Unit) × Bool × List (List Int) × Unit)) → Int → (List (Int × Int × List Int × List (Int × Int × Bool × List UInt8 × Unit) × Bool × List (List Int) × Unit)) → Option V_laws_toMendS) (t0 : List (Int × Int × List Int × List (Int × Int × Bool × List UInt8 × Unit) × Bool × List (List Int) × Unit)) (t4 : Int) (b0 : List (Int × Int × List Int × List (Int × Int × Bool × List UInt8 × Unit) × Bool × List (List Int) × Unit)) : Option V_laws_toMendS :=
  cond ((decide (t4 < (t0.length : Int))))
    (if (0 : Int) ≤ t4 ∧ t4 < (t0.length : Int) then (
    (laws_toMend ((t0.getD (t4.toNat) (0, 0, [], [], false, [], ())).1, (t0.getD (t4.toNat) (0, 0, [], [], false, [], ())).2.1, (t0.getD (t4.toNat) (0, 0, [], [], false, [], ())).2.2.1, (t0.getD (t4.toNat) (0, 0, [], [], false, [], ())).2.2.2.1, (t0.getD (t4.toNat) (0, 0, [], [], false, [], ())).2.2.2.2.1, (t0.getD (t4.toNat) (0, 0, [], [], false, [], ())).2.2.2.2.2.1, ())).bind fun u3 =>
    if (0 : Int) ≤ t4 ∧ t4 < (b0.length : Int) then (
    R3 t0 (w64 (t4 + 1)) (b0.set (t4.toNat) (u3.1.1.1, u3.1.1.2.1, u3.2.1, u3.2.2.1, u3.1.1.2.2.2.2.1, u3.2.2.2.1, ()))) else none) else none)
  (some (((), ()), (b0, ())))
def laws_toMendS_L3 : Nat → (List (Int × Int × List Int × List (Int × Int × Bool × List UInt8 × Unit) × Bool × List (List Int) × Unit)) → Int → (List (Int × Int × List Int × List (Int × Int × Bool × List UInt8 × Unit) × Bool × List (List Int) × Unit)) → Option V_laws_toMendS
  | 0, _, _, _ => none
  | n + 1, a0, a1, a2 => laws_toMendS_step3 (laws_toMendS_L3 n) a0 a1 a2
def laws_toMendS_entry (R3 : (List (Int × Int × List Int × List (Int × Int × Bool × List UInt8 × Unit) × Bool × List (List Int) × Unit)) → Int → (List (Int × Int × List Int × List (Int × Int × Bool × List UInt8 × Unit) × Bool × List (List Int) × Unit)) → Option V_laws_toMendS) (p0 : List (Int × Int × List Int × List (Int × Int × Bool × List UInt8 × Unit) × Bool × List (List Int) × Unit)) : Option V_laws_toMendS :=
  if (0 : Int) ≤ (p0.length : Int) ∧ (p0.length : Int) ≤ (p0.length : Int) ∧ (p0.length : Int) ≤ (LIM : Int) then (
  R3 p0 0 (List.replicate ((p0.length : Int).toNat) (0, 0, [], [], false, [], ()))) else none
def laws_toMendS (p0 : List (Int × Int × List Int × List (Int × Int × Bool × List UInt8 × Unit) × Bool × List (List Int) × Unit)) : Option V_laws_toMendS := laws_toMendS_entry (laws_toMendS_L3 FUEL) p0

/-- laws.toReaderS -/
abbrev V_laws_toReaderS : Type := (Unit × Unit) × ((List (Int × Int × List (Int × Int × List UInt8 × Unit) × Unit)) × Unit)
def laws_toReaderS_step3 (R3 : (List (Int × Int × List (Int × Int × List UInt8 × Unit) × Unit)) → Int → (List (Int × Int × List (Int × Int × List UInt8 × Unit) × Unit)) → Option V_laws_toReaderS) (t0 : List (Int × Int × List (Int × Int × List UInt8 × Unit) × Unit)) (t4 : Int) (b0 : List (Int × Int × List (Int × Int × List UInt8 × Unit) × Unit)) : Option V_laws_toReaderS :=
  cond ((decide (t4 < (t0.length : Int))))
    (if (0 : Int) ≤ t4 ∧ t4 < (t0.length : Int) then (
    (laws_toReader ((t0.getD (t4.toNat) (0, 0, [], ())).1, (t0.getD (t4.toNat) (0, 0, [], ())).2.1, (t0.getD (t4.toNat) (0, 0, [], ())).2.2.1, ())).bind fun u3 =>
    if (0 : Int) ≤ t4 ∧ t4 < (b0.length : Int) then (
    R3 t0 (w64 (t4 + 1)) (b0.set (t4.toNat) (u3.1.1.1, u3.1.1.2.1, u3.2.1, ()))) else none) else none)
  (some (((), ()), (b0, ())))
def laws_toReaderS_L3 : Nat → (List (Int × Int × List (Int × Int × List UInt8 × Unit) × Unit)) → Int → (List (Int × Int × List (Int × Int × List UInt8 × Unit) × Unit)) → Option V_laws_toReaderS
  | 0, _, _, _ => none
  | n + 1, a0, a1, a2 => laws_toReaderS_step3 (laws_toReaderS_L3 n) a0 a1 a2
def laws_toReaderS_entry (R3 : (List (Int × Int × List (Int × Int × List UInt8 × Unit) × Unit)) → Int → (List (Int × Int × List (Int × Int × List UInt8 × Unit) × Unit)) → Option V_laws_toReaderS) (p0 : List (Int × Int × List (Int × Int × List UInt8 × Unit) × Unit)) : Option V_laws_toReaderS :=
  if (0 : Int) ≤ (p0.length : Int) ∧ (p0.length : Int) ≤ (p0.length : Int) ∧ (p0.length : Int) ≤ (LIM : Int) then (
  R3 p0 0 (List.replicate ((p0.length : Int).toNat) (0, 0, [], ()))) else none
def laws_toReaderS (p0 : List (Int × Int × List (Int × Int × List UInt8 × Unit) × Unit)) : Option V_laws_toReaderS := laws_toReaderS_entry (laws_toReaderS_L3 FUEL) p0

/-- laws.toSent -/
abbrev V_laws_toSent : Type := ((Int × List UInt8 × Bool × Unit) × Unit) × Unit
def laws_toSent (p0 : Int × List UInt8 × Bool × Unit) : Option V_laws_toSent :=
  some (((p0.1, p0.2.1, p0.2.2.1, ()), ()), ())

/-- laws.toSentS -/
abbrev V_laws_toSentS : Type := (Unit × Unit) × ((List (Int × List UInt8 × Bool × Unit)) × Unit)
def laws_toSentS_step3 (R3 : (List (Int × List UInt8 × Bool × Unit)) → Int → (List (Int × List UInt8 × Bool × Unit)) → Option V_laws_toSentS) (t0 : List (Int × List UInt8 × Bool × Unit)) (t4 : Int) (b0 : List (Int × List UInt8 × Bool × Unit)) : Option V_laws_toSentS :=
  cond ((decide (t4 < (t0.length : Int))))
    (if (0 : Int) ≤ t4 ∧ t4 < (t0.length : Int) then (
    (laws_toSent ((t0.getD (t4.toNat) (0, [], false, ())).1, (t0.getD (t4.toNat) (0, [], false, ())).2.1, (t0.getD (t4.toNat) (0, [], false, ())).2.2.1, ())).bind fun u3 =>
    if (0 : Int) ≤ t4 ∧ t4 < (b0.length : Int) then (
    R3 t0 (w64 (t4 + 1)) (b0.set (t4.toNat) (u3.1.1.1, u3.1.1.2.1, u3.1.1.2.2.1, ()))) else none) else none)
  (some (((), ()), (b0, ())))
def laws_toSentS_L3 : Nat → (List (Int × List UInt8 × Bool × Unit)) → Int → (List (Int × List UInt8 × Bool × Unit)) → Option V_laws_toSentS
  | 0, _, _, _ => none
  | n + 1, a0, a1, a2 => laws_toSentS_step3 (laws_toSentS_L3 n) a0 a1 a2
def laws_toSentS_entry (R3 : (List (Int × List UInt8 × Bool × Unit)) → Int → (List (Int × List UInt8 × Bool × Unit)) → Option V_laws_toSentS) (p0 : List (Int × List UInt8 × Bool × Unit)) : Option V_laws_toSentS :=
  if (0 : Int) ≤ (p0.length : Int) ∧ (p0.length : Int) ≤ (p0.length : Int) ∧ (p0.length : Int) ≤ (LIM : Int) then (
  R3 p0 0 (List.replicate ((p0.length : Int).toNat) (0, [], false, ()))) else none
def laws_toSentS (p0 : List (Int × List UInt8 × Bool × Unit)) : Option V_laws_toSentS := laws_toSentS_entry (laws_toSentS_L3 FUEL) p0

/-- laws.toWorld -/
abbrev V_laws_toWorld : Type := ((Unit × Int × Unit × Unit × Unit × Int × Unit × Unit × Unit × Unit × Bool × Unit) × Unit) × (List Int × (List (List (Int × Int × Bool × List UInt8 × Unit) × List (Int × Int × Bool × List UInt8 × Unit) × Int × Unit)) × List Int × (List (List Int × Bool × Int × Unit)) × (List (Int × List (List UInt8 × List Int × Bool × Unit) × Unit)) × (List (Int × Int × List Int × List (Int × Int × Bool × List UInt8 × Unit) × Bool × List (List Int) × Unit)) × (List (Int × Int × List (Int × Int × List UInt8 × Unit) × Unit)) × (List (Int × List UInt8 × Bool × Unit)) × Unit)
def laws_toWorld (p0 : List Int × Int × List (List (Int × Int × Bool × List UInt8 × Unit) × List (Int × Int × Bool × List UInt8 × Unit) × Int × Unit) × List Int × List (List Int × Bool × Int × Unit) × Int × List (Int × List (List UInt8 × List Int × Bool × Unit) × Unit) × List (Int × Int × List Int × List (Int × Int × Bool × List UInt8 × Unit) × Bool × List (List Int) × Unit) × List (Int × Int × List (Int × Int × List UInt8 × Unit) × Unit) × List (Int × List UInt8 × Bool × Unit) × Bool × Unit) : Option V_laws_toWorld :=
  (laws_toConfig (p0.1, p0.2.1, ())).bind fun u1 =>
  (laws_toStoreS p0.2.2.1).bind fun u2 =>
  (laws_toIntS p0.2.2.2.1).bind fun u3 =>
  (laws_toRegister (p0.2.2.2.2.1, p0.2.2.2.2.2.1, ())).bind fun u4 =>
  (laws_toWriterS p0.2.2.2.2.2.2.1).bind fun u5 =>
  (laws_toMendS p0.2.2.2.2.2.2.2.1).bind fun u6 =>
  (laws_toReaderS p0.2.2.2.2.2.2.2.2.1).bind fun u7 =>
  (laws_toSentS p0.2.2.2.2.2.2.2.2.2.1).bind fun u8 =>
  some ((((), u1.1.1.2.1, (), (), (), u4.1.1.2.1, (), (), (), (), p0.2.2.2.2.2.2.2.2.2.2.1, ()), ()), (u1.2.1, u2.2.1, u3.2.1, u4.2.1, u5.2.1, u6.2.1, u7.2.1, u8.2.1, ()))

/-- spec.EntryOk -/
abbrev V_spec_EntryOk : Type := (Bool × Unit) × Unit
def spec_EntryOk (p0 : Int × Int × Bool × List UInt8 × Unit) : Option V_spec_EntryOk :=
  (spec_PlaceOk p0.1).bind fun u1 =>
  cond (!u1.1.1)
    (some ((false, ()), ()))
  ((spec_l1In p0.2.1 0 30).bind fun u2 =>
  cond (!u2.1.1)
    (some ((false, ()), ()))
  (cond (decide (p0.2.1 > 0))
    ((spec_EpochOf p0.1).bind fun u3 =>
    cond ((decide (p0.2.1 ≤ u3.1.1)))
      (some ((false, ()), ()))
    (cond (decide ((p0.2.2.2.1.length : Int) > 40))
      (some ((false, ()), ()))
    (cond (!p0.2.2.1)
      (some ((true, ()), ()))
    (cond (decide (p0.2.1 > 0))
      (some ((p0.2.2.2.1 == [], ()), ()))
    (some ((false, ()), ()))))))
  (cond (decide ((p0.2.2.2.1.length : Int) > 40))
    (some ((false, ()), ()))
  (cond (!p0.2.2.1)
    (some ((true, ()), ()))
  (cond (decide (p0.2.1 > 0))
    (some ((p0.2.2.2.1 == [], ()), ()))
  (some ((false, ()), ())))))))

/-- spec.l6List -/
abbrev V_spec_l6List : Type := (Bool × Unit) × Unit
def spec_l6List_step4 (R4 : (List (Int × Int × Bool × List UInt8 × Unit)) → Int → Option V_spec_l6List) (t0 : List (Int × Int × Bool × List UInt8 × Unit)) (t5 : Int) : Option V_spec_l6List :=
  cond ((decide (t5 < (t0.length : Int))))
    (if (0 : Int) ≤ t5 ∧ t5 < (t0.length : Int) then (
    (spec_EntryOk ((t0.getD (t5.toNat) (0, 0, false, [], ())).1, (t0.getD (t5.toNat) (0, 0, false, [], ())).2.1, (t0.getD (t5.toNat) (0, 0, false, [], ())).2.2.1, (t0.getD (t5.toNat) (0, 0, false, [], ())).2.2.2.1, ())).bind fun u3 =>
    cond (!u3.1.1)
      (some ((false, ()), ()))
    (R4 t0 (w64 (t5 + 1)))) else none)
  (some ((true, ()), ()))
def spec_l6List_L4 : Nat → (List (Int × Int × Bool × List UInt8 × Unit)) → Int → Option V_spec_l6List
  | 0, _, _ => none
  | n + 1, a0, a1 => spec_l6List_step4 (spec_l6List_L4 n) a0 a1
def spec_l6List_entry (R4 : (List (Int × Int × Bool × List UInt8 × Unit)) → Int → Option V_spec_l6List) (p0 : List (Int × Int × Bool × List UInt8 × Unit)) (p1 : Int) : Option V_spec_l6List :=
  cond ((decide ((p0.length : Int) > p1)))
    (some ((false, ()), ()))
  (R4 p0 0)
def spec_l6List (p0 : List (Int × Int × Bool × List UInt8 × Unit)) (p1 : Int) : Option V_spec_l6List := spec_l6List_entry (spec_l6List_L4 FUEL) p0 p1

/-- spec.l6Asc -/
abbrev V_spec_l6Asc : Type := (Bool × Unit) × Unit
def spec_l6Asc_step2 (R2 : (List (Int × Int × Bool × List UInt8 × Unit)) → Int → Option V_spec_l6Asc) (t0 : List (Int × Int × Bool × List UInt8 × Unit)) (t3 : Int) : Option V_spec_l6Asc :=
  cond ((decide (t3 < (t0.length : Int))))
    (if (0 : Int) ≤ w64 (t3 - 1) ∧ w64 (t3 - 1) < (t0.length : Int) then (
    if (0 : Int) ≤ t3 ∧ t3 < (t0.length : Int) then (
    cond (decide (((t0.getD ((w64 (t3 - 1)).toNat) (0, 0, false, [], ())).1) ≥ ((t0.getD (t3.toNat) (0, 0, false, [], ())).1)))
      (some ((false, ()), ()))
    (R2 t0 (w64 (t3 + 1)))) else none) else none)
  (some ((true, ()), ()))
def spec_l6Asc_L2 : Nat → (List (Int × Int × Bool × List UInt8 × Unit)) → Int → Option V_spec_l6Asc
  | 0, _, _ => none
  | n + 1, a0, a1 => spec_l6Asc_step2 (spec_l6Asc_L2 n) a0 a1
def spec_l6Asc_entry (R2 : (List (Int × Int × Bool × List UInt8 × Unit)) → Int → Option V_spec_l6Asc) (p0 : List (Int × Int × Bool × List UInt8 × Unit)) : Option V_spec_l6Asc :=
  R2 p0 1
def spec_l6Asc (p0 : List (Int × Int × Bool × List UInt8 × Unit)) : Option V_spec_l6Asc := spec_l6Asc_entry (spec_l6Asc_L2 FUEL) p0

/-- spec.StoreOk -/
abbrev V_spec_StoreOk : Type := (Bool × Unit) × Unit
def spec_StoreOk (p0 : List (Int × Int × Bool × List UInt8 × Unit) × List (Int × Int × Bool × List UInt8 × Unit) × Int × Unit) : Option V_spec_StoreOk :=
  (spec_l6List p0.1 200).bind fun u1 =>
  cond (u1.1.1)
    ((spec_l6List p0.2.1 20).bind fun u2 =>
    cond (u2.1.1)
      ((spec_l6Asc p0.1).bind fun u3 =>
      cond (u3.1.1)
        ((spec_l1In p0.2.2.1 0 30).bind fun u4 =>
        some ((u4.1.1, ()), ()))
      (some ((false, ()), ())))
    (some ((false, ()), ())))
  (some ((false, ()), ()))

/-- spec.l4Has -/
abbrev V_spec_l4Has : Type := (Bool × Unit) × Unit
def spec_l4Has_step2 (R2 : List Int → Int → Int → Option V_spec_l4Has) (t0 : List Int) (t1 : Int) (t5 : Int) : Option V_spec_l4Has :=
  cond ((decide (t5 < (t0.length : Int))))
    (if (0 : Int) ≤ t5 ∧ t5 < (t0.length : Int) then (
    cond ((t0.getD (t5.toNat) 0) == t1)
      (some ((true, ()), ()))
    (R2 t0 t1 (w64 (t5 + 1)))) else none)
  (some ((false, ()), ()))
def spec_l4Has_L2 : Nat → List Int → Int → Int → Option V_spec_l4Has
  | 0, _, _, _ => none
  | n + 1, a0, a1, a2 => spec_l4Has_step2 (spec_l4Has_L2 n) a0 a1 a2
def spec_l4Has_entry (R2 : List Int → Int → Int → Option V_spec_l4Has) (p0 : List Int) (p1 : Int) : Option V_spec_l4Has :=
  R2 p0 p1 0
def spec_l4Has (p0 : List Int) (p1 : Int) : Option V_spec_l4Has := spec_l4Has_entry (spec_l4Has_L2 FUEL) p0 p1

/-- spec.l12Zero -/
abbrev V_spec_l12Zero : Type := (Bool × Unit) × Unit
def spec_l12Zero (p0 : List (Int × Int × Bool × List UInt8 × Unit) × List (Int × Int × Bool × List UInt8 × Unit) × Int × Unit) : Option V_spec_l12Zero :=
  cond (((p0.1.length : Int) == 0))
    (cond ((p0.2.1.length : Int) == 0)
      (some ((p0.2.2.1 == 0, ()), ()))
    (some ((false, ()), ())))
  (some ((false, ()), ()))

/-- spec.l12Nodes -/
abbrev V_spec_l12Nodes : Type := (Bool × Unit) × Unit
def spec_l12Nodes_step4 (R4 : Int → List Int → Int → (List (List (Int × Int × Bool × List UInt8 × Unit) × List (Int × Int × Bool × List UInt8 × Unit) × Int × Unit)) → List Int → (List (List Int × Bool × Int × Unit)) → Int → (List (Int × List (List UInt8 × List Int × Bool × Unit) × Unit)) → (List (Int × Int × List Int × List (Int × Int × Bool × List UInt8 × Unit) × Bool × List (List Int) × Unit)) → (List (Int × Int × List (Int × Int × List UInt8 × Unit) × Unit)) → (List (Int × List UInt8 × Bool × Unit)) → Bool → Option V_spec_l12Nodes) (t3 : Int) (b0_0 : List Int) (b0_1 : Int) (b0_2 : List (List (Int × Int × Bool × List UInt8 × Unit) × List (Int × Int × Bool × List UInt8 × Unit) × Int × Unit)) (b0_3 : List Int) (b0_4 : List (List Int × Bool × Int × Unit)) (b0_5 : Int) (b0_6 : List (Int × List (List UInt8 × List Int × Bool × Unit) × Unit)) (b0_7 : List (Int × Int × List Int × List (Int × Int × Bool × List UInt8 × Unit) × Bool × List (List Int) × Unit)) (b0_8 : List (Int × Int × List (Int × Int × List UInt8 × Unit) × Unit)) (b0_9 : List (Int × List UInt8 × Bool × Unit)) (b0_10 : Bool) : Option V_spec_l12Nodes :=
  cond ((decide (t3 < (b0_2.length : Int))))
    (if (0 : Int) ≤ t3 ∧ t3 < (b0_2.length : Int) then (
    (spec_StoreOk ((b0_2.getD (t3.toNat) ([], [], 0, ())).1, (b0_2.getD (t3.toNat) ([], [], 0, ())).2.1, (b0_2.getD (t3.toNat) ([], [], 0, ())).2.2.1, ())).bind fun u8 =>
    cond (!u8.1.1)
      (some ((false, ()), ()))
    ((spec_l4Has b0_3 t3).bind fun u9 =>
    cond (u9.1.1)
      (if (0 : Int) ≤ t3 ∧ t3 < (b0_2.length : Int) then (
      (spec_l12Zero ((b0_2.getD (t3.toNat) ([], [], 0, ())).1, (b0_2.getD (t3.toNat) ([], [], 0, ())).2.1, (b0_2.getD (t3.toNat) ([], [], 0, ())).2.2.1, ())).bind fun u10 =>
      cond (!u10.1.1)
        (some ((false, ()), ()))
      (R4 (w64 (t3 + 1)) b0_0 b0_1 b0_2 b0_3 b0_4 b0_5 b0_6 b0_7 b0_8 b0_9 b0_10)) else none)
    (R4 (w64 (t3 + 1)) b0_0 b0_1 b0_2 b0_3 b0_4 b0_5 b0_6 b0_7 b0_8 b0_9 b0_10))) else none)
  (some ((true, ()), ()))
def spec_l12Nodes_L4 : Nat → Int → List Int → Int → (List (List (Int × Int × Bool × List UInt8 × Unit) × List (Int × Int × Bool × List UInt8 × Unit) × Int × Unit)) → List Int → (List (List Int × Bool × Int × Unit)) → Int → (List (Int × List (List UInt8 × List Int × Bool × Unit) × Unit)) → (List (Int × Int × List Int × List (Int × Int × Bool × List UInt8 × Unit) × Bool × List (List Int) × Unit)) → (List (Int × Int × List (Int × Int × List UInt8 × Unit) × Unit)) → (List (Int × List UInt8 × Bool × Unit)) → Bool → Option V_spec_l12Nodes
  | 0, _, _, _, _, _, _, _, _, _, _, _, _ => none
  | n + 1, a0, a1, a2, a3, a4, a5, a6, a7, a8, a9, a10, a11 => spec_l12Nodes_step4 (spec_l12Nodes_L4 n) a0 a1 a2 a3 a4 a5 a6 a7 a8 a9 a10 a11
def spec_l12Nodes_entry (R4 : Int → List Int → Int → (List (List (Int × Int × Bool × List UInt8 × Unit) × List (Int × Int × Bool × List UInt8 × Unit) × Int × Unit)) → List Int → (List (List Int × Bool × Int × Unit)) → Int → (List (Int × List (List UInt8 × List Int × Bool × Unit) × Unit)) → (List (Int × Int × List Int × List (Int × Int × Bool × List UInt8 × Unit) × Bool × List (List Int) × Unit)) → (List (Int × Int × List (Int × Int × List UInt8 × Unit) × Unit)) → (List (Int × List UInt8 × Bool × Unit)) → Bool → Option V_spec_l12Nodes) (p0 : List Int × Int × List (List (Int × Int × Bool × List UInt8 × Unit) × List (Int × Int × Bool × List UInt8 × Unit) × Int × Unit) × List Int × List (List Int × Bool × Int × Unit) × Int × List (Int × List (List UInt8 × List Int × Bool × Unit) × Unit) × List (Int × Int × List Int × List (Int × Int × Bool × List UInt8 × Unit) × Bool × List (List Int) × Unit) × List (Int × Int × List (Int × Int × List UInt8 × Unit) × Unit) × List (Int × List UInt8 × Bool × Unit) × Bool × Unit) : Option V_spec_l12Nodes :=
  (spec_ConfigOk (p0.1, p0.2.1, ())).bind fun u1 =>
  cond (!u1.1.1)
    (some ((false, ()), ()))
  (cond (((p0.2.2.1.length : Int) != (p0.1.length : Int)))
    (some ((false, ()), ()))
  ((spec_NodesOk (p0.1, p0.2.1, ()) p0.2.2.2.1).bind fun u4 =>
  cond (!u4.1.1)
    (some ((false, ()), ()))
  ((spec_Holds (p0.1, p0.2.1, ()) p0.2.2.2.1).bind fun u5 =>
  cond (u5.1.1)
    (cond (!p0.2.2.2.2.2.2.2.2.2.2.1)
      (some ((false, ()), ()))
    (R4 0 p0.1 p0.2.1 p0.2.2.1 p0.2.2.2.1 p0.2.2.2.2.1 p0.2.2.2.2.2.1 p0.2.2.2.2.2.2.1 p0.2.2.2.2.2.2.2.1 p0.2.2.2.2.2.2.2.2.1 p0.2.2.2.2.2.2.2.2.2.1 p0.2.2.2.2.2.2.2.2.2.2.1))
  (R4 0 p0.1 p0.2.1 p0.2.2.1 p0.2.2.2.1 p0.2.2.2.2.1 p0.2.2.2.2.2.1 p0.2.2.2.2.2.2.1 p0.2.2.2.2.2.2.2.1 p0.2.2.2.2.2.2.2.2.1 p0.2.2.2.2.2.2.2.2.2.1 p0.2.2.2.2.2.2.2.2.2.2.1))))
def spec_l12Nodes (p0 : List Int × Int × List (List (Int × Int × Bool × List UInt8 × Unit) × List (Int × Int × Bool × List UInt8 × Unit) × Int × Unit) × List Int × List (List Int × Bool × Int × Unit) × Int × List (Int × List (List UInt8 × List Int × Bool × Unit) × Unit) × List (Int × Int × List Int × List (Int × Int × Bool × List UInt8 × Unit) × Bool × List (List Int) × Unit) × List (Int × Int × List (Int × Int × List UInt8 × Unit) × Unit) × List (Int × List UInt8 × Bool × Unit) × Bool × Unit) : Option V_spec_l12Nodes := spec_l12Nodes_entry (spec_l12Nodes_L4 FUEL) p0

/-- spec.OffOf -/
abbrev V_spec_OffOf : Type := (Int × Unit) × Unit
def spec_OffOf (p0 : Int) : Option V_spec_OffOf :=
  (spec_PlaceOk p0).bind fun u1 =>
  cond (!u1.1.1)
    (some ((0, ()), ()))
  (some ((p0.tmod 4294967296, ()), ()))

/-- spec.l9Last -/
abbrev V_spec_l9Last : Type := (Int × Unit) × Unit
def spec_l9Last (p0 : Int × Int × List Int × List (Int × Int × Bool × List UInt8 × Unit) × Bool × List (List Int) × Unit) : Option V_spec_l9Last :=
  cond ((p0.2.2.2.1.length : Int) == 0)
    (some ((0, ()), ()))
  (let x2 : Int := (p0.2.2.2.1.length : Int)
  if (0 : Int) ≤ w64 (x2 - 1) ∧ w64 (x2 - 1) < (p0.2.2.2.1.length : Int) then (
  (spec_OffOf ((p0.2.2.2.1.getD ((w64 (x2 - 1)).toNat) (0, 0, false, [], ())).1)).bind fun u4 =>
  some ((u4.1.1, ()), ())) else none)

/-- spec.MendOk -/
abbrev V_spec_MendOk : Type := (Bool × Unit) × Unit
def spec_MendOk_step4 (R4 : Int → List Int → Int → Int → Int → List Int → (List (Int × Int × Bool × List UInt8 × Unit)) → Bool → List (List Int) → Option V_spec_MendOk) (R9 : Int → List Int → Int → Int → Int → List Int → (List (Int × Int × Bool × List UInt8 × Unit)) → Bool → List (List Int) → Option V_spec_MendOk) (t5 : Int) (b0_0 : List Int) (b0_1 : Int) (b1_0 : Int) (b1_1 : Int) (b1_2 : List Int) (b1_3 : List (Int × Int × Bool × List UInt8 × Unit)) (b1_4 : Bool) (b1_5 : List (List Int)) : Option V_spec_MendOk :=
  cond ((decide (t5 < (b1_3.length : Int))))
    (if (0 : Int) ≤ t5 ∧ t5 < (b1_3.length : Int) then (
    (spec_EntryOk ((b1_3.getD (t5.toNat) (0, 0, false, [], ())).1, (b1_3.getD (t5.toNat) (0, 0, false, [], ())).2.1, (b1_3.getD (t5.toNat) (0, 0, false, [], ())).2.2.1, (b1_3.getD (t5.toNat) (0, 0, false, [], ())).2.2.2.1, ())).bind fun u7 =>
    cond (!u7.1.1)
      (some ((false, ()), ()))
    (if (0 : Int) ≤ t5 ∧ t5 < (b1_3.length : Int) then (
    (spec_EpochOf ((b1_3.getD (t5.toNat) (0, 0, false, [], ())).1)).bind fun u9 =>
    cond (u9.1.1 != b1_1)
      (some ((false, ()), ()))
    (if (0 : Int) ≤ t5 ∧ t5 < (b1_3.length : Int) then (
    cond (decide (((b1_3.getD (t5.toNat) (0, 0, false, [], ())).2.1) ≥ b1_0))
      (some ((false, ()), ()))
    (R4 (w64 (t5 + 1)) b0_0 b0_1 b1_0 b1_1 b1_2 b1_3 b1_4 b1_5)) else none)) else none)) else none)
  (R9 0 b0_0 b0_1 b1_0 b1_1 b1_2 b1_3 b1_4 b1_5)
def spec_MendOk_step9 (R4 : Int → List Int → Int → Int → Int → List Int → (List (Int × Int × Bool × List UInt8 × Unit)) → Bool → List (List Int) → Option V_spec_MendOk) (R9 : Int → List Int → Int → Int → Int → List Int → (List (Int × Int × Bool × List UInt8 × Unit)) → Bool → List (List Int) → Option V_spec_MendOk) (t6 : Int) (b0_0 : List Int) (b0_1 : Int) (b1_0 : Int) (b1_1 : Int) (b1_2 : List Int) (b1_3 : List (Int × Int × Bool × List UInt8 × Unit)) (b1_4 : Bool) (b1_5 : List (List Int)) : Option V_spec_MendOk :=
  cond ((decide (t6 < (b1_5.length : Int))))
    (if (0 : Int) ≤ t6 ∧ t6 < (b1_5.length : Int) then (
    (spec_NodesOk (b0_0, b0_1, ()) (b1_5.getD (t6.toNat) [])).bind fun u12 =>
    cond (!u12.1.1)
      (some ((false, ()), ()))
    (R9 (w64 (t6 + 1)) b0_0 b0_1 b1_0 b1_1 b1_2 b1_3 b1_4 b1_5)) else none)
  (cond (!b1_4)
    (some ((((b1_5.length : Int) == 0), ()), ()))
  ((spec_l9Last (b1_0, b1_1, b1_2, b1_3, b1_4, b1_5, ())).bind fun u14 =>
  some ((((b1_5.length : Int) == u14.1.1), ()), ())))
mutual
def spec_MendOk_L4 : Nat → Int → List Int → Int → Int → Int → List Int → (List (Int × Int × Bool × List UInt8 × Unit)) → Bool → List (List Int) → Option V_spec_MendOk
  | 0, _, _, _, _, _, _, _, _, _ => none
  | n + 1, a0, a1, a2, a3, a4, a5, a6, a7, a8 => spec_MendOk_step4 (spec_MendOk_L4 n) (spec_MendOk_L9 n) a0 a1 a2 a3 a4 a5 a6 a7 a8
def spec_MendOk_L9 : Nat → Int → List Int → Int → Int → Int → List Int → (List (Int × Int × Bool × List UInt8 × Unit)) → Bool → List (List Int) → Option V_spec_MendOk
  | 0, _, _, _, _, _, _, _, _, _ => none
  | n + 1, a0, a1, a2, a3, a4, a5, a6, a7, a8 => spec_MendOk_step9 (spec_MendOk_L4 n) (spec_MendOk_L9 n) a0 a1 a2 a3 a4 a5 a6 a7 a8
end
def spec_MendOk_entry (R4 : Int → List Int → Int → Int → Int → List Int → (List (Int × Int × Bool × List UInt8 × Unit)) → Bool → List (List Int) → Option V_spec_MendOk) (R9 : Int → List Int → Int → Int → Int → List Int → (List (Int × Int × Bool × List UInt8 × Unit)) → Bool → List (List Int) → Option V_spec_MendOk) (p0 : List Int × Int × Unit) (p1 : Int × Int × List Int × List (Int × Int × Bool × List UInt8 × Unit) × Bool × List (List Int) × Unit) : Option V_spec_MendOk :=
  (spec_ConfigOk (p0.1, p0.2.1, ())).bind fun u1 =>
  cond (!u1.1.1)
    (some ((false, ()), ()))
  ((spec_l1In p1.2.1 1 30).bind fun u2 =>
  cond (!u2.1.1)
    (some ((false, ()), ()))
  ((spec_l1In p1.1 (w64 (p1.2.1 + 1)) 30).bind fun u3 =>
  cond (!u3.1.1)
    (some ((false, ()), ()))
  ((spec_NodesOk (p0.1, p0.2.1, ()) p1.2.2.1).bind fun u4 =>
  cond (!u4.1.1)
    (some ((false, ()), ()))
  ((spec_l6Asc p1.2.2.2.1).bind fun u5 =>
  cond (!u5.1.1)
    (some ((false, ()), ()))
  (R4 0 p0.1 p0.2.1 p1.1 p1.2.1 p1.2.2.1 p1.2.2.2.1 p1.2.2.2.2.1 p1.2.2.2.2.2.1)))))
def spec_MendOk (p0 : List Int × Int × Unit) (p1 : Int × Int × List Int × List (Int × Int × Bool × List UInt8 × Unit) × Bool × List (List Int) × Unit) : Option V_spec_MendOk := spec_MendOk_entry (spec_MendOk_L4 FUEL) (spec_MendOk_L9 FUEL) p0 p1

/-- spec.FirstOpen -/
abbrev V_spec_FirstOpen : Type := (Int × Unit) × Unit
def spec_FirstOpen_step2 (R2 : Int → (List (List Int × Bool × Int × Unit)) → Int → Option V_spec_FirstOpen) (t3 : Int) (b0_0 : List (List Int × Bool × Int × Unit)) (b0_1 : Int) : Option V_spec_FirstOpen :=
  cond ((decide (t3 < (b0_0.length : Int))))
    (if (0 : Int) ≤ t3 ∧ t3 < (b0_0.length : Int) then (
    cond (!((b0_0.getD (t3.toNat) ([], false, 0, ())).2.1))
      (some ((w64 (t3 + 1), ()), ()))
    (R2 (w64 (t3 + 1)) b0_0 b0_1)) else none)
  (some ((0, ()), ()))
def spec_FirstOpen_L2 : Nat → Int → (List (List Int × Bool × Int × Unit)) → Int → Option V_spec_FirstOpen
  | 0, _, _, _ => none
  | n + 1, a0, a1, a2 => spec_FirstOpen_step2 (spec_FirstOpen_L2 n) a0 a1 a2
def spec_FirstOpen_entry (R2 : Int → (List (List Int × Bool × Int × Unit)) → Int → Option V_spec_FirstOpen) (p0 : List (List Int × Bool × Int × Unit) × Int × Unit) : Option V_spec_FirstOpen :=
  R2 0 p0.1 p0.2.1
def spec_FirstOpen (p0 : List (List Int × Bool × Int × Unit) × Int × Unit) : Option V_spec_FirstOpen := spec_FirstOpen_entry (spec_FirstOpen_L2 FUEL) p0

/-- spec.l12Epochs -/
abbrev V_spec_l12Epochs : Type := (Bool × Unit) × Unit
def spec_l12Epochs_step5 (R5 : Int → Int → List Int → Int → (List (List (Int × Int × Bool × List UInt8 × Unit) × List (Int × Int × Bool × List UInt8 × Unit) × Int × Unit)) → List Int → (List (List Int × Bool × Int × Unit)) → Int → (List (Int × List (List UInt8 × List Int × Bool × Unit) × Unit)) → (List (Int × Int × List Int × List (Int × Int × Bool × List UInt8 × Unit) × Bool × List (List Int) × Unit)) → (List (Int × Int × List (Int × Int × List UInt8 × Unit) × Unit)) → (List (Int × List UInt8 × Bool × Unit)) → Bool → Option V_spec_l12Epochs) (R10 : Int → Int → List Int → Int → (List (List (Int × Int × Bool × List UInt8 × Unit) × List (Int × Int × Bool × List UInt8 × Unit) × Int × Unit)) → List Int → (List (List Int × Bool × Int × Unit)) → Int → (List (Int × List (List UInt8 × List Int × Bool × Unit) × Unit)) → (List (Int × Int × List Int × List (Int × Int × Bool × List UInt8 × Unit) × Bool × List (List Int) × Unit)) → (List (Int × Int × List (Int × Int × List UInt8 × Unit) × Unit)) → (List (Int × List UInt8 × Bool × Unit)) → Bool → Option V_spec_l12Epochs) (t3 : Int) (t4 : Int) (b0_0 : List Int) (b0_1 : Int) (b0_2 : List (List (Int × Int × Bool × List UInt8 × Unit) × List (Int × Int × Bool × List UInt8 × Unit) × Int × Unit)) (b0_3 : List Int) (b0_4 : List (List Int × Bool × Int × Unit)) (b0_5 : Int) (b0_6 : List (Int × List (List UInt8 × List Int × Bool × Unit) × Unit)) (b0_7 : List (Int × Int × List Int × List (Int × Int × Bool × List UInt8 × Unit) × Bool × List (List Int) × Unit)) (b0_8 : List (Int × Int × List (Int × Int × List UInt8 × Unit) × Unit)) (b0_9 : List (Int × List UInt8 × Bool × Unit)) (b0_10 : Bool) : Option V_spec_l12Epochs :=
  cond ((decide (t4 < (b0_6.length : Int))))
    (if (0 : Int) ≤ t4 ∧ t4 < (b0_6.length : Int) then (
    (spec_WriterOk (b0_0, b0_1, ()) ((b0_6.getD (t4.toNat) (0, [], ())).1, (b0_6.getD (t4.toNat) (0, [], ())).2.1, ())).bind fun u6 =>
    cond (!u6.1.1)
      (some ((false, ()), ()))
    (if (0 : Int) ≤ t4 ∧ t4 < (b0_6.length : Int) then (
    cond (decide (((b0_6.getD (t4.toNat) (0, [], ())).1) > t3))
      (some ((false, ()), ()))
    (cond (decide (t4 > 0))
      (if (0 : Int) ≤ w64 (t4 - 1) ∧ w64 (t4 - 1) < (b0_6.length : Int) then (
      if (0 : Int) ≤ t4 ∧ t4 < (b0_6.length : Int) then (
      cond (decide (((b0_6.getD ((w64 (t4 - 1)).toNat) (0, [], ())).1) ≥ ((b0_6.getD (t4.toNat) (0, [], ())).1)))
        (some ((false, ()), ()))
      (R5 t3 (w64 (t4 + 1)) b0_0 b0_1 b0_2 b0_3 b0_4 b0_5 b0_6 b0_7 b0_8 b0_9 b0_10)) else none) else none)
    (R5 t3 (w64 (t4 + 1)) b0_0 b0_1 b0_2 b0_3 b0_4 b0_5 b0_6 b0_7 b0_8 b0_9 b0_10))) else none)) else none)
  (R10 t3 0 b0_0 b0_1 b0_2 b0_3 b0_4 b0_5 b0_6 b0_7 b0_8 b0_9 b0_10)
def spec_l12Epochs_step10 (R5 : Int → Int → List Int → Int → (List (List (Int × Int × Bool × List UInt8 × Unit) × List (Int × Int × Bool × List UInt8 × Unit) × Int × Unit)) → List Int → (List (List Int × Bool × Int × Unit)) → Int → (List (Int × List (List UInt8 × List Int × Bool × Unit) × Unit)) → (List (Int × Int × List Int × List (Int × Int × Bool × List UInt8 × Unit) × Bool × List (List Int) × Unit)) → (List (Int × Int × List (Int × Int × List UInt8 × Unit) × Unit)) → (List (Int × List UInt8 × Bool × Unit)) → Bool → Option V_spec_l12Epochs) (R10 : Int → Int → List Int → Int → (List (List (Int × Int × Bool × List UInt8 × Unit) × List (Int × Int × Bool × List UInt8 × Unit) × Int × Unit)) → List Int → (List (List Int × Bool × Int × Unit)) → Int → (List (Int × List (List UInt8 × List Int × Bool × Unit) × Unit)) → (List (Int × Int × List Int × List (Int × Int × Bool × List UInt8 × Unit) × Bool × List (List Int) × Unit)) → (List (Int × Int × List (Int × Int × List UInt8 × Unit) × Unit)) → (List (Int × List UInt8 × Bool × Unit)) → Bool → Option V_spec_l12Epochs) (t3 : Int) (t5 : Int) (b0_0 : List Int) (b0_1 : Int) (b0_2 : List (List (Int × Int × Bool × List UInt8 × Unit) × List (Int × Int × Bool × List UInt8 × Unit) × Int × Unit)) (b0_3 : List Int) (b0_4 : List (List Int × Bool × Int × Unit)) (b0_5 : Int) (b0_6 : List (Int × List (List UInt8 × List Int × Bool × Unit) × Unit)) (b0_7 : List (Int × Int × List Int × List (Int × Int × Bool × List UInt8 × Unit) × Bool × List (List Int) × Unit)) (b0_8 : List (Int × Int × List (Int × Int × List UInt8 × Unit) × Unit)) (b0_9 : List (Int × List UInt8 × Bool × Unit)) (b0_10 : Bool) : Option V_spec_l12Epochs :=
  cond ((decide (t5 < (b0_7.length : Int))))
    (if (0 : Int) ≤ t5 ∧ t5 < (b0_7.length : Int) then (
    (spec_MendOk (b0_0, b0_1, ()) ((b0_7.getD (t5.toNat) (0, 0, [], [], false, [], ())).1, (b0_7.getD (t5.toNat) (0, 0, [], [], false, [], ())).2.1, (b0_7.getD (t5.toNat) (0, 0, [], [], false, [], ())).2.2.1, (b0_7.getD (t5.toNat) (0, 0, [], [], false, [], ())).2.2.2.1, (b0_7.getD (t5.toNat) (0, 0, [], [], false, [], ())).2.2.2.2.1, (b0_7.getD (t5.toNat) (0, 0, [], [], false, [], ())).2.2.2.2.2.1, ())).bind fun u11 =>
    cond (!u11.1.1)
      (some ((false, ()), ()))
    (cond (((b0_7.getD (t5.toNat) (0, 0, [], [], false, [], ())).1) != t3)
      (some ((false, ()), ()))
    ((spec_FirstOpen (b0_4, b0_5, ())).bind fun u14 =>
    cond (((b0_7.getD (t5.toNat) (0, 0, [], [], false, [], ())).2.1) != u14.1.1)
      (some ((false, ()), ()))
    (R10 t3 (w64 (t5 + 1)) b0_0 b0_1 b0_2 b0_3 b0_4 b0_5 b0_6 b0_7 b0_8 b0_9 b0_10)))) else none)
  (some ((true, ()), ()))
mutual
def spec_l12Epochs_L5 : Nat → Int → Int → List Int → Int → (List (List (Int × Int × Bool × List UInt8 × Unit) × List (Int × Int × Bool × List UInt8 × Unit) × Int × Unit)) → List Int → (List (List Int × Bool × Int × Unit)) → Int → (List (Int × List (List UInt8 × List Int × Bool × Unit) × Unit)) → (List (Int × Int × List Int × List (Int × Int × Bool × List UInt8 × Unit) × Bool × List (List Int) × Unit)) → (List (Int × Int × List (Int × Int × List UInt8 × Unit) × Unit)) → (List (Int × List UInt8 × Bool × Unit)) → Bool → Option V_spec_l12Epochs
  | 0, _, _, _, _, _, _, _, _, _, _, _, _, _ => none
  | n + 1, a0, a1, a2, a3, a4, a5, a6, a7, a8, a9, a10, a11, a12 => spec_l12Epochs_step5 (spec_l12Epochs_L5 n) (spec_l12Epochs_L10 n) a0 a1 a2 a3 a4 a5 a6 a7 a8 a9 a10 a11 a12
def spec_l12Epochs_L10 : Nat → Int → Int → List Int → Int → (List (List (Int × Int × Bool × List UInt8 × Unit) × List (Int × Int × Bool × List UInt8 × Unit) × Int × Unit)) → List Int → (List (List Int × Bool × Int × Unit)) → Int → (List (Int × List (List UInt8 × List Int × Bool × Unit) × Unit)) → (List (Int × Int × List Int × List (Int × Int × Bool × List UInt8 × Unit) × Bool × List (List Int) × Unit)) → (List (Int × Int × List (Int × Int × List UInt8 × Unit) × Unit)) → (List (Int × List UInt8 × Bool × Unit)) → Bool → Option V_spec_l12Epochs
  | 0, _, _, _, _, _, _, _, _, _, _, _, _, _ => none
  | n + 1, a0, a1, a2, a3, a4, a5, a6, a7, a8, a9, a10, a11, a12 => spec_l12Epochs_step10 (spec_l12Epochs_L5 n) (spec_l12Epochs_L10 n) a0 a1 a2 a3 a4 a5 a6 a7 a8 a9 a10 a11 a12
end
def spec_l12Epochs_entry (R5 : Int → Int → List Int → Int → (List (List (Int × Int × Bool × List UInt8 × Unit) × List (Int × Int × Bool × List UInt8 × Unit) × Int × Unit)) → List Int → (List (List Int × Bool × Int × Unit)) → Int → (List (Int × List (List UInt8 × List Int × Bool × Unit) × Unit)) → (List (Int × Int × List Int × List (Int × Int × Bool × List UInt8 × Unit) × Bool × List (List Int) × Unit)) → (List (Int × Int × List (Int × Int × List UInt8 × Unit) × Unit)) → (List (Int × List UInt8 × Bool × Unit)) → Bool → Option V_spec_l12Epochs) (R10 : Int → Int → List Int → Int → (List (List (Int × Int × Bool × List UInt8 × Unit) × List (Int × Int × Bool × List UInt8 × Unit) × Int × Unit)) → List Int → (List (List Int × Bool × Int × Unit)) → Int → (List (Int × List (List UInt8 × List Int × Bool × Unit) × Unit)) → (List (Int × Int × List Int × List (Int × Int × Bool × List UInt8 × Unit) × Bool × List (List Int) × Unit)) → (List (Int × Int × List (Int × Int × List UInt8 × Unit) × Unit)) → (List (Int × List UInt8 × Bool × Unit)) → Bool → Option V_spec_l12Epochs) (p0 : List Int × Int × List (List (Int × Int × Bool × List UInt8 × Unit) × List (Int × Int × Bool × List UInt8 × Unit) × Int × Unit) × List Int × List (List Int × Bool × Int × Unit) × Int × List (Int × List (List UInt8 × List Int × Bool × Unit) × Unit) × List (Int × Int × List Int × List (Int × Int × Bool × List UInt8 × Unit) × Bool × List (List Int) × Unit) × List (Int × Int × List (Int × Int × List UInt8 × Unit) × Unit) × List (Int × List UInt8 × Bool × Unit) × Bool × Unit) : Option V_spec_l12Epochs :=
  (spec_RegOk (p0.1, p0.2.1, ()) (p0.2.2.2.2.1, p0.2.2.2.2.2.1, ())).bind fun u2 =>
  cond (!u2.1.1)
    (some ((false, ()), ()))
  (cond (decide ((p0.2.2.2.2.2.2.1.length : Int) > 4))
    (some ((false, ()), ()))
  (cond (decide ((p0.2.2.2.2.2.2.2.1.length : Int) > 1))
    (some ((false, ()), ()))
  (R5 (p0.2.2.2.2.1.length : Int) 0 p0.1 p0.2.1 p0.2.2.1 p0.2.2.2.1 p0.2.2.2.2.1 p0.2.2.2.2.2.1 p0.2.2.2.2.2.2.1 p0.2.2.2.2.2.2.2.1 p0.2.2.2.2.2.2.2.2.1 p0.2.2.2.2.2.2.2.2.2.1 p0.2.2.2.2.2.2.2.2.2.2.1)))
def spec_l12Epochs (p0 : List Int × Int × List (List (Int × Int × Bool × List UInt8 × Unit) × List (Int × Int × Bool × List UInt8 × Unit) × Int × Unit) × List Int × List (List Int × Bool × Int × Unit) × Int × List (Int × List (List UInt8 × List Int × Bool × Unit) × Unit) × List (Int × Int × List Int × List (Int × Int × Bool × List UInt8 × Unit) × Bool × List (List Int) × Unit) × List (Int × Int × List (Int × Int × List UInt8 × Unit) × Unit) × List (Int × List UInt8 × Bool × Unit) × Bool × Unit) : Option V_spec_l12Epochs := spec_l12Epochs_entry (spec_l12Epochs_L5 FUEL) (spec_l12Epochs_L10 FUEL) p0

/-- spec.l12Sent -/
abbrev V_spec_l12Sent : Type := (Bool × Unit) × Unit
def spec_l12Sent_step4 (R4 : Int → List Int → Int → (List (List (Int × Int × Bool × List UInt8 × Unit) × List (Int × Int × Bool × List UInt8 × Unit) × Int × Unit)) → List Int → (List (List Int × Bool × Int × Unit)) → Int → (List (Int × List (List UInt8 × List Int × Bool × Unit) × Unit)) → (List (Int × Int × List Int × List (Int × Int × Bool × List UInt8 × Unit) × Bool × List (List Int) × Unit)) → (List (Int × Int × List (Int × Int × List UInt8 × Unit) × Unit)) → (List (Int × List UInt8 × Bool × Unit)) → Bool → Option V_spec_l12Sent) (t3 : Int) (b0_0 : List Int) (b0_1 : Int) (b0_2 : List (List (Int × Int × Bool × List UInt8 × Unit) × List (Int × Int × Bool × List UInt8 × Unit) × Int × Unit)) (b0_3 : List Int) (b0_4 : List (List Int × Bool × Int × Unit)) (b0_5 : Int) (b0_6 : List (Int × List (List UInt8 × List Int × Bool × Unit) × Unit)) (b0_7 : List (Int × Int × List Int × List (Int × Int × Bool × List UInt8 × Unit) × Bool × List (List Int) × Unit)) (b0_8 : List (Int × Int × List (Int × Int × List UInt8 × Unit) × Unit)) (b0_9 : List (Int × List UInt8 × Bool × Unit)) (b0_10 : Bool) : Option V_spec_l12Sent :=
  cond ((decide (t3 < (b0_9.length : Int))))
    (if (0 : Int) ≤ t3 ∧ t3 < (b0_9.length : Int) then (
    (spec_PlaceOk ((b0_9.getD (t3.toNat) (0, [], false, ())).1)).bind fun u4 =>
    cond (!u4.1.1)
      (some ((false, ()), ()))
    ((spec_EpochOf ((b0_9.getD (t3.toNat) (0, [], false, ())).1)).bind fun u6 =>
    cond ((decide (u6.1.1 > (b0_4.length : Int))))
      (some ((false, ()), ()))
    (cond ((decide ((((b0_9.getD (t3.toNat) (0, [], false, ())).2.1).length : Int) > 40)))
      (some ((false, ()), ()))
    (cond (decide (t3 > 0))
      (if (0 : Int) ≤ w64 (t3 - 1) ∧ w64 (t3 - 1) < (b0_9.length : Int) then (
      cond (decide (((b0_9.getD ((w64 (t3 - 1)).toNat) (0, [], false, ())).1) ≥ ((b0_9.getD (t3.toNat) (0, [], false, ())).1)))
        (some ((false, ()), ()))
      (R4 (w64 (t3 + 1)) b0_0 b0_1 b0_2 b0_3 b0_4 b0_5 b0_6 b0_7 b0_8 b0_9 b0_10)) else none)
    (R4 (w64 (t3 + 1)) b0_0 b0_1 b0_2 b0_3 b0_4 b0_5 b0_6 b0_7 b0_8 b0_9 b0_10))))) else none)
  (some ((true, ()), ()))
def spec_l12Sent_L4 : Nat → Int → List Int → Int → (List (List (Int × Int × Bool × List UInt8 × Unit) × List (Int × Int × Bool × List UInt8 × Unit) × Int × Unit)) → List Int → (List (List Int × Bool × Int × Unit)) → Int → (List (Int × List (List UInt8 × List Int × Bool × Unit) × Unit)) → (List (Int × Int × List Int × List (Int × Int × Bool × List UInt8 × Unit) × Bool × List (List Int) × Unit)) → (List (Int × Int × List (Int × Int × List UInt8 × Unit) × Unit)) → (List (Int × List UInt8 × Bool × Unit)) → Bool → Option V_spec_l12Sent
  | 0, _, _, _, _, _, _, _, _, _, _, _, _ => none
  | n + 1, a0, a1, a2, a3, a4, a5, a6, a7, a8, a9, a10, a11 => spec_l12Sent_step4 (spec_l12Sent_L4 n) a0 a1 a2 a3 a4 a5 a6 a7 a8 a9 a10 a11
def spec_l12Sent_entry (R4 : Int → List Int → Int → (List (List (Int × Int × Bool × List UInt8 × Unit) × List (Int × Int × Bool × List UInt8 × Unit) × Int × Unit)) → List Int → (List (List Int × Bool × Int × Unit)) → Int → (List (Int × List (List UInt8 × List Int × Bool × Unit) × Unit)) → (List (Int × Int × List Int × List (Int × Int × Bool × List UInt8 × Unit) × Bool × List (List Int) × Unit)) → (List (Int × Int × List (Int × Int × List UInt8 × Unit) × Unit)) → (List (Int × List UInt8 × Bool × Unit)) → Bool → Option V_spec_l12Sent) (p0 : List Int × Int × List (List (Int × Int × Bool × List UInt8 × Unit) × List (Int × Int × Bool × List UInt8 × Unit) × Int × Unit) × List Int × List (List Int × Bool × Int × Unit) × Int × List (Int × List (List UInt8 × List Int × Bool × Unit) × Unit) × List (Int × Int × List Int × List (Int × Int × Bool × List UInt8 × Unit) × Bool × List (List Int) × Unit) × List (Int × Int × List (Int × Int × List UInt8 × Unit) × Unit) × List (Int × List UInt8 × Bool × Unit) × Bool × Unit) : Option V_spec_l12Sent :=
  cond (decide ((p0.2.2.2.2.2.2.2.2.2.1.length : Int) > 120))
    (some ((false, ()), ()))
  (R4 0 p0.1 p0.2.1 p0.2.2.1 p0.2.2.2.1 p0.2.2.2.2.1 p0.2.2.2.2.2.1 p0.2.2.2.2.2.2.1 p0.2.2.2.2.2.2.2.1 p0.2.2.2.2.2.2.2.2.1 p0.2.2.2.2.2.2.2.2.2.1 p0.2.2.2.2.2.2.2.2.2.2.1)
def spec_l12Sent (p0 : List Int × Int × List (List (Int × Int × Bool × List UInt8 × Unit) × List (Int × Int × Bool × List UInt8 × Unit) × Int × Unit) × List Int × List (List Int × Bool × Int × Unit) × Int × List (Int × List (List UInt8 × List Int × Bool × Unit) × Unit) × List (Int × Int × List Int × List (Int × Int × Bool × List UInt8 × Unit) × Bool × List (List Int) × Unit) × List (Int × Int × List (Int × Int × List UInt8 × Unit) × Unit) × List (Int × List UInt8 × Bool × Unit) × Bool × Unit) : Option V_spec_l12Sent := spec_l12Sent_entry (spec_l12Sent_L4 FUEL) p0

/-- spec.WorldOk -/
abbrev V_spec_WorldOk : Type := (Bool × Unit) × Unit
def spec_WorldOk (p0 : List Int × Int × List (List (Int × Int × Bool × List UInt8 × Unit) × List (Int × Int × Bool × List UInt8 × Unit) × Int × Unit) × List Int × List (List Int × Bool × Int × Unit) × Int × List (Int × List (List UInt8 × List Int × Bool × Unit) × Unit) × List (Int × Int × List Int × List (Int × Int × Bool × List UInt8 × Unit) × Bool × List (List Int) × Unit) × List (Int × Int × List (Int × Int × List UInt8 × Unit) × Unit) × List (Int × List UInt8 × Bool × Unit) × Bool × Unit) : Option V_spec_WorldOk :=
  (spec_l12Nodes (p0.1, p0.2.1, p0.2.2.1, p0.2.2.2.1, p0.2.2.2.2.1, p0.2.2.2.2.2.1, p0.2.2.2.2.2.2.1, p0.2.2.2.2.2.2.2.1, p0.2.2.2.2.2.2.2.2.1, p0.2.2.2.2.2.2.2.2.2.1, p0.2.2.2.2.2.2.2.2.2.2.1, ())).bind fun u1 =>
  cond (u1.1.1)
    ((spec_l12Epochs (p0.1, p0.2.1, p0.2.2.1, p0.2.2.2.1, p0.2.2.2.2.1, p0.2.2.2.2.2.1, p0.2.2.2.2.2.2.1, p0.2.2.2.2.2.2.2.1, p0.2.2.2.2.2.2.2.2.1, p0.2.2.2.2.2.2.2.2.2.1, p0.2.2.2.2.2.2.2.2.2.2.1, ())).bind fun u2 =>
    cond (u2.1.1)
      (cond ((p0.2.2.2.2.2.2.2.2.1.length : Int) == 2)
        (if (0 : Int) ≤ (0 : Int) ∧ (0 : Int) < (p0.2.2.2.2.2.2.2.2.1.length : Int) then (
        (spec_ReaderOk ((p0.2.2.2.2.2.2.2.2.1.getD 0 (0, 0, [], ())).1, (p0.2.2.2.2.2.2.2.2.1.getD 0 (0, 0, [], ())).2.1, (p0.2.2.2.2.2.2.2.2.1.getD 0 (0, 0, [], ())).2.2.1, ())).bind fun u4 =>
        cond (u4.1.1)
          (if (0 : Int) ≤ (1 : Int) ∧ (1 : Int) < (p0.2.2.2.2.2.2.2.2.1.length : Int) then (
          (spec_ReaderOk ((p0.2.2.2.2.2.2.2.2.1.getD 1 (0, 0, [], ())).1, (p0.2.2.2.2.2.2.2.2.1.getD 1 (0, 0, [], ())).2.1, (p0.2.2.2.2.2.2.2.2.1.getD 1 (0, 0, [], ())).2.2.1, ())).bind fun u5 =>
          cond (u5.1.1)
            ((spec_l12Sent (p0.1, p0.2.1, p0.2.2.1, p0.2.2.2.1, p0.2.2.2.2.1, p0.2.2.2.2.2.1, p0.2.2.2.2.2.2.1, p0.2.2.2.2.2.2.2.1, p0.2.2.2.2.2.2.2.2.1, p0.2.2.2.2.2.2.2.2.2.1, p0.2.2.2.2.2.2.2.2.2.2.1, ())).bind fun u6 =>
            some ((u6.1.1, ()), ()))
          (some ((false, ()), ()))) else none)
        (some ((false, ()), ()))) else none)
      (some ((false, ()), ())))
    (some ((false, ()), ())))
  (some ((false, ()), ()))

/-- impl.EntryOk -/
abbrev V_impl_EntryOk : Type := (Bool × Unit) × Unit
def impl_EntryOk (p0 : Int × Int × Bool × List UInt8 × Unit) : Option V_impl_EntryOk :=
  (impl_within p0.2.1 0 30).bind fun u1 =>
  cond (u1.1.1)
    (cond (p0.2.1 == 0)
      (cond (!p0.2.2.1)
        ((impl_PlaceOk p0.1).bind fun u2 =>
        cond (u2.1.1)
          ((impl_dataOk p0.2.2.2.1).bind fun u3 =>
          some ((u3.1.1, ()), ()))
        (some ((false, ()), ())))
      (cond (decide (p0.2.1 > 0))
        ((impl_PlaceOk p0.1).bind fun u4 =>
        cond (u4.1.1)
          (cond (p0.2.2.2.1 == [])
            ((impl_dataOk p0.2.2.2.1).bind fun u5 =>
            some ((u5.1.1, ()), ()))
          (some ((false, ()), ())))
        (some ((false, ()), ())))
      ((impl_PlaceOk p0.1).bind fun u6 =>
      cond (u6.1.1)
        (some ((false, ()), ()))
      (some ((false, ()), ())))))
    ((impl_EpochOf p0.1).bind fun u7 =>
    let x8 : Bool := decide (p0.2.1 > u7.1.1)
    cond (!p0.2.2.1)
      ((impl_PlaceOk p0.1).bind fun u9 =>
      cond (u9.1.1)
        (cond (x8)
          ((impl_dataOk p0.2.2.2.1).bind fun u10 =>
          some ((u10.1.1, ()), ()))
        (some ((false, ()), ())))
      (some ((false, ()), ())))
    (cond (decide (p0.2.1 > 0))
      ((impl_PlaceOk p0.1).bind fun u11 =>
      cond (u11.1.1)
        (cond (x8)
          (cond (p0.2.2.2.1 == [])
            ((impl_dataOk p0.2.2.2.1).bind fun u12 =>
            some ((u12.1.1, ()), ()))
          (some ((false, ()), ())))
        (some ((false, ()), ())))
      (some ((false, ()), ())))
    ((impl_PlaceOk p0.1).bind fun u13 =>
    cond (u13.1.1)
      (cond (x8)
        (some ((false, ()), ()))
      (some ((false, ()), ())))
    (some ((false, ()), ()))))))
  (cond (!p0.2.2.1)
    ((impl_PlaceOk p0.1).bind fun u14 =>
    cond (u14.1.1)
      (some ((false, ()), ()))
    (some ((false, ()), ())))
  (cond (decide (p0.2.1 > 0))
    ((impl_PlaceOk p0.1).bind fun u15 =>
    cond (u15.1.1)
      (some ((false, ()), ()))
    (some ((false, ()), ())))
  ((impl_PlaceOk p0.1).bind fun u16 =>
  cond (u16.1.1)
    (some ((false, ()), ()))
  (some ((false, ()), ())))))

/-- impl.entriesOk -/
abbrev V_impl_entriesOk : Type := (Bool × Unit) × Unit
def impl_entriesOk_step2 (R2 : (List (Int × Int × Bool × List UInt8 × Unit)) → Int → Int → Option V_impl_entriesOk) (t5 : List (Int × Int × Bool × List UInt8 × Unit)) (t6 : Int) (t7 : Int) : Option V_impl_entriesOk :=
  cond (decide (t7 < t6))
    (if (0 : Int) ≤ t7 ∧ t7 < (t5.length : Int) then (
    (impl_EntryOk ((t5.getD (t7.toNat) (0, 0, false, [], ())).1, (t5.getD (t7.toNat) (0, 0, false, [], ())).2.1, (t5.getD (t7.toNat) (0, 0, false, [], ())).2.2.1, (t5.getD (t7.toNat) (0, 0, false, [], ())).2.2.2.1, ())).bind fun u1 =>
    cond (!u1.1.1)
      (some ((false, ()), ()))
    (R2 t5 t6 (w64 (t7 + 1)))) else none)
  (some ((true, ()), ()))
def impl_entriesOk_L2 : Nat → (List (Int × Int × Bool × List UInt8 × Unit)) → Int → Int → Option V_impl_entriesOk
  | 0, _, _, _ => none
  | n + 1, a0, a1, a2 => impl_entriesOk_step2 (impl_entriesOk_L2 n) a0 a1 a2
def impl_entriesOk_entry (R2 : (List (Int × Int × Bool × List UInt8 × Unit)) → Int → Int → Option V_impl_entriesOk) (p0 : List (Int × Int × Bool × List UInt8 × Unit)) : Option V_impl_entriesOk :=
  R2 p0 (p0.length : Int) 0
def impl_entriesOk (p0 : List (Int × Int × Bool × List UInt8 × Unit)) : Option V_impl_entriesOk := impl_entriesOk_entry (impl_entriesOk_L2 FUEL) p0

/-- impl.placesAscend -/
abbrev V_impl_placesAscend : Type := (Bool × Unit) × Unit
def impl_placesAscend_step2 (R2 : (List (Int × Int × Bool × List UInt8 × Unit)) → (List (Int × Int × Bool × List UInt8 × Unit)) → Int → Int → Option V_impl_placesAscend) (t0 : List (Int × Int × Bool × List UInt8 × Unit)) (t5 : List (Int × Int × Bool × List UInt8 × Unit)) (t6 : Int) (t7 : Int) : Option V_impl_placesAscend :=
  cond (decide (t7 < t6))
    (if (0 : Int) ≤ t7 ∧ t7 < (t5.length : Int) then (
    cond (decide (t7 > 0))
      (if (0 : Int) ≤ w64 (t7 - 1) ∧ w64 (t7 - 1) < (t0.length : Int) then (
      cond (decide (((t0.getD ((w64 (t7 - 1)).toNat) (0, 0, false, [], ())).1) ≥ ((t5.getD (t7.toNat) (0, 0, false, [], ())).1)))
        (some ((false, ()), ()))
      (R2 t0 t5 t6 (w64 (t7 + 1)))) else none)
    (R2 t0 t5 t6 (w64 (t7 + 1)))) else none)
  (some ((true, ()), ()))
def impl_placesAscend_L2 : Nat → (List (Int × Int × Bool × List UInt8 × Unit)) → (List (Int × Int × Bool × List UInt8 × Unit)) → Int → Int → Option V_impl_placesAscend
  | 0, _, _, _, _ => none
  | n + 1, a0, a1, a2, a3 => impl_placesAscend_step2 (impl_placesAscend_L2 n) a0 a1 a2 a3
def impl_placesAscend_entry (R2 : (List (Int × Int × Bool × List UInt8 × Unit)) → (List (Int × Int × Bool × List UInt8 × Unit)) → Int → Int → Option V_impl_placesAscend) (p0 : List (Int × Int × Bool × List UInt8 × Unit)) : Option V_impl_placesAscend :=
  R2 p0 p0 (p0.length : Int) 0
def impl_placesAscend (p0 : List (Int × Int × Bool × List UInt8 × Unit)) : Option V_impl_placesAscend := impl_placesAscend_entry (impl_placesAscend_L2 FUEL) p0

/-- impl.StoreOk -/
abbrev V_impl_StoreOk : Type := (Bool × Unit) × Unit
def impl_StoreOk (p0 : List (Int × Int × Bool × List UInt8 × Unit) × List (Int × Int × Bool × List UInt8 × Unit) × Int × Unit) : Option V_impl_StoreOk :=
  cond ((decide ((p0.1.length : Int) > 200)))
    (some ((false, ()), ()))
  (cond (decide ((p0.2.1.length : Int) > 20))
    (some ((false, ()), ()))
  ((impl_entriesOk p0.1).bind fun u3 =>
  cond (u3.1.1)
    ((impl_entriesOk p0.2.1).bind fun u4 =>
    cond (u4.1.1)
      ((impl_placesAscend p0.1).bind fun u5 =>
      cond (u5.1.1)
        ((impl_within p0.2.2.1 0 30).bind fun u6 =>
        some ((u6.1.1, ()), ()))
      (some ((false, ()), ())))
    (some ((false, ()), ())))
  (some ((false, ()), ()))))

/-- impl.copyInts -/
abbrev V_impl_copyInts : Type := (Unit × Unit) × (List Int × Unit)
def impl_copyInts (p0 : List Int) : Option V_impl_copyInts :=
  if 0 + p0.length ≤ LIM then (
  some (((), ()), (p0, ()))) else none

/-- impl.both$1 -/
abbrev V_impl_both_1 : Type := (Bool × Unit) × Unit
def impl_both_1 (p0 : Int) (p1 : List Int × Unit) : Option V_impl_both_1 :=
  (slices_Contains_int_int p1.1 p0).bind fun u1 =>
  some ((!u1.1.1, ()), ())

/-- slices.IndexFunc[[]int,int] -/
abbrev V_slices_IndexFunc_int_int_impl_both_1 : Type := (Int × Unit) × Unit
def slices_IndexFunc_int_int_impl_both_1_step2 (R2 : List Int → ((List Int × Unit) × Unit) → Int → Int → Option V_slices_IndexFunc_int_int_impl_both_1) (t0 : List Int) (t1 : (List Int × Unit) × Unit) (t7 : Int) (t8 : Int) : Option V_slices_IndexFunc_int_int_impl_both_1 :=
  cond (decide (t8 < t7))
    (if (0 : Int) ≤ t8 ∧ t8 < (t0.length : Int) then (
    (impl_both_1 (t0.getD (t8.toNat) 0) t1.1).bind fun u2 =>
    cond (u2.1.1)
      (some ((t8, ()), ()))
    (R2 t0 (t1.1, ()) t7 (w64 (t8 + 1)))) else none)
  (some (((-1), ()), ()))
def slices_IndexFunc_int_int_impl_both_1_L2 : Nat → List Int → ((List Int × Unit) × Unit) → Int → Int → Option V_slices_IndexFunc_int_int_impl_both_1
  | 0, _, _, _, _ => none
  | n + 1, a0, a1, a2, a3 => slices_IndexFunc_int_int_impl_both_1_step2 (slices_IndexFunc_int_int_impl_both_1_L2 n) a0 a1 a2 a3
def slices_IndexFunc_int_int_impl_both_1_entry (R2 : List Int → ((List Int × Unit) × Unit) → Int → Int → Option V_slices_IndexFunc_int_int_impl_both_1) (p0 : List Int) (p1 : (List Int × Unit) × Unit) : Option V_slices_IndexFunc_int_int_impl_both_1 :=
  R2 p0 (p1.1, ()) (p0.length : Int) 0
def slices_IndexFunc_int_int_impl_both_1 (p0 : List Int) (p1 : (List Int × Unit) × Unit) : Option V_slices_IndexFunc_int_int_impl_both_1 := slices_IndexFunc_int_int_impl_both_1_entry (slices_IndexFunc_int_int_impl_both_1_L2 FUEL) p0 p1

/-- slices.DeleteFunc[[]int,int] -/
abbrev V_slices_DeleteFunc_int_int_impl_both_1 : Type := (Unit × Unit) × (Unit × List Int × Unit)
def slices_DeleteFunc_int_int_impl_both_1_step5 (R5 : ((List Int × Unit) × Unit) → Int → Int → List Int → Option V_slices_DeleteFunc_int_int_impl_both_1) (t1 : (List Int × Unit) × Unit) (t5 : Int) (t6 : Int) (b0 : List Int) : Option V_slices_DeleteFunc_int_int_impl_both_1 :=
  cond ((decide (t6 < (b0.length : Int))))
    (if (0 : Int) ≤ t6 ∧ t6 < (b0.length : Int) then (
    let x3 : Int := (b0.getD (t6.toNat) 0)
    (impl_both_1 x3 t1.1).bind fun u4 =>
    cond (!u4.1.1)
      (if (0 : Int) ≤ t5 ∧ t5 < (b0.length : Int) then (
      R5 (t1.1, ()) (w64 (t5 + 1)) (w64 (t6 + 1)) (b0.set (t5.toNat) x3)) else none)
    (R5 (t1.1, ()) t5 (w64 (t6 + 1)) b0)) else none)
  (if (0 : Int) ≤ t5 ∧ t5 ≤ (b0.length : Int) ∧ (b0.length : Int) ≤ (b0.length : Int) then (
  let x6 : List Int := (b0.take (t5.toNat) ++ List.replicate (((b0.length : Int).toNat) - (t5.toNat)) 0 ++ b0.drop ((t5.toNat) + (((b0.length : Int).toNat) - (t5.toNat))))
  if (0 : Int) ≤ (0 : Int) ∧ (0 : Int) ≤ t5 ∧ t5 ≤ (x6.length : Int) then (
  some (((), ()), ((), ((x6.drop 0).take ((t5.toNat) - 0)), ()))) else none) else none)
def slices_DeleteFunc_int_int_impl_both_1_L5 : Nat → ((List Int × Unit) × Unit) → Int → Int → List Int → Option V_slices_DeleteFunc_int_int_impl_both_1
  | 0, _, _, _, _ => none
  | n + 1, a0, a1, a2, a3 => slices_DeleteFunc_int_int_impl_both_1_step5 (slices_DeleteFunc_int_int_impl_both_1_L5 n) a0 a1 a2 a3
def slices_DeleteFunc_int_int_impl_both_1_entry (R5 : ((List Int × Unit) × Unit) → Int → Int → List Int → Option V_slices_DeleteFunc_int_int_impl_both_1) (p1 : (List Int × Unit) × Unit) (b0 : List Int) : Option V_slices_DeleteFunc_int_int_impl_both_1 :=
  (slices_IndexFunc_int_int_impl_both_1 b0 (p1.1, ())).bind fun u1 =>
  cond (u1.1.1 == (-1))
    (some (((), ()), ((), b0, ())))
  (R5 (p1.1, ()) u1.1.1 (w64 (u1.1.1 + 1)) b0)
def slices_DeleteFunc_int_int_impl_both_1 (p1 : (List Int × Unit) × Unit) (b0 : List Int) : Option V_slices_DeleteFunc_int_int_impl_both_1 := slices_DeleteFunc_int_int_impl_both_1_entry (slices_DeleteFunc_int_int_impl_both_1_L5 FUEL) p1 b0

/-- impl.both -/
abbrev V_impl_both : Type := (Unit × Unit) × (List Int × Unit)
def impl_both (p0 : List Int) (p1 : List Int) : Option V_impl_both :=
  (impl_copyInts p0).bind fun u1 =>
  (slices_DeleteFunc_int_int_impl_both_1 ((p1, ()), ()) u1.2.1).bind fun u2 =>
  some (((), ()), (u2.2.2.1, ()))

/-- (*impl.World).isLost -/
abbrev V_impl_World_isLost : Type := (Bool × Unit) × Unit
def impl_World_isLost (p0 : List Int × Int × List (List (Int × Int × Bool × List UInt8 × Unit) × List (Int × Int × Bool × List UInt8 × Unit) × Int × Unit) × List Int × List (List Int × Bool × Int × Unit) × Int × List (Int × List (List UInt8 × List Int × Bool × Unit) × Unit) × List (Int × Int × List Int × List (Int × Int × Bool × List UInt8 × Unit) × Bool × List (List Int) × Unit) × List (Int × Int × List (Int × Int × List UInt8 × Unit) × Unit) × List (Int × List UInt8 × Bool × Unit) × Bool × Unit) (p1 : Int) : Option V_impl_World_isLost :=
  (impl_both [p1] p0.2.2.2.1).bind fun u1 =>
  some ((decide ((u1.2.1.length : Int) > 0), ()), ())

/-- (*impl.World).storesOk -/
abbrev V_impl_World_storesOk : Type := (Bool × Unit) × Unit
def impl_World_storesOk_step4 (R4 : (List Int × Int × List (List (Int × Int × Bool × List UInt8 × Unit) × List (Int × Int × Bool × List UInt8 × Unit) × Int × Unit) × List Int × List (List Int × Bool × Int × Unit) × Int × List (Int × List (List UInt8 × List Int × Bool × Unit) × Unit) × List (Int × Int × List Int × List (Int × Int × Bool × List UInt8 × Unit) × Bool × List (List Int) × Unit) × List (Int × Int × List (Int × Int × List UInt8 × Unit) × Unit) × List (Int × List UInt8 × Bool × Unit) × Bool × Unit) → (List (List (Int × Int × Bool × List UInt8 × Unit) × List (Int × Int × Bool × List UInt8 × Unit) × Int × Unit)) → Int → Int → Option V_impl_World_storesOk) (t0 : List Int × Int × List (List (Int × Int × Bool × List UInt8 × Unit) × List (Int × Int × Bool × List UInt8 × Unit) × Int × Unit) × List Int × List (List Int × Bool × Int × Unit) × Int × List (Int × List (List UInt8 × List Int × Bool × Unit) × Unit) × List (Int × Int × List Int × List (Int × Int × Bool × List UInt8 × Unit) × Bool × List (List Int) × Unit) × List (Int × Int × List (Int × Int × List UInt8 × Unit) × Unit) × List (Int × List UInt8 × Bool × Unit) × Bool × Unit) (t32 : List (List (Int × Int × Bool × List UInt8 × Unit) × List (Int × Int × Bool × List UInt8 × Unit) × Int × Unit)) (t33 : Int) (t34 : Int) : Option V_impl_World_storesOk :=
  cond (decide (t34 < t33))
    (if (0 : Int) ≤ t34 ∧ t34 < (t32.length : Int) then (
    (impl_StoreOk ((t32.getD (t34.toNat) ([], [], 0, ())).1, (t32.getD (t34.toNat) ([], [], 0, ())).2.1, (t32.getD (t34.toNat) ([], [], 0, ())).2.2.1, ())).bind fun u5 =>
    cond (!u5.1.1)
      (some ((false, ()), ()))
    ((impl_World_isLost t0 t34).bind fun u6 =>
    cond (u6.1.1)
      (cond (decide ((w64 ((w64 ((((t32.getD (t34.toNat) ([], [], 0, ())).1).length : Int) + (((t32.getD (t34.toNat) ([], [], 0, ())).2.1).length : Int))) + ((t32.getD (t34.toNat) ([], [], 0, ())).2.2.1))) > 0))
        (some ((false, ()), ()))
      (R4 t0 t32 t33 (w64 (t34 + 1))))
    (R4 t0 t32 t33 (w64 (t34 + 1))))) else none)
  (cond (t0.2.2.2.2.2.2.2.2.2.2.1)
    (some ((true, ()), ()))
  ((impl_Holds (t0.1, t0.2.1, ()) t0.2.2.2.1).bind fun u12 =>
  some ((!u12.1.1, ()), ())))
def impl_World_storesOk_L4 : Nat → (List Int × Int × List (List (Int × Int × Bool × List UInt8 × Unit) × List (Int × Int × Bool × List UInt8 × Unit) × Int × Unit) × List Int × List (List Int × Bool × Int × Unit) × Int × List (Int × List (List UInt8 × List Int × Bool × Unit) × Unit) × List (Int × Int × List Int × List (Int × Int × Bool × List UInt8 × Unit) × Bool × List (List Int) × Unit) × List (Int × Int × List (Int × Int × List UInt8 × Unit) × Unit) × List (Int × List UInt8 × Bool × Unit) × Bool × Unit) → (List (List (Int × Int × Bool × List UInt8 × Unit) × List (Int × Int × Bool × List UInt8 × Unit) × Int × Unit)) → Int → Int → Option V_impl_World_storesOk
  | 0, _, _, _, _ => none
  | n + 1, a0, a1, a2, a3 => impl_World_storesOk_step4 (impl_World_storesOk_L4 n) a0 a1 a2 a3
def impl_World_storesOk_entry (R4 : (List Int × Int × List (List (Int × Int × Bool × List UInt8 × Unit) × List (Int × Int × Bool × List UInt8 × Unit) × Int × Unit) × List Int × List (List Int × Bool × Int × Unit) × Int × List (Int × List (List UInt8 × List Int × Bool × Unit) × Unit) × List (Int × Int × List Int × List (Int × Int × Bool × List UInt8 × Unit) × Bool × List (List Int) × Unit) × List (Int × Int × List (Int × Int × List UInt8 × Unit) × Unit) × List (Int × List UInt8 × Bool × Unit) × Bool × Unit) → (List (List (Int × Int × Bool × List UInt8 × Unit) × List (Int × Int × Bool × List UInt8 × Unit) × Int × Unit)) → Int → Int → Option V_impl_World_storesOk) (p0 : List Int × Int × List (List (Int × Int × Bool × List UInt8 × Unit) × List (Int × Int × Bool × List UInt8 × Unit) × Int × Unit) × List Int × List (List Int × Bool × Int × Unit) × Int × List (Int × List (List UInt8 × List Int × Bool × Unit) × Unit) × List (Int × Int × List Int × List (Int × Int × Bool × List UInt8 × Unit) × Bool × List (List Int) × Unit) × List (Int × Int × List (Int × Int × List UInt8 × Unit) × Unit) × List (Int × List UInt8 × Bool × Unit) × Bool × Unit) : Option V_impl_World_storesOk :=
  cond (((p0.2.2.1.length : Int) != (p0.1.length : Int)))
    (some ((false, ()), ()))
  ((impl_NodesOk (p0.1, p0.2.1, ()) p0.2.2.2.1).bind fun u3 =>
  cond (!u3.1.1)
    (some ((false, ()), ()))
  (R4 p0 p0.2.2.1 (p0.2.2.1.length : Int) 0))
def impl_World_storesOk (p0 : List Int × Int × List (List (Int × Int × Bool × List UInt8 × Unit) × List (Int × Int × Bool × List UInt8 × Unit) × Int × Unit) × List Int × List (List Int × Bool × Int × Unit) × Int × List (Int × List (List UInt8 × List Int × Bool × Unit) × Unit) × List (Int × Int × List Int × List (Int × Int × Bool × List UInt8 × Unit) × Bool × List (List Int) × Unit) × List (Int × Int × List (Int × Int × List UInt8 × Unit) × Unit) × List (Int × List UInt8 × Bool × Unit) × Bool × Unit) : Option V_impl_World_storesOk := impl_World_storesOk_entry (impl_World_storesOk_L4 FUEL) p0

/-- (*impl.World).isThere -/
abbrev V_impl_World_isThere : Type := (Bool × Unit) × Unit
def impl_World_isThere (p0 : List Int × Int × List (List (Int × Int × Bool × List UInt8 × Unit) × List (Int × Int × Bool × List UInt8 × Unit) × Int × Unit) × List Int × List (List Int × Bool × Int × Unit) × Int × List (Int × List (List UInt8 × List Int × Bool × Unit) × Unit) × List (Int × Int × List Int × List (Int × Int × Bool × List UInt8 × Unit) × Bool × List (List Int) × Unit) × List (Int × Int × List (Int × Int × List UInt8 × Unit) × Unit) × List (Int × List UInt8 × Bool × Unit) × Bool × Unit) (p1 : Int) : Option V_impl_World_isThere :=
  (impl_within p1 1 (p0.2.2.2.2.1.length : Int)).bind fun u2 =>
  some ((u2.1.1, ()), ())

/-- (*impl.World).writersOk -/
abbrev V_impl_World_writersOk : Type := (Bool × Unit) × Unit
def impl_World_writersOk_step2 (R2 : (List Int × Int × List (List (Int × Int × Bool × List UInt8 × Unit) × List (Int × Int × Bool × List UInt8 × Unit) × Int × Unit) × List Int × List (List Int × Bool × Int × Unit) × Int × List (Int × List (List UInt8 × List Int × Bool × Unit) × Unit) × List (Int × Int × List Int × List (Int × Int × Bool × List UInt8 × Unit) × Bool × List (List Int) × Unit) × List (Int × Int × List (Int × Int × List UInt8 × Unit) × Unit) × List (Int × List UInt8 × Bool × Unit) × Bool × Unit) → (List (Int × List (List UInt8 × List Int × Bool × Unit) × Unit)) → Int → Int → Option V_impl_World_writersOk) (t0 : List Int × Int × List (List (Int × Int × Bool × List UInt8 × Unit) × List (Int × Int × Bool × List UInt8 × Unit) × Int × Unit) × List Int × List (List Int × Bool × Int × Unit) × Int × List (Int × List (List UInt8 × List Int × Bool × Unit) × Unit) × List (Int × Int × List Int × List (Int × Int × Bool × List UInt8 × Unit) × Bool × List (List Int) × Unit) × List (Int × Int × List (Int × Int × List UInt8 × Unit) × Unit) × List (Int × List UInt8 × Bool × Unit) × Bool × Unit) (t8 : List (Int × List (List UInt8 × List Int × Bool × Unit) × Unit)) (t9 : Int) (t10 : Int) : Option V_impl_World_writersOk :=
  cond (decide (t10 < t9))
    (if (0 : Int) ≤ t10 ∧ t10 < (t8.length : Int) then (
    (impl_WriterOk (t0.1, t0.2.1, ()) ((t8.getD (t10.toNat) (0, [], ())).1, (t8.getD (t10.toNat) (0, [], ())).2.1, ())).bind fun u2 =>
    cond (!u2.1.1)
      (some ((false, ()), ()))
    ((impl_World_isThere t0 ((t8.getD (t10.toNat) (0, [], ())).1)).bind fun u4 =>
    cond (!u4.1.1)
      (some ((false, ()), ()))
    (cond (decide (t10 > 0))
      (if (0 : Int) ≤ w64 (t10 - 1) ∧ w64 (t10 - 1) < (t0.2.2.2.2.2.2.1.length : Int) then (
      cond (decide (((t0.2.2.2.2.2.2.1.getD ((w64 (t10 - 1)).toNat) (0, [], ())).1) ≥ ((t8.getD (t10.toNat) (0, [], ())).1)))
        (some ((false, ()), ()))
      (R2 t0 t8 t9 (w64 (t10 + 1)))) else none)
    (R2 t0 t8 t9 (w64 (t10 + 1)))))) else none)
  (some ((decide ((t0.2.2.2.2.2.2.1.length : Int) ≤ 4), ()), ()))
def impl_World_writersOk_L2 : Nat → (List Int × Int × List (List (Int × Int × Bool × List UInt8 × Unit) × List (Int × Int × Bool × List UInt8 × Unit) × Int × Unit) × List Int × List (List Int × Bool × Int × Unit) × Int × List (Int × List (List UInt8 × List Int × Bool × Unit) × Unit) × List (Int × Int × List Int × List (Int × Int × Bool × List UInt8 × Unit) × Bool × List (List Int) × Unit) × List (Int × Int × List (Int × Int × List UInt8 × Unit) × Unit) × List (Int × List UInt8 × Bool × Unit) × Bool × Unit) → (List (Int × List (List UInt8 × List Int × Bool × Unit) × Unit)) → Int → Int → Option V_impl_World_writersOk
  | 0, _, _, _, _ => none
  | n + 1, a0, a1, a2, a3 => impl_World_writersOk_step2 (impl_World_writersOk_L2 n) a0 a1 a2 a3
def impl_World_writersOk_entry (R2 : (List Int × Int × List (List (Int × Int × Bool × List UInt8 × Unit) × List (Int × Int × Bool × List UInt8 × Unit) × Int × Unit) × List Int × List (List Int × Bool × Int × Unit) × Int × List (Int × List (List UInt8 × List Int × Bool × Unit) × Unit) × List (Int × Int × List Int × List (Int × Int × Bool × List UInt8 × Unit) × Bool × List (List Int) × Unit) × List (Int × Int × List (Int × Int × List UInt8 × Unit) × Unit) × List (Int × List UInt8 × Bool × Unit) × Bool × Unit) → (List (Int × List (List UInt8 × List Int × Bool × Unit) × Unit)) → Int → Int → Option V_impl_World_writersOk) (p0 : List Int × Int × List (List (Int × Int × Bool × List UInt8 × Unit) × List (Int × Int × Bool × List UInt8 × Unit) × Int × Unit) × List Int × List (List Int × Bool × Int × Unit) × Int × List (Int × List (List UInt8 × List Int × Bool × Unit) × Unit) × List (Int × Int × List Int × List (Int × Int × Bool × List UInt8 × Unit) × Bool × List (List Int) × Unit) × List (Int × Int × List (Int × Int × List UInt8 × Unit) × Unit) × List (Int × List UInt8 × Bool × Unit) × Bool × Unit) : Option V_impl_World_writersOk :=
  R2 p0 p0.2.2.2.2.2.2.1 (p0.2.2.2.2.2.2.1.length : Int) 0
def impl_World_writersOk (p0 : List Int × Int × List (List (Int × Int × Bool × List UInt8 × Unit) × List (Int × Int × Bool × List UInt8 × Unit) × Int × Unit) × List Int × List (List Int × Bool × Int × Unit) × Int × List (Int × List (List UInt8 × List Int × Bool × Unit) × Unit) × List (Int × Int × List Int × List (Int × Int × Bool × List UInt8 × Unit) × Bool × List (List Int) × Unit) × List (Int × Int × List (Int × Int × List UInt8 × Unit) × Unit) × List (Int × List UInt8 × Bool × Unit) × Bool × Unit) : Option V_impl_World_writersOk := impl_World_writersOk_entry (impl_World_writersOk_L2 FUEL) p0

/-- impl.OffOf -/
abbrev V_impl_OffOf : Type := (Int × Unit) × Unit
def impl_OffOf (p0 : Int) : Option V_impl_OffOf :=
  (impl_PlaceOk p0).bind fun u1 =>
  cond (!u1.1.1)
    (some ((0, ()), ()))
  (some ((p0.tmod 4294967296, ()), ()))

/-- impl.lastOff -/
abbrev V_impl_lastOff : Type := (Int × Unit) × Unit
def impl_lastOff (p0 : Int × Int × List Int × List (Int × Int × Bool × List UInt8 × Unit) × Bool × List (List Int) × Unit) : Option V_impl_lastOff :=
  cond ((p0.2.2.2.1.length : Int) == 0)
    (some ((0, ()), ()))
  (let x2 : Int := (p0.2.2.2.1.length : Int)
  if (0 : Int) ≤ w64 (x2 - 1) ∧ w64 (x2 - 1) < (p0.2.2.2.1.length : Int) then (
  (impl_OffOf ((p0.2.2.2.1.getD ((w64 (x2 - 1)).toNat) (0, 0, false, [], ())).1)).bind fun u4 =>
  some ((u4.1.1, ()), ())) else none)

/-- impl.seenOk -/
abbrev V_impl_seenOk : Type := (Bool × Unit) × Unit
def impl_seenOk_step2 (R2 : (List (Int × Int × Bool × List UInt8 × Unit)) → Int → Int → Int → Int → List Int → (List (Int × Int × Bool × List UInt8 × Unit)) → Bool → List (List Int) → Option V_impl_seenOk) (t6 : List (Int × Int × Bool × List UInt8 × Unit)) (t7 : Int) (t8 : Int) (b0_0 : Int) (b0_1 : Int) (b0_2 : List Int) (b0_3 : List (Int × Int × Bool × List UInt8 × Unit)) (b0_4 : Bool) (b0_5 : List (List Int)) : Option V_impl_seenOk :=
  cond (decide (t8 < t7))
    (if (0 : Int) ≤ t8 ∧ t8 < (t6.length : Int) then (
    (impl_EntryOk ((t6.getD (t8.toNat) (0, 0, false, [], ())).1, (t6.getD (t8.toNat) (0, 0, false, [], ())).2.1, (t6.getD (t8.toNat) (0, 0, false, [], ())).2.2.1, (t6.getD (t8.toNat) (0, 0, false, [], ())).2.2.2.1, ())).bind fun u2 =>
    cond (!u2.1.1)
      (some ((false, ()), ()))
    ((impl_EpochOf ((t6.getD (t8.toNat) (0, 0, false, [], ())).1)).bind fun u4 =>
    cond (u4.1.1 != b0_1)
      (some ((false, ()), ()))
    (cond (decide (((t6.getD (t8.toNat) (0, 0, false, [], ())).2.1) ≥ b0_0))
      (some ((false, ()), ()))
    (R2 t6 t7 (w64 (t8 + 1)) b0_0 b0_1 b0_2 b0_3 b0_4 b0_5)))) else none)
  ((impl_placesAscend b0_3).bind fun u6 =>
  some ((u6.1.1, ()), ()))
def impl_seenOk_L2 : Nat → (List (Int × Int × Bool × List UInt8 × Unit)) → Int → Int → Int → Int → List Int → (List (Int × Int × Bool × List UInt8 × Unit)) → Bool → List (List Int) → Option V_impl_seenOk
  | 0, _, _, _, _, _, _, _, _, _ => none
  | n + 1, a0, a1, a2, a3, a4, a5, a6, a7, a8 => impl_seenOk_step2 (impl_seenOk_L2 n) a0 a1 a2 a3 a4 a5 a6 a7 a8
def impl_seenOk_entry (R2 : (List (Int × Int × Bool × List UInt8 × Unit)) → Int → Int → Int → Int → List Int → (List (Int × Int × Bool × List UInt8 × Unit)) → Bool → List (List Int) → Option V_impl_seenOk) (p0 : Int × Int × List Int × List (Int × Int × Bool × List UInt8 × Unit) × Bool × List (List Int) × Unit) : Option V_impl_seenOk :=
  R2 p0.2.2.2.1 (p0.2.2.2.1.length : Int) 0 p0.1 p0.2.1 p0.2.2.1 p0.2.2.2.1 p0.2.2.2.2.1 p0.2.2.2.2.2.1
def impl_seenOk (p0 : Int × Int × List Int × List (Int × Int × Bool × List UInt8 × Unit) × Bool × List (List Int) × Unit) : Option V_impl_seenOk := impl_seenOk_entry (impl_seenOk_L2 FUEL) p0

/-- impl.MendOk -/
abbrev V_impl_MendOk : Type := (Bool × Unit) × Unit
def impl_MendOk_step2 (R2 : List (List Int) → Int → Int → List Int → Int → Int → Int → List Int → (List (Int × Int × Bool × List UInt8 × Unit)) → Bool → List (List Int) → Option V_impl_MendOk) (t10 : List (List Int)) (t11 : Int) (t12 : Int) (b0_0 : List Int) (b0_1 : Int) (b1_0 : Int) (b1_1 : Int) (b1_2 : List Int) (b1_3 : List (Int × Int × Bool × List UInt8 × Unit)) (b1_4 : Bool) (b1_5 : List (List Int)) : Option V_impl_MendOk :=
  cond (decide (t12 < t11))
    (if (0 : Int) ≤ t12 ∧ t12 < (t10.length : Int) then (
    (impl_NodesOk (b0_0, b0_1, ()) (t10.getD (t12.toNat) [])).bind fun u2 =>
    cond (!u2.1.1)
      (some ((false, ()), ()))
    (R2 t10 t11 (w64 (t12 + 1)) b0_0 b0_1 b1_0 b1_1 b1_2 b1_3 b1_4 b1_5)) else none)
  (cond (b1_4)
    ((impl_lastOff (b1_0, b1_1, b1_2, b1_3, b1_4, b1_5, ())).bind fun u3 =>
    (impl_isEpoch b1_1).bind fun u4 =>
    cond (u4.1.1)
      ((impl_within b1_0 (w64 (b1_1 + 1)) 30).bind fun u5 =>
      (impl_ConfigOk (b0_0, b0_1, ())).bind fun u6 =>
      cond (u6.1.1)
        (cond (u5.1.1)
          ((impl_NodesOk (b0_0, b0_1, ()) b1_2).bind fun u7 =>
          cond (u7.1.1)
            ((impl_seenOk (b1_0, b1_1, b1_2, b1_3, b1_4, b1_5, ())).bind fun u8 =>
            cond (u8.1.1)
              (some ((((b1_5.length : Int) == u3.1.1), ()), ()))
            (some ((false, ()), ())))
          (some ((false, ()), ())))
        (some ((false, ()), ())))
      (some ((false, ()), ())))
    ((impl_ConfigOk (b0_0, b0_1, ())).bind fun u10 =>
    cond (u10.1.1)
      (some ((false, ()), ()))
    (some ((false, ()), ()))))
  ((impl_isEpoch b1_1).bind fun u11 =>
  cond (u11.1.1)
    ((impl_within b1_0 (w64 (b1_1 + 1)) 30).bind fun u12 =>
    (impl_ConfigOk (b0_0, b0_1, ())).bind fun u13 =>
    cond (u13.1.1)
      (cond (u12.1.1)
        ((impl_NodesOk (b0_0, b0_1, ()) b1_2).bind fun u14 =>
        cond (u14.1.1)
          ((impl_seenOk (b1_0, b1_1, b1_2, b1_3, b1_4, b1_5, ())).bind fun u15 =>
          cond (u15.1.1)
            (some ((((b1_5.length : Int) == 0), ()), ()))
          (some ((false, ()), ())))
        (some ((false, ()), ())))
      (some ((false, ()), ())))
    (some ((false, ()), ())))
  ((impl_ConfigOk (b0_0, b0_1, ())).bind fun u17 =>
  cond (u17.1.1)
    (some ((false, ()), ()))
  (some ((false, ()), ())))))
def impl_MendOk_L2 : Nat → List (List Int) → Int → Int → List Int → Int → Int → Int → List Int → (List (Int × Int × Bool × List UInt8 × Unit)) → Bool → List (List Int) → Option V_impl_MendOk
  | 0, _, _, _, _, _, _, _, _, _, _, _ => none
  | n + 1, a0, a1, a2, a3, a4, a5, a6, a7, a8, a9, a10 => impl_MendOk_step2 (impl_MendOk_L2 n) a0 a1 a2 a3 a4 a5 a6 a7 a8 a9 a10
def impl_MendOk_entry (R2 : List (List Int) → Int → Int → List Int → Int → Int → Int → List Int → (List (Int × Int × Bool × List UInt8 × Unit)) → Bool → List (List Int) → Option V_impl_MendOk) (p0 : List Int × Int × Unit) (p1 : Int × Int × List Int × List (Int × Int × Bool × List UInt8 × Unit) × Bool × List (List Int) × Unit) : Option V_impl_MendOk :=
  R2 p1.2.2.2.2.2.1 (p1.2.2.2.2.2.1.length : Int) 0 p0.1 p0.2.1 p1.1 p1.2.1 p1.2.2.1 p1.2.2.2.1 p1.2.2.2.2.1 p1.2.2.2.2.2.1
def impl_MendOk (p0 : List Int × Int × Unit) (p1 : Int × Int × List Int × List (Int × Int × Bool × List UInt8 × Unit) × Bool × List (List Int) × Unit) : Option V_impl_MendOk := impl_MendOk_entry (impl_MendOk_L2 FUEL) p0 p1

/-- impl.FirstOpen -/
abbrev V_impl_FirstOpen : Type := (Int × Unit) × Unit
def impl_FirstOpen_step2 (R2 : (List (List Int × Bool × Int × Unit)) → Int → Int → Option V_impl_FirstOpen) (t6 : List (List Int × Bool × Int × Unit)) (t7 : Int) (t8 : Int) : Option V_impl_FirstOpen :=
  cond (decide (t8 < t7))
    (if (0 : Int) ≤ t8 ∧ t8 < (t6.length : Int) then (
    cond (!((t6.getD (t8.toNat) ([], false, 0, ())).2.1))
      (some ((w64 (t8 + 1), ()), ()))
    (R2 t6 t7 (w64 (t8 + 1)))) else none)
  (some ((0, ()), ()))
def impl_FirstOpen_L2 : Nat → (List (List Int × Bool × Int × Unit)) → Int → Int → Option V_impl_FirstOpen
  | 0, _, _, _ => none
  | n + 1, a0, a1, a2 => impl_FirstOpen_step2 (impl_FirstOpen_L2 n) a0 a1 a2
def impl_FirstOpen_entry (R2 : (List (List Int × Bool × Int × Unit)) → Int → Int → Option V_impl_FirstOpen) (p0 : List (List Int × Bool × Int × Unit) × Int × Unit) : Option V_impl_FirstOpen :=
  R2 p0.1 (p0.1.length : Int) 0
def impl_FirstOpen (p0 : List (List Int × Bool × Int × Unit) × Int × Unit) : Option V_impl_FirstOpen := impl_FirstOpen_entry (impl_FirstOpen_L2 FUEL) p0

/-- (*impl.World).mendsOk -/
abbrev V_impl_World_mendsOk : Type := (Bool × Unit) × Unit
def impl_World_mendsOk_step2 (R2 : (List Int × Int × List (List (Int × Int × Bool × List UInt8 × Unit) × List (Int × Int × Bool × List UInt8 × Unit) × Int × Unit) × List Int × List (List Int × Bool × Int × Unit) × Int × List (Int × List (List UInt8 × List Int × Bool × Unit) × Unit) × List (Int × Int × List Int × List (Int × Int × Bool × List UInt8 × Unit) × Bool × List (List Int) × Unit) × List (Int × Int × List (Int × Int × List UInt8 × Unit) × Unit) × List (Int × List UInt8 × Bool × Unit) × Bool × Unit) → (List (Int × Int × List Int × List (Int × Int × Bool × List UInt8 × Unit) × Bool × List (List Int) × Unit)) → Int → Int → Option V_impl_World_mendsOk) (t0 : List Int × Int × List (List (Int × Int × Bool × List UInt8 × Unit) × List (Int × Int × Bool × List UInt8 × Unit) × Int × Unit) × List Int × List (List Int × Bool × Int × Unit) × Int × List (Int × List (List UInt8 × List Int × Bool × Unit) × Unit) × List (Int × Int × List Int × List (Int × Int × Bool × List UInt8 × Unit) × Bool × List (List Int) × Unit) × List (Int × Int × List (Int × Int × List UInt8 × Unit) × Unit) × List (Int × List UInt8 × Bool × Unit) × Bool × Unit) (t8 : List (Int × Int × List Int × List (Int × Int × Bool × List UInt8 × Unit) × Bool × List (List Int) × Unit)) (t9 : Int) (t10 : Int) : Option V_impl_World_mendsOk :=
  cond (decide (t10 < t9))
    (if (0 : Int) ≤ t10 ∧ t10 < (t8.length : Int) then (
    (impl_MendOk (t0.1, t0.2.1, ()) ((t8.getD (t10.toNat) (0, 0, [], [], false, [], ())).1, (t8.getD (t10.toNat) (0, 0, [], [], false, [], ())).2.1, (t8.getD (t10.toNat) (0, 0, [], [], false, [], ())).2.2.1, (t8.getD (t10.toNat) (0, 0, [], [], false, [], ())).2.2.2.1, (t8.getD (t10.toNat) (0, 0, [], [], false, [], ())).2.2.2.2.1, (t8.getD (t10.toNat) (0, 0, [], [], false, [], ())).2.2.2.2.2.1, ())).bind fun u2 =>
    cond (!u2.1.1)
      (some ((false, ()), ()))
    (cond (((t8.getD (t10.toNat) (0, 0, [], [], false, [], ())).1) != (t0.2.2.2.2.1.length : Int))
      (some ((false, ()), ()))
    ((impl_FirstOpen (t0.2.2.2.2.1, t0.2.2.2.2.2.1, ())).bind fun u6 =>
    cond (((t8.getD (t10.toNat) (0, 0, [], [], false, [], ())).2.1) != u6.1.1)
      (some ((false, ()), ()))
    (R2 t0 t8 t9 (w64 (t10 + 1)))))) else none)
  (some ((decide ((t0.2.2.2.2.2.2.2.1.length : Int) ≤ 1), ()), ()))
def impl_World_mendsOk_L2 : Nat → (List Int × Int × List (List (Int × Int × Bool × List UInt8 × Unit) × List (Int × Int × Bool × List UInt8 × Unit) × Int × Unit) × List Int × List (List Int × Bool × Int × Unit) × Int × List (Int × List (List UInt8 × List Int × Bool × Unit) × Unit) × List (Int × Int × List Int × List (Int × Int × Bool × List UInt8 × Unit) × Bool × List (List Int) × Unit) × List (Int × Int × List (Int × Int × List UInt8 × Unit) × Unit) × List (Int × List UInt8 × Bool × Unit) × Bool × Unit) → (List (Int × Int × List Int × List (Int × Int × Bool × List UInt8 × Unit) × Bool × List (List Int) × Unit)) → Int → Int → Option V_impl_World_mendsOk
  | 0, _, _, _, _ => none
  | n + 1, a0, a1, a2, a3 => impl_World_mendsOk_step2 (impl_World_mendsOk_L2 n) a0 a1 a2 a3
def impl_World_mendsOk_entry (R2 : (List Int × Int × List (List (Int × Int × Bool × List UInt8 × Unit) × List (Int × Int × Bool × List UInt8 × Unit) × Int × Unit) × List Int × List (List Int × Bool × Int × Unit) × Int × List (Int × List (List UInt8 × List Int × Bool × Unit) × Unit) × List (Int × Int × List Int × List (Int × Int × Bool × List UInt8 × Unit) × Bool × List (List Int) × Unit) × List (Int × Int × List (Int × Int × List UInt8 × Unit) × Unit) × List (Int × List UInt8 × Bool × Unit) × Bool × Unit) → (List (Int × Int × List Int × List (Int × Int × Bool × List UInt8 × Unit) × Bool × List (List Int) × Unit)) → Int → Int → Option V_impl_World_mendsOk) (p0 : List Int × Int × List (List (Int × Int × Bool × List UInt8 × Unit) × List (Int × Int × Bool × List UInt8 × Unit) × Int × Unit) × List Int × List (List Int × Bool × Int × Unit) × Int × List (Int × List (List UInt8 × List Int × Bool × Unit) × Unit) × List (Int × Int × List Int × List (Int × Int × Bool × List UInt8 × Unit) × Bool × List (List Int) × Unit) × List (Int × Int × List (Int × Int × List UInt8 × Unit) × Unit) × List (Int × List UInt8 × Bool × Unit) × Bool × Unit) : Option V_impl_World_mendsOk :=
  R2 p0 p0.2.2.2.2.2.2.2.1 (p0.2.2.2.2.2.2.2.1.length : Int) 0
def impl_World_mendsOk (p0 : List Int × Int × List (List (Int × Int × Bool × List UInt8 × Unit) × List (Int × Int × Bool × List UInt8 × Unit) × Int × Unit) × List Int × List (List Int × Bool × Int × Unit) × Int × List (Int × List (List UInt8 × List Int × Bool × Unit) × Unit) × List (Int × Int × List Int × List (Int × Int × Bool × List UInt8 × Unit) × Bool × List (List Int) × Unit) × List (Int × Int × List (Int × Int × List UInt8 × Unit) × Unit) × List (Int × List UInt8 × Bool × Unit) × Bool × Unit) : Option V_impl_World_mendsOk := impl_World_mendsOk_entry (impl_World_mendsOk_L2 FUEL) p0

/-- (*impl.World).readersOk -/
abbrev V_impl_World_readersOk : Type := (Bool × Unit) × Unit
def impl_World_readersOk_step2 (R2 : (List Int × Int × List (List (Int × Int × Bool × List UInt8 × Unit) × List (Int × Int × Bool × List UInt8 × Unit) × Int × Unit) × List Int × List (List Int × Bool × Int × Unit) × Int × List (Int × List (List UInt8 × List Int × Bool × Unit) × Unit) × List (Int × Int × List Int × List (Int × Int × Bool × List UInt8 × Unit) × Bool × List (List Int) × Unit) × List (Int × Int × List (Int × Int × List UInt8 × Unit) × Unit) × List (Int × List UInt8 × Bool × Unit) × Bool × Unit) → (List (Int × Int × List (Int × Int × List UInt8 × Unit) × Unit)) → Int → Int → Option V_impl_World_readersOk) (t0 : List Int × Int × List (List (Int × Int × Bool × List UInt8 × Unit) × List (Int × Int × Bool × List UInt8 × Unit) × Int × Unit) × List Int × List (List Int × Bool × Int × Unit) × Int × List (Int × List (List UInt8 × List Int × Bool × Unit) × Unit) × List (Int × Int × List Int × List (Int × Int × Bool × List UInt8 × Unit) × Bool × List (List Int) × Unit) × List (Int × Int × List (Int × Int × List UInt8 × Unit) × Unit) × List (Int × List UInt8 × Bool × Unit) × Bool × Unit) (t8 : List (Int × Int × List (Int × Int × List UInt8 × Unit) × Unit)) (t9 : Int) (t10 : Int) : Option V_impl_World_readersOk :=
  cond (decide (t10 < t9))
    (if (0 : Int) ≤ t10 ∧ t10 < (t8.length : Int) then (
    (impl_ReaderOk ((t8.getD (t10.toNat) (0, 0, [], ())).1, (t8.getD (t10.toNat) (0, 0, [], ())).2.1, (t8.getD (t10.toNat) (0, 0, [], ())).2.2.1, ())).bind fun u2 =>
    cond (!u2.1.1)
      (some ((false, ()), ()))
    (R2 t0 t8 t9 (w64 (t10 + 1)))) else none)
  (some (((t0.2.2.2.2.2.2.2.2.1.length : Int) == 2, ()), ()))
def impl_World_readersOk_L2 : Nat → (List Int × Int × List (List (Int × Int × Bool × List UInt8 × Unit) × List (Int × Int × Bool × List UInt8 × Unit) × Int × Unit) × List Int × List (List Int × Bool × Int × Unit) × Int × List (Int × List (List UInt8 × List Int × Bool × Unit) × Unit) × List (Int × Int × List Int × List (Int × Int × Bool × List UInt8 × Unit) × Bool × List (List Int) × Unit) × List (Int × Int × List (Int × Int × List UInt8 × Unit) × Unit) × List (Int × List UInt8 × Bool × Unit) × Bool × Unit) → (List (Int × Int × List (Int × Int × List UInt8 × Unit) × Unit)) → Int → Int → Option V_impl_World_readersOk
  | 0, _, _, _, _ => none
  | n + 1, a0, a1, a2, a3 => impl_World_readersOk_step2 (impl_World_readersOk_L2 n) a0 a1 a2 a3
def impl_World_readersOk_entry (R2 : (List Int × Int × List (List (Int × Int × Bool × List UInt8 × Unit) × List (Int × Int × Bool × List UInt8 × Unit) × Int × Unit) × List Int × List (List Int × Bool × Int × Unit) × Int × List (Int × List (List UInt8 × List Int × Bool × Unit) × Unit) × List (Int × Int × List Int × List (Int × Int × Bool × List UInt8 × Unit) × Bool × List (List Int) × Unit) × List (Int × Int × List (Int × Int × List UInt8 × Unit) × Unit) × List (Int × List UInt8 × Bool × Unit) × Bool × Unit) → (List (Int × Int × List (Int × Int × List UInt8 × Unit) × Unit)) → Int → Int → Option V_impl_World_readersOk) (p0 : List Int × Int × List (List (Int × Int × Bool × List UInt8 × Unit) × List (Int × Int × Bool × List UInt8 × Unit) × Int × Unit) × List Int × List (List Int × Bool × Int × Unit) × Int × List (Int × List (List UInt8 × List Int × Bool × Unit) × Unit) × List (Int × Int × List Int × List (Int × Int × Bool × List UInt8 × Unit) × Bool × List (List Int) × Unit) × List (Int × Int × List (Int × Int × List UInt8 × Unit) × Unit) × List (Int × List UInt8 × Bool × Unit) × Bool × Unit) : Option V_impl_World_readersOk :=
  R2 p0 p0.2.2.2.2.2.2.2.2.1 (p0.2.2.2.2.2.2.2.2.1.length : Int) 0
def impl_World_readersOk (p0 : List Int × Int × List (List (Int × Int × Bool × List UInt8 × Unit) × List (Int × Int × Bool × List UInt8 × Unit) × Int × Unit) × List Int × List (List Int × Bool × Int × Unit) × Int × List (Int × List (List UInt8 × List Int × Bool × Unit) × Unit) × List (Int × Int × List Int × List (Int × Int × Bool × List UInt8 × Unit) × Bool × List (List Int) × Unit) × List (Int × Int × List (Int × Int × List UInt8 × Unit) × Unit) × List (Int × List UInt8 × Bool × Unit) × Bool × Unit) : Option V_impl_World_readersOk := impl_World_readersOk_entry (impl_World_readersOk_L2 FUEL) p0

/-- (*impl.World).sentOk -/
abbrev V_impl_World_sentOk : Type := (Bool × Unit) × Unit
def impl_World_sentOk_step2 (R2 : (List Int × Int × List (List (Int × Int × Bool × List UInt8 × Unit) × List (Int × Int × Bool × List UInt8 × Unit) × Int × Unit) × List Int × List (List Int × Bool × Int × Unit) × Int × List (Int × List (List UInt8 × List Int × Bool × Unit) × Unit) × List (Int × Int × List Int × List (Int × Int × Bool × List UInt8 × Unit) × Bool × List (List Int) × Unit) × List (Int × Int × List (Int × Int × List UInt8 × Unit) × Unit) × List (Int × List UInt8 × Bool × Unit) × Bool × Unit) → (List (Int × List UInt8 × Bool × Unit)) → Int → Int → Option V_impl_World_sentOk) (t0 : List Int × Int × List (List (Int × Int × Bool × List UInt8 × Unit) × List (Int × Int × Bool × List UInt8 × Unit) × Int × Unit) × List Int × List (List Int × Bool × Int × Unit) × Int × List (Int × List (List UInt8 × List Int × Bool × Unit) × Unit) × List (Int × Int × List Int × List (Int × Int × Bool × List UInt8 × Unit) × Bool × List (List Int) × Unit) × List (Int × Int × List (Int × Int × List UInt8 × Unit) × Unit) × List (Int × List UInt8 × Bool × Unit) × Bool × Unit) (t8 : List (Int × List UInt8 × Bool × Unit)) (t9 : Int) (t10 : Int) : Option V_impl_World_sentOk :=
  cond (decide (t10 < t9))
    (if (0 : Int) ≤ t10 ∧ t10 < (t8.length : Int) then (
    (impl_EpochOf ((t8.getD (t10.toNat) (0, [], false, ())).1)).bind fun u3 =>
    (impl_World_isThere t0 u3.1.1).bind fun u4 =>
    cond (!u4.1.1)
      (some ((false, ()), ()))
    ((impl_dataOk ((t8.getD (t10.toNat) (0, [], false, ())).2.1)).bind fun u6 =>
    cond (!u6.1.1)
      (some ((false, ()), ()))
    (cond (decide (t10 > 0))
      (if (0 : Int) ≤ w64 (t10 - 1) ∧ w64 (t10 - 1) < (t0.2.2.2.2.2.2.2.2.2.1.length : Int) then (
      cond (decide (((t0.2.2.2.2.2.2.2.2.2.1.getD ((w64 (t10 - 1)).toNat) (0, [], false, ())).1) ≥ ((t8.getD (t10.toNat) (0, [], false, ())).1)))
        (some ((false, ()), ()))
      (R2 t0 t8 t9 (w64 (t10 + 1)))) else none)
    (R2 t0 t8 t9 (w64 (t10 + 1)))))) else none)
  (some ((decide ((t0.2.2.2.2.2.2.2.2.2.1.length : Int) ≤ 120), ()), ()))
def impl_World_sentOk_L2 : Nat → (List Int × Int × List (List (Int × Int × Bool × List UInt8 × Unit) × List (Int × Int × Bool × List UInt8 × Unit) × Int × Unit) × List Int × List (List Int × Bool × Int × Unit) × Int × List (Int × List (List UInt8 × List Int × Bool × Unit) × Unit) × List (Int × Int × List Int × List (Int × Int × Bool × List UInt8 × Unit) × Bool × List (List Int) × Unit) × List (Int × Int × List (Int × Int × List UInt8 × Unit) × Unit) × List (Int × List UInt8 × Bool × Unit) × Bool × Unit) → (List (Int × List UInt8 × Bool × Unit)) → Int → Int → Option V_impl_World_sentOk
  | 0, _, _, _, _ => none
  | n + 1, a0, a1, a2, a3 => impl_World_sentOk_step2 (impl_World_sentOk_L2 n) a0 a1 a2 a3
def impl_World_sentOk_entry (R2 : (List Int × Int × List (List (Int × Int × Bool × List UInt8 × Unit) × List (Int × Int × Bool × List UInt8 × Unit) × Int × Unit) × List Int × List (List Int × Bool × Int × Unit) × Int × List (Int × List (List UInt8 × List Int × Bool × Unit) × Unit) × List (Int × Int × List Int × List (Int × Int × Bool × List UInt8 × Unit) × Bool × List (List Int) × Unit) × List (Int × Int × List (Int × Int × List UInt8 × Unit) × Unit) × List (Int × List UInt8 × Bool × Unit) × Bool × Unit) → (List (Int × List UInt8 × Bool × Unit)) → Int → Int → Option V_impl_World_sentOk) (p0 : List Int × Int × List (List (Int × Int × Bool × List UInt8 × Unit) × List (Int × Int × Bool × List UInt8 × Unit) × Int × Unit) × List Int × List (List Int × Bool × Int × Unit) × Int × List (Int × List (List UInt8 × List Int × Bool × Unit) × Unit) × List (Int × Int × List Int × List (Int × Int × Bool × List UInt8 × Unit) × Bool × List (List Int) × Unit) × List (Int × Int × List (Int × Int × List UInt8 × Unit) × Unit) × List (Int × List UInt8 × Bool × Unit) × Bool × Unit) : Option V_impl_World_sentOk :=
  R2 p0 p0.2.2.2.2.2.2.2.2.2.1 (p0.2.2.2.2.2.2.2.2.2.1.length : Int) 0
def impl_World_sentOk (p0 : List Int × Int × List (List (Int × Int × Bool × List UInt8 × Unit) × List (Int × Int × Bool × List UInt8 × Unit) × Int × Unit) × List Int × List (List Int × Bool × Int × Unit) × Int × List (Int × List (List UInt8 × List Int × Bool × Unit) × Unit) × List (Int × Int × List Int × List (Int × Int × Bool × List UInt8 × Unit) × Bool × List (List Int) × Unit) × List (Int × Int × List (Int × Int × List UInt8 × Unit) × Unit) × List (Int × List UInt8 × Bool × Unit) × Bool × Unit) : Option V_impl_World_sentOk := impl_World_sentOk_entry (impl_World_sentOk_L2 FUEL) p0

/-- impl.WorldOk -/
abbrev V_impl_WorldOk : Type := (Bool × Unit) × Unit
def impl_WorldOk (p0 : List Int × Int × List (List (Int × Int × Bool × List UInt8 × Unit) × List (Int × Int × Bool × List UInt8 × Unit) × Int × Unit) × List Int × List (List Int × Bool × Int × Unit) × Int × List (Int × List (List UInt8 × List Int × Bool × Unit) × Unit) × List (Int × Int × List Int × List (Int × Int × Bool × List UInt8 × Unit) × Bool × List (List Int) × Unit) × List (Int × Int × List (Int × Int × List UInt8 × Unit) × Unit) × List (Int × List UInt8 × Bool × Unit) × Bool × Unit) : Option V_impl_WorldOk :=
  (impl_ConfigOk (p0.1, p0.2.1, ())).bind fun u1 =>
  cond (u1.1.1)
    ((impl_World_storesOk (p0.1, p0.2.1, p0.2.2.1, p0.2.2.2.1, p0.2.2.2.2.1, p0.2.2.2.2.2.1, p0.2.2.2.2.2.2.1, p0.2.2.2.2.2.2.2.1, p0.2.2.2.2.2.2.2.2.1, p0.2.2.2.2.2.2.2.2.2.1, p0.2.2.2.2.2.2.2.2.2.2.1, ())).bind fun u2 =>
    cond (u2.1.1)
      ((impl_RegOk (p0.1, p0.2.1, ()) (p0.2.2.2.2.1, p0.2.2.2.2.2.1, ())).bind fun u3 =>
      cond (u3.1.1)
        ((impl_World_writersOk (p0.1, p0.2.1, p0.2.2.1, p0.2.2.2.1, p0.2.2.2.2.1, p0.2.2.2.2.2.1, p0.2.2.2.2.2.2.1, p0.2.2.2.2.2.2.2.1, p0.2.2.2.2.2.2.2.2.1, p0.2.2.2.2.2.2.2.2.2.1, p0.2.2.2.2.2.2.2.2.2.2.1, ())).bind fun u4 =>
        cond (u4.1.1)
          ((impl_World_mendsOk (p0.1, p0.2.1, p0.2.2.1, p0.2.2.2.1, p0.2.2.2.2.1, p0.2.2.2.2.2.1, p0.2.2.2.2.2.2.1, p0.2.2.2.2.2.2.2.1, p0.2.2.2.2.2.2.2.2.1, p0.2.2.2.2.2.2.2.2.2.1, p0.2.2.2.2.2.2.2.2.2.2.1, ())).bind fun u5 =>
          cond (u5.1.1)
            ((impl_World_readersOk (p0.1, p0.2.1, p0.2.2.1, p0.2.2.2.1, p0.2.2.2.2.1, p0.2.2.2.2.2.1, p0.2.2.2.2.2.2.1, p0.2.2.2.2.2.2.2.1, p0.2.2.2.2.2.2.2.2.1, p0.2.2.2.2.2.2.2.2.2.1, p0.2.2.2.2.2.2.2.2.2.2.1, ())).bind fun u6 =>
            cond (u6.1.1)
              ((impl_World_sentOk (p0.1, p0.2.1, p0.2.2.1, p0.2.2.2.1, p0.2.2.2.2.1, p0.2.2.2.2.2.1, p0.2.2.2.2.2.2.1, p0.2.2.2.2.2.2.2.1, p0.2.2.2.2.2.2.2.2.1, p0.2.2.2.2.2.2.2.2.2.1, p0.2.2.2.2.2.2.2.2.2.2.1, ())).bind fun u7 =>
              some ((u7.1.1, ()), ()))
            (some ((false, ()), ())))
          (some ((false, ()), ())))
        (some ((false, ()), ())))
      (some ((false, ()), ())))
    (some ((false, ()), ())))
  (some ((false, ()), ()))

/-- laws.eqEntry -/
abbrev V_laws_eqEntry : Type := (Bool × Unit) × Unit
def laws_eqEntry (p0 : Int × Int × Bool × List UInt8 × Unit) (p1 : Int × Int × Bool × List UInt8 × Unit) : Option V_laws_eqEntry :=
  cond (p0.1 != p1.1)
    (some ((false, ()), ()))
  (cond (p0.2.1 != p1.2.1)
    (some ((false, ()), ()))
  (cond (p0.2.2.1 != p1.2.2.1)
    (some ((false, ()), ()))
  (cond ((!(p0.2.2.2.1 == p1.2.2.2.1)))
    (some ((false, ()), ()))
  (some ((true, ()), ())))))

/-- laws.eqEntryS -/
abbrev V_laws_eqEntryS : Type := (Bool × Unit) × Unit
def laws_eqEntryS_step4 (R4 : (List (Int × Int × Bool × List UInt8 × Unit)) → (List (Int × Int × Bool × List UInt8 × Unit)) → Int → Option V_laws_eqEntryS) (t0 : List (Int × Int × Bool × List UInt8 × Unit)) (t1 : List (Int × Int × Bool × List UInt8 × Unit)) (t5 : Int) : Option V_laws_eqEntryS :=
  cond ((decide (t5 < (t0.length : Int))))
    (if (0 : Int) ≤ t5 ∧ t5 < (t0.length : Int) then (
    if (0 : Int) ≤ t5 ∧ t5 < (t1.length : Int) then (
    (laws_eqEntry ((t0.getD (t5.toNat) (0, 0, false, [], ())).1, (t0.getD (t5.toNat) (0, 0, false, [], ())).2.1, (t0.getD (t5.toNat) (0, 0, false, [], ())).2.2.1, (t0.getD (t5.toNat) (0, 0, false, [], ())).2.2.2.1, ()) ((t1.getD (t5.toNat) (0, 0, false, [], ())).1, (t1.getD (t5.toNat) (0, 0, false, [], ())).2.1, (t1.getD (t5.toNat) (0, 0, false, [], ())).2.2.1, (t1.getD (t5.toNat) (0, 0, false, [], ())).2.2.2.1, ())).bind fun u3 =>
    cond (!u3.1.1)
      (some ((false, ()), ()))
    (R4 t0 t1 (w64 (t5 + 1)))) else none) else none)
  (some ((true, ()), ()))
def laws_eqEntryS_L4 : Nat → (List (Int × Int × Bool × List UInt8 × Unit)) → (List (Int × Int × Bool × List UInt8 × Unit)) → Int → Option V_laws_eqEntryS
  | 0, _, _, _ => none
  | n + 1, a0, a1, a2 => laws_eqEntryS_step4 (laws_eqEntryS_L4 n) a0 a1 a2
def laws_eqEntryS_entry (R4 : (List (Int × Int × Bool × List UInt8 × Unit)) → (List (Int × Int × Bool × List UInt8 × Unit)) → Int → Option V_laws_eqEntryS) (p0 : List (Int × Int × Bool × List UInt8 × Unit)) (p1 : List (Int × Int × Bool × List UInt8 × Unit)) : Option V_laws_eqEntryS :=
  cond (((p0.length : Int) != (p1.length : Int)))
    (some ((false, ()), ()))
  (R4 p0 p1 0)
def laws_eqEntryS (p0 : List (Int × Int × Bool × List UInt8 × Unit)) (p1 : List (Int × Int × Bool × List UInt8 × Unit)) : Option V_laws_eqEntryS := laws_eqEntryS_entry (laws_eqEntryS_L4 FUEL) p0 p1

/-- laws.eqStore -/
abbrev V_laws_eqStore : Type := (Bool × Unit) × Unit
def laws_eqStore (p0 : List (Int × Int × Bool × List UInt8 × Unit) × List (Int × Int × Bool × List UInt8 × Unit) × Int × Unit) (p1 : List (Int × Int × Bool × List UInt8 × Unit) × List (Int × Int × Bool × List UInt8 × Unit) × Int × Unit) : Option V_laws_eqStore :=
  (laws_eqEntryS p0.1 p1.1).bind fun u1 =>
  cond (!u1.1.1)
    (some ((false, ()), ()))
  ((laws_eqEntryS p0.2.1 p1.2.1).bind fun u2 =>
  cond (!u2.1.1)
    (some ((false, ()), ()))
  (cond (p0.2.2.1 != p1.2.2.1)
    (some ((false, ()), ()))
  (some ((true, ()), ()))))

/-- laws.eqStoreS -/
abbrev V_laws_eqStoreS : Type := (Bool × Unit) × Unit
def laws_eqStoreS_step4 (R4 : (List (List (Int × Int × Bool × List UInt8 × Unit) × List (Int × Int × Bool × List UInt8 × Unit) × Int × Unit)) → (List (List (Int × Int × Bool × List UInt8 × Unit) × List (Int × Int × Bool × List UInt8 × Unit) × Int × Unit)) → Int → Option V_laws_eqStoreS) (t0 : List (List (Int × Int × Bool × List UInt8 × Unit) × List (Int × Int × Bool × List UInt8 × Unit) × Int × Unit)) (t1 : List (List (Int × Int × Bool × List UInt8 × Unit) × List (Int × Int × Bool × List UInt8 × Unit) × Int × Unit)) (t5 : Int) : Option V_laws_eqStoreS :=
  cond ((decide (t5 < (t0.length : Int))))
    (if (0 : Int) ≤ t5 ∧ t5 < (t0.length : Int) then (
    if (0 : Int) ≤ t5 ∧ t5 < (t1.length : Int) then (
    (laws_eqStore ((t0.getD (t5.toNat) ([], [], 0, ())).1, (t0.getD (t5.toNat) ([], [], 0, ())).2.1, (t0.getD (t5.toNat) ([], [], 0, ())).2.2.1, ()) ((t1.getD (t5.toNat) ([], [], 0, ())).1, (t1.getD (t5.toNat) ([], [], 0, ())).2.1, (t1.getD (t5.toNat) ([], [], 0, ())).2.2.1, ())).bind fun u3 =>
    cond (!u3.1.1)
      (some ((false, ()), ()))
    (R4 t0 t1 (w64 (t5 + 1)))) else none) else none)
  (some ((true, ()), ()))
def laws_eqStoreS_L4 : Nat → (List (List (Int × Int × Bool × List UInt8 × Unit) × List (Int × Int × Bool × List UInt8 × Unit) × Int × Unit)) → (List (List (Int × Int × Bool × List UInt8 × Unit) × List (Int × Int × Bool × List UInt8 × Unit) × Int × Unit)) → Int → Option V_laws_eqStoreS
  | 0, _, _, _ => none
  | n + 1, a0, a1, a2 => laws_eqStoreS_step4 (laws_eqStoreS_L4 n) a0 a1 a2
def laws_eqStoreS_entry (R4 : (List (List (Int × Int × Bool × List UInt8 × Unit) × List (Int × Int × Bool × List UInt8 × Unit) × Int × Unit)) → (List (List (Int × Int × Bool × List UInt8 × Unit) × List (Int × Int × Bool × List UInt8 × Unit) × Int × Unit)) → Int → Option V_laws_eqStoreS) (p0 : List (List (Int × Int × Bool × List UInt8 × Unit) × List (Int × Int × Bool × List UInt8 × Unit) × Int × Unit)) (p1 : List (List (Int × Int × Bool × List UInt8 × Unit) × List (Int × Int × Bool × List UInt8 × Unit) × Int × Unit)) : Option V_laws_eqStoreS :=
  cond (((p0.length : Int) != (p1.length : Int)))
    (some ((false, ()), ()))
  (R4 p0 p1 0)
def laws_eqStoreS (p0 : List (List (Int × Int × Bool × List UInt8 × Unit) × List (Int × Int × Bool × List UInt8 × Unit) × Int × Unit)) (p1 : List (List (Int × Int × Bool × List UInt8 × Unit) × List (Int × Int × Bool × List UInt8 × Unit) × Int × Unit)) : Option V_laws_eqStoreS := laws_eqStoreS_entry (laws_eqStoreS_L4 FUEL) p0 p1

/-- laws.eqWriterS -/
abbrev V_laws_eqWriterS : Type := (Bool × Unit) × Unit
def laws_eqWriterS_step4 (R4 : (List (Int × List (List UInt8 × List Int × Bool × Unit) × Unit)) → (List (Int × List (List UInt8 × List Int × Bool × Unit) × Unit)) → Int → Option V_laws_eqWriterS) (t0 : List (Int × List (List UInt8 × List Int × Bool × Unit) × Unit)) (t1 : List (Int × List (List UInt8 × List Int × Bool × Unit) × Unit)) (t5 : Int) : Option V_laws_eqWriterS :=
  cond ((decide (t5 < (t0.length : Int))))
    (if (0 : Int) ≤ t5 ∧ t5 < (t0.length : Int) then (
    if (0 : Int) ≤ t5 ∧ t5 < (t1.length : Int) then (
    (laws_eqWriter ((t0.getD (t5.toNat) (0, [], ())).1, (t0.getD (t5.toNat) (0, [], ())).2.1, ()) ((t1.getD (t5.toNat) (0, [], ())).1, (t1.getD (t5.toNat) (0, [], ())).2.1, ())).bind fun u3 =>
    cond (!u3.1.1)
      (some ((false, ()), ()))
    (R4 t0 t1 (w64 (t5 + 1)))) else none) else none)
  (some ((true, ()), ()))
def laws_eqWriterS_L4 : Nat → (List (Int × List (List UInt8 × List Int × Bool × Unit) × Unit)) → (List (Int × List (List UInt8 × List Int × Bool × Unit) × Unit)) → Int → Option V_laws_eqWriterS
  | 0, _, _, _ => none
  | n + 1, a0, a1, a2 => laws_eqWriterS_step4 (laws_eqWriterS_L4 n) a0 a1 a2
def laws_eqWriterS_entry (R4 : (List (Int × List (List UInt8 × List Int × Bool × Unit) × Unit)) → (List (Int × List (List UInt8 × List Int × Bool × Unit) × Unit)) → Int → Option V_laws_eqWriterS) (p0 : List (Int × List (List UInt8 × List Int × Bool × Unit) × Unit)) (p1 : List (Int × List (List UInt8 × List Int × Bool × Unit) × Unit)) : Option V_laws_eqWriterS :=
  cond (((p0.length : Int) != (p1.length : Int)))
    (some ((false, ()), ()))
  (R4 p0 p1 0)
def laws_eqWriterS (p0 : List (Int × List (List UInt8 × List Int × Bool × Unit) × Unit)) (p1 : List (Int × List (List UInt8 × List Int × Bool × Unit) × Unit)) : Option V_laws_eqWriterS := laws_eqWriterS_entry (laws_eqWriterS_L4 FUEL) p0 p1

/-- laws.eqIntSS -/
abbrev V_laws_eqIntSS : Type := (Bool × Unit) × Unit
def laws_eqIntSS_step4 (R4 : List (List Int) → List (List Int) → Int → Option V_laws_eqIntSS) (t0 : List (List Int)) (t1 : List (List Int)) (t5 : Int) : Option V_laws_eqIntSS :=
  cond ((decide (t5 < (t0.length : Int))))
    (if (0 : Int) ≤ t5 ∧ t5 < (t0.length : Int) then (
    if (0 : Int) ≤ t5 ∧ t5 < (t1.length : Int) then (
    (laws_eqIntS (t0.getD (t5.toNat) []) (t1.getD (t5.toNat) [])).bind fun u3 =>
    cond (!u3.1.1)
      (some ((false, ()), ()))
    (R4 t0 t1 (w64 (t5 + 1)))) else none) else none)
  (some ((true, ()), ()))
def laws_eqIntSS_L4 : Nat → List (List Int) → List (List Int) → Int → Option V_laws_eqIntSS
  | 0, _, _, _ => none
  | n + 1, a0, a1, a2 => laws_eqIntSS_step4 (laws_eqIntSS_L4 n) a0 a1 a2
def laws_eqIntSS_entry (R4 : List (List Int) → List (List Int) → Int → Option V_laws_eqIntSS) (p0 : List (List Int)) (p1 : List (List Int)) : Option V_laws_eqIntSS :=
  cond (((p0.length : Int) != (p1.length : Int)))
    (some ((false, ()), ()))
  (R4 p0 p1 0)
def laws_eqIntSS (p0 : List (List Int)) (p1 : List (List Int)) : Option V_laws_eqIntSS := laws_eqIntSS_entry (laws_eqIntSS_L4 FUEL) p0 p1

/-- laws.eqMend -/
abbrev V_laws_eqMend : Type := (Bool × Unit) × Unit
def laws_eqMend (p0 : Int × Int × List Int × List (Int × Int × Bool × List UInt8 × Unit) × Bool × List (List Int) × Unit) (p1 : Int × Int × List Int × List (Int × Int × Bool × List UInt8 × Unit) × Bool × List (List Int) × Unit) : Option V_laws_eqMend :=
  cond (p0.1 != p1.1)
    (some ((false, ()), ()))
  (cond (p0.2.1 != p1.2.1)
    (some ((false, ()), ()))
  ((laws_eqIntS p0.2.2.1 p1.2.2.1).bind fun u1 =>
  cond (!u1.1.1)
    (some ((false, ()), ()))
  ((laws_eqEntryS p0.2.2.2.1 p1.2.2.2.1).bind fun u2 =>
  cond (!u2.1.1)
    (some ((false, ()), ()))
  (cond ((p0.2.2.2.2.1 != p1.2.2.2.2.1))
    (some ((false, ()), ()))
  ((laws_eqIntSS p0.2.2.2.2.2.1 p1.2.2.2.2.2.1).bind fun u4 =>
  cond (!u4.1.1)
    (some ((false, ()), ()))
  (some ((true, ()), ())))))))

/-- laws.eqMendS -/
abbrev V_laws_eqMendS : Type := (Bool × Unit) × Unit
def laws_eqMendS_step4 (R4 : (List (Int × Int × List Int × List (Int × Int × Bool × List UInt8 × Unit) × Bool × List (List Int) × Unit)) → (List (Int × Int × List Int × List (Int × Int × Bool × List UInt8 × Unit) × Bool × List (List Int) × Unit)) → Int → Option V_laws_eqMendS) (t0 : List (Int × Int × List Int × List (Int × Int × Bool × List UInt8 × Unit) × Bool × List (List Int) × Unit)) (t1 : List (Int × Int × List Int × List (Int × Int × Bool × List UInt8 × Unit) × Bool × List (List Int) × Unit)) (t5 : Int) : Option V_laws_eqMendS :=
  cond ((decide (t5 < (t0.length : Int))))
    (if (0 : Int) ≤ t5 ∧ t5 < (t0.length : Int) then (
    if (0 : Int) ≤ t5 ∧ t5 < (t1.length : Int) then (
    (laws_eqMend ((t0.getD (t5.toNat) (0, 0, [], [], false, [], ())).1, (t0.getD (t5.toNat) (0, 0, [], [], false, [], ())).2.1, (t0.getD (t5.toNat) (0, 0, [], [], false, [], ())).2.2.1, (t0.getD (t5.toNat) (0, 0, [], [], false, [], ())).2.2.2.1, (t0.getD (t5.toNat) (0, 0, [], [], false, [], ())).2.2.2.2.1, (t0.getD (t5.toNat) (0, 0, [], [], false, [], ())).2.2.2.2.2.1, ()) ((t1.getD (t5.toNat) (0, 0, [], [], false, [], ())).1, (t1.getD (t5.toNat) (0, 0, [], [], false, [], ())).2.1, (t1.getD (t5.toNat) (0, 0, [], [], false, [], ())).2.2.1, (t1.getD (t5.toNat) (0, 0, [], [], false, [], ())).2.2.2.1, (t1.getD (t5.toNat) (0, 0, [], [], false, [], ())).2.2.2.2.1, (t1.getD (t5.toNat) (0, 0, [], [], false, [], ())).2.2.2.2.2.1, ())).bind fun u3 =>
    cond (!u3.1.1)
      (some ((false, ()), ()))
    (R4 t0 t1 (w64 (t5 + 1)))) else none) else none)
  (some ((true, ()), ()))
def laws_eqMendS_L4 : Nat → (List (Int × Int × List Int × List (Int × Int × Bool × List UInt8 × Unit) × Bool × List (List Int) × Unit)) → (List (Int × Int × List Int × List (Int × Int × Bool × List UInt8 × Unit) × Bool × List (List Int) × Unit)) → Int → Option V_laws_eqMendS
  | 0, _, _, _ => none
  | n + 1, a0, a1, a2 => laws_eqMendS_step4 (laws_eqMendS_L4 n) a0 a1 a2
def laws_eqMendS_entry (R4 : (List (Int × Int × List Int × List (Int × Int × Bool × List UInt8 × Unit) × Bool × List (List Int) × Unit)) → (List (Int × Int × List Int × List (Int × Int × Bool × List UInt8 × Unit) × Bool × List (List Int) × Unit)) → Int → Option V_laws_eqMendS) (p0 : List (Int × Int × List Int × List (Int × Int × Bool × List UInt8 × Unit) × Bool × List (List Int) × Unit)) (p1 : List (Int × Int × List Int × List (Int × Int × Bool × List UInt8 × Unit) × Bool × List (List Int) × Unit)) : Option V_laws_eqMendS :=
  cond (((p0.length : Int) != (p1.length : Int)))
    (some ((false, ()), ()))
  (R4 p0 p1 0)
def laws_eqMendS (p0 : List (Int × Int × List Int × List (Int × Int × Bool × List UInt8 × Unit) × Bool × List (List Int) × Unit)) (p1 : List (Int × Int × List Int × List (Int × Int × Bool × List UInt8 × Unit) × Bool × List (List Int) × Unit)) : Option V_laws_eqMendS := laws_eqMendS_entry (laws_eqMendS_L4 FUEL) p0 p1

/-- laws.eqReaderS -/
abbrev V_laws_eqReaderS : Type := (Bool × Unit) × Unit
def laws_eqReaderS_step4 (R4 : (List (Int × Int × List (Int × Int × List UInt8 × Unit) × Unit)) → (List (Int × Int × List (Int × Int × List UInt8 × Unit) × Unit)) → Int → Option V_laws_eqReaderS) (t0 : List (Int × Int × List (Int × Int × List UInt8 × Unit) × Unit)) (t1 : List (Int × Int × List (Int × Int × List UInt8 × Unit) × Unit)) (t5 : Int) : Option V_laws_eqReaderS :=
  cond ((decide (t5 < (t0.length : Int))))
    (if (0 : Int) ≤ t5 ∧ t5 < (t0.length : Int) then (
    if (0 : Int) ≤ t5 ∧ t5 < (t1.length : Int) then (
    (laws_eqReader ((t0.getD (t5.toNat) (0, 0, [], ())).1, (t0.getD (t5.toNat) (0, 0, [], ())).2.1, (t0.getD (t5.toNat) (0, 0, [], ())).2.2.1, ()) ((t1.getD (t5.toNat) (0, 0, [], ())).1, (t1.getD (t5.toNat) (0, 0, [], ())).2.1, (t1.getD (t5.toNat) (0, 0, [], ())).2.2.1, ())).bind fun u3 =>
    cond (!u3.1.1)
      (some ((false, ()), ()))
    (R4 t0 t1 (w64 (t5 + 1)))) else none) else none)
  (some ((true, ()), ()))
def laws_eqReaderS_L4 : Nat → (List (Int × Int × List (Int × Int × List UInt8 × Unit) × Unit)) → (List (Int × Int × List (Int × Int × List UInt8 × Unit) × Unit)) → Int → Option V_laws_eqReaderS
  | 0, _, _, _ => none
  | n + 1, a0, a1, a2 => laws_eqReaderS_step4 (laws_eqReaderS_L4 n) a0 a1 a2
def laws_eqReaderS_entry (R4 : (List (Int × Int × List (Int × Int × List UInt8 × Unit) × Unit)) → (List (Int × Int × List (Int × Int × List UInt8 × Unit) × Unit)) → Int → Option V_laws_eqReaderS) (p0 : List (Int × Int × List (Int × Int × List UInt8 × Unit) × Unit)) (p1 : List (Int × Int × List (Int × Int × List UInt8 × Unit) × Unit)) : Option V_laws_eqReaderS :=
  cond (((p0.length : Int) != (p1.length : Int)))
    (some ((false, ()), ()))
  (R4 p0 p1 0)
def laws_eqReaderS (p0 : List (Int × Int × List (Int × Int × List UInt8 × Unit) × Unit)) (p1 : List (Int × Int × List (Int × Int × List UInt8 × Unit) × Unit)) : Option V_laws_eqReaderS := laws_eqReaderS_entry (laws_eqReaderS_L4 FUEL) p0 p1

/-- laws.eqSent -/
abbrev V_laws_eqSent : Type := (Bool × Unit) × Unit
def laws_eqSent (p0 : Int × List UInt8 × Bool × Unit) (p1 : Int × List UInt8 × Bool × Unit) : Option V_laws_eqSent :=
  cond (p0.1 != p1.1)
    (some ((false, ()), ()))
  (cond (!(p0.2.1 == p1.2.1))
    (some ((false, ()), ()))
  (cond (p0.2.2.1 != p1.2.2.1)
    (some ((false, ()), ()))
  (some ((true, ()), ()))))

/-- laws.eqSentS -/
abbrev V_laws_eqSentS : Type := (Bool × Unit) × Unit
def laws_eqSentS_step4 (R4 : (List (Int × List UInt8 × Bool × Unit)) → (List (Int × List UInt8 × Bool × Unit)) → Int → Option V_laws_eqSentS) (t0 : List (Int × List UInt8 × Bool × Unit)) (t1 : List (Int × List UInt8 × Bool × Unit)) (t5 : Int) : Option V_laws_eqSentS :=
  cond ((decide (t5 < (t0.length : Int))))
    (if (0 : Int) ≤ t5 ∧ t5 < (t0.length : Int) then (
    if (0 : Int) ≤ t5 ∧ t5 < (t1.length : Int) then (
    (laws_eqSent ((t0.getD (t5.toNat) (0, [], false, ())).1, (t0.getD (t5.toNat) (0, [], false, ())).2.1, (t0.getD (t5.toNat) (0, [], false, ())).2.2.1, ()) ((t1.getD (t5.toNat) (0, [], false, ())).1, (t1.getD (t5.toNat) (0, [], false, ())).2.1, (t1.getD (t5.toNat) (0, [], false, ())).2.2.1, ())).bind fun u3 =>
    cond (!u3.1.1)
      (some ((false, ()), ()))
    (R4 t0 t1 (w64 (t5 + 1)))) else none) else none)
  (some ((true, ()), ()))
def laws_eqSentS_L4 : Nat → (List (Int × List UInt8 × Bool × Unit)) → (List (Int × List UInt8 × Bool × Unit)) → Int → Option V_laws_eqSentS
  | 0, _, _, _ => none
  | n + 1, a0, a1, a2 => laws_eqSentS_step4 (laws_eqSentS_L4 n) a0 a1 a2
def laws_eqSentS_entry (R4 : (List (Int × List UInt8 × Bool × Unit)) → (List (Int × List UInt8 × Bool × Unit)) → Int → Option V_laws_eqSentS) (p0 : List (Int × List UInt8 × Bool × Unit)) (p1 : List (Int × List UInt8 × Bool × Unit)) : Option V_laws_eqSentS :=
  cond (((p0.length : Int) != (p1.length : Int)))
    (some ((false, ()), ()))
  (R4 p0 p1 0)
def laws_eqSentS (p0 : List (Int × List UInt8 × Bool × Unit)) (p1 : List (Int × List UInt8 × Bool × Unit)) : Option V_laws_eqSentS := laws_eqSentS_entry (laws_eqSentS_L4 FUEL) p0 p1

/-- laws.eqWorld -/
abbrev V_laws_eqWorld : Type := (Bool × Unit) × Unit
def laws_eqWorld (p0 : List Int × Int × List (List (Int × Int × Bool × List UInt8 × Unit) × List (Int × Int × Bool × List UInt8 × Unit) × Int × Unit) × List Int × List (List Int × Bool × Int × Unit) × Int × List (Int × List (List UInt8 × List Int × Bool × Unit) × Unit) × List (Int × Int × List Int × List (Int × Int × Bool × List UInt8 × Unit) × Bool × List (List Int) × Unit) × List (Int × Int × List (Int × Int × List UInt8 × Unit) × Unit) × List (Int × List UInt8 × Bool × Unit) × Bool × Unit) (p1 : List Int × Int × List (List (Int × Int × Bool × List UInt8 × Unit) × List (Int × Int × Bool × List UInt8 × Unit) × Int × Unit) × List Int × List (List Int × Bool × Int × Unit) × Int × List (Int × List (List UInt8 × List Int × Bool × Unit) × Unit) × List (Int × Int × List Int × List (Int × Int × Bool × List UInt8 × Unit) × Bool × List (List Int) × Unit) × List (Int × Int × List (Int × Int × List UInt8 × Unit) × Unit) × List (Int × List UInt8 × Bool × Unit) × Bool × Unit) : Option V_laws_eqWorld :=
  (laws_eqConfig (p0.1, p0.2.1, ()) (p1.1, p1.2.1, ())).bind fun u1 =>
  cond (!u1.1.1)
    (some ((false, ()), ()))
  ((laws_eqStoreS p0.2.2.1 p1.2.2.1).bind fun u2 =>
  cond (!u2.1.1)
    (some ((false, ()), ()))
  ((laws_eqIntS p0.2.2.2.1 p1.2.2.2.1).bind fun u3 =>
  cond (!u3.1.1)
    (some ((false, ()), ()))
  ((laws_eqRegister (p0.2.2.2.2.1, p0.2.2.2.2.2.1, ()) (p1.2.2.2.2.1, p1.2.2.2.2.2.1, ())).bind fun u4 =>
  cond (!u4.1.1)
    (some ((false, ()), ()))
  ((laws_eqWriterS p0.2.2.2.2.2.2.1 p1.2.2.2.2.2.2.1).bind fun u5 =>
  cond (!u5.1.1)
    (some ((false, ()), ()))
  ((laws_eqMendS p0.2.2.2.2.2.2.2.1 p1.2.2.2.2.2.2.2.1).bind fun u6 =>
  cond (!u6.1.1)
    (some ((false, ()), ()))
  ((laws_eqReaderS p0.2.2.2.2.2.2.2.2.1 p1.2.2.2.2.2.2.2.2.1).bind fun u7 =>
  cond (!u7.1.1)
    (some ((false, ()), ()))
  ((laws_eqSentS p0.2.2.2.2.2.2.2.2.2.1 p1.2.2.2.2.2.2.2.2.2.1).bind fun u8 =>
  cond (!u8.1.1)
    (some ((false, ()), ()))
  (cond (p0.2.2.2.2.2.2.2.2.2.2.1 != p1.2.2.2.2.2.2.2.2.2.2.1)
    (some ((false, ()), ()))
  (some ((true, ()), ()))))))))))

/-- spec.l14Told -/
abbrev V_spec_l14Told : Type := ((List UInt8 × Bool × Unit) × Unit) × Unit
def spec_l14Told_step2 (R2 : Int → Int → Int → Int → (List (Int × Int × List UInt8 × Unit)) → Option V_spec_l14Told) (t1 : Int) (t6 : Int) (b0_0 : Int) (b0_1 : Int) (b0_2 : List (Int × Int × List UInt8 × Unit)) : Option V_spec_l14Told :=
  cond ((decide (t6 < (b0_2.length : Int))))
    (if (0 : Int) ≤ t6 ∧ t6 < (b0_2.length : Int) then (
    cond (((b0_2.getD (t6.toNat) (0, 0, [], ())).1) == 1)
      (if (0 : Int) ≤ t6 ∧ t6 < (b0_2.length : Int) then (
      cond (((b0_2.getD (t6.toNat) (0, 0, [], ())).2.1) == t1)
        (if (0 : Int) ≤ t6 ∧ t6 < (b0_2.length : Int) then (
        some (((((b0_2.getD (t6.toNat) (0, 0, [], ())).2.2.1), true, ()), ()), ())) else none)
      (R2 t1 (w64 (t6 + 1)) b0_0 b0_1 b0_2)) else none)
    (R2 t1 (w64 (t6 + 1)) b0_0 b0_1 b0_2)) else none)
  (some ((([], false, ()), ()), ()))
def spec_l14Told_L2 : Nat → Int → Int → Int → Int → (List (Int × Int × List UInt8 × Unit)) → Option V_spec_l14Told
  | 0, _, _, _, _, _ => none
  | n + 1, a0, a1, a2, a3, a4 => spec_l14Told_step2 (spec_l14Told_L2 n) a0 a1 a2 a3 a4
def spec_l14Told_entry (R2 : Int → Int → Int → Int → (List (Int × Int × List UInt8 × Unit)) → Option V_spec_l14Told) (p0 : Int × Int × List (Int × Int × List UInt8 × Unit) × Unit) (p1 : Int) : Option V_spec_l14Told :=
  R2 p1 0 p0.1 p0.2.1 p0.2.2.1
def spec_l14Told (p0 : Int × Int × List (Int × Int × List UInt8 × Unit) × Unit) (p1 : Int) : Option V_spec_l14Told := spec_l14Told_entry (spec_l14Told_L2 FUEL) p0 p1

/-- spec.l14Passed -/
abbrev V_spec_l14Passed : Type := (Bool × Unit) × Unit
def spec_l14Passed (p0 : Int × Int × List (Int × Int × List UInt8 × Unit) × Unit) (p1 : Int) : Option V_spec_l14Passed :=
  (spec_l1Place p0.1 p0.2.1).bind fun u1 =>
  some ((decide (u1.1.1 > p1), ()), ())

/-- spec.JudgeKept -/
abbrev V_spec_JudgeKept : Type := (Bool × Unit) × Unit
def spec_JudgeKept_step4 (R4 : Int → List Int → Int → (List (List (Int × Int × Bool × List UInt8 × Unit) × List (Int × Int × Bool × List UInt8 × Unit) × Int × Unit)) → List Int → (List (List Int × Bool × Int × Unit)) → Int → (List (Int × List (List UInt8 × List Int × Bool × Unit) × Unit)) → (List (Int × Int × List Int × List (Int × Int × Bool × List UInt8 × Unit) × Bool × List (List Int) × Unit)) → (List (Int × Int × List (Int × Int × List UInt8 × Unit) × Unit)) → (List (Int × List UInt8 × Bool × Unit)) → Bool → Option V_spec_JudgeKept) (R7 : Int → Int → Bool → Bool → List Int → Int → (List (List (Int × Int × Bool × List UInt8 × Unit) × List (Int × Int × Bool × List UInt8 × Unit) × Int × Unit)) → List Int → (List (List Int × Bool × Int × Unit)) → Int → (List (Int × List (List UInt8 × List Int × Bool × Unit) × Unit)) → (List (Int × Int × List Int × List (Int × Int × Bool × List UInt8 × Unit) × Bool × List (List Int) × Unit)) → (List (Int × Int × List (Int × Int × List UInt8 × Unit) × Unit)) → (List (Int × List UInt8 × Bool × Unit)) → Bool → Option V_spec_JudgeKept) (t3 : Int) (b0_0 : List Int) (b0_1 : Int) (b0_2 : List (List (Int × Int × Bool × List UInt8 × Unit) × List (Int × Int × Bool × List UInt8 × Unit) × Int × Unit)) (b0_3 : List Int) (b0_4 : List (List Int × Bool × Int × Unit)) (b0_5 : Int) (b0_6 : List (Int × List (List UInt8 × List Int × Bool × Unit) × Unit)) (b0_7 : List (Int × Int × List Int × List (Int × Int × Bool × List UInt8 × Unit) × Bool × List (List Int) × Unit)) (b0_8 : List (Int × Int × List (Int × Int × List UInt8 × Unit) × Unit)) (b0_9 : List (Int × List UInt8 × Bool × Unit)) (b0_10 : Bool) : Option V_spec_JudgeKept :=
  cond (decide (t3 < 2))
    (cond (!b0_10)
      (R7 t3 0 b0_10 (!b0_10) b0_0 b0_1 b0_2 b0_3 b0_4 b0_5 b0_6 b0_7 b0_8 b0_9 b0_10)
    (some ((true, ()), ())))
  (some ((true, ()), ()))
def spec_JudgeKept_step7 (R4 : Int → List Int → Int → (List (List (Int × Int × Bool × List UInt8 × Unit) × List (Int × Int × Bool × List UInt8 × Unit) × Int × Unit)) → List Int → (List (List Int × Bool × Int × Unit)) → Int → (List (Int × List (List UInt8 × List Int × Bool × Unit) × Unit)) → (List (Int × Int × List Int × List (Int × Int × Bool × List UInt8 × Unit) × Bool × List (List Int) × Unit)) → (List (Int × Int × List (Int × Int × List UInt8 × Unit) × Unit)) → (List (Int × List UInt8 × Bool × Unit)) → Bool → Option V_spec_JudgeKept) (R7 : Int → Int → Bool → Bool → List Int → Int → (List (List (Int × Int × Bool × List UInt8 × Unit) × List (Int × Int × Bool × List UInt8 × Unit) × Int × Unit)) → List Int → (List (List Int × Bool × Int × Unit)) → Int → (List (Int × List (List UInt8 × List Int × Bool × Unit) × Unit)) → (List (Int × Int × List Int × List (Int × Int × Bool × List UInt8 × Unit) × Bool × List (List Int) × Unit)) → (List (Int × Int × List (Int × Int × List UInt8 × Unit) × Unit)) → (List (Int × List UInt8 × Bool × Unit)) → Bool → Option V_spec_JudgeKept) (t3 : Int) (t4 : Int) (t15 : Bool) (t16 : Bool) (b0_0 : List Int) (b0_1 : Int) (b0_2 : List (List (Int × Int × Bool × List UInt8 × Unit) × List (Int × Int × Bool × List UInt8 × Unit) × Int × Unit)) (b0_3 : List Int) (b0_4 : List (List Int × Bool × Int × Unit)) (b0_5 : Int) (b0_6 : List (Int × List (List UInt8 × List Int × Bool × Unit) × Unit)) (b0_7 : List (Int × Int × List Int × List (Int × Int × Bool × List UInt8 × Unit) × Bool × List (List Int) × Unit)) (b0_8 : List (Int × Int × List (Int × Int × List UInt8 × Unit) × Unit)) (b0_9 : List (Int × List UInt8 × Bool × Unit)) (b0_10 : Bool) : Option V_spec_JudgeKept :=
  cond ((decide (t4 < (b0_9.length : Int))))
    (if (0 : Int) ≤ t4 ∧ t4 < (b0_9.length : Int) then (
    if (0 : Int) ≤ t3 ∧ t3 < (b0_8.length : Int) then (
    (spec_l14Told ((b0_8.getD (t3.toNat) (0, 0, [], ())).1, (b0_8.getD (t3.toNat) (0, 0, [], ())).2.1, (b0_8.getD (t3.toNat) (0, 0, [], ())).2.2.1, ()) ((b0_9.getD (t4.toNat) (0, [], false, ())).1)).bind fun u4 =>
    cond (((b0_9.getD (t4.toNat) (0, [], false, ())).2.2.1))
      (cond (decide (((b0_9.getD (t4.toNat) (0, [], false, ())).1) > b0_5))
        (if (0 : Int) ≤ t3 ∧ t3 < (b0_8.length : Int) then (
        (spec_l14Passed ((b0_8.getD (t3.toNat) (0, 0, [], ())).1, (b0_8.getD (t3.toNat) (0, 0, [], ())).2.1, (b0_8.getD (t3.toNat) (0, 0, [], ())).2.2.1, ()) ((b0_9.getD (t4.toNat) (0, [], false, ())).1)).bind fun u8 =>
        cond (u8.1.1)
          (cond (!u4.1.1.2.1)
            (some ((false, ()), ()))
          (R7 t3 (w64 (t4 + 1)) t15 t16 b0_0 b0_1 b0_2 b0_3 b0_4 b0_5 b0_6 b0_7 b0_8 b0_9 b0_10))
        (R7 t3 (w64 (t4 + 1)) t15 t16 b0_0 b0_1 b0_2 b0_3 b0_4 b0_5 b0_6 b0_7 b0_8 b0_9 b0_10)) else none)
      (R7 t3 (w64 (t4 + 1)) t15 t16 b0_0 b0_1 b0_2 b0_3 b0_4 b0_5 b0_6 b0_7 b0_8 b0_9 b0_10))
    (R7 t3 (w64 (t4 + 1)) t15 t16 b0_0 b0_1 b0_2 b0_3 b0_4 b0_5 b0_6 b0_7 b0_8 b0_9 b0_10)) else none) else none)
  (R4 (w64 (t3 + 1)) b0_0 b0_1 b0_2 b0_3 b0_4 b0_5 b0_6 b0_7 b0_8 b0_9 b0_10)
mutual
def spec_JudgeKept_L4 : Nat → Int → List Int → Int → (List (List (Int × Int × Bool × List UInt8 × Unit) × List (Int × Int × Bool × List UInt8 × Unit) × Int × Unit)) → List Int → (List (List Int × Bool × Int × Unit)) → Int → (List (Int × List (List UInt8 × List Int × Bool × Unit) × Unit)) → (List (Int × Int × List Int × List (Int × Int × Bool × List UInt8 × Unit) × Bool × List (List Int) × Unit)) → (List (Int × Int × List (Int × Int × List UInt8 × Unit) × Unit)) → (List (Int × List UInt8 × Bool × Unit)) → Bool → Option V_spec_JudgeKept
  | 0, _, _, _, _, _, _, _, _, _, _, _, _ => none
  | n + 1, a0, a1, a2, a3, a4, a5, a6, a7, a8, a9, a10, a11 => spec_JudgeKept_step4 (spec_JudgeKept_L4 n) (spec_JudgeKept_L7 n) a0 a1 a2 a3 a4 a5 a6 a7 a8 a9 a10 a11
def spec_JudgeKept_L7 : Nat → Int → Int → Bool → Bool → List Int → Int → (List (List (Int × Int × Bool × List UInt8 × Unit) × List (Int × Int × Bool × List UInt8 × Unit) × Int × Unit)) → List Int → (List (List Int × Bool × Int × Unit)) → Int → (List (Int × List (List UInt8 × List Int × Bool × Unit) × Unit)) → (List (Int × Int × List Int × List (Int × Int × Bool × List UInt8 × Unit) × Bool × List (List Int) × Unit)) → (List (Int × Int × List (Int × Int × List UInt8 × Unit) × Unit)) → (List (Int × List UInt8 × Bool × Unit)) → Bool → Option V_spec_JudgeKept
  | 0, _, _, _, _, _, _, _, _, _, _, _, _, _, _, _ => none
  | n + 1, a0, a1, a2, a3, a4, a5, a6, a7, a8, a9, a10, a11, a12, a13, a14 => spec_JudgeKept_step7 (spec_JudgeKept_L4 n) (spec_JudgeKept_L7 n) a0 a1 a2 a3 a4 a5 a6 a7 a8 a9 a10 a11 a12 a13 a14
end
def spec_JudgeKept_entry (R4 : Int → List Int → Int → (List (List (Int × Int × Bool × List UInt8 × Unit) × List (Int × Int × Bool × List UInt8 × Unit) × Int × Unit)) → List Int → (List (List Int × Bool × Int × Unit)) → Int → (List (Int × List (List UInt8 × List Int × Bool × Unit) × Unit)) → (List (Int × Int × List Int × List (Int × Int × Bool × List UInt8 × Unit) × Bool × List (List Int) × Unit)) → (List (Int × Int × List (Int × Int × List UInt8 × Unit) × Unit)) → (List (Int × List UInt8 × Bool × Unit)) → Bool → Option V_spec_JudgeKept) (R7 : Int → Int → Bool → Bool → List Int → Int → (List (List (Int × Int × Bool × List UInt8 × Unit) × List (Int × Int × Bool × List UInt8 × Unit) × Int × Unit)) → List Int → (List (List Int × Bool × Int × Unit)) → Int → (List (Int × List (List UInt8 × List Int × Bool × Unit) × Unit)) → (List (Int × Int × List Int × List (Int × Int × Bool × List UInt8 × Unit) × Bool × List (List Int) × Unit)) → (List (Int × Int × List (Int × Int × List UInt8 × Unit) × Unit)) → (List (Int × List UInt8 × Bool × Unit)) → Bool → Option V_spec_JudgeKept) (p0 : List Int × Int × List (List (Int × Int × Bool × List UInt8 × Unit) × List (Int × Int × Bool × List UInt8 × Unit) × Int × Unit) × List Int × List (List Int × Bool × Int × Unit) × Int × List (Int × List (List UInt8 × List Int × Bool × Unit) × Unit) × List (Int × Int × List Int × List (Int × Int × Bool × List UInt8 × Unit) × Bool × List (List Int) × Unit) × List (Int × Int × List (Int × Int × List UInt8 × Unit) × Unit) × List (Int × List UInt8 × Bool × Unit) × Bool × Unit) : Option V_spec_JudgeKept :=
  (spec_WorldOk (p0.1, p0.2.1, p0.2.2.1, p0.2.2.2.1, p0.2.2.2.2.1, p0.2.2.2.2.2.1, p0.2.2.2.2.2.2.1, p0.2.2.2.2.2.2.2.1, p0.2.2.2.2.2.2.2.2.1, p0.2.2.2.2.2.2.2.2.2.1, p0.2.2.2.2.2.2.2.2.2.2.1, ())).bind fun u1 =>
  cond (!u1.1.1)
    (some ((false, ()), ()))
  (R4 0 p0.1 p0.2.1 p0.2.2.1 p0.2.2.2.1 p0.2.2.2.2.1 p0.2.2.2.2.2.1 p0.2.2.2.2.2.2.1 p0.2.2.2.2.2.2.2.1 p0.2.2.2.2.2.2.2.2.1 p0.2.2.2.2.2.2.2.2.2.1 p0.2.2.2.2.2.2.2.2.2.2.1)
def spec_JudgeKept (p0 : List Int × Int × List (List (Int × Int × Bool × List UInt8 × Unit) × List (Int × Int × Bool × List UInt8 × Unit) × Int × Unit) × List Int × List (List Int × Bool × Int × Unit) × Int × List (Int × List (List UInt8 × List Int × Bool × Unit) × Unit) × List (Int × Int × List Int × List (Int × Int × Bool × List UInt8 × Unit) × Bool × List (List Int) × Unit) × List (Int × Int × List (Int × Int × List UInt8 × Unit) × Unit) × List (Int × List UInt8 × Bool × Unit) × Bool × Unit) : Option V_spec_JudgeKept := spec_JudgeKept_entry (spec_JudgeKept_L4 FUEL) (spec_JudgeKept_L7 FUEL) p0

/-- impl.told -/
abbrev V_impl_told : Type := ((List UInt8 × Bool × Unit) × Unit) × Unit
def impl_told_step2 (R2 : Int → (List (Int × Int × List UInt8 × Unit)) → Int → Int → Option V_impl_told) (t1 : Int) (t9 : List (Int × Int × List UInt8 × Unit)) (t10 : Int) (t11 : Int) : Option V_impl_told :=
  cond (decide (t11 < t10))
    (if (0 : Int) ≤ t11 ∧ t11 < (t9.length : Int) then (
    cond (((t9.getD (t11.toNat) (0, 0, [], ())).1) == 1)
      (cond (((t9.getD (t11.toNat) (0, 0, [], ())).2.1) == t1)
        (some (((((t9.getD (t11.toNat) (0, 0, [], ())).2.2.1), true, ()), ()), ()))
      (R2 t1 t9 t10 (w64 (t11 + 1))))
    (R2 t1 t9 t10 (w64 (t11 + 1)))) else none)
  (some ((([], false, ()), ()), ()))
def impl_told_L2 : Nat → Int → (List (Int × Int × List UInt8 × Unit)) → Int → Int → Option V_impl_told
  | 0, _, _, _, _ => none
  | n + 1, a0, a1, a2, a3 => impl_told_step2 (impl_told_L2 n) a0 a1 a2 a3
def impl_told_entry (R2 : Int → (List (Int × Int × List UInt8 × Unit)) → Int → Int → Option V_impl_told) (p0 : Int × Int × List (Int × Int × List UInt8 × Unit) × Unit) (p1 : Int) : Option V_impl_told :=
  R2 p1 p0.2.2.1 (p0.2.2.1.length : Int) 0
def impl_told (p0 : Int × Int × List (Int × Int × List UInt8 × Unit) × Unit) (p1 : Int) : Option V_impl_told := impl_told_entry (impl_told_L2 FUEL) p0 p1

/-- impl.isAhead -/
abbrev V_impl_isAhead : Type := (Bool × Unit) × Unit
def impl_isAhead (p0 : Int) (p1 : Int × Int × List (Int × Int × List UInt8 × Unit) × Unit) : Option V_impl_isAhead :=
  (impl_EpochOf p0).bind fun u1 =>
  cond ((decide (u1.1.1 < p1.1)))
    (some ((true, ()), ()))
  (cond (u1.1.1 == p1.1)
    ((impl_OffOf p0).bind fun u3 =>
    some (((decide (u3.1.1 < p1.2.1)), ()), ()))
  (some ((false, ()), ())))

/-- impl.JudgeKept -/
abbrev V_impl_JudgeKept : Type := (Bool × Unit) × Unit
def impl_JudgeKept_step4 (R4 : (List (Int × Int × List (Int × Int × List UInt8 × Unit) × Unit)) → Int → Int → List Int → Int → (List (List (Int × Int × Bool × List UInt8 × Unit) × List (Int × Int × Bool × List UInt8 × Unit) × Int × Unit)) → List Int → (List (List Int × Bool × Int × Unit)) → Int → (List (Int × List (List UInt8 × List Int × Bool × Unit) × Unit)) → (List (Int × Int × List Int × List (Int × Int × Bool × List UInt8 × Unit) × Bool × List (List Int) × Unit)) → (List (Int × Int × List (Int × Int × List UInt8 × Unit) × Unit)) → (List (Int × List UInt8 × Bool × Unit)) → Bool → Option V_impl_JudgeKept) (R7 : (List (Int × Int × List (Int × Int × List UInt8 × Unit) × Unit)) → Int → Int → (List (Int × List UInt8 × Bool × Unit)) → Int → Int → List Int → Int → (List (List (Int × Int × Bool × List UInt8 × Unit) × List (Int × Int × Bool × List UInt8 × Unit) × Int × Unit)) → List Int → (List (List Int × Bool × Int × Unit)) → Int → (List (Int × List (List UInt8 × List Int × Bool × Unit) × Unit)) → (List (Int × Int × List Int × List (Int × Int × Bool × List UInt8 × Unit) × Bool × List (List Int) × Unit)) → (List (Int × Int × List (Int × Int × List UInt8 × Unit) × Unit)) → (List (Int × List UInt8 × Bool × Unit)) → Bool → Int → Int → (List (Int × Int × List UInt8 × Unit)) → Option V_impl_JudgeKept) (t19 : List (Int × Int × List (Int × Int × List UInt8 × Unit) × Unit)) (t20 : Int) (t21 : Int) (b0_0 : List Int) (b0_1 : Int) (b0_2 : List (List (Int × Int × Bool × List UInt8 × Unit) × List (Int × Int × Bool × List UInt8 × Unit) × Int × Unit)) (b0_3 : List Int) (b0_4 : List (List Int × Bool × Int × Unit)) (b0_5 : Int) (b0_6 : List (Int × List (List UInt8 × List Int × Bool × Unit) × Unit)) (b0_7 : List (Int × Int × List Int × List (Int × Int × Bool × List UInt8 × Unit) × Bool × List (List Int) × Unit)) (b0_8 : List (Int × Int × List (Int × Int × List UInt8 × Unit) × Unit)) (b0_9 : List (Int × List UInt8 × Bool × Unit)) (b0_10 : Bool) : Option V_impl_JudgeKept :=
  cond (decide (t21 < t20))
    (if (0 : Int) ≤ t21 ∧ t21 < (t19.length : Int) then (
    R7 t19 t20 t21 b0_9 (b0_9.length : Int) 0 b0_0 b0_1 b0_2 b0_3 b0_4 b0_5 b0_6 b0_7 b0_8 b0_9 b0_10 ((t19.getD (t21.toNat) (0, 0, [], ())).1) ((t19.getD (t21.toNat) (0, 0, [], ())).2.1) ((t19.getD (t21.toNat) (0, 0, [], ())).2.2.1)) else none)
  (some ((true, ()), ()))
def impl_JudgeKept_step7 (R4 : (List (Int × Int × List (Int × Int × List UInt8 × Unit) × Unit)) → Int → Int → List Int → Int → (List (List (Int × Int × Bool × List UInt8 × Unit) × List (Int × Int × Bool × List UInt8 × Unit) × Int × Unit)) → List Int → (List (List Int × Bool × Int × Unit)) → Int → (List (Int × List (List UInt8 × List Int × Bool × Unit) × Unit)) → (List (Int × Int × List Int × List (Int × Int × Bool × List UInt8 × Unit) × Bool × List (List Int) × Unit)) → (List (Int × Int × List (Int × Int × List UInt8 × Unit) × Unit)) → (List (Int × List UInt8 × Bool × Unit)) → Bool → Option V_impl_JudgeKept) (R7 : (List (Int × Int × List (Int × Int × List UInt8 × Unit) × Unit)) → Int → Int → (List (Int × List UInt8 × Bool × Unit)) → Int → Int → List Int → Int → (List (List (Int × Int × Bool × List UInt8 × Unit) × List (Int × Int × Bool × List UInt8 × Unit) × Int × Unit)) → List Int → (List (List Int × Bool × Int × Unit)) → Int → (List (Int × List (List UInt8 × List Int × Bool × Unit) × Unit)) → (List (Int × Int × List Int × List (Int × Int × Bool × List UInt8 × Unit) × Bool × List (List Int) × Unit)) → (List (Int × Int × List (Int × Int × List UInt8 × Unit) × Unit)) → (List (Int × List UInt8 × Bool × Unit)) → Bool → Int → Int → (List (Int × Int × List UInt8 × Unit)) → Option V_impl_JudgeKept) (t19 : List (Int × Int × List (Int × Int × List UInt8 × Unit) × Unit)) (t20 : Int) (t21 : Int) (t26 : List (Int × List UInt8 × Bool × Unit)) (t27 : Int) (t28 : Int) (b0_0 : List Int) (b0_1 : Int) (b0_2 : List (List (Int × Int × Bool × List UInt8 × Unit) × List (Int × Int × Bool × List UInt8 × Unit) × Int × Unit)) (b0_3 : List Int) (b0_4 : List (List Int × Bool × Int × Unit)) (b0_5 : Int) (b0_6 : List (Int × List (List UInt8 × List Int × Bool × Unit) × Unit)) (b0_7 : List (Int × Int × List Int × List (Int × Int × Bool × List UInt8 × Unit) × Bool × List (List Int) × Unit)) (b0_8 : List (Int × Int × List (Int × Int × List UInt8 × Unit) × Unit)) (b0_9 : List (Int × List UInt8 × Bool × Unit)) (b0_10 : Bool) (b1_0 : Int) (b1_1 : Int) (b1_2 : List (Int × Int × List UInt8 × Unit)) : Option V_impl_JudgeKept :=
  cond (decide (t28 < t27))
    (if (0 : Int) ≤ t28 ∧ t28 < (t26.length : Int) then (
    (impl_told (b1_0, b1_1, b1_2, ()) ((t26.getD (t28.toNat) (0, [], false, ())).1)).bind fun u7 =>
    cond (((t26.getD (t28.toNat) (0, [], false, ())).2.2.1))
      (cond (decide (((t26.getD (t28.toNat) (0, [], false, ())).1) > b0_5))
        ((impl_isAhead ((t26.getD (t28.toNat) (0, [], false, ())).1) (b1_0, b1_1, b1_2, ())).bind fun u11 =>
        cond (u11.1.1)
          (cond (!u7.1.1.2.1)
            (some ((false, ()), ()))
          (R7 t19 t20 t21 t26 t27 (w64 (t28 + 1)) b0_0 b0_1 b0_2 b0_3 b0_4 b0_5 b0_6 b0_7 b0_8 b0_9 b0_10 b1_0 b1_1 b1_2))
        (R7 t19 t20 t21 t26 t27 (w64 (t28 + 1)) b0_0 b0_1 b0_2 b0_3 b0_4 b0_5 b0_6 b0_7 b0_8 b0_9 b0_10 b1_0 b1_1 b1_2))
      (R7 t19 t20 t21 t26 t27 (w64 (t28 + 1)) b0_0 b0_1 b0_2 b0_3 b0_4 b0_5 b0_6 b0_7 b0_8 b0_9 b0_10 b1_0 b1_1 b1_2))
    (R7 t19 t20 t21 t26 t27 (w64 (t28 + 1)) b0_0 b0_1 b0_2 b0_3 b0_4 b0_5 b0_6 b0_7 b0_8 b0_9 b0_10 b1_0 b1_1 b1_2)) else none)
  (R4 t19 t20 (w64 (t21 + 1)) b0_0 b0_1 b0_2 b0_3 b0_4 b0_5 b0_6 b0_7 b0_8 b0_9 b0_10)
mutual
def impl_JudgeKept_L4 : Nat → (List (Int × Int × List (Int × Int × List UInt8 × Unit) × Unit)) → Int → Int → List Int → Int → (List (List (Int × Int × Bool × List UInt8 × Unit) × List (Int × Int × Bool × List UInt8 × Unit) × Int × Unit)) → List Int → (List (List Int × Bool × Int × Unit)) → Int → (List (Int × List (List UInt8 × List Int × Bool × Unit) × Unit)) → (List (Int × Int × List Int × List (Int × Int × Bool × List UInt8 × Unit) × Bool × List (List Int) × Unit)) → (List (Int × Int × List (Int × Int × List UInt8 × Unit) × Unit)) → (List (Int × List UInt8 × Bool × Unit)) → Bool → Option V_impl_JudgeKept
  | 0, _, _, _, _, _, _, _, _, _, _, _, _, _, _ => none
  | n + 1, a0, a1, a2, a3, a4, a5, a6, a7, a8, a9, a10, a11, a12, a13 => impl_JudgeKept_step4 (impl_JudgeKept_L4 n) (impl_JudgeKept_L7 n) a0 a1 a2 a3 a4 a5 a6 a7 a8 a9 a10 a11 a12 a13
def impl_JudgeKept_L7 : Nat → (List (Int × Int × List (Int × Int × List UInt8 × Unit) × Unit)) → Int → Int → (List (Int × List UInt8 × Bool × Unit)) → Int → Int → List Int → Int → (List (List (Int × Int × Bool × List UInt8 × Unit) × List (Int × Int × Bool × List UInt8 × Unit) × Int × Unit)) → List Int → (List (List Int × Bool × Int × Unit)) → Int → (List (Int × List (List UInt8 × List Int × Bool × Unit) × Unit)) → (List (Int × Int × List Int × List (Int × Int × Bool × List UInt8 × Unit) × Bool × List (List Int) × Unit)) → (List (Int × Int × List (Int × Int × List UInt8 × Unit) × Unit)) → (List (Int × List UInt8 × Bool × Unit)) → Bool → Int → Int → (List (Int × Int × List UInt8 × Unit)) → Option V_impl_JudgeKept
  | 0, _, _, _, _, _, _, _, _, _, _, _, _, _, _, _, _, _, _, _, _ => none
  | n + 1, a0, a1, a2, a3, a4, a5, a6, a7, a8, a9, a10, a11, a12, a13, a14, a15, a16, a17, a18, a19 => impl_JudgeKept_step7 (impl_JudgeKept_L4 n) (impl_JudgeKept_L7 n) a0 a1 a2 a3 a4 a5 a6 a7 a8 a9 a10 a11 a12 a13 a14 a15 a16 a17 a18 a19
end
def impl_JudgeKept_entry (R4 : (List (Int × Int × List (Int × Int × List UInt8 × Unit) × Unit)) → Int → Int → List Int → Int → (List (List (Int × Int × Bool × List UInt8 × Unit) × List (Int × Int × Bool × List UInt8 × Unit) × Int × Unit)) → List Int → (List (List Int × Bool × Int × Unit)) → Int → (List (Int × List (List UInt8 × List Int × Bool × Unit) × Unit)) → (List (Int × Int × List Int × List (Int × Int × Bool × List UInt8 × Unit) × Bool × List (List Int) × Unit)) → (List (Int × Int × List (Int × Int × List UInt8 × Unit) × Unit)) → (List (Int × List UInt8 × Bool × Unit)) → Bool → Option V_impl_JudgeKept) (R7 : (List (Int × Int × List (Int × Int × List UInt8 × Unit) × Unit)) → Int → Int → (List (Int × List UInt8 × Bool × Unit)) → Int → Int → List Int → Int → (List (List (Int × Int × Bool × List UInt8 × Unit) × List (Int × Int × Bool × List UInt8 × Unit) × Int × Unit)) → List Int → (List (List Int × Bool × Int × Unit)) → Int → (List (Int × List (List UInt8 × List Int × Bool × Unit) × Unit)) → (List (Int × Int × List Int × List (Int × Int × Bool × List UInt8 × Unit) × Bool × List (List Int) × Unit)) → (List (Int × Int × List (Int × Int × List UInt8 × Unit) × Unit)) → (List (Int × List UInt8 × Bool × Unit)) → Bool → Int → Int → (List (Int × Int × List UInt8 × Unit)) → Option V_impl_JudgeKept) (p0 : List Int × Int × List (List (Int × Int × Bool × List UInt8 × Unit) × List (Int × Int × Bool × List UInt8 × Unit) × Int × Unit) × List Int × List (List Int × Bool × Int × Unit) × Int × List (Int × List (List UInt8 × List Int × Bool × Unit) × Unit) × List (Int × Int × List Int × List (Int × Int × Bool × List UInt8 × Unit) × Bool × List (List Int) × Unit) × List (Int × Int × List (Int × Int × List UInt8 × Unit) × Unit) × List (Int × List UInt8 × Bool × Unit) × Bool × Unit) : Option V_impl_JudgeKept :=
  (impl_WorldOk (p0.1, p0.2.1, p0.2.2.1, p0.2.2.2.1, p0.2.2.2.2.1, p0.2.2.2.2.2.1, p0.2.2.2.2.2.2.1, p0.2.2.2.2.2.2.2.1, p0.2.2.2.2.2.2.2.2.1, p0.2.2.2.2.2.2.2.2.2.1, p0.2.2.2.2.2.2.2.2.2.2.1, ())).bind fun u1 =>
  cond (!u1.1.1)
    ((impl_WorldOk (p0.1, p0.2.1, p0.2.2.1, p0.2.2.2.1, p0.2.2.2.2.1, p0.2.2.2.2.2.1, p0.2.2.2.2.2.2.1, p0.2.2.2.2.2.2.2.1, p0.2.2.2.2.2.2.2.2.1, p0.2.2.2.2.2.2.2.2.2.1, p0.2.2.2.2.2.2.2.2.2.2.1, ())).bind fun u2 =>
    some ((u2.1.1, ()), ()))
  (cond (p0.2.2.2.2.2.2.2.2.2.2.1)
    ((impl_WorldOk (p0.1, p0.2.1, p0.2.2.1, p0.2.2.2.1, p0.2.2.2.2.1, p0.2.2.2.2.2.1, p0.2.2.2.2.2.2.1, p0.2.2.2.2.2.2.2.1, p0.2.2.2.2.2.2.2.2.1, p0.2.2.2.2.2.2.2.2.2.1, p0.2.2.2.2.2.2.2.2.2.2.1, ())).bind fun u4 =>
    some ((u4.1.1, ()), ()))
  (R4 p0.2.2.2.2.2.2.2.2.1 (p0.2.2.2.2.2.2.2.2.1.length : Int) 0 p0.1 p0.2.1 p0.2.2.1 p0.2.2.2.1 p0.2.2.2.2.1 p0.2.2.2.2.2.1 p0.2.2.2.2.2.2.1 p0.2.2.2.2.2.2.2.1 p0.2.2.2.2.2.2.2.2.1 p0.2.2.2.2.2.2.2.2.2.1 p0.2.2.2.2.2.2.2.2.2.2.1))
def impl_JudgeKept (p0 : List Int × Int × List (List (Int × Int × Bool × List UInt8 × Unit) × List (Int × Int × Bool × List UInt8 × Unit) × Int × Unit) × List Int × List (List Int × Bool × Int × Unit) × Int × List (Int × List (List UInt8 × List Int × Bool × Unit) × Unit) × List (Int × Int × List Int × List (Int × Int × Bool × List UInt8 × Unit) × Bool × List (List Int) × Unit) × List (Int × Int × List (Int × Int × List UInt8 × Unit) × Unit) × List (Int × List UInt8 × Bool × Unit) × Bool × Unit) : Option V_impl_JudgeKept := impl_JudgeKept_entry (impl_JudgeKept_L4 FUEL) (impl_JudgeKept_L7 FUEL) p0

/-- laws.FnExactJudgeKept -/
abbrev V_laws_FnExactJudgeKept : Type := (Bool × Unit) × Unit
def laws_FnExactJudgeKept (p0 : List Int × Int × List (List (Int × Int × Bool × List UInt8 × Unit) × List (Int × Int × Bool × List UInt8 × Unit) × Int × Unit) × List Int × List (List Int × Bool × Int × Unit) × Int × List (Int × List (List UInt8 × List Int × Bool × Unit) × Unit) × List (Int × Int × List Int × List (Int × Int × Bool × List UInt8 × Unit) × Bool × List (List Int) × Unit) × List (Int × Int × List (Int × Int × List UInt8 × Unit) × Unit) × List (Int × List UInt8 × Bool × Unit) × Bool × Unit) : Option V_laws_FnExactJudgeKept :=
  (laws_szWorld (p0.1, p0.2.1, p0.2.2.1, p0.2.2.2.1, p0.2.2.2.2.1, p0.2.2.2.2.2.1, p0.2.2.2.2.2.2.1, p0.2.2.2.2.2.2.2.1, p0.2.2.2.2.2.2.2.2.1, p0.2.2.2.2.2.2.2.2.2.1, p0.2.2.2.2.2.2.2.2.2.2.1, ()) 1048576).bind fun u1 =>
  cond (decide (u1.1.1 < 0))
    (some ((true, ()), ()))
  ((laws_toWorld (p0.1, p0.2.1, p0.2.2.1, p0.2.2.2.1, p0.2.2.2.2.1, p0.2.2.2.2.2.1, p0.2.2.2.2.2.2.1, p0.2.2.2.2.2.2.2.1, p0.2.2.2.2.2.2.2.2.1, p0.2.2.2.2.2.2.2.2.2.1, p0.2.2.2.2.2.2.2.2.2.2.1, ())).bind fun u2 =>
  (spec_JudgeKept (u2.2.1, u2.1.1.2.1, u2.2.2.1, u2.2.2.2.1, u2.2.2.2.2.1, u2.1.1.2.2.2.2.2.1, u2.2.2.2.2.2.1, u2.2.2.2.2.2.2.1, u2.2.2.2.2.2.2.2.1, u2.2.2.2.2.2.2.2.2.1, u2.1.1.2.2.2.2.2.2.2.2.2.2.1, ())).bind fun u3 =>
  (laws_toWorld (p0.1, p0.2.1, p0.2.2.1, p0.2.2.2.1, p0.2.2.2.2.1, p0.2.2.2.2.2.1, p0.2.2.2.2.2.2.1, p0.2.2.2.2.2.2.2.1, p0.2.2.2.2.2.2.2.2.1, p0.2.2.2.2.2.2.2.2.2.1, p0.2.2.2.2.2.2.2.2.2.2.1, ())).bind fun u4 =>
  (impl_JudgeKept (u4.2.1, u4.1.1.2.1, u4.2.2.1, u4.2.2.2.1, u4.2.2.2.2.1, u4.1.1.2.2.2.2.2.1, u4.2.2.2.2.2.1, u4.2.2.2.2.2.2.1, u4.2.2.2.2.2.2.2.1, u4.2.2.2.2.2.2.2.2.1, u4.1.1.2.2.2.2.2.2.2.2.2.2.1, ())).bind fun u5 =>
  cond (u5.1.1 != u3.1.1)
    (some ((false, ()), ()))
  ((laws_toWorld (p0.1, p0.2.1, p0.2.2.1, p0.2.2.2.1, p0.2.2.2.2.1, p0.2.2.2.2.2.1, p0.2.2.2.2.2.2.1, p0.2.2.2.2.2.2.2.1, p0.2.2.2.2.2.2.2.2.1, p0.2.2.2.2.2.2.2.2.2.1, p0.2.2.2.2.2.2.2.2.2.2.1, ())).bind fun u6 =>
  (laws_eqWorld (u4.2.1, u4.1.1.2.1, u4.2.2.1, u4.2.2.2.1, u4.2.2.2.2.1, u4.1.1.2.2.2.2.2.1, u4.2.2.2.2.2.1, u4.2.2.2.2.2.2.1, u4.2.2.2.2.2.2.2.1, u4.2.2.2.2.2.2.2.2.1, u4.1.1.2.2.2.2.2.2.2.2.2.2.1, ()) (u6.2.1, u6.1.1.2.1, u6.2.2.1, u6.2.2.2.1, u6.2.2.2.2.1, u6.1.1.2.2.2.2.2.1, u6.2.2.2.2.2.1, u6.2.2.2.2.2.2.1, u6.2.2.2.2.2.2.2.1, u6.2.2.2.2.2.2.2.2.1, u6.1.1.2.2.2.2.2.2.2.2.2.2.1, ())).bind fun u7 =>
  cond (!u7.1.1)
    (some ((false, ()), ()))
  (some ((true, ()), ()))))
end
end Go.M
