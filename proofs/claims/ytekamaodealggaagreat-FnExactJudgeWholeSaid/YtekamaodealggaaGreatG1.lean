/- What each function computes, printed by a program out of the translation; what is printed is checked in the equations. -/
import Derived.Test.YtekamaodealggaaGreatG0
set_option linter.unusedVariables false
set_option linter.unusedSimpArgs false
namespace Go.M
noncomputable section
/-- laws.eqReaderS -/
abbrev V_laws_eqReaderS : Type := (Bool × Unit) × Unit
def laws_eqReaderS_step4 (R4 : (List (Int × Int × List (Int × Int × List UInt8 × Unit) × Unit)) → (List (Int × Int × List (Int × Int × List UInt8 × Unit) × Unit)) → Int → Option V_laws_eqReaderS) (t0 : List (Int × Int × List (Int × Int × List UInt8 × Unit) × Unit)) (t1 : List (Int × Int × List (Int × Int × List UInt8 × Unit) × Unit)) (t5 : Int) : Option V_laws_eqReaderS :=
  cond ((decide (t5 < (t0.length : Int))))
    (if (0 : Int) ≤ t5 ∧ t5 < (t0.length : Int) then (
    if (0 : Int) ≤ t5 ∧ t5 < (t1.length : Int) then (
    (laws_eqReader ((t0.getD (t5.toNat) (0, 0, [], ())).1, (t0.getD (t5.toNat) (0, 0, [], ())).2.1, (t0.getD (t5.toNat) (0, 0, [], ())).2.2.1, ()) ((t1.getD (t5.toNat) (0, 0, [], ())).1, (t1.getD (t5.toNat) (0, 0, [], ())).2.1, (t1.getD (t5.toNat) (0, 0, [], ())).2.2.1, ())).bind fun u3 =>
    cond (!u3.1.1)
      (some ((false, ()), ()))
    (R4 t0 t1 (w64 (t5 + 1)))) else none) else none)
  (some ((true, ()), ()))
def laws_eqReaderS_L4 : Nat → (List (Int × Int × List (Int × Int × List UInt8 × Unit) × Unit)) → (List (Int × Int × List (Int × Int × List UInt8 × Unit) × Unit)) → Int → Option V_laws_eqReaderS
  | 0, _, _, _ => none
  | n + 1, a0, a1, a2 => laws_eqReaderS_step4 (laws_eqReaderS_L4 n) a0 a1 a2
def laws_eqReaderS_entry (R4 : (List (Int × Int × List (Int × Int × List UInt8 × Unit) × Unit)) → (List (Int × Int × List (Int × Int × List UInt8 × Unit) × Unit)) → Int → Option V_laws_eqReaderS) (p0 : List (Int × Int × List (Int × Int × List UInt8 × Unit) × Unit)) (p1 : List (Int × Int × List (Int × Int × List UInt8 × Unit) × Unit)) : Option V_laws_eqReaderS :=
  cond (((p0.length : Int) != (p1.length : Int)))
    (some ((false, ()), ()))
  (R4 p0 p1 0)
def laws_eqReaderS (p0 : List (Int × Int × List (Int × Int × List UInt8 × Unit) × Unit)) (p1 : List (Int × Int × List (Int × Int × List UInt8 × Unit) × Unit)) : Option V_laws_eqReaderS := laws_eqReaderS_entry (laws_eqReaderS_L4 FUEL) p0 p1

/-- laws.eqSent -/
abbrev V_laws_eqSent : Type := (Bool × Unit) × Unit
def laws_eqSent (p0 : Int × List UInt8 × Bool × Unit) (p1 : Int × List UInt8 × Bool × Unit) : Option V_laws_eqSent :=
  cond (p0.1 != p1.1)
    (some ((false, ()), ()))
  (cond (!(p0.2.1 == p1.2.1))
    (some ((false, ()), ()))
  (cond (p0.2.2.1 != p1.2.2.1)
    (some ((false, ()), ()))
  (some ((true, ()), ()))))

/-- laws.eqSentS -/
abbrev V_laws_eqSentS : Type := (Bool × Unit) × Unit
def laws_eqSentS_step4 (R4 : (List (Int × List UInt8 × Bool × Unit)) → (List (Int × List UInt8 × Bool × Unit)) → Int → Option V_laws_eqSentS) (t0 : List (Int × List UInt8 × Bool × Unit)) (t1 : List (Int × List UInt8 × Bool × Unit)) (t5 : Int) : Option V_laws_eqSentS :=
  cond ((decide (t5 < (t0.length : Int))))
    (if (0 : Int) ≤ t5 ∧ t5 < (t0.length : Int) then (
    if (0 : Int) ≤ t5 ∧ t5 < (t1.length : Int) then (
    (laws_eqSent ((t0.getD (t5.toNat) (0, [], false, ())).1, (t0.getD (t5.toNat) (0, [], false, ())).2.1, (t0.getD (t5.toNat) (0, [], false, ())).2.2.1, ()) ((t1.getD (t5.toNat) (0, [], false, ())).1, (t1.getD (t5.toNat) (0, [], false, ())).2.1, (t1.getD (t5.toNat) (0, [], false, ())).2.2.1, ())).bind fun u3 =>
    cond (!u3.1.1)
      (some ((false, ()), ()))
    (R4 t0 t1 (w64 (t5 + 1)))) else none) else none)
  (some ((true, ()), ()))
def laws_eqSentS_L4 : Nat → (List (Int × List UInt8 × Bool × Unit)) → (List (Int × List UInt8 × Bool × Unit)) → Int → Option V_laws_eqSentS
  | 0, _, _, _ => none
  | n + 1, a0, a1, a2 => laws_eqSentS_step4 (laws_eqSentS_L4 n) a0 a1 a2
def laws_eqSentS_entry (R4 : (List (Int × List UInt8 × Bool × Unit)) → (List (Int × List UInt8 × Bool × Unit)) → Int → Option V_laws_eqSentS) (p0 : List (Int × List UInt8 × Bool × Unit)) (p1 : List (Int × List UInt8 × Bool × Unit)) : Option V_laws_eqSentS :=
  cond (((p0.length : Int) != (p1.length : Int)))
    (some ((false, ()), ()))
  (R4 p0 p1 0)
def laws_eqSentS (p0 : List (Int × List UInt8 × Bool × Unit)) (p1 : List (Int × List UInt8 × Bool × Unit)) : Option V_laws_eqSentS := laws_eqSentS_entry (laws_eqSentS_L4 FUEL) p0 p1

/-- laws.eqWorld -/
abbrev V_laws_eqWorld : Type := (Bool × Unit) × Unit
def laws_eqWorld (p0 : List Int × Int × List (List (Int × Int × Bool × List UInt8 × Unit) × List (Int × Int × Bool × List UInt8 × Unit) × Int × Unit) × List Int × List (List Int × Bool × Int × Unit) × Int × List (Int × List (List UInt8 × List Int × Bool × Unit) × Unit) × List (Int × Int × List Int × List (Int × Int × Bool × List UInt8 × Unit) × Bool × List (List Int) × Unit) × List (Int × Int × List (Int × Int × List UInt8 × Unit) × Unit) × List (Int × List UInt8 × Bool × Unit) × Bool × Unit) (p1 : List Int × Int × List (List (Int × Int × Bool × List UInt8 × Unit) × List (Int × Int × Bool × List UInt8 × Unit) × Int × Unit) × List Int × List (List Int × Bool × Int × Unit) × Int × List (Int × List (List UInt8 × List Int × Bool × Unit) × Unit) × List (Int × Int × List Int × List (Int × Int × Bool × List UInt8 × Unit) × Bool × List (List Int) × Unit) × List (Int × Int × List (Int × Int × List UInt8 × Unit) × Unit) × List (Int × List UInt8 × Bool × Unit) × Bool × Unit) : Option V_laws_eqWorld :=
  (laws_eqConfig (p0.1, p0.2.1, ()) (p1.1, p1.2.1, ())).bind fun u1 =>
  cond (!u1.1.1)
    (some ((false, ()), ()))
  ((laws_eqStoreS p0.2.2.1 p1.2.2.1).bind fun u2 =>
  cond (!u2.1.1)
    (some ((false, ()), ()))
  ((laws_eqIntS p0.2.2.2.1 p1.2.2.2.1).bind fun u3 =>
  cond (!u3.1.1)
    (some ((false, ()), ()))
  ((laws_eqRegister (p0.2.2.2.2.1, p0.2.2.2.2.2.1, ()) (p1.2.2.2.2.1, p1.2.2.2.2.2.1, ())).bind fun u4 =>
  cond (!u4.1.1)
    (some ((false, ()), ()))
  ((laws_eqWriterS p0.2.2.2.2.2.2.1 p1.2.2.2.2.2.2.1).bind fun u5 =>
  cond (!u5.1.1)
    (some ((false, ()), ()))
  ((laws_eqMendS p0.2.2.2.2.2.2.2.1 p1.2.2.2.2.2.2.2.1).bind fun u6 =>
  cond (!u6.1.1)
    (some ((false, ()), ()))
  ((laws_eqReaderS p0.2.2.2.2.2.2.2.2.1 p1.2.2.2.2.2.2.2.2.1).bind fun u7 =>
  cond (!u7.1.1)
    (some ((false, ()), ()))
  ((laws_eqSentS p0.2.2.2.2.2.2.2.2.2.1 p1.2.2.2.2.2.2.2.2.2.1).bind fun u8 =>
  cond (!u8.1.1)
    (some ((false, ()), ()))
  (cond (p0.2.2.2.2.2.2.2.2.2.2.1 != p1.2.2.2.2.2.2.2.2.2.2.1)
    (some ((false, ()), ()))
  (some ((true, ()), ()))))))))))

/-- laws.FnExactJudgeWhole -/
abbrev V_laws_FnExactJudgeWhole : Type := (Bool × Unit) × Unit
def laws_FnExactJudgeWhole (p0 : List Int × Int × List (List (Int × Int × Bool × List UInt8 × Unit) × List (Int × Int × Bool × List UInt8 × Unit) × Int × Unit) × List Int × List (List Int × Bool × Int × Unit) × Int × List (Int × List (List UInt8 × List Int × Bool × Unit) × Unit) × List (Int × Int × List Int × List (Int × Int × Bool × List UInt8 × Unit) × Bool × List (List Int) × Unit) × List (Int × Int × List (Int × Int × List UInt8 × Unit) × Unit) × List (Int × List UInt8 × Bool × Unit) × Bool × Unit) : Option V_laws_FnExactJudgeWhole :=
  (laws_szWorld (p0.1, p0.2.1, p0.2.2.1, p0.2.2.2.1, p0.2.2.2.2.1, p0.2.2.2.2.2.1, p0.2.2.2.2.2.2.1, p0.2.2.2.2.2.2.2.1, p0.2.2.2.2.2.2.2.2.1, p0.2.2.2.2.2.2.2.2.2.1, p0.2.2.2.2.2.2.2.2.2.2.1, ()) 1048576).bind fun u1 =>
  cond (decide (u1.1.1 < 0))
    (some ((true, ()), ()))
  ((laws_toWorld (p0.1, p0.2.1, p0.2.2.1, p0.2.2.2.1, p0.2.2.2.2.1, p0.2.2.2.2.2.1, p0.2.2.2.2.2.2.1, p0.2.2.2.2.2.2.2.1, p0.2.2.2.2.2.2.2.2.1, p0.2.2.2.2.2.2.2.2.2.1, p0.2.2.2.2.2.2.2.2.2.2.1, ())).bind fun u2 =>
  (spec_JudgeWhole (u2.2.1, u2.1.1.2.1, u2.2.2.1, u2.2.2.2.1, u2.2.2.2.2.1, u2.1.1.2.2.2.2.2.1, u2.2.2.2.2.2.1, u2.2.2.2.2.2.2.1, u2.2.2.2.2.2.2.2.1, u2.2.2.2.2.2.2.2.2.1, u2.1.1.2.2.2.2.2.2.2.2.2.2.1, ())).bind fun u3 =>
  (laws_toWorld (p0.1, p0.2.1, p0.2.2.1, p0.2.2.2.1, p0.2.2.2.2.1, p0.2.2.2.2.2.1, p0.2.2.2.2.2.2.1, p0.2.2.2.2.2.2.2.1, p0.2.2.2.2.2.2.2.2.1, p0.2.2.2.2.2.2.2.2.2.1, p0.2.2.2.2.2.2.2.2.2.2.1, ())).bind fun u4 =>
  (impl_JudgeWhole (u4.2.1, u4.1.1.2.1, u4.2.2.1, u4.2.2.2.1, u4.2.2.2.2.1, u4.1.1.2.2.2.2.2.1, u4.2.2.2.2.2.1, u4.2.2.2.2.2.2.1, u4.2.2.2.2.2.2.2.1, u4.2.2.2.2.2.2.2.2.1, u4.1.1.2.2.2.2.2.2.2.2.2.2.1, ())).bind fun u5 =>
  cond (u5.1.1 != u3.1.1)
    (some ((false, ()), ()))
  ((laws_toWorld (p0.1, p0.2.1, p0.2.2.1, p0.2.2.2.1, p0.2.2.2.2.1, p0.2.2.2.2.2.1, p0.2.2.2.2.2.2.1, p0.2.2.2.2.2.2.2.1, p0.2.2.2.2.2.2.2.2.1, p0.2.2.2.2.2.2.2.2.2.1, p0.2.2.2.2.2.2.2.2.2.2.1, ())).bind fun u6 =>
  (laws_eqWorld (u4.2.1, u4.1.1.2.1, u4.2.2.1, u4.2.2.2.1, u4.2.2.2.2.1, u4.1.1.2.2.2.2.2.1, u4.2.2.2.2.2.1, u4.2.2.2.2.2.2.1, u4.2.2.2.2.2.2.2.1, u4.2.2.2.2.2.2.2.2.1, u4.1.1.2.2.2.2.2.2.2.2.2.2.1, ()) (u6.2.1, u6.1.1.2.1, u6.2.2.1, u6.2.2.2.1, u6.2.2.2.2.1, u6.1.1.2.2.2.2.2.1, u6.2.2.2.2.2.1, u6.2.2.2.2.2.2.1, u6.2.2.2.2.2.2.2.1, u6.2.2.2.2.2.2.2.2.1, u6.1.1.2.2.2.2.2.2.2.2.2.2.1, ())).bind fun u7 =>
  cond (!u7.1.1)
    (some ((false, ()), ()))
  (some ((true, ()), ()))))
end
end Go.M
