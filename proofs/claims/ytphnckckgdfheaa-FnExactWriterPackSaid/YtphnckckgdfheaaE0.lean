/- Each function computes what was printed: by the kernel. -/
import Derived.Test.YtphnckckgdfheaaG0
import Derived.Test.YtphnckckgdfheaaProg
import Derived.KernelRfl
set_option linter.unusedVariables false
set_option linter.unusedSimpArgs false
namespace Go.Proofs.Ytphnckckgdfheaa.Wk
open Go Go.Fw Go.M Go.Proofs
abbrev tI : Ty := .int .i64
abbrev tU : Ty := .int .u8
abbrev Y0 : Ty := (.cons (.sl tI) (.cons tI .unit))
abbrev Y1 : Ty := (.cons .str (.cons (.sl tI) (.cons .bool .unit)))
abbrev Y2 : Ty := (.cons tI (.cons (.sl Y1) .unit))
def T : Tab := [(3, ⟨1, 8, .int .i64, some tI⟩),
  (4, ⟨1, 1, .bool, some .bool⟩),
  (5, ⟨1, 1, .int .u8, some tU⟩),
  (9, ⟨1, 16, .str, some .str⟩),
  (22, ⟨1, 24, .sl 5, some (.sl tU)⟩),
  (34, ⟨1, 24, .sl 3, some (.sl tI)⟩),
  (36, ⟨2, 32, .st [(0, 34), (1, 3)], some Y0⟩),
  (37, ⟨1, 24, .sl 134, some (.sl Y1)⟩),
  (39, ⟨2, 32, .st [(0, 3), (1, 37)], some Y2⟩),
  (43, ⟨2, 32, .st [(0, 34), (1, 3)], some Y0⟩),
  (45, ⟨1, 24, .sl 105, some (.sl Y1)⟩),
  (47, ⟨2, 32, .st [(0, 3), (1, 45)], some Y2⟩),
  (105, ⟨3, 48, .st [(0, 9), (1, 34), (2, 4)], some Y1⟩),
  (134, ⟨3, 48, .st [(0, 9), (1, 34), (2, 4)], some Y1⟩),
  (149, ⟨1, 24, .sl 4, some (.sl .bool)⟩)]
theorem tOk : TabOk Try.prog T := tabOk_of_check (by kernel_rfl)
theorem mx : Try.prog.follows .mixedOrders = true := by kernel_rfl

/-! laws_szIntS -/
abbrev i62 : Shp := ⟨[(0, .c (.sl false tI)), (1, .c (.v tI))], []⟩
abbrev o62 : Shp := ⟨[(0, .c (.v tI))], []⟩
noncomputable def c62 : Con := ⟨i62, o62, fun v => laws_szIntS v.1.1 v.1.2.1⟩
noncomputable def l62 : List (Nat × Con) := []
noncomputable def C62 : Cfg := ⟨T, gam l62, hintOf []⟩
theorem e62 (ω : List Bool) (v : i62.V) : enterF C62 c62 Try.f62 (fun _ _ => none) ω v = laws_szIntS v.1.1 v.1.2.1 := by kernel_rfl
theorem s62 : SoundC Try.prog 62 c62 := sound_by0 (l := l62) tOk mx Try.func62 trivial (by kernel_rfl) (by kernel_rfl) e62

/-! laws_szConfig -/
abbrev i16 : Shp := ⟨[(0, .row Y0), (1, .c (.v tI))], []⟩
abbrev o16 : Shp := ⟨[(0, .c (.v tI))], []⟩
noncomputable def c16 : Con := ⟨i16, o16, fun v => laws_szConfig v.1.1 v.1.2.1⟩
noncomputable def l16 : List (Nat × Con) := [(62, c62)]
noncomputable def C16 : Cfg := ⟨T, gam l16, hintOf []⟩
theorem e16 (ω : List Bool) (v : i16.V) : enterF C16 c16 Try.f16 (fun _ _ => none) ω v = laws_szConfig v.1.1 v.1.2.1 := by kernel_rfl
theorem s16 : SoundC Try.prog 16 c16 := sound_by0 (l := l16) tOk mx Try.func16 ⟨s62, trivial⟩ (by kernel_rfl) (by kernel_rfl) e16

/-! laws_szWord -/
abbrev i100 : Shp := ⟨[(0, .row Y1), (1, .c (.v tI))], []⟩
abbrev o100 : Shp := ⟨[(0, .c (.v tI))], []⟩
noncomputable def c100 : Con := ⟨i100, o100, fun v => laws_szWord v.1.1 v.1.2.1⟩
noncomputable def l100 : List (Nat × Con) := [(62, c62)]
noncomputable def C100 : Cfg := ⟨T, gam l100, hintOf []⟩
theorem e100 (ω : List Bool) (v : i100.V) : enterF C100 c100 Try.f100 (fun _ _ => none) ω v = laws_szWord v.1.1 v.1.2.1 := by kernel_rfl
theorem s100 : SoundC Try.prog 100 c100 := sound_by0 (l := l100) tOk mx Try.func100 ⟨s62, trivial⟩ (by kernel_rfl) (by kernel_rfl) e100

/-! laws_szWordS -/
abbrev i63 : Shp := ⟨[(0, .c (.sl false Y1)), (1, .c (.v tI))], []⟩
abbrev o63 : Shp := ⟨[(0, .c (.v tI))], []⟩
noncomputable def c63 : Con := ⟨i63, o63, fun v => laws_szWordS v.1.1 v.1.2.1⟩
noncomputable def l63 : List (Nat × Con) := [(100, c100)]
noncomputable def C63 : Cfg := ⟨T, gam l63, hintOf []⟩
abbrev h63_5 : Shp := ⟨[(0, .c (.sl false Y1)), (1, .c (.v tI)), (5, .c (.v tI))], []⟩
noncomputable def j63 (n ℓ : Nat) (σ : St) : Option o63.V := if ℓ = 5 then jump 0 h63_5 (fun v => laws_szWordS_L5 n v.1.1 v.1.2.1 v.1.2.2.1) σ else none
theorem q63_5 (n : Nat) (v : h63_5.V) (ω : List Bool) : loopF C63 c63 Try.f63 (j63 n) 5 ω (h63_5.st 27 v) = laws_szWordS_step5 (laws_szWordS_L5 n) v.1.1 v.1.2.1 v.1.2.2.1 := by kernel_rfl
theorem e63 (n : Nat) (ω : List Bool) (v : i63.V) : enterF C63 c63 Try.f63 (j63 n) ω v = laws_szWordS_entry (laws_szWordS_L5 n) v.1.1 v.1.2.1 := by kernel_rfl
theorem s63 : SoundC Try.prog 63 c63 := sound_by (l := l63) (J := j63) (L := [5]) tOk mx Try.func63 ⟨s100, trivial⟩ (by kernel_rfl) (by kernel_rfl)
  ⟨⟨h63_5, fun n v => laws_szWordS_L5 n v.1.1 v.1.2.1 v.1.2.2.1, fun _ => rfl, fun _ => rfl, q63_5⟩, trivial⟩ FUEL (e63 FUEL)

/-! laws_szWriter -/
abbrev i17 : Shp := ⟨[(0, .row Y2), (1, .c (.v tI))], []⟩
abbrev o17 : Shp := ⟨[(0, .c (.v tI))], []⟩
noncomputable def c17 : Con := ⟨i17, o17, fun v => laws_szWriter v.1.1 v.1.2.1⟩
noncomputable def l17 : List (Nat × Con) := [(63, c63)]
noncomputable def C17 : Cfg := ⟨T, gam l17, hintOf []⟩
theorem e17 (ω : List Bool) (v : i17.V) : enterF C17 c17 Try.f17 (fun _ _ => none) ω v = laws_szWriter v.1.1 v.1.2.1 := by kernel_rfl
theorem s17 : SoundC Try.prog 17 c17 := sound_by0 (l := l17) tOk mx Try.func17 ⟨s63, trivial⟩ (by kernel_rfl) (by kernel_rfl) e17

/-! laws_toIntS -/
abbrev i66 : Shp := ⟨[(0, .c (.sl false tI))], []⟩
abbrev o66 : Shp := ⟨[(0, .c (.ref 0))], [.sl 9 tI]⟩
noncomputable def c66 : Con := ⟨i66, o66, fun v => laws_toIntS v.1.1⟩
noncomputable def l66 : List (Nat × Con) := []
noncomputable def C66 : Cfg := ⟨T, gam l66, hintOf []⟩
abbrev h66_3 : Shp := ⟨[(0, .c (.sl false tI)), (3, .c (.ref 0)), (4, .c (.v tI))], [.sl 9 tI]⟩
noncomputable def j66 (n ℓ : Nat) (σ : St) : Option o66.V := if ℓ = 3 then jump 0 h66_3 (fun v => laws_toIntS_L3 n v.1.1 v.1.2.2.1 v.2.1) σ else none
theorem q66_3 (n : Nat) (v : h66_3.V) (ω : List Bool) : loopF C66 c66 Try.f66 (j66 n) 3 ω (h66_3.st 22 v) = laws_toIntS_step3 (laws_toIntS_L3 n) v.1.1 v.1.2.2.1 v.2.1 := by kernel_rfl
theorem e66 (n : Nat) (ω : List Bool) (v : i66.V) : enterF C66 c66 Try.f66 (j66 n) ω v = laws_toIntS_entry (laws_toIntS_L3 n) v.1.1 := by kernel_rfl
theorem s66 : SoundC Try.prog 66 c66 := sound_by (l := l66) (J := j66) (L := [3]) tOk mx Try.func66 trivial (by kernel_rfl) (by kernel_rfl)
  ⟨⟨h66_3, fun n v => laws_toIntS_L3 n v.1.1 v.1.2.2.1 v.2.1, fun _ => rfl, fun _ => rfl, q66_3⟩, trivial⟩ FUEL (e66 FUEL)

/-! laws_toConfig -/
abbrev i19 : Shp := ⟨[(0, .row Y0)], []⟩
abbrev o19 : Shp := ⟨[(0, .agg [.ref 0, .v tI])], [.sl 9 tI]⟩
noncomputable def c19 : Con := ⟨i19, o19, fun v => laws_toConfig v.1.1⟩
noncomputable def l19 : List (Nat × Con) := [(66, c66)]
noncomputable def C19 : Cfg := ⟨T, gam l19, hintOf []⟩
theorem e19 (ω : List Bool) (v : i19.V) : enterF C19 c19 Try.f19 (fun _ _ => none) ω v = laws_toConfig v.1.1 := by kernel_rfl
theorem s19 : SoundC Try.prog 19 c19 := sound_by0 (l := l19) tOk mx Try.func19 ⟨s66, trivial⟩ (by kernel_rfl) (by kernel_rfl) e19

/-! laws_toWord -/
abbrev i104 : Shp := ⟨[(0, .row Y1)], []⟩
abbrev o104 : Shp := ⟨[(0, .agg [.v .str, .ref 0, .v .bool])], [.sl 9 tI]⟩
noncomputable def c104 : Con := ⟨i104, o104, fun v => laws_toWord v.1.1⟩
noncomputable def l104 : List (Nat × Con) := [(66, c66)]
noncomputable def C104 : Cfg := ⟨T, gam l104, hintOf []⟩
theorem e104 (ω : List Bool) (v : i104.V) : enterF C104 c104 Try.f104 (fun _ _ => none) ω v = laws_toWord v.1.1 := by kernel_rfl
theorem s104 : SoundC Try.prog 104 c104 := sound_by0 (l := l104) tOk mx Try.func104 ⟨s66, trivial⟩ (by kernel_rfl) (by kernel_rfl) e104

/-! laws_toWordS -/
abbrev i67 : Shp := ⟨[(0, .c (.sl false Y1))], []⟩
abbrev o67 : Shp := ⟨[(0, .c (.ref 0))], [.sl 9 Y1]⟩
noncomputable def c67 : Con := ⟨i67, o67, fun v => laws_toWordS v.1.1⟩
noncomputable def l67 : List (Nat × Con) := [(104, c104)]
noncomputable def C67 : Cfg := ⟨T, gam l67, hintOf []⟩
abbrev h67_3 : Shp := ⟨[(0, .c (.sl false Y1)), (3, .c (.ref 0)), (4, .c (.v tI))], [.sl 9 Y1]⟩
noncomputable def j67 (n ℓ : Nat) (σ : St) : Option o67.V := if ℓ = 3 then jump 0 h67_3 (fun v => laws_toWordS_L3 n v.1.1 v.1.2.2.1 v.2.1) σ else none
theorem q67_3 (n : Nat) (v : h67_3.V) (ω : List Bool) : loopF C67 c67 Try.f67 (j67 n) 3 ω (h67_3.st 23 v) = laws_toWordS_step3 (laws_toWordS_L3 n) v.1.1 v.1.2.2.1 v.2.1 := by kernel_rfl
theorem e67 (n : Nat) (ω : List Bool) (v : i67.V) : enterF C67 c67 Try.f67 (j67 n) ω v = laws_toWordS_entry (laws_toWordS_L3 n) v.1.1 := by kernel_rfl
theorem s67 : SoundC Try.prog 67 c67 := sound_by (l := l67) (J := j67) (L := [3]) tOk mx Try.func67 ⟨s104, trivial⟩ (by kernel_rfl) (by kernel_rfl)
  ⟨⟨h67_3, fun n v => laws_toWordS_L3 n v.1.1 v.1.2.2.1 v.2.1, fun _ => rfl, fun _ => rfl, q67_3⟩, trivial⟩ FUEL (e67 FUEL)

/-! laws_toWriter -/
abbrev i20 : Shp := ⟨[(0, .row Y2)], []⟩
abbrev o20 : Shp := ⟨[(0, .agg [.v tI, .ref 0])], [.sl 9 Y1]⟩
noncomputable def c20 : Con := ⟨i20, o20, fun v => laws_toWriter v.1.1⟩
noncomputable def l20 : List (Nat × Con) := [(67, c67)]
noncomputable def C20 : Cfg := ⟨T, gam l20, hintOf []⟩
theorem e20 (ω : List Bool) (v : i20.V) : enterF C20 c20 Try.f20 (fun _ _ => none) ω v = laws_toWriter v.1.1 := by kernel_rfl
theorem s20 : SoundC Try.prog 20 c20 := sound_by0 (l := l20) tOk mx Try.func20 ⟨s67, trivial⟩ (by kernel_rfl) (by kernel_rfl) e20

/-! spec_l1In -/
abbrev i102 : Shp := ⟨[(0, .c (.v tI)), (1, .c (.v tI)), (2, .c (.v tI))], []⟩
abbrev o102 : Shp := ⟨[(0, .c (.v .bool))], []⟩
noncomputable def c102 : Con := ⟨i102, o102, fun v => spec_l1In v.1.1 v.1.2.1 v.1.2.2.1⟩
noncomputable def l102 : List (Nat × Con) := []
noncomputable def C102 : Cfg := ⟨T, gam l102, hintOf []⟩
theorem e102 (ω : List Bool) (v : i102.V) : enterF C102 c102 Try.f102 (fun _ _ => none) ω v = spec_l1In v.1.1 v.1.2.1 v.1.2.2.1 := by kernel_rfl
theorem s102 : SoundC Try.prog 102 c102 := sound_by0 (l := l102) tOk mx Try.func102 trivial (by kernel_rfl) (by kernel_rfl) e102

/-! spec_ConfigOk -/
abbrev i101 : Shp := ⟨[(0, .row Y0)], []⟩
abbrev o101 : Shp := ⟨[(0, .c (.v .bool))], []⟩
noncomputable def c101 : Con := ⟨i101, o101, fun v => spec_ConfigOk v.1.1⟩
noncomputable def l101 : List (Nat × Con) := [(102, c102)]
noncomputable def C101 : Cfg := ⟨T, gam l101, hintOf []⟩
abbrev h101_4 : Shp := ⟨[(1, .c (.ptr 0 0)), (3, .c (.v tI))], [.mem [.sl false tI, .v tI]]⟩
noncomputable def j101 (n ℓ : Nat) (σ : St) : Option o101.V := if ℓ = 4 then jump 0 h101_4 (fun v => spec_ConfigOk_L4 n v.1.2.1 v.2.1.1 v.2.1.2.1) σ else none
theorem q101_4 (n : Nat) (v : h101_4.V) (ω : List Bool) : loopF C101 c101 Try.f101 (j101 n) 4 ω (h101_4.st 29 v) = spec_ConfigOk_step4 (spec_ConfigOk_L4 n) v.1.2.1 v.2.1.1 v.2.1.2.1 := by kernel_rfl
theorem e101 (n : Nat) (ω : List Bool) (v : i101.V) : enterF C101 c101 Try.f101 (j101 n) ω v = spec_ConfigOk_entry (spec_ConfigOk_L4 n) v.1.1 := by kernel_rfl
theorem s101 : SoundC Try.prog 101 c101 := sound_by (l := l101) (J := j101) (L := [4]) tOk mx Try.func101 ⟨s102, trivial⟩ (by kernel_rfl) (by kernel_rfl)
  ⟨⟨h101_4, fun n v => spec_ConfigOk_L4 n v.1.2.1 v.2.1.1 v.2.1.2.1, fun _ => rfl, fun _ => rfl, q101_4⟩, trivial⟩ FUEL (e101 FUEL)

/-! spec_l4Asc -/
abbrev i120 : Shp := ⟨[(0, .c (.sl false tI)), (1, .c (.v tI)), (2, .c (.v tI))], []⟩
abbrev o120 : Shp := ⟨[(0, .c (.v .bool))], []⟩
noncomputable def c120 : Con := ⟨i120, o120, fun v => spec_l4Asc v.1.1 v.1.2.1 v.1.2.2.1⟩
noncomputable def l120 : List (Nat × Con) := [(102, c102)]
noncomputable def C120 : Cfg := ⟨T, gam l120, hintOf []⟩
abbrev h120_2 : Shp := ⟨[(0, .c (.sl false tI)), (1, .c (.v tI)), (2, .c (.v tI)), (7, .c (.v tI))], []⟩
noncomputable def j120 (n ℓ : Nat) (σ : St) : Option o120.V := if ℓ = 2 then jump 0 h120_2 (fun v => spec_l4Asc_L2 n v.1.1 v.1.2.1 v.1.2.2.1 v.1.2.2.2.1) σ else none
theorem q120_2 (n : Nat) (v : h120_2.V) (ω : List Bool) : loopF C120 c120 Try.f120 (j120 n) 2 ω (h120_2.st 38 v) = spec_l4Asc_step2 (spec_l4Asc_L2 n) v.1.1 v.1.2.1 v.1.2.2.1 v.1.2.2.2.1 := by kernel_rfl
theorem e120 (n : Nat) (ω : List Bool) (v : i120.V) : enterF C120 c120 Try.f120 (j120 n) ω v = spec_l4Asc_entry (spec_l4Asc_L2 n) v.1.1 v.1.2.1 v.1.2.2.1 := by kernel_rfl
theorem s120 : SoundC Try.prog 120 c120 := sound_by (l := l120) (J := j120) (L := [2]) tOk mx Try.func120 ⟨s102, trivial⟩ (by kernel_rfl) (by kernel_rfl)
  ⟨⟨h120_2, fun n v => spec_l4Asc_L2 n v.1.1 v.1.2.1 v.1.2.2.1 v.1.2.2.2.1, fun _ => rfl, fun _ => rfl, q120_2⟩, trivial⟩ FUEL (e120 FUEL)

/-! spec_NodesOk -/
abbrev i103 : Shp := ⟨[(0, .row Y0), (1, .c (.sl false tI))], []⟩
abbrev o103 : Shp := ⟨[(0, .c (.v .bool))], []⟩
noncomputable def c103 : Con := ⟨i103, o103, fun v => spec_NodesOk v.1.1 v.1.2.1⟩
noncomputable def l103 : List (Nat × Con) := [(101, c101), (120, c120)]
noncomputable def C103 : Cfg := ⟨T, gam l103, hintOf []⟩
theorem e103 (ω : List Bool) (v : i103.V) : enterF C103 c103 Try.f103 (fun _ _ => none) ω v = spec_NodesOk v.1.1 v.1.2.1 := by kernel_rfl
theorem s103 : SoundC Try.prog 103 c103 := sound_by0 (l := l103) tOk mx Try.func103 ⟨s101, s120, trivial⟩ (by kernel_rfl) (by kernel_rfl) e103

/-! spec_l4Span -/
abbrev i118 : Shp := ⟨[(0, .row Y0), (1, .c (.sl false tI))], []⟩
abbrev o118 : Shp := ⟨[(0, .c (.v tI))], []⟩
noncomputable def c118 : Con := ⟨i118, o118, fun v => spec_l4Span v.1.1 v.1.2.1⟩
noncomputable def l118 : List (Nat × Con) := []
noncomputable def C118 : Cfg := ⟨T, gam l118, hintOf [(6, [0, 1])]⟩
abbrev h118_4 : Shp := ⟨[(1, .c (.sl false tI)), (2, .c (.ptr 0 0)), (5, .c (.ref 1)), (6, .c (.v tI)), (7, .c (.v tI))], [.mem [.sl false tI, .v tI], .sl 9 .bool]⟩
noncomputable def j118 (n ℓ : Nat) (σ : St) : Option o118.V := if ℓ = 4 then jump 0 h118_4 (fun v => spec_l4Span_L4 n v.1.1 v.1.2.2.2.1 v.1.2.2.2.2.1 v.2.1.1 v.2.1.2.1 v.2.2.1) σ else none
theorem q118_4 (n : Nat) (v : h118_4.V) (ω : List Bool) : loopF C118 c118 Try.f118 (j118 n) 4 ω (h118_4.st 35 v) = spec_l4Span_step4 (spec_l4Span_L4 n) v.1.1 v.1.2.2.2.1 v.1.2.2.2.2.1 v.2.1.1 v.2.1.2.1 v.2.2.1 := by kernel_rfl
theorem e118 (n : Nat) (ω : List Bool) (v : i118.V) : enterF C118 c118 Try.f118 (j118 n) ω v = spec_l4Span_entry (spec_l4Span_L4 n) v.1.1 v.1.2.1 := by kernel_rfl
theorem s118 : SoundC Try.prog 118 c118 := sound_by (l := l118) (J := j118) (L := [4]) tOk mx Try.func118 trivial (by kernel_rfl) (by kernel_rfl)
  ⟨⟨h118_4, fun n v => spec_l4Span_L4 n v.1.1 v.1.2.2.2.1 v.1.2.2.2.2.1 v.2.1.1 v.2.1.2.1 v.2.2.1, fun _ => rfl, fun _ => rfl, q118_4⟩, trivial⟩ FUEL (e118 FUEL)

/-! spec_Holds -/
abbrev i86 : Shp := ⟨[(0, .row Y0), (1, .c (.sl false tI))], []⟩
abbrev o86 : Shp := ⟨[(0, .c (.v .bool))], []⟩
noncomputable def c86 : Con := ⟨i86, o86, fun v => spec_Holds v.1.1 v.1.2.1⟩
noncomputable def l86 : List (Nat × Con) := [(103, c103), (118, c118)]
noncomputable def C86 : Cfg := ⟨T, gam l86, hintOf [(1, [0])]⟩
theorem e86 (ω : List Bool) (v : i86.V) : enterF C86 c86 Try.f86 (fun _ _ => none) ω v = spec_Holds v.1.1 v.1.2.1 := by kernel_rfl
theorem s86 : SoundC Try.prog 86 c86 := sound_by0 (l := l86) tOk mx Try.func86 ⟨s103, s118, trivial⟩ (by kernel_rfl) (by kernel_rfl) e86

/-! spec_WriterOk -/
abbrev i64 : Shp := ⟨[(0, .row Y0), (1, .row Y2)], []⟩
abbrev o64 : Shp := ⟨[(0, .c (.v .bool))], []⟩
noncomputable def c64 : Con := ⟨i64, o64, fun v => spec_WriterOk v.1.1 v.1.2.1⟩
noncomputable def l64 : List (Nat × Con) := [(86, c86), (101, c101), (102, c102), (103, c103)]
noncomputable def C64 : Cfg := ⟨T, gam l64, hintOf [(8, [0, 1, 2])]⟩
abbrev h64_5 : Shp := ⟨[(2, .c (.ptr 0 0)), (3, .c (.ptr 1 0)), (5, .c (.v tI)), (6, .c (.v tI))], [.mem [.sl false tI, .v tI], .mem [.v tI, .sl false Y1]]⟩
noncomputable def j64 (n ℓ : Nat) (σ : St) : Option o64.V := if ℓ = 5 then jump 0 h64_5 (fun v => spec_WriterOk_L5 n v.1.2.2.1 v.1.2.2.2.1 v.2.1.1 v.2.1.2.1 v.2.2.1.1 v.2.2.1.2.1) σ else none
theorem q64_5 (n : Nat) (v : h64_5.V) (ω : List Bool) : loopF C64 c64 Try.f64 (j64 n) 5 ω (h64_5.st 62 v) = spec_WriterOk_step5 (spec_WriterOk_L5 n) v.1.2.2.1 v.1.2.2.2.1 v.2.1.1 v.2.1.2.1 v.2.2.1.1 v.2.2.1.2.1 := by kernel_rfl
theorem e64 (n : Nat) (ω : List Bool) (v : i64.V) : enterF C64 c64 Try.f64 (j64 n) ω v = spec_WriterOk_entry (spec_WriterOk_L5 n) v.1.1 v.1.2.1 := by kernel_rfl
theorem s64 : SoundC Try.prog 64 c64 := sound_by (l := l64) (J := j64) (L := [5]) tOk mx Try.func64 ⟨s86, s101, s102, s103, trivial⟩ (by kernel_rfl) (by kernel_rfl)
  ⟨⟨h64_5, fun n v => spec_WriterOk_L5 n v.1.2.2.1 v.1.2.2.2.1 v.2.1.1 v.2.1.2.1 v.2.2.1.1 v.2.2.1.2.1, fun _ => rfl, fun _ => rfl, q64_5⟩, trivial⟩ FUEL (e64 FUEL)

/-! spec_PutNum -/
abbrev i49 : Shp := ⟨[(0, .c (.v tI))], []⟩
abbrev o49 : Shp := ⟨[(0, .c (.ref 0))], [.sl 9 tU]⟩
noncomputable def c49 : Con := ⟨i49, o49, fun v => spec_PutNum v.1.1⟩
noncomputable def l49 : List (Nat × Con) := []
noncomputable def C49 : Cfg := ⟨T, gam l49, hintOf []⟩
abbrev h49_4 : Shp := ⟨[(0, .c (.v tI)), (3, .c (.ref 0))], [.sl 9 tU]⟩
noncomputable def j49 (n ℓ : Nat) (σ : St) : Option o49.V := if ℓ = 4 then jump 0 h49_4 (fun v => spec_PutNum_L4 n v.1.1 v.2.1) σ else none
theorem q49_4 (n : Nat) (v : h49_4.V) (ω : List Bool) : loopF C49 c49 Try.f49 (j49 n) 4 ω (h49_4.st 24 v) = spec_PutNum_step4 (spec_PutNum_L4 n) v.1.1 v.2.1 := by kernel_rfl
theorem e49 (n : Nat) (ω : List Bool) (v : i49.V) : enterF C49 c49 Try.f49 (j49 n) ω v = spec_PutNum_entry (spec_PutNum_L4 n) v.1.1 := by kernel_rfl
theorem s49 : SoundC Try.prog 49 c49 := sound_by (l := l49) (J := j49) (L := [4]) tOk mx Try.func49 trivial (by kernel_rfl) (by kernel_rfl)
  ⟨⟨h49_4, fun n v => spec_PutNum_L4 n v.1.1 v.2.1, fun _ => rfl, fun _ => rfl, q49_4⟩, trivial⟩ FUEL (e49 FUEL)

/-! spec_PutText -/
abbrev i50 : Shp := ⟨[(0, .c (.v .str))], []⟩
abbrev o50 : Shp := ⟨[(0, .c (.ref 0))], [.sl 9 tU]⟩
noncomputable def c50 : Con := ⟨i50, o50, fun v => spec_PutText v.1.1⟩
noncomputable def l50 : List (Nat × Con) := [(49, c49)]
noncomputable def C50 : Cfg := ⟨T, gam l50, hintOf []⟩
theorem e50 (ω : List Bool) (v : i50.V) : enterF C50 c50 Try.f50 (fun _ _ => none) ω v = spec_PutText v.1.1 := by kernel_rfl
theorem s50 : SoundC Try.prog 50 c50 := sound_by0 (l := l50) tOk mx Try.func50 ⟨s49, trivial⟩ (by kernel_rfl) (by kernel_rfl) e50

/-! spec_l17List -/
abbrev i65 : Shp := ⟨[(0, .c (.sl false tI))], []⟩
abbrev o65 : Shp := ⟨[(0, .c (.ref 0))], [.sl 9 tU]⟩
noncomputable def c65 : Con := ⟨i65, o65, fun v => spec_l17List v.1.1⟩
noncomputable def l65 : List (Nat × Con) := [(49, c49)]
noncomputable def C65 : Cfg := ⟨T, gam l65, hintOf []⟩
abbrev h65_3 : Shp := ⟨[(0, .c (.sl false tI)), (3, .c (.ref 0)), (4, .c (.v tI))], [.sl 9 tU]⟩
noncomputable def j65 (n ℓ : Nat) (σ : St) : Option o65.V := if ℓ = 3 then jump 0 h65_3 (fun v => spec_l17List_L3 n v.1.1 v.1.2.2.1 v.2.1) σ else none
theorem q65_3 (n : Nat) (v : h65_3.V) (ω : List Bool) : loopF C65 c65 Try.f65 (j65 n) 3 ω (h65_3.st 22 v) = spec_l17List_step3 (spec_l17List_L3 n) v.1.1 v.1.2.2.1 v.2.1 := by kernel_rfl
theorem e65 (n : Nat) (ω : List Bool) (v : i65.V) : enterF C65 c65 Try.f65 (j65 n) ω v = spec_l17List_entry (spec_l17List_L3 n) v.1.1 := by kernel_rfl
theorem s65 : SoundC Try.prog 65 c65 := sound_by (l := l65) (J := j65) (L := [3]) tOk mx Try.func65 ⟨s49, trivial⟩ (by kernel_rfl) (by kernel_rfl)
  ⟨⟨h65_3, fun n v => spec_l17List_L3 n v.1.1 v.1.2.2.1 v.2.1, fun _ => rfl, fun _ => rfl, q65_3⟩, trivial⟩ FUEL (e65 FUEL)

/-! spec_WriterPack -/
abbrev i18 : Shp := ⟨[(0, .row Y0), (1, .row Y2)], []⟩
abbrev o18 : Shp := ⟨[(0, .tup [.inl (.ref 0), .inl (.v .bool)])], [.sl 9 tU]⟩
noncomputable def c18 : Con := ⟨i18, o18, fun v => spec_WriterPack v.1.1 v.1.2.1⟩
noncomputable def l18 : List (Nat × Con) := [(49, c49), (50, c50), (64, c64), (65, c65)]
noncomputable def C18 : Cfg := ⟨T, gam l18, hintOf [(3, [0, 1]), (7, [0])]⟩
abbrev h18_5 : Shp := ⟨[(3, .c (.ptr 0 0)), (6, .c (.ref 1)), (7, .c (.v tI))], [.mem [.v tI, .sl false Y1], .sl 9 tU]⟩
noncomputable def j18 (n ℓ : Nat) (σ : St) : Option o18.V := if ℓ = 5 then jump 0 h18_5 (fun v => spec_WriterPack_L5 n v.1.2.2.1 v.2.1.1 v.2.1.2.1 v.2.2.1) σ else none
theorem q18_5 (n : Nat) (v : h18_5.V) (ω : List Bool) : loopF C18 c18 Try.f18 (j18 n) 5 ω (h18_5.st 46 v) = spec_WriterPack_step5 (spec_WriterPack_L5 n) v.1.2.2.1 v.2.1.1 v.2.1.2.1 v.2.2.1 := by kernel_rfl
theorem e18 (n : Nat) (ω : List Bool) (v : i18.V) : enterF C18 c18 Try.f18 (j18 n) ω v = spec_WriterPack_entry (spec_WriterPack_L5 n) v.1.1 v.1.2.1 := by kernel_rfl
theorem s18 : SoundC Try.prog 18 c18 := sound_by (l := l18) (J := j18) (L := [5]) tOk mx Try.func18 ⟨s49, s50, s64, s65, trivial⟩ (by kernel_rfl) (by kernel_rfl)
  ⟨⟨h18_5, fun n v => spec_WriterPack_L5 n v.1.2.2.1 v.2.1.1 v.2.1.2.1 v.2.2.1, fun _ => rfl, fun _ => rfl, q18_5⟩, trivial⟩ FUEL (e18 FUEL)

/-! impl_dataOk -/
abbrev i93 : Shp := ⟨[(0, .c (.v .str))], []⟩
abbrev o93 : Shp := ⟨[(0, .c (.v .bool))], []⟩
noncomputable def c93 : Con := ⟨i93, o93, fun v => impl_dataOk v.1.1⟩
noncomputable def l93 : List (Nat × Con) := []
noncomputable def C93 : Cfg := ⟨T, gam l93, hintOf []⟩
theorem e93 (ω : List Bool) (v : i93.V) : enterF C93 c93 Try.f93 (fun _ _ => none) ω v = impl_dataOk v.1.1 := by kernel_rfl
theorem s93 : SoundC Try.prog 93 c93 := sound_by0 (l := l93) tOk mx Try.func93 trivial (by kernel_rfl) (by kernel_rfl) e93

/-! impl_within -/
abbrev i91 : Shp := ⟨[(0, .c (.v tI)), (1, .c (.v tI)), (2, .c (.v tI))], []⟩
abbrev o91 : Shp := ⟨[(0, .c (.v .bool))], []⟩
noncomputable def c91 : Con := ⟨i91, o91, fun v => impl_within v.1.1 v.1.2.1 v.1.2.2.1⟩
noncomputable def l91 : List (Nat × Con) := []
noncomputable def C91 : Cfg := ⟨T, gam l91, hintOf []⟩
theorem e91 (ω : List Bool) (v : i91.V) : enterF C91 c91 Try.f91 (fun _ _ => none) ω v = impl_within v.1.1 v.1.2.1 v.1.2.2.1 := by kernel_rfl
theorem s91 : SoundC Try.prog 91 c91 := sound_by0 (l := l91) tOk mx Try.func91 trivial (by kernel_rfl) (by kernel_rfl) e91

/-! impl_ConfigOk -/
abbrev i106 : Shp := ⟨[(0, .row Y0)], []⟩
abbrev o106 : Shp := ⟨[(0, .c (.v .bool))], []⟩
noncomputable def c106 : Con := ⟨i106, o106, fun v => impl_ConfigOk v.1.1⟩
noncomputable def l106 : List (Nat × Con) := [(91, c91)]
noncomputable def C106 : Cfg := ⟨T, gam l106, hintOf []⟩
abbrev h106_2 : Shp := ⟨[(1, .c (.ptr 0 0)), (6, .c (.sl false tI)), (7, .c (.v tI)), (8, .c (.v tI))], [.mem [.sl false tI, .v tI]]⟩
noncomputable def j106 (n ℓ : Nat) (σ : St) : Option o106.V := if ℓ = 2 then jump 0 h106_2 (fun v => impl_ConfigOk_L2 n v.1.2.1 v.1.2.2.1 v.1.2.2.2.1 v.2.1.1 v.2.1.2.1) σ else none
theorem q106_2 (n : Nat) (v : h106_2.V) (ω : List Bool) : loopF C106 c106 Try.f106 (j106 n) 2 ω (h106_2.st 25 v) = impl_ConfigOk_step2 (impl_ConfigOk_L2 n) v.1.2.1 v.1.2.2.1 v.1.2.2.2.1 v.2.1.1 v.2.1.2.1 := by kernel_rfl
theorem e106 (n : Nat) (ω : List Bool) (v : i106.V) : enterF C106 c106 Try.f106 (j106 n) ω v = impl_ConfigOk_entry (impl_ConfigOk_L2 n) v.1.1 := by kernel_rfl
theorem s106 : SoundC Try.prog 106 c106 := sound_by (l := l106) (J := j106) (L := [2]) tOk mx Try.func106 ⟨s91, trivial⟩ (by kernel_rfl) (by kernel_rfl)
  ⟨⟨h106_2, fun n v => impl_ConfigOk_L2 n v.1.2.1 v.1.2.2.1 v.1.2.2.2.1 v.2.1.1 v.2.1.2.1, fun _ => rfl, fun _ => rfl, q106_2⟩, trivial⟩ FUEL (e106 FUEL)

/-! impl_ascends -/
abbrev i121 : Shp := ⟨[(0, .c (.sl false tI)), (1, .c (.v tI))], []⟩
abbrev o121 : Shp := ⟨[(0, .c (.v .bool))], []⟩
noncomputable def c121 : Con := ⟨i121, o121, fun v => impl_ascends v.1.1 v.1.2.1⟩
noncomputable def l121 : List (Nat × Con) := [(91, c91)]
noncomputable def C121 : Cfg := ⟨T, gam l121, hintOf []⟩
abbrev h121_2 : Shp := ⟨[(0, .c (.sl false tI)), (1, .c (.v tI)), (7, .c (.sl false tI)), (8, .c (.v tI)), (9, .c (.v tI))], []⟩
noncomputable def j121 (n ℓ : Nat) (σ : St) : Option o121.V := if ℓ = 2 then jump 0 h121_2 (fun v => impl_ascends_L2 n v.1.1 v.1.2.1 v.1.2.2.1 v.1.2.2.2.1 v.1.2.2.2.2.1) σ else none
theorem q121_2 (n : Nat) (v : h121_2.V) (ω : List Bool) : loopF C121 c121 Try.f121 (j121 n) 2 ω (h121_2.st 32 v) = impl_ascends_step2 (impl_ascends_L2 n) v.1.1 v.1.2.1 v.1.2.2.1 v.1.2.2.2.1 v.1.2.2.2.2.1 := by kernel_rfl
theorem e121 (n : Nat) (ω : List Bool) (v : i121.V) : enterF C121 c121 Try.f121 (j121 n) ω v = impl_ascends_entry (impl_ascends_L2 n) v.1.1 v.1.2.1 := by kernel_rfl
theorem s121 : SoundC Try.prog 121 c121 := sound_by (l := l121) (J := j121) (L := [2]) tOk mx Try.func121 ⟨s91, trivial⟩ (by kernel_rfl) (by kernel_rfl)
  ⟨⟨h121_2, fun n v => impl_ascends_L2 n v.1.1 v.1.2.1 v.1.2.2.1 v.1.2.2.2.1 v.1.2.2.2.2.1, fun _ => rfl, fun _ => rfl, q121_2⟩, trivial⟩ FUEL (e121 FUEL)

/-! impl_NodesOk -/
abbrev i105 : Shp := ⟨[(0, .row Y0), (1, .c (.sl false tI))], []⟩
abbrev o105 : Shp := ⟨[(0, .c (.v .bool))], []⟩
noncomputable def c105 : Con := ⟨i105, o105, fun v => impl_NodesOk v.1.1 v.1.2.1⟩
noncomputable def l105 : List (Nat × Con) := [(106, c106), (121, c121)]
noncomputable def C105 : Cfg := ⟨T, gam l105, hintOf []⟩
theorem e105 (ω : List Bool) (v : i105.V) : enterF C105 c105 Try.f105 (fun _ _ => none) ω v = impl_NodesOk v.1.1 v.1.2.1 := by kernel_rfl
theorem s105 : SoundC Try.prog 105 c105 := sound_by0 (l := l105) tOk mx Try.func105 ⟨s106, s121, trivial⟩ (by kernel_rfl) (by kernel_rfl) e105

/-! slices_Index_int_int -/
abbrev i125 : Shp := ⟨[(0, .c (.sl false tI)), (1, .c (.v tI))], []⟩
abbrev o125 : Shp := ⟨[(0, .c (.v tI))], []⟩
noncomputable def c125 : Con := ⟨i125, o125, fun v => slices_Index_int_int v.1.1 v.1.2.1⟩
noncomputable def l125 : List (Nat × Con) := []
noncomputable def C125 : Cfg := ⟨T, gam l125, hintOf []⟩
abbrev h125_2 : Shp := ⟨[(0, .c (.sl false tI)), (1, .c (.v tI)), (7, .c (.v tI)), (8, .c (.v tI))], []⟩
noncomputable def j125 (n ℓ : Nat) (σ : St) : Option o125.V := if ℓ = 2 then jump 0 h125_2 (fun v => slices_Index_int_int_L2 n v.1.1 v.1.2.1 v.1.2.2.1 v.1.2.2.2.1) σ else none
theorem q125_2 (n : Nat) (v : h125_2.V) (ω : List Bool) : loopF C125 c125 Try.f125 (j125 n) 2 ω (h125_2.st 19 v) = slices_Index_int_int_step2 (slices_Index_int_int_L2 n) v.1.1 v.1.2.1 v.1.2.2.1 v.1.2.2.2.1 := by kernel_rfl
theorem e125 (n : Nat) (ω : List Bool) (v : i125.V) : enterF C125 c125 Try.f125 (j125 n) ω v = slices_Index_int_int_entry (slices_Index_int_int_L2 n) v.1.1 v.1.2.1 := by kernel_rfl
theorem s125 : SoundC Try.prog 125 c125 := sound_by (l := l125) (J := j125) (L := [2]) tOk mx Try.func125 trivial (by kernel_rfl) (by kernel_rfl)
  ⟨⟨h125_2, fun n v => slices_Index_int_int_L2 n v.1.1 v.1.2.1 v.1.2.2.1 v.1.2.2.2.1, fun _ => rfl, fun _ => rfl, q125_2⟩, trivial⟩ FUEL (e125 FUEL)

/-! slices_Contains_int_int -/
abbrev i123 : Shp := ⟨[(0, .c (.sl false tI)), (1, .c (.v tI))], []⟩
abbrev o123 : Shp := ⟨[(0, .c (.v .bool))], []⟩
noncomputable def c123 : Con := ⟨i123, o123, fun v => slices_Contains_int_int v.1.1 v.1.2.1⟩
noncomputable def l123 : List (Nat × Con) := [(125, c125)]
noncomputable def C123 : Cfg := ⟨T, gam l123, hintOf []⟩
theorem e123 (ω : List Bool) (v : i123.V) : enterF C123 c123 Try.f123 (fun _ _ => none) ω v = slices_Contains_int_int v.1.1 v.1.2.1 := by kernel_rfl
theorem s123 : SoundC Try.prog 123 c123 := sound_by0 (l := l123) tOk mx Try.func123 ⟨s125, trivial⟩ (by kernel_rfl) (by kernel_rfl) e123

/-! impl_SpanOf -/
abbrev i119 : Shp := ⟨[(0, .row Y0), (1, .c (.sl false tI))], []⟩
abbrev o119 : Shp := ⟨[(0, .c (.v tI))], []⟩
noncomputable def c119 : Con := ⟨i119, o119, fun v => impl_SpanOf v.1.1 v.1.2.1⟩
noncomputable def l119 : List (Nat × Con) := [(105, c105), (123, c123)]
noncomputable def C119 : Cfg := ⟨T, gam l119, hintOf []⟩
abbrev h119_5 : Shp := ⟨[(2, .c (.ptr 0 0)), (5, .c (.ref 1)), (13, .c (.sl false tI)), (14, .c (.v tI)), (15, .c (.v tI))], [.mem [.sl false tI, .v tI], .sl 9 tI]⟩
noncomputable def j119 (n ℓ : Nat) (σ : St) : Option o119.V := if ℓ = 5 then jump 0 h119_5 (fun v => impl_SpanOf_L5 n v.1.2.2.1 v.1.2.2.2.1 v.1.2.2.2.2.1 v.2.1.1 v.2.1.2.1 v.2.2.1) σ else none
theorem q119_5 (n : Nat) (v : h119_5.V) (ω : List Bool) : loopF C119 c119 Try.f119 (j119 n) 5 ω (h119_5.st 38 v) = impl_SpanOf_step5 (impl_SpanOf_L5 n) v.1.2.2.1 v.1.2.2.2.1 v.1.2.2.2.2.1 v.2.1.1 v.2.1.2.1 v.2.2.1 := by kernel_rfl
theorem e119 (n : Nat) (ω : List Bool) (v : i119.V) : enterF C119 c119 Try.f119 (j119 n) ω v = impl_SpanOf_entry (impl_SpanOf_L5 n) v.1.1 v.1.2.1 := by kernel_rfl
theorem s119 : SoundC Try.prog 119 c119 := sound_by (l := l119) (J := j119) (L := [5]) tOk mx Try.func119 ⟨s105, s123, trivial⟩ (by kernel_rfl) (by kernel_rfl)
  ⟨⟨h119_5, fun n v => impl_SpanOf_L5 n v.1.2.2.1 v.1.2.2.2.1 v.1.2.2.2.2.1 v.2.1.1 v.2.1.2.1 v.2.2.1, fun _ => rfl, fun _ => rfl, q119_5⟩, trivial⟩ FUEL (e119 FUEL)

/-! impl_Holds -/
abbrev i87 : Shp := ⟨[(0, .row Y0), (1, .c (.sl false tI))], []⟩
abbrev o87 : Shp := ⟨[(0, .c (.v .bool))], []⟩
noncomputable def c87 : Con := ⟨i87, o87, fun v => impl_Holds v.1.1 v.1.2.1⟩
noncomputable def l87 : List (Nat × Con) := [(105, c105), (119, c119)]
noncomputable def C87 : Cfg := ⟨T, gam l87, hintOf [(1, [0])]⟩
theorem e87 (ω : List Bool) (v : i87.V) : enterF C87 c87 Try.f87 (fun _ _ => none) ω v = impl_Holds v.1.1 v.1.2.1 := by kernel_rfl
theorem s87 : SoundC Try.prog 87 c87 := sound_by0 (l := l87) tOk mx Try.func87 ⟨s105, s119, trivial⟩ (by kernel_rfl) (by kernel_rfl) e87

/-! impl_flagNum -/
abbrev i79 : Shp := ⟨[(0, .c (.v .bool))], []⟩
abbrev o79 : Shp := ⟨[(0, .c (.v tI))], []⟩
noncomputable def c79 : Con := ⟨i79, o79, fun v => impl_flagNum v.1.1⟩
noncomputable def l79 : List (Nat × Con) := []
noncomputable def C79 : Cfg := ⟨T, gam l79, hintOf []⟩
theorem e79 (ω : List Bool) (v : i79.V) : enterF C79 c79 Try.f79 (fun _ _ => none) ω v = impl_flagNum v.1.1 := by kernel_rfl
theorem s79 : SoundC Try.prog 79 c79 := sound_by0 (l := l79) tOk mx Try.func79 trivial (by kernel_rfl) (by kernel_rfl) e79

/-! impl_isEpoch -/
abbrev i107 : Shp := ⟨[(0, .c (.v tI))], []⟩
abbrev o107 : Shp := ⟨[(0, .c (.v .bool))], []⟩
noncomputable def c107 : Con := ⟨i107, o107, fun v => impl_isEpoch v.1.1⟩
noncomputable def l107 : List (Nat × Con) := [(91, c91)]
noncomputable def C107 : Cfg := ⟨T, gam l107, hintOf []⟩
theorem e107 (ω : List Bool) (v : i107.V) : enterF C107 c107 Try.f107 (fun _ _ => none) ω v = impl_isEpoch v.1.1 := by kernel_rfl
theorem s107 : SoundC Try.prog 107 c107 := sound_by0 (l := l107) tOk mx Try.func107 ⟨s91, trivial⟩ (by kernel_rfl) (by kernel_rfl) e107

/-! impl_WriterOk -/
abbrev i68 : Shp := ⟨[(0, .row Y0), (1, .row Y2)], []⟩
abbrev o68 : Shp := ⟨[(0, .c (.v .bool))], []⟩
noncomputable def c68 : Con := ⟨i68, o68, fun v => impl_WriterOk v.1.1 v.1.2.1⟩
noncomputable def l68 : List (Nat × Con) := [(79, c79), (87, c87), (93, c93), (105, c105), (106, c106), (107, c107)]
noncomputable def C68 : Cfg := ⟨T, gam l68, hintOf [(5, [0, 1, 2])]⟩
abbrev h68_3 : Shp := ⟨[(2, .c (.ptr 0 0)), (3, .c (.ptr 1 0)), (5, .c (.v tI)), (9, .c (.sl false Y1)), (10, .c (.v tI)), (11, .c (.v tI))], [.mem [.sl false tI, .v tI], .mem [.v tI, .sl false Y1]]⟩
noncomputable def j68 (n ℓ : Nat) (σ : St) : Option o68.V := if ℓ = 3 then jump 0 h68_3 (fun v => impl_WriterOk_L3 n v.1.2.2.1 v.1.2.2.2.1 v.1.2.2.2.2.1 v.1.2.2.2.2.2.1 v.2.1.1 v.2.1.2.1 v.2.2.1.1 v.2.2.1.2.1) σ else none
theorem q68_3 (n : Nat) (v : h68_3.V) (ω : List Bool) : loopF C68 c68 Try.f68 (j68 n) 3 ω (h68_3.st 59 v) = impl_WriterOk_step3 (impl_WriterOk_L3 n) v.1.2.2.1 v.1.2.2.2.1 v.1.2.2.2.2.1 v.1.2.2.2.2.2.1 v.2.1.1 v.2.1.2.1 v.2.2.1.1 v.2.2.1.2.1 := by kernel_rfl
theorem e68 (n : Nat) (ω : List Bool) (v : i68.V) : enterF C68 c68 Try.f68 (j68 n) ω v = impl_WriterOk_entry (impl_WriterOk_L3 n) v.1.1 v.1.2.1 := by kernel_rfl
theorem s68 : SoundC Try.prog 68 c68 := sound_by (l := l68) (J := j68) (L := [3]) tOk mx Try.func68 ⟨s79, s87, s93, s105, s106, s107, trivial⟩ (by kernel_rfl) (by kernel_rfl)
  ⟨⟨h68_3, fun n v => impl_WriterOk_L3 n v.1.2.2.1 v.1.2.2.2.1 v.1.2.2.2.2.1 v.1.2.2.2.2.2.1 v.2.1.1 v.2.1.2.1 v.2.2.1.1 v.2.2.1.2.1, fun _ => rfl, fun _ => rfl, q68_3⟩, trivial⟩ FUEL (e68 FUEL)

/-! impl_PutNum -/
abbrev i92 : Shp := ⟨[(0, .c (.v tI))], []⟩
abbrev o92 : Shp := ⟨[(0, .c (.ref 0))], [.sl 9 tU]⟩
noncomputable def c92 : Con := ⟨i92, o92, fun v => impl_PutNum v.1.1⟩
noncomputable def l92 : List (Nat × Con) := []
noncomputable def C92 : Cfg := ⟨T, gam l92, hintOf []⟩
abbrev h92_4 : Shp := ⟨[(0, .c (.v tI)), (3, .c (.ref 0))], [.sl 9 tU]⟩
noncomputable def j92 (n ℓ : Nat) (σ : St) : Option o92.V := if ℓ = 4 then jump 0 h92_4 (fun v => impl_PutNum_L4 n v.1.1 v.2.1) σ else none
theorem q92_4 (n : Nat) (v : h92_4.V) (ω : List Bool) : loopF C92 c92 Try.f92 (j92 n) 4 ω (h92_4.st 23 v) = impl_PutNum_step4 (impl_PutNum_L4 n) v.1.1 v.2.1 := by kernel_rfl
theorem e92 (n : Nat) (ω : List Bool) (v : i92.V) : enterF C92 c92 Try.f92 (j92 n) ω v = impl_PutNum_entry (impl_PutNum_L4 n) v.1.1 := by kernel_rfl
theorem s92 : SoundC Try.prog 92 c92 := sound_by (l := l92) (J := j92) (L := [4]) tOk mx Try.func92 trivial (by kernel_rfl) (by kernel_rfl)
  ⟨⟨h92_4, fun n v => impl_PutNum_L4 n v.1.1 v.2.1, fun _ => rfl, fun _ => rfl, q92_4⟩, trivial⟩ FUEL (e92 FUEL)

/-! impl_putNums -/
abbrev i45 : Shp := ⟨[(0, .c (.sl false tI))], []⟩
abbrev o45 : Shp := ⟨[(0, .c (.ref 0))], [.sl 9 tU]⟩
noncomputable def c45 : Con := ⟨i45, o45, fun v => impl_putNums v.1.1⟩
noncomputable def l45 : List (Nat × Con) := [(92, c92)]
noncomputable def C45 : Cfg := ⟨T, gam l45, hintOf []⟩
abbrev h45_3 : Shp := ⟨[(3, .c (.ref 0)), (7, .c (.sl false tI)), (8, .c (.v tI)), (9, .c (.v tI))], [.sl 9 tU]⟩
noncomputable def j45 (n ℓ : Nat) (σ : St) : Option o45.V := if ℓ = 3 then jump 0 h45_3 (fun v => impl_putNums_L3 n v.1.2.1 v.1.2.2.1 v.1.2.2.2.1 v.2.1) σ else none
theorem q45_3 (n : Nat) (v : h45_3.V) (ω : List Bool) : loopF C45 c45 Try.f45 (j45 n) 3 ω (h45_3.st 19 v) = impl_putNums_step3 (impl_putNums_L3 n) v.1.2.1 v.1.2.2.1 v.1.2.2.2.1 v.2.1 := by kernel_rfl
theorem e45 (n : Nat) (ω : List Bool) (v : i45.V) : enterF C45 c45 Try.f45 (j45 n) ω v = impl_putNums_entry (impl_putNums_L3 n) v.1.1 := by kernel_rfl
theorem s45 : SoundC Try.prog 45 c45 := sound_by (l := l45) (J := j45) (L := [3]) tOk mx Try.func45 ⟨s92, trivial⟩ (by kernel_rfl) (by kernel_rfl)
  ⟨⟨h45_3, fun n v => impl_putNums_L3 n v.1.2.1 v.1.2.2.1 v.1.2.2.2.1 v.2.1, fun _ => rfl, fun _ => rfl, q45_3⟩, trivial⟩ FUEL (e45 FUEL)

/-! impl_PutText -/
abbrev i47 : Shp := ⟨[(0, .c (.v .str))], []⟩
abbrev o47 : Shp := ⟨[(0, .c (.ref 0))], [.sl 9 tU]⟩
noncomputable def c47 : Con := ⟨i47, o47, fun v => impl_PutText v.1.1⟩
noncomputable def l47 : List (Nat × Con) := [(92, c92)]
noncomputable def C47 : Cfg := ⟨T, gam l47, hintOf []⟩
theorem e47 (ω : List Bool) (v : i47.V) : enterF C47 c47 Try.f47 (fun _ _ => none) ω v = impl_PutText v.1.1 := by kernel_rfl
theorem s47 : SoundC Try.prog 47 c47 := sound_by0 (l := l47) tOk mx Try.func47 ⟨s92, trivial⟩ (by kernel_rfl) (by kernel_rfl) e47

/-! impl_putList -/
abbrev i69 : Shp := ⟨[(0, .c (.sl false tI))], []⟩
abbrev o69 : Shp := ⟨[(0, .c (.ref 0))], [.sl 9 tU]⟩
noncomputable def c69 : Con := ⟨i69, o69, fun v => impl_putList v.1.1⟩
noncomputable def l69 : List (Nat × Con) := [(45, c45), (92, c92)]
noncomputable def C69 : Cfg := ⟨T, gam l69, hintOf []⟩
theorem e69 (ω : List Bool) (v : i69.V) : enterF C69 c69 Try.f69 (fun _ _ => none) ω v = impl_putList v.1.1 := by kernel_rfl
theorem s69 : SoundC Try.prog 69 c69 := sound_by0 (l := l69) tOk mx Try.func69 ⟨s45, s92, trivial⟩ (by kernel_rfl) (by kernel_rfl) e69

/-! impl_WriterPack -/
abbrev i21 : Shp := ⟨[(0, .row Y0), (1, .row Y2)], []⟩
abbrev o21 : Shp := ⟨[(0, .tup [.inl (.ref 0), .inl (.v .bool)])], [.sl 9 tU]⟩
noncomputable def c21 : Con := ⟨i21, o21, fun v => impl_WriterPack v.1.1 v.1.2.1⟩
noncomputable def l21 : List (Nat × Con) := [(45, c45), (47, c47), (68, c68), (69, c69)]
noncomputable def C21 : Cfg := ⟨T, gam l21, hintOf []⟩
abbrev h21_5 : Shp := ⟨[(6, .c (.ref 0)), (21, .c (.sl false Y1)), (22, .c (.v tI)), (23, .c (.v tI))], [.sl 9 tU]⟩
noncomputable def j21 (n ℓ : Nat) (σ : St) : Option o21.V := if ℓ = 5 then jump 0 h21_5 (fun v => impl_WriterPack_L5 n v.1.2.1 v.1.2.2.1 v.1.2.2.2.1 v.2.1) σ else none
theorem q21_5 (n : Nat) (v : h21_5.V) (ω : List Bool) : loopF C21 c21 Try.f21 (j21 n) 5 ω (h21_5.st 39 v) = impl_WriterPack_step5 (impl_WriterPack_L5 n) v.1.2.1 v.1.2.2.1 v.1.2.2.2.1 v.2.1 := by kernel_rfl
theorem e21 (n : Nat) (ω : List Bool) (v : i21.V) : enterF C21 c21 Try.f21 (j21 n) ω v = impl_WriterPack_entry (impl_WriterPack_L5 n) v.1.1 v.1.2.1 := by kernel_rfl
theorem s21 : SoundC Try.prog 21 c21 := sound_by (l := l21) (J := j21) (L := [5]) tOk mx Try.func21 ⟨s45, s47, s68, s69, trivial⟩ (by kernel_rfl) (by kernel_rfl)
  ⟨⟨h21_5, fun n v => impl_WriterPack_L5 n v.1.2.1 v.1.2.2.1 v.1.2.2.2.1 v.2.1, fun _ => rfl, fun _ => rfl, q21_5⟩, trivial⟩ FUEL (e21 FUEL)

/-! laws_eqByteS -/
abbrev i22 : Shp := ⟨[(0, .c (.sl false tU)), (1, .c (.sl false tU))], []⟩
abbrev o22 : Shp := ⟨[(0, .c (.v .bool))], []⟩
noncomputable def c22 : Con := ⟨i22, o22, fun v => laws_eqByteS v.1.1 v.1.2.1⟩
noncomputable def l22 : List (Nat × Con) := []
noncomputable def C22 : Cfg := ⟨T, gam l22, hintOf []⟩
abbrev h22_4 : Shp := ⟨[(0, .c (.sl false tU)), (1, .c (.sl false tU)), (5, .c (.v tI))], []⟩
noncomputable def j22 (n ℓ : Nat) (σ : St) : Option o22.V := if ℓ = 4 then jump 0 h22_4 (fun v => laws_eqByteS_L4 n v.1.1 v.1.2.1 v.1.2.2.1) σ else none
theorem q22_4 (n : Nat) (v : h22_4.V) (ω : List Bool) : loopF C22 c22 Try.f22 (j22 n) 4 ω (h22_4.st 26 v) = laws_eqByteS_step4 (laws_eqByteS_L4 n) v.1.1 v.1.2.1 v.1.2.2.1 := by kernel_rfl
theorem e22 (n : Nat) (ω : List Bool) (v : i22.V) : enterF C22 c22 Try.f22 (j22 n) ω v = laws_eqByteS_entry (laws_eqByteS_L4 n) v.1.1 v.1.2.1 := by kernel_rfl
theorem s22 : SoundC Try.prog 22 c22 := sound_by (l := l22) (J := j22) (L := [4]) tOk mx Try.func22 trivial (by kernel_rfl) (by kernel_rfl)
  ⟨⟨h22_4, fun n v => laws_eqByteS_L4 n v.1.1 v.1.2.1 v.1.2.2.1, fun _ => rfl, fun _ => rfl, q22_4⟩, trivial⟩ FUEL (e22 FUEL)

/-! laws_eqIntS -/
abbrev i70 : Shp := ⟨[(0, .c (.sl false tI)), (1, .c (.sl false tI))], []⟩
abbrev o70 : Shp := ⟨[(0, .c (.v .bool))], []⟩
noncomputable def c70 : Con := ⟨i70, o70, fun v => laws_eqIntS v.1.1 v.1.2.1⟩
noncomputable def l70 : List (Nat × Con) := []
noncomputable def C70 : Cfg := ⟨T, gam l70, hintOf []⟩
abbrev h70_4 : Shp := ⟨[(0, .c (.sl false tI)), (1, .c (.sl false tI)), (5, .c (.v tI))], []⟩
noncomputable def j70 (n ℓ : Nat) (σ : St) : Option o70.V := if ℓ = 4 then jump 0 h70_4 (fun v => laws_eqIntS_L4 n v.1.1 v.1.2.1 v.1.2.2.1) σ else none
theorem q70_4 (n : Nat) (v : h70_4.V) (ω : List Bool) : loopF C70 c70 Try.f70 (j70 n) 4 ω (h70_4.st 26 v) = laws_eqIntS_step4 (laws_eqIntS_L4 n) v.1.1 v.1.2.1 v.1.2.2.1 := by kernel_rfl
theorem e70 (n : Nat) (ω : List Bool) (v : i70.V) : enterF C70 c70 Try.f70 (j70 n) ω v = laws_eqIntS_entry (laws_eqIntS_L4 n) v.1.1 v.1.2.1 := by kernel_rfl
theorem s70 : SoundC Try.prog 70 c70 := sound_by (l := l70) (J := j70) (L := [4]) tOk mx Try.func70 trivial (by kernel_rfl) (by kernel_rfl)
  ⟨⟨h70_4, fun n v => laws_eqIntS_L4 n v.1.1 v.1.2.1 v.1.2.2.1, fun _ => rfl, fun _ => rfl, q70_4⟩, trivial⟩ FUEL (e70 FUEL)

/-! laws_eqConfig -/
abbrev i23 : Shp := ⟨[(0, .row Y0), (1, .row Y0)], []⟩
abbrev o23 : Shp := ⟨[(0, .c (.v .bool))], []⟩
noncomputable def c23 : Con := ⟨i23, o23, fun v => laws_eqConfig v.1.1 v.1.2.1⟩
noncomputable def l23 : List (Nat × Con) := [(70, c70)]
noncomputable def C23 : Cfg := ⟨T, gam l23, hintOf []⟩
theorem e23 (ω : List Bool) (v : i23.V) : enterF C23 c23 Try.f23 (fun _ _ => none) ω v = laws_eqConfig v.1.1 v.1.2.1 := by kernel_rfl
theorem s23 : SoundC Try.prog 23 c23 := sound_by0 (l := l23) tOk mx Try.func23 ⟨s70, trivial⟩ (by kernel_rfl) (by kernel_rfl) e23

/-! laws_eqWord -/
abbrev i108 : Shp := ⟨[(0, .row Y1), (1, .row Y1)], []⟩
abbrev o108 : Shp := ⟨[(0, .c (.v .bool))], []⟩
noncomputable def c108 : Con := ⟨i108, o108, fun v => laws_eqWord v.1.1 v.1.2.1⟩
noncomputable def l108 : List (Nat × Con) := [(70, c70)]
noncomputable def C108 : Cfg := ⟨T, gam l108, hintOf []⟩
theorem e108 (ω : List Bool) (v : i108.V) : enterF C108 c108 Try.f108 (fun _ _ => none) ω v = laws_eqWord v.1.1 v.1.2.1 := by kernel_rfl
theorem s108 : SoundC Try.prog 108 c108 := sound_by0 (l := l108) tOk mx Try.func108 ⟨s70, trivial⟩ (by kernel_rfl) (by kernel_rfl) e108

/-! laws_eqWordS -/
abbrev i71 : Shp := ⟨[(0, .c (.sl false Y1)), (1, .c (.sl false Y1))], []⟩
abbrev o71 : Shp := ⟨[(0, .c (.v .bool))], []⟩
noncomputable def c71 : Con := ⟨i71, o71, fun v => laws_eqWordS v.1.1 v.1.2.1⟩
noncomputable def l71 : List (Nat × Con) := [(108, c108)]
noncomputable def C71 : Cfg := ⟨T, gam l71, hintOf []⟩
abbrev h71_4 : Shp := ⟨[(0, .c (.sl false Y1)), (1, .c (.sl false Y1)), (5, .c (.v tI))], []⟩
noncomputable def j71 (n ℓ : Nat) (σ : St) : Option o71.V := if ℓ = 4 then jump 0 h71_4 (fun v => laws_eqWordS_L4 n v.1.1 v.1.2.1 v.1.2.2.1) σ else none
theorem q71_4 (n : Nat) (v : h71_4.V) (ω : List Bool) : loopF C71 c71 Try.f71 (j71 n) 4 ω (h71_4.st 27 v) = laws_eqWordS_step4 (laws_eqWordS_L4 n) v.1.1 v.1.2.1 v.1.2.2.1 := by kernel_rfl
theorem e71 (n : Nat) (ω : List Bool) (v : i71.V) : enterF C71 c71 Try.f71 (j71 n) ω v = laws_eqWordS_entry (laws_eqWordS_L4 n) v.1.1 v.1.2.1 := by kernel_rfl
theorem s71 : SoundC Try.prog 71 c71 := sound_by (l := l71) (J := j71) (L := [4]) tOk mx Try.func71 ⟨s108, trivial⟩ (by kernel_rfl) (by kernel_rfl)
  ⟨⟨h71_4, fun n v => laws_eqWordS_L4 n v.1.1 v.1.2.1 v.1.2.2.1, fun _ => rfl, fun _ => rfl, q71_4⟩, trivial⟩ FUEL (e71 FUEL)

/-! laws_eqWriter -/
abbrev i24 : Shp := ⟨[(0, .row Y2), (1, .row Y2)], []⟩
abbrev o24 : Shp := ⟨[(0, .c (.v .bool))], []⟩
noncomputable def c24 : Con := ⟨i24, o24, fun v => laws_eqWriter v.1.1 v.1.2.1⟩
noncomputable def l24 : List (Nat × Con) := [(71, c71)]
noncomputable def C24 : Cfg := ⟨T, gam l24, hintOf []⟩
theorem e24 (ω : List Bool) (v : i24.V) : enterF C24 c24 Try.f24 (fun _ _ => none) ω v = laws_eqWriter v.1.1 v.1.2.1 := by kernel_rfl
theorem s24 : SoundC Try.prog 24 c24 := sound_by0 (l := l24) tOk mx Try.func24 ⟨s71, trivial⟩ (by kernel_rfl) (by kernel_rfl) e24

/-! laws_markIntS -/
abbrev i72 : Shp := ⟨[(0, .c (.ref 0)), (1, .c (.v tI))], [.sl 1 tI]⟩
abbrev o72 : Shp := ⟨[(0, .c (.v tI))], [.sl 1 tI]⟩
noncomputable def c72 : Con := ⟨i72, o72, fun v => laws_markIntS v.1.2.1 v.2.1⟩
noncomputable def l72 : List (Nat × Con) := []
noncomputable def C72 : Cfg := ⟨T, gam l72, hintOf []⟩
abbrev h72_2 : Shp := ⟨[(0, .c (.ref 0)), (1, .c (.v tI)), (5, .c (.v tI))], [.sl 1 tI]⟩
noncomputable def j72 (n ℓ : Nat) (σ : St) : Option o72.V := if ℓ = 2 then jump 1 h72_2 (fun v => laws_markIntS_L2 n v.1.2.1 v.1.2.2.1 v.2.1) σ else none
theorem q72_2 (n : Nat) (v : h72_2.V) (ω : List Bool) : loopF C72 c72 Try.f72 (j72 n) 2 ω (h72_2.st 19 v) = laws_markIntS_step2 (laws_markIntS_L2 n) v.1.2.1 v.1.2.2.1 v.2.1 := by kernel_rfl
theorem e72 (n : Nat) (ω : List Bool) (v : i72.V) : enterF C72 c72 Try.f72 (j72 n) ω v = laws_markIntS_entry (laws_markIntS_L2 n) v.1.2.1 v.2.1 := by kernel_rfl
theorem s72 : SoundC Try.prog 72 c72 := sound_by (l := l72) (J := j72) (L := [2]) tOk mx Try.func72 trivial (by kernel_rfl) (by kernel_rfl)
  ⟨⟨h72_2, fun n v => laws_markIntS_L2 n v.1.2.1 v.1.2.2.1 v.2.1, fun _ => rfl, fun _ => rfl, q72_2⟩, trivial⟩ FUEL (e72 FUEL)

/-! laws_markConfig -/
abbrev i25 : Shp := ⟨[(0, .agg [.ref 0, .v tI]), (1, .c (.v tI))], [.sl 1 tI]⟩
abbrev o25 : Shp := ⟨[(0, .c (.v tI))], [.sl 1 tI]⟩
noncomputable def c25 : Con := ⟨i25, o25, fun v => laws_markConfig v.1.1.2.1 v.1.2.1 v.2.1⟩
noncomputable def l25 : List (Nat × Con) := [(72, c72)]
noncomputable def C25 : Cfg := ⟨T, gam l25, hintOf []⟩
theorem e25 (ω : List Bool) (v : i25.V) : enterF C25 c25 Try.f25 (fun _ _ => none) ω v = laws_markConfig v.1.1.2.1 v.1.2.1 v.2.1 := by kernel_rfl
theorem s25 : SoundC Try.prog 25 c25 := sound_by0 (l := l25) tOk mx Try.func25 ⟨s72, trivial⟩ (by kernel_rfl) (by kernel_rfl) e25

/-! laws_markText -/
abbrev i109 : Shp := ⟨[(0, .c (.v tI))], []⟩
abbrev o109 : Shp := ⟨[(0, .c (.v .str))], []⟩
noncomputable def c109 : Con := ⟨i109, o109, fun v => laws_markText v.1.1⟩
noncomputable def l109 : List (Nat × Con) := []
noncomputable def C109 : Cfg := ⟨T, gam l109, hintOf []⟩
abbrev h109_4 : Shp := ⟨[(0, .c (.v tI)), (3, .c (.v .str))], []⟩
noncomputable def j109 (n ℓ : Nat) (σ : St) : Option o109.V := if ℓ = 4 then jump 0 h109_4 (fun v => laws_markText_L4 n v.1.1 v.1.2.1) σ else none
theorem q109_4 (n : Nat) (v : h109_4.V) (ω : List Bool) : loopF C109 c109 Try.f109 (j109 n) 4 ω (h109_4.st 20 v) = laws_markText_step4 (laws_markText_L4 n) v.1.1 v.1.2.1 := by kernel_rfl
theorem e109 (n : Nat) (ω : List Bool) (v : i109.V) : enterF C109 c109 Try.f109 (j109 n) ω v = laws_markText_entry (laws_markText_L4 n) v.1.1 := by kernel_rfl
theorem s109 : SoundC Try.prog 109 c109 := sound_by (l := l109) (J := j109) (L := [4]) tOk mx Try.func109 trivial (by kernel_rfl) (by kernel_rfl)
  ⟨⟨h109_4, fun n v => laws_markText_L4 n v.1.1 v.1.2.1, fun _ => rfl, fun _ => rfl, q109_4⟩, trivial⟩ FUEL (e109 FUEL)

/-! laws_markIntS_at_RSLIBE -/
abbrev i72x1 : Shp := ⟨[(0, .c (.refp 0 3)), (1, .c (.v tI))], [.sl 2 Y1]⟩
abbrev o72x1 : Shp := ⟨[(0, .c (.v tI))], [.sl 2 Y1]⟩
noncomputable def c72x1 : Con := ⟨i72x1, o72x1, fun v => laws_markIntS_at_RSLIBE v.1.1 v.1.2.1 v.2.1⟩
theorem s72x1 : SoundC Try.prog 72 c72x1 := lift_sound (d := 1) (q := tI) (rest := [(1, .c (.v tI))]) (outs := [(0, .c (.v tI))]) (g := c72.g) s72 (d' := 2) (r := Y1) (sz := 3) (by kernel_rfl) (fun v u h => by
    obtain ⟨⟨⟨k, j⟩, rest⟩, bx⟩ := v
    match j with
    | 0 => cases h
    | 1 => exact h
    | n + 2 => cases h
    )

/-! laws_markWordS -/
abbrev i73 : Shp := ⟨[(0, .c (.ref 0)), (1, .c (.v tI))], [.sl 2 Y1]⟩
abbrev o73 : Shp := ⟨[(0, .c (.v tI))], [.sl 2 Y1]⟩
noncomputable def c73 : Con := ⟨i73, o73, fun v => laws_markWordS v.1.2.1 v.2.1⟩
noncomputable def l73 : List (Nat × Con) := [(72, c72x1), (109, c109)]
noncomputable def C73 : Cfg := ⟨T, gam l73, hintOf []⟩
abbrev h73_2 : Shp := ⟨[(0, .c (.ref 0)), (1, .c (.v tI)), (5, .c (.v tI))], [.sl 2 Y1]⟩
noncomputable def j73 (n ℓ : Nat) (σ : St) : Option o73.V := if ℓ = 2 then jump 1 h73_2 (fun v => laws_markWordS_L2 n v.1.2.1 v.1.2.2.1 v.2.1) σ else none
theorem q73_2 (n : Nat) (v : h73_2.V) (ω : List Bool) : loopF C73 c73 Try.f73 (j73 n) 2 ω (h73_2.st 37 v) = laws_markWordS_step2 (laws_markWordS_L2 n) v.1.2.1 v.1.2.2.1 v.2.1 := by kernel_rfl
theorem e73 (n : Nat) (ω : List Bool) (v : i73.V) : enterF C73 c73 Try.f73 (j73 n) ω v = laws_markWordS_entry (laws_markWordS_L2 n) v.1.2.1 v.2.1 := by kernel_rfl
theorem s73 : SoundC Try.prog 73 c73 := sound_by (l := l73) (J := j73) (L := [2]) tOk mx Try.func73 ⟨s72x1, s109, trivial⟩ (by kernel_rfl) (by kernel_rfl)
  ⟨⟨h73_2, fun n v => laws_markWordS_L2 n v.1.2.1 v.1.2.2.1 v.2.1, fun _ => rfl, fun _ => rfl, q73_2⟩, trivial⟩ FUEL (e73 FUEL)

/-! laws_markWriter -/
abbrev i26 : Shp := ⟨[(0, .agg [.v tI, .ref 0]), (1, .c (.v tI))], [.sl 2 Y1]⟩
abbrev o26 : Shp := ⟨[(0, .c (.v tI))], [.sl 2 Y1]⟩
noncomputable def c26 : Con := ⟨i26, o26, fun v => laws_markWriter v.1.1.1 v.1.2.1 v.2.1⟩
noncomputable def l26 : List (Nat × Con) := [(73, c73)]
noncomputable def C26 : Cfg := ⟨T, gam l26, hintOf []⟩
theorem e26 (ω : List Bool) (v : i26.V) : enterF C26 c26 Try.f26 (fun _ _ => none) ω v = laws_markWriter v.1.1.1 v.1.2.1 v.2.1 := by kernel_rfl
theorem s26 : SoundC Try.prog 26 c26 := sound_by0 (l := l26) tOk mx Try.func26 ⟨s73, trivial⟩ (by kernel_rfl) (by kernel_rfl) e26

/-! laws_markByteS -/
abbrev i27 : Shp := ⟨[(0, .c (.ref 0)), (1, .c (.v tI))], [.sl 1 tU]⟩
abbrev o27 : Shp := ⟨[(0, .c (.v tI))], [.sl 1 tU]⟩
noncomputable def c27 : Con := ⟨i27, o27, fun v => laws_markByteS v.1.2.1 v.2.1⟩
noncomputable def l27 : List (Nat × Con) := []
noncomputable def C27 : Cfg := ⟨T, gam l27, hintOf []⟩
abbrev h27_2 : Shp := ⟨[(0, .c (.ref 0)), (1, .c (.v tI)), (5, .c (.v tI))], [.sl 1 tU]⟩
noncomputable def j27 (n ℓ : Nat) (σ : St) : Option o27.V := if ℓ = 2 then jump 1 h27_2 (fun v => laws_markByteS_L2 n v.1.2.1 v.1.2.2.1 v.2.1) σ else none
theorem q27_2 (n : Nat) (v : h27_2.V) (ω : List Bool) : loopF C27 c27 Try.f27 (j27 n) 2 ω (h27_2.st 20 v) = laws_markByteS_step2 (laws_markByteS_L2 n) v.1.2.1 v.1.2.2.1 v.2.1 := by kernel_rfl
theorem e27 (n : Nat) (ω : List Bool) (v : i27.V) : enterF C27 c27 Try.f27 (j27 n) ω v = laws_markByteS_entry (laws_markByteS_L2 n) v.1.2.1 v.2.1 := by kernel_rfl
theorem s27 : SoundC Try.prog 27 c27 := sound_by (l := l27) (J := j27) (L := [2]) tOk mx Try.func27 trivial (by kernel_rfl) (by kernel_rfl)
  ⟨⟨h27_2, fun n v => laws_markByteS_L2 n v.1.2.1 v.1.2.2.1 v.2.1, fun _ => rfl, fun _ => rfl, q27_2⟩, trivial⟩ FUEL (e27 FUEL)

/-! laws_heldByteS -/
abbrev i28 : Shp := ⟨[(0, .c (.sl false tU)), (1, .c (.v tI))], []⟩
abbrev o28 : Shp := ⟨[(0, .c (.v tI))], []⟩
noncomputable def c28 : Con := ⟨i28, o28, fun v => laws_heldByteS v.1.1 v.1.2.1⟩
noncomputable def l28 : List (Nat × Con) := []
noncomputable def C28 : Cfg := ⟨T, gam l28, hintOf []⟩
abbrev h28_2 : Shp := ⟨[(0, .c (.sl false tU)), (1, .c (.v tI)), (5, .c (.v tI))], []⟩
noncomputable def j28 (n ℓ : Nat) (σ : St) : Option o28.V := if ℓ = 2 then jump 0 h28_2 (fun v => laws_heldByteS_L2 n v.1.1 v.1.2.1 v.1.2.2.1) σ else none
theorem q28_2 (n : Nat) (v : h28_2.V) (ω : List Bool) : loopF C28 c28 Try.f28 (j28 n) 2 ω (h28_2.st 22 v) = laws_heldByteS_step2 (laws_heldByteS_L2 n) v.1.1 v.1.2.1 v.1.2.2.1 := by kernel_rfl
theorem e28 (n : Nat) (ω : List Bool) (v : i28.V) : enterF C28 c28 Try.f28 (j28 n) ω v = laws_heldByteS_entry (laws_heldByteS_L2 n) v.1.1 v.1.2.1 := by kernel_rfl
theorem s28 : SoundC Try.prog 28 c28 := sound_by (l := l28) (J := j28) (L := [2]) tOk mx Try.func28 trivial (by kernel_rfl) (by kernel_rfl)
  ⟨⟨h28_2, fun n v => laws_heldByteS_L2 n v.1.1 v.1.2.1 v.1.2.2.1, fun _ => rfl, fun _ => rfl, q28_2⟩, trivial⟩ FUEL (e28 FUEL)

/-! laws_FnExactWriterPack -/
abbrev i4 : Shp := ⟨[(0, .row Y0), (1, .row Y2)], []⟩
abbrev o4 : Shp := ⟨[(0, .c (.v .bool))], []⟩
noncomputable def c4 : Con := ⟨i4, o4, fun v => laws_FnExactWriterPack v.1.1 v.1.2.1⟩
noncomputable def l4 : List (Nat × Con) := [(16, c16), (17, c17), (18, c18), (19, c19), (20, c20), (21, c21), (22, c22), (23, c23), (24, c24), (25, c25), (26, c26), (27, c27), (28, c28)]
noncomputable def C4 : Cfg := ⟨T, gam l4, hintOf [(8, [0, 1]), (14, [0, 1, 2, 3, 4, 5, 6, 7, 8, 9]), (16, [0, 1, 2, 3, 4, 5, 6, 7, 8, 9, 10]), (31, [0, 1, 2, 3, 4, 5, 6, 7, 8, 9, 10, 11, 12, 13, 14])]⟩
theorem e4 (ω : List Bool) (v : i4.V) : enterF C4 c4 Try.f4 (fun _ _ => none) ω v = laws_FnExactWriterPack v.1.1 v.1.2.1 := by kernel_rfl
theorem s4 : SoundC Try.prog 4 c4 := sound_by0 (l := l4) tOk mx Try.func4 ⟨s16, s17, s18, s19, s20, s21, s22, s23, s24, s25, s26, s27, s28, trivial⟩ (by kernel_rfl) (by kernel_rfl) e4
end Go.Proofs.Ytphnckckgdfheaa.Wk
