/- Each function computes what was printed: by the kernel. -/
import Derived.Test.YtphnckckgdfheaaG0
import Derived.Test.YtphnckckgdfheaaProg
import Derived.KernelRfl
set_option linter.unusedVariables false
set_option linter.unusedSimpArgs false
namespace Go.Proofs.Ytphnckckgdfheaa.Wk
open Go Go.Fw Go.M Go.Proofs
abbrev tI : Ty := .int .i64
abbrev tU : Ty := .int .u8
abbrev Y0 : Ty := (.cons (.sl tI) (.cons tI .unit))
abbrev Y1 : Ty := (.cons (.sl tI) (.cons .bool (.cons tI .unit)))
abbrev Y2 : Ty := (.cons (.sl Y1) (.cons tI .unit))
def T : Tab := [(3, ⟨1, 8, .int .i64, some tI⟩),
  (4, ⟨1, 1, .bool, some .bool⟩),
  (5, ⟨1, 1, .int .u8, some tU⟩),
  (22, ⟨1, 24, .sl 5, some (.sl tU)⟩),
  (34, ⟨1, 24, .sl 3, some (.sl tI)⟩),
  (36, ⟨2, 32, .st [(0, 34), (1, 3)], some Y0⟩),
  (43, ⟨2, 32, .st [(0, 34), (1, 3)], some Y0⟩),
  (56, ⟨1, 24, .sl 141, some (.sl Y1)⟩),
  (58, ⟨2, 32, .st [(0, 56), (1, 3)], some Y2⟩),
  (61, ⟨1, 24, .sl 115, some (.sl Y1)⟩),
  (63, ⟨2, 32, .st [(0, 61), (1, 3)], some Y2⟩),
  (115, ⟨3, 40, .st [(0, 34), (1, 4), (2, 3)], some Y1⟩),
  (141, ⟨3, 40, .st [(0, 34), (1, 4), (2, 3)], some Y1⟩),
  (149, ⟨1, 24, .sl 4, some (.sl .bool)⟩)]
theorem tOk : TabOk Try.prog T := tabOk_of_check (by kernel_rfl)
theorem mx : Try.prog.follows .mixedOrders = true := by kernel_rfl

/-! laws_szIntS -/
abbrev i62 : Shp := ⟨[(0, .c (.sl false tI)), (1, .c (.v tI))], []⟩
abbrev o62 : Shp := ⟨[(0, .c (.v tI))], []⟩
noncomputable def c62 : Con := ⟨i62, o62, fun v => laws_szIntS v.1.1 v.1.2.1⟩
noncomputable def l62 : List (Nat × Con) := []
noncomputable def C62 : Cfg := ⟨T, gam l62, hintOf []⟩
theorem e62 (ω : List Bool) (v : i62.V) : enterF C62 c62 Try.f62 (fun _ _ => none) ω v = laws_szIntS v.1.1 v.1.2.1 := by kernel_rfl
theorem s62 : SoundC Try.prog 62 c62 := sound_by0 (l := l62) tOk mx Try.func62 trivial (by kernel_rfl) (by kernel_rfl) e62

/-! laws_szConfig -/
abbrev i16 : Shp := ⟨[(0, .row Y0), (1, .c (.v tI))], []⟩
abbrev o16 : Shp := ⟨[(0, .c (.v tI))], []⟩
noncomputable def c16 : Con := ⟨i16, o16, fun v => laws_szConfig v.1.1 v.1.2.1⟩
noncomputable def l16 : List (Nat × Con) := [(62, c62)]
noncomputable def C16 : Cfg := ⟨T, gam l16, hintOf []⟩
theorem e16 (ω : List Bool) (v : i16.V) : enterF C16 c16 Try.f16 (fun _ _ => none) ω v = laws_szConfig v.1.1 v.1.2.1 := by kernel_rfl
theorem s16 : SoundC Try.prog 16 c16 := sound_by0 (l := l16) tOk mx Try.func16 ⟨s62, trivial⟩ (by kernel_rfl) (by kernel_rfl) e16

/-! laws_szEra -/
abbrev i110 : Shp := ⟨[(0, .row Y1), (1, .c (.v tI))], []⟩
abbrev o110 : Shp := ⟨[(0, .c (.v tI))], []⟩
noncomputable def c110 : Con := ⟨i110, o110, fun v => laws_szEra v.1.1 v.1.2.1⟩
noncomputable def l110 : List (Nat × Con) := [(62, c62)]
noncomputable def C110 : Cfg := ⟨T, gam l110, hintOf []⟩
theorem e110 (ω : List Bool) (v : i110.V) : enterF C110 c110 Try.f110 (fun _ _ => none) ω v = laws_szEra v.1.1 v.1.2.1 := by kernel_rfl
theorem s110 : SoundC Try.prog 110 c110 := sound_by0 (l := l110) tOk mx Try.func110 ⟨s62, trivial⟩ (by kernel_rfl) (by kernel_rfl) e110

/-! laws_szEraS -/
abbrev i74 : Shp := ⟨[(0, .c (.sl false Y1)), (1, .c (.v tI))], []⟩
abbrev o74 : Shp := ⟨[(0, .c (.v tI))], []⟩
noncomputable def c74 : Con := ⟨i74, o74, fun v => laws_szEraS v.1.1 v.1.2.1⟩
noncomputable def l74 : List (Nat × Con) := [(110, c110)]
noncomputable def C74 : Cfg := ⟨T, gam l74, hintOf []⟩
abbrev h74_5 : Shp := ⟨[(0, .c (.sl false Y1)), (1, .c (.v tI)), (5, .c (.v tI))], []⟩
noncomputable def j74 (n ℓ : Nat) (σ : St) : Option o74.V := if ℓ = 5 then jump 0 h74_5 (fun v => laws_szEraS_L5 n v.1.1 v.1.2.1 v.1.2.2.1) σ else none
theorem q74_5 (n : Nat) (v : h74_5.V) (ω : List Bool) : loopF C74 c74 Try.f74 (j74 n) 5 ω (h74_5.st 27 v) = laws_szEraS_step5 (laws_szEraS_L5 n) v.1.1 v.1.2.1 v.1.2.2.1 := by kernel_rfl
theorem e74 (n : Nat) (ω : List Bool) (v : i74.V) : enterF C74 c74 Try.f74 (j74 n) ω v = laws_szEraS_entry (laws_szEraS_L5 n) v.1.1 v.1.2.1 := by kernel_rfl
theorem s74 : SoundC Try.prog 74 c74 := sound_by (l := l74) (J := j74) (L := [5]) tOk mx Try.func74 ⟨s110, trivial⟩ (by kernel_rfl) (by kernel_rfl)
  ⟨⟨h74_5, fun n v => laws_szEraS_L5 n v.1.1 v.1.2.1 v.1.2.2.1, fun _ => rfl, fun _ => rfl, q74_5⟩, trivial⟩ FUEL (e74 FUEL)

/-! laws_szRegister -/
abbrev i29 : Shp := ⟨[(0, .row Y2), (1, .c (.v tI))], []⟩
abbrev o29 : Shp := ⟨[(0, .c (.v tI))], []⟩
noncomputable def c29 : Con := ⟨i29, o29, fun v => laws_szRegister v.1.1 v.1.2.1⟩
noncomputable def l29 : List (Nat × Con) := [(74, c74)]
noncomputable def C29 : Cfg := ⟨T, gam l29, hintOf []⟩
theorem e29 (ω : List Bool) (v : i29.V) : enterF C29 c29 Try.f29 (fun _ _ => none) ω v = laws_szRegister v.1.1 v.1.2.1 := by kernel_rfl
theorem s29 : SoundC Try.prog 29 c29 := sound_by0 (l := l29) tOk mx Try.func29 ⟨s74, trivial⟩ (by kernel_rfl) (by kernel_rfl) e29

/-! laws_toIntS -/
abbrev i66 : Shp := ⟨[(0, .c (.sl false tI))], []⟩
abbrev o66 : Shp := ⟨[(0, .c (.ref 0))], [.sl 9 tI]⟩
noncomputable def c66 : Con := ⟨i66, o66, fun v => laws_toIntS v.1.1⟩
noncomputable def l66 : List (Nat × Con) := []
noncomputable def C66 : Cfg := ⟨T, gam l66, hintOf []⟩
abbrev h66_3 : Shp := ⟨[(0, .c (.sl false tI)), (3, .c (.ref 0)), (4, .c (.v tI))], [.sl 9 tI]⟩
noncomputable def j66 (n ℓ : Nat) (σ : St) : Option o66.V := if ℓ = 3 then jump 0 h66_3 (fun v => laws_toIntS_L3 n v.1.1 v.1.2.2.1 v.2.1) σ else none
theorem q66_3 (n : Nat) (v : h66_3.V) (ω : List Bool) : loopF C66 c66 Try.f66 (j66 n) 3 ω (h66_3.st 22 v) = laws_toIntS_step3 (laws_toIntS_L3 n) v.1.1 v.1.2.2.1 v.2.1 := by kernel_rfl
theorem e66 (n : Nat) (ω : List Bool) (v : i66.V) : enterF C66 c66 Try.f66 (j66 n) ω v = laws_toIntS_entry (laws_toIntS_L3 n) v.1.1 := by kernel_rfl
theorem s66 : SoundC Try.prog 66 c66 := sound_by (l := l66) (J := j66) (L := [3]) tOk mx Try.func66 trivial (by kernel_rfl) (by kernel_rfl)
  ⟨⟨h66_3, fun n v => laws_toIntS_L3 n v.1.1 v.1.2.2.1 v.2.1, fun _ => rfl, fun _ => rfl, q66_3⟩, trivial⟩ FUEL (e66 FUEL)

/-! laws_toConfig -/
abbrev i19 : Shp := ⟨[(0, .row Y0)], []⟩
abbrev o19 : Shp := ⟨[(0, .agg [.ref 0, .v tI])], [.sl 9 tI]⟩
noncomputable def c19 : Con := ⟨i19, o19, fun v => laws_toConfig v.1.1⟩
noncomputable def l19 : List (Nat × Con) := [(66, c66)]
noncomputable def C19 : Cfg := ⟨T, gam l19, hintOf []⟩
theorem e19 (ω : List Bool) (v : i19.V) : enterF C19 c19 Try.f19 (fun _ _ => none) ω v = laws_toConfig v.1.1 := by kernel_rfl
theorem s19 : SoundC Try.prog 19 c19 := sound_by0 (l := l19) tOk mx Try.func19 ⟨s66, trivial⟩ (by kernel_rfl) (by kernel_rfl) e19

/-! laws_toEra -/
abbrev i113 : Shp := ⟨[(0, .row Y1)], []⟩
abbrev o113 : Shp := ⟨[(0, .agg [.ref 0, .v .bool, .v tI])], [.sl 9 tI]⟩
noncomputable def c113 : Con := ⟨i113, o113, fun v => laws_toEra v.1.1⟩
noncomputable def l113 : List (Nat × Con) := [(66, c66)]
noncomputable def C113 : Cfg := ⟨T, gam l113, hintOf []⟩
theorem e113 (ω : List Bool) (v : i113.V) : enterF C113 c113 Try.f113 (fun _ _ => none) ω v = laws_toEra v.1.1 := by kernel_rfl
theorem s113 : SoundC Try.prog 113 c113 := sound_by0 (l := l113) tOk mx Try.func113 ⟨s66, trivial⟩ (by kernel_rfl) (by kernel_rfl) e113

/-! laws_toEraS -/
abbrev i77 : Shp := ⟨[(0, .c (.sl false Y1))], []⟩
abbrev o77 : Shp := ⟨[(0, .c (.ref 0))], [.sl 9 Y1]⟩
noncomputable def c77 : Con := ⟨i77, o77, fun v => laws_toEraS v.1.1⟩
noncomputable def l77 : List (Nat × Con) := [(113, c113)]
noncomputable def C77 : Cfg := ⟨T, gam l77, hintOf []⟩
abbrev h77_3 : Shp := ⟨[(0, .c (.sl false Y1)), (3, .c (.ref 0)), (4, .c (.v tI))], [.sl 9 Y1]⟩
noncomputable def j77 (n ℓ : Nat) (σ : St) : Option o77.V := if ℓ = 3 then jump 0 h77_3 (fun v => laws_toEraS_L3 n v.1.1 v.1.2.2.1 v.2.1) σ else none
theorem q77_3 (n : Nat) (v : h77_3.V) (ω : List Bool) : loopF C77 c77 Try.f77 (j77 n) 3 ω (h77_3.st 23 v) = laws_toEraS_step3 (laws_toEraS_L3 n) v.1.1 v.1.2.2.1 v.2.1 := by kernel_rfl
theorem e77 (n : Nat) (ω : List Bool) (v : i77.V) : enterF C77 c77 Try.f77 (j77 n) ω v = laws_toEraS_entry (laws_toEraS_L3 n) v.1.1 := by kernel_rfl
theorem s77 : SoundC Try.prog 77 c77 := sound_by (l := l77) (J := j77) (L := [3]) tOk mx Try.func77 ⟨s113, trivial⟩ (by kernel_rfl) (by kernel_rfl)
  ⟨⟨h77_3, fun n v => laws_toEraS_L3 n v.1.1 v.1.2.2.1 v.2.1, fun _ => rfl, fun _ => rfl, q77_3⟩, trivial⟩ FUEL (e77 FUEL)

/-! laws_toRegister -/
abbrev i31 : Shp := ⟨[(0, .row Y2)], []⟩
abbrev o31 : Shp := ⟨[(0, .agg [.ref 0, .v tI])], [.sl 9 Y1]⟩
noncomputable def c31 : Con := ⟨i31, o31, fun v => laws_toRegister v.1.1⟩
noncomputable def l31 : List (Nat × Con) := [(77, c77)]
noncomputable def C31 : Cfg := ⟨T, gam l31, hintOf []⟩
theorem e31 (ω : List Bool) (v : i31.V) : enterF C31 c31 Try.f31 (fun _ _ => none) ω v = laws_toRegister v.1.1 := by kernel_rfl
theorem s31 : SoundC Try.prog 31 c31 := sound_by0 (l := l31) tOk mx Try.func31 ⟨s77, trivial⟩ (by kernel_rfl) (by kernel_rfl) e31

/-! spec_l1In -/
abbrev i102 : Shp := ⟨[(0, .c (.v tI)), (1, .c (.v tI)), (2, .c (.v tI))], []⟩
abbrev o102 : Shp := ⟨[(0, .c (.v .bool))], []⟩
noncomputable def c102 : Con := ⟨i102, o102, fun v => spec_l1In v.1.1 v.1.2.1 v.1.2.2.1⟩
noncomputable def l102 : List (Nat × Con) := []
noncomputable def C102 : Cfg := ⟨T, gam l102, hintOf []⟩
theorem e102 (ω : List Bool) (v : i102.V) : enterF C102 c102 Try.f102 (fun _ _ => none) ω v = spec_l1In v.1.1 v.1.2.1 v.1.2.2.1 := by kernel_rfl
theorem s102 : SoundC Try.prog 102 c102 := sound_by0 (l := l102) tOk mx Try.func102 trivial (by kernel_rfl) (by kernel_rfl) e102

/-! spec_ConfigOk -/
abbrev i101 : Shp := ⟨[(0, .row Y0)], []⟩
abbrev o101 : Shp := ⟨[(0, .c (.v .bool))], []⟩
noncomputable def c101 : Con := ⟨i101, o101, fun v => spec_ConfigOk v.1.1⟩
noncomputable def l101 : List (Nat × Con) := [(102, c102)]
noncomputable def C101 : Cfg := ⟨T, gam l101, hintOf []⟩
abbrev h101_4 : Shp := ⟨[(1, .c (.ptr 0 0)), (3, .c (.v tI))], [.mem [.sl false tI, .v tI]]⟩
noncomputable def j101 (n ℓ : Nat) (σ : St) : Option o101.V := if ℓ = 4 then jump 0 h101_4 (fun v => spec_ConfigOk_L4 n v.1.2.1 v.2.1.1 v.2.1.2.1) σ else none
theorem q101_4 (n : Nat) (v : h101_4.V) (ω : List Bool) : loopF C101 c101 Try.f101 (j101 n) 4 ω (h101_4.st 29 v) = spec_ConfigOk_step4 (spec_ConfigOk_L4 n) v.1.2.1 v.2.1.1 v.2.1.2.1 := by kernel_rfl
theorem e101 (n : Nat) (ω : List Bool) (v : i101.V) : enterF C101 c101 Try.f101 (j101 n) ω v = spec_ConfigOk_entry (spec_ConfigOk_L4 n) v.1.1 := by kernel_rfl
theorem s101 : SoundC Try.prog 101 c101 := sound_by (l := l101) (J := j101) (L := [4]) tOk mx Try.func101 ⟨s102, trivial⟩ (by kernel_rfl) (by kernel_rfl)
  ⟨⟨h101_4, fun n v => spec_ConfigOk_L4 n v.1.2.1 v.2.1.1 v.2.1.2.1, fun _ => rfl, fun _ => rfl, q101_4⟩, trivial⟩ FUEL (e101 FUEL)

/-! spec_PlaceOk -/
abbrev i111 : Shp := ⟨[(0, .c (.v tI))], []⟩
abbrev o111 : Shp := ⟨[(0, .c (.v .bool))], []⟩
noncomputable def c111 : Con := ⟨i111, o111, fun v => spec_PlaceOk v.1.1⟩
noncomputable def l111 : List (Nat × Con) := [(102, c102)]
noncomputable def C111 : Cfg := ⟨T, gam l111, hintOf []⟩
theorem e111 (ω : List Bool) (v : i111.V) : enterF C111 c111 Try.f111 (fun _ _ => none) ω v = spec_PlaceOk v.1.1 := by kernel_rfl
theorem s111 : SoundC Try.prog 111 c111 := sound_by0 (l := l111) tOk mx Try.func111 ⟨s102, trivial⟩ (by kernel_rfl) (by kernel_rfl) e111

/-! spec_EpochOf -/
abbrev i112 : Shp := ⟨[(0, .c (.v tI))], []⟩
abbrev o112 : Shp := ⟨[(0, .c (.v tI))], []⟩
noncomputable def c112 : Con := ⟨i112, o112, fun v => spec_EpochOf v.1.1⟩
noncomputable def l112 : List (Nat × Con) := [(111, c111)]
noncomputable def C112 : Cfg := ⟨T, gam l112, hintOf []⟩
theorem e112 (ω : List Bool) (v : i112.V) : enterF C112 c112 Try.f112 (fun _ _ => none) ω v = spec_EpochOf v.1.1 := by kernel_rfl
theorem s112 : SoundC Try.prog 112 c112 := sound_by0 (l := l112) tOk mx Try.func112 ⟨s111, trivial⟩ (by kernel_rfl) (by kernel_rfl) e112

/-! spec_l4Asc -/
abbrev i120 : Shp := ⟨[(0, .c (.sl false tI)), (1, .c (.v tI)), (2, .c (.v tI))], []⟩
abbrev o120 : Shp := ⟨[(0, .c (.v .bool))], []⟩
noncomputable def c120 : Con := ⟨i120, o120, fun v => spec_l4Asc v.1.1 v.1.2.1 v.1.2.2.1⟩
noncomputable def l120 : List (Nat × Con) := [(102, c102)]
noncomputable def C120 : Cfg := ⟨T, gam l120, hintOf []⟩
abbrev h120_2 : Shp := ⟨[(0, .c (.sl false tI)), (1, .c (.v tI)), (2, .c (.v tI)), (7, .c (.v tI))], []⟩
noncomputable def j120 (n ℓ : Nat) (σ : St) : Option o120.V := if ℓ = 2 then jump 0 h120_2 (fun v => spec_l4Asc_L2 n v.1.1 v.1.2.1 v.1.2.2.1 v.1.2.2.2.1) σ else none
theorem q120_2 (n : Nat) (v : h120_2.V) (ω : List Bool) : loopF C120 c120 Try.f120 (j120 n) 2 ω (h120_2.st 38 v) = spec_l4Asc_step2 (spec_l4Asc_L2 n) v.1.1 v.1.2.1 v.1.2.2.1 v.1.2.2.2.1 := by kernel_rfl
theorem e120 (n : Nat) (ω : List Bool) (v : i120.V) : enterF C120 c120 Try.f120 (j120 n) ω v = spec_l4Asc_entry (spec_l4Asc_L2 n) v.1.1 v.1.2.1 v.1.2.2.1 := by kernel_rfl
theorem s120 : SoundC Try.prog 120 c120 := sound_by (l := l120) (J := j120) (L := [2]) tOk mx Try.func120 ⟨s102, trivial⟩ (by kernel_rfl) (by kernel_rfl)
  ⟨⟨h120_2, fun n v => spec_l4Asc_L2 n v.1.1 v.1.2.1 v.1.2.2.1 v.1.2.2.2.1, fun _ => rfl, fun _ => rfl, q120_2⟩, trivial⟩ FUEL (e120 FUEL)

/-! spec_NodesOk -/
abbrev i103 : Shp := ⟨[(0, .row Y0), (1, .c (.sl false tI))], []⟩
abbrev o103 : Shp := ⟨[(0, .c (.v .bool))], []⟩
noncomputable def c103 : Con := ⟨i103, o103, fun v => spec_NodesOk v.1.1 v.1.2.1⟩
noncomputable def l103 : List (Nat × Con) := [(101, c101), (120, c120)]
noncomputable def C103 : Cfg := ⟨T, gam l103, hintOf []⟩
theorem e103 (ω : List Bool) (v : i103.V) : enterF C103 c103 Try.f103 (fun _ _ => none) ω v = spec_NodesOk v.1.1 v.1.2.1 := by kernel_rfl
theorem s103 : SoundC Try.prog 103 c103 := sound_by0 (l := l103) tOk mx Try.func103 ⟨s101, s120, trivial⟩ (by kernel_rfl) (by kernel_rfl) e103

/-! spec_l4Span -/
abbrev i118 : Shp := ⟨[(0, .row Y0), (1, .c (.sl false tI))], []⟩
abbrev o118 : Shp := ⟨[(0, .c (.v tI))], []⟩
noncomputable def c118 : Con := ⟨i118, o118, fun v => spec_l4Span v.1.1 v.1.2.1⟩
noncomputable def l118 : List (Nat × Con) := []
noncomputable def C118 : Cfg := ⟨T, gam l118, hintOf [(6, [0, 1])]⟩
abbrev h118_4 : Shp := ⟨[(1, .c (.sl false tI)), (2, .c (.ptr 0 0)), (5, .c (.ref 1)), (6, .c (.v tI)), (7, .c (.v tI))], [.mem [.sl false tI, .v tI], .sl 9 .bool]⟩
noncomputable def j118 (n ℓ : Nat) (σ : St) : Option o118.V := if ℓ = 4 then jump 0 h118_4 (fun v => spec_l4Span_L4 n v.1.1 v.1.2.2.2.1 v.1.2.2.2.2.1 v.2.1.1 v.2.1.2.1 v.2.2.1) σ else none
theorem q118_4 (n : Nat) (v : h118_4.V) (ω : List Bool) : loopF C118 c118 Try.f118 (j118 n) 4 ω (h118_4.st 35 v) = spec_l4Span_step4 (spec_l4Span_L4 n) v.1.1 v.1.2.2.2.1 v.1.2.2.2.2.1 v.2.1.1 v.2.1.2.1 v.2.2.1 := by kernel_rfl
theorem e118 (n : Nat) (ω : List Bool) (v : i118.V) : enterF C118 c118 Try.f118 (j118 n) ω v = spec_l4Span_entry (spec_l4Span_L4 n) v.1.1 v.1.2.1 := by kernel_rfl
theorem s118 : SoundC Try.prog 118 c118 := sound_by (l := l118) (J := j118) (L := [4]) tOk mx Try.func118 trivial (by kernel_rfl) (by kernel_rfl)
  ⟨⟨h118_4, fun n v => spec_l4Span_L4 n v.1.1 v.1.2.2.2.1 v.1.2.2.2.2.1 v.2.1.1 v.2.1.2.1 v.2.2.1, fun _ => rfl, fun _ => rfl, q118_4⟩, trivial⟩ FUEL (e118 FUEL)

/-! spec_Holds -/
abbrev i86 : Shp := ⟨[(0, .row Y0), (1, .c (.sl false tI))], []⟩
abbrev o86 : Shp := ⟨[(0, .c (.v .bool))], []⟩
noncomputable def c86 : Con := ⟨i86, o86, fun v => spec_Holds v.1.1 v.1.2.1⟩
noncomputable def l86 : List (Nat × Con) := [(103, c103), (118, c118)]
noncomputable def C86 : Cfg := ⟨T, gam l86, hintOf [(1, [0])]⟩
theorem e86 (ω : List Bool) (v : i86.V) : enterF C86 c86 Try.f86 (fun _ _ => none) ω v = spec_Holds v.1.1 v.1.2.1 := by kernel_rfl
theorem s86 : SoundC Try.prog 86 c86 := sound_by0 (l := l86) tOk mx Try.func86 ⟨s103, s118, trivial⟩ (by kernel_rfl) (by kernel_rfl) e86

/-! spec_RegOk -/
abbrev i75 : Shp := ⟨[(0, .row Y0), (1, .row Y2)], []⟩
abbrev o75 : Shp := ⟨[(0, .c (.v .bool))], []⟩
noncomputable def c75 : Con := ⟨i75, o75, fun v => spec_RegOk v.1.1 v.1.2.1⟩
noncomputable def l75 : List (Nat × Con) := [(86, c86), (101, c101), (102, c102), (111, c111), (112, c112)]
noncomputable def C75 : Cfg := ⟨T, gam l75, hintOf []⟩
abbrev h75_5 : Shp := ⟨[(2, .c (.ptr 0 0)), (3, .c (.ptr 1 0)), (5, .c (.v tI)), (6, .c (.v tI))], [.mem [.sl false tI, .v tI], .mem [.sl false Y1, .v tI]]⟩
noncomputable def j75 (n ℓ : Nat) (σ : St) : Option o75.V := if ℓ = 5 then jump 0 h75_5 (fun v => spec_RegOk_L5 n v.1.2.2.1 v.1.2.2.2.1 v.2.1.1 v.2.1.2.1 v.2.2.1.1 v.2.2.1.2.1) σ else none
theorem q75_5 (n : Nat) (v : h75_5.V) (ω : List Bool) : loopF C75 c75 Try.f75 (j75 n) 5 ω (h75_5.st 89 v) = spec_RegOk_step5 (spec_RegOk_L5 n) v.1.2.2.1 v.1.2.2.2.1 v.2.1.1 v.2.1.2.1 v.2.2.1.1 v.2.2.1.2.1 := by kernel_rfl
theorem e75 (n : Nat) (ω : List Bool) (v : i75.V) : enterF C75 c75 Try.f75 (j75 n) ω v = spec_RegOk_entry (spec_RegOk_L5 n) v.1.1 v.1.2.1 := by kernel_rfl
theorem s75 : SoundC Try.prog 75 c75 := sound_by (l := l75) (J := j75) (L := [5]) tOk mx Try.func75 ⟨s86, s101, s102, s111, s112, trivial⟩ (by kernel_rfl) (by kernel_rfl)
  ⟨⟨h75_5, fun n v => spec_RegOk_L5 n v.1.2.2.1 v.1.2.2.2.1 v.2.1.1 v.2.1.2.1 v.2.2.1.1 v.2.2.1.2.1, fun _ => rfl, fun _ => rfl, q75_5⟩, trivial⟩ FUEL (e75 FUEL)

/-! spec_PutNum -/
abbrev i49 : Shp := ⟨[(0, .c (.v tI))], []⟩
abbrev o49 : Shp := ⟨[(0, .c (.ref 0))], [.sl 9 tU]⟩
noncomputable def c49 : Con := ⟨i49, o49, fun v => spec_PutNum v.1.1⟩
noncomputable def l49 : List (Nat × Con) := []
noncomputable def C49 : Cfg := ⟨T, gam l49, hintOf []⟩
abbrev h49_4 : Shp := ⟨[(0, .c (.v tI)), (3, .c (.ref 0))], [.sl 9 tU]⟩
noncomputable def j49 (n ℓ : Nat) (σ : St) : Option o49.V := if ℓ = 4 then jump 0 h49_4 (fun v => spec_PutNum_L4 n v.1.1 v.2.1) σ else none
theorem q49_4 (n : Nat) (v : h49_4.V) (ω : List Bool) : loopF C49 c49 Try.f49 (j49 n) 4 ω (h49_4.st 24 v) = spec_PutNum_step4 (spec_PutNum_L4 n) v.1.1 v.2.1 := by kernel_rfl
theorem e49 (n : Nat) (ω : List Bool) (v : i49.V) : enterF C49 c49 Try.f49 (j49 n) ω v = spec_PutNum_entry (spec_PutNum_L4 n) v.1.1 := by kernel_rfl
theorem s49 : SoundC Try.prog 49 c49 := sound_by (l := l49) (J := j49) (L := [4]) tOk mx Try.func49 trivial (by kernel_rfl) (by kernel_rfl)
  ⟨⟨h49_4, fun n v => spec_PutNum_L4 n v.1.1 v.2.1, fun _ => rfl, fun _ => rfl, q49_4⟩, trivial⟩ FUEL (e49 FUEL)

/-! spec_l17List -/
abbrev i65 : Shp := ⟨[(0, .c (.sl false tI))], []⟩
abbrev o65 : Shp := ⟨[(0, .c (.ref 0))], [.sl 9 tU]⟩
noncomputable def c65 : Con := ⟨i65, o65, fun v => spec_l17List v.1.1⟩
noncomputable def l65 : List (Nat × Con) := [(49, c49)]
noncomputable def C65 : Cfg := ⟨T, gam l65, hintOf []⟩
abbrev h65_3 : Shp := ⟨[(0, .c (.sl false tI)), (3, .c (.ref 0)), (4, .c (.v tI))], [.sl 9 tU]⟩
noncomputable def j65 (n ℓ : Nat) (σ : St) : Option o65.V := if ℓ = 3 then jump 0 h65_3 (fun v => spec_l17List_L3 n v.1.1 v.1.2.2.1 v.2.1) σ else none
theorem q65_3 (n : Nat) (v : h65_3.V) (ω : List Bool) : loopF C65 c65 Try.f65 (j65 n) 3 ω (h65_3.st 22 v) = spec_l17List_step3 (spec_l17List_L3 n) v.1.1 v.1.2.2.1 v.2.1 := by kernel_rfl
theorem e65 (n : Nat) (ω : List Bool) (v : i65.V) : enterF C65 c65 Try.f65 (j65 n) ω v = spec_l17List_entry (spec_l17List_L3 n) v.1.1 := by kernel_rfl
theorem s65 : SoundC Try.prog 65 c65 := sound_by (l := l65) (J := j65) (L := [3]) tOk mx Try.func65 ⟨s49, trivial⟩ (by kernel_rfl) (by kernel_rfl)
  ⟨⟨h65_3, fun n v => spec_l17List_L3 n v.1.1 v.1.2.2.1 v.2.1, fun _ => rfl, fun _ => rfl, q65_3⟩, trivial⟩ FUEL (e65 FUEL)

/-! spec_l3Bit -/
abbrev i76 : Shp := ⟨[(0, .c (.v .bool))], []⟩
abbrev o76 : Shp := ⟨[(0, .c (.v tI))], []⟩
noncomputable def c76 : Con := ⟨i76, o76, fun v => spec_l3Bit v.1.1⟩
noncomputable def l76 : List (Nat × Con) := []
noncomputable def C76 : Cfg := ⟨T, gam l76, hintOf []⟩
theorem e76 (ω : List Bool) (v : i76.V) : enterF C76 c76 Try.f76 (fun _ _ => none) ω v = spec_l3Bit v.1.1 := by kernel_rfl
theorem s76 : SoundC Try.prog 76 c76 := sound_by0 (l := l76) tOk mx Try.func76 trivial (by kernel_rfl) (by kernel_rfl) e76

/-! spec_RegPack -/
abbrev i30 : Shp := ⟨[(0, .row Y0), (1, .row Y2)], []⟩
abbrev o30 : Shp := ⟨[(0, .tup [.inl (.ref 0), .inl (.v .bool)])], [.sl 9 tU]⟩
noncomputable def c30 : Con := ⟨i30, o30, fun v => spec_RegPack v.1.1 v.1.2.1⟩
noncomputable def l30 : List (Nat × Con) := [(49, c49), (65, c65), (75, c75), (76, c76)]
noncomputable def C30 : Cfg := ⟨T, gam l30, hintOf [(3, [0, 1]), (8, [0, 2])]⟩
abbrev h30_5 : Shp := ⟨[(3, .c (.ptr 0 0)), (6, .c (.ref 1)), (7, .c (.v tI))], [.mem [.sl false Y1, .v tI], .sl 9 tU]⟩
noncomputable def j30 (n ℓ : Nat) (σ : St) : Option o30.V := if ℓ = 5 then jump 0 h30_5 (fun v => spec_RegPack_L5 n v.1.2.2.1 v.2.1.1 v.2.1.2.1 v.2.2.1) σ else none
theorem q30_5 (n : Nat) (v : h30_5.V) (ω : List Bool) : loopF C30 c30 Try.f30 (j30 n) 5 ω (h30_5.st 50 v) = spec_RegPack_step5 (spec_RegPack_L5 n) v.1.2.2.1 v.2.1.1 v.2.1.2.1 v.2.2.1 := by kernel_rfl
theorem e30 (n : Nat) (ω : List Bool) (v : i30.V) : enterF C30 c30 Try.f30 (j30 n) ω v = spec_RegPack_entry (spec_RegPack_L5 n) v.1.1 v.1.2.1 := by kernel_rfl
theorem s30 : SoundC Try.prog 30 c30 := sound_by (l := l30) (J := j30) (L := [5]) tOk mx Try.func30 ⟨s49, s65, s75, s76, trivial⟩ (by kernel_rfl) (by kernel_rfl)
  ⟨⟨h30_5, fun n v => spec_RegPack_L5 n v.1.2.2.1 v.2.1.1 v.2.1.2.1 v.2.2.1, fun _ => rfl, fun _ => rfl, q30_5⟩, trivial⟩ FUEL (e30 FUEL)

/-! impl_within -/
abbrev i91 : Shp := ⟨[(0, .c (.v tI)), (1, .c (.v tI)), (2, .c (.v tI))], []⟩
abbrev o91 : Shp := ⟨[(0, .c (.v .bool))], []⟩
noncomputable def c91 : Con := ⟨i91, o91, fun v => impl_within v.1.1 v.1.2.1 v.1.2.2.1⟩
noncomputable def l91 : List (Nat × Con) := []
noncomputable def C91 : Cfg := ⟨T, gam l91, hintOf []⟩
theorem e91 (ω : List Bool) (v : i91.V) : enterF C91 c91 Try.f91 (fun _ _ => none) ω v = impl_within v.1.1 v.1.2.1 v.1.2.2.1 := by kernel_rfl
theorem s91 : SoundC Try.prog 91 c91 := sound_by0 (l := l91) tOk mx Try.func91 trivial (by kernel_rfl) (by kernel_rfl) e91

/-! impl_ConfigOk -/
abbrev i106 : Shp := ⟨[(0, .row Y0)], []⟩
abbrev o106 : Shp := ⟨[(0, .c (.v .bool))], []⟩
noncomputable def c106 : Con := ⟨i106, o106, fun v => impl_ConfigOk v.1.1⟩
noncomputable def l106 : List (Nat × Con) := [(91, c91)]
noncomputable def C106 : Cfg := ⟨T, gam l106, hintOf []⟩
abbrev h106_2 : Shp := ⟨[(1, .c (.ptr 0 0)), (6, .c (.sl false tI)), (7, .c (.v tI)), (8, .c (.v tI))], [.mem [.sl false tI, .v tI]]⟩
noncomputable def j106 (n ℓ : Nat) (σ : St) : Option o106.V := if ℓ = 2 then jump 0 h106_2 (fun v => impl_ConfigOk_L2 n v.1.2.1 v.1.2.2.1 v.1.2.2.2.1 v.2.1.1 v.2.1.2.1) σ else none
theorem q106_2 (n : Nat) (v : h106_2.V) (ω : List Bool) : loopF C106 c106 Try.f106 (j106 n) 2 ω (h106_2.st 25 v) = impl_ConfigOk_step2 (impl_ConfigOk_L2 n) v.1.2.1 v.1.2.2.1 v.1.2.2.2.1 v.2.1.1 v.2.1.2.1 := by kernel_rfl
theorem e106 (n : Nat) (ω : List Bool) (v : i106.V) : enterF C106 c106 Try.f106 (j106 n) ω v = impl_ConfigOk_entry (impl_ConfigOk_L2 n) v.1.1 := by kernel_rfl
theorem s106 : SoundC Try.prog 106 c106 := sound_by (l := l106) (J := j106) (L := [2]) tOk mx Try.func106 ⟨s91, trivial⟩ (by kernel_rfl) (by kernel_rfl)
  ⟨⟨h106_2, fun n v => impl_ConfigOk_L2 n v.1.2.1 v.1.2.2.1 v.1.2.2.2.1 v.2.1.1 v.2.1.2.1, fun _ => rfl, fun _ => rfl, q106_2⟩, trivial⟩ FUEL (e106 FUEL)

/-! impl_ascends -/
abbrev i121 : Shp := ⟨[(0, .c (.sl false tI)), (1, .c (.v tI))], []⟩
abbrev o121 : Shp := ⟨[(0, .c (.v .bool))], []⟩
noncomputable def c121 : Con := ⟨i121, o121, fun v => impl_ascends v.1.1 v.1.2.1⟩
noncomputable def l121 : List (Nat × Con) := [(91, c91)]
noncomputable def C121 : Cfg := ⟨T, gam l121, hintOf []⟩
abbrev h121_2 : Shp := ⟨[(0, .c (.sl false tI)), (1, .c (.v tI)), (7, .c (.sl false tI)), (8, .c (.v tI)), (9, .c (.v tI))], []⟩
noncomputable def j121 (n ℓ : Nat) (σ : St) : Option o121.V := if ℓ = 2 then jump 0 h121_2 (fun v => impl_ascends_L2 n v.1.1 v.1.2.1 v.1.2.2.1 v.1.2.2.2.1 v.1.2.2.2.2.1) σ else none
theorem q121_2 (n : Nat) (v : h121_2.V) (ω : List Bool) : loopF C121 c121 Try.f121 (j121 n) 2 ω (h121_2.st 32 v) = impl_ascends_step2 (impl_ascends_L2 n) v.1.1 v.1.2.1 v.1.2.2.1 v.1.2.2.2.1 v.1.2.2.2.2.1 := by kernel_rfl
theorem e121 (n : Nat) (ω : List Bool) (v : i121.V) : enterF C121 c121 Try.f121 (j121 n) ω v = impl_ascends_entry (impl_ascends_L2 n) v.1.1 v.1.2.1 := by kernel_rfl
theorem s121 : SoundC Try.prog 121 c121 := sound_by (l := l121) (J := j121) (L := [2]) tOk mx Try.func121 ⟨s91, trivial⟩ (by kernel_rfl) (by kernel_rfl)
  ⟨⟨h121_2, fun n v => impl_ascends_L2 n v.1.1 v.1.2.1 v.1.2.2.1 v.1.2.2.2.1 v.1.2.2.2.2.1, fun _ => rfl, fun _ => rfl, q121_2⟩, trivial⟩ FUEL (e121 FUEL)

/-! impl_NodesOk -/
abbrev i105 : Shp := ⟨[(0, .row Y0), (1, .c (.sl false tI))], []⟩
abbrev o105 : Shp := ⟨[(0, .c (.v .bool))], []⟩
noncomputable def c105 : Con := ⟨i105, o105, fun v => impl_NodesOk v.1.1 v.1.2.1⟩
noncomputable def l105 : List (Nat × Con) := [(106, c106), (121, c121)]
noncomputable def C105 : Cfg := ⟨T, gam l105, hintOf []⟩
theorem e105 (ω : List Bool) (v : i105.V) : enterF C105 c105 Try.f105 (fun _ _ => none) ω v = impl_NodesOk v.1.1 v.1.2.1 := by kernel_rfl
theorem s105 : SoundC Try.prog 105 c105 := sound_by0 (l := l105) tOk mx Try.func105 ⟨s106, s121, trivial⟩ (by kernel_rfl) (by kernel_rfl) e105

/-! slices_Index_int_int -/
abbrev i125 : Shp := ⟨[(0, .c (.sl false tI)), (1, .c (.v tI))], []⟩
abbrev o125 : Shp := ⟨[(0, .c (.v tI))], []⟩
noncomputable def c125 : Con := ⟨i125, o125, fun v => slices_Index_int_int v.1.1 v.1.2.1⟩
noncomputable def l125 : List (Nat × Con) := []
noncomputable def C125 : Cfg := ⟨T, gam l125, hintOf []⟩
abbrev h125_2 : Shp := ⟨[(0, .c (.sl false tI)), (1, .c (.v tI)), (7, .c (.v tI)), (8, .c (.v tI))], []⟩
noncomputable def j125 (n ℓ : Nat) (σ : St) : Option o125.V := if ℓ = 2 then jump 0 h125_2 (fun v => slices_Index_int_int_L2 n v.1.1 v.1.2.1 v.1.2.2.1 v.1.2.2.2.1) σ else none
theorem q125_2 (n : Nat) (v : h125_2.V) (ω : List Bool) : loopF C125 c125 Try.f125 (j125 n) 2 ω (h125_2.st 19 v) = slices_Index_int_int_step2 (slices_Index_int_int_L2 n) v.1.1 v.1.2.1 v.1.2.2.1 v.1.2.2.2.1 := by kernel_rfl
theorem e125 (n : Nat) (ω : List Bool) (v : i125.V) : enterF C125 c125 Try.f125 (j125 n) ω v = slices_Index_int_int_entry (slices_Index_int_int_L2 n) v.1.1 v.1.2.1 := by kernel_rfl
theorem s125 : SoundC Try.prog 125 c125 := sound_by (l := l125) (J := j125) (L := [2]) tOk mx Try.func125 trivial (by kernel_rfl) (by kernel_rfl)
  ⟨⟨h125_2, fun n v => slices_Index_int_int_L2 n v.1.1 v.1.2.1 v.1.2.2.1 v.1.2.2.2.1, fun _ => rfl, fun _ => rfl, q125_2⟩, trivial⟩ FUEL (e125 FUEL)

/-! slices_Contains_int_int -/
abbrev i123 : Shp := ⟨[(0, .c (.sl false tI)), (1, .c (.v tI))], []⟩
abbrev o123 : Shp := ⟨[(0, .c (.v .bool))], []⟩
noncomputable def c123 : Con := ⟨i123, o123, fun v => slices_Contains_int_int v.1.1 v.1.2.1⟩
noncomputable def l123 : List (Nat × Con) := [(125, c125)]
noncomputable def C123 : Cfg := ⟨T, gam l123, hintOf []⟩
theorem e123 (ω : List Bool) (v : i123.V) : enterF C123 c123 Try.f123 (fun _ _ => none) ω v = slices_Contains_int_int v.1.1 v.1.2.1 := by kernel_rfl
theorem s123 : SoundC Try.prog 123 c123 := sound_by0 (l := l123) tOk mx Try.func123 ⟨s125, trivial⟩ (by kernel_rfl) (by kernel_rfl) e123

/-! impl_SpanOf -/
abbrev i119 : Shp := ⟨[(0, .row Y0), (1, .c (.sl false tI))], []⟩
abbrev o119 : Shp := ⟨[(0, .c (.v tI))], []⟩
noncomputable def c119 : Con := ⟨i119, o119, fun v => impl_SpanOf v.1.1 v.1.2.1⟩
noncomputable def l119 : List (Nat × Con) := [(105, c105), (123, c123)]
noncomputable def C119 : Cfg := ⟨T, gam l119, hintOf []⟩
abbrev h119_5 : Shp := ⟨[(2, .c (.ptr 0 0)), (5, .c (.ref 1)), (13, .c (.sl false tI)), (14, .c (.v tI)), (15, .c (.v tI))], [.mem [.sl false tI, .v tI], .sl 9 tI]⟩
noncomputable def j119 (n ℓ : Nat) (σ : St) : Option o119.V := if ℓ = 5 then jump 0 h119_5 (fun v => impl_SpanOf_L5 n v.1.2.2.1 v.1.2.2.2.1 v.1.2.2.2.2.1 v.2.1.1 v.2.1.2.1 v.2.2.1) σ else none
theorem q119_5 (n : Nat) (v : h119_5.V) (ω : List Bool) : loopF C119 c119 Try.f119 (j119 n) 5 ω (h119_5.st 38 v) = impl_SpanOf_step5 (impl_SpanOf_L5 n) v.1.2.2.1 v.1.2.2.2.1 v.1.2.2.2.2.1 v.2.1.1 v.2.1.2.1 v.2.2.1 := by kernel_rfl
theorem e119 (n : Nat) (ω : List Bool) (v : i119.V) : enterF C119 c119 Try.f119 (j119 n) ω v = impl_SpanOf_entry (impl_SpanOf_L5 n) v.1.1 v.1.2.1 := by kernel_rfl
theorem s119 : SoundC Try.prog 119 c119 := sound_by (l := l119) (J := j119) (L := [5]) tOk mx Try.func119 ⟨s105, s123, trivial⟩ (by kernel_rfl) (by kernel_rfl)
  ⟨⟨h119_5, fun n v => impl_SpanOf_L5 n v.1.2.2.1 v.1.2.2.2.1 v.1.2.2.2.2.1 v.2.1.1 v.2.1.2.1 v.2.2.1, fun _ => rfl, fun _ => rfl, q119_5⟩, trivial⟩ FUEL (e119 FUEL)

/-! impl_Holds -/
abbrev i87 : Shp := ⟨[(0, .row Y0), (1, .c (.sl false tI))], []⟩
abbrev o87 : Shp := ⟨[(0, .c (.v .bool))], []⟩
noncomputable def c87 : Con := ⟨i87, o87, fun v => impl_Holds v.1.1 v.1.2.1⟩
noncomputable def l87 : List (Nat × Con) := [(105, c105), (119, c119)]
noncomputable def C87 : Cfg := ⟨T, gam l87, hintOf [(1, [0])]⟩
theorem e87 (ω : List Bool) (v : i87.V) : enterF C87 c87 Try.f87 (fun _ _ => none) ω v = impl_Holds v.1.1 v.1.2.1 := by kernel_rfl
theorem s87 : SoundC Try.prog 87 c87 := sound_by0 (l := l87) tOk mx Try.func87 ⟨s105, s119, trivial⟩ (by kernel_rfl) (by kernel_rfl) e87

/-! impl_eraOk -/
abbrev i114 : Shp := ⟨[(0, .row Y0), (1, .row Y1)], []⟩
abbrev o114 : Shp := ⟨[(0, .c (.v .bool))], []⟩
noncomputable def c114 : Con := ⟨i114, o114, fun v => impl_eraOk v.1.1 v.1.2.1⟩
noncomputable def l114 : List (Nat × Con) := [(87, c87), (91, c91)]
noncomputable def C114 : Cfg := ⟨T, gam l114, hintOf []⟩
theorem e114 (ω : List Bool) (v : i114.V) : enterF C114 c114 Try.f114 (fun _ _ => none) ω v = impl_eraOk v.1.1 v.1.2.1 := by kernel_rfl
theorem s114 : SoundC Try.prog 114 c114 := sound_by0 (l := l114) tOk mx Try.func114 ⟨s87, s91, trivial⟩ (by kernel_rfl) (by kernel_rfl) e114

/-! impl_isEpoch -/
abbrev i107 : Shp := ⟨[(0, .c (.v tI))], []⟩
abbrev o107 : Shp := ⟨[(0, .c (.v .bool))], []⟩
noncomputable def c107 : Con := ⟨i107, o107, fun v => impl_isEpoch v.1.1⟩
noncomputable def l107 : List (Nat × Con) := [(91, c91)]
noncomputable def C107 : Cfg := ⟨T, gam l107, hintOf []⟩
theorem e107 (ω : List Bool) (v : i107.V) : enterF C107 c107 Try.f107 (fun _ _ => none) ω v = impl_isEpoch v.1.1 := by kernel_rfl
theorem s107 : SoundC Try.prog 107 c107 := sound_by0 (l := l107) tOk mx Try.func107 ⟨s91, trivial⟩ (by kernel_rfl) (by kernel_rfl) e107

/-! impl_isOff -/
abbrev i124 : Shp := ⟨[(0, .c (.v tI))], []⟩
abbrev o124 : Shp := ⟨[(0, .c (.v .bool))], []⟩
noncomputable def c124 : Con := ⟨i124, o124, fun v => impl_isOff v.1.1⟩
noncomputable def l124 : List (Nat × Con) := [(91, c91)]
noncomputable def C124 : Cfg := ⟨T, gam l124, hintOf []⟩
theorem e124 (ω : List Bool) (v : i124.V) : enterF C124 c124 Try.f124 (fun _ _ => none) ω v = impl_isOff v.1.1 := by kernel_rfl
theorem s124 : SoundC Try.prog 124 c124 := sound_by0 (l := l124) tOk mx Try.func124 ⟨s91, trivial⟩ (by kernel_rfl) (by kernel_rfl) e124

/-! impl_PlaceOk -/
abbrev i122 : Shp := ⟨[(0, .c (.v tI))], []⟩
abbrev o122 : Shp := ⟨[(0, .c (.v .bool))], []⟩
noncomputable def c122 : Con := ⟨i122, o122, fun v => impl_PlaceOk v.1.1⟩
noncomputable def l122 : List (Nat × Con) := [(107, c107), (124, c124)]
noncomputable def C122 : Cfg := ⟨T, gam l122, hintOf []⟩
theorem e122 (ω : List Bool) (v : i122.V) : enterF C122 c122 Try.f122 (fun _ _ => none) ω v = impl_PlaceOk v.1.1 := by kernel_rfl
theorem s122 : SoundC Try.prog 122 c122 := sound_by0 (l := l122) tOk mx Try.func122 ⟨s107, s124, trivial⟩ (by kernel_rfl) (by kernel_rfl) e122

/-! impl_EpochOf -/
abbrev i115 : Shp := ⟨[(0, .c (.v tI))], []⟩
abbrev o115 : Shp := ⟨[(0, .c (.v tI))], []⟩
noncomputable def c115 : Con := ⟨i115, o115, fun v => impl_EpochOf v.1.1⟩
noncomputable def l115 : List (Nat × Con) := [(122, c122)]
noncomputable def C115 : Cfg := ⟨T, gam l115, hintOf []⟩
theorem e115 (ω : List Bool) (v : i115.V) : enterF C115 c115 Try.f115 (fun _ _ => none) ω v = impl_EpochOf v.1.1 := by kernel_rfl
theorem s115 : SoundC Try.prog 115 c115 := sound_by0 (l := l115) tOk mx Try.func115 ⟨s122, trivial⟩ (by kernel_rfl) (by kernel_rfl) e115

/-! impl_RegOk -/
abbrev i78 : Shp := ⟨[(0, .row Y0), (1, .row Y2)], []⟩
abbrev o78 : Shp := ⟨[(0, .c (.v .bool))], []⟩
noncomputable def c78 : Con := ⟨i78, o78, fun v => impl_RegOk v.1.1 v.1.2.1⟩
noncomputable def l78 : List (Nat × Con) := [(91, c91), (106, c106), (114, c114), (115, c115)]
noncomputable def C78 : Cfg := ⟨T, gam l78, hintOf [(7, [0, 1])]⟩
abbrev h78_2 : Shp := ⟨[(2, .c (.ptr 0 0)), (3, .c (.ptr 1 0)), (9, .c (.sl false Y1)), (10, .c (.v tI)), (11, .c (.v tI))], [.mem [.sl false tI, .v tI], .mem [.sl false Y1, .v tI]]⟩
noncomputable def j78 (n ℓ : Nat) (σ : St) : Option o78.V := if ℓ = 2 then jump 0 h78_2 (fun v => impl_RegOk_L2 n v.1.2.2.1 v.1.2.2.2.1 v.1.2.2.2.2.1 v.2.1.1 v.2.1.2.1 v.2.2.1.1 v.2.2.1.2.1) σ else none
theorem q78_2 (n : Nat) (v : h78_2.V) (ω : List Bool) : loopF C78 c78 Try.f78 (j78 n) 2 ω (h78_2.st 70 v) = impl_RegOk_step2 (impl_RegOk_L2 n) v.1.2.2.1 v.1.2.2.2.1 v.1.2.2.2.2.1 v.2.1.1 v.2.1.2.1 v.2.2.1.1 v.2.2.1.2.1 := by kernel_rfl
theorem e78 (n : Nat) (ω : List Bool) (v : i78.V) : enterF C78 c78 Try.f78 (j78 n) ω v = impl_RegOk_entry (impl_RegOk_L2 n) v.1.1 v.1.2.1 := by kernel_rfl
theorem s78 : SoundC Try.prog 78 c78 := sound_by (l := l78) (J := j78) (L := [2]) tOk mx Try.func78 ⟨s91, s106, s114, s115, trivial⟩ (by kernel_rfl) (by kernel_rfl)
  ⟨⟨h78_2, fun n v => impl_RegOk_L2 n v.1.2.2.1 v.1.2.2.2.1 v.1.2.2.2.2.1 v.2.1.1 v.2.1.2.1 v.2.2.1.1 v.2.2.1.2.1, fun _ => rfl, fun _ => rfl, q78_2⟩, trivial⟩ FUEL (e78 FUEL)

/-! impl_PutNum -/
abbrev i92 : Shp := ⟨[(0, .c (.v tI))], []⟩
abbrev o92 : Shp := ⟨[(0, .c (.ref 0))], [.sl 9 tU]⟩
noncomputable def c92 : Con := ⟨i92, o92, fun v => impl_PutNum v.1.1⟩
noncomputable def l92 : List (Nat × Con) := []
noncomputable def C92 : Cfg := ⟨T, gam l92, hintOf []⟩
abbrev h92_4 : Shp := ⟨[(0, .c (.v tI)), (3, .c (.ref 0))], [.sl 9 tU]⟩
noncomputable def j92 (n ℓ : Nat) (σ : St) : Option o92.V := if ℓ = 4 then jump 0 h92_4 (fun v => impl_PutNum_L4 n v.1.1 v.2.1) σ else none
theorem q92_4 (n : Nat) (v : h92_4.V) (ω : List Bool) : loopF C92 c92 Try.f92 (j92 n) 4 ω (h92_4.st 23 v) = impl_PutNum_step4 (impl_PutNum_L4 n) v.1.1 v.2.1 := by kernel_rfl
theorem e92 (n : Nat) (ω : List Bool) (v : i92.V) : enterF C92 c92 Try.f92 (j92 n) ω v = impl_PutNum_entry (impl_PutNum_L4 n) v.1.1 := by kernel_rfl
theorem s92 : SoundC Try.prog 92 c92 := sound_by (l := l92) (J := j92) (L := [4]) tOk mx Try.func92 trivial (by kernel_rfl) (by kernel_rfl)
  ⟨⟨h92_4, fun n v => impl_PutNum_L4 n v.1.1 v.2.1, fun _ => rfl, fun _ => rfl, q92_4⟩, trivial⟩ FUEL (e92 FUEL)

/-! impl_putNums -/
abbrev i45 : Shp := ⟨[(0, .c (.sl false tI))], []⟩
abbrev o45 : Shp := ⟨[(0, .c (.ref 0))], [.sl 9 tU]⟩
noncomputable def c45 : Con := ⟨i45, o45, fun v => impl_putNums v.1.1⟩
noncomputable def l45 : List (Nat × Con) := [(92, c92)]
noncomputable def C45 : Cfg := ⟨T, gam l45, hintOf []⟩
abbrev h45_3 : Shp := ⟨[(3, .c (.ref 0)), (7, .c (.sl false tI)), (8, .c (.v tI)), (9, .c (.v tI))], [.sl 9 tU]⟩
noncomputable def j45 (n ℓ : Nat) (σ : St) : Option o45.V := if ℓ = 3 then jump 0 h45_3 (fun v => impl_putNums_L3 n v.1.2.1 v.1.2.2.1 v.1.2.2.2.1 v.2.1) σ else none
theorem q45_3 (n : Nat) (v : h45_3.V) (ω : List Bool) : loopF C45 c45 Try.f45 (j45 n) 3 ω (h45_3.st 19 v) = impl_putNums_step3 (impl_putNums_L3 n) v.1.2.1 v.1.2.2.1 v.1.2.2.2.1 v.2.1 := by kernel_rfl
theorem e45 (n : Nat) (ω : List Bool) (v : i45.V) : enterF C45 c45 Try.f45 (j45 n) ω v = impl_putNums_entry (impl_putNums_L3 n) v.1.1 := by kernel_rfl
theorem s45 : SoundC Try.prog 45 c45 := sound_by (l := l45) (J := j45) (L := [3]) tOk mx Try.func45 ⟨s92, trivial⟩ (by kernel_rfl) (by kernel_rfl)
  ⟨⟨h45_3, fun n v => impl_putNums_L3 n v.1.2.1 v.1.2.2.1 v.1.2.2.2.1 v.2.1, fun _ => rfl, fun _ => rfl, q45_3⟩, trivial⟩ FUEL (e45 FUEL)

/-! impl_putList -/
abbrev i69 : Shp := ⟨[(0, .c (.sl false tI))], []⟩
abbrev o69 : Shp := ⟨[(0, .c (.ref 0))], [.sl 9 tU]⟩
noncomputable def c69 : Con := ⟨i69, o69, fun v => impl_putList v.1.1⟩
noncomputable def l69 : List (Nat × Con) := [(45, c45), (92, c92)]
noncomputable def C69 : Cfg := ⟨T, gam l69, hintOf []⟩
theorem e69 (ω : List Bool) (v : i69.V) : enterF C69 c69 Try.f69 (fun _ _ => none) ω v = impl_putList v.1.1 := by kernel_rfl
theorem s69 : SoundC Try.prog 69 c69 := sound_by0 (l := l69) tOk mx Try.func69 ⟨s45, s92, trivial⟩ (by kernel_rfl) (by kernel_rfl) e69

/-! impl_flagNum -/
abbrev i79 : Shp := ⟨[(0, .c (.v .bool))], []⟩
abbrev o79 : Shp := ⟨[(0, .c (.v tI))], []⟩
noncomputable def c79 : Con := ⟨i79, o79, fun v => impl_flagNum v.1.1⟩
noncomputable def l79 : List (Nat × Con) := []
noncomputable def C79 : Cfg := ⟨T, gam l79, hintOf []⟩
theorem e79 (ω : List Bool) (v : i79.V) : enterF C79 c79 Try.f79 (fun _ _ => none) ω v = impl_flagNum v.1.1 := by kernel_rfl
theorem s79 : SoundC Try.prog 79 c79 := sound_by0 (l := l79) tOk mx Try.func79 trivial (by kernel_rfl) (by kernel_rfl) e79

/-! impl_RegPack -/
abbrev i32 : Shp := ⟨[(0, .row Y0), (1, .row Y2)], []⟩
abbrev o32 : Shp := ⟨[(0, .tup [.inl (.ref 0), .inl (.v .bool)])], [.sl 9 tU]⟩
noncomputable def c32 : Con := ⟨i32, o32, fun v => impl_RegPack v.1.1 v.1.2.1⟩
noncomputable def l32 : List (Nat × Con) := [(45, c45), (69, c69), (78, c78), (79, c79)]
noncomputable def C32 : Cfg := ⟨T, gam l32, hintOf [(8, [1, 2])]⟩
abbrev h32_5 : Shp := ⟨[(6, .c (.ref 0)), (21, .c (.sl false Y1)), (22, .c (.v tI)), (23, .c (.v tI))], [.sl 9 tU]⟩
noncomputable def j32 (n ℓ : Nat) (σ : St) : Option o32.V := if ℓ = 5 then jump 0 h32_5 (fun v => impl_RegPack_L5 n v.1.2.1 v.1.2.2.1 v.1.2.2.2.1 v.2.1) σ else none
theorem q32_5 (n : Nat) (v : h32_5.V) (ω : List Bool) : loopF C32 c32 Try.f32 (j32 n) 5 ω (h32_5.st 43 v) = impl_RegPack_step5 (impl_RegPack_L5 n) v.1.2.1 v.1.2.2.1 v.1.2.2.2.1 v.2.1 := by kernel_rfl
theorem e32 (n : Nat) (ω : List Bool) (v : i32.V) : enterF C32 c32 Try.f32 (j32 n) ω v = impl_RegPack_entry (impl_RegPack_L5 n) v.1.1 v.1.2.1 := by kernel_rfl
theorem s32 : SoundC Try.prog 32 c32 := sound_by (l := l32) (J := j32) (L := [5]) tOk mx Try.func32 ⟨s45, s69, s78, s79, trivial⟩ (by kernel_rfl) (by kernel_rfl)
  ⟨⟨h32_5, fun n v => impl_RegPack_L5 n v.1.2.1 v.1.2.2.1 v.1.2.2.2.1 v.2.1, fun _ => rfl, fun _ => rfl, q32_5⟩, trivial⟩ FUEL (e32 FUEL)

/-! laws_eqByteS -/
abbrev i22 : Shp := ⟨[(0, .c (.sl false tU)), (1, .c (.sl false tU))], []⟩
abbrev o22 : Shp := ⟨[(0, .c (.v .bool))], []⟩
noncomputable def c22 : Con := ⟨i22, o22, fun v => laws_eqByteS v.1.1 v.1.2.1⟩
noncomputable def l22 : List (Nat × Con) := []
noncomputable def C22 : Cfg := ⟨T, gam l22, hintOf []⟩
abbrev h22_4 : Shp := ⟨[(0, .c (.sl false tU)), (1, .c (.sl false tU)), (5, .c (.v tI))], []⟩
noncomputable def j22 (n ℓ : Nat) (σ : St) : Option o22.V := if ℓ = 4 then jump 0 h22_4 (fun v => laws_eqByteS_L4 n v.1.1 v.1.2.1 v.1.2.2.1) σ else none
theorem q22_4 (n : Nat) (v : h22_4.V) (ω : List Bool) : loopF C22 c22 Try.f22 (j22 n) 4 ω (h22_4.st 26 v) = laws_eqByteS_step4 (laws_eqByteS_L4 n) v.1.1 v.1.2.1 v.1.2.2.1 := by kernel_rfl
theorem e22 (n : Nat) (ω : List Bool) (v : i22.V) : enterF C22 c22 Try.f22 (j22 n) ω v = laws_eqByteS_entry (laws_eqByteS_L4 n) v.1.1 v.1.2.1 := by kernel_rfl
theorem s22 : SoundC Try.prog 22 c22 := sound_by (l := l22) (J := j22) (L := [4]) tOk mx Try.func22 trivial (by kernel_rfl) (by kernel_rfl)
  ⟨⟨h22_4, fun n v => laws_eqByteS_L4 n v.1.1 v.1.2.1 v.1.2.2.1, fun _ => rfl, fun _ => rfl, q22_4⟩, trivial⟩ FUEL (e22 FUEL)

/-! laws_eqIntS -/
abbrev i70 : Shp := ⟨[(0, .c (.sl false tI)), (1, .c (.sl false tI))], []⟩
abbrev o70 : Shp := ⟨[(0, .c (.v .bool))], []⟩
noncomputable def c70 : Con := ⟨i70, o70, fun v => laws_eqIntS v.1.1 v.1.2.1⟩
noncomputable def l70 : List (Nat × Con) := []
noncomputable def C70 : Cfg := ⟨T, gam l70, hintOf []⟩
abbrev h70_4 : Shp := ⟨[(0, .c (.sl false tI)), (1, .c (.sl false tI)), (5, .c (.v tI))], []⟩
noncomputable def j70 (n ℓ : Nat) (σ : St) : Option o70.V := if ℓ = 4 then jump 0 h70_4 (fun v => laws_eqIntS_L4 n v.1.1 v.1.2.1 v.1.2.2.1) σ else none
theorem q70_4 (n : Nat) (v : h70_4.V) (ω : List Bool) : loopF C70 c70 Try.f70 (j70 n) 4 ω (h70_4.st 26 v) = laws_eqIntS_step4 (laws_eqIntS_L4 n) v.1.1 v.1.2.1 v.1.2.2.1 := by kernel_rfl
theorem e70 (n : Nat) (ω : List Bool) (v : i70.V) : enterF C70 c70 Try.f70 (j70 n) ω v = laws_eqIntS_entry (laws_eqIntS_L4 n) v.1.1 v.1.2.1 := by kernel_rfl
theorem s70 : SoundC Try.prog 70 c70 := sound_by (l := l70) (J := j70) (L := [4]) tOk mx Try.func70 trivial (by kernel_rfl) (by kernel_rfl)
  ⟨⟨h70_4, fun n v => laws_eqIntS_L4 n v.1.1 v.1.2.1 v.1.2.2.1, fun _ => rfl, fun _ => rfl, q70_4⟩, trivial⟩ FUEL (e70 FUEL)

/-! laws_eqConfig -/
abbrev i23 : Shp := ⟨[(0, .row Y0), (1, .row Y0)], []⟩
abbrev o23 : Shp := ⟨[(0, .c (.v .bool))], []⟩
noncomputable def c23 : Con := ⟨i23, o23, fun v => laws_eqConfig v.1.1 v.1.2.1⟩
noncomputable def l23 : List (Nat × Con) := [(70, c70)]
noncomputable def C23 : Cfg := ⟨T, gam l23, hintOf []⟩
theorem e23 (ω : List Bool) (v : i23.V) : enterF C23 c23 Try.f23 (fun _ _ => none) ω v = laws_eqConfig v.1.1 v.1.2.1 := by kernel_rfl
theorem s23 : SoundC Try.prog 23 c23 := sound_by0 (l := l23) tOk mx Try.func23 ⟨s70, trivial⟩ (by kernel_rfl) (by kernel_rfl) e23

/-! laws_eqEra -/
abbrev i116 : Shp := ⟨[(0, .row Y1), (1, .row Y1)], []⟩
abbrev o116 : Shp := ⟨[(0, .c (.v .bool))], []⟩
noncomputable def c116 : Con := ⟨i116, o116, fun v => laws_eqEra v.1.1 v.1.2.1⟩
noncomputable def l116 : List (Nat × Con) := [(70, c70)]
noncomputable def C116 : Cfg := ⟨T, gam l116, hintOf []⟩
theorem e116 (ω : List Bool) (v : i116.V) : enterF C116 c116 Try.f116 (fun _ _ => none) ω v = laws_eqEra v.1.1 v.1.2.1 := by kernel_rfl
theorem s116 : SoundC Try.prog 116 c116 := sound_by0 (l := l116) tOk mx Try.func116 ⟨s70, trivial⟩ (by kernel_rfl) (by kernel_rfl) e116

/-! laws_eqEraS -/
abbrev i80 : Shp := ⟨[(0, .c (.sl false Y1)), (1, .c (.sl false Y1))], []⟩
abbrev o80 : Shp := ⟨[(0, .c (.v .bool))], []⟩
noncomputable def c80 : Con := ⟨i80, o80, fun v => laws_eqEraS v.1.1 v.1.2.1⟩
noncomputable def l80 : List (Nat × Con) := [(116, c116)]
noncomputable def C80 : Cfg := ⟨T, gam l80, hintOf []⟩
abbrev h80_4 : Shp := ⟨[(0, .c (.sl false Y1)), (1, .c (.sl false Y1)), (5, .c (.v tI))], []⟩
noncomputable def j80 (n ℓ : Nat) (σ : St) : Option o80.V := if ℓ = 4 then jump 0 h80_4 (fun v => laws_eqEraS_L4 n v.1.1 v.1.2.1 v.1.2.2.1) σ else none
theorem q80_4 (n : Nat) (v : h80_4.V) (ω : List Bool) : loopF C80 c80 Try.f80 (j80 n) 4 ω (h80_4.st 27 v) = laws_eqEraS_step4 (laws_eqEraS_L4 n) v.1.1 v.1.2.1 v.1.2.2.1 := by kernel_rfl
theorem e80 (n : Nat) (ω : List Bool) (v : i80.V) : enterF C80 c80 Try.f80 (j80 n) ω v = laws_eqEraS_entry (laws_eqEraS_L4 n) v.1.1 v.1.2.1 := by kernel_rfl
theorem s80 : SoundC Try.prog 80 c80 := sound_by (l := l80) (J := j80) (L := [4]) tOk mx Try.func80 ⟨s116, trivial⟩ (by kernel_rfl) (by kernel_rfl)
  ⟨⟨h80_4, fun n v => laws_eqEraS_L4 n v.1.1 v.1.2.1 v.1.2.2.1, fun _ => rfl, fun _ => rfl, q80_4⟩, trivial⟩ FUEL (e80 FUEL)

/-! laws_eqRegister -/
abbrev i33 : Shp := ⟨[(0, .row Y2), (1, .row Y2)], []⟩
abbrev o33 : Shp := ⟨[(0, .c (.v .bool))], []⟩
noncomputable def c33 : Con := ⟨i33, o33, fun v => laws_eqRegister v.1.1 v.1.2.1⟩
noncomputable def l33 : List (Nat × Con) := [(80, c80)]
noncomputable def C33 : Cfg := ⟨T, gam l33, hintOf []⟩
theorem e33 (ω : List Bool) (v : i33.V) : enterF C33 c33 Try.f33 (fun _ _ => none) ω v = laws_eqRegister v.1.1 v.1.2.1 := by kernel_rfl
theorem s33 : SoundC Try.prog 33 c33 := sound_by0 (l := l33) tOk mx Try.func33 ⟨s80, trivial⟩ (by kernel_rfl) (by kernel_rfl) e33

/-! laws_markIntS -/
abbrev i72 : Shp := ⟨[(0, .c (.ref 0)), (1, .c (.v tI))], [.sl 1 tI]⟩
abbrev o72 : Shp := ⟨[(0, .c (.v tI))], [.sl 1 tI]⟩
noncomputable def c72 : Con := ⟨i72, o72, fun v => laws_markIntS v.1.2.1 v.2.1⟩
noncomputable def l72 : List (Nat × Con) := []
noncomputable def C72 : Cfg := ⟨T, gam l72, hintOf []⟩
abbrev h72_2 : Shp := ⟨[(0, .c (.ref 0)), (1, .c (.v tI)), (5, .c (.v tI))], [.sl 1 tI]⟩
noncomputable def j72 (n ℓ : Nat) (σ : St) : Option o72.V := if ℓ = 2 then jump 1 h72_2 (fun v => laws_markIntS_L2 n v.1.2.1 v.1.2.2.1 v.2.1) σ else none
theorem q72_2 (n : Nat) (v : h72_2.V) (ω : List Bool) : loopF C72 c72 Try.f72 (j72 n) 2 ω (h72_2.st 19 v) = laws_markIntS_step2 (laws_markIntS_L2 n) v.1.2.1 v.1.2.2.1 v.2.1 := by kernel_rfl
theorem e72 (n : Nat) (ω : List Bool) (v : i72.V) : enterF C72 c72 Try.f72 (j72 n) ω v = laws_markIntS_entry (laws_markIntS_L2 n) v.1.2.1 v.2.1 := by kernel_rfl
theorem s72 : SoundC Try.prog 72 c72 := sound_by (l := l72) (J := j72) (L := [2]) tOk mx Try.func72 trivial (by kernel_rfl) (by kernel_rfl)
  ⟨⟨h72_2, fun n v => laws_markIntS_L2 n v.1.2.1 v.1.2.2.1 v.2.1, fun _ => rfl, fun _ => rfl, q72_2⟩, trivial⟩ FUEL (e72 FUEL)

/-! laws_markConfig -/
abbrev i25 : Shp := ⟨[(0, .agg [.ref 0, .v tI]), (1, .c (.v tI))], [.sl 1 tI]⟩
abbrev o25 : Shp := ⟨[(0, .c (.v tI))], [.sl 1 tI]⟩
noncomputable def c25 : Con := ⟨i25, o25, fun v => laws_markConfig v.1.1.2.1 v.1.2.1 v.2.1⟩
noncomputable def l25 : List (Nat × Con) := [(72, c72)]
noncomputable def C25 : Cfg := ⟨T, gam l25, hintOf []⟩
theorem e25 (ω : List Bool) (v : i25.V) : enterF C25 c25 Try.f25 (fun _ _ => none) ω v = laws_markConfig v.1.1.2.1 v.1.2.1 v.2.1 := by kernel_rfl
theorem s25 : SoundC Try.prog 25 c25 := sound_by0 (l := l25) tOk mx Try.func25 ⟨s72, trivial⟩ (by kernel_rfl) (by kernel_rfl) e25

/-! laws_markIntS_at_RLIBIE -/
abbrev i72x1 : Shp := ⟨[(0, .c (.refp 0 3)), (1, .c (.v tI))], [.sl 2 Y1]⟩
abbrev o72x1 : Shp := ⟨[(0, .c (.v tI))], [.sl 2 Y1]⟩
noncomputable def c72x1 : Con := ⟨i72x1, o72x1, fun v => laws_markIntS_at_RLIBIE v.1.1 v.1.2.1 v.2.1⟩
theorem s72x1 : SoundC Try.prog 72 c72x1 := lift_sound (d := 1) (q := tI) (rest := [(1, .c (.v tI))]) (outs := [(0, .c (.v tI))]) (g := c72.g) s72 (d' := 2) (r := Y1) (sz := 3) (by kernel_rfl) (fun v u h => by
    obtain ⟨⟨⟨k, j⟩, rest⟩, bx⟩ := v
    match j with
    | 0 => exact h
    | n + 1 => cases h
    )

/-! laws_markEraS -/
abbrev i81 : Shp := ⟨[(0, .c (.ref 0)), (1, .c (.v tI))], [.sl 2 Y1]⟩
abbrev o81 : Shp := ⟨[(0, .c (.v tI))], [.sl 2 Y1]⟩
noncomputable def c81 : Con := ⟨i81, o81, fun v => laws_markEraS v.1.2.1 v.2.1⟩
noncomputable def l81 : List (Nat × Con) := [(72, c72x1)]
noncomputable def C81 : Cfg := ⟨T, gam l81, hintOf []⟩
abbrev h81_2 : Shp := ⟨[(0, .c (.ref 0)), (1, .c (.v tI)), (5, .c (.v tI))], [.sl 2 Y1]⟩
noncomputable def j81 (n ℓ : Nat) (σ : St) : Option o81.V := if ℓ = 2 then jump 1 h81_2 (fun v => laws_markEraS_L2 n v.1.2.1 v.1.2.2.1 v.2.1) σ else none
theorem q81_2 (n : Nat) (v : h81_2.V) (ω : List Bool) : loopF C81 c81 Try.f81 (j81 n) 2 ω (h81_2.st 36 v) = laws_markEraS_step2 (laws_markEraS_L2 n) v.1.2.1 v.1.2.2.1 v.2.1 := by kernel_rfl
theorem e81 (n : Nat) (ω : List Bool) (v : i81.V) : enterF C81 c81 Try.f81 (j81 n) ω v = laws_markEraS_entry (laws_markEraS_L2 n) v.1.2.1 v.2.1 := by kernel_rfl
theorem s81 : SoundC Try.prog 81 c81 := sound_by (l := l81) (J := j81) (L := [2]) tOk mx Try.func81 ⟨s72x1, trivial⟩ (by kernel_rfl) (by kernel_rfl)
  ⟨⟨h81_2, fun n v => laws_markEraS_L2 n v.1.2.1 v.1.2.2.1 v.2.1, fun _ => rfl, fun _ => rfl, q81_2⟩, trivial⟩ FUEL (e81 FUEL)

/-! laws_markRegister -/
abbrev i34 : Shp := ⟨[(0, .agg [.ref 0, .v tI]), (1, .c (.v tI))], [.sl 2 Y1]⟩
abbrev o34 : Shp := ⟨[(0, .c (.v tI))], [.sl 2 Y1]⟩
noncomputable def c34 : Con := ⟨i34, o34, fun v => laws_markRegister v.1.1.2.1 v.1.2.1 v.2.1⟩
noncomputable def l34 : List (Nat × Con) := [(81, c81)]
noncomputable def C34 : Cfg := ⟨T, gam l34, hintOf []⟩
theorem e34 (ω : List Bool) (v : i34.V) : enterF C34 c34 Try.f34 (fun _ _ => none) ω v = laws_markRegister v.1.1.2.1 v.1.2.1 v.2.1 := by kernel_rfl
theorem s34 : SoundC Try.prog 34 c34 := sound_by0 (l := l34) tOk mx Try.func34 ⟨s81, trivial⟩ (by kernel_rfl) (by kernel_rfl) e34

/-! laws_markByteS -/
abbrev i27 : Shp := ⟨[(0, .c (.ref 0)), (1, .c (.v tI))], [.sl 1 tU]⟩
abbrev o27 : Shp := ⟨[(0, .c (.v tI))], [.sl 1 tU]⟩
noncomputable def c27 : Con := ⟨i27, o27, fun v => laws_markByteS v.1.2.1 v.2.1⟩
noncomputable def l27 : List (Nat × Con) := []
noncomputable def C27 : Cfg := ⟨T, gam l27, hintOf []⟩
abbrev h27_2 : Shp := ⟨[(0, .c (.ref 0)), (1, .c (.v tI)), (5, .c (.v tI))], [.sl 1 tU]⟩
noncomputable def j27 (n ℓ : Nat) (σ : St) : Option o27.V := if ℓ = 2 then jump 1 h27_2 (fun v => laws_markByteS_L2 n v.1.2.1 v.1.2.2.1 v.2.1) σ else none
theorem q27_2 (n : Nat) (v : h27_2.V) (ω : List Bool) : loopF C27 c27 Try.f27 (j27 n) 2 ω (h27_2.st 20 v) = laws_markByteS_step2 (laws_markByteS_L2 n) v.1.2.1 v.1.2.2.1 v.2.1 := by kernel_rfl
theorem e27 (n : Nat) (ω : List Bool) (v : i27.V) : enterF C27 c27 Try.f27 (j27 n) ω v = laws_markByteS_entry (laws_markByteS_L2 n) v.1.2.1 v.2.1 := by kernel_rfl
theorem s27 : SoundC Try.prog 27 c27 := sound_by (l := l27) (J := j27) (L := [2]) tOk mx Try.func27 trivial (by kernel_rfl) (by kernel_rfl)
  ⟨⟨h27_2, fun n v => laws_markByteS_L2 n v.1.2.1 v.1.2.2.1 v.2.1, fun _ => rfl, fun _ => rfl, q27_2⟩, trivial⟩ FUEL (e27 FUEL)

/-! laws_heldByteS -/
abbrev i28 : Shp := ⟨[(0, .c (.sl false tU)), (1, .c (.v tI))], []⟩
abbrev o28 : Shp := ⟨[(0, .c (.v tI))], []⟩
noncomputable def c28 : Con := ⟨i28, o28, fun v => laws_heldByteS v.1.1 v.1.2.1⟩
noncomputable def l28 : List (Nat × Con) := []
noncomputable def C28 : Cfg := ⟨T, gam l28, hintOf []⟩
abbrev h28_2 : Shp := ⟨[(0, .c (.sl false tU)), (1, .c (.v tI)), (5, .c (.v tI))], []⟩
noncomputable def j28 (n ℓ : Nat) (σ : St) : Option o28.V := if ℓ = 2 then jump 0 h28_2 (fun v => laws_heldByteS_L2 n v.1.1 v.1.2.1 v.1.2.2.1) σ else none
theorem q28_2 (n : Nat) (v : h28_2.V) (ω : List Bool) : loopF C28 c28 Try.f28 (j28 n) 2 ω (h28_2.st 22 v) = laws_heldByteS_step2 (laws_heldByteS_L2 n) v.1.1 v.1.2.1 v.1.2.2.1 := by kernel_rfl
theorem e28 (n : Nat) (ω : List Bool) (v : i28.V) : enterF C28 c28 Try.f28 (j28 n) ω v = laws_heldByteS_entry (laws_heldByteS_L2 n) v.1.1 v.1.2.1 := by kernel_rfl
theorem s28 : SoundC Try.prog 28 c28 := sound_by (l := l28) (J := j28) (L := [2]) tOk mx Try.func28 trivial (by kernel_rfl) (by kernel_rfl)
  ⟨⟨h28_2, fun n v => laws_heldByteS_L2 n v.1.1 v.1.2.1 v.1.2.2.1, fun _ => rfl, fun _ => rfl, q28_2⟩, trivial⟩ FUEL (e28 FUEL)

/-! laws_FnExactRegPack -/
abbrev i5 : Shp := ⟨[(0, .row Y0), (1, .row Y2)], []⟩
abbrev o5 : Shp := ⟨[(0, .c (.v .bool))], []⟩
noncomputable def c5 : Con := ⟨i5, o5, fun v => laws_FnExactRegPack v.1.1 v.1.2.1⟩
noncomputable def l5 : List (Nat × Con) := [(16, c16), (19, c19), (22, c22), (23, c23), (25, c25), (27, c27), (28, c28), (29, c29), (30, c30), (31, c31), (32, c32), (33, c33), (34, c34)]
noncomputable def C5 : Cfg := ⟨T, gam l5, hintOf [(8, [0, 1]), (14, [0, 1, 2, 3, 4, 5, 6, 7, 8, 9]), (16, [0, 1, 2, 3, 4, 5, 6, 7, 8, 9, 10]), (31, [0, 1, 2, 3, 4, 5, 6, 7, 8, 9, 10, 11, 12, 13, 14])]⟩
theorem e5 (ω : List Bool) (v : i5.V) : enterF C5 c5 Try.f5 (fun _ _ => none) ω v = laws_FnExactRegPack v.1.1 v.1.2.1 := by kernel_rfl
theorem s5 : SoundC Try.prog 5 c5 := sound_by0 (l := l5) tOk mx Try.func5 ⟨s16, s19, s22, s23, s25, s27, s28, s29, s30, s31, s32, s33, s34, trivial⟩ (by kernel_rfl) (by kernel_rfl) e5
end Go.Proofs.Ytphnckckgdfheaa.Wk
