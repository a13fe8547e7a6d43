/- Each function computes what was printed: by the kernel. -/
import Derived.Test.YtphnckckgdfheaaG0
import Derived.Test.YtphnckckgdfheaaProg
import Derived.KernelRfl
set_option linter.unusedVariables false
set_option linter.unusedSimpArgs false
namespace Go.Proofs.Ytphnckckgdfheaa.Wk
open Go Go.Fw Go.M Go.Proofs
abbrev tI : Ty := .int .i64
abbrev tU : Ty := .int .u8
abbrev Y0 : Ty := (.cons (.sl tI) (.cons tI .unit))
abbrev Y1 : Ty := (.cons (.sl tI) (.cons .bool (.cons tI .unit)))
abbrev Y2 : Ty := (.cons (.sl Y1) (.cons tI .unit))
abbrev Y3 : Ty := (.cons (.sl tU) (.cons tI (.cons .bool .unit)))
def T : Tab := [(3, ⟨1, 8, .int .i64, some tI⟩),
  (4, ⟨1, 1, .bool, some .bool⟩),
  (5, ⟨1, 1, .int .u8, some tU⟩),
  (22, ⟨1, 24, .sl 5, some (.sl tU)⟩),
  (34, ⟨1, 24, .sl 3, some (.sl tI)⟩),
  (36, ⟨2, 32, .st [(0, 34), (1, 3)], some Y0⟩),
  (43, ⟨2, 32, .st [(0, 34), (1, 3)], some Y0⟩),
  (61, ⟨1, 24, .sl 115, some (.sl Y1)⟩),
  (63, ⟨2, 32, .st [(0, 61), (1, 3)], some Y2⟩),
  (83, ⟨1, 8, .ptr 85, none⟩),
  (85, ⟨3, 40, .st [(0, 22), (1, 3), (2, 4)], some Y3⟩),
  (95, ⟨1, 8, .ptr 97, none⟩),
  (97, ⟨3, 40, .st [(0, 22), (1, 3), (2, 4)], some Y3⟩),
  (115, ⟨3, 40, .st [(0, 34), (1, 4), (2, 3)], some Y1⟩),
  (149, ⟨1, 24, .sl 4, some (.sl .bool)⟩)]
theorem tOk : TabOk Try.prog T := tabOk_of_check (by kernel_rfl)
theorem mx : Try.prog.follows .mixedOrders = true := by kernel_rfl

/-! laws_szIntS -/
abbrev i62 : Shp := ⟨[(0, .c (.sl false tI)), (1, .c (.v tI))], []⟩
abbrev o62 : Shp := ⟨[(0, .c (.v tI))], []⟩
noncomputable def c62 : Con := ⟨i62, o62, fun v => laws_szIntS v.1.1 v.1.2.1⟩
noncomputable def l62 : List (Nat × Con) := []
noncomputable def C62 : Cfg := ⟨T, gam l62, hintOf []⟩
theorem e62 (ω : List Bool) (v : i62.V) : enterF C62 c62 Try.f62 (fun _ _ => none) ω v = laws_szIntS v.1.1 v.1.2.1 := by kernel_rfl
theorem s62 : SoundC Try.prog 62 c62 := sound_by0 (l := l62) tOk mx Try.func62 trivial (by kernel_rfl) (by kernel_rfl) e62

/-! laws_szConfig -/
abbrev i16 : Shp := ⟨[(0, .row Y0), (1, .c (.v tI))], []⟩
abbrev o16 : Shp := ⟨[(0, .c (.v tI))], []⟩
noncomputable def c16 : Con := ⟨i16, o16, fun v => laws_szConfig v.1.1 v.1.2.1⟩
noncomputable def l16 : List (Nat × Con) := [(62, c62)]
noncomputable def C16 : Cfg := ⟨T, gam l16, hintOf []⟩
theorem e16 (ω : List Bool) (v : i16.V) : enterF C16 c16 Try.f16 (fun _ _ => none) ω v = laws_szConfig v.1.1 v.1.2.1 := by kernel_rfl
theorem s16 : SoundC Try.prog 16 c16 := sound_by0 (l := l16) tOk mx Try.func16 ⟨s62, trivial⟩ (by kernel_rfl) (by kernel_rfl) e16

/-! laws_toIntS -/
abbrev i66 : Shp := ⟨[(0, .c (.sl false tI))], []⟩
abbrev o66 : Shp := ⟨[(0, .c (.ref 0))], [.sl 9 tI]⟩
noncomputable def c66 : Con := ⟨i66, o66, fun v => laws_toIntS v.1.1⟩
noncomputable def l66 : List (Nat × Con) := []
noncomputable def C66 : Cfg := ⟨T, gam l66, hintOf []⟩
abbrev h66_3 : Shp := ⟨[(0, .c (.sl false tI)), (3, .c (.ref 0)), (4, .c (.v tI))], [.sl 9 tI]⟩
noncomputable def j66 (n ℓ : Nat) (σ : St) : Option o66.V := if ℓ = 3 then jump 0 h66_3 (fun v => laws_toIntS_L3 n v.1.1 v.1.2.2.1 v.2.1) σ else none
theorem q66_3 (n : Nat) (v : h66_3.V) (ω : List Bool) : loopF C66 c66 Try.f66 (j66 n) 3 ω (h66_3.st 22 v) = laws_toIntS_step3 (laws_toIntS_L3 n) v.1.1 v.1.2.2.1 v.2.1 := by kernel_rfl
theorem e66 (n : Nat) (ω : List Bool) (v : i66.V) : enterF C66 c66 Try.f66 (j66 n) ω v = laws_toIntS_entry (laws_toIntS_L3 n) v.1.1 := by kernel_rfl
theorem s66 : SoundC Try.prog 66 c66 := sound_by (l := l66) (J := j66) (L := [3]) tOk mx Try.func66 trivial (by kernel_rfl) (by kernel_rfl)
  ⟨⟨h66_3, fun n v => laws_toIntS_L3 n v.1.1 v.1.2.2.1 v.2.1, fun _ => rfl, fun _ => rfl, q66_3⟩, trivial⟩ FUEL (e66 FUEL)

/-! laws_toConfig -/
abbrev i19 : Shp := ⟨[(0, .row Y0)], []⟩
abbrev o19 : Shp := ⟨[(0, .agg [.ref 0, .v tI])], [.sl 9 tI]⟩
noncomputable def c19 : Con := ⟨i19, o19, fun v => laws_toConfig v.1.1⟩
noncomputable def l19 : List (Nat × Con) := [(66, c66)]
noncomputable def C19 : Cfg := ⟨T, gam l19, hintOf []⟩
theorem e19 (ω : List Bool) (v : i19.V) : enterF C19 c19 Try.f19 (fun _ _ => none) ω v = laws_toConfig v.1.1 := by kernel_rfl
theorem s19 : SoundC Try.prog 19 c19 := sound_by0 (l := l19) tOk mx Try.func19 ⟨s66, trivial⟩ (by kernel_rfl) (by kernel_rfl) e19

/-! laws_toByteS -/
abbrev i36 : Shp := ⟨[(0, .c (.sl false tU))], []⟩
abbrev o36 : Shp := ⟨[(0, .c (.ref 0))], [.sl 9 tU]⟩
noncomputable def c36 : Con := ⟨i36, o36, fun v => laws_toByteS v.1.1⟩
noncomputable def l36 : List (Nat × Con) := []
noncomputable def C36 : Cfg := ⟨T, gam l36, hintOf []⟩
abbrev h36_3 : Shp := ⟨[(0, .c (.sl false tU)), (3, .c (.ref 0)), (4, .c (.v tI))], [.sl 9 tU]⟩
noncomputable def j36 (n ℓ : Nat) (σ : St) : Option o36.V := if ℓ = 3 then jump 0 h36_3 (fun v => laws_toByteS_L3 n v.1.1 v.1.2.2.1 v.2.1) σ else none
theorem q36_3 (n : Nat) (v : h36_3.V) (ω : List Bool) : loopF C36 c36 Try.f36 (j36 n) 3 ω (h36_3.st 22 v) = laws_toByteS_step3 (laws_toByteS_L3 n) v.1.1 v.1.2.2.1 v.2.1 := by kernel_rfl
theorem e36 (n : Nat) (ω : List Bool) (v : i36.V) : enterF C36 c36 Try.f36 (j36 n) ω v = laws_toByteS_entry (laws_toByteS_L3 n) v.1.1 := by kernel_rfl
theorem s36 : SoundC Try.prog 36 c36 := sound_by (l := l36) (J := j36) (L := [3]) tOk mx Try.func36 trivial (by kernel_rfl) (by kernel_rfl)
  ⟨⟨h36_3, fun n v => laws_toByteS_L3 n v.1.1 v.1.2.2.1 v.2.1, fun _ => rfl, fun _ => rfl, q36_3⟩, trivial⟩ FUEL (e36 FUEL)

/-! spec_GetNum -/
abbrev i98 : Shp := ⟨[(0, .c (.sl false tU)), (1, .c (.v tI))], []⟩
abbrev o98 : Shp := ⟨[(0, .tup [.inl (.v tI), .inl (.v tI), .inl (.v .bool)])], []⟩
noncomputable def c98 : Con := ⟨i98, o98, fun v => spec_GetNum v.1.1 v.1.2.1⟩
noncomputable def l98 : List (Nat × Con) := []
noncomputable def C98 : Cfg := ⟨T, gam l98, hintOf []⟩
abbrev h98_6 : Shp := ⟨[(0, .c (.sl false tU)), (1, .c (.v tI)), (7, .c (.v tI)), (8, .c (.v tI)), (9, .c (.v tI))], []⟩
noncomputable def j98 (n ℓ : Nat) (σ : St) : Option o98.V := if ℓ = 6 then jump 0 h98_6 (fun v => spec_GetNum_L6 n v.1.1 v.1.2.1 v.1.2.2.1 v.1.2.2.2.1 v.1.2.2.2.2.1) σ else none
theorem q98_6 (n : Nat) (v : h98_6.V) (ω : List Bool) : loopF C98 c98 Try.f98 (j98 n) 6 ω (h98_6.st 59 v) = spec_GetNum_step6 (spec_GetNum_L6 n) v.1.1 v.1.2.1 v.1.2.2.1 v.1.2.2.2.1 v.1.2.2.2.2.1 := by kernel_rfl
theorem e98 (n : Nat) (ω : List Bool) (v : i98.V) : enterF C98 c98 Try.f98 (j98 n) ω v = spec_GetNum_entry (spec_GetNum_L6 n) v.1.1 v.1.2.1 := by kernel_rfl
theorem s98 : SoundC Try.prog 98 c98 := sound_by (l := l98) (J := j98) (L := [6]) tOk mx Try.func98 trivial (by kernel_rfl) (by kernel_rfl)
  ⟨⟨h98_6, fun n v => spec_GetNum_L6 n v.1.1 v.1.2.1 v.1.2.2.1 v.1.2.2.2.1 v.1.2.2.2.2.1, fun _ => rfl, fun _ => rfl, q98_6⟩, trivial⟩ FUEL (e98 FUEL)

/-! spec_l17Num -/
abbrev i59 : Shp := ⟨[(0, .c (.ptr 0 0))], [.mem [.ref 1, .v tI, .v .bool], .sl 1 tU]⟩
abbrev o59 : Shp := ⟨[(0, .c (.v tI))], [.mem [.ref 1, .v tI, .v .bool], .sl 1 tU]⟩
noncomputable def c59 : Con := ⟨i59, o59, fun v => spec_l17Num v.2.1.2.1 v.2.1.2.2.1 v.2.2.1⟩
noncomputable def l59 : List (Nat × Con) := [(98, c98)]
noncomputable def C59 : Cfg := ⟨T, gam l59, hintOf [(1, [0, 1])]⟩
theorem e59 (ω : List Bool) (v : i59.V) : enterF C59 c59 Try.f59 (fun _ _ => none) ω v = spec_l17Num v.2.1.2.1 v.2.1.2.2.1 v.2.2.1 := by kernel_rfl
theorem s59 : SoundC Try.prog 59 c59 := sound_by0 (l := l59) tOk mx Try.func59 ⟨s98, trivial⟩ (by kernel_rfl) (by kernel_rfl) e59

/-! spec_l17Nums -/
abbrev i82 : Shp := ⟨[(0, .c (.ptr 0 0))], [.mem [.ref 1, .v tI, .v .bool], .sl 1 tU]⟩
abbrev o82 : Shp := ⟨[(0, .c (.ref 2))], [.mem [.ref 1, .v tI, .v .bool], .sl 1 tU, .sl 9 tI]⟩
noncomputable def c82 : Con := ⟨i82, o82, fun v => spec_l17Nums v.2.1.2.1 v.2.1.2.2.1 v.2.2.1⟩
noncomputable def l82 : List (Nat × Con) := [(59, c59)]
noncomputable def C82 : Cfg := ⟨T, gam l82, hintOf []⟩
abbrev h82_4 : Shp := ⟨[(0, .c (.ptr 0 0)), (3, .c (.v tI)), (4, .c (.ref 2)), (5, .c (.v tI))], [.mem [.ref 1, .v tI, .v .bool], .sl 1 tU, .sl 9 tI]⟩
noncomputable def j82 (n ℓ : Nat) (σ : St) : Option o82.V := if ℓ = 4 then jump 2 h82_4 (fun v => spec_l17Nums_L4 n v.1.2.1 v.1.2.2.2.1 v.2.1.2.1 v.2.1.2.2.1 v.2.2.1 v.2.2.2.1) σ else none
theorem q82_4 (n : Nat) (v : h82_4.V) (ω : List Bool) : loopF C82 c82 Try.f82 (j82 n) 4 ω (h82_4.st 26 v) = spec_l17Nums_step4 (spec_l17Nums_L4 n) v.1.2.1 v.1.2.2.2.1 v.2.1.2.1 v.2.1.2.2.1 v.2.2.1 v.2.2.2.1 := by kernel_rfl
theorem e82 (n : Nat) (ω : List Bool) (v : i82.V) : enterF C82 c82 Try.f82 (j82 n) ω v = spec_l17Nums_entry (spec_l17Nums_L4 n) v.2.1.2.1 v.2.1.2.2.1 v.2.2.1 := by kernel_rfl
theorem s82 : SoundC Try.prog 82 c82 := sound_by (l := l82) (J := j82) (L := [4]) tOk mx Try.func82 ⟨s59, trivial⟩ (by kernel_rfl) (by kernel_rfl)
  ⟨⟨h82_4, fun n v => spec_l17Nums_L4 n v.1.2.1 v.1.2.2.2.1 v.2.1.2.1 v.2.1.2.2.1 v.2.2.1 v.2.2.2.1, fun _ => rfl, fun _ => rfl, q82_4⟩, trivial⟩ FUEL (e82 FUEL)

/-! spec_l17End -/
abbrev i61 : Shp := ⟨[(0, .c (.ptr 0 0))], [.mem [.ref 1, .v tI, .v .bool], .sl 1 tU]⟩
abbrev o61 : Shp := ⟨[(0, .c (.v .bool))], [.mem [.ref 1, .v tI, .v .bool], .sl 1 tU]⟩
noncomputable def c61 : Con := ⟨i61, o61, fun v => spec_l17End v.2.1.2.1 v.2.1.2.2.1 v.2.2.1⟩
noncomputable def l61 : List (Nat × Con) := []
noncomputable def C61 : Cfg := ⟨T, gam l61, hintOf [(1, [0, 1])]⟩
theorem e61 (ω : List Bool) (v : i61.V) : enterF C61 c61 Try.f61 (fun _ _ => none) ω v = spec_l17End v.2.1.2.1 v.2.1.2.2.1 v.2.2.1 := by kernel_rfl
theorem s61 : SoundC Try.prog 61 c61 := sound_by0 (l := l61) tOk mx Try.func61 trivial (by kernel_rfl) (by kernel_rfl) e61

/-! spec_l1In -/
abbrev i102 : Shp := ⟨[(0, .c (.v tI)), (1, .c (.v tI)), (2, .c (.v tI))], []⟩
abbrev o102 : Shp := ⟨[(0, .c (.v .bool))], []⟩
noncomputable def c102 : Con := ⟨i102, o102, fun v => spec_l1In v.1.1 v.1.2.1 v.1.2.2.1⟩
noncomputable def l102 : List (Nat × Con) := []
noncomputable def C102 : Cfg := ⟨T, gam l102, hintOf []⟩
theorem e102 (ω : List Bool) (v : i102.V) : enterF C102 c102 Try.f102 (fun _ _ => none) ω v = spec_l1In v.1.1 v.1.2.1 v.1.2.2.1 := by kernel_rfl
theorem s102 : SoundC Try.prog 102 c102 := sound_by0 (l := l102) tOk mx Try.func102 trivial (by kernel_rfl) (by kernel_rfl) e102

/-! spec_ConfigOk -/
abbrev i101 : Shp := ⟨[(0, .row Y0)], []⟩
abbrev o101 : Shp := ⟨[(0, .c (.v .bool))], []⟩
noncomputable def c101 : Con := ⟨i101, o101, fun v => spec_ConfigOk v.1.1⟩
noncomputable def l101 : List (Nat × Con) := [(102, c102)]
noncomputable def C101 : Cfg := ⟨T, gam l101, hintOf []⟩
abbrev h101_4 : Shp := ⟨[(1, .c (.ptr 0 0)), (3, .c (.v tI))], [.mem [.sl false tI, .v tI]]⟩
noncomputable def j101 (n ℓ : Nat) (σ : St) : Option o101.V := if ℓ = 4 then jump 0 h101_4 (fun v => spec_ConfigOk_L4 n v.1.2.1 v.2.1.1 v.2.1.2.1) σ else none
theorem q101_4 (n : Nat) (v : h101_4.V) (ω : List Bool) : loopF C101 c101 Try.f101 (j101 n) 4 ω (h101_4.st 29 v) = spec_ConfigOk_step4 (spec_ConfigOk_L4 n) v.1.2.1 v.2.1.1 v.2.1.2.1 := by kernel_rfl
theorem e101 (n : Nat) (ω : List Bool) (v : i101.V) : enterF C101 c101 Try.f101 (j101 n) ω v = spec_ConfigOk_entry (spec_ConfigOk_L4 n) v.1.1 := by kernel_rfl
theorem s101 : SoundC Try.prog 101 c101 := sound_by (l := l101) (J := j101) (L := [4]) tOk mx Try.func101 ⟨s102, trivial⟩ (by kernel_rfl) (by kernel_rfl)
  ⟨⟨h101_4, fun n v => spec_ConfigOk_L4 n v.1.2.1 v.2.1.1 v.2.1.2.1, fun _ => rfl, fun _ => rfl, q101_4⟩, trivial⟩ FUEL (e101 FUEL)

/-! spec_PlaceOk -/
abbrev i111 : Shp := ⟨[(0, .c (.v tI))], []⟩
abbrev o111 : Shp := ⟨[(0, .c (.v .bool))], []⟩
noncomputable def c111 : Con := ⟨i111, o111, fun v => spec_PlaceOk v.1.1⟩
noncomputable def l111 : List (Nat × Con) := [(102, c102)]
noncomputable def C111 : Cfg := ⟨T, gam l111, hintOf []⟩
theorem e111 (ω : List Bool) (v : i111.V) : enterF C111 c111 Try.f111 (fun _ _ => none) ω v = spec_PlaceOk v.1.1 := by kernel_rfl
theorem s111 : SoundC Try.prog 111 c111 := sound_by0 (l := l111) tOk mx Try.func111 ⟨s102, trivial⟩ (by kernel_rfl) (by kernel_rfl) e111

/-! spec_EpochOf -/
abbrev i112 : Shp := ⟨[(0, .c (.v tI))], []⟩
abbrev o112 : Shp := ⟨[(0, .c (.v tI))], []⟩
noncomputable def c112 : Con := ⟨i112, o112, fun v => spec_EpochOf v.1.1⟩
noncomputable def l112 : List (Nat × Con) := [(111, c111)]
noncomputable def C112 : Cfg := ⟨T, gam l112, hintOf []⟩
theorem e112 (ω : List Bool) (v : i112.V) : enterF C112 c112 Try.f112 (fun _ _ => none) ω v = spec_EpochOf v.1.1 := by kernel_rfl
theorem s112 : SoundC Try.prog 112 c112 := sound_by0 (l := l112) tOk mx Try.func112 ⟨s111, trivial⟩ (by kernel_rfl) (by kernel_rfl) e112

/-! spec_l4Asc -/
abbrev i120 : Shp := ⟨[(0, .c (.sl false tI)), (1, .c (.v tI)), (2, .c (.v tI))], []⟩
abbrev o120 : Shp := ⟨[(0, .c (.v .bool))], []⟩
noncomputable def c120 : Con := ⟨i120, o120, fun v => spec_l4Asc v.1.1 v.1.2.1 v.1.2.2.1⟩
noncomputable def l120 : List (Nat × Con) := [(102, c102)]
noncomputable def C120 : Cfg := ⟨T, gam l120, hintOf []⟩
abbrev h120_2 : Shp := ⟨[(0, .c (.sl false tI)), (1, .c (.v tI)), (2, .c (.v tI)), (7, .c (.v tI))], []⟩
noncomputable def j120 (n ℓ : Nat) (σ : St) : Option o120.V := if ℓ = 2 then jump 0 h120_2 (fun v => spec_l4Asc_L2 n v.1.1 v.1.2.1 v.1.2.2.1 v.1.2.2.2.1) σ else none
theorem q120_2 (n : Nat) (v : h120_2.V) (ω : List Bool) : loopF C120 c120 Try.f120 (j120 n) 2 ω (h120_2.st 38 v) = spec_l4Asc_step2 (spec_l4Asc_L2 n) v.1.1 v.1.2.1 v.1.2.2.1 v.1.2.2.2.1 := by kernel_rfl
theorem e120 (n : Nat) (ω : List Bool) (v : i120.V) : enterF C120 c120 Try.f120 (j120 n) ω v = spec_l4Asc_entry (spec_l4Asc_L2 n) v.1.1 v.1.2.1 v.1.2.2.1 := by kernel_rfl
theorem s120 : SoundC Try.prog 120 c120 := sound_by (l := l120) (J := j120) (L := [2]) tOk mx Try.func120 ⟨s102, trivial⟩ (by kernel_rfl) (by kernel_rfl)
  ⟨⟨h120_2, fun n v => spec_l4Asc_L2 n v.1.1 v.1.2.1 v.1.2.2.1 v.1.2.2.2.1, fun _ => rfl, fun _ => rfl, q120_2⟩, trivial⟩ FUEL (e120 FUEL)

/-! spec_NodesOk -/
abbrev i103 : Shp := ⟨[(0, .row Y0), (1, .c (.sl false tI))], []⟩
abbrev o103 : Shp := ⟨[(0, .c (.v .bool))], []⟩
noncomputable def c103 : Con := ⟨i103, o103, fun v => spec_NodesOk v.1.1 v.1.2.1⟩
noncomputable def l103 : List (Nat × Con) := [(101, c101), (120, c120)]
noncomputable def C103 : Cfg := ⟨T, gam l103, hintOf []⟩
theorem e103 (ω : List Bool) (v : i103.V) : enterF C103 c103 Try.f103 (fun _ _ => none) ω v = spec_NodesOk v.1.1 v.1.2.1 := by kernel_rfl
theorem s103 : SoundC Try.prog 103 c103 := sound_by0 (l := l103) tOk mx Try.func103 ⟨s101, s120, trivial⟩ (by kernel_rfl) (by kernel_rfl) e103

/-! spec_l4Span -/
abbrev i118 : Shp := ⟨[(0, .row Y0), (1, .c (.sl false tI))], []⟩
abbrev o118 : Shp := ⟨[(0, .c (.v tI))], []⟩
noncomputable def c118 : Con := ⟨i118, o118, fun v => spec_l4Span v.1.1 v.1.2.1⟩
noncomputable def l118 : List (Nat × Con) := []
noncomputable def C118 : Cfg := ⟨T, gam l118, hintOf [(6, [0, 1])]⟩
abbrev h118_4 : Shp := ⟨[(1, .c (.sl false tI)), (2, .c (.ptr 0 0)), (5, .c (.ref 1)), (6, .c (.v tI)), (7, .c (.v tI))], [.mem [.sl false tI, .v tI], .sl 9 .bool]⟩
noncomputable def j118 (n ℓ : Nat) (σ : St) : Option o118.V := if ℓ = 4 then jump 0 h118_4 (fun v => spec_l4Span_L4 n v.1.1 v.1.2.2.2.1 v.1.2.2.2.2.1 v.2.1.1 v.2.1.2.1 v.2.2.1) σ else none
theorem q118_4 (n : Nat) (v : h118_4.V) (ω : List Bool) : loopF C118 c118 Try.f118 (j118 n) 4 ω (h118_4.st 35 v) = spec_l4Span_step4 (spec_l4Span_L4 n) v.1.1 v.1.2.2.2.1 v.1.2.2.2.2.1 v.2.1.1 v.2.1.2.1 v.2.2.1 := by kernel_rfl
theorem e118 (n : Nat) (ω : List Bool) (v : i118.V) : enterF C118 c118 Try.f118 (j118 n) ω v = spec_l4Span_entry (spec_l4Span_L4 n) v.1.1 v.1.2.1 := by kernel_rfl
theorem s118 : SoundC Try.prog 118 c118 := sound_by (l := l118) (J := j118) (L := [4]) tOk mx Try.func118 trivial (by kernel_rfl) (by kernel_rfl)
  ⟨⟨h118_4, fun n v => spec_l4Span_L4 n v.1.1 v.1.2.2.2.1 v.1.2.2.2.2.1 v.2.1.1 v.2.1.2.1 v.2.2.1, fun _ => rfl, fun _ => rfl, q118_4⟩, trivial⟩ FUEL (e118 FUEL)

/-! spec_Holds -/
abbrev i86 : Shp := ⟨[(0, .row Y0), (1, .c (.sl false tI))], []⟩
abbrev o86 : Shp := ⟨[(0, .c (.v .bool))], []⟩
noncomputable def c86 : Con := ⟨i86, o86, fun v => spec_Holds v.1.1 v.1.2.1⟩
noncomputable def l86 : List (Nat × Con) := [(103, c103), (118, c118)]
noncomputable def C86 : Cfg := ⟨T, gam l86, hintOf [(1, [0])]⟩
theorem e86 (ω : List Bool) (v : i86.V) : enterF C86 c86 Try.f86 (fun _ _ => none) ω v = spec_Holds v.1.1 v.1.2.1 := by kernel_rfl
theorem s86 : SoundC Try.prog 86 c86 := sound_by0 (l := l86) tOk mx Try.func86 ⟨s103, s118, trivial⟩ (by kernel_rfl) (by kernel_rfl) e86

/-! spec_RegOk -/
abbrev i75 : Shp := ⟨[(0, .row Y0), (1, .row Y2)], []⟩
abbrev o75 : Shp := ⟨[(0, .c (.v .bool))], []⟩
noncomputable def c75 : Con := ⟨i75, o75, fun v => spec_RegOk v.1.1 v.1.2.1⟩
noncomputable def l75 : List (Nat × Con) := [(86, c86), (101, c101), (102, c102), (111, c111), (112, c112)]
noncomputable def C75 : Cfg := ⟨T, gam l75, hintOf []⟩
abbrev h75_5 : Shp := ⟨[(2, .c (.ptr 0 0)), (3, .c (.ptr 1 0)), (5, .c (.v tI)), (6, .c (.v tI))], [.mem [.sl false tI, .v tI], .mem [.sl false Y1, .v tI]]⟩
noncomputable def j75 (n ℓ : Nat) (σ : St) : Option o75.V := if ℓ = 5 then jump 0 h75_5 (fun v => spec_RegOk_L5 n v.1.2.2.1 v.1.2.2.2.1 v.2.1.1 v.2.1.2.1 v.2.2.1.1 v.2.2.1.2.1) σ else none
theorem q75_5 (n : Nat) (v : h75_5.V) (ω : List Bool) : loopF C75 c75 Try.f75 (j75 n) 5 ω (h75_5.st 89 v) = spec_RegOk_step5 (spec_RegOk_L5 n) v.1.2.2.1 v.1.2.2.2.1 v.2.1.1 v.2.1.2.1 v.2.2.1.1 v.2.2.1.2.1 := by kernel_rfl
theorem e75 (n : Nat) (ω : List Bool) (v : i75.V) : enterF C75 c75 Try.f75 (j75 n) ω v = spec_RegOk_entry (spec_RegOk_L5 n) v.1.1 v.1.2.1 := by kernel_rfl
theorem s75 : SoundC Try.prog 75 c75 := sound_by (l := l75) (J := j75) (L := [5]) tOk mx Try.func75 ⟨s86, s101, s102, s111, s112, trivial⟩ (by kernel_rfl) (by kernel_rfl)
  ⟨⟨h75_5, fun n v => spec_RegOk_L5 n v.1.2.2.1 v.1.2.2.2.1 v.2.1.1 v.2.1.2.1 v.2.2.1.1 v.2.2.1.2.1, fun _ => rfl, fun _ => rfl, q75_5⟩, trivial⟩ FUEL (e75 FUEL)

/-! spec_RegRead -/
abbrev i35 : Shp := ⟨[(0, .row Y0), (1, .c (.ref 0))], [.sl 1 tU]⟩
abbrev o35 : Shp := ⟨[(0, .tup [.inr [.ref 1, .v tI], .inl (.v .bool)])], [.sl 1 tU, .sl 9 Y1]⟩
noncomputable def c35 : Con := ⟨i35, o35, fun v => spec_RegRead v.1.1 v.2.1⟩
noncomputable def l35 : List (Nat × Con) := [(59, c59), (61, c61), (75, c75), (82, c82)]
noncomputable def C35 : Cfg := ⟨T, gam l35, hintOf []⟩
abbrev h35_5 : Shp := ⟨[(2, .c (.ptr 1 0)), (4, .c (.ptr 2 0)), (6, .c (.ptr 4 0)), (7, .c (.ptr 5 0)), (8, .c (.v tI)), (9, .c (.v tI))], [.sl 1 tU, .mem [.sl false tI, .v tI], .mem [.ref 3, .v tI], .sl 9 Y1, .mem [.ref 0, .v tI, .v .bool], .mem [.ref 6, .v tI], .sl 9 Y1]⟩
noncomputable def j35 (n ℓ : Nat) (σ : St) : Option o35.V := if ℓ = 5 then jump 1 h35_5 (fun v => spec_RegRead_L5 n v.1.2.2.2.2.1 v.1.2.2.2.2.2.1 v.2.1 v.2.2.1.1 v.2.2.1.2.1 v.2.2.2.1.2.1 v.2.2.2.2.1 v.2.2.2.2.2.1.2.1 v.2.2.2.2.2.1.2.2.1 v.2.2.2.2.2.2.1.2.1 v.2.2.2.2.2.2.2.1) σ else none
theorem q35_5 (n : Nat) (v : h35_5.V) (ω : List Bool) : loopF C35 c35 Try.f35 (j35 n) 5 ω (h35_5.st 70 v) = spec_RegRead_step5 (spec_RegRead_L5 n) v.1.2.2.2.2.1 v.1.2.2.2.2.2.1 v.2.1 v.2.2.1.1 v.2.2.1.2.1 v.2.2.2.1.2.1 v.2.2.2.2.1 v.2.2.2.2.2.1.2.1 v.2.2.2.2.2.1.2.2.1 v.2.2.2.2.2.2.1.2.1 v.2.2.2.2.2.2.2.1 := by kernel_rfl
theorem e35 (n : Nat) (ω : List Bool) (v : i35.V) : enterF C35 c35 Try.f35 (j35 n) ω v = spec_RegRead_entry (spec_RegRead_L5 n) v.1.1 v.2.1 := by kernel_rfl
theorem s35 : SoundC Try.prog 35 c35 := sound_by (l := l35) (J := j35) (L := [5]) tOk mx Try.func35 ⟨s59, s61, s75, s82, trivial⟩ (by kernel_rfl) (by kernel_rfl)
  ⟨⟨h35_5, fun n v => spec_RegRead_L5 n v.1.2.2.2.2.1 v.1.2.2.2.2.2.1 v.2.1 v.2.2.1.1 v.2.2.1.2.1 v.2.2.2.1.2.1 v.2.2.2.2.1 v.2.2.2.2.2.1.2.1 v.2.2.2.2.2.1.2.2.1 v.2.2.2.2.2.2.1.2.1 v.2.2.2.2.2.2.2.1, fun _ => rfl, fun _ => rfl, q35_5⟩, trivial⟩ FUEL (e35 FUEL)

/-! impl_GetNum -/
abbrev i96 : Shp := ⟨[(0, .c (.sl false tU)), (1, .c (.v tI))], []⟩
abbrev o96 : Shp := ⟨[(0, .tup [.inl (.v tI), .inl (.v tI), .inl (.v .bool)])], []⟩
noncomputable def c96 : Con := ⟨i96, o96, fun v => impl_GetNum v.1.1 v.1.2.1⟩
noncomputable def l96 : List (Nat × Con) := []
noncomputable def C96 : Cfg := ⟨T, gam l96, hintOf []⟩
abbrev h96_5 : Shp := ⟨[(0, .c (.sl false tU)), (1, .c (.v tI)), (7, .c (.v tI)), (8, .c (.v tI))], []⟩
noncomputable def j96 (n ℓ : Nat) (σ : St) : Option o96.V := if ℓ = 5 then jump 0 h96_5 (fun v => impl_GetNum_L5 n v.1.1 v.1.2.1 v.1.2.2.1 v.1.2.2.2.1) σ else none
theorem q96_5 (n : Nat) (v : h96_5.V) (ω : List Bool) : loopF C96 c96 Try.f96 (j96 n) 5 ω (h96_5.st 51 v) = impl_GetNum_step5 (impl_GetNum_L5 n) v.1.1 v.1.2.1 v.1.2.2.1 v.1.2.2.2.1 := by kernel_rfl
theorem e96 (n : Nat) (ω : List Bool) (v : i96.V) : enterF C96 c96 Try.f96 (j96 n) ω v = impl_GetNum_entry (impl_GetNum_L5 n) v.1.1 v.1.2.1 := by kernel_rfl
theorem s96 : SoundC Try.prog 96 c96 := sound_by (l := l96) (J := j96) (L := [5]) tOk mx Try.func96 trivial (by kernel_rfl) (by kernel_rfl)
  ⟨⟨h96_5, fun n v => impl_GetNum_L5 n v.1.1 v.1.2.1 v.1.2.2.1 v.1.2.2.2.1, fun _ => rfl, fun _ => rfl, q96_5⟩, trivial⟩ FUEL (e96 FUEL)

/-! impl_reader_num -/
abbrev i51 : Shp := ⟨[(0, .c (.ptr 0 0))], [.mem [.ref 1, .v tI, .v .bool], .sl 1 tU]⟩
abbrev o51 : Shp := ⟨[(0, .c (.v tI))], [.mem [.ref 1, .v tI, .v .bool], .sl 1 tU]⟩
noncomputable def c51 : Con := ⟨i51, o51, fun v => impl_reader_num v.2.1.2.1 v.2.1.2.2.1 v.2.2.1⟩
noncomputable def l51 : List (Nat × Con) := [(96, c96)]
noncomputable def C51 : Cfg := ⟨T, gam l51, hintOf [(1, [0, 1])]⟩
theorem e51 (ω : List Bool) (v : i51.V) : enterF C51 c51 Try.f51 (fun _ _ => none) ω v = impl_reader_num v.2.1.2.1 v.2.1.2.2.1 v.2.2.1 := by kernel_rfl
theorem s51 : SoundC Try.prog 51 c51 := sound_by0 (l := l51) tOk mx Try.func51 ⟨s96, trivial⟩ (by kernel_rfl) (by kernel_rfl) e51

/-! impl_reader_count -/
abbrev i52 : Shp := ⟨[(0, .c (.ptr 0 0)), (1, .c (.v tI))], [.mem [.ref 1, .v tI, .v .bool], .sl 1 tU]⟩
abbrev o52 : Shp := ⟨[(0, .c (.v tI))], [.mem [.ref 1, .v tI, .v .bool], .sl 1 tU]⟩
noncomputable def c52 : Con := ⟨i52, o52, fun v => impl_reader_count v.1.2.1 v.2.1.2.1 v.2.1.2.2.1 v.2.2.1⟩
noncomputable def l52 : List (Nat × Con) := [(51, c51)]
noncomputable def C52 : Cfg := ⟨T, gam l52, hintOf []⟩
theorem e52 (ω : List Bool) (v : i52.V) : enterF C52 c52 Try.f52 (fun _ _ => none) ω v = impl_reader_count v.1.2.1 v.2.1.2.1 v.2.1.2.2.1 v.2.2.1 := by kernel_rfl
theorem s52 : SoundC Try.prog 52 c52 := sound_by0 (l := l52) tOk mx Try.func52 ⟨s51, trivial⟩ (by kernel_rfl) (by kernel_rfl) e52

/-! impl_reader_list -/
abbrev i83 : Shp := ⟨[(0, .c (.ptr 0 0)), (1, .c (.v tI))], [.mem [.ref 1, .v tI, .v .bool], .sl 1 tU]⟩
abbrev o83 : Shp := ⟨[(0, .c (.ref 2))], [.mem [.ref 1, .v tI, .v .bool], .sl 1 tU, .sl 9 tI]⟩
noncomputable def c83 : Con := ⟨i83, o83, fun v => impl_reader_list v.1.2.1 v.2.1.2.1 v.2.1.2.2.1 v.2.2.1⟩
noncomputable def l83 : List (Nat × Con) := [(51, c51), (52, c52)]
noncomputable def C83 : Cfg := ⟨T, gam l83, hintOf []⟩
abbrev h83_4 : Shp := ⟨[(0, .c (.ptr 0 0)), (5, .c (.ref 2)), (12, .c (.v tI)), (13, .c (.v tI))], [.mem [.ref 1, .v tI, .v .bool], .sl 1 tU, .sl 9 tI]⟩
noncomputable def j83 (n ℓ : Nat) (σ : St) : Option o83.V := if ℓ = 4 then jump 2 h83_4 (fun v => impl_reader_list_L4 n v.1.2.2.1 v.1.2.2.2.1 v.2.1.2.1 v.2.1.2.2.1 v.2.2.1 v.2.2.2.1) σ else none
theorem q83_4 (n : Nat) (v : h83_4.V) (ω : List Bool) : loopF C83 c83 Try.f83 (j83 n) 4 ω (h83_4.st 23 v) = impl_reader_list_step4 (impl_reader_list_L4 n) v.1.2.2.1 v.1.2.2.2.1 v.2.1.2.1 v.2.1.2.2.1 v.2.2.1 v.2.2.2.1 := by kernel_rfl
theorem e83 (n : Nat) (ω : List Bool) (v : i83.V) : enterF C83 c83 Try.f83 (j83 n) ω v = impl_reader_list_entry (impl_reader_list_L4 n) v.1.2.1 v.2.1.2.1 v.2.1.2.2.1 v.2.2.1 := by kernel_rfl
theorem s83 : SoundC Try.prog 83 c83 := sound_by (l := l83) (J := j83) (L := [4]) tOk mx Try.func83 ⟨s51, s52, trivial⟩ (by kernel_rfl) (by kernel_rfl)
  ⟨⟨h83_4, fun n v => impl_reader_list_L4 n v.1.2.2.1 v.1.2.2.2.1 v.2.1.2.1 v.2.1.2.2.1 v.2.2.1 v.2.2.2.1, fun _ => rfl, fun _ => rfl, q83_4⟩, trivial⟩ FUEL (e83 FUEL)

/-! impl_reader_flag -/
abbrev i84 : Shp := ⟨[(0, .c (.ptr 0 0))], [.mem [.ref 1, .v tI, .v .bool], .sl 1 tU]⟩
abbrev o84 : Shp := ⟨[(0, .c (.v .bool))], [.mem [.ref 1, .v tI, .v .bool], .sl 1 tU]⟩
noncomputable def c84 : Con := ⟨i84, o84, fun v => impl_reader_flag v.2.1.2.1 v.2.1.2.2.1 v.2.2.1⟩
noncomputable def l84 : List (Nat × Con) := [(52, c52)]
noncomputable def C84 : Cfg := ⟨T, gam l84, hintOf []⟩
theorem e84 (ω : List Bool) (v : i84.V) : enterF C84 c84 Try.f84 (fun _ _ => none) ω v = impl_reader_flag v.2.1.2.1 v.2.1.2.2.1 v.2.2.1 := by kernel_rfl
theorem s84 : SoundC Try.prog 84 c84 := sound_by0 (l := l84) tOk mx Try.func84 ⟨s52, trivial⟩ (by kernel_rfl) (by kernel_rfl) e84

/-! impl_reader_done -/
abbrev i54 : Shp := ⟨[(0, .c (.ptr 0 0))], [.mem [.ref 1, .v tI, .v .bool], .sl 1 tU]⟩
abbrev o54 : Shp := ⟨[(0, .c (.v .bool))], [.mem [.ref 1, .v tI, .v .bool], .sl 1 tU]⟩
noncomputable def c54 : Con := ⟨i54, o54, fun v => impl_reader_done v.2.1.2.1 v.2.1.2.2.1 v.2.2.1⟩
noncomputable def l54 : List (Nat × Con) := []
noncomputable def C54 : Cfg := ⟨T, gam l54, hintOf [(1, [0, 1])]⟩
theorem e54 (ω : List Bool) (v : i54.V) : enterF C54 c54 Try.f54 (fun _ _ => none) ω v = impl_reader_done v.2.1.2.1 v.2.1.2.2.1 v.2.2.1 := by kernel_rfl
theorem s54 : SoundC Try.prog 54 c54 := sound_by0 (l := l54) tOk mx Try.func54 trivial (by kernel_rfl) (by kernel_rfl) e54

/-! impl_within -/
abbrev i91 : Shp := ⟨[(0, .c (.v tI)), (1, .c (.v tI)), (2, .c (.v tI))], []⟩
abbrev o91 : Shp := ⟨[(0, .c (.v .bool))], []⟩
noncomputable def c91 : Con := ⟨i91, o91, fun v => impl_within v.1.1 v.1.2.1 v.1.2.2.1⟩
noncomputable def l91 : List (Nat × Con) := []
noncomputable def C91 : Cfg := ⟨T, gam l91, hintOf []⟩
theorem e91 (ω : List Bool) (v : i91.V) : enterF C91 c91 Try.f91 (fun _ _ => none) ω v = impl_within v.1.1 v.1.2.1 v.1.2.2.1 := by kernel_rfl
theorem s91 : SoundC Try.prog 91 c91 := sound_by0 (l := l91) tOk mx Try.func91 trivial (by kernel_rfl) (by kernel_rfl) e91

/-! impl_ConfigOk -/
abbrev i106 : Shp := ⟨[(0, .row Y0)], []⟩
abbrev o106 : Shp := ⟨[(0, .c (.v .bool))], []⟩
noncomputable def c106 : Con := ⟨i106, o106, fun v => impl_ConfigOk v.1.1⟩
noncomputable def l106 : List (Nat × Con) := [(91, c91)]
noncomputable def C106 : Cfg := ⟨T, gam l106, hintOf []⟩
abbrev h106_2 : Shp := ⟨[(1, .c (.ptr 0 0)), (6, .c (.sl false tI)), (7, .c (.v tI)), (8, .c (.v tI))], [.mem [.sl false tI, .v tI]]⟩
noncomputable def j106 (n ℓ : Nat) (σ : St) : Option o106.V := if ℓ = 2 then jump 0 h106_2 (fun v => impl_ConfigOk_L2 n v.1.2.1 v.1.2.2.1 v.1.2.2.2.1 v.2.1.1 v.2.1.2.1) σ else none
theorem q106_2 (n : Nat) (v : h106_2.V) (ω : List Bool) : loopF C106 c106 Try.f106 (j106 n) 2 ω (h106_2.st 25 v) = impl_ConfigOk_step2 (impl_ConfigOk_L2 n) v.1.2.1 v.1.2.2.1 v.1.2.2.2.1 v.2.1.1 v.2.1.2.1 := by kernel_rfl
theorem e106 (n : Nat) (ω : List Bool) (v : i106.V) : enterF C106 c106 Try.f106 (j106 n) ω v = impl_ConfigOk_entry (impl_ConfigOk_L2 n) v.1.1 := by kernel_rfl
theorem s106 : SoundC Try.prog 106 c106 := sound_by (l := l106) (J := j106) (L := [2]) tOk mx Try.func106 ⟨s91, trivial⟩ (by kernel_rfl) (by kernel_rfl)
  ⟨⟨h106_2, fun n v => impl_ConfigOk_L2 n v.1.2.1 v.1.2.2.1 v.1.2.2.2.1 v.2.1.1 v.2.1.2.1, fun _ => rfl, fun _ => rfl, q106_2⟩, trivial⟩ FUEL (e106 FUEL)

/-! impl_ascends -/
abbrev i121 : Shp := ⟨[(0, .c (.sl false tI)), (1, .c (.v tI))], []⟩
abbrev o121 : Shp := ⟨[(0, .c (.v .bool))], []⟩
noncomputable def c121 : Con := ⟨i121, o121, fun v => impl_ascends v.1.1 v.1.2.1⟩
noncomputable def l121 : List (Nat × Con) := [(91, c91)]
noncomputable def C121 : Cfg := ⟨T, gam l121, hintOf []⟩
abbrev h121_2 : Shp := ⟨[(0, .c (.sl false tI)), (1, .c (.v tI)), (7, .c (.sl false tI)), (8, .c (.v tI)), (9, .c (.v tI))], []⟩
noncomputable def j121 (n ℓ : Nat) (σ : St) : Option o121.V := if ℓ = 2 then jump 0 h121_2 (fun v => impl_ascends_L2 n v.1.1 v.1.2.1 v.1.2.2.1 v.1.2.2.2.1 v.1.2.2.2.2.1) σ else none
theorem q121_2 (n : Nat) (v : h121_2.V) (ω : List Bool) : loopF C121 c121 Try.f121 (j121 n) 2 ω (h121_2.st 32 v) = impl_ascends_step2 (impl_ascends_L2 n) v.1.1 v.1.2.1 v.1.2.2.1 v.1.2.2.2.1 v.1.2.2.2.2.1 := by kernel_rfl
theorem e121 (n : Nat) (ω : List Bool) (v : i121.V) : enterF C121 c121 Try.f121 (j121 n) ω v = impl_ascends_entry (impl_ascends_L2 n) v.1.1 v.1.2.1 := by kernel_rfl
theorem s121 : SoundC Try.prog 121 c121 := sound_by (l := l121) (J := j121) (L := [2]) tOk mx Try.func121 ⟨s91, trivial⟩ (by kernel_rfl) (by kernel_rfl)
  ⟨⟨h121_2, fun n v => impl_ascends_L2 n v.1.1 v.1.2.1 v.1.2.2.1 v.1.2.2.2.1 v.1.2.2.2.2.1, fun _ => rfl, fun _ => rfl, q121_2⟩, trivial⟩ FUEL (e121 FUEL)

/-! impl_NodesOk -/
abbrev i105 : Shp := ⟨[(0, .row Y0), (1, .c (.sl false tI))], []⟩
abbrev o105 : Shp := ⟨[(0, .c (.v .bool))], []⟩
noncomputable def c105 : Con := ⟨i105, o105, fun v => impl_NodesOk v.1.1 v.1.2.1⟩
noncomputable def l105 : List (Nat × Con) := [(106, c106), (121, c121)]
noncomputable def C105 : Cfg := ⟨T, gam l105, hintOf []⟩
theorem e105 (ω : List Bool) (v : i105.V) : enterF C105 c105 Try.f105 (fun _ _ => none) ω v = impl_NodesOk v.1.1 v.1.2.1 := by kernel_rfl
theorem s105 : SoundC Try.prog 105 c105 := sound_by0 (l := l105) tOk mx Try.func105 ⟨s106, s121, trivial⟩ (by kernel_rfl) (by kernel_rfl) e105

/-! slices_Index_int_int -/
abbrev i125 : Shp := ⟨[(0, .c (.sl false tI)), (1, .c (.v tI))], []⟩
abbrev o125 : Shp := ⟨[(0, .c (.v tI))], []⟩
noncomputable def c125 : Con := ⟨i125, o125, fun v => slices_Index_int_int v.1.1 v.1.2.1⟩
noncomputable def l125 : List (Nat × Con) := []
noncomputable def C125 : Cfg := ⟨T, gam l125, hintOf []⟩
abbrev h125_2 : Shp := ⟨[(0, .c (.sl false tI)), (1, .c (.v tI)), (7, .c (.v tI)), (8, .c (.v tI))], []⟩
noncomputable def j125 (n ℓ : Nat) (σ : St) : Option o125.V := if ℓ = 2 then jump 0 h125_2 (fun v => slices_Index_int_int_L2 n v.1.1 v.1.2.1 v.1.2.2.1 v.1.2.2.2.1) σ else none
theorem q125_2 (n : Nat) (v : h125_2.V) (ω : List Bool) : loopF C125 c125 Try.f125 (j125 n) 2 ω (h125_2.st 19 v) = slices_Index_int_int_step2 (slices_Index_int_int_L2 n) v.1.1 v.1.2.1 v.1.2.2.1 v.1.2.2.2.1 := by kernel_rfl
theorem e125 (n : Nat) (ω : List Bool) (v : i125.V) : enterF C125 c125 Try.f125 (j125 n) ω v = slices_Index_int_int_entry (slices_Index_int_int_L2 n) v.1.1 v.1.2.1 := by kernel_rfl
theorem s125 : SoundC Try.prog 125 c125 := sound_by (l := l125) (J := j125) (L := [2]) tOk mx Try.func125 trivial (by kernel_rfl) (by kernel_rfl)
  ⟨⟨h125_2, fun n v => slices_Index_int_int_L2 n v.1.1 v.1.2.1 v.1.2.2.1 v.1.2.2.2.1, fun _ => rfl, fun _ => rfl, q125_2⟩, trivial⟩ FUEL (e125 FUEL)

/-! slices_Contains_int_int -/
abbrev i123 : Shp := ⟨[(0, .c (.sl false tI)), (1, .c (.v tI))], []⟩
abbrev o123 : Shp := ⟨[(0, .c (.v .bool))], []⟩
noncomputable def c123 : Con := ⟨i123, o123, fun v => slices_Contains_int_int v.1.1 v.1.2.1⟩
noncomputable def l123 : List (Nat × Con) := [(125, c125)]
noncomputable def C123 : Cfg := ⟨T, gam l123, hintOf []⟩
theorem e123 (ω : List Bool) (v : i123.V) : enterF C123 c123 Try.f123 (fun _ _ => none) ω v = slices_Contains_int_int v.1.1 v.1.2.1 := by kernel_rfl
theorem s123 : SoundC Try.prog 123 c123 := sound_by0 (l := l123) tOk mx Try.func123 ⟨s125, trivial⟩ (by kernel_rfl) (by kernel_rfl) e123

/-! impl_SpanOf -/
abbrev i119 : Shp := ⟨[(0, .row Y0), (1, .c (.sl false tI))], []⟩
abbrev o119 : Shp := ⟨[(0, .c (.v tI))], []⟩
noncomputable def c119 : Con := ⟨i119, o119, fun v => impl_SpanOf v.1.1 v.1.2.1⟩
noncomputable def l119 : List (Nat × Con) := [(105, c105), (123, c123)]
noncomputable def C119 : Cfg := ⟨T, gam l119, hintOf []⟩
abbrev h119_5 : Shp := ⟨[(2, .c (.ptr 0 0)), (5, .c (.ref 1)), (13, .c (.sl false tI)), (14, .c (.v tI)), (15, .c (.v tI))], [.mem [.sl false tI, .v tI], .sl 9 tI]⟩
noncomputable def j119 (n ℓ : Nat) (σ : St) : Option o119.V := if ℓ = 5 then jump 0 h119_5 (fun v => impl_SpanOf_L5 n v.1.2.2.1 v.1.2.2.2.1 v.1.2.2.2.2.1 v.2.1.1 v.2.1.2.1 v.2.2.1) σ else none
theorem q119_5 (n : Nat) (v : h119_5.V) (ω : List Bool) : loopF C119 c119 Try.f119 (j119 n) 5 ω (h119_5.st 38 v) = impl_SpanOf_step5 (impl_SpanOf_L5 n) v.1.2.2.1 v.1.2.2.2.1 v.1.2.2.2.2.1 v.2.1.1 v.2.1.2.1 v.2.2.1 := by kernel_rfl
theorem e119 (n : Nat) (ω : List Bool) (v : i119.V) : enterF C119 c119 Try.f119 (j119 n) ω v = impl_SpanOf_entry (impl_SpanOf_L5 n) v.1.1 v.1.2.1 := by kernel_rfl
theorem s119 : SoundC Try.prog 119 c119 := sound_by (l := l119) (J := j119) (L := [5]) tOk mx Try.func119 ⟨s105, s123, trivial⟩ (by kernel_rfl) (by kernel_rfl)
  ⟨⟨h119_5, fun n v => impl_SpanOf_L5 n v.1.2.2.1 v.1.2.2.2.1 v.1.2.2.2.2.1 v.2.1.1 v.2.1.2.1 v.2.2.1, fun _ => rfl, fun _ => rfl, q119_5⟩, trivial⟩ FUEL (e119 FUEL)

/-! impl_Holds -/
abbrev i87 : Shp := ⟨[(0, .row Y0), (1, .c (.sl false tI))], []⟩
abbrev o87 : Shp := ⟨[(0, .c (.v .bool))], []⟩
noncomputable def c87 : Con := ⟨i87, o87, fun v => impl_Holds v.1.1 v.1.2.1⟩
noncomputable def l87 : List (Nat × Con) := [(105, c105), (119, c119)]
noncomputable def C87 : Cfg := ⟨T, gam l87, hintOf [(1, [0])]⟩
theorem e87 (ω : List Bool) (v : i87.V) : enterF C87 c87 Try.f87 (fun _ _ => none) ω v = impl_Holds v.1.1 v.1.2.1 := by kernel_rfl
theorem s87 : SoundC Try.prog 87 c87 := sound_by0 (l := l87) tOk mx Try.func87 ⟨s105, s119, trivial⟩ (by kernel_rfl) (by kernel_rfl) e87

/-! impl_eraOk -/
abbrev i114 : Shp := ⟨[(0, .row Y0), (1, .row Y1)], []⟩
abbrev o114 : Shp := ⟨[(0, .c (.v .bool))], []⟩
noncomputable def c114 : Con := ⟨i114, o114, fun v => impl_eraOk v.1.1 v.1.2.1⟩
noncomputable def l114 : List (Nat × Con) := [(87, c87), (91, c91)]
noncomputable def C114 : Cfg := ⟨T, gam l114, hintOf []⟩
theorem e114 (ω : List Bool) (v : i114.V) : enterF C114 c114 Try.f114 (fun _ _ => none) ω v = impl_eraOk v.1.1 v.1.2.1 := by kernel_rfl
theorem s114 : SoundC Try.prog 114 c114 := sound_by0 (l := l114) tOk mx Try.func114 ⟨s87, s91, trivial⟩ (by kernel_rfl) (by kernel_rfl) e114

/-! impl_isEpoch -/
abbrev i107 : Shp := ⟨[(0, .c (.v tI))], []⟩
abbrev o107 : Shp := ⟨[(0, .c (.v .bool))], []⟩
noncomputable def c107 : Con := ⟨i107, o107, fun v => impl_isEpoch v.1.1⟩
noncomputable def l107 : List (Nat × Con) := [(91, c91)]
noncomputable def C107 : Cfg := ⟨T, gam l107, hintOf []⟩
theorem e107 (ω : List Bool) (v : i107.V) : enterF C107 c107 Try.f107 (fun _ _ => none) ω v = impl_isEpoch v.1.1 := by kernel_rfl
theorem s107 : SoundC Try.prog 107 c107 := sound_by0 (l := l107) tOk mx Try.func107 ⟨s91, trivial⟩ (by kernel_rfl) (by kernel_rfl) e107

/-! impl_isOff -/
abbrev i124 : Shp := ⟨[(0, .c (.v tI))], []⟩
abbrev o124 : Shp := ⟨[(0, .c (.v .bool))], []⟩
noncomputable def c124 : Con := ⟨i124, o124, fun v => impl_isOff v.1.1⟩
noncomputable def l124 : List (Nat × Con) := [(91, c91)]
noncomputable def C124 : Cfg := ⟨T, gam l124, hintOf []⟩
theorem e124 (ω : List Bool) (v : i124.V) : enterF C124 c124 Try.f124 (fun _ _ => none) ω v = impl_isOff v.1.1 := by kernel_rfl
theorem s124 : SoundC Try.prog 124 c124 := sound_by0 (l := l124) tOk mx Try.func124 ⟨s91, trivial⟩ (by kernel_rfl) (by kernel_rfl) e124

/-! impl_PlaceOk -/
abbrev i122 : Shp := ⟨[(0, .c (.v tI))], []⟩
abbrev o122 : Shp := ⟨[(0, .c (.v .bool))], []⟩
noncomputable def c122 : Con := ⟨i122, o122, fun v => impl_PlaceOk v.1.1⟩
noncomputable def l122 : List (Nat × Con) := [(107, c107), (124, c124)]
noncomputable def C122 : Cfg := ⟨T, gam l122, hintOf []⟩
theorem e122 (ω : List Bool) (v : i122.V) : enterF C122 c122 Try.f122 (fun _ _ => none) ω v = impl_PlaceOk v.1.1 := by kernel_rfl
theorem s122 : SoundC Try.prog 122 c122 := sound_by0 (l := l122) tOk mx Try.func122 ⟨s107, s124, trivial⟩ (by kernel_rfl) (by kernel_rfl) e122

/-! impl_EpochOf -/
abbrev i115 : Shp := ⟨[(0, .c (.v tI))], []⟩
abbrev o115 : Shp := ⟨[(0, .c (.v tI))], []⟩
noncomputable def c115 : Con := ⟨i115, o115, fun v => impl_EpochOf v.1.1⟩
noncomputable def l115 : List (Nat × Con) := [(122, c122)]
noncomputable def C115 : Cfg := ⟨T, gam l115, hintOf []⟩
theorem e115 (ω : List Bool) (v : i115.V) : enterF C115 c115 Try.f115 (fun _ _ => none) ω v = impl_EpochOf v.1.1 := by kernel_rfl
theorem s115 : SoundC Try.prog 115 c115 := sound_by0 (l := l115) tOk mx Try.func115 ⟨s122, trivial⟩ (by kernel_rfl) (by kernel_rfl) e115

/-! impl_RegOk -/
abbrev i78 : Shp := ⟨[(0, .row Y0), (1, .row Y2)], []⟩
abbrev o78 : Shp := ⟨[(0, .c (.v .bool))], []⟩
noncomputable def c78 : Con := ⟨i78, o78, fun v => impl_RegOk v.1.1 v.1.2.1⟩
noncomputable def l78 : List (Nat × Con) := [(91, c91), (106, c106), (114, c114), (115, c115)]
noncomputable def C78 : Cfg := ⟨T, gam l78, hintOf [(7, [0, 1])]⟩
abbrev h78_2 : Shp := ⟨[(2, .c (.ptr 0 0)), (3, .c (.ptr 1 0)), (9, .c (.sl false Y1)), (10, .c (.v tI)), (11, .c (.v tI))], [.mem [.sl false tI, .v tI], .mem [.sl false Y1, .v tI]]⟩
noncomputable def j78 (n ℓ : Nat) (σ : St) : Option o78.V := if ℓ = 2 then jump 0 h78_2 (fun v => impl_RegOk_L2 n v.1.2.2.1 v.1.2.2.2.1 v.1.2.2.2.2.1 v.2.1.1 v.2.1.2.1 v.2.2.1.1 v.2.2.1.2.1) σ else none
theorem q78_2 (n : Nat) (v : h78_2.V) (ω : List Bool) : loopF C78 c78 Try.f78 (j78 n) 2 ω (h78_2.st 70 v) = impl_RegOk_step2 (impl_RegOk_L2 n) v.1.2.2.1 v.1.2.2.2.1 v.1.2.2.2.2.1 v.2.1.1 v.2.1.2.1 v.2.2.1.1 v.2.2.1.2.1 := by kernel_rfl
theorem e78 (n : Nat) (ω : List Bool) (v : i78.V) : enterF C78 c78 Try.f78 (j78 n) ω v = impl_RegOk_entry (impl_RegOk_L2 n) v.1.1 v.1.2.1 := by kernel_rfl
theorem s78 : SoundC Try.prog 78 c78 := sound_by (l := l78) (J := j78) (L := [2]) tOk mx Try.func78 ⟨s91, s106, s114, s115, trivial⟩ (by kernel_rfl) (by kernel_rfl)
  ⟨⟨h78_2, fun n v => impl_RegOk_L2 n v.1.2.2.1 v.1.2.2.2.1 v.1.2.2.2.2.1 v.2.1.1 v.2.1.2.1 v.2.2.1.1 v.2.2.1.2.1, fun _ => rfl, fun _ => rfl, q78_2⟩, trivial⟩ FUEL (e78 FUEL)

/-! impl_RegRead -/
abbrev i37 : Shp := ⟨[(0, .row Y0), (1, .c (.ref 0))], [.sl 1 tU]⟩
abbrev o37 : Shp := ⟨[(0, .tup [.inr [.ref 1, .v tI], .inl (.v .bool)])], [.sl 1 tU, .sl 9 Y1]⟩
noncomputable def c37 : Con := ⟨i37, o37, fun v => impl_RegRead v.1.1 v.2.1⟩
noncomputable def l37 : List (Nat × Con) := [(51, c51), (52, c52), (54, c54), (78, c78), (83, c83), (84, c84)]
noncomputable def C37 : Cfg := ⟨T, gam l37, hintOf []⟩
abbrev h37_6 : Shp := ⟨[(2, .c (.ptr 1 0)), (4, .c (.ptr 2 0)), (6, .c (.ptr 4 0)), (7, .c (.ptr 5 0)), (8, .c (.v tI)), (9, .c (.v tI))], [.sl 1 tU, .mem [.sl false tI, .v tI], .mem [.ref 3, .v tI], .sl 9 Y1, .mem [.ref 0, .v tI, .v .bool], .mem [.ref 6, .v tI], .sl 9 Y1]⟩
noncomputable def j37 (n ℓ : Nat) (σ : St) : Option o37.V := if ℓ = 6 then jump 1 h37_6 (fun v => impl_RegRead_L6 n v.1.2.2.2.2.1 v.1.2.2.2.2.2.1 v.2.1 v.2.2.1.1 v.2.2.1.2.1 v.2.2.2.1.2.1 v.2.2.2.2.1 v.2.2.2.2.2.1.2.1 v.2.2.2.2.2.1.2.2.1 v.2.2.2.2.2.2.1.2.1 v.2.2.2.2.2.2.2.1) σ else none
theorem q37_6 (n : Nat) (v : h37_6.V) (ω : List Bool) : loopF C37 c37 Try.f37 (j37 n) 6 ω (h37_6.st 59 v) = impl_RegRead_step6 (impl_RegRead_L6 n) v.1.2.2.2.2.1 v.1.2.2.2.2.2.1 v.2.1 v.2.2.1.1 v.2.2.1.2.1 v.2.2.2.1.2.1 v.2.2.2.2.1 v.2.2.2.2.2.1.2.1 v.2.2.2.2.2.1.2.2.1 v.2.2.2.2.2.2.1.2.1 v.2.2.2.2.2.2.2.1 := by kernel_rfl
theorem e37 (n : Nat) (ω : List Bool) (v : i37.V) : enterF C37 c37 Try.f37 (j37 n) ω v = impl_RegRead_entry (impl_RegRead_L6 n) v.1.1 v.2.1 := by kernel_rfl
theorem s37 : SoundC Try.prog 37 c37 := sound_by (l := l37) (J := j37) (L := [6]) tOk mx Try.func37 ⟨s51, s52, s54, s78, s83, s84, trivial⟩ (by kernel_rfl) (by kernel_rfl)
  ⟨⟨h37_6, fun n v => impl_RegRead_L6 n v.1.2.2.2.2.1 v.1.2.2.2.2.2.1 v.2.1 v.2.2.1.1 v.2.2.1.2.1 v.2.2.2.1.2.1 v.2.2.2.2.1 v.2.2.2.2.2.1.2.1 v.2.2.2.2.2.1.2.2.1 v.2.2.2.2.2.2.1.2.1 v.2.2.2.2.2.2.2.1, fun _ => rfl, fun _ => rfl, q37_6⟩, trivial⟩ FUEL (e37 FUEL)

/-! laws_eqIntS -/
abbrev i70 : Shp := ⟨[(0, .c (.sl false tI)), (1, .c (.sl false tI))], []⟩
abbrev o70 : Shp := ⟨[(0, .c (.v .bool))], []⟩
noncomputable def c70 : Con := ⟨i70, o70, fun v => laws_eqIntS v.1.1 v.1.2.1⟩
noncomputable def l70 : List (Nat × Con) := []
noncomputable def C70 : Cfg := ⟨T, gam l70, hintOf []⟩
abbrev h70_4 : Shp := ⟨[(0, .c (.sl false tI)), (1, .c (.sl false tI)), (5, .c (.v tI))], []⟩
noncomputable def j70 (n ℓ : Nat) (σ : St) : Option o70.V := if ℓ = 4 then jump 0 h70_4 (fun v => laws_eqIntS_L4 n v.1.1 v.1.2.1 v.1.2.2.1) σ else none
theorem q70_4 (n : Nat) (v : h70_4.V) (ω : List Bool) : loopF C70 c70 Try.f70 (j70 n) 4 ω (h70_4.st 26 v) = laws_eqIntS_step4 (laws_eqIntS_L4 n) v.1.1 v.1.2.1 v.1.2.2.1 := by kernel_rfl
theorem e70 (n : Nat) (ω : List Bool) (v : i70.V) : enterF C70 c70 Try.f70 (j70 n) ω v = laws_eqIntS_entry (laws_eqIntS_L4 n) v.1.1 v.1.2.1 := by kernel_rfl
theorem s70 : SoundC Try.prog 70 c70 := sound_by (l := l70) (J := j70) (L := [4]) tOk mx Try.func70 trivial (by kernel_rfl) (by kernel_rfl)
  ⟨⟨h70_4, fun n v => laws_eqIntS_L4 n v.1.1 v.1.2.1 v.1.2.2.1, fun _ => rfl, fun _ => rfl, q70_4⟩, trivial⟩ FUEL (e70 FUEL)

/-! laws_eqEra -/
abbrev i116 : Shp := ⟨[(0, .row Y1), (1, .row Y1)], []⟩
abbrev o116 : Shp := ⟨[(0, .c (.v .bool))], []⟩
noncomputable def c116 : Con := ⟨i116, o116, fun v => laws_eqEra v.1.1 v.1.2.1⟩
noncomputable def l116 : List (Nat × Con) := [(70, c70)]
noncomputable def C116 : Cfg := ⟨T, gam l116, hintOf []⟩
theorem e116 (ω : List Bool) (v : i116.V) : enterF C116 c116 Try.f116 (fun _ _ => none) ω v = laws_eqEra v.1.1 v.1.2.1 := by kernel_rfl
theorem s116 : SoundC Try.prog 116 c116 := sound_by0 (l := l116) tOk mx Try.func116 ⟨s70, trivial⟩ (by kernel_rfl) (by kernel_rfl) e116

/-! laws_eqEraS -/
abbrev i80 : Shp := ⟨[(0, .c (.sl false Y1)), (1, .c (.sl false Y1))], []⟩
abbrev o80 : Shp := ⟨[(0, .c (.v .bool))], []⟩
noncomputable def c80 : Con := ⟨i80, o80, fun v => laws_eqEraS v.1.1 v.1.2.1⟩
noncomputable def l80 : List (Nat × Con) := [(116, c116)]
noncomputable def C80 : Cfg := ⟨T, gam l80, hintOf []⟩
abbrev h80_4 : Shp := ⟨[(0, .c (.sl false Y1)), (1, .c (.sl false Y1)), (5, .c (.v tI))], []⟩
noncomputable def j80 (n ℓ : Nat) (σ : St) : Option o80.V := if ℓ = 4 then jump 0 h80_4 (fun v => laws_eqEraS_L4 n v.1.1 v.1.2.1 v.1.2.2.1) σ else none
theorem q80_4 (n : Nat) (v : h80_4.V) (ω : List Bool) : loopF C80 c80 Try.f80 (j80 n) 4 ω (h80_4.st 27 v) = laws_eqEraS_step4 (laws_eqEraS_L4 n) v.1.1 v.1.2.1 v.1.2.2.1 := by kernel_rfl
theorem e80 (n : Nat) (ω : List Bool) (v : i80.V) : enterF C80 c80 Try.f80 (j80 n) ω v = laws_eqEraS_entry (laws_eqEraS_L4 n) v.1.1 v.1.2.1 := by kernel_rfl
theorem s80 : SoundC Try.prog 80 c80 := sound_by (l := l80) (J := j80) (L := [4]) tOk mx Try.func80 ⟨s116, trivial⟩ (by kernel_rfl) (by kernel_rfl)
  ⟨⟨h80_4, fun n v => laws_eqEraS_L4 n v.1.1 v.1.2.1 v.1.2.2.1, fun _ => rfl, fun _ => rfl, q80_4⟩, trivial⟩ FUEL (e80 FUEL)

/-! laws_eqRegister -/
abbrev i33 : Shp := ⟨[(0, .row Y2), (1, .row Y2)], []⟩
abbrev o33 : Shp := ⟨[(0, .c (.v .bool))], []⟩
noncomputable def c33 : Con := ⟨i33, o33, fun v => laws_eqRegister v.1.1 v.1.2.1⟩
noncomputable def l33 : List (Nat × Con) := [(80, c80)]
noncomputable def C33 : Cfg := ⟨T, gam l33, hintOf []⟩
theorem e33 (ω : List Bool) (v : i33.V) : enterF C33 c33 Try.f33 (fun _ _ => none) ω v = laws_eqRegister v.1.1 v.1.2.1 := by kernel_rfl
theorem s33 : SoundC Try.prog 33 c33 := sound_by0 (l := l33) tOk mx Try.func33 ⟨s80, trivial⟩ (by kernel_rfl) (by kernel_rfl) e33

/-! laws_eqConfig -/
abbrev i23 : Shp := ⟨[(0, .row Y0), (1, .row Y0)], []⟩
abbrev o23 : Shp := ⟨[(0, .c (.v .bool))], []⟩
noncomputable def c23 : Con := ⟨i23, o23, fun v => laws_eqConfig v.1.1 v.1.2.1⟩
noncomputable def l23 : List (Nat × Con) := [(70, c70)]
noncomputable def C23 : Cfg := ⟨T, gam l23, hintOf []⟩
theorem e23 (ω : List Bool) (v : i23.V) : enterF C23 c23 Try.f23 (fun _ _ => none) ω v = laws_eqConfig v.1.1 v.1.2.1 := by kernel_rfl
theorem s23 : SoundC Try.prog 23 c23 := sound_by0 (l := l23) tOk mx Try.func23 ⟨s70, trivial⟩ (by kernel_rfl) (by kernel_rfl) e23

/-! laws_eqByteS -/
abbrev i22 : Shp := ⟨[(0, .c (.sl false tU)), (1, .c (.sl false tU))], []⟩
abbrev o22 : Shp := ⟨[(0, .c (.v .bool))], []⟩
noncomputable def c22 : Con := ⟨i22, o22, fun v => laws_eqByteS v.1.1 v.1.2.1⟩
noncomputable def l22 : List (Nat × Con) := []
noncomputable def C22 : Cfg := ⟨T, gam l22, hintOf []⟩
abbrev h22_4 : Shp := ⟨[(0, .c (.sl false tU)), (1, .c (.sl false tU)), (5, .c (.v tI))], []⟩
noncomputable def j22 (n ℓ : Nat) (σ : St) : Option o22.V := if ℓ = 4 then jump 0 h22_4 (fun v => laws_eqByteS_L4 n v.1.1 v.1.2.1 v.1.2.2.1) σ else none
theorem q22_4 (n : Nat) (v : h22_4.V) (ω : List Bool) : loopF C22 c22 Try.f22 (j22 n) 4 ω (h22_4.st 26 v) = laws_eqByteS_step4 (laws_eqByteS_L4 n) v.1.1 v.1.2.1 v.1.2.2.1 := by kernel_rfl
theorem e22 (n : Nat) (ω : List Bool) (v : i22.V) : enterF C22 c22 Try.f22 (j22 n) ω v = laws_eqByteS_entry (laws_eqByteS_L4 n) v.1.1 v.1.2.1 := by kernel_rfl
theorem s22 : SoundC Try.prog 22 c22 := sound_by (l := l22) (J := j22) (L := [4]) tOk mx Try.func22 trivial (by kernel_rfl) (by kernel_rfl)
  ⟨⟨h22_4, fun n v => laws_eqByteS_L4 n v.1.1 v.1.2.1 v.1.2.2.1, fun _ => rfl, fun _ => rfl, q22_4⟩, trivial⟩ FUEL (e22 FUEL)

/-! laws_markIntS -/
abbrev i72 : Shp := ⟨[(0, .c (.ref 0)), (1, .c (.v tI))], [.sl 1 tI]⟩
abbrev o72 : Shp := ⟨[(0, .c (.v tI))], [.sl 1 tI]⟩
noncomputable def c72 : Con := ⟨i72, o72, fun v => laws_markIntS v.1.2.1 v.2.1⟩
noncomputable def l72 : List (Nat × Con) := []
noncomputable def C72 : Cfg := ⟨T, gam l72, hintOf []⟩
abbrev h72_2 : Shp := ⟨[(0, .c (.ref 0)), (1, .c (.v tI)), (5, .c (.v tI))], [.sl 1 tI]⟩
noncomputable def j72 (n ℓ : Nat) (σ : St) : Option o72.V := if ℓ = 2 then jump 1 h72_2 (fun v => laws_markIntS_L2 n v.1.2.1 v.1.2.2.1 v.2.1) σ else none
theorem q72_2 (n : Nat) (v : h72_2.V) (ω : List Bool) : loopF C72 c72 Try.f72 (j72 n) 2 ω (h72_2.st 19 v) = laws_markIntS_step2 (laws_markIntS_L2 n) v.1.2.1 v.1.2.2.1 v.2.1 := by kernel_rfl
theorem e72 (n : Nat) (ω : List Bool) (v : i72.V) : enterF C72 c72 Try.f72 (j72 n) ω v = laws_markIntS_entry (laws_markIntS_L2 n) v.1.2.1 v.2.1 := by kernel_rfl
theorem s72 : SoundC Try.prog 72 c72 := sound_by (l := l72) (J := j72) (L := [2]) tOk mx Try.func72 trivial (by kernel_rfl) (by kernel_rfl)
  ⟨⟨h72_2, fun n v => laws_markIntS_L2 n v.1.2.1 v.1.2.2.1 v.2.1, fun _ => rfl, fun _ => rfl, q72_2⟩, trivial⟩ FUEL (e72 FUEL)

/-! laws_markConfig -/
abbrev i25 : Shp := ⟨[(0, .agg [.ref 0, .v tI]), (1, .c (.v tI))], [.sl 1 tI]⟩
abbrev o25 : Shp := ⟨[(0, .c (.v tI))], [.sl 1 tI]⟩
noncomputable def c25 : Con := ⟨i25, o25, fun v => laws_markConfig v.1.1.2.1 v.1.2.1 v.2.1⟩
noncomputable def l25 : List (Nat × Con) := [(72, c72)]
noncomputable def C25 : Cfg := ⟨T, gam l25, hintOf []⟩
theorem e25 (ω : List Bool) (v : i25.V) : enterF C25 c25 Try.f25 (fun _ _ => none) ω v = laws_markConfig v.1.1.2.1 v.1.2.1 v.2.1 := by kernel_rfl
theorem s25 : SoundC Try.prog 25 c25 := sound_by0 (l := l25) tOk mx Try.func25 ⟨s72, trivial⟩ (by kernel_rfl) (by kernel_rfl) e25

/-! laws_markByteS -/
abbrev i27 : Shp := ⟨[(0, .c (.ref 0)), (1, .c (.v tI))], [.sl 1 tU]⟩
abbrev o27 : Shp := ⟨[(0, .c (.v tI))], [.sl 1 tU]⟩
noncomputable def c27 : Con := ⟨i27, o27, fun v => laws_markByteS v.1.2.1 v.2.1⟩
noncomputable def l27 : List (Nat × Con) := []
noncomputable def C27 : Cfg := ⟨T, gam l27, hintOf []⟩
abbrev h27_2 : Shp := ⟨[(0, .c (.ref 0)), (1, .c (.v tI)), (5, .c (.v tI))], [.sl 1 tU]⟩
noncomputable def j27 (n ℓ : Nat) (σ : St) : Option o27.V := if ℓ = 2 then jump 1 h27_2 (fun v => laws_markByteS_L2 n v.1.2.1 v.1.2.2.1 v.2.1) σ else none
theorem q27_2 (n : Nat) (v : h27_2.V) (ω : List Bool) : loopF C27 c27 Try.f27 (j27 n) 2 ω (h27_2.st 20 v) = laws_markByteS_step2 (laws_markByteS_L2 n) v.1.2.1 v.1.2.2.1 v.2.1 := by kernel_rfl
theorem e27 (n : Nat) (ω : List Bool) (v : i27.V) : enterF C27 c27 Try.f27 (j27 n) ω v = laws_markByteS_entry (laws_markByteS_L2 n) v.1.2.1 v.2.1 := by kernel_rfl
theorem s27 : SoundC Try.prog 27 c27 := sound_by (l := l27) (J := j27) (L := [2]) tOk mx Try.func27 trivial (by kernel_rfl) (by kernel_rfl)
  ⟨⟨h27_2, fun n v => laws_markByteS_L2 n v.1.2.1 v.1.2.2.1 v.2.1, fun _ => rfl, fun _ => rfl, q27_2⟩, trivial⟩ FUEL (e27 FUEL)

/-! laws_markIntS_at_RLIBIE -/
abbrev i72x1 : Shp := ⟨[(0, .c (.refp 0 3)), (1, .c (.v tI))], [.sl 2 Y1]⟩
abbrev o72x1 : Shp := ⟨[(0, .c (.v tI))], [.sl 2 Y1]⟩
noncomputable def c72x1 : Con := ⟨i72x1, o72x1, fun v => laws_markIntS_at_RLIBIE v.1.1 v.1.2.1 v.2.1⟩
theorem s72x1 : SoundC Try.prog 72 c72x1 := lift_sound (d := 1) (q := tI) (rest := [(1, .c (.v tI))]) (outs := [(0, .c (.v tI))]) (g := c72.g) s72 (d' := 2) (r := Y1) (sz := 3) (by kernel_rfl) (fun v u h => by
    obtain ⟨⟨⟨k, j⟩, rest⟩, bx⟩ := v
    match j with
    | 0 => exact h
    | n + 1 => cases h
    )

/-! laws_markEraS -/
abbrev i81 : Shp := ⟨[(0, .c (.ref 0)), (1, .c (.v tI))], [.sl 2 Y1]⟩
abbrev o81 : Shp := ⟨[(0, .c (.v tI))], [.sl 2 Y1]⟩
noncomputable def c81 : Con := ⟨i81, o81, fun v => laws_markEraS v.1.2.1 v.2.1⟩
noncomputable def l81 : List (Nat × Con) := [(72, c72x1)]
noncomputable def C81 : Cfg := ⟨T, gam l81, hintOf []⟩
abbrev h81_2 : Shp := ⟨[(0, .c (.ref 0)), (1, .c (.v tI)), (5, .c (.v tI))], [.sl 2 Y1]⟩
noncomputable def j81 (n ℓ : Nat) (σ : St) : Option o81.V := if ℓ = 2 then jump 1 h81_2 (fun v => laws_markEraS_L2 n v.1.2.1 v.1.2.2.1 v.2.1) σ else none
theorem q81_2 (n : Nat) (v : h81_2.V) (ω : List Bool) : loopF C81 c81 Try.f81 (j81 n) 2 ω (h81_2.st 36 v) = laws_markEraS_step2 (laws_markEraS_L2 n) v.1.2.1 v.1.2.2.1 v.2.1 := by kernel_rfl
theorem e81 (n : Nat) (ω : List Bool) (v : i81.V) : enterF C81 c81 Try.f81 (j81 n) ω v = laws_markEraS_entry (laws_markEraS_L2 n) v.1.2.1 v.2.1 := by kernel_rfl
theorem s81 : SoundC Try.prog 81 c81 := sound_by (l := l81) (J := j81) (L := [2]) tOk mx Try.func81 ⟨s72x1, trivial⟩ (by kernel_rfl) (by kernel_rfl)
  ⟨⟨h81_2, fun n v => laws_markEraS_L2 n v.1.2.1 v.1.2.2.1 v.2.1, fun _ => rfl, fun _ => rfl, q81_2⟩, trivial⟩ FUEL (e81 FUEL)

/-! laws_markRegister -/
abbrev i34 : Shp := ⟨[(0, .agg [.ref 0, .v tI]), (1, .c (.v tI))], [.sl 2 Y1]⟩
abbrev o34 : Shp := ⟨[(0, .c (.v tI))], [.sl 2 Y1]⟩
noncomputable def c34 : Con := ⟨i34, o34, fun v => laws_markRegister v.1.1.2.1 v.1.2.1 v.2.1⟩
noncomputable def l34 : List (Nat × Con) := [(81, c81)]
noncomputable def C34 : Cfg := ⟨T, gam l34, hintOf []⟩
theorem e34 (ω : List Bool) (v : i34.V) : enterF C34 c34 Try.f34 (fun _ _ => none) ω v = laws_markRegister v.1.1.2.1 v.1.2.1 v.2.1 := by kernel_rfl
theorem s34 : SoundC Try.prog 34 c34 := sound_by0 (l := l34) tOk mx Try.func34 ⟨s81, trivial⟩ (by kernel_rfl) (by kernel_rfl) e34

/-! laws_heldIntS -/
abbrev i117 : Shp := ⟨[(0, .c (.sl false tI)), (1, .c (.v tI))], []⟩
abbrev o117 : Shp := ⟨[(0, .c (.v tI))], []⟩
noncomputable def c117 : Con := ⟨i117, o117, fun v => laws_heldIntS v.1.1 v.1.2.1⟩
noncomputable def l117 : List (Nat × Con) := []
noncomputable def C117 : Cfg := ⟨T, gam l117, hintOf []⟩
abbrev h117_2 : Shp := ⟨[(0, .c (.sl false tI)), (1, .c (.v tI)), (5, .c (.v tI))], []⟩
noncomputable def j117 (n ℓ : Nat) (σ : St) : Option o117.V := if ℓ = 2 then jump 0 h117_2 (fun v => laws_heldIntS_L2 n v.1.1 v.1.2.1 v.1.2.2.1) σ else none
theorem q117_2 (n : Nat) (v : h117_2.V) (ω : List Bool) : loopF C117 c117 Try.f117 (j117 n) 2 ω (h117_2.st 21 v) = laws_heldIntS_step2 (laws_heldIntS_L2 n) v.1.1 v.1.2.1 v.1.2.2.1 := by kernel_rfl
theorem e117 (n : Nat) (ω : List Bool) (v : i117.V) : enterF C117 c117 Try.f117 (j117 n) ω v = laws_heldIntS_entry (laws_heldIntS_L2 n) v.1.1 v.1.2.1 := by kernel_rfl
theorem s117 : SoundC Try.prog 117 c117 := sound_by (l := l117) (J := j117) (L := [2]) tOk mx Try.func117 trivial (by kernel_rfl) (by kernel_rfl)
  ⟨⟨h117_2, fun n v => laws_heldIntS_L2 n v.1.1 v.1.2.1 v.1.2.2.1, fun _ => rfl, fun _ => rfl, q117_2⟩, trivial⟩ FUEL (e117 FUEL)

/-! laws_heldEraS -/
abbrev i85 : Shp := ⟨[(0, .c (.sl false Y1)), (1, .c (.v tI))], []⟩
abbrev o85 : Shp := ⟨[(0, .c (.v tI))], []⟩
noncomputable def c85 : Con := ⟨i85, o85, fun v => laws_heldEraS v.1.1 v.1.2.1⟩
noncomputable def l85 : List (Nat × Con) := [(117, c117)]
noncomputable def C85 : Cfg := ⟨T, gam l85, hintOf []⟩
abbrev h85_2 : Shp := ⟨[(0, .c (.sl false Y1)), (1, .c (.v tI)), (5, .c (.v tI))], []⟩
noncomputable def j85 (n ℓ : Nat) (σ : St) : Option o85.V := if ℓ = 2 then jump 0 h85_2 (fun v => laws_heldEraS_L2 n v.1.1 v.1.2.1 v.1.2.2.1) σ else none
theorem q85_2 (n : Nat) (v : h85_2.V) (ω : List Bool) : loopF C85 c85 Try.f85 (j85 n) 2 ω (h85_2.st 42 v) = laws_heldEraS_step2 (laws_heldEraS_L2 n) v.1.1 v.1.2.1 v.1.2.2.1 := by kernel_rfl
theorem e85 (n : Nat) (ω : List Bool) (v : i85.V) : enterF C85 c85 Try.f85 (j85 n) ω v = laws_heldEraS_entry (laws_heldEraS_L2 n) v.1.1 v.1.2.1 := by kernel_rfl
theorem s85 : SoundC Try.prog 85 c85 := sound_by (l := l85) (J := j85) (L := [2]) tOk mx Try.func85 ⟨s117, trivial⟩ (by kernel_rfl) (by kernel_rfl)
  ⟨⟨h85_2, fun n v => laws_heldEraS_L2 n v.1.1 v.1.2.1 v.1.2.2.1, fun _ => rfl, fun _ => rfl, q85_2⟩, trivial⟩ FUEL (e85 FUEL)

/-! laws_heldRegister -/
abbrev i38 : Shp := ⟨[(0, .row Y2), (1, .c (.v tI))], []⟩
abbrev o38 : Shp := ⟨[(0, .c (.v tI))], []⟩
noncomputable def c38 : Con := ⟨i38, o38, fun v => laws_heldRegister v.1.1 v.1.2.1⟩
noncomputable def l38 : List (Nat × Con) := [(85, c85)]
noncomputable def C38 : Cfg := ⟨T, gam l38, hintOf []⟩
theorem e38 (ω : List Bool) (v : i38.V) : enterF C38 c38 Try.f38 (fun _ _ => none) ω v = laws_heldRegister v.1.1 v.1.2.1 := by kernel_rfl
theorem s38 : SoundC Try.prog 38 c38 := sound_by0 (l := l38) tOk mx Try.func38 ⟨s85, trivial⟩ (by kernel_rfl) (by kernel_rfl) e38

/-! laws_FnExactRegRead -/
abbrev i6 : Shp := ⟨[(0, .row Y0), (1, .c (.sl false tU))], []⟩
abbrev o6 : Shp := ⟨[(0, .c (.v .bool))], []⟩
noncomputable def c6 : Con := ⟨i6, o6, fun v => laws_FnExactRegRead v.1.1 v.1.2.1⟩
noncomputable def l6 : List (Nat × Con) := [(16, c16), (19, c19), (22, c22), (23, c23), (25, c25), (27, c27), (33, c33), (34, c34), (35, c35), (36, c36), (37, c37), (38, c38)]
noncomputable def C6 : Cfg := ⟨T, gam l6, hintOf [(13, [0, 1, 2, 3, 4, 5, 6, 7, 8, 9, 10, 11])]⟩
theorem e6 (ω : List Bool) (v : i6.V) : enterF C6 c6 Try.f6 (fun _ _ => none) ω v = laws_FnExactRegRead v.1.1 v.1.2.1 := by kernel_rfl
theorem s6 : SoundC Try.prog 6 c6 := sound_by0 (l := l6) tOk mx Try.func6 ⟨s16, s19, s22, s23, s25, s27, s33, s34, s35, s36, s37, s38, trivial⟩ (by kernel_rfl) (by kernel_rfl) e6
end Go.Proofs.Ytphnckckgdfheaa.Wk
