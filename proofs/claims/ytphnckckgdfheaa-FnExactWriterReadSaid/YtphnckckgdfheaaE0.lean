/- Each function computes what was printed: by the kernel. -/
import Derived.Test.YtphnckckgdfheaaG0
import Derived.Test.YtphnckckgdfheaaProg
import Derived.KernelRfl
set_option linter.unusedVariables false
set_option linter.unusedSimpArgs false
namespace Go.Proofs.Ytphnckckgdfheaa.Wk
open Go Go.Fw Go.M Go.Proofs
abbrev tI : Ty := .int .i64
abbrev tU : Ty := .int .u8
abbrev Y0 : Ty := (.cons (.sl tI) (.cons tI .unit))
abbrev Y1 : Ty := (.cons .str (.cons (.sl tI) (.cons .bool .unit)))
abbrev Y2 : Ty := (.cons tI (.cons (.sl Y1) .unit))
abbrev Y3 : Ty := (.cons (.sl tU) (.cons tI (.cons .bool .unit)))
def T : Tab := [(3, ⟨1, 8, .int .i64, some tI⟩),
  (4, ⟨1, 1, .bool, some .bool⟩),
  (5, ⟨1, 1, .int .u8, some tU⟩),
  (9, ⟨1, 16, .str, some .str⟩),
  (22, ⟨1, 24, .sl 5, some (.sl tU)⟩),
  (34, ⟨1, 24, .sl 3, some (.sl tI)⟩),
  (36, ⟨2, 32, .st [(0, 34), (1, 3)], some Y0⟩),
  (43, ⟨2, 32, .st [(0, 34), (1, 3)], some Y0⟩),
  (45, ⟨1, 24, .sl 105, some (.sl Y1)⟩),
  (47, ⟨2, 32, .st [(0, 3), (1, 45)], some Y2⟩),
  (83, ⟨1, 8, .ptr 85, none⟩),
  (85, ⟨3, 40, .st [(0, 22), (1, 3), (2, 4)], some Y3⟩),
  (95, ⟨1, 8, .ptr 97, none⟩),
  (97, ⟨3, 40, .st [(0, 22), (1, 3), (2, 4)], some Y3⟩),
  (105, ⟨3, 48, .st [(0, 9), (1, 34), (2, 4)], some Y1⟩),
  (149, ⟨1, 24, .sl 4, some (.sl .bool)⟩)]
theorem tOk : TabOk Try.prog T := tabOk_of_check (by kernel_rfl)
theorem mx : Try.prog.follows .mixedOrders = true := by kernel_rfl

/-! laws_szIntS -/
abbrev i62 : Shp := ⟨[(0, .c (.sl false tI)), (1, .c (.v tI))], []⟩
abbrev o62 : Shp := ⟨[(0, .c (.v tI))], []⟩
noncomputable def c62 : Con := ⟨i62, o62, fun v => laws_szIntS v.1.1 v.1.2.1⟩
noncomputable def l62 : List (Nat × Con) := []
noncomputable def C62 : Cfg := ⟨T, gam l62, hintOf []⟩
theorem e62 (ω : List Bool) (v : i62.V) : enterF C62 c62 Try.f62 (fun _ _ => none) ω v = laws_szIntS v.1.1 v.1.2.1 := by kernel_rfl
theorem s62 : SoundC Try.prog 62 c62 := sound_by0 (l := l62) tOk mx Try.func62 trivial (by kernel_rfl) (by kernel_rfl) e62

/-! laws_szConfig -/
abbrev i16 : Shp := ⟨[(0, .row Y0), (1, .c (.v tI))], []⟩
abbrev o16 : Shp := ⟨[(0, .c (.v tI))], []⟩
noncomputable def c16 : Con := ⟨i16, o16, fun v => laws_szConfig v.1.1 v.1.2.1⟩
noncomputable def l16 : List (Nat × Con) := [(62, c62)]
noncomputable def C16 : Cfg := ⟨T, gam l16, hintOf []⟩
theorem e16 (ω : List Bool) (v : i16.V) : enterF C16 c16 Try.f16 (fun _ _ => none) ω v = laws_szConfig v.1.1 v.1.2.1 := by kernel_rfl
theorem s16 : SoundC Try.prog 16 c16 := sound_by0 (l := l16) tOk mx Try.func16 ⟨s62, trivial⟩ (by kernel_rfl) (by kernel_rfl) e16

/-! laws_toIntS -/
abbrev i66 : Shp := ⟨[(0, .c (.sl false tI))], []⟩
abbrev o66 : Shp := ⟨[(0, .c (.ref 0))], [.sl 9 tI]⟩
noncomputable def c66 : Con := ⟨i66, o66, fun v => laws_toIntS v.1.1⟩
noncomputable def l66 : List (Nat × Con) := []
noncomputable def C66 : Cfg := ⟨T, gam l66, hintOf []⟩
abbrev h66_3 : Shp := ⟨[(0, .c (.sl false tI)), (3, .c (.ref 0)), (4, .c (.v tI))], [.sl 9 tI]⟩
noncomputable def j66 (n ℓ : Nat) (σ : St) : Option o66.V := if ℓ = 3 then jump 0 h66_3 (fun v => laws_toIntS_L3 n v.1.1 v.1.2.2.1 v.2.1) σ else none
theorem q66_3 (n : Nat) (v : h66_3.V) (ω : List Bool) : loopF C66 c66 Try.f66 (j66 n) 3 ω (h66_3.st 22 v) = laws_toIntS_step3 (laws_toIntS_L3 n) v.1.1 v.1.2.2.1 v.2.1 := by kernel_rfl
theorem e66 (n : Nat) (ω : List Bool) (v : i66.V) : enterF C66 c66 Try.f66 (j66 n) ω v = laws_toIntS_entry (laws_toIntS_L3 n) v.1.1 := by kernel_rfl
theorem s66 : SoundC Try.prog 66 c66 := sound_by (l := l66) (J := j66) (L := [3]) tOk mx Try.func66 trivial (by kernel_rfl) (by kernel_rfl)
  ⟨⟨h66_3, fun n v => laws_toIntS_L3 n v.1.1 v.1.2.2.1 v.2.1, fun _ => rfl, fun _ => rfl, q66_3⟩, trivial⟩ FUEL (e66 FUEL)

/-! laws_toConfig -/
abbrev i19 : Shp := ⟨[(0, .row Y0)], []⟩
abbrev o19 : Shp := ⟨[(0, .agg [.ref 0, .v tI])], [.sl 9 tI]⟩
noncomputable def c19 : Con := ⟨i19, o19, fun v => laws_toConfig v.1.1⟩
noncomputable def l19 : List (Nat × Con) := [(66, c66)]
noncomputable def C19 : Cfg := ⟨T, gam l19, hintOf []⟩
theorem e19 (ω : List Bool) (v : i19.V) : enterF C19 c19 Try.f19 (fun _ _ => none) ω v = laws_toConfig v.1.1 := by kernel_rfl
theorem s19 : SoundC Try.prog 19 c19 := sound_by0 (l := l19) tOk mx Try.func19 ⟨s66, trivial⟩ (by kernel_rfl) (by kernel_rfl) e19

/-! laws_toByteS -/
abbrev i36 : Shp := ⟨[(0, .c (.sl false tU))], []⟩
abbrev o36 : Shp := ⟨[(0, .c (.ref 0))], [.sl 9 tU]⟩
noncomputable def c36 : Con := ⟨i36, o36, fun v => laws_toByteS v.1.1⟩
noncomputable def l36 : List (Nat × Con) := []
noncomputable def C36 : Cfg := ⟨T, gam l36, hintOf []⟩
abbrev h36_3 : Shp := ⟨[(0, .c (.sl false tU)), (3, .c (.ref 0)), (4, .c (.v tI))], [.sl 9 tU]⟩
noncomputable def j36 (n ℓ : Nat) (σ : St) : Option o36.V := if ℓ = 3 then jump 0 h36_3 (fun v => laws_toByteS_L3 n v.1.1 v.1.2.2.1 v.2.1) σ else none
theorem q36_3 (n : Nat) (v : h36_3.V) (ω : List Bool) : loopF C36 c36 Try.f36 (j36 n) 3 ω (h36_3.st 22 v) = laws_toByteS_step3 (laws_toByteS_L3 n) v.1.1 v.1.2.2.1 v.2.1 := by kernel_rfl
theorem e36 (n : Nat) (ω : List Bool) (v : i36.V) : enterF C36 c36 Try.f36 (j36 n) ω v = laws_toByteS_entry (laws_toByteS_L3 n) v.1.1 := by kernel_rfl
theorem s36 : SoundC Try.prog 36 c36 := sound_by (l := l36) (J := j36) (L := [3]) tOk mx Try.func36 trivial (by kernel_rfl) (by kernel_rfl)
  ⟨⟨h36_3, fun n v => laws_toByteS_L3 n v.1.1 v.1.2.2.1 v.2.1, fun _ => rfl, fun _ => rfl, q36_3⟩, trivial⟩ FUEL (e36 FUEL)

/-! spec_GetNum -/
abbrev i98 : Shp := ⟨[(0, .c (.sl false tU)), (1, .c (.v tI))], []⟩
abbrev o98 : Shp := ⟨[(0, .tup [.inl (.v tI), .inl (.v tI), .inl (.v .bool)])], []⟩
noncomputable def c98 : Con := ⟨i98, o98, fun v => spec_GetNum v.1.1 v.1.2.1⟩
noncomputable def l98 : List (Nat × Con) := []
noncomputable def C98 : Cfg := ⟨T, gam l98, hintOf []⟩
abbrev h98_6 : Shp := ⟨[(0, .c (.sl false tU)), (1, .c (.v tI)), (7, .c (.v tI)), (8, .c (.v tI)), (9, .c (.v tI))], []⟩
noncomputable def j98 (n ℓ : Nat) (σ : St) : Option o98.V := if ℓ = 6 then jump 0 h98_6 (fun v => spec_GetNum_L6 n v.1.1 v.1.2.1 v.1.2.2.1 v.1.2.2.2.1 v.1.2.2.2.2.1) σ else none
theorem q98_6 (n : Nat) (v : h98_6.V) (ω : List Bool) : loopF C98 c98 Try.f98 (j98 n) 6 ω (h98_6.st 59 v) = spec_GetNum_step6 (spec_GetNum_L6 n) v.1.1 v.1.2.1 v.1.2.2.1 v.1.2.2.2.1 v.1.2.2.2.2.1 := by kernel_rfl
theorem e98 (n : Nat) (ω : List Bool) (v : i98.V) : enterF C98 c98 Try.f98 (j98 n) ω v = spec_GetNum_entry (spec_GetNum_L6 n) v.1.1 v.1.2.1 := by kernel_rfl
theorem s98 : SoundC Try.prog 98 c98 := sound_by (l := l98) (J := j98) (L := [6]) tOk mx Try.func98 trivial (by kernel_rfl) (by kernel_rfl)
  ⟨⟨h98_6, fun n v => spec_GetNum_L6 n v.1.1 v.1.2.1 v.1.2.2.1 v.1.2.2.2.1 v.1.2.2.2.2.1, fun _ => rfl, fun _ => rfl, q98_6⟩, trivial⟩ FUEL (e98 FUEL)

/-! spec_l17Num -/
abbrev i59 : Shp := ⟨[(0, .c (.ptr 0 0))], [.mem [.ref 1, .v tI, .v .bool], .sl 1 tU]⟩
abbrev o59 : Shp := ⟨[(0, .c (.v tI))], [.mem [.ref 1, .v tI, .v .bool], .sl 1 tU]⟩
noncomputable def c59 : Con := ⟨i59, o59, fun v => spec_l17Num v.2.1.2.1 v.2.1.2.2.1 v.2.2.1⟩
noncomputable def l59 : List (Nat × Con) := [(98, c98)]
noncomputable def C59 : Cfg := ⟨T, gam l59, hintOf [(1, [0, 1])]⟩
theorem e59 (ω : List Bool) (v : i59.V) : enterF C59 c59 Try.f59 (fun _ _ => none) ω v = spec_l17Num v.2.1.2.1 v.2.1.2.2.1 v.2.2.1 := by kernel_rfl
theorem s59 : SoundC Try.prog 59 c59 := sound_by0 (l := l59) tOk mx Try.func59 ⟨s98, trivial⟩ (by kernel_rfl) (by kernel_rfl) e59

/-! spec_GetText -/
abbrev i99 : Shp := ⟨[(0, .c (.sl false tU)), (1, .c (.v tI))], []⟩
abbrev o99 : Shp := ⟨[(0, .tup [.inl (.v .str), .inl (.v tI), .inl (.v .bool)])], []⟩
noncomputable def c99 : Con := ⟨i99, o99, fun v => spec_GetText v.1.1 v.1.2.1⟩
noncomputable def l99 : List (Nat × Con) := [(98, c98)]
noncomputable def C99 : Cfg := ⟨T, gam l99, hintOf []⟩
theorem e99 (ω : List Bool) (v : i99.V) : enterF C99 c99 Try.f99 (fun _ _ => none) ω v = spec_GetText v.1.1 v.1.2.1 := by kernel_rfl
theorem s99 : SoundC Try.prog 99 c99 := sound_by0 (l := l99) tOk mx Try.func99 ⟨s98, trivial⟩ (by kernel_rfl) (by kernel_rfl) e99

/-! spec_l17Text -/
abbrev i60 : Shp := ⟨[(0, .c (.ptr 0 0))], [.mem [.ref 1, .v tI, .v .bool], .sl 1 tU]⟩
abbrev o60 : Shp := ⟨[(0, .c (.v .str))], [.mem [.ref 1, .v tI, .v .bool], .sl 1 tU]⟩
noncomputable def c60 : Con := ⟨i60, o60, fun v => spec_l17Text v.2.1.2.1 v.2.1.2.2.1 v.2.2.1⟩
noncomputable def l60 : List (Nat × Con) := [(99, c99)]
noncomputable def C60 : Cfg := ⟨T, gam l60, hintOf [(1, [0, 1])]⟩
theorem e60 (ω : List Bool) (v : i60.V) : enterF C60 c60 Try.f60 (fun _ _ => none) ω v = spec_l17Text v.2.1.2.1 v.2.1.2.2.1 v.2.2.1 := by kernel_rfl
theorem s60 : SoundC Try.prog 60 c60 := sound_by0 (l := l60) tOk mx Try.func60 ⟨s99, trivial⟩ (by kernel_rfl) (by kernel_rfl) e60

/-! spec_l17Nums -/
abbrev i82 : Shp := ⟨[(0, .c (.ptr 0 0))], [.mem [.ref 1, .v tI, .v .bool], .sl 1 tU]⟩
abbrev o82 : Shp := ⟨[(0, .c (.ref 2))], [.mem [.ref 1, .v tI, .v .bool], .sl 1 tU, .sl 9 tI]⟩
noncomputable def c82 : Con := ⟨i82, o82, fun v => spec_l17Nums v.2.1.2.1 v.2.1.2.2.1 v.2.2.1⟩
noncomputable def l82 : List (Nat × Con) := [(59, c59)]
noncomputable def C82 : Cfg := ⟨T, gam l82, hintOf []⟩
abbrev h82_4 : Shp := ⟨[(0, .c (.ptr 0 0)), (3, .c (.v tI)), (4, .c (.ref 2)), (5, .c (.v tI))], [.mem [.ref 1, .v tI, .v .bool], .sl 1 tU, .sl 9 tI]⟩
noncomputable def j82 (n ℓ : Nat) (σ : St) : Option o82.V := if ℓ = 4 then jump 2 h82_4 (fun v => spec_l17Nums_L4 n v.1.2.1 v.1.2.2.2.1 v.2.1.2.1 v.2.1.2.2.1 v.2.2.1 v.2.2.2.1) σ else none
theorem q82_4 (n : Nat) (v : h82_4.V) (ω : List Bool) : loopF C82 c82 Try.f82 (j82 n) 4 ω (h82_4.st 26 v) = spec_l17Nums_step4 (spec_l17Nums_L4 n) v.1.2.1 v.1.2.2.2.1 v.2.1.2.1 v.2.1.2.2.1 v.2.2.1 v.2.2.2.1 := by kernel_rfl
theorem e82 (n : Nat) (ω : List Bool) (v : i82.V) : enterF C82 c82 Try.f82 (j82 n) ω v = spec_l17Nums_entry (spec_l17Nums_L4 n) v.2.1.2.1 v.2.1.2.2.1 v.2.2.1 := by kernel_rfl
theorem s82 : SoundC Try.prog 82 c82 := sound_by (l := l82) (J := j82) (L := [4]) tOk mx Try.func82 ⟨s59, trivial⟩ (by kernel_rfl) (by kernel_rfl)
  ⟨⟨h82_4, fun n v => spec_l17Nums_L4 n v.1.2.1 v.1.2.2.2.1 v.2.1.2.1 v.2.1.2.2.1 v.2.2.1 v.2.2.2.1, fun _ => rfl, fun _ => rfl, q82_4⟩, trivial⟩ FUEL (e82 FUEL)

/-! spec_l1In -/
abbrev i102 : Shp := ⟨[(0, .c (.v tI)), (1, .c (.v tI)), (2, .c (.v tI))], []⟩
abbrev o102 : Shp := ⟨[(0, .c (.v .bool))], []⟩
noncomputable def c102 : Con := ⟨i102, o102, fun v => spec_l1In v.1.1 v.1.2.1 v.1.2.2.1⟩
noncomputable def l102 : List (Nat × Con) := []
noncomputable def C102 : Cfg := ⟨T, gam l102, hintOf []⟩
theorem e102 (ω : List Bool) (v : i102.V) : enterF C102 c102 Try.f102 (fun _ _ => none) ω v = spec_l1In v.1.1 v.1.2.1 v.1.2.2.1 := by kernel_rfl
theorem s102 : SoundC Try.prog 102 c102 := sound_by0 (l := l102) tOk mx Try.func102 trivial (by kernel_rfl) (by kernel_rfl) e102

/-! spec_ConfigOk -/
abbrev i101 : Shp := ⟨[(0, .row Y0)], []⟩
abbrev o101 : Shp := ⟨[(0, .c (.v .bool))], []⟩
noncomputable def c101 : Con := ⟨i101, o101, fun v => spec_ConfigOk v.1.1⟩
noncomputable def l101 : List (Nat × Con) := [(102, c102)]
noncomputable def C101 : Cfg := ⟨T, gam l101, hintOf []⟩
abbrev h101_4 : Shp := ⟨[(1, .c (.ptr 0 0)), (3, .c (.v tI))], [.mem [.sl false tI, .v tI]]⟩
noncomputable def j101 (n ℓ : Nat) (σ : St) : Option o101.V := if ℓ = 4 then jump 0 h101_4 (fun v => spec_ConfigOk_L4 n v.1.2.1 v.2.1.1 v.2.1.2.1) σ else none
theorem q101_4 (n : Nat) (v : h101_4.V) (ω : List Bool) : loopF C101 c101 Try.f101 (j101 n) 4 ω (h101_4.st 29 v) = spec_ConfigOk_step4 (spec_ConfigOk_L4 n) v.1.2.1 v.2.1.1 v.2.1.2.1 := by kernel_rfl
theorem e101 (n : Nat) (ω : List Bool) (v : i101.V) : enterF C101 c101 Try.f101 (j101 n) ω v = spec_ConfigOk_entry (spec_ConfigOk_L4 n) v.1.1 := by kernel_rfl
theorem s101 : SoundC Try.prog 101 c101 := sound_by (l := l101) (J := j101) (L := [4]) tOk mx Try.func101 ⟨s102, trivial⟩ (by kernel_rfl) (by kernel_rfl)
  ⟨⟨h101_4, fun n v => spec_ConfigOk_L4 n v.1.2.1 v.2.1.1 v.2.1.2.1, fun _ => rfl, fun _ => rfl, q101_4⟩, trivial⟩ FUEL (e101 FUEL)

/-! spec_l4Asc -/
abbrev i120 : Shp := ⟨[(0, .c (.sl false tI)), (1, .c (.v tI)), (2, .c (.v tI))], []⟩
abbrev o120 : Shp := ⟨[(0, .c (.v .bool))], []⟩
noncomputable def c120 : Con := ⟨i120, o120, fun v => spec_l4Asc v.1.1 v.1.2.1 v.1.2.2.1⟩
noncomputable def l120 : List (Nat × Con) := [(102, c102)]
noncomputable def C120 : Cfg := ⟨T, gam l120, hintOf []⟩
abbrev h120_2 : Shp := ⟨[(0, .c (.sl false tI)), (1, .c (.v tI)), (2, .c (.v tI)), (7, .c (.v tI))], []⟩
noncomputable def j120 (n ℓ : Nat) (σ : St) : Option o120.V := if ℓ = 2 then jump 0 h120_2 (fun v => spec_l4Asc_L2 n v.1.1 v.1.2.1 v.1.2.2.1 v.1.2.2.2.1) σ else none
theorem q120_2 (n : Nat) (v : h120_2.V) (ω : List Bool) : loopF C120 c120 Try.f120 (j120 n) 2 ω (h120_2.st 38 v) = spec_l4Asc_step2 (spec_l4Asc_L2 n) v.1.1 v.1.2.1 v.1.2.2.1 v.1.2.2.2.1 := by kernel_rfl
theorem e120 (n : Nat) (ω : List Bool) (v : i120.V) : enterF C120 c120 Try.f120 (j120 n) ω v = spec_l4Asc_entry (spec_l4Asc_L2 n) v.1.1 v.1.2.1 v.1.2.2.1 := by kernel_rfl
theorem s120 : SoundC Try.prog 120 c120 := sound_by (l := l120) (J := j120) (L := [2]) tOk mx Try.func120 ⟨s102, trivial⟩ (by kernel_rfl) (by kernel_rfl)
  ⟨⟨h120_2, fun n v => spec_l4Asc_L2 n v.1.1 v.1.2.1 v.1.2.2.1 v.1.2.2.2.1, fun _ => rfl, fun _ => rfl, q120_2⟩, trivial⟩ FUEL (e120 FUEL)

/-! spec_NodesOk -/
abbrev i103 : Shp := ⟨[(0, .row Y0), (1, .c (.sl false tI))], []⟩
abbrev o103 : Shp := ⟨[(0, .c (.v .bool))], []⟩
noncomputable def c103 : Con := ⟨i103, o103, fun v => spec_NodesOk v.1.1 v.1.2.1⟩
noncomputable def l103 : List (Nat × Con) := [(101, c101), (120, c120)]
noncomputable def C103 : Cfg := ⟨T, gam l103, hintOf []⟩
theorem e103 (ω : List Bool) (v : i103.V) : enterF C103 c103 Try.f103 (fun _ _ => none) ω v = spec_NodesOk v.1.1 v.1.2.1 := by kernel_rfl
theorem s103 : SoundC Try.prog 103 c103 := sound_by0 (l := l103) tOk mx Try.func103 ⟨s101, s120, trivial⟩ (by kernel_rfl) (by kernel_rfl) e103

/-! spec_l4Span -/
abbrev i118 : Shp := ⟨[(0, .row Y0), (1, .c (.sl false tI))], []⟩
abbrev o118 : Shp := ⟨[(0, .c (.v tI))], []⟩
noncomputable def c118 : Con := ⟨i118, o118, fun v => spec_l4Span v.1.1 v.1.2.1⟩
noncomputable def l118 : List (Nat × Con) := []
noncomputable def C118 : Cfg := ⟨T, gam l118, hintOf [(6, [0, 1])]⟩
abbrev h118_4 : Shp := ⟨[(1, .c (.sl false tI)), (2, .c (.ptr 0 0)), (5, .c (.ref 1)), (6, .c (.v tI)), (7, .c (.v tI))], [.mem [.sl false tI, .v tI], .sl 9 .bool]⟩
noncomputable def j118 (n ℓ : Nat) (σ : St) : Option o118.V := if ℓ = 4 then jump 0 h118_4 (fun v => spec_l4Span_L4 n v.1.1 v.1.2.2.2.1 v.1.2.2.2.2.1 v.2.1.1 v.2.1.2.1 v.2.2.1) σ else none
theorem q118_4 (n : Nat) (v : h118_4.V) (ω : List Bool) : loopF C118 c118 Try.f118 (j118 n) 4 ω (h118_4.st 35 v) = spec_l4Span_step4 (spec_l4Span_L4 n) v.1.1 v.1.2.2.2.1 v.1.2.2.2.2.1 v.2.1.1 v.2.1.2.1 v.2.2.1 := by kernel_rfl
theorem e118 (n : Nat) (ω : List Bool) (v : i118.V) : enterF C118 c118 Try.f118 (j118 n) ω v = spec_l4Span_entry (spec_l4Span_L4 n) v.1.1 v.1.2.1 := by kernel_rfl
theorem s118 : SoundC Try.prog 118 c118 := sound_by (l := l118) (J := j118) (L := [4]) tOk mx Try.func118 trivial (by kernel_rfl) (by kernel_rfl)
  ⟨⟨h118_4, fun n v => spec_l4Span_L4 n v.1.1 v.1.2.2.2.1 v.1.2.2.2.2.1 v.2.1.1 v.2.1.2.1 v.2.2.1, fun _ => rfl, fun _ => rfl, q118_4⟩, trivial⟩ FUEL (e118 FUEL)

/-! spec_Holds -/
abbrev i86 : Shp := ⟨[(0, .row Y0), (1, .c (.sl false tI))], []⟩
abbrev o86 : Shp := ⟨[(0, .c (.v .bool))], []⟩
noncomputable def c86 : Con := ⟨i86, o86, fun v => spec_Holds v.1.1 v.1.2.1⟩
noncomputable def l86 : List (Nat × Con) := [(103, c103), (118, c118)]
noncomputable def C86 : Cfg := ⟨T, gam l86, hintOf [(1, [0])]⟩
theorem e86 (ω : List Bool) (v : i86.V) : enterF C86 c86 Try.f86 (fun _ _ => none) ω v = spec_Holds v.1.1 v.1.2.1 := by kernel_rfl
theorem s86 : SoundC Try.prog 86 c86 := sound_by0 (l := l86) tOk mx Try.func86 ⟨s103, s118, trivial⟩ (by kernel_rfl) (by kernel_rfl) e86

/-! spec_l17End -/
abbrev i61 : Shp := ⟨[(0, .c (.ptr 0 0))], [.mem [.ref 1, .v tI, .v .bool], .sl 1 tU]⟩
abbrev o61 : Shp := ⟨[(0, .c (.v .bool))], [.mem [.ref 1, .v tI, .v .bool], .sl 1 tU]⟩
noncomputable def c61 : Con := ⟨i61, o61, fun v => spec_l17End v.2.1.2.1 v.2.1.2.2.1 v.2.2.1⟩
noncomputable def l61 : List (Nat × Con) := []
noncomputable def C61 : Cfg := ⟨T, gam l61, hintOf [(1, [0, 1])]⟩
theorem e61 (ω : List Bool) (v : i61.V) : enterF C61 c61 Try.f61 (fun _ _ => none) ω v = spec_l17End v.2.1.2.1 v.2.1.2.2.1 v.2.2.1 := by kernel_rfl
theorem s61 : SoundC Try.prog 61 c61 := sound_by0 (l := l61) tOk mx Try.func61 trivial (by kernel_rfl) (by kernel_rfl) e61

/-! spec_WriterOk -/
abbrev i64 : Shp := ⟨[(0, .row Y0), (1, .row Y2)], []⟩
abbrev o64 : Shp := ⟨[(0, .c (.v .bool))], []⟩
noncomputable def c64 : Con := ⟨i64, o64, fun v => spec_WriterOk v.1.1 v.1.2.1⟩
noncomputable def l64 : List (Nat × Con) := [(86, c86), (101, c101), (102, c102), (103, c103)]
noncomputable def C64 : Cfg := ⟨T, gam l64, hintOf [(8, [0, 1, 2])]⟩
abbrev h64_5 : Shp := ⟨[(2, .c (.ptr 0 0)), (3, .c (.ptr 1 0)), (5, .c (.v tI)), (6, .c (.v tI))], [.mem [.sl false tI, .v tI], .mem [.v tI, .sl false Y1]]⟩
noncomputable def j64 (n ℓ : Nat) (σ : St) : Option o64.V := if ℓ = 5 then jump 0 h64_5 (fun v => spec_WriterOk_L5 n v.1.2.2.1 v.1.2.2.2.1 v.2.1.1 v.2.1.2.1 v.2.2.1.1 v.2.2.1.2.1) σ else none
theorem q64_5 (n : Nat) (v : h64_5.V) (ω : List Bool) : loopF C64 c64 Try.f64 (j64 n) 5 ω (h64_5.st 62 v) = spec_WriterOk_step5 (spec_WriterOk_L5 n) v.1.2.2.1 v.1.2.2.2.1 v.2.1.1 v.2.1.2.1 v.2.2.1.1 v.2.2.1.2.1 := by kernel_rfl
theorem e64 (n : Nat) (ω : List Bool) (v : i64.V) : enterF C64 c64 Try.f64 (j64 n) ω v = spec_WriterOk_entry (spec_WriterOk_L5 n) v.1.1 v.1.2.1 := by kernel_rfl
theorem s64 : SoundC Try.prog 64 c64 := sound_by (l := l64) (J := j64) (L := [5]) tOk mx Try.func64 ⟨s86, s101, s102, s103, trivial⟩ (by kernel_rfl) (by kernel_rfl)
  ⟨⟨h64_5, fun n v => spec_WriterOk_L5 n v.1.2.2.1 v.1.2.2.2.1 v.2.1.1 v.2.1.2.1 v.2.2.1.1 v.2.2.1.2.1, fun _ => rfl, fun _ => rfl, q64_5⟩, trivial⟩ FUEL (e64 FUEL)

/-! spec_WriterRead -/
abbrev i39 : Shp := ⟨[(0, .row Y0), (1, .c (.ref 0))], [.sl 1 tU]⟩
abbrev o39 : Shp := ⟨[(0, .tup [.inr [.v tI, .ref 1], .inl (.v .bool)])], [.sl 1 tU, .sl 9 Y1]⟩
noncomputable def c39 : Con := ⟨i39, o39, fun v => spec_WriterRead v.1.1 v.2.1⟩
noncomputable def l39 : List (Nat × Con) := [(59, c59), (60, c60), (61, c61), (64, c64), (82, c82), (86, c86)]
noncomputable def C39 : Cfg := ⟨T, gam l39, hintOf []⟩
abbrev h39_5 : Shp := ⟨[(2, .c (.ptr 1 0)), (4, .c (.ptr 2 0)), (6, .c (.ptr 4 0)), (7, .c (.ptr 5 0)), (8, .c (.v tI)), (9, .c (.v tI))], [.sl 1 tU, .mem [.sl false tI, .v tI], .mem [.v tI, .ref 3], .sl 9 Y1, .mem [.ref 0, .v tI, .v .bool], .mem [.v tI, .ref 6], .sl 9 Y1]⟩
noncomputable def j39 (n ℓ : Nat) (σ : St) : Option o39.V := if ℓ = 5 then jump 1 h39_5 (fun v => spec_WriterRead_L5 n v.1.2.2.2.2.1 v.1.2.2.2.2.2.1 v.2.1 v.2.2.1.1 v.2.2.1.2.1 v.2.2.2.1.1 v.2.2.2.2.1 v.2.2.2.2.2.1.2.1 v.2.2.2.2.2.1.2.2.1 v.2.2.2.2.2.2.1.1 v.2.2.2.2.2.2.2.1) σ else none
theorem q39_5 (n : Nat) (v : h39_5.V) (ω : List Bool) : loopF C39 c39 Try.f39 (j39 n) 5 ω (h39_5.st 58 v) = spec_WriterRead_step5 (spec_WriterRead_L5 n) v.1.2.2.2.2.1 v.1.2.2.2.2.2.1 v.2.1 v.2.2.1.1 v.2.2.1.2.1 v.2.2.2.1.1 v.2.2.2.2.1 v.2.2.2.2.2.1.2.1 v.2.2.2.2.2.1.2.2.1 v.2.2.2.2.2.2.1.1 v.2.2.2.2.2.2.2.1 := by kernel_rfl
theorem e39 (n : Nat) (ω : List Bool) (v : i39.V) : enterF C39 c39 Try.f39 (j39 n) ω v = spec_WriterRead_entry (spec_WriterRead_L5 n) v.1.1 v.2.1 := by kernel_rfl
theorem s39 : SoundC Try.prog 39 c39 := sound_by (l := l39) (J := j39) (L := [5]) tOk mx Try.func39 ⟨s59, s60, s61, s64, s82, s86, trivial⟩ (by kernel_rfl) (by kernel_rfl)
  ⟨⟨h39_5, fun n v => spec_WriterRead_L5 n v.1.2.2.2.2.1 v.1.2.2.2.2.2.1 v.2.1 v.2.2.1.1 v.2.2.1.2.1 v.2.2.2.1.1 v.2.2.2.2.1 v.2.2.2.2.2.1.2.1 v.2.2.2.2.2.1.2.2.1 v.2.2.2.2.2.2.1.1 v.2.2.2.2.2.2.2.1, fun _ => rfl, fun _ => rfl, q39_5⟩, trivial⟩ FUEL (e39 FUEL)

/-! impl_GetNum -/
abbrev i96 : Shp := ⟨[(0, .c (.sl false tU)), (1, .c (.v tI))], []⟩
abbrev o96 : Shp := ⟨[(0, .tup [.inl (.v tI), .inl (.v tI), .inl (.v .bool)])], []⟩
noncomputable def c96 : Con := ⟨i96, o96, fun v => impl_GetNum v.1.1 v.1.2.1⟩
noncomputable def l96 : List (Nat × Con) := []
noncomputable def C96 : Cfg := ⟨T, gam l96, hintOf []⟩
abbrev h96_5 : Shp := ⟨[(0, .c (.sl false tU)), (1, .c (.v tI)), (7, .c (.v tI)), (8, .c (.v tI))], []⟩
noncomputable def j96 (n ℓ : Nat) (σ : St) : Option o96.V := if ℓ = 5 then jump 0 h96_5 (fun v => impl_GetNum_L5 n v.1.1 v.1.2.1 v.1.2.2.1 v.1.2.2.2.1) σ else none
theorem q96_5 (n : Nat) (v : h96_5.V) (ω : List Bool) : loopF C96 c96 Try.f96 (j96 n) 5 ω (h96_5.st 51 v) = impl_GetNum_step5 (impl_GetNum_L5 n) v.1.1 v.1.2.1 v.1.2.2.1 v.1.2.2.2.1 := by kernel_rfl
theorem e96 (n : Nat) (ω : List Bool) (v : i96.V) : enterF C96 c96 Try.f96 (j96 n) ω v = impl_GetNum_entry (impl_GetNum_L5 n) v.1.1 v.1.2.1 := by kernel_rfl
theorem s96 : SoundC Try.prog 96 c96 := sound_by (l := l96) (J := j96) (L := [5]) tOk mx Try.func96 trivial (by kernel_rfl) (by kernel_rfl)
  ⟨⟨h96_5, fun n v => impl_GetNum_L5 n v.1.1 v.1.2.1 v.1.2.2.1 v.1.2.2.2.1, fun _ => rfl, fun _ => rfl, q96_5⟩, trivial⟩ FUEL (e96 FUEL)

/-! impl_reader_num -/
abbrev i51 : Shp := ⟨[(0, .c (.ptr 0 0))], [.mem [.ref 1, .v tI, .v .bool], .sl 1 tU]⟩
abbrev o51 : Shp := ⟨[(0, .c (.v tI))], [.mem [.ref 1, .v tI, .v .bool], .sl 1 tU]⟩
noncomputable def c51 : Con := ⟨i51, o51, fun v => impl_reader_num v.2.1.2.1 v.2.1.2.2.1 v.2.2.1⟩
noncomputable def l51 : List (Nat × Con) := [(96, c96)]
noncomputable def C51 : Cfg := ⟨T, gam l51, hintOf [(1, [0, 1])]⟩
theorem e51 (ω : List Bool) (v : i51.V) : enterF C51 c51 Try.f51 (fun _ _ => none) ω v = impl_reader_num v.2.1.2.1 v.2.1.2.2.1 v.2.2.1 := by kernel_rfl
theorem s51 : SoundC Try.prog 51 c51 := sound_by0 (l := l51) tOk mx Try.func51 ⟨s96, trivial⟩ (by kernel_rfl) (by kernel_rfl) e51

/-! impl_reader_count -/
abbrev i52 : Shp := ⟨[(0, .c (.ptr 0 0)), (1, .c (.v tI))], [.mem [.ref 1, .v tI, .v .bool], .sl 1 tU]⟩
abbrev o52 : Shp := ⟨[(0, .c (.v tI))], [.mem [.ref 1, .v tI, .v .bool], .sl 1 tU]⟩
noncomputable def c52 : Con := ⟨i52, o52, fun v => impl_reader_count v.1.2.1 v.2.1.2.1 v.2.1.2.2.1 v.2.2.1⟩
noncomputable def l52 : List (Nat × Con) := [(51, c51)]
noncomputable def C52 : Cfg := ⟨T, gam l52, hintOf []⟩
theorem e52 (ω : List Bool) (v : i52.V) : enterF C52 c52 Try.f52 (fun _ _ => none) ω v = impl_reader_count v.1.2.1 v.2.1.2.1 v.2.1.2.2.1 v.2.2.1 := by kernel_rfl
theorem s52 : SoundC Try.prog 52 c52 := sound_by0 (l := l52) tOk mx Try.func52 ⟨s51, trivial⟩ (by kernel_rfl) (by kernel_rfl) e52

/-! impl_reader_text -/
abbrev i53 : Shp := ⟨[(0, .c (.ptr 0 0))], [.mem [.ref 1, .v tI, .v .bool], .sl 1 tU]⟩
abbrev o53 : Shp := ⟨[(0, .c (.v .str))], [.mem [.ref 1, .v tI, .v .bool], .sl 1 tU]⟩
noncomputable def c53 : Con := ⟨i53, o53, fun v => impl_reader_text v.2.1.2.1 v.2.1.2.2.1 v.2.2.1⟩
noncomputable def l53 : List (Nat × Con) := [(51, c51)]
noncomputable def C53 : Cfg := ⟨T, gam l53, hintOf [(2, [0, 1, 3]), (6, [0, 1, 3])]⟩
theorem e53 (ω : List Bool) (v : i53.V) : enterF C53 c53 Try.f53 (fun _ _ => none) ω v = impl_reader_text v.2.1.2.1 v.2.1.2.2.1 v.2.2.1 := by kernel_rfl
theorem s53 : SoundC Try.prog 53 c53 := sound_by0 (l := l53) tOk mx Try.func53 ⟨s51, trivial⟩ (by kernel_rfl) (by kernel_rfl) e53

/-! impl_reader_list -/
abbrev i83 : Shp := ⟨[(0, .c (.ptr 0 0)), (1, .c (.v tI))], [.mem [.ref 1, .v tI, .v .bool], .sl 1 tU]⟩
abbrev o83 : Shp := ⟨[(0, .c (.ref 2))], [.mem [.ref 1, .v tI, .v .bool], .sl 1 tU, .sl 9 tI]⟩
noncomputable def c83 : Con := ⟨i83, o83, fun v => impl_reader_list v.1.2.1 v.2.1.2.1 v.2.1.2.2.1 v.2.2.1⟩
noncomputable def l83 : List (Nat × Con) := [(51, c51), (52, c52)]
noncomputable def C83 : Cfg := ⟨T, gam l83, hintOf []⟩
abbrev h83_4 : Shp := ⟨[(0, .c (.ptr 0 0)), (5, .c (.ref 2)), (12, .c (.v tI)), (13, .c (.v tI))], [.mem [.ref 1, .v tI, .v .bool], .sl 1 tU, .sl 9 tI]⟩
noncomputable def j83 (n ℓ : Nat) (σ : St) : Option o83.V := if ℓ = 4 then jump 2 h83_4 (fun v => impl_reader_list_L4 n v.1.2.2.1 v.1.2.2.2.1 v.2.1.2.1 v.2.1.2.2.1 v.2.2.1 v.2.2.2.1) σ else none
theorem q83_4 (n : Nat) (v : h83_4.V) (ω : List Bool) : loopF C83 c83 Try.f83 (j83 n) 4 ω (h83_4.st 23 v) = impl_reader_list_step4 (impl_reader_list_L4 n) v.1.2.2.1 v.1.2.2.2.1 v.2.1.2.1 v.2.1.2.2.1 v.2.2.1 v.2.2.2.1 := by kernel_rfl
theorem e83 (n : Nat) (ω : List Bool) (v : i83.V) : enterF C83 c83 Try.f83 (j83 n) ω v = impl_reader_list_entry (impl_reader_list_L4 n) v.1.2.1 v.2.1.2.1 v.2.1.2.2.1 v.2.2.1 := by kernel_rfl
theorem s83 : SoundC Try.prog 83 c83 := sound_by (l := l83) (J := j83) (L := [4]) tOk mx Try.func83 ⟨s51, s52, trivial⟩ (by kernel_rfl) (by kernel_rfl)
  ⟨⟨h83_4, fun n v => impl_reader_list_L4 n v.1.2.2.1 v.1.2.2.2.1 v.2.1.2.1 v.2.1.2.2.1 v.2.2.1 v.2.2.2.1, fun _ => rfl, fun _ => rfl, q83_4⟩, trivial⟩ FUEL (e83 FUEL)

/-! impl_within -/
abbrev i91 : Shp := ⟨[(0, .c (.v tI)), (1, .c (.v tI)), (2, .c (.v tI))], []⟩
abbrev o91 : Shp := ⟨[(0, .c (.v .bool))], []⟩
noncomputable def c91 : Con := ⟨i91, o91, fun v => impl_within v.1.1 v.1.2.1 v.1.2.2.1⟩
noncomputable def l91 : List (Nat × Con) := []
noncomputable def C91 : Cfg := ⟨T, gam l91, hintOf []⟩
theorem e91 (ω : List Bool) (v : i91.V) : enterF C91 c91 Try.f91 (fun _ _ => none) ω v = impl_within v.1.1 v.1.2.1 v.1.2.2.1 := by kernel_rfl
theorem s91 : SoundC Try.prog 91 c91 := sound_by0 (l := l91) tOk mx Try.func91 trivial (by kernel_rfl) (by kernel_rfl) e91

/-! impl_ConfigOk -/
abbrev i106 : Shp := ⟨[(0, .row Y0)], []⟩
abbrev o106 : Shp := ⟨[(0, .c (.v .bool))], []⟩
noncomputable def c106 : Con := ⟨i106, o106, fun v => impl_ConfigOk v.1.1⟩
noncomputable def l106 : List (Nat × Con) := [(91, c91)]
noncomputable def C106 : Cfg := ⟨T, gam l106, hintOf []⟩
abbrev h106_2 : Shp := ⟨[(1, .c (.ptr 0 0)), (6, .c (.sl false tI)), (7, .c (.v tI)), (8, .c (.v tI))], [.mem [.sl false tI, .v tI]]⟩
noncomputable def j106 (n ℓ : Nat) (σ : St) : Option o106.V := if ℓ = 2 then jump 0 h106_2 (fun v => impl_ConfigOk_L2 n v.1.2.1 v.1.2.2.1 v.1.2.2.2.1 v.2.1.1 v.2.1.2.1) σ else none
theorem q106_2 (n : Nat) (v : h106_2.V) (ω : List Bool) : loopF C106 c106 Try.f106 (j106 n) 2 ω (h106_2.st 25 v) = impl_ConfigOk_step2 (impl_ConfigOk_L2 n) v.1.2.1 v.1.2.2.1 v.1.2.2.2.1 v.2.1.1 v.2.1.2.1 := by kernel_rfl
theorem e106 (n : Nat) (ω : List Bool) (v : i106.V) : enterF C106 c106 Try.f106 (j106 n) ω v = impl_ConfigOk_entry (impl_ConfigOk_L2 n) v.1.1 := by kernel_rfl
theorem s106 : SoundC Try.prog 106 c106 := sound_by (l := l106) (J := j106) (L := [2]) tOk mx Try.func106 ⟨s91, trivial⟩ (by kernel_rfl) (by kernel_rfl)
  ⟨⟨h106_2, fun n v => impl_ConfigOk_L2 n v.1.2.1 v.1.2.2.1 v.1.2.2.2.1 v.2.1.1 v.2.1.2.1, fun _ => rfl, fun _ => rfl, q106_2⟩, trivial⟩ FUEL (e106 FUEL)

/-! impl_ascends -/
abbrev i121 : Shp := ⟨[(0, .c (.sl false tI)), (1, .c (.v tI))], []⟩
abbrev o121 : Shp := ⟨[(0, .c (.v .bool))], []⟩
noncomputable def c121 : Con := ⟨i121, o121, fun v => impl_ascends v.1.1 v.1.2.1⟩
noncomputable def l121 : List (Nat × Con) := [(91, c91)]
noncomputable def C121 : Cfg := ⟨T, gam l121, hintOf []⟩
abbrev h121_2 : Shp := ⟨[(0, .c (.sl false tI)), (1, .c (.v tI)), (7, .c (.sl false tI)), (8, .c (.v tI)), (9, .c (.v tI))], []⟩
noncomputable def j121 (n ℓ : Nat) (σ : St) : Option o121.V := if ℓ = 2 then jump 0 h121_2 (fun v => impl_ascends_L2 n v.1.1 v.1.2.1 v.1.2.2.1 v.1.2.2.2.1 v.1.2.2.2.2.1) σ else none
theorem q121_2 (n : Nat) (v : h121_2.V) (ω : List Bool) : loopF C121 c121 Try.f121 (j121 n) 2 ω (h121_2.st 32 v) = impl_ascends_step2 (impl_ascends_L2 n) v.1.1 v.1.2.1 v.1.2.2.1 v.1.2.2.2.1 v.1.2.2.2.2.1 := by kernel_rfl
theorem e121 (n : Nat) (ω : List Bool) (v : i121.V) : enterF C121 c121 Try.f121 (j121 n) ω v = impl_ascends_entry (impl_ascends_L2 n) v.1.1 v.1.2.1 := by kernel_rfl
theorem s121 : SoundC Try.prog 121 c121 := sound_by (l := l121) (J := j121) (L := [2]) tOk mx Try.func121 ⟨s91, trivial⟩ (by kernel_rfl) (by kernel_rfl)
  ⟨⟨h121_2, fun n v => impl_ascends_L2 n v.1.1 v.1.2.1 v.1.2.2.1 v.1.2.2.2.1 v.1.2.2.2.2.1, fun _ => rfl, fun _ => rfl, q121_2⟩, trivial⟩ FUEL (e121 FUEL)

/-! impl_NodesOk -/
abbrev i105 : Shp := ⟨[(0, .row Y0), (1, .c (.sl false tI))], []⟩
abbrev o105 : Shp := ⟨[(0, .c (.v .bool))], []⟩
noncomputable def c105 : Con := ⟨i105, o105, fun v => impl_NodesOk v.1.1 v.1.2.1⟩
noncomputable def l105 : List (Nat × Con) := [(106, c106), (121, c121)]
noncomputable def C105 : Cfg := ⟨T, gam l105, hintOf []⟩
theorem e105 (ω : List Bool) (v : i105.V) : enterF C105 c105 Try.f105 (fun _ _ => none) ω v = impl_NodesOk v.1.1 v.1.2.1 := by kernel_rfl
theorem s105 : SoundC Try.prog 105 c105 := sound_by0 (l := l105) tOk mx Try.func105 ⟨s106, s121, trivial⟩ (by kernel_rfl) (by kernel_rfl) e105

/-! slices_Index_int_int -/
abbrev i125 : Shp := ⟨[(0, .c (.sl false tI)), (1, .c (.v tI))], []⟩
abbrev o125 : Shp := ⟨[(0, .c (.v tI))], []⟩
noncomputable def c125 : Con := ⟨i125, o125, fun v => slices_Index_int_int v.1.1 v.1.2.1⟩
noncomputable def l125 : List (Nat × Con) := []
noncomputable def C125 : Cfg := ⟨T, gam l125, hintOf []⟩
abbrev h125_2 : Shp := ⟨[(0, .c (.sl false tI)), (1, .c (.v tI)), (7, .c (.v tI)), (8, .c (.v tI))], []⟩
noncomputable def j125 (n ℓ : Nat) (σ : St) : Option o125.V := if ℓ = 2 then jump 0 h125_2 (fun v => slices_Index_int_int_L2 n v.1.1 v.1.2.1 v.1.2.2.1 v.1.2.2.2.1) σ else none
theorem q125_2 (n : Nat) (v : h125_2.V) (ω : List Bool) : loopF C125 c125 Try.f125 (j125 n) 2 ω (h125_2.st 19 v) = slices_Index_int_int_step2 (slices_Index_int_int_L2 n) v.1.1 v.1.2.1 v.1.2.2.1 v.1.2.2.2.1 := by kernel_rfl
theorem e125 (n : Nat) (ω : List Bool) (v : i125.V) : enterF C125 c125 Try.f125 (j125 n) ω v = slices_Index_int_int_entry (slices_Index_int_int_L2 n) v.1.1 v.1.2.1 := by kernel_rfl
theorem s125 : SoundC Try.prog 125 c125 := sound_by (l := l125) (J := j125) (L := [2]) tOk mx Try.func125 trivial (by kernel_rfl) (by kernel_rfl)
  ⟨⟨h125_2, fun n v => slices_Index_int_int_L2 n v.1.1 v.1.2.1 v.1.2.2.1 v.1.2.2.2.1, fun _ => rfl, fun _ => rfl, q125_2⟩, trivial⟩ FUEL (e125 FUEL)

/-! slices_Contains_int_int -/
abbrev i123 : Shp := ⟨[(0, .c (.sl false tI)), (1, .c (.v tI))], []⟩
abbrev o123 : Shp := ⟨[(0, .c (.v .bool))], []⟩
noncomputable def c123 : Con := ⟨i123, o123, fun v => slices_Contains_int_int v.1.1 v.1.2.1⟩
noncomputable def l123 : List (Nat × Con) := [(125, c125)]
noncomputable def C123 : Cfg := ⟨T, gam l123, hintOf []⟩
theorem e123 (ω : List Bool) (v : i123.V) : enterF C123 c123 Try.f123 (fun _ _ => none) ω v = slices_Contains_int_int v.1.1 v.1.2.1 := by kernel_rfl
theorem s123 : SoundC Try.prog 123 c123 := sound_by0 (l := l123) tOk mx Try.func123 ⟨s125, trivial⟩ (by kernel_rfl) (by kernel_rfl) e123

/-! impl_SpanOf -/
abbrev i119 : Shp := ⟨[(0, .row Y0), (1, .c (.sl false tI))], []⟩
abbrev o119 : Shp := ⟨[(0, .c (.v tI))], []⟩
noncomputable def c119 : Con := ⟨i119, o119, fun v => impl_SpanOf v.1.1 v.1.2.1⟩
noncomputable def l119 : List (Nat × Con) := [(105, c105), (123, c123)]
noncomputable def C119 : Cfg := ⟨T, gam l119, hintOf []⟩
abbrev h119_5 : Shp := ⟨[(2, .c (.ptr 0 0)), (5, .c (.ref 1)), (13, .c (.sl false tI)), (14, .c (.v tI)), (15, .c (.v tI))], [.mem [.sl false tI, .v tI], .sl 9 tI]⟩
noncomputable def j119 (n ℓ : Nat) (σ : St) : Option o119.V := if ℓ = 5 then jump 0 h119_5 (fun v => impl_SpanOf_L5 n v.1.2.2.1 v.1.2.2.2.1 v.1.2.2.2.2.1 v.2.1.1 v.2.1.2.1 v.2.2.1) σ else none
theorem q119_5 (n : Nat) (v : h119_5.V) (ω : List Bool) : loopF C119 c119 Try.f119 (j119 n) 5 ω (h119_5.st 38 v) = impl_SpanOf_step5 (impl_SpanOf_L5 n) v.1.2.2.1 v.1.2.2.2.1 v.1.2.2.2.2.1 v.2.1.1 v.2.1.2.1 v.2.2.1 := by kernel_rfl
theorem e119 (n : Nat) (ω : List Bool) (v : i119.V) : enterF C119 c119 Try.f119 (j119 n) ω v = impl_SpanOf_entry (impl_SpanOf_L5 n) v.1.1 v.1.2.1 := by kernel_rfl
theorem s119 : SoundC Try.prog 119 c119 := sound_by (l := l119) (J := j119) (L := [5]) tOk mx Try.func119 ⟨s105, s123, trivial⟩ (by kernel_rfl) (by kernel_rfl)
  ⟨⟨h119_5, fun n v => impl_SpanOf_L5 n v.1.2.2.1 v.1.2.2.2.1 v.1.2.2.2.2.1 v.2.1.1 v.2.1.2.1 v.2.2.1, fun _ => rfl, fun _ => rfl, q119_5⟩, trivial⟩ FUEL (e119 FUEL)

/-! impl_Holds -/
abbrev i87 : Shp := ⟨[(0, .row Y0), (1, .c (.sl false tI))], []⟩
abbrev o87 : Shp := ⟨[(0, .c (.v .bool))], []⟩
noncomputable def c87 : Con := ⟨i87, o87, fun v => impl_Holds v.1.1 v.1.2.1⟩
noncomputable def l87 : List (Nat × Con) := [(105, c105), (119, c119)]
noncomputable def C87 : Cfg := ⟨T, gam l87, hintOf [(1, [0])]⟩
theorem e87 (ω : List Bool) (v : i87.V) : enterF C87 c87 Try.f87 (fun _ _ => none) ω v = impl_Holds v.1.1 v.1.2.1 := by kernel_rfl
theorem s87 : SoundC Try.prog 87 c87 := sound_by0 (l := l87) tOk mx Try.func87 ⟨s105, s119, trivial⟩ (by kernel_rfl) (by kernel_rfl) e87

/-! impl_reader_done -/
abbrev i54 : Shp := ⟨[(0, .c (.ptr 0 0))], [.mem [.ref 1, .v tI, .v .bool], .sl 1 tU]⟩
abbrev o54 : Shp := ⟨[(0, .c (.v .bool))], [.mem [.ref 1, .v tI, .v .bool], .sl 1 tU]⟩
noncomputable def c54 : Con := ⟨i54, o54, fun v => impl_reader_done v.2.1.2.1 v.2.1.2.2.1 v.2.2.1⟩
noncomputable def l54 : List (Nat × Con) := []
noncomputable def C54 : Cfg := ⟨T, gam l54, hintOf [(1, [0, 1])]⟩
theorem e54 (ω : List Bool) (v : i54.V) : enterF C54 c54 Try.f54 (fun _ _ => none) ω v = impl_reader_done v.2.1.2.1 v.2.1.2.2.1 v.2.2.1 := by kernel_rfl
theorem s54 : SoundC Try.prog 54 c54 := sound_by0 (l := l54) tOk mx Try.func54 trivial (by kernel_rfl) (by kernel_rfl) e54

/-! impl_dataOk -/
abbrev i93 : Shp := ⟨[(0, .c (.v .str))], []⟩
abbrev o93 : Shp := ⟨[(0, .c (.v .bool))], []⟩
noncomputable def c93 : Con := ⟨i93, o93, fun v => impl_dataOk v.1.1⟩
noncomputable def l93 : List (Nat × Con) := []
noncomputable def C93 : Cfg := ⟨T, gam l93, hintOf []⟩
theorem e93 (ω : List Bool) (v : i93.V) : enterF C93 c93 Try.f93 (fun _ _ => none) ω v = impl_dataOk v.1.1 := by kernel_rfl
theorem s93 : SoundC Try.prog 93 c93 := sound_by0 (l := l93) tOk mx Try.func93 trivial (by kernel_rfl) (by kernel_rfl) e93

/-! impl_flagNum -/
abbrev i79 : Shp := ⟨[(0, .c (.v .bool))], []⟩
abbrev o79 : Shp := ⟨[(0, .c (.v tI))], []⟩
noncomputable def c79 : Con := ⟨i79, o79, fun v => impl_flagNum v.1.1⟩
noncomputable def l79 : List (Nat × Con) := []
noncomputable def C79 : Cfg := ⟨T, gam l79, hintOf []⟩
theorem e79 (ω : List Bool) (v : i79.V) : enterF C79 c79 Try.f79 (fun _ _ => none) ω v = impl_flagNum v.1.1 := by kernel_rfl
theorem s79 : SoundC Try.prog 79 c79 := sound_by0 (l := l79) tOk mx Try.func79 trivial (by kernel_rfl) (by kernel_rfl) e79

/-! impl_isEpoch -/
abbrev i107 : Shp := ⟨[(0, .c (.v tI))], []⟩
abbrev o107 : Shp := ⟨[(0, .c (.v .bool))], []⟩
noncomputable def c107 : Con := ⟨i107, o107, fun v => impl_isEpoch v.1.1⟩
noncomputable def l107 : List (Nat × Con) := [(91, c91)]
noncomputable def C107 : Cfg := ⟨T, gam l107, hintOf []⟩
theorem e107 (ω : List Bool) (v : i107.V) : enterF C107 c107 Try.f107 (fun _ _ => none) ω v = impl_isEpoch v.1.1 := by kernel_rfl
theorem s107 : SoundC Try.prog 107 c107 := sound_by0 (l := l107) tOk mx Try.func107 ⟨s91, trivial⟩ (by kernel_rfl) (by kernel_rfl) e107

/-! impl_WriterOk -/
abbrev i68 : Shp := ⟨[(0, .row Y0), (1, .row Y2)], []⟩
abbrev o68 : Shp := ⟨[(0, .c (.v .bool))], []⟩
noncomputable def c68 : Con := ⟨i68, o68, fun v => impl_WriterOk v.1.1 v.1.2.1⟩
noncomputable def l68 : List (Nat × Con) := [(79, c79), (87, c87), (93, c93), (105, c105), (106, c106), (107, c107)]
noncomputable def C68 : Cfg := ⟨T, gam l68, hintOf [(5, [0, 1, 2])]⟩
abbrev h68_3 : Shp := ⟨[(2, .c (.ptr 0 0)), (3, .c (.ptr 1 0)), (5, .c (.v tI)), (9, .c (.sl false Y1)), (10, .c (.v tI)), (11, .c (.v tI))], [.mem [.sl false tI, .v tI], .mem [.v tI, .sl false Y1]]⟩
noncomputable def j68 (n ℓ : Nat) (σ : St) : Option o68.V := if ℓ = 3 then jump 0 h68_3 (fun v => impl_WriterOk_L3 n v.1.2.2.1 v.1.2.2.2.1 v.1.2.2.2.2.1 v.1.2.2.2.2.2.1 v.2.1.1 v.2.1.2.1 v.2.2.1.1 v.2.2.1.2.1) σ else none
theorem q68_3 (n : Nat) (v : h68_3.V) (ω : List Bool) : loopF C68 c68 Try.f68 (j68 n) 3 ω (h68_3.st 59 v) = impl_WriterOk_step3 (impl_WriterOk_L3 n) v.1.2.2.1 v.1.2.2.2.1 v.1.2.2.2.2.1 v.1.2.2.2.2.2.1 v.2.1.1 v.2.1.2.1 v.2.2.1.1 v.2.2.1.2.1 := by kernel_rfl
theorem e68 (n : Nat) (ω : List Bool) (v : i68.V) : enterF C68 c68 Try.f68 (j68 n) ω v = impl_WriterOk_entry (impl_WriterOk_L3 n) v.1.1 v.1.2.1 := by kernel_rfl
theorem s68 : SoundC Try.prog 68 c68 := sound_by (l := l68) (J := j68) (L := [3]) tOk mx Try.func68 ⟨s79, s87, s93, s105, s106, s107, trivial⟩ (by kernel_rfl) (by kernel_rfl)
  ⟨⟨h68_3, fun n v => impl_WriterOk_L3 n v.1.2.2.1 v.1.2.2.2.1 v.1.2.2.2.2.1 v.1.2.2.2.2.2.1 v.2.1.1 v.2.1.2.1 v.2.2.1.1 v.2.2.1.2.1, fun _ => rfl, fun _ => rfl, q68_3⟩, trivial⟩ FUEL (e68 FUEL)

/-! impl_WriterRead -/
abbrev i40 : Shp := ⟨[(0, .row Y0), (1, .c (.ref 0))], [.sl 1 tU]⟩
abbrev o40 : Shp := ⟨[(0, .tup [.inr [.v tI, .ref 1], .inl (.v .bool)])], [.sl 1 tU, .sl 9 Y1]⟩
noncomputable def c40 : Con := ⟨i40, o40, fun v => impl_WriterRead v.1.1 v.2.1⟩
noncomputable def l40 : List (Nat × Con) := [(51, c51), (52, c52), (53, c53), (54, c54), (68, c68), (83, c83), (87, c87)]
noncomputable def C40 : Cfg := ⟨T, gam l40, hintOf []⟩
abbrev h40_6 : Shp := ⟨[(2, .c (.ptr 1 0)), (4, .c (.ptr 2 0)), (6, .c (.ptr 4 0)), (7, .c (.ptr 5 0)), (8, .c (.v tI)), (9, .c (.v tI))], [.sl 1 tU, .mem [.sl false tI, .v tI], .mem [.v tI, .ref 3], .sl 9 Y1, .mem [.ref 0, .v tI, .v .bool], .mem [.v tI, .ref 6], .sl 9 Y1]⟩
noncomputable def j40 (n ℓ : Nat) (σ : St) : Option o40.V := if ℓ = 6 then jump 1 h40_6 (fun v => impl_WriterRead_L6 n v.1.2.2.2.2.1 v.1.2.2.2.2.2.1 v.2.1 v.2.2.1.1 v.2.2.1.2.1 v.2.2.2.1.1 v.2.2.2.2.1 v.2.2.2.2.2.1.2.1 v.2.2.2.2.2.1.2.2.1 v.2.2.2.2.2.2.1.1 v.2.2.2.2.2.2.2.1) σ else none
theorem q40_6 (n : Nat) (v : h40_6.V) (ω : List Bool) : loopF C40 c40 Try.f40 (j40 n) 6 ω (h40_6.st 61 v) = impl_WriterRead_step6 (impl_WriterRead_L6 n) v.1.2.2.2.2.1 v.1.2.2.2.2.2.1 v.2.1 v.2.2.1.1 v.2.2.1.2.1 v.2.2.2.1.1 v.2.2.2.2.1 v.2.2.2.2.2.1.2.1 v.2.2.2.2.2.1.2.2.1 v.2.2.2.2.2.2.1.1 v.2.2.2.2.2.2.2.1 := by kernel_rfl
theorem e40 (n : Nat) (ω : List Bool) (v : i40.V) : enterF C40 c40 Try.f40 (j40 n) ω v = impl_WriterRead_entry (impl_WriterRead_L6 n) v.1.1 v.2.1 := by kernel_rfl
theorem s40 : SoundC Try.prog 40 c40 := sound_by (l := l40) (J := j40) (L := [6]) tOk mx Try.func40 ⟨s51, s52, s53, s54, s68, s83, s87, trivial⟩ (by kernel_rfl) (by kernel_rfl)
  ⟨⟨h40_6, fun n v => impl_WriterRead_L6 n v.1.2.2.2.2.1 v.1.2.2.2.2.2.1 v.2.1 v.2.2.1.1 v.2.2.1.2.1 v.2.2.2.1.1 v.2.2.2.2.1 v.2.2.2.2.2.1.2.1 v.2.2.2.2.2.1.2.2.1 v.2.2.2.2.2.2.1.1 v.2.2.2.2.2.2.2.1, fun _ => rfl, fun _ => rfl, q40_6⟩, trivial⟩ FUEL (e40 FUEL)

/-! laws_eqIntS -/
abbrev i70 : Shp := ⟨[(0, .c (.sl false tI)), (1, .c (.sl false tI))], []⟩
abbrev o70 : Shp := ⟨[(0, .c (.v .bool))], []⟩
noncomputable def c70 : Con := ⟨i70, o70, fun v => laws_eqIntS v.1.1 v.1.2.1⟩
noncomputable def l70 : List (Nat × Con) := []
noncomputable def C70 : Cfg := ⟨T, gam l70, hintOf []⟩
abbrev h70_4 : Shp := ⟨[(0, .c (.sl false tI)), (1, .c (.sl false tI)), (5, .c (.v tI))], []⟩
noncomputable def j70 (n ℓ : Nat) (σ : St) : Option o70.V := if ℓ = 4 then jump 0 h70_4 (fun v => laws_eqIntS_L4 n v.1.1 v.1.2.1 v.1.2.2.1) σ else none
theorem q70_4 (n : Nat) (v : h70_4.V) (ω : List Bool) : loopF C70 c70 Try.f70 (j70 n) 4 ω (h70_4.st 26 v) = laws_eqIntS_step4 (laws_eqIntS_L4 n) v.1.1 v.1.2.1 v.1.2.2.1 := by kernel_rfl
theorem e70 (n : Nat) (ω : List Bool) (v : i70.V) : enterF C70 c70 Try.f70 (j70 n) ω v = laws_eqIntS_entry (laws_eqIntS_L4 n) v.1.1 v.1.2.1 := by kernel_rfl
theorem s70 : SoundC Try.prog 70 c70 := sound_by (l := l70) (J := j70) (L := [4]) tOk mx Try.func70 trivial (by kernel_rfl) (by kernel_rfl)
  ⟨⟨h70_4, fun n v => laws_eqIntS_L4 n v.1.1 v.1.2.1 v.1.2.2.1, fun _ => rfl, fun _ => rfl, q70_4⟩, trivial⟩ FUEL (e70 FUEL)

/-! laws_eqWord -/
abbrev i108 : Shp := ⟨[(0, .row Y1), (1, .row Y1)], []⟩
abbrev o108 : Shp := ⟨[(0, .c (.v .bool))], []⟩
noncomputable def c108 : Con := ⟨i108, o108, fun v => laws_eqWord v.1.1 v.1.2.1⟩
noncomputable def l108 : List (Nat × Con) := [(70, c70)]
noncomputable def C108 : Cfg := ⟨T, gam l108, hintOf []⟩
theorem e108 (ω : List Bool) (v : i108.V) : enterF C108 c108 Try.f108 (fun _ _ => none) ω v = laws_eqWord v.1.1 v.1.2.1 := by kernel_rfl
theorem s108 : SoundC Try.prog 108 c108 := sound_by0 (l := l108) tOk mx Try.func108 ⟨s70, trivial⟩ (by kernel_rfl) (by kernel_rfl) e108

/-! laws_eqWordS -/
abbrev i71 : Shp := ⟨[(0, .c (.sl false Y1)), (1, .c (.sl false Y1))], []⟩
abbrev o71 : Shp := ⟨[(0, .c (.v .bool))], []⟩
noncomputable def c71 : Con := ⟨i71, o71, fun v => laws_eqWordS v.1.1 v.1.2.1⟩
noncomputable def l71 : List (Nat × Con) := [(108, c108)]
noncomputable def C71 : Cfg := ⟨T, gam l71, hintOf []⟩
abbrev h71_4 : Shp := ⟨[(0, .c (.sl false Y1)), (1, .c (.sl false Y1)), (5, .c (.v tI))], []⟩
noncomputable def j71 (n ℓ : Nat) (σ : St) : Option o71.V := if ℓ = 4 then jump 0 h71_4 (fun v => laws_eqWordS_L4 n v.1.1 v.1.2.1 v.1.2.2.1) σ else none
theorem q71_4 (n : Nat) (v : h71_4.V) (ω : List Bool) : loopF C71 c71 Try.f71 (j71 n) 4 ω (h71_4.st 27 v) = laws_eqWordS_step4 (laws_eqWordS_L4 n) v.1.1 v.1.2.1 v.1.2.2.1 := by kernel_rfl
theorem e71 (n : Nat) (ω : List Bool) (v : i71.V) : enterF C71 c71 Try.f71 (j71 n) ω v = laws_eqWordS_entry (laws_eqWordS_L4 n) v.1.1 v.1.2.1 := by kernel_rfl
theorem s71 : SoundC Try.prog 71 c71 := sound_by (l := l71) (J := j71) (L := [4]) tOk mx Try.func71 ⟨s108, trivial⟩ (by kernel_rfl) (by kernel_rfl)
  ⟨⟨h71_4, fun n v => laws_eqWordS_L4 n v.1.1 v.1.2.1 v.1.2.2.1, fun _ => rfl, fun _ => rfl, q71_4⟩, trivial⟩ FUEL (e71 FUEL)

/-! laws_eqWriter -/
abbrev i24 : Shp := ⟨[(0, .row Y2), (1, .row Y2)], []⟩
abbrev o24 : Shp := ⟨[(0, .c (.v .bool))], []⟩
noncomputable def c24 : Con := ⟨i24, o24, fun v => laws_eqWriter v.1.1 v.1.2.1⟩
noncomputable def l24 : List (Nat × Con) := [(71, c71)]
noncomputable def C24 : Cfg := ⟨T, gam l24, hintOf []⟩
theorem e24 (ω : List Bool) (v : i24.V) : enterF C24 c24 Try.f24 (fun _ _ => none) ω v = laws_eqWriter v.1.1 v.1.2.1 := by kernel_rfl
theorem s24 : SoundC Try.prog 24 c24 := sound_by0 (l := l24) tOk mx Try.func24 ⟨s71, trivial⟩ (by kernel_rfl) (by kernel_rfl) e24

/-! laws_eqConfig -/
abbrev i23 : Shp := ⟨[(0, .row Y0), (1, .row Y0)], []⟩
abbrev o23 : Shp := ⟨[(0, .c (.v .bool))], []⟩
noncomputable def c23 : Con := ⟨i23, o23, fun v => laws_eqConfig v.1.1 v.1.2.1⟩
noncomputable def l23 : List (Nat × Con) := [(70, c70)]
noncomputable def C23 : Cfg := ⟨T, gam l23, hintOf []⟩
theorem e23 (ω : List Bool) (v : i23.V) : enterF C23 c23 Try.f23 (fun _ _ => none) ω v = laws_eqConfig v.1.1 v.1.2.1 := by kernel_rfl
theorem s23 : SoundC Try.prog 23 c23 := sound_by0 (l := l23) tOk mx Try.func23 ⟨s70, trivial⟩ (by kernel_rfl) (by kernel_rfl) e23

/-! laws_eqByteS -/
abbrev i22 : Shp := ⟨[(0, .c (.sl false tU)), (1, .c (.sl false tU))], []⟩
abbrev o22 : Shp := ⟨[(0, .c (.v .bool))], []⟩
noncomputable def c22 : Con := ⟨i22, o22, fun v => laws_eqByteS v.1.1 v.1.2.1⟩
noncomputable def l22 : List (Nat × Con) := []
noncomputable def C22 : Cfg := ⟨T, gam l22, hintOf []⟩
abbrev h22_4 : Shp := ⟨[(0, .c (.sl false tU)), (1, .c (.sl false tU)), (5, .c (.v tI))], []⟩
noncomputable def j22 (n ℓ : Nat) (σ : St) : Option o22.V := if ℓ = 4 then jump 0 h22_4 (fun v => laws_eqByteS_L4 n v.1.1 v.1.2.1 v.1.2.2.1) σ else none
theorem q22_4 (n : Nat) (v : h22_4.V) (ω : List Bool) : loopF C22 c22 Try.f22 (j22 n) 4 ω (h22_4.st 26 v) = laws_eqByteS_step4 (laws_eqByteS_L4 n) v.1.1 v.1.2.1 v.1.2.2.1 := by kernel_rfl
theorem e22 (n : Nat) (ω : List Bool) (v : i22.V) : enterF C22 c22 Try.f22 (j22 n) ω v = laws_eqByteS_entry (laws_eqByteS_L4 n) v.1.1 v.1.2.1 := by kernel_rfl
theorem s22 : SoundC Try.prog 22 c22 := sound_by (l := l22) (J := j22) (L := [4]) tOk mx Try.func22 trivial (by kernel_rfl) (by kernel_rfl)
  ⟨⟨h22_4, fun n v => laws_eqByteS_L4 n v.1.1 v.1.2.1 v.1.2.2.1, fun _ => rfl, fun _ => rfl, q22_4⟩, trivial⟩ FUEL (e22 FUEL)

/-! laws_markIntS -/
abbrev i72 : Shp := ⟨[(0, .c (.ref 0)), (1, .c (.v tI))], [.sl 1 tI]⟩
abbrev o72 : Shp := ⟨[(0, .c (.v tI))], [.sl 1 tI]⟩
noncomputable def c72 : Con := ⟨i72, o72, fun v => laws_markIntS v.1.2.1 v.2.1⟩
noncomputable def l72 : List (Nat × Con) := []
noncomputable def C72 : Cfg := ⟨T, gam l72, hintOf []⟩
abbrev h72_2 : Shp := ⟨[(0, .c (.ref 0)), (1, .c (.v tI)), (5, .c (.v tI))], [.sl 1 tI]⟩
noncomputable def j72 (n ℓ : Nat) (σ : St) : Option o72.V := if ℓ = 2 then jump 1 h72_2 (fun v => laws_markIntS_L2 n v.1.2.1 v.1.2.2.1 v.2.1) σ else none
theorem q72_2 (n : Nat) (v : h72_2.V) (ω : List Bool) : loopF C72 c72 Try.f72 (j72 n) 2 ω (h72_2.st 19 v) = laws_markIntS_step2 (laws_markIntS_L2 n) v.1.2.1 v.1.2.2.1 v.2.1 := by kernel_rfl
theorem e72 (n : Nat) (ω : List Bool) (v : i72.V) : enterF C72 c72 Try.f72 (j72 n) ω v = laws_markIntS_entry (laws_markIntS_L2 n) v.1.2.1 v.2.1 := by kernel_rfl
theorem s72 : SoundC Try.prog 72 c72 := sound_by (l := l72) (J := j72) (L := [2]) tOk mx Try.func72 trivial (by kernel_rfl) (by kernel_rfl)
  ⟨⟨h72_2, fun n v => laws_markIntS_L2 n v.1.2.1 v.1.2.2.1 v.2.1, fun _ => rfl, fun _ => rfl, q72_2⟩, trivial⟩ FUEL (e72 FUEL)

/-! laws_markConfig -/
abbrev i25 : Shp := ⟨[(0, .agg [.ref 0, .v tI]), (1, .c (.v tI))], [.sl 1 tI]⟩
abbrev o25 : Shp := ⟨[(0, .c (.v tI))], [.sl 1 tI]⟩
noncomputable def c25 : Con := ⟨i25, o25, fun v => laws_markConfig v.1.1.2.1 v.1.2.1 v.2.1⟩
noncomputable def l25 : List (Nat × Con) := [(72, c72)]
noncomputable def C25 : Cfg := ⟨T, gam l25, hintOf []⟩
theorem e25 (ω : List Bool) (v : i25.V) : enterF C25 c25 Try.f25 (fun _ _ => none) ω v = laws_markConfig v.1.1.2.1 v.1.2.1 v.2.1 := by kernel_rfl
theorem s25 : SoundC Try.prog 25 c25 := sound_by0 (l := l25) tOk mx Try.func25 ⟨s72, trivial⟩ (by kernel_rfl) (by kernel_rfl) e25

/-! laws_markByteS -/
abbrev i27 : Shp := ⟨[(0, .c (.ref 0)), (1, .c (.v tI))], [.sl 1 tU]⟩
abbrev o27 : Shp := ⟨[(0, .c (.v tI))], [.sl 1 tU]⟩
noncomputable def c27 : Con := ⟨i27, o27, fun v => laws_markByteS v.1.2.1 v.2.1⟩
noncomputable def l27 : List (Nat × Con) := []
noncomputable def C27 : Cfg := ⟨T, gam l27, hintOf []⟩
abbrev h27_2 : Shp := ⟨[(0, .c (.ref 0)), (1, .c (.v tI)), (5, .c (.v tI))], [.sl 1 tU]⟩
noncomputable def j27 (n ℓ : Nat) (σ : St) : Option o27.V := if ℓ = 2 then jump 1 h27_2 (fun v => laws_markByteS_L2 n v.1.2.1 v.1.2.2.1 v.2.1) σ else none
theorem q27_2 (n : Nat) (v : h27_2.V) (ω : List Bool) : loopF C27 c27 Try.f27 (j27 n) 2 ω (h27_2.st 20 v) = laws_markByteS_step2 (laws_markByteS_L2 n) v.1.2.1 v.1.2.2.1 v.2.1 := by kernel_rfl
theorem e27 (n : Nat) (ω : List Bool) (v : i27.V) : enterF C27 c27 Try.f27 (j27 n) ω v = laws_markByteS_entry (laws_markByteS_L2 n) v.1.2.1 v.2.1 := by kernel_rfl
theorem s27 : SoundC Try.prog 27 c27 := sound_by (l := l27) (J := j27) (L := [2]) tOk mx Try.func27 trivial (by kernel_rfl) (by kernel_rfl)
  ⟨⟨h27_2, fun n v => laws_markByteS_L2 n v.1.2.1 v.1.2.2.1 v.2.1, fun _ => rfl, fun _ => rfl, q27_2⟩, trivial⟩ FUEL (e27 FUEL)

/-! laws_markText -/
abbrev i109 : Shp := ⟨[(0, .c (.v tI))], []⟩
abbrev o109 : Shp := ⟨[(0, .c (.v .str))], []⟩
noncomputable def c109 : Con := ⟨i109, o109, fun v => laws_markText v.1.1⟩
noncomputable def l109 : List (Nat × Con) := []
noncomputable def C109 : Cfg := ⟨T, gam l109, hintOf []⟩
abbrev h109_4 : Shp := ⟨[(0, .c (.v tI)), (3, .c (.v .str))], []⟩
noncomputable def j109 (n ℓ : Nat) (σ : St) : Option o109.V := if ℓ = 4 then jump 0 h109_4 (fun v => laws_markText_L4 n v.1.1 v.1.2.1) σ else none
theorem q109_4 (n : Nat) (v : h109_4.V) (ω : List Bool) : loopF C109 c109 Try.f109 (j109 n) 4 ω (h109_4.st 20 v) = laws_markText_step4 (laws_markText_L4 n) v.1.1 v.1.2.1 := by kernel_rfl
theorem e109 (n : Nat) (ω : List Bool) (v : i109.V) : enterF C109 c109 Try.f109 (j109 n) ω v = laws_markText_entry (laws_markText_L4 n) v.1.1 := by kernel_rfl
theorem s109 : SoundC Try.prog 109 c109 := sound_by (l := l109) (J := j109) (L := [4]) tOk mx Try.func109 trivial (by kernel_rfl) (by kernel_rfl)
  ⟨⟨h109_4, fun n v => laws_markText_L4 n v.1.1 v.1.2.1, fun _ => rfl, fun _ => rfl, q109_4⟩, trivial⟩ FUEL (e109 FUEL)

/-! laws_markIntS_at_RSLIBE -/
abbrev i72x1 : Shp := ⟨[(0, .c (.refp 0 3)), (1, .c (.v tI))], [.sl 2 Y1]⟩
abbrev o72x1 : Shp := ⟨[(0, .c (.v tI))], [.sl 2 Y1]⟩
noncomputable def c72x1 : Con := ⟨i72x1, o72x1, fun v => laws_markIntS_at_RSLIBE v.1.1 v.1.2.1 v.2.1⟩
theorem s72x1 : SoundC Try.prog 72 c72x1 := lift_sound (d := 1) (q := tI) (rest := [(1, .c (.v tI))]) (outs := [(0, .c (.v tI))]) (g := c72.g) s72 (d' := 2) (r := Y1) (sz := 3) (by kernel_rfl) (fun v u h => by
    obtain ⟨⟨⟨k, j⟩, rest⟩, bx⟩ := v
    match j with
    | 0 => cases h
    | 1 => exact h
    | n + 2 => cases h
    )

/-! laws_markWordS -/
abbrev i73 : Shp := ⟨[(0, .c (.ref 0)), (1, .c (.v tI))], [.sl 2 Y1]⟩
abbrev o73 : Shp := ⟨[(0, .c (.v tI))], [.sl 2 Y1]⟩
noncomputable def c73 : Con := ⟨i73, o73, fun v => laws_markWordS v.1.2.1 v.2.1⟩
noncomputable def l73 : List (Nat × Con) := [(72, c72x1), (109, c109)]
noncomputable def C73 : Cfg := ⟨T, gam l73, hintOf []⟩
abbrev h73_2 : Shp := ⟨[(0, .c (.ref 0)), (1, .c (.v tI)), (5, .c (.v tI))], [.sl 2 Y1]⟩
noncomputable def j73 (n ℓ : Nat) (σ : St) : Option o73.V := if ℓ = 2 then jump 1 h73_2 (fun v => laws_markWordS_L2 n v.1.2.1 v.1.2.2.1 v.2.1) σ else none
theorem q73_2 (n : Nat) (v : h73_2.V) (ω : List Bool) : loopF C73 c73 Try.f73 (j73 n) 2 ω (h73_2.st 37 v) = laws_markWordS_step2 (laws_markWordS_L2 n) v.1.2.1 v.1.2.2.1 v.2.1 := by kernel_rfl
theorem e73 (n : Nat) (ω : List Bool) (v : i73.V) : enterF C73 c73 Try.f73 (j73 n) ω v = laws_markWordS_entry (laws_markWordS_L2 n) v.1.2.1 v.2.1 := by kernel_rfl
theorem s73 : SoundC Try.prog 73 c73 := sound_by (l := l73) (J := j73) (L := [2]) tOk mx Try.func73 ⟨s72x1, s109, trivial⟩ (by kernel_rfl) (by kernel_rfl)
  ⟨⟨h73_2, fun n v => laws_markWordS_L2 n v.1.2.1 v.1.2.2.1 v.2.1, fun _ => rfl, fun _ => rfl, q73_2⟩, trivial⟩ FUEL (e73 FUEL)

/-! laws_markWriter -/
abbrev i26 : Shp := ⟨[(0, .agg [.v tI, .ref 0]), (1, .c (.v tI))], [.sl 2 Y1]⟩
abbrev o26 : Shp := ⟨[(0, .c (.v tI))], [.sl 2 Y1]⟩
noncomputable def c26 : Con := ⟨i26, o26, fun v => laws_markWriter v.1.1.1 v.1.2.1 v.2.1⟩
noncomputable def l26 : List (Nat × Con) := [(73, c73)]
noncomputable def C26 : Cfg := ⟨T, gam l26, hintOf []⟩
theorem e26 (ω : List Bool) (v : i26.V) : enterF C26 c26 Try.f26 (fun _ _ => none) ω v = laws_markWriter v.1.1.1 v.1.2.1 v.2.1 := by kernel_rfl
theorem s26 : SoundC Try.prog 26 c26 := sound_by0 (l := l26) tOk mx Try.func26 ⟨s73, trivial⟩ (by kernel_rfl) (by kernel_rfl) e26

/-! laws_heldIntS -/
abbrev i117 : Shp := ⟨[(0, .c (.sl false tI)), (1, .c (.v tI))], []⟩
abbrev o117 : Shp := ⟨[(0, .c (.v tI))], []⟩
noncomputable def c117 : Con := ⟨i117, o117, fun v => laws_heldIntS v.1.1 v.1.2.1⟩
noncomputable def l117 : List (Nat × Con) := []
noncomputable def C117 : Cfg := ⟨T, gam l117, hintOf []⟩
abbrev h117_2 : Shp := ⟨[(0, .c (.sl false tI)), (1, .c (.v tI)), (5, .c (.v tI))], []⟩
noncomputable def j117 (n ℓ : Nat) (σ : St) : Option o117.V := if ℓ = 2 then jump 0 h117_2 (fun v => laws_heldIntS_L2 n v.1.1 v.1.2.1 v.1.2.2.1) σ else none
theorem q117_2 (n : Nat) (v : h117_2.V) (ω : List Bool) : loopF C117 c117 Try.f117 (j117 n) 2 ω (h117_2.st 21 v) = laws_heldIntS_step2 (laws_heldIntS_L2 n) v.1.1 v.1.2.1 v.1.2.2.1 := by kernel_rfl
theorem e117 (n : Nat) (ω : List Bool) (v : i117.V) : enterF C117 c117 Try.f117 (j117 n) ω v = laws_heldIntS_entry (laws_heldIntS_L2 n) v.1.1 v.1.2.1 := by kernel_rfl
theorem s117 : SoundC Try.prog 117 c117 := sound_by (l := l117) (J := j117) (L := [2]) tOk mx Try.func117 trivial (by kernel_rfl) (by kernel_rfl)
  ⟨⟨h117_2, fun n v => laws_heldIntS_L2 n v.1.1 v.1.2.1 v.1.2.2.1, fun _ => rfl, fun _ => rfl, q117_2⟩, trivial⟩ FUEL (e117 FUEL)

/-! laws_heldWordS -/
abbrev i88 : Shp := ⟨[(0, .c (.sl false Y1)), (1, .c (.v tI))], []⟩
abbrev o88 : Shp := ⟨[(0, .c (.v tI))], []⟩
noncomputable def c88 : Con := ⟨i88, o88, fun v => laws_heldWordS v.1.1 v.1.2.1⟩
noncomputable def l88 : List (Nat × Con) := [(109, c109), (117, c117)]
noncomputable def C88 : Cfg := ⟨T, gam l88, hintOf []⟩
abbrev h88_2 : Shp := ⟨[(0, .c (.sl false Y1)), (1, .c (.v tI)), (5, .c (.v tI))], []⟩
noncomputable def j88 (n ℓ : Nat) (σ : St) : Option o88.V := if ℓ = 2 then jump 0 h88_2 (fun v => laws_heldWordS_L2 n v.1.1 v.1.2.1 v.1.2.2.1) σ else none
theorem q88_2 (n : Nat) (v : h88_2.V) (ω : List Bool) : loopF C88 c88 Try.f88 (j88 n) 2 ω (h88_2.st 43 v) = laws_heldWordS_step2 (laws_heldWordS_L2 n) v.1.1 v.1.2.1 v.1.2.2.1 := by kernel_rfl
theorem e88 (n : Nat) (ω : List Bool) (v : i88.V) : enterF C88 c88 Try.f88 (j88 n) ω v = laws_heldWordS_entry (laws_heldWordS_L2 n) v.1.1 v.1.2.1 := by kernel_rfl
theorem s88 : SoundC Try.prog 88 c88 := sound_by (l := l88) (J := j88) (L := [2]) tOk mx Try.func88 ⟨s109, s117, trivial⟩ (by kernel_rfl) (by kernel_rfl)
  ⟨⟨h88_2, fun n v => laws_heldWordS_L2 n v.1.1 v.1.2.1 v.1.2.2.1, fun _ => rfl, fun _ => rfl, q88_2⟩, trivial⟩ FUEL (e88 FUEL)

/-! laws_heldWriter -/
abbrev i41 : Shp := ⟨[(0, .row Y2), (1, .c (.v tI))], []⟩
abbrev o41 : Shp := ⟨[(0, .c (.v tI))], []⟩
noncomputable def c41 : Con := ⟨i41, o41, fun v => laws_heldWriter v.1.1 v.1.2.1⟩
noncomputable def l41 : List (Nat × Con) := [(88, c88)]
noncomputable def C41 : Cfg := ⟨T, gam l41, hintOf []⟩
theorem e41 (ω : List Bool) (v : i41.V) : enterF C41 c41 Try.f41 (fun _ _ => none) ω v = laws_heldWriter v.1.1 v.1.2.1 := by kernel_rfl
theorem s41 : SoundC Try.prog 41 c41 := sound_by0 (l := l41) tOk mx Try.func41 ⟨s88, trivial⟩ (by kernel_rfl) (by kernel_rfl) e41

/-! laws_FnExactWriterRead -/
abbrev i7 : Shp := ⟨[(0, .row Y0), (1, .c (.sl false tU))], []⟩
abbrev o7 : Shp := ⟨[(0, .c (.v .bool))], []⟩
noncomputable def c7 : Con := ⟨i7, o7, fun v => laws_FnExactWriterRead v.1.1 v.1.2.1⟩
noncomputable def l7 : List (Nat × Con) := [(16, c16), (19, c19), (22, c22), (23, c23), (24, c24), (25, c25), (26, c26), (27, c27), (36, c36), (39, c39), (40, c40), (41, c41)]
noncomputable def C7 : Cfg := ⟨T, gam l7, hintOf [(13, [0, 1, 2, 3, 4, 5, 6, 7, 8, 9, 10, 11])]⟩
theorem e7 (ω : List Bool) (v : i7.V) : enterF C7 c7 Try.f7 (fun _ _ => none) ω v = laws_FnExactWriterRead v.1.1 v.1.2.1 := by kernel_rfl
theorem s7 : SoundC Try.prog 7 c7 := sound_by0 (l := l7) tOk mx Try.func7 ⟨s16, s19, s22, s23, s24, s25, s26, s27, s36, s39, s40, s41, trivial⟩ (by kernel_rfl) (by kernel_rfl) e7
end Go.Proofs.Ytphnckckgdfheaa.Wk
