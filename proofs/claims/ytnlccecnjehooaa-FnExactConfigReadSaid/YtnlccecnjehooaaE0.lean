/- Each function computes what was printed: by the kernel. -/
import Derived.Test.YtnlccecnjehooaaG0
import Derived.Test.YtnlccecnjehooaaProg
import Derived.KernelRfl
set_option linter.unusedVariables false
set_option linter.unusedSimpArgs false
namespace Go.Proofs.Ytnlccecnjehooaa.Wk
open Go Go.Fw Go.M Go.Proofs
abbrev tI : Ty := .int .i64
abbrev tU : Ty := .int .u8
abbrev Y0 : Ty := (.cons (.sl tI) (.cons tI .unit))
abbrev Y1 : Ty := (.cons (.sl tU) (.cons tI (.cons .bool .unit)))
def T : Tab := [(3, ⟨1, 8, .int .i64, some tI⟩),
  (4, ⟨1, 1, .bool, some .bool⟩),
  (5, ⟨1, 1, .int .u8, some tU⟩),
  (22, ⟨1, 24, .sl 3, some (.sl tI)⟩),
  (24, ⟨2, 32, .st [(0, 22), (1, 3)], some Y0⟩),
  (26, ⟨1, 24, .sl 5, some (.sl tU)⟩),
  (29, ⟨2, 32, .st [(0, 22), (1, 3)], some Y0⟩),
  (61, ⟨1, 8, .ptr 63, none⟩),
  (63, ⟨3, 40, .st [(0, 26), (1, 3), (2, 4)], some Y1⟩),
  (67, ⟨1, 8, .ptr 69, none⟩),
  (69, ⟨3, 40, .st [(0, 26), (1, 3), (2, 4)], some Y1⟩)]
theorem tOk : TabOk Try.prog T := tabOk_of_check (by kernel_rfl)
theorem mx : Try.prog.follows .mixedOrders = true := by kernel_rfl

/-! laws_toByteS -/
abbrev i18 : Shp := ⟨[(0, .c (.sl false tU))], []⟩
abbrev o18 : Shp := ⟨[(0, .c (.ref 0))], [.sl 9 tU]⟩
noncomputable def c18 : Con := ⟨i18, o18, fun v => laws_toByteS v.1.1⟩
noncomputable def l18 : List (Nat × Con) := []
noncomputable def C18 : Cfg := ⟨T, gam l18, hintOf []⟩
abbrev h18_3 : Shp := ⟨[(0, .c (.sl false tU)), (3, .c (.ref 0)), (4, .c (.v tI))], [.sl 9 tU]⟩
noncomputable def j18 (n ℓ : Nat) (σ : St) : Option o18.V := if ℓ = 3 then jump 0 h18_3 (fun v => laws_toByteS_L3 n v.1.1 v.1.2.2.1 v.2.1) σ else none
theorem q18_3 (n : Nat) (v : h18_3.V) (ω : List Bool) : loopF C18 c18 Try.f18 (j18 n) 3 ω (h18_3.st 22 v) = laws_toByteS_step3 (laws_toByteS_L3 n) v.1.1 v.1.2.2.1 v.2.1 := by kernel_rfl
theorem e18 (n : Nat) (ω : List Bool) (v : i18.V) : enterF C18 c18 Try.f18 (j18 n) ω v = laws_toByteS_entry (laws_toByteS_L3 n) v.1.1 := by kernel_rfl
theorem s18 : SoundC Try.prog 18 c18 := sound_by (l := l18) (J := j18) (L := [3]) tOk mx Try.func18 trivial (by kernel_rfl) (by kernel_rfl)
  ⟨⟨h18_3, fun n v => laws_toByteS_L3 n v.1.1 v.1.2.2.1 v.2.1, fun _ => rfl, fun _ => rfl, q18_3⟩, trivial⟩ FUEL (e18 FUEL)

/-! spec_GetNum -/
abbrev i71 : Shp := ⟨[(0, .c (.sl false tU)), (1, .c (.v tI))], []⟩
abbrev o71 : Shp := ⟨[(0, .tup [.inl (.v tI), .inl (.v tI), .inl (.v .bool)])], []⟩
noncomputable def c71 : Con := ⟨i71, o71, fun v => spec_GetNum v.1.1 v.1.2.1⟩
noncomputable def l71 : List (Nat × Con) := []
noncomputable def C71 : Cfg := ⟨T, gam l71, hintOf []⟩
abbrev h71_6 : Shp := ⟨[(0, .c (.sl false tU)), (1, .c (.v tI)), (7, .c (.v tI)), (8, .c (.v tI)), (9, .c (.v tI))], []⟩
noncomputable def j71 (n ℓ : Nat) (σ : St) : Option o71.V := if ℓ = 6 then jump 0 h71_6 (fun v => spec_GetNum_L6 n v.1.1 v.1.2.1 v.1.2.2.1 v.1.2.2.2.1 v.1.2.2.2.2.1) σ else none
theorem q71_6 (n : Nat) (v : h71_6.V) (ω : List Bool) : loopF C71 c71 Try.f71 (j71 n) 6 ω (h71_6.st 59 v) = spec_GetNum_step6 (spec_GetNum_L6 n) v.1.1 v.1.2.1 v.1.2.2.1 v.1.2.2.2.1 v.1.2.2.2.2.1 := by kernel_rfl
theorem e71 (n : Nat) (ω : List Bool) (v : i71.V) : enterF C71 c71 Try.f71 (j71 n) ω v = spec_GetNum_entry (spec_GetNum_L6 n) v.1.1 v.1.2.1 := by kernel_rfl
theorem s71 : SoundC Try.prog 71 c71 := sound_by (l := l71) (J := j71) (L := [6]) tOk mx Try.func71 trivial (by kernel_rfl) (by kernel_rfl)
  ⟨⟨h71_6, fun n v => spec_GetNum_L6 n v.1.1 v.1.2.1 v.1.2.2.1 v.1.2.2.2.1 v.1.2.2.2.2.1, fun _ => rfl, fun _ => rfl, q71_6⟩, trivial⟩ FUEL (e71 FUEL)

/-! spec_l17Num -/
abbrev i45 : Shp := ⟨[(0, .c (.ptr 0 0))], [.mem [.ref 1, .v tI, .v .bool], .sl 9 tU]⟩
abbrev o45 : Shp := ⟨[(0, .c (.v tI))], [.mem [.ref 1, .v tI, .v .bool], .sl 9 tU]⟩
noncomputable def c45 : Con := ⟨i45, o45, fun v => spec_l17Num v.2.1.2.1 v.2.1.2.2.1 v.2.2.1⟩
noncomputable def l45 : List (Nat × Con) := [(71, c71)]
noncomputable def C45 : Cfg := ⟨T, gam l45, hintOf [(1, [0, 1])]⟩
theorem e45 (ω : List Bool) (v : i45.V) : enterF C45 c45 Try.f45 (fun _ _ => none) ω v = spec_l17Num v.2.1.2.1 v.2.1.2.2.1 v.2.2.1 := by kernel_rfl
theorem s45 : SoundC Try.prog 45 c45 := sound_by0 (l := l45) tOk mx Try.func45 ⟨s71, trivial⟩ (by kernel_rfl) (by kernel_rfl) e45

/-! spec_l17Nums -/
abbrev i44 : Shp := ⟨[(0, .c (.ptr 0 0))], [.mem [.ref 1, .v tI, .v .bool], .sl 9 tU]⟩
abbrev o44 : Shp := ⟨[(0, .c (.ref 2))], [.mem [.ref 1, .v tI, .v .bool], .sl 9 tU, .sl 9 tI]⟩
noncomputable def c44 : Con := ⟨i44, o44, fun v => spec_l17Nums v.2.1.2.1 v.2.1.2.2.1 v.2.2.1⟩
noncomputable def l44 : List (Nat × Con) := [(45, c45)]
noncomputable def C44 : Cfg := ⟨T, gam l44, hintOf []⟩
abbrev h44_4 : Shp := ⟨[(0, .c (.ptr 0 0)), (3, .c (.v tI)), (4, .c (.ref 2)), (5, .c (.v tI))], [.mem [.ref 1, .v tI, .v .bool], .sl 9 tU, .sl 9 tI]⟩
noncomputable def j44 (n ℓ : Nat) (σ : St) : Option o44.V := if ℓ = 4 then jump 2 h44_4 (fun v => spec_l17Nums_L4 n v.1.2.1 v.1.2.2.2.1 v.2.1.2.1 v.2.1.2.2.1 v.2.2.1 v.2.2.2.1) σ else none
theorem q44_4 (n : Nat) (v : h44_4.V) (ω : List Bool) : loopF C44 c44 Try.f44 (j44 n) 4 ω (h44_4.st 26 v) = spec_l17Nums_step4 (spec_l17Nums_L4 n) v.1.2.1 v.1.2.2.2.1 v.2.1.2.1 v.2.1.2.2.1 v.2.2.1 v.2.2.2.1 := by kernel_rfl
theorem e44 (n : Nat) (ω : List Bool) (v : i44.V) : enterF C44 c44 Try.f44 (j44 n) ω v = spec_l17Nums_entry (spec_l17Nums_L4 n) v.2.1.2.1 v.2.1.2.2.1 v.2.2.1 := by kernel_rfl
theorem s44 : SoundC Try.prog 44 c44 := sound_by (l := l44) (J := j44) (L := [4]) tOk mx Try.func44 ⟨s45, trivial⟩ (by kernel_rfl) (by kernel_rfl)
  ⟨⟨h44_4, fun n v => spec_l17Nums_L4 n v.1.2.1 v.1.2.2.2.1 v.2.1.2.1 v.2.1.2.2.1 v.2.2.1 v.2.2.2.1, fun _ => rfl, fun _ => rfl, q44_4⟩, trivial⟩ FUEL (e44 FUEL)

/-! spec_l17End -/
abbrev i46 : Shp := ⟨[(0, .c (.ptr 0 0))], [.mem [.ref 1, .v tI, .v .bool], .sl 9 tU]⟩
abbrev o46 : Shp := ⟨[(0, .c (.v .bool))], [.mem [.ref 1, .v tI, .v .bool], .sl 9 tU]⟩
noncomputable def c46 : Con := ⟨i46, o46, fun v => spec_l17End v.2.1.2.1 v.2.1.2.2.1 v.2.2.1⟩
noncomputable def l46 : List (Nat × Con) := []
noncomputable def C46 : Cfg := ⟨T, gam l46, hintOf [(1, [0, 1])]⟩
theorem e46 (ω : List Bool) (v : i46.V) : enterF C46 c46 Try.f46 (fun _ _ => none) ω v = spec_l17End v.2.1.2.1 v.2.1.2.2.1 v.2.2.1 := by kernel_rfl
theorem s46 : SoundC Try.prog 46 c46 := sound_by0 (l := l46) tOk mx Try.func46 trivial (by kernel_rfl) (by kernel_rfl) e46

/-! spec_l1In -/
abbrev i69 : Shp := ⟨[(0, .c (.v tI)), (1, .c (.v tI)), (2, .c (.v tI))], []⟩
abbrev o69 : Shp := ⟨[(0, .c (.v .bool))], []⟩
noncomputable def c69 : Con := ⟨i69, o69, fun v => spec_l1In v.1.1 v.1.2.1 v.1.2.2.1⟩
noncomputable def l69 : List (Nat × Con) := []
noncomputable def C69 : Cfg := ⟨T, gam l69, hintOf []⟩
theorem e69 (ω : List Bool) (v : i69.V) : enterF C69 c69 Try.f69 (fun _ _ => none) ω v = spec_l1In v.1.1 v.1.2.1 v.1.2.2.1 := by kernel_rfl
theorem s69 : SoundC Try.prog 69 c69 := sound_by0 (l := l69) tOk mx Try.func69 trivial (by kernel_rfl) (by kernel_rfl) e69

/-! spec_ConfigOk -/
abbrev i35 : Shp := ⟨[(0, .row Y0)], []⟩
abbrev o35 : Shp := ⟨[(0, .c (.v .bool))], []⟩
noncomputable def c35 : Con := ⟨i35, o35, fun v => spec_ConfigOk v.1.1⟩
noncomputable def l35 : List (Nat × Con) := [(69, c69)]
noncomputable def C35 : Cfg := ⟨T, gam l35, hintOf []⟩
abbrev h35_4 : Shp := ⟨[(1, .c (.ptr 0 0)), (3, .c (.v tI))], [.mem [.sl false tI, .v tI]]⟩
noncomputable def j35 (n ℓ : Nat) (σ : St) : Option o35.V := if ℓ = 4 then jump 0 h35_4 (fun v => spec_ConfigOk_L4 n v.1.2.1 v.2.1.1 v.2.1.2.1) σ else none
theorem q35_4 (n : Nat) (v : h35_4.V) (ω : List Bool) : loopF C35 c35 Try.f35 (j35 n) 4 ω (h35_4.st 29 v) = spec_ConfigOk_step4 (spec_ConfigOk_L4 n) v.1.2.1 v.2.1.1 v.2.1.2.1 := by kernel_rfl
theorem e35 (n : Nat) (ω : List Bool) (v : i35.V) : enterF C35 c35 Try.f35 (j35 n) ω v = spec_ConfigOk_entry (spec_ConfigOk_L4 n) v.1.1 := by kernel_rfl
theorem s35 : SoundC Try.prog 35 c35 := sound_by (l := l35) (J := j35) (L := [4]) tOk mx Try.func35 ⟨s69, trivial⟩ (by kernel_rfl) (by kernel_rfl)
  ⟨⟨h35_4, fun n v => spec_ConfigOk_L4 n v.1.2.1 v.2.1.1 v.2.1.2.1, fun _ => rfl, fun _ => rfl, q35_4⟩, trivial⟩ FUEL (e35 FUEL)

/-! spec_ConfigRead -/
abbrev i17 : Shp := ⟨[(0, .c (.ref 0))], [.sl 9 tU]⟩
abbrev o17 : Shp := ⟨[(0, .tup [.inr [.ref 1, .v tI], .inl (.v .bool)])], [.sl 9 tU, .sl 9 tI]⟩
noncomputable def c17 : Con := ⟨i17, o17, fun v => spec_ConfigRead v.2.1⟩
noncomputable def l17 : List (Nat × Con) := [(35, c35), (44, c44), (45, c45), (46, c46)]
noncomputable def C17 : Cfg := ⟨T, gam l17, hintOf []⟩
theorem e17 (ω : List Bool) (v : i17.V) : enterF C17 c17 Try.f17 (fun _ _ => none) ω v = spec_ConfigRead v.2.1 := by kernel_rfl
theorem s17 : SoundC Try.prog 17 c17 := sound_by0 (l := l17) tOk mx Try.func17 ⟨s35, s44, s45, s46, trivial⟩ (by kernel_rfl) (by kernel_rfl) e17

/-! impl_GetNum -/
abbrev i72 : Shp := ⟨[(0, .c (.sl false tU)), (1, .c (.v tI))], []⟩
abbrev o72 : Shp := ⟨[(0, .tup [.inl (.v tI), .inl (.v tI), .inl (.v .bool)])], []⟩
noncomputable def c72 : Con := ⟨i72, o72, fun v => impl_GetNum v.1.1 v.1.2.1⟩
noncomputable def l72 : List (Nat × Con) := []
noncomputable def C72 : Cfg := ⟨T, gam l72, hintOf []⟩
abbrev h72_5 : Shp := ⟨[(0, .c (.sl false tU)), (1, .c (.v tI)), (7, .c (.v tI)), (8, .c (.v tI))], []⟩
noncomputable def j72 (n ℓ : Nat) (σ : St) : Option o72.V := if ℓ = 5 then jump 0 h72_5 (fun v => impl_GetNum_L5 n v.1.1 v.1.2.1 v.1.2.2.1 v.1.2.2.2.1) σ else none
theorem q72_5 (n : Nat) (v : h72_5.V) (ω : List Bool) : loopF C72 c72 Try.f72 (j72 n) 5 ω (h72_5.st 51 v) = impl_GetNum_step5 (impl_GetNum_L5 n) v.1.1 v.1.2.1 v.1.2.2.1 v.1.2.2.2.1 := by kernel_rfl
theorem e72 (n : Nat) (ω : List Bool) (v : i72.V) : enterF C72 c72 Try.f72 (j72 n) ω v = impl_GetNum_entry (impl_GetNum_L5 n) v.1.1 v.1.2.1 := by kernel_rfl
theorem s72 : SoundC Try.prog 72 c72 := sound_by (l := l72) (J := j72) (L := [5]) tOk mx Try.func72 trivial (by kernel_rfl) (by kernel_rfl)
  ⟨⟨h72_5, fun n v => impl_GetNum_L5 n v.1.1 v.1.2.1 v.1.2.2.1 v.1.2.2.2.1, fun _ => rfl, fun _ => rfl, q72_5⟩, trivial⟩ FUEL (e72 FUEL)

/-! impl_reader_num -/
abbrev i48 : Shp := ⟨[(0, .c (.ptr 0 0))], [.mem [.ref 1, .v tI, .v .bool], .sl 9 tU]⟩
abbrev o48 : Shp := ⟨[(0, .c (.v tI))], [.mem [.ref 1, .v tI, .v .bool], .sl 9 tU]⟩
noncomputable def c48 : Con := ⟨i48, o48, fun v => impl_reader_num v.2.1.2.1 v.2.1.2.2.1 v.2.2.1⟩
noncomputable def l48 : List (Nat × Con) := [(72, c72)]
noncomputable def C48 : Cfg := ⟨T, gam l48, hintOf [(1, [0, 1])]⟩
theorem e48 (ω : List Bool) (v : i48.V) : enterF C48 c48 Try.f48 (fun _ _ => none) ω v = impl_reader_num v.2.1.2.1 v.2.1.2.2.1 v.2.2.1 := by kernel_rfl
theorem s48 : SoundC Try.prog 48 c48 := sound_by0 (l := l48) tOk mx Try.func48 ⟨s72, trivial⟩ (by kernel_rfl) (by kernel_rfl) e48

/-! impl_reader_count -/
abbrev i62 : Shp := ⟨[(0, .c (.ptr 0 0)), (1, .c (.v tI))], [.mem [.ref 1, .v tI, .v .bool], .sl 9 tU]⟩
abbrev o62 : Shp := ⟨[(0, .c (.v tI))], [.mem [.ref 1, .v tI, .v .bool], .sl 9 tU]⟩
noncomputable def c62 : Con := ⟨i62, o62, fun v => impl_reader_count v.1.2.1 v.2.1.2.1 v.2.1.2.2.1 v.2.2.1⟩
noncomputable def l62 : List (Nat × Con) := [(48, c48)]
noncomputable def C62 : Cfg := ⟨T, gam l62, hintOf []⟩
theorem e62 (ω : List Bool) (v : i62.V) : enterF C62 c62 Try.f62 (fun _ _ => none) ω v = impl_reader_count v.1.2.1 v.2.1.2.1 v.2.1.2.2.1 v.2.2.1 := by kernel_rfl
theorem s62 : SoundC Try.prog 62 c62 := sound_by0 (l := l62) tOk mx Try.func62 ⟨s48, trivial⟩ (by kernel_rfl) (by kernel_rfl) e62

/-! impl_reader_list -/
abbrev i47 : Shp := ⟨[(0, .c (.ptr 0 0)), (1, .c (.v tI))], [.mem [.ref 1, .v tI, .v .bool], .sl 9 tU]⟩
abbrev o47 : Shp := ⟨[(0, .c (.ref 2))], [.mem [.ref 1, .v tI, .v .bool], .sl 9 tU, .sl 9 tI]⟩
noncomputable def c47 : Con := ⟨i47, o47, fun v => impl_reader_list v.1.2.1 v.2.1.2.1 v.2.1.2.2.1 v.2.2.1⟩
noncomputable def l47 : List (Nat × Con) := [(48, c48), (62, c62)]
noncomputable def C47 : Cfg := ⟨T, gam l47, hintOf []⟩
abbrev h47_4 : Shp := ⟨[(0, .c (.ptr 0 0)), (5, .c (.ref 2)), (12, .c (.v tI)), (13, .c (.v tI))], [.mem [.ref 1, .v tI, .v .bool], .sl 9 tU, .sl 9 tI]⟩
noncomputable def j47 (n ℓ : Nat) (σ : St) : Option o47.V := if ℓ = 4 then jump 2 h47_4 (fun v => impl_reader_list_L4 n v.1.2.2.1 v.1.2.2.2.1 v.2.1.2.1 v.2.1.2.2.1 v.2.2.1 v.2.2.2.1) σ else none
theorem q47_4 (n : Nat) (v : h47_4.V) (ω : List Bool) : loopF C47 c47 Try.f47 (j47 n) 4 ω (h47_4.st 23 v) = impl_reader_list_step4 (impl_reader_list_L4 n) v.1.2.2.1 v.1.2.2.2.1 v.2.1.2.1 v.2.1.2.2.1 v.2.2.1 v.2.2.2.1 := by kernel_rfl
theorem e47 (n : Nat) (ω : List Bool) (v : i47.V) : enterF C47 c47 Try.f47 (j47 n) ω v = impl_reader_list_entry (impl_reader_list_L4 n) v.1.2.1 v.2.1.2.1 v.2.1.2.2.1 v.2.2.1 := by kernel_rfl
theorem s47 : SoundC Try.prog 47 c47 := sound_by (l := l47) (J := j47) (L := [4]) tOk mx Try.func47 ⟨s48, s62, trivial⟩ (by kernel_rfl) (by kernel_rfl)
  ⟨⟨h47_4, fun n v => impl_reader_list_L4 n v.1.2.2.1 v.1.2.2.2.1 v.2.1.2.1 v.2.1.2.2.1 v.2.2.1 v.2.2.2.1, fun _ => rfl, fun _ => rfl, q47_4⟩, trivial⟩ FUEL (e47 FUEL)

/-! impl_reader_done -/
abbrev i49 : Shp := ⟨[(0, .c (.ptr 0 0))], [.mem [.ref 1, .v tI, .v .bool], .sl 9 tU]⟩
abbrev o49 : Shp := ⟨[(0, .c (.v .bool))], [.mem [.ref 1, .v tI, .v .bool], .sl 9 tU]⟩
noncomputable def c49 : Con := ⟨i49, o49, fun v => impl_reader_done v.2.1.2.1 v.2.1.2.2.1 v.2.2.1⟩
noncomputable def l49 : List (Nat × Con) := []
noncomputable def C49 : Cfg := ⟨T, gam l49, hintOf [(1, [0, 1])]⟩
theorem e49 (ω : List Bool) (v : i49.V) : enterF C49 c49 Try.f49 (fun _ _ => none) ω v = impl_reader_done v.2.1.2.1 v.2.1.2.2.1 v.2.2.1 := by kernel_rfl
theorem s49 : SoundC Try.prog 49 c49 := sound_by0 (l := l49) tOk mx Try.func49 trivial (by kernel_rfl) (by kernel_rfl) e49

/-! impl_within -/
abbrev i70 : Shp := ⟨[(0, .c (.v tI)), (1, .c (.v tI)), (2, .c (.v tI))], []⟩
abbrev o70 : Shp := ⟨[(0, .c (.v .bool))], []⟩
noncomputable def c70 : Con := ⟨i70, o70, fun v => impl_within v.1.1 v.1.2.1 v.1.2.2.1⟩
noncomputable def l70 : List (Nat × Con) := []
noncomputable def C70 : Cfg := ⟨T, gam l70, hintOf []⟩
theorem e70 (ω : List Bool) (v : i70.V) : enterF C70 c70 Try.f70 (fun _ _ => none) ω v = impl_within v.1.1 v.1.2.1 v.1.2.2.1 := by kernel_rfl
theorem s70 : SoundC Try.prog 70 c70 := sound_by0 (l := l70) tOk mx Try.func70 trivial (by kernel_rfl) (by kernel_rfl) e70

/-! impl_ConfigOk -/
abbrev i39 : Shp := ⟨[(0, .row Y0)], []⟩
abbrev o39 : Shp := ⟨[(0, .c (.v .bool))], []⟩
noncomputable def c39 : Con := ⟨i39, o39, fun v => impl_ConfigOk v.1.1⟩
noncomputable def l39 : List (Nat × Con) := [(70, c70)]
noncomputable def C39 : Cfg := ⟨T, gam l39, hintOf []⟩
abbrev h39_2 : Shp := ⟨[(1, .c (.ptr 0 0)), (6, .c (.sl false tI)), (7, .c (.v tI)), (8, .c (.v tI))], [.mem [.sl false tI, .v tI]]⟩
noncomputable def j39 (n ℓ : Nat) (σ : St) : Option o39.V := if ℓ = 2 then jump 0 h39_2 (fun v => impl_ConfigOk_L2 n v.1.2.1 v.1.2.2.1 v.1.2.2.2.1 v.2.1.1 v.2.1.2.1) σ else none
theorem q39_2 (n : Nat) (v : h39_2.V) (ω : List Bool) : loopF C39 c39 Try.f39 (j39 n) 2 ω (h39_2.st 25 v) = impl_ConfigOk_step2 (impl_ConfigOk_L2 n) v.1.2.1 v.1.2.2.1 v.1.2.2.2.1 v.2.1.1 v.2.1.2.1 := by kernel_rfl
theorem e39 (n : Nat) (ω : List Bool) (v : i39.V) : enterF C39 c39 Try.f39 (j39 n) ω v = impl_ConfigOk_entry (impl_ConfigOk_L2 n) v.1.1 := by kernel_rfl
theorem s39 : SoundC Try.prog 39 c39 := sound_by (l := l39) (J := j39) (L := [2]) tOk mx Try.func39 ⟨s70, trivial⟩ (by kernel_rfl) (by kernel_rfl)
  ⟨⟨h39_2, fun n v => impl_ConfigOk_L2 n v.1.2.1 v.1.2.2.1 v.1.2.2.2.1 v.2.1.1 v.2.1.2.1, fun _ => rfl, fun _ => rfl, q39_2⟩, trivial⟩ FUEL (e39 FUEL)

/-! impl_ConfigRead -/
abbrev i19 : Shp := ⟨[(0, .c (.ref 0))], [.sl 9 tU]⟩
abbrev o19 : Shp := ⟨[(0, .tup [.inr [.ref 1, .v tI], .inl (.v .bool)])], [.sl 9 tU, .sl 9 tI]⟩
noncomputable def c19 : Con := ⟨i19, o19, fun v => impl_ConfigRead v.2.1⟩
noncomputable def l19 : List (Nat × Con) := [(39, c39), (47, c47), (48, c48), (49, c49)]
noncomputable def C19 : Cfg := ⟨T, gam l19, hintOf []⟩
theorem e19 (ω : List Bool) (v : i19.V) : enterF C19 c19 Try.f19 (fun _ _ => none) ω v = impl_ConfigRead v.2.1 := by kernel_rfl
theorem s19 : SoundC Try.prog 19 c19 := sound_by0 (l := l19) tOk mx Try.func19 ⟨s39, s47, s48, s49, trivial⟩ (by kernel_rfl) (by kernel_rfl) e19

/-! laws_eqIntS -/
abbrev i42 : Shp := ⟨[(0, .c (.sl false tI)), (1, .c (.sl false tI))], []⟩
abbrev o42 : Shp := ⟨[(0, .c (.v .bool))], []⟩
noncomputable def c42 : Con := ⟨i42, o42, fun v => laws_eqIntS v.1.1 v.1.2.1⟩
noncomputable def l42 : List (Nat × Con) := []
noncomputable def C42 : Cfg := ⟨T, gam l42, hintOf []⟩
abbrev h42_4 : Shp := ⟨[(0, .c (.sl false tI)), (1, .c (.sl false tI)), (5, .c (.v tI))], []⟩
noncomputable def j42 (n ℓ : Nat) (σ : St) : Option o42.V := if ℓ = 4 then jump 0 h42_4 (fun v => laws_eqIntS_L4 n v.1.1 v.1.2.1 v.1.2.2.1) σ else none
theorem q42_4 (n : Nat) (v : h42_4.V) (ω : List Bool) : loopF C42 c42 Try.f42 (j42 n) 4 ω (h42_4.st 26 v) = laws_eqIntS_step4 (laws_eqIntS_L4 n) v.1.1 v.1.2.1 v.1.2.2.1 := by kernel_rfl
theorem e42 (n : Nat) (ω : List Bool) (v : i42.V) : enterF C42 c42 Try.f42 (j42 n) ω v = laws_eqIntS_entry (laws_eqIntS_L4 n) v.1.1 v.1.2.1 := by kernel_rfl
theorem s42 : SoundC Try.prog 42 c42 := sound_by (l := l42) (J := j42) (L := [4]) tOk mx Try.func42 trivial (by kernel_rfl) (by kernel_rfl)
  ⟨⟨h42_4, fun n v => laws_eqIntS_L4 n v.1.1 v.1.2.1 v.1.2.2.1, fun _ => rfl, fun _ => rfl, q42_4⟩, trivial⟩ FUEL (e42 FUEL)

/-! laws_eqConfig -/
abbrev i13 : Shp := ⟨[(0, .row Y0), (1, .row Y0)], []⟩
abbrev o13 : Shp := ⟨[(0, .c (.v .bool))], []⟩
noncomputable def c13 : Con := ⟨i13, o13, fun v => laws_eqConfig v.1.1 v.1.2.1⟩
noncomputable def l13 : List (Nat × Con) := [(42, c42)]
noncomputable def C13 : Cfg := ⟨T, gam l13, hintOf []⟩
theorem e13 (ω : List Bool) (v : i13.V) : enterF C13 c13 Try.f13 (fun _ _ => none) ω v = laws_eqConfig v.1.1 v.1.2.1 := by kernel_rfl
theorem s13 : SoundC Try.prog 13 c13 := sound_by0 (l := l13) tOk mx Try.func13 ⟨s42, trivial⟩ (by kernel_rfl) (by kernel_rfl) e13

/-! laws_eqByteS -/
abbrev i12 : Shp := ⟨[(0, .c (.sl false tU)), (1, .c (.sl false tU))], []⟩
abbrev o12 : Shp := ⟨[(0, .c (.v .bool))], []⟩
noncomputable def c12 : Con := ⟨i12, o12, fun v => laws_eqByteS v.1.1 v.1.2.1⟩
noncomputable def l12 : List (Nat × Con) := []
noncomputable def C12 : Cfg := ⟨T, gam l12, hintOf []⟩
abbrev h12_4 : Shp := ⟨[(0, .c (.sl false tU)), (1, .c (.sl false tU)), (5, .c (.v tI))], []⟩
noncomputable def j12 (n ℓ : Nat) (σ : St) : Option o12.V := if ℓ = 4 then jump 0 h12_4 (fun v => laws_eqByteS_L4 n v.1.1 v.1.2.1 v.1.2.2.1) σ else none
theorem q12_4 (n : Nat) (v : h12_4.V) (ω : List Bool) : loopF C12 c12 Try.f12 (j12 n) 4 ω (h12_4.st 26 v) = laws_eqByteS_step4 (laws_eqByteS_L4 n) v.1.1 v.1.2.1 v.1.2.2.1 := by kernel_rfl
theorem e12 (n : Nat) (ω : List Bool) (v : i12.V) : enterF C12 c12 Try.f12 (j12 n) ω v = laws_eqByteS_entry (laws_eqByteS_L4 n) v.1.1 v.1.2.1 := by kernel_rfl
theorem s12 : SoundC Try.prog 12 c12 := sound_by (l := l12) (J := j12) (L := [4]) tOk mx Try.func12 trivial (by kernel_rfl) (by kernel_rfl)
  ⟨⟨h12_4, fun n v => laws_eqByteS_L4 n v.1.1 v.1.2.1 v.1.2.2.1, fun _ => rfl, fun _ => rfl, q12_4⟩, trivial⟩ FUEL (e12 FUEL)

/-! laws_markByteS -/
abbrev i15 : Shp := ⟨[(0, .c (.ref 0)), (1, .c (.v tI))], [.sl 9 tU]⟩
abbrev o15 : Shp := ⟨[(0, .c (.v tI))], [.sl 9 tU]⟩
noncomputable def c15 : Con := ⟨i15, o15, fun v => laws_markByteS v.1.2.1 v.2.1⟩
noncomputable def l15 : List (Nat × Con) := []
noncomputable def C15 : Cfg := ⟨T, gam l15, hintOf []⟩
abbrev h15_2 : Shp := ⟨[(0, .c (.ref 0)), (1, .c (.v tI)), (5, .c (.v tI))], [.sl 9 tU]⟩
noncomputable def j15 (n ℓ : Nat) (σ : St) : Option o15.V := if ℓ = 2 then jump 1 h15_2 (fun v => laws_markByteS_L2 n v.1.2.1 v.1.2.2.1 v.2.1) σ else none
theorem q15_2 (n : Nat) (v : h15_2.V) (ω : List Bool) : loopF C15 c15 Try.f15 (j15 n) 2 ω (h15_2.st 20 v) = laws_markByteS_step2 (laws_markByteS_L2 n) v.1.2.1 v.1.2.2.1 v.2.1 := by kernel_rfl
theorem e15 (n : Nat) (ω : List Bool) (v : i15.V) : enterF C15 c15 Try.f15 (j15 n) ω v = laws_markByteS_entry (laws_markByteS_L2 n) v.1.2.1 v.2.1 := by kernel_rfl
theorem s15 : SoundC Try.prog 15 c15 := sound_by (l := l15) (J := j15) (L := [2]) tOk mx Try.func15 trivial (by kernel_rfl) (by kernel_rfl)
  ⟨⟨h15_2, fun n v => laws_markByteS_L2 n v.1.2.1 v.1.2.2.1 v.2.1, fun _ => rfl, fun _ => rfl, q15_2⟩, trivial⟩ FUEL (e15 FUEL)

/-! laws_markIntS -/
abbrev i43 : Shp := ⟨[(0, .c (.ref 0)), (1, .c (.v tI))], [.sl 9 tI]⟩
abbrev o43 : Shp := ⟨[(0, .c (.v tI))], [.sl 9 tI]⟩
noncomputable def c43 : Con := ⟨i43, o43, fun v => laws_markIntS v.1.2.1 v.2.1⟩
noncomputable def l43 : List (Nat × Con) := []
noncomputable def C43 : Cfg := ⟨T, gam l43, hintOf []⟩
abbrev h43_2 : Shp := ⟨[(0, .c (.ref 0)), (1, .c (.v tI)), (5, .c (.v tI))], [.sl 9 tI]⟩
noncomputable def j43 (n ℓ : Nat) (σ : St) : Option o43.V := if ℓ = 2 then jump 1 h43_2 (fun v => laws_markIntS_L2 n v.1.2.1 v.1.2.2.1 v.2.1) σ else none
theorem q43_2 (n : Nat) (v : h43_2.V) (ω : List Bool) : loopF C43 c43 Try.f43 (j43 n) 2 ω (h43_2.st 19 v) = laws_markIntS_step2 (laws_markIntS_L2 n) v.1.2.1 v.1.2.2.1 v.2.1 := by kernel_rfl
theorem e43 (n : Nat) (ω : List Bool) (v : i43.V) : enterF C43 c43 Try.f43 (j43 n) ω v = laws_markIntS_entry (laws_markIntS_L2 n) v.1.2.1 v.2.1 := by kernel_rfl
theorem s43 : SoundC Try.prog 43 c43 := sound_by (l := l43) (J := j43) (L := [2]) tOk mx Try.func43 trivial (by kernel_rfl) (by kernel_rfl)
  ⟨⟨h43_2, fun n v => laws_markIntS_L2 n v.1.2.1 v.1.2.2.1 v.2.1, fun _ => rfl, fun _ => rfl, q43_2⟩, trivial⟩ FUEL (e43 FUEL)

/-! laws_markConfig -/
abbrev i14 : Shp := ⟨[(0, .agg [.ref 0, .v tI]), (1, .c (.v tI))], [.sl 9 tI]⟩
abbrev o14 : Shp := ⟨[(0, .c (.v tI))], [.sl 9 tI]⟩
noncomputable def c14 : Con := ⟨i14, o14, fun v => laws_markConfig v.1.1.2.1 v.1.2.1 v.2.1⟩
noncomputable def l14 : List (Nat × Con) := [(43, c43)]
noncomputable def C14 : Cfg := ⟨T, gam l14, hintOf []⟩
theorem e14 (ω : List Bool) (v : i14.V) : enterF C14 c14 Try.f14 (fun _ _ => none) ω v = laws_markConfig v.1.1.2.1 v.1.2.1 v.2.1 := by kernel_rfl
theorem s14 : SoundC Try.prog 14 c14 := sound_by0 (l := l14) tOk mx Try.func14 ⟨s43, trivial⟩ (by kernel_rfl) (by kernel_rfl) e14

/-! laws_heldIntS -/
abbrev i50 : Shp := ⟨[(0, .c (.sl false tI)), (1, .c (.v tI))], []⟩
abbrev o50 : Shp := ⟨[(0, .c (.v tI))], []⟩
noncomputable def c50 : Con := ⟨i50, o50, fun v => laws_heldIntS v.1.1 v.1.2.1⟩
noncomputable def l50 : List (Nat × Con) := []
noncomputable def C50 : Cfg := ⟨T, gam l50, hintOf []⟩
abbrev h50_2 : Shp := ⟨[(0, .c (.sl false tI)), (1, .c (.v tI)), (5, .c (.v tI))], []⟩
noncomputable def j50 (n ℓ : Nat) (σ : St) : Option o50.V := if ℓ = 2 then jump 0 h50_2 (fun v => laws_heldIntS_L2 n v.1.1 v.1.2.1 v.1.2.2.1) σ else none
theorem q50_2 (n : Nat) (v : h50_2.V) (ω : List Bool) : loopF C50 c50 Try.f50 (j50 n) 2 ω (h50_2.st 21 v) = laws_heldIntS_step2 (laws_heldIntS_L2 n) v.1.1 v.1.2.1 v.1.2.2.1 := by kernel_rfl
theorem e50 (n : Nat) (ω : List Bool) (v : i50.V) : enterF C50 c50 Try.f50 (j50 n) ω v = laws_heldIntS_entry (laws_heldIntS_L2 n) v.1.1 v.1.2.1 := by kernel_rfl
theorem s50 : SoundC Try.prog 50 c50 := sound_by (l := l50) (J := j50) (L := [2]) tOk mx Try.func50 trivial (by kernel_rfl) (by kernel_rfl)
  ⟨⟨h50_2, fun n v => laws_heldIntS_L2 n v.1.1 v.1.2.1 v.1.2.2.1, fun _ => rfl, fun _ => rfl, q50_2⟩, trivial⟩ FUEL (e50 FUEL)

/-! laws_heldConfig -/
abbrev i20 : Shp := ⟨[(0, .row Y0), (1, .c (.v tI))], []⟩
abbrev o20 : Shp := ⟨[(0, .c (.v tI))], []⟩
noncomputable def c20 : Con := ⟨i20, o20, fun v => laws_heldConfig v.1.1 v.1.2.1⟩
noncomputable def l20 : List (Nat × Con) := [(50, c50)]
noncomputable def C20 : Cfg := ⟨T, gam l20, hintOf []⟩
theorem e20 (ω : List Bool) (v : i20.V) : enterF C20 c20 Try.f20 (fun _ _ => none) ω v = laws_heldConfig v.1.1 v.1.2.1 := by kernel_rfl
theorem s20 : SoundC Try.prog 20 c20 := sound_by0 (l := l20) tOk mx Try.func20 ⟨s50, trivial⟩ (by kernel_rfl) (by kernel_rfl) e20

/-! laws_FnExactConfigRead -/
abbrev i4 : Shp := ⟨[(0, .c (.sl false tU))], []⟩
abbrev o4 : Shp := ⟨[(0, .c (.v .bool))], []⟩
noncomputable def c4 : Con := ⟨i4, o4, fun v => laws_FnExactConfigRead v.1.1⟩
noncomputable def l4 : List (Nat × Con) := [(12, c12), (13, c13), (14, c14), (15, c15), (17, c17), (18, c18), (19, c19), (20, c20)]
noncomputable def C4 : Cfg := ⟨T, gam l4, hintOf []⟩
theorem e4 (ω : List Bool) (v : i4.V) : enterF C4 c4 Try.f4 (fun _ _ => none) ω v = laws_FnExactConfigRead v.1.1 := by kernel_rfl
theorem s4 : SoundC Try.prog 4 c4 := sound_by0 (l := l4) tOk mx Try.func4 ⟨s12, s13, s14, s15, s17, s18, s19, s20, trivial⟩ (by kernel_rfl) (by kernel_rfl) e4
end Go.Proofs.Ytnlccecnjehooaa.Wk
