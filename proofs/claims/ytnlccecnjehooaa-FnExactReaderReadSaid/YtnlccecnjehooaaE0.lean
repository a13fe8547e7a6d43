/- Each function computes what was printed: by the kernel. -/
import Derived.Test.YtnlccecnjehooaaG0
import Derived.Test.YtnlccecnjehooaaProg
import Derived.KernelRfl
set_option linter.unusedVariables false
set_option linter.unusedSimpArgs false
namespace Go.Proofs.Ytnlccecnjehooaa.Wk
open Go Go.Fw Go.M Go.Proofs
abbrev tI : Ty := .int .i64
abbrev tU : Ty := .int .u8
abbrev Y0 : Ty := (.cons (.sl tI) (.cons tI .unit))
abbrev Y1 : Ty := (.cons tI (.cons tI (.cons .str .unit)))
abbrev Y2 : Ty := (.cons tI (.cons tI (.cons (.sl Y1) .unit)))
abbrev Y3 : Ty := (.cons (.sl tU) (.cons tI (.cons .bool .unit)))
def T : Tab := [(3, ⟨1, 8, .int .i64, some tI⟩),
  (4, ⟨1, 1, .bool, some .bool⟩),
  (5, ⟨1, 1, .int .u8, some tU⟩),
  (9, ⟨1, 16, .str, some .str⟩),
  (22, ⟨1, 24, .sl 3, some (.sl tI)⟩),
  (24, ⟨2, 32, .st [(0, 22), (1, 3)], some Y0⟩),
  (26, ⟨1, 24, .sl 5, some (.sl tU)⟩),
  (29, ⟨2, 32, .st [(0, 22), (1, 3)], some Y0⟩),
  (40, ⟨1, 24, .sl 95, some (.sl Y1)⟩),
  (42, ⟨3, 40, .st [(0, 3), (1, 3), (2, 40)], some Y2⟩),
  (45, ⟨1, 24, .sl 76, some (.sl Y1)⟩),
  (47, ⟨3, 40, .st [(0, 3), (1, 3), (2, 45)], some Y2⟩),
  (61, ⟨1, 8, .ptr 63, none⟩),
  (63, ⟨3, 40, .st [(0, 26), (1, 3), (2, 4)], some Y3⟩),
  (67, ⟨1, 8, .ptr 69, none⟩),
  (69, ⟨3, 40, .st [(0, 26), (1, 3), (2, 4)], some Y3⟩),
  (76, ⟨3, 32, .st [(0, 3), (1, 3), (2, 9)], some Y1⟩),
  (95, ⟨3, 32, .st [(0, 3), (1, 3), (2, 9)], some Y1⟩)]
theorem tOk : TabOk Try.prog T := tabOk_of_check (by kernel_rfl)
theorem mx : Try.prog.follows .mixedOrders = true := by kernel_rfl

/-! laws_toByteS -/
abbrev i18 : Shp := ⟨[(0, .c (.sl false tU))], []⟩
abbrev o18 : Shp := ⟨[(0, .c (.ref 0))], [.sl 9 tU]⟩
noncomputable def c18 : Con := ⟨i18, o18, fun v => laws_toByteS v.1.1⟩
noncomputable def l18 : List (Nat × Con) := []
noncomputable def C18 : Cfg := ⟨T, gam l18, hintOf []⟩
abbrev h18_3 : Shp := ⟨[(0, .c (.sl false tU)), (3, .c (.ref 0)), (4, .c (.v tI))], [.sl 9 tU]⟩
noncomputable def j18 (n ℓ : Nat) (σ : St) : Option o18.V := if ℓ = 3 then jump 0 h18_3 (fun v => laws_toByteS_L3 n v.1.1 v.1.2.2.1 v.2.1) σ else none
theorem q18_3 (n : Nat) (v : h18_3.V) (ω : List Bool) : loopF C18 c18 Try.f18 (j18 n) 3 ω (h18_3.st 22 v) = laws_toByteS_step3 (laws_toByteS_L3 n) v.1.1 v.1.2.2.1 v.2.1 := by kernel_rfl
theorem e18 (n : Nat) (ω : List Bool) (v : i18.V) : enterF C18 c18 Try.f18 (j18 n) ω v = laws_toByteS_entry (laws_toByteS_L3 n) v.1.1 := by kernel_rfl
theorem s18 : SoundC Try.prog 18 c18 := sound_by (l := l18) (J := j18) (L := [3]) tOk mx Try.func18 trivial (by kernel_rfl) (by kernel_rfl)
  ⟨⟨h18_3, fun n v => laws_toByteS_L3 n v.1.1 v.1.2.2.1 v.2.1, fun _ => rfl, fun _ => rfl, q18_3⟩, trivial⟩ FUEL (e18 FUEL)

/-! spec_GetNum -/
abbrev i71 : Shp := ⟨[(0, .c (.sl false tU)), (1, .c (.v tI))], []⟩
abbrev o71 : Shp := ⟨[(0, .tup [.inl (.v tI), .inl (.v tI), .inl (.v .bool)])], []⟩
noncomputable def c71 : Con := ⟨i71, o71, fun v => spec_GetNum v.1.1 v.1.2.1⟩
noncomputable def l71 : List (Nat × Con) := []
noncomputable def C71 : Cfg := ⟨T, gam l71, hintOf []⟩
abbrev h71_6 : Shp := ⟨[(0, .c (.sl false tU)), (1, .c (.v tI)), (7, .c (.v tI)), (8, .c (.v tI)), (9, .c (.v tI))], []⟩
noncomputable def j71 (n ℓ : Nat) (σ : St) : Option o71.V := if ℓ = 6 then jump 0 h71_6 (fun v => spec_GetNum_L6 n v.1.1 v.1.2.1 v.1.2.2.1 v.1.2.2.2.1 v.1.2.2.2.2.1) σ else none
theorem q71_6 (n : Nat) (v : h71_6.V) (ω : List Bool) : loopF C71 c71 Try.f71 (j71 n) 6 ω (h71_6.st 59 v) = spec_GetNum_step6 (spec_GetNum_L6 n) v.1.1 v.1.2.1 v.1.2.2.1 v.1.2.2.2.1 v.1.2.2.2.2.1 := by kernel_rfl
theorem e71 (n : Nat) (ω : List Bool) (v : i71.V) : enterF C71 c71 Try.f71 (j71 n) ω v = spec_GetNum_entry (spec_GetNum_L6 n) v.1.1 v.1.2.1 := by kernel_rfl
theorem s71 : SoundC Try.prog 71 c71 := sound_by (l := l71) (J := j71) (L := [6]) tOk mx Try.func71 trivial (by kernel_rfl) (by kernel_rfl)
  ⟨⟨h71_6, fun n v => spec_GetNum_L6 n v.1.1 v.1.2.1 v.1.2.2.1 v.1.2.2.2.1 v.1.2.2.2.2.1, fun _ => rfl, fun _ => rfl, q71_6⟩, trivial⟩ FUEL (e71 FUEL)

/-! spec_l17Num -/
abbrev i45 : Shp := ⟨[(0, .c (.ptr 0 0))], [.mem [.ref 1, .v tI, .v .bool], .sl 9 tU]⟩
abbrev o45 : Shp := ⟨[(0, .c (.v tI))], [.mem [.ref 1, .v tI, .v .bool], .sl 9 tU]⟩
noncomputable def c45 : Con := ⟨i45, o45, fun v => spec_l17Num v.2.1.2.1 v.2.1.2.2.1 v.2.2.1⟩
noncomputable def l45 : List (Nat × Con) := [(71, c71)]
noncomputable def C45 : Cfg := ⟨T, gam l45, hintOf [(1, [0, 1])]⟩
theorem e45 (ω : List Bool) (v : i45.V) : enterF C45 c45 Try.f45 (fun _ _ => none) ω v = spec_l17Num v.2.1.2.1 v.2.1.2.2.1 v.2.2.1 := by kernel_rfl
theorem s45 : SoundC Try.prog 45 c45 := sound_by0 (l := l45) tOk mx Try.func45 ⟨s71, trivial⟩ (by kernel_rfl) (by kernel_rfl) e45

/-! spec_GetText -/
abbrev i80 : Shp := ⟨[(0, .c (.sl false tU)), (1, .c (.v tI))], []⟩
abbrev o80 : Shp := ⟨[(0, .tup [.inl (.v .str), .inl (.v tI), .inl (.v .bool)])], []⟩
noncomputable def c80 : Con := ⟨i80, o80, fun v => spec_GetText v.1.1 v.1.2.1⟩
noncomputable def l80 : List (Nat × Con) := [(71, c71)]
noncomputable def C80 : Cfg := ⟨T, gam l80, hintOf []⟩
theorem e80 (ω : List Bool) (v : i80.V) : enterF C80 c80 Try.f80 (fun _ _ => none) ω v = spec_GetText v.1.1 v.1.2.1 := by kernel_rfl
theorem s80 : SoundC Try.prog 80 c80 := sound_by0 (l := l80) tOk mx Try.func80 ⟨s71, trivial⟩ (by kernel_rfl) (by kernel_rfl) e80

/-! spec_l17Text -/
abbrev i61 : Shp := ⟨[(0, .c (.ptr 0 0))], [.mem [.ref 1, .v tI, .v .bool], .sl 9 tU]⟩
abbrev o61 : Shp := ⟨[(0, .c (.v .str))], [.mem [.ref 1, .v tI, .v .bool], .sl 9 tU]⟩
noncomputable def c61 : Con := ⟨i61, o61, fun v => spec_l17Text v.2.1.2.1 v.2.1.2.2.1 v.2.2.1⟩
noncomputable def l61 : List (Nat × Con) := [(80, c80)]
noncomputable def C61 : Cfg := ⟨T, gam l61, hintOf [(1, [0, 1])]⟩
theorem e61 (ω : List Bool) (v : i61.V) : enterF C61 c61 Try.f61 (fun _ _ => none) ω v = spec_l17Text v.2.1.2.1 v.2.1.2.2.1 v.2.2.1 := by kernel_rfl
theorem s61 : SoundC Try.prog 61 c61 := sound_by0 (l := l61) tOk mx Try.func61 ⟨s80, trivial⟩ (by kernel_rfl) (by kernel_rfl) e61

/-! spec_l17End -/
abbrev i46 : Shp := ⟨[(0, .c (.ptr 0 0))], [.mem [.ref 1, .v tI, .v .bool], .sl 9 tU]⟩
abbrev o46 : Shp := ⟨[(0, .c (.v .bool))], [.mem [.ref 1, .v tI, .v .bool], .sl 9 tU]⟩
noncomputable def c46 : Con := ⟨i46, o46, fun v => spec_l17End v.2.1.2.1 v.2.1.2.2.1 v.2.2.1⟩
noncomputable def l46 : List (Nat × Con) := []
noncomputable def C46 : Cfg := ⟨T, gam l46, hintOf [(1, [0, 1])]⟩
theorem e46 (ω : List Bool) (v : i46.V) : enterF C46 c46 Try.f46 (fun _ _ => none) ω v = spec_l17End v.2.1.2.1 v.2.1.2.2.1 v.2.2.1 := by kernel_rfl
theorem s46 : SoundC Try.prog 46 c46 := sound_by0 (l := l46) tOk mx Try.func46 trivial (by kernel_rfl) (by kernel_rfl) e46

/-! spec_l1In -/
abbrev i69 : Shp := ⟨[(0, .c (.v tI)), (1, .c (.v tI)), (2, .c (.v tI))], []⟩
abbrev o69 : Shp := ⟨[(0, .c (.v .bool))], []⟩
noncomputable def c69 : Con := ⟨i69, o69, fun v => spec_l1In v.1.1 v.1.2.1 v.1.2.2.1⟩
noncomputable def l69 : List (Nat × Con) := []
noncomputable def C69 : Cfg := ⟨T, gam l69, hintOf []⟩
theorem e69 (ω : List Bool) (v : i69.V) : enterF C69 c69 Try.f69 (fun _ _ => none) ω v = spec_l1In v.1.1 v.1.2.1 v.1.2.2.1 := by kernel_rfl
theorem s69 : SoundC Try.prog 69 c69 := sound_by0 (l := l69) tOk mx Try.func69 trivial (by kernel_rfl) (by kernel_rfl) e69

/-! spec_l17Event -/
abbrev i74 : Shp := ⟨[(0, .row Y1)], []⟩
abbrev o74 : Shp := ⟨[(0, .c (.v .bool))], []⟩
noncomputable def c74 : Con := ⟨i74, o74, fun v => spec_l17Event v.1.1⟩
noncomputable def l74 : List (Nat × Con) := [(69, c69)]
noncomputable def C74 : Cfg := ⟨T, gam l74, hintOf []⟩
theorem e74 (ω : List Bool) (v : i74.V) : enterF C74 c74 Try.f74 (fun _ _ => none) ω v = spec_l17Event v.1.1 := by kernel_rfl
theorem s74 : SoundC Try.prog 74 c74 := sound_by0 (l := l74) tOk mx Try.func74 ⟨s69, trivial⟩ (by kernel_rfl) (by kernel_rfl) e74

/-! spec_ReaderOk -/
abbrev i75 : Shp := ⟨[(0, .row Y2)], []⟩
abbrev o75 : Shp := ⟨[(0, .c (.v .bool))], []⟩
noncomputable def c75 : Con := ⟨i75, o75, fun v => spec_ReaderOk v.1.1⟩
noncomputable def l75 : List (Nat × Con) := [(69, c69)]
noncomputable def C75 : Cfg := ⟨T, gam l75, hintOf []⟩
theorem e75 (ω : List Bool) (v : i75.V) : enterF C75 c75 Try.f75 (fun _ _ => none) ω v = spec_ReaderOk v.1.1 := by kernel_rfl
theorem s75 : SoundC Try.prog 75 c75 := sound_by0 (l := l75) tOk mx Try.func75 ⟨s69, trivial⟩ (by kernel_rfl) (by kernel_rfl) e75

/-! spec_l17Reader -/
abbrev i52 : Shp := ⟨[(0, .row Y2)], []⟩
abbrev o52 : Shp := ⟨[(0, .c (.v .bool))], []⟩
noncomputable def c52 : Con := ⟨i52, o52, fun v => spec_l17Reader v.1.1⟩
noncomputable def l52 : List (Nat × Con) := [(74, c74), (75, c75)]
noncomputable def C52 : Cfg := ⟨T, gam l52, hintOf []⟩
abbrev h52_2 : Shp := ⟨[(1, .c (.ptr 0 0)), (3, .c (.v tI))], [.mem [.v tI, .v tI, .sl false Y1]]⟩
noncomputable def j52 (n ℓ : Nat) (σ : St) : Option o52.V := if ℓ = 2 then jump 0 h52_2 (fun v => spec_l17Reader_L2 n v.1.2.1 v.2.1.1 v.2.1.2.1 v.2.1.2.2.1) σ else none
theorem q52_2 (n : Nat) (v : h52_2.V) (ω : List Bool) : loopF C52 c52 Try.f52 (j52 n) 2 ω (h52_2.st 20 v) = spec_l17Reader_step2 (spec_l17Reader_L2 n) v.1.2.1 v.2.1.1 v.2.1.2.1 v.2.1.2.2.1 := by kernel_rfl
theorem e52 (n : Nat) (ω : List Bool) (v : i52.V) : enterF C52 c52 Try.f52 (j52 n) ω v = spec_l17Reader_entry (spec_l17Reader_L2 n) v.1.1 := by kernel_rfl
theorem s52 : SoundC Try.prog 52 c52 := sound_by (l := l52) (J := j52) (L := [2]) tOk mx Try.func52 ⟨s74, s75, trivial⟩ (by kernel_rfl) (by kernel_rfl)
  ⟨⟨h52_2, fun n v => spec_l17Reader_L2 n v.1.2.1 v.2.1.1 v.2.1.2.1 v.2.1.2.2.1, fun _ => rfl, fun _ => rfl, q52_2⟩, trivial⟩ FUEL (e52 FUEL)

/-! spec_ReaderRead -/
abbrev i27 : Shp := ⟨[(0, .c (.ref 0))], [.sl 9 tU]⟩
abbrev o27 : Shp := ⟨[(0, .tup [.inr [.v tI, .v tI, .ref 1], .inl (.v .bool)])], [.sl 9 tU, .sl 9 Y1]⟩
noncomputable def c27 : Con := ⟨i27, o27, fun v => spec_ReaderRead v.2.1⟩
noncomputable def l27 : List (Nat × Con) := [(45, c45), (46, c46), (52, c52), (61, c61)]
noncomputable def C27 : Cfg := ⟨T, gam l27, hintOf []⟩
abbrev h27_6 : Shp := ⟨[(2, .c (.ptr 1 0)), (4, .c (.ptr 3 0)), (5, .c (.ptr 4 0)), (6, .c (.v tI)), (7, .c (.v tI))], [.sl 9 tU, .mem [.v tI, .v tI, .ref 2], .sl 9 Y1, .mem [.ref 0, .v tI, .v .bool], .mem [.v tI, .v tI, .ref 5], .sl 9 Y1]⟩
noncomputable def j27 (n ℓ : Nat) (σ : St) : Option o27.V := if ℓ = 6 then jump 1 h27_6 (fun v => spec_ReaderRead_L6 n v.1.2.2.2.1 v.1.2.2.2.2.1 v.2.1 v.2.2.1.1 v.2.2.1.2.1 v.2.2.2.1 v.2.2.2.2.1.2.1 v.2.2.2.2.1.2.2.1 v.2.2.2.2.2.1.1 v.2.2.2.2.2.1.2.1 v.2.2.2.2.2.2.1) σ else none
theorem q27_6 (n : Nat) (v : h27_6.V) (ω : List Bool) : loopF C27 c27 Try.f27 (j27 n) 6 ω (h27_6.st 56 v) = spec_ReaderRead_step6 (spec_ReaderRead_L6 n) v.1.2.2.2.1 v.1.2.2.2.2.1 v.2.1 v.2.2.1.1 v.2.2.1.2.1 v.2.2.2.1 v.2.2.2.2.1.2.1 v.2.2.2.2.1.2.2.1 v.2.2.2.2.2.1.1 v.2.2.2.2.2.1.2.1 v.2.2.2.2.2.2.1 := by kernel_rfl
theorem e27 (n : Nat) (ω : List Bool) (v : i27.V) : enterF C27 c27 Try.f27 (j27 n) ω v = spec_ReaderRead_entry (spec_ReaderRead_L6 n) v.2.1 := by kernel_rfl
theorem s27 : SoundC Try.prog 27 c27 := sound_by (l := l27) (J := j27) (L := [6]) tOk mx Try.func27 ⟨s45, s46, s52, s61, trivial⟩ (by kernel_rfl) (by kernel_rfl)
  ⟨⟨h27_6, fun n v => spec_ReaderRead_L6 n v.1.2.2.2.1 v.1.2.2.2.2.1 v.2.1 v.2.2.1.1 v.2.2.1.2.1 v.2.2.2.1 v.2.2.2.2.1.2.1 v.2.2.2.2.1.2.2.1 v.2.2.2.2.2.1.1 v.2.2.2.2.2.1.2.1 v.2.2.2.2.2.2.1, fun _ => rfl, fun _ => rfl, q27_6⟩, trivial⟩ FUEL (e27 FUEL)

/-! impl_GetNum -/
abbrev i72 : Shp := ⟨[(0, .c (.sl false tU)), (1, .c (.v tI))], []⟩
abbrev o72 : Shp := ⟨[(0, .tup [.inl (.v tI), .inl (.v tI), .inl (.v .bool)])], []⟩
noncomputable def c72 : Con := ⟨i72, o72, fun v => impl_GetNum v.1.1 v.1.2.1⟩
noncomputable def l72 : List (Nat × Con) := []
noncomputable def C72 : Cfg := ⟨T, gam l72, hintOf []⟩
abbrev h72_5 : Shp := ⟨[(0, .c (.sl false tU)), (1, .c (.v tI)), (7, .c (.v tI)), (8, .c (.v tI))], []⟩
noncomputable def j72 (n ℓ : Nat) (σ : St) : Option o72.V := if ℓ = 5 then jump 0 h72_5 (fun v => impl_GetNum_L5 n v.1.1 v.1.2.1 v.1.2.2.1 v.1.2.2.2.1) σ else none
theorem q72_5 (n : Nat) (v : h72_5.V) (ω : List Bool) : loopF C72 c72 Try.f72 (j72 n) 5 ω (h72_5.st 51 v) = impl_GetNum_step5 (impl_GetNum_L5 n) v.1.1 v.1.2.1 v.1.2.2.1 v.1.2.2.2.1 := by kernel_rfl
theorem e72 (n : Nat) (ω : List Bool) (v : i72.V) : enterF C72 c72 Try.f72 (j72 n) ω v = impl_GetNum_entry (impl_GetNum_L5 n) v.1.1 v.1.2.1 := by kernel_rfl
theorem s72 : SoundC Try.prog 72 c72 := sound_by (l := l72) (J := j72) (L := [5]) tOk mx Try.func72 trivial (by kernel_rfl) (by kernel_rfl)
  ⟨⟨h72_5, fun n v => impl_GetNum_L5 n v.1.1 v.1.2.1 v.1.2.2.1 v.1.2.2.2.1, fun _ => rfl, fun _ => rfl, q72_5⟩, trivial⟩ FUEL (e72 FUEL)

/-! impl_reader_num -/
abbrev i48 : Shp := ⟨[(0, .c (.ptr 0 0))], [.mem [.ref 1, .v tI, .v .bool], .sl 9 tU]⟩
abbrev o48 : Shp := ⟨[(0, .c (.v tI))], [.mem [.ref 1, .v tI, .v .bool], .sl 9 tU]⟩
noncomputable def c48 : Con := ⟨i48, o48, fun v => impl_reader_num v.2.1.2.1 v.2.1.2.2.1 v.2.2.1⟩
noncomputable def l48 : List (Nat × Con) := [(72, c72)]
noncomputable def C48 : Cfg := ⟨T, gam l48, hintOf [(1, [0, 1])]⟩
theorem e48 (ω : List Bool) (v : i48.V) : enterF C48 c48 Try.f48 (fun _ _ => none) ω v = impl_reader_num v.2.1.2.1 v.2.1.2.2.1 v.2.2.1 := by kernel_rfl
theorem s48 : SoundC Try.prog 48 c48 := sound_by0 (l := l48) tOk mx Try.func48 ⟨s72, trivial⟩ (by kernel_rfl) (by kernel_rfl) e48

/-! impl_reader_count -/
abbrev i62 : Shp := ⟨[(0, .c (.ptr 0 0)), (1, .c (.v tI))], [.mem [.ref 1, .v tI, .v .bool], .sl 9 tU]⟩
abbrev o62 : Shp := ⟨[(0, .c (.v tI))], [.mem [.ref 1, .v tI, .v .bool], .sl 9 tU]⟩
noncomputable def c62 : Con := ⟨i62, o62, fun v => impl_reader_count v.1.2.1 v.2.1.2.1 v.2.1.2.2.1 v.2.2.1⟩
noncomputable def l62 : List (Nat × Con) := [(48, c48)]
noncomputable def C62 : Cfg := ⟨T, gam l62, hintOf []⟩
theorem e62 (ω : List Bool) (v : i62.V) : enterF C62 c62 Try.f62 (fun _ _ => none) ω v = impl_reader_count v.1.2.1 v.2.1.2.1 v.2.1.2.2.1 v.2.2.1 := by kernel_rfl
theorem s62 : SoundC Try.prog 62 c62 := sound_by0 (l := l62) tOk mx Try.func62 ⟨s48, trivial⟩ (by kernel_rfl) (by kernel_rfl) e62

/-! impl_reader_text -/
abbrev i63 : Shp := ⟨[(0, .c (.ptr 0 0))], [.mem [.ref 1, .v tI, .v .bool], .sl 9 tU]⟩
abbrev o63 : Shp := ⟨[(0, .c (.v .str))], [.mem [.ref 1, .v tI, .v .bool], .sl 9 tU]⟩
noncomputable def c63 : Con := ⟨i63, o63, fun v => impl_reader_text v.2.1.2.1 v.2.1.2.2.1 v.2.2.1⟩
noncomputable def l63 : List (Nat × Con) := [(48, c48)]
noncomputable def C63 : Cfg := ⟨T, gam l63, hintOf [(2, [0, 1, 3]), (6, [0, 1, 3])]⟩
theorem e63 (ω : List Bool) (v : i63.V) : enterF C63 c63 Try.f63 (fun _ _ => none) ω v = impl_reader_text v.2.1.2.1 v.2.1.2.2.1 v.2.2.1 := by kernel_rfl
theorem s63 : SoundC Try.prog 63 c63 := sound_by0 (l := l63) tOk mx Try.func63 ⟨s48, trivial⟩ (by kernel_rfl) (by kernel_rfl) e63

/-! impl_within -/
abbrev i70 : Shp := ⟨[(0, .c (.v tI)), (1, .c (.v tI)), (2, .c (.v tI))], []⟩
abbrev o70 : Shp := ⟨[(0, .c (.v .bool))], []⟩
noncomputable def c70 : Con := ⟨i70, o70, fun v => impl_within v.1.1 v.1.2.1 v.1.2.2.1⟩
noncomputable def l70 : List (Nat × Con) := []
noncomputable def C70 : Cfg := ⟨T, gam l70, hintOf []⟩
theorem e70 (ω : List Bool) (v : i70.V) : enterF C70 c70 Try.f70 (fun _ _ => none) ω v = impl_within v.1.1 v.1.2.1 v.1.2.2.1 := by kernel_rfl
theorem s70 : SoundC Try.prog 70 c70 := sound_by0 (l := l70) tOk mx Try.func70 trivial (by kernel_rfl) (by kernel_rfl) e70

/-! impl_dataOk -/
abbrev i77 : Shp := ⟨[(0, .c (.v .str))], []⟩
abbrev o77 : Shp := ⟨[(0, .c (.v .bool))], []⟩
noncomputable def c77 : Con := ⟨i77, o77, fun v => impl_dataOk v.1.1⟩
noncomputable def l77 : List (Nat × Con) := []
noncomputable def C77 : Cfg := ⟨T, gam l77, hintOf []⟩
theorem e77 (ω : List Bool) (v : i77.V) : enterF C77 c77 Try.f77 (fun _ _ => none) ω v = impl_dataOk v.1.1 := by kernel_rfl
theorem s77 : SoundC Try.prog 77 c77 := sound_by0 (l := l77) tOk mx Try.func77 trivial (by kernel_rfl) (by kernel_rfl) e77

/-! impl_eventFits -/
abbrev i57 : Shp := ⟨[(0, .row Y1)], []⟩
abbrev o57 : Shp := ⟨[(0, .c (.v .bool))], []⟩
noncomputable def c57 : Con := ⟨i57, o57, fun v => impl_eventFits v.1.1⟩
noncomputable def l57 : List (Nat × Con) := [(70, c70), (77, c77)]
noncomputable def C57 : Cfg := ⟨T, gam l57, hintOf []⟩
theorem e57 (ω : List Bool) (v : i57.V) : enterF C57 c57 Try.f57 (fun _ _ => none) ω v = impl_eventFits v.1.1 := by kernel_rfl
theorem s57 : SoundC Try.prog 57 c57 := sound_by0 (l := l57) tOk mx Try.func57 ⟨s70, s77, trivial⟩ (by kernel_rfl) (by kernel_rfl) e57

/-! impl_reader_done -/
abbrev i49 : Shp := ⟨[(0, .c (.ptr 0 0))], [.mem [.ref 1, .v tI, .v .bool], .sl 9 tU]⟩
abbrev o49 : Shp := ⟨[(0, .c (.v .bool))], [.mem [.ref 1, .v tI, .v .bool], .sl 9 tU]⟩
noncomputable def c49 : Con := ⟨i49, o49, fun v => impl_reader_done v.2.1.2.1 v.2.1.2.2.1 v.2.2.1⟩
noncomputable def l49 : List (Nat × Con) := []
noncomputable def C49 : Cfg := ⟨T, gam l49, hintOf [(1, [0, 1])]⟩
theorem e49 (ω : List Bool) (v : i49.V) : enterF C49 c49 Try.f49 (fun _ _ => none) ω v = impl_reader_done v.2.1.2.1 v.2.1.2.2.1 v.2.2.1 := by kernel_rfl
theorem s49 : SoundC Try.prog 49 c49 := sound_by0 (l := l49) tOk mx Try.func49 trivial (by kernel_rfl) (by kernel_rfl) e49

/-! impl_ReaderOk -/
abbrev i55 : Shp := ⟨[(0, .row Y2)], []⟩
abbrev o55 : Shp := ⟨[(0, .c (.v .bool))], []⟩
noncomputable def c55 : Con := ⟨i55, o55, fun v => impl_ReaderOk v.1.1⟩
noncomputable def l55 : List (Nat × Con) := [(70, c70)]
noncomputable def C55 : Cfg := ⟨T, gam l55, hintOf []⟩
theorem e55 (ω : List Bool) (v : i55.V) : enterF C55 c55 Try.f55 (fun _ _ => none) ω v = impl_ReaderOk v.1.1 := by kernel_rfl
theorem s55 : SoundC Try.prog 55 c55 := sound_by0 (l := l55) tOk mx Try.func55 ⟨s70, trivial⟩ (by kernel_rfl) (by kernel_rfl) e55

/-! impl_ReaderRead -/
abbrev i28 : Shp := ⟨[(0, .c (.ref 0))], [.sl 9 tU]⟩
abbrev o28 : Shp := ⟨[(0, .tup [.inr [.v tI, .v tI, .ref 1], .inl (.v .bool)])], [.sl 9 tU, .sl 9 Y1]⟩
noncomputable def c28 : Con := ⟨i28, o28, fun v => impl_ReaderRead v.2.1⟩
noncomputable def l28 : List (Nat × Con) := [(48, c48), (49, c49), (55, c55), (57, c57), (62, c62), (63, c63)]
noncomputable def C28 : Cfg := ⟨T, gam l28, hintOf []⟩
abbrev h28_7 : Shp := ⟨[(2, .c (.ptr 1 0)), (4, .c (.ptr 3 0)), (5, .c (.ptr 4 0)), (6, .c (.v tI)), (7, .c (.v tI))], [.sl 9 tU, .mem [.v tI, .v tI, .ref 2], .sl 9 Y1, .mem [.ref 0, .v tI, .v .bool], .mem [.v tI, .v tI, .ref 5], .sl 9 Y1]⟩
noncomputable def j28 (n ℓ : Nat) (σ : St) : Option o28.V := if ℓ = 7 then jump 1 h28_7 (fun v => impl_ReaderRead_L7 n v.1.2.2.2.1 v.1.2.2.2.2.1 v.2.1 v.2.2.1.1 v.2.2.1.2.1 v.2.2.2.1 v.2.2.2.2.1.2.1 v.2.2.2.2.1.2.2.1 v.2.2.2.2.2.1.1 v.2.2.2.2.2.1.2.1 v.2.2.2.2.2.2.1) σ else none
theorem q28_7 (n : Nat) (v : h28_7.V) (ω : List Bool) : loopF C28 c28 Try.f28 (j28 n) 7 ω (h28_7.st 71 v) = impl_ReaderRead_step7 (impl_ReaderRead_L7 n) v.1.2.2.2.1 v.1.2.2.2.2.1 v.2.1 v.2.2.1.1 v.2.2.1.2.1 v.2.2.2.1 v.2.2.2.2.1.2.1 v.2.2.2.2.1.2.2.1 v.2.2.2.2.2.1.1 v.2.2.2.2.2.1.2.1 v.2.2.2.2.2.2.1 := by kernel_rfl
theorem e28 (n : Nat) (ω : List Bool) (v : i28.V) : enterF C28 c28 Try.f28 (j28 n) ω v = impl_ReaderRead_entry (impl_ReaderRead_L7 n) v.2.1 := by kernel_rfl
theorem s28 : SoundC Try.prog 28 c28 := sound_by (l := l28) (J := j28) (L := [7]) tOk mx Try.func28 ⟨s48, s49, s55, s57, s62, s63, trivial⟩ (by kernel_rfl) (by kernel_rfl)
  ⟨⟨h28_7, fun n v => impl_ReaderRead_L7 n v.1.2.2.2.1 v.1.2.2.2.2.1 v.2.1 v.2.2.1.1 v.2.2.1.2.1 v.2.2.2.1 v.2.2.2.2.1.2.1 v.2.2.2.2.1.2.2.1 v.2.2.2.2.2.1.1 v.2.2.2.2.2.1.2.1 v.2.2.2.2.2.2.1, fun _ => rfl, fun _ => rfl, q28_7⟩, trivial⟩ FUEL (e28 FUEL)

/-! laws_eqEvent -/
abbrev i78 : Shp := ⟨[(0, .row Y1), (1, .row Y1)], []⟩
abbrev o78 : Shp := ⟨[(0, .c (.v .bool))], []⟩
noncomputable def c78 : Con := ⟨i78, o78, fun v => laws_eqEvent v.1.1 v.1.2.1⟩
noncomputable def l78 : List (Nat × Con) := []
noncomputable def C78 : Cfg := ⟨T, gam l78, hintOf []⟩
theorem e78 (ω : List Bool) (v : i78.V) : enterF C78 c78 Try.f78 (fun _ _ => none) ω v = laws_eqEvent v.1.1 v.1.2.1 := by kernel_rfl
theorem s78 : SoundC Try.prog 78 c78 := sound_by0 (l := l78) tOk mx Try.func78 trivial (by kernel_rfl) (by kernel_rfl) e78

/-! laws_eqEventS -/
abbrev i59 : Shp := ⟨[(0, .c (.sl false Y1)), (1, .c (.sl false Y1))], []⟩
abbrev o59 : Shp := ⟨[(0, .c (.v .bool))], []⟩
noncomputable def c59 : Con := ⟨i59, o59, fun v => laws_eqEventS v.1.1 v.1.2.1⟩
noncomputable def l59 : List (Nat × Con) := [(78, c78)]
noncomputable def C59 : Cfg := ⟨T, gam l59, hintOf []⟩
abbrev h59_4 : Shp := ⟨[(0, .c (.sl false Y1)), (1, .c (.sl false Y1)), (5, .c (.v tI))], []⟩
noncomputable def j59 (n ℓ : Nat) (σ : St) : Option o59.V := if ℓ = 4 then jump 0 h59_4 (fun v => laws_eqEventS_L4 n v.1.1 v.1.2.1 v.1.2.2.1) σ else none
theorem q59_4 (n : Nat) (v : h59_4.V) (ω : List Bool) : loopF C59 c59 Try.f59 (j59 n) 4 ω (h59_4.st 27 v) = laws_eqEventS_step4 (laws_eqEventS_L4 n) v.1.1 v.1.2.1 v.1.2.2.1 := by kernel_rfl
theorem e59 (n : Nat) (ω : List Bool) (v : i59.V) : enterF C59 c59 Try.f59 (j59 n) ω v = laws_eqEventS_entry (laws_eqEventS_L4 n) v.1.1 v.1.2.1 := by kernel_rfl
theorem s59 : SoundC Try.prog 59 c59 := sound_by (l := l59) (J := j59) (L := [4]) tOk mx Try.func59 ⟨s78, trivial⟩ (by kernel_rfl) (by kernel_rfl)
  ⟨⟨h59_4, fun n v => laws_eqEventS_L4 n v.1.1 v.1.2.1 v.1.2.2.1, fun _ => rfl, fun _ => rfl, q59_4⟩, trivial⟩ FUEL (e59 FUEL)

/-! laws_eqReader -/
abbrev i25 : Shp := ⟨[(0, .row Y2), (1, .row Y2)], []⟩
abbrev o25 : Shp := ⟨[(0, .c (.v .bool))], []⟩
noncomputable def c25 : Con := ⟨i25, o25, fun v => laws_eqReader v.1.1 v.1.2.1⟩
noncomputable def l25 : List (Nat × Con) := [(59, c59)]
noncomputable def C25 : Cfg := ⟨T, gam l25, hintOf []⟩
theorem e25 (ω : List Bool) (v : i25.V) : enterF C25 c25 Try.f25 (fun _ _ => none) ω v = laws_eqReader v.1.1 v.1.2.1 := by kernel_rfl
theorem s25 : SoundC Try.prog 25 c25 := sound_by0 (l := l25) tOk mx Try.func25 ⟨s59, trivial⟩ (by kernel_rfl) (by kernel_rfl) e25

/-! laws_eqByteS -/
abbrev i12 : Shp := ⟨[(0, .c (.sl false tU)), (1, .c (.sl false tU))], []⟩
abbrev o12 : Shp := ⟨[(0, .c (.v .bool))], []⟩
noncomputable def c12 : Con := ⟨i12, o12, fun v => laws_eqByteS v.1.1 v.1.2.1⟩
noncomputable def l12 : List (Nat × Con) := []
noncomputable def C12 : Cfg := ⟨T, gam l12, hintOf []⟩
abbrev h12_4 : Shp := ⟨[(0, .c (.sl false tU)), (1, .c (.sl false tU)), (5, .c (.v tI))], []⟩
noncomputable def j12 (n ℓ : Nat) (σ : St) : Option o12.V := if ℓ = 4 then jump 0 h12_4 (fun v => laws_eqByteS_L4 n v.1.1 v.1.2.1 v.1.2.2.1) σ else none
theorem q12_4 (n : Nat) (v : h12_4.V) (ω : List Bool) : loopF C12 c12 Try.f12 (j12 n) 4 ω (h12_4.st 26 v) = laws_eqByteS_step4 (laws_eqByteS_L4 n) v.1.1 v.1.2.1 v.1.2.2.1 := by kernel_rfl
theorem e12 (n : Nat) (ω : List Bool) (v : i12.V) : enterF C12 c12 Try.f12 (j12 n) ω v = laws_eqByteS_entry (laws_eqByteS_L4 n) v.1.1 v.1.2.1 := by kernel_rfl
theorem s12 : SoundC Try.prog 12 c12 := sound_by (l := l12) (J := j12) (L := [4]) tOk mx Try.func12 trivial (by kernel_rfl) (by kernel_rfl)
  ⟨⟨h12_4, fun n v => laws_eqByteS_L4 n v.1.1 v.1.2.1 v.1.2.2.1, fun _ => rfl, fun _ => rfl, q12_4⟩, trivial⟩ FUEL (e12 FUEL)

/-! laws_markByteS -/
abbrev i15 : Shp := ⟨[(0, .c (.ref 0)), (1, .c (.v tI))], [.sl 9 tU]⟩
abbrev o15 : Shp := ⟨[(0, .c (.v tI))], [.sl 9 tU]⟩
noncomputable def c15 : Con := ⟨i15, o15, fun v => laws_markByteS v.1.2.1 v.2.1⟩
noncomputable def l15 : List (Nat × Con) := []
noncomputable def C15 : Cfg := ⟨T, gam l15, hintOf []⟩
abbrev h15_2 : Shp := ⟨[(0, .c (.ref 0)), (1, .c (.v tI)), (5, .c (.v tI))], [.sl 9 tU]⟩
noncomputable def j15 (n ℓ : Nat) (σ : St) : Option o15.V := if ℓ = 2 then jump 1 h15_2 (fun v => laws_markByteS_L2 n v.1.2.1 v.1.2.2.1 v.2.1) σ else none
theorem q15_2 (n : Nat) (v : h15_2.V) (ω : List Bool) : loopF C15 c15 Try.f15 (j15 n) 2 ω (h15_2.st 20 v) = laws_markByteS_step2 (laws_markByteS_L2 n) v.1.2.1 v.1.2.2.1 v.2.1 := by kernel_rfl
theorem e15 (n : Nat) (ω : List Bool) (v : i15.V) : enterF C15 c15 Try.f15 (j15 n) ω v = laws_markByteS_entry (laws_markByteS_L2 n) v.1.2.1 v.2.1 := by kernel_rfl
theorem s15 : SoundC Try.prog 15 c15 := sound_by (l := l15) (J := j15) (L := [2]) tOk mx Try.func15 trivial (by kernel_rfl) (by kernel_rfl)
  ⟨⟨h15_2, fun n v => laws_markByteS_L2 n v.1.2.1 v.1.2.2.1 v.2.1, fun _ => rfl, fun _ => rfl, q15_2⟩, trivial⟩ FUEL (e15 FUEL)

/-! laws_markText -/
abbrev i79 : Shp := ⟨[(0, .c (.v tI))], []⟩
abbrev o79 : Shp := ⟨[(0, .c (.v .str))], []⟩
noncomputable def c79 : Con := ⟨i79, o79, fun v => laws_markText v.1.1⟩
noncomputable def l79 : List (Nat × Con) := []
noncomputable def C79 : Cfg := ⟨T, gam l79, hintOf []⟩
abbrev h79_4 : Shp := ⟨[(0, .c (.v tI)), (3, .c (.v .str))], []⟩
noncomputable def j79 (n ℓ : Nat) (σ : St) : Option o79.V := if ℓ = 4 then jump 0 h79_4 (fun v => laws_markText_L4 n v.1.1 v.1.2.1) σ else none
theorem q79_4 (n : Nat) (v : h79_4.V) (ω : List Bool) : loopF C79 c79 Try.f79 (j79 n) 4 ω (h79_4.st 20 v) = laws_markText_step4 (laws_markText_L4 n) v.1.1 v.1.2.1 := by kernel_rfl
theorem e79 (n : Nat) (ω : List Bool) (v : i79.V) : enterF C79 c79 Try.f79 (j79 n) ω v = laws_markText_entry (laws_markText_L4 n) v.1.1 := by kernel_rfl
theorem s79 : SoundC Try.prog 79 c79 := sound_by (l := l79) (J := j79) (L := [4]) tOk mx Try.func79 trivial (by kernel_rfl) (by kernel_rfl)
  ⟨⟨h79_4, fun n v => laws_markText_L4 n v.1.1 v.1.2.1, fun _ => rfl, fun _ => rfl, q79_4⟩, trivial⟩ FUEL (e79 FUEL)

/-! laws_markEventS -/
abbrev i60 : Shp := ⟨[(0, .c (.ref 0)), (1, .c (.v tI))], [.sl 9 Y1]⟩
abbrev o60 : Shp := ⟨[(0, .c (.v tI))], [.sl 9 Y1]⟩
noncomputable def c60 : Con := ⟨i60, o60, fun v => laws_markEventS v.1.2.1 v.2.1⟩
noncomputable def l60 : List (Nat × Con) := [(79, c79)]
noncomputable def C60 : Cfg := ⟨T, gam l60, hintOf []⟩
abbrev h60_2 : Shp := ⟨[(0, .c (.ref 0)), (1, .c (.v tI)), (5, .c (.v tI))], [.sl 9 Y1]⟩
noncomputable def j60 (n ℓ : Nat) (σ : St) : Option o60.V := if ℓ = 2 then jump 1 h60_2 (fun v => laws_markEventS_L2 n v.1.2.1 v.1.2.2.1 v.2.1) σ else none
theorem q60_2 (n : Nat) (v : h60_2.V) (ω : List Bool) : loopF C60 c60 Try.f60 (j60 n) 2 ω (h60_2.st 35 v) = laws_markEventS_step2 (laws_markEventS_L2 n) v.1.2.1 v.1.2.2.1 v.2.1 := by kernel_rfl
theorem e60 (n : Nat) (ω : List Bool) (v : i60.V) : enterF C60 c60 Try.f60 (j60 n) ω v = laws_markEventS_entry (laws_markEventS_L2 n) v.1.2.1 v.2.1 := by kernel_rfl
theorem s60 : SoundC Try.prog 60 c60 := sound_by (l := l60) (J := j60) (L := [2]) tOk mx Try.func60 ⟨s79, trivial⟩ (by kernel_rfl) (by kernel_rfl)
  ⟨⟨h60_2, fun n v => laws_markEventS_L2 n v.1.2.1 v.1.2.2.1 v.2.1, fun _ => rfl, fun _ => rfl, q60_2⟩, trivial⟩ FUEL (e60 FUEL)

/-! laws_markReader -/
abbrev i26 : Shp := ⟨[(0, .agg [.v tI, .v tI, .ref 0]), (1, .c (.v tI))], [.sl 9 Y1]⟩
abbrev o26 : Shp := ⟨[(0, .c (.v tI))], [.sl 9 Y1]⟩
noncomputable def c26 : Con := ⟨i26, o26, fun v => laws_markReader v.1.1.1 v.1.1.2.1 v.1.2.1 v.2.1⟩
noncomputable def l26 : List (Nat × Con) := [(60, c60)]
noncomputable def C26 : Cfg := ⟨T, gam l26, hintOf []⟩
theorem e26 (ω : List Bool) (v : i26.V) : enterF C26 c26 Try.f26 (fun _ _ => none) ω v = laws_markReader v.1.1.1 v.1.1.2.1 v.1.2.1 v.2.1 := by kernel_rfl
theorem s26 : SoundC Try.prog 26 c26 := sound_by0 (l := l26) tOk mx Try.func26 ⟨s60, trivial⟩ (by kernel_rfl) (by kernel_rfl) e26

/-! laws_heldEventS -/
abbrev i64 : Shp := ⟨[(0, .c (.sl false Y1)), (1, .c (.v tI))], []⟩
abbrev o64 : Shp := ⟨[(0, .c (.v tI))], []⟩
noncomputable def c64 : Con := ⟨i64, o64, fun v => laws_heldEventS v.1.1 v.1.2.1⟩
noncomputable def l64 : List (Nat × Con) := [(79, c79)]
noncomputable def C64 : Cfg := ⟨T, gam l64, hintOf []⟩
abbrev h64_2 : Shp := ⟨[(0, .c (.sl false Y1)), (1, .c (.v tI)), (5, .c (.v tI))], []⟩
noncomputable def j64 (n ℓ : Nat) (σ : St) : Option o64.V := if ℓ = 2 then jump 0 h64_2 (fun v => laws_heldEventS_L2 n v.1.1 v.1.2.1 v.1.2.2.1) σ else none
theorem q64_2 (n : Nat) (v : h64_2.V) (ω : List Bool) : loopF C64 c64 Try.f64 (j64 n) 2 ω (h64_2.st 41 v) = laws_heldEventS_step2 (laws_heldEventS_L2 n) v.1.1 v.1.2.1 v.1.2.2.1 := by kernel_rfl
theorem e64 (n : Nat) (ω : List Bool) (v : i64.V) : enterF C64 c64 Try.f64 (j64 n) ω v = laws_heldEventS_entry (laws_heldEventS_L2 n) v.1.1 v.1.2.1 := by kernel_rfl
theorem s64 : SoundC Try.prog 64 c64 := sound_by (l := l64) (J := j64) (L := [2]) tOk mx Try.func64 ⟨s79, trivial⟩ (by kernel_rfl) (by kernel_rfl)
  ⟨⟨h64_2, fun n v => laws_heldEventS_L2 n v.1.1 v.1.2.1 v.1.2.2.1, fun _ => rfl, fun _ => rfl, q64_2⟩, trivial⟩ FUEL (e64 FUEL)

/-! laws_heldReader -/
abbrev i29 : Shp := ⟨[(0, .row Y2), (1, .c (.v tI))], []⟩
abbrev o29 : Shp := ⟨[(0, .c (.v tI))], []⟩
noncomputable def c29 : Con := ⟨i29, o29, fun v => laws_heldReader v.1.1 v.1.2.1⟩
noncomputable def l29 : List (Nat × Con) := [(64, c64)]
noncomputable def C29 : Cfg := ⟨T, gam l29, hintOf []⟩
theorem e29 (ω : List Bool) (v : i29.V) : enterF C29 c29 Try.f29 (fun _ _ => none) ω v = laws_heldReader v.1.1 v.1.2.1 := by kernel_rfl
theorem s29 : SoundC Try.prog 29 c29 := sound_by0 (l := l29) tOk mx Try.func29 ⟨s64, trivial⟩ (by kernel_rfl) (by kernel_rfl) e29

/-! laws_FnExactReaderRead -/
abbrev i6 : Shp := ⟨[(0, .c (.sl false tU))], []⟩
abbrev o6 : Shp := ⟨[(0, .c (.v .bool))], []⟩
noncomputable def c6 : Con := ⟨i6, o6, fun v => laws_FnExactReaderRead v.1.1⟩
noncomputable def l6 : List (Nat × Con) := [(12, c12), (15, c15), (18, c18), (25, c25), (26, c26), (27, c27), (28, c28), (29, c29)]
noncomputable def C6 : Cfg := ⟨T, gam l6, hintOf []⟩
theorem e6 (ω : List Bool) (v : i6.V) : enterF C6 c6 Try.f6 (fun _ _ => none) ω v = laws_FnExactReaderRead v.1.1 := by kernel_rfl
theorem s6 : SoundC Try.prog 6 c6 := sound_by0 (l := l6) tOk mx Try.func6 ⟨s12, s15, s18, s25, s26, s27, s28, s29, trivial⟩ (by kernel_rfl) (by kernel_rfl) e6
end Go.Proofs.Ytnlccecnjehooaa.Wk
