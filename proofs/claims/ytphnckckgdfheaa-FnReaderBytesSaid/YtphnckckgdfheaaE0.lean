/- Each function computes what was printed: by the kernel. -/
import Derived.Test.YtphnckckgdfheaaG0
import Derived.Test.YtphnckckgdfheaaProg
import Derived.KernelRfl
set_option linter.unusedVariables false
set_option linter.unusedSimpArgs false
namespace Go.Proofs.Ytphnckckgdfheaa.Wk
open Go Go.Fw Go.M Go.Proofs
abbrev tI : Ty := .int .i64
abbrev tU : Ty := .int .u8
abbrev Y0 : Ty := (.cons tI (.cons tI (.cons .str .unit)))
abbrev Y1 : Ty := (.cons tI (.cons tI (.cons (.sl Y0) .unit)))
abbrev Y2 : Ty := (.cons (.sl tU) (.cons tI (.cons .bool .unit)))
abbrev Y3 : Ty := (.cons (.sl tU) (.cons tI (.cons tI .unit)))
def T : Tab := [(3, ⟨1, 8, .int .i64, some tI⟩),
  (4, ⟨1, 1, .bool, some .bool⟩),
  (5, ⟨1, 1, .int .u8, some tU⟩),
  (9, ⟨1, 16, .str, some .str⟩),
  (22, ⟨1, 24, .sl 5, some (.sl tU)⟩),
  (24, ⟨1, 24, .sl 79, some (.sl Y0)⟩),
  (26, ⟨3, 40, .st [(0, 3), (1, 3), (2, 24)], some Y1⟩),
  (34, ⟨1, 24, .sl 3, some (.sl tI)⟩),
  (74, ⟨1, 8, .ptr 126, none⟩),
  (79, ⟨3, 32, .st [(0, 3), (1, 3), (2, 9)], some Y0⟩),
  (83, ⟨1, 8, .ptr 85, none⟩),
  (85, ⟨3, 40, .st [(0, 22), (1, 3), (2, 4)], some Y2⟩),
  (93, ⟨1, 24, .sl 9, some (.sl .str)⟩),
  (95, ⟨1, 8, .ptr 97, none⟩),
  (97, ⟨3, 40, .st [(0, 22), (1, 3), (2, 4)], some Y2⟩),
  (126, ⟨3, 40, .st [(0, 22), (1, 3), (2, 3)], some Y3⟩)]
theorem tOk : TabOk Try.prog T := tabOk_of_check (by kernel_rfl)
theorem mx : Try.prog.follows .mixedOrders = true := by kernel_rfl

/-! laws_big -/
abbrev i8 : Shp := ⟨[(0, .c (.sl false tU))], []⟩
abbrev o8 : Shp := ⟨[(0, .c (.v .bool))], []⟩
noncomputable def c8 : Con := ⟨i8, o8, fun v => laws_big v.1.1⟩
noncomputable def l8 : List (Nat × Con) := []
noncomputable def C8 : Cfg := ⟨T, gam l8, hintOf []⟩
theorem e8 (ω : List Bool) (v : i8.V) : enterF C8 c8 Try.f8 (fun _ _ => none) ω v = laws_big v.1.1 := by kernel_rfl
theorem s8 : SoundC Try.prog 8 c8 := sound_by0 (l := l8) tOk mx Try.func8 trivial (by kernel_rfl) (by kernel_rfl) e8

/-! spec_l1New -/
abbrev i43 : Shp := ⟨[(0, .c (.sl true tU))], []⟩
abbrev o43 : Shp := ⟨[(0, .c (.ptr 0 0))], [.mem [.sl true tU, .v tI, .v tI]]⟩
noncomputable def c43 : Con := ⟨i43, o43, fun v => spec_l1New v.1.1⟩
noncomputable def l43 : List (Nat × Con) := []
noncomputable def C43 : Cfg := ⟨T, gam l43, hintOf []⟩
abbrev h43_3 : Shp := ⟨[(0, .c (.sl true tU)), (3, .c (.v tI)), (4, .c (.v tI))], []⟩
noncomputable def j43 (n ℓ : Nat) (σ : St) : Option o43.V := if ℓ = 3 then jump 0 h43_3 (fun v => spec_l1New_L3 n v.1.1 v.1.2.1 v.1.2.2.1) σ else none
theorem q43_3 (n : Nat) (v : h43_3.V) (ω : List Bool) : loopF C43 c43 Try.f43 (j43 n) 3 ω (h43_3.st 32 v) = spec_l1New_step3 (spec_l1New_L3 n) v.1.1 v.1.2.1 v.1.2.2.1 := by kernel_rfl
theorem e43 (n : Nat) (ω : List Bool) (v : i43.V) : enterF C43 c43 Try.f43 (j43 n) ω v = spec_l1New_entry (spec_l1New_L3 n) v.1.1 := by kernel_rfl
theorem s43 : SoundC Try.prog 43 c43 := sound_by (l := l43) (J := j43) (L := [3]) tOk mx Try.func43 trivial (by kernel_rfl) (by kernel_rfl)
  ⟨⟨h43_3, fun n v => spec_l1New_L3 n v.1.1 v.1.2.1 v.1.2.2.1, fun _ => rfl, fun _ => rfl, q43_3⟩, trivial⟩ FUEL (e43 FUEL)

/-! spec_l1Byte -/
abbrev i97 : Shp := ⟨[(0, .c (.ptr 0 0))], [.mem [.sl true tU, .v tI, .v tI]]⟩
abbrev o97 : Shp := ⟨[(0, .c (.v tI))], [.mem [.sl true tU, .v tI, .v tI]]⟩
noncomputable def c97 : Con := ⟨i97, o97, fun v => spec_l1Byte v.2.1.1 v.2.1.2.1 v.2.1.2.2.1⟩
noncomputable def l97 : List (Nat × Con) := []
noncomputable def C97 : Cfg := ⟨T, gam l97, hintOf [(2, [0]), (3, [0]), (4, [0])]⟩
theorem e97 (ω : List Bool) (v : i97.V) : enterF C97 c97 Try.f97 (fun _ _ => none) ω v = spec_l1Byte v.2.1.1 v.2.1.2.1 v.2.1.2.2.1 := by kernel_rfl
theorem s97 : SoundC Try.prog 97 c97 := sound_by0 (l := l97) tOk mx Try.func97 trivial (by kernel_rfl) (by kernel_rfl) e97

/-! spec_l1Below -/
abbrev i56 : Shp := ⟨[(0, .c (.ptr 0 0)), (1, .c (.v tI))], [.mem [.sl true tU, .v tI, .v tI]]⟩
abbrev o56 : Shp := ⟨[(0, .c (.v tI))], [.mem [.sl true tU, .v tI, .v tI]]⟩
noncomputable def c56 : Con := ⟨i56, o56, fun v => spec_l1Below v.1.2.1 v.2.1.1 v.2.1.2.1 v.2.1.2.2.1⟩
noncomputable def l56 : List (Nat × Con) := [(97, c97)]
noncomputable def C56 : Cfg := ⟨T, gam l56, hintOf []⟩
theorem e56 (ω : List Bool) (v : i56.V) : enterF C56 c56 Try.f56 (fun _ _ => none) ω v = spec_l1Below v.1.2.1 v.2.1.1 v.2.1.2.1 v.2.1.2.2.1 := by kernel_rfl
theorem s56 : SoundC Try.prog 56 c56 := sound_by0 (l := l56) tOk mx Try.func56 ⟨s97, trivial⟩ (by kernel_rfl) (by kernel_rfl) e56

/-! spec_l1Place -/
abbrev i55 : Shp := ⟨[(0, .c (.v tI)), (1, .c (.v tI))], []⟩
abbrev o55 : Shp := ⟨[(0, .c (.v tI))], []⟩
noncomputable def c55 : Con := ⟨i55, o55, fun v => spec_l1Place v.1.1 v.1.2.1⟩
noncomputable def l55 : List (Nat × Con) := []
noncomputable def C55 : Cfg := ⟨T, gam l55, hintOf []⟩
theorem e55 (ω : List Bool) (v : i55.V) : enterF C55 c55 Try.f55 (fun _ _ => none) ω v = spec_l1Place v.1.1 v.1.2.1 := by kernel_rfl
theorem s55 : SoundC Try.prog 55 c55 := sound_by0 (l := l55) tOk mx Try.func55 trivial (by kernel_rfl) (by kernel_rfl) e55

/-! spec_l1PickInt -/
abbrev i90 : Shp := ⟨[(0, .c (.ptr 0 0)), (1, .c (.sl false tI))], [.mem [.sl true tU, .v tI, .v tI]]⟩
abbrev o90 : Shp := ⟨[(0, .c (.v tI))], [.mem [.sl true tU, .v tI, .v tI]]⟩
noncomputable def c90 : Con := ⟨i90, o90, fun v => spec_l1PickInt v.1.2.1 v.2.1.1 v.2.1.2.1 v.2.1.2.2.1⟩
noncomputable def l90 : List (Nat × Con) := [(56, c56)]
noncomputable def C90 : Cfg := ⟨T, gam l90, hintOf []⟩
theorem e90 (ω : List Bool) (v : i90.V) : enterF C90 c90 Try.f90 (fun _ _ => none) ω v = spec_l1PickInt v.1.2.1 v.2.1.1 v.2.1.2.1 v.2.1.2.2.1 := by kernel_rfl
theorem s90 : SoundC Try.prog 90 c90 := sound_by0 (l := l90) tOk mx Try.func90 ⟨s56, trivial⟩ (by kernel_rfl) (by kernel_rfl) e90

/-! spec_l1DrawPlace -/
abbrev i89 : Shp := ⟨[(0, .c (.ptr 0 0))], [.mem [.sl true tU, .v tI, .v tI]]⟩
abbrev o89 : Shp := ⟨[(0, .c (.v tI))], [.mem [.sl true tU, .v tI, .v tI]]⟩
noncomputable def c89 : Con := ⟨i89, o89, fun v => spec_l1DrawPlace v.2.1.1 v.2.1.2.1 v.2.1.2.2.1⟩
noncomputable def l89 : List (Nat × Con) := [(55, c55), (56, c56), (90, c90)]
noncomputable def C89 : Cfg := ⟨T, gam l89, hintOf []⟩
theorem e89 (ω : List Bool) (v : i89.V) : enterF C89 c89 Try.f89 (fun _ _ => none) ω v = spec_l1DrawPlace v.2.1.1 v.2.1.2.1 v.2.1.2.2.1 := by kernel_rfl
theorem s89 : SoundC Try.prog 89 c89 := sound_by0 (l := l89) tOk mx Try.func89 ⟨s55, s56, s90, trivial⟩ (by kernel_rfl) (by kernel_rfl) e89

/-! spec_l10DrawReader -/
abbrev i42 : Shp := ⟨[(0, .c (.ptr 0 0))], [.mem [.sl true tU, .v tI, .v tI]]⟩
abbrev o42 : Shp := ⟨[(0, .agg [.v tI, .v tI, .ref 1])], [.mem [.sl true tU, .v tI, .v tI], .sl 9 Y0]⟩
noncomputable def c42 : Con := ⟨i42, o42, fun v => spec_l10DrawReader v.2.1.1 v.2.1.2.1 v.2.1.2.2.1⟩
noncomputable def l42 : List (Nat × Con) := [(56, c56), (89, c89), (90, c90)]
noncomputable def C42 : Cfg := ⟨T, gam l42, hintOf [(5, [1, 2])]⟩
abbrev h42_3 : Shp := ⟨[(0, .c (.ptr 0 0)), (2, .c (.ptr 1 0)), (3, .c (.ptr 3 0)), (4, .c (.v tI))], [.mem [.sl true tU, .v tI, .v tI], .mem [.v tI, .v tI, .ref 2], .sl 9 Y0, .mem [.v tI, .v tI, .ref 4], .sl 9 Y0]⟩
noncomputable def j42 (n ℓ : Nat) (σ : St) : Option o42.V := if ℓ = 3 then jump 1 h42_3 (fun v => spec_l10DrawReader_L3 n v.1.2.2.2.1 v.2.1.1 v.2.1.2.1 v.2.1.2.2.1 v.2.2.1.1 v.2.2.1.2.1 v.2.2.2.1 v.2.2.2.2.1.1 v.2.2.2.2.1.2.1 v.2.2.2.2.2.1) σ else none
theorem q42_3 (n : Nat) (v : h42_3.V) (ω : List Bool) : loopF C42 c42 Try.f42 (j42 n) 3 ω (h42_3.st 51 v) = spec_l10DrawReader_step3 (spec_l10DrawReader_L3 n) v.1.2.2.2.1 v.2.1.1 v.2.1.2.1 v.2.1.2.2.1 v.2.2.1.1 v.2.2.1.2.1 v.2.2.2.1 v.2.2.2.2.1.1 v.2.2.2.2.1.2.1 v.2.2.2.2.2.1 := by rcases ω with _ | ⟨_ | _, _ | ⟨_ | _, _ | ⟨_ | _, _⟩⟩⟩ <;> kernel_rfl
theorem e42 (n : Nat) (ω : List Bool) (v : i42.V) : enterF C42 c42 Try.f42 (j42 n) ω v = spec_l10DrawReader_entry (spec_l10DrawReader_L3 n) v.2.1.1 v.2.1.2.1 v.2.1.2.2.1 := by kernel_rfl
theorem s42 : SoundC Try.prog 42 c42 := sound_by (l := l42) (J := j42) (L := [3]) tOk mx Try.func42 ⟨s56, s89, s90, trivial⟩ (by kernel_rfl) (by kernel_rfl)
  ⟨⟨h42_3, fun n v => spec_l10DrawReader_L3 n v.1.2.2.2.1 v.2.1.1 v.2.1.2.1 v.2.1.2.2.1 v.2.2.1.1 v.2.2.1.2.1 v.2.2.2.1 v.2.2.2.2.1.1 v.2.2.2.2.1.2.1 v.2.2.2.2.2.1, fun _ => rfl, fun _ => rfl, q42_3⟩, trivial⟩ FUEL (e42 FUEL)

/-! spec_DrawReaderPack -/
abbrev i9 : Shp := ⟨[(0, .c (.sl true tU))], []⟩
abbrev o9 : Shp := ⟨[(0, .agg [.v tI, .v tI, .ref 0])], [.sl 9 Y0]⟩
noncomputable def c9 : Con := ⟨i9, o9, fun v => spec_DrawReaderPack v.1.1⟩
noncomputable def l9 : List (Nat × Con) := [(42, c42), (43, c43)]
noncomputable def C9 : Cfg := ⟨T, gam l9, hintOf []⟩
theorem e9 (ω : List Bool) (v : i9.V) : enterF C9 c9 Try.f9 (fun _ _ => none) ω v = spec_DrawReaderPack v.1.1 := by kernel_rfl
theorem s9 : SoundC Try.prog 9 c9 := sound_by0 (l := l9) tOk mx Try.func9 ⟨s42, s43, trivial⟩ (by kernel_rfl) (by kernel_rfl) e9

/-! impl_within -/
abbrev i91 : Shp := ⟨[(0, .c (.v tI)), (1, .c (.v tI)), (2, .c (.v tI))], []⟩
abbrev o91 : Shp := ⟨[(0, .c (.v .bool))], []⟩
noncomputable def c91 : Con := ⟨i91, o91, fun v => impl_within v.1.1 v.1.2.1 v.1.2.2.1⟩
noncomputable def l91 : List (Nat × Con) := []
noncomputable def C91 : Cfg := ⟨T, gam l91, hintOf []⟩
theorem e91 (ω : List Bool) (v : i91.V) : enterF C91 c91 Try.f91 (fun _ _ => none) ω v = impl_within v.1.1 v.1.2.1 v.1.2.2.1 := by kernel_rfl
theorem s91 : SoundC Try.prog 91 c91 := sound_by0 (l := l91) tOk mx Try.func91 trivial (by kernel_rfl) (by kernel_rfl) e91

/-! impl_ReaderOk -/
abbrev i44 : Shp := ⟨[(0, .row Y1)], []⟩
abbrev o44 : Shp := ⟨[(0, .c (.v .bool))], []⟩
noncomputable def c44 : Con := ⟨i44, o44, fun v => impl_ReaderOk v.1.1⟩
noncomputable def l44 : List (Nat × Con) := [(91, c91)]
noncomputable def C44 : Cfg := ⟨T, gam l44, hintOf []⟩
theorem e44 (ω : List Bool) (v : i44.V) : enterF C44 c44 Try.f44 (fun _ _ => none) ω v = impl_ReaderOk v.1.1 := by kernel_rfl
theorem s44 : SoundC Try.prog 44 c44 := sound_by0 (l := l44) tOk mx Try.func44 ⟨s91, trivial⟩ (by kernel_rfl) (by kernel_rfl) e44

/-! impl_PutNum -/
abbrev i92 : Shp := ⟨[(0, .c (.v tI))], []⟩
abbrev o92 : Shp := ⟨[(0, .c (.ref 0))], [.sl 9 tU]⟩
noncomputable def c92 : Con := ⟨i92, o92, fun v => impl_PutNum v.1.1⟩
noncomputable def l92 : List (Nat × Con) := []
noncomputable def C92 : Cfg := ⟨T, gam l92, hintOf []⟩
abbrev h92_4 : Shp := ⟨[(0, .c (.v tI)), (3, .c (.ref 0))], [.sl 9 tU]⟩
noncomputable def j92 (n ℓ : Nat) (σ : St) : Option o92.V := if ℓ = 4 then jump 0 h92_4 (fun v => impl_PutNum_L4 n v.1.1 v.2.1) σ else none
theorem q92_4 (n : Nat) (v : h92_4.V) (ω : List Bool) : loopF C92 c92 Try.f92 (j92 n) 4 ω (h92_4.st 23 v) = impl_PutNum_step4 (impl_PutNum_L4 n) v.1.1 v.2.1 := by kernel_rfl
theorem e92 (n : Nat) (ω : List Bool) (v : i92.V) : enterF C92 c92 Try.f92 (j92 n) ω v = impl_PutNum_entry (impl_PutNum_L4 n) v.1.1 := by kernel_rfl
theorem s92 : SoundC Try.prog 92 c92 := sound_by (l := l92) (J := j92) (L := [4]) tOk mx Try.func92 trivial (by kernel_rfl) (by kernel_rfl)
  ⟨⟨h92_4, fun n v => impl_PutNum_L4 n v.1.1 v.2.1, fun _ => rfl, fun _ => rfl, q92_4⟩, trivial⟩ FUEL (e92 FUEL)

/-! impl_putNums -/
abbrev i45 : Shp := ⟨[(0, .c (.sl false tI))], []⟩
abbrev o45 : Shp := ⟨[(0, .c (.ref 0))], [.sl 9 tU]⟩
noncomputable def c45 : Con := ⟨i45, o45, fun v => impl_putNums v.1.1⟩
noncomputable def l45 : List (Nat × Con) := [(92, c92)]
noncomputable def C45 : Cfg := ⟨T, gam l45, hintOf []⟩
abbrev h45_3 : Shp := ⟨[(3, .c (.ref 0)), (7, .c (.sl false tI)), (8, .c (.v tI)), (9, .c (.v tI))], [.sl 9 tU]⟩
noncomputable def j45 (n ℓ : Nat) (σ : St) : Option o45.V := if ℓ = 3 then jump 0 h45_3 (fun v => impl_putNums_L3 n v.1.2.1 v.1.2.2.1 v.1.2.2.2.1 v.2.1) σ else none
theorem q45_3 (n : Nat) (v : h45_3.V) (ω : List Bool) : loopF C45 c45 Try.f45 (j45 n) 3 ω (h45_3.st 19 v) = impl_putNums_step3 (impl_putNums_L3 n) v.1.2.1 v.1.2.2.1 v.1.2.2.2.1 v.2.1 := by kernel_rfl
theorem e45 (n : Nat) (ω : List Bool) (v : i45.V) : enterF C45 c45 Try.f45 (j45 n) ω v = impl_putNums_entry (impl_putNums_L3 n) v.1.1 := by kernel_rfl
theorem s45 : SoundC Try.prog 45 c45 := sound_by (l := l45) (J := j45) (L := [3]) tOk mx Try.func45 ⟨s92, trivial⟩ (by kernel_rfl) (by kernel_rfl)
  ⟨⟨h45_3, fun n v => impl_putNums_L3 n v.1.2.1 v.1.2.2.1 v.1.2.2.2.1 v.2.1, fun _ => rfl, fun _ => rfl, q45_3⟩, trivial⟩ FUEL (e45 FUEL)

/-! impl_dataOk -/
abbrev i93 : Shp := ⟨[(0, .c (.v .str))], []⟩
abbrev o93 : Shp := ⟨[(0, .c (.v .bool))], []⟩
noncomputable def c93 : Con := ⟨i93, o93, fun v => impl_dataOk v.1.1⟩
noncomputable def l93 : List (Nat × Con) := []
noncomputable def C93 : Cfg := ⟨T, gam l93, hintOf []⟩
theorem e93 (ω : List Bool) (v : i93.V) : enterF C93 c93 Try.f93 (fun _ _ => none) ω v = impl_dataOk v.1.1 := by kernel_rfl
theorem s93 : SoundC Try.prog 93 c93 := sound_by0 (l := l93) tOk mx Try.func93 trivial (by kernel_rfl) (by kernel_rfl) e93

/-! impl_eventFits -/
abbrev i46 : Shp := ⟨[(0, .row Y0)], []⟩
abbrev o46 : Shp := ⟨[(0, .c (.v .bool))], []⟩
noncomputable def c46 : Con := ⟨i46, o46, fun v => impl_eventFits v.1.1⟩
noncomputable def l46 : List (Nat × Con) := [(91, c91), (93, c93)]
noncomputable def C46 : Cfg := ⟨T, gam l46, hintOf []⟩
theorem e46 (ω : List Bool) (v : i46.V) : enterF C46 c46 Try.f46 (fun _ _ => none) ω v = impl_eventFits v.1.1 := by kernel_rfl
theorem s46 : SoundC Try.prog 46 c46 := sound_by0 (l := l46) tOk mx Try.func46 ⟨s91, s93, trivial⟩ (by kernel_rfl) (by kernel_rfl) e46

/-! impl_PutText -/
abbrev i47 : Shp := ⟨[(0, .c (.v .str))], []⟩
abbrev o47 : Shp := ⟨[(0, .c (.ref 0))], [.sl 9 tU]⟩
noncomputable def c47 : Con := ⟨i47, o47, fun v => impl_PutText v.1.1⟩
noncomputable def l47 : List (Nat × Con) := [(92, c92)]
noncomputable def C47 : Cfg := ⟨T, gam l47, hintOf []⟩
theorem e47 (ω : List Bool) (v : i47.V) : enterF C47 c47 Try.f47 (fun _ _ => none) ω v = impl_PutText v.1.1 := by kernel_rfl
theorem s47 : SoundC Try.prog 47 c47 := sound_by0 (l := l47) tOk mx Try.func47 ⟨s92, trivial⟩ (by kernel_rfl) (by kernel_rfl) e47

/-! impl_ReaderPack -/
abbrev i10 : Shp := ⟨[(0, .row Y1)], []⟩
abbrev o10 : Shp := ⟨[(0, .tup [.inl (.ref 0), .inl (.v .bool)])], [.sl 9 tU]⟩
noncomputable def c10 : Con := ⟨i10, o10, fun v => impl_ReaderPack v.1.1⟩
noncomputable def l10 : List (Nat × Con) := [(44, c44), (45, c45), (46, c46), (47, c47)]
noncomputable def C10 : Cfg := ⟨T, gam l10, hintOf []⟩
abbrev h10_5 : Shp := ⟨[(4, .c (.ref 0)), (20, .c (.sl false Y0)), (21, .c (.v tI)), (22, .c (.v tI))], [.sl 9 tU]⟩
noncomputable def j10 (n ℓ : Nat) (σ : St) : Option o10.V := if ℓ = 5 then jump 0 h10_5 (fun v => impl_ReaderPack_L5 n v.1.2.1 v.1.2.2.1 v.1.2.2.2.1 v.2.1) σ else none
theorem q10_5 (n : Nat) (v : h10_5.V) (ω : List Bool) : loopF C10 c10 Try.f10 (j10 n) 5 ω (h10_5.st 44 v) = impl_ReaderPack_step5 (impl_ReaderPack_L5 n) v.1.2.1 v.1.2.2.1 v.1.2.2.2.1 v.2.1 := by kernel_rfl
theorem e10 (n : Nat) (ω : List Bool) (v : i10.V) : enterF C10 c10 Try.f10 (j10 n) ω v = impl_ReaderPack_entry (impl_ReaderPack_L5 n) v.1.1 := by kernel_rfl
theorem s10 : SoundC Try.prog 10 c10 := sound_by (l := l10) (J := j10) (L := [5]) tOk mx Try.func10 ⟨s44, s45, s46, s47, trivial⟩ (by kernel_rfl) (by kernel_rfl)
  ⟨⟨h10_5, fun n v => impl_ReaderPack_L5 n v.1.2.1 v.1.2.2.1 v.1.2.2.2.1 v.2.1, fun _ => rfl, fun _ => rfl, q10_5⟩, trivial⟩ FUEL (e10 FUEL)

/-! spec_l1In -/
abbrev i102 : Shp := ⟨[(0, .c (.v tI)), (1, .c (.v tI)), (2, .c (.v tI))], []⟩
abbrev o102 : Shp := ⟨[(0, .c (.v .bool))], []⟩
noncomputable def c102 : Con := ⟨i102, o102, fun v => spec_l1In v.1.1 v.1.2.1 v.1.2.2.1⟩
noncomputable def l102 : List (Nat × Con) := []
noncomputable def C102 : Cfg := ⟨T, gam l102, hintOf []⟩
theorem e102 (ω : List Bool) (v : i102.V) : enterF C102 c102 Try.f102 (fun _ _ => none) ω v = spec_l1In v.1.1 v.1.2.1 v.1.2.2.1 := by kernel_rfl
theorem s102 : SoundC Try.prog 102 c102 := sound_by0 (l := l102) tOk mx Try.func102 trivial (by kernel_rfl) (by kernel_rfl) e102

/-! spec_l17Event -/
abbrev i94 : Shp := ⟨[(0, .row Y0)], []⟩
abbrev o94 : Shp := ⟨[(0, .c (.v .bool))], []⟩
noncomputable def c94 : Con := ⟨i94, o94, fun v => spec_l17Event v.1.1⟩
noncomputable def l94 : List (Nat × Con) := [(102, c102)]
noncomputable def C94 : Cfg := ⟨T, gam l94, hintOf []⟩
theorem e94 (ω : List Bool) (v : i94.V) : enterF C94 c94 Try.f94 (fun _ _ => none) ω v = spec_l17Event v.1.1 := by kernel_rfl
theorem s94 : SoundC Try.prog 94 c94 := sound_by0 (l := l94) tOk mx Try.func94 ⟨s102, trivial⟩ (by kernel_rfl) (by kernel_rfl) e94

/-! spec_ReaderOk -/
abbrev i95 : Shp := ⟨[(0, .row Y1)], []⟩
abbrev o95 : Shp := ⟨[(0, .c (.v .bool))], []⟩
noncomputable def c95 : Con := ⟨i95, o95, fun v => spec_ReaderOk v.1.1⟩
noncomputable def l95 : List (Nat × Con) := [(102, c102)]
noncomputable def C95 : Cfg := ⟨T, gam l95, hintOf []⟩
theorem e95 (ω : List Bool) (v : i95.V) : enterF C95 c95 Try.f95 (fun _ _ => none) ω v = spec_ReaderOk v.1.1 := by kernel_rfl
theorem s95 : SoundC Try.prog 95 c95 := sound_by0 (l := l95) tOk mx Try.func95 ⟨s102, trivial⟩ (by kernel_rfl) (by kernel_rfl) e95

/-! spec_l17Reader -/
abbrev i48 : Shp := ⟨[(0, .row Y1)], []⟩
abbrev o48 : Shp := ⟨[(0, .c (.v .bool))], []⟩
noncomputable def c48 : Con := ⟨i48, o48, fun v => spec_l17Reader v.1.1⟩
noncomputable def l48 : List (Nat × Con) := [(94, c94), (95, c95)]
noncomputable def C48 : Cfg := ⟨T, gam l48, hintOf []⟩
abbrev h48_2 : Shp := ⟨[(1, .c (.ptr 0 0)), (3, .c (.v tI))], [.mem [.v tI, .v tI, .sl false Y0]]⟩
noncomputable def j48 (n ℓ : Nat) (σ : St) : Option o48.V := if ℓ = 2 then jump 0 h48_2 (fun v => spec_l17Reader_L2 n v.1.2.1 v.2.1.1 v.2.1.2.1 v.2.1.2.2.1) σ else none
theorem q48_2 (n : Nat) (v : h48_2.V) (ω : List Bool) : loopF C48 c48 Try.f48 (j48 n) 2 ω (h48_2.st 20 v) = spec_l17Reader_step2 (spec_l17Reader_L2 n) v.1.2.1 v.2.1.1 v.2.1.2.1 v.2.1.2.2.1 := by kernel_rfl
theorem e48 (n : Nat) (ω : List Bool) (v : i48.V) : enterF C48 c48 Try.f48 (j48 n) ω v = spec_l17Reader_entry (spec_l17Reader_L2 n) v.1.1 := by kernel_rfl
theorem s48 : SoundC Try.prog 48 c48 := sound_by (l := l48) (J := j48) (L := [2]) tOk mx Try.func48 ⟨s94, s95, trivial⟩ (by kernel_rfl) (by kernel_rfl)
  ⟨⟨h48_2, fun n v => spec_l17Reader_L2 n v.1.2.1 v.2.1.1 v.2.1.2.1 v.2.1.2.2.1, fun _ => rfl, fun _ => rfl, q48_2⟩, trivial⟩ FUEL (e48 FUEL)

/-! spec_PutNum -/
abbrev i49 : Shp := ⟨[(0, .c (.v tI))], []⟩
abbrev o49 : Shp := ⟨[(0, .c (.ref 0))], [.sl 9 tU]⟩
noncomputable def c49 : Con := ⟨i49, o49, fun v => spec_PutNum v.1.1⟩
noncomputable def l49 : List (Nat × Con) := []
noncomputable def C49 : Cfg := ⟨T, gam l49, hintOf []⟩
abbrev h49_4 : Shp := ⟨[(0, .c (.v tI)), (3, .c (.ref 0))], [.sl 9 tU]⟩
noncomputable def j49 (n ℓ : Nat) (σ : St) : Option o49.V := if ℓ = 4 then jump 0 h49_4 (fun v => spec_PutNum_L4 n v.1.1 v.2.1) σ else none
theorem q49_4 (n : Nat) (v : h49_4.V) (ω : List Bool) : loopF C49 c49 Try.f49 (j49 n) 4 ω (h49_4.st 24 v) = spec_PutNum_step4 (spec_PutNum_L4 n) v.1.1 v.2.1 := by kernel_rfl
theorem e49 (n : Nat) (ω : List Bool) (v : i49.V) : enterF C49 c49 Try.f49 (j49 n) ω v = spec_PutNum_entry (spec_PutNum_L4 n) v.1.1 := by kernel_rfl
theorem s49 : SoundC Try.prog 49 c49 := sound_by (l := l49) (J := j49) (L := [4]) tOk mx Try.func49 trivial (by kernel_rfl) (by kernel_rfl)
  ⟨⟨h49_4, fun n v => spec_PutNum_L4 n v.1.1 v.2.1, fun _ => rfl, fun _ => rfl, q49_4⟩, trivial⟩ FUEL (e49 FUEL)

/-! spec_PutText -/
abbrev i50 : Shp := ⟨[(0, .c (.v .str))], []⟩
abbrev o50 : Shp := ⟨[(0, .c (.ref 0))], [.sl 9 tU]⟩
noncomputable def c50 : Con := ⟨i50, o50, fun v => spec_PutText v.1.1⟩
noncomputable def l50 : List (Nat × Con) := [(49, c49)]
noncomputable def C50 : Cfg := ⟨T, gam l50, hintOf []⟩
theorem e50 (ω : List Bool) (v : i50.V) : enterF C50 c50 Try.f50 (fun _ _ => none) ω v = spec_PutText v.1.1 := by kernel_rfl
theorem s50 : SoundC Try.prog 50 c50 := sound_by0 (l := l50) tOk mx Try.func50 ⟨s49, trivial⟩ (by kernel_rfl) (by kernel_rfl) e50

/-! spec_ReaderPack -/
abbrev i11 : Shp := ⟨[(0, .row Y1)], []⟩
abbrev o11 : Shp := ⟨[(0, .tup [.inl (.ref 0), .inl (.v .bool)])], [.sl 9 tU]⟩
noncomputable def c11 : Con := ⟨i11, o11, fun v => spec_ReaderPack v.1.1⟩
noncomputable def l11 : List (Nat × Con) := [(48, c48), (49, c49), (50, c50)]
noncomputable def C11 : Cfg := ⟨T, gam l11, hintOf [(3, [0]), (8, [0, 2])]⟩
abbrev h11_5 : Shp := ⟨[(1, .c (.ptr 0 0)), (4, .c (.ref 1)), (5, .c (.v tI))], [.mem [.v tI, .v tI, .sl false Y0], .sl 9 tU]⟩
noncomputable def j11 (n ℓ : Nat) (σ : St) : Option o11.V := if ℓ = 5 then jump 0 h11_5 (fun v => spec_ReaderPack_L5 n v.1.2.2.1 v.2.1.1 v.2.1.2.1 v.2.1.2.2.1 v.2.2.1) σ else none
theorem q11_5 (n : Nat) (v : h11_5.V) (ω : List Bool) : loopF C11 c11 Try.f11 (j11 n) 5 ω (h11_5.st 50 v) = spec_ReaderPack_step5 (spec_ReaderPack_L5 n) v.1.2.2.1 v.2.1.1 v.2.1.2.1 v.2.1.2.2.1 v.2.2.1 := by kernel_rfl
theorem e11 (n : Nat) (ω : List Bool) (v : i11.V) : enterF C11 c11 Try.f11 (j11 n) ω v = spec_ReaderPack_entry (spec_ReaderPack_L5 n) v.1.1 := by kernel_rfl
theorem s11 : SoundC Try.prog 11 c11 := sound_by (l := l11) (J := j11) (L := [5]) tOk mx Try.func11 ⟨s48, s49, s50, trivial⟩ (by kernel_rfl) (by kernel_rfl)
  ⟨⟨h11_5, fun n v => spec_ReaderPack_L5 n v.1.2.2.1 v.2.1.1 v.2.1.2.1 v.2.1.2.2.1 v.2.2.1, fun _ => rfl, fun _ => rfl, q11_5⟩, trivial⟩ FUEL (e11 FUEL)

/-! impl_GetNum -/
abbrev i96 : Shp := ⟨[(0, .c (.sl false tU)), (1, .c (.v tI))], []⟩
abbrev o96 : Shp := ⟨[(0, .tup [.inl (.v tI), .inl (.v tI), .inl (.v .bool)])], []⟩
noncomputable def c96 : Con := ⟨i96, o96, fun v => impl_GetNum v.1.1 v.1.2.1⟩
noncomputable def l96 : List (Nat × Con) := []
noncomputable def C96 : Cfg := ⟨T, gam l96, hintOf []⟩
abbrev h96_5 : Shp := ⟨[(0, .c (.sl false tU)), (1, .c (.v tI)), (7, .c (.v tI)), (8, .c (.v tI))], []⟩
noncomputable def j96 (n ℓ : Nat) (σ : St) : Option o96.V := if ℓ = 5 then jump 0 h96_5 (fun v => impl_GetNum_L5 n v.1.1 v.1.2.1 v.1.2.2.1 v.1.2.2.2.1) σ else none
theorem q96_5 (n : Nat) (v : h96_5.V) (ω : List Bool) : loopF C96 c96 Try.f96 (j96 n) 5 ω (h96_5.st 51 v) = impl_GetNum_step5 (impl_GetNum_L5 n) v.1.1 v.1.2.1 v.1.2.2.1 v.1.2.2.2.1 := by kernel_rfl
theorem e96 (n : Nat) (ω : List Bool) (v : i96.V) : enterF C96 c96 Try.f96 (j96 n) ω v = impl_GetNum_entry (impl_GetNum_L5 n) v.1.1 v.1.2.1 := by kernel_rfl
theorem s96 : SoundC Try.prog 96 c96 := sound_by (l := l96) (J := j96) (L := [5]) tOk mx Try.func96 trivial (by kernel_rfl) (by kernel_rfl)
  ⟨⟨h96_5, fun n v => impl_GetNum_L5 n v.1.1 v.1.2.1 v.1.2.2.1 v.1.2.2.2.1, fun _ => rfl, fun _ => rfl, q96_5⟩, trivial⟩ FUEL (e96 FUEL)

/-! impl_reader_num -/
abbrev i51 : Shp := ⟨[(0, .c (.ptr 0 0))], [.mem [.ref 1, .v tI, .v .bool], .sl 1 tU]⟩
abbrev o51 : Shp := ⟨[(0, .c (.v tI))], [.mem [.ref 1, .v tI, .v .bool], .sl 1 tU]⟩
noncomputable def c51 : Con := ⟨i51, o51, fun v => impl_reader_num v.2.1.2.1 v.2.1.2.2.1 v.2.2.1⟩
noncomputable def l51 : List (Nat × Con) := [(96, c96)]
noncomputable def C51 : Cfg := ⟨T, gam l51, hintOf [(1, [0, 1])]⟩
theorem e51 (ω : List Bool) (v : i51.V) : enterF C51 c51 Try.f51 (fun _ _ => none) ω v = impl_reader_num v.2.1.2.1 v.2.1.2.2.1 v.2.2.1 := by kernel_rfl
theorem s51 : SoundC Try.prog 51 c51 := sound_by0 (l := l51) tOk mx Try.func51 ⟨s96, trivial⟩ (by kernel_rfl) (by kernel_rfl) e51

/-! impl_reader_count -/
abbrev i52 : Shp := ⟨[(0, .c (.ptr 0 0)), (1, .c (.v tI))], [.mem [.ref 1, .v tI, .v .bool], .sl 1 tU]⟩
abbrev o52 : Shp := ⟨[(0, .c (.v tI))], [.mem [.ref 1, .v tI, .v .bool], .sl 1 tU]⟩
noncomputable def c52 : Con := ⟨i52, o52, fun v => impl_reader_count v.1.2.1 v.2.1.2.1 v.2.1.2.2.1 v.2.2.1⟩
noncomputable def l52 : List (Nat × Con) := [(51, c51)]
noncomputable def C52 : Cfg := ⟨T, gam l52, hintOf []⟩
theorem e52 (ω : List Bool) (v : i52.V) : enterF C52 c52 Try.f52 (fun _ _ => none) ω v = impl_reader_count v.1.2.1 v.2.1.2.1 v.2.1.2.2.1 v.2.2.1 := by kernel_rfl
theorem s52 : SoundC Try.prog 52 c52 := sound_by0 (l := l52) tOk mx Try.func52 ⟨s51, trivial⟩ (by kernel_rfl) (by kernel_rfl) e52

/-! impl_reader_text -/
abbrev i53 : Shp := ⟨[(0, .c (.ptr 0 0))], [.mem [.ref 1, .v tI, .v .bool], .sl 1 tU]⟩
abbrev o53 : Shp := ⟨[(0, .c (.v .str))], [.mem [.ref 1, .v tI, .v .bool], .sl 1 tU]⟩
noncomputable def c53 : Con := ⟨i53, o53, fun v => impl_reader_text v.2.1.2.1 v.2.1.2.2.1 v.2.2.1⟩
noncomputable def l53 : List (Nat × Con) := [(51, c51)]
noncomputable def C53 : Cfg := ⟨T, gam l53, hintOf [(2, [0, 1, 3]), (6, [0, 1, 3])]⟩
theorem e53 (ω : List Bool) (v : i53.V) : enterF C53 c53 Try.f53 (fun _ _ => none) ω v = impl_reader_text v.2.1.2.1 v.2.1.2.2.1 v.2.2.1 := by kernel_rfl
theorem s53 : SoundC Try.prog 53 c53 := sound_by0 (l := l53) tOk mx Try.func53 ⟨s51, trivial⟩ (by kernel_rfl) (by kernel_rfl) e53

/-! impl_reader_done -/
abbrev i54 : Shp := ⟨[(0, .c (.ptr 0 0))], [.mem [.ref 1, .v tI, .v .bool], .sl 1 tU]⟩
abbrev o54 : Shp := ⟨[(0, .c (.v .bool))], [.mem [.ref 1, .v tI, .v .bool], .sl 1 tU]⟩
noncomputable def c54 : Con := ⟨i54, o54, fun v => impl_reader_done v.2.1.2.1 v.2.1.2.2.1 v.2.2.1⟩
noncomputable def l54 : List (Nat × Con) := []
noncomputable def C54 : Cfg := ⟨T, gam l54, hintOf [(1, [0, 1])]⟩
theorem e54 (ω : List Bool) (v : i54.V) : enterF C54 c54 Try.f54 (fun _ _ => none) ω v = impl_reader_done v.2.1.2.1 v.2.1.2.2.1 v.2.2.1 := by kernel_rfl
theorem s54 : SoundC Try.prog 54 c54 := sound_by0 (l := l54) tOk mx Try.func54 trivial (by kernel_rfl) (by kernel_rfl) e54

/-! impl_ReaderRead -/
abbrev i12 : Shp := ⟨[(0, .c (.ref 0))], [.sl 1 tU]⟩
abbrev o12 : Shp := ⟨[(0, .tup [.inr [.v tI, .v tI, .ref 1], .inl (.v .bool)])], [.sl 1 tU, .sl 9 Y0]⟩
noncomputable def c12 : Con := ⟨i12, o12, fun v => impl_ReaderRead v.2.1⟩
noncomputable def l12 : List (Nat × Con) := [(44, c44), (46, c46), (51, c51), (52, c52), (53, c53), (54, c54)]
noncomputable def C12 : Cfg := ⟨T, gam l12, hintOf []⟩
abbrev h12_7 : Shp := ⟨[(2, .c (.ptr 1 0)), (4, .c (.ptr 3 0)), (5, .c (.ptr 4 0)), (6, .c (.v tI)), (7, .c (.v tI))], [.sl 1 tU, .mem [.v tI, .v tI, .ref 2], .sl 9 Y0, .mem [.ref 0, .v tI, .v .bool], .mem [.v tI, .v tI, .ref 5], .sl 9 Y0]⟩
noncomputable def j12 (n ℓ : Nat) (σ : St) : Option o12.V := if ℓ = 7 then jump 1 h12_7 (fun v => impl_ReaderRead_L7 n v.1.2.2.2.1 v.1.2.2.2.2.1 v.2.1 v.2.2.1.1 v.2.2.1.2.1 v.2.2.2.1 v.2.2.2.2.1.2.1 v.2.2.2.2.1.2.2.1 v.2.2.2.2.2.1.1 v.2.2.2.2.2.1.2.1 v.2.2.2.2.2.2.1) σ else none
theorem q12_7 (n : Nat) (v : h12_7.V) (ω : List Bool) : loopF C12 c12 Try.f12 (j12 n) 7 ω (h12_7.st 71 v) = impl_ReaderRead_step7 (impl_ReaderRead_L7 n) v.1.2.2.2.1 v.1.2.2.2.2.1 v.2.1 v.2.2.1.1 v.2.2.1.2.1 v.2.2.2.1 v.2.2.2.2.1.2.1 v.2.2.2.2.1.2.2.1 v.2.2.2.2.2.1.1 v.2.2.2.2.2.1.2.1 v.2.2.2.2.2.2.1 := by kernel_rfl
theorem e12 (n : Nat) (ω : List Bool) (v : i12.V) : enterF C12 c12 Try.f12 (j12 n) ω v = impl_ReaderRead_entry (impl_ReaderRead_L7 n) v.2.1 := by kernel_rfl
theorem s12 : SoundC Try.prog 12 c12 := sound_by (l := l12) (J := j12) (L := [7]) tOk mx Try.func12 ⟨s44, s46, s51, s52, s53, s54, trivial⟩ (by kernel_rfl) (by kernel_rfl)
  ⟨⟨h12_7, fun n v => impl_ReaderRead_L7 n v.1.2.2.2.1 v.1.2.2.2.2.1 v.2.1 v.2.2.1.1 v.2.2.1.2.1 v.2.2.2.1 v.2.2.2.2.1.2.1 v.2.2.2.2.1.2.2.1 v.2.2.2.2.2.1.1 v.2.2.2.2.2.1.2.1 v.2.2.2.2.2.2.1, fun _ => rfl, fun _ => rfl, q12_7⟩, trivial⟩ FUEL (e12 FUEL)

/-! laws_sameEvents -/
abbrev i13 : Shp := ⟨[(0, .c (.sl false Y0)), (1, .c (.sl false Y0))], []⟩
abbrev o13 : Shp := ⟨[(0, .c (.v .bool))], []⟩
noncomputable def c13 : Con := ⟨i13, o13, fun v => laws_sameEvents v.1.1 v.1.2.1⟩
noncomputable def l13 : List (Nat × Con) := []
noncomputable def C13 : Cfg := ⟨T, gam l13, hintOf []⟩
abbrev h13_4 : Shp := ⟨[(0, .c (.sl false Y0)), (1, .c (.sl false Y0)), (5, .c (.v tI))], []⟩
noncomputable def j13 (n ℓ : Nat) (σ : St) : Option o13.V := if ℓ = 4 then jump 0 h13_4 (fun v => laws_sameEvents_L4 n v.1.1 v.1.2.1 v.1.2.2.1) σ else none
theorem q13_4 (n : Nat) (v : h13_4.V) (ω : List Bool) : loopF C13 c13 Try.f13 (j13 n) 4 ω (h13_4.st 26 v) = laws_sameEvents_step4 (laws_sameEvents_L4 n) v.1.1 v.1.2.1 v.1.2.2.1 := by kernel_rfl
theorem e13 (n : Nat) (ω : List Bool) (v : i13.V) : enterF C13 c13 Try.f13 (j13 n) ω v = laws_sameEvents_entry (laws_sameEvents_L4 n) v.1.1 v.1.2.1 := by kernel_rfl
theorem s13 : SoundC Try.prog 13 c13 := sound_by (l := l13) (J := j13) (L := [4]) tOk mx Try.func13 trivial (by kernel_rfl) (by kernel_rfl)
  ⟨⟨h13_4, fun n v => laws_sameEvents_L4 n v.1.1 v.1.2.1 v.1.2.2.1, fun _ => rfl, fun _ => rfl, q13_4⟩, trivial⟩ FUEL (e13 FUEL)

/-! spec_l1Pick -/
abbrev i57 : Shp := ⟨[(0, .c (.ptr 0 0)), (1, .c (.sl false .str))], [.mem [.sl true tU, .v tI, .v tI]]⟩
abbrev o57 : Shp := ⟨[(0, .c (.v .str))], [.mem [.sl true tU, .v tI, .v tI]]⟩
noncomputable def c57 : Con := ⟨i57, o57, fun v => spec_l1Pick v.1.2.1 v.2.1.1 v.2.1.2.1 v.2.1.2.2.1⟩
noncomputable def l57 : List (Nat × Con) := [(56, c56)]
noncomputable def C57 : Cfg := ⟨T, gam l57, hintOf []⟩
theorem e57 (ω : List Bool) (v : i57.V) : enterF C57 c57 Try.f57 (fun _ _ => none) ω v = spec_l1Pick v.1.2.1 v.2.1.1 v.2.1.2.1 v.2.1.2.2.1 := by kernel_rfl
theorem s57 : SoundC Try.prog 57 c57 := sound_by0 (l := l57) tOk mx Try.func57 ⟨s56, trivial⟩ (by kernel_rfl) (by kernel_rfl) e57

/-! spec_l17Spoil -/
abbrev i58 : Shp := ⟨[(0, .c (.ptr 0 0)), (1, .c (.sl false tU))], [.mem [.sl true tU, .v tI, .v tI]]⟩
abbrev o58 : Shp := ⟨[(0, .c (.ref 1))], [.mem [.sl true tU, .v tI, .v tI], .sl 9 tU]⟩
noncomputable def c58 : Con := ⟨i58, o58, fun v => spec_l17Spoil v.1.2.1 v.2.1.1 v.2.1.2.1 v.2.1.2.2.1⟩
noncomputable def l58 : List (Nat × Con) := [(56, c56), (90, c90)]
noncomputable def C58 : Cfg := ⟨T, gam l58, hintOf []⟩
theorem e58 (ω : List Bool) (v : i58.V) : enterF C58 c58 Try.f58 (fun _ _ => none) ω v = spec_l17Spoil v.1.2.1 v.2.1.1 v.2.1.2.1 v.2.1.2.2.1 := by kernel_rfl
theorem s58 : SoundC Try.prog 58 c58 := sound_by0 (l := l58) tOk mx Try.func58 ⟨s56, s90, trivial⟩ (by kernel_rfl) (by kernel_rfl) e58

/-! spec_DrawReaderRead -/
abbrev i14 : Shp := ⟨[(0, .c (.sl true tU))], []⟩
abbrev o14 : Shp := ⟨[(0, .c (.ref 0))], [.sl 9 tU]⟩
noncomputable def c14 : Con := ⟨i14, o14, fun v => spec_DrawReaderRead v.1.1⟩
noncomputable def l14 : List (Nat × Con) := [(11, c11), (42, c42), (43, c43), (55, c55), (56, c56), (57, c57), (58, c58)]
noncomputable def C14 : Cfg := ⟨T, gam l14, hintOf [(6, [1]), (7, [1]), (8, [1])]⟩
abbrev h14_4 : Shp := ⟨[(3, .c (.ptr 0 0)), (4, .c (.ptr 1 0)), (5, .c (.v tI))], [.mem [.sl true tU, .v tI, .v tI], .mem [.v tI, .v tI, .ref 2], .sl 9 Y0]⟩
noncomputable def j14 (n ℓ : Nat) (σ : St) : Option o14.V := if ℓ = 4 then jump 0 h14_4 (fun v => spec_DrawReaderRead_L4 n v.1.2.2.1 v.2.1.1 v.2.1.2.1 v.2.1.2.2.1 v.2.2.1.1 v.2.2.1.2.1 v.2.2.2.1) σ else none
theorem q14_4 (n : Nat) (v : h14_4.V) (ω : List Bool) : loopF C14 c14 Try.f14 (j14 n) 4 ω (h14_4.st 52 v) = spec_DrawReaderRead_step4 (spec_DrawReaderRead_L4 n) v.1.2.2.1 v.2.1.1 v.2.1.2.1 v.2.1.2.2.1 v.2.2.1.1 v.2.2.1.2.1 v.2.2.2.1 := by kernel_rfl
theorem e14 (n : Nat) (ω : List Bool) (v : i14.V) : enterF C14 c14 Try.f14 (j14 n) ω v = spec_DrawReaderRead_entry (spec_DrawReaderRead_L4 n) v.1.1 := by kernel_rfl
theorem s14 : SoundC Try.prog 14 c14 := sound_by (l := l14) (J := j14) (L := [4]) tOk mx Try.func14 ⟨s11, s42, s43, s55, s56, s57, s58, trivial⟩ (by kernel_rfl) (by kernel_rfl)
  ⟨⟨h14_4, fun n v => spec_DrawReaderRead_L4 n v.1.2.2.1 v.2.1.1 v.2.1.2.1 v.2.1.2.2.1 v.2.2.1.1 v.2.2.1.2.1 v.2.2.2.1, fun _ => rfl, fun _ => rfl, q14_4⟩, trivial⟩ FUEL (e14 FUEL)

/-! spec_GetNum -/
abbrev i98 : Shp := ⟨[(0, .c (.sl false tU)), (1, .c (.v tI))], []⟩
abbrev o98 : Shp := ⟨[(0, .tup [.inl (.v tI), .inl (.v tI), .inl (.v .bool)])], []⟩
noncomputable def c98 : Con := ⟨i98, o98, fun v => spec_GetNum v.1.1 v.1.2.1⟩
noncomputable def l98 : List (Nat × Con) := []
noncomputable def C98 : Cfg := ⟨T, gam l98, hintOf []⟩
abbrev h98_6 : Shp := ⟨[(0, .c (.sl false tU)), (1, .c (.v tI)), (7, .c (.v tI)), (8, .c (.v tI)), (9, .c (.v tI))], []⟩
noncomputable def j98 (n ℓ : Nat) (σ : St) : Option o98.V := if ℓ = 6 then jump 0 h98_6 (fun v => spec_GetNum_L6 n v.1.1 v.1.2.1 v.1.2.2.1 v.1.2.2.2.1 v.1.2.2.2.2.1) σ else none
theorem q98_6 (n : Nat) (v : h98_6.V) (ω : List Bool) : loopF C98 c98 Try.f98 (j98 n) 6 ω (h98_6.st 59 v) = spec_GetNum_step6 (spec_GetNum_L6 n) v.1.1 v.1.2.1 v.1.2.2.1 v.1.2.2.2.1 v.1.2.2.2.2.1 := by kernel_rfl
theorem e98 (n : Nat) (ω : List Bool) (v : i98.V) : enterF C98 c98 Try.f98 (j98 n) ω v = spec_GetNum_entry (spec_GetNum_L6 n) v.1.1 v.1.2.1 := by kernel_rfl
theorem s98 : SoundC Try.prog 98 c98 := sound_by (l := l98) (J := j98) (L := [6]) tOk mx Try.func98 trivial (by kernel_rfl) (by kernel_rfl)
  ⟨⟨h98_6, fun n v => spec_GetNum_L6 n v.1.1 v.1.2.1 v.1.2.2.1 v.1.2.2.2.1 v.1.2.2.2.2.1, fun _ => rfl, fun _ => rfl, q98_6⟩, trivial⟩ FUEL (e98 FUEL)

/-! spec_l17Num -/
abbrev i59 : Shp := ⟨[(0, .c (.ptr 0 0))], [.mem [.ref 1, .v tI, .v .bool], .sl 1 tU]⟩
abbrev o59 : Shp := ⟨[(0, .c (.v tI))], [.mem [.ref 1, .v tI, .v .bool], .sl 1 tU]⟩
noncomputable def c59 : Con := ⟨i59, o59, fun v => spec_l17Num v.2.1.2.1 v.2.1.2.2.1 v.2.2.1⟩
noncomputable def l59 : List (Nat × Con) := [(98, c98)]
noncomputable def C59 : Cfg := ⟨T, gam l59, hintOf [(1, [0, 1])]⟩
theorem e59 (ω : List Bool) (v : i59.V) : enterF C59 c59 Try.f59 (fun _ _ => none) ω v = spec_l17Num v.2.1.2.1 v.2.1.2.2.1 v.2.2.1 := by kernel_rfl
theorem s59 : SoundC Try.prog 59 c59 := sound_by0 (l := l59) tOk mx Try.func59 ⟨s98, trivial⟩ (by kernel_rfl) (by kernel_rfl) e59

/-! spec_GetText -/
abbrev i99 : Shp := ⟨[(0, .c (.sl false tU)), (1, .c (.v tI))], []⟩
abbrev o99 : Shp := ⟨[(0, .tup [.inl (.v .str), .inl (.v tI), .inl (.v .bool)])], []⟩
noncomputable def c99 : Con := ⟨i99, o99, fun v => spec_GetText v.1.1 v.1.2.1⟩
noncomputable def l99 : List (Nat × Con) := [(98, c98)]
noncomputable def C99 : Cfg := ⟨T, gam l99, hintOf []⟩
theorem e99 (ω : List Bool) (v : i99.V) : enterF C99 c99 Try.f99 (fun _ _ => none) ω v = spec_GetText v.1.1 v.1.2.1 := by kernel_rfl
theorem s99 : SoundC Try.prog 99 c99 := sound_by0 (l := l99) tOk mx Try.func99 ⟨s98, trivial⟩ (by kernel_rfl) (by kernel_rfl) e99

/-! spec_l17Text -/
abbrev i60 : Shp := ⟨[(0, .c (.ptr 0 0))], [.mem [.ref 1, .v tI, .v .bool], .sl 1 tU]⟩
abbrev o60 : Shp := ⟨[(0, .c (.v .str))], [.mem [.ref 1, .v tI, .v .bool], .sl 1 tU]⟩
noncomputable def c60 : Con := ⟨i60, o60, fun v => spec_l17Text v.2.1.2.1 v.2.1.2.2.1 v.2.2.1⟩
noncomputable def l60 : List (Nat × Con) := [(99, c99)]
noncomputable def C60 : Cfg := ⟨T, gam l60, hintOf [(1, [0, 1])]⟩
theorem e60 (ω : List Bool) (v : i60.V) : enterF C60 c60 Try.f60 (fun _ _ => none) ω v = spec_l17Text v.2.1.2.1 v.2.1.2.2.1 v.2.2.1 := by kernel_rfl
theorem s60 : SoundC Try.prog 60 c60 := sound_by0 (l := l60) tOk mx Try.func60 ⟨s99, trivial⟩ (by kernel_rfl) (by kernel_rfl) e60

/-! spec_l17End -/
abbrev i61 : Shp := ⟨[(0, .c (.ptr 0 0))], [.mem [.ref 1, .v tI, .v .bool], .sl 1 tU]⟩
abbrev o61 : Shp := ⟨[(0, .c (.v .bool))], [.mem [.ref 1, .v tI, .v .bool], .sl 1 tU]⟩
noncomputable def c61 : Con := ⟨i61, o61, fun v => spec_l17End v.2.1.2.1 v.2.1.2.2.1 v.2.2.1⟩
noncomputable def l61 : List (Nat × Con) := []
noncomputable def C61 : Cfg := ⟨T, gam l61, hintOf [(1, [0, 1])]⟩
theorem e61 (ω : List Bool) (v : i61.V) : enterF C61 c61 Try.f61 (fun _ _ => none) ω v = spec_l17End v.2.1.2.1 v.2.1.2.2.1 v.2.2.1 := by kernel_rfl
theorem s61 : SoundC Try.prog 61 c61 := sound_by0 (l := l61) tOk mx Try.func61 trivial (by kernel_rfl) (by kernel_rfl) e61

/-! spec_ReaderRead -/
abbrev i15 : Shp := ⟨[(0, .c (.ref 0))], [.sl 1 tU]⟩
abbrev o15 : Shp := ⟨[(0, .tup [.inr [.v tI, .v tI, .ref 1], .inl (.v .bool)])], [.sl 1 tU, .sl 9 Y0]⟩
noncomputable def c15 : Con := ⟨i15, o15, fun v => spec_ReaderRead v.2.1⟩
noncomputable def l15 : List (Nat × Con) := [(48, c48), (59, c59), (60, c60), (61, c61)]
noncomputable def C15 : Cfg := ⟨T, gam l15, hintOf []⟩
abbrev h15_6 : Shp := ⟨[(2, .c (.ptr 1 0)), (4, .c (.ptr 3 0)), (5, .c (.ptr 4 0)), (6, .c (.v tI)), (7, .c (.v tI))], [.sl 1 tU, .mem [.v tI, .v tI, .ref 2], .sl 9 Y0, .mem [.ref 0, .v tI, .v .bool], .mem [.v tI, .v tI, .ref 5], .sl 9 Y0]⟩
noncomputable def j15 (n ℓ : Nat) (σ : St) : Option o15.V := if ℓ = 6 then jump 1 h15_6 (fun v => spec_ReaderRead_L6 n v.1.2.2.2.1 v.1.2.2.2.2.1 v.2.1 v.2.2.1.1 v.2.2.1.2.1 v.2.2.2.1 v.2.2.2.2.1.2.1 v.2.2.2.2.1.2.2.1 v.2.2.2.2.2.1.1 v.2.2.2.2.2.1.2.1 v.2.2.2.2.2.2.1) σ else none
theorem q15_6 (n : Nat) (v : h15_6.V) (ω : List Bool) : loopF C15 c15 Try.f15 (j15 n) 6 ω (h15_6.st 56 v) = spec_ReaderRead_step6 (spec_ReaderRead_L6 n) v.1.2.2.2.1 v.1.2.2.2.2.1 v.2.1 v.2.2.1.1 v.2.2.1.2.1 v.2.2.2.1 v.2.2.2.2.1.2.1 v.2.2.2.2.1.2.2.1 v.2.2.2.2.2.1.1 v.2.2.2.2.2.1.2.1 v.2.2.2.2.2.2.1 := by kernel_rfl
theorem e15 (n : Nat) (ω : List Bool) (v : i15.V) : enterF C15 c15 Try.f15 (j15 n) ω v = spec_ReaderRead_entry (spec_ReaderRead_L6 n) v.2.1 := by kernel_rfl
theorem s15 : SoundC Try.prog 15 c15 := sound_by (l := l15) (J := j15) (L := [6]) tOk mx Try.func15 ⟨s48, s59, s60, s61, trivial⟩ (by kernel_rfl) (by kernel_rfl)
  ⟨⟨h15_6, fun n v => spec_ReaderRead_L6 n v.1.2.2.2.1 v.1.2.2.2.2.1 v.2.1 v.2.2.1.1 v.2.2.1.2.1 v.2.2.2.1 v.2.2.2.2.1.2.1 v.2.2.2.2.1.2.2.1 v.2.2.2.2.2.1.1 v.2.2.2.2.2.1.2.1 v.2.2.2.2.2.2.1, fun _ => rfl, fun _ => rfl, q15_6⟩, trivial⟩ FUEL (e15 FUEL)

/-! laws_FnReaderBytes -/
abbrev i3 : Shp := ⟨[(0, .c (.sl true tU))], []⟩
abbrev o3 : Shp := ⟨[(0, .c (.v .bool))], []⟩
noncomputable def c3 : Con := ⟨i3, o3, fun v => laws_FnReaderBytes v.1.1⟩
noncomputable def l3 : List (Nat × Con) := [(8, c8), (9, c9), (10, c10), (11, c11), (12, c12), (13, c13), (14, c14), (15, c15)]
noncomputable def C3 : Cfg := ⟨T, gam l3, hintOf []⟩
theorem e3 (ω : List Bool) (v : i3.V) : enterF C3 c3 Try.f3 (fun _ _ => none) ω v = laws_FnReaderBytes v.1.1 := by kernel_rfl
theorem s3 : SoundC Try.prog 3 c3 := sound_by0 (l := l3) tOk mx Try.func3 ⟨s8, s9, s10, s11, s12, s13, s14, s15, trivial⟩ (by kernel_rfl) (by kernel_rfl) e3
end Go.Proofs.Ytphnckckgdfheaa.Wk
