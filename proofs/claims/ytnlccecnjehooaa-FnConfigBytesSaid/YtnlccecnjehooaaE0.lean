/- Each function computes what was printed: by the kernel. -/
import Derived.Test.YtnlccecnjehooaaG0
import Derived.Test.YtnlccecnjehooaaProg
import Derived.KernelRfl
set_option linter.unusedVariables false
set_option linter.unusedSimpArgs false
namespace Go.Proofs.Ytnlccecnjehooaa.Wk
open Go Go.Fw Go.M Go.Proofs
abbrev tI : Ty := .int .i64
abbrev tU : Ty := .int .u8
abbrev Y0 : Ty := (.cons (.sl tI) (.cons tI .unit))
abbrev Y1 : Ty := (.cons tI (.cons tI (.cons .str .unit)))
abbrev Y2 : Ty := (.cons tI (.cons tI (.cons (.sl Y1) .unit)))
abbrev Y3 : Ty := (.cons (.sl tU) (.cons tI (.cons .bool .unit)))
abbrev Y4 : Ty := (.cons (.sl tU) (.cons tI (.cons tI .unit)))
def T : Tab := [(3, ⟨1, 8, .int .i64, some tI⟩),
  (4, ⟨1, 1, .bool, some .bool⟩),
  (5, ⟨1, 1, .int .u8, some tU⟩),
  (9, ⟨1, 16, .str, some .str⟩),
  (22, ⟨1, 24, .sl 3, some (.sl tI)⟩),
  (24, ⟨2, 32, .st [(0, 22), (1, 3)], some Y0⟩),
  (26, ⟨1, 24, .sl 5, some (.sl tU)⟩),
  (29, ⟨2, 32, .st [(0, 22), (1, 3)], some Y0⟩),
  (40, ⟨1, 24, .sl 95, some (.sl Y1)⟩),
  (42, ⟨3, 40, .st [(0, 3), (1, 3), (2, 40)], some Y2⟩),
  (45, ⟨1, 24, .sl 76, some (.sl Y1)⟩),
  (47, ⟨3, 40, .st [(0, 3), (1, 3), (2, 45)], some Y2⟩),
  (61, ⟨1, 8, .ptr 63, none⟩),
  (63, ⟨3, 40, .st [(0, 26), (1, 3), (2, 4)], some Y3⟩),
  (67, ⟨1, 8, .ptr 69, none⟩),
  (69, ⟨3, 40, .st [(0, 26), (1, 3), (2, 4)], some Y3⟩),
  (76, ⟨3, 32, .st [(0, 3), (1, 3), (2, 9)], some Y1⟩),
  (87, ⟨1, 8, .ptr 105, none⟩),
  (95, ⟨3, 32, .st [(0, 3), (1, 3), (2, 9)], some Y1⟩),
  (105, ⟨3, 40, .st [(0, 26), (1, 3), (2, 3)], some Y4⟩)]
theorem tOk : TabOk Try.prog T := tabOk_of_check (by kernel_rfl)
theorem mx : Try.prog.follows .mixedOrders = true := by kernel_rfl

/-! laws_big -/
abbrev i30 : Shp := ⟨[(0, .c (.sl false tU))], []⟩
abbrev o30 : Shp := ⟨[(0, .c (.v .bool))], []⟩
noncomputable def c30 : Con := ⟨i30, o30, fun v => laws_big v.1.1⟩
noncomputable def l30 : List (Nat × Con) := []
noncomputable def C30 : Cfg := ⟨T, gam l30, hintOf []⟩
theorem e30 (ω : List Bool) (v : i30.V) : enterF C30 c30 Try.f30 (fun _ _ => none) ω v = laws_big v.1.1 := by kernel_rfl
theorem s30 : SoundC Try.prog 30 c30 := sound_by0 (l := l30) tOk mx Try.func30 trivial (by kernel_rfl) (by kernel_rfl) e30

/-! spec_l1New -/
abbrev i66 : Shp := ⟨[(0, .c (.sl true tU))], []⟩
abbrev o66 : Shp := ⟨[(0, .c (.ptr 0 0))], [.mem [.sl true tU, .v tI, .v tI]]⟩
noncomputable def c66 : Con := ⟨i66, o66, fun v => spec_l1New v.1.1⟩
noncomputable def l66 : List (Nat × Con) := []
noncomputable def C66 : Cfg := ⟨T, gam l66, hintOf []⟩
abbrev h66_3 : Shp := ⟨[(0, .c (.sl true tU)), (3, .c (.v tI)), (4, .c (.v tI))], []⟩
noncomputable def j66 (n ℓ : Nat) (σ : St) : Option o66.V := if ℓ = 3 then jump 0 h66_3 (fun v => spec_l1New_L3 n v.1.1 v.1.2.1 v.1.2.2.1) σ else none
theorem q66_3 (n : Nat) (v : h66_3.V) (ω : List Bool) : loopF C66 c66 Try.f66 (j66 n) 3 ω (h66_3.st 32 v) = spec_l1New_step3 (spec_l1New_L3 n) v.1.1 v.1.2.1 v.1.2.2.1 := by kernel_rfl
theorem e66 (n : Nat) (ω : List Bool) (v : i66.V) : enterF C66 c66 Try.f66 (j66 n) ω v = spec_l1New_entry (spec_l1New_L3 n) v.1.1 := by kernel_rfl
theorem s66 : SoundC Try.prog 66 c66 := sound_by (l := l66) (J := j66) (L := [3]) tOk mx Try.func66 trivial (by kernel_rfl) (by kernel_rfl)
  ⟨⟨h66_3, fun n v => spec_l1New_L3 n v.1.1 v.1.2.1 v.1.2.2.1, fun _ => rfl, fun _ => rfl, q66_3⟩, trivial⟩ FUEL (e66 FUEL)

/-! spec_l1Byte -/
abbrev i84 : Shp := ⟨[(0, .c (.ptr 0 0))], [.mem [.sl true tU, .v tI, .v tI]]⟩
abbrev o84 : Shp := ⟨[(0, .c (.v tI))], [.mem [.sl true tU, .v tI, .v tI]]⟩
noncomputable def c84 : Con := ⟨i84, o84, fun v => spec_l1Byte v.2.1.1 v.2.1.2.1 v.2.1.2.2.1⟩
noncomputable def l84 : List (Nat × Con) := []
noncomputable def C84 : Cfg := ⟨T, gam l84, hintOf [(2, [0]), (3, [0]), (4, [0])]⟩
theorem e84 (ω : List Bool) (v : i84.V) : enterF C84 c84 Try.f84 (fun _ _ => none) ω v = spec_l1Byte v.2.1.1 v.2.1.2.1 v.2.1.2.2.1 := by kernel_rfl
theorem s84 : SoundC Try.prog 84 c84 := sound_by0 (l := l84) tOk mx Try.func84 trivial (by kernel_rfl) (by kernel_rfl) e84

/-! spec_l1Below -/
abbrev i81 : Shp := ⟨[(0, .c (.ptr 0 0)), (1, .c (.v tI))], [.mem [.sl true tU, .v tI, .v tI]]⟩
abbrev o81 : Shp := ⟨[(0, .c (.v tI))], [.mem [.sl true tU, .v tI, .v tI]]⟩
noncomputable def c81 : Con := ⟨i81, o81, fun v => spec_l1Below v.1.2.1 v.2.1.1 v.2.1.2.1 v.2.1.2.2.1⟩
noncomputable def l81 : List (Nat × Con) := [(84, c84)]
noncomputable def C81 : Cfg := ⟨T, gam l81, hintOf []⟩
theorem e81 (ω : List Bool) (v : i81.V) : enterF C81 c81 Try.f81 (fun _ _ => none) ω v = spec_l1Below v.1.2.1 v.2.1.1 v.2.1.2.1 v.2.1.2.2.1 := by kernel_rfl
theorem s81 : SoundC Try.prog 81 c81 := sound_by0 (l := l81) tOk mx Try.func81 ⟨s84, trivial⟩ (by kernel_rfl) (by kernel_rfl) e81

/-! spec_l1Once -/
abbrev i83 : Shp := ⟨[(0, .c (.ptr 0 0)), (1, .c (.v tI))], [.mem [.sl true tU, .v tI, .v tI]]⟩
abbrev o83 : Shp := ⟨[(0, .c (.v .bool))], [.mem [.sl true tU, .v tI, .v tI]]⟩
noncomputable def c83 : Con := ⟨i83, o83, fun v => spec_l1Once v.1.2.1 v.2.1.1 v.2.1.2.1 v.2.1.2.2.1⟩
noncomputable def l83 : List (Nat × Con) := [(81, c81)]
noncomputable def C83 : Cfg := ⟨T, gam l83, hintOf []⟩
theorem e83 (ω : List Bool) (v : i83.V) : enterF C83 c83 Try.f83 (fun _ _ => none) ω v = spec_l1Once v.1.2.1 v.2.1.1 v.2.1.2.1 v.2.1.2.2.1 := by kernel_rfl
theorem s83 : SoundC Try.prog 83 c83 := sound_by0 (l := l83) tOk mx Try.func83 ⟨s81, trivial⟩ (by kernel_rfl) (by kernel_rfl) e83

/-! spec_l4DrawRight -/
abbrev i67 : Shp := ⟨[(0, .c (.ptr 0 0))], [.mem [.sl true tU, .v tI, .v tI]]⟩
abbrev o67 : Shp := ⟨[(0, .agg [.ref 1, .v tI])], [.mem [.sl true tU, .v tI, .v tI], .sl 9 tI]⟩
noncomputable def c67 : Con := ⟨i67, o67, fun v => spec_l4DrawRight v.2.1.1 v.2.1.2.1 v.2.1.2.2.1⟩
noncomputable def l67 : List (Nat × Con) := [(81, c81), (83, c83)]
noncomputable def C67 : Cfg := ⟨T, gam l67, hintOf [(6, [1, 2])]⟩
abbrev h67_4 : Shp := ⟨[(0, .c (.ptr 0 0)), (2, .c (.ptr 1 0)), (3, .c (.ptr 3 0)), (4, .c (.v tI)), (5, .c (.v tI))], [.mem [.sl true tU, .v tI, .v tI], .mem [.ref 2, .v tI], .sl 9 tI, .mem [.ref 4, .v tI], .sl 9 tI]⟩
noncomputable def j67 (n ℓ : Nat) (σ : St) : Option o67.V := if ℓ = 4 then jump 1 h67_4 (fun v => spec_l4DrawRight_L4 n v.1.2.2.2.1 v.1.2.2.2.2.1 v.2.1.1 v.2.1.2.1 v.2.1.2.2.1 v.2.2.1.2.1 v.2.2.2.1 v.2.2.2.2.1.2.1 v.2.2.2.2.2.1) σ else none
theorem q67_4 (n : Nat) (v : h67_4.V) (ω : List Bool) : loopF C67 c67 Try.f67 (j67 n) 4 ω (h67_4.st 29 v) = spec_l4DrawRight_step4 (spec_l4DrawRight_L4 n) v.1.2.2.2.1 v.1.2.2.2.2.1 v.2.1.1 v.2.1.2.1 v.2.1.2.2.1 v.2.2.1.2.1 v.2.2.2.1 v.2.2.2.2.1.2.1 v.2.2.2.2.2.1 := by rcases ω with _ | ⟨_ | _, _ | ⟨_ | _, _⟩⟩ <;> kernel_rfl
theorem e67 (n : Nat) (ω : List Bool) (v : i67.V) : enterF C67 c67 Try.f67 (j67 n) ω v = spec_l4DrawRight_entry (spec_l4DrawRight_L4 n) v.2.1.1 v.2.1.2.1 v.2.1.2.2.1 := by kernel_rfl
theorem s67 : SoundC Try.prog 67 c67 := sound_by (l := l67) (J := j67) (L := [4]) tOk mx Try.func67 ⟨s81, s83, trivial⟩ (by kernel_rfl) (by kernel_rfl)
  ⟨⟨h67_4, fun n v => spec_l4DrawRight_L4 n v.1.2.2.2.1 v.1.2.2.2.2.1 v.2.1.1 v.2.1.2.1 v.2.1.2.2.1 v.2.2.1.2.1 v.2.2.2.1 v.2.2.2.2.1.2.1 v.2.2.2.2.2.1, fun _ => rfl, fun _ => rfl, q67_4⟩, trivial⟩ FUEL (e67 FUEL)

/-! spec_l1PickInt -/
abbrev i82 : Shp := ⟨[(0, .c (.ptr 0 0)), (1, .c (.sl false tI))], [.mem [.sl true tU, .v tI, .v tI]]⟩
abbrev o82 : Shp := ⟨[(0, .c (.v tI))], [.mem [.sl true tU, .v tI, .v tI]]⟩
noncomputable def c82 : Con := ⟨i82, o82, fun v => spec_l1PickInt v.1.2.1 v.2.1.1 v.2.1.2.1 v.2.1.2.2.1⟩
noncomputable def l82 : List (Nat × Con) := [(81, c81)]
noncomputable def C82 : Cfg := ⟨T, gam l82, hintOf []⟩
theorem e82 (ω : List Bool) (v : i82.V) : enterF C82 c82 Try.f82 (fun _ _ => none) ω v = spec_l1PickInt v.1.2.1 v.2.1.1 v.2.1.2.1 v.2.1.2.2.1 := by kernel_rfl
theorem s82 : SoundC Try.prog 82 c82 := sound_by0 (l := l82) tOk mx Try.func82 ⟨s81, trivial⟩ (by kernel_rfl) (by kernel_rfl) e82

/-! spec_l4Draw -/
abbrev i65 : Shp := ⟨[(0, .c (.ptr 0 0))], [.mem [.sl true tU, .v tI, .v tI]]⟩
abbrev o65 : Shp := ⟨[(0, .agg [.ref 1, .v tI])], [.mem [.sl true tU, .v tI, .v tI], .sl 9 tI]⟩
noncomputable def c65 : Con := ⟨i65, o65, fun v => spec_l4Draw v.2.1.1 v.2.1.2.1 v.2.1.2.2.1⟩
noncomputable def l65 : List (Nat × Con) := [(67, c67), (81, c81), (82, c82)]
noncomputable def C65 : Cfg := ⟨T, gam l65, hintOf [(6, [1, 4])]⟩
theorem e65 (ω : List Bool) (v : i65.V) : enterF C65 c65 Try.f65 (fun _ _ => none) ω v = spec_l4Draw v.2.1.1 v.2.1.2.1 v.2.1.2.2.1 := by kernel_rfl
theorem s65 : SoundC Try.prog 65 c65 := sound_by0 (l := l65) tOk mx Try.func65 ⟨s67, s81, s82, trivial⟩ (by kernel_rfl) (by kernel_rfl) e65

/-! spec_DrawConfigPack -/
abbrev i31 : Shp := ⟨[(0, .c (.sl true tU))], []⟩
abbrev o31 : Shp := ⟨[(0, .agg [.ref 0, .v tI])], [.sl 9 tI]⟩
noncomputable def c31 : Con := ⟨i31, o31, fun v => spec_DrawConfigPack v.1.1⟩
noncomputable def l31 : List (Nat × Con) := [(65, c65), (66, c66)]
noncomputable def C31 : Cfg := ⟨T, gam l31, hintOf []⟩
theorem e31 (ω : List Bool) (v : i31.V) : enterF C31 c31 Try.f31 (fun _ _ => none) ω v = spec_DrawConfigPack v.1.1 := by kernel_rfl
theorem s31 : SoundC Try.prog 31 c31 := sound_by0 (l := l31) tOk mx Try.func31 ⟨s65, s66, trivial⟩ (by kernel_rfl) (by kernel_rfl) e31

/-! impl_within -/
abbrev i70 : Shp := ⟨[(0, .c (.v tI)), (1, .c (.v tI)), (2, .c (.v tI))], []⟩
abbrev o70 : Shp := ⟨[(0, .c (.v .bool))], []⟩
noncomputable def c70 : Con := ⟨i70, o70, fun v => impl_within v.1.1 v.1.2.1 v.1.2.2.1⟩
noncomputable def l70 : List (Nat × Con) := []
noncomputable def C70 : Cfg := ⟨T, gam l70, hintOf []⟩
theorem e70 (ω : List Bool) (v : i70.V) : enterF C70 c70 Try.f70 (fun _ _ => none) ω v = impl_within v.1.1 v.1.2.1 v.1.2.2.1 := by kernel_rfl
theorem s70 : SoundC Try.prog 70 c70 := sound_by0 (l := l70) tOk mx Try.func70 trivial (by kernel_rfl) (by kernel_rfl) e70

/-! impl_ConfigOk -/
abbrev i39 : Shp := ⟨[(0, .row Y0)], []⟩
abbrev o39 : Shp := ⟨[(0, .c (.v .bool))], []⟩
noncomputable def c39 : Con := ⟨i39, o39, fun v => impl_ConfigOk v.1.1⟩
noncomputable def l39 : List (Nat × Con) := [(70, c70)]
noncomputable def C39 : Cfg := ⟨T, gam l39, hintOf []⟩
abbrev h39_2 : Shp := ⟨[(1, .c (.ptr 0 0)), (6, .c (.sl false tI)), (7, .c (.v tI)), (8, .c (.v tI))], [.mem [.sl false tI, .v tI]]⟩
noncomputable def j39 (n ℓ : Nat) (σ : St) : Option o39.V := if ℓ = 2 then jump 0 h39_2 (fun v => impl_ConfigOk_L2 n v.1.2.1 v.1.2.2.1 v.1.2.2.2.1 v.2.1.1 v.2.1.2.1) σ else none
theorem q39_2 (n : Nat) (v : h39_2.V) (ω : List Bool) : loopF C39 c39 Try.f39 (j39 n) 2 ω (h39_2.st 25 v) = impl_ConfigOk_step2 (impl_ConfigOk_L2 n) v.1.2.1 v.1.2.2.1 v.1.2.2.2.1 v.2.1.1 v.2.1.2.1 := by kernel_rfl
theorem e39 (n : Nat) (ω : List Bool) (v : i39.V) : enterF C39 c39 Try.f39 (j39 n) ω v = impl_ConfigOk_entry (impl_ConfigOk_L2 n) v.1.1 := by kernel_rfl
theorem s39 : SoundC Try.prog 39 c39 := sound_by (l := l39) (J := j39) (L := [2]) tOk mx Try.func39 ⟨s70, trivial⟩ (by kernel_rfl) (by kernel_rfl)
  ⟨⟨h39_2, fun n v => impl_ConfigOk_L2 n v.1.2.1 v.1.2.2.1 v.1.2.2.2.1 v.2.1.1 v.2.1.2.1, fun _ => rfl, fun _ => rfl, q39_2⟩, trivial⟩ FUEL (e39 FUEL)

/-! impl_PutNum -/
abbrev i41 : Shp := ⟨[(0, .c (.v tI))], []⟩
abbrev o41 : Shp := ⟨[(0, .c (.ref 0))], [.sl 9 tU]⟩
noncomputable def c41 : Con := ⟨i41, o41, fun v => impl_PutNum v.1.1⟩
noncomputable def l41 : List (Nat × Con) := []
noncomputable def C41 : Cfg := ⟨T, gam l41, hintOf []⟩
abbrev h41_4 : Shp := ⟨[(0, .c (.v tI)), (3, .c (.ref 0))], [.sl 9 tU]⟩
noncomputable def j41 (n ℓ : Nat) (σ : St) : Option o41.V := if ℓ = 4 then jump 0 h41_4 (fun v => impl_PutNum_L4 n v.1.1 v.2.1) σ else none
theorem q41_4 (n : Nat) (v : h41_4.V) (ω : List Bool) : loopF C41 c41 Try.f41 (j41 n) 4 ω (h41_4.st 23 v) = impl_PutNum_step4 (impl_PutNum_L4 n) v.1.1 v.2.1 := by kernel_rfl
theorem e41 (n : Nat) (ω : List Bool) (v : i41.V) : enterF C41 c41 Try.f41 (j41 n) ω v = impl_PutNum_entry (impl_PutNum_L4 n) v.1.1 := by kernel_rfl
theorem s41 : SoundC Try.prog 41 c41 := sound_by (l := l41) (J := j41) (L := [4]) tOk mx Try.func41 trivial (by kernel_rfl) (by kernel_rfl)
  ⟨⟨h41_4, fun n v => impl_PutNum_L4 n v.1.1 v.2.1, fun _ => rfl, fun _ => rfl, q41_4⟩, trivial⟩ FUEL (e41 FUEL)

/-! impl_putNums -/
abbrev i56 : Shp := ⟨[(0, .c (.sl false tI))], []⟩
abbrev o56 : Shp := ⟨[(0, .c (.ref 0))], [.sl 9 tU]⟩
noncomputable def c56 : Con := ⟨i56, o56, fun v => impl_putNums v.1.1⟩
noncomputable def l56 : List (Nat × Con) := [(41, c41)]
noncomputable def C56 : Cfg := ⟨T, gam l56, hintOf []⟩
abbrev h56_3 : Shp := ⟨[(3, .c (.ref 0)), (7, .c (.sl false tI)), (8, .c (.v tI)), (9, .c (.v tI))], [.sl 9 tU]⟩
noncomputable def j56 (n ℓ : Nat) (σ : St) : Option o56.V := if ℓ = 3 then jump 0 h56_3 (fun v => impl_putNums_L3 n v.1.2.1 v.1.2.2.1 v.1.2.2.2.1 v.2.1) σ else none
theorem q56_3 (n : Nat) (v : h56_3.V) (ω : List Bool) : loopF C56 c56 Try.f56 (j56 n) 3 ω (h56_3.st 19 v) = impl_putNums_step3 (impl_putNums_L3 n) v.1.2.1 v.1.2.2.1 v.1.2.2.2.1 v.2.1 := by kernel_rfl
theorem e56 (n : Nat) (ω : List Bool) (v : i56.V) : enterF C56 c56 Try.f56 (j56 n) ω v = impl_putNums_entry (impl_putNums_L3 n) v.1.1 := by kernel_rfl
theorem s56 : SoundC Try.prog 56 c56 := sound_by (l := l56) (J := j56) (L := [3]) tOk mx Try.func56 ⟨s41, trivial⟩ (by kernel_rfl) (by kernel_rfl)
  ⟨⟨h56_3, fun n v => impl_putNums_L3 n v.1.2.1 v.1.2.2.1 v.1.2.2.2.1 v.2.1, fun _ => rfl, fun _ => rfl, q56_3⟩, trivial⟩ FUEL (e56 FUEL)

/-! impl_putList -/
abbrev i40 : Shp := ⟨[(0, .c (.sl false tI))], []⟩
abbrev o40 : Shp := ⟨[(0, .c (.ref 0))], [.sl 9 tU]⟩
noncomputable def c40 : Con := ⟨i40, o40, fun v => impl_putList v.1.1⟩
noncomputable def l40 : List (Nat × Con) := [(41, c41), (56, c56)]
noncomputable def C40 : Cfg := ⟨T, gam l40, hintOf []⟩
theorem e40 (ω : List Bool) (v : i40.V) : enterF C40 c40 Try.f40 (fun _ _ => none) ω v = impl_putList v.1.1 := by kernel_rfl
theorem s40 : SoundC Try.prog 40 c40 := sound_by0 (l := l40) tOk mx Try.func40 ⟨s41, s56, trivial⟩ (by kernel_rfl) (by kernel_rfl) e40

/-! impl_ConfigPack -/
abbrev i11 : Shp := ⟨[(0, .row Y0)], []⟩
abbrev o11 : Shp := ⟨[(0, .tup [.inl (.ref 0), .inl (.v .bool)])], [.sl 9 tU]⟩
noncomputable def c11 : Con := ⟨i11, o11, fun v => impl_ConfigPack v.1.1⟩
noncomputable def l11 : List (Nat × Con) := [(39, c39), (40, c40), (41, c41)]
noncomputable def C11 : Cfg := ⟨T, gam l11, hintOf [(3, [0])]⟩
theorem e11 (ω : List Bool) (v : i11.V) : enterF C11 c11 Try.f11 (fun _ _ => none) ω v = impl_ConfigPack v.1.1 := by kernel_rfl
theorem s11 : SoundC Try.prog 11 c11 := sound_by0 (l := l11) tOk mx Try.func11 ⟨s39, s40, s41, trivial⟩ (by kernel_rfl) (by kernel_rfl) e11

/-! spec_l1In -/
abbrev i69 : Shp := ⟨[(0, .c (.v tI)), (1, .c (.v tI)), (2, .c (.v tI))], []⟩
abbrev o69 : Shp := ⟨[(0, .c (.v .bool))], []⟩
noncomputable def c69 : Con := ⟨i69, o69, fun v => spec_l1In v.1.1 v.1.2.1 v.1.2.2.1⟩
noncomputable def l69 : List (Nat × Con) := []
noncomputable def C69 : Cfg := ⟨T, gam l69, hintOf []⟩
theorem e69 (ω : List Bool) (v : i69.V) : enterF C69 c69 Try.f69 (fun _ _ => none) ω v = spec_l1In v.1.1 v.1.2.1 v.1.2.2.1 := by kernel_rfl
theorem s69 : SoundC Try.prog 69 c69 := sound_by0 (l := l69) tOk mx Try.func69 trivial (by kernel_rfl) (by kernel_rfl) e69

/-! spec_ConfigOk -/
abbrev i35 : Shp := ⟨[(0, .row Y0)], []⟩
abbrev o35 : Shp := ⟨[(0, .c (.v .bool))], []⟩
noncomputable def c35 : Con := ⟨i35, o35, fun v => spec_ConfigOk v.1.1⟩
noncomputable def l35 : List (Nat × Con) := [(69, c69)]
noncomputable def C35 : Cfg := ⟨T, gam l35, hintOf []⟩
abbrev h35_4 : Shp := ⟨[(1, .c (.ptr 0 0)), (3, .c (.v tI))], [.mem [.sl false tI, .v tI]]⟩
noncomputable def j35 (n ℓ : Nat) (σ : St) : Option o35.V := if ℓ = 4 then jump 0 h35_4 (fun v => spec_ConfigOk_L4 n v.1.2.1 v.2.1.1 v.2.1.2.1) σ else none
theorem q35_4 (n : Nat) (v : h35_4.V) (ω : List Bool) : loopF C35 c35 Try.f35 (j35 n) 4 ω (h35_4.st 29 v) = spec_ConfigOk_step4 (spec_ConfigOk_L4 n) v.1.2.1 v.2.1.1 v.2.1.2.1 := by kernel_rfl
theorem e35 (n : Nat) (ω : List Bool) (v : i35.V) : enterF C35 c35 Try.f35 (j35 n) ω v = spec_ConfigOk_entry (spec_ConfigOk_L4 n) v.1.1 := by kernel_rfl
theorem s35 : SoundC Try.prog 35 c35 := sound_by (l := l35) (J := j35) (L := [4]) tOk mx Try.func35 ⟨s69, trivial⟩ (by kernel_rfl) (by kernel_rfl)
  ⟨⟨h35_4, fun n v => spec_ConfigOk_L4 n v.1.2.1 v.2.1.1 v.2.1.2.1, fun _ => rfl, fun _ => rfl, q35_4⟩, trivial⟩ FUEL (e35 FUEL)

/-! spec_PutNum -/
abbrev i37 : Shp := ⟨[(0, .c (.v tI))], []⟩
abbrev o37 : Shp := ⟨[(0, .c (.ref 0))], [.sl 9 tU]⟩
noncomputable def c37 : Con := ⟨i37, o37, fun v => spec_PutNum v.1.1⟩
noncomputable def l37 : List (Nat × Con) := []
noncomputable def C37 : Cfg := ⟨T, gam l37, hintOf []⟩
abbrev h37_4 : Shp := ⟨[(0, .c (.v tI)), (3, .c (.ref 0))], [.sl 9 tU]⟩
noncomputable def j37 (n ℓ : Nat) (σ : St) : Option o37.V := if ℓ = 4 then jump 0 h37_4 (fun v => spec_PutNum_L4 n v.1.1 v.2.1) σ else none
theorem q37_4 (n : Nat) (v : h37_4.V) (ω : List Bool) : loopF C37 c37 Try.f37 (j37 n) 4 ω (h37_4.st 24 v) = spec_PutNum_step4 (spec_PutNum_L4 n) v.1.1 v.2.1 := by kernel_rfl
theorem e37 (n : Nat) (ω : List Bool) (v : i37.V) : enterF C37 c37 Try.f37 (j37 n) ω v = spec_PutNum_entry (spec_PutNum_L4 n) v.1.1 := by kernel_rfl
theorem s37 : SoundC Try.prog 37 c37 := sound_by (l := l37) (J := j37) (L := [4]) tOk mx Try.func37 trivial (by kernel_rfl) (by kernel_rfl)
  ⟨⟨h37_4, fun n v => spec_PutNum_L4 n v.1.1 v.2.1, fun _ => rfl, fun _ => rfl, q37_4⟩, trivial⟩ FUEL (e37 FUEL)

/-! spec_l17List -/
abbrev i36 : Shp := ⟨[(0, .c (.sl false tI))], []⟩
abbrev o36 : Shp := ⟨[(0, .c (.ref 0))], [.sl 9 tU]⟩
noncomputable def c36 : Con := ⟨i36, o36, fun v => spec_l17List v.1.1⟩
noncomputable def l36 : List (Nat × Con) := [(37, c37)]
noncomputable def C36 : Cfg := ⟨T, gam l36, hintOf []⟩
abbrev h36_3 : Shp := ⟨[(0, .c (.sl false tI)), (3, .c (.ref 0)), (4, .c (.v tI))], [.sl 9 tU]⟩
noncomputable def j36 (n ℓ : Nat) (σ : St) : Option o36.V := if ℓ = 3 then jump 0 h36_3 (fun v => spec_l17List_L3 n v.1.1 v.1.2.2.1 v.2.1) σ else none
theorem q36_3 (n : Nat) (v : h36_3.V) (ω : List Bool) : loopF C36 c36 Try.f36 (j36 n) 3 ω (h36_3.st 22 v) = spec_l17List_step3 (spec_l17List_L3 n) v.1.1 v.1.2.2.1 v.2.1 := by kernel_rfl
theorem e36 (n : Nat) (ω : List Bool) (v : i36.V) : enterF C36 c36 Try.f36 (j36 n) ω v = spec_l17List_entry (spec_l17List_L3 n) v.1.1 := by kernel_rfl
theorem s36 : SoundC Try.prog 36 c36 := sound_by (l := l36) (J := j36) (L := [3]) tOk mx Try.func36 ⟨s37, trivial⟩ (by kernel_rfl) (by kernel_rfl)
  ⟨⟨h36_3, fun n v => spec_l17List_L3 n v.1.1 v.1.2.2.1 v.2.1, fun _ => rfl, fun _ => rfl, q36_3⟩, trivial⟩ FUEL (e36 FUEL)

/-! spec_ConfigPack -/
abbrev i9 : Shp := ⟨[(0, .row Y0)], []⟩
abbrev o9 : Shp := ⟨[(0, .tup [.inl (.ref 0), .inl (.v .bool)])], [.sl 9 tU]⟩
noncomputable def c9 : Con := ⟨i9, o9, fun v => spec_ConfigPack v.1.1⟩
noncomputable def l9 : List (Nat × Con) := [(35, c35), (36, c36), (37, c37)]
noncomputable def C9 : Cfg := ⟨T, gam l9, hintOf [(3, [0])]⟩
theorem e9 (ω : List Bool) (v : i9.V) : enterF C9 c9 Try.f9 (fun _ _ => none) ω v = spec_ConfigPack v.1.1 := by kernel_rfl
theorem s9 : SoundC Try.prog 9 c9 := sound_by0 (l := l9) tOk mx Try.func9 ⟨s35, s36, s37, trivial⟩ (by kernel_rfl) (by kernel_rfl) e9

/-! impl_GetNum -/
abbrev i72 : Shp := ⟨[(0, .c (.sl false tU)), (1, .c (.v tI))], []⟩
abbrev o72 : Shp := ⟨[(0, .tup [.inl (.v tI), .inl (.v tI), .inl (.v .bool)])], []⟩
noncomputable def c72 : Con := ⟨i72, o72, fun v => impl_GetNum v.1.1 v.1.2.1⟩
noncomputable def l72 : List (Nat × Con) := []
noncomputable def C72 : Cfg := ⟨T, gam l72, hintOf []⟩
abbrev h72_5 : Shp := ⟨[(0, .c (.sl false tU)), (1, .c (.v tI)), (7, .c (.v tI)), (8, .c (.v tI))], []⟩
noncomputable def j72 (n ℓ : Nat) (σ : St) : Option o72.V := if ℓ = 5 then jump 0 h72_5 (fun v => impl_GetNum_L5 n v.1.1 v.1.2.1 v.1.2.2.1 v.1.2.2.2.1) σ else none
theorem q72_5 (n : Nat) (v : h72_5.V) (ω : List Bool) : loopF C72 c72 Try.f72 (j72 n) 5 ω (h72_5.st 51 v) = impl_GetNum_step5 (impl_GetNum_L5 n) v.1.1 v.1.2.1 v.1.2.2.1 v.1.2.2.2.1 := by kernel_rfl
theorem e72 (n : Nat) (ω : List Bool) (v : i72.V) : enterF C72 c72 Try.f72 (j72 n) ω v = impl_GetNum_entry (impl_GetNum_L5 n) v.1.1 v.1.2.1 := by kernel_rfl
theorem s72 : SoundC Try.prog 72 c72 := sound_by (l := l72) (J := j72) (L := [5]) tOk mx Try.func72 trivial (by kernel_rfl) (by kernel_rfl)
  ⟨⟨h72_5, fun n v => impl_GetNum_L5 n v.1.1 v.1.2.1 v.1.2.2.1 v.1.2.2.2.1, fun _ => rfl, fun _ => rfl, q72_5⟩, trivial⟩ FUEL (e72 FUEL)

/-! impl_reader_num -/
abbrev i48 : Shp := ⟨[(0, .c (.ptr 0 0))], [.mem [.ref 1, .v tI, .v .bool], .sl 9 tU]⟩
abbrev o48 : Shp := ⟨[(0, .c (.v tI))], [.mem [.ref 1, .v tI, .v .bool], .sl 9 tU]⟩
noncomputable def c48 : Con := ⟨i48, o48, fun v => impl_reader_num v.2.1.2.1 v.2.1.2.2.1 v.2.2.1⟩
noncomputable def l48 : List (Nat × Con) := [(72, c72)]
noncomputable def C48 : Cfg := ⟨T, gam l48, hintOf [(1, [0, 1])]⟩
theorem e48 (ω : List Bool) (v : i48.V) : enterF C48 c48 Try.f48 (fun _ _ => none) ω v = impl_reader_num v.2.1.2.1 v.2.1.2.2.1 v.2.2.1 := by kernel_rfl
theorem s48 : SoundC Try.prog 48 c48 := sound_by0 (l := l48) tOk mx Try.func48 ⟨s72, trivial⟩ (by kernel_rfl) (by kernel_rfl) e48

/-! impl_reader_count -/
abbrev i62 : Shp := ⟨[(0, .c (.ptr 0 0)), (1, .c (.v tI))], [.mem [.ref 1, .v tI, .v .bool], .sl 9 tU]⟩
abbrev o62 : Shp := ⟨[(0, .c (.v tI))], [.mem [.ref 1, .v tI, .v .bool], .sl 9 tU]⟩
noncomputable def c62 : Con := ⟨i62, o62, fun v => impl_reader_count v.1.2.1 v.2.1.2.1 v.2.1.2.2.1 v.2.2.1⟩
noncomputable def l62 : List (Nat × Con) := [(48, c48)]
noncomputable def C62 : Cfg := ⟨T, gam l62, hintOf []⟩
theorem e62 (ω : List Bool) (v : i62.V) : enterF C62 c62 Try.f62 (fun _ _ => none) ω v = impl_reader_count v.1.2.1 v.2.1.2.1 v.2.1.2.2.1 v.2.2.1 := by kernel_rfl
theorem s62 : SoundC Try.prog 62 c62 := sound_by0 (l := l62) tOk mx Try.func62 ⟨s48, trivial⟩ (by kernel_rfl) (by kernel_rfl) e62

/-! impl_reader_list -/
abbrev i47 : Shp := ⟨[(0, .c (.ptr 0 0)), (1, .c (.v tI))], [.mem [.ref 1, .v tI, .v .bool], .sl 9 tU]⟩
abbrev o47 : Shp := ⟨[(0, .c (.ref 2))], [.mem [.ref 1, .v tI, .v .bool], .sl 9 tU, .sl 9 tI]⟩
noncomputable def c47 : Con := ⟨i47, o47, fun v => impl_reader_list v.1.2.1 v.2.1.2.1 v.2.1.2.2.1 v.2.2.1⟩
noncomputable def l47 : List (Nat × Con) := [(48, c48), (62, c62)]
noncomputable def C47 : Cfg := ⟨T, gam l47, hintOf []⟩
abbrev h47_4 : Shp := ⟨[(0, .c (.ptr 0 0)), (5, .c (.ref 2)), (12, .c (.v tI)), (13, .c (.v tI))], [.mem [.ref 1, .v tI, .v .bool], .sl 9 tU, .sl 9 tI]⟩
noncomputable def j47 (n ℓ : Nat) (σ : St) : Option o47.V := if ℓ = 4 then jump 2 h47_4 (fun v => impl_reader_list_L4 n v.1.2.2.1 v.1.2.2.2.1 v.2.1.2.1 v.2.1.2.2.1 v.2.2.1 v.2.2.2.1) σ else none
theorem q47_4 (n : Nat) (v : h47_4.V) (ω : List Bool) : loopF C47 c47 Try.f47 (j47 n) 4 ω (h47_4.st 23 v) = impl_reader_list_step4 (impl_reader_list_L4 n) v.1.2.2.1 v.1.2.2.2.1 v.2.1.2.1 v.2.1.2.2.1 v.2.2.1 v.2.2.2.1 := by kernel_rfl
theorem e47 (n : Nat) (ω : List Bool) (v : i47.V) : enterF C47 c47 Try.f47 (j47 n) ω v = impl_reader_list_entry (impl_reader_list_L4 n) v.1.2.1 v.2.1.2.1 v.2.1.2.2.1 v.2.2.1 := by kernel_rfl
theorem s47 : SoundC Try.prog 47 c47 := sound_by (l := l47) (J := j47) (L := [4]) tOk mx Try.func47 ⟨s48, s62, trivial⟩ (by kernel_rfl) (by kernel_rfl)
  ⟨⟨h47_4, fun n v => impl_reader_list_L4 n v.1.2.2.1 v.1.2.2.2.1 v.2.1.2.1 v.2.1.2.2.1 v.2.2.1 v.2.2.2.1, fun _ => rfl, fun _ => rfl, q47_4⟩, trivial⟩ FUEL (e47 FUEL)

/-! impl_reader_done -/
abbrev i49 : Shp := ⟨[(0, .c (.ptr 0 0))], [.mem [.ref 1, .v tI, .v .bool], .sl 9 tU]⟩
abbrev o49 : Shp := ⟨[(0, .c (.v .bool))], [.mem [.ref 1, .v tI, .v .bool], .sl 9 tU]⟩
noncomputable def c49 : Con := ⟨i49, o49, fun v => impl_reader_done v.2.1.2.1 v.2.1.2.2.1 v.2.2.1⟩
noncomputable def l49 : List (Nat × Con) := []
noncomputable def C49 : Cfg := ⟨T, gam l49, hintOf [(1, [0, 1])]⟩
theorem e49 (ω : List Bool) (v : i49.V) : enterF C49 c49 Try.f49 (fun _ _ => none) ω v = impl_reader_done v.2.1.2.1 v.2.1.2.2.1 v.2.2.1 := by kernel_rfl
theorem s49 : SoundC Try.prog 49 c49 := sound_by0 (l := l49) tOk mx Try.func49 trivial (by kernel_rfl) (by kernel_rfl) e49

/-! impl_ConfigRead -/
abbrev i19 : Shp := ⟨[(0, .c (.ref 0))], [.sl 9 tU]⟩
abbrev o19 : Shp := ⟨[(0, .tup [.inr [.ref 1, .v tI], .inl (.v .bool)])], [.sl 9 tU, .sl 9 tI]⟩
noncomputable def c19 : Con := ⟨i19, o19, fun v => impl_ConfigRead v.2.1⟩
noncomputable def l19 : List (Nat × Con) := [(39, c39), (47, c47), (48, c48), (49, c49)]
noncomputable def C19 : Cfg := ⟨T, gam l19, hintOf []⟩
theorem e19 (ω : List Bool) (v : i19.V) : enterF C19 c19 Try.f19 (fun _ _ => none) ω v = impl_ConfigRead v.2.1 := by kernel_rfl
theorem s19 : SoundC Try.prog 19 c19 := sound_by0 (l := l19) tOk mx Try.func19 ⟨s39, s47, s48, s49, trivial⟩ (by kernel_rfl) (by kernel_rfl) e19

/-! laws_sameInts -/
abbrev i32 : Shp := ⟨[(0, .c (.sl false tI)), (1, .c (.sl false tI))], []⟩
abbrev o32 : Shp := ⟨[(0, .c (.v .bool))], []⟩
noncomputable def c32 : Con := ⟨i32, o32, fun v => laws_sameInts v.1.1 v.1.2.1⟩
noncomputable def l32 : List (Nat × Con) := []
noncomputable def C32 : Cfg := ⟨T, gam l32, hintOf []⟩
abbrev h32_4 : Shp := ⟨[(0, .c (.sl false tI)), (1, .c (.sl false tI)), (5, .c (.v tI))], []⟩
noncomputable def j32 (n ℓ : Nat) (σ : St) : Option o32.V := if ℓ = 4 then jump 0 h32_4 (fun v => laws_sameInts_L4 n v.1.1 v.1.2.1 v.1.2.2.1) σ else none
theorem q32_4 (n : Nat) (v : h32_4.V) (ω : List Bool) : loopF C32 c32 Try.f32 (j32 n) 4 ω (h32_4.st 26 v) = laws_sameInts_step4 (laws_sameInts_L4 n) v.1.1 v.1.2.1 v.1.2.2.1 := by kernel_rfl
theorem e32 (n : Nat) (ω : List Bool) (v : i32.V) : enterF C32 c32 Try.f32 (j32 n) ω v = laws_sameInts_entry (laws_sameInts_L4 n) v.1.1 v.1.2.1 := by kernel_rfl
theorem s32 : SoundC Try.prog 32 c32 := sound_by (l := l32) (J := j32) (L := [4]) tOk mx Try.func32 trivial (by kernel_rfl) (by kernel_rfl)
  ⟨⟨h32_4, fun n v => laws_sameInts_L4 n v.1.1 v.1.2.1 v.1.2.2.1, fun _ => rfl, fun _ => rfl, q32_4⟩, trivial⟩ FUEL (e32 FUEL)

/-! spec_l17Spoil -/
abbrev i68 : Shp := ⟨[(0, .c (.ptr 0 0)), (1, .c (.sl false tU))], [.mem [.sl true tU, .v tI, .v tI]]⟩
abbrev o68 : Shp := ⟨[(0, .c (.ref 1))], [.mem [.sl true tU, .v tI, .v tI], .sl 9 tU]⟩
noncomputable def c68 : Con := ⟨i68, o68, fun v => spec_l17Spoil v.1.2.1 v.2.1.1 v.2.1.2.1 v.2.1.2.2.1⟩
noncomputable def l68 : List (Nat × Con) := [(81, c81), (82, c82)]
noncomputable def C68 : Cfg := ⟨T, gam l68, hintOf []⟩
theorem e68 (ω : List Bool) (v : i68.V) : enterF C68 c68 Try.f68 (fun _ _ => none) ω v = spec_l17Spoil v.1.2.1 v.2.1.1 v.2.1.2.1 v.2.1.2.2.1 := by kernel_rfl
theorem s68 : SoundC Try.prog 68 c68 := sound_by0 (l := l68) tOk mx Try.func68 ⟨s81, s82, trivial⟩ (by kernel_rfl) (by kernel_rfl) e68

/-! spec_DrawConfigRead -/
abbrev i33 : Shp := ⟨[(0, .c (.sl true tU))], []⟩
abbrev o33 : Shp := ⟨[(0, .c (.ref 0))], [.sl 9 tU]⟩
noncomputable def c33 : Con := ⟨i33, o33, fun v => spec_DrawConfigRead v.1.1⟩
noncomputable def l33 : List (Nat × Con) := [(9, c9), (66, c66), (67, c67), (68, c68)]
noncomputable def C33 : Cfg := ⟨T, gam l33, hintOf []⟩
theorem e33 (ω : List Bool) (v : i33.V) : enterF C33 c33 Try.f33 (fun _ _ => none) ω v = spec_DrawConfigRead v.1.1 := by kernel_rfl
theorem s33 : SoundC Try.prog 33 c33 := sound_by0 (l := l33) tOk mx Try.func33 ⟨s9, s66, s67, s68, trivial⟩ (by kernel_rfl) (by kernel_rfl) e33

/-! spec_GetNum -/
abbrev i71 : Shp := ⟨[(0, .c (.sl false tU)), (1, .c (.v tI))], []⟩
abbrev o71 : Shp := ⟨[(0, .tup [.inl (.v tI), .inl (.v tI), .inl (.v .bool)])], []⟩
noncomputable def c71 : Con := ⟨i71, o71, fun v => spec_GetNum v.1.1 v.1.2.1⟩
noncomputable def l71 : List (Nat × Con) := []
noncomputable def C71 : Cfg := ⟨T, gam l71, hintOf []⟩
abbrev h71_6 : Shp := ⟨[(0, .c (.sl false tU)), (1, .c (.v tI)), (7, .c (.v tI)), (8, .c (.v tI)), (9, .c (.v tI))], []⟩
noncomputable def j71 (n ℓ : Nat) (σ : St) : Option o71.V := if ℓ = 6 then jump 0 h71_6 (fun v => spec_GetNum_L6 n v.1.1 v.1.2.1 v.1.2.2.1 v.1.2.2.2.1 v.1.2.2.2.2.1) σ else none
theorem q71_6 (n : Nat) (v : h71_6.V) (ω : List Bool) : loopF C71 c71 Try.f71 (j71 n) 6 ω (h71_6.st 59 v) = spec_GetNum_step6 (spec_GetNum_L6 n) v.1.1 v.1.2.1 v.1.2.2.1 v.1.2.2.2.1 v.1.2.2.2.2.1 := by kernel_rfl
theorem e71 (n : Nat) (ω : List Bool) (v : i71.V) : enterF C71 c71 Try.f71 (j71 n) ω v = spec_GetNum_entry (spec_GetNum_L6 n) v.1.1 v.1.2.1 := by kernel_rfl
theorem s71 : SoundC Try.prog 71 c71 := sound_by (l := l71) (J := j71) (L := [6]) tOk mx Try.func71 trivial (by kernel_rfl) (by kernel_rfl)
  ⟨⟨h71_6, fun n v => spec_GetNum_L6 n v.1.1 v.1.2.1 v.1.2.2.1 v.1.2.2.2.1 v.1.2.2.2.2.1, fun _ => rfl, fun _ => rfl, q71_6⟩, trivial⟩ FUEL (e71 FUEL)

/-! spec_l17Num -/
abbrev i45 : Shp := ⟨[(0, .c (.ptr 0 0))], [.mem [.ref 1, .v tI, .v .bool], .sl 9 tU]⟩
abbrev o45 : Shp := ⟨[(0, .c (.v tI))], [.mem [.ref 1, .v tI, .v .bool], .sl 9 tU]⟩
noncomputable def c45 : Con := ⟨i45, o45, fun v => spec_l17Num v.2.1.2.1 v.2.1.2.2.1 v.2.2.1⟩
noncomputable def l45 : List (Nat × Con) := [(71, c71)]
noncomputable def C45 : Cfg := ⟨T, gam l45, hintOf [(1, [0, 1])]⟩
theorem e45 (ω : List Bool) (v : i45.V) : enterF C45 c45 Try.f45 (fun _ _ => none) ω v = spec_l17Num v.2.1.2.1 v.2.1.2.2.1 v.2.2.1 := by kernel_rfl
theorem s45 : SoundC Try.prog 45 c45 := sound_by0 (l := l45) tOk mx Try.func45 ⟨s71, trivial⟩ (by kernel_rfl) (by kernel_rfl) e45

/-! spec_l17Nums -/
abbrev i44 : Shp := ⟨[(0, .c (.ptr 0 0))], [.mem [.ref 1, .v tI, .v .bool], .sl 9 tU]⟩
abbrev o44 : Shp := ⟨[(0, .c (.ref 2))], [.mem [.ref 1, .v tI, .v .bool], .sl 9 tU, .sl 9 tI]⟩
noncomputable def c44 : Con := ⟨i44, o44, fun v => spec_l17Nums v.2.1.2.1 v.2.1.2.2.1 v.2.2.1⟩
noncomputable def l44 : List (Nat × Con) := [(45, c45)]
noncomputable def C44 : Cfg := ⟨T, gam l44, hintOf []⟩
abbrev h44_4 : Shp := ⟨[(0, .c (.ptr 0 0)), (3, .c (.v tI)), (4, .c (.ref 2)), (5, .c (.v tI))], [.mem [.ref 1, .v tI, .v .bool], .sl 9 tU, .sl 9 tI]⟩
noncomputable def j44 (n ℓ : Nat) (σ : St) : Option o44.V := if ℓ = 4 then jump 2 h44_4 (fun v => spec_l17Nums_L4 n v.1.2.1 v.1.2.2.2.1 v.2.1.2.1 v.2.1.2.2.1 v.2.2.1 v.2.2.2.1) σ else none
theorem q44_4 (n : Nat) (v : h44_4.V) (ω : List Bool) : loopF C44 c44 Try.f44 (j44 n) 4 ω (h44_4.st 26 v) = spec_l17Nums_step4 (spec_l17Nums_L4 n) v.1.2.1 v.1.2.2.2.1 v.2.1.2.1 v.2.1.2.2.1 v.2.2.1 v.2.2.2.1 := by kernel_rfl
theorem e44 (n : Nat) (ω : List Bool) (v : i44.V) : enterF C44 c44 Try.f44 (j44 n) ω v = spec_l17Nums_entry (spec_l17Nums_L4 n) v.2.1.2.1 v.2.1.2.2.1 v.2.2.1 := by kernel_rfl
theorem s44 : SoundC Try.prog 44 c44 := sound_by (l := l44) (J := j44) (L := [4]) tOk mx Try.func44 ⟨s45, trivial⟩ (by kernel_rfl) (by kernel_rfl)
  ⟨⟨h44_4, fun n v => spec_l17Nums_L4 n v.1.2.1 v.1.2.2.2.1 v.2.1.2.1 v.2.1.2.2.1 v.2.2.1 v.2.2.2.1, fun _ => rfl, fun _ => rfl, q44_4⟩, trivial⟩ FUEL (e44 FUEL)

/-! spec_l17End -/
abbrev i46 : Shp := ⟨[(0, .c (.ptr 0 0))], [.mem [.ref 1, .v tI, .v .bool], .sl 9 tU]⟩
abbrev o46 : Shp := ⟨[(0, .c (.v .bool))], [.mem [.ref 1, .v tI, .v .bool], .sl 9 tU]⟩
noncomputable def c46 : Con := ⟨i46, o46, fun v => spec_l17End v.2.1.2.1 v.2.1.2.2.1 v.2.2.1⟩
noncomputable def l46 : List (Nat × Con) := []
noncomputable def C46 : Cfg := ⟨T, gam l46, hintOf [(1, [0, 1])]⟩
theorem e46 (ω : List Bool) (v : i46.V) : enterF C46 c46 Try.f46 (fun _ _ => none) ω v = spec_l17End v.2.1.2.1 v.2.1.2.2.1 v.2.2.1 := by kernel_rfl
theorem s46 : SoundC Try.prog 46 c46 := sound_by0 (l := l46) tOk mx Try.func46 trivial (by kernel_rfl) (by kernel_rfl) e46

/-! spec_ConfigRead -/
abbrev i17 : Shp := ⟨[(0, .c (.ref 0))], [.sl 9 tU]⟩
abbrev o17 : Shp := ⟨[(0, .tup [.inr [.ref 1, .v tI], .inl (.v .bool)])], [.sl 9 tU, .sl 9 tI]⟩
noncomputable def c17 : Con := ⟨i17, o17, fun v => spec_ConfigRead v.2.1⟩
noncomputable def l17 : List (Nat × Con) := [(35, c35), (44, c44), (45, c45), (46, c46)]
noncomputable def C17 : Cfg := ⟨T, gam l17, hintOf []⟩
theorem e17 (ω : List Bool) (v : i17.V) : enterF C17 c17 Try.f17 (fun _ _ => none) ω v = spec_ConfigRead v.2.1 := by kernel_rfl
theorem s17 : SoundC Try.prog 17 c17 := sound_by0 (l := l17) tOk mx Try.func17 ⟨s35, s44, s45, s46, trivial⟩ (by kernel_rfl) (by kernel_rfl) e17

/-! laws_FnConfigBytes -/
abbrev i7 : Shp := ⟨[(0, .c (.sl true tU))], []⟩
abbrev o7 : Shp := ⟨[(0, .c (.v .bool))], []⟩
noncomputable def c7 : Con := ⟨i7, o7, fun v => laws_FnConfigBytes v.1.1⟩
noncomputable def l7 : List (Nat × Con) := [(9, c9), (11, c11), (17, c17), (19, c19), (30, c30), (31, c31), (32, c32), (33, c33)]
noncomputable def C7 : Cfg := ⟨T, gam l7, hintOf []⟩
theorem e7 (ω : List Bool) (v : i7.V) : enterF C7 c7 Try.f7 (fun _ _ => none) ω v = laws_FnConfigBytes v.1.1 := by kernel_rfl
theorem s7 : SoundC Try.prog 7 c7 := sound_by0 (l := l7) tOk mx Try.func7 ⟨s9, s11, s17, s19, s30, s31, s32, s33, trivial⟩ (by kernel_rfl) (by kernel_rfl) e7
end Go.Proofs.Ytnlccecnjehooaa.Wk
