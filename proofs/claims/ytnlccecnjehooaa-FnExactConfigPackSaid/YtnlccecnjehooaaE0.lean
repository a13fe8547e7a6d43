/- Each function computes what was printed: by the kernel. -/
import Derived.Test.YtnlccecnjehooaaG0
import Derived.Test.YtnlccecnjehooaaProg
import Derived.KernelRfl
set_option linter.unusedVariables false
set_option linter.unusedSimpArgs false
namespace Go.Proofs.Ytnlccecnjehooaa.Wk
open Go Go.Fw Go.M Go.Proofs
abbrev tI : Ty := .int .i64
abbrev tU : Ty := .int .u8
abbrev Y0 : Ty := (.cons (.sl tI) (.cons tI .unit))
def T : Tab := [(3, ⟨1, 8, .int .i64, some tI⟩),
  (4, ⟨1, 1, .bool, some .bool⟩),
  (5, ⟨1, 1, .int .u8, some tU⟩),
  (22, ⟨1, 24, .sl 3, some (.sl tI)⟩),
  (24, ⟨2, 32, .st [(0, 22), (1, 3)], some Y0⟩),
  (26, ⟨1, 24, .sl 5, some (.sl tU)⟩),
  (29, ⟨2, 32, .st [(0, 22), (1, 3)], some Y0⟩)]
theorem tOk : TabOk Try.prog T := tabOk_of_check (by kernel_rfl)
theorem mx : Try.prog.follows .mixedOrders = true := by kernel_rfl

/-! laws_szIntS -/
abbrev i34 : Shp := ⟨[(0, .c (.sl false tI)), (1, .c (.v tI))], []⟩
abbrev o34 : Shp := ⟨[(0, .c (.v tI))], []⟩
noncomputable def c34 : Con := ⟨i34, o34, fun v => laws_szIntS v.1.1 v.1.2.1⟩
noncomputable def l34 : List (Nat × Con) := []
noncomputable def C34 : Cfg := ⟨T, gam l34, hintOf []⟩
theorem e34 (ω : List Bool) (v : i34.V) : enterF C34 c34 Try.f34 (fun _ _ => none) ω v = laws_szIntS v.1.1 v.1.2.1 := by kernel_rfl
theorem s34 : SoundC Try.prog 34 c34 := sound_by0 (l := l34) tOk mx Try.func34 trivial (by kernel_rfl) (by kernel_rfl) e34

/-! laws_szConfig -/
abbrev i8 : Shp := ⟨[(0, .row Y0), (1, .c (.v tI))], []⟩
abbrev o8 : Shp := ⟨[(0, .c (.v tI))], []⟩
noncomputable def c8 : Con := ⟨i8, o8, fun v => laws_szConfig v.1.1 v.1.2.1⟩
noncomputable def l8 : List (Nat × Con) := [(34, c34)]
noncomputable def C8 : Cfg := ⟨T, gam l8, hintOf []⟩
theorem e8 (ω : List Bool) (v : i8.V) : enterF C8 c8 Try.f8 (fun _ _ => none) ω v = laws_szConfig v.1.1 v.1.2.1 := by kernel_rfl
theorem s8 : SoundC Try.prog 8 c8 := sound_by0 (l := l8) tOk mx Try.func8 ⟨s34, trivial⟩ (by kernel_rfl) (by kernel_rfl) e8

/-! laws_toIntS -/
abbrev i38 : Shp := ⟨[(0, .c (.sl false tI))], []⟩
abbrev o38 : Shp := ⟨[(0, .c (.ref 0))], [.sl 9 tI]⟩
noncomputable def c38 : Con := ⟨i38, o38, fun v => laws_toIntS v.1.1⟩
noncomputable def l38 : List (Nat × Con) := []
noncomputable def C38 : Cfg := ⟨T, gam l38, hintOf []⟩
abbrev h38_3 : Shp := ⟨[(0, .c (.sl false tI)), (3, .c (.ref 0)), (4, .c (.v tI))], [.sl 9 tI]⟩
noncomputable def j38 (n ℓ : Nat) (σ : St) : Option o38.V := if ℓ = 3 then jump 0 h38_3 (fun v => laws_toIntS_L3 n v.1.1 v.1.2.2.1 v.2.1) σ else none
theorem q38_3 (n : Nat) (v : h38_3.V) (ω : List Bool) : loopF C38 c38 Try.f38 (j38 n) 3 ω (h38_3.st 22 v) = laws_toIntS_step3 (laws_toIntS_L3 n) v.1.1 v.1.2.2.1 v.2.1 := by kernel_rfl
theorem e38 (n : Nat) (ω : List Bool) (v : i38.V) : enterF C38 c38 Try.f38 (j38 n) ω v = laws_toIntS_entry (laws_toIntS_L3 n) v.1.1 := by kernel_rfl
theorem s38 : SoundC Try.prog 38 c38 := sound_by (l := l38) (J := j38) (L := [3]) tOk mx Try.func38 trivial (by kernel_rfl) (by kernel_rfl)
  ⟨⟨h38_3, fun n v => laws_toIntS_L3 n v.1.1 v.1.2.2.1 v.2.1, fun _ => rfl, fun _ => rfl, q38_3⟩, trivial⟩ FUEL (e38 FUEL)

/-! laws_toConfig -/
abbrev i10 : Shp := ⟨[(0, .row Y0)], []⟩
abbrev o10 : Shp := ⟨[(0, .agg [.ref 0, .v tI])], [.sl 9 tI]⟩
noncomputable def c10 : Con := ⟨i10, o10, fun v => laws_toConfig v.1.1⟩
noncomputable def l10 : List (Nat × Con) := [(38, c38)]
noncomputable def C10 : Cfg := ⟨T, gam l10, hintOf []⟩
theorem e10 (ω : List Bool) (v : i10.V) : enterF C10 c10 Try.f10 (fun _ _ => none) ω v = laws_toConfig v.1.1 := by kernel_rfl
theorem s10 : SoundC Try.prog 10 c10 := sound_by0 (l := l10) tOk mx Try.func10 ⟨s38, trivial⟩ (by kernel_rfl) (by kernel_rfl) e10

/-! spec_l1In -/
abbrev i69 : Shp := ⟨[(0, .c (.v tI)), (1, .c (.v tI)), (2, .c (.v tI))], []⟩
abbrev o69 : Shp := ⟨[(0, .c (.v .bool))], []⟩
noncomputable def c69 : Con := ⟨i69, o69, fun v => spec_l1In v.1.1 v.1.2.1 v.1.2.2.1⟩
noncomputable def l69 : List (Nat × Con) := []
noncomputable def C69 : Cfg := ⟨T, gam l69, hintOf []⟩
theorem e69 (ω : List Bool) (v : i69.V) : enterF C69 c69 Try.f69 (fun _ _ => none) ω v = spec_l1In v.1.1 v.1.2.1 v.1.2.2.1 := by kernel_rfl
theorem s69 : SoundC Try.prog 69 c69 := sound_by0 (l := l69) tOk mx Try.func69 trivial (by kernel_rfl) (by kernel_rfl) e69

/-! spec_ConfigOk -/
abbrev i35 : Shp := ⟨[(0, .row Y0)], []⟩
abbrev o35 : Shp := ⟨[(0, .c (.v .bool))], []⟩
noncomputable def c35 : Con := ⟨i35, o35, fun v => spec_ConfigOk v.1.1⟩
noncomputable def l35 : List (Nat × Con) := [(69, c69)]
noncomputable def C35 : Cfg := ⟨T, gam l35, hintOf []⟩
abbrev h35_4 : Shp := ⟨[(1, .c (.ptr 0 0)), (3, .c (.v tI))], [.mem [.sl false tI, .v tI]]⟩
noncomputable def j35 (n ℓ : Nat) (σ : St) : Option o35.V := if ℓ = 4 then jump 0 h35_4 (fun v => spec_ConfigOk_L4 n v.1.2.1 v.2.1.1 v.2.1.2.1) σ else none
theorem q35_4 (n : Nat) (v : h35_4.V) (ω : List Bool) : loopF C35 c35 Try.f35 (j35 n) 4 ω (h35_4.st 29 v) = spec_ConfigOk_step4 (spec_ConfigOk_L4 n) v.1.2.1 v.2.1.1 v.2.1.2.1 := by kernel_rfl
theorem e35 (n : Nat) (ω : List Bool) (v : i35.V) : enterF C35 c35 Try.f35 (j35 n) ω v = spec_ConfigOk_entry (spec_ConfigOk_L4 n) v.1.1 := by kernel_rfl
theorem s35 : SoundC Try.prog 35 c35 := sound_by (l := l35) (J := j35) (L := [4]) tOk mx Try.func35 ⟨s69, trivial⟩ (by kernel_rfl) (by kernel_rfl)
  ⟨⟨h35_4, fun n v => spec_ConfigOk_L4 n v.1.2.1 v.2.1.1 v.2.1.2.1, fun _ => rfl, fun _ => rfl, q35_4⟩, trivial⟩ FUEL (e35 FUEL)

/-! spec_PutNum -/
abbrev i37 : Shp := ⟨[(0, .c (.v tI))], []⟩
abbrev o37 : Shp := ⟨[(0, .c (.ref 0))], [.sl 9 tU]⟩
noncomputable def c37 : Con := ⟨i37, o37, fun v => spec_PutNum v.1.1⟩
noncomputable def l37 : List (Nat × Con) := []
noncomputable def C37 : Cfg := ⟨T, gam l37, hintOf []⟩
abbrev h37_4 : Shp := ⟨[(0, .c (.v tI)), (3, .c (.ref 0))], [.sl 9 tU]⟩
noncomputable def j37 (n ℓ : Nat) (σ : St) : Option o37.V := if ℓ = 4 then jump 0 h37_4 (fun v => spec_PutNum_L4 n v.1.1 v.2.1) σ else none
theorem q37_4 (n : Nat) (v : h37_4.V) (ω : List Bool) : loopF C37 c37 Try.f37 (j37 n) 4 ω (h37_4.st 24 v) = spec_PutNum_step4 (spec_PutNum_L4 n) v.1.1 v.2.1 := by kernel_rfl
theorem e37 (n : Nat) (ω : List Bool) (v : i37.V) : enterF C37 c37 Try.f37 (j37 n) ω v = spec_PutNum_entry (spec_PutNum_L4 n) v.1.1 := by kernel_rfl
theorem s37 : SoundC Try.prog 37 c37 := sound_by (l := l37) (J := j37) (L := [4]) tOk mx Try.func37 trivial (by kernel_rfl) (by kernel_rfl)
  ⟨⟨h37_4, fun n v => spec_PutNum_L4 n v.1.1 v.2.1, fun _ => rfl, fun _ => rfl, q37_4⟩, trivial⟩ FUEL (e37 FUEL)

/-! spec_l17List -/
abbrev i36 : Shp := ⟨[(0, .c (.sl false tI))], []⟩
abbrev o36 : Shp := ⟨[(0, .c (.ref 0))], [.sl 9 tU]⟩
noncomputable def c36 : Con := ⟨i36, o36, fun v => spec_l17List v.1.1⟩
noncomputable def l36 : List (Nat × Con) := [(37, c37)]
noncomputable def C36 : Cfg := ⟨T, gam l36, hintOf []⟩
abbrev h36_3 : Shp := ⟨[(0, .c (.sl false tI)), (3, .c (.ref 0)), (4, .c (.v tI))], [.sl 9 tU]⟩
noncomputable def j36 (n ℓ : Nat) (σ : St) : Option o36.V := if ℓ = 3 then jump 0 h36_3 (fun v => spec_l17List_L3 n v.1.1 v.1.2.2.1 v.2.1) σ else none
theorem q36_3 (n : Nat) (v : h36_3.V) (ω : List Bool) : loopF C36 c36 Try.f36 (j36 n) 3 ω (h36_3.st 22 v) = spec_l17List_step3 (spec_l17List_L3 n) v.1.1 v.1.2.2.1 v.2.1 := by kernel_rfl
theorem e36 (n : Nat) (ω : List Bool) (v : i36.V) : enterF C36 c36 Try.f36 (j36 n) ω v = spec_l17List_entry (spec_l17List_L3 n) v.1.1 := by kernel_rfl
theorem s36 : SoundC Try.prog 36 c36 := sound_by (l := l36) (J := j36) (L := [3]) tOk mx Try.func36 ⟨s37, trivial⟩ (by kernel_rfl) (by kernel_rfl)
  ⟨⟨h36_3, fun n v => spec_l17List_L3 n v.1.1 v.1.2.2.1 v.2.1, fun _ => rfl, fun _ => rfl, q36_3⟩, trivial⟩ FUEL (e36 FUEL)

/-! spec_ConfigPack -/
abbrev i9 : Shp := ⟨[(0, .row Y0)], []⟩
abbrev o9 : Shp := ⟨[(0, .tup [.inl (.ref 0), .inl (.v .bool)])], [.sl 9 tU]⟩
noncomputable def c9 : Con := ⟨i9, o9, fun v => spec_ConfigPack v.1.1⟩
noncomputable def l9 : List (Nat × Con) := [(35, c35), (36, c36), (37, c37)]
noncomputable def C9 : Cfg := ⟨T, gam l9, hintOf [(3, [0])]⟩
theorem e9 (ω : List Bool) (v : i9.V) : enterF C9 c9 Try.f9 (fun _ _ => none) ω v = spec_ConfigPack v.1.1 := by kernel_rfl
theorem s9 : SoundC Try.prog 9 c9 := sound_by0 (l := l9) tOk mx Try.func9 ⟨s35, s36, s37, trivial⟩ (by kernel_rfl) (by kernel_rfl) e9

/-! impl_within -/
abbrev i70 : Shp := ⟨[(0, .c (.v tI)), (1, .c (.v tI)), (2, .c (.v tI))], []⟩
abbrev o70 : Shp := ⟨[(0, .c (.v .bool))], []⟩
noncomputable def c70 : Con := ⟨i70, o70, fun v => impl_within v.1.1 v.1.2.1 v.1.2.2.1⟩
noncomputable def l70 : List (Nat × Con) := []
noncomputable def C70 : Cfg := ⟨T, gam l70, hintOf []⟩
theorem e70 (ω : List Bool) (v : i70.V) : enterF C70 c70 Try.f70 (fun _ _ => none) ω v = impl_within v.1.1 v.1.2.1 v.1.2.2.1 := by kernel_rfl
theorem s70 : SoundC Try.prog 70 c70 := sound_by0 (l := l70) tOk mx Try.func70 trivial (by kernel_rfl) (by kernel_rfl) e70

/-! impl_ConfigOk -/
abbrev i39 : Shp := ⟨[(0, .row Y0)], []⟩
abbrev o39 : Shp := ⟨[(0, .c (.v .bool))], []⟩
noncomputable def c39 : Con := ⟨i39, o39, fun v => impl_ConfigOk v.1.1⟩
noncomputable def l39 : List (Nat × Con) := [(70, c70)]
noncomputable def C39 : Cfg := ⟨T, gam l39, hintOf []⟩
abbrev h39_2 : Shp := ⟨[(1, .c (.ptr 0 0)), (6, .c (.sl false tI)), (7, .c (.v tI)), (8, .c (.v tI))], [.mem [.sl false tI, .v tI]]⟩
noncomputable def j39 (n ℓ : Nat) (σ : St) : Option o39.V := if ℓ = 2 then jump 0 h39_2 (fun v => impl_ConfigOk_L2 n v.1.2.1 v.1.2.2.1 v.1.2.2.2.1 v.2.1.1 v.2.1.2.1) σ else none
theorem q39_2 (n : Nat) (v : h39_2.V) (ω : List Bool) : loopF C39 c39 Try.f39 (j39 n) 2 ω (h39_2.st 25 v) = impl_ConfigOk_step2 (impl_ConfigOk_L2 n) v.1.2.1 v.1.2.2.1 v.1.2.2.2.1 v.2.1.1 v.2.1.2.1 := by kernel_rfl
theorem e39 (n : Nat) (ω : List Bool) (v : i39.V) : enterF C39 c39 Try.f39 (j39 n) ω v = impl_ConfigOk_entry (impl_ConfigOk_L2 n) v.1.1 := by kernel_rfl
theorem s39 : SoundC Try.prog 39 c39 := sound_by (l := l39) (J := j39) (L := [2]) tOk mx Try.func39 ⟨s70, trivial⟩ (by kernel_rfl) (by kernel_rfl)
  ⟨⟨h39_2, fun n v => impl_ConfigOk_L2 n v.1.2.1 v.1.2.2.1 v.1.2.2.2.1 v.2.1.1 v.2.1.2.1, fun _ => rfl, fun _ => rfl, q39_2⟩, trivial⟩ FUEL (e39 FUEL)

/-! impl_PutNum -/
abbrev i41 : Shp := ⟨[(0, .c (.v tI))], []⟩
abbrev o41 : Shp := ⟨[(0, .c (.ref 0))], [.sl 9 tU]⟩
noncomputable def c41 : Con := ⟨i41, o41, fun v => impl_PutNum v.1.1⟩
noncomputable def l41 : List (Nat × Con) := []
noncomputable def C41 : Cfg := ⟨T, gam l41, hintOf []⟩
abbrev h41_4 : Shp := ⟨[(0, .c (.v tI)), (3, .c (.ref 0))], [.sl 9 tU]⟩
noncomputable def j41 (n ℓ : Nat) (σ : St) : Option o41.V := if ℓ = 4 then jump 0 h41_4 (fun v => impl_PutNum_L4 n v.1.1 v.2.1) σ else none
theorem q41_4 (n : Nat) (v : h41_4.V) (ω : List Bool) : loopF C41 c41 Try.f41 (j41 n) 4 ω (h41_4.st 23 v) = impl_PutNum_step4 (impl_PutNum_L4 n) v.1.1 v.2.1 := by kernel_rfl
theorem e41 (n : Nat) (ω : List Bool) (v : i41.V) : enterF C41 c41 Try.f41 (j41 n) ω v = impl_PutNum_entry (impl_PutNum_L4 n) v.1.1 := by kernel_rfl
theorem s41 : SoundC Try.prog 41 c41 := sound_by (l := l41) (J := j41) (L := [4]) tOk mx Try.func41 trivial (by kernel_rfl) (by kernel_rfl)
  ⟨⟨h41_4, fun n v => impl_PutNum_L4 n v.1.1 v.2.1, fun _ => rfl, fun _ => rfl, q41_4⟩, trivial⟩ FUEL (e41 FUEL)

/-! impl_putNums -/
abbrev i56 : Shp := ⟨[(0, .c (.sl false tI))], []⟩
abbrev o56 : Shp := ⟨[(0, .c (.ref 0))], [.sl 9 tU]⟩
noncomputable def c56 : Con := ⟨i56, o56, fun v => impl_putNums v.1.1⟩
noncomputable def l56 : List (Nat × Con) := [(41, c41)]
noncomputable def C56 : Cfg := ⟨T, gam l56, hintOf []⟩
abbrev h56_3 : Shp := ⟨[(3, .c (.ref 0)), (7, .c (.sl false tI)), (8, .c (.v tI)), (9, .c (.v tI))], [.sl 9 tU]⟩
noncomputable def j56 (n ℓ : Nat) (σ : St) : Option o56.V := if ℓ = 3 then jump 0 h56_3 (fun v => impl_putNums_L3 n v.1.2.1 v.1.2.2.1 v.1.2.2.2.1 v.2.1) σ else none
theorem q56_3 (n : Nat) (v : h56_3.V) (ω : List Bool) : loopF C56 c56 Try.f56 (j56 n) 3 ω (h56_3.st 19 v) = impl_putNums_step3 (impl_putNums_L3 n) v.1.2.1 v.1.2.2.1 v.1.2.2.2.1 v.2.1 := by kernel_rfl
theorem e56 (n : Nat) (ω : List Bool) (v : i56.V) : enterF C56 c56 Try.f56 (j56 n) ω v = impl_putNums_entry (impl_putNums_L3 n) v.1.1 := by kernel_rfl
theorem s56 : SoundC Try.prog 56 c56 := sound_by (l := l56) (J := j56) (L := [3]) tOk mx Try.func56 ⟨s41, trivial⟩ (by kernel_rfl) (by kernel_rfl)
  ⟨⟨h56_3, fun n v => impl_putNums_L3 n v.1.2.1 v.1.2.2.1 v.1.2.2.2.1 v.2.1, fun _ => rfl, fun _ => rfl, q56_3⟩, trivial⟩ FUEL (e56 FUEL)

/-! impl_putList -/
abbrev i40 : Shp := ⟨[(0, .c (.sl false tI))], []⟩
abbrev o40 : Shp := ⟨[(0, .c (.ref 0))], [.sl 9 tU]⟩
noncomputable def c40 : Con := ⟨i40, o40, fun v => impl_putList v.1.1⟩
noncomputable def l40 : List (Nat × Con) := [(41, c41), (56, c56)]
noncomputable def C40 : Cfg := ⟨T, gam l40, hintOf []⟩
theorem e40 (ω : List Bool) (v : i40.V) : enterF C40 c40 Try.f40 (fun _ _ => none) ω v = impl_putList v.1.1 := by kernel_rfl
theorem s40 : SoundC Try.prog 40 c40 := sound_by0 (l := l40) tOk mx Try.func40 ⟨s41, s56, trivial⟩ (by kernel_rfl) (by kernel_rfl) e40

/-! impl_ConfigPack -/
abbrev i11 : Shp := ⟨[(0, .row Y0)], []⟩
abbrev o11 : Shp := ⟨[(0, .tup [.inl (.ref 0), .inl (.v .bool)])], [.sl 9 tU]⟩
noncomputable def c11 : Con := ⟨i11, o11, fun v => impl_ConfigPack v.1.1⟩
noncomputable def l11 : List (Nat × Con) := [(39, c39), (40, c40), (41, c41)]
noncomputable def C11 : Cfg := ⟨T, gam l11, hintOf [(3, [0])]⟩
theorem e11 (ω : List Bool) (v : i11.V) : enterF C11 c11 Try.f11 (fun _ _ => none) ω v = impl_ConfigPack v.1.1 := by kernel_rfl
theorem s11 : SoundC Try.prog 11 c11 := sound_by0 (l := l11) tOk mx Try.func11 ⟨s39, s40, s41, trivial⟩ (by kernel_rfl) (by kernel_rfl) e11

/-! laws_eqByteS -/
abbrev i12 : Shp := ⟨[(0, .c (.sl false tU)), (1, .c (.sl false tU))], []⟩
abbrev o12 : Shp := ⟨[(0, .c (.v .bool))], []⟩
noncomputable def c12 : Con := ⟨i12, o12, fun v => laws_eqByteS v.1.1 v.1.2.1⟩
noncomputable def l12 : List (Nat × Con) := []
noncomputable def C12 : Cfg := ⟨T, gam l12, hintOf []⟩
abbrev h12_4 : Shp := ⟨[(0, .c (.sl false tU)), (1, .c (.sl false tU)), (5, .c (.v tI))], []⟩
noncomputable def j12 (n ℓ : Nat) (σ : St) : Option o12.V := if ℓ = 4 then jump 0 h12_4 (fun v => laws_eqByteS_L4 n v.1.1 v.1.2.1 v.1.2.2.1) σ else none
theorem q12_4 (n : Nat) (v : h12_4.V) (ω : List Bool) : loopF C12 c12 Try.f12 (j12 n) 4 ω (h12_4.st 26 v) = laws_eqByteS_step4 (laws_eqByteS_L4 n) v.1.1 v.1.2.1 v.1.2.2.1 := by kernel_rfl
theorem e12 (n : Nat) (ω : List Bool) (v : i12.V) : enterF C12 c12 Try.f12 (j12 n) ω v = laws_eqByteS_entry (laws_eqByteS_L4 n) v.1.1 v.1.2.1 := by kernel_rfl
theorem s12 : SoundC Try.prog 12 c12 := sound_by (l := l12) (J := j12) (L := [4]) tOk mx Try.func12 trivial (by kernel_rfl) (by kernel_rfl)
  ⟨⟨h12_4, fun n v => laws_eqByteS_L4 n v.1.1 v.1.2.1 v.1.2.2.1, fun _ => rfl, fun _ => rfl, q12_4⟩, trivial⟩ FUEL (e12 FUEL)

/-! laws_eqIntS -/
abbrev i42 : Shp := ⟨[(0, .c (.sl false tI)), (1, .c (.sl false tI))], []⟩
abbrev o42 : Shp := ⟨[(0, .c (.v .bool))], []⟩
noncomputable def c42 : Con := ⟨i42, o42, fun v => laws_eqIntS v.1.1 v.1.2.1⟩
noncomputable def l42 : List (Nat × Con) := []
noncomputable def C42 : Cfg := ⟨T, gam l42, hintOf []⟩
abbrev h42_4 : Shp := ⟨[(0, .c (.sl false tI)), (1, .c (.sl false tI)), (5, .c (.v tI))], []⟩
noncomputable def j42 (n ℓ : Nat) (σ : St) : Option o42.V := if ℓ = 4 then jump 0 h42_4 (fun v => laws_eqIntS_L4 n v.1.1 v.1.2.1 v.1.2.2.1) σ else none
theorem q42_4 (n : Nat) (v : h42_4.V) (ω : List Bool) : loopF C42 c42 Try.f42 (j42 n) 4 ω (h42_4.st 26 v) = laws_eqIntS_step4 (laws_eqIntS_L4 n) v.1.1 v.1.2.1 v.1.2.2.1 := by kernel_rfl
theorem e42 (n : Nat) (ω : List Bool) (v : i42.V) : enterF C42 c42 Try.f42 (j42 n) ω v = laws_eqIntS_entry (laws_eqIntS_L4 n) v.1.1 v.1.2.1 := by kernel_rfl
theorem s42 : SoundC Try.prog 42 c42 := sound_by (l := l42) (J := j42) (L := [4]) tOk mx Try.func42 trivial (by kernel_rfl) (by kernel_rfl)
  ⟨⟨h42_4, fun n v => laws_eqIntS_L4 n v.1.1 v.1.2.1 v.1.2.2.1, fun _ => rfl, fun _ => rfl, q42_4⟩, trivial⟩ FUEL (e42 FUEL)

/-! laws_eqConfig -/
abbrev i13 : Shp := ⟨[(0, .row Y0), (1, .row Y0)], []⟩
abbrev o13 : Shp := ⟨[(0, .c (.v .bool))], []⟩
noncomputable def c13 : Con := ⟨i13, o13, fun v => laws_eqConfig v.1.1 v.1.2.1⟩
noncomputable def l13 : List (Nat × Con) := [(42, c42)]
noncomputable def C13 : Cfg := ⟨T, gam l13, hintOf []⟩
theorem e13 (ω : List Bool) (v : i13.V) : enterF C13 c13 Try.f13 (fun _ _ => none) ω v = laws_eqConfig v.1.1 v.1.2.1 := by kernel_rfl
theorem s13 : SoundC Try.prog 13 c13 := sound_by0 (l := l13) tOk mx Try.func13 ⟨s42, trivial⟩ (by kernel_rfl) (by kernel_rfl) e13

/-! laws_markIntS -/
abbrev i43 : Shp := ⟨[(0, .c (.ref 0)), (1, .c (.v tI))], [.sl 9 tI]⟩
abbrev o43 : Shp := ⟨[(0, .c (.v tI))], [.sl 9 tI]⟩
noncomputable def c43 : Con := ⟨i43, o43, fun v => laws_markIntS v.1.2.1 v.2.1⟩
noncomputable def l43 : List (Nat × Con) := []
noncomputable def C43 : Cfg := ⟨T, gam l43, hintOf []⟩
abbrev h43_2 : Shp := ⟨[(0, .c (.ref 0)), (1, .c (.v tI)), (5, .c (.v tI))], [.sl 9 tI]⟩
noncomputable def j43 (n ℓ : Nat) (σ : St) : Option o43.V := if ℓ = 2 then jump 1 h43_2 (fun v => laws_markIntS_L2 n v.1.2.1 v.1.2.2.1 v.2.1) σ else none
theorem q43_2 (n : Nat) (v : h43_2.V) (ω : List Bool) : loopF C43 c43 Try.f43 (j43 n) 2 ω (h43_2.st 19 v) = laws_markIntS_step2 (laws_markIntS_L2 n) v.1.2.1 v.1.2.2.1 v.2.1 := by kernel_rfl
theorem e43 (n : Nat) (ω : List Bool) (v : i43.V) : enterF C43 c43 Try.f43 (j43 n) ω v = laws_markIntS_entry (laws_markIntS_L2 n) v.1.2.1 v.2.1 := by kernel_rfl
theorem s43 : SoundC Try.prog 43 c43 := sound_by (l := l43) (J := j43) (L := [2]) tOk mx Try.func43 trivial (by kernel_rfl) (by kernel_rfl)
  ⟨⟨h43_2, fun n v => laws_markIntS_L2 n v.1.2.1 v.1.2.2.1 v.2.1, fun _ => rfl, fun _ => rfl, q43_2⟩, trivial⟩ FUEL (e43 FUEL)

/-! laws_markConfig -/
abbrev i14 : Shp := ⟨[(0, .agg [.ref 0, .v tI]), (1, .c (.v tI))], [.sl 9 tI]⟩
abbrev o14 : Shp := ⟨[(0, .c (.v tI))], [.sl 9 tI]⟩
noncomputable def c14 : Con := ⟨i14, o14, fun v => laws_markConfig v.1.1.2.1 v.1.2.1 v.2.1⟩
noncomputable def l14 : List (Nat × Con) := [(43, c43)]
noncomputable def C14 : Cfg := ⟨T, gam l14, hintOf []⟩
theorem e14 (ω : List Bool) (v : i14.V) : enterF C14 c14 Try.f14 (fun _ _ => none) ω v = laws_markConfig v.1.1.2.1 v.1.2.1 v.2.1 := by kernel_rfl
theorem s14 : SoundC Try.prog 14 c14 := sound_by0 (l := l14) tOk mx Try.func14 ⟨s43, trivial⟩ (by kernel_rfl) (by kernel_rfl) e14

/-! laws_markByteS -/
abbrev i15 : Shp := ⟨[(0, .c (.ref 0)), (1, .c (.v tI))], [.sl 9 tU]⟩
abbrev o15 : Shp := ⟨[(0, .c (.v tI))], [.sl 9 tU]⟩
noncomputable def c15 : Con := ⟨i15, o15, fun v => laws_markByteS v.1.2.1 v.2.1⟩
noncomputable def l15 : List (Nat × Con) := []
noncomputable def C15 : Cfg := ⟨T, gam l15, hintOf []⟩
abbrev h15_2 : Shp := ⟨[(0, .c (.ref 0)), (1, .c (.v tI)), (5, .c (.v tI))], [.sl 9 tU]⟩
noncomputable def j15 (n ℓ : Nat) (σ : St) : Option o15.V := if ℓ = 2 then jump 1 h15_2 (fun v => laws_markByteS_L2 n v.1.2.1 v.1.2.2.1 v.2.1) σ else none
theorem q15_2 (n : Nat) (v : h15_2.V) (ω : List Bool) : loopF C15 c15 Try.f15 (j15 n) 2 ω (h15_2.st 20 v) = laws_markByteS_step2 (laws_markByteS_L2 n) v.1.2.1 v.1.2.2.1 v.2.1 := by kernel_rfl
theorem e15 (n : Nat) (ω : List Bool) (v : i15.V) : enterF C15 c15 Try.f15 (j15 n) ω v = laws_markByteS_entry (laws_markByteS_L2 n) v.1.2.1 v.2.1 := by kernel_rfl
theorem s15 : SoundC Try.prog 15 c15 := sound_by (l := l15) (J := j15) (L := [2]) tOk mx Try.func15 trivial (by kernel_rfl) (by kernel_rfl)
  ⟨⟨h15_2, fun n v => laws_markByteS_L2 n v.1.2.1 v.1.2.2.1 v.2.1, fun _ => rfl, fun _ => rfl, q15_2⟩, trivial⟩ FUEL (e15 FUEL)

/-! laws_heldByteS -/
abbrev i16 : Shp := ⟨[(0, .c (.sl false tU)), (1, .c (.v tI))], []⟩
abbrev o16 : Shp := ⟨[(0, .c (.v tI))], []⟩
noncomputable def c16 : Con := ⟨i16, o16, fun v => laws_heldByteS v.1.1 v.1.2.1⟩
noncomputable def l16 : List (Nat × Con) := []
noncomputable def C16 : Cfg := ⟨T, gam l16, hintOf []⟩
abbrev h16_2 : Shp := ⟨[(0, .c (.sl false tU)), (1, .c (.v tI)), (5, .c (.v tI))], []⟩
noncomputable def j16 (n ℓ : Nat) (σ : St) : Option o16.V := if ℓ = 2 then jump 0 h16_2 (fun v => laws_heldByteS_L2 n v.1.1 v.1.2.1 v.1.2.2.1) σ else none
theorem q16_2 (n : Nat) (v : h16_2.V) (ω : List Bool) : loopF C16 c16 Try.f16 (j16 n) 2 ω (h16_2.st 22 v) = laws_heldByteS_step2 (laws_heldByteS_L2 n) v.1.1 v.1.2.1 v.1.2.2.1 := by kernel_rfl
theorem e16 (n : Nat) (ω : List Bool) (v : i16.V) : enterF C16 c16 Try.f16 (j16 n) ω v = laws_heldByteS_entry (laws_heldByteS_L2 n) v.1.1 v.1.2.1 := by kernel_rfl
theorem s16 : SoundC Try.prog 16 c16 := sound_by (l := l16) (J := j16) (L := [2]) tOk mx Try.func16 trivial (by kernel_rfl) (by kernel_rfl)
  ⟨⟨h16_2, fun n v => laws_heldByteS_L2 n v.1.1 v.1.2.1 v.1.2.2.1, fun _ => rfl, fun _ => rfl, q16_2⟩, trivial⟩ FUEL (e16 FUEL)

/-! laws_FnExactConfigPack -/
abbrev i3 : Shp := ⟨[(0, .row Y0)], []⟩
abbrev o3 : Shp := ⟨[(0, .c (.v .bool))], []⟩
noncomputable def c3 : Con := ⟨i3, o3, fun v => laws_FnExactConfigPack v.1.1⟩
noncomputable def l3 : List (Nat × Con) := [(8, c8), (9, c9), (10, c10), (11, c11), (12, c12), (13, c13), (14, c14), (15, c15), (16, c16)]
noncomputable def C3 : Cfg := ⟨T, gam l3, hintOf [(10, [0, 1, 2, 3, 4, 5])]⟩
theorem e3 (ω : List Bool) (v : i3.V) : enterF C3 c3 Try.f3 (fun _ _ => none) ω v = laws_FnExactConfigPack v.1.1 := by kernel_rfl
theorem s3 : SoundC Try.prog 3 c3 := sound_by0 (l := l3) tOk mx Try.func3 ⟨s8, s9, s10, s11, s12, s13, s14, s15, s16, trivial⟩ (by kernel_rfl) (by kernel_rfl) e3
end Go.Proofs.Ytnlccecnjehooaa.Wk
