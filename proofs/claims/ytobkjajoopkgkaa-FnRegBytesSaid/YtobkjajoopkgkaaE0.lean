/- Each function computes what was printed: by the kernel. -/
import Derived.Test.YtobkjajoopkgkaaG0
import Derived.Test.YtobkjajoopkgkaaProg
import Derived.KernelRfl
set_option linter.unusedVariables false
set_option linter.unusedSimpArgs false
namespace Go.Proofs.Ytobkjajoopkgkaa.Wk
open Go Go.Fw Go.M Go.Proofs
abbrev tI : Ty := .int .i64
abbrev tU : Ty := .int .u8
abbrev Y0 : Ty := (.cons (.sl tI) (.cons tI .unit))
abbrev Y1 : Ty := (.cons (.sl tI) (.cons .bool (.cons tI .unit)))
abbrev Y2 : Ty := (.cons (.sl Y1) (.cons tI .unit))
abbrev Y3 : Ty := (.cons (.sl tU) (.cons tI (.cons .bool .unit)))
abbrev Y4 : Ty := (.cons (.sl tU) (.cons tI (.cons tI .unit)))
def T : Tab := [(3, ⟨1, 8, .int .i64, some tI⟩),
  (4, ⟨1, 1, .bool, some .bool⟩),
  (5, ⟨1, 1, .int .u8, some tU⟩),
  (9, ⟨1, 16, .str, some .str⟩),
  (22, ⟨1, 24, .sl 5, some (.sl tU)⟩),
  (24, ⟨1, 24, .sl 3, some (.sl tI)⟩),
  (26, ⟨2, 32, .st [(0, 24), (1, 3)], some Y0⟩),
  (27, ⟨1, 24, .sl 41, some (.sl Y1)⟩),
  (29, ⟨2, 32, .st [(0, 27), (1, 3)], some Y2⟩),
  (41, ⟨3, 40, .st [(0, 24), (1, 4), (2, 3)], some Y1⟩),
  (45, ⟨1, 8, .ptr 47, none⟩),
  (47, ⟨3, 40, .st [(0, 22), (1, 3), (2, 4)], some Y3⟩),
  (52, ⟨1, 8, .ptr 71, none⟩),
  (57, ⟨1, 8, .ptr 59, none⟩),
  (59, ⟨3, 40, .st [(0, 22), (1, 3), (2, 4)], some Y3⟩),
  (71, ⟨3, 40, .st [(0, 22), (1, 3), (2, 3)], some Y4⟩),
  (88, ⟨1, 24, .sl 4, some (.sl .bool)⟩)]
theorem tOk : TabOk Try.prog T := tabOk_of_check (by kernel_rfl)
theorem mx : Try.prog.follows .mixedOrders = true := by kernel_rfl

/-! laws_big -/
abbrev i4 : Shp := ⟨[(0, .c (.sl false tU))], []⟩
abbrev o4 : Shp := ⟨[(0, .c (.v .bool))], []⟩
noncomputable def c4 : Con := ⟨i4, o4, fun v => laws_big v.1.1⟩
noncomputable def l4 : List (Nat × Con) := []
noncomputable def C4 : Cfg := ⟨T, gam l4, hintOf []⟩
theorem e4 (ω : List Bool) (v : i4.V) : enterF C4 c4 Try.f4 (fun _ _ => none) ω v = laws_big v.1.1 := by kernel_rfl
theorem s4 : SoundC Try.prog 4 c4 := sound_by0 (l := l4) tOk mx Try.func4 trivial (by kernel_rfl) (by kernel_rfl) e4

/-! spec_l1New -/
abbrev i25 : Shp := ⟨[(0, .c (.sl true tU))], []⟩
abbrev o25 : Shp := ⟨[(0, .c (.ptr 0 0))], [.mem [.sl true tU, .v tI, .v tI]]⟩
noncomputable def c25 : Con := ⟨i25, o25, fun v => spec_l1New v.1.1⟩
noncomputable def l25 : List (Nat × Con) := []
noncomputable def C25 : Cfg := ⟨T, gam l25, hintOf []⟩
abbrev h25_3 : Shp := ⟨[(0, .c (.sl true tU)), (3, .c (.v tI)), (4, .c (.v tI))], []⟩
noncomputable def j25 (n ℓ : Nat) (σ : St) : Option o25.V := if ℓ = 3 then jump 0 h25_3 (fun v => spec_l1New_L3 n v.1.1 v.1.2.1 v.1.2.2.1) σ else none
theorem q25_3 (n : Nat) (v : h25_3.V) (ω : List Bool) : loopF C25 c25 Try.f25 (j25 n) 3 ω (h25_3.st 32 v) = spec_l1New_step3 (spec_l1New_L3 n) v.1.1 v.1.2.1 v.1.2.2.1 := by kernel_rfl
theorem e25 (n : Nat) (ω : List Bool) (v : i25.V) : enterF C25 c25 Try.f25 (j25 n) ω v = spec_l1New_entry (spec_l1New_L3 n) v.1.1 := by kernel_rfl
theorem s25 : SoundC Try.prog 25 c25 := sound_by (l := l25) (J := j25) (L := [3]) tOk mx Try.func25 trivial (by kernel_rfl) (by kernel_rfl)
  ⟨⟨h25_3, fun n v => spec_l1New_L3 n v.1.1 v.1.2.1 v.1.2.2.1, fun _ => rfl, fun _ => rfl, q25_3⟩, trivial⟩ FUEL (e25 FUEL)

/-! spec_l1Byte -/
abbrev i60 : Shp := ⟨[(0, .c (.ptr 0 0))], [.mem [.sl true tU, .v tI, .v tI]]⟩
abbrev o60 : Shp := ⟨[(0, .c (.v tI))], [.mem [.sl true tU, .v tI, .v tI]]⟩
noncomputable def c60 : Con := ⟨i60, o60, fun v => spec_l1Byte v.2.1.1 v.2.1.2.1 v.2.1.2.2.1⟩
noncomputable def l60 : List (Nat × Con) := []
noncomputable def C60 : Cfg := ⟨T, gam l60, hintOf [(2, [0]), (3, [0]), (4, [0])]⟩
theorem e60 (ω : List Bool) (v : i60.V) : enterF C60 c60 Try.f60 (fun _ _ => none) ω v = spec_l1Byte v.2.1.1 v.2.1.2.1 v.2.1.2.2.1 := by kernel_rfl
theorem s60 : SoundC Try.prog 60 c60 := sound_by0 (l := l60) tOk mx Try.func60 trivial (by kernel_rfl) (by kernel_rfl) e60

/-! spec_l1Below -/
abbrev i45 : Shp := ⟨[(0, .c (.ptr 0 0)), (1, .c (.v tI))], [.mem [.sl true tU, .v tI, .v tI]]⟩
abbrev o45 : Shp := ⟨[(0, .c (.v tI))], [.mem [.sl true tU, .v tI, .v tI]]⟩
noncomputable def c45 : Con := ⟨i45, o45, fun v => spec_l1Below v.1.2.1 v.2.1.1 v.2.1.2.1 v.2.1.2.2.1⟩
noncomputable def l45 : List (Nat × Con) := [(60, c60)]
noncomputable def C45 : Cfg := ⟨T, gam l45, hintOf []⟩
theorem e45 (ω : List Bool) (v : i45.V) : enterF C45 c45 Try.f45 (fun _ _ => none) ω v = spec_l1Below v.1.2.1 v.2.1.1 v.2.1.2.1 v.2.1.2.2.1 := by kernel_rfl
theorem s45 : SoundC Try.prog 45 c45 := sound_by0 (l := l45) tOk mx Try.func45 ⟨s60, trivial⟩ (by kernel_rfl) (by kernel_rfl) e45

/-! spec_l1Once -/
abbrev i46 : Shp := ⟨[(0, .c (.ptr 0 0)), (1, .c (.v tI))], [.mem [.sl true tU, .v tI, .v tI]]⟩
abbrev o46 : Shp := ⟨[(0, .c (.v .bool))], [.mem [.sl true tU, .v tI, .v tI]]⟩
noncomputable def c46 : Con := ⟨i46, o46, fun v => spec_l1Once v.1.2.1 v.2.1.1 v.2.1.2.1 v.2.1.2.2.1⟩
noncomputable def l46 : List (Nat × Con) := [(45, c45)]
noncomputable def C46 : Cfg := ⟨T, gam l46, hintOf []⟩
theorem e46 (ω : List Bool) (v : i46.V) : enterF C46 c46 Try.f46 (fun _ _ => none) ω v = spec_l1Once v.1.2.1 v.2.1.1 v.2.1.2.1 v.2.1.2.2.1 := by kernel_rfl
theorem s46 : SoundC Try.prog 46 c46 := sound_by0 (l := l46) tOk mx Try.func46 ⟨s45, trivial⟩ (by kernel_rfl) (by kernel_rfl) e46

/-! spec_l4DrawRight -/
abbrev i26 : Shp := ⟨[(0, .c (.ptr 0 0))], [.mem [.sl true tU, .v tI, .v tI]]⟩
abbrev o26 : Shp := ⟨[(0, .agg [.ref 1, .v tI])], [.mem [.sl true tU, .v tI, .v tI], .sl 9 tI]⟩
noncomputable def c26 : Con := ⟨i26, o26, fun v => spec_l4DrawRight v.2.1.1 v.2.1.2.1 v.2.1.2.2.1⟩
noncomputable def l26 : List (Nat × Con) := [(45, c45), (46, c46)]
noncomputable def C26 : Cfg := ⟨T, gam l26, hintOf [(6, [1, 2])]⟩
abbrev h26_4 : Shp := ⟨[(0, .c (.ptr 0 0)), (2, .c (.ptr 1 0)), (3, .c (.ptr 3 0)), (4, .c (.v tI)), (5, .c (.v tI))], [.mem [.sl true tU, .v tI, .v tI], .mem [.ref 2, .v tI], .sl 9 tI, .mem [.ref 4, .v tI], .sl 9 tI]⟩
noncomputable def j26 (n ℓ : Nat) (σ : St) : Option o26.V := if ℓ = 4 then jump 1 h26_4 (fun v => spec_l4DrawRight_L4 n v.1.2.2.2.1 v.1.2.2.2.2.1 v.2.1.1 v.2.1.2.1 v.2.1.2.2.1 v.2.2.1.2.1 v.2.2.2.1 v.2.2.2.2.1.2.1 v.2.2.2.2.2.1) σ else none
theorem q26_4 (n : Nat) (v : h26_4.V) (ω : List Bool) : loopF C26 c26 Try.f26 (j26 n) 4 ω (h26_4.st 29 v) = spec_l4DrawRight_step4 (spec_l4DrawRight_L4 n) v.1.2.2.2.1 v.1.2.2.2.2.1 v.2.1.1 v.2.1.2.1 v.2.1.2.2.1 v.2.2.1.2.1 v.2.2.2.1 v.2.2.2.2.1.2.1 v.2.2.2.2.2.1 := by rcases ω with _ | ⟨_ | _, _ | ⟨_ | _, _⟩⟩ <;> kernel_rfl
theorem e26 (n : Nat) (ω : List Bool) (v : i26.V) : enterF C26 c26 Try.f26 (j26 n) ω v = spec_l4DrawRight_entry (spec_l4DrawRight_L4 n) v.2.1.1 v.2.1.2.1 v.2.1.2.2.1 := by kernel_rfl
theorem s26 : SoundC Try.prog 26 c26 := sound_by (l := l26) (J := j26) (L := [4]) tOk mx Try.func26 ⟨s45, s46, trivial⟩ (by kernel_rfl) (by kernel_rfl)
  ⟨⟨h26_4, fun n v => spec_l4DrawRight_L4 n v.1.2.2.2.1 v.1.2.2.2.2.1 v.2.1.1 v.2.1.2.1 v.2.1.2.2.1 v.2.2.1.2.1 v.2.2.2.1 v.2.2.2.2.1.2.1 v.2.2.2.2.2.1, fun _ => rfl, fun _ => rfl, q26_4⟩, trivial⟩ FUEL (e26 FUEL)

/-! spec_l1PickInt -/
abbrev i52 : Shp := ⟨[(0, .c (.ptr 0 0)), (1, .c (.sl false tI))], [.mem [.sl true tU, .v tI, .v tI]]⟩
abbrev o52 : Shp := ⟨[(0, .c (.v tI))], [.mem [.sl true tU, .v tI, .v tI]]⟩
noncomputable def c52 : Con := ⟨i52, o52, fun v => spec_l1PickInt v.1.2.1 v.2.1.1 v.2.1.2.1 v.2.1.2.2.1⟩
noncomputable def l52 : List (Nat × Con) := [(45, c45)]
noncomputable def C52 : Cfg := ⟨T, gam l52, hintOf []⟩
theorem e52 (ω : List Bool) (v : i52.V) : enterF C52 c52 Try.f52 (fun _ _ => none) ω v = spec_l1PickInt v.1.2.1 v.2.1.1 v.2.1.2.1 v.2.1.2.2.1 := by kernel_rfl
theorem s52 : SoundC Try.prog 52 c52 := sound_by0 (l := l52) tOk mx Try.func52 ⟨s45, trivial⟩ (by kernel_rfl) (by kernel_rfl) e52

/-! spec_l4Draw -/
abbrev i32 : Shp := ⟨[(0, .c (.ptr 0 0))], [.mem [.sl true tU, .v tI, .v tI]]⟩
abbrev o32 : Shp := ⟨[(0, .agg [.ref 1, .v tI])], [.mem [.sl true tU, .v tI, .v tI], .sl 9 tI]⟩
noncomputable def c32 : Con := ⟨i32, o32, fun v => spec_l4Draw v.2.1.1 v.2.1.2.1 v.2.1.2.2.1⟩
noncomputable def l32 : List (Nat × Con) := [(26, c26), (45, c45), (52, c52)]
noncomputable def C32 : Cfg := ⟨T, gam l32, hintOf [(6, [1, 4])]⟩
theorem e32 (ω : List Bool) (v : i32.V) : enterF C32 c32 Try.f32 (fun _ _ => none) ω v = spec_l4Draw v.2.1.1 v.2.1.2.1 v.2.1.2.2.1 := by kernel_rfl
theorem s32 : SoundC Try.prog 32 c32 := sound_by0 (l := l32) tOk mx Try.func32 ⟨s26, s45, s52, trivial⟩ (by kernel_rfl) (by kernel_rfl) e32

/-! spec_l1Max -/
abbrev i64 : Shp := ⟨[(0, .c (.v tI)), (1, .c (.v tI))], []⟩
abbrev o64 : Shp := ⟨[(0, .c (.v tI))], []⟩
noncomputable def c64 : Con := ⟨i64, o64, fun v => spec_l1Max v.1.1 v.1.2.1⟩
noncomputable def l64 : List (Nat × Con) := []
noncomputable def C64 : Cfg := ⟨T, gam l64, hintOf []⟩
theorem e64 (ω : List Bool) (v : i64.V) : enterF C64 c64 Try.f64 (fun _ _ => none) ω v = spec_l1Max v.1.1 v.1.2.1 := by kernel_rfl
theorem s64 : SoundC Try.prog 64 c64 := sound_by0 (l := l64) tOk mx Try.func64 trivial (by kernel_rfl) (by kernel_rfl) e64

/-! spec_l4Has -/
abbrev i70 : Shp := ⟨[(0, .c (.sl false tI)), (1, .c (.v tI))], []⟩
abbrev o70 : Shp := ⟨[(0, .c (.v .bool))], []⟩
noncomputable def c70 : Con := ⟨i70, o70, fun v => spec_l4Has v.1.1 v.1.2.1⟩
noncomputable def l70 : List (Nat × Con) := []
noncomputable def C70 : Cfg := ⟨T, gam l70, hintOf []⟩
abbrev h70_2 : Shp := ⟨[(0, .c (.sl false tI)), (1, .c (.v tI)), (5, .c (.v tI))], []⟩
noncomputable def j70 (n ℓ : Nat) (σ : St) : Option o70.V := if ℓ = 2 then jump 0 h70_2 (fun v => spec_l4Has_L2 n v.1.1 v.1.2.1 v.1.2.2.1) σ else none
theorem q70_2 (n : Nat) (v : h70_2.V) (ω : List Bool) : loopF C70 c70 Try.f70 (j70 n) 2 ω (h70_2.st 18 v) = spec_l4Has_step2 (spec_l4Has_L2 n) v.1.1 v.1.2.1 v.1.2.2.1 := by kernel_rfl
theorem e70 (n : Nat) (ω : List Bool) (v : i70.V) : enterF C70 c70 Try.f70 (j70 n) ω v = spec_l4Has_entry (spec_l4Has_L2 n) v.1.1 v.1.2.1 := by kernel_rfl
theorem s70 : SoundC Try.prog 70 c70 := sound_by (l := l70) (J := j70) (L := [2]) tOk mx Try.func70 trivial (by kernel_rfl) (by kernel_rfl)
  ⟨⟨h70_2, fun n v => spec_l4Has_L2 n v.1.1 v.1.2.1 v.1.2.2.1, fun _ => rfl, fun _ => rfl, q70_2⟩, trivial⟩ FUEL (e70 FUEL)

/-! spec_l4Put -/
abbrev i62 : Shp := ⟨[(0, .c (.sl false tI)), (1, .c (.v tI))], []⟩
abbrev o62 : Shp := ⟨[(0, .c (.ref 0))], [.sl 9 tI]⟩
noncomputable def c62 : Con := ⟨i62, o62, fun v => spec_l4Put v.1.1 v.1.2.1⟩
noncomputable def l62 : List (Nat × Con) := [(70, c70)]
noncomputable def C62 : Cfg := ⟨T, gam l62, hintOf []⟩
abbrev h62_4 : Shp := ⟨[(0, .c (.sl false tI)), (1, .c (.v tI)), (5, .c (.ref 0)), (6, .c (.v .bool)), (7, .c (.v tI))], [.sl 9 tI]⟩
noncomputable def j62 (n ℓ : Nat) (σ : St) : Option o62.V := if ℓ = 4 then jump 0 h62_4 (fun v => spec_l4Put_L4 n v.1.1 v.1.2.1 v.1.2.2.2.1 v.1.2.2.2.2.1 v.2.1) σ else none
theorem q62_4 (n : Nat) (v : h62_4.V) (ω : List Bool) : loopF C62 c62 Try.f62 (j62 n) 4 ω (h62_4.st 46 v) = spec_l4Put_step4 (spec_l4Put_L4 n) v.1.1 v.1.2.1 v.1.2.2.2.1 v.1.2.2.2.2.1 v.2.1 := by kernel_rfl
theorem e62 (n : Nat) (ω : List Bool) (v : i62.V) : enterF C62 c62 Try.f62 (j62 n) ω v = spec_l4Put_entry (spec_l4Put_L4 n) v.1.1 v.1.2.1 := by kernel_rfl
theorem s62 : SoundC Try.prog 62 c62 := sound_by (l := l62) (J := j62) (L := [4]) tOk mx Try.func62 ⟨s70, trivial⟩ (by kernel_rfl) (by kernel_rfl)
  ⟨⟨h62_4, fun n v => spec_l4Put_L4 n v.1.1 v.1.2.1 v.1.2.2.2.1 v.1.2.2.2.2.1 v.2.1, fun _ => rfl, fun _ => rfl, q62_4⟩, trivial⟩ FUEL (e62 FUEL)

/-! spec_l4DrawNodes -/
abbrev i55 : Shp := ⟨[(0, .c (.ptr 0 0)), (1, .row Y0)], [.mem [.sl true tU, .v tI, .v tI]]⟩
abbrev o55 : Shp := ⟨[(0, .c (.ref 1))], [.mem [.sl true tU, .v tI, .v tI], .sl 9 tI]⟩
noncomputable def c55 : Con := ⟨i55, o55, fun v => spec_l4DrawNodes v.1.2.1 v.2.1.1 v.2.1.2.1 v.2.1.2.2.1⟩
noncomputable def l55 : List (Nat × Con) := [(45, c45), (46, c46), (52, c52), (62, c62), (64, c64)]
noncomputable def C55 : Cfg := ⟨T, gam l55, hintOf []⟩
abbrev h55_4 : Shp := ⟨[(0, .c (.ptr 0 0)), (3, .c (.ptr 1 0)), (5, .c (.ref 2)), (6, .c (.v tI)), (7, .c (.v tI))], [.mem [.sl true tU, .v tI, .v tI], .mem [.sl false tI, .v tI], .sl 9 tI]⟩
noncomputable def j55 (n ℓ : Nat) (σ : St) : Option o55.V := if ℓ = 4 then jump 1 h55_4 (fun v => spec_l4DrawNodes_L4 n v.1.2.2.2.1 v.1.2.2.2.2.1 v.2.1.1 v.2.1.2.1 v.2.1.2.2.1 v.2.2.1.1 v.2.2.1.2.1 v.2.2.2.1) σ else none
theorem q55_4 (n : Nat) (v : h55_4.V) (ω : List Bool) : loopF C55 c55 Try.f55 (j55 n) 4 ω (h55_4.st 40 v) = spec_l4DrawNodes_step4 (spec_l4DrawNodes_L4 n) v.1.2.2.2.1 v.1.2.2.2.2.1 v.2.1.1 v.2.1.2.1 v.2.1.2.2.1 v.2.2.1.1 v.2.2.1.2.1 v.2.2.2.1 := by kernel_rfl
theorem e55 (n : Nat) (ω : List Bool) (v : i55.V) : enterF C55 c55 Try.f55 (j55 n) ω v = spec_l4DrawNodes_entry (spec_l4DrawNodes_L4 n) v.1.2.1 v.2.1.1 v.2.1.2.1 v.2.1.2.2.1 := by kernel_rfl
theorem s55 : SoundC Try.prog 55 c55 := sound_by (l := l55) (J := j55) (L := [4]) tOk mx Try.func55 ⟨s45, s46, s52, s62, s64, trivial⟩ (by kernel_rfl) (by kernel_rfl)
  ⟨⟨h55_4, fun n v => spec_l4DrawNodes_L4 n v.1.2.2.2.1 v.1.2.2.2.2.1 v.2.1.1 v.2.1.2.1 v.2.1.2.2.1 v.2.2.1.1 v.2.2.1.2.1 v.2.2.2.1, fun _ => rfl, fun _ => rfl, q55_4⟩, trivial⟩ FUEL (e55 FUEL)

/-! spec_l1In -/
abbrev i43 : Shp := ⟨[(0, .c (.v tI)), (1, .c (.v tI)), (2, .c (.v tI))], []⟩
abbrev o43 : Shp := ⟨[(0, .c (.v .bool))], []⟩
noncomputable def c43 : Con := ⟨i43, o43, fun v => spec_l1In v.1.1 v.1.2.1 v.1.2.2.1⟩
noncomputable def l43 : List (Nat × Con) := []
noncomputable def C43 : Cfg := ⟨T, gam l43, hintOf []⟩
theorem e43 (ω : List Bool) (v : i43.V) : enterF C43 c43 Try.f43 (fun _ _ => none) ω v = spec_l1In v.1.1 v.1.2.1 v.1.2.2.1 := by kernel_rfl
theorem s43 : SoundC Try.prog 43 c43 := sound_by0 (l := l43) tOk mx Try.func43 trivial (by kernel_rfl) (by kernel_rfl) e43

/-! spec_ConfigOk -/
abbrev i39 : Shp := ⟨[(0, .row Y0)], []⟩
abbrev o39 : Shp := ⟨[(0, .c (.v .bool))], []⟩
noncomputable def c39 : Con := ⟨i39, o39, fun v => spec_ConfigOk v.1.1⟩
noncomputable def l39 : List (Nat × Con) := [(43, c43)]
noncomputable def C39 : Cfg := ⟨T, gam l39, hintOf []⟩
abbrev h39_4 : Shp := ⟨[(1, .c (.ptr 0 0)), (3, .c (.v tI))], [.mem [.sl false tI, .v tI]]⟩
noncomputable def j39 (n ℓ : Nat) (σ : St) : Option o39.V := if ℓ = 4 then jump 0 h39_4 (fun v => spec_ConfigOk_L4 n v.1.2.1 v.2.1.1 v.2.1.2.1) σ else none
theorem q39_4 (n : Nat) (v : h39_4.V) (ω : List Bool) : loopF C39 c39 Try.f39 (j39 n) 4 ω (h39_4.st 29 v) = spec_ConfigOk_step4 (spec_ConfigOk_L4 n) v.1.2.1 v.2.1.1 v.2.1.2.1 := by kernel_rfl
theorem e39 (n : Nat) (ω : List Bool) (v : i39.V) : enterF C39 c39 Try.f39 (j39 n) ω v = spec_ConfigOk_entry (spec_ConfigOk_L4 n) v.1.1 := by kernel_rfl
theorem s39 : SoundC Try.prog 39 c39 := sound_by (l := l39) (J := j39) (L := [4]) tOk mx Try.func39 ⟨s43, trivial⟩ (by kernel_rfl) (by kernel_rfl)
  ⟨⟨h39_4, fun n v => spec_ConfigOk_L4 n v.1.2.1 v.2.1.1 v.2.1.2.1, fun _ => rfl, fun _ => rfl, q39_4⟩, trivial⟩ FUEL (e39 FUEL)

/-! spec_l4Asc -/
abbrev i69 : Shp := ⟨[(0, .c (.sl false tI)), (1, .c (.v tI)), (2, .c (.v tI))], []⟩
abbrev o69 : Shp := ⟨[(0, .c (.v .bool))], []⟩
noncomputable def c69 : Con := ⟨i69, o69, fun v => spec_l4Asc v.1.1 v.1.2.1 v.1.2.2.1⟩
noncomputable def l69 : List (Nat × Con) := [(43, c43)]
noncomputable def C69 : Cfg := ⟨T, gam l69, hintOf []⟩
abbrev h69_2 : Shp := ⟨[(0, .c (.sl false tI)), (1, .c (.v tI)), (2, .c (.v tI)), (7, .c (.v tI))], []⟩
noncomputable def j69 (n ℓ : Nat) (σ : St) : Option o69.V := if ℓ = 2 then jump 0 h69_2 (fun v => spec_l4Asc_L2 n v.1.1 v.1.2.1 v.1.2.2.1 v.1.2.2.2.1) σ else none
theorem q69_2 (n : Nat) (v : h69_2.V) (ω : List Bool) : loopF C69 c69 Try.f69 (j69 n) 2 ω (h69_2.st 38 v) = spec_l4Asc_step2 (spec_l4Asc_L2 n) v.1.1 v.1.2.1 v.1.2.2.1 v.1.2.2.2.1 := by kernel_rfl
theorem e69 (n : Nat) (ω : List Bool) (v : i69.V) : enterF C69 c69 Try.f69 (j69 n) ω v = spec_l4Asc_entry (spec_l4Asc_L2 n) v.1.1 v.1.2.1 v.1.2.2.1 := by kernel_rfl
theorem s69 : SoundC Try.prog 69 c69 := sound_by (l := l69) (J := j69) (L := [2]) tOk mx Try.func69 ⟨s43, trivial⟩ (by kernel_rfl) (by kernel_rfl)
  ⟨⟨h69_2, fun n v => spec_l4Asc_L2 n v.1.1 v.1.2.1 v.1.2.2.1 v.1.2.2.2.1, fun _ => rfl, fun _ => rfl, q69_2⟩, trivial⟩ FUEL (e69 FUEL)

/-! spec_NodesOk -/
abbrev i58 : Shp := ⟨[(0, .row Y0), (1, .c (.sl false tI))], []⟩
abbrev o58 : Shp := ⟨[(0, .c (.v .bool))], []⟩
noncomputable def c58 : Con := ⟨i58, o58, fun v => spec_NodesOk v.1.1 v.1.2.1⟩
noncomputable def l58 : List (Nat × Con) := [(39, c39), (69, c69)]
noncomputable def C58 : Cfg := ⟨T, gam l58, hintOf []⟩
theorem e58 (ω : List Bool) (v : i58.V) : enterF C58 c58 Try.f58 (fun _ _ => none) ω v = spec_NodesOk v.1.1 v.1.2.1 := by kernel_rfl
theorem s58 : SoundC Try.prog 58 c58 := sound_by0 (l := l58) tOk mx Try.func58 ⟨s39, s69, trivial⟩ (by kernel_rfl) (by kernel_rfl) e58

/-! spec_l4Span -/
abbrev i59 : Shp := ⟨[(0, .row Y0), (1, .c (.sl false tI))], []⟩
abbrev o59 : Shp := ⟨[(0, .c (.v tI))], []⟩
noncomputable def c59 : Con := ⟨i59, o59, fun v => spec_l4Span v.1.1 v.1.2.1⟩
noncomputable def l59 : List (Nat × Con) := []
noncomputable def C59 : Cfg := ⟨T, gam l59, hintOf [(6, [0, 1])]⟩
abbrev h59_4 : Shp := ⟨[(1, .c (.sl false tI)), (2, .c (.ptr 0 0)), (5, .c (.ref 1)), (6, .c (.v tI)), (7, .c (.v tI))], [.mem [.sl false tI, .v tI], .sl 9 .bool]⟩
noncomputable def j59 (n ℓ : Nat) (σ : St) : Option o59.V := if ℓ = 4 then jump 0 h59_4 (fun v => spec_l4Span_L4 n v.1.1 v.1.2.2.2.1 v.1.2.2.2.2.1 v.2.1.1 v.2.1.2.1 v.2.2.1) σ else none
theorem q59_4 (n : Nat) (v : h59_4.V) (ω : List Bool) : loopF C59 c59 Try.f59 (j59 n) 4 ω (h59_4.st 35 v) = spec_l4Span_step4 (spec_l4Span_L4 n) v.1.1 v.1.2.2.2.1 v.1.2.2.2.2.1 v.2.1.1 v.2.1.2.1 v.2.2.1 := by kernel_rfl
theorem e59 (n : Nat) (ω : List Bool) (v : i59.V) : enterF C59 c59 Try.f59 (j59 n) ω v = spec_l4Span_entry (spec_l4Span_L4 n) v.1.1 v.1.2.1 := by kernel_rfl
theorem s59 : SoundC Try.prog 59 c59 := sound_by (l := l59) (J := j59) (L := [4]) tOk mx Try.func59 trivial (by kernel_rfl) (by kernel_rfl)
  ⟨⟨h59_4, fun n v => spec_l4Span_L4 n v.1.1 v.1.2.2.2.1 v.1.2.2.2.2.1 v.2.1.1 v.2.1.2.1 v.2.2.1, fun _ => rfl, fun _ => rfl, q59_4⟩, trivial⟩ FUEL (e59 FUEL)

/-! spec_Holds -/
abbrev i42 : Shp := ⟨[(0, .row Y0), (1, .c (.sl false tI))], []⟩
abbrev o42 : Shp := ⟨[(0, .c (.v .bool))], []⟩
noncomputable def c42 : Con := ⟨i42, o42, fun v => spec_Holds v.1.1 v.1.2.1⟩
noncomputable def l42 : List (Nat × Con) := [(58, c58), (59, c59)]
noncomputable def C42 : Cfg := ⟨T, gam l42, hintOf [(1, [0])]⟩
theorem e42 (ω : List Bool) (v : i42.V) : enterF C42 c42 Try.f42 (fun _ _ => none) ω v = spec_Holds v.1.1 v.1.2.1 := by kernel_rfl
theorem s42 : SoundC Try.prog 42 c42 := sound_by0 (l := l42) tOk mx Try.func42 ⟨s58, s59, trivial⟩ (by kernel_rfl) (by kernel_rfl) e42

/-! spec_l7DrawSet -/
abbrev i48 : Shp := ⟨[(0, .c (.ptr 0 0)), (1, .row Y0)], [.mem [.sl true tU, .v tI, .v tI]]⟩
abbrev o48 : Shp := ⟨[(0, .c (.ref 1))], [.mem [.sl true tU, .v tI, .v tI], .sl 9 tI]⟩
noncomputable def c48 : Con := ⟨i48, o48, fun v => spec_l7DrawSet v.1.2.1 v.2.1.1 v.2.1.2.1 v.2.1.2.2.1⟩
noncomputable def l48 : List (Nat × Con) := [(42, c42), (55, c55), (62, c62)]
noncomputable def C48 : Cfg := ⟨T, gam l48, hintOf []⟩
abbrev h48_3 : Shp := ⟨[(3, .c (.ptr 1 0)), (5, .c (.ref 2)), (6, .c (.v tI))], [.mem [.sl true tU, .v tI, .v tI], .mem [.sl false tI, .v tI], .sl 9 tI]⟩
noncomputable def j48 (n ℓ : Nat) (σ : St) : Option o48.V := if ℓ = 3 then jump 1 h48_3 (fun v => spec_l7DrawSet_L3 n v.1.2.2.1 v.2.1.1 v.2.1.2.1 v.2.1.2.2.1 v.2.2.1.1 v.2.2.1.2.1 v.2.2.2.1) σ else none
theorem q48_3 (n : Nat) (v : h48_3.V) (ω : List Bool) : loopF C48 c48 Try.f48 (j48 n) 3 ω (h48_3.st 27 v) = spec_l7DrawSet_step3 (spec_l7DrawSet_L3 n) v.1.2.2.1 v.2.1.1 v.2.1.2.1 v.2.1.2.2.1 v.2.2.1.1 v.2.2.1.2.1 v.2.2.2.1 := by kernel_rfl
theorem e48 (n : Nat) (ω : List Bool) (v : i48.V) : enterF C48 c48 Try.f48 (j48 n) ω v = spec_l7DrawSet_entry (spec_l7DrawSet_L3 n) v.1.2.1 v.2.1.1 v.2.1.2.1 v.2.1.2.2.1 := by kernel_rfl
theorem s48 : SoundC Try.prog 48 c48 := sound_by (l := l48) (J := j48) (L := [3]) tOk mx Try.func48 ⟨s42, s55, s62, trivial⟩ (by kernel_rfl) (by kernel_rfl)
  ⟨⟨h48_3, fun n v => spec_l7DrawSet_L3 n v.1.2.2.1 v.2.1.1 v.2.1.2.1 v.2.1.2.2.1 v.2.2.1.1 v.2.2.1.2.1 v.2.2.2.1, fun _ => rfl, fun _ => rfl, q48_3⟩, trivial⟩ FUEL (e48 FUEL)

/-! spec_PlaceOk -/
abbrev i40 : Shp := ⟨[(0, .c (.v tI))], []⟩
abbrev o40 : Shp := ⟨[(0, .c (.v .bool))], []⟩
noncomputable def c40 : Con := ⟨i40, o40, fun v => spec_PlaceOk v.1.1⟩
noncomputable def l40 : List (Nat × Con) := [(43, c43)]
noncomputable def C40 : Cfg := ⟨T, gam l40, hintOf []⟩
theorem e40 (ω : List Bool) (v : i40.V) : enterF C40 c40 Try.f40 (fun _ _ => none) ω v = spec_PlaceOk v.1.1 := by kernel_rfl
theorem s40 : SoundC Try.prog 40 c40 := sound_by0 (l := l40) tOk mx Try.func40 ⟨s43, trivial⟩ (by kernel_rfl) (by kernel_rfl) e40

/-! spec_EpochOf -/
abbrev i41 : Shp := ⟨[(0, .c (.v tI))], []⟩
abbrev o41 : Shp := ⟨[(0, .c (.v tI))], []⟩
noncomputable def c41 : Con := ⟨i41, o41, fun v => spec_EpochOf v.1.1⟩
noncomputable def l41 : List (Nat × Con) := [(40, c40)]
noncomputable def C41 : Cfg := ⟨T, gam l41, hintOf []⟩
theorem e41 (ω : List Bool) (v : i41.V) : enterF C41 c41 Try.f41 (fun _ _ => none) ω v = spec_EpochOf v.1.1 := by kernel_rfl
theorem s41 : SoundC Try.prog 41 c41 := sound_by0 (l := l41) tOk mx Try.func41 ⟨s40, trivial⟩ (by kernel_rfl) (by kernel_rfl) e41

/-! spec_RegOk -/
abbrev i16 : Shp := ⟨[(0, .row Y0), (1, .row Y2)], []⟩
abbrev o16 : Shp := ⟨[(0, .c (.v .bool))], []⟩
noncomputable def c16 : Con := ⟨i16, o16, fun v => spec_RegOk v.1.1 v.1.2.1⟩
noncomputable def l16 : List (Nat × Con) := [(39, c39), (40, c40), (41, c41), (42, c42), (43, c43)]
noncomputable def C16 : Cfg := ⟨T, gam l16, hintOf []⟩
abbrev h16_5 : Shp := ⟨[(2, .c (.ptr 0 0)), (3, .c (.ptr 1 0)), (5, .c (.v tI)), (6, .c (.v tI))], [.mem [.sl false tI, .v tI], .mem [.sl false Y1, .v tI]]⟩
noncomputable def j16 (n ℓ : Nat) (σ : St) : Option o16.V := if ℓ = 5 then jump 0 h16_5 (fun v => spec_RegOk_L5 n v.1.2.2.1 v.1.2.2.2.1 v.2.1.1 v.2.1.2.1 v.2.2.1.1 v.2.2.1.2.1) σ else none
theorem q16_5 (n : Nat) (v : h16_5.V) (ω : List Bool) : loopF C16 c16 Try.f16 (j16 n) 5 ω (h16_5.st 89 v) = spec_RegOk_step5 (spec_RegOk_L5 n) v.1.2.2.1 v.1.2.2.2.1 v.2.1.1 v.2.1.2.1 v.2.2.1.1 v.2.2.1.2.1 := by kernel_rfl
theorem e16 (n : Nat) (ω : List Bool) (v : i16.V) : enterF C16 c16 Try.f16 (j16 n) ω v = spec_RegOk_entry (spec_RegOk_L5 n) v.1.1 v.1.2.1 := by kernel_rfl
theorem s16 : SoundC Try.prog 16 c16 := sound_by (l := l16) (J := j16) (L := [5]) tOk mx Try.func16 ⟨s39, s40, s41, s42, s43, trivial⟩ (by kernel_rfl) (by kernel_rfl)
  ⟨⟨h16_5, fun n v => spec_RegOk_L5 n v.1.2.2.1 v.1.2.2.2.1 v.2.1.1 v.2.1.2.1 v.2.2.1.1 v.2.2.1.2.1, fun _ => rfl, fun _ => rfl, q16_5⟩, trivial⟩ FUEL (e16 FUEL)

/-! spec_l7Copy -/
abbrev i61 : Shp := ⟨[(0, .row Y2)], []⟩
abbrev o61 : Shp := ⟨[(0, .agg [.ref 0, .v tI])], [.sl 9 Y1]⟩
noncomputable def c61 : Con := ⟨i61, o61, fun v => spec_l7Copy v.1.1⟩
noncomputable def l61 : List (Nat × Con) := []
noncomputable def C61 : Cfg := ⟨T, gam l61, hintOf []⟩
abbrev h61_3 : Shp := ⟨[(1, .c (.ptr 0 0)), (2, .c (.ptr 1 0)), (3, .c (.ptr 3 0)), (4, .c (.v tI))], [.mem [.sl false Y1, .v tI], .mem [.ref 2, .v tI], .sl 9 Y1, .mem [.ref 4, .v tI], .sl 9 Y1]⟩
noncomputable def j61 (n ℓ : Nat) (σ : St) : Option o61.V := if ℓ = 3 then jump 0 h61_3 (fun v => spec_l7Copy_L3 n v.1.2.2.2.1 v.2.1.1 v.2.1.2.1 v.2.2.1.2.1 v.2.2.2.1 v.2.2.2.2.1.2.1 v.2.2.2.2.2.1) σ else none
theorem q61_3 (n : Nat) (v : h61_3.V) (ω : List Bool) : loopF C61 c61 Try.f61 (j61 n) 3 ω (h61_3.st 33 v) = spec_l7Copy_step3 (spec_l7Copy_L3 n) v.1.2.2.2.1 v.2.1.1 v.2.1.2.1 v.2.2.1.2.1 v.2.2.2.1 v.2.2.2.2.1.2.1 v.2.2.2.2.2.1 := by kernel_rfl
theorem e61 (n : Nat) (ω : List Bool) (v : i61.V) : enterF C61 c61 Try.f61 (j61 n) ω v = spec_l7Copy_entry (spec_l7Copy_L3 n) v.1.1 := by kernel_rfl
theorem s61 : SoundC Try.prog 61 c61 := sound_by (l := l61) (J := j61) (L := [3]) tOk mx Try.func61 trivial (by kernel_rfl) (by kernel_rfl)
  ⟨⟨h61_3, fun n v => spec_l7Copy_L3 n v.1.2.2.2.1 v.2.1.1 v.2.1.2.1 v.2.2.1.2.1 v.2.2.2.1 v.2.2.2.2.1.2.1 v.2.2.2.2.2.1, fun _ => rfl, fun _ => rfl, q61_3⟩, trivial⟩ FUEL (e61 FUEL)

/-! spec_RegOpen -/
abbrev i47 : Shp := ⟨[(0, .row Y0), (1, .row Y2), (2, .c (.sl false tI))], []⟩
abbrev o47 : Shp := ⟨[(0, .tup [.inr [.ref 0, .v tI], .inl (.v tI), .inl (.v .bool)])], [.sl 9 Y1]⟩
noncomputable def c47 : Con := ⟨i47, o47, fun v => spec_RegOpen v.1.1 v.1.2.1 v.1.2.2.1⟩
noncomputable def l47 : List (Nat × Con) := [(16, c16), (42, c42), (61, c61)]
noncomputable def C47 : Cfg := ⟨T, gam l47, hintOf [(6, [0, 1, 2])]⟩
theorem b47 (g16 : (List Int × Int × Unit) → (List (List Int × Bool × Int × Unit) × Int × Unit) → Option V_spec_RegOk) (g42 : (List Int × Int × Unit) → List Int → Option V_spec_Holds) (g61 : (List (List Int × Bool × Int × Unit) × Int × Unit) → Option V_spec_l7Copy) (ω : List Bool) (v : i47.V) : enterF ⟨T, gam [(16, ⟨i16, o16, fun v => g16 v.1.1 v.1.2.1⟩), (42, ⟨i42, o42, fun v => g42 v.1.1 v.1.2.1⟩), (61, ⟨i61, o61, fun v => g61 v.1.1⟩)], hintOf [(6, [0, 1, 2])]⟩ c47 Try.f47 (fun _ _ => none) ω v = (fun (p0 : List Int × Int × Unit) (p1 : List (List Int × Bool × Int × Unit) × Int × Unit) (p2 : List Int) =>
  (g16 (p0.1, p0.2.1, ()) (p1.1, p1.2.1, ())).bind fun u1 =>
  cond (!u1.1.1)
    (some (((((), 0, ()), 0, false, ()), ()), ([], ())))
  ((g61 (p1.1, p1.2.1, ())).bind fun u2 =>
  (g42 (p0.1, p0.2.1, ()) p2).bind fun u3 =>
  cond (!u3.1.1)
    (some (((((), u2.1.1.2.1, ()), 0, false, ()), ()), (u2.2.1, ())))
  (cond (((p1.1.length : Int) == 30))
    (some (((((), u2.1.1.2.1, ()), 0, false, ()), ()), (u2.2.1, ())))
  (if 0 + p2.length ≤ Go.M.LIM then (
  if u2.2.1.length + 1 ≤ Go.M.LIM then (
  let x5 : List (List Int × Bool × Int × Unit) := u2.2.1 ++ [(p2, false, 0, ())]
  some (((((), u2.1.1.2.1, ()), (x5.length : Int), true, ()), ()), (x5, ()))) else none) else none)))) v.1.1 v.1.2.1 v.1.2.2.1 := by rcases ω with _ | ⟨_ | _, _ | ⟨_ | _, _ | ⟨_ | _, _ | ⟨_ | _, _ | ⟨_ | _, _⟩⟩⟩⟩⟩ <;> kernel_rfl
theorem e47 (ω : List Bool) (v : i47.V) : enterF C47 c47 Try.f47 (fun _ _ => none) ω v = spec_RegOpen v.1.1 v.1.2.1 v.1.2.2.1 := b47 spec_RegOk spec_Holds spec_l7Copy ω v
theorem s47 : SoundC Try.prog 47 c47 := sound_by0 (l := l47) tOk mx Try.func47 ⟨s16, s42, s61, trivial⟩ (by kernel_rfl) (by kernel_rfl) e47

/-! spec_FirstOpen -/
abbrev i63 : Shp := ⟨[(0, .row Y2)], []⟩
abbrev o63 : Shp := ⟨[(0, .c (.v tI))], []⟩
noncomputable def c63 : Con := ⟨i63, o63, fun v => spec_FirstOpen v.1.1⟩
noncomputable def l63 : List (Nat × Con) := []
noncomputable def C63 : Cfg := ⟨T, gam l63, hintOf []⟩
abbrev h63_2 : Shp := ⟨[(1, .c (.ptr 0 0)), (3, .c (.v tI))], [.mem [.sl false Y1, .v tI]]⟩
noncomputable def j63 (n ℓ : Nat) (σ : St) : Option o63.V := if ℓ = 2 then jump 0 h63_2 (fun v => spec_FirstOpen_L2 n v.1.2.1 v.2.1.1 v.2.1.2.1) σ else none
theorem q63_2 (n : Nat) (v : h63_2.V) (ω : List Bool) : loopF C63 c63 Try.f63 (j63 n) 2 ω (h63_2.st 20 v) = spec_FirstOpen_step2 (spec_FirstOpen_L2 n) v.1.2.1 v.2.1.1 v.2.1.2.1 := by kernel_rfl
theorem e63 (n : Nat) (ω : List Bool) (v : i63.V) : enterF C63 c63 Try.f63 (j63 n) ω v = spec_FirstOpen_entry (spec_FirstOpen_L2 n) v.1.1 := by kernel_rfl
theorem s63 : SoundC Try.prog 63 c63 := sound_by (l := l63) (J := j63) (L := [2]) tOk mx Try.func63 trivial (by kernel_rfl) (by kernel_rfl)
  ⟨⟨h63_2, fun n v => spec_FirstOpen_L2 n v.1.2.1 v.2.1.1 v.2.1.2.1, fun _ => rfl, fun _ => rfl, q63_2⟩, trivial⟩ FUEL (e63 FUEL)

/-! spec_RegClose -/
abbrev i49 : Shp := ⟨[(0, .row Y0), (1, .row Y2), (2, .c (.v tI)), (3, .c (.v tI))], []⟩
abbrev o49 : Shp := ⟨[(0, .tup [.inr [.ref 0, .v tI], .inl (.v .bool)])], [.sl 9 Y1]⟩
noncomputable def c49 : Con := ⟨i49, o49, fun v => spec_RegClose v.1.1 v.1.2.1 v.1.2.2.1 v.1.2.2.2.1⟩
noncomputable def l49 : List (Nat × Con) := [(16, c16), (43, c43), (61, c61), (63, c63)]
noncomputable def C49 : Cfg := ⟨T, gam l49, hintOf []⟩
theorem e49 (ω : List Bool) (v : i49.V) : enterF C49 c49 Try.f49 (fun _ _ => none) ω v = spec_RegClose v.1.1 v.1.2.1 v.1.2.2.1 v.1.2.2.2.1 := by kernel_rfl
theorem s49 : SoundC Try.prog 49 c49 := sound_by0 (l := l49) tOk mx Try.func49 ⟨s16, s43, s61, s63, trivial⟩ (by kernel_rfl) (by kernel_rfl) e49

/-! spec_l1Place -/
abbrev i51 : Shp := ⟨[(0, .c (.v tI)), (1, .c (.v tI))], []⟩
abbrev o51 : Shp := ⟨[(0, .c (.v tI))], []⟩
noncomputable def c51 : Con := ⟨i51, o51, fun v => spec_l1Place v.1.1 v.1.2.1⟩
noncomputable def l51 : List (Nat × Con) := []
noncomputable def C51 : Cfg := ⟨T, gam l51, hintOf []⟩
theorem e51 (ω : List Bool) (v : i51.V) : enterF C51 c51 Try.f51 (fun _ _ => none) ω v = spec_l1Place v.1.1 v.1.2.1 := by kernel_rfl
theorem s51 : SoundC Try.prog 51 c51 := sound_by0 (l := l51) tOk mx Try.func51 trivial (by kernel_rfl) (by kernel_rfl) e51

/-! spec_RegTrim -/
abbrev i50 : Shp := ⟨[(0, .row Y0), (1, .row Y2), (2, .c (.v tI))], []⟩
abbrev o50 : Shp := ⟨[(0, .tup [.inr [.ref 0, .v tI], .inl (.v .bool)])], [.sl 9 Y1]⟩
noncomputable def c50 : Con := ⟨i50, o50, fun v => spec_RegTrim v.1.1 v.1.2.1 v.1.2.2.1⟩
noncomputable def l50 : List (Nat × Con) := [(16, c16), (40, c40), (41, c41), (61, c61), (64, c64)]
noncomputable def C50 : Cfg := ⟨T, gam l50, hintOf [(4, [0, 1, 2, 3, 4])]⟩
theorem e50 (ω : List Bool) (v : i50.V) : enterF C50 c50 Try.f50 (fun _ _ => none) ω v = spec_RegTrim v.1.1 v.1.2.1 v.1.2.2.1 := by kernel_rfl
theorem s50 : SoundC Try.prog 50 c50 := sound_by0 (l := l50) tOk mx Try.func50 ⟨s16, s40, s41, s61, s64, trivial⟩ (by kernel_rfl) (by kernel_rfl) e50

/-! spec_l7DrawRight -/
abbrev i27 : Shp := ⟨[(0, .c (.ptr 0 0)), (1, .row Y0)], [.mem [.sl true tU, .v tI, .v tI]]⟩
abbrev o27 : Shp := ⟨[(0, .agg [.ref 1, .v tI])], [.mem [.sl true tU, .v tI, .v tI], .sl 9 Y1]⟩
noncomputable def c27 : Con := ⟨i27, o27, fun v => spec_l7DrawRight v.1.2.1 v.2.1.1 v.2.1.2.1 v.2.1.2.2.1⟩
noncomputable def l27 : List (Nat × Con) := [(45, c45), (47, c47), (48, c48), (49, c49), (50, c50), (51, c51)]
noncomputable def C27 : Cfg := ⟨T, gam l27, hintOf [(5, [1, 2, 3, 4, 5]), (8, [1, 2, 3, 4, 5]), (10, [1, 2, 3, 4, 5])]⟩
abbrev h27_3 : Shp := ⟨[(0, .c (.ptr 0 0)), (3, .c (.ptr 1 0)), (4, .c (.ptr 2 0)), (5, .c (.ptr 4 0)), (6, .c (.v tI))], [.mem [.sl true tU, .v tI, .v tI], .mem [.sl false tI, .v tI], .mem [.ref 3, .v tI], .sl 9 Y1, .mem [.ref 5, .v tI], .sl 9 Y1]⟩
noncomputable def j27 (n ℓ : Nat) (σ : St) : Option o27.V := if ℓ = 3 then jump 1 h27_3 (fun v => spec_l7DrawRight_L3 n v.1.2.2.2.2.1 v.2.1.1 v.2.1.2.1 v.2.1.2.2.1 v.2.2.1.1 v.2.2.1.2.1 v.2.2.2.1.2.1 v.2.2.2.2.1 v.2.2.2.2.2.1.2.1 v.2.2.2.2.2.2.1) σ else none
theorem q27_3 (n : Nat) (v : h27_3.V) (ω : List Bool) : loopF C27 c27 Try.f27 (j27 n) 3 ω (h27_3.st 60 v) = spec_l7DrawRight_step3 (spec_l7DrawRight_L3 n) v.1.2.2.2.2.1 v.2.1.1 v.2.1.2.1 v.2.1.2.2.1 v.2.2.1.1 v.2.2.1.2.1 v.2.2.2.1.2.1 v.2.2.2.2.1 v.2.2.2.2.2.1.2.1 v.2.2.2.2.2.2.1 := by rcases ω with _ | ⟨_ | _, _ | ⟨_ | _, _⟩⟩ <;> kernel_rfl
theorem e27 (n : Nat) (ω : List Bool) (v : i27.V) : enterF C27 c27 Try.f27 (j27 n) ω v = spec_l7DrawRight_entry (spec_l7DrawRight_L3 n) v.1.2.1 v.2.1.1 v.2.1.2.1 v.2.1.2.2.1 := by kernel_rfl
theorem s27 : SoundC Try.prog 27 c27 := sound_by (l := l27) (J := j27) (L := [3]) tOk mx Try.func27 ⟨s45, s47, s48, s49, s50, s51, trivial⟩ (by kernel_rfl) (by kernel_rfl)
  ⟨⟨h27_3, fun n v => spec_l7DrawRight_L3 n v.1.2.2.2.2.1 v.2.1.1 v.2.1.2.1 v.2.1.2.2.1 v.2.2.1.1 v.2.2.1.2.1 v.2.2.2.1.2.1 v.2.2.2.2.1 v.2.2.2.2.2.1.2.1 v.2.2.2.2.2.2.1, fun _ => rfl, fun _ => rfl, q27_3⟩, trivial⟩ FUEL (e27 FUEL)

/-! spec_l1DrawPlace -/
abbrev i54 : Shp := ⟨[(0, .c (.ptr 0 0))], [.mem [.sl true tU, .v tI, .v tI]]⟩
abbrev o54 : Shp := ⟨[(0, .c (.v tI))], [.mem [.sl true tU, .v tI, .v tI]]⟩
noncomputable def c54 : Con := ⟨i54, o54, fun v => spec_l1DrawPlace v.2.1.1 v.2.1.2.1 v.2.1.2.2.1⟩
noncomputable def l54 : List (Nat × Con) := [(45, c45), (51, c51), (52, c52)]
noncomputable def C54 : Cfg := ⟨T, gam l54, hintOf []⟩
theorem e54 (ω : List Bool) (v : i54.V) : enterF C54 c54 Try.f54 (fun _ _ => none) ω v = spec_l1DrawPlace v.2.1.1 v.2.1.2.1 v.2.1.2.2.1 := by kernel_rfl
theorem s54 : SoundC Try.prog 54 c54 := sound_by0 (l := l54) tOk mx Try.func54 ⟨s45, s51, s52, trivial⟩ (by kernel_rfl) (by kernel_rfl) e54

/-! spec_l7Draw -/
abbrev i33 : Shp := ⟨[(0, .c (.ptr 0 0)), (1, .row Y0)], [.mem [.sl true tU, .v tI, .v tI]]⟩
abbrev o33 : Shp := ⟨[(0, .agg [.ref 1, .v tI])], [.mem [.sl true tU, .v tI, .v tI], .sl 1 Y1]⟩
noncomputable def c33 : Con := ⟨i33, o33, fun v => spec_l7Draw v.1.2.1 v.2.1.1 v.2.1.2.1 v.2.1.2.2.1⟩
noncomputable def l33 : List (Nat × Con) := [(27, c27), (45, c45), (48, c48), (52, c52), (54, c54), (55, c55)]
noncomputable def C33 : Cfg := ⟨T, gam l33, hintOf [(11, [1, 2, 5]), (14, [1, 2, 5]), (17, [1, 2, 3, 4])]⟩
abbrev h33_17 : Shp := ⟨[(0, .c (.ptr 0 0)), (4, .c (.ptr 1 0)), (5, .c (.ptr 3 0)), (7, .c (.sl true tI))], [.mem [.sl true tU, .v tI, .v tI], .mem [.ref 2, .v tI], .sl 9 Y1, .mem [.ref 4, .v tI], .sl 1 Y1]⟩
noncomputable def j33 (n ℓ : Nat) (σ : St) : Option o33.V := if ℓ = 17 then jump 1 h33_17 (fun v => spec_l7Draw_L17 n v.1.2.2.2.1 v.2.1.1 v.2.1.2.1 v.2.1.2.2.1 v.2.2.1.2.1 v.2.2.2.1 v.2.2.2.2.1.2.1 v.2.2.2.2.2.1) σ else none
theorem q33_17 (n : Nat) (v : h33_17.V) (ω : List Bool) : loopF C33 c33 Try.f33 (j33 n) 17 ω (h33_17.st 73 v) = spec_l7Draw_step17 (spec_l7Draw_L17 n) v.1.2.2.2.1 v.2.1.1 v.2.1.2.1 v.2.1.2.2.1 v.2.2.1.2.1 v.2.2.2.1 v.2.2.2.2.1.2.1 v.2.2.2.2.2.1 := by kernel_rfl
theorem e33 (n : Nat) (ω : List Bool) (v : i33.V) : enterF C33 c33 Try.f33 (j33 n) ω v = spec_l7Draw_entry (spec_l7Draw_L17 n) v.1.2.1 v.2.1.1 v.2.1.2.1 v.2.1.2.2.1 := by kernel_rfl
theorem s33 : SoundC Try.prog 33 c33 := sound_by (l := l33) (J := j33) (L := [17]) tOk mx Try.func33 ⟨s27, s45, s48, s52, s54, s55, trivial⟩ (by kernel_rfl) (by kernel_rfl)
  ⟨⟨h33_17, fun n v => spec_l7Draw_L17 n v.1.2.2.2.1 v.2.1.1 v.2.1.2.1 v.2.1.2.2.1 v.2.2.1.2.1 v.2.2.2.1 v.2.2.2.2.1.2.1 v.2.2.2.2.2.1, fun _ => rfl, fun _ => rfl, q33_17⟩, trivial⟩ FUEL (e33 FUEL)

/-! spec_DrawRegOk -/
abbrev i11 : Shp := ⟨[(0, .c (.sl true tU))], []⟩
abbrev o11 : Shp := ⟨[(0, .tup [.inr [.ref 0, .v tI], .inr [.ref 1, .v tI]])], [.sl 9 tI, .sl 1 Y1]⟩
noncomputable def c11 : Con := ⟨i11, o11, fun v => spec_DrawRegOk v.1.1⟩
noncomputable def l11 : List (Nat × Con) := [(25, c25), (32, c32), (33, c33)]
noncomputable def C11 : Cfg := ⟨T, gam l11, hintOf [(3, [4, 5])]⟩
theorem e11 (ω : List Bool) (v : i11.V) : enterF C11 c11 Try.f11 (fun _ _ => none) ω v = spec_DrawRegOk v.1.1 := by kernel_rfl
theorem s11 : SoundC Try.prog 11 c11 := sound_by0 (l := l11) tOk mx Try.func11 ⟨s25, s32, s33, trivial⟩ (by kernel_rfl) (by kernel_rfl) e11

/-! spec_DrawRegPack -/
abbrev i5 : Shp := ⟨[(0, .c (.sl true tU))], []⟩
abbrev o5 : Shp := ⟨[(0, .tup [.inr [.ref 0, .v tI], .inr [.ref 1, .v tI]])], [.sl 9 tI, .sl 1 Y1]⟩
noncomputable def c5 : Con := ⟨i5, o5, fun v => spec_DrawRegPack v.1.1⟩
noncomputable def l5 : List (Nat × Con) := [(11, c11)]
noncomputable def C5 : Cfg := ⟨T, gam l5, hintOf [(2, [2, 3, 4, 5])]⟩
theorem e5 (ω : List Bool) (v : i5.V) : enterF C5 c5 Try.f5 (fun _ _ => none) ω v = spec_DrawRegPack v.1.1 := by kernel_rfl
theorem s5 : SoundC Try.prog 5 c5 := sound_by0 (l := l5) tOk mx Try.func5 ⟨s11, trivial⟩ (by kernel_rfl) (by kernel_rfl) e5

/-! impl_within -/
abbrev i35 : Shp := ⟨[(0, .c (.v tI)), (1, .c (.v tI)), (2, .c (.v tI))], []⟩
abbrev o35 : Shp := ⟨[(0, .c (.v .bool))], []⟩
noncomputable def c35 : Con := ⟨i35, o35, fun v => impl_within v.1.1 v.1.2.1 v.1.2.2.1⟩
noncomputable def l35 : List (Nat × Con) := []
noncomputable def C35 : Cfg := ⟨T, gam l35, hintOf []⟩
theorem e35 (ω : List Bool) (v : i35.V) : enterF C35 c35 Try.f35 (fun _ _ => none) ω v = impl_within v.1.1 v.1.2.1 v.1.2.2.1 := by kernel_rfl
theorem s35 : SoundC Try.prog 35 c35 := sound_by0 (l := l35) tOk mx Try.func35 trivial (by kernel_rfl) (by kernel_rfl) e35

/-! impl_ConfigOk -/
abbrev i37 : Shp := ⟨[(0, .row Y0)], []⟩
abbrev o37 : Shp := ⟨[(0, .c (.v .bool))], []⟩
noncomputable def c37 : Con := ⟨i37, o37, fun v => impl_ConfigOk v.1.1⟩
noncomputable def l37 : List (Nat × Con) := [(35, c35)]
noncomputable def C37 : Cfg := ⟨T, gam l37, hintOf []⟩
abbrev h37_2 : Shp := ⟨[(1, .c (.ptr 0 0)), (6, .c (.sl false tI)), (7, .c (.v tI)), (8, .c (.v tI))], [.mem [.sl false tI, .v tI]]⟩
noncomputable def j37 (n ℓ : Nat) (σ : St) : Option o37.V := if ℓ = 2 then jump 0 h37_2 (fun v => impl_ConfigOk_L2 n v.1.2.1 v.1.2.2.1 v.1.2.2.2.1 v.2.1.1 v.2.1.2.1) σ else none
theorem q37_2 (n : Nat) (v : h37_2.V) (ω : List Bool) : loopF C37 c37 Try.f37 (j37 n) 2 ω (h37_2.st 25 v) = impl_ConfigOk_step2 (impl_ConfigOk_L2 n) v.1.2.1 v.1.2.2.1 v.1.2.2.2.1 v.2.1.1 v.2.1.2.1 := by kernel_rfl
theorem e37 (n : Nat) (ω : List Bool) (v : i37.V) : enterF C37 c37 Try.f37 (j37 n) ω v = impl_ConfigOk_entry (impl_ConfigOk_L2 n) v.1.1 := by kernel_rfl
theorem s37 : SoundC Try.prog 37 c37 := sound_by (l := l37) (J := j37) (L := [2]) tOk mx Try.func37 ⟨s35, trivial⟩ (by kernel_rfl) (by kernel_rfl)
  ⟨⟨h37_2, fun n v => impl_ConfigOk_L2 n v.1.2.1 v.1.2.2.1 v.1.2.2.2.1 v.2.1.1 v.2.1.2.1, fun _ => rfl, fun _ => rfl, q37_2⟩, trivial⟩ FUEL (e37 FUEL)

/-! impl_ascends -/
abbrev i71 : Shp := ⟨[(0, .c (.sl false tI)), (1, .c (.v tI))], []⟩
abbrev o71 : Shp := ⟨[(0, .c (.v .bool))], []⟩
noncomputable def c71 : Con := ⟨i71, o71, fun v => impl_ascends v.1.1 v.1.2.1⟩
noncomputable def l71 : List (Nat × Con) := [(35, c35)]
noncomputable def C71 : Cfg := ⟨T, gam l71, hintOf []⟩
abbrev h71_2 : Shp := ⟨[(0, .c (.sl false tI)), (1, .c (.v tI)), (7, .c (.sl false tI)), (8, .c (.v tI)), (9, .c (.v tI))], []⟩
noncomputable def j71 (n ℓ : Nat) (σ : St) : Option o71.V := if ℓ = 2 then jump 0 h71_2 (fun v => impl_ascends_L2 n v.1.1 v.1.2.1 v.1.2.2.1 v.1.2.2.2.1 v.1.2.2.2.2.1) σ else none
theorem q71_2 (n : Nat) (v : h71_2.V) (ω : List Bool) : loopF C71 c71 Try.f71 (j71 n) 2 ω (h71_2.st 32 v) = impl_ascends_step2 (impl_ascends_L2 n) v.1.1 v.1.2.1 v.1.2.2.1 v.1.2.2.2.1 v.1.2.2.2.2.1 := by kernel_rfl
theorem e71 (n : Nat) (ω : List Bool) (v : i71.V) : enterF C71 c71 Try.f71 (j71 n) ω v = impl_ascends_entry (impl_ascends_L2 n) v.1.1 v.1.2.1 := by kernel_rfl
theorem s71 : SoundC Try.prog 71 c71 := sound_by (l := l71) (J := j71) (L := [2]) tOk mx Try.func71 ⟨s35, trivial⟩ (by kernel_rfl) (by kernel_rfl)
  ⟨⟨h71_2, fun n v => impl_ascends_L2 n v.1.1 v.1.2.1 v.1.2.2.1 v.1.2.2.2.1 v.1.2.2.2.2.1, fun _ => rfl, fun _ => rfl, q71_2⟩, trivial⟩ FUEL (e71 FUEL)

/-! impl_NodesOk -/
abbrev i65 : Shp := ⟨[(0, .row Y0), (1, .c (.sl false tI))], []⟩
abbrev o65 : Shp := ⟨[(0, .c (.v .bool))], []⟩
noncomputable def c65 : Con := ⟨i65, o65, fun v => impl_NodesOk v.1.1 v.1.2.1⟩
noncomputable def l65 : List (Nat × Con) := [(37, c37), (71, c71)]
noncomputable def C65 : Cfg := ⟨T, gam l65, hintOf []⟩
theorem e65 (ω : List Bool) (v : i65.V) : enterF C65 c65 Try.f65 (fun _ _ => none) ω v = impl_NodesOk v.1.1 v.1.2.1 := by kernel_rfl
theorem s65 : SoundC Try.prog 65 c65 := sound_by0 (l := l65) tOk mx Try.func65 ⟨s37, s71, trivial⟩ (by kernel_rfl) (by kernel_rfl) e65

/-! slices_Index_int_int -/
abbrev i73 : Shp := ⟨[(0, .c (.sl false tI)), (1, .c (.v tI))], []⟩
abbrev o73 : Shp := ⟨[(0, .c (.v tI))], []⟩
noncomputable def c73 : Con := ⟨i73, o73, fun v => slices_Index_int_int v.1.1 v.1.2.1⟩
noncomputable def l73 : List (Nat × Con) := []
noncomputable def C73 : Cfg := ⟨T, gam l73, hintOf []⟩
abbrev h73_2 : Shp := ⟨[(0, .c (.sl false tI)), (1, .c (.v tI)), (7, .c (.v tI)), (8, .c (.v tI))], []⟩
noncomputable def j73 (n ℓ : Nat) (σ : St) : Option o73.V := if ℓ = 2 then jump 0 h73_2 (fun v => slices_Index_int_int_L2 n v.1.1 v.1.2.1 v.1.2.2.1 v.1.2.2.2.1) σ else none
theorem q73_2 (n : Nat) (v : h73_2.V) (ω : List Bool) : loopF C73 c73 Try.f73 (j73 n) 2 ω (h73_2.st 19 v) = slices_Index_int_int_step2 (slices_Index_int_int_L2 n) v.1.1 v.1.2.1 v.1.2.2.1 v.1.2.2.2.1 := by kernel_rfl
theorem e73 (n : Nat) (ω : List Bool) (v : i73.V) : enterF C73 c73 Try.f73 (j73 n) ω v = slices_Index_int_int_entry (slices_Index_int_int_L2 n) v.1.1 v.1.2.1 := by kernel_rfl
theorem s73 : SoundC Try.prog 73 c73 := sound_by (l := l73) (J := j73) (L := [2]) tOk mx Try.func73 trivial (by kernel_rfl) (by kernel_rfl)
  ⟨⟨h73_2, fun n v => slices_Index_int_int_L2 n v.1.1 v.1.2.1 v.1.2.2.1 v.1.2.2.2.1, fun _ => rfl, fun _ => rfl, q73_2⟩, trivial⟩ FUEL (e73 FUEL)

/-! slices_Contains_int_int -/
abbrev i72 : Shp := ⟨[(0, .c (.sl false tI)), (1, .c (.v tI))], []⟩
abbrev o72 : Shp := ⟨[(0, .c (.v .bool))], []⟩
noncomputable def c72 : Con := ⟨i72, o72, fun v => slices_Contains_int_int v.1.1 v.1.2.1⟩
noncomputable def l72 : List (Nat × Con) := [(73, c73)]
noncomputable def C72 : Cfg := ⟨T, gam l72, hintOf []⟩
theorem e72 (ω : List Bool) (v : i72.V) : enterF C72 c72 Try.f72 (fun _ _ => none) ω v = slices_Contains_int_int v.1.1 v.1.2.1 := by kernel_rfl
theorem s72 : SoundC Try.prog 72 c72 := sound_by0 (l := l72) tOk mx Try.func72 ⟨s73, trivial⟩ (by kernel_rfl) (by kernel_rfl) e72

/-! impl_SpanOf -/
abbrev i66 : Shp := ⟨[(0, .row Y0), (1, .c (.sl false tI))], []⟩
abbrev o66 : Shp := ⟨[(0, .c (.v tI))], []⟩
noncomputable def c66 : Con := ⟨i66, o66, fun v => impl_SpanOf v.1.1 v.1.2.1⟩
noncomputable def l66 : List (Nat × Con) := [(65, c65), (72, c72)]
noncomputable def C66 : Cfg := ⟨T, gam l66, hintOf []⟩
abbrev h66_5 : Shp := ⟨[(2, .c (.ptr 0 0)), (5, .c (.ref 1)), (13, .c (.sl false tI)), (14, .c (.v tI)), (15, .c (.v tI))], [.mem [.sl false tI, .v tI], .sl 9 tI]⟩
noncomputable def j66 (n ℓ : Nat) (σ : St) : Option o66.V := if ℓ = 5 then jump 0 h66_5 (fun v => impl_SpanOf_L5 n v.1.2.2.1 v.1.2.2.2.1 v.1.2.2.2.2.1 v.2.1.1 v.2.1.2.1 v.2.2.1) σ else none
theorem q66_5 (n : Nat) (v : h66_5.V) (ω : List Bool) : loopF C66 c66 Try.f66 (j66 n) 5 ω (h66_5.st 38 v) = impl_SpanOf_step5 (impl_SpanOf_L5 n) v.1.2.2.1 v.1.2.2.2.1 v.1.2.2.2.2.1 v.2.1.1 v.2.1.2.1 v.2.2.1 := by kernel_rfl
theorem e66 (n : Nat) (ω : List Bool) (v : i66.V) : enterF C66 c66 Try.f66 (j66 n) ω v = impl_SpanOf_entry (impl_SpanOf_L5 n) v.1.1 v.1.2.1 := by kernel_rfl
theorem s66 : SoundC Try.prog 66 c66 := sound_by (l := l66) (J := j66) (L := [5]) tOk mx Try.func66 ⟨s65, s72, trivial⟩ (by kernel_rfl) (by kernel_rfl)
  ⟨⟨h66_5, fun n v => impl_SpanOf_L5 n v.1.2.2.1 v.1.2.2.2.1 v.1.2.2.2.2.1 v.2.1.1 v.2.1.2.1 v.2.2.1, fun _ => rfl, fun _ => rfl, q66_5⟩, trivial⟩ FUEL (e66 FUEL)

/-! impl_Holds -/
abbrev i56 : Shp := ⟨[(0, .row Y0), (1, .c (.sl false tI))], []⟩
abbrev o56 : Shp := ⟨[(0, .c (.v .bool))], []⟩
noncomputable def c56 : Con := ⟨i56, o56, fun v => impl_Holds v.1.1 v.1.2.1⟩
noncomputable def l56 : List (Nat × Con) := [(65, c65), (66, c66)]
noncomputable def C56 : Cfg := ⟨T, gam l56, hintOf [(1, [0])]⟩
theorem e56 (ω : List Bool) (v : i56.V) : enterF C56 c56 Try.f56 (fun _ _ => none) ω v = impl_Holds v.1.1 v.1.2.1 := by kernel_rfl
theorem s56 : SoundC Try.prog 56 c56 := sound_by0 (l := l56) tOk mx Try.func56 ⟨s65, s66, trivial⟩ (by kernel_rfl) (by kernel_rfl) e56

/-! impl_eraOk -/
abbrev i34 : Shp := ⟨[(0, .row Y0), (1, .row Y1)], []⟩
abbrev o34 : Shp := ⟨[(0, .c (.v .bool))], []⟩
noncomputable def c34 : Con := ⟨i34, o34, fun v => impl_eraOk v.1.1 v.1.2.1⟩
noncomputable def l34 : List (Nat × Con) := [(35, c35), (56, c56)]
noncomputable def C34 : Cfg := ⟨T, gam l34, hintOf []⟩
theorem e34 (ω : List Bool) (v : i34.V) : enterF C34 c34 Try.f34 (fun _ _ => none) ω v = impl_eraOk v.1.1 v.1.2.1 := by kernel_rfl
theorem s34 : SoundC Try.prog 34 c34 := sound_by0 (l := l34) tOk mx Try.func34 ⟨s35, s56, trivial⟩ (by kernel_rfl) (by kernel_rfl) e34

/-! impl_isEpoch -/
abbrev i67 : Shp := ⟨[(0, .c (.v tI))], []⟩
abbrev o67 : Shp := ⟨[(0, .c (.v .bool))], []⟩
noncomputable def c67 : Con := ⟨i67, o67, fun v => impl_isEpoch v.1.1⟩
noncomputable def l67 : List (Nat × Con) := [(35, c35)]
noncomputable def C67 : Cfg := ⟨T, gam l67, hintOf []⟩
theorem e67 (ω : List Bool) (v : i67.V) : enterF C67 c67 Try.f67 (fun _ _ => none) ω v = impl_isEpoch v.1.1 := by kernel_rfl
theorem s67 : SoundC Try.prog 67 c67 := sound_by0 (l := l67) tOk mx Try.func67 ⟨s35, trivial⟩ (by kernel_rfl) (by kernel_rfl) e67

/-! impl_isOff -/
abbrev i68 : Shp := ⟨[(0, .c (.v tI))], []⟩
abbrev o68 : Shp := ⟨[(0, .c (.v .bool))], []⟩
noncomputable def c68 : Con := ⟨i68, o68, fun v => impl_isOff v.1.1⟩
noncomputable def l68 : List (Nat × Con) := [(35, c35)]
noncomputable def C68 : Cfg := ⟨T, gam l68, hintOf []⟩
theorem e68 (ω : List Bool) (v : i68.V) : enterF C68 c68 Try.f68 (fun _ _ => none) ω v = impl_isOff v.1.1 := by kernel_rfl
theorem s68 : SoundC Try.prog 68 c68 := sound_by0 (l := l68) tOk mx Try.func68 ⟨s35, trivial⟩ (by kernel_rfl) (by kernel_rfl) e68

/-! impl_PlaceOk -/
abbrev i57 : Shp := ⟨[(0, .c (.v tI))], []⟩
abbrev o57 : Shp := ⟨[(0, .c (.v .bool))], []⟩
noncomputable def c57 : Con := ⟨i57, o57, fun v => impl_PlaceOk v.1.1⟩
noncomputable def l57 : List (Nat × Con) := [(67, c67), (68, c68)]
noncomputable def C57 : Cfg := ⟨T, gam l57, hintOf []⟩
theorem e57 (ω : List Bool) (v : i57.V) : enterF C57 c57 Try.f57 (fun _ _ => none) ω v = impl_PlaceOk v.1.1 := by kernel_rfl
theorem s57 : SoundC Try.prog 57 c57 := sound_by0 (l := l57) tOk mx Try.func57 ⟨s67, s68, trivial⟩ (by kernel_rfl) (by kernel_rfl) e57

/-! impl_EpochOf -/
abbrev i36 : Shp := ⟨[(0, .c (.v tI))], []⟩
abbrev o36 : Shp := ⟨[(0, .c (.v tI))], []⟩
noncomputable def c36 : Con := ⟨i36, o36, fun v => impl_EpochOf v.1.1⟩
noncomputable def l36 : List (Nat × Con) := [(57, c57)]
noncomputable def C36 : Cfg := ⟨T, gam l36, hintOf []⟩
theorem e36 (ω : List Bool) (v : i36.V) : enterF C36 c36 Try.f36 (fun _ _ => none) ω v = impl_EpochOf v.1.1 := by kernel_rfl
theorem s36 : SoundC Try.prog 36 c36 := sound_by0 (l := l36) tOk mx Try.func36 ⟨s57, trivial⟩ (by kernel_rfl) (by kernel_rfl) e36

/-! impl_RegOk -/
abbrev i12 : Shp := ⟨[(0, .row Y0), (1, .row Y2)], []⟩
abbrev o12 : Shp := ⟨[(0, .c (.v .bool))], []⟩
noncomputable def c12 : Con := ⟨i12, o12, fun v => impl_RegOk v.1.1 v.1.2.1⟩
noncomputable def l12 : List (Nat × Con) := [(34, c34), (35, c35), (36, c36), (37, c37)]
noncomputable def C12 : Cfg := ⟨T, gam l12, hintOf [(7, [0, 1])]⟩
abbrev h12_2 : Shp := ⟨[(2, .c (.ptr 0 0)), (3, .c (.ptr 1 0)), (9, .c (.sl false Y1)), (10, .c (.v tI)), (11, .c (.v tI))], [.mem [.sl false tI, .v tI], .mem [.sl false Y1, .v tI]]⟩
noncomputable def j12 (n ℓ : Nat) (σ : St) : Option o12.V := if ℓ = 2 then jump 0 h12_2 (fun v => impl_RegOk_L2 n v.1.2.2.1 v.1.2.2.2.1 v.1.2.2.2.2.1 v.2.1.1 v.2.1.2.1 v.2.2.1.1 v.2.2.1.2.1) σ else none
theorem q12_2 (n : Nat) (v : h12_2.V) (ω : List Bool) : loopF C12 c12 Try.f12 (j12 n) 2 ω (h12_2.st 70 v) = impl_RegOk_step2 (impl_RegOk_L2 n) v.1.2.2.1 v.1.2.2.2.1 v.1.2.2.2.2.1 v.2.1.1 v.2.1.2.1 v.2.2.1.1 v.2.2.1.2.1 := by kernel_rfl
theorem e12 (n : Nat) (ω : List Bool) (v : i12.V) : enterF C12 c12 Try.f12 (j12 n) ω v = impl_RegOk_entry (impl_RegOk_L2 n) v.1.1 v.1.2.1 := by kernel_rfl
theorem s12 : SoundC Try.prog 12 c12 := sound_by (l := l12) (J := j12) (L := [2]) tOk mx Try.func12 ⟨s34, s35, s36, s37, trivial⟩ (by kernel_rfl) (by kernel_rfl)
  ⟨⟨h12_2, fun n v => impl_RegOk_L2 n v.1.2.2.1 v.1.2.2.2.1 v.1.2.2.2.2.1 v.2.1.1 v.2.1.2.1 v.2.2.1.1 v.2.2.1.2.1, fun _ => rfl, fun _ => rfl, q12_2⟩, trivial⟩ FUEL (e12 FUEL)

/-! impl_PutNum -/
abbrev i38 : Shp := ⟨[(0, .c (.v tI))], []⟩
abbrev o38 : Shp := ⟨[(0, .c (.ref 0))], [.sl 9 tU]⟩
noncomputable def c38 : Con := ⟨i38, o38, fun v => impl_PutNum v.1.1⟩
noncomputable def l38 : List (Nat × Con) := []
noncomputable def C38 : Cfg := ⟨T, gam l38, hintOf []⟩
abbrev h38_4 : Shp := ⟨[(0, .c (.v tI)), (3, .c (.ref 0))], [.sl 9 tU]⟩
noncomputable def j38 (n ℓ : Nat) (σ : St) : Option o38.V := if ℓ = 4 then jump 0 h38_4 (fun v => impl_PutNum_L4 n v.1.1 v.2.1) σ else none
theorem q38_4 (n : Nat) (v : h38_4.V) (ω : List Bool) : loopF C38 c38 Try.f38 (j38 n) 4 ω (h38_4.st 23 v) = impl_PutNum_step4 (impl_PutNum_L4 n) v.1.1 v.2.1 := by kernel_rfl
theorem e38 (n : Nat) (ω : List Bool) (v : i38.V) : enterF C38 c38 Try.f38 (j38 n) ω v = impl_PutNum_entry (impl_PutNum_L4 n) v.1.1 := by kernel_rfl
theorem s38 : SoundC Try.prog 38 c38 := sound_by (l := l38) (J := j38) (L := [4]) tOk mx Try.func38 trivial (by kernel_rfl) (by kernel_rfl)
  ⟨⟨h38_4, fun n v => impl_PutNum_L4 n v.1.1 v.2.1, fun _ => rfl, fun _ => rfl, q38_4⟩, trivial⟩ FUEL (e38 FUEL)

/-! impl_putNums -/
abbrev i13 : Shp := ⟨[(0, .c (.sl false tI))], []⟩
abbrev o13 : Shp := ⟨[(0, .c (.ref 0))], [.sl 9 tU]⟩
noncomputable def c13 : Con := ⟨i13, o13, fun v => impl_putNums v.1.1⟩
noncomputable def l13 : List (Nat × Con) := [(38, c38)]
noncomputable def C13 : Cfg := ⟨T, gam l13, hintOf []⟩
abbrev h13_3 : Shp := ⟨[(3, .c (.ref 0)), (7, .c (.sl false tI)), (8, .c (.v tI)), (9, .c (.v tI))], [.sl 9 tU]⟩
noncomputable def j13 (n ℓ : Nat) (σ : St) : Option o13.V := if ℓ = 3 then jump 0 h13_3 (fun v => impl_putNums_L3 n v.1.2.1 v.1.2.2.1 v.1.2.2.2.1 v.2.1) σ else none
theorem q13_3 (n : Nat) (v : h13_3.V) (ω : List Bool) : loopF C13 c13 Try.f13 (j13 n) 3 ω (h13_3.st 19 v) = impl_putNums_step3 (impl_putNums_L3 n) v.1.2.1 v.1.2.2.1 v.1.2.2.2.1 v.2.1 := by kernel_rfl
theorem e13 (n : Nat) (ω : List Bool) (v : i13.V) : enterF C13 c13 Try.f13 (j13 n) ω v = impl_putNums_entry (impl_putNums_L3 n) v.1.1 := by kernel_rfl
theorem s13 : SoundC Try.prog 13 c13 := sound_by (l := l13) (J := j13) (L := [3]) tOk mx Try.func13 ⟨s38, trivial⟩ (by kernel_rfl) (by kernel_rfl)
  ⟨⟨h13_3, fun n v => impl_putNums_L3 n v.1.2.1 v.1.2.2.1 v.1.2.2.2.1 v.2.1, fun _ => rfl, fun _ => rfl, q13_3⟩, trivial⟩ FUEL (e13 FUEL)

/-! impl_putList -/
abbrev i14 : Shp := ⟨[(0, .c (.sl false tI))], []⟩
abbrev o14 : Shp := ⟨[(0, .c (.ref 0))], [.sl 9 tU]⟩
noncomputable def c14 : Con := ⟨i14, o14, fun v => impl_putList v.1.1⟩
noncomputable def l14 : List (Nat × Con) := [(13, c13), (38, c38)]
noncomputable def C14 : Cfg := ⟨T, gam l14, hintOf []⟩
theorem e14 (ω : List Bool) (v : i14.V) : enterF C14 c14 Try.f14 (fun _ _ => none) ω v = impl_putList v.1.1 := by kernel_rfl
theorem s14 : SoundC Try.prog 14 c14 := sound_by0 (l := l14) tOk mx Try.func14 ⟨s13, s38, trivial⟩ (by kernel_rfl) (by kernel_rfl) e14

/-! impl_flagNum -/
abbrev i15 : Shp := ⟨[(0, .c (.v .bool))], []⟩
abbrev o15 : Shp := ⟨[(0, .c (.v tI))], []⟩
noncomputable def c15 : Con := ⟨i15, o15, fun v => impl_flagNum v.1.1⟩
noncomputable def l15 : List (Nat × Con) := []
noncomputable def C15 : Cfg := ⟨T, gam l15, hintOf []⟩
theorem e15 (ω : List Bool) (v : i15.V) : enterF C15 c15 Try.f15 (fun _ _ => none) ω v = impl_flagNum v.1.1 := by kernel_rfl
theorem s15 : SoundC Try.prog 15 c15 := sound_by0 (l := l15) tOk mx Try.func15 trivial (by kernel_rfl) (by kernel_rfl) e15

/-! impl_RegPack -/
abbrev i6 : Shp := ⟨[(0, .row Y0), (1, .row Y2)], []⟩
abbrev o6 : Shp := ⟨[(0, .tup [.inl (.ref 0), .inl (.v .bool)])], [.sl 9 tU]⟩
noncomputable def c6 : Con := ⟨i6, o6, fun v => impl_RegPack v.1.1 v.1.2.1⟩
noncomputable def l6 : List (Nat × Con) := [(12, c12), (13, c13), (14, c14), (15, c15)]
noncomputable def C6 : Cfg := ⟨T, gam l6, hintOf [(8, [1, 2])]⟩
abbrev h6_5 : Shp := ⟨[(6, .c (.ref 0)), (21, .c (.sl false Y1)), (22, .c (.v tI)), (23, .c (.v tI))], [.sl 9 tU]⟩
noncomputable def j6 (n ℓ : Nat) (σ : St) : Option o6.V := if ℓ = 5 then jump 0 h6_5 (fun v => impl_RegPack_L5 n v.1.2.1 v.1.2.2.1 v.1.2.2.2.1 v.2.1) σ else none
theorem q6_5 (n : Nat) (v : h6_5.V) (ω : List Bool) : loopF C6 c6 Try.f6 (j6 n) 5 ω (h6_5.st 43 v) = impl_RegPack_step5 (impl_RegPack_L5 n) v.1.2.1 v.1.2.2.1 v.1.2.2.2.1 v.2.1 := by kernel_rfl
theorem e6 (n : Nat) (ω : List Bool) (v : i6.V) : enterF C6 c6 Try.f6 (j6 n) ω v = impl_RegPack_entry (impl_RegPack_L5 n) v.1.1 v.1.2.1 := by kernel_rfl
theorem s6 : SoundC Try.prog 6 c6 := sound_by (l := l6) (J := j6) (L := [5]) tOk mx Try.func6 ⟨s12, s13, s14, s15, trivial⟩ (by kernel_rfl) (by kernel_rfl)
  ⟨⟨h6_5, fun n v => impl_RegPack_L5 n v.1.2.1 v.1.2.2.1 v.1.2.2.2.1 v.2.1, fun _ => rfl, fun _ => rfl, q6_5⟩, trivial⟩ FUEL (e6 FUEL)

/-! spec_PutNum -/
abbrev i17 : Shp := ⟨[(0, .c (.v tI))], []⟩
abbrev o17 : Shp := ⟨[(0, .c (.ref 0))], [.sl 9 tU]⟩
noncomputable def c17 : Con := ⟨i17, o17, fun v => spec_PutNum v.1.1⟩
noncomputable def l17 : List (Nat × Con) := []
noncomputable def C17 : Cfg := ⟨T, gam l17, hintOf []⟩
abbrev h17_4 : Shp := ⟨[(0, .c (.v tI)), (3, .c (.ref 0))], [.sl 9 tU]⟩
noncomputable def j17 (n ℓ : Nat) (σ : St) : Option o17.V := if ℓ = 4 then jump 0 h17_4 (fun v => spec_PutNum_L4 n v.1.1 v.2.1) σ else none
theorem q17_4 (n : Nat) (v : h17_4.V) (ω : List Bool) : loopF C17 c17 Try.f17 (j17 n) 4 ω (h17_4.st 24 v) = spec_PutNum_step4 (spec_PutNum_L4 n) v.1.1 v.2.1 := by kernel_rfl
theorem e17 (n : Nat) (ω : List Bool) (v : i17.V) : enterF C17 c17 Try.f17 (j17 n) ω v = spec_PutNum_entry (spec_PutNum_L4 n) v.1.1 := by kernel_rfl
theorem s17 : SoundC Try.prog 17 c17 := sound_by (l := l17) (J := j17) (L := [4]) tOk mx Try.func17 trivial (by kernel_rfl) (by kernel_rfl)
  ⟨⟨h17_4, fun n v => spec_PutNum_L4 n v.1.1 v.2.1, fun _ => rfl, fun _ => rfl, q17_4⟩, trivial⟩ FUEL (e17 FUEL)

/-! spec_l17List -/
abbrev i18 : Shp := ⟨[(0, .c (.sl false tI))], []⟩
abbrev o18 : Shp := ⟨[(0, .c (.ref 0))], [.sl 9 tU]⟩
noncomputable def c18 : Con := ⟨i18, o18, fun v => spec_l17List v.1.1⟩
noncomputable def l18 : List (Nat × Con) := [(17, c17)]
noncomputable def C18 : Cfg := ⟨T, gam l18, hintOf []⟩
abbrev h18_3 : Shp := ⟨[(0, .c (.sl false tI)), (3, .c (.ref 0)), (4, .c (.v tI))], [.sl 9 tU]⟩
noncomputable def j18 (n ℓ : Nat) (σ : St) : Option o18.V := if ℓ = 3 then jump 0 h18_3 (fun v => spec_l17List_L3 n v.1.1 v.1.2.2.1 v.2.1) σ else none
theorem q18_3 (n : Nat) (v : h18_3.V) (ω : List Bool) : loopF C18 c18 Try.f18 (j18 n) 3 ω (h18_3.st 22 v) = spec_l17List_step3 (spec_l17List_L3 n) v.1.1 v.1.2.2.1 v.2.1 := by kernel_rfl
theorem e18 (n : Nat) (ω : List Bool) (v : i18.V) : enterF C18 c18 Try.f18 (j18 n) ω v = spec_l17List_entry (spec_l17List_L3 n) v.1.1 := by kernel_rfl
theorem s18 : SoundC Try.prog 18 c18 := sound_by (l := l18) (J := j18) (L := [3]) tOk mx Try.func18 ⟨s17, trivial⟩ (by kernel_rfl) (by kernel_rfl)
  ⟨⟨h18_3, fun n v => spec_l17List_L3 n v.1.1 v.1.2.2.1 v.2.1, fun _ => rfl, fun _ => rfl, q18_3⟩, trivial⟩ FUEL (e18 FUEL)

/-! spec_l3Bit -/
abbrev i19 : Shp := ⟨[(0, .c (.v .bool))], []⟩
abbrev o19 : Shp := ⟨[(0, .c (.v tI))], []⟩
noncomputable def c19 : Con := ⟨i19, o19, fun v => spec_l3Bit v.1.1⟩
noncomputable def l19 : List (Nat × Con) := []
noncomputable def C19 : Cfg := ⟨T, gam l19, hintOf []⟩
theorem e19 (ω : List Bool) (v : i19.V) : enterF C19 c19 Try.f19 (fun _ _ => none) ω v = spec_l3Bit v.1.1 := by kernel_rfl
theorem s19 : SoundC Try.prog 19 c19 := sound_by0 (l := l19) tOk mx Try.func19 trivial (by kernel_rfl) (by kernel_rfl) e19

/-! spec_RegPack -/
abbrev i7 : Shp := ⟨[(0, .row Y0), (1, .row Y2)], []⟩
abbrev o7 : Shp := ⟨[(0, .tup [.inl (.ref 0), .inl (.v .bool)])], [.sl 9 tU]⟩
noncomputable def c7 : Con := ⟨i7, o7, fun v => spec_RegPack v.1.1 v.1.2.1⟩
noncomputable def l7 : List (Nat × Con) := [(16, c16), (17, c17), (18, c18), (19, c19)]
noncomputable def C7 : Cfg := ⟨T, gam l7, hintOf [(3, [0, 1]), (8, [0, 2])]⟩
abbrev h7_5 : Shp := ⟨[(3, .c (.ptr 0 0)), (6, .c (.ref 1)), (7, .c (.v tI))], [.mem [.sl false Y1, .v tI], .sl 9 tU]⟩
noncomputable def j7 (n ℓ : Nat) (σ : St) : Option o7.V := if ℓ = 5 then jump 0 h7_5 (fun v => spec_RegPack_L5 n v.1.2.2.1 v.2.1.1 v.2.1.2.1 v.2.2.1) σ else none
theorem q7_5 (n : Nat) (v : h7_5.V) (ω : List Bool) : loopF C7 c7 Try.f7 (j7 n) 5 ω (h7_5.st 50 v) = spec_RegPack_step5 (spec_RegPack_L5 n) v.1.2.2.1 v.2.1.1 v.2.1.2.1 v.2.2.1 := by kernel_rfl
theorem e7 (n : Nat) (ω : List Bool) (v : i7.V) : enterF C7 c7 Try.f7 (j7 n) ω v = spec_RegPack_entry (spec_RegPack_L5 n) v.1.1 v.1.2.1 := by kernel_rfl
theorem s7 : SoundC Try.prog 7 c7 := sound_by (l := l7) (J := j7) (L := [5]) tOk mx Try.func7 ⟨s16, s17, s18, s19, trivial⟩ (by kernel_rfl) (by kernel_rfl)
  ⟨⟨h7_5, fun n v => spec_RegPack_L5 n v.1.2.2.1 v.2.1.1 v.2.1.2.1 v.2.2.1, fun _ => rfl, fun _ => rfl, q7_5⟩, trivial⟩ FUEL (e7 FUEL)

/-! impl_GetNum -/
abbrev i44 : Shp := ⟨[(0, .c (.sl false tU)), (1, .c (.v tI))], []⟩
abbrev o44 : Shp := ⟨[(0, .tup [.inl (.v tI), .inl (.v tI), .inl (.v .bool)])], []⟩
noncomputable def c44 : Con := ⟨i44, o44, fun v => impl_GetNum v.1.1 v.1.2.1⟩
noncomputable def l44 : List (Nat × Con) := []
noncomputable def C44 : Cfg := ⟨T, gam l44, hintOf []⟩
abbrev h44_5 : Shp := ⟨[(0, .c (.sl false tU)), (1, .c (.v tI)), (7, .c (.v tI)), (8, .c (.v tI))], []⟩
noncomputable def j44 (n ℓ : Nat) (σ : St) : Option o44.V := if ℓ = 5 then jump 0 h44_5 (fun v => impl_GetNum_L5 n v.1.1 v.1.2.1 v.1.2.2.1 v.1.2.2.2.1) σ else none
theorem q44_5 (n : Nat) (v : h44_5.V) (ω : List Bool) : loopF C44 c44 Try.f44 (j44 n) 5 ω (h44_5.st 51 v) = impl_GetNum_step5 (impl_GetNum_L5 n) v.1.1 v.1.2.1 v.1.2.2.1 v.1.2.2.2.1 := by kernel_rfl
theorem e44 (n : Nat) (ω : List Bool) (v : i44.V) : enterF C44 c44 Try.f44 (j44 n) ω v = impl_GetNum_entry (impl_GetNum_L5 n) v.1.1 v.1.2.1 := by kernel_rfl
theorem s44 : SoundC Try.prog 44 c44 := sound_by (l := l44) (J := j44) (L := [5]) tOk mx Try.func44 trivial (by kernel_rfl) (by kernel_rfl)
  ⟨⟨h44_5, fun n v => impl_GetNum_L5 n v.1.1 v.1.2.1 v.1.2.2.1 v.1.2.2.2.1, fun _ => rfl, fun _ => rfl, q44_5⟩, trivial⟩ FUEL (e44 FUEL)

/-! impl_reader_num -/
abbrev i20 : Shp := ⟨[(0, .c (.ptr 0 0))], [.mem [.ref 1, .v tI, .v .bool], .sl 1 tU]⟩
abbrev o20 : Shp := ⟨[(0, .c (.v tI))], [.mem [.ref 1, .v tI, .v .bool], .sl 1 tU]⟩
noncomputable def c20 : Con := ⟨i20, o20, fun v => impl_reader_num v.2.1.2.1 v.2.1.2.2.1 v.2.2.1⟩
noncomputable def l20 : List (Nat × Con) := [(44, c44)]
noncomputable def C20 : Cfg := ⟨T, gam l20, hintOf [(1, [0, 1])]⟩
theorem e20 (ω : List Bool) (v : i20.V) : enterF C20 c20 Try.f20 (fun _ _ => none) ω v = impl_reader_num v.2.1.2.1 v.2.1.2.2.1 v.2.2.1 := by kernel_rfl
theorem s20 : SoundC Try.prog 20 c20 := sound_by0 (l := l20) tOk mx Try.func20 ⟨s44, trivial⟩ (by kernel_rfl) (by kernel_rfl) e20

/-! impl_reader_count -/
abbrev i21 : Shp := ⟨[(0, .c (.ptr 0 0)), (1, .c (.v tI))], [.mem [.ref 1, .v tI, .v .bool], .sl 1 tU]⟩
abbrev o21 : Shp := ⟨[(0, .c (.v tI))], [.mem [.ref 1, .v tI, .v .bool], .sl 1 tU]⟩
noncomputable def c21 : Con := ⟨i21, o21, fun v => impl_reader_count v.1.2.1 v.2.1.2.1 v.2.1.2.2.1 v.2.2.1⟩
noncomputable def l21 : List (Nat × Con) := [(20, c20)]
noncomputable def C21 : Cfg := ⟨T, gam l21, hintOf []⟩
theorem e21 (ω : List Bool) (v : i21.V) : enterF C21 c21 Try.f21 (fun _ _ => none) ω v = impl_reader_count v.1.2.1 v.2.1.2.1 v.2.1.2.2.1 v.2.2.1 := by kernel_rfl
theorem s21 : SoundC Try.prog 21 c21 := sound_by0 (l := l21) tOk mx Try.func21 ⟨s20, trivial⟩ (by kernel_rfl) (by kernel_rfl) e21

/-! impl_reader_list -/
abbrev i22 : Shp := ⟨[(0, .c (.ptr 0 0)), (1, .c (.v tI))], [.mem [.ref 1, .v tI, .v .bool], .sl 1 tU]⟩
abbrev o22 : Shp := ⟨[(0, .c (.ref 2))], [.mem [.ref 1, .v tI, .v .bool], .sl 1 tU, .sl 9 tI]⟩
noncomputable def c22 : Con := ⟨i22, o22, fun v => impl_reader_list v.1.2.1 v.2.1.2.1 v.2.1.2.2.1 v.2.2.1⟩
noncomputable def l22 : List (Nat × Con) := [(20, c20), (21, c21)]
noncomputable def C22 : Cfg := ⟨T, gam l22, hintOf []⟩
abbrev h22_4 : Shp := ⟨[(0, .c (.ptr 0 0)), (5, .c (.ref 2)), (12, .c (.v tI)), (13, .c (.v tI))], [.mem [.ref 1, .v tI, .v .bool], .sl 1 tU, .sl 9 tI]⟩
noncomputable def j22 (n ℓ : Nat) (σ : St) : Option o22.V := if ℓ = 4 then jump 2 h22_4 (fun v => impl_reader_list_L4 n v.1.2.2.1 v.1.2.2.2.1 v.2.1.2.1 v.2.1.2.2.1 v.2.2.1 v.2.2.2.1) σ else none
theorem q22_4 (n : Nat) (v : h22_4.V) (ω : List Bool) : loopF C22 c22 Try.f22 (j22 n) 4 ω (h22_4.st 23 v) = impl_reader_list_step4 (impl_reader_list_L4 n) v.1.2.2.1 v.1.2.2.2.1 v.2.1.2.1 v.2.1.2.2.1 v.2.2.1 v.2.2.2.1 := by kernel_rfl
theorem e22 (n : Nat) (ω : List Bool) (v : i22.V) : enterF C22 c22 Try.f22 (j22 n) ω v = impl_reader_list_entry (impl_reader_list_L4 n) v.1.2.1 v.2.1.2.1 v.2.1.2.2.1 v.2.2.1 := by kernel_rfl
theorem s22 : SoundC Try.prog 22 c22 := sound_by (l := l22) (J := j22) (L := [4]) tOk mx Try.func22 ⟨s20, s21, trivial⟩ (by kernel_rfl) (by kernel_rfl)
  ⟨⟨h22_4, fun n v => impl_reader_list_L4 n v.1.2.2.1 v.1.2.2.2.1 v.2.1.2.1 v.2.1.2.2.1 v.2.2.1 v.2.2.2.1, fun _ => rfl, fun _ => rfl, q22_4⟩, trivial⟩ FUEL (e22 FUEL)

/-! impl_reader_flag -/
abbrev i23 : Shp := ⟨[(0, .c (.ptr 0 0))], [.mem [.ref 1, .v tI, .v .bool], .sl 1 tU]⟩
abbrev o23 : Shp := ⟨[(0, .c (.v .bool))], [.mem [.ref 1, .v tI, .v .bool], .sl 1 tU]⟩
noncomputable def c23 : Con := ⟨i23, o23, fun v => impl_reader_flag v.2.1.2.1 v.2.1.2.2.1 v.2.2.1⟩
noncomputable def l23 : List (Nat × Con) := [(21, c21)]
noncomputable def C23 : Cfg := ⟨T, gam l23, hintOf []⟩
theorem e23 (ω : List Bool) (v : i23.V) : enterF C23 c23 Try.f23 (fun _ _ => none) ω v = impl_reader_flag v.2.1.2.1 v.2.1.2.2.1 v.2.2.1 := by kernel_rfl
theorem s23 : SoundC Try.prog 23 c23 := sound_by0 (l := l23) tOk mx Try.func23 ⟨s21, trivial⟩ (by kernel_rfl) (by kernel_rfl) e23

/-! impl_reader_done -/
abbrev i24 : Shp := ⟨[(0, .c (.ptr 0 0))], [.mem [.ref 1, .v tI, .v .bool], .sl 1 tU]⟩
abbrev o24 : Shp := ⟨[(0, .c (.v .bool))], [.mem [.ref 1, .v tI, .v .bool], .sl 1 tU]⟩
noncomputable def c24 : Con := ⟨i24, o24, fun v => impl_reader_done v.2.1.2.1 v.2.1.2.2.1 v.2.2.1⟩
noncomputable def l24 : List (Nat × Con) := []
noncomputable def C24 : Cfg := ⟨T, gam l24, hintOf [(1, [0, 1])]⟩
theorem e24 (ω : List Bool) (v : i24.V) : enterF C24 c24 Try.f24 (fun _ _ => none) ω v = impl_reader_done v.2.1.2.1 v.2.1.2.2.1 v.2.2.1 := by kernel_rfl
theorem s24 : SoundC Try.prog 24 c24 := sound_by0 (l := l24) tOk mx Try.func24 trivial (by kernel_rfl) (by kernel_rfl) e24

/-! impl_RegRead -/
abbrev i8 : Shp := ⟨[(0, .row Y0), (1, .c (.ref 0))], [.sl 1 tU]⟩
abbrev o8 : Shp := ⟨[(0, .tup [.inr [.ref 1, .v tI], .inl (.v .bool)])], [.sl 1 tU, .sl 9 Y1]⟩
noncomputable def c8 : Con := ⟨i8, o8, fun v => impl_RegRead v.1.1 v.2.1⟩
noncomputable def l8 : List (Nat × Con) := [(12, c12), (20, c20), (21, c21), (22, c22), (23, c23), (24, c24)]
noncomputable def C8 : Cfg := ⟨T, gam l8, hintOf []⟩
abbrev h8_6 : Shp := ⟨[(2, .c (.ptr 1 0)), (4, .c (.ptr 2 0)), (6, .c (.ptr 4 0)), (7, .c (.ptr 5 0)), (8, .c (.v tI)), (9, .c (.v tI))], [.sl 1 tU, .mem [.sl false tI, .v tI], .mem [.ref 3, .v tI], .sl 9 Y1, .mem [.ref 0, .v tI, .v .bool], .mem [.ref 6, .v tI], .sl 9 Y1]⟩
noncomputable def j8 (n ℓ : Nat) (σ : St) : Option o8.V := if ℓ = 6 then jump 1 h8_6 (fun v => impl_RegRead_L6 n v.1.2.2.2.2.1 v.1.2.2.2.2.2.1 v.2.1 v.2.2.1.1 v.2.2.1.2.1 v.2.2.2.1.2.1 v.2.2.2.2.1 v.2.2.2.2.2.1.2.1 v.2.2.2.2.2.1.2.2.1 v.2.2.2.2.2.2.1.2.1 v.2.2.2.2.2.2.2.1) σ else none
theorem q8_6 (n : Nat) (v : h8_6.V) (ω : List Bool) : loopF C8 c8 Try.f8 (j8 n) 6 ω (h8_6.st 59 v) = impl_RegRead_step6 (impl_RegRead_L6 n) v.1.2.2.2.2.1 v.1.2.2.2.2.2.1 v.2.1 v.2.2.1.1 v.2.2.1.2.1 v.2.2.2.1.2.1 v.2.2.2.2.1 v.2.2.2.2.2.1.2.1 v.2.2.2.2.2.1.2.2.1 v.2.2.2.2.2.2.1.2.1 v.2.2.2.2.2.2.2.1 := by kernel_rfl
theorem e8 (n : Nat) (ω : List Bool) (v : i8.V) : enterF C8 c8 Try.f8 (j8 n) ω v = impl_RegRead_entry (impl_RegRead_L6 n) v.1.1 v.2.1 := by kernel_rfl
theorem s8 : SoundC Try.prog 8 c8 := sound_by (l := l8) (J := j8) (L := [6]) tOk mx Try.func8 ⟨s12, s20, s21, s22, s23, s24, trivial⟩ (by kernel_rfl) (by kernel_rfl)
  ⟨⟨h8_6, fun n v => impl_RegRead_L6 n v.1.2.2.2.2.1 v.1.2.2.2.2.2.1 v.2.1 v.2.2.1.1 v.2.2.1.2.1 v.2.2.2.1.2.1 v.2.2.2.2.1 v.2.2.2.2.2.1.2.1 v.2.2.2.2.2.1.2.2.1 v.2.2.2.2.2.2.1.2.1 v.2.2.2.2.2.2.2.1, fun _ => rfl, fun _ => rfl, q8_6⟩, trivial⟩ FUEL (e8 FUEL)

/-! spec_l17Spoil -/
abbrev i28 : Shp := ⟨[(0, .c (.ptr 0 0)), (1, .c (.sl false tU))], [.mem [.sl true tU, .v tI, .v tI]]⟩
abbrev o28 : Shp := ⟨[(0, .c (.ref 1))], [.mem [.sl true tU, .v tI, .v tI], .sl 9 tU]⟩
noncomputable def c28 : Con := ⟨i28, o28, fun v => spec_l17Spoil v.1.2.1 v.2.1.1 v.2.1.2.1 v.2.1.2.2.1⟩
noncomputable def l28 : List (Nat × Con) := [(45, c45), (52, c52)]
noncomputable def C28 : Cfg := ⟨T, gam l28, hintOf []⟩
theorem e28 (ω : List Bool) (v : i28.V) : enterF C28 c28 Try.f28 (fun _ _ => none) ω v = spec_l17Spoil v.1.2.1 v.2.1.1 v.2.1.2.1 v.2.1.2.2.1 := by kernel_rfl
theorem s28 : SoundC Try.prog 28 c28 := sound_by0 (l := l28) tOk mx Try.func28 ⟨s45, s52, trivial⟩ (by kernel_rfl) (by kernel_rfl) e28

/-! spec_DrawRegRead -/
abbrev i9 : Shp := ⟨[(0, .c (.sl true tU))], []⟩
abbrev o9 : Shp := ⟨[(0, .tup [.inr [.ref 0, .v tI], .inl (.ref 1)])], [.sl 9 tI, .sl 9 tU]⟩
noncomputable def c9 : Con := ⟨i9, o9, fun v => spec_DrawRegRead v.1.1⟩
noncomputable def l9 : List (Nat × Con) := [(7, c7), (25, c25), (26, c26), (27, c27), (28, c28)]
noncomputable def C9 : Cfg := ⟨T, gam l9, hintOf [(3, [0, 3, 4]), (4, [3, 4, 6, 7])]⟩
theorem e9 (ω : List Bool) (v : i9.V) : enterF C9 c9 Try.f9 (fun _ _ => none) ω v = spec_DrawRegRead v.1.1 := by kernel_rfl
theorem s9 : SoundC Try.prog 9 c9 := sound_by0 (l := l9) tOk mx Try.func9 ⟨s7, s25, s26, s27, s28, trivial⟩ (by kernel_rfl) (by kernel_rfl) e9

/-! spec_GetNum -/
abbrev i53 : Shp := ⟨[(0, .c (.sl false tU)), (1, .c (.v tI))], []⟩
abbrev o53 : Shp := ⟨[(0, .tup [.inl (.v tI), .inl (.v tI), .inl (.v .bool)])], []⟩
noncomputable def c53 : Con := ⟨i53, o53, fun v => spec_GetNum v.1.1 v.1.2.1⟩
noncomputable def l53 : List (Nat × Con) := []
noncomputable def C53 : Cfg := ⟨T, gam l53, hintOf []⟩
abbrev h53_6 : Shp := ⟨[(0, .c (.sl false tU)), (1, .c (.v tI)), (7, .c (.v tI)), (8, .c (.v tI)), (9, .c (.v tI))], []⟩
noncomputable def j53 (n ℓ : Nat) (σ : St) : Option o53.V := if ℓ = 6 then jump 0 h53_6 (fun v => spec_GetNum_L6 n v.1.1 v.1.2.1 v.1.2.2.1 v.1.2.2.2.1 v.1.2.2.2.2.1) σ else none
theorem q53_6 (n : Nat) (v : h53_6.V) (ω : List Bool) : loopF C53 c53 Try.f53 (j53 n) 6 ω (h53_6.st 59 v) = spec_GetNum_step6 (spec_GetNum_L6 n) v.1.1 v.1.2.1 v.1.2.2.1 v.1.2.2.2.1 v.1.2.2.2.2.1 := by kernel_rfl
theorem e53 (n : Nat) (ω : List Bool) (v : i53.V) : enterF C53 c53 Try.f53 (j53 n) ω v = spec_GetNum_entry (spec_GetNum_L6 n) v.1.1 v.1.2.1 := by kernel_rfl
theorem s53 : SoundC Try.prog 53 c53 := sound_by (l := l53) (J := j53) (L := [6]) tOk mx Try.func53 trivial (by kernel_rfl) (by kernel_rfl)
  ⟨⟨h53_6, fun n v => spec_GetNum_L6 n v.1.1 v.1.2.1 v.1.2.2.1 v.1.2.2.2.1 v.1.2.2.2.2.1, fun _ => rfl, fun _ => rfl, q53_6⟩, trivial⟩ FUEL (e53 FUEL)

/-! spec_l17Num -/
abbrev i29 : Shp := ⟨[(0, .c (.ptr 0 0))], [.mem [.ref 1, .v tI, .v .bool], .sl 1 tU]⟩
abbrev o29 : Shp := ⟨[(0, .c (.v tI))], [.mem [.ref 1, .v tI, .v .bool], .sl 1 tU]⟩
noncomputable def c29 : Con := ⟨i29, o29, fun v => spec_l17Num v.2.1.2.1 v.2.1.2.2.1 v.2.2.1⟩
noncomputable def l29 : List (Nat × Con) := [(53, c53)]
noncomputable def C29 : Cfg := ⟨T, gam l29, hintOf [(1, [0, 1])]⟩
theorem e29 (ω : List Bool) (v : i29.V) : enterF C29 c29 Try.f29 (fun _ _ => none) ω v = spec_l17Num v.2.1.2.1 v.2.1.2.2.1 v.2.2.1 := by kernel_rfl
theorem s29 : SoundC Try.prog 29 c29 := sound_by0 (l := l29) tOk mx Try.func29 ⟨s53, trivial⟩ (by kernel_rfl) (by kernel_rfl) e29

/-! spec_l17Nums -/
abbrev i30 : Shp := ⟨[(0, .c (.ptr 0 0))], [.mem [.ref 1, .v tI, .v .bool], .sl 1 tU]⟩
abbrev o30 : Shp := ⟨[(0, .c (.ref 2))], [.mem [.ref 1, .v tI, .v .bool], .sl 1 tU, .sl 9 tI]⟩
noncomputable def c30 : Con := ⟨i30, o30, fun v => spec_l17Nums v.2.1.2.1 v.2.1.2.2.1 v.2.2.1⟩
noncomputable def l30 : List (Nat × Con) := [(29, c29)]
noncomputable def C30 : Cfg := ⟨T, gam l30, hintOf []⟩
abbrev h30_4 : Shp := ⟨[(0, .c (.ptr 0 0)), (3, .c (.v tI)), (4, .c (.ref 2)), (5, .c (.v tI))], [.mem [.ref 1, .v tI, .v .bool], .sl 1 tU, .sl 9 tI]⟩
noncomputable def j30 (n ℓ : Nat) (σ : St) : Option o30.V := if ℓ = 4 then jump 2 h30_4 (fun v => spec_l17Nums_L4 n v.1.2.1 v.1.2.2.2.1 v.2.1.2.1 v.2.1.2.2.1 v.2.2.1 v.2.2.2.1) σ else none
theorem q30_4 (n : Nat) (v : h30_4.V) (ω : List Bool) : loopF C30 c30 Try.f30 (j30 n) 4 ω (h30_4.st 26 v) = spec_l17Nums_step4 (spec_l17Nums_L4 n) v.1.2.1 v.1.2.2.2.1 v.2.1.2.1 v.2.1.2.2.1 v.2.2.1 v.2.2.2.1 := by kernel_rfl
theorem e30 (n : Nat) (ω : List Bool) (v : i30.V) : enterF C30 c30 Try.f30 (j30 n) ω v = spec_l17Nums_entry (spec_l17Nums_L4 n) v.2.1.2.1 v.2.1.2.2.1 v.2.2.1 := by kernel_rfl
theorem s30 : SoundC Try.prog 30 c30 := sound_by (l := l30) (J := j30) (L := [4]) tOk mx Try.func30 ⟨s29, trivial⟩ (by kernel_rfl) (by kernel_rfl)
  ⟨⟨h30_4, fun n v => spec_l17Nums_L4 n v.1.2.1 v.1.2.2.2.1 v.2.1.2.1 v.2.1.2.2.1 v.2.2.1 v.2.2.2.1, fun _ => rfl, fun _ => rfl, q30_4⟩, trivial⟩ FUEL (e30 FUEL)

/-! spec_l17End -/
abbrev i31 : Shp := ⟨[(0, .c (.ptr 0 0))], [.mem [.ref 1, .v tI, .v .bool], .sl 1 tU]⟩
abbrev o31 : Shp := ⟨[(0, .c (.v .bool))], [.mem [.ref 1, .v tI, .v .bool], .sl 1 tU]⟩
noncomputable def c31 : Con := ⟨i31, o31, fun v => spec_l17End v.2.1.2.1 v.2.1.2.2.1 v.2.2.1⟩
noncomputable def l31 : List (Nat × Con) := []
noncomputable def C31 : Cfg := ⟨T, gam l31, hintOf [(1, [0, 1])]⟩
theorem e31 (ω : List Bool) (v : i31.V) : enterF C31 c31 Try.f31 (fun _ _ => none) ω v = spec_l17End v.2.1.2.1 v.2.1.2.2.1 v.2.2.1 := by kernel_rfl
theorem s31 : SoundC Try.prog 31 c31 := sound_by0 (l := l31) tOk mx Try.func31 trivial (by kernel_rfl) (by kernel_rfl) e31

/-! spec_RegRead -/
abbrev i10 : Shp := ⟨[(0, .row Y0), (1, .c (.ref 0))], [.sl 1 tU]⟩
abbrev o10 : Shp := ⟨[(0, .tup [.inr [.ref 1, .v tI], .inl (.v .bool)])], [.sl 1 tU, .sl 9 Y1]⟩
noncomputable def c10 : Con := ⟨i10, o10, fun v => spec_RegRead v.1.1 v.2.1⟩
noncomputable def l10 : List (Nat × Con) := [(16, c16), (29, c29), (30, c30), (31, c31)]
noncomputable def C10 : Cfg := ⟨T, gam l10, hintOf []⟩
abbrev h10_5 : Shp := ⟨[(2, .c (.ptr 1 0)), (4, .c (.ptr 2 0)), (6, .c (.ptr 4 0)), (7, .c (.ptr 5 0)), (8, .c (.v tI)), (9, .c (.v tI))], [.sl 1 tU, .mem [.sl false tI, .v tI], .mem [.ref 3, .v tI], .sl 9 Y1, .mem [.ref 0, .v tI, .v .bool], .mem [.ref 6, .v tI], .sl 9 Y1]⟩
noncomputable def j10 (n ℓ : Nat) (σ : St) : Option o10.V := if ℓ = 5 then jump 1 h10_5 (fun v => spec_RegRead_L5 n v.1.2.2.2.2.1 v.1.2.2.2.2.2.1 v.2.1 v.2.2.1.1 v.2.2.1.2.1 v.2.2.2.1.2.1 v.2.2.2.2.1 v.2.2.2.2.2.1.2.1 v.2.2.2.2.2.1.2.2.1 v.2.2.2.2.2.2.1.2.1 v.2.2.2.2.2.2.2.1) σ else none
theorem q10_5 (n : Nat) (v : h10_5.V) (ω : List Bool) : loopF C10 c10 Try.f10 (j10 n) 5 ω (h10_5.st 70 v) = spec_RegRead_step5 (spec_RegRead_L5 n) v.1.2.2.2.2.1 v.1.2.2.2.2.2.1 v.2.1 v.2.2.1.1 v.2.2.1.2.1 v.2.2.2.1.2.1 v.2.2.2.2.1 v.2.2.2.2.2.1.2.1 v.2.2.2.2.2.1.2.2.1 v.2.2.2.2.2.2.1.2.1 v.2.2.2.2.2.2.2.1 := by kernel_rfl
theorem e10 (n : Nat) (ω : List Bool) (v : i10.V) : enterF C10 c10 Try.f10 (j10 n) ω v = spec_RegRead_entry (spec_RegRead_L5 n) v.1.1 v.2.1 := by kernel_rfl
theorem s10 : SoundC Try.prog 10 c10 := sound_by (l := l10) (J := j10) (L := [5]) tOk mx Try.func10 ⟨s16, s29, s30, s31, trivial⟩ (by kernel_rfl) (by kernel_rfl)
  ⟨⟨h10_5, fun n v => spec_RegRead_L5 n v.1.2.2.2.2.1 v.1.2.2.2.2.2.1 v.2.1 v.2.2.1.1 v.2.2.1.2.1 v.2.2.2.1.2.1 v.2.2.2.2.1 v.2.2.2.2.2.1.2.1 v.2.2.2.2.2.1.2.2.1 v.2.2.2.2.2.2.1.2.1 v.2.2.2.2.2.2.2.1, fun _ => rfl, fun _ => rfl, q10_5⟩, trivial⟩ FUEL (e10 FUEL)

/-! laws_FnRegBytes -/
abbrev i3 : Shp := ⟨[(0, .c (.sl true tU))], []⟩
abbrev o3 : Shp := ⟨[(0, .c (.v .bool))], []⟩
noncomputable def c3 : Con := ⟨i3, o3, fun v => laws_FnRegBytes v.1.1⟩
noncomputable def l3 : List (Nat × Con) := [(4, c4), (5, c5), (6, c6), (7, c7), (8, c8), (9, c9), (10, c10)]
noncomputable def C3 : Cfg := ⟨T, gam l3, hintOf []⟩
theorem e3 (ω : List Bool) (v : i3.V) : enterF C3 c3 Try.f3 (fun _ _ => none) ω v = laws_FnRegBytes v.1.1 := by kernel_rfl
theorem s3 : SoundC Try.prog 3 c3 := sound_by0 (l := l3) tOk mx Try.func3 ⟨s4, s5, s6, s7, s8, s9, s10, trivial⟩ (by kernel_rfl) (by kernel_rfl) e3
end Go.Proofs.Ytobkjajoopkgkaa.Wk
