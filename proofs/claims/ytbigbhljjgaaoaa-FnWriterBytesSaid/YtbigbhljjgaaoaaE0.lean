/- Each function computes what was printed: by the kernel. -/
import Derived.Test.YtbigbhljjgaaoaaG0
import Derived.Test.YtbigbhljjgaaoaaProg
import Derived.KernelRfl
set_option linter.unusedVariables false
set_option linter.unusedSimpArgs false
namespace Go.Proofs.Ytbigbhljjgaaoaa.Wk
open Go Go.Fw Go.M Go.Proofs
abbrev tI : Ty := .int .i64
abbrev tU : Ty := .int .u8
abbrev Y0 : Ty := (.cons (.sl tI) (.cons tI .unit))
abbrev Y1 : Ty := (.cons .str (.cons (.sl tI) (.cons .bool .unit)))
abbrev Y2 : Ty := (.cons tI (.cons (.sl Y1) .unit))
abbrev Y3 : Ty := (.cons (.sl tU) (.cons tI (.cons .bool .unit)))
abbrev Y4 : Ty := (.cons (.sl tU) (.cons tI (.cons tI .unit)))
def T : Tab := [(3, ⟨1, 8, .int .i64, some tI⟩),
  (4, ⟨1, 1, .bool, some .bool⟩),
  (5, ⟨1, 1, .int .u8, some tU⟩),
  (9, ⟨1, 16, .str, some .str⟩),
  (22, ⟨1, 24, .sl 5, some (.sl tU)⟩),
  (24, ⟨1, 24, .sl 3, some (.sl tI)⟩),
  (26, ⟨2, 32, .st [(0, 24), (1, 3)], some Y0⟩),
  (27, ⟨1, 24, .sl 50, some (.sl Y1)⟩),
  (29, ⟨2, 32, .st [(0, 3), (1, 27)], some Y2⟩),
  (50, ⟨3, 48, .st [(0, 9), (1, 24), (2, 4)], some Y1⟩),
  (54, ⟨1, 8, .ptr 56, none⟩),
  (56, ⟨3, 40, .st [(0, 22), (1, 3), (2, 4)], some Y3⟩),
  (63, ⟨1, 8, .ptr 88, none⟩),
  (68, ⟨1, 8, .ptr 70, none⟩),
  (70, ⟨3, 40, .st [(0, 22), (1, 3), (2, 4)], some Y3⟩),
  (88, ⟨3, 40, .st [(0, 22), (1, 3), (2, 3)], some Y4⟩),
  (94, ⟨1, 24, .sl 9, some (.sl .str)⟩),
  (112, ⟨1, 24, .sl 4, some (.sl .bool)⟩)]
theorem tOk : TabOk Try.prog T := tabOk_of_check (by kernel_rfl)
theorem mx : Try.prog.follows .mixedOrders = true := by kernel_rfl

/-! laws_big -/
abbrev i5 : Shp := ⟨[(0, .c (.sl false tU))], []⟩
abbrev o5 : Shp := ⟨[(0, .c (.v .bool))], []⟩
noncomputable def c5 : Con := ⟨i5, o5, fun v => laws_big v.1.1⟩
noncomputable def l5 : List (Nat × Con) := []
noncomputable def C5 : Cfg := ⟨T, gam l5, hintOf []⟩
theorem e5 (ω : List Bool) (v : i5.V) : enterF C5 c5 Try.f5 (fun _ _ => none) ω v = laws_big v.1.1 := by kernel_rfl
theorem s5 : SoundC Try.prog 5 c5 := sound_by0 (l := l5) tOk mx Try.func5 trivial (by kernel_rfl) (by kernel_rfl) e5

/-! spec_l1New -/
abbrev i34 : Shp := ⟨[(0, .c (.sl true tU))], []⟩
abbrev o34 : Shp := ⟨[(0, .c (.ptr 0 0))], [.mem [.sl true tU, .v tI, .v tI]]⟩
noncomputable def c34 : Con := ⟨i34, o34, fun v => spec_l1New v.1.1⟩
noncomputable def l34 : List (Nat × Con) := []
noncomputable def C34 : Cfg := ⟨T, gam l34, hintOf []⟩
abbrev h34_3 : Shp := ⟨[(0, .c (.sl true tU)), (3, .c (.v tI)), (4, .c (.v tI))], []⟩
noncomputable def j34 (n ℓ : Nat) (σ : St) : Option o34.V := if ℓ = 3 then jump 0 h34_3 (fun v => spec_l1New_L3 n v.1.1 v.1.2.1 v.1.2.2.1) σ else none
theorem q34_3 (n : Nat) (v : h34_3.V) (ω : List Bool) : loopF C34 c34 Try.f34 (j34 n) 3 ω (h34_3.st 32 v) = spec_l1New_step3 (spec_l1New_L3 n) v.1.1 v.1.2.1 v.1.2.2.1 := by kernel_rfl
theorem e34 (n : Nat) (ω : List Bool) (v : i34.V) : enterF C34 c34 Try.f34 (j34 n) ω v = spec_l1New_entry (spec_l1New_L3 n) v.1.1 := by kernel_rfl
theorem s34 : SoundC Try.prog 34 c34 := sound_by (l := l34) (J := j34) (L := [3]) tOk mx Try.func34 trivial (by kernel_rfl) (by kernel_rfl)
  ⟨⟨h34_3, fun n v => spec_l1New_L3 n v.1.1 v.1.2.1 v.1.2.2.1, fun _ => rfl, fun _ => rfl, q34_3⟩, trivial⟩ FUEL (e34 FUEL)

/-! spec_l1Byte -/
abbrev i86 : Shp := ⟨[(0, .c (.ptr 0 0))], [.mem [.sl true tU, .v tI, .v tI]]⟩
abbrev o86 : Shp := ⟨[(0, .c (.v tI))], [.mem [.sl true tU, .v tI, .v tI]]⟩
noncomputable def c86 : Con := ⟨i86, o86, fun v => spec_l1Byte v.2.1.1 v.2.1.2.1 v.2.1.2.2.1⟩
noncomputable def l86 : List (Nat × Con) := []
noncomputable def C86 : Cfg := ⟨T, gam l86, hintOf [(2, [0]), (3, [0]), (4, [0])]⟩
theorem e86 (ω : List Bool) (v : i86.V) : enterF C86 c86 Try.f86 (fun _ _ => none) ω v = spec_l1Byte v.2.1.1 v.2.1.2.1 v.2.1.2.2.1 := by kernel_rfl
theorem s86 : SoundC Try.prog 86 c86 := sound_by0 (l := l86) tOk mx Try.func86 trivial (by kernel_rfl) (by kernel_rfl) e86

/-! spec_l1Below -/
abbrev i62 : Shp := ⟨[(0, .c (.ptr 0 0)), (1, .c (.v tI))], [.mem [.sl true tU, .v tI, .v tI]]⟩
abbrev o62 : Shp := ⟨[(0, .c (.v tI))], [.mem [.sl true tU, .v tI, .v tI]]⟩
noncomputable def c62 : Con := ⟨i62, o62, fun v => spec_l1Below v.1.2.1 v.2.1.1 v.2.1.2.1 v.2.1.2.2.1⟩
noncomputable def l62 : List (Nat × Con) := [(86, c86)]
noncomputable def C62 : Cfg := ⟨T, gam l62, hintOf []⟩
theorem e62 (ω : List Bool) (v : i62.V) : enterF C62 c62 Try.f62 (fun _ _ => none) ω v = spec_l1Below v.1.2.1 v.2.1.1 v.2.1.2.1 v.2.1.2.2.1 := by kernel_rfl
theorem s62 : SoundC Try.prog 62 c62 := sound_by0 (l := l62) tOk mx Try.func62 ⟨s86, trivial⟩ (by kernel_rfl) (by kernel_rfl) e62

/-! spec_l1Once -/
abbrev i63 : Shp := ⟨[(0, .c (.ptr 0 0)), (1, .c (.v tI))], [.mem [.sl true tU, .v tI, .v tI]]⟩
abbrev o63 : Shp := ⟨[(0, .c (.v .bool))], [.mem [.sl true tU, .v tI, .v tI]]⟩
noncomputable def c63 : Con := ⟨i63, o63, fun v => spec_l1Once v.1.2.1 v.2.1.1 v.2.1.2.1 v.2.1.2.2.1⟩
noncomputable def l63 : List (Nat × Con) := [(62, c62)]
noncomputable def C63 : Cfg := ⟨T, gam l63, hintOf []⟩
theorem e63 (ω : List Bool) (v : i63.V) : enterF C63 c63 Try.f63 (fun _ _ => none) ω v = spec_l1Once v.1.2.1 v.2.1.1 v.2.1.2.1 v.2.1.2.2.1 := by kernel_rfl
theorem s63 : SoundC Try.prog 63 c63 := sound_by0 (l := l63) tOk mx Try.func63 ⟨s62, trivial⟩ (by kernel_rfl) (by kernel_rfl) e63

/-! spec_l4DrawRight -/
abbrev i35 : Shp := ⟨[(0, .c (.ptr 0 0))], [.mem [.sl true tU, .v tI, .v tI]]⟩
abbrev o35 : Shp := ⟨[(0, .agg [.ref 1, .v tI])], [.mem [.sl true tU, .v tI, .v tI], .sl 9 tI]⟩
noncomputable def c35 : Con := ⟨i35, o35, fun v => spec_l4DrawRight v.2.1.1 v.2.1.2.1 v.2.1.2.2.1⟩
noncomputable def l35 : List (Nat × Con) := [(62, c62), (63, c63)]
noncomputable def C35 : Cfg := ⟨T, gam l35, hintOf [(6, [1, 2])]⟩
abbrev h35_4 : Shp := ⟨[(0, .c (.ptr 0 0)), (2, .c (.ptr 1 0)), (3, .c (.ptr 3 0)), (4, .c (.v tI)), (5, .c (.v tI))], [.mem [.sl true tU, .v tI, .v tI], .mem [.ref 2, .v tI], .sl 9 tI, .mem [.ref 4, .v tI], .sl 9 tI]⟩
noncomputable def j35 (n ℓ : Nat) (σ : St) : Option o35.V := if ℓ = 4 then jump 1 h35_4 (fun v => spec_l4DrawRight_L4 n v.1.2.2.2.1 v.1.2.2.2.2.1 v.2.1.1 v.2.1.2.1 v.2.1.2.2.1 v.2.2.1.2.1 v.2.2.2.1 v.2.2.2.2.1.2.1 v.2.2.2.2.2.1) σ else none
theorem q35_4 (n : Nat) (v : h35_4.V) (ω : List Bool) : loopF C35 c35 Try.f35 (j35 n) 4 ω (h35_4.st 29 v) = spec_l4DrawRight_step4 (spec_l4DrawRight_L4 n) v.1.2.2.2.1 v.1.2.2.2.2.1 v.2.1.1 v.2.1.2.1 v.2.1.2.2.1 v.2.2.1.2.1 v.2.2.2.1 v.2.2.2.2.1.2.1 v.2.2.2.2.2.1 := by rcases ω with _ | ⟨_ | _, _ | ⟨_ | _, _⟩⟩ <;> kernel_rfl
theorem e35 (n : Nat) (ω : List Bool) (v : i35.V) : enterF C35 c35 Try.f35 (j35 n) ω v = spec_l4DrawRight_entry (spec_l4DrawRight_L4 n) v.2.1.1 v.2.1.2.1 v.2.1.2.2.1 := by kernel_rfl
theorem s35 : SoundC Try.prog 35 c35 := sound_by (l := l35) (J := j35) (L := [4]) tOk mx Try.func35 ⟨s62, s63, trivial⟩ (by kernel_rfl) (by kernel_rfl)
  ⟨⟨h35_4, fun n v => spec_l4DrawRight_L4 n v.1.2.2.2.1 v.1.2.2.2.2.1 v.2.1.1 v.2.1.2.1 v.2.1.2.2.1 v.2.2.1.2.1 v.2.2.2.1 v.2.2.2.2.1.2.1 v.2.2.2.2.2.1, fun _ => rfl, fun _ => rfl, q35_4⟩, trivial⟩ FUEL (e35 FUEL)

/-! spec_l1PickInt -/
abbrev i68 : Shp := ⟨[(0, .c (.ptr 0 0)), (1, .c (.sl false tI))], [.mem [.sl true tU, .v tI, .v tI]]⟩
abbrev o68 : Shp := ⟨[(0, .c (.v tI))], [.mem [.sl true tU, .v tI, .v tI]]⟩
noncomputable def c68 : Con := ⟨i68, o68, fun v => spec_l1PickInt v.1.2.1 v.2.1.1 v.2.1.2.1 v.2.1.2.2.1⟩
noncomputable def l68 : List (Nat × Con) := [(62, c62)]
noncomputable def C68 : Cfg := ⟨T, gam l68, hintOf []⟩
theorem e68 (ω : List Bool) (v : i68.V) : enterF C68 c68 Try.f68 (fun _ _ => none) ω v = spec_l1PickInt v.1.2.1 v.2.1.1 v.2.1.2.1 v.2.1.2.2.1 := by kernel_rfl
theorem s68 : SoundC Try.prog 68 c68 := sound_by0 (l := l68) tOk mx Try.func68 ⟨s62, trivial⟩ (by kernel_rfl) (by kernel_rfl) e68

/-! spec_l4Draw -/
abbrev i50 : Shp := ⟨[(0, .c (.ptr 0 0))], [.mem [.sl true tU, .v tI, .v tI]]⟩
abbrev o50 : Shp := ⟨[(0, .agg [.ref 1, .v tI])], [.mem [.sl true tU, .v tI, .v tI], .sl 9 tI]⟩
noncomputable def c50 : Con := ⟨i50, o50, fun v => spec_l4Draw v.2.1.1 v.2.1.2.1 v.2.1.2.2.1⟩
noncomputable def l50 : List (Nat × Con) := [(35, c35), (62, c62), (68, c68)]
noncomputable def C50 : Cfg := ⟨T, gam l50, hintOf [(6, [1, 4])]⟩
theorem e50 (ω : List Bool) (v : i50.V) : enterF C50 c50 Try.f50 (fun _ _ => none) ω v = spec_l4Draw v.2.1.1 v.2.1.2.1 v.2.1.2.2.1 := by kernel_rfl
theorem s50 : SoundC Try.prog 50 c50 := sound_by0 (l := l50) tOk mx Try.func50 ⟨s35, s62, s68, trivial⟩ (by kernel_rfl) (by kernel_rfl) e50

/-! spec_l1Pick -/
abbrev i65 : Shp := ⟨[(0, .c (.ptr 0 0)), (1, .c (.sl false .str))], [.mem [.sl true tU, .v tI, .v tI]]⟩
abbrev o65 : Shp := ⟨[(0, .c (.v .str))], [.mem [.sl true tU, .v tI, .v tI]]⟩
noncomputable def c65 : Con := ⟨i65, o65, fun v => spec_l1Pick v.1.2.1 v.2.1.1 v.2.1.2.1 v.2.1.2.2.1⟩
noncomputable def l65 : List (Nat × Con) := [(62, c62)]
noncomputable def C65 : Cfg := ⟨T, gam l65, hintOf []⟩
theorem e65 (ω : List Bool) (v : i65.V) : enterF C65 c65 Try.f65 (fun _ _ => none) ω v = spec_l1Pick v.1.2.1 v.2.1.1 v.2.1.2.1 v.2.1.2.2.1 := by kernel_rfl
theorem s65 : SoundC Try.prog 65 c65 := sound_by0 (l := l65) tOk mx Try.func65 ⟨s62, trivial⟩ (by kernel_rfl) (by kernel_rfl) e65

/-! spec_l1In -/
abbrev i58 : Shp := ⟨[(0, .c (.v tI)), (1, .c (.v tI)), (2, .c (.v tI))], []⟩
abbrev o58 : Shp := ⟨[(0, .c (.v .bool))], []⟩
noncomputable def c58 : Con := ⟨i58, o58, fun v => spec_l1In v.1.1 v.1.2.1 v.1.2.2.1⟩
noncomputable def l58 : List (Nat × Con) := []
noncomputable def C58 : Cfg := ⟨T, gam l58, hintOf []⟩
theorem e58 (ω : List Bool) (v : i58.V) : enterF C58 c58 Try.f58 (fun _ _ => none) ω v = spec_l1In v.1.1 v.1.2.1 v.1.2.2.1 := by kernel_rfl
theorem s58 : SoundC Try.prog 58 c58 := sound_by0 (l := l58) tOk mx Try.func58 trivial (by kernel_rfl) (by kernel_rfl) e58

/-! spec_ConfigOk -/
abbrev i57 : Shp := ⟨[(0, .row Y0)], []⟩
abbrev o57 : Shp := ⟨[(0, .c (.v .bool))], []⟩
noncomputable def c57 : Con := ⟨i57, o57, fun v => spec_ConfigOk v.1.1⟩
noncomputable def l57 : List (Nat × Con) := [(58, c58)]
noncomputable def C57 : Cfg := ⟨T, gam l57, hintOf []⟩
abbrev h57_4 : Shp := ⟨[(1, .c (.ptr 0 0)), (3, .c (.v tI))], [.mem [.sl false tI, .v tI]]⟩
noncomputable def j57 (n ℓ : Nat) (σ : St) : Option o57.V := if ℓ = 4 then jump 0 h57_4 (fun v => spec_ConfigOk_L4 n v.1.2.1 v.2.1.1 v.2.1.2.1) σ else none
theorem q57_4 (n : Nat) (v : h57_4.V) (ω : List Bool) : loopF C57 c57 Try.f57 (j57 n) 4 ω (h57_4.st 29 v) = spec_ConfigOk_step4 (spec_ConfigOk_L4 n) v.1.2.1 v.2.1.1 v.2.1.2.1 := by kernel_rfl
theorem e57 (n : Nat) (ω : List Bool) (v : i57.V) : enterF C57 c57 Try.f57 (j57 n) ω v = spec_ConfigOk_entry (spec_ConfigOk_L4 n) v.1.1 := by kernel_rfl
theorem s57 : SoundC Try.prog 57 c57 := sound_by (l := l57) (J := j57) (L := [4]) tOk mx Try.func57 ⟨s58, trivial⟩ (by kernel_rfl) (by kernel_rfl)
  ⟨⟨h57_4, fun n v => spec_ConfigOk_L4 n v.1.2.1 v.2.1.1 v.2.1.2.1, fun _ => rfl, fun _ => rfl, q57_4⟩, trivial⟩ FUEL (e57 FUEL)

/-! spec_l4Asc -/
abbrev i84 : Shp := ⟨[(0, .c (.sl false tI)), (1, .c (.v tI)), (2, .c (.v tI))], []⟩
abbrev o84 : Shp := ⟨[(0, .c (.v .bool))], []⟩
noncomputable def c84 : Con := ⟨i84, o84, fun v => spec_l4Asc v.1.1 v.1.2.1 v.1.2.2.1⟩
noncomputable def l84 : List (Nat × Con) := [(58, c58)]
noncomputable def C84 : Cfg := ⟨T, gam l84, hintOf []⟩
abbrev h84_2 : Shp := ⟨[(0, .c (.sl false tI)), (1, .c (.v tI)), (2, .c (.v tI)), (7, .c (.v tI))], []⟩
noncomputable def j84 (n ℓ : Nat) (σ : St) : Option o84.V := if ℓ = 2 then jump 0 h84_2 (fun v => spec_l4Asc_L2 n v.1.1 v.1.2.1 v.1.2.2.1 v.1.2.2.2.1) σ else none
theorem q84_2 (n : Nat) (v : h84_2.V) (ω : List Bool) : loopF C84 c84 Try.f84 (j84 n) 2 ω (h84_2.st 38 v) = spec_l4Asc_step2 (spec_l4Asc_L2 n) v.1.1 v.1.2.1 v.1.2.2.1 v.1.2.2.2.1 := by kernel_rfl
theorem e84 (n : Nat) (ω : List Bool) (v : i84.V) : enterF C84 c84 Try.f84 (j84 n) ω v = spec_l4Asc_entry (spec_l4Asc_L2 n) v.1.1 v.1.2.1 v.1.2.2.1 := by kernel_rfl
theorem s84 : SoundC Try.prog 84 c84 := sound_by (l := l84) (J := j84) (L := [2]) tOk mx Try.func84 ⟨s58, trivial⟩ (by kernel_rfl) (by kernel_rfl)
  ⟨⟨h84_2, fun n v => spec_l4Asc_L2 n v.1.1 v.1.2.1 v.1.2.2.1 v.1.2.2.2.1, fun _ => rfl, fun _ => rfl, q84_2⟩, trivial⟩ FUEL (e84 FUEL)

/-! spec_NodesOk -/
abbrev i59 : Shp := ⟨[(0, .row Y0), (1, .c (.sl false tI))], []⟩
abbrev o59 : Shp := ⟨[(0, .c (.v .bool))], []⟩
noncomputable def c59 : Con := ⟨i59, o59, fun v => spec_NodesOk v.1.1 v.1.2.1⟩
noncomputable def l59 : List (Nat × Con) := [(57, c57), (84, c84)]
noncomputable def C59 : Cfg := ⟨T, gam l59, hintOf []⟩
theorem e59 (ω : List Bool) (v : i59.V) : enterF C59 c59 Try.f59 (fun _ _ => none) ω v = spec_NodesOk v.1.1 v.1.2.1 := by kernel_rfl
theorem s59 : SoundC Try.prog 59 c59 := sound_by0 (l := l59) tOk mx Try.func59 ⟨s57, s84, trivial⟩ (by kernel_rfl) (by kernel_rfl) e59

/-! spec_l4Span -/
abbrev i71 : Shp := ⟨[(0, .row Y0), (1, .c (.sl false tI))], []⟩
abbrev o71 : Shp := ⟨[(0, .c (.v tI))], []⟩
noncomputable def c71 : Con := ⟨i71, o71, fun v => spec_l4Span v.1.1 v.1.2.1⟩
noncomputable def l71 : List (Nat × Con) := []
noncomputable def C71 : Cfg := ⟨T, gam l71, hintOf [(6, [0, 1])]⟩
abbrev h71_4 : Shp := ⟨[(1, .c (.sl false tI)), (2, .c (.ptr 0 0)), (5, .c (.ref 1)), (6, .c (.v tI)), (7, .c (.v tI))], [.mem [.sl false tI, .v tI], .sl 9 .bool]⟩
noncomputable def j71 (n ℓ : Nat) (σ : St) : Option o71.V := if ℓ = 4 then jump 0 h71_4 (fun v => spec_l4Span_L4 n v.1.1 v.1.2.2.2.1 v.1.2.2.2.2.1 v.2.1.1 v.2.1.2.1 v.2.2.1) σ else none
theorem q71_4 (n : Nat) (v : h71_4.V) (ω : List Bool) : loopF C71 c71 Try.f71 (j71 n) 4 ω (h71_4.st 35 v) = spec_l4Span_step4 (spec_l4Span_L4 n) v.1.1 v.1.2.2.2.1 v.1.2.2.2.2.1 v.2.1.1 v.2.1.2.1 v.2.2.1 := by kernel_rfl
theorem e71 (n : Nat) (ω : List Bool) (v : i71.V) : enterF C71 c71 Try.f71 (j71 n) ω v = spec_l4Span_entry (spec_l4Span_L4 n) v.1.1 v.1.2.1 := by kernel_rfl
theorem s71 : SoundC Try.prog 71 c71 := sound_by (l := l71) (J := j71) (L := [4]) tOk mx Try.func71 trivial (by kernel_rfl) (by kernel_rfl)
  ⟨⟨h71_4, fun n v => spec_l4Span_L4 n v.1.1 v.1.2.2.2.1 v.1.2.2.2.2.1 v.2.1.1 v.2.1.2.1 v.2.2.1, fun _ => rfl, fun _ => rfl, q71_4⟩, trivial⟩ FUEL (e71 FUEL)

/-! spec_Holds -/
abbrev i41 : Shp := ⟨[(0, .row Y0), (1, .c (.sl false tI))], []⟩
abbrev o41 : Shp := ⟨[(0, .c (.v .bool))], []⟩
noncomputable def c41 : Con := ⟨i41, o41, fun v => spec_Holds v.1.1 v.1.2.1⟩
noncomputable def l41 : List (Nat × Con) := [(59, c59), (71, c71)]
noncomputable def C41 : Cfg := ⟨T, gam l41, hintOf [(1, [0])]⟩
theorem e41 (ω : List Bool) (v : i41.V) : enterF C41 c41 Try.f41 (fun _ _ => none) ω v = spec_Holds v.1.1 v.1.2.1 := by kernel_rfl
theorem s41 : SoundC Try.prog 41 c41 := sound_by0 (l := l41) tOk mx Try.func41 ⟨s59, s71, trivial⟩ (by kernel_rfl) (by kernel_rfl) e41

/-! spec_WriterOk -/
abbrev i24 : Shp := ⟨[(0, .row Y0), (1, .row Y2)], []⟩
abbrev o24 : Shp := ⟨[(0, .c (.v .bool))], []⟩
noncomputable def c24 : Con := ⟨i24, o24, fun v => spec_WriterOk v.1.1 v.1.2.1⟩
noncomputable def l24 : List (Nat × Con) := [(41, c41), (57, c57), (58, c58), (59, c59)]
noncomputable def C24 : Cfg := ⟨T, gam l24, hintOf [(8, [0, 1, 2])]⟩
abbrev h24_5 : Shp := ⟨[(2, .c (.ptr 0 0)), (3, .c (.ptr 1 0)), (5, .c (.v tI)), (6, .c (.v tI))], [.mem [.sl false tI, .v tI], .mem [.v tI, .sl false Y1]]⟩
noncomputable def j24 (n ℓ : Nat) (σ : St) : Option o24.V := if ℓ = 5 then jump 0 h24_5 (fun v => spec_WriterOk_L5 n v.1.2.2.1 v.1.2.2.2.1 v.2.1.1 v.2.1.2.1 v.2.2.1.1 v.2.2.1.2.1) σ else none
theorem q24_5 (n : Nat) (v : h24_5.V) (ω : List Bool) : loopF C24 c24 Try.f24 (j24 n) 5 ω (h24_5.st 62 v) = spec_WriterOk_step5 (spec_WriterOk_L5 n) v.1.2.2.1 v.1.2.2.2.1 v.2.1.1 v.2.1.2.1 v.2.2.1.1 v.2.2.1.2.1 := by kernel_rfl
theorem e24 (n : Nat) (ω : List Bool) (v : i24.V) : enterF C24 c24 Try.f24 (j24 n) ω v = spec_WriterOk_entry (spec_WriterOk_L5 n) v.1.1 v.1.2.1 := by kernel_rfl
theorem s24 : SoundC Try.prog 24 c24 := sound_by (l := l24) (J := j24) (L := [5]) tOk mx Try.func24 ⟨s41, s57, s58, s59, trivial⟩ (by kernel_rfl) (by kernel_rfl)
  ⟨⟨h24_5, fun n v => spec_WriterOk_L5 n v.1.2.2.1 v.1.2.2.2.1 v.2.1.1 v.2.1.2.1 v.2.2.1.1 v.2.2.1.2.1, fun _ => rfl, fun _ => rfl, q24_5⟩, trivial⟩ FUEL (e24 FUEL)

/-! spec_l8Copy -/
abbrev i87 : Shp := ⟨[(0, .row Y2)], []⟩
abbrev o87 : Shp := ⟨[(0, .agg [.v tI, .ref 0])], [.sl 9 Y1]⟩
noncomputable def c87 : Con := ⟨i87, o87, fun v => spec_l8Copy v.1.1⟩
noncomputable def l87 : List (Nat × Con) := []
noncomputable def C87 : Cfg := ⟨T, gam l87, hintOf []⟩
abbrev h87_3 : Shp := ⟨[(1, .c (.ptr 0 0)), (2, .c (.ptr 1 0)), (3, .c (.ptr 3 0)), (4, .c (.v tI))], [.mem [.v tI, .sl false Y1], .mem [.v tI, .ref 2], .sl 9 Y1, .mem [.v tI, .ref 4], .sl 9 Y1]⟩
noncomputable def j87 (n ℓ : Nat) (σ : St) : Option o87.V := if ℓ = 3 then jump 0 h87_3 (fun v => spec_l8Copy_L3 n v.1.2.2.2.1 v.2.1.1 v.2.1.2.1 v.2.2.1.1 v.2.2.2.1 v.2.2.2.2.1.1 v.2.2.2.2.2.1) σ else none
theorem q87_3 (n : Nat) (v : h87_3.V) (ω : List Bool) : loopF C87 c87 Try.f87 (j87 n) 3 ω (h87_3.st 33 v) = spec_l8Copy_step3 (spec_l8Copy_L3 n) v.1.2.2.2.1 v.2.1.1 v.2.1.2.1 v.2.2.1.1 v.2.2.2.1 v.2.2.2.2.1.1 v.2.2.2.2.2.1 := by kernel_rfl
theorem e87 (n : Nat) (ω : List Bool) (v : i87.V) : enterF C87 c87 Try.f87 (j87 n) ω v = spec_l8Copy_entry (spec_l8Copy_L3 n) v.1.1 := by kernel_rfl
theorem s87 : SoundC Try.prog 87 c87 := sound_by (l := l87) (J := j87) (L := [3]) tOk mx Try.func87 trivial (by kernel_rfl) (by kernel_rfl)
  ⟨⟨h87_3, fun n v => spec_l8Copy_L3 n v.1.2.2.2.1 v.2.1.1 v.2.1.2.1 v.2.2.1.1 v.2.2.2.1 v.2.2.2.2.1.1 v.2.2.2.2.2.1, fun _ => rfl, fun _ => rfl, q87_3⟩, trivial⟩ FUEL (e87 FUEL)

/-! spec_WriterAdd -/
abbrev i64 : Shp := ⟨[(0, .row Y0), (1, .row Y2), (2, .c (.v .str))], []⟩
abbrev o64 : Shp := ⟨[(0, .tup [.inr [.v tI, .ref 0], .inl (.v tI), .inl (.v .bool)])], [.sl 9 Y1]⟩
noncomputable def c64 : Con := ⟨i64, o64, fun v => spec_WriterAdd v.1.1 v.1.2.1 v.1.2.2.1⟩
noncomputable def l64 : List (Nat × Con) := [(24, c24), (87, c87)]
noncomputable def C64 : Cfg := ⟨T, gam l64, hintOf []⟩
theorem b64 (g24 : (List Int × Int × Unit) → (Int × List (List UInt8 × List Int × Bool × Unit) × Unit) → Option V_spec_WriterOk) (g87 : (Int × List (List UInt8 × List Int × Bool × Unit) × Unit) → Option V_spec_l8Copy) (ω : List Bool) (v : i64.V) : enterF ⟨T, gam [(24, ⟨i24, o24, fun v => g24 v.1.1 v.1.2.1⟩), (87, ⟨i87, o87, fun v => g87 v.1.1⟩)], hintOf []⟩ c64 Try.f64 (fun _ _ => none) ω v = (fun (p0 : List Int × Int × Unit) (p1 : Int × List (List UInt8 × List Int × Bool × Unit) × Unit) (p2 : List UInt8) =>
  (g24 (p0.1, p0.2.1, ()) (p1.1, p1.2.1, ())).bind fun u1 =>
  cond (!u1.1.1)
    (some ((((0, (), ()), 0, false, ()), ()), ([], ())))
  ((g87 (p1.1, p1.2.1, ())).bind fun u2 =>
  if u2.2.1.length + 1 ≤ Go.M.LIM then (
  let x3 : List (List UInt8 × List Int × Bool × Unit) := u2.2.1 ++ [(p2, [], false, ())]
  (g24 (p0.1, p0.2.1, ()) (u2.1.1.1, x3, ())).bind fun u4 =>
  cond (!u4.1.1)
    ((g87 (p1.1, p1.2.1, ())).bind fun u5 =>
    some ((((u5.1.1.1, (), ()), 0, false, ()), ()), (u5.2.1, ())))
  (some ((((u2.1.1.1, (), ()), (x3.length : Int), true, ()), ()), (x3, ())))) else none)) v.1.1 v.1.2.1 v.1.2.2.1 := by rcases ω with _ | ⟨_ | _, _ | ⟨_ | _, _⟩⟩ <;> kernel_rfl
theorem e64 (ω : List Bool) (v : i64.V) : enterF C64 c64 Try.f64 (fun _ _ => none) ω v = spec_WriterAdd v.1.1 v.1.2.1 v.1.2.2.1 := b64 spec_WriterOk spec_l8Copy ω v
theorem s64 : SoundC Try.prog 64 c64 := sound_by0 (l := l64) tOk mx Try.func64 ⟨s24, s87, trivial⟩ (by kernel_rfl) (by kernel_rfl) e64

/-! spec_l1Max -/
abbrev i67 : Shp := ⟨[(0, .c (.v tI)), (1, .c (.v tI))], []⟩
abbrev o67 : Shp := ⟨[(0, .c (.v tI))], []⟩
noncomputable def c67 : Con := ⟨i67, o67, fun v => spec_l1Max v.1.1 v.1.2.1⟩
noncomputable def l67 : List (Nat × Con) := []
noncomputable def C67 : Cfg := ⟨T, gam l67, hintOf []⟩
theorem e67 (ω : List Bool) (v : i67.V) : enterF C67 c67 Try.f67 (fun _ _ => none) ω v = spec_l1Max v.1.1 v.1.2.1 := by kernel_rfl
theorem s67 : SoundC Try.prog 67 c67 := sound_by0 (l := l67) tOk mx Try.func67 trivial (by kernel_rfl) (by kernel_rfl) e67

/-! spec_l4Has -/
abbrev i95 : Shp := ⟨[(0, .c (.sl false tI)), (1, .c (.v tI))], []⟩
abbrev o95 : Shp := ⟨[(0, .c (.v .bool))], []⟩
noncomputable def c95 : Con := ⟨i95, o95, fun v => spec_l4Has v.1.1 v.1.2.1⟩
noncomputable def l95 : List (Nat × Con) := []
noncomputable def C95 : Cfg := ⟨T, gam l95, hintOf []⟩
abbrev h95_2 : Shp := ⟨[(0, .c (.sl false tI)), (1, .c (.v tI)), (5, .c (.v tI))], []⟩
noncomputable def j95 (n ℓ : Nat) (σ : St) : Option o95.V := if ℓ = 2 then jump 0 h95_2 (fun v => spec_l4Has_L2 n v.1.1 v.1.2.1 v.1.2.2.1) σ else none
theorem q95_2 (n : Nat) (v : h95_2.V) (ω : List Bool) : loopF C95 c95 Try.f95 (j95 n) 2 ω (h95_2.st 18 v) = spec_l4Has_step2 (spec_l4Has_L2 n) v.1.1 v.1.2.1 v.1.2.2.1 := by kernel_rfl
theorem e95 (n : Nat) (ω : List Bool) (v : i95.V) : enterF C95 c95 Try.f95 (j95 n) ω v = spec_l4Has_entry (spec_l4Has_L2 n) v.1.1 v.1.2.1 := by kernel_rfl
theorem s95 : SoundC Try.prog 95 c95 := sound_by (l := l95) (J := j95) (L := [2]) tOk mx Try.func95 trivial (by kernel_rfl) (by kernel_rfl)
  ⟨⟨h95_2, fun n v => spec_l4Has_L2 n v.1.1 v.1.2.1 v.1.2.2.1, fun _ => rfl, fun _ => rfl, q95_2⟩, trivial⟩ FUEL (e95 FUEL)

/-! spec_l4Put -/
abbrev i88 : Shp := ⟨[(0, .c (.sl false tI)), (1, .c (.v tI))], []⟩
abbrev o88 : Shp := ⟨[(0, .c (.ref 0))], [.sl 9 tI]⟩
noncomputable def c88 : Con := ⟨i88, o88, fun v => spec_l4Put v.1.1 v.1.2.1⟩
noncomputable def l88 : List (Nat × Con) := [(95, c95)]
noncomputable def C88 : Cfg := ⟨T, gam l88, hintOf []⟩
abbrev h88_4 : Shp := ⟨[(0, .c (.sl false tI)), (1, .c (.v tI)), (5, .c (.ref 0)), (6, .c (.v .bool)), (7, .c (.v tI))], [.sl 9 tI]⟩
noncomputable def j88 (n ℓ : Nat) (σ : St) : Option o88.V := if ℓ = 4 then jump 0 h88_4 (fun v => spec_l4Put_L4 n v.1.1 v.1.2.1 v.1.2.2.2.1 v.1.2.2.2.2.1 v.2.1) σ else none
theorem q88_4 (n : Nat) (v : h88_4.V) (ω : List Bool) : loopF C88 c88 Try.f88 (j88 n) 4 ω (h88_4.st 46 v) = spec_l4Put_step4 (spec_l4Put_L4 n) v.1.1 v.1.2.1 v.1.2.2.2.1 v.1.2.2.2.2.1 v.2.1 := by kernel_rfl
theorem e88 (n : Nat) (ω : List Bool) (v : i88.V) : enterF C88 c88 Try.f88 (j88 n) ω v = spec_l4Put_entry (spec_l4Put_L4 n) v.1.1 v.1.2.1 := by kernel_rfl
theorem s88 : SoundC Try.prog 88 c88 := sound_by (l := l88) (J := j88) (L := [4]) tOk mx Try.func88 ⟨s95, trivial⟩ (by kernel_rfl) (by kernel_rfl)
  ⟨⟨h88_4, fun n v => spec_l4Put_L4 n v.1.1 v.1.2.1 v.1.2.2.2.1 v.1.2.2.2.2.1 v.2.1, fun _ => rfl, fun _ => rfl, q88_4⟩, trivial⟩ FUEL (e88 FUEL)

/-! spec_WriterAck -/
abbrev i66 : Shp := ⟨[(0, .row Y0), (1, .row Y2), (2, .c (.v tI)), (3, .c (.v tI))], []⟩
abbrev o66 : Shp := ⟨[(0, .tup [.inr [.v tI, .ref 0], .inl (.v .bool)])], [.sl 9 Y1]⟩
noncomputable def c66 : Con := ⟨i66, o66, fun v => spec_WriterAck v.1.1 v.1.2.1 v.1.2.2.1 v.1.2.2.2.1⟩
noncomputable def l66 : List (Nat × Con) := [(24, c24), (41, c41), (58, c58), (87, c87), (88, c88)]
noncomputable def C66 : Cfg := ⟨T, gam l66, hintOf [(6, [0, 1, 2, 4]), (7, [0, 1, 2, 4])]⟩
theorem e66 (ω : List Bool) (v : i66.V) : enterF C66 c66 Try.f66 (fun _ _ => none) ω v = spec_WriterAck v.1.1 v.1.2.1 v.1.2.2.1 v.1.2.2.2.1 := by kernel_rfl
theorem s66 : SoundC Try.prog 66 c66 := sound_by0 (l := l66) tOk mx Try.func66 ⟨s24, s41, s58, s87, s88, trivial⟩ (by kernel_rfl) (by kernel_rfl) e66

/-! spec_l8DrawRight -/
abbrev i36 : Shp := ⟨[(0, .c (.ptr 0 0)), (1, .row Y0)], [.mem [.sl true tU, .v tI, .v tI]]⟩
abbrev o36 : Shp := ⟨[(0, .agg [.v tI, .ref 1])], [.mem [.sl true tU, .v tI, .v tI], .sl 9 Y1]⟩
noncomputable def c36 : Con := ⟨i36, o36, fun v => spec_l8DrawRight v.1.2.1 v.2.1.1 v.2.1.2.1 v.2.1.2.2.1⟩
noncomputable def l36 : List (Nat × Con) := [(62, c62), (63, c63), (64, c64), (65, c65), (66, c66), (67, c67)]
noncomputable def C36 : Cfg := ⟨T, gam l36, hintOf [(5, [1, 2, 3, 4, 5]), (7, [1, 2, 3, 4, 5])]⟩
abbrev h36_3 : Shp := ⟨[(0, .c (.ptr 0 0)), (3, .c (.ptr 1 0)), (4, .c (.ptr 2 0)), (5, .c (.ptr 4 0)), (6, .c (.v tI))], [.mem [.sl true tU, .v tI, .v tI], .mem [.sl false tI, .v tI], .mem [.v tI, .ref 3], .sl 9 Y1, .mem [.v tI, .ref 5], .sl 9 Y1]⟩
noncomputable def j36 (n ℓ : Nat) (σ : St) : Option o36.V := if ℓ = 3 then jump 1 h36_3 (fun v => spec_l8DrawRight_L3 n v.1.2.2.2.2.1 v.2.1.1 v.2.1.2.1 v.2.1.2.2.1 v.2.2.1.1 v.2.2.1.2.1 v.2.2.2.1.1 v.2.2.2.2.1 v.2.2.2.2.2.1.1 v.2.2.2.2.2.2.1) σ else none
theorem q36_3 (n : Nat) (v : h36_3.V) (ω : List Bool) : loopF C36 c36 Try.f36 (j36 n) 3 ω (h36_3.st 53 v) = spec_l8DrawRight_step3 (spec_l8DrawRight_L3 n) v.1.2.2.2.2.1 v.2.1.1 v.2.1.2.1 v.2.1.2.2.1 v.2.2.1.1 v.2.2.1.2.1 v.2.2.2.1.1 v.2.2.2.2.1 v.2.2.2.2.2.1.1 v.2.2.2.2.2.2.1 := by rcases ω with _ | ⟨_ | _, _ | ⟨_ | _, _ | ⟨_ | _, _⟩⟩⟩ <;> kernel_rfl
theorem e36 (n : Nat) (ω : List Bool) (v : i36.V) : enterF C36 c36 Try.f36 (j36 n) ω v = spec_l8DrawRight_entry (spec_l8DrawRight_L3 n) v.1.2.1 v.2.1.1 v.2.1.2.1 v.2.1.2.2.1 := by kernel_rfl
theorem s36 : SoundC Try.prog 36 c36 := sound_by (l := l36) (J := j36) (L := [3]) tOk mx Try.func36 ⟨s62, s63, s64, s65, s66, s67, trivial⟩ (by kernel_rfl) (by kernel_rfl)
  ⟨⟨h36_3, fun n v => spec_l8DrawRight_L3 n v.1.2.2.2.2.1 v.2.1.1 v.2.1.2.1 v.2.1.2.2.1 v.2.2.1.1 v.2.2.1.2.1 v.2.2.2.1.1 v.2.2.2.2.1 v.2.2.2.2.2.1.1 v.2.2.2.2.2.2.1, fun _ => rfl, fun _ => rfl, q36_3⟩, trivial⟩ FUEL (e36 FUEL)

/-! spec_l8Draw -/
abbrev i51 : Shp := ⟨[(0, .c (.ptr 0 0)), (1, .row Y0)], [.mem [.sl true tU, .v tI, .v tI]]⟩
abbrev o51 : Shp := ⟨[(0, .agg [.v tI, .ref 1])], [.mem [.sl true tU, .v tI, .v tI], .sl 1 Y1]⟩
noncomputable def c51 : Con := ⟨i51, o51, fun v => spec_l8Draw v.1.2.1 v.2.1.1 v.2.1.2.1 v.2.1.2.2.1⟩
noncomputable def l51 : List (Nat × Con) := [(36, c36), (62, c62), (68, c68)]
noncomputable def C51 : Cfg := ⟨T, gam l51, hintOf [(7, [0, 1, 2, 5]), (9, [1, 2]), (12, [0, 1, 2])]⟩
abbrev h51_11 : Shp := ⟨[(4, .c (.ptr 1 0)), (5, .c (.ptr 3 0))], [.mem [.sl true tU, .v tI, .v tI], .mem [.v tI, .ref 2], .sl 9 Y1, .mem [.v tI, .ref 4], .sl 1 Y1]⟩
noncomputable def j51 (n ℓ : Nat) (σ : St) : Option o51.V := if ℓ = 11 then jump 1 h51_11 (fun v => spec_l8Draw_L11 n v.2.1.1 v.2.1.2.1 v.2.1.2.2.1 v.2.2.1.1 v.2.2.2.1 v.2.2.2.2.1.1 v.2.2.2.2.2.1) σ else none
theorem q51_11 (n : Nat) (v : h51_11.V) (ω : List Bool) : loopF C51 c51 Try.f51 (j51 n) 11 ω (h51_11.st 68 v) = spec_l8Draw_step11 (spec_l8Draw_L11 n) v.2.1.1 v.2.1.2.1 v.2.1.2.2.1 v.2.2.1.1 v.2.2.2.1 v.2.2.2.2.1.1 v.2.2.2.2.2.1 := by rcases ω with _ | ⟨_ | _, _ | ⟨_ | _, _ | ⟨_ | _, _⟩⟩⟩ <;> kernel_rfl
theorem e51 (n : Nat) (ω : List Bool) (v : i51.V) : enterF C51 c51 Try.f51 (j51 n) ω v = spec_l8Draw_entry (spec_l8Draw_L11 n) v.1.2.1 v.2.1.1 v.2.1.2.1 v.2.1.2.2.1 := by rcases ω with _ | ⟨_ | _, _ | ⟨_ | _, _ | ⟨_ | _, _ | ⟨_ | _, _⟩⟩⟩⟩ <;> kernel_rfl
theorem s51 : SoundC Try.prog 51 c51 := sound_by (l := l51) (J := j51) (L := [11]) tOk mx Try.func51 ⟨s36, s62, s68, trivial⟩ (by kernel_rfl) (by kernel_rfl)
  ⟨⟨h51_11, fun n v => spec_l8Draw_L11 n v.2.1.1 v.2.1.2.1 v.2.1.2.2.1 v.2.2.1.1 v.2.2.2.1 v.2.2.2.2.1.1 v.2.2.2.2.2.1, fun _ => rfl, fun _ => rfl, q51_11⟩, trivial⟩ FUEL (e51 FUEL)

/-! spec_DrawWriterOk -/
abbrev i19 : Shp := ⟨[(0, .c (.sl true tU))], []⟩
abbrev o19 : Shp := ⟨[(0, .tup [.inr [.ref 0, .v tI], .inr [.v tI, .ref 1]])], [.sl 9 tI, .sl 1 Y1]⟩
noncomputable def c19 : Con := ⟨i19, o19, fun v => spec_DrawWriterOk v.1.1⟩
noncomputable def l19 : List (Nat × Con) := [(34, c34), (50, c50), (51, c51)]
noncomputable def C19 : Cfg := ⟨T, gam l19, hintOf [(3, [4, 5])]⟩
theorem e19 (ω : List Bool) (v : i19.V) : enterF C19 c19 Try.f19 (fun _ _ => none) ω v = spec_DrawWriterOk v.1.1 := by kernel_rfl
theorem s19 : SoundC Try.prog 19 c19 := sound_by0 (l := l19) tOk mx Try.func19 ⟨s34, s50, s51, trivial⟩ (by kernel_rfl) (by kernel_rfl) e19

/-! spec_DrawWriterPack -/
abbrev i6 : Shp := ⟨[(0, .c (.sl true tU))], []⟩
abbrev o6 : Shp := ⟨[(0, .tup [.inr [.ref 0, .v tI], .inr [.v tI, .ref 1]])], [.sl 9 tI, .sl 1 Y1]⟩
noncomputable def c6 : Con := ⟨i6, o6, fun v => spec_DrawWriterPack v.1.1⟩
noncomputable def l6 : List (Nat × Con) := [(19, c19)]
noncomputable def C6 : Cfg := ⟨T, gam l6, hintOf [(2, [2, 3, 4, 5])]⟩
theorem e6 (ω : List Bool) (v : i6.V) : enterF C6 c6 Try.f6 (fun _ _ => none) ω v = spec_DrawWriterPack v.1.1 := by kernel_rfl
theorem s6 : SoundC Try.prog 6 c6 := sound_by0 (l := l6) tOk mx Try.func6 ⟨s19, trivial⟩ (by kernel_rfl) (by kernel_rfl) e6

/-! impl_dataOk -/
abbrev i52 : Shp := ⟨[(0, .c (.v .str))], []⟩
abbrev o52 : Shp := ⟨[(0, .c (.v .bool))], []⟩
noncomputable def c52 : Con := ⟨i52, o52, fun v => impl_dataOk v.1.1⟩
noncomputable def l52 : List (Nat × Con) := []
noncomputable def C52 : Cfg := ⟨T, gam l52, hintOf []⟩
theorem e52 (ω : List Bool) (v : i52.V) : enterF C52 c52 Try.f52 (fun _ _ => none) ω v = impl_dataOk v.1.1 := by kernel_rfl
theorem s52 : SoundC Try.prog 52 c52 := sound_by0 (l := l52) tOk mx Try.func52 trivial (by kernel_rfl) (by kernel_rfl) e52

/-! impl_within -/
abbrev i74 : Shp := ⟨[(0, .c (.v tI)), (1, .c (.v tI)), (2, .c (.v tI))], []⟩
abbrev o74 : Shp := ⟨[(0, .c (.v .bool))], []⟩
noncomputable def c74 : Con := ⟨i74, o74, fun v => impl_within v.1.1 v.1.2.1 v.1.2.2.1⟩
noncomputable def l74 : List (Nat × Con) := []
noncomputable def C74 : Cfg := ⟨T, gam l74, hintOf []⟩
theorem e74 (ω : List Bool) (v : i74.V) : enterF C74 c74 Try.f74 (fun _ _ => none) ω v = impl_within v.1.1 v.1.2.1 v.1.2.2.1 := by kernel_rfl
theorem s74 : SoundC Try.prog 74 c74 := sound_by0 (l := l74) tOk mx Try.func74 trivial (by kernel_rfl) (by kernel_rfl) e74

/-! impl_ConfigOk -/
abbrev i54 : Shp := ⟨[(0, .row Y0)], []⟩
abbrev o54 : Shp := ⟨[(0, .c (.v .bool))], []⟩
noncomputable def c54 : Con := ⟨i54, o54, fun v => impl_ConfigOk v.1.1⟩
noncomputable def l54 : List (Nat × Con) := [(74, c74)]
noncomputable def C54 : Cfg := ⟨T, gam l54, hintOf []⟩
abbrev h54_2 : Shp := ⟨[(1, .c (.ptr 0 0)), (6, .c (.sl false tI)), (7, .c (.v tI)), (8, .c (.v tI))], [.mem [.sl false tI, .v tI]]⟩
noncomputable def j54 (n ℓ : Nat) (σ : St) : Option o54.V := if ℓ = 2 then jump 0 h54_2 (fun v => impl_ConfigOk_L2 n v.1.2.1 v.1.2.2.1 v.1.2.2.2.1 v.2.1.1 v.2.1.2.1) σ else none
theorem q54_2 (n : Nat) (v : h54_2.V) (ω : List Bool) : loopF C54 c54 Try.f54 (j54 n) 2 ω (h54_2.st 25 v) = impl_ConfigOk_step2 (impl_ConfigOk_L2 n) v.1.2.1 v.1.2.2.1 v.1.2.2.2.1 v.2.1.1 v.2.1.2.1 := by kernel_rfl
theorem e54 (n : Nat) (ω : List Bool) (v : i54.V) : enterF C54 c54 Try.f54 (j54 n) ω v = impl_ConfigOk_entry (impl_ConfigOk_L2 n) v.1.1 := by kernel_rfl
theorem s54 : SoundC Try.prog 54 c54 := sound_by (l := l54) (J := j54) (L := [2]) tOk mx Try.func54 ⟨s74, trivial⟩ (by kernel_rfl) (by kernel_rfl)
  ⟨⟨h54_2, fun n v => impl_ConfigOk_L2 n v.1.2.1 v.1.2.2.1 v.1.2.2.2.1 v.2.1.1 v.2.1.2.1, fun _ => rfl, fun _ => rfl, q54_2⟩, trivial⟩ FUEL (e54 FUEL)

/-! impl_ascends -/
abbrev i83 : Shp := ⟨[(0, .c (.sl false tI)), (1, .c (.v tI))], []⟩
abbrev o83 : Shp := ⟨[(0, .c (.v .bool))], []⟩
noncomputable def c83 : Con := ⟨i83, o83, fun v => impl_ascends v.1.1 v.1.2.1⟩
noncomputable def l83 : List (Nat × Con) := [(74, c74)]
noncomputable def C83 : Cfg := ⟨T, gam l83, hintOf []⟩
abbrev h83_2 : Shp := ⟨[(0, .c (.sl false tI)), (1, .c (.v tI)), (7, .c (.sl false tI)), (8, .c (.v tI)), (9, .c (.v tI))], []⟩
noncomputable def j83 (n ℓ : Nat) (σ : St) : Option o83.V := if ℓ = 2 then jump 0 h83_2 (fun v => impl_ascends_L2 n v.1.1 v.1.2.1 v.1.2.2.1 v.1.2.2.2.1 v.1.2.2.2.2.1) σ else none
theorem q83_2 (n : Nat) (v : h83_2.V) (ω : List Bool) : loopF C83 c83 Try.f83 (j83 n) 2 ω (h83_2.st 32 v) = impl_ascends_step2 (impl_ascends_L2 n) v.1.1 v.1.2.1 v.1.2.2.1 v.1.2.2.2.1 v.1.2.2.2.2.1 := by kernel_rfl
theorem e83 (n : Nat) (ω : List Bool) (v : i83.V) : enterF C83 c83 Try.f83 (j83 n) ω v = impl_ascends_entry (impl_ascends_L2 n) v.1.1 v.1.2.1 := by kernel_rfl
theorem s83 : SoundC Try.prog 83 c83 := sound_by (l := l83) (J := j83) (L := [2]) tOk mx Try.func83 ⟨s74, trivial⟩ (by kernel_rfl) (by kernel_rfl)
  ⟨⟨h83_2, fun n v => impl_ascends_L2 n v.1.1 v.1.2.1 v.1.2.2.1 v.1.2.2.2.1 v.1.2.2.2.2.1, fun _ => rfl, fun _ => rfl, q83_2⟩, trivial⟩ FUEL (e83 FUEL)

/-! impl_NodesOk -/
abbrev i53 : Shp := ⟨[(0, .row Y0), (1, .c (.sl false tI))], []⟩
abbrev o53 : Shp := ⟨[(0, .c (.v .bool))], []⟩
noncomputable def c53 : Con := ⟨i53, o53, fun v => impl_NodesOk v.1.1 v.1.2.1⟩
noncomputable def l53 : List (Nat × Con) := [(54, c54), (83, c83)]
noncomputable def C53 : Cfg := ⟨T, gam l53, hintOf []⟩
theorem e53 (ω : List Bool) (v : i53.V) : enterF C53 c53 Try.f53 (fun _ _ => none) ω v = impl_NodesOk v.1.1 v.1.2.1 := by kernel_rfl
theorem s53 : SoundC Try.prog 53 c53 := sound_by0 (l := l53) tOk mx Try.func53 ⟨s54, s83, trivial⟩ (by kernel_rfl) (by kernel_rfl) e53

/-! slices_Index_int_int -/
abbrev i94 : Shp := ⟨[(0, .c (.sl false tI)), (1, .c (.v tI))], []⟩
abbrev o94 : Shp := ⟨[(0, .c (.v tI))], []⟩
noncomputable def c94 : Con := ⟨i94, o94, fun v => slices_Index_int_int v.1.1 v.1.2.1⟩
noncomputable def l94 : List (Nat × Con) := []
noncomputable def C94 : Cfg := ⟨T, gam l94, hintOf []⟩
abbrev h94_2 : Shp := ⟨[(0, .c (.sl false tI)), (1, .c (.v tI)), (7, .c (.v tI)), (8, .c (.v tI))], []⟩
noncomputable def j94 (n ℓ : Nat) (σ : St) : Option o94.V := if ℓ = 2 then jump 0 h94_2 (fun v => slices_Index_int_int_L2 n v.1.1 v.1.2.1 v.1.2.2.1 v.1.2.2.2.1) σ else none
theorem q94_2 (n : Nat) (v : h94_2.V) (ω : List Bool) : loopF C94 c94 Try.f94 (j94 n) 2 ω (h94_2.st 19 v) = slices_Index_int_int_step2 (slices_Index_int_int_L2 n) v.1.1 v.1.2.1 v.1.2.2.1 v.1.2.2.2.1 := by kernel_rfl
theorem e94 (n : Nat) (ω : List Bool) (v : i94.V) : enterF C94 c94 Try.f94 (j94 n) ω v = slices_Index_int_int_entry (slices_Index_int_int_L2 n) v.1.1 v.1.2.1 := by kernel_rfl
theorem s94 : SoundC Try.prog 94 c94 := sound_by (l := l94) (J := j94) (L := [2]) tOk mx Try.func94 trivial (by kernel_rfl) (by kernel_rfl)
  ⟨⟨h94_2, fun n v => slices_Index_int_int_L2 n v.1.1 v.1.2.1 v.1.2.2.1 v.1.2.2.2.1, fun _ => rfl, fun _ => rfl, q94_2⟩, trivial⟩ FUEL (e94 FUEL)

/-! slices_Contains_int_int -/
abbrev i85 : Shp := ⟨[(0, .c (.sl false tI)), (1, .c (.v tI))], []⟩
abbrev o85 : Shp := ⟨[(0, .c (.v .bool))], []⟩
noncomputable def c85 : Con := ⟨i85, o85, fun v => slices_Contains_int_int v.1.1 v.1.2.1⟩
noncomputable def l85 : List (Nat × Con) := [(94, c94)]
noncomputable def C85 : Cfg := ⟨T, gam l85, hintOf []⟩
theorem e85 (ω : List Bool) (v : i85.V) : enterF C85 c85 Try.f85 (fun _ _ => none) ω v = slices_Contains_int_int v.1.1 v.1.2.1 := by kernel_rfl
theorem s85 : SoundC Try.prog 85 c85 := sound_by0 (l := l85) tOk mx Try.func85 ⟨s94, trivial⟩ (by kernel_rfl) (by kernel_rfl) e85

/-! impl_SpanOf -/
abbrev i61 : Shp := ⟨[(0, .row Y0), (1, .c (.sl false tI))], []⟩
abbrev o61 : Shp := ⟨[(0, .c (.v tI))], []⟩
noncomputable def c61 : Con := ⟨i61, o61, fun v => impl_SpanOf v.1.1 v.1.2.1⟩
noncomputable def l61 : List (Nat × Con) := [(53, c53), (85, c85)]
noncomputable def C61 : Cfg := ⟨T, gam l61, hintOf []⟩
abbrev h61_5 : Shp := ⟨[(2, .c (.ptr 0 0)), (5, .c (.ref 1)), (13, .c (.sl false tI)), (14, .c (.v tI)), (15, .c (.v tI))], [.mem [.sl false tI, .v tI], .sl 9 tI]⟩
noncomputable def j61 (n ℓ : Nat) (σ : St) : Option o61.V := if ℓ = 5 then jump 0 h61_5 (fun v => impl_SpanOf_L5 n v.1.2.2.1 v.1.2.2.2.1 v.1.2.2.2.2.1 v.2.1.1 v.2.1.2.1 v.2.2.1) σ else none
theorem q61_5 (n : Nat) (v : h61_5.V) (ω : List Bool) : loopF C61 c61 Try.f61 (j61 n) 5 ω (h61_5.st 38 v) = impl_SpanOf_step5 (impl_SpanOf_L5 n) v.1.2.2.1 v.1.2.2.2.1 v.1.2.2.2.2.1 v.2.1.1 v.2.1.2.1 v.2.2.1 := by kernel_rfl
theorem e61 (n : Nat) (ω : List Bool) (v : i61.V) : enterF C61 c61 Try.f61 (j61 n) ω v = impl_SpanOf_entry (impl_SpanOf_L5 n) v.1.1 v.1.2.1 := by kernel_rfl
theorem s61 : SoundC Try.prog 61 c61 := sound_by (l := l61) (J := j61) (L := [5]) tOk mx Try.func61 ⟨s53, s85, trivial⟩ (by kernel_rfl) (by kernel_rfl)
  ⟨⟨h61_5, fun n v => impl_SpanOf_L5 n v.1.2.2.1 v.1.2.2.2.1 v.1.2.2.2.2.1 v.2.1.1 v.2.1.2.1 v.2.2.1, fun _ => rfl, fun _ => rfl, q61_5⟩, trivial⟩ FUEL (e61 FUEL)

/-! impl_Holds -/
abbrev i32 : Shp := ⟨[(0, .row Y0), (1, .c (.sl false tI))], []⟩
abbrev o32 : Shp := ⟨[(0, .c (.v .bool))], []⟩
noncomputable def c32 : Con := ⟨i32, o32, fun v => impl_Holds v.1.1 v.1.2.1⟩
noncomputable def l32 : List (Nat × Con) := [(53, c53), (61, c61)]
noncomputable def C32 : Cfg := ⟨T, gam l32, hintOf [(1, [0])]⟩
theorem e32 (ω : List Bool) (v : i32.V) : enterF C32 c32 Try.f32 (fun _ _ => none) ω v = impl_Holds v.1.1 v.1.2.1 := by kernel_rfl
theorem s32 : SoundC Try.prog 32 c32 := sound_by0 (l := l32) tOk mx Try.func32 ⟨s53, s61, trivial⟩ (by kernel_rfl) (by kernel_rfl) e32

/-! impl_flagNum -/
abbrev i45 : Shp := ⟨[(0, .c (.v .bool))], []⟩
abbrev o45 : Shp := ⟨[(0, .c (.v tI))], []⟩
noncomputable def c45 : Con := ⟨i45, o45, fun v => impl_flagNum v.1.1⟩
noncomputable def l45 : List (Nat × Con) := []
noncomputable def C45 : Cfg := ⟨T, gam l45, hintOf []⟩
theorem e45 (ω : List Bool) (v : i45.V) : enterF C45 c45 Try.f45 (fun _ _ => none) ω v = impl_flagNum v.1.1 := by kernel_rfl
theorem s45 : SoundC Try.prog 45 c45 := sound_by0 (l := l45) tOk mx Try.func45 trivial (by kernel_rfl) (by kernel_rfl) e45

/-! impl_isEpoch -/
abbrev i55 : Shp := ⟨[(0, .c (.v tI))], []⟩
abbrev o55 : Shp := ⟨[(0, .c (.v .bool))], []⟩
noncomputable def c55 : Con := ⟨i55, o55, fun v => impl_isEpoch v.1.1⟩
noncomputable def l55 : List (Nat × Con) := [(74, c74)]
noncomputable def C55 : Cfg := ⟨T, gam l55, hintOf []⟩
theorem e55 (ω : List Bool) (v : i55.V) : enterF C55 c55 Try.f55 (fun _ _ => none) ω v = impl_isEpoch v.1.1 := by kernel_rfl
theorem s55 : SoundC Try.prog 55 c55 := sound_by0 (l := l55) tOk mx Try.func55 ⟨s74, trivial⟩ (by kernel_rfl) (by kernel_rfl) e55

/-! impl_WriterOk -/
abbrev i20 : Shp := ⟨[(0, .row Y0), (1, .row Y2)], []⟩
abbrev o20 : Shp := ⟨[(0, .c (.v .bool))], []⟩
noncomputable def c20 : Con := ⟨i20, o20, fun v => impl_WriterOk v.1.1 v.1.2.1⟩
noncomputable def l20 : List (Nat × Con) := [(32, c32), (45, c45), (52, c52), (53, c53), (54, c54), (55, c55)]
noncomputable def C20 : Cfg := ⟨T, gam l20, hintOf [(5, [0, 1, 2])]⟩
abbrev h20_3 : Shp := ⟨[(2, .c (.ptr 0 0)), (3, .c (.ptr 1 0)), (5, .c (.v tI)), (9, .c (.sl false Y1)), (10, .c (.v tI)), (11, .c (.v tI))], [.mem [.sl false tI, .v tI], .mem [.v tI, .sl false Y1]]⟩
noncomputable def j20 (n ℓ : Nat) (σ : St) : Option o20.V := if ℓ = 3 then jump 0 h20_3 (fun v => impl_WriterOk_L3 n v.1.2.2.1 v.1.2.2.2.1 v.1.2.2.2.2.1 v.1.2.2.2.2.2.1 v.2.1.1 v.2.1.2.1 v.2.2.1.1 v.2.2.1.2.1) σ else none
theorem q20_3 (n : Nat) (v : h20_3.V) (ω : List Bool) : loopF C20 c20 Try.f20 (j20 n) 3 ω (h20_3.st 59 v) = impl_WriterOk_step3 (impl_WriterOk_L3 n) v.1.2.2.1 v.1.2.2.2.1 v.1.2.2.2.2.1 v.1.2.2.2.2.2.1 v.2.1.1 v.2.1.2.1 v.2.2.1.1 v.2.2.1.2.1 := by kernel_rfl
theorem e20 (n : Nat) (ω : List Bool) (v : i20.V) : enterF C20 c20 Try.f20 (j20 n) ω v = impl_WriterOk_entry (impl_WriterOk_L3 n) v.1.1 v.1.2.1 := by kernel_rfl
theorem s20 : SoundC Try.prog 20 c20 := sound_by (l := l20) (J := j20) (L := [3]) tOk mx Try.func20 ⟨s32, s45, s52, s53, s54, s55, trivial⟩ (by kernel_rfl) (by kernel_rfl)
  ⟨⟨h20_3, fun n v => impl_WriterOk_L3 n v.1.2.2.1 v.1.2.2.2.1 v.1.2.2.2.2.1 v.1.2.2.2.2.2.1 v.2.1.1 v.2.1.2.1 v.2.2.1.1 v.2.2.1.2.1, fun _ => rfl, fun _ => rfl, q20_3⟩, trivial⟩ FUEL (e20 FUEL)

/-! impl_PutNum -/
abbrev i56 : Shp := ⟨[(0, .c (.v tI))], []⟩
abbrev o56 : Shp := ⟨[(0, .c (.ref 0))], [.sl 9 tU]⟩
noncomputable def c56 : Con := ⟨i56, o56, fun v => impl_PutNum v.1.1⟩
noncomputable def l56 : List (Nat × Con) := []
noncomputable def C56 : Cfg := ⟨T, gam l56, hintOf []⟩
abbrev h56_4 : Shp := ⟨[(0, .c (.v tI)), (3, .c (.ref 0))], [.sl 9 tU]⟩
noncomputable def j56 (n ℓ : Nat) (σ : St) : Option o56.V := if ℓ = 4 then jump 0 h56_4 (fun v => impl_PutNum_L4 n v.1.1 v.2.1) σ else none
theorem q56_4 (n : Nat) (v : h56_4.V) (ω : List Bool) : loopF C56 c56 Try.f56 (j56 n) 4 ω (h56_4.st 23 v) = impl_PutNum_step4 (impl_PutNum_L4 n) v.1.1 v.2.1 := by kernel_rfl
theorem e56 (n : Nat) (ω : List Bool) (v : i56.V) : enterF C56 c56 Try.f56 (j56 n) ω v = impl_PutNum_entry (impl_PutNum_L4 n) v.1.1 := by kernel_rfl
theorem s56 : SoundC Try.prog 56 c56 := sound_by (l := l56) (J := j56) (L := [4]) tOk mx Try.func56 trivial (by kernel_rfl) (by kernel_rfl)
  ⟨⟨h56_4, fun n v => impl_PutNum_L4 n v.1.1 v.2.1, fun _ => rfl, fun _ => rfl, q56_4⟩, trivial⟩ FUEL (e56 FUEL)

/-! impl_putNums -/
abbrev i21 : Shp := ⟨[(0, .c (.sl false tI))], []⟩
abbrev o21 : Shp := ⟨[(0, .c (.ref 0))], [.sl 9 tU]⟩
noncomputable def c21 : Con := ⟨i21, o21, fun v => impl_putNums v.1.1⟩
noncomputable def l21 : List (Nat × Con) := [(56, c56)]
noncomputable def C21 : Cfg := ⟨T, gam l21, hintOf []⟩
abbrev h21_3 : Shp := ⟨[(3, .c (.ref 0)), (7, .c (.sl false tI)), (8, .c (.v tI)), (9, .c (.v tI))], [.sl 9 tU]⟩
noncomputable def j21 (n ℓ : Nat) (σ : St) : Option o21.V := if ℓ = 3 then jump 0 h21_3 (fun v => impl_putNums_L3 n v.1.2.1 v.1.2.2.1 v.1.2.2.2.1 v.2.1) σ else none
theorem q21_3 (n : Nat) (v : h21_3.V) (ω : List Bool) : loopF C21 c21 Try.f21 (j21 n) 3 ω (h21_3.st 19 v) = impl_putNums_step3 (impl_putNums_L3 n) v.1.2.1 v.1.2.2.1 v.1.2.2.2.1 v.2.1 := by kernel_rfl
theorem e21 (n : Nat) (ω : List Bool) (v : i21.V) : enterF C21 c21 Try.f21 (j21 n) ω v = impl_putNums_entry (impl_putNums_L3 n) v.1.1 := by kernel_rfl
theorem s21 : SoundC Try.prog 21 c21 := sound_by (l := l21) (J := j21) (L := [3]) tOk mx Try.func21 ⟨s56, trivial⟩ (by kernel_rfl) (by kernel_rfl)
  ⟨⟨h21_3, fun n v => impl_putNums_L3 n v.1.2.1 v.1.2.2.1 v.1.2.2.2.1 v.2.1, fun _ => rfl, fun _ => rfl, q21_3⟩, trivial⟩ FUEL (e21 FUEL)

/-! impl_PutText -/
abbrev i22 : Shp := ⟨[(0, .c (.v .str))], []⟩
abbrev o22 : Shp := ⟨[(0, .c (.ref 0))], [.sl 9 tU]⟩
noncomputable def c22 : Con := ⟨i22, o22, fun v => impl_PutText v.1.1⟩
noncomputable def l22 : List (Nat × Con) := [(56, c56)]
noncomputable def C22 : Cfg := ⟨T, gam l22, hintOf []⟩
theorem e22 (ω : List Bool) (v : i22.V) : enterF C22 c22 Try.f22 (fun _ _ => none) ω v = impl_PutText v.1.1 := by kernel_rfl
theorem s22 : SoundC Try.prog 22 c22 := sound_by0 (l := l22) tOk mx Try.func22 ⟨s56, trivial⟩ (by kernel_rfl) (by kernel_rfl) e22

/-! impl_putList -/
abbrev i23 : Shp := ⟨[(0, .c (.sl false tI))], []⟩
abbrev o23 : Shp := ⟨[(0, .c (.ref 0))], [.sl 9 tU]⟩
noncomputable def c23 : Con := ⟨i23, o23, fun v => impl_putList v.1.1⟩
noncomputable def l23 : List (Nat × Con) := [(21, c21), (56, c56)]
noncomputable def C23 : Cfg := ⟨T, gam l23, hintOf []⟩
theorem e23 (ω : List Bool) (v : i23.V) : enterF C23 c23 Try.f23 (fun _ _ => none) ω v = impl_putList v.1.1 := by kernel_rfl
theorem s23 : SoundC Try.prog 23 c23 := sound_by0 (l := l23) tOk mx Try.func23 ⟨s21, s56, trivial⟩ (by kernel_rfl) (by kernel_rfl) e23

/-! impl_WriterPack -/
abbrev i7 : Shp := ⟨[(0, .row Y0), (1, .row Y2)], []⟩
abbrev o7 : Shp := ⟨[(0, .tup [.inl (.ref 0), .inl (.v .bool)])], [.sl 9 tU]⟩
noncomputable def c7 : Con := ⟨i7, o7, fun v => impl_WriterPack v.1.1 v.1.2.1⟩
noncomputable def l7 : List (Nat × Con) := [(20, c20), (21, c21), (22, c22), (23, c23)]
noncomputable def C7 : Cfg := ⟨T, gam l7, hintOf []⟩
abbrev h7_5 : Shp := ⟨[(6, .c (.ref 0)), (21, .c (.sl false Y1)), (22, .c (.v tI)), (23, .c (.v tI))], [.sl 9 tU]⟩
noncomputable def j7 (n ℓ : Nat) (σ : St) : Option o7.V := if ℓ = 5 then jump 0 h7_5 (fun v => impl_WriterPack_L5 n v.1.2.1 v.1.2.2.1 v.1.2.2.2.1 v.2.1) σ else none
theorem q7_5 (n : Nat) (v : h7_5.V) (ω : List Bool) : loopF C7 c7 Try.f7 (j7 n) 5 ω (h7_5.st 39 v) = impl_WriterPack_step5 (impl_WriterPack_L5 n) v.1.2.1 v.1.2.2.1 v.1.2.2.2.1 v.2.1 := by kernel_rfl
theorem e7 (n : Nat) (ω : List Bool) (v : i7.V) : enterF C7 c7 Try.f7 (j7 n) ω v = impl_WriterPack_entry (impl_WriterPack_L5 n) v.1.1 v.1.2.1 := by kernel_rfl
theorem s7 : SoundC Try.prog 7 c7 := sound_by (l := l7) (J := j7) (L := [5]) tOk mx Try.func7 ⟨s20, s21, s22, s23, trivial⟩ (by kernel_rfl) (by kernel_rfl)
  ⟨⟨h7_5, fun n v => impl_WriterPack_L5 n v.1.2.1 v.1.2.2.1 v.1.2.2.2.1 v.2.1, fun _ => rfl, fun _ => rfl, q7_5⟩, trivial⟩ FUEL (e7 FUEL)

/-! spec_PutNum -/
abbrev i25 : Shp := ⟨[(0, .c (.v tI))], []⟩
abbrev o25 : Shp := ⟨[(0, .c (.ref 0))], [.sl 9 tU]⟩
noncomputable def c25 : Con := ⟨i25, o25, fun v => spec_PutNum v.1.1⟩
noncomputable def l25 : List (Nat × Con) := []
noncomputable def C25 : Cfg := ⟨T, gam l25, hintOf []⟩
abbrev h25_4 : Shp := ⟨[(0, .c (.v tI)), (3, .c (.ref 0))], [.sl 9 tU]⟩
noncomputable def j25 (n ℓ : Nat) (σ : St) : Option o25.V := if ℓ = 4 then jump 0 h25_4 (fun v => spec_PutNum_L4 n v.1.1 v.2.1) σ else none
theorem q25_4 (n : Nat) (v : h25_4.V) (ω : List Bool) : loopF C25 c25 Try.f25 (j25 n) 4 ω (h25_4.st 24 v) = spec_PutNum_step4 (spec_PutNum_L4 n) v.1.1 v.2.1 := by kernel_rfl
theorem e25 (n : Nat) (ω : List Bool) (v : i25.V) : enterF C25 c25 Try.f25 (j25 n) ω v = spec_PutNum_entry (spec_PutNum_L4 n) v.1.1 := by kernel_rfl
theorem s25 : SoundC Try.prog 25 c25 := sound_by (l := l25) (J := j25) (L := [4]) tOk mx Try.func25 trivial (by kernel_rfl) (by kernel_rfl)
  ⟨⟨h25_4, fun n v => spec_PutNum_L4 n v.1.1 v.2.1, fun _ => rfl, fun _ => rfl, q25_4⟩, trivial⟩ FUEL (e25 FUEL)

/-! spec_PutText -/
abbrev i26 : Shp := ⟨[(0, .c (.v .str))], []⟩
abbrev o26 : Shp := ⟨[(0, .c (.ref 0))], [.sl 9 tU]⟩
noncomputable def c26 : Con := ⟨i26, o26, fun v => spec_PutText v.1.1⟩
noncomputable def l26 : List (Nat × Con) := [(25, c25)]
noncomputable def C26 : Cfg := ⟨T, gam l26, hintOf []⟩
theorem e26 (ω : List Bool) (v : i26.V) : enterF C26 c26 Try.f26 (fun _ _ => none) ω v = spec_PutText v.1.1 := by kernel_rfl
theorem s26 : SoundC Try.prog 26 c26 := sound_by0 (l := l26) tOk mx Try.func26 ⟨s25, trivial⟩ (by kernel_rfl) (by kernel_rfl) e26

/-! spec_l17List -/
abbrev i27 : Shp := ⟨[(0, .c (.sl false tI))], []⟩
abbrev o27 : Shp := ⟨[(0, .c (.ref 0))], [.sl 9 tU]⟩
noncomputable def c27 : Con := ⟨i27, o27, fun v => spec_l17List v.1.1⟩
noncomputable def l27 : List (Nat × Con) := [(25, c25)]
noncomputable def C27 : Cfg := ⟨T, gam l27, hintOf []⟩
abbrev h27_3 : Shp := ⟨[(0, .c (.sl false tI)), (3, .c (.ref 0)), (4, .c (.v tI))], [.sl 9 tU]⟩
noncomputable def j27 (n ℓ : Nat) (σ : St) : Option o27.V := if ℓ = 3 then jump 0 h27_3 (fun v => spec_l17List_L3 n v.1.1 v.1.2.2.1 v.2.1) σ else none
theorem q27_3 (n : Nat) (v : h27_3.V) (ω : List Bool) : loopF C27 c27 Try.f27 (j27 n) 3 ω (h27_3.st 22 v) = spec_l17List_step3 (spec_l17List_L3 n) v.1.1 v.1.2.2.1 v.2.1 := by kernel_rfl
theorem e27 (n : Nat) (ω : List Bool) (v : i27.V) : enterF C27 c27 Try.f27 (j27 n) ω v = spec_l17List_entry (spec_l17List_L3 n) v.1.1 := by kernel_rfl
theorem s27 : SoundC Try.prog 27 c27 := sound_by (l := l27) (J := j27) (L := [3]) tOk mx Try.func27 ⟨s25, trivial⟩ (by kernel_rfl) (by kernel_rfl)
  ⟨⟨h27_3, fun n v => spec_l17List_L3 n v.1.1 v.1.2.2.1 v.2.1, fun _ => rfl, fun _ => rfl, q27_3⟩, trivial⟩ FUEL (e27 FUEL)

/-! spec_WriterPack -/
abbrev i8 : Shp := ⟨[(0, .row Y0), (1, .row Y2)], []⟩
abbrev o8 : Shp := ⟨[(0, .tup [.inl (.ref 0), .inl (.v .bool)])], [.sl 9 tU]⟩
noncomputable def c8 : Con := ⟨i8, o8, fun v => spec_WriterPack v.1.1 v.1.2.1⟩
noncomputable def l8 : List (Nat × Con) := [(24, c24), (25, c25), (26, c26), (27, c27)]
noncomputable def C8 : Cfg := ⟨T, gam l8, hintOf [(3, [0, 1]), (7, [0])]⟩
abbrev h8_5 : Shp := ⟨[(3, .c (.ptr 0 0)), (6, .c (.ref 1)), (7, .c (.v tI))], [.mem [.v tI, .sl false Y1], .sl 9 tU]⟩
noncomputable def j8 (n ℓ : Nat) (σ : St) : Option o8.V := if ℓ = 5 then jump 0 h8_5 (fun v => spec_WriterPack_L5 n v.1.2.2.1 v.2.1.1 v.2.1.2.1 v.2.2.1) σ else none
theorem q8_5 (n : Nat) (v : h8_5.V) (ω : List Bool) : loopF C8 c8 Try.f8 (j8 n) 5 ω (h8_5.st 46 v) = spec_WriterPack_step5 (spec_WriterPack_L5 n) v.1.2.2.1 v.2.1.1 v.2.1.2.1 v.2.2.1 := by kernel_rfl
theorem e8 (n : Nat) (ω : List Bool) (v : i8.V) : enterF C8 c8 Try.f8 (j8 n) ω v = spec_WriterPack_entry (spec_WriterPack_L5 n) v.1.1 v.1.2.1 := by kernel_rfl
theorem s8 : SoundC Try.prog 8 c8 := sound_by (l := l8) (J := j8) (L := [5]) tOk mx Try.func8 ⟨s24, s25, s26, s27, trivial⟩ (by kernel_rfl) (by kernel_rfl)
  ⟨⟨h8_5, fun n v => spec_WriterPack_L5 n v.1.2.2.1 v.2.1.1 v.2.1.2.1 v.2.2.1, fun _ => rfl, fun _ => rfl, q8_5⟩, trivial⟩ FUEL (e8 FUEL)

/-! impl_GetNum -/
abbrev i60 : Shp := ⟨[(0, .c (.sl false tU)), (1, .c (.v tI))], []⟩
abbrev o60 : Shp := ⟨[(0, .tup [.inl (.v tI), .inl (.v tI), .inl (.v .bool)])], []⟩
noncomputable def c60 : Con := ⟨i60, o60, fun v => impl_GetNum v.1.1 v.1.2.1⟩
noncomputable def l60 : List (Nat × Con) := []
noncomputable def C60 : Cfg := ⟨T, gam l60, hintOf []⟩
abbrev h60_5 : Shp := ⟨[(0, .c (.sl false tU)), (1, .c (.v tI)), (7, .c (.v tI)), (8, .c (.v tI))], []⟩
noncomputable def j60 (n ℓ : Nat) (σ : St) : Option o60.V := if ℓ = 5 then jump 0 h60_5 (fun v => impl_GetNum_L5 n v.1.1 v.1.2.1 v.1.2.2.1 v.1.2.2.2.1) σ else none
theorem q60_5 (n : Nat) (v : h60_5.V) (ω : List Bool) : loopF C60 c60 Try.f60 (j60 n) 5 ω (h60_5.st 51 v) = impl_GetNum_step5 (impl_GetNum_L5 n) v.1.1 v.1.2.1 v.1.2.2.1 v.1.2.2.2.1 := by kernel_rfl
theorem e60 (n : Nat) (ω : List Bool) (v : i60.V) : enterF C60 c60 Try.f60 (j60 n) ω v = impl_GetNum_entry (impl_GetNum_L5 n) v.1.1 v.1.2.1 := by kernel_rfl
theorem s60 : SoundC Try.prog 60 c60 := sound_by (l := l60) (J := j60) (L := [5]) tOk mx Try.func60 trivial (by kernel_rfl) (by kernel_rfl)
  ⟨⟨h60_5, fun n v => impl_GetNum_L5 n v.1.1 v.1.2.1 v.1.2.2.1 v.1.2.2.2.1, fun _ => rfl, fun _ => rfl, q60_5⟩, trivial⟩ FUEL (e60 FUEL)

/-! impl_reader_num -/
abbrev i28 : Shp := ⟨[(0, .c (.ptr 0 0))], [.mem [.ref 1, .v tI, .v .bool], .sl 1 tU]⟩
abbrev o28 : Shp := ⟨[(0, .c (.v tI))], [.mem [.ref 1, .v tI, .v .bool], .sl 1 tU]⟩
noncomputable def c28 : Con := ⟨i28, o28, fun v => impl_reader_num v.2.1.2.1 v.2.1.2.2.1 v.2.2.1⟩
noncomputable def l28 : List (Nat × Con) := [(60, c60)]
noncomputable def C28 : Cfg := ⟨T, gam l28, hintOf [(1, [0, 1])]⟩
theorem e28 (ω : List Bool) (v : i28.V) : enterF C28 c28 Try.f28 (fun _ _ => none) ω v = impl_reader_num v.2.1.2.1 v.2.1.2.2.1 v.2.2.1 := by kernel_rfl
theorem s28 : SoundC Try.prog 28 c28 := sound_by0 (l := l28) tOk mx Try.func28 ⟨s60, trivial⟩ (by kernel_rfl) (by kernel_rfl) e28

/-! impl_reader_count -/
abbrev i29 : Shp := ⟨[(0, .c (.ptr 0 0)), (1, .c (.v tI))], [.mem [.ref 1, .v tI, .v .bool], .sl 1 tU]⟩
abbrev o29 : Shp := ⟨[(0, .c (.v tI))], [.mem [.ref 1, .v tI, .v .bool], .sl 1 tU]⟩
noncomputable def c29 : Con := ⟨i29, o29, fun v => impl_reader_count v.1.2.1 v.2.1.2.1 v.2.1.2.2.1 v.2.2.1⟩
noncomputable def l29 : List (Nat × Con) := [(28, c28)]
noncomputable def C29 : Cfg := ⟨T, gam l29, hintOf []⟩
theorem e29 (ω : List Bool) (v : i29.V) : enterF C29 c29 Try.f29 (fun _ _ => none) ω v = impl_reader_count v.1.2.1 v.2.1.2.1 v.2.1.2.2.1 v.2.2.1 := by kernel_rfl
theorem s29 : SoundC Try.prog 29 c29 := sound_by0 (l := l29) tOk mx Try.func29 ⟨s28, trivial⟩ (by kernel_rfl) (by kernel_rfl) e29

/-! impl_reader_text -/
abbrev i30 : Shp := ⟨[(0, .c (.ptr 0 0))], [.mem [.ref 1, .v tI, .v .bool], .sl 1 tU]⟩
abbrev o30 : Shp := ⟨[(0, .c (.v .str))], [.mem [.ref 1, .v tI, .v .bool], .sl 1 tU]⟩
noncomputable def c30 : Con := ⟨i30, o30, fun v => impl_reader_text v.2.1.2.1 v.2.1.2.2.1 v.2.2.1⟩
noncomputable def l30 : List (Nat × Con) := [(28, c28)]
noncomputable def C30 : Cfg := ⟨T, gam l30, hintOf [(2, [0, 1, 3]), (6, [0, 1, 3])]⟩
theorem e30 (ω : List Bool) (v : i30.V) : enterF C30 c30 Try.f30 (fun _ _ => none) ω v = impl_reader_text v.2.1.2.1 v.2.1.2.2.1 v.2.2.1 := by kernel_rfl
theorem s30 : SoundC Try.prog 30 c30 := sound_by0 (l := l30) tOk mx Try.func30 ⟨s28, trivial⟩ (by kernel_rfl) (by kernel_rfl) e30

/-! impl_reader_list -/
abbrev i31 : Shp := ⟨[(0, .c (.ptr 0 0)), (1, .c (.v tI))], [.mem [.ref 1, .v tI, .v .bool], .sl 1 tU]⟩
abbrev o31 : Shp := ⟨[(0, .c (.ref 2))], [.mem [.ref 1, .v tI, .v .bool], .sl 1 tU, .sl 9 tI]⟩
noncomputable def c31 : Con := ⟨i31, o31, fun v => impl_reader_list v.1.2.1 v.2.1.2.1 v.2.1.2.2.1 v.2.2.1⟩
noncomputable def l31 : List (Nat × Con) := [(28, c28), (29, c29)]
noncomputable def C31 : Cfg := ⟨T, gam l31, hintOf []⟩
abbrev h31_4 : Shp := ⟨[(0, .c (.ptr 0 0)), (5, .c (.ref 2)), (12, .c (.v tI)), (13, .c (.v tI))], [.mem [.ref 1, .v tI, .v .bool], .sl 1 tU, .sl 9 tI]⟩
noncomputable def j31 (n ℓ : Nat) (σ : St) : Option o31.V := if ℓ = 4 then jump 2 h31_4 (fun v => impl_reader_list_L4 n v.1.2.2.1 v.1.2.2.2.1 v.2.1.2.1 v.2.1.2.2.1 v.2.2.1 v.2.2.2.1) σ else none
theorem q31_4 (n : Nat) (v : h31_4.V) (ω : List Bool) : loopF C31 c31 Try.f31 (j31 n) 4 ω (h31_4.st 23 v) = impl_reader_list_step4 (impl_reader_list_L4 n) v.1.2.2.1 v.1.2.2.2.1 v.2.1.2.1 v.2.1.2.2.1 v.2.2.1 v.2.2.2.1 := by kernel_rfl
theorem e31 (n : Nat) (ω : List Bool) (v : i31.V) : enterF C31 c31 Try.f31 (j31 n) ω v = impl_reader_list_entry (impl_reader_list_L4 n) v.1.2.1 v.2.1.2.1 v.2.1.2.2.1 v.2.2.1 := by kernel_rfl
theorem s31 : SoundC Try.prog 31 c31 := sound_by (l := l31) (J := j31) (L := [4]) tOk mx Try.func31 ⟨s28, s29, trivial⟩ (by kernel_rfl) (by kernel_rfl)
  ⟨⟨h31_4, fun n v => impl_reader_list_L4 n v.1.2.2.1 v.1.2.2.2.1 v.2.1.2.1 v.2.1.2.2.1 v.2.2.1 v.2.2.2.1, fun _ => rfl, fun _ => rfl, q31_4⟩, trivial⟩ FUEL (e31 FUEL)

/-! impl_reader_done -/
abbrev i33 : Shp := ⟨[(0, .c (.ptr 0 0))], [.mem [.ref 1, .v tI, .v .bool], .sl 1 tU]⟩
abbrev o33 : Shp := ⟨[(0, .c (.v .bool))], [.mem [.ref 1, .v tI, .v .bool], .sl 1 tU]⟩
noncomputable def c33 : Con := ⟨i33, o33, fun v => impl_reader_done v.2.1.2.1 v.2.1.2.2.1 v.2.2.1⟩
noncomputable def l33 : List (Nat × Con) := []
noncomputable def C33 : Cfg := ⟨T, gam l33, hintOf [(1, [0, 1])]⟩
theorem e33 (ω : List Bool) (v : i33.V) : enterF C33 c33 Try.f33 (fun _ _ => none) ω v = impl_reader_done v.2.1.2.1 v.2.1.2.2.1 v.2.2.1 := by kernel_rfl
theorem s33 : SoundC Try.prog 33 c33 := sound_by0 (l := l33) tOk mx Try.func33 trivial (by kernel_rfl) (by kernel_rfl) e33

/-! impl_WriterRead -/
abbrev i9 : Shp := ⟨[(0, .row Y0), (1, .c (.ref 0))], [.sl 1 tU]⟩
abbrev o9 : Shp := ⟨[(0, .tup [.inr [.v tI, .ref 1], .inl (.v .bool)])], [.sl 1 tU, .sl 9 Y1]⟩
noncomputable def c9 : Con := ⟨i9, o9, fun v => impl_WriterRead v.1.1 v.2.1⟩
noncomputable def l9 : List (Nat × Con) := [(20, c20), (28, c28), (29, c29), (30, c30), (31, c31), (32, c32), (33, c33)]
noncomputable def C9 : Cfg := ⟨T, gam l9, hintOf []⟩
abbrev h9_6 : Shp := ⟨[(2, .c (.ptr 1 0)), (4, .c (.ptr 2 0)), (6, .c (.ptr 4 0)), (7, .c (.ptr 5 0)), (8, .c (.v tI)), (9, .c (.v tI))], [.sl 1 tU, .mem [.sl false tI, .v tI], .mem [.v tI, .ref 3], .sl 9 Y1, .mem [.ref 0, .v tI, .v .bool], .mem [.v tI, .ref 6], .sl 9 Y1]⟩
noncomputable def j9 (n ℓ : Nat) (σ : St) : Option o9.V := if ℓ = 6 then jump 1 h9_6 (fun v => impl_WriterRead_L6 n v.1.2.2.2.2.1 v.1.2.2.2.2.2.1 v.2.1 v.2.2.1.1 v.2.2.1.2.1 v.2.2.2.1.1 v.2.2.2.2.1 v.2.2.2.2.2.1.2.1 v.2.2.2.2.2.1.2.2.1 v.2.2.2.2.2.2.1.1 v.2.2.2.2.2.2.2.1) σ else none
theorem q9_6 (n : Nat) (v : h9_6.V) (ω : List Bool) : loopF C9 c9 Try.f9 (j9 n) 6 ω (h9_6.st 61 v) = impl_WriterRead_step6 (impl_WriterRead_L6 n) v.1.2.2.2.2.1 v.1.2.2.2.2.2.1 v.2.1 v.2.2.1.1 v.2.2.1.2.1 v.2.2.2.1.1 v.2.2.2.2.1 v.2.2.2.2.2.1.2.1 v.2.2.2.2.2.1.2.2.1 v.2.2.2.2.2.2.1.1 v.2.2.2.2.2.2.2.1 := by kernel_rfl
theorem e9 (n : Nat) (ω : List Bool) (v : i9.V) : enterF C9 c9 Try.f9 (j9 n) ω v = impl_WriterRead_entry (impl_WriterRead_L6 n) v.1.1 v.2.1 := by kernel_rfl
theorem s9 : SoundC Try.prog 9 c9 := sound_by (l := l9) (J := j9) (L := [6]) tOk mx Try.func9 ⟨s20, s28, s29, s30, s31, s32, s33, trivial⟩ (by kernel_rfl) (by kernel_rfl)
  ⟨⟨h9_6, fun n v => impl_WriterRead_L6 n v.1.2.2.2.2.1 v.1.2.2.2.2.2.1 v.2.1 v.2.2.1.1 v.2.2.1.2.1 v.2.2.2.1.1 v.2.2.2.2.1 v.2.2.2.2.2.1.2.1 v.2.2.2.2.2.1.2.2.1 v.2.2.2.2.2.2.1.1 v.2.2.2.2.2.2.2.1, fun _ => rfl, fun _ => rfl, q9_6⟩, trivial⟩ FUEL (e9 FUEL)

/-! impl_WriterSure -/
abbrev i10 : Shp := ⟨[(0, .row Y2)], []⟩
abbrev o10 : Shp := ⟨[(0, .c (.v tI))], []⟩
noncomputable def c10 : Con := ⟨i10, o10, fun v => impl_WriterSure v.1.1⟩
noncomputable def l10 : List (Nat × Con) := []
noncomputable def C10 : Cfg := ⟨T, gam l10, hintOf []⟩
abbrev h10_2 : Shp := ⟨[(1, .c (.ptr 0 0)), (6, .c (.sl false Y1)), (7, .c (.v tI)), (8, .c (.v tI))], [.mem [.v tI, .sl false Y1]]⟩
noncomputable def j10 (n ℓ : Nat) (σ : St) : Option o10.V := if ℓ = 2 then jump 0 h10_2 (fun v => impl_WriterSure_L2 n v.1.2.1 v.1.2.2.1 v.1.2.2.2.1 v.2.1.1 v.2.1.2.1) σ else none
theorem q10_2 (n : Nat) (v : h10_2.V) (ω : List Bool) : loopF C10 c10 Try.f10 (j10 n) 2 ω (h10_2.st 21 v) = impl_WriterSure_step2 (impl_WriterSure_L2 n) v.1.2.1 v.1.2.2.1 v.1.2.2.2.1 v.2.1.1 v.2.1.2.1 := by kernel_rfl
theorem e10 (n : Nat) (ω : List Bool) (v : i10.V) : enterF C10 c10 Try.f10 (j10 n) ω v = impl_WriterSure_entry (impl_WriterSure_L2 n) v.1.1 := by kernel_rfl
theorem s10 : SoundC Try.prog 10 c10 := sound_by (l := l10) (J := j10) (L := [2]) tOk mx Try.func10 trivial (by kernel_rfl) (by kernel_rfl)
  ⟨⟨h10_2, fun n v => impl_WriterSure_L2 n v.1.2.1 v.1.2.2.1 v.1.2.2.2.1 v.2.1.1 v.2.1.2.1, fun _ => rfl, fun _ => rfl, q10_2⟩, trivial⟩ FUEL (e10 FUEL)

/-! spec_l17Spoil -/
abbrev i37 : Shp := ⟨[(0, .c (.ptr 0 0)), (1, .c (.sl false tU))], [.mem [.sl true tU, .v tI, .v tI]]⟩
abbrev o37 : Shp := ⟨[(0, .c (.ref 1))], [.mem [.sl true tU, .v tI, .v tI], .sl 9 tU]⟩
noncomputable def c37 : Con := ⟨i37, o37, fun v => spec_l17Spoil v.1.2.1 v.2.1.1 v.2.1.2.1 v.2.1.2.2.1⟩
noncomputable def l37 : List (Nat × Con) := [(62, c62), (68, c68)]
noncomputable def C37 : Cfg := ⟨T, gam l37, hintOf []⟩
theorem e37 (ω : List Bool) (v : i37.V) : enterF C37 c37 Try.f37 (fun _ _ => none) ω v = spec_l17Spoil v.1.2.1 v.2.1.1 v.2.1.2.1 v.2.1.2.2.1 := by kernel_rfl
theorem s37 : SoundC Try.prog 37 c37 := sound_by0 (l := l37) tOk mx Try.func37 ⟨s62, s68, trivial⟩ (by kernel_rfl) (by kernel_rfl) e37

/-! spec_DrawWriterRead -/
abbrev i11 : Shp := ⟨[(0, .c (.sl true tU))], []⟩
abbrev o11 : Shp := ⟨[(0, .tup [.inr [.ref 0, .v tI], .inl (.ref 1)])], [.sl 9 tI, .sl 9 tU]⟩
noncomputable def c11 : Con := ⟨i11, o11, fun v => spec_DrawWriterRead v.1.1⟩
noncomputable def l11 : List (Nat × Con) := [(8, c8), (34, c34), (35, c35), (36, c36), (37, c37)]
noncomputable def C11 : Cfg := ⟨T, gam l11, hintOf [(3, [0, 3, 4]), (4, [3, 4, 6, 7])]⟩
theorem e11 (ω : List Bool) (v : i11.V) : enterF C11 c11 Try.f11 (fun _ _ => none) ω v = spec_DrawWriterRead v.1.1 := by kernel_rfl
theorem s11 : SoundC Try.prog 11 c11 := sound_by0 (l := l11) tOk mx Try.func11 ⟨s8, s34, s35, s36, s37, trivial⟩ (by kernel_rfl) (by kernel_rfl) e11

/-! spec_GetNum -/
abbrev i69 : Shp := ⟨[(0, .c (.sl false tU)), (1, .c (.v tI))], []⟩
abbrev o69 : Shp := ⟨[(0, .tup [.inl (.v tI), .inl (.v tI), .inl (.v .bool)])], []⟩
noncomputable def c69 : Con := ⟨i69, o69, fun v => spec_GetNum v.1.1 v.1.2.1⟩
noncomputable def l69 : List (Nat × Con) := []
noncomputable def C69 : Cfg := ⟨T, gam l69, hintOf []⟩
abbrev h69_6 : Shp := ⟨[(0, .c (.sl false tU)), (1, .c (.v tI)), (7, .c (.v tI)), (8, .c (.v tI)), (9, .c (.v tI))], []⟩
noncomputable def j69 (n ℓ : Nat) (σ : St) : Option o69.V := if ℓ = 6 then jump 0 h69_6 (fun v => spec_GetNum_L6 n v.1.1 v.1.2.1 v.1.2.2.1 v.1.2.2.2.1 v.1.2.2.2.2.1) σ else none
theorem q69_6 (n : Nat) (v : h69_6.V) (ω : List Bool) : loopF C69 c69 Try.f69 (j69 n) 6 ω (h69_6.st 59 v) = spec_GetNum_step6 (spec_GetNum_L6 n) v.1.1 v.1.2.1 v.1.2.2.1 v.1.2.2.2.1 v.1.2.2.2.2.1 := by kernel_rfl
theorem e69 (n : Nat) (ω : List Bool) (v : i69.V) : enterF C69 c69 Try.f69 (j69 n) ω v = spec_GetNum_entry (spec_GetNum_L6 n) v.1.1 v.1.2.1 := by kernel_rfl
theorem s69 : SoundC Try.prog 69 c69 := sound_by (l := l69) (J := j69) (L := [6]) tOk mx Try.func69 trivial (by kernel_rfl) (by kernel_rfl)
  ⟨⟨h69_6, fun n v => spec_GetNum_L6 n v.1.1 v.1.2.1 v.1.2.2.1 v.1.2.2.2.1 v.1.2.2.2.2.1, fun _ => rfl, fun _ => rfl, q69_6⟩, trivial⟩ FUEL (e69 FUEL)

/-! spec_l17Num -/
abbrev i38 : Shp := ⟨[(0, .c (.ptr 0 0))], [.mem [.ref 1, .v tI, .v .bool], .sl 1 tU]⟩
abbrev o38 : Shp := ⟨[(0, .c (.v tI))], [.mem [.ref 1, .v tI, .v .bool], .sl 1 tU]⟩
noncomputable def c38 : Con := ⟨i38, o38, fun v => spec_l17Num v.2.1.2.1 v.2.1.2.2.1 v.2.2.1⟩
noncomputable def l38 : List (Nat × Con) := [(69, c69)]
noncomputable def C38 : Cfg := ⟨T, gam l38, hintOf [(1, [0, 1])]⟩
theorem e38 (ω : List Bool) (v : i38.V) : enterF C38 c38 Try.f38 (fun _ _ => none) ω v = spec_l17Num v.2.1.2.1 v.2.1.2.2.1 v.2.2.1 := by kernel_rfl
theorem s38 : SoundC Try.prog 38 c38 := sound_by0 (l := l38) tOk mx Try.func38 ⟨s69, trivial⟩ (by kernel_rfl) (by kernel_rfl) e38

/-! spec_GetText -/
abbrev i70 : Shp := ⟨[(0, .c (.sl false tU)), (1, .c (.v tI))], []⟩
abbrev o70 : Shp := ⟨[(0, .tup [.inl (.v .str), .inl (.v tI), .inl (.v .bool)])], []⟩
noncomputable def c70 : Con := ⟨i70, o70, fun v => spec_GetText v.1.1 v.1.2.1⟩
noncomputable def l70 : List (Nat × Con) := [(69, c69)]
noncomputable def C70 : Cfg := ⟨T, gam l70, hintOf []⟩
theorem e70 (ω : List Bool) (v : i70.V) : enterF C70 c70 Try.f70 (fun _ _ => none) ω v = spec_GetText v.1.1 v.1.2.1 := by kernel_rfl
theorem s70 : SoundC Try.prog 70 c70 := sound_by0 (l := l70) tOk mx Try.func70 ⟨s69, trivial⟩ (by kernel_rfl) (by kernel_rfl) e70

/-! spec_l17Text -/
abbrev i39 : Shp := ⟨[(0, .c (.ptr 0 0))], [.mem [.ref 1, .v tI, .v .bool], .sl 1 tU]⟩
abbrev o39 : Shp := ⟨[(0, .c (.v .str))], [.mem [.ref 1, .v tI, .v .bool], .sl 1 tU]⟩
noncomputable def c39 : Con := ⟨i39, o39, fun v => spec_l17Text v.2.1.2.1 v.2.1.2.2.1 v.2.2.1⟩
noncomputable def l39 : List (Nat × Con) := [(70, c70)]
noncomputable def C39 : Cfg := ⟨T, gam l39, hintOf [(1, [0, 1])]⟩
theorem e39 (ω : List Bool) (v : i39.V) : enterF C39 c39 Try.f39 (fun _ _ => none) ω v = spec_l17Text v.2.1.2.1 v.2.1.2.2.1 v.2.2.1 := by kernel_rfl
theorem s39 : SoundC Try.prog 39 c39 := sound_by0 (l := l39) tOk mx Try.func39 ⟨s70, trivial⟩ (by kernel_rfl) (by kernel_rfl) e39

/-! spec_l17Nums -/
abbrev i40 : Shp := ⟨[(0, .c (.ptr 0 0))], [.mem [.ref 1, .v tI, .v .bool], .sl 1 tU]⟩
abbrev o40 : Shp := ⟨[(0, .c (.ref 2))], [.mem [.ref 1, .v tI, .v .bool], .sl 1 tU, .sl 9 tI]⟩
noncomputable def c40 : Con := ⟨i40, o40, fun v => spec_l17Nums v.2.1.2.1 v.2.1.2.2.1 v.2.2.1⟩
noncomputable def l40 : List (Nat × Con) := [(38, c38)]
noncomputable def C40 : Cfg := ⟨T, gam l40, hintOf []⟩
abbrev h40_4 : Shp := ⟨[(0, .c (.ptr 0 0)), (3, .c (.v tI)), (4, .c (.ref 2)), (5, .c (.v tI))], [.mem [.ref 1, .v tI, .v .bool], .sl 1 tU, .sl 9 tI]⟩
noncomputable def j40 (n ℓ : Nat) (σ : St) : Option o40.V := if ℓ = 4 then jump 2 h40_4 (fun v => spec_l17Nums_L4 n v.1.2.1 v.1.2.2.2.1 v.2.1.2.1 v.2.1.2.2.1 v.2.2.1 v.2.2.2.1) σ else none
theorem q40_4 (n : Nat) (v : h40_4.V) (ω : List Bool) : loopF C40 c40 Try.f40 (j40 n) 4 ω (h40_4.st 26 v) = spec_l17Nums_step4 (spec_l17Nums_L4 n) v.1.2.1 v.1.2.2.2.1 v.2.1.2.1 v.2.1.2.2.1 v.2.2.1 v.2.2.2.1 := by kernel_rfl
theorem e40 (n : Nat) (ω : List Bool) (v : i40.V) : enterF C40 c40 Try.f40 (j40 n) ω v = spec_l17Nums_entry (spec_l17Nums_L4 n) v.2.1.2.1 v.2.1.2.2.1 v.2.2.1 := by kernel_rfl
theorem s40 : SoundC Try.prog 40 c40 := sound_by (l := l40) (J := j40) (L := [4]) tOk mx Try.func40 ⟨s38, trivial⟩ (by kernel_rfl) (by kernel_rfl)
  ⟨⟨h40_4, fun n v => spec_l17Nums_L4 n v.1.2.1 v.1.2.2.2.1 v.2.1.2.1 v.2.1.2.2.1 v.2.2.1 v.2.2.2.1, fun _ => rfl, fun _ => rfl, q40_4⟩, trivial⟩ FUEL (e40 FUEL)

/-! spec_l17End -/
abbrev i42 : Shp := ⟨[(0, .c (.ptr 0 0))], [.mem [.ref 1, .v tI, .v .bool], .sl 1 tU]⟩
abbrev o42 : Shp := ⟨[(0, .c (.v .bool))], [.mem [.ref 1, .v tI, .v .bool], .sl 1 tU]⟩
noncomputable def c42 : Con := ⟨i42, o42, fun v => spec_l17End v.2.1.2.1 v.2.1.2.2.1 v.2.2.1⟩
noncomputable def l42 : List (Nat × Con) := []
noncomputable def C42 : Cfg := ⟨T, gam l42, hintOf [(1, [0, 1])]⟩
theorem e42 (ω : List Bool) (v : i42.V) : enterF C42 c42 Try.f42 (fun _ _ => none) ω v = spec_l17End v.2.1.2.1 v.2.1.2.2.1 v.2.2.1 := by kernel_rfl
theorem s42 : SoundC Try.prog 42 c42 := sound_by0 (l := l42) tOk mx Try.func42 trivial (by kernel_rfl) (by kernel_rfl) e42

/-! spec_WriterRead -/
abbrev i12 : Shp := ⟨[(0, .row Y0), (1, .c (.ref 0))], [.sl 1 tU]⟩
abbrev o12 : Shp := ⟨[(0, .tup [.inr [.v tI, .ref 1], .inl (.v .bool)])], [.sl 1 tU, .sl 9 Y1]⟩
noncomputable def c12 : Con := ⟨i12, o12, fun v => spec_WriterRead v.1.1 v.2.1⟩
noncomputable def l12 : List (Nat × Con) := [(24, c24), (38, c38), (39, c39), (40, c40), (41, c41), (42, c42)]
noncomputable def C12 : Cfg := ⟨T, gam l12, hintOf []⟩
abbrev h12_5 : Shp := ⟨[(2, .c (.ptr 1 0)), (4, .c (.ptr 2 0)), (6, .c (.ptr 4 0)), (7, .c (.ptr 5 0)), (8, .c (.v tI)), (9, .c (.v tI))], [.sl 1 tU, .mem [.sl false tI, .v tI], .mem [.v tI, .ref 3], .sl 9 Y1, .mem [.ref 0, .v tI, .v .bool], .mem [.v tI, .ref 6], .sl 9 Y1]⟩
noncomputable def j12 (n ℓ : Nat) (σ : St) : Option o12.V := if ℓ = 5 then jump 1 h12_5 (fun v => spec_WriterRead_L5 n v.1.2.2.2.2.1 v.1.2.2.2.2.2.1 v.2.1 v.2.2.1.1 v.2.2.1.2.1 v.2.2.2.1.1 v.2.2.2.2.1 v.2.2.2.2.2.1.2.1 v.2.2.2.2.2.1.2.2.1 v.2.2.2.2.2.2.1.1 v.2.2.2.2.2.2.2.1) σ else none
theorem q12_5 (n : Nat) (v : h12_5.V) (ω : List Bool) : loopF C12 c12 Try.f12 (j12 n) 5 ω (h12_5.st 58 v) = spec_WriterRead_step5 (spec_WriterRead_L5 n) v.1.2.2.2.2.1 v.1.2.2.2.2.2.1 v.2.1 v.2.2.1.1 v.2.2.1.2.1 v.2.2.2.1.1 v.2.2.2.2.1 v.2.2.2.2.2.1.2.1 v.2.2.2.2.2.1.2.2.1 v.2.2.2.2.2.2.1.1 v.2.2.2.2.2.2.2.1 := by kernel_rfl
theorem e12 (n : Nat) (ω : List Bool) (v : i12.V) : enterF C12 c12 Try.f12 (j12 n) ω v = spec_WriterRead_entry (spec_WriterRead_L5 n) v.1.1 v.2.1 := by kernel_rfl
theorem s12 : SoundC Try.prog 12 c12 := sound_by (l := l12) (J := j12) (L := [5]) tOk mx Try.func12 ⟨s24, s38, s39, s40, s41, s42, trivial⟩ (by kernel_rfl) (by kernel_rfl)
  ⟨⟨h12_5, fun n v => spec_WriterRead_L5 n v.1.2.2.2.2.1 v.1.2.2.2.2.2.1 v.2.1 v.2.2.1.1 v.2.2.1.2.1 v.2.2.2.1.1 v.2.2.2.2.1 v.2.2.2.2.2.1.2.1 v.2.2.2.2.2.1.2.2.1 v.2.2.2.2.2.2.1.1 v.2.2.2.2.2.2.2.1, fun _ => rfl, fun _ => rfl, q12_5⟩, trivial⟩ FUEL (e12 FUEL)

/-! laws_FnWriterBytes -/
abbrev i3 : Shp := ⟨[(0, .c (.sl true tU))], []⟩
abbrev o3 : Shp := ⟨[(0, .c (.v .bool))], []⟩
noncomputable def c3 : Con := ⟨i3, o3, fun v => laws_FnWriterBytes v.1.1⟩
noncomputable def l3 : List (Nat × Con) := [(5, c5), (6, c6), (7, c7), (8, c8), (9, c9), (10, c10), (11, c11), (12, c12)]
noncomputable def C3 : Cfg := ⟨T, gam l3, hintOf [(10, [0, 1, 2, 3, 4, 5, 6, 7, 8])]⟩
theorem e3 (ω : List Bool) (v : i3.V) : enterF C3 c3 Try.f3 (fun _ _ => none) ω v = laws_FnWriterBytes v.1.1 := by kernel_rfl
theorem s3 : SoundC Try.prog 3 c3 := sound_by0 (l := l3) tOk mx Try.func3 ⟨s5, s6, s7, s8, s9, s10, s11, s12, trivial⟩ (by kernel_rfl) (by kernel_rfl) e3
end Go.Proofs.Ytbigbhljjgaaoaa.Wk
