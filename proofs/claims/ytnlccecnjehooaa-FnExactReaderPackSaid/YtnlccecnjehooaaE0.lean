/- Each function computes what was printed: by the kernel. -/
import Derived.Test.YtnlccecnjehooaaG0
import Derived.Test.YtnlccecnjehooaaProg
import Derived.KernelRfl
set_option linter.unusedVariables false
set_option linter.unusedSimpArgs false
namespace Go.Proofs.Ytnlccecnjehooaa.Wk
open Go Go.Fw Go.M Go.Proofs
abbrev tI : Ty := .int .i64
abbrev tU : Ty := .int .u8
abbrev Y0 : Ty := (.cons (.sl tI) (.cons tI .unit))
abbrev Y1 : Ty := (.cons tI (.cons tI (.cons .str .unit)))
abbrev Y2 : Ty := (.cons tI (.cons tI (.cons (.sl Y1) .unit)))
abbrev Y3 : Ty := (.cons (.sl tU) (.cons tI (.cons .bool .unit)))
def T : Tab := [(3, ⟨1, 8, .int .i64, some tI⟩),
  (4, ⟨1, 1, .bool, some .bool⟩),
  (5, ⟨1, 1, .int .u8, some tU⟩),
  (9, ⟨1, 16, .str, some .str⟩),
  (22, ⟨1, 24, .sl 3, some (.sl tI)⟩),
  (24, ⟨2, 32, .st [(0, 22), (1, 3)], some Y0⟩),
  (26, ⟨1, 24, .sl 5, some (.sl tU)⟩),
  (29, ⟨2, 32, .st [(0, 22), (1, 3)], some Y0⟩),
  (40, ⟨1, 24, .sl 95, some (.sl Y1)⟩),
  (42, ⟨3, 40, .st [(0, 3), (1, 3), (2, 40)], some Y2⟩),
  (45, ⟨1, 24, .sl 76, some (.sl Y1)⟩),
  (47, ⟨3, 40, .st [(0, 3), (1, 3), (2, 45)], some Y2⟩),
  (61, ⟨1, 8, .ptr 63, none⟩),
  (63, ⟨3, 40, .st [(0, 26), (1, 3), (2, 4)], some Y3⟩),
  (67, ⟨1, 8, .ptr 69, none⟩),
  (69, ⟨3, 40, .st [(0, 26), (1, 3), (2, 4)], some Y3⟩),
  (76, ⟨3, 32, .st [(0, 3), (1, 3), (2, 9)], some Y1⟩),
  (95, ⟨3, 32, .st [(0, 3), (1, 3), (2, 9)], some Y1⟩)]
theorem tOk : TabOk Try.prog T := tabOk_of_check (by kernel_rfl)
theorem mx : Try.prog.follows .mixedOrders = true := by kernel_rfl

/-! laws_szEvent -/
abbrev i73 : Shp := ⟨[(0, .row Y1), (1, .c (.v tI))], []⟩
abbrev o73 : Shp := ⟨[(0, .c (.v tI))], []⟩
noncomputable def c73 : Con := ⟨i73, o73, fun v => laws_szEvent v.1.1 v.1.2.1⟩
noncomputable def l73 : List (Nat × Con) := []
noncomputable def C73 : Cfg := ⟨T, gam l73, hintOf []⟩
theorem e73 (ω : List Bool) (v : i73.V) : enterF C73 c73 Try.f73 (fun _ _ => none) ω v = laws_szEvent v.1.1 v.1.2.1 := by kernel_rfl
theorem s73 : SoundC Try.prog 73 c73 := sound_by0 (l := l73) tOk mx Try.func73 trivial (by kernel_rfl) (by kernel_rfl) e73

/-! laws_szEventS -/
abbrev i51 : Shp := ⟨[(0, .c (.sl false Y1)), (1, .c (.v tI))], []⟩
abbrev o51 : Shp := ⟨[(0, .c (.v tI))], []⟩
noncomputable def c51 : Con := ⟨i51, o51, fun v => laws_szEventS v.1.1 v.1.2.1⟩
noncomputable def l51 : List (Nat × Con) := [(73, c73)]
noncomputable def C51 : Cfg := ⟨T, gam l51, hintOf []⟩
abbrev h51_5 : Shp := ⟨[(0, .c (.sl false Y1)), (1, .c (.v tI)), (5, .c (.v tI))], []⟩
noncomputable def j51 (n ℓ : Nat) (σ : St) : Option o51.V := if ℓ = 5 then jump 0 h51_5 (fun v => laws_szEventS_L5 n v.1.1 v.1.2.1 v.1.2.2.1) σ else none
theorem q51_5 (n : Nat) (v : h51_5.V) (ω : List Bool) : loopF C51 c51 Try.f51 (j51 n) 5 ω (h51_5.st 27 v) = laws_szEventS_step5 (laws_szEventS_L5 n) v.1.1 v.1.2.1 v.1.2.2.1 := by kernel_rfl
theorem e51 (n : Nat) (ω : List Bool) (v : i51.V) : enterF C51 c51 Try.f51 (j51 n) ω v = laws_szEventS_entry (laws_szEventS_L5 n) v.1.1 v.1.2.1 := by kernel_rfl
theorem s51 : SoundC Try.prog 51 c51 := sound_by (l := l51) (J := j51) (L := [5]) tOk mx Try.func51 ⟨s73, trivial⟩ (by kernel_rfl) (by kernel_rfl)
  ⟨⟨h51_5, fun n v => laws_szEventS_L5 n v.1.1 v.1.2.1 v.1.2.2.1, fun _ => rfl, fun _ => rfl, q51_5⟩, trivial⟩ FUEL (e51 FUEL)

/-! laws_szReader -/
abbrev i21 : Shp := ⟨[(0, .row Y2), (1, .c (.v tI))], []⟩
abbrev o21 : Shp := ⟨[(0, .c (.v tI))], []⟩
noncomputable def c21 : Con := ⟨i21, o21, fun v => laws_szReader v.1.1 v.1.2.1⟩
noncomputable def l21 : List (Nat × Con) := [(51, c51)]
noncomputable def C21 : Cfg := ⟨T, gam l21, hintOf []⟩
theorem e21 (ω : List Bool) (v : i21.V) : enterF C21 c21 Try.f21 (fun _ _ => none) ω v = laws_szReader v.1.1 v.1.2.1 := by kernel_rfl
theorem s21 : SoundC Try.prog 21 c21 := sound_by0 (l := l21) tOk mx Try.func21 ⟨s51, trivial⟩ (by kernel_rfl) (by kernel_rfl) e21

/-! laws_toEvent -/
abbrev i76 : Shp := ⟨[(0, .row Y1)], []⟩
abbrev o76 : Shp := ⟨[(0, .agg [.v tI, .v tI, .v .str])], []⟩
noncomputable def c76 : Con := ⟨i76, o76, fun v => laws_toEvent v.1.1⟩
noncomputable def l76 : List (Nat × Con) := []
noncomputable def C76 : Cfg := ⟨T, gam l76, hintOf []⟩
theorem e76 (ω : List Bool) (v : i76.V) : enterF C76 c76 Try.f76 (fun _ _ => none) ω v = laws_toEvent v.1.1 := by kernel_rfl
theorem s76 : SoundC Try.prog 76 c76 := sound_by0 (l := l76) tOk mx Try.func76 trivial (by kernel_rfl) (by kernel_rfl) e76

/-! laws_toEventS -/
abbrev i54 : Shp := ⟨[(0, .c (.sl false Y1))], []⟩
abbrev o54 : Shp := ⟨[(0, .c (.ref 0))], [.sl 9 Y1]⟩
noncomputable def c54 : Con := ⟨i54, o54, fun v => laws_toEventS v.1.1⟩
noncomputable def l54 : List (Nat × Con) := [(76, c76)]
noncomputable def C54 : Cfg := ⟨T, gam l54, hintOf []⟩
abbrev h54_3 : Shp := ⟨[(0, .c (.sl false Y1)), (3, .c (.ref 0)), (4, .c (.v tI))], [.sl 9 Y1]⟩
noncomputable def j54 (n ℓ : Nat) (σ : St) : Option o54.V := if ℓ = 3 then jump 0 h54_3 (fun v => laws_toEventS_L3 n v.1.1 v.1.2.2.1 v.2.1) σ else none
theorem q54_3 (n : Nat) (v : h54_3.V) (ω : List Bool) : loopF C54 c54 Try.f54 (j54 n) 3 ω (h54_3.st 23 v) = laws_toEventS_step3 (laws_toEventS_L3 n) v.1.1 v.1.2.2.1 v.2.1 := by kernel_rfl
theorem e54 (n : Nat) (ω : List Bool) (v : i54.V) : enterF C54 c54 Try.f54 (j54 n) ω v = laws_toEventS_entry (laws_toEventS_L3 n) v.1.1 := by kernel_rfl
theorem s54 : SoundC Try.prog 54 c54 := sound_by (l := l54) (J := j54) (L := [3]) tOk mx Try.func54 ⟨s76, trivial⟩ (by kernel_rfl) (by kernel_rfl)
  ⟨⟨h54_3, fun n v => laws_toEventS_L3 n v.1.1 v.1.2.2.1 v.2.1, fun _ => rfl, fun _ => rfl, q54_3⟩, trivial⟩ FUEL (e54 FUEL)

/-! laws_toReader -/
abbrev i23 : Shp := ⟨[(0, .row Y2)], []⟩
abbrev o23 : Shp := ⟨[(0, .agg [.v tI, .v tI, .ref 0])], [.sl 9 Y1]⟩
noncomputable def c23 : Con := ⟨i23, o23, fun v => laws_toReader v.1.1⟩
noncomputable def l23 : List (Nat × Con) := [(54, c54)]
noncomputable def C23 : Cfg := ⟨T, gam l23, hintOf []⟩
theorem e23 (ω : List Bool) (v : i23.V) : enterF C23 c23 Try.f23 (fun _ _ => none) ω v = laws_toReader v.1.1 := by kernel_rfl
theorem s23 : SoundC Try.prog 23 c23 := sound_by0 (l := l23) tOk mx Try.func23 ⟨s54, trivial⟩ (by kernel_rfl) (by kernel_rfl) e23

/-! spec_l1In -/
abbrev i69 : Shp := ⟨[(0, .c (.v tI)), (1, .c (.v tI)), (2, .c (.v tI))], []⟩
abbrev o69 : Shp := ⟨[(0, .c (.v .bool))], []⟩
noncomputable def c69 : Con := ⟨i69, o69, fun v => spec_l1In v.1.1 v.1.2.1 v.1.2.2.1⟩
noncomputable def l69 : List (Nat × Con) := []
noncomputable def C69 : Cfg := ⟨T, gam l69, hintOf []⟩
theorem e69 (ω : List Bool) (v : i69.V) : enterF C69 c69 Try.f69 (fun _ _ => none) ω v = spec_l1In v.1.1 v.1.2.1 v.1.2.2.1 := by kernel_rfl
theorem s69 : SoundC Try.prog 69 c69 := sound_by0 (l := l69) tOk mx Try.func69 trivial (by kernel_rfl) (by kernel_rfl) e69

/-! spec_l17Event -/
abbrev i74 : Shp := ⟨[(0, .row Y1)], []⟩
abbrev o74 : Shp := ⟨[(0, .c (.v .bool))], []⟩
noncomputable def c74 : Con := ⟨i74, o74, fun v => spec_l17Event v.1.1⟩
noncomputable def l74 : List (Nat × Con) := [(69, c69)]
noncomputable def C74 : Cfg := ⟨T, gam l74, hintOf []⟩
theorem e74 (ω : List Bool) (v : i74.V) : enterF C74 c74 Try.f74 (fun _ _ => none) ω v = spec_l17Event v.1.1 := by kernel_rfl
theorem s74 : SoundC Try.prog 74 c74 := sound_by0 (l := l74) tOk mx Try.func74 ⟨s69, trivial⟩ (by kernel_rfl) (by kernel_rfl) e74

/-! spec_ReaderOk -/
abbrev i75 : Shp := ⟨[(0, .row Y2)], []⟩
abbrev o75 : Shp := ⟨[(0, .c (.v .bool))], []⟩
noncomputable def c75 : Con := ⟨i75, o75, fun v => spec_ReaderOk v.1.1⟩
noncomputable def l75 : List (Nat × Con) := [(69, c69)]
noncomputable def C75 : Cfg := ⟨T, gam l75, hintOf []⟩
theorem e75 (ω : List Bool) (v : i75.V) : enterF C75 c75 Try.f75 (fun _ _ => none) ω v = spec_ReaderOk v.1.1 := by kernel_rfl
theorem s75 : SoundC Try.prog 75 c75 := sound_by0 (l := l75) tOk mx Try.func75 ⟨s69, trivial⟩ (by kernel_rfl) (by kernel_rfl) e75

/-! spec_l17Reader -/
abbrev i52 : Shp := ⟨[(0, .row Y2)], []⟩
abbrev o52 : Shp := ⟨[(0, .c (.v .bool))], []⟩
noncomputable def c52 : Con := ⟨i52, o52, fun v => spec_l17Reader v.1.1⟩
noncomputable def l52 : List (Nat × Con) := [(74, c74), (75, c75)]
noncomputable def C52 : Cfg := ⟨T, gam l52, hintOf []⟩
abbrev h52_2 : Shp := ⟨[(1, .c (.ptr 0 0)), (3, .c (.v tI))], [.mem [.v tI, .v tI, .sl false Y1]]⟩
noncomputable def j52 (n ℓ : Nat) (σ : St) : Option o52.V := if ℓ = 2 then jump 0 h52_2 (fun v => spec_l17Reader_L2 n v.1.2.1 v.2.1.1 v.2.1.2.1 v.2.1.2.2.1) σ else none
theorem q52_2 (n : Nat) (v : h52_2.V) (ω : List Bool) : loopF C52 c52 Try.f52 (j52 n) 2 ω (h52_2.st 20 v) = spec_l17Reader_step2 (spec_l17Reader_L2 n) v.1.2.1 v.2.1.1 v.2.1.2.1 v.2.1.2.2.1 := by kernel_rfl
theorem e52 (n : Nat) (ω : List Bool) (v : i52.V) : enterF C52 c52 Try.f52 (j52 n) ω v = spec_l17Reader_entry (spec_l17Reader_L2 n) v.1.1 := by kernel_rfl
theorem s52 : SoundC Try.prog 52 c52 := sound_by (l := l52) (J := j52) (L := [2]) tOk mx Try.func52 ⟨s74, s75, trivial⟩ (by kernel_rfl) (by kernel_rfl)
  ⟨⟨h52_2, fun n v => spec_l17Reader_L2 n v.1.2.1 v.2.1.1 v.2.1.2.1 v.2.1.2.2.1, fun _ => rfl, fun _ => rfl, q52_2⟩, trivial⟩ FUEL (e52 FUEL)

/-! spec_PutNum -/
abbrev i37 : Shp := ⟨[(0, .c (.v tI))], []⟩
abbrev o37 : Shp := ⟨[(0, .c (.ref 0))], [.sl 9 tU]⟩
noncomputable def c37 : Con := ⟨i37, o37, fun v => spec_PutNum v.1.1⟩
noncomputable def l37 : List (Nat × Con) := []
noncomputable def C37 : Cfg := ⟨T, gam l37, hintOf []⟩
abbrev h37_4 : Shp := ⟨[(0, .c (.v tI)), (3, .c (.ref 0))], [.sl 9 tU]⟩
noncomputable def j37 (n ℓ : Nat) (σ : St) : Option o37.V := if ℓ = 4 then jump 0 h37_4 (fun v => spec_PutNum_L4 n v.1.1 v.2.1) σ else none
theorem q37_4 (n : Nat) (v : h37_4.V) (ω : List Bool) : loopF C37 c37 Try.f37 (j37 n) 4 ω (h37_4.st 24 v) = spec_PutNum_step4 (spec_PutNum_L4 n) v.1.1 v.2.1 := by kernel_rfl
theorem e37 (n : Nat) (ω : List Bool) (v : i37.V) : enterF C37 c37 Try.f37 (j37 n) ω v = spec_PutNum_entry (spec_PutNum_L4 n) v.1.1 := by kernel_rfl
theorem s37 : SoundC Try.prog 37 c37 := sound_by (l := l37) (J := j37) (L := [4]) tOk mx Try.func37 trivial (by kernel_rfl) (by kernel_rfl)
  ⟨⟨h37_4, fun n v => spec_PutNum_L4 n v.1.1 v.2.1, fun _ => rfl, fun _ => rfl, q37_4⟩, trivial⟩ FUEL (e37 FUEL)

/-! spec_PutText -/
abbrev i53 : Shp := ⟨[(0, .c (.v .str))], []⟩
abbrev o53 : Shp := ⟨[(0, .c (.ref 0))], [.sl 9 tU]⟩
noncomputable def c53 : Con := ⟨i53, o53, fun v => spec_PutText v.1.1⟩
noncomputable def l53 : List (Nat × Con) := [(37, c37)]
noncomputable def C53 : Cfg := ⟨T, gam l53, hintOf []⟩
theorem e53 (ω : List Bool) (v : i53.V) : enterF C53 c53 Try.f53 (fun _ _ => none) ω v = spec_PutText v.1.1 := by kernel_rfl
theorem s53 : SoundC Try.prog 53 c53 := sound_by0 (l := l53) tOk mx Try.func53 ⟨s37, trivial⟩ (by kernel_rfl) (by kernel_rfl) e53

/-! spec_ReaderPack -/
abbrev i22 : Shp := ⟨[(0, .row Y2)], []⟩
abbrev o22 : Shp := ⟨[(0, .tup [.inl (.ref 0), .inl (.v .bool)])], [.sl 9 tU]⟩
noncomputable def c22 : Con := ⟨i22, o22, fun v => spec_ReaderPack v.1.1⟩
noncomputable def l22 : List (Nat × Con) := [(37, c37), (52, c52), (53, c53)]
noncomputable def C22 : Cfg := ⟨T, gam l22, hintOf [(3, [0]), (8, [0, 2])]⟩
abbrev h22_5 : Shp := ⟨[(1, .c (.ptr 0 0)), (4, .c (.ref 1)), (5, .c (.v tI))], [.mem [.v tI, .v tI, .sl false Y1], .sl 9 tU]⟩
noncomputable def j22 (n ℓ : Nat) (σ : St) : Option o22.V := if ℓ = 5 then jump 0 h22_5 (fun v => spec_ReaderPack_L5 n v.1.2.2.1 v.2.1.1 v.2.1.2.1 v.2.1.2.2.1 v.2.2.1) σ else none
theorem q22_5 (n : Nat) (v : h22_5.V) (ω : List Bool) : loopF C22 c22 Try.f22 (j22 n) 5 ω (h22_5.st 50 v) = spec_ReaderPack_step5 (spec_ReaderPack_L5 n) v.1.2.2.1 v.2.1.1 v.2.1.2.1 v.2.1.2.2.1 v.2.2.1 := by kernel_rfl
theorem e22 (n : Nat) (ω : List Bool) (v : i22.V) : enterF C22 c22 Try.f22 (j22 n) ω v = spec_ReaderPack_entry (spec_ReaderPack_L5 n) v.1.1 := by kernel_rfl
theorem s22 : SoundC Try.prog 22 c22 := sound_by (l := l22) (J := j22) (L := [5]) tOk mx Try.func22 ⟨s37, s52, s53, trivial⟩ (by kernel_rfl) (by kernel_rfl)
  ⟨⟨h22_5, fun n v => spec_ReaderPack_L5 n v.1.2.2.1 v.2.1.1 v.2.1.2.1 v.2.1.2.2.1 v.2.2.1, fun _ => rfl, fun _ => rfl, q22_5⟩, trivial⟩ FUEL (e22 FUEL)

/-! impl_within -/
abbrev i70 : Shp := ⟨[(0, .c (.v tI)), (1, .c (.v tI)), (2, .c (.v tI))], []⟩
abbrev o70 : Shp := ⟨[(0, .c (.v .bool))], []⟩
noncomputable def c70 : Con := ⟨i70, o70, fun v => impl_within v.1.1 v.1.2.1 v.1.2.2.1⟩
noncomputable def l70 : List (Nat × Con) := []
noncomputable def C70 : Cfg := ⟨T, gam l70, hintOf []⟩
theorem e70 (ω : List Bool) (v : i70.V) : enterF C70 c70 Try.f70 (fun _ _ => none) ω v = impl_within v.1.1 v.1.2.1 v.1.2.2.1 := by kernel_rfl
theorem s70 : SoundC Try.prog 70 c70 := sound_by0 (l := l70) tOk mx Try.func70 trivial (by kernel_rfl) (by kernel_rfl) e70

/-! impl_ReaderOk -/
abbrev i55 : Shp := ⟨[(0, .row Y2)], []⟩
abbrev o55 : Shp := ⟨[(0, .c (.v .bool))], []⟩
noncomputable def c55 : Con := ⟨i55, o55, fun v => impl_ReaderOk v.1.1⟩
noncomputable def l55 : List (Nat × Con) := [(70, c70)]
noncomputable def C55 : Cfg := ⟨T, gam l55, hintOf []⟩
theorem e55 (ω : List Bool) (v : i55.V) : enterF C55 c55 Try.f55 (fun _ _ => none) ω v = impl_ReaderOk v.1.1 := by kernel_rfl
theorem s55 : SoundC Try.prog 55 c55 := sound_by0 (l := l55) tOk mx Try.func55 ⟨s70, trivial⟩ (by kernel_rfl) (by kernel_rfl) e55

/-! impl_PutNum -/
abbrev i41 : Shp := ⟨[(0, .c (.v tI))], []⟩
abbrev o41 : Shp := ⟨[(0, .c (.ref 0))], [.sl 9 tU]⟩
noncomputable def c41 : Con := ⟨i41, o41, fun v => impl_PutNum v.1.1⟩
noncomputable def l41 : List (Nat × Con) := []
noncomputable def C41 : Cfg := ⟨T, gam l41, hintOf []⟩
abbrev h41_4 : Shp := ⟨[(0, .c (.v tI)), (3, .c (.ref 0))], [.sl 9 tU]⟩
noncomputable def j41 (n ℓ : Nat) (σ : St) : Option o41.V := if ℓ = 4 then jump 0 h41_4 (fun v => impl_PutNum_L4 n v.1.1 v.2.1) σ else none
theorem q41_4 (n : Nat) (v : h41_4.V) (ω : List Bool) : loopF C41 c41 Try.f41 (j41 n) 4 ω (h41_4.st 23 v) = impl_PutNum_step4 (impl_PutNum_L4 n) v.1.1 v.2.1 := by kernel_rfl
theorem e41 (n : Nat) (ω : List Bool) (v : i41.V) : enterF C41 c41 Try.f41 (j41 n) ω v = impl_PutNum_entry (impl_PutNum_L4 n) v.1.1 := by kernel_rfl
theorem s41 : SoundC Try.prog 41 c41 := sound_by (l := l41) (J := j41) (L := [4]) tOk mx Try.func41 trivial (by kernel_rfl) (by kernel_rfl)
  ⟨⟨h41_4, fun n v => impl_PutNum_L4 n v.1.1 v.2.1, fun _ => rfl, fun _ => rfl, q41_4⟩, trivial⟩ FUEL (e41 FUEL)

/-! impl_putNums -/
abbrev i56 : Shp := ⟨[(0, .c (.sl false tI))], []⟩
abbrev o56 : Shp := ⟨[(0, .c (.ref 0))], [.sl 9 tU]⟩
noncomputable def c56 : Con := ⟨i56, o56, fun v => impl_putNums v.1.1⟩
noncomputable def l56 : List (Nat × Con) := [(41, c41)]
noncomputable def C56 : Cfg := ⟨T, gam l56, hintOf []⟩
abbrev h56_3 : Shp := ⟨[(3, .c (.ref 0)), (7, .c (.sl false tI)), (8, .c (.v tI)), (9, .c (.v tI))], [.sl 9 tU]⟩
noncomputable def j56 (n ℓ : Nat) (σ : St) : Option o56.V := if ℓ = 3 then jump 0 h56_3 (fun v => impl_putNums_L3 n v.1.2.1 v.1.2.2.1 v.1.2.2.2.1 v.2.1) σ else none
theorem q56_3 (n : Nat) (v : h56_3.V) (ω : List Bool) : loopF C56 c56 Try.f56 (j56 n) 3 ω (h56_3.st 19 v) = impl_putNums_step3 (impl_putNums_L3 n) v.1.2.1 v.1.2.2.1 v.1.2.2.2.1 v.2.1 := by kernel_rfl
theorem e56 (n : Nat) (ω : List Bool) (v : i56.V) : enterF C56 c56 Try.f56 (j56 n) ω v = impl_putNums_entry (impl_putNums_L3 n) v.1.1 := by kernel_rfl
theorem s56 : SoundC Try.prog 56 c56 := sound_by (l := l56) (J := j56) (L := [3]) tOk mx Try.func56 ⟨s41, trivial⟩ (by kernel_rfl) (by kernel_rfl)
  ⟨⟨h56_3, fun n v => impl_putNums_L3 n v.1.2.1 v.1.2.2.1 v.1.2.2.2.1 v.2.1, fun _ => rfl, fun _ => rfl, q56_3⟩, trivial⟩ FUEL (e56 FUEL)

/-! impl_dataOk -/
abbrev i77 : Shp := ⟨[(0, .c (.v .str))], []⟩
abbrev o77 : Shp := ⟨[(0, .c (.v .bool))], []⟩
noncomputable def c77 : Con := ⟨i77, o77, fun v => impl_dataOk v.1.1⟩
noncomputable def l77 : List (Nat × Con) := []
noncomputable def C77 : Cfg := ⟨T, gam l77, hintOf []⟩
theorem e77 (ω : List Bool) (v : i77.V) : enterF C77 c77 Try.f77 (fun _ _ => none) ω v = impl_dataOk v.1.1 := by kernel_rfl
theorem s77 : SoundC Try.prog 77 c77 := sound_by0 (l := l77) tOk mx Try.func77 trivial (by kernel_rfl) (by kernel_rfl) e77

/-! impl_eventFits -/
abbrev i57 : Shp := ⟨[(0, .row Y1)], []⟩
abbrev o57 : Shp := ⟨[(0, .c (.v .bool))], []⟩
noncomputable def c57 : Con := ⟨i57, o57, fun v => impl_eventFits v.1.1⟩
noncomputable def l57 : List (Nat × Con) := [(70, c70), (77, c77)]
noncomputable def C57 : Cfg := ⟨T, gam l57, hintOf []⟩
theorem e57 (ω : List Bool) (v : i57.V) : enterF C57 c57 Try.f57 (fun _ _ => none) ω v = impl_eventFits v.1.1 := by kernel_rfl
theorem s57 : SoundC Try.prog 57 c57 := sound_by0 (l := l57) tOk mx Try.func57 ⟨s70, s77, trivial⟩ (by kernel_rfl) (by kernel_rfl) e57

/-! impl_PutText -/
abbrev i58 : Shp := ⟨[(0, .c (.v .str))], []⟩
abbrev o58 : Shp := ⟨[(0, .c (.ref 0))], [.sl 9 tU]⟩
noncomputable def c58 : Con := ⟨i58, o58, fun v => impl_PutText v.1.1⟩
noncomputable def l58 : List (Nat × Con) := [(41, c41)]
noncomputable def C58 : Cfg := ⟨T, gam l58, hintOf []⟩
theorem e58 (ω : List Bool) (v : i58.V) : enterF C58 c58 Try.f58 (fun _ _ => none) ω v = impl_PutText v.1.1 := by kernel_rfl
theorem s58 : SoundC Try.prog 58 c58 := sound_by0 (l := l58) tOk mx Try.func58 ⟨s41, trivial⟩ (by kernel_rfl) (by kernel_rfl) e58

/-! impl_ReaderPack -/
abbrev i24 : Shp := ⟨[(0, .row Y2)], []⟩
abbrev o24 : Shp := ⟨[(0, .tup [.inl (.ref 0), .inl (.v .bool)])], [.sl 9 tU]⟩
noncomputable def c24 : Con := ⟨i24, o24, fun v => impl_ReaderPack v.1.1⟩
noncomputable def l24 : List (Nat × Con) := [(55, c55), (56, c56), (57, c57), (58, c58)]
noncomputable def C24 : Cfg := ⟨T, gam l24, hintOf []⟩
abbrev h24_5 : Shp := ⟨[(4, .c (.ref 0)), (20, .c (.sl false Y1)), (21, .c (.v tI)), (22, .c (.v tI))], [.sl 9 tU]⟩
noncomputable def j24 (n ℓ : Nat) (σ : St) : Option o24.V := if ℓ = 5 then jump 0 h24_5 (fun v => impl_ReaderPack_L5 n v.1.2.1 v.1.2.2.1 v.1.2.2.2.1 v.2.1) σ else none
theorem q24_5 (n : Nat) (v : h24_5.V) (ω : List Bool) : loopF C24 c24 Try.f24 (j24 n) 5 ω (h24_5.st 44 v) = impl_ReaderPack_step5 (impl_ReaderPack_L5 n) v.1.2.1 v.1.2.2.1 v.1.2.2.2.1 v.2.1 := by kernel_rfl
theorem e24 (n : Nat) (ω : List Bool) (v : i24.V) : enterF C24 c24 Try.f24 (j24 n) ω v = impl_ReaderPack_entry (impl_ReaderPack_L5 n) v.1.1 := by kernel_rfl
theorem s24 : SoundC Try.prog 24 c24 := sound_by (l := l24) (J := j24) (L := [5]) tOk mx Try.func24 ⟨s55, s56, s57, s58, trivial⟩ (by kernel_rfl) (by kernel_rfl)
  ⟨⟨h24_5, fun n v => impl_ReaderPack_L5 n v.1.2.1 v.1.2.2.1 v.1.2.2.2.1 v.2.1, fun _ => rfl, fun _ => rfl, q24_5⟩, trivial⟩ FUEL (e24 FUEL)

/-! laws_eqByteS -/
abbrev i12 : Shp := ⟨[(0, .c (.sl false tU)), (1, .c (.sl false tU))], []⟩
abbrev o12 : Shp := ⟨[(0, .c (.v .bool))], []⟩
noncomputable def c12 : Con := ⟨i12, o12, fun v => laws_eqByteS v.1.1 v.1.2.1⟩
noncomputable def l12 : List (Nat × Con) := []
noncomputable def C12 : Cfg := ⟨T, gam l12, hintOf []⟩
abbrev h12_4 : Shp := ⟨[(0, .c (.sl false tU)), (1, .c (.sl false tU)), (5, .c (.v tI))], []⟩
noncomputable def j12 (n ℓ : Nat) (σ : St) : Option o12.V := if ℓ = 4 then jump 0 h12_4 (fun v => laws_eqByteS_L4 n v.1.1 v.1.2.1 v.1.2.2.1) σ else none
theorem q12_4 (n : Nat) (v : h12_4.V) (ω : List Bool) : loopF C12 c12 Try.f12 (j12 n) 4 ω (h12_4.st 26 v) = laws_eqByteS_step4 (laws_eqByteS_L4 n) v.1.1 v.1.2.1 v.1.2.2.1 := by kernel_rfl
theorem e12 (n : Nat) (ω : List Bool) (v : i12.V) : enterF C12 c12 Try.f12 (j12 n) ω v = laws_eqByteS_entry (laws_eqByteS_L4 n) v.1.1 v.1.2.1 := by kernel_rfl
theorem s12 : SoundC Try.prog 12 c12 := sound_by (l := l12) (J := j12) (L := [4]) tOk mx Try.func12 trivial (by kernel_rfl) (by kernel_rfl)
  ⟨⟨h12_4, fun n v => laws_eqByteS_L4 n v.1.1 v.1.2.1 v.1.2.2.1, fun _ => rfl, fun _ => rfl, q12_4⟩, trivial⟩ FUEL (e12 FUEL)

/-! laws_eqEvent -/
abbrev i78 : Shp := ⟨[(0, .row Y1), (1, .row Y1)], []⟩
abbrev o78 : Shp := ⟨[(0, .c (.v .bool))], []⟩
noncomputable def c78 : Con := ⟨i78, o78, fun v => laws_eqEvent v.1.1 v.1.2.1⟩
noncomputable def l78 : List (Nat × Con) := []
noncomputable def C78 : Cfg := ⟨T, gam l78, hintOf []⟩
theorem e78 (ω : List Bool) (v : i78.V) : enterF C78 c78 Try.f78 (fun _ _ => none) ω v = laws_eqEvent v.1.1 v.1.2.1 := by kernel_rfl
theorem s78 : SoundC Try.prog 78 c78 := sound_by0 (l := l78) tOk mx Try.func78 trivial (by kernel_rfl) (by kernel_rfl) e78

/-! laws_eqEventS -/
abbrev i59 : Shp := ⟨[(0, .c (.sl false Y1)), (1, .c (.sl false Y1))], []⟩
abbrev o59 : Shp := ⟨[(0, .c (.v .bool))], []⟩
noncomputable def c59 : Con := ⟨i59, o59, fun v => laws_eqEventS v.1.1 v.1.2.1⟩
noncomputable def l59 : List (Nat × Con) := [(78, c78)]
noncomputable def C59 : Cfg := ⟨T, gam l59, hintOf []⟩
abbrev h59_4 : Shp := ⟨[(0, .c (.sl false Y1)), (1, .c (.sl false Y1)), (5, .c (.v tI))], []⟩
noncomputable def j59 (n ℓ : Nat) (σ : St) : Option o59.V := if ℓ = 4 then jump 0 h59_4 (fun v => laws_eqEventS_L4 n v.1.1 v.1.2.1 v.1.2.2.1) σ else none
theorem q59_4 (n : Nat) (v : h59_4.V) (ω : List Bool) : loopF C59 c59 Try.f59 (j59 n) 4 ω (h59_4.st 27 v) = laws_eqEventS_step4 (laws_eqEventS_L4 n) v.1.1 v.1.2.1 v.1.2.2.1 := by kernel_rfl
theorem e59 (n : Nat) (ω : List Bool) (v : i59.V) : enterF C59 c59 Try.f59 (j59 n) ω v = laws_eqEventS_entry (laws_eqEventS_L4 n) v.1.1 v.1.2.1 := by kernel_rfl
theorem s59 : SoundC Try.prog 59 c59 := sound_by (l := l59) (J := j59) (L := [4]) tOk mx Try.func59 ⟨s78, trivial⟩ (by kernel_rfl) (by kernel_rfl)
  ⟨⟨h59_4, fun n v => laws_eqEventS_L4 n v.1.1 v.1.2.1 v.1.2.2.1, fun _ => rfl, fun _ => rfl, q59_4⟩, trivial⟩ FUEL (e59 FUEL)

/-! laws_eqReader -/
abbrev i25 : Shp := ⟨[(0, .row Y2), (1, .row Y2)], []⟩
abbrev o25 : Shp := ⟨[(0, .c (.v .bool))], []⟩
noncomputable def c25 : Con := ⟨i25, o25, fun v => laws_eqReader v.1.1 v.1.2.1⟩
noncomputable def l25 : List (Nat × Con) := [(59, c59)]
noncomputable def C25 : Cfg := ⟨T, gam l25, hintOf []⟩
theorem e25 (ω : List Bool) (v : i25.V) : enterF C25 c25 Try.f25 (fun _ _ => none) ω v = laws_eqReader v.1.1 v.1.2.1 := by kernel_rfl
theorem s25 : SoundC Try.prog 25 c25 := sound_by0 (l := l25) tOk mx Try.func25 ⟨s59, trivial⟩ (by kernel_rfl) (by kernel_rfl) e25

/-! laws_markText -/
abbrev i79 : Shp := ⟨[(0, .c (.v tI))], []⟩
abbrev o79 : Shp := ⟨[(0, .c (.v .str))], []⟩
noncomputable def c79 : Con := ⟨i79, o79, fun v => laws_markText v.1.1⟩
noncomputable def l79 : List (Nat × Con) := []
noncomputable def C79 : Cfg := ⟨T, gam l79, hintOf []⟩
abbrev h79_4 : Shp := ⟨[(0, .c (.v tI)), (3, .c (.v .str))], []⟩
noncomputable def j79 (n ℓ : Nat) (σ : St) : Option o79.V := if ℓ = 4 then jump 0 h79_4 (fun v => laws_markText_L4 n v.1.1 v.1.2.1) σ else none
theorem q79_4 (n : Nat) (v : h79_4.V) (ω : List Bool) : loopF C79 c79 Try.f79 (j79 n) 4 ω (h79_4.st 20 v) = laws_markText_step4 (laws_markText_L4 n) v.1.1 v.1.2.1 := by kernel_rfl
theorem e79 (n : Nat) (ω : List Bool) (v : i79.V) : enterF C79 c79 Try.f79 (j79 n) ω v = laws_markText_entry (laws_markText_L4 n) v.1.1 := by kernel_rfl
theorem s79 : SoundC Try.prog 79 c79 := sound_by (l := l79) (J := j79) (L := [4]) tOk mx Try.func79 trivial (by kernel_rfl) (by kernel_rfl)
  ⟨⟨h79_4, fun n v => laws_markText_L4 n v.1.1 v.1.2.1, fun _ => rfl, fun _ => rfl, q79_4⟩, trivial⟩ FUEL (e79 FUEL)

/-! laws_markEventS -/
abbrev i60 : Shp := ⟨[(0, .c (.ref 0)), (1, .c (.v tI))], [.sl 9 Y1]⟩
abbrev o60 : Shp := ⟨[(0, .c (.v tI))], [.sl 9 Y1]⟩
noncomputable def c60 : Con := ⟨i60, o60, fun v => laws_markEventS v.1.2.1 v.2.1⟩
noncomputable def l60 : List (Nat × Con) := [(79, c79)]
noncomputable def C60 : Cfg := ⟨T, gam l60, hintOf []⟩
abbrev h60_2 : Shp := ⟨[(0, .c (.ref 0)), (1, .c (.v tI)), (5, .c (.v tI))], [.sl 9 Y1]⟩
noncomputable def j60 (n ℓ : Nat) (σ : St) : Option o60.V := if ℓ = 2 then jump 1 h60_2 (fun v => laws_markEventS_L2 n v.1.2.1 v.1.2.2.1 v.2.1) σ else none
theorem q60_2 (n : Nat) (v : h60_2.V) (ω : List Bool) : loopF C60 c60 Try.f60 (j60 n) 2 ω (h60_2.st 35 v) = laws_markEventS_step2 (laws_markEventS_L2 n) v.1.2.1 v.1.2.2.1 v.2.1 := by kernel_rfl
theorem e60 (n : Nat) (ω : List Bool) (v : i60.V) : enterF C60 c60 Try.f60 (j60 n) ω v = laws_markEventS_entry (laws_markEventS_L2 n) v.1.2.1 v.2.1 := by kernel_rfl
theorem s60 : SoundC Try.prog 60 c60 := sound_by (l := l60) (J := j60) (L := [2]) tOk mx Try.func60 ⟨s79, trivial⟩ (by kernel_rfl) (by kernel_rfl)
  ⟨⟨h60_2, fun n v => laws_markEventS_L2 n v.1.2.1 v.1.2.2.1 v.2.1, fun _ => rfl, fun _ => rfl, q60_2⟩, trivial⟩ FUEL (e60 FUEL)

/-! laws_markReader -/
abbrev i26 : Shp := ⟨[(0, .agg [.v tI, .v tI, .ref 0]), (1, .c (.v tI))], [.sl 9 Y1]⟩
abbrev o26 : Shp := ⟨[(0, .c (.v tI))], [.sl 9 Y1]⟩
noncomputable def c26 : Con := ⟨i26, o26, fun v => laws_markReader v.1.1.1 v.1.1.2.1 v.1.2.1 v.2.1⟩
noncomputable def l26 : List (Nat × Con) := [(60, c60)]
noncomputable def C26 : Cfg := ⟨T, gam l26, hintOf []⟩
theorem e26 (ω : List Bool) (v : i26.V) : enterF C26 c26 Try.f26 (fun _ _ => none) ω v = laws_markReader v.1.1.1 v.1.1.2.1 v.1.2.1 v.2.1 := by kernel_rfl
theorem s26 : SoundC Try.prog 26 c26 := sound_by0 (l := l26) tOk mx Try.func26 ⟨s60, trivial⟩ (by kernel_rfl) (by kernel_rfl) e26

/-! laws_markByteS -/
abbrev i15 : Shp := ⟨[(0, .c (.ref 0)), (1, .c (.v tI))], [.sl 9 tU]⟩
abbrev o15 : Shp := ⟨[(0, .c (.v tI))], [.sl 9 tU]⟩
noncomputable def c15 : Con := ⟨i15, o15, fun v => laws_markByteS v.1.2.1 v.2.1⟩
noncomputable def l15 : List (Nat × Con) := []
noncomputable def C15 : Cfg := ⟨T, gam l15, hintOf []⟩
abbrev h15_2 : Shp := ⟨[(0, .c (.ref 0)), (1, .c (.v tI)), (5, .c (.v tI))], [.sl 9 tU]⟩
noncomputable def j15 (n ℓ : Nat) (σ : St) : Option o15.V := if ℓ = 2 then jump 1 h15_2 (fun v => laws_markByteS_L2 n v.1.2.1 v.1.2.2.1 v.2.1) σ else none
theorem q15_2 (n : Nat) (v : h15_2.V) (ω : List Bool) : loopF C15 c15 Try.f15 (j15 n) 2 ω (h15_2.st 20 v) = laws_markByteS_step2 (laws_markByteS_L2 n) v.1.2.1 v.1.2.2.1 v.2.1 := by kernel_rfl
theorem e15 (n : Nat) (ω : List Bool) (v : i15.V) : enterF C15 c15 Try.f15 (j15 n) ω v = laws_markByteS_entry (laws_markByteS_L2 n) v.1.2.1 v.2.1 := by kernel_rfl
theorem s15 : SoundC Try.prog 15 c15 := sound_by (l := l15) (J := j15) (L := [2]) tOk mx Try.func15 trivial (by kernel_rfl) (by kernel_rfl)
  ⟨⟨h15_2, fun n v => laws_markByteS_L2 n v.1.2.1 v.1.2.2.1 v.2.1, fun _ => rfl, fun _ => rfl, q15_2⟩, trivial⟩ FUEL (e15 FUEL)

/-! laws_heldByteS -/
abbrev i16 : Shp := ⟨[(0, .c (.sl false tU)), (1, .c (.v tI))], []⟩
abbrev o16 : Shp := ⟨[(0, .c (.v tI))], []⟩
noncomputable def c16 : Con := ⟨i16, o16, fun v => laws_heldByteS v.1.1 v.1.2.1⟩
noncomputable def l16 : List (Nat × Con) := []
noncomputable def C16 : Cfg := ⟨T, gam l16, hintOf []⟩
abbrev h16_2 : Shp := ⟨[(0, .c (.sl false tU)), (1, .c (.v tI)), (5, .c (.v tI))], []⟩
noncomputable def j16 (n ℓ : Nat) (σ : St) : Option o16.V := if ℓ = 2 then jump 0 h16_2 (fun v => laws_heldByteS_L2 n v.1.1 v.1.2.1 v.1.2.2.1) σ else none
theorem q16_2 (n : Nat) (v : h16_2.V) (ω : List Bool) : loopF C16 c16 Try.f16 (j16 n) 2 ω (h16_2.st 22 v) = laws_heldByteS_step2 (laws_heldByteS_L2 n) v.1.1 v.1.2.1 v.1.2.2.1 := by kernel_rfl
theorem e16 (n : Nat) (ω : List Bool) (v : i16.V) : enterF C16 c16 Try.f16 (j16 n) ω v = laws_heldByteS_entry (laws_heldByteS_L2 n) v.1.1 v.1.2.1 := by kernel_rfl
theorem s16 : SoundC Try.prog 16 c16 := sound_by (l := l16) (J := j16) (L := [2]) tOk mx Try.func16 trivial (by kernel_rfl) (by kernel_rfl)
  ⟨⟨h16_2, fun n v => laws_heldByteS_L2 n v.1.1 v.1.2.1 v.1.2.2.1, fun _ => rfl, fun _ => rfl, q16_2⟩, trivial⟩ FUEL (e16 FUEL)

/-! laws_FnExactReaderPack -/
abbrev i5 : Shp := ⟨[(0, .row Y2)], []⟩
abbrev o5 : Shp := ⟨[(0, .c (.v .bool))], []⟩
noncomputable def c5 : Con := ⟨i5, o5, fun v => laws_FnExactReaderPack v.1.1⟩
noncomputable def l5 : List (Nat × Con) := [(12, c12), (15, c15), (16, c16), (21, c21), (22, c22), (23, c23), (24, c24), (25, c25), (26, c26)]
noncomputable def C5 : Cfg := ⟨T, gam l5, hintOf [(10, [0, 1, 2, 3, 4, 5])]⟩
theorem e5 (ω : List Bool) (v : i5.V) : enterF C5 c5 Try.f5 (fun _ _ => none) ω v = laws_FnExactReaderPack v.1.1 := by kernel_rfl
theorem s5 : SoundC Try.prog 5 c5 := sound_by0 (l := l5) tOk mx Try.func5 ⟨s12, s15, s16, s21, s22, s23, s24, s25, s26, trivial⟩ (by kernel_rfl) (by kernel_rfl) e5
end Go.Proofs.Ytnlccecnjehooaa.Wk
