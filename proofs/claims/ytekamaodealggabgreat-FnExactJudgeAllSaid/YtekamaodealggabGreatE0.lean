/- Each function computes what was printed: by the kernel. -/
import Derived.Test.YtekamaodealggabGreatG1
import Derived.Test.YtekamaodealggabGreatProg
import Derived.KernelRfl
set_option linter.unusedVariables false
set_option linter.unusedSimpArgs false
namespace Go.Proofs.YtekamaodealggabGreat.Wk
open Go Go.Fw Go.M Go.Proofs
abbrev tI : Ty := .int .i64
abbrev tU : Ty := .int .u8
abbrev Y0 : Ty := (.cons (.sl tI) (.cons tI .unit))
abbrev Y1 : Ty := (.cons tI (.cons tI (.cons .bool (.cons .str .unit))))
abbrev Y2 : Ty := (.cons (.sl Y1) (.cons (.sl Y1) (.cons tI .unit)))
abbrev Y3 : Ty := (.cons (.sl tI) (.cons .bool (.cons tI .unit)))
abbrev Y4 : Ty := (.cons (.sl Y3) (.cons tI .unit))
abbrev Y5 : Ty := (.cons .str (.cons (.sl tI) (.cons .bool .unit)))
abbrev Y6 : Ty := (.cons tI (.cons (.sl Y5) .unit))
abbrev Y7 : Ty := (.cons tI (.cons tI (.cons (.sl tI) (.cons (.sl Y1) (.cons .bool (.cons (.sl (.sl tI)) .unit))))))
abbrev Y8 : Ty := (.cons tI (.cons tI (.cons .str .unit)))
abbrev Y9 : Ty := (.cons tI (.cons tI (.cons (.sl Y8) .unit)))
abbrev Y10 : Ty := (.cons tI (.cons .str (.cons .bool .unit)))
abbrev Y11 : Ty := (.cons (.sl tI) (.cons tI (.cons (.sl Y2) (.cons (.sl tI) (.cons (.sl Y3) (.cons tI (.cons (.sl Y6) (.cons (.sl Y7) (.cons (.sl Y9) (.cons (.sl Y10) (.cons .bool .unit)))))))))))
def T : Tab := [(3, ⟨1, 8, .int .i64, some tI⟩),
  (4, ⟨1, 1, .bool, some .bool⟩),
  (9, ⟨1, 16, .str, some .str⟩),
  (22, ⟨1, 24, .sl 3, some (.sl tI)⟩),
  (24, ⟨2, 32, .st [(0, 22), (1, 3)], some Y0⟩),
  (25, ⟨1, 24, .sl 99, some (.sl Y2)⟩),
  (26, ⟨1, 24, .sl 156, some (.sl Y3)⟩),
  (28, ⟨2, 32, .st [(0, 26), (1, 3)], some Y4⟩),
  (29, ⟨1, 24, .sl 104, some (.sl Y6)⟩),
  (30, ⟨1, 24, .sl 108, some (.sl Y7)⟩),
  (31, ⟨1, 24, .sl 112, some (.sl Y9)⟩),
  (32, ⟨1, 24, .sl 114, some (.sl Y10)⟩),
  (34, ⟨11, 216, .st [(0, 24), (2, 25), (3, 22), (4, 28), (6, 29), (7, 30), (8, 31), (9, 32), (10, 4)], some Y11⟩),
  (36, ⟨1, 24, .sl 66, some (.sl Y10)⟩),
  (38, ⟨2, 32, .st [(0, 22), (1, 3)], some Y0⟩),
  (39, ⟨1, 24, .sl 118, some (.sl Y2)⟩),
  (40, ⟨1, 24, .sl 167, some (.sl Y3)⟩),
  (42, ⟨2, 32, .st [(0, 40), (1, 3)], some Y4⟩),
  (43, ⟨1, 24, .sl 123, some (.sl Y6)⟩),
  (44, ⟨1, 24, .sl 126, some (.sl Y7)⟩),
  (45, ⟨1, 24, .sl 93, some (.sl Y9)⟩),
  (47, ⟨11, 216, .st [(0, 38), (2, 39), (3, 22), (4, 42), (6, 43), (7, 44), (8, 45), (9, 36), (10, 4)], some Y11⟩),
  (66, ⟨3, 32, .st [(0, 3), (1, 9), (2, 4)], some Y10⟩),
  (91, ⟨1, 24, .sl 95, some (.sl Y8)⟩),
  (93, ⟨3, 40, .st [(0, 3), (1, 3), (2, 91)], some Y9⟩),
  (95, ⟨3, 32, .st [(0, 3), (1, 3), (2, 9)], some Y8⟩),
  (97, ⟨1, 24, .sl 186, some (.sl Y1)⟩),
  (99, ⟨3, 56, .st [(0, 97), (1, 97), (2, 3)], some Y2⟩),
  (102, ⟨1, 24, .sl 188, some (.sl Y5)⟩),
  (104, ⟨2, 32, .st [(0, 3), (1, 102)], some Y6⟩),
  (106, ⟨1, 24, .sl 22, some (.sl (.sl tI))⟩),
  (108, ⟨6, 96, .st [(0, 3), (1, 3), (2, 22), (3, 97), (4, 4), (5, 106)], some Y7⟩),
  (110, ⟨1, 24, .sl 190, some (.sl Y8)⟩),
  (112, ⟨3, 40, .st [(0, 3), (1, 3), (2, 110)], some Y9⟩),
  (114, ⟨3, 32, .st [(0, 3), (1, 9), (2, 4)], some Y10⟩),
  (116, ⟨1, 24, .sl 181, some (.sl Y1)⟩),
  (118, ⟨3, 56, .st [(0, 116), (1, 116), (2, 3)], some Y2⟩),
  (121, ⟨1, 24, .sl 183, some (.sl Y5)⟩),
  (123, ⟨2, 32, .st [(0, 3), (1, 121)], some Y6⟩),
  (126, ⟨6, 96, .st [(0, 3), (1, 3), (2, 22), (3, 116), (4, 4), (5, 106)], some Y7⟩),
  (152, ⟨1, 8, .other, none⟩),
  (156, ⟨3, 40, .st [(0, 22), (1, 4), (2, 3)], some Y3⟩),
  (167, ⟨3, 40, .st [(0, 22), (1, 4), (2, 3)], some Y3⟩),
  (172, ⟨1, 8, .ptr 47, none⟩),
  (181, ⟨4, 40, .st [(0, 3), (1, 3), (2, 4), (3, 9)], some Y1⟩),
  (183, ⟨3, 48, .st [(0, 9), (1, 22), (2, 4)], some Y5⟩),
  (186, ⟨4, 40, .st [(0, 3), (1, 3), (2, 4), (3, 9)], some Y1⟩),
  (188, ⟨3, 48, .st [(0, 9), (1, 22), (2, 4)], some Y5⟩),
  (190, ⟨3, 32, .st [(0, 3), (1, 3), (2, 9)], some Y8⟩),
  (206, ⟨1, 24, .sl 4, some (.sl .bool)⟩)]
theorem tOk : TabOk Tryz.prog T := tabOk_of_check (by kernel_rfl)
theorem mx : Tryz.prog.follows .mixedOrders = true := by kernel_rfl

/-! laws_szIntS -/
abbrev i21 : Shp := ⟨[(0, .c (.sl false tI)), (1, .c (.v tI))], []⟩
abbrev o21 : Shp := ⟨[(0, .c (.v tI))], []⟩
noncomputable def c21 : Con := ⟨i21, o21, fun v => laws_szIntS v.1.1 v.1.2.1⟩
noncomputable def l21 : List (Nat × Con) := []
noncomputable def C21 : Cfg := ⟨T, gam l21, hintOf []⟩
theorem e21 (ω : List Bool) (v : i21.V) : enterF C21 c21 Tryz.f21 (fun _ _ => none) ω v = laws_szIntS v.1.1 v.1.2.1 := by kernel_rfl
theorem s21 : SoundC Tryz.prog 21 c21 := sound_by0 (l := l21) tOk mx Tryz.func21 trivial (by kernel_rfl) (by kernel_rfl) e21

/-! laws_szConfig -/
abbrev i19 : Shp := ⟨[(0, .row Y0), (1, .c (.v tI))], []⟩
abbrev o19 : Shp := ⟨[(0, .c (.v tI))], []⟩
noncomputable def c19 : Con := ⟨i19, o19, fun v => laws_szConfig v.1.1 v.1.2.1⟩
noncomputable def l19 : List (Nat × Con) := [(21, c21)]
noncomputable def C19 : Cfg := ⟨T, gam l19, hintOf []⟩
theorem e19 (ω : List Bool) (v : i19.V) : enterF C19 c19 Tryz.f19 (fun _ _ => none) ω v = laws_szConfig v.1.1 v.1.2.1 := by kernel_rfl
theorem s19 : SoundC Tryz.prog 19 c19 := sound_by0 (l := l19) tOk mx Tryz.func19 ⟨s21, trivial⟩ (by kernel_rfl) (by kernel_rfl) e19

/-! laws_szEntry -/
abbrev i152 : Shp := ⟨[(0, .row Y1), (1, .c (.v tI))], []⟩
abbrev o152 : Shp := ⟨[(0, .c (.v tI))], []⟩
noncomputable def c152 : Con := ⟨i152, o152, fun v => laws_szEntry v.1.1 v.1.2.1⟩
noncomputable def l152 : List (Nat × Con) := []
noncomputable def C152 : Cfg := ⟨T, gam l152, hintOf []⟩
theorem e152 (ω : List Bool) (v : i152.V) : enterF C152 c152 Tryz.f152 (fun _ _ => none) ω v = laws_szEntry v.1.1 v.1.2.1 := by kernel_rfl
theorem s152 : SoundC Tryz.prog 152 c152 := sound_by0 (l := l152) tOk mx Tryz.func152 trivial (by kernel_rfl) (by kernel_rfl) e152

/-! laws_szEntryS -/
abbrev i108 : Shp := ⟨[(0, .c (.sl false Y1)), (1, .c (.v tI))], []⟩
abbrev o108 : Shp := ⟨[(0, .c (.v tI))], []⟩
noncomputable def c108 : Con := ⟨i108, o108, fun v => laws_szEntryS v.1.1 v.1.2.1⟩
noncomputable def l108 : List (Nat × Con) := [(152, c152)]
noncomputable def C108 : Cfg := ⟨T, gam l108, hintOf []⟩
abbrev h108_5 : Shp := ⟨[(0, .c (.sl false Y1)), (1, .c (.v tI)), (5, .c (.v tI))], []⟩
noncomputable def j108 (n ℓ : Nat) (σ : St) : Option o108.V := if ℓ = 5 then jump 0 h108_5 (fun v => laws_szEntryS_L5 n v.1.1 v.1.2.1 v.1.2.2.1) σ else none
theorem q108_5 (n : Nat) (v : h108_5.V) (ω : List Bool) : loopF C108 c108 Tryz.f108 (j108 n) 5 ω (h108_5.st 27 v) = laws_szEntryS_step5 (laws_szEntryS_L5 n) v.1.1 v.1.2.1 v.1.2.2.1 := by kernel_rfl
theorem e108 (n : Nat) (ω : List Bool) (v : i108.V) : enterF C108 c108 Tryz.f108 (j108 n) ω v = laws_szEntryS_entry (laws_szEntryS_L5 n) v.1.1 v.1.2.1 := by kernel_rfl
theorem s108 : SoundC Tryz.prog 108 c108 := sound_by (l := l108) (J := j108) (L := [5]) tOk mx Tryz.func108 ⟨s152, trivial⟩ (by kernel_rfl) (by kernel_rfl)
  ⟨⟨h108_5, fun n v => laws_szEntryS_L5 n v.1.1 v.1.2.1 v.1.2.2.1, fun _ => rfl, fun _ => rfl, q108_5⟩, trivial⟩ FUEL (e108 FUEL)

/-! laws_szStore -/
abbrev i65 : Shp := ⟨[(0, .row Y2), (1, .c (.v tI))], []⟩
abbrev o65 : Shp := ⟨[(0, .c (.v tI))], []⟩
noncomputable def c65 : Con := ⟨i65, o65, fun v => laws_szStore v.1.1 v.1.2.1⟩
noncomputable def l65 : List (Nat × Con) := [(108, c108)]
noncomputable def C65 : Cfg := ⟨T, gam l65, hintOf []⟩
theorem e65 (ω : List Bool) (v : i65.V) : enterF C65 c65 Tryz.f65 (fun _ _ => none) ω v = laws_szStore v.1.1 v.1.2.1 := by kernel_rfl
theorem s65 : SoundC Tryz.prog 65 c65 := sound_by0 (l := l65) tOk mx Tryz.func65 ⟨s108, trivial⟩ (by kernel_rfl) (by kernel_rfl) e65

/-! laws_szStoreS -/
abbrev i20 : Shp := ⟨[(0, .c (.sl false Y2)), (1, .c (.v tI))], []⟩
abbrev o20 : Shp := ⟨[(0, .c (.v tI))], []⟩
noncomputable def c20 : Con := ⟨i20, o20, fun v => laws_szStoreS v.1.1 v.1.2.1⟩
noncomputable def l20 : List (Nat × Con) := [(65, c65)]
noncomputable def C20 : Cfg := ⟨T, gam l20, hintOf []⟩
abbrev h20_5 : Shp := ⟨[(0, .c (.sl false Y2)), (1, .c (.v tI)), (5, .c (.v tI))], []⟩
noncomputable def j20 (n ℓ : Nat) (σ : St) : Option o20.V := if ℓ = 5 then jump 0 h20_5 (fun v => laws_szStoreS_L5 n v.1.1 v.1.2.1 v.1.2.2.1) σ else none
theorem q20_5 (n : Nat) (v : h20_5.V) (ω : List Bool) : loopF C20 c20 Tryz.f20 (j20 n) 5 ω (h20_5.st 27 v) = laws_szStoreS_step5 (laws_szStoreS_L5 n) v.1.1 v.1.2.1 v.1.2.2.1 := by kernel_rfl
theorem e20 (n : Nat) (ω : List Bool) (v : i20.V) : enterF C20 c20 Tryz.f20 (j20 n) ω v = laws_szStoreS_entry (laws_szStoreS_L5 n) v.1.1 v.1.2.1 := by kernel_rfl
theorem s20 : SoundC Tryz.prog 20 c20 := sound_by (l := l20) (J := j20) (L := [5]) tOk mx Tryz.func20 ⟨s65, trivial⟩ (by kernel_rfl) (by kernel_rfl)
  ⟨⟨h20_5, fun n v => laws_szStoreS_L5 n v.1.1 v.1.2.1 v.1.2.2.1, fun _ => rfl, fun _ => rfl, q20_5⟩, trivial⟩ FUEL (e20 FUEL)

/-! laws_szEra -/
abbrev i109 : Shp := ⟨[(0, .row Y3), (1, .c (.v tI))], []⟩
abbrev o109 : Shp := ⟨[(0, .c (.v tI))], []⟩
noncomputable def c109 : Con := ⟨i109, o109, fun v => laws_szEra v.1.1 v.1.2.1⟩
noncomputable def l109 : List (Nat × Con) := [(21, c21)]
noncomputable def C109 : Cfg := ⟨T, gam l109, hintOf []⟩
theorem e109 (ω : List Bool) (v : i109.V) : enterF C109 c109 Tryz.f109 (fun _ _ => none) ω v = laws_szEra v.1.1 v.1.2.1 := by kernel_rfl
theorem s109 : SoundC Tryz.prog 109 c109 := sound_by0 (l := l109) tOk mx Tryz.func109 ⟨s21, trivial⟩ (by kernel_rfl) (by kernel_rfl) e109

/-! laws_szEraS -/
abbrev i66 : Shp := ⟨[(0, .c (.sl false Y3)), (1, .c (.v tI))], []⟩
abbrev o66 : Shp := ⟨[(0, .c (.v tI))], []⟩
noncomputable def c66 : Con := ⟨i66, o66, fun v => laws_szEraS v.1.1 v.1.2.1⟩
noncomputable def l66 : List (Nat × Con) := [(109, c109)]
noncomputable def C66 : Cfg := ⟨T, gam l66, hintOf []⟩
abbrev h66_5 : Shp := ⟨[(0, .c (.sl false Y3)), (1, .c (.v tI)), (5, .c (.v tI))], []⟩
noncomputable def j66 (n ℓ : Nat) (σ : St) : Option o66.V := if ℓ = 5 then jump 0 h66_5 (fun v => laws_szEraS_L5 n v.1.1 v.1.2.1 v.1.2.2.1) σ else none
theorem q66_5 (n : Nat) (v : h66_5.V) (ω : List Bool) : loopF C66 c66 Tryz.f66 (j66 n) 5 ω (h66_5.st 27 v) = laws_szEraS_step5 (laws_szEraS_L5 n) v.1.1 v.1.2.1 v.1.2.2.1 := by kernel_rfl
theorem e66 (n : Nat) (ω : List Bool) (v : i66.V) : enterF C66 c66 Tryz.f66 (j66 n) ω v = laws_szEraS_entry (laws_szEraS_L5 n) v.1.1 v.1.2.1 := by kernel_rfl
theorem s66 : SoundC Tryz.prog 66 c66 := sound_by (l := l66) (J := j66) (L := [5]) tOk mx Tryz.func66 ⟨s109, trivial⟩ (by kernel_rfl) (by kernel_rfl)
  ⟨⟨h66_5, fun n v => laws_szEraS_L5 n v.1.1 v.1.2.1 v.1.2.2.1, fun _ => rfl, fun _ => rfl, q66_5⟩, trivial⟩ FUEL (e66 FUEL)

/-! laws_szRegister -/
abbrev i22 : Shp := ⟨[(0, .row Y4), (1, .c (.v tI))], []⟩
abbrev o22 : Shp := ⟨[(0, .c (.v tI))], []⟩
noncomputable def c22 : Con := ⟨i22, o22, fun v => laws_szRegister v.1.1 v.1.2.1⟩
noncomputable def l22 : List (Nat × Con) := [(66, c66)]
noncomputable def C22 : Cfg := ⟨T, gam l22, hintOf []⟩
theorem e22 (ω : List Bool) (v : i22.V) : enterF C22 c22 Tryz.f22 (fun _ _ => none) ω v = laws_szRegister v.1.1 v.1.2.1 := by kernel_rfl
theorem s22 : SoundC Tryz.prog 22 c22 := sound_by0 (l := l22) tOk mx Tryz.func22 ⟨s66, trivial⟩ (by kernel_rfl) (by kernel_rfl) e22

/-! laws_szWord -/
abbrev i153 : Shp := ⟨[(0, .row Y5), (1, .c (.v tI))], []⟩
abbrev o153 : Shp := ⟨[(0, .c (.v tI))], []⟩
noncomputable def c153 : Con := ⟨i153, o153, fun v => laws_szWord v.1.1 v.1.2.1⟩
noncomputable def l153 : List (Nat × Con) := [(21, c21)]
noncomputable def C153 : Cfg := ⟨T, gam l153, hintOf []⟩
theorem e153 (ω : List Bool) (v : i153.V) : enterF C153 c153 Tryz.f153 (fun _ _ => none) ω v = laws_szWord v.1.1 v.1.2.1 := by kernel_rfl
theorem s153 : SoundC Tryz.prog 153 c153 := sound_by0 (l := l153) tOk mx Tryz.func153 ⟨s21, trivial⟩ (by kernel_rfl) (by kernel_rfl) e153

/-! laws_szWordS -/
abbrev i110 : Shp := ⟨[(0, .c (.sl false Y5)), (1, .c (.v tI))], []⟩
abbrev o110 : Shp := ⟨[(0, .c (.v tI))], []⟩
noncomputable def c110 : Con := ⟨i110, o110, fun v => laws_szWordS v.1.1 v.1.2.1⟩
noncomputable def l110 : List (Nat × Con) := [(153, c153)]
noncomputable def C110 : Cfg := ⟨T, gam l110, hintOf []⟩
abbrev h110_5 : Shp := ⟨[(0, .c (.sl false Y5)), (1, .c (.v tI)), (5, .c (.v tI))], []⟩
noncomputable def j110 (n ℓ : Nat) (σ : St) : Option o110.V := if ℓ = 5 then jump 0 h110_5 (fun v => laws_szWordS_L5 n v.1.1 v.1.2.1 v.1.2.2.1) σ else none
theorem q110_5 (n : Nat) (v : h110_5.V) (ω : List Bool) : loopF C110 c110 Tryz.f110 (j110 n) 5 ω (h110_5.st 27 v) = laws_szWordS_step5 (laws_szWordS_L5 n) v.1.1 v.1.2.1 v.1.2.2.1 := by kernel_rfl
theorem e110 (n : Nat) (ω : List Bool) (v : i110.V) : enterF C110 c110 Tryz.f110 (j110 n) ω v = laws_szWordS_entry (laws_szWordS_L5 n) v.1.1 v.1.2.1 := by kernel_rfl
theorem s110 : SoundC Tryz.prog 110 c110 := sound_by (l := l110) (J := j110) (L := [5]) tOk mx Tryz.func110 ⟨s153, trivial⟩ (by kernel_rfl) (by kernel_rfl)
  ⟨⟨h110_5, fun n v => laws_szWordS_L5 n v.1.1 v.1.2.1 v.1.2.2.1, fun _ => rfl, fun _ => rfl, q110_5⟩, trivial⟩ FUEL (e110 FUEL)

/-! laws_szWriter -/
abbrev i67 : Shp := ⟨[(0, .row Y6), (1, .c (.v tI))], []⟩
abbrev o67 : Shp := ⟨[(0, .c (.v tI))], []⟩
noncomputable def c67 : Con := ⟨i67, o67, fun v => laws_szWriter v.1.1 v.1.2.1⟩
noncomputable def l67 : List (Nat × Con) := [(110, c110)]
noncomputable def C67 : Cfg := ⟨T, gam l67, hintOf []⟩
theorem e67 (ω : List Bool) (v : i67.V) : enterF C67 c67 Tryz.f67 (fun _ _ => none) ω v = laws_szWriter v.1.1 v.1.2.1 := by kernel_rfl
theorem s67 : SoundC Tryz.prog 67 c67 := sound_by0 (l := l67) tOk mx Tryz.func67 ⟨s110, trivial⟩ (by kernel_rfl) (by kernel_rfl) e67

/-! laws_szWriterS -/
abbrev i23 : Shp := ⟨[(0, .c (.sl false Y6)), (1, .c (.v tI))], []⟩
abbrev o23 : Shp := ⟨[(0, .c (.v tI))], []⟩
noncomputable def c23 : Con := ⟨i23, o23, fun v => laws_szWriterS v.1.1 v.1.2.1⟩
noncomputable def l23 : List (Nat × Con) := [(67, c67)]
noncomputable def C23 : Cfg := ⟨T, gam l23, hintOf []⟩
abbrev h23_5 : Shp := ⟨[(0, .c (.sl false Y6)), (1, .c (.v tI)), (5, .c (.v tI))], []⟩
noncomputable def j23 (n ℓ : Nat) (σ : St) : Option o23.V := if ℓ = 5 then jump 0 h23_5 (fun v => laws_szWriterS_L5 n v.1.1 v.1.2.1 v.1.2.2.1) σ else none
theorem q23_5 (n : Nat) (v : h23_5.V) (ω : List Bool) : loopF C23 c23 Tryz.f23 (j23 n) 5 ω (h23_5.st 27 v) = laws_szWriterS_step5 (laws_szWriterS_L5 n) v.1.1 v.1.2.1 v.1.2.2.1 := by kernel_rfl
theorem e23 (n : Nat) (ω : List Bool) (v : i23.V) : enterF C23 c23 Tryz.f23 (j23 n) ω v = laws_szWriterS_entry (laws_szWriterS_L5 n) v.1.1 v.1.2.1 := by kernel_rfl
theorem s23 : SoundC Tryz.prog 23 c23 := sound_by (l := l23) (J := j23) (L := [5]) tOk mx Tryz.func23 ⟨s67, trivial⟩ (by kernel_rfl) (by kernel_rfl)
  ⟨⟨h23_5, fun n v => laws_szWriterS_L5 n v.1.1 v.1.2.1 v.1.2.2.1, fun _ => rfl, fun _ => rfl, q23_5⟩, trivial⟩ FUEL (e23 FUEL)

/-! laws_szIntSS -/
abbrev i111 : Shp := ⟨[(0, .c (.sl false (.sl tI))), (1, .c (.v tI))], []⟩
abbrev o111 : Shp := ⟨[(0, .c (.v tI))], []⟩
noncomputable def c111 : Con := ⟨i111, o111, fun v => laws_szIntSS v.1.1 v.1.2.1⟩
noncomputable def l111 : List (Nat × Con) := [(21, c21)]
noncomputable def C111 : Cfg := ⟨T, gam l111, hintOf []⟩
abbrev h111_5 : Shp := ⟨[(0, .c (.sl false (.sl tI))), (1, .c (.v tI)), (5, .c (.v tI))], []⟩
noncomputable def j111 (n ℓ : Nat) (σ : St) : Option o111.V := if ℓ = 5 then jump 0 h111_5 (fun v => laws_szIntSS_L5 n v.1.1 v.1.2.1 v.1.2.2.1) σ else none
theorem q111_5 (n : Nat) (v : h111_5.V) (ω : List Bool) : loopF C111 c111 Tryz.f111 (j111 n) 5 ω (h111_5.st 27 v) = laws_szIntSS_step5 (laws_szIntSS_L5 n) v.1.1 v.1.2.1 v.1.2.2.1 := by kernel_rfl
theorem e111 (n : Nat) (ω : List Bool) (v : i111.V) : enterF C111 c111 Tryz.f111 (j111 n) ω v = laws_szIntSS_entry (laws_szIntSS_L5 n) v.1.1 v.1.2.1 := by kernel_rfl
theorem s111 : SoundC Tryz.prog 111 c111 := sound_by (l := l111) (J := j111) (L := [5]) tOk mx Tryz.func111 ⟨s21, trivial⟩ (by kernel_rfl) (by kernel_rfl)
  ⟨⟨h111_5, fun n v => laws_szIntSS_L5 n v.1.1 v.1.2.1 v.1.2.2.1, fun _ => rfl, fun _ => rfl, q111_5⟩, trivial⟩ FUEL (e111 FUEL)

/-! laws_szMend -/
abbrev i68 : Shp := ⟨[(0, .row Y7), (1, .c (.v tI))], []⟩
abbrev o68 : Shp := ⟨[(0, .c (.v tI))], []⟩
noncomputable def c68 : Con := ⟨i68, o68, fun v => laws_szMend v.1.1 v.1.2.1⟩
noncomputable def l68 : List (Nat × Con) := [(21, c21), (108, c108), (111, c111)]
noncomputable def C68 : Cfg := ⟨T, gam l68, hintOf []⟩
theorem e68 (ω : List Bool) (v : i68.V) : enterF C68 c68 Tryz.f68 (fun _ _ => none) ω v = laws_szMend v.1.1 v.1.2.1 := by kernel_rfl
theorem s68 : SoundC Tryz.prog 68 c68 := sound_by0 (l := l68) tOk mx Tryz.func68 ⟨s21, s108, s111, trivial⟩ (by kernel_rfl) (by kernel_rfl) e68

/-! laws_szMendS -/
abbrev i24 : Shp := ⟨[(0, .c (.sl false Y7)), (1, .c (.v tI))], []⟩
abbrev o24 : Shp := ⟨[(0, .c (.v tI))], []⟩
noncomputable def c24 : Con := ⟨i24, o24, fun v => laws_szMendS v.1.1 v.1.2.1⟩
noncomputable def l24 : List (Nat × Con) := [(68, c68)]
noncomputable def C24 : Cfg := ⟨T, gam l24, hintOf []⟩
abbrev h24_5 : Shp := ⟨[(0, .c (.sl false Y7)), (1, .c (.v tI)), (5, .c (.v tI))], []⟩
noncomputable def j24 (n ℓ : Nat) (σ : St) : Option o24.V := if ℓ = 5 then jump 0 h24_5 (fun v => laws_szMendS_L5 n v.1.1 v.1.2.1 v.1.2.2.1) σ else none
theorem q24_5 (n : Nat) (v : h24_5.V) (ω : List Bool) : loopF C24 c24 Tryz.f24 (j24 n) 5 ω (h24_5.st 27 v) = laws_szMendS_step5 (laws_szMendS_L5 n) v.1.1 v.1.2.1 v.1.2.2.1 := by kernel_rfl
theorem e24 (n : Nat) (ω : List Bool) (v : i24.V) : enterF C24 c24 Tryz.f24 (j24 n) ω v = laws_szMendS_entry (laws_szMendS_L5 n) v.1.1 v.1.2.1 := by kernel_rfl
theorem s24 : SoundC Tryz.prog 24 c24 := sound_by (l := l24) (J := j24) (L := [5]) tOk mx Tryz.func24 ⟨s68, trivial⟩ (by kernel_rfl) (by kernel_rfl)
  ⟨⟨h24_5, fun n v => laws_szMendS_L5 n v.1.1 v.1.2.1 v.1.2.2.1, fun _ => rfl, fun _ => rfl, q24_5⟩, trivial⟩ FUEL (e24 FUEL)

/-! laws_szEvent -/
abbrev i154 : Shp := ⟨[(0, .row Y8), (1, .c (.v tI))], []⟩
abbrev o154 : Shp := ⟨[(0, .c (.v tI))], []⟩
noncomputable def c154 : Con := ⟨i154, o154, fun v => laws_szEvent v.1.1 v.1.2.1⟩
noncomputable def l154 : List (Nat × Con) := []
noncomputable def C154 : Cfg := ⟨T, gam l154, hintOf []⟩
theorem e154 (ω : List Bool) (v : i154.V) : enterF C154 c154 Tryz.f154 (fun _ _ => none) ω v = laws_szEvent v.1.1 v.1.2.1 := by kernel_rfl
theorem s154 : SoundC Tryz.prog 154 c154 := sound_by0 (l := l154) tOk mx Tryz.func154 trivial (by kernel_rfl) (by kernel_rfl) e154

/-! laws_szEventS -/
abbrev i112 : Shp := ⟨[(0, .c (.sl false Y8)), (1, .c (.v tI))], []⟩
abbrev o112 : Shp := ⟨[(0, .c (.v tI))], []⟩
noncomputable def c112 : Con := ⟨i112, o112, fun v => laws_szEventS v.1.1 v.1.2.1⟩
noncomputable def l112 : List (Nat × Con) := [(154, c154)]
noncomputable def C112 : Cfg := ⟨T, gam l112, hintOf []⟩
abbrev h112_5 : Shp := ⟨[(0, .c (.sl false Y8)), (1, .c (.v tI)), (5, .c (.v tI))], []⟩
noncomputable def j112 (n ℓ : Nat) (σ : St) : Option o112.V := if ℓ = 5 then jump 0 h112_5 (fun v => laws_szEventS_L5 n v.1.1 v.1.2.1 v.1.2.2.1) σ else none
theorem q112_5 (n : Nat) (v : h112_5.V) (ω : List Bool) : loopF C112 c112 Tryz.f112 (j112 n) 5 ω (h112_5.st 27 v) = laws_szEventS_step5 (laws_szEventS_L5 n) v.1.1 v.1.2.1 v.1.2.2.1 := by kernel_rfl
theorem e112 (n : Nat) (ω : List Bool) (v : i112.V) : enterF C112 c112 Tryz.f112 (j112 n) ω v = laws_szEventS_entry (laws_szEventS_L5 n) v.1.1 v.1.2.1 := by kernel_rfl
theorem s112 : SoundC Tryz.prog 112 c112 := sound_by (l := l112) (J := j112) (L := [5]) tOk mx Tryz.func112 ⟨s154, trivial⟩ (by kernel_rfl) (by kernel_rfl)
  ⟨⟨h112_5, fun n v => laws_szEventS_L5 n v.1.1 v.1.2.1 v.1.2.2.1, fun _ => rfl, fun _ => rfl, q112_5⟩, trivial⟩ FUEL (e112 FUEL)

/-! laws_szReader -/
abbrev i69 : Shp := ⟨[(0, .row Y9), (1, .c (.v tI))], []⟩
abbrev o69 : Shp := ⟨[(0, .c (.v tI))], []⟩
noncomputable def c69 : Con := ⟨i69, o69, fun v => laws_szReader v.1.1 v.1.2.1⟩
noncomputable def l69 : List (Nat × Con) := [(112, c112)]
noncomputable def C69 : Cfg := ⟨T, gam l69, hintOf []⟩
theorem e69 (ω : List Bool) (v : i69.V) : enterF C69 c69 Tryz.f69 (fun _ _ => none) ω v = laws_szReader v.1.1 v.1.2.1 := by kernel_rfl
theorem s69 : SoundC Tryz.prog 69 c69 := sound_by0 (l := l69) tOk mx Tryz.func69 ⟨s112, trivial⟩ (by kernel_rfl) (by kernel_rfl) e69

/-! laws_szReaderS -/
abbrev i25 : Shp := ⟨[(0, .c (.sl false Y9)), (1, .c (.v tI))], []⟩
abbrev o25 : Shp := ⟨[(0, .c (.v tI))], []⟩
noncomputable def c25 : Con := ⟨i25, o25, fun v => laws_szReaderS v.1.1 v.1.2.1⟩
noncomputable def l25 : List (Nat × Con) := [(69, c69)]
noncomputable def C25 : Cfg := ⟨T, gam l25, hintOf []⟩
abbrev h25_5 : Shp := ⟨[(0, .c (.sl false Y9)), (1, .c (.v tI)), (5, .c (.v tI))], []⟩
noncomputable def j25 (n ℓ : Nat) (σ : St) : Option o25.V := if ℓ = 5 then jump 0 h25_5 (fun v => laws_szReaderS_L5 n v.1.1 v.1.2.1 v.1.2.2.1) σ else none
theorem q25_5 (n : Nat) (v : h25_5.V) (ω : List Bool) : loopF C25 c25 Tryz.f25 (j25 n) 5 ω (h25_5.st 27 v) = laws_szReaderS_step5 (laws_szReaderS_L5 n) v.1.1 v.1.2.1 v.1.2.2.1 := by kernel_rfl
theorem e25 (n : Nat) (ω : List Bool) (v : i25.V) : enterF C25 c25 Tryz.f25 (j25 n) ω v = laws_szReaderS_entry (laws_szReaderS_L5 n) v.1.1 v.1.2.1 := by kernel_rfl
theorem s25 : SoundC Tryz.prog 25 c25 := sound_by (l := l25) (J := j25) (L := [5]) tOk mx Tryz.func25 ⟨s69, trivial⟩ (by kernel_rfl) (by kernel_rfl)
  ⟨⟨h25_5, fun n v => laws_szReaderS_L5 n v.1.1 v.1.2.1 v.1.2.2.1, fun _ => rfl, fun _ => rfl, q25_5⟩, trivial⟩ FUEL (e25 FUEL)

/-! laws_szSent -/
abbrev i70 : Shp := ⟨[(0, .row Y10), (1, .c (.v tI))], []⟩
abbrev o70 : Shp := ⟨[(0, .c (.v tI))], []⟩
noncomputable def c70 : Con := ⟨i70, o70, fun v => laws_szSent v.1.1 v.1.2.1⟩
noncomputable def l70 : List (Nat × Con) := []
noncomputable def C70 : Cfg := ⟨T, gam l70, hintOf []⟩
theorem e70 (ω : List Bool) (v : i70.V) : enterF C70 c70 Tryz.f70 (fun _ _ => none) ω v = laws_szSent v.1.1 v.1.2.1 := by kernel_rfl
theorem s70 : SoundC Tryz.prog 70 c70 := sound_by0 (l := l70) tOk mx Tryz.func70 trivial (by kernel_rfl) (by kernel_rfl) e70

/-! laws_szSentS -/
abbrev i26 : Shp := ⟨[(0, .c (.sl false Y10)), (1, .c (.v tI))], []⟩
abbrev o26 : Shp := ⟨[(0, .c (.v tI))], []⟩
noncomputable def c26 : Con := ⟨i26, o26, fun v => laws_szSentS v.1.1 v.1.2.1⟩
noncomputable def l26 : List (Nat × Con) := [(70, c70)]
noncomputable def C26 : Cfg := ⟨T, gam l26, hintOf []⟩
abbrev h26_5 : Shp := ⟨[(0, .c (.sl false Y10)), (1, .c (.v tI)), (5, .c (.v tI))], []⟩
noncomputable def j26 (n ℓ : Nat) (σ : St) : Option o26.V := if ℓ = 5 then jump 0 h26_5 (fun v => laws_szSentS_L5 n v.1.1 v.1.2.1 v.1.2.2.1) σ else none
theorem q26_5 (n : Nat) (v : h26_5.V) (ω : List Bool) : loopF C26 c26 Tryz.f26 (j26 n) 5 ω (h26_5.st 27 v) = laws_szSentS_step5 (laws_szSentS_L5 n) v.1.1 v.1.2.1 v.1.2.2.1 := by kernel_rfl
theorem e26 (n : Nat) (ω : List Bool) (v : i26.V) : enterF C26 c26 Tryz.f26 (j26 n) ω v = laws_szSentS_entry (laws_szSentS_L5 n) v.1.1 v.1.2.1 := by kernel_rfl
theorem s26 : SoundC Tryz.prog 26 c26 := sound_by (l := l26) (J := j26) (L := [5]) tOk mx Tryz.func26 ⟨s70, trivial⟩ (by kernel_rfl) (by kernel_rfl)
  ⟨⟨h26_5, fun n v => laws_szSentS_L5 n v.1.1 v.1.2.1 v.1.2.2.1, fun _ => rfl, fun _ => rfl, q26_5⟩, trivial⟩ FUEL (e26 FUEL)

/-! laws_szWorld -/
abbrev i6 : Shp := ⟨[(0, .row Y11), (1, .c (.v tI))], []⟩
abbrev o6 : Shp := ⟨[(0, .c (.v tI))], []⟩
noncomputable def c6 : Con := ⟨i6, o6, fun v => laws_szWorld v.1.1 v.1.2.1⟩
noncomputable def l6 : List (Nat × Con) := [(19, c19), (20, c20), (21, c21), (22, c22), (23, c23), (24, c24), (25, c25), (26, c26)]
noncomputable def C6 : Cfg := ⟨T, gam l6, hintOf []⟩
theorem e6 (ω : List Bool) (v : i6.V) : enterF C6 c6 Tryz.f6 (fun _ _ => none) ω v = laws_szWorld v.1.1 v.1.2.1 := by kernel_rfl
theorem s6 : SoundC Tryz.prog 6 c6 := sound_by0 (l := l6) tOk mx Tryz.func6 ⟨s19, s20, s21, s22, s23, s24, s25, s26, trivial⟩ (by kernel_rfl) (by kernel_rfl) e6

/-! laws_toIntS -/
abbrev i30 : Shp := ⟨[(0, .c (.sl false tI))], []⟩
abbrev o30 : Shp := ⟨[(0, .c (.ref 0))], [.sl 9 tI]⟩
noncomputable def c30 : Con := ⟨i30, o30, fun v => laws_toIntS v.1.1⟩
noncomputable def l30 : List (Nat × Con) := []
noncomputable def C30 : Cfg := ⟨T, gam l30, hintOf []⟩
abbrev h30_3 : Shp := ⟨[(0, .c (.sl false tI)), (3, .c (.ref 0)), (4, .c (.v tI))], [.sl 9 tI]⟩
noncomputable def j30 (n ℓ : Nat) (σ : St) : Option o30.V := if ℓ = 3 then jump 0 h30_3 (fun v => laws_toIntS_L3 n v.1.1 v.1.2.2.1 v.2.1) σ else none
theorem q30_3 (n : Nat) (v : h30_3.V) (ω : List Bool) : loopF C30 c30 Tryz.f30 (j30 n) 3 ω (h30_3.st 22 v) = laws_toIntS_step3 (laws_toIntS_L3 n) v.1.1 v.1.2.2.1 v.2.1 := by kernel_rfl
theorem e30 (n : Nat) (ω : List Bool) (v : i30.V) : enterF C30 c30 Tryz.f30 (j30 n) ω v = laws_toIntS_entry (laws_toIntS_L3 n) v.1.1 := by kernel_rfl
theorem s30 : SoundC Tryz.prog 30 c30 := sound_by (l := l30) (J := j30) (L := [3]) tOk mx Tryz.func30 trivial (by kernel_rfl) (by kernel_rfl)
  ⟨⟨h30_3, fun n v => laws_toIntS_L3 n v.1.1 v.1.2.2.1 v.2.1, fun _ => rfl, fun _ => rfl, q30_3⟩, trivial⟩ FUEL (e30 FUEL)

/-! laws_toConfig -/
abbrev i28 : Shp := ⟨[(0, .row Y0)], []⟩
abbrev o28 : Shp := ⟨[(0, .agg [.ref 0, .v tI])], [.sl 9 tI]⟩
noncomputable def c28 : Con := ⟨i28, o28, fun v => laws_toConfig v.1.1⟩
noncomputable def l28 : List (Nat × Con) := [(30, c30)]
noncomputable def C28 : Cfg := ⟨T, gam l28, hintOf []⟩
theorem e28 (ω : List Bool) (v : i28.V) : enterF C28 c28 Tryz.f28 (fun _ _ => none) ω v = laws_toConfig v.1.1 := by kernel_rfl
theorem s28 : SoundC Tryz.prog 28 c28 := sound_by0 (l := l28) tOk mx Tryz.func28 ⟨s30, trivial⟩ (by kernel_rfl) (by kernel_rfl) e28

/-! laws_toEntry -/
abbrev i161 : Shp := ⟨[(0, .row Y1)], []⟩
abbrev o161 : Shp := ⟨[(0, .agg [.v tI, .v tI, .v .bool, .v .str])], []⟩
noncomputable def c161 : Con := ⟨i161, o161, fun v => laws_toEntry v.1.1⟩
noncomputable def l161 : List (Nat × Con) := []
noncomputable def C161 : Cfg := ⟨T, gam l161, hintOf []⟩
theorem e161 (ω : List Bool) (v : i161.V) : enterF C161 c161 Tryz.f161 (fun _ _ => none) ω v = laws_toEntry v.1.1 := by kernel_rfl
theorem s161 : SoundC Tryz.prog 161 c161 := sound_by0 (l := l161) tOk mx Tryz.func161 trivial (by kernel_rfl) (by kernel_rfl) e161

/-! laws_toEntryS -/
abbrev i125 : Shp := ⟨[(0, .c (.sl false Y1))], []⟩
abbrev o125 : Shp := ⟨[(0, .c (.ref 0))], [.sl 9 Y1]⟩
noncomputable def c125 : Con := ⟨i125, o125, fun v => laws_toEntryS v.1.1⟩
noncomputable def l125 : List (Nat × Con) := [(161, c161)]
noncomputable def C125 : Cfg := ⟨T, gam l125, hintOf []⟩
abbrev h125_3 : Shp := ⟨[(0, .c (.sl false Y1)), (3, .c (.ref 0)), (4, .c (.v tI))], [.sl 9 Y1]⟩
noncomputable def j125 (n ℓ : Nat) (σ : St) : Option o125.V := if ℓ = 3 then jump 0 h125_3 (fun v => laws_toEntryS_L3 n v.1.1 v.1.2.2.1 v.2.1) σ else none
theorem q125_3 (n : Nat) (v : h125_3.V) (ω : List Bool) : loopF C125 c125 Tryz.f125 (j125 n) 3 ω (h125_3.st 23 v) = laws_toEntryS_step3 (laws_toEntryS_L3 n) v.1.1 v.1.2.2.1 v.2.1 := by kernel_rfl
theorem e125 (n : Nat) (ω : List Bool) (v : i125.V) : enterF C125 c125 Tryz.f125 (j125 n) ω v = laws_toEntryS_entry (laws_toEntryS_L3 n) v.1.1 := by kernel_rfl
theorem s125 : SoundC Tryz.prog 125 c125 := sound_by (l := l125) (J := j125) (L := [3]) tOk mx Tryz.func125 ⟨s161, trivial⟩ (by kernel_rfl) (by kernel_rfl)
  ⟨⟨h125_3, fun n v => laws_toEntryS_L3 n v.1.1 v.1.2.2.1 v.2.1, fun _ => rfl, fun _ => rfl, q125_3⟩, trivial⟩ FUEL (e125 FUEL)

/-! laws_toStore -/
abbrev i75 : Shp := ⟨[(0, .row Y2)], []⟩
abbrev o75 : Shp := ⟨[(0, .agg [.ref 0, .ref 1, .v tI])], [.sl 9 Y1, .sl 9 Y1]⟩
noncomputable def c75 : Con := ⟨i75, o75, fun v => laws_toStore v.1.1⟩
noncomputable def l75 : List (Nat × Con) := [(125, c125)]
noncomputable def C75 : Cfg := ⟨T, gam l75, hintOf []⟩
theorem e75 (ω : List Bool) (v : i75.V) : enterF C75 c75 Tryz.f75 (fun _ _ => none) ω v = laws_toStore v.1.1 := by kernel_rfl
theorem s75 : SoundC Tryz.prog 75 c75 := sound_by0 (l := l75) tOk mx Tryz.func75 ⟨s125, trivial⟩ (by kernel_rfl) (by kernel_rfl) e75

/-! laws_toStoreS -/
abbrev i29 : Shp := ⟨[(0, .c (.sl false Y2))], []⟩
abbrev o29 : Shp := ⟨[(0, .c (.ref 0))], [.sl 9 Y2]⟩
noncomputable def c29 : Con := ⟨i29, o29, fun v => laws_toStoreS v.1.1⟩
noncomputable def l29 : List (Nat × Con) := [(75, c75)]
noncomputable def C29 : Cfg := ⟨T, gam l29, hintOf []⟩
abbrev h29_3 : Shp := ⟨[(0, .c (.sl false Y2)), (3, .c (.ref 0)), (4, .c (.v tI))], [.sl 9 Y2]⟩
noncomputable def j29 (n ℓ : Nat) (σ : St) : Option o29.V := if ℓ = 3 then jump 0 h29_3 (fun v => laws_toStoreS_L3 n v.1.1 v.1.2.2.1 v.2.1) σ else none
theorem q29_3 (n : Nat) (v : h29_3.V) (ω : List Bool) : loopF C29 c29 Tryz.f29 (j29 n) 3 ω (h29_3.st 23 v) = laws_toStoreS_step3 (laws_toStoreS_L3 n) v.1.1 v.1.2.2.1 v.2.1 := by kernel_rfl
theorem e29 (n : Nat) (ω : List Bool) (v : i29.V) : enterF C29 c29 Tryz.f29 (j29 n) ω v = laws_toStoreS_entry (laws_toStoreS_L3 n) v.1.1 := by kernel_rfl
theorem s29 : SoundC Tryz.prog 29 c29 := sound_by (l := l29) (J := j29) (L := [3]) tOk mx Tryz.func29 ⟨s75, trivial⟩ (by kernel_rfl) (by kernel_rfl)
  ⟨⟨h29_3, fun n v => laws_toStoreS_L3 n v.1.1 v.1.2.2.1 v.2.1, fun _ => rfl, fun _ => rfl, q29_3⟩, trivial⟩ FUEL (e29 FUEL)

/-! laws_toEra -/
abbrev i126 : Shp := ⟨[(0, .row Y3)], []⟩
abbrev o126 : Shp := ⟨[(0, .agg [.ref 0, .v .bool, .v tI])], [.sl 9 tI]⟩
noncomputable def c126 : Con := ⟨i126, o126, fun v => laws_toEra v.1.1⟩
noncomputable def l126 : List (Nat × Con) := [(30, c30)]
noncomputable def C126 : Cfg := ⟨T, gam l126, hintOf []⟩
theorem e126 (ω : List Bool) (v : i126.V) : enterF C126 c126 Tryz.f126 (fun _ _ => none) ω v = laws_toEra v.1.1 := by kernel_rfl
theorem s126 : SoundC Tryz.prog 126 c126 := sound_by0 (l := l126) tOk mx Tryz.func126 ⟨s30, trivial⟩ (by kernel_rfl) (by kernel_rfl) e126

/-! laws_toEraS -/
abbrev i76 : Shp := ⟨[(0, .c (.sl false Y3))], []⟩
abbrev o76 : Shp := ⟨[(0, .c (.ref 0))], [.sl 9 Y3]⟩
noncomputable def c76 : Con := ⟨i76, o76, fun v => laws_toEraS v.1.1⟩
noncomputable def l76 : List (Nat × Con) := [(126, c126)]
noncomputable def C76 : Cfg := ⟨T, gam l76, hintOf []⟩
abbrev h76_3 : Shp := ⟨[(0, .c (.sl false Y3)), (3, .c (.ref 0)), (4, .c (.v tI))], [.sl 9 Y3]⟩
noncomputable def j76 (n ℓ : Nat) (σ : St) : Option o76.V := if ℓ = 3 then jump 0 h76_3 (fun v => laws_toEraS_L3 n v.1.1 v.1.2.2.1 v.2.1) σ else none
theorem q76_3 (n : Nat) (v : h76_3.V) (ω : List Bool) : loopF C76 c76 Tryz.f76 (j76 n) 3 ω (h76_3.st 23 v) = laws_toEraS_step3 (laws_toEraS_L3 n) v.1.1 v.1.2.2.1 v.2.1 := by kernel_rfl
theorem e76 (n : Nat) (ω : List Bool) (v : i76.V) : enterF C76 c76 Tryz.f76 (j76 n) ω v = laws_toEraS_entry (laws_toEraS_L3 n) v.1.1 := by kernel_rfl
theorem s76 : SoundC Tryz.prog 76 c76 := sound_by (l := l76) (J := j76) (L := [3]) tOk mx Tryz.func76 ⟨s126, trivial⟩ (by kernel_rfl) (by kernel_rfl)
  ⟨⟨h76_3, fun n v => laws_toEraS_L3 n v.1.1 v.1.2.2.1 v.2.1, fun _ => rfl, fun _ => rfl, q76_3⟩, trivial⟩ FUEL (e76 FUEL)

/-! laws_toRegister -/
abbrev i31 : Shp := ⟨[(0, .row Y4)], []⟩
abbrev o31 : Shp := ⟨[(0, .agg [.ref 0, .v tI])], [.sl 9 Y3]⟩
noncomputable def c31 : Con := ⟨i31, o31, fun v => laws_toRegister v.1.1⟩
noncomputable def l31 : List (Nat × Con) := [(76, c76)]
noncomputable def C31 : Cfg := ⟨T, gam l31, hintOf []⟩
theorem e31 (ω : List Bool) (v : i31.V) : enterF C31 c31 Tryz.f31 (fun _ _ => none) ω v = laws_toRegister v.1.1 := by kernel_rfl
theorem s31 : SoundC Tryz.prog 31 c31 := sound_by0 (l := l31) tOk mx Tryz.func31 ⟨s76, trivial⟩ (by kernel_rfl) (by kernel_rfl) e31

/-! laws_toWord -/
abbrev i162 : Shp := ⟨[(0, .row Y5)], []⟩
abbrev o162 : Shp := ⟨[(0, .agg [.v .str, .ref 0, .v .bool])], [.sl 9 tI]⟩
noncomputable def c162 : Con := ⟨i162, o162, fun v => laws_toWord v.1.1⟩
noncomputable def l162 : List (Nat × Con) := [(30, c30)]
noncomputable def C162 : Cfg := ⟨T, gam l162, hintOf []⟩
theorem e162 (ω : List Bool) (v : i162.V) : enterF C162 c162 Tryz.f162 (fun _ _ => none) ω v = laws_toWord v.1.1 := by kernel_rfl
theorem s162 : SoundC Tryz.prog 162 c162 := sound_by0 (l := l162) tOk mx Tryz.func162 ⟨s30, trivial⟩ (by kernel_rfl) (by kernel_rfl) e162

/-! laws_toWordS -/
abbrev i127 : Shp := ⟨[(0, .c (.sl false Y5))], []⟩
abbrev o127 : Shp := ⟨[(0, .c (.ref 0))], [.sl 9 Y5]⟩
noncomputable def c127 : Con := ⟨i127, o127, fun v => laws_toWordS v.1.1⟩
noncomputable def l127 : List (Nat × Con) := [(162, c162)]
noncomputable def C127 : Cfg := ⟨T, gam l127, hintOf []⟩
abbrev h127_3 : Shp := ⟨[(0, .c (.sl false Y5)), (3, .c (.ref 0)), (4, .c (.v tI))], [.sl 9 Y5]⟩
noncomputable def j127 (n ℓ : Nat) (σ : St) : Option o127.V := if ℓ = 3 then jump 0 h127_3 (fun v => laws_toWordS_L3 n v.1.1 v.1.2.2.1 v.2.1) σ else none
theorem q127_3 (n : Nat) (v : h127_3.V) (ω : List Bool) : loopF C127 c127 Tryz.f127 (j127 n) 3 ω (h127_3.st 23 v) = laws_toWordS_step3 (laws_toWordS_L3 n) v.1.1 v.1.2.2.1 v.2.1 := by kernel_rfl
theorem e127 (n : Nat) (ω : List Bool) (v : i127.V) : enterF C127 c127 Tryz.f127 (j127 n) ω v = laws_toWordS_entry (laws_toWordS_L3 n) v.1.1 := by kernel_rfl
theorem s127 : SoundC Tryz.prog 127 c127 := sound_by (l := l127) (J := j127) (L := [3]) tOk mx Tryz.func127 ⟨s162, trivial⟩ (by kernel_rfl) (by kernel_rfl)
  ⟨⟨h127_3, fun n v => laws_toWordS_L3 n v.1.1 v.1.2.2.1 v.2.1, fun _ => rfl, fun _ => rfl, q127_3⟩, trivial⟩ FUEL (e127 FUEL)

/-! laws_toWriter -/
abbrev i77 : Shp := ⟨[(0, .row Y6)], []⟩
abbrev o77 : Shp := ⟨[(0, .agg [.v tI, .ref 0])], [.sl 9 Y5]⟩
noncomputable def c77 : Con := ⟨i77, o77, fun v => laws_toWriter v.1.1⟩
noncomputable def l77 : List (Nat × Con) := [(127, c127)]
noncomputable def C77 : Cfg := ⟨T, gam l77, hintOf []⟩
theorem e77 (ω : List Bool) (v : i77.V) : enterF C77 c77 Tryz.f77 (fun _ _ => none) ω v = laws_toWriter v.1.1 := by kernel_rfl
theorem s77 : SoundC Tryz.prog 77 c77 := sound_by0 (l := l77) tOk mx Tryz.func77 ⟨s127, trivial⟩ (by kernel_rfl) (by kernel_rfl) e77

/-! laws_toWriterS -/
abbrev i32 : Shp := ⟨[(0, .c (.sl false Y6))], []⟩
abbrev o32 : Shp := ⟨[(0, .c (.ref 0))], [.sl 9 Y6]⟩
noncomputable def c32 : Con := ⟨i32, o32, fun v => laws_toWriterS v.1.1⟩
noncomputable def l32 : List (Nat × Con) := [(77, c77)]
noncomputable def C32 : Cfg := ⟨T, gam l32, hintOf []⟩
abbrev h32_3 : Shp := ⟨[(0, .c (.sl false Y6)), (3, .c (.ref 0)), (4, .c (.v tI))], [.sl 9 Y6]⟩
noncomputable def j32 (n ℓ : Nat) (σ : St) : Option o32.V := if ℓ = 3 then jump 0 h32_3 (fun v => laws_toWriterS_L3 n v.1.1 v.1.2.2.1 v.2.1) σ else none
theorem q32_3 (n : Nat) (v : h32_3.V) (ω : List Bool) : loopF C32 c32 Tryz.f32 (j32 n) 3 ω (h32_3.st 23 v) = laws_toWriterS_step3 (laws_toWriterS_L3 n) v.1.1 v.1.2.2.1 v.2.1 := by kernel_rfl
theorem e32 (n : Nat) (ω : List Bool) (v : i32.V) : enterF C32 c32 Tryz.f32 (j32 n) ω v = laws_toWriterS_entry (laws_toWriterS_L3 n) v.1.1 := by kernel_rfl
theorem s32 : SoundC Tryz.prog 32 c32 := sound_by (l := l32) (J := j32) (L := [3]) tOk mx Tryz.func32 ⟨s77, trivial⟩ (by kernel_rfl) (by kernel_rfl)
  ⟨⟨h32_3, fun n v => laws_toWriterS_L3 n v.1.1 v.1.2.2.1 v.2.1, fun _ => rfl, fun _ => rfl, q32_3⟩, trivial⟩ FUEL (e32 FUEL)

/-! laws_toIntSS -/
abbrev i128 : Shp := ⟨[(0, .c (.sl false (.sl tI)))], []⟩
abbrev o128 : Shp := ⟨[(0, .c (.ref 0))], [.sl 9 (.sl tI)]⟩
noncomputable def c128 : Con := ⟨i128, o128, fun v => laws_toIntSS v.1.1⟩
noncomputable def l128 : List (Nat × Con) := [(30, c30)]
noncomputable def C128 : Cfg := ⟨T, gam l128, hintOf []⟩
abbrev h128_3 : Shp := ⟨[(0, .c (.sl false (.sl tI))), (3, .c (.ref 0)), (4, .c (.v tI))], [.sl 9 (.sl tI)]⟩
noncomputable def j128 (n ℓ : Nat) (σ : St) : Option o128.V := if ℓ = 3 then jump 0 h128_3 (fun v => laws_toIntSS_L3 n v.1.1 v.1.2.2.1 v.2.1) σ else none
theorem q128_3 (n : Nat) (v : h128_3.V) (ω : List Bool) : loopF C128 c128 Tryz.f128 (j128 n) 3 ω (h128_3.st 23 v) = laws_toIntSS_step3 (laws_toIntSS_L3 n) v.1.1 v.1.2.2.1 v.2.1 := by kernel_rfl
theorem e128 (n : Nat) (ω : List Bool) (v : i128.V) : enterF C128 c128 Tryz.f128 (j128 n) ω v = laws_toIntSS_entry (laws_toIntSS_L3 n) v.1.1 := by kernel_rfl
theorem s128 : SoundC Tryz.prog 128 c128 := sound_by (l := l128) (J := j128) (L := [3]) tOk mx Tryz.func128 ⟨s30, trivial⟩ (by kernel_rfl) (by kernel_rfl)
  ⟨⟨h128_3, fun n v => laws_toIntSS_L3 n v.1.1 v.1.2.2.1 v.2.1, fun _ => rfl, fun _ => rfl, q128_3⟩, trivial⟩ FUEL (e128 FUEL)

/-! laws_toMend -/
abbrev i78 : Shp := ⟨[(0, .row Y7)], []⟩
abbrev o78 : Shp := ⟨[(0, .agg [.v tI, .v tI, .ref 0, .ref 1, .v .bool, .ref 2])], [.sl 9 tI, .sl 9 Y1, .sl 9 (.sl tI)]⟩
noncomputable def c78 : Con := ⟨i78, o78, fun v => laws_toMend v.1.1⟩
noncomputable def l78 : List (Nat × Con) := [(30, c30), (125, c125), (128, c128)]
noncomputable def C78 : Cfg := ⟨T, gam l78, hintOf []⟩
theorem e78 (ω : List Bool) (v : i78.V) : enterF C78 c78 Tryz.f78 (fun _ _ => none) ω v = laws_toMend v.1.1 := by kernel_rfl
theorem s78 : SoundC Tryz.prog 78 c78 := sound_by0 (l := l78) tOk mx Tryz.func78 ⟨s30, s125, s128, trivial⟩ (by kernel_rfl) (by kernel_rfl) e78

/-! laws_toMendS -/
abbrev i33 : Shp := ⟨[(0, .c (.sl false Y7))], []⟩
abbrev o33 : Shp := ⟨[(0, .c (.ref 0))], [.sl 9 Y7]⟩
noncomputable def c33 : Con := ⟨i33, o33, fun v => laws_toMendS v.1.1⟩
noncomputable def l33 : List (Nat × Con) := [(78, c78)]
noncomputable def C33 : Cfg := ⟨T, gam l33, hintOf []⟩
abbrev h33_3 : Shp := ⟨[(0, .c (.sl false Y7)), (3, .c (.ref 0)), (4, .c (.v tI))], [.sl 9 Y7]⟩
noncomputable def j33 (n ℓ : Nat) (σ : St) : Option o33.V := if ℓ = 3 then jump 0 h33_3 (fun v => laws_toMendS_L3 n v.1.1 v.1.2.2.1 v.2.1) σ else none
theorem q33_3 (n : Nat) (v : h33_3.V) (ω : List Bool) : loopF C33 c33 Tryz.f33 (j33 n) 3 ω (h33_3.st 23 v) = laws_toMendS_step3 (laws_toMendS_L3 n) v.1.1 v.1.2.2.1 v.2.1 := by kernel_rfl
theorem e33 (n : Nat) (ω : List Bool) (v : i33.V) : enterF C33 c33 Tryz.f33 (j33 n) ω v = laws_toMendS_entry (laws_toMendS_L3 n) v.1.1 := by kernel_rfl
theorem s33 : SoundC Tryz.prog 33 c33 := sound_by (l := l33) (J := j33) (L := [3]) tOk mx Tryz.func33 ⟨s78, trivial⟩ (by kernel_rfl) (by kernel_rfl)
  ⟨⟨h33_3, fun n v => laws_toMendS_L3 n v.1.1 v.1.2.2.1 v.2.1, fun _ => rfl, fun _ => rfl, q33_3⟩, trivial⟩ FUEL (e33 FUEL)

/-! laws_toEvent -/
abbrev i163 : Shp := ⟨[(0, .row Y8)], []⟩
abbrev o163 : Shp := ⟨[(0, .agg [.v tI, .v tI, .v .str])], []⟩
noncomputable def c163 : Con := ⟨i163, o163, fun v => laws_toEvent v.1.1⟩
noncomputable def l163 : List (Nat × Con) := []
noncomputable def C163 : Cfg := ⟨T, gam l163, hintOf []⟩
theorem e163 (ω : List Bool) (v : i163.V) : enterF C163 c163 Tryz.f163 (fun _ _ => none) ω v = laws_toEvent v.1.1 := by kernel_rfl
theorem s163 : SoundC Tryz.prog 163 c163 := sound_by0 (l := l163) tOk mx Tryz.func163 trivial (by kernel_rfl) (by kernel_rfl) e163

/-! laws_toEventS -/
abbrev i129 : Shp := ⟨[(0, .c (.sl false Y8))], []⟩
abbrev o129 : Shp := ⟨[(0, .c (.ref 0))], [.sl 9 Y8]⟩
noncomputable def c129 : Con := ⟨i129, o129, fun v => laws_toEventS v.1.1⟩
noncomputable def l129 : List (Nat × Con) := [(163, c163)]
noncomputable def C129 : Cfg := ⟨T, gam l129, hintOf []⟩
abbrev h129_3 : Shp := ⟨[(0, .c (.sl false Y8)), (3, .c (.ref 0)), (4, .c (.v tI))], [.sl 9 Y8]⟩
noncomputable def j129 (n ℓ : Nat) (σ : St) : Option o129.V := if ℓ = 3 then jump 0 h129_3 (fun v => laws_toEventS_L3 n v.1.1 v.1.2.2.1 v.2.1) σ else none
theorem q129_3 (n : Nat) (v : h129_3.V) (ω : List Bool) : loopF C129 c129 Tryz.f129 (j129 n) 3 ω (h129_3.st 23 v) = laws_toEventS_step3 (laws_toEventS_L3 n) v.1.1 v.1.2.2.1 v.2.1 := by kernel_rfl
theorem e129 (n : Nat) (ω : List Bool) (v : i129.V) : enterF C129 c129 Tryz.f129 (j129 n) ω v = laws_toEventS_entry (laws_toEventS_L3 n) v.1.1 := by kernel_rfl
theorem s129 : SoundC Tryz.prog 129 c129 := sound_by (l := l129) (J := j129) (L := [3]) tOk mx Tryz.func129 ⟨s163, trivial⟩ (by kernel_rfl) (by kernel_rfl)
  ⟨⟨h129_3, fun n v => laws_toEventS_L3 n v.1.1 v.1.2.2.1 v.2.1, fun _ => rfl, fun _ => rfl, q129_3⟩, trivial⟩ FUEL (e129 FUEL)

/-! laws_toReader -/
abbrev i79 : Shp := ⟨[(0, .row Y9)], []⟩
abbrev o79 : Shp := ⟨[(0, .agg [.v tI, .v tI, .ref 0])], [.sl 9 Y8]⟩
noncomputable def c79 : Con := ⟨i79, o79, fun v => laws_toReader v.1.1⟩
noncomputable def l79 : List (Nat × Con) := [(129, c129)]
noncomputable def C79 : Cfg := ⟨T, gam l79, hintOf []⟩
theorem e79 (ω : List Bool) (v : i79.V) : enterF C79 c79 Tryz.f79 (fun _ _ => none) ω v = laws_toReader v.1.1 := by kernel_rfl
theorem s79 : SoundC Tryz.prog 79 c79 := sound_by0 (l := l79) tOk mx Tryz.func79 ⟨s129, trivial⟩ (by kernel_rfl) (by kernel_rfl) e79

/-! laws_toReaderS -/
abbrev i34 : Shp := ⟨[(0, .c (.sl false Y9))], []⟩
abbrev o34 : Shp := ⟨[(0, .c (.ref 0))], [.sl 9 Y9]⟩
noncomputable def c34 : Con := ⟨i34, o34, fun v => laws_toReaderS v.1.1⟩
noncomputable def l34 : List (Nat × Con) := [(79, c79)]
noncomputable def C34 : Cfg := ⟨T, gam l34, hintOf []⟩
abbrev h34_3 : Shp := ⟨[(0, .c (.sl false Y9)), (3, .c (.ref 0)), (4, .c (.v tI))], [.sl 9 Y9]⟩
noncomputable def j34 (n ℓ : Nat) (σ : St) : Option o34.V := if ℓ = 3 then jump 0 h34_3 (fun v => laws_toReaderS_L3 n v.1.1 v.1.2.2.1 v.2.1) σ else none
theorem q34_3 (n : Nat) (v : h34_3.V) (ω : List Bool) : loopF C34 c34 Tryz.f34 (j34 n) 3 ω (h34_3.st 23 v) = laws_toReaderS_step3 (laws_toReaderS_L3 n) v.1.1 v.1.2.2.1 v.2.1 := by kernel_rfl
theorem e34 (n : Nat) (ω : List Bool) (v : i34.V) : enterF C34 c34 Tryz.f34 (j34 n) ω v = laws_toReaderS_entry (laws_toReaderS_L3 n) v.1.1 := by kernel_rfl
theorem s34 : SoundC Tryz.prog 34 c34 := sound_by (l := l34) (J := j34) (L := [3]) tOk mx Tryz.func34 ⟨s79, trivial⟩ (by kernel_rfl) (by kernel_rfl)
  ⟨⟨h34_3, fun n v => laws_toReaderS_L3 n v.1.1 v.1.2.2.1 v.2.1, fun _ => rfl, fun _ => rfl, q34_3⟩, trivial⟩ FUEL (e34 FUEL)

/-! laws_toSent -/
abbrev i80 : Shp := ⟨[(0, .row Y10)], []⟩
abbrev o80 : Shp := ⟨[(0, .agg [.v tI, .v .str, .v .bool])], []⟩
noncomputable def c80 : Con := ⟨i80, o80, fun v => laws_toSent v.1.1⟩
noncomputable def l80 : List (Nat × Con) := []
noncomputable def C80 : Cfg := ⟨T, gam l80, hintOf []⟩
theorem e80 (ω : List Bool) (v : i80.V) : enterF C80 c80 Tryz.f80 (fun _ _ => none) ω v = laws_toSent v.1.1 := by kernel_rfl
theorem s80 : SoundC Tryz.prog 80 c80 := sound_by0 (l := l80) tOk mx Tryz.func80 trivial (by kernel_rfl) (by kernel_rfl) e80

/-! laws_toSentS -/
abbrev i35 : Shp := ⟨[(0, .c (.sl false Y10))], []⟩
abbrev o35 : Shp := ⟨[(0, .c (.ref 0))], [.sl 9 Y10]⟩
noncomputable def c35 : Con := ⟨i35, o35, fun v => laws_toSentS v.1.1⟩
noncomputable def l35 : List (Nat × Con) := [(80, c80)]
noncomputable def C35 : Cfg := ⟨T, gam l35, hintOf []⟩
abbrev h35_3 : Shp := ⟨[(0, .c (.sl false Y10)), (3, .c (.ref 0)), (4, .c (.v tI))], [.sl 9 Y10]⟩
noncomputable def j35 (n ℓ : Nat) (σ : St) : Option o35.V := if ℓ = 3 then jump 0 h35_3 (fun v => laws_toSentS_L3 n v.1.1 v.1.2.2.1 v.2.1) σ else none
theorem q35_3 (n : Nat) (v : h35_3.V) (ω : List Bool) : loopF C35 c35 Tryz.f35 (j35 n) 3 ω (h35_3.st 23 v) = laws_toSentS_step3 (laws_toSentS_L3 n) v.1.1 v.1.2.2.1 v.2.1 := by kernel_rfl
theorem e35 (n : Nat) (ω : List Bool) (v : i35.V) : enterF C35 c35 Tryz.f35 (j35 n) ω v = laws_toSentS_entry (laws_toSentS_L3 n) v.1.1 := by kernel_rfl
theorem s35 : SoundC Tryz.prog 35 c35 := sound_by (l := l35) (J := j35) (L := [3]) tOk mx Tryz.func35 ⟨s80, trivial⟩ (by kernel_rfl) (by kernel_rfl)
  ⟨⟨h35_3, fun n v => laws_toSentS_L3 n v.1.1 v.1.2.2.1 v.2.1, fun _ => rfl, fun _ => rfl, q35_3⟩, trivial⟩ FUEL (e35 FUEL)

/-! laws_toWorld -/
abbrev i8 : Shp := ⟨[(0, .row Y11)], []⟩
abbrev o8 : Shp := ⟨[(0, .agg [.ref 0, .v tI, .ref 1, .ref 2, .ref 3, .v tI, .ref 4, .ref 5, .ref 6, .ref 7, .v .bool])], [.sl 9 tI, .sl 9 Y2, .sl 9 tI, .sl 9 Y3, .sl 9 Y6, .sl 9 Y7, .sl 9 Y9, .sl 9 Y10]⟩
noncomputable def c8 : Con := ⟨i8, o8, fun v => laws_toWorld v.1.1⟩
noncomputable def l8 : List (Nat × Con) := [(28, c28), (29, c29), (30, c30), (31, c31), (32, c32), (33, c33), (34, c34), (35, c35)]
noncomputable def C8 : Cfg := ⟨T, gam l8, hintOf []⟩
theorem e8 (ω : List Bool) (v : i8.V) : enterF C8 c8 Tryz.f8 (fun _ _ => none) ω v = laws_toWorld v.1.1 := by kernel_rfl
theorem s8 : SoundC Tryz.prog 8 c8 := sound_by0 (l := l8) tOk mx Tryz.func8 ⟨s28, s29, s30, s31, s32, s33, s34, s35, trivial⟩ (by kernel_rfl) (by kernel_rfl) e8

/-! spec_l1In -/
abbrev i53 : Shp := ⟨[(0, .c (.v tI)), (1, .c (.v tI)), (2, .c (.v tI))], []⟩
abbrev o53 : Shp := ⟨[(0, .c (.v .bool))], []⟩
noncomputable def c53 : Con := ⟨i53, o53, fun v => spec_l1In v.1.1 v.1.2.1 v.1.2.2.1⟩
noncomputable def l53 : List (Nat × Con) := []
noncomputable def C53 : Cfg := ⟨T, gam l53, hintOf []⟩
theorem e53 (ω : List Bool) (v : i53.V) : enterF C53 c53 Tryz.f53 (fun _ _ => none) ω v = spec_l1In v.1.1 v.1.2.1 v.1.2.2.1 := by kernel_rfl
theorem s53 : SoundC Tryz.prog 53 c53 := sound_by0 (l := l53) tOk mx Tryz.func53 trivial (by kernel_rfl) (by kernel_rfl) e53

/-! spec_ConfigOk -/
abbrev i113 : Shp := ⟨[(0, .row Y0)], []⟩
abbrev o113 : Shp := ⟨[(0, .c (.v .bool))], []⟩
noncomputable def c113 : Con := ⟨i113, o113, fun v => spec_ConfigOk v.1.1⟩
noncomputable def l113 : List (Nat × Con) := [(53, c53)]
noncomputable def C113 : Cfg := ⟨T, gam l113, hintOf []⟩
abbrev h113_4 : Shp := ⟨[(1, .c (.ptr 0 0)), (3, .c (.v tI))], [.mem [.sl false tI, .v tI]]⟩
noncomputable def j113 (n ℓ : Nat) (σ : St) : Option o113.V := if ℓ = 4 then jump 0 h113_4 (fun v => spec_ConfigOk_L4 n v.1.2.1 v.2.1.1 v.2.1.2.1) σ else none
theorem q113_4 (n : Nat) (v : h113_4.V) (ω : List Bool) : loopF C113 c113 Tryz.f113 (j113 n) 4 ω (h113_4.st 29 v) = spec_ConfigOk_step4 (spec_ConfigOk_L4 n) v.1.2.1 v.2.1.1 v.2.1.2.1 := by kernel_rfl
theorem e113 (n : Nat) (ω : List Bool) (v : i113.V) : enterF C113 c113 Tryz.f113 (j113 n) ω v = spec_ConfigOk_entry (spec_ConfigOk_L4 n) v.1.1 := by kernel_rfl
theorem s113 : SoundC Tryz.prog 113 c113 := sound_by (l := l113) (J := j113) (L := [4]) tOk mx Tryz.func113 ⟨s53, trivial⟩ (by kernel_rfl) (by kernel_rfl)
  ⟨⟨h113_4, fun n v => spec_ConfigOk_L4 n v.1.2.1 v.2.1.1 v.2.1.2.1, fun _ => rfl, fun _ => rfl, q113_4⟩, trivial⟩ FUEL (e113 FUEL)

/-! spec_l4Asc -/
abbrev i155 : Shp := ⟨[(0, .c (.sl false tI)), (1, .c (.v tI)), (2, .c (.v tI))], []⟩
abbrev o155 : Shp := ⟨[(0, .c (.v .bool))], []⟩
noncomputable def c155 : Con := ⟨i155, o155, fun v => spec_l4Asc v.1.1 v.1.2.1 v.1.2.2.1⟩
noncomputable def l155 : List (Nat × Con) := [(53, c53)]
noncomputable def C155 : Cfg := ⟨T, gam l155, hintOf []⟩
abbrev h155_2 : Shp := ⟨[(0, .c (.sl false tI)), (1, .c (.v tI)), (2, .c (.v tI)), (7, .c (.v tI))], []⟩
noncomputable def j155 (n ℓ : Nat) (σ : St) : Option o155.V := if ℓ = 2 then jump 0 h155_2 (fun v => spec_l4Asc_L2 n v.1.1 v.1.2.1 v.1.2.2.1 v.1.2.2.2.1) σ else none
theorem q155_2 (n : Nat) (v : h155_2.V) (ω : List Bool) : loopF C155 c155 Tryz.f155 (j155 n) 2 ω (h155_2.st 38 v) = spec_l4Asc_step2 (spec_l4Asc_L2 n) v.1.1 v.1.2.1 v.1.2.2.1 v.1.2.2.2.1 := by kernel_rfl
theorem e155 (n : Nat) (ω : List Bool) (v : i155.V) : enterF C155 c155 Tryz.f155 (j155 n) ω v = spec_l4Asc_entry (spec_l4Asc_L2 n) v.1.1 v.1.2.1 v.1.2.2.1 := by kernel_rfl
theorem s155 : SoundC Tryz.prog 155 c155 := sound_by (l := l155) (J := j155) (L := [2]) tOk mx Tryz.func155 ⟨s53, trivial⟩ (by kernel_rfl) (by kernel_rfl)
  ⟨⟨h155_2, fun n v => spec_l4Asc_L2 n v.1.1 v.1.2.1 v.1.2.2.1 v.1.2.2.2.1, fun _ => rfl, fun _ => rfl, q155_2⟩, trivial⟩ FUEL (e155 FUEL)

/-! spec_NodesOk -/
abbrev i114 : Shp := ⟨[(0, .row Y0), (1, .c (.sl false tI))], []⟩
abbrev o114 : Shp := ⟨[(0, .c (.v .bool))], []⟩
noncomputable def c114 : Con := ⟨i114, o114, fun v => spec_NodesOk v.1.1 v.1.2.1⟩
noncomputable def l114 : List (Nat × Con) := [(113, c113), (155, c155)]
noncomputable def C114 : Cfg := ⟨T, gam l114, hintOf []⟩
theorem e114 (ω : List Bool) (v : i114.V) : enterF C114 c114 Tryz.f114 (fun _ _ => none) ω v = spec_NodesOk v.1.1 v.1.2.1 := by kernel_rfl
theorem s114 : SoundC Tryz.prog 114 c114 := sound_by0 (l := l114) tOk mx Tryz.func114 ⟨s113, s155, trivial⟩ (by kernel_rfl) (by kernel_rfl) e114

/-! spec_l4Span -/
abbrev i156 : Shp := ⟨[(0, .row Y0), (1, .c (.sl false tI))], []⟩
abbrev o156 : Shp := ⟨[(0, .c (.v tI))], []⟩
noncomputable def c156 : Con := ⟨i156, o156, fun v => spec_l4Span v.1.1 v.1.2.1⟩
noncomputable def l156 : List (Nat × Con) := []
noncomputable def C156 : Cfg := ⟨T, gam l156, hintOf [(6, [0, 1])]⟩
abbrev h156_4 : Shp := ⟨[(1, .c (.sl false tI)), (2, .c (.ptr 0 0)), (5, .c (.ref 1)), (6, .c (.v tI)), (7, .c (.v tI))], [.mem [.sl false tI, .v tI], .sl 9 .bool]⟩
noncomputable def j156 (n ℓ : Nat) (σ : St) : Option o156.V := if ℓ = 4 then jump 0 h156_4 (fun v => spec_l4Span_L4 n v.1.1 v.1.2.2.2.1 v.1.2.2.2.2.1 v.2.1.1 v.2.1.2.1 v.2.2.1) σ else none
theorem q156_4 (n : Nat) (v : h156_4.V) (ω : List Bool) : loopF C156 c156 Tryz.f156 (j156 n) 4 ω (h156_4.st 35 v) = spec_l4Span_step4 (spec_l4Span_L4 n) v.1.1 v.1.2.2.2.1 v.1.2.2.2.2.1 v.2.1.1 v.2.1.2.1 v.2.2.1 := by kernel_rfl
theorem e156 (n : Nat) (ω : List Bool) (v : i156.V) : enterF C156 c156 Tryz.f156 (j156 n) ω v = spec_l4Span_entry (spec_l4Span_L4 n) v.1.1 v.1.2.1 := by kernel_rfl
theorem s156 : SoundC Tryz.prog 156 c156 := sound_by (l := l156) (J := j156) (L := [4]) tOk mx Tryz.func156 trivial (by kernel_rfl) (by kernel_rfl)
  ⟨⟨h156_4, fun n v => spec_l4Span_L4 n v.1.1 v.1.2.2.2.1 v.1.2.2.2.2.1 v.2.1.1 v.2.1.2.1 v.2.2.1, fun _ => rfl, fun _ => rfl, q156_4⟩, trivial⟩ FUEL (e156 FUEL)

/-! spec_Holds -/
abbrev i115 : Shp := ⟨[(0, .row Y0), (1, .c (.sl false tI))], []⟩
abbrev o115 : Shp := ⟨[(0, .c (.v .bool))], []⟩
noncomputable def c115 : Con := ⟨i115, o115, fun v => spec_Holds v.1.1 v.1.2.1⟩
noncomputable def l115 : List (Nat × Con) := [(114, c114), (156, c156)]
noncomputable def C115 : Cfg := ⟨T, gam l115, hintOf [(1, [0])]⟩
theorem e115 (ω : List Bool) (v : i115.V) : enterF C115 c115 Tryz.f115 (fun _ _ => none) ω v = spec_Holds v.1.1 v.1.2.1 := by kernel_rfl
theorem s115 : SoundC Tryz.prog 115 c115 := sound_by0 (l := l115) tOk mx Tryz.func115 ⟨s114, s156, trivial⟩ (by kernel_rfl) (by kernel_rfl) e115

/-! spec_PlaceOk -/
abbrev i123 : Shp := ⟨[(0, .c (.v tI))], []⟩
abbrev o123 : Shp := ⟨[(0, .c (.v .bool))], []⟩
noncomputable def c123 : Con := ⟨i123, o123, fun v => spec_PlaceOk v.1.1⟩
noncomputable def l123 : List (Nat × Con) := [(53, c53)]
noncomputable def C123 : Cfg := ⟨T, gam l123, hintOf []⟩
theorem e123 (ω : List Bool) (v : i123.V) : enterF C123 c123 Tryz.f123 (fun _ _ => none) ω v = spec_PlaceOk v.1.1 := by kernel_rfl
theorem s123 : SoundC Tryz.prog 123 c123 := sound_by0 (l := l123) tOk mx Tryz.func123 ⟨s53, trivial⟩ (by kernel_rfl) (by kernel_rfl) e123

/-! spec_EpochOf -/
abbrev i124 : Shp := ⟨[(0, .c (.v tI))], []⟩
abbrev o124 : Shp := ⟨[(0, .c (.v tI))], []⟩
noncomputable def c124 : Con := ⟨i124, o124, fun v => spec_EpochOf v.1.1⟩
noncomputable def l124 : List (Nat × Con) := [(123, c123)]
noncomputable def C124 : Cfg := ⟨T, gam l124, hintOf []⟩
theorem e124 (ω : List Bool) (v : i124.V) : enterF C124 c124 Tryz.f124 (fun _ _ => none) ω v = spec_EpochOf v.1.1 := by kernel_rfl
theorem s124 : SoundC Tryz.prog 124 c124 := sound_by0 (l := l124) tOk mx Tryz.func124 ⟨s123, trivial⟩ (by kernel_rfl) (by kernel_rfl) e124

/-! spec_EntryOk -/
abbrev i159 : Shp := ⟨[(0, .row Y1)], []⟩
abbrev o159 : Shp := ⟨[(0, .c (.v .bool))], []⟩
noncomputable def c159 : Con := ⟨i159, o159, fun v => spec_EntryOk v.1.1⟩
noncomputable def l159 : List (Nat × Con) := [(53, c53), (123, c123), (124, c124)]
noncomputable def C159 : Cfg := ⟨T, gam l159, hintOf [(1, [0])]⟩
theorem e159 (ω : List Bool) (v : i159.V) : enterF C159 c159 Tryz.f159 (fun _ _ => none) ω v = spec_EntryOk v.1.1 := by kernel_rfl
theorem s159 : SoundC Tryz.prog 159 c159 := sound_by0 (l := l159) tOk mx Tryz.func159 ⟨s53, s123, s124, trivial⟩ (by kernel_rfl) (by kernel_rfl) e159

/-! spec_l6List -/
abbrev i157 : Shp := ⟨[(0, .c (.sl false Y1)), (1, .c (.v tI))], []⟩
abbrev o157 : Shp := ⟨[(0, .c (.v .bool))], []⟩
noncomputable def c157 : Con := ⟨i157, o157, fun v => spec_l6List v.1.1 v.1.2.1⟩
noncomputable def l157 : List (Nat × Con) := [(159, c159)]
noncomputable def C157 : Cfg := ⟨T, gam l157, hintOf []⟩
abbrev h157_4 : Shp := ⟨[(0, .c (.sl false Y1)), (5, .c (.v tI))], []⟩
noncomputable def j157 (n ℓ : Nat) (σ : St) : Option o157.V := if ℓ = 4 then jump 0 h157_4 (fun v => spec_l6List_L4 n v.1.1 v.1.2.1) σ else none
theorem q157_4 (n : Nat) (v : h157_4.V) (ω : List Bool) : loopF C157 c157 Tryz.f157 (j157 n) 4 ω (h157_4.st 22 v) = spec_l6List_step4 (spec_l6List_L4 n) v.1.1 v.1.2.1 := by kernel_rfl
theorem e157 (n : Nat) (ω : List Bool) (v : i157.V) : enterF C157 c157 Tryz.f157 (j157 n) ω v = spec_l6List_entry (spec_l6List_L4 n) v.1.1 v.1.2.1 := by kernel_rfl
theorem s157 : SoundC Tryz.prog 157 c157 := sound_by (l := l157) (J := j157) (L := [4]) tOk mx Tryz.func157 ⟨s159, trivial⟩ (by kernel_rfl) (by kernel_rfl)
  ⟨⟨h157_4, fun n v => spec_l6List_L4 n v.1.1 v.1.2.1, fun _ => rfl, fun _ => rfl, q157_4⟩, trivial⟩ FUEL (e157 FUEL)

/-! spec_l6Asc -/
abbrev i158 : Shp := ⟨[(0, .c (.sl false Y1))], []⟩
abbrev o158 : Shp := ⟨[(0, .c (.v .bool))], []⟩
noncomputable def c158 : Con := ⟨i158, o158, fun v => spec_l6Asc v.1.1⟩
noncomputable def l158 : List (Nat × Con) := []
noncomputable def C158 : Cfg := ⟨T, gam l158, hintOf []⟩
abbrev h158_2 : Shp := ⟨[(0, .c (.sl false Y1)), (3, .c (.v tI))], []⟩
noncomputable def j158 (n ℓ : Nat) (σ : St) : Option o158.V := if ℓ = 2 then jump 0 h158_2 (fun v => spec_l6Asc_L2 n v.1.1 v.1.2.1) σ else none
theorem q158_2 (n : Nat) (v : h158_2.V) (ω : List Bool) : loopF C158 c158 Tryz.f158 (j158 n) 2 ω (h158_2.st 22 v) = spec_l6Asc_step2 (spec_l6Asc_L2 n) v.1.1 v.1.2.1 := by kernel_rfl
theorem e158 (n : Nat) (ω : List Bool) (v : i158.V) : enterF C158 c158 Tryz.f158 (j158 n) ω v = spec_l6Asc_entry (spec_l6Asc_L2 n) v.1.1 := by kernel_rfl
theorem s158 : SoundC Tryz.prog 158 c158 := sound_by (l := l158) (J := j158) (L := [2]) tOk mx Tryz.func158 trivial (by kernel_rfl) (by kernel_rfl)
  ⟨⟨h158_2, fun n v => spec_l6Asc_L2 n v.1.1 v.1.2.1, fun _ => rfl, fun _ => rfl, q158_2⟩, trivial⟩ FUEL (e158 FUEL)

/-! spec_StoreOk -/
abbrev i116 : Shp := ⟨[(0, .row Y2)], []⟩
abbrev o116 : Shp := ⟨[(0, .c (.v .bool))], []⟩
noncomputable def c116 : Con := ⟨i116, o116, fun v => spec_StoreOk v.1.1⟩
noncomputable def l116 : List (Nat × Con) := [(53, c53), (157, c157), (158, c158)]
noncomputable def C116 : Cfg := ⟨T, gam l116, hintOf []⟩
theorem e116 (ω : List Bool) (v : i116.V) : enterF C116 c116 Tryz.f116 (fun _ _ => none) ω v = spec_StoreOk v.1.1 := by kernel_rfl
theorem s116 : SoundC Tryz.prog 116 c116 := sound_by0 (l := l116) tOk mx Tryz.func116 ⟨s53, s157, s158, trivial⟩ (by kernel_rfl) (by kernel_rfl) e116

/-! spec_l4Has -/
abbrev i117 : Shp := ⟨[(0, .c (.sl false tI)), (1, .c (.v tI))], []⟩
abbrev o117 : Shp := ⟨[(0, .c (.v .bool))], []⟩
noncomputable def c117 : Con := ⟨i117, o117, fun v => spec_l4Has v.1.1 v.1.2.1⟩
noncomputable def l117 : List (Nat × Con) := []
noncomputable def C117 : Cfg := ⟨T, gam l117, hintOf []⟩
abbrev h117_2 : Shp := ⟨[(0, .c (.sl false tI)), (1, .c (.v tI)), (5, .c (.v tI))], []⟩
noncomputable def j117 (n ℓ : Nat) (σ : St) : Option o117.V := if ℓ = 2 then jump 0 h117_2 (fun v => spec_l4Has_L2 n v.1.1 v.1.2.1 v.1.2.2.1) σ else none
theorem q117_2 (n : Nat) (v : h117_2.V) (ω : List Bool) : loopF C117 c117 Tryz.f117 (j117 n) 2 ω (h117_2.st 18 v) = spec_l4Has_step2 (spec_l4Has_L2 n) v.1.1 v.1.2.1 v.1.2.2.1 := by kernel_rfl
theorem e117 (n : Nat) (ω : List Bool) (v : i117.V) : enterF C117 c117 Tryz.f117 (j117 n) ω v = spec_l4Has_entry (spec_l4Has_L2 n) v.1.1 v.1.2.1 := by kernel_rfl
theorem s117 : SoundC Tryz.prog 117 c117 := sound_by (l := l117) (J := j117) (L := [2]) tOk mx Tryz.func117 trivial (by kernel_rfl) (by kernel_rfl)
  ⟨⟨h117_2, fun n v => spec_l4Has_L2 n v.1.1 v.1.2.1 v.1.2.2.1, fun _ => rfl, fun _ => rfl, q117_2⟩, trivial⟩ FUEL (e117 FUEL)

/-! spec_l12Zero -/
abbrev i118 : Shp := ⟨[(0, .row Y2)], []⟩
abbrev o118 : Shp := ⟨[(0, .c (.v .bool))], []⟩
noncomputable def c118 : Con := ⟨i118, o118, fun v => spec_l12Zero v.1.1⟩
noncomputable def l118 : List (Nat × Con) := []
noncomputable def C118 : Cfg := ⟨T, gam l118, hintOf []⟩
theorem e118 (ω : List Bool) (v : i118.V) : enterF C118 c118 Tryz.f118 (fun _ _ => none) ω v = spec_l12Zero v.1.1 := by kernel_rfl
theorem s118 : SoundC Tryz.prog 118 c118 := sound_by0 (l := l118) tOk mx Tryz.func118 trivial (by kernel_rfl) (by kernel_rfl) e118

/-! spec_l12Nodes -/
abbrev i71 : Shp := ⟨[(0, .row Y11)], []⟩
abbrev o71 : Shp := ⟨[(0, .c (.v .bool))], []⟩
noncomputable def c71 : Con := ⟨i71, o71, fun v => spec_l12Nodes v.1.1⟩
noncomputable def l71 : List (Nat × Con) := [(113, c113), (114, c114), (115, c115), (116, c116), (117, c117), (118, c118)]
noncomputable def C71 : Cfg := ⟨T, gam l71, hintOf []⟩
abbrev h71_4 : Shp := ⟨[(1, .c (.ptr 0 0)), (3, .c (.v tI))], [.mem [.sl false tI, .v tI, .sl false Y2, .sl false tI, .sl false Y3, .v tI, .sl false Y6, .sl false Y7, .sl false Y9, .sl false Y10, .v .bool]]⟩
noncomputable def j71 (n ℓ : Nat) (σ : St) : Option o71.V := if ℓ = 4 then jump 0 h71_4 (fun v => spec_l12Nodes_L4 n v.1.2.1 v.2.1.1 v.2.1.2.1 v.2.1.2.2.1 v.2.1.2.2.2.1 v.2.1.2.2.2.2.1 v.2.1.2.2.2.2.2.1 v.2.1.2.2.2.2.2.2.1 v.2.1.2.2.2.2.2.2.2.1 v.2.1.2.2.2.2.2.2.2.2.1 v.2.1.2.2.2.2.2.2.2.2.2.1 v.2.1.2.2.2.2.2.2.2.2.2.2.1) σ else none
theorem q71_4 (n : Nat) (v : h71_4.V) (ω : List Bool) : loopF C71 c71 Tryz.f71 (j71 n) 4 ω (h71_4.st 67 v) = spec_l12Nodes_step4 (spec_l12Nodes_L4 n) v.1.2.1 v.2.1.1 v.2.1.2.1 v.2.1.2.2.1 v.2.1.2.2.2.1 v.2.1.2.2.2.2.1 v.2.1.2.2.2.2.2.1 v.2.1.2.2.2.2.2.2.1 v.2.1.2.2.2.2.2.2.2.1 v.2.1.2.2.2.2.2.2.2.2.1 v.2.1.2.2.2.2.2.2.2.2.2.1 v.2.1.2.2.2.2.2.2.2.2.2.2.1 := by kernel_rfl
theorem e71 (n : Nat) (ω : List Bool) (v : i71.V) : enterF C71 c71 Tryz.f71 (j71 n) ω v = spec_l12Nodes_entry (spec_l12Nodes_L4 n) v.1.1 := by kernel_rfl
theorem s71 : SoundC Tryz.prog 71 c71 := sound_by (l := l71) (J := j71) (L := [4]) tOk mx Tryz.func71 ⟨s113, s114, s115, s116, s117, s118, trivial⟩ (by kernel_rfl) (by kernel_rfl)
  ⟨⟨h71_4, fun n v => spec_l12Nodes_L4 n v.1.2.1 v.2.1.1 v.2.1.2.1 v.2.1.2.2.1 v.2.1.2.2.2.1 v.2.1.2.2.2.2.1 v.2.1.2.2.2.2.2.1 v.2.1.2.2.2.2.2.2.1 v.2.1.2.2.2.2.2.2.2.1 v.2.1.2.2.2.2.2.2.2.2.1 v.2.1.2.2.2.2.2.2.2.2.2.1 v.2.1.2.2.2.2.2.2.2.2.2.2.1, fun _ => rfl, fun _ => rfl, q71_4⟩, trivial⟩ FUEL (e71 FUEL)

/-! spec_RegOk -/
abbrev i119 : Shp := ⟨[(0, .row Y0), (1, .row Y4)], []⟩
abbrev o119 : Shp := ⟨[(0, .c (.v .bool))], []⟩
noncomputable def c119 : Con := ⟨i119, o119, fun v => spec_RegOk v.1.1 v.1.2.1⟩
noncomputable def l119 : List (Nat × Con) := [(53, c53), (113, c113), (115, c115), (123, c123), (124, c124)]
noncomputable def C119 : Cfg := ⟨T, gam l119, hintOf []⟩
abbrev h119_5 : Shp := ⟨[(2, .c (.ptr 0 0)), (3, .c (.ptr 1 0)), (5, .c (.v tI)), (6, .c (.v tI))], [.mem [.sl false tI, .v tI], .mem [.sl false Y3, .v tI]]⟩
noncomputable def j119 (n ℓ : Nat) (σ : St) : Option o119.V := if ℓ = 5 then jump 0 h119_5 (fun v => spec_RegOk_L5 n v.1.2.2.1 v.1.2.2.2.1 v.2.1.1 v.2.1.2.1 v.2.2.1.1 v.2.2.1.2.1) σ else none
theorem q119_5 (n : Nat) (v : h119_5.V) (ω : List Bool) : loopF C119 c119 Tryz.f119 (j119 n) 5 ω (h119_5.st 89 v) = spec_RegOk_step5 (spec_RegOk_L5 n) v.1.2.2.1 v.1.2.2.2.1 v.2.1.1 v.2.1.2.1 v.2.2.1.1 v.2.2.1.2.1 := by kernel_rfl
theorem e119 (n : Nat) (ω : List Bool) (v : i119.V) : enterF C119 c119 Tryz.f119 (j119 n) ω v = spec_RegOk_entry (spec_RegOk_L5 n) v.1.1 v.1.2.1 := by kernel_rfl
theorem s119 : SoundC Tryz.prog 119 c119 := sound_by (l := l119) (J := j119) (L := [5]) tOk mx Tryz.func119 ⟨s53, s113, s115, s123, s124, trivial⟩ (by kernel_rfl) (by kernel_rfl)
  ⟨⟨h119_5, fun n v => spec_RegOk_L5 n v.1.2.2.1 v.1.2.2.2.1 v.2.1.1 v.2.1.2.1 v.2.2.1.1 v.2.2.1.2.1, fun _ => rfl, fun _ => rfl, q119_5⟩, trivial⟩ FUEL (e119 FUEL)

/-! spec_WriterOk -/
abbrev i120 : Shp := ⟨[(0, .row Y0), (1, .row Y6)], []⟩
abbrev o120 : Shp := ⟨[(0, .c (.v .bool))], []⟩
noncomputable def c120 : Con := ⟨i120, o120, fun v => spec_WriterOk v.1.1 v.1.2.1⟩
noncomputable def l120 : List (Nat × Con) := [(53, c53), (113, c113), (114, c114), (115, c115)]
noncomputable def C120 : Cfg := ⟨T, gam l120, hintOf [(8, [0, 1, 2])]⟩
abbrev h120_5 : Shp := ⟨[(2, .c (.ptr 0 0)), (3, .c (.ptr 1 0)), (5, .c (.v tI)), (6, .c (.v tI))], [.mem [.sl false tI, .v tI], .mem [.v tI, .sl false Y5]]⟩
noncomputable def j120 (n ℓ : Nat) (σ : St) : Option o120.V := if ℓ = 5 then jump 0 h120_5 (fun v => spec_WriterOk_L5 n v.1.2.2.1 v.1.2.2.2.1 v.2.1.1 v.2.1.2.1 v.2.2.1.1 v.2.2.1.2.1) σ else none
theorem q120_5 (n : Nat) (v : h120_5.V) (ω : List Bool) : loopF C120 c120 Tryz.f120 (j120 n) 5 ω (h120_5.st 62 v) = spec_WriterOk_step5 (spec_WriterOk_L5 n) v.1.2.2.1 v.1.2.2.2.1 v.2.1.1 v.2.1.2.1 v.2.2.1.1 v.2.2.1.2.1 := by kernel_rfl
theorem e120 (n : Nat) (ω : List Bool) (v : i120.V) : enterF C120 c120 Tryz.f120 (j120 n) ω v = spec_WriterOk_entry (spec_WriterOk_L5 n) v.1.1 v.1.2.1 := by kernel_rfl
theorem s120 : SoundC Tryz.prog 120 c120 := sound_by (l := l120) (J := j120) (L := [5]) tOk mx Tryz.func120 ⟨s53, s113, s114, s115, trivial⟩ (by kernel_rfl) (by kernel_rfl)
  ⟨⟨h120_5, fun n v => spec_WriterOk_L5 n v.1.2.2.1 v.1.2.2.2.1 v.2.1.1 v.2.1.2.1 v.2.2.1.1 v.2.2.1.2.1, fun _ => rfl, fun _ => rfl, q120_5⟩, trivial⟩ FUEL (e120 FUEL)

/-! spec_OffOf -/
abbrev i175 : Shp := ⟨[(0, .c (.v tI))], []⟩
abbrev o175 : Shp := ⟨[(0, .c (.v tI))], []⟩
noncomputable def c175 : Con := ⟨i175, o175, fun v => spec_OffOf v.1.1⟩
noncomputable def l175 : List (Nat × Con) := [(123, c123)]
noncomputable def C175 : Cfg := ⟨T, gam l175, hintOf []⟩
theorem e175 (ω : List Bool) (v : i175.V) : enterF C175 c175 Tryz.f175 (fun _ _ => none) ω v = spec_OffOf v.1.1 := by kernel_rfl
theorem s175 : SoundC Tryz.prog 175 c175 := sound_by0 (l := l175) tOk mx Tryz.func175 ⟨s123, trivial⟩ (by kernel_rfl) (by kernel_rfl) e175

/-! spec_l9Last -/
abbrev i160 : Shp := ⟨[(0, .row Y7)], []⟩
abbrev o160 : Shp := ⟨[(0, .c (.v tI))], []⟩
noncomputable def c160 : Con := ⟨i160, o160, fun v => spec_l9Last v.1.1⟩
noncomputable def l160 : List (Nat × Con) := [(175, c175)]
noncomputable def C160 : Cfg := ⟨T, gam l160, hintOf []⟩
theorem e160 (ω : List Bool) (v : i160.V) : enterF C160 c160 Tryz.f160 (fun _ _ => none) ω v = spec_l9Last v.1.1 := by kernel_rfl
theorem s160 : SoundC Tryz.prog 160 c160 := sound_by0 (l := l160) tOk mx Tryz.func160 ⟨s175, trivial⟩ (by kernel_rfl) (by kernel_rfl) e160

/-! spec_MendOk -/
abbrev i121 : Shp := ⟨[(0, .row Y0), (1, .row Y7)], []⟩
abbrev o121 : Shp := ⟨[(0, .c (.v .bool))], []⟩
noncomputable def c121 : Con := ⟨i121, o121, fun v => spec_MendOk v.1.1 v.1.2.1⟩
noncomputable def l121 : List (Nat × Con) := [(53, c53), (113, c113), (114, c114), (124, c124), (158, c158), (159, c159), (160, c160)]
noncomputable def C121 : Cfg := ⟨T, gam l121, hintOf [(6, [0, 1]), (11, [0, 1]), (15, [0, 1])]⟩
abbrev h121_9 : Shp := ⟨[(2, .c (.ptr 0 0)), (3, .c (.ptr 1 0)), (6, .c (.v tI))], [.mem [.sl false tI, .v tI], .mem [.v tI, .v tI, .sl false tI, .sl false Y1, .v .bool, .sl false (.sl tI)]]⟩
abbrev h121_4 : Shp := ⟨[(2, .c (.ptr 0 0)), (3, .c (.ptr 1 0)), (5, .c (.v tI))], [.mem [.sl false tI, .v tI], .mem [.v tI, .v tI, .sl false tI, .sl false Y1, .v .bool, .sl false (.sl tI)]]⟩
noncomputable def j121 (n ℓ : Nat) (σ : St) : Option o121.V := if ℓ = 4 then jump 0 h121_4 (fun v => spec_MendOk_L4 n v.1.2.2.1 v.2.1.1 v.2.1.2.1 v.2.2.1.1 v.2.2.1.2.1 v.2.2.1.2.2.1 v.2.2.1.2.2.2.1 v.2.2.1.2.2.2.2.1 v.2.2.1.2.2.2.2.2.1) σ else if ℓ = 9 then jump 0 h121_9 (fun v => spec_MendOk_L9 n v.1.2.2.1 v.2.1.1 v.2.1.2.1 v.2.2.1.1 v.2.2.1.2.1 v.2.2.1.2.2.1 v.2.2.1.2.2.2.1 v.2.2.1.2.2.2.2.1 v.2.2.1.2.2.2.2.2.1) σ else none
theorem q121_4 (n : Nat) (v : h121_4.V) (ω : List Bool) : loopF C121 c121 Tryz.f121 (j121 n) 4 ω (h121_4.st 103 v) = spec_MendOk_step4 (spec_MendOk_L4 n) (spec_MendOk_L9 n) v.1.2.2.1 v.2.1.1 v.2.1.2.1 v.2.2.1.1 v.2.2.1.2.1 v.2.2.1.2.2.1 v.2.2.1.2.2.2.1 v.2.2.1.2.2.2.2.1 v.2.2.1.2.2.2.2.2.1 := by kernel_rfl
theorem q121_9 (n : Nat) (v : h121_9.V) (ω : List Bool) : loopF C121 c121 Tryz.f121 (j121 n) 9 ω (h121_9.st 103 v) = spec_MendOk_step9 (spec_MendOk_L4 n) (spec_MendOk_L9 n) v.1.2.2.1 v.2.1.1 v.2.1.2.1 v.2.2.1.1 v.2.2.1.2.1 v.2.2.1.2.2.1 v.2.2.1.2.2.2.1 v.2.2.1.2.2.2.2.1 v.2.2.1.2.2.2.2.2.1 := by kernel_rfl
theorem e121 (n : Nat) (ω : List Bool) (v : i121.V) : enterF C121 c121 Tryz.f121 (j121 n) ω v = spec_MendOk_entry (spec_MendOk_L4 n) (spec_MendOk_L9 n) v.1.1 v.1.2.1 := by kernel_rfl
theorem s121 : SoundC Tryz.prog 121 c121 := sound_by (l := l121) (J := j121) (L := [4, 9]) tOk mx Tryz.func121 ⟨s53, s113, s114, s124, s158, s159, s160, trivial⟩ (by kernel_rfl) (by kernel_rfl)
  ⟨⟨h121_4, fun n v => spec_MendOk_L4 n v.1.2.2.1 v.2.1.1 v.2.1.2.1 v.2.2.1.1 v.2.2.1.2.1 v.2.2.1.2.2.1 v.2.2.1.2.2.2.1 v.2.2.1.2.2.2.2.1 v.2.2.1.2.2.2.2.2.1, fun _ => rfl, fun _ => rfl, q121_4⟩, ⟨⟨h121_9, fun n v => spec_MendOk_L9 n v.1.2.2.1 v.2.1.1 v.2.1.2.1 v.2.2.1.1 v.2.2.1.2.1 v.2.2.1.2.2.1 v.2.2.1.2.2.2.1 v.2.2.1.2.2.2.2.1 v.2.2.1.2.2.2.2.2.1, fun _ => rfl, fun _ => rfl, q121_9⟩, trivial⟩⟩ FUEL (e121 FUEL)

/-! spec_FirstOpen -/
abbrev i122 : Shp := ⟨[(0, .row Y4)], []⟩
abbrev o122 : Shp := ⟨[(0, .c (.v tI))], []⟩
noncomputable def c122 : Con := ⟨i122, o122, fun v => spec_FirstOpen v.1.1⟩
noncomputable def l122 : List (Nat × Con) := []
noncomputable def C122 : Cfg := ⟨T, gam l122, hintOf []⟩
abbrev h122_2 : Shp := ⟨[(1, .c (.ptr 0 0)), (3, .c (.v tI))], [.mem [.sl false Y3, .v tI]]⟩
noncomputable def j122 (n ℓ : Nat) (σ : St) : Option o122.V := if ℓ = 2 then jump 0 h122_2 (fun v => spec_FirstOpen_L2 n v.1.2.1 v.2.1.1 v.2.1.2.1) σ else none
theorem q122_2 (n : Nat) (v : h122_2.V) (ω : List Bool) : loopF C122 c122 Tryz.f122 (j122 n) 2 ω (h122_2.st 20 v) = spec_FirstOpen_step2 (spec_FirstOpen_L2 n) v.1.2.1 v.2.1.1 v.2.1.2.1 := by kernel_rfl
theorem e122 (n : Nat) (ω : List Bool) (v : i122.V) : enterF C122 c122 Tryz.f122 (j122 n) ω v = spec_FirstOpen_entry (spec_FirstOpen_L2 n) v.1.1 := by kernel_rfl
theorem s122 : SoundC Tryz.prog 122 c122 := sound_by (l := l122) (J := j122) (L := [2]) tOk mx Tryz.func122 trivial (by kernel_rfl) (by kernel_rfl)
  ⟨⟨h122_2, fun n v => spec_FirstOpen_L2 n v.1.2.1 v.2.1.1 v.2.1.2.1, fun _ => rfl, fun _ => rfl, q122_2⟩, trivial⟩ FUEL (e122 FUEL)

/-! spec_l12Epochs -/
abbrev i72 : Shp := ⟨[(0, .row Y11)], []⟩
abbrev o72 : Shp := ⟨[(0, .c (.v .bool))], []⟩
noncomputable def c72 : Con := ⟨i72, o72, fun v => spec_l12Epochs v.1.1⟩
noncomputable def l72 : List (Nat × Con) := [(119, c119), (120, c120), (121, c121), (122, c122)]
noncomputable def C72 : Cfg := ⟨T, gam l72, hintOf [(7, [0]), (13, [0, 1])]⟩
abbrev h72_10 : Shp := ⟨[(1, .c (.ptr 0 0)), (3, .c (.v tI)), (5, .c (.v tI))], [.mem [.sl false tI, .v tI, .sl false Y2, .sl false tI, .sl false Y3, .v tI, .sl false Y6, .sl false Y7, .sl false Y9, .sl false Y10, .v .bool]]⟩
abbrev h72_5 : Shp := ⟨[(1, .c (.ptr 0 0)), (3, .c (.v tI)), (4, .c (.v tI))], [.mem [.sl false tI, .v tI, .sl false Y2, .sl false tI, .sl false Y3, .v tI, .sl false Y6, .sl false Y7, .sl false Y9, .sl false Y10, .v .bool]]⟩
noncomputable def j72 (n ℓ : Nat) (σ : St) : Option o72.V := if ℓ = 5 then jump 0 h72_5 (fun v => spec_l12Epochs_L5 n v.1.2.1 v.1.2.2.1 v.2.1.1 v.2.1.2.1 v.2.1.2.2.1 v.2.1.2.2.2.1 v.2.1.2.2.2.2.1 v.2.1.2.2.2.2.2.1 v.2.1.2.2.2.2.2.2.1 v.2.1.2.2.2.2.2.2.2.1 v.2.1.2.2.2.2.2.2.2.2.1 v.2.1.2.2.2.2.2.2.2.2.2.1 v.2.1.2.2.2.2.2.2.2.2.2.2.1) σ else if ℓ = 10 then jump 0 h72_10 (fun v => spec_l12Epochs_L10 n v.1.2.1 v.1.2.2.1 v.2.1.1 v.2.1.2.1 v.2.1.2.2.1 v.2.1.2.2.2.1 v.2.1.2.2.2.2.1 v.2.1.2.2.2.2.2.1 v.2.1.2.2.2.2.2.2.1 v.2.1.2.2.2.2.2.2.2.1 v.2.1.2.2.2.2.2.2.2.2.1 v.2.1.2.2.2.2.2.2.2.2.2.1 v.2.1.2.2.2.2.2.2.2.2.2.2.1) σ else none
theorem q72_5 (n : Nat) (v : h72_5.V) (ω : List Bool) : loopF C72 c72 Tryz.f72 (j72 n) 5 ω (h72_5.st 106 v) = spec_l12Epochs_step5 (spec_l12Epochs_L5 n) (spec_l12Epochs_L10 n) v.1.2.1 v.1.2.2.1 v.2.1.1 v.2.1.2.1 v.2.1.2.2.1 v.2.1.2.2.2.1 v.2.1.2.2.2.2.1 v.2.1.2.2.2.2.2.1 v.2.1.2.2.2.2.2.2.1 v.2.1.2.2.2.2.2.2.2.1 v.2.1.2.2.2.2.2.2.2.2.1 v.2.1.2.2.2.2.2.2.2.2.2.1 v.2.1.2.2.2.2.2.2.2.2.2.2.1 := by kernel_rfl
theorem q72_10 (n : Nat) (v : h72_10.V) (ω : List Bool) : loopF C72 c72 Tryz.f72 (j72 n) 10 ω (h72_10.st 106 v) = spec_l12Epochs_step10 (spec_l12Epochs_L5 n) (spec_l12Epochs_L10 n) v.1.2.1 v.1.2.2.1 v.2.1.1 v.2.1.2.1 v.2.1.2.2.1 v.2.1.2.2.2.1 v.2.1.2.2.2.2.1 v.2.1.2.2.2.2.2.1 v.2.1.2.2.2.2.2.2.1 v.2.1.2.2.2.2.2.2.2.1 v.2.1.2.2.2.2.2.2.2.2.1 v.2.1.2.2.2.2.2.2.2.2.2.1 v.2.1.2.2.2.2.2.2.2.2.2.2.1 := by kernel_rfl
theorem e72 (n : Nat) (ω : List Bool) (v : i72.V) : enterF C72 c72 Tryz.f72 (j72 n) ω v = spec_l12Epochs_entry (spec_l12Epochs_L5 n) (spec_l12Epochs_L10 n) v.1.1 := by kernel_rfl
theorem s72 : SoundC Tryz.prog 72 c72 := sound_by (l := l72) (J := j72) (L := [5, 10]) tOk mx Tryz.func72 ⟨s119, s120, s121, s122, trivial⟩ (by kernel_rfl) (by kernel_rfl)
  ⟨⟨h72_5, fun n v => spec_l12Epochs_L5 n v.1.2.1 v.1.2.2.1 v.2.1.1 v.2.1.2.1 v.2.1.2.2.1 v.2.1.2.2.2.1 v.2.1.2.2.2.2.1 v.2.1.2.2.2.2.2.1 v.2.1.2.2.2.2.2.2.1 v.2.1.2.2.2.2.2.2.2.1 v.2.1.2.2.2.2.2.2.2.2.1 v.2.1.2.2.2.2.2.2.2.2.2.1 v.2.1.2.2.2.2.2.2.2.2.2.2.1, fun _ => rfl, fun _ => rfl, q72_5⟩, ⟨⟨h72_10, fun n v => spec_l12Epochs_L10 n v.1.2.1 v.1.2.2.1 v.2.1.1 v.2.1.2.1 v.2.1.2.2.1 v.2.1.2.2.2.1 v.2.1.2.2.2.2.1 v.2.1.2.2.2.2.2.1 v.2.1.2.2.2.2.2.2.1 v.2.1.2.2.2.2.2.2.2.1 v.2.1.2.2.2.2.2.2.2.2.1 v.2.1.2.2.2.2.2.2.2.2.2.1 v.2.1.2.2.2.2.2.2.2.2.2.2.1, fun _ => rfl, fun _ => rfl, q72_10⟩, trivial⟩⟩ FUEL (e72 FUEL)

/-! spec_ReaderOk -/
abbrev i73 : Shp := ⟨[(0, .row Y9)], []⟩
abbrev o73 : Shp := ⟨[(0, .c (.v .bool))], []⟩
noncomputable def c73 : Con := ⟨i73, o73, fun v => spec_ReaderOk v.1.1⟩
noncomputable def l73 : List (Nat × Con) := [(53, c53)]
noncomputable def C73 : Cfg := ⟨T, gam l73, hintOf []⟩
theorem e73 (ω : List Bool) (v : i73.V) : enterF C73 c73 Tryz.f73 (fun _ _ => none) ω v = spec_ReaderOk v.1.1 := by kernel_rfl
theorem s73 : SoundC Tryz.prog 73 c73 := sound_by0 (l := l73) tOk mx Tryz.func73 ⟨s53, trivial⟩ (by kernel_rfl) (by kernel_rfl) e73

/-! spec_l12Sent -/
abbrev i74 : Shp := ⟨[(0, .row Y11)], []⟩
abbrev o74 : Shp := ⟨[(0, .c (.v .bool))], []⟩
noncomputable def c74 : Con := ⟨i74, o74, fun v => spec_l12Sent v.1.1⟩
noncomputable def l74 : List (Nat × Con) := [(123, c123), (124, c124)]
noncomputable def C74 : Cfg := ⟨T, gam l74, hintOf [(7, [0, 1])]⟩
abbrev h74_4 : Shp := ⟨[(1, .c (.ptr 0 0)), (3, .c (.v tI))], [.mem [.sl false tI, .v tI, .sl false Y2, .sl false tI, .sl false Y3, .v tI, .sl false Y6, .sl false Y7, .sl false Y9, .sl false Y10, .v .bool]]⟩
noncomputable def j74 (n ℓ : Nat) (σ : St) : Option o74.V := if ℓ = 4 then jump 0 h74_4 (fun v => spec_l12Sent_L4 n v.1.2.1 v.2.1.1 v.2.1.2.1 v.2.1.2.2.1 v.2.1.2.2.2.1 v.2.1.2.2.2.2.1 v.2.1.2.2.2.2.2.1 v.2.1.2.2.2.2.2.2.1 v.2.1.2.2.2.2.2.2.2.1 v.2.1.2.2.2.2.2.2.2.2.1 v.2.1.2.2.2.2.2.2.2.2.2.1 v.2.1.2.2.2.2.2.2.2.2.2.2.1) σ else none
theorem q74_4 (n : Nat) (v : h74_4.V) (ω : List Bool) : loopF C74 c74 Tryz.f74 (j74 n) 4 ω (h74_4.st 57 v) = spec_l12Sent_step4 (spec_l12Sent_L4 n) v.1.2.1 v.2.1.1 v.2.1.2.1 v.2.1.2.2.1 v.2.1.2.2.2.1 v.2.1.2.2.2.2.1 v.2.1.2.2.2.2.2.1 v.2.1.2.2.2.2.2.2.1 v.2.1.2.2.2.2.2.2.2.1 v.2.1.2.2.2.2.2.2.2.2.1 v.2.1.2.2.2.2.2.2.2.2.2.1 v.2.1.2.2.2.2.2.2.2.2.2.2.1 := by kernel_rfl
theorem e74 (n : Nat) (ω : List Bool) (v : i74.V) : enterF C74 c74 Tryz.f74 (j74 n) ω v = spec_l12Sent_entry (spec_l12Sent_L4 n) v.1.1 := by kernel_rfl
theorem s74 : SoundC Tryz.prog 74 c74 := sound_by (l := l74) (J := j74) (L := [4]) tOk mx Tryz.func74 ⟨s123, s124, trivial⟩ (by kernel_rfl) (by kernel_rfl)
  ⟨⟨h74_4, fun n v => spec_l12Sent_L4 n v.1.2.1 v.2.1.1 v.2.1.2.1 v.2.1.2.2.1 v.2.1.2.2.2.1 v.2.1.2.2.2.2.1 v.2.1.2.2.2.2.2.1 v.2.1.2.2.2.2.2.2.1 v.2.1.2.2.2.2.2.2.2.1 v.2.1.2.2.2.2.2.2.2.2.1 v.2.1.2.2.2.2.2.2.2.2.2.1 v.2.1.2.2.2.2.2.2.2.2.2.2.1, fun _ => rfl, fun _ => rfl, q74_4⟩, trivial⟩ FUEL (e74 FUEL)

/-! spec_WorldOk -/
abbrev i27 : Shp := ⟨[(0, .row Y11)], []⟩
abbrev o27 : Shp := ⟨[(0, .c (.v .bool))], []⟩
noncomputable def c27 : Con := ⟨i27, o27, fun v => spec_WorldOk v.1.1⟩
noncomputable def l27 : List (Nat × Con) := [(71, c71), (72, c72), (73, c73), (74, c74)]
noncomputable def C27 : Cfg := ⟨T, gam l27, hintOf []⟩
theorem e27 (ω : List Bool) (v : i27.V) : enterF C27 c27 Tryz.f27 (fun _ _ => none) ω v = spec_WorldOk v.1.1 := by kernel_rfl
theorem s27 : SoundC Tryz.prog 27 c27 := sound_by0 (l := l27) tOk mx Tryz.func27 ⟨s71, s72, s73, s74, trivial⟩ (by kernel_rfl) (by kernel_rfl) e27

/-! spec_l14Placed -/
abbrev i147 : Shp := ⟨[(0, .row Y8)], []⟩
abbrev o147 : Shp := ⟨[(0, .c (.v .bool))], []⟩
noncomputable def c147 : Con := ⟨i147, o147, fun v => spec_l14Placed v.1.1⟩
noncomputable def l147 : List (Nat × Con) := [(53, c53)]
noncomputable def C147 : Cfg := ⟨T, gam l147, hintOf []⟩
theorem e147 (ω : List Bool) (v : i147.V) : enterF C147 c147 Tryz.f147 (fun _ _ => none) ω v = spec_l14Placed v.1.1 := by kernel_rfl
theorem s147 : SoundC Tryz.prog 147 c147 := sound_by0 (l := l147) tOk mx Tryz.func147 ⟨s53, trivial⟩ (by kernel_rfl) (by kernel_rfl) e147

/-! spec_l14Order -/
abbrev i98 : Shp := ⟨[(0, .row Y9)], []⟩
abbrev o98 : Shp := ⟨[(0, .c (.v .bool))], []⟩
noncomputable def c98 : Con := ⟨i98, o98, fun v => spec_l14Order v.1.1⟩
noncomputable def l98 : List (Nat × Con) := [(147, c147)]
noncomputable def C98 : Cfg := ⟨T, gam l98, hintOf [(6, [0])]⟩
abbrev h98_3 : Shp := ⟨[(1, .c (.ptr 0 0)), (3, .c (.v tI)), (4, .c (.v tI))], [.mem [.v tI, .v tI, .sl false Y8]]⟩
noncomputable def j98 (n ℓ : Nat) (σ : St) : Option o98.V := if ℓ = 3 then jump 0 h98_3 (fun v => spec_l14Order_L3 n v.1.2.1 v.1.2.2.1 v.2.1.1 v.2.1.2.1 v.2.1.2.2.1) σ else none
theorem q98_3 (n : Nat) (v : h98_3.V) (ω : List Bool) : loopF C98 c98 Tryz.f98 (j98 n) 3 ω (h98_3.st 37 v) = spec_l14Order_step3 (spec_l14Order_L3 n) v.1.2.1 v.1.2.2.1 v.2.1.1 v.2.1.2.1 v.2.1.2.2.1 := by kernel_rfl
theorem e98 (n : Nat) (ω : List Bool) (v : i98.V) : enterF C98 c98 Tryz.f98 (j98 n) ω v = spec_l14Order_entry (spec_l14Order_L3 n) v.1.1 := by kernel_rfl
theorem s98 : SoundC Tryz.prog 98 c98 := sound_by (l := l98) (J := j98) (L := [3]) tOk mx Tryz.func98 ⟨s147, trivial⟩ (by kernel_rfl) (by kernel_rfl)
  ⟨⟨h98_3, fun n v => spec_l14Order_L3 n v.1.2.1 v.1.2.2.1 v.2.1.1 v.2.1.2.1 v.2.1.2.2.1, fun _ => rfl, fun _ => rfl, q98_3⟩, trivial⟩ FUEL (e98 FUEL)

/-! spec_JudgeOrder -/
abbrev i55 : Shp := ⟨[(0, .row Y11)], []⟩
abbrev o55 : Shp := ⟨[(0, .c (.v .bool))], []⟩
noncomputable def c55 : Con := ⟨i55, o55, fun v => spec_JudgeOrder v.1.1⟩
noncomputable def l55 : List (Nat × Con) := [(27, c27), (98, c98)]
noncomputable def C55 : Cfg := ⟨T, gam l55, hintOf []⟩
theorem e55 (ω : List Bool) (v : i55.V) : enterF C55 c55 Tryz.f55 (fun _ _ => none) ω v = spec_JudgeOrder v.1.1 := by kernel_rfl
theorem s55 : SoundC Tryz.prog 55 c55 := sound_by0 (l := l55) tOk mx Tryz.func55 ⟨s27, s98, trivial⟩ (by kernel_rfl) (by kernel_rfl) e55

/-! spec_l14Sent -/
abbrev i99 : Shp := ⟨[(0, .row Y11), (1, .row Y8)], []⟩
abbrev o99 : Shp := ⟨[(0, .c (.v .bool))], []⟩
noncomputable def c99 : Con := ⟨i99, o99, fun v => spec_l14Sent v.1.1 v.1.2.1⟩
noncomputable def l99 : List (Nat × Con) := []
noncomputable def C99 : Cfg := ⟨T, gam l99, hintOf [(4, [0, 1])]⟩
abbrev h99_2 : Shp := ⟨[(2, .c (.ptr 0 0)), (3, .c (.ptr 1 0)), (5, .c (.v tI))], [.mem [.sl false tI, .v tI, .sl false Y2, .sl false tI, .sl false Y3, .v tI, .sl false Y6, .sl false Y7, .sl false Y9, .sl false Y10, .v .bool], .mem [.v tI, .v tI, .v .str]]⟩
noncomputable def j99 (n ℓ : Nat) (σ : St) : Option o99.V := if ℓ = 2 then jump 0 h99_2 (fun v => spec_l14Sent_L2 n v.1.2.2.1 v.2.1.1 v.2.1.2.1 v.2.1.2.2.1 v.2.1.2.2.2.1 v.2.1.2.2.2.2.1 v.2.1.2.2.2.2.2.1 v.2.1.2.2.2.2.2.2.1 v.2.1.2.2.2.2.2.2.2.1 v.2.1.2.2.2.2.2.2.2.2.1 v.2.1.2.2.2.2.2.2.2.2.2.1 v.2.1.2.2.2.2.2.2.2.2.2.2.1 v.2.2.1.1 v.2.2.1.2.1 v.2.2.1.2.2.1) σ else none
theorem q99_2 (n : Nat) (v : h99_2.V) (ω : List Bool) : loopF C99 c99 Tryz.f99 (j99 n) 2 ω (h99_2.st 33 v) = spec_l14Sent_step2 (spec_l14Sent_L2 n) v.1.2.2.1 v.2.1.1 v.2.1.2.1 v.2.1.2.2.1 v.2.1.2.2.2.1 v.2.1.2.2.2.2.1 v.2.1.2.2.2.2.2.1 v.2.1.2.2.2.2.2.2.1 v.2.1.2.2.2.2.2.2.2.1 v.2.1.2.2.2.2.2.2.2.2.1 v.2.1.2.2.2.2.2.2.2.2.2.1 v.2.1.2.2.2.2.2.2.2.2.2.2.1 v.2.2.1.1 v.2.2.1.2.1 v.2.2.1.2.2.1 := by kernel_rfl
theorem e99 (n : Nat) (ω : List Bool) (v : i99.V) : enterF C99 c99 Tryz.f99 (j99 n) ω v = spec_l14Sent_entry (spec_l14Sent_L2 n) v.1.1 v.1.2.1 := by kernel_rfl
theorem s99 : SoundC Tryz.prog 99 c99 := sound_by (l := l99) (J := j99) (L := [2]) tOk mx Tryz.func99 trivial (by kernel_rfl) (by kernel_rfl)
  ⟨⟨h99_2, fun n v => spec_l14Sent_L2 n v.1.2.2.1 v.2.1.1 v.2.1.2.1 v.2.1.2.2.1 v.2.1.2.2.2.1 v.2.1.2.2.2.2.1 v.2.1.2.2.2.2.2.1 v.2.1.2.2.2.2.2.2.1 v.2.1.2.2.2.2.2.2.2.1 v.2.1.2.2.2.2.2.2.2.2.1 v.2.1.2.2.2.2.2.2.2.2.2.1 v.2.1.2.2.2.2.2.2.2.2.2.2.1 v.2.2.1.1 v.2.2.1.2.1 v.2.2.1.2.2.1, fun _ => rfl, fun _ => rfl, q99_2⟩, trivial⟩ FUEL (e99 FUEL)

/-! spec_JudgeTrue -/
abbrev i56 : Shp := ⟨[(0, .row Y11)], []⟩
abbrev o56 : Shp := ⟨[(0, .c (.v .bool))], []⟩
noncomputable def c56 : Con := ⟨i56, o56, fun v => spec_JudgeTrue v.1.1⟩
noncomputable def l56 : List (Nat × Con) := [(27, c27), (99, c99)]
noncomputable def C56 : Cfg := ⟨T, gam l56, hintOf []⟩
abbrev h56_7 : Shp := ⟨[(1, .c (.ptr 0 0)), (3, .c (.v tI)), (4, .c (.v tI))], [.mem [.sl false tI, .v tI, .sl false Y2, .sl false tI, .sl false Y3, .v tI, .sl false Y6, .sl false Y7, .sl false Y9, .sl false Y10, .v .bool]]⟩
abbrev h56_4 : Shp := ⟨[(1, .c (.ptr 0 0)), (3, .c (.v tI))], [.mem [.sl false tI, .v tI, .sl false Y2, .sl false tI, .sl false Y3, .v tI, .sl false Y6, .sl false Y7, .sl false Y9, .sl false Y10, .v .bool]]⟩
noncomputable def j56 (n ℓ : Nat) (σ : St) : Option o56.V := if ℓ = 4 then jump 0 h56_4 (fun v => spec_JudgeTrue_L4 n v.1.2.1 v.2.1.1 v.2.1.2.1 v.2.1.2.2.1 v.2.1.2.2.2.1 v.2.1.2.2.2.2.1 v.2.1.2.2.2.2.2.1 v.2.1.2.2.2.2.2.2.1 v.2.1.2.2.2.2.2.2.2.1 v.2.1.2.2.2.2.2.2.2.2.1 v.2.1.2.2.2.2.2.2.2.2.2.1 v.2.1.2.2.2.2.2.2.2.2.2.2.1) σ else if ℓ = 7 then jump 0 h56_7 (fun v => spec_JudgeTrue_L7 n v.1.2.1 v.1.2.2.1 v.2.1.1 v.2.1.2.1 v.2.1.2.2.1 v.2.1.2.2.2.1 v.2.1.2.2.2.2.1 v.2.1.2.2.2.2.2.1 v.2.1.2.2.2.2.2.2.1 v.2.1.2.2.2.2.2.2.2.1 v.2.1.2.2.2.2.2.2.2.2.1 v.2.1.2.2.2.2.2.2.2.2.2.1 v.2.1.2.2.2.2.2.2.2.2.2.2.1) σ else none
theorem q56_4 (n : Nat) (v : h56_4.V) (ω : List Bool) : loopF C56 c56 Tryz.f56 (j56 n) 4 ω (h56_4.st 42 v) = spec_JudgeTrue_step4 (spec_JudgeTrue_L4 n) (spec_JudgeTrue_L7 n) v.1.2.1 v.2.1.1 v.2.1.2.1 v.2.1.2.2.1 v.2.1.2.2.2.1 v.2.1.2.2.2.2.1 v.2.1.2.2.2.2.2.1 v.2.1.2.2.2.2.2.2.1 v.2.1.2.2.2.2.2.2.2.1 v.2.1.2.2.2.2.2.2.2.2.1 v.2.1.2.2.2.2.2.2.2.2.2.1 v.2.1.2.2.2.2.2.2.2.2.2.2.1 := by kernel_rfl
theorem q56_7 (n : Nat) (v : h56_7.V) (ω : List Bool) : loopF C56 c56 Tryz.f56 (j56 n) 7 ω (h56_7.st 42 v) = spec_JudgeTrue_step7 (spec_JudgeTrue_L4 n) (spec_JudgeTrue_L7 n) v.1.2.1 v.1.2.2.1 v.2.1.1 v.2.1.2.1 v.2.1.2.2.1 v.2.1.2.2.2.1 v.2.1.2.2.2.2.1 v.2.1.2.2.2.2.2.1 v.2.1.2.2.2.2.2.2.1 v.2.1.2.2.2.2.2.2.2.1 v.2.1.2.2.2.2.2.2.2.2.1 v.2.1.2.2.2.2.2.2.2.2.2.1 v.2.1.2.2.2.2.2.2.2.2.2.2.1 := by kernel_rfl
theorem e56 (n : Nat) (ω : List Bool) (v : i56.V) : enterF C56 c56 Tryz.f56 (j56 n) ω v = spec_JudgeTrue_entry (spec_JudgeTrue_L4 n) (spec_JudgeTrue_L7 n) v.1.1 := by kernel_rfl
theorem s56 : SoundC Tryz.prog 56 c56 := sound_by (l := l56) (J := j56) (L := [4, 7]) tOk mx Tryz.func56 ⟨s27, s99, trivial⟩ (by kernel_rfl) (by kernel_rfl)
  ⟨⟨h56_4, fun n v => spec_JudgeTrue_L4 n v.1.2.1 v.2.1.1 v.2.1.2.1 v.2.1.2.2.1 v.2.1.2.2.2.1 v.2.1.2.2.2.2.1 v.2.1.2.2.2.2.2.1 v.2.1.2.2.2.2.2.2.1 v.2.1.2.2.2.2.2.2.2.1 v.2.1.2.2.2.2.2.2.2.2.1 v.2.1.2.2.2.2.2.2.2.2.2.1 v.2.1.2.2.2.2.2.2.2.2.2.2.1, fun _ => rfl, fun _ => rfl, q56_4⟩, ⟨⟨h56_7, fun n v => spec_JudgeTrue_L7 n v.1.2.1 v.1.2.2.1 v.2.1.1 v.2.1.2.1 v.2.1.2.2.1 v.2.1.2.2.2.1 v.2.1.2.2.2.2.1 v.2.1.2.2.2.2.2.1 v.2.1.2.2.2.2.2.2.1 v.2.1.2.2.2.2.2.2.2.1 v.2.1.2.2.2.2.2.2.2.2.1 v.2.1.2.2.2.2.2.2.2.2.2.1 v.2.1.2.2.2.2.2.2.2.2.2.2.1, fun _ => rfl, fun _ => rfl, q56_7⟩, trivial⟩⟩ FUEL (e56 FUEL)

/-! spec_l14Told -/
abbrev i100 : Shp := ⟨[(0, .row Y9), (1, .c (.v tI))], []⟩
abbrev o100 : Shp := ⟨[(0, .tup [.inl (.v .str), .inl (.v .bool)])], []⟩
noncomputable def c100 : Con := ⟨i100, o100, fun v => spec_l14Told v.1.1 v.1.2.1⟩
noncomputable def l100 : List (Nat × Con) := []
noncomputable def C100 : Cfg := ⟨T, gam l100, hintOf []⟩
abbrev h100_2 : Shp := ⟨[(1, .c (.v tI)), (2, .c (.ptr 0 0)), (6, .c (.v tI))], [.mem [.v tI, .v tI, .sl false Y8]]⟩
noncomputable def j100 (n ℓ : Nat) (σ : St) : Option o100.V := if ℓ = 2 then jump 0 h100_2 (fun v => spec_l14Told_L2 n v.1.1 v.1.2.2.1 v.2.1.1 v.2.1.2.1 v.2.1.2.2.1) σ else none
theorem q100_2 (n : Nat) (v : h100_2.V) (ω : List Bool) : loopF C100 c100 Tryz.f100 (j100 n) 2 ω (h100_2.st 37 v) = spec_l14Told_step2 (spec_l14Told_L2 n) v.1.1 v.1.2.2.1 v.2.1.1 v.2.1.2.1 v.2.1.2.2.1 := by kernel_rfl
theorem e100 (n : Nat) (ω : List Bool) (v : i100.V) : enterF C100 c100 Tryz.f100 (j100 n) ω v = spec_l14Told_entry (spec_l14Told_L2 n) v.1.1 v.1.2.1 := by kernel_rfl
theorem s100 : SoundC Tryz.prog 100 c100 := sound_by (l := l100) (J := j100) (L := [2]) tOk mx Tryz.func100 trivial (by kernel_rfl) (by kernel_rfl)
  ⟨⟨h100_2, fun n v => spec_l14Told_L2 n v.1.1 v.1.2.2.1 v.2.1.1 v.2.1.2.1 v.2.1.2.2.1, fun _ => rfl, fun _ => rfl, q100_2⟩, trivial⟩ FUEL (e100 FUEL)

/-! spec_l1Place -/
abbrev i148 : Shp := ⟨[(0, .c (.v tI)), (1, .c (.v tI))], []⟩
abbrev o148 : Shp := ⟨[(0, .c (.v tI))], []⟩
noncomputable def c148 : Con := ⟨i148, o148, fun v => spec_l1Place v.1.1 v.1.2.1⟩
noncomputable def l148 : List (Nat × Con) := []
noncomputable def C148 : Cfg := ⟨T, gam l148, hintOf []⟩
theorem e148 (ω : List Bool) (v : i148.V) : enterF C148 c148 Tryz.f148 (fun _ _ => none) ω v = spec_l1Place v.1.1 v.1.2.1 := by kernel_rfl
theorem s148 : SoundC Tryz.prog 148 c148 := sound_by0 (l := l148) tOk mx Tryz.func148 trivial (by kernel_rfl) (by kernel_rfl) e148

/-! spec_l14Passed -/
abbrev i101 : Shp := ⟨[(0, .row Y9), (1, .c (.v tI))], []⟩
abbrev o101 : Shp := ⟨[(0, .c (.v .bool))], []⟩
noncomputable def c101 : Con := ⟨i101, o101, fun v => spec_l14Passed v.1.1 v.1.2.1⟩
noncomputable def l101 : List (Nat × Con) := [(148, c148)]
noncomputable def C101 : Cfg := ⟨T, gam l101, hintOf []⟩
theorem e101 (ω : List Bool) (v : i101.V) : enterF C101 c101 Tryz.f101 (fun _ _ => none) ω v = spec_l14Passed v.1.1 v.1.2.1 := by kernel_rfl
theorem s101 : SoundC Tryz.prog 101 c101 := sound_by0 (l := l101) tOk mx Tryz.func101 ⟨s148, trivial⟩ (by kernel_rfl) (by kernel_rfl) e101

/-! spec_JudgeKept -/
abbrev i57 : Shp := ⟨[(0, .row Y11)], []⟩
abbrev o57 : Shp := ⟨[(0, .c (.v .bool))], []⟩
noncomputable def c57 : Con := ⟨i57, o57, fun v => spec_JudgeKept v.1.1⟩
noncomputable def l57 : List (Nat × Con) := [(27, c27), (100, c100), (101, c101)]
noncomputable def C57 : Cfg := ⟨T, gam l57, hintOf [(10, [0, 1]), (11, [0, 1])]⟩
abbrev h57_7 : Shp := ⟨[(1, .c (.ptr 0 0)), (3, .c (.v tI)), (4, .c (.v tI)), (14, .c (.ptr 0 10)), (15, .c (.v .bool)), (16, .c (.v .bool))], [.mem [.sl false tI, .v tI, .sl false Y2, .sl false tI, .sl false Y3, .v tI, .sl false Y6, .sl false Y7, .sl false Y9, .sl false Y10, .v .bool]]⟩
abbrev h57_4 : Shp := ⟨[(1, .c (.ptr 0 0)), (3, .c (.v tI))], [.mem [.sl false tI, .v tI, .sl false Y2, .sl false tI, .sl false Y3, .v tI, .sl false Y6, .sl false Y7, .sl false Y9, .sl false Y10, .v .bool]]⟩
noncomputable def j57 (n ℓ : Nat) (σ : St) : Option o57.V := if ℓ = 4 then jump 0 h57_4 (fun v => spec_JudgeKept_L4 n v.1.2.1 v.2.1.1 v.2.1.2.1 v.2.1.2.2.1 v.2.1.2.2.2.1 v.2.1.2.2.2.2.1 v.2.1.2.2.2.2.2.1 v.2.1.2.2.2.2.2.2.1 v.2.1.2.2.2.2.2.2.2.1 v.2.1.2.2.2.2.2.2.2.2.1 v.2.1.2.2.2.2.2.2.2.2.2.1 v.2.1.2.2.2.2.2.2.2.2.2.2.1) σ else if ℓ = 7 then jump 0 h57_7 (fun v => spec_JudgeKept_L7 n v.1.2.1 v.1.2.2.1 v.1.2.2.2.2.1 v.1.2.2.2.2.2.1 v.2.1.1 v.2.1.2.1 v.2.1.2.2.1 v.2.1.2.2.2.1 v.2.1.2.2.2.2.1 v.2.1.2.2.2.2.2.1 v.2.1.2.2.2.2.2.2.1 v.2.1.2.2.2.2.2.2.2.1 v.2.1.2.2.2.2.2.2.2.2.1 v.2.1.2.2.2.2.2.2.2.2.2.1 v.2.1.2.2.2.2.2.2.2.2.2.2.1) σ else none
theorem q57_4 (n : Nat) (v : h57_4.V) (ω : List Bool) : loopF C57 c57 Tryz.f57 (j57 n) 4 ω (h57_4.st 67 v) = spec_JudgeKept_step4 (spec_JudgeKept_L4 n) (spec_JudgeKept_L7 n) v.1.2.1 v.2.1.1 v.2.1.2.1 v.2.1.2.2.1 v.2.1.2.2.2.1 v.2.1.2.2.2.2.1 v.2.1.2.2.2.2.2.1 v.2.1.2.2.2.2.2.2.1 v.2.1.2.2.2.2.2.2.2.1 v.2.1.2.2.2.2.2.2.2.2.1 v.2.1.2.2.2.2.2.2.2.2.2.1 v.2.1.2.2.2.2.2.2.2.2.2.2.1 := by kernel_rfl
theorem q57_7 (n : Nat) (v : h57_7.V) (ω : List Bool) : loopF C57 c57 Tryz.f57 (j57 n) 7 ω (h57_7.st 67 v) = spec_JudgeKept_step7 (spec_JudgeKept_L4 n) (spec_JudgeKept_L7 n) v.1.2.1 v.1.2.2.1 v.1.2.2.2.2.1 v.1.2.2.2.2.2.1 v.2.1.1 v.2.1.2.1 v.2.1.2.2.1 v.2.1.2.2.2.1 v.2.1.2.2.2.2.1 v.2.1.2.2.2.2.2.1 v.2.1.2.2.2.2.2.2.1 v.2.1.2.2.2.2.2.2.2.1 v.2.1.2.2.2.2.2.2.2.2.1 v.2.1.2.2.2.2.2.2.2.2.2.1 v.2.1.2.2.2.2.2.2.2.2.2.2.1 := by kernel_rfl
theorem e57 (n : Nat) (ω : List Bool) (v : i57.V) : enterF C57 c57 Tryz.f57 (j57 n) ω v = spec_JudgeKept_entry (spec_JudgeKept_L4 n) (spec_JudgeKept_L7 n) v.1.1 := by kernel_rfl
theorem s57 : SoundC Tryz.prog 57 c57 := sound_by (l := l57) (J := j57) (L := [4, 7]) tOk mx Tryz.func57 ⟨s27, s100, s101, trivial⟩ (by kernel_rfl) (by kernel_rfl)
  ⟨⟨h57_4, fun n v => spec_JudgeKept_L4 n v.1.2.1 v.2.1.1 v.2.1.2.1 v.2.1.2.2.1 v.2.1.2.2.2.1 v.2.1.2.2.2.2.1 v.2.1.2.2.2.2.2.1 v.2.1.2.2.2.2.2.2.1 v.2.1.2.2.2.2.2.2.2.1 v.2.1.2.2.2.2.2.2.2.2.1 v.2.1.2.2.2.2.2.2.2.2.2.1 v.2.1.2.2.2.2.2.2.2.2.2.2.1, fun _ => rfl, fun _ => rfl, q57_4⟩, ⟨⟨h57_7, fun n v => spec_JudgeKept_L7 n v.1.2.1 v.1.2.2.1 v.1.2.2.2.2.1 v.1.2.2.2.2.2.1 v.2.1.1 v.2.1.2.1 v.2.1.2.2.1 v.2.1.2.2.2.1 v.2.1.2.2.2.2.1 v.2.1.2.2.2.2.2.1 v.2.1.2.2.2.2.2.2.1 v.2.1.2.2.2.2.2.2.2.1 v.2.1.2.2.2.2.2.2.2.2.1 v.2.1.2.2.2.2.2.2.2.2.2.1 v.2.1.2.2.2.2.2.2.2.2.2.2.1, fun _ => rfl, fun _ => rfl, q57_7⟩, trivial⟩⟩ FUEL (e57 FUEL)

/-! spec_JudgeWhole -/
abbrev i58 : Shp := ⟨[(0, .row Y11)], []⟩
abbrev o58 : Shp := ⟨[(0, .c (.v .bool))], []⟩
noncomputable def c58 : Con := ⟨i58, o58, fun v => spec_JudgeWhole v.1.1⟩
noncomputable def l58 : List (Nat × Con) := [(27, c27)]
noncomputable def C58 : Cfg := ⟨T, gam l58, hintOf []⟩
abbrev h58_7 : Shp := ⟨[(1, .c (.ptr 0 0)), (3, .c (.v tI)), (4, .c (.v tI)), (11, .c (.ptr 0 10)), (12, .c (.v .bool)), (13, .c (.v .bool))], [.mem [.sl false tI, .v tI, .sl false Y2, .sl false tI, .sl false Y3, .v tI, .sl false Y6, .sl false Y7, .sl false Y9, .sl false Y10, .v .bool]]⟩
abbrev h58_4 : Shp := ⟨[(1, .c (.ptr 0 0)), (3, .c (.v tI))], [.mem [.sl false tI, .v tI, .sl false Y2, .sl false tI, .sl false Y3, .v tI, .sl false Y6, .sl false Y7, .sl false Y9, .sl false Y10, .v .bool]]⟩
noncomputable def j58 (n ℓ : Nat) (σ : St) : Option o58.V := if ℓ = 4 then jump 0 h58_4 (fun v => spec_JudgeWhole_L4 n v.1.2.1 v.2.1.1 v.2.1.2.1 v.2.1.2.2.1 v.2.1.2.2.2.1 v.2.1.2.2.2.2.1 v.2.1.2.2.2.2.2.1 v.2.1.2.2.2.2.2.2.1 v.2.1.2.2.2.2.2.2.2.1 v.2.1.2.2.2.2.2.2.2.2.1 v.2.1.2.2.2.2.2.2.2.2.2.1 v.2.1.2.2.2.2.2.2.2.2.2.2.1) σ else if ℓ = 7 then jump 0 h58_7 (fun v => spec_JudgeWhole_L7 n v.1.2.1 v.1.2.2.1 v.1.2.2.2.2.1 v.1.2.2.2.2.2.1 v.2.1.1 v.2.1.2.1 v.2.1.2.2.1 v.2.1.2.2.2.1 v.2.1.2.2.2.2.1 v.2.1.2.2.2.2.2.1 v.2.1.2.2.2.2.2.2.1 v.2.1.2.2.2.2.2.2.2.1 v.2.1.2.2.2.2.2.2.2.2.1 v.2.1.2.2.2.2.2.2.2.2.2.1 v.2.1.2.2.2.2.2.2.2.2.2.2.1) σ else none
theorem q58_4 (n : Nat) (v : h58_4.V) (ω : List Bool) : loopF C58 c58 Tryz.f58 (j58 n) 4 ω (h58_4.st 39 v) = spec_JudgeWhole_step4 (spec_JudgeWhole_L4 n) (spec_JudgeWhole_L7 n) v.1.2.1 v.2.1.1 v.2.1.2.1 v.2.1.2.2.1 v.2.1.2.2.2.1 v.2.1.2.2.2.2.1 v.2.1.2.2.2.2.2.1 v.2.1.2.2.2.2.2.2.1 v.2.1.2.2.2.2.2.2.2.1 v.2.1.2.2.2.2.2.2.2.2.1 v.2.1.2.2.2.2.2.2.2.2.2.1 v.2.1.2.2.2.2.2.2.2.2.2.2.1 := by kernel_rfl
theorem q58_7 (n : Nat) (v : h58_7.V) (ω : List Bool) : loopF C58 c58 Tryz.f58 (j58 n) 7 ω (h58_7.st 39 v) = spec_JudgeWhole_step7 (spec_JudgeWhole_L4 n) (spec_JudgeWhole_L7 n) v.1.2.1 v.1.2.2.1 v.1.2.2.2.2.1 v.1.2.2.2.2.2.1 v.2.1.1 v.2.1.2.1 v.2.1.2.2.1 v.2.1.2.2.2.1 v.2.1.2.2.2.2.1 v.2.1.2.2.2.2.2.1 v.2.1.2.2.2.2.2.2.1 v.2.1.2.2.2.2.2.2.2.1 v.2.1.2.2.2.2.2.2.2.2.1 v.2.1.2.2.2.2.2.2.2.2.2.1 v.2.1.2.2.2.2.2.2.2.2.2.2.1 := by kernel_rfl
theorem e58 (n : Nat) (ω : List Bool) (v : i58.V) : enterF C58 c58 Tryz.f58 (j58 n) ω v = spec_JudgeWhole_entry (spec_JudgeWhole_L4 n) (spec_JudgeWhole_L7 n) v.1.1 := by kernel_rfl
theorem s58 : SoundC Tryz.prog 58 c58 := sound_by (l := l58) (J := j58) (L := [4, 7]) tOk mx Tryz.func58 ⟨s27, trivial⟩ (by kernel_rfl) (by kernel_rfl)
  ⟨⟨h58_4, fun n v => spec_JudgeWhole_L4 n v.1.2.1 v.2.1.1 v.2.1.2.1 v.2.1.2.2.1 v.2.1.2.2.2.1 v.2.1.2.2.2.2.1 v.2.1.2.2.2.2.2.1 v.2.1.2.2.2.2.2.2.1 v.2.1.2.2.2.2.2.2.2.1 v.2.1.2.2.2.2.2.2.2.2.1 v.2.1.2.2.2.2.2.2.2.2.2.1 v.2.1.2.2.2.2.2.2.2.2.2.2.1, fun _ => rfl, fun _ => rfl, q58_4⟩, ⟨⟨h58_7, fun n v => spec_JudgeWhole_L7 n v.1.2.1 v.1.2.2.1 v.1.2.2.2.2.1 v.1.2.2.2.2.2.1 v.2.1.1 v.2.1.2.1 v.2.1.2.2.1 v.2.1.2.2.2.1 v.2.1.2.2.2.2.1 v.2.1.2.2.2.2.2.1 v.2.1.2.2.2.2.2.2.1 v.2.1.2.2.2.2.2.2.2.1 v.2.1.2.2.2.2.2.2.2.2.1 v.2.1.2.2.2.2.2.2.2.2.2.1 v.2.1.2.2.2.2.2.2.2.2.2.2.1, fun _ => rfl, fun _ => rfl, q58_7⟩, trivial⟩⟩ FUEL (e58 FUEL)

/-! spec_l14Agree -/
abbrev i102 : Shp := ⟨[(0, .row Y11), (1, .row Y9), (2, .row Y9)], []⟩
abbrev o102 : Shp := ⟨[(0, .c (.v .bool))], []⟩
noncomputable def c102 : Con := ⟨i102, o102, fun v => spec_l14Agree v.1.1 v.1.2.1 v.1.2.2.1⟩
noncomputable def l102 : List (Nat × Con) := [(100, c100), (101, c101), (123, c123)]
noncomputable def C102 : Cfg := ⟨T, gam l102, hintOf []⟩
abbrev h102_2 : Shp := ⟨[(3, .c (.ptr 0 0)), (4, .c (.ptr 1 0)), (5, .c (.ptr 2 0)), (7, .c (.v tI))], [.mem [.sl false tI, .v tI, .sl false Y2, .sl false tI, .sl false Y3, .v tI, .sl false Y6, .sl false Y7, .sl false Y9, .sl false Y10, .v .bool], .mem [.v tI, .v tI, .sl false Y8], .mem [.v tI, .v tI, .sl false Y8]]⟩
noncomputable def j102 (n ℓ : Nat) (σ : St) : Option o102.V := if ℓ = 2 then jump 0 h102_2 (fun v => spec_l14Agree_L2 n v.1.2.2.2.1 v.2.1.1 v.2.1.2.1 v.2.1.2.2.1 v.2.1.2.2.2.1 v.2.1.2.2.2.2.1 v.2.1.2.2.2.2.2.1 v.2.1.2.2.2.2.2.2.1 v.2.1.2.2.2.2.2.2.2.1 v.2.1.2.2.2.2.2.2.2.2.1 v.2.1.2.2.2.2.2.2.2.2.2.1 v.2.1.2.2.2.2.2.2.2.2.2.2.1 v.2.2.1.1 v.2.2.1.2.1 v.2.2.1.2.2.1 v.2.2.2.1.1 v.2.2.2.1.2.1 v.2.2.2.1.2.2.1) σ else none
theorem q102_2 (n : Nat) (v : h102_2.V) (ω : List Bool) : loopF C102 c102 Tryz.f102 (j102 n) 2 ω (h102_2.st 77 v) = spec_l14Agree_step2 (spec_l14Agree_L2 n) v.1.2.2.2.1 v.2.1.1 v.2.1.2.1 v.2.1.2.2.1 v.2.1.2.2.2.1 v.2.1.2.2.2.2.1 v.2.1.2.2.2.2.2.1 v.2.1.2.2.2.2.2.2.1 v.2.1.2.2.2.2.2.2.2.1 v.2.1.2.2.2.2.2.2.2.2.1 v.2.1.2.2.2.2.2.2.2.2.2.1 v.2.1.2.2.2.2.2.2.2.2.2.2.1 v.2.2.1.1 v.2.2.1.2.1 v.2.2.1.2.2.1 v.2.2.2.1.1 v.2.2.2.1.2.1 v.2.2.2.1.2.2.1 := by kernel_rfl
theorem e102 (n : Nat) (ω : List Bool) (v : i102.V) : enterF C102 c102 Tryz.f102 (j102 n) ω v = spec_l14Agree_entry (spec_l14Agree_L2 n) v.1.1 v.1.2.1 v.1.2.2.1 := by kernel_rfl
theorem s102 : SoundC Tryz.prog 102 c102 := sound_by (l := l102) (J := j102) (L := [2]) tOk mx Tryz.func102 ⟨s100, s101, s123, trivial⟩ (by kernel_rfl) (by kernel_rfl)
  ⟨⟨h102_2, fun n v => spec_l14Agree_L2 n v.1.2.2.2.1 v.2.1.1 v.2.1.2.1 v.2.1.2.2.1 v.2.1.2.2.2.1 v.2.1.2.2.2.2.1 v.2.1.2.2.2.2.2.1 v.2.1.2.2.2.2.2.2.1 v.2.1.2.2.2.2.2.2.2.1 v.2.1.2.2.2.2.2.2.2.2.1 v.2.1.2.2.2.2.2.2.2.2.2.1 v.2.1.2.2.2.2.2.2.2.2.2.2.1 v.2.2.1.1 v.2.2.1.2.1 v.2.2.1.2.2.1 v.2.2.2.1.1 v.2.2.2.1.2.1 v.2.2.2.1.2.2.1, fun _ => rfl, fun _ => rfl, q102_2⟩, trivial⟩ FUEL (e102 FUEL)

/-! spec_JudgeSame -/
abbrev i59 : Shp := ⟨[(0, .row Y11)], []⟩
abbrev o59 : Shp := ⟨[(0, .c (.v .bool))], []⟩
noncomputable def c59 : Con := ⟨i59, o59, fun v => spec_JudgeSame v.1.1⟩
noncomputable def l59 : List (Nat × Con) := [(27, c27), (102, c102)]
noncomputable def C59 : Cfg := ⟨T, gam l59, hintOf [(3, [0])]⟩
theorem e59 (ω : List Bool) (v : i59.V) : enterF C59 c59 Tryz.f59 (fun _ _ => none) ω v = spec_JudgeSame v.1.1 := by kernel_rfl
theorem s59 : SoundC Tryz.prog 59 c59 := sound_by0 (l := l59) tOk mx Tryz.func59 ⟨s27, s102, trivial⟩ (by kernel_rfl) (by kernel_rfl) e59

/-! spec_JudgeAll -/
abbrev i17 : Shp := ⟨[(0, .row Y11)], []⟩
abbrev o17 : Shp := ⟨[(0, .c (.v .bool))], []⟩
noncomputable def c17 : Con := ⟨i17, o17, fun v => spec_JudgeAll v.1.1⟩
noncomputable def l17 : List (Nat × Con) := [(55, c55), (56, c56), (57, c57), (58, c58), (59, c59)]
noncomputable def C17 : Cfg := ⟨T, gam l17, hintOf []⟩
theorem e17 (ω : List Bool) (v : i17.V) : enterF C17 c17 Tryz.f17 (fun _ _ => none) ω v = spec_JudgeAll v.1.1 := by kernel_rfl
theorem s17 : SoundC Tryz.prog 17 c17 := sound_by0 (l := l17) tOk mx Tryz.func17 ⟨s55, s56, s57, s58, s59, trivial⟩ (by kernel_rfl) (by kernel_rfl) e17

/-! impl_within -/
abbrev i54 : Shp := ⟨[(0, .c (.v tI)), (1, .c (.v tI)), (2, .c (.v tI))], []⟩
abbrev o54 : Shp := ⟨[(0, .c (.v .bool))], []⟩
noncomputable def c54 : Con := ⟨i54, o54, fun v => impl_within v.1.1 v.1.2.1 v.1.2.2.1⟩
noncomputable def l54 : List (Nat × Con) := []
noncomputable def C54 : Cfg := ⟨T, gam l54, hintOf []⟩
theorem e54 (ω : List Bool) (v : i54.V) : enterF C54 c54 Tryz.f54 (fun _ _ => none) ω v = impl_within v.1.1 v.1.2.1 v.1.2.2.1 := by kernel_rfl
theorem s54 : SoundC Tryz.prog 54 c54 := sound_by0 (l := l54) tOk mx Tryz.func54 trivial (by kernel_rfl) (by kernel_rfl) e54

/-! impl_ConfigOk -/
abbrev i81 : Shp := ⟨[(0, .row Y0)], []⟩
abbrev o81 : Shp := ⟨[(0, .c (.v .bool))], []⟩
noncomputable def c81 : Con := ⟨i81, o81, fun v => impl_ConfigOk v.1.1⟩
noncomputable def l81 : List (Nat × Con) := [(54, c54)]
noncomputable def C81 : Cfg := ⟨T, gam l81, hintOf []⟩
abbrev h81_2 : Shp := ⟨[(1, .c (.ptr 0 0)), (6, .c (.sl false tI)), (7, .c (.v tI)), (8, .c (.v tI))], [.mem [.sl false tI, .v tI]]⟩
noncomputable def j81 (n ℓ : Nat) (σ : St) : Option o81.V := if ℓ = 2 then jump 0 h81_2 (fun v => impl_ConfigOk_L2 n v.1.2.1 v.1.2.2.1 v.1.2.2.2.1 v.2.1.1 v.2.1.2.1) σ else none
theorem q81_2 (n : Nat) (v : h81_2.V) (ω : List Bool) : loopF C81 c81 Tryz.f81 (j81 n) 2 ω (h81_2.st 25 v) = impl_ConfigOk_step2 (impl_ConfigOk_L2 n) v.1.2.1 v.1.2.2.1 v.1.2.2.2.1 v.2.1.1 v.2.1.2.1 := by kernel_rfl
theorem e81 (n : Nat) (ω : List Bool) (v : i81.V) : enterF C81 c81 Tryz.f81 (j81 n) ω v = impl_ConfigOk_entry (impl_ConfigOk_L2 n) v.1.1 := by kernel_rfl
theorem s81 : SoundC Tryz.prog 81 c81 := sound_by (l := l81) (J := j81) (L := [2]) tOk mx Tryz.func81 ⟨s54, trivial⟩ (by kernel_rfl) (by kernel_rfl)
  ⟨⟨h81_2, fun n v => impl_ConfigOk_L2 n v.1.2.1 v.1.2.2.1 v.1.2.2.2.1 v.2.1.1 v.2.1.2.1, fun _ => rfl, fun _ => rfl, q81_2⟩, trivial⟩ FUEL (e81 FUEL)

/-! impl_ascends -/
abbrev i164 : Shp := ⟨[(0, .c (.sl false tI)), (1, .c (.v tI))], []⟩
abbrev o164 : Shp := ⟨[(0, .c (.v .bool))], []⟩
noncomputable def c164 : Con := ⟨i164, o164, fun v => impl_ascends v.1.1 v.1.2.1⟩
noncomputable def l164 : List (Nat × Con) := [(54, c54)]
noncomputable def C164 : Cfg := ⟨T, gam l164, hintOf []⟩
abbrev h164_2 : Shp := ⟨[(0, .c (.sl false tI)), (1, .c (.v tI)), (7, .c (.sl false tI)), (8, .c (.v tI)), (9, .c (.v tI))], []⟩
noncomputable def j164 (n ℓ : Nat) (σ : St) : Option o164.V := if ℓ = 2 then jump 0 h164_2 (fun v => impl_ascends_L2 n v.1.1 v.1.2.1 v.1.2.2.1 v.1.2.2.2.1 v.1.2.2.2.2.1) σ else none
theorem q164_2 (n : Nat) (v : h164_2.V) (ω : List Bool) : loopF C164 c164 Tryz.f164 (j164 n) 2 ω (h164_2.st 32 v) = impl_ascends_step2 (impl_ascends_L2 n) v.1.1 v.1.2.1 v.1.2.2.1 v.1.2.2.2.1 v.1.2.2.2.2.1 := by kernel_rfl
theorem e164 (n : Nat) (ω : List Bool) (v : i164.V) : enterF C164 c164 Tryz.f164 (j164 n) ω v = impl_ascends_entry (impl_ascends_L2 n) v.1.1 v.1.2.1 := by kernel_rfl
theorem s164 : SoundC Tryz.prog 164 c164 := sound_by (l := l164) (J := j164) (L := [2]) tOk mx Tryz.func164 ⟨s54, trivial⟩ (by kernel_rfl) (by kernel_rfl)
  ⟨⟨h164_2, fun n v => impl_ascends_L2 n v.1.1 v.1.2.1 v.1.2.2.1 v.1.2.2.2.1 v.1.2.2.2.2.1, fun _ => rfl, fun _ => rfl, q164_2⟩, trivial⟩ FUEL (e164 FUEL)

/-! impl_NodesOk -/
abbrev i130 : Shp := ⟨[(0, .row Y0), (1, .c (.sl false tI))], []⟩
abbrev o130 : Shp := ⟨[(0, .c (.v .bool))], []⟩
noncomputable def c130 : Con := ⟨i130, o130, fun v => impl_NodesOk v.1.1 v.1.2.1⟩
noncomputable def l130 : List (Nat × Con) := [(81, c81), (164, c164)]
noncomputable def C130 : Cfg := ⟨T, gam l130, hintOf []⟩
theorem e130 (ω : List Bool) (v : i130.V) : enterF C130 c130 Tryz.f130 (fun _ _ => none) ω v = impl_NodesOk v.1.1 v.1.2.1 := by kernel_rfl
theorem s130 : SoundC Tryz.prog 130 c130 := sound_by0 (l := l130) tOk mx Tryz.func130 ⟨s81, s164, trivial⟩ (by kernel_rfl) (by kernel_rfl) e130

/-! impl_isEpoch -/
abbrev i150 : Shp := ⟨[(0, .c (.v tI))], []⟩
abbrev o150 : Shp := ⟨[(0, .c (.v .bool))], []⟩
noncomputable def c150 : Con := ⟨i150, o150, fun v => impl_isEpoch v.1.1⟩
noncomputable def l150 : List (Nat × Con) := [(54, c54)]
noncomputable def C150 : Cfg := ⟨T, gam l150, hintOf []⟩
theorem e150 (ω : List Bool) (v : i150.V) : enterF C150 c150 Tryz.f150 (fun _ _ => none) ω v = impl_isEpoch v.1.1 := by kernel_rfl
theorem s150 : SoundC Tryz.prog 150 c150 := sound_by0 (l := l150) tOk mx Tryz.func150 ⟨s54, trivial⟩ (by kernel_rfl) (by kernel_rfl) e150

/-! impl_isOff -/
abbrev i151 : Shp := ⟨[(0, .c (.v tI))], []⟩
abbrev o151 : Shp := ⟨[(0, .c (.v .bool))], []⟩
noncomputable def c151 : Con := ⟨i151, o151, fun v => impl_isOff v.1.1⟩
noncomputable def l151 : List (Nat × Con) := [(54, c54)]
noncomputable def C151 : Cfg := ⟨T, gam l151, hintOf []⟩
theorem e151 (ω : List Bool) (v : i151.V) : enterF C151 c151 Tryz.f151 (fun _ _ => none) ω v = impl_isOff v.1.1 := by kernel_rfl
theorem s151 : SoundC Tryz.prog 151 c151 := sound_by0 (l := l151) tOk mx Tryz.func151 ⟨s54, trivial⟩ (by kernel_rfl) (by kernel_rfl) e151

/-! impl_PlaceOk -/
abbrev i107 : Shp := ⟨[(0, .c (.v tI))], []⟩
abbrev o107 : Shp := ⟨[(0, .c (.v .bool))], []⟩
noncomputable def c107 : Con := ⟨i107, o107, fun v => impl_PlaceOk v.1.1⟩
noncomputable def l107 : List (Nat × Con) := [(150, c150), (151, c151)]
noncomputable def C107 : Cfg := ⟨T, gam l107, hintOf []⟩
theorem e107 (ω : List Bool) (v : i107.V) : enterF C107 c107 Tryz.f107 (fun _ _ => none) ω v = impl_PlaceOk v.1.1 := by kernel_rfl
theorem s107 : SoundC Tryz.prog 107 c107 := sound_by0 (l := l107) tOk mx Tryz.func107 ⟨s150, s151, trivial⟩ (by kernel_rfl) (by kernel_rfl) e107

/-! impl_dataOk -/
abbrev i141 : Shp := ⟨[(0, .c (.v .str))], []⟩
abbrev o141 : Shp := ⟨[(0, .c (.v .bool))], []⟩
noncomputable def c141 : Con := ⟨i141, o141, fun v => impl_dataOk v.1.1⟩
noncomputable def l141 : List (Nat × Con) := []
noncomputable def C141 : Cfg := ⟨T, gam l141, hintOf []⟩
theorem e141 (ω : List Bool) (v : i141.V) : enterF C141 c141 Tryz.f141 (fun _ _ => none) ω v = impl_dataOk v.1.1 := by kernel_rfl
theorem s141 : SoundC Tryz.prog 141 c141 := sound_by0 (l := l141) tOk mx Tryz.func141 trivial (by kernel_rfl) (by kernel_rfl) e141

/-! impl_EpochOf -/
abbrev i135 : Shp := ⟨[(0, .c (.v tI))], []⟩
abbrev o135 : Shp := ⟨[(0, .c (.v tI))], []⟩
noncomputable def c135 : Con := ⟨i135, o135, fun v => impl_EpochOf v.1.1⟩
noncomputable def l135 : List (Nat × Con) := [(107, c107)]
noncomputable def C135 : Cfg := ⟨T, gam l135, hintOf []⟩
theorem e135 (ω : List Bool) (v : i135.V) : enterF C135 c135 Tryz.f135 (fun _ _ => none) ω v = impl_EpochOf v.1.1 := by kernel_rfl
theorem s135 : SoundC Tryz.prog 135 c135 := sound_by0 (l := l135) tOk mx Tryz.func135 ⟨s107, trivial⟩ (by kernel_rfl) (by kernel_rfl) e135

/-! impl_EntryOk -/
abbrev i176 : Shp := ⟨[(0, .row Y1)], []⟩
abbrev o176 : Shp := ⟨[(0, .c (.v .bool))], []⟩
noncomputable def c176 : Con := ⟨i176, o176, fun v => impl_EntryOk v.1.1⟩
noncomputable def l176 : List (Nat × Con) := [(54, c54), (107, c107), (135, c135), (141, c141)]
noncomputable def C176 : Cfg := ⟨T, gam l176, hintOf [(1, [0])]⟩
theorem e176 (ω : List Bool) (v : i176.V) : enterF C176 c176 Tryz.f176 (fun _ _ => none) ω v = impl_EntryOk v.1.1 := by kernel_rfl
theorem s176 : SoundC Tryz.prog 176 c176 := sound_by0 (l := l176) tOk mx Tryz.func176 ⟨s54, s107, s135, s141, trivial⟩ (by kernel_rfl) (by kernel_rfl) e176

/-! impl_entriesOk -/
abbrev i165 : Shp := ⟨[(0, .c (.sl false Y1))], []⟩
abbrev o165 : Shp := ⟨[(0, .c (.v .bool))], []⟩
noncomputable def c165 : Con := ⟨i165, o165, fun v => impl_entriesOk v.1.1⟩
noncomputable def l165 : List (Nat × Con) := [(176, c176)]
noncomputable def C165 : Cfg := ⟨T, gam l165, hintOf []⟩
abbrev h165_2 : Shp := ⟨[(5, .c (.sl false Y1)), (6, .c (.v tI)), (7, .c (.v tI))], []⟩
noncomputable def j165 (n ℓ : Nat) (σ : St) : Option o165.V := if ℓ = 2 then jump 0 h165_2 (fun v => impl_entriesOk_L2 n v.1.1 v.1.2.1 v.1.2.2.1) σ else none
theorem q165_2 (n : Nat) (v : h165_2.V) (ω : List Bool) : loopF C165 c165 Tryz.f165 (j165 n) 2 ω (h165_2.st 15 v) = impl_entriesOk_step2 (impl_entriesOk_L2 n) v.1.1 v.1.2.1 v.1.2.2.1 := by kernel_rfl
theorem e165 (n : Nat) (ω : List Bool) (v : i165.V) : enterF C165 c165 Tryz.f165 (j165 n) ω v = impl_entriesOk_entry (impl_entriesOk_L2 n) v.1.1 := by kernel_rfl
theorem s165 : SoundC Tryz.prog 165 c165 := sound_by (l := l165) (J := j165) (L := [2]) tOk mx Tryz.func165 ⟨s176, trivial⟩ (by kernel_rfl) (by kernel_rfl)
  ⟨⟨h165_2, fun n v => impl_entriesOk_L2 n v.1.1 v.1.2.1 v.1.2.2.1, fun _ => rfl, fun _ => rfl, q165_2⟩, trivial⟩ FUEL (e165 FUEL)

/-! impl_placesAscend -/
abbrev i166 : Shp := ⟨[(0, .c (.sl false Y1))], []⟩
abbrev o166 : Shp := ⟨[(0, .c (.v .bool))], []⟩
noncomputable def c166 : Con := ⟨i166, o166, fun v => impl_placesAscend v.1.1⟩
noncomputable def l166 : List (Nat × Con) := []
noncomputable def C166 : Cfg := ⟨T, gam l166, hintOf [(4, [0])]⟩
abbrev h166_2 : Shp := ⟨[(0, .c (.sl false Y1)), (5, .c (.sl false Y1)), (6, .c (.v tI)), (7, .c (.v tI))], []⟩
noncomputable def j166 (n ℓ : Nat) (σ : St) : Option o166.V := if ℓ = 2 then jump 0 h166_2 (fun v => impl_placesAscend_L2 n v.1.1 v.1.2.1 v.1.2.2.1 v.1.2.2.2.1) σ else none
theorem q166_2 (n : Nat) (v : h166_2.V) (ω : List Bool) : loopF C166 c166 Tryz.f166 (j166 n) 2 ω (h166_2.st 26 v) = impl_placesAscend_step2 (impl_placesAscend_L2 n) v.1.1 v.1.2.1 v.1.2.2.1 v.1.2.2.2.1 := by kernel_rfl
theorem e166 (n : Nat) (ω : List Bool) (v : i166.V) : enterF C166 c166 Tryz.f166 (j166 n) ω v = impl_placesAscend_entry (impl_placesAscend_L2 n) v.1.1 := by kernel_rfl
theorem s166 : SoundC Tryz.prog 166 c166 := sound_by (l := l166) (J := j166) (L := [2]) tOk mx Tryz.func166 trivial (by kernel_rfl) (by kernel_rfl)
  ⟨⟨h166_2, fun n v => impl_placesAscend_L2 n v.1.1 v.1.2.1 v.1.2.2.1 v.1.2.2.2.1, fun _ => rfl, fun _ => rfl, q166_2⟩, trivial⟩ FUEL (e166 FUEL)

/-! impl_StoreOk -/
abbrev i131 : Shp := ⟨[(0, .row Y2)], []⟩
abbrev o131 : Shp := ⟨[(0, .c (.v .bool))], []⟩
noncomputable def c131 : Con := ⟨i131, o131, fun v => impl_StoreOk v.1.1⟩
noncomputable def l131 : List (Nat × Con) := [(54, c54), (165, c165), (166, c166)]
noncomputable def C131 : Cfg := ⟨T, gam l131, hintOf []⟩
theorem e131 (ω : List Bool) (v : i131.V) : enterF C131 c131 Tryz.f131 (fun _ _ => none) ω v = impl_StoreOk v.1.1 := by kernel_rfl
theorem s131 : SoundC Tryz.prog 131 c131 := sound_by0 (l := l131) tOk mx Tryz.func131 ⟨s54, s165, s166, trivial⟩ (by kernel_rfl) (by kernel_rfl) e131

/-! impl_copyInts -/
abbrev i178 : Shp := ⟨[(0, .c (.sl false tI))], []⟩
abbrev o178 : Shp := ⟨[(0, .c (.ref 0))], [.sl 9 tI]⟩
noncomputable def c178 : Con := ⟨i178, o178, fun v => impl_copyInts v.1.1⟩
noncomputable def l178 : List (Nat × Con) := []
noncomputable def C178 : Cfg := ⟨T, gam l178, hintOf []⟩
theorem e178 (ω : List Bool) (v : i178.V) : enterF C178 c178 Tryz.f178 (fun _ _ => none) ω v = impl_copyInts v.1.1 := by kernel_rfl
theorem s178 : SoundC Tryz.prog 178 c178 := sound_by0 (l := l178) tOk mx Tryz.func178 trivial (by kernel_rfl) (by kernel_rfl) e178

/-! slices_Index_int_int -/
abbrev i182 : Shp := ⟨[(0, .c (.sl false tI)), (1, .c (.v tI))], []⟩
abbrev o182 : Shp := ⟨[(0, .c (.v tI))], []⟩
noncomputable def c182 : Con := ⟨i182, o182, fun v => slices_Index_int_int v.1.1 v.1.2.1⟩
noncomputable def l182 : List (Nat × Con) := []
noncomputable def C182 : Cfg := ⟨T, gam l182, hintOf []⟩
abbrev h182_2 : Shp := ⟨[(0, .c (.sl false tI)), (1, .c (.v tI)), (7, .c (.v tI)), (8, .c (.v tI))], []⟩
noncomputable def j182 (n ℓ : Nat) (σ : St) : Option o182.V := if ℓ = 2 then jump 0 h182_2 (fun v => slices_Index_int_int_L2 n v.1.1 v.1.2.1 v.1.2.2.1 v.1.2.2.2.1) σ else none
theorem q182_2 (n : Nat) (v : h182_2.V) (ω : List Bool) : loopF C182 c182 Tryz.f182 (j182 n) 2 ω (h182_2.st 19 v) = slices_Index_int_int_step2 (slices_Index_int_int_L2 n) v.1.1 v.1.2.1 v.1.2.2.1 v.1.2.2.2.1 := by kernel_rfl
theorem e182 (n : Nat) (ω : List Bool) (v : i182.V) : enterF C182 c182 Tryz.f182 (j182 n) ω v = slices_Index_int_int_entry (slices_Index_int_int_L2 n) v.1.1 v.1.2.1 := by kernel_rfl
theorem s182 : SoundC Tryz.prog 182 c182 := sound_by (l := l182) (J := j182) (L := [2]) tOk mx Tryz.func182 trivial (by kernel_rfl) (by kernel_rfl)
  ⟨⟨h182_2, fun n v => slices_Index_int_int_L2 n v.1.1 v.1.2.1 v.1.2.2.1 v.1.2.2.2.1, fun _ => rfl, fun _ => rfl, q182_2⟩, trivial⟩ FUEL (e182 FUEL)

/-! slices_Contains_int_int -/
abbrev i180 : Shp := ⟨[(0, .c (.sl false tI)), (1, .c (.v tI))], []⟩
abbrev o180 : Shp := ⟨[(0, .c (.v .bool))], []⟩
noncomputable def c180 : Con := ⟨i180, o180, fun v => slices_Contains_int_int v.1.1 v.1.2.1⟩
noncomputable def l180 : List (Nat × Con) := [(182, c182)]
noncomputable def C180 : Cfg := ⟨T, gam l180, hintOf []⟩
theorem e180 (ω : List Bool) (v : i180.V) : enterF C180 c180 Tryz.f180 (fun _ _ => none) ω v = slices_Contains_int_int v.1.1 v.1.2.1 := by kernel_rfl
theorem s180 : SoundC Tryz.prog 180 c180 := sound_by0 (l := l180) tOk mx Tryz.func180 ⟨s182, trivial⟩ (by kernel_rfl) (by kernel_rfl) e180

/-! impl_both_1 -/
abbrev i179 : Shp := ⟨[(0, .c (.v tI)), (1, .c (.prow (.cons (.sl tI) .unit)))], []⟩
abbrev o179 : Shp := ⟨[(0, .c (.v .bool))], []⟩
noncomputable def c179 : Con := ⟨i179, o179, fun v => impl_both_1 v.1.1 v.1.2.1⟩
noncomputable def l179 : List (Nat × Con) := [(180, c180)]
noncomputable def C179 : Cfg := ⟨T, gam l179, hintOf []⟩
theorem e179 (ω : List Bool) (v : i179.V) : enterF C179 c179 Tryz.f179 (fun _ _ => none) ω v = impl_both_1 v.1.1 v.1.2.1 := by kernel_rfl
theorem s179 : SoundC Tryz.prog 179 c179 := sound_by0 (l := l179) tOk mx Tryz.func179 ⟨s180, trivial⟩ (by kernel_rfl) (by kernel_rfl) e179

/-! slices_IndexFunc_int_int_impl_both_1 -/
abbrev i181 : Shp := ⟨[(0, .c (.sl false tI)), (1, .c (.rfn 179 [(.cons (.sl tI) .unit)]))], []⟩
abbrev o181 : Shp := ⟨[(0, .c (.v tI))], []⟩
noncomputable def c181 : Con := ⟨i181, o181, fun v => slices_IndexFunc_int_int_impl_both_1 v.1.1 v.1.2.1⟩
noncomputable def l181 : List (Nat × Con) := [(179, c179)]
noncomputable def C181 : Cfg := ⟨T, gam l181, hintOf []⟩
abbrev h181_2 : Shp := ⟨[(0, .c (.sl false tI)), (1, .c (.rfn 179 [(.cons (.sl tI) .unit)])), (7, .c (.v tI)), (8, .c (.v tI))], []⟩
noncomputable def j181 (n ℓ : Nat) (σ : St) : Option o181.V := if ℓ = 2 then jump 0 h181_2 (fun v => slices_IndexFunc_int_int_impl_both_1_L2 n v.1.1 v.1.2.1 v.1.2.2.1 v.1.2.2.2.1) σ else none
theorem q181_2 (n : Nat) (v : h181_2.V) (ω : List Bool) : loopF C181 c181 Tryz.f181 (j181 n) 2 ω (h181_2.st 19 v) = slices_IndexFunc_int_int_impl_both_1_step2 (slices_IndexFunc_int_int_impl_both_1_L2 n) v.1.1 v.1.2.1 v.1.2.2.1 v.1.2.2.2.1 := by kernel_rfl
theorem e181 (n : Nat) (ω : List Bool) (v : i181.V) : enterF C181 c181 Tryz.f181 (j181 n) ω v = slices_IndexFunc_int_int_impl_both_1_entry (slices_IndexFunc_int_int_impl_both_1_L2 n) v.1.1 v.1.2.1 := by kernel_rfl
theorem s181 : SoundC Tryz.prog 181 c181 := sound_by (l := l181) (J := j181) (L := [2]) tOk mx Tryz.func181 ⟨s179, trivial⟩ (by kernel_rfl) (by kernel_rfl)
  ⟨⟨h181_2, fun n v => slices_IndexFunc_int_int_impl_both_1_L2 n v.1.1 v.1.2.1 v.1.2.2.1 v.1.2.2.2.1, fun _ => rfl, fun _ => rfl, q181_2⟩, trivial⟩ FUEL (e181 FUEL)

/-! slices_DeleteFunc_int_int_impl_both_1 -/
abbrev i177 : Shp := ⟨[(0, .c (.ref 0)), (1, .c (.rfn 179 [(.cons (.sl tI) .unit)]))], [.sl 1 tI]⟩
abbrev o177 : Shp := ⟨[(0, .c (.ref 1))], [.gone, .sl 1 tI]⟩
noncomputable def c177 : Con := ⟨i177, o177, fun v => slices_DeleteFunc_int_int_impl_both_1 v.1.2.1 v.2.1⟩
noncomputable def l177 : List (Nat × Con) := [(179, c179), (181, c181)]
noncomputable def C177 : Cfg := ⟨T, gam l177, hintOf []⟩
abbrev h177_5 : Shp := ⟨[(0, .c (.ref 0)), (1, .c (.rfn 179 [(.cons (.sl tI) .unit)])), (5, .c (.v tI)), (6, .c (.v tI))], [.sl 1 tI]⟩
noncomputable def j177 (n ℓ : Nat) (σ : St) : Option o177.V := if ℓ = 5 then jump 1 h177_5 (fun v => slices_DeleteFunc_int_int_impl_both_1_L5 n v.1.2.1 v.1.2.2.1 v.1.2.2.2.1 v.2.1) σ else none
theorem q177_5 (n : Nat) (v : h177_5.V) (ω : List Bool) : loopF C177 c177 Tryz.f177 (j177 n) 5 ω (h177_5.st 42 v) = slices_DeleteFunc_int_int_impl_both_1_step5 (slices_DeleteFunc_int_int_impl_both_1_L5 n) v.1.2.1 v.1.2.2.1 v.1.2.2.2.1 v.2.1 := by kernel_rfl
theorem e177 (n : Nat) (ω : List Bool) (v : i177.V) : enterF C177 c177 Tryz.f177 (j177 n) ω v = slices_DeleteFunc_int_int_impl_both_1_entry (slices_DeleteFunc_int_int_impl_both_1_L5 n) v.1.2.1 v.2.1 := by kernel_rfl
theorem s177 : SoundC Tryz.prog 177 c177 := sound_by (l := l177) (J := j177) (L := [5]) tOk mx Tryz.func177 ⟨s179, s181, trivial⟩ (by kernel_rfl) (by kernel_rfl)
  ⟨⟨h177_5, fun n v => slices_DeleteFunc_int_int_impl_both_1_L5 n v.1.2.1 v.1.2.2.1 v.1.2.2.2.1 v.2.1, fun _ => rfl, fun _ => rfl, q177_5⟩, trivial⟩ FUEL (e177 FUEL)

/-! impl_both -/
abbrev i167 : Shp := ⟨[(0, .c (.sl false tI)), (1, .c (.sl false tI))], []⟩
abbrev o167 : Shp := ⟨[(0, .c (.ref 0))], [.sl 1 tI]⟩
noncomputable def c167 : Con := ⟨i167, o167, fun v => impl_both v.1.1 v.1.2.1⟩
noncomputable def l167 : List (Nat × Con) := [(177, c177), (178, c178)]
noncomputable def C167 : Cfg := ⟨T, gam l167, hintOf []⟩
theorem e167 (ω : List Bool) (v : i167.V) : enterF C167 c167 Tryz.f167 (fun _ _ => none) ω v = impl_both v.1.1 v.1.2.1 := by kernel_rfl
theorem s167 : SoundC Tryz.prog 167 c167 := sound_by0 (l := l167) tOk mx Tryz.func167 ⟨s177, s178, trivial⟩ (by kernel_rfl) (by kernel_rfl) e167

/-! impl_World_isLost -/
abbrev i132 : Shp := ⟨[(0, .c (.prow Y11)), (1, .c (.v tI))], []⟩
abbrev o132 : Shp := ⟨[(0, .c (.v .bool))], []⟩
noncomputable def c132 : Con := ⟨i132, o132, fun v => impl_World_isLost v.1.1 v.1.2.1⟩
noncomputable def l132 : List (Nat × Con) := [(167, c167)]
noncomputable def C132 : Cfg := ⟨T, gam l132, hintOf []⟩
theorem e132 (ω : List Bool) (v : i132.V) : enterF C132 c132 Tryz.f132 (fun _ _ => none) ω v = impl_World_isLost v.1.1 v.1.2.1 := by kernel_rfl
theorem s132 : SoundC Tryz.prog 132 c132 := sound_by0 (l := l132) tOk mx Tryz.func132 ⟨s167, trivial⟩ (by kernel_rfl) (by kernel_rfl) e132

/-! impl_SpanOf -/
abbrev i168 : Shp := ⟨[(0, .row Y0), (1, .c (.sl false tI))], []⟩
abbrev o168 : Shp := ⟨[(0, .c (.v tI))], []⟩
noncomputable def c168 : Con := ⟨i168, o168, fun v => impl_SpanOf v.1.1 v.1.2.1⟩
noncomputable def l168 : List (Nat × Con) := [(130, c130), (180, c180)]
noncomputable def C168 : Cfg := ⟨T, gam l168, hintOf []⟩
abbrev h168_5 : Shp := ⟨[(2, .c (.ptr 0 0)), (5, .c (.ref 1)), (13, .c (.sl false tI)), (14, .c (.v tI)), (15, .c (.v tI))], [.mem [.sl false tI, .v tI], .sl 9 tI]⟩
noncomputable def j168 (n ℓ : Nat) (σ : St) : Option o168.V := if ℓ = 5 then jump 0 h168_5 (fun v => impl_SpanOf_L5 n v.1.2.2.1 v.1.2.2.2.1 v.1.2.2.2.2.1 v.2.1.1 v.2.1.2.1 v.2.2.1) σ else none
theorem q168_5 (n : Nat) (v : h168_5.V) (ω : List Bool) : loopF C168 c168 Tryz.f168 (j168 n) 5 ω (h168_5.st 38 v) = impl_SpanOf_step5 (impl_SpanOf_L5 n) v.1.2.2.1 v.1.2.2.2.1 v.1.2.2.2.2.1 v.2.1.1 v.2.1.2.1 v.2.2.1 := by kernel_rfl
theorem e168 (n : Nat) (ω : List Bool) (v : i168.V) : enterF C168 c168 Tryz.f168 (j168 n) ω v = impl_SpanOf_entry (impl_SpanOf_L5 n) v.1.1 v.1.2.1 := by kernel_rfl
theorem s168 : SoundC Tryz.prog 168 c168 := sound_by (l := l168) (J := j168) (L := [5]) tOk mx Tryz.func168 ⟨s130, s180, trivial⟩ (by kernel_rfl) (by kernel_rfl)
  ⟨⟨h168_5, fun n v => impl_SpanOf_L5 n v.1.2.2.1 v.1.2.2.2.1 v.1.2.2.2.2.1 v.2.1.1 v.2.1.2.1 v.2.2.1, fun _ => rfl, fun _ => rfl, q168_5⟩, trivial⟩ FUEL (e168 FUEL)

/-! impl_Holds -/
abbrev i133 : Shp := ⟨[(0, .row Y0), (1, .c (.sl false tI))], []⟩
abbrev o133 : Shp := ⟨[(0, .c (.v .bool))], []⟩
noncomputable def c133 : Con := ⟨i133, o133, fun v => impl_Holds v.1.1 v.1.2.1⟩
noncomputable def l133 : List (Nat × Con) := [(130, c130), (168, c168)]
noncomputable def C133 : Cfg := ⟨T, gam l133, hintOf [(1, [0])]⟩
theorem e133 (ω : List Bool) (v : i133.V) : enterF C133 c133 Tryz.f133 (fun _ _ => none) ω v = impl_Holds v.1.1 v.1.2.1 := by kernel_rfl
theorem s133 : SoundC Tryz.prog 133 c133 := sound_by0 (l := l133) tOk mx Tryz.func133 ⟨s130, s168, trivial⟩ (by kernel_rfl) (by kernel_rfl) e133

/-! impl_World_storesOk -/
abbrev i82 : Shp := ⟨[(0, .c (.prow Y11))], []⟩
abbrev o82 : Shp := ⟨[(0, .c (.v .bool))], []⟩
noncomputable def c82 : Con := ⟨i82, o82, fun v => impl_World_storesOk v.1.1⟩
noncomputable def l82 : List (Nat × Con) := [(130, c130), (131, c131), (132, c132), (133, c133)]
noncomputable def C82 : Cfg := ⟨T, gam l82, hintOf []⟩
abbrev h82_4 : Shp := ⟨[(0, .c (.prow Y11)), (32, .c (.sl false Y2)), (33, .c (.v tI)), (34, .c (.v tI))], []⟩
noncomputable def j82 (n ℓ : Nat) (σ : St) : Option o82.V := if ℓ = 4 then jump 0 h82_4 (fun v => impl_World_storesOk_L4 n v.1.1 v.1.2.1 v.1.2.2.1 v.1.2.2.2.1) σ else none
theorem q82_4 (n : Nat) (v : h82_4.V) (ω : List Bool) : loopF C82 c82 Tryz.f82 (j82 n) 4 ω (h82_4.st 77 v) = impl_World_storesOk_step4 (impl_World_storesOk_L4 n) v.1.1 v.1.2.1 v.1.2.2.1 v.1.2.2.2.1 := by kernel_rfl
theorem e82 (n : Nat) (ω : List Bool) (v : i82.V) : enterF C82 c82 Tryz.f82 (j82 n) ω v = impl_World_storesOk_entry (impl_World_storesOk_L4 n) v.1.1 := by kernel_rfl
theorem s82 : SoundC Tryz.prog 82 c82 := sound_by (l := l82) (J := j82) (L := [4]) tOk mx Tryz.func82 ⟨s130, s131, s132, s133, trivial⟩ (by kernel_rfl) (by kernel_rfl)
  ⟨⟨h82_4, fun n v => impl_World_storesOk_L4 n v.1.1 v.1.2.1 v.1.2.2.1 v.1.2.2.2.1, fun _ => rfl, fun _ => rfl, q82_4⟩, trivial⟩ FUEL (e82 FUEL)

/-! impl_eraOk -/
abbrev i134 : Shp := ⟨[(0, .row Y0), (1, .row Y3)], []⟩
abbrev o134 : Shp := ⟨[(0, .c (.v .bool))], []⟩
noncomputable def c134 : Con := ⟨i134, o134, fun v => impl_eraOk v.1.1 v.1.2.1⟩
noncomputable def l134 : List (Nat × Con) := [(54, c54), (133, c133)]
noncomputable def C134 : Cfg := ⟨T, gam l134, hintOf []⟩
theorem e134 (ω : List Bool) (v : i134.V) : enterF C134 c134 Tryz.f134 (fun _ _ => none) ω v = impl_eraOk v.1.1 v.1.2.1 := by kernel_rfl
theorem s134 : SoundC Tryz.prog 134 c134 := sound_by0 (l := l134) tOk mx Tryz.func134 ⟨s54, s133, trivial⟩ (by kernel_rfl) (by kernel_rfl) e134

/-! impl_RegOk -/
abbrev i83 : Shp := ⟨[(0, .row Y0), (1, .row Y4)], []⟩
abbrev o83 : Shp := ⟨[(0, .c (.v .bool))], []⟩
noncomputable def c83 : Con := ⟨i83, o83, fun v => impl_RegOk v.1.1 v.1.2.1⟩
noncomputable def l83 : List (Nat × Con) := [(54, c54), (81, c81), (134, c134), (135, c135)]
noncomputable def C83 : Cfg := ⟨T, gam l83, hintOf [(7, [0, 1])]⟩
abbrev h83_2 : Shp := ⟨[(2, .c (.ptr 0 0)), (3, .c (.ptr 1 0)), (9, .c (.sl false Y3)), (10, .c (.v tI)), (11, .c (.v tI))], [.mem [.sl false tI, .v tI], .mem [.sl false Y3, .v tI]]⟩
noncomputable def j83 (n ℓ : Nat) (σ : St) : Option o83.V := if ℓ = 2 then jump 0 h83_2 (fun v => impl_RegOk_L2 n v.1.2.2.1 v.1.2.2.2.1 v.1.2.2.2.2.1 v.2.1.1 v.2.1.2.1 v.2.2.1.1 v.2.2.1.2.1) σ else none
theorem q83_2 (n : Nat) (v : h83_2.V) (ω : List Bool) : loopF C83 c83 Tryz.f83 (j83 n) 2 ω (h83_2.st 70 v) = impl_RegOk_step2 (impl_RegOk_L2 n) v.1.2.2.1 v.1.2.2.2.1 v.1.2.2.2.2.1 v.2.1.1 v.2.1.2.1 v.2.2.1.1 v.2.2.1.2.1 := by kernel_rfl
theorem e83 (n : Nat) (ω : List Bool) (v : i83.V) : enterF C83 c83 Tryz.f83 (j83 n) ω v = impl_RegOk_entry (impl_RegOk_L2 n) v.1.1 v.1.2.1 := by kernel_rfl
theorem s83 : SoundC Tryz.prog 83 c83 := sound_by (l := l83) (J := j83) (L := [2]) tOk mx Tryz.func83 ⟨s54, s81, s134, s135, trivial⟩ (by kernel_rfl) (by kernel_rfl)
  ⟨⟨h83_2, fun n v => impl_RegOk_L2 n v.1.2.2.1 v.1.2.2.2.1 v.1.2.2.2.2.1 v.2.1.1 v.2.1.2.1 v.2.2.1.1 v.2.2.1.2.1, fun _ => rfl, fun _ => rfl, q83_2⟩, trivial⟩ FUEL (e83 FUEL)

/-! impl_flagNum -/
abbrev i169 : Shp := ⟨[(0, .c (.v .bool))], []⟩
abbrev o169 : Shp := ⟨[(0, .c (.v tI))], []⟩
noncomputable def c169 : Con := ⟨i169, o169, fun v => impl_flagNum v.1.1⟩
noncomputable def l169 : List (Nat × Con) := []
noncomputable def C169 : Cfg := ⟨T, gam l169, hintOf []⟩
theorem e169 (ω : List Bool) (v : i169.V) : enterF C169 c169 Tryz.f169 (fun _ _ => none) ω v = impl_flagNum v.1.1 := by kernel_rfl
theorem s169 : SoundC Tryz.prog 169 c169 := sound_by0 (l := l169) tOk mx Tryz.func169 trivial (by kernel_rfl) (by kernel_rfl) e169

/-! impl_WriterOk -/
abbrev i136 : Shp := ⟨[(0, .row Y0), (1, .row Y6)], []⟩
abbrev o136 : Shp := ⟨[(0, .c (.v .bool))], []⟩
noncomputable def c136 : Con := ⟨i136, o136, fun v => impl_WriterOk v.1.1 v.1.2.1⟩
noncomputable def l136 : List (Nat × Con) := [(81, c81), (130, c130), (133, c133), (141, c141), (150, c150), (169, c169)]
noncomputable def C136 : Cfg := ⟨T, gam l136, hintOf [(5, [0, 1, 2])]⟩
abbrev h136_3 : Shp := ⟨[(2, .c (.ptr 0 0)), (3, .c (.ptr 1 0)), (5, .c (.v tI)), (9, .c (.sl false Y5)), (10, .c (.v tI)), (11, .c (.v tI))], [.mem [.sl false tI, .v tI], .mem [.v tI, .sl false Y5]]⟩
noncomputable def j136 (n ℓ : Nat) (σ : St) : Option o136.V := if ℓ = 3 then jump 0 h136_3 (fun v => impl_WriterOk_L3 n v.1.2.2.1 v.1.2.2.2.1 v.1.2.2.2.2.1 v.1.2.2.2.2.2.1 v.2.1.1 v.2.1.2.1 v.2.2.1.1 v.2.2.1.2.1) σ else none
theorem q136_3 (n : Nat) (v : h136_3.V) (ω : List Bool) : loopF C136 c136 Tryz.f136 (j136 n) 3 ω (h136_3.st 59 v) = impl_WriterOk_step3 (impl_WriterOk_L3 n) v.1.2.2.1 v.1.2.2.2.1 v.1.2.2.2.2.1 v.1.2.2.2.2.2.1 v.2.1.1 v.2.1.2.1 v.2.2.1.1 v.2.2.1.2.1 := by kernel_rfl
theorem e136 (n : Nat) (ω : List Bool) (v : i136.V) : enterF C136 c136 Tryz.f136 (j136 n) ω v = impl_WriterOk_entry (impl_WriterOk_L3 n) v.1.1 v.1.2.1 := by kernel_rfl
theorem s136 : SoundC Tryz.prog 136 c136 := sound_by (l := l136) (J := j136) (L := [3]) tOk mx Tryz.func136 ⟨s81, s130, s133, s141, s150, s169, trivial⟩ (by kernel_rfl) (by kernel_rfl)
  ⟨⟨h136_3, fun n v => impl_WriterOk_L3 n v.1.2.2.1 v.1.2.2.2.1 v.1.2.2.2.2.1 v.1.2.2.2.2.2.1 v.2.1.1 v.2.1.2.1 v.2.2.1.1 v.2.2.1.2.1, fun _ => rfl, fun _ => rfl, q136_3⟩, trivial⟩ FUEL (e136 FUEL)

/-! impl_World_isThere -/
abbrev i137 : Shp := ⟨[(0, .c (.prow Y11)), (1, .c (.v tI))], []⟩
abbrev o137 : Shp := ⟨[(0, .c (.v .bool))], []⟩
noncomputable def c137 : Con := ⟨i137, o137, fun v => impl_World_isThere v.1.1 v.1.2.1⟩
noncomputable def l137 : List (Nat × Con) := [(54, c54)]
noncomputable def C137 : Cfg := ⟨T, gam l137, hintOf []⟩
theorem e137 (ω : List Bool) (v : i137.V) : enterF C137 c137 Tryz.f137 (fun _ _ => none) ω v = impl_World_isThere v.1.1 v.1.2.1 := by kernel_rfl
theorem s137 : SoundC Tryz.prog 137 c137 := sound_by0 (l := l137) tOk mx Tryz.func137 ⟨s54, trivial⟩ (by kernel_rfl) (by kernel_rfl) e137

/-! impl_World_writersOk -/
abbrev i84 : Shp := ⟨[(0, .c (.prow Y11))], []⟩
abbrev o84 : Shp := ⟨[(0, .c (.v .bool))], []⟩
noncomputable def c84 : Con := ⟨i84, o84, fun v => impl_World_writersOk v.1.1⟩
noncomputable def l84 : List (Nat × Con) := [(136, c136), (137, c137)]
noncomputable def C84 : Cfg := ⟨T, gam l84, hintOf [(4, [0])]⟩
abbrev h84_2 : Shp := ⟨[(0, .c (.prow Y11)), (8, .c (.sl false Y6)), (9, .c (.v tI)), (10, .c (.v tI))], []⟩
noncomputable def j84 (n ℓ : Nat) (σ : St) : Option o84.V := if ℓ = 2 then jump 0 h84_2 (fun v => impl_World_writersOk_L2 n v.1.1 v.1.2.1 v.1.2.2.1 v.1.2.2.2.1) σ else none
theorem q84_2 (n : Nat) (v : h84_2.V) (ω : List Bool) : loopF C84 c84 Tryz.f84 (j84 n) 2 ω (h84_2.st 54 v) = impl_World_writersOk_step2 (impl_World_writersOk_L2 n) v.1.1 v.1.2.1 v.1.2.2.1 v.1.2.2.2.1 := by kernel_rfl
theorem e84 (n : Nat) (ω : List Bool) (v : i84.V) : enterF C84 c84 Tryz.f84 (j84 n) ω v = impl_World_writersOk_entry (impl_World_writersOk_L2 n) v.1.1 := by kernel_rfl
theorem s84 : SoundC Tryz.prog 84 c84 := sound_by (l := l84) (J := j84) (L := [2]) tOk mx Tryz.func84 ⟨s136, s137, trivial⟩ (by kernel_rfl) (by kernel_rfl)
  ⟨⟨h84_2, fun n v => impl_World_writersOk_L2 n v.1.1 v.1.2.1 v.1.2.2.1 v.1.2.2.2.1, fun _ => rfl, fun _ => rfl, q84_2⟩, trivial⟩ FUEL (e84 FUEL)

/-! impl_OffOf -/
abbrev i149 : Shp := ⟨[(0, .c (.v tI))], []⟩
abbrev o149 : Shp := ⟨[(0, .c (.v tI))], []⟩
noncomputable def c149 : Con := ⟨i149, o149, fun v => impl_OffOf v.1.1⟩
noncomputable def l149 : List (Nat × Con) := [(107, c107)]
noncomputable def C149 : Cfg := ⟨T, gam l149, hintOf []⟩
theorem e149 (ω : List Bool) (v : i149.V) : enterF C149 c149 Tryz.f149 (fun _ _ => none) ω v = impl_OffOf v.1.1 := by kernel_rfl
theorem s149 : SoundC Tryz.prog 149 c149 := sound_by0 (l := l149) tOk mx Tryz.func149 ⟨s107, trivial⟩ (by kernel_rfl) (by kernel_rfl) e149

/-! impl_lastOff -/
abbrev i170 : Shp := ⟨[(0, .row Y7)], []⟩
abbrev o170 : Shp := ⟨[(0, .c (.v tI))], []⟩
noncomputable def c170 : Con := ⟨i170, o170, fun v => impl_lastOff v.1.1⟩
noncomputable def l170 : List (Nat × Con) := [(149, c149)]
noncomputable def C170 : Cfg := ⟨T, gam l170, hintOf []⟩
theorem e170 (ω : List Bool) (v : i170.V) : enterF C170 c170 Tryz.f170 (fun _ _ => none) ω v = impl_lastOff v.1.1 := by kernel_rfl
theorem s170 : SoundC Tryz.prog 170 c170 := sound_by0 (l := l170) tOk mx Tryz.func170 ⟨s149, trivial⟩ (by kernel_rfl) (by kernel_rfl) e170

/-! impl_seenOk -/
abbrev i171 : Shp := ⟨[(0, .row Y7)], []⟩
abbrev o171 : Shp := ⟨[(0, .c (.v .bool))], []⟩
noncomputable def c171 : Con := ⟨i171, o171, fun v => impl_seenOk v.1.1⟩
noncomputable def l171 : List (Nat × Con) := [(135, c135), (166, c166), (176, c176)]
noncomputable def C171 : Cfg := ⟨T, gam l171, hintOf [(4, [0, 1])]⟩
abbrev h171_2 : Shp := ⟨[(1, .c (.ptr 0 0)), (6, .c (.sl false Y1)), (7, .c (.v tI)), (8, .c (.v tI))], [.mem [.v tI, .v tI, .sl false tI, .sl false Y1, .v .bool, .sl false (.sl tI)]]⟩
noncomputable def j171 (n ℓ : Nat) (σ : St) : Option o171.V := if ℓ = 2 then jump 0 h171_2 (fun v => impl_seenOk_L2 n v.1.2.1 v.1.2.2.1 v.1.2.2.2.1 v.2.1.1 v.2.1.2.1 v.2.1.2.2.1 v.2.1.2.2.2.1 v.2.1.2.2.2.2.1 v.2.1.2.2.2.2.2.1) σ else none
theorem q171_2 (n : Nat) (v : h171_2.V) (ω : List Bool) : loopF C171 c171 Tryz.f171 (j171 n) 2 ω (h171_2.st 34 v) = impl_seenOk_step2 (impl_seenOk_L2 n) v.1.2.1 v.1.2.2.1 v.1.2.2.2.1 v.2.1.1 v.2.1.2.1 v.2.1.2.2.1 v.2.1.2.2.2.1 v.2.1.2.2.2.2.1 v.2.1.2.2.2.2.2.1 := by kernel_rfl
theorem e171 (n : Nat) (ω : List Bool) (v : i171.V) : enterF C171 c171 Tryz.f171 (j171 n) ω v = impl_seenOk_entry (impl_seenOk_L2 n) v.1.1 := by kernel_rfl
theorem s171 : SoundC Tryz.prog 171 c171 := sound_by (l := l171) (J := j171) (L := [2]) tOk mx Tryz.func171 ⟨s135, s166, s176, trivial⟩ (by kernel_rfl) (by kernel_rfl)
  ⟨⟨h171_2, fun n v => impl_seenOk_L2 n v.1.2.1 v.1.2.2.1 v.1.2.2.2.1 v.2.1.1 v.2.1.2.1 v.2.1.2.2.1 v.2.1.2.2.2.1 v.2.1.2.2.2.2.1 v.2.1.2.2.2.2.2.1, fun _ => rfl, fun _ => rfl, q171_2⟩, trivial⟩ FUEL (e171 FUEL)

/-! impl_MendOk -/
abbrev i138 : Shp := ⟨[(0, .row Y0), (1, .row Y7)], []⟩
abbrev o138 : Shp := ⟨[(0, .c (.v .bool))], []⟩
noncomputable def c138 : Con := ⟨i138, o138, fun v => impl_MendOk v.1.1 v.1.2.1⟩
noncomputable def l138 : List (Nat × Con) := [(54, c54), (81, c81), (130, c130), (150, c150), (170, c170), (171, c171)]
noncomputable def C138 : Cfg := ⟨T, gam l138, hintOf []⟩
abbrev h138_2 : Shp := ⟨[(2, .c (.ptr 0 0)), (3, .c (.ptr 1 0)), (10, .c (.sl false (.sl tI))), (11, .c (.v tI)), (12, .c (.v tI))], [.mem [.sl false tI, .v tI], .mem [.v tI, .v tI, .sl false tI, .sl false Y1, .v .bool, .sl false (.sl tI)]]⟩
noncomputable def j138 (n ℓ : Nat) (σ : St) : Option o138.V := if ℓ = 2 then jump 0 h138_2 (fun v => impl_MendOk_L2 n v.1.2.2.1 v.1.2.2.2.1 v.1.2.2.2.2.1 v.2.1.1 v.2.1.2.1 v.2.2.1.1 v.2.2.1.2.1 v.2.2.1.2.2.1 v.2.2.1.2.2.2.1 v.2.2.1.2.2.2.2.1 v.2.2.1.2.2.2.2.2.1) σ else none
theorem q138_2 (n : Nat) (v : h138_2.V) (ω : List Bool) : loopF C138 c138 Tryz.f138 (j138 n) 2 ω (h138_2.st 58 v) = impl_MendOk_step2 (impl_MendOk_L2 n) v.1.2.2.1 v.1.2.2.2.1 v.1.2.2.2.2.1 v.2.1.1 v.2.1.2.1 v.2.2.1.1 v.2.2.1.2.1 v.2.2.1.2.2.1 v.2.2.1.2.2.2.1 v.2.2.1.2.2.2.2.1 v.2.2.1.2.2.2.2.2.1 := by kernel_rfl
theorem e138 (n : Nat) (ω : List Bool) (v : i138.V) : enterF C138 c138 Tryz.f138 (j138 n) ω v = impl_MendOk_entry (impl_MendOk_L2 n) v.1.1 v.1.2.1 := by kernel_rfl
theorem s138 : SoundC Tryz.prog 138 c138 := sound_by (l := l138) (J := j138) (L := [2]) tOk mx Tryz.func138 ⟨s54, s81, s130, s150, s170, s171, trivial⟩ (by kernel_rfl) (by kernel_rfl)
  ⟨⟨h138_2, fun n v => impl_MendOk_L2 n v.1.2.2.1 v.1.2.2.2.1 v.1.2.2.2.2.1 v.2.1.1 v.2.1.2.1 v.2.2.1.1 v.2.2.1.2.1 v.2.2.1.2.2.1 v.2.2.1.2.2.2.1 v.2.2.1.2.2.2.2.1 v.2.2.1.2.2.2.2.2.1, fun _ => rfl, fun _ => rfl, q138_2⟩, trivial⟩ FUEL (e138 FUEL)

/-! impl_FirstOpen -/
abbrev i139 : Shp := ⟨[(0, .row Y4)], []⟩
abbrev o139 : Shp := ⟨[(0, .c (.v tI))], []⟩
noncomputable def c139 : Con := ⟨i139, o139, fun v => impl_FirstOpen v.1.1⟩
noncomputable def l139 : List (Nat × Con) := []
noncomputable def C139 : Cfg := ⟨T, gam l139, hintOf []⟩
abbrev h139_2 : Shp := ⟨[(6, .c (.sl false Y3)), (7, .c (.v tI)), (8, .c (.v tI))], []⟩
noncomputable def j139 (n ℓ : Nat) (σ : St) : Option o139.V := if ℓ = 2 then jump 0 h139_2 (fun v => impl_FirstOpen_L2 n v.1.1 v.1.2.1 v.1.2.2.1) σ else none
theorem q139_2 (n : Nat) (v : h139_2.V) (ω : List Bool) : loopF C139 c139 Tryz.f139 (j139 n) 2 ω (h139_2.st 19 v) = impl_FirstOpen_step2 (impl_FirstOpen_L2 n) v.1.1 v.1.2.1 v.1.2.2.1 := by kernel_rfl
theorem e139 (n : Nat) (ω : List Bool) (v : i139.V) : enterF C139 c139 Tryz.f139 (j139 n) ω v = impl_FirstOpen_entry (impl_FirstOpen_L2 n) v.1.1 := by kernel_rfl
theorem s139 : SoundC Tryz.prog 139 c139 := sound_by (l := l139) (J := j139) (L := [2]) tOk mx Tryz.func139 trivial (by kernel_rfl) (by kernel_rfl)
  ⟨⟨h139_2, fun n v => impl_FirstOpen_L2 n v.1.1 v.1.2.1 v.1.2.2.1, fun _ => rfl, fun _ => rfl, q139_2⟩, trivial⟩ FUEL (e139 FUEL)

/-! impl_World_mendsOk -/
abbrev i85 : Shp := ⟨[(0, .c (.prow Y11))], []⟩
abbrev o85 : Shp := ⟨[(0, .c (.v .bool))], []⟩
noncomputable def c85 : Con := ⟨i85, o85, fun v => impl_World_mendsOk v.1.1⟩
noncomputable def l85 : List (Nat × Con) := [(138, c138), (139, c139)]
noncomputable def C85 : Cfg := ⟨T, gam l85, hintOf [(4, [0])]⟩
abbrev h85_2 : Shp := ⟨[(0, .c (.prow Y11)), (8, .c (.sl false Y7)), (9, .c (.v tI)), (10, .c (.v tI))], []⟩
noncomputable def j85 (n ℓ : Nat) (σ : St) : Option o85.V := if ℓ = 2 then jump 0 h85_2 (fun v => impl_World_mendsOk_L2 n v.1.1 v.1.2.1 v.1.2.2.1 v.1.2.2.2.1) σ else none
theorem q85_2 (n : Nat) (v : h85_2.V) (ω : List Bool) : loopF C85 c85 Tryz.f85 (j85 n) 2 ω (h85_2.st 49 v) = impl_World_mendsOk_step2 (impl_World_mendsOk_L2 n) v.1.1 v.1.2.1 v.1.2.2.1 v.1.2.2.2.1 := by kernel_rfl
theorem e85 (n : Nat) (ω : List Bool) (v : i85.V) : enterF C85 c85 Tryz.f85 (j85 n) ω v = impl_World_mendsOk_entry (impl_World_mendsOk_L2 n) v.1.1 := by kernel_rfl
theorem s85 : SoundC Tryz.prog 85 c85 := sound_by (l := l85) (J := j85) (L := [2]) tOk mx Tryz.func85 ⟨s138, s139, trivial⟩ (by kernel_rfl) (by kernel_rfl)
  ⟨⟨h85_2, fun n v => impl_World_mendsOk_L2 n v.1.1 v.1.2.1 v.1.2.2.1 v.1.2.2.2.1, fun _ => rfl, fun _ => rfl, q85_2⟩, trivial⟩ FUEL (e85 FUEL)

/-! impl_ReaderOk -/
abbrev i140 : Shp := ⟨[(0, .row Y9)], []⟩
abbrev o140 : Shp := ⟨[(0, .c (.v .bool))], []⟩
noncomputable def c140 : Con := ⟨i140, o140, fun v => impl_ReaderOk v.1.1⟩
noncomputable def l140 : List (Nat × Con) := [(54, c54)]
noncomputable def C140 : Cfg := ⟨T, gam l140, hintOf []⟩
theorem e140 (ω : List Bool) (v : i140.V) : enterF C140 c140 Tryz.f140 (fun _ _ => none) ω v = impl_ReaderOk v.1.1 := by kernel_rfl
theorem s140 : SoundC Tryz.prog 140 c140 := sound_by0 (l := l140) tOk mx Tryz.func140 ⟨s54, trivial⟩ (by kernel_rfl) (by kernel_rfl) e140

/-! impl_World_readersOk -/
abbrev i86 : Shp := ⟨[(0, .c (.prow Y11))], []⟩
abbrev o86 : Shp := ⟨[(0, .c (.v .bool))], []⟩
noncomputable def c86 : Con := ⟨i86, o86, fun v => impl_World_readersOk v.1.1⟩
noncomputable def l86 : List (Nat × Con) := [(140, c140)]
noncomputable def C86 : Cfg := ⟨T, gam l86, hintOf []⟩
abbrev h86_2 : Shp := ⟨[(0, .c (.prow Y11)), (8, .c (.sl false Y9)), (9, .c (.v tI)), (10, .c (.v tI))], []⟩
noncomputable def j86 (n ℓ : Nat) (σ : St) : Option o86.V := if ℓ = 2 then jump 0 h86_2 (fun v => impl_World_readersOk_L2 n v.1.1 v.1.2.1 v.1.2.2.1 v.1.2.2.2.1) σ else none
theorem q86_2 (n : Nat) (v : h86_2.V) (ω : List Bool) : loopF C86 c86 Tryz.f86 (j86 n) 2 ω (h86_2.st 24 v) = impl_World_readersOk_step2 (impl_World_readersOk_L2 n) v.1.1 v.1.2.1 v.1.2.2.1 v.1.2.2.2.1 := by kernel_rfl
theorem e86 (n : Nat) (ω : List Bool) (v : i86.V) : enterF C86 c86 Tryz.f86 (j86 n) ω v = impl_World_readersOk_entry (impl_World_readersOk_L2 n) v.1.1 := by kernel_rfl
theorem s86 : SoundC Tryz.prog 86 c86 := sound_by (l := l86) (J := j86) (L := [2]) tOk mx Tryz.func86 ⟨s140, trivial⟩ (by kernel_rfl) (by kernel_rfl)
  ⟨⟨h86_2, fun n v => impl_World_readersOk_L2 n v.1.1 v.1.2.1 v.1.2.2.1 v.1.2.2.2.1, fun _ => rfl, fun _ => rfl, q86_2⟩, trivial⟩ FUEL (e86 FUEL)

/-! impl_World_sentOk -/
abbrev i87 : Shp := ⟨[(0, .c (.prow Y11))], []⟩
abbrev o87 : Shp := ⟨[(0, .c (.v .bool))], []⟩
noncomputable def c87 : Con := ⟨i87, o87, fun v => impl_World_sentOk v.1.1⟩
noncomputable def l87 : List (Nat × Con) := [(135, c135), (137, c137), (141, c141)]
noncomputable def C87 : Cfg := ⟨T, gam l87, hintOf [(4, [0])]⟩
abbrev h87_2 : Shp := ⟨[(0, .c (.prow Y11)), (8, .c (.sl false Y10)), (9, .c (.v tI)), (10, .c (.v tI))], []⟩
noncomputable def j87 (n ℓ : Nat) (σ : St) : Option o87.V := if ℓ = 2 then jump 0 h87_2 (fun v => impl_World_sentOk_L2 n v.1.1 v.1.2.1 v.1.2.2.1 v.1.2.2.2.1) σ else none
theorem q87_2 (n : Nat) (v : h87_2.V) (ω : List Bool) : loopF C87 c87 Tryz.f87 (j87 n) 2 ω (h87_2.st 52 v) = impl_World_sentOk_step2 (impl_World_sentOk_L2 n) v.1.1 v.1.2.1 v.1.2.2.1 v.1.2.2.2.1 := by kernel_rfl
theorem e87 (n : Nat) (ω : List Bool) (v : i87.V) : enterF C87 c87 Tryz.f87 (j87 n) ω v = impl_World_sentOk_entry (impl_World_sentOk_L2 n) v.1.1 := by kernel_rfl
theorem s87 : SoundC Tryz.prog 87 c87 := sound_by (l := l87) (J := j87) (L := [2]) tOk mx Tryz.func87 ⟨s135, s137, s141, trivial⟩ (by kernel_rfl) (by kernel_rfl)
  ⟨⟨h87_2, fun n v => impl_World_sentOk_L2 n v.1.1 v.1.2.1 v.1.2.2.1 v.1.2.2.2.1, fun _ => rfl, fun _ => rfl, q87_2⟩, trivial⟩ FUEL (e87 FUEL)

/-! impl_WorldOk -/
abbrev i36 : Shp := ⟨[(0, .row Y11)], []⟩
abbrev o36 : Shp := ⟨[(0, .c (.v .bool))], []⟩
noncomputable def c36 : Con := ⟨i36, o36, fun v => impl_WorldOk v.1.1⟩
noncomputable def l36 : List (Nat × Con) := [(81, c81), (82, c82), (83, c83), (84, c84), (85, c85), (86, c86), (87, c87)]
noncomputable def C36 : Cfg := ⟨T, gam l36, hintOf []⟩
theorem e36 (ω : List Bool) (v : i36.V) : enterF C36 c36 Tryz.f36 (fun _ _ => none) ω v = impl_WorldOk v.1.1 := by kernel_rfl
theorem s36 : SoundC Tryz.prog 36 c36 := sound_by0 (l := l36) tOk mx Tryz.func36 ⟨s81, s82, s83, s84, s85, s86, s87, trivial⟩ (by kernel_rfl) (by kernel_rfl) e36

/-! impl_isPlaced -/
abbrev i103 : Shp := ⟨[(0, .row Y8)], []⟩
abbrev o103 : Shp := ⟨[(0, .c (.v .bool))], []⟩
noncomputable def c103 : Con := ⟨i103, o103, fun v => impl_isPlaced v.1.1⟩
noncomputable def l103 : List (Nat × Con) := []
noncomputable def C103 : Cfg := ⟨T, gam l103, hintOf []⟩
theorem e103 (ω : List Bool) (v : i103.V) : enterF C103 c103 Tryz.f103 (fun _ _ => none) ω v = impl_isPlaced v.1.1 := by kernel_rfl
theorem s103 : SoundC Tryz.prog 103 c103 := sound_by0 (l := l103) tOk mx Tryz.func103 trivial (by kernel_rfl) (by kernel_rfl) e103

/-! impl_JudgeOrder -/
abbrev i60 : Shp := ⟨[(0, .row Y11)], []⟩
abbrev o60 : Shp := ⟨[(0, .c (.v .bool))], []⟩
noncomputable def c60 : Con := ⟨i60, o60, fun v => impl_JudgeOrder v.1.1⟩
noncomputable def l60 : List (Nat × Con) := [(36, c36), (103, c103)]
noncomputable def C60 : Cfg := ⟨T, gam l60, hintOf []⟩
abbrev h60_6 : Shp := ⟨[(1, .c (.ptr 0 0)), (5, .c (.v tI)), (6, .c (.v .bool)), (10, .c (.sl false Y9)), (11, .c (.v tI)), (12, .c (.v tI)), (17, .c (.sl false Y8)), (18, .c (.v tI)), (19, .c (.v tI))], [.mem [.sl false tI, .v tI, .sl false Y2, .sl false tI, .sl false Y3, .v tI, .sl false Y6, .sl false Y7, .sl false Y9, .sl false Y10, .v .bool]]⟩
abbrev h60_2 : Shp := ⟨[(1, .c (.ptr 0 0)), (10, .c (.sl false Y9)), (11, .c (.v tI)), (12, .c (.v tI))], [.mem [.sl false tI, .v tI, .sl false Y2, .sl false tI, .sl false Y3, .v tI, .sl false Y6, .sl false Y7, .sl false Y9, .sl false Y10, .v .bool]]⟩
noncomputable def j60 (n ℓ : Nat) (σ : St) : Option o60.V := if ℓ = 2 then jump 0 h60_2 (fun v => impl_JudgeOrder_L2 n v.1.2.1 v.1.2.2.1 v.1.2.2.2.1 v.2.1.1 v.2.1.2.1 v.2.1.2.2.1 v.2.1.2.2.2.1 v.2.1.2.2.2.2.1 v.2.1.2.2.2.2.2.1 v.2.1.2.2.2.2.2.2.1 v.2.1.2.2.2.2.2.2.2.1 v.2.1.2.2.2.2.2.2.2.2.1 v.2.1.2.2.2.2.2.2.2.2.2.1 v.2.1.2.2.2.2.2.2.2.2.2.2.1) σ else if ℓ = 6 then jump 0 h60_6 (fun v => impl_JudgeOrder_L6 n v.1.2.1 v.1.2.2.1 v.1.2.2.2.1 v.1.2.2.2.2.1 v.1.2.2.2.2.2.1 v.1.2.2.2.2.2.2.1 v.1.2.2.2.2.2.2.2.1 v.1.2.2.2.2.2.2.2.2.1 v.2.1.1 v.2.1.2.1 v.2.1.2.2.1 v.2.1.2.2.2.1 v.2.1.2.2.2.2.1 v.2.1.2.2.2.2.2.1 v.2.1.2.2.2.2.2.2.1 v.2.1.2.2.2.2.2.2.2.1 v.2.1.2.2.2.2.2.2.2.2.1 v.2.1.2.2.2.2.2.2.2.2.2.1 v.2.1.2.2.2.2.2.2.2.2.2.2.1) σ else none
theorem q60_2 (n : Nat) (v : h60_2.V) (ω : List Bool) : loopF C60 c60 Tryz.f60 (j60 n) 2 ω (h60_2.st 39 v) = impl_JudgeOrder_step2 (impl_JudgeOrder_L2 n) (impl_JudgeOrder_L6 n) v.1.2.1 v.1.2.2.1 v.1.2.2.2.1 v.2.1.1 v.2.1.2.1 v.2.1.2.2.1 v.2.1.2.2.2.1 v.2.1.2.2.2.2.1 v.2.1.2.2.2.2.2.1 v.2.1.2.2.2.2.2.2.1 v.2.1.2.2.2.2.2.2.2.1 v.2.1.2.2.2.2.2.2.2.2.1 v.2.1.2.2.2.2.2.2.2.2.2.1 v.2.1.2.2.2.2.2.2.2.2.2.2.1 := by kernel_rfl
theorem q60_6 (n : Nat) (v : h60_6.V) (ω : List Bool) : loopF C60 c60 Tryz.f60 (j60 n) 6 ω (h60_6.st 39 v) = impl_JudgeOrder_step6 (impl_JudgeOrder_L2 n) (impl_JudgeOrder_L6 n) v.1.2.1 v.1.2.2.1 v.1.2.2.2.1 v.1.2.2.2.2.1 v.1.2.2.2.2.2.1 v.1.2.2.2.2.2.2.1 v.1.2.2.2.2.2.2.2.1 v.1.2.2.2.2.2.2.2.2.1 v.2.1.1 v.2.1.2.1 v.2.1.2.2.1 v.2.1.2.2.2.1 v.2.1.2.2.2.2.1 v.2.1.2.2.2.2.2.1 v.2.1.2.2.2.2.2.2.1 v.2.1.2.2.2.2.2.2.2.1 v.2.1.2.2.2.2.2.2.2.2.1 v.2.1.2.2.2.2.2.2.2.2.2.1 v.2.1.2.2.2.2.2.2.2.2.2.2.1 := by kernel_rfl
theorem e60 (n : Nat) (ω : List Bool) (v : i60.V) : enterF C60 c60 Tryz.f60 (j60 n) ω v = impl_JudgeOrder_entry (impl_JudgeOrder_L2 n) (impl_JudgeOrder_L6 n) v.1.1 := by kernel_rfl
theorem s60 : SoundC Tryz.prog 60 c60 := sound_by (l := l60) (J := j60) (L := [2, 6]) tOk mx Tryz.func60 ⟨s36, s103, trivial⟩ (by kernel_rfl) (by kernel_rfl)
  ⟨⟨h60_2, fun n v => impl_JudgeOrder_L2 n v.1.2.1 v.1.2.2.1 v.1.2.2.2.1 v.2.1.1 v.2.1.2.1 v.2.1.2.2.1 v.2.1.2.2.2.1 v.2.1.2.2.2.2.1 v.2.1.2.2.2.2.2.1 v.2.1.2.2.2.2.2.2.1 v.2.1.2.2.2.2.2.2.2.1 v.2.1.2.2.2.2.2.2.2.2.1 v.2.1.2.2.2.2.2.2.2.2.2.1 v.2.1.2.2.2.2.2.2.2.2.2.2.1, fun _ => rfl, fun _ => rfl, q60_2⟩, ⟨⟨h60_6, fun n v => impl_JudgeOrder_L6 n v.1.2.1 v.1.2.2.1 v.1.2.2.2.1 v.1.2.2.2.2.1 v.1.2.2.2.2.2.1 v.1.2.2.2.2.2.2.1 v.1.2.2.2.2.2.2.2.1 v.1.2.2.2.2.2.2.2.2.1 v.2.1.1 v.2.1.2.1 v.2.1.2.2.1 v.2.1.2.2.2.1 v.2.1.2.2.2.2.1 v.2.1.2.2.2.2.2.1 v.2.1.2.2.2.2.2.2.1 v.2.1.2.2.2.2.2.2.2.1 v.2.1.2.2.2.2.2.2.2.2.1 v.2.1.2.2.2.2.2.2.2.2.2.1 v.2.1.2.2.2.2.2.2.2.2.2.2.1, fun _ => rfl, fun _ => rfl, q60_6⟩, trivial⟩⟩ FUEL (e60 FUEL)

/-! impl_sentOf -/
abbrev i104 : Shp := ⟨[(0, .row Y11), (1, .c (.v tI))], []⟩
abbrev o104 : Shp := ⟨[(0, .tup [.inl (.v .str), .inl (.v .bool)])], []⟩
noncomputable def c104 : Con := ⟨i104, o104, fun v => impl_sentOf v.1.1 v.1.2.1⟩
noncomputable def l104 : List (Nat × Con) := []
noncomputable def C104 : Cfg := ⟨T, gam l104, hintOf []⟩
abbrev h104_2 : Shp := ⟨[(1, .c (.v tI)), (9, .c (.sl false Y10)), (10, .c (.v tI)), (11, .c (.v tI))], []⟩
noncomputable def j104 (n ℓ : Nat) (σ : St) : Option o104.V := if ℓ = 2 then jump 0 h104_2 (fun v => impl_sentOf_L2 n v.1.1 v.1.2.1 v.1.2.2.1 v.1.2.2.2.1) σ else none
theorem q104_2 (n : Nat) (v : h104_2.V) (ω : List Bool) : loopF C104 c104 Tryz.f104 (j104 n) 2 ω (h104_2.st 22 v) = impl_sentOf_step2 (impl_sentOf_L2 n) v.1.1 v.1.2.1 v.1.2.2.1 v.1.2.2.2.1 := by kernel_rfl
theorem e104 (n : Nat) (ω : List Bool) (v : i104.V) : enterF C104 c104 Tryz.f104 (j104 n) ω v = impl_sentOf_entry (impl_sentOf_L2 n) v.1.1 v.1.2.1 := by kernel_rfl
theorem s104 : SoundC Tryz.prog 104 c104 := sound_by (l := l104) (J := j104) (L := [2]) tOk mx Tryz.func104 trivial (by kernel_rfl) (by kernel_rfl)
  ⟨⟨h104_2, fun n v => impl_sentOf_L2 n v.1.1 v.1.2.1 v.1.2.2.1 v.1.2.2.2.1, fun _ => rfl, fun _ => rfl, q104_2⟩, trivial⟩ FUEL (e104 FUEL)

/-! impl_JudgeTrue -/
abbrev i61 : Shp := ⟨[(0, .row Y11)], []⟩
abbrev o61 : Shp := ⟨[(0, .c (.v .bool))], []⟩
noncomputable def c61 : Con := ⟨i61, o61, fun v => impl_JudgeTrue v.1.1⟩
noncomputable def l61 : List (Nat × Con) := [(36, c36), (104, c104)]
noncomputable def C61 : Cfg := ⟨T, gam l61, hintOf []⟩
abbrev h61_5 : Shp := ⟨[(1, .c (.ptr 0 0)), (10, .c (.sl false Y9)), (11, .c (.v tI)), (12, .c (.v tI)), (17, .c (.sl false Y8)), (18, .c (.v tI)), (19, .c (.v tI))], [.mem [.sl false tI, .v tI, .sl false Y2, .sl false tI, .sl false Y3, .v tI, .sl false Y6, .sl false Y7, .sl false Y9, .sl false Y10, .v .bool]]⟩
abbrev h61_2 : Shp := ⟨[(1, .c (.ptr 0 0)), (10, .c (.sl false Y9)), (11, .c (.v tI)), (12, .c (.v tI))], [.mem [.sl false tI, .v tI, .sl false Y2, .sl false tI, .sl false Y3, .v tI, .sl false Y6, .sl false Y7, .sl false Y9, .sl false Y10, .v .bool]]⟩
noncomputable def j61 (n ℓ : Nat) (σ : St) : Option o61.V := if ℓ = 2 then jump 0 h61_2 (fun v => impl_JudgeTrue_L2 n v.1.2.1 v.1.2.2.1 v.1.2.2.2.1 v.2.1.1 v.2.1.2.1 v.2.1.2.2.1 v.2.1.2.2.2.1 v.2.1.2.2.2.2.1 v.2.1.2.2.2.2.2.1 v.2.1.2.2.2.2.2.2.1 v.2.1.2.2.2.2.2.2.2.1 v.2.1.2.2.2.2.2.2.2.2.1 v.2.1.2.2.2.2.2.2.2.2.2.1 v.2.1.2.2.2.2.2.2.2.2.2.2.1) σ else if ℓ = 5 then jump 0 h61_5 (fun v => impl_JudgeTrue_L5 n v.1.2.1 v.1.2.2.1 v.1.2.2.2.1 v.1.2.2.2.2.1 v.1.2.2.2.2.2.1 v.1.2.2.2.2.2.2.1 v.2.1.1 v.2.1.2.1 v.2.1.2.2.1 v.2.1.2.2.2.1 v.2.1.2.2.2.2.1 v.2.1.2.2.2.2.2.1 v.2.1.2.2.2.2.2.2.1 v.2.1.2.2.2.2.2.2.2.1 v.2.1.2.2.2.2.2.2.2.2.1 v.2.1.2.2.2.2.2.2.2.2.2.1 v.2.1.2.2.2.2.2.2.2.2.2.2.1) σ else none
theorem q61_2 (n : Nat) (v : h61_2.V) (ω : List Bool) : loopF C61 c61 Tryz.f61 (j61 n) 2 ω (h61_2.st 47 v) = impl_JudgeTrue_step2 (impl_JudgeTrue_L2 n) (impl_JudgeTrue_L5 n) v.1.2.1 v.1.2.2.1 v.1.2.2.2.1 v.2.1.1 v.2.1.2.1 v.2.1.2.2.1 v.2.1.2.2.2.1 v.2.1.2.2.2.2.1 v.2.1.2.2.2.2.2.1 v.2.1.2.2.2.2.2.2.1 v.2.1.2.2.2.2.2.2.2.1 v.2.1.2.2.2.2.2.2.2.2.1 v.2.1.2.2.2.2.2.2.2.2.2.1 v.2.1.2.2.2.2.2.2.2.2.2.2.1 := by kernel_rfl
theorem q61_5 (n : Nat) (v : h61_5.V) (ω : List Bool) : loopF C61 c61 Tryz.f61 (j61 n) 5 ω (h61_5.st 47 v) = impl_JudgeTrue_step5 (impl_JudgeTrue_L2 n) (impl_JudgeTrue_L5 n) v.1.2.1 v.1.2.2.1 v.1.2.2.2.1 v.1.2.2.2.2.1 v.1.2.2.2.2.2.1 v.1.2.2.2.2.2.2.1 v.2.1.1 v.2.1.2.1 v.2.1.2.2.1 v.2.1.2.2.2.1 v.2.1.2.2.2.2.1 v.2.1.2.2.2.2.2.1 v.2.1.2.2.2.2.2.2.1 v.2.1.2.2.2.2.2.2.2.1 v.2.1.2.2.2.2.2.2.2.2.1 v.2.1.2.2.2.2.2.2.2.2.2.1 v.2.1.2.2.2.2.2.2.2.2.2.2.1 := by kernel_rfl
theorem e61 (n : Nat) (ω : List Bool) (v : i61.V) : enterF C61 c61 Tryz.f61 (j61 n) ω v = impl_JudgeTrue_entry (impl_JudgeTrue_L2 n) (impl_JudgeTrue_L5 n) v.1.1 := by kernel_rfl
theorem s61 : SoundC Tryz.prog 61 c61 := sound_by (l := l61) (J := j61) (L := [2, 5]) tOk mx Tryz.func61 ⟨s36, s104, trivial⟩ (by kernel_rfl) (by kernel_rfl)
  ⟨⟨h61_2, fun n v => impl_JudgeTrue_L2 n v.1.2.1 v.1.2.2.1 v.1.2.2.2.1 v.2.1.1 v.2.1.2.1 v.2.1.2.2.1 v.2.1.2.2.2.1 v.2.1.2.2.2.2.1 v.2.1.2.2.2.2.2.1 v.2.1.2.2.2.2.2.2.1 v.2.1.2.2.2.2.2.2.2.1 v.2.1.2.2.2.2.2.2.2.2.1 v.2.1.2.2.2.2.2.2.2.2.2.1 v.2.1.2.2.2.2.2.2.2.2.2.2.1, fun _ => rfl, fun _ => rfl, q61_2⟩, ⟨⟨h61_5, fun n v => impl_JudgeTrue_L5 n v.1.2.1 v.1.2.2.1 v.1.2.2.2.1 v.1.2.2.2.2.1 v.1.2.2.2.2.2.1 v.1.2.2.2.2.2.2.1 v.2.1.1 v.2.1.2.1 v.2.1.2.2.1 v.2.1.2.2.2.1 v.2.1.2.2.2.2.1 v.2.1.2.2.2.2.2.1 v.2.1.2.2.2.2.2.2.1 v.2.1.2.2.2.2.2.2.2.1 v.2.1.2.2.2.2.2.2.2.2.1 v.2.1.2.2.2.2.2.2.2.2.2.1 v.2.1.2.2.2.2.2.2.2.2.2.2.1, fun _ => rfl, fun _ => rfl, q61_5⟩, trivial⟩⟩ FUEL (e61 FUEL)

/-! impl_told -/
abbrev i105 : Shp := ⟨[(0, .row Y9), (1, .c (.v tI))], []⟩
abbrev o105 : Shp := ⟨[(0, .tup [.inl (.v .str), .inl (.v .bool)])], []⟩
noncomputable def c105 : Con := ⟨i105, o105, fun v => impl_told v.1.1 v.1.2.1⟩
noncomputable def l105 : List (Nat × Con) := []
noncomputable def C105 : Cfg := ⟨T, gam l105, hintOf []⟩
abbrev h105_2 : Shp := ⟨[(1, .c (.v tI)), (9, .c (.sl false Y8)), (10, .c (.v tI)), (11, .c (.v tI))], []⟩
noncomputable def j105 (n ℓ : Nat) (σ : St) : Option o105.V := if ℓ = 2 then jump 0 h105_2 (fun v => impl_told_L2 n v.1.1 v.1.2.1 v.1.2.2.1 v.1.2.2.2.1) σ else none
theorem q105_2 (n : Nat) (v : h105_2.V) (ω : List Bool) : loopF C105 c105 Tryz.f105 (j105 n) 2 ω (h105_2.st 27 v) = impl_told_step2 (impl_told_L2 n) v.1.1 v.1.2.1 v.1.2.2.1 v.1.2.2.2.1 := by kernel_rfl
theorem e105 (n : Nat) (ω : List Bool) (v : i105.V) : enterF C105 c105 Tryz.f105 (j105 n) ω v = impl_told_entry (impl_told_L2 n) v.1.1 v.1.2.1 := by kernel_rfl
theorem s105 : SoundC Tryz.prog 105 c105 := sound_by (l := l105) (J := j105) (L := [2]) tOk mx Tryz.func105 trivial (by kernel_rfl) (by kernel_rfl)
  ⟨⟨h105_2, fun n v => impl_told_L2 n v.1.1 v.1.2.1 v.1.2.2.1 v.1.2.2.2.1, fun _ => rfl, fun _ => rfl, q105_2⟩, trivial⟩ FUEL (e105 FUEL)

/-! impl_isAhead -/
abbrev i106 : Shp := ⟨[(0, .c (.v tI)), (1, .row Y9)], []⟩
abbrev o106 : Shp := ⟨[(0, .c (.v .bool))], []⟩
noncomputable def c106 : Con := ⟨i106, o106, fun v => impl_isAhead v.1.1 v.1.2.1⟩
noncomputable def l106 : List (Nat × Con) := [(135, c135), (149, c149)]
noncomputable def C106 : Cfg := ⟨T, gam l106, hintOf [(2, [0])]⟩
theorem e106 (ω : List Bool) (v : i106.V) : enterF C106 c106 Tryz.f106 (fun _ _ => none) ω v = impl_isAhead v.1.1 v.1.2.1 := by kernel_rfl
theorem s106 : SoundC Tryz.prog 106 c106 := sound_by0 (l := l106) tOk mx Tryz.func106 ⟨s135, s149, trivial⟩ (by kernel_rfl) (by kernel_rfl) e106

/-! impl_JudgeKept -/
abbrev i62 : Shp := ⟨[(0, .row Y11)], []⟩
abbrev o62 : Shp := ⟨[(0, .c (.v .bool))], []⟩
noncomputable def c62 : Con := ⟨i62, o62, fun v => impl_JudgeKept v.1.1⟩
noncomputable def l62 : List (Nat × Con) := [(36, c36), (105, c105), (106, c106)]
noncomputable def C62 : Cfg := ⟨T, gam l62, hintOf []⟩
abbrev h62_7 : Shp := ⟨[(1, .c (.ptr 0 0)), (4, .c (.ptr 1 0)), (19, .c (.sl false Y9)), (20, .c (.v tI)), (21, .c (.v tI)), (26, .c (.sl false Y10)), (27, .c (.v tI)), (28, .c (.v tI))], [.mem [.sl false tI, .v tI, .sl false Y2, .sl false tI, .sl false Y3, .v tI, .sl false Y6, .sl false Y7, .sl false Y9, .sl false Y10, .v .bool], .mem [.v tI, .v tI, .sl false Y8]]⟩
abbrev h62_4 : Shp := ⟨[(1, .c (.ptr 0 0)), (19, .c (.sl false Y9)), (20, .c (.v tI)), (21, .c (.v tI))], [.mem [.sl false tI, .v tI, .sl false Y2, .sl false tI, .sl false Y3, .v tI, .sl false Y6, .sl false Y7, .sl false Y9, .sl false Y10, .v .bool]]⟩
noncomputable def j62 (n ℓ : Nat) (σ : St) : Option o62.V := if ℓ = 4 then jump 0 h62_4 (fun v => impl_JudgeKept_L4 n v.1.2.1 v.1.2.2.1 v.1.2.2.2.1 v.2.1.1 v.2.1.2.1 v.2.1.2.2.1 v.2.1.2.2.2.1 v.2.1.2.2.2.2.1 v.2.1.2.2.2.2.2.1 v.2.1.2.2.2.2.2.2.1 v.2.1.2.2.2.2.2.2.2.1 v.2.1.2.2.2.2.2.2.2.2.1 v.2.1.2.2.2.2.2.2.2.2.2.1 v.2.1.2.2.2.2.2.2.2.2.2.2.1) σ else if ℓ = 7 then jump 0 h62_7 (fun v => impl_JudgeKept_L7 n v.1.2.2.1 v.1.2.2.2.1 v.1.2.2.2.2.1 v.1.2.2.2.2.2.1 v.1.2.2.2.2.2.2.1 v.1.2.2.2.2.2.2.2.1 v.2.1.1 v.2.1.2.1 v.2.1.2.2.1 v.2.1.2.2.2.1 v.2.1.2.2.2.2.1 v.2.1.2.2.2.2.2.1 v.2.1.2.2.2.2.2.2.1 v.2.1.2.2.2.2.2.2.2.1 v.2.1.2.2.2.2.2.2.2.2.1 v.2.1.2.2.2.2.2.2.2.2.2.1 v.2.1.2.2.2.2.2.2.2.2.2.2.1 v.2.2.1.1 v.2.2.1.2.1 v.2.2.1.2.2.1) σ else none
theorem q62_4 (n : Nat) (v : h62_4.V) (ω : List Bool) : loopF C62 c62 Tryz.f62 (j62 n) 4 ω (h62_4.st 61 v) = impl_JudgeKept_step4 (impl_JudgeKept_L4 n) (impl_JudgeKept_L7 n) v.1.2.1 v.1.2.2.1 v.1.2.2.2.1 v.2.1.1 v.2.1.2.1 v.2.1.2.2.1 v.2.1.2.2.2.1 v.2.1.2.2.2.2.1 v.2.1.2.2.2.2.2.1 v.2.1.2.2.2.2.2.2.1 v.2.1.2.2.2.2.2.2.2.1 v.2.1.2.2.2.2.2.2.2.2.1 v.2.1.2.2.2.2.2.2.2.2.2.1 v.2.1.2.2.2.2.2.2.2.2.2.2.1 := by kernel_rfl
theorem q62_7 (n : Nat) (v : h62_7.V) (ω : List Bool) : loopF C62 c62 Tryz.f62 (j62 n) 7 ω (h62_7.st 61 v) = impl_JudgeKept_step7 (impl_JudgeKept_L4 n) (impl_JudgeKept_L7 n) v.1.2.2.1 v.1.2.2.2.1 v.1.2.2.2.2.1 v.1.2.2.2.2.2.1 v.1.2.2.2.2.2.2.1 v.1.2.2.2.2.2.2.2.1 v.2.1.1 v.2.1.2.1 v.2.1.2.2.1 v.2.1.2.2.2.1 v.2.1.2.2.2.2.1 v.2.1.2.2.2.2.2.1 v.2.1.2.2.2.2.2.2.1 v.2.1.2.2.2.2.2.2.2.1 v.2.1.2.2.2.2.2.2.2.2.1 v.2.1.2.2.2.2.2.2.2.2.2.1 v.2.1.2.2.2.2.2.2.2.2.2.2.1 v.2.2.1.1 v.2.2.1.2.1 v.2.2.1.2.2.1 := by kernel_rfl
theorem e62 (n : Nat) (ω : List Bool) (v : i62.V) : enterF C62 c62 Tryz.f62 (j62 n) ω v = impl_JudgeKept_entry (impl_JudgeKept_L4 n) (impl_JudgeKept_L7 n) v.1.1 := by kernel_rfl
theorem s62 : SoundC Tryz.prog 62 c62 := sound_by (l := l62) (J := j62) (L := [4, 7]) tOk mx Tryz.func62 ⟨s36, s105, s106, trivial⟩ (by kernel_rfl) (by kernel_rfl)
  ⟨⟨h62_4, fun n v => impl_JudgeKept_L4 n v.1.2.1 v.1.2.2.1 v.1.2.2.2.1 v.2.1.1 v.2.1.2.1 v.2.1.2.2.1 v.2.1.2.2.2.1 v.2.1.2.2.2.2.1 v.2.1.2.2.2.2.2.1 v.2.1.2.2.2.2.2.2.1 v.2.1.2.2.2.2.2.2.2.1 v.2.1.2.2.2.2.2.2.2.2.1 v.2.1.2.2.2.2.2.2.2.2.2.1 v.2.1.2.2.2.2.2.2.2.2.2.2.1, fun _ => rfl, fun _ => rfl, q62_4⟩, ⟨⟨h62_7, fun n v => impl_JudgeKept_L7 n v.1.2.2.1 v.1.2.2.2.1 v.1.2.2.2.2.1 v.1.2.2.2.2.2.1 v.1.2.2.2.2.2.2.1 v.1.2.2.2.2.2.2.2.1 v.2.1.1 v.2.1.2.1 v.2.1.2.2.1 v.2.1.2.2.2.1 v.2.1.2.2.2.2.1 v.2.1.2.2.2.2.2.1 v.2.1.2.2.2.2.2.2.1 v.2.1.2.2.2.2.2.2.2.1 v.2.1.2.2.2.2.2.2.2.2.1 v.2.1.2.2.2.2.2.2.2.2.2.1 v.2.1.2.2.2.2.2.2.2.2.2.2.1 v.2.2.1.1 v.2.2.1.2.1 v.2.2.1.2.2.1, fun _ => rfl, fun _ => rfl, q62_7⟩, trivial⟩⟩ FUEL (e62 FUEL)

/-! impl_JudgeWhole -/
abbrev i63 : Shp := ⟨[(0, .row Y11)], []⟩
abbrev o63 : Shp := ⟨[(0, .c (.v .bool))], []⟩
noncomputable def c63 : Con := ⟨i63, o63, fun v => impl_JudgeWhole v.1.1⟩
noncomputable def l63 : List (Nat × Con) := [(36, c36)]
noncomputable def C63 : Cfg := ⟨T, gam l63, hintOf []⟩
abbrev h63_7 : Shp := ⟨[(17, .c (.sl false Y9)), (18, .c (.v tI)), (19, .c (.v tI)), (24, .c (.sl false Y8)), (25, .c (.v tI)), (26, .c (.v tI))], []⟩
abbrev h63_4 : Shp := ⟨[(17, .c (.sl false Y9)), (18, .c (.v tI)), (19, .c (.v tI))], []⟩
noncomputable def j63 (n ℓ : Nat) (σ : St) : Option o63.V := if ℓ = 4 then jump 0 h63_4 (fun v => impl_JudgeWhole_L4 n v.1.1 v.1.2.1 v.1.2.2.1) σ else if ℓ = 7 then jump 0 h63_7 (fun v => impl_JudgeWhole_L7 n v.1.1 v.1.2.1 v.1.2.2.1 v.1.2.2.2.1 v.1.2.2.2.2.1 v.1.2.2.2.2.2.1) σ else none
theorem q63_4 (n : Nat) (v : h63_4.V) (ω : List Bool) : loopF C63 c63 Tryz.f63 (j63 n) 4 ω (h63_4.st 35 v) = impl_JudgeWhole_step4 (impl_JudgeWhole_L4 n) (impl_JudgeWhole_L7 n) v.1.1 v.1.2.1 v.1.2.2.1 := by kernel_rfl
theorem q63_7 (n : Nat) (v : h63_7.V) (ω : List Bool) : loopF C63 c63 Tryz.f63 (j63 n) 7 ω (h63_7.st 35 v) = impl_JudgeWhole_step7 (impl_JudgeWhole_L4 n) (impl_JudgeWhole_L7 n) v.1.1 v.1.2.1 v.1.2.2.1 v.1.2.2.2.1 v.1.2.2.2.2.1 v.1.2.2.2.2.2.1 := by kernel_rfl
theorem e63 (n : Nat) (ω : List Bool) (v : i63.V) : enterF C63 c63 Tryz.f63 (j63 n) ω v = impl_JudgeWhole_entry (impl_JudgeWhole_L4 n) (impl_JudgeWhole_L7 n) v.1.1 := by kernel_rfl
theorem s63 : SoundC Tryz.prog 63 c63 := sound_by (l := l63) (J := j63) (L := [4, 7]) tOk mx Tryz.func63 ⟨s36, trivial⟩ (by kernel_rfl) (by kernel_rfl)
  ⟨⟨h63_4, fun n v => impl_JudgeWhole_L4 n v.1.1 v.1.2.1 v.1.2.2.1, fun _ => rfl, fun _ => rfl, q63_4⟩, ⟨⟨h63_7, fun n v => impl_JudgeWhole_L7 n v.1.1 v.1.2.1 v.1.2.2.1 v.1.2.2.2.1 v.1.2.2.2.2.1 v.1.2.2.2.2.2.1, fun _ => rfl, fun _ => rfl, q63_7⟩, trivial⟩⟩ FUEL (e63 FUEL)

/-! impl_JudgeSame -/
abbrev i64 : Shp := ⟨[(0, .row Y11)], []⟩
abbrev o64 : Shp := ⟨[(0, .c (.v .bool))], []⟩
noncomputable def c64 : Con := ⟨i64, o64, fun v => impl_JudgeSame v.1.1⟩
noncomputable def l64 : List (Nat × Con) := [(36, c36), (105, c105), (106, c106), (107, c107)]
noncomputable def C64 : Cfg := ⟨T, gam l64, hintOf [(9, [0, 1]), (11, [0, 1]), (12, [0, 1])]⟩
abbrev h64_7 : Shp := ⟨[(1, .c (.ptr 0 0)), (22, .c (.sl false Y9)), (23, .c (.v tI)), (24, .c (.v tI)), (29, .c (.sl false Y8)), (30, .c (.v tI)), (31, .c (.v tI))], [.mem [.sl false tI, .v tI, .sl false Y2, .sl false tI, .sl false Y3, .v tI, .sl false Y6, .sl false Y7, .sl false Y9, .sl false Y10, .v .bool]]⟩
abbrev h64_4 : Shp := ⟨[(1, .c (.ptr 0 0)), (22, .c (.sl false Y9)), (23, .c (.v tI)), (24, .c (.v tI))], [.mem [.sl false tI, .v tI, .sl false Y2, .sl false tI, .sl false Y3, .v tI, .sl false Y6, .sl false Y7, .sl false Y9, .sl false Y10, .v .bool]]⟩
noncomputable def j64 (n ℓ : Nat) (σ : St) : Option o64.V := if ℓ = 4 then jump 0 h64_4 (fun v => impl_JudgeSame_L4 n v.1.2.1 v.1.2.2.1 v.1.2.2.2.1 v.2.1.1 v.2.1.2.1 v.2.1.2.2.1 v.2.1.2.2.2.1 v.2.1.2.2.2.2.1 v.2.1.2.2.2.2.2.1 v.2.1.2.2.2.2.2.2.1 v.2.1.2.2.2.2.2.2.2.1 v.2.1.2.2.2.2.2.2.2.2.1 v.2.1.2.2.2.2.2.2.2.2.2.1 v.2.1.2.2.2.2.2.2.2.2.2.2.1) σ else if ℓ = 7 then jump 0 h64_7 (fun v => impl_JudgeSame_L7 n v.1.2.1 v.1.2.2.1 v.1.2.2.2.1 v.1.2.2.2.2.1 v.1.2.2.2.2.2.1 v.1.2.2.2.2.2.2.1 v.2.1.1 v.2.1.2.1 v.2.1.2.2.1 v.2.1.2.2.2.1 v.2.1.2.2.2.2.1 v.2.1.2.2.2.2.2.1 v.2.1.2.2.2.2.2.2.1 v.2.1.2.2.2.2.2.2.2.1 v.2.1.2.2.2.2.2.2.2.2.1 v.2.1.2.2.2.2.2.2.2.2.2.1 v.2.1.2.2.2.2.2.2.2.2.2.2.1) σ else none
theorem q64_4 (n : Nat) (v : h64_4.V) (ω : List Bool) : loopF C64 c64 Tryz.f64 (j64 n) 4 ω (h64_4.st 101 v) = impl_JudgeSame_step4 (impl_JudgeSame_L4 n) (impl_JudgeSame_L7 n) v.1.2.1 v.1.2.2.1 v.1.2.2.2.1 v.2.1.1 v.2.1.2.1 v.2.1.2.2.1 v.2.1.2.2.2.1 v.2.1.2.2.2.2.1 v.2.1.2.2.2.2.2.1 v.2.1.2.2.2.2.2.2.1 v.2.1.2.2.2.2.2.2.2.1 v.2.1.2.2.2.2.2.2.2.2.1 v.2.1.2.2.2.2.2.2.2.2.2.1 v.2.1.2.2.2.2.2.2.2.2.2.2.1 := by kernel_rfl
theorem q64_7 (n : Nat) (v : h64_7.V) (ω : List Bool) : loopF C64 c64 Tryz.f64 (j64 n) 7 ω (h64_7.st 101 v) = impl_JudgeSame_step7 (impl_JudgeSame_L4 n) (impl_JudgeSame_L7 n) v.1.2.1 v.1.2.2.1 v.1.2.2.2.1 v.1.2.2.2.2.1 v.1.2.2.2.2.2.1 v.1.2.2.2.2.2.2.1 v.2.1.1 v.2.1.2.1 v.2.1.2.2.1 v.2.1.2.2.2.1 v.2.1.2.2.2.2.1 v.2.1.2.2.2.2.2.1 v.2.1.2.2.2.2.2.2.1 v.2.1.2.2.2.2.2.2.2.1 v.2.1.2.2.2.2.2.2.2.2.1 v.2.1.2.2.2.2.2.2.2.2.2.1 v.2.1.2.2.2.2.2.2.2.2.2.2.1 := by kernel_rfl
theorem e64 (n : Nat) (ω : List Bool) (v : i64.V) : enterF C64 c64 Tryz.f64 (j64 n) ω v = impl_JudgeSame_entry (impl_JudgeSame_L4 n) (impl_JudgeSame_L7 n) v.1.1 := by kernel_rfl
theorem s64 : SoundC Tryz.prog 64 c64 := sound_by (l := l64) (J := j64) (L := [4, 7]) tOk mx Tryz.func64 ⟨s36, s105, s106, s107, trivial⟩ (by kernel_rfl) (by kernel_rfl)
  ⟨⟨h64_4, fun n v => impl_JudgeSame_L4 n v.1.2.1 v.1.2.2.1 v.1.2.2.2.1 v.2.1.1 v.2.1.2.1 v.2.1.2.2.1 v.2.1.2.2.2.1 v.2.1.2.2.2.2.1 v.2.1.2.2.2.2.2.1 v.2.1.2.2.2.2.2.2.1 v.2.1.2.2.2.2.2.2.2.1 v.2.1.2.2.2.2.2.2.2.2.1 v.2.1.2.2.2.2.2.2.2.2.2.1 v.2.1.2.2.2.2.2.2.2.2.2.2.1, fun _ => rfl, fun _ => rfl, q64_4⟩, ⟨⟨h64_7, fun n v => impl_JudgeSame_L7 n v.1.2.1 v.1.2.2.1 v.1.2.2.2.1 v.1.2.2.2.2.1 v.1.2.2.2.2.2.1 v.1.2.2.2.2.2.2.1 v.2.1.1 v.2.1.2.1 v.2.1.2.2.1 v.2.1.2.2.2.1 v.2.1.2.2.2.2.1 v.2.1.2.2.2.2.2.1 v.2.1.2.2.2.2.2.2.1 v.2.1.2.2.2.2.2.2.2.1 v.2.1.2.2.2.2.2.2.2.2.1 v.2.1.2.2.2.2.2.2.2.2.2.1 v.2.1.2.2.2.2.2.2.2.2.2.2.1, fun _ => rfl, fun _ => rfl, q64_7⟩, trivial⟩⟩ FUEL (e64 FUEL)

/-! impl_JudgeAll -/
abbrev i18 : Shp := ⟨[(0, .row Y11)], []⟩
abbrev o18 : Shp := ⟨[(0, .c (.v .bool))], []⟩
noncomputable def c18 : Con := ⟨i18, o18, fun v => impl_JudgeAll v.1.1⟩
noncomputable def l18 : List (Nat × Con) := [(60, c60), (61, c61), (62, c62), (63, c63), (64, c64)]
noncomputable def C18 : Cfg := ⟨T, gam l18, hintOf []⟩
theorem e18 (ω : List Bool) (v : i18.V) : enterF C18 c18 Tryz.f18 (fun _ _ => none) ω v = impl_JudgeAll v.1.1 := by kernel_rfl
theorem s18 : SoundC Tryz.prog 18 c18 := sound_by0 (l := l18) tOk mx Tryz.func18 ⟨s60, s61, s62, s63, s64, trivial⟩ (by kernel_rfl) (by kernel_rfl) e18

/-! laws_eqIntS -/
abbrev i40 : Shp := ⟨[(0, .c (.sl false tI)), (1, .c (.sl false tI))], []⟩
abbrev o40 : Shp := ⟨[(0, .c (.v .bool))], []⟩
noncomputable def c40 : Con := ⟨i40, o40, fun v => laws_eqIntS v.1.1 v.1.2.1⟩
noncomputable def l40 : List (Nat × Con) := []
noncomputable def C40 : Cfg := ⟨T, gam l40, hintOf []⟩
abbrev h40_4 : Shp := ⟨[(0, .c (.sl false tI)), (1, .c (.sl false tI)), (5, .c (.v tI))], []⟩
noncomputable def j40 (n ℓ : Nat) (σ : St) : Option o40.V := if ℓ = 4 then jump 0 h40_4 (fun v => laws_eqIntS_L4 n v.1.1 v.1.2.1 v.1.2.2.1) σ else none
theorem q40_4 (n : Nat) (v : h40_4.V) (ω : List Bool) : loopF C40 c40 Tryz.f40 (j40 n) 4 ω (h40_4.st 26 v) = laws_eqIntS_step4 (laws_eqIntS_L4 n) v.1.1 v.1.2.1 v.1.2.2.1 := by kernel_rfl
theorem e40 (n : Nat) (ω : List Bool) (v : i40.V) : enterF C40 c40 Tryz.f40 (j40 n) ω v = laws_eqIntS_entry (laws_eqIntS_L4 n) v.1.1 v.1.2.1 := by kernel_rfl
theorem s40 : SoundC Tryz.prog 40 c40 := sound_by (l := l40) (J := j40) (L := [4]) tOk mx Tryz.func40 trivial (by kernel_rfl) (by kernel_rfl)
  ⟨⟨h40_4, fun n v => laws_eqIntS_L4 n v.1.1 v.1.2.1 v.1.2.2.1, fun _ => rfl, fun _ => rfl, q40_4⟩, trivial⟩ FUEL (e40 FUEL)

/-! laws_eqConfig -/
abbrev i38 : Shp := ⟨[(0, .row Y0), (1, .row Y0)], []⟩
abbrev o38 : Shp := ⟨[(0, .c (.v .bool))], []⟩
noncomputable def c38 : Con := ⟨i38, o38, fun v => laws_eqConfig v.1.1 v.1.2.1⟩
noncomputable def l38 : List (Nat × Con) := [(40, c40)]
noncomputable def C38 : Cfg := ⟨T, gam l38, hintOf []⟩
theorem e38 (ω : List Bool) (v : i38.V) : enterF C38 c38 Tryz.f38 (fun _ _ => none) ω v = laws_eqConfig v.1.1 v.1.2.1 := by kernel_rfl
theorem s38 : SoundC Tryz.prog 38 c38 := sound_by0 (l := l38) tOk mx Tryz.func38 ⟨s40, trivial⟩ (by kernel_rfl) (by kernel_rfl) e38

/-! laws_eqEntry -/
abbrev i172 : Shp := ⟨[(0, .row Y1), (1, .row Y1)], []⟩
abbrev o172 : Shp := ⟨[(0, .c (.v .bool))], []⟩
noncomputable def c172 : Con := ⟨i172, o172, fun v => laws_eqEntry v.1.1 v.1.2.1⟩
noncomputable def l172 : List (Nat × Con) := []
noncomputable def C172 : Cfg := ⟨T, gam l172, hintOf []⟩
theorem e172 (ω : List Bool) (v : i172.V) : enterF C172 c172 Tryz.f172 (fun _ _ => none) ω v = laws_eqEntry v.1.1 v.1.2.1 := by kernel_rfl
theorem s172 : SoundC Tryz.prog 172 c172 := sound_by0 (l := l172) tOk mx Tryz.func172 trivial (by kernel_rfl) (by kernel_rfl) e172

/-! laws_eqEntryS -/
abbrev i142 : Shp := ⟨[(0, .c (.sl false Y1)), (1, .c (.sl false Y1))], []⟩
abbrev o142 : Shp := ⟨[(0, .c (.v .bool))], []⟩
noncomputable def c142 : Con := ⟨i142, o142, fun v => laws_eqEntryS v.1.1 v.1.2.1⟩
noncomputable def l142 : List (Nat × Con) := [(172, c172)]
noncomputable def C142 : Cfg := ⟨T, gam l142, hintOf []⟩
abbrev h142_4 : Shp := ⟨[(0, .c (.sl false Y1)), (1, .c (.sl false Y1)), (5, .c (.v tI))], []⟩
noncomputable def j142 (n ℓ : Nat) (σ : St) : Option o142.V := if ℓ = 4 then jump 0 h142_4 (fun v => laws_eqEntryS_L4 n v.1.1 v.1.2.1 v.1.2.2.1) σ else none
theorem q142_4 (n : Nat) (v : h142_4.V) (ω : List Bool) : loopF C142 c142 Tryz.f142 (j142 n) 4 ω (h142_4.st 27 v) = laws_eqEntryS_step4 (laws_eqEntryS_L4 n) v.1.1 v.1.2.1 v.1.2.2.1 := by kernel_rfl
theorem e142 (n : Nat) (ω : List Bool) (v : i142.V) : enterF C142 c142 Tryz.f142 (j142 n) ω v = laws_eqEntryS_entry (laws_eqEntryS_L4 n) v.1.1 v.1.2.1 := by kernel_rfl
theorem s142 : SoundC Tryz.prog 142 c142 := sound_by (l := l142) (J := j142) (L := [4]) tOk mx Tryz.func142 ⟨s172, trivial⟩ (by kernel_rfl) (by kernel_rfl)
  ⟨⟨h142_4, fun n v => laws_eqEntryS_L4 n v.1.1 v.1.2.1 v.1.2.2.1, fun _ => rfl, fun _ => rfl, q142_4⟩, trivial⟩ FUEL (e142 FUEL)

/-! laws_eqStore -/
abbrev i88 : Shp := ⟨[(0, .row Y2), (1, .row Y2)], []⟩
abbrev o88 : Shp := ⟨[(0, .c (.v .bool))], []⟩
noncomputable def c88 : Con := ⟨i88, o88, fun v => laws_eqStore v.1.1 v.1.2.1⟩
noncomputable def l88 : List (Nat × Con) := [(142, c142)]
noncomputable def C88 : Cfg := ⟨T, gam l88, hintOf []⟩
theorem e88 (ω : List Bool) (v : i88.V) : enterF C88 c88 Tryz.f88 (fun _ _ => none) ω v = laws_eqStore v.1.1 v.1.2.1 := by kernel_rfl
theorem s88 : SoundC Tryz.prog 88 c88 := sound_by0 (l := l88) tOk mx Tryz.func88 ⟨s142, trivial⟩ (by kernel_rfl) (by kernel_rfl) e88

/-! laws_eqStoreS -/
abbrev i39 : Shp := ⟨[(0, .c (.sl false Y2)), (1, .c (.sl false Y2))], []⟩
abbrev o39 : Shp := ⟨[(0, .c (.v .bool))], []⟩
noncomputable def c39 : Con := ⟨i39, o39, fun v => laws_eqStoreS v.1.1 v.1.2.1⟩
noncomputable def l39 : List (Nat × Con) := [(88, c88)]
noncomputable def C39 : Cfg := ⟨T, gam l39, hintOf []⟩
abbrev h39_4 : Shp := ⟨[(0, .c (.sl false Y2)), (1, .c (.sl false Y2)), (5, .c (.v tI))], []⟩
noncomputable def j39 (n ℓ : Nat) (σ : St) : Option o39.V := if ℓ = 4 then jump 0 h39_4 (fun v => laws_eqStoreS_L4 n v.1.1 v.1.2.1 v.1.2.2.1) σ else none
theorem q39_4 (n : Nat) (v : h39_4.V) (ω : List Bool) : loopF C39 c39 Tryz.f39 (j39 n) 4 ω (h39_4.st 27 v) = laws_eqStoreS_step4 (laws_eqStoreS_L4 n) v.1.1 v.1.2.1 v.1.2.2.1 := by kernel_rfl
theorem e39 (n : Nat) (ω : List Bool) (v : i39.V) : enterF C39 c39 Tryz.f39 (j39 n) ω v = laws_eqStoreS_entry (laws_eqStoreS_L4 n) v.1.1 v.1.2.1 := by kernel_rfl
theorem s39 : SoundC Tryz.prog 39 c39 := sound_by (l := l39) (J := j39) (L := [4]) tOk mx Tryz.func39 ⟨s88, trivial⟩ (by kernel_rfl) (by kernel_rfl)
  ⟨⟨h39_4, fun n v => laws_eqStoreS_L4 n v.1.1 v.1.2.1 v.1.2.2.1, fun _ => rfl, fun _ => rfl, q39_4⟩, trivial⟩ FUEL (e39 FUEL)

/-! laws_eqEra -/
abbrev i143 : Shp := ⟨[(0, .row Y3), (1, .row Y3)], []⟩
abbrev o143 : Shp := ⟨[(0, .c (.v .bool))], []⟩
noncomputable def c143 : Con := ⟨i143, o143, fun v => laws_eqEra v.1.1 v.1.2.1⟩
noncomputable def l143 : List (Nat × Con) := [(40, c40)]
noncomputable def C143 : Cfg := ⟨T, gam l143, hintOf []⟩
theorem e143 (ω : List Bool) (v : i143.V) : enterF C143 c143 Tryz.f143 (fun _ _ => none) ω v = laws_eqEra v.1.1 v.1.2.1 := by kernel_rfl
theorem s143 : SoundC Tryz.prog 143 c143 := sound_by0 (l := l143) tOk mx Tryz.func143 ⟨s40, trivial⟩ (by kernel_rfl) (by kernel_rfl) e143

/-! laws_eqEraS -/
abbrev i89 : Shp := ⟨[(0, .c (.sl false Y3)), (1, .c (.sl false Y3))], []⟩
abbrev o89 : Shp := ⟨[(0, .c (.v .bool))], []⟩
noncomputable def c89 : Con := ⟨i89, o89, fun v => laws_eqEraS v.1.1 v.1.2.1⟩
noncomputable def l89 : List (Nat × Con) := [(143, c143)]
noncomputable def C89 : Cfg := ⟨T, gam l89, hintOf []⟩
abbrev h89_4 : Shp := ⟨[(0, .c (.sl false Y3)), (1, .c (.sl false Y3)), (5, .c (.v tI))], []⟩
noncomputable def j89 (n ℓ : Nat) (σ : St) : Option o89.V := if ℓ = 4 then jump 0 h89_4 (fun v => laws_eqEraS_L4 n v.1.1 v.1.2.1 v.1.2.2.1) σ else none
theorem q89_4 (n : Nat) (v : h89_4.V) (ω : List Bool) : loopF C89 c89 Tryz.f89 (j89 n) 4 ω (h89_4.st 27 v) = laws_eqEraS_step4 (laws_eqEraS_L4 n) v.1.1 v.1.2.1 v.1.2.2.1 := by kernel_rfl
theorem e89 (n : Nat) (ω : List Bool) (v : i89.V) : enterF C89 c89 Tryz.f89 (j89 n) ω v = laws_eqEraS_entry (laws_eqEraS_L4 n) v.1.1 v.1.2.1 := by kernel_rfl
theorem s89 : SoundC Tryz.prog 89 c89 := sound_by (l := l89) (J := j89) (L := [4]) tOk mx Tryz.func89 ⟨s143, trivial⟩ (by kernel_rfl) (by kernel_rfl)
  ⟨⟨h89_4, fun n v => laws_eqEraS_L4 n v.1.1 v.1.2.1 v.1.2.2.1, fun _ => rfl, fun _ => rfl, q89_4⟩, trivial⟩ FUEL (e89 FUEL)

/-! laws_eqRegister -/
abbrev i41 : Shp := ⟨[(0, .row Y4), (1, .row Y4)], []⟩
abbrev o41 : Shp := ⟨[(0, .c (.v .bool))], []⟩
noncomputable def c41 : Con := ⟨i41, o41, fun v => laws_eqRegister v.1.1 v.1.2.1⟩
noncomputable def l41 : List (Nat × Con) := [(89, c89)]
noncomputable def C41 : Cfg := ⟨T, gam l41, hintOf []⟩
theorem e41 (ω : List Bool) (v : i41.V) : enterF C41 c41 Tryz.f41 (fun _ _ => none) ω v = laws_eqRegister v.1.1 v.1.2.1 := by kernel_rfl
theorem s41 : SoundC Tryz.prog 41 c41 := sound_by0 (l := l41) tOk mx Tryz.func41 ⟨s89, trivial⟩ (by kernel_rfl) (by kernel_rfl) e41

/-! laws_eqWord -/
abbrev i173 : Shp := ⟨[(0, .row Y5), (1, .row Y5)], []⟩
abbrev o173 : Shp := ⟨[(0, .c (.v .bool))], []⟩
noncomputable def c173 : Con := ⟨i173, o173, fun v => laws_eqWord v.1.1 v.1.2.1⟩
noncomputable def l173 : List (Nat × Con) := [(40, c40)]
noncomputable def C173 : Cfg := ⟨T, gam l173, hintOf []⟩
theorem e173 (ω : List Bool) (v : i173.V) : enterF C173 c173 Tryz.f173 (fun _ _ => none) ω v = laws_eqWord v.1.1 v.1.2.1 := by kernel_rfl
theorem s173 : SoundC Tryz.prog 173 c173 := sound_by0 (l := l173) tOk mx Tryz.func173 ⟨s40, trivial⟩ (by kernel_rfl) (by kernel_rfl) e173

/-! laws_eqWordS -/
abbrev i144 : Shp := ⟨[(0, .c (.sl false Y5)), (1, .c (.sl false Y5))], []⟩
abbrev o144 : Shp := ⟨[(0, .c (.v .bool))], []⟩
noncomputable def c144 : Con := ⟨i144, o144, fun v => laws_eqWordS v.1.1 v.1.2.1⟩
noncomputable def l144 : List (Nat × Con) := [(173, c173)]
noncomputable def C144 : Cfg := ⟨T, gam l144, hintOf []⟩
abbrev h144_4 : Shp := ⟨[(0, .c (.sl false Y5)), (1, .c (.sl false Y5)), (5, .c (.v tI))], []⟩
noncomputable def j144 (n ℓ : Nat) (σ : St) : Option o144.V := if ℓ = 4 then jump 0 h144_4 (fun v => laws_eqWordS_L4 n v.1.1 v.1.2.1 v.1.2.2.1) σ else none
theorem q144_4 (n : Nat) (v : h144_4.V) (ω : List Bool) : loopF C144 c144 Tryz.f144 (j144 n) 4 ω (h144_4.st 27 v) = laws_eqWordS_step4 (laws_eqWordS_L4 n) v.1.1 v.1.2.1 v.1.2.2.1 := by kernel_rfl
theorem e144 (n : Nat) (ω : List Bool) (v : i144.V) : enterF C144 c144 Tryz.f144 (j144 n) ω v = laws_eqWordS_entry (laws_eqWordS_L4 n) v.1.1 v.1.2.1 := by kernel_rfl
theorem s144 : SoundC Tryz.prog 144 c144 := sound_by (l := l144) (J := j144) (L := [4]) tOk mx Tryz.func144 ⟨s173, trivial⟩ (by kernel_rfl) (by kernel_rfl)
  ⟨⟨h144_4, fun n v => laws_eqWordS_L4 n v.1.1 v.1.2.1 v.1.2.2.1, fun _ => rfl, fun _ => rfl, q144_4⟩, trivial⟩ FUEL (e144 FUEL)

/-! laws_eqWriter -/
abbrev i90 : Shp := ⟨[(0, .row Y6), (1, .row Y6)], []⟩
abbrev o90 : Shp := ⟨[(0, .c (.v .bool))], []⟩
noncomputable def c90 : Con := ⟨i90, o90, fun v => laws_eqWriter v.1.1 v.1.2.1⟩
noncomputable def l90 : List (Nat × Con) := [(144, c144)]
noncomputable def C90 : Cfg := ⟨T, gam l90, hintOf []⟩
theorem e90 (ω : List Bool) (v : i90.V) : enterF C90 c90 Tryz.f90 (fun _ _ => none) ω v = laws_eqWriter v.1.1 v.1.2.1 := by kernel_rfl
theorem s90 : SoundC Tryz.prog 90 c90 := sound_by0 (l := l90) tOk mx Tryz.func90 ⟨s144, trivial⟩ (by kernel_rfl) (by kernel_rfl) e90

/-! laws_eqWriterS -/
abbrev i42 : Shp := ⟨[(0, .c (.sl false Y6)), (1, .c (.sl false Y6))], []⟩
abbrev o42 : Shp := ⟨[(0, .c (.v .bool))], []⟩
noncomputable def c42 : Con := ⟨i42, o42, fun v => laws_eqWriterS v.1.1 v.1.2.1⟩
noncomputable def l42 : List (Nat × Con) := [(90, c90)]
noncomputable def C42 : Cfg := ⟨T, gam l42, hintOf []⟩
abbrev h42_4 : Shp := ⟨[(0, .c (.sl false Y6)), (1, .c (.sl false Y6)), (5, .c (.v tI))], []⟩
noncomputable def j42 (n ℓ : Nat) (σ : St) : Option o42.V := if ℓ = 4 then jump 0 h42_4 (fun v => laws_eqWriterS_L4 n v.1.1 v.1.2.1 v.1.2.2.1) σ else none
theorem q42_4 (n : Nat) (v : h42_4.V) (ω : List Bool) : loopF C42 c42 Tryz.f42 (j42 n) 4 ω (h42_4.st 27 v) = laws_eqWriterS_step4 (laws_eqWriterS_L4 n) v.1.1 v.1.2.1 v.1.2.2.1 := by kernel_rfl
theorem e42 (n : Nat) (ω : List Bool) (v : i42.V) : enterF C42 c42 Tryz.f42 (j42 n) ω v = laws_eqWriterS_entry (laws_eqWriterS_L4 n) v.1.1 v.1.2.1 := by kernel_rfl
theorem s42 : SoundC Tryz.prog 42 c42 := sound_by (l := l42) (J := j42) (L := [4]) tOk mx Tryz.func42 ⟨s90, trivial⟩ (by kernel_rfl) (by kernel_rfl)
  ⟨⟨h42_4, fun n v => laws_eqWriterS_L4 n v.1.1 v.1.2.1 v.1.2.2.1, fun _ => rfl, fun _ => rfl, q42_4⟩, trivial⟩ FUEL (e42 FUEL)

/-! laws_eqIntSS -/
abbrev i145 : Shp := ⟨[(0, .c (.sl false (.sl tI))), (1, .c (.sl false (.sl tI)))], []⟩
abbrev o145 : Shp := ⟨[(0, .c (.v .bool))], []⟩
noncomputable def c145 : Con := ⟨i145, o145, fun v => laws_eqIntSS v.1.1 v.1.2.1⟩
noncomputable def l145 : List (Nat × Con) := [(40, c40)]
noncomputable def C145 : Cfg := ⟨T, gam l145, hintOf []⟩
abbrev h145_4 : Shp := ⟨[(0, .c (.sl false (.sl tI))), (1, .c (.sl false (.sl tI))), (5, .c (.v tI))], []⟩
noncomputable def j145 (n ℓ : Nat) (σ : St) : Option o145.V := if ℓ = 4 then jump 0 h145_4 (fun v => laws_eqIntSS_L4 n v.1.1 v.1.2.1 v.1.2.2.1) σ else none
theorem q145_4 (n : Nat) (v : h145_4.V) (ω : List Bool) : loopF C145 c145 Tryz.f145 (j145 n) 4 ω (h145_4.st 27 v) = laws_eqIntSS_step4 (laws_eqIntSS_L4 n) v.1.1 v.1.2.1 v.1.2.2.1 := by kernel_rfl
theorem e145 (n : Nat) (ω : List Bool) (v : i145.V) : enterF C145 c145 Tryz.f145 (j145 n) ω v = laws_eqIntSS_entry (laws_eqIntSS_L4 n) v.1.1 v.1.2.1 := by kernel_rfl
theorem s145 : SoundC Tryz.prog 145 c145 := sound_by (l := l145) (J := j145) (L := [4]) tOk mx Tryz.func145 ⟨s40, trivial⟩ (by kernel_rfl) (by kernel_rfl)
  ⟨⟨h145_4, fun n v => laws_eqIntSS_L4 n v.1.1 v.1.2.1 v.1.2.2.1, fun _ => rfl, fun _ => rfl, q145_4⟩, trivial⟩ FUEL (e145 FUEL)

/-! laws_eqMend -/
abbrev i91 : Shp := ⟨[(0, .row Y7), (1, .row Y7)], []⟩
abbrev o91 : Shp := ⟨[(0, .c (.v .bool))], []⟩
noncomputable def c91 : Con := ⟨i91, o91, fun v => laws_eqMend v.1.1 v.1.2.1⟩
noncomputable def l91 : List (Nat × Con) := [(40, c40), (142, c142), (145, c145)]
noncomputable def C91 : Cfg := ⟨T, gam l91, hintOf []⟩
theorem e91 (ω : List Bool) (v : i91.V) : enterF C91 c91 Tryz.f91 (fun _ _ => none) ω v = laws_eqMend v.1.1 v.1.2.1 := by kernel_rfl
theorem s91 : SoundC Tryz.prog 91 c91 := sound_by0 (l := l91) tOk mx Tryz.func91 ⟨s40, s142, s145, trivial⟩ (by kernel_rfl) (by kernel_rfl) e91

/-! laws_eqMendS -/
abbrev i43 : Shp := ⟨[(0, .c (.sl false Y7)), (1, .c (.sl false Y7))], []⟩
abbrev o43 : Shp := ⟨[(0, .c (.v .bool))], []⟩
noncomputable def c43 : Con := ⟨i43, o43, fun v => laws_eqMendS v.1.1 v.1.2.1⟩
noncomputable def l43 : List (Nat × Con) := [(91, c91)]
noncomputable def C43 : Cfg := ⟨T, gam l43, hintOf []⟩
abbrev h43_4 : Shp := ⟨[(0, .c (.sl false Y7)), (1, .c (.sl false Y7)), (5, .c (.v tI))], []⟩
noncomputable def j43 (n ℓ : Nat) (σ : St) : Option o43.V := if ℓ = 4 then jump 0 h43_4 (fun v => laws_eqMendS_L4 n v.1.1 v.1.2.1 v.1.2.2.1) σ else none
theorem q43_4 (n : Nat) (v : h43_4.V) (ω : List Bool) : loopF C43 c43 Tryz.f43 (j43 n) 4 ω (h43_4.st 27 v) = laws_eqMendS_step4 (laws_eqMendS_L4 n) v.1.1 v.1.2.1 v.1.2.2.1 := by kernel_rfl
theorem e43 (n : Nat) (ω : List Bool) (v : i43.V) : enterF C43 c43 Tryz.f43 (j43 n) ω v = laws_eqMendS_entry (laws_eqMendS_L4 n) v.1.1 v.1.2.1 := by kernel_rfl
theorem s43 : SoundC Tryz.prog 43 c43 := sound_by (l := l43) (J := j43) (L := [4]) tOk mx Tryz.func43 ⟨s91, trivial⟩ (by kernel_rfl) (by kernel_rfl)
  ⟨⟨h43_4, fun n v => laws_eqMendS_L4 n v.1.1 v.1.2.1 v.1.2.2.1, fun _ => rfl, fun _ => rfl, q43_4⟩, trivial⟩ FUEL (e43 FUEL)

/-! laws_eqEvent -/
abbrev i174 : Shp := ⟨[(0, .row Y8), (1, .row Y8)], []⟩
abbrev o174 : Shp := ⟨[(0, .c (.v .bool))], []⟩
noncomputable def c174 : Con := ⟨i174, o174, fun v => laws_eqEvent v.1.1 v.1.2.1⟩
noncomputable def l174 : List (Nat × Con) := []
noncomputable def C174 : Cfg := ⟨T, gam l174, hintOf []⟩
theorem e174 (ω : List Bool) (v : i174.V) : enterF C174 c174 Tryz.f174 (fun _ _ => none) ω v = laws_eqEvent v.1.1 v.1.2.1 := by kernel_rfl
theorem s174 : SoundC Tryz.prog 174 c174 := sound_by0 (l := l174) tOk mx Tryz.func174 trivial (by kernel_rfl) (by kernel_rfl) e174

/-! laws_eqEventS -/
abbrev i146 : Shp := ⟨[(0, .c (.sl false Y8)), (1, .c (.sl false Y8))], []⟩
abbrev o146 : Shp := ⟨[(0, .c (.v .bool))], []⟩
noncomputable def c146 : Con := ⟨i146, o146, fun v => laws_eqEventS v.1.1 v.1.2.1⟩
noncomputable def l146 : List (Nat × Con) := [(174, c174)]
noncomputable def C146 : Cfg := ⟨T, gam l146, hintOf []⟩
abbrev h146_4 : Shp := ⟨[(0, .c (.sl false Y8)), (1, .c (.sl false Y8)), (5, .c (.v tI))], []⟩
noncomputable def j146 (n ℓ : Nat) (σ : St) : Option o146.V := if ℓ = 4 then jump 0 h146_4 (fun v => laws_eqEventS_L4 n v.1.1 v.1.2.1 v.1.2.2.1) σ else none
theorem q146_4 (n : Nat) (v : h146_4.V) (ω : List Bool) : loopF C146 c146 Tryz.f146 (j146 n) 4 ω (h146_4.st 27 v) = laws_eqEventS_step4 (laws_eqEventS_L4 n) v.1.1 v.1.2.1 v.1.2.2.1 := by kernel_rfl
theorem e146 (n : Nat) (ω : List Bool) (v : i146.V) : enterF C146 c146 Tryz.f146 (j146 n) ω v = laws_eqEventS_entry (laws_eqEventS_L4 n) v.1.1 v.1.2.1 := by kernel_rfl
theorem s146 : SoundC Tryz.prog 146 c146 := sound_by (l := l146) (J := j146) (L := [4]) tOk mx Tryz.func146 ⟨s174, trivial⟩ (by kernel_rfl) (by kernel_rfl)
  ⟨⟨h146_4, fun n v => laws_eqEventS_L4 n v.1.1 v.1.2.1 v.1.2.2.1, fun _ => rfl, fun _ => rfl, q146_4⟩, trivial⟩ FUEL (e146 FUEL)

/-! laws_eqReader -/
abbrev i92 : Shp := ⟨[(0, .row Y9), (1, .row Y9)], []⟩
abbrev o92 : Shp := ⟨[(0, .c (.v .bool))], []⟩
noncomputable def c92 : Con := ⟨i92, o92, fun v => laws_eqReader v.1.1 v.1.2.1⟩
noncomputable def l92 : List (Nat × Con) := [(146, c146)]
noncomputable def C92 : Cfg := ⟨T, gam l92, hintOf []⟩
theorem e92 (ω : List Bool) (v : i92.V) : enterF C92 c92 Tryz.f92 (fun _ _ => none) ω v = laws_eqReader v.1.1 v.1.2.1 := by kernel_rfl
theorem s92 : SoundC Tryz.prog 92 c92 := sound_by0 (l := l92) tOk mx Tryz.func92 ⟨s146, trivial⟩ (by kernel_rfl) (by kernel_rfl) e92

/-! laws_eqReaderS -/
abbrev i44 : Shp := ⟨[(0, .c (.sl false Y9)), (1, .c (.sl false Y9))], []⟩
abbrev o44 : Shp := ⟨[(0, .c (.v .bool))], []⟩
noncomputable def c44 : Con := ⟨i44, o44, fun v => laws_eqReaderS v.1.1 v.1.2.1⟩
noncomputable def l44 : List (Nat × Con) := [(92, c92)]
noncomputable def C44 : Cfg := ⟨T, gam l44, hintOf []⟩
abbrev h44_4 : Shp := ⟨[(0, .c (.sl false Y9)), (1, .c (.sl false Y9)), (5, .c (.v tI))], []⟩
noncomputable def j44 (n ℓ : Nat) (σ : St) : Option o44.V := if ℓ = 4 then jump 0 h44_4 (fun v => laws_eqReaderS_L4 n v.1.1 v.1.2.1 v.1.2.2.1) σ else none
theorem q44_4 (n : Nat) (v : h44_4.V) (ω : List Bool) : loopF C44 c44 Tryz.f44 (j44 n) 4 ω (h44_4.st 27 v) = laws_eqReaderS_step4 (laws_eqReaderS_L4 n) v.1.1 v.1.2.1 v.1.2.2.1 := by kernel_rfl
theorem e44 (n : Nat) (ω : List Bool) (v : i44.V) : enterF C44 c44 Tryz.f44 (j44 n) ω v = laws_eqReaderS_entry (laws_eqReaderS_L4 n) v.1.1 v.1.2.1 := by kernel_rfl
theorem s44 : SoundC Tryz.prog 44 c44 := sound_by (l := l44) (J := j44) (L := [4]) tOk mx Tryz.func44 ⟨s92, trivial⟩ (by kernel_rfl) (by kernel_rfl)
  ⟨⟨h44_4, fun n v => laws_eqReaderS_L4 n v.1.1 v.1.2.1 v.1.2.2.1, fun _ => rfl, fun _ => rfl, q44_4⟩, trivial⟩ FUEL (e44 FUEL)

/-! laws_eqSent -/
abbrev i37 : Shp := ⟨[(0, .row Y10), (1, .row Y10)], []⟩
abbrev o37 : Shp := ⟨[(0, .c (.v .bool))], []⟩
noncomputable def c37 : Con := ⟨i37, o37, fun v => laws_eqSent v.1.1 v.1.2.1⟩
noncomputable def l37 : List (Nat × Con) := []
noncomputable def C37 : Cfg := ⟨T, gam l37, hintOf []⟩
theorem e37 (ω : List Bool) (v : i37.V) : enterF C37 c37 Tryz.f37 (fun _ _ => none) ω v = laws_eqSent v.1.1 v.1.2.1 := by kernel_rfl
theorem s37 : SoundC Tryz.prog 37 c37 := sound_by0 (l := l37) tOk mx Tryz.func37 trivial (by kernel_rfl) (by kernel_rfl) e37

/-! laws_eqSentS -/
abbrev i10 : Shp := ⟨[(0, .c (.sl false Y10)), (1, .c (.sl false Y10))], []⟩
abbrev o10 : Shp := ⟨[(0, .c (.v .bool))], []⟩
noncomputable def c10 : Con := ⟨i10, o10, fun v => laws_eqSentS v.1.1 v.1.2.1⟩
noncomputable def l10 : List (Nat × Con) := [(37, c37)]
noncomputable def C10 : Cfg := ⟨T, gam l10, hintOf []⟩
abbrev h10_4 : Shp := ⟨[(0, .c (.sl false Y10)), (1, .c (.sl false Y10)), (5, .c (.v tI))], []⟩
noncomputable def j10 (n ℓ : Nat) (σ : St) : Option o10.V := if ℓ = 4 then jump 0 h10_4 (fun v => laws_eqSentS_L4 n v.1.1 v.1.2.1 v.1.2.2.1) σ else none
theorem q10_4 (n : Nat) (v : h10_4.V) (ω : List Bool) : loopF C10 c10 Tryz.f10 (j10 n) 4 ω (h10_4.st 27 v) = laws_eqSentS_step4 (laws_eqSentS_L4 n) v.1.1 v.1.2.1 v.1.2.2.1 := by kernel_rfl
theorem e10 (n : Nat) (ω : List Bool) (v : i10.V) : enterF C10 c10 Tryz.f10 (j10 n) ω v = laws_eqSentS_entry (laws_eqSentS_L4 n) v.1.1 v.1.2.1 := by kernel_rfl
theorem s10 : SoundC Tryz.prog 10 c10 := sound_by (l := l10) (J := j10) (L := [4]) tOk mx Tryz.func10 ⟨s37, trivial⟩ (by kernel_rfl) (by kernel_rfl)
  ⟨⟨h10_4, fun n v => laws_eqSentS_L4 n v.1.1 v.1.2.1 v.1.2.2.1, fun _ => rfl, fun _ => rfl, q10_4⟩, trivial⟩ FUEL (e10 FUEL)

/-! laws_eqWorld -/
abbrev i11 : Shp := ⟨[(0, .row Y11), (1, .row Y11)], []⟩
abbrev o11 : Shp := ⟨[(0, .c (.v .bool))], []⟩
noncomputable def c11 : Con := ⟨i11, o11, fun v => laws_eqWorld v.1.1 v.1.2.1⟩
noncomputable def l11 : List (Nat × Con) := [(10, c10), (38, c38), (39, c39), (40, c40), (41, c41), (42, c42), (43, c43), (44, c44)]
noncomputable def C11 : Cfg := ⟨T, gam l11, hintOf []⟩
theorem e11 (ω : List Bool) (v : i11.V) : enterF C11 c11 Tryz.f11 (fun _ _ => none) ω v = laws_eqWorld v.1.1 v.1.2.1 := by kernel_rfl
theorem s11 : SoundC Tryz.prog 11 c11 := sound_by0 (l := l11) tOk mx Tryz.func11 ⟨s10, s38, s39, s40, s41, s42, s43, s44, trivial⟩ (by kernel_rfl) (by kernel_rfl) e11

/-! laws_FnExactJudgeAll -/
abbrev i5 : Shp := ⟨[(0, .row Y11)], []⟩
abbrev o5 : Shp := ⟨[(0, .c (.v .bool))], []⟩
noncomputable def c5 : Con := ⟨i5, o5, fun v => laws_FnExactJudgeAll v.1.1⟩
noncomputable def l5 : List (Nat × Con) := [(6, c6), (8, c8), (11, c11), (17, c17), (18, c18)]
noncomputable def C5 : Cfg := ⟨T, gam l5, hintOf [(10, [0, 1, 2, 3, 4, 5, 6, 7, 8, 9, 10, 11, 12, 13, 14, 15, 16, 17])]⟩
theorem e5 (ω : List Bool) (v : i5.V) : enterF C5 c5 Tryz.f5 (fun _ _ => none) ω v = laws_FnExactJudgeAll v.1.1 := by kernel_rfl
theorem s5 : SoundC Tryz.prog 5 c5 := sound_by0 (l := l5) tOk mx Tryz.func5 ⟨s6, s8, s11, s17, s18, trivial⟩ (by kernel_rfl) (by kernel_rfl) e5
end Go.Proofs.YtekamaodealggabGreat.Wk
