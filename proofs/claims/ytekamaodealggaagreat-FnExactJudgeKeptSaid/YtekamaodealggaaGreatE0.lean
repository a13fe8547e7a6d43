/- Each function computes what was printed: by the kernel. -/
import Derived.Test.YtekamaodealggaaGreatG0
import Derived.Test.YtekamaodealggaaGreatProg
import Derived.KernelRfl
set_option linter.unusedVariables false
set_option linter.unusedSimpArgs false
namespace Go.Proofs.YtekamaodealggaaGreat.Wk
open Go Go.Fw Go.M Go.Proofs
abbrev tI : Ty := .int .i64
abbrev tU : Ty := .int .u8
abbrev Y0 : Ty := (.cons (.sl tI) (.cons tI .unit))
abbrev Y1 : Ty := (.cons tI (.cons tI (.cons .bool (.cons .str .unit))))
abbrev Y2 : Ty := (.cons (.sl Y1) (.cons (.sl Y1) (.cons tI .unit)))
abbrev Y3 : Ty := (.cons (.sl tI) (.cons .bool (.cons tI .unit)))
abbrev Y4 : Ty := (.cons (.sl Y3) (.cons tI .unit))
abbrev Y5 : Ty := (.cons .str (.cons (.sl tI) (.cons .bool .unit)))
abbrev Y6 : Ty := (.cons tI (.cons (.sl Y5) .unit))
abbrev Y7 : Ty := (.cons tI (.cons tI (.cons (.sl tI) (.cons (.sl Y1) (.cons .bool (.cons (.sl (.sl tI)) .unit))))))
abbrev Y8 : Ty := (.cons tI (.cons tI (.cons .str .unit)))
abbrev Y9 : Ty := (.cons tI (.cons tI (.cons (.sl Y8) .unit)))
abbrev Y10 : Ty := (.cons tI (.cons .str (.cons .bool .unit)))
abbrev Y11 : Ty := (.cons (.sl tI) (.cons tI (.cons (.sl Y2) (.cons (.sl tI) (.cons (.sl Y3) (.cons tI (.cons (.sl Y6) (.cons (.sl Y7) (.cons (.sl Y9) (.cons (.sl Y10) (.cons .bool .unit)))))))))))
def T : Tab := [(3, ⟨1, 8, .int .i64, some tI⟩),
  (4, ⟨1, 1, .bool, some .bool⟩),
  (9, ⟨1, 16, .str, some .str⟩),
  (22, ⟨1, 24, .sl 3, some (.sl tI)⟩),
  (24, ⟨2, 32, .st [(0, 22), (1, 3)], some Y0⟩),
  (25, ⟨1, 24, .sl 97, some (.sl Y2)⟩),
  (26, ⟨1, 24, .sl 141, some (.sl Y3)⟩),
  (28, ⟨2, 32, .st [(0, 26), (1, 3)], some Y4⟩),
  (29, ⟨1, 24, .sl 102, some (.sl Y6)⟩),
  (30, ⟨1, 24, .sl 106, some (.sl Y7)⟩),
  (31, ⟨1, 24, .sl 110, some (.sl Y9)⟩),
  (32, ⟨1, 24, .sl 112, some (.sl Y10)⟩),
  (34, ⟨11, 216, .st [(0, 24), (2, 25), (3, 22), (4, 28), (6, 29), (7, 30), (8, 31), (9, 32), (10, 4)], some Y11⟩),
  (37, ⟨2, 32, .st [(0, 22), (1, 3)], some Y0⟩),
  (38, ⟨1, 24, .sl 115, some (.sl Y2)⟩),
  (39, ⟨1, 24, .sl 153, some (.sl Y3)⟩),
  (41, ⟨2, 32, .st [(0, 39), (1, 3)], some Y4⟩),
  (42, ⟨1, 24, .sl 120, some (.sl Y6)⟩),
  (43, ⟨1, 24, .sl 123, some (.sl Y7)⟩),
  (44, ⟨1, 24, .sl 64, some (.sl Y9)⟩),
  (45, ⟨1, 24, .sl 87, some (.sl Y10)⟩),
  (47, ⟨11, 216, .st [(0, 37), (2, 38), (3, 22), (4, 41), (6, 42), (7, 43), (8, 44), (9, 45), (10, 4)], some Y11⟩),
  (62, ⟨1, 24, .sl 66, some (.sl Y8)⟩),
  (64, ⟨3, 40, .st [(0, 3), (1, 3), (2, 62)], some Y9⟩),
  (66, ⟨3, 32, .st [(0, 3), (1, 3), (2, 9)], some Y8⟩),
  (87, ⟨3, 32, .st [(0, 3), (1, 9), (2, 4)], some Y10⟩),
  (93, ⟨1, 8, .other, none⟩),
  (95, ⟨1, 24, .sl 168, some (.sl Y1)⟩),
  (97, ⟨3, 56, .st [(0, 95), (1, 95), (2, 3)], some Y2⟩),
  (100, ⟨1, 24, .sl 171, some (.sl Y5)⟩),
  (102, ⟨2, 32, .st [(0, 3), (1, 100)], some Y6⟩),
  (104, ⟨1, 24, .sl 22, some (.sl (.sl tI))⟩),
  (106, ⟨6, 96, .st [(0, 3), (1, 3), (2, 22), (3, 95), (4, 4), (5, 104)], some Y7⟩),
  (108, ⟨1, 24, .sl 173, some (.sl Y8)⟩),
  (110, ⟨3, 40, .st [(0, 3), (1, 3), (2, 108)], some Y9⟩),
  (112, ⟨3, 32, .st [(0, 3), (1, 9), (2, 4)], some Y10⟩),
  (113, ⟨1, 24, .sl 180, some (.sl Y1)⟩),
  (115, ⟨3, 56, .st [(0, 113), (1, 113), (2, 3)], some Y2⟩),
  (118, ⟨1, 24, .sl 178, some (.sl Y5)⟩),
  (120, ⟨2, 32, .st [(0, 3), (1, 118)], some Y6⟩),
  (123, ⟨6, 96, .st [(0, 3), (1, 3), (2, 22), (3, 113), (4, 4), (5, 104)], some Y7⟩),
  (141, ⟨3, 40, .st [(0, 22), (1, 4), (2, 3)], some Y3⟩),
  (153, ⟨3, 40, .st [(0, 22), (1, 4), (2, 3)], some Y3⟩),
  (158, ⟨1, 8, .ptr 47, none⟩),
  (168, ⟨4, 40, .st [(0, 3), (1, 3), (2, 4), (3, 9)], some Y1⟩),
  (171, ⟨3, 48, .st [(0, 9), (1, 22), (2, 4)], some Y5⟩),
  (173, ⟨3, 32, .st [(0, 3), (1, 3), (2, 9)], some Y8⟩),
  (178, ⟨3, 48, .st [(0, 9), (1, 22), (2, 4)], some Y5⟩),
  (180, ⟨4, 40, .st [(0, 3), (1, 3), (2, 4), (3, 9)], some Y1⟩),
  (191, ⟨1, 24, .sl 4, some (.sl .bool)⟩)]
theorem tOk : TabOk Tryz.prog T := tabOk_of_check (by kernel_rfl)
theorem mx : Tryz.prog.follows .mixedOrders = true := by kernel_rfl

/-! laws_szIntS -/
abbrev i26 : Shp := ⟨[(0, .c (.sl false tI)), (1, .c (.v tI))], []⟩
abbrev o26 : Shp := ⟨[(0, .c (.v tI))], []⟩
noncomputable def c26 : Con := ⟨i26, o26, fun v => laws_szIntS v.1.1 v.1.2.1⟩
noncomputable def l26 : List (Nat × Con) := []
noncomputable def C26 : Cfg := ⟨T, gam l26, hintOf []⟩
theorem e26 (ω : List Bool) (v : i26.V) : enterF C26 c26 Tryz.f26 (fun _ _ => none) ω v = laws_szIntS v.1.1 v.1.2.1 := by kernel_rfl
theorem s26 : SoundC Tryz.prog 26 c26 := sound_by0 (l := l26) tOk mx Tryz.func26 trivial (by kernel_rfl) (by kernel_rfl) e26

/-! laws_szConfig -/
abbrev i24 : Shp := ⟨[(0, .row Y0), (1, .c (.v tI))], []⟩
abbrev o24 : Shp := ⟨[(0, .c (.v tI))], []⟩
noncomputable def c24 : Con := ⟨i24, o24, fun v => laws_szConfig v.1.1 v.1.2.1⟩
noncomputable def l24 : List (Nat × Con) := [(26, c26)]
noncomputable def C24 : Cfg := ⟨T, gam l24, hintOf []⟩
theorem e24 (ω : List Bool) (v : i24.V) : enterF C24 c24 Tryz.f24 (fun _ _ => none) ω v = laws_szConfig v.1.1 v.1.2.1 := by kernel_rfl
theorem s24 : SoundC Tryz.prog 24 c24 := sound_by0 (l := l24) tOk mx Tryz.func24 ⟨s26, trivial⟩ (by kernel_rfl) (by kernel_rfl) e24

/-! laws_szEntry -/
abbrev i137 : Shp := ⟨[(0, .row Y1), (1, .c (.v tI))], []⟩
abbrev o137 : Shp := ⟨[(0, .c (.v tI))], []⟩
noncomputable def c137 : Con := ⟨i137, o137, fun v => laws_szEntry v.1.1 v.1.2.1⟩
noncomputable def l137 : List (Nat × Con) := []
noncomputable def C137 : Cfg := ⟨T, gam l137, hintOf []⟩
theorem e137 (ω : List Bool) (v : i137.V) : enterF C137 c137 Tryz.f137 (fun _ _ => none) ω v = laws_szEntry v.1.1 v.1.2.1 := by kernel_rfl
theorem s137 : SoundC Tryz.prog 137 c137 := sound_by0 (l := l137) tOk mx Tryz.func137 trivial (by kernel_rfl) (by kernel_rfl) e137

/-! laws_szEntryS -/
abbrev i98 : Shp := ⟨[(0, .c (.sl false Y1)), (1, .c (.v tI))], []⟩
abbrev o98 : Shp := ⟨[(0, .c (.v tI))], []⟩
noncomputable def c98 : Con := ⟨i98, o98, fun v => laws_szEntryS v.1.1 v.1.2.1⟩
noncomputable def l98 : List (Nat × Con) := [(137, c137)]
noncomputable def C98 : Cfg := ⟨T, gam l98, hintOf []⟩
abbrev h98_5 : Shp := ⟨[(0, .c (.sl false Y1)), (1, .c (.v tI)), (5, .c (.v tI))], []⟩
noncomputable def j98 (n ℓ : Nat) (σ : St) : Option o98.V := if ℓ = 5 then jump 0 h98_5 (fun v => laws_szEntryS_L5 n v.1.1 v.1.2.1 v.1.2.2.1) σ else none
theorem q98_5 (n : Nat) (v : h98_5.V) (ω : List Bool) : loopF C98 c98 Tryz.f98 (j98 n) 5 ω (h98_5.st 27 v) = laws_szEntryS_step5 (laws_szEntryS_L5 n) v.1.1 v.1.2.1 v.1.2.2.1 := by kernel_rfl
theorem e98 (n : Nat) (ω : List Bool) (v : i98.V) : enterF C98 c98 Tryz.f98 (j98 n) ω v = laws_szEntryS_entry (laws_szEntryS_L5 n) v.1.1 v.1.2.1 := by kernel_rfl
theorem s98 : SoundC Tryz.prog 98 c98 := sound_by (l := l98) (J := j98) (L := [5]) tOk mx Tryz.func98 ⟨s137, trivial⟩ (by kernel_rfl) (by kernel_rfl)
  ⟨⟨h98_5, fun n v => laws_szEntryS_L5 n v.1.1 v.1.2.1 v.1.2.2.1, fun _ => rfl, fun _ => rfl, q98_5⟩, trivial⟩ FUEL (e98 FUEL)

/-! laws_szStore -/
abbrev i62 : Shp := ⟨[(0, .row Y2), (1, .c (.v tI))], []⟩
abbrev o62 : Shp := ⟨[(0, .c (.v tI))], []⟩
noncomputable def c62 : Con := ⟨i62, o62, fun v => laws_szStore v.1.1 v.1.2.1⟩
noncomputable def l62 : List (Nat × Con) := [(98, c98)]
noncomputable def C62 : Cfg := ⟨T, gam l62, hintOf []⟩
theorem e62 (ω : List Bool) (v : i62.V) : enterF C62 c62 Tryz.f62 (fun _ _ => none) ω v = laws_szStore v.1.1 v.1.2.1 := by kernel_rfl
theorem s62 : SoundC Tryz.prog 62 c62 := sound_by0 (l := l62) tOk mx Tryz.func62 ⟨s98, trivial⟩ (by kernel_rfl) (by kernel_rfl) e62

/-! laws_szStoreS -/
abbrev i25 : Shp := ⟨[(0, .c (.sl false Y2)), (1, .c (.v tI))], []⟩
abbrev o25 : Shp := ⟨[(0, .c (.v tI))], []⟩
noncomputable def c25 : Con := ⟨i25, o25, fun v => laws_szStoreS v.1.1 v.1.2.1⟩
noncomputable def l25 : List (Nat × Con) := [(62, c62)]
noncomputable def C25 : Cfg := ⟨T, gam l25, hintOf []⟩
abbrev h25_5 : Shp := ⟨[(0, .c (.sl false Y2)), (1, .c (.v tI)), (5, .c (.v tI))], []⟩
noncomputable def j25 (n ℓ : Nat) (σ : St) : Option o25.V := if ℓ = 5 then jump 0 h25_5 (fun v => laws_szStoreS_L5 n v.1.1 v.1.2.1 v.1.2.2.1) σ else none
theorem q25_5 (n : Nat) (v : h25_5.V) (ω : List Bool) : loopF C25 c25 Tryz.f25 (j25 n) 5 ω (h25_5.st 27 v) = laws_szStoreS_step5 (laws_szStoreS_L5 n) v.1.1 v.1.2.1 v.1.2.2.1 := by kernel_rfl
theorem e25 (n : Nat) (ω : List Bool) (v : i25.V) : enterF C25 c25 Tryz.f25 (j25 n) ω v = laws_szStoreS_entry (laws_szStoreS_L5 n) v.1.1 v.1.2.1 := by kernel_rfl
theorem s25 : SoundC Tryz.prog 25 c25 := sound_by (l := l25) (J := j25) (L := [5]) tOk mx Tryz.func25 ⟨s62, trivial⟩ (by kernel_rfl) (by kernel_rfl)
  ⟨⟨h25_5, fun n v => laws_szStoreS_L5 n v.1.1 v.1.2.1 v.1.2.2.1, fun _ => rfl, fun _ => rfl, q25_5⟩, trivial⟩ FUEL (e25 FUEL)

/-! laws_szEra -/
abbrev i99 : Shp := ⟨[(0, .row Y3), (1, .c (.v tI))], []⟩
abbrev o99 : Shp := ⟨[(0, .c (.v tI))], []⟩
noncomputable def c99 : Con := ⟨i99, o99, fun v => laws_szEra v.1.1 v.1.2.1⟩
noncomputable def l99 : List (Nat × Con) := [(26, c26)]
noncomputable def C99 : Cfg := ⟨T, gam l99, hintOf []⟩
theorem e99 (ω : List Bool) (v : i99.V) : enterF C99 c99 Tryz.f99 (fun _ _ => none) ω v = laws_szEra v.1.1 v.1.2.1 := by kernel_rfl
theorem s99 : SoundC Tryz.prog 99 c99 := sound_by0 (l := l99) tOk mx Tryz.func99 ⟨s26, trivial⟩ (by kernel_rfl) (by kernel_rfl) e99

/-! laws_szEraS -/
abbrev i63 : Shp := ⟨[(0, .c (.sl false Y3)), (1, .c (.v tI))], []⟩
abbrev o63 : Shp := ⟨[(0, .c (.v tI))], []⟩
noncomputable def c63 : Con := ⟨i63, o63, fun v => laws_szEraS v.1.1 v.1.2.1⟩
noncomputable def l63 : List (Nat × Con) := [(99, c99)]
noncomputable def C63 : Cfg := ⟨T, gam l63, hintOf []⟩
abbrev h63_5 : Shp := ⟨[(0, .c (.sl false Y3)), (1, .c (.v tI)), (5, .c (.v tI))], []⟩
noncomputable def j63 (n ℓ : Nat) (σ : St) : Option o63.V := if ℓ = 5 then jump 0 h63_5 (fun v => laws_szEraS_L5 n v.1.1 v.1.2.1 v.1.2.2.1) σ else none
theorem q63_5 (n : Nat) (v : h63_5.V) (ω : List Bool) : loopF C63 c63 Tryz.f63 (j63 n) 5 ω (h63_5.st 27 v) = laws_szEraS_step5 (laws_szEraS_L5 n) v.1.1 v.1.2.1 v.1.2.2.1 := by kernel_rfl
theorem e63 (n : Nat) (ω : List Bool) (v : i63.V) : enterF C63 c63 Tryz.f63 (j63 n) ω v = laws_szEraS_entry (laws_szEraS_L5 n) v.1.1 v.1.2.1 := by kernel_rfl
theorem s63 : SoundC Tryz.prog 63 c63 := sound_by (l := l63) (J := j63) (L := [5]) tOk mx Tryz.func63 ⟨s99, trivial⟩ (by kernel_rfl) (by kernel_rfl)
  ⟨⟨h63_5, fun n v => laws_szEraS_L5 n v.1.1 v.1.2.1 v.1.2.2.1, fun _ => rfl, fun _ => rfl, q63_5⟩, trivial⟩ FUEL (e63 FUEL)

/-! laws_szRegister -/
abbrev i27 : Shp := ⟨[(0, .row Y4), (1, .c (.v tI))], []⟩
abbrev o27 : Shp := ⟨[(0, .c (.v tI))], []⟩
noncomputable def c27 : Con := ⟨i27, o27, fun v => laws_szRegister v.1.1 v.1.2.1⟩
noncomputable def l27 : List (Nat × Con) := [(63, c63)]
noncomputable def C27 : Cfg := ⟨T, gam l27, hintOf []⟩
theorem e27 (ω : List Bool) (v : i27.V) : enterF C27 c27 Tryz.f27 (fun _ _ => none) ω v = laws_szRegister v.1.1 v.1.2.1 := by kernel_rfl
theorem s27 : SoundC Tryz.prog 27 c27 := sound_by0 (l := l27) tOk mx Tryz.func27 ⟨s63, trivial⟩ (by kernel_rfl) (by kernel_rfl) e27

/-! laws_szWord -/
abbrev i138 : Shp := ⟨[(0, .row Y5), (1, .c (.v tI))], []⟩
abbrev o138 : Shp := ⟨[(0, .c (.v tI))], []⟩
noncomputable def c138 : Con := ⟨i138, o138, fun v => laws_szWord v.1.1 v.1.2.1⟩
noncomputable def l138 : List (Nat × Con) := [(26, c26)]
noncomputable def C138 : Cfg := ⟨T, gam l138, hintOf []⟩
theorem e138 (ω : List Bool) (v : i138.V) : enterF C138 c138 Tryz.f138 (fun _ _ => none) ω v = laws_szWord v.1.1 v.1.2.1 := by kernel_rfl
theorem s138 : SoundC Tryz.prog 138 c138 := sound_by0 (l := l138) tOk mx Tryz.func138 ⟨s26, trivial⟩ (by kernel_rfl) (by kernel_rfl) e138

/-! laws_szWordS -/
abbrev i100 : Shp := ⟨[(0, .c (.sl false Y5)), (1, .c (.v tI))], []⟩
abbrev o100 : Shp := ⟨[(0, .c (.v tI))], []⟩
noncomputable def c100 : Con := ⟨i100, o100, fun v => laws_szWordS v.1.1 v.1.2.1⟩
noncomputable def l100 : List (Nat × Con) := [(138, c138)]
noncomputable def C100 : Cfg := ⟨T, gam l100, hintOf []⟩
abbrev h100_5 : Shp := ⟨[(0, .c (.sl false Y5)), (1, .c (.v tI)), (5, .c (.v tI))], []⟩
noncomputable def j100 (n ℓ : Nat) (σ : St) : Option o100.V := if ℓ = 5 then jump 0 h100_5 (fun v => laws_szWordS_L5 n v.1.1 v.1.2.1 v.1.2.2.1) σ else none
theorem q100_5 (n : Nat) (v : h100_5.V) (ω : List Bool) : loopF C100 c100 Tryz.f100 (j100 n) 5 ω (h100_5.st 27 v) = laws_szWordS_step5 (laws_szWordS_L5 n) v.1.1 v.1.2.1 v.1.2.2.1 := by kernel_rfl
theorem e100 (n : Nat) (ω : List Bool) (v : i100.V) : enterF C100 c100 Tryz.f100 (j100 n) ω v = laws_szWordS_entry (laws_szWordS_L5 n) v.1.1 v.1.2.1 := by kernel_rfl
theorem s100 : SoundC Tryz.prog 100 c100 := sound_by (l := l100) (J := j100) (L := [5]) tOk mx Tryz.func100 ⟨s138, trivial⟩ (by kernel_rfl) (by kernel_rfl)
  ⟨⟨h100_5, fun n v => laws_szWordS_L5 n v.1.1 v.1.2.1 v.1.2.2.1, fun _ => rfl, fun _ => rfl, q100_5⟩, trivial⟩ FUEL (e100 FUEL)

/-! laws_szWriter -/
abbrev i64 : Shp := ⟨[(0, .row Y6), (1, .c (.v tI))], []⟩
abbrev o64 : Shp := ⟨[(0, .c (.v tI))], []⟩
noncomputable def c64 : Con := ⟨i64, o64, fun v => laws_szWriter v.1.1 v.1.2.1⟩
noncomputable def l64 : List (Nat × Con) := [(100, c100)]
noncomputable def C64 : Cfg := ⟨T, gam l64, hintOf []⟩
theorem e64 (ω : List Bool) (v : i64.V) : enterF C64 c64 Tryz.f64 (fun _ _ => none) ω v = laws_szWriter v.1.1 v.1.2.1 := by kernel_rfl
theorem s64 : SoundC Tryz.prog 64 c64 := sound_by0 (l := l64) tOk mx Tryz.func64 ⟨s100, trivial⟩ (by kernel_rfl) (by kernel_rfl) e64

/-! laws_szWriterS -/
abbrev i28 : Shp := ⟨[(0, .c (.sl false Y6)), (1, .c (.v tI))], []⟩
abbrev o28 : Shp := ⟨[(0, .c (.v tI))], []⟩
noncomputable def c28 : Con := ⟨i28, o28, fun v => laws_szWriterS v.1.1 v.1.2.1⟩
noncomputable def l28 : List (Nat × Con) := [(64, c64)]
noncomputable def C28 : Cfg := ⟨T, gam l28, hintOf []⟩
abbrev h28_5 : Shp := ⟨[(0, .c (.sl false Y6)), (1, .c (.v tI)), (5, .c (.v tI))], []⟩
noncomputable def j28 (n ℓ : Nat) (σ : St) : Option o28.V := if ℓ = 5 then jump 0 h28_5 (fun v => laws_szWriterS_L5 n v.1.1 v.1.2.1 v.1.2.2.1) σ else none
theorem q28_5 (n : Nat) (v : h28_5.V) (ω : List Bool) : loopF C28 c28 Tryz.f28 (j28 n) 5 ω (h28_5.st 27 v) = laws_szWriterS_step5 (laws_szWriterS_L5 n) v.1.1 v.1.2.1 v.1.2.2.1 := by kernel_rfl
theorem e28 (n : Nat) (ω : List Bool) (v : i28.V) : enterF C28 c28 Tryz.f28 (j28 n) ω v = laws_szWriterS_entry (laws_szWriterS_L5 n) v.1.1 v.1.2.1 := by kernel_rfl
theorem s28 : SoundC Tryz.prog 28 c28 := sound_by (l := l28) (J := j28) (L := [5]) tOk mx Tryz.func28 ⟨s64, trivial⟩ (by kernel_rfl) (by kernel_rfl)
  ⟨⟨h28_5, fun n v => laws_szWriterS_L5 n v.1.1 v.1.2.1 v.1.2.2.1, fun _ => rfl, fun _ => rfl, q28_5⟩, trivial⟩ FUEL (e28 FUEL)

/-! laws_szIntSS -/
abbrev i101 : Shp := ⟨[(0, .c (.sl false (.sl tI))), (1, .c (.v tI))], []⟩
abbrev o101 : Shp := ⟨[(0, .c (.v tI))], []⟩
noncomputable def c101 : Con := ⟨i101, o101, fun v => laws_szIntSS v.1.1 v.1.2.1⟩
noncomputable def l101 : List (Nat × Con) := [(26, c26)]
noncomputable def C101 : Cfg := ⟨T, gam l101, hintOf []⟩
abbrev h101_5 : Shp := ⟨[(0, .c (.sl false (.sl tI))), (1, .c (.v tI)), (5, .c (.v tI))], []⟩
noncomputable def j101 (n ℓ : Nat) (σ : St) : Option o101.V := if ℓ = 5 then jump 0 h101_5 (fun v => laws_szIntSS_L5 n v.1.1 v.1.2.1 v.1.2.2.1) σ else none
theorem q101_5 (n : Nat) (v : h101_5.V) (ω : List Bool) : loopF C101 c101 Tryz.f101 (j101 n) 5 ω (h101_5.st 27 v) = laws_szIntSS_step5 (laws_szIntSS_L5 n) v.1.1 v.1.2.1 v.1.2.2.1 := by kernel_rfl
theorem e101 (n : Nat) (ω : List Bool) (v : i101.V) : enterF C101 c101 Tryz.f101 (j101 n) ω v = laws_szIntSS_entry (laws_szIntSS_L5 n) v.1.1 v.1.2.1 := by kernel_rfl
theorem s101 : SoundC Tryz.prog 101 c101 := sound_by (l := l101) (J := j101) (L := [5]) tOk mx Tryz.func101 ⟨s26, trivial⟩ (by kernel_rfl) (by kernel_rfl)
  ⟨⟨h101_5, fun n v => laws_szIntSS_L5 n v.1.1 v.1.2.1 v.1.2.2.1, fun _ => rfl, fun _ => rfl, q101_5⟩, trivial⟩ FUEL (e101 FUEL)

/-! laws_szMend -/
abbrev i65 : Shp := ⟨[(0, .row Y7), (1, .c (.v tI))], []⟩
abbrev o65 : Shp := ⟨[(0, .c (.v tI))], []⟩
noncomputable def c65 : Con := ⟨i65, o65, fun v => laws_szMend v.1.1 v.1.2.1⟩
noncomputable def l65 : List (Nat × Con) := [(26, c26), (98, c98), (101, c101)]
noncomputable def C65 : Cfg := ⟨T, gam l65, hintOf []⟩
theorem e65 (ω : List Bool) (v : i65.V) : enterF C65 c65 Tryz.f65 (fun _ _ => none) ω v = laws_szMend v.1.1 v.1.2.1 := by kernel_rfl
theorem s65 : SoundC Tryz.prog 65 c65 := sound_by0 (l := l65) tOk mx Tryz.func65 ⟨s26, s98, s101, trivial⟩ (by kernel_rfl) (by kernel_rfl) e65

/-! laws_szMendS -/
abbrev i29 : Shp := ⟨[(0, .c (.sl false Y7)), (1, .c (.v tI))], []⟩
abbrev o29 : Shp := ⟨[(0, .c (.v tI))], []⟩
noncomputable def c29 : Con := ⟨i29, o29, fun v => laws_szMendS v.1.1 v.1.2.1⟩
noncomputable def l29 : List (Nat × Con) := [(65, c65)]
noncomputable def C29 : Cfg := ⟨T, gam l29, hintOf []⟩
abbrev h29_5 : Shp := ⟨[(0, .c (.sl false Y7)), (1, .c (.v tI)), (5, .c (.v tI))], []⟩
noncomputable def j29 (n ℓ : Nat) (σ : St) : Option o29.V := if ℓ = 5 then jump 0 h29_5 (fun v => laws_szMendS_L5 n v.1.1 v.1.2.1 v.1.2.2.1) σ else none
theorem q29_5 (n : Nat) (v : h29_5.V) (ω : List Bool) : loopF C29 c29 Tryz.f29 (j29 n) 5 ω (h29_5.st 27 v) = laws_szMendS_step5 (laws_szMendS_L5 n) v.1.1 v.1.2.1 v.1.2.2.1 := by kernel_rfl
theorem e29 (n : Nat) (ω : List Bool) (v : i29.V) : enterF C29 c29 Tryz.f29 (j29 n) ω v = laws_szMendS_entry (laws_szMendS_L5 n) v.1.1 v.1.2.1 := by kernel_rfl
theorem s29 : SoundC Tryz.prog 29 c29 := sound_by (l := l29) (J := j29) (L := [5]) tOk mx Tryz.func29 ⟨s65, trivial⟩ (by kernel_rfl) (by kernel_rfl)
  ⟨⟨h29_5, fun n v => laws_szMendS_L5 n v.1.1 v.1.2.1 v.1.2.2.1, fun _ => rfl, fun _ => rfl, q29_5⟩, trivial⟩ FUEL (e29 FUEL)

/-! laws_szEvent -/
abbrev i139 : Shp := ⟨[(0, .row Y8), (1, .c (.v tI))], []⟩
abbrev o139 : Shp := ⟨[(0, .c (.v tI))], []⟩
noncomputable def c139 : Con := ⟨i139, o139, fun v => laws_szEvent v.1.1 v.1.2.1⟩
noncomputable def l139 : List (Nat × Con) := []
noncomputable def C139 : Cfg := ⟨T, gam l139, hintOf []⟩
theorem e139 (ω : List Bool) (v : i139.V) : enterF C139 c139 Tryz.f139 (fun _ _ => none) ω v = laws_szEvent v.1.1 v.1.2.1 := by kernel_rfl
theorem s139 : SoundC Tryz.prog 139 c139 := sound_by0 (l := l139) tOk mx Tryz.func139 trivial (by kernel_rfl) (by kernel_rfl) e139

/-! laws_szEventS -/
abbrev i102 : Shp := ⟨[(0, .c (.sl false Y8)), (1, .c (.v tI))], []⟩
abbrev o102 : Shp := ⟨[(0, .c (.v tI))], []⟩
noncomputable def c102 : Con := ⟨i102, o102, fun v => laws_szEventS v.1.1 v.1.2.1⟩
noncomputable def l102 : List (Nat × Con) := [(139, c139)]
noncomputable def C102 : Cfg := ⟨T, gam l102, hintOf []⟩
abbrev h102_5 : Shp := ⟨[(0, .c (.sl false Y8)), (1, .c (.v tI)), (5, .c (.v tI))], []⟩
noncomputable def j102 (n ℓ : Nat) (σ : St) : Option o102.V := if ℓ = 5 then jump 0 h102_5 (fun v => laws_szEventS_L5 n v.1.1 v.1.2.1 v.1.2.2.1) σ else none
theorem q102_5 (n : Nat) (v : h102_5.V) (ω : List Bool) : loopF C102 c102 Tryz.f102 (j102 n) 5 ω (h102_5.st 27 v) = laws_szEventS_step5 (laws_szEventS_L5 n) v.1.1 v.1.2.1 v.1.2.2.1 := by kernel_rfl
theorem e102 (n : Nat) (ω : List Bool) (v : i102.V) : enterF C102 c102 Tryz.f102 (j102 n) ω v = laws_szEventS_entry (laws_szEventS_L5 n) v.1.1 v.1.2.1 := by kernel_rfl
theorem s102 : SoundC Tryz.prog 102 c102 := sound_by (l := l102) (J := j102) (L := [5]) tOk mx Tryz.func102 ⟨s139, trivial⟩ (by kernel_rfl) (by kernel_rfl)
  ⟨⟨h102_5, fun n v => laws_szEventS_L5 n v.1.1 v.1.2.1 v.1.2.2.1, fun _ => rfl, fun _ => rfl, q102_5⟩, trivial⟩ FUEL (e102 FUEL)

/-! laws_szReader -/
abbrev i66 : Shp := ⟨[(0, .row Y9), (1, .c (.v tI))], []⟩
abbrev o66 : Shp := ⟨[(0, .c (.v tI))], []⟩
noncomputable def c66 : Con := ⟨i66, o66, fun v => laws_szReader v.1.1 v.1.2.1⟩
noncomputable def l66 : List (Nat × Con) := [(102, c102)]
noncomputable def C66 : Cfg := ⟨T, gam l66, hintOf []⟩
theorem e66 (ω : List Bool) (v : i66.V) : enterF C66 c66 Tryz.f66 (fun _ _ => none) ω v = laws_szReader v.1.1 v.1.2.1 := by kernel_rfl
theorem s66 : SoundC Tryz.prog 66 c66 := sound_by0 (l := l66) tOk mx Tryz.func66 ⟨s102, trivial⟩ (by kernel_rfl) (by kernel_rfl) e66

/-! laws_szReaderS -/
abbrev i30 : Shp := ⟨[(0, .c (.sl false Y9)), (1, .c (.v tI))], []⟩
abbrev o30 : Shp := ⟨[(0, .c (.v tI))], []⟩
noncomputable def c30 : Con := ⟨i30, o30, fun v => laws_szReaderS v.1.1 v.1.2.1⟩
noncomputable def l30 : List (Nat × Con) := [(66, c66)]
noncomputable def C30 : Cfg := ⟨T, gam l30, hintOf []⟩
abbrev h30_5 : Shp := ⟨[(0, .c (.sl false Y9)), (1, .c (.v tI)), (5, .c (.v tI))], []⟩
noncomputable def j30 (n ℓ : Nat) (σ : St) : Option o30.V := if ℓ = 5 then jump 0 h30_5 (fun v => laws_szReaderS_L5 n v.1.1 v.1.2.1 v.1.2.2.1) σ else none
theorem q30_5 (n : Nat) (v : h30_5.V) (ω : List Bool) : loopF C30 c30 Tryz.f30 (j30 n) 5 ω (h30_5.st 27 v) = laws_szReaderS_step5 (laws_szReaderS_L5 n) v.1.1 v.1.2.1 v.1.2.2.1 := by kernel_rfl
theorem e30 (n : Nat) (ω : List Bool) (v : i30.V) : enterF C30 c30 Tryz.f30 (j30 n) ω v = laws_szReaderS_entry (laws_szReaderS_L5 n) v.1.1 v.1.2.1 := by kernel_rfl
theorem s30 : SoundC Tryz.prog 30 c30 := sound_by (l := l30) (J := j30) (L := [5]) tOk mx Tryz.func30 ⟨s66, trivial⟩ (by kernel_rfl) (by kernel_rfl)
  ⟨⟨h30_5, fun n v => laws_szReaderS_L5 n v.1.1 v.1.2.1 v.1.2.2.1, fun _ => rfl, fun _ => rfl, q30_5⟩, trivial⟩ FUEL (e30 FUEL)

/-! laws_szSent -/
abbrev i67 : Shp := ⟨[(0, .row Y10), (1, .c (.v tI))], []⟩
abbrev o67 : Shp := ⟨[(0, .c (.v tI))], []⟩
noncomputable def c67 : Con := ⟨i67, o67, fun v => laws_szSent v.1.1 v.1.2.1⟩
noncomputable def l67 : List (Nat × Con) := []
noncomputable def C67 : Cfg := ⟨T, gam l67, hintOf []⟩
theorem e67 (ω : List Bool) (v : i67.V) : enterF C67 c67 Tryz.f67 (fun _ _ => none) ω v = laws_szSent v.1.1 v.1.2.1 := by kernel_rfl
theorem s67 : SoundC Tryz.prog 67 c67 := sound_by0 (l := l67) tOk mx Tryz.func67 trivial (by kernel_rfl) (by kernel_rfl) e67

/-! laws_szSentS -/
abbrev i31 : Shp := ⟨[(0, .c (.sl false Y10)), (1, .c (.v tI))], []⟩
abbrev o31 : Shp := ⟨[(0, .c (.v tI))], []⟩
noncomputable def c31 : Con := ⟨i31, o31, fun v => laws_szSentS v.1.1 v.1.2.1⟩
noncomputable def l31 : List (Nat × Con) := [(67, c67)]
noncomputable def C31 : Cfg := ⟨T, gam l31, hintOf []⟩
abbrev h31_5 : Shp := ⟨[(0, .c (.sl false Y10)), (1, .c (.v tI)), (5, .c (.v tI))], []⟩
noncomputable def j31 (n ℓ : Nat) (σ : St) : Option o31.V := if ℓ = 5 then jump 0 h31_5 (fun v => laws_szSentS_L5 n v.1.1 v.1.2.1 v.1.2.2.1) σ else none
theorem q31_5 (n : Nat) (v : h31_5.V) (ω : List Bool) : loopF C31 c31 Tryz.f31 (j31 n) 5 ω (h31_5.st 27 v) = laws_szSentS_step5 (laws_szSentS_L5 n) v.1.1 v.1.2.1 v.1.2.2.1 := by kernel_rfl
theorem e31 (n : Nat) (ω : List Bool) (v : i31.V) : enterF C31 c31 Tryz.f31 (j31 n) ω v = laws_szSentS_entry (laws_szSentS_L5 n) v.1.1 v.1.2.1 := by kernel_rfl
theorem s31 : SoundC Tryz.prog 31 c31 := sound_by (l := l31) (J := j31) (L := [5]) tOk mx Tryz.func31 ⟨s67, trivial⟩ (by kernel_rfl) (by kernel_rfl)
  ⟨⟨h31_5, fun n v => laws_szSentS_L5 n v.1.1 v.1.2.1 v.1.2.2.1, fun _ => rfl, fun _ => rfl, q31_5⟩, trivial⟩ FUEL (e31 FUEL)

/-! laws_szWorld -/
abbrev i9 : Shp := ⟨[(0, .row Y11), (1, .c (.v tI))], []⟩
abbrev o9 : Shp := ⟨[(0, .c (.v tI))], []⟩
noncomputable def c9 : Con := ⟨i9, o9, fun v => laws_szWorld v.1.1 v.1.2.1⟩
noncomputable def l9 : List (Nat × Con) := [(24, c24), (25, c25), (26, c26), (27, c27), (28, c28), (29, c29), (30, c30), (31, c31)]
noncomputable def C9 : Cfg := ⟨T, gam l9, hintOf []⟩
theorem e9 (ω : List Bool) (v : i9.V) : enterF C9 c9 Tryz.f9 (fun _ _ => none) ω v = laws_szWorld v.1.1 v.1.2.1 := by kernel_rfl
theorem s9 : SoundC Tryz.prog 9 c9 := sound_by0 (l := l9) tOk mx Tryz.func9 ⟨s24, s25, s26, s27, s28, s29, s30, s31, trivial⟩ (by kernel_rfl) (by kernel_rfl) e9

/-! laws_toIntS -/
abbrev i35 : Shp := ⟨[(0, .c (.sl false tI))], []⟩
abbrev o35 : Shp := ⟨[(0, .c (.ref 0))], [.sl 9 tI]⟩
noncomputable def c35 : Con := ⟨i35, o35, fun v => laws_toIntS v.1.1⟩
noncomputable def l35 : List (Nat × Con) := []
noncomputable def C35 : Cfg := ⟨T, gam l35, hintOf []⟩
abbrev h35_3 : Shp := ⟨[(0, .c (.sl false tI)), (3, .c (.ref 0)), (4, .c (.v tI))], [.sl 9 tI]⟩
noncomputable def j35 (n ℓ : Nat) (σ : St) : Option o35.V := if ℓ = 3 then jump 0 h35_3 (fun v => laws_toIntS_L3 n v.1.1 v.1.2.2.1 v.2.1) σ else none
theorem q35_3 (n : Nat) (v : h35_3.V) (ω : List Bool) : loopF C35 c35 Tryz.f35 (j35 n) 3 ω (h35_3.st 22 v) = laws_toIntS_step3 (laws_toIntS_L3 n) v.1.1 v.1.2.2.1 v.2.1 := by kernel_rfl
theorem e35 (n : Nat) (ω : List Bool) (v : i35.V) : enterF C35 c35 Tryz.f35 (j35 n) ω v = laws_toIntS_entry (laws_toIntS_L3 n) v.1.1 := by kernel_rfl
theorem s35 : SoundC Tryz.prog 35 c35 := sound_by (l := l35) (J := j35) (L := [3]) tOk mx Tryz.func35 trivial (by kernel_rfl) (by kernel_rfl)
  ⟨⟨h35_3, fun n v => laws_toIntS_L3 n v.1.1 v.1.2.2.1 v.2.1, fun _ => rfl, fun _ => rfl, q35_3⟩, trivial⟩ FUEL (e35 FUEL)

/-! laws_toConfig -/
abbrev i33 : Shp := ⟨[(0, .row Y0)], []⟩
abbrev o33 : Shp := ⟨[(0, .agg [.ref 0, .v tI])], [.sl 9 tI]⟩
noncomputable def c33 : Con := ⟨i33, o33, fun v => laws_toConfig v.1.1⟩
noncomputable def l33 : List (Nat × Con) := [(35, c35)]
noncomputable def C33 : Cfg := ⟨T, gam l33, hintOf []⟩
theorem e33 (ω : List Bool) (v : i33.V) : enterF C33 c33 Tryz.f33 (fun _ _ => none) ω v = laws_toConfig v.1.1 := by kernel_rfl
theorem s33 : SoundC Tryz.prog 33 c33 := sound_by0 (l := l33) tOk mx Tryz.func33 ⟨s35, trivial⟩ (by kernel_rfl) (by kernel_rfl) e33

/-! laws_toEntry -/
abbrev i146 : Shp := ⟨[(0, .row Y1)], []⟩
abbrev o146 : Shp := ⟨[(0, .agg [.v tI, .v tI, .v .bool, .v .str])], []⟩
noncomputable def c146 : Con := ⟨i146, o146, fun v => laws_toEntry v.1.1⟩
noncomputable def l146 : List (Nat × Con) := []
noncomputable def C146 : Cfg := ⟨T, gam l146, hintOf []⟩
theorem e146 (ω : List Bool) (v : i146.V) : enterF C146 c146 Tryz.f146 (fun _ _ => none) ω v = laws_toEntry v.1.1 := by kernel_rfl
theorem s146 : SoundC Tryz.prog 146 c146 := sound_by0 (l := l146) tOk mx Tryz.func146 trivial (by kernel_rfl) (by kernel_rfl) e146

/-! laws_toEntryS -/
abbrev i115 : Shp := ⟨[(0, .c (.sl false Y1))], []⟩
abbrev o115 : Shp := ⟨[(0, .c (.ref 0))], [.sl 9 Y1]⟩
noncomputable def c115 : Con := ⟨i115, o115, fun v => laws_toEntryS v.1.1⟩
noncomputable def l115 : List (Nat × Con) := [(146, c146)]
noncomputable def C115 : Cfg := ⟨T, gam l115, hintOf []⟩
abbrev h115_3 : Shp := ⟨[(0, .c (.sl false Y1)), (3, .c (.ref 0)), (4, .c (.v tI))], [.sl 9 Y1]⟩
noncomputable def j115 (n ℓ : Nat) (σ : St) : Option o115.V := if ℓ = 3 then jump 0 h115_3 (fun v => laws_toEntryS_L3 n v.1.1 v.1.2.2.1 v.2.1) σ else none
theorem q115_3 (n : Nat) (v : h115_3.V) (ω : List Bool) : loopF C115 c115 Tryz.f115 (j115 n) 3 ω (h115_3.st 23 v) = laws_toEntryS_step3 (laws_toEntryS_L3 n) v.1.1 v.1.2.2.1 v.2.1 := by kernel_rfl
theorem e115 (n : Nat) (ω : List Bool) (v : i115.V) : enterF C115 c115 Tryz.f115 (j115 n) ω v = laws_toEntryS_entry (laws_toEntryS_L3 n) v.1.1 := by kernel_rfl
theorem s115 : SoundC Tryz.prog 115 c115 := sound_by (l := l115) (J := j115) (L := [3]) tOk mx Tryz.func115 ⟨s146, trivial⟩ (by kernel_rfl) (by kernel_rfl)
  ⟨⟨h115_3, fun n v => laws_toEntryS_L3 n v.1.1 v.1.2.2.1 v.2.1, fun _ => rfl, fun _ => rfl, q115_3⟩, trivial⟩ FUEL (e115 FUEL)

/-! laws_toStore -/
abbrev i72 : Shp := ⟨[(0, .row Y2)], []⟩
abbrev o72 : Shp := ⟨[(0, .agg [.ref 0, .ref 1, .v tI])], [.sl 9 Y1, .sl 9 Y1]⟩
noncomputable def c72 : Con := ⟨i72, o72, fun v => laws_toStore v.1.1⟩
noncomputable def l72 : List (Nat × Con) := [(115, c115)]
noncomputable def C72 : Cfg := ⟨T, gam l72, hintOf []⟩
theorem e72 (ω : List Bool) (v : i72.V) : enterF C72 c72 Tryz.f72 (fun _ _ => none) ω v = laws_toStore v.1.1 := by kernel_rfl
theorem s72 : SoundC Tryz.prog 72 c72 := sound_by0 (l := l72) tOk mx Tryz.func72 ⟨s115, trivial⟩ (by kernel_rfl) (by kernel_rfl) e72

/-! laws_toStoreS -/
abbrev i34 : Shp := ⟨[(0, .c (.sl false Y2))], []⟩
abbrev o34 : Shp := ⟨[(0, .c (.ref 0))], [.sl 9 Y2]⟩
noncomputable def c34 : Con := ⟨i34, o34, fun v => laws_toStoreS v.1.1⟩
noncomputable def l34 : List (Nat × Con) := [(72, c72)]
noncomputable def C34 : Cfg := ⟨T, gam l34, hintOf []⟩
abbrev h34_3 : Shp := ⟨[(0, .c (.sl false Y2)), (3, .c (.ref 0)), (4, .c (.v tI))], [.sl 9 Y2]⟩
noncomputable def j34 (n ℓ : Nat) (σ : St) : Option o34.V := if ℓ = 3 then jump 0 h34_3 (fun v => laws_toStoreS_L3 n v.1.1 v.1.2.2.1 v.2.1) σ else none
theorem q34_3 (n : Nat) (v : h34_3.V) (ω : List Bool) : loopF C34 c34 Tryz.f34 (j34 n) 3 ω (h34_3.st 23 v) = laws_toStoreS_step3 (laws_toStoreS_L3 n) v.1.1 v.1.2.2.1 v.2.1 := by kernel_rfl
theorem e34 (n : Nat) (ω : List Bool) (v : i34.V) : enterF C34 c34 Tryz.f34 (j34 n) ω v = laws_toStoreS_entry (laws_toStoreS_L3 n) v.1.1 := by kernel_rfl
theorem s34 : SoundC Tryz.prog 34 c34 := sound_by (l := l34) (J := j34) (L := [3]) tOk mx Tryz.func34 ⟨s72, trivial⟩ (by kernel_rfl) (by kernel_rfl)
  ⟨⟨h34_3, fun n v => laws_toStoreS_L3 n v.1.1 v.1.2.2.1 v.2.1, fun _ => rfl, fun _ => rfl, q34_3⟩, trivial⟩ FUEL (e34 FUEL)

/-! laws_toEra -/
abbrev i116 : Shp := ⟨[(0, .row Y3)], []⟩
abbrev o116 : Shp := ⟨[(0, .agg [.ref 0, .v .bool, .v tI])], [.sl 9 tI]⟩
noncomputable def c116 : Con := ⟨i116, o116, fun v => laws_toEra v.1.1⟩
noncomputable def l116 : List (Nat × Con) := [(35, c35)]
noncomputable def C116 : Cfg := ⟨T, gam l116, hintOf []⟩
theorem e116 (ω : List Bool) (v : i116.V) : enterF C116 c116 Tryz.f116 (fun _ _ => none) ω v = laws_toEra v.1.1 := by kernel_rfl
theorem s116 : SoundC Tryz.prog 116 c116 := sound_by0 (l := l116) tOk mx Tryz.func116 ⟨s35, trivial⟩ (by kernel_rfl) (by kernel_rfl) e116

/-! laws_toEraS -/
abbrev i73 : Shp := ⟨[(0, .c (.sl false Y3))], []⟩
abbrev o73 : Shp := ⟨[(0, .c (.ref 0))], [.sl 9 Y3]⟩
noncomputable def c73 : Con := ⟨i73, o73, fun v => laws_toEraS v.1.1⟩
noncomputable def l73 : List (Nat × Con) := [(116, c116)]
noncomputable def C73 : Cfg := ⟨T, gam l73, hintOf []⟩
abbrev h73_3 : Shp := ⟨[(0, .c (.sl false Y3)), (3, .c (.ref 0)), (4, .c (.v tI))], [.sl 9 Y3]⟩
noncomputable def j73 (n ℓ : Nat) (σ : St) : Option o73.V := if ℓ = 3 then jump 0 h73_3 (fun v => laws_toEraS_L3 n v.1.1 v.1.2.2.1 v.2.1) σ else none
theorem q73_3 (n : Nat) (v : h73_3.V) (ω : List Bool) : loopF C73 c73 Tryz.f73 (j73 n) 3 ω (h73_3.st 23 v) = laws_toEraS_step3 (laws_toEraS_L3 n) v.1.1 v.1.2.2.1 v.2.1 := by kernel_rfl
theorem e73 (n : Nat) (ω : List Bool) (v : i73.V) : enterF C73 c73 Tryz.f73 (j73 n) ω v = laws_toEraS_entry (laws_toEraS_L3 n) v.1.1 := by kernel_rfl
theorem s73 : SoundC Tryz.prog 73 c73 := sound_by (l := l73) (J := j73) (L := [3]) tOk mx Tryz.func73 ⟨s116, trivial⟩ (by kernel_rfl) (by kernel_rfl)
  ⟨⟨h73_3, fun n v => laws_toEraS_L3 n v.1.1 v.1.2.2.1 v.2.1, fun _ => rfl, fun _ => rfl, q73_3⟩, trivial⟩ FUEL (e73 FUEL)

/-! laws_toRegister -/
abbrev i36 : Shp := ⟨[(0, .row Y4)], []⟩
abbrev o36 : Shp := ⟨[(0, .agg [.ref 0, .v tI])], [.sl 9 Y3]⟩
noncomputable def c36 : Con := ⟨i36, o36, fun v => laws_toRegister v.1.1⟩
noncomputable def l36 : List (Nat × Con) := [(73, c73)]
noncomputable def C36 : Cfg := ⟨T, gam l36, hintOf []⟩
theorem e36 (ω : List Bool) (v : i36.V) : enterF C36 c36 Tryz.f36 (fun _ _ => none) ω v = laws_toRegister v.1.1 := by kernel_rfl
theorem s36 : SoundC Tryz.prog 36 c36 := sound_by0 (l := l36) tOk mx Tryz.func36 ⟨s73, trivial⟩ (by kernel_rfl) (by kernel_rfl) e36

/-! laws_toWord -/
abbrev i147 : Shp := ⟨[(0, .row Y5)], []⟩
abbrev o147 : Shp := ⟨[(0, .agg [.v .str, .ref 0, .v .bool])], [.sl 9 tI]⟩
noncomputable def c147 : Con := ⟨i147, o147, fun v => laws_toWord v.1.1⟩
noncomputable def l147 : List (Nat × Con) := [(35, c35)]
noncomputable def C147 : Cfg := ⟨T, gam l147, hintOf []⟩
theorem e147 (ω : List Bool) (v : i147.V) : enterF C147 c147 Tryz.f147 (fun _ _ => none) ω v = laws_toWord v.1.1 := by kernel_rfl
theorem s147 : SoundC Tryz.prog 147 c147 := sound_by0 (l := l147) tOk mx Tryz.func147 ⟨s35, trivial⟩ (by kernel_rfl) (by kernel_rfl) e147

/-! laws_toWordS -/
abbrev i117 : Shp := ⟨[(0, .c (.sl false Y5))], []⟩
abbrev o117 : Shp := ⟨[(0, .c (.ref 0))], [.sl 9 Y5]⟩
noncomputable def c117 : Con := ⟨i117, o117, fun v => laws_toWordS v.1.1⟩
noncomputable def l117 : List (Nat × Con) := [(147, c147)]
noncomputable def C117 : Cfg := ⟨T, gam l117, hintOf []⟩
abbrev h117_3 : Shp := ⟨[(0, .c (.sl false Y5)), (3, .c (.ref 0)), (4, .c (.v tI))], [.sl 9 Y5]⟩
noncomputable def j117 (n ℓ : Nat) (σ : St) : Option o117.V := if ℓ = 3 then jump 0 h117_3 (fun v => laws_toWordS_L3 n v.1.1 v.1.2.2.1 v.2.1) σ else none
theorem q117_3 (n : Nat) (v : h117_3.V) (ω : List Bool) : loopF C117 c117 Tryz.f117 (j117 n) 3 ω (h117_3.st 23 v) = laws_toWordS_step3 (laws_toWordS_L3 n) v.1.1 v.1.2.2.1 v.2.1 := by kernel_rfl
theorem e117 (n : Nat) (ω : List Bool) (v : i117.V) : enterF C117 c117 Tryz.f117 (j117 n) ω v = laws_toWordS_entry (laws_toWordS_L3 n) v.1.1 := by kernel_rfl
theorem s117 : SoundC Tryz.prog 117 c117 := sound_by (l := l117) (J := j117) (L := [3]) tOk mx Tryz.func117 ⟨s147, trivial⟩ (by kernel_rfl) (by kernel_rfl)
  ⟨⟨h117_3, fun n v => laws_toWordS_L3 n v.1.1 v.1.2.2.1 v.2.1, fun _ => rfl, fun _ => rfl, q117_3⟩, trivial⟩ FUEL (e117 FUEL)

/-! laws_toWriter -/
abbrev i74 : Shp := ⟨[(0, .row Y6)], []⟩
abbrev o74 : Shp := ⟨[(0, .agg [.v tI, .ref 0])], [.sl 9 Y5]⟩
noncomputable def c74 : Con := ⟨i74, o74, fun v => laws_toWriter v.1.1⟩
noncomputable def l74 : List (Nat × Con) := [(117, c117)]
noncomputable def C74 : Cfg := ⟨T, gam l74, hintOf []⟩
theorem e74 (ω : List Bool) (v : i74.V) : enterF C74 c74 Tryz.f74 (fun _ _ => none) ω v = laws_toWriter v.1.1 := by kernel_rfl
theorem s74 : SoundC Tryz.prog 74 c74 := sound_by0 (l := l74) tOk mx Tryz.func74 ⟨s117, trivial⟩ (by kernel_rfl) (by kernel_rfl) e74

/-! laws_toWriterS -/
abbrev i37 : Shp := ⟨[(0, .c (.sl false Y6))], []⟩
abbrev o37 : Shp := ⟨[(0, .c (.ref 0))], [.sl 9 Y6]⟩
noncomputable def c37 : Con := ⟨i37, o37, fun v => laws_toWriterS v.1.1⟩
noncomputable def l37 : List (Nat × Con) := [(74, c74)]
noncomputable def C37 : Cfg := ⟨T, gam l37, hintOf []⟩
abbrev h37_3 : Shp := ⟨[(0, .c (.sl false Y6)), (3, .c (.ref 0)), (4, .c (.v tI))], [.sl 9 Y6]⟩
noncomputable def j37 (n ℓ : Nat) (σ : St) : Option o37.V := if ℓ = 3 then jump 0 h37_3 (fun v => laws_toWriterS_L3 n v.1.1 v.1.2.2.1 v.2.1) σ else none
theorem q37_3 (n : Nat) (v : h37_3.V) (ω : List Bool) : loopF C37 c37 Tryz.f37 (j37 n) 3 ω (h37_3.st 23 v) = laws_toWriterS_step3 (laws_toWriterS_L3 n) v.1.1 v.1.2.2.1 v.2.1 := by kernel_rfl
theorem e37 (n : Nat) (ω : List Bool) (v : i37.V) : enterF C37 c37 Tryz.f37 (j37 n) ω v = laws_toWriterS_entry (laws_toWriterS_L3 n) v.1.1 := by kernel_rfl
theorem s37 : SoundC Tryz.prog 37 c37 := sound_by (l := l37) (J := j37) (L := [3]) tOk mx Tryz.func37 ⟨s74, trivial⟩ (by kernel_rfl) (by kernel_rfl)
  ⟨⟨h37_3, fun n v => laws_toWriterS_L3 n v.1.1 v.1.2.2.1 v.2.1, fun _ => rfl, fun _ => rfl, q37_3⟩, trivial⟩ FUEL (e37 FUEL)

/-! laws_toIntSS -/
abbrev i118 : Shp := ⟨[(0, .c (.sl false (.sl tI)))], []⟩
abbrev o118 : Shp := ⟨[(0, .c (.ref 0))], [.sl 9 (.sl tI)]⟩
noncomputable def c118 : Con := ⟨i118, o118, fun v => laws_toIntSS v.1.1⟩
noncomputable def l118 : List (Nat × Con) := [(35, c35)]
noncomputable def C118 : Cfg := ⟨T, gam l118, hintOf []⟩
abbrev h118_3 : Shp := ⟨[(0, .c (.sl false (.sl tI))), (3, .c (.ref 0)), (4, .c (.v tI))], [.sl 9 (.sl tI)]⟩
noncomputable def j118 (n ℓ : Nat) (σ : St) : Option o118.V := if ℓ = 3 then jump 0 h118_3 (fun v => laws_toIntSS_L3 n v.1.1 v.1.2.2.1 v.2.1) σ else none
theorem q118_3 (n : Nat) (v : h118_3.V) (ω : List Bool) : loopF C118 c118 Tryz.f118 (j118 n) 3 ω (h118_3.st 23 v) = laws_toIntSS_step3 (laws_toIntSS_L3 n) v.1.1 v.1.2.2.1 v.2.1 := by kernel_rfl
theorem e118 (n : Nat) (ω : List Bool) (v : i118.V) : enterF C118 c118 Tryz.f118 (j118 n) ω v = laws_toIntSS_entry (laws_toIntSS_L3 n) v.1.1 := by kernel_rfl
theorem s118 : SoundC Tryz.prog 118 c118 := sound_by (l := l118) (J := j118) (L := [3]) tOk mx Tryz.func118 ⟨s35, trivial⟩ (by kernel_rfl) (by kernel_rfl)
  ⟨⟨h118_3, fun n v => laws_toIntSS_L3 n v.1.1 v.1.2.2.1 v.2.1, fun _ => rfl, fun _ => rfl, q118_3⟩, trivial⟩ FUEL (e118 FUEL)

/-! laws_toMend -/
abbrev i75 : Shp := ⟨[(0, .row Y7)], []⟩
abbrev o75 : Shp := ⟨[(0, .agg [.v tI, .v tI, .ref 0, .ref 1, .v .bool, .ref 2])], [.sl 9 tI, .sl 9 Y1, .sl 9 (.sl tI)]⟩
noncomputable def c75 : Con := ⟨i75, o75, fun v => laws_toMend v.1.1⟩
noncomputable def l75 : List (Nat × Con) := [(35, c35), (115, c115), (118, c118)]
noncomputable def C75 : Cfg := ⟨T, gam l75, hintOf []⟩
theorem e75 (ω : List Bool) (v : i75.V) : enterF C75 c75 Tryz.f75 (fun _ _ => none) ω v = laws_toMend v.1.1 := by kernel_rfl
theorem s75 : SoundC Tryz.prog 75 c75 := sound_by0 (l := l75) tOk mx Tryz.func75 ⟨s35, s115, s118, trivial⟩ (by kernel_rfl) (by kernel_rfl) e75

/-! laws_toMendS -/
abbrev i38 : Shp := ⟨[(0, .c (.sl false Y7))], []⟩
abbrev o38 : Shp := ⟨[(0, .c (.ref 0))], [.sl 9 Y7]⟩
noncomputable def c38 : Con := ⟨i38, o38, fun v => laws_toMendS v.1.1⟩
noncomputable def l38 : List (Nat × Con) := [(75, c75)]
noncomputable def C38 : Cfg := ⟨T, gam l38, hintOf []⟩
abbrev h38_3 : Shp := ⟨[(0, .c (.sl false Y7)), (3, .c (.ref 0)), (4, .c (.v tI))], [.sl 9 Y7]⟩
noncomputable def j38 (n ℓ : Nat) (σ : St) : Option o38.V := if ℓ = 3 then jump 0 h38_3 (fun v => laws_toMendS_L3 n v.1.1 v.1.2.2.1 v.2.1) σ else none
theorem q38_3 (n : Nat) (v : h38_3.V) (ω : List Bool) : loopF C38 c38 Tryz.f38 (j38 n) 3 ω (h38_3.st 23 v) = laws_toMendS_step3 (laws_toMendS_L3 n) v.1.1 v.1.2.2.1 v.2.1 := by kernel_rfl
theorem e38 (n : Nat) (ω : List Bool) (v : i38.V) : enterF C38 c38 Tryz.f38 (j38 n) ω v = laws_toMendS_entry (laws_toMendS_L3 n) v.1.1 := by kernel_rfl
theorem s38 : SoundC Tryz.prog 38 c38 := sound_by (l := l38) (J := j38) (L := [3]) tOk mx Tryz.func38 ⟨s75, trivial⟩ (by kernel_rfl) (by kernel_rfl)
  ⟨⟨h38_3, fun n v => laws_toMendS_L3 n v.1.1 v.1.2.2.1 v.2.1, fun _ => rfl, fun _ => rfl, q38_3⟩, trivial⟩ FUEL (e38 FUEL)

/-! laws_toEvent -/
abbrev i148 : Shp := ⟨[(0, .row Y8)], []⟩
abbrev o148 : Shp := ⟨[(0, .agg [.v tI, .v tI, .v .str])], []⟩
noncomputable def c148 : Con := ⟨i148, o148, fun v => laws_toEvent v.1.1⟩
noncomputable def l148 : List (Nat × Con) := []
noncomputable def C148 : Cfg := ⟨T, gam l148, hintOf []⟩
theorem e148 (ω : List Bool) (v : i148.V) : enterF C148 c148 Tryz.f148 (fun _ _ => none) ω v = laws_toEvent v.1.1 := by kernel_rfl
theorem s148 : SoundC Tryz.prog 148 c148 := sound_by0 (l := l148) tOk mx Tryz.func148 trivial (by kernel_rfl) (by kernel_rfl) e148

/-! laws_toEventS -/
abbrev i119 : Shp := ⟨[(0, .c (.sl false Y8))], []⟩
abbrev o119 : Shp := ⟨[(0, .c (.ref 0))], [.sl 9 Y8]⟩
noncomputable def c119 : Con := ⟨i119, o119, fun v => laws_toEventS v.1.1⟩
noncomputable def l119 : List (Nat × Con) := [(148, c148)]
noncomputable def C119 : Cfg := ⟨T, gam l119, hintOf []⟩
abbrev h119_3 : Shp := ⟨[(0, .c (.sl false Y8)), (3, .c (.ref 0)), (4, .c (.v tI))], [.sl 9 Y8]⟩
noncomputable def j119 (n ℓ : Nat) (σ : St) : Option o119.V := if ℓ = 3 then jump 0 h119_3 (fun v => laws_toEventS_L3 n v.1.1 v.1.2.2.1 v.2.1) σ else none
theorem q119_3 (n : Nat) (v : h119_3.V) (ω : List Bool) : loopF C119 c119 Tryz.f119 (j119 n) 3 ω (h119_3.st 23 v) = laws_toEventS_step3 (laws_toEventS_L3 n) v.1.1 v.1.2.2.1 v.2.1 := by kernel_rfl
theorem e119 (n : Nat) (ω : List Bool) (v : i119.V) : enterF C119 c119 Tryz.f119 (j119 n) ω v = laws_toEventS_entry (laws_toEventS_L3 n) v.1.1 := by kernel_rfl
theorem s119 : SoundC Tryz.prog 119 c119 := sound_by (l := l119) (J := j119) (L := [3]) tOk mx Tryz.func119 ⟨s148, trivial⟩ (by kernel_rfl) (by kernel_rfl)
  ⟨⟨h119_3, fun n v => laws_toEventS_L3 n v.1.1 v.1.2.2.1 v.2.1, fun _ => rfl, fun _ => rfl, q119_3⟩, trivial⟩ FUEL (e119 FUEL)

/-! laws_toReader -/
abbrev i76 : Shp := ⟨[(0, .row Y9)], []⟩
abbrev o76 : Shp := ⟨[(0, .agg [.v tI, .v tI, .ref 0])], [.sl 9 Y8]⟩
noncomputable def c76 : Con := ⟨i76, o76, fun v => laws_toReader v.1.1⟩
noncomputable def l76 : List (Nat × Con) := [(119, c119)]
noncomputable def C76 : Cfg := ⟨T, gam l76, hintOf []⟩
theorem e76 (ω : List Bool) (v : i76.V) : enterF C76 c76 Tryz.f76 (fun _ _ => none) ω v = laws_toReader v.1.1 := by kernel_rfl
theorem s76 : SoundC Tryz.prog 76 c76 := sound_by0 (l := l76) tOk mx Tryz.func76 ⟨s119, trivial⟩ (by kernel_rfl) (by kernel_rfl) e76

/-! laws_toReaderS -/
abbrev i39 : Shp := ⟨[(0, .c (.sl false Y9))], []⟩
abbrev o39 : Shp := ⟨[(0, .c (.ref 0))], [.sl 9 Y9]⟩
noncomputable def c39 : Con := ⟨i39, o39, fun v => laws_toReaderS v.1.1⟩
noncomputable def l39 : List (Nat × Con) := [(76, c76)]
noncomputable def C39 : Cfg := ⟨T, gam l39, hintOf []⟩
abbrev h39_3 : Shp := ⟨[(0, .c (.sl false Y9)), (3, .c (.ref 0)), (4, .c (.v tI))], [.sl 9 Y9]⟩
noncomputable def j39 (n ℓ : Nat) (σ : St) : Option o39.V := if ℓ = 3 then jump 0 h39_3 (fun v => laws_toReaderS_L3 n v.1.1 v.1.2.2.1 v.2.1) σ else none
theorem q39_3 (n : Nat) (v : h39_3.V) (ω : List Bool) : loopF C39 c39 Tryz.f39 (j39 n) 3 ω (h39_3.st 23 v) = laws_toReaderS_step3 (laws_toReaderS_L3 n) v.1.1 v.1.2.2.1 v.2.1 := by kernel_rfl
theorem e39 (n : Nat) (ω : List Bool) (v : i39.V) : enterF C39 c39 Tryz.f39 (j39 n) ω v = laws_toReaderS_entry (laws_toReaderS_L3 n) v.1.1 := by kernel_rfl
theorem s39 : SoundC Tryz.prog 39 c39 := sound_by (l := l39) (J := j39) (L := [3]) tOk mx Tryz.func39 ⟨s76, trivial⟩ (by kernel_rfl) (by kernel_rfl)
  ⟨⟨h39_3, fun n v => laws_toReaderS_L3 n v.1.1 v.1.2.2.1 v.2.1, fun _ => rfl, fun _ => rfl, q39_3⟩, trivial⟩ FUEL (e39 FUEL)

/-! laws_toSent -/
abbrev i77 : Shp := ⟨[(0, .row Y10)], []⟩
abbrev o77 : Shp := ⟨[(0, .agg [.v tI, .v .str, .v .bool])], []⟩
noncomputable def c77 : Con := ⟨i77, o77, fun v => laws_toSent v.1.1⟩
noncomputable def l77 : List (Nat × Con) := []
noncomputable def C77 : Cfg := ⟨T, gam l77, hintOf []⟩
theorem e77 (ω : List Bool) (v : i77.V) : enterF C77 c77 Tryz.f77 (fun _ _ => none) ω v = laws_toSent v.1.1 := by kernel_rfl
theorem s77 : SoundC Tryz.prog 77 c77 := sound_by0 (l := l77) tOk mx Tryz.func77 trivial (by kernel_rfl) (by kernel_rfl) e77

/-! laws_toSentS -/
abbrev i40 : Shp := ⟨[(0, .c (.sl false Y10))], []⟩
abbrev o40 : Shp := ⟨[(0, .c (.ref 0))], [.sl 9 Y10]⟩
noncomputable def c40 : Con := ⟨i40, o40, fun v => laws_toSentS v.1.1⟩
noncomputable def l40 : List (Nat × Con) := [(77, c77)]
noncomputable def C40 : Cfg := ⟨T, gam l40, hintOf []⟩
abbrev h40_3 : Shp := ⟨[(0, .c (.sl false Y10)), (3, .c (.ref 0)), (4, .c (.v tI))], [.sl 9 Y10]⟩
noncomputable def j40 (n ℓ : Nat) (σ : St) : Option o40.V := if ℓ = 3 then jump 0 h40_3 (fun v => laws_toSentS_L3 n v.1.1 v.1.2.2.1 v.2.1) σ else none
theorem q40_3 (n : Nat) (v : h40_3.V) (ω : List Bool) : loopF C40 c40 Tryz.f40 (j40 n) 3 ω (h40_3.st 23 v) = laws_toSentS_step3 (laws_toSentS_L3 n) v.1.1 v.1.2.2.1 v.2.1 := by kernel_rfl
theorem e40 (n : Nat) (ω : List Bool) (v : i40.V) : enterF C40 c40 Tryz.f40 (j40 n) ω v = laws_toSentS_entry (laws_toSentS_L3 n) v.1.1 := by kernel_rfl
theorem s40 : SoundC Tryz.prog 40 c40 := sound_by (l := l40) (J := j40) (L := [3]) tOk mx Tryz.func40 ⟨s77, trivial⟩ (by kernel_rfl) (by kernel_rfl)
  ⟨⟨h40_3, fun n v => laws_toSentS_L3 n v.1.1 v.1.2.2.1 v.2.1, fun _ => rfl, fun _ => rfl, q40_3⟩, trivial⟩ FUEL (e40 FUEL)

/-! laws_toWorld -/
abbrev i11 : Shp := ⟨[(0, .row Y11)], []⟩
abbrev o11 : Shp := ⟨[(0, .agg [.ref 0, .v tI, .ref 1, .ref 2, .ref 3, .v tI, .ref 4, .ref 5, .ref 6, .ref 7, .v .bool])], [.sl 9 tI, .sl 9 Y2, .sl 9 tI, .sl 9 Y3, .sl 9 Y6, .sl 9 Y7, .sl 9 Y9, .sl 9 Y10]⟩
noncomputable def c11 : Con := ⟨i11, o11, fun v => laws_toWorld v.1.1⟩
noncomputable def l11 : List (Nat × Con) := [(33, c33), (34, c34), (35, c35), (36, c36), (37, c37), (38, c38), (39, c39), (40, c40)]
noncomputable def C11 : Cfg := ⟨T, gam l11, hintOf []⟩
theorem e11 (ω : List Bool) (v : i11.V) : enterF C11 c11 Tryz.f11 (fun _ _ => none) ω v = laws_toWorld v.1.1 := by kernel_rfl
theorem s11 : SoundC Tryz.prog 11 c11 := sound_by0 (l := l11) tOk mx Tryz.func11 ⟨s33, s34, s35, s36, s37, s38, s39, s40, trivial⟩ (by kernel_rfl) (by kernel_rfl) e11

/-! spec_l1In -/
abbrev i113 : Shp := ⟨[(0, .c (.v tI)), (1, .c (.v tI)), (2, .c (.v tI))], []⟩
abbrev o113 : Shp := ⟨[(0, .c (.v .bool))], []⟩
noncomputable def c113 : Con := ⟨i113, o113, fun v => spec_l1In v.1.1 v.1.2.1 v.1.2.2.1⟩
noncomputable def l113 : List (Nat × Con) := []
noncomputable def C113 : Cfg := ⟨T, gam l113, hintOf []⟩
theorem e113 (ω : List Bool) (v : i113.V) : enterF C113 c113 Tryz.f113 (fun _ _ => none) ω v = spec_l1In v.1.1 v.1.2.1 v.1.2.2.1 := by kernel_rfl
theorem s113 : SoundC Tryz.prog 113 c113 := sound_by0 (l := l113) tOk mx Tryz.func113 trivial (by kernel_rfl) (by kernel_rfl) e113

/-! spec_ConfigOk -/
abbrev i103 : Shp := ⟨[(0, .row Y0)], []⟩
abbrev o103 : Shp := ⟨[(0, .c (.v .bool))], []⟩
noncomputable def c103 : Con := ⟨i103, o103, fun v => spec_ConfigOk v.1.1⟩
noncomputable def l103 : List (Nat × Con) := [(113, c113)]
noncomputable def C103 : Cfg := ⟨T, gam l103, hintOf []⟩
abbrev h103_4 : Shp := ⟨[(1, .c (.ptr 0 0)), (3, .c (.v tI))], [.mem [.sl false tI, .v tI]]⟩
noncomputable def j103 (n ℓ : Nat) (σ : St) : Option o103.V := if ℓ = 4 then jump 0 h103_4 (fun v => spec_ConfigOk_L4 n v.1.2.1 v.2.1.1 v.2.1.2.1) σ else none
theorem q103_4 (n : Nat) (v : h103_4.V) (ω : List Bool) : loopF C103 c103 Tryz.f103 (j103 n) 4 ω (h103_4.st 29 v) = spec_ConfigOk_step4 (spec_ConfigOk_L4 n) v.1.2.1 v.2.1.1 v.2.1.2.1 := by kernel_rfl
theorem e103 (n : Nat) (ω : List Bool) (v : i103.V) : enterF C103 c103 Tryz.f103 (j103 n) ω v = spec_ConfigOk_entry (spec_ConfigOk_L4 n) v.1.1 := by kernel_rfl
theorem s103 : SoundC Tryz.prog 103 c103 := sound_by (l := l103) (J := j103) (L := [4]) tOk mx Tryz.func103 ⟨s113, trivial⟩ (by kernel_rfl) (by kernel_rfl)
  ⟨⟨h103_4, fun n v => spec_ConfigOk_L4 n v.1.2.1 v.2.1.1 v.2.1.2.1, fun _ => rfl, fun _ => rfl, q103_4⟩, trivial⟩ FUEL (e103 FUEL)

/-! spec_l4Asc -/
abbrev i140 : Shp := ⟨[(0, .c (.sl false tI)), (1, .c (.v tI)), (2, .c (.v tI))], []⟩
abbrev o140 : Shp := ⟨[(0, .c (.v .bool))], []⟩
noncomputable def c140 : Con := ⟨i140, o140, fun v => spec_l4Asc v.1.1 v.1.2.1 v.1.2.2.1⟩
noncomputable def l140 : List (Nat × Con) := [(113, c113)]
noncomputable def C140 : Cfg := ⟨T, gam l140, hintOf []⟩
abbrev h140_2 : Shp := ⟨[(0, .c (.sl false tI)), (1, .c (.v tI)), (2, .c (.v tI)), (7, .c (.v tI))], []⟩
noncomputable def j140 (n ℓ : Nat) (σ : St) : Option o140.V := if ℓ = 2 then jump 0 h140_2 (fun v => spec_l4Asc_L2 n v.1.1 v.1.2.1 v.1.2.2.1 v.1.2.2.2.1) σ else none
theorem q140_2 (n : Nat) (v : h140_2.V) (ω : List Bool) : loopF C140 c140 Tryz.f140 (j140 n) 2 ω (h140_2.st 38 v) = spec_l4Asc_step2 (spec_l4Asc_L2 n) v.1.1 v.1.2.1 v.1.2.2.1 v.1.2.2.2.1 := by kernel_rfl
theorem e140 (n : Nat) (ω : List Bool) (v : i140.V) : enterF C140 c140 Tryz.f140 (j140 n) ω v = spec_l4Asc_entry (spec_l4Asc_L2 n) v.1.1 v.1.2.1 v.1.2.2.1 := by kernel_rfl
theorem s140 : SoundC Tryz.prog 140 c140 := sound_by (l := l140) (J := j140) (L := [2]) tOk mx Tryz.func140 ⟨s113, trivial⟩ (by kernel_rfl) (by kernel_rfl)
  ⟨⟨h140_2, fun n v => spec_l4Asc_L2 n v.1.1 v.1.2.1 v.1.2.2.1 v.1.2.2.2.1, fun _ => rfl, fun _ => rfl, q140_2⟩, trivial⟩ FUEL (e140 FUEL)

/-! spec_NodesOk -/
abbrev i104 : Shp := ⟨[(0, .row Y0), (1, .c (.sl false tI))], []⟩
abbrev o104 : Shp := ⟨[(0, .c (.v .bool))], []⟩
noncomputable def c104 : Con := ⟨i104, o104, fun v => spec_NodesOk v.1.1 v.1.2.1⟩
noncomputable def l104 : List (Nat × Con) := [(103, c103), (140, c140)]
noncomputable def C104 : Cfg := ⟨T, gam l104, hintOf []⟩
theorem e104 (ω : List Bool) (v : i104.V) : enterF C104 c104 Tryz.f104 (fun _ _ => none) ω v = spec_NodesOk v.1.1 v.1.2.1 := by kernel_rfl
theorem s104 : SoundC Tryz.prog 104 c104 := sound_by0 (l := l104) tOk mx Tryz.func104 ⟨s103, s140, trivial⟩ (by kernel_rfl) (by kernel_rfl) e104

/-! spec_l4Span -/
abbrev i141 : Shp := ⟨[(0, .row Y0), (1, .c (.sl false tI))], []⟩
abbrev o141 : Shp := ⟨[(0, .c (.v tI))], []⟩
noncomputable def c141 : Con := ⟨i141, o141, fun v => spec_l4Span v.1.1 v.1.2.1⟩
noncomputable def l141 : List (Nat × Con) := []
noncomputable def C141 : Cfg := ⟨T, gam l141, hintOf [(6, [0, 1])]⟩
abbrev h141_4 : Shp := ⟨[(1, .c (.sl false tI)), (2, .c (.ptr 0 0)), (5, .c (.ref 1)), (6, .c (.v tI)), (7, .c (.v tI))], [.mem [.sl false tI, .v tI], .sl 9 .bool]⟩
noncomputable def j141 (n ℓ : Nat) (σ : St) : Option o141.V := if ℓ = 4 then jump 0 h141_4 (fun v => spec_l4Span_L4 n v.1.1 v.1.2.2.2.1 v.1.2.2.2.2.1 v.2.1.1 v.2.1.2.1 v.2.2.1) σ else none
theorem q141_4 (n : Nat) (v : h141_4.V) (ω : List Bool) : loopF C141 c141 Tryz.f141 (j141 n) 4 ω (h141_4.st 35 v) = spec_l4Span_step4 (spec_l4Span_L4 n) v.1.1 v.1.2.2.2.1 v.1.2.2.2.2.1 v.2.1.1 v.2.1.2.1 v.2.2.1 := by kernel_rfl
theorem e141 (n : Nat) (ω : List Bool) (v : i141.V) : enterF C141 c141 Tryz.f141 (j141 n) ω v = spec_l4Span_entry (spec_l4Span_L4 n) v.1.1 v.1.2.1 := by kernel_rfl
theorem s141 : SoundC Tryz.prog 141 c141 := sound_by (l := l141) (J := j141) (L := [4]) tOk mx Tryz.func141 trivial (by kernel_rfl) (by kernel_rfl)
  ⟨⟨h141_4, fun n v => spec_l4Span_L4 n v.1.1 v.1.2.2.2.1 v.1.2.2.2.2.1 v.2.1.1 v.2.1.2.1 v.2.2.1, fun _ => rfl, fun _ => rfl, q141_4⟩, trivial⟩ FUEL (e141 FUEL)

/-! spec_Holds -/
abbrev i105 : Shp := ⟨[(0, .row Y0), (1, .c (.sl false tI))], []⟩
abbrev o105 : Shp := ⟨[(0, .c (.v .bool))], []⟩
noncomputable def c105 : Con := ⟨i105, o105, fun v => spec_Holds v.1.1 v.1.2.1⟩
noncomputable def l105 : List (Nat × Con) := [(104, c104), (141, c141)]
noncomputable def C105 : Cfg := ⟨T, gam l105, hintOf [(1, [0])]⟩
theorem e105 (ω : List Bool) (v : i105.V) : enterF C105 c105 Tryz.f105 (fun _ _ => none) ω v = spec_Holds v.1.1 v.1.2.1 := by kernel_rfl
theorem s105 : SoundC Tryz.prog 105 c105 := sound_by0 (l := l105) tOk mx Tryz.func105 ⟨s104, s141, trivial⟩ (by kernel_rfl) (by kernel_rfl) e105

/-! spec_PlaceOk -/
abbrev i95 : Shp := ⟨[(0, .c (.v tI))], []⟩
abbrev o95 : Shp := ⟨[(0, .c (.v .bool))], []⟩
noncomputable def c95 : Con := ⟨i95, o95, fun v => spec_PlaceOk v.1.1⟩
noncomputable def l95 : List (Nat × Con) := [(113, c113)]
noncomputable def C95 : Cfg := ⟨T, gam l95, hintOf []⟩
theorem e95 (ω : List Bool) (v : i95.V) : enterF C95 c95 Tryz.f95 (fun _ _ => none) ω v = spec_PlaceOk v.1.1 := by kernel_rfl
theorem s95 : SoundC Tryz.prog 95 c95 := sound_by0 (l := l95) tOk mx Tryz.func95 ⟨s113, trivial⟩ (by kernel_rfl) (by kernel_rfl) e95

/-! spec_EpochOf -/
abbrev i114 : Shp := ⟨[(0, .c (.v tI))], []⟩
abbrev o114 : Shp := ⟨[(0, .c (.v tI))], []⟩
noncomputable def c114 : Con := ⟨i114, o114, fun v => spec_EpochOf v.1.1⟩
noncomputable def l114 : List (Nat × Con) := [(95, c95)]
noncomputable def C114 : Cfg := ⟨T, gam l114, hintOf []⟩
theorem e114 (ω : List Bool) (v : i114.V) : enterF C114 c114 Tryz.f114 (fun _ _ => none) ω v = spec_EpochOf v.1.1 := by kernel_rfl
theorem s114 : SoundC Tryz.prog 114 c114 := sound_by0 (l := l114) tOk mx Tryz.func114 ⟨s95, trivial⟩ (by kernel_rfl) (by kernel_rfl) e114

/-! spec_EntryOk -/
abbrev i144 : Shp := ⟨[(0, .row Y1)], []⟩
abbrev o144 : Shp := ⟨[(0, .c (.v .bool))], []⟩
noncomputable def c144 : Con := ⟨i144, o144, fun v => spec_EntryOk v.1.1⟩
noncomputable def l144 : List (Nat × Con) := [(95, c95), (113, c113), (114, c114)]
noncomputable def C144 : Cfg := ⟨T, gam l144, hintOf [(1, [0])]⟩
theorem e144 (ω : List Bool) (v : i144.V) : enterF C144 c144 Tryz.f144 (fun _ _ => none) ω v = spec_EntryOk v.1.1 := by kernel_rfl
theorem s144 : SoundC Tryz.prog 144 c144 := sound_by0 (l := l144) tOk mx Tryz.func144 ⟨s95, s113, s114, trivial⟩ (by kernel_rfl) (by kernel_rfl) e144

/-! spec_l6List -/
abbrev i142 : Shp := ⟨[(0, .c (.sl false Y1)), (1, .c (.v tI))], []⟩
abbrev o142 : Shp := ⟨[(0, .c (.v .bool))], []⟩
noncomputable def c142 : Con := ⟨i142, o142, fun v => spec_l6List v.1.1 v.1.2.1⟩
noncomputable def l142 : List (Nat × Con) := [(144, c144)]
noncomputable def C142 : Cfg := ⟨T, gam l142, hintOf []⟩
abbrev h142_4 : Shp := ⟨[(0, .c (.sl false Y1)), (5, .c (.v tI))], []⟩
noncomputable def j142 (n ℓ : Nat) (σ : St) : Option o142.V := if ℓ = 4 then jump 0 h142_4 (fun v => spec_l6List_L4 n v.1.1 v.1.2.1) σ else none
theorem q142_4 (n : Nat) (v : h142_4.V) (ω : List Bool) : loopF C142 c142 Tryz.f142 (j142 n) 4 ω (h142_4.st 22 v) = spec_l6List_step4 (spec_l6List_L4 n) v.1.1 v.1.2.1 := by kernel_rfl
theorem e142 (n : Nat) (ω : List Bool) (v : i142.V) : enterF C142 c142 Tryz.f142 (j142 n) ω v = spec_l6List_entry (spec_l6List_L4 n) v.1.1 v.1.2.1 := by kernel_rfl
theorem s142 : SoundC Tryz.prog 142 c142 := sound_by (l := l142) (J := j142) (L := [4]) tOk mx Tryz.func142 ⟨s144, trivial⟩ (by kernel_rfl) (by kernel_rfl)
  ⟨⟨h142_4, fun n v => spec_l6List_L4 n v.1.1 v.1.2.1, fun _ => rfl, fun _ => rfl, q142_4⟩, trivial⟩ FUEL (e142 FUEL)

/-! spec_l6Asc -/
abbrev i143 : Shp := ⟨[(0, .c (.sl false Y1))], []⟩
abbrev o143 : Shp := ⟨[(0, .c (.v .bool))], []⟩
noncomputable def c143 : Con := ⟨i143, o143, fun v => spec_l6Asc v.1.1⟩
noncomputable def l143 : List (Nat × Con) := []
noncomputable def C143 : Cfg := ⟨T, gam l143, hintOf []⟩
abbrev h143_2 : Shp := ⟨[(0, .c (.sl false Y1)), (3, .c (.v tI))], []⟩
noncomputable def j143 (n ℓ : Nat) (σ : St) : Option o143.V := if ℓ = 2 then jump 0 h143_2 (fun v => spec_l6Asc_L2 n v.1.1 v.1.2.1) σ else none
theorem q143_2 (n : Nat) (v : h143_2.V) (ω : List Bool) : loopF C143 c143 Tryz.f143 (j143 n) 2 ω (h143_2.st 22 v) = spec_l6Asc_step2 (spec_l6Asc_L2 n) v.1.1 v.1.2.1 := by kernel_rfl
theorem e143 (n : Nat) (ω : List Bool) (v : i143.V) : enterF C143 c143 Tryz.f143 (j143 n) ω v = spec_l6Asc_entry (spec_l6Asc_L2 n) v.1.1 := by kernel_rfl
theorem s143 : SoundC Tryz.prog 143 c143 := sound_by (l := l143) (J := j143) (L := [2]) tOk mx Tryz.func143 trivial (by kernel_rfl) (by kernel_rfl)
  ⟨⟨h143_2, fun n v => spec_l6Asc_L2 n v.1.1 v.1.2.1, fun _ => rfl, fun _ => rfl, q143_2⟩, trivial⟩ FUEL (e143 FUEL)

/-! spec_StoreOk -/
abbrev i106 : Shp := ⟨[(0, .row Y2)], []⟩
abbrev o106 : Shp := ⟨[(0, .c (.v .bool))], []⟩
noncomputable def c106 : Con := ⟨i106, o106, fun v => spec_StoreOk v.1.1⟩
noncomputable def l106 : List (Nat × Con) := [(113, c113), (142, c142), (143, c143)]
noncomputable def C106 : Cfg := ⟨T, gam l106, hintOf []⟩
theorem e106 (ω : List Bool) (v : i106.V) : enterF C106 c106 Tryz.f106 (fun _ _ => none) ω v = spec_StoreOk v.1.1 := by kernel_rfl
theorem s106 : SoundC Tryz.prog 106 c106 := sound_by0 (l := l106) tOk mx Tryz.func106 ⟨s113, s142, s143, trivial⟩ (by kernel_rfl) (by kernel_rfl) e106

/-! spec_l4Has -/
abbrev i107 : Shp := ⟨[(0, .c (.sl false tI)), (1, .c (.v tI))], []⟩
abbrev o107 : Shp := ⟨[(0, .c (.v .bool))], []⟩
noncomputable def c107 : Con := ⟨i107, o107, fun v => spec_l4Has v.1.1 v.1.2.1⟩
noncomputable def l107 : List (Nat × Con) := []
noncomputable def C107 : Cfg := ⟨T, gam l107, hintOf []⟩
abbrev h107_2 : Shp := ⟨[(0, .c (.sl false tI)), (1, .c (.v tI)), (5, .c (.v tI))], []⟩
noncomputable def j107 (n ℓ : Nat) (σ : St) : Option o107.V := if ℓ = 2 then jump 0 h107_2 (fun v => spec_l4Has_L2 n v.1.1 v.1.2.1 v.1.2.2.1) σ else none
theorem q107_2 (n : Nat) (v : h107_2.V) (ω : List Bool) : loopF C107 c107 Tryz.f107 (j107 n) 2 ω (h107_2.st 18 v) = spec_l4Has_step2 (spec_l4Has_L2 n) v.1.1 v.1.2.1 v.1.2.2.1 := by kernel_rfl
theorem e107 (n : Nat) (ω : List Bool) (v : i107.V) : enterF C107 c107 Tryz.f107 (j107 n) ω v = spec_l4Has_entry (spec_l4Has_L2 n) v.1.1 v.1.2.1 := by kernel_rfl
theorem s107 : SoundC Tryz.prog 107 c107 := sound_by (l := l107) (J := j107) (L := [2]) tOk mx Tryz.func107 trivial (by kernel_rfl) (by kernel_rfl)
  ⟨⟨h107_2, fun n v => spec_l4Has_L2 n v.1.1 v.1.2.1 v.1.2.2.1, fun _ => rfl, fun _ => rfl, q107_2⟩, trivial⟩ FUEL (e107 FUEL)

/-! spec_l12Zero -/
abbrev i108 : Shp := ⟨[(0, .row Y2)], []⟩
abbrev o108 : Shp := ⟨[(0, .c (.v .bool))], []⟩
noncomputable def c108 : Con := ⟨i108, o108, fun v => spec_l12Zero v.1.1⟩
noncomputable def l108 : List (Nat × Con) := []
noncomputable def C108 : Cfg := ⟨T, gam l108, hintOf []⟩
theorem e108 (ω : List Bool) (v : i108.V) : enterF C108 c108 Tryz.f108 (fun _ _ => none) ω v = spec_l12Zero v.1.1 := by kernel_rfl
theorem s108 : SoundC Tryz.prog 108 c108 := sound_by0 (l := l108) tOk mx Tryz.func108 trivial (by kernel_rfl) (by kernel_rfl) e108

/-! spec_l12Nodes -/
abbrev i68 : Shp := ⟨[(0, .row Y11)], []⟩
abbrev o68 : Shp := ⟨[(0, .c (.v .bool))], []⟩
noncomputable def c68 : Con := ⟨i68, o68, fun v => spec_l12Nodes v.1.1⟩
noncomputable def l68 : List (Nat × Con) := [(103, c103), (104, c104), (105, c105), (106, c106), (107, c107), (108, c108)]
noncomputable def C68 : Cfg := ⟨T, gam l68, hintOf []⟩
abbrev h68_4 : Shp := ⟨[(1, .c (.ptr 0 0)), (3, .c (.v tI))], [.mem [.sl false tI, .v tI, .sl false Y2, .sl false tI, .sl false Y3, .v tI, .sl false Y6, .sl false Y7, .sl false Y9, .sl false Y10, .v .bool]]⟩
noncomputable def j68 (n ℓ : Nat) (σ : St) : Option o68.V := if ℓ = 4 then jump 0 h68_4 (fun v => spec_l12Nodes_L4 n v.1.2.1 v.2.1.1 v.2.1.2.1 v.2.1.2.2.1 v.2.1.2.2.2.1 v.2.1.2.2.2.2.1 v.2.1.2.2.2.2.2.1 v.2.1.2.2.2.2.2.2.1 v.2.1.2.2.2.2.2.2.2.1 v.2.1.2.2.2.2.2.2.2.2.1 v.2.1.2.2.2.2.2.2.2.2.2.1 v.2.1.2.2.2.2.2.2.2.2.2.2.1) σ else none
theorem q68_4 (n : Nat) (v : h68_4.V) (ω : List Bool) : loopF C68 c68 Tryz.f68 (j68 n) 4 ω (h68_4.st 67 v) = spec_l12Nodes_step4 (spec_l12Nodes_L4 n) v.1.2.1 v.2.1.1 v.2.1.2.1 v.2.1.2.2.1 v.2.1.2.2.2.1 v.2.1.2.2.2.2.1 v.2.1.2.2.2.2.2.1 v.2.1.2.2.2.2.2.2.1 v.2.1.2.2.2.2.2.2.2.1 v.2.1.2.2.2.2.2.2.2.2.1 v.2.1.2.2.2.2.2.2.2.2.2.1 v.2.1.2.2.2.2.2.2.2.2.2.2.1 := by kernel_rfl
theorem e68 (n : Nat) (ω : List Bool) (v : i68.V) : enterF C68 c68 Tryz.f68 (j68 n) ω v = spec_l12Nodes_entry (spec_l12Nodes_L4 n) v.1.1 := by kernel_rfl
theorem s68 : SoundC Tryz.prog 68 c68 := sound_by (l := l68) (J := j68) (L := [4]) tOk mx Tryz.func68 ⟨s103, s104, s105, s106, s107, s108, trivial⟩ (by kernel_rfl) (by kernel_rfl)
  ⟨⟨h68_4, fun n v => spec_l12Nodes_L4 n v.1.2.1 v.2.1.1 v.2.1.2.1 v.2.1.2.2.1 v.2.1.2.2.2.1 v.2.1.2.2.2.2.1 v.2.1.2.2.2.2.2.1 v.2.1.2.2.2.2.2.2.1 v.2.1.2.2.2.2.2.2.2.1 v.2.1.2.2.2.2.2.2.2.2.1 v.2.1.2.2.2.2.2.2.2.2.2.1 v.2.1.2.2.2.2.2.2.2.2.2.2.1, fun _ => rfl, fun _ => rfl, q68_4⟩, trivial⟩ FUEL (e68 FUEL)

/-! spec_RegOk -/
abbrev i109 : Shp := ⟨[(0, .row Y0), (1, .row Y4)], []⟩
abbrev o109 : Shp := ⟨[(0, .c (.v .bool))], []⟩
noncomputable def c109 : Con := ⟨i109, o109, fun v => spec_RegOk v.1.1 v.1.2.1⟩
noncomputable def l109 : List (Nat × Con) := [(95, c95), (103, c103), (105, c105), (113, c113), (114, c114)]
noncomputable def C109 : Cfg := ⟨T, gam l109, hintOf []⟩
abbrev h109_5 : Shp := ⟨[(2, .c (.ptr 0 0)), (3, .c (.ptr 1 0)), (5, .c (.v tI)), (6, .c (.v tI))], [.mem [.sl false tI, .v tI], .mem [.sl false Y3, .v tI]]⟩
noncomputable def j109 (n ℓ : Nat) (σ : St) : Option o109.V := if ℓ = 5 then jump 0 h109_5 (fun v => spec_RegOk_L5 n v.1.2.2.1 v.1.2.2.2.1 v.2.1.1 v.2.1.2.1 v.2.2.1.1 v.2.2.1.2.1) σ else none
theorem q109_5 (n : Nat) (v : h109_5.V) (ω : List Bool) : loopF C109 c109 Tryz.f109 (j109 n) 5 ω (h109_5.st 89 v) = spec_RegOk_step5 (spec_RegOk_L5 n) v.1.2.2.1 v.1.2.2.2.1 v.2.1.1 v.2.1.2.1 v.2.2.1.1 v.2.2.1.2.1 := by kernel_rfl
theorem e109 (n : Nat) (ω : List Bool) (v : i109.V) : enterF C109 c109 Tryz.f109 (j109 n) ω v = spec_RegOk_entry (spec_RegOk_L5 n) v.1.1 v.1.2.1 := by kernel_rfl
theorem s109 : SoundC Tryz.prog 109 c109 := sound_by (l := l109) (J := j109) (L := [5]) tOk mx Tryz.func109 ⟨s95, s103, s105, s113, s114, trivial⟩ (by kernel_rfl) (by kernel_rfl)
  ⟨⟨h109_5, fun n v => spec_RegOk_L5 n v.1.2.2.1 v.1.2.2.2.1 v.2.1.1 v.2.1.2.1 v.2.2.1.1 v.2.2.1.2.1, fun _ => rfl, fun _ => rfl, q109_5⟩, trivial⟩ FUEL (e109 FUEL)

/-! spec_WriterOk -/
abbrev i110 : Shp := ⟨[(0, .row Y0), (1, .row Y6)], []⟩
abbrev o110 : Shp := ⟨[(0, .c (.v .bool))], []⟩
noncomputable def c110 : Con := ⟨i110, o110, fun v => spec_WriterOk v.1.1 v.1.2.1⟩
noncomputable def l110 : List (Nat × Con) := [(103, c103), (104, c104), (105, c105), (113, c113)]
noncomputable def C110 : Cfg := ⟨T, gam l110, hintOf [(8, [0, 1, 2])]⟩
abbrev h110_5 : Shp := ⟨[(2, .c (.ptr 0 0)), (3, .c (.ptr 1 0)), (5, .c (.v tI)), (6, .c (.v tI))], [.mem [.sl false tI, .v tI], .mem [.v tI, .sl false Y5]]⟩
noncomputable def j110 (n ℓ : Nat) (σ : St) : Option o110.V := if ℓ = 5 then jump 0 h110_5 (fun v => spec_WriterOk_L5 n v.1.2.2.1 v.1.2.2.2.1 v.2.1.1 v.2.1.2.1 v.2.2.1.1 v.2.2.1.2.1) σ else none
theorem q110_5 (n : Nat) (v : h110_5.V) (ω : List Bool) : loopF C110 c110 Tryz.f110 (j110 n) 5 ω (h110_5.st 62 v) = spec_WriterOk_step5 (spec_WriterOk_L5 n) v.1.2.2.1 v.1.2.2.2.1 v.2.1.1 v.2.1.2.1 v.2.2.1.1 v.2.2.1.2.1 := by kernel_rfl
theorem e110 (n : Nat) (ω : List Bool) (v : i110.V) : enterF C110 c110 Tryz.f110 (j110 n) ω v = spec_WriterOk_entry (spec_WriterOk_L5 n) v.1.1 v.1.2.1 := by kernel_rfl
theorem s110 : SoundC Tryz.prog 110 c110 := sound_by (l := l110) (J := j110) (L := [5]) tOk mx Tryz.func110 ⟨s103, s104, s105, s113, trivial⟩ (by kernel_rfl) (by kernel_rfl)
  ⟨⟨h110_5, fun n v => spec_WriterOk_L5 n v.1.2.2.1 v.1.2.2.2.1 v.2.1.1 v.2.1.2.1 v.2.2.1.1 v.2.2.1.2.1, fun _ => rfl, fun _ => rfl, q110_5⟩, trivial⟩ FUEL (e110 FUEL)

/-! spec_OffOf -/
abbrev i160 : Shp := ⟨[(0, .c (.v tI))], []⟩
abbrev o160 : Shp := ⟨[(0, .c (.v tI))], []⟩
noncomputable def c160 : Con := ⟨i160, o160, fun v => spec_OffOf v.1.1⟩
noncomputable def l160 : List (Nat × Con) := [(95, c95)]
noncomputable def C160 : Cfg := ⟨T, gam l160, hintOf []⟩
theorem e160 (ω : List Bool) (v : i160.V) : enterF C160 c160 Tryz.f160 (fun _ _ => none) ω v = spec_OffOf v.1.1 := by kernel_rfl
theorem s160 : SoundC Tryz.prog 160 c160 := sound_by0 (l := l160) tOk mx Tryz.func160 ⟨s95, trivial⟩ (by kernel_rfl) (by kernel_rfl) e160

/-! spec_l9Last -/
abbrev i145 : Shp := ⟨[(0, .row Y7)], []⟩
abbrev o145 : Shp := ⟨[(0, .c (.v tI))], []⟩
noncomputable def c145 : Con := ⟨i145, o145, fun v => spec_l9Last v.1.1⟩
noncomputable def l145 : List (Nat × Con) := [(160, c160)]
noncomputable def C145 : Cfg := ⟨T, gam l145, hintOf []⟩
theorem e145 (ω : List Bool) (v : i145.V) : enterF C145 c145 Tryz.f145 (fun _ _ => none) ω v = spec_l9Last v.1.1 := by kernel_rfl
theorem s145 : SoundC Tryz.prog 145 c145 := sound_by0 (l := l145) tOk mx Tryz.func145 ⟨s160, trivial⟩ (by kernel_rfl) (by kernel_rfl) e145

/-! spec_MendOk -/
abbrev i111 : Shp := ⟨[(0, .row Y0), (1, .row Y7)], []⟩
abbrev o111 : Shp := ⟨[(0, .c (.v .bool))], []⟩
noncomputable def c111 : Con := ⟨i111, o111, fun v => spec_MendOk v.1.1 v.1.2.1⟩
noncomputable def l111 : List (Nat × Con) := [(103, c103), (104, c104), (113, c113), (114, c114), (143, c143), (144, c144), (145, c145)]
noncomputable def C111 : Cfg := ⟨T, gam l111, hintOf [(6, [0, 1]), (11, [0, 1]), (15, [0, 1])]⟩
abbrev h111_9 : Shp := ⟨[(2, .c (.ptr 0 0)), (3, .c (.ptr 1 0)), (6, .c (.v tI))], [.mem [.sl false tI, .v tI], .mem [.v tI, .v tI, .sl false tI, .sl false Y1, .v .bool, .sl false (.sl tI)]]⟩
abbrev h111_4 : Shp := ⟨[(2, .c (.ptr 0 0)), (3, .c (.ptr 1 0)), (5, .c (.v tI))], [.mem [.sl false tI, .v tI], .mem [.v tI, .v tI, .sl false tI, .sl false Y1, .v .bool, .sl false (.sl tI)]]⟩
noncomputable def j111 (n ℓ : Nat) (σ : St) : Option o111.V := if ℓ = 4 then jump 0 h111_4 (fun v => spec_MendOk_L4 n v.1.2.2.1 v.2.1.1 v.2.1.2.1 v.2.2.1.1 v.2.2.1.2.1 v.2.2.1.2.2.1 v.2.2.1.2.2.2.1 v.2.2.1.2.2.2.2.1 v.2.2.1.2.2.2.2.2.1) σ else if ℓ = 9 then jump 0 h111_9 (fun v => spec_MendOk_L9 n v.1.2.2.1 v.2.1.1 v.2.1.2.1 v.2.2.1.1 v.2.2.1.2.1 v.2.2.1.2.2.1 v.2.2.1.2.2.2.1 v.2.2.1.2.2.2.2.1 v.2.2.1.2.2.2.2.2.1) σ else none
theorem q111_4 (n : Nat) (v : h111_4.V) (ω : List Bool) : loopF C111 c111 Tryz.f111 (j111 n) 4 ω (h111_4.st 103 v) = spec_MendOk_step4 (spec_MendOk_L4 n) (spec_MendOk_L9 n) v.1.2.2.1 v.2.1.1 v.2.1.2.1 v.2.2.1.1 v.2.2.1.2.1 v.2.2.1.2.2.1 v.2.2.1.2.2.2.1 v.2.2.1.2.2.2.2.1 v.2.2.1.2.2.2.2.2.1 := by kernel_rfl
theorem q111_9 (n : Nat) (v : h111_9.V) (ω : List Bool) : loopF C111 c111 Tryz.f111 (j111 n) 9 ω (h111_9.st 103 v) = spec_MendOk_step9 (spec_MendOk_L4 n) (spec_MendOk_L9 n) v.1.2.2.1 v.2.1.1 v.2.1.2.1 v.2.2.1.1 v.2.2.1.2.1 v.2.2.1.2.2.1 v.2.2.1.2.2.2.1 v.2.2.1.2.2.2.2.1 v.2.2.1.2.2.2.2.2.1 := by kernel_rfl
theorem e111 (n : Nat) (ω : List Bool) (v : i111.V) : enterF C111 c111 Tryz.f111 (j111 n) ω v = spec_MendOk_entry (spec_MendOk_L4 n) (spec_MendOk_L9 n) v.1.1 v.1.2.1 := by kernel_rfl
theorem s111 : SoundC Tryz.prog 111 c111 := sound_by (l := l111) (J := j111) (L := [4, 9]) tOk mx Tryz.func111 ⟨s103, s104, s113, s114, s143, s144, s145, trivial⟩ (by kernel_rfl) (by kernel_rfl)
  ⟨⟨h111_4, fun n v => spec_MendOk_L4 n v.1.2.2.1 v.2.1.1 v.2.1.2.1 v.2.2.1.1 v.2.2.1.2.1 v.2.2.1.2.2.1 v.2.2.1.2.2.2.1 v.2.2.1.2.2.2.2.1 v.2.2.1.2.2.2.2.2.1, fun _ => rfl, fun _ => rfl, q111_4⟩, ⟨⟨h111_9, fun n v => spec_MendOk_L9 n v.1.2.2.1 v.2.1.1 v.2.1.2.1 v.2.2.1.1 v.2.2.1.2.1 v.2.2.1.2.2.1 v.2.2.1.2.2.2.1 v.2.2.1.2.2.2.2.1 v.2.2.1.2.2.2.2.2.1, fun _ => rfl, fun _ => rfl, q111_9⟩, trivial⟩⟩ FUEL (e111 FUEL)

/-! spec_FirstOpen -/
abbrev i112 : Shp := ⟨[(0, .row Y4)], []⟩
abbrev o112 : Shp := ⟨[(0, .c (.v tI))], []⟩
noncomputable def c112 : Con := ⟨i112, o112, fun v => spec_FirstOpen v.1.1⟩
noncomputable def l112 : List (Nat × Con) := []
noncomputable def C112 : Cfg := ⟨T, gam l112, hintOf []⟩
abbrev h112_2 : Shp := ⟨[(1, .c (.ptr 0 0)), (3, .c (.v tI))], [.mem [.sl false Y3, .v tI]]⟩
noncomputable def j112 (n ℓ : Nat) (σ : St) : Option o112.V := if ℓ = 2 then jump 0 h112_2 (fun v => spec_FirstOpen_L2 n v.1.2.1 v.2.1.1 v.2.1.2.1) σ else none
theorem q112_2 (n : Nat) (v : h112_2.V) (ω : List Bool) : loopF C112 c112 Tryz.f112 (j112 n) 2 ω (h112_2.st 20 v) = spec_FirstOpen_step2 (spec_FirstOpen_L2 n) v.1.2.1 v.2.1.1 v.2.1.2.1 := by kernel_rfl
theorem e112 (n : Nat) (ω : List Bool) (v : i112.V) : enterF C112 c112 Tryz.f112 (j112 n) ω v = spec_FirstOpen_entry (spec_FirstOpen_L2 n) v.1.1 := by kernel_rfl
theorem s112 : SoundC Tryz.prog 112 c112 := sound_by (l := l112) (J := j112) (L := [2]) tOk mx Tryz.func112 trivial (by kernel_rfl) (by kernel_rfl)
  ⟨⟨h112_2, fun n v => spec_FirstOpen_L2 n v.1.2.1 v.2.1.1 v.2.1.2.1, fun _ => rfl, fun _ => rfl, q112_2⟩, trivial⟩ FUEL (e112 FUEL)

/-! spec_l12Epochs -/
abbrev i69 : Shp := ⟨[(0, .row Y11)], []⟩
abbrev o69 : Shp := ⟨[(0, .c (.v .bool))], []⟩
noncomputable def c69 : Con := ⟨i69, o69, fun v => spec_l12Epochs v.1.1⟩
noncomputable def l69 : List (Nat × Con) := [(109, c109), (110, c110), (111, c111), (112, c112)]
noncomputable def C69 : Cfg := ⟨T, gam l69, hintOf [(7, [0]), (13, [0, 1])]⟩
abbrev h69_10 : Shp := ⟨[(1, .c (.ptr 0 0)), (3, .c (.v tI)), (5, .c (.v tI))], [.mem [.sl false tI, .v tI, .sl false Y2, .sl false tI, .sl false Y3, .v tI, .sl false Y6, .sl false Y7, .sl false Y9, .sl false Y10, .v .bool]]⟩
abbrev h69_5 : Shp := ⟨[(1, .c (.ptr 0 0)), (3, .c (.v tI)), (4, .c (.v tI))], [.mem [.sl false tI, .v tI, .sl false Y2, .sl false tI, .sl false Y3, .v tI, .sl false Y6, .sl false Y7, .sl false Y9, .sl false Y10, .v .bool]]⟩
noncomputable def j69 (n ℓ : Nat) (σ : St) : Option o69.V := if ℓ = 5 then jump 0 h69_5 (fun v => spec_l12Epochs_L5 n v.1.2.1 v.1.2.2.1 v.2.1.1 v.2.1.2.1 v.2.1.2.2.1 v.2.1.2.2.2.1 v.2.1.2.2.2.2.1 v.2.1.2.2.2.2.2.1 v.2.1.2.2.2.2.2.2.1 v.2.1.2.2.2.2.2.2.2.1 v.2.1.2.2.2.2.2.2.2.2.1 v.2.1.2.2.2.2.2.2.2.2.2.1 v.2.1.2.2.2.2.2.2.2.2.2.2.1) σ else if ℓ = 10 then jump 0 h69_10 (fun v => spec_l12Epochs_L10 n v.1.2.1 v.1.2.2.1 v.2.1.1 v.2.1.2.1 v.2.1.2.2.1 v.2.1.2.2.2.1 v.2.1.2.2.2.2.1 v.2.1.2.2.2.2.2.1 v.2.1.2.2.2.2.2.2.1 v.2.1.2.2.2.2.2.2.2.1 v.2.1.2.2.2.2.2.2.2.2.1 v.2.1.2.2.2.2.2.2.2.2.2.1 v.2.1.2.2.2.2.2.2.2.2.2.2.1) σ else none
theorem q69_5 (n : Nat) (v : h69_5.V) (ω : List Bool) : loopF C69 c69 Tryz.f69 (j69 n) 5 ω (h69_5.st 106 v) = spec_l12Epochs_step5 (spec_l12Epochs_L5 n) (spec_l12Epochs_L10 n) v.1.2.1 v.1.2.2.1 v.2.1.1 v.2.1.2.1 v.2.1.2.2.1 v.2.1.2.2.2.1 v.2.1.2.2.2.2.1 v.2.1.2.2.2.2.2.1 v.2.1.2.2.2.2.2.2.1 v.2.1.2.2.2.2.2.2.2.1 v.2.1.2.2.2.2.2.2.2.2.1 v.2.1.2.2.2.2.2.2.2.2.2.1 v.2.1.2.2.2.2.2.2.2.2.2.2.1 := by kernel_rfl
theorem q69_10 (n : Nat) (v : h69_10.V) (ω : List Bool) : loopF C69 c69 Tryz.f69 (j69 n) 10 ω (h69_10.st 106 v) = spec_l12Epochs_step10 (spec_l12Epochs_L5 n) (spec_l12Epochs_L10 n) v.1.2.1 v.1.2.2.1 v.2.1.1 v.2.1.2.1 v.2.1.2.2.1 v.2.1.2.2.2.1 v.2.1.2.2.2.2.1 v.2.1.2.2.2.2.2.1 v.2.1.2.2.2.2.2.2.1 v.2.1.2.2.2.2.2.2.2.1 v.2.1.2.2.2.2.2.2.2.2.1 v.2.1.2.2.2.2.2.2.2.2.2.1 v.2.1.2.2.2.2.2.2.2.2.2.2.1 := by kernel_rfl
theorem e69 (n : Nat) (ω : List Bool) (v : i69.V) : enterF C69 c69 Tryz.f69 (j69 n) ω v = spec_l12Epochs_entry (spec_l12Epochs_L5 n) (spec_l12Epochs_L10 n) v.1.1 := by kernel_rfl
theorem s69 : SoundC Tryz.prog 69 c69 := sound_by (l := l69) (J := j69) (L := [5, 10]) tOk mx Tryz.func69 ⟨s109, s110, s111, s112, trivial⟩ (by kernel_rfl) (by kernel_rfl)
  ⟨⟨h69_5, fun n v => spec_l12Epochs_L5 n v.1.2.1 v.1.2.2.1 v.2.1.1 v.2.1.2.1 v.2.1.2.2.1 v.2.1.2.2.2.1 v.2.1.2.2.2.2.1 v.2.1.2.2.2.2.2.1 v.2.1.2.2.2.2.2.2.1 v.2.1.2.2.2.2.2.2.2.1 v.2.1.2.2.2.2.2.2.2.2.1 v.2.1.2.2.2.2.2.2.2.2.2.1 v.2.1.2.2.2.2.2.2.2.2.2.2.1, fun _ => rfl, fun _ => rfl, q69_5⟩, ⟨⟨h69_10, fun n v => spec_l12Epochs_L10 n v.1.2.1 v.1.2.2.1 v.2.1.1 v.2.1.2.1 v.2.1.2.2.1 v.2.1.2.2.2.1 v.2.1.2.2.2.2.1 v.2.1.2.2.2.2.2.1 v.2.1.2.2.2.2.2.2.1 v.2.1.2.2.2.2.2.2.2.1 v.2.1.2.2.2.2.2.2.2.2.1 v.2.1.2.2.2.2.2.2.2.2.2.1 v.2.1.2.2.2.2.2.2.2.2.2.2.1, fun _ => rfl, fun _ => rfl, q69_10⟩, trivial⟩⟩ FUEL (e69 FUEL)

/-! spec_ReaderOk -/
abbrev i70 : Shp := ⟨[(0, .row Y9)], []⟩
abbrev o70 : Shp := ⟨[(0, .c (.v .bool))], []⟩
noncomputable def c70 : Con := ⟨i70, o70, fun v => spec_ReaderOk v.1.1⟩
noncomputable def l70 : List (Nat × Con) := [(113, c113)]
noncomputable def C70 : Cfg := ⟨T, gam l70, hintOf []⟩
theorem e70 (ω : List Bool) (v : i70.V) : enterF C70 c70 Tryz.f70 (fun _ _ => none) ω v = spec_ReaderOk v.1.1 := by kernel_rfl
theorem s70 : SoundC Tryz.prog 70 c70 := sound_by0 (l := l70) tOk mx Tryz.func70 ⟨s113, trivial⟩ (by kernel_rfl) (by kernel_rfl) e70

/-! spec_l12Sent -/
abbrev i71 : Shp := ⟨[(0, .row Y11)], []⟩
abbrev o71 : Shp := ⟨[(0, .c (.v .bool))], []⟩
noncomputable def c71 : Con := ⟨i71, o71, fun v => spec_l12Sent v.1.1⟩
noncomputable def l71 : List (Nat × Con) := [(95, c95), (114, c114)]
noncomputable def C71 : Cfg := ⟨T, gam l71, hintOf [(7, [0, 1])]⟩
abbrev h71_4 : Shp := ⟨[(1, .c (.ptr 0 0)), (3, .c (.v tI))], [.mem [.sl false tI, .v tI, .sl false Y2, .sl false tI, .sl false Y3, .v tI, .sl false Y6, .sl false Y7, .sl false Y9, .sl false Y10, .v .bool]]⟩
noncomputable def j71 (n ℓ : Nat) (σ : St) : Option o71.V := if ℓ = 4 then jump 0 h71_4 (fun v => spec_l12Sent_L4 n v.1.2.1 v.2.1.1 v.2.1.2.1 v.2.1.2.2.1 v.2.1.2.2.2.1 v.2.1.2.2.2.2.1 v.2.1.2.2.2.2.2.1 v.2.1.2.2.2.2.2.2.1 v.2.1.2.2.2.2.2.2.2.1 v.2.1.2.2.2.2.2.2.2.2.1 v.2.1.2.2.2.2.2.2.2.2.2.1 v.2.1.2.2.2.2.2.2.2.2.2.2.1) σ else none
theorem q71_4 (n : Nat) (v : h71_4.V) (ω : List Bool) : loopF C71 c71 Tryz.f71 (j71 n) 4 ω (h71_4.st 57 v) = spec_l12Sent_step4 (spec_l12Sent_L4 n) v.1.2.1 v.2.1.1 v.2.1.2.1 v.2.1.2.2.1 v.2.1.2.2.2.1 v.2.1.2.2.2.2.1 v.2.1.2.2.2.2.2.1 v.2.1.2.2.2.2.2.2.1 v.2.1.2.2.2.2.2.2.2.1 v.2.1.2.2.2.2.2.2.2.2.1 v.2.1.2.2.2.2.2.2.2.2.2.1 v.2.1.2.2.2.2.2.2.2.2.2.2.1 := by kernel_rfl
theorem e71 (n : Nat) (ω : List Bool) (v : i71.V) : enterF C71 c71 Tryz.f71 (j71 n) ω v = spec_l12Sent_entry (spec_l12Sent_L4 n) v.1.1 := by kernel_rfl
theorem s71 : SoundC Tryz.prog 71 c71 := sound_by (l := l71) (J := j71) (L := [4]) tOk mx Tryz.func71 ⟨s95, s114, trivial⟩ (by kernel_rfl) (by kernel_rfl)
  ⟨⟨h71_4, fun n v => spec_l12Sent_L4 n v.1.2.1 v.2.1.1 v.2.1.2.1 v.2.1.2.2.1 v.2.1.2.2.2.1 v.2.1.2.2.2.2.1 v.2.1.2.2.2.2.2.1 v.2.1.2.2.2.2.2.2.1 v.2.1.2.2.2.2.2.2.2.1 v.2.1.2.2.2.2.2.2.2.2.1 v.2.1.2.2.2.2.2.2.2.2.2.1 v.2.1.2.2.2.2.2.2.2.2.2.2.1, fun _ => rfl, fun _ => rfl, q71_4⟩, trivial⟩ FUEL (e71 FUEL)

/-! spec_WorldOk -/
abbrev i32 : Shp := ⟨[(0, .row Y11)], []⟩
abbrev o32 : Shp := ⟨[(0, .c (.v .bool))], []⟩
noncomputable def c32 : Con := ⟨i32, o32, fun v => spec_WorldOk v.1.1⟩
noncomputable def l32 : List (Nat × Con) := [(68, c68), (69, c69), (70, c70), (71, c71)]
noncomputable def C32 : Cfg := ⟨T, gam l32, hintOf []⟩
theorem e32 (ω : List Bool) (v : i32.V) : enterF C32 c32 Tryz.f32 (fun _ _ => none) ω v = spec_WorldOk v.1.1 := by kernel_rfl
theorem s32 : SoundC Tryz.prog 32 c32 := sound_by0 (l := l32) tOk mx Tryz.func32 ⟨s68, s69, s70, s71, trivial⟩ (by kernel_rfl) (by kernel_rfl) e32

/-! spec_l14Told -/
abbrev i56 : Shp := ⟨[(0, .row Y9), (1, .c (.v tI))], []⟩
abbrev o56 : Shp := ⟨[(0, .tup [.inl (.v .str), .inl (.v .bool)])], []⟩
noncomputable def c56 : Con := ⟨i56, o56, fun v => spec_l14Told v.1.1 v.1.2.1⟩
noncomputable def l56 : List (Nat × Con) := []
noncomputable def C56 : Cfg := ⟨T, gam l56, hintOf []⟩
abbrev h56_2 : Shp := ⟨[(1, .c (.v tI)), (2, .c (.ptr 0 0)), (6, .c (.v tI))], [.mem [.v tI, .v tI, .sl false Y8]]⟩
noncomputable def j56 (n ℓ : Nat) (σ : St) : Option o56.V := if ℓ = 2 then jump 0 h56_2 (fun v => spec_l14Told_L2 n v.1.1 v.1.2.2.1 v.2.1.1 v.2.1.2.1 v.2.1.2.2.1) σ else none
theorem q56_2 (n : Nat) (v : h56_2.V) (ω : List Bool) : loopF C56 c56 Tryz.f56 (j56 n) 2 ω (h56_2.st 37 v) = spec_l14Told_step2 (spec_l14Told_L2 n) v.1.1 v.1.2.2.1 v.2.1.1 v.2.1.2.1 v.2.1.2.2.1 := by kernel_rfl
theorem e56 (n : Nat) (ω : List Bool) (v : i56.V) : enterF C56 c56 Tryz.f56 (j56 n) ω v = spec_l14Told_entry (spec_l14Told_L2 n) v.1.1 v.1.2.1 := by kernel_rfl
theorem s56 : SoundC Tryz.prog 56 c56 := sound_by (l := l56) (J := j56) (L := [2]) tOk mx Tryz.func56 trivial (by kernel_rfl) (by kernel_rfl)
  ⟨⟨h56_2, fun n v => spec_l14Told_L2 n v.1.1 v.1.2.2.1 v.2.1.1 v.2.1.2.1 v.2.1.2.2.1, fun _ => rfl, fun _ => rfl, q56_2⟩, trivial⟩ FUEL (e56 FUEL)

/-! spec_l1Place -/
abbrev i92 : Shp := ⟨[(0, .c (.v tI)), (1, .c (.v tI))], []⟩
abbrev o92 : Shp := ⟨[(0, .c (.v tI))], []⟩
noncomputable def c92 : Con := ⟨i92, o92, fun v => spec_l1Place v.1.1 v.1.2.1⟩
noncomputable def l92 : List (Nat × Con) := []
noncomputable def C92 : Cfg := ⟨T, gam l92, hintOf []⟩
theorem e92 (ω : List Bool) (v : i92.V) : enterF C92 c92 Tryz.f92 (fun _ _ => none) ω v = spec_l1Place v.1.1 v.1.2.1 := by kernel_rfl
theorem s92 : SoundC Tryz.prog 92 c92 := sound_by0 (l := l92) tOk mx Tryz.func92 trivial (by kernel_rfl) (by kernel_rfl) e92

/-! spec_l14Passed -/
abbrev i57 : Shp := ⟨[(0, .row Y9), (1, .c (.v tI))], []⟩
abbrev o57 : Shp := ⟨[(0, .c (.v .bool))], []⟩
noncomputable def c57 : Con := ⟨i57, o57, fun v => spec_l14Passed v.1.1 v.1.2.1⟩
noncomputable def l57 : List (Nat × Con) := [(92, c92)]
noncomputable def C57 : Cfg := ⟨T, gam l57, hintOf []⟩
theorem e57 (ω : List Bool) (v : i57.V) : enterF C57 c57 Tryz.f57 (fun _ _ => none) ω v = spec_l14Passed v.1.1 v.1.2.1 := by kernel_rfl
theorem s57 : SoundC Tryz.prog 57 c57 := sound_by0 (l := l57) tOk mx Tryz.func57 ⟨s92, trivial⟩ (by kernel_rfl) (by kernel_rfl) e57

/-! spec_JudgeKept -/
abbrev i20 : Shp := ⟨[(0, .row Y11)], []⟩
abbrev o20 : Shp := ⟨[(0, .c (.v .bool))], []⟩
noncomputable def c20 : Con := ⟨i20, o20, fun v => spec_JudgeKept v.1.1⟩
noncomputable def l20 : List (Nat × Con) := [(32, c32), (56, c56), (57, c57)]
noncomputable def C20 : Cfg := ⟨T, gam l20, hintOf [(10, [0, 1]), (11, [0, 1])]⟩
abbrev h20_7 : Shp := ⟨[(1, .c (.ptr 0 0)), (3, .c (.v tI)), (4, .c (.v tI)), (14, .c (.ptr 0 10)), (15, .c (.v .bool)), (16, .c (.v .bool))], [.mem [.sl false tI, .v tI, .sl false Y2, .sl false tI, .sl false Y3, .v tI, .sl false Y6, .sl false Y7, .sl false Y9, .sl false Y10, .v .bool]]⟩
abbrev h20_4 : Shp := ⟨[(1, .c (.ptr 0 0)), (3, .c (.v tI))], [.mem [.sl false tI, .v tI, .sl false Y2, .sl false tI, .sl false Y3, .v tI, .sl false Y6, .sl false Y7, .sl false Y9, .sl false Y10, .v .bool]]⟩
noncomputable def j20 (n ℓ : Nat) (σ : St) : Option o20.V := if ℓ = 4 then jump 0 h20_4 (fun v => spec_JudgeKept_L4 n v.1.2.1 v.2.1.1 v.2.1.2.1 v.2.1.2.2.1 v.2.1.2.2.2.1 v.2.1.2.2.2.2.1 v.2.1.2.2.2.2.2.1 v.2.1.2.2.2.2.2.2.1 v.2.1.2.2.2.2.2.2.2.1 v.2.1.2.2.2.2.2.2.2.2.1 v.2.1.2.2.2.2.2.2.2.2.2.1 v.2.1.2.2.2.2.2.2.2.2.2.2.1) σ else if ℓ = 7 then jump 0 h20_7 (fun v => spec_JudgeKept_L7 n v.1.2.1 v.1.2.2.1 v.1.2.2.2.2.1 v.1.2.2.2.2.2.1 v.2.1.1 v.2.1.2.1 v.2.1.2.2.1 v.2.1.2.2.2.1 v.2.1.2.2.2.2.1 v.2.1.2.2.2.2.2.1 v.2.1.2.2.2.2.2.2.1 v.2.1.2.2.2.2.2.2.2.1 v.2.1.2.2.2.2.2.2.2.2.1 v.2.1.2.2.2.2.2.2.2.2.2.1 v.2.1.2.2.2.2.2.2.2.2.2.2.1) σ else none
theorem q20_4 (n : Nat) (v : h20_4.V) (ω : List Bool) : loopF C20 c20 Tryz.f20 (j20 n) 4 ω (h20_4.st 67 v) = spec_JudgeKept_step4 (spec_JudgeKept_L4 n) (spec_JudgeKept_L7 n) v.1.2.1 v.2.1.1 v.2.1.2.1 v.2.1.2.2.1 v.2.1.2.2.2.1 v.2.1.2.2.2.2.1 v.2.1.2.2.2.2.2.1 v.2.1.2.2.2.2.2.2.1 v.2.1.2.2.2.2.2.2.2.1 v.2.1.2.2.2.2.2.2.2.2.1 v.2.1.2.2.2.2.2.2.2.2.2.1 v.2.1.2.2.2.2.2.2.2.2.2.2.1 := by kernel_rfl
theorem q20_7 (n : Nat) (v : h20_7.V) (ω : List Bool) : loopF C20 c20 Tryz.f20 (j20 n) 7 ω (h20_7.st 67 v) = spec_JudgeKept_step7 (spec_JudgeKept_L4 n) (spec_JudgeKept_L7 n) v.1.2.1 v.1.2.2.1 v.1.2.2.2.2.1 v.1.2.2.2.2.2.1 v.2.1.1 v.2.1.2.1 v.2.1.2.2.1 v.2.1.2.2.2.1 v.2.1.2.2.2.2.1 v.2.1.2.2.2.2.2.1 v.2.1.2.2.2.2.2.2.1 v.2.1.2.2.2.2.2.2.2.1 v.2.1.2.2.2.2.2.2.2.2.1 v.2.1.2.2.2.2.2.2.2.2.2.1 v.2.1.2.2.2.2.2.2.2.2.2.2.1 := by kernel_rfl
theorem e20 (n : Nat) (ω : List Bool) (v : i20.V) : enterF C20 c20 Tryz.f20 (j20 n) ω v = spec_JudgeKept_entry (spec_JudgeKept_L4 n) (spec_JudgeKept_L7 n) v.1.1 := by kernel_rfl
theorem s20 : SoundC Tryz.prog 20 c20 := sound_by (l := l20) (J := j20) (L := [4, 7]) tOk mx Tryz.func20 ⟨s32, s56, s57, trivial⟩ (by kernel_rfl) (by kernel_rfl)
  ⟨⟨h20_4, fun n v => spec_JudgeKept_L4 n v.1.2.1 v.2.1.1 v.2.1.2.1 v.2.1.2.2.1 v.2.1.2.2.2.1 v.2.1.2.2.2.2.1 v.2.1.2.2.2.2.2.1 v.2.1.2.2.2.2.2.2.1 v.2.1.2.2.2.2.2.2.2.1 v.2.1.2.2.2.2.2.2.2.2.1 v.2.1.2.2.2.2.2.2.2.2.2.1 v.2.1.2.2.2.2.2.2.2.2.2.2.1, fun _ => rfl, fun _ => rfl, q20_4⟩, ⟨⟨h20_7, fun n v => spec_JudgeKept_L7 n v.1.2.1 v.1.2.2.1 v.1.2.2.2.2.1 v.1.2.2.2.2.2.1 v.2.1.1 v.2.1.2.1 v.2.1.2.2.1 v.2.1.2.2.2.1 v.2.1.2.2.2.2.1 v.2.1.2.2.2.2.2.1 v.2.1.2.2.2.2.2.2.1 v.2.1.2.2.2.2.2.2.2.1 v.2.1.2.2.2.2.2.2.2.2.1 v.2.1.2.2.2.2.2.2.2.2.2.1 v.2.1.2.2.2.2.2.2.2.2.2.2.1, fun _ => rfl, fun _ => rfl, q20_7⟩, trivial⟩⟩ FUEL (e20 FUEL)

/-! impl_within -/
abbrev i120 : Shp := ⟨[(0, .c (.v tI)), (1, .c (.v tI)), (2, .c (.v tI))], []⟩
abbrev o120 : Shp := ⟨[(0, .c (.v .bool))], []⟩
noncomputable def c120 : Con := ⟨i120, o120, fun v => impl_within v.1.1 v.1.2.1 v.1.2.2.1⟩
noncomputable def l120 : List (Nat × Con) := []
noncomputable def C120 : Cfg := ⟨T, gam l120, hintOf []⟩
theorem e120 (ω : List Bool) (v : i120.V) : enterF C120 c120 Tryz.f120 (fun _ _ => none) ω v = impl_within v.1.1 v.1.2.1 v.1.2.2.1 := by kernel_rfl
theorem s120 : SoundC Tryz.prog 120 c120 := sound_by0 (l := l120) tOk mx Tryz.func120 trivial (by kernel_rfl) (by kernel_rfl) e120

/-! impl_ConfigOk -/
abbrev i78 : Shp := ⟨[(0, .row Y0)], []⟩
abbrev o78 : Shp := ⟨[(0, .c (.v .bool))], []⟩
noncomputable def c78 : Con := ⟨i78, o78, fun v => impl_ConfigOk v.1.1⟩
noncomputable def l78 : List (Nat × Con) := [(120, c120)]
noncomputable def C78 : Cfg := ⟨T, gam l78, hintOf []⟩
abbrev h78_2 : Shp := ⟨[(1, .c (.ptr 0 0)), (6, .c (.sl false tI)), (7, .c (.v tI)), (8, .c (.v tI))], [.mem [.sl false tI, .v tI]]⟩
noncomputable def j78 (n ℓ : Nat) (σ : St) : Option o78.V := if ℓ = 2 then jump 0 h78_2 (fun v => impl_ConfigOk_L2 n v.1.2.1 v.1.2.2.1 v.1.2.2.2.1 v.2.1.1 v.2.1.2.1) σ else none
theorem q78_2 (n : Nat) (v : h78_2.V) (ω : List Bool) : loopF C78 c78 Tryz.f78 (j78 n) 2 ω (h78_2.st 25 v) = impl_ConfigOk_step2 (impl_ConfigOk_L2 n) v.1.2.1 v.1.2.2.1 v.1.2.2.2.1 v.2.1.1 v.2.1.2.1 := by kernel_rfl
theorem e78 (n : Nat) (ω : List Bool) (v : i78.V) : enterF C78 c78 Tryz.f78 (j78 n) ω v = impl_ConfigOk_entry (impl_ConfigOk_L2 n) v.1.1 := by kernel_rfl
theorem s78 : SoundC Tryz.prog 78 c78 := sound_by (l := l78) (J := j78) (L := [2]) tOk mx Tryz.func78 ⟨s120, trivial⟩ (by kernel_rfl) (by kernel_rfl)
  ⟨⟨h78_2, fun n v => impl_ConfigOk_L2 n v.1.2.1 v.1.2.2.1 v.1.2.2.2.1 v.2.1.1 v.2.1.2.1, fun _ => rfl, fun _ => rfl, q78_2⟩, trivial⟩ FUEL (e78 FUEL)

/-! impl_ascends -/
abbrev i149 : Shp := ⟨[(0, .c (.sl false tI)), (1, .c (.v tI))], []⟩
abbrev o149 : Shp := ⟨[(0, .c (.v .bool))], []⟩
noncomputable def c149 : Con := ⟨i149, o149, fun v => impl_ascends v.1.1 v.1.2.1⟩
noncomputable def l149 : List (Nat × Con) := [(120, c120)]
noncomputable def C149 : Cfg := ⟨T, gam l149, hintOf []⟩
abbrev h149_2 : Shp := ⟨[(0, .c (.sl false tI)), (1, .c (.v tI)), (7, .c (.sl false tI)), (8, .c (.v tI)), (9, .c (.v tI))], []⟩
noncomputable def j149 (n ℓ : Nat) (σ : St) : Option o149.V := if ℓ = 2 then jump 0 h149_2 (fun v => impl_ascends_L2 n v.1.1 v.1.2.1 v.1.2.2.1 v.1.2.2.2.1 v.1.2.2.2.2.1) σ else none
theorem q149_2 (n : Nat) (v : h149_2.V) (ω : List Bool) : loopF C149 c149 Tryz.f149 (j149 n) 2 ω (h149_2.st 32 v) = impl_ascends_step2 (impl_ascends_L2 n) v.1.1 v.1.2.1 v.1.2.2.1 v.1.2.2.2.1 v.1.2.2.2.2.1 := by kernel_rfl
theorem e149 (n : Nat) (ω : List Bool) (v : i149.V) : enterF C149 c149 Tryz.f149 (j149 n) ω v = impl_ascends_entry (impl_ascends_L2 n) v.1.1 v.1.2.1 := by kernel_rfl
theorem s149 : SoundC Tryz.prog 149 c149 := sound_by (l := l149) (J := j149) (L := [2]) tOk mx Tryz.func149 ⟨s120, trivial⟩ (by kernel_rfl) (by kernel_rfl)
  ⟨⟨h149_2, fun n v => impl_ascends_L2 n v.1.1 v.1.2.1 v.1.2.2.1 v.1.2.2.2.1 v.1.2.2.2.2.1, fun _ => rfl, fun _ => rfl, q149_2⟩, trivial⟩ FUEL (e149 FUEL)

/-! impl_NodesOk -/
abbrev i121 : Shp := ⟨[(0, .row Y0), (1, .c (.sl false tI))], []⟩
abbrev o121 : Shp := ⟨[(0, .c (.v .bool))], []⟩
noncomputable def c121 : Con := ⟨i121, o121, fun v => impl_NodesOk v.1.1 v.1.2.1⟩
noncomputable def l121 : List (Nat × Con) := [(78, c78), (149, c149)]
noncomputable def C121 : Cfg := ⟨T, gam l121, hintOf []⟩
theorem e121 (ω : List Bool) (v : i121.V) : enterF C121 c121 Tryz.f121 (fun _ _ => none) ω v = impl_NodesOk v.1.1 v.1.2.1 := by kernel_rfl
theorem s121 : SoundC Tryz.prog 121 c121 := sound_by0 (l := l121) tOk mx Tryz.func121 ⟨s78, s149, trivial⟩ (by kernel_rfl) (by kernel_rfl) e121

/-! impl_isEpoch -/
abbrev i96 : Shp := ⟨[(0, .c (.v tI))], []⟩
abbrev o96 : Shp := ⟨[(0, .c (.v .bool))], []⟩
noncomputable def c96 : Con := ⟨i96, o96, fun v => impl_isEpoch v.1.1⟩
noncomputable def l96 : List (Nat × Con) := [(120, c120)]
noncomputable def C96 : Cfg := ⟨T, gam l96, hintOf []⟩
theorem e96 (ω : List Bool) (v : i96.V) : enterF C96 c96 Tryz.f96 (fun _ _ => none) ω v = impl_isEpoch v.1.1 := by kernel_rfl
theorem s96 : SoundC Tryz.prog 96 c96 := sound_by0 (l := l96) tOk mx Tryz.func96 ⟨s120, trivial⟩ (by kernel_rfl) (by kernel_rfl) e96

/-! impl_isOff -/
abbrev i97 : Shp := ⟨[(0, .c (.v tI))], []⟩
abbrev o97 : Shp := ⟨[(0, .c (.v .bool))], []⟩
noncomputable def c97 : Con := ⟨i97, o97, fun v => impl_isOff v.1.1⟩
noncomputable def l97 : List (Nat × Con) := [(120, c120)]
noncomputable def C97 : Cfg := ⟨T, gam l97, hintOf []⟩
theorem e97 (ω : List Bool) (v : i97.V) : enterF C97 c97 Tryz.f97 (fun _ _ => none) ω v = impl_isOff v.1.1 := by kernel_rfl
theorem s97 : SoundC Tryz.prog 97 c97 := sound_by0 (l := l97) tOk mx Tryz.func97 ⟨s120, trivial⟩ (by kernel_rfl) (by kernel_rfl) e97

/-! impl_PlaceOk -/
abbrev i61 : Shp := ⟨[(0, .c (.v tI))], []⟩
abbrev o61 : Shp := ⟨[(0, .c (.v .bool))], []⟩
noncomputable def c61 : Con := ⟨i61, o61, fun v => impl_PlaceOk v.1.1⟩
noncomputable def l61 : List (Nat × Con) := [(96, c96), (97, c97)]
noncomputable def C61 : Cfg := ⟨T, gam l61, hintOf []⟩
theorem e61 (ω : List Bool) (v : i61.V) : enterF C61 c61 Tryz.f61 (fun _ _ => none) ω v = impl_PlaceOk v.1.1 := by kernel_rfl
theorem s61 : SoundC Tryz.prog 61 c61 := sound_by0 (l := l61) tOk mx Tryz.func61 ⟨s96, s97, trivial⟩ (by kernel_rfl) (by kernel_rfl) e61

/-! impl_dataOk -/
abbrev i131 : Shp := ⟨[(0, .c (.v .str))], []⟩
abbrev o131 : Shp := ⟨[(0, .c (.v .bool))], []⟩
noncomputable def c131 : Con := ⟨i131, o131, fun v => impl_dataOk v.1.1⟩
noncomputable def l131 : List (Nat × Con) := []
noncomputable def C131 : Cfg := ⟨T, gam l131, hintOf []⟩
theorem e131 (ω : List Bool) (v : i131.V) : enterF C131 c131 Tryz.f131 (fun _ _ => none) ω v = impl_dataOk v.1.1 := by kernel_rfl
theorem s131 : SoundC Tryz.prog 131 c131 := sound_by0 (l := l131) tOk mx Tryz.func131 trivial (by kernel_rfl) (by kernel_rfl) e131

/-! impl_EpochOf -/
abbrev i93 : Shp := ⟨[(0, .c (.v tI))], []⟩
abbrev o93 : Shp := ⟨[(0, .c (.v tI))], []⟩
noncomputable def c93 : Con := ⟨i93, o93, fun v => impl_EpochOf v.1.1⟩
noncomputable def l93 : List (Nat × Con) := [(61, c61)]
noncomputable def C93 : Cfg := ⟨T, gam l93, hintOf []⟩
theorem e93 (ω : List Bool) (v : i93.V) : enterF C93 c93 Tryz.f93 (fun _ _ => none) ω v = impl_EpochOf v.1.1 := by kernel_rfl
theorem s93 : SoundC Tryz.prog 93 c93 := sound_by0 (l := l93) tOk mx Tryz.func93 ⟨s61, trivial⟩ (by kernel_rfl) (by kernel_rfl) e93

/-! impl_EntryOk -/
abbrev i161 : Shp := ⟨[(0, .row Y1)], []⟩
abbrev o161 : Shp := ⟨[(0, .c (.v .bool))], []⟩
noncomputable def c161 : Con := ⟨i161, o161, fun v => impl_EntryOk v.1.1⟩
noncomputable def l161 : List (Nat × Con) := [(61, c61), (93, c93), (120, c120), (131, c131)]
noncomputable def C161 : Cfg := ⟨T, gam l161, hintOf [(1, [0])]⟩
theorem e161 (ω : List Bool) (v : i161.V) : enterF C161 c161 Tryz.f161 (fun _ _ => none) ω v = impl_EntryOk v.1.1 := by kernel_rfl
theorem s161 : SoundC Tryz.prog 161 c161 := sound_by0 (l := l161) tOk mx Tryz.func161 ⟨s61, s93, s120, s131, trivial⟩ (by kernel_rfl) (by kernel_rfl) e161

/-! impl_entriesOk -/
abbrev i150 : Shp := ⟨[(0, .c (.sl false Y1))], []⟩
abbrev o150 : Shp := ⟨[(0, .c (.v .bool))], []⟩
noncomputable def c150 : Con := ⟨i150, o150, fun v => impl_entriesOk v.1.1⟩
noncomputable def l150 : List (Nat × Con) := [(161, c161)]
noncomputable def C150 : Cfg := ⟨T, gam l150, hintOf []⟩
abbrev h150_2 : Shp := ⟨[(5, .c (.sl false Y1)), (6, .c (.v tI)), (7, .c (.v tI))], []⟩
noncomputable def j150 (n ℓ : Nat) (σ : St) : Option o150.V := if ℓ = 2 then jump 0 h150_2 (fun v => impl_entriesOk_L2 n v.1.1 v.1.2.1 v.1.2.2.1) σ else none
theorem q150_2 (n : Nat) (v : h150_2.V) (ω : List Bool) : loopF C150 c150 Tryz.f150 (j150 n) 2 ω (h150_2.st 15 v) = impl_entriesOk_step2 (impl_entriesOk_L2 n) v.1.1 v.1.2.1 v.1.2.2.1 := by kernel_rfl
theorem e150 (n : Nat) (ω : List Bool) (v : i150.V) : enterF C150 c150 Tryz.f150 (j150 n) ω v = impl_entriesOk_entry (impl_entriesOk_L2 n) v.1.1 := by kernel_rfl
theorem s150 : SoundC Tryz.prog 150 c150 := sound_by (l := l150) (J := j150) (L := [2]) tOk mx Tryz.func150 ⟨s161, trivial⟩ (by kernel_rfl) (by kernel_rfl)
  ⟨⟨h150_2, fun n v => impl_entriesOk_L2 n v.1.1 v.1.2.1 v.1.2.2.1, fun _ => rfl, fun _ => rfl, q150_2⟩, trivial⟩ FUEL (e150 FUEL)

/-! impl_placesAscend -/
abbrev i151 : Shp := ⟨[(0, .c (.sl false Y1))], []⟩
abbrev o151 : Shp := ⟨[(0, .c (.v .bool))], []⟩
noncomputable def c151 : Con := ⟨i151, o151, fun v => impl_placesAscend v.1.1⟩
noncomputable def l151 : List (Nat × Con) := []
noncomputable def C151 : Cfg := ⟨T, gam l151, hintOf [(4, [0])]⟩
abbrev h151_2 : Shp := ⟨[(0, .c (.sl false Y1)), (5, .c (.sl false Y1)), (6, .c (.v tI)), (7, .c (.v tI))], []⟩
noncomputable def j151 (n ℓ : Nat) (σ : St) : Option o151.V := if ℓ = 2 then jump 0 h151_2 (fun v => impl_placesAscend_L2 n v.1.1 v.1.2.1 v.1.2.2.1 v.1.2.2.2.1) σ else none
theorem q151_2 (n : Nat) (v : h151_2.V) (ω : List Bool) : loopF C151 c151 Tryz.f151 (j151 n) 2 ω (h151_2.st 26 v) = impl_placesAscend_step2 (impl_placesAscend_L2 n) v.1.1 v.1.2.1 v.1.2.2.1 v.1.2.2.2.1 := by kernel_rfl
theorem e151 (n : Nat) (ω : List Bool) (v : i151.V) : enterF C151 c151 Tryz.f151 (j151 n) ω v = impl_placesAscend_entry (impl_placesAscend_L2 n) v.1.1 := by kernel_rfl
theorem s151 : SoundC Tryz.prog 151 c151 := sound_by (l := l151) (J := j151) (L := [2]) tOk mx Tryz.func151 trivial (by kernel_rfl) (by kernel_rfl)
  ⟨⟨h151_2, fun n v => impl_placesAscend_L2 n v.1.1 v.1.2.1 v.1.2.2.1 v.1.2.2.2.1, fun _ => rfl, fun _ => rfl, q151_2⟩, trivial⟩ FUEL (e151 FUEL)

/-! impl_StoreOk -/
abbrev i122 : Shp := ⟨[(0, .row Y2)], []⟩
abbrev o122 : Shp := ⟨[(0, .c (.v .bool))], []⟩
noncomputable def c122 : Con := ⟨i122, o122, fun v => impl_StoreOk v.1.1⟩
noncomputable def l122 : List (Nat × Con) := [(120, c120), (150, c150), (151, c151)]
noncomputable def C122 : Cfg := ⟨T, gam l122, hintOf []⟩
theorem e122 (ω : List Bool) (v : i122.V) : enterF C122 c122 Tryz.f122 (fun _ _ => none) ω v = impl_StoreOk v.1.1 := by kernel_rfl
theorem s122 : SoundC Tryz.prog 122 c122 := sound_by0 (l := l122) tOk mx Tryz.func122 ⟨s120, s150, s151, trivial⟩ (by kernel_rfl) (by kernel_rfl) e122

/-! impl_copyInts -/
abbrev i163 : Shp := ⟨[(0, .c (.sl false tI))], []⟩
abbrev o163 : Shp := ⟨[(0, .c (.ref 0))], [.sl 9 tI]⟩
noncomputable def c163 : Con := ⟨i163, o163, fun v => impl_copyInts v.1.1⟩
noncomputable def l163 : List (Nat × Con) := []
noncomputable def C163 : Cfg := ⟨T, gam l163, hintOf []⟩
theorem e163 (ω : List Bool) (v : i163.V) : enterF C163 c163 Tryz.f163 (fun _ _ => none) ω v = impl_copyInts v.1.1 := by kernel_rfl
theorem s163 : SoundC Tryz.prog 163 c163 := sound_by0 (l := l163) tOk mx Tryz.func163 trivial (by kernel_rfl) (by kernel_rfl) e163

/-! slices_Index_int_int -/
abbrev i167 : Shp := ⟨[(0, .c (.sl false tI)), (1, .c (.v tI))], []⟩
abbrev o167 : Shp := ⟨[(0, .c (.v tI))], []⟩
noncomputable def c167 : Con := ⟨i167, o167, fun v => slices_Index_int_int v.1.1 v.1.2.1⟩
noncomputable def l167 : List (Nat × Con) := []
noncomputable def C167 : Cfg := ⟨T, gam l167, hintOf []⟩
abbrev h167_2 : Shp := ⟨[(0, .c (.sl false tI)), (1, .c (.v tI)), (7, .c (.v tI)), (8, .c (.v tI))], []⟩
noncomputable def j167 (n ℓ : Nat) (σ : St) : Option o167.V := if ℓ = 2 then jump 0 h167_2 (fun v => slices_Index_int_int_L2 n v.1.1 v.1.2.1 v.1.2.2.1 v.1.2.2.2.1) σ else none
theorem q167_2 (n : Nat) (v : h167_2.V) (ω : List Bool) : loopF C167 c167 Tryz.f167 (j167 n) 2 ω (h167_2.st 19 v) = slices_Index_int_int_step2 (slices_Index_int_int_L2 n) v.1.1 v.1.2.1 v.1.2.2.1 v.1.2.2.2.1 := by kernel_rfl
theorem e167 (n : Nat) (ω : List Bool) (v : i167.V) : enterF C167 c167 Tryz.f167 (j167 n) ω v = slices_Index_int_int_entry (slices_Index_int_int_L2 n) v.1.1 v.1.2.1 := by kernel_rfl
theorem s167 : SoundC Tryz.prog 167 c167 := sound_by (l := l167) (J := j167) (L := [2]) tOk mx Tryz.func167 trivial (by kernel_rfl) (by kernel_rfl)
  ⟨⟨h167_2, fun n v => slices_Index_int_int_L2 n v.1.1 v.1.2.1 v.1.2.2.1 v.1.2.2.2.1, fun _ => rfl, fun _ => rfl, q167_2⟩, trivial⟩ FUEL (e167 FUEL)

/-! slices_Contains_int_int -/
abbrev i165 : Shp := ⟨[(0, .c (.sl false tI)), (1, .c (.v tI))], []⟩
abbrev o165 : Shp := ⟨[(0, .c (.v .bool))], []⟩
noncomputable def c165 : Con := ⟨i165, o165, fun v => slices_Contains_int_int v.1.1 v.1.2.1⟩
noncomputable def l165 : List (Nat × Con) := [(167, c167)]
noncomputable def C165 : Cfg := ⟨T, gam l165, hintOf []⟩
theorem e165 (ω : List Bool) (v : i165.V) : enterF C165 c165 Tryz.f165 (fun _ _ => none) ω v = slices_Contains_int_int v.1.1 v.1.2.1 := by kernel_rfl
theorem s165 : SoundC Tryz.prog 165 c165 := sound_by0 (l := l165) tOk mx Tryz.func165 ⟨s167, trivial⟩ (by kernel_rfl) (by kernel_rfl) e165

/-! impl_both_1 -/
abbrev i164 : Shp := ⟨[(0, .c (.v tI)), (1, .c (.prow (.cons (.sl tI) .unit)))], []⟩
abbrev o164 : Shp := ⟨[(0, .c (.v .bool))], []⟩
noncomputable def c164 : Con := ⟨i164, o164, fun v => impl_both_1 v.1.1 v.1.2.1⟩
noncomputable def l164 : List (Nat × Con) := [(165, c165)]
noncomputable def C164 : Cfg := ⟨T, gam l164, hintOf []⟩
theorem e164 (ω : List Bool) (v : i164.V) : enterF C164 c164 Tryz.f164 (fun _ _ => none) ω v = impl_both_1 v.1.1 v.1.2.1 := by kernel_rfl
theorem s164 : SoundC Tryz.prog 164 c164 := sound_by0 (l := l164) tOk mx Tryz.func164 ⟨s165, trivial⟩ (by kernel_rfl) (by kernel_rfl) e164

/-! slices_IndexFunc_int_int_impl_both_1 -/
abbrev i166 : Shp := ⟨[(0, .c (.sl false tI)), (1, .c (.rfn 164 [(.cons (.sl tI) .unit)]))], []⟩
abbrev o166 : Shp := ⟨[(0, .c (.v tI))], []⟩
noncomputable def c166 : Con := ⟨i166, o166, fun v => slices_IndexFunc_int_int_impl_both_1 v.1.1 v.1.2.1⟩
noncomputable def l166 : List (Nat × Con) := [(164, c164)]
noncomputable def C166 : Cfg := ⟨T, gam l166, hintOf []⟩
abbrev h166_2 : Shp := ⟨[(0, .c (.sl false tI)), (1, .c (.rfn 164 [(.cons (.sl tI) .unit)])), (7, .c (.v tI)), (8, .c (.v tI))], []⟩
noncomputable def j166 (n ℓ : Nat) (σ : St) : Option o166.V := if ℓ = 2 then jump 0 h166_2 (fun v => slices_IndexFunc_int_int_impl_both_1_L2 n v.1.1 v.1.2.1 v.1.2.2.1 v.1.2.2.2.1) σ else none
theorem q166_2 (n : Nat) (v : h166_2.V) (ω : List Bool) : loopF C166 c166 Tryz.f166 (j166 n) 2 ω (h166_2.st 19 v) = slices_IndexFunc_int_int_impl_both_1_step2 (slices_IndexFunc_int_int_impl_both_1_L2 n) v.1.1 v.1.2.1 v.1.2.2.1 v.1.2.2.2.1 := by kernel_rfl
theorem e166 (n : Nat) (ω : List Bool) (v : i166.V) : enterF C166 c166 Tryz.f166 (j166 n) ω v = slices_IndexFunc_int_int_impl_both_1_entry (slices_IndexFunc_int_int_impl_both_1_L2 n) v.1.1 v.1.2.1 := by kernel_rfl
theorem s166 : SoundC Tryz.prog 166 c166 := sound_by (l := l166) (J := j166) (L := [2]) tOk mx Tryz.func166 ⟨s164, trivial⟩ (by kernel_rfl) (by kernel_rfl)
  ⟨⟨h166_2, fun n v => slices_IndexFunc_int_int_impl_both_1_L2 n v.1.1 v.1.2.1 v.1.2.2.1 v.1.2.2.2.1, fun _ => rfl, fun _ => rfl, q166_2⟩, trivial⟩ FUEL (e166 FUEL)

/-! slices_DeleteFunc_int_int_impl_both_1 -/
abbrev i162 : Shp := ⟨[(0, .c (.ref 0)), (1, .c (.rfn 164 [(.cons (.sl tI) .unit)]))], [.sl 1 tI]⟩
abbrev o162 : Shp := ⟨[(0, .c (.ref 1))], [.gone, .sl 1 tI]⟩
noncomputable def c162 : Con := ⟨i162, o162, fun v => slices_DeleteFunc_int_int_impl_both_1 v.1.2.1 v.2.1⟩
noncomputable def l162 : List (Nat × Con) := [(164, c164), (166, c166)]
noncomputable def C162 : Cfg := ⟨T, gam l162, hintOf []⟩
abbrev h162_5 : Shp := ⟨[(0, .c (.ref 0)), (1, .c (.rfn 164 [(.cons (.sl tI) .unit)])), (5, .c (.v tI)), (6, .c (.v tI))], [.sl 1 tI]⟩
noncomputable def j162 (n ℓ : Nat) (σ : St) : Option o162.V := if ℓ = 5 then jump 1 h162_5 (fun v => slices_DeleteFunc_int_int_impl_both_1_L5 n v.1.2.1 v.1.2.2.1 v.1.2.2.2.1 v.2.1) σ else none
theorem q162_5 (n : Nat) (v : h162_5.V) (ω : List Bool) : loopF C162 c162 Tryz.f162 (j162 n) 5 ω (h162_5.st 42 v) = slices_DeleteFunc_int_int_impl_both_1_step5 (slices_DeleteFunc_int_int_impl_both_1_L5 n) v.1.2.1 v.1.2.2.1 v.1.2.2.2.1 v.2.1 := by kernel_rfl
theorem e162 (n : Nat) (ω : List Bool) (v : i162.V) : enterF C162 c162 Tryz.f162 (j162 n) ω v = slices_DeleteFunc_int_int_impl_both_1_entry (slices_DeleteFunc_int_int_impl_both_1_L5 n) v.1.2.1 v.2.1 := by kernel_rfl
theorem s162 : SoundC Tryz.prog 162 c162 := sound_by (l := l162) (J := j162) (L := [5]) tOk mx Tryz.func162 ⟨s164, s166, trivial⟩ (by kernel_rfl) (by kernel_rfl)
  ⟨⟨h162_5, fun n v => slices_DeleteFunc_int_int_impl_both_1_L5 n v.1.2.1 v.1.2.2.1 v.1.2.2.2.1 v.2.1, fun _ => rfl, fun _ => rfl, q162_5⟩, trivial⟩ FUEL (e162 FUEL)

/-! impl_both -/
abbrev i152 : Shp := ⟨[(0, .c (.sl false tI)), (1, .c (.sl false tI))], []⟩
abbrev o152 : Shp := ⟨[(0, .c (.ref 0))], [.sl 1 tI]⟩
noncomputable def c152 : Con := ⟨i152, o152, fun v => impl_both v.1.1 v.1.2.1⟩
noncomputable def l152 : List (Nat × Con) := [(162, c162), (163, c163)]
noncomputable def C152 : Cfg := ⟨T, gam l152, hintOf []⟩
theorem e152 (ω : List Bool) (v : i152.V) : enterF C152 c152 Tryz.f152 (fun _ _ => none) ω v = impl_both v.1.1 v.1.2.1 := by kernel_rfl
theorem s152 : SoundC Tryz.prog 152 c152 := sound_by0 (l := l152) tOk mx Tryz.func152 ⟨s162, s163, trivial⟩ (by kernel_rfl) (by kernel_rfl) e152

/-! impl_World_isLost -/
abbrev i123 : Shp := ⟨[(0, .c (.prow Y11)), (1, .c (.v tI))], []⟩
abbrev o123 : Shp := ⟨[(0, .c (.v .bool))], []⟩
noncomputable def c123 : Con := ⟨i123, o123, fun v => impl_World_isLost v.1.1 v.1.2.1⟩
noncomputable def l123 : List (Nat × Con) := [(152, c152)]
noncomputable def C123 : Cfg := ⟨T, gam l123, hintOf []⟩
theorem e123 (ω : List Bool) (v : i123.V) : enterF C123 c123 Tryz.f123 (fun _ _ => none) ω v = impl_World_isLost v.1.1 v.1.2.1 := by kernel_rfl
theorem s123 : SoundC Tryz.prog 123 c123 := sound_by0 (l := l123) tOk mx Tryz.func123 ⟨s152, trivial⟩ (by kernel_rfl) (by kernel_rfl) e123

/-! impl_SpanOf -/
abbrev i153 : Shp := ⟨[(0, .row Y0), (1, .c (.sl false tI))], []⟩
abbrev o153 : Shp := ⟨[(0, .c (.v tI))], []⟩
noncomputable def c153 : Con := ⟨i153, o153, fun v => impl_SpanOf v.1.1 v.1.2.1⟩
noncomputable def l153 : List (Nat × Con) := [(121, c121), (165, c165)]
noncomputable def C153 : Cfg := ⟨T, gam l153, hintOf []⟩
abbrev h153_5 : Shp := ⟨[(2, .c (.ptr 0 0)), (5, .c (.ref 1)), (13, .c (.sl false tI)), (14, .c (.v tI)), (15, .c (.v tI))], [.mem [.sl false tI, .v tI], .sl 9 tI]⟩
noncomputable def j153 (n ℓ : Nat) (σ : St) : Option o153.V := if ℓ = 5 then jump 0 h153_5 (fun v => impl_SpanOf_L5 n v.1.2.2.1 v.1.2.2.2.1 v.1.2.2.2.2.1 v.2.1.1 v.2.1.2.1 v.2.2.1) σ else none
theorem q153_5 (n : Nat) (v : h153_5.V) (ω : List Bool) : loopF C153 c153 Tryz.f153 (j153 n) 5 ω (h153_5.st 38 v) = impl_SpanOf_step5 (impl_SpanOf_L5 n) v.1.2.2.1 v.1.2.2.2.1 v.1.2.2.2.2.1 v.2.1.1 v.2.1.2.1 v.2.2.1 := by kernel_rfl
theorem e153 (n : Nat) (ω : List Bool) (v : i153.V) : enterF C153 c153 Tryz.f153 (j153 n) ω v = impl_SpanOf_entry (impl_SpanOf_L5 n) v.1.1 v.1.2.1 := by kernel_rfl
theorem s153 : SoundC Tryz.prog 153 c153 := sound_by (l := l153) (J := j153) (L := [5]) tOk mx Tryz.func153 ⟨s121, s165, trivial⟩ (by kernel_rfl) (by kernel_rfl)
  ⟨⟨h153_5, fun n v => impl_SpanOf_L5 n v.1.2.2.1 v.1.2.2.2.1 v.1.2.2.2.2.1 v.2.1.1 v.2.1.2.1 v.2.2.1, fun _ => rfl, fun _ => rfl, q153_5⟩, trivial⟩ FUEL (e153 FUEL)

/-! impl_Holds -/
abbrev i124 : Shp := ⟨[(0, .row Y0), (1, .c (.sl false tI))], []⟩
abbrev o124 : Shp := ⟨[(0, .c (.v .bool))], []⟩
noncomputable def c124 : Con := ⟨i124, o124, fun v => impl_Holds v.1.1 v.1.2.1⟩
noncomputable def l124 : List (Nat × Con) := [(121, c121), (153, c153)]
noncomputable def C124 : Cfg := ⟨T, gam l124, hintOf [(1, [0])]⟩
theorem e124 (ω : List Bool) (v : i124.V) : enterF C124 c124 Tryz.f124 (fun _ _ => none) ω v = impl_Holds v.1.1 v.1.2.1 := by kernel_rfl
theorem s124 : SoundC Tryz.prog 124 c124 := sound_by0 (l := l124) tOk mx Tryz.func124 ⟨s121, s153, trivial⟩ (by kernel_rfl) (by kernel_rfl) e124

/-! impl_World_storesOk -/
abbrev i79 : Shp := ⟨[(0, .c (.prow Y11))], []⟩
abbrev o79 : Shp := ⟨[(0, .c (.v .bool))], []⟩
noncomputable def c79 : Con := ⟨i79, o79, fun v => impl_World_storesOk v.1.1⟩
noncomputable def l79 : List (Nat × Con) := [(121, c121), (122, c122), (123, c123), (124, c124)]
noncomputable def C79 : Cfg := ⟨T, gam l79, hintOf []⟩
abbrev h79_4 : Shp := ⟨[(0, .c (.prow Y11)), (32, .c (.sl false Y2)), (33, .c (.v tI)), (34, .c (.v tI))], []⟩
noncomputable def j79 (n ℓ : Nat) (σ : St) : Option o79.V := if ℓ = 4 then jump 0 h79_4 (fun v => impl_World_storesOk_L4 n v.1.1 v.1.2.1 v.1.2.2.1 v.1.2.2.2.1) σ else none
theorem q79_4 (n : Nat) (v : h79_4.V) (ω : List Bool) : loopF C79 c79 Tryz.f79 (j79 n) 4 ω (h79_4.st 77 v) = impl_World_storesOk_step4 (impl_World_storesOk_L4 n) v.1.1 v.1.2.1 v.1.2.2.1 v.1.2.2.2.1 := by kernel_rfl
theorem e79 (n : Nat) (ω : List Bool) (v : i79.V) : enterF C79 c79 Tryz.f79 (j79 n) ω v = impl_World_storesOk_entry (impl_World_storesOk_L4 n) v.1.1 := by kernel_rfl
theorem s79 : SoundC Tryz.prog 79 c79 := sound_by (l := l79) (J := j79) (L := [4]) tOk mx Tryz.func79 ⟨s121, s122, s123, s124, trivial⟩ (by kernel_rfl) (by kernel_rfl)
  ⟨⟨h79_4, fun n v => impl_World_storesOk_L4 n v.1.1 v.1.2.1 v.1.2.2.1 v.1.2.2.2.1, fun _ => rfl, fun _ => rfl, q79_4⟩, trivial⟩ FUEL (e79 FUEL)

/-! impl_eraOk -/
abbrev i125 : Shp := ⟨[(0, .row Y0), (1, .row Y3)], []⟩
abbrev o125 : Shp := ⟨[(0, .c (.v .bool))], []⟩
noncomputable def c125 : Con := ⟨i125, o125, fun v => impl_eraOk v.1.1 v.1.2.1⟩
noncomputable def l125 : List (Nat × Con) := [(120, c120), (124, c124)]
noncomputable def C125 : Cfg := ⟨T, gam l125, hintOf []⟩
theorem e125 (ω : List Bool) (v : i125.V) : enterF C125 c125 Tryz.f125 (fun _ _ => none) ω v = impl_eraOk v.1.1 v.1.2.1 := by kernel_rfl
theorem s125 : SoundC Tryz.prog 125 c125 := sound_by0 (l := l125) tOk mx Tryz.func125 ⟨s120, s124, trivial⟩ (by kernel_rfl) (by kernel_rfl) e125

/-! impl_RegOk -/
abbrev i80 : Shp := ⟨[(0, .row Y0), (1, .row Y4)], []⟩
abbrev o80 : Shp := ⟨[(0, .c (.v .bool))], []⟩
noncomputable def c80 : Con := ⟨i80, o80, fun v => impl_RegOk v.1.1 v.1.2.1⟩
noncomputable def l80 : List (Nat × Con) := [(78, c78), (93, c93), (120, c120), (125, c125)]
noncomputable def C80 : Cfg := ⟨T, gam l80, hintOf [(7, [0, 1])]⟩
abbrev h80_2 : Shp := ⟨[(2, .c (.ptr 0 0)), (3, .c (.ptr 1 0)), (9, .c (.sl false Y3)), (10, .c (.v tI)), (11, .c (.v tI))], [.mem [.sl false tI, .v tI], .mem [.sl false Y3, .v tI]]⟩
noncomputable def j80 (n ℓ : Nat) (σ : St) : Option o80.V := if ℓ = 2 then jump 0 h80_2 (fun v => impl_RegOk_L2 n v.1.2.2.1 v.1.2.2.2.1 v.1.2.2.2.2.1 v.2.1.1 v.2.1.2.1 v.2.2.1.1 v.2.2.1.2.1) σ else none
theorem q80_2 (n : Nat) (v : h80_2.V) (ω : List Bool) : loopF C80 c80 Tryz.f80 (j80 n) 2 ω (h80_2.st 70 v) = impl_RegOk_step2 (impl_RegOk_L2 n) v.1.2.2.1 v.1.2.2.2.1 v.1.2.2.2.2.1 v.2.1.1 v.2.1.2.1 v.2.2.1.1 v.2.2.1.2.1 := by kernel_rfl
theorem e80 (n : Nat) (ω : List Bool) (v : i80.V) : enterF C80 c80 Tryz.f80 (j80 n) ω v = impl_RegOk_entry (impl_RegOk_L2 n) v.1.1 v.1.2.1 := by kernel_rfl
theorem s80 : SoundC Tryz.prog 80 c80 := sound_by (l := l80) (J := j80) (L := [2]) tOk mx Tryz.func80 ⟨s78, s93, s120, s125, trivial⟩ (by kernel_rfl) (by kernel_rfl)
  ⟨⟨h80_2, fun n v => impl_RegOk_L2 n v.1.2.2.1 v.1.2.2.2.1 v.1.2.2.2.2.1 v.2.1.1 v.2.1.2.1 v.2.2.1.1 v.2.2.1.2.1, fun _ => rfl, fun _ => rfl, q80_2⟩, trivial⟩ FUEL (e80 FUEL)

/-! impl_flagNum -/
abbrev i154 : Shp := ⟨[(0, .c (.v .bool))], []⟩
abbrev o154 : Shp := ⟨[(0, .c (.v tI))], []⟩
noncomputable def c154 : Con := ⟨i154, o154, fun v => impl_flagNum v.1.1⟩
noncomputable def l154 : List (Nat × Con) := []
noncomputable def C154 : Cfg := ⟨T, gam l154, hintOf []⟩
theorem e154 (ω : List Bool) (v : i154.V) : enterF C154 c154 Tryz.f154 (fun _ _ => none) ω v = impl_flagNum v.1.1 := by kernel_rfl
theorem s154 : SoundC Tryz.prog 154 c154 := sound_by0 (l := l154) tOk mx Tryz.func154 trivial (by kernel_rfl) (by kernel_rfl) e154

/-! impl_WriterOk -/
abbrev i126 : Shp := ⟨[(0, .row Y0), (1, .row Y6)], []⟩
abbrev o126 : Shp := ⟨[(0, .c (.v .bool))], []⟩
noncomputable def c126 : Con := ⟨i126, o126, fun v => impl_WriterOk v.1.1 v.1.2.1⟩
noncomputable def l126 : List (Nat × Con) := [(78, c78), (96, c96), (121, c121), (124, c124), (131, c131), (154, c154)]
noncomputable def C126 : Cfg := ⟨T, gam l126, hintOf [(5, [0, 1, 2])]⟩
abbrev h126_3 : Shp := ⟨[(2, .c (.ptr 0 0)), (3, .c (.ptr 1 0)), (5, .c (.v tI)), (9, .c (.sl false Y5)), (10, .c (.v tI)), (11, .c (.v tI))], [.mem [.sl false tI, .v tI], .mem [.v tI, .sl false Y5]]⟩
noncomputable def j126 (n ℓ : Nat) (σ : St) : Option o126.V := if ℓ = 3 then jump 0 h126_3 (fun v => impl_WriterOk_L3 n v.1.2.2.1 v.1.2.2.2.1 v.1.2.2.2.2.1 v.1.2.2.2.2.2.1 v.2.1.1 v.2.1.2.1 v.2.2.1.1 v.2.2.1.2.1) σ else none
theorem q126_3 (n : Nat) (v : h126_3.V) (ω : List Bool) : loopF C126 c126 Tryz.f126 (j126 n) 3 ω (h126_3.st 59 v) = impl_WriterOk_step3 (impl_WriterOk_L3 n) v.1.2.2.1 v.1.2.2.2.1 v.1.2.2.2.2.1 v.1.2.2.2.2.2.1 v.2.1.1 v.2.1.2.1 v.2.2.1.1 v.2.2.1.2.1 := by kernel_rfl
theorem e126 (n : Nat) (ω : List Bool) (v : i126.V) : enterF C126 c126 Tryz.f126 (j126 n) ω v = impl_WriterOk_entry (impl_WriterOk_L3 n) v.1.1 v.1.2.1 := by kernel_rfl
theorem s126 : SoundC Tryz.prog 126 c126 := sound_by (l := l126) (J := j126) (L := [3]) tOk mx Tryz.func126 ⟨s78, s96, s121, s124, s131, s154, trivial⟩ (by kernel_rfl) (by kernel_rfl)
  ⟨⟨h126_3, fun n v => impl_WriterOk_L3 n v.1.2.2.1 v.1.2.2.2.1 v.1.2.2.2.2.1 v.1.2.2.2.2.2.1 v.2.1.1 v.2.1.2.1 v.2.2.1.1 v.2.2.1.2.1, fun _ => rfl, fun _ => rfl, q126_3⟩, trivial⟩ FUEL (e126 FUEL)

/-! impl_World_isThere -/
abbrev i127 : Shp := ⟨[(0, .c (.prow Y11)), (1, .c (.v tI))], []⟩
abbrev o127 : Shp := ⟨[(0, .c (.v .bool))], []⟩
noncomputable def c127 : Con := ⟨i127, o127, fun v => impl_World_isThere v.1.1 v.1.2.1⟩
noncomputable def l127 : List (Nat × Con) := [(120, c120)]
noncomputable def C127 : Cfg := ⟨T, gam l127, hintOf []⟩
theorem e127 (ω : List Bool) (v : i127.V) : enterF C127 c127 Tryz.f127 (fun _ _ => none) ω v = impl_World_isThere v.1.1 v.1.2.1 := by kernel_rfl
theorem s127 : SoundC Tryz.prog 127 c127 := sound_by0 (l := l127) tOk mx Tryz.func127 ⟨s120, trivial⟩ (by kernel_rfl) (by kernel_rfl) e127

/-! impl_World_writersOk -/
abbrev i81 : Shp := ⟨[(0, .c (.prow Y11))], []⟩
abbrev o81 : Shp := ⟨[(0, .c (.v .bool))], []⟩
noncomputable def c81 : Con := ⟨i81, o81, fun v => impl_World_writersOk v.1.1⟩
noncomputable def l81 : List (Nat × Con) := [(126, c126), (127, c127)]
noncomputable def C81 : Cfg := ⟨T, gam l81, hintOf [(4, [0])]⟩
abbrev h81_2 : Shp := ⟨[(0, .c (.prow Y11)), (8, .c (.sl false Y6)), (9, .c (.v tI)), (10, .c (.v tI))], []⟩
noncomputable def j81 (n ℓ : Nat) (σ : St) : Option o81.V := if ℓ = 2 then jump 0 h81_2 (fun v => impl_World_writersOk_L2 n v.1.1 v.1.2.1 v.1.2.2.1 v.1.2.2.2.1) σ else none
theorem q81_2 (n : Nat) (v : h81_2.V) (ω : List Bool) : loopF C81 c81 Tryz.f81 (j81 n) 2 ω (h81_2.st 54 v) = impl_World_writersOk_step2 (impl_World_writersOk_L2 n) v.1.1 v.1.2.1 v.1.2.2.1 v.1.2.2.2.1 := by kernel_rfl
theorem e81 (n : Nat) (ω : List Bool) (v : i81.V) : enterF C81 c81 Tryz.f81 (j81 n) ω v = impl_World_writersOk_entry (impl_World_writersOk_L2 n) v.1.1 := by kernel_rfl
theorem s81 : SoundC Tryz.prog 81 c81 := sound_by (l := l81) (J := j81) (L := [2]) tOk mx Tryz.func81 ⟨s126, s127, trivial⟩ (by kernel_rfl) (by kernel_rfl)
  ⟨⟨h81_2, fun n v => impl_World_writersOk_L2 n v.1.1 v.1.2.1 v.1.2.2.1 v.1.2.2.2.1, fun _ => rfl, fun _ => rfl, q81_2⟩, trivial⟩ FUEL (e81 FUEL)

/-! impl_OffOf -/
abbrev i94 : Shp := ⟨[(0, .c (.v tI))], []⟩
abbrev o94 : Shp := ⟨[(0, .c (.v tI))], []⟩
noncomputable def c94 : Con := ⟨i94, o94, fun v => impl_OffOf v.1.1⟩
noncomputable def l94 : List (Nat × Con) := [(61, c61)]
noncomputable def C94 : Cfg := ⟨T, gam l94, hintOf []⟩
theorem e94 (ω : List Bool) (v : i94.V) : enterF C94 c94 Tryz.f94 (fun _ _ => none) ω v = impl_OffOf v.1.1 := by kernel_rfl
theorem s94 : SoundC Tryz.prog 94 c94 := sound_by0 (l := l94) tOk mx Tryz.func94 ⟨s61, trivial⟩ (by kernel_rfl) (by kernel_rfl) e94

/-! impl_lastOff -/
abbrev i155 : Shp := ⟨[(0, .row Y7)], []⟩
abbrev o155 : Shp := ⟨[(0, .c (.v tI))], []⟩
noncomputable def c155 : Con := ⟨i155, o155, fun v => impl_lastOff v.1.1⟩
noncomputable def l155 : List (Nat × Con) := [(94, c94)]
noncomputable def C155 : Cfg := ⟨T, gam l155, hintOf []⟩
theorem e155 (ω : List Bool) (v : i155.V) : enterF C155 c155 Tryz.f155 (fun _ _ => none) ω v = impl_lastOff v.1.1 := by kernel_rfl
theorem s155 : SoundC Tryz.prog 155 c155 := sound_by0 (l := l155) tOk mx Tryz.func155 ⟨s94, trivial⟩ (by kernel_rfl) (by kernel_rfl) e155

/-! impl_seenOk -/
abbrev i156 : Shp := ⟨[(0, .row Y7)], []⟩
abbrev o156 : Shp := ⟨[(0, .c (.v .bool))], []⟩
noncomputable def c156 : Con := ⟨i156, o156, fun v => impl_seenOk v.1.1⟩
noncomputable def l156 : List (Nat × Con) := [(93, c93), (151, c151), (161, c161)]
noncomputable def C156 : Cfg := ⟨T, gam l156, hintOf [(4, [0, 1])]⟩
abbrev h156_2 : Shp := ⟨[(1, .c (.ptr 0 0)), (6, .c (.sl false Y1)), (7, .c (.v tI)), (8, .c (.v tI))], [.mem [.v tI, .v tI, .sl false tI, .sl false Y1, .v .bool, .sl false (.sl tI)]]⟩
noncomputable def j156 (n ℓ : Nat) (σ : St) : Option o156.V := if ℓ = 2 then jump 0 h156_2 (fun v => impl_seenOk_L2 n v.1.2.1 v.1.2.2.1 v.1.2.2.2.1 v.2.1.1 v.2.1.2.1 v.2.1.2.2.1 v.2.1.2.2.2.1 v.2.1.2.2.2.2.1 v.2.1.2.2.2.2.2.1) σ else none
theorem q156_2 (n : Nat) (v : h156_2.V) (ω : List Bool) : loopF C156 c156 Tryz.f156 (j156 n) 2 ω (h156_2.st 34 v) = impl_seenOk_step2 (impl_seenOk_L2 n) v.1.2.1 v.1.2.2.1 v.1.2.2.2.1 v.2.1.1 v.2.1.2.1 v.2.1.2.2.1 v.2.1.2.2.2.1 v.2.1.2.2.2.2.1 v.2.1.2.2.2.2.2.1 := by kernel_rfl
theorem e156 (n : Nat) (ω : List Bool) (v : i156.V) : enterF C156 c156 Tryz.f156 (j156 n) ω v = impl_seenOk_entry (impl_seenOk_L2 n) v.1.1 := by kernel_rfl
theorem s156 : SoundC Tryz.prog 156 c156 := sound_by (l := l156) (J := j156) (L := [2]) tOk mx Tryz.func156 ⟨s93, s151, s161, trivial⟩ (by kernel_rfl) (by kernel_rfl)
  ⟨⟨h156_2, fun n v => impl_seenOk_L2 n v.1.2.1 v.1.2.2.1 v.1.2.2.2.1 v.2.1.1 v.2.1.2.1 v.2.1.2.2.1 v.2.1.2.2.2.1 v.2.1.2.2.2.2.1 v.2.1.2.2.2.2.2.1, fun _ => rfl, fun _ => rfl, q156_2⟩, trivial⟩ FUEL (e156 FUEL)

/-! impl_MendOk -/
abbrev i128 : Shp := ⟨[(0, .row Y0), (1, .row Y7)], []⟩
abbrev o128 : Shp := ⟨[(0, .c (.v .bool))], []⟩
noncomputable def c128 : Con := ⟨i128, o128, fun v => impl_MendOk v.1.1 v.1.2.1⟩
noncomputable def l128 : List (Nat × Con) := [(78, c78), (96, c96), (120, c120), (121, c121), (155, c155), (156, c156)]
noncomputable def C128 : Cfg := ⟨T, gam l128, hintOf []⟩
abbrev h128_2 : Shp := ⟨[(2, .c (.ptr 0 0)), (3, .c (.ptr 1 0)), (10, .c (.sl false (.sl tI))), (11, .c (.v tI)), (12, .c (.v tI))], [.mem [.sl false tI, .v tI], .mem [.v tI, .v tI, .sl false tI, .sl false Y1, .v .bool, .sl false (.sl tI)]]⟩
noncomputable def j128 (n ℓ : Nat) (σ : St) : Option o128.V := if ℓ = 2 then jump 0 h128_2 (fun v => impl_MendOk_L2 n v.1.2.2.1 v.1.2.2.2.1 v.1.2.2.2.2.1 v.2.1.1 v.2.1.2.1 v.2.2.1.1 v.2.2.1.2.1 v.2.2.1.2.2.1 v.2.2.1.2.2.2.1 v.2.2.1.2.2.2.2.1 v.2.2.1.2.2.2.2.2.1) σ else none
theorem q128_2 (n : Nat) (v : h128_2.V) (ω : List Bool) : loopF C128 c128 Tryz.f128 (j128 n) 2 ω (h128_2.st 58 v) = impl_MendOk_step2 (impl_MendOk_L2 n) v.1.2.2.1 v.1.2.2.2.1 v.1.2.2.2.2.1 v.2.1.1 v.2.1.2.1 v.2.2.1.1 v.2.2.1.2.1 v.2.2.1.2.2.1 v.2.2.1.2.2.2.1 v.2.2.1.2.2.2.2.1 v.2.2.1.2.2.2.2.2.1 := by kernel_rfl
theorem e128 (n : Nat) (ω : List Bool) (v : i128.V) : enterF C128 c128 Tryz.f128 (j128 n) ω v = impl_MendOk_entry (impl_MendOk_L2 n) v.1.1 v.1.2.1 := by kernel_rfl
theorem s128 : SoundC Tryz.prog 128 c128 := sound_by (l := l128) (J := j128) (L := [2]) tOk mx Tryz.func128 ⟨s78, s96, s120, s121, s155, s156, trivial⟩ (by kernel_rfl) (by kernel_rfl)
  ⟨⟨h128_2, fun n v => impl_MendOk_L2 n v.1.2.2.1 v.1.2.2.2.1 v.1.2.2.2.2.1 v.2.1.1 v.2.1.2.1 v.2.2.1.1 v.2.2.1.2.1 v.2.2.1.2.2.1 v.2.2.1.2.2.2.1 v.2.2.1.2.2.2.2.1 v.2.2.1.2.2.2.2.2.1, fun _ => rfl, fun _ => rfl, q128_2⟩, trivial⟩ FUEL (e128 FUEL)

/-! impl_FirstOpen -/
abbrev i129 : Shp := ⟨[(0, .row Y4)], []⟩
abbrev o129 : Shp := ⟨[(0, .c (.v tI))], []⟩
noncomputable def c129 : Con := ⟨i129, o129, fun v => impl_FirstOpen v.1.1⟩
noncomputable def l129 : List (Nat × Con) := []
noncomputable def C129 : Cfg := ⟨T, gam l129, hintOf []⟩
abbrev h129_2 : Shp := ⟨[(6, .c (.sl false Y3)), (7, .c (.v tI)), (8, .c (.v tI))], []⟩
noncomputable def j129 (n ℓ : Nat) (σ : St) : Option o129.V := if ℓ = 2 then jump 0 h129_2 (fun v => impl_FirstOpen_L2 n v.1.1 v.1.2.1 v.1.2.2.1) σ else none
theorem q129_2 (n : Nat) (v : h129_2.V) (ω : List Bool) : loopF C129 c129 Tryz.f129 (j129 n) 2 ω (h129_2.st 19 v) = impl_FirstOpen_step2 (impl_FirstOpen_L2 n) v.1.1 v.1.2.1 v.1.2.2.1 := by kernel_rfl
theorem e129 (n : Nat) (ω : List Bool) (v : i129.V) : enterF C129 c129 Tryz.f129 (j129 n) ω v = impl_FirstOpen_entry (impl_FirstOpen_L2 n) v.1.1 := by kernel_rfl
theorem s129 : SoundC Tryz.prog 129 c129 := sound_by (l := l129) (J := j129) (L := [2]) tOk mx Tryz.func129 trivial (by kernel_rfl) (by kernel_rfl)
  ⟨⟨h129_2, fun n v => impl_FirstOpen_L2 n v.1.1 v.1.2.1 v.1.2.2.1, fun _ => rfl, fun _ => rfl, q129_2⟩, trivial⟩ FUEL (e129 FUEL)

/-! impl_World_mendsOk -/
abbrev i82 : Shp := ⟨[(0, .c (.prow Y11))], []⟩
abbrev o82 : Shp := ⟨[(0, .c (.v .bool))], []⟩
noncomputable def c82 : Con := ⟨i82, o82, fun v => impl_World_mendsOk v.1.1⟩
noncomputable def l82 : List (Nat × Con) := [(128, c128), (129, c129)]
noncomputable def C82 : Cfg := ⟨T, gam l82, hintOf [(4, [0])]⟩
abbrev h82_2 : Shp := ⟨[(0, .c (.prow Y11)), (8, .c (.sl false Y7)), (9, .c (.v tI)), (10, .c (.v tI))], []⟩
noncomputable def j82 (n ℓ : Nat) (σ : St) : Option o82.V := if ℓ = 2 then jump 0 h82_2 (fun v => impl_World_mendsOk_L2 n v.1.1 v.1.2.1 v.1.2.2.1 v.1.2.2.2.1) σ else none
theorem q82_2 (n : Nat) (v : h82_2.V) (ω : List Bool) : loopF C82 c82 Tryz.f82 (j82 n) 2 ω (h82_2.st 49 v) = impl_World_mendsOk_step2 (impl_World_mendsOk_L2 n) v.1.1 v.1.2.1 v.1.2.2.1 v.1.2.2.2.1 := by kernel_rfl
theorem e82 (n : Nat) (ω : List Bool) (v : i82.V) : enterF C82 c82 Tryz.f82 (j82 n) ω v = impl_World_mendsOk_entry (impl_World_mendsOk_L2 n) v.1.1 := by kernel_rfl
theorem s82 : SoundC Tryz.prog 82 c82 := sound_by (l := l82) (J := j82) (L := [2]) tOk mx Tryz.func82 ⟨s128, s129, trivial⟩ (by kernel_rfl) (by kernel_rfl)
  ⟨⟨h82_2, fun n v => impl_World_mendsOk_L2 n v.1.1 v.1.2.1 v.1.2.2.1 v.1.2.2.2.1, fun _ => rfl, fun _ => rfl, q82_2⟩, trivial⟩ FUEL (e82 FUEL)

/-! impl_ReaderOk -/
abbrev i130 : Shp := ⟨[(0, .row Y9)], []⟩
abbrev o130 : Shp := ⟨[(0, .c (.v .bool))], []⟩
noncomputable def c130 : Con := ⟨i130, o130, fun v => impl_ReaderOk v.1.1⟩
noncomputable def l130 : List (Nat × Con) := [(120, c120)]
noncomputable def C130 : Cfg := ⟨T, gam l130, hintOf []⟩
theorem e130 (ω : List Bool) (v : i130.V) : enterF C130 c130 Tryz.f130 (fun _ _ => none) ω v = impl_ReaderOk v.1.1 := by kernel_rfl
theorem s130 : SoundC Tryz.prog 130 c130 := sound_by0 (l := l130) tOk mx Tryz.func130 ⟨s120, trivial⟩ (by kernel_rfl) (by kernel_rfl) e130

/-! impl_World_readersOk -/
abbrev i83 : Shp := ⟨[(0, .c (.prow Y11))], []⟩
abbrev o83 : Shp := ⟨[(0, .c (.v .bool))], []⟩
noncomputable def c83 : Con := ⟨i83, o83, fun v => impl_World_readersOk v.1.1⟩
noncomputable def l83 : List (Nat × Con) := [(130, c130)]
noncomputable def C83 : Cfg := ⟨T, gam l83, hintOf []⟩
abbrev h83_2 : Shp := ⟨[(0, .c (.prow Y11)), (8, .c (.sl false Y9)), (9, .c (.v tI)), (10, .c (.v tI))], []⟩
noncomputable def j83 (n ℓ : Nat) (σ : St) : Option o83.V := if ℓ = 2 then jump 0 h83_2 (fun v => impl_World_readersOk_L2 n v.1.1 v.1.2.1 v.1.2.2.1 v.1.2.2.2.1) σ else none
theorem q83_2 (n : Nat) (v : h83_2.V) (ω : List Bool) : loopF C83 c83 Tryz.f83 (j83 n) 2 ω (h83_2.st 24 v) = impl_World_readersOk_step2 (impl_World_readersOk_L2 n) v.1.1 v.1.2.1 v.1.2.2.1 v.1.2.2.2.1 := by kernel_rfl
theorem e83 (n : Nat) (ω : List Bool) (v : i83.V) : enterF C83 c83 Tryz.f83 (j83 n) ω v = impl_World_readersOk_entry (impl_World_readersOk_L2 n) v.1.1 := by kernel_rfl
theorem s83 : SoundC Tryz.prog 83 c83 := sound_by (l := l83) (J := j83) (L := [2]) tOk mx Tryz.func83 ⟨s130, trivial⟩ (by kernel_rfl) (by kernel_rfl)
  ⟨⟨h83_2, fun n v => impl_World_readersOk_L2 n v.1.1 v.1.2.1 v.1.2.2.1 v.1.2.2.2.1, fun _ => rfl, fun _ => rfl, q83_2⟩, trivial⟩ FUEL (e83 FUEL)

/-! impl_World_sentOk -/
abbrev i84 : Shp := ⟨[(0, .c (.prow Y11))], []⟩
abbrev o84 : Shp := ⟨[(0, .c (.v .bool))], []⟩
noncomputable def c84 : Con := ⟨i84, o84, fun v => impl_World_sentOk v.1.1⟩
noncomputable def l84 : List (Nat × Con) := [(93, c93), (127, c127), (131, c131)]
noncomputable def C84 : Cfg := ⟨T, gam l84, hintOf [(4, [0])]⟩
abbrev h84_2 : Shp := ⟨[(0, .c (.prow Y11)), (8, .c (.sl false Y10)), (9, .c (.v tI)), (10, .c (.v tI))], []⟩
noncomputable def j84 (n ℓ : Nat) (σ : St) : Option o84.V := if ℓ = 2 then jump 0 h84_2 (fun v => impl_World_sentOk_L2 n v.1.1 v.1.2.1 v.1.2.2.1 v.1.2.2.2.1) σ else none
theorem q84_2 (n : Nat) (v : h84_2.V) (ω : List Bool) : loopF C84 c84 Tryz.f84 (j84 n) 2 ω (h84_2.st 52 v) = impl_World_sentOk_step2 (impl_World_sentOk_L2 n) v.1.1 v.1.2.1 v.1.2.2.1 v.1.2.2.2.1 := by kernel_rfl
theorem e84 (n : Nat) (ω : List Bool) (v : i84.V) : enterF C84 c84 Tryz.f84 (j84 n) ω v = impl_World_sentOk_entry (impl_World_sentOk_L2 n) v.1.1 := by kernel_rfl
theorem s84 : SoundC Tryz.prog 84 c84 := sound_by (l := l84) (J := j84) (L := [2]) tOk mx Tryz.func84 ⟨s93, s127, s131, trivial⟩ (by kernel_rfl) (by kernel_rfl)
  ⟨⟨h84_2, fun n v => impl_World_sentOk_L2 n v.1.1 v.1.2.1 v.1.2.2.1 v.1.2.2.2.1, fun _ => rfl, fun _ => rfl, q84_2⟩, trivial⟩ FUEL (e84 FUEL)

/-! impl_WorldOk -/
abbrev i41 : Shp := ⟨[(0, .row Y11)], []⟩
abbrev o41 : Shp := ⟨[(0, .c (.v .bool))], []⟩
noncomputable def c41 : Con := ⟨i41, o41, fun v => impl_WorldOk v.1.1⟩
noncomputable def l41 : List (Nat × Con) := [(78, c78), (79, c79), (80, c80), (81, c81), (82, c82), (83, c83), (84, c84)]
noncomputable def C41 : Cfg := ⟨T, gam l41, hintOf []⟩
theorem e41 (ω : List Bool) (v : i41.V) : enterF C41 c41 Tryz.f41 (fun _ _ => none) ω v = impl_WorldOk v.1.1 := by kernel_rfl
theorem s41 : SoundC Tryz.prog 41 c41 := sound_by0 (l := l41) tOk mx Tryz.func41 ⟨s78, s79, s80, s81, s82, s83, s84, trivial⟩ (by kernel_rfl) (by kernel_rfl) e41

/-! impl_told -/
abbrev i58 : Shp := ⟨[(0, .row Y9), (1, .c (.v tI))], []⟩
abbrev o58 : Shp := ⟨[(0, .tup [.inl (.v .str), .inl (.v .bool)])], []⟩
noncomputable def c58 : Con := ⟨i58, o58, fun v => impl_told v.1.1 v.1.2.1⟩
noncomputable def l58 : List (Nat × Con) := []
noncomputable def C58 : Cfg := ⟨T, gam l58, hintOf []⟩
abbrev h58_2 : Shp := ⟨[(1, .c (.v tI)), (9, .c (.sl false Y8)), (10, .c (.v tI)), (11, .c (.v tI))], []⟩
noncomputable def j58 (n ℓ : Nat) (σ : St) : Option o58.V := if ℓ = 2 then jump 0 h58_2 (fun v => impl_told_L2 n v.1.1 v.1.2.1 v.1.2.2.1 v.1.2.2.2.1) σ else none
theorem q58_2 (n : Nat) (v : h58_2.V) (ω : List Bool) : loopF C58 c58 Tryz.f58 (j58 n) 2 ω (h58_2.st 27 v) = impl_told_step2 (impl_told_L2 n) v.1.1 v.1.2.1 v.1.2.2.1 v.1.2.2.2.1 := by kernel_rfl
theorem e58 (n : Nat) (ω : List Bool) (v : i58.V) : enterF C58 c58 Tryz.f58 (j58 n) ω v = impl_told_entry (impl_told_L2 n) v.1.1 v.1.2.1 := by kernel_rfl
theorem s58 : SoundC Tryz.prog 58 c58 := sound_by (l := l58) (J := j58) (L := [2]) tOk mx Tryz.func58 trivial (by kernel_rfl) (by kernel_rfl)
  ⟨⟨h58_2, fun n v => impl_told_L2 n v.1.1 v.1.2.1 v.1.2.2.1 v.1.2.2.2.1, fun _ => rfl, fun _ => rfl, q58_2⟩, trivial⟩ FUEL (e58 FUEL)

/-! impl_isAhead -/
abbrev i59 : Shp := ⟨[(0, .c (.v tI)), (1, .row Y9)], []⟩
abbrev o59 : Shp := ⟨[(0, .c (.v .bool))], []⟩
noncomputable def c59 : Con := ⟨i59, o59, fun v => impl_isAhead v.1.1 v.1.2.1⟩
noncomputable def l59 : List (Nat × Con) := [(93, c93), (94, c94)]
noncomputable def C59 : Cfg := ⟨T, gam l59, hintOf [(2, [0])]⟩
theorem e59 (ω : List Bool) (v : i59.V) : enterF C59 c59 Tryz.f59 (fun _ _ => none) ω v = impl_isAhead v.1.1 v.1.2.1 := by kernel_rfl
theorem s59 : SoundC Tryz.prog 59 c59 := sound_by0 (l := l59) tOk mx Tryz.func59 ⟨s93, s94, trivial⟩ (by kernel_rfl) (by kernel_rfl) e59

/-! impl_JudgeKept -/
abbrev i21 : Shp := ⟨[(0, .row Y11)], []⟩
abbrev o21 : Shp := ⟨[(0, .c (.v .bool))], []⟩
noncomputable def c21 : Con := ⟨i21, o21, fun v => impl_JudgeKept v.1.1⟩
noncomputable def l21 : List (Nat × Con) := [(41, c41), (58, c58), (59, c59)]
noncomputable def C21 : Cfg := ⟨T, gam l21, hintOf []⟩
abbrev h21_7 : Shp := ⟨[(1, .c (.ptr 0 0)), (4, .c (.ptr 1 0)), (19, .c (.sl false Y9)), (20, .c (.v tI)), (21, .c (.v tI)), (26, .c (.sl false Y10)), (27, .c (.v tI)), (28, .c (.v tI))], [.mem [.sl false tI, .v tI, .sl false Y2, .sl false tI, .sl false Y3, .v tI, .sl false Y6, .sl false Y7, .sl false Y9, .sl false Y10, .v .bool], .mem [.v tI, .v tI, .sl false Y8]]⟩
abbrev h21_4 : Shp := ⟨[(1, .c (.ptr 0 0)), (19, .c (.sl false Y9)), (20, .c (.v tI)), (21, .c (.v tI))], [.mem [.sl false tI, .v tI, .sl false Y2, .sl false tI, .sl false Y3, .v tI, .sl false Y6, .sl false Y7, .sl false Y9, .sl false Y10, .v .bool]]⟩
noncomputable def j21 (n ℓ : Nat) (σ : St) : Option o21.V := if ℓ = 4 then jump 0 h21_4 (fun v => impl_JudgeKept_L4 n v.1.2.1 v.1.2.2.1 v.1.2.2.2.1 v.2.1.1 v.2.1.2.1 v.2.1.2.2.1 v.2.1.2.2.2.1 v.2.1.2.2.2.2.1 v.2.1.2.2.2.2.2.1 v.2.1.2.2.2.2.2.2.1 v.2.1.2.2.2.2.2.2.2.1 v.2.1.2.2.2.2.2.2.2.2.1 v.2.1.2.2.2.2.2.2.2.2.2.1 v.2.1.2.2.2.2.2.2.2.2.2.2.1) σ else if ℓ = 7 then jump 0 h21_7 (fun v => impl_JudgeKept_L7 n v.1.2.2.1 v.1.2.2.2.1 v.1.2.2.2.2.1 v.1.2.2.2.2.2.1 v.1.2.2.2.2.2.2.1 v.1.2.2.2.2.2.2.2.1 v.2.1.1 v.2.1.2.1 v.2.1.2.2.1 v.2.1.2.2.2.1 v.2.1.2.2.2.2.1 v.2.1.2.2.2.2.2.1 v.2.1.2.2.2.2.2.2.1 v.2.1.2.2.2.2.2.2.2.1 v.2.1.2.2.2.2.2.2.2.2.1 v.2.1.2.2.2.2.2.2.2.2.2.1 v.2.1.2.2.2.2.2.2.2.2.2.2.1 v.2.2.1.1 v.2.2.1.2.1 v.2.2.1.2.2.1) σ else none
theorem q21_4 (n : Nat) (v : h21_4.V) (ω : List Bool) : loopF C21 c21 Tryz.f21 (j21 n) 4 ω (h21_4.st 61 v) = impl_JudgeKept_step4 (impl_JudgeKept_L4 n) (impl_JudgeKept_L7 n) v.1.2.1 v.1.2.2.1 v.1.2.2.2.1 v.2.1.1 v.2.1.2.1 v.2.1.2.2.1 v.2.1.2.2.2.1 v.2.1.2.2.2.2.1 v.2.1.2.2.2.2.2.1 v.2.1.2.2.2.2.2.2.1 v.2.1.2.2.2.2.2.2.2.1 v.2.1.2.2.2.2.2.2.2.2.1 v.2.1.2.2.2.2.2.2.2.2.2.1 v.2.1.2.2.2.2.2.2.2.2.2.2.1 := by kernel_rfl
theorem q21_7 (n : Nat) (v : h21_7.V) (ω : List Bool) : loopF C21 c21 Tryz.f21 (j21 n) 7 ω (h21_7.st 61 v) = impl_JudgeKept_step7 (impl_JudgeKept_L4 n) (impl_JudgeKept_L7 n) v.1.2.2.1 v.1.2.2.2.1 v.1.2.2.2.2.1 v.1.2.2.2.2.2.1 v.1.2.2.2.2.2.2.1 v.1.2.2.2.2.2.2.2.1 v.2.1.1 v.2.1.2.1 v.2.1.2.2.1 v.2.1.2.2.2.1 v.2.1.2.2.2.2.1 v.2.1.2.2.2.2.2.1 v.2.1.2.2.2.2.2.2.1 v.2.1.2.2.2.2.2.2.2.1 v.2.1.2.2.2.2.2.2.2.2.1 v.2.1.2.2.2.2.2.2.2.2.2.1 v.2.1.2.2.2.2.2.2.2.2.2.2.1 v.2.2.1.1 v.2.2.1.2.1 v.2.2.1.2.2.1 := by kernel_rfl
theorem e21 (n : Nat) (ω : List Bool) (v : i21.V) : enterF C21 c21 Tryz.f21 (j21 n) ω v = impl_JudgeKept_entry (impl_JudgeKept_L4 n) (impl_JudgeKept_L7 n) v.1.1 := by kernel_rfl
theorem s21 : SoundC Tryz.prog 21 c21 := sound_by (l := l21) (J := j21) (L := [4, 7]) tOk mx Tryz.func21 ⟨s41, s58, s59, trivial⟩ (by kernel_rfl) (by kernel_rfl)
  ⟨⟨h21_4, fun n v => impl_JudgeKept_L4 n v.1.2.1 v.1.2.2.1 v.1.2.2.2.1 v.2.1.1 v.2.1.2.1 v.2.1.2.2.1 v.2.1.2.2.2.1 v.2.1.2.2.2.2.1 v.2.1.2.2.2.2.2.1 v.2.1.2.2.2.2.2.2.1 v.2.1.2.2.2.2.2.2.2.1 v.2.1.2.2.2.2.2.2.2.2.1 v.2.1.2.2.2.2.2.2.2.2.2.1 v.2.1.2.2.2.2.2.2.2.2.2.2.1, fun _ => rfl, fun _ => rfl, q21_4⟩, ⟨⟨h21_7, fun n v => impl_JudgeKept_L7 n v.1.2.2.1 v.1.2.2.2.1 v.1.2.2.2.2.1 v.1.2.2.2.2.2.1 v.1.2.2.2.2.2.2.1 v.1.2.2.2.2.2.2.2.1 v.2.1.1 v.2.1.2.1 v.2.1.2.2.1 v.2.1.2.2.2.1 v.2.1.2.2.2.2.1 v.2.1.2.2.2.2.2.1 v.2.1.2.2.2.2.2.2.1 v.2.1.2.2.2.2.2.2.2.1 v.2.1.2.2.2.2.2.2.2.2.1 v.2.1.2.2.2.2.2.2.2.2.2.1 v.2.1.2.2.2.2.2.2.2.2.2.2.1 v.2.2.1.1 v.2.2.1.2.1 v.2.2.1.2.2.1, fun _ => rfl, fun _ => rfl, q21_7⟩, trivial⟩⟩ FUEL (e21 FUEL)

/-! laws_eqIntS -/
abbrev i44 : Shp := ⟨[(0, .c (.sl false tI)), (1, .c (.sl false tI))], []⟩
abbrev o44 : Shp := ⟨[(0, .c (.v .bool))], []⟩
noncomputable def c44 : Con := ⟨i44, o44, fun v => laws_eqIntS v.1.1 v.1.2.1⟩
noncomputable def l44 : List (Nat × Con) := []
noncomputable def C44 : Cfg := ⟨T, gam l44, hintOf []⟩
abbrev h44_4 : Shp := ⟨[(0, .c (.sl false tI)), (1, .c (.sl false tI)), (5, .c (.v tI))], []⟩
noncomputable def j44 (n ℓ : Nat) (σ : St) : Option o44.V := if ℓ = 4 then jump 0 h44_4 (fun v => laws_eqIntS_L4 n v.1.1 v.1.2.1 v.1.2.2.1) σ else none
theorem q44_4 (n : Nat) (v : h44_4.V) (ω : List Bool) : loopF C44 c44 Tryz.f44 (j44 n) 4 ω (h44_4.st 26 v) = laws_eqIntS_step4 (laws_eqIntS_L4 n) v.1.1 v.1.2.1 v.1.2.2.1 := by kernel_rfl
theorem e44 (n : Nat) (ω : List Bool) (v : i44.V) : enterF C44 c44 Tryz.f44 (j44 n) ω v = laws_eqIntS_entry (laws_eqIntS_L4 n) v.1.1 v.1.2.1 := by kernel_rfl
theorem s44 : SoundC Tryz.prog 44 c44 := sound_by (l := l44) (J := j44) (L := [4]) tOk mx Tryz.func44 trivial (by kernel_rfl) (by kernel_rfl)
  ⟨⟨h44_4, fun n v => laws_eqIntS_L4 n v.1.1 v.1.2.1 v.1.2.2.1, fun _ => rfl, fun _ => rfl, q44_4⟩, trivial⟩ FUEL (e44 FUEL)

/-! laws_eqConfig -/
abbrev i42 : Shp := ⟨[(0, .row Y0), (1, .row Y0)], []⟩
abbrev o42 : Shp := ⟨[(0, .c (.v .bool))], []⟩
noncomputable def c42 : Con := ⟨i42, o42, fun v => laws_eqConfig v.1.1 v.1.2.1⟩
noncomputable def l42 : List (Nat × Con) := [(44, c44)]
noncomputable def C42 : Cfg := ⟨T, gam l42, hintOf []⟩
theorem e42 (ω : List Bool) (v : i42.V) : enterF C42 c42 Tryz.f42 (fun _ _ => none) ω v = laws_eqConfig v.1.1 v.1.2.1 := by kernel_rfl
theorem s42 : SoundC Tryz.prog 42 c42 := sound_by0 (l := l42) tOk mx Tryz.func42 ⟨s44, trivial⟩ (by kernel_rfl) (by kernel_rfl) e42

/-! laws_eqEntry -/
abbrev i157 : Shp := ⟨[(0, .row Y1), (1, .row Y1)], []⟩
abbrev o157 : Shp := ⟨[(0, .c (.v .bool))], []⟩
noncomputable def c157 : Con := ⟨i157, o157, fun v => laws_eqEntry v.1.1 v.1.2.1⟩
noncomputable def l157 : List (Nat × Con) := []
noncomputable def C157 : Cfg := ⟨T, gam l157, hintOf []⟩
theorem e157 (ω : List Bool) (v : i157.V) : enterF C157 c157 Tryz.f157 (fun _ _ => none) ω v = laws_eqEntry v.1.1 v.1.2.1 := by kernel_rfl
theorem s157 : SoundC Tryz.prog 157 c157 := sound_by0 (l := l157) tOk mx Tryz.func157 trivial (by kernel_rfl) (by kernel_rfl) e157

/-! laws_eqEntryS -/
abbrev i132 : Shp := ⟨[(0, .c (.sl false Y1)), (1, .c (.sl false Y1))], []⟩
abbrev o132 : Shp := ⟨[(0, .c (.v .bool))], []⟩
noncomputable def c132 : Con := ⟨i132, o132, fun v => laws_eqEntryS v.1.1 v.1.2.1⟩
noncomputable def l132 : List (Nat × Con) := [(157, c157)]
noncomputable def C132 : Cfg := ⟨T, gam l132, hintOf []⟩
abbrev h132_4 : Shp := ⟨[(0, .c (.sl false Y1)), (1, .c (.sl false Y1)), (5, .c (.v tI))], []⟩
noncomputable def j132 (n ℓ : Nat) (σ : St) : Option o132.V := if ℓ = 4 then jump 0 h132_4 (fun v => laws_eqEntryS_L4 n v.1.1 v.1.2.1 v.1.2.2.1) σ else none
theorem q132_4 (n : Nat) (v : h132_4.V) (ω : List Bool) : loopF C132 c132 Tryz.f132 (j132 n) 4 ω (h132_4.st 27 v) = laws_eqEntryS_step4 (laws_eqEntryS_L4 n) v.1.1 v.1.2.1 v.1.2.2.1 := by kernel_rfl
theorem e132 (n : Nat) (ω : List Bool) (v : i132.V) : enterF C132 c132 Tryz.f132 (j132 n) ω v = laws_eqEntryS_entry (laws_eqEntryS_L4 n) v.1.1 v.1.2.1 := by kernel_rfl
theorem s132 : SoundC Tryz.prog 132 c132 := sound_by (l := l132) (J := j132) (L := [4]) tOk mx Tryz.func132 ⟨s157, trivial⟩ (by kernel_rfl) (by kernel_rfl)
  ⟨⟨h132_4, fun n v => laws_eqEntryS_L4 n v.1.1 v.1.2.1 v.1.2.2.1, fun _ => rfl, fun _ => rfl, q132_4⟩, trivial⟩ FUEL (e132 FUEL)

/-! laws_eqStore -/
abbrev i85 : Shp := ⟨[(0, .row Y2), (1, .row Y2)], []⟩
abbrev o85 : Shp := ⟨[(0, .c (.v .bool))], []⟩
noncomputable def c85 : Con := ⟨i85, o85, fun v => laws_eqStore v.1.1 v.1.2.1⟩
noncomputable def l85 : List (Nat × Con) := [(132, c132)]
noncomputable def C85 : Cfg := ⟨T, gam l85, hintOf []⟩
theorem e85 (ω : List Bool) (v : i85.V) : enterF C85 c85 Tryz.f85 (fun _ _ => none) ω v = laws_eqStore v.1.1 v.1.2.1 := by kernel_rfl
theorem s85 : SoundC Tryz.prog 85 c85 := sound_by0 (l := l85) tOk mx Tryz.func85 ⟨s132, trivial⟩ (by kernel_rfl) (by kernel_rfl) e85

/-! laws_eqStoreS -/
abbrev i43 : Shp := ⟨[(0, .c (.sl false Y2)), (1, .c (.sl false Y2))], []⟩
abbrev o43 : Shp := ⟨[(0, .c (.v .bool))], []⟩
noncomputable def c43 : Con := ⟨i43, o43, fun v => laws_eqStoreS v.1.1 v.1.2.1⟩
noncomputable def l43 : List (Nat × Con) := [(85, c85)]
noncomputable def C43 : Cfg := ⟨T, gam l43, hintOf []⟩
abbrev h43_4 : Shp := ⟨[(0, .c (.sl false Y2)), (1, .c (.sl false Y2)), (5, .c (.v tI))], []⟩
noncomputable def j43 (n ℓ : Nat) (σ : St) : Option o43.V := if ℓ = 4 then jump 0 h43_4 (fun v => laws_eqStoreS_L4 n v.1.1 v.1.2.1 v.1.2.2.1) σ else none
theorem q43_4 (n : Nat) (v : h43_4.V) (ω : List Bool) : loopF C43 c43 Tryz.f43 (j43 n) 4 ω (h43_4.st 27 v) = laws_eqStoreS_step4 (laws_eqStoreS_L4 n) v.1.1 v.1.2.1 v.1.2.2.1 := by kernel_rfl
theorem e43 (n : Nat) (ω : List Bool) (v : i43.V) : enterF C43 c43 Tryz.f43 (j43 n) ω v = laws_eqStoreS_entry (laws_eqStoreS_L4 n) v.1.1 v.1.2.1 := by kernel_rfl
theorem s43 : SoundC Tryz.prog 43 c43 := sound_by (l := l43) (J := j43) (L := [4]) tOk mx Tryz.func43 ⟨s85, trivial⟩ (by kernel_rfl) (by kernel_rfl)
  ⟨⟨h43_4, fun n v => laws_eqStoreS_L4 n v.1.1 v.1.2.1 v.1.2.2.1, fun _ => rfl, fun _ => rfl, q43_4⟩, trivial⟩ FUEL (e43 FUEL)

/-! laws_eqEra -/
abbrev i133 : Shp := ⟨[(0, .row Y3), (1, .row Y3)], []⟩
abbrev o133 : Shp := ⟨[(0, .c (.v .bool))], []⟩
noncomputable def c133 : Con := ⟨i133, o133, fun v => laws_eqEra v.1.1 v.1.2.1⟩
noncomputable def l133 : List (Nat × Con) := [(44, c44)]
noncomputable def C133 : Cfg := ⟨T, gam l133, hintOf []⟩
theorem e133 (ω : List Bool) (v : i133.V) : enterF C133 c133 Tryz.f133 (fun _ _ => none) ω v = laws_eqEra v.1.1 v.1.2.1 := by kernel_rfl
theorem s133 : SoundC Tryz.prog 133 c133 := sound_by0 (l := l133) tOk mx Tryz.func133 ⟨s44, trivial⟩ (by kernel_rfl) (by kernel_rfl) e133

/-! laws_eqEraS -/
abbrev i86 : Shp := ⟨[(0, .c (.sl false Y3)), (1, .c (.sl false Y3))], []⟩
abbrev o86 : Shp := ⟨[(0, .c (.v .bool))], []⟩
noncomputable def c86 : Con := ⟨i86, o86, fun v => laws_eqEraS v.1.1 v.1.2.1⟩
noncomputable def l86 : List (Nat × Con) := [(133, c133)]
noncomputable def C86 : Cfg := ⟨T, gam l86, hintOf []⟩
abbrev h86_4 : Shp := ⟨[(0, .c (.sl false Y3)), (1, .c (.sl false Y3)), (5, .c (.v tI))], []⟩
noncomputable def j86 (n ℓ : Nat) (σ : St) : Option o86.V := if ℓ = 4 then jump 0 h86_4 (fun v => laws_eqEraS_L4 n v.1.1 v.1.2.1 v.1.2.2.1) σ else none
theorem q86_4 (n : Nat) (v : h86_4.V) (ω : List Bool) : loopF C86 c86 Tryz.f86 (j86 n) 4 ω (h86_4.st 27 v) = laws_eqEraS_step4 (laws_eqEraS_L4 n) v.1.1 v.1.2.1 v.1.2.2.1 := by kernel_rfl
theorem e86 (n : Nat) (ω : List Bool) (v : i86.V) : enterF C86 c86 Tryz.f86 (j86 n) ω v = laws_eqEraS_entry (laws_eqEraS_L4 n) v.1.1 v.1.2.1 := by kernel_rfl
theorem s86 : SoundC Tryz.prog 86 c86 := sound_by (l := l86) (J := j86) (L := [4]) tOk mx Tryz.func86 ⟨s133, trivial⟩ (by kernel_rfl) (by kernel_rfl)
  ⟨⟨h86_4, fun n v => laws_eqEraS_L4 n v.1.1 v.1.2.1 v.1.2.2.1, fun _ => rfl, fun _ => rfl, q86_4⟩, trivial⟩ FUEL (e86 FUEL)

/-! laws_eqRegister -/
abbrev i45 : Shp := ⟨[(0, .row Y4), (1, .row Y4)], []⟩
abbrev o45 : Shp := ⟨[(0, .c (.v .bool))], []⟩
noncomputable def c45 : Con := ⟨i45, o45, fun v => laws_eqRegister v.1.1 v.1.2.1⟩
noncomputable def l45 : List (Nat × Con) := [(86, c86)]
noncomputable def C45 : Cfg := ⟨T, gam l45, hintOf []⟩
theorem e45 (ω : List Bool) (v : i45.V) : enterF C45 c45 Tryz.f45 (fun _ _ => none) ω v = laws_eqRegister v.1.1 v.1.2.1 := by kernel_rfl
theorem s45 : SoundC Tryz.prog 45 c45 := sound_by0 (l := l45) tOk mx Tryz.func45 ⟨s86, trivial⟩ (by kernel_rfl) (by kernel_rfl) e45

/-! laws_eqWord -/
abbrev i158 : Shp := ⟨[(0, .row Y5), (1, .row Y5)], []⟩
abbrev o158 : Shp := ⟨[(0, .c (.v .bool))], []⟩
noncomputable def c158 : Con := ⟨i158, o158, fun v => laws_eqWord v.1.1 v.1.2.1⟩
noncomputable def l158 : List (Nat × Con) := [(44, c44)]
noncomputable def C158 : Cfg := ⟨T, gam l158, hintOf []⟩
theorem e158 (ω : List Bool) (v : i158.V) : enterF C158 c158 Tryz.f158 (fun _ _ => none) ω v = laws_eqWord v.1.1 v.1.2.1 := by kernel_rfl
theorem s158 : SoundC Tryz.prog 158 c158 := sound_by0 (l := l158) tOk mx Tryz.func158 ⟨s44, trivial⟩ (by kernel_rfl) (by kernel_rfl) e158

/-! laws_eqWordS -/
abbrev i134 : Shp := ⟨[(0, .c (.sl false Y5)), (1, .c (.sl false Y5))], []⟩
abbrev o134 : Shp := ⟨[(0, .c (.v .bool))], []⟩
noncomputable def c134 : Con := ⟨i134, o134, fun v => laws_eqWordS v.1.1 v.1.2.1⟩
noncomputable def l134 : List (Nat × Con) := [(158, c158)]
noncomputable def C134 : Cfg := ⟨T, gam l134, hintOf []⟩
abbrev h134_4 : Shp := ⟨[(0, .c (.sl false Y5)), (1, .c (.sl false Y5)), (5, .c (.v tI))], []⟩
noncomputable def j134 (n ℓ : Nat) (σ : St) : Option o134.V := if ℓ = 4 then jump 0 h134_4 (fun v => laws_eqWordS_L4 n v.1.1 v.1.2.1 v.1.2.2.1) σ else none
theorem q134_4 (n : Nat) (v : h134_4.V) (ω : List Bool) : loopF C134 c134 Tryz.f134 (j134 n) 4 ω (h134_4.st 27 v) = laws_eqWordS_step4 (laws_eqWordS_L4 n) v.1.1 v.1.2.1 v.1.2.2.1 := by kernel_rfl
theorem e134 (n : Nat) (ω : List Bool) (v : i134.V) : enterF C134 c134 Tryz.f134 (j134 n) ω v = laws_eqWordS_entry (laws_eqWordS_L4 n) v.1.1 v.1.2.1 := by kernel_rfl
theorem s134 : SoundC Tryz.prog 134 c134 := sound_by (l := l134) (J := j134) (L := [4]) tOk mx Tryz.func134 ⟨s158, trivial⟩ (by kernel_rfl) (by kernel_rfl)
  ⟨⟨h134_4, fun n v => laws_eqWordS_L4 n v.1.1 v.1.2.1 v.1.2.2.1, fun _ => rfl, fun _ => rfl, q134_4⟩, trivial⟩ FUEL (e134 FUEL)

/-! laws_eqWriter -/
abbrev i87 : Shp := ⟨[(0, .row Y6), (1, .row Y6)], []⟩
abbrev o87 : Shp := ⟨[(0, .c (.v .bool))], []⟩
noncomputable def c87 : Con := ⟨i87, o87, fun v => laws_eqWriter v.1.1 v.1.2.1⟩
noncomputable def l87 : List (Nat × Con) := [(134, c134)]
noncomputable def C87 : Cfg := ⟨T, gam l87, hintOf []⟩
theorem e87 (ω : List Bool) (v : i87.V) : enterF C87 c87 Tryz.f87 (fun _ _ => none) ω v = laws_eqWriter v.1.1 v.1.2.1 := by kernel_rfl
theorem s87 : SoundC Tryz.prog 87 c87 := sound_by0 (l := l87) tOk mx Tryz.func87 ⟨s134, trivial⟩ (by kernel_rfl) (by kernel_rfl) e87

/-! laws_eqWriterS -/
abbrev i46 : Shp := ⟨[(0, .c (.sl false Y6)), (1, .c (.sl false Y6))], []⟩
abbrev o46 : Shp := ⟨[(0, .c (.v .bool))], []⟩
noncomputable def c46 : Con := ⟨i46, o46, fun v => laws_eqWriterS v.1.1 v.1.2.1⟩
noncomputable def l46 : List (Nat × Con) := [(87, c87)]
noncomputable def C46 : Cfg := ⟨T, gam l46, hintOf []⟩
abbrev h46_4 : Shp := ⟨[(0, .c (.sl false Y6)), (1, .c (.sl false Y6)), (5, .c (.v tI))], []⟩
noncomputable def j46 (n ℓ : Nat) (σ : St) : Option o46.V := if ℓ = 4 then jump 0 h46_4 (fun v => laws_eqWriterS_L4 n v.1.1 v.1.2.1 v.1.2.2.1) σ else none
theorem q46_4 (n : Nat) (v : h46_4.V) (ω : List Bool) : loopF C46 c46 Tryz.f46 (j46 n) 4 ω (h46_4.st 27 v) = laws_eqWriterS_step4 (laws_eqWriterS_L4 n) v.1.1 v.1.2.1 v.1.2.2.1 := by kernel_rfl
theorem e46 (n : Nat) (ω : List Bool) (v : i46.V) : enterF C46 c46 Tryz.f46 (j46 n) ω v = laws_eqWriterS_entry (laws_eqWriterS_L4 n) v.1.1 v.1.2.1 := by kernel_rfl
theorem s46 : SoundC Tryz.prog 46 c46 := sound_by (l := l46) (J := j46) (L := [4]) tOk mx Tryz.func46 ⟨s87, trivial⟩ (by kernel_rfl) (by kernel_rfl)
  ⟨⟨h46_4, fun n v => laws_eqWriterS_L4 n v.1.1 v.1.2.1 v.1.2.2.1, fun _ => rfl, fun _ => rfl, q46_4⟩, trivial⟩ FUEL (e46 FUEL)

/-! laws_eqIntSS -/
abbrev i135 : Shp := ⟨[(0, .c (.sl false (.sl tI))), (1, .c (.sl false (.sl tI)))], []⟩
abbrev o135 : Shp := ⟨[(0, .c (.v .bool))], []⟩
noncomputable def c135 : Con := ⟨i135, o135, fun v => laws_eqIntSS v.1.1 v.1.2.1⟩
noncomputable def l135 : List (Nat × Con) := [(44, c44)]
noncomputable def C135 : Cfg := ⟨T, gam l135, hintOf []⟩
abbrev h135_4 : Shp := ⟨[(0, .c (.sl false (.sl tI))), (1, .c (.sl false (.sl tI))), (5, .c (.v tI))], []⟩
noncomputable def j135 (n ℓ : Nat) (σ : St) : Option o135.V := if ℓ = 4 then jump 0 h135_4 (fun v => laws_eqIntSS_L4 n v.1.1 v.1.2.1 v.1.2.2.1) σ else none
theorem q135_4 (n : Nat) (v : h135_4.V) (ω : List Bool) : loopF C135 c135 Tryz.f135 (j135 n) 4 ω (h135_4.st 27 v) = laws_eqIntSS_step4 (laws_eqIntSS_L4 n) v.1.1 v.1.2.1 v.1.2.2.1 := by kernel_rfl
theorem e135 (n : Nat) (ω : List Bool) (v : i135.V) : enterF C135 c135 Tryz.f135 (j135 n) ω v = laws_eqIntSS_entry (laws_eqIntSS_L4 n) v.1.1 v.1.2.1 := by kernel_rfl
theorem s135 : SoundC Tryz.prog 135 c135 := sound_by (l := l135) (J := j135) (L := [4]) tOk mx Tryz.func135 ⟨s44, trivial⟩ (by kernel_rfl) (by kernel_rfl)
  ⟨⟨h135_4, fun n v => laws_eqIntSS_L4 n v.1.1 v.1.2.1 v.1.2.2.1, fun _ => rfl, fun _ => rfl, q135_4⟩, trivial⟩ FUEL (e135 FUEL)

/-! laws_eqMend -/
abbrev i88 : Shp := ⟨[(0, .row Y7), (1, .row Y7)], []⟩
abbrev o88 : Shp := ⟨[(0, .c (.v .bool))], []⟩
noncomputable def c88 : Con := ⟨i88, o88, fun v => laws_eqMend v.1.1 v.1.2.1⟩
noncomputable def l88 : List (Nat × Con) := [(44, c44), (132, c132), (135, c135)]
noncomputable def C88 : Cfg := ⟨T, gam l88, hintOf []⟩
theorem e88 (ω : List Bool) (v : i88.V) : enterF C88 c88 Tryz.f88 (fun _ _ => none) ω v = laws_eqMend v.1.1 v.1.2.1 := by kernel_rfl
theorem s88 : SoundC Tryz.prog 88 c88 := sound_by0 (l := l88) tOk mx Tryz.func88 ⟨s44, s132, s135, trivial⟩ (by kernel_rfl) (by kernel_rfl) e88

/-! laws_eqMendS -/
abbrev i47 : Shp := ⟨[(0, .c (.sl false Y7)), (1, .c (.sl false Y7))], []⟩
abbrev o47 : Shp := ⟨[(0, .c (.v .bool))], []⟩
noncomputable def c47 : Con := ⟨i47, o47, fun v => laws_eqMendS v.1.1 v.1.2.1⟩
noncomputable def l47 : List (Nat × Con) := [(88, c88)]
noncomputable def C47 : Cfg := ⟨T, gam l47, hintOf []⟩
abbrev h47_4 : Shp := ⟨[(0, .c (.sl false Y7)), (1, .c (.sl false Y7)), (5, .c (.v tI))], []⟩
noncomputable def j47 (n ℓ : Nat) (σ : St) : Option o47.V := if ℓ = 4 then jump 0 h47_4 (fun v => laws_eqMendS_L4 n v.1.1 v.1.2.1 v.1.2.2.1) σ else none
theorem q47_4 (n : Nat) (v : h47_4.V) (ω : List Bool) : loopF C47 c47 Tryz.f47 (j47 n) 4 ω (h47_4.st 27 v) = laws_eqMendS_step4 (laws_eqMendS_L4 n) v.1.1 v.1.2.1 v.1.2.2.1 := by kernel_rfl
theorem e47 (n : Nat) (ω : List Bool) (v : i47.V) : enterF C47 c47 Tryz.f47 (j47 n) ω v = laws_eqMendS_entry (laws_eqMendS_L4 n) v.1.1 v.1.2.1 := by kernel_rfl
theorem s47 : SoundC Tryz.prog 47 c47 := sound_by (l := l47) (J := j47) (L := [4]) tOk mx Tryz.func47 ⟨s88, trivial⟩ (by kernel_rfl) (by kernel_rfl)
  ⟨⟨h47_4, fun n v => laws_eqMendS_L4 n v.1.1 v.1.2.1 v.1.2.2.1, fun _ => rfl, fun _ => rfl, q47_4⟩, trivial⟩ FUEL (e47 FUEL)

/-! laws_eqEvent -/
abbrev i159 : Shp := ⟨[(0, .row Y8), (1, .row Y8)], []⟩
abbrev o159 : Shp := ⟨[(0, .c (.v .bool))], []⟩
noncomputable def c159 : Con := ⟨i159, o159, fun v => laws_eqEvent v.1.1 v.1.2.1⟩
noncomputable def l159 : List (Nat × Con) := []
noncomputable def C159 : Cfg := ⟨T, gam l159, hintOf []⟩
theorem e159 (ω : List Bool) (v : i159.V) : enterF C159 c159 Tryz.f159 (fun _ _ => none) ω v = laws_eqEvent v.1.1 v.1.2.1 := by kernel_rfl
theorem s159 : SoundC Tryz.prog 159 c159 := sound_by0 (l := l159) tOk mx Tryz.func159 trivial (by kernel_rfl) (by kernel_rfl) e159

/-! laws_eqEventS -/
abbrev i136 : Shp := ⟨[(0, .c (.sl false Y8)), (1, .c (.sl false Y8))], []⟩
abbrev o136 : Shp := ⟨[(0, .c (.v .bool))], []⟩
noncomputable def c136 : Con := ⟨i136, o136, fun v => laws_eqEventS v.1.1 v.1.2.1⟩
noncomputable def l136 : List (Nat × Con) := [(159, c159)]
noncomputable def C136 : Cfg := ⟨T, gam l136, hintOf []⟩
abbrev h136_4 : Shp := ⟨[(0, .c (.sl false Y8)), (1, .c (.sl false Y8)), (5, .c (.v tI))], []⟩
noncomputable def j136 (n ℓ : Nat) (σ : St) : Option o136.V := if ℓ = 4 then jump 0 h136_4 (fun v => laws_eqEventS_L4 n v.1.1 v.1.2.1 v.1.2.2.1) σ else none
theorem q136_4 (n : Nat) (v : h136_4.V) (ω : List Bool) : loopF C136 c136 Tryz.f136 (j136 n) 4 ω (h136_4.st 27 v) = laws_eqEventS_step4 (laws_eqEventS_L4 n) v.1.1 v.1.2.1 v.1.2.2.1 := by kernel_rfl
theorem e136 (n : Nat) (ω : List Bool) (v : i136.V) : enterF C136 c136 Tryz.f136 (j136 n) ω v = laws_eqEventS_entry (laws_eqEventS_L4 n) v.1.1 v.1.2.1 := by kernel_rfl
theorem s136 : SoundC Tryz.prog 136 c136 := sound_by (l := l136) (J := j136) (L := [4]) tOk mx Tryz.func136 ⟨s159, trivial⟩ (by kernel_rfl) (by kernel_rfl)
  ⟨⟨h136_4, fun n v => laws_eqEventS_L4 n v.1.1 v.1.2.1 v.1.2.2.1, fun _ => rfl, fun _ => rfl, q136_4⟩, trivial⟩ FUEL (e136 FUEL)

/-! laws_eqReader -/
abbrev i89 : Shp := ⟨[(0, .row Y9), (1, .row Y9)], []⟩
abbrev o89 : Shp := ⟨[(0, .c (.v .bool))], []⟩
noncomputable def c89 : Con := ⟨i89, o89, fun v => laws_eqReader v.1.1 v.1.2.1⟩
noncomputable def l89 : List (Nat × Con) := [(136, c136)]
noncomputable def C89 : Cfg := ⟨T, gam l89, hintOf []⟩
theorem e89 (ω : List Bool) (v : i89.V) : enterF C89 c89 Tryz.f89 (fun _ _ => none) ω v = laws_eqReader v.1.1 v.1.2.1 := by kernel_rfl
theorem s89 : SoundC Tryz.prog 89 c89 := sound_by0 (l := l89) tOk mx Tryz.func89 ⟨s136, trivial⟩ (by kernel_rfl) (by kernel_rfl) e89

/-! laws_eqReaderS -/
abbrev i48 : Shp := ⟨[(0, .c (.sl false Y9)), (1, .c (.sl false Y9))], []⟩
abbrev o48 : Shp := ⟨[(0, .c (.v .bool))], []⟩
noncomputable def c48 : Con := ⟨i48, o48, fun v => laws_eqReaderS v.1.1 v.1.2.1⟩
noncomputable def l48 : List (Nat × Con) := [(89, c89)]
noncomputable def C48 : Cfg := ⟨T, gam l48, hintOf []⟩
abbrev h48_4 : Shp := ⟨[(0, .c (.sl false Y9)), (1, .c (.sl false Y9)), (5, .c (.v tI))], []⟩
noncomputable def j48 (n ℓ : Nat) (σ : St) : Option o48.V := if ℓ = 4 then jump 0 h48_4 (fun v => laws_eqReaderS_L4 n v.1.1 v.1.2.1 v.1.2.2.1) σ else none
theorem q48_4 (n : Nat) (v : h48_4.V) (ω : List Bool) : loopF C48 c48 Tryz.f48 (j48 n) 4 ω (h48_4.st 27 v) = laws_eqReaderS_step4 (laws_eqReaderS_L4 n) v.1.1 v.1.2.1 v.1.2.2.1 := by kernel_rfl
theorem e48 (n : Nat) (ω : List Bool) (v : i48.V) : enterF C48 c48 Tryz.f48 (j48 n) ω v = laws_eqReaderS_entry (laws_eqReaderS_L4 n) v.1.1 v.1.2.1 := by kernel_rfl
theorem s48 : SoundC Tryz.prog 48 c48 := sound_by (l := l48) (J := j48) (L := [4]) tOk mx Tryz.func48 ⟨s89, trivial⟩ (by kernel_rfl) (by kernel_rfl)
  ⟨⟨h48_4, fun n v => laws_eqReaderS_L4 n v.1.1 v.1.2.1 v.1.2.2.1, fun _ => rfl, fun _ => rfl, q48_4⟩, trivial⟩ FUEL (e48 FUEL)

/-! laws_eqSent -/
abbrev i90 : Shp := ⟨[(0, .row Y10), (1, .row Y10)], []⟩
abbrev o90 : Shp := ⟨[(0, .c (.v .bool))], []⟩
noncomputable def c90 : Con := ⟨i90, o90, fun v => laws_eqSent v.1.1 v.1.2.1⟩
noncomputable def l90 : List (Nat × Con) := []
noncomputable def C90 : Cfg := ⟨T, gam l90, hintOf []⟩
theorem e90 (ω : List Bool) (v : i90.V) : enterF C90 c90 Tryz.f90 (fun _ _ => none) ω v = laws_eqSent v.1.1 v.1.2.1 := by kernel_rfl
theorem s90 : SoundC Tryz.prog 90 c90 := sound_by0 (l := l90) tOk mx Tryz.func90 trivial (by kernel_rfl) (by kernel_rfl) e90

/-! laws_eqSentS -/
abbrev i49 : Shp := ⟨[(0, .c (.sl false Y10)), (1, .c (.sl false Y10))], []⟩
abbrev o49 : Shp := ⟨[(0, .c (.v .bool))], []⟩
noncomputable def c49 : Con := ⟨i49, o49, fun v => laws_eqSentS v.1.1 v.1.2.1⟩
noncomputable def l49 : List (Nat × Con) := [(90, c90)]
noncomputable def C49 : Cfg := ⟨T, gam l49, hintOf []⟩
abbrev h49_4 : Shp := ⟨[(0, .c (.sl false Y10)), (1, .c (.sl false Y10)), (5, .c (.v tI))], []⟩
noncomputable def j49 (n ℓ : Nat) (σ : St) : Option o49.V := if ℓ = 4 then jump 0 h49_4 (fun v => laws_eqSentS_L4 n v.1.1 v.1.2.1 v.1.2.2.1) σ else none
theorem q49_4 (n : Nat) (v : h49_4.V) (ω : List Bool) : loopF C49 c49 Tryz.f49 (j49 n) 4 ω (h49_4.st 27 v) = laws_eqSentS_step4 (laws_eqSentS_L4 n) v.1.1 v.1.2.1 v.1.2.2.1 := by kernel_rfl
theorem e49 (n : Nat) (ω : List Bool) (v : i49.V) : enterF C49 c49 Tryz.f49 (j49 n) ω v = laws_eqSentS_entry (laws_eqSentS_L4 n) v.1.1 v.1.2.1 := by kernel_rfl
theorem s49 : SoundC Tryz.prog 49 c49 := sound_by (l := l49) (J := j49) (L := [4]) tOk mx Tryz.func49 ⟨s90, trivial⟩ (by kernel_rfl) (by kernel_rfl)
  ⟨⟨h49_4, fun n v => laws_eqSentS_L4 n v.1.1 v.1.2.1 v.1.2.2.1, fun _ => rfl, fun _ => rfl, q49_4⟩, trivial⟩ FUEL (e49 FUEL)

/-! laws_eqWorld -/
abbrev i13 : Shp := ⟨[(0, .row Y11), (1, .row Y11)], []⟩
abbrev o13 : Shp := ⟨[(0, .c (.v .bool))], []⟩
noncomputable def c13 : Con := ⟨i13, o13, fun v => laws_eqWorld v.1.1 v.1.2.1⟩
noncomputable def l13 : List (Nat × Con) := [(42, c42), (43, c43), (44, c44), (45, c45), (46, c46), (47, c47), (48, c48), (49, c49)]
noncomputable def C13 : Cfg := ⟨T, gam l13, hintOf []⟩
theorem e13 (ω : List Bool) (v : i13.V) : enterF C13 c13 Tryz.f13 (fun _ _ => none) ω v = laws_eqWorld v.1.1 v.1.2.1 := by kernel_rfl
theorem s13 : SoundC Tryz.prog 13 c13 := sound_by0 (l := l13) tOk mx Tryz.func13 ⟨s42, s43, s44, s45, s46, s47, s48, s49, trivial⟩ (by kernel_rfl) (by kernel_rfl) e13

/-! laws_FnExactJudgeKept -/
abbrev i7 : Shp := ⟨[(0, .row Y11)], []⟩
abbrev o7 : Shp := ⟨[(0, .c (.v .bool))], []⟩
noncomputable def c7 : Con := ⟨i7, o7, fun v => laws_FnExactJudgeKept v.1.1⟩
noncomputable def l7 : List (Nat × Con) := [(9, c9), (11, c11), (13, c13), (20, c20), (21, c21)]
noncomputable def C7 : Cfg := ⟨T, gam l7, hintOf [(10, [0, 1, 2, 3, 4, 5, 6, 7, 8, 9, 10, 11, 12, 13, 14, 15, 16, 17])]⟩
theorem e7 (ω : List Bool) (v : i7.V) : enterF C7 c7 Tryz.f7 (fun _ _ => none) ω v = laws_FnExactJudgeKept v.1.1 := by kernel_rfl
theorem s7 : SoundC Tryz.prog 7 c7 := sound_by0 (l := l7) tOk mx Tryz.func7 ⟨s9, s11, s13, s20, s21, trivial⟩ (by kernel_rfl) (by kernel_rfl) e7
end Go.Proofs.YtekamaodealggaaGreat.Wk
