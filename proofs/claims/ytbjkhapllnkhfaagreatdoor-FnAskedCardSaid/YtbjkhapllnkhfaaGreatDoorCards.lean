/-
  DERIVED. GIVEN WITH THE SEED: THE CARDS: each row of YtbjkhapllnkhfaaGreatDoorRows.lean that lists a variable, with what it lists TIED to the program's text (the seventh form; the later family's looks); each row that meets fmt, with fmt's text TOLD by the authors' own Lean function (tested against real Go, not proved from fmt's source: count such statements apart). THE CARD IS WHAT COUNTS. Prove the row's statement (the work); the ties are given (YtbjkhapllnkhfaaGreatDoorTie.lean); close each card by the builder's one call (the guide's Derived/Test/ToyasCard.lean, 'card_holds'). Laid BY PROGRAM, IN A SANDBOX (cutbox-door.mjs). By AI agents, Wed Nov 11 2026. No macro, syntax, notation, axiom, sorry.
-/
import Derived.Test.YtbjkhapllnkhfaaGreatDoorRows
import GoSem.ClaimSeven
namespace Go.Proofs.YtbjkhapllnkhfaaGreatDoor
namespace Rows

/-- THE TIED CARD OF 'laws.FnExactSession'. -/
def fnExactSessionCard : Claim7 := { stood := { row := fnExactSessionRow, standIns := [], harness := (true, "c93fc08bcd255a4b646cbab66789bf6594ec878e9a92f4e2702ad7dd35c8167c"), looks := true }, kinds := [], alts := [], laidByText := true, laidKinds := [.data, .data, .data, .data, .sentinel, .sentinel, .pinned], laidTests := true, laidLooks := .later }
def FnExactSessionCardSaid : Prop := Claim7.holds Tryz.pinned (.plain (OpenSpec.ofChange fnExactSessionSpec)) fnExactSessionCard

/-- THE TIED CARD OF 'laws.FnSession'. -/
def fnSessionCard : Claim7 := { stood := { row := fnSessionRow, standIns := [], harness := (true, "c93fc08bcd255a4b646cbab66789bf6594ec878e9a92f4e2702ad7dd35c8167c"), looks := true }, kinds := [], alts := [], laidByText := true, laidKinds := [.data, .data, .data, .data, .sentinel, .sentinel, .pinned], laidTests := true, laidLooks := .later }
def FnSessionCardSaid : Prop := Claim7.holds Tryz.pinned (.plain (OpenSpec.ofChange fnSessionSpec)) fnSessionCard

/-- THE TIED CARD OF 'laws.FnAsked'. -/
def fnAskedCard : Claim7 := { stood := { row := fnAskedRow, standIns := [], harness := (true, "c93fc08bcd255a4b646cbab66789bf6594ec878e9a92f4e2702ad7dd35c8167c"), looks := true }, kinds := [], alts := [], laidByText := true, laidKinds := [.data, .data, .data, .sentinel, .sentinel], laidTests := true, laidLooks := .later }
def FnAskedCardSaid : Prop := Claim7.holds Tryz.pinned (.plain (OpenSpec.ofChange fnAskedSpec)) fnAskedCard

/-- THE SECOND FORM's CARD OF 'laws.FnExactSession'. -/
def fnExactSessionUptoCard : Claim7 := { stood := { row := fnExactSessionUptoRow, standIns := [], harness := (true, "c93fc08bcd255a4b646cbab66789bf6594ec878e9a92f4e2702ad7dd35c8167c"), looks := true }, kinds := [], alts := [], laidByText := true, laidKinds := [.data, .data, .data, .data, .sentinel, .sentinel, .pinned], laidTests := true, laidLooks := .later }
def FnExactSessionUptoCardSaid : Prop := Claim7.holds Tryz.pinned (.plain (OpenSpec.upto fnExactSessionSpec)) fnExactSessionUptoCard

/-- THE SECOND FORM's CARD OF 'laws.FnSession'. -/
def fnSessionUptoCard : Claim7 := { stood := { row := fnSessionUptoRow, standIns := [], harness := (true, "c93fc08bcd255a4b646cbab66789bf6594ec878e9a92f4e2702ad7dd35c8167c"), looks := true }, kinds := [], alts := [], laidByText := true, laidKinds := [.data, .data, .data, .data, .sentinel, .sentinel, .pinned], laidTests := true, laidLooks := .later }
def FnSessionUptoCardSaid : Prop := Claim7.holds Tryz.pinned (.plain (OpenSpec.upto fnSessionSpec)) fnSessionUptoCard

/-- THE SECOND FORM's CARD OF 'laws.FnAsked'. -/
def fnAskedUptoCard : Claim7 := { stood := { row := fnAskedUptoRow, standIns := [], harness := (true, "c93fc08bcd255a4b646cbab66789bf6594ec878e9a92f4e2702ad7dd35c8167c"), looks := true }, kinds := [], alts := [], laidByText := true, laidKinds := [.data, .data, .data, .sentinel, .sentinel], laidTests := true, laidLooks := .later }
def FnAskedUptoCardSaid : Prop := Claim7.holds Tryz.pinned (.plain (OpenSpec.upto fnAskedSpec)) fnAskedUptoCard
end Rows
end Go.Proofs.YtbjkhapllnkhfaaGreatDoor
