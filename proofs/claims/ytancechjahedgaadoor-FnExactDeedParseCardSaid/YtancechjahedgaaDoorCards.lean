/-
  DERIVED. GIVEN WITH THE SEED: THE CARDS: each row of YtancechjahedgaaDoorRows.lean that lists a variable, with what it lists TIED to the program's text (the seventh form; the later family's looks); each row that meets fmt, with fmt's text TOLD by the authors' own Lean function (tested against real Go, not proved from fmt's source: count such statements apart). THE CARD IS WHAT COUNTS. Prove the row's statement (the work); the ties are given (YtancechjahedgaaDoorTie.lean); close each card by the builder's one call (the guide's Derived/Test/ToyasCard.lean, 'card_holds'). Laid BY PROGRAM, IN A SANDBOX (cutbox-door.mjs). By AI agents, Wed Nov 11 2026. No macro, syntax, notation, axiom, sorry.
-/
import Derived.Test.YtancechjahedgaaDoorRows
import GoSem.ClaimSeven
namespace Go.Proofs.YtancechjahedgaaDoor
namespace Rows

/-- THE TIED CARD OF 'laws.FnExactEventText'. -/
def fnExactEventTextCard : Claim7 := { stood := { row := fnExactEventTextRow, standIns := [], harness := (true, "ae25c938eb5c7c25e9f44705c8427f8d7348de20e0df36d913d28909697e9972"), looks := true }, kinds := [], alts := [], laidByText := true, laidKinds := [.data, .data, .data], laidTests := true, laidLooks := .later }
def FnExactEventTextCardSaid : Prop := Claim7.holds Tryd.pinned (.plain (OpenSpec.ofChange fnExactEventTextSpec)) fnExactEventTextCard

/-- THE TIED CARD OF 'laws.FnExactDeedLine'. -/
def fnExactDeedLineCard : Claim7 := { stood := { row := fnExactDeedLineRow, standIns := [], harness := (true, "ae25c938eb5c7c25e9f44705c8427f8d7348de20e0df36d913d28909697e9972"), looks := true }, kinds := [], alts := [], laidByText := true, laidKinds := [.data, .data, .data], laidTests := true, laidLooks := .later }
def FnExactDeedLineCardSaid : Prop := Claim7.holds Tryd.pinned (.plain (OpenSpec.ofChange fnExactDeedLineSpec)) fnExactDeedLineCard

/-- THE TIED CARD OF 'laws.FnExactDeedParse'. -/
def fnExactDeedParseCard : Claim7 := { stood := { row := fnExactDeedParseRow, standIns := [], harness := (true, "ae25c938eb5c7c25e9f44705c8427f8d7348de20e0df36d913d28909697e9972"), looks := true }, kinds := [], alts := [], laidByText := true, laidKinds := [.data, .data, .data, .sentinel, .sentinel], laidTests := true, laidLooks := .later }
def FnExactDeedParseCardSaid : Prop := Claim7.holds Tryd.pinned (.plain (OpenSpec.ofChange fnExactDeedParseSpec)) fnExactDeedParseCard

/-- THE SECOND FORM's CARD OF 'laws.FnExactEventText'. -/
def fnExactEventTextUptoCard : Claim7 := { stood := { row := fnExactEventTextUptoRow, standIns := [], harness := (true, "ae25c938eb5c7c25e9f44705c8427f8d7348de20e0df36d913d28909697e9972"), looks := true }, kinds := [], alts := [], laidByText := true, laidKinds := [.data, .data, .data], laidTests := true, laidLooks := .later }
def FnExactEventTextUptoCardSaid : Prop := Claim7.holds Tryd.pinned (.plain (OpenSpec.upto fnExactEventTextSpec)) fnExactEventTextUptoCard

/-- THE SECOND FORM's CARD OF 'laws.FnExactDeedLine'. -/
def fnExactDeedLineUptoCard : Claim7 := { stood := { row := fnExactDeedLineUptoRow, standIns := [], harness := (true, "ae25c938eb5c7c25e9f44705c8427f8d7348de20e0df36d913d28909697e9972"), looks := true }, kinds := [], alts := [], laidByText := true, laidKinds := [.data, .data, .data], laidTests := true, laidLooks := .later }
def FnExactDeedLineUptoCardSaid : Prop := Claim7.holds Tryd.pinned (.plain (OpenSpec.upto fnExactDeedLineSpec)) fnExactDeedLineUptoCard

/-- THE SECOND FORM's CARD OF 'laws.FnExactDeedParse'. -/
def fnExactDeedParseUptoCard : Claim7 := { stood := { row := fnExactDeedParseUptoRow, standIns := [], harness := (true, "ae25c938eb5c7c25e9f44705c8427f8d7348de20e0df36d913d28909697e9972"), looks := true }, kinds := [], alts := [], laidByText := true, laidKinds := [.data, .data, .data, .sentinel, .sentinel], laidTests := true, laidLooks := .later }
def FnExactDeedParseUptoCardSaid : Prop := Claim7.holds Tryd.pinned (.plain (OpenSpec.upto fnExactDeedParseSpec)) fnExactDeedParseUptoCard
end Rows
end Go.Proofs.YtancechjahedgaaDoor
