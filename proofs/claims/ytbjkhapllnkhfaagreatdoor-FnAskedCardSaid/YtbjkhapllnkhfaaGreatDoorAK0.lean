/- Two closed facts of the card, by the kernel. -/
import Derived.Test.YtbjkhapllnkhfaaGreatDoorCards
import Derived.SevenTiedAt
import Derived.KernelRfl
namespace Go.Proofs.YtbjkhapllnkhfaaGreatDoor
open Go
theorem cGoes : false = Rows.fnAskedRow.goesBy Tryz.pinned.checked.prog := by kernel_rfl
theorem cLooks : true = Tryz.pinned.checked.prog.looks [] := by kernel_rfl
end Go.Proofs.YtbjkhapllnkhfaaGreatDoor
