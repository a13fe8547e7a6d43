/- Each function computes what was printed: by the kernel. -/
import Derived.Test.YtbjkhapllnkhfaaGreatDoorSE1
import Derived.Test.YtbjkhapllnkhfaaGreatDoorSE2
import Derived.Test.YtbjkhapllnkhfaaGreatDoorProg
import Derived.KernelRfl
set_option linter.unusedVariables false
set_option linter.unusedSimpArgs false
set_option linter.unusedSectionVars false
namespace Go.Proofs.YtbjkhapllnkhfaaGreatDoor.Wk
open Go Go.Fw Go.M Go.Proofs
noncomputable section
open Go.Shelf Go.RowKit
def s11:SQ:=mk Tryz.func11 ⟨[(0,.c (.sl false tU))],[]⟩ CA tP [] [] []
abbrev i4:Bb:=AGT
abbrev o4:Bb:=CA
def s4:SQ:=mk Tryz.func4 i4 o4 O7 [s7,s9,s11,s12,s13,s14] [(18,[0,1,2,3,4,5,6,7,8])] [⟨15,⟨[(4,lT),(5,lT),(6,BA),(9,Im),(10,zj),(11,lT),(12,BA),(13,BA),(14,BA)],AMO⟩,F8⟩] (hJ:= .cons (fun _=>rfl) (fun n v ω=>by rcases ω with _|⟨_|_,_⟩<;>kernel_rfl) (.nil))
end
end Go.Proofs.YtbjkhapllnkhfaaGreatDoor.Wk
