/- Each function computes what was printed: by the kernel. -/
import Derived.Test.YtbjkhapllnkhfaaGreatDoorAE1
import Derived.Test.YtbjkhapllnkhfaaGreatDoorAE2
import Derived.Test.YtbjkhapllnkhfaaGreatDoorProg
import Derived.KernelRfl
set_option linter.unusedVariables false
set_option linter.unusedSimpArgs false
set_option linter.unusedSectionVars false
namespace Go.Proofs.YtbjkhapllnkhfaaGreatDoor.Wk
open Go Go.Fw Go.M Go.Proofs
noncomputable section
open Go.Shelf Go.RowKit
def s11:SQ:=mk Tryz.func11 ⟨[(0,.c (.sl false tU))],[]⟩ Bv xg [] [] []
def s18:SQ:=mk Tryz.func18 AGC Bv Xn [] [] [⟨4,⟨[(0,fY),(1,fY),(5,BD)],[]⟩,M_⟩]
def s19:SQ:=mk Tryz.func19 ⟨[(0,AAi),(1,AAi)],[]⟩ Bv Od [] [] [⟨4,⟨[(0,AAi),(1,AAi),(5,BD)],[]⟩,Kf⟩]
abbrev i5:BK:=AJr
abbrev o5:BK:=Bv
def s5:SQ:=mk Tryz.func5 i5 o5 VH [s11,s14,s15,s16,s17,s18,s19,s20,s21] [(10,[0,1,2,3,4,5,6,7,8,9,10,11,12,13,14,15,16,17,18,19,20,21,22,23,24,25,26])] []
end
end Go.Proofs.YtbjkhapllnkhfaaGreatDoor.Wk
