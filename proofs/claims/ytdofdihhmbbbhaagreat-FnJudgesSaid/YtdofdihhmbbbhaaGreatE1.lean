/- Each function computes what was printed: by the kernel. -/
import Derived.Test.YtdofdihhmbbbhaaGreatE0
import Derived.Test.YtdofdihhmbbbhaaGreatProg
import Derived.KernelRfl
set_option linter.unusedVariables false
set_option linter.unusedSimpArgs false
set_option linter.unusedSectionVars false
namespace Go.Proofs.YtdofdihhmbbbhaaGreat.Wk
open Go Go.Fw Go.M Go.Proofs
noncomputable section
def ANO:SQ:=mk Tryz.func176 ⟨[(0,.row Y8)],[]⟩ Bm Ss [fa] [] []
def s73:SQ:=mk Tryz.func73 qa Bm Ma [ANO] [(6,[0])] [⟨3,⟨AJL,[rv]⟩,Is⟩]
def s33:SQ:=mk Tryz.func33 Qf Bm Mu [s19,s73] [] []
def s74:SQ:=mk Tryz.func74 ⟨[(0,.row Y11),(1,.row Y8)],[]⟩ Bm Rw [] [(4,[0,1])] [⟨2,⟨AKP,[oY,.mem [.v tI,.v tI,.v .str]]⟩,Ju⟩]
def s34:SQ:=mk Tryz.func34 Qf Bm OQ [s19,s74] [] [⟨4,ni,Dp⟩,⟨7,ADM,En⟩]
def s75:SQ:=mk Tryz.func75 tD vb JO [] [] [⟨2,⟨[(1,BX),(2,Ln),(6,BX)],[rv]⟩,Jv⟩]
def s76:SQ:=mk Tryz.func76 tD Bm Ft [dm] [] []
def s35:SQ:=mk Tryz.func35 Qf Bm OV [s19,s75,s76] [(10,[0,1]),(11,[0,1])] [⟨4,ni,Dm⟩,⟨7,⟨[(1,Ln),(3,BX),(4,BX),(14,.c (.ptr 0 10)),(15,pg),(16,pg)],eT⟩,Er⟩]
def s36:SQ:=mk Tryz.func36 Qf Bm M8 [s19] [] [⟨4,ni,Ce⟩,⟨7,⟨[(1,Ln),(3,BX),(4,BX),(11,.c (.ptr 0 10)),(12,pg),(13,pg)],eT⟩,EC⟩]
def s77:SQ:=mk Tryz.func77 ⟨[(0,.row Y11),(1,.row Y9),(2,.row Y9)],[]⟩ Bm Mr [s75,s76,m8] [] [⟨2,⟨[(3,Ln),(4,Tv),(5,xP9),(7,BX)],[oY,rv,rv]⟩,Gz⟩]
def s37:SQ:=mk Tryz.func37 Qf Bm OH [s19,s77] [(3,[0])] []
def s16:SQ:=mk Tryz.func16 Qf Bm Mk [s28,s29,s30,s31,s32] [] []
abbrev i6:B3:=qd
abbrev o6:B3:=Bm
def s6:SQ:=mk Tryz.func6 i6 o6 Ml [s8,s16,s19,s27,s28,s29,s30,s31,s32,s33,s34,s35,s36,s37] [(4,[0,1,2,3,4,5,6,7,8])] []
end
end Go.Proofs.YtdofdihhmbbbhaaGreat.Wk
