/- Each function computes what was printed: by the kernel. -/
import Derived.Test.YtgaopeilfepjmaaGreatG0
import Derived.Test.YtgaopeilfepjmaaGreatProg
import Derived.KernelRfl
set_option linter.unusedVariables false
set_option linter.unusedSimpArgs false
set_option linter.unusedSectionVars false
namespace Go.Proofs.YtgaopeilfepjmaaGreat.Wk
open Go Go.Fw Go.M Go.Proofs
noncomputable section
abbrev tI:Ty:= .int .i64
abbrev tU:Ty:= .int .u8
abbrev Y0:Ty:=(.cons (.sl tI) (.cons tI .unit))
abbrev Y1:Ty:=(.cons tI (.cons tI (.cons .bool (.cons .str .unit))))
abbrev Y2:Ty:=(.cons (.sl Y1) (.cons (.sl Y1) (.cons tI .unit)))
abbrev Y3:Ty:=(.cons (.sl tI) (.cons .bool (.cons tI .unit)))
abbrev Y4:Ty:=(.cons (.sl Y3) (.cons tI .unit))
abbrev Y5:Ty:=(.cons .str (.cons (.sl tI) (.cons .bool .unit)))
abbrev Y6:Ty:=(.cons tI (.cons (.sl Y5) .unit))
abbrev Y7:Ty:=(.cons tI (.cons tI (.cons (.sl tI) (.cons (.sl Y1) (.cons .bool (.cons (.sl (.sl tI)) .unit))))))
abbrev Y8:Ty:=(.cons tI (.cons tI (.cons .str .unit)))
abbrev Y9:Ty:=(.cons tI (.cons tI (.cons (.sl Y8) .unit)))
abbrev bS:Ty:=(.cons tI (.cons .str (.cons .bool .unit)))
abbrev sj:Ty:=(.cons (.sl tI) (.cons tI (.cons (.sl Y2) (.cons (.sl tI) (.cons (.sl Y3) (.cons tI (.cons (.sl Y6) (.cons (.sl Y7) (.cons (.sl Y9) (.cons (.sl bS) (.cons .bool .unit)))))))))))
abbrev Y12:Ty:=(.cons tI (.cons tI (.cons tI (.cons tI (.cons .str .unit)))))
abbrev Y13:Ty:=(.cons tI (.cons .bool (.cons tI (.cons tI (.cons .bool (.cons .str .unit))))))
def T:FI:=[(3,⟨1,8,.int .i64,some tI⟩),
 (4,⟨1,1,.bool,some .bool⟩),
 (5,⟨1,1,.int .u8,some tU⟩),
 (9,⟨1,16,.str,some .str⟩),
 (22,⟨1,24,.sl 5,some (.sl tU)⟩),
 (24,⟨1,24,.sl 3,some (.sl tI)⟩),
 (26,⟨2,32,.st [(0,24),(1,3)],some Y0⟩),
 (28,⟨1,24,.sl 149,some (.sl Y2)⟩),
 (29,⟨1,24,.sl 206,some (.sl Y3)⟩),
 (31,⟨2,32,.st [(0,29),(1,3)],some Y4⟩),
 (32,⟨1,24,.sl 91,some (.sl Y6)⟩),
 (33,⟨1,24,.sl 101,some (.sl Y7)⟩),
 (34,⟨1,24,.sl 60,some (.sl Y9)⟩),
 (35,⟨1,24,.sl 56,some (.sl bS)⟩),
 (37,⟨11,216,.st [(0,26),(2,28),(3,24),(4,31),(6,32),(7,33),(8,34),(9,35),(10,4)],some sj⟩),
 (46,⟨5,48,.st [(0,3),(1,3),(2,3),(3,3),(4,9)],some Y12⟩),
 (56,⟨3,32,.st [(0,3),(1,9),(2,4)],some bS⟩),
 (58,⟨1,24,.sl 104,some (.sl Y8)⟩),
 (60,⟨3,40,.st [(0,3),(1,3),(2,58)],some Y9⟩),
 (61,⟨2,32,.st [(0,24),(1,3)],some Y0⟩),
 (62,⟨1,24,.sl 169,some (.sl Y2)⟩),
 (63,⟨1,24,.sl 250,some (.sl Y3)⟩),
 (65,⟨2,32,.st [(0,63),(1,3)],some Y4⟩),
 (66,⟨1,24,.sl 174,some (.sl Y6)⟩),
 (67,⟨1,24,.sl 177,some (.sl Y7)⟩),
 (68,⟨1,24,.sl 181,some (.sl Y9)⟩),
 (69,⟨1,24,.sl 183,some (.sl bS)⟩),
 (71,⟨11,216,.st [(0,61),(2,62),(3,24),(4,65),(6,66),(7,67),(8,68),(9,69),(10,4)],some sj⟩),
 (89,⟨1,24,.sl 213,some (.sl Y5)⟩),
 (91,⟨2,32,.st [(0,3),(1,89)],some Y6⟩),
 (98,⟨1,24,.sl 222,some (.sl Y1)⟩),
 (99,⟨1,24,.sl 24,some (.sl (.sl tI))⟩),
 (101,⟨6,96,.st [(0,3),(1,3),(2,24),(3,98),(4,4),(5,99)],some Y7⟩),
 (104,⟨3,32,.st [(0,3),(1,3),(2,9)],some Y8⟩),
 (105,⟨1,8,.other,none⟩),
 (144,⟨1,24,.sl 4,some (.sl .bool)⟩),
 (149,⟨3,56,.st [(0,98),(1,98),(2,3)],some Y2⟩),
 (154,⟨1,8,.ptr 37,none⟩),
 (167,⟨1,24,.sl 290,some (.sl Y1)⟩),
 (169,⟨3,56,.st [(0,167),(1,167),(2,3)],some Y2⟩),
 (172,⟨1,24,.sl 292,some (.sl Y5)⟩),
 (174,⟨2,32,.st [(0,3),(1,172)],some Y6⟩),
 (177,⟨6,96,.st [(0,3),(1,3),(2,24),(3,167),(4,4),(5,99)],some Y7⟩),
 (179,⟨1,24,.sl 294,some (.sl Y8)⟩),
 (181,⟨3,40,.st [(0,3),(1,3),(2,179)],some Y9⟩),
 (183,⟨3,32,.st [(0,3),(1,9),(2,4)],some bS⟩),
 (206,⟨3,40,.st [(0,24),(1,4),(2,3)],some Y3⟩),
 (213,⟨3,48,.st [(0,9),(1,24),(2,4)],some Y5⟩),
 (222,⟨4,40,.st [(0,3),(1,3),(2,4),(3,9)],some Y1⟩),
 (240,⟨1,24,.sl 243,some (.sl Y13)⟩),
 (243,⟨6,56,.st [(0,3),(1,4),(2,222)],some Y13⟩),
 (247,⟨1,8,.int .u64,some (.int .u64)⟩),
 (250,⟨3,40,.st [(0,24),(1,4),(2,3)],some Y3⟩),
 (290,⟨4,40,.st [(0,3),(1,3),(2,4),(3,9)],some Y1⟩),
 (292,⟨3,48,.st [(0,9),(1,24),(2,4)],some Y5⟩),
 (294,⟨3,32,.st [(0,3),(1,3),(2,9)],some Y8⟩),
 (312,⟨1,8,.other,none⟩),
 (313,⟨1,8,.ptr 60,none⟩)]
theorem tOk:Cq Tryz.prog T:=cC (by kernel_rfl)
theorem mx:Tryz.prog.follows .mixedOrders=true:=by kernel_rfl
abbrev SQ:=SP Tryz.prog
def mk{f:Nat}{fn:Func}(hf:Tryz.prog.funcs[f]? =some fn)(i o:Bl)(g:i.Cu (Option o.V))(l:List SQ)(h:List ACR)(L:List (Lp o))
  (hJ:Rh ⟨T,iu (SP.l l),Nb h⟩ ⟨i,o,i.un g⟩ fn (bK i.C6.length L) L:=by
   repeat refine Rh.cons (fun _=>rfl) (fun _ _ _=>by kernel_rfl) ?_
   exact Rh.nil)
  (he:∀ω v,Rb ⟨T,iu (SP.l l),Nb h⟩ ⟨i,o,i.un g⟩ fn (bK i.C6.length L AL) ω v=i.un g v:=by intro ω v;kernel_rfl)
  (hL:Yl fn=Lp.ls L:=by kernel_rfl) (hd:decide (Lp.ls L).Nodup=true:=by kernel_rfl) (hc:YC fn ⟨i,o,i.un g⟩=true:=by kernel_rfl):SQ:=
 mkP tOk mx hf i o g l h L AL hL hd hc hJ he
abbrev X1:XP:= .c (.sl false tI)
abbrev A9:XP:= .c (.v tI)
abbrev ny:XP:= .row Y0
abbrev jT:XP:= .c (.sl false Y1)
abbrev qG:XP:= .c (.sl false Y2)
abbrev pW:XP:= .c (.sl false Y3)
abbrev n_:XP:= .c (.sl false Y5)
abbrev oR:XP:= .c (.sl false Y6)
abbrev qB:XP:= .c (.sl false (.sl tI))
abbrev qE:XP:= .c (.sl false Y7)
abbrev jJ:XP:= .c (.sl false Y8)
abbrev et:XP:= .c (.sl false Y9)
abbrev iB:XP:= .c (.sl false bS)
abbrev UC:XP:= .c (.ref 0)
abbrev ze:XP:= .agg [.ref 0,.v tI,.ref 1,.ref 2,.ref 3,.v tI,.ref 4,.ref 5,.ref 6,.ref 7,.v .bool]
abbrev FD:XP:= .c (.ptr 0 0)
abbrev PX:XP:= .c (.ptr 1 0)
abbrev av:XP:= .c (.ptr 10 0)
abbrev e9:XP:= .c (.sl false Y13)
abbrev uI:XP:= .c (.gU 330 [(.cons (.sl tI) .unit)])
abbrev lB:XP:= .c (.dz sj)
abbrev VZ:BP:= .sl 9 tI
abbrev cz:BP:= .sl 9 Y1
abbrev dp:BP:= .sl 9 Y3
abbrev iC:BP:= .sl 9 (.sl tI)
abbrev ko:BP:= .mem [.sl false tI,.v tI]
abbrev xF:BP:= .mem [.sl false tI,.v tI,.sl false Y2,.sl false tI,.sl false Y3,.v tI,.sl false Y6,.sl false Y7,.sl false Y9,.sl false bS,.v .bool]
abbrev zo:BP:= .mem [.sl false Y3,.v tI]
abbrev qj:BP:= .mem [.v tI,.sl false Y5]
abbrev uK:BP:= .mem [.v tI,.v tI,.sl false tI,.sl false Y1,.v .bool,.sl false (.sl tI)]
abbrev u_:BP:= .mem [.v tI,.v tI,.v .bool,.v .str]
abbrev fC:BP:= .sl 1 tI
abbrev y8:BP:= .mem [.ref 1,.v tI,.ref 2,.ref 3,.ref 4,.v tI,.ref 5,.ref 6,.ref 7,.ref 8,.v .bool]
abbrev AAn:BP:= .mem [.v tI,.v tI,.v tI,.v tI,.v .str]
abbrev VI:List (Nat×XP):=[(0,A9)]
abbrev ZO:List (Nat×XP):=[(0,UC)]
abbrev uQ:List (Nat×XP):=[(1,FD),(3,A9)]
abbrev ABJ:List (Nat×XP):=[(2,FD),(3,PX),(5,A9),(6,A9)]
abbrev ABu:List (Nat×XP):=[(1,FD),(2,PX),(3,.c (.ptr 3 0)),(4,A9)]
abbrev AAm:List (Nat×XP):=[(0,.LI [.inr [.v tI,.v tI,.ref 0],.inl (.v tI)])]
abbrev cN:List (Nat×XP):=[(0,UC),(1,A9)]
abbrev dU:List (Nat×XP):=[(0,UC),(1,A9),(5,A9)]
abbrev ABw:List (Nat×XP):=[(0,.agg [.ref 0,.v tI]),(1,A9)]
abbrev jE:List (Nat×XP):=[(0,.c (.UA 0 3)),(1,A9)]
abbrev eG:List BP:=[VZ]
abbrev vB:List BP:=[xF]
abbrev AA0:List BP:=[ko,zo]
abbrev ACq:List BP:=[ko,qj]
abbrev wS:List BP:=[ko,uK]
abbrev aX:List BP:=[xF,.mem [.ref 2,.v tI,.ref 3,.ref 4,.ref 5,.v tI,.ref 6,.ref 7,.ref 8,.ref 9,.v .bool],VZ,.sl 9 Y2,VZ,dp,.sl 9 Y6,.sl 9 Y7,.sl 9 Y9,.sl 9 bS,.mem [.ref 11,.v tI,.ref 12,.ref 13,.ref 14,.v tI,.ref 15,.ref 16,.ref 17,.ref 18,.v .bool],VZ,.sl 9 Y2,VZ,dp,.sl 9 Y6,.sl 9 Y7,.sl 9 Y9,.sl 9 bS]
abbrev ACN:List BP:=[ko,VZ]
abbrev rh:List BP:=[fC,.sl 2 Y2,fC,.sl 2 Y3,.sl 3 Y6,.sl 3 Y7,.sl 2 Y9,.sl 1 bS]
abbrev kB:List BP:=[fC]
abbrev AB5:List BP:=[.mem [.v tI,.v tI,.ref 1],.sl 1 Y8]
abbrev xS:List BP:=[y8,fC,.sl 2 Y2,fC,.sl 2 Y3,.sl 3 Y6,.sl 3 Y7,.sl 2 Y9,.sl 1 bS]
abbrev ov:List BP:=[.sl 2 (.sl tI)]
abbrev mq:Bl:=⟨[(0,X1),(1,A9)],[]⟩
abbrev Ca:Bl:=⟨VI,[]⟩
abbrev AB2:Bl:=⟨[(0,ny),(1,A9)],[]⟩
abbrev AA1:Bl:=⟨[(0,.row Y1),(1,A9)],[]⟩
abbrev oQ:Bl:=⟨[(0,jT),(1,A9)],[]⟩
abbrev AA6:Bl:=⟨[(0,jT),(1,A9),(5,A9)],[]⟩
abbrev ACn:Bl:=⟨[(0,.row Y2),(1,A9)],[]⟩
abbrev AAe:Bl:=⟨[(0,qG),(1,A9)],[]⟩
abbrev ACv:Bl:=⟨[(0,qG),(1,A9),(5,A9)],[]⟩
abbrev AA9:Bl:=⟨[(0,pW),(1,A9)],[]⟩
abbrev ACf:Bl:=⟨[(0,pW),(1,A9),(5,A9)],[]⟩
abbrev ABP:Bl:=⟨[(0,.row Y4),(1,A9)],[]⟩
abbrev ACW:Bl:=⟨[(0,n_),(1,A9)],[]⟩
abbrev ACP:Bl:=⟨[(0,n_),(1,A9),(5,A9)],[]⟩
abbrev ABr:Bl:=⟨[(0,oR),(1,A9)],[]⟩
abbrev ABI:Bl:=⟨[(0,oR),(1,A9),(5,A9)],[]⟩
abbrev AAr:Bl:=⟨[(0,qB),(1,A9)],[]⟩
abbrev AAx:Bl:=⟨[(0,qB),(1,A9),(5,A9)],[]⟩
abbrev ACX:Bl:=⟨[(0,qE),(1,A9)],[]⟩
abbrev ACl:Bl:=⟨[(0,qE),(1,A9),(5,A9)],[]⟩
abbrev ABY:Bl:=⟨[(0,jJ),(1,A9)],[]⟩
abbrev ACj:Bl:=⟨[(0,jJ),(1,A9),(5,A9)],[]⟩
abbrev ABM:Bl:=⟨[(0,et),(1,A9)],[]⟩
abbrev ACT:Bl:=⟨[(0,et),(1,A9),(5,A9)],[]⟩
abbrev ABv:Bl:=⟨[(0,iB),(1,A9)],[]⟩
abbrev ABh:Bl:=⟨[(0,iB),(1,A9),(5,A9)],[]⟩
abbrev jV:Bl:=⟨[(0,.row sj),(1,A9)],[]⟩
abbrev i6:Bl:=⟨ZO,eG⟩
abbrev vH:Bl:=⟨[(0,ny)],[]⟩
abbrev ABN:Bl:=⟨[(0,.agg [.ref 0,.v tI])],eG⟩
abbrev yq:Bl:=⟨[(0,.row Y1)],[]⟩
abbrev zp:Bl:=⟨[(0,.agg [.v tI,.v tI,.v .bool,.v .str])],[]⟩
abbrev p8:Bl:=⟨[(0,jT)],[]⟩
abbrev ABb:Bl:=⟨ZO,[cz]⟩
abbrev mi:Bl:=⟨[(0,.row Y2)],[]⟩
abbrev ym:Bl:=⟨[(0,.agg [.ref 0,.ref 1,.v tI])],[cz,cz]⟩
abbrev pf:Bl:=⟨[(0,.row Y4)],[]⟩
abbrev wa:Bl:=⟨[(0,.agg [.ref 0,.v tI])],[dp]⟩
abbrev oE:Bl:=⟨[(0,.row Y6)],[]⟩
abbrev zb:Bl:=⟨[(0,.agg [.v tI,.ref 0])],[.sl 9 Y5]⟩
abbrev nT:Bl:=⟨[(0,.row Y7)],[]⟩
abbrev xX:Bl:=⟨[(0,.agg [.v tI,.v tI,.ref 0,.ref 1,.v .bool,.ref 2])],[VZ,cz,iC]⟩
abbrev ABl:Bl:=⟨[(0,.agg [.v tI,.v tI,.v .str])],[]⟩
abbrev oc:Bl:=⟨[(0,.row Y9)],[]⟩
abbrev mR:Bl:=⟨[(0,.agg [.v tI,.v tI,.ref 0])],[.sl 9 Y8]⟩
abbrev aE:Bl:=⟨[(0,.row sj)],[]⟩
abbrev oW:Bl:=⟨[(0,ze)],[VZ,.sl 9 Y2,VZ,dp,.sl 9 Y6,.sl 9 Y7,.sl 9 Y9,.sl 9 bS]⟩
abbrev wK:Bl:=⟨[(0,A9),(1,A9),(2,A9)],[]⟩
abbrev Au:Bl:=⟨[(0,.c (.v .bool))],[]⟩
abbrev fv:Bl:=⟨[(0,ny),(1,X1)],[]⟩
abbrev vl:Bl:=⟨[(0,X1),(1,A9),(5,A9)],[]⟩
abbrev wQ:Bl:=⟨uQ,vB⟩
abbrev vn:Bl:=⟨[(0,ny),(1,.row Y4)],[]⟩
abbrev vt:Bl:=⟨[(0,ny),(1,.row Y6)],[]⟩
abbrev wC:Bl:=⟨[(0,ny),(1,.row Y7)],[]⟩
abbrev pK:Bl:=⟨[(0,.row Y12)],[]⟩
abbrev wH:Bl:=⟨[(0,A9),(1,A9)],[]⟩
abbrev pS:Bl:=⟨[(0,.LI [.inr [.v tI,.v tI,.v .bool,.v .str],.inl (.v .bool)])],[]⟩
abbrev mC:Bl:=⟨[(0,X1),(1,X1)],[]⟩
abbrev pJ:Bl:=⟨[(0,ny),(1,X1),(2,X1)],[]⟩
abbrev pI:Bl:=⟨[(0,.row Y1),(1,.row Y1)],[]⟩
abbrev wL:Bl:=⟨[(0,ny),(1,.row Y4),(2,A9),(3,.row Y9),(4,e9)],[]⟩
abbrev wA:Bl:=⟨[(0,ze),(1,.row Y12)],rh⟩
abbrev gA:Bl:=⟨[(0,.LI [.inr [.ref 0,.v tI,.ref 1,.ref 2,.ref 3,.v tI,.ref 4,.ref 5,.ref 6,.ref 7,.v .bool],.inl (.v tI)])],rh⟩
abbrev wI:Bl:=⟨[(0,.row sj),(1,.row Y12)],[]⟩
abbrev vy:Bl:=⟨[(1,A9),(4,FD),(6,.c (.ptr 9 0)),(7,A9)],[y8,VZ,.sl 9 Y2,VZ,dp,.sl 9 Y6,.sl 9 Y7,.sl 9 Y9,.sl 9 bS,.mem [.ref 10,.v tI,.ref 11,.ref 12,.ref 13,.v tI,.ref 14,.ref 15,.ref 16,.ref 17,.v .bool],fC,.sl 2 Y2,fC,.sl 2 Y3,.sl 3 Y6,.sl 3 Y7,.sl 2 Y9,.sl 1 bS]⟩
abbrev oq:Bl:=⟨[(0,.c (.v .str))],[]⟩
abbrev vq:Bl:=⟨[(0,lB),(1,A9)],[]⟩
abbrev kE:Bl:=⟨[(0,lB)],[]⟩
abbrev pt:Bl:=⟨[(0,.LI [.inl (.v tI),.inl (.v .bool)])],[]⟩
abbrev wJ:Bl:=⟨[(0,.LI [])],[.mem [.v tI,.v tI,.ref 2],.gone,.sl 1 Y8]⟩
abbrev wR:Bl:=⟨VI,xS⟩
abbrev oF:Bl:=⟨VI,[.sl 2 Y3]⟩
abbrev fy:Bl:=⟨[(0,.c (.UA 0 6)),(1,A9)],[.sl 3 Y7]⟩
abbrev mN:Bl:=⟨VI,[.sl 3 Y7]⟩
abbrev vp:Bl:=⟨VI,ov⟩
def zz:SQ:=mk Tryz.func51 mq Ca EZ [] [] []
def s49:SQ:=mk Tryz.func49 AB2 Ca OT [zz] [] []
def AFs:SQ:=mk Tryz.func287 AA1 Ca Qk [] [] []
def ABX:SQ:=mk Tryz.func218 oQ Ca Hf [AFs] [] [⟨5,AA6,GS⟩]
def AEN:SQ:=mk Tryz.func135 ACn Ca Qz [ABX] [] []
def s50:SQ:=mk Tryz.func50 AAe Ca N4 [AEN] [] [⟨5,ACv,GM⟩]
def AFl:SQ:=mk Tryz.func219 ⟨[(0,.row Y3),(1,A9)],[]⟩ Ca U8 [zz] [] []
def ADt:SQ:=mk Tryz.func136 AA9 Ca Th [AFl] [] [⟨5,ACf,Iq⟩]
def s52:SQ:=mk Tryz.func52 ABP Ca KP [ADt] [] []
def AF5:SQ:=mk Tryz.func288 ⟨[(0,.row Y5),(1,A9)],[]⟩ Ca S9 [zz] [] []
def ADe:SQ:=mk Tryz.func220 ACW Ca Qh [AF5] [] [⟨5,ACP,HM⟩]
def AD9:SQ:=mk Tryz.func137 ⟨[(0,.row Y6),(1,A9)],[]⟩ Ca Of [ADe] [] []
def s53:SQ:=mk Tryz.func53 ABr Ca Ll [AD9] [] [⟨5,ABI,FY⟩]
def AF0:SQ:=mk Tryz.func221 AAr Ca Q5 [zz] [] [⟨5,AAx,HN⟩]
def ADk:SQ:=mk Tryz.func138 ⟨[(0,.row Y7),(1,A9)],[]⟩ Ca Tt [zz,ABX,AF0] [] []
def s54:SQ:=mk Tryz.func54 ACX Ca Q9 [ADk] [] [⟨5,ACl,HQ⟩]
def ADl:SQ:=mk Tryz.func289 ⟨[(0,.row Y8),(1,A9)],[]⟩ Ca M5 [] [] []
def AFL:SQ:=mk Tryz.func222 ABY Ca OZ [ADl] [] [⟨5,ACj,Df⟩]
def AFa:SQ:=mk Tryz.func139 ⟨[(0,.row Y9),(1,A9)],[]⟩ Ca Od [AFL] [] []
def s55:SQ:=mk Tryz.func55 ABM Ca MM [AFa] [] [⟨5,ACT,Fu⟩]
def ADj:SQ:=mk Tryz.func140 ⟨[(0,.row bS),(1,A9)],[]⟩ Ca Tr [] [] []
def s56:SQ:=mk Tryz.func56 ABv Ca Qr [ADj] [] [⟨5,ABh,Hc⟩]
def s21:SQ:=mk Tryz.func21 jV Ca Qm [s49,s50,zz,s52,s53,s54,s55,s56] [] []
def zy:SQ:=mk Tryz.func62 ⟨[(0,X1)],[]⟩ i6 EY [] [] [⟨3,⟨[(0,X1),(3,UC),(4,A9)],eG⟩,Iu⟩]
def s60:SQ:=mk Tryz.func60 vH ABN OP [zy] [] []
def AEm:SQ:=mk Tryz.func323 yq zp VD [] [] []
def ACQ:SQ:=mk Tryz.func248 p8 ABb Ho [AEm] [] [⟨3,⟨[(0,jT),(3,UC),(4,A9)],[cz]⟩,GW⟩]
def ADn:SQ:=mk Tryz.func152 mi ym Qy [ACQ] [] []
def s61:SQ:=mk Tryz.func61 ⟨[(0,qG)],[]⟩ ⟨ZO,[.sl 9 Y2]⟩ OL [ADn] [] [⟨3,⟨[(0,qG),(3,UC),(4,A9)],[.sl 9 Y2]⟩,GU⟩]
def AEz:SQ:=mk Tryz.func249 ⟨[(0,.row Y3)],[]⟩ ⟨[(0,.agg [.ref 0,.v .bool,.v tI])],eG⟩ U4 [zy] [] []
def ADu:SQ:=mk Tryz.func153 ⟨[(0,pW)],[]⟩ ⟨ZO,[dp]⟩ S6 [AEz] [] [⟨3,⟨[(0,pW),(3,UC),(4,A9)],[dp]⟩,IX⟩]
def s63:SQ:=mk Tryz.func63 pf wa Kj [ADu] [] []
def AFn:SQ:=mk Tryz.func324 ⟨[(0,.row Y5)],[]⟩ ⟨[(0,.agg [.v .str,.ref 0,.v .bool])],eG⟩ Tl [zy] [] []
def AGB:SQ:=mk Tryz.func250 ⟨[(0,n_)],[]⟩ ⟨ZO,[.sl 9 Y5]⟩ Qt [AFn] [] [⟨3,⟨[(0,n_),(3,UC),(4,A9)],[.sl 9 Y5]⟩,HJ⟩]
def ADP:SQ:=mk Tryz.func154 oE zb Oc [AGB] [] []
def s64:SQ:=mk Tryz.func64 ⟨[(0,oR)],[]⟩ ⟨ZO,[.sl 9 Y6]⟩ M3 [ADP] [] [⟨3,⟨[(0,oR),(3,UC),(4,A9)],[.sl 9 Y6]⟩,Fe⟩]
def ADK:SQ:=mk Tryz.func251 ⟨[(0,qB)],[]⟩ ⟨ZO,[iC]⟩ Qi [zy] [] [⟨3,⟨[(0,qB),(3,UC),(4,A9)],[iC]⟩,HV⟩]
def ADf:SQ:=mk Tryz.func155 nT xX Sz [zy,ACQ,ADK] [] []
def s65:SQ:=mk Tryz.func65 ⟨[(0,qE)],[]⟩ ⟨ZO,[.sl 9 Y7]⟩ RH [ADf] [] [⟨3,⟨[(0,qE),(3,UC),(4,A9)],[.sl 9 Y7]⟩,HX⟩]
def AFi:SQ:=mk Tryz.func325 ⟨[(0,.row Y8)],[]⟩ ABl RG [] [] []
def AEX:SQ:=mk Tryz.func252 ⟨[(0,jJ)],[]⟩ ⟨ZO,[.sl 9 Y8]⟩ Og [AFi] [] [⟨3,⟨[(0,jJ),(3,UC),(4,A9)],[.sl 9 Y8]⟩,Dh⟩]
def AF6:SQ:=mk Tryz.func156 oc mR OS [AEX] [] []
def s66:SQ:=mk Tryz.func66 ⟨[(0,et)],[]⟩ ⟨ZO,[.sl 9 Y9]⟩ Mc [AF6] [] [⟨3,⟨[(0,et),(3,UC),(4,A9)],[.sl 9 Y9]⟩,FX⟩]
def AD7:SQ:=mk Tryz.func157 ⟨[(0,.row bS)],[]⟩ ⟨[(0,.agg [.v tI,.v .str,.v .bool])],[]⟩ WK [] [] []
def s67:SQ:=mk Tryz.func67 ⟨[(0,iB)],[]⟩ ⟨ZO,[.sl 9 bS]⟩ RJ [AD7] [] [⟨3,⟨[(0,iB),(3,UC),(4,A9)],[.sl 9 bS]⟩,HU⟩]
def s23:SQ:=mk Tryz.func23 aE oW HC [s60,s61,zy,s63,s64,s65,s66,s67] [] []
def mf:SQ:=mk Tryz.func34 wK Au CF [] [] []
def s9:SQ:=mk Tryz.func9 vH Au Eb [mf] [] [⟨4,⟨uQ,[ko]⟩,Gp⟩]
def AE9:SQ:=mk Tryz.func104 ⟨[(0,X1),(1,A9),(2,A9)],[]⟩ Au U_ [mf] [] [⟨2,⟨[(0,X1),(1,A9),(2,A9),(7,A9)],[]⟩,Hl⟩]
def z_:SQ:=mk Tryz.func35 fv Au Di [s9,AE9] [] []
def s36:SQ:=mk Tryz.func36 fv Ca PV [] [(6,[0,1])] [⟨4,⟨[(1,X1),(2,FD),(5,.c (.ref 1)),(6,A9),(7,A9)],[ko,.sl 9 .bool]⟩,Ip⟩]
def zA:SQ:=mk Tryz.func10 fv Au Kz [z_,s36] [(1,[0])] []
def oL:SQ:=mk Tryz.func230 Ca Au Ff [mf] [] []
def oT:SQ:=mk Tryz.func231 Ca Ca Ft [oL] [] []
def zR:SQ:=mk Tryz.func292 yq Au JW [mf,oL,oT] [(1,[0])] []
def AFG:SQ:=mk Tryz.func290 oQ Au O2 [zR] [] [⟨4,⟨[(0,jT),(5,A9)],[]⟩,Gr⟩]
def AB3:SQ:=mk Tryz.func291 p8 Au Ro [] [] [⟨2,⟨[(0,jT),(3,A9)],[]⟩,C7⟩]
def AES:SQ:=mk Tryz.func223 mi Au Qw [mf,AFG,AB3] [] []
def ub:SQ:=mk Tryz.func224 mq Au LA [] [] [⟨2,vl,KE⟩]
def AEU:SQ:=mk Tryz.func225 mi Au Uz [] [] []
def AEV:SQ:=mk Tryz.func141 aE Au N6 [s9,zA,z_,AES,ub,AEU] [] [⟨4,wQ,Ek⟩]
def ACI:SQ:=mk Tryz.func226 vn Au Sh [s9,zA,mf,oL,oT] [] [⟨5,⟨ABJ,AA0⟩,F5⟩]
def AEZ:SQ:=mk Tryz.func227 vt Au Oe [s9,zA,mf,z_] [(8,[0,1,2])] [⟨5,⟨ABJ,ACq⟩,GL⟩]
def ABC:SQ:=mk Tryz.func343 Ca Ca Re [oL] [] []
def ADQ:SQ:=mk Tryz.func293 nT Ca Tg [ABC] [] []
def AEu:SQ:=mk Tryz.func228 wC Au Tw [s9,mf,z_,oT,AB3,zR,ADQ] [(6,[0,1]),(11,[0,1]),(15,[0,1])] [⟨4,⟨[(2,FD),(3,PX),(5,A9)],wS⟩,Er⟩,⟨9,⟨[(2,FD),(3,PX),(6,A9)],wS⟩,Dq⟩]
def AFK:SQ:=mk Tryz.func229 pf Ca L9 [] [] [⟨2,⟨uQ,[zo]⟩,D4⟩]
def AFb:SQ:=mk Tryz.func142 aE Au Md [ACI,AEZ,AEu,AFK] [(7,[0]),(13,[0,1])] [⟨5,⟨[(1,FD),(3,A9),(4,A9)],vB⟩,DA⟩,⟨10,⟨[(1,FD),(3,A9),(5,A9)],vB⟩,CS⟩]
def ABF:SQ:=mk Tryz.func143 oc Au Hn [mf] [] []
def AF8:SQ:=mk Tryz.func144 aE Au RE [oL,oT] [(7,[0,1])] [⟨4,wQ,FN⟩]
def s57:SQ:=mk Tryz.func57 aE Au Mg [AEV,AFb,ABF,AF8] [] []
abbrev i145:Bl:=pf
abbrev kV:Bl:=wa
def ACL:SQ:=mk Tryz.func145 i145 kV FW [] [] [⟨3,⟨ABu,[zo,.mem [.ref 2,.v tI],dp,.mem [.ref 4,.v tI],dp]⟩,I5⟩]
abbrev i146:Bl:=mi
abbrev lC:Bl:=ym
def AAu:SQ:=mk Tryz.func146 i146 lC Fv [] [(1,[0])] [] (he:=fun ω v=>by rcases ω with _|⟨_|_,_|⟨_|_,_⟩⟩<;>kernel_rfl)
abbrev ZB:Bl:=oE
abbrev lr:Bl:=zb
def AAY:SQ:=mk Tryz.func147 ZB lr Fq [] [] [⟨3,⟨ABu,[qj,.mem [.v tI,.ref 2],.sl 9 Y5,.mem [.v tI,.ref 4],.sl 9 Y5]⟩,I8⟩]
abbrev i148:Bl:=nT
abbrev iM:Bl:=xX
def c148:Sf:=⟨i148,iM,(i148.un Ec)⟩
def w5:bV:=⟨T,iu (SP.l ([]:List SQ)),Nb [(1,[0,1]),(5,[0,1,2,3,4,6,7])]⟩
def qq:List (Lp iM):=[⟨3,⟨[(1,FD),(2,PX),(3,.c (.ptr 5 0)),(4,A9)],[uK,.mem [.v tI,.v tI,.ref 2,.ref 3,.v .bool,.ref 4],VZ,cz,iC,.mem [.v tI,.v tI,.ref 6,.ref 7,.v .bool,.ref 8],VZ,cz,iC]⟩,Dw⟩]
abbrev lM:Bl:=⟨[(1,FD),(2,PX),(3,.c (.ptr 5 0)),(4,A9)],[uK,.mem [.v tI,.v tI,.ref 2,.ref 3,.v .bool,.ref 4],VZ,cz,iC,.mem [.v tI,.v tI,.ref 6,.ref 7,.v .bool,.ref 8],VZ,cz,iC]⟩
theorem yC(n:Nat)(v:lM.V)(ω:List Bool):TJ w5 c148 Tryz.f148 (bK 0 qq n) 3 ω (lM.st 40 v)=lM.un (MF (Dw n)) v:=by rcases ω with _|⟨_|_,_|⟨_|_,_|⟨_|_,_⟩⟩⟩<;>kernel_rfl
def Bb(ω:List Bool):Prop:= ∀(n:Nat) (v:i148.V),Rb w5 c148 Tryz.f148 (bK 0 qq n) ω v=i148.un (IK (Dw n)) v
theorem zG:Bb []:=by delta Bb;intros;kernel_rfl
theorem y7:Bb (false::[]):=by delta Bb;intros;kernel_rfl
theorem xn:Bb (false::false::[]):=by delta Bb;intros;kernel_rfl
theorem yi(ω:List Bool):Bb (false::false::false::ω):=by delta Bb;intros;kernel_rfl
theorem yI:Bb (false::false::true::[]):=by delta Bb;intros;kernel_rfl
theorem zB(ω:List Bool):Bb (false::false::true::false::ω):=by delta Bb;intros;kernel_rfl
theorem wx(ω:List Bool):Bb (false::false::true::true::ω):=by delta Bb;intros;kernel_rfl
theorem zU:Bb (false::true::[]):=by delta Bb;intros;kernel_rfl
theorem zM(ω:List Bool):Bb (false::true::false::ω):=by delta Bb;intros;kernel_rfl
theorem tq:Bb (false::true::true::[]):=by delta Bb;intros;kernel_rfl
theorem qP(ω:List Bool):Bb (false::true::true::false::ω):=by delta Bb;intros;kernel_rfl
theorem uV:Bb (false::true::true::true::[]):=by delta Bb;intros;kernel_rfl
theorem th(ω:List Bool):Bb (false::true::true::true::false::ω):=by delta Bb;intros;kernel_rfl
theorem sD(ω:List Bool):Bb (false::true::true::true::true::ω):=by delta Bb;intros;kernel_rfl
theorem sq:Bb (true::[]):=by delta Bb;intros;kernel_rfl
theorem vC:Bb (true::false::[]):=by delta Bb;intros;kernel_rfl
theorem uZ:Bb (true::false::false::[]):=by delta Bb;intros;kernel_rfl
theorem qU(ω:List Bool):Bb (true::false::false::false::ω):=by delta Bb;intros;kernel_rfl
theorem tG(ω:List Bool):Bb (true::false::false::true::ω):=by delta Bb;intros;kernel_rfl
theorem uc:Bb (true::false::true::[]):=by delta Bb;intros;kernel_rfl
theorem rp(ω:List Bool):Bb (true::false::true::false::ω):=by delta Bb;intros;kernel_rfl
theorem r9:Bb (true::false::true::true::[]):=by delta Bb;intros;kernel_rfl
theorem vO(ω:List Bool):Bb (true::false::true::true::false::ω):=by delta Bb;intros;kernel_rfl
theorem rE(ω:List Bool):Bb (true::false::true::true::true::ω):=by delta Bb;intros;kernel_rfl
theorem qT:Bb (true::true::[]):=by delta Bb;intros;kernel_rfl
theorem qp(ω:List Bool):Bb (true::true::false::ω):=by delta Bb;intros;kernel_rfl
theorem uT:Bb (true::true::true::[]):=by delta Bb;intros;kernel_rfl
theorem uu(ω:List Bool):Bb (true::true::true::false::ω):=by delta Bb;intros;kernel_rfl
theorem ry(ω:List Bool):Bb (true::true::true::true::ω):=by delta Bb;intros;kernel_rfl
theorem AD5(n:Nat)(ω:List Bool)(v:i148.V):Rb w5 c148 Tryz.f148 (bK 0 qq n) ω v=i148.un (IK (Dw n)) v:=(AD zG (AD y7 (AD xn yi (AD yI zB wx)) (AD zU zM (AD tq qP (AD uV th sD)))) (AD sq (AD vC (AD uZ qU tG) (AD uc rp (AD r9 vO rE))) (AD qT qp (AD uT uu ry)))) ω n v
def ABR:SQ:=mk Tryz.func148 i148 iM Ec [] [(1,[0,1]),(5,[0,1,2,3,4,6,7])] qq (hJ:= .cons (fun _=>rfl) yC (.nil)) (he:=AD5 AL)
abbrev ZM:Bl:=oc
abbrev lR:Bl:=mR
def rG:SQ:=mk Tryz.func149 ZM lR Ax [] [] []
abbrev rU:Bl:=aE
abbrev o58:Bl:=oW
def pL:Sf:=⟨rU,o58,(rU.un HF)⟩
def C58:bV:=⟨T,iu (SP.l [ACL,AAu,AAY,ABR,rG]),Nb [(1,[0,1]),(5,[0,1,2,3,4,5,6,7,8,9,11,13,14,15,16,17,18]),(9,[0,1,2,3,4,5,6,7,8,9,11,12,13,14,16,17,18]),(13,[0,1,2,3,4,5,6,7,8,9,11,12,13,14,15,17,18]),(17,[0,1,2,3,4,5,6,7,8,9,11,12,13,14,15,16,18])]⟩
def nt:List (Lp o58):=[⟨3,⟨[(1,FD),(2,PX),(3,av),(4,A9)],aX⟩,A7⟩,⟨7,⟨[(1,FD),(2,PX),(3,av),(5,A9)],aX⟩,BD⟩,⟨11,⟨[(1,FD),(2,PX),(3,av),(6,A9)],aX⟩,A3⟩,⟨15,⟨[(1,FD),(2,PX),(3,av),(7,A9)],aX⟩,A4⟩]
abbrev fY:Bl:=⟨[(1,FD),(2,PX),(3,av),(4,A9)],aX⟩
abbrev gJ:Bl:=⟨[(1,FD),(2,PX),(3,av),(5,A9)],aX⟩
abbrev ZR:Bl:=⟨[(1,FD),(2,PX),(3,av),(6,A9)],aX⟩
abbrev Zd:Bl:=⟨[(1,FD),(2,PX),(3,av),(7,A9)],aX⟩
theorem ACp(Ye:AAT→Option C_)(ZV:AA2→Option F_)(Zs:AAi→Option C8)(Zh:AAj→Option C9)(Zr:AAt→Option E8)(n:Nat)(v:fY.V)(ω:List Bool):TJ ⟨T,iu [(145,⟨i145,kV,i145.un Ye⟩),(146,⟨i146,lC,i146.un ZV⟩),(147,⟨ZB,lr,ZB.un Zs⟩),(148,⟨i148,iM,i148.un Zh⟩),(149,⟨ZM,lR,ZM.un Zr⟩)],Nb [(1,[0,1]),(5,[0,1,2,3,4,5,6,7,8,9,11,13,14,15,16,17,18]),(9,[0,1,2,3,4,5,6,7,8,9,11,12,13,14,16,17,18]),(13,[0,1,2,3,4,5,6,7,8,9,11,12,13,14,15,17,18]),(17,[0,1,2,3,4,5,6,7,8,9,11,12,13,14,15,16,18])]⟩ pL Tryz.f58 (bK 0 nt n) 3 ω (fY.st 104 v)=fY.un (fun(t4:Int) (Ac:AAA) (AZ:Int) (BM:AAG) (CO:AAA) (Ck:AAB) (Bu:Int) (CD:AAD) (B_:AAC) (Cw:AAE) (C5:AAH) (BB:Bool) (BJ:Int) (EP:Int) (Eg:Bool) (b2:AAA) (b3:AAG) (b4:AAA) (b5:AAB) (b6:AAD) (b7:AAC) (b8:AAE) (b9:AAH) (Ds:Int) (Dv:Int) (CQ:Bool) (Rv:AAA) (GC:AAG) (Ut:AAA) (UZ:AAB) (H4:AAD) (J5:AAC) (Nw:AAE) (Wn:AAH)=>
 cond ((decide (t4<(BM.length:Int))))
  (if(0:Int)≤t4∧t4<(BM.length:Int)then(
  (ZV ((BM.getD (t4.toNat) ([],[],0,())).1,(BM.getD (t4.toNat) ([],[],0,())).2.1,(BM.getD (t4.toNat) ([],[],0,())).2.2.1,())).bind fun lH=>
  if GC.length+1≤Go.M.Ej then(
  (A7 n) (AX (t4+1)) Ac AZ BM CO Ck Bu CD B_ Cw C5 BB BJ EP Eg b2 b3 b4 b5 b6 b7 b8 b9 Ds Dv CQ Rv (GC++[(lH.2.1,lH.2.2.1,lH.1.1.2.2.1,())]) Ut UZ H4 J5 Nw Wn)else none)else none)
 ((BD n) 0 Ac AZ BM CO Ck Bu CD B_ Cw C5 BB BJ EP Eg b2 b3 b4 b5 b6 b7 b8 b9 Ds Dv CQ Rv GC Ut UZ H4 J5 Nw Wn)) v:=by rcases ω with _|⟨_|_,_|⟨_|_,_⟩⟩<;>kernel_rfl
theorem ABS(n:Nat)(v:fY.V)(ω:List Bool):TJ C58 pL Tryz.f58 (bK 0 nt n) 3 ω (fY.st 104 v)=fY.un (Kx (A7 n) (BD n) (A3 n) (A4 n)) v:=ACp FW Fv Fq Ec Ax n v ω
theorem ABz(Ye:AAT→Option C_)(ZV:AA2→Option F_)(Zs:AAi→Option C8)(Zh:AAj→Option C9)(Zr:AAt→Option E8)(n:Nat)(v:gJ.V)(ω:List Bool):TJ ⟨T,iu [(145,⟨i145,kV,i145.un Ye⟩),(146,⟨i146,lC,i146.un ZV⟩),(147,⟨ZB,lr,ZB.un Zs⟩),(148,⟨i148,iM,i148.un Zh⟩),(149,⟨ZM,lR,ZM.un Zr⟩)],Nb [(1,[0,1]),(5,[0,1,2,3,4,5,6,7,8,9,11,13,14,15,16,17,18]),(9,[0,1,2,3,4,5,6,7,8,9,11,12,13,14,16,17,18]),(13,[0,1,2,3,4,5,6,7,8,9,11,12,13,14,15,17,18]),(17,[0,1,2,3,4,5,6,7,8,9,11,12,13,14,15,16,18])]⟩ pL Tryz.f58 (bK 0 nt n) 7 ω (gJ.st 104 v)=gJ.un (fun(t5:Int) (Ac:AAA) (AZ:Int) (BM:AAG) (CO:AAA) (Ck:AAB) (Bu:Int) (CD:AAD) (B_:AAC) (Cw:AAE) (C5:AAH) (BB:Bool) (BJ:Int) (EP:Int) (Eg:Bool) (b2:AAA) (b3:AAG) (b4:AAA) (b5:AAB) (b6:AAD) (b7:AAC) (b8:AAE) (b9:AAH) (Ds:Int) (Dv:Int) (CQ:Bool) (Rv:AAA) (GC:AAG) (Ut:AAA) (UZ:AAB) (H4:AAD) (J5:AAC) (Nw:AAE) (Wn:AAH)=>
 cond ((decide (t5<(CD.length:Int))))
  (if(0:Int)≤t5∧t5<(CD.length:Int)then(
  (Zs ((CD.getD (t5.toNat) (0,[],())).1,(CD.getD (t5.toNat) (0,[],())).2.1,())).bind fun pn=>
  if H4.length+1≤Go.M.Ej then(
  (BD n) (AX (t5+1)) Ac AZ BM CO Ck Bu CD B_ Cw C5 BB BJ EP Eg b2 b3 b4 b5 b6 b7 b8 b9 Ds Dv CQ Rv GC Ut UZ (H4++[(pn.1.1.1,pn.2.1,())]) J5 Nw Wn)else none)else none)
 ((A3 n) 0 Ac AZ BM CO Ck Bu CD B_ Cw C5 BB BJ EP Eg b2 b3 b4 b5 b6 b7 b8 b9 Ds Dv CQ Rv GC Ut UZ H4 J5 Nw Wn)) v:=by rcases ω with _|⟨_|_,_|⟨_|_,_⟩⟩<;>kernel_rfl
theorem ACs(n:Nat)(v:gJ.V)(ω:List Bool):TJ C58 pL Tryz.f58 (bK 0 nt n) 7 ω (gJ.st 104 v)=gJ.un (Kw (A7 n) (BD n) (A3 n) (A4 n)) v:=ABz FW Fv Fq Ec Ax n v ω
theorem wi(Ye:AAT→Option C_)(ZV:AA2→Option F_)(Zs:AAi→Option C8)(Zh:AAj→Option C9)(Zr:AAt→Option E8)(n:Nat)(v:ZR.V)(ω:List Bool):TJ ⟨T,iu [(145,⟨i145,kV,i145.un Ye⟩),(146,⟨i146,lC,i146.un ZV⟩),(147,⟨ZB,lr,ZB.un Zs⟩),(148,⟨i148,iM,i148.un Zh⟩),(149,⟨ZM,lR,ZM.un Zr⟩)],Nb [(1,[0,1]),(5,[0,1,2,3,4,5,6,7,8,9,11,13,14,15,16,17,18]),(9,[0,1,2,3,4,5,6,7,8,9,11,12,13,14,16,17,18]),(13,[0,1,2,3,4,5,6,7,8,9,11,12,13,14,15,17,18]),(17,[0,1,2,3,4,5,6,7,8,9,11,12,13,14,15,16,18])]⟩ pL Tryz.f58 (bK 0 nt n) 11 ω (ZR.st 104 v)=ZR.un (fun(t6:Int) (Ac:AAA) (AZ:Int) (BM:AAG) (CO:AAA) (Ck:AAB) (Bu:Int) (CD:AAD) (B_:AAC) (Cw:AAE) (C5:AAH) (BB:Bool) (BJ:Int) (EP:Int) (Eg:Bool) (b2:AAA) (b3:AAG) (b4:AAA) (b5:AAB) (b6:AAD) (b7:AAC) (b8:AAE) (b9:AAH) (Ds:Int) (Dv:Int) (CQ:Bool) (Rv:AAA) (GC:AAG) (Ut:AAA) (UZ:AAB) (H4:AAD) (J5:AAC) (Nw:AAE) (Wn:AAH)=>
 cond ((decide (t6<(B_.length:Int))))
  (if(0:Int)≤t6∧t6<(B_.length:Int)then(
  (Zh ((B_.getD (t6.toNat) (0,0,[],[],false,[],())).1,(B_.getD (t6.toNat) (0,0,[],[],false,[],())).2.1,(B_.getD (t6.toNat) (0,0,[],[],false,[],())).2.2.1,(B_.getD (t6.toNat) (0,0,[],[],false,[],())).2.2.2.1,(B_.getD (t6.toNat) (0,0,[],[],false,[],())).2.2.2.2.1,(B_.getD (t6.toNat) (0,0,[],[],false,[],())).2.2.2.2.2.1,())).bind fun Zq=>
  if J5.length+1≤Go.M.Ej then(
  (A3 n) (AX (t6+1)) Ac AZ BM CO Ck Bu CD B_ Cw C5 BB BJ EP Eg b2 b3 b4 b5 b6 b7 b8 b9 Ds Dv CQ Rv GC Ut UZ H4 (J5++[(Zq.1.1.1,Zq.1.1.2.1,Zq.2.1,Zq.2.2.1,Zq.1.1.2.2.2.2.1,Zq.2.2.2.1,())]) Nw Wn)else none)else none)
 ((A4 n) 0 Ac AZ BM CO Ck Bu CD B_ Cw C5 BB BJ EP Eg b2 b3 b4 b5 b6 b7 b8 b9 Ds Dv CQ Rv GC Ut UZ H4 J5 Nw Wn)) v:=by rcases ω with _|⟨_|_,_|⟨_|_,_⟩⟩<;>kernel_rfl
theorem xc(n:Nat)(v:ZR.V)(ω:List Bool):TJ C58 pL Tryz.f58 (bK 0 nt n) 11 ω (ZR.st 104 v)=ZR.un (J2 (A7 n) (BD n) (A3 n) (A4 n)) v:=wi FW Fv Fq Ec Ax n v ω
theorem yn(Ye:AAT→Option C_)(ZV:AA2→Option F_)(Zs:AAi→Option C8)(Zh:AAj→Option C9)(Zr:AAt→Option E8)(n:Nat)(v:Zd.V)(ω:List Bool):TJ ⟨T,iu [(145,⟨i145,kV,i145.un Ye⟩),(146,⟨i146,lC,i146.un ZV⟩),(147,⟨ZB,lr,ZB.un Zs⟩),(148,⟨i148,iM,i148.un Zh⟩),(149,⟨ZM,lR,ZM.un Zr⟩)],Nb [(1,[0,1]),(5,[0,1,2,3,4,5,6,7,8,9,11,13,14,15,16,17,18]),(9,[0,1,2,3,4,5,6,7,8,9,11,12,13,14,16,17,18]),(13,[0,1,2,3,4,5,6,7,8,9,11,12,13,14,15,17,18]),(17,[0,1,2,3,4,5,6,7,8,9,11,12,13,14,15,16,18])]⟩ pL Tryz.f58 (bK 0 nt n) 15 ω (Zd.st 104 v)=Zd.un (fun(t7:Int) (Ac:AAA) (AZ:Int) (BM:AAG) (CO:AAA) (Ck:AAB) (Bu:Int) (CD:AAD) (B_:AAC) (Cw:AAE) (C5:AAH) (BB:Bool) (BJ:Int) (EP:Int) (Eg:Bool) (b2:AAA) (b3:AAG) (b4:AAA) (b5:AAB) (b6:AAD) (b7:AAC) (b8:AAE) (b9:AAH) (Ds:Int) (Dv:Int) (CQ:Bool) (Rv:AAA) (GC:AAG) (Ut:AAA) (UZ:AAB) (H4:AAD) (J5:AAC) (Nw:AAE) (Wn:AAH)=>
 cond ((decide (t7<(Cw.length:Int))))
  (if(0:Int)≤t7∧t7<(Cw.length:Int)then(
  (Zr ((Cw.getD (t7.toNat) (0,0,[],())).1,(Cw.getD (t7.toNat) (0,0,[],())).2.1,(Cw.getD (t7.toNat) (0,0,[],())).2.2.1,())).bind fun kt=>
  if Nw.length+1≤Go.M.Ej then(
  (A4 n) (AX (t7+1)) Ac AZ BM CO Ck Bu CD B_ Cw C5 BB BJ EP Eg b2 b3 b4 b5 b6 b7 b8 b9 Ds Dv CQ Rv GC Ut UZ H4 J5 (Nw++[(kt.1.1.1,kt.1.1.2.1,kt.2.1,())]) Wn)else none)else none)
 (some ((((),Ds,(),(),(),Dv,(),(),(),(),CQ,()),()),(Rv,GC,Ut,UZ,H4,J5,Nw,Wn,())))) v:=by rcases ω with _|⟨_|_,_|⟨_|_,_⟩⟩<;>kernel_rfl
theorem zQ(n:Nat)(v:Zd.V)(ω:List Bool):TJ C58 pL Tryz.f58 (bK 0 nt n) 15 ω (Zd.st 104 v)=Zd.un (Js (A7 n) (BD n) (A3 n) (A4 n)) v:=yn FW Fv Fq Ec Ax n v ω
def AB(ω:List Bool):Prop:= ∀(Ye:AAT→Option C_) (ZV:AA2→Option F_) (Zs:AAi→Option C8) (Zh:AAj→Option C9) (Zr:AAt→Option E8) (n:Nat) (v:rU.V),Rb ⟨T,iu [(145,⟨i145,kV,i145.un Ye⟩),(146,⟨i146,lC,i146.un ZV⟩),(147,⟨ZB,lr,ZB.un Zs⟩),(148,⟨i148,iM,i148.un Zh⟩),(149,⟨ZM,lR,ZM.un Zr⟩)],Nb [(1,[0,1]),(5,[0,1,2,3,4,5,6,7,8,9,11,13,14,15,16,17,18]),(9,[0,1,2,3,4,5,6,7,8,9,11,12,13,14,16,17,18]),(13,[0,1,2,3,4,5,6,7,8,9,11,12,13,14,15,17,18]),(17,[0,1,2,3,4,5,6,7,8,9,11,12,13,14,15,16,18])]⟩ pL Tryz.f58 (bK 0 nt n) ω v=rU.un (fun(p0:AAL)=>
 if 0+p0.1.length≤Go.M.Ej then(
 if 0+p0.2.2.2.1.length≤Go.M.Ej then(
 (Ye (p0.2.2.2.2.1,p0.2.2.2.2.2.1,())).bind fun u2=>
 if 0+p0.2.2.2.2.2.2.2.2.2.1.length≤Go.M.Ej then(
 (A7 n) 0 p0.1 p0.2.1 p0.2.2.1 p0.2.2.2.1 p0.2.2.2.2.1 p0.2.2.2.2.2.1 p0.2.2.2.2.2.2.1 p0.2.2.2.2.2.2.2.1 p0.2.2.2.2.2.2.2.2.1 p0.2.2.2.2.2.2.2.2.2.1 p0.2.2.2.2.2.2.2.2.2.2.1 0 0 false [] [] [] [] [] [] [] [] p0.2.1 u2.1.1.2.1 p0.2.2.2.2.2.2.2.2.2.2.1 p0.1 [] p0.2.2.2.1 u2.2.1 [] [] [] p0.2.2.2.2.2.2.2.2.2.1)else none)else none)else none) v
theorem ACr:AB []:=by delta AB;intros;kernel_rfl
theorem AA7:AB (false::[]):=by delta AB;intros;kernel_rfl
theorem AAw:AB (false::false::[]):=by delta AB;intros;kernel_rfl
theorem ABG:AB (false::false::false::[]):=by delta AB;intros;kernel_rfl
theorem ABy:AB (false::false::false::false::[]):=by delta AB;intros;kernel_rfl
theorem ABg:AB (false::false::false::false::false::[]):=by delta AB;intros;kernel_rfl
theorem ACK(ω:List Bool):AB (false::false::false::false::false::false::ω):=by delta AB;intros;kernel_rfl
theorem ACG:AB (false::false::false::false::false::true::[]):=by delta AB;intros;kernel_rfl
theorem ABA(ω:List Bool):AB (false::false::false::false::false::true::false::ω):=by delta AB;intros;kernel_rfl
theorem xP(ω:List Bool):AB (false::false::false::false::false::true::true::ω):=by delta AB;intros;kernel_rfl
theorem xQ:AB (false::false::false::false::true::[]):=by delta AB;intros;kernel_rfl
theorem yU(ω:List Bool):AB (false::false::false::false::true::false::ω):=by delta AB;intros;kernel_rfl
theorem xk:AB (false::false::false::false::true::true::[]):=by delta AB;intros;kernel_rfl
theorem yz(ω:List Bool):AB (false::false::false::false::true::true::false::ω):=by delta AB;intros;kernel_rfl
theorem wt:AB (false::false::false::false::true::true::true::[]):=by delta AB;intros;kernel_rfl
theorem xI(ω:List Bool):AB (false::false::false::false::true::true::true::false::ω):=by delta AB;intros;kernel_rfl
theorem xg:AB (false::false::false::false::true::true::true::true::[]):=by delta AB;intros;kernel_rfl
theorem xf(ω:List Bool):AB (false::false::false::false::true::true::true::true::false::ω):=by delta AB;intros;kernel_rfl
theorem xZ(ω:List Bool):AB (false::false::false::false::true::true::true::true::true::ω):=by delta AB;intros;kernel_rfl
theorem wg:AB (false::false::false::true::[]):=by delta AB;intros;kernel_rfl
theorem zh:AB (false::false::false::true::false::[]):=by delta AB;intros;kernel_rfl
theorem w4:AB (false::false::false::true::false::false::[]):=by delta AB;intros;kernel_rfl
theorem we(ω:List Bool):AB (false::false::false::true::false::false::false::ω):=by delta AB;intros;kernel_rfl
theorem xr(ω:List Bool):AB (false::false::false::true::false::false::true::ω):=by delta AB;intros;kernel_rfl
theorem y9:AB (false::false::false::true::false::true::[]):=by delta AB;intros;kernel_rfl
theorem xB(ω:List Bool):AB (false::false::false::true::false::true::false::ω):=by delta AB;intros;kernel_rfl
theorem wj:AB (false::false::false::true::false::true::true::[]):=by delta AB;intros;kernel_rfl
theorem zt(ω:List Bool):AB (false::false::false::true::false::true::true::false::ω):=by delta AB;intros;kernel_rfl
theorem yL:AB (false::false::false::true::false::true::true::true::[]):=by delta AB;intros;kernel_rfl
theorem yE(ω:List Bool):AB (false::false::false::true::false::true::true::true::false::ω):=by delta AB;intros;kernel_rfl
theorem yf(ω:List Bool):AB (false::false::false::true::false::true::true::true::true::ω):=by delta AB;intros;kernel_rfl
theorem yZ:AB (false::false::false::true::true::[]):=by delta AB;intros;kernel_rfl
theorem yb(ω:List Bool):AB (false::false::false::true::true::false::ω):=by delta AB;intros;kernel_rfl
theorem zI:AB (false::false::false::true::true::true::[]):=by delta AB;intros;kernel_rfl
theorem wb(ω:List Bool):AB (false::false::false::true::true::true::false::ω):=by delta AB;intros;kernel_rfl
theorem yG:AB (false::false::false::true::true::true::true::[]):=by delta AB;intros;kernel_rfl
theorem yR(ω:List Bool):AB (false::false::false::true::true::true::true::false::ω):=by delta AB;intros;kernel_rfl
theorem zD(ω:List Bool):AB (false::false::false::true::true::true::true::true::ω):=by delta AB;intros;kernel_rfl
theorem zJ:AB (false::false::true::[]):=by delta AB;intros;kernel_rfl
theorem xH:AB (false::false::true::false::[]):=by delta AB;intros;kernel_rfl
theorem w_:AB (false::false::true::false::false::[]):=by delta AB;intros;kernel_rfl
theorem wY(ω:List Bool):AB (false::false::true::false::false::false::ω):=by delta AB;intros;kernel_rfl
theorem xT:AB (false::false::true::false::false::true::[]):=by delta AB;intros;kernel_rfl
theorem yy(ω:List Bool):AB (false::false::true::false::false::true::false::ω):=by delta AB;intros;kernel_rfl
theorem wc(ω:List Bool):AB (false::false::true::false::false::true::true::ω):=by delta AB;intros;kernel_rfl
theorem yK:AB (false::false::true::false::true::[]):=by delta AB;intros;kernel_rfl
theorem yk(ω:List Bool):AB (false::false::true::false::true::false::ω):=by delta AB;intros;kernel_rfl
theorem wh:AB (false::false::true::false::true::true::[]):=by delta AB;intros;kernel_rfl
theorem xC(ω:List Bool):AB (false::false::true::false::true::true::false::ω):=by delta AB;intros;kernel_rfl
theorem xm:AB (false::false::true::false::true::true::true::[]):=by delta AB;intros;kernel_rfl
theorem wm(ω:List Bool):AB (false::false::true::false::true::true::true::false::ω):=by delta AB;intros;kernel_rfl
theorem yl:AB (false::false::true::false::true::true::true::true::[]):=by delta AB;intros;kernel_rfl
theorem yF(ω:List Bool):AB (false::false::true::false::true::true::true::true::false::ω):=by delta AB;intros;kernel_rfl
theorem yS:AB (false::false::true::false::true::true::true::true::true::[]):=by delta AB;intros;kernel_rfl
theorem zK(ω:List Bool):AB (false::false::true::false::true::true::true::true::true::false::ω):=by delta AB;intros;kernel_rfl
theorem yD(ω:List Bool):AB (false::false::true::false::true::true::true::true::true::true::ω):=by delta AB;intros;kernel_rfl
theorem wk:AB (false::false::true::true::[]):=by delta AB;intros;kernel_rfl
theorem xJ:AB (false::false::true::true::false::[]):=by delta AB;intros;kernel_rfl
theorem zS:AB (false::false::true::true::false::false::[]):=by delta AB;intros;kernel_rfl
theorem zZ(ω:List Bool):AB (false::false::true::true::false::false::false::ω):=by delta AB;intros;kernel_rfl
theorem xN(ω:List Bool):AB (false::false::true::true::false::false::true::ω):=by delta AB;intros;kernel_rfl
theorem xG:AB (false::false::true::true::false::true::[]):=by delta AB;intros;kernel_rfl
theorem yT(ω:List Bool):AB (false::false::true::true::false::true::false::ω):=by delta AB;intros;kernel_rfl
theorem yh:AB (false::false::true::true::false::true::true::[]):=by delta AB;intros;kernel_rfl
theorem zg(ω:List Bool):AB (false::false::true::true::false::true::true::false::ω):=by delta AB;intros;kernel_rfl
theorem zf:AB (false::false::true::true::false::true::true::true::[]):=by delta AB;intros;kernel_rfl
theorem yH(ω:List Bool):AB (false::false::true::true::false::true::true::true::false::ω):=by delta AB;intros;kernel_rfl
theorem yt:AB (false::false::true::true::false::true::true::true::true::[]):=by delta AB;intros;kernel_rfl
theorem wy(ω:List Bool):AB (false::false::true::true::false::true::true::true::true::false::ω):=by delta AB;intros;kernel_rfl
theorem yg(ω:List Bool):AB (false::false::true::true::false::true::true::true::true::true::ω):=by delta AB;intros;kernel_rfl
theorem zC:AB (false::false::true::true::true::[]):=by delta AB;intros;kernel_rfl
theorem zY(ω:List Bool):AB (false::false::true::true::true::false::ω):=by delta AB;intros;kernel_rfl
theorem xl:AB (false::false::true::true::true::true::[]):=by delta AB;intros;kernel_rfl
theorem xK(ω:List Bool):AB (false::false::true::true::true::true::false::ω):=by delta AB;intros;kernel_rfl
theorem w6:AB (false::false::true::true::true::true::true::[]):=by delta AB;intros;kernel_rfl
theorem w7(ω:List Bool):AB (false::false::true::true::true::true::true::false::ω):=by delta AB;intros;kernel_rfl
theorem zX:AB (false::false::true::true::true::true::true::true::[]):=by delta AB;intros;kernel_rfl
theorem zn(ω:List Bool):AB (false::false::true::true::true::true::true::true::false::ω):=by delta AB;intros;kernel_rfl
theorem ya(ω:List Bool):AB (false::false::true::true::true::true::true::true::true::ω):=by delta AB;intros;kernel_rfl
theorem xO:AB (false::true::[]):=by delta AB;intros;kernel_rfl
theorem xz:AB (false::true::false::[]):=by delta AB;intros;kernel_rfl
theorem yo:AB (false::true::false::false::[]):=by delta AB;intros;kernel_rfl
theorem yB(ω:List Bool):AB (false::true::false::false::false::ω):=by delta AB;intros;kernel_rfl
theorem xt:AB (false::true::false::false::true::[]):=by delta AB;intros;kernel_rfl
theorem yW(ω:List Bool):AB (false::true::false::false::true::false::ω):=by delta AB;intros;kernel_rfl
theorem yP:AB (false::true::false::false::true::true::[]):=by delta AB;intros;kernel_rfl
theorem wZ(ω:List Bool):AB (false::true::false::false::true::true::false::ω):=by delta AB;intros;kernel_rfl
theorem yr:AB (false::true::false::false::true::true::true::[]):=by delta AB;intros;kernel_rfl
theorem yc(ω:List Bool):AB (false::true::false::false::true::true::true::false::ω):=by delta AB;intros;kernel_rfl
theorem wX(ω:List Bool):AB (false::true::false::false::true::true::true::true::ω):=by delta AB;intros;kernel_rfl
theorem ye:AB (false::true::false::true::[]):=by delta AB;intros;kernel_rfl
theorem x9(ω:List Bool):AB (false::true::false::true::false::ω):=by delta AB;intros;kernel_rfl
theorem yj:AB (false::true::false::true::true::[]):=by delta AB;intros;kernel_rfl
theorem xj(ω:List Bool):AB (false::true::false::true::true::false::ω):=by delta AB;intros;kernel_rfl
theorem zH:AB (false::true::false::true::true::true::[]):=by delta AB;intros;kernel_rfl
theorem xe(ω:List Bool):AB (false::true::false::true::true::true::false::ω):=by delta AB;intros;kernel_rfl
theorem wu:AB (false::true::false::true::true::true::true::[]):=by delta AB;intros;kernel_rfl
theorem xw(ω:List Bool):AB (false::true::false::true::true::true::true::false::ω):=by delta AB;intros;kernel_rfl
theorem wz:AB (false::true::false::true::true::true::true::true::[]):=by delta AB;intros;kernel_rfl
theorem vS(ω:List Bool):AB (false::true::false::true::true::true::true::true::false::ω):=by delta AB;intros;kernel_rfl
theorem tb(ω:List Bool):AB (false::true::false::true::true::true::true::true::true::ω):=by delta AB;intros;kernel_rfl
theorem vR:AB (false::true::true::[]):=by delta AB;intros;kernel_rfl
theorem uE:AB (false::true::true::false::[]):=by delta AB;intros;kernel_rfl
theorem tC:AB (false::true::true::false::false::[]):=by delta AB;intros;kernel_rfl
theorem qy(ω:List Bool):AB (false::true::true::false::false::false::ω):=by delta AB;intros;kernel_rfl
theorem qa:AB (false::true::true::false::false::true::[]):=by delta AB;intros;kernel_rfl
theorem rJ(ω:List Bool):AB (false::true::true::false::false::true::false::ω):=by delta AB;intros;kernel_rfl
theorem tO:AB (false::true::true::false::false::true::true::[]):=by delta AB;intros;kernel_rfl
theorem sF(ω:List Bool):AB (false::true::true::false::false::true::true::false::ω):=by delta AB;intros;kernel_rfl
theorem tu(ω:List Bool):AB (false::true::true::false::false::true::true::true::ω):=by delta AB;intros;kernel_rfl
theorem tn:AB (false::true::true::false::true::[]):=by delta AB;intros;kernel_rfl
theorem sJ(ω:List Bool):AB (false::true::true::false::true::false::ω):=by delta AB;intros;kernel_rfl
theorem tT:AB (false::true::true::false::true::true::[]):=by delta AB;intros;kernel_rfl
theorem sG(ω:List Bool):AB (false::true::true::false::true::true::false::ω):=by delta AB;intros;kernel_rfl
theorem rl:AB (false::true::true::false::true::true::true::[]):=by delta AB;intros;kernel_rfl
theorem vP(ω:List Bool):AB (false::true::true::false::true::true::true::false::ω):=by delta AB;intros;kernel_rfl
theorem tM:AB (false::true::true::false::true::true::true::true::[]):=by delta AB;intros;kernel_rfl
theorem re(ω:List Bool):AB (false::true::true::false::true::true::true::true::false::ω):=by delta AB;intros;kernel_rfl
theorem rC(ω:List Bool):AB (false::true::true::false::true::true::true::true::true::ω):=by delta AB;intros;kernel_rfl
theorem rr:AB (false::true::true::true::[]):=by delta AB;intros;kernel_rfl
theorem qz:AB (false::true::true::true::false::[]):=by delta AB;intros;kernel_rfl
theorem vM:AB (false::true::true::true::false::false::[]):=by delta AB;intros;kernel_rfl
theorem uX(ω:List Bool):AB (false::true::true::true::false::false::false::ω):=by delta AB;intros;kernel_rfl
theorem uW:AB (false::true::true::true::false::false::true::[]):=by delta AB;intros;kernel_rfl
theorem si(ω:List Bool):AB (false::true::true::true::false::false::true::false::ω):=by delta AB;intros;kernel_rfl
theorem rj(ω:List Bool):AB (false::true::true::true::false::false::true::true::ω):=by delta AB;intros;kernel_rfl
theorem t_:AB (false::true::true::true::false::true::[]):=by delta AB;intros;kernel_rfl
theorem tZ(ω:List Bool):AB (false::true::true::true::false::true::false::ω):=by delta AB;intros;kernel_rfl
theorem tP:AB (false::true::true::true::false::true::true::[]):=by delta AB;intros;kernel_rfl
theorem vT(ω:List Bool):AB (false::true::true::true::false::true::true::false::ω):=by delta AB;intros;kernel_rfl
theorem vK:AB (false::true::true::true::false::true::true::true::[]):=by delta AB;intros;kernel_rfl
theorem ua(ω:List Bool):AB (false::true::true::true::false::true::true::true::false::ω):=by delta AB;intros;kernel_rfl
theorem sO(ω:List Bool):AB (false::true::true::true::false::true::true::true::true::ω):=by delta AB;intros;kernel_rfl
theorem vQ:AB (false::true::true::true::true::[]):=by delta AB;intros;kernel_rfl
theorem qJ:AB (false::true::true::true::true::false::[]):=by delta AB;intros;kernel_rfl
theorem r_:AB (false::true::true::true::true::false::false::[]):=by delta AB;intros;kernel_rfl
theorem qH(ω:List Bool):AB (false::true::true::true::true::false::false::false::ω):=by delta AB;intros;kernel_rfl
theorem sc(ω:List Bool):AB (false::true::true::true::true::false::false::true::ω):=by delta AB;intros;kernel_rfl
theorem qK:AB (false::true::true::true::true::false::true::[]):=by delta AB;intros;kernel_rfl
theorem qx(ω:List Bool):AB (false::true::true::true::true::false::true::false::ω):=by delta AB;intros;kernel_rfl
theorem tw:AB (false::true::true::true::true::false::true::true::[]):=by delta AB;intros;kernel_rfl
theorem qQ(ω:List Bool):AB (false::true::true::true::true::false::true::true::false::ω):=by delta AB;intros;kernel_rfl
theorem sX(ω:List Bool):AB (false::true::true::true::true::false::true::true::true::ω):=by delta AB;intros;kernel_rfl
theorem qV:AB (false::true::true::true::true::true::[]):=by delta AB;intros;kernel_rfl
theorem rV(ω:List Bool):AB (false::true::true::true::true::true::false::ω):=by delta AB;intros;kernel_rfl
theorem tK:AB (false::true::true::true::true::true::true::[]):=by delta AB;intros;kernel_rfl
theorem vA(ω:List Bool):AB (false::true::true::true::true::true::true::false::ω):=by delta AB;intros;kernel_rfl
theorem so(ω:List Bool):AB (false::true::true::true::true::true::true::true::ω):=by delta AB;intros;kernel_rfl
theorem vg:AB (true::[]):=by delta AB;intros;kernel_rfl
theorem qL:AB (true::false::[]):=by delta AB;intros;kernel_rfl
theorem ve:AB (true::false::false::[]):=by delta AB;intros;kernel_rfl
theorem qb:AB (true::false::false::false::[]):=by delta AB;intros;kernel_rfl
theorem um:AB (true::false::false::false::false::[]):=by delta AB;intros;kernel_rfl
theorem sd:AB (true::false::false::false::false::false::[]):=by delta AB;intros;kernel_rfl
theorem uo(ω:List Bool):AB (true::false::false::false::false::false::false::ω):=by delta AB;intros;kernel_rfl
theorem sS(ω:List Bool):AB (true::false::false::false::false::false::true::ω):=by delta AB;intros;kernel_rfl
theorem vb:AB (true::false::false::false::false::true::[]):=by delta AB;intros;kernel_rfl
theorem qo(ω:List Bool):AB (true::false::false::false::false::true::false::ω):=by delta AB;intros;kernel_rfl
theorem vf:AB (true::false::false::false::false::true::true::[]):=by delta AB;intros;kernel_rfl
theorem ui(ω:List Bool):AB (true::false::false::false::false::true::true::false::ω):=by delta AB;intros;kernel_rfl
theorem ql:AB (true::false::false::false::false::true::true::true::[]):=by delta AB;intros;kernel_rfl
theorem uq(ω:List Bool):AB (true::false::false::false::false::true::true::true::false::ω):=by delta AB;intros;kernel_rfl
theorem rS(ω:List Bool):AB (true::false::false::false::false::true::true::true::true::ω):=by delta AB;intros;kernel_rfl
theorem rI:AB (true::false::false::false::true::[]):=by delta AB;intros;kernel_rfl
theorem rm(ω:List Bool):AB (true::false::false::false::true::false::ω):=by delta AB;intros;kernel_rfl
theorem vX:AB (true::false::false::false::true::true::[]):=by delta AB;intros;kernel_rfl
theorem vJ(ω:List Bool):AB (true::false::false::false::true::true::false::ω):=by delta AB;intros;kernel_rfl
theorem tD:AB (true::false::false::false::true::true::true::[]):=by delta AB;intros;kernel_rfl
theorem tX(ω:List Bool):AB (true::false::false::false::true::true::true::false::ω):=by delta AB;intros;kernel_rfl
theorem q_(ω:List Bool):AB (true::false::false::false::true::true::true::true::ω):=by delta AB;intros;kernel_rfl
theorem sw:AB (true::false::false::true::[]):=by delta AB;intros;kernel_rfl
theorem qg:AB (true::false::false::true::false::[]):=by delta AB;intros;kernel_rfl
theorem uR:AB (true::false::false::true::false::false::[]):=by delta AB;intros;kernel_rfl
theorem uJ(ω:List Bool):AB (true::false::false::true::false::false::false::ω):=by delta AB;intros;kernel_rfl
theorem tQ(ω:List Bool):AB (true::false::false::true::false::false::true::ω):=by delta AB;intros;kernel_rfl
theorem tv:AB (true::false::false::true::false::true::[]):=by delta AB;intros;kernel_rfl
theorem uB(ω:List Bool):AB (true::false::false::true::false::true::false::ω):=by delta AB;intros;kernel_rfl
theorem rZ:AB (true::false::false::true::false::true::true::[]):=by delta AB;intros;kernel_rfl
theorem sN(ω:List Bool):AB (true::false::false::true::false::true::true::false::ω):=by delta AB;intros;kernel_rfl
theorem sB:AB (true::false::false::true::false::true::true::true::[]):=by delta AB;intros;kernel_rfl
theorem rR(ω:List Bool):AB (true::false::false::true::false::true::true::true::false::ω):=by delta AB;intros;kernel_rfl
theorem sE:AB (true::false::false::true::false::true::true::true::true::[]):=by delta AB;intros;kernel_rfl
theorem sa(ω:List Bool):AB (true::false::false::true::false::true::true::true::true::false::ω):=by delta AB;intros;kernel_rfl
theorem tR(ω:List Bool):AB (true::false::false::true::false::true::true::true::true::true::ω):=by delta AB;intros;kernel_rfl
theorem uv:AB (true::false::false::true::true::[]):=by delta AB;intros;kernel_rfl
theorem rz(ω:List Bool):AB (true::false::false::true::true::false::ω):=by delta AB;intros;kernel_rfl
theorem uH:AB (true::false::false::true::true::true::[]):=by delta AB;intros;kernel_rfl
theorem uY(ω:List Bool):AB (true::false::false::true::true::true::false::ω):=by delta AB;intros;kernel_rfl
theorem ta:AB (true::false::false::true::true::true::true::[]):=by delta AB;intros;kernel_rfl
theorem sQ(ω:List Bool):AB (true::false::false::true::true::true::true::false::ω):=by delta AB;intros;kernel_rfl
theorem te:AB (true::false::false::true::true::true::true::true::[]):=by delta AB;intros;kernel_rfl
theorem rB(ω:List Bool):AB (true::false::false::true::true::true::true::true::false::ω):=by delta AB;intros;kernel_rfl
theorem vN(ω:List Bool):AB (true::false::false::true::true::true::true::true::true::ω):=by delta AB;intros;kernel_rfl
theorem ur:AB (true::false::true::[]):=by delta AB;intros;kernel_rfl
theorem rT:AB (true::false::true::false::[]):=by delta AB;intros;kernel_rfl
theorem qv:AB (true::false::true::false::false::[]):=by delta AB;intros;kernel_rfl
theorem qn(ω:List Bool):AB (true::false::true::false::false::false::ω):=by delta AB;intros;kernel_rfl
theorem qM:AB (true::false::true::false::false::true::[]):=by delta AB;intros;kernel_rfl
theorem rY(ω:List Bool):AB (true::false::true::false::false::true::false::ω):=by delta AB;intros;kernel_rfl
theorem rv:AB (true::false::true::false::false::true::true::[]):=by delta AB;intros;kernel_rfl
theorem q8(ω:List Bool):AB (true::false::true::false::false::true::true::false::ω):=by delta AB;intros;kernel_rfl
theorem vW(ω:List Bool):AB (true::false::true::false::false::true::true::true::ω):=by delta AB;intros;kernel_rfl
theorem s_:AB (true::false::true::false::true::[]):=by delta AB;intros;kernel_rfl
theorem rP(ω:List Bool):AB (true::false::true::false::true::false::ω):=by delta AB;intros;kernel_rfl
theorem uN:AB (true::false::true::false::true::true::[]):=by delta AB;intros;kernel_rfl
theorem vV(ω:List Bool):AB (true::false::true::false::true::true::false::ω):=by delta AB;intros;kernel_rfl
theorem s0:AB (true::false::true::false::true::true::true::[]):=by delta AB;intros;kernel_rfl
theorem uk(ω:List Bool):AB (true::false::true::false::true::true::true::false::ω):=by delta AB;intros;kernel_rfl
theorem sK:AB (true::false::true::false::true::true::true::true::[]):=by delta AB;intros;kernel_rfl
theorem vh(ω:List Bool):AB (true::false::true::false::true::true::true::true::false::ω):=by delta AB;intros;kernel_rfl
theorem tV(ω:List Bool):AB (true::false::true::false::true::true::true::true::true::ω):=by delta AB;intros;kernel_rfl
theorem rD:AB (true::false::true::true::[]):=by delta AB;intros;kernel_rfl
theorem rQ:AB (true::false::true::true::false::[]):=by delta AB;intros;kernel_rfl
theorem qR:AB (true::false::true::true::false::false::[]):=by delta AB;intros;kernel_rfl
theorem qO(ω:List Bool):AB (true::false::true::true::false::false::false::ω):=by delta AB;intros;kernel_rfl
theorem uS:AB (true::false::true::true::false::false::true::[]):=by delta AB;intros;kernel_rfl
theorem qi(ω:List Bool):AB (true::false::true::true::false::false::true::false::ω):=by delta AB;intros;kernel_rfl
theorem uj(ω:List Bool):AB (true::false::true::true::false::false::true::true::ω):=by delta AB;intros;kernel_rfl
theorem uG:AB (true::false::true::true::false::true::[]):=by delta AB;intros;kernel_rfl
theorem qw(ω:List Bool):AB (true::false::true::true::false::true::false::ω):=by delta AB;intros;kernel_rfl
theorem vE:AB (true::false::true::true::false::true::true::[]):=by delta AB;intros;kernel_rfl
theorem qI(ω:List Bool):AB (true::false::true::true::false::true::true::false::ω):=by delta AB;intros;kernel_rfl
theorem rX:AB (true::false::true::true::false::true::true::true::[]):=by delta AB;intros;kernel_rfl
theorem q7(ω:List Bool):AB (true::false::true::true::false::true::true::true::false::ω):=by delta AB;intros;kernel_rfl
theorem q9(ω:List Bool):AB (true::false::true::true::false::true::true::true::true::ω):=by delta AB;intros;kernel_rfl
theorem tL:AB (true::false::true::true::true::[]):=by delta AB;intros;kernel_rfl
theorem rq:AB (true::false::true::true::true::false::[]):=by delta AB;intros;kernel_rfl
theorem vj:AB (true::false::true::true::true::false::false::[]):=by delta AB;intros;kernel_rfl
theorem rf(ω:List Bool):AB (true::false::true::true::true::false::false::false::ω):=by delta AB;intros;kernel_rfl
theorem vY(ω:List Bool):AB (true::false::true::true::true::false::false::true::ω):=by delta AB;intros;kernel_rfl
theorem qm:AB (true::false::true::true::true::false::true::[]):=by delta AB;intros;kernel_rfl
theorem sv(ω:List Bool):AB (true::false::true::true::true::false::true::false::ω):=by delta AB;intros;kernel_rfl
theorem vZ:AB (true::false::true::true::true::false::true::true::[]):=by delta AB;intros;kernel_rfl
theorem tB(ω:List Bool):AB (true::false::true::true::true::false::true::true::false::ω):=by delta AB;intros;kernel_rfl
theorem uO(ω:List Bool):AB (true::false::true::true::true::false::true::true::true::ω):=by delta AB;intros;kernel_rfl
theorem sg:AB (true::false::true::true::true::true::[]):=by delta AB;intros;kernel_rfl
theorem q6(ω:List Bool):AB (true::false::true::true::true::true::false::ω):=by delta AB;intros;kernel_rfl
theorem sZ:AB (true::false::true::true::true::true::true::[]):=by delta AB;intros;kernel_rfl
theorem qt(ω:List Bool):AB (true::false::true::true::true::true::true::false::ω):=by delta AB;intros;kernel_rfl
theorem rM(ω:List Bool):AB (true::false::true::true::true::true::true::true::ω):=by delta AB;intros;kernel_rfl
theorem vD:AB (true::true::[]):=by delta AB;intros;kernel_rfl
theorem qX:AB (true::true::false::[]):=by delta AB;intros;kernel_rfl
theorem rb:AB (true::true::false::false::[]):=by delta AB;intros;kernel_rfl
theorem uh(ω:List Bool):AB (true::true::false::false::false::ω):=by delta AB;intros;kernel_rfl
theorem qf:AB (true::true::false::false::true::[]):=by delta AB;intros;kernel_rfl
theorem tf(ω:List Bool):AB (true::true::false::false::true::false::ω):=by delta AB;intros;kernel_rfl
theorem vi:AB (true::true::false::false::true::true::[]):=by delta AB;intros;kernel_rfl
theorem vI(ω:List Bool):AB (true::true::false::false::true::true::false::ω):=by delta AB;intros;kernel_rfl
theorem uP(ω:List Bool):AB (true::true::false::false::true::true::true::ω):=by delta AB;intros;kernel_rfl
theorem sV:AB (true::true::false::true::[]):=by delta AB;intros;kernel_rfl
theorem ru(ω:List Bool):AB (true::true::false::true::false::ω):=by delta AB;intros;kernel_rfl
theorem tS:AB (true::true::false::true::true::[]):=by delta AB;intros;kernel_rfl
theorem ri(ω:List Bool):AB (true::true::false::true::true::false::ω):=by delta AB;intros;kernel_rfl
theorem sP:AB (true::true::false::true::true::true::[]):=by delta AB;intros;kernel_rfl
theorem qc(ω:List Bool):AB (true::true::false::true::true::true::false::ω):=by delta AB;intros;kernel_rfl
theorem sL:AB (true::true::false::true::true::true::true::[]):=by delta AB;intros;kernel_rfl
theorem rW(ω:List Bool):AB (true::true::false::true::true::true::true::false::ω):=by delta AB;intros;kernel_rfl
theorem qN(ω:List Bool):AB (true::true::false::true::true::true::true::true::ω):=by delta AB;intros;kernel_rfl
theorem ra:AB (true::true::true::[]):=by delta AB;intros;kernel_rfl
theorem uz:AB (true::true::true::false::[]):=by delta AB;intros;kernel_rfl
theorem uU:AB (true::true::true::false::false::[]):=by delta AB;intros;kernel_rfl
theorem rN(ω:List Bool):AB (true::true::true::false::false::false::ω):=by delta AB;intros;kernel_rfl
theorem ue:AB (true::true::true::false::false::true::[]):=by delta AB;intros;kernel_rfl
theorem qY(ω:List Bool):AB (true::true::true::false::false::true::false::ω):=by delta AB;intros;kernel_rfl
theorem vG(ω:List Bool):AB (true::true::true::false::false::true::true::ω):=by delta AB;intros;kernel_rfl
theorem uA:AB (true::true::true::false::true::[]):=by delta AB;intros;kernel_rfl
theorem tE(ω:List Bool):AB (true::true::true::false::true::false::ω):=by delta AB;intros;kernel_rfl
theorem sH:AB (true::true::true::false::true::true::[]):=by delta AB;intros;kernel_rfl
theorem ug(ω:List Bool):AB (true::true::true::false::true::true::false::ω):=by delta AB;intros;kernel_rfl
theorem rH:AB (true::true::true::false::true::true::true::[]):=by delta AB;intros;kernel_rfl
theorem tg(ω:List Bool):AB (true::true::true::false::true::true::true::false::ω):=by delta AB;intros;kernel_rfl
theorem td(ω:List Bool):AB (true::true::true::false::true::true::true::true::ω):=by delta AB;intros;kernel_rfl
theorem vF:AB (true::true::true::true::[]):=by delta AB;intros;kernel_rfl
theorem sR:AB (true::true::true::true::false::[]):=by delta AB;intros;kernel_rfl
theorem ud:AB (true::true::true::true::false::false::[]):=by delta AB;intros;kernel_rfl
theorem tF(ω:List Bool):AB (true::true::true::true::false::false::false::ω):=by delta AB;intros;kernel_rfl
theorem sW(ω:List Bool):AB (true::true::true::true::false::false::true::ω):=by delta AB;intros;kernel_rfl
theorem tH:AB (true::true::true::true::false::true::[]):=by delta AB;intros;kernel_rfl
theorem qS(ω:List Bool):AB (true::true::true::true::false::true::false::ω):=by delta AB;intros;kernel_rfl
theorem sk:AB (true::true::true::true::false::true::true::[]):=by delta AB;intros;kernel_rfl
theorem sA(ω:List Bool):AB (true::true::true::true::false::true::true::false::ω):=by delta AB;intros;kernel_rfl
theorem rk(ω:List Bool):AB (true::true::true::true::false::true::true::true::ω):=by delta AB;intros;kernel_rfl
theorem sT:AB (true::true::true::true::true::[]):=by delta AB;intros;kernel_rfl
theorem uw(ω:List Bool):AB (true::true::true::true::true::false::ω):=by delta AB;intros;kernel_rfl
theorem qZ:AB (true::true::true::true::true::true::[]):=by delta AB;intros;kernel_rfl
theorem sx(ω:List Bool):AB (true::true::true::true::true::true::false::ω):=by delta AB;intros;kernel_rfl
theorem tW(ω:List Bool):AB (true::true::true::true::true::true::true::ω):=by delta AB;intros;kernel_rfl
theorem b58(Ye:AAT→Option C_)(ZV:AA2→Option F_)(Zs:AAi→Option C8)(Zh:AAj→Option C9)(Zr:AAt→Option E8)(n:Nat)(ω:List Bool)(v:rU.V):Rb ⟨T,iu [(145,⟨i145,kV,i145.un Ye⟩),(146,⟨i146,lC,i146.un ZV⟩),(147,⟨ZB,lr,ZB.un Zs⟩),(148,⟨i148,iM,i148.un Zh⟩),(149,⟨ZM,lR,ZM.un Zr⟩)],Nb [(1,[0,1]),(5,[0,1,2,3,4,5,6,7,8,9,11,13,14,15,16,17,18]),(9,[0,1,2,3,4,5,6,7,8,9,11,12,13,14,16,17,18]),(13,[0,1,2,3,4,5,6,7,8,9,11,12,13,14,15,17,18]),(17,[0,1,2,3,4,5,6,7,8,9,11,12,13,14,15,16,18])]⟩ pL Tryz.f58 (bK 0 nt n) ω v=rU.un (fun(p0:AAL)=>
 if 0+p0.1.length≤Go.M.Ej then(
 if 0+p0.2.2.2.1.length≤Go.M.Ej then(
 (Ye (p0.2.2.2.2.1,p0.2.2.2.2.2.1,())).bind fun u2=>
 if 0+p0.2.2.2.2.2.2.2.2.2.1.length≤Go.M.Ej then(
 (A7 n) 0 p0.1 p0.2.1 p0.2.2.1 p0.2.2.2.1 p0.2.2.2.2.1 p0.2.2.2.2.2.1 p0.2.2.2.2.2.2.1 p0.2.2.2.2.2.2.2.1 p0.2.2.2.2.2.2.2.2.1 p0.2.2.2.2.2.2.2.2.2.1 p0.2.2.2.2.2.2.2.2.2.2.1 0 0 false [] [] [] [] [] [] [] [] p0.2.1 u2.1.1.2.1 p0.2.2.2.2.2.2.2.2.2.2.1 p0.1 [] p0.2.2.2.1 u2.2.1 [] [] [] p0.2.2.2.2.2.2.2.2.2.1)else none)else none)else none) v:=(AD ACr (AD AA7 (AD AAw (AD ABG (AD ABy (AD ABg ACK (AD ACG ABA xP)) (AD xQ yU (AD xk yz (AD wt xI (AD xg xf xZ))))) (AD wg (AD zh (AD w4 we xr) (AD y9 xB (AD wj zt (AD yL yE yf)))) (AD yZ yb (AD zI wb (AD yG yR zD))))) (AD zJ (AD xH (AD w_ wY (AD xT yy wc)) (AD yK yk (AD wh xC (AD xm wm (AD yl yF (AD yS zK yD)))))) (AD wk (AD xJ (AD zS zZ xN) (AD xG yT (AD yh zg (AD zf yH (AD yt wy yg))))) (AD zC zY (AD xl xK (AD w6 w7 (AD zX zn ya))))))) (AD xO (AD xz (AD yo yB (AD xt yW (AD yP wZ (AD yr yc wX)))) (AD ye x9 (AD yj xj (AD zH xe (AD wu xw (AD wz vS tb)))))) (AD vR (AD uE (AD tC qy (AD qa rJ (AD tO sF tu))) (AD tn sJ (AD tT sG (AD rl vP (AD tM re rC))))) (AD rr (AD qz (AD vM uX (AD uW si rj)) (AD t_ tZ (AD tP vT (AD vK ua sO)))) (AD vQ (AD qJ (AD r_ qH sc) (AD qK qx (AD tw qQ sX))) (AD qV rV (AD tK vA so))))))) (AD vg (AD qL (AD ve (AD qb (AD um (AD sd uo sS) (AD vb qo (AD vf ui (AD ql uq rS)))) (AD rI rm (AD vX vJ (AD tD tX q_)))) (AD sw (AD qg (AD uR uJ tQ) (AD tv uB (AD rZ sN (AD sB rR (AD sE sa tR))))) (AD uv rz (AD uH uY (AD ta sQ (AD te rB vN)))))) (AD ur (AD rT (AD qv qn (AD qM rY (AD rv q8 vW))) (AD s_ rP (AD uN vV (AD s0 uk (AD sK vh tV))))) (AD rD (AD rQ (AD qR qO (AD uS qi uj)) (AD uG qw (AD vE qI (AD rX q7 q9)))) (AD tL (AD rq (AD vj rf vY) (AD qm sv (AD vZ tB uO))) (AD sg q6 (AD sZ qt rM)))))) (AD vD (AD qX (AD rb uh (AD qf tf (AD vi vI uP))) (AD sV ru (AD tS ri (AD sP qc (AD sL rW qN))))) (AD ra (AD uz (AD uU rN (AD ue qY vG)) (AD uA tE (AD sH ug (AD rH tg td)))) (AD vF (AD sR (AD ud tF sW) (AD tH qS (AD sk sA rk))) (AD sT uw (AD qZ sx tW))))))) ω Ye ZV Zs Zh Zr n v
theorem e58(n:Nat)(ω:List Bool)(v:rU.V):Rb C58 pL Tryz.f58 (bK 0 nt n) ω v=rU.un (K7 (A7 n) (BD n) (A3 n) (A4 n)) v:=b58 FW Fv Fq Ec Ax n ω v
def s58:SQ:=mk Tryz.func58 rU o58 HF [ACL,AAu,AAY,ABR,rG] [(1,[0,1]),(5,[0,1,2,3,4,5,6,7,8,9,11,13,14,15,16,17,18]),(9,[0,1,2,3,4,5,6,7,8,9,11,12,13,14,16,17,18]),(13,[0,1,2,3,4,5,6,7,8,9,11,12,13,14,15,17,18]),(17,[0,1,2,3,4,5,6,7,8,9,11,12,13,14,15,16,18])] nt (hJ:= .cons (fun _=>rfl) ABS (.cons (fun _=>rfl) ACs (.cons (fun _=>rfl) xc (.cons (fun _=>rfl) zQ (.nil))))) (he:=e58 AL)
def ADg:SQ:=mk Tryz.func232 pK ⟨[(0,.agg [.v tI,.v tI,.v tI,.v tI,.v .str])],[]⟩ UJ [] [] []
def AEi:SQ:=mk Tryz.func150 pK Au Tx [mf,ADg] [(1,[0])] []
def ADd:SQ:=mk Tryz.func357 oE Ca Pf [] [] [⟨2,⟨uQ,[qj]⟩,Ey⟩]
def ADm:SQ:=mk Tryz.func319 jV Ca WH [ADd] [] [⟨2,⟨[(1,A9),(2,FD),(5,A9)],vB⟩,Iw⟩]
def AFX:SQ:=mk Tryz.func295 Ca i6 Ls [mf] [] [⟨3,⟨[(0,A9),(3,UC),(4,A9)],eG⟩,D3⟩]
def AFy:SQ:=mk Tryz.func299 jV Ca Q1 [mf,ub] [] []
def ABj:SQ:=mk Tryz.func298 wH Ca Mr [] [] []
def AGC:SQ:=mk Tryz.func345 oQ pS VK [] [] [⟨2,⟨[(0,jT),(1,A9),(4,FD),(6,A9)],[u_]⟩,KD⟩]
def AFf:SQ:=mk Tryz.func320 ⟨[(0,.row sj),(1,.row Y9),(2,A9)],[]⟩ ⟨ZO,[.sl 9 Y13]⟩ Ko [AFX,ABj,AFy,AGC] [(6,[0,1,2,3]),(7,[0,1,2,3]),(8,[0,1,3,4])] [⟨4,⟨[(3,FD),(4,PX),(7,.c (.ref 2)),(8,.c (.ref 3)),(9,A9)],[xF,.mem [.v tI,.v tI,.sl false Y8],.sl 9 Y13,VZ]⟩,E6⟩] (hJ:= .cons (fun _=>rfl) (fun n v ω=>by rcases ω with _|⟨_|_,_|⟨_|_,_⟩⟩<;>kernel_rfl) (.nil))
def AFw:SQ:=mk Tryz.func354 ⟨[(0,ny),(1,e9)],[]⟩ ⟨[(0,.LI [.inl (.ref 0),.inl (.v .bool)])],eG⟩ UB [z_] [] [⟨3,⟨[(1,e9),(2,FD),(6,.c (.ref 1)),(7,A9)],ACN⟩,Gi⟩]
def ADN:SQ:=mk Tryz.func355 ⟨[(0,.row Y9),(1,.row Y8),(2,A9),(3,A9)],[]⟩ mR ES [rG] [] []
def ACS:SQ:=mk Tryz.func309 mC i6 IQ [ub] [] [⟨3,⟨[(0,X1),(1,X1),(5,UC),(6,A9)],eG⟩,Ic⟩]
def AEW:SQ:=mk Tryz.func352 mC i6 Gu [ACS] [] []
def AFT:SQ:=mk Tryz.func351 pJ Au Gv [zA,z_,s36,ACS] [(3,[0,1])] []
def AGA:SQ:=mk Tryz.func363 pI zp Oi [] [] []
def AE5:SQ:=mk Tryz.func356 ⟨[(0,X1),(1,A9),(2,e9)],[]⟩ ABl G1 [ub,zR,AGA] [] [⟨4,⟨[(0,X1),(1,A9),(2,e9),(6,FD),(7,PX),(8,.c (.v .bool)),(9,A9)],[.mem [.v tI,.v tI,.v .str],u_]⟩,He⟩]
def AD4:SQ:=mk Tryz.func318 wL ⟨AAm,[.sl 9 Y8]⟩ Ki [ABF,rG,ACI,oT,ABj,ABC,AFT,AEW,AFw,ADN,AE5] [(9,[0,1,2,4,5]),(14,[0,1,2,3,4,5]),(16,[0,1,2,4,5,6])] []
def AEf:SQ:=mk Tryz.func245 wA gA RL [mf,AD4,ADm,AFf] [(3,[0,1,2,3,4,5,6,7,8,9,10])] [] (he:=fun ω v=>by rcases ω with _|⟨_|_,_|⟨_|_,_|⟨_|_,_⟩⟩⟩<;>kernel_rfl)
def ADZ:SQ:=mk Tryz.func151 wA gA UH [AEf] [] []
def s59:SQ:=mk Tryz.func59 wI gA Kf [s57,s58,AEi,ADZ] [(3,[0,1,2])] [] (he:=fun ω v=>by rcases ω with _|⟨_|_,_|⟨_|_,_⟩⟩<;>kernel_rfl)
def s22:SQ:=mk Tryz.func22 jV gA G_ [s57,s58,s59] [] [⟨5,vy,DV⟩]
def kb:SQ:=mk Tryz.func47 wK Au BF [] [] []
def s96:SQ:=mk Tryz.func96 vH Au CX [kb] [] [⟨2,⟨[(1,FD),(6,X1),(7,A9),(8,A9)],[ko]⟩,Ge⟩]
def s37:SQ:=mk Tryz.func37 mq Au RI [kb] [] [⟨2,⟨[(0,X1),(1,A9),(7,X1),(8,A9),(9,A9)],[]⟩,FQ⟩]
def vz:SQ:=mk Tryz.func32 fv Au CI [s37,s96] [] []
def qd:SQ:=mk Tryz.func131 Ca Au Dk [kb] [] []
def AB6:SQ:=mk Tryz.func132 Ca Au SN [kb] [] []
def s48:SQ:=mk Tryz.func48 Ca Au CJ [qd,AB6] [] []
def uD:SQ:=mk Tryz.func106 oq Au Cz [] [] []
def nj:SQ:=mk Tryz.func180 Ca Ca EU [s48] [] []
def xy:SQ:=mk Tryz.func329 yq Au JJ [kb,s48,uD,nj] [(1,[0])] []
def AEh:SQ:=mk Tryz.func258 p8 Au Ix [xy] [] [⟨2,⟨[(5,jT),(6,A9),(7,A9)],[]⟩,D7⟩]
def AA4:SQ:=mk Tryz.func259 p8 Au Fm [] [(4,[0])] [⟨2,⟨[(0,jT),(5,jT),(6,A9),(7,A9)],[]⟩,Ct⟩]
def AA5:SQ:=mk Tryz.func177 mi Au Ld [kb,AEh,AA4] [] []
def zw:SQ:=mk Tryz.func95 ⟨[(0,X1)],[]⟩ i6 Cp [] [] []
def ADh:SQ:=mk Tryz.func186 mq Ca Ie [] [] [⟨2,⟨[(0,X1),(1,A9),(7,A9),(8,A9)],[]⟩,Cv⟩]
def sb:SQ:=mk Tryz.func103 mq Au Bm [ADh] [] []
def AAc:SQ:=mk Tryz.func330 ⟨[(0,A9),(1,.c (.dz (.cons (.sl tI) .unit)))],[]⟩ Au LD [sb] [] []
def AFD:SQ:=mk Tryz.func286 ⟨[(0,X1),(1,uI)],[]⟩ Ca Bj [AAc] [] [⟨2,⟨[(0,X1),(1,uI),(7,A9),(8,A9)],[]⟩,Ap⟩]
def AEP:SQ:=mk Tryz.func216 ⟨[(0,UC),(1,uI)],kB⟩ ⟨[(0,.c (.ref 1))],[.gone,fC]⟩ BC [AFD,AAc] [] [⟨5,⟨[(0,UC),(1,uI),(5,A9),(6,A9)],kB⟩,Am⟩]
def xL:SQ:=mk Tryz.func260 mC ⟨ZO,kB⟩ Jd [zw,AEP] [] []
def AAW:SQ:=mk Tryz.func178 vq Au FZ [xL] [] []
def s33:SQ:=mk Tryz.func33 fv Ca TB [vz,sb] [] [⟨5,⟨[(2,FD),(5,.c (.ref 1)),(13,X1),(14,A9),(15,A9)],ACN⟩,IV⟩]
def s8:SQ:=mk Tryz.func8 fv Au Ib [vz,s33] [(1,[0])] []
def s97:SQ:=mk Tryz.func97 kE Au GH [s8,vz,AA5,AAW] [] [⟨4,⟨[(0,lB),(32,qG),(33,A9),(34,A9)],[]⟩,CZ⟩]
def ADi:SQ:=mk Tryz.func179 ⟨[(0,ny),(1,.row Y3)],[]⟩ Au Ux [s8,kb] [] []
def s98:SQ:=mk Tryz.func98 vn Au RZ [kb,s96,ADi,nj] [(7,[0,1])] [⟨2,⟨[(2,FD),(3,PX),(9,pW),(10,A9),(11,A9)],AA0⟩,Fz⟩]
def AEH:SQ:=mk Tryz.func261 Au Ca U6 [] [] []
def ADs:SQ:=mk Tryz.func181 vt Au OG [s8,vz,s96,uD,qd,AEH] [(5,[0,1,2])] [⟨3,⟨[(2,FD),(3,PX),(5,A9),(9,n_),(10,A9),(11,A9)],ACq⟩,Gt⟩]
def ABn:SQ:=mk Tryz.func182 vq Au Es [kb] [] []
def s99:SQ:=mk Tryz.func99 kE Au Fc [ADs,ABn] [(4,[0])] [⟨2,⟨[(0,lB),(8,oR),(9,A9),(10,A9)],[]⟩,CM⟩]
def s20:SQ:=mk Tryz.func20 Ca Ca Nz [s48] [] []
def ADv:SQ:=mk Tryz.func262 nT Ca Qp [s20] [] []
def AEv:SQ:=mk Tryz.func263 nT Au Oo [nj,AA4,xy] [(4,[0,1])] [⟨2,⟨[(1,FD),(6,jT),(7,A9),(8,A9)],[uK]⟩,Gf⟩]
def AFA:SQ:=mk Tryz.func183 wC Au Tn [vz,kb,s96,qd,ADv,AEv] [] [⟨2,⟨[(2,FD),(3,PX),(10,qB),(11,A9),(12,A9)],wS⟩,GK⟩]
def AEn:SQ:=mk Tryz.func184 pf Ca Li [] [] [⟨2,⟨[(6,pW),(7,A9),(8,A9)],[]⟩,D9⟩]
def AEj:SQ:=mk Tryz.func100 kE Au HI [AFA,AEn] [(4,[0])] [⟨2,⟨[(0,lB),(8,qE),(9,A9),(10,A9)],[]⟩,Cl⟩]
def AAX:SQ:=mk Tryz.func185 oc Au Ob [kb] [] []
def AFe:SQ:=mk Tryz.func101 kE Au Fa [AAX] [] [⟨2,⟨[(0,lB),(8,et),(9,A9),(10,A9)],[]⟩,CL⟩]
def AE_:SQ:=mk Tryz.func102 kE Au IA [uD,nj,ABn] [(4,[0])] [⟨2,⟨[(0,lB),(8,iB),(9,A9),(10,A9)],[]⟩,Cx⟩]
def s31:SQ:=mk Tryz.func31 aE Au Lc [s96,s97,s98,s99,AEj,AFe,AE_] [] []
def s29:SQ:=mk Tryz.func29 vH ABN KQ [zw] [(1,[0])] []
def AFh:SQ:=mk Tryz.func107 pf wa H8 [zw] [] [⟨3,⟨[(2,FD),(3,.c (.ptr 2 0)),(10,pW),(11,A9),(12,A9)],[.mem [.ref 1,.v tI],dp,.mem [.ref 3,.v tI],dp]⟩,D1⟩]
def ABK:SQ:=mk Tryz.func187 p8 ABb En [] [] []
def ADX:SQ:=mk Tryz.func108 mi ym MW [ABK] [(1,[0])] []
def AEk:SQ:=mk Tryz.func109 oE zb KV [zw] [] [⟨3,⟨[(2,FD),(3,.c (.ptr 2 0)),(10,n_),(11,A9),(12,A9)],[.mem [.v tI,.ref 1],.sl 9 Y5,.mem [.v tI,.ref 3],.sl 9 Y5]⟩,Ew⟩]
def ADw:SQ:=mk Tryz.func110 nT xX OE [zw,ABK] [(2,[0,1]),(6,[0,1,2,3,5,6])] [⟨4,⟨[(2,FD),(3,.c (.ptr 4 0)),(17,qB),(18,A9),(19,A9)],[.mem [.v tI,.v tI,.ref 1,.ref 2,.v .bool,.ref 3],VZ,cz,iC,.mem [.v tI,.v tI,.ref 5,.ref 6,.v .bool,.ref 7],VZ,cz,iC]⟩,GY⟩] (hJ:= .cons (fun _=>rfl) (fun n v ω=>by rcases ω with _|⟨_|_,_|⟨_|_,_⟩⟩<;>kernel_rfl) (.nil))
def ACg:SQ:=mk Tryz.func111 oc mR Hb [] [] []
def s39:SQ:=mk Tryz.func39 aE oW GV [s29,zw,AFh,ADX,AEk,ADw,ACg] [(1,[0,1]),(5,[0,1,2,3,4,5,6,7,8,9,11,13,14,15,16,17,18,19]),(10,[0,1,2,3,4,5,6,7,8,9,11,12,13,14,16,17,18,19]),(15,[0,1,2,3,4,5,6,7,8,9,11,12,13,14,15,17,18,19]),(20,[0,1,2,3,4,5,6,7,8,9,11,12,13,14,15,16,18,19])] [⟨3,⟨[(1,FD),(2,PX),(3,av),(25,qG),(26,A9),(27,A9)],aX⟩,Ch⟩,⟨8,⟨[(1,FD),(2,PX),(3,av),(40,oR),(41,A9),(42,A9)],aX⟩,Cj⟩,⟨13,⟨[(1,FD),(2,PX),(3,av),(55,qE),(56,A9),(57,A9)],aX⟩,CV⟩,⟨18,⟨[(1,FD),(2,PX),(3,av),(70,et),(71,A9),(72,A9)],aX⟩,CT⟩] (hJ:= .cons (fun _=>rfl) (fun n v ω=>by rcases ω with _|⟨_|_,_|⟨_|_,_⟩⟩<;>kernel_rfl) (.cons (fun _=>rfl) (fun n v ω=>by rcases ω with _|⟨_|_,_|⟨_|_,_⟩⟩<;>kernel_rfl) (.cons (fun _=>rfl) (fun n v ω=>by rcases ω with _|⟨_|_,_|⟨_|_,_⟩⟩<;>kernel_rfl) (.cons (fun _=>rfl) (fun n v ω=>by rcases ω with _|⟨_|_,_|⟨_|_,_⟩⟩<;>kernel_rfl) (.nil))))) (he:=fun ω v=>by rcases ω with _|⟨_|_,_|⟨_|_,_|⟨_|_,_⟩⟩⟩<;>kernel_rfl)
def AE4:SQ:=mk Tryz.func105 Ca oq U2 [] [] []
def s38:SQ:=mk Tryz.func38 pK Au TC [kb,AE4,uD] [] [⟨4,⟨[(1,FD),(3,PX),(11,.c (.ref 2)),(12,A9),(13,A9)],[AAn,AAn,.sl 9 tU]⟩,Bn⟩]
def s43:SQ:=mk Tryz.func43 wH pt Iy [qd,AB6] [] []
def AD1:SQ:=mk Tryz.func189 Ca i6 Lv [kb] [] [⟨5,⟨[(0,A9),(3,UC),(10,A9)],eG⟩,FV⟩]
def AFc:SQ:=mk Tryz.func340 AA1 Ca Mf [] [] []
def ADY:SQ:=mk Tryz.func339 ⟨[(0,jT),(1,A9),(2,.c (.fn 340 []))],[]⟩ pt As [AFc] [] [⟨3,⟨[(0,jT),(1,A9),(2,.c (.fn 340 [])),(8,A9),(9,A9),(10,A9)],[]⟩,AW⟩]
def AD_:SQ:=mk Tryz.func278 oQ pt Q2 [ADY] [] []
def AFo:SQ:=mk Tryz.func212 ACn pS OB [AA5,AD_] [] []
def AFj:SQ:=mk Tryz.func283 oE Ca Kr [] [] [⟨2,⟨[(1,FD),(6,n_),(7,A9),(8,A9)],[qj]⟩,Et⟩]
def ADL:SQ:=mk Tryz.func214 jV Ca TE [AFj] [] [⟨2,⟨[(1,A9),(8,oR),(9,A9),(10,A9)],[]⟩,Ir⟩]
def AEg:SQ:=mk Tryz.func279 ⟨[(0,e9)],[]⟩ i6 JE [] [] [⟨3,⟨[(3,UC),(7,e9),(8,A9),(9,A9)],eG⟩,HK⟩]
def ADR:SQ:=mk Tryz.func280 ⟨[(0,A9),(1,.row Y9)],[]⟩ Au Q8 [s20,nj] [(2,[0])] []
def ABT:SQ:=mk Tryz.func281 ⟨[(0,FD),(1,.row Y8)],AB5⟩ wJ Cb [] [(1,[2])] [] (he:=fun ω v=>by rcases ω with _|⟨_|_,_⟩<;>kernel_rfl)
def ADy:SQ:=mk Tryz.func338 pJ i6 We [vz,sb] [] [⟨5,⟨[(2,X1),(7,UC),(22,X1),(23,A9),(24,A9)],eG⟩,Mb⟩]
def ADx:SQ:=mk Tryz.func277 pJ Au Dt [s8,vz,xL,ADy] [(3,[0,1])] []
def AEx:SQ:=mk Tryz.func333 pI zp O9 [] [] []
def AEB:SQ:=mk Tryz.func341 ⟨[(0,e9),(1,X1),(2,A9)],[]⟩ pS Ts [sb,xy,AEx] [] [⟨3,⟨[(1,X1),(2,A9),(6,FD),(8,PX),(9,.c (.v .bool)),(13,e9),(14,A9),(15,A9)],[u_,u_]⟩,IZ⟩]
def ADq:SQ:=mk Tryz.func282 ⟨[(0,FD),(1,e9),(2,X1)],AB5⟩ wJ BN [s43,ABT,AEB] [(0,[0,1])] []
def AFk:SQ:=mk Tryz.func213 wL ⟨AAm,[.sl 1 Y8]⟩ KI [s20,vz,s98,ACg,nj,AAX,xL,ADx,AEg,ADR,ABT,ADq] [(1,[0,1,2,3]),(8,[0,1,2,3,4,8,9]),(11,[0,1,2,3,4,5,6,7])] []
def AE2:SQ:=mk Tryz.func126 ⟨[(0,FD),(1,A9),(2,A9)],xS⟩ wR G7 [s43,kb,AAW,AD1,AFo,AFk,ADL] [(13,[0,1,2,3,4,5,6,7,8,9,10,11]),(16,[0,1,2,3,4,5,6,8,9,10,11])] [⟨7,⟨[(0,FD),(1,A9),(7,.c (.ptr 9 0)),(8,A9),(10,.c (.ref 10)),(43,.c (.ref 11)),(44,A9),(45,A9)],[y8,fC,.sl 2 Y2,fC,.sl 2 Y3,.sl 3 Y6,.sl 3 Y7,.sl 2 Y9,.sl 1 bS,.mem [.v tI,.v tI,.Xw 7 3 2],.sl 9 Y13,VZ]⟩,DT⟩] (hJ:= .cons (fun _=>rfl) (fun n v ω=>by rcases ω with _|⟨_|_,_|⟨_|_,_⟩⟩<;>kernel_rfl) (.nil))
def s40:SQ:=mk Tryz.func40 ⟨[(0,FD),(1,.row Y12)],xS⟩ wR Nq [kb,AE2] [(27,[0,1,2,3,4,5,6,7,8,9]),(34,[0,1,2,3,4,5,6,7,8,9]),(36,[0,1,2,3,4,5,6,7,8,9])] [] (he:=fun ω v=>by rcases ω with _|⟨_|_,_⟩<;>kernel_rfl)
def s12:SQ:=mk Tryz.func12 wI gA Kd [s31,s38,s39,s40] [] []
def s16:SQ:=mk Tryz.func16 jV gA Ez [s12,s31,s39] [] [⟨5,vy,DS⟩]
def s70:SQ:=mk Tryz.func70 mC Au Ed [] [] [⟨4,⟨[(0,X1),(1,X1),(5,A9)],[]⟩,Io⟩]
def s68:SQ:=mk Tryz.func68 ⟨[(0,ny),(1,ny)],[]⟩ Au OH [s70] [] []
def AET:SQ:=mk Tryz.func326 pI Au Qq [] [] []
def ACh:SQ:=mk Tryz.func253 ⟨[(0,jT),(1,jT)],[]⟩ Au Hi [AET] [] [⟨4,⟨[(0,jT),(1,jT),(5,A9)],[]⟩,GJ⟩]
def AD0:SQ:=mk Tryz.func158 ⟨[(0,.row Y2),(1,.row Y2)],[]⟩ Au Qf [ACh] [] []
def s69:SQ:=mk Tryz.func69 ⟨[(0,qG),(1,qG)],[]⟩ Au N8 [AD0] [] [⟨4,⟨[(0,qG),(1,qG),(5,A9)],[]⟩,GO⟩]
def AED:SQ:=mk Tryz.func254 ⟨[(0,.row Y3),(1,.row Y3)],[]⟩ Au U5 [s70] [] []
def AFY:SQ:=mk Tryz.func159 ⟨[(0,pW),(1,pW)],[]⟩ Au TV [AED] [] [⟨4,⟨[(0,pW),(1,pW),(5,A9)],[]⟩,I1⟩]
def s71:SQ:=mk Tryz.func71 ⟨[(0,.row Y4),(1,.row Y4)],[]⟩ Au Kq [AFY] [] []
def AFS:SQ:=mk Tryz.func327 ⟨[(0,.row Y5),(1,.row Y5)],[]⟩ Au Te [s70] [] []
def AFV:SQ:=mk Tryz.func255 ⟨[(0,n_),(1,n_)],[]⟩ Au Q7 [AFS] [] [⟨4,⟨[(0,n_),(1,n_),(5,A9)],[]⟩,HT⟩]
def AFP:SQ:=mk Tryz.func160 ⟨[(0,.row Y6),(1,.row Y6)],[]⟩ Au OO [AFV] [] []
def s72:SQ:=mk Tryz.func72 ⟨[(0,oR),(1,oR)],[]⟩ Au MU [AFP] [] [⟨4,⟨[(0,oR),(1,oR),(5,A9)],[]⟩,FU⟩]
def AFH:SQ:=mk Tryz.func256 ⟨[(0,qB),(1,qB)],[]⟩ Au Qe [s70] [] [⟨4,⟨[(0,qB),(1,qB),(5,A9)],[]⟩,Ha⟩]
def AD8:SQ:=mk Tryz.func161 ⟨[(0,.row Y7),(1,.row Y7)],[]⟩ Au Tb [s70,ACh,AFH] [] []
def s73:SQ:=mk Tryz.func73 ⟨[(0,qE),(1,qE)],[]⟩ Au Q0 [AD8] [] [⟨4,⟨[(0,qE),(1,qE),(5,A9)],[]⟩,HO⟩]
def AEL:SQ:=mk Tryz.func328 ⟨[(0,.row Y8),(1,.row Y8)],[]⟩ Au JY [] [] []
def AEy:SQ:=mk Tryz.func257 ⟨[(0,jJ),(1,jJ)],[]⟩ Au OA [AEL] [] [⟨4,⟨[(0,jJ),(1,jJ),(5,A9)],[]⟩,Dc⟩]
def AFN:SQ:=mk Tryz.func162 ⟨[(0,.row Y9),(1,.row Y9)],[]⟩ Au OY [AEy] [] []
def s74:SQ:=mk Tryz.func74 ⟨[(0,et),(1,et)],[]⟩ Au L4 [AFN] [] [⟨4,⟨[(0,et),(1,et),(5,A9)],[]⟩,Fi⟩]
def AEa:SQ:=mk Tryz.func163 ⟨[(0,.row bS),(1,.row bS)],[]⟩ Au TP [] [] []
def s75:SQ:=mk Tryz.func75 ⟨[(0,iB),(1,iB)],[]⟩ Au Qs [AEa] [] [⟨4,⟨[(0,iB),(1,iB),(5,A9)],[]⟩,HY⟩]
def s24:SQ:=mk Tryz.func24 ⟨[(0,.row sj),(1,.row sj)],[]⟩ Au G4 [s68,s69,s70,s71,s72,s73,s74,s75] [] []
abbrev i78:Bl:=⟨cN,kB⟩
abbrev o78:Bl:=⟨VI,kB⟩
def qC:SQ:=mk Tryz.func78 i78 o78 Dj [] [] [⟨2,⟨dU,kB⟩,Gh⟩]
def s76:SQ:=mk Tryz.func76 ⟨ABw,kB⟩ ⟨VI,kB⟩ PY [qC] [] []
def jl:SQ:=mk Tryz.func169 Ca oq Cm [] [] [⟨4,⟨[(0,A9),(3,.c (.v .str))],[]⟩,Ei⟩]
abbrev i164:Bl:=⟨cN,[.sl 1 Y1]⟩
abbrev AEd:Bl:=⟨VI,[.sl 1 Y1]⟩
def qk:SQ:=mk Tryz.func164 i164 AEd DJ [jl] [] [⟨2,⟨dU,[.sl 1 Y1]⟩,Bz⟩]
def yp:SQ:=⟨164,⟨⟨jE,[.sl 2 Y2]⟩,⟨VI,[.sl 2 Y2]⟩,(Bl.un ⟨jE,[.sl 2 Y2]⟩ Ae)⟩,HE (d:=1) (q:=Y1) (rest:=[(1,.c (.v tI))]) (outs:=[(0,.c (.v tI))]) (g:=qk.c.g) qk.h (d':=2) (r:=Y2) (sz:=3) (by kernel_rfl) (fun v u h=>by
 obtain⟨⟨⟨k,j⟩,rest⟩,bx⟩:=v
 match j with
 |0=>exact h
 |1=>exact h
 |n+2=>cases h
 )⟩
def s77:SQ:=mk Tryz.func77 ⟨cN,[.sl 2 Y2]⟩ ⟨VI,[.sl 2 Y2]⟩ FK [yp] [] [⟨2,⟨dU,[.sl 2 Y2]⟩,Bw⟩]
def ACb:SQ:=⟨78,⟨⟨jE,[.sl 2 Y3]⟩,oF,(Bl.un ⟨jE,[.sl 2 Y3]⟩ D5)⟩,HE (d:=1) (q:=tI) (rest:=[(1,.c (.v tI))]) (outs:=[(0,.c (.v tI))]) (g:=qC.c.g) qC.h (d':=2) (r:=Y3) (sz:=3) (by kernel_rfl) (fun v u h=>by
 obtain⟨⟨⟨k,j⟩,rest⟩,bx⟩:=v
 match j with
 |0=>exact h
 |n+1=>cases h
 )⟩
def AEC:SQ:=mk Tryz.func165 ⟨cN,[.sl 2 Y3]⟩ oF ON [ACb] [] [⟨2,⟨dU,[.sl 2 Y3]⟩,Ep⟩]
def s79:SQ:=mk Tryz.func79 ⟨ABw,[.sl 2 Y3]⟩ oF Ma [AEC] [] []
def AAS:SQ:=⟨78,⟨⟨jE,[.sl 2 Y5]⟩,⟨VI,[.sl 2 Y5]⟩,(Bl.un ⟨jE,[.sl 2 Y5]⟩ D6)⟩,HE (d:=1) (q:=tI) (rest:=[(1,.c (.v tI))]) (outs:=[(0,.c (.v tI))]) (g:=qC.c.g) qC.h (d':=2) (r:=Y5) (sz:=3) (by kernel_rfl) (fun v u h=>by
 obtain⟨⟨⟨k,j⟩,rest⟩,bx⟩:=v
 match j with
 |0=>cases h
 |1=>exact h
 |n+2=>cases h
 )⟩
abbrev AE6:Bl:=⟨cN,[.sl 2 Y5]⟩
abbrev AE0:Bl:=⟨VI,[.sl 2 Y5]⟩
def ABD:SQ:=mk Tryz.func166 AE6 AE0 Lb [AAS,jl] [] [⟨2,⟨dU,[.sl 2 Y5]⟩,D_⟩]
def zL:SQ:=⟨166,⟨⟨[(0,.c (.UA 0 2)),(1,A9)],[.sl 3 Y6]⟩,⟨VI,[.sl 3 Y6]⟩,(Bl.un ⟨[(0,.c (.UA 0 2)),(1,A9)],[.sl 3 Y6]⟩ Cr)⟩,HE (d:=2) (q:=Y5) (rest:=[(1,.c (.v tI))]) (outs:=[(0,.c (.v tI))]) (g:=ABD.c.g) ABD.h (d':=3) (r:=Y6) (sz:=2) (by kernel_rfl) (fun v u h=>by
 obtain⟨⟨⟨k,j⟩,rest⟩,bx⟩:=v
 match j with
 |0=>cases h
 |1=>exact h
 |n+2=>cases h
 )⟩
def s80:SQ:=mk Tryz.func80 ⟨cN,[.sl 3 Y6]⟩ ⟨VI,[.sl 3 Y6]⟩ Jc [zL] [] [⟨2,⟨dU,[.sl 3 Y6]⟩,DH⟩]
def AAp:SQ:=⟨78,⟨fy,mN,(fy.un B8)⟩,HE (d:=1) (q:=tI) (rest:=[(1,.c (.v tI))]) (outs:=[(0,.c (.v tI))]) (g:=qC.c.g) qC.h (d':=3) (r:=Y7) (sz:=6) (by kernel_rfl) (fun v u h=>by
 obtain⟨⟨⟨k,j⟩,rest⟩,bx⟩:=v
 match j with
 |0=>cases h
 |1=>cases h
 |2=>exact h
 |n+3=>cases h
 )⟩
def zO:SQ:=⟨164,⟨fy,mN,(fy.un Bi)⟩,HE (d:=1) (q:=Y1) (rest:=[(1,.c (.v tI))]) (outs:=[(0,.c (.v tI))]) (g:=qk.c.g) qk.h (d':=3) (r:=Y7) (sz:=6) (by kernel_rfl) (fun v u h=>by
 obtain⟨⟨⟨k,j⟩,rest⟩,bx⟩:=v
 match j with
 |0=>cases h
 |1=>cases h
 |2=>cases h
 |3=>exact h
 |n+4=>cases h
 )⟩
def AB1:SQ:=⟨78,⟨⟨[(0,.c (.UA 0 1)),(1,A9)],ov⟩,vp,(Bl.un ⟨[(0,.c (.UA 0 1)),(1,A9)],ov⟩ Jw)⟩,HE (d:=1) (q:=tI) (rest:=[(1,.c (.v tI))]) (outs:=[(0,.c (.v tI))]) (g:=qC.c.g) qC.h (d':=2) (r:=(.sl tI)) (sz:=1) (by kernel_rfl) (fun v u h=>by
 obtain⟨⟨⟨k,j⟩,rest⟩,bx⟩:=v
 match j with
 |0=>exact h
 |n+1=>cases h
 )⟩
abbrev i167:Bl:=⟨cN,ov⟩
abbrev AFF:Bl:=vp
def AAf:SQ:=mk Tryz.func167 i167 AFF Mq [AB1] [] [⟨2,⟨dU,ov⟩,EG⟩]
def zc:SQ:=⟨167,⟨fy,mN,(fy.un Bp)⟩,HE (d:=2) (q:=(.sl tI)) (rest:=[(1,.c (.v tI))]) (outs:=[(0,.c (.v tI))]) (g:=AAf.c.g) AAf.h (d':=3) (r:=Y7) (sz:=6) (by kernel_rfl) (fun v u h=>by
 obtain⟨⟨⟨k,j⟩,rest⟩,bx⟩:=v
 match j with
 |0=>cases h
 |1=>cases h
 |2=>cases h
 |3=>cases h
 |4=>cases h
 |5=>exact h
 |n+6=>cases h
 )⟩
def s81:SQ:=mk Tryz.func81 ⟨cN,[.sl 3 Y7]⟩ mN M6 [AAp,zO,zc] [] [⟨2,⟨dU,[.sl 3 Y7]⟩,D8⟩]
abbrev i168:Bl:=⟨cN,[.sl 1 Y8]⟩
abbrev AEb:Bl:=⟨VI,[.sl 1 Y8]⟩
def ACZ:SQ:=mk Tryz.func168 i168 AEb Ka [jl] [] [⟨2,⟨dU,[.sl 1 Y8]⟩,Da⟩]
def yu:SQ:=⟨168,⟨⟨jE,[.sl 2 Y9]⟩,⟨VI,[.sl 2 Y9]⟩,(Bl.un ⟨jE,[.sl 2 Y9]⟩ Ci)⟩,HE (d:=1) (q:=Y8) (rest:=[(1,.c (.v tI))]) (outs:=[(0,.c (.v tI))]) (g:=ACZ.c.g) ACZ.h (d':=2) (r:=Y9) (sz:=3) (by kernel_rfl) (fun v u h=>by
 obtain⟨⟨⟨k,j⟩,rest⟩,bx⟩:=v
 match j with
 |0=>cases h
 |1=>cases h
 |2=>exact h
 |n+3=>cases h
 )⟩
def s82:SQ:=mk Tryz.func82 ⟨cN,[.sl 2 Y9]⟩ ⟨VI,[.sl 2 Y9]⟩ JF [yu] [] [⟨2,⟨dU,[.sl 2 Y9]⟩,DF⟩]
def s83:SQ:=mk Tryz.func83 ⟨cN,[.sl 1 bS]⟩ ⟨VI,[.sl 1 bS]⟩ Mi [jl] [] [⟨2,⟨dU,[.sl 1 bS]⟩,EB⟩]
def s25:SQ:=mk Tryz.func25 ⟨[(0,ze),(1,A9)],rh⟩ ⟨VI,rh⟩ I3 [s76,s77,qC,s79,s80,s81,s82,s83] [] []
def zx:SQ:=mk Tryz.func86 mq Ca Dm [] [] [⟨2,vl,GZ⟩]
def s84:SQ:=mk Tryz.func84 AB2 Ca Pz [zx] [] []
def ACY:SQ:=mk Tryz.func170 oQ Ca FR [jl] [] [⟨2,AA6,DW⟩]
def s85:SQ:=mk Tryz.func85 AAe Ca KO [ACY] [] [⟨2,ACv,DY⟩]
def AEr:SQ:=mk Tryz.func171 AA9 Ca OK [zx] [] [⟨2,ACf,Eh⟩]
def s87:SQ:=mk Tryz.func87 ABP Ca MY [AEr] [] []
def AEF:SQ:=mk Tryz.func172 ACW Ca MR [zx,jl] [] [⟨2,ACP,EA⟩]
def s88:SQ:=mk Tryz.func88 ABr Ca Ja [AEF] [] [⟨2,ABI,DG⟩]
def AFR:SQ:=mk Tryz.func173 AAr Ca Mw [zx] [] [⟨2,AAx,EC⟩]
def s89:SQ:=mk Tryz.func89 ACX Ca Mm [zx,ACY,AFR] [] [⟨2,ACl,EF⟩]
def AE3:SQ:=mk Tryz.func174 ABY Ca Kc [jl] [] [⟨2,ACj,Dg⟩]
def s90:SQ:=mk Tryz.func90 ABM Ca Ji [AE3] [] [⟨2,ACT,DI⟩]
def s91:SQ:=mk Tryz.func91 ABv Ca La [jl] [] [⟨2,ABh,EE⟩]
def s26:SQ:=mk Tryz.func26 jV Ca I0 [s84,s85,zx,s87,s88,s89,s90,s91] [] []
abbrev i4:Bl:=jV
abbrev o4:Bl:=Au
def s4:SQ:=mk Tryz.func4 i4 o4 DE [s16,s21,s22,s23,s24,s25,s26] [(10,[0,1,2,3,4,5,6,7,8,9,10,11,12,13,14,15,16,17,18,19,20,21,22,23,24,25,26,27,28,29,30,31,32,33,34,35])] []
end
end Go.Proofs.YtgaopeilfepjmaaGreat.Wk
