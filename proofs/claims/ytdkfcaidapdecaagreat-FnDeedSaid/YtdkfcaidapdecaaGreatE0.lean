/- Each function computes what was printed: by the kernel. -/
import Derived.Test.YtdkfcaidapdecaaGreatG1
import Derived.Test.YtdkfcaidapdecaaGreatProg
import Derived.KernelRfl
set_option linter.unusedVariables false
set_option linter.unusedSimpArgs false
set_option linter.unusedSectionVars false
namespace Go.Proofs.YtdkfcaidapdecaaGreat.Wk
open Go Go.Fw Go.M Go.Proofs
noncomputable section
abbrev tI:Ty:= .int .i64
abbrev tU:Ty:= .int .u8
abbrev Y0:Ty:=(.cons (.sl tI) (.cons tI .unit))
abbrev Y1:Ty:=(.cons tI (.cons tI (.cons .bool (.cons .str .unit))))
abbrev Y2:Ty:=(.cons (.sl Y1) (.cons (.sl Y1) (.cons tI .unit)))
abbrev Y3:Ty:=(.cons (.sl tI) (.cons .bool (.cons tI .unit)))
abbrev Y4:Ty:=(.cons (.sl Y3) (.cons tI .unit))
abbrev Y5:Ty:=(.cons .str (.cons (.sl tI) (.cons .bool .unit)))
abbrev Y6:Ty:=(.cons tI (.cons (.sl Y5) .unit))
abbrev Y7:Ty:=(.cons tI (.cons tI (.cons (.sl tI) (.cons (.sl Y1) (.cons .bool (.cons (.sl (.sl tI)) .unit))))))
abbrev Y8:Ty:=(.cons tI (.cons tI (.cons .str .unit)))
abbrev Y9:Ty:=(.cons tI (.cons tI (.cons (.sl Y8) .unit)))
abbrev Y10:Ty:=(.cons tI (.cons .str (.cons .bool .unit)))
abbrev Y11:Ty:=(.cons (.sl tI) (.cons tI (.cons (.sl Y2) (.cons (.sl tI) (.cons (.sl Y3) (.cons tI (.cons (.sl Y6) (.cons (.sl Y7) (.cons (.sl Y9) (.cons (.sl Y10) (.cons .bool .unit)))))))))))
abbrev Y12:Ty:=(.cons tI (.cons tI (.cons tI (.cons tI (.cons .str .unit)))))
abbrev Y13:Ty:=(.cons (.sl tU) (.cons tI (.cons tI .unit)))
abbrev Y14:Ty:=(.cons tI (.cons .bool (.cons tI (.cons tI (.cons .bool (.cons .str .unit))))))
def T:J0:=[(3,⟨1,8,.int .i64,some tI⟩),
 (4,⟨1,1,.bool,some .bool⟩),
 (5,⟨1,1,.int .u8,some tU⟩),
 (9,⟨1,16,.str,some .str⟩),
 (22,⟨1,24,.sl 5,some (.sl tU)⟩),
 (24,⟨1,24,.sl 3,some (.sl tI)⟩),
 (26,⟨2,32,.st [(0,24),(1,3)],some Y0⟩),
 (27,⟨1,24,.sl 86,some (.sl Y2)⟩),
 (28,⟨1,24,.sl 51,some (.sl Y3)⟩),
 (30,⟨2,32,.st [(0,28),(1,3)],some Y4⟩),
 (31,⟨1,24,.sl 91,some (.sl Y6)⟩),
 (32,⟨1,24,.sl 95,some (.sl Y7)⟩),
 (33,⟨1,24,.sl 46,some (.sl Y9)⟩),
 (34,⟨1,24,.sl 100,some (.sl Y10)⟩),
 (36,⟨11,216,.st [(0,26),(2,27),(3,24),(4,30),(6,31),(7,32),(8,33),(9,34),(10,4)],some Y11⟩),
 (43,⟨5,48,.st [(0,3),(1,3),(2,3),(3,3),(4,9)],some Y12⟩),
 (44,⟨1,24,.sl 80,some (.sl Y8)⟩),
 (46,⟨3,40,.st [(0,3),(1,3),(2,44)],some Y9⟩),
 (51,⟨3,40,.st [(0,24),(1,4),(2,3)],some Y3⟩),
 (52,⟨1,24,.sl 43,some (.sl Y12)⟩),
 (60,⟨1,8,.ptr 82,none⟩),
 (80,⟨3,32,.st [(0,3),(1,3),(2,9)],some Y8⟩),
 (82,⟨3,40,.st [(0,22),(1,3),(2,3)],some Y13⟩),
 (84,⟨1,24,.sl 134,some (.sl Y1)⟩),
 (86,⟨3,56,.st [(0,84),(1,84),(2,3)],some Y2⟩),
 (89,⟨1,24,.sl 137,some (.sl Y5)⟩),
 (91,⟨2,32,.st [(0,3),(1,89)],some Y6⟩),
 (93,⟨1,24,.sl 24,some (.sl (.sl tI))⟩),
 (95,⟨6,96,.st [(0,3),(1,3),(2,24),(3,84),(4,4),(5,93)],some Y7⟩),
 (100,⟨3,32,.st [(0,3),(1,9),(2,4)],some Y10⟩),
 (115,⟨1,8,.other,none⟩),
 (117,⟨1,8,.ptr 36,none⟩),
 (134,⟨4,40,.st [(0,3),(1,3),(2,4),(3,9)],some Y1⟩),
 (137,⟨3,48,.st [(0,9),(1,24),(2,4)],some Y5⟩),
 (138,⟨1,8,.int .u64,some (.int .u64)⟩),
 (144,⟨1,8,.other,none⟩),
 (174,⟨1,24,.sl 177,some (.sl Y14)⟩),
 (177,⟨6,56,.st [(0,3),(1,4),(2,134)],some Y14⟩),
 (182,⟨1,24,.sl 9,some (.sl .str)⟩),
 (193,⟨1,24,.sl 4,some (.sl .bool)⟩),
 (196,⟨1,8,.other,none⟩),
 (228,⟨1,8,.other,none⟩),
 (229,⟨1,8,.ptr 46,none⟩)]
theorem tOk:Ei Tryz.prog T:=pg (by kernel_rfl)
theorem mx:Tryz.prog.follows .mixedOrders=true:=by kernel_rfl
abbrev SQ:=SP Tryz.prog
def mk{f:Nat}{fn:Func}(hf:Tryz.prog.funcs[f]? =some fn)(i o:BE)(g:i.Cu (Option o.V))(l:List SQ)(h:List AFi)(L:List (Lp o))
  (hJ:X3 ⟨T,Pw (SP.l l),CD h⟩ ⟨i,o,i.un g⟩ fn (LN i.G3.length L) L:=by
   repeat refine X3.cons (fun _=>rfl) (fun _ _ _=>by kernel_rfl) ?_
   exact X3.nil)
  (he:∀ω v,Cy ⟨T,Pw (SP.l l),CD h⟩ ⟨i,o,i.un g⟩ fn (LN i.G3.length L Ab) ω v=i.un g v:=by intro ω v;kernel_rfl)
  (hL:iH fn=Lp.ls L:=by kernel_rfl) (hd:decide (Lp.ls L).Nodup=true:=by kernel_rfl) (hc:h_ fn ⟨i,o,i.un g⟩=true:=by kernel_rfl):SQ:=
 mkP tOk mx hf i o g l h L Ab hL hd hc hJ he
abbrev xP0:XP:= .c (.v .bool)
abbrev J5:XP:= .c (.ptr 0 0)
abbrev BM:XP:= .c (.v tI)
abbrev UU:XP:= .c (.ptr 1 0)
abbrev xP4:XP:= .c (.ptr 3 0)
abbrev qY:XP:= .row Y0
abbrev ae:XP:= .c (.sl false tI)
abbrev xP7:XP:= .c (.ref 1)
abbrev qK:XP:= .c (.ref 0)
abbrev xP9:XP:= .c (.ptr 2 0)
abbrev X8:XP:= .c (.sl false Y1)
abbrev AQh:XP:= .agg [.ref 0,.v tI,.ref 1,.ref 2,.ref 3,.v tI,.ref 4,.ref 5,.ref 6,.ref 7,.v .bool]
abbrev cP:XP:= .c (.ptr 10 0)
abbrev gQ:XP:= .c (.ptr 8 0)
abbrev cW:XP:= .c (.ptr 9 0)
abbrev mE:XP:= .c (.ptr 18 0)
abbrev mq:XP:= .c (.ptr 4 0)
abbrev jw:XP:= .c (.ptr 19 0)
abbrev uU:XP:= .c (.sl false Y2)
abbrev AAg:XP:= .c (.ptr 6 0)
abbrev q_:XP:= .c (.sl false Y14)
abbrev AJC:XP:= .c (.qP 268 [(.cons (.sl tI) .unit)])
abbrev vC:XP:= .c (.mG Y11)
abbrev AK4:XP:= .c (.sl false Y5)
abbrev AKl:XP:= .c (.sl false (.sl tI))
abbrev AGB:XP:= .c (.sl false Y10)
abbrev AE4:XP:= .c (.qP 243 [(.cons tI .unit)])
abbrev AJ1:XP:= .c (.qP 254 [(.cons tI .unit)])
abbrev WT:BP:= .mem [.sl true tU,.v tI,.v tI]
abbrev GJ:BP:= .sl 9 tI
abbrev APQ:BP:= .mem [.ref 2,.v tI]
abbrev AMg:BP:= .mem [.ref 4,.v tI]
abbrev l7:BP:= .mem [.sl false tI,.v tI]
abbrev cX:BP:= .sl 9 Y2
abbrev SE:BP:= .sl 9 Y3
abbrev cQ:BP:= .sl 9 Y6
abbrev cS:BP:= .sl 9 Y7
abbrev cU:BP:= .sl 9 Y9
abbrev ag:BP:= .sl 9 Y10
abbrev ARO:BP:= .mem [.sl false Y3,.v tI]
abbrev AFd:BP:= .mem [.sl false tI,.v tI,.sl false Y2,.sl false tI,.sl false Y3,.v tI,.sl false Y6,.sl false Y7,.sl false Y9,.sl false Y10,.v .bool]
abbrev ADW:BP:= .mem [.v tI,.v tI,.v tI,.v tI,.v .str]
abbrev wi:BP:= .mem [.v tI,.v tI,.sl false tI,.sl false Y1,.v .bool,.sl false (.sl tI)]
abbrev AIT:BP:= .mem [.v tI,.sl false Y5]
abbrev JV:BP:= .sl 9 Y1
abbrev ka:BP:= .sl 9 Y5
abbrev iK:BP:= .sl 9 (.sl tI)
abbrev AQd:BP:= .mem [.ref 2,.v tI,.ref 3,.ref 4,.ref 5,.v tI,.ref 6,.ref 7,.ref 8,.ref 9,.v .bool]
abbrev AGX:BP:= .mem [.ref 11,.v tI,.ref 12,.ref 13,.ref 14,.v tI,.ref 15,.ref 16,.ref 17,.ref 18,.v .bool]
abbrev DC:BP:= .sl 1 tI
abbrev Wl:BP:= .sl 2 Y2
abbrev MW:BP:= .sl 2 Y3
abbrev Tm:BP:= .sl 3 Y6
abbrev TE:BP:= .sl 3 Y7
abbrev Nk:BP:= .sl 2 Y9
abbrev KB:BP:= .sl 1 Y10
abbrev Iw:BP:= .gone
abbrev rB:BP:= .mem [.ref 0,.v tI,.ref 1,.ref 2,.ref 3,.v tI,.ref 4,.ref 5,.ref 6,.ref 7,.v .bool]
abbrev qZ:BP:= .mem [.ref 10,.v tI,.ref 11,.ref 12,.ref 13,.v tI,.ref 14,.ref 15,.ref 16,.ref 17,.v .bool]
abbrev ATC:BP:= .mem [.v tI,.v .str,.v .bool]
abbrev AAQ:BP:= .mem [.v tI,.v tI,.v .bool,.v .str]
abbrev ARC:BP:= .mem [.sl false Y1,.sl false Y1,.v tI]
abbrev ADE:BP:= .mem [.ref 2,.ref 3,.v tI]
abbrev AKJ:BP:= .mem [.ref 5,.ref 6,.v tI]
abbrev Ul:BP:= .sl 1 Y2
abbrev dW:BP:= .sl 1 Y6
abbrev om:BP:= .sl 1 Y7
abbrev xg:BP:= .mem [.sl true Y1,.sl true Y1,.v tI]
abbrev AQP:BP:= .mem [.v tI,.ref 3]
abbrev AUm:BP:= .mem [.v tI,.v tI,.ref 1,.ref 2,.v .bool,.ref 3]
abbrev AUE:BP:= .mem [.v tI,.v tI,.ref 5,.ref 6,.v .bool,.ref 7]
abbrev AM8:BP:= .mem [.v tI,.v tI,.ref 3,.ref 4,.v .bool,.ref 5]
abbrev AQX:BP:= .mem [.v tI,.v tI,.ref 7,.ref 8,.v .bool,.ref 9]
abbrev yH:BP:= .mem [.ref 1,.v tI,.ref 2,.ref 3,.ref 4,.v tI,.ref 5,.ref 6,.ref 7,.ref 8,.v .bool]
abbrev AOe:BP:= .mem [.ref 1,.v tI,.ref 2,.ref 9,.ref 4,.v tI,.ref 5,.ref 6,.ref 7,.ref 8,.v .bool]
abbrev mw:List (Nat×XP):=[(0,BM)]
abbrev AOk:List (Nat×XP):=[(0,.agg [.ref 1,.v tI])]
abbrev AFn:List (Nat×XP):=[(1,J5),(3,BM)]
abbrev AD6:List (Nat×XP):=[(0,qK)]
abbrev AH7:List (Nat×XP):=[(0,xP7)]
abbrev AUk:List (Nat×XP):=[(0,.agg [.v tI,.v tI,.v tI,.v tI,.v .str])]
abbrev AVq:List (Nat×XP):=[(2,J5),(3,UU),(5,BM),(6,BM)]
abbrev AV5:List (Nat×XP):=[(1,J5),(2,UU),(3,xP4),(4,BM)]
abbrev AOh:List (Nat×XP):=[(0,AQh)]
abbrev ATx:List (Nat×XP):=[(0,.Nr [.inr [.ref 0,.ref 1,.v tI],.inl (.v .bool)])]
abbrev ANd:List (Nat×XP):=[(0,.Nr [.inr [.ref 0,.v tI,.ref 1,.ref 2,.ref 3,.v tI,.ref 4,.ref 5,.ref 6,.ref 7,.v .bool],.inl (.v tI)])]
abbrev ASV:List (Nat×XP):=[(0,.agg [.v tI,.v tI,.v .bool,.v .str])]
abbrev AU3:List (Nat×XP):=[(0,.Nr [.inr [.v tI,.ref 0],.inl (.v .bool)])]
abbrev AQy:List (Nat×XP):=[(0,.Nr [.inr [.v tI,.v tI,.ref 0,.ref 1,.v .bool,.ref 2],.inl (.v .bool)])]
abbrev ATI:List (Nat×XP):=[(0,.Nr [.inr [.ref 0,.v tI,.ref 1,.ref 8,.ref 3,.v tI,.ref 4,.ref 5,.ref 6,.ref 7,.v .bool],.inl (.v tI)])]
abbrev ATJ:List (Nat×XP):=[(0,.Nr [.inr [.ref 1,.ref 2,.v tI],.inl (.v .bool)])]
abbrev AVh:List (Nat×XP):=[(0,.Nr [.inr [.v tI,.v tI,.ref 0],.inl (.v tI)])]
abbrev AUl:List (Nat×XP):=[(0,J5),(3,UU),(4,xP9),(5,mq),(6,BM)]
abbrev AVO:List (Nat×XP):=[(0,J5),(1,BM),(2,BM)]
abbrev j6:List BP:=[WT]
abbrev AUJ:List BP:=[WT,GJ]
abbrev AOs:List BP:=[l7]
abbrev ASp:List BP:=[GJ,cX,GJ,SE,cQ,cS,cU,ag]
abbrev s7:List BP:=[GJ]
abbrev ATR:List BP:=[WT,l7,GJ]
abbrev zP:List BP:=[AFd]
abbrev ALZ:List BP:=[l7,ARO]
abbrev AL2:List BP:=[l7,AIT]
abbrev AB4:List BP:=[l7,wi]
abbrev AMC:List BP:=[GJ,JV,iK]
abbrev ADX:List BP:=[wi,.mem [.v tI,.v tI,.ref 2,.ref 3,.v .bool,.ref 4],GJ,JV,iK,.mem [.v tI,.v tI,.ref 6,.ref 7,.v .bool,.ref 8],GJ,JV,iK]
abbrev b_:List BP:=[AFd,AQd,GJ,cX,GJ,SE,cQ,cS,cU,ag,AGX,GJ,cX,GJ,SE,cQ,cS,cU,ag]
abbrev AD3:List BP:=[DC,Wl,DC,MW,Tm,TE,Nk,KB]
abbrev AMV:List BP:=[DC,Ul,DC,MW,dW,om,Nk,KB]
abbrev yX:List BP:=[DC,Ul,DC,MW,dW,TE,Nk,KB,rB,qZ,GJ,cX,GJ,SE,cQ,cS,cU,ag,xg,.mem [.v tI,.sl true Y5]]
abbrev ALM:List BP:=[.mem [.v tI,.ref 1],ka,AQP,ka]
abbrev ALR:List BP:=[AUm,GJ,JV,iK,AUE,GJ,JV,iK]
abbrev ALj:List BP:=[DC,Wl,DC,MW,Tm,TE,Nk,KB,.mem [.ref 0,.v tI,.ref 1,.ref 9,.ref 3,.v tI,.ref 4,.ref 5,.ref 6,.ref 7,.v .bool],GJ,ADW,.mem [.ref 12,.v tI,.ref 13,.ref 14,.ref 15,.v tI,.ref 16,.ref 17,.ref 18,.ref 19,.v .bool],GJ,cX,GJ,SE,cQ,cS,cU,ag]
abbrev ALa:List BP:=[Ul,ADE,JV,JV,AKJ,JV,JV,Ul]
abbrev AC_:List BP:=[l7,GJ]
abbrev AMQ:List BP:=[WT,AQd,GJ,cX,GJ,SE,cQ,cS,cU,ag,AGX,GJ,cX,GJ,SE,cQ,cS,cU,ag,.mem [.ref 20,.v tI],GJ,GJ]
abbrev zO:List BP:=[WT,ADE,JV,JV,AKJ,JV,JV]
abbrev zK:List BP:=[WT,l7,AM8,GJ,JV,iK,AQX,GJ,JV,iK]
abbrev fP:List BP:=[yH,DC,Wl,DC,MW,Tm,TE,Nk,KB]
abbrev rz:List BP:=[.sl 1 Y1]
abbrev AL8:List BP:=[AOe,DC,Wl,DC,MW,Tm,TE,Nk,KB,DC]
abbrev AL6:List BP:=[.mem [.v tI,.v tI,.ref 1],.sl 1 Y8]
abbrev AMN:List BP:=[yH,DC,Wl,DC,MW,Tm,TE,.sl 1 Y9,KB]
abbrev AMT:List BP:=[yH,DC,Ul,DC,.sl 1 Y3,dW,om,Nk,KB,qZ,DC,Ul,DC,MW,Tm,.sl 2 Y7,.sl 1 Y9,KB]
abbrev Cn:BE:=⟨[(0,xP0)],[]⟩
abbrev ABn:BE:=⟨[(0,.c (.sl true tU))],[]⟩
abbrev fO:BE:=⟨[(0,J5)],j6⟩
abbrev Fe:BE:=⟨mw,[]⟩
abbrev yf:BE:=⟨mw,j6⟩
abbrev ACw:BE:=⟨[(0,J5),(1,BM)],j6⟩
abbrev ALk:BE:=⟨AOk,AUJ⟩
abbrev ALJ:BE:=⟨[(0,BM),(1,BM),(2,BM)],[]⟩
abbrev zF:BE:=⟨[(0,qY)],[]⟩
abbrev lj:BE:=⟨[(0,qY),(1,ae)],[]⟩
abbrev yx:BE:=⟨[(0,.agg [.v tI,.v tI,.ref 0])],[.sl 9 Y8]⟩
abbrev lp:BE:=⟨[(0,BM),(1,BM)],[]⟩
abbrev lP:BE:=⟨[(0,ae),(1,BM)],[]⟩
abbrev dM:BE:=⟨AD6,s7⟩
abbrev lV:BE:=⟨[(0,J5),(1,qY)],j6⟩
abbrev AL9:BE:=⟨AH7,AUJ⟩
abbrev zG:BE:=⟨[(0,.row Y4)],[]⟩
abbrev ALp:BE:=⟨[(0,.row Y4),(1,BM)],[]⟩
abbrev ABl:BE:=⟨[(0,J5),(1,.row Y11)],j6⟩
abbrev yY:BE:=⟨AUk,j6⟩
abbrev AD0:BE:=⟨[(0,X8),(1,BM)],[]⟩
abbrev yZ:BE:=⟨[(0,X8)],[]⟩
abbrev lO:BE:=⟨[(0,.row Y2)],[]⟩
abbrev pJ:BE:=⟨[(0,.row Y11)],[]⟩
abbrev ALN:BE:=⟨AFn,zP⟩
abbrev ABq:BE:=⟨[(0,qY),(1,.row Y4)],[]⟩
abbrev ADf:BE:=⟨[(0,qY),(1,.row Y6)],[]⟩
abbrev vy:BE:=⟨[(0,.row Y7)],[]⟩
abbrev sB:BE:=⟨[(0,qY),(1,.row Y7)],[]⟩
abbrev ALm:BE:=⟨[(2,J5),(3,UU),(5,BM)],AB4⟩
abbrev yy:BE:=⟨[(0,.row Y9)],[]⟩
abbrev ABp:BE:=⟨[(0,.row Y12)],[]⟩
abbrev ADd:BE:=⟨[(0,.agg [.ref 0,.v tI])],[SE]⟩
abbrev AB1:BE:=⟨[(0,.agg [.ref 0,.ref 1,.v tI])],[JV,JV]⟩
abbrev yb:BE:=⟨[(0,.row Y6)],[]⟩
abbrev AEA:BE:=⟨[(0,.agg [.v tI,.ref 0])],[ka]⟩
abbrev vP:BE:=⟨[(0,.agg [.v tI,.v tI,.ref 0,.ref 1,.v .bool,.ref 2])],AMC⟩
abbrev ALz:BE:=⟨AOh,ASp⟩
abbrev AMb:BE:=⟨[(0,qY),(1,.row Y4),(2,ae)],[]⟩
abbrev ALG:BE:=⟨[(0,.Nr [.inr [.ref 0,.v tI],.inl (.v tI),.inl (.v .bool)])],[SE]⟩
abbrev bo:BE:=⟨[(0,AQh),(1,.row Y12)],AD3⟩
abbrev yT:BE:=⟨[(0,.row Y11),(1,BM)],[]⟩
abbrev AMB:BE:=⟨[(0,qY),(1,.row Y6),(2,.c (.v .str))],[]⟩
abbrev ALL:BE:=⟨[(0,.Nr [.inr [.v tI,.ref 0],.inl (.v tI),.inl (.v .bool)])],[ka]⟩
abbrev ACg:BE:=⟨[(0,.row Y2),(1,.row Y1)],[]⟩
abbrev sH:BE:=⟨ATx,[JV,JV]⟩
abbrev rO:BE:=⟨ANd,AD3⟩
abbrev AMI:BE:=⟨[(0,.row Y1),(1,.row Y1)],[]⟩
abbrev AMM:BE:=⟨ASV,[]⟩
abbrev uu:BE:=⟨AD6,[JV]⟩
abbrev jI:BE:=⟨[(0,.row Y2),(1,BM)],[]⟩
abbrev ALd:BE:=⟨[(1,BM),(2,J5),(4,UU),(6,mq),(7,BM)],[ARC,ADE,JV,JV,AKJ,JV,JV]⟩
abbrev wO:BE:=⟨[(0,.Nr [.inr [.v tI,.v tI,.v .bool,.v .str],.inl (.v .bool)])],[]⟩
abbrev AL0:BE:=⟨[(0,qY),(1,.row Y6),(2,BM),(3,BM)],[]⟩
abbrev ALl:BE:=⟨AU3,[ka]⟩
abbrev o5:BE:=⟨[(0,.Nr [.inl (.v tI),.inl (.v .bool)])],[]⟩
abbrev ALu:BE:=⟨[(0,.row Y7),(1,BM)],[]⟩
abbrev AL5:BE:=⟨[(0,qY),(1,.row Y7),(2,BM),(3,BM)],[]⟩
abbrev vM:BE:=⟨AQy,AMC⟩
abbrev ALY:BE:=⟨ANd,AMV⟩
abbrev AEH:BE:=⟨[(0,ae),(1,ae)],[]⟩
abbrev AMa:BE:=⟨[(0,qY),(1,.row Y6),(2,BM)],[]⟩
abbrev ALf:BE:=⟨[(0,qY),(1,.row Y7),(2,BM)],[]⟩
abbrev ALc:BE:=⟨[(0,qY),(1,qK),(2,ae),(3,BM),(4,BM)],[Wl]⟩
abbrev ACL:BE:=⟨AOh,AD3⟩
abbrev ALi:BE:=⟨[(0,qY),(1,.row Y7),(2,BM),(3,X8)],[]⟩
abbrev AB0:BE:=⟨[(0,qY),(1,ae),(2,ae)],[]⟩
abbrev ALP:BE:=⟨[(0,qY),(1,.row Y7),(2,ae)],[]⟩
abbrev ALH:BE:=⟨[(0,qY),(1,.row Y4),(2,BM),(3,BM)],[]⟩
abbrev yU:BE:=⟨[(0,.Nr [.inr [.ref 0,.v tI],.inl (.v .bool)])],[SE]⟩
abbrev ALE:BE:=⟨[(0,qY),(1,.row Y4),(2,BM)],[]⟩
abbrev ALo:BE:=⟨[(0,qY),(1,.row Y4),(2,BM),(3,.row Y9),(4,q_)],[]⟩
abbrev AMF:BE:=⟨[(0,.row Y11),(1,.row Y12)],[]⟩
abbrev AVP:BE:=⟨[(0,J5),(4,UU),(6,cP),(10,jw),(12,.c (.ptr 28 0)),(13,.c (.ref 37)),(14,BM),(15,BM)],[WT,AQd,GJ,cX,GJ,SE,cQ,cS,cU,ag,AGX,GJ,cX,GJ,SE,cQ,cS,cU,ag,.mem [.ref 20,.v tI,.ref 21,.ref 22,.ref 23,.v tI,.ref 24,.ref 25,.ref 26,.ref 27,.v .bool],Iw,Iw,Iw,Iw,Iw,Iw,Iw,Iw,.mem [.ref 29,.v tI,.ref 30,.ref 31,.ref 32,.v tI,.ref 33,.ref 34,.ref 35,.ref 36,.v .bool],DC,Ul,DC,MW,dW,om,Nk,KB,.sl 9 Y12]⟩
abbrev ALK:BE:=⟨ASV,j6⟩
abbrev ALU:BE:=⟨[(0,.agg [.ref 1,.ref 2,.v tI])],[WT,JV,JV]⟩
abbrev ALy:BE:=⟨[(0,.agg [.v tI,.v tI,.ref 1,.ref 2,.v .bool,.ref 3])],[WT,GJ,JV,iK]⟩
abbrev ALV:BE:=⟨AH7,[Iw,DC]⟩
abbrev AEW:BE:=⟨AD6,[DC]⟩
abbrev zU:BE:=⟨[(0,vC),(1,BM)],[]⟩
abbrev vp:BE:=⟨[(0,vC)],[]⟩
abbrev rQ:BE:=⟨[(0,J5),(1,BM)],fP⟩
abbrev oK:BE:=⟨mw,fP⟩
abbrev AMH:BE:=⟨[(0,J5),(1,.row Y12)],fP⟩
abbrev ALQ:BE:=⟨AH7,[Iw,.sl 1 Y1]⟩
abbrev yc:BE:=⟨ATx,[.sl 1 Y1,JV]⟩
abbrev AL3:BE:=⟨AU3,[.sl 2 Y5]⟩
abbrev yv:BE:=⟨AVO,fP⟩
abbrev AMD:BE:=⟨[(0,.Nr [])],fP⟩
abbrev ACH:BE:=⟨[(0,J5),(1,BM),(2,BM),(6,BM)],fP⟩
abbrev AML:BE:=⟨AQy,[GJ,JV,.sl 2 (.sl tI)]⟩
abbrev AD_:BE:=⟨[(0,J5)],fP⟩
abbrev AL4:BE:=⟨[(0,.Nr [])],[.mem [.v tI,.v tI,.ref 2],Iw,.sl 1 Y8]⟩
def s6:SQ:=mk Tryz.func6 ⟨[(0,.c (.sl false tU))],[]⟩ Cn nT [] [] []
def s22:SQ:=mk Tryz.func22 ABn fO bB [] [] [⟨3,⟨[(0,.c (.sl true tU)),(3,BM),(4,BM)],[]⟩,QI⟩]
abbrev i47:BE:=⟨[(0,.c (.sl false tU)),(1,BM),(2,BM)],[]⟩
abbrev o47:BE:=Fe
def s47:SQ:=mk Tryz.func47 i47 o47 Uz [] [] []
def s57:SQ:=mk Tryz.func57 fO yf MX [] [(2,[0]),(3,[0]),(4,[0])] []
abbrev i24:BE:=ACw
abbrev o24:BE:=yf
def gx:SQ:=mk Tryz.func24 i24 o24 AJ [s57] [] []
abbrev i48:BE:=ACw
abbrev o48:BE:=⟨[(0,xP0)],j6⟩
def s48:SQ:=mk Tryz.func48 i48 o48 BF [gx] [] []
def AUY:SQ:=mk Tryz.func132 fO ALk MJ [gx,s48] [(6,[1,2])] [⟨4,⟨[(0,J5),(2,UU),(3,xP4),(4,BM),(5,BM)],[WT,APQ,GJ,AMg,GJ]⟩,Ii⟩] (hJ:= .cons (fun _=>rfl) (fun n v ω=>by rcases ω with _|⟨_|_,_|⟨_|_,_⟩⟩<;>kernel_rfl) (.nil))
def qN:SQ:=mk Tryz.func80 ALJ Cn CK [] [] []
abbrev i70:BE:=zF
abbrev o70:BE:=Cn
def s70:SQ:=mk Tryz.func70 i70 o70 Ge [qN] [] [⟨4,⟨AFn,AOs⟩,Lo⟩]
def ATf:SQ:=mk Tryz.func143 ⟨[(0,ae),(1,BM),(2,BM)],[]⟩ Cn XC [qN] [] [⟨2,⟨[(0,ae),(1,BM),(2,BM),(7,BM)],[]⟩,Nc⟩]
def s71:SQ:=mk Tryz.func71 lj Cn Gv [s70,ATf] [] []
def AUM:SQ:=mk Tryz.func144 lj Fe Uh [] [(6,[0,1])] [⟨4,⟨[(1,ae),(2,J5),(5,xP7),(6,BM),(7,BM)],[l7,.sl 9 .bool]⟩,OW⟩]
abbrev i72:BE:=lj
abbrev o72:BE:=Cn
def yR:SQ:=mk Tryz.func72 i72 o72 Em [s71,AUM] [(1,[0])] []
abbrev AYK:BE:=⟨[],[]⟩
abbrev AZ1:BE:=yx
def ASw:SQ:=mk Tryz.func220 AYK AZ1 Xh [] [] []
abbrev wu:BE:=zF
abbrev APO:BE:=⟨[(0,.Nr [.inr [.ref 0,.v tI,.ref 1,.ref 2,.ref 3,.v tI,.ref 4,.ref 5,.ref 6,.ref 7,.v .bool],.inl (.v .bool)])],ASp⟩
def AUN:QB:=⟨wu,APO,(wu.un Hr)⟩
def ASg:Zo:=⟨T,Pw (SP.l [s70,ASw]),CD [(3,[0,1]),(4,[0,4])]⟩
def ARS:List (Lp APO):=[]
def Af(ω:List Bool):Prop:= ∀(n:Nat) (v:wu.V),Cy ASg AUN Tryz.f133 (LN 0 ARS n) ω v=wu.un (Hr) v
theorem ANp:Af []:=by delta Af;intros;kernel_rfl
theorem ANt:Af (false::[]):=by delta Af;intros;kernel_rfl
theorem AOM:Af (false::false::[]):=by delta Af;intros;kernel_rfl
theorem ANJ:Af (false::false::false::[]):=by delta Af;intros;kernel_rfl
theorem AOr:Af (false::false::false::false::[]):=by delta Af;intros;kernel_rfl
theorem ARL:Af (false::false::false::false::false::[]):=by delta Af;intros;kernel_rfl
theorem ANG:Af (false::false::false::false::false::false::[]):=by delta Af;intros;kernel_rfl
theorem AQV:Af (false::false::false::false::false::false::false::[]):=by delta Af;intros;kernel_rfl
theorem AOA(ω:List Bool):Af (false::false::false::false::false::false::false::false::ω):=by delta Af;intros;kernel_rfl
theorem AFs(ω:List Bool):Af (false::false::false::false::false::false::false::true::ω):=by delta Af;intros;kernel_rfl
theorem AJD:Af (false::false::false::false::false::false::true::[]):=by delta Af;intros;kernel_rfl
theorem AF7(ω:List Bool):Af (false::false::false::false::false::false::true::false::ω):=by delta Af;intros;kernel_rfl
theorem AKz(ω:List Bool):Af (false::false::false::false::false::false::true::true::ω):=by delta Af;intros;kernel_rfl
theorem AKs:Af (false::false::false::false::false::true::[]):=by delta Af;intros;kernel_rfl
theorem AFH(ω:List Bool):Af (false::false::false::false::false::true::false::ω):=by delta Af;intros;kernel_rfl
theorem AJA(ω:List Bool):Af (false::false::false::false::false::true::true::ω):=by delta Af;intros;kernel_rfl
theorem AI6:Af (false::false::false::false::true::[]):=by delta Af;intros;kernel_rfl
theorem AKe:Af (false::false::false::false::true::false::[]):=by delta Af;intros;kernel_rfl
theorem AFh(ω:List Bool):Af (false::false::false::false::true::false::false::ω):=by delta Af;intros;kernel_rfl
theorem AKM(ω:List Bool):Af (false::false::false::false::true::false::true::ω):=by delta Af;intros;kernel_rfl
theorem AIh(ω:List Bool):Af (false::false::false::false::true::true::ω):=by delta Af;intros;kernel_rfl
theorem AJ7:Af (false::false::false::true::[]):=by delta Af;intros;kernel_rfl
theorem AFO:Af (false::false::false::true::false::[]):=by delta Af;intros;kernel_rfl
theorem AHU(ω:List Bool):Af (false::false::false::true::false::false::ω):=by delta Af;intros;kernel_rfl
theorem AJG(ω:List Bool):Af (false::false::false::true::false::true::ω):=by delta Af;intros;kernel_rfl
theorem AGd(ω:List Bool):Af (false::false::false::true::true::ω):=by delta Af;intros;kernel_rfl
theorem AJM:Af (false::false::true::[]):=by delta Af;intros;kernel_rfl
theorem AGC:Af (false::false::true::false::[]):=by delta Af;intros;kernel_rfl
theorem AHw:Af (false::false::true::false::false::[]):=by delta Af;intros;kernel_rfl
theorem AG7(ω:List Bool):Af (false::false::true::false::false::false::ω):=by delta Af;intros;kernel_rfl
theorem AK7(ω:List Bool):Af (false::false::true::false::false::true::ω):=by delta Af;intros;kernel_rfl
theorem AIv(ω:List Bool):Af (false::false::true::false::true::ω):=by delta Af;intros;kernel_rfl
theorem AIw(ω:List Bool):Af (false::false::true::true::ω):=by delta Af;intros;kernel_rfl
theorem AJJ:Af (false::true::[]):=by delta Af;intros;kernel_rfl
theorem AIQ:Af (false::true::false::[]):=by delta Af;intros;kernel_rfl
theorem AHB:Af (false::true::false::false::[]):=by delta Af;intros;kernel_rfl
theorem AHt(ω:List Bool):Af (false::true::false::false::false::ω):=by delta Af;intros;kernel_rfl
theorem AGG(ω:List Bool):Af (false::true::false::false::true::ω):=by delta Af;intros;kernel_rfl
theorem AGT(ω:List Bool):Af (false::true::false::true::ω):=by delta Af;intros;kernel_rfl
theorem AIc(ω:List Bool):Af (false::true::true::ω):=by delta Af;intros;kernel_rfl
theorem AJY:Af (true::[]):=by delta Af;intros;kernel_rfl
theorem AFu:Af (true::false::[]):=by delta Af;intros;kernel_rfl
theorem AIf:Af (true::false::false::[]):=by delta Af;intros;kernel_rfl
theorem AK6:Af (true::false::false::false::[]):=by delta Af;intros;kernel_rfl
theorem AIl:Af (true::false::false::false::false::[]):=by delta Af;intros;kernel_rfl
theorem AHQ:Af (true::false::false::false::false::false::[]):=by delta Af;intros;kernel_rfl
theorem AGe:Af (true::false::false::false::false::false::false::[]):=by delta Af;intros;kernel_rfl
theorem AKb:Af (true::false::false::false::false::false::false::false::[]):=by delta Af;intros;kernel_rfl
theorem AKu(ω:List Bool):Af (true::false::false::false::false::false::false::false::false::ω):=by delta Af;intros;kernel_rfl
theorem AIB(ω:List Bool):Af (true::false::false::false::false::false::false::false::true::ω):=by delta Af;intros;kernel_rfl
theorem AIt:Af (true::false::false::false::false::false::false::true::[]):=by delta Af;intros;kernel_rfl
theorem AF8(ω:List Bool):Af (true::false::false::false::false::false::false::true::false::ω):=by delta Af;intros;kernel_rfl
theorem AKF(ω:List Bool):Af (true::false::false::false::false::false::false::true::true::ω):=by delta Af;intros;kernel_rfl
theorem AGp:Af (true::false::false::false::false::false::true::[]):=by delta Af;intros;kernel_rfl
theorem AGZ(ω:List Bool):Af (true::false::false::false::false::false::true::false::ω):=by delta Af;intros;kernel_rfl
theorem AJy(ω:List Bool):Af (true::false::false::false::false::false::true::true::ω):=by delta Af;intros;kernel_rfl
theorem ALA:Af (true::false::false::false::false::true::[]):=by delta Af;intros;kernel_rfl
theorem AHA:Af (true::false::false::false::false::true::false::[]):=by delta Af;intros;kernel_rfl
theorem AHY(ω:List Bool):Af (true::false::false::false::false::true::false::false::ω):=by delta Af;intros;kernel_rfl
theorem AHN(ω:List Bool):Af (true::false::false::false::false::true::false::true::ω):=by delta Af;intros;kernel_rfl
theorem AFE(ω:List Bool):Af (true::false::false::false::false::true::true::ω):=by delta Af;intros;kernel_rfl
theorem AFw:Af (true::false::false::false::true::[]):=by delta Af;intros;kernel_rfl
theorem AJs:Af (true::false::false::false::true::false::[]):=by delta Af;intros;kernel_rfl
theorem AGy(ω:List Bool):Af (true::false::false::false::true::false::false::ω):=by delta Af;intros;kernel_rfl
theorem AI2(ω:List Bool):Af (true::false::false::false::true::false::true::ω):=by delta Af;intros;kernel_rfl
theorem AE7(ω:List Bool):Af (true::false::false::false::true::true::ω):=by delta Af;intros;kernel_rfl
theorem AGg:Af (true::false::false::true::[]):=by delta Af;intros;kernel_rfl
theorem AGz:Af (true::false::false::true::false::[]):=by delta Af;intros;kernel_rfl
theorem AKY:Af (true::false::false::true::false::false::[]):=by delta Af;intros;kernel_rfl
theorem AKU(ω:List Bool):Af (true::false::false::true::false::false::false::ω):=by delta Af;intros;kernel_rfl
theorem AGU(ω:List Bool):Af (true::false::false::true::false::false::true::ω):=by delta Af;intros;kernel_rfl
theorem AHv(ω:List Bool):Af (true::false::false::true::false::true::ω):=by delta Af;intros;kernel_rfl
theorem AKA(ω:List Bool):Af (true::false::false::true::true::ω):=by delta Af;intros;kernel_rfl
theorem AKo:Af (true::false::true::[]):=by delta Af;intros;kernel_rfl
theorem AIE:Af (true::false::true::false::[]):=by delta Af;intros;kernel_rfl
theorem AGq:Af (true::false::true::false::false::[]):=by delta Af;intros;kernel_rfl
theorem AIy(ω:List Bool):Af (true::false::true::false::false::false::ω):=by delta Af;intros;kernel_rfl
theorem AIm(ω:List Bool):Af (true::false::true::false::false::true::ω):=by delta Af;intros;kernel_rfl
theorem AHj(ω:List Bool):Af (true::false::true::false::true::ω):=by delta Af;intros;kernel_rfl
theorem AKX(ω:List Bool):Af (true::false::true::true::ω):=by delta Af;intros;kernel_rfl
theorem AE2:Af (true::true::[]):=by delta Af;intros;kernel_rfl
theorem AIN:Af (true::true::false::[]):=by delta Af;intros;kernel_rfl
theorem AKr:Af (true::true::false::false::[]):=by delta Af;intros;kernel_rfl
theorem AHL(ω:List Bool):Af (true::true::false::false::false::ω):=by delta Af;intros;kernel_rfl
theorem AEr(ω:List Bool):Af (true::true::false::false::true::ω):=by delta Af;intros;kernel_rfl
theorem AKk(ω:List Bool):Af (true::true::false::true::ω):=by delta Af;intros;kernel_rfl
theorem AGE(ω:List Bool):Af (true::true::true::ω):=by delta Af;intros;kernel_rfl
theorem AYp(n:Nat)(ω:List Bool)(v:wu.V):Cy ASg AUN Tryz.f133 (LN 0 ARS n) ω v=wu.un (Hr) v:=(AF ANp (AF ANt (AF AOM (AF ANJ (AF AOr (AF ARL (AF ANG (AF AQV AOA AFs) (AF AJD AF7 AKz)) (AF AKs AFH AJA)) (AF AI6 (AF AKe AFh AKM) AIh)) (AF AJ7 (AF AFO AHU AJG) AGd)) (AF AJM (AF AGC (AF AHw AG7 AK7) AIv) AIw)) (AF AJJ (AF AIQ (AF AHB AHt AGG) AGT) AIc)) (AF AJY (AF AFu (AF AIf (AF AK6 (AF AIl (AF AHQ (AF AGe (AF AKb AKu AIB) (AF AIt AF8 AKF)) (AF AGp AGZ AJy)) (AF ALA (AF AHA AHY AHN) AFE)) (AF AFw (AF AJs AGy AI2) AE7)) (AF AGg (AF AGz (AF AKY AKU AGU) AHv) AKA)) (AF AKo (AF AIE (AF AGq AIy AIm) AHj) AKX)) (AF AE2 (AF AIN (AF AKr AHL AEr) AKk) AGE))) ω n v
def AXB:SQ:=mk Tryz.func133 wu APO Hr [s70,ASw] [(3,[0,1]),(4,[0,4])] ARS (hJ:= .nil) (he:=AYp Ab)
abbrev oN:BE:=lp
abbrev AAV:BE:=Fe
def um:SQ:=mk Tryz.func135 oN AAV FQ [] [] []
abbrev xU:BE:=lP
abbrev o74:BE:=Cn
def s74:SQ:=mk Tryz.func74 xU o74 Cv [] [] [⟨2,⟨[(0,ae),(1,BM),(5,BM)],[]⟩,K3⟩]
def w6:SQ:=mk Tryz.func134 lP dM IZ [s74] [] [⟨4,⟨[(0,ae),(1,BM),(5,qK),(6,xP0),(7,BM)],s7⟩,Ho⟩]
abbrev AYq:BE:=⟨[(0,J5),(1,ae)],j6⟩
abbrev AYx:BE:=yf
def nu:SQ:=mk Tryz.func100 AYq AYx CB [gx] [] []
abbrev i49:BE:=lV
abbrev o49:BE:=AL9
def s49:SQ:=mk Tryz.func49 i49 o49 FH [gx,s48,nu,w6,um] [] [⟨4,⟨[(0,J5),(3,UU),(5,.c (.ref 2)),(6,BM),(7,BM)],ATR⟩,Io⟩]
def ANs:SQ:=mk Tryz.func102 lV AL9 Hv [s49,yR,w6] [] [⟨3,⟨[(3,UU),(5,.c (.ref 2)),(6,BM)],ATR⟩,Kl⟩]
def AZr:SQ:=mk Tryz.func101 ⟨[(0,ae)],[]⟩ Fe MB [ATf] [] [⟨5,⟨[(0,ae),(3,BM),(4,BM)],[]⟩,Kz⟩]
def s79:SQ:=mk Tryz.func79 zG Fe JY [] [] [⟨2,⟨AFn,[ARO]⟩,IF⟩]
abbrev i182:BE:=ALp
abbrev vm:BE:=dM
def wF:SQ:=mk Tryz.func182 i182 vm Cb [qN] [] []
def AY_:SQ:=mk Tryz.func103 ABl yY L9 [gx,s48,yR,um,wF] [(18,[1,2,3])] [⟨16,⟨[(0,J5),(3,UU),(4,xP9),(5,xP4),(7,BM),(8,BM),(9,BM)],[WT,AFd,ADW,wi]⟩,GL⟩]
def APU:SQ:=mk Tryz.func183 ⟨[(0,J5),(1,.c (.sl false .str))],j6⟩ ⟨[(0,.c (.v .str))],j6⟩ G6 [gx] [] []
def AX4:SQ:=mk Tryz.func184 lp Fe T1 [] [] []
def AZc:SQ:=mk Tryz.func104 ABl yY Gq [gx,s48,wF,APU,AX4] [] []
def s33:SQ:=mk Tryz.func33 ABl yY Lj [gx,s48,s79,AZr,ANs,AY_,AZc] [(16,[1]),(27,[1,2])] []
def s81:SQ:=mk Tryz.func81 Fe Cn Hq [qN] [] []
abbrev xG:BE:=Fe
abbrev o82:BE:=Fe
def s82:SQ:=mk Tryz.func82 xG o82 Cl [s81] [] []
def AJu:SQ:=mk Tryz.func147 ⟨[(0,.row Y1)],[]⟩ Cn Mr [qN,s81,s82] [(1,[0])] []
def AaF:SQ:=mk Tryz.func145 AD0 Cn Ut [AJu] [] [⟨4,⟨[(0,X8),(5,BM)],[]⟩,L4⟩]
def ATk:SQ:=mk Tryz.func146 yZ Cn Xn [] [] [⟨2,⟨[(0,X8),(3,BM)],[]⟩,Gc⟩]
def s73:SQ:=mk Tryz.func73 lO Cn Gu [qN,AaF,ATk] [] []
def s75:SQ:=mk Tryz.func75 lO Cn aZ [] [] []
def s27:SQ:=mk Tryz.func27 pJ Cn UZ [s70,s71,yR,s73,s74,s75] [] [⟨4,ALN,JH⟩]
abbrev i76:BE:=ABq
abbrev o76:BE:=Cn
def s76:SQ:=mk Tryz.func76 i76 o76 Mz [s70,yR,qN,s81,s82] [] [⟨5,⟨AVq,ALZ⟩,LD⟩]
abbrev i77:BE:=ADf
abbrev o77:BE:=Cn
def s77:SQ:=mk Tryz.func77 i77 o77 Hj [s70,s71,yR,qN] [(8,[0,1,2])] [⟨5,⟨AVq,AL2⟩,Lx⟩]
abbrev fx:BE:=Fe
abbrev vU:BE:=Fe
def AGh:SQ:=mk Tryz.func225 fx vU HU [s81] [] []
def AVe:SQ:=mk Tryz.func148 vy Fe RQ [AGh] [] []
def s78:SQ:=mk Tryz.func78 sB Cn I7 [s70,s71,qN,s82,ATk,AJu,AVe] [(6,[0,1]),(11,[0,1]),(15,[0,1])] [⟨4,ALm,JW⟩,⟨9,⟨[(2,J5),(3,UU),(6,BM)],AB4⟩,IC⟩]
def s28:SQ:=mk Tryz.func28 pJ Cn Sb [s76,s77,s78,s79] [(7,[0]),(13,[0,1])] [⟨5,⟨[(1,J5),(3,BM),(4,BM)],zP⟩,Gt⟩,⟨10,⟨[(1,J5),(3,BM),(5,BM)],zP⟩,Et⟩]
def s29:SQ:=mk Tryz.func29 yy Cn NT [qN] [] []
def s30:SQ:=mk Tryz.func30 pJ Cn Wj [s81,s82] [(7,[0,1])] [⟨4,ALN,KT⟩]
def s10:SQ:=mk Tryz.func10 pJ Cn PO [s27,s28,s29,s30] [] []
def AY7:SQ:=mk Tryz.func105 ABp ⟨AUk,[]⟩ Zl [] [] []
def s34:SQ:=mk Tryz.func34 ABp Cn Yq [qN,AY7] [(1,[0])] []
abbrev xV:BE:=zG
abbrev o65:BE:=ADd
def s65:SQ:=mk Tryz.func65 xV o65 GI [] [] [⟨3,⟨AV5,[ARO,APQ,SE,AMg,SE]⟩,Ot⟩]
abbrev i66:BE:=lO
abbrev o66:BE:=AB1
def s66:SQ:=mk Tryz.func66 i66 o66 Ej [] [(1,[0])] [] (he:=fun ω v=>by rcases ω with _|⟨_|_,_|⟨_|_,_⟩⟩<;>kernel_rfl)
abbrev xZ:BE:=yb
abbrev o67:BE:=AEA
def s67:SQ:=mk Tryz.func67 xZ o67 EO [] [] [⟨3,⟨AV5,[AIT,.mem [.v tI,.ref 2],ka,.mem [.v tI,.ref 4],ka]⟩,Jv⟩]
abbrev sP:BE:=vy
abbrev o68:BE:=vP
def c68:QB:=⟨sP,o68,(sP.un EL)⟩
def C68:Zo:=⟨T,Pw (SP.l ([]:List SQ)),CD [(1,[0,1]),(5,[0,1,2,3,4,6,7])]⟩
def L68:List (Lp o68):=[⟨3,⟨[(1,J5),(2,UU),(3,.c (.ptr 5 0)),(4,BM)],ADX⟩,H0⟩]
abbrev ADB:BE:=⟨[(1,J5),(2,UU),(3,.c (.ptr 5 0)),(4,BM)],ADX⟩
theorem AS3(n:Nat)(v:ADB.V)(ω:List Bool):Hf C68 c68 Tryz.f68 (LN 0 L68 n) 3 ω (ADB.st 40 v)=ADB.un (Rq (H0 n)) v:=by rcases ω with _|⟨_|_,_|⟨_|_,_|⟨_|_,_⟩⟩⟩<;>kernel_rfl
def G5(ω:List Bool):Prop:= ∀(n:Nat) (v:sP.V),Cy C68 c68 Tryz.f68 (LN 0 L68 n) ω v=sP.un (N9 (H0 n)) v
theorem AV8:G5 []:=by delta G5;intros;kernel_rfl
theorem AUF:G5 (false::[]):=by delta G5;intros;kernel_rfl
theorem AVd:G5 (false::false::[]):=by delta G5;intros;kernel_rfl
theorem AVw(ω:List Bool):G5 (false::false::false::ω):=by delta G5;intros;kernel_rfl
theorem ATs:G5 (false::false::true::[]):=by delta G5;intros;kernel_rfl
theorem AUy(ω:List Bool):G5 (false::false::true::false::ω):=by delta G5;intros;kernel_rfl
theorem AVl(ω:List Bool):G5 (false::false::true::true::ω):=by delta G5;intros;kernel_rfl
theorem AUH:G5 (false::true::[]):=by delta G5;intros;kernel_rfl
theorem AT_(ω:List Bool):G5 (false::true::false::ω):=by delta G5;intros;kernel_rfl
theorem ARJ:G5 (false::true::true::[]):=by delta G5;intros;kernel_rfl
theorem AQI(ω:List Bool):G5 (false::true::true::false::ω):=by delta G5;intros;kernel_rfl
theorem AOF:G5 (false::true::true::true::[]):=by delta G5;intros;kernel_rfl
theorem APK(ω:List Bool):G5 (false::true::true::true::false::ω):=by delta G5;intros;kernel_rfl
theorem ANw(ω:List Bool):G5 (false::true::true::true::true::ω):=by delta G5;intros;kernel_rfl
theorem AM1:G5 (true::[]):=by delta G5;intros;kernel_rfl
theorem AOf:G5 (true::false::[]):=by delta G5;intros;kernel_rfl
theorem AOt:G5 (true::false::false::[]):=by delta G5;intros;kernel_rfl
theorem APH(ω:List Bool):G5 (true::false::false::false::ω):=by delta G5;intros;kernel_rfl
theorem AN9(ω:List Bool):G5 (true::false::false::true::ω):=by delta G5;intros;kernel_rfl
theorem ANA:G5 (true::false::true::[]):=by delta G5;intros;kernel_rfl
theorem AMq(ω:List Bool):G5 (true::false::true::false::ω):=by delta G5;intros;kernel_rfl
theorem AMn:G5 (true::false::true::true::[]):=by delta G5;intros;kernel_rfl
theorem AOE(ω:List Bool):G5 (true::false::true::true::false::ω):=by delta G5;intros;kernel_rfl
theorem AON(ω:List Bool):G5 (true::false::true::true::true::ω):=by delta G5;intros;kernel_rfl
theorem AP_:G5 (true::true::[]):=by delta G5;intros;kernel_rfl
theorem ANR(ω:List Bool):G5 (true::true::false::ω):=by delta G5;intros;kernel_rfl
theorem AOb:G5 (true::true::true::[]):=by delta G5;intros;kernel_rfl
theorem AOX(ω:List Bool):G5 (true::true::true::false::ω):=by delta G5;intros;kernel_rfl
theorem AOy(ω:List Bool):G5 (true::true::true::true::ω):=by delta G5;intros;kernel_rfl
theorem e68(n:Nat)(ω:List Bool)(v:sP.V):Cy C68 c68 Tryz.f68 (LN 0 L68 n) ω v=sP.un (N9 (H0 n)) v:=(AF AV8 (AF AUF (AF AVd AVw (AF ATs AUy AVl)) (AF AUH AT_ (AF ARJ AQI (AF AOF APK ANw)))) (AF AM1 (AF AOf (AF AOt APH AN9) (AF ANA AMq (AF AMn AOE AON))) (AF AP_ ANR (AF AOb AOX AOy)))) ω n v
def s68:SQ:=mk Tryz.func68 sP o68 EL [] [(1,[0,1]),(5,[0,1,2,3,4,6,7])] L68 (hJ:= .cons (fun _=>rfl) AS3 (.nil)) (he:=e68 Ab)
abbrev z8:BE:=yy
abbrev o69:BE:=yx
def s69:SQ:=mk Tryz.func69 z8 o69 CO [] [] []
abbrev i26:BE:=pJ
abbrev o26:BE:=ALz
def c26:QB:=⟨i26,o26,(i26.un O7)⟩
def C26:Zo:=⟨T,Pw (SP.l [s65,s66,s67,s68,s69]),CD [(1,[0,1]),(5,[0,1,2,3,4,5,6,7,8,9,11,13,14,15,16,17,18]),(9,[0,1,2,3,4,5,6,7,8,9,11,12,13,14,16,17,18]),(13,[0,1,2,3,4,5,6,7,8,9,11,12,13,14,15,17,18]),(17,[0,1,2,3,4,5,6,7,8,9,11,12,13,14,15,16,18])]⟩
def L26:List (Lp o26):=[⟨3,⟨[(1,J5),(2,UU),(3,cP),(4,BM)],b_⟩,CY⟩,⟨7,⟨[(1,J5),(2,UU),(3,cP),(5,BM)],b_⟩,Cp⟩,⟨11,⟨[(1,J5),(2,UU),(3,cP),(6,BM)],b_⟩,CV⟩,⟨15,⟨[(1,J5),(2,UU),(3,cP),(7,BM)],b_⟩,CT⟩]
abbrev rL:BE:=⟨[(1,J5),(2,UU),(3,cP),(4,BM)],b_⟩
abbrev sG:BE:=⟨[(1,J5),(2,UU),(3,cP),(5,BM)],b_⟩
abbrev kF:BE:=⟨[(1,J5),(2,UU),(3,cP),(6,BM)],b_⟩
abbrev jn:BE:=⟨[(1,J5),(2,UU),(3,cP),(7,BM)],b_⟩
theorem AWF(vZ:ABZ→Option Fa)(zi:ABa→Option LK)(ur:ABb→Option Fc)(g68:ABT→Option Gd)(g69:ABi→Option Jr)(n:Nat)(v:rL.V)(ω:List Bool):Hf ⟨T,Pw [(65,⟨xV,o65,xV.un vZ⟩),(66,⟨i66,o66,i66.un zi⟩),(67,⟨xZ,o67,xZ.un ur⟩),(68,⟨sP,o68,sP.un g68⟩),(69,⟨z8,o69,z8.un g69⟩)],CD [(1,[0,1]),(5,[0,1,2,3,4,5,6,7,8,9,11,13,14,15,16,17,18]),(9,[0,1,2,3,4,5,6,7,8,9,11,12,13,14,16,17,18]),(13,[0,1,2,3,4,5,6,7,8,9,11,12,13,14,15,17,18]),(17,[0,1,2,3,4,5,6,7,8,9,11,12,13,14,15,16,18])]⟩ c26 Tryz.f26 (LN 0 L26 n) 3 ω (rL.st 104 v)=rL.un (fun(t4:Int) (AM:AAF) (AE:Int) (Ac:AAT) (DN:AAF) (ET:AAP) (Aa:Int) (EJ:AAj) (D9:AAo) (GB:AAs) (GW:AAa) (AN:Bool) (Az:Int) (D8:Int) (E9:Bool) (b2:AAF) (b3:AAT) (b4:AAF) (b5:AAP) (b6:AAj) (b7:AAo) (b8:AAs) (b9:AAa) (Dh:Int) (Ed:Int) (C1:Bool) (Fl:AAF) (DX:AAT) (F7:AAF) (GV:AAP) (Dv:AAj) (D_:AAo) (E8:AAs) (VO:AAa)=>
 cond ((decide (t4<(Ac.length:Int))))
  (if(0:Int)≤t4∧t4<(Ac.length:Int)then(
  (zi ((Ac.getD (t4.toNat) ([],[],0,())).1,(Ac.getD (t4.toNat) ([],[],0,())).2.1,(Ac.getD (t4.toNat) ([],[],0,())).2.2.1,())).bind fun yK=>
  if DX.length+1≤Go.M.DF then(
  (CY n) (AU (t4+1)) AM AE Ac DN ET Aa EJ D9 GB GW AN Az D8 E9 b2 b3 b4 b5 b6 b7 b8 b9 Dh Ed C1 Fl (DX++[(yK.2.1,yK.2.2.1,yK.1.1.2.2.1,())]) F7 GV Dv D_ E8 VO)else none)else none)
 ((Cp n) 0 AM AE Ac DN ET Aa EJ D9 GB GW AN Az D8 E9 b2 b3 b4 b5 b6 b7 b8 b9 Dh Ed C1 Fl DX F7 GV Dv D_ E8 VO)) v:=by rcases ω with _|⟨_|_,_|⟨_|_,_⟩⟩<;>kernel_rfl
theorem ATF(n:Nat)(v:rL.V)(ω:List Bool):Hf C26 c26 Tryz.f26 (LN 0 L26 n) 3 ω (rL.st 104 v)=rL.un (Qn (CY n) (Cp n) (CV n) (CT n)) v:=AWF GI Ej EO EL CO n v ω
theorem ASN(vZ:ABZ→Option Fa)(zi:ABa→Option LK)(ur:ABb→Option Fc)(g68:ABT→Option Gd)(g69:ABi→Option Jr)(n:Nat)(v:sG.V)(ω:List Bool):Hf ⟨T,Pw [(65,⟨xV,o65,xV.un vZ⟩),(66,⟨i66,o66,i66.un zi⟩),(67,⟨xZ,o67,xZ.un ur⟩),(68,⟨sP,o68,sP.un g68⟩),(69,⟨z8,o69,z8.un g69⟩)],CD [(1,[0,1]),(5,[0,1,2,3,4,5,6,7,8,9,11,13,14,15,16,17,18]),(9,[0,1,2,3,4,5,6,7,8,9,11,12,13,14,16,17,18]),(13,[0,1,2,3,4,5,6,7,8,9,11,12,13,14,15,17,18]),(17,[0,1,2,3,4,5,6,7,8,9,11,12,13,14,15,16,18])]⟩ c26 Tryz.f26 (LN 0 L26 n) 7 ω (sG.st 104 v)=sG.un (fun(t5:Int) (AM:AAF) (AE:Int) (Ac:AAT) (DN:AAF) (ET:AAP) (Aa:Int) (EJ:AAj) (D9:AAo) (GB:AAs) (GW:AAa) (AN:Bool) (Az:Int) (D8:Int) (E9:Bool) (b2:AAF) (b3:AAT) (b4:AAF) (b5:AAP) (b6:AAj) (b7:AAo) (b8:AAs) (b9:AAa) (Dh:Int) (Ed:Int) (C1:Bool) (Fl:AAF) (DX:AAT) (F7:AAF) (GV:AAP) (Dv:AAj) (D_:AAo) (E8:AAs) (VO:AAa)=>
 cond ((decide (t5<(EJ.length:Int))))
  (if(0:Int)≤t5∧t5<(EJ.length:Int)then(
  (ur ((EJ.getD (t5.toNat) (0,[],())).1,(EJ.getD (t5.toNat) (0,[],())).2.1,())).bind fun ACP=>
  if Dv.length+1≤Go.M.DF then(
  (Cp n) (AU (t5+1)) AM AE Ac DN ET Aa EJ D9 GB GW AN Az D8 E9 b2 b3 b4 b5 b6 b7 b8 b9 Dh Ed C1 Fl DX F7 GV (Dv++[(ACP.1.1.1,ACP.2.1,())]) D_ E8 VO)else none)else none)
 ((CV n) 0 AM AE Ac DN ET Aa EJ D9 GB GW AN Az D8 E9 b2 b3 b4 b5 b6 b7 b8 b9 Dh Ed C1 Fl DX F7 GV Dv D_ E8 VO)) v:=by rcases ω with _|⟨_|_,_|⟨_|_,_⟩⟩<;>kernel_rfl
theorem AUr(n:Nat)(v:sG.V)(ω:List Bool):Hf C26 c26 Tryz.f26 (LN 0 L26 n) 7 ω (sG.st 104 v)=sG.un (Qo (CY n) (Cp n) (CV n) (CT n)) v:=ASN GI Ej EO EL CO n v ω
theorem AMt(vZ:ABZ→Option Fa)(zi:ABa→Option LK)(ur:ABb→Option Fc)(g68:ABT→Option Gd)(g69:ABi→Option Jr)(n:Nat)(v:kF.V)(ω:List Bool):Hf ⟨T,Pw [(65,⟨xV,o65,xV.un vZ⟩),(66,⟨i66,o66,i66.un zi⟩),(67,⟨xZ,o67,xZ.un ur⟩),(68,⟨sP,o68,sP.un g68⟩),(69,⟨z8,o69,z8.un g69⟩)],CD [(1,[0,1]),(5,[0,1,2,3,4,5,6,7,8,9,11,13,14,15,16,17,18]),(9,[0,1,2,3,4,5,6,7,8,9,11,12,13,14,16,17,18]),(13,[0,1,2,3,4,5,6,7,8,9,11,12,13,14,15,17,18]),(17,[0,1,2,3,4,5,6,7,8,9,11,12,13,14,15,16,18])]⟩ c26 Tryz.f26 (LN 0 L26 n) 11 ω (kF.st 104 v)=kF.un (fun(t6:Int) (AM:AAF) (AE:Int) (Ac:AAT) (DN:AAF) (ET:AAP) (Aa:Int) (EJ:AAj) (D9:AAo) (GB:AAs) (GW:AAa) (AN:Bool) (Az:Int) (D8:Int) (E9:Bool) (b2:AAF) (b3:AAT) (b4:AAF) (b5:AAP) (b6:AAj) (b7:AAo) (b8:AAs) (b9:AAa) (Dh:Int) (Ed:Int) (C1:Bool) (Fl:AAF) (DX:AAT) (F7:AAF) (GV:AAP) (Dv:AAj) (D_:AAo) (E8:AAs) (VO:AAa)=>
 cond ((decide (t6<(D9.length:Int))))
  (if(0:Int)≤t6∧t6<(D9.length:Int)then(
  (g68 ((D9.getD (t6.toNat) (0,0,[],[],false,[],())).1,(D9.getD (t6.toNat) (0,0,[],[],false,[],())).2.1,(D9.getD (t6.toNat) (0,0,[],[],false,[],())).2.2.1,(D9.getD (t6.toNat) (0,0,[],[],false,[],())).2.2.2.1,(D9.getD (t6.toNat) (0,0,[],[],false,[],())).2.2.2.2.1,(D9.getD (t6.toNat) (0,0,[],[],false,[],())).2.2.2.2.2.1,())).bind fun ks=>
  if D_.length+1≤Go.M.DF then(
  (CV n) (AU (t6+1)) AM AE Ac DN ET Aa EJ D9 GB GW AN Az D8 E9 b2 b3 b4 b5 b6 b7 b8 b9 Dh Ed C1 Fl DX F7 GV Dv (D_++[(ks.1.1.1,ks.1.1.2.1,ks.2.1,ks.2.2.1,ks.1.1.2.2.2.2.1,ks.2.2.2.1,())]) E8 VO)else none)else none)
 ((CT n) 0 AM AE Ac DN ET Aa EJ D9 GB GW AN Az D8 E9 b2 b3 b4 b5 b6 b7 b8 b9 Dh Ed C1 Fl DX F7 GV Dv D_ E8 VO)) v:=by rcases ω with _|⟨_|_,_|⟨_|_,_⟩⟩<;>kernel_rfl
theorem AQZ(n:Nat)(v:kF.V)(ω:List Bool):Hf C26 c26 Tryz.f26 (LN 0 L26 n) 11 ω (kF.st 104 v)=kF.un (Pr (CY n) (Cp n) (CV n) (CT n)) v:=AMt GI Ej EO EL CO n v ω
theorem AQj(vZ:ABZ→Option Fa)(zi:ABa→Option LK)(ur:ABb→Option Fc)(g68:ABT→Option Gd)(g69:ABi→Option Jr)(n:Nat)(v:jn.V)(ω:List Bool):Hf ⟨T,Pw [(65,⟨xV,o65,xV.un vZ⟩),(66,⟨i66,o66,i66.un zi⟩),(67,⟨xZ,o67,xZ.un ur⟩),(68,⟨sP,o68,sP.un g68⟩),(69,⟨z8,o69,z8.un g69⟩)],CD [(1,[0,1]),(5,[0,1,2,3,4,5,6,7,8,9,11,13,14,15,16,17,18]),(9,[0,1,2,3,4,5,6,7,8,9,11,12,13,14,16,17,18]),(13,[0,1,2,3,4,5,6,7,8,9,11,12,13,14,15,17,18]),(17,[0,1,2,3,4,5,6,7,8,9,11,12,13,14,15,16,18])]⟩ c26 Tryz.f26 (LN 0 L26 n) 15 ω (jn.st 104 v)=jn.un (fun(t7:Int) (AM:AAF) (AE:Int) (Ac:AAT) (DN:AAF) (ET:AAP) (Aa:Int) (EJ:AAj) (D9:AAo) (GB:AAs) (GW:AAa) (AN:Bool) (Az:Int) (D8:Int) (E9:Bool) (b2:AAF) (b3:AAT) (b4:AAF) (b5:AAP) (b6:AAj) (b7:AAo) (b8:AAs) (b9:AAa) (Dh:Int) (Ed:Int) (C1:Bool) (Fl:AAF) (DX:AAT) (F7:AAF) (GV:AAP) (Dv:AAj) (D_:AAo) (E8:AAs) (VO:AAa)=>
 cond ((decide (t7<(GB.length:Int))))
  (if(0:Int)≤t7∧t7<(GB.length:Int)then(
  (g69 ((GB.getD (t7.toNat) (0,0,[],())).1,(GB.getD (t7.toNat) (0,0,[],())).2.1,(GB.getD (t7.toNat) (0,0,[],())).2.2.1,())).bind fun we=>
  if E8.length+1≤Go.M.DF then(
  (CT n) (AU (t7+1)) AM AE Ac DN ET Aa EJ D9 GB GW AN Az D8 E9 b2 b3 b4 b5 b6 b7 b8 b9 Dh Ed C1 Fl DX F7 GV Dv D_ (E8++[(we.1.1.1,we.1.1.2.1,we.2.1,())]) VO)else none)else none)
 (some ((((),Dh,(),(),(),Ed,(),(),(),(),C1,()),()),(Fl,DX,F7,GV,Dv,D_,E8,VO,())))) v:=by rcases ω with _|⟨_|_,_|⟨_|_,_⟩⟩<;>kernel_rfl
theorem AMw(n:Nat)(v:jn.V)(ω:List Bool):Hf C26 c26 Tryz.f26 (LN 0 L26 n) 15 ω (jn.st 104 v)=jn.un (Pp (CY n) (Cp n) (CV n) (CT n)) v:=AQj GI Ej EO EL CO n v ω
def AG(ω:List Bool):Prop:= ∀(vZ:ABZ→Option Fa) (zi:ABa→Option LK) (ur:ABb→Option Fc) (g68:ABT→Option Gd) (g69:ABi→Option Jr) (n:Nat) (v:i26.V),Cy ⟨T,Pw [(65,⟨xV,o65,xV.un vZ⟩),(66,⟨i66,o66,i66.un zi⟩),(67,⟨xZ,o67,xZ.un ur⟩),(68,⟨sP,o68,sP.un g68⟩),(69,⟨z8,o69,z8.un g69⟩)],CD [(1,[0,1]),(5,[0,1,2,3,4,5,6,7,8,9,11,13,14,15,16,17,18]),(9,[0,1,2,3,4,5,6,7,8,9,11,12,13,14,16,17,18]),(13,[0,1,2,3,4,5,6,7,8,9,11,12,13,14,15,17,18]),(17,[0,1,2,3,4,5,6,7,8,9,11,12,13,14,15,16,18])]⟩ c26 Tryz.f26 (LN 0 L26 n) ω v=i26.un (fun(p0:ABV)=>
 if 0+p0.1.length≤Go.M.DF then(
 if 0+p0.2.2.2.1.length≤Go.M.DF then(
 (vZ (p0.2.2.2.2.1,p0.2.2.2.2.2.1,())).bind fun u2=>
 if 0+p0.2.2.2.2.2.2.2.2.2.1.length≤Go.M.DF then(
 (CY n) 0 p0.1 p0.2.1 p0.2.2.1 p0.2.2.2.1 p0.2.2.2.2.1 p0.2.2.2.2.2.1 p0.2.2.2.2.2.2.1 p0.2.2.2.2.2.2.2.1 p0.2.2.2.2.2.2.2.2.1 p0.2.2.2.2.2.2.2.2.2.1 p0.2.2.2.2.2.2.2.2.2.2.1 0 0 false [] [] [] [] [] [] [] [] p0.2.1 u2.1.1.2.1 p0.2.2.2.2.2.2.2.2.2.2.1 p0.1 [] p0.2.2.2.1 u2.2.1 [] [] [] p0.2.2.2.2.2.2.2.2.2.1)else none)else none)else none) v
theorem AVB:AG []:=by delta AG;intros;kernel_rfl
theorem AU4:AG (false::[]):=by delta AG;intros;kernel_rfl
theorem AUV:AG (false::false::[]):=by delta AG;intros;kernel_rfl
theorem AWJ:AG (false::false::false::[]):=by delta AG;intros;kernel_rfl
theorem AVx:AG (false::false::false::false::[]):=by delta AG;intros;kernel_rfl
theorem AV3:AG (false::false::false::false::false::[]):=by delta AG;intros;kernel_rfl
theorem ATv(ω:List Bool):AG (false::false::false::false::false::false::ω):=by delta AG;intros;kernel_rfl
theorem ASy:AG (false::false::false::false::false::true::[]):=by delta AG;intros;kernel_rfl
theorem AS0(ω:List Bool):AG (false::false::false::false::false::true::false::ω):=by delta AG;intros;kernel_rfl
theorem AN6(ω:List Bool):AG (false::false::false::false::false::true::true::ω):=by delta AG;intros;kernel_rfl
theorem AMp:AG (false::false::false::false::true::[]):=by delta AG;intros;kernel_rfl
theorem ANQ(ω:List Bool):AG (false::false::false::false::true::false::ω):=by delta AG;intros;kernel_rfl
theorem AOz:AG (false::false::false::false::true::true::[]):=by delta AG;intros;kernel_rfl
theorem ARD(ω:List Bool):AG (false::false::false::false::true::true::false::ω):=by delta AG;intros;kernel_rfl
theorem AQx:AG (false::false::false::false::true::true::true::[]):=by delta AG;intros;kernel_rfl
theorem AO8(ω:List Bool):AG (false::false::false::false::true::true::true::false::ω):=by delta AG;intros;kernel_rfl
theorem ARY:AG (false::false::false::false::true::true::true::true::[]):=by delta AG;intros;kernel_rfl
theorem APt(ω:List Bool):AG (false::false::false::false::true::true::true::true::false::ω):=by delta AG;intros;kernel_rfl
theorem AQF(ω:List Bool):AG (false::false::false::false::true::true::true::true::true::ω):=by delta AG;intros;kernel_rfl
theorem ANo:AG (false::false::false::true::[]):=by delta AG;intros;kernel_rfl
theorem ARU:AG (false::false::false::true::false::[]):=by delta AG;intros;kernel_rfl
theorem ANT:AG (false::false::false::true::false::false::[]):=by delta AG;intros;kernel_rfl
theorem AOi(ω:List Bool):AG (false::false::false::true::false::false::false::ω):=by delta AG;intros;kernel_rfl
theorem APT(ω:List Bool):AG (false::false::false::true::false::false::true::ω):=by delta AG;intros;kernel_rfl
theorem AMu:AG (false::false::false::true::false::true::[]):=by delta AG;intros;kernel_rfl
theorem APG(ω:List Bool):AG (false::false::false::true::false::true::false::ω):=by delta AG;intros;kernel_rfl
theorem AMz:AG (false::false::false::true::false::true::true::[]):=by delta AG;intros;kernel_rfl
theorem AOc(ω:List Bool):AG (false::false::false::true::false::true::true::false::ω):=by delta AG;intros;kernel_rfl
theorem AND:AG (false::false::false::true::false::true::true::true::[]):=by delta AG;intros;kernel_rfl
theorem ANV(ω:List Bool):AG (false::false::false::true::false::true::true::true::false::ω):=by delta AG;intros;kernel_rfl
theorem APF(ω:List Bool):AG (false::false::false::true::false::true::true::true::true::ω):=by delta AG;intros;kernel_rfl
theorem AOv:AG (false::false::false::true::true::[]):=by delta AG;intros;kernel_rfl
theorem AOW(ω:List Bool):AG (false::false::false::true::true::false::ω):=by delta AG;intros;kernel_rfl
theorem AOg:AG (false::false::false::true::true::true::[]):=by delta AG;intros;kernel_rfl
theorem ANS(ω:List Bool):AG (false::false::false::true::true::true::false::ω):=by delta AG;intros;kernel_rfl
theorem APg:AG (false::false::false::true::true::true::true::[]):=by delta AG;intros;kernel_rfl
theorem AOL(ω:List Bool):AG (false::false::false::true::true::true::true::false::ω):=by delta AG;intros;kernel_rfl
theorem APM(ω:List Bool):AG (false::false::false::true::true::true::true::true::ω):=by delta AG;intros;kernel_rfl
theorem AQ2:AG (false::false::true::[]):=by delta AG;intros;kernel_rfl
theorem APP:AG (false::false::true::false::[]):=by delta AG;intros;kernel_rfl
theorem ANg:AG (false::false::true::false::false::[]):=by delta AG;intros;kernel_rfl
theorem AQG(ω:List Bool):AG (false::false::true::false::false::false::ω):=by delta AG;intros;kernel_rfl
theorem AM4:AG (false::false::true::false::false::true::[]):=by delta AG;intros;kernel_rfl
theorem AP9(ω:List Bool):AG (false::false::true::false::false::true::false::ω):=by delta AG;intros;kernel_rfl
theorem AQ_(ω:List Bool):AG (false::false::true::false::false::true::true::ω):=by delta AG;intros;kernel_rfl
theorem ARE:AG (false::false::true::false::true::[]):=by delta AG;intros;kernel_rfl
theorem AOn(ω:List Bool):AG (false::false::true::false::true::false::ω):=by delta AG;intros;kernel_rfl
theorem AMo:AG (false::false::true::false::true::true::[]):=by delta AG;intros;kernel_rfl
theorem AOZ(ω:List Bool):AG (false::false::true::false::true::true::false::ω):=by delta AG;intros;kernel_rfl
theorem AOw:AG (false::false::true::false::true::true::true::[]):=by delta AG;intros;kernel_rfl
theorem AQ4(ω:List Bool):AG (false::false::true::false::true::true::true::false::ω):=by delta AG;intros;kernel_rfl
theorem AQn:AG (false::false::true::false::true::true::true::true::[]):=by delta AG;intros;kernel_rfl
theorem AN4(ω:List Bool):AG (false::false::true::false::true::true::true::true::false::ω):=by delta AG;intros;kernel_rfl
theorem ANb:AG (false::false::true::false::true::true::true::true::true::[]):=by delta AG;intros;kernel_rfl
theorem APJ(ω:List Bool):AG (false::false::true::false::true::true::true::true::true::false::ω):=by delta AG;intros;kernel_rfl
theorem AO4(ω:List Bool):AG (false::false::true::false::true::true::true::true::true::true::ω):=by delta AG;intros;kernel_rfl
theorem AQf:AG (false::false::true::true::[]):=by delta AG;intros;kernel_rfl
theorem AQu:AG (false::false::true::true::false::[]):=by delta AG;intros;kernel_rfl
theorem APC:AG (false::false::true::true::false::false::[]):=by delta AG;intros;kernel_rfl
theorem AMx(ω:List Bool):AG (false::false::true::true::false::false::false::ω):=by delta AG;intros;kernel_rfl
theorem AQ3(ω:List Bool):AG (false::false::true::true::false::false::true::ω):=by delta AG;intros;kernel_rfl
theorem AM5:AG (false::false::true::true::false::true::[]):=by delta AG;intros;kernel_rfl
theorem APc(ω:List Bool):AG (false::false::true::true::false::true::false::ω):=by delta AG;intros;kernel_rfl
theorem AQH:AG (false::false::true::true::false::true::true::[]):=by delta AG;intros;kernel_rfl
theorem ANL(ω:List Bool):AG (false::false::true::true::false::true::true::false::ω):=by delta AG;intros;kernel_rfl
theorem APy:AG (false::false::true::true::false::true::true::true::[]):=by delta AG;intros;kernel_rfl
theorem AOG(ω:List Bool):AG (false::false::true::true::false::true::true::true::false::ω):=by delta AG;intros;kernel_rfl
theorem AP7:AG (false::false::true::true::false::true::true::true::true::[]):=by delta AG;intros;kernel_rfl
theorem AQD(ω:List Bool):AG (false::false::true::true::false::true::true::true::true::false::ω):=by delta AG;intros;kernel_rfl
theorem ANY(ω:List Bool):AG (false::false::true::true::false::true::true::true::true::true::ω):=by delta AG;intros;kernel_rfl
theorem AQO:AG (false::false::true::true::true::[]):=by delta AG;intros;kernel_rfl
theorem AQi(ω:List Bool):AG (false::false::true::true::true::false::ω):=by delta AG;intros;kernel_rfl
theorem ARB:AG (false::false::true::true::true::true::[]):=by delta AG;intros;kernel_rfl
theorem AQa(ω:List Bool):AG (false::false::true::true::true::true::false::ω):=by delta AG;intros;kernel_rfl
theorem APA:AG (false::false::true::true::true::true::true::[]):=by delta AG;intros;kernel_rfl
theorem APj(ω:List Bool):AG (false::false::true::true::true::true::true::false::ω):=by delta AG;intros;kernel_rfl
theorem APh:AG (false::false::true::true::true::true::true::true::[]):=by delta AG;intros;kernel_rfl
theorem AQW(ω:List Bool):AG (false::false::true::true::true::true::true::true::false::ω):=by delta AG;intros;kernel_rfl
theorem API(ω:List Bool):AG (false::false::true::true::true::true::true::true::true::ω):=by delta AG;intros;kernel_rfl
theorem ANi:AG (false::true::[]):=by delta AG;intros;kernel_rfl
theorem AO_:AG (false::true::false::[]):=by delta AG;intros;kernel_rfl
theorem AOC:AG (false::true::false::false::[]):=by delta AG;intros;kernel_rfl
theorem AMf(ω:List Bool):AG (false::true::false::false::false::ω):=by delta AG;intros;kernel_rfl
theorem AQp:AG (false::true::false::false::true::[]):=by delta AG;intros;kernel_rfl
theorem AM7(ω:List Bool):AG (false::true::false::false::true::false::ω):=by delta AG;intros;kernel_rfl
theorem AQo:AG (false::true::false::false::true::true::[]):=by delta AG;intros;kernel_rfl
theorem APk(ω:List Bool):AG (false::true::false::false::true::true::false::ω):=by delta AG;intros;kernel_rfl
theorem AQC:AG (false::true::false::false::true::true::true::[]):=by delta AG;intros;kernel_rfl
theorem AOd(ω:List Bool):AG (false::true::false::false::true::true::true::false::ω):=by delta AG;intros;kernel_rfl
theorem ANP(ω:List Bool):AG (false::true::false::false::true::true::true::true::ω):=by delta AG;intros;kernel_rfl
theorem AM_:AG (false::true::false::true::[]):=by delta AG;intros;kernel_rfl
theorem AOx(ω:List Bool):AG (false::true::false::true::false::ω):=by delta AG;intros;kernel_rfl
theorem AQ9:AG (false::true::false::true::true::[]):=by delta AG;intros;kernel_rfl
theorem APd(ω:List Bool):AG (false::true::false::true::true::false::ω):=by delta AG;intros;kernel_rfl
theorem ARQ:AG (false::true::false::true::true::true::[]):=by delta AG;intros;kernel_rfl
theorem ANX(ω:List Bool):AG (false::true::false::true::true::true::false::ω):=by delta AG;intros;kernel_rfl
theorem APW:AG (false::true::false::true::true::true::true::[]):=by delta AG;intros;kernel_rfl
theorem ANB(ω:List Bool):AG (false::true::false::true::true::true::true::false::ω):=by delta AG;intros;kernel_rfl
theorem AQJ:AG (false::true::false::true::true::true::true::true::[]):=by delta AG;intros;kernel_rfl
theorem AJZ(ω:List Bool):AG (false::true::false::true::true::true::true::true::false::ω):=by delta AG;intros;kernel_rfl
theorem AKC(ω:List Bool):AG (false::true::false::true::true::true::true::true::true::ω):=by delta AG;intros;kernel_rfl
theorem AK8:AG (false::true::true::[]):=by delta AG;intros;kernel_rfl
theorem AHx:AG (false::true::true::false::[]):=by delta AG;intros;kernel_rfl
theorem AG8:AG (false::true::true::false::false::[]):=by delta AG;intros;kernel_rfl
theorem AKn(ω:List Bool):AG (false::true::true::false::false::false::ω):=by delta AG;intros;kernel_rfl
theorem AGY:AG (false::true::true::false::false::true::[]):=by delta AG;intros;kernel_rfl
theorem AGR(ω:List Bool):AG (false::true::true::false::false::true::false::ω):=by delta AG;intros;kernel_rfl
theorem AF0:AG (false::true::true::false::false::true::true::[]):=by delta AG;intros;kernel_rfl
theorem AGx(ω:List Bool):AG (false::true::true::false::false::true::true::false::ω):=by delta AG;intros;kernel_rfl
theorem AJl(ω:List Bool):AG (false::true::true::false::false::true::true::true::ω):=by delta AG;intros;kernel_rfl
theorem AFj:AG (false::true::true::false::true::[]):=by delta AG;intros;kernel_rfl
theorem AId(ω:List Bool):AG (false::true::true::false::true::false::ω):=by delta AG;intros;kernel_rfl
theorem AI7:AG (false::true::true::false::true::true::[]):=by delta AG;intros;kernel_rfl
theorem AHG(ω:List Bool):AG (false::true::true::false::true::true::false::ω):=by delta AG;intros;kernel_rfl
theorem AIZ:AG (false::true::true::false::true::true::true::[]):=by delta AG;intros;kernel_rfl
theorem AII(ω:List Bool):AG (false::true::true::false::true::true::true::false::ω):=by delta AG;intros;kernel_rfl
theorem AJL:AG (false::true::true::false::true::true::true::true::[]):=by delta AG;intros;kernel_rfl
theorem AH2(ω:List Bool):AG (false::true::true::false::true::true::true::true::false::ω):=by delta AG;intros;kernel_rfl
theorem AEs(ω:List Bool):AG (false::true::true::false::true::true::true::true::true::ω):=by delta AG;intros;kernel_rfl
theorem AH0:AG (false::true::true::true::[]):=by delta AG;intros;kernel_rfl
theorem AFy:AG (false::true::true::true::false::[]):=by delta AG;intros;kernel_rfl
theorem AFx:AG (false::true::true::true::false::false::[]):=by delta AG;intros;kernel_rfl
theorem AKv(ω:List Bool):AG (false::true::true::true::false::false::false::ω):=by delta AG;intros;kernel_rfl
theorem AHk:AG (false::true::true::true::false::false::true::[]):=by delta AG;intros;kernel_rfl
theorem AEw(ω:List Bool):AG (false::true::true::true::false::false::true::false::ω):=by delta AG;intros;kernel_rfl
theorem AJQ(ω:List Bool):AG (false::true::true::true::false::false::true::true::ω):=by delta AG;intros;kernel_rfl
theorem AHl:AG (false::true::true::true::false::true::[]):=by delta AG;intros;kernel_rfl
theorem AK0(ω:List Bool):AG (false::true::true::true::false::true::false::ω):=by delta AG;intros;kernel_rfl
theorem AFb:AG (false::true::true::true::false::true::true::[]):=by delta AG;intros;kernel_rfl
theorem AIz(ω:List Bool):AG (false::true::true::true::false::true::true::false::ω):=by delta AG;intros;kernel_rfl
theorem AJP:AG (false::true::true::true::false::true::true::true::[]):=by delta AG;intros;kernel_rfl
theorem AGa(ω:List Bool):AG (false::true::true::true::false::true::true::true::false::ω):=by delta AG;intros;kernel_rfl
theorem AE6(ω:List Bool):AG (false::true::true::true::false::true::true::true::true::ω):=by delta AG;intros;kernel_rfl
theorem AHa:AG (false::true::true::true::true::[]):=by delta AG;intros;kernel_rfl
theorem AI5:AG (false::true::true::true::true::false::[]):=by delta AG;intros;kernel_rfl
theorem AFr:AG (false::true::true::true::true::false::false::[]):=by delta AG;intros;kernel_rfl
theorem AIa(ω:List Bool):AG (false::true::true::true::true::false::false::false::ω):=by delta AG;intros;kernel_rfl
theorem AHO(ω:List Bool):AG (false::true::true::true::true::false::false::true::ω):=by delta AG;intros;kernel_rfl
theorem AHy:AG (false::true::true::true::true::false::true::[]):=by delta AG;intros;kernel_rfl
theorem AFW(ω:List Bool):AG (false::true::true::true::true::false::true::false::ω):=by delta AG;intros;kernel_rfl
theorem AIJ:AG (false::true::true::true::true::false::true::true::[]):=by delta AG;intros;kernel_rfl
theorem AHX(ω:List Bool):AG (false::true::true::true::true::false::true::true::false::ω):=by delta AG;intros;kernel_rfl
theorem AFQ(ω:List Bool):AG (false::true::true::true::true::false::true::true::true::ω):=by delta AG;intros;kernel_rfl
theorem AKP:AG (false::true::true::true::true::true::[]):=by delta AG;intros;kernel_rfl
theorem AHp(ω:List Bool):AG (false::true::true::true::true::true::false::ω):=by delta AG;intros;kernel_rfl
theorem AGK:AG (false::true::true::true::true::true::true::[]):=by delta AG;intros;kernel_rfl
theorem AHe(ω:List Bool):AG (false::true::true::true::true::true::true::false::ω):=by delta AG;intros;kernel_rfl
theorem AF3(ω:List Bool):AG (false::true::true::true::true::true::true::true::ω):=by delta AG;intros;kernel_rfl
theorem AJb:AG (true::[]):=by delta AG;intros;kernel_rfl
theorem AJ9:AG (true::false::[]):=by delta AG;intros;kernel_rfl
theorem AI_:AG (true::false::false::[]):=by delta AG;intros;kernel_rfl
theorem AFS:AG (true::false::false::false::[]):=by delta AG;intros;kernel_rfl
theorem AIb:AG (true::false::false::false::false::[]):=by delta AG;intros;kernel_rfl
theorem AJN:AG (true::false::false::false::false::false::[]):=by delta AG;intros;kernel_rfl
theorem AJx(ω:List Bool):AG (true::false::false::false::false::false::false::ω):=by delta AG;intros;kernel_rfl
theorem AHV(ω:List Bool):AG (true::false::false::false::false::false::true::ω):=by delta AG;intros;kernel_rfl
theorem AJI:AG (true::false::false::false::false::true::[]):=by delta AG;intros;kernel_rfl
theorem AIe(ω:List Bool):AG (true::false::false::false::false::true::false::ω):=by delta AG;intros;kernel_rfl
theorem AJ_:AG (true::false::false::false::false::true::true::[]):=by delta AG;intros;kernel_rfl
theorem AFX(ω:List Bool):AG (true::false::false::false::false::true::true::false::ω):=by delta AG;intros;kernel_rfl
theorem AKd:AG (true::false::false::false::false::true::true::true::[]):=by delta AG;intros;kernel_rfl
theorem AHc(ω:List Bool):AG (true::false::false::false::false::true::true::true::false::ω):=by delta AG;intros;kernel_rfl
theorem AGW(ω:List Bool):AG (true::false::false::false::false::true::true::true::true::ω):=by delta AG;intros;kernel_rfl
theorem AHM:AG (true::false::false::false::true::[]):=by delta AG;intros;kernel_rfl
theorem AKx(ω:List Bool):AG (true::false::false::false::true::false::ω):=by delta AG;intros;kernel_rfl
theorem AFk:AG (true::false::false::false::true::true::[]):=by delta AG;intros;kernel_rfl
theorem AJK(ω:List Bool):AG (true::false::false::false::true::true::false::ω):=by delta AG;intros;kernel_rfl
theorem AJ2:AG (true::false::false::false::true::true::true::[]):=by delta AG;intros;kernel_rfl
theorem AIP(ω:List Bool):AG (true::false::false::false::true::true::true::false::ω):=by delta AG;intros;kernel_rfl
theorem AKD(ω:List Bool):AG (true::false::false::false::true::true::true::true::ω):=by delta AG;intros;kernel_rfl
theorem AGf:AG (true::false::false::true::[]):=by delta AG;intros;kernel_rfl
theorem AH4:AG (true::false::false::true::false::[]):=by delta AG;intros;kernel_rfl
theorem AFL:AG (true::false::false::true::false::false::[]):=by delta AG;intros;kernel_rfl
theorem AEx(ω:List Bool):AG (true::false::false::true::false::false::false::ω):=by delta AG;intros;kernel_rfl
theorem AKG(ω:List Bool):AG (true::false::false::true::false::false::true::ω):=by delta AG;intros;kernel_rfl
theorem AH3:AG (true::false::false::true::false::true::[]):=by delta AG;intros;kernel_rfl
theorem AFR(ω:List Bool):AG (true::false::false::true::false::true::false::ω):=by delta AG;intros;kernel_rfl
theorem AKI:AG (true::false::false::true::false::true::true::[]):=by delta AG;intros;kernel_rfl
theorem AIk(ω:List Bool):AG (true::false::false::true::false::true::true::false::ω):=by delta AG;intros;kernel_rfl
theorem AG9:AG (true::false::false::true::false::true::true::true::[]):=by delta AG;intros;kernel_rfl
theorem AGN(ω:List Bool):AG (true::false::false::true::false::true::true::true::false::ω):=by delta AG;intros;kernel_rfl
theorem AIi:AG (true::false::false::true::false::true::true::true::true::[]):=by delta AG;intros;kernel_rfl
theorem AGw(ω:List Bool):AG (true::false::false::true::false::true::true::true::true::false::ω):=by delta AG;intros;kernel_rfl
theorem AKi(ω:List Bool):AG (true::false::false::true::false::true::true::true::true::true::ω):=by delta AG;intros;kernel_rfl
theorem AKy:AG (true::false::false::true::true::[]):=by delta AG;intros;kernel_rfl
theorem AKQ(ω:List Bool):AG (true::false::false::true::true::false::ω):=by delta AG;intros;kernel_rfl
theorem AGF:AG (true::false::false::true::true::true::[]):=by delta AG;intros;kernel_rfl
theorem AEt(ω:List Bool):AG (true::false::false::true::true::true::false::ω):=by delta AG;intros;kernel_rfl
theorem AIF:AG (true::false::false::true::true::true::true::[]):=by delta AG;intros;kernel_rfl
theorem AHd(ω:List Bool):AG (true::false::false::true::true::true::true::false::ω):=by delta AG;intros;kernel_rfl
theorem AHn:AG (true::false::false::true::true::true::true::true::[]):=by delta AG;intros;kernel_rfl
theorem AKq(ω:List Bool):AG (true::false::false::true::true::true::true::true::false::ω):=by delta AG;intros;kernel_rfl
theorem AHg(ω:List Bool):AG (true::false::false::true::true::true::true::true::true::ω):=by delta AG;intros;kernel_rfl
theorem AK9:AG (true::false::true::[]):=by delta AG;intros;kernel_rfl
theorem AID:AG (true::false::true::false::[]):=by delta AG;intros;kernel_rfl
theorem AFA:AG (true::false::true::false::false::[]):=by delta AG;intros;kernel_rfl
theorem AH6(ω:List Bool):AG (true::false::true::false::false::false::ω):=by delta AG;intros;kernel_rfl
theorem AJp:AG (true::false::true::false::false::true::[]):=by delta AG;intros;kernel_rfl
theorem AEy(ω:List Bool):AG (true::false::true::false::false::true::false::ω):=by delta AG;intros;kernel_rfl
theorem AHh:AG (true::false::true::false::false::true::true::[]):=by delta AG;intros;kernel_rfl
theorem AIK(ω:List Bool):AG (true::false::true::false::false::true::true::false::ω):=by delta AG;intros;kernel_rfl
theorem AF2(ω:List Bool):AG (true::false::true::false::false::true::true::true::ω):=by delta AG;intros;kernel_rfl
theorem AJn:AG (true::false::true::false::true::[]):=by delta AG;intros;kernel_rfl
theorem AIC(ω:List Bool):AG (true::false::true::false::true::false::ω):=by delta AG;intros;kernel_rfl
theorem AKp:AG (true::false::true::false::true::true::[]):=by delta AG;intros;kernel_rfl
theorem AH9(ω:List Bool):AG (true::false::true::false::true::true::false::ω):=by delta AG;intros;kernel_rfl
theorem AH_:AG (true::false::true::false::true::true::true::[]):=by delta AG;intros;kernel_rfl
theorem AGi(ω:List Bool):AG (true::false::true::false::true::true::true::false::ω):=by delta AG;intros;kernel_rfl
theorem AGm:AG (true::false::true::false::true::true::true::true::[]):=by delta AG;intros;kernel_rfl
theorem AJS(ω:List Bool):AG (true::false::true::false::true::true::true::true::false::ω):=by delta AG;intros;kernel_rfl
theorem AFG(ω:List Bool):AG (true::false::true::false::true::true::true::true::true::ω):=by delta AG;intros;kernel_rfl
theorem AJ6:AG (true::false::true::true::[]):=by delta AG;intros;kernel_rfl
theorem AJw:AG (true::false::true::true::false::[]):=by delta AG;intros;kernel_rfl
theorem AE3:AG (true::false::true::true::false::false::[]):=by delta AG;intros;kernel_rfl
theorem AE1(ω:List Bool):AG (true::false::true::true::false::false::false::ω):=by delta AG;intros;kernel_rfl
theorem AHi:AG (true::false::true::true::false::false::true::[]):=by delta AG;intros;kernel_rfl
theorem AHo(ω:List Bool):AG (true::false::true::true::false::false::true::false::ω):=by delta AG;intros;kernel_rfl
theorem AHr(ω:List Bool):AG (true::false::true::true::false::false::true::true::ω):=by delta AG;intros;kernel_rfl
theorem AFt:AG (true::false::true::true::false::true::[]):=by delta AG;intros;kernel_rfl
theorem AGr(ω:List Bool):AG (true::false::true::true::false::true::false::ω):=by delta AG;intros;kernel_rfl
theorem AIq:AG (true::false::true::true::false::true::true::[]):=by delta AG;intros;kernel_rfl
theorem AIn(ω:List Bool):AG (true::false::true::true::false::true::true::false::ω):=by delta AG;intros;kernel_rfl
theorem AIp:AG (true::false::true::true::false::true::true::true::[]):=by delta AG;intros;kernel_rfl
theorem AIo(ω:List Bool):AG (true::false::true::true::false::true::true::true::false::ω):=by delta AG;intros;kernel_rfl
theorem AJW(ω:List Bool):AG (true::false::true::true::false::true::true::true::true::ω):=by delta AG;intros;kernel_rfl
theorem AIH:AG (true::false::true::true::true::[]):=by delta AG;intros;kernel_rfl
theorem AHT:AG (true::false::true::true::true::false::[]):=by delta AG;intros;kernel_rfl
theorem AHF:AG (true::false::true::true::true::false::false::[]):=by delta AG;intros;kernel_rfl
theorem AK3(ω:List Bool):AG (true::false::true::true::true::false::false::false::ω):=by delta AG;intros;kernel_rfl
theorem AI9(ω:List Bool):AG (true::false::true::true::true::false::false::true::ω):=by delta AG;intros;kernel_rfl
theorem AIX:AG (true::false::true::true::true::false::true::[]):=by delta AG;intros;kernel_rfl
theorem AJh(ω:List Bool):AG (true::false::true::true::true::false::true::false::ω):=by delta AG;intros;kernel_rfl
theorem AKh:AG (true::false::true::true::true::false::true::true::[]):=by delta AG;intros;kernel_rfl
theorem AJa(ω:List Bool):AG (true::false::true::true::true::false::true::true::false::ω):=by delta AG;intros;kernel_rfl
theorem AIj(ω:List Bool):AG (true::false::true::true::true::false::true::true::true::ω):=by delta AG;intros;kernel_rfl
theorem AG3:AG (true::false::true::true::true::true::[]):=by delta AG;intros;kernel_rfl
theorem AFz(ω:List Bool):AG (true::false::true::true::true::true::false::ω):=by delta AG;intros;kernel_rfl
theorem AKc:AG (true::false::true::true::true::true::true::[]):=by delta AG;intros;kernel_rfl
theorem AKf(ω:List Bool):AG (true::false::true::true::true::true::true::false::ω):=by delta AG;intros;kernel_rfl
theorem AIs(ω:List Bool):AG (true::false::true::true::true::true::true::true::ω):=by delta AG;intros;kernel_rfl
theorem AJq:AG (true::true::[]):=by delta AG;intros;kernel_rfl
theorem AI8:AG (true::true::false::[]):=by delta AG;intros;kernel_rfl
theorem AJi:AG (true::true::false::false::[]):=by delta AG;intros;kernel_rfl
theorem AG4(ω:List Bool):AG (true::true::false::false::false::ω):=by delta AG;intros;kernel_rfl
theorem AHs:AG (true::true::false::false::true::[]):=by delta AG;intros;kernel_rfl
theorem AKm(ω:List Bool):AG (true::true::false::false::true::false::ω):=by delta AG;intros;kernel_rfl
theorem AF1:AG (true::true::false::false::true::true::[]):=by delta AG;intros;kernel_rfl
theorem AGL(ω:List Bool):AG (true::true::false::false::true::true::false::ω):=by delta AG;intros;kernel_rfl
theorem AGv(ω:List Bool):AG (true::true::false::false::true::true::true::ω):=by delta AG;intros;kernel_rfl
theorem AKj:AG (true::true::false::true::[]):=by delta AG;intros;kernel_rfl
theorem AJO(ω:List Bool):AG (true::true::false::true::false::ω):=by delta AG;intros;kernel_rfl
theorem AF5:AG (true::true::false::true::true::[]):=by delta AG;intros;kernel_rfl
theorem AHW(ω:List Bool):AG (true::true::false::true::true::false::ω):=by delta AG;intros;kernel_rfl
theorem AH8:AG (true::true::false::true::true::true::[]):=by delta AG;intros;kernel_rfl
theorem AI1(ω:List Bool):AG (true::true::false::true::true::true::false::ω):=by delta AG;intros;kernel_rfl
theorem AGS:AG (true::true::false::true::true::true::true::[]):=by delta AG;intros;kernel_rfl
theorem AI3(ω:List Bool):AG (true::true::false::true::true::true::true::false::ω):=by delta AG;intros;kernel_rfl
theorem AK5(ω:List Bool):AG (true::true::false::true::true::true::true::true::ω):=by delta AG;intros;kernel_rfl
theorem AH1:AG (true::true::true::[]):=by delta AG;intros;kernel_rfl
theorem AJ0:AG (true::true::true::false::[]):=by delta AG;intros;kernel_rfl
theorem AKt:AG (true::true::true::false::false::[]):=by delta AG;intros;kernel_rfl
theorem AFq(ω:List Bool):AG (true::true::true::false::false::false::ω):=by delta AG;intros;kernel_rfl
theorem AFv:AG (true::true::true::false::false::true::[]):=by delta AG;intros;kernel_rfl
theorem AGk(ω:List Bool):AG (true::true::true::false::false::true::false::ω):=by delta AG;intros;kernel_rfl
theorem AIY(ω:List Bool):AG (true::true::true::false::false::true::true::ω):=by delta AG;intros;kernel_rfl
theorem AK1:AG (true::true::true::false::true::[]):=by delta AG;intros;kernel_rfl
theorem AIx(ω:List Bool):AG (true::true::true::false::true::false::ω):=by delta AG;intros;kernel_rfl
theorem AKO:AG (true::true::true::false::true::true::[]):=by delta AG;intros;kernel_rfl
theorem AJE(ω:List Bool):AG (true::true::true::false::true::true::false::ω):=by delta AG;intros;kernel_rfl
theorem AJ5:AG (true::true::true::false::true::true::true::[]):=by delta AG;intros;kernel_rfl
theorem AJc(ω:List Bool):AG (true::true::true::false::true::true::true::false::ω):=by delta AG;intros;kernel_rfl
theorem AHP(ω:List Bool):AG (true::true::true::false::true::true::true::true::ω):=by delta AG;intros;kernel_rfl
theorem AFa:AG (true::true::true::true::[]):=by delta AG;intros;kernel_rfl
theorem AIR:AG (true::true::true::true::false::[]):=by delta AG;intros;kernel_rfl
theorem AGl:AG (true::true::true::true::false::false::[]):=by delta AG;intros;kernel_rfl
theorem AG_(ω:List Bool):AG (true::true::true::true::false::false::false::ω):=by delta AG;intros;kernel_rfl
theorem AGD(ω:List Bool):AG (true::true::true::true::false::false::true::ω):=by delta AG;intros;kernel_rfl
theorem AJd:AG (true::true::true::true::false::true::[]):=by delta AG;intros;kernel_rfl
theorem AJe(ω:List Bool):AG (true::true::true::true::false::true::false::ω):=by delta AG;intros;kernel_rfl
theorem AKw:AG (true::true::true::true::false::true::true::[]):=by delta AG;intros;kernel_rfl
theorem AHz(ω:List Bool):AG (true::true::true::true::false::true::true::false::ω):=by delta AG;intros;kernel_rfl
theorem AKN(ω:List Bool):AG (true::true::true::true::false::true::true::true::ω):=by delta AG;intros;kernel_rfl
theorem AJR:AG (true::true::true::true::true::[]):=by delta AG;intros;kernel_rfl
theorem AFN(ω:List Bool):AG (true::true::true::true::true::false::ω):=by delta AG;intros;kernel_rfl
theorem AHK:AG (true::true::true::true::true::true::[]):=by delta AG;intros;kernel_rfl
theorem AFJ(ω:List Bool):AG (true::true::true::true::true::true::false::ω):=by delta AG;intros;kernel_rfl
theorem AGQ(ω:List Bool):AG (true::true::true::true::true::true::true::ω):=by delta AG;intros;kernel_rfl
theorem b26(vZ:ABZ→Option Fa)(zi:ABa→Option LK)(ur:ABb→Option Fc)(g68:ABT→Option Gd)(g69:ABi→Option Jr)(n:Nat)(ω:List Bool)(v:i26.V):Cy ⟨T,Pw [(65,⟨xV,o65,xV.un vZ⟩),(66,⟨i66,o66,i66.un zi⟩),(67,⟨xZ,o67,xZ.un ur⟩),(68,⟨sP,o68,sP.un g68⟩),(69,⟨z8,o69,z8.un g69⟩)],CD [(1,[0,1]),(5,[0,1,2,3,4,5,6,7,8,9,11,13,14,15,16,17,18]),(9,[0,1,2,3,4,5,6,7,8,9,11,12,13,14,16,17,18]),(13,[0,1,2,3,4,5,6,7,8,9,11,12,13,14,15,17,18]),(17,[0,1,2,3,4,5,6,7,8,9,11,12,13,14,15,16,18])]⟩ c26 Tryz.f26 (LN 0 L26 n) ω v=i26.un (fun(p0:ABV)=>
 if 0+p0.1.length≤Go.M.DF then(
 if 0+p0.2.2.2.1.length≤Go.M.DF then(
 (vZ (p0.2.2.2.2.1,p0.2.2.2.2.2.1,())).bind fun u2=>
 if 0+p0.2.2.2.2.2.2.2.2.2.1.length≤Go.M.DF then(
 (CY n) 0 p0.1 p0.2.1 p0.2.2.1 p0.2.2.2.1 p0.2.2.2.2.1 p0.2.2.2.2.2.1 p0.2.2.2.2.2.2.1 p0.2.2.2.2.2.2.2.1 p0.2.2.2.2.2.2.2.2.1 p0.2.2.2.2.2.2.2.2.2.1 p0.2.2.2.2.2.2.2.2.2.2.1 0 0 false [] [] [] [] [] [] [] [] p0.2.1 u2.1.1.2.1 p0.2.2.2.2.2.2.2.2.2.2.1 p0.1 [] p0.2.2.2.1 u2.2.1 [] [] [] p0.2.2.2.2.2.2.2.2.2.1)else none)else none)else none) v:=(AF AVB (AF AU4 (AF AUV (AF AWJ (AF AVx (AF AV3 ATv (AF ASy AS0 AN6)) (AF AMp ANQ (AF AOz ARD (AF AQx AO8 (AF ARY APt AQF))))) (AF ANo (AF ARU (AF ANT AOi APT) (AF AMu APG (AF AMz AOc (AF AND ANV APF)))) (AF AOv AOW (AF AOg ANS (AF APg AOL APM))))) (AF AQ2 (AF APP (AF ANg AQG (AF AM4 AP9 AQ_)) (AF ARE AOn (AF AMo AOZ (AF AOw AQ4 (AF AQn AN4 (AF ANb APJ AO4)))))) (AF AQf (AF AQu (AF APC AMx AQ3) (AF AM5 APc (AF AQH ANL (AF APy AOG (AF AP7 AQD ANY))))) (AF AQO AQi (AF ARB AQa (AF APA APj (AF APh AQW API))))))) (AF ANi (AF AO_ (AF AOC AMf (AF AQp AM7 (AF AQo APk (AF AQC AOd ANP)))) (AF AM_ AOx (AF AQ9 APd (AF ARQ ANX (AF APW ANB (AF AQJ AJZ AKC)))))) (AF AK8 (AF AHx (AF AG8 AKn (AF AGY AGR (AF AF0 AGx AJl))) (AF AFj AId (AF AI7 AHG (AF AIZ AII (AF AJL AH2 AEs))))) (AF AH0 (AF AFy (AF AFx AKv (AF AHk AEw AJQ)) (AF AHl AK0 (AF AFb AIz (AF AJP AGa AE6)))) (AF AHa (AF AI5 (AF AFr AIa AHO) (AF AHy AFW (AF AIJ AHX AFQ))) (AF AKP AHp (AF AGK AHe AF3))))))) (AF AJb (AF AJ9 (AF AI_ (AF AFS (AF AIb (AF AJN AJx AHV) (AF AJI AIe (AF AJ_ AFX (AF AKd AHc AGW)))) (AF AHM AKx (AF AFk AJK (AF AJ2 AIP AKD)))) (AF AGf (AF AH4 (AF AFL AEx AKG) (AF AH3 AFR (AF AKI AIk (AF AG9 AGN (AF AIi AGw AKi))))) (AF AKy AKQ (AF AGF AEt (AF AIF AHd (AF AHn AKq AHg)))))) (AF AK9 (AF AID (AF AFA AH6 (AF AJp AEy (AF AHh AIK AF2))) (AF AJn AIC (AF AKp AH9 (AF AH_ AGi (AF AGm AJS AFG))))) (AF AJ6 (AF AJw (AF AE3 AE1 (AF AHi AHo AHr)) (AF AFt AGr (AF AIq AIn (AF AIp AIo AJW)))) (AF AIH (AF AHT (AF AHF AK3 AI9) (AF AIX AJh (AF AKh AJa AIj))) (AF AG3 AFz (AF AKc AKf AIs)))))) (AF AJq (AF AI8 (AF AJi AG4 (AF AHs AKm (AF AF1 AGL AGv))) (AF AKj AJO (AF AF5 AHW (AF AH8 AI1 (AF AGS AI3 AK5))))) (AF AH1 (AF AJ0 (AF AKt AFq (AF AFv AGk AIY)) (AF AK1 AIx (AF AKO AJE (AF AJ5 AJc AHP)))) (AF AFa (AF AIR (AF AGl AG_ AGD) (AF AJd AJe (AF AKw AHz AKN))) (AF AJR AFN (AF AHK AFJ AGQ))))))) ω vZ zi ur g68 g69 n v
theorem e26(n:Nat)(ω:List Bool)(v:i26.V):Cy C26 c26 Tryz.f26 (LN 0 L26 n) ω v=i26.un (Qt (CY n) (Cp n) (CV n) (CT n)) v:=b26 GI Ej EO EL CO n ω v
def s26:SQ:=mk Tryz.func26 i26 o26 O7 [s65,s66,s67,s68,s69] [(1,[0,1]),(5,[0,1,2,3,4,5,6,7,8,9,11,13,14,15,16,17,18]),(9,[0,1,2,3,4,5,6,7,8,9,11,12,13,14,16,17,18]),(13,[0,1,2,3,4,5,6,7,8,9,11,12,13,14,15,17,18]),(17,[0,1,2,3,4,5,6,7,8,9,11,12,13,14,15,16,18])] L26 (hJ:= .cons (fun _=>rfl) ATF (.cons (fun _=>rfl) AUr (.cons (fun _=>rfl) AQZ (.cons (fun _=>rfl) AMw (.nil))))) (he:=e26 Ab)
def AVI:SQ:=mk Tryz.func186 Fe dM OY [qN] [] [⟨3,⟨[(0,BM),(3,qK),(4,BM)],s7⟩,IJ⟩]
abbrev xP:BE:=AMb
abbrev AO6:BE:=ALG
def ASx:QB:=⟨xP,AO6,(xP.un Ms)⟩
def AX7:Zo:=⟨T,Pw (SP.l [s65,yR,s76]),CD [(6,[0,1,2])]⟩
def ARP:List (Lp AO6):=[]
theorem AZS(vZ:ABZ→Option Fa)(g72:ABA→List Int→Option jE)(g76:ABA→ABZ→Option SI)(n:Nat)(ω:List Bool)(v:xP.V):Cy ⟨T,Pw [(65,⟨xV,o65,xV.un vZ⟩),(72,⟨i72,o72,i72.un g72⟩),(76,⟨i76,o76,i76.un g76⟩)],CD [(6,[0,1,2])]⟩ ASx Tryz.f185 (LN 0 ARP n) ω v=xP.un (fun(p0:ABA) (p1:ABZ) (p2:AAF)=>
 (g76 (p0.1,p0.2.1,()) (p1.1,p1.2.1,())).bind fun u1=>
 cond (!u1.1.1)
  (some (((((),0,()),0,false,()),()),([],())))
 ((vZ (p1.1,p1.2.1,())).bind fun u2=>
 (g72 (p0.1,p0.2.1,()) p2).bind fun u3=>
 cond (!u3.1.1)
  (some (((((),u2.1.1.2.1,()),0,false,()),()),(u2.2.1,())))
 (cond (((p1.1.length:Int)==30))
  (some (((((),u2.1.1.2.1,()),0,false,()),()),(u2.2.1,())))
 (if 0+p2.length≤Go.M.DF then(
 if u2.2.1.length+1≤Go.M.DF then(
 let x5:AAP:=u2.2.1++[(p2,false,0,())]
 some (((((),u2.1.1.2.1,()),(x5.length:Int),true,()),()),(x5,())))else none)else none)))) v:=by rcases ω with _|⟨_|_,_|⟨_|_,_|⟨_|_,_|⟨_|_,_|⟨_|_,_⟩⟩⟩⟩⟩<;>kernel_rfl
theorem AY9(n:Nat)(ω:List Bool)(v:xP.V):Cy AX7 ASx Tryz.f185 (LN 0 ARP n) ω v=xP.un (Ms) v:=AZS GI Em Mz n ω v
def AV_:SQ:=mk Tryz.func185 xP AO6 Ms [s65,yR,s76] [(6,[0,1,2])] ARP (hJ:= .nil) (he:=AY9 Ab)
def AXU:SQ:=mk Tryz.func106 bo ⟨[(0,.Nr [.inr [.ref 0,.v tI,.ref 1,.ref 2,.ref 8,.v tI,.ref 9,.ref 10,.ref 6,.ref 7,.v .bool],.inl (.v tI)])],[DC,Wl,DC,Iw,Iw,Iw,Nk,KB,MW,Tm,TE]⟩ Wh [AV_,AVI] [(3,[0,1,2,3,4,5,6,7,8,9,10])] [] (he:=fun ω v=>by rcases ω with _|⟨_|_,_|⟨_|_,_⟩⟩<;>kernel_rfl)
def AO1:SQ:=mk Tryz.func187 yT Cn L_ [qN] [] []
abbrev xS:BE:=AMB
abbrev AOO:BE:=ALL
def ATt:QB:=⟨xS,AOO,(xS.un Gp)⟩
def AXo:Zo:=⟨T,Pw (SP.l [s67,s77]),CD []⟩
def AQ0:List (Lp AOO):=[]
theorem AY6(ur:ABb→Option Fc)(g77:ABA→ABb→Option NK)(n:Nat)(ω:List Bool)(v:xS.V):Cy ⟨T,Pw [(67,⟨xZ,o67,xZ.un ur⟩),(77,⟨i77,o77,i77.un g77⟩)],CD []⟩ ATt Tryz.f188 (LN 0 AQ0 n) ω v=xS.un (fun(p0:ABA) (p1:ABb) (p2:ABY)=>
 (g77 (p0.1,p0.2.1,()) (p1.1,p1.2.1,())).bind fun u1=>
 cond (!u1.1.1)
  (some ((((0,(),()),0,false,()),()),([],())))
 ((ur (p1.1,p1.2.1,())).bind fun u2=>
 if u2.2.1.length+1≤Go.M.DF then(
 let x3:ABX:=u2.2.1++[(p2,[],false,())]
 (g77 (p0.1,p0.2.1,()) (u2.1.1.1,x3,())).bind fun u4=>
 cond (!u4.1.1)
  ((ur (p1.1,p1.2.1,())).bind fun u5=>
  some ((((u5.1.1.1,(),()),0,false,()),()),(u5.2.1,())))
 (some ((((u2.1.1.1,(),()),(x3.length:Int),true,()),()),(x3,()))))else none)) v:=by rcases ω with _|⟨_|_,_|⟨_|_,_⟩⟩<;>kernel_rfl
theorem AYa(n:Nat)(ω:List Bool)(v:xS.V):Cy AXo ATt Tryz.f188 (LN 0 AQ0 n) ω v=xS.un (Gp) v:=AY6 EO Hj n ω v
def AUQ:SQ:=mk Tryz.func188 xS AOO Gp [s67,s77] [] AQ0 (hJ:= .nil) (he:=AYa Ab)
abbrev i138:BE:=lp
abbrev vV:BE:=Fe
def o9:SQ:=mk Tryz.func138 i138 vV CZ [] [] []
def Aaj:SQ:=mk Tryz.func107 bo ⟨[(0,.Nr [.inr [.ref 0,.v tI,.ref 1,.ref 2,.ref 3,.v tI,.ref 4,.ref 5,.ref 6,.ref 8,.v .bool],.inl (.v tI)])],[DC,Wl,DC,MW,Tm,TE,Nk,Iw,KB]⟩ YZ [o9,AO1,AUQ] [(3,[0,1,2,3,4,5,6,7,8,9,10]),(7,[0,1,2,3,4,5,6,7,8,9,10]),(11,[0,1,2,3,4,5,6,7,8,9,10,11,12,13,14,15,16,17,18]),(18,[0,1,2,3,4,5,6,7,8,9,10,11,12,13,14,15,16,17,18,19])] [⟨9,⟨[(2,gQ),(4,cW),(9,mE),(10,BM)],[DC,Wl,DC,MW,Tm,TE,Nk,KB,rB,qZ,GJ,cX,GJ,SE,cQ,cS,cU,ag,ATC]⟩,MS⟩,⟨16,⟨[(2,gQ),(4,cW),(9,mE),(11,.c (.ref 19)),(12,xP0),(13,BM)],[DC,Wl,DC,MW,Tm,TE,Nk,KB,rB,qZ,GJ,cX,GJ,SE,cQ,cS,cU,ag,ATC,ag]⟩,KW⟩] (he:=fun ω v=>by rcases ω with _|⟨_|_,_|⟨_|_,_|⟨_|_,_⟩⟩⟩<;>kernel_rfl)
def xJ:SQ:=mk Tryz.func189 yT Fe Hl [s74,qN] [] []
def AaS:SQ:=mk Tryz.func255 ACg Cn WX [s82] [(2,[0,1])] []
def AN_:SQ:=mk Tryz.func190 ACg sH NX [s66,s73,AJu,AaS] [] []
def AXq:SQ:=mk Tryz.func108 bo rO UH [s74,qN,o9,wF,AO1,xJ,AN_] [(9,[0,1,2,3,4,5,6,7,8,9,10,11]),(11,[0,1,2,3,4,5,6,7,8,9,10,11,12])] [] (he:=fun ω v=>by rcases ω with _|⟨_|_,_|⟨_|_,_⟩⟩<;>kernel_rfl)
def ATj:SQ:=mk Tryz.func282 AMI AMM RX [] [] []
def ANN:SQ:=mk Tryz.func259 ⟨[(0,X8),(1,.row Y1)],[]⟩ uu RN [ATj] [(6,[0,1]),(7,[0]),(9,[0,1])] [⟨4,⟨[(0,X8),(3,J5),(5,xP7),(6,xP0),(7,BM)],[AAQ,JV]⟩,Ju⟩]
def ASv:SQ:=mk Tryz.func208 jI sH NF [s66,s73,qN,ANN] [(3,[0,1]),(8,[0,1,2,3,5,6])] [⟨5,ALd,Jf⟩] (he:=fun ω v=>by rcases ω with _|⟨_|_,_|⟨_|_,_⟩⟩<;>kernel_rfl)
def AOI:SQ:=mk Tryz.func191 lO sH Jx [ASv] [] []
abbrev fi:BE:=AD0
abbrev wA:BE:=wO
def AKE:SQ:=mk Tryz.func256 fi wA HP [] [] [⟨2,⟨[(0,X8),(1,BM),(4,J5),(6,BM)],[AAQ]⟩,Py⟩]
abbrev i222:BE:=AL0
abbrev u_:BE:=ALl
def APZ:SQ:=mk Tryz.func222 i222 u_ Dk [s67,yR,s77,qN,w6] [(6,[0,1,2,4]),(7,[0,1,2,4])] []
def AZQ:SQ:=mk Tryz.func262 lp o5 Sk [qN] [] []
abbrev gG:BE:=ALu
abbrev wI:BE:=wO
def AQE:SQ:=mk Tryz.func202 gG wI Eo [AKE,AZQ] [] []
abbrev VT:BE:=AL5
abbrev kj:BE:=vM
def ALC:SQ:=mk Tryz.func224 VT kj EX [s68,s78,qN,w6] [(6,[0,1,2,3,4,6])] []
abbrev wm:BE:=⟨[(0,AQh),(1,BM)],[DC,Ul,DC,MW,Tm,TE,Nk,KB]⟩
abbrev ANZ:BE:=⟨AOh,AMV⟩
def ju:QB:=⟨wm,ANZ,(wm.un WE)⟩
def AA_:Zo:=⟨T,Pw (SP.l [s74,s82,o9,wF,AQE,APZ,ALC,AGh,AKE]),CD [(10,[0,1,2,3,4,5,6,7,8,9,10,11]),(18,[0,1,2,3,4,5,6,7,8,9,10,11,12,13,14,15,16,17,18,19])]⟩
def iA:List (Lp ANZ):=[⟨3,⟨[(1,BM),(2,gQ),(4,cW),(5,mE),(6,BM)],[DC,Ul,DC,MW,dW,TE,Nk,KB,rB,qZ,GJ,cX,GJ,SE,cQ,cS,cU,ag,xg]⟩,Bd⟩,⟨8,⟨[(1,BM),(2,gQ),(4,cW),(5,mE),(6,BM),(7,jw),(8,BM),(46,.c (.ptr 18 2)),(47,BM),(48,jw),(49,BM),(50,xP0)],yX⟩,A9⟩,⟨15,⟨[(1,BM),(2,gQ),(4,cW),(5,mE),(6,BM),(7,jw),(11,BM),(46,.c (.ptr 18 2)),(47,BM),(48,jw),(49,BM),(50,xP0)],yX⟩,A_⟩,⟨21,⟨[(1,BM),(2,gQ),(4,cW),(5,mE),(13,BM)],[DC,Ul,DC,MW,dW,om,Nk,KB,rB,qZ,GJ,cX,GJ,SE,cQ,cS,cU,ag,xg]⟩,Bf⟩,⟨25,⟨[(1,BM),(2,gQ),(4,cW),(5,mE),(13,BM),(14,jw),(15,BM)],[DC,Ul,DC,MW,dW,om,Nk,KB,rB,qZ,GJ,cX,GJ,SE,cQ,cS,cU,ag,xg,.mem [.v tI,.v tI,.sl true tI,.sl true Y1,.v .bool,.sl true (.sl tI)]]⟩,BZ⟩]
abbrev jk:BE:=⟨[(1,BM),(2,gQ),(4,cW),(5,mE),(6,BM)],[DC,Ul,DC,MW,dW,TE,Nk,KB,rB,qZ,GJ,cX,GJ,SE,cQ,cS,cU,ag,xg]⟩
abbrev bO:BE:=⟨[(1,BM),(2,gQ),(4,cW),(5,mE),(6,BM),(7,jw),(8,BM),(46,.c (.ptr 18 2)),(47,BM),(48,jw),(49,BM),(50,xP0)],yX⟩
abbrev eV:BE:=⟨[(1,BM),(2,gQ),(4,cW),(5,mE),(6,BM),(7,jw),(11,BM),(46,.c (.ptr 18 2)),(47,BM),(48,jw),(49,BM),(50,xP0)],yX⟩
abbrev eF:BE:=⟨[(1,BM),(2,gQ),(4,cW),(5,mE),(13,BM)],[DC,Ul,DC,MW,dW,om,Nk,KB,rB,qZ,GJ,cX,GJ,SE,cQ,cS,cU,ag,xg]⟩
abbrev eM:BE:=⟨[(1,BM),(2,gQ),(4,cW),(5,mE),(13,BM),(14,jw),(15,BM)],[DC,Ul,DC,MW,dW,om,Nk,KB,rB,qZ,GJ,cX,GJ,SE,cQ,cS,cU,ag,xg,.mem [.v tI,.v tI,.sl true tI,.sl true Y1,.v .bool,.sl true (.sl tI)]]⟩
theorem ARN(wU:List Int→Int→Option Gf)(xH:Int→Option H9)(fC:Int→Int→Option H4)(e_:ABZ→Int→Option HC)(fz:ABT→Int→Option GG)(en:ABA→ABb→Int→Int→Option GH)(Si:ABA→ABT→Int→Int→Option Dj)(ea:Int→Option Kv)(dr:AAZ→Int→Option Gg)(n:Nat)(v:jk.V)(ω:List Bool):Hf ⟨T,Pw [(74,⟨xU,o74,xU.un wU⟩),(82,⟨xG,o82,xG.un xH⟩),(138,⟨i138,vV,i138.un fC⟩),(182,⟨i182,vm,i182.un e_⟩),(202,⟨gG,wI,gG.un fz⟩),(222,⟨i222,u_,i222.un en⟩),(224,⟨VT,kj,VT.un Si⟩),(225,⟨fx,vU,fx.un ea⟩),(256,⟨fi,wA,fi.un dr⟩)],CD [(10,[0,1,2,3,4,5,6,7,8,9,10,11]),(18,[0,1,2,3,4,5,6,7,8,9,10,11,12,13,14,15,16,17,18,19])]⟩ ju Tryz.f192 (LN 8 iA n) 3 ω (jk.st 207 v)=jk.un (fun(t1:Int) (t6:Int) (b0:AAF) (b1:AAT) (b2:AAF) (b3:AAP) (b4:AAj) (b5:AAo) (b6:AAs) (b7:AAa) (Db:Int) (Dq:Int) (CM:Bool) (Dp:Int) (FD:Int) (Ch:Bool) (MV:AAF) (Fl:AAT) (DX:AAF) (F7:AAP) (GV:AAj) (Dv:AAo) (D_:AAs) (E8:AAa) (Cd:AAZ) (C4:AAZ) (Cg:Int)=>
 cond ((decide (t6<(b4.length:Int))))
  (if(0:Int)≤t6∧t6<(b4.length:Int)then(
  (e_ (b3,Dq,()) ((b4.getD (t6.toNat) (0,[],())).1)).bind fun u3=>
  (wU u3.2.1 t1).bind fun u4=>
  cond (!u4.1.1)
   ((Bd n) t1 (AU (t6+1)) b0 b1 b2 b3 b4 b5 b6 b7 Db Dq CM Dp FD Ch MV Fl DX F7 GV Dv D_ E8 Cd C4 Cg)
  (let x5:Int:=(b4.getD (t6.toNat) (0,[],())).1
  cond (decide (Cg≥x5))
   ((Bd n) t1 (AU (t6+1)) b0 b1 b2 b3 b4 b5 b6 b7 Db Dq CM Dp FD Ch MV Fl DX F7 GV Dv D_ E8 Cd C4 Cg)
  ((A9 n) t1 t6 1 Cg x5 (decide (Cg≥x5)) b0 b1 b2 b3 b4 b5 b6 b7 Db Dq CM Dp FD Ch MV Fl DX F7 GV Dv D_ E8 Cd C4 Cg ((b4.getD (t6.toNat) (0,[],())).1) ((b4.getD (t6.toNat) (0,[],())).2.1))))else none)
 ((Bf n) t1 0 b0 b1 b2 b3 b4 b5 b6 b7 Db Dq CM Dp FD Ch MV Fl DX F7 GV Dv D_ E8 Cd C4 Cg)) v:=by kernel_rfl
theorem AMh(n:Nat)(v:jk.V)(ω:List Bool):Hf AA_ ju Tryz.f192 (LN 8 iA n) 3 ω (jk.st 207 v)=jk.un (My (Bd n) (A9 n) (A_ n) (Bf n) (BZ n)) v:=ARN Cv Cl CZ Cb Eo Dk EX HU HP n v ω
def Be(ω:List Bool):Prop:= ∀(wU:List Int→Int→Option Gf) (xH:Int→Option H9) (fC:Int→Int→Option H4) (e_:ABZ→Int→Option HC) (fz:ABT→Int→Option GG) (en:ABA→ABb→Int→Int→Option GH) (Si:ABA→ABT→Int→Int→Option Dj) (ea:Int→Option Kv) (dr:AAZ→Int→Option Gg) (n:Nat) (v:bO.V),Hf ⟨T,Pw [(74,⟨xU,o74,xU.un wU⟩),(82,⟨xG,o82,xG.un xH⟩),(138,⟨i138,vV,i138.un fC⟩),(182,⟨i182,vm,i182.un e_⟩),(202,⟨gG,wI,gG.un fz⟩),(222,⟨i222,u_,i222.un en⟩),(224,⟨VT,kj,VT.un Si⟩),(225,⟨fx,vU,fx.un ea⟩),(256,⟨fi,wA,fi.un dr⟩)],CD [(10,[0,1,2,3,4,5,6,7,8,9,10,11]),(18,[0,1,2,3,4,5,6,7,8,9,10,11,12,13,14,15,16,17,18,19])]⟩ ju Tryz.f192 (LN 8 iA n) 8 ω (bO.st 207 v)=bO.un (fun(t1:Int) (t6:Int) (t8:Int) (t47:Int) (t49:Int) (t50:Bool) (b0:AAF) (b1:AAT) (b2:AAF) (b3:AAP) (b4:AAj) (b5:AAo) (b6:AAs) (b7:AAa) (Db:Int) (Dq:Int) (CM:Bool) (Dp:Int) (FD:Int) (Ch:Bool) (MV:AAF) (Fl:AAT) (DX:AAF) (F7:AAP) (GV:AAj) (Dv:AAo) (D_:AAs) (E8:AAa) (Cd:AAZ) (C4:AAZ) (Cg:Int) (EV:Int) (CS:ABX)=>
 cond ((decide (t8≤(CS.length:Int))))
  ((fC EV t8).bind fun u7=>
  (dr Cd u7.1.1).bind fun u8=>
  cond (!u8.1.1.2.1)
   ((A9 n) t1 t6 (AU (t8+1)) t47 t49 t50 b0 b1 b2 b3 b4 b5 b6 b7 Db Dq CM Dp FD Ch MV Fl DX F7 GV Dv D_ E8 Cd C4 Cg EV CS)
  (cond (u8.1.1.1.2.1 !=0)
   ((A9 n) t1 t6 (AU (t8+1)) t47 t49 t50 b0 b1 b2 b3 b4 b5 b6 b7 Db Dq CM Dp FD Ch MV Fl DX F7 GV Dv D_ E8 Cd C4 Cg EV CS)
  (if(0:Int)≤AU (t8-1)∧AU (t8-1)<(CS.length:Int)then(
  cond (((CS.getD ((AU (t8-1)).toNat) ([],[],false,())).2.2.1))
   ((A9 n) t1 t6 (AU (t8+1)) t47 t49 t50 b0 b1 b2 b3 b4 b5 b6 b7 Db Dq CM Dp FD Ch MV Fl DX F7 GV Dv D_ E8 Cd C4 Cg EV CS)
  ((en (b0,Db,()) (EV,CS,()) t8 t1).bind fun D5=>
  (A9 n) t1 t6 (AU (t8+1)) t47 t49 t50 b0 b1 b2 b3 b4 b5 b6 b7 Db Dq CM Dp FD Ch MV Fl DX F7 GV Dv D_ E8 Cd C4 Cg D5.1.1.1.1 D5.2.1))else none)))
 (if(0:Int)≤t6∧t6<(b4.length:Int)then(
 (A_ n) t1 t6 0 t47 t49 t50 b0 b1 b2 b3 (b4.set (t6.toNat) (EV,CS,())) b5 b6 b7 Db Dq CM Dp FD Ch MV Fl DX F7 GV Dv D_ E8 Cd C4 Cg EV CS)else none)) v
theorem AEF:Be []:=by delta Be;intros;kernel_rfl
theorem AEJ:Be (false::[]):=by delta Be;intros;kernel_rfl
theorem ACu:Be (false::false::[]):=by delta Be;intros;kernel_rfl
theorem AEe:Be (false::false::false::[]):=by delta Be;intros;kernel_rfl
theorem ACm(ω:List Bool):Be (false::false::false::false::ω):=by delta Be;intros;kernel_rfl
theorem AEK(ω:List Bool):Be (false::false::false::true::ω):=by delta Be;intros;kernel_rfl
theorem ADF(ω:List Bool):Be (false::false::true::ω):=by delta Be;intros;kernel_rfl
theorem ACT:Be (false::true::[]):=by delta Be;intros;kernel_rfl
theorem ADc:Be (false::true::false::[]):=by delta Be;intros;kernel_rfl
theorem AAu:Be (false::true::false::false::[]):=by delta Be;intros;kernel_rfl
theorem ABS(ω:List Bool):Be (false::true::false::false::false::ω):=by delta Be;intros;kernel_rfl
theorem AAH(ω:List Bool):Be (false::true::false::false::true::ω):=by delta Be;intros;kernel_rfl
theorem AA7:Be (false::true::false::true::[]):=by delta Be;intros;kernel_rfl
theorem AAA(ω:List Bool):Be (false::true::false::true::false::ω):=by delta Be;intros;kernel_rfl
theorem AAd:Be (false::true::false::true::true::[]):=by delta Be;intros;kernel_rfl
theorem AAz(ω:List Bool):Be (false::true::false::true::true::false::ω):=by delta Be;intros;kernel_rfl
theorem AAW(ω:List Bool):Be (false::true::false::true::true::true::ω):=by delta Be;intros;kernel_rfl
theorem ABF:Be (false::true::true::[]):=by delta Be;intros;kernel_rfl
theorem ABC(ω:List Bool):Be (false::true::true::false::ω):=by delta Be;intros;kernel_rfl
theorem ABD:Be (false::true::true::true::[]):=by delta Be;intros;kernel_rfl
theorem AAk(ω:List Bool):Be (false::true::true::true::false::ω):=by delta Be;intros;kernel_rfl
theorem AA2(ω:List Bool):Be (false::true::true::true::true::ω):=by delta Be;intros;kernel_rfl
theorem AAO:Be (true::[]):=by delta Be;intros;kernel_rfl
theorem zn(ω:List Bool):Be (true::false::ω):=by delta Be;intros;kernel_rfl
theorem AAm:Be (true::true::[]):=by delta Be;intros;kernel_rfl
theorem zk(ω:List Bool):Be (true::true::false::ω):=by delta Be;intros;kernel_rfl
theorem AAL:Be (true::true::true::[]):=by delta Be;intros;kernel_rfl
theorem ABO(ω:List Bool):Be (true::true::true::false::ω):=by delta Be;intros;kernel_rfl
theorem zx(ω:List Bool):Be (true::true::true::true::ω):=by delta Be;intros;kernel_rfl
theorem AN1(wU:List Int→Int→Option Gf)(xH:Int→Option H9)(fC:Int→Int→Option H4)(e_:ABZ→Int→Option HC)(fz:ABT→Int→Option GG)(en:ABA→ABb→Int→Int→Option GH)(Si:ABA→ABT→Int→Int→Option Dj)(ea:Int→Option Kv)(dr:AAZ→Int→Option Gg)(n:Nat)(v:bO.V)(ω:List Bool):Hf ⟨T,Pw [(74,⟨xU,o74,xU.un wU⟩),(82,⟨xG,o82,xG.un xH⟩),(138,⟨i138,vV,i138.un fC⟩),(182,⟨i182,vm,i182.un e_⟩),(202,⟨gG,wI,gG.un fz⟩),(222,⟨i222,u_,i222.un en⟩),(224,⟨VT,kj,VT.un Si⟩),(225,⟨fx,vU,fx.un ea⟩),(256,⟨fi,wA,fi.un dr⟩)],CD [(10,[0,1,2,3,4,5,6,7,8,9,10,11]),(18,[0,1,2,3,4,5,6,7,8,9,10,11,12,13,14,15,16,17,18,19])]⟩ ju Tryz.f192 (LN 8 iA n) 8 ω (bO.st 207 v)=bO.un (fun(t1:Int) (t6:Int) (t8:Int) (t47:Int) (t49:Int) (t50:Bool) (b0:AAF) (b1:AAT) (b2:AAF) (b3:AAP) (b4:AAj) (b5:AAo) (b6:AAs) (b7:AAa) (Db:Int) (Dq:Int) (CM:Bool) (Dp:Int) (FD:Int) (Ch:Bool) (MV:AAF) (Fl:AAT) (DX:AAF) (F7:AAP) (GV:AAj) (Dv:AAo) (D_:AAs) (E8:AAa) (Cd:AAZ) (C4:AAZ) (Cg:Int) (EV:Int) (CS:ABX)=>
 cond ((decide (t8≤(CS.length:Int))))
  ((fC EV t8).bind fun u7=>
  (dr Cd u7.1.1).bind fun u8=>
  cond (!u8.1.1.2.1)
   ((A9 n) t1 t6 (AU (t8+1)) t47 t49 t50 b0 b1 b2 b3 b4 b5 b6 b7 Db Dq CM Dp FD Ch MV Fl DX F7 GV Dv D_ E8 Cd C4 Cg EV CS)
  (cond (u8.1.1.1.2.1 !=0)
   ((A9 n) t1 t6 (AU (t8+1)) t47 t49 t50 b0 b1 b2 b3 b4 b5 b6 b7 Db Dq CM Dp FD Ch MV Fl DX F7 GV Dv D_ E8 Cd C4 Cg EV CS)
  (if(0:Int)≤AU (t8-1)∧AU (t8-1)<(CS.length:Int)then(
  cond (((CS.getD ((AU (t8-1)).toNat) ([],[],false,())).2.2.1))
   ((A9 n) t1 t6 (AU (t8+1)) t47 t49 t50 b0 b1 b2 b3 b4 b5 b6 b7 Db Dq CM Dp FD Ch MV Fl DX F7 GV Dv D_ E8 Cd C4 Cg EV CS)
  ((en (b0,Db,()) (EV,CS,()) t8 t1).bind fun D5=>
  (A9 n) t1 t6 (AU (t8+1)) t47 t49 t50 b0 b1 b2 b3 b4 b5 b6 b7 Db Dq CM Dp FD Ch MV Fl DX F7 GV Dv D_ E8 Cd C4 Cg D5.1.1.1.1 D5.2.1))else none)))
 (if(0:Int)≤t6∧t6<(b4.length:Int)then(
 (A_ n) t1 t6 0 t47 t49 t50 b0 b1 b2 b3 (b4.set (t6.toNat) (EV,CS,())) b5 b6 b7 Db Dq CM Dp FD Ch MV Fl DX F7 GV Dv D_ E8 Cd C4 Cg EV CS)else none)) v:=(AF AEF (AF AEJ (AF ACu (AF AEe ACm AEK) ADF) (AF ACT (AF ADc (AF AAu ABS AAH) (AF AA7 AAA (AF AAd AAz AAW))) (AF ABF ABC (AF ABD AAk AA2)))) (AF AAO zn (AF AAm zk (AF AAL ABO zx)))) ω wU xH fC e_ fz en Si ea dr n v
theorem AP1(n:Nat)(v:bO.V)(ω:List Bool):Hf AA_ ju Tryz.f192 (LN 8 iA n) 8 ω (bO.st 207 v)=bO.un (Mh (Bd n) (A9 n) (A_ n) (Bf n) (BZ n)) v:=AN1 Cv Cl CZ Cb Eo Dk EX HU HP n v ω
theorem AGo(wU:List Int→Int→Option Gf)(xH:Int→Option H9)(fC:Int→Int→Option H4)(e_:ABZ→Int→Option HC)(fz:ABT→Int→Option GG)(en:ABA→ABb→Int→Int→Option GH)(Si:ABA→ABT→Int→Int→Option Dj)(ea:Int→Option Kv)(dr:AAZ→Int→Option Gg)(n:Nat)(v:eV.V)(ω:List Bool):Hf ⟨T,Pw [(74,⟨xU,o74,xU.un wU⟩),(82,⟨xG,o82,xG.un xH⟩),(138,⟨i138,vV,i138.un fC⟩),(182,⟨i182,vm,i182.un e_⟩),(202,⟨gG,wI,gG.un fz⟩),(222,⟨i222,u_,i222.un en⟩),(224,⟨VT,kj,VT.un Si⟩),(225,⟨fx,vU,fx.un ea⟩),(256,⟨fi,wA,fi.un dr⟩)],CD [(10,[0,1,2,3,4,5,6,7,8,9,10,11]),(18,[0,1,2,3,4,5,6,7,8,9,10,11,12,13,14,15,16,17,18,19])]⟩ ju Tryz.f192 (LN 8 iA n) 15 ω (eV.st 207 v)=eV.un (fun(t1:Int) (t6:Int) (t11:Int) (t47:Int) (t49:Int) (t50:Bool) (b0:AAF) (b1:AAT) (b2:AAF) (b3:AAP) (b4:AAj) (b5:AAo) (b6:AAs) (b7:AAa) (Db:Int) (Dq:Int) (CM:Bool) (Dp:Int) (FD:Int) (Ch:Bool) (MV:AAF) (Fl:AAT) (DX:AAF) (F7:AAP) (GV:AAj) (Dv:AAo) (D_:AAs) (E8:AAa) (Cd:AAZ) (C4:AAZ) (Cg:Int) (EV:Int) (CS:ABX)=>
 cond ((decide (t11<(b7.length:Int))))
  (if(0:Int)≤t11∧t11<(b7.length:Int)then(
  let x65:Int:=(b7.getD (t11.toNat) (0,[],false,())).1
  (xH x65).bind fun u66=>
  cond (u66.1.1==EV)
   ((ea x65).bind fun u67=>
   cond ((decide (u67.1.1≤(CS.length:Int))))
    ((ea x65).bind fun u69=>
    if(0:Int)≤AU (u69.1.1-1)∧AU (u69.1.1-1)<(CS.length:Int)then(
    cond (((CS.getD ((AU (u69.1.1-1)).toNat) ([],[],false,())).2.2.1))
     (if(0:Int)≤t11∧t11<(b7.length:Int)then(
     (A_ n) t1 t6 (AU (t11+1)) t47 t49 t50 b0 b1 b2 b3 b4 b5 b6 (b7.set (t11.toNat) ((b7.getD (t11.toNat) (0,[],false,())).1,(b7.getD (t11.toNat) (0,[],false,())).2.1,true,())) Db Dq CM Dp FD Ch MV Fl DX F7 GV Dv D_ E8 Cd C4 Cg EV CS)else none)
    ((A_ n) t1 t6 (AU (t11+1)) t47 t49 t50 b0 b1 b2 b3 b4 b5 b6 b7 Db Dq CM Dp FD Ch MV Fl DX F7 GV Dv D_ E8 Cd C4 Cg EV CS))else none)
   ((A_ n) t1 t6 (AU (t11+1)) t47 t49 t50 b0 b1 b2 b3 b4 b5 b6 b7 Db Dq CM Dp FD Ch MV Fl DX F7 GV Dv D_ E8 Cd C4 Cg EV CS))
  ((A_ n) t1 t6 (AU (t11+1)) t47 t49 t50 b0 b1 b2 b3 b4 b5 b6 b7 Db Dq CM Dp FD Ch MV Fl DX F7 GV Dv D_ E8 Cd C4 Cg EV CS))else none)
 ((Bd n) t1 (AU (t6+1)) b0 b1 b2 b3 b4 b5 b6 b7 Db Dq CM Dp FD Ch MV Fl DX F7 GV Dv D_ E8 Cd C4 Cg)) v:=by kernel_rfl
theorem AI0(n:Nat)(v:eV.V)(ω:List Bool):Hf AA_ ju Tryz.f192 (LN 8 iA n) 15 ω (eV.st 207 v)=eV.un (LO (Bd n) (A9 n) (A_ n) (Bf n) (BZ n)) v:=AGo Cv Cl CZ Cb Eo Dk EX HU HP n v ω
theorem AFp(wU:List Int→Int→Option Gf)(xH:Int→Option H9)(fC:Int→Int→Option H4)(e_:ABZ→Int→Option HC)(fz:ABT→Int→Option GG)(en:ABA→ABb→Int→Int→Option GH)(Si:ABA→ABT→Int→Int→Option Dj)(ea:Int→Option Kv)(dr:AAZ→Int→Option Gg)(n:Nat)(v:eF.V)(ω:List Bool):Hf ⟨T,Pw [(74,⟨xU,o74,xU.un wU⟩),(82,⟨xG,o82,xG.un xH⟩),(138,⟨i138,vV,i138.un fC⟩),(182,⟨i182,vm,i182.un e_⟩),(202,⟨gG,wI,gG.un fz⟩),(222,⟨i222,u_,i222.un en⟩),(224,⟨VT,kj,VT.un Si⟩),(225,⟨fx,vU,fx.un ea⟩),(256,⟨fi,wA,fi.un dr⟩)],CD [(10,[0,1,2,3,4,5,6,7,8,9,10,11]),(18,[0,1,2,3,4,5,6,7,8,9,10,11,12,13,14,15,16,17,18,19])]⟩ ju Tryz.f192 (LN 8 iA n) 21 ω (eF.st 207 v)=eF.un (fun(t1:Int) (t13:Int) (b0:AAF) (b1:AAT) (b2:AAF) (b3:AAP) (b4:AAj) (b5:AAo) (b6:AAs) (b7:AAa) (Db:Int) (Dq:Int) (CM:Bool) (Dp:Int) (FD:Int) (Ch:Bool) (MV:AAF) (Fl:AAT) (DX:AAF) (F7:AAP) (GV:AAj) (Dv:AAo) (D_:AAs) (E8:AAa) (Cd:AAZ) (C4:AAZ) (Cg:Int)=>
 cond ((decide (t13<(b5.length:Int))))
  (if(0:Int)≤t13∧t13<(b5.length:Int)then(
  (BZ n) t1 t13 1 b0 b1 b2 b3 b4 b5 b6 b7 Db Dq CM Dp FD Ch MV Fl DX F7 GV Dv D_ E8 Cd C4 Cg ((b5.getD (t13.toNat) (0,0,[],[],false,[],())).1) ((b5.getD (t13.toNat) (0,0,[],[],false,[],())).2.1) ((b5.getD (t13.toNat) (0,0,[],[],false,[],())).2.2.1) ((b5.getD (t13.toNat) (0,0,[],[],false,[],())).2.2.2.1) ((b5.getD (t13.toNat) (0,0,[],[],false,[],())).2.2.2.2.1) ((b5.getD (t13.toNat) (0,0,[],[],false,[],())).2.2.2.2.2.1))else none)
 (some ((((),Db,(),(),(),Dq,(),(),(),(),CM,()),()),(b0,b1,b2,b3,b4,b5,b6,b7,())))) v:=by kernel_rfl
theorem AHI(n:Nat)(v:eF.V)(ω:List Bool):Hf AA_ ju Tryz.f192 (LN 8 iA n) 21 ω (eF.st 207 v)=eF.un (LP (Bd n) (A9 n) (A_ n) (Bf n) (BZ n)) v:=AFp Cv Cl CZ Cb Eo Dk EX HU HP n v ω
theorem AKL(wU:List Int→Int→Option Gf)(xH:Int→Option H9)(fC:Int→Int→Option H4)(e_:ABZ→Int→Option HC)(fz:ABT→Int→Option GG)(en:ABA→ABb→Int→Int→Option GH)(Si:ABA→ABT→Int→Int→Option Dj)(ea:Int→Option Kv)(dr:AAZ→Int→Option Gg)(n:Nat)(v:eM.V)(ω:List Bool):Hf ⟨T,Pw [(74,⟨xU,o74,xU.un wU⟩),(82,⟨xG,o82,xG.un xH⟩),(138,⟨i138,vV,i138.un fC⟩),(182,⟨i182,vm,i182.un e_⟩),(202,⟨gG,wI,gG.un fz⟩),(222,⟨i222,u_,i222.un en⟩),(224,⟨VT,kj,VT.un Si⟩),(225,⟨fx,vU,fx.un ea⟩),(256,⟨fi,wA,fi.un dr⟩)],CD [(10,[0,1,2,3,4,5,6,7,8,9,10,11]),(18,[0,1,2,3,4,5,6,7,8,9,10,11,12,13,14,15,16,17,18,19])]⟩ ju Tryz.f192 (LN 8 iA n) 25 ω (eM.st 207 v)=eM.un (fun(t1:Int) (t13:Int) (t15:Int) (b0:AAF) (b1:AAT) (b2:AAF) (b3:AAP) (b4:AAj) (b5:AAo) (b6:AAs) (b7:AAa) (Db:Int) (Dq:Int) (CM:Bool) (Dp:Int) (FD:Int) (Ch:Bool) (MV:AAF) (Fl:AAT) (DX:AAF) (F7:AAP) (GV:AAj) (Dv:AAo) (D_:AAs) (E8:AAa) (Cd:AAZ) (C4:AAZ) (Cg:Int) (EV:Int) (CS:Int) (aH:AAF) (Z6:AAZ) (aO:Bool) (VG:List AAF)=>
 if(0:Int)≤t13∧t13<(b5.length:Int)then(
 cond (decide (t15≤(((b5.getD (t13.toNat) (0,0,[],[],false,[],())).2.2.2.2.2.1).length:Int)))
  ((e_ (b3,Dq,()) CS).bind fun u74=>
  (wU u74.2.1 t1).bind fun u75=>
  cond (u75.1.1)
   ((fz (EV,CS,aH,Z6,aO,VG,()) t15).bind fun u76=>
   (dr Cd u76.1.1.1.1).bind fun u77=>
   cond (u77.1.1.2.1)
    (cond (((u77.1.1.1.1==u76.1.1.1.1)&&((u77.1.1.1.2.1==u76.1.1.1.2.1)&&((u77.1.1.1.2.2.1==u76.1.1.1.2.2.1)&&((u77.1.1.1.2.2.2.1==u76.1.1.1.2.2.2.1)&&true)))))
     ((Si (b0,Db,()) (EV,CS,aH,Z6,aO,VG,()) t15 t1).bind fun z6=>
     (BZ n) t1 t13 (AU (t15+1)) b0 b1 b2 b3 b4 b5 b6 b7 Db Dq CM Dp FD Ch MV Fl DX F7 GV Dv D_ E8 Cd C4 Cg z6.1.1.1.1 z6.1.1.1.2.1 z6.2.1 z6.2.2.1 z6.1.1.1.2.2.2.2.1 z6.2.2.2.1)
    ((BZ n) t1 t13 (AU (t15+1)) b0 b1 b2 b3 b4 b5 b6 b7 Db Dq CM Dp FD Ch MV Fl DX F7 GV Dv D_ E8 Cd C4 Cg EV CS aH Z6 aO VG))
   ((BZ n) t1 t13 (AU (t15+1)) b0 b1 b2 b3 b4 b5 b6 b7 Db Dq CM Dp FD Ch MV Fl DX F7 GV Dv D_ E8 Cd C4 Cg EV CS aH Z6 aO VG))
  (if(0:Int)≤t13∧t13<(b5.length:Int)then(
  (Bf n) t1 (AU (t13+1)) b0 b1 b2 b3 b4 (b5.set (t13.toNat) (EV,CS,aH,Z6,aO,VG,())) b6 b7 Db Dq CM Dp FD Ch MV Fl DX F7 GV Dv D_ E8 Cd C4 Cg)else none))
 (if(0:Int)≤t13∧t13<(b5.length:Int)then(
 (Bf n) t1 (AU (t13+1)) b0 b1 b2 b3 b4 (b5.set (t13.toNat) (EV,CS,aH,Z6,aO,VG,())) b6 b7 Db Dq CM Dp FD Ch MV Fl DX F7 GV Dv D_ E8 Cd C4 Cg)else none))else none) v:=by kernel_rfl
theorem AIL(n:Nat)(v:eM.V)(ω:List Bool):Hf AA_ ju Tryz.f192 (LN 8 iA n) 25 ω (eM.st 207 v)=eM.un (Ik (Bd n) (A9 n) (A_ n) (Bf n) (BZ n)) v:=AKL Cv Cl CZ Cb Eo Dk EX HU HP n v ω
theorem AZe(wU:List Int→Int→Option Gf)(xH:Int→Option H9)(fC:Int→Int→Option H4)(e_:ABZ→Int→Option HC)(fz:ABT→Int→Option GG)(en:ABA→ABb→Int→Int→Option GH)(Si:ABA→ABT→Int→Int→Option Dj)(ea:Int→Option Kv)(dr:AAZ→Int→Option Gg)(n:Nat)(ω:List Bool)(v:wm.V):Cy ⟨T,Pw [(74,⟨xU,o74,xU.un wU⟩),(82,⟨xG,o82,xG.un xH⟩),(138,⟨i138,vV,i138.un fC⟩),(182,⟨i182,vm,i182.un e_⟩),(202,⟨gG,wI,gG.un fz⟩),(222,⟨i222,u_,i222.un en⟩),(224,⟨VT,kj,VT.un Si⟩),(225,⟨fx,vU,fx.un ea⟩),(256,⟨fi,wA,fi.un dr⟩)],CD [(10,[0,1,2,3,4,5,6,7,8,9,10,11]),(18,[0,1,2,3,4,5,6,7,8,9,10,11,12,13,14,15,16,17,18,19])]⟩ ju Tryz.f192 (LN 8 iA n) ω v=wm.un (fun(CL:Int) (CN:Int) (BQ:Bool) (p1:Int) (b0:AAF) (b1:AAT) (b2:AAF) (b3:AAP) (b4:AAj) (b5:AAo) (b6:AAs) (b7:AAa)=>
 if(0:Int)≤p1∧p1<(b1.length:Int)then(
 (Bd n) p1 0 b0 b1 b2 b3 b4 b5 b6 b7 CL CN BQ 0 0 false [] [] [] [] [] [] [] [] ((b1.getD (p1.toNat) ([],[],0,())).1) ((b1.getD (p1.toNat) ([],[],0,())).2.1) ((b1.getD (p1.toNat) ([],[],0,())).2.2.1))else none) v:=by kernel_rfl
theorem Aai(n:Nat)(ω:List Bool)(v:wm.V):Cy AA_ ju Tryz.f192 (LN 8 iA n) ω v=wm.un (Q3 (Bd n) (A9 n) (A_ n) (Bf n) (BZ n)) v:=AZe Cv Cl CZ Cb Eo Dk EX HU HP n ω v
def AZo:SQ:=mk Tryz.func192 wm ANZ WE [s74,s82,o9,wF,AQE,APZ,ALC,AGh,AKE] [(10,[0,1,2,3,4,5,6,7,8,9,10,11]),(18,[0,1,2,3,4,5,6,7,8,9,10,11,12,13,14,15,16,17,18,19])] iA (hJ:= .cons (fun _=>rfl) AMh (.cons (fun _=>rfl) AP1 (.cons (fun _=>rfl) AI0 (.cons (fun _=>rfl) AHI (.cons (fun _=>rfl) AIL (.nil)))))) (he:=Aai Ab)
def AZW:SQ:=mk Tryz.func109 bo ALY WK [xJ,AOI,AZo] [] []
def ACX:SQ:=mk Tryz.func196 AEH dM I2 [s74] [] [⟨3,⟨[(0,ae),(1,ae),(5,qK),(6,BM)],s7⟩,O2⟩]
def Aaa:SQ:=mk Tryz.func193 AMa ALl N1 [s67,s77,ACX] [(8,[0,1,2])] [⟨5,⟨[(2,BM),(6,J5),(8,xP9),(9,BM)],ALM⟩,H8⟩] (hJ:= .cons (fun _=>rfl) (fun n v ω=>by rcases ω with _|⟨_|_,_⟩<;>kernel_rfl) (.nil))
def AYm:SQ:=mk Tryz.func194 ALf vM Qd [s68,s78,ACX] [(7,[0,1,2,3,4,5,6])] [⟨5,⟨[(2,BM),(6,J5),(8,mq),(9,BM)],ALR⟩,Jo⟩] (hJ:= .cons (fun _=>rfl) (fun n v ω=>by rcases ω with _|⟨_|_,_⟩<;>kernel_rfl) (.nil))
def AX8:SQ:=mk Tryz.func110 bo ⟨ATI,[DC,Wl,Iw,MW,Tm,TE,Nk,KB,DC]⟩ WG [yR,w6,xJ,Aaa,AYm] [(9,[0,1,2,3,5,6,7,8,9,10,11,12,13,14,15,16,17,18,19]),(13,[0,1,2,3,4,6,7,8,9,10,11,12,13,14,15,16,17,18,19])] [⟨7,⟨[(2,gQ),(3,cP),(4,.c (.ptr 11 0)),(7,BM)],ALj⟩,KQ⟩,⟨11,⟨[(2,gQ),(3,cP),(4,.c (.ptr 11 0)),(8,BM)],ALj⟩,JM⟩]
def AZF:SQ:=mk Tryz.func257 lj Cn Yy [s71,yR] [] []
def AXQ:SQ:=mk Tryz.func258 ⟨[(0,uU)],[]⟩ uu ZI [ANN] [] [⟨3,⟨[(0,uU),(3,qK),(4,BM)],[JV]⟩,JN⟩,⟨6,⟨[(0,uU),(3,qK),(4,BM),(5,BM)],[JV]⟩,JO⟩]
def AYZ:SQ:=mk Tryz.func195 ALc ⟨ATJ,[Ul,JV,JV]⟩ eP [s70,s73,s74,AZF,AXQ] [] [⟨6,⟨[(1,qK),(2,ae),(4,BM),(10,UU),(12,mq),(13,.c (.ref 7)),(14,BM)],ALa⟩,O5⟩,⟨11,⟨[(4,BM),(10,UU),(12,mq),(13,.c (.ref 7)),(15,BM)],ALa⟩,Nb⟩]
def Aaf:SQ:=mk Tryz.func111 bo ⟨ATI,[DC,Ul,Iw,MW,Tm,TE,Nk,KB,DC]⟩ WU [s74,um,AYZ,ACX] [(3,[0,2,3,4,5,6,7,8,9,10])] [] (he:=fun ω v=>by rcases ω with _|⟨_|_,_|⟨_|_,_⟩⟩<;>kernel_rfl)
abbrev qJ:BE:=lp
abbrev AAU:BE:=vP
def APb:SQ:=mk Tryz.func197 qJ AAU Mk [] [] []
def AXd:SQ:=mk Tryz.func112 ACL ⟨[(0,.Nr [.inr [.ref 0,.v tI,.ref 1,.ref 2,.ref 3,.v tI,.ref 4,.ref 8,.ref 6,.ref 7,.v .bool],.inl (.v tI)])],[DC,Wl,DC,MW,Tm,Iw,Nk,KB,TE]⟩ Wd [s79,APb] [] []
def ASs:SQ:=mk Tryz.func198 jI sH OM [s66,s73,qN,um,AOI] [] []
abbrev pB:BE:=jI
abbrev ze:BE:=uu
def ANE:SQ:=mk Tryz.func200 pB ze I5 [s73,s82] [] [⟨3,⟨[(1,BM),(2,J5),(5,xP7),(6,BM)],[ARC,JV]⟩,JF⟩]
abbrev nY:BE:=ALi
abbrev AAK:BE:=vM
def AOl:SQ:=mk Tryz.func199 nY AAK JA [s68,s78,s82,w6,ANN] [(8,[0,1,2,3,4,5,6,7,8,9]),(9,[0,1,2,3,4,5,7,8,9])] [⟨6,⟨[(3,X8),(4,J5),(5,UU),(8,xP9),(10,AAg),(11,BM)],[l7,wi,AM8,GJ,JV,iK,AQX,GJ,JV,iK]⟩,MT⟩]
def AYS:SQ:=mk Tryz.func113 bo rO WM [s74,wF,xJ,ASs,AOl,ANE] [(7,[0,1,2,3,4,5,6,7,8,9,10,11]),(9,[0,1,2,3,4,5,6,7,8,9,10,11,12]),(10,[0,1,2,3,4,5,6,7,8,9,10,11,12,13,14,15])] [] (he:=fun ω v=>by rcases ω with _|⟨_|_,_|⟨_|_,_|⟨_|_,_⟩⟩⟩<;>kernel_rfl)
def AUg:SQ:=mk Tryz.func261 AEH dM KZ [ACX] [] []
def ASM:SQ:=mk Tryz.func260 AB0 Cn Kb [s71,yR,AUM,ACX] [(3,[0,1])] []
abbrev i201:BE:=ALP
abbrev zr:BE:=vM
def AOR:SQ:=mk Tryz.func201 i201 zr I1 [s68,s78,AVe,ASM,AUg] [(4,[0,1,2,3,4,5,6])] [⟨8,⟨[(4,J5),(6,UU),(8,.c (.ptr 5 0)),(9,BM)],ADX⟩,Lk⟩]
def AXR:SQ:=mk Tryz.func114 ACL rO Wg [wF,AOR] [(3,[0,1,2,3,4,5,6,7,8,9])] [] (he:=fun ω v=>by rcases ω with _|⟨_|_,_|⟨_|_,_⟩⟩<;>kernel_rfl)
def AYE:SQ:=mk Tryz.func115 bo rO Y_ [s74,wF,xJ,AN_,AQE] [(3,[0,1,2,3,4,5,6,7,8,9,10]),(9,[0,1,2,3,4,5,6,7,8,9,10,11]),(11,[0,1,2,3,4,5,6,7,8,9,10,11,12])] [] (he:=fun ω v=>by rcases ω with _|⟨_|_,_|⟨_|_,_⟩⟩<;>kernel_rfl)
def AYT:SQ:=mk Tryz.func203 sB Cn SG [yR,s78] [(6,[0,1])] [⟨4,ALm,Km⟩]
def AUG:SQ:=mk Tryz.func204 ALH yU P2 [s65,s76,s79,qN] [] []
def AYd:SQ:=mk Tryz.func116 ACL ⟨[(0,.Nr [.inr [.ref 0,.v tI,.ref 1,.ref 2,.ref 8,.v tI,.ref 4,.ref 9,.ref 6,.ref 7,.v .bool],.inl (.v tI)])],[DC,Wl,DC,Iw,Tm,Iw,Nk,KB,MW,TE]⟩ UN [AYT,AUG] [(3,[0,1,2,3,4,5,6,7,8,9]),(5,[0,1,2,3,4,5,6,7,8,9])] [] (he:=fun ω v=>by rcases ω with _|⟨_|_,_⟩<;>kernel_rfl)
def ATB:SQ:=mk Tryz.func117 ALE yU Rz [s65,s76,s81,s82,um] [(4,[0,1,2,3,4])] []
def AZq:SQ:=mk Tryz.func266 yb Fe Vh [] [] [⟨2,⟨AFn,[AIT]⟩,Jt⟩]
def AZd:SQ:=mk Tryz.func206 yT Fe dm [AZq] [] [⟨2,⟨[(1,BM),(2,J5),(5,BM)],zP⟩,Oo⟩]
def AYX:SQ:=mk Tryz.func207 ⟨[(0,.row Y11),(1,.row Y9),(2,BM)],[]⟩ ⟨AD6,[.sl 9 Y14]⟩ QV [o9,AVI,xJ,AKE] [(6,[0,1,2,3]),(7,[0,1,2,3]),(8,[0,1,3,4])] [⟨4,⟨[(3,J5),(4,UU),(7,.c (.ref 2)),(8,.c (.ref 3)),(9,BM)],[AFd,.mem [.v tI,.v tI,.sl false Y8],.sl 9 Y14,GJ]⟩,Jp⟩] (hJ:= .cons (fun _=>rfl) (fun n v ω=>by rcases ω with _|⟨_|_,_|⟨_|_,_⟩⟩<;>kernel_rfl) (.nil))
def AXD:SQ:=mk Tryz.func263 ⟨[(0,qY),(1,q_)],[]⟩ ⟨[(0,.Nr [.inl (.ref 0),.inl (.v .bool)])],s7⟩ ZN [s71] [] [⟨3,⟨[(1,q_),(2,J5),(6,xP7),(7,BM)],AC_⟩,Lr⟩]
def AZ7:SQ:=mk Tryz.func264 ⟨[(0,.row Y9),(1,.row Y8),(2,BM),(3,BM)],[]⟩ yx Iq [s69] [] []
def AXp:SQ:=mk Tryz.func265 ⟨[(0,ae),(1,BM),(2,q_)],[]⟩ ⟨[(0,.agg [.v tI,.v tI,.v .str])],[]⟩ Mv [s74,AJu,ATj] [] [⟨4,⟨[(0,ae),(1,BM),(2,q_),(6,J5),(7,UU),(8,xP0),(9,BM)],[.mem [.v tI,.v tI,.v .str],AAQ]⟩,NC⟩]
def AXS:SQ:=mk Tryz.func205 ALo ⟨AVh,[.sl 9 Y8]⟩ Qe [s29,s69,s76,s82,o9,AGh,ASM,AUg,AXD,AZ7,AXp] [(9,[0,1,2,4,5]),(14,[0,1,2,3,4,5]),(16,[0,1,2,4,5,6])] []
def AYz:SQ:=mk Tryz.func118 bo rO WH [qN,AXS,AZd,AYX] [(3,[0,1,2,3,4,5,6,7,8,9,10])] [] (he:=fun ω v=>by rcases ω with _|⟨_|_,_|⟨_|_,_|⟨_|_,_⟩⟩⟩<;>kernel_rfl)
def AXH:SQ:=mk Tryz.func119 bo ⟨[(0,.Nr [.inr [.ref 0,.v tI,.ref 1,.ref 2,.ref 3,.v tI,.ref 8,.ref 5,.ref 6,.ref 7,.v .bool],.inl (.v tI)])],[DC,Wl,DC,MW,Iw,TE,Nk,KB,dW]⟩ Wf [AO1] [] [⟨5,⟨[(2,gQ),(3,cW),(4,cP),(6,.c (.ref 19)),(7,BM)],[DC,Wl,DC,MW,dW,TE,Nk,KB,rB,ADW,AGX,GJ,cX,GJ,SE,cQ,cS,cU,ag,dW]⟩,NA⟩]
def Aah:SQ:=mk Tryz.func209 jI sH Rk [s66,s73,s81] [(11,[0,1,2,3,6])] [⟨8,ALd,Kn⟩] (hJ:= .cons (fun _=>rfl) (fun n v ω=>by rcases ω with _|⟨_|_,_⟩<;>kernel_rfl) (.nil))
def AXF:SQ:=mk Tryz.func120 bo rO UJ [xJ,ASv,Aah] [(4,[0,1,2,3,4,5,6,7,8,9,10]),(6,[0,1,2,3,4,5,6,7,8,9,10,12])] [] (he:=fun ω v=>by rcases ω with _|⟨_|_,_⟩<;>kernel_rfl)
def s35:SQ:=mk Tryz.func35 bo ⟨[(0,.Nr [.inr [.ref 0,.v tI,.ref 1,.ref 8,.ref 9,.v tI,.ref 10,.ref 11,.ref 6,.ref 12,.v .bool],.inl (.v tI)])],[DC,Ul,Iw,Iw,Iw,Iw,Nk,Iw,DC,MW,dW,om,KB]⟩ bS [AXU,Aaj,AXq,AZW,AX8,Aaf,AXd,AYS,AXR,AYE,AYd,ATB,AYz,AXH,AXF] [] []
def s13:SQ:=mk Tryz.func13 AMF ALY SR [s10,s26,s34,s35] [(3,[0,1,2])] [] (he:=fun ω v=>by rcases ω with _|⟨_|_,_|⟨_|_,_⟩⟩<;>kernel_rfl)
abbrev i46:BE:=ACw
abbrev o46:BE:=⟨[(0,.Nr [.inr [.ref 1,.v tI,.ref 2,.ref 3,.ref 4,.v tI,.ref 5,.ref 6,.ref 7,.ref 8,.v .bool],.inl (.ref 9),.inr [.ref 10,.v tI,.ref 11,.ref 12,.ref 13,.v tI,.ref 14,.ref 15,.ref 16,.ref 17,.v .bool]])],[WT,Iw,Iw,Iw,Iw,Iw,Iw,Iw,Iw,.sl 9 Y12,DC,Ul,DC,MW,dW,om,Nk,KB]⟩
def s46:SQ:=mk Tryz.func46 i46 o46 Kx [s13,gx,s33,yR,AUY,AXB] [(21,[0,2,3,4,5,6,7,8,9,11,12,13,14,15,16,17,18,19,28,29,30,31,32,33,34,35,36,37])] [⟨4,⟨[(0,J5),(1,BM),(4,UU),(6,cP),(7,jw),(8,.c (.ref 21)),(9,BM)],AMQ⟩,Eu⟩,⟨7,⟨[(0,J5),(1,BM),(4,UU),(6,cP),(7,jw),(8,.c (.ref 21))],AMQ⟩,Ey⟩,⟨14,AVP,Dd⟩]
def AVo:SQ:=mk Tryz.func221 fO ALK Lt [gx,s48,s82,o9,APU] [] []
abbrev nR:BE:=fO
abbrev AAv:BE:=ALU
def ANv:SQ:=mk Tryz.func136 nR AAv GD [gx,s48,o9,AN_,AOI,ASs,AVo] [(6,[1,2,3,4,5,6]),(14,[1,2,3,4,5,6,9]),(25,[0,1,2,3,6])] [⟨4,⟨[(0,J5),(2,UU),(3,mq),(4,BM),(5,BM)],zO⟩,EN⟩,⟨20,⟨[(2,UU),(3,mq),(8,BM)],zO⟩,Ep⟩,⟨23,⟨[(2,UU),(3,mq),(8,BM),(9,BM)],zO⟩,Eg⟩] (hJ:= .cons (fun _=>rfl) (fun n v ω=>by rcases ω with _|⟨_|_,_|⟨_|_,_⟩⟩<;>kernel_rfl) (.cons (fun _=>rfl) (fun n v ω=>by kernel_rfl) (.cons (fun _=>rfl) (fun n v ω=>by rcases ω with _|⟨_|_,_|⟨_|_,_⟩⟩<;>kernel_rfl) (.nil))))
abbrev i55:BE:=fO
abbrev o55:BE:=yf
def s55:SQ:=mk Tryz.func55 i55 o55 FG [gx,nu,o9] [] []
def ASn:SQ:=mk Tryz.func137 fO ALK RJ [gx,s55,nu,AVo] [] []
abbrev i50:BE:=fO
abbrev o50:BE:=ALU
def s50:SQ:=mk Tryz.func50 i50 o50 U0 [gx,nu,ANv,ASn,o9] [(6,[1,4]),(8,[1,3]),(10,[1,2,3,4,5,6]),(11,[0,1,2,3,5])] [⟨10,⟨[(0,J5),(2,UU),(3,mq)],zO⟩,M8⟩] (hJ:= .cons (fun _=>rfl) (fun n v ω=>by rcases ω with _|⟨_|_,_|⟨_|_,_⟩⟩<;>kernel_rfl) (.nil)) (he:=fun ω v=>by rcases ω with _|⟨_|_,_|⟨_|_,_⟩⟩<;>kernel_rfl)
def AZZ:SQ:=mk Tryz.func139 lV ⟨AOk,[WT,SE]⟩ PS [gx,ANs,ATB,o9,AV_,AUG] [(5,[1,2,3,4,5]),(8,[1,2,3,4,5]),(10,[1,2,3,4,5])] [⟨3,⟨AUl,[WT,l7,.mem [.ref 3,.v tI],SE,.mem [.ref 5,.v tI],SE]⟩,Gy⟩] (hJ:= .cons (fun _=>rfl) (fun n v ω=>by rcases ω with _|⟨_|_,_|⟨_|_,_⟩⟩<;>kernel_rfl) (.nil))
abbrev i51:BE:=lV
abbrev o51:BE:=⟨AOk,[WT,.sl 1 Y3]⟩
def s51:SQ:=mk Tryz.func51 i51 o51 VB [gx,s49,s55,nu,ANs,AZZ] [(11,[1,2,5]),(14,[1,2,5]),(17,[1,2,3,4])] [⟨17,⟨[(0,J5),(4,UU),(5,xP4),(7,.c (.sl true tI))],[WT,APQ,SE,AMg,.sl 1 Y3]⟩,NJ⟩]
abbrev AZ_:BE:=lV
abbrev AYs:BE:=⟨[(0,.agg [.v tI,.ref 1])],[WT,ka]⟩
def AUW:SQ:=mk Tryz.func140 AZ_ AYs PQ [gx,s48,um,APU,AUQ,APZ] [(5,[1,2,3,4,5]),(7,[1,2,3,4,5])] [⟨3,⟨AUl,[WT,l7,AQP,ka,.mem [.v tI,.ref 5],ka]⟩,Il⟩] (hJ:= .cons (fun _=>rfl) (fun n v ω=>by rcases ω with _|⟨_|_,_|⟨_|_,_|⟨_|_,_⟩⟩⟩<;>kernel_rfl) (.nil))
abbrev i52:BE:=lV
abbrev o52:BE:=⟨[(0,.agg [.v tI,.ref 1])],[WT,.sl 1 Y5]⟩
def c52:QB:=⟨i52,o52,(i52.un OJ)⟩
def C52:Zo:=⟨T,Pw (SP.l [gx,nu,AUW]),CD [(7,[0,1,2,5]),(9,[1,2]),(12,[0,1,2])]⟩
def L52:List (Lp o52):=[⟨11,⟨[(4,UU),(5,xP4)],[WT,.mem [.v tI,.ref 2],ka,.mem [.v tI,.ref 4],.sl 1 Y5]⟩,G_⟩]
abbrev xI:BE:=⟨[(4,UU),(5,xP4)],[WT,.mem [.v tI,.ref 2],ka,.mem [.v tI,.ref 4],.sl 1 Y5]⟩
theorem AN5(n:Nat)(v:xI.V)(ω:List Bool):Hf C52 c52 Tryz.f52 (LN 1 L52 n) 11 ω (xI.st 68 v)=xI.un (Qv (G_ n)) v:=by rcases ω with _|⟨_|_,_|⟨_|_,_|⟨_|_,_⟩⟩⟩<;>kernel_rfl
def cY(ω:List Bool):Prop:= ∀(n:Nat) (v:i52.V),Cy C52 c52 Tryz.f52 (LN 1 L52 n) ω v=i52.un (OB (G_ n)) v
theorem AVL:cY []:=by delta cY;intros;kernel_rfl
theorem ATD:cY (false::[]):=by delta cY;intros;kernel_rfl
theorem AVz:cY (false::false::[]):=by delta cY;intros;kernel_rfl
theorem AVS:cY (false::false::false::[]):=by delta cY;intros;kernel_rfl
theorem ASO(ω:List Bool):cY (false::false::false::false::ω):=by delta cY;intros;kernel_rfl
theorem ATc(ω:List Bool):cY (false::false::false::true::ω):=by delta cY;intros;kernel_rfl
theorem AS1(ω:List Bool):cY (false::false::true::ω):=by delta cY;intros;kernel_rfl
theorem ATO(ω:List Bool):cY (false::true::ω):=by delta cY;intros;kernel_rfl
theorem AUs(ω:List Bool):cY (true::ω):=by delta cY;intros;kernel_rfl
theorem e52(n:Nat)(ω:List Bool)(v:i52.V):Cy C52 c52 Tryz.f52 (LN 1 L52 n) ω v=i52.un (OB (G_ n)) v:=(AF AVL (AF ATD (AF AVz (AF AVS ASO ATc) AS1) ATO) AUs) ω n v
def s52:SQ:=mk Tryz.func52 i52 o52 OJ [gx,nu,AUW] [(7,[0,1,2,5]),(9,[1,2]),(12,[0,1,2])] L52 (hJ:= .cons (fun _=>rfl) AN5 (.nil)) (he:=e52 Ab)
abbrev nQ:BE:=sB
abbrev AAG:BE:=dM
def ASb:SQ:=mk Tryz.func223 nQ AAG Mn [yR,w6] [] [⟨3,⟨[(2,J5),(5,xP7),(6,BM)],AC_⟩,M_⟩]
abbrev i141:BE:=lV
abbrev AOj:BE:=ALy
def c141:QB:=⟨i141,AOj,(i141.un ME)⟩
def AQt:Zo:=⟨T,Pw (SP.l [gx,s48,um,ANv,APb,AOl,ANE,AOR,ASb,ALC]),CD [(6,[1,2,3,4,5,6,7,8,9]),(11,[0,1,2,3,4,5,6,7,8,9]),(17,[1,2,3,4,5,6,7,8,9])]⟩
def sU:List (Lp AOj):=[⟨4,⟨[(0,J5),(3,UU),(4,xP9),(5,AAg),(6,BM),(7,BM)],zK⟩,B9⟩,⟨15,⟨[(0,J5),(3,UU),(4,xP9),(5,AAg),(12,BM)],zK⟩,BO⟩]
abbrev bK:BE:=⟨[(0,J5),(3,UU),(4,xP9),(5,AAg),(6,BM),(7,BM)],zK⟩
abbrev WL:BE:=⟨[(0,J5),(3,UU),(4,xP9),(5,AAg),(12,BM)],zK⟩
def Jy(ω:List Bool):Prop:= ∀(g24:Int→List Int→Int→Int→Option Hy) (g48:Int→List Int→Int→Int→Option NN) (kf:Int→Int→Option PG) (jv:List Int→Int→Int→Option CU) (mP:Int→Int→Option Lq) (jj:ABA→ABT→Int→AAZ→Option F4) (kO:ABa→Int→Option Fm) (jo:ABA→ABT→List Int→Option Fo) (kp:ABA→ABT→Option Gw) (Si:ABA→ABT→Int→Int→Option Dj) (n:Nat) (v:bK.V),Hf ⟨T,Pw [(24,⟨i24,o24,i24.un g24⟩),(48,⟨i48,o48,i48.un g48⟩),(135,⟨oN,AAV,oN.un kf⟩),(136,⟨nR,AAv,nR.un jv⟩),(197,⟨qJ,AAU,qJ.un mP⟩),(199,⟨nY,AAK,nY.un jj⟩),(200,⟨pB,ze,pB.un kO⟩),(201,⟨i201,zr,i201.un jo⟩),(223,⟨nQ,AAG,nQ.un kp⟩),(224,⟨VT,kj,VT.un Si⟩)],CD [(6,[1,2,3,4,5,6,7,8,9]),(11,[0,1,2,3,4,5,6,7,8,9]),(17,[1,2,3,4,5,6,7,8,9])]⟩ c141 Tryz.f141 (LN 1 sU n) 4 ω (bK.st 85 v)=bK.un (fun(t6:Int) (t7:Int) (AM:AAF) (AE:Int) (Ac:Int) (BI:AAF) (Az:Int) (Iy:Int) (K_:Int) (Pk:Bool) (b3:AAF) (b4:AAZ) (b5:List AAF) (LM:Int) (KA:Int) (LL:Bool) (b7:AAF) (b8:AAZ) (b9:List AAF)=>
 cond (decide (t7<t6))
  ((g24 (BI.length:Int) AM AE Ac).bind fun u4=>
  (jv u4.2.1.1 u4.2.1.2.1 u4.2.1.2.2.1).bind fun u5=>
  (kO (u5.2.2.1,u5.2.2.2.1,u5.1.1.2.2.1,()) KA).bind fun u6=>
  (jj (BI,Az,()) (LM,KA,b7,b8,LL,b9,()) u4.1.1 u6.2.1).bind fun u7=>
  cond (u7.1.1.2.1)
   ((B9 n) t6 (AU (t7+1)) u5.2.1.1 u5.2.1.2.1 u5.2.1.2.2.1 BI Az Iy K_ Pk b3 b4 b5 u7.1.1.1.1 u7.1.1.1.2.1 u7.1.1.1.2.2.2.2.1 u7.2.1 u7.2.2.1 u7.2.2.2.1)
  ((B9 n) t6 (AU (t7+1)) u5.2.1.1 u5.2.1.2.1 u5.2.1.2.2.1 BI Az Iy K_ Pk b3 b4 b5 LM KA LL b7 b8 b9))
 ((g48 3 AM AE Ac).bind fun Vu=>
 cond (Vu.1.1)
  (some (((LM,KA,(),(),LL,(),()),()),((Vu.2.1.1,Vu.2.1.2.1,Vu.2.1.2.2.1,()),b7,b8,b9,())))
 ((kp (BI,Az,()) (LM,KA,b7,b8,LL,b9,())).bind fun eY=>
 (jo (BI,Az,()) (LM,KA,b7,b8,LL,b9,()) eY.2.1).bind fun MU=>
 cond (MU.1.1.2.1)
  ((BO n) 0 Vu.2.1.1 Vu.2.1.2.1 Vu.2.1.2.2.1 BI Az Iy K_ Pk b3 b4 b5 MU.1.1.1.1 MU.1.1.1.2.1 MU.1.1.1.2.2.2.2.1 MU.2.1 MU.2.2.1 MU.2.2.2.1)
 ((BO n) 0 Vu.2.1.1 Vu.2.1.2.1 Vu.2.1.2.2.1 BI Az Iy K_ Pk b3 b4 b5 LM KA LL b7 b8 b9)))) v
theorem AD9:Jy []:=by delta Jy;intros;kernel_rfl
theorem AD7(ω:List Bool):Jy (false::ω):=by delta Jy;intros;kernel_rfl
theorem ADm:Jy (true::[]):=by delta Jy;intros;kernel_rfl
theorem AEU(ω:List Bool):Jy (true::false::ω):=by delta Jy;intros;kernel_rfl
theorem ABv:Jy (true::true::[]):=by delta Jy;intros;kernel_rfl
theorem AEO(ω:List Bool):Jy (true::true::false::ω):=by delta Jy;intros;kernel_rfl
theorem ADh:Jy (true::true::true::[]):=by delta Jy;intros;kernel_rfl
theorem ACK(ω:List Bool):Jy (true::true::true::false::ω):=by delta Jy;intros;kernel_rfl
theorem AC1(ω:List Bool):Jy (true::true::true::true::ω):=by delta Jy;intros;kernel_rfl
theorem APq(g24:Int→List Int→Int→Int→Option Hy)(g48:Int→List Int→Int→Int→Option NN)(kf:Int→Int→Option PG)(jv:List Int→Int→Int→Option CU)(mP:Int→Int→Option Lq)(jj:ABA→ABT→Int→AAZ→Option F4)(kO:ABa→Int→Option Fm)(jo:ABA→ABT→List Int→Option Fo)(kp:ABA→ABT→Option Gw)(Si:ABA→ABT→Int→Int→Option Dj)(n:Nat)(v:bK.V)(ω:List Bool):Hf ⟨T,Pw [(24,⟨i24,o24,i24.un g24⟩),(48,⟨i48,o48,i48.un g48⟩),(135,⟨oN,AAV,oN.un kf⟩),(136,⟨nR,AAv,nR.un jv⟩),(197,⟨qJ,AAU,qJ.un mP⟩),(199,⟨nY,AAK,nY.un jj⟩),(200,⟨pB,ze,pB.un kO⟩),(201,⟨i201,zr,i201.un jo⟩),(223,⟨nQ,AAG,nQ.un kp⟩),(224,⟨VT,kj,VT.un Si⟩)],CD [(6,[1,2,3,4,5,6,7,8,9]),(11,[0,1,2,3,4,5,6,7,8,9]),(17,[1,2,3,4,5,6,7,8,9])]⟩ c141 Tryz.f141 (LN 1 sU n) 4 ω (bK.st 85 v)=bK.un (fun(t6:Int) (t7:Int) (AM:AAF) (AE:Int) (Ac:Int) (BI:AAF) (Az:Int) (Iy:Int) (K_:Int) (Pk:Bool) (b3:AAF) (b4:AAZ) (b5:List AAF) (LM:Int) (KA:Int) (LL:Bool) (b7:AAF) (b8:AAZ) (b9:List AAF)=>
 cond (decide (t7<t6))
  ((g24 (BI.length:Int) AM AE Ac).bind fun u4=>
  (jv u4.2.1.1 u4.2.1.2.1 u4.2.1.2.2.1).bind fun u5=>
  (kO (u5.2.2.1,u5.2.2.2.1,u5.1.1.2.2.1,()) KA).bind fun u6=>
  (jj (BI,Az,()) (LM,KA,b7,b8,LL,b9,()) u4.1.1 u6.2.1).bind fun u7=>
  cond (u7.1.1.2.1)
   ((B9 n) t6 (AU (t7+1)) u5.2.1.1 u5.2.1.2.1 u5.2.1.2.2.1 BI Az Iy K_ Pk b3 b4 b5 u7.1.1.1.1 u7.1.1.1.2.1 u7.1.1.1.2.2.2.2.1 u7.2.1 u7.2.2.1 u7.2.2.2.1)
  ((B9 n) t6 (AU (t7+1)) u5.2.1.1 u5.2.1.2.1 u5.2.1.2.2.1 BI Az Iy K_ Pk b3 b4 b5 LM KA LL b7 b8 b9))
 ((g48 3 AM AE Ac).bind fun Vu=>
 cond (Vu.1.1)
  (some (((LM,KA,(),(),LL,(),()),()),((Vu.2.1.1,Vu.2.1.2.1,Vu.2.1.2.2.1,()),b7,b8,b9,())))
 ((kp (BI,Az,()) (LM,KA,b7,b8,LL,b9,())).bind fun eY=>
 (jo (BI,Az,()) (LM,KA,b7,b8,LL,b9,()) eY.2.1).bind fun MU=>
 cond (MU.1.1.2.1)
  ((BO n) 0 Vu.2.1.1 Vu.2.1.2.1 Vu.2.1.2.2.1 BI Az Iy K_ Pk b3 b4 b5 MU.1.1.1.1 MU.1.1.1.2.1 MU.1.1.1.2.2.2.2.1 MU.2.1 MU.2.2.1 MU.2.2.2.1)
 ((BO n) 0 Vu.2.1.1 Vu.2.1.2.1 Vu.2.1.2.2.1 BI Az Iy K_ Pk b3 b4 b5 LM KA LL b7 b8 b9)))) v:=(AF AD9 AD7 (AF ADm AEU (AF ABv AEO (AF ADh ACK AC1)))) ω g24 g48 kf jv mP jj kO jo kp Si n v
theorem AMm(n:Nat)(v:bK.V)(ω:List Bool):Hf AQt c141 Tryz.f141 (LN 1 sU n) 4 ω (bK.st 85 v)=bK.un (Md (B9 n) (BO n)) v:=APq AJ BF FQ GD Mk JA I5 I1 Mn EX n v ω
def HH(ω:List Bool):Prop:= ∀(g24:Int→List Int→Int→Int→Option Hy) (g48:Int→List Int→Int→Int→Option NN) (kf:Int→Int→Option PG) (jv:List Int→Int→Int→Option CU) (mP:Int→Int→Option Lq) (jj:ABA→ABT→Int→AAZ→Option F4) (kO:ABa→Int→Option Fm) (jo:ABA→ABT→List Int→Option Fo) (kp:ABA→ABT→Option Gw) (Si:ABA→ABT→Int→Int→Option Dj) (n:Nat) (v:WL.V),Hf ⟨T,Pw [(24,⟨i24,o24,i24.un g24⟩),(48,⟨i48,o48,i48.un g48⟩),(135,⟨oN,AAV,oN.un kf⟩),(136,⟨nR,AAv,nR.un jv⟩),(197,⟨qJ,AAU,qJ.un mP⟩),(199,⟨nY,AAK,nY.un jj⟩),(200,⟨pB,ze,pB.un kO⟩),(201,⟨i201,zr,i201.un jo⟩),(223,⟨nQ,AAG,nQ.un kp⟩),(224,⟨VT,kj,VT.un Si⟩)],CD [(6,[1,2,3,4,5,6,7,8,9]),(11,[0,1,2,3,4,5,6,7,8,9]),(17,[1,2,3,4,5,6,7,8,9])]⟩ c141 Tryz.f141 (LN 1 sU n) 15 ω (WL.st 85 v)=WL.un (fun(t12:Int) (AM:AAF) (AE:Int) (Ac:Int) (BI:AAF) (Az:Int) (Iy:Int) (K_:Int) (Pk:Bool) (b3:AAF) (b4:AAZ) (b5:List AAF) (LM:Int) (KA:Int) (LL:Bool) (b7:AAF) (b8:AAZ) (b9:List AAF)=>
 (g24 9 AM AE Ac).bind fun Ip=>
 cond ((decide (t12<Ip.1.1)))
  ((kf (b9.length:Int) 1).bind fun fK=>
  (g24 fK.1.1 Ip.2.1.1 Ip.2.1.2.1 Ip.2.1.2.2.1).bind fun ec=>
  (g24 (BI.length:Int) ec.2.1.1 ec.2.1.2.1 ec.2.1.2.2.1).bind fun O4=>
  (Si (BI,Az,()) (LM,KA,b7,b8,LL,b9,()) (AU (1+ec.1.1)) O4.1.1).bind fun YO=>
  cond (YO.1.1.2.1)
   ((BO n) (AU (t12+1)) O4.2.1.1 O4.2.1.2.1 O4.2.1.2.2.1 BI Az Iy K_ Pk b3 b4 b5 YO.1.1.1.1 YO.1.1.1.2.1 YO.1.1.1.2.2.2.2.1 YO.2.1 YO.2.2.1 YO.2.2.2.1)
  ((BO n) (AU (t12+1)) O4.2.1.1 O4.2.1.2.1 O4.2.1.2.2.1 BI Az Iy K_ Pk b3 b4 b5 LM KA LL b7 b8 b9))
 (some (((LM,KA,(),(),LL,(),()),()),((Ip.2.1.1,Ip.2.1.2.1,Ip.2.1.2.2.1,()),b7,b8,b9,())))) v
theorem AAN:HH []:=by delta HH;intros;kernel_rfl
theorem AAn(ω:List Bool):HH (false::ω):=by delta HH;intros;kernel_rfl
theorem zg:HH (true::[]):=by delta HH;intros;kernel_rfl
theorem ABN(ω:List Bool):HH (true::false::ω):=by delta HH;intros;kernel_rfl
theorem zh:HH (true::true::[]):=by delta HH;intros;kernel_rfl
theorem AAC(ω:List Bool):HH (true::true::false::ω):=by delta HH;intros;kernel_rfl
theorem AAl:HH (true::true::true::[]):=by delta HH;intros;kernel_rfl
theorem zb(ω:List Bool):HH (true::true::true::false::ω):=by delta HH;intros;kernel_rfl
theorem AAb(ω:List Bool):HH (true::true::true::true::ω):=by delta HH;intros;kernel_rfl
theorem AHb(g24:Int→List Int→Int→Int→Option Hy)(g48:Int→List Int→Int→Int→Option NN)(kf:Int→Int→Option PG)(jv:List Int→Int→Int→Option CU)(mP:Int→Int→Option Lq)(jj:ABA→ABT→Int→AAZ→Option F4)(kO:ABa→Int→Option Fm)(jo:ABA→ABT→List Int→Option Fo)(kp:ABA→ABT→Option Gw)(Si:ABA→ABT→Int→Int→Option Dj)(n:Nat)(v:WL.V)(ω:List Bool):Hf ⟨T,Pw [(24,⟨i24,o24,i24.un g24⟩),(48,⟨i48,o48,i48.un g48⟩),(135,⟨oN,AAV,oN.un kf⟩),(136,⟨nR,AAv,nR.un jv⟩),(197,⟨qJ,AAU,qJ.un mP⟩),(199,⟨nY,AAK,nY.un jj⟩),(200,⟨pB,ze,pB.un kO⟩),(201,⟨i201,zr,i201.un jo⟩),(223,⟨nQ,AAG,nQ.un kp⟩),(224,⟨VT,kj,VT.un Si⟩)],CD [(6,[1,2,3,4,5,6,7,8,9]),(11,[0,1,2,3,4,5,6,7,8,9]),(17,[1,2,3,4,5,6,7,8,9])]⟩ c141 Tryz.f141 (LN 1 sU n) 15 ω (WL.st 85 v)=WL.un (fun(t12:Int) (AM:AAF) (AE:Int) (Ac:Int) (BI:AAF) (Az:Int) (Iy:Int) (K_:Int) (Pk:Bool) (b3:AAF) (b4:AAZ) (b5:List AAF) (LM:Int) (KA:Int) (LL:Bool) (b7:AAF) (b8:AAZ) (b9:List AAF)=>
 (g24 9 AM AE Ac).bind fun Ip=>
 cond ((decide (t12<Ip.1.1)))
  ((kf (b9.length:Int) 1).bind fun fK=>
  (g24 fK.1.1 Ip.2.1.1 Ip.2.1.2.1 Ip.2.1.2.2.1).bind fun ec=>
  (g24 (BI.length:Int) ec.2.1.1 ec.2.1.2.1 ec.2.1.2.2.1).bind fun O4=>
  (Si (BI,Az,()) (LM,KA,b7,b8,LL,b9,()) (AU (1+ec.1.1)) O4.1.1).bind fun YO=>
  cond (YO.1.1.2.1)
   ((BO n) (AU (t12+1)) O4.2.1.1 O4.2.1.2.1 O4.2.1.2.2.1 BI Az Iy K_ Pk b3 b4 b5 YO.1.1.1.1 YO.1.1.1.2.1 YO.1.1.1.2.2.2.2.1 YO.2.1 YO.2.2.1 YO.2.2.2.1)
  ((BO n) (AU (t12+1)) O4.2.1.1 O4.2.1.2.1 O4.2.1.2.2.1 BI Az Iy K_ Pk b3 b4 b5 LM KA LL b7 b8 b9))
 (some (((LM,KA,(),(),LL,(),()),()),((Ip.2.1.1,Ip.2.1.2.1,Ip.2.1.2.2.1,()),b7,b8,b9,())))) v:=(AF AAN AAn (AF zg ABN (AF zh AAC (AF AAl zb AAb)))) ω g24 g48 kf jv mP jj kO jo kp Si n v
theorem AFV(n:Nat)(v:WL.V)(ω:List Bool):Hf AQt c141 Tryz.f141 (LN 1 sU n) 15 ω (WL.st 85 v)=WL.un (Lf (B9 n) (BO n)) v:=AHb AJ BF FQ GD Mk JA I5 I1 Mn EX n v ω
theorem AX2(g24:Int→List Int→Int→Int→Option Hy)(g48:Int→List Int→Int→Int→Option NN)(kf:Int→Int→Option PG)(jv:List Int→Int→Int→Option CU)(mP:Int→Int→Option Lq)(jj:ABA→ABT→Int→AAZ→Option F4)(kO:ABa→Int→Option Fm)(jo:ABA→ABT→List Int→Option Fo)(kp:ABA→ABT→Option Gw)(Si:ABA→ABT→Int→Int→Option Dj)(n:Nat)(ω:List Bool)(v:i141.V):Cy ⟨T,Pw [(24,⟨i24,o24,i24.un g24⟩),(48,⟨i48,o48,i48.un g48⟩),(135,⟨oN,AAV,oN.un kf⟩),(136,⟨nR,AAv,nR.un jv⟩),(197,⟨qJ,AAU,qJ.un mP⟩),(199,⟨nY,AAK,nY.un jj⟩),(200,⟨pB,ze,pB.un kO⟩),(201,⟨i201,zr,i201.un jo⟩),(223,⟨nQ,AAG,nQ.un kp⟩),(224,⟨VT,kj,VT.un Si⟩)],CD [(6,[1,2,3,4,5,6,7,8,9]),(11,[0,1,2,3,4,5,6,7,8,9]),(17,[1,2,3,4,5,6,7,8,9])]⟩ c141 Tryz.f141 (LN 1 sU n) ω v=i141.un (fun(p1:ABA) (AM:AAF) (AE:Int) (Ac:Int)=>
 (g24 2 AM AE Ac).bind fun u1=>
 (mP (AU (1+u1.1.1)) 4).bind fun u2=>
 (g24 5 u1.2.1.1 u1.2.1.2.1 u1.2.1.2.2.1).bind fun u3=>
 (B9 n) u3.1.1 0 u3.2.1.1 u3.2.1.2.1 u3.2.1.2.2.1 p1.1 p1.2.1 0 0 false [] [] [] u2.1.1.1 u2.1.1.2.1 u2.1.1.2.2.2.2.1 u2.2.1 u2.2.2.1 u2.2.2.2.1) v:=by kernel_rfl
theorem AW6(n:Nat)(ω:List Bool)(v:i141.V):Cy AQt c141 Tryz.f141 (LN 1 sU n) ω v=i141.un (Mb (B9 n) (BO n)) v:=AX2 AJ BF FQ GD Mk JA I5 I1 Mn EX n ω v
def AaO:SQ:=mk Tryz.func141 i141 AOj ME [gx,s48,um,ANv,APb,AOl,ANE,AOR,ASb,ALC] [(6,[1,2,3,4,5,6,7,8,9]),(11,[0,1,2,3,4,5,6,7,8,9]),(17,[1,2,3,4,5,6,7,8,9])] sU (hJ:= .cons (fun _=>rfl) AMm (.cons (fun _=>rfl) AFV (.nil))) (he:=AW6 Ab)
abbrev i53:BE:=lV
abbrev o53:BE:=ALy
def s53:SQ:=mk Tryz.func53 i53 o53 Uq [gx,s49,nu,ASn,AaO] [(8,[1,2,4,5]),(10,[1,2,4,6])] [] (he:=fun ω v=>by rcases ω with _|⟨_|_,_|⟨_|_,_⟩⟩<;>kernel_rfl)
abbrev i54:BE:=fO
abbrev o54:BE:=⟨[(0,.agg [.v tI,.v tI,.ref 1])],[WT,.sl 9 Y8]⟩
def s54:SQ:=mk Tryz.func54 i54 o54 Jq [gx,s55,nu] [(5,[1,2])] [⟨3,⟨[(0,J5),(2,UU),(3,xP4),(4,BM)],[WT,.mem [.v tI,.v tI,.ref 2],.sl 9 Y8,.mem [.v tI,.v tI,.ref 4],.sl 9 Y8]⟩,HJ⟩] (hJ:= .cons (fun _=>rfl) (fun n v ω=>by rcases ω with _|⟨_|_,_|⟨_|_,_|⟨_|_,_⟩⟩⟩<;>kernel_rfl) (.nil))
abbrev i56:BE:=fO
abbrev o56:BE:=ALk
def s56:SQ:=mk Tryz.func56 i56 o56 Q9 [gx,nu,AUY] [(6,[1,4])] []
abbrev i23:BE:=⟨[(0,J5),(1,.c (.sl false tU))],j6⟩
abbrev o23:BE:=⟨[(0,.agg [.ref 1,.v tI,.ref 2,.ref 3,.ref 4,.v tI,.ref 5,.ref 6,.ref 7,.ref 8,.v .bool])],[WT,DC,Ul,DC,.sl 1 Y3,dW,om,Nk,KB]⟩
def c23:QB:=⟨i23,o23,(i23.un IP)⟩
def C23:Zo:=⟨T,Pw (SP.l [gx,s46,s47,s49,s50,s51,s52,s53,s54,s55,s56]),CD [(6,[1,11,12,14,15,16,17,18,19,20,21]),(10,[1,11,12,13,14,15,17,18,19,20]),(12,[1,11,12,13,14,15,16,18,19,20]),(14,[1,11,12,13,14,15,16,17,19,20,21]),(16,[1,11,12,13,14,15,16,17,18,20])]⟩
def L23:List (Lp o23):=[]
def ic(ω:List Bool):Prop:= ∀(g24:Int→List Int→Int→Int→Option Hy) (g46:Int→List Int→Int→Int→Option DH) (g47:List Int→Int→Int→Option ZU) (g49:ABA→List Int→Int→Int→Option HM) (g50:List Int→Int→Int→Option NR) (g51:ABA→List Int→Int→Int→Option NO) (g52:ABA→List Int→Int→Int→Option NW) (g53:ABA→List Int→Int→Int→Option ZS) (g54:List Int→Int→Int→Option GM) (g55:List Int→Int→Int→Option Qp) (g56:List Int→Int→Int→Option Zj) (n:Nat) (v:i23.V),Cy ⟨T,Pw [(24,⟨i24,o24,i24.un g24⟩),(46,⟨i46,o46,i46.un g46⟩),(47,⟨i47,o47,i47.un g47⟩),(49,⟨i49,o49,i49.un g49⟩),(50,⟨i50,o50,i50.un g50⟩),(51,⟨i51,o51,i51.un g51⟩),(52,⟨i52,o52,i52.un g52⟩),(53,⟨i53,o53,i53.un g53⟩),(54,⟨i54,o54,i54.un g54⟩),(55,⟨i55,o55,i55.un g55⟩),(56,⟨i56,o56,i56.un g56⟩)],CD [(6,[1,11,12,14,15,16,17,18,19,20,21]),(10,[1,11,12,13,14,15,17,18,19,20]),(12,[1,11,12,13,14,15,16,18,19,20]),(14,[1,11,12,13,14,15,16,17,19,20,21]),(16,[1,11,12,13,14,15,16,17,18,20])]⟩ c23 Tryz.f23 (LN 1 L23 n) ω v=i23.un (fun(p1:AAF) (AM:AAF) (AE:Int) (Ac:Int)=>
 (g47 p1 40 90).bind fun u1=>
 (g46 u1.1.1 AM AE Ac).bind fun u2=>
 let x4:AAF:=u2.2.2.2.2.2.2.2.2.2.2.2.1
 let x5:AAT:=u2.2.2.2.2.2.2.2.2.2.2.2.2.1
 let x6:AAF:=u2.2.2.2.2.2.2.2.2.2.2.2.2.2.1
 let x7:AAP:=u2.2.2.2.2.2.2.2.2.2.2.2.2.2.2.1
 let x8:AAj:=u2.2.2.2.2.2.2.2.2.2.2.2.2.2.2.2.1
 let x9:AAo:=u2.2.2.2.2.2.2.2.2.2.2.2.2.2.2.2.2.1
 let Ym:AAs:=u2.2.2.2.2.2.2.2.2.2.2.2.2.2.2.2.2.2.1
 let bl:AAa:=u2.2.2.2.2.2.2.2.2.2.2.2.2.2.2.2.2.2.2.1
 (g24 40 u2.2.1.1 u2.2.1.2.1 u2.2.1.2.2.1).bind fun D7=>
 cond (D7.1.1==0)
  ((g49 (x4,u2.1.1.2.2.1.2.1,()) D7.2.1.1 D7.2.1.2.1 D7.2.1.2.2.1).bind fun Mi=>
  some ((((),u2.1.1.2.2.1.2.1,(),(),(),u2.1.1.2.2.1.2.2.2.2.2.1,(),(),(),(),u2.1.1.2.2.1.2.2.2.2.2.2.2.2.2.2.1,()),()),((Mi.2.1.1,Mi.2.1.2.1,Mi.2.1.2.2.1,()),x4,x5,Mi.2.2.1,x7,x8,x9,Ym,bl,())))
 (cond (D7.1.1==1)
  ((g50 D7.2.1.1 D7.2.1.2.1 D7.2.1.2.2.1).bind fun Kc=>
  if(0:Int)≤(0:Int)∧(0:Int)<(x5.length:Int)then(
  some ((((),u2.1.1.2.2.1.2.1,(),(),(),u2.1.1.2.2.1.2.2.2.2.2.1,(),(),(),(),u2.1.1.2.2.1.2.2.2.2.2.2.2.2.2.2.1,()),()),((Kc.2.1.1,Kc.2.1.2.1,Kc.2.1.2.2.1,()),x4,(x5.set 0 (Kc.2.2.1,Kc.2.2.2.1,Kc.1.1.2.2.1,())),x6,x7,x8,x9,Ym,bl,())))else none)
 (cond (D7.1.1==2)
  ((g51 (x4,u2.1.1.2.2.1.2.1,()) D7.2.1.1 D7.2.1.2.1 D7.2.1.2.2.1).bind fun u16=>
  some ((((),u2.1.1.2.2.1.2.1,(),(),(),u16.1.1.2.1,(),(),(),(),u2.1.1.2.2.1.2.2.2.2.2.2.2.2.2.2.1,()),()),((u16.2.1.1,u16.2.1.2.1,u16.2.1.2.2.1,()),x4,x5,x6,u16.2.2.1,x8,x9,Ym,bl,())))
 (cond (D7.1.1==3)
  ((g52 (x4,u2.1.1.2.2.1.2.1,()) D7.2.1.1 D7.2.1.2.1 D7.2.1.2.2.1).bind fun X4=>
  if x8.length+1≤Go.M.DF then(
  some ((((),u2.1.1.2.2.1.2.1,(),(),(),u2.1.1.2.2.1.2.2.2.2.2.1,(),(),(),(),u2.1.1.2.2.1.2.2.2.2.2.2.2.2.2.2.1,()),()),((X4.2.1.1,X4.2.1.2.1,X4.2.1.2.2.1,()),x4,x5,x6,x7,(x8++[(X4.1.1.1,X4.2.2.1,())]),x9,Ym,bl,())))else none)
 (cond (D7.1.1==4)
  ((g53 (x4,u2.1.1.2.2.1.2.1,()) D7.2.1.1 D7.2.1.2.1 D7.2.1.2.2.1).bind fun Ip=>
  if x9.length+1≤Go.M.DF then(
  some ((((),u2.1.1.2.2.1.2.1,(),(),(),u2.1.1.2.2.1.2.2.2.2.2.1,(),(),(),(),u2.1.1.2.2.1.2.2.2.2.2.2.2.2.2.2.1,()),()),((Ip.2.1.1,Ip.2.1.2.1,Ip.2.1.2.2.1,()),x4,x5,x6,x7,x8,(x9++[(Ip.1.1.1,Ip.1.1.2.1,Ip.2.2.1,Ip.2.2.2.1,Ip.1.1.2.2.2.2.1,Ip.2.2.2.2.1,())]),Ym,bl,())))else none)
 (cond (D7.1.1==5)
  ((g54 D7.2.1.1 D7.2.1.2.1 D7.2.1.2.2.1).bind fun aT=>
  if(0:Int)≤(0:Int)∧(0:Int)<(Ym.length:Int)then(
  some ((((),u2.1.1.2.2.1.2.1,(),(),(),u2.1.1.2.2.1.2.2.2.2.2.1,(),(),(),(),u2.1.1.2.2.1.2.2.2.2.2.2.2.2.2.2.1,()),()),((aT.2.1.1,aT.2.1.2.1,aT.2.1.2.2.1,()),x4,x5,x6,x7,x8,x9,(Ym.set 0 (aT.1.1.1,aT.1.1.2.1,aT.2.2.1,())),bl,())))else none)
 (cond (D7.1.1==6)
  ((g55 D7.2.1.1 D7.2.1.2.1 D7.2.1.2.2.1).bind fun Zq=>
  if bl.length+1≤Go.M.DF then(
  some ((((),u2.1.1.2.2.1.2.1,(),(),(),u2.1.1.2.2.1.2.2.2.2.2.1,(),(),(),(),u2.1.1.2.2.1.2.2.2.2.2.2.2.2.2.2.1,()),()),((Zq.2.1.1,Zq.2.1.2.1,Zq.2.1.2.2.1,()),x4,x5,x6,x7,x8,x9,Ym,(bl++[(Zq.1.1,[],false,())]),())))else none)
 (cond (D7.1.1==7)
  (some ((((),u2.1.1.2.2.1.2.1,(),(),(),u2.1.1.2.2.1.2.2.2.2.2.1,(),(),(),(),!u2.1.1.2.2.1.2.2.2.2.2.2.2.2.2.2.1,()),()),((D7.2.1.1,D7.2.1.2.1,D7.2.1.2.2.1,()),x4,x5,x6,x7,x8,x9,Ym,bl,())))
 (cond (D7.1.1==8)
  ((g56 D7.2.1.1 D7.2.1.2.1 D7.2.1.2.2.1).bind fun ld=>
  some ((((),ld.1.1.2.1,(),(),(),u2.1.1.2.2.1.2.2.2.2.2.1,(),(),(),(),u2.1.1.2.2.1.2.2.2.2.2.2.2.2.2.2.1,()),()),((ld.2.1.1,ld.2.1.2.1,ld.2.1.2.2.1,()),ld.2.2.1,x5,x6,x7,x8,x9,Ym,bl,())))
 (some ((((),u2.1.1.2.2.1.2.1,(),(),(),u2.1.1.2.2.1.2.2.2.2.2.1,(),(),(),(),u2.1.1.2.2.1.2.2.2.2.2.2.2.2.2.2.1,()),()),((D7.2.1.1,D7.2.1.2.1,D7.2.1.2.2.1,()),x4,x5,x6,x7,x8,x9,Ym,bl,())))))))))))) v
theorem ASR:ic []:=by delta ic;intros;kernel_rfl
theorem AUt:ic (false::[]):=by delta ic;intros;kernel_rfl
theorem AVv:ic (false::false::[]):=by delta ic;intros;kernel_rfl
theorem AVj(ω:List Bool):ic (false::false::false::ω):=by delta ic;intros;kernel_rfl
theorem AS6(ω:List Bool):ic (false::false::true::ω):=by delta ic;intros;kernel_rfl
theorem AVZ(ω:List Bool):ic (false::true::ω):=by delta ic;intros;kernel_rfl
theorem ATp(ω:List Bool):ic (true::ω):=by delta ic;intros;kernel_rfl
theorem b23(g24:Int→List Int→Int→Int→Option Hy)(g46:Int→List Int→Int→Int→Option DH)(g47:List Int→Int→Int→Option ZU)(g49:ABA→List Int→Int→Int→Option HM)(g50:List Int→Int→Int→Option NR)(g51:ABA→List Int→Int→Int→Option NO)(g52:ABA→List Int→Int→Int→Option NW)(g53:ABA→List Int→Int→Int→Option ZS)(g54:List Int→Int→Int→Option GM)(g55:List Int→Int→Int→Option Qp)(g56:List Int→Int→Int→Option Zj)(n:Nat)(ω:List Bool)(v:i23.V):Cy ⟨T,Pw [(24,⟨i24,o24,i24.un g24⟩),(46,⟨i46,o46,i46.un g46⟩),(47,⟨i47,o47,i47.un g47⟩),(49,⟨i49,o49,i49.un g49⟩),(50,⟨i50,o50,i50.un g50⟩),(51,⟨i51,o51,i51.un g51⟩),(52,⟨i52,o52,i52.un g52⟩),(53,⟨i53,o53,i53.un g53⟩),(54,⟨i54,o54,i54.un g54⟩),(55,⟨i55,o55,i55.un g55⟩),(56,⟨i56,o56,i56.un g56⟩)],CD [(6,[1,11,12,14,15,16,17,18,19,20,21]),(10,[1,11,12,13,14,15,17,18,19,20]),(12,[1,11,12,13,14,15,16,18,19,20]),(14,[1,11,12,13,14,15,16,17,19,20,21]),(16,[1,11,12,13,14,15,16,17,18,20])]⟩ c23 Tryz.f23 (LN 1 L23 n) ω v=i23.un (fun(p1:AAF) (AM:AAF) (AE:Int) (Ac:Int)=>
 (g47 p1 40 90).bind fun u1=>
 (g46 u1.1.1 AM AE Ac).bind fun u2=>
 let x4:AAF:=u2.2.2.2.2.2.2.2.2.2.2.2.1
 let x5:AAT:=u2.2.2.2.2.2.2.2.2.2.2.2.2.1
 let x6:AAF:=u2.2.2.2.2.2.2.2.2.2.2.2.2.2.1
 let x7:AAP:=u2.2.2.2.2.2.2.2.2.2.2.2.2.2.2.1
 let x8:AAj:=u2.2.2.2.2.2.2.2.2.2.2.2.2.2.2.2.1
 let x9:AAo:=u2.2.2.2.2.2.2.2.2.2.2.2.2.2.2.2.2.1
 let Ym:AAs:=u2.2.2.2.2.2.2.2.2.2.2.2.2.2.2.2.2.2.1
 let bl:AAa:=u2.2.2.2.2.2.2.2.2.2.2.2.2.2.2.2.2.2.2.1
 (g24 40 u2.2.1.1 u2.2.1.2.1 u2.2.1.2.2.1).bind fun D7=>
 cond (D7.1.1==0)
  ((g49 (x4,u2.1.1.2.2.1.2.1,()) D7.2.1.1 D7.2.1.2.1 D7.2.1.2.2.1).bind fun Mi=>
  some ((((),u2.1.1.2.2.1.2.1,(),(),(),u2.1.1.2.2.1.2.2.2.2.2.1,(),(),(),(),u2.1.1.2.2.1.2.2.2.2.2.2.2.2.2.2.1,()),()),((Mi.2.1.1,Mi.2.1.2.1,Mi.2.1.2.2.1,()),x4,x5,Mi.2.2.1,x7,x8,x9,Ym,bl,())))
 (cond (D7.1.1==1)
  ((g50 D7.2.1.1 D7.2.1.2.1 D7.2.1.2.2.1).bind fun Kc=>
  if(0:Int)≤(0:Int)∧(0:Int)<(x5.length:Int)then(
  some ((((),u2.1.1.2.2.1.2.1,(),(),(),u2.1.1.2.2.1.2.2.2.2.2.1,(),(),(),(),u2.1.1.2.2.1.2.2.2.2.2.2.2.2.2.2.1,()),()),((Kc.2.1.1,Kc.2.1.2.1,Kc.2.1.2.2.1,()),x4,(x5.set 0 (Kc.2.2.1,Kc.2.2.2.1,Kc.1.1.2.2.1,())),x6,x7,x8,x9,Ym,bl,())))else none)
 (cond (D7.1.1==2)
  ((g51 (x4,u2.1.1.2.2.1.2.1,()) D7.2.1.1 D7.2.1.2.1 D7.2.1.2.2.1).bind fun u16=>
  some ((((),u2.1.1.2.2.1.2.1,(),(),(),u16.1.1.2.1,(),(),(),(),u2.1.1.2.2.1.2.2.2.2.2.2.2.2.2.2.1,()),()),((u16.2.1.1,u16.2.1.2.1,u16.2.1.2.2.1,()),x4,x5,x6,u16.2.2.1,x8,x9,Ym,bl,())))
 (cond (D7.1.1==3)
  ((g52 (x4,u2.1.1.2.2.1.2.1,()) D7.2.1.1 D7.2.1.2.1 D7.2.1.2.2.1).bind fun X4=>
  if x8.length+1≤Go.M.DF then(
  some ((((),u2.1.1.2.2.1.2.1,(),(),(),u2.1.1.2.2.1.2.2.2.2.2.1,(),(),(),(),u2.1.1.2.2.1.2.2.2.2.2.2.2.2.2.2.1,()),()),((X4.2.1.1,X4.2.1.2.1,X4.2.1.2.2.1,()),x4,x5,x6,x7,(x8++[(X4.1.1.1,X4.2.2.1,())]),x9,Ym,bl,())))else none)
 (cond (D7.1.1==4)
  ((g53 (x4,u2.1.1.2.2.1.2.1,()) D7.2.1.1 D7.2.1.2.1 D7.2.1.2.2.1).bind fun Ip=>
  if x9.length+1≤Go.M.DF then(
  some ((((),u2.1.1.2.2.1.2.1,(),(),(),u2.1.1.2.2.1.2.2.2.2.2.1,(),(),(),(),u2.1.1.2.2.1.2.2.2.2.2.2.2.2.2.2.1,()),()),((Ip.2.1.1,Ip.2.1.2.1,Ip.2.1.2.2.1,()),x4,x5,x6,x7,x8,(x9++[(Ip.1.1.1,Ip.1.1.2.1,Ip.2.2.1,Ip.2.2.2.1,Ip.1.1.2.2.2.2.1,Ip.2.2.2.2.1,())]),Ym,bl,())))else none)
 (cond (D7.1.1==5)
  ((g54 D7.2.1.1 D7.2.1.2.1 D7.2.1.2.2.1).bind fun aT=>
  if(0:Int)≤(0:Int)∧(0:Int)<(Ym.length:Int)then(
  some ((((),u2.1.1.2.2.1.2.1,(),(),(),u2.1.1.2.2.1.2.2.2.2.2.1,(),(),(),(),u2.1.1.2.2.1.2.2.2.2.2.2.2.2.2.2.1,()),()),((aT.2.1.1,aT.2.1.2.1,aT.2.1.2.2.1,()),x4,x5,x6,x7,x8,x9,(Ym.set 0 (aT.1.1.1,aT.1.1.2.1,aT.2.2.1,())),bl,())))else none)
 (cond (D7.1.1==6)
  ((g55 D7.2.1.1 D7.2.1.2.1 D7.2.1.2.2.1).bind fun Zq=>
  if bl.length+1≤Go.M.DF then(
  some ((((),u2.1.1.2.2.1.2.1,(),(),(),u2.1.1.2.2.1.2.2.2.2.2.1,(),(),(),(),u2.1.1.2.2.1.2.2.2.2.2.2.2.2.2.2.1,()),()),((Zq.2.1.1,Zq.2.1.2.1,Zq.2.1.2.2.1,()),x4,x5,x6,x7,x8,x9,Ym,(bl++[(Zq.1.1,[],false,())]),())))else none)
 (cond (D7.1.1==7)
  (some ((((),u2.1.1.2.2.1.2.1,(),(),(),u2.1.1.2.2.1.2.2.2.2.2.1,(),(),(),(),!u2.1.1.2.2.1.2.2.2.2.2.2.2.2.2.2.1,()),()),((D7.2.1.1,D7.2.1.2.1,D7.2.1.2.2.1,()),x4,x5,x6,x7,x8,x9,Ym,bl,())))
 (cond (D7.1.1==8)
  ((g56 D7.2.1.1 D7.2.1.2.1 D7.2.1.2.2.1).bind fun ld=>
  some ((((),ld.1.1.2.1,(),(),(),u2.1.1.2.2.1.2.2.2.2.2.1,(),(),(),(),u2.1.1.2.2.1.2.2.2.2.2.2.2.2.2.2.1,()),()),((ld.2.1.1,ld.2.1.2.1,ld.2.1.2.2.1,()),ld.2.2.1,x5,x6,x7,x8,x9,Ym,bl,())))
 (some ((((),u2.1.1.2.2.1.2.1,(),(),(),u2.1.1.2.2.1.2.2.2.2.2.1,(),(),(),(),u2.1.1.2.2.1.2.2.2.2.2.2.2.2.2.2.1,()),()),((D7.2.1.1,D7.2.1.2.1,D7.2.1.2.2.1,()),x4,x5,x6,x7,x8,x9,Ym,bl,())))))))))))) v:=(AF ASR (AF AUt (AF AVv AVj AS6) AVZ) ATp) ω g24 g46 g47 g49 g50 g51 g52 g53 g54 g55 g56 n v
theorem e23(n:Nat)(ω:List Bool)(v:i23.V):Cy C23 c23 Tryz.f23 (LN 1 L23 n) ω v=i23.un (IP) v:=b23 AJ Kx Uz FH U0 VB OJ Uq Jq FG Q9 n ω v
def s23:SQ:=mk Tryz.func23 i23 o23 IP [gx,s46,s47,s49,s50,s51,s52,s53,s54,s55,s56] [(6,[1,11,12,14,15,16,17,18,19,20,21]),(10,[1,11,12,13,14,15,17,18,19,20]),(12,[1,11,12,13,14,15,16,18,19,20]),(14,[1,11,12,13,14,15,16,17,19,20,21]),(16,[1,11,12,13,14,15,16,17,18,20])] L23 (hJ:= .nil) (he:=e23 Ab)
def s32:SQ:=mk Tryz.func32 ⟨[(0,J5),(1,.row Y12)],j6⟩ yY UF [gx,nu] [] []
def s12:SQ:=mk Tryz.func12 ABn ⟨[(0,.Nr [.inr [.ref 0,.v tI,.ref 1,.ref 2,.ref 3,.v tI,.ref 4,.ref 5,.ref 6,.ref 7,.v .bool],.inr [.v tI,.v tI,.v tI,.v tI,.v .str]])],[DC,Ul,DC,.sl 1 Y3,dW,om,Nk,KB]⟩ PZ [s10,s22,s23,s32,s33] [(5,[4,5,6,7,8,9,10,11,12])] []
abbrev i37:BE:=ALJ
abbrev o37:BE:=Cn
def gr:SQ:=mk Tryz.func37 i37 o37 A6 [] [] []
def s39:SQ:=mk Tryz.func39 zF Cn E7 [gr] [] [⟨2,⟨[(1,J5),(6,ae),(7,BM),(8,BM)],AOs⟩,Lw⟩]
def AZG:SQ:=mk Tryz.func210 lP Cn WO [gr] [] [⟨2,⟨[(0,ae),(1,BM),(7,ae),(8,BM),(9,BM)],[]⟩,KM⟩]
def sr:SQ:=mk Tryz.func121 lj Cn Dy [s39,AZG] [] []
def AJt:SQ:=mk Tryz.func217 Fe Cn Hk [gr] [] []
def AVM:SQ:=mk Tryz.func227 Fe Cn Xc [gr] [] []
def AGV:SQ:=mk Tryz.func215 Fe Cn D1 [AJt,AVM] [] []
def s38:SQ:=mk Tryz.func38 ⟨[(0,.c (.v .str))],[]⟩ Cn GC [] [] []
def qi:SQ:=mk Tryz.func126 Fe Fe FC [AGV] [] []
def AK_:SQ:=mk Tryz.func267 ⟨[(0,.row Y1)],[]⟩ Cn Ml [gr,s38,qi,AGV] [(1,[0])] []
def AYf:SQ:=mk Tryz.func211 yZ Cn Ob [AK_] [] [⟨2,⟨[(5,X8),(6,BM),(7,BM)],[]⟩,II⟩]
def AVD:SQ:=mk Tryz.func212 yZ Cn Kh [] [(4,[0])] [⟨2,⟨[(0,X8),(5,X8),(6,BM),(7,BM)],[]⟩,GK⟩]
def tD:SQ:=mk Tryz.func122 lO Cn FE [gr,AYf,AVD] [] []
abbrev i59:BE:=⟨[(0,ae)],[]⟩
abbrev o59:BE:=dM
def s59:SQ:=mk Tryz.func59 i59 o59 DI [] [] []
def AW7:SQ:=mk Tryz.func233 lP Fe Om [] [] [⟨2,⟨[(0,ae),(1,BM),(7,BM),(8,BM)],[]⟩,GA⟩]
def xF:SQ:=mk Tryz.func159 lP Cn Bq [AW7] [] []
def ASr:SQ:=mk Tryz.func268 ⟨[(0,BM),(1,.c (.mG (.cons (.sl tI) .unit)))],[]⟩ Cn RC [xF] [] []
def AaT:SQ:=mk Tryz.func276 ⟨[(0,ae),(1,AJC)],[]⟩ Fe De [ASr] [] [⟨2,⟨[(0,ae),(1,AJC),(7,BM),(8,BM)],[]⟩,B8⟩]
def AZ0:SQ:=mk Tryz.func242 ⟨[(0,qK),(1,AJC)],[DC]⟩ ALV Co [ASr,AaT] [] [⟨5,⟨[(0,qK),(1,AJC),(5,BM),(6,BM)],[DC]⟩,B4⟩]
def AE0:SQ:=mk Tryz.func213 AEH AEW NM [s59,AZ0] [] []
abbrev xn:BE:=zU
abbrev AFT:BE:=Cn
def zm:SQ:=mk Tryz.func123 xn AFT C3 [AE0] [] []
def AaA:SQ:=mk Tryz.func214 lj Fe YJ [sr,xF] [] [⟨5,⟨[(2,J5),(5,xP7),(13,ae),(14,BM),(15,BM)],AC_⟩,Oy⟩]
abbrev i124:BE:=lj
abbrev AVg:BE:=Cn
def qx:SQ:=mk Tryz.func124 i124 AVg Gn [sr,AaA] [(1,[0])] []
def s40:SQ:=mk Tryz.func40 vp Cn LY [sr,tD,zm,qx] [] [⟨4,⟨[(0,vC),(32,uU),(33,BM),(34,BM)],[]⟩,FJ⟩]
def Aag:SQ:=mk Tryz.func125 ⟨[(0,qY),(1,.row Y3)],[]⟩ Cn aq [gr,qx] [] []
abbrev i41:BE:=ABq
abbrev o41:BE:=Cn
def s41:SQ:=mk Tryz.func41 i41 o41 LB [gr,s39,Aag,qi] [(7,[0,1])] [⟨2,⟨[(2,J5),(3,UU),(9,.c (.sl false Y3)),(10,BM),(11,BM)],ALZ⟩,K9⟩]
def AXi:SQ:=mk Tryz.func216 Cn Fe az [] [] []
abbrev i127:BE:=ADf
abbrev AUU:BE:=Cn
def AAM:SQ:=mk Tryz.func127 i127 AUU GX [s38,s39,sr,qx,AXi,AJt] [(5,[0,1,2])] [⟨3,⟨[(2,J5),(3,UU),(5,BM),(9,AK4),(10,BM),(11,BM)],AL2⟩,MR⟩]
def ASj:SQ:=mk Tryz.func128 zU Cn JU [gr] [] []
end
end Go.Proofs.YtdkfcaidapdecaaGreat.Wk
