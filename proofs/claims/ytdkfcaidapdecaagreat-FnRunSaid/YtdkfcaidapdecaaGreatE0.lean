/- Each function computes what was printed: by the kernel. -/
import Derived.Test.YtdkfcaidapdecaaGreatG1
import Derived.Test.YtdkfcaidapdecaaGreatProg
import Derived.KernelRfl
set_option linter.unusedVariables false
set_option linter.unusedSimpArgs false
set_option linter.unusedSectionVars false
namespace Go.Proofs.YtdkfcaidapdecaaGreat.Wk
open Go Go.Fw Go.M Go.Proofs
noncomputable section
abbrev tI:Ty:= .int .i64
abbrev tU:Ty:= .int .u8
abbrev Y0:Ty:=(.cons (.sl tI) (.cons tI .unit))
abbrev Y1:Ty:=(.cons tI (.cons tI (.cons .bool (.cons .str .unit))))
abbrev Y2:Ty:=(.cons (.sl Y1) (.cons (.sl Y1) (.cons tI .unit)))
abbrev Y3:Ty:=(.cons (.sl tI) (.cons .bool (.cons tI .unit)))
abbrev Y4:Ty:=(.cons (.sl Y3) (.cons tI .unit))
abbrev Y5:Ty:=(.cons .str (.cons (.sl tI) (.cons .bool .unit)))
abbrev Y6:Ty:=(.cons tI (.cons (.sl Y5) .unit))
abbrev Y7:Ty:=(.cons tI (.cons tI (.cons (.sl tI) (.cons (.sl Y1) (.cons .bool (.cons (.sl (.sl tI)) .unit))))))
abbrev Y8:Ty:=(.cons tI (.cons tI (.cons .str .unit)))
abbrev Y9:Ty:=(.cons tI (.cons tI (.cons (.sl Y8) .unit)))
abbrev Y10:Ty:=(.cons tI (.cons .str (.cons .bool .unit)))
abbrev Y11:Ty:=(.cons (.sl tI) (.cons tI (.cons (.sl Y2) (.cons (.sl tI) (.cons (.sl Y3) (.cons tI (.cons (.sl Y6) (.cons (.sl Y7) (.cons (.sl Y9) (.cons (.sl Y10) (.cons .bool .unit)))))))))))
abbrev Y12:Ty:=(.cons tI (.cons tI (.cons tI (.cons tI (.cons .str .unit)))))
abbrev Y13:Ty:=(.cons (.sl tU) (.cons tI (.cons tI .unit)))
abbrev Y14:Ty:=(.cons tI (.cons .bool (.cons tI (.cons tI (.cons .bool (.cons .str .unit))))))
def T:J8:=[(3,⟨1,8,.int .i64,some tI⟩),
 (4,⟨1,1,.bool,some .bool⟩),
 (5,⟨1,1,.int .u8,some tU⟩),
 (9,⟨1,16,.str,some .str⟩),
 (22,⟨1,24,.sl 5,some (.sl tU)⟩),
 (24,⟨1,24,.sl 3,some (.sl tI)⟩),
 (26,⟨2,32,.st [(0,24),(1,3)],some Y0⟩),
 (27,⟨1,24,.sl 86,some (.sl Y2)⟩),
 (28,⟨1,24,.sl 51,some (.sl Y3)⟩),
 (30,⟨2,32,.st [(0,28),(1,3)],some Y4⟩),
 (31,⟨1,24,.sl 91,some (.sl Y6)⟩),
 (32,⟨1,24,.sl 95,some (.sl Y7)⟩),
 (33,⟨1,24,.sl 46,some (.sl Y9)⟩),
 (34,⟨1,24,.sl 100,some (.sl Y10)⟩),
 (36,⟨11,216,.st [(0,26),(2,27),(3,24),(4,30),(6,31),(7,32),(8,33),(9,34),(10,4)],some Y11⟩),
 (43,⟨5,48,.st [(0,3),(1,3),(2,3),(3,3),(4,9)],some Y12⟩),
 (44,⟨1,24,.sl 80,some (.sl Y8)⟩),
 (46,⟨3,40,.st [(0,3),(1,3),(2,44)],some Y9⟩),
 (51,⟨3,40,.st [(0,24),(1,4),(2,3)],some Y3⟩),
 (52,⟨1,24,.sl 43,some (.sl Y12)⟩),
 (60,⟨1,8,.ptr 82,none⟩),
 (80,⟨3,32,.st [(0,3),(1,3),(2,9)],some Y8⟩),
 (82,⟨3,40,.st [(0,22),(1,3),(2,3)],some Y13⟩),
 (84,⟨1,24,.sl 134,some (.sl Y1)⟩),
 (86,⟨3,56,.st [(0,84),(1,84),(2,3)],some Y2⟩),
 (89,⟨1,24,.sl 137,some (.sl Y5)⟩),
 (91,⟨2,32,.st [(0,3),(1,89)],some Y6⟩),
 (93,⟨1,24,.sl 24,some (.sl (.sl tI))⟩),
 (95,⟨6,96,.st [(0,3),(1,3),(2,24),(3,84),(4,4),(5,93)],some Y7⟩),
 (100,⟨3,32,.st [(0,3),(1,9),(2,4)],some Y10⟩),
 (115,⟨1,8,.other,none⟩),
 (117,⟨1,8,.ptr 36,none⟩),
 (134,⟨4,40,.st [(0,3),(1,3),(2,4),(3,9)],some Y1⟩),
 (137,⟨3,48,.st [(0,9),(1,24),(2,4)],some Y5⟩),
 (138,⟨1,8,.int .u64,some (.int .u64)⟩),
 (144,⟨1,8,.other,none⟩),
 (174,⟨1,24,.sl 177,some (.sl Y14)⟩),
 (177,⟨6,56,.st [(0,3),(1,4),(2,134)],some Y14⟩),
 (182,⟨1,24,.sl 9,some (.sl .str)⟩),
 (193,⟨1,24,.sl 4,some (.sl .bool)⟩),
 (196,⟨1,8,.other,none⟩),
 (228,⟨1,8,.other,none⟩),
 (229,⟨1,8,.ptr 46,none⟩)]
theorem tOk:Ei Tryz.prog T:=py (by kernel_rfl)
theorem mx:Tryz.prog.follows .mixedOrders=true:=by kernel_rfl
abbrev SQ:=SP Tryz.prog
def mk{f:Nat}{fn:Func}(hf:Tryz.prog.funcs[f]? =some fn)(i o:A6)(g:i.Cu (Option o.V))(l:List SQ)(h:List AFk)(L:List (Lp o))
  (hJ:Xo ⟨T,Ps (SP.l l),B3 h⟩ ⟨i,o,i.un g⟩ fn (K_ i.G6.length L) L:=by
   repeat refine Xo.cons (fun _=>rfl) (fun _ _ _=>by kernel_rfl) ?_
   exact Xo.nil)
  (he:∀ω v,Ci ⟨T,Ps (SP.l l),B3 h⟩ ⟨i,o,i.un g⟩ fn (K_ i.G6.length L AX) ω v=i.un g v:=by intro ω v;kernel_rfl)
  (hL:iq fn=Lp.ls L:=by kernel_rfl) (hd:decide (Lp.ls L).Nodup=true:=by kernel_rfl) (hc:im fn ⟨i,o,i.un g⟩=true:=by kernel_rfl):SQ:=
 mkP tOk mx hf i o g l h L AX hL hd hc hJ he
abbrev xP0:XP:= .c (.sl false tU)
abbrev xP1:XP:= .c (.v .bool)
abbrev Jp:XP:= .c (.ptr 0 0)
abbrev BI:XP:= .c (.v tI)
abbrev Tk:XP:= .c (.ptr 1 0)
abbrev xP5:XP:= .c (.ptr 3 0)
abbrev rq:XP:= .row Y0
abbrev aW:XP:= .c (.sl false tI)
abbrev xP8:XP:= .c (.ref 1)
abbrev px:XP:= .c (.ref 0)
abbrev nB:XP:= .c (.ptr 2 0)
abbrev Yn:XP:= .c (.sl false Y1)
abbrev APH:XP:= .agg [.ref 0,.v tI,.ref 1,.ref 2,.ref 3,.v tI,.ref 4,.ref 5,.ref 6,.ref 7,.v .bool]
abbrev Yp:XP:= .c (.ptr 10 0)
abbrev iW:XP:= .c (.ptr 8 0)
abbrev dR:XP:= .c (.ptr 9 0)
abbrev mu:XP:= .c (.ptr 18 0)
abbrev nG:XP:= .c (.ptr 4 0)
abbrev gq:XP:= .c (.ptr 19 0)
abbrev wW:XP:= .c (.sl false Y2)
abbrev AAi:XP:= .c (.ptr 6 0)
abbrev rV:XP:= .c (.sl false Y14)
abbrev AIH:XP:= .c (.sl false Y5)
abbrev AKg:XP:= .c (.sl false (.sl tI))
abbrev AFz:XP:= .c (.q7 268 [(.cons (.sl tI) .unit)])
abbrev wG:XP:= .c (.nV Y11)
abbrev AGR:XP:= .c (.sl false Y10)
abbrev AGz:XP:= .c (.q7 243 [(.cons tI .unit)])
abbrev ALR:XP:= .c (.q7 254 [(.cons tI .unit)])
abbrev AQr:XP:= .c (.sl false Y12)
abbrev AI_:XP:= .c (.sl false Y8)
abbrev Ti:BP:= .mem [.sl true tU,.v tI,.v tI]
abbrev D3:BP:= .sl 9 tI
abbrev AR1:BP:= .mem [.ref 2,.v tI]
abbrev APL:BP:= .mem [.ref 4,.v tI]
abbrev nC:BP:= .mem [.sl false tI,.v tI]
abbrev V5:BP:= .sl 9 Y2
abbrev Oa:BP:= .sl 9 Y3
abbrev V4:BP:= .sl 9 Y6
abbrev V6:BP:= .sl 9 Y7
abbrev V0:BP:= .sl 9 Y9
abbrev VW:BP:= .sl 9 Y10
abbrev AQP:BP:= .mem [.sl false Y3,.v tI]
abbrev AJq:BP:= .mem [.sl false tI,.v tI,.sl false Y2,.sl false tI,.sl false Y3,.v tI,.sl false Y6,.sl false Y7,.sl false Y9,.sl false Y10,.v .bool]
abbrev ACi:BP:= .mem [.v tI,.v tI,.v tI,.v tI,.v .str]
abbrev yi:BP:= .mem [.v tI,.v tI,.sl false tI,.sl false Y1,.v .bool,.sl false (.sl tI)]
abbrev AIP:BP:= .mem [.v tI,.sl false Y5]
abbrev J1:BP:= .sl 9 Y1
abbrev ko:BP:= .sl 9 Y5
abbrev jx:BP:= .sl 9 (.sl tI)
abbrev AC_:BP:= .mem [.ref 2,.v tI,.ref 3,.ref 4,.ref 5,.v tI,.ref 6,.ref 7,.ref 8,.ref 9,.v .bool]
abbrev ym:BP:= .mem [.ref 11,.v tI,.ref 12,.ref 13,.ref 14,.v tI,.ref 15,.ref 16,.ref 17,.ref 18,.v .bool]
abbrev C2:BP:= .sl 1 tI
abbrev XA:BP:= .sl 2 Y2
abbrev LN:BP:= .sl 2 Y3
abbrev Th:BP:= .sl 3 Y6
abbrev Tf:BP:= .sl 3 Y7
abbrev Ny:BP:= .sl 2 Y9
abbrev KD:BP:= .sl 1 Y10
abbrev Iv:BP:= .gone
abbrev rf:BP:= .mem [.ref 0,.v tI,.ref 1,.ref 2,.ref 3,.v tI,.ref 4,.ref 5,.ref 6,.ref 7,.v .bool]
abbrev rZ:BP:= .mem [.ref 10,.v tI,.ref 11,.ref 12,.ref 13,.v tI,.ref 14,.ref 15,.ref 16,.ref 17,.v .bool]
abbrev AU3:BP:= .mem [.v tI,.v .str,.v .bool]
abbrev ABp:BP:= .mem [.v tI,.v tI,.v .bool,.v .str]
abbrev AQB:BP:= .mem [.sl false Y1,.sl false Y1,.v tI]
abbrev AEs:BP:= .mem [.ref 2,.ref 3,.v tI]
abbrev AJ9:BP:= .mem [.ref 5,.ref 6,.v tI]
abbrev UE:BP:= .sl 1 Y2
abbrev en:BP:= .sl 1 Y6
abbrev qC:BP:= .sl 1 Y7
abbrev yz:BP:= .mem [.sl true Y1,.sl true Y1,.v tI]
abbrev ANo:BP:= .mem [.v tI,.ref 3]
abbrev ATn:BP:= .mem [.v tI,.v tI,.ref 1,.ref 2,.v .bool,.ref 3]
abbrev AU9:BP:= .mem [.v tI,.v tI,.ref 5,.ref 6,.v .bool,.ref 7]
abbrev AQN:BP:= .mem [.v tI,.v tI,.ref 3,.ref 4,.v .bool,.ref 5]
abbrev AOz:BP:= .mem [.v tI,.v tI,.ref 7,.ref 8,.v .bool,.ref 9]
abbrev APR:BP:= .mem [.sl true tI,.v tI,.sl true Y2,.sl true tI,.sl true Y3,.v tI,.sl true Y6,.sl true Y7,.sl true Y9,.sl true Y10,.v .bool]
abbrev uR:BP:= .mem [.ref 1,.v tI,.ref 2,.ref 3,.ref 4,.v tI,.ref 5,.ref 6,.ref 7,.ref 8,.v .bool]
abbrev AO0:BP:= .mem [.ref 1,.v tI,.ref 2,.ref 9,.ref 4,.v tI,.ref 5,.ref 6,.ref 7,.ref 8,.v .bool]
abbrev nU:List (Nat×XP):=[(0,BI)]
abbrev AP7:List (Nat×XP):=[(0,.agg [.ref 1,.v tI])]
abbrev AHT:List (Nat×XP):=[(1,Jp),(3,BI)]
abbrev AC0:List (Nat×XP):=[(0,px)]
abbrev AJM:List (Nat×XP):=[(0,xP8)]
abbrev AWW:List (Nat×XP):=[(0,.agg [.v tI,.v tI,.v tI,.v tI,.v .str])]
abbrev AVb:List (Nat×XP):=[(2,Jp),(3,Tk),(5,BI),(6,BI)]
abbrev AXA:List (Nat×XP):=[(1,Jp),(2,Tk),(3,xP5),(4,BI)]
abbrev AOW:List (Nat×XP):=[(0,APH)]
abbrev AWx:List (Nat×XP):=[(0,.M3 [.inr [.ref 0,.ref 1,.v tI],.inl (.v .bool)])]
abbrev ARL:List (Nat×XP):=[(0,.M3 [.inr [.ref 0,.v tI,.ref 1,.ref 2,.ref 3,.v tI,.ref 4,.ref 5,.ref 6,.ref 7,.v .bool],.inl (.v tI)])]
abbrev AVZ:List (Nat×XP):=[(0,.agg [.v tI,.v tI,.v .bool,.v .str])]
abbrev AW0:List (Nat×XP):=[(0,.M3 [.inr [.v tI,.ref 0],.inl (.v .bool)])]
abbrev AQ4:List (Nat×XP):=[(0,.M3 [.inr [.v tI,.v tI,.ref 0,.ref 1,.v .bool,.ref 2],.inl (.v .bool)])]
abbrev AVT:List (Nat×XP):=[(0,.M3 [.inr [.ref 0,.v tI,.ref 1,.ref 8,.ref 3,.v tI,.ref 4,.ref 5,.ref 6,.ref 7,.v .bool],.inl (.v tI)])]
abbrev AXG:List (Nat×XP):=[(0,.M3 [.inr [.ref 1,.ref 2,.v tI],.inl (.v .bool)])]
abbrev ATg:List (Nat×XP):=[(0,.M3 [.inr [.v tI,.v tI,.ref 0],.inl (.v tI)])]
abbrev AWT:List (Nat×XP):=[(0,Jp),(3,Tk),(4,nB),(5,nG),(6,BI)]
abbrev ATY:List (Nat×XP):=[(0,Jp),(1,BI),(2,BI)]
abbrev AUU:List (Nat×XP):=[(0,.M3 [.inr [.ref 0,.v tI,.ref 1,.ref 2,.ref 3,.v tI,.ref 4,.ref 5,.ref 6,.ref 7,.v .bool],.inl (.ref 8)])]
abbrev nJ:List BP:=[Ti]
abbrev ANI:List BP:=[Ti,D3]
abbrev ADG:List BP:=[nC]
abbrev ANR:List BP:=[D3,V5,D3,Oa,V4,V6,V0,VW]
abbrev jM:List BP:=[D3]
abbrev AM8:List BP:=[Ti,nC,D3]
abbrev AAI:List BP:=[AJq]
abbrev AMf:List BP:=[nC,AQP]
abbrev AM9:List BP:=[nC,AIP]
abbrev ACw:List BP:=[nC,yi]
abbrev AMN:List BP:=[D3,J1,jx]
abbrev AFK:List BP:=[yi,.mem [.v tI,.v tI,.ref 2,.ref 3,.v .bool,.ref 4],D3,J1,jx,.mem [.v tI,.v tI,.ref 6,.ref 7,.v .bool,.ref 8],D3,J1,jx]
abbrev dJ:List BP:=[AJq,AC_,D3,V5,D3,Oa,V4,V6,V0,VW,ym,D3,V5,D3,Oa,V4,V6,V0,VW]
abbrev AD0:List BP:=[C2,XA,C2,LN,Th,Tf,Ny,KD]
abbrev AL9:List BP:=[C2,UE,C2,LN,en,qC,Ny,KD]
abbrev zm:List BP:=[C2,UE,C2,LN,en,Tf,Ny,KD,rf,rZ,D3,V5,D3,Oa,V4,V6,V0,VW,yz,.mem [.v tI,.sl true Y5]]
abbrev ANO:List BP:=[.mem [.v tI,.ref 1],ko,ANo,ko]
abbrev AMo:List BP:=[ATn,D3,J1,jx,AU9,D3,J1,jx]
abbrev AMi:List BP:=[C2,XA,C2,LN,Th,Tf,Ny,KD,.mem [.ref 0,.v tI,.ref 1,.ref 9,.ref 3,.v tI,.ref 4,.ref 5,.ref 6,.ref 7,.v .bool],D3,ACi,.mem [.ref 12,.v tI,.ref 13,.ref 14,.ref 15,.v tI,.ref 16,.ref 17,.ref 18,.ref 19,.v .bool],D3,V5,D3,Oa,V4,V6,V0,VW]
abbrev ANG:List BP:=[UE,AEs,J1,J1,AJ9,J1,J1,UE]
abbrev ADK:List BP:=[nC,D3]
abbrev AM3:List BP:=[Ti,AC_,D3,V5,D3,Oa,V4,V6,V0,VW,ym,D3,V5,D3,Oa,V4,V6,V0,VW,.mem [.ref 20,.v tI],D3,D3]
abbrev AAW:List BP:=[Ti,AEs,J1,J1,AJ9,J1,J1]
abbrev zK:List BP:=[Ti,nC,AQN,D3,J1,jx,AOz,D3,J1,jx]
abbrev gB:List BP:=[uR,C2,XA,C2,LN,Th,Tf,Ny,KD]
abbrev sS:List BP:=[.sl 1 Y1]
abbrev ANE:List BP:=[AO0,C2,XA,C2,LN,Th,Tf,Ny,KD,C2]
abbrev AMz:List BP:=[.mem [.v tI,.v tI,.ref 1],.sl 1 Y8]
abbrev AMK:List BP:=[uR,C2,XA,C2,LN,Th,Tf,.sl 1 Y9,KD]
abbrev Cd:A6:=⟨[(0,xP1)],[]⟩
abbrev AEo:A6:=⟨[(0,.c (.sl true tU))],[]⟩
abbrev ft:A6:=⟨[(0,Jp)],nJ⟩
abbrev FT:A6:=⟨nU,[]⟩
abbrev AAG:A6:=⟨nU,nJ⟩
abbrev zX:A6:=⟨[(0,Jp),(1,BI)],nJ⟩
abbrev AL8:A6:=⟨AP7,ANI⟩
abbrev ALz:A6:=⟨[(0,BI),(1,BI),(2,BI)],[]⟩
abbrev AAT:A6:=⟨[(0,rq)],[]⟩
abbrev mZ:A6:=⟨[(0,rq),(1,aW)],[]⟩
abbrev zz:A6:=⟨[(0,.agg [.v tI,.v tI,.ref 0])],[.sl 9 Y8]⟩
abbrev mQ:A6:=⟨[(0,BI),(1,BI)],[]⟩
abbrev l8:A6:=⟨[(0,aW),(1,BI)],[]⟩
abbrev eE:A6:=⟨AC0,jM⟩
abbrev mX:A6:=⟨[(0,Jp),(1,rq)],nJ⟩
abbrev AMV:A6:=⟨AJM,ANI⟩
abbrev zf:A6:=⟨[(0,.row Y4)],[]⟩
abbrev AM7:A6:=⟨[(0,.row Y4),(1,BI)],[]⟩
abbrev AEn:A6:=⟨[(0,Jp),(1,.row Y11)],nJ⟩
abbrev AEI:A6:=⟨AWW,nJ⟩
abbrev ADc:A6:=⟨[(0,Yn),(1,BI)],[]⟩
abbrev zI:A6:=⟨[(0,Yn)],[]⟩
abbrev mR:A6:=⟨[(0,.row Y2)],[]⟩
abbrev pw:A6:=⟨[(0,.row Y11)],[]⟩
abbrev AL3:A6:=⟨AHT,AAI⟩
abbrev ADB:A6:=⟨[(0,rq),(1,.row Y4)],[]⟩
abbrev AEE:A6:=⟨[(0,rq),(1,.row Y6)],[]⟩
abbrev wB:A6:=⟨[(0,.row Y7)],[]⟩
abbrev tD:A6:=⟨[(0,rq),(1,.row Y7)],[]⟩
abbrev ANC:A6:=⟨[(2,Jp),(3,Tk),(5,BI)],ACw⟩
abbrev zi:A6:=⟨[(0,.row Y9)],[]⟩
abbrev ADR:A6:=⟨[(0,.row Y12)],[]⟩
abbrev AC9:A6:=⟨[(0,.agg [.ref 0,.v tI])],[Oa]⟩
abbrev ADu:A6:=⟨[(0,.agg [.ref 0,.ref 1,.v tI])],[J1,J1]⟩
abbrev zu:A6:=⟨[(0,.row Y6)],[]⟩
abbrev AFa:A6:=⟨[(0,.agg [.v tI,.ref 0])],[ko]⟩
abbrev vd:A6:=⟨[(0,.agg [.v tI,.v tI,.ref 0,.ref 1,.v .bool,.ref 2])],AMN⟩
abbrev AMe:A6:=⟨AOW,ANR⟩
abbrev AM5:A6:=⟨[(0,rq),(1,.row Y4),(2,aW)],[]⟩
abbrev AMJ:A6:=⟨[(0,.M3 [.inr [.ref 0,.v tI],.inl (.v tI),.inl (.v .bool)])],[Oa]⟩
abbrev cl:A6:=⟨[(0,APH),(1,.row Y12)],AD0⟩
abbrev z_:A6:=⟨[(0,.row Y11),(1,BI)],[]⟩
abbrev ANV:A6:=⟨[(0,rq),(1,.row Y6),(2,.c (.v .str))],[]⟩
abbrev AMQ:A6:=⟨[(0,.M3 [.inr [.v tI,.ref 0],.inl (.v tI),.inl (.v .bool)])],[ko]⟩
abbrev AFE:A6:=⟨[(0,.row Y2),(1,.row Y1)],[]⟩
abbrev sC:A6:=⟨AWx,[J1,J1]⟩
abbrev sf:A6:=⟨ARL,AD0⟩
abbrev AMn:A6:=⟨[(0,.row Y1),(1,.row Y1)],[]⟩
abbrev ANQ:A6:=⟨AVZ,[]⟩
abbrev vp:A6:=⟨AC0,[J1]⟩
abbrev jl:A6:=⟨[(0,.row Y2),(1,BI)],[]⟩
abbrev ANS:A6:=⟨[(1,BI),(2,Jp),(4,Tk),(6,nG),(7,BI)],[AQB,AEs,J1,J1,AJ9,J1,J1]⟩
abbrev wa:A6:=⟨[(0,.M3 [.inr [.v tI,.v tI,.v .bool,.v .str],.inl (.v .bool)])],[]⟩
abbrev AMs:A6:=⟨[(0,rq),(1,.row Y6),(2,BI),(3,BI)],[]⟩
abbrev ANJ:A6:=⟨AW0,[ko]⟩
abbrev qI:A6:=⟨[(0,.M3 [.inl (.v tI),.inl (.v .bool)])],[]⟩
abbrev AM_:A6:=⟨[(0,.row Y7),(1,BI)],[]⟩
abbrev AMY:A6:=⟨[(0,rq),(1,.row Y7),(2,BI),(3,BI)],[]⟩
abbrev xE:A6:=⟨AQ4,AMN⟩
abbrev AMB:A6:=⟨ARL,AL9⟩
abbrev AAV:A6:=⟨[(0,aW),(1,aW)],[]⟩
abbrev AME:A6:=⟨[(0,rq),(1,.row Y6),(2,BI)],[]⟩
abbrev AMp:A6:=⟨[(0,rq),(1,.row Y7),(2,BI)],[]⟩
abbrev ANA:A6:=⟨[(0,rq),(1,px),(2,aW),(3,BI),(4,BI)],[XA]⟩
abbrev ADn:A6:=⟨AOW,AD0⟩
abbrev AM6:A6:=⟨[(0,rq),(1,.row Y7),(2,BI),(3,Yn)],[]⟩
abbrev AEr:A6:=⟨[(0,rq),(1,aW),(2,aW)],[]⟩
abbrev AMk:A6:=⟨[(0,rq),(1,.row Y7),(2,aW)],[]⟩
abbrev AMt:A6:=⟨[(0,rq),(1,.row Y4),(2,BI),(3,BI)],[]⟩
abbrev zj:A6:=⟨[(0,.M3 [.inr [.ref 0,.v tI],.inl (.v .bool)])],[Oa]⟩
abbrev AMD:A6:=⟨[(0,rq),(1,.row Y4),(2,BI)],[]⟩
abbrev AMX:A6:=⟨[(0,rq),(1,.row Y4),(2,BI),(3,.row Y9),(4,rV)],[]⟩
abbrev AMS:A6:=⟨[(0,.row Y11),(1,.row Y12)],[]⟩
abbrev ANL:A6:=⟨[(0,Jp),(1,BI),(4,Tk),(6,Yp),(7,gq),(8,.c (.ref 21)),(9,BI)],AM3⟩
abbrev AXH:A6:=⟨[(0,Jp),(4,Tk),(6,Yp),(10,gq),(12,.c (.ptr 28 0)),(13,.c (.ref 37)),(14,BI),(15,BI)],[Ti,AC_,D3,V5,D3,Oa,V4,V6,V0,VW,ym,D3,V5,D3,Oa,V4,V6,V0,VW,.mem [.ref 20,.v tI,.ref 21,.ref 22,.ref 23,.v tI,.ref 24,.ref 25,.ref 26,.ref 27,.v .bool],Iv,Iv,Iv,Iv,Iv,Iv,Iv,Iv,.mem [.ref 29,.v tI,.ref 30,.ref 31,.ref 32,.v tI,.ref 33,.ref 34,.ref 35,.ref 36,.v .bool],C2,UE,C2,LN,en,qC,Ny,KD,.sl 9 Y12]⟩
abbrev ANK:A6:=⟨AVZ,nJ⟩
abbrev AML:A6:=⟨[(0,.agg [.ref 1,.ref 2,.v tI])],[Ti,J1,J1]⟩
abbrev AMP:A6:=⟨[(0,.agg [.v tI,.v tI,.ref 1,.ref 2,.v .bool,.ref 3])],[Ti,D3,J1,jx]⟩
abbrev AMu:A6:=⟨AJM,[Iv,C2]⟩
abbrev ACp:A6:=⟨AC0,[C2]⟩
abbrev zo:A6:=⟨[(0,wG),(1,BI)],[]⟩
abbrev wH:A6:=⟨[(0,wG)],[]⟩
abbrev r9:A6:=⟨[(0,Jp),(1,BI)],gB⟩
abbrev qq:A6:=⟨nU,gB⟩
abbrev AMw:A6:=⟨[(0,Jp),(1,.row Y12)],gB⟩
abbrev AMT:A6:=⟨AJM,[Iv,.sl 1 Y1]⟩
abbrev zn:A6:=⟨AWx,[.sl 1 Y1,J1]⟩
abbrev AMZ:A6:=⟨AW0,[.sl 2 Y5]⟩
abbrev AAU:A6:=⟨ATY,gB⟩
abbrev AMC:A6:=⟨[(0,.M3 [])],gB⟩
abbrev AD9:A6:=⟨[(0,Jp),(1,BI),(2,BI),(6,BI)],gB⟩
abbrev AMy:A6:=⟨AQ4,[D3,J1,.sl 2 (.sl tI)]⟩
abbrev ADT:A6:=⟨[(0,Jp)],gB⟩
abbrev AMj:A6:=⟨[(0,.M3 [])],[.mem [.v tI,.v tI,.ref 2],Iv,.sl 1 Y8]⟩
abbrev AMa:A6:=⟨[(0,.row Y11),(1,AQr)],[]⟩
abbrev i6:A6:=⟨[(0,xP0)],[]⟩
abbrev o6:A6:=Cd
def s6:SQ:=mk Tryz.func6 i6 o6 jY [] [] []
def s22:SQ:=mk Tryz.func22 AEo ft bt [] [] [⟨3,⟨[(0,.c (.sl true tU)),(3,BI),(4,BI)],[]⟩,QX⟩]
abbrev i47:A6:=⟨[(0,xP0),(1,BI),(2,BI)],[]⟩
abbrev o47:A6:=FT
def s47:SQ:=mk Tryz.func47 i47 o47 Mb [] [] []
def s57:SQ:=mk Tryz.func57 ft AAG MZ [] [(2,[0]),(3,[0]),(4,[0])] []
abbrev i24:A6:=zX
abbrev o24:A6:=AAG
def gn:SQ:=mk Tryz.func24 i24 o24 AJ [s57] [] []
abbrev i48:A6:=zX
abbrev o48:A6:=⟨[(0,xP1)],nJ⟩
def s48:SQ:=mk Tryz.func48 i48 o48 A5 [gn] [] []
def AQJ:SQ:=mk Tryz.func132 ft AL8 JX [gn,s48] [(6,[1,2])] [⟨4,⟨[(0,Jp),(2,Tk),(3,xP5),(4,BI),(5,BI)],[Ti,AR1,D3,APL,D3]⟩,Ip⟩] (hJ:= .cons (fun _=>rfl) (fun n v ω=>by rcases ω with _|⟨_|_,_|⟨_|_,_⟩⟩<;>kernel_rfl) (.nil))
def q6:SQ:=mk Tryz.func80 ALz Cd CG [] [] []
abbrev i70:A6:=AAT
abbrev o70:A6:=Cd
def s70:SQ:=mk Tryz.func70 i70 o70 Gd [q6] [] [⟨4,⟨AHT,ADG⟩,L0⟩]
def AUx:SQ:=mk Tryz.func143 ⟨[(0,aW),(1,BI),(2,BI)],[]⟩ Cd Ye [q6] [] [⟨2,⟨[(0,aW),(1,BI),(2,BI),(7,BI)],[]⟩,Nh⟩]
def s71:SQ:=mk Tryz.func71 mZ Cd Gi [s70,AUx] [] []
def AVh:SQ:=mk Tryz.func144 mZ FT Vs [] [(6,[0,1])] [⟨4,⟨[(1,aW),(2,Jp),(5,xP8),(6,BI),(7,BI)],[nC,.sl 9 .bool]⟩,PB⟩]
abbrev i72:A6:=mZ
abbrev o72:A6:=Cd
def yX:SQ:=mk Tryz.func72 i72 o72 EX [s71,AVh] [(1,[0])] []
abbrev AbC:A6:=⟨[],[]⟩
abbrev AZ3:A6:=zz
def AVu:SQ:=mk Tryz.func220 AbC AZ3 YE [] [] []
abbrev xY:A6:=AAT
abbrev APW:A6:=⟨[(0,.M3 [.inr [.ref 0,.v tI,.ref 1,.ref 2,.ref 3,.v tI,.ref 4,.ref 5,.ref 6,.ref 7,.v .bool],.inl (.v .bool)])],ANR⟩
def AVx:QJ:=⟨xY,APW,(xY.un E9)⟩
def AWd:Z1:=⟨T,Ps (SP.l [s70,AVu]),B3 [(3,[0,1]),(4,[0,4])]⟩
def AQi:List (Lp APW):=[]
def Af(ω:List Bool):Prop:= ∀(n:Nat) (v:xY.V),Ci AWd AVx Tryz.f133 (K_ 0 AQi n) ω v=xY.un (E9) v
theorem ASK:Af []:=by delta Af;intros;kernel_rfl
theorem APA:Af (false::[]):=by delta Af;intros;kernel_rfl
theorem ASS:Af (false::false::[]):=by delta Af;intros;kernel_rfl
theorem AQF:Af (false::false::false::[]):=by delta Af;intros;kernel_rfl
theorem ARY:Af (false::false::false::false::[]):=by delta Af;intros;kernel_rfl
theorem AP6:Af (false::false::false::false::false::[]):=by delta Af;intros;kernel_rfl
theorem ANq:Af (false::false::false::false::false::false::[]):=by delta Af;intros;kernel_rfl
theorem AON:Af (false::false::false::false::false::false::false::[]):=by delta Af;intros;kernel_rfl
theorem APn(ω:List Bool):Af (false::false::false::false::false::false::false::false::ω):=by delta Af;intros;kernel_rfl
theorem AIV(ω:List Bool):Af (false::false::false::false::false::false::false::true::ω):=by delta Af;intros;kernel_rfl
theorem AKT:Af (false::false::false::false::false::false::true::[]):=by delta Af;intros;kernel_rfl
theorem AJY(ω:List Bool):Af (false::false::false::false::false::false::true::false::ω):=by delta Af;intros;kernel_rfl
theorem AJc(ω:List Bool):Af (false::false::false::false::false::false::true::true::ω):=by delta Af;intros;kernel_rfl
theorem AKl:Af (false::false::false::false::false::true::[]):=by delta Af;intros;kernel_rfl
theorem AKe(ω:List Bool):Af (false::false::false::false::false::true::false::ω):=by delta Af;intros;kernel_rfl
theorem AH_(ω:List Bool):Af (false::false::false::false::false::true::true::ω):=by delta Af;intros;kernel_rfl
theorem AFv:Af (false::false::false::false::true::[]):=by delta Af;intros;kernel_rfl
theorem AHH:Af (false::false::false::false::true::false::[]):=by delta Af;intros;kernel_rfl
theorem AK_(ω:List Bool):Af (false::false::false::false::true::false::false::ω):=by delta Af;intros;kernel_rfl
theorem AG1(ω:List Bool):Af (false::false::false::false::true::false::true::ω):=by delta Af;intros;kernel_rfl
theorem ALg(ω:List Bool):Af (false::false::false::false::true::true::ω):=by delta Af;intros;kernel_rfl
theorem AHo:Af (false::false::false::true::[]):=by delta Af;intros;kernel_rfl
theorem AHz:Af (false::false::false::true::false::[]):=by delta Af;intros;kernel_rfl
theorem AHC(ω:List Bool):Af (false::false::false::true::false::false::ω):=by delta Af;intros;kernel_rfl
theorem AHM(ω:List Bool):Af (false::false::false::true::false::true::ω):=by delta Af;intros;kernel_rfl
theorem AKd(ω:List Bool):Af (false::false::false::true::true::ω):=by delta Af;intros;kernel_rfl
theorem ALF:Af (false::false::true::[]):=by delta Af;intros;kernel_rfl
theorem AHj:Af (false::false::true::false::[]):=by delta Af;intros;kernel_rfl
theorem ALO:Af (false::false::true::false::false::[]):=by delta Af;intros;kernel_rfl
theorem ALD(ω:List Bool):Af (false::false::true::false::false::false::ω):=by delta Af;intros;kernel_rfl
theorem AGC(ω:List Bool):Af (false::false::true::false::false::true::ω):=by delta Af;intros;kernel_rfl
theorem AGr(ω:List Bool):Af (false::false::true::false::true::ω):=by delta Af;intros;kernel_rfl
theorem AGB(ω:List Bool):Af (false::false::true::true::ω):=by delta Af;intros;kernel_rfl
theorem AIf:Af (false::true::[]):=by delta Af;intros;kernel_rfl
theorem AHx:Af (false::true::false::[]):=by delta Af;intros;kernel_rfl
theorem AHy:Af (false::true::false::false::[]):=by delta Af;intros;kernel_rfl
theorem AHv(ω:List Bool):Af (false::true::false::false::false::ω):=by delta Af;intros;kernel_rfl
theorem AHK(ω:List Bool):Af (false::true::false::false::true::ω):=by delta Af;intros;kernel_rfl
theorem AJz(ω:List Bool):Af (false::true::false::true::ω):=by delta Af;intros;kernel_rfl
theorem AKa(ω:List Bool):Af (false::true::true::ω):=by delta Af;intros;kernel_rfl
theorem ALf:Af (true::[]):=by delta Af;intros;kernel_rfl
theorem AK2:Af (true::false::[]):=by delta Af;intros;kernel_rfl
theorem AGc:Af (true::false::false::[]):=by delta Af;intros;kernel_rfl
theorem ALa:Af (true::false::false::false::[]):=by delta Af;intros;kernel_rfl
theorem AKX:Af (true::false::false::false::false::[]):=by delta Af;intros;kernel_rfl
theorem AIB:Af (true::false::false::false::false::false::[]):=by delta Af;intros;kernel_rfl
theorem AI5:Af (true::false::false::false::false::false::false::[]):=by delta Af;intros;kernel_rfl
theorem AKu:Af (true::false::false::false::false::false::false::false::[]):=by delta Af;intros;kernel_rfl
theorem AF3(ω:List Bool):Af (true::false::false::false::false::false::false::false::false::ω):=by delta Af;intros;kernel_rfl
theorem AH2(ω:List Bool):Af (true::false::false::false::false::false::false::false::true::ω):=by delta Af;intros;kernel_rfl
theorem AKY:Af (true::false::false::false::false::false::false::true::[]):=by delta Af;intros;kernel_rfl
theorem AKH(ω:List Bool):Af (true::false::false::false::false::false::false::true::false::ω):=by delta Af;intros;kernel_rfl
theorem AGn(ω:List Bool):Af (true::false::false::false::false::false::false::true::true::ω):=by delta Af;intros;kernel_rfl
theorem AKZ:Af (true::false::false::false::false::false::true::[]):=by delta Af;intros;kernel_rfl
theorem AKz(ω:List Bool):Af (true::false::false::false::false::false::true::false::ω):=by delta Af;intros;kernel_rfl
theorem AF8(ω:List Bool):Af (true::false::false::false::false::false::true::true::ω):=by delta Af;intros;kernel_rfl
theorem AKJ:Af (true::false::false::false::false::true::[]):=by delta Af;intros;kernel_rfl
theorem AJ3:Af (true::false::false::false::false::true::false::[]):=by delta Af;intros;kernel_rfl
theorem AIx(ω:List Bool):Af (true::false::false::false::false::true::false::false::ω):=by delta Af;intros;kernel_rfl
theorem AGj(ω:List Bool):Af (true::false::false::false::false::true::false::true::ω):=by delta Af;intros;kernel_rfl
theorem AKV(ω:List Bool):Af (true::false::false::false::false::true::true::ω):=by delta Af;intros;kernel_rfl
theorem AHX:Af (true::false::false::false::true::[]):=by delta Af;intros;kernel_rfl
theorem AG2:Af (true::false::false::false::true::false::[]):=by delta Af;intros;kernel_rfl
theorem AFr(ω:List Bool):Af (true::false::false::false::true::false::false::ω):=by delta Af;intros;kernel_rfl
theorem ALY(ω:List Bool):Af (true::false::false::false::true::false::true::ω):=by delta Af;intros;kernel_rfl
theorem ALn(ω:List Bool):Af (true::false::false::false::true::true::ω):=by delta Af;intros;kernel_rfl
theorem AIS:Af (true::false::false::true::[]):=by delta Af;intros;kernel_rfl
theorem ALN:Af (true::false::false::true::false::[]):=by delta Af;intros;kernel_rfl
theorem AGF:Af (true::false::false::true::false::false::[]):=by delta Af;intros;kernel_rfl
theorem ALA(ω:List Bool):Af (true::false::false::true::false::false::false::ω):=by delta Af;intros;kernel_rfl
theorem AFn(ω:List Bool):Af (true::false::false::true::false::false::true::ω):=by delta Af;intros;kernel_rfl
theorem AJR(ω:List Bool):Af (true::false::false::true::false::true::ω):=by delta Af;intros;kernel_rfl
theorem AHL(ω:List Bool):Af (true::false::false::true::true::ω):=by delta Af;intros;kernel_rfl
theorem AJd:Af (true::false::true::[]):=by delta Af;intros;kernel_rfl
theorem AK3:Af (true::false::true::false::[]):=by delta Af;intros;kernel_rfl
theorem AID:Af (true::false::true::false::false::[]):=by delta Af;intros;kernel_rfl
theorem AKR(ω:List Bool):Af (true::false::true::false::false::false::ω):=by delta Af;intros;kernel_rfl
theorem AHd(ω:List Bool):Af (true::false::true::false::false::true::ω):=by delta Af;intros;kernel_rfl
theorem AKj(ω:List Bool):Af (true::false::true::false::true::ω):=by delta Af;intros;kernel_rfl
theorem AHS(ω:List Bool):Af (true::false::true::true::ω):=by delta Af;intros;kernel_rfl
theorem AGv:Af (true::true::[]):=by delta Af;intros;kernel_rfl
theorem AHO:Af (true::true::false::[]):=by delta Af;intros;kernel_rfl
theorem AJ1:Af (true::true::false::false::[]):=by delta Af;intros;kernel_rfl
theorem AIm(ω:List Bool):Af (true::true::false::false::false::ω):=by delta Af;intros;kernel_rfl
theorem AIT(ω:List Bool):Af (true::true::false::false::true::ω):=by delta Af;intros;kernel_rfl
theorem ALU(ω:List Bool):Af (true::true::false::true::ω):=by delta Af;intros;kernel_rfl
theorem AJE(ω:List Bool):Af (true::true::true::ω):=by delta Af;intros;kernel_rfl
theorem Aan(n:Nat)(ω:List Bool)(v:xY.V):Ci AWd AVx Tryz.f133 (K_ 0 AQi n) ω v=xY.un (E9) v:=(AF ASK (AF APA (AF ASS (AF AQF (AF ARY (AF AP6 (AF ANq (AF AON APn AIV) (AF AKT AJY AJc)) (AF AKl AKe AH_)) (AF AFv (AF AHH AK_ AG1) ALg)) (AF AHo (AF AHz AHC AHM) AKd)) (AF ALF (AF AHj (AF ALO ALD AGC) AGr) AGB)) (AF AIf (AF AHx (AF AHy AHv AHK) AJz) AKa)) (AF ALf (AF AK2 (AF AGc (AF ALa (AF AKX (AF AIB (AF AI5 (AF AKu AF3 AH2) (AF AKY AKH AGn)) (AF AKZ AKz AF8)) (AF AKJ (AF AJ3 AIx AGj) AKV)) (AF AHX (AF AG2 AFr ALY) ALn)) (AF AIS (AF ALN (AF AGF ALA AFn) AJR) AHL)) (AF AJd (AF AK3 (AF AID AKR AHd) AKj) AHS)) (AF AGv (AF AHO (AF AJ1 AIm AIT) ALU) AJE))) ω n v
def AU1:SQ:=mk Tryz.func133 xY APW E9 [s70,AVu] [(3,[0,1]),(4,[0,4])] AQi (hJ:= .nil) (he:=Aan AX)
abbrev qy:A6:=mQ
abbrev AAf:A6:=FT
def wx:SQ:=mk Tryz.func135 qy AAf FQ [] [] []
abbrev xm:A6:=l8
abbrev o74:A6:=Cd
def s74:SQ:=mk Tryz.func74 xm o74 Cw [] [] [⟨2,⟨[(0,aW),(1,BI),(5,BI)],[]⟩,LB⟩]
def yJ:SQ:=mk Tryz.func134 l8 eE Ig [s74] [] [⟨4,⟨[(0,aW),(1,BI),(5,px),(6,xP1),(7,BI)],jM⟩,Hp⟩]
abbrev AYa:A6:=⟨[(0,Jp),(1,aW)],nJ⟩
abbrev AYH:A6:=AAG
def rz:SQ:=mk Tryz.func100 AYa AYH CP [gn] [] []
abbrev i49:A6:=mX
abbrev o49:A6:=AMV
def s49:SQ:=mk Tryz.func49 i49 o49 FK [gn,s48,rz,yJ,wx] [] [⟨4,⟨[(0,Jp),(3,Tk),(5,.c (.ref 2)),(6,BI),(7,BI)],AM8⟩,Io⟩]
def ARf:SQ:=mk Tryz.func102 mX AMV Hv [s49,yX,yJ] [] [⟨3,⟨[(3,Tk),(5,.c (.ref 2)),(6,BI)],AM8⟩,Kf⟩]
def AZO:SQ:=mk Tryz.func101 ⟨[(0,aW)],[]⟩ FT L4 [AUx] [] [⟨5,⟨[(0,aW),(3,BI),(4,BI)],[]⟩,K5⟩]
def s79:SQ:=mk Tryz.func79 zf FT J4 [] [] [⟨2,⟨AHT,[AQP]⟩,II⟩]
abbrev i182:A6:=AM7
abbrev w7:A6:=eE
def vh:SQ:=mk Tryz.func182 i182 w7 CZ [q6] [] []
def AYD:SQ:=mk Tryz.func103 AEn AEI L1 [gn,s48,yX,wx,vh] [(18,[1,2,3])] [⟨16,⟨[(0,Jp),(3,Tk),(4,nB),(5,xP5),(7,BI),(8,BI),(9,BI)],[Ti,AJq,ACi,yi]⟩,GM⟩]
def AO5:SQ:=mk Tryz.func183 ⟨[(0,Jp),(1,.c (.sl false .str))],nJ⟩ ⟨[(0,.c (.v .str))],nJ⟩ HA [gn] [] []
def AZe:SQ:=mk Tryz.func184 mQ FT UC [] [] []
def AZn:SQ:=mk Tryz.func104 AEn AEI Gp [gn,s48,vh,AO5,AZe] [] []
def s33:SQ:=mk Tryz.func33 AEn AEI Ls [gn,s48,s79,AZO,ARf,AYD,AZn] [(16,[1]),(27,[1,2])] []
def s81:SQ:=mk Tryz.func81 FT Cd Ho [q6] [] []
abbrev zE:A6:=FT
abbrev o82:A6:=FT
def s82:SQ:=mk Tryz.func82 zE o82 Cm [s81] [] []
def AGP:SQ:=mk Tryz.func147 ⟨[(0,.row Y1)],[]⟩ Cd Mz [q6,s81,s82] [(1,[0])] []
def AbE:SQ:=mk Tryz.func145 ADc Cd VC [AGP] [] [⟨4,⟨[(0,Yn),(5,BI)],[]⟩,MN⟩]
def AV6:SQ:=mk Tryz.func146 zI Cd Yb [] [] [⟨2,⟨[(0,Yn),(3,BI)],[]⟩,GZ⟩]
def s73:SQ:=mk Tryz.func73 mR Cd Gw [q6,AbE,AV6] [] []
def s75:SQ:=mk Tryz.func75 mR Cd cO [] [] []
def s27:SQ:=mk Tryz.func27 pw Cd Uo [s70,s71,yX,s73,s74,s75] [] [⟨4,AL3,Jb⟩]
abbrev i76:A6:=ADB
abbrev o76:A6:=Cd
def s76:SQ:=mk Tryz.func76 i76 o76 M7 [s70,yX,q6,s81,s82] [] [⟨5,⟨AVb,AMf⟩,LK⟩]
abbrev i77:A6:=AEE
abbrev o77:A6:=Cd
def s77:SQ:=mk Tryz.func77 i77 o77 Hk [s70,s71,yX,q6] [(8,[0,1,2])] [⟨5,⟨AVb,AM9⟩,L2⟩]
abbrev iL:A6:=FT
abbrev vQ:A6:=FT
def AJl:SQ:=mk Tryz.func225 iL vQ HS [s81] [] []
def AUZ:SQ:=mk Tryz.func148 wB FT Rb [AJl] [] []
def s78:SQ:=mk Tryz.func78 tD Cd JA [s70,s71,q6,s82,AV6,AGP,AUZ] [(6,[0,1]),(11,[0,1]),(15,[0,1])] [⟨4,ANC,Jm⟩,⟨9,⟨[(2,Jp),(3,Tk),(6,BI)],ACw⟩,Hy⟩]
def s28:SQ:=mk Tryz.func28 pw Cd TX [s76,s77,s78,s79] [(7,[0]),(13,[0,1])] [⟨5,⟨[(1,Jp),(3,BI),(4,BI)],AAI⟩,Gk⟩,⟨10,⟨[(1,Jp),(3,BI),(5,BI)],AAI⟩,E4⟩]
def s29:SQ:=mk Tryz.func29 zi Cd Nk [q6] [] []
def s30:SQ:=mk Tryz.func30 pw Cd W0 [s81,s82] [(7,[0,1])] [⟨4,AL3,KT⟩]
def s10:SQ:=mk Tryz.func10 pw Cd Sn [s27,s28,s29,s30] [] []
def AZA:SQ:=mk Tryz.func105 ADR ⟨AWW,[]⟩ Z9 [] [] []
def s34:SQ:=mk Tryz.func34 ADR Cd Zr [q6,AZA] [(1,[0])] []
abbrev yu:A6:=zf
abbrev o65:A6:=AC9
def s65:SQ:=mk Tryz.func65 yu o65 GF [] [] [⟨3,⟨AXA,[AQP,AR1,Oa,APL,Oa]⟩,PN⟩]
abbrev i66:A6:=mR
abbrev o66:A6:=ADu
def s66:SQ:=mk Tryz.func66 i66 o66 Ek [] [(1,[0])] [] (he:=fun ω v=>by rcases ω with _|⟨_|_,_|⟨_|_,_⟩⟩<;>kernel_rfl)
abbrev y9:A6:=zu
abbrev o67:A6:=AFa
def s67:SQ:=mk Tryz.func67 y9 o67 EO [] [] [⟨3,⟨AXA,[AIP,.mem [.v tI,.ref 2],ko,.mem [.v tI,.ref 4],ko]⟩,Jy⟩]
abbrev uC:A6:=wB
abbrev o68:A6:=vd
def c68:QJ:=⟨uC,o68,(uC.un ES)⟩
def C68:Z1:=⟨T,Ps (SP.l ([]:List SQ)),B3 [(1,[0,1]),(5,[0,1,2,3,4,6,7])]⟩
def L68:List (Lp o68):=[⟨3,⟨[(1,Jp),(2,Tk),(3,.c (.ptr 5 0)),(4,BI)],AFK⟩,H0⟩]
abbrev AFH:A6:=⟨[(1,Jp),(2,Tk),(3,.c (.ptr 5 0)),(4,BI)],AFK⟩
theorem AW_(n:Nat)(v:AFH.V)(ω:List Bool):Hi C68 c68 Tryz.f68 (K_ 0 L68 n) 3 ω (AFH.st 40 v)=AFH.un (SW (H0 n)) v:=by rcases ω with _|⟨_|_,_|⟨_|_,_|⟨_|_,_⟩⟩⟩<;>kernel_rfl
def G5(ω:List Bool):Prop:= ∀(n:Nat) (v:uC.V),Ci C68 c68 Tryz.f68 (K_ 0 L68 n) ω v=uC.un (OQ (H0 n)) v
theorem ATp:G5 []:=by delta G5;intros;kernel_rfl
theorem AVk:G5 (false::[]):=by delta G5;intros;kernel_rfl
theorem ATo:G5 (false::false::[]):=by delta G5;intros;kernel_rfl
theorem AVC(ω:List Bool):G5 (false::false::false::ω):=by delta G5;intros;kernel_rfl
theorem AVa:G5 (false::false::true::[]):=by delta G5;intros;kernel_rfl
theorem AWL(ω:List Bool):G5 (false::false::true::false::ω):=by delta G5;intros;kernel_rfl
theorem AVK(ω:List Bool):G5 (false::false::true::true::ω):=by delta G5;intros;kernel_rfl
theorem AVR:G5 (false::true::[]):=by delta G5;intros;kernel_rfl
theorem AWY(ω:List Bool):G5 (false::true::false::ω):=by delta G5;intros;kernel_rfl
theorem AN5:G5 (false::true::true::[]):=by delta G5;intros;kernel_rfl
theorem AOS(ω:List Bool):G5 (false::true::true::false::ω):=by delta G5;intros;kernel_rfl
theorem AQR:G5 (false::true::true::true::[]):=by delta G5;intros;kernel_rfl
theorem AN3(ω:List Bool):G5 (false::true::true::true::false::ω):=by delta G5;intros;kernel_rfl
theorem ANb(ω:List Bool):G5 (false::true::true::true::true::ω):=by delta G5;intros;kernel_rfl
theorem APe:G5 (true::[]):=by delta G5;intros;kernel_rfl
theorem ARw:G5 (true::false::[]):=by delta G5;intros;kernel_rfl
theorem AQC:G5 (true::false::false::[]):=by delta G5;intros;kernel_rfl
theorem AOb(ω:List Bool):G5 (true::false::false::false::ω):=by delta G5;intros;kernel_rfl
theorem ANd(ω:List Bool):G5 (true::false::false::true::ω):=by delta G5;intros;kernel_rfl
theorem AO4:G5 (true::false::true::[]):=by delta G5;intros;kernel_rfl
theorem ASB(ω:List Bool):G5 (true::false::true::false::ω):=by delta G5;intros;kernel_rfl
theorem APU:G5 (true::false::true::true::[]):=by delta G5;intros;kernel_rfl
theorem AOJ(ω:List Bool):G5 (true::false::true::true::false::ω):=by delta G5;intros;kernel_rfl
theorem ARa(ω:List Bool):G5 (true::false::true::true::true::ω):=by delta G5;intros;kernel_rfl
theorem ARK:G5 (true::true::[]):=by delta G5;intros;kernel_rfl
theorem ANt(ω:List Bool):G5 (true::true::false::ω):=by delta G5;intros;kernel_rfl
theorem AO6:G5 (true::true::true::[]):=by delta G5;intros;kernel_rfl
theorem AQ5(ω:List Bool):G5 (true::true::true::false::ω):=by delta G5;intros;kernel_rfl
theorem ARJ(ω:List Bool):G5 (true::true::true::true::ω):=by delta G5;intros;kernel_rfl
theorem e68(n:Nat)(ω:List Bool)(v:uC.V):Ci C68 c68 Tryz.f68 (K_ 0 L68 n) ω v=uC.un (OQ (H0 n)) v:=(AF ATp (AF AVk (AF ATo AVC (AF AVa AWL AVK)) (AF AVR AWY (AF AN5 AOS (AF AQR AN3 ANb)))) (AF APe (AF ARw (AF AQC AOb ANd) (AF AO4 ASB (AF APU AOJ ARa))) (AF ARK ANt (AF AO6 AQ5 ARJ)))) ω n v
def s68:SQ:=mk Tryz.func68 uC o68 ES [] [(1,[0,1]),(5,[0,1,2,3,4,6,7])] L68 (hJ:= .cons (fun _=>rfl) AW_ (.nil)) (he:=e68 AX)
abbrev i69:A6:=zi
abbrev o69:A6:=zz
def s69:SQ:=mk Tryz.func69 i69 o69 CN [] [] []
abbrev i26:A6:=pw
abbrev o26:A6:=AMe
def c26:QJ:=⟨i26,o26,(i26.un Mc)⟩
def C26:Z1:=⟨T,Ps (SP.l [s65,s66,s67,s68,s69]),B3 [(1,[0,1]),(5,[0,1,2,3,4,5,6,7,8,9,11,13,14,15,16,17,18]),(9,[0,1,2,3,4,5,6,7,8,9,11,12,13,14,16,17,18]),(13,[0,1,2,3,4,5,6,7,8,9,11,12,13,14,15,17,18]),(17,[0,1,2,3,4,5,6,7,8,9,11,12,13,14,15,16,18])]⟩
def L26:List (Lp o26):=[⟨3,⟨[(1,Jp),(2,Tk),(3,Yp),(4,BI)],dJ⟩,CX⟩,⟨7,⟨[(1,Jp),(2,Tk),(3,Yp),(5,BI)],dJ⟩,Cp⟩,⟨11,⟨[(1,Jp),(2,Tk),(3,Yp),(6,BI)],dJ⟩,CS⟩,⟨15,⟨[(1,Jp),(2,Tk),(3,Yp),(7,BI)],dJ⟩,CV⟩]
abbrev sL:A6:=⟨[(1,Jp),(2,Tk),(3,Yp),(4,BI)],dJ⟩
abbrev si:A6:=⟨[(1,Jp),(2,Tk),(3,Yp),(5,BI)],dJ⟩
abbrev ly:A6:=⟨[(1,Jp),(2,Tk),(3,Yp),(6,BI)],dJ⟩
abbrev lu:A6:=⟨[(1,Jp),(2,Tk),(3,Yp),(7,BI)],dJ⟩
theorem AWv(vR:ACC→Option Fg)(g66:ACD→Option LD)(ve:ACE→Option Fj)(g68:ABU→Option Ga)(g69:ACY→Option Jg)(n:Nat)(v:sL.V)(ω:List Bool):Hi ⟨T,Ps [(65,⟨yu,o65,yu.un vR⟩),(66,⟨i66,o66,i66.un g66⟩),(67,⟨y9,o67,y9.un ve⟩),(68,⟨uC,o68,uC.un g68⟩),(69,⟨i69,o69,i69.un g69⟩)],B3 [(1,[0,1]),(5,[0,1,2,3,4,5,6,7,8,9,11,13,14,15,16,17,18]),(9,[0,1,2,3,4,5,6,7,8,9,11,12,13,14,16,17,18]),(13,[0,1,2,3,4,5,6,7,8,9,11,12,13,14,15,17,18]),(17,[0,1,2,3,4,5,6,7,8,9,11,12,13,14,15,16,18])]⟩ c26 Tryz.f26 (K_ 0 L26 n) 3 ω (sL.st 104 v)=sL.un (fun(t4:Int) (AL:AAD) (AE:Int) (AY:AAh) (DN:AAD) (EV:AAg) (Aa:Int) (EN:AAq) (EA:AA2) (GJ:AA3) (GW:AAo) (AM:Bool) (Ap:Int) (DT:Int) (Dg:Bool) (b2:AAD) (b3:AAh) (b4:AAD) (b5:AAg) (b6:AAq) (b7:AA2) (b8:AA3) (b9:AAo) (Cb:Int) (C1:Int) (Bu:Bool) (Ef:AAD) (DI:AAh) (FU:AAD) (FZ:AAg) (De:AAq) (D4:AA2) (Ea:AA3) (Od:AAo)=>
 cond ((decide (t4<(AY.length:Int))))
  (if(0:Int)≤t4∧t4<(AY.length:Int)then(
  (g66 ((AY.getD (t4.toNat) ([],[],0,())).1,(AY.getD (t4.toNat) ([],[],0,())).2.1,(AY.getD (t4.toNat) ([],[],0,())).2.2.1,())).bind fun yQ=>
  if DI.length+1≤Go.M.C7 then(
  (CX n) (AS (t4+1)) AL AE AY DN EV Aa EN EA GJ GW AM Ap DT Dg b2 b3 b4 b5 b6 b7 b8 b9 Cb C1 Bu Ef (DI++[(yQ.2.1,yQ.2.2.1,yQ.1.1.2.2.1,())]) FU FZ De D4 Ea Od)else none)else none)
 ((Cp n) 0 AL AE AY DN EV Aa EN EA GJ GW AM Ap DT Dg b2 b3 b4 b5 b6 b7 b8 b9 Cb C1 Bu Ef DI FU FZ De D4 Ea Od)) v:=by rcases ω with _|⟨_|_,_|⟨_|_,_⟩⟩<;>kernel_rfl
theorem AUz(n:Nat)(v:sL.V)(ω:List Bool):Hi C26 c26 Tryz.f26 (K_ 0 L26 n) 3 ω (sL.st 104 v)=sL.un (Q4 (CX n) (Cp n) (CS n) (CV n)) v:=AWv GF Ek EO ES CN n v ω
theorem AUr(vR:ACC→Option Fg)(g66:ACD→Option LD)(ve:ACE→Option Fj)(g68:ABU→Option Ga)(g69:ACY→Option Jg)(n:Nat)(v:si.V)(ω:List Bool):Hi ⟨T,Ps [(65,⟨yu,o65,yu.un vR⟩),(66,⟨i66,o66,i66.un g66⟩),(67,⟨y9,o67,y9.un ve⟩),(68,⟨uC,o68,uC.un g68⟩),(69,⟨i69,o69,i69.un g69⟩)],B3 [(1,[0,1]),(5,[0,1,2,3,4,5,6,7,8,9,11,13,14,15,16,17,18]),(9,[0,1,2,3,4,5,6,7,8,9,11,12,13,14,16,17,18]),(13,[0,1,2,3,4,5,6,7,8,9,11,12,13,14,15,17,18]),(17,[0,1,2,3,4,5,6,7,8,9,11,12,13,14,15,16,18])]⟩ c26 Tryz.f26 (K_ 0 L26 n) 7 ω (si.st 104 v)=si.un (fun(t5:Int) (AL:AAD) (AE:Int) (AY:AAh) (DN:AAD) (EV:AAg) (Aa:Int) (EN:AAq) (EA:AA2) (GJ:AA3) (GW:AAo) (AM:Bool) (Ap:Int) (DT:Int) (Dg:Bool) (b2:AAD) (b3:AAh) (b4:AAD) (b5:AAg) (b6:AAq) (b7:AA2) (b8:AA3) (b9:AAo) (Cb:Int) (C1:Int) (Bu:Bool) (Ef:AAD) (DI:AAh) (FU:AAD) (FZ:AAg) (De:AAq) (D4:AA2) (Ea:AA3) (Od:AAo)=>
 cond ((decide (t5<(EN.length:Int))))
  (if(0:Int)≤t5∧t5<(EN.length:Int)then(
  (ve ((EN.getD (t5.toNat) (0,[],())).1,(EN.getD (t5.toNat) (0,[],())).2.1,())).bind fun AFM=>
  if De.length+1≤Go.M.C7 then(
  (Cp n) (AS (t5+1)) AL AE AY DN EV Aa EN EA GJ GW AM Ap DT Dg b2 b3 b4 b5 b6 b7 b8 b9 Cb C1 Bu Ef DI FU FZ (De++[(AFM.1.1.1,AFM.2.1,())]) D4 Ea Od)else none)else none)
 ((CS n) 0 AL AE AY DN EV Aa EN EA GJ GW AM Ap DT Dg b2 b3 b4 b5 b6 b7 b8 b9 Cb C1 Bu Ef DI FU FZ De D4 Ea Od)) v:=by rcases ω with _|⟨_|_,_|⟨_|_,_⟩⟩<;>kernel_rfl
theorem ATK(n:Nat)(v:si.V)(ω:List Bool):Hi C26 c26 Tryz.f26 (K_ 0 L26 n) 7 ω (si.st 104 v)=si.un (RQ (CX n) (Cp n) (CS n) (CV n)) v:=AUr GF Ek EO ES CN n v ω
theorem AO3(vR:ACC→Option Fg)(g66:ACD→Option LD)(ve:ACE→Option Fj)(g68:ABU→Option Ga)(g69:ACY→Option Jg)(n:Nat)(v:ly.V)(ω:List Bool):Hi ⟨T,Ps [(65,⟨yu,o65,yu.un vR⟩),(66,⟨i66,o66,i66.un g66⟩),(67,⟨y9,o67,y9.un ve⟩),(68,⟨uC,o68,uC.un g68⟩),(69,⟨i69,o69,i69.un g69⟩)],B3 [(1,[0,1]),(5,[0,1,2,3,4,5,6,7,8,9,11,13,14,15,16,17,18]),(9,[0,1,2,3,4,5,6,7,8,9,11,12,13,14,16,17,18]),(13,[0,1,2,3,4,5,6,7,8,9,11,12,13,14,15,17,18]),(17,[0,1,2,3,4,5,6,7,8,9,11,12,13,14,15,16,18])]⟩ c26 Tryz.f26 (K_ 0 L26 n) 11 ω (ly.st 104 v)=ly.un (fun(t6:Int) (AL:AAD) (AE:Int) (AY:AAh) (DN:AAD) (EV:AAg) (Aa:Int) (EN:AAq) (EA:AA2) (GJ:AA3) (GW:AAo) (AM:Bool) (Ap:Int) (DT:Int) (Dg:Bool) (b2:AAD) (b3:AAh) (b4:AAD) (b5:AAg) (b6:AAq) (b7:AA2) (b8:AA3) (b9:AAo) (Cb:Int) (C1:Int) (Bu:Bool) (Ef:AAD) (DI:AAh) (FU:AAD) (FZ:AAg) (De:AAq) (D4:AA2) (Ea:AA3) (Od:AAo)=>
 cond ((decide (t6<(EA.length:Int))))
  (if(0:Int)≤t6∧t6<(EA.length:Int)then(
  (g68 ((EA.getD (t6.toNat) (0,0,[],[],false,[],())).1,(EA.getD (t6.toNat) (0,0,[],[],false,[],())).2.1,(EA.getD (t6.toNat) (0,0,[],[],false,[],())).2.2.1,(EA.getD (t6.toNat) (0,0,[],[],false,[],())).2.2.2.1,(EA.getD (t6.toNat) (0,0,[],[],false,[],())).2.2.2.2.1,(EA.getD (t6.toNat) (0,0,[],[],false,[],())).2.2.2.2.2.1,())).bind fun lN=>
  if D4.length+1≤Go.M.C7 then(
  (CS n) (AS (t6+1)) AL AE AY DN EV Aa EN EA GJ GW AM Ap DT Dg b2 b3 b4 b5 b6 b7 b8 b9 Cb C1 Bu Ef DI FU FZ De (D4++[(lN.1.1.1,lN.1.1.2.1,lN.2.1,lN.2.2.1,lN.1.1.2.2.2.2.1,lN.2.2.2.1,())]) Ea Od)else none)else none)
 ((CV n) 0 AL AE AY DN EV Aa EN EA GJ GW AM Ap DT Dg b2 b3 b4 b5 b6 b7 b8 b9 Cb C1 Bu Ef DI FU FZ De D4 Ea Od)) v:=by rcases ω with _|⟨_|_,_|⟨_|_,_⟩⟩<;>kernel_rfl
theorem AOe(n:Nat)(v:ly.V)(ω:List Bool):Hi C26 c26 Tryz.f26 (K_ 0 L26 n) 11 ω (ly.st 104 v)=ly.un (P6 (CX n) (Cp n) (CS n) (CV n)) v:=AO3 GF Ek EO ES CN n v ω
theorem AQ8(vR:ACC→Option Fg)(g66:ACD→Option LD)(ve:ACE→Option Fj)(g68:ABU→Option Ga)(g69:ACY→Option Jg)(n:Nat)(v:lu.V)(ω:List Bool):Hi ⟨T,Ps [(65,⟨yu,o65,yu.un vR⟩),(66,⟨i66,o66,i66.un g66⟩),(67,⟨y9,o67,y9.un ve⟩),(68,⟨uC,o68,uC.un g68⟩),(69,⟨i69,o69,i69.un g69⟩)],B3 [(1,[0,1]),(5,[0,1,2,3,4,5,6,7,8,9,11,13,14,15,16,17,18]),(9,[0,1,2,3,4,5,6,7,8,9,11,12,13,14,16,17,18]),(13,[0,1,2,3,4,5,6,7,8,9,11,12,13,14,15,17,18]),(17,[0,1,2,3,4,5,6,7,8,9,11,12,13,14,15,16,18])]⟩ c26 Tryz.f26 (K_ 0 L26 n) 15 ω (lu.st 104 v)=lu.un (fun(t7:Int) (AL:AAD) (AE:Int) (AY:AAh) (DN:AAD) (EV:AAg) (Aa:Int) (EN:AAq) (EA:AA2) (GJ:AA3) (GW:AAo) (AM:Bool) (Ap:Int) (DT:Int) (Dg:Bool) (b2:AAD) (b3:AAh) (b4:AAD) (b5:AAg) (b6:AAq) (b7:AA2) (b8:AA3) (b9:AAo) (Cb:Int) (C1:Int) (Bu:Bool) (Ef:AAD) (DI:AAh) (FU:AAD) (FZ:AAg) (De:AAq) (D4:AA2) (Ea:AA3) (Od:AAo)=>
 cond ((decide (t7<(GJ.length:Int))))
  (if(0:Int)≤t7∧t7<(GJ.length:Int)then(
  (g69 ((GJ.getD (t7.toNat) (0,0,[],())).1,(GJ.getD (t7.toNat) (0,0,[],())).2.1,(GJ.getD (t7.toNat) (0,0,[],())).2.2.1,())).bind fun yD=>
  if Ea.length+1≤Go.M.C7 then(
  (CV n) (AS (t7+1)) AL AE AY DN EV Aa EN EA GJ GW AM Ap DT Dg b2 b3 b4 b5 b6 b7 b8 b9 Cb C1 Bu Ef DI FU FZ De D4 (Ea++[(yD.1.1.1,yD.1.1.2.1,yD.2.1,())]) Od)else none)else none)
 (some ((((),Cb,(),(),(),C1,(),(),(),(),Bu,()),()),(Ef,DI,FU,FZ,De,D4,Ea,Od,())))) v:=by rcases ω with _|⟨_|_,_|⟨_|_,_⟩⟩<;>kernel_rfl
theorem AQG(n:Nat)(v:lu.V)(ω:List Bool):Hi C26 c26 Tryz.f26 (K_ 0 L26 n) 15 ω (lu.st 104 v)=lu.un (P9 (CX n) (Cp n) (CS n) (CV n)) v:=AQ8 GF Ek EO ES CN n v ω
def AG(ω:List Bool):Prop:= ∀(vR:ACC→Option Fg) (g66:ACD→Option LD) (ve:ACE→Option Fj) (g68:ABU→Option Ga) (g69:ACY→Option Jg) (n:Nat) (v:i26.V),Ci ⟨T,Ps [(65,⟨yu,o65,yu.un vR⟩),(66,⟨i66,o66,i66.un g66⟩),(67,⟨y9,o67,y9.un ve⟩),(68,⟨uC,o68,uC.un g68⟩),(69,⟨i69,o69,i69.un g69⟩)],B3 [(1,[0,1]),(5,[0,1,2,3,4,5,6,7,8,9,11,13,14,15,16,17,18]),(9,[0,1,2,3,4,5,6,7,8,9,11,12,13,14,16,17,18]),(13,[0,1,2,3,4,5,6,7,8,9,11,12,13,14,15,17,18]),(17,[0,1,2,3,4,5,6,7,8,9,11,12,13,14,15,16,18])]⟩ c26 Tryz.f26 (K_ 0 L26 n) ω v=i26.un (fun(p0:ABi)=>
 if 0+p0.1.length≤Go.M.C7 then(
 if 0+p0.2.2.2.1.length≤Go.M.C7 then(
 (vR (p0.2.2.2.2.1,p0.2.2.2.2.2.1,())).bind fun u2=>
 if 0+p0.2.2.2.2.2.2.2.2.2.1.length≤Go.M.C7 then(
 (CX n) 0 p0.1 p0.2.1 p0.2.2.1 p0.2.2.2.1 p0.2.2.2.2.1 p0.2.2.2.2.2.1 p0.2.2.2.2.2.2.1 p0.2.2.2.2.2.2.2.1 p0.2.2.2.2.2.2.2.2.1 p0.2.2.2.2.2.2.2.2.2.1 p0.2.2.2.2.2.2.2.2.2.2.1 0 0 false [] [] [] [] [] [] [] [] p0.2.1 u2.1.1.2.1 p0.2.2.2.2.2.2.2.2.2.2.1 p0.1 [] p0.2.2.2.1 u2.2.1 [] [] [] p0.2.2.2.2.2.2.2.2.2.1)else none)else none)else none) v
theorem AVe:AG []:=by delta AG;intros;kernel_rfl
theorem AWU:AG (false::[]):=by delta AG;intros;kernel_rfl
theorem AWR:AG (false::false::[]):=by delta AG;intros;kernel_rfl
theorem AWz:AG (false::false::false::[]):=by delta AG;intros;kernel_rfl
theorem ATz:AG (false::false::false::false::[]):=by delta AG;intros;kernel_rfl
theorem AU_:AG (false::false::false::false::false::[]):=by delta AG;intros;kernel_rfl
theorem AWe(ω:List Bool):AG (false::false::false::false::false::false::ω):=by delta AG;intros;kernel_rfl
theorem AVO:AG (false::false::false::false::false::true::[]):=by delta AG;intros;kernel_rfl
theorem AUv(ω:List Bool):AG (false::false::false::false::false::true::false::ω):=by delta AG;intros;kernel_rfl
theorem AOy(ω:List Bool):AG (false::false::false::false::false::true::true::ω):=by delta AG;intros;kernel_rfl
theorem AN6:AG (false::false::false::false::true::[]):=by delta AG;intros;kernel_rfl
theorem ANm(ω:List Bool):AG (false::false::false::false::true::false::ω):=by delta AG;intros;kernel_rfl
theorem APw:AG (false::false::false::false::true::true::[]):=by delta AG;intros;kernel_rfl
theorem AQ6(ω:List Bool):AG (false::false::false::false::true::true::false::ω):=by delta AG;intros;kernel_rfl
theorem AN2:AG (false::false::false::false::true::true::true::[]):=by delta AG;intros;kernel_rfl
theorem AOr(ω:List Bool):AG (false::false::false::false::true::true::true::false::ω):=by delta AG;intros;kernel_rfl
theorem ARC:AG (false::false::false::false::true::true::true::true::[]):=by delta AG;intros;kernel_rfl
theorem ARd(ω:List Bool):AG (false::false::false::false::true::true::true::true::false::ω):=by delta AG;intros;kernel_rfl
theorem APi(ω:List Bool):AG (false::false::false::false::true::true::true::true::true::ω):=by delta AG;intros;kernel_rfl
theorem AOF:AG (false::false::false::true::[]):=by delta AG;intros;kernel_rfl
theorem APQ:AG (false::false::false::true::false::[]):=by delta AG;intros;kernel_rfl
theorem ANl:AG (false::false::false::true::false::false::[]):=by delta AG;intros;kernel_rfl
theorem AOc(ω:List Bool):AG (false::false::false::true::false::false::false::ω):=by delta AG;intros;kernel_rfl
theorem APh(ω:List Bool):AG (false::false::false::true::false::false::true::ω):=by delta AG;intros;kernel_rfl
theorem AOB:AG (false::false::false::true::false::true::[]):=by delta AG;intros;kernel_rfl
theorem AN8(ω:List Bool):AG (false::false::false::true::false::true::false::ω):=by delta AG;intros;kernel_rfl
theorem AR_:AG (false::false::false::true::false::true::true::[]):=by delta AG;intros;kernel_rfl
theorem AR2(ω:List Bool):AG (false::false::false::true::false::true::true::false::ω):=by delta AG;intros;kernel_rfl
theorem ARb:AG (false::false::false::true::false::true::true::true::[]):=by delta AG;intros;kernel_rfl
theorem AQv(ω:List Bool):AG (false::false::false::true::false::true::true::true::false::ω):=by delta AG;intros;kernel_rfl
theorem AOl(ω:List Bool):AG (false::false::false::true::false::true::true::true::true::ω):=by delta AG;intros;kernel_rfl
theorem AQp:AG (false::false::false::true::true::[]):=by delta AG;intros;kernel_rfl
theorem AOx(ω:List Bool):AG (false::false::false::true::true::false::ω):=by delta AG;intros;kernel_rfl
theorem ASQ:AG (false::false::false::true::true::true::[]):=by delta AG;intros;kernel_rfl
theorem ARr(ω:List Bool):AG (false::false::false::true::true::true::false::ω):=by delta AG;intros;kernel_rfl
theorem AP0:AG (false::false::false::true::true::true::true::[]):=by delta AG;intros;kernel_rfl
theorem APq(ω:List Bool):AG (false::false::false::true::true::true::true::false::ω):=by delta AG;intros;kernel_rfl
theorem AO7(ω:List Bool):AG (false::false::false::true::true::true::true::true::ω):=by delta AG;intros;kernel_rfl
theorem ARg:AG (false::false::true::[]):=by delta AG;intros;kernel_rfl
theorem APY:AG (false::false::true::false::[]):=by delta AG;intros;kernel_rfl
theorem ASF:AG (false::false::true::false::false::[]):=by delta AG;intros;kernel_rfl
theorem APl(ω:List Bool):AG (false::false::true::false::false::false::ω):=by delta AG;intros;kernel_rfl
theorem ASU:AG (false::false::true::false::false::true::[]):=by delta AG;intros;kernel_rfl
theorem ASR(ω:List Bool):AG (false::false::true::false::false::true::false::ω):=by delta AG;intros;kernel_rfl
theorem ASA(ω:List Bool):AG (false::false::true::false::false::true::true::ω):=by delta AG;intros;kernel_rfl
theorem ARI:AG (false::false::true::false::true::[]):=by delta AG;intros;kernel_rfl
theorem AP_(ω:List Bool):AG (false::false::true::false::true::false::ω):=by delta AG;intros;kernel_rfl
theorem APG:AG (false::false::true::false::true::true::[]):=by delta AG;intros;kernel_rfl
theorem ANY(ω:List Bool):AG (false::false::true::false::true::true::false::ω):=by delta AG;intros;kernel_rfl
theorem AQs:AG (false::false::true::false::true::true::true::[]):=by delta AG;intros;kernel_rfl
theorem AQ_(ω:List Bool):AG (false::false::true::false::true::true::true::false::ω):=by delta AG;intros;kernel_rfl
theorem AOD:AG (false::false::true::false::true::true::true::true::[]):=by delta AG;intros;kernel_rfl
theorem AR0(ω:List Bool):AG (false::false::true::false::true::true::true::true::false::ω):=by delta AG;intros;kernel_rfl
theorem ARn:AG (false::false::true::false::true::true::true::true::true::[]):=by delta AG;intros;kernel_rfl
theorem ASO(ω:List Bool):AG (false::false::true::false::true::true::true::true::true::false::ω):=by delta AG;intros;kernel_rfl
theorem ARM(ω:List Bool):AG (false::false::true::false::true::true::true::true::true::true::ω):=by delta AG;intros;kernel_rfl
theorem AQ9:AG (false::false::true::true::[]):=by delta AG;intros;kernel_rfl
theorem AQb:AG (false::false::true::true::false::[]):=by delta AG;intros;kernel_rfl
theorem API:AG (false::false::true::true::false::false::[]):=by delta AG;intros;kernel_rfl
theorem AOI(ω:List Bool):AG (false::false::true::true::false::false::false::ω):=by delta AG;intros;kernel_rfl
theorem APg(ω:List Bool):AG (false::false::true::true::false::false::true::ω):=by delta AG;intros;kernel_rfl
theorem AO1:AG (false::false::true::true::false::true::[]):=by delta AG;intros;kernel_rfl
theorem APj(ω:List Bool):AG (false::false::true::true::false::true::false::ω):=by delta AG;intros;kernel_rfl
theorem AR8:AG (false::false::true::true::false::true::true::[]):=by delta AG;intros;kernel_rfl
theorem ARt(ω:List Bool):AG (false::false::true::true::false::true::true::false::ω):=by delta AG;intros;kernel_rfl
theorem AP9:AG (false::false::true::true::false::true::true::true::[]):=by delta AG;intros;kernel_rfl
theorem APt(ω:List Bool):AG (false::false::true::true::false::true::true::true::false::ω):=by delta AG;intros;kernel_rfl
theorem APF:AG (false::false::true::true::false::true::true::true::true::[]):=by delta AG;intros;kernel_rfl
theorem ANX(ω:List Bool):AG (false::false::true::true::false::true::true::true::true::false::ω):=by delta AG;intros;kernel_rfl
theorem AQc(ω:List Bool):AG (false::false::true::true::false::true::true::true::true::true::ω):=by delta AG;intros;kernel_rfl
theorem ANh:AG (false::false::true::true::true::[]):=by delta AG;intros;kernel_rfl
theorem AQY(ω:List Bool):AG (false::false::true::true::true::false::ω):=by delta AG;intros;kernel_rfl
theorem ARz:AG (false::false::true::true::true::true::[]):=by delta AG;intros;kernel_rfl
theorem AR5(ω:List Bool):AG (false::false::true::true::true::true::false::ω):=by delta AG;intros;kernel_rfl
theorem ARB:AG (false::false::true::true::true::true::true::[]):=by delta AG;intros;kernel_rfl
theorem ANe(ω:List Bool):AG (false::false::true::true::true::true::true::false::ω):=by delta AG;intros;kernel_rfl
theorem AQK:AG (false::false::true::true::true::true::true::true::[]):=by delta AG;intros;kernel_rfl
theorem APm(ω:List Bool):AG (false::false::true::true::true::true::true::true::false::ω):=by delta AG;intros;kernel_rfl
theorem AO9(ω:List Bool):AG (false::false::true::true::true::true::true::true::true::ω):=by delta AG;intros;kernel_rfl
theorem APK:AG (false::true::[]):=by delta AG;intros;kernel_rfl
theorem APu:AG (false::true::false::[]):=by delta AG;intros;kernel_rfl
theorem ARS:AG (false::true::false::false::[]):=by delta AG;intros;kernel_rfl
theorem ASN(ω:List Bool):AG (false::true::false::false::false::ω):=by delta AG;intros;kernel_rfl
theorem APX:AG (false::true::false::false::true::[]):=by delta AG;intros;kernel_rfl
theorem AQu(ω:List Bool):AG (false::true::false::false::true::false::ω):=by delta AG;intros;kernel_rfl
theorem ARk:AG (false::true::false::false::true::true::[]):=by delta AG;intros;kernel_rfl
theorem APN(ω:List Bool):AG (false::true::false::false::true::true::false::ω):=by delta AG;intros;kernel_rfl
theorem AQt:AG (false::true::false::false::true::true::true::[]):=by delta AG;intros;kernel_rfl
theorem AQx(ω:List Bool):AG (false::true::false::false::true::true::true::false::ω):=by delta AG;intros;kernel_rfl
theorem AQI(ω:List Bool):AG (false::true::false::false::true::true::true::true::ω):=by delta AG;intros;kernel_rfl
theorem ARE:AG (false::true::false::true::[]):=by delta AG;intros;kernel_rfl
theorem AR9(ω:List Bool):AG (false::true::false::true::false::ω):=by delta AG;intros;kernel_rfl
theorem APy:AG (false::true::false::true::true::[]):=by delta AG;intros;kernel_rfl
theorem AQh(ω:List Bool):AG (false::true::false::true::true::false::ω):=by delta AG;intros;kernel_rfl
theorem APD:AG (false::true::false::true::true::true::[]):=by delta AG;intros;kernel_rfl
theorem AOL(ω:List Bool):AG (false::true::false::true::true::true::false::ω):=by delta AG;intros;kernel_rfl
theorem AQ7:AG (false::true::false::true::true::true::true::[]):=by delta AG;intros;kernel_rfl
theorem ARR(ω:List Bool):AG (false::true::false::true::true::true::true::false::ω):=by delta AG;intros;kernel_rfl
theorem APE:AG (false::true::false::true::true::true::true::true::[]):=by delta AG;intros;kernel_rfl
theorem AK9(ω:List Bool):AG (false::true::false::true::true::true::true::true::false::ω):=by delta AG;intros;kernel_rfl
theorem AIY(ω:List Bool):AG (false::true::false::true::true::true::true::true::true::ω):=by delta AG;intros;kernel_rfl
theorem AFw:AG (false::true::true::[]):=by delta AG;intros;kernel_rfl
theorem ALS:AG (false::true::true::false::[]):=by delta AG;intros;kernel_rfl
theorem AI1:AG (false::true::true::false::false::[]):=by delta AG;intros;kernel_rfl
theorem AKf(ω:List Bool):AG (false::true::true::false::false::false::ω):=by delta AG;intros;kernel_rfl
theorem AIc:AG (false::true::true::false::false::true::[]):=by delta AG;intros;kernel_rfl
theorem AKD(ω:List Bool):AG (false::true::true::false::false::true::false::ω):=by delta AG;intros;kernel_rfl
theorem AG8:AG (false::true::true::false::false::true::true::[]):=by delta AG;intros;kernel_rfl
theorem AGT(ω:List Bool):AG (false::true::true::false::false::true::true::false::ω):=by delta AG;intros;kernel_rfl
theorem AH3(ω:List Bool):AG (false::true::true::false::false::true::true::true::ω):=by delta AG;intros;kernel_rfl
theorem AII:AG (false::true::true::false::true::[]):=by delta AG;intros;kernel_rfl
theorem AKU(ω:List Bool):AG (false::true::true::false::true::false::ω):=by delta AG;intros;kernel_rfl
theorem AJD:AG (false::true::true::false::true::true::[]):=by delta AG;intros;kernel_rfl
theorem AKx(ω:List Bool):AG (false::true::true::false::true::true::false::ω):=by delta AG;intros;kernel_rfl
theorem AJi:AG (false::true::true::false::true::true::true::[]):=by delta AG;intros;kernel_rfl
theorem AHB(ω:List Bool):AG (false::true::true::false::true::true::true::false::ω):=by delta AG;intros;kernel_rfl
theorem AFq:AG (false::true::true::false::true::true::true::true::[]):=by delta AG;intros;kernel_rfl
theorem AF_(ω:List Bool):AG (false::true::true::false::true::true::true::true::false::ω):=by delta AG;intros;kernel_rfl
theorem AIU(ω:List Bool):AG (false::true::true::false::true::true::true::true::true::ω):=by delta AG;intros;kernel_rfl
theorem AKc:AG (false::true::true::true::[]):=by delta AG;intros;kernel_rfl
theorem AGZ:AG (false::true::true::true::false::[]):=by delta AG;intros;kernel_rfl
theorem AJa:AG (false::true::true::true::false::false::[]):=by delta AG;intros;kernel_rfl
theorem AG3(ω:List Bool):AG (false::true::true::true::false::false::false::ω):=by delta AG;intros;kernel_rfl
theorem AHI:AG (false::true::true::true::false::false::true::[]):=by delta AG;intros;kernel_rfl
theorem AFu(ω:List Bool):AG (false::true::true::true::false::false::true::false::ω):=by delta AG;intros;kernel_rfl
theorem AGN(ω:List Bool):AG (false::true::true::true::false::false::true::true::ω):=by delta AG;intros;kernel_rfl
theorem AJB:AG (false::true::true::true::false::true::[]):=by delta AG;intros;kernel_rfl
theorem AIW(ω:List Bool):AG (false::true::true::true::false::true::false::ω):=by delta AG;intros;kernel_rfl
theorem AHu:AG (false::true::true::true::false::true::true::[]):=by delta AG;intros;kernel_rfl
theorem ALi(ω:List Bool):AG (false::true::true::true::false::true::true::false::ω):=by delta AG;intros;kernel_rfl
theorem AKk:AG (false::true::true::true::false::true::true::true::[]):=by delta AG;intros;kernel_rfl
theorem AG7(ω:List Bool):AG (false::true::true::true::false::true::true::true::false::ω):=by delta AG;intros;kernel_rfl
theorem AHV(ω:List Bool):AG (false::true::true::true::false::true::true::true::true::ω):=by delta AG;intros;kernel_rfl
theorem ALW:AG (false::true::true::true::true::[]):=by delta AG;intros;kernel_rfl
theorem ALB:AG (false::true::true::true::true::false::[]):=by delta AG;intros;kernel_rfl
theorem AJv:AG (false::true::true::true::true::false::false::[]):=by delta AG;intros;kernel_rfl
theorem AKt(ω:List Bool):AG (false::true::true::true::true::false::false::false::ω):=by delta AG;intros;kernel_rfl
theorem AGi(ω:List Bool):AG (false::true::true::true::true::false::false::true::ω):=by delta AG;intros;kernel_rfl
theorem AJK:AG (false::true::true::true::true::false::true::[]):=by delta AG;intros;kernel_rfl
theorem AIt(ω:List Bool):AG (false::true::true::true::true::false::true::false::ω):=by delta AG;intros;kernel_rfl
theorem AJ5:AG (false::true::true::true::true::false::true::true::[]):=by delta AG;intros;kernel_rfl
theorem AHY(ω:List Bool):AG (false::true::true::true::true::false::true::true::false::ω):=by delta AG;intros;kernel_rfl
theorem AKo(ω:List Bool):AG (false::true::true::true::true::false::true::true::true::ω):=by delta AG;intros;kernel_rfl
theorem AHR:AG (false::true::true::true::true::true::[]):=by delta AG;intros;kernel_rfl
theorem AJy(ω:List Bool):AG (false::true::true::true::true::true::false::ω):=by delta AG;intros;kernel_rfl
theorem AGY:AG (false::true::true::true::true::true::true::[]):=by delta AG;intros;kernel_rfl
theorem AGW(ω:List Bool):AG (false::true::true::true::true::true::true::false::ω):=by delta AG;intros;kernel_rfl
theorem AGd(ω:List Bool):AG (false::true::true::true::true::true::true::true::ω):=by delta AG;intros;kernel_rfl
theorem AGA:AG (true::[]):=by delta AG;intros;kernel_rfl
theorem AHZ:AG (true::false::[]):=by delta AG;intros;kernel_rfl
theorem AHp:AG (true::false::false::[]):=by delta AG;intros;kernel_rfl
theorem AJo:AG (true::false::false::false::[]):=by delta AG;intros;kernel_rfl
theorem AFx:AG (true::false::false::false::false::[]):=by delta AG;intros;kernel_rfl
theorem AJb:AG (true::false::false::false::false::false::[]):=by delta AG;intros;kernel_rfl
theorem AIM(ω:List Bool):AG (true::false::false::false::false::false::false::ω):=by delta AG;intros;kernel_rfl
theorem AJf(ω:List Bool):AG (true::false::false::false::false::false::true::ω):=by delta AG;intros;kernel_rfl
theorem AJH:AG (true::false::false::false::false::true::[]):=by delta AG;intros;kernel_rfl
theorem AJU(ω:List Bool):AG (true::false::false::false::false::true::false::ω):=by delta AG;intros;kernel_rfl
theorem AGy:AG (true::false::false::false::false::true::true::[]):=by delta AG;intros;kernel_rfl
theorem AIX(ω:List Bool):AG (true::false::false::false::false::true::true::false::ω):=by delta AG;intros;kernel_rfl
theorem AId:AG (true::false::false::false::false::true::true::true::[]):=by delta AG;intros;kernel_rfl
theorem ALw(ω:List Bool):AG (true::false::false::false::false::true::true::true::false::ω):=by delta AG;intros;kernel_rfl
theorem AIg(ω:List Bool):AG (true::false::false::false::false::true::true::true::true::ω):=by delta AG;intros;kernel_rfl
theorem AHs:AG (true::false::false::false::true::[]):=by delta AG;intros;kernel_rfl
theorem ALK(ω:List Bool):AG (true::false::false::false::true::false::ω):=by delta AG;intros;kernel_rfl
theorem ALy:AG (true::false::false::false::true::true::[]):=by delta AG;intros;kernel_rfl
theorem AKS(ω:List Bool):AG (true::false::false::false::true::true::false::ω):=by delta AG;intros;kernel_rfl
theorem AFo:AG (true::false::false::false::true::true::true::[]):=by delta AG;intros;kernel_rfl
theorem ALL(ω:List Bool):AG (true::false::false::false::true::true::true::false::ω):=by delta AG;intros;kernel_rfl
theorem AJS(ω:List Bool):AG (true::false::false::false::true::true::true::true::ω):=by delta AG;intros;kernel_rfl
theorem AF1:AG (true::false::false::true::[]):=by delta AG;intros;kernel_rfl
theorem AHg:AG (true::false::false::true::false::[]):=by delta AG;intros;kernel_rfl
theorem AHm:AG (true::false::false::true::false::false::[]):=by delta AG;intros;kernel_rfl
theorem AJt(ω:List Bool):AG (true::false::false::true::false::false::false::ω):=by delta AG;intros;kernel_rfl
theorem AJg(ω:List Bool):AG (true::false::false::true::false::false::true::ω):=by delta AG;intros;kernel_rfl
theorem AG0:AG (true::false::false::true::false::true::[]):=by delta AG;intros;kernel_rfl
theorem AHw(ω:List Bool):AG (true::false::false::true::false::true::false::ω):=by delta AG;intros;kernel_rfl
theorem AJZ:AG (true::false::false::true::false::true::true::[]):=by delta AG;intros;kernel_rfl
theorem AGw(ω:List Bool):AG (true::false::false::true::false::true::true::false::ω):=by delta AG;intros;kernel_rfl
theorem AHt:AG (true::false::false::true::false::true::true::true::[]):=by delta AG;intros;kernel_rfl
theorem AHh(ω:List Bool):AG (true::false::false::true::false::true::true::true::false::ω):=by delta AG;intros;kernel_rfl
theorem AKC:AG (true::false::false::true::false::true::true::true::true::[]):=by delta AG;intros;kernel_rfl
theorem AF7(ω:List Bool):AG (true::false::false::true::false::true::true::true::true::false::ω):=by delta AG;intros;kernel_rfl
theorem AKy(ω:List Bool):AG (true::false::false::true::false::true::true::true::true::true::ω):=by delta AG;intros;kernel_rfl
theorem AJe:AG (true::false::false::true::true::[]):=by delta AG;intros;kernel_rfl
theorem AIp(ω:List Bool):AG (true::false::false::true::true::false::ω):=by delta AG;intros;kernel_rfl
theorem AJp:AG (true::false::false::true::true::true::[]):=by delta AG;intros;kernel_rfl
theorem ALo(ω:List Bool):AG (true::false::false::true::true::true::false::ω):=by delta AG;intros;kernel_rfl
theorem AKN:AG (true::false::false::true::true::true::true::[]):=by delta AG;intros;kernel_rfl
theorem AGL(ω:List Bool):AG (true::false::false::true::true::true::true::false::ω):=by delta AG;intros;kernel_rfl
theorem AHU:AG (true::false::false::true::true::true::true::true::[]):=by delta AG;intros;kernel_rfl
theorem AJV(ω:List Bool):AG (true::false::false::true::true::true::true::true::false::ω):=by delta AG;intros;kernel_rfl
theorem AJX(ω:List Bool):AG (true::false::false::true::true::true::true::true::true::ω):=by delta AG;intros;kernel_rfl
theorem AKp:AG (true::false::true::[]):=by delta AG;intros;kernel_rfl
theorem AH0:AG (true::false::true::false::[]):=by delta AG;intros;kernel_rfl
theorem AH1:AG (true::false::true::false::false::[]):=by delta AG;intros;kernel_rfl
theorem AHb(ω:List Bool):AG (true::false::true::false::false::false::ω):=by delta AG;intros;kernel_rfl
theorem AHi:AG (true::false::true::false::false::true::[]):=by delta AG;intros;kernel_rfl
theorem AJA(ω:List Bool):AG (true::false::true::false::false::true::false::ω):=by delta AG;intros;kernel_rfl
theorem AHG:AG (true::false::true::false::false::true::true::[]):=by delta AG;intros;kernel_rfl
theorem ALs(ω:List Bool):AG (true::false::true::false::false::true::true::false::ω):=by delta AG;intros;kernel_rfl
theorem AK8(ω:List Bool):AG (true::false::true::false::false::true::true::true::ω):=by delta AG;intros;kernel_rfl
theorem ALQ:AG (true::false::true::false::true::[]):=by delta AG;intros;kernel_rfl
theorem ALE(ω:List Bool):AG (true::false::true::false::true::false::ω):=by delta AG;intros;kernel_rfl
theorem AKO:AG (true::false::true::false::true::true::[]):=by delta AG;intros;kernel_rfl
theorem AKv(ω:List Bool):AG (true::false::true::false::true::true::false::ω):=by delta AG;intros;kernel_rfl
theorem AJN:AG (true::false::true::false::true::true::true::[]):=by delta AG;intros;kernel_rfl
theorem AK7(ω:List Bool):AG (true::false::true::false::true::true::true::false::ω):=by delta AG;intros;kernel_rfl
theorem AHF:AG (true::false::true::false::true::true::true::true::[]):=by delta AG;intros;kernel_rfl
theorem AHP(ω:List Bool):AG (true::false::true::false::true::true::true::true::false::ω):=by delta AG;intros;kernel_rfl
theorem ALM(ω:List Bool):AG (true::false::true::false::true::true::true::true::true::ω):=by delta AG;intros;kernel_rfl
theorem AI0:AG (true::false::true::true::[]):=by delta AG;intros;kernel_rfl
theorem AGp:AG (true::false::true::true::false::[]):=by delta AG;intros;kernel_rfl
theorem AIu:AG (true::false::true::true::false::false::[]):=by delta AG;intros;kernel_rfl
theorem AJ8(ω:List Bool):AG (true::false::true::true::false::false::false::ω):=by delta AG;intros;kernel_rfl
theorem AIN:AG (true::false::true::true::false::false::true::[]):=by delta AG;intros;kernel_rfl
theorem AGE(ω:List Bool):AG (true::false::true::true::false::false::true::false::ω):=by delta AG;intros;kernel_rfl
theorem AJn(ω:List Bool):AG (true::false::true::true::false::false::true::true::ω):=by delta AG;intros;kernel_rfl
theorem AI6:AG (true::false::true::true::false::true::[]):=by delta AG;intros;kernel_rfl
theorem AJk(ω:List Bool):AG (true::false::true::true::false::true::false::ω):=by delta AG;intros;kernel_rfl
theorem ALJ:AG (true::false::true::true::false::true::true::[]):=by delta AG;intros;kernel_rfl
theorem ALc(ω:List Bool):AG (true::false::true::true::false::true::true::false::ω):=by delta AG;intros;kernel_rfl
theorem AKM:AG (true::false::true::true::false::true::true::true::[]):=by delta AG;intros;kernel_rfl
theorem AG9(ω:List Bool):AG (true::false::true::true::false::true::true::true::false::ω):=by delta AG;intros;kernel_rfl
theorem AHk(ω:List Bool):AG (true::false::true::true::false::true::true::true::true::ω):=by delta AG;intros;kernel_rfl
theorem AH6:AG (true::false::true::true::true::[]):=by delta AG;intros;kernel_rfl
theorem AF5:AG (true::false::true::true::true::false::[]):=by delta AG;intros;kernel_rfl
theorem AJF:AG (true::false::true::true::true::false::false::[]):=by delta AG;intros;kernel_rfl
theorem AHN(ω:List Bool):AG (true::false::true::true::true::false::false::false::ω):=by delta AG;intros;kernel_rfl
theorem AIQ(ω:List Bool):AG (true::false::true::true::true::false::false::true::ω):=by delta AG;intros;kernel_rfl
theorem AIj:AG (true::false::true::true::true::false::true::[]):=by delta AG;intros;kernel_rfl
theorem AIC(ω:List Bool):AG (true::false::true::true::true::false::true::false::ω):=by delta AG;intros;kernel_rfl
theorem AIK:AG (true::false::true::true::true::false::true::true::[]):=by delta AG;intros;kernel_rfl
theorem AGI(ω:List Bool):AG (true::false::true::true::true::false::true::true::false::ω):=by delta AG;intros;kernel_rfl
theorem AGs(ω:List Bool):AG (true::false::true::true::true::false::true::true::true::ω):=by delta AG;intros;kernel_rfl
theorem AJJ:AG (true::false::true::true::true::true::[]):=by delta AG;intros;kernel_rfl
theorem AJC(ω:List Bool):AG (true::false::true::true::true::true::false::ω):=by delta AG;intros;kernel_rfl
theorem AKr:AG (true::false::true::true::true::true::true::[]):=by delta AG;intros;kernel_rfl
theorem AIO(ω:List Bool):AG (true::false::true::true::true::true::true::false::ω):=by delta AG;intros;kernel_rfl
theorem AKb(ω:List Bool):AG (true::false::true::true::true::true::true::true::ω):=by delta AG;intros;kernel_rfl
theorem AIe:AG (true::true::[]):=by delta AG;intros;kernel_rfl
theorem AHa:AG (true::true::false::[]):=by delta AG;intros;kernel_rfl
theorem ALr:AG (true::true::false::false::[]):=by delta AG;intros;kernel_rfl
theorem AF9(ω:List Bool):AG (true::true::false::false::false::ω):=by delta AG;intros;kernel_rfl
theorem ALG:AG (true::true::false::false::true::[]):=by delta AG;intros;kernel_rfl
theorem AGV(ω:List Bool):AG (true::true::false::false::true::false::ω):=by delta AG;intros;kernel_rfl
theorem ALt:AG (true::true::false::false::true::true::[]):=by delta AG;intros;kernel_rfl
theorem AF2(ω:List Bool):AG (true::true::false::false::true::true::false::ω):=by delta AG;intros;kernel_rfl
theorem AI9(ω:List Bool):AG (true::true::false::false::true::true::true::ω):=by delta AG;intros;kernel_rfl
theorem AGx:AG (true::true::false::true::[]):=by delta AG;intros;kernel_rfl
theorem AIL(ω:List Bool):AG (true::true::false::true::false::ω):=by delta AG;intros;kernel_rfl
theorem ALZ:AG (true::true::false::true::true::[]):=by delta AG;intros;kernel_rfl
theorem AGK(ω:List Bool):AG (true::true::false::true::true::false::ω):=by delta AG;intros;kernel_rfl
theorem AKE:AG (true::true::false::true::true::true::[]):=by delta AG;intros;kernel_rfl
theorem AIs(ω:List Bool):AG (true::true::false::true::true::true::false::ω):=by delta AG;intros;kernel_rfl
theorem ALh:AG (true::true::false::true::true::true::true::[]):=by delta AG;intros;kernel_rfl
theorem AGD(ω:List Bool):AG (true::true::false::true::true::true::true::false::ω):=by delta AG;intros;kernel_rfl
theorem AGg(ω:List Bool):AG (true::true::false::true::true::true::true::true::ω):=by delta AG;intros;kernel_rfl
theorem AGX:AG (true::true::true::[]):=by delta AG;intros;kernel_rfl
theorem AJ7:AG (true::true::true::false::[]):=by delta AG;intros;kernel_rfl
theorem AHf:AG (true::true::true::false::false::[]):=by delta AG;intros;kernel_rfl
theorem AKA(ω:List Bool):AG (true::true::true::false::false::false::ω):=by delta AG;intros;kernel_rfl
theorem AJI:AG (true::true::true::false::false::true::[]):=by delta AG;intros;kernel_rfl
theorem AGh(ω:List Bool):AG (true::true::true::false::false::true::false::ω):=by delta AG;intros;kernel_rfl
theorem AHD(ω:List Bool):AG (true::true::true::false::false::true::true::ω):=by delta AG;intros;kernel_rfl
theorem AHE:AG (true::true::true::false::true::[]):=by delta AG;intros;kernel_rfl
theorem AGu(ω:List Bool):AG (true::true::true::false::true::false::ω):=by delta AG;intros;kernel_rfl
theorem ALe:AG (true::true::true::false::true::true::[]):=by delta AG;intros;kernel_rfl
theorem ALq(ω:List Bool):AG (true::true::true::false::true::true::false::ω):=by delta AG;intros;kernel_rfl
theorem AHe:AG (true::true::true::false::true::true::true::[]):=by delta AG;intros;kernel_rfl
theorem ALm(ω:List Bool):AG (true::true::true::false::true::true::true::false::ω):=by delta AG;intros;kernel_rfl
theorem AI7(ω:List Bool):AG (true::true::true::false::true::true::true::true::ω):=by delta AG;intros;kernel_rfl
theorem ALI:AG (true::true::true::true::[]):=by delta AG;intros;kernel_rfl
theorem ALp:AG (true::true::true::true::false::[]):=by delta AG;intros;kernel_rfl
theorem AJG:AG (true::true::true::true::false::false::[]):=by delta AG;intros;kernel_rfl
theorem AJQ(ω:List Bool):AG (true::true::true::true::false::false::false::ω):=by delta AG;intros;kernel_rfl
theorem AKI(ω:List Bool):AG (true::true::true::true::false::false::true::ω):=by delta AG;intros;kernel_rfl
theorem AIy:AG (true::true::true::true::false::true::[]):=by delta AG;intros;kernel_rfl
theorem ALd(ω:List Bool):AG (true::true::true::true::false::true::false::ω):=by delta AG;intros;kernel_rfl
theorem AGo:AG (true::true::true::true::false::true::true::[]):=by delta AG;intros;kernel_rfl
theorem AGS(ω:List Bool):AG (true::true::true::true::false::true::true::false::ω):=by delta AG;intros;kernel_rfl
theorem AKF(ω:List Bool):AG (true::true::true::true::false::true::true::true::ω):=by delta AG;intros;kernel_rfl
theorem AI3:AG (true::true::true::true::true::[]):=by delta AG;intros;kernel_rfl
theorem AG_(ω:List Bool):AG (true::true::true::true::true::false::ω):=by delta AG;intros;kernel_rfl
theorem AK0:AG (true::true::true::true::true::true::[]):=by delta AG;intros;kernel_rfl
theorem AGJ(ω:List Bool):AG (true::true::true::true::true::true::false::ω):=by delta AG;intros;kernel_rfl
theorem AK6(ω:List Bool):AG (true::true::true::true::true::true::true::ω):=by delta AG;intros;kernel_rfl
theorem b26(vR:ACC→Option Fg)(g66:ACD→Option LD)(ve:ACE→Option Fj)(g68:ABU→Option Ga)(g69:ACY→Option Jg)(n:Nat)(ω:List Bool)(v:i26.V):Ci ⟨T,Ps [(65,⟨yu,o65,yu.un vR⟩),(66,⟨i66,o66,i66.un g66⟩),(67,⟨y9,o67,y9.un ve⟩),(68,⟨uC,o68,uC.un g68⟩),(69,⟨i69,o69,i69.un g69⟩)],B3 [(1,[0,1]),(5,[0,1,2,3,4,5,6,7,8,9,11,13,14,15,16,17,18]),(9,[0,1,2,3,4,5,6,7,8,9,11,12,13,14,16,17,18]),(13,[0,1,2,3,4,5,6,7,8,9,11,12,13,14,15,17,18]),(17,[0,1,2,3,4,5,6,7,8,9,11,12,13,14,15,16,18])]⟩ c26 Tryz.f26 (K_ 0 L26 n) ω v=i26.un (fun(p0:ABi)=>
 if 0+p0.1.length≤Go.M.C7 then(
 if 0+p0.2.2.2.1.length≤Go.M.C7 then(
 (vR (p0.2.2.2.2.1,p0.2.2.2.2.2.1,())).bind fun u2=>
 if 0+p0.2.2.2.2.2.2.2.2.2.1.length≤Go.M.C7 then(
 (CX n) 0 p0.1 p0.2.1 p0.2.2.1 p0.2.2.2.1 p0.2.2.2.2.1 p0.2.2.2.2.2.1 p0.2.2.2.2.2.2.1 p0.2.2.2.2.2.2.2.1 p0.2.2.2.2.2.2.2.2.1 p0.2.2.2.2.2.2.2.2.2.1 p0.2.2.2.2.2.2.2.2.2.2.1 0 0 false [] [] [] [] [] [] [] [] p0.2.1 u2.1.1.2.1 p0.2.2.2.2.2.2.2.2.2.2.1 p0.1 [] p0.2.2.2.1 u2.2.1 [] [] [] p0.2.2.2.2.2.2.2.2.2.1)else none)else none)else none) v:=(AF AVe (AF AWU (AF AWR (AF AWz (AF ATz (AF AU_ AWe (AF AVO AUv AOy)) (AF AN6 ANm (AF APw AQ6 (AF AN2 AOr (AF ARC ARd APi))))) (AF AOF (AF APQ (AF ANl AOc APh) (AF AOB AN8 (AF AR_ AR2 (AF ARb AQv AOl)))) (AF AQp AOx (AF ASQ ARr (AF AP0 APq AO7))))) (AF ARg (AF APY (AF ASF APl (AF ASU ASR ASA)) (AF ARI AP_ (AF APG ANY (AF AQs AQ_ (AF AOD AR0 (AF ARn ASO ARM)))))) (AF AQ9 (AF AQb (AF API AOI APg) (AF AO1 APj (AF AR8 ARt (AF AP9 APt (AF APF ANX AQc))))) (AF ANh AQY (AF ARz AR5 (AF ARB ANe (AF AQK APm AO9))))))) (AF APK (AF APu (AF ARS ASN (AF APX AQu (AF ARk APN (AF AQt AQx AQI)))) (AF ARE AR9 (AF APy AQh (AF APD AOL (AF AQ7 ARR (AF APE AK9 AIY)))))) (AF AFw (AF ALS (AF AI1 AKf (AF AIc AKD (AF AG8 AGT AH3))) (AF AII AKU (AF AJD AKx (AF AJi AHB (AF AFq AF_ AIU))))) (AF AKc (AF AGZ (AF AJa AG3 (AF AHI AFu AGN)) (AF AJB AIW (AF AHu ALi (AF AKk AG7 AHV)))) (AF ALW (AF ALB (AF AJv AKt AGi) (AF AJK AIt (AF AJ5 AHY AKo))) (AF AHR AJy (AF AGY AGW AGd))))))) (AF AGA (AF AHZ (AF AHp (AF AJo (AF AFx (AF AJb AIM AJf) (AF AJH AJU (AF AGy AIX (AF AId ALw AIg)))) (AF AHs ALK (AF ALy AKS (AF AFo ALL AJS)))) (AF AF1 (AF AHg (AF AHm AJt AJg) (AF AG0 AHw (AF AJZ AGw (AF AHt AHh (AF AKC AF7 AKy))))) (AF AJe AIp (AF AJp ALo (AF AKN AGL (AF AHU AJV AJX)))))) (AF AKp (AF AH0 (AF AH1 AHb (AF AHi AJA (AF AHG ALs AK8))) (AF ALQ ALE (AF AKO AKv (AF AJN AK7 (AF AHF AHP ALM))))) (AF AI0 (AF AGp (AF AIu AJ8 (AF AIN AGE AJn)) (AF AI6 AJk (AF ALJ ALc (AF AKM AG9 AHk)))) (AF AH6 (AF AF5 (AF AJF AHN AIQ) (AF AIj AIC (AF AIK AGI AGs))) (AF AJJ AJC (AF AKr AIO AKb)))))) (AF AIe (AF AHa (AF ALr AF9 (AF ALG AGV (AF ALt AF2 AI9))) (AF AGx AIL (AF ALZ AGK (AF AKE AIs (AF ALh AGD AGg))))) (AF AGX (AF AJ7 (AF AHf AKA (AF AJI AGh AHD)) (AF AHE AGu (AF ALe ALq (AF AHe ALm AI7)))) (AF ALI (AF ALp (AF AJG AJQ AKI) (AF AIy ALd (AF AGo AGS AKF))) (AF AI3 AG_ (AF AK0 AGJ AK6))))))) ω vR g66 ve g68 g69 n v
theorem e26(n:Nat)(ω:List Bool)(v:i26.V):Ci C26 c26 Tryz.f26 (K_ 0 L26 n) ω v=i26.un (RP (CX n) (Cp n) (CS n) (CV n)) v:=b26 GF Ek EO ES CN n ω v
def s26:SQ:=mk Tryz.func26 i26 o26 Mc [s65,s66,s67,s68,s69] [(1,[0,1]),(5,[0,1,2,3,4,5,6,7,8,9,11,13,14,15,16,17,18]),(9,[0,1,2,3,4,5,6,7,8,9,11,12,13,14,16,17,18]),(13,[0,1,2,3,4,5,6,7,8,9,11,12,13,14,15,17,18]),(17,[0,1,2,3,4,5,6,7,8,9,11,12,13,14,15,16,18])] L26 (hJ:= .cons (fun _=>rfl) AUz (.cons (fun _=>rfl) ATK (.cons (fun _=>rfl) AOe (.cons (fun _=>rfl) AQG (.nil))))) (he:=e26 AX)
def AUm:SQ:=mk Tryz.func186 FT eE PF [q6] [] [⟨3,⟨[(0,BI),(3,px),(4,BI)],jM⟩,IP⟩]
abbrev yo:A6:=AM5
abbrev AOi:A6:=AMJ
def ATq:QJ:=⟨yo,AOi,(yo.un Mj)⟩
def AbX:Z1:=⟨T,Ps (SP.l [s65,yX,s76]),B3 [(6,[0,1,2])]⟩
def ASI:List (Lp AOi):=[]
theorem AZN(vR:ACC→Option Fg)(g72:ABD→List Int→Option j5)(g76:ABD→ACC→Option Tc)(n:Nat)(ω:List Bool)(v:yo.V):Ci ⟨T,Ps [(65,⟨yu,o65,yu.un vR⟩),(72,⟨i72,o72,i72.un g72⟩),(76,⟨i76,o76,i76.un g76⟩)],B3 [(6,[0,1,2])]⟩ ATq Tryz.f185 (K_ 0 ASI n) ω v=yo.un (fun(p0:ABD) (p1:ACC) (p2:AAD)=>
 (g76 (p0.1,p0.2.1,()) (p1.1,p1.2.1,())).bind fun u1=>
 cond (!u1.1.1)
  (some (((((),0,()),0,false,()),()),([],())))
 ((vR (p1.1,p1.2.1,())).bind fun u2=>
 (g72 (p0.1,p0.2.1,()) p2).bind fun u3=>
 cond (!u3.1.1)
  (some (((((),u2.1.1.2.1,()),0,false,()),()),(u2.2.1,())))
 (cond (((p1.1.length:Int)==30))
  (some (((((),u2.1.1.2.1,()),0,false,()),()),(u2.2.1,())))
 (if 0+p2.length≤Go.M.C7 then(
 if u2.2.1.length+1≤Go.M.C7 then(
 let x5:AAg:=u2.2.1++[(p2,false,0,())]
 some (((((),u2.1.1.2.1,()),(x5.length:Int),true,()),()),(x5,())))else none)else none)))) v:=by rcases ω with _|⟨_|_,_|⟨_|_,_|⟨_|_,_|⟨_|_,_|⟨_|_,_⟩⟩⟩⟩⟩<;>kernel_rfl
theorem AYr(n:Nat)(ω:List Bool)(v:yo.V):Ci AbX ATq Tryz.f185 (K_ 0 ASI n) ω v=yo.un (Mj) v:=AZN GF EX M7 n ω v
def AVq:SQ:=mk Tryz.func185 yo AOi Mj [s65,yX,s76] [(6,[0,1,2])] ASI (hJ:= .nil) (he:=AYr AX)
def AX9:SQ:=mk Tryz.func106 cl ⟨[(0,.M3 [.inr [.ref 0,.v tI,.ref 1,.ref 2,.ref 8,.v tI,.ref 9,.ref 10,.ref 6,.ref 7,.v .bool],.inl (.v tI)])],[C2,XA,C2,Iv,Iv,Iv,Ny,KD,LN,Th,Tf]⟩ Wy [AVq,AUm] [(3,[0,1,2,3,4,5,6,7,8,9,10])] [] (he:=fun ω v=>by rcases ω with _|⟨_|_,_|⟨_|_,_⟩⟩<;>kernel_rfl)
def ASP:SQ:=mk Tryz.func187 z_ Cd L9 [q6] [] []
abbrev xt:A6:=ANV
abbrev AQA:A6:=AMQ
def AUd:QJ:=⟨xt,AQA,(xt.un Gj)⟩
def Aaj:Z1:=⟨T,Ps (SP.l [s67,s77]),B3 []⟩
def AQD:List (Lp AQA):=[]
theorem AbS(ve:ACE→Option Fj)(g77:ABD→ACE→Option NS)(n:Nat)(ω:List Bool)(v:xt.V):Ci ⟨T,Ps [(67,⟨y9,o67,y9.un ve⟩),(77,⟨i77,o77,i77.un g77⟩)],B3 []⟩ AUd Tryz.f188 (K_ 0 AQD n) ω v=xt.un (fun(p0:ABD) (p1:ACE) (p2:AB_)=>
 (g77 (p0.1,p0.2.1,()) (p1.1,p1.2.1,())).bind fun u1=>
 cond (!u1.1.1)
  (some ((((0,(),()),0,false,()),()),([],())))
 ((ve (p1.1,p1.2.1,())).bind fun u2=>
 if u2.2.1.length+1≤Go.M.C7 then(
 let x3:AB3:=u2.2.1++[(p2,[],false,())]
 (g77 (p0.1,p0.2.1,()) (u2.1.1.1,x3,())).bind fun u4=>
 cond (!u4.1.1)
  ((ve (p1.1,p1.2.1,())).bind fun u5=>
  some ((((u5.1.1.1,(),()),0,false,()),()),(u5.2.1,())))
 (some ((((u2.1.1.1,(),()),(x3.length:Int),true,()),()),(x3,()))))else none)) v:=by rcases ω with _|⟨_|_,_|⟨_|_,_⟩⟩<;>kernel_rfl
theorem AaI(n:Nat)(ω:List Bool)(v:xt.V):Ci Aaj AUd Tryz.f188 (K_ 0 AQD n) ω v=xt.un (Gj) v:=AbS EO Hk n ω v
def AWA:SQ:=mk Tryz.func188 xt AQA Gj [s67,s77] [] AQD (hJ:= .nil) (he:=AaI AX)
abbrev i138:A6:=mQ
abbrev vZ:A6:=FT
def qL:SQ:=mk Tryz.func138 i138 vZ CY [] [] []
def AZV:SQ:=mk Tryz.func107 cl ⟨[(0,.M3 [.inr [.ref 0,.v tI,.ref 1,.ref 2,.ref 3,.v tI,.ref 4,.ref 5,.ref 6,.ref 8,.v .bool],.inl (.v tI)])],[C2,XA,C2,LN,Th,Tf,Ny,Iv,KD]⟩ ZR [qL,ASP,AWA] [(3,[0,1,2,3,4,5,6,7,8,9,10]),(7,[0,1,2,3,4,5,6,7,8,9,10]),(11,[0,1,2,3,4,5,6,7,8,9,10,11,12,13,14,15,16,17,18]),(18,[0,1,2,3,4,5,6,7,8,9,10,11,12,13,14,15,16,17,18,19])] [⟨9,⟨[(2,iW),(4,dR),(9,mu),(10,BI)],[C2,XA,C2,LN,Th,Tf,Ny,KD,rf,rZ,D3,V5,D3,Oa,V4,V6,V0,VW,AU3]⟩,MJ⟩,⟨16,⟨[(2,iW),(4,dR),(9,mu),(11,.c (.ref 19)),(12,xP1),(13,BI)],[C2,XA,C2,LN,Th,Tf,Ny,KD,rf,rZ,D3,V5,D3,Oa,V4,V6,V0,VW,AU3,VW]⟩,KM⟩] (he:=fun ω v=>by rcases ω with _|⟨_|_,_|⟨_|_,_|⟨_|_,_⟩⟩⟩<;>kernel_rfl)
def xr:SQ:=mk Tryz.func189 z_ FT Hm [s74,q6] [] []
def AY3:SQ:=mk Tryz.func255 AFE Cd W6 [s82] [(2,[0,1])] []
def ARH:SQ:=mk Tryz.func190 AFE sC Ng [s66,s73,AGP,AY3] [] []
def AZD:SQ:=mk Tryz.func108 cl sf U2 [s74,q6,qL,vh,ASP,xr,ARH] [(9,[0,1,2,3,4,5,6,7,8,9,10,11]),(11,[0,1,2,3,4,5,6,7,8,9,10,11,12])] [] (he:=fun ω v=>by rcases ω with _|⟨_|_,_|⟨_|_,_⟩⟩<;>kernel_rfl)
def AWo:SQ:=mk Tryz.func282 AMn ANQ Ry [] [] []
def ARG:SQ:=mk Tryz.func259 ⟨[(0,Yn),(1,.row Y1)],[]⟩ vp RT [AWo] [(6,[0,1]),(7,[0]),(9,[0,1])] [⟨4,⟨[(0,Yn),(3,Jp),(5,xP8),(6,xP1),(7,BI)],[ABp,J1]⟩,Jc⟩]
def AWc:SQ:=mk Tryz.func208 jl sC NH [s66,s73,q6,ARG] [(3,[0,1]),(8,[0,1,2,3,5,6])] [⟨5,ANS,Jx⟩] (he:=fun ω v=>by rcases ω with _|⟨_|_,_|⟨_|_,_⟩⟩<;>kernel_rfl)
def AQk:SQ:=mk Tryz.func191 mR sC Jr [AWc] [] []
abbrev gl:A6:=ADc
abbrev v8:A6:=wa
def AIJ:SQ:=mk Tryz.func256 gl v8 HZ [] [] [⟨2,⟨[(0,Yn),(1,BI),(4,Jp),(6,BI)],[ABp]⟩,QU⟩]
abbrev i222:A6:=AMs
abbrev vK:A6:=ANJ
def ASW:SQ:=mk Tryz.func222 i222 vK Dr [s67,yX,s77,q6,yJ] [(6,[0,1,2,4]),(7,[0,1,2,4])] []
def Abl:SQ:=mk Tryz.func262 mQ qI S3 [q6] [] []
abbrev iC:A6:=AM_
abbrev vH:A6:=wa
def AQT:SQ:=mk Tryz.func202 iC vH Em [AIJ,Abl] [] []
abbrev WB:A6:=AMY
abbrev kL:A6:=xE
def AJh:SQ:=mk Tryz.func224 WB kL EZ [s68,s78,q6,yJ] [(6,[0,1,2,3,4,6])] []
abbrev xT:A6:=⟨[(0,APH),(1,BI)],[C2,UE,C2,LN,Th,Tf,Ny,KD]⟩
abbrev ASJ:A6:=⟨AOW,AL9⟩
def lT:QJ:=⟨xT,ASJ,(xT.un XE)⟩
def AAZ:Z1:=⟨T,Ps (SP.l [s74,s82,qL,vh,AQT,ASW,AJh,AJl,AIJ]),B3 [(10,[0,1,2,3,4,5,6,7,8,9,10,11]),(18,[0,1,2,3,4,5,6,7,8,9,10,11,12,13,14,15,16,17,18,19])]⟩
def ik:List (Lp ASJ):=[⟨3,⟨[(1,BI),(2,iW),(4,dR),(5,mu),(6,BI)],[C2,UE,C2,LN,en,Tf,Ny,KD,rf,rZ,D3,V5,D3,Oa,V4,V6,V0,VW,yz]⟩,Ba⟩,⟨8,⟨[(1,BI),(2,iW),(4,dR),(5,mu),(6,BI),(7,gq),(8,BI),(46,.c (.ptr 18 2)),(47,BI),(48,gq),(49,BI),(50,xP1)],zm⟩,A7⟩,⟨15,⟨[(1,BI),(2,iW),(4,dR),(5,mu),(6,BI),(7,gq),(11,BI),(46,.c (.ptr 18 2)),(47,BI),(48,gq),(49,BI),(50,xP1)],zm⟩,A_⟩,⟨21,⟨[(1,BI),(2,iW),(4,dR),(5,mu),(13,BI)],[C2,UE,C2,LN,en,qC,Ny,KD,rf,rZ,D3,V5,D3,Oa,V4,V6,V0,VW,yz]⟩,Bc⟩,⟨25,⟨[(1,BI),(2,iW),(4,dR),(5,mu),(13,BI),(14,gq),(15,BI)],[C2,UE,C2,LN,en,qC,Ny,KD,rf,rZ,D3,V5,D3,Oa,V4,V6,V0,VW,yz,.mem [.v tI,.v tI,.sl true tI,.sl true Y1,.v .bool,.sl true (.sl tI)]]⟩,BW⟩]
abbrev kW:A6:=⟨[(1,BI),(2,iW),(4,dR),(5,mu),(6,BI)],[C2,UE,C2,LN,en,Tf,Ny,KD,rf,rZ,D3,V5,D3,Oa,V4,V6,V0,VW,yz]⟩
abbrev bP:A6:=⟨[(1,BI),(2,iW),(4,dR),(5,mu),(6,BI),(7,gq),(8,BI),(46,.c (.ptr 18 2)),(47,BI),(48,gq),(49,BI),(50,xP1)],zm⟩
abbrev fF:A6:=⟨[(1,BI),(2,iW),(4,dR),(5,mu),(6,BI),(7,gq),(11,BI),(46,.c (.ptr 18 2)),(47,BI),(48,gq),(49,BI),(50,xP1)],zm⟩
abbrev fA:A6:=⟨[(1,BI),(2,iW),(4,dR),(5,mu),(13,BI)],[C2,UE,C2,LN,en,qC,Ny,KD,rf,rZ,D3,V5,D3,Oa,V4,V6,V0,VW,yz]⟩
abbrev fI:A6:=⟨[(1,BI),(2,iW),(4,dR),(5,mu),(13,BI),(14,gq),(15,BI)],[C2,UE,C2,LN,en,qC,Ny,KD,rf,rZ,D3,V5,D3,Oa,V4,V6,V0,VW,yz,.mem [.v tI,.v tI,.sl true tI,.sl true Y1,.v .bool,.sl true (.sl tI)]]⟩
theorem AQf(xP:List Int→Int→Option Gn)(x_:Int→Option ID)(fU:Int→Int→Option H8)(fj:ACC→Int→Option G8)(gb:ABU→Int→Option GG)(fg:ABD→ACE→Int→Int→Option GH)(S2:ABD→ABU→Int→Int→Option Dn)(fo:Int→Option Kx)(et:AAs→Int→Option Gm)(n:Nat)(v:kW.V)(ω:List Bool):Hi ⟨T,Ps [(74,⟨xm,o74,xm.un xP⟩),(82,⟨zE,o82,zE.un x_⟩),(138,⟨i138,vZ,i138.un fU⟩),(182,⟨i182,w7,i182.un fj⟩),(202,⟨iC,vH,iC.un gb⟩),(222,⟨i222,vK,i222.un fg⟩),(224,⟨WB,kL,WB.un S2⟩),(225,⟨iL,vQ,iL.un fo⟩),(256,⟨gl,v8,gl.un et⟩)],B3 [(10,[0,1,2,3,4,5,6,7,8,9,10,11]),(18,[0,1,2,3,4,5,6,7,8,9,10,11,12,13,14,15,16,17,18,19])]⟩ lT Tryz.f192 (K_ 8 ik n) 3 ω (kW.st 207 v)=kW.un (fun(t1:Int) (t6:Int) (b0:AAD) (b1:AAh) (b2:AAD) (b3:AAg) (b4:AAq) (b5:AA2) (b6:AA3) (b7:AAo) (Dc:Int) (Dv:Int) (CJ:Bool) (Dw:Int) (Fc:Int) (Cv:Bool) (NG:AAD) (Ef:AAh) (DI:AAD) (FU:AAg) (FZ:AAq) (De:AA2) (D4:AA3) (Ea:AAo) (Cc:AAs) (C3:AAs) (Cf:Int)=>
 cond ((decide (t6<(b4.length:Int))))
  (if(0:Int)≤t6∧t6<(b4.length:Int)then(
  (fj (b3,Dv,()) ((b4.getD (t6.toNat) (0,[],())).1)).bind fun u3=>
  (xP u3.2.1 t1).bind fun u4=>
  cond (!u4.1.1)
   ((Ba n) t1 (AS (t6+1)) b0 b1 b2 b3 b4 b5 b6 b7 Dc Dv CJ Dw Fc Cv NG Ef DI FU FZ De D4 Ea Cc C3 Cf)
  (let x5:Int:=(b4.getD (t6.toNat) (0,[],())).1
  cond (decide (Cf≥x5))
   ((Ba n) t1 (AS (t6+1)) b0 b1 b2 b3 b4 b5 b6 b7 Dc Dv CJ Dw Fc Cv NG Ef DI FU FZ De D4 Ea Cc C3 Cf)
  ((A7 n) t1 t6 1 Cf x5 (decide (Cf≥x5)) b0 b1 b2 b3 b4 b5 b6 b7 Dc Dv CJ Dw Fc Cv NG Ef DI FU FZ De D4 Ea Cc C3 Cf ((b4.getD (t6.toNat) (0,[],())).1) ((b4.getD (t6.toNat) (0,[],())).2.1))))else none)
 ((Bc n) t1 0 b0 b1 b2 b3 b4 b5 b6 b7 Dc Dv CJ Dw Fc Cv NG Ef DI FU FZ De D4 Ea Cc C3 Cf)) v:=by kernel_rfl
theorem AOd(n:Nat)(v:kW.V)(ω:List Bool):Hi AAZ lT Tryz.f192 (K_ 8 ik n) 3 ω (kW.st 207 v)=kW.un (M0 (Ba n) (A7 n) (A_ n) (Bc n) (BW n)) v:=AQf Cw Cm CY CZ Em Dr EZ HS HZ n v ω
def Bb(ω:List Bool):Prop:= ∀(xP:List Int→Int→Option Gn) (x_:Int→Option ID) (fU:Int→Int→Option H8) (fj:ACC→Int→Option G8) (gb:ABU→Int→Option GG) (fg:ABD→ACE→Int→Int→Option GH) (S2:ABD→ABU→Int→Int→Option Dn) (fo:Int→Option Kx) (et:AAs→Int→Option Gm) (n:Nat) (v:bP.V),Hi ⟨T,Ps [(74,⟨xm,o74,xm.un xP⟩),(82,⟨zE,o82,zE.un x_⟩),(138,⟨i138,vZ,i138.un fU⟩),(182,⟨i182,w7,i182.un fj⟩),(202,⟨iC,vH,iC.un gb⟩),(222,⟨i222,vK,i222.un fg⟩),(224,⟨WB,kL,WB.un S2⟩),(225,⟨iL,vQ,iL.un fo⟩),(256,⟨gl,v8,gl.un et⟩)],B3 [(10,[0,1,2,3,4,5,6,7,8,9,10,11]),(18,[0,1,2,3,4,5,6,7,8,9,10,11,12,13,14,15,16,17,18,19])]⟩ lT Tryz.f192 (K_ 8 ik n) 8 ω (bP.st 207 v)=bP.un (fun(t1:Int) (t6:Int) (t8:Int) (t47:Int) (t49:Int) (t50:Bool) (b0:AAD) (b1:AAh) (b2:AAD) (b3:AAg) (b4:AAq) (b5:AA2) (b6:AA3) (b7:AAo) (Dc:Int) (Dv:Int) (CJ:Bool) (Dw:Int) (Fc:Int) (Cv:Bool) (NG:AAD) (Ef:AAh) (DI:AAD) (FU:AAg) (FZ:AAq) (De:AA2) (D4:AA3) (Ea:AAo) (Cc:AAs) (C3:AAs) (Cf:Int) (DW:Int) (Bw:AB3)=>
 cond ((decide (t8≤(Bw.length:Int))))
  ((fU DW t8).bind fun u7=>
  (et Cc u7.1.1).bind fun u8=>
  cond (!u8.1.1.2.1)
   ((A7 n) t1 t6 (AS (t8+1)) t47 t49 t50 b0 b1 b2 b3 b4 b5 b6 b7 Dc Dv CJ Dw Fc Cv NG Ef DI FU FZ De D4 Ea Cc C3 Cf DW Bw)
  (cond (u8.1.1.1.2.1 !=0)
   ((A7 n) t1 t6 (AS (t8+1)) t47 t49 t50 b0 b1 b2 b3 b4 b5 b6 b7 Dc Dv CJ Dw Fc Cv NG Ef DI FU FZ De D4 Ea Cc C3 Cf DW Bw)
  (if(0:Int)≤AS (t8-1)∧AS (t8-1)<(Bw.length:Int)then(
  cond (((Bw.getD ((AS (t8-1)).toNat) ([],[],false,())).2.2.1))
   ((A7 n) t1 t6 (AS (t8+1)) t47 t49 t50 b0 b1 b2 b3 b4 b5 b6 b7 Dc Dv CJ Dw Fc Cv NG Ef DI FU FZ De D4 Ea Cc C3 Cf DW Bw)
  ((fg (b0,Dc,()) (DW,Bw,()) t8 t1).bind fun Dd=>
  (A7 n) t1 t6 (AS (t8+1)) t47 t49 t50 b0 b1 b2 b3 b4 b5 b6 b7 Dc Dv CJ Dw Fc Cv NG Ef DI FU FZ De D4 Ea Cc C3 Cf Dd.1.1.1.1 Dd.2.1))else none)))
 (if(0:Int)≤t6∧t6<(b4.length:Int)then(
 (A_ n) t1 t6 0 t47 t49 t50 b0 b1 b2 b3 (b4.set (t6.toNat) (DW,Bw,())) b5 b6 b7 Dc Dv CJ Dw Fc Cv NG Ef DI FU FZ De D4 Ea Cc C3 Cf DW Bw)else none)) v
theorem AEl:Bb []:=by delta Bb;intros;kernel_rfl
theorem ADE:Bb (false::[]):=by delta Bb;intros;kernel_rfl
theorem AFY:Bb (false::false::[]):=by delta Bb;intros;kernel_rfl
theorem ADz:Bb (false::false::false::[]):=by delta Bb;intros;kernel_rfl
theorem AEZ(ω:List Bool):Bb (false::false::false::false::ω):=by delta Bb;intros;kernel_rfl
theorem AFJ(ω:List Bool):Bb (false::false::false::true::ω):=by delta Bb;intros;kernel_rfl
theorem AC1(ω:List Bool):Bb (false::false::true::ω):=by delta Bb;intros;kernel_rfl
theorem AC4:Bb (false::true::[]):=by delta Bb;intros;kernel_rfl
theorem AEO:Bb (false::true::false::[]):=by delta Bb;intros;kernel_rfl
theorem ABC:Bb (false::true::false::false::[]):=by delta Bb;intros;kernel_rfl
theorem ABL(ω:List Bool):Bb (false::true::false::false::false::ω):=by delta Bb;intros;kernel_rfl
theorem ABF(ω:List Bool):Bb (false::true::false::false::true::ω):=by delta Bb;intros;kernel_rfl
theorem ABJ:Bb (false::true::false::true::[]):=by delta Bb;intros;kernel_rfl
theorem ABR(ω:List Bool):Bb (false::true::false::true::false::ω):=by delta Bb;intros;kernel_rfl
theorem AAx:Bb (false::true::false::true::true::[]):=by delta Bb;intros;kernel_rfl
theorem AA_(ω:List Bool):Bb (false::true::false::true::true::false::ω):=by delta Bb;intros;kernel_rfl
theorem AAa(ω:List Bool):Bb (false::true::false::true::true::true::ω):=by delta Bb;intros;kernel_rfl
theorem AB8:Bb (false::true::true::[]):=by delta Bb;intros;kernel_rfl
theorem AA1(ω:List Bool):Bb (false::true::true::false::ω):=by delta Bb;intros;kernel_rfl
theorem AAu:Bb (false::true::true::true::[]):=by delta Bb;intros;kernel_rfl
theorem ABW(ω:List Bool):Bb (false::true::true::true::false::ω):=by delta Bb;intros;kernel_rfl
theorem ABK(ω:List Bool):Bb (false::true::true::true::true::ω):=by delta Bb;intros;kernel_rfl
theorem ACK:Bb (true::[]):=by delta Bb;intros;kernel_rfl
theorem ABB(ω:List Bool):Bb (true::false::ω):=by delta Bb;intros;kernel_rfl
theorem ACA:Bb (true::true::[]):=by delta Bb;intros;kernel_rfl
theorem ABx(ω:List Bool):Bb (true::true::false::ω):=by delta Bb;intros;kernel_rfl
theorem AAw:Bb (true::true::true::[]):=by delta Bb;intros;kernel_rfl
theorem AAb(ω:List Bool):Bb (true::true::true::false::ω):=by delta Bb;intros;kernel_rfl
theorem AAt(ω:List Bool):Bb (true::true::true::true::ω):=by delta Bb;intros;kernel_rfl
theorem ANc(xP:List Int→Int→Option Gn)(x_:Int→Option ID)(fU:Int→Int→Option H8)(fj:ACC→Int→Option G8)(gb:ABU→Int→Option GG)(fg:ABD→ACE→Int→Int→Option GH)(S2:ABD→ABU→Int→Int→Option Dn)(fo:Int→Option Kx)(et:AAs→Int→Option Gm)(n:Nat)(v:bP.V)(ω:List Bool):Hi ⟨T,Ps [(74,⟨xm,o74,xm.un xP⟩),(82,⟨zE,o82,zE.un x_⟩),(138,⟨i138,vZ,i138.un fU⟩),(182,⟨i182,w7,i182.un fj⟩),(202,⟨iC,vH,iC.un gb⟩),(222,⟨i222,vK,i222.un fg⟩),(224,⟨WB,kL,WB.un S2⟩),(225,⟨iL,vQ,iL.un fo⟩),(256,⟨gl,v8,gl.un et⟩)],B3 [(10,[0,1,2,3,4,5,6,7,8,9,10,11]),(18,[0,1,2,3,4,5,6,7,8,9,10,11,12,13,14,15,16,17,18,19])]⟩ lT Tryz.f192 (K_ 8 ik n) 8 ω (bP.st 207 v)=bP.un (fun(t1:Int) (t6:Int) (t8:Int) (t47:Int) (t49:Int) (t50:Bool) (b0:AAD) (b1:AAh) (b2:AAD) (b3:AAg) (b4:AAq) (b5:AA2) (b6:AA3) (b7:AAo) (Dc:Int) (Dv:Int) (CJ:Bool) (Dw:Int) (Fc:Int) (Cv:Bool) (NG:AAD) (Ef:AAh) (DI:AAD) (FU:AAg) (FZ:AAq) (De:AA2) (D4:AA3) (Ea:AAo) (Cc:AAs) (C3:AAs) (Cf:Int) (DW:Int) (Bw:AB3)=>
 cond ((decide (t8≤(Bw.length:Int))))
  ((fU DW t8).bind fun u7=>
  (et Cc u7.1.1).bind fun u8=>
  cond (!u8.1.1.2.1)
   ((A7 n) t1 t6 (AS (t8+1)) t47 t49 t50 b0 b1 b2 b3 b4 b5 b6 b7 Dc Dv CJ Dw Fc Cv NG Ef DI FU FZ De D4 Ea Cc C3 Cf DW Bw)
  (cond (u8.1.1.1.2.1 !=0)
   ((A7 n) t1 t6 (AS (t8+1)) t47 t49 t50 b0 b1 b2 b3 b4 b5 b6 b7 Dc Dv CJ Dw Fc Cv NG Ef DI FU FZ De D4 Ea Cc C3 Cf DW Bw)
  (if(0:Int)≤AS (t8-1)∧AS (t8-1)<(Bw.length:Int)then(
  cond (((Bw.getD ((AS (t8-1)).toNat) ([],[],false,())).2.2.1))
   ((A7 n) t1 t6 (AS (t8+1)) t47 t49 t50 b0 b1 b2 b3 b4 b5 b6 b7 Dc Dv CJ Dw Fc Cv NG Ef DI FU FZ De D4 Ea Cc C3 Cf DW Bw)
  ((fg (b0,Dc,()) (DW,Bw,()) t8 t1).bind fun Dd=>
  (A7 n) t1 t6 (AS (t8+1)) t47 t49 t50 b0 b1 b2 b3 b4 b5 b6 b7 Dc Dv CJ Dw Fc Cv NG Ef DI FU FZ De D4 Ea Cc C3 Cf Dd.1.1.1.1 Dd.2.1))else none)))
 (if(0:Int)≤t6∧t6<(b4.length:Int)then(
 (A_ n) t1 t6 0 t47 t49 t50 b0 b1 b2 b3 (b4.set (t6.toNat) (DW,Bw,())) b5 b6 b7 Dc Dv CJ Dw Fc Cv NG Ef DI FU FZ De D4 Ea Cc C3 Cf DW Bw)else none)) v:=(AF AEl (AF ADE (AF AFY (AF ADz AEZ AFJ) AC1) (AF AC4 (AF AEO (AF ABC ABL ABF) (AF ABJ ABR (AF AAx AA_ AAa))) (AF AB8 AA1 (AF AAu ABW ABK)))) (AF ACK ABB (AF ACA ABx (AF AAw AAb AAt)))) ω xP x_ fU fj gb fg S2 fo et n v
theorem ARh(n:Nat)(v:bP.V)(ω:List Bool):Hi AAZ lT Tryz.f192 (K_ 8 ik n) 8 ω (bP.st 207 v)=bP.un (Mq (Ba n) (A7 n) (A_ n) (Bc n) (BW n)) v:=ANc Cw Cm CY CZ Em Dr EZ HS HZ n v ω
theorem AJL(xP:List Int→Int→Option Gn)(x_:Int→Option ID)(fU:Int→Int→Option H8)(fj:ACC→Int→Option G8)(gb:ABU→Int→Option GG)(fg:ABD→ACE→Int→Int→Option GH)(S2:ABD→ABU→Int→Int→Option Dn)(fo:Int→Option Kx)(et:AAs→Int→Option Gm)(n:Nat)(v:fF.V)(ω:List Bool):Hi ⟨T,Ps [(74,⟨xm,o74,xm.un xP⟩),(82,⟨zE,o82,zE.un x_⟩),(138,⟨i138,vZ,i138.un fU⟩),(182,⟨i182,w7,i182.un fj⟩),(202,⟨iC,vH,iC.un gb⟩),(222,⟨i222,vK,i222.un fg⟩),(224,⟨WB,kL,WB.un S2⟩),(225,⟨iL,vQ,iL.un fo⟩),(256,⟨gl,v8,gl.un et⟩)],B3 [(10,[0,1,2,3,4,5,6,7,8,9,10,11]),(18,[0,1,2,3,4,5,6,7,8,9,10,11,12,13,14,15,16,17,18,19])]⟩ lT Tryz.f192 (K_ 8 ik n) 15 ω (fF.st 207 v)=fF.un (fun(t1:Int) (t6:Int) (t11:Int) (t47:Int) (t49:Int) (t50:Bool) (b0:AAD) (b1:AAh) (b2:AAD) (b3:AAg) (b4:AAq) (b5:AA2) (b6:AA3) (b7:AAo) (Dc:Int) (Dv:Int) (CJ:Bool) (Dw:Int) (Fc:Int) (Cv:Bool) (NG:AAD) (Ef:AAh) (DI:AAD) (FU:AAg) (FZ:AAq) (De:AA2) (D4:AA3) (Ea:AAo) (Cc:AAs) (C3:AAs) (Cf:Int) (DW:Int) (Bw:AB3)=>
 cond ((decide (t11<(b7.length:Int))))
  (if(0:Int)≤t11∧t11<(b7.length:Int)then(
  let x65:Int:=(b7.getD (t11.toNat) (0,[],false,())).1
  (x_ x65).bind fun u66=>
  cond (u66.1.1==DW)
   ((fo x65).bind fun u67=>
   cond ((decide (u67.1.1≤(Bw.length:Int))))
    ((fo x65).bind fun u69=>
    if(0:Int)≤AS (u69.1.1-1)∧AS (u69.1.1-1)<(Bw.length:Int)then(
    cond (((Bw.getD ((AS (u69.1.1-1)).toNat) ([],[],false,())).2.2.1))
     (if(0:Int)≤t11∧t11<(b7.length:Int)then(
     (A_ n) t1 t6 (AS (t11+1)) t47 t49 t50 b0 b1 b2 b3 b4 b5 b6 (b7.set (t11.toNat) ((b7.getD (t11.toNat) (0,[],false,())).1,(b7.getD (t11.toNat) (0,[],false,())).2.1,true,())) Dc Dv CJ Dw Fc Cv NG Ef DI FU FZ De D4 Ea Cc C3 Cf DW Bw)else none)
    ((A_ n) t1 t6 (AS (t11+1)) t47 t49 t50 b0 b1 b2 b3 b4 b5 b6 b7 Dc Dv CJ Dw Fc Cv NG Ef DI FU FZ De D4 Ea Cc C3 Cf DW Bw))else none)
   ((A_ n) t1 t6 (AS (t11+1)) t47 t49 t50 b0 b1 b2 b3 b4 b5 b6 b7 Dc Dv CJ Dw Fc Cv NG Ef DI FU FZ De D4 Ea Cc C3 Cf DW Bw))
  ((A_ n) t1 t6 (AS (t11+1)) t47 t49 t50 b0 b1 b2 b3 b4 b5 b6 b7 Dc Dv CJ Dw Fc Cv NG Ef DI FU FZ De D4 Ea Cc C3 Cf DW Bw))else none)
 ((Ba n) t1 (AS (t6+1)) b0 b1 b2 b3 b4 b5 b6 b7 Dc Dv CJ Dw Fc Cv NG Ef DI FU FZ De D4 Ea Cc C3 Cf)) v:=by kernel_rfl
theorem AG5(n:Nat)(v:fF.V)(ω:List Bool):Hi AAZ lT Tryz.f192 (K_ 8 ik n) 15 ω (fF.st 207 v)=fF.un (Ld (Ba n) (A7 n) (A_ n) (Bc n) (BW n)) v:=AJL Cw Cm CY CZ Em Dr EZ HS HZ n v ω
theorem AIl(xP:List Int→Int→Option Gn)(x_:Int→Option ID)(fU:Int→Int→Option H8)(fj:ACC→Int→Option G8)(gb:ABU→Int→Option GG)(fg:ABD→ACE→Int→Int→Option GH)(S2:ABD→ABU→Int→Int→Option Dn)(fo:Int→Option Kx)(et:AAs→Int→Option Gm)(n:Nat)(v:fA.V)(ω:List Bool):Hi ⟨T,Ps [(74,⟨xm,o74,xm.un xP⟩),(82,⟨zE,o82,zE.un x_⟩),(138,⟨i138,vZ,i138.un fU⟩),(182,⟨i182,w7,i182.un fj⟩),(202,⟨iC,vH,iC.un gb⟩),(222,⟨i222,vK,i222.un fg⟩),(224,⟨WB,kL,WB.un S2⟩),(225,⟨iL,vQ,iL.un fo⟩),(256,⟨gl,v8,gl.un et⟩)],B3 [(10,[0,1,2,3,4,5,6,7,8,9,10,11]),(18,[0,1,2,3,4,5,6,7,8,9,10,11,12,13,14,15,16,17,18,19])]⟩ lT Tryz.f192 (K_ 8 ik n) 21 ω (fA.st 207 v)=fA.un (fun(t1:Int) (t13:Int) (b0:AAD) (b1:AAh) (b2:AAD) (b3:AAg) (b4:AAq) (b5:AA2) (b6:AA3) (b7:AAo) (Dc:Int) (Dv:Int) (CJ:Bool) (Dw:Int) (Fc:Int) (Cv:Bool) (NG:AAD) (Ef:AAh) (DI:AAD) (FU:AAg) (FZ:AAq) (De:AA2) (D4:AA3) (Ea:AAo) (Cc:AAs) (C3:AAs) (Cf:Int)=>
 cond ((decide (t13<(b5.length:Int))))
  (if(0:Int)≤t13∧t13<(b5.length:Int)then(
  (BW n) t1 t13 1 b0 b1 b2 b3 b4 b5 b6 b7 Dc Dv CJ Dw Fc Cv NG Ef DI FU FZ De D4 Ea Cc C3 Cf ((b5.getD (t13.toNat) (0,0,[],[],false,[],())).1) ((b5.getD (t13.toNat) (0,0,[],[],false,[],())).2.1) ((b5.getD (t13.toNat) (0,0,[],[],false,[],())).2.2.1) ((b5.getD (t13.toNat) (0,0,[],[],false,[],())).2.2.2.1) ((b5.getD (t13.toNat) (0,0,[],[],false,[],())).2.2.2.2.1) ((b5.getD (t13.toNat) (0,0,[],[],false,[],())).2.2.2.2.2.1))else none)
 (some ((((),Dc,(),(),(),Dv,(),(),(),(),CJ,()),()),(b0,b1,b2,b3,b4,b5,b6,b7,())))) v:=by kernel_rfl
theorem ALT(n:Nat)(v:fA.V)(ω:List Bool):Hi AAZ lT Tryz.f192 (K_ 8 ik n) 21 ω (fA.st 207 v)=fA.un (LX (Ba n) (A7 n) (A_ n) (Bc n) (BW n)) v:=AIl Cw Cm CY CZ Em Dr EZ HS HZ n v ω
theorem AKi(xP:List Int→Int→Option Gn)(x_:Int→Option ID)(fU:Int→Int→Option H8)(fj:ACC→Int→Option G8)(gb:ABU→Int→Option GG)(fg:ABD→ACE→Int→Int→Option GH)(S2:ABD→ABU→Int→Int→Option Dn)(fo:Int→Option Kx)(et:AAs→Int→Option Gm)(n:Nat)(v:fI.V)(ω:List Bool):Hi ⟨T,Ps [(74,⟨xm,o74,xm.un xP⟩),(82,⟨zE,o82,zE.un x_⟩),(138,⟨i138,vZ,i138.un fU⟩),(182,⟨i182,w7,i182.un fj⟩),(202,⟨iC,vH,iC.un gb⟩),(222,⟨i222,vK,i222.un fg⟩),(224,⟨WB,kL,WB.un S2⟩),(225,⟨iL,vQ,iL.un fo⟩),(256,⟨gl,v8,gl.un et⟩)],B3 [(10,[0,1,2,3,4,5,6,7,8,9,10,11]),(18,[0,1,2,3,4,5,6,7,8,9,10,11,12,13,14,15,16,17,18,19])]⟩ lT Tryz.f192 (K_ 8 ik n) 25 ω (fI.st 207 v)=fI.un (fun(t1:Int) (t13:Int) (t15:Int) (b0:AAD) (b1:AAh) (b2:AAD) (b3:AAg) (b4:AAq) (b5:AA2) (b6:AA3) (b7:AAo) (Dc:Int) (Dv:Int) (CJ:Bool) (Dw:Int) (Fc:Int) (Cv:Bool) (NG:AAD) (Ef:AAh) (DI:AAD) (FU:AAg) (FZ:AAq) (De:AA2) (D4:AA3) (Ea:AAo) (Cc:AAs) (C3:AAs) (Cf:Int) (DW:Int) (Bw:Int) (Vo:AAD) (Ve:AAs) (VK:Bool) (QR:List AAD)=>
 if(0:Int)≤t13∧t13<(b5.length:Int)then(
 cond (decide (t15≤(((b5.getD (t13.toNat) (0,0,[],[],false,[],())).2.2.2.2.2.1).length:Int)))
  ((fj (b3,Dv,()) Bw).bind fun u74=>
  (xP u74.2.1 t1).bind fun u75=>
  cond (u75.1.1)
   ((gb (DW,Bw,Vo,Ve,VK,QR,()) t15).bind fun u76=>
   (et Cc u76.1.1.1.1).bind fun u77=>
   cond (u77.1.1.2.1)
    (cond (((u77.1.1.1.1==u76.1.1.1.1)&&((u77.1.1.1.2.1==u76.1.1.1.2.1)&&((u77.1.1.1.2.2.1==u76.1.1.1.2.2.1)&&((u77.1.1.1.2.2.2.1==u76.1.1.1.2.2.2.1)&&true)))))
     ((S2 (b0,Dc,()) (DW,Bw,Vo,Ve,VK,QR,()) t15 t1).bind fun u79=>
     (BW n) t1 t13 (AS (t15+1)) b0 b1 b2 b3 b4 b5 b6 b7 Dc Dv CJ Dw Fc Cv NG Ef DI FU FZ De D4 Ea Cc C3 Cf u79.1.1.1.1 u79.1.1.1.2.1 u79.2.1 u79.2.2.1 u79.1.1.1.2.2.2.2.1 u79.2.2.2.1)
    ((BW n) t1 t13 (AS (t15+1)) b0 b1 b2 b3 b4 b5 b6 b7 Dc Dv CJ Dw Fc Cv NG Ef DI FU FZ De D4 Ea Cc C3 Cf DW Bw Vo Ve VK QR))
   ((BW n) t1 t13 (AS (t15+1)) b0 b1 b2 b3 b4 b5 b6 b7 Dc Dv CJ Dw Fc Cv NG Ef DI FU FZ De D4 Ea Cc C3 Cf DW Bw Vo Ve VK QR))
  (if(0:Int)≤t13∧t13<(b5.length:Int)then(
  (Bc n) t1 (AS (t13+1)) b0 b1 b2 b3 b4 (b5.set (t13.toNat) (DW,Bw,Vo,Ve,VK,QR,())) b6 b7 Dc Dv CJ Dw Fc Cv NG Ef DI FU FZ De D4 Ea Cc C3 Cf)else none))
 (if(0:Int)≤t13∧t13<(b5.length:Int)then(
 (Bc n) t1 (AS (t13+1)) b0 b1 b2 b3 b4 (b5.set (t13.toNat) (DW,Bw,Vo,Ve,VK,QR,())) b6 b7 Dc Dv CJ Dw Fc Cv NG Ef DI FU FZ De D4 Ea Cc C3 Cf)else none))else none) v:=by kernel_rfl
theorem AKK(n:Nat)(v:fI.V)(ω:List Bool):Hi AAZ lT Tryz.f192 (K_ 8 ik n) 25 ω (fI.st 207 v)=fI.un (Ir (Ba n) (A7 n) (A_ n) (Bc n) (BW n)) v:=AKi Cw Cm CY CZ Em Dr EZ HS HZ n v ω
theorem AZp(xP:List Int→Int→Option Gn)(x_:Int→Option ID)(fU:Int→Int→Option H8)(fj:ACC→Int→Option G8)(gb:ABU→Int→Option GG)(fg:ABD→ACE→Int→Int→Option GH)(S2:ABD→ABU→Int→Int→Option Dn)(fo:Int→Option Kx)(et:AAs→Int→Option Gm)(n:Nat)(ω:List Bool)(v:xT.V):Ci ⟨T,Ps [(74,⟨xm,o74,xm.un xP⟩),(82,⟨zE,o82,zE.un x_⟩),(138,⟨i138,vZ,i138.un fU⟩),(182,⟨i182,w7,i182.un fj⟩),(202,⟨iC,vH,iC.un gb⟩),(222,⟨i222,vK,i222.un fg⟩),(224,⟨WB,kL,WB.un S2⟩),(225,⟨iL,vQ,iL.un fo⟩),(256,⟨gl,v8,gl.un et⟩)],B3 [(10,[0,1,2,3,4,5,6,7,8,9,10,11]),(18,[0,1,2,3,4,5,6,7,8,9,10,11,12,13,14,15,16,17,18,19])]⟩ lT Tryz.f192 (K_ 8 ik n) ω v=xT.un (fun(CK:Int) (CM:Int) (BO:Bool) (p1:Int) (b0:AAD) (b1:AAh) (b2:AAD) (b3:AAg) (b4:AAq) (b5:AA2) (b6:AA3) (b7:AAo)=>
 if(0:Int)≤p1∧p1<(b1.length:Int)then(
 (Ba n) p1 0 b0 b1 b2 b3 b4 b5 b6 b7 CK CM BO 0 0 false [] [] [] [] [] [] [] [] ((b1.getD (p1.toNat) ([],[],0,())).1) ((b1.getD (p1.toNat) ([],[],0,())).2.1) ((b1.getD (p1.toNat) ([],[],0,())).2.2.1))else none) v:=by kernel_rfl
theorem AYP(n:Nat)(ω:List Bool)(v:xT.V):Ci AAZ lT Tryz.f192 (K_ 8 ik n) ω v=xT.un (Qz (Ba n) (A7 n) (A_ n) (Bc n) (BW n)) v:=AZp Cw Cm CY CZ Em Dr EZ HS HZ n ω v
def AZH:SQ:=mk Tryz.func192 xT ASJ XE [s74,s82,qL,vh,AQT,ASW,AJh,AJl,AIJ] [(10,[0,1,2,3,4,5,6,7,8,9,10,11]),(18,[0,1,2,3,4,5,6,7,8,9,10,11,12,13,14,15,16,17,18,19])] ik (hJ:= .cons (fun _=>rfl) AOd (.cons (fun _=>rfl) ARh (.cons (fun _=>rfl) AG5 (.cons (fun _=>rfl) ALT (.cons (fun _=>rfl) AKK (.nil)))))) (he:=AYP AX)
def AZb:SQ:=mk Tryz.func109 cl AMB XG [xr,AQk,AZH] [] []
def AEG:SQ:=mk Tryz.func196 AAV eE JG [s74] [] [⟨3,⟨[(0,aW),(1,aW),(5,px),(6,BI)],jM⟩,O9⟩]
def AZz:SQ:=mk Tryz.func193 AME ANJ OL [s67,s77,AEG] [(8,[0,1,2])] [⟨5,⟨[(2,BI),(6,Jp),(8,nB),(9,BI)],ANO⟩,IB⟩] (hJ:= .cons (fun _=>rfl) (fun n v ω=>by rcases ω with _|⟨_|_,_⟩<;>kernel_rfl) (.nil))
def Aax:SQ:=mk Tryz.func194 AMp xE Qq [s68,s78,AEG] [(7,[0,1,2,3,4,5,6])] [⟨5,⟨[(2,BI),(6,Jp),(8,nG),(9,BI)],AMo⟩,Jf⟩] (hJ:= .cons (fun _=>rfl) (fun n v ω=>by rcases ω with _|⟨_|_,_⟩<;>kernel_rfl) (.nil))
def AYo:SQ:=mk Tryz.func110 cl ⟨AVT,[C2,XA,Iv,LN,Th,Tf,Ny,KD,C2]⟩ W7 [yX,yJ,xr,AZz,Aax] [(9,[0,1,2,3,5,6,7,8,9,10,11,12,13,14,15,16,17,18,19]),(13,[0,1,2,3,4,6,7,8,9,10,11,12,13,14,15,16,17,18,19])] [⟨7,⟨[(2,iW),(3,Yp),(4,.c (.ptr 11 0)),(7,BI)],AMi⟩,KP⟩,⟨11,⟨[(2,iW),(3,Yp),(4,.c (.ptr 11 0)),(8,BI)],AMi⟩,JZ⟩]
def AYC:SQ:=mk Tryz.func257 mZ Cd Yr [s71,yX] [] []
def AbI:SQ:=mk Tryz.func258 ⟨[(0,wW)],[]⟩ vp aC [ARG] [] [⟨3,⟨[(0,wW),(3,px),(4,BI)],[J1]⟩,JV⟩,⟨6,⟨[(0,wW),(3,px),(4,BI),(5,BI)],[J1]⟩,JT⟩]
def AZB:SQ:=mk Tryz.func195 ANA ⟨AXG,[UE,J1,J1]⟩ fH [s70,s73,s74,AYC,AbI] [] [⟨6,⟨[(1,px),(2,aW),(4,BI),(10,Tk),(12,nG),(13,.c (.ref 7)),(14,BI)],ANG⟩,Pn⟩,⟨11,⟨[(4,BI),(10,Tk),(12,nG),(13,.c (.ref 7)),(15,BI)],ANG⟩,Na⟩]
def AYY:SQ:=mk Tryz.func111 cl ⟨AVT,[C2,UE,Iv,LN,Th,Tf,Ny,KD,C2]⟩ XU [s74,wx,AZB,AEG] [(3,[0,2,3,4,5,6,7,8,9,10])] [] (he:=fun ω v=>by rcases ω with _|⟨_|_,_|⟨_|_,_⟩⟩<;>kernel_rfl)
abbrev qN:A6:=mQ
abbrev AAm:A6:=vd
def AQ1:SQ:=mk Tryz.func197 qN AAm ND [] [] []
def AaS:SQ:=mk Tryz.func112 ADn ⟨[(0,.M3 [.inr [.ref 0,.v tI,.ref 1,.ref 2,.ref 3,.v tI,.ref 4,.ref 8,.ref 6,.ref 7,.v .bool],.inl (.v tI)])],[C2,XA,C2,LN,Th,Iv,Ny,KD,Tf]⟩ XJ [s79,AQ1] [] []
def ATm:SQ:=mk Tryz.func198 jl sC Oi [s66,s73,q6,wx,AQk] [] []
abbrev pT:A6:=jl
abbrev AA4:A6:=vp
def AQn:SQ:=mk Tryz.func200 pT AA4 JE [s73,s82] [] [⟨3,⟨[(1,BI),(2,Jp),(5,xP8),(6,BI)],[AQB,J1]⟩,JP⟩]
abbrev pd:A6:=AM6
abbrev AAp:A6:=xE
def APf:SQ:=mk Tryz.func199 pd AAp JL [s68,s78,s82,yJ,ARG] [(8,[0,1,2,3,4,5,6,7,8,9]),(9,[0,1,2,3,4,5,7,8,9])] [⟨6,⟨[(3,Yn),(4,Jp),(5,Tk),(8,nB),(10,AAi),(11,BI)],[nC,yi,AQN,D3,J1,jx,AOz,D3,J1,jx]⟩,MW⟩]
def AYt:SQ:=mk Tryz.func113 cl sf XW [s74,vh,xr,ATm,APf,AQn] [(7,[0,1,2,3,4,5,6,7,8,9,10,11]),(9,[0,1,2,3,4,5,6,7,8,9,10,11,12]),(10,[0,1,2,3,4,5,6,7,8,9,10,11,12,13,14,15])] [] (he:=fun ω v=>by rcases ω with _|⟨_|_,_|⟨_|_,_|⟨_|_,_⟩⟩⟩<;>kernel_rfl)
def AT4:SQ:=mk Tryz.func261 AAV eE Kq [AEG] [] []
def AUH:SQ:=mk Tryz.func260 AEr Cd K0 [s71,yX,AVh,AEG] [(3,[0,1])] []
abbrev i201:A6:=AMk
abbrev ABM:A6:=xE
def AQz:SQ:=mk Tryz.func201 i201 ABM JB [s68,s78,AUZ,AUH,AT4] [(4,[0,1,2,3,4,5,6])] [⟨8,⟨[(4,Jp),(6,Tk),(8,.c (.ptr 5 0)),(9,BI)],AFK⟩,L3⟩]
def AaM:SQ:=mk Tryz.func114 ADn sf W5 [vh,AQz] [(3,[0,1,2,3,4,5,6,7,8,9])] [] (he:=fun ω v=>by rcases ω with _|⟨_|_,_|⟨_|_,_⟩⟩<;>kernel_rfl)
def AZQ:SQ:=mk Tryz.func115 cl sf ZU [s74,vh,xr,ARH,AQT] [(3,[0,1,2,3,4,5,6,7,8,9,10]),(9,[0,1,2,3,4,5,6,7,8,9,10,11]),(11,[0,1,2,3,4,5,6,7,8,9,10,11,12])] [] (he:=fun ω v=>by rcases ω with _|⟨_|_,_|⟨_|_,_⟩⟩<;>kernel_rfl)
def AYV:SQ:=mk Tryz.func203 tD Cd SL [yX,s78] [(6,[0,1])] [⟨4,ANC,Kn⟩]
def AVH:SQ:=mk Tryz.func204 AMt zj QV [s65,s76,s79,q6] [] []
def AbU:SQ:=mk Tryz.func116 ADn ⟨[(0,.M3 [.inr [.ref 0,.v tI,.ref 1,.ref 2,.ref 8,.v tI,.ref 4,.ref 9,.ref 6,.ref 7,.v .bool],.inl (.v tI)])],[C2,XA,C2,Iv,Th,Iv,Ny,KD,LN,Tf]⟩ U4 [AYV,AVH] [(3,[0,1,2,3,4,5,6,7,8,9]),(5,[0,1,2,3,4,5,6,7,8,9])] [] (he:=fun ω v=>by rcases ω with _|⟨_|_,_⟩<;>kernel_rfl)
def AVA:SQ:=mk Tryz.func117 AMD zj Sy [s65,s76,s81,s82,wx] [(4,[0,1,2,3,4])] []
def Aa_:SQ:=mk Tryz.func266 zu FT V9 [] [] [⟨2,⟨AHT,[AIP]⟩,J0⟩]
def AaN:SQ:=mk Tryz.func206 z_ FT dd [Aa_] [] [⟨2,⟨[(1,BI),(2,Jp),(5,BI)],AAI⟩,PO⟩]
def AbN:SQ:=mk Tryz.func207 ⟨[(0,.row Y11),(1,.row Y9),(2,BI)],[]⟩ ⟨AC0,[.sl 9 Y14]⟩ Qv [qL,AUm,xr,AIJ] [(6,[0,1,2,3]),(7,[0,1,2,3]),(8,[0,1,3,4])] [⟨4,⟨[(3,Jp),(4,Tk),(7,.c (.ref 2)),(8,.c (.ref 3)),(9,BI)],[AJq,.mem [.v tI,.v tI,.sl false Y8],.sl 9 Y14,D3]⟩,Ji⟩] (hJ:= .cons (fun _=>rfl) (fun n v ω=>by rcases ω with _|⟨_|_,_|⟨_|_,_⟩⟩<;>kernel_rfl) (.nil))
def AZf:SQ:=mk Tryz.func263 ⟨[(0,rq),(1,rV)],[]⟩ ⟨[(0,.M3 [.inl (.ref 0),.inl (.v .bool)])],jM⟩ aJ [s71] [] [⟨3,⟨[(1,rV),(2,Jp),(6,xP8),(7,BI)],ADK⟩,MF⟩]
def AaF:SQ:=mk Tryz.func264 ⟨[(0,.row Y9),(1,.row Y8),(2,BI),(3,BI)],[]⟩ zz I7 [s69] [] []
def Aai:SQ:=mk Tryz.func265 ⟨[(0,aW),(1,BI),(2,rV)],[]⟩ ⟨[(0,.agg [.v tI,.v tI,.v .str])],[]⟩ Mp [s74,AGP,AWo] [] [⟨4,⟨[(0,aW),(1,BI),(2,rV),(6,Jp),(7,Tk),(8,xP1),(9,BI)],[.mem [.v tI,.v tI,.v .str],ABp]⟩,NO⟩]
def AaD:SQ:=mk Tryz.func205 AMX ⟨ATg,[.sl 9 Y8]⟩ Qk [s29,s69,s76,s82,qL,AJl,AUH,AT4,AZf,AaF,Aai] [(9,[0,1,2,4,5]),(14,[0,1,2,3,4,5]),(16,[0,1,2,4,5,6])] []
def AaH:SQ:=mk Tryz.func118 cl sf XC [q6,AaD,AaN,AbN] [(3,[0,1,2,3,4,5,6,7,8,9,10])] [] (he:=fun ω v=>by rcases ω with _|⟨_|_,_|⟨_|_,_|⟨_|_,_⟩⟩⟩<;>kernel_rfl)
def AbG:SQ:=mk Tryz.func119 cl ⟨[(0,.M3 [.inr [.ref 0,.v tI,.ref 1,.ref 2,.ref 3,.v tI,.ref 8,.ref 5,.ref 6,.ref 7,.v .bool],.inl (.v tI)])],[C2,XA,C2,LN,Iv,Tf,Ny,KD,en]⟩ XS [ASP] [] [⟨5,⟨[(2,iW),(3,dR),(4,Yp),(6,.c (.ref 19)),(7,BI)],[C2,XA,C2,LN,en,Tf,Ny,KD,rf,ACi,ym,D3,V5,D3,Oa,V4,V6,V0,VW,en]⟩,NP⟩]
def AaU:SQ:=mk Tryz.func209 jl sC TN [s66,s73,s81] [(11,[0,1,2,3,6])] [⟨8,ANS,Kj⟩] (hJ:= .cons (fun _=>rfl) (fun n v ω=>by rcases ω with _|⟨_|_,_⟩<;>kernel_rfl) (.nil))
def AYp:SQ:=mk Tryz.func120 cl sf Uz [xr,AWc,AaU] [(4,[0,1,2,3,4,5,6,7,8,9,10]),(6,[0,1,2,3,4,5,6,7,8,9,10,12])] [] (he:=fun ω v=>by rcases ω with _|⟨_|_,_⟩<;>kernel_rfl)
def s35:SQ:=mk Tryz.func35 cl ⟨[(0,.M3 [.inr [.ref 0,.v tI,.ref 1,.ref 8,.ref 9,.v tI,.ref 10,.ref 11,.ref 6,.ref 12,.v .bool],.inl (.v tI)])],[C2,UE,Iv,Iv,Iv,Iv,Ny,Iv,C2,LN,en,qC,KD]⟩ cG [AX9,AZV,AZD,AZb,AYo,AYY,AaS,AYt,AaM,AZQ,AbU,AVA,AaH,AbG,AYp] [] []
def s13:SQ:=mk Tryz.func13 AMS AMB Pf [s10,s26,s34,s35] [(3,[0,1,2])] [] (he:=fun ω v=>by rcases ω with _|⟨_|_,_|⟨_|_,_⟩⟩<;>kernel_rfl)
def s46:SQ:=mk Tryz.func46 zX ⟨[(0,.M3 [.inr [.sl true tI,.v tI,.sl true Y2,.sl true tI,.sl true Y3,.v tI,.sl true Y6,.sl true Y7,.sl true Y9,.sl true Y10,.v .bool],.inl (.ref 1),.inr [.sl true tI,.v tI,.sl true Y2,.sl true tI,.sl true Y3,.v tI,.sl true Y6,.sl true Y7,.sl true Y9,.sl true Y10,.v .bool]])],[Ti,.sl 9 Y12]⟩ OT [s13,gn,s33,yX,AQJ,AU1] [(21,[0,2,3,4,5,6,7,8,9,11,12,13,14,15,16,17,18,19,20,21])] [⟨4,ANL,Eo⟩,⟨7,⟨[(0,Jp),(1,BI),(4,Tk),(6,Yp),(7,gq),(8,.c (.sl true tI))],[Ti,AC_,D3,V5,D3,Oa,V4,V6,V0,VW,ym,D3,V5,D3,Oa,V4,V6,V0,VW,.mem [.sl true tI,.v tI]]⟩,Ew⟩,⟨14,⟨[(0,Jp),(4,Tk),(6,Yp),(10,gq),(12,.c (.ptr 20 0)),(13,.c (.ref 21)),(14,BI),(15,BI)],[Ti,AC_,D3,V5,D3,Oa,V4,V6,V0,VW,ym,D3,V5,D3,Oa,V4,V6,V0,VW,APR,APR,.sl 9 Y12]⟩,Df⟩]
abbrev vl:A6:=zX
abbrev AEM:A6:=⟨[(0,.M3 [.inr [.ref 1,.v tI,.ref 2,.ref 3,.ref 4,.v tI,.ref 5,.ref 6,.ref 7,.ref 8,.v .bool],.inl (.ref 9),.inr [.ref 10,.v tI,.ref 11,.ref 12,.ref 13,.v tI,.ref 14,.ref 15,.ref 16,.ref 17,.v .bool]])],[Ti,Iv,Iv,Iv,Iv,Iv,Iv,Iv,Iv,.sl 9 Y12,C2,UE,C2,LN,en,qC,Ny,KD]⟩
def AL2:SQ:=mk Tryz.func46 vl AEM Kp [s13,gn,s33,yX,AQJ,AU1] [(21,[0,2,3,4,5,6,7,8,9,11,12,13,14,15,16,17,18,19,28,29,30,31,32,33,34,35,36,37])] [⟨4,ANL,Ep⟩,⟨7,⟨[(0,Jp),(1,BI),(4,Tk),(6,Yp),(7,gq),(8,.c (.ref 21))],AM3⟩,Eu⟩,⟨14,AXH,Dh⟩]
def AXE:SQ:=mk Tryz.func221 ft ANK Ll [gn,s48,s82,qL,AO5] [] []
abbrev qe:A6:=ft
abbrev ABv:A6:=AML
def APv:SQ:=mk Tryz.func136 qe ABv GO [gn,s48,qL,ARH,AQk,ATm,AXE] [(6,[1,2,3,4,5,6]),(14,[1,2,3,4,5,6,9]),(25,[0,1,2,3,6])] [⟨4,⟨[(0,Jp),(2,Tk),(3,nG),(4,BI),(5,BI)],AAW⟩,EP⟩,⟨20,⟨[(2,Tk),(3,nG),(8,BI)],AAW⟩,Er⟩,⟨23,⟨[(2,Tk),(3,nG),(8,BI),(9,BI)],AAW⟩,Ex⟩] (hJ:= .cons (fun _=>rfl) (fun n v ω=>by rcases ω with _|⟨_|_,_|⟨_|_,_⟩⟩<;>kernel_rfl) (.cons (fun _=>rfl) (fun n v ω=>by kernel_rfl) (.cons (fun _=>rfl) (fun n v ω=>by rcases ω with _|⟨_|_,_|⟨_|_,_⟩⟩<;>kernel_rfl) (.nil))))
abbrev i55:A6:=ft
abbrev o55:A6:=AAG
def s55:SQ:=mk Tryz.func55 i55 o55 FD [gn,rz,qL] [] []
def AUC:SQ:=mk Tryz.func137 ft ANK SA [gn,s55,rz,AXE] [] []
abbrev i50:A6:=ft
abbrev o50:A6:=AML
def s50:SQ:=mk Tryz.func50 i50 o50 Vj [gn,rz,APv,AUC,qL] [(6,[1,4]),(8,[1,3]),(10,[1,2,3,4,5,6]),(11,[0,1,2,3,5])] [⟨10,⟨[(0,Jp),(2,Tk),(3,nG)],AAW⟩,NK⟩] (hJ:= .cons (fun _=>rfl) (fun n v ω=>by rcases ω with _|⟨_|_,_|⟨_|_,_⟩⟩<;>kernel_rfl) (.nil)) (he:=fun ω v=>by rcases ω with _|⟨_|_,_|⟨_|_,_⟩⟩<;>kernel_rfl)
def Abq:SQ:=mk Tryz.func139 mX ⟨AP7,[Ti,Oa]⟩ Po [gn,ARf,AVA,qL,AVq,AVH] [(5,[1,2,3,4,5]),(8,[1,2,3,4,5]),(10,[1,2,3,4,5])] [⟨3,⟨AWT,[Ti,nC,.mem [.ref 3,.v tI],Oa,.mem [.ref 5,.v tI],Oa]⟩,G1⟩] (hJ:= .cons (fun _=>rfl) (fun n v ω=>by rcases ω with _|⟨_|_,_|⟨_|_,_⟩⟩<;>kernel_rfl) (.nil))
abbrev i51:A6:=mX
abbrev o51:A6:=⟨AP7,[Ti,.sl 1 Y3]⟩
def s51:SQ:=mk Tryz.func51 i51 o51 VF [gn,s49,s55,rz,ARf,Abq] [(11,[1,2,5]),(14,[1,2,5]),(17,[1,2,3,4])] [⟨17,⟨[(0,Jp),(4,Tk),(5,xP5),(7,.c (.sl true tI))],[Ti,AR1,Oa,APL,.sl 1 Y3]⟩,NY⟩]
abbrev AaR:A6:=mX
abbrev AZ5:A6:=⟨[(0,.agg [.v tI,.ref 1])],[Ti,ko]⟩
def AUb:SQ:=mk Tryz.func140 AaR AZ5 Pm [gn,s48,wx,AO5,AWA,ASW] [(5,[1,2,3,4,5]),(7,[1,2,3,4,5])] [⟨3,⟨AWT,[Ti,nC,ANo,ko,.mem [.v tI,.ref 5],ko]⟩,Im⟩] (hJ:= .cons (fun _=>rfl) (fun n v ω=>by rcases ω with _|⟨_|_,_|⟨_|_,_|⟨_|_,_⟩⟩⟩<;>kernel_rfl) (.nil))
abbrev i52:A6:=mX
abbrev o52:A6:=⟨[(0,.agg [.v tI,.ref 1])],[Ti,.sl 1 Y5]⟩
def c52:QJ:=⟨i52,o52,(i52.un Oo)⟩
def C52:Z1:=⟨T,Ps (SP.l [gn,rz,AUb]),B3 [(7,[0,1,2,5]),(9,[1,2]),(12,[0,1,2])]⟩
def L52:List (Lp o52):=[⟨11,⟨[(4,Tk),(5,xP5)],[Ti,.mem [.v tI,.ref 2],ko,.mem [.v tI,.ref 4],.sl 1 Y5]⟩,HC⟩]
abbrev yg:A6:=⟨[(4,Tk),(5,xP5)],[Ti,.mem [.v tI,.ref 2],ko,.mem [.v tI,.ref 4],.sl 1 Y5]⟩
theorem APO(n:Nat)(v:yg.V)(ω:List Bool):Hi C52 c52 Tryz.f52 (K_ 1 L52 n) 11 ω (yg.st 68 v)=yg.un (Q0 (HC n)) v:=by rcases ω with _|⟨_|_,_|⟨_|_,_|⟨_|_,_⟩⟩⟩<;>kernel_rfl
def dQ(ω:List Bool):Prop:= ∀(n:Nat) (v:i52.V),Ci C52 c52 Tryz.f52 (K_ 1 L52 n) ω v=i52.un (OV (HC n)) v
theorem ATb:dQ []:=by delta dQ;intros;kernel_rfl
theorem AUo:dQ (false::[]):=by delta dQ;intros;kernel_rfl
theorem AW5:dQ (false::false::[]):=by delta dQ;intros;kernel_rfl
theorem AWq:dQ (false::false::false::[]):=by delta dQ;intros;kernel_rfl
theorem AUh(ω:List Bool):dQ (false::false::false::false::ω):=by delta dQ;intros;kernel_rfl
theorem AUM(ω:List Bool):dQ (false::false::false::true::ω):=by delta dQ;intros;kernel_rfl
theorem ATQ(ω:List Bool):dQ (false::false::true::ω):=by delta dQ;intros;kernel_rfl
theorem AWJ(ω:List Bool):dQ (false::true::ω):=by delta dQ;intros;kernel_rfl
theorem AWI(ω:List Bool):dQ (true::ω):=by delta dQ;intros;kernel_rfl
theorem e52(n:Nat)(ω:List Bool)(v:i52.V):Ci C52 c52 Tryz.f52 (K_ 1 L52 n) ω v=i52.un (OV (HC n)) v:=(AF ATb (AF AUo (AF AW5 (AF AWq AUh AUM) ATQ) AWJ) AWI) ω n v
def s52:SQ:=mk Tryz.func52 i52 o52 Oo [gn,rz,AUb] [(7,[0,1,2,5]),(9,[1,2]),(12,[0,1,2])] L52 (hJ:= .cons (fun _=>rfl) APO (.nil)) (he:=e52 AX)
abbrev qi:A6:=tD
abbrev AB0:A6:=eE
def AWm:SQ:=mk Tryz.func223 qi AB0 M6 [yX,yJ] [] [⟨3,⟨[(2,Jp),(5,xP8),(6,BI)],ADK⟩,NJ⟩]
abbrev i141:A6:=mX
abbrev AQU:A6:=AMP
def c141:QJ:=⟨i141,AQU,(i141.un MT)⟩
def AOm:Z1:=⟨T,Ps (SP.l [gn,s48,wx,APv,AQ1,APf,AQn,AQz,AWm,AJh]),B3 [(6,[1,2,3,4,5,6,7,8,9]),(11,[0,1,2,3,4,5,6,7,8,9]),(17,[1,2,3,4,5,6,7,8,9])]⟩
def tz:List (Lp AQU):=[⟨4,⟨[(0,Jp),(3,Tk),(4,nB),(5,AAi),(6,BI),(7,BI)],zK⟩,B6⟩,⟨15,⟨[(0,Jp),(3,Tk),(4,nB),(5,AAi),(12,BI)],zK⟩,BQ⟩]
abbrev bh:A6:=⟨[(0,Jp),(3,Tk),(4,nB),(5,AAi),(6,BI),(7,BI)],zK⟩
abbrev W_:A6:=⟨[(0,Jp),(3,Tk),(4,nB),(5,AAi),(12,BI)],zK⟩
def KB(ω:List Bool):Prop:= ∀(g24:Int→List Int→Int→Int→Option H7) (g48:Int→List Int→Int→Int→Option Nd) (km:Int→Int→Option Px) (ki:List Int→Int→Int→Option CT) (m_:Int→Int→Option L6) (kQ:ABD→ABU→Int→AAs→Option Fo) (kc:ACD→Int→Option Fp) (lB:ABD→ABU→List Int→Option Fv) (kz:ABD→ABU→Option Gu) (S2:ABD→ABU→Int→Int→Option Dn) (n:Nat) (v:bh.V),Hi ⟨T,Ps [(24,⟨i24,o24,i24.un g24⟩),(48,⟨i48,o48,i48.un g48⟩),(135,⟨qy,AAf,qy.un km⟩),(136,⟨qe,ABv,qe.un ki⟩),(197,⟨qN,AAm,qN.un m_⟩),(199,⟨pd,AAp,pd.un kQ⟩),(200,⟨pT,AA4,pT.un kc⟩),(201,⟨i201,ABM,i201.un lB⟩),(223,⟨qi,AB0,qi.un kz⟩),(224,⟨WB,kL,WB.un S2⟩)],B3 [(6,[1,2,3,4,5,6,7,8,9]),(11,[0,1,2,3,4,5,6,7,8,9]),(17,[1,2,3,4,5,6,7,8,9])]⟩ c141 Tryz.f141 (K_ 1 tz n) 4 ω (bh.st 85 v)=bh.un (fun(t6:Int) (t7:Int) (AL:AAD) (AE:Int) (AY:Int) (BD:AAD) (Ap:Int) (I2:Int) (LM:Int) (QE:Bool) (b3:AAD) (b4:AAs) (b5:List AAD) (LS:Int) (KI:Int) (LP:Bool) (b7:AAD) (b8:AAs) (b9:List AAD)=>
 cond (decide (t7<t6))
  ((g24 (BD.length:Int) AL AE AY).bind fun u4=>
  (ki u4.2.1.1 u4.2.1.2.1 u4.2.1.2.2.1).bind fun u5=>
  (kc (u5.2.2.1,u5.2.2.2.1,u5.1.1.2.2.1,()) KI).bind fun u6=>
  (kQ (BD,Ap,()) (LS,KI,b7,b8,LP,b9,()) u4.1.1 u6.2.1).bind fun u7=>
  cond (u7.1.1.2.1)
   ((B6 n) t6 (AS (t7+1)) u5.2.1.1 u5.2.1.2.1 u5.2.1.2.2.1 BD Ap I2 LM QE b3 b4 b5 u7.1.1.1.1 u7.1.1.1.2.1 u7.1.1.1.2.2.2.2.1 u7.2.1 u7.2.2.1 u7.2.2.2.1)
  ((B6 n) t6 (AS (t7+1)) u5.2.1.1 u5.2.1.2.1 u5.2.1.2.2.1 BD Ap I2 LM QE b3 b4 b5 LS KI LP b7 b8 b9))
 ((g48 3 AL AE AY).bind fun WL=>
 cond (WL.1.1)
  (some (((LS,KI,(),(),LP,(),()),()),((WL.2.1.1,WL.2.1.2.1,WL.2.1.2.2.1,()),b7,b8,b9,())))
 ((kz (BD,Ap,()) (LS,KI,b7,b8,LP,b9,())).bind fun fa=>
 (lB (BD,Ap,()) (LS,KI,b7,b8,LP,b9,()) fa.2.1).bind fun MY=>
 cond (MY.1.1.2.1)
  ((BQ n) 0 WL.2.1.1 WL.2.1.2.1 WL.2.1.2.2.1 BD Ap I2 LM QE b3 b4 b5 MY.1.1.1.1 MY.1.1.1.2.1 MY.1.1.1.2.2.2.2.1 MY.2.1 MY.2.2.1 MY.2.2.2.1)
 ((BQ n) 0 WL.2.1.1 WL.2.1.2.1 WL.2.1.2.2.1 BD Ap I2 LM QE b3 b4 b5 LS KI LP b7 b8 b9)))) v
theorem ADL:KB []:=by delta KB;intros;kernel_rfl
theorem ACv(ω:List Bool):KB (false::ω):=by delta KB;intros;kernel_rfl
theorem AFN:KB (true::[]):=by delta KB;intros;kernel_rfl
theorem ADH(ω:List Bool):KB (true::false::ω):=by delta KB;intros;kernel_rfl
theorem AFR:KB (true::true::[]):=by delta KB;intros;kernel_rfl
theorem AEv(ω:List Bool):KB (true::true::false::ω):=by delta KB;intros;kernel_rfl
theorem AFS:KB (true::true::true::[]):=by delta KB;intros;kernel_rfl
theorem AC7(ω:List Bool):KB (true::true::true::false::ω):=by delta KB;intros;kernel_rfl
theorem ACh(ω:List Bool):KB (true::true::true::true::ω):=by delta KB;intros;kernel_rfl
theorem ARm(g24:Int→List Int→Int→Int→Option H7)(g48:Int→List Int→Int→Int→Option Nd)(km:Int→Int→Option Px)(ki:List Int→Int→Int→Option CT)(m_:Int→Int→Option L6)(kQ:ABD→ABU→Int→AAs→Option Fo)(kc:ACD→Int→Option Fp)(lB:ABD→ABU→List Int→Option Fv)(kz:ABD→ABU→Option Gu)(S2:ABD→ABU→Int→Int→Option Dn)(n:Nat)(v:bh.V)(ω:List Bool):Hi ⟨T,Ps [(24,⟨i24,o24,i24.un g24⟩),(48,⟨i48,o48,i48.un g48⟩),(135,⟨qy,AAf,qy.un km⟩),(136,⟨qe,ABv,qe.un ki⟩),(197,⟨qN,AAm,qN.un m_⟩),(199,⟨pd,AAp,pd.un kQ⟩),(200,⟨pT,AA4,pT.un kc⟩),(201,⟨i201,ABM,i201.un lB⟩),(223,⟨qi,AB0,qi.un kz⟩),(224,⟨WB,kL,WB.un S2⟩)],B3 [(6,[1,2,3,4,5,6,7,8,9]),(11,[0,1,2,3,4,5,6,7,8,9]),(17,[1,2,3,4,5,6,7,8,9])]⟩ c141 Tryz.f141 (K_ 1 tz n) 4 ω (bh.st 85 v)=bh.un (fun(t6:Int) (t7:Int) (AL:AAD) (AE:Int) (AY:Int) (BD:AAD) (Ap:Int) (I2:Int) (LM:Int) (QE:Bool) (b3:AAD) (b4:AAs) (b5:List AAD) (LS:Int) (KI:Int) (LP:Bool) (b7:AAD) (b8:AAs) (b9:List AAD)=>
 cond (decide (t7<t6))
  ((g24 (BD.length:Int) AL AE AY).bind fun u4=>
  (ki u4.2.1.1 u4.2.1.2.1 u4.2.1.2.2.1).bind fun u5=>
  (kc (u5.2.2.1,u5.2.2.2.1,u5.1.1.2.2.1,()) KI).bind fun u6=>
  (kQ (BD,Ap,()) (LS,KI,b7,b8,LP,b9,()) u4.1.1 u6.2.1).bind fun u7=>
  cond (u7.1.1.2.1)
   ((B6 n) t6 (AS (t7+1)) u5.2.1.1 u5.2.1.2.1 u5.2.1.2.2.1 BD Ap I2 LM QE b3 b4 b5 u7.1.1.1.1 u7.1.1.1.2.1 u7.1.1.1.2.2.2.2.1 u7.2.1 u7.2.2.1 u7.2.2.2.1)
  ((B6 n) t6 (AS (t7+1)) u5.2.1.1 u5.2.1.2.1 u5.2.1.2.2.1 BD Ap I2 LM QE b3 b4 b5 LS KI LP b7 b8 b9))
 ((g48 3 AL AE AY).bind fun WL=>
 cond (WL.1.1)
  (some (((LS,KI,(),(),LP,(),()),()),((WL.2.1.1,WL.2.1.2.1,WL.2.1.2.2.1,()),b7,b8,b9,())))
 ((kz (BD,Ap,()) (LS,KI,b7,b8,LP,b9,())).bind fun fa=>
 (lB (BD,Ap,()) (LS,KI,b7,b8,LP,b9,()) fa.2.1).bind fun MY=>
 cond (MY.1.1.2.1)
  ((BQ n) 0 WL.2.1.1 WL.2.1.2.1 WL.2.1.2.2.1 BD Ap I2 LM QE b3 b4 b5 MY.1.1.1.1 MY.1.1.1.2.1 MY.1.1.1.2.2.2.2.1 MY.2.1 MY.2.2.1 MY.2.2.2.1)
 ((BQ n) 0 WL.2.1.1 WL.2.1.2.1 WL.2.1.2.2.1 BD Ap I2 LM QE b3 b4 b5 LS KI LP b7 b8 b9)))) v:=(AF ADL ACv (AF AFN ADH (AF AFR AEv (AF AFS AC7 ACh)))) ω g24 g48 km ki m_ kQ kc lB kz S2 n v
theorem ASE(n:Nat)(v:bh.V)(ω:List Bool):Hi AOm c141 Tryz.f141 (K_ 1 tz n) 4 ω (bh.st 85 v)=bh.un (M_ (B6 n) (BQ n)) v:=ARm AJ A5 FQ GO ND JL JE JB M6 EZ n v ω
def HL(ω:List Bool):Prop:= ∀(g24:Int→List Int→Int→Int→Option H7) (g48:Int→List Int→Int→Int→Option Nd) (km:Int→Int→Option Px) (ki:List Int→Int→Int→Option CT) (m_:Int→Int→Option L6) (kQ:ABD→ABU→Int→AAs→Option Fo) (kc:ACD→Int→Option Fp) (lB:ABD→ABU→List Int→Option Fv) (kz:ABD→ABU→Option Gu) (S2:ABD→ABU→Int→Int→Option Dn) (n:Nat) (v:W_.V),Hi ⟨T,Ps [(24,⟨i24,o24,i24.un g24⟩),(48,⟨i48,o48,i48.un g48⟩),(135,⟨qy,AAf,qy.un km⟩),(136,⟨qe,ABv,qe.un ki⟩),(197,⟨qN,AAm,qN.un m_⟩),(199,⟨pd,AAp,pd.un kQ⟩),(200,⟨pT,AA4,pT.un kc⟩),(201,⟨i201,ABM,i201.un lB⟩),(223,⟨qi,AB0,qi.un kz⟩),(224,⟨WB,kL,WB.un S2⟩)],B3 [(6,[1,2,3,4,5,6,7,8,9]),(11,[0,1,2,3,4,5,6,7,8,9]),(17,[1,2,3,4,5,6,7,8,9])]⟩ c141 Tryz.f141 (K_ 1 tz n) 15 ω (W_.st 85 v)=W_.un (fun(t12:Int) (AL:AAD) (AE:Int) (AY:Int) (BD:AAD) (Ap:Int) (I2:Int) (LM:Int) (QE:Bool) (b3:AAD) (b4:AAs) (b5:List AAD) (LS:Int) (KI:Int) (LP:Bool) (b7:AAD) (b8:AAs) (b9:List AAD)=>
 (g24 9 AL AE AY).bind fun It=>
 cond ((decide (t12<It.1.1)))
  ((km (b9.length:Int) 1).bind fun cw=>
  (g24 cw.1.1 It.2.1.1 It.2.1.2.1 It.2.1.2.2.1).bind fun bW=>
  (g24 (BD.length:Int) bW.2.1.1 bW.2.1.2.1 bW.2.1.2.2.1).bind fun PT=>
  (S2 (BD,Ap,()) (LS,KI,b7,b8,LP,b9,()) (AS (1+bW.1.1)) PT.1.1).bind fun ZZ=>
  cond (ZZ.1.1.2.1)
   ((BQ n) (AS (t12+1)) PT.2.1.1 PT.2.1.2.1 PT.2.1.2.2.1 BD Ap I2 LM QE b3 b4 b5 ZZ.1.1.1.1 ZZ.1.1.1.2.1 ZZ.1.1.1.2.2.2.2.1 ZZ.2.1 ZZ.2.2.1 ZZ.2.2.2.1)
  ((BQ n) (AS (t12+1)) PT.2.1.1 PT.2.1.2.1 PT.2.1.2.2.1 BD Ap I2 LM QE b3 b4 b5 LS KI LP b7 b8 b9))
 (some (((LS,KI,(),(),LP,(),()),()),((It.2.1.1,It.2.1.2.1,It.2.1.2.2.1,()),b7,b8,b9,())))) v
theorem ABq:HL []:=by delta HL;intros;kernel_rfl
theorem ACN(ω:List Bool):HL (false::ω):=by delta HL;intros;kernel_rfl
theorem ABO:HL (true::[]):=by delta HL;intros;kernel_rfl
theorem ABm(ω:List Bool):HL (true::false::ω):=by delta HL;intros;kernel_rfl
theorem AB9:HL (true::true::[]):=by delta HL;intros;kernel_rfl
theorem ABA(ω:List Bool):HL (true::true::false::ω):=by delta HL;intros;kernel_rfl
theorem ABj:HL (true::true::true::[]):=by delta HL;intros;kernel_rfl
theorem AAd(ω:List Bool):HL (true::true::true::false::ω):=by delta HL;intros;kernel_rfl
theorem ABc(ω:List Bool):HL (true::true::true::true::ω):=by delta HL;intros;kernel_rfl
theorem AGU(g24:Int→List Int→Int→Int→Option H7)(g48:Int→List Int→Int→Int→Option Nd)(km:Int→Int→Option Px)(ki:List Int→Int→Int→Option CT)(m_:Int→Int→Option L6)(kQ:ABD→ABU→Int→AAs→Option Fo)(kc:ACD→Int→Option Fp)(lB:ABD→ABU→List Int→Option Fv)(kz:ABD→ABU→Option Gu)(S2:ABD→ABU→Int→Int→Option Dn)(n:Nat)(v:W_.V)(ω:List Bool):Hi ⟨T,Ps [(24,⟨i24,o24,i24.un g24⟩),(48,⟨i48,o48,i48.un g48⟩),(135,⟨qy,AAf,qy.un km⟩),(136,⟨qe,ABv,qe.un ki⟩),(197,⟨qN,AAm,qN.un m_⟩),(199,⟨pd,AAp,pd.un kQ⟩),(200,⟨pT,AA4,pT.un kc⟩),(201,⟨i201,ABM,i201.un lB⟩),(223,⟨qi,AB0,qi.un kz⟩),(224,⟨WB,kL,WB.un S2⟩)],B3 [(6,[1,2,3,4,5,6,7,8,9]),(11,[0,1,2,3,4,5,6,7,8,9]),(17,[1,2,3,4,5,6,7,8,9])]⟩ c141 Tryz.f141 (K_ 1 tz n) 15 ω (W_.st 85 v)=W_.un (fun(t12:Int) (AL:AAD) (AE:Int) (AY:Int) (BD:AAD) (Ap:Int) (I2:Int) (LM:Int) (QE:Bool) (b3:AAD) (b4:AAs) (b5:List AAD) (LS:Int) (KI:Int) (LP:Bool) (b7:AAD) (b8:AAs) (b9:List AAD)=>
 (g24 9 AL AE AY).bind fun It=>
 cond ((decide (t12<It.1.1)))
  ((km (b9.length:Int) 1).bind fun cw=>
  (g24 cw.1.1 It.2.1.1 It.2.1.2.1 It.2.1.2.2.1).bind fun bW=>
  (g24 (BD.length:Int) bW.2.1.1 bW.2.1.2.1 bW.2.1.2.2.1).bind fun PT=>
  (S2 (BD,Ap,()) (LS,KI,b7,b8,LP,b9,()) (AS (1+bW.1.1)) PT.1.1).bind fun ZZ=>
  cond (ZZ.1.1.2.1)
   ((BQ n) (AS (t12+1)) PT.2.1.1 PT.2.1.2.1 PT.2.1.2.2.1 BD Ap I2 LM QE b3 b4 b5 ZZ.1.1.1.1 ZZ.1.1.1.2.1 ZZ.1.1.1.2.2.2.2.1 ZZ.2.1 ZZ.2.2.1 ZZ.2.2.2.1)
  ((BQ n) (AS (t12+1)) PT.2.1.1 PT.2.1.2.1 PT.2.1.2.2.1 BD Ap I2 LM QE b3 b4 b5 LS KI LP b7 b8 b9))
 (some (((LS,KI,(),(),LP,(),()),()),((It.2.1.1,It.2.1.2.1,It.2.1.2.2.1,()),b7,b8,b9,())))) v:=(AF ABq ACN (AF ABO ABm (AF AB9 ABA (AF ABj AAd ABc)))) ω g24 g48 km ki m_ kQ kc lB kz S2 n v
theorem AIR(n:Nat)(v:W_.V)(ω:List Bool):Hi AOm c141 Tryz.f141 (K_ 1 tz n) 15 ω (W_.st 85 v)=W_.un (L7 (B6 n) (BQ n)) v:=AGU AJ A5 FQ GO ND JL JE JB M6 EZ n v ω
theorem AZl(g24:Int→List Int→Int→Int→Option H7)(g48:Int→List Int→Int→Int→Option Nd)(km:Int→Int→Option Px)(ki:List Int→Int→Int→Option CT)(m_:Int→Int→Option L6)(kQ:ABD→ABU→Int→AAs→Option Fo)(kc:ACD→Int→Option Fp)(lB:ABD→ABU→List Int→Option Fv)(kz:ABD→ABU→Option Gu)(S2:ABD→ABU→Int→Int→Option Dn)(n:Nat)(ω:List Bool)(v:i141.V):Ci ⟨T,Ps [(24,⟨i24,o24,i24.un g24⟩),(48,⟨i48,o48,i48.un g48⟩),(135,⟨qy,AAf,qy.un km⟩),(136,⟨qe,ABv,qe.un ki⟩),(197,⟨qN,AAm,qN.un m_⟩),(199,⟨pd,AAp,pd.un kQ⟩),(200,⟨pT,AA4,pT.un kc⟩),(201,⟨i201,ABM,i201.un lB⟩),(223,⟨qi,AB0,qi.un kz⟩),(224,⟨WB,kL,WB.un S2⟩)],B3 [(6,[1,2,3,4,5,6,7,8,9]),(11,[0,1,2,3,4,5,6,7,8,9]),(17,[1,2,3,4,5,6,7,8,9])]⟩ c141 Tryz.f141 (K_ 1 tz n) ω v=i141.un (fun(p1:ABD) (AL:AAD) (AE:Int) (AY:Int)=>
 (g24 2 AL AE AY).bind fun u1=>
 (m_ (AS (1+u1.1.1)) 4).bind fun u2=>
 (g24 5 u1.2.1.1 u1.2.1.2.1 u1.2.1.2.2.1).bind fun u3=>
 (B6 n) u3.1.1 0 u3.2.1.1 u3.2.1.2.1 u3.2.1.2.2.1 p1.1 p1.2.1 0 0 false [] [] [] u2.1.1.1 u2.1.1.2.1 u2.1.1.2.2.2.2.1 u2.2.1 u2.2.2.1 u2.2.2.2.1) v:=by kernel_rfl
theorem AY1(n:Nat)(ω:List Bool)(v:i141.V):Ci AOm c141 Tryz.f141 (K_ 1 tz n) ω v=i141.un (Ml (B6 n) (BQ n)) v:=AZl AJ A5 FQ GO ND JL JE JB M6 EZ n ω v
def Abc:SQ:=mk Tryz.func141 i141 AQU MT [gn,s48,wx,APv,AQ1,APf,AQn,AQz,AWm,AJh] [(6,[1,2,3,4,5,6,7,8,9]),(11,[0,1,2,3,4,5,6,7,8,9]),(17,[1,2,3,4,5,6,7,8,9])] tz (hJ:= .cons (fun _=>rfl) ASE (.cons (fun _=>rfl) AIR (.nil))) (he:=AY1 AX)
abbrev i53:A6:=mX
abbrev o53:A6:=AMP
def s53:SQ:=mk Tryz.func53 i53 o53 Vu [gn,s49,rz,AUC,Abc] [(8,[1,2,4,5]),(10,[1,2,4,6])] [] (he:=fun ω v=>by rcases ω with _|⟨_|_,_|⟨_|_,_⟩⟩<;>kernel_rfl)
abbrev i54:A6:=ft
abbrev o54:A6:=⟨[(0,.agg [.v tI,.v tI,.ref 1])],[Ti,.sl 9 Y8]⟩
def s54:SQ:=mk Tryz.func54 i54 o54 Jq [gn,s55,rz] [(5,[1,2])] [⟨3,⟨[(0,Jp),(2,Tk),(3,xP5),(4,BI)],[Ti,.mem [.v tI,.v tI,.ref 2],.sl 9 Y8,.mem [.v tI,.v tI,.ref 4],.sl 9 Y8]⟩,HO⟩] (hJ:= .cons (fun _=>rfl) (fun n v ω=>by rcases ω with _|⟨_|_,_|⟨_|_,_|⟨_|_,_⟩⟩⟩<;>kernel_rfl) (.nil))
abbrev i56:A6:=ft
abbrev o56:A6:=AL8
def s56:SQ:=mk Tryz.func56 i56 o56 Ro [gn,rz,AQJ] [(6,[1,4])] []
abbrev i23:A6:=⟨[(0,Jp),(1,xP0)],nJ⟩
abbrev o23:A6:=⟨[(0,.agg [.ref 1,.v tI,.ref 2,.ref 3,.ref 4,.v tI,.ref 5,.ref 6,.ref 7,.ref 8,.v .bool])],[Ti,C2,UE,C2,.sl 1 Y3,en,qC,Ny,KD]⟩
def c23:QJ:=⟨i23,o23,(i23.un IY)⟩
def C23:Z1:=⟨T,Ps (SP.l [gn,AL2,s47,s49,s50,s51,s52,s53,s54,s55,s56]),B3 [(6,[1,11,12,14,15,16,17,18,19,20,21]),(10,[1,11,12,13,14,15,17,18,19,20]),(12,[1,11,12,13,14,15,16,18,19,20]),(14,[1,11,12,13,14,15,16,17,19,20,21]),(16,[1,11,12,13,14,15,16,17,18,20])]⟩
def L23:List (Lp o23):=[]
def jP(ω:List Bool):Prop:= ∀(g24:Int→List Int→Int→Int→Option H7) (sK:Int→List Int→Int→Int→Option DG) (g47:List Int→Int→Int→Option aK) (g49:ABD→List Int→Int→Int→Option HX) (g50:List Int→Int→Int→Option Nf) (g51:ABD→List Int→Int→Int→Option Nr) (g52:ABD→List Int→Int→Int→Option Nj) (g53:ABD→List Int→Int→Int→Option aH) (g54:List Int→Int→Int→Option GQ) (g55:List Int→Int→Int→Option Q7) (g56:List Int→Int→Int→Option aO) (n:Nat) (v:i23.V),Ci ⟨T,Ps [(24,⟨i24,o24,i24.un g24⟩),(46,⟨vl,AEM,vl.un sK⟩),(47,⟨i47,o47,i47.un g47⟩),(49,⟨i49,o49,i49.un g49⟩),(50,⟨i50,o50,i50.un g50⟩),(51,⟨i51,o51,i51.un g51⟩),(52,⟨i52,o52,i52.un g52⟩),(53,⟨i53,o53,i53.un g53⟩),(54,⟨i54,o54,i54.un g54⟩),(55,⟨i55,o55,i55.un g55⟩),(56,⟨i56,o56,i56.un g56⟩)],B3 [(6,[1,11,12,14,15,16,17,18,19,20,21]),(10,[1,11,12,13,14,15,17,18,19,20]),(12,[1,11,12,13,14,15,16,18,19,20]),(14,[1,11,12,13,14,15,16,17,19,20,21]),(16,[1,11,12,13,14,15,16,17,18,20])]⟩ c23 Tryz.f23 (K_ 1 L23 n) ω v=i23.un (fun(p1:AAD) (AL:AAD) (AE:Int) (AY:Int)=>
 (g47 p1 40 90).bind fun u1=>
 (sK u1.1.1 AL AE AY).bind fun u2=>
 let x4:AAD:=u2.2.2.2.2.2.2.2.2.2.2.2.1
 let x5:AAh:=u2.2.2.2.2.2.2.2.2.2.2.2.2.1
 let x6:AAD:=u2.2.2.2.2.2.2.2.2.2.2.2.2.2.1
 let x7:AAg:=u2.2.2.2.2.2.2.2.2.2.2.2.2.2.2.1
 let x8:AAq:=u2.2.2.2.2.2.2.2.2.2.2.2.2.2.2.2.1
 let x9:AA2:=u2.2.2.2.2.2.2.2.2.2.2.2.2.2.2.2.2.1
 let ZQ:AA3:=u2.2.2.2.2.2.2.2.2.2.2.2.2.2.2.2.2.2.1
 let cZ:AAo:=u2.2.2.2.2.2.2.2.2.2.2.2.2.2.2.2.2.2.2.1
 (g24 40 u2.2.1.1 u2.2.1.2.1 u2.2.1.2.2.1).bind fun D_=>
 cond (D_.1.1==0)
  ((g49 (x4,u2.1.1.2.2.1.2.1,()) D_.2.1.1 D_.2.1.2.1 D_.2.1.2.2.1).bind fun Mh=>
  some ((((),u2.1.1.2.2.1.2.1,(),(),(),u2.1.1.2.2.1.2.2.2.2.2.1,(),(),(),(),u2.1.1.2.2.1.2.2.2.2.2.2.2.2.2.2.1,()),()),((Mh.2.1.1,Mh.2.1.2.1,Mh.2.1.2.2.1,()),x4,x5,Mh.2.2.1,x7,x8,x9,ZQ,cZ,())))
 (cond (D_.1.1==1)
  ((g50 D_.2.1.1 D_.2.1.2.1 D_.2.1.2.2.1).bind fun F5=>
  if(0:Int)≤(0:Int)∧(0:Int)<(x5.length:Int)then(
  some ((((),u2.1.1.2.2.1.2.1,(),(),(),u2.1.1.2.2.1.2.2.2.2.2.1,(),(),(),(),u2.1.1.2.2.1.2.2.2.2.2.2.2.2.2.2.1,()),()),((F5.2.1.1,F5.2.1.2.1,F5.2.1.2.2.1,()),x4,(x5.set 0 (F5.2.2.1,F5.2.2.2.1,F5.1.1.2.2.1,())),x6,x7,x8,x9,ZQ,cZ,())))else none)
 (cond (D_.1.1==2)
  ((g51 (x4,u2.1.1.2.2.1.2.1,()) D_.2.1.1 D_.2.1.2.1 D_.2.1.2.2.1).bind fun u16=>
  some ((((),u2.1.1.2.2.1.2.1,(),(),(),u16.1.1.2.1,(),(),(),(),u2.1.1.2.2.1.2.2.2.2.2.2.2.2.2.2.1,()),()),((u16.2.1.1,u16.2.1.2.1,u16.2.1.2.2.1,()),x4,x5,x6,u16.2.2.1,x8,x9,ZQ,cZ,())))
 (cond (D_.1.1==3)
  ((g52 (x4,u2.1.1.2.2.1.2.1,()) D_.2.1.1 D_.2.1.2.1 D_.2.1.2.2.1).bind fun PS=>
  if x8.length+1≤Go.M.C7 then(
  some ((((),u2.1.1.2.2.1.2.1,(),(),(),u2.1.1.2.2.1.2.2.2.2.2.1,(),(),(),(),u2.1.1.2.2.1.2.2.2.2.2.2.2.2.2.2.1,()),()),((PS.2.1.1,PS.2.1.2.1,PS.2.1.2.2.1,()),x4,x5,x6,x7,(x8++[(PS.1.1.1,PS.2.2.1,())]),x9,ZQ,cZ,())))else none)
 (cond (D_.1.1==4)
  ((g53 (x4,u2.1.1.2.2.1.2.1,()) D_.2.1.1 D_.2.1.2.1 D_.2.1.2.2.1).bind fun It=>
  if x9.length+1≤Go.M.C7 then(
  some ((((),u2.1.1.2.2.1.2.1,(),(),(),u2.1.1.2.2.1.2.2.2.2.2.1,(),(),(),(),u2.1.1.2.2.1.2.2.2.2.2.2.2.2.2.2.1,()),()),((It.2.1.1,It.2.1.2.1,It.2.1.2.2.1,()),x4,x5,x6,x7,x8,(x9++[(It.1.1.1,It.1.1.2.1,It.2.2.1,It.2.2.2.1,It.1.1.2.2.2.2.1,It.2.2.2.2.1,())]),ZQ,cZ,())))else none)
 (cond (D_.1.1==5)
  ((g54 D_.2.1.1 D_.2.1.2.1 D_.2.1.2.2.1).bind fun dF=>
  if(0:Int)≤(0:Int)∧(0:Int)<(ZQ.length:Int)then(
  some ((((),u2.1.1.2.2.1.2.1,(),(),(),u2.1.1.2.2.1.2.2.2.2.2.1,(),(),(),(),u2.1.1.2.2.1.2.2.2.2.2.2.2.2.2.2.1,()),()),((dF.2.1.1,dF.2.1.2.1,dF.2.1.2.2.1,()),x4,x5,x6,x7,x8,x9,(ZQ.set 0 (dF.1.1.1,dF.1.1.2.1,dF.2.2.1,())),cZ,())))else none)
 (cond (D_.1.1==6)
  ((g55 D_.2.1.1 D_.2.1.2.1 D_.2.1.2.2.1).bind fun ak=>
  if cZ.length+1≤Go.M.C7 then(
  some ((((),u2.1.1.2.2.1.2.1,(),(),(),u2.1.1.2.2.1.2.2.2.2.2.1,(),(),(),(),u2.1.1.2.2.1.2.2.2.2.2.2.2.2.2.2.1,()),()),((ak.2.1.1,ak.2.1.2.1,ak.2.1.2.2.1,()),x4,x5,x6,x7,x8,x9,ZQ,(cZ++[(ak.1.1,[],false,())]),())))else none)
 (cond (D_.1.1==7)
  (some ((((),u2.1.1.2.2.1.2.1,(),(),(),u2.1.1.2.2.1.2.2.2.2.2.1,(),(),(),(),!u2.1.1.2.2.1.2.2.2.2.2.2.2.2.2.2.1,()),()),((D_.2.1.1,D_.2.1.2.1,D_.2.1.2.2.1,()),x4,x5,x6,x7,x8,x9,ZQ,cZ,())))
 (cond (D_.1.1==8)
  ((g56 D_.2.1.1 D_.2.1.2.1 D_.2.1.2.2.1).bind fun mN=>
  some ((((),mN.1.1.2.1,(),(),(),u2.1.1.2.2.1.2.2.2.2.2.1,(),(),(),(),u2.1.1.2.2.1.2.2.2.2.2.2.2.2.2.2.1,()),()),((mN.2.1.1,mN.2.1.2.1,mN.2.1.2.2.1,()),mN.2.2.1,x5,x6,x7,x8,x9,ZQ,cZ,())))
 (some ((((),u2.1.1.2.2.1.2.1,(),(),(),u2.1.1.2.2.1.2.2.2.2.2.1,(),(),(),(),u2.1.1.2.2.1.2.2.2.2.2.2.2.2.2.2.1,()),()),((D_.2.1.1,D_.2.1.2.1,D_.2.1.2.2.1,()),x4,x5,x6,x7,x8,x9,ZQ,cZ,())))))))))))) v
theorem AUK:jP []:=by delta jP;intros;kernel_rfl
theorem AVd:jP (false::[]):=by delta jP;intros;kernel_rfl
theorem AUw:jP (false::false::[]):=by delta jP;intros;kernel_rfl
theorem AUI(ω:List Bool):jP (false::false::false::ω):=by delta jP;intros;kernel_rfl
theorem AUQ(ω:List Bool):jP (false::false::true::ω):=by delta jP;intros;kernel_rfl
theorem ATS(ω:List Bool):jP (false::true::ω):=by delta jP;intros;kernel_rfl
theorem ATX(ω:List Bool):jP (true::ω):=by delta jP;intros;kernel_rfl
theorem b23(g24:Int→List Int→Int→Int→Option H7)(sK:Int→List Int→Int→Int→Option DG)(g47:List Int→Int→Int→Option aK)(g49:ABD→List Int→Int→Int→Option HX)(g50:List Int→Int→Int→Option Nf)(g51:ABD→List Int→Int→Int→Option Nr)(g52:ABD→List Int→Int→Int→Option Nj)(g53:ABD→List Int→Int→Int→Option aH)(g54:List Int→Int→Int→Option GQ)(g55:List Int→Int→Int→Option Q7)(g56:List Int→Int→Int→Option aO)(n:Nat)(ω:List Bool)(v:i23.V):Ci ⟨T,Ps [(24,⟨i24,o24,i24.un g24⟩),(46,⟨vl,AEM,vl.un sK⟩),(47,⟨i47,o47,i47.un g47⟩),(49,⟨i49,o49,i49.un g49⟩),(50,⟨i50,o50,i50.un g50⟩),(51,⟨i51,o51,i51.un g51⟩),(52,⟨i52,o52,i52.un g52⟩),(53,⟨i53,o53,i53.un g53⟩),(54,⟨i54,o54,i54.un g54⟩),(55,⟨i55,o55,i55.un g55⟩),(56,⟨i56,o56,i56.un g56⟩)],B3 [(6,[1,11,12,14,15,16,17,18,19,20,21]),(10,[1,11,12,13,14,15,17,18,19,20]),(12,[1,11,12,13,14,15,16,18,19,20]),(14,[1,11,12,13,14,15,16,17,19,20,21]),(16,[1,11,12,13,14,15,16,17,18,20])]⟩ c23 Tryz.f23 (K_ 1 L23 n) ω v=i23.un (fun(p1:AAD) (AL:AAD) (AE:Int) (AY:Int)=>
 (g47 p1 40 90).bind fun u1=>
 (sK u1.1.1 AL AE AY).bind fun u2=>
 let x4:AAD:=u2.2.2.2.2.2.2.2.2.2.2.2.1
 let x5:AAh:=u2.2.2.2.2.2.2.2.2.2.2.2.2.1
 let x6:AAD:=u2.2.2.2.2.2.2.2.2.2.2.2.2.2.1
 let x7:AAg:=u2.2.2.2.2.2.2.2.2.2.2.2.2.2.2.1
 let x8:AAq:=u2.2.2.2.2.2.2.2.2.2.2.2.2.2.2.2.1
 let x9:AA2:=u2.2.2.2.2.2.2.2.2.2.2.2.2.2.2.2.2.1
 let ZQ:AA3:=u2.2.2.2.2.2.2.2.2.2.2.2.2.2.2.2.2.2.1
 let cZ:AAo:=u2.2.2.2.2.2.2.2.2.2.2.2.2.2.2.2.2.2.2.1
 (g24 40 u2.2.1.1 u2.2.1.2.1 u2.2.1.2.2.1).bind fun D_=>
 cond (D_.1.1==0)
  ((g49 (x4,u2.1.1.2.2.1.2.1,()) D_.2.1.1 D_.2.1.2.1 D_.2.1.2.2.1).bind fun Mh=>
  some ((((),u2.1.1.2.2.1.2.1,(),(),(),u2.1.1.2.2.1.2.2.2.2.2.1,(),(),(),(),u2.1.1.2.2.1.2.2.2.2.2.2.2.2.2.2.1,()),()),((Mh.2.1.1,Mh.2.1.2.1,Mh.2.1.2.2.1,()),x4,x5,Mh.2.2.1,x7,x8,x9,ZQ,cZ,())))
 (cond (D_.1.1==1)
  ((g50 D_.2.1.1 D_.2.1.2.1 D_.2.1.2.2.1).bind fun F5=>
  if(0:Int)≤(0:Int)∧(0:Int)<(x5.length:Int)then(
  some ((((),u2.1.1.2.2.1.2.1,(),(),(),u2.1.1.2.2.1.2.2.2.2.2.1,(),(),(),(),u2.1.1.2.2.1.2.2.2.2.2.2.2.2.2.2.1,()),()),((F5.2.1.1,F5.2.1.2.1,F5.2.1.2.2.1,()),x4,(x5.set 0 (F5.2.2.1,F5.2.2.2.1,F5.1.1.2.2.1,())),x6,x7,x8,x9,ZQ,cZ,())))else none)
 (cond (D_.1.1==2)
  ((g51 (x4,u2.1.1.2.2.1.2.1,()) D_.2.1.1 D_.2.1.2.1 D_.2.1.2.2.1).bind fun u16=>
  some ((((),u2.1.1.2.2.1.2.1,(),(),(),u16.1.1.2.1,(),(),(),(),u2.1.1.2.2.1.2.2.2.2.2.2.2.2.2.2.1,()),()),((u16.2.1.1,u16.2.1.2.1,u16.2.1.2.2.1,()),x4,x5,x6,u16.2.2.1,x8,x9,ZQ,cZ,())))
 (cond (D_.1.1==3)
  ((g52 (x4,u2.1.1.2.2.1.2.1,()) D_.2.1.1 D_.2.1.2.1 D_.2.1.2.2.1).bind fun PS=>
  if x8.length+1≤Go.M.C7 then(
  some ((((),u2.1.1.2.2.1.2.1,(),(),(),u2.1.1.2.2.1.2.2.2.2.2.1,(),(),(),(),u2.1.1.2.2.1.2.2.2.2.2.2.2.2.2.2.1,()),()),((PS.2.1.1,PS.2.1.2.1,PS.2.1.2.2.1,()),x4,x5,x6,x7,(x8++[(PS.1.1.1,PS.2.2.1,())]),x9,ZQ,cZ,())))else none)
 (cond (D_.1.1==4)
  ((g53 (x4,u2.1.1.2.2.1.2.1,()) D_.2.1.1 D_.2.1.2.1 D_.2.1.2.2.1).bind fun It=>
  if x9.length+1≤Go.M.C7 then(
  some ((((),u2.1.1.2.2.1.2.1,(),(),(),u2.1.1.2.2.1.2.2.2.2.2.1,(),(),(),(),u2.1.1.2.2.1.2.2.2.2.2.2.2.2.2.2.1,()),()),((It.2.1.1,It.2.1.2.1,It.2.1.2.2.1,()),x4,x5,x6,x7,x8,(x9++[(It.1.1.1,It.1.1.2.1,It.2.2.1,It.2.2.2.1,It.1.1.2.2.2.2.1,It.2.2.2.2.1,())]),ZQ,cZ,())))else none)
 (cond (D_.1.1==5)
  ((g54 D_.2.1.1 D_.2.1.2.1 D_.2.1.2.2.1).bind fun dF=>
  if(0:Int)≤(0:Int)∧(0:Int)<(ZQ.length:Int)then(
  some ((((),u2.1.1.2.2.1.2.1,(),(),(),u2.1.1.2.2.1.2.2.2.2.2.1,(),(),(),(),u2.1.1.2.2.1.2.2.2.2.2.2.2.2.2.2.1,()),()),((dF.2.1.1,dF.2.1.2.1,dF.2.1.2.2.1,()),x4,x5,x6,x7,x8,x9,(ZQ.set 0 (dF.1.1.1,dF.1.1.2.1,dF.2.2.1,())),cZ,())))else none)
 (cond (D_.1.1==6)
  ((g55 D_.2.1.1 D_.2.1.2.1 D_.2.1.2.2.1).bind fun ak=>
  if cZ.length+1≤Go.M.C7 then(
  some ((((),u2.1.1.2.2.1.2.1,(),(),(),u2.1.1.2.2.1.2.2.2.2.2.1,(),(),(),(),u2.1.1.2.2.1.2.2.2.2.2.2.2.2.2.2.1,()),()),((ak.2.1.1,ak.2.1.2.1,ak.2.1.2.2.1,()),x4,x5,x6,x7,x8,x9,ZQ,(cZ++[(ak.1.1,[],false,())]),())))else none)
 (cond (D_.1.1==7)
  (some ((((),u2.1.1.2.2.1.2.1,(),(),(),u2.1.1.2.2.1.2.2.2.2.2.1,(),(),(),(),!u2.1.1.2.2.1.2.2.2.2.2.2.2.2.2.2.1,()),()),((D_.2.1.1,D_.2.1.2.1,D_.2.1.2.2.1,()),x4,x5,x6,x7,x8,x9,ZQ,cZ,())))
 (cond (D_.1.1==8)
  ((g56 D_.2.1.1 D_.2.1.2.1 D_.2.1.2.2.1).bind fun mN=>
  some ((((),mN.1.1.2.1,(),(),(),u2.1.1.2.2.1.2.2.2.2.2.1,(),(),(),(),u2.1.1.2.2.1.2.2.2.2.2.2.2.2.2.2.1,()),()),((mN.2.1.1,mN.2.1.2.1,mN.2.1.2.2.1,()),mN.2.2.1,x5,x6,x7,x8,x9,ZQ,cZ,())))
 (some ((((),u2.1.1.2.2.1.2.1,(),(),(),u2.1.1.2.2.1.2.2.2.2.2.1,(),(),(),(),u2.1.1.2.2.1.2.2.2.2.2.2.2.2.2.2.1,()),()),((D_.2.1.1,D_.2.1.2.1,D_.2.1.2.2.1,()),x4,x5,x6,x7,x8,x9,ZQ,cZ,())))))))))))) v:=(AF AUK (AF AVd (AF AUw AUI AUQ) ATS) ATX) ω g24 sK g47 g49 g50 g51 g52 g53 g54 g55 g56 n v
theorem e23(n:Nat)(ω:List Bool)(v:i23.V):Ci C23 c23 Tryz.f23 (K_ 1 L23 n) ω v=i23.un (IY) v:=b23 AJ Kp Mb FK Vj VF Oo Vu Jq FD Ro n ω v
def s23:SQ:=mk Tryz.func23 i23 o23 IY [gn,AL2,s47,s49,s50,s51,s52,s53,s54,s55,s56] [(6,[1,11,12,14,15,16,17,18,19,20,21]),(10,[1,11,12,13,14,15,17,18,19,20]),(12,[1,11,12,13,14,15,16,18,19,20]),(14,[1,11,12,13,14,15,16,17,19,20,21]),(16,[1,11,12,13,14,15,16,17,18,20])] L23 (hJ:= .nil) (he:=e23 AX)
abbrev i16:A6:=AEo
abbrev o16:A6:=⟨[(0,.M3 [.inr [.sl true tI,.v tI,.sl true Y2,.sl true tI,.sl true Y3,.v tI,.sl true Y6,.sl true Y7,.sl true Y9,.sl true Y10,.v .bool],.inl (.ref 0)])],[.sl 9 Y12]⟩
def s16:SQ:=mk Tryz.func16 i16 o16 K3 [s22,s23,gn,s46,s47,s48] [] [⟨6,⟨[(2,Jp),(4,dR),(5,Yp),(6,.c (.ref 11))],[uR,D3,V5,D3,Oa,V4,V6,V0,VW,Ti,APR,.sl 9 Y12]⟩,H3⟩]
abbrev i59:A6:=⟨[(0,aW)],[]⟩
abbrev o59:A6:=eE
def s59:SQ:=mk Tryz.func59 i59 o59 DF [] [] []
def s58:SQ:=mk Tryz.func58 AAT ⟨[(0,.agg [.ref 0,.v tI])],jM⟩ Qt [s59] [(1,[0])] []
abbrev i60:A6:=zf
abbrev o60:A6:=AC9
def s60:SQ:=mk Tryz.func60 i60 o60 EY [s59] [] [⟨3,⟨[(2,Jp),(3,nB),(10,.c (.sl false Y3)),(11,BI),(12,BI)],[.mem [.ref 1,.v tI],Oa,.mem [.ref 3,.v tI],Oa]⟩,IA⟩]
def AWk:SQ:=mk Tryz.func142 zI vp Ja [] [] []
def s61:SQ:=mk Tryz.func61 mR ADu C9 [AWk] [(1,[0])] []
abbrev i62:A6:=zu
abbrev o62:A6:=AFa
def s62:SQ:=mk Tryz.func62 i62 o62 Fz [s59] [] [⟨3,⟨[(2,Jp),(3,nB),(10,AIH),(11,BI),(12,BI)],ANO⟩,Jh⟩]
def s63:SQ:=mk Tryz.func63 wB vd Gc [s59,AWk] [(2,[0,1]),(6,[0,1,2,3,5,6])] [⟨4,⟨[(2,Jp),(3,nG),(17,AKg),(18,BI),(19,BI)],AMo⟩,MU⟩] (hJ:= .cons (fun _=>rfl) (fun n v ω=>by rcases ω with _|⟨_|_,_|⟨_|_,_⟩⟩<;>kernel_rfl) (.nil))
def s64:SQ:=mk Tryz.func64 zi zz NT [] [] []
def s25:SQ:=mk Tryz.func25 pw AMe MC [s58,s59,s60,s61,s62,s63,s64] [(1,[0,1]),(5,[0,1,2,3,4,5,6,7,8,9,11,13,14,15,16,17,18,19]),(10,[0,1,2,3,4,5,6,7,8,9,11,12,13,14,16,17,18,19]),(15,[0,1,2,3,4,5,6,7,8,9,11,12,13,14,15,17,18,19]),(20,[0,1,2,3,4,5,6,7,8,9,11,12,13,14,15,16,18,19])] [⟨3,⟨[(1,Jp),(2,Tk),(3,Yp),(25,wW),(26,BI),(27,BI)],dJ⟩,Fb⟩,⟨8,⟨[(1,Jp),(2,Tk),(3,Yp),(40,.c (.sl false Y6)),(41,BI),(42,BI)],dJ⟩,Fa⟩,⟨13,⟨[(1,Jp),(2,Tk),(3,Yp),(55,.c (.sl false Y7)),(56,BI),(57,BI)],dJ⟩,E6⟩,⟨18,⟨[(1,Jp),(2,Tk),(3,Yp),(70,.c (.sl false Y9)),(71,BI),(72,BI)],dJ⟩,Es⟩] (hJ:= .cons (fun _=>rfl) (fun n v ω=>by rcases ω with _|⟨_|_,_|⟨_|_,_⟩⟩<;>kernel_rfl) (.cons (fun _=>rfl) (fun n v ω=>by rcases ω with _|⟨_|_,_|⟨_|_,_⟩⟩<;>kernel_rfl) (.cons (fun _=>rfl) (fun n v ω=>by rcases ω with _|⟨_|_,_|⟨_|_,_⟩⟩<;>kernel_rfl) (.cons (fun _=>rfl) (fun n v ω=>by rcases ω with _|⟨_|_,_|⟨_|_,_⟩⟩<;>kernel_rfl) (.nil))))) (he:=fun ω v=>by rcases ω with _|⟨_|_,_|⟨_|_,_|⟨_|_,_⟩⟩⟩<;>kernel_rfl)
abbrev i37:A6:=ALz
abbrev o37:A6:=Cd
def ib:SQ:=mk Tryz.func37 i37 o37 A3 [] [] []
end
end Go.Proofs.YtdkfcaidapdecaaGreat.Wk
