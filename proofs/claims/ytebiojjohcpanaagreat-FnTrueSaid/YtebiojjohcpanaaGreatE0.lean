/- Each function computes what was printed: by the kernel. -/
import Derived.Test.YtebiojjohcpanaaGreatG0
import Derived.Test.YtebiojjohcpanaaGreatProg
import Derived.KernelRfl
set_option linter.unusedVariables false
set_option linter.unusedSimpArgs false
set_option linter.unusedSectionVars false
namespace Go.Proofs.YtebiojjohcpanaaGreat.Wk
open Go Go.Fw Go.M Go.Proofs
noncomputable section
abbrev tI:Ty:= .int .i64
abbrev tU:Ty:= .int .u8
abbrev Y0:Ty:=(.cons (.sl tI) (.cons tI .unit))
abbrev Y1:Ty:=(.cons tI (.cons tI (.cons .bool (.cons .str .unit))))
abbrev Y2:Ty:=(.cons (.sl Y1) (.cons (.sl Y1) (.cons tI .unit)))
abbrev Y3:Ty:=(.cons (.sl tI) (.cons .bool (.cons tI .unit)))
abbrev Y4:Ty:=(.cons (.sl Y3) (.cons tI .unit))
abbrev Y5:Ty:=(.cons .str (.cons (.sl tI) (.cons .bool .unit)))
abbrev Y6:Ty:=(.cons tI (.cons (.sl Y5) .unit))
abbrev Y7:Ty:=(.cons tI (.cons tI (.cons (.sl tI) (.cons (.sl Y1) (.cons .bool (.cons (.sl (.sl tI)) .unit))))))
abbrev Y8:Ty:=(.cons tI (.cons tI (.cons .str .unit)))
abbrev Y9:Ty:=(.cons tI (.cons tI (.cons (.sl Y8) .unit)))
abbrev Y10:Ty:=(.cons tI (.cons .str (.cons .bool .unit)))
abbrev Y11:Ty:=(.cons (.sl tI) (.cons tI (.cons (.sl Y2) (.cons (.sl tI) (.cons (.sl Y3) (.cons tI (.cons (.sl Y6) (.cons (.sl Y7) (.cons (.sl Y9) (.cons (.sl Y10) (.cons .bool .unit)))))))))))
abbrev Y12:Ty:=(.cons tI (.cons tI (.cons tI (.cons tI (.cons .str .unit)))))
abbrev Y13:Ty:=(.cons (.sl tU) (.cons tI (.cons tI .unit)))
abbrev Y14:Ty:=(.cons tI (.cons .bool (.cons tI (.cons tI (.cons .bool (.cons .str .unit))))))
def T:J4:=[(3,⟨1,8,.int .i64,some tI⟩),
 (4,⟨1,1,.bool,some .bool⟩),
 (5,⟨1,1,.int .u8,some tU⟩),
 (9,⟨1,16,.str,some .str⟩),
 (22,⟨1,24,.sl 5,some (.sl tU)⟩),
 (24,⟨1,24,.sl 3,some (.sl tI)⟩),
 (26,⟨2,32,.st [(0,24),(1,3)],some Y0⟩),
 (27,⟨1,24,.sl 94,some (.sl Y2)⟩),
 (28,⟨1,24,.sl 71,some (.sl Y3)⟩),
 (30,⟨2,32,.st [(0,28),(1,3)],some Y4⟩),
 (31,⟨1,24,.sl 63,some (.sl Y6)⟩),
 (32,⟨1,24,.sl 115,some (.sl Y7)⟩),
 (33,⟨1,24,.sl 49,some (.sl Y9)⟩),
 (34,⟨1,24,.sl 45,some (.sl Y10)⟩),
 (36,⟨11,216,.st [(0,26),(2,27),(3,24),(4,30),(6,31),(7,32),(8,33),(9,34),(10,4)],some Y11⟩),
 (37,⟨1,24,.sl 54,some (.sl Y12)⟩),
 (45,⟨3,32,.st [(0,3),(1,9),(2,4)],some Y10⟩),
 (47,⟨1,24,.sl 79,some (.sl Y8)⟩),
 (49,⟨3,40,.st [(0,3),(1,3),(2,47)],some Y9⟩),
 (54,⟨5,48,.st [(0,3),(1,3),(2,3),(3,3),(4,9)],some Y12⟩),
 (61,⟨1,24,.sl 162,some (.sl Y5)⟩),
 (63,⟨2,32,.st [(0,3),(1,61)],some Y6⟩),
 (71,⟨3,40,.st [(0,24),(1,4),(2,3)],some Y3⟩),
 (74,⟨1,8,.ptr 121,none⟩),
 (79,⟨3,32,.st [(0,3),(1,3),(2,9)],some Y8⟩),
 (87,⟨1,8,.other,none⟩),
 (92,⟨1,24,.sl 96,some (.sl Y1)⟩),
 (94,⟨3,56,.st [(0,92),(1,92),(2,3)],some Y2⟩),
 (96,⟨4,40,.st [(0,3),(1,3),(2,4),(3,9)],some Y1⟩),
 (103,⟨1,24,.sl 9,some (.sl .str)⟩),
 (113,⟨1,24,.sl 24,some (.sl (.sl tI))⟩),
 (115,⟨6,96,.st [(0,3),(1,3),(2,24),(3,92),(4,4),(5,113)],some Y7⟩),
 (121,⟨3,40,.st [(0,22),(1,3),(2,3)],some Y13⟩),
 (129,⟨1,8,.ptr 36,none⟩),
 (155,⟨1,8,.other,none⟩),
 (162,⟨3,48,.st [(0,9),(1,24),(2,4)],some Y5⟩),
 (189,⟨1,24,.sl 191,some (.sl Y14)⟩),
 (191,⟨6,56,.st [(0,3),(1,4),(2,96)],some Y14⟩),
 (199,⟨1,8,.other,none⟩),
 (202,⟨1,8,.int .u64,some (.int .u64)⟩),
 (205,⟨1,24,.sl 4,some (.sl .bool)⟩),
 (206,⟨1,8,.other,none⟩),
 (238,⟨1,8,.ptr 49,none⟩)]
theorem tOk:FB Tryz.prog T:=rR (by kernel_rfl)
theorem mx:Tryz.prog.follows .mixedOrders=true:=by kernel_rfl
abbrev SQ:=SP Tryz.prog
def mk{f:Nat}{fn:Func}(hf:Tryz.prog.funcs[f]? =some fn)(i o:Bh)(g:i.Cu (Option o.V))(l:List SQ)(h:List AGY)(L:List (Lp o))
  (hJ:Xd ⟨T,Rm (SP.l l),Cb h⟩ ⟨i,o,i.un g⟩ fn (MZ i.HE.length L) L:=by
   repeat refine Xd.cons (fun _=>rfl) (fun _ _ _=>by kernel_rfl) ?_
   exact Xd.nil)
  (he:∀ω v,DY ⟨T,Rm (SP.l l),Cb h⟩ ⟨i,o,i.un g⟩ fn (MZ i.HE.length L Ae) ω v=i.un g v:=by intro ω v;kernel_rfl)
  (hL:jg fn=Lp.ls L:=by kernel_rfl) (hd:decide (Lp.ls L).Nodup=true:=by kernel_rfl) (hc:jO fn ⟨i,o,i.un g⟩=true:=by kernel_rfl):SQ:=
 mkP tOk mx hf i o g l h L Ae hL hd hc hJ he
abbrev xP0:XP:= .c (.v .bool)
abbrev J7:XP:= .c (.ptr 0 0)
abbrev BK:XP:= .c (.v tI)
abbrev aR:XP:= .c (.ptr 1 0)
abbrev sn:XP:= .row Y0
abbrev cV:XP:= .c (.sl false tI)
abbrev xP6:XP:= .c (.ref 1)
abbrev o_:XP:= .c (.ref 0)
abbrev xP8:XP:= .c (.ptr 2 0)
abbrev r8:XP:= .c (.sl false Y1)
abbrev ATj:XP:= .agg [.ref 0,.v tI,.ref 1,.ref 2,.ref 3,.v tI,.ref 4,.ref 5,.ref 6,.ref 7,.v .bool]
abbrev da:XP:= .c (.ptr 10 0)
abbrev ix:XP:= .c (.ptr 8 0)
abbrev ed:XP:= .c (.ptr 9 0)
abbrev nv:XP:= .c (.ptr 18 0)
abbrev AAk:XP:= .c (.ptr 4 0)
abbrev ly:XP:= .c (.ptr 19 0)
abbrev xg:XP:= .c (.sl false Y2)
abbrev tE:XP:= .c (.sl false Y14)
abbrev AML:XP:= .c (.sl false Y5)
abbrev AJA:XP:= .c (.sl false (.sl tI))
abbrev qi:XP:= .c (.sl false Y9)
abbrev AMr:XP:= .c (.r_ 252 [(.cons (.sl tI) .unit)])
abbrev xS:XP:= .c (.ni Y11)
abbrev ACz:XP:= .c (.sl false Y10)
abbrev AM9:XP:= .c (.r_ 248 [(.cons tI .unit)])
abbrev AME:XP:= .c (.r_ 276 [(.cons tI .unit)])
abbrev ADa:XP:= .c (.sl false Y8)
abbrev wm:BP:= .mem [.sl true tU,.v tI,.v tI]
abbrev Fc:BP:= .sl 9 tI
abbrev vO:BP:= .mem [.sl false tI,.v tI]
abbrev Z7:BP:= .sl 9 Y2
abbrev TF:BP:= .sl 9 Y3
abbrev aB:BP:= .sl 9 Y6
abbrev Zz:BP:= .sl 9 Y7
abbrev Z0:BP:= .sl 9 Y9
abbrev Vp:BP:= .sl 9 Y10
abbrev APo:BP:= .mem [.sl false Y3,.v tI]
abbrev AEW:BP:= .mem [.sl false tI,.v tI,.sl false Y2,.sl false tI,.sl false Y3,.v tI,.sl false Y6,.sl false Y7,.sl false Y9,.sl false Y10,.v .bool]
abbrev AFq:BP:= .mem [.v tI,.v tI,.v tI,.v tI,.v .str]
abbrev AAf:BP:= .mem [.v tI,.v tI,.sl false tI,.sl false Y1,.v .bool,.sl false (.sl tI)]
abbrev ALM:BP:= .mem [.v tI,.sl false Y5]
abbrev M8:BP:= .sl 9 Y1
abbrev qm:BP:= .sl 9 (.sl tI)
abbrev AKD:BP:= .mem [.ref 2,.v tI,.ref 3,.ref 4,.ref 5,.v tI,.ref 6,.ref 7,.ref 8,.ref 9,.v .bool]
abbrev AEf:BP:= .mem [.ref 11,.v tI,.ref 12,.ref 13,.ref 14,.v tI,.ref 15,.ref 16,.ref 17,.ref 18,.v .bool]
abbrev DS:BP:= .sl 1 tI
abbrev Wf:BP:= .sl 2 Y2
abbrev K_:BP:= .sl 2 Y3
abbrev RD:BP:= .sl 3 Y6
abbrev TG:BP:= .sl 3 Y7
abbrev QC:BP:= .sl 2 Y9
abbrev Kk:BP:= .sl 1 Y10
abbrev P1:BP:= .gone
abbrev sK:BP:= .mem [.ref 0,.v tI,.ref 1,.ref 2,.ref 3,.v tI,.ref 4,.ref 5,.ref 6,.ref 7,.v .bool]
abbrev sI:BP:= .mem [.ref 10,.v tI,.ref 11,.ref 12,.ref 13,.v tI,.ref 14,.ref 15,.ref 16,.ref 17,.v .bool]
abbrev AXq:BP:= .mem [.v tI,.v .str,.v .bool]
abbrev ACr:BP:= .mem [.v tI,.v tI,.v .bool,.v .str]
abbrev AQ5:BP:= .mem [.sl false Y1,.sl false Y1,.v tI]
abbrev AM4:BP:= .mem [.ref 2,.ref 3,.v tI]
abbrev AOp:BP:= .mem [.ref 5,.ref 6,.v tI]
abbrev Vs:BP:= .sl 1 Y2
abbrev oI:BP:= .sl 1 Y6
abbrev zW:BP:= .mem [.sl true Y1,.sl true Y1,.v tI]
abbrev AVk:BP:= .mem [.v tI,.v tI,.ref 1,.ref 2,.v .bool,.ref 3]
abbrev AUq:BP:= .mem [.v tI,.v tI,.ref 5,.ref 6,.v .bool,.ref 7]
abbrev AVC:BP:= .mem [.v tI,.v tI,.ref 3,.ref 4,.v .bool,.ref 5]
abbrev AUm:BP:= .mem [.v tI,.v tI,.ref 7,.ref 8,.v .bool,.ref 9]
abbrev AXM:BP:= .mem [.v tI,.v tI,.sl false Y8]
abbrev AVm:BP:= .mem [.sl true tI,.v tI,.sl true Y2,.sl true tI,.sl true Y3,.v tI,.sl true Y6,.sl true Y7,.sl true Y9,.sl true Y10,.v .bool]
abbrev sk:BP:= .mem [.ref 1,.v tI,.ref 2,.ref 3,.ref 4,.v tI,.ref 5,.ref 6,.ref 7,.ref 8,.v .bool]
abbrev AO9:BP:= .mem [.ref 1,.v tI,.ref 2,.ref 9,.ref 4,.v tI,.ref 5,.ref 6,.ref 7,.ref 8,.v .bool]
abbrev su:BP:= .sl 1 Y9
abbrev oN:List (Nat×XP):=[(0,BK)]
abbrev AJa:List (Nat×XP):=[(1,J7),(3,BK)]
abbrev ADv:List (Nat×XP):=[(0,o_)]
abbrev ALu:List (Nat×XP):=[(0,xP6)]
abbrev AX8:List (Nat×XP):=[(0,.agg [.v tI,.v tI,.v tI,.v tI,.v .str])]
abbrev AW6:List (Nat×XP):=[(2,J7),(3,aR),(5,BK),(6,BK)]
abbrev AXG:List (Nat×XP):=[(1,J7),(2,aR),(3,.c (.ptr 3 0)),(4,BK)]
abbrev AR6:List (Nat×XP):=[(0,ATj)]
abbrev AVx:List (Nat×XP):=[(0,.Mo [.inr [.ref 0,.ref 1,.v tI],.inl (.v .bool)])]
abbrev AO5:List (Nat×XP):=[(0,.Mo [.inr [.ref 0,.v tI,.ref 1,.ref 2,.ref 3,.v tI,.ref 4,.ref 5,.ref 6,.ref 7,.v .bool],.inl (.v tI)])]
abbrev AWE:List (Nat×XP):=[(0,.Mo [.inr [.v tI,.ref 0],.inl (.v .bool)])]
abbrev AQI:List (Nat×XP):=[(0,.Mo [.inr [.v tI,.v tI,.ref 0,.ref 1,.v .bool,.ref 2],.inl (.v .bool)])]
abbrev AU4:List (Nat×XP):=[(0,.Mo [.inr [.ref 0,.v tI,.ref 1,.ref 8,.ref 3,.v tI,.ref 4,.ref 5,.ref 6,.ref 7,.v .bool],.inl (.v tI)])]
abbrev AVu:List (Nat×XP):=[(0,.Mo [.inr [.ref 1,.ref 2,.v tI],.inl (.v .bool)])]
abbrev AYH:List (Nat×XP):=[(0,.Mo [.inr [.v tI,.v tI,.ref 0],.inl (.v tI)])]
abbrev AWT:List (Nat×XP):=[(0,J7),(1,BK),(2,BK)]
abbrev sY:List BP:=[wm]
abbrev AVy:List BP:=[wm,Fc]
abbrev APQ:List BP:=[vO]
abbrev AWC:List BP:=[Fc,Z7,Fc,TF,aB,Zz,Z0,Vp]
abbrev wB:List BP:=[Fc]
abbrev AWn:List BP:=[wm,vO,Fc]
abbrev sG:List BP:=[AEW]
abbrev AWG:List BP:=[vO,APo]
abbrev AXw:List BP:=[vO,ALM]
abbrev APR:List BP:=[vO,AAf]
abbrev AV5:List BP:=[Fc,M8,qm]
abbrev AGI:List BP:=[AAf,.mem [.v tI,.v tI,.ref 2,.ref 3,.v .bool,.ref 4],Fc,M8,qm,.mem [.v tI,.v tI,.ref 6,.ref 7,.v .bool,.ref 8],Fc,M8,qm]
abbrev dA:List BP:=[AEW,AKD,Fc,Z7,Fc,TF,aB,Zz,Z0,Vp,AEf,Fc,Z7,Fc,TF,aB,Zz,Z0,Vp]
abbrev AG9:List BP:=[DS,Wf,DS,K_,RD,TG,QC,Kk]
abbrev AON:List BP:=[DS,Vs,DS,K_,oI,.sl 1 Y7,QC,Kk]
abbrev ACA:List BP:=[DS,Vs,DS,K_,oI,TG,QC,Kk,sK,sI,Fc,Z7,Fc,TF,aB,Zz,Z0,Vp,zW,.mem [.v tI,.sl true Y5]]
abbrev ANR:List BP:=[.mem [.v tI,.ref 1],.sl 9 Y5,.mem [.v tI,.ref 3],.sl 9 Y5]
abbrev AN5:List BP:=[AVk,Fc,M8,qm,AUq,Fc,M8,qm]
abbrev ANd:List BP:=[DS,Wf,DS,K_,RD,TG,QC,Kk,.mem [.ref 0,.v tI,.ref 1,.ref 9,.ref 3,.v tI,.ref 4,.ref 5,.ref 6,.ref 7,.v .bool],Fc,AFq,.mem [.ref 12,.v tI,.ref 13,.ref 14,.ref 15,.v tI,.ref 16,.ref 17,.ref 18,.ref 19,.v .bool],Fc,Z7,Fc,TF,aB,Zz,Z0,Vp]
abbrev ANj:List BP:=[Vs,AM4,M8,M8,AOp,M8,M8,Vs]
abbrev ANA:List BP:=[vO,Fc]
abbrev gM:List BP:=[sk,DS,Wf,DS,K_,RD,TG,QC,Kk]
abbrev uT:List BP:=[.sl 1 Y1]
abbrev ANf:List BP:=[AO9,DS,Wf,DS,K_,RD,TG,QC,Kk,DS]
abbrev ANc:List BP:=[.mem [.v tI,.v tI,.ref 1],.sl 1 Y8]
abbrev ANW:List BP:=[sk,DS,Wf,DS,K_,RD,TG,su,Kk]
abbrev ACQ:List BP:=[sk,DS,Vs,DS,K_,RD,.sl 2 Y7,su,Kk,Vp]
abbrev CV:Bh:=⟨[(0,xP0)],[]⟩
abbrev AFl:Bh:=⟨[(0,.c (.sl true tU))],[]⟩
abbrev AFQ:Bh:=⟨[(0,J7)],sY⟩
abbrev Ft:Bh:=⟨oN,[]⟩
abbrev AG1:Bh:=⟨oN,sY⟩
abbrev AEn:Bh:=⟨[(0,J7),(1,BK)],sY⟩
abbrev ANX:Bh:=⟨[(0,BK),(1,BK),(2,BK)],[]⟩
abbrev AB0:Bh:=⟨[(0,sn)],[]⟩
abbrev nG:Bh:=⟨[(0,sn),(1,cV)],[]⟩
abbrev ABw:Bh:=⟨[(0,.agg [.v tI,.v tI,.ref 0])],[.sl 9 Y8]⟩
abbrev mw:Bh:=⟨[(0,BK),(1,BK)],[]⟩
abbrev nF:Bh:=⟨[(0,cV),(1,BK)],[]⟩
abbrev gZ:Bh:=⟨ADv,wB⟩
abbrev AOM:Bh:=⟨[(0,J7),(1,sn)],sY⟩
abbrev ANv:Bh:=⟨ALu,AVy⟩
abbrev ABT:Bh:=⟨[(0,.row Y4)],[]⟩
abbrev AOC:Bh:=⟨[(0,.row Y4),(1,BK)],[]⟩
abbrev AGr:Bh:=⟨[(0,J7),(1,.row Y11)],sY⟩
abbrev AGQ:Bh:=⟨AX8,sY⟩
abbrev AFg:Bh:=⟨[(0,r8),(1,BK)],[]⟩
abbrev ABX:Bh:=⟨[(0,r8)],[]⟩
abbrev nD:Bh:=⟨[(0,.row Y2)],[]⟩
abbrev bV:Bh:=⟨[(0,.row Y11)],[]⟩
abbrev ANS:Bh:=⟨AJa,sG⟩
abbrev AHB:Bh:=⟨[(0,sn),(1,.row Y4)],[]⟩
abbrev AEt:Bh:=⟨[(0,sn),(1,.row Y6)],[]⟩
abbrev yH:Bh:=⟨[(0,.row Y7)],[]⟩
abbrev xG:Bh:=⟨[(0,sn),(1,.row Y7)],[]⟩
abbrev ANI:Bh:=⟨[(2,J7),(3,aR),(5,BK)],APR⟩
abbrev ABc:Bh:=⟨[(0,.row Y9)],[]⟩
abbrev AGh:Bh:=⟨[(0,.row Y12)],[]⟩
abbrev AGG:Bh:=⟨[(0,.agg [.ref 0,.v tI])],[TF]⟩
abbrev AGC:Bh:=⟨[(0,.agg [.ref 0,.ref 1,.v tI])],[M8,M8]⟩
abbrev AA_:Bh:=⟨[(0,.row Y6)],[]⟩
abbrev AF8:Bh:=⟨[(0,.agg [.v tI,.ref 0])],[.sl 9 Y5]⟩
abbrev xF:Bh:=⟨[(0,.agg [.v tI,.v tI,.ref 0,.ref 1,.v .bool,.ref 2])],AV5⟩
abbrev AN1:Bh:=⟨AR6,AWC⟩
abbrev AN8:Bh:=⟨[(0,sn),(1,.row Y4),(2,cV)],[]⟩
abbrev ANx:Bh:=⟨[(0,.Mo [.inr [.ref 0,.v tI],.inl (.v tI),.inl (.v .bool)])],[TF]⟩
abbrev cu:Bh:=⟨[(0,ATj),(1,.row Y12)],AG9⟩
abbrev tP:Bh:=⟨[(0,.row Y11),(1,BK)],[]⟩
abbrev ANu:Bh:=⟨[(0,sn),(1,.row Y6),(2,.c (.v .str))],[]⟩
abbrev AOG:Bh:=⟨[(0,.Mo [.inr [.v tI,.ref 0],.inl (.v tI),.inl (.v .bool)])],[.sl 9 Y5]⟩
abbrev AG_:Bh:=⟨[(0,.row Y2),(1,.row Y1)],[]⟩
abbrev uQ:Bh:=⟨AVx,[M8,M8]⟩
abbrev uC:Bh:=⟨AO5,AG9⟩
abbrev AN2:Bh:=⟨[(0,.row Y1),(1,.row Y1)],[]⟩
abbrev ANC:Bh:=⟨[(0,.agg [.v tI,.v tI,.v .bool,.v .str])],[]⟩
abbrev xn:Bh:=⟨ADv,[M8]⟩
abbrev kJ:Bh:=⟨[(0,.row Y2),(1,BK)],[]⟩
abbrev AOB:Bh:=⟨[(1,BK),(2,J7),(4,aR),(6,AAk),(7,BK)],[AQ5,AM4,M8,M8,AOp,M8,M8]⟩
abbrev yg:Bh:=⟨[(0,.Mo [.inr [.v tI,.v tI,.v .bool,.v .str],.inl (.v .bool)])],[]⟩
abbrev ANk:Bh:=⟨[(0,sn),(1,.row Y6),(2,BK),(3,BK)],[]⟩
abbrev ANB:Bh:=⟨AWE,[.sl 9 Y5]⟩
abbrev rO:Bh:=⟨[(0,.Mo [.inl (.v tI),.inl (.v .bool)])],[]⟩
abbrev ANi:Bh:=⟨[(0,.row Y7),(1,BK)],[]⟩
abbrev ANt:Bh:=⟨[(0,sn),(1,.row Y7),(2,BK),(3,BK)],[]⟩
abbrev yL:Bh:=⟨AQI,AV5⟩
abbrev ANr:Bh:=⟨AO5,AON⟩
abbrev AEb:Bh:=⟨[(0,cV),(1,cV)],[]⟩
abbrev AOI:Bh:=⟨[(0,sn),(1,.row Y6),(2,BK)],[]⟩
abbrev ANO:Bh:=⟨[(0,sn),(1,.row Y7),(2,BK)],[]⟩
abbrev ANq:Bh:=⟨[(0,sn),(1,o_),(2,cV),(3,BK),(4,BK)],[Wf]⟩
abbrev AEZ:Bh:=⟨AR6,AG9⟩
abbrev AN6:Bh:=⟨[(0,sn),(1,.row Y7),(2,BK),(3,r8)],[]⟩
abbrev AF0:Bh:=⟨[(0,sn),(1,cV),(2,cV)],[]⟩
abbrev ANh:Bh:=⟨[(0,sn),(1,.row Y7),(2,cV)],[]⟩
abbrev ANp:Bh:=⟨[(0,sn),(1,.row Y4),(2,BK),(3,BK)],[]⟩
abbrev ABF:Bh:=⟨[(0,.Mo [.inr [.ref 0,.v tI],.inl (.v .bool)])],[TF]⟩
abbrev AN0:Bh:=⟨[(0,sn),(1,.row Y4),(2,BK)],[]⟩
abbrev ANy:Bh:=⟨[(0,sn),(1,.row Y4),(2,BK),(3,.row Y9),(4,tE)],[]⟩
abbrev ANH:Bh:=⟨[(0,.row Y11),(1,.row Y12)],[]⟩
abbrev ANw:Bh:=⟨ALu,[P1,DS]⟩
abbrev AFe:Bh:=⟨ADv,[DS]⟩
abbrev ABi:Bh:=⟨[(0,xS),(1,BK)],[]⟩
abbrev y_:Bh:=⟨[(0,xS)],[]⟩
abbrev tq:Bh:=⟨[(0,J7),(1,BK)],gM⟩
abbrev q9:Bh:=⟨oN,gM⟩
abbrev ANL:Bh:=⟨[(0,J7),(1,.row Y12)],gM⟩
abbrev AOF:Bh:=⟨ALu,[P1,.sl 1 Y1]⟩
abbrev ABd:Bh:=⟨AVx,[.sl 1 Y1,M8]⟩
abbrev AN3:Bh:=⟨AWE,[.sl 2 Y5]⟩
abbrev ABj:Bh:=⟨AWT,gM⟩
abbrev ANF:Bh:=⟨[(0,.Mo [])],gM⟩
abbrev AE4:Bh:=⟨[(0,J7),(1,BK),(2,BK),(6,BK)],gM⟩
abbrev AOJ:Bh:=⟨AQI,[Fc,M8,.sl 2 (.sl tI)]⟩
abbrev AGn:Bh:=⟨[(0,J7)],gM⟩
abbrev AND:Bh:=⟨[(0,.Mo [])],[.mem [.v tI,.v tI,.ref 2],P1,.sl 1 Y8]⟩
abbrev AN7:Bh:=⟨[(0,.Mo [.inl (.v .str),.inl (.v .bool)])],[]⟩
abbrev ANT:Bh:=⟨[(1,J7),(10,qi),(11,BK),(12,BK)],sG⟩
abbrev i9:Bh:=⟨[(0,.c (.sl false tU))],[]⟩
abbrev o9:Bh:=CV
def s9:SQ:=mk Tryz.func9 i9 o9 Xn [] [] []
def s38:SQ:=mk Tryz.func38 AFl AFQ cT [] [] [⟨3,⟨[(0,.c (.sl true tU)),(3,BK),(4,BK)],[]⟩,QI⟩]
def s39:SQ:=mk Tryz.func39 ⟨[(0,.c (.sl false tU)),(1,BK),(2,BK)],[]⟩ Ft ZF [] [] []
def AaK:SQ:=mk Tryz.func155 AFQ AG1 MK [] [(2,[0]),(3,[0]),(4,[0])] []
def s63:SQ:=mk Tryz.func63 AEn AG1 An [AaK] [] []
def s62:SQ:=mk Tryz.func62 AEn ⟨[(0,xP0)],sY⟩ CB [s63] [] []
def s81:SQ:=mk Tryz.func81 AFQ ⟨[(0,.agg [.ref 1,.v tI])],AVy⟩ PJ [s62,s63] [(6,[1,2])] [⟨4,⟨[(0,J7),(2,aR),(3,.c (.ptr 3 0)),(4,BK),(5,BK)],[wm,.mem [.ref 2,.v tI],Fc,.mem [.ref 4,.v tI],Fc]⟩,Ik⟩] (hJ:= .cons (fun _=>rfl) (fun n v ω=>by rcases ω with _|⟨_|_,_|⟨_|_,_⟩⟩<;>kernel_rfl) (.nil))
def Yc:SQ:=mk Tryz.func129 ANX CV CN [] [] []
abbrev i167:Bh:=AB0
abbrev AcM:Bh:=CV
def wz:SQ:=mk Tryz.func167 i167 AcM Gg [Yc] [] [⟨4,⟨AJa,APQ⟩,Ll⟩]
def AUo:SQ:=mk Tryz.func163 ⟨[(0,cV),(1,BK),(2,BK)],[]⟩ CV XE [Yc] [] [⟨2,⟨[(0,cV),(1,BK),(2,BK),(7,BK)],[]⟩,NL⟩]
def AAJ:SQ:=mk Tryz.func165 nG CV G7 [AUo,wz] [] []
def AXk:SQ:=mk Tryz.func166 nG Ft VI [] [(6,[0,1])] [⟨4,⟨[(1,cV),(2,J7),(5,xP6),(6,BK),(7,BK)],[vO,.sl 9 .bool]⟩,Oj⟩]
abbrev i82:Bh:=nG
abbrev o82:Bh:=CV
def s82:SQ:=mk Tryz.func82 i82 o82 Fa [AAJ,AXk] [(1,[0])] []
abbrev i168:Bh:=⟨[],[]⟩
abbrev Aci:Bh:=ABw
def AXS:SQ:=mk Tryz.func168 i168 Aci YC [] [] []
abbrev i83:Bh:=AB0
abbrev o83:Bh:=⟨[(0,.Mo [.inr [.ref 0,.v tI,.ref 1,.ref 2,.ref 3,.v tI,.ref 4,.ref 5,.ref 6,.ref 7,.v .bool],.inl (.v .bool)])],AWC⟩
def c83:RC:=⟨i83,o83,(i83.un Hp)⟩
def C83:ba:=⟨T,Rm (SP.l [wz,AXS]),Cb [(3,[0,1]),(4,[0,4])]⟩
def L83:List (Lp o83):=[]
def BQ(ω:List Bool):Prop:= ∀(n:Nat) (v:i83.V),DY C83 c83 Tryz.f83 (MZ 0 L83 n) ω v=i83.un (Hp) v
theorem AVp:BQ []:=by delta BQ;intros;kernel_rfl
theorem AVO:BQ (false::[]):=by delta BQ;intros;kernel_rfl
theorem AXo:BQ (false::false::[]):=by delta BQ;intros;kernel_rfl
theorem AVM:BQ (false::false::false::[]):=by delta BQ;intros;kernel_rfl
theorem AXA:BQ (false::false::false::false::[]):=by delta BQ;intros;kernel_rfl
theorem AW4:BQ (false::false::false::false::false::[]):=by delta BQ;intros;kernel_rfl
theorem AYC:BQ (false::false::false::false::false::false::[]):=by delta BQ;intros;kernel_rfl
theorem AVR:BQ (false::false::false::false::false::false::false::[]):=by delta BQ;intros;kernel_rfl
theorem AVo(ω:List Bool):BQ (false::false::false::false::false::false::false::false::ω):=by delta BQ;intros;kernel_rfl
theorem APy(ω:List Bool):BQ (false::false::false::false::false::false::false::true::ω):=by delta BQ;intros;kernel_rfl
theorem ATW:BQ (false::false::false::false::false::false::true::[]):=by delta BQ;intros;kernel_rfl
theorem AQQ(ω:List Bool):BQ (false::false::false::false::false::false::true::false::ω):=by delta BQ;intros;kernel_rfl
theorem AQW(ω:List Bool):BQ (false::false::false::false::false::false::true::true::ω):=by delta BQ;intros;kernel_rfl
theorem ASf:BQ (false::false::false::false::false::true::[]):=by delta BQ;intros;kernel_rfl
theorem APk(ω:List Bool):BQ (false::false::false::false::false::true::false::ω):=by delta BQ;intros;kernel_rfl
theorem ARB(ω:List Bool):BQ (false::false::false::false::false::true::true::ω):=by delta BQ;intros;kernel_rfl
theorem ASK:BQ (false::false::false::false::true::[]):=by delta BQ;intros;kernel_rfl
theorem ASu:BQ (false::false::false::false::true::false::[]):=by delta BQ;intros;kernel_rfl
theorem APE(ω:List Bool):BQ (false::false::false::false::true::false::false::ω):=by delta BQ;intros;kernel_rfl
theorem APp(ω:List Bool):BQ (false::false::false::false::true::false::true::ω):=by delta BQ;intros;kernel_rfl
theorem AQY(ω:List Bool):BQ (false::false::false::false::true::true::ω):=by delta BQ;intros;kernel_rfl
theorem APZ:BQ (false::false::false::true::[]):=by delta BQ;intros;kernel_rfl
theorem AO3:BQ (false::false::false::true::false::[]):=by delta BQ;intros;kernel_rfl
theorem ASR(ω:List Bool):BQ (false::false::false::true::false::false::ω):=by delta BQ;intros;kernel_rfl
theorem ASH(ω:List Bool):BQ (false::false::false::true::false::true::ω):=by delta BQ;intros;kernel_rfl
theorem AQB(ω:List Bool):BQ (false::false::false::true::true::ω):=by delta BQ;intros;kernel_rfl
theorem AR8:BQ (false::false::true::[]):=by delta BQ;intros;kernel_rfl
theorem AQ3:BQ (false::false::true::false::[]):=by delta BQ;intros;kernel_rfl
theorem ASJ:BQ (false::false::true::false::false::[]):=by delta BQ;intros;kernel_rfl
theorem AQl(ω:List Bool):BQ (false::false::true::false::false::false::ω):=by delta BQ;intros;kernel_rfl
theorem AOj(ω:List Bool):BQ (false::false::true::false::false::true::ω):=by delta BQ;intros;kernel_rfl
theorem ARJ(ω:List Bool):BQ (false::false::true::false::true::ω):=by delta BQ;intros;kernel_rfl
theorem APi(ω:List Bool):BQ (false::false::true::true::ω):=by delta BQ;intros;kernel_rfl
theorem ARF:BQ (false::true::[]):=by delta BQ;intros;kernel_rfl
theorem AQe:BQ (false::true::false::[]):=by delta BQ;intros;kernel_rfl
theorem AO4:BQ (false::true::false::false::[]):=by delta BQ;intros;kernel_rfl
theorem AQf(ω:List Bool):BQ (false::true::false::false::false::ω):=by delta BQ;intros;kernel_rfl
theorem ASA(ω:List Bool):BQ (false::true::false::false::true::ω):=by delta BQ;intros;kernel_rfl
theorem AQd(ω:List Bool):BQ (false::true::false::true::ω):=by delta BQ;intros;kernel_rfl
theorem APV(ω:List Bool):BQ (false::true::true::ω):=by delta BQ;intros;kernel_rfl
theorem ATT:BQ (true::[]):=by delta BQ;intros;kernel_rfl
theorem APB:BQ (true::false::[]):=by delta BQ;intros;kernel_rfl
theorem AP6:BQ (true::false::false::[]):=by delta BQ;intros;kernel_rfl
theorem AQn:BQ (true::false::false::false::[]):=by delta BQ;intros;kernel_rfl
theorem ARr:BQ (true::false::false::false::false::[]):=by delta BQ;intros;kernel_rfl
theorem AQN:BQ (true::false::false::false::false::false::[]):=by delta BQ;intros;kernel_rfl
theorem AUB:BQ (true::false::false::false::false::false::false::[]):=by delta BQ;intros;kernel_rfl
theorem ATz:BQ (true::false::false::false::false::false::false::false::[]):=by delta BQ;intros;kernel_rfl
theorem ASM(ω:List Bool):BQ (true::false::false::false::false::false::false::false::false::ω):=by delta BQ;intros;kernel_rfl
theorem AOa(ω:List Bool):BQ (true::false::false::false::false::false::false::false::true::ω):=by delta BQ;intros;kernel_rfl
theorem AR3:BQ (true::false::false::false::false::false::false::true::[]):=by delta BQ;intros;kernel_rfl
theorem ARG(ω:List Bool):BQ (true::false::false::false::false::false::false::true::false::ω):=by delta BQ;intros;kernel_rfl
theorem AR1(ω:List Bool):BQ (true::false::false::false::false::false::false::true::true::ω):=by delta BQ;intros;kernel_rfl
theorem AOt:BQ (true::false::false::false::false::false::true::[]):=by delta BQ;intros;kernel_rfl
theorem AQU(ω:List Bool):BQ (true::false::false::false::false::false::true::false::ω):=by delta BQ;intros;kernel_rfl
theorem ARq(ω:List Bool):BQ (true::false::false::false::false::false::true::true::ω):=by delta BQ;intros;kernel_rfl
theorem AR2:BQ (true::false::false::false::false::true::[]):=by delta BQ;intros;kernel_rfl
theorem AS2:BQ (true::false::false::false::false::true::false::[]):=by delta BQ;intros;kernel_rfl
theorem ATo(ω:List Bool):BQ (true::false::false::false::false::true::false::false::ω):=by delta BQ;intros;kernel_rfl
theorem ARW(ω:List Bool):BQ (true::false::false::false::false::true::false::true::ω):=by delta BQ;intros;kernel_rfl
theorem ATK(ω:List Bool):BQ (true::false::false::false::false::true::true::ω):=by delta BQ;intros;kernel_rfl
theorem AUC:BQ (true::false::false::false::true::[]):=by delta BQ;intros;kernel_rfl
theorem ASq:BQ (true::false::false::false::true::false::[]):=by delta BQ;intros;kernel_rfl
theorem ASL(ω:List Bool):BQ (true::false::false::false::true::false::false::ω):=by delta BQ;intros;kernel_rfl
theorem AQC(ω:List Bool):BQ (true::false::false::false::true::false::true::ω):=by delta BQ;intros;kernel_rfl
theorem AQR(ω:List Bool):BQ (true::false::false::false::true::true::ω):=by delta BQ;intros;kernel_rfl
theorem AQc:BQ (true::false::false::true::[]):=by delta BQ;intros;kernel_rfl
theorem AOo:BQ (true::false::false::true::false::[]):=by delta BQ;intros;kernel_rfl
theorem AP2:BQ (true::false::false::true::false::false::[]):=by delta BQ;intros;kernel_rfl
theorem APC(ω:List Bool):BQ (true::false::false::true::false::false::false::ω):=by delta BQ;intros;kernel_rfl
theorem AP3(ω:List Bool):BQ (true::false::false::true::false::false::true::ω):=by delta BQ;intros;kernel_rfl
theorem ARg(ω:List Bool):BQ (true::false::false::true::false::true::ω):=by delta BQ;intros;kernel_rfl
theorem AQJ(ω:List Bool):BQ (true::false::false::true::true::ω):=by delta BQ;intros;kernel_rfl
theorem ARX:BQ (true::false::true::[]):=by delta BQ;intros;kernel_rfl
theorem ASp:BQ (true::false::true::false::[]):=by delta BQ;intros;kernel_rfl
theorem APY:BQ (true::false::true::false::false::[]):=by delta BQ;intros;kernel_rfl
theorem APO(ω:List Bool):BQ (true::false::true::false::false::false::ω):=by delta BQ;intros;kernel_rfl
theorem AP1(ω:List Bool):BQ (true::false::true::false::false::true::ω):=by delta BQ;intros;kernel_rfl
theorem AQH(ω:List Bool):BQ (true::false::true::false::true::ω):=by delta BQ;intros;kernel_rfl
theorem ATl(ω:List Bool):BQ (true::false::true::true::ω):=by delta BQ;intros;kernel_rfl
theorem ATP:BQ (true::true::[]):=by delta BQ;intros;kernel_rfl
theorem ASU:BQ (true::true::false::[]):=by delta BQ;intros;kernel_rfl
theorem AO8:BQ (true::true::false::false::[]):=by delta BQ;intros;kernel_rfl
theorem AQ6(ω:List Bool):BQ (true::true::false::false::false::ω):=by delta BQ;intros;kernel_rfl
theorem AQz(ω:List Bool):BQ (true::true::false::false::true::ω):=by delta BQ;intros;kernel_rfl
theorem AQD(ω:List Bool):BQ (true::true::false::true::ω):=by delta BQ;intros;kernel_rfl
theorem AQ8(ω:List Bool):BQ (true::true::true::ω):=by delta BQ;intros;kernel_rfl
theorem e83(n:Nat)(ω:List Bool)(v:i83.V):DY C83 c83 Tryz.f83 (MZ 0 L83 n) ω v=i83.un (Hp) v:=(AG AVp (AG AVO (AG AXo (AG AVM (AG AXA (AG AW4 (AG AYC (AG AVR AVo APy) (AG ATW AQQ AQW)) (AG ASf APk ARB)) (AG ASK (AG ASu APE APp) AQY)) (AG APZ (AG AO3 ASR ASH) AQB)) (AG AR8 (AG AQ3 (AG ASJ AQl AOj) ARJ) APi)) (AG ARF (AG AQe (AG AO4 AQf ASA) AQd) APV)) (AG ATT (AG APB (AG AP6 (AG AQn (AG ARr (AG AQN (AG AUB (AG ATz ASM AOa) (AG AR3 ARG AR1)) (AG AOt AQU ARq)) (AG AR2 (AG AS2 ATo ARW) ATK)) (AG AUC (AG ASq ASL AQC) AQR)) (AG AQc (AG AOo (AG AP2 APC AP3) ARg) AQJ)) (AG ARX (AG ASp (AG APY APO AP1) AQH) ATl)) (AG ATP (AG ASU (AG AO8 AQ6 AQz) AQD) AQ8))) ω n v
def s83:SQ:=mk Tryz.func83 i83 o83 Hp [wz,AXS] [(3,[0,1]),(4,[0,4])] L83 (hJ:= .nil) (he:=e83 Ae)
def AE2:SQ:=mk Tryz.func225 mw Ft MS [] [] []
abbrev jB:Bh:=nF
abbrev xz:Bh:=CV
def oR:SQ:=mk Tryz.func180 jB xz DV [] [] [⟨2,⟨[(0,cV),(1,BK),(5,BK)],[]⟩,QN⟩]
def AC4:SQ:=mk Tryz.func164 nF gZ Ma [oR] [] [⟨4,⟨[(0,cV),(1,BK),(5,o_),(6,xP0),(7,BK)],wB⟩,Kw⟩]
def AZa:SQ:=mk Tryz.func241 ⟨[(0,J7),(1,cV)],sY⟩ AG1 Og [s63] [] []
def Ab_:SQ:=mk Tryz.func147 AOM ANv Pj [s62,s63,AC4,AE2,AZa] [] [⟨4,⟨[(0,J7),(3,aR),(5,.c (.ref 2)),(6,BK),(7,BK)],AWn⟩,Ih⟩]
def s77:SQ:=mk Tryz.func77 AOM ANv LR [s82,Ab_,AC4] [] [⟨3,⟨[(3,aR),(5,.c (.ref 2)),(6,BK)],AWn⟩,Ka⟩]
def s76:SQ:=mk Tryz.func76 ⟨[(0,cV)],[]⟩ Ft Lo [AUo] [] [⟨5,⟨[(0,cV),(3,BK),(4,BK)],[]⟩,KY⟩]
def AL8:SQ:=mk Tryz.func169 ABT Ft Jc [] [] [⟨2,⟨AJa,[APo]⟩,IP⟩]
abbrev i69:Bh:=AOC
abbrev o69:Bh:=gZ
def s69:SQ:=mk Tryz.func69 i69 o69 Cn [Yc] [] []
def AZA:SQ:=mk Tryz.func170 AGr AGQ Lh [s62,s63,s69,s82,AE2] [(18,[1,2,3])] [⟨16,⟨[(0,J7),(3,aR),(4,xP8),(5,.c (.ptr 3 0)),(7,BK),(8,BK),(9,BK)],[wm,AEW,AFq,AAf]⟩,GS⟩]
def s64:SQ:=mk Tryz.func64 ⟨[(0,J7),(1,.c (.sl false .str))],sY⟩ ⟨[(0,.c (.v .str))],sY⟩ JD [s63] [] []
def AbY:SQ:=mk Tryz.func250 mw Ft Tz [] [] []
def AZq:SQ:=mk Tryz.func171 AGr AGQ G5 [s62,s63,s64,s69,AbY] [] []
def s84:SQ:=mk Tryz.func84 AGr AGQ Pb [s62,s63,s76,s77,AL8,AZA,AZq] [(16,[1]),(27,[1,2])] []
def AA2:SQ:=mk Tryz.func185 Ft CV Hs [Yc] [] []
abbrev iF:Bh:=Ft
abbrev xU:Bh:=Ft
def qG:SQ:=mk Tryz.func186 iF xU DD [AA2] [] []
def ALn:SQ:=mk Tryz.func255 ⟨[(0,.row Y1)],[]⟩ CV Mg [Yc,AA2,qG] [(1,[0])] []
def AZ6:SQ:=mk Tryz.func253 AFg CV VG [ALn] [] [⟨4,⟨[(0,r8),(5,BK)],[]⟩,L4⟩]
def AUn:SQ:=mk Tryz.func254 ABX CV Xp [] [] [⟨2,⟨[(0,r8),(3,BK)],[]⟩,Gh⟩]
def AAw:SQ:=mk Tryz.func179 nD CV Gy [Yc,AZ6,AUn] [] []
def AbU:SQ:=mk Tryz.func181 nD CV bq [] [] []
def AcP:SQ:=mk Tryz.func106 bV CV Uj [s82,AAJ,wz,AAw,oR,AbU] [] [⟨4,ANS,JV⟩]
abbrev i182:Bh:=AHB
abbrev AVw:Bh:=CV
def ACb:SQ:=mk Tryz.func182 i182 AVw Mn [s82,Yc,wz,AA2,qG] [] [⟨5,⟨AW6,AWG⟩,Kx⟩]
abbrev i183:Bh:=AEt
abbrev AVf:Bh:=CV
def AGd:SQ:=mk Tryz.func183 i183 AVf Hr [s82,Yc,AAJ,wz] [(8,[0,1,2])] [⟨5,⟨AW6,AXw⟩,Lu⟩]
abbrev iY:Bh:=Ft
abbrev yr:Bh:=Ft
def AIe:SQ:=mk Tryz.func280 iY yr He [AA2] [] []
def AU1:SQ:=mk Tryz.func256 yH Ft RO [AIe] [] []
def ADT:SQ:=mk Tryz.func184 xG CV I6 [Yc,AAJ,wz,qG,AUn,ALn,AU1] [(6,[0,1]),(11,[0,1]),(15,[0,1])] [⟨4,ANI,Jl⟩,⟨9,⟨[(2,J7),(3,aR),(6,BK)],APR⟩,H8⟩]
def Acd:SQ:=mk Tryz.func107 bV CV SD [AL8,ACb,AGd,ADT] [(7,[0]),(13,[0,1])] [⟨5,⟨[(1,J7),(3,BK),(4,BK)],sG⟩,G2⟩,⟨10,⟨[(1,J7),(3,BK),(5,BK)],sG⟩,Ez⟩]
def AXb:SQ:=mk Tryz.func108 ABc CV NT [Yc] [] []
def Ab3:SQ:=mk Tryz.func109 bV CV W6 [AA2,qG] [(7,[0,1])] [⟨4,ANS,KQ⟩]
def s52:SQ:=mk Tryz.func52 bV CV Wl [AcP,Acd,AXb,Ab3] [] []
def AaJ:SQ:=mk Tryz.func130 AGh ⟨AX8,[]⟩ Z3 [] [] []
def s58:SQ:=mk Tryz.func58 AGh CV Yo [Yc,AaJ] [(1,[0])] []
abbrev iX:Bh:=ABT
abbrev xy:Bh:=AGG
def ACy:SQ:=mk Tryz.func101 iX xy GR [] [] [⟨3,⟨AXG,[APo,.mem [.ref 2,.v tI],TF,.mem [.ref 4,.v tI],TF]⟩,OW⟩]
abbrev lh:Bh:=nD
abbrev zy:Bh:=AGC
def AC5:SQ:=mk Tryz.func102 lh zy FA [] [(1,[0])] [] (he:=fun ω v=>by rcases ω with _|⟨_|_,_|⟨_|_,_⟩⟩<;>kernel_rfl)
abbrev gn:Bh:=AA_
abbrev w8:Bh:=AF8
def ACT:SQ:=mk Tryz.func103 gn w8 Fj [] [] [⟨3,⟨AXG,[ALM,.mem [.v tI,.ref 2],.sl 9 Y5,.mem [.v tI,.ref 4],.sl 9 Y5]⟩,Ob⟩]
abbrev b_:Bh:=yH
abbrev vF:Bh:=xF
def ATQ:RC:=⟨b_,vF,(b_.un Ec)⟩
def APf:ba:=⟨T,Rm (SP.l ([]:List SQ)),Cb [(1,[0,1]),(5,[0,1,2,3,4,6,7])]⟩
def ALs:List (Lp vF):=[⟨3,⟨[(1,J7),(2,aR),(3,.c (.ptr 5 0)),(4,BK)],AGI⟩,H7⟩]
abbrev zw:Bh:=⟨[(1,J7),(2,aR),(3,.c (.ptr 5 0)),(4,BK)],AGI⟩
theorem ASo(n:Nat)(v:zw.V)(ω:List Bool):Hz APf ATQ Tryz.f104 (MZ 0 ALs n) 3 ω (zw.st 40 v)=zw.un (Sa (H7 n)) v:=by rcases ω with _|⟨_|_,_|⟨_|_,_|⟨_|_,_⟩⟩⟩<;>kernel_rfl
def Di(ω:List Bool):Prop:= ∀(n:Nat) (v:b_.V),DY APf ATQ Tryz.f104 (MZ 0 ALs n) ω v=b_.un (Nv (H7 n)) v
theorem AT5:Di []:=by delta Di;intros;kernel_rfl
theorem AT3:Di (false::[]):=by delta Di;intros;kernel_rfl
theorem AUA:Di (false::false::[]):=by delta Di;intros;kernel_rfl
theorem AS8(ω:List Bool):Di (false::false::false::ω):=by delta Di;intros;kernel_rfl
theorem AOb:Di (false::false::true::[]):=by delta Di;intros;kernel_rfl
theorem APD(ω:List Bool):Di (false::false::true::false::ω):=by delta Di;intros;kernel_rfl
theorem ATh(ω:List Bool):Di (false::false::true::true::ω):=by delta Di;intros;kernel_rfl
theorem AOZ:Di (false::true::[]):=by delta Di;intros;kernel_rfl
theorem AQP(ω:List Bool):Di (false::true::false::ω):=by delta Di;intros;kernel_rfl
theorem AH8:Di (false::true::true::[]):=by delta Di;intros;kernel_rfl
theorem ALG(ω:List Bool):Di (false::true::true::false::ω):=by delta Di;intros;kernel_rfl
theorem AIy:Di (false::true::true::true::[]):=by delta Di;intros;kernel_rfl
theorem AIs(ω:List Bool):Di (false::true::true::true::false::ω):=by delta Di;intros;kernel_rfl
theorem AM2(ω:List Bool):Di (false::true::true::true::true::ω):=by delta Di;intros;kernel_rfl
theorem AJr:Di (true::[]):=by delta Di;intros;kernel_rfl
theorem AH2:Di (true::false::[]):=by delta Di;intros;kernel_rfl
theorem AK8:Di (true::false::false::[]):=by delta Di;intros;kernel_rfl
theorem ALI(ω:List Bool):Di (true::false::false::false::ω):=by delta Di;intros;kernel_rfl
theorem AJJ(ω:List Bool):Di (true::false::false::true::ω):=by delta Di;intros;kernel_rfl
theorem AIj:Di (true::false::true::[]):=by delta Di;intros;kernel_rfl
theorem AM7(ω:List Bool):Di (true::false::true::false::ω):=by delta Di;intros;kernel_rfl
theorem AID:Di (true::false::true::true::[]):=by delta Di;intros;kernel_rfl
theorem AMa(ω:List Bool):Di (true::false::true::true::false::ω):=by delta Di;intros;kernel_rfl
theorem AIC(ω:List Bool):Di (true::false::true::true::true::ω):=by delta Di;intros;kernel_rfl
theorem AHY:Di (true::true::[]):=by delta Di;intros;kernel_rfl
theorem ALo(ω:List Bool):Di (true::true::false::ω):=by delta Di;intros;kernel_rfl
theorem AJc:Di (true::true::true::[]):=by delta Di;intros;kernel_rfl
theorem AMc(ω:List Bool):Di (true::true::true::false::ω):=by delta Di;intros;kernel_rfl
theorem AKk(ω:List Bool):Di (true::true::true::true::ω):=by delta Di;intros;kernel_rfl
theorem Ab2(n:Nat)(ω:List Bool)(v:b_.V):DY APf ATQ Tryz.f104 (MZ 0 ALs n) ω v=b_.un (Nv (H7 n)) v:=(AG AT5 (AG AT3 (AG AUA AS8 (AG AOb APD ATh)) (AG AOZ AQP (AG AH8 ALG (AG AIy AIs AM2)))) (AG AJr (AG AH2 (AG AK8 ALI AJJ) (AG AIj AM7 (AG AID AMa AIC))) (AG AHY ALo (AG AJc AMc AKk)))) ω n v
def ACm:SQ:=mk Tryz.func104 b_ vF Ec [] [(1,[0,1]),(5,[0,1,2,3,4,6,7])] ALs (hJ:= .cons (fun _=>rfl) ASo (.nil)) (he:=Ab2 Ae)
abbrev i105:Bh:=ABc
abbrev zX:Bh:=ABw
def AMQ:SQ:=mk Tryz.func105 i105 zX CY [] [] []
abbrev i51:Bh:=bV
abbrev o51:Bh:=AN1
def c51:RC:=⟨i51,o51,(i51.un PX)⟩
def C51:ba:=⟨T,Rm (SP.l [ACy,AC5,ACT,ACm,AMQ]),Cb [(1,[0,1]),(5,[0,1,2,3,4,5,6,7,8,9,11,13,14,15,16,17,18]),(9,[0,1,2,3,4,5,6,7,8,9,11,12,13,14,16,17,18]),(13,[0,1,2,3,4,5,6,7,8,9,11,12,13,14,15,17,18]),(17,[0,1,2,3,4,5,6,7,8,9,11,12,13,14,15,16,18])]⟩
def L51:List (Lp o51):=[⟨3,⟨[(1,J7),(2,aR),(3,da),(4,BK)],dA⟩,Cl⟩,⟨7,⟨[(1,J7),(2,aR),(3,da),(5,BK)],dA⟩,C1⟩,⟨11,⟨[(1,J7),(2,aR),(3,da),(6,BK)],dA⟩,Cg⟩,⟨15,⟨[(1,J7),(2,aR),(3,da),(7,BK)],dA⟩,Ci⟩]
abbrev tF:Bh:=⟨[(1,J7),(2,aR),(3,da),(4,BK)],dA⟩
abbrev tv:Bh:=⟨[(1,J7),(2,aR),(3,da),(5,BK)],dA⟩
abbrev lj:Bh:=⟨[(1,J7),(2,aR),(3,da),(6,BK)],dA⟩
abbrev lL:Bh:=⟨[(1,J7),(2,aR),(3,da),(7,BK)],dA⟩
theorem AVS(eN:ABy->Option F6)(mE:ACt->Option K3)(eD:ACG->Option Fv)(lZ:ABr->Option Gl)(mG:ADW->Option Js)(n:Nat)(v:tF.V)(ω:List Bool):Hz ⟨T,Rm [(101,⟨iX,xy,iX.un eN⟩),(102,⟨lh,zy,lh.un mE⟩),(103,⟨gn,w8,gn.un eD⟩),(104,⟨b_,vF,b_.un lZ⟩),(105,⟨i105,zX,i105.un mG⟩)],Cb [(1,[0,1]),(5,[0,1,2,3,4,5,6,7,8,9,11,13,14,15,16,17,18]),(9,[0,1,2,3,4,5,6,7,8,9,11,12,13,14,16,17,18]),(13,[0,1,2,3,4,5,6,7,8,9,11,12,13,14,15,17,18]),(17,[0,1,2,3,4,5,6,7,8,9,11,12,13,14,15,16,18])]⟩ c51 Tryz.f51 (MZ 0 L51 n) 3 ω (tF.st 104 v)=tF.un (fun(t4:Int) (AR:AAC) (AE:Int) (Am:AAT) (CE:AAC) (Cd:AAU) (AS:Int) (CZ:ABO) (CS:ABP) (CU:AAq) (C9:AA1) (AK:Bool) (Bn:Int) (EO:Int) (FK:Bool) (b2:AAC) (b3:AAT) (b4:AAC) (b5:AAU) (b6:ABO) (b7:ABP) (b8:AAq) (b9:AA1) (Dy:Int) (Et:Int) (DH:Bool) (GD:AAC) (D6:AAT) (Gk:AAC) (Gi:AAU) (EW:ABO) (Eu:ABP) (Fi:AAq) (TB:AA1)=>
 cond ((decide (t4<(Am.length:Int))))
  (if(0:Int)<=t4/\t4<(Am.length:Int)then(
  (mE ((Am.getD (t4.toNat) ([],[],0,())).1,(Am.getD (t4.toNat) ([],[],0,())).2.1,(Am.getD (t4.toNat) ([],[],0,())).2.2.1,())).bind fun AAu=>
  if D6.length+1<=Go.M.D8 then(
  (Cl n) (Aa (t4+1)) AR AE Am CE Cd AS CZ CS CU C9 AK Bn EO FK b2 b3 b4 b5 b6 b7 b8 b9 Dy Et DH GD (D6++[(AAu.2.1,AAu.2.2.1,AAu.1.1.2.2.1,())]) Gk Gi EW Eu Fi TB)else none)else none)
 ((C1 n) 0 AR AE Am CE Cd AS CZ CS CU C9 AK Bn EO FK b2 b3 b4 b5 b6 b7 b8 b9 Dy Et DH GD D6 Gk Gi EW Eu Fi TB)) v:=by rcases ω with _|⟨_|_,_|⟨_|_,_⟩⟩<;>kernel_rfl
theorem AXX(n:Nat)(v:tF.V)(ω:List Bool):Hz C51 c51 Tryz.f51 (MZ 0 L51 n) 3 ω (tF.st 104 v)=tF.un (Q6 (Cl n) (C1 n) (Cg n) (Ci n)) v:=AVS GR FA Fj Ec CY n v ω
theorem AWY(eN:ABy->Option F6)(mE:ACt->Option K3)(eD:ACG->Option Fv)(lZ:ABr->Option Gl)(mG:ADW->Option Js)(n:Nat)(v:tv.V)(ω:List Bool):Hz ⟨T,Rm [(101,⟨iX,xy,iX.un eN⟩),(102,⟨lh,zy,lh.un mE⟩),(103,⟨gn,w8,gn.un eD⟩),(104,⟨b_,vF,b_.un lZ⟩),(105,⟨i105,zX,i105.un mG⟩)],Cb [(1,[0,1]),(5,[0,1,2,3,4,5,6,7,8,9,11,13,14,15,16,17,18]),(9,[0,1,2,3,4,5,6,7,8,9,11,12,13,14,16,17,18]),(13,[0,1,2,3,4,5,6,7,8,9,11,12,13,14,15,17,18]),(17,[0,1,2,3,4,5,6,7,8,9,11,12,13,14,15,16,18])]⟩ c51 Tryz.f51 (MZ 0 L51 n) 7 ω (tv.st 104 v)=tv.un (fun(t5:Int) (AR:AAC) (AE:Int) (Am:AAT) (CE:AAC) (Cd:AAU) (AS:Int) (CZ:ABO) (CS:ABP) (CU:AAq) (C9:AA1) (AK:Bool) (Bn:Int) (EO:Int) (FK:Bool) (b2:AAC) (b3:AAT) (b4:AAC) (b5:AAU) (b6:ABO) (b7:ABP) (b8:AAq) (b9:AA1) (Dy:Int) (Et:Int) (DH:Bool) (GD:AAC) (D6:AAT) (Gk:AAC) (Gi:AAU) (EW:ABO) (Eu:ABP) (Fi:AAq) (TB:AA1)=>
 cond ((decide (t5<(CZ.length:Int))))
  (if(0:Int)<=t5/\t5<(CZ.length:Int)then(
  (eD ((CZ.getD (t5.toNat) (0,[],())).1,(CZ.getD (t5.toNat) (0,[],())).2.1,())).bind fun AFV=>
  if EW.length+1<=Go.M.D8 then(
  (C1 n) (Aa (t5+1)) AR AE Am CE Cd AS CZ CS CU C9 AK Bn EO FK b2 b3 b4 b5 b6 b7 b8 b9 Dy Et DH GD D6 Gk Gi (EW++[(AFV.1.1.1,AFV.2.1,())]) Eu Fi TB)else none)else none)
 ((Cg n) 0 AR AE Am CE Cd AS CZ CS CU C9 AK Bn EO FK b2 b3 b4 b5 b6 b7 b8 b9 Dy Et DH GD D6 Gk Gi EW Eu Fi TB)) v:=by rcases ω with _|⟨_|_,_|⟨_|_,_⟩⟩<;>kernel_rfl
theorem AXr(n:Nat)(v:tv.V)(ω:List Bool):Hz C51 c51 Tryz.f51 (MZ 0 L51 n) 7 ω (tv.st 104 v)=tv.un (Q4 (Cl n) (C1 n) (Cg n) (Ci n)) v:=AWY GR FA Fj Ec CY n v ω
theorem ARR(eN:ABy->Option F6)(mE:ACt->Option K3)(eD:ACG->Option Fv)(lZ:ABr->Option Gl)(mG:ADW->Option Js)(n:Nat)(v:lj.V)(ω:List Bool):Hz ⟨T,Rm [(101,⟨iX,xy,iX.un eN⟩),(102,⟨lh,zy,lh.un mE⟩),(103,⟨gn,w8,gn.un eD⟩),(104,⟨b_,vF,b_.un lZ⟩),(105,⟨i105,zX,i105.un mG⟩)],Cb [(1,[0,1]),(5,[0,1,2,3,4,5,6,7,8,9,11,13,14,15,16,17,18]),(9,[0,1,2,3,4,5,6,7,8,9,11,12,13,14,16,17,18]),(13,[0,1,2,3,4,5,6,7,8,9,11,12,13,14,15,17,18]),(17,[0,1,2,3,4,5,6,7,8,9,11,12,13,14,15,16,18])]⟩ c51 Tryz.f51 (MZ 0 L51 n) 11 ω (lj.st 104 v)=lj.un (fun(t6:Int) (AR:AAC) (AE:Int) (Am:AAT) (CE:AAC) (Cd:AAU) (AS:Int) (CZ:ABO) (CS:ABP) (CU:AAq) (C9:AA1) (AK:Bool) (Bn:Int) (EO:Int) (FK:Bool) (b2:AAC) (b3:AAT) (b4:AAC) (b5:AAU) (b6:ABO) (b7:ABP) (b8:AAq) (b9:AA1) (Dy:Int) (Et:Int) (DH:Bool) (GD:AAC) (D6:AAT) (Gk:AAC) (Gi:AAU) (EW:ABO) (Eu:ABP) (Fi:AAq) (TB:AA1)=>
 cond ((decide (t6<(CS.length:Int))))
  (if(0:Int)<=t6/\t6<(CS.length:Int)then(
  (lZ ((CS.getD (t6.toNat) (0,0,[],[],false,[],())).1,(CS.getD (t6.toNat) (0,0,[],[],false,[],())).2.1,(CS.getD (t6.toNat) (0,0,[],[],false,[],())).2.2.1,(CS.getD (t6.toNat) (0,0,[],[],false,[],())).2.2.2.1,(CS.getD (t6.toNat) (0,0,[],[],false,[],())).2.2.2.2.1,(CS.getD (t6.toNat) (0,0,[],[],false,[],())).2.2.2.2.2.1,())).bind fun mM=>
  if Eu.length+1<=Go.M.D8 then(
  (Cg n) (Aa (t6+1)) AR AE Am CE Cd AS CZ CS CU C9 AK Bn EO FK b2 b3 b4 b5 b6 b7 b8 b9 Dy Et DH GD D6 Gk Gi EW (Eu++[(mM.1.1.1,mM.1.1.2.1,mM.2.1,mM.2.2.1,mM.1.1.2.2.2.2.1,mM.2.2.2.1,())]) Fi TB)else none)else none)
 ((Ci n) 0 AR AE Am CE Cd AS CZ CS CU C9 AK Bn EO FK b2 b3 b4 b5 b6 b7 b8 b9 Dy Et DH GD D6 Gk Gi EW Eu Fi TB)) v:=by rcases ω with _|⟨_|_,_|⟨_|_,_⟩⟩<;>kernel_rfl
theorem AOg(n:Nat)(v:lj.V)(ω:List Bool):Hz C51 c51 Tryz.f51 (MZ 0 L51 n) 11 ω (lj.st 104 v)=lj.un (Pz (Cl n) (C1 n) (Cg n) (Ci n)) v:=ARR GR FA Fj Ec CY n v ω
theorem ARa(eN:ABy->Option F6)(mE:ACt->Option K3)(eD:ACG->Option Fv)(lZ:ABr->Option Gl)(mG:ADW->Option Js)(n:Nat)(v:lL.V)(ω:List Bool):Hz ⟨T,Rm [(101,⟨iX,xy,iX.un eN⟩),(102,⟨lh,zy,lh.un mE⟩),(103,⟨gn,w8,gn.un eD⟩),(104,⟨b_,vF,b_.un lZ⟩),(105,⟨i105,zX,i105.un mG⟩)],Cb [(1,[0,1]),(5,[0,1,2,3,4,5,6,7,8,9,11,13,14,15,16,17,18]),(9,[0,1,2,3,4,5,6,7,8,9,11,12,13,14,16,17,18]),(13,[0,1,2,3,4,5,6,7,8,9,11,12,13,14,15,17,18]),(17,[0,1,2,3,4,5,6,7,8,9,11,12,13,14,15,16,18])]⟩ c51 Tryz.f51 (MZ 0 L51 n) 15 ω (lL.st 104 v)=lL.un (fun(t7:Int) (AR:AAC) (AE:Int) (Am:AAT) (CE:AAC) (Cd:AAU) (AS:Int) (CZ:ABO) (CS:ABP) (CU:AAq) (C9:AA1) (AK:Bool) (Bn:Int) (EO:Int) (FK:Bool) (b2:AAC) (b3:AAT) (b4:AAC) (b5:AAU) (b6:ABO) (b7:ABP) (b8:AAq) (b9:AA1) (Dy:Int) (Et:Int) (DH:Bool) (GD:AAC) (D6:AAT) (Gk:AAC) (Gi:AAU) (EW:ABO) (Eu:ABP) (Fi:AAq) (TB:AA1)=>
 cond ((decide (t7<(CU.length:Int))))
  (if(0:Int)<=t7/\t7<(CU.length:Int)then(
  (mG ((CU.getD (t7.toNat) (0,0,[],())).1,(CU.getD (t7.toNat) (0,0,[],())).2.1,(CU.getD (t7.toNat) (0,0,[],())).2.2.1,())).bind fun zr=>
  if Fi.length+1<=Go.M.D8 then(
  (Ci n) (Aa (t7+1)) AR AE Am CE Cd AS CZ CS CU C9 AK Bn EO FK b2 b3 b4 b5 b6 b7 b8 b9 Dy Et DH GD D6 Gk Gi EW Eu (Fi++[(zr.1.1.1,zr.1.1.2.1,zr.2.1,())]) TB)else none)else none)
 (some ((((),Dy,(),(),(),Et,(),(),(),(),DH,()),()),(GD,D6,Gk,Gi,EW,Eu,Fi,TB,())))) v:=by rcases ω with _|⟨_|_,_|⟨_|_,_⟩⟩<;>kernel_rfl
theorem AT8(n:Nat)(v:lL.V)(ω:List Bool):Hz C51 c51 Tryz.f51 (MZ 0 L51 n) 15 ω (lL.st 104 v)=lL.un (Py (Cl n) (C1 n) (Cg n) (Ci n)) v:=ARa GR FA Fj Ec CY n v ω
def AF(ω:List Bool):Prop:= ∀(eN:ABy->Option F6) (mE:ACt->Option K3) (eD:ACG->Option Fv) (lZ:ABr->Option Gl) (mG:ADW->Option Js) (n:Nat) (v:i51.V),DY ⟨T,Rm [(101,⟨iX,xy,iX.un eN⟩),(102,⟨lh,zy,lh.un mE⟩),(103,⟨gn,w8,gn.un eD⟩),(104,⟨b_,vF,b_.un lZ⟩),(105,⟨i105,zX,i105.un mG⟩)],Cb [(1,[0,1]),(5,[0,1,2,3,4,5,6,7,8,9,11,13,14,15,16,17,18]),(9,[0,1,2,3,4,5,6,7,8,9,11,12,13,14,16,17,18]),(13,[0,1,2,3,4,5,6,7,8,9,11,12,13,14,15,17,18]),(17,[0,1,2,3,4,5,6,7,8,9,11,12,13,14,15,16,18])]⟩ c51 Tryz.f51 (MZ 0 L51 n) ω v=i51.un (fun(p0:ABg)=>
 if 0+p0.1.length<=Go.M.D8 then(
 if 0+p0.2.2.2.1.length<=Go.M.D8 then(
 (eN (p0.2.2.2.2.1,p0.2.2.2.2.2.1,())).bind fun u2=>
 if 0+p0.2.2.2.2.2.2.2.2.2.1.length<=Go.M.D8 then(
 (Cl n) 0 p0.1 p0.2.1 p0.2.2.1 p0.2.2.2.1 p0.2.2.2.2.1 p0.2.2.2.2.2.1 p0.2.2.2.2.2.2.1 p0.2.2.2.2.2.2.2.1 p0.2.2.2.2.2.2.2.2.1 p0.2.2.2.2.2.2.2.2.2.1 p0.2.2.2.2.2.2.2.2.2.2.1 0 0 false [] [] [] [] [] [] [] [] p0.2.1 u2.1.1.2.1 p0.2.2.2.2.2.2.2.2.2.2.1 p0.1 [] p0.2.2.2.1 u2.2.1 [] [] [] p0.2.2.2.2.2.2.2.2.2.1)else none)else none)else none) v
theorem AVh:AF []:=by delta AF;intros;kernel_rfl
theorem AWW:AF (false::[]):=by delta AF;intros;kernel_rfl
theorem AWB:AF (false::false::[]):=by delta AF;intros;kernel_rfl
theorem AXK:AF (false::false::false::[]):=by delta AF;intros;kernel_rfl
theorem AWN:AF (false::false::false::false::[]):=by delta AF;intros;kernel_rfl
theorem AVD:AF (false::false::false::false::false::[]):=by delta AF;intros;kernel_rfl
theorem AVN(ω:List Bool):AF (false::false::false::false::false::false::ω):=by delta AF;intros;kernel_rfl
theorem AVl:AF (false::false::false::false::false::true::[]):=by delta AF;intros;kernel_rfl
theorem AYL(ω:List Bool):AF (false::false::false::false::false::true::false::ω):=by delta AF;intros;kernel_rfl
theorem ARp(ω:List Bool):AF (false::false::false::false::false::true::true::ω):=by delta AF;intros;kernel_rfl
theorem APL:AF (false::false::false::false::true::[]):=by delta AF;intros;kernel_rfl
theorem AOf(ω:List Bool):AF (false::false::false::false::true::false::ω):=by delta AF;intros;kernel_rfl
theorem AOY:AF (false::false::false::false::true::true::[]):=by delta AF;intros;kernel_rfl
theorem AQ9(ω:List Bool):AF (false::false::false::false::true::true::false::ω):=by delta AF;intros;kernel_rfl
theorem APn:AF (false::false::false::false::true::true::true::[]):=by delta AF;intros;kernel_rfl
theorem ARP(ω:List Bool):AF (false::false::false::false::true::true::true::false::ω):=by delta AF;intros;kernel_rfl
theorem AOR:AF (false::false::false::false::true::true::true::true::[]):=by delta AF;intros;kernel_rfl
theorem APN(ω:List Bool):AF (false::false::false::false::true::true::true::true::false::ω):=by delta AF;intros;kernel_rfl
theorem ASY(ω:List Bool):AF (false::false::false::false::true::true::true::true::true::ω):=by delta AF;intros;kernel_rfl
theorem AQ4:AF (false::false::false::true::[]):=by delta AF;intros;kernel_rfl
theorem ATO:AF (false::false::false::true::false::[]):=by delta AF;intros;kernel_rfl
theorem ATD:AF (false::false::false::true::false::false::[]):=by delta AF;intros;kernel_rfl
theorem ASy(ω:List Bool):AF (false::false::false::true::false::false::false::ω):=by delta AF;intros;kernel_rfl
theorem ARZ(ω:List Bool):AF (false::false::false::true::false::false::true::ω):=by delta AF;intros;kernel_rfl
theorem ARV:AF (false::false::false::true::false::true::[]):=by delta AF;intros;kernel_rfl
theorem ATy(ω:List Bool):AF (false::false::false::true::false::true::false::ω):=by delta AF;intros;kernel_rfl
theorem ASx:AF (false::false::false::true::false::true::true::[]):=by delta AF;intros;kernel_rfl
theorem AT_(ω:List Bool):AF (false::false::false::true::false::true::true::false::ω):=by delta AF;intros;kernel_rfl
theorem AQG:AF (false::false::false::true::false::true::true::true::[]):=by delta AF;intros;kernel_rfl
theorem ASD(ω:List Bool):AF (false::false::false::true::false::true::true::true::false::ω):=by delta AF;intros;kernel_rfl
theorem AOk(ω:List Bool):AF (false::false::false::true::false::true::true::true::true::ω):=by delta AF;intros;kernel_rfl
theorem ARu:AF (false::false::false::true::true::[]):=by delta AF;intros;kernel_rfl
theorem ART(ω:List Bool):AF (false::false::false::true::true::false::ω):=by delta AF;intros;kernel_rfl
theorem AO0:AF (false::false::false::true::true::true::[]):=by delta AF;intros;kernel_rfl
theorem AO2(ω:List Bool):AF (false::false::false::true::true::true::false::ω):=by delta AF;intros;kernel_rfl
theorem AQ0:AF (false::false::false::true::true::true::true::[]):=by delta AF;intros;kernel_rfl
theorem AQw(ω:List Bool):AF (false::false::false::true::true::true::true::false::ω):=by delta AF;intros;kernel_rfl
theorem ARm(ω:List Bool):AF (false::false::false::true::true::true::true::true::ω):=by delta AF;intros;kernel_rfl
theorem APG:AF (false::false::true::[]):=by delta AF;intros;kernel_rfl
theorem ASQ:AF (false::false::true::false::[]):=by delta AF;intros;kernel_rfl
theorem APw:AF (false::false::true::false::false::[]):=by delta AF;intros;kernel_rfl
theorem AO_(ω:List Bool):AF (false::false::true::false::false::false::ω):=by delta AF;intros;kernel_rfl
theorem ASb:AF (false::false::true::false::false::true::[]):=by delta AF;intros;kernel_rfl
theorem APh(ω:List Bool):AF (false::false::true::false::false::true::false::ω):=by delta AF;intros;kernel_rfl
theorem AS0(ω:List Bool):AF (false::false::true::false::false::true::true::ω):=by delta AF;intros;kernel_rfl
theorem ATn:AF (false::false::true::false::true::[]):=by delta AF;intros;kernel_rfl
theorem ARv(ω:List Bool):AF (false::false::true::false::true::false::ω):=by delta AF;intros;kernel_rfl
theorem ATp:AF (false::false::true::false::true::true::[]):=by delta AF;intros;kernel_rfl
theorem AOh(ω:List Bool):AF (false::false::true::false::true::true::false::ω):=by delta AF;intros;kernel_rfl
theorem AQm:AF (false::false::true::false::true::true::true::[]):=by delta AF;intros;kernel_rfl
theorem ARt(ω:List Bool):AF (false::false::true::false::true::true::true::false::ω):=by delta AF;intros;kernel_rfl
theorem AR4:AF (false::false::true::false::true::true::true::true::[]):=by delta AF;intros;kernel_rfl
theorem ATw(ω:List Bool):AF (false::false::true::false::true::true::true::true::false::ω):=by delta AF;intros;kernel_rfl
theorem APt:AF (false::false::true::false::true::true::true::true::true::[]):=by delta AF;intros;kernel_rfl
theorem ATg(ω:List Bool):AF (false::false::true::false::true::true::true::true::true::false::ω):=by delta AF;intros;kernel_rfl
theorem ASt(ω:List Bool):AF (false::false::true::false::true::true::true::true::true::true::ω):=by delta AF;intros;kernel_rfl
theorem AT9:AF (false::false::true::true::[]):=by delta AF;intros;kernel_rfl
theorem ASj:AF (false::false::true::true::false::[]):=by delta AF;intros;kernel_rfl
theorem ATN:AF (false::false::true::true::false::false::[]):=by delta AF;intros;kernel_rfl
theorem AQx(ω:List Bool):AF (false::false::true::true::false::false::false::ω):=by delta AF;intros;kernel_rfl
theorem AS9(ω:List Bool):AF (false::false::true::true::false::false::true::ω):=by delta AF;intros;kernel_rfl
theorem AT2:AF (false::false::true::true::false::true::[]):=by delta AF;intros;kernel_rfl
theorem APX(ω:List Bool):AF (false::false::true::true::false::true::false::ω):=by delta AF;intros;kernel_rfl
theorem APx:AF (false::false::true::true::false::true::true::[]):=by delta AF;intros;kernel_rfl
theorem ASS(ω:List Bool):AF (false::false::true::true::false::true::true::false::ω):=by delta AF;intros;kernel_rfl
theorem AQq:AF (false::false::true::true::false::true::true::true::[]):=by delta AF;intros;kernel_rfl
theorem AS6(ω:List Bool):AF (false::false::true::true::false::true::true::true::false::ω):=by delta AF;intros;kernel_rfl
theorem APK:AF (false::false::true::true::false::true::true::true::true::[]):=by delta AF;intros;kernel_rfl
theorem ARO(ω:List Bool):AF (false::false::true::true::false::true::true::true::true::false::ω):=by delta AF;intros;kernel_rfl
theorem AOz(ω:List Bool):AF (false::false::true::true::false::true::true::true::true::true::ω):=by delta AF;intros;kernel_rfl
theorem APJ:AF (false::false::true::true::true::[]):=by delta AF;intros;kernel_rfl
theorem AOn(ω:List Bool):AF (false::false::true::true::true::false::ω):=by delta AF;intros;kernel_rfl
theorem APF:AF (false::false::true::true::true::true::[]):=by delta AF;intros;kernel_rfl
theorem AQg(ω:List Bool):AF (false::false::true::true::true::true::false::ω):=by delta AF;intros;kernel_rfl
theorem AP4:AF (false::false::true::true::true::true::true::[]):=by delta AF;intros;kernel_rfl
theorem APu(ω:List Bool):AF (false::false::true::true::true::true::true::false::ω):=by delta AF;intros;kernel_rfl
theorem AQV:AF (false::false::true::true::true::true::true::true::[]):=by delta AF;intros;kernel_rfl
theorem AQb(ω:List Bool):AF (false::false::true::true::true::true::true::true::false::ω):=by delta AF;intros;kernel_rfl
theorem ARc(ω:List Bool):AF (false::false::true::true::true::true::true::true::true::ω):=by delta AF;intros;kernel_rfl
theorem AQ_:AF (false::true::[]):=by delta AF;intros;kernel_rfl
theorem AQs:AF (false::true::false::[]):=by delta AF;intros;kernel_rfl
theorem AOl:AF (false::true::false::false::[]):=by delta AF;intros;kernel_rfl
theorem ARC(ω:List Bool):AF (false::true::false::false::false::ω):=by delta AF;intros;kernel_rfl
theorem ASV:AF (false::true::false::false::true::[]):=by delta AF;intros;kernel_rfl
theorem AQv(ω:List Bool):AF (false::true::false::false::true::false::ω):=by delta AF;intros;kernel_rfl
theorem AOv:AF (false::true::false::false::true::true::[]):=by delta AF;intros;kernel_rfl
theorem ATA(ω:List Bool):AF (false::true::false::false::true::true::false::ω):=by delta AF;intros;kernel_rfl
theorem ARj:AF (false::true::false::false::true::true::true::[]):=by delta AF;intros;kernel_rfl
theorem ASP(ω:List Bool):AF (false::true::false::false::true::true::true::false::ω):=by delta AF;intros;kernel_rfl
theorem ASg(ω:List Bool):AF (false::true::false::false::true::true::true::true::ω):=by delta AF;intros;kernel_rfl
theorem AOi:AF (false::true::false::true::[]):=by delta AF;intros;kernel_rfl
theorem ASC(ω:List Bool):AF (false::true::false::true::false::ω):=by delta AF;intros;kernel_rfl
theorem AQS:AF (false::true::false::true::true::[]):=by delta AF;intros;kernel_rfl
theorem AQT(ω:List Bool):AF (false::true::false::true::true::false::ω):=by delta AF;intros;kernel_rfl
theorem AUD:AF (false::true::false::true::true::true::[]):=by delta AF;intros;kernel_rfl
theorem AOT(ω:List Bool):AF (false::true::false::true::true::true::false::ω):=by delta AF;intros;kernel_rfl
theorem AR7:AF (false::true::false::true::true::true::true::[]):=by delta AF;intros;kernel_rfl
theorem ASI(ω:List Bool):AF (false::true::false::true::true::true::true::false::ω):=by delta AF;intros;kernel_rfl
theorem ATa:AF (false::true::false::true::true::true::true::true::[]):=by delta AF;intros;kernel_rfl
theorem AJy(ω:List Bool):AF (false::true::false::true::true::true::true::true::false::ω):=by delta AF;intros;kernel_rfl
theorem AKi(ω:List Bool):AF (false::true::false::true::true::true::true::true::true::ω):=by delta AF;intros;kernel_rfl
theorem AK3:AF (false::true::true::[]):=by delta AF;intros;kernel_rfl
theorem AJL:AF (false::true::true::false::[]):=by delta AF;intros;kernel_rfl
theorem AJw:AF (false::true::true::false::false::[]):=by delta AF;intros;kernel_rfl
theorem AJj(ω:List Bool):AF (false::true::true::false::false::false::ω):=by delta AF;intros;kernel_rfl
theorem AHm:AF (false::true::true::false::false::true::[]):=by delta AF;intros;kernel_rfl
theorem AIX(ω:List Bool):AF (false::true::true::false::false::true::false::ω):=by delta AF;intros;kernel_rfl
theorem ALy:AF (false::true::true::false::false::true::true::[]):=by delta AF;intros;kernel_rfl
theorem AJD(ω:List Bool):AF (false::true::true::false::false::true::true::false::ω):=by delta AF;intros;kernel_rfl
theorem AJm(ω:List Bool):AF (false::true::true::false::false::true::true::true::ω):=by delta AF;intros;kernel_rfl
theorem AJ_:AF (false::true::true::false::true::[]):=by delta AF;intros;kernel_rfl
theorem AIh(ω:List Bool):AF (false::true::true::false::true::false::ω):=by delta AF;intros;kernel_rfl
theorem AMt:AF (false::true::true::false::true::true::[]):=by delta AF;intros;kernel_rfl
theorem AMS(ω:List Bool):AF (false::true::true::false::true::true::false::ω):=by delta AF;intros;kernel_rfl
theorem AHZ:AF (false::true::true::false::true::true::true::[]):=by delta AF;intros;kernel_rfl
theorem AL5(ω:List Bool):AF (false::true::true::false::true::true::true::false::ω):=by delta AF;intros;kernel_rfl
theorem ALf:AF (false::true::true::false::true::true::true::true::[]):=by delta AF;intros;kernel_rfl
theorem AM1(ω:List Bool):AF (false::true::true::false::true::true::true::true::false::ω):=by delta AF;intros;kernel_rfl
theorem ALg(ω:List Bool):AF (false::true::true::false::true::true::true::true::true::ω):=by delta AF;intros;kernel_rfl
theorem AKQ:AF (false::true::true::true::[]):=by delta AF;intros;kernel_rfl
theorem ALd:AF (false::true::true::true::false::[]):=by delta AF;intros;kernel_rfl
theorem AMA:AF (false::true::true::true::false::false::[]):=by delta AF;intros;kernel_rfl
theorem AI7(ω:List Bool):AF (false::true::true::true::false::false::false::ω):=by delta AF;intros;kernel_rfl
theorem AJo:AF (false::true::true::true::false::false::true::[]):=by delta AF;intros;kernel_rfl
theorem ALm(ω:List Bool):AF (false::true::true::true::false::false::true::false::ω):=by delta AF;intros;kernel_rfl
theorem AHl(ω:List Bool):AF (false::true::true::true::false::false::true::true::ω):=by delta AF;intros;kernel_rfl
theorem AJx:AF (false::true::true::true::false::true::[]):=by delta AF;intros;kernel_rfl
theorem AMD(ω:List Bool):AF (false::true::true::true::false::true::false::ω):=by delta AF;intros;kernel_rfl
theorem AIq:AF (false::true::true::true::false::true::true::[]):=by delta AF;intros;kernel_rfl
theorem AI_(ω:List Bool):AF (false::true::true::true::false::true::true::false::ω):=by delta AF;intros;kernel_rfl
theorem AMH:AF (false::true::true::true::false::true::true::true::[]):=by delta AF;intros;kernel_rfl
theorem AI9(ω:List Bool):AF (false::true::true::true::false::true::true::true::false::ω):=by delta AF;intros;kernel_rfl
theorem AKB(ω:List Bool):AF (false::true::true::true::false::true::true::true::true::ω):=by delta AF;intros;kernel_rfl
theorem AIV:AF (false::true::true::true::true::[]):=by delta AF;intros;kernel_rfl
theorem AIM:AF (false::true::true::true::true::false::[]):=by delta AF;intros;kernel_rfl
theorem AIL:AF (false::true::true::true::true::false::false::[]):=by delta AF;intros;kernel_rfl
theorem AMM(ω:List Bool):AF (false::true::true::true::true::false::false::false::ω):=by delta AF;intros;kernel_rfl
theorem AJZ(ω:List Bool):AF (false::true::true::true::true::false::false::true::ω):=by delta AF;intros;kernel_rfl
theorem AMx:AF (false::true::true::true::true::false::true::[]):=by delta AF;intros;kernel_rfl
theorem AII(ω:List Bool):AF (false::true::true::true::true::false::true::false::ω):=by delta AF;intros;kernel_rfl
theorem AJ7:AF (false::true::true::true::true::false::true::true::[]):=by delta AF;intros;kernel_rfl
theorem AJX(ω:List Bool):AF (false::true::true::true::true::false::true::true::false::ω):=by delta AF;intros;kernel_rfl
theorem AIZ(ω:List Bool):AF (false::true::true::true::true::false::true::true::true::ω):=by delta AF;intros;kernel_rfl
theorem AKo:AF (false::true::true::true::true::true::[]):=by delta AF;intros;kernel_rfl
theorem AKl(ω:List Bool):AF (false::true::true::true::true::true::false::ω):=by delta AF;intros;kernel_rfl
theorem ALv:AF (false::true::true::true::true::true::true::[]):=by delta AF;intros;kernel_rfl
theorem AKG(ω:List Bool):AF (false::true::true::true::true::true::true::false::ω):=by delta AF;intros;kernel_rfl
theorem AMf(ω:List Bool):AF (false::true::true::true::true::true::true::true::ω):=by delta AF;intros;kernel_rfl
theorem AI0:AF (true::[]):=by delta AF;intros;kernel_rfl
theorem AH4:AF (true::false::[]):=by delta AF;intros;kernel_rfl
theorem AJn:AF (true::false::false::[]):=by delta AF;intros;kernel_rfl
theorem AJR:AF (true::false::false::false::[]):=by delta AF;intros;kernel_rfl
theorem ALw:AF (true::false::false::false::false::[]):=by delta AF;intros;kernel_rfl
theorem AIY:AF (true::false::false::false::false::false::[]):=by delta AF;intros;kernel_rfl
theorem AL0(ω:List Bool):AF (true::false::false::false::false::false::false::ω):=by delta AF;intros;kernel_rfl
theorem AHc(ω:List Bool):AF (true::false::false::false::false::false::true::ω):=by delta AF;intros;kernel_rfl
theorem AJe:AF (true::false::false::false::false::true::[]):=by delta AF;intros;kernel_rfl
theorem AJt(ω:List Bool):AF (true::false::false::false::false::true::false::ω):=by delta AF;intros;kernel_rfl
theorem AKv:AF (true::false::false::false::false::true::true::[]):=by delta AF;intros;kernel_rfl
theorem ALU(ω:List Bool):AF (true::false::false::false::false::true::true::false::ω):=by delta AF;intros;kernel_rfl
theorem AMk:AF (true::false::false::false::false::true::true::true::[]):=by delta AF;intros;kernel_rfl
theorem ALT(ω:List Bool):AF (true::false::false::false::false::true::true::true::false::ω):=by delta AF;intros;kernel_rfl
theorem ALK(ω:List Bool):AF (true::false::false::false::false::true::true::true::true::ω):=by delta AF;intros;kernel_rfl
theorem AJz:AF (true::false::false::false::true::[]):=by delta AF;intros;kernel_rfl
theorem AJ2(ω:List Bool):AF (true::false::false::false::true::false::ω):=by delta AF;intros;kernel_rfl
theorem AMC:AF (true::false::false::false::true::true::[]):=by delta AF;intros;kernel_rfl
theorem AJO(ω:List Bool):AF (true::false::false::false::true::true::false::ω):=by delta AF;intros;kernel_rfl
theorem ALJ:AF (true::false::false::false::true::true::true::[]):=by delta AF;intros;kernel_rfl
theorem AIa(ω:List Bool):AF (true::false::false::false::true::true::true::false::ω):=by delta AF;intros;kernel_rfl
theorem AJ1(ω:List Bool):AF (true::false::false::false::true::true::true::true::ω):=by delta AF;intros;kernel_rfl
theorem AMw:AF (true::false::false::true::[]):=by delta AF;intros;kernel_rfl
theorem AMJ:AF (true::false::false::true::false::[]):=by delta AF;intros;kernel_rfl
theorem AIn:AF (true::false::false::true::false::false::[]):=by delta AF;intros;kernel_rfl
theorem AMm(ω:List Bool):AF (true::false::false::true::false::false::false::ω):=by delta AF;intros;kernel_rfl
theorem ALl(ω:List Bool):AF (true::false::false::true::false::false::true::ω):=by delta AF;intros;kernel_rfl
theorem AIB:AF (true::false::false::true::false::true::[]):=by delta AF;intros;kernel_rfl
theorem AI2(ω:List Bool):AF (true::false::false::true::false::true::false::ω):=by delta AF;intros;kernel_rfl
theorem AIH:AF (true::false::false::true::false::true::true::[]):=by delta AF;intros;kernel_rfl
theorem AKX(ω:List Bool):AF (true::false::false::true::false::true::true::false::ω):=by delta AF;intros;kernel_rfl
theorem AI1:AF (true::false::false::true::false::true::true::true::[]):=by delta AF;intros;kernel_rfl
theorem ALB(ω:List Bool):AF (true::false::false::true::false::true::true::true::false::ω):=by delta AF;intros;kernel_rfl
theorem AIc:AF (true::false::false::true::false::true::true::true::true::[]):=by delta AF;intros;kernel_rfl
theorem AL9(ω:List Bool):AF (true::false::false::true::false::true::true::true::true::false::ω):=by delta AF;intros;kernel_rfl
theorem ALX(ω:List Bool):AF (true::false::false::true::false::true::true::true::true::true::ω):=by delta AF;intros;kernel_rfl
theorem AJW:AF (true::false::false::true::true::[]):=by delta AF;intros;kernel_rfl
theorem AJV(ω:List Bool):AF (true::false::false::true::true::false::ω):=by delta AF;intros;kernel_rfl
theorem AJ6:AF (true::false::false::true::true::true::[]):=by delta AF;intros;kernel_rfl
theorem AKH(ω:List Bool):AF (true::false::false::true::true::true::false::ω):=by delta AF;intros;kernel_rfl
theorem AKI:AF (true::false::false::true::true::true::true::[]):=by delta AF;intros;kernel_rfl
theorem AKq(ω:List Bool):AF (true::false::false::true::true::true::true::false::ω):=by delta AF;intros;kernel_rfl
theorem AHk:AF (true::false::false::true::true::true::true::true::[]):=by delta AF;intros;kernel_rfl
theorem AIp(ω:List Bool):AF (true::false::false::true::true::true::true::true::false::ω):=by delta AF;intros;kernel_rfl
theorem AIg(ω:List Bool):AF (true::false::false::true::true::true::true::true::true::ω):=by delta AF;intros;kernel_rfl
theorem AJq:AF (true::false::true::[]):=by delta AF;intros;kernel_rfl
theorem AMZ:AF (true::false::true::false::[]):=by delta AF;intros;kernel_rfl
theorem AH5:AF (true::false::true::false::false::[]):=by delta AF;intros;kernel_rfl
theorem ALZ(ω:List Bool):AF (true::false::true::false::false::false::ω):=by delta AF;intros;kernel_rfl
theorem AMp:AF (true::false::true::false::false::true::[]):=by delta AF;intros;kernel_rfl
theorem AMi(ω:List Bool):AF (true::false::true::false::false::true::false::ω):=by delta AF;intros;kernel_rfl
theorem AIO:AF (true::false::true::false::false::true::true::[]):=by delta AF;intros;kernel_rfl
theorem AHv(ω:List Bool):AF (true::false::true::false::false::true::true::false::ω):=by delta AF;intros;kernel_rfl
theorem AK6(ω:List Bool):AF (true::false::true::false::false::true::true::true::ω):=by delta AF;intros;kernel_rfl
theorem AMO:AF (true::false::true::false::true::[]):=by delta AF;intros;kernel_rfl
theorem AHf(ω:List Bool):AF (true::false::true::false::true::false::ω):=by delta AF;intros;kernel_rfl
theorem AIT:AF (true::false::true::false::true::true::[]):=by delta AF;intros;kernel_rfl
theorem AKg(ω:List Bool):AF (true::false::true::false::true::true::false::ω):=by delta AF;intros;kernel_rfl
theorem AMq:AF (true::false::true::false::true::true::true::[]):=by delta AF;intros;kernel_rfl
theorem AJf(ω:List Bool):AF (true::false::true::false::true::true::true::false::ω):=by delta AF;intros;kernel_rfl
theorem ALh:AF (true::false::true::false::true::true::true::true::[]):=by delta AF;intros;kernel_rfl
theorem AIN(ω:List Bool):AF (true::false::true::false::true::true::true::true::false::ω):=by delta AF;intros;kernel_rfl
theorem AKx(ω:List Bool):AF (true::false::true::false::true::true::true::true::true::ω):=by delta AF;intros;kernel_rfl
theorem AK0:AF (true::false::true::true::[]):=by delta AF;intros;kernel_rfl
theorem AJs:AF (true::false::true::true::false::[]):=by delta AF;intros;kernel_rfl
theorem AKj:AF (true::false::true::true::false::false::[]):=by delta AF;intros;kernel_rfl
theorem AKK(ω:List Bool):AF (true::false::true::true::false::false::false::ω):=by delta AF;intros;kernel_rfl
theorem AHz:AF (true::false::true::true::false::false::true::[]):=by delta AF;intros;kernel_rfl
theorem AIm(ω:List Bool):AF (true::false::true::true::false::false::true::false::ω):=by delta AF;intros;kernel_rfl
theorem AKV(ω:List Bool):AF (true::false::true::true::false::false::true::true::ω):=by delta AF;intros;kernel_rfl
theorem AI4:AF (true::false::true::true::false::true::[]):=by delta AF;intros;kernel_rfl
theorem AJ9(ω:List Bool):AF (true::false::true::true::false::true::false::ω):=by delta AF;intros;kernel_rfl
theorem AI6:AF (true::false::true::true::false::true::true::[]):=by delta AF;intros;kernel_rfl
theorem AH3(ω:List Bool):AF (true::false::true::true::false::true::true::false::ω):=by delta AF;intros;kernel_rfl
theorem AJP:AF (true::false::true::true::false::true::true::true::[]):=by delta AF;intros;kernel_rfl
theorem AM6(ω:List Bool):AF (true::false::true::true::false::true::true::true::false::ω):=by delta AF;intros;kernel_rfl
theorem AKs(ω:List Bool):AF (true::false::true::true::false::true::true::true::true::ω):=by delta AF;intros;kernel_rfl
theorem AK7:AF (true::false::true::true::true::[]):=by delta AF;intros;kernel_rfl
theorem ALC:AF (true::false::true::true::true::false::[]):=by delta AF;intros;kernel_rfl
theorem AKf:AF (true::false::true::true::true::false::false::[]):=by delta AF;intros;kernel_rfl
theorem AKR(ω:List Bool):AF (true::false::true::true::true::false::false::false::ω):=by delta AF;intros;kernel_rfl
theorem AJ3(ω:List Bool):AF (true::false::true::true::true::false::false::true::ω):=by delta AF;intros;kernel_rfl
theorem AK1:AF (true::false::true::true::true::false::true::[]):=by delta AF;intros;kernel_rfl
theorem ALe(ω:List Bool):AF (true::false::true::true::true::false::true::false::ω):=by delta AF;intros;kernel_rfl
theorem ALt:AF (true::false::true::true::true::false::true::true::[]):=by delta AF;intros;kernel_rfl
theorem ALj(ω:List Bool):AF (true::false::true::true::true::false::true::true::false::ω):=by delta AF;intros;kernel_rfl
theorem ALi(ω:List Bool):AF (true::false::true::true::true::false::true::true::true::ω):=by delta AF;intros;kernel_rfl
theorem AL1:AF (true::false::true::true::true::true::[]):=by delta AF;intros;kernel_rfl
theorem AKc(ω:List Bool):AF (true::false::true::true::true::true::false::ω):=by delta AF;intros;kernel_rfl
theorem AHr:AF (true::false::true::true::true::true::true::[]):=by delta AF;intros;kernel_rfl
theorem ALO(ω:List Bool):AF (true::false::true::true::true::true::true::false::ω):=by delta AF;intros;kernel_rfl
theorem AMl(ω:List Bool):AF (true::false::true::true::true::true::true::true::ω):=by delta AF;intros;kernel_rfl
theorem AMI:AF (true::true::[]):=by delta AF;intros;kernel_rfl
theorem AMX:AF (true::true::false::[]):=by delta AF;intros;kernel_rfl
theorem AKF:AF (true::true::false::false::[]):=by delta AF;intros;kernel_rfl
theorem AM_(ω:List Bool):AF (true::true::false::false::false::ω):=by delta AF;intros;kernel_rfl
theorem AHq:AF (true::true::false::false::true::[]):=by delta AF;intros;kernel_rfl
theorem AJp(ω:List Bool):AF (true::true::false::false::true::false::ω):=by delta AF;intros;kernel_rfl
theorem AKP:AF (true::true::false::false::true::true::[]):=by delta AF;intros;kernel_rfl
theorem AK9(ω:List Bool):AF (true::true::false::false::true::true::false::ω):=by delta AF;intros;kernel_rfl
theorem AJg(ω:List Bool):AF (true::true::false::false::true::true::true::ω):=by delta AF;intros;kernel_rfl
theorem AM5:AF (true::true::false::true::[]):=by delta AF;intros;kernel_rfl
theorem AJG(ω:List Bool):AF (true::true::false::true::false::ω):=by delta AF;intros;kernel_rfl
theorem ALS:AF (true::true::false::true::true::[]):=by delta AF;intros;kernel_rfl
theorem AJH(ω:List Bool):AF (true::true::false::true::true::false::ω):=by delta AF;intros;kernel_rfl
theorem AJv:AF (true::true::false::true::true::true::[]):=by delta AF;intros;kernel_rfl
theorem AKW(ω:List Bool):AF (true::true::false::true::true::true::false::ω):=by delta AF;intros;kernel_rfl
theorem ALY:AF (true::true::false::true::true::true::true::[]):=by delta AF;intros;kernel_rfl
theorem AIi(ω:List Bool):AF (true::true::false::true::true::true::true::false::ω):=by delta AF;intros;kernel_rfl
theorem AHt(ω:List Bool):AF (true::true::false::true::true::true::true::true::ω):=by delta AF;intros;kernel_rfl
theorem AMY:AF (true::true::true::[]):=by delta AF;intros;kernel_rfl
theorem AKU:AF (true::true::true::false::[]):=by delta AF;intros;kernel_rfl
theorem AIQ:AF (true::true::true::false::false::[]):=by delta AF;intros;kernel_rfl
theorem AM0(ω:List Bool):AF (true::true::true::false::false::false::ω):=by delta AF;intros;kernel_rfl
theorem AIf:AF (true::true::true::false::false::true::[]):=by delta AF;intros;kernel_rfl
theorem AJi(ω:List Bool):AF (true::true::true::false::false::true::false::ω):=by delta AF;intros;kernel_rfl
theorem AL_(ω:List Bool):AF (true::true::true::false::false::true::true::ω):=by delta AF;intros;kernel_rfl
theorem ALP:AF (true::true::true::false::true::[]):=by delta AF;intros;kernel_rfl
theorem AK2(ω:List Bool):AF (true::true::true::false::true::false::ω):=by delta AF;intros;kernel_rfl
theorem AJk:AF (true::true::true::false::true::true::[]):=by delta AF;intros;kernel_rfl
theorem AJN(ω:List Bool):AF (true::true::true::false::true::true::false::ω):=by delta AF;intros;kernel_rfl
theorem AMn:AF (true::true::true::false::true::true::true::[]):=by delta AF;intros;kernel_rfl
theorem AKd(ω:List Bool):AF (true::true::true::false::true::true::true::false::ω):=by delta AF;intros;kernel_rfl
theorem ALF(ω:List Bool):AF (true::true::true::false::true::true::true::true::ω):=by delta AF;intros;kernel_rfl
theorem ALk:AF (true::true::true::true::[]):=by delta AF;intros;kernel_rfl
theorem ALp:AF (true::true::true::true::false::[]):=by delta AF;intros;kernel_rfl
theorem AH7:AF (true::true::true::true::false::false::[]):=by delta AF;intros;kernel_rfl
theorem AHs(ω:List Bool):AF (true::true::true::true::false::false::false::ω):=by delta AF;intros;kernel_rfl
theorem ALx(ω:List Bool):AF (true::true::true::true::false::false::true::ω):=by delta AF;intros;kernel_rfl
theorem AIJ:AF (true::true::true::true::false::true::[]):=by delta AF;intros;kernel_rfl
theorem AM8(ω:List Bool):AF (true::true::true::true::false::true::false::ω):=by delta AF;intros;kernel_rfl
theorem AIk:AF (true::true::true::true::false::true::true::[]):=by delta AF;intros;kernel_rfl
theorem AL7(ω:List Bool):AF (true::true::true::true::false::true::true::false::ω):=by delta AF;intros;kernel_rfl
theorem ALq(ω:List Bool):AF (true::true::true::true::false::true::true::true::ω):=by delta AF;intros;kernel_rfl
theorem AHp:AF (true::true::true::true::true::[]):=by delta AF;intros;kernel_rfl
theorem AJF(ω:List Bool):AF (true::true::true::true::true::false::ω):=by delta AF;intros;kernel_rfl
theorem AL6:AF (true::true::true::true::true::true::[]):=by delta AF;intros;kernel_rfl
theorem AIW(ω:List Bool):AF (true::true::true::true::true::true::false::ω):=by delta AF;intros;kernel_rfl
theorem AMF(ω:List Bool):AF (true::true::true::true::true::true::true::ω):=by delta AF;intros;kernel_rfl
theorem b51(eN:ABy->Option F6)(mE:ACt->Option K3)(eD:ACG->Option Fv)(lZ:ABr->Option Gl)(mG:ADW->Option Js)(n:Nat)(ω:List Bool)(v:i51.V):DY ⟨T,Rm [(101,⟨iX,xy,iX.un eN⟩),(102,⟨lh,zy,lh.un mE⟩),(103,⟨gn,w8,gn.un eD⟩),(104,⟨b_,vF,b_.un lZ⟩),(105,⟨i105,zX,i105.un mG⟩)],Cb [(1,[0,1]),(5,[0,1,2,3,4,5,6,7,8,9,11,13,14,15,16,17,18]),(9,[0,1,2,3,4,5,6,7,8,9,11,12,13,14,16,17,18]),(13,[0,1,2,3,4,5,6,7,8,9,11,12,13,14,15,17,18]),(17,[0,1,2,3,4,5,6,7,8,9,11,12,13,14,15,16,18])]⟩ c51 Tryz.f51 (MZ 0 L51 n) ω v=i51.un (fun(p0:ABg)=>
 if 0+p0.1.length<=Go.M.D8 then(
 if 0+p0.2.2.2.1.length<=Go.M.D8 then(
 (eN (p0.2.2.2.2.1,p0.2.2.2.2.2.1,())).bind fun u2=>
 if 0+p0.2.2.2.2.2.2.2.2.2.1.length<=Go.M.D8 then(
 (Cl n) 0 p0.1 p0.2.1 p0.2.2.1 p0.2.2.2.1 p0.2.2.2.2.1 p0.2.2.2.2.2.1 p0.2.2.2.2.2.2.1 p0.2.2.2.2.2.2.2.1 p0.2.2.2.2.2.2.2.2.1 p0.2.2.2.2.2.2.2.2.2.1 p0.2.2.2.2.2.2.2.2.2.2.1 0 0 false [] [] [] [] [] [] [] [] p0.2.1 u2.1.1.2.1 p0.2.2.2.2.2.2.2.2.2.2.1 p0.1 [] p0.2.2.2.1 u2.2.1 [] [] [] p0.2.2.2.2.2.2.2.2.2.1)else none)else none)else none) v:=(AG AVh (AG AWW (AG AWB (AG AXK (AG AWN (AG AVD AVN (AG AVl AYL ARp)) (AG APL AOf (AG AOY AQ9 (AG APn ARP (AG AOR APN ASY))))) (AG AQ4 (AG ATO (AG ATD ASy ARZ) (AG ARV ATy (AG ASx AT_ (AG AQG ASD AOk)))) (AG ARu ART (AG AO0 AO2 (AG AQ0 AQw ARm))))) (AG APG (AG ASQ (AG APw AO_ (AG ASb APh AS0)) (AG ATn ARv (AG ATp AOh (AG AQm ARt (AG AR4 ATw (AG APt ATg ASt)))))) (AG AT9 (AG ASj (AG ATN AQx AS9) (AG AT2 APX (AG APx ASS (AG AQq AS6 (AG APK ARO AOz))))) (AG APJ AOn (AG APF AQg (AG AP4 APu (AG AQV AQb ARc))))))) (AG AQ_ (AG AQs (AG AOl ARC (AG ASV AQv (AG AOv ATA (AG ARj ASP ASg)))) (AG AOi ASC (AG AQS AQT (AG AUD AOT (AG AR7 ASI (AG ATa AJy AKi)))))) (AG AK3 (AG AJL (AG AJw AJj (AG AHm AIX (AG ALy AJD AJm))) (AG AJ_ AIh (AG AMt AMS (AG AHZ AL5 (AG ALf AM1 ALg))))) (AG AKQ (AG ALd (AG AMA AI7 (AG AJo ALm AHl)) (AG AJx AMD (AG AIq AI_ (AG AMH AI9 AKB)))) (AG AIV (AG AIM (AG AIL AMM AJZ) (AG AMx AII (AG AJ7 AJX AIZ))) (AG AKo AKl (AG ALv AKG AMf))))))) (AG AI0 (AG AH4 (AG AJn (AG AJR (AG ALw (AG AIY AL0 AHc) (AG AJe AJt (AG AKv ALU (AG AMk ALT ALK)))) (AG AJz AJ2 (AG AMC AJO (AG ALJ AIa AJ1)))) (AG AMw (AG AMJ (AG AIn AMm ALl) (AG AIB AI2 (AG AIH AKX (AG AI1 ALB (AG AIc AL9 ALX))))) (AG AJW AJV (AG AJ6 AKH (AG AKI AKq (AG AHk AIp AIg)))))) (AG AJq (AG AMZ (AG AH5 ALZ (AG AMp AMi (AG AIO AHv AK6))) (AG AMO AHf (AG AIT AKg (AG AMq AJf (AG ALh AIN AKx))))) (AG AK0 (AG AJs (AG AKj AKK (AG AHz AIm AKV)) (AG AI4 AJ9 (AG AI6 AH3 (AG AJP AM6 AKs)))) (AG AK7 (AG ALC (AG AKf AKR AJ3) (AG AK1 ALe (AG ALt ALj ALi))) (AG AL1 AKc (AG AHr ALO AMl)))))) (AG AMI (AG AMX (AG AKF AM_ (AG AHq AJp (AG AKP AK9 AJg))) (AG AM5 AJG (AG ALS AJH (AG AJv AKW (AG ALY AIi AHt))))) (AG AMY (AG AKU (AG AIQ AM0 (AG AIf AJi AL_)) (AG ALP AK2 (AG AJk AJN (AG AMn AKd ALF)))) (AG ALk (AG ALp (AG AH7 AHs ALx) (AG AIJ AM8 (AG AIk AL7 ALq))) (AG AHp AJF (AG AL6 AIW AMF))))))) ω eN mE eD lZ mG n v
theorem e51(n:Nat)(ω:List Bool)(v:i51.V):DY C51 c51 Tryz.f51 (MZ 0 L51 n) ω v=i51.un (Qq (Cl n) (C1 n) (Cg n) (Ci n)) v:=b51 GR FA Fj Ec CY n ω v
def s51:SQ:=mk Tryz.func51 i51 o51 PX [ACy,AC5,ACT,ACm,AMQ] [(1,[0,1]),(5,[0,1,2,3,4,5,6,7,8,9,11,13,14,15,16,17,18]),(9,[0,1,2,3,4,5,6,7,8,9,11,12,13,14,16,17,18]),(13,[0,1,2,3,4,5,6,7,8,9,11,12,13,14,15,17,18]),(17,[0,1,2,3,4,5,6,7,8,9,11,12,13,14,15,16,18])] L51 (hJ:= .cons (fun _=>rfl) AXX (.cons (fun _=>rfl) AXr (.cons (fun _=>rfl) AOg (.cons (fun _=>rfl) AT8 (.nil))))) (he:=e51 Ae)
def AW2:SQ:=mk Tryz.func215 Ft gZ OI [Yc] [] [⟨3,⟨[(0,BK),(3,o_),(4,BK)],wB⟩,IQ⟩]
abbrev zb:Bh:=AN8
abbrev AOx:Bh:=ANx
def AWr:RC:=⟨zb,AOx,(zb.un PY)⟩
def Acn:ba:=⟨T,Rm (SP.l [s82,ACy,ACb]),Cb [(6,[0,1,2])]⟩
def APz:List (Lp AOx):=[]
theorem Ac6(g82:ABU->List Int->Option jo)(eN:ABy->Option F6)(AXt:ABU->ABy->Option Sv)(n:Nat)(ω:List Bool)(v:zb.V):DY ⟨T,Rm [(82,⟨i82,o82,i82.un g82⟩),(101,⟨iX,xy,iX.un eN⟩),(182,⟨i182,AVw,i182.un AXt⟩)],Cb [(6,[0,1,2])]⟩ AWr Tryz.f214 (MZ 0 APz n) ω v=zb.un (fun(p0:ABU) (p1:ABy) (p2:AAC)=>
 (AXt (p0.1,p0.2.1,()) (p1.1,p1.2.1,())).bind fun u1=>
 cond (!u1.1.1)
  (some (((((),0,()),0,false,()),()),([],())))
 ((eN (p1.1,p1.2.1,())).bind fun u2=>
 (g82 (p0.1,p0.2.1,()) p2).bind fun u3=>
 cond (!u3.1.1)
  (some (((((),u2.1.1.2.1,()),0,false,()),()),(u2.2.1,())))
 (cond (((p1.1.length:Int)==30))
  (some (((((),u2.1.1.2.1,()),0,false,()),()),(u2.2.1,())))
 (if 0+p2.length<=Go.M.D8 then(
 if u2.2.1.length+1<=Go.M.D8 then(
 let x5:AAU:=u2.2.1++[(p2,false,0,())]
 some (((((),u2.1.1.2.1,()),(x5.length:Int),true,()),()),(x5,())))else none)else none)))) v:=by rcases ω with _|⟨_|_,_|⟨_|_,_|⟨_|_,_|⟨_|_,_|⟨_|_,_⟩⟩⟩⟩⟩<;>kernel_rfl
theorem AZh(n:Nat)(ω:List Bool)(v:zb.V):DY Acn AWr Tryz.f214 (MZ 0 APz n) ω v=zb.un (PY) v:=Ac6 Fa GR Mn n ω v
def Aau:SQ:=mk Tryz.func214 zb AOx PY [s82,ACy,ACb] [(6,[0,1,2])] APz (hJ:= .nil) (he:=AZh Ae)
def Ac8:SQ:=mk Tryz.func131 cu ⟨[(0,.Mo [.inr [.ref 0,.v tI,.ref 1,.ref 2,.ref 8,.v tI,.ref 9,.ref 10,.ref 6,.ref 7,.v .bool],.inl (.v tI)])],[DS,Wf,DS,P1,P1,P1,QC,Kk,K_,RD,TG]⟩ We [Aau,AW2] [(3,[0,1,2,3,4,5,6,7,8,9,10])] [] (he:=fun ω v=>by rcases ω with _|⟨_|_,_|⟨_|_,_⟩⟩<;>kernel_rfl)
def AOr:SQ:=mk Tryz.func216 tP CV MB [Yc] [] []
abbrev AAz:Bh:=ANu
abbrev ATY:Bh:=AOG
def AX3:RC:=⟨AAz,ATY,(AAz.un L1)⟩
def AZR:ba:=⟨T,Rm (SP.l [ACT,AGd]),Cb []⟩
def AP_:List (Lp ATY):=[]
theorem Aaw(eD:ACG->Option Fv)(AS_:ABU->ACG->Option M_)(n:Nat)(ω:List Bool)(v:AAz.V):DY ⟨T,Rm [(103,⟨gn,w8,gn.un eD⟩),(183,⟨i183,AVf,i183.un AS_⟩)],Cb []⟩ AX3 Tryz.f217 (MZ 0 AP_ n) ω v=AAz.un (fun(p0:ABU) (p1:ACG) (p2:ACB)=>
 (AS_ (p0.1,p0.2.1,()) (p1.1,p1.2.1,())).bind fun u1=>
 cond (!u1.1.1)
  (some ((((0,(),()),0,false,()),()),([],())))
 ((eD (p1.1,p1.2.1,())).bind fun u2=>
 if u2.2.1.length+1<=Go.M.D8 then(
 let x3:AB_:=u2.2.1++[(p2,[],false,())]
 (AS_ (p0.1,p0.2.1,()) (u2.1.1.1,x3,())).bind fun u4=>
 cond (!u4.1.1)
  ((eD (p1.1,p1.2.1,())).bind fun u5=>
  some ((((u5.1.1.1,(),()),0,false,()),()),(u5.2.1,())))
 (some ((((u2.1.1.1,(),()),(x3.length:Int),true,()),()),(x3,()))))else none)) v:=by rcases ω with _|⟨_|_,_|⟨_|_,_⟩⟩<;>kernel_rfl
theorem AaY(n:Nat)(ω:List Bool)(v:AAz.V):DY AZR AX3 Tryz.f217 (MZ 0 AP_ n) ω v=AAz.un (L1) v:=Aaw Fj Hr n ω v
def AbV:SQ:=mk Tryz.func217 AAz ATY L1 [ACT,AGd] [] AP_ (hJ:= .nil) (he:=AaY Ae)
abbrev zo:Bh:=mw
abbrev o71:Bh:=Ft
def s71:SQ:=mk Tryz.func71 zo o71 Ej [] [] []
def AcS:SQ:=mk Tryz.func132 cu ⟨[(0,.Mo [.inr [.ref 0,.v tI,.ref 1,.ref 2,.ref 3,.v tI,.ref 4,.ref 5,.ref 6,.ref 8,.v .bool],.inl (.v tI)])],[DS,Wf,DS,K_,RD,TG,QC,P1,Kk]⟩ Yg [s71,AOr,AbV] [(3,[0,1,2,3,4,5,6,7,8,9,10]),(7,[0,1,2,3,4,5,6,7,8,9,10]),(11,[0,1,2,3,4,5,6,7,8,9,10,11,12,13,14,15,16,17,18]),(18,[0,1,2,3,4,5,6,7,8,9,10,11,12,13,14,15,16,17,18,19])] [⟨9,⟨[(2,ix),(4,ed),(9,nv),(10,BK)],[DS,Wf,DS,K_,RD,TG,QC,Kk,sK,sI,Fc,Z7,Fc,TF,aB,Zz,Z0,Vp,AXq]⟩,Lt⟩,⟨16,⟨[(2,ix),(4,ed),(9,nv),(11,.c (.ref 19)),(12,xP0),(13,BK)],[DS,Wf,DS,K_,RD,TG,QC,Kk,sK,sI,Fc,Z7,Fc,TF,aB,Zz,Z0,Vp,AXq,Vp]⟩,KT⟩] (he:=fun ω v=>by rcases ω with _|⟨_|_,_|⟨_|_,_|⟨_|_,_⟩⟩⟩<;>kernel_rfl)
def AAB:SQ:=mk Tryz.func218 tP Ft Hn [Yc,oR] [] []
def AbT:SQ:=mk Tryz.func277 AG_ CV W4 [qG] [(2,[0,1])] []
def AX9:SQ:=mk Tryz.func219 AG_ uQ QH [AC5,AAw,ALn,AbT] [] []
def AcU:SQ:=mk Tryz.func133 cu uC Ue [s69,s71,Yc,oR,AOr,AAB,AX9] [(9,[0,1,2,3,4,5,6,7,8,9,10,11]),(11,[0,1,2,3,4,5,6,7,8,9,10,11,12])] [] (he:=fun ω v=>by rcases ω with _|⟨_|_,_|⟨_|_,_⟩⟩<;>kernel_rfl)
def AYE:SQ:=mk Tryz.func305 AN2 ANC RI [] [] []
def ATe:SQ:=mk Tryz.func284 ⟨[(0,r8),(1,.row Y1)],[]⟩ xn RY [AYE] [(6,[0,1]),(7,[0]),(9,[0,1])] [⟨4,⟨[(0,r8),(3,J7),(5,xP6),(6,xP0),(7,BK)],[ACr,M8]⟩,Jf⟩]
def AXz:SQ:=mk Tryz.func237 kJ uQ NI [AC5,Yc,AAw,ATe] [(3,[0,1]),(8,[0,1,2,3,5,6])] [⟨5,AOB,Jd⟩] (he:=fun ω v=>by rcases ω with _|⟨_|_,_|⟨_|_,_⟩⟩<;>kernel_rfl)
def AWp:SQ:=mk Tryz.func220 nD uQ O2 [AXz] [] []
abbrev iv:Bh:=AFg
abbrev xK:Bh:=yg
def AKu:SQ:=mk Tryz.func278 iv xK Hd [] [] [⟨2,⟨[(0,r8),(1,BK),(4,J7),(6,BK)],[ACr]⟩,QP⟩]
abbrev i_:Bh:=ANk
abbrev xJ:Bh:=ANB
def AWZ:SQ:=mk Tryz.func279 i_ xJ Fy [s82,ACT,Yc,AC4,AGd] [(6,[0,1,2,4]),(7,[0,1,2,4])] []
def AcO:SQ:=mk Tryz.func287 mw rO Si [Yc] [] []
abbrev iz:Bh:=ANi
abbrev xo:Bh:=yg
def APd:SQ:=mk Tryz.func231 iz xo E9 [AKu,AcO] [] []
abbrev iU:Bh:=ANt
abbrev yq:Bh:=yL
def AUv:SQ:=mk Tryz.func281 iU yq Ho [ACm,Yc,AC4,ADT] [(6,[0,1,2,3,4,6])] []
abbrev zY:Bh:=⟨[(0,ATj),(1,BK)],[DS,Vs,DS,K_,RD,TG,QC,Kk]⟩
abbrev APH:Bh:=⟨AR6,AON⟩
def mD:RC:=⟨zY,APH,(zY.un WZ)⟩
def ACn:ba:=⟨T,Rm (SP.l [s69,s71,oR,qG,APd,AKu,AWZ,AIe,AUv]),Cb [(10,[0,1,2,3,4,5,6,7,8,9,10,11]),(18,[0,1,2,3,4,5,6,7,8,9,10,11,12,13,14,15,16,17,18,19])]⟩
def jP:List (Lp APH):=[⟨3,⟨[(1,BK),(2,ix),(4,ed),(5,nv),(6,BK)],[DS,Vs,DS,K_,oI,TG,QC,Kk,sK,sI,Fc,Z7,Fc,TF,aB,Zz,Z0,Vp,zW]⟩,Bm⟩,⟨8,⟨[(1,BK),(2,ix),(4,ed),(5,nv),(6,BK),(7,ly),(8,BK),(46,.c (.ptr 18 2)),(47,BK),(48,ly),(49,BK),(50,xP0)],ACA⟩,BN⟩,⟨15,⟨[(1,BK),(2,ix),(4,ed),(5,nv),(6,BK),(7,ly),(11,BK),(46,.c (.ptr 18 2)),(47,BK),(48,ly),(49,BK),(50,xP0)],ACA⟩,BO⟩,⟨21,⟨[(1,BK),(2,ix),(4,ed),(5,nv),(13,BK)],[DS,Vs,DS,K_,oI,.sl 1 Y7,QC,Kk,sK,sI,Fc,Z7,Fc,TF,aB,Zz,Z0,Vp,zW]⟩,Bq⟩,⟨25,⟨[(1,BK),(2,ix),(4,ed),(5,nv),(13,BK),(14,ly),(15,BK)],[DS,Vs,DS,K_,oI,.sl 1 Y7,QC,Kk,sK,sI,Fc,Z7,Fc,TF,aB,Zz,Z0,Vp,zW,.mem [.v tI,.v tI,.sl true tI,.sl true Y1,.v .bool,.sl true (.sl tI)]]⟩,Bj⟩]
abbrev mC:Bh:=⟨[(1,BK),(2,ix),(4,ed),(5,nv),(6,BK)],[DS,Vs,DS,K_,oI,TG,QC,Kk,sK,sI,Fc,Z7,Fc,TF,aB,Zz,Z0,Vp,zW]⟩
abbrev cQ:Bh:=⟨[(1,BK),(2,ix),(4,ed),(5,nv),(6,BK),(7,ly),(8,BK),(46,.c (.ptr 18 2)),(47,BK),(48,ly),(49,BK),(50,xP0)],ACA⟩
abbrev fN:Bh:=⟨[(1,BK),(2,ix),(4,ed),(5,nv),(6,BK),(7,ly),(11,BK),(46,.c (.ptr 18 2)),(47,BK),(48,ly),(49,BK),(50,xP0)],ACA⟩
abbrev fR:Bh:=⟨[(1,BK),(2,ix),(4,ed),(5,nv),(13,BK)],[DS,Vs,DS,K_,oI,.sl 1 Y7,QC,Kk,sK,sI,Fc,Z7,Fc,TF,aB,Zz,Z0,Vp,zW]⟩
abbrev fk:Bh:=⟨[(1,BK),(2,ix),(4,ed),(5,nv),(13,BK),(14,ly),(15,BK)],[DS,Vs,DS,K_,oI,.sl 1 Y7,QC,Kk,sK,sI,Fc,Z7,Fc,TF,aB,Zz,Z0,Vp,zW,.mem [.v tI,.v tI,.sl true tI,.sl true Y1,.v .bool,.sl true (.sl tI)]]⟩
theorem ARz(zD:ABy->Int->Option HG)(zG:Int->Int->Option H3)(fu:List Int->Int->Option G9)(ir:Int->Option Ht)(iw:ABr->Int->Option GQ)(eP:ABR->Int->Option G6)(gD:ABU->ACG->Int->Int->Option GZ)(fq:Int->Option Kd)(iR:ABU->ABr->Int->Int->Option Hu)(n:Nat)(v:mC.V)(ω:List Bool):Hz ⟨T,Rm [(69,⟨i69,o69,i69.un zD⟩),(71,⟨zo,o71,zo.un zG⟩),(180,⟨jB,xz,jB.un fu⟩),(186,⟨iF,xU,iF.un ir⟩),(231,⟨iz,xo,iz.un iw⟩),(278,⟨iv,xK,iv.un eP⟩),(279,⟨i_,xJ,i_.un gD⟩),(280,⟨iY,yr,iY.un fq⟩),(281,⟨iU,yq,iU.un iR⟩)],Cb [(10,[0,1,2,3,4,5,6,7,8,9,10,11]),(18,[0,1,2,3,4,5,6,7,8,9,10,11,12,13,14,15,16,17,18,19])]⟩ mD Tryz.f221 (MZ 8 jP n) 3 ω (mC.st 207 v)=mC.un (fun(t1:Int) (t6:Int) (b0:AAC) (b1:AAT) (b2:AAC) (b3:AAU) (b4:ABO) (b5:ABP) (b6:AAq) (b7:AA1) (Dq:Int) (D5:Int) (CT:Bool) (EE:Int) (Fp:Int) (C_:Bool) (LU:AAC) (GD:AAT) (D6:AAC) (Gk:AAU) (Gi:ABO) (EW:ABP) (Eu:AAq) (Fi:AA1) (Cq:ABR) (DJ:ABR) (Ct:Int)=>
 cond ((decide (t6<(b4.length:Int))))
  (if(0:Int)<=t6/\t6<(b4.length:Int)then(
  (zD (b3,D5,()) ((b4.getD (t6.toNat) (0,[],())).1)).bind fun u3=>
  (fu u3.2.1 t1).bind fun u4=>
  cond (!u4.1.1)
   ((Bm n) t1 (Aa (t6+1)) b0 b1 b2 b3 b4 b5 b6 b7 Dq D5 CT EE Fp C_ LU GD D6 Gk Gi EW Eu Fi Cq DJ Ct)
  (let x5:Int:=(b4.getD (t6.toNat) (0,[],())).1
  cond (decide (Ct>=x5))
   ((Bm n) t1 (Aa (t6+1)) b0 b1 b2 b3 b4 b5 b6 b7 Dq D5 CT EE Fp C_ LU GD D6 Gk Gi EW Eu Fi Cq DJ Ct)
  ((BN n) t1 t6 1 Ct x5 (decide (Ct>=x5)) b0 b1 b2 b3 b4 b5 b6 b7 Dq D5 CT EE Fp C_ LU GD D6 Gk Gi EW Eu Fi Cq DJ Ct ((b4.getD (t6.toNat) (0,[],())).1) ((b4.getD (t6.toNat) (0,[],())).2.1))))else none)
 ((Bq n) t1 0 b0 b1 b2 b3 b4 b5 b6 b7 Dq D5 CT EE Fp C_ LU GD D6 Gk Gi EW Eu Fi Cq DJ Ct)) v:=by kernel_rfl
theorem ATk(n:Nat)(v:mC.V)(ω:List Bool):Hz ACn mD Tryz.f221 (MZ 8 jP n) 3 ω (mC.st 207 v)=mC.un (Mk (Bm n) (BN n) (BO n) (Bq n) (Bj n)) v:=ARz Cn Ej DV DD E9 Hd Fy He Ho n v ω
def Bo(ω:List Bool):Prop:= ∀(zD:ABy->Int->Option HG) (zG:Int->Int->Option H3) (fu:List Int->Int->Option G9) (ir:Int->Option Ht) (iw:ABr->Int->Option GQ) (eP:ABR->Int->Option G6) (gD:ABU->ACG->Int->Int->Option GZ) (fq:Int->Option Kd) (iR:ABU->ABr->Int->Int->Option Hu) (n:Nat) (v:cQ.V),Hz ⟨T,Rm [(69,⟨i69,o69,i69.un zD⟩),(71,⟨zo,o71,zo.un zG⟩),(180,⟨jB,xz,jB.un fu⟩),(186,⟨iF,xU,iF.un ir⟩),(231,⟨iz,xo,iz.un iw⟩),(278,⟨iv,xK,iv.un eP⟩),(279,⟨i_,xJ,i_.un gD⟩),(280,⟨iY,yr,iY.un fq⟩),(281,⟨iU,yq,iU.un iR⟩)],Cb [(10,[0,1,2,3,4,5,6,7,8,9,10,11]),(18,[0,1,2,3,4,5,6,7,8,9,10,11,12,13,14,15,16,17,18,19])]⟩ mD Tryz.f221 (MZ 8 jP n) 8 ω (cQ.st 207 v)=cQ.un (fun(t1:Int) (t6:Int) (t8:Int) (t47:Int) (t49:Int) (t50:Bool) (b0:AAC) (b1:AAT) (b2:AAC) (b3:AAU) (b4:ABO) (b5:ABP) (b6:AAq) (b7:AA1) (Dq:Int) (D5:Int) (CT:Bool) (EE:Int) (Fp:Int) (C_:Bool) (LU:AAC) (GD:AAT) (D6:AAC) (Gk:AAU) (Gi:ABO) (EW:ABP) (Eu:AAq) (Fi:AA1) (Cq:ABR) (DJ:ABR) (Ct:Int) (Dg:Int) (Ce:AB_)=>
 cond ((decide (t8<=(Ce.length:Int))))
  ((zG Dg t8).bind fun u7=>
  (eP Cq u7.1.1).bind fun u8=>
  cond (!u8.1.1.2.1)
   ((BN n) t1 t6 (Aa (t8+1)) t47 t49 t50 b0 b1 b2 b3 b4 b5 b6 b7 Dq D5 CT EE Fp C_ LU GD D6 Gk Gi EW Eu Fi Cq DJ Ct Dg Ce)
  (cond (u8.1.1.1.2.1 !=0)
   ((BN n) t1 t6 (Aa (t8+1)) t47 t49 t50 b0 b1 b2 b3 b4 b5 b6 b7 Dq D5 CT EE Fp C_ LU GD D6 Gk Gi EW Eu Fi Cq DJ Ct Dg Ce)
  (if(0:Int)<=Aa (t8-1)/\Aa (t8-1)<(Ce.length:Int)then(
  cond (((Ce.getD ((Aa (t8-1)).toNat) ([],[],false,())).2.2.1))
   ((BN n) t1 t6 (Aa (t8+1)) t47 t49 t50 b0 b1 b2 b3 b4 b5 b6 b7 Dq D5 CT EE Fp C_ LU GD D6 Gk Gi EW Eu Fi Cq DJ Ct Dg Ce)
  ((gD (b0,Dq,()) (Dg,Ce,()) t8 t1).bind fun EP=>
  (BN n) t1 t6 (Aa (t8+1)) t47 t49 t50 b0 b1 b2 b3 b4 b5 b6 b7 Dq D5 CT EE Fp C_ LU GD D6 Gk Gi EW Eu Fi Cq DJ Ct EP.1.1.1.1 EP.2.1))else none)))
 (if(0:Int)<=t6/\t6<(b4.length:Int)then(
 (BO n) t1 t6 0 t47 t49 t50 b0 b1 b2 b3 (b4.set (t6.toNat) (Dg,Ce,())) b5 b6 b7 Dq D5 CT EE Fp C_ LU GD D6 Gk Gi EW Eu Fi Cq DJ Ct Dg Ce)else none)) v
theorem AGN:Bo []:=by delta Bo;intros;kernel_rfl
theorem AGR:Bo (false::[]):=by delta Bo;intros;kernel_rfl
theorem AE5:Bo (false::false::[]):=by delta Bo;intros;kernel_rfl
theorem AGk:Bo (false::false::false::[]):=by delta Bo;intros;kernel_rfl
theorem AFy(ω:List Bool):Bo (false::false::false::false::ω):=by delta Bo;intros;kernel_rfl
theorem AFZ(ω:List Bool):Bo (false::false::false::true::ω):=by delta Bo;intros;kernel_rfl
theorem AGw(ω:List Bool):Bo (false::false::true::ω):=by delta Bo;intros;kernel_rfl
theorem AF6:Bo (false::true::[]):=by delta Bo;intros;kernel_rfl
theorem AGf:Bo (false::true::false::[]):=by delta Bo;intros;kernel_rfl
theorem AC1:Bo (false::true::false::false::[]):=by delta Bo;intros;kernel_rfl
theorem ADy(ω:List Bool):Bo (false::true::false::false::false::ω):=by delta Bo;intros;kernel_rfl
theorem ADf(ω:List Bool):Bo (false::true::false::false::true::ω):=by delta Bo;intros;kernel_rfl
theorem ADq:Bo (false::true::false::true::[]):=by delta Bo;intros;kernel_rfl
theorem AC8(ω:List Bool):Bo (false::true::false::true::false::ω):=by delta Bo;intros;kernel_rfl
theorem ACe:Bo (false::true::false::true::true::[]):=by delta Bo;intros;kernel_rfl
theorem AC6(ω:List Bool):Bo (false::true::false::true::true::false::ω):=by delta Bo;intros;kernel_rfl
theorem ADB(ω:List Bool):Bo (false::true::false::true::true::true::ω):=by delta Bo;intros;kernel_rfl
theorem AEF:Bo (false::true::true::[]):=by delta Bo;intros;kernel_rfl
theorem ADb(ω:List Bool):Bo (false::true::true::false::ω):=by delta Bo;intros;kernel_rfl
theorem ADi:Bo (false::true::true::true::[]):=by delta Bo;intros;kernel_rfl
theorem ADp(ω:List Bool):Bo (false::true::true::true::false::ω):=by delta Bo;intros;kernel_rfl
theorem AEE(ω:List Bool):Bo (false::true::true::true::true::ω):=by delta Bo;intros;kernel_rfl
theorem ADI:Bo (true::[]):=by delta Bo;intros;kernel_rfl
theorem ADA(ω:List Bool):Bo (true::false::ω):=by delta Bo;intros;kernel_rfl
theorem ADe:Bo (true::true::[]):=by delta Bo;intros;kernel_rfl
theorem AD_(ω:List Bool):Bo (true::true::false::ω):=by delta Bo;intros;kernel_rfl
theorem AC9:Bo (true::true::true::[]):=by delta Bo;intros;kernel_rfl
theorem AEA(ω:List Bool):Bo (true::true::true::false::ω):=by delta Bo;intros;kernel_rfl
theorem ACV(ω:List Bool):Bo (true::true::true::true::ω):=by delta Bo;intros;kernel_rfl
theorem AP8(zD:ABy->Int->Option HG)(zG:Int->Int->Option H3)(fu:List Int->Int->Option G9)(ir:Int->Option Ht)(iw:ABr->Int->Option GQ)(eP:ABR->Int->Option G6)(gD:ABU->ACG->Int->Int->Option GZ)(fq:Int->Option Kd)(iR:ABU->ABr->Int->Int->Option Hu)(n:Nat)(v:cQ.V)(ω:List Bool):Hz ⟨T,Rm [(69,⟨i69,o69,i69.un zD⟩),(71,⟨zo,o71,zo.un zG⟩),(180,⟨jB,xz,jB.un fu⟩),(186,⟨iF,xU,iF.un ir⟩),(231,⟨iz,xo,iz.un iw⟩),(278,⟨iv,xK,iv.un eP⟩),(279,⟨i_,xJ,i_.un gD⟩),(280,⟨iY,yr,iY.un fq⟩),(281,⟨iU,yq,iU.un iR⟩)],Cb [(10,[0,1,2,3,4,5,6,7,8,9,10,11]),(18,[0,1,2,3,4,5,6,7,8,9,10,11,12,13,14,15,16,17,18,19])]⟩ mD Tryz.f221 (MZ 8 jP n) 8 ω (cQ.st 207 v)=cQ.un (fun(t1:Int) (t6:Int) (t8:Int) (t47:Int) (t49:Int) (t50:Bool) (b0:AAC) (b1:AAT) (b2:AAC) (b3:AAU) (b4:ABO) (b5:ABP) (b6:AAq) (b7:AA1) (Dq:Int) (D5:Int) (CT:Bool) (EE:Int) (Fp:Int) (C_:Bool) (LU:AAC) (GD:AAT) (D6:AAC) (Gk:AAU) (Gi:ABO) (EW:ABP) (Eu:AAq) (Fi:AA1) (Cq:ABR) (DJ:ABR) (Ct:Int) (Dg:Int) (Ce:AB_)=>
 cond ((decide (t8<=(Ce.length:Int))))
  ((zG Dg t8).bind fun u7=>
  (eP Cq u7.1.1).bind fun u8=>
  cond (!u8.1.1.2.1)
   ((BN n) t1 t6 (Aa (t8+1)) t47 t49 t50 b0 b1 b2 b3 b4 b5 b6 b7 Dq D5 CT EE Fp C_ LU GD D6 Gk Gi EW Eu Fi Cq DJ Ct Dg Ce)
  (cond (u8.1.1.1.2.1 !=0)
   ((BN n) t1 t6 (Aa (t8+1)) t47 t49 t50 b0 b1 b2 b3 b4 b5 b6 b7 Dq D5 CT EE Fp C_ LU GD D6 Gk Gi EW Eu Fi Cq DJ Ct Dg Ce)
  (if(0:Int)<=Aa (t8-1)/\Aa (t8-1)<(Ce.length:Int)then(
  cond (((Ce.getD ((Aa (t8-1)).toNat) ([],[],false,())).2.2.1))
   ((BN n) t1 t6 (Aa (t8+1)) t47 t49 t50 b0 b1 b2 b3 b4 b5 b6 b7 Dq D5 CT EE Fp C_ LU GD D6 Gk Gi EW Eu Fi Cq DJ Ct Dg Ce)
  ((gD (b0,Dq,()) (Dg,Ce,()) t8 t1).bind fun EP=>
  (BN n) t1 t6 (Aa (t8+1)) t47 t49 t50 b0 b1 b2 b3 b4 b5 b6 b7 Dq D5 CT EE Fp C_ LU GD D6 Gk Gi EW Eu Fi Cq DJ Ct EP.1.1.1.1 EP.2.1))else none)))
 (if(0:Int)<=t6/\t6<(b4.length:Int)then(
 (BO n) t1 t6 0 t47 t49 t50 b0 b1 b2 b3 (b4.set (t6.toNat) (Dg,Ce,())) b5 b6 b7 Dq D5 CT EE Fp C_ LU GD D6 Gk Gi EW Eu Fi Cq DJ Ct Dg Ce)else none)) v:=(AG AGN (AG AGR (AG AE5 (AG AGk AFy AFZ) AGw) (AG AF6 (AG AGf (AG AC1 ADy ADf) (AG ADq AC8 (AG ACe AC6 ADB))) (AG AEF ADb (AG ADi ADp AEE)))) (AG ADI ADA (AG ADe AD_ (AG AC9 AEA ACV)))) ω zD zG fu ir iw eP gD fq iR n v
theorem ARk(n:Nat)(v:cQ.V)(ω:List Bool):Hz ACn mD Tryz.f221 (MZ 8 jP n) 8 ω (cQ.st 207 v)=cQ.un (MM (Bm n) (BN n) (BO n) (Bq n) (Bj n)) v:=AP8 Cn Ej DV DD E9 Hd Fy He Ho n v ω
theorem AHd(zD:ABy->Int->Option HG)(zG:Int->Int->Option H3)(fu:List Int->Int->Option G9)(ir:Int->Option Ht)(iw:ABr->Int->Option GQ)(eP:ABR->Int->Option G6)(gD:ABU->ACG->Int->Int->Option GZ)(fq:Int->Option Kd)(iR:ABU->ABr->Int->Int->Option Hu)(n:Nat)(v:fN.V)(ω:List Bool):Hz ⟨T,Rm [(69,⟨i69,o69,i69.un zD⟩),(71,⟨zo,o71,zo.un zG⟩),(180,⟨jB,xz,jB.un fu⟩),(186,⟨iF,xU,iF.un ir⟩),(231,⟨iz,xo,iz.un iw⟩),(278,⟨iv,xK,iv.un eP⟩),(279,⟨i_,xJ,i_.un gD⟩),(280,⟨iY,yr,iY.un fq⟩),(281,⟨iU,yq,iU.un iR⟩)],Cb [(10,[0,1,2,3,4,5,6,7,8,9,10,11]),(18,[0,1,2,3,4,5,6,7,8,9,10,11,12,13,14,15,16,17,18,19])]⟩ mD Tryz.f221 (MZ 8 jP n) 15 ω (fN.st 207 v)=fN.un (fun(t1:Int) (t6:Int) (t11:Int) (t47:Int) (t49:Int) (t50:Bool) (b0:AAC) (b1:AAT) (b2:AAC) (b3:AAU) (b4:ABO) (b5:ABP) (b6:AAq) (b7:AA1) (Dq:Int) (D5:Int) (CT:Bool) (EE:Int) (Fp:Int) (C_:Bool) (LU:AAC) (GD:AAT) (D6:AAC) (Gk:AAU) (Gi:ABO) (EW:ABP) (Eu:AAq) (Fi:AA1) (Cq:ABR) (DJ:ABR) (Ct:Int) (Dg:Int) (Ce:AB_)=>
 cond ((decide (t11<(b7.length:Int))))
  (if(0:Int)<=t11/\t11<(b7.length:Int)then(
  let x65:Int:=(b7.getD (t11.toNat) (0,[],false,())).1
  (ir x65).bind fun u66=>
  cond (u66.1.1==Dg)
   ((fq x65).bind fun u67=>
   cond ((decide (u67.1.1<=(Ce.length:Int))))
    ((fq x65).bind fun u69=>
    if(0:Int)<=Aa (u69.1.1-1)/\Aa (u69.1.1-1)<(Ce.length:Int)then(
    cond (((Ce.getD ((Aa (u69.1.1-1)).toNat) ([],[],false,())).2.2.1))
     (if(0:Int)<=t11/\t11<(b7.length:Int)then(
     (BO n) t1 t6 (Aa (t11+1)) t47 t49 t50 b0 b1 b2 b3 b4 b5 b6 (b7.set (t11.toNat) ((b7.getD (t11.toNat) (0,[],false,())).1,(b7.getD (t11.toNat) (0,[],false,())).2.1,true,())) Dq D5 CT EE Fp C_ LU GD D6 Gk Gi EW Eu Fi Cq DJ Ct Dg Ce)else none)
    ((BO n) t1 t6 (Aa (t11+1)) t47 t49 t50 b0 b1 b2 b3 b4 b5 b6 b7 Dq D5 CT EE Fp C_ LU GD D6 Gk Gi EW Eu Fi Cq DJ Ct Dg Ce))else none)
   ((BO n) t1 t6 (Aa (t11+1)) t47 t49 t50 b0 b1 b2 b3 b4 b5 b6 b7 Dq D5 CT EE Fp C_ LU GD D6 Gk Gi EW Eu Fi Cq DJ Ct Dg Ce))
  ((BO n) t1 t6 (Aa (t11+1)) t47 t49 t50 b0 b1 b2 b3 b4 b5 b6 b7 Dq D5 CT EE Fp C_ LU GD D6 Gk Gi EW Eu Fi Cq DJ Ct Dg Ce))else none)
 ((Bm n) t1 (Aa (t6+1)) b0 b1 b2 b3 b4 b5 b6 b7 Dq D5 CT EE Fp C_ LU GD D6 Gk Gi EW Eu Fi Cq DJ Ct)) v:=by kernel_rfl
theorem AKM(n:Nat)(v:fN.V)(ω:List Bool):Hz ACn mD Tryz.f221 (MZ 8 jP n) 15 ω (fN.st 207 v)=fN.un (LB (Bm n) (BN n) (BO n) (Bq n) (Bj n)) v:=AHd Cn Ej DV DD E9 Hd Fy He Ho n v ω
theorem AMo(zD:ABy->Int->Option HG)(zG:Int->Int->Option H3)(fu:List Int->Int->Option G9)(ir:Int->Option Ht)(iw:ABr->Int->Option GQ)(eP:ABR->Int->Option G6)(gD:ABU->ACG->Int->Int->Option GZ)(fq:Int->Option Kd)(iR:ABU->ABr->Int->Int->Option Hu)(n:Nat)(v:fR.V)(ω:List Bool):Hz ⟨T,Rm [(69,⟨i69,o69,i69.un zD⟩),(71,⟨zo,o71,zo.un zG⟩),(180,⟨jB,xz,jB.un fu⟩),(186,⟨iF,xU,iF.un ir⟩),(231,⟨iz,xo,iz.un iw⟩),(278,⟨iv,xK,iv.un eP⟩),(279,⟨i_,xJ,i_.un gD⟩),(280,⟨iY,yr,iY.un fq⟩),(281,⟨iU,yq,iU.un iR⟩)],Cb [(10,[0,1,2,3,4,5,6,7,8,9,10,11]),(18,[0,1,2,3,4,5,6,7,8,9,10,11,12,13,14,15,16,17,18,19])]⟩ mD Tryz.f221 (MZ 8 jP n) 21 ω (fR.st 207 v)=fR.un (fun(t1:Int) (t13:Int) (b0:AAC) (b1:AAT) (b2:AAC) (b3:AAU) (b4:ABO) (b5:ABP) (b6:AAq) (b7:AA1) (Dq:Int) (D5:Int) (CT:Bool) (EE:Int) (Fp:Int) (C_:Bool) (LU:AAC) (GD:AAT) (D6:AAC) (Gk:AAU) (Gi:ABO) (EW:ABP) (Eu:AAq) (Fi:AA1) (Cq:ABR) (DJ:ABR) (Ct:Int)=>
 cond ((decide (t13<(b5.length:Int))))
  (if(0:Int)<=t13/\t13<(b5.length:Int)then(
  (Bj n) t1 t13 1 b0 b1 b2 b3 b4 b5 b6 b7 Dq D5 CT EE Fp C_ LU GD D6 Gk Gi EW Eu Fi Cq DJ Ct ((b5.getD (t13.toNat) (0,0,[],[],false,[],())).1) ((b5.getD (t13.toNat) (0,0,[],[],false,[],())).2.1) ((b5.getD (t13.toNat) (0,0,[],[],false,[],())).2.2.1) ((b5.getD (t13.toNat) (0,0,[],[],false,[],())).2.2.2.1) ((b5.getD (t13.toNat) (0,0,[],[],false,[],())).2.2.2.2.1) ((b5.getD (t13.toNat) (0,0,[],[],false,[],())).2.2.2.2.2.1))else none)
 (some ((((),Dq,(),(),(),D5,(),(),(),(),CT,()),()),(b0,b1,b2,b3,b4,b5,b6,b7,())))) v:=by kernel_rfl
theorem AKA(n:Nat)(v:fR.V)(ω:List Bool):Hz ACn mD Tryz.f221 (MZ 8 jP n) 21 ω (fR.st 207 v)=fR.un (LK (Bm n) (BN n) (BO n) (Bq n) (Bj n)) v:=AMo Cn Ej DV DD E9 Hd Fy He Ho n v ω
theorem AJQ(zD:ABy->Int->Option HG)(zG:Int->Int->Option H3)(fu:List Int->Int->Option G9)(ir:Int->Option Ht)(iw:ABr->Int->Option GQ)(eP:ABR->Int->Option G6)(gD:ABU->ACG->Int->Int->Option GZ)(fq:Int->Option Kd)(iR:ABU->ABr->Int->Int->Option Hu)(n:Nat)(v:fk.V)(ω:List Bool):Hz ⟨T,Rm [(69,⟨i69,o69,i69.un zD⟩),(71,⟨zo,o71,zo.un zG⟩),(180,⟨jB,xz,jB.un fu⟩),(186,⟨iF,xU,iF.un ir⟩),(231,⟨iz,xo,iz.un iw⟩),(278,⟨iv,xK,iv.un eP⟩),(279,⟨i_,xJ,i_.un gD⟩),(280,⟨iY,yr,iY.un fq⟩),(281,⟨iU,yq,iU.un iR⟩)],Cb [(10,[0,1,2,3,4,5,6,7,8,9,10,11]),(18,[0,1,2,3,4,5,6,7,8,9,10,11,12,13,14,15,16,17,18,19])]⟩ mD Tryz.f221 (MZ 8 jP n) 25 ω (fk.st 207 v)=fk.un (fun(t1:Int) (t13:Int) (t15:Int) (b0:AAC) (b1:AAT) (b2:AAC) (b3:AAU) (b4:ABO) (b5:ABP) (b6:AAq) (b7:AA1) (Dq:Int) (D5:Int) (CT:Bool) (EE:Int) (Fp:Int) (C_:Bool) (LU:AAC) (GD:AAT) (D6:AAC) (Gk:AAU) (Gi:ABO) (EW:ABP) (Eu:AAq) (Fi:AA1) (Cq:ABR) (DJ:ABR) (Ct:Int) (Dg:Int) (Ce:Int) (VU:AAC) (VW:ABR) (VB:Bool) (Ux:List AAC)=>
 if(0:Int)<=t13/\t13<(b5.length:Int)then(
 cond (decide (t15<=(((b5.getD (t13.toNat) (0,0,[],[],false,[],())).2.2.2.2.2.1).length:Int)))
  ((zD (b3,D5,()) Ce).bind fun u74=>
  (fu u74.2.1 t1).bind fun u75=>
  cond (u75.1.1)
   ((iw (Dg,Ce,VU,VW,VB,Ux,()) t15).bind fun u76=>
   (eP Cq u76.1.1.1.1).bind fun u77=>
   cond (u77.1.1.2.1)
    (cond (((u77.1.1.1.1==u76.1.1.1.1)&&((u77.1.1.1.2.1==u76.1.1.1.2.1)&&((u77.1.1.1.2.2.1==u76.1.1.1.2.2.1)&&((u77.1.1.1.2.2.2.1==u76.1.1.1.2.2.2.1)&&true)))))
     ((iR (b0,Dq,()) (Dg,Ce,VU,VW,VB,Ux,()) t15 t1).bind fun u79=>
     (Bj n) t1 t13 (Aa (t15+1)) b0 b1 b2 b3 b4 b5 b6 b7 Dq D5 CT EE Fp C_ LU GD D6 Gk Gi EW Eu Fi Cq DJ Ct u79.1.1.1.1 u79.1.1.1.2.1 u79.2.1 u79.2.2.1 u79.1.1.1.2.2.2.2.1 u79.2.2.2.1)
    ((Bj n) t1 t13 (Aa (t15+1)) b0 b1 b2 b3 b4 b5 b6 b7 Dq D5 CT EE Fp C_ LU GD D6 Gk Gi EW Eu Fi Cq DJ Ct Dg Ce VU VW VB Ux))
   ((Bj n) t1 t13 (Aa (t15+1)) b0 b1 b2 b3 b4 b5 b6 b7 Dq D5 CT EE Fp C_ LU GD D6 Gk Gi EW Eu Fi Cq DJ Ct Dg Ce VU VW VB Ux))
  (if(0:Int)<=t13/\t13<(b5.length:Int)then(
  (Bq n) t1 (Aa (t13+1)) b0 b1 b2 b3 b4 (b5.set (t13.toNat) (Dg,Ce,VU,VW,VB,Ux,())) b6 b7 Dq D5 CT EE Fp C_ LU GD D6 Gk Gi EW Eu Fi Cq DJ Ct)else none))
 (if(0:Int)<=t13/\t13<(b5.length:Int)then(
 (Bq n) t1 (Aa (t13+1)) b0 b1 b2 b3 b4 (b5.set (t13.toNat) (Dg,Ce,VU,VW,VB,Ux,())) b6 b7 Dq D5 CT EE Fp C_ LU GD D6 Gk Gi EW Eu Fi Cq DJ Ct)else none))else none) v:=by kernel_rfl
theorem AH0(n:Nat)(v:fk.V)(ω:List Bool):Hz ACn mD Tryz.f221 (MZ 8 jP n) 25 ω (fk.st 207 v)=fk.un (Ic (Bm n) (BN n) (BO n) (Bq n) (Bj n)) v:=AJQ Cn Ej DV DD E9 Hd Fy He Ho n v ω
theorem AbW(zD:ABy->Int->Option HG)(zG:Int->Int->Option H3)(fu:List Int->Int->Option G9)(ir:Int->Option Ht)(iw:ABr->Int->Option GQ)(eP:ABR->Int->Option G6)(gD:ABU->ACG->Int->Int->Option GZ)(fq:Int->Option Kd)(iR:ABU->ABr->Int->Int->Option Hu)(n:Nat)(ω:List Bool)(v:zY.V):DY ⟨T,Rm [(69,⟨i69,o69,i69.un zD⟩),(71,⟨zo,o71,zo.un zG⟩),(180,⟨jB,xz,jB.un fu⟩),(186,⟨iF,xU,iF.un ir⟩),(231,⟨iz,xo,iz.un iw⟩),(278,⟨iv,xK,iv.un eP⟩),(279,⟨i_,xJ,i_.un gD⟩),(280,⟨iY,yr,iY.un fq⟩),(281,⟨iU,yq,iU.un iR⟩)],Cb [(10,[0,1,2,3,4,5,6,7,8,9,10,11]),(18,[0,1,2,3,4,5,6,7,8,9,10,11,12,13,14,15,16,17,18,19])]⟩ mD Tryz.f221 (MZ 8 jP n) ω v=zY.un (fun(CR:Int) (CW:Int) (Bc:Bool) (p1:Int) (b0:AAC) (b1:AAT) (b2:AAC) (b3:AAU) (b4:ABO) (b5:ABP) (b6:AAq) (b7:AA1)=>
 if(0:Int)<=p1/\p1<(b1.length:Int)then(
 (Bm n) p1 0 b0 b1 b2 b3 b4 b5 b6 b7 CR CW Bc 0 0 false [] [] [] [] [] [] [] [] ((b1.getD (p1.toNat) ([],[],0,())).1) ((b1.getD (p1.toNat) ([],[],0,())).2.1) ((b1.getD (p1.toNat) ([],[],0,())).2.2.1))else none) v:=by kernel_rfl
theorem Aam(n:Nat)(ω:List Bool)(v:zY.V):DY ACn mD Tryz.f221 (MZ 8 jP n) ω v=zY.un (Q9 (Bm n) (BN n) (BO n) (Bq n) (Bj n)) v:=AbW Cn Ej DV DD E9 Hd Fy He Ho n ω v
def AZo:SQ:=mk Tryz.func221 zY APH WZ [s69,s71,oR,qG,APd,AKu,AWZ,AIe,AUv] [(10,[0,1,2,3,4,5,6,7,8,9,10,11]),(18,[0,1,2,3,4,5,6,7,8,9,10,11,12,13,14,15,16,17,18,19])] jP (hJ:= .cons (fun _=>rfl) ATk (.cons (fun _=>rfl) ARk (.cons (fun _=>rfl) AKM (.cons (fun _=>rfl) AKA (.cons (fun _=>rfl) AH0 (.nil)))))) (he:=Aam Ae)
def AZs:SQ:=mk Tryz.func134 cu ANr Wt [AAB,AWp,AZo] [] []
def AHD:SQ:=mk Tryz.func160 AEb gZ I_ [oR] [] [⟨3,⟨[(0,cV),(1,cV),(5,o_),(6,BK)],wB⟩,OV⟩]
def AZf:SQ:=mk Tryz.func222 AOI ANB Nr [ACT,AHD,AGd] [(8,[0,1,2])] [⟨5,⟨[(2,BK),(6,J7),(8,xP8),(9,BK)],ANR⟩,H_⟩] (hJ:= .cons (fun _=>rfl) (fun n v ω=>by rcases ω with _|⟨_|_,_⟩<;>kernel_rfl) (.nil))
def Abf:SQ:=mk Tryz.func223 ANO yL QT [ACm,AHD,ADT] [(7,[0,1,2,3,4,5,6])] [⟨5,⟨[(2,BK),(6,J7),(8,AAk),(9,BK)],AN5⟩,Jp⟩] (hJ:= .cons (fun _=>rfl) (fun n v ω=>by rcases ω with _|⟨_|_,_⟩<;>kernel_rfl) (.nil))
def AZm:SQ:=mk Tryz.func135 cu ⟨AU4,[DS,Wf,P1,K_,RD,TG,QC,Kk,DS]⟩ WX [s82,AC4,AAB,AZf,Abf] [(9,[0,1,2,3,5,6,7,8,9,10,11,12,13,14,15,16,17,18,19]),(13,[0,1,2,3,4,6,7,8,9,10,11,12,13,14,15,16,17,18,19])] [⟨7,⟨[(2,ix),(3,da),(4,.c (.ptr 11 0)),(7,BK)],ANd⟩,KU⟩,⟨11,⟨[(2,ix),(3,da),(4,.c (.ptr 11 0)),(8,BK)],ANd⟩,JR⟩]
def AZD:SQ:=mk Tryz.func282 nG CV Za [s82,AAJ] [] []
def Aap:SQ:=mk Tryz.func283 ⟨[(0,xg)],[]⟩ xn Zx [ATe] [] [⟨3,⟨[(0,xg),(3,o_),(4,BK)],[M8]⟩,JT⟩,⟨6,⟨[(0,xg),(3,o_),(4,BK),(5,BK)],[M8]⟩,JI⟩]
def Acb:SQ:=mk Tryz.func224 ANq ⟨AVu,[Vs,M8,M8]⟩ fh [wz,AAw,oR,AZD,Aap] [] [⟨6,⟨[(1,o_),(2,cV),(4,BK),(10,aR),(12,AAk),(13,.c (.ref 7)),(14,BK)],ANj⟩,Pn⟩,⟨11,⟨[(4,BK),(10,aR),(12,AAk),(13,.c (.ref 7)),(15,BK)],ANj⟩,NR⟩]
def AZg:SQ:=mk Tryz.func136 cu ⟨AU4,[DS,Vs,P1,K_,RD,TG,QC,Kk,DS]⟩ Wj [AHD,oR,Acb,AE2] [(3,[0,2,3,4,5,6,7,8,9,10])] [] (he:=fun ω v=>by rcases ω with _|⟨_|_,_|⟨_|_,_⟩⟩<;>kernel_rfl)
def AZZ:SQ:=mk Tryz.func226 mw xF j7 [] [] []
def AcY:SQ:=mk Tryz.func137 AEZ ⟨[(0,.Mo [.inr [.ref 0,.v tI,.ref 1,.ref 2,.ref 3,.v tI,.ref 4,.ref 8,.ref 6,.ref 7,.v .bool],.inl (.v tI)])],[DS,Wf,DS,K_,RD,P1,QC,Kk,TG]⟩ Wu [AL8,AZZ] [] []
def Ab7:SQ:=mk Tryz.func227 kJ uQ Rt [AC5,Yc,AAw,AWp,AE2] [] []
def AaI:SQ:=mk Tryz.func229 kJ xn Um [AAw,qG] [] [⟨3,⟨[(1,BK),(2,J7),(5,xP6),(6,BK)],[AQ5,M8]⟩,JG⟩]
def Acj:SQ:=mk Tryz.func228 AN6 yL UK [ACm,AC4,ADT,qG,ATe] [(8,[0,1,2,3,4,5,6,7,8,9]),(9,[0,1,2,3,4,5,7,8,9])] [⟨6,⟨[(3,r8),(4,J7),(5,aR),(8,xP8),(10,.c (.ptr 6 0)),(11,BK)],[vO,AAf,AVC,Fc,M8,qm,AUm,Fc,M8,qm]⟩,Lj⟩]
def Ab4:SQ:=mk Tryz.func138 cu uC Wb [s69,oR,AAB,Ab7,Acj,AaI] [(7,[0,1,2,3,4,5,6,7,8,9,10,11]),(9,[0,1,2,3,4,5,6,7,8,9,10,11,12]),(10,[0,1,2,3,4,5,6,7,8,9,10,11,12,13,14,15])] [] (he:=fun ω v=>by rcases ω with _|⟨_|_,_|⟨_|_,_|⟨_|_,_⟩⟩⟩<;>kernel_rfl)
def AVT:SQ:=mk Tryz.func286 AEb gZ Kh [AHD] [] []
def AWe:SQ:=mk Tryz.func285 AF0 CV Kj [s82,AHD,AAJ,AXk] [(3,[0,1])] []
def AaX:SQ:=mk Tryz.func230 ANh yL UL [ACm,ADT,AU1,AWe,AVT] [(4,[0,1,2,3,4,5,6])] [⟨8,⟨[(4,J7),(6,aR),(8,.c (.ptr 5 0)),(9,BK)],AGI⟩,La⟩]
def Abe:SQ:=mk Tryz.func139 AEZ uC Wm [s69,AaX] [(3,[0,1,2,3,4,5,6,7,8,9])] [] (he:=fun ω v=>by rcases ω with _|⟨_|_,_|⟨_|_,_⟩⟩<;>kernel_rfl)
def Aca:SQ:=mk Tryz.func140 cu uC Yr [s69,oR,AAB,AX9,APd] [(3,[0,1,2,3,4,5,6,7,8,9,10]),(9,[0,1,2,3,4,5,6,7,8,9,10,11]),(11,[0,1,2,3,4,5,6,7,8,9,10,11,12])] [] (he:=fun ω v=>by rcases ω with _|⟨_|_,_|⟨_|_,_⟩⟩<;>kernel_rfl)
def Abt:SQ:=mk Tryz.func232 xG CV Rz [s82,ADT] [(6,[0,1])] [⟨4,ANI,Kn⟩]
def Aco:SQ:=mk Tryz.func233 ANp ABF UM [ACy,Yc,AL8,ACb] [] []
def AZd:SQ:=mk Tryz.func141 AEZ ⟨[(0,.Mo [.inr [.ref 0,.v tI,.ref 1,.ref 2,.ref 8,.v tI,.ref 4,.ref 9,.ref 6,.ref 7,.v .bool],.inl (.v tI)])],[DS,Wf,DS,P1,RD,P1,QC,Kk,K_,TG]⟩ US [Abt,Aco] [(3,[0,1,2,3,4,5,6,7,8,9]),(5,[0,1,2,3,4,5,6,7,8,9])] [] (he:=fun ω v=>by rcases ω with _|⟨_|_,_⟩<;>kernel_rfl)
def AcZ:SQ:=mk Tryz.func142 AN0 ABF Wo [ACy,ACb,AA2,qG,AE2] [(4,[0,1,2,3,4])] []
def AZW:SQ:=mk Tryz.func291 AA_ Ft Vt [] [] [⟨2,⟨AJa,[ALM]⟩,Jz⟩]
def Abh:SQ:=mk Tryz.func235 tP Ft eS [AZW] [] [⟨2,⟨[(1,BK),(2,J7),(5,BK)],sG⟩,Oe⟩]
def AZ4:SQ:=mk Tryz.func236 ⟨[(0,.row Y11),(1,.row Y9),(2,BK)],[]⟩ ⟨ADv,[.sl 9 Y14]⟩ Qm [s71,AW2,AAB,AKu] [(6,[0,1,2,3]),(7,[0,1,2,3]),(8,[0,1,3,4])] [⟨4,⟨[(3,J7),(4,aR),(7,.c (.ref 2)),(8,.c (.ref 3)),(9,BK)],[AEW,AXM,.sl 9 Y14,Fc]⟩,Ja⟩] (hJ:= .cons (fun _=>rfl) (fun n v ω=>by rcases ω with _|⟨_|_,_|⟨_|_,_⟩⟩<;>kernel_rfl) (.nil))
def AZ7:SQ:=mk Tryz.func288 ⟨[(0,sn),(1,tE)],[]⟩ ⟨[(0,.Mo [.inl (.ref 0),.inl (.v .bool)])],wB⟩ aG [AAJ] [] [⟨3,⟨[(1,tE),(2,J7),(6,xP6),(7,BK)],ANA⟩,LW⟩]
def Abc:SQ:=mk Tryz.func289 ⟨[(0,.row Y9),(1,.row Y8),(2,BK),(3,BK)],[]⟩ ABw Io [AMQ] [] []
def AZ5:SQ:=mk Tryz.func290 ⟨[(0,cV),(1,BK),(2,tE)],[]⟩ ⟨[(0,.agg [.v tI,.v tI,.v .str])],[]⟩ Mq [oR,ALn,AYE] [] [⟨4,⟨[(0,cV),(1,BK),(2,tE),(6,J7),(7,aR),(8,xP0),(9,BK)],[.mem [.v tI,.v tI,.v .str],ACr]⟩,ND⟩]
def AZe:SQ:=mk Tryz.func234 ANy ⟨AYH,[.sl 9 Y8]⟩ QQ [s71,AMQ,AXb,ACb,qG,AIe,AWe,AVT,AZ7,Abc,AZ5] [(9,[0,1,2,4,5]),(14,[0,1,2,3,4,5]),(16,[0,1,2,4,5,6])] []
def Acg:SQ:=mk Tryz.func143 cu uC W3 [Yc,AZe,Abh,AZ4] [(3,[0,1,2,3,4,5,6,7,8,9,10])] [] (he:=fun ω v=>by rcases ω with _|⟨_|_,_|⟨_|_,_|⟨_|_,_⟩⟩⟩<;>kernel_rfl)
def AaW:SQ:=mk Tryz.func144 cu ⟨[(0,.Mo [.inr [.ref 0,.v tI,.ref 1,.ref 2,.ref 3,.v tI,.ref 8,.ref 5,.ref 6,.ref 7,.v .bool],.inl (.v tI)])],[DS,Wf,DS,K_,P1,TG,QC,Kk,oI]⟩ Wp [AOr] [] [⟨5,⟨[(2,ix),(3,ed),(4,da),(6,.c (.ref 19)),(7,BK)],[DS,Wf,DS,K_,oI,TG,QC,Kk,sK,AFq,AEf,Fc,Z7,Fc,TF,aB,Zz,Z0,Vp,oI]⟩,My⟩]
def AaE:SQ:=mk Tryz.func238 kJ uQ SV [AC5,AAw,AA2] [(11,[0,1,2,3,6])] [⟨8,AOB,Kb⟩] (hJ:= .cons (fun _=>rfl) (fun n v ω=>by rcases ω with _|⟨_|_,_⟩<;>kernel_rfl) (.nil))
def AcK:SQ:=mk Tryz.func145 cu uC UT [AAB,AXz,AaE] [(4,[0,1,2,3,4,5,6,7,8,9,10]),(6,[0,1,2,3,4,5,6,7,8,9,10,12])] [] (he:=fun ω v=>by rcases ω with _|⟨_|_,_⟩<;>kernel_rfl)
def s59:SQ:=mk Tryz.func59 cu ⟨[(0,.Mo [.inr [.ref 0,.v tI,.ref 1,.ref 8,.ref 9,.v tI,.ref 10,.ref 11,.ref 6,.ref 12,.v .bool],.inl (.v tI)])],[DS,Vs,P1,P1,P1,P1,QC,P1,DS,K_,oI,.sl 1 Y7,Kk]⟩ bw [Ac8,AcS,AcU,AZs,AZm,AZg,AcY,Ab4,Abe,Aca,AZd,AcZ,Acg,AaW,AcK] [] []
def s22:SQ:=mk Tryz.func22 ANH ANr Wr [s51,s52,s58,s59] [(3,[0,1,2])] [] (he:=fun ω v=>by rcases ω with _|⟨_|_,_|⟨_|_,_⟩⟩<;>kernel_rfl)
def s37:SQ:=mk Tryz.func37 AEn ⟨[(0,.Mo [.inr [.sl true tI,.v tI,.sl true Y2,.sl true tI,.sl true Y3,.v tI,.sl true Y6,.sl true Y7,.sl true Y9,.sl true Y10,.v .bool],.inl (.ref 1),.inr [.sl true tI,.v tI,.sl true Y2,.sl true tI,.sl true Y3,.v tI,.sl true Y6,.sl true Y7,.sl true Y9,.sl true Y10,.v .bool]])],[wm,.sl 9 Y12]⟩ OB [s22,s63,s81,s82,s83,s84] [(21,[0,2,3,4,5,6,7,8,9,11,12,13,14,15,16,17,18,19,20,21])] [⟨4,⟨[(0,J7),(1,BK),(4,aR),(6,da),(7,ly),(8,.c (.ref 21)),(9,BK)],[wm,AKD,Fc,Z7,Fc,TF,aB,Zz,Z0,Vp,AEf,Fc,Z7,Fc,TF,aB,Zz,Z0,Vp,.mem [.ref 20,.v tI],Fc,Fc]⟩,E4⟩,⟨7,⟨[(0,J7),(1,BK),(4,aR),(6,da),(7,ly),(8,.c (.sl true tI))],[wm,AKD,Fc,Z7,Fc,TF,aB,Zz,Z0,Vp,AEf,Fc,Z7,Fc,TF,aB,Zz,Z0,Vp,.mem [.sl true tI,.v tI]]⟩,E8⟩,⟨14,⟨[(0,J7),(4,aR),(6,da),(10,ly),(12,.c (.ptr 20 0)),(13,.c (.ref 21)),(14,BK),(15,BK)],[wm,AKD,Fc,Z7,Fc,TF,aB,Zz,Z0,Vp,AEf,Fc,Z7,Fc,TF,aB,Zz,Z0,Vp,AVm,AVm,.sl 9 Y12]⟩,Dt⟩]
abbrev i10:Bh:=AFl
abbrev o10:Bh:=⟨[(0,.Mo [.inr [.sl true tI,.v tI,.sl true Y2,.sl true tI,.sl true Y3,.v tI,.sl true Y6,.sl true Y7,.sl true Y9,.sl true Y10,.v .bool],.inl (.ref 0)])],[.sl 9 Y12]⟩
def s10:SQ:=mk Tryz.func10 i10 o10 HL [s37,s38,s39] [] []
abbrev i86:Bh:=⟨[(0,cV)],[]⟩
abbrev o86:Bh:=gZ
def s86:SQ:=mk Tryz.func86 i86 o86 DT [] [] []
def s85:SQ:=mk Tryz.func85 AB0 ⟨[(0,.agg [.ref 0,.v tI])],wB⟩ Qj [s86] [(1,[0])] []
abbrev i87:Bh:=ABT
abbrev o87:Bh:=AGG
def s87:SQ:=mk Tryz.func87 i87 o87 En [s86] [] [⟨3,⟨[(2,J7),(3,xP8),(10,.c (.sl false Y3)),(11,BK),(12,BK)],[.mem [.ref 1,.v tI],TF,.mem [.ref 3,.v tI],TF]⟩,H6⟩]
def AWa:SQ:=mk Tryz.func172 ABX xn JN [] [] []
def s88:SQ:=mk Tryz.func88 nD AGC DN [AWa] [(1,[0])] []
abbrev i89:Bh:=AA_
abbrev o89:Bh:=AF8
def s89:SQ:=mk Tryz.func89 i89 o89 GC [s86] [] [⟨3,⟨[(2,J7),(3,xP8),(10,AML),(11,BK),(12,BK)],ANR⟩,Jw⟩]
def s90:SQ:=mk Tryz.func90 yH xF Gp [s86,AWa] [(2,[0,1]),(6,[0,1,2,3,5,6])] [⟨4,⟨[(2,J7),(3,AAk),(17,AJA),(18,BK),(19,BK)],AN5⟩,Lc⟩] (hJ:= .cons (fun _=>rfl) (fun n v ω=>by rcases ω with _|⟨_|_,_|⟨_|_,_⟩⟩<;>kernel_rfl) (.nil))
def s91:SQ:=mk Tryz.func91 ABc ABw NG [] [] []
def s40:SQ:=mk Tryz.func40 bV AN1 Lm [s85,s86,s87,s88,s89,s90,s91] [(1,[0,1]),(5,[0,1,2,3,4,5,6,7,8,9,11,13,14,15,16,17,18,19]),(10,[0,1,2,3,4,5,6,7,8,9,11,12,13,14,16,17,18,19]),(15,[0,1,2,3,4,5,6,7,8,9,11,12,13,14,15,17,18,19]),(20,[0,1,2,3,4,5,6,7,8,9,11,12,13,14,15,16,18,19])] [⟨3,⟨[(1,J7),(2,aR),(3,da),(25,xg),(26,BK),(27,BK)],dA⟩,Fg⟩,⟨8,⟨[(1,J7),(2,aR),(3,da),(40,.c (.sl false Y6)),(41,BK),(42,BK)],dA⟩,Fm⟩,⟨13,⟨[(1,J7),(2,aR),(3,da),(55,.c (.sl false Y7)),(56,BK),(57,BK)],dA⟩,E_⟩,⟨18,⟨[(1,J7),(2,aR),(3,da),(70,qi),(71,BK),(72,BK)],dA⟩,Ex⟩] (hJ:= .cons (fun _=>rfl) (fun n v ω=>by rcases ω with _|⟨_|_,_|⟨_|_,_⟩⟩<;>kernel_rfl) (.cons (fun _=>rfl) (fun n v ω=>by rcases ω with _|⟨_|_,_|⟨_|_,_⟩⟩<;>kernel_rfl) (.cons (fun _=>rfl) (fun n v ω=>by rcases ω with _|⟨_|_,_|⟨_|_,_⟩⟩<;>kernel_rfl) (.cons (fun _=>rfl) (fun n v ω=>by rcases ω with _|⟨_|_,_|⟨_|_,_⟩⟩<;>kernel_rfl) (.nil))))) (he:=fun ω v=>by rcases ω with _|⟨_|_,_|⟨_|_,_|⟨_|_,_⟩⟩⟩<;>kernel_rfl)
abbrev i43:Bh:=ANX
abbrev o43:Bh:=CV
def iT:SQ:=mk Tryz.func43 i43 o43 BC [] [] []
def s44:SQ:=mk Tryz.func44 AB0 CV FI [iT] [] [⟨2,⟨[(1,J7),(6,cV),(7,BK),(8,BK)],APQ⟩,Ld⟩]
def Acq:SQ:=mk Tryz.func161 nF CV WU [iT] [] [⟨2,⟨[(0,cV),(1,BK),(7,cV),(8,BK),(9,BK)],[]⟩,KP⟩]
def s74:SQ:=mk Tryz.func74 nG CV EH [s44,Acq] [] []
def s72:SQ:=mk Tryz.func72 Ft CV Hq [iT] [] []
def s73:SQ:=mk Tryz.func73 Ft CV XG [iT] [] []
def s53:SQ:=mk Tryz.func53 Ft CV Dw [s72,s73] [] []
def AHu:SQ:=mk Tryz.func100 ⟨[(0,.c (.v .str))],[]⟩ CV GV [] [] []
def s95:SQ:=mk Tryz.func95 Ft Ft FR [s53] [] []
def AIw:SQ:=mk Tryz.func251 ⟨[(0,.row Y1)],[]⟩ CV Mj [iT,s53,s95,AHu] [(1,[0])] []
def AZI:SQ:=mk Tryz.func173 ABX CV OZ [AIw] [] [⟨2,⟨[(5,r8),(6,BK),(7,BK)],[]⟩,II⟩]
def AU0:SQ:=mk Tryz.func174 ABX CV Kr [] [(4,[0])] [⟨2,⟨[(0,r8),(5,r8),(6,BK),(7,BK)],[]⟩,GM⟩]
def s92:SQ:=mk Tryz.func92 nD CV FT [iT,AZI,AU0] [] []
def AZV:SQ:=mk Tryz.func249 nF Ft Ot [] [] [⟨2,⟨[(0,cV),(1,BK),(7,BK),(8,BK)],[]⟩,GY⟩]
def zh:SQ:=mk Tryz.func162 nF CV Bz [AZV] [] []
def AV4:SQ:=mk Tryz.func252 ⟨[(0,BK),(1,.c (.ni (.cons (.sl tI) .unit)))],[]⟩ CV Ra [zh] [] []
def Aak:SQ:=mk Tryz.func294 ⟨[(0,cV),(1,AMr)],[]⟩ Ft Du [AV4] [] [⟨2,⟨[(0,cV),(1,AMr),(7,BK),(8,BK)],[]⟩,CD⟩]
def Aa2:SQ:=mk Tryz.func247 ⟨[(0,o_),(1,AMr)],[DS]⟩ ANw Cy [AV4,Aak] [] [⟨5,⟨[(0,o_),(1,AMr),(5,BK),(6,BK)],[DS]⟩,B6⟩]
def AJ0:SQ:=mk Tryz.func175 AEb AFe NO [s86,Aa2] [] []
abbrev i93:Bh:=ABi
abbrev o93:Bh:=CV
def s93:SQ:=mk Tryz.func93 i93 o93 DI [AJ0] [] []
def s75:SQ:=mk Tryz.func75 nG Ft Yz [s74,zh] [] [⟨5,⟨[(2,J7),(5,xP6),(13,cV),(14,BK),(15,BK)],ANA⟩,O_⟩]
abbrev i32:Bh:=nG
abbrev o32:Bh:=CV
def s32:SQ:=mk Tryz.func32 i32 o32 G3 [s74,s75] [(1,[0])] []
def s45:SQ:=mk Tryz.func45 y_ CV LH [s32,s74,s92,s93] [] [⟨4,⟨[(0,xS),(32,xg),(33,BK),(34,BK)],[]⟩,FN⟩]
def s94:SQ:=mk Tryz.func94 ⟨[(0,sn),(1,.row Y3)],[]⟩ CV bl [s32,iT] [] []
abbrev i46:Bh:=AHB
abbrev o46:Bh:=CV
def s46:SQ:=mk Tryz.func46 i46 o46 K6 [iT,s44,s94,s95] [(7,[0,1])] [⟨2,⟨[(2,J7),(3,aR),(9,.c (.sl false Y3)),(10,BK),(11,BK)],AWG⟩,Ky⟩]
def Ac4:SQ:=mk Tryz.func176 CV Ft cg [] [] []
abbrev i96:Bh:=AEt
abbrev o96:Bh:=CV
def s96:SQ:=mk Tryz.func96 i96 o96 Gn [s32,s44,s72,s74,AHu,Ac4] [(5,[0,1,2])] [⟨3,⟨[(2,J7),(3,aR),(5,BK),(9,AML),(10,BK),(11,BK)],AXw⟩,MC⟩]
def s97:SQ:=mk Tryz.func97 ABi CV Jq [iT] [] []
def s47:SQ:=mk Tryz.func47 y_ CV Kc [s96,s97] [(4,[0])] [⟨2,⟨[(0,xS),(8,.c (.sl false Y6)),(9,BK),(10,BK)],[]⟩,Es⟩]
def AOw:SQ:=mk Tryz.func110 Ft Ft Tx [s53] [] []
def AWd:SQ:=mk Tryz.func177 yH Ft S7 [AOw] [] []
def AcH:SQ:=mk Tryz.func178 yH CV VC [s95,AU0,AIw] [(4,[0,1])] [⟨2,⟨[(1,J7),(6,r8),(7,BK),(8,BK)],[AAf]⟩,MD⟩]
def s98:SQ:=mk Tryz.func98 xG CV Hw [iT,s44,s72,s74,AWd,AcH] [] [⟨2,⟨[(2,J7),(3,aR),(10,AJA),(11,BK),(12,BK)],APR⟩,Lk⟩]
def s36:SQ:=mk Tryz.func36 ABT Ft MF [] [] [⟨2,⟨[(6,.c (.sl false Y3)),(7,BK),(8,BK)],[]⟩,IL⟩]
def s48:SQ:=mk Tryz.func48 y_ CV Mi [s36,s98] [(4,[0])] [⟨2,⟨[(0,xS),(8,.c (.sl false Y7)),(9,BK),(10,BK)],[]⟩,Fq⟩]
def s99:SQ:=mk Tryz.func99 ABc CV UJ [iT] [] []
def s49:SQ:=mk Tryz.func49 y_ CV Km [s99] [] [⟨2,⟨[(0,xS),(8,qi),(9,BK),(10,BK)],[]⟩,Er⟩]
def s50:SQ:=mk Tryz.func50 y_ CV N3 [s95,s97,AHu] [(4,[0])] [⟨2,⟨[(0,xS),(8,ACz),(9,BK),(10,BK)],[]⟩,GL⟩]
abbrev i16:Bh:=bV
abbrev o16:Bh:=CV
def s16:SQ:=mk Tryz.func16 i16 o16 Ca [s44,s45,s46,s47,s48,s49,s50] [] []
def Aar:SQ:=mk Tryz.func111 Ft ⟨[(0,.c (.v .str))],[]⟩ cE [] [] []
def s56:SQ:=mk Tryz.func56 AGh CV Zq [iT,AHu,Aar] [] [⟨4,⟨[(1,J7),(3,aR),(11,.c (.ref 2)),(12,BK),(13,BK)],[AFq,AFq,.sl 9 tU]⟩,D1⟩]
abbrev zj:Bh:=Ft
abbrev ALD:Bh:=gZ
def ALV:SQ:=mk Tryz.func188 zj ALD Hy [iT] [] [⟨5,⟨[(0,BK),(3,o_),(10,BK)],wB⟩,KX⟩]
abbrev i210:Bh:=AHB
abbrev AWA:Bh:=AGG
def AJC:SQ:=mk Tryz.func210 i210 AWA EX [s46,s87] [] []
abbrev vg:Bh:=AN8
abbrev AMh:Bh:=ANx
def AYD:RC:=⟨vg,AMh,(vg.un Ml)⟩
def AZP:ba:=⟨T,Rm (SP.l [s32,s46,s86,s87,AJC]),Cb [(4,[0,1,2])]⟩
def AT0:List (Lp AMh):=[]
theorem Aac(g32:ABU->List Int->Option kZ)(g46:ABU->ABy->Option SE)(g86:List Int->Option cq)(g87:ABy->Option Ij)(AKN:ABU->ABy->Option c_)(n:Nat)(ω:List Bool)(v:vg.V):DY ⟨T,Rm [(32,⟨i32,o32,i32.un g32⟩),(46,⟨i46,o46,i46.un g46⟩),(86,⟨i86,o86,i86.un g86⟩),(87,⟨i87,o87,i87.un g87⟩),(210,⟨i210,AWA,i210.un AKN⟩)],Cb [(4,[0,1,2])]⟩ AYD Tryz.f187 (MZ 0 AT0 n) ω v=vg.un (fun(p0:ABU) (p1:ABy) (p2:AAC)=>
 (g46 (p0.1,p0.2.1,()) (p1.1,p1.2.1,())).bind fun u1=>
 cond (!u1.1.1)
  ((AKN (p0.1,p0.2.1,()) (p1.1,p1.2.1,())).bind fun u2=>
  some (((((),u2.1.1.2.1,()),0,false,()),()),(u2.2.1,())))
 ((g32 (p0.1,p0.2.1,()) p2).bind fun u3=>
 cond (!u3.1.1)
  ((AKN (p0.1,p0.2.1,()) (p1.1,p1.2.1,())).bind fun u4=>
  some (((((),u4.1.1.2.1,()),0,false,()),()),(u4.2.1,())))
 (cond (((p1.1.length:Int)==30))
  ((AKN (p0.1,p0.2.1,()) (p1.1,p1.2.1,())).bind fun u6=>
  some (((((),u6.1.1.2.1,()),0,false,()),()),(u6.2.1,())))
 ((g87 (p1.1,p1.2.1,())).bind fun u7=>
 (g86 p2).bind fun u8=>
 if u7.2.1.length+1<=Go.M.D8 then(
 let x9:AAU:=u7.2.1++[(u8.2.1,false,0,())]
 some (((((),u7.1.1.2.1,()),(x9.length:Int),true,()),()),(x9,())))else none)))) v:=by rcases ω with _|⟨_|_,_|⟨_|_,_|⟨_|_,_|⟨_|_,_⟩⟩⟩⟩<;>kernel_rfl
theorem Abk(n:Nat)(ω:List Bool)(v:vg.V):DY AZP AYD Tryz.f187 (MZ 0 AT0 n) ω v=vg.un (Ml) v:=Aac G3 K6 DT En EX n ω v
def AWj:SQ:=mk Tryz.func187 vg AMh Ml [s32,s46,s86,s87,AJC] [(4,[0,1,2])] AT0 (hJ:= .nil) (he:=Abk Ae)
abbrev AAV:Bh:=tq
abbrev APl:Bh:=⟨oN,[.mem [.ref 1,.v tI,.ref 2,.ref 3,.ref 9,.v tI,.ref 10,.ref 11,.ref 7,.ref 8,.v .bool],DS,Wf,DS,P1,P1,P1,QC,Kk,K_,RD,TG]⟩
def AWV:RC:=⟨AAV,APl,(AAV.un KV)⟩
def Abv:ba:=⟨T,Rm (SP.l [AWj,ALV]),Cb [(3,[0,1,2,3,4,5,6,7,8])]⟩
def AT6:List (Lp APl):=[]
theorem AaL(AWm:ABU->ABy->List Int->Option dk)(zZ:Int->Option Ha)(n:Nat)(ω:List Bool)(v:AAV.V):DY ⟨T,Rm [(187,⟨vg,AMh,vg.un AWm⟩),(188,⟨zj,ALD,zj.un zZ⟩)],Cb [(3,[0,1,2,3,4,5,6,7,8])]⟩ AWV Tryz.f112 (MZ 9 AT6 n) ω v=AAV.un (fun(p1:Int) (AE:Int) (AS:Int) (AK:Bool) (b1:AAC) (b2:AAT) (b3:AAC) (b4:AAU) (b5:ABO) (b6:ABP) (b7:AAq) (b8:AA1)=>
 cond (((b5.length:Int)==4))
  (some ((4,()),(((),AE,(),(),(),AS,(),(),(),(),AK,()),b1,b2,b3,(),(),(),b7,b8,b4,b5,b6,())))
 ((zZ p1).bind fun u2=>
 (AWm (b1,AE,()) (b4,AS,()) u2.2.1).bind fun u3=>
 cond (!u3.1.1.2.2.1)
  (some ((4,()),(((),AE,(),(),(),AS,(),(),(),(),AK,()),b1,b2,b3,(),(),(),b7,b8,b4,b5,b6,())))
 (if b5.length+1<=Go.M.D8 then(
 some ((0,()),(((),AE,(),(),(),u3.1.1.1.2.1,(),(),(),(),AK,()),b1,b2,b3,(),(),(),b7,b8,u3.2.1,(b5++[(u3.1.1.2.1,[],())]),[],())))else none))) v:=by rcases ω with _|⟨_|_,_|⟨_|_,_⟩⟩<;>kernel_rfl
theorem Abm(n:Nat)(ω:List Bool)(v:AAV.V):DY Abv AWV Tryz.f112 (MZ 9 AT6 n) ω v=AAV.un (KV) v:=AaL Ml Hy n ω v
def AaZ:SQ:=mk Tryz.func112 AAV APl KV [AWj,ALV] [(3,[0,1,2,3,4,5,6,7,8])] AT6 (hJ:= .nil) (he:=Abm Ae)
abbrev APb:Bh:=AEt
abbrev AXm:Bh:=AF8
def ASe:SQ:=mk Tryz.func257 APb AXm EY [s89,s96] [] []
abbrev vv:Bh:=ANu
abbrev AKb:Bh:=AOG
def AVd:RC:=⟨vv,AKb,(vv.un J0)⟩
def Aat:ba:=⟨T,Rm (SP.l [s89,s96,ASe]),Cb []⟩
def AQt:List (Lp AKb):=[]
theorem Aad(g89:ACG->Option Kt)(g96:ABU->ACG->Option NJ)(ASa:ABU->ACG->Option XO)(n:Nat)(ω:List Bool)(v:vv.V):DY ⟨T,Rm [(89,⟨i89,o89,i89.un g89⟩),(96,⟨i96,o96,i96.un g96⟩),(257,⟨APb,AXm,APb.un ASa⟩)],Cb []⟩ AVd Tryz.f189 (MZ 0 AQt n) ω v=vv.un (fun(p0:ABU) (p1:ACG) (p2:ACB)=>
 (g89 (p1.1,p1.2.1,())).bind fun u1=>
 if u1.2.1.length+1<=Go.M.D8 then(
 let x2:AB_:=u1.2.1++[(p2,[],false,())]
 (g96 (p0.1,p0.2.1,()) (p1.1,p1.2.1,())).bind fun u3=>
 cond (!u3.1.1)
  ((ASa (p0.1,p0.2.1,()) (p1.1,p1.2.1,())).bind fun u4=>
  some ((((u4.1.1.1,(),()),0,false,()),()),(u4.2.1,())))
 ((g96 (p0.1,p0.2.1,()) (u1.1.1.1,x2,())).bind fun u5=>
 cond (!u5.1.1)
  ((ASa (p0.1,p0.2.1,()) (p1.1,p1.2.1,())).bind fun u6=>
  some ((((u6.1.1.1,(),()),0,false,()),()),(u6.2.1,())))
 (some ((((u1.1.1.1,(),()),(x2.length:Int),true,()),()),(x2,())))))else none) v:=by rcases ω with _|⟨_|_,_|⟨_|_,_⟩⟩<;>kernel_rfl
theorem Abr(n:Nat)(ω:List Bool)(v:vv.V):DY Aat AVd Tryz.f189 (MZ 0 AQt n) ω v=vv.un (J0) v:=Aad GC Gn EY n ω v
def AXi:SQ:=mk Tryz.func189 vv AKb J0 [s89,s96,ASe] [] AQt (hJ:= .nil) (he:=Abr Ae)
abbrev i31:Bh:=mw
abbrev o31:Bh:=rO
def s31:SQ:=mk Tryz.func31 i31 o31 D3 [s72,s73] [] []
def AaG:SQ:=mk Tryz.func159 ⟨[(0,.row Y10),(1,BK)],[]⟩ Ft LG [] [] []
def AbZ:SQ:=mk Tryz.func158 ⟨[(0,ACz),(1,BK),(2,.c (.fn 159 []))],[]⟩ rO Bb [AaG] [] [⟨3,⟨[(0,ACz),(1,BK),(2,.c (.fn 159 [])),(8,BK),(9,BK),(10,BK)],[]⟩,Ax⟩]
abbrev i67:Bh:=ABi
abbrev o67:Bh:=rO
def s67:SQ:=mk Tryz.func67 i67 o67 IK [AbZ] [] []
abbrev AVV:Bh:=⟨[(0,o_),(1,BK),(2,ACz)],[Kk]⟩
abbrev AZJ:Bh:=⟨ALu,[P1,Kk]⟩
def AX4:SQ:=ARo (ρ:=Jh 190 0 258 259 34 45) (nm:= "slices.Insert[[]loop.example/g00178/impl.Sent,loop.example/g00178/impl.Sent]") (fv:=Tryz.f258) tOk (mu.ins ⟨by kernel_rfl,by kernel_rfl,by kernel_rfl,by kernel_rfl,by kernel_rfl,by kernel_rfl,by kernel_rfl,by kernel_rfl,by kernel_rfl,by kernel_rfl,by kernel_rfl,by kernel_rfl⟩ mx (by kernel_rfl) (by kernel_rfl) (by kernel_rfl) (by kernel_rfl) (by kernel_rfl) (by kernel_rfl) (by kernel_rfl)) (r:=Y10) rfl (by kernel_rfl) (by kernel_rfl) EV (fun _=>rfl)
abbrev AAt:Bh:=⟨[(0,J7),(1,BK),(2,.c (.v .str))],gM⟩
abbrev ATM:Bh:=⟨oN,[.mem [.ref 1,.v tI,.ref 2,.ref 3,.ref 4,.v tI,.ref 5,.ref 6,.ref 7,.ref 9,.v .bool],DS,Wf,DS,K_,RD,TG,QC,P1,Kk]⟩
def AW7:RC:=⟨AAt,ATM,(AAt.un L2)⟩
def Acz:ba:=⟨T,Rm (SP.l [s31,iT,s67,AXi,AX4]),Cb [(3,[0,1,2,3,4,5,6,7,8]),(8,[0,1,2,3,4,6,7,8])]⟩
def AQA:List (Lp ATM):=[]
theorem AZX(g31:Int->Int->Option ME)(g43:Int->Int->Int->Option NN)(g67:ABg->Int->Option V7)(AX_:ABU->ACG->List UInt8->Option az)(AVB:Int->AA1->AA1->Option I5)(n:Nat)(ω:List Bool)(v:AAt.V):DY ⟨T,Rm [(31,⟨i31,o31,i31.un g31⟩),(43,⟨i43,o43,i43.un g43⟩),(67,⟨i67,o67,i67.un g67⟩),(189,⟨vv,AKb,vv.un AX_⟩),(190,⟨AVV,AZJ,AVV.un AVB⟩)],Cb [(3,[0,1,2,3,4,5,6,7,8]),(8,[0,1,2,3,4,6,7,8])]⟩ AW7 Tryz.f113 (MZ 9 AQA n) ω v=AAt.un (fun(p1:Int) (p2:ACB) (AE:Int) (AS:Int) (AK:Bool) (b1:AAC) (b2:AAT) (b3:AAC) (b4:AAU) (b5:ABO) (b6:ABP) (b7:AAq) (b8:AA1)=>
 (g43 p1 0 (Aa ((b5.length:Int)-1))).bind fun u2=>
 cond (!u2.1.1)
  (some ((2,()),(((),AE,(),(),(),AS,(),(),(),(),AK,()),b1,b2,b3,b4,b5,b6,b7,(),b8,())))
 (if(0:Int)<=p1/\p1<(b5.length:Int)then(
 (AX_ (b1,AE,()) ((b5.getD (p1.toNat) (0,[],())).1,(b5.getD (p1.toNat) (0,[],())).2.1,()) p2).bind fun u3=>
 (g31 u3.1.1.1.1 u3.1.1.2.1).bind fun u4=>
 (g67 (b1,AE,b2,b3,b4,AS,b5,b6,b7,b8,AK,()) u4.1.1.1).bind fun u5=>
 cond (!u3.1.1.2.2.1)
  (some ((4,()),(((),AE,(),(),(),AS,(),(),(),(),AK,()),b1,b2,b3,b4,b5,b6,b7,(),b8,())))
 (cond (((b8.length:Int)==120))
  (some ((4,()),(((),AE,(),(),(),AS,(),(),(),(),AK,()),b1,b2,b3,b4,b5,b6,b7,(),b8,())))
 (cond (u5.1.1.2.1)
  (some ((4,()),(((),AE,(),(),(),AS,(),(),(),(),AK,()),b1,b2,b3,b4,b5,b6,b7,(),b8,())))
 (if(0:Int)<=p1/\p1<(b5.length:Int)then(
 (AVB u5.1.1.1 [(u4.1.1.1,p2,false,())] b8).bind fun u8=>
 some ((0,()),(((),AE,(),(),(),AS,(),(),(),(),AK,()),b1,b2,b3,b4,(b5.set (p1.toNat) (u3.1.1.1.1,u3.2.1,())),b6,b7,(),u8.2.2.1,())))else none))))else none)) v:=by rcases ω with _|⟨_|_,_⟩<;>kernel_rfl
theorem AcL(n:Nat)(ω:List Bool)(v:AAt.V):DY Acz AW7 Tryz.f113 (MZ 9 AQA n) ω v=AAt.un (L2) v:=AZX D3 BC IK J0 EV n ω v
def Acu:SQ:=mk Tryz.func113 AAt ATM L2 [s31,iT,s67,AXi,AX4] [(3,[0,1,2,3,4,5,6,7,8]),(8,[0,1,2,3,4,6,7,8])] AQA (hJ:= .nil) (he:=AcL Ae)
def AFt:SQ:=mk Tryz.func193 ABi Ft Ed [iT,s93] [] []
abbrev AQr:Bh:=AOC
abbrev AVI:Bh:=gZ
def AIx:SQ:=mk Tryz.func156 AQr AVI I9 [iT,s86] [] []
abbrev AAp:Bh:=⟨[(0,xS),(1,BK),(2,BK)],[]⟩
abbrev ALb:Bh:=Ft
def AG0:SQ:=mk Tryz.func191 AAp ALb Ds [AIx,zh,AFt] [] []
def AMu:SQ:=mk Tryz.func263 nD AGC Dx [s88,s92] [] []
def AZH:SQ:=mk Tryz.func260 AG_ uQ UR [s88,s92,s95,AIw,AMu] [(3,[0,1,2])] []
abbrev AGE:Bh:=CV
abbrev ATq:Bh:=Ft
def xZ:SQ:=mk Tryz.func125 AGE ATq KM [] [] []
abbrev ATE:Bh:=⟨[(0,J7),(1,BK),(2,.row Y1)],gM⟩
abbrev AVn:Bh:=q9
def AQ1:SQ:=mk Tryz.func192 ATE AVn L0 [xZ,AZH] [(1,[0,1,2,3,4,5,6,7,8,9]),(3,[0,1,3,4,5,6,7,8,9])] [] (he:=fun ω v=>by rcases ω with _|⟨_|_,_⟩<;>kernel_rfl)
abbrev zc:Bh:=ANL
abbrev AQk:Bh:=q9
def AVE:RC:=⟨zc,AQk,(zc.un JQ)⟩
def Aaj:ba:=⟨T,Rm (SP.l [s31,iT,AG0,AQ1]),Cb [(1,[0,1,2,3,4,5,6,7,8,9]),(3,[0,1,2,3,4,5,6,7,8,9]),(10,[9,10])]⟩
def ARL:List (Lp AQk):=[]
theorem AZx(g31:Int->Int->Option ME)(g43:Int->Int->Int->Option NN)(wG:ABg->Int->Int->Option IE)(AVZ:Int->ADr->Int->Int->Bool->List Int->AAT->List Int->AAU->ABO->ABP->AAq->AA1->Option bO)(n:Nat)(ω:List Bool)(v:zc.V):DY ⟨T,Rm [(31,⟨i31,o31,i31.un g31⟩),(43,⟨i43,o43,i43.un g43⟩),(191,⟨AAp,ALb,AAp.un wG⟩),(192,⟨ATE,AVn,ATE.un AVZ⟩)],Cb [(1,[0,1,2,3,4,5,6,7,8,9]),(3,[0,1,2,3,4,5,6,7,8,9]),(10,[9,10])]⟩ AVE Tryz.f114 (MZ 9 ARL n) ω v=zc.un (fun(p1:ADN) (AE:Int) (AS:Int) (AK:Bool) (b1:AAC) (b2:AAT) (b3:AAC) (b4:AAU) (b5:ABO) (b6:ABP) (b7:AAq) (b8:AA1)=>
 (g43 p1.2.1 0 (Aa ((b5.length:Int)-1))).bind fun u2=>
 cond (!u2.1.1)
  (some ((2,()),(((),AE,(),(),(),AS,(),(),(),(),AK,()),b1,b2,b3,b4,b5,b6,b7,b8,())))
 (if(0:Int)<=p1.2.1/\p1.2.1<(b5.length:Int)then(
 (g43 p1.2.2.1 1 (((b5.getD (p1.2.1.toNat) (0,[],())).2.1).length:Int)).bind fun u4=>
 cond (!u4.1.1)
  (some ((2,()),(((),AE,(),(),(),AS,(),(),(),(),AK,()),b1,b2,b3,b4,b5,b6,b7,b8,())))
 ((wG (b1,AE,b2,b3,b4,AS,b5,b6,b7,b8,AK,()) p1.2.2.2.1 ((b5.getD (p1.2.1.toNat) (0,[],())).1)).bind fun u6=>
 cond (u6.1.1 !=0)
  (some ((u6.1.1,()),(((),AE,(),(),(),AS,(),(),(),(),AK,()),b1,b2,b3,b4,b5,b6,b7,b8,())))
 ((g31 ((b5.getD (p1.2.1.toNat) (0,[],())).1) p1.2.2.1).bind fun u8=>
 if(0:Int)<=Aa (p1.2.2.1-1)/\Aa (p1.2.2.1-1)<(((b5.getD (p1.2.1.toNat) (0,[],())).2.1).length:Int)then(
 (AVZ p1.2.2.2.1 (u8.1.1.1,0,false,((((b5.getD (p1.2.1.toNat) (0,[],())).2.1).getD ((Aa (p1.2.2.1-1)).toNat) ([],[],false,())).1),()) AE AS AK b1 b2 b3 b4 b5 b6 b7 b8).bind fun EP=>
 some ((EP.1.1,()),(((),EP.2.1.2.1,(),(),(),EP.2.1.2.2.2.2.2.1,(),(),(),(),EP.2.1.2.2.2.2.2.2.2.2.2.2.1,()),EP.2.2.1,EP.2.2.2.1,EP.2.2.2.2.1,EP.2.2.2.2.2.1,EP.2.2.2.2.2.2.1,EP.2.2.2.2.2.2.2.1,EP.2.2.2.2.2.2.2.2.1,EP.2.2.2.2.2.2.2.2.2.1,())))else none)))else none)) v:=by kernel_rfl
theorem AaM(n:Nat)(ω:List Bool)(v:zc.V):DY Aaj AVE Tryz.f114 (MZ 9 ARL n) ω v=zc.un (JQ) v:=AZx D3 BC Ds L0 n ω v
def Aal:SQ:=mk Tryz.func114 zc AQk JQ [s31,iT,AG0,AQ1] [(1,[0,1,2,3,4,5,6,7,8,9]),(3,[0,1,2,3,4,5,6,7,8,9]),(10,[9,10])] ARL (hJ:= .nil) (he:=AaM Ae)
def Aag:SQ:=mk Tryz.func240 ⟨[(0,.row Y1),(1,BK)],[]⟩ Ft SW [] [] []
def Ac7:SQ:=mk Tryz.func239 ⟨[(0,r8),(1,BK),(2,.c (.fn 240 []))],[]⟩ rO CK [Aag] [] [⟨3,⟨[(0,r8),(1,BK),(2,.c (.fn 240 [])),(8,BK),(9,BK),(10,BK)],[]⟩,BB⟩]
def AVA:SQ:=mk Tryz.func146 AFg rO Sj [Ac7] [] []
def AZ9:SQ:=ARo (ρ:=Jh 296 0 307 308 92 96) (nm:= "slices.Insert[[]loop.example/g00178/impl.Entry,loop.example/g00178/impl.Entry]") (fv:=Tryz.f307) tOk (mu.ins ⟨by kernel_rfl,by kernel_rfl,by kernel_rfl,by kernel_rfl,by kernel_rfl,by kernel_rfl,by kernel_rfl,by kernel_rfl,by kernel_rfl,by kernel_rfl,by kernel_rfl,by kernel_rfl⟩ mx (by kernel_rfl) (by kernel_rfl) (by kernel_rfl) (by kernel_rfl) (by kernel_rfl) (by kernel_rfl) (by kernel_rfl)) (r:=Y1) rfl (by kernel_rfl) (by kernel_rfl) D9 (fun _=>rfl)
def AXZ:SQ:=mk Tryz.func297 AN2 ANC Rc [] [] []
def ASZ:SQ:=mk Tryz.func264 ⟨[(0,o_),(1,.row Y1)],uT⟩ AOF W_ [AVA,AZ9,AXZ] [(4,[1])] []
def AVz:SQ:=mk Tryz.func197 kJ ABd M0 [iT,s88,s92,AMu,ASZ] [] [⟨6,⟨[(1,BK),(2,J7),(4,aR),(6,AAk),(23,r8),(24,BK),(25,BK)],[AQ5,AM4,M8,M8,AOp,.sl 1 Y1,M8]⟩,Jr⟩]
def AWk:SQ:=mk Tryz.func194 nD ABd OT [AVz] [] []
abbrev i60:Bh:=kJ
abbrev o60:Bh:=yg
def s60:SQ:=mk Tryz.func60 i60 o60 Gm [s92,AVA] [] []
def AbN:SQ:=mk Tryz.func309 Ft CV cmp_isNaN_int [] [] []
def AbQ:SQ:=mk Tryz.func298 mw CV cmp_Less_int [AbN] [] []
def AY9:SQ:=mk Tryz.func299 Ft CV Pr [] [] []
def AY_:SQ:=mk Tryz.func265 nF rO Gc [AbQ,AY9] [] [⟨3,⟨[(0,cV),(1,BK),(6,BK),(7,BK),(8,BK)],[]⟩,D4⟩]
def AZQ:SQ:=ARo (ρ:=Jh 266 0 300 301 24 3) (nm:= "slices.Insert[[]int,int]") (fv:=Tryz.f300) tOk (mu.ins ⟨by kernel_rfl,by kernel_rfl,by kernel_rfl,by kernel_rfl,by kernel_rfl,by kernel_rfl,by kernel_rfl,by kernel_rfl,by kernel_rfl,by kernel_rfl,by kernel_rfl,by kernel_rfl⟩ mx (by kernel_rfl) (by kernel_rfl) (by kernel_rfl) (by kernel_rfl) (by kernel_rfl) (by kernel_rfl) (by kernel_rfl)) (r:=tI) rfl (by kernel_rfl) (by kernel_rfl) J2 (fun _=>rfl)
def AI8:SQ:=mk Tryz.func198 nF AFe Kv [s86,AY_,AZQ] [] []
def AZN:SQ:=mk Tryz.func261 ANk AN3 Ro [s32,iT,s89,s96,AI8,ASe] [(6,[0,1,2,4])] []
def AZK:SQ:=mk Tryz.func195 ABj ANF Ni [s31,s60,s67,AZN] [(6,[0,1,2,3,4,6,7,8,9])] [⟨1,AE4,DE⟩]
abbrev AEg:Bh:=ANi
abbrev ASv:Bh:=yg
def ARy:SQ:=mk Tryz.func207 AEg ASv Jg [s31] [] [⟨5,⟨[(2,J7),(4,aR),(6,BK),(33,r8),(34,BK),(35,BK)],[AAf,ACr]⟩,Ks⟩]
def ARn:SQ:=mk Tryz.func269 xG xF E6 [s90,s98] [] []
abbrev AEj:Bh:=ANt
abbrev AQp:Bh:=AOJ
def AWg:SQ:=mk Tryz.func262 AEj AQp PN [iT,s90,s98,AI8,ARn] [(4,[0,1,2,3,4,6])] []
abbrev i196:Bh:=ABj
abbrev AR9:Bh:=ANF
def c196:RC:=⟨i196,AR9,(i196.un LF)⟩
def AX7:ba:=⟨T,Rm (SP.l [s60,ARy,AWg]),Cb [(4,[0,1,2,3,4,5,6,7,8,9]),(6,[0,1,2,3,4,5,7,8,9,10])]⟩
def AG7:List (Lp AR9):=[⟨1,AE4,Be⟩]
abbrev lY:Bh:=AE4
theorem ARN(g60:ACt->Int->Option M7)(AJT:ABr->Int->Option JS)(AIz:ABU->ABr->Int->Int->Option YG)(n:Nat)(v:lY.V)(ω:List Bool):Hz ⟨T,Rm [(60,⟨i60,o60,i60.un g60⟩),(207,⟨AEg,ASv,AEg.un AJT⟩),(262,⟨AEj,AQp,AEj.un AIz⟩)],Cb [(4,[0,1,2,3,4,5,6,7,8,9]),(6,[0,1,2,3,4,5,7,8,9,10])]⟩ c196 Tryz.f196 (MZ 9 AG7 n) 1 ω (lY.st 81 v)=lY.un (fun(t1:Int) (t2:Int) (t6:Int) (AE:Int) (AS:Int) (AK:Bool) (b1:AAC) (b2:AAT) (b3:AAC) (b4:AAU) (b5:ABO) (b6:ABP) (b7:AAq) (b8:AA1)=>
 if(0:Int)<=t1/\t1<(b6.length:Int)then(
 cond (decide (t6<=(((b6.getD (t1.toNat) (0,0,[],[],false,[],())).2.2.2.2.2.1).length:Int)))
  (if(0:Int)<=t1/\t1<(b6.length:Int)then(
  (AJT ((b6.getD (t1.toNat) (0,0,[],[],false,[],())).1,(b6.getD (t1.toNat) (0,0,[],[],false,[],())).2.1,(b6.getD (t1.toNat) (0,0,[],[],false,[],())).2.2.1,(b6.getD (t1.toNat) (0,0,[],[],false,[],())).2.2.2.1,(b6.getD (t1.toNat) (0,0,[],[],false,[],())).2.2.2.2.1,(b6.getD (t1.toNat) (0,0,[],[],false,[],())).2.2.2.2.2.1,()) t6).bind fun u2=>
  if(0:Int)<=t2/\t2<(b2.length:Int)then(
  (g60 ((b2.getD (t2.toNat) ([],[],0,())).1,(b2.getD (t2.toNat) ([],[],0,())).2.1,(b2.getD (t2.toNat) ([],[],0,())).2.2.1,()) u2.1.1.1.1).bind fun u3=>
  cond (u2.1.1.2.1)
   (cond (u3.1.1.2.1)
    (cond (((u3.1.1.1.1==u2.1.1.1.1)&&((u3.1.1.1.2.1==u2.1.1.1.2.1)&&((u3.1.1.1.2.2.1==u2.1.1.1.2.2.1)&&((u3.1.1.1.2.2.2.1==u2.1.1.1.2.2.2.1)&&true)))))
     (if(0:Int)<=t1/\t1<(b6.length:Int)then(
     (AIz (b1,AE,()) ((b6.getD (t1.toNat) (0,0,[],[],false,[],())).1,(b6.getD (t1.toNat) (0,0,[],[],false,[],())).2.1,(b6.getD (t1.toNat) (0,0,[],[],false,[],())).2.2.1,(b6.getD (t1.toNat) (0,0,[],[],false,[],())).2.2.2.1,(b6.getD (t1.toNat) (0,0,[],[],false,[],())).2.2.2.2.1,(b6.getD (t1.toNat) (0,0,[],[],false,[],())).2.2.2.2.2.1,()) t6 t2).bind fun u5=>
     if(0:Int)<=t1/\t1<(b6.length:Int)then(
     (Be n) t1 t2 (Aa (t6+1)) AE AS AK b1 b2 b3 b4 b5 (b6.set (t1.toNat) (u5.1.1.1.1,u5.1.1.1.2.1,u5.2.1,u5.2.2.1,u5.1.1.1.2.2.2.2.1,u5.2.2.2.1,())) b7 b8)else none)else none)
    ((Be n) t1 t2 (Aa (t6+1)) AE AS AK b1 b2 b3 b4 b5 b6 b7 b8))
   ((Be n) t1 t2 (Aa (t6+1)) AE AS AK b1 b2 b3 b4 b5 b6 b7 b8))
  ((Be n) t1 t2 (Aa (t6+1)) AE AS AK b1 b2 b3 b4 b5 b6 b7 b8))else none)else none)
 (some (((()),()),(((),AE,(),(),(),AS,(),(),(),(),AK,()),b1,b2,b3,b4,b5,b6,b7,b8,()))))else none) v:=by rcases ω with _|⟨_|_,_⟩<;>kernel_rfl
theorem ATv(n:Nat)(v:lY.V)(ω:List Bool):Hz AX7 c196 Tryz.f196 (MZ 9 AG7 n) 1 ω (lY.st 81 v)=lY.un (HP (Be n)) v:=ARN Gm Jg PN n v ω
theorem AaR(g60:ACt->Int->Option M7)(AJT:ABr->Int->Option JS)(AIz:ABU->ABr->Int->Int->Option YG)(n:Nat)(ω:List Bool)(v:i196.V):DY ⟨T,Rm [(60,⟨i60,o60,i60.un g60⟩),(207,⟨AEg,ASv,AEg.un AJT⟩),(262,⟨AEj,AQp,AEj.un AIz⟩)],Cb [(4,[0,1,2,3,4,5,6,7,8,9]),(6,[0,1,2,3,4,5,7,8,9,10])]⟩ c196 Tryz.f196 (MZ 9 AG7 n) ω v=i196.un (fun(p1:Int) (p2:Int) (AE:Int) (AS:Int) (AK:Bool) (b1:AAC) (b2:AAT) (b3:AAC) (b4:AAU) (b5:ABO) (b6:ABP) (b7:AAq) (b8:AA1)=>
 (Be n) p1 p2 1 AE AS AK b1 b2 b3 b4 b5 b6 b7 b8) v:=by kernel_rfl
theorem Aae(n:Nat)(ω:List Bool)(v:i196.V):DY AX7 c196 Tryz.f196 (MZ 9 AG7 n) ω v=i196.un (KB (Be n)) v:=AaR Gm Jg PN n ω v
def Aba:SQ:=mk Tryz.func196 i196 AR9 LF [s60,ARy,AWg] [(4,[0,1,2,3,4,5,6,7,8,9]),(6,[0,1,2,3,4,5,7,8,9,10])] AG7 (hJ:= .cons (fun _=>rfl) ATv (.nil)) (he:=Aae Ae)
def AaN:SQ:=mk Tryz.func115 tq q9 Qa [AIx,zh,AFt,AWk,AZK,Aba] [(7,[0,1,3,4,5,6,7,8,11]),(11,[0,1,2,3,4,5,6,7,8,9,10]),(17,[0,1,2,3,4,5,6,7,8,9])] [⟨9,⟨[(0,J7),(1,BK),(6,ed),(41,.c (.ref 5)),(42,BK),(43,BK)],[sk,DS,Wf,DS,K_,RD,TG,QC,Kk,.mem [.any,.any,.v tI]]⟩,FD⟩,⟨15,⟨[(0,J7),(1,BK),(72,.c (.ref 6)),(73,BK),(74,BK)],gM⟩,FZ⟩]
def Aao:SQ:=mk Tryz.func116 ABj q9 Pc [xZ,AFt,AVz] [(5,[0,1,3,4,5,6,7,8,11])] []
def AXJ:SQ:=mk Tryz.func248 ⟨[(0,BK),(1,.c (.ni (.cons tI .unit)))],[]⟩ CV MY [] [] []
def ARf:SQ:=mk Tryz.func294 ⟨[(0,cV),(1,AM9)],[]⟩ Ft EB [AXJ] [] [⟨2,⟨[(0,cV),(1,AM9),(7,BK),(8,BK)],[]⟩,B_⟩]
def ATr:SQ:=mk Tryz.func247 ⟨[(0,o_),(1,AM9)],[DS]⟩ ANw Cx [AXJ,ARf] [] [⟨5,⟨[(0,o_),(1,AM9),(5,BK),(6,BK)],[DS]⟩,B4⟩]
abbrev i157:Bh:=nF
abbrev AVQ:Bh:=AFe
def ALa:SQ:=mk Tryz.func157 i157 AVQ HY [s86,ATr] [] []
def Abg:SQ:=mk Tryz.func199 AOI AN3 N1 [s89,s96,ALa] [(8,[0,1,2,4])] [⟨5,⟨[(2,BK),(6,J7),(8,xP8),(19,AML),(20,BK),(21,BK)],[.mem [.v tI,.ref 1],.sl 9 Y5,.mem [.v tI,.ref 3],.sl 2 Y5]⟩,IA⟩]
def Ab9:SQ:=mk Tryz.func200 ANO AOJ QR [s90,s98,ALa] [(7,[0,1,2,3,4,5,6])] [⟨5,⟨[(2,BK),(6,J7),(8,AAk),(19,AJA),(20,BK),(21,BK)],[AVk,Fc,M8,qm,AUq,Fc,M8,.sl 2 (.sl tI)]⟩,Jn⟩]
def Acw:SQ:=mk Tryz.func117 tq ⟨oN,[AO9,DS,Wf,P1,K_,RD,TG,QC,Kk,DS]⟩ QW [s32,AFt,AI8,Abg,Ab9] [(9,[0,1,2,3,4,6,7,8,9,10]),(14,[0,1,2,3,4,5,7,8,9,10]),(16,[1,2,3,4,5,6,7,8,9])] [⟨7,⟨[(0,J7),(1,BK),(35,.c (.ref 5)),(36,BK),(37,BK)],ANf⟩,HZ⟩,⟨12,⟨[(0,J7),(1,BK),(62,.c (.ref 6)),(63,BK),(64,BK)],ANf⟩,HA⟩] (hJ:= .cons (fun _=>rfl) (fun n v ω=>by kernel_rfl) (.cons (fun _=>rfl) (fun n v ω=>by rcases ω with _|⟨_|_,_⟩<;>kernel_rfl) (.nil)))
def AY8:SQ:=mk Tryz.func267 nG CV Ze [s32,s74] [] []
def Ac0:SQ:=mk Tryz.func268 ⟨[(0,xg)],[]⟩ ⟨ADv,uT⟩ iq [s92,ASZ] [] [⟨3,⟨[(3,o_),(9,xg),(10,BK),(11,BK)],uT⟩,NK⟩,⟨8,⟨[(3,o_),(9,xg),(10,BK),(11,BK),(19,r8),(20,BK),(21,BK)],uT⟩,NS⟩]
abbrev i201:Bh:=ANq
abbrev AWc:Bh:=⟨AVu,[Vs,.sl 1 Y1,M8]⟩
def AXR:SQ:=mk Tryz.func201 i201 AWc ar [s92,zh,AY8,Ac0] [] [⟨5,⟨[(2,cV),(4,BK),(10,aR),(12,.c (.ref 4)),(36,o_),(37,BK),(38,BK)],[Vs,AM4,M8,M8,Vs]⟩,R_⟩]
abbrev AAm:Bh:=tq
abbrev ASd:Bh:=⟨oN,[AO9,DS,Vs,P1,K_,RD,TG,QC,Kk,DS]⟩
def AXe:RC:=⟨AAm,ASd,(AAm.un KL)⟩
def AZE:ba:=⟨T,Rm (SP.l [iT,s93,ALa,AXR]),Cb [(3,[0,1,3,4,5,6,7,8]),(6,[0,1,3,4,5,6,7,8,9])]⟩
def ATS:List (Lp ASd):=[]
theorem Abi(g43:Int->Int->Int->Option NN)(g93:ABg->Int->Option LJ)(AWq:List Int->Int->Option YM)(AYP:ABU->List Int->Int->Int->AAT->Option VF)(n:Nat)(ω:List Bool)(v:AAm.V):DY ⟨T,Rm [(43,⟨i43,o43,i43.un g43⟩),(93,⟨i93,o93,i93.un g93⟩),(157,⟨i157,AVQ,i157.un AWq⟩),(201,⟨i201,AWc,i201.un AYP⟩)],Cb [(3,[0,1,3,4,5,6,7,8]),(6,[0,1,3,4,5,6,7,8,9])]⟩ AXe Tryz.f118 (MZ 9 ATS n) ω v=AAm.un (fun(p1:Int) (AE:Int) (AS:Int) (AK:Bool) (b1:AAC) (b2:AAT) (b3:AAC) (b4:AAU) (b5:ABO) (b6:ABP) (b7:AAq) (b8:AA1)=>
 (g43 p1 0 (Aa ((b2.length:Int)-1))).bind fun u2=>
 cond (!u2.1.1)
  (some ((2,()),(((),AE,(),(),(),AS,(),(),(),(),AK,()),b1,b2,(),b4,b5,b6,b7,b8,b3,())))
 ((g93 (b1,AE,b2,b3,b4,AS,b5,b6,b7,b8,AK,()) p1).bind fun u3=>
 cond (!u3.1.1)
  (some ((2,()),(((),AE,(),(),(),AS,(),(),(),(),AK,()),b1,b2,(),b4,b5,b6,b7,b8,b3,())))
 (let x4:Int:=Aa ((b4.length:Int)-1)
 (AYP (b1,AE,()) b3 p1 (if 0>x4 then 0 else x4) b2).bind fun u6=>
 cond (!u6.1.1.2.1)
  (some ((4,()),(((),AE,(),(),(),AS,(),(),(),(),AK,()),b1,u6.2.1,(),b4,b5,b6,b7,b8,b3,())))
 (if(0:Int)<=p1/\p1<(u6.2.1.length:Int)then(
 (AWq b3 p1).bind fun u8=>
 some ((0,()),(((),AE,(),(),(),AS,(),(),(),(),AK,()),b1,(u6.2.1.set (p1.toNat) (u6.2.2.1,u6.2.2.2.1,u6.1.1.1.2.2.1,())),(),b4,b5,b6,b7,b8,u8.2.1,())))else none)))) v:=by rcases ω with _|⟨_|_,_⟩<;>kernel_rfl
theorem AcV(n:Nat)(ω:List Bool)(v:AAm.V):DY AZE AXe Tryz.f118 (MZ 9 ATS n) ω v=AAm.un (KL) v:=Abi BC DI HY ar n ω v
def AaU:SQ:=mk Tryz.func118 AAm ASd KL [iT,s93,ALa,AXR] [(3,[0,1,3,4,5,6,7,8]),(6,[0,1,3,4,5,6,7,8,9])] ATS (hJ:= .nil) (he:=AcV Ae)
def AZF:SQ:=mk Tryz.func202 mw xF jw [] [] []
def AcQ:SQ:=mk Tryz.func119 AGn ⟨oN,[.mem [.ref 1,.v tI,.ref 2,.ref 3,.ref 4,.v tI,.ref 5,.ref 9,.ref 7,.ref 8,.v .bool],DS,Wf,DS,K_,RD,P1,QC,Kk,TG]⟩ QX [s36,AZF] [(1,[0,1,2,3,4,5,6,7,8])] []
abbrev i203:Bh:=kJ
abbrev AOW:Bh:=ABd
def AV_:SQ:=mk Tryz.func203 i203 AOW O7 [iT,AWk,AMu] [] []
abbrev AFn:Bh:=kJ
abbrev ASE:Bh:=xn
def AWl:SQ:=mk Tryz.func205 AFn ASE QM [s92,s95] [] [⟨5,⟨[(1,BK),(5,o_),(14,r8),(15,BK),(16,BK)],[M8]⟩,L5⟩]
abbrev AGs:Bh:=AN6
abbrev ARA:Bh:=⟨AQI,[DS,.sl 1 Y1,qm]⟩
def AYN:SQ:=mk Tryz.func204 AGs ARA QJ [s90,s95,s98,AI8,ASZ,ARn] [(8,[0,1,2,3,4,5,6,7,8,9,10])] [⟨6,⟨[(4,J7),(5,aR),(8,xP8),(10,.c (.ptr 6 0)),(31,r8),(32,BK),(33,BK)],[vO,AAf,AVC,Fc,M8,qm,AUm,DS,.sl 1 Y1,qm]⟩,Li⟩]
end
end Go.Proofs.YtebiojjohcpanaaGreat.Wk
