/- Each function computes what was printed: by the kernel. -/
import Derived.Test.YtebiojjohcpanaaGreatG0
import Derived.Test.YtebiojjohcpanaaGreatProg
import Derived.KernelRfl
set_option linter.unusedVariables false
set_option linter.unusedSimpArgs false
set_option linter.unusedSectionVars false
namespace Go.Proofs.YtebiojjohcpanaaGreat.Wk
open Go Go.Fw Go.M Go.Proofs
noncomputable section
abbrev tI:Ty:= .int .i64
abbrev tU:Ty:= .int .u8
abbrev Y0:Ty:=(.cons (.sl tI) (.cons tI .unit))
abbrev Y1:Ty:=(.cons tI (.cons tI (.cons .bool (.cons .str .unit))))
abbrev Y2:Ty:=(.cons (.sl Y1) (.cons (.sl Y1) (.cons tI .unit)))
abbrev Y3:Ty:=(.cons (.sl tI) (.cons .bool (.cons tI .unit)))
abbrev Y4:Ty:=(.cons (.sl Y3) (.cons tI .unit))
abbrev Y5:Ty:=(.cons .str (.cons (.sl tI) (.cons .bool .unit)))
abbrev Y6:Ty:=(.cons tI (.cons (.sl Y5) .unit))
abbrev Y7:Ty:=(.cons tI (.cons tI (.cons (.sl tI) (.cons (.sl Y1) (.cons .bool (.cons (.sl (.sl tI)) .unit))))))
abbrev Y8:Ty:=(.cons tI (.cons tI (.cons .str .unit)))
abbrev Y9:Ty:=(.cons tI (.cons tI (.cons (.sl Y8) .unit)))
abbrev Y10:Ty:=(.cons tI (.cons .str (.cons .bool .unit)))
abbrev Y11:Ty:=(.cons (.sl tI) (.cons tI (.cons (.sl Y2) (.cons (.sl tI) (.cons (.sl Y3) (.cons tI (.cons (.sl Y6) (.cons (.sl Y7) (.cons (.sl Y9) (.cons (.sl Y10) (.cons .bool .unit)))))))))))
abbrev Y12:Ty:=(.cons tI (.cons tI (.cons tI (.cons tI (.cons .str .unit)))))
abbrev Y13:Ty:=(.cons (.sl tU) (.cons tI (.cons tI .unit)))
abbrev Y14:Ty:=(.cons tI (.cons .bool (.cons tI (.cons tI (.cons .bool (.cons .str .unit))))))
def T:Jp:=[(3,⟨1,8,.int .i64,some tI⟩),
 (4,⟨1,1,.bool,some .bool⟩),
 (5,⟨1,1,.int .u8,some tU⟩),
 (9,⟨1,16,.str,some .str⟩),
 (22,⟨1,24,.sl 5,some (.sl tU)⟩),
 (24,⟨1,24,.sl 3,some (.sl tI)⟩),
 (26,⟨2,32,.st [(0,24),(1,3)],some Y0⟩),
 (27,⟨1,24,.sl 94,some (.sl Y2)⟩),
 (28,⟨1,24,.sl 71,some (.sl Y3)⟩),
 (30,⟨2,32,.st [(0,28),(1,3)],some Y4⟩),
 (31,⟨1,24,.sl 63,some (.sl Y6)⟩),
 (32,⟨1,24,.sl 115,some (.sl Y7)⟩),
 (33,⟨1,24,.sl 49,some (.sl Y9)⟩),
 (34,⟨1,24,.sl 45,some (.sl Y10)⟩),
 (36,⟨11,216,.st [(0,26),(2,27),(3,24),(4,30),(6,31),(7,32),(8,33),(9,34),(10,4)],some Y11⟩),
 (37,⟨1,24,.sl 54,some (.sl Y12)⟩),
 (45,⟨3,32,.st [(0,3),(1,9),(2,4)],some Y10⟩),
 (47,⟨1,24,.sl 79,some (.sl Y8)⟩),
 (49,⟨3,40,.st [(0,3),(1,3),(2,47)],some Y9⟩),
 (54,⟨5,48,.st [(0,3),(1,3),(2,3),(3,3),(4,9)],some Y12⟩),
 (61,⟨1,24,.sl 162,some (.sl Y5)⟩),
 (63,⟨2,32,.st [(0,3),(1,61)],some Y6⟩),
 (71,⟨3,40,.st [(0,24),(1,4),(2,3)],some Y3⟩),
 (74,⟨1,8,.ptr 121,none⟩),
 (79,⟨3,32,.st [(0,3),(1,3),(2,9)],some Y8⟩),
 (87,⟨1,8,.other,none⟩),
 (92,⟨1,24,.sl 96,some (.sl Y1)⟩),
 (94,⟨3,56,.st [(0,92),(1,92),(2,3)],some Y2⟩),
 (96,⟨4,40,.st [(0,3),(1,3),(2,4),(3,9)],some Y1⟩),
 (103,⟨1,24,.sl 9,some (.sl .str)⟩),
 (113,⟨1,24,.sl 24,some (.sl (.sl tI))⟩),
 (115,⟨6,96,.st [(0,3),(1,3),(2,24),(3,92),(4,4),(5,113)],some Y7⟩),
 (121,⟨3,40,.st [(0,22),(1,3),(2,3)],some Y13⟩),
 (129,⟨1,8,.ptr 36,none⟩),
 (155,⟨1,8,.other,none⟩),
 (162,⟨3,48,.st [(0,9),(1,24),(2,4)],some Y5⟩),
 (189,⟨1,24,.sl 191,some (.sl Y14)⟩),
 (191,⟨6,56,.st [(0,3),(1,4),(2,96)],some Y14⟩),
 (199,⟨1,8,.other,none⟩),
 (202,⟨1,8,.int .u64,some (.int .u64)⟩),
 (205,⟨1,24,.sl 4,some (.sl .bool)⟩),
 (206,⟨1,8,.other,none⟩),
 (238,⟨1,8,.ptr 49,none⟩)]
theorem tOk:Em Tryz.prog T:=qL (by kernel_rfl)
theorem mx:Tryz.prog.follows .mixedOrders=true:=by kernel_rfl
abbrev SQ:=SP Tryz.prog
def mk{f:Nat}{fn:Func}(hf:Tryz.prog.funcs[f]? =some fn)(i o:BZ)(g:i.Cu (Option o.V))(l:List SQ)(h:List AGF)(L:List (Lp o))
  (hJ:XI ⟨T,RD (SP.l l),CQ h⟩ ⟨i,o,i.un g⟩ fn (L0 i.Gz.length L) L:=by
   repeat refine XI.cons (fun _=>rfl) (fun _ _ _=>by kernel_rfl) ?_
   exact XI.nil)
  (he:∀ω v,DO ⟨T,RD (SP.l l),CQ h⟩ ⟨i,o,i.un g⟩ fn (L0 i.Gz.length L Ae) ω v=i.un g v:=by intro ω v;kernel_rfl)
  (hL:jM fn=Lp.ls L:=by kernel_rfl) (hd:decide (Lp.ls L).Nodup=true:=by kernel_rfl) (hc:iZ fn ⟨i,o,i.un g⟩=true:=by kernel_rfl):SQ:=
 mkP tOk mx hf i o g l h L Ae hL hd hc hJ he
abbrev yK:XP:= .c (.v .bool)
abbrev KD:XP:= .c (.ptr 0 0)
abbrev BI:XP:= .c (.v tI)
abbrev Zg:XP:= .c (.ptr 1 0)
abbrev xP4:XP:= .c (.ptr 3 0)
abbrev qx:XP:= .row Y0
abbrev az:XP:= .c (.sl false tI)
abbrev xP7:XP:= .c (.ref 1)
abbrev nt:XP:= .c (.ref 0)
abbrev xP9:XP:= .c (.ref 2)
abbrev yh:XP:= .c (.ptr 2 0)
abbrev Xv:XP:= .c (.sl false Y1)
abbrev AO8:XP:= .agg [.ref 0,.v tI,.ref 1,.ref 2,.ref 3,.v tI,.ref 4,.ref 5,.ref 6,.ref 7,.v .bool]
abbrev cY:XP:= .c (.ptr 10 0)
abbrev gU:XP:= .c (.ptr 8 0)
abbrev eu:XP:= .c (.ptr 9 0)
abbrev nM:XP:= .c (.ptr 18 0)
abbrev zy:XP:= .c (.ptr 4 0)
abbrev lB:XP:= .c (.ptr 19 0)
abbrev xL:XP:= .c (.sl false Y2)
abbrev rP:XP:= .c (.sl false Y14)
abbrev AKn:XP:= .c (.qv 252 [(.cons (.sl tI) .unit)])
abbrev xY:XP:= .c (.mr Y11)
abbrev AG0:XP:= .c (.sl false Y5)
abbrev AGv:XP:= .c (.sl false (.sl tI))
abbrev ABo:XP:= .c (.sl false Y9)
abbrev wv:XP:= .c (.sl false Y10)
abbrev ALB:XP:= .c (.qv 248 [(.cons tI .unit)])
abbrev ALi:XP:= .c (.qv 276 [(.cons tI .unit)])
abbrev th:BP:= .mem [.sl true tU,.v tI,.v tI]
abbrev Fv:BP:= .sl 9 tI
abbrev tu:BP:= .mem [.sl false tI,.v tI]
abbrev Z4:BP:= .sl 9 Y2
abbrev TQ:BP:= .sl 9 Y3
abbrev aJ:BP:= .sl 9 Y6
abbrev aG:BP:= .sl 9 Y7
abbrev Zi:BP:= .sl 9 Y9
abbrev Sg:BP:= .sl 9 Y10
abbrev ARW:BP:= .mem [.sl false Y3,.v tI]
abbrev rB:BP:= .mem [.sl false tI,.v tI,.sl false Y2,.sl false tI,.sl false Y3,.v tI,.sl false Y6,.sl false Y7,.sl false Y9,.sl false Y10,.v .bool]
abbrev AFA:BP:= .mem [.v tI,.v tI,.v tI,.v tI,.v .str]
abbrev yl:BP:= .mem [.v tI,.v tI,.sl false tI,.sl false Y1,.v .bool,.sl false (.sl tI)]
abbrev AHv:BP:= .mem [.v tI,.sl false Y5]
abbrev Mq:BP:= .sl 9 Y1
abbrev oK:BP:= .sl 9 (.sl tI)
abbrev AHa:BP:= .mem [.ref 2,.v tI,.ref 3,.ref 4,.ref 5,.v tI,.ref 6,.ref 7,.ref 8,.ref 9,.v .bool]
abbrev ADe:BP:= .mem [.ref 11,.v tI,.ref 12,.ref 13,.ref 14,.v tI,.ref 15,.ref 16,.ref 17,.ref 18,.v .bool]
abbrev Du:BP:= .sl 1 tI
abbrev Vz:BP:= .sl 2 Y2
abbrev M_:BP:= .sl 2 Y3
abbrev Un:BP:= .sl 3 Y6
abbrev Sc:BP:= .sl 3 Y7
abbrev Ps:BP:= .sl 2 Y9
abbrev MO:BP:= .sl 1 Y10
abbrev PV:BP:= .gone
abbrev rM:BP:= .mem [.ref 0,.v tI,.ref 1,.ref 2,.ref 3,.v tI,.ref 4,.ref 5,.ref 6,.ref 7,.v .bool]
abbrev td:BP:= .mem [.ref 10,.v tI,.ref 11,.ref 12,.ref 13,.v tI,.ref 14,.ref 15,.ref 16,.ref 17,.v .bool]
abbrev AOv:BP:= .mem [.v tI,.v .str,.v .bool]
abbrev ACt:BP:= .mem [.v tI,.v tI,.v .bool,.v .str]
abbrev AP8:BP:= .mem [.sl false Y1,.sl false Y1,.v tI]
abbrev AHi:BP:= .mem [.ref 2,.ref 3,.v tI]
abbrev AST:BP:= .mem [.ref 5,.ref 6,.v tI]
abbrev Z1:BP:= .sl 1 Y2
abbrev nW:BP:= .sl 1 Y6
abbrev yX:BP:= .mem [.sl true Y1,.sl true Y1,.v tI]
abbrev AVW:BP:= .mem [.v tI,.v tI,.ref 1,.ref 2,.v .bool,.ref 3]
abbrev AUd:BP:= .mem [.v tI,.v tI,.ref 5,.ref 6,.v .bool,.ref 7]
abbrev AWg:BP:= .mem [.v tI,.v tI,.ref 3,.ref 4,.v .bool,.ref 5]
abbrev AUb:BP:= .mem [.v tI,.v tI,.ref 7,.ref 8,.v .bool,.ref 9]
abbrev AHW:BP:= .mem [.v tI,.v tI,.sl false Y8]
abbrev AXR:BP:= .mem [.sl true tI,.v tI,.sl true Y2,.sl true tI,.sl true Y3,.v tI,.sl true Y6,.sl true Y7,.sl true Y9,.sl true Y10,.v .bool]
abbrev ACg:BP:= .mem [.ref 1,.v tI,.ref 2,.ref 3,.ref 4,.v tI,.ref 5,.ref 6,.ref 7,.ref 8,.v .bool]
abbrev AOt:BP:= .mem [.ref 1,.v tI,.ref 2,.ref 9,.ref 4,.v tI,.ref 5,.ref 6,.ref 7,.ref 8,.v .bool]
abbrev mT:List (Nat×XP):=[(0,BI)]
abbrev AL8:List (Nat×XP):=[(1,KD),(3,BI)]
abbrev AB8:List (Nat×XP):=[(0,nt)]
abbrev ALX:List (Nat×XP):=[(0,xP7)]
abbrev AUi:List (Nat×XP):=[(0,.agg [.v tI,.v tI,.v tI,.v tI,.v .str])]
abbrev AVz:List (Nat×XP):=[(2,KD),(3,Zg),(5,BI),(6,BI)]
abbrev AUl:List (Nat×XP):=[(1,KD),(2,Zg),(3,xP4),(4,BI)]
abbrev APD:List (Nat×XP):=[(0,AO8)]
abbrev AU6:List (Nat×XP):=[(0,.Me [.inr [.ref 0,.ref 1,.v tI],.inl (.v .bool)])]
abbrev AP9:List (Nat×XP):=[(0,.Me [.inr [.ref 0,.v tI,.ref 1,.ref 2,.ref 3,.v tI,.ref 4,.ref 5,.ref 6,.ref 7,.v .bool],.inl (.v tI)])]
abbrev AWo:List (Nat×XP):=[(0,.Me [.inr [.v tI,.ref 0],.inl (.v .bool)])]
abbrev APc:List (Nat×XP):=[(0,.Me [.inr [.v tI,.v tI,.ref 0,.ref 1,.v .bool,.ref 2],.inl (.v .bool)])]
abbrev AV5:List (Nat×XP):=[(0,.Me [.inr [.ref 0,.v tI,.ref 1,.ref 8,.ref 3,.v tI,.ref 4,.ref 5,.ref 6,.ref 7,.v .bool],.inl (.v tI)])]
abbrev AV8:List (Nat×XP):=[(0,.Me [.inr [.ref 1,.ref 2,.v tI],.inl (.v .bool)])]
abbrev AT9:List (Nat×XP):=[(0,.Me [.inr [.v tI,.v tI,.ref 0],.inl (.v tI)])]
abbrev AVY:List (Nat×XP):=[(0,KD),(1,BI),(2,BI)]
abbrev rr:List BP:=[th]
abbrev AV4:List BP:=[th,Fv]
abbrev ARa:List BP:=[tu]
abbrev AWa:List BP:=[Fv,Z4,Fv,TQ,aJ,aG,Zi,Sg]
abbrev vB:List BP:=[Fv]
abbrev AWM:List BP:=[th,tu,Fv]
abbrev ADT:List BP:=[rB]
abbrev AXS:List BP:=[tu,ARW]
abbrev AUv:List BP:=[tu,AHv]
abbrev APj:List BP:=[tu,yl]
abbrev AW1:List BP:=[Fv,Mq,oK]
abbrev AEk:List BP:=[yl,.mem [.v tI,.v tI,.ref 2,.ref 3,.v .bool,.ref 4],Fv,Mq,oK,.mem [.v tI,.v tI,.ref 6,.ref 7,.v .bool,.ref 8],Fv,Mq,oK]
abbrev cP:List BP:=[rB,AHa,Fv,Z4,Fv,TQ,aJ,aG,Zi,Sg,ADe,Fv,Z4,Fv,TQ,aJ,aG,Zi,Sg]
abbrev ADw:List BP:=[Du,Vz,Du,M_,Un,Sc,Ps,MO]
abbrev AMM:List BP:=[Du,Z1,Du,M_,nW,.sl 1 Y7,Ps,MO]
abbrev AA3:List BP:=[Du,Z1,Du,M_,nW,Sc,Ps,MO,rM,td,Fv,Z4,Fv,TQ,aJ,aG,Zi,Sg,yX,.mem [.v tI,.sl true Y5]]
abbrev AMw:List BP:=[.mem [.v tI,.ref 1],.sl 9 Y5,.mem [.v tI,.ref 3],.sl 9 Y5]
abbrev AMX:List BP:=[AVW,Fv,Mq,oK,AUd,Fv,Mq,oK]
abbrev AM5:List BP:=[Du,Vz,Du,M_,Un,Sc,Ps,MO,.mem [.ref 0,.v tI,.ref 1,.ref 9,.ref 3,.v tI,.ref 4,.ref 5,.ref 6,.ref 7,.v .bool],Fv,AFA,.mem [.ref 12,.v tI,.ref 13,.ref 14,.ref 15,.v tI,.ref 16,.ref 17,.ref 18,.ref 19,.v .bool],Fv,Z4,Fv,TQ,aJ,aG,Zi,Sg]
abbrev AMf:List BP:=[Z1,AHi,Mq,Mq,AST,Mq,Mq,Z1]
abbrev ANE:List BP:=[tu,Fv]
abbrev fh:List BP:=[ACg,Du,Vz,Du,M_,Un,Sc,Ps,MO]
abbrev tK:List BP:=[.sl 1 Y1]
abbrev AMd:List BP:=[AOt,Du,Vz,Du,M_,Un,Sc,Ps,MO,Du]
abbrev AMK:List BP:=[.mem [.v tI,.v tI,.ref 1],.sl 1 Y8]
abbrev AMN:List BP:=[ACg,Du,Vz,Du,M_,Un,Sc,.sl 1 Y9,MO]
abbrev ADj:List BP:=[rB,Sg]
abbrev Cf:BZ:=⟨[(0,yK)],[]⟩
abbrev AEt:BZ:=⟨[(0,.c (.sl true tU))],[]⟩
abbrev AFo:BZ:=⟨[(0,KD)],rr⟩
abbrev Fi:BZ:=⟨mT,[]⟩
abbrev ADy:BZ:=⟨mT,rr⟩
abbrev AFy:BZ:=⟨[(0,KD),(1,BI)],rr⟩
abbrev AMU:BZ:=⟨[(0,BI),(1,BI),(2,BI)],[]⟩
abbrev AAc:BZ:=⟨[(0,qx)],[]⟩
abbrev lk:BZ:=⟨[(0,qx),(1,az)],[]⟩
abbrev AAJ:BZ:=⟨[(0,.agg [.v tI,.v tI,.ref 0])],[.sl 9 Y8]⟩
abbrev l4:BZ:=⟨[(0,BI),(1,BI)],[]⟩
abbrev l8:BZ:=⟨[(0,az),(1,BI)],[]⟩
abbrev fI:BZ:=⟨AB8,vB⟩
abbrev ANB:BZ:=⟨[(0,KD),(1,qx)],rr⟩
abbrev AMt:BZ:=⟨ALX,AV4⟩
abbrev AAN:BZ:=⟨[(0,.row Y4)],[]⟩
abbrev AMa:BZ:=⟨[(0,.row Y4),(1,BI)],[]⟩
abbrev AF2:BZ:=⟨[(0,KD),(1,.row Y11)],rr⟩
abbrev AF9:BZ:=⟨AUi,rr⟩
abbrev ADm:BZ:=⟨[(0,Xv),(1,BI)],[]⟩
abbrev AA0:BZ:=⟨[(0,Xv)],[]⟩
abbrev mG:BZ:=⟨[(0,.row Y2)],[]⟩
abbrev fH:BZ:=⟨[(0,.row Y11)],[]⟩
abbrev AMT:BZ:=⟨AL8,ADT⟩
abbrev AFk:BZ:=⟨[(0,qx),(1,.row Y4)],[]⟩
abbrev AEH:BZ:=⟨[(0,qx),(1,.row Y6)],[]⟩
abbrev w8:BZ:=⟨[(0,.row Y7)],[]⟩
abbrev wW:BZ:=⟨[(0,qx),(1,.row Y7)],[]⟩
abbrev AMu:BZ:=⟨[(2,KD),(3,Zg),(5,BI)],APj⟩
abbrev ABC:BZ:=⟨[(0,.row Y9)],[]⟩
abbrev ADo:BZ:=⟨[(0,.row Y12)],[]⟩
abbrev AFN:BZ:=⟨[(0,.agg [.ref 0,.v tI])],[TQ]⟩
abbrev AD9:BZ:=⟨[(0,.agg [.ref 0,.ref 1,.v tI])],[Mq,Mq]⟩
abbrev AAO:BZ:=⟨[(0,.row Y6)],[]⟩
abbrev ADh:BZ:=⟨[(0,.agg [.v tI,.ref 0])],[.sl 9 Y5]⟩
abbrev wI:BZ:=⟨[(0,.agg [.v tI,.v tI,.ref 0,.ref 1,.v .bool,.ref 2])],AW1⟩
abbrev ANH:BZ:=⟨APD,AWa⟩
abbrev ANK:BZ:=⟨[(0,qx),(1,.row Y4),(2,az)],[]⟩
abbrev ANN:BZ:=⟨[(0,.Me [.inr [.ref 0,.v tI],.inl (.v tI),.inl (.v .bool)])],[TQ]⟩
abbrev cS:BZ:=⟨[(0,AO8),(1,.row Y12)],ADw⟩
abbrev xq:BZ:=⟨[(0,.row Y11),(1,BI)],[]⟩
abbrev AMS:BZ:=⟨[(0,qx),(1,.row Y6),(2,.c (.v .str))],[]⟩
abbrev AM7:BZ:=⟨[(0,.Me [.inr [.v tI,.ref 0],.inl (.v tI),.inl (.v .bool)])],[.sl 9 Y5]⟩
abbrev AFV:BZ:=⟨[(0,.row Y2),(1,.row Y1)],[]⟩
abbrev tG:BZ:=⟨AU6,[Mq,Mq]⟩
abbrev sJ:BZ:=⟨AP9,ADw⟩
abbrev AMW:BZ:=⟨[(0,.row Y1),(1,.row Y1)],[]⟩
abbrev ANM:BZ:=⟨[(0,.agg [.v tI,.v tI,.v .bool,.v .str])],[]⟩
abbrev xt:BZ:=⟨AB8,[Mq]⟩
abbrev iN:BZ:=⟨[(0,.row Y2),(1,BI)],[]⟩
abbrev AMP:BZ:=⟨[(1,BI),(2,KD),(4,Zg),(6,zy),(7,BI)],[AP8,AHi,Mq,Mq,AST,Mq,Mq]⟩
abbrev xe:BZ:=⟨[(0,.Me [.inr [.v tI,.v tI,.v .bool,.v .str],.inl (.v .bool)])],[]⟩
abbrev AM9:BZ:=⟨[(0,qx),(1,.row Y6),(2,BI),(3,BI)],[]⟩
abbrev AMj:BZ:=⟨AWo,[.sl 9 Y5]⟩
abbrev ow:BZ:=⟨[(0,.Me [.inl (.v tI),.inl (.v .bool)])],[]⟩
abbrev AMV:BZ:=⟨[(0,.row Y7),(1,BI)],[]⟩
abbrev ANJ:BZ:=⟨[(0,qx),(1,.row Y7),(2,BI),(3,BI)],[]⟩
abbrev vp:BZ:=⟨APc,AW1⟩
abbrev AMe:BZ:=⟨AP9,AMM⟩
abbrev AEw:BZ:=⟨[(0,az),(1,az)],[]⟩
abbrev AMs:BZ:=⟨[(0,qx),(1,.row Y6),(2,BI)],[]⟩
abbrev AMI:BZ:=⟨[(0,qx),(1,.row Y7),(2,BI)],[]⟩
abbrev ANO:BZ:=⟨[(0,qx),(1,nt),(2,az),(3,BI),(4,BI)],[Vz]⟩
abbrev AFf:BZ:=⟨APD,ADw⟩
abbrev AMq:BZ:=⟨[(0,qx),(1,.row Y7),(2,BI),(3,Xv)],[]⟩
abbrev AD4:BZ:=⟨[(0,qx),(1,az),(2,az)],[]⟩
abbrev ANG:BZ:=⟨[(0,qx),(1,.row Y7),(2,az)],[]⟩
abbrev AMg:BZ:=⟨[(0,qx),(1,.row Y4),(2,BI),(3,BI)],[]⟩
abbrev AAG:BZ:=⟨[(0,.Me [.inr [.ref 0,.v tI],.inl (.v .bool)])],[TQ]⟩
abbrev AM2:BZ:=⟨[(0,qx),(1,.row Y4),(2,BI)],[]⟩
abbrev AMv:BZ:=⟨[(0,qx),(1,.row Y4),(2,BI),(3,.row Y9),(4,rP)],[]⟩
abbrev ANC:BZ:=⟨[(0,.row Y11),(1,.row Y12)],[]⟩
abbrev AMb:BZ:=⟨ALX,[PV,Du]⟩
abbrev AEg:BZ:=⟨AB8,[Du]⟩
abbrev AA8:BZ:=⟨[(0,xY),(1,BI)],[]⟩
abbrev wx:BZ:=⟨[(0,xY)],[]⟩
abbrev sY:BZ:=⟨[(0,KD),(1,BI)],fh⟩
abbrev pg:BZ:=⟨mT,fh⟩
abbrev AMr:BZ:=⟨[(0,KD),(1,.row Y12)],fh⟩
abbrev ANI:BZ:=⟨ALX,[PV,.sl 1 Y1]⟩
abbrev AAR:BZ:=⟨AU6,[.sl 1 Y1,Mq]⟩
abbrev AMp:BZ:=⟨AWo,[.sl 2 Y5]⟩
abbrev AA7:BZ:=⟨AVY,fh⟩
abbrev AMY:BZ:=⟨[(0,.Me [])],fh⟩
abbrev ADq:BZ:=⟨[(0,KD),(1,BI),(2,BI),(6,BI)],fh⟩
abbrev AMD:BZ:=⟨APc,[Fv,Mq,.sl 2 (.sl tI)]⟩
abbrev AE5:BZ:=⟨[(0,KD)],fh⟩
abbrev AMQ:BZ:=⟨[(0,.Me [])],[.mem [.v tI,.v tI,.ref 2],PV,.sl 1 Y8]⟩
abbrev AMF:BZ:=⟨AB8,[Sg]⟩
abbrev i9:BZ:=⟨[(0,.c (.sl false tU))],[]⟩
abbrev o9:BZ:=Cf
def s9:SQ:=mk Tryz.func9 i9 o9 XG [] [] []
def s38:SQ:=mk Tryz.func38 AEt AFo bY [] [] [⟨3,⟨[(0,.c (.sl true tU)),(3,BI),(4,BI)],[]⟩,Pu⟩]
def s39:SQ:=mk Tryz.func39 ⟨[(0,.c (.sl false tU)),(1,BI),(2,BI)],[]⟩ Fi YA [] [] []
def AZG:SQ:=mk Tryz.func155 AFo ADy Ly [] [(2,[0]),(3,[0]),(4,[0])] []
def s63:SQ:=mk Tryz.func63 AFy ADy Am [AZG] [] []
def s62:SQ:=mk Tryz.func62 AFy ⟨[(0,yK)],rr⟩ B6 [s63] [] []
def s81:SQ:=mk Tryz.func81 AFo ⟨[(0,.agg [.ref 1,.v tI])],AV4⟩ O9 [s62,s63] [(6,[1,2])] [⟨4,⟨[(0,KD),(2,Zg),(3,xP4),(4,BI),(5,BI)],[th,.mem [.ref 2,.v tI],Fv,.mem [.ref 4,.v tI],Fv]⟩,IW⟩] (hJ:= .cons (fun _=>rfl) (fun n v ω=>by rcases ω with _|⟨_|_,_|⟨_|_,_⟩⟩<;>kernel_rfl) (.nil))
def Xt:SQ:=mk Tryz.func129 AMU Cf CK [] [] []
abbrev i167:BZ:=AAc
abbrev AaL:BZ:=Cf
def wZ:SQ:=mk Tryz.func167 i167 AaL GU [Xt] [] [⟨4,⟨AL8,ARa⟩,LP⟩]
def AWK:SQ:=mk Tryz.func163 ⟨[(0,az),(1,BI),(2,BI)],[]⟩ Cf We [Xt] [] [⟨2,⟨[(0,az),(1,BI),(2,BI),(7,BI)],[]⟩,Mx⟩]
def y7:SQ:=mk Tryz.func165 lk Cf Gr [AWK,wZ] [] []
def AVF:SQ:=mk Tryz.func166 lk Fi US [] [(6,[0,1])] [⟨4,⟨[(1,az),(2,KD),(5,xP7),(6,BI),(7,BI)],[tu,.sl 9 .bool]⟩,N2⟩]
abbrev i82:BZ:=lk
abbrev o82:BZ:=Cf
def s82:SQ:=mk Tryz.func82 i82 o82 FQ [y7,AVF] [(1,[0])] []
abbrev i168:BZ:=⟨[],[]⟩
abbrev AbU:BZ:=AAJ
def AVy:SQ:=mk Tryz.func168 i168 AbU XX [] [] []
abbrev i83:BZ:=AAc
abbrev o83:BZ:=⟨[(0,.Me [.inr [.ref 0,.v tI,.ref 1,.ref 2,.ref 3,.v tI,.ref 4,.ref 5,.ref 6,.ref 7,.v .bool],.inl (.v .bool)])],AWa⟩
def c83:QN:=⟨i83,o83,(i83.un Hc)⟩
def C83:aW:=⟨T,RD (SP.l [wZ,AVy]),CQ [(3,[0,1]),(4,[0,4])]⟩
def L83:List (Lp o83):=[]
def BE(ω:List Bool):Prop:= ∀(n:Nat) (v:i83.V),DO C83 c83 Tryz.f83 (L0 0 L83 n) ω v=i83.un (Hc) v
theorem AVZ:BE []:=by delta BE;intros;kernel_rfl
theorem AV_:BE (false::[]):=by delta BE;intros;kernel_rfl
theorem AUN:BE (false::false::[]):=by delta BE;intros;kernel_rfl
theorem AWY:BE (false::false::false::[]):=by delta BE;intros;kernel_rfl
theorem AVo:BE (false::false::false::false::[]):=by delta BE;intros;kernel_rfl
theorem AUp:BE (false::false::false::false::false::[]):=by delta BE;intros;kernel_rfl
theorem AW3:BE (false::false::false::false::false::false::[]):=by delta BE;intros;kernel_rfl
theorem AT1:BE (false::false::false::false::false::false::false::[]):=by delta BE;intros;kernel_rfl
theorem AWc(ω:List Bool):BE (false::false::false::false::false::false::false::false::ω):=by delta BE;intros;kernel_rfl
theorem ASb(ω:List Bool):BE (false::false::false::false::false::false::false::true::ω):=by delta BE;intros;kernel_rfl
theorem APt:BE (false::false::false::false::false::false::true::[]):=by delta BE;intros;kernel_rfl
theorem AOd(ω:List Bool):BE (false::false::false::false::false::false::true::false::ω):=by delta BE;intros;kernel_rfl
theorem ANu(ω:List Bool):BE (false::false::false::false::false::false::true::true::ω):=by delta BE;intros;kernel_rfl
theorem AP1:BE (false::false::false::false::false::true::[]):=by delta BE;intros;kernel_rfl
theorem ANT(ω:List Bool):BE (false::false::false::false::false::true::false::ω):=by delta BE;intros;kernel_rfl
theorem AOz(ω:List Bool):BE (false::false::false::false::false::true::true::ω):=by delta BE;intros;kernel_rfl
theorem AQI:BE (false::false::false::false::true::[]):=by delta BE;intros;kernel_rfl
theorem ASt:BE (false::false::false::false::true::false::[]):=by delta BE;intros;kernel_rfl
theorem AS6(ω:List Bool):BE (false::false::false::false::true::false::false::ω):=by delta BE;intros;kernel_rfl
theorem ANm(ω:List Bool):BE (false::false::false::false::true::false::true::ω):=by delta BE;intros;kernel_rfl
theorem AS9(ω:List Bool):BE (false::false::false::false::true::true::ω):=by delta BE;intros;kernel_rfl
theorem ARI:BE (false::false::false::true::[]):=by delta BE;intros;kernel_rfl
theorem ASy:BE (false::false::false::true::false::[]):=by delta BE;intros;kernel_rfl
theorem AR6(ω:List Bool):BE (false::false::false::true::false::false::ω):=by delta BE;intros;kernel_rfl
theorem ARp(ω:List Bool):BE (false::false::false::true::false::true::ω):=by delta BE;intros;kernel_rfl
theorem APR(ω:List Bool):BE (false::false::false::true::true::ω):=by delta BE;intros;kernel_rfl
theorem AOX:BE (false::false::true::[]):=by delta BE;intros;kernel_rfl
theorem ARH:BE (false::false::true::false::[]):=by delta BE;intros;kernel_rfl
theorem AQf:BE (false::false::true::false::false::[]):=by delta BE;intros;kernel_rfl
theorem AOj(ω:List Bool):BE (false::false::true::false::false::false::ω):=by delta BE;intros;kernel_rfl
theorem AQe(ω:List Bool):BE (false::false::true::false::false::true::ω):=by delta BE;intros;kernel_rfl
theorem AP_(ω:List Bool):BE (false::false::true::false::true::ω):=by delta BE;intros;kernel_rfl
theorem AOB(ω:List Bool):BE (false::false::true::true::ω):=by delta BE;intros;kernel_rfl
theorem ATA:BE (false::true::[]):=by delta BE;intros;kernel_rfl
theorem AQL:BE (false::true::false::[]):=by delta BE;intros;kernel_rfl
theorem AR_:BE (false::true::false::false::[]):=by delta BE;intros;kernel_rfl
theorem ANR(ω:List Bool):BE (false::true::false::false::false::ω):=by delta BE;intros;kernel_rfl
theorem APM(ω:List Bool):BE (false::true::false::false::true::ω):=by delta BE;intros;kernel_rfl
theorem AQ6(ω:List Bool):BE (false::true::false::true::ω):=by delta BE;intros;kernel_rfl
theorem ASH(ω:List Bool):BE (false::true::true::ω):=by delta BE;intros;kernel_rfl
theorem ASk:BE (true::[]):=by delta BE;intros;kernel_rfl
theorem APW:BE (true::false::[]):=by delta BE;intros;kernel_rfl
theorem ART:BE (true::false::false::[]):=by delta BE;intros;kernel_rfl
theorem AOr:BE (true::false::false::false::[]):=by delta BE;intros;kernel_rfl
theorem AQ0:BE (true::false::false::false::false::[]):=by delta BE;intros;kernel_rfl
theorem AQn:BE (true::false::false::false::false::false::[]):=by delta BE;intros;kernel_rfl
theorem ARb:BE (true::false::false::false::false::false::false::[]):=by delta BE;intros;kernel_rfl
theorem AN1:BE (true::false::false::false::false::false::false::false::[]):=by delta BE;intros;kernel_rfl
theorem ARA(ω:List Bool):BE (true::false::false::false::false::false::false::false::false::ω):=by delta BE;intros;kernel_rfl
theorem ARD(ω:List Bool):BE (true::false::false::false::false::false::false::false::true::ω):=by delta BE;intros;kernel_rfl
theorem ASA:BE (true::false::false::false::false::false::false::true::[]):=by delta BE;intros;kernel_rfl
theorem ATG(ω:List Bool):BE (true::false::false::false::false::false::false::true::false::ω):=by delta BE;intros;kernel_rfl
theorem ASi(ω:List Bool):BE (true::false::false::false::false::false::false::true::true::ω):=by delta BE;intros;kernel_rfl
theorem APn:BE (true::false::false::false::false::false::true::[]):=by delta BE;intros;kernel_rfl
theorem AQk(ω:List Bool):BE (true::false::false::false::false::false::true::false::ω):=by delta BE;intros;kernel_rfl
theorem AQa(ω:List Bool):BE (true::false::false::false::false::false::true::true::ω):=by delta BE;intros;kernel_rfl
theorem AQA:BE (true::false::false::false::false::true::[]):=by delta BE;intros;kernel_rfl
theorem ASa:BE (true::false::false::false::false::true::false::[]):=by delta BE;intros;kernel_rfl
theorem ASQ(ω:List Bool):BE (true::false::false::false::false::true::false::false::ω):=by delta BE;intros;kernel_rfl
theorem ARJ(ω:List Bool):BE (true::false::false::false::false::true::false::true::ω):=by delta BE;intros;kernel_rfl
theorem AOZ(ω:List Bool):BE (true::false::false::false::false::true::true::ω):=by delta BE;intros;kernel_rfl
theorem ASc:BE (true::false::false::false::true::[]):=by delta BE;intros;kernel_rfl
theorem AOA:BE (true::false::false::false::true::false::[]):=by delta BE;intros;kernel_rfl
theorem ARS(ω:List Bool):BE (true::false::false::false::true::false::false::ω):=by delta BE;intros;kernel_rfl
theorem ASw(ω:List Bool):BE (true::false::false::false::true::false::true::ω):=by delta BE;intros;kernel_rfl
theorem ANw(ω:List Bool):BE (true::false::false::false::true::true::ω):=by delta BE;intros;kernel_rfl
theorem AOS:BE (true::false::false::true::[]):=by delta BE;intros;kernel_rfl
theorem ANc:BE (true::false::false::true::false::[]):=by delta BE;intros;kernel_rfl
theorem AS5:BE (true::false::false::true::false::false::[]):=by delta BE;intros;kernel_rfl
theorem ASF(ω:List Bool):BE (true::false::false::true::false::false::false::ω):=by delta BE;intros;kernel_rfl
theorem ANi(ω:List Bool):BE (true::false::false::true::false::false::true::ω):=by delta BE;intros;kernel_rfl
theorem AQi(ω:List Bool):BE (true::false::false::true::false::true::ω):=by delta BE;intros;kernel_rfl
theorem ARV(ω:List Bool):BE (true::false::false::true::true::ω):=by delta BE;intros;kernel_rfl
theorem AQh:BE (true::false::true::[]):=by delta BE;intros;kernel_rfl
theorem AQ3:BE (true::false::true::false::[]):=by delta BE;intros;kernel_rfl
theorem ASC:BE (true::false::true::false::false::[]):=by delta BE;intros;kernel_rfl
theorem ANn(ω:List Bool):BE (true::false::true::false::false::false::ω):=by delta BE;intros;kernel_rfl
theorem ANz(ω:List Bool):BE (true::false::true::false::false::true::ω):=by delta BE;intros;kernel_rfl
theorem AN3(ω:List Bool):BE (true::false::true::false::true::ω):=by delta BE;intros;kernel_rfl
theorem ANQ(ω:List Bool):BE (true::false::true::true::ω):=by delta BE;intros;kernel_rfl
theorem ARY:BE (true::true::[]):=by delta BE;intros;kernel_rfl
theorem AQN:BE (true::true::false::[]):=by delta BE;intros;kernel_rfl
theorem ASS:BE (true::true::false::false::[]):=by delta BE;intros;kernel_rfl
theorem APa(ω:List Bool):BE (true::true::false::false::false::ω):=by delta BE;intros;kernel_rfl
theorem ANU(ω:List Bool):BE (true::true::false::false::true::ω):=by delta BE;intros;kernel_rfl
theorem ASY(ω:List Bool):BE (true::true::false::true::ω):=by delta BE;intros;kernel_rfl
theorem AS_(ω:List Bool):BE (true::true::true::ω):=by delta BE;intros;kernel_rfl
theorem e83(n:Nat)(ω:List Bool)(v:i83.V):DO C83 c83 Tryz.f83 (L0 0 L83 n) ω v=i83.un (Hc) v:=(AE AVZ (AE AV_ (AE AUN (AE AWY (AE AVo (AE AUp (AE AW3 (AE AT1 AWc ASb) (AE APt AOd ANu)) (AE AP1 ANT AOz)) (AE AQI (AE ASt AS6 ANm) AS9)) (AE ARI (AE ASy AR6 ARp) APR)) (AE AOX (AE ARH (AE AQf AOj AQe) AP_) AOB)) (AE ATA (AE AQL (AE AR_ ANR APM) AQ6) ASH)) (AE ASk (AE APW (AE ART (AE AOr (AE AQ0 (AE AQn (AE ARb (AE AN1 ARA ARD) (AE ASA ATG ASi)) (AE APn AQk AQa)) (AE AQA (AE ASa ASQ ARJ) AOZ)) (AE ASc (AE AOA ARS ASw) ANw)) (AE AOS (AE ANc (AE AS5 ASF ANi) AQi) ARV)) (AE AQh (AE AQ3 (AE ASC ANn ANz) AN3) ANQ)) (AE ARY (AE AQN (AE ASS APa ANU) ASY) AS_))) ω n v
def s83:SQ:=mk Tryz.func83 i83 o83 Hc [wZ,AVy] [(3,[0,1]),(4,[0,4])] L83 (hJ:= .nil) (he:=e83 Ae)
def AE4:SQ:=mk Tryz.func225 l4 Fi L9 [] [] []
abbrev iF:BZ:=l8
abbrev vt:BZ:=Cf
def nI:SQ:=mk Tryz.func180 iF vt DK [] [] [⟨2,⟨[(0,az),(1,BI),(5,BI)],[]⟩,Pm⟩]
def ACl:SQ:=mk Tryz.func164 l8 fI L8 [nI] [] [⟨4,⟨[(0,az),(1,BI),(5,nt),(6,yK),(7,BI)],vB⟩,Ke⟩]
def AZ0:SQ:=mk Tryz.func241 ⟨[(0,KD),(1,az)],rr⟩ ADy N_ [s63] [] []
def Ab0:SQ:=mk Tryz.func147 ANB AMt Oo [s62,s63,ACl,AE4,AZ0] [] [⟨4,⟨[(0,KD),(3,Zg),(5,xP9),(6,BI),(7,BI)],AWM⟩,IM⟩]
def s77:SQ:=mk Tryz.func77 ANB AMt LY [s82,Ab0,ACl] [] [⟨3,⟨[(3,Zg),(5,xP9),(6,BI)],AWM⟩,KO⟩]
def s76:SQ:=mk Tryz.func76 ⟨[(0,az)],[]⟩ Fi Li [AWK] [] [⟨5,⟨[(0,az),(3,BI),(4,BI)],[]⟩,KM⟩]
def ALA:SQ:=mk Tryz.func169 AAN Fi JO [] [] [⟨2,⟨AL8,[ARW]⟩,IC⟩]
abbrev y8:BZ:=AMa
abbrev o69:BZ:=fI
def s69:SQ:=mk Tryz.func69 y8 o69 Ce [Xt] [] []
def Aac:SQ:=mk Tryz.func170 AF2 AF9 Lj [s62,s63,s69,s82,AE4] [(18,[1,2,3])] [⟨16,⟨[(0,KD),(3,Zg),(4,yh),(5,xP4),(7,BI),(8,BI),(9,BI)],[th,rB,AFA,yl]⟩,F9⟩]
def s64:SQ:=mk Tryz.func64 ⟨[(0,KD),(1,.c (.sl false .str))],rr⟩ ⟨[(0,.c (.v .str))],rr⟩ It [s63] [] []
def Aa3:SQ:=mk Tryz.func250 l4 Fi TG [] [] []
def AZm:SQ:=mk Tryz.func171 AF2 AF9 Gp [s62,s63,s64,s69,Aa3] [] []
def s84:SQ:=mk Tryz.func84 AF2 AF9 Om [s62,s63,s76,s77,ALA,Aac,AZm] [(16,[1]),(27,[1,2])] []
def yi:SQ:=mk Tryz.func185 Fi Cf Hd [Xt] [] []
abbrev g_:BZ:=Fi
abbrev xf:BZ:=Fi
def pO:SQ:=mk Tryz.func186 g_ xf C0 [yi] [] []
def ALr:SQ:=mk Tryz.func255 ⟨[(0,.row Y1)],[]⟩ Cf MH [Xt,yi,pO] [(1,[0])] []
def AYd:SQ:=mk Tryz.func253 ADm Cf Ue [ALr] [] [⟨4,⟨[(0,Xv),(5,BI)],[]⟩,LD⟩]
def AUg:SQ:=mk Tryz.func254 AA0 Cf XT [] [] [⟨2,⟨[(0,Xv),(3,BI)],[]⟩,GV⟩]
def zo:SQ:=mk Tryz.func179 mG Cf Ge [Xt,AYd,AUg] [] []
def AbV:SQ:=mk Tryz.func181 mG Cf bR [] [] []
def AZ8:SQ:=mk Tryz.func106 fH Cf T_ [s82,y7,wZ,zo,nI,AbV] [] [⟨4,AMT,JC⟩]
abbrev i182:BZ:=AFk
abbrev AWi:BZ:=Cf
def AB5:SQ:=mk Tryz.func182 i182 AWi MQ [s82,Xt,wZ,yi,pO] [] [⟨5,⟨AVz,AXS⟩,Kd⟩]
abbrev i183:BZ:=AEH
abbrev AXD:BZ:=Cf
def ADv:SQ:=mk Tryz.func183 i183 AXD Hh [s82,Xt,y7,wZ] [(8,[0,1,2])] [⟨5,⟨AVz,AUv⟩,LK⟩]
abbrev fx:BZ:=Fi
abbrev wK:BZ:=Fi
def ALu:SQ:=mk Tryz.func280 fx wK HM [yi] [] []
def AVL:SQ:=mk Tryz.func256 w8 Fi Q8 [ALu] [] []
def ABi:SQ:=mk Tryz.func184 wW Cf Ix [Xt,y7,wZ,pO,AUg,ALr,AVL] [(6,[0,1]),(11,[0,1]),(15,[0,1])] [⟨4,AMu,JZ⟩,⟨9,⟨[(2,KD),(3,Zg),(6,BI)],APj⟩,Hr⟩]
def AYX:SQ:=mk Tryz.func107 fH Cf RL [ALA,AB5,ADv,ABi] [(7,[0]),(13,[0,1])] [⟨5,⟨[(1,KD),(3,BI),(4,BI)],ADT⟩,Gg⟩,⟨10,⟨[(1,KD),(3,BI),(5,BI)],ADT⟩,Ex⟩]
def AUc:SQ:=mk Tryz.func108 ABC Cf M7 [Xt] [] []
def AY0:SQ:=mk Tryz.func109 fH Cf Vu [yi,pO] [(7,[0,1])] [⟨4,AMT,J6⟩]
def s52:SQ:=mk Tryz.func52 fH Cf Vn [AZ8,AYX,AUc,AY0] [] []
def Abl:SQ:=mk Tryz.func130 ADo ⟨AUi,[]⟩ ZO [] [] []
def s58:SQ:=mk Tryz.func58 ADo Cf Yx [Xt,Abl] [(1,[0])] []
abbrev gY:BZ:=AAN
abbrev v8:BZ:=AFN
def AB2:SQ:=mk Tryz.func101 gY v8 GH [] [] [⟨3,⟨AUl,[ARW,.mem [.ref 2,.v tI],TQ,.mem [.ref 4,.v tI],TQ]⟩,Nq⟩]
abbrev kJ:BZ:=mG
abbrev yx:BZ:=AD9
def ABt:SQ:=mk Tryz.func102 kJ yx Er [] [(1,[0])] [] (he:=fun ω v=>by rcases ω with _|⟨_|_,_|⟨_|_,_⟩⟩<;>kernel_rfl)
abbrev fz:BZ:=AAO
abbrev xR:BZ:=ADh
def ADC:SQ:=mk Tryz.func103 fz xR FU [] [] [⟨3,⟨AUl,[AHv,.mem [.v tI,.ref 2],.sl 9 Y5,.mem [.v tI,.ref 4],.sl 9 Y5]⟩,OQ⟩]
abbrev bC:BZ:=w8
abbrev tX:BZ:=wI
def AOL:QN:=⟨bC,tX,(bC.un ET)⟩
def ASo:aW:=⟨T,RD (SP.l ([]:List SQ)),CQ [(1,[0,1]),(5,[0,1,2,3,4,6,7])]⟩
def AJO:List (Lp tX):=[⟨3,⟨[(1,KD),(2,Zg),(3,.c (.ptr 5 0)),(4,BI)],AEk⟩,Hz⟩]
abbrev yy:BZ:=⟨[(1,KD),(2,Zg),(3,.c (.ptr 5 0)),(4,BI)],AEk⟩
theorem AQu(n:Nat)(v:yy.V)(ω:List Bool):HZ ASo AOL Tryz.f104 (L0 0 AJO n) 3 ω (yy.st 40 v)=yy.un (Rn (Hz n)) v:=by rcases ω with _|⟨_|_,_|⟨_|_,_|⟨_|_,_⟩⟩⟩<;>kernel_rfl
def DX(ω:List Bool):Prop:= ∀(n:Nat) (v:bC.V),DO ASo AOL Tryz.f104 (L0 0 AJO n) ω v=bC.un (NX (Hz n)) v
theorem ARr:DX []:=by delta DX;intros;kernel_rfl
theorem AQV:DX (false::[]):=by delta DX;intros;kernel_rfl
theorem APH:DX (false::false::[]):=by delta DX;intros;kernel_rfl
theorem APK(ω:List Bool):DX (false::false::false::ω):=by delta DX;intros;kernel_rfl
theorem ANW:DX (false::false::true::[]):=by delta DX;intros;kernel_rfl
theorem APE(ω:List Bool):DX (false::false::true::false::ω):=by delta DX;intros;kernel_rfl
theorem ARq(ω:List Bool):DX (false::false::true::true::ω):=by delta DX;intros;kernel_rfl
theorem ARR:DX (false::true::[]):=by delta DX;intros;kernel_rfl
theorem ANo(ω:List Bool):DX (false::true::false::ω):=by delta DX;intros;kernel_rfl
theorem AHT:DX (false::true::true::[]):=by delta DX;intros;kernel_rfl
theorem AHb(ω:List Bool):DX (false::true::true::false::ω):=by delta DX;intros;kernel_rfl
theorem AJQ:DX (false::true::true::true::[]):=by delta DX;intros;kernel_rfl
theorem AH2(ω:List Bool):DX (false::true::true::true::false::ω):=by delta DX;intros;kernel_rfl
theorem AIn(ω:List Bool):DX (false::true::true::true::true::ω):=by delta DX;intros;kernel_rfl
theorem AIS:DX (true::[]):=by delta DX;intros;kernel_rfl
theorem AIi:DX (true::false::[]):=by delta DX;intros;kernel_rfl
theorem AG7:DX (true::false::false::[]):=by delta DX;intros;kernel_rfl
theorem AJb(ω:List Bool):DX (true::false::false::false::ω):=by delta DX;intros;kernel_rfl
theorem AJ_(ω:List Bool):DX (true::false::false::true::ω):=by delta DX;intros;kernel_rfl
theorem ALO:DX (true::false::true::[]):=by delta DX;intros;kernel_rfl
theorem ALN(ω:List Bool):DX (true::false::true::false::ω):=by delta DX;intros;kernel_rfl
theorem AJe:DX (true::false::true::true::[]):=by delta DX;intros;kernel_rfl
theorem AHP(ω:List Bool):DX (true::false::true::true::false::ω):=by delta DX;intros;kernel_rfl
theorem AI_(ω:List Bool):DX (true::false::true::true::true::ω):=by delta DX;intros;kernel_rfl
theorem AJa:DX (true::true::[]):=by delta DX;intros;kernel_rfl
theorem AHo(ω:List Bool):DX (true::true::false::ω):=by delta DX;intros;kernel_rfl
theorem AJF:DX (true::true::true::[]):=by delta DX;intros;kernel_rfl
theorem AI7(ω:List Bool):DX (true::true::true::false::ω):=by delta DX;intros;kernel_rfl
theorem AHN(ω:List Bool):DX (true::true::true::true::ω):=by delta DX;intros;kernel_rfl
theorem Aat(n:Nat)(ω:List Bool)(v:bC.V):DO ASo AOL Tryz.f104 (L0 0 AJO n) ω v=bC.un (NX (Hz n)) v:=(AE ARr (AE AQV (AE APH APK (AE ANW APE ARq)) (AE ARR ANo (AE AHT AHb (AE AJQ AH2 AIn)))) (AE AIS (AE AIi (AE AG7 AJb AJ_) (AE ALO ALN (AE AJe AHP AI_))) (AE AJa AHo (AE AJF AI7 AHN)))) ω n v
def ABw:SQ:=mk Tryz.func104 bC tX ET [] [(1,[0,1]),(5,[0,1,2,3,4,6,7])] AJO (hJ:= .cons (fun _=>rfl) AQu (.nil)) (he:=Aat Ae)
abbrev i105:BZ:=ABC
abbrev yU:BZ:=AAJ
def AG8:SQ:=mk Tryz.func105 i105 yU CR [] [] []
abbrev i51:BZ:=fH
abbrev o51:BZ:=ANH
def c51:QN:=⟨i51,o51,(i51.un O7)⟩
def C51:aW:=⟨T,RD (SP.l [AB2,ABt,ADC,ABw,AG8]),CQ [(1,[0,1]),(5,[0,1,2,3,4,5,6,7,8,9,11,13,14,15,16,17,18]),(9,[0,1,2,3,4,5,6,7,8,9,11,12,13,14,16,17,18]),(13,[0,1,2,3,4,5,6,7,8,9,11,12,13,14,15,17,18]),(17,[0,1,2,3,4,5,6,7,8,9,11,12,13,14,15,16,18])]⟩
def L51:List (Lp o51):=[⟨3,⟨[(1,KD),(2,Zg),(3,cY),(4,BI)],cP⟩,Cc⟩,⟨7,⟨[(1,KD),(2,Zg),(3,cY),(5,BI)],cP⟩,Cq⟩,⟨11,⟨[(1,KD),(2,Zg),(3,cY),(6,BI)],cP⟩,CY⟩,⟨15,⟨[(1,KD),(2,Zg),(3,cY),(7,BI)],cP⟩,CW⟩]
abbrev sk:BZ:=⟨[(1,KD),(2,Zg),(3,cY),(4,BI)],cP⟩
abbrev sx:BZ:=⟨[(1,KD),(2,Zg),(3,cY),(5,BI)],cP⟩
abbrev k9:BZ:=⟨[(1,KD),(2,Zg),(3,cY),(6,BI)],cP⟩
abbrev lC:BZ:=⟨[(1,KD),(2,Zg),(3,cY),(7,BI)],cP⟩
theorem AW0(df:ABk→Option FZ)(kz:ACc→Option Ki)(dh:ACI→Option Fe)(lI:ABZ→Option GZ)(ld:ADF→Option JL)(n:Nat)(v:sk.V)(ω:List Bool):HZ ⟨T,RD [(101,⟨gY,v8,gY.un df⟩),(102,⟨kJ,yx,kJ.un kz⟩),(103,⟨fz,xR,fz.un dh⟩),(104,⟨bC,tX,bC.un lI⟩),(105,⟨i105,yU,i105.un ld⟩)],CQ [(1,[0,1]),(5,[0,1,2,3,4,5,6,7,8,9,11,13,14,15,16,17,18]),(9,[0,1,2,3,4,5,6,7,8,9,11,12,13,14,16,17,18]),(13,[0,1,2,3,4,5,6,7,8,9,11,12,13,14,15,17,18]),(17,[0,1,2,3,4,5,6,7,8,9,11,12,13,14,15,16,18])]⟩ c51 Tryz.f51 (L0 0 L51 n) 3 ω (sk.st 104 v)=sk.un (fun(t4:Int) (AR:AAH) (AF:Int) (Ai:AAh) (Bk:AAH) (B_:AAo) (AU:Int) (B9:AA1) (B4:ABB) (CH:AAs) (CT:AAX) (AK:Bool) (Bf:Int) (EE:Int) (FB:Bool) (b2:AAH) (b3:AAh) (b4:AAH) (b5:AAo) (b6:AA1) (b7:ABB) (b8:AAs) (b9:AAX) (Dr:Int) (Eh:Int) (C4:Bool) (GO:AAH) (D5:AAh) (G6:AAH) (G7:AAo) (EV:AA1) (FA:ABB) (Fl:AAs) (Uy:AAX)=>
 cond ((decide (t4<(Ai.length:Int))))
  (if(0:Int)≤t4∧t4<(Ai.length:Int)then(
  (kz ((Ai.getD (t4.toNat) ([],[],0,())).1,(Ai.getD (t4.toNat) ([],[],0,())).2.1,(Ai.getD (t4.toNat) ([],[],0,())).2.2.1,())).bind fun zR=>
  if D5.length+1≤Go.M.Dw then(
  (Cc n) (AZ (t4+1)) AR AF Ai Bk B_ AU B9 B4 CH CT AK Bf EE FB b2 b3 b4 b5 b6 b7 b8 b9 Dr Eh C4 GO (D5++[(zR.2.1,zR.2.2.1,zR.1.1.2.2.1,())]) G6 G7 EV FA Fl Uy)else none)else none)
 ((Cq n) 0 AR AF Ai Bk B_ AU B9 B4 CH CT AK Bf EE FB b2 b3 b4 b5 b6 b7 b8 b9 Dr Eh C4 GO D5 G6 G7 EV FA Fl Uy)) v:=by rcases ω with _|⟨_|_,_|⟨_|_,_⟩⟩<;>kernel_rfl
theorem AUH(n:Nat)(v:sk.V)(ω:List Bool):HZ C51 c51 Tryz.f51 (L0 0 L51 n) 3 ω (sk.st 104 v)=sk.un (QV (Cc n) (Cq n) (CY n) (CW n)) v:=AW0 GH Er FU ET CR n v ω
theorem AWU(df:ABk→Option FZ)(kz:ACc→Option Ki)(dh:ACI→Option Fe)(lI:ABZ→Option GZ)(ld:ADF→Option JL)(n:Nat)(v:sx.V)(ω:List Bool):HZ ⟨T,RD [(101,⟨gY,v8,gY.un df⟩),(102,⟨kJ,yx,kJ.un kz⟩),(103,⟨fz,xR,fz.un dh⟩),(104,⟨bC,tX,bC.un lI⟩),(105,⟨i105,yU,i105.un ld⟩)],CQ [(1,[0,1]),(5,[0,1,2,3,4,5,6,7,8,9,11,13,14,15,16,17,18]),(9,[0,1,2,3,4,5,6,7,8,9,11,12,13,14,16,17,18]),(13,[0,1,2,3,4,5,6,7,8,9,11,12,13,14,15,17,18]),(17,[0,1,2,3,4,5,6,7,8,9,11,12,13,14,15,16,18])]⟩ c51 Tryz.f51 (L0 0 L51 n) 7 ω (sx.st 104 v)=sx.un (fun(t5:Int) (AR:AAH) (AF:Int) (Ai:AAh) (Bk:AAH) (B_:AAo) (AU:Int) (B9:AA1) (B4:ABB) (CH:AAs) (CT:AAX) (AK:Bool) (Bf:Int) (EE:Int) (FB:Bool) (b2:AAH) (b3:AAh) (b4:AAH) (b5:AAo) (b6:AA1) (b7:ABB) (b8:AAs) (b9:AAX) (Dr:Int) (Eh:Int) (C4:Bool) (GO:AAH) (D5:AAh) (G6:AAH) (G7:AAo) (EV:AA1) (FA:ABB) (Fl:AAs) (Uy:AAX)=>
 cond ((decide (t5<(B9.length:Int))))
  (if(0:Int)≤t5∧t5<(B9.length:Int)then(
  (dh ((B9.getD (t5.toNat) (0,[],())).1,(B9.getD (t5.toNat) (0,[],())).2.1,())).bind fun AFO=>
  if EV.length+1≤Go.M.Dw then(
  (Cq n) (AZ (t5+1)) AR AF Ai Bk B_ AU B9 B4 CH CT AK Bf EE FB b2 b3 b4 b5 b6 b7 b8 b9 Dr Eh C4 GO D5 G6 G7 (EV++[(AFO.1.1.1,AFO.2.1,())]) FA Fl Uy)else none)else none)
 ((CY n) 0 AR AF Ai Bk B_ AU B9 B4 CH CT AK Bf EE FB b2 b3 b4 b5 b6 b7 b8 b9 Dr Eh C4 GO D5 G6 G7 EV FA Fl Uy)) v:=by rcases ω with _|⟨_|_,_|⟨_|_,_⟩⟩<;>kernel_rfl
theorem AVD(n:Nat)(v:sx.V)(ω:List Bool):HZ C51 c51 Tryz.f51 (L0 0 L51 n) 7 ω (sx.st 104 v)=sx.un (QT (Cc n) (Cq n) (CY n) (CW n)) v:=AWU GH Er FU ET CR n v ω
theorem AOp(df:ABk→Option FZ)(kz:ACc→Option Ki)(dh:ACI→Option Fe)(lI:ABZ→Option GZ)(ld:ADF→Option JL)(n:Nat)(v:k9.V)(ω:List Bool):HZ ⟨T,RD [(101,⟨gY,v8,gY.un df⟩),(102,⟨kJ,yx,kJ.un kz⟩),(103,⟨fz,xR,fz.un dh⟩),(104,⟨bC,tX,bC.un lI⟩),(105,⟨i105,yU,i105.un ld⟩)],CQ [(1,[0,1]),(5,[0,1,2,3,4,5,6,7,8,9,11,13,14,15,16,17,18]),(9,[0,1,2,3,4,5,6,7,8,9,11,12,13,14,16,17,18]),(13,[0,1,2,3,4,5,6,7,8,9,11,12,13,14,15,17,18]),(17,[0,1,2,3,4,5,6,7,8,9,11,12,13,14,15,16,18])]⟩ c51 Tryz.f51 (L0 0 L51 n) 11 ω (k9.st 104 v)=k9.un (fun(t6:Int) (AR:AAH) (AF:Int) (Ai:AAh) (Bk:AAH) (B_:AAo) (AU:Int) (B9:AA1) (B4:ABB) (CH:AAs) (CT:AAX) (AK:Bool) (Bf:Int) (EE:Int) (FB:Bool) (b2:AAH) (b3:AAh) (b4:AAH) (b5:AAo) (b6:AA1) (b7:ABB) (b8:AAs) (b9:AAX) (Dr:Int) (Eh:Int) (C4:Bool) (GO:AAH) (D5:AAh) (G6:AAH) (G7:AAo) (EV:AA1) (FA:ABB) (Fl:AAs) (Uy:AAX)=>
 cond ((decide (t6<(B4.length:Int))))
  (if(0:Int)≤t6∧t6<(B4.length:Int)then(
  (lI ((B4.getD (t6.toNat) (0,0,[],[],false,[],())).1,(B4.getD (t6.toNat) (0,0,[],[],false,[],())).2.1,(B4.getD (t6.toNat) (0,0,[],[],false,[],())).2.2.1,(B4.getD (t6.toNat) (0,0,[],[],false,[],())).2.2.2.1,(B4.getD (t6.toNat) (0,0,[],[],false,[],())).2.2.2.2.1,(B4.getD (t6.toNat) (0,0,[],[],false,[],())).2.2.2.2.2.1,())).bind fun lJ=>
  if FA.length+1≤Go.M.Dw then(
  (CY n) (AZ (t6+1)) AR AF Ai Bk B_ AU B9 B4 CH CT AK Bf EE FB b2 b3 b4 b5 b6 b7 b8 b9 Dr Eh C4 GO D5 G6 G7 EV (FA++[(lJ.1.1.1,lJ.1.1.2.1,lJ.2.1,lJ.2.2.1,lJ.1.1.2.2.2.2.1,lJ.2.2.2.1,())]) Fl Uy)else none)else none)
 ((CW n) 0 AR AF Ai Bk B_ AU B9 B4 CH CT AK Bf EE FB b2 b3 b4 b5 b6 b7 b8 b9 Dr Eh C4 GO D5 G6 G7 EV FA Fl Uy)) v:=by rcases ω with _|⟨_|_,_|⟨_|_,_⟩⟩<;>kernel_rfl
theorem APG(n:Nat)(v:k9.V)(ω:List Bool):HZ C51 c51 Tryz.f51 (L0 0 L51 n) 11 ω (k9.st 104 v)=k9.un (PT (Cc n) (Cq n) (CY n) (CW n)) v:=AOp GH Er FU ET CR n v ω
theorem AQP(df:ABk→Option FZ)(kz:ACc→Option Ki)(dh:ACI→Option Fe)(lI:ABZ→Option GZ)(ld:ADF→Option JL)(n:Nat)(v:lC.V)(ω:List Bool):HZ ⟨T,RD [(101,⟨gY,v8,gY.un df⟩),(102,⟨kJ,yx,kJ.un kz⟩),(103,⟨fz,xR,fz.un dh⟩),(104,⟨bC,tX,bC.un lI⟩),(105,⟨i105,yU,i105.un ld⟩)],CQ [(1,[0,1]),(5,[0,1,2,3,4,5,6,7,8,9,11,13,14,15,16,17,18]),(9,[0,1,2,3,4,5,6,7,8,9,11,12,13,14,16,17,18]),(13,[0,1,2,3,4,5,6,7,8,9,11,12,13,14,15,17,18]),(17,[0,1,2,3,4,5,6,7,8,9,11,12,13,14,15,16,18])]⟩ c51 Tryz.f51 (L0 0 L51 n) 15 ω (lC.st 104 v)=lC.un (fun(t7:Int) (AR:AAH) (AF:Int) (Ai:AAh) (Bk:AAH) (B_:AAo) (AU:Int) (B9:AA1) (B4:ABB) (CH:AAs) (CT:AAX) (AK:Bool) (Bf:Int) (EE:Int) (FB:Bool) (b2:AAH) (b3:AAh) (b4:AAH) (b5:AAo) (b6:AA1) (b7:ABB) (b8:AAs) (b9:AAX) (Dr:Int) (Eh:Int) (C4:Bool) (GO:AAH) (D5:AAh) (G6:AAH) (G7:AAo) (EV:AA1) (FA:ABB) (Fl:AAs) (Uy:AAX)=>
 cond ((decide (t7<(CH.length:Int))))
  (if(0:Int)≤t7∧t7<(CH.length:Int)then(
  (ld ((CH.getD (t7.toNat) (0,0,[],())).1,(CH.getD (t7.toNat) (0,0,[],())).2.1,(CH.getD (t7.toNat) (0,0,[],())).2.2.1,())).bind fun zE=>
  if Fl.length+1≤Go.M.Dw then(
  (CW n) (AZ (t7+1)) AR AF Ai Bk B_ AU B9 B4 CH CT AK Bf EE FB b2 b3 b4 b5 b6 b7 b8 b9 Dr Eh C4 GO D5 G6 G7 EV FA (Fl++[(zE.1.1.1,zE.1.1.2.1,zE.2.1,())]) Uy)else none)else none)
 (some ((((),Dr,(),(),(),Eh,(),(),(),(),C4,()),()),(GO,D5,G6,G7,EV,FA,Fl,Uy,())))) v:=by rcases ω with _|⟨_|_,_|⟨_|_,_⟩⟩<;>kernel_rfl
theorem ASU(n:Nat)(v:lC.V)(ω:List Bool):HZ C51 c51 Tryz.f51 (L0 0 L51 n) 15 ω (lC.st 104 v)=lC.un (PX (Cc n) (Cq n) (CY n) (CW n)) v:=AQP GH Er FU ET CR n v ω
def AG(ω:List Bool):Prop:= ∀(df:ABk→Option FZ) (kz:ACc→Option Ki) (dh:ACI→Option Fe) (lI:ABZ→Option GZ) (ld:ADF→Option JL) (n:Nat) (v:i51.V),DO ⟨T,RD [(101,⟨gY,v8,gY.un df⟩),(102,⟨kJ,yx,kJ.un kz⟩),(103,⟨fz,xR,fz.un dh⟩),(104,⟨bC,tX,bC.un lI⟩),(105,⟨i105,yU,i105.un ld⟩)],CQ [(1,[0,1]),(5,[0,1,2,3,4,5,6,7,8,9,11,13,14,15,16,17,18]),(9,[0,1,2,3,4,5,6,7,8,9,11,12,13,14,16,17,18]),(13,[0,1,2,3,4,5,6,7,8,9,11,12,13,14,15,17,18]),(17,[0,1,2,3,4,5,6,7,8,9,11,12,13,14,15,16,18])]⟩ c51 Tryz.f51 (L0 0 L51 n) ω v=i51.un (fun(p0:ABN)=>
 if 0+p0.1.length≤Go.M.Dw then(
 if 0+p0.2.2.2.1.length≤Go.M.Dw then(
 (df (p0.2.2.2.2.1,p0.2.2.2.2.2.1,())).bind fun u2=>
 if 0+p0.2.2.2.2.2.2.2.2.2.1.length≤Go.M.Dw then(
 (Cc n) 0 p0.1 p0.2.1 p0.2.2.1 p0.2.2.2.1 p0.2.2.2.2.1 p0.2.2.2.2.2.1 p0.2.2.2.2.2.2.1 p0.2.2.2.2.2.2.2.1 p0.2.2.2.2.2.2.2.2.1 p0.2.2.2.2.2.2.2.2.2.1 p0.2.2.2.2.2.2.2.2.2.2.1 0 0 false [] [] [] [] [] [] [] [] p0.2.1 u2.1.1.2.1 p0.2.2.2.2.2.2.2.2.2.2.1 p0.1 [] p0.2.2.2.1 u2.2.1 [] [] [] p0.2.2.2.2.2.2.2.2.2.1)else none)else none)else none) v
theorem AV2:AG []:=by delta AG;intros;kernel_rfl
theorem AXN:AG (false::[]):=by delta AG;intros;kernel_rfl
theorem AVd:AG (false::false::[]):=by delta AG;intros;kernel_rfl
theorem AWV:AG (false::false::false::[]):=by delta AG;intros;kernel_rfl
theorem AWQ:AG (false::false::false::false::[]):=by delta AG;intros;kernel_rfl
theorem AU1:AG (false::false::false::false::false::[]):=by delta AG;intros;kernel_rfl
theorem AT5(ω:List Bool):AG (false::false::false::false::false::false::ω):=by delta AG;intros;kernel_rfl
theorem AVI:AG (false::false::false::false::false::true::[]):=by delta AG;intros;kernel_rfl
theorem AVQ(ω:List Bool):AG (false::false::false::false::false::true::false::ω):=by delta AG;intros;kernel_rfl
theorem ANb(ω:List Bool):AG (false::false::false::false::false::true::true::ω):=by delta AG;intros;kernel_rfl
theorem ARj:AG (false::false::false::false::true::[]):=by delta AG;intros;kernel_rfl
theorem AOq(ω:List Bool):AG (false::false::false::false::true::false::ω):=by delta AG;intros;kernel_rfl
theorem ARk:AG (false::false::false::false::true::true::[]):=by delta AG;intros;kernel_rfl
theorem ATC(ω:List Bool):AG (false::false::false::false::true::true::false::ω):=by delta AG;intros;kernel_rfl
theorem AOC:AG (false::false::false::false::true::true::true::[]):=by delta AG;intros;kernel_rfl
theorem AN9(ω:List Bool):AG (false::false::false::false::true::true::true::false::ω):=by delta AG;intros;kernel_rfl
theorem ASV:AG (false::false::false::false::true::true::true::true::[]):=by delta AG;intros;kernel_rfl
theorem AQw(ω:List Bool):AG (false::false::false::false::true::true::true::true::false::ω):=by delta AG;intros;kernel_rfl
theorem AQg(ω:List Bool):AG (false::false::false::false::true::true::true::true::true::ω):=by delta AG;intros;kernel_rfl
theorem AS2:AG (false::false::false::true::[]):=by delta AG;intros;kernel_rfl
theorem ASJ:AG (false::false::false::true::false::[]):=by delta AG;intros;kernel_rfl
theorem APP:AG (false::false::false::true::false::false::[]):=by delta AG;intros;kernel_rfl
theorem ATD(ω:List Bool):AG (false::false::false::true::false::false::false::ω):=by delta AG;intros;kernel_rfl
theorem AQz(ω:List Bool):AG (false::false::false::true::false::false::true::ω):=by delta AG;intros;kernel_rfl
theorem ARs:AG (false::false::false::true::false::true::[]):=by delta AG;intros;kernel_rfl
theorem APf(ω:List Bool):AG (false::false::false::true::false::true::false::ω):=by delta AG;intros;kernel_rfl
theorem ASN:AG (false::false::false::true::false::true::true::[]):=by delta AG;intros;kernel_rfl
theorem AP0(ω:List Bool):AG (false::false::false::true::false::true::true::false::ω):=by delta AG;intros;kernel_rfl
theorem AOg:AG (false::false::false::true::false::true::true::true::[]):=by delta AG;intros;kernel_rfl
theorem AOV(ω:List Bool):AG (false::false::false::true::false::true::true::true::false::ω):=by delta AG;intros;kernel_rfl
theorem AN6(ω:List Bool):AG (false::false::false::true::false::true::true::true::true::ω):=by delta AG;intros;kernel_rfl
theorem ARm:AG (false::false::false::true::true::[]):=by delta AG;intros;kernel_rfl
theorem ARy(ω:List Bool):AG (false::false::false::true::true::false::ω):=by delta AG;intros;kernel_rfl
theorem AQy:AG (false::false::false::true::true::true::[]):=by delta AG;intros;kernel_rfl
theorem ASB(ω:List Bool):AG (false::false::false::true::true::true::false::ω):=by delta AG;intros;kernel_rfl
theorem AOD:AG (false::false::false::true::true::true::true::[]):=by delta AG;intros;kernel_rfl
theorem ASD(ω:List Bool):AG (false::false::false::true::true::true::true::false::ω):=by delta AG;intros;kernel_rfl
theorem AOH(ω:List Bool):AG (false::false::false::true::true::true::true::true::ω):=by delta AG;intros;kernel_rfl
theorem AO3:AG (false::false::true::[]):=by delta AG;intros;kernel_rfl
theorem ANr:AG (false::false::true::false::[]):=by delta AG;intros;kernel_rfl
theorem AOa:AG (false::false::true::false::false::[]):=by delta AG;intros;kernel_rfl
theorem AP3(ω:List Bool):AG (false::false::true::false::false::false::ω):=by delta AG;intros;kernel_rfl
theorem ANk:AG (false::false::true::false::false::true::[]):=by delta AG;intros;kernel_rfl
theorem AOU(ω:List Bool):AG (false::false::true::false::false::true::false::ω):=by delta AG;intros;kernel_rfl
theorem ARG(ω:List Bool):AG (false::false::true::false::false::true::true::ω):=by delta AG;intros;kernel_rfl
theorem AOh:AG (false::false::true::false::true::[]):=by delta AG;intros;kernel_rfl
theorem AO4(ω:List Bool):AG (false::false::true::false::true::false::ω):=by delta AG;intros;kernel_rfl
theorem ASE:AG (false::false::true::false::true::true::[]):=by delta AG;intros;kernel_rfl
theorem ARh(ω:List Bool):AG (false::false::true::false::true::true::false::ω):=by delta AG;intros;kernel_rfl
theorem ASl:AG (false::false::true::false::true::true::true::[]):=by delta AG;intros;kernel_rfl
theorem AN0(ω:List Bool):AG (false::false::true::false::true::true::true::false::ω):=by delta AG;intros;kernel_rfl
theorem AOy:AG (false::false::true::false::true::true::true::true::[]):=by delta AG;intros;kernel_rfl
theorem AQ5(ω:List Bool):AG (false::false::true::false::true::true::true::true::false::ω):=by delta AG;intros;kernel_rfl
theorem ANl:AG (false::false::true::false::true::true::true::true::true::[]):=by delta AG;intros;kernel_rfl
theorem AQB(ω:List Bool):AG (false::false::true::false::true::true::true::true::true::false::ω):=by delta AG;intros;kernel_rfl
theorem AN2(ω:List Bool):AG (false::false::true::false::true::true::true::true::true::true::ω):=by delta AG;intros;kernel_rfl
theorem ASg:AG (false::false::true::true::[]):=by delta AG;intros;kernel_rfl
theorem ANf:AG (false::false::true::true::false::[]):=by delta AG;intros;kernel_rfl
theorem AP5:AG (false::false::true::true::false::false::[]):=by delta AG;intros;kernel_rfl
theorem ASm(ω:List Bool):AG (false::false::true::true::false::false::false::ω):=by delta AG;intros;kernel_rfl
theorem AO7(ω:List Bool):AG (false::false::true::true::false::false::true::ω):=by delta AG;intros;kernel_rfl
theorem APC:AG (false::false::true::true::false::true::[]):=by delta AG;intros;kernel_rfl
theorem ASp(ω:List Bool):AG (false::false::true::true::false::true::false::ω):=by delta AG;intros;kernel_rfl
theorem ATF:AG (false::false::true::true::false::true::true::[]):=by delta AG;intros;kernel_rfl
theorem ASM(ω:List Bool):AG (false::false::true::true::false::true::true::false::ω):=by delta AG;intros;kernel_rfl
theorem ANV:AG (false::false::true::true::false::true::true::true::[]):=by delta AG;intros;kernel_rfl
theorem ASr(ω:List Bool):AG (false::false::true::true::false::true::true::true::false::ω):=by delta AG;intros;kernel_rfl
theorem AQl:AG (false::false::true::true::false::true::true::true::true::[]):=by delta AG;intros;kernel_rfl
theorem ANy(ω:List Bool):AG (false::false::true::true::false::true::true::true::true::false::ω):=by delta AG;intros;kernel_rfl
theorem ARK(ω:List Bool):AG (false::false::true::true::false::true::true::true::true::true::ω):=by delta AG;intros;kernel_rfl
theorem ARn:AG (false::false::true::true::true::[]):=by delta AG;intros;kernel_rfl
theorem ASf(ω:List Bool):AG (false::false::true::true::true::false::ω):=by delta AG;intros;kernel_rfl
theorem APO:AG (false::false::true::true::true::true::[]):=by delta AG;intros;kernel_rfl
theorem AOY(ω:List Bool):AG (false::false::true::true::true::true::false::ω):=by delta AG;intros;kernel_rfl
theorem API:AG (false::false::true::true::true::true::true::[]):=by delta AG;intros;kernel_rfl
theorem AOn(ω:List Bool):AG (false::false::true::true::true::true::true::false::ω):=by delta AG;intros;kernel_rfl
theorem AO2:AG (false::false::true::true::true::true::true::true::[]):=by delta AG;intros;kernel_rfl
theorem AQF(ω:List Bool):AG (false::false::true::true::true::true::true::true::false::ω):=by delta AG;intros;kernel_rfl
theorem AOK(ω:List Bool):AG (false::false::true::true::true::true::true::true::true::ω):=by delta AG;intros;kernel_rfl
theorem ARt:AG (false::true::[]):=by delta AG;intros;kernel_rfl
theorem AOT:AG (false::true::false::[]):=by delta AG;intros;kernel_rfl
theorem ANd:AG (false::true::false::false::[]):=by delta AG;intros;kernel_rfl
theorem ANP(ω:List Bool):AG (false::true::false::false::false::ω):=by delta AG;intros;kernel_rfl
theorem ASd:AG (false::true::false::false::true::[]):=by delta AG;intros;kernel_rfl
theorem ASe(ω:List Bool):AG (false::true::false::false::true::false::ω):=by delta AG;intros;kernel_rfl
theorem APy:AG (false::true::false::false::true::true::[]):=by delta AG;intros;kernel_rfl
theorem APL(ω:List Bool):AG (false::true::false::false::true::true::false::ω):=by delta AG;intros;kernel_rfl
theorem ANp:AG (false::true::false::false::true::true::true::[]):=by delta AG;intros;kernel_rfl
theorem ASI(ω:List Bool):AG (false::true::false::false::true::true::true::false::ω):=by delta AG;intros;kernel_rfl
theorem ARl(ω:List Bool):AG (false::true::false::false::true::true::true::true::ω):=by delta AG;intros;kernel_rfl
theorem ATB:AG (false::true::false::true::[]):=by delta AG;intros;kernel_rfl
theorem AOG(ω:List Bool):AG (false::true::false::true::false::ω):=by delta AG;intros;kernel_rfl
theorem ARE:AG (false::true::false::true::true::[]):=by delta AG;intros;kernel_rfl
theorem AN_(ω:List Bool):AG (false::true::false::true::true::false::ω):=by delta AG;intros;kernel_rfl
theorem AQX:AG (false::true::false::true::true::true::[]):=by delta AG;intros;kernel_rfl
theorem ASz(ω:List Bool):AG (false::true::false::true::true::true::false::ω):=by delta AG;intros;kernel_rfl
theorem AQ_:AG (false::true::false::true::true::true::true::[]):=by delta AG;intros;kernel_rfl
theorem ARc(ω:List Bool):AG (false::true::false::true::true::true::true::false::ω):=by delta AG;intros;kernel_rfl
theorem AOP:AG (false::true::false::true::true::true::true::true::[]):=by delta AG;intros;kernel_rfl
theorem ALZ(ω:List Bool):AG (false::true::false::true::true::true::true::true::false::ω):=by delta AG;intros;kernel_rfl
theorem AIP(ω:List Bool):AG (false::true::false::true::true::true::true::true::true::ω):=by delta AG;intros;kernel_rfl
theorem AKi:AG (false::true::true::[]):=by delta AG;intros;kernel_rfl
theorem AK8:AG (false::true::true::false::[]):=by delta AG;intros;kernel_rfl
theorem AKJ:AG (false::true::true::false::false::[]):=by delta AG;intros;kernel_rfl
theorem AKl(ω:List Bool):AG (false::true::true::false::false::false::ω):=by delta AG;intros;kernel_rfl
theorem AH0:AG (false::true::true::false::false::true::[]):=by delta AG;intros;kernel_rfl
theorem AIr(ω:List Bool):AG (false::true::true::false::false::true::false::ω):=by delta AG;intros;kernel_rfl
theorem AK7:AG (false::true::true::false::false::true::true::[]):=by delta AG;intros;kernel_rfl
theorem AIB(ω:List Bool):AG (false::true::true::false::false::true::true::false::ω):=by delta AG;intros;kernel_rfl
theorem AIf(ω:List Bool):AG (false::true::true::false::false::true::true::true::ω):=by delta AG;intros;kernel_rfl
theorem AK5:AG (false::true::true::false::true::[]):=by delta AG;intros;kernel_rfl
theorem AHI(ω:List Bool):AG (false::true::true::false::true::false::ω):=by delta AG;intros;kernel_rfl
theorem AIE:AG (false::true::true::false::true::true::[]):=by delta AG;intros;kernel_rfl
theorem AHK(ω:List Bool):AG (false::true::true::false::true::true::false::ω):=by delta AG;intros;kernel_rfl
theorem AHE:AG (false::true::true::false::true::true::true::[]):=by delta AG;intros;kernel_rfl
theorem AK9(ω:List Bool):AG (false::true::true::false::true::true::true::false::ω):=by delta AG;intros;kernel_rfl
theorem AKm:AG (false::true::true::false::true::true::true::true::[]):=by delta AG;intros;kernel_rfl
theorem AIK(ω:List Bool):AG (false::true::true::false::true::true::true::true::false::ω):=by delta AG;intros;kernel_rfl
theorem AIW(ω:List Bool):AG (false::true::true::false::true::true::true::true::true::ω):=by delta AG;intros;kernel_rfl
theorem AG5:AG (false::true::true::true::[]):=by delta AG;intros;kernel_rfl
theorem AHj:AG (false::true::true::true::false::[]):=by delta AG;intros;kernel_rfl
theorem AIv:AG (false::true::true::true::false::false::[]):=by delta AG;intros;kernel_rfl
theorem AJU(ω:List Bool):AG (false::true::true::true::false::false::false::ω):=by delta AG;intros;kernel_rfl
theorem AHY:AG (false::true::true::true::false::false::true::[]):=by delta AG;intros;kernel_rfl
theorem ALY(ω:List Bool):AG (false::true::true::true::false::false::true::false::ω):=by delta AG;intros;kernel_rfl
theorem AJr(ω:List Bool):AG (false::true::true::true::false::false::true::true::ω):=by delta AG;intros;kernel_rfl
theorem AHH:AG (false::true::true::true::false::true::[]):=by delta AG;intros;kernel_rfl
theorem ALK(ω:List Bool):AG (false::true::true::true::false::true::false::ω):=by delta AG;intros;kernel_rfl
theorem AJf:AG (false::true::true::true::false::true::true::[]):=by delta AG;intros;kernel_rfl
theorem AIO(ω:List Bool):AG (false::true::true::true::false::true::true::false::ω):=by delta AG;intros;kernel_rfl
theorem AIJ:AG (false::true::true::true::false::true::true::true::[]):=by delta AG;intros;kernel_rfl
theorem ALV(ω:List Bool):AG (false::true::true::true::false::true::true::true::false::ω):=by delta AG;intros;kernel_rfl
theorem AKg(ω:List Bool):AG (false::true::true::true::false::true::true::true::true::ω):=by delta AG;intros;kernel_rfl
theorem ALW:AG (false::true::true::true::true::[]):=by delta AG;intros;kernel_rfl
theorem AJ3:AG (false::true::true::true::true::false::[]):=by delta AG;intros;kernel_rfl
theorem AJu:AG (false::true::true::true::true::false::false::[]):=by delta AG;intros;kernel_rfl
theorem AKL(ω:List Bool):AG (false::true::true::true::true::false::false::false::ω):=by delta AG;intros;kernel_rfl
theorem AKX(ω:List Bool):AG (false::true::true::true::true::false::false::true::ω):=by delta AG;intros;kernel_rfl
theorem AHd:AG (false::true::true::true::true::false::true::[]):=by delta AG;intros;kernel_rfl
theorem AL_(ω:List Bool):AG (false::true::true::true::true::false::true::false::ω):=by delta AG;intros;kernel_rfl
theorem AHy:AG (false::true::true::true::true::false::true::true::[]):=by delta AG;intros;kernel_rfl
theorem ALc(ω:List Bool):AG (false::true::true::true::true::false::true::true::false::ω):=by delta AG;intros;kernel_rfl
theorem AH5(ω:List Bool):AG (false::true::true::true::true::false::true::true::true::ω):=by delta AG;intros;kernel_rfl
theorem AGq:AG (false::true::true::true::true::true::[]):=by delta AG;intros;kernel_rfl
theorem AJo(ω:List Bool):AG (false::true::true::true::true::true::false::ω):=by delta AG;intros;kernel_rfl
theorem AJD:AG (false::true::true::true::true::true::true::[]):=by delta AG;intros;kernel_rfl
theorem AJZ(ω:List Bool):AG (false::true::true::true::true::true::true::false::ω):=by delta AG;intros;kernel_rfl
theorem AJc(ω:List Bool):AG (false::true::true::true::true::true::true::true::ω):=by delta AG;intros;kernel_rfl
theorem AID:AG (true::[]):=by delta AG;intros;kernel_rfl
theorem AHq:AG (true::false::[]):=by delta AG;intros;kernel_rfl
theorem AIt:AG (true::false::false::[]):=by delta AG;intros;kernel_rfl
theorem AGm:AG (true::false::false::false::[]):=by delta AG;intros;kernel_rfl
theorem AI3:AG (true::false::false::false::false::[]):=by delta AG;intros;kernel_rfl
theorem AGt:AG (true::false::false::false::false::false::[]):=by delta AG;intros;kernel_rfl
theorem AKO(ω:List Bool):AG (true::false::false::false::false::false::false::ω):=by delta AG;intros;kernel_rfl
theorem AKo(ω:List Bool):AG (true::false::false::false::false::false::true::ω):=by delta AG;intros;kernel_rfl
theorem AKC:AG (true::false::false::false::false::true::[]):=by delta AG;intros;kernel_rfl
theorem AGh(ω:List Bool):AG (true::false::false::false::false::true::false::ω):=by delta AG;intros;kernel_rfl
theorem AJR:AG (true::false::false::false::false::true::true::[]):=by delta AG;intros;kernel_rfl
theorem ALj(ω:List Bool):AG (true::false::false::false::false::true::true::false::ω):=by delta AG;intros;kernel_rfl
theorem AJ7:AG (true::false::false::false::false::true::true::true::[]):=by delta AG;intros;kernel_rfl
theorem AGx(ω:List Bool):AG (true::false::false::false::false::true::true::true::false::ω):=by delta AG;intros;kernel_rfl
theorem AHO(ω:List Bool):AG (true::false::false::false::false::true::true::true::true::ω):=by delta AG;intros;kernel_rfl
theorem AKk:AG (true::false::false::false::true::[]):=by delta AG;intros;kernel_rfl
theorem AJN(ω:List Bool):AG (true::false::false::false::true::false::ω):=by delta AG;intros;kernel_rfl
theorem AIz:AG (true::false::false::false::true::true::[]):=by delta AG;intros;kernel_rfl
theorem AIh(ω:List Bool):AG (true::false::false::false::true::true::false::ω):=by delta AG;intros;kernel_rfl
theorem AKY:AG (true::false::false::false::true::true::true::[]):=by delta AG;intros;kernel_rfl
theorem ALa(ω:List Bool):AG (true::false::false::false::true::true::true::false::ω):=by delta AG;intros;kernel_rfl
theorem AJB(ω:List Bool):AG (true::false::false::false::true::true::true::true::ω):=by delta AG;intros;kernel_rfl
theorem ALl:AG (true::false::false::true::[]):=by delta AG;intros;kernel_rfl
theorem AKN:AG (true::false::false::true::false::[]):=by delta AG;intros;kernel_rfl
theorem AHB:AG (true::false::false::true::false::false::[]):=by delta AG;intros;kernel_rfl
theorem AK3(ω:List Bool):AG (true::false::false::true::false::false::false::ω):=by delta AG;intros;kernel_rfl
theorem AJX(ω:List Bool):AG (true::false::false::true::false::false::true::ω):=by delta AG;intros;kernel_rfl
theorem AJn:AG (true::false::false::true::false::true::[]):=by delta AG;intros;kernel_rfl
theorem ALS(ω:List Bool):AG (true::false::false::true::false::true::false::ω):=by delta AG;intros;kernel_rfl
theorem AK_:AG (true::false::false::true::false::true::true::[]):=by delta AG;intros;kernel_rfl
theorem AGy(ω:List Bool):AG (true::false::false::true::false::true::true::false::ω):=by delta AG;intros;kernel_rfl
theorem AIa:AG (true::false::false::true::false::true::true::true::[]):=by delta AG;intros;kernel_rfl
theorem AGl(ω:List Bool):AG (true::false::false::true::false::true::true::true::false::ω):=by delta AG;intros;kernel_rfl
theorem AHz:AG (true::false::false::true::false::true::true::true::true::[]):=by delta AG;intros;kernel_rfl
theorem AIF(ω:List Bool):AG (true::false::false::true::false::true::true::true::true::false::ω):=by delta AG;intros;kernel_rfl
theorem AH6(ω:List Bool):AG (true::false::false::true::false::true::true::true::true::true::ω):=by delta AG;intros;kernel_rfl
theorem AIm:AG (true::false::false::true::true::[]):=by delta AG;intros;kernel_rfl
theorem ALE(ω:List Bool):AG (true::false::false::true::true::false::ω):=by delta AG;intros;kernel_rfl
theorem AH1:AG (true::false::false::true::true::true::[]):=by delta AG;intros;kernel_rfl
theorem AGe(ω:List Bool):AG (true::false::false::true::true::true::false::ω):=by delta AG;intros;kernel_rfl
theorem AIk:AG (true::false::false::true::true::true::true::[]):=by delta AG;intros;kernel_rfl
theorem AIR(ω:List Bool):AG (true::false::false::true::true::true::true::false::ω):=by delta AG;intros;kernel_rfl
theorem AL5:AG (true::false::false::true::true::true::true::true::[]):=by delta AG;intros;kernel_rfl
theorem AKQ(ω:List Bool):AG (true::false::false::true::true::true::true::true::false::ω):=by delta AG;intros;kernel_rfl
theorem AGj(ω:List Bool):AG (true::false::false::true::true::true::true::true::true::ω):=by delta AG;intros;kernel_rfl
theorem AJK:AG (true::false::true::[]):=by delta AG;intros;kernel_rfl
theorem AJk:AG (true::false::true::false::[]):=by delta AG;intros;kernel_rfl
theorem AIQ:AG (true::false::true::false::false::[]):=by delta AG;intros;kernel_rfl
theorem AKz(ω:List Bool):AG (true::false::true::false::false::false::ω):=by delta AG;intros;kernel_rfl
theorem AKj:AG (true::false::true::false::false::true::[]):=by delta AG;intros;kernel_rfl
theorem AH9(ω:List Bool):AG (true::false::true::false::false::true::false::ω):=by delta AG;intros;kernel_rfl
theorem AKZ:AG (true::false::true::false::false::true::true::[]):=by delta AG;intros;kernel_rfl
theorem AHe(ω:List Bool):AG (true::false::true::false::false::true::true::false::ω):=by delta AG;intros;kernel_rfl
theorem AHp(ω:List Bool):AG (true::false::true::false::false::true::true::true::ω):=by delta AG;intros;kernel_rfl
theorem AIV:AG (true::false::true::false::true::[]):=by delta AG;intros;kernel_rfl
theorem ALv(ω:List Bool):AG (true::false::true::false::true::false::ω):=by delta AG;intros;kernel_rfl
theorem AHs:AG (true::false::true::false::true::true::[]):=by delta AG;intros;kernel_rfl
theorem AJq(ω:List Bool):AG (true::false::true::false::true::true::false::ω):=by delta AG;intros;kernel_rfl
theorem AGi:AG (true::false::true::false::true::true::true::[]):=by delta AG;intros;kernel_rfl
theorem ALJ(ω:List Bool):AG (true::false::true::false::true::true::true::false::ω):=by delta AG;intros;kernel_rfl
theorem AI2:AG (true::false::true::false::true::true::true::true::[]):=by delta AG;intros;kernel_rfl
theorem AL3(ω:List Bool):AG (true::false::true::false::true::true::true::true::false::ω):=by delta AG;intros;kernel_rfl
theorem AJy(ω:List Bool):AG (true::false::true::false::true::true::true::true::true::ω):=by delta AG;intros;kernel_rfl
theorem AIM:AG (true::false::true::true::[]):=by delta AG;intros;kernel_rfl
theorem AI6:AG (true::false::true::true::false::[]):=by delta AG;intros;kernel_rfl
theorem AKP:AG (true::false::true::true::false::false::[]):=by delta AG;intros;kernel_rfl
theorem ALF(ω:List Bool):AG (true::false::true::true::false::false::false::ω):=by delta AG;intros;kernel_rfl
theorem ALM:AG (true::false::true::true::false::false::true::[]):=by delta AG;intros;kernel_rfl
theorem AKy(ω:List Bool):AG (true::false::true::true::false::false::true::false::ω):=by delta AG;intros;kernel_rfl
theorem AMA(ω:List Bool):AG (true::false::true::true::false::false::true::true::ω):=by delta AG;intros;kernel_rfl
theorem AJS:AG (true::false::true::true::false::true::[]):=by delta AG;intros;kernel_rfl
theorem AHZ(ω:List Bool):AG (true::false::true::true::false::true::false::ω):=by delta AG;intros;kernel_rfl
theorem AK4:AG (true::false::true::true::false::true::true::[]):=by delta AG;intros;kernel_rfl
theorem AH_(ω:List Bool):AG (true::false::true::true::false::true::true::false::ω):=by delta AG;intros;kernel_rfl
theorem AJM:AG (true::false::true::true::false::true::true::true::[]):=by delta AG;intros;kernel_rfl
theorem AKs(ω:List Bool):AG (true::false::true::true::false::true::true::true::false::ω):=by delta AG;intros;kernel_rfl
theorem AJH(ω:List Bool):AG (true::false::true::true::false::true::true::true::true::ω):=by delta AG;intros;kernel_rfl
theorem AGp:AG (true::false::true::true::true::[]):=by delta AG;intros;kernel_rfl
theorem AJw:AG (true::false::true::true::true::false::[]):=by delta AG;intros;kernel_rfl
theorem ALy:AG (true::false::true::true::true::false::false::[]):=by delta AG;intros;kernel_rfl
theorem AKf(ω:List Bool):AG (true::false::true::true::true::false::false::false::ω):=by delta AG;intros;kernel_rfl
theorem AJP(ω:List Bool):AG (true::false::true::true::true::false::false::true::ω):=by delta AG;intros;kernel_rfl
theorem AKH:AG (true::false::true::true::true::false::true::[]):=by delta AG;intros;kernel_rfl
theorem AKq(ω:List Bool):AG (true::false::true::true::true::false::true::false::ω):=by delta AG;intros;kernel_rfl
theorem AHA:AG (true::false::true::true::true::false::true::true::[]):=by delta AG;intros;kernel_rfl
theorem ALh(ω:List Bool):AG (true::false::true::true::true::false::true::true::false::ω):=by delta AG;intros;kernel_rfl
theorem AKh(ω:List Bool):AG (true::false::true::true::true::false::true::true::true::ω):=by delta AG;intros;kernel_rfl
theorem ALx:AG (true::false::true::true::true::true::[]):=by delta AG;intros;kernel_rfl
theorem ALC(ω:List Bool):AG (true::false::true::true::true::true::false::ω):=by delta AG;intros;kernel_rfl
theorem AKd:AG (true::false::true::true::true::true::true::[]):=by delta AG;intros;kernel_rfl
theorem ALm(ω:List Bool):AG (true::false::true::true::true::true::true::false::ω):=by delta AG;intros;kernel_rfl
theorem AHQ(ω:List Bool):AG (true::false::true::true::true::true::true::true::ω):=by delta AG;intros;kernel_rfl
theorem AJl:AG (true::true::[]):=by delta AG;intros;kernel_rfl
theorem AH3:AG (true::true::false::[]):=by delta AG;intros;kernel_rfl
theorem ALI:AG (true::true::false::false::[]):=by delta AG;intros;kernel_rfl
theorem ALb(ω:List Bool):AG (true::true::false::false::false::ω):=by delta AG;intros;kernel_rfl
theorem ALd:AG (true::true::false::false::true::[]):=by delta AG;intros;kernel_rfl
theorem ALk(ω:List Bool):AG (true::true::false::false::true::false::ω):=by delta AG;intros;kernel_rfl
theorem ALL:AG (true::true::false::false::true::true::[]):=by delta AG;intros;kernel_rfl
theorem ALQ(ω:List Bool):AG (true::true::false::false::true::true::false::ω):=by delta AG;intros;kernel_rfl
theorem AMB(ω:List Bool):AG (true::true::false::false::true::true::true::ω):=by delta AG;intros;kernel_rfl
theorem AGf:AG (true::true::false::true::[]):=by delta AG;intros;kernel_rfl
theorem AK0(ω:List Bool):AG (true::true::false::true::false::ω):=by delta AG;intros;kernel_rfl
theorem AKe:AG (true::true::false::true::true::[]):=by delta AG;intros;kernel_rfl
theorem AKW(ω:List Bool):AG (true::true::false::true::true::false::ω):=by delta AG;intros;kernel_rfl
theorem AGw:AG (true::true::false::true::true::true::[]):=by delta AG;intros;kernel_rfl
theorem AJ2(ω:List Bool):AG (true::true::false::true::true::true::false::ω):=by delta AG;intros;kernel_rfl
theorem AGr:AG (true::true::false::true::true::true::true::[]):=by delta AG;intros;kernel_rfl
theorem AHx(ω:List Bool):AG (true::true::false::true::true::true::true::false::ω):=by delta AG;intros;kernel_rfl
theorem ALg(ω:List Bool):AG (true::true::false::true::true::true::true::true::ω):=by delta AG;intros;kernel_rfl
theorem AJ8:AG (true::true::true::[]):=by delta AG;intros;kernel_rfl
theorem AL0:AG (true::true::true::false::[]):=by delta AG;intros;kernel_rfl
theorem AGs:AG (true::true::true::false::false::[]):=by delta AG;intros;kernel_rfl
theorem AHk(ω:List Bool):AG (true::true::true::false::false::false::ω):=by delta AG;intros;kernel_rfl
theorem AJp:AG (true::true::true::false::false::true::[]):=by delta AG;intros;kernel_rfl
theorem AJ6(ω:List Bool):AG (true::true::true::false::false::true::false::ω):=by delta AG;intros;kernel_rfl
theorem AG4(ω:List Bool):AG (true::true::true::false::false::true::true::ω):=by delta AG;intros;kernel_rfl
theorem AJT:AG (true::true::true::false::true::[]):=by delta AG;intros;kernel_rfl
theorem AHu(ω:List Bool):AG (true::true::true::false::true::false::ω):=by delta AG;intros;kernel_rfl
theorem AIc:AG (true::true::true::false::true::true::[]):=by delta AG;intros;kernel_rfl
theorem AJY(ω:List Bool):AG (true::true::true::false::true::true::false::ω):=by delta AG;intros;kernel_rfl
theorem AJt:AG (true::true::true::false::true::true::true::[]):=by delta AG;intros;kernel_rfl
theorem AJL(ω:List Bool):AG (true::true::true::false::true::true::true::false::ω):=by delta AG;intros;kernel_rfl
theorem AJ4(ω:List Bool):AG (true::true::true::false::true::true::true::true::ω):=by delta AG;intros;kernel_rfl
theorem ALD:AG (true::true::true::true::[]):=by delta AG;intros;kernel_rfl
theorem AL4:AG (true::true::true::true::false::[]):=by delta AG;intros;kernel_rfl
theorem AK1:AG (true::true::true::true::false::false::[]):=by delta AG;intros;kernel_rfl
theorem AL1(ω:List Bool):AG (true::true::true::true::false::false::false::ω):=by delta AG;intros;kernel_rfl
theorem AJ5(ω:List Bool):AG (true::true::true::true::false::false::true::ω):=by delta AG;intros;kernel_rfl
theorem AIp:AG (true::true::true::true::false::true::[]):=by delta AG;intros;kernel_rfl
theorem AIw(ω:List Bool):AG (true::true::true::true::false::true::false::ω):=by delta AG;intros;kernel_rfl
theorem AG2:AG (true::true::true::true::false::true::true::[]):=by delta AG;intros;kernel_rfl
theorem AKt(ω:List Bool):AG (true::true::true::true::false::true::true::false::ω):=by delta AG;intros;kernel_rfl
theorem AJC(ω:List Bool):AG (true::true::true::true::false::true::true::true::ω):=by delta AG;intros;kernel_rfl
theorem AHl:AG (true::true::true::true::true::[]):=by delta AG;intros;kernel_rfl
theorem AJx(ω:List Bool):AG (true::true::true::true::true::false::ω):=by delta AG;intros;kernel_rfl
theorem AJA:AG (true::true::true::true::true::true::[]):=by delta AG;intros;kernel_rfl
theorem AKD(ω:List Bool):AG (true::true::true::true::true::true::false::ω):=by delta AG;intros;kernel_rfl
theorem AJg(ω:List Bool):AG (true::true::true::true::true::true::true::ω):=by delta AG;intros;kernel_rfl
theorem b51(df:ABk→Option FZ)(kz:ACc→Option Ki)(dh:ACI→Option Fe)(lI:ABZ→Option GZ)(ld:ADF→Option JL)(n:Nat)(ω:List Bool)(v:i51.V):DO ⟨T,RD [(101,⟨gY,v8,gY.un df⟩),(102,⟨kJ,yx,kJ.un kz⟩),(103,⟨fz,xR,fz.un dh⟩),(104,⟨bC,tX,bC.un lI⟩),(105,⟨i105,yU,i105.un ld⟩)],CQ [(1,[0,1]),(5,[0,1,2,3,4,5,6,7,8,9,11,13,14,15,16,17,18]),(9,[0,1,2,3,4,5,6,7,8,9,11,12,13,14,16,17,18]),(13,[0,1,2,3,4,5,6,7,8,9,11,12,13,14,15,17,18]),(17,[0,1,2,3,4,5,6,7,8,9,11,12,13,14,15,16,18])]⟩ c51 Tryz.f51 (L0 0 L51 n) ω v=i51.un (fun(p0:ABN)=>
 if 0+p0.1.length≤Go.M.Dw then(
 if 0+p0.2.2.2.1.length≤Go.M.Dw then(
 (df (p0.2.2.2.2.1,p0.2.2.2.2.2.1,())).bind fun u2=>
 if 0+p0.2.2.2.2.2.2.2.2.2.1.length≤Go.M.Dw then(
 (Cc n) 0 p0.1 p0.2.1 p0.2.2.1 p0.2.2.2.1 p0.2.2.2.2.1 p0.2.2.2.2.2.1 p0.2.2.2.2.2.2.1 p0.2.2.2.2.2.2.2.1 p0.2.2.2.2.2.2.2.2.1 p0.2.2.2.2.2.2.2.2.2.1 p0.2.2.2.2.2.2.2.2.2.2.1 0 0 false [] [] [] [] [] [] [] [] p0.2.1 u2.1.1.2.1 p0.2.2.2.2.2.2.2.2.2.2.1 p0.1 [] p0.2.2.2.1 u2.2.1 [] [] [] p0.2.2.2.2.2.2.2.2.2.1)else none)else none)else none) v:=(AE AV2 (AE AXN (AE AVd (AE AWV (AE AWQ (AE AU1 AT5 (AE AVI AVQ ANb)) (AE ARj AOq (AE ARk ATC (AE AOC AN9 (AE ASV AQw AQg))))) (AE AS2 (AE ASJ (AE APP ATD AQz) (AE ARs APf (AE ASN AP0 (AE AOg AOV AN6)))) (AE ARm ARy (AE AQy ASB (AE AOD ASD AOH))))) (AE AO3 (AE ANr (AE AOa AP3 (AE ANk AOU ARG)) (AE AOh AO4 (AE ASE ARh (AE ASl AN0 (AE AOy AQ5 (AE ANl AQB AN2)))))) (AE ASg (AE ANf (AE AP5 ASm AO7) (AE APC ASp (AE ATF ASM (AE ANV ASr (AE AQl ANy ARK))))) (AE ARn ASf (AE APO AOY (AE API AOn (AE AO2 AQF AOK))))))) (AE ARt (AE AOT (AE ANd ANP (AE ASd ASe (AE APy APL (AE ANp ASI ARl)))) (AE ATB AOG (AE ARE AN_ (AE AQX ASz (AE AQ_ ARc (AE AOP ALZ AIP)))))) (AE AKi (AE AK8 (AE AKJ AKl (AE AH0 AIr (AE AK7 AIB AIf))) (AE AK5 AHI (AE AIE AHK (AE AHE AK9 (AE AKm AIK AIW))))) (AE AG5 (AE AHj (AE AIv AJU (AE AHY ALY AJr)) (AE AHH ALK (AE AJf AIO (AE AIJ ALV AKg)))) (AE ALW (AE AJ3 (AE AJu AKL AKX) (AE AHd AL_ (AE AHy ALc AH5))) (AE AGq AJo (AE AJD AJZ AJc))))))) (AE AID (AE AHq (AE AIt (AE AGm (AE AI3 (AE AGt AKO AKo) (AE AKC AGh (AE AJR ALj (AE AJ7 AGx AHO)))) (AE AKk AJN (AE AIz AIh (AE AKY ALa AJB)))) (AE ALl (AE AKN (AE AHB AK3 AJX) (AE AJn ALS (AE AK_ AGy (AE AIa AGl (AE AHz AIF AH6))))) (AE AIm ALE (AE AH1 AGe (AE AIk AIR (AE AL5 AKQ AGj)))))) (AE AJK (AE AJk (AE AIQ AKz (AE AKj AH9 (AE AKZ AHe AHp))) (AE AIV ALv (AE AHs AJq (AE AGi ALJ (AE AI2 AL3 AJy))))) (AE AIM (AE AI6 (AE AKP ALF (AE ALM AKy AMA)) (AE AJS AHZ (AE AK4 AH_ (AE AJM AKs AJH)))) (AE AGp (AE AJw (AE ALy AKf AJP) (AE AKH AKq (AE AHA ALh AKh))) (AE ALx ALC (AE AKd ALm AHQ)))))) (AE AJl (AE AH3 (AE ALI ALb (AE ALd ALk (AE ALL ALQ AMB))) (AE AGf AK0 (AE AKe AKW (AE AGw AJ2 (AE AGr AHx ALg))))) (AE AJ8 (AE AL0 (AE AGs AHk (AE AJp AJ6 AG4)) (AE AJT AHu (AE AIc AJY (AE AJt AJL AJ4)))) (AE ALD (AE AL4 (AE AK1 AL1 AJ5) (AE AIp AIw (AE AG2 AKt AJC))) (AE AHl AJx (AE AJA AKD AJg))))))) ω df kz dh lI ld n v
theorem e51(n:Nat)(ω:List Bool)(v:i51.V):DO C51 c51 Tryz.f51 (L0 0 L51 n) ω v=i51.un (QX (Cc n) (Cq n) (CY n) (CW n)) v:=b51 GH Er FU ET CR n ω v
def s51:SQ:=mk Tryz.func51 i51 o51 O7 [AB2,ABt,ADC,ABw,AG8] [(1,[0,1]),(5,[0,1,2,3,4,5,6,7,8,9,11,13,14,15,16,17,18]),(9,[0,1,2,3,4,5,6,7,8,9,11,12,13,14,16,17,18]),(13,[0,1,2,3,4,5,6,7,8,9,11,12,13,14,15,17,18]),(17,[0,1,2,3,4,5,6,7,8,9,11,12,13,14,15,16,18])] L51 (hJ:= .cons (fun _=>rfl) AUH (.cons (fun _=>rfl) AVD (.cons (fun _=>rfl) APG (.cons (fun _=>rfl) ASU (.nil))))) (he:=e51 Ae)
def AWj:SQ:=mk Tryz.func215 Fi fI Og [Xt] [] [⟨3,⟨[(0,BI),(3,nt),(4,BI)],vB⟩,IF⟩]
abbrev zI:BZ:=ANK
abbrev ARx:BZ:=ANN
def AXK:QN:=⟨zI,ARx,(zI.un PA)⟩
def AYB:aW:=⟨T,RD (SP.l [s82,AB2,AB5]),CQ [(6,[0,1,2])]⟩
def AQM:List (Lp ARx):=[]
theorem AYs(g82:ABL→List Int→Option iK)(df:ABk→Option FZ)(AUQ:ABL→ABk→Option RX)(n:Nat)(ω:List Bool)(v:zI.V):DO ⟨T,RD [(82,⟨i82,o82,i82.un g82⟩),(101,⟨gY,v8,gY.un df⟩),(182,⟨i182,AWi,i182.un AUQ⟩)],CQ [(6,[0,1,2])]⟩ AXK Tryz.f214 (L0 0 AQM n) ω v=zI.un (fun(p0:ABL) (p1:ABk) (p2:AAH)=>
 (AUQ (p0.1,p0.2.1,()) (p1.1,p1.2.1,())).bind fun u1=>
 cond (!u1.1.1)
  (some (((((),0,()),0,false,()),()),([],())))
 ((df (p1.1,p1.2.1,())).bind fun u2=>
 (g82 (p0.1,p0.2.1,()) p2).bind fun u3=>
 cond (!u3.1.1)
  (some (((((),u2.1.1.2.1,()),0,false,()),()),(u2.2.1,())))
 (cond (((p1.1.length:Int)==30))
  (some (((((),u2.1.1.2.1,()),0,false,()),()),(u2.2.1,())))
 (if 0+p2.length≤Go.M.Dw then(
 if u2.2.1.length+1≤Go.M.Dw then(
 let x5:AAo:=u2.2.1++[(p2,false,0,())]
 some (((((),u2.1.1.2.1,()),(x5.length:Int),true,()),()),(x5,())))else none)else none)))) v:=by rcases ω with _|⟨_|_,_|⟨_|_,_|⟨_|_,_|⟨_|_,_|⟨_|_,_⟩⟩⟩⟩⟩<;>kernel_rfl
theorem AZ4(n:Nat)(ω:List Bool)(v:zI.V):DO AYB AXK Tryz.f214 (L0 0 AQM n) ω v=zI.un (PA) v:=AYs FQ GH MQ n ω v
def Abw:SQ:=mk Tryz.func214 zI ARx PA [s82,AB2,AB5] [(6,[0,1,2])] AQM (hJ:= .nil) (he:=AZ4 Ae)
def AbZ:SQ:=mk Tryz.func131 cS ⟨[(0,.Me [.inr [.ref 0,.v tI,.ref 1,.ref 2,.ref 8,.v tI,.ref 9,.ref 10,.ref 6,.ref 7,.v .bool],.inl (.v tI)])],[Du,Vz,Du,PV,PV,PV,Ps,MO,M_,Un,Sc]⟩ V1 [Abw,AWj] [(3,[0,1,2,3,4,5,6,7,8,9,10])] [] (he:=fun ω v=>by rcases ω with _|⟨_|_,_|⟨_|_,_⟩⟩<;>kernel_rfl)
def AQS:SQ:=mk Tryz.func216 xq Cf K_ [Xt] [] []
abbrev y_:BZ:=AMS
abbrev ASx:BZ:=AM7
def AVO:QN:=⟨y_,ASx,(y_.un Lb)⟩
def AbY:aW:=⟨T,RD (SP.l [ADC,ADv]),CQ []⟩
def ARw:List (Lp ASx):=[]
theorem AYF(dh:ACI→Option Fe)(AOo:ABL→ACI→Option Mg)(n:Nat)(ω:List Bool)(v:y_.V):DO ⟨T,RD [(103,⟨fz,xR,fz.un dh⟩),(183,⟨i183,AXD,i183.un AOo⟩)],CQ []⟩ AVO Tryz.f217 (L0 0 ARw n) ω v=y_.un (fun(p0:ABL) (p1:ACI) (p2:ACD)=>
 (AOo (p0.1,p0.2.1,()) (p1.1,p1.2.1,())).bind fun u1=>
 cond (!u1.1.1)
  (some ((((0,(),()),0,false,()),()),([],())))
 ((dh (p1.1,p1.2.1,())).bind fun u2=>
 if u2.2.1.length+1≤Go.M.Dw then(
 let x3:AB7:=u2.2.1++[(p2,[],false,())]
 (AOo (p0.1,p0.2.1,()) (u2.1.1.1,x3,())).bind fun u4=>
 cond (!u4.1.1)
  ((dh (p1.1,p1.2.1,())).bind fun u5=>
  some ((((u5.1.1.1,(),()),0,false,()),()),(u5.2.1,())))
 (some ((((u2.1.1.1,(),()),(x3.length:Int),true,()),()),(x3,()))))else none)) v:=by rcases ω with _|⟨_|_,_|⟨_|_,_⟩⟩<;>kernel_rfl
theorem AZP(n:Nat)(ω:List Bool)(v:y_.V):DO AbY AVO Tryz.f217 (L0 0 ARw n) ω v=y_.un (Lb) v:=AYF FU Hh n ω v
def AYq:SQ:=mk Tryz.func217 y_ ASx Lb [ADC,ADv] [] ARw (hJ:= .nil) (he:=AZP Ae)
abbrev zA:BZ:=l4
abbrev o71:BZ:=Fi
def s71:SQ:=mk Tryz.func71 zA o71 Ec [] [] []
def Aam:SQ:=mk Tryz.func132 cS ⟨[(0,.Me [.inr [.ref 0,.v tI,.ref 1,.ref 2,.ref 3,.v tI,.ref 4,.ref 5,.ref 6,.ref 8,.v .bool],.inl (.v tI)])],[Du,Vz,Du,M_,Un,Sc,Ps,PV,MO]⟩ YC [s71,AQS,AYq] [(3,[0,1,2,3,4,5,6,7,8,9,10]),(7,[0,1,2,3,4,5,6,7,8,9,10]),(11,[0,1,2,3,4,5,6,7,8,9,10,11,12,13,14,15,16,17,18]),(18,[0,1,2,3,4,5,6,7,8,9,10,11,12,13,14,15,16,17,18,19])] [⟨9,⟨[(2,gU),(4,eu),(9,nM),(10,BI)],[Du,Vz,Du,M_,Un,Sc,Ps,MO,rM,td,Fv,Z4,Fv,TQ,aJ,aG,Zi,Sg,AOv]⟩,LZ⟩,⟨16,⟨[(2,gU),(4,eu),(9,nM),(11,.c (.ref 19)),(12,yK),(13,BI)],[Du,Vz,Du,M_,Un,Sc,Ps,MO,rM,td,Fv,Z4,Fv,TQ,aJ,aG,Zi,Sg,AOv,Sg]⟩,Jz⟩] (he:=fun ω v=>by rcases ω with _|⟨_|_,_|⟨_|_,_|⟨_|_,_⟩⟩⟩<;>kernel_rfl)
def yd:SQ:=mk Tryz.func218 xq Fi He [Xt,nI] [] []
def AZX:SQ:=mk Tryz.func277 AFV Cf WN [pO] [(2,[0,1])] []
def AWL:SQ:=mk Tryz.func219 AFV tG Pp [ABt,zo,ALr,AZX] [] []
def Aav:SQ:=mk Tryz.func133 cS sJ Tt [s69,s71,Xt,nI,AQS,yd,AWL] [(9,[0,1,2,3,4,5,6,7,8,9,10,11]),(11,[0,1,2,3,4,5,6,7,8,9,10,11,12])] [] (he:=fun ω v=>by rcases ω with _|⟨_|_,_|⟨_|_,_⟩⟩<;>kernel_rfl)
def AUG:SQ:=mk Tryz.func305 AMW ANM RF [] [] []
def AR5:SQ:=mk Tryz.func284 ⟨[(0,Xv),(1,.row Y1)],[]⟩ xt Q5 [AUG] [(6,[0,1]),(7,[0]),(9,[0,1])] [⟨4,⟨[(0,Xv),(3,KD),(5,xP7),(6,yK),(7,BI)],[ACt,Mq]⟩,JI⟩]
def AV3:SQ:=mk Tryz.func237 iN tG Mh [ABt,Xt,zo,AR5] [(3,[0,1]),(8,[0,1,2,3,5,6])] [⟨5,AMP,JT⟩] (he:=fun ω v=>by rcases ω with _|⟨_|_,_|⟨_|_,_⟩⟩<;>kernel_rfl)
def AXA:SQ:=mk Tryz.func220 mG tG OD [AV3] [] []
abbrev ft:BZ:=ADm
abbrev wD:BZ:=xe
def AIN:SQ:=mk Tryz.func278 ft wD HV [] [] [⟨2,⟨[(0,Xv),(1,BI),(4,KD),(6,BI)],[ACt]⟩,Pt⟩]
abbrev gy:BZ:=AM9
abbrev wT:BZ:=AMj
def AWF:SQ:=mk Tryz.func279 gy wT Fg [s82,ADC,Xt,ACl,ADv] [(6,[0,1,2,4]),(7,[0,1,2,4])] []
def AZa:SQ:=mk Tryz.func287 l4 ow SH [Xt] [] []
abbrev hO:BZ:=AMV
abbrev xn:BZ:=xe
def ASs:SQ:=mk Tryz.func231 hO xn Ew [AIN,AZa] [] []
abbrev gQ:BZ:=ANJ
abbrev vx:BZ:=vp
def AVb:SQ:=mk Tryz.func281 gQ vx Hi [ABw,Xt,ACl,ABi] [(6,[0,1,2,3,4,6])] []
abbrev zX:BZ:=⟨[(0,AO8),(1,BI)],[Du,Z1,Du,M_,Un,Sc,Ps,MO]⟩
abbrev ASn:BZ:=⟨APD,AMM⟩
def lT:QN:=⟨zX,ASn,(zX.un Vo)⟩
def ACF:aW:=⟨T,RD (SP.l [s69,s71,nI,pO,ASs,AIN,AWF,ALu,AVb]),CQ [(10,[0,1,2,3,4,5,6,7,8,9,10,11]),(18,[0,1,2,3,4,5,6,7,8,9,10,11,12,13,14,15,16,17,18,19])]⟩
def jS:List (Lp ASn):=[⟨3,⟨[(1,BI),(2,gU),(4,eu),(5,nM),(6,BI)],[Du,Z1,Du,M_,nW,Sc,Ps,MO,rM,td,Fv,Z4,Fv,TQ,aJ,aG,Zi,Sg,yX]⟩,Be⟩,⟨8,⟨[(1,BI),(2,gU),(4,eu),(5,nM),(6,BI),(7,lB),(8,BI),(46,.c (.ptr 18 2)),(47,BI),(48,lB),(49,BI),(50,yK)],AA3⟩,BC⟩,⟨15,⟨[(1,BI),(2,gU),(4,eu),(5,nM),(6,BI),(7,lB),(11,BI),(46,.c (.ptr 18 2)),(47,BI),(48,lB),(49,BI),(50,yK)],AA3⟩,BD⟩,⟨21,⟨[(1,BI),(2,gU),(4,eu),(5,nM),(13,BI)],[Du,Z1,Du,M_,nW,.sl 1 Y7,Ps,MO,rM,td,Fv,Z4,Fv,TQ,aJ,aG,Zi,Sg,yX]⟩,Bh⟩,⟨25,⟨[(1,BI),(2,gU),(4,eu),(5,nM),(13,BI),(14,lB),(15,BI)],[Du,Z1,Du,M_,nW,.sl 1 Y7,Ps,MO,rM,td,Fv,Z4,Fv,TQ,aJ,aG,Zi,Sg,yX,.mem [.v tI,.v tI,.sl true tI,.sl true Y1,.v .bool,.sl true (.sl tI)]]⟩,Bb⟩]
abbrev kg:BZ:=⟨[(1,BI),(2,gU),(4,eu),(5,nM),(6,BI)],[Du,Z1,Du,M_,nW,Sc,Ps,MO,rM,td,Fv,Z4,Fv,TQ,aJ,aG,Zi,Sg,yX]⟩
abbrev an:BZ:=⟨[(1,BI),(2,gU),(4,eu),(5,nM),(6,BI),(7,lB),(8,BI),(46,.c (.ptr 18 2)),(47,BI),(48,lB),(49,BI),(50,yK)],AA3⟩
abbrev eT:BZ:=⟨[(1,BI),(2,gU),(4,eu),(5,nM),(6,BI),(7,lB),(11,BI),(46,.c (.ptr 18 2)),(47,BI),(48,lB),(49,BI),(50,yK)],AA3⟩
abbrev eG:BZ:=⟨[(1,BI),(2,gU),(4,eu),(5,nM),(13,BI)],[Du,Z1,Du,M_,nW,.sl 1 Y7,Ps,MO,rM,td,Fv,Z4,Fv,TQ,aJ,aG,Zi,Sg,yX]⟩
abbrev eY:BZ:=⟨[(1,BI),(2,gU),(4,eu),(5,nM),(13,BI),(14,lB),(15,BI)],[Du,Z1,Du,M_,nW,.sl 1 Y7,Ps,MO,rM,td,Fv,Z4,Fv,TQ,aJ,aG,Zi,Sg,yX,.mem [.v tI,.v tI,.sl true tI,.sl true Y1,.v .bool,.sl true (.sl tI)]]⟩
theorem AOR(yD:ABk→Int→Option G8)(yA:Int→Int→Option Hk)(ei:List Int→Int→Option Gi)(gf:Int→Option Hw)(gL:ABZ→Int→Option F7)(du:ABE→Int→Option Gn)(ec:ABL→ACI→Int→Int→Option F_)(fC:Int→Option KI)(gW:ABL→ABZ→Int→Int→Option Hp)(n:Nat)(v:kg.V)(ω:List Bool):HZ ⟨T,RD [(69,⟨y8,o69,y8.un yD⟩),(71,⟨zA,o71,zA.un yA⟩),(180,⟨iF,vt,iF.un ei⟩),(186,⟨g_,xf,g_.un gf⟩),(231,⟨hO,xn,hO.un gL⟩),(278,⟨ft,wD,ft.un du⟩),(279,⟨gy,wT,gy.un ec⟩),(280,⟨fx,wK,fx.un fC⟩),(281,⟨gQ,vx,gQ.un gW⟩)],CQ [(10,[0,1,2,3,4,5,6,7,8,9,10,11]),(18,[0,1,2,3,4,5,6,7,8,9,10,11,12,13,14,15,16,17,18,19])]⟩ lT Tryz.f221 (L0 8 jS n) 3 ω (kg.st 207 v)=kg.un (fun(t1:Int) (t6:Int) (b0:AAH) (b1:AAh) (b2:AAH) (b3:AAo) (b4:AA1) (b5:ABB) (b6:AAs) (b7:AAX) (Dg:Int) (Dv:Int) (CN:Bool) (EM:Int) (GA:Int) (DE:Bool) (MG:AAH) (GO:AAh) (D5:AAH) (G6:AAo) (G7:AA1) (EV:ABB) (FA:AAs) (Fl:AAX) (Ch:ABE) (C8:ABE) (Cl:Int)=>
 cond ((decide (t6<(b4.length:Int))))
  (if(0:Int)≤t6∧t6<(b4.length:Int)then(
  (yD (b3,Dv,()) ((b4.getD (t6.toNat) (0,[],())).1)).bind fun u3=>
  (ei u3.2.1 t1).bind fun u4=>
  cond (!u4.1.1)
   ((Be n) t1 (AZ (t6+1)) b0 b1 b2 b3 b4 b5 b6 b7 Dg Dv CN EM GA DE MG GO D5 G6 G7 EV FA Fl Ch C8 Cl)
  (let x5:Int:=(b4.getD (t6.toNat) (0,[],())).1
  cond (decide (Cl≥x5))
   ((Be n) t1 (AZ (t6+1)) b0 b1 b2 b3 b4 b5 b6 b7 Dg Dv CN EM GA DE MG GO D5 G6 G7 EV FA Fl Ch C8 Cl)
  ((BC n) t1 t6 1 Cl x5 (decide (Cl≥x5)) b0 b1 b2 b3 b4 b5 b6 b7 Dg Dv CN EM GA DE MG GO D5 G6 G7 EV FA Fl Ch C8 Cl ((b4.getD (t6.toNat) (0,[],())).1) ((b4.getD (t6.toNat) (0,[],())).2.1))))else none)
 ((Bh n) t1 0 b0 b1 b2 b3 b4 b5 b6 b7 Dg Dv CN EM GA DE MG GO D5 G6 G7 EV FA Fl Ch C8 Cl)) v:=by kernel_rfl
theorem ARZ(n:Nat)(v:kg.V)(ω:List Bool):HZ ACF lT Tryz.f221 (L0 8 jS n) 3 ω (kg.st 207 v)=kg.un (Mc (Be n) (BC n) (BD n) (Bh n) (Bb n)) v:=AOR Ce Ec DK C0 Ew HV Fg HM Hi n v ω
def Bg(ω:List Bool):Prop:= ∀(yD:ABk→Int→Option G8) (yA:Int→Int→Option Hk) (ei:List Int→Int→Option Gi) (gf:Int→Option Hw) (gL:ABZ→Int→Option F7) (du:ABE→Int→Option Gn) (ec:ABL→ACI→Int→Int→Option F_) (fC:Int→Option KI) (gW:ABL→ABZ→Int→Int→Option Hp) (n:Nat) (v:an.V),HZ ⟨T,RD [(69,⟨y8,o69,y8.un yD⟩),(71,⟨zA,o71,zA.un yA⟩),(180,⟨iF,vt,iF.un ei⟩),(186,⟨g_,xf,g_.un gf⟩),(231,⟨hO,xn,hO.un gL⟩),(278,⟨ft,wD,ft.un du⟩),(279,⟨gy,wT,gy.un ec⟩),(280,⟨fx,wK,fx.un fC⟩),(281,⟨gQ,vx,gQ.un gW⟩)],CQ [(10,[0,1,2,3,4,5,6,7,8,9,10,11]),(18,[0,1,2,3,4,5,6,7,8,9,10,11,12,13,14,15,16,17,18,19])]⟩ lT Tryz.f221 (L0 8 jS n) 8 ω (an.st 207 v)=an.un (fun(t1:Int) (t6:Int) (t8:Int) (t47:Int) (t49:Int) (t50:Bool) (b0:AAH) (b1:AAh) (b2:AAH) (b3:AAo) (b4:AA1) (b5:ABB) (b6:AAs) (b7:AAX) (Dg:Int) (Dv:Int) (CN:Bool) (EM:Int) (GA:Int) (DE:Bool) (MG:AAH) (GO:AAh) (D5:AAH) (G6:AAo) (G7:AA1) (EV:ABB) (FA:AAs) (Fl:AAX) (Ch:ABE) (C8:ABE) (Cl:Int) (DW:Int) (CV:AB7)=>
 cond ((decide (t8≤(CV.length:Int))))
  ((yA DW t8).bind fun u7=>
  (du Ch u7.1.1).bind fun u8=>
  cond (!u8.1.1.2.1)
   ((BC n) t1 t6 (AZ (t8+1)) t47 t49 t50 b0 b1 b2 b3 b4 b5 b6 b7 Dg Dv CN EM GA DE MG GO D5 G6 G7 EV FA Fl Ch C8 Cl DW CV)
  (cond (u8.1.1.1.2.1 !=0)
   ((BC n) t1 t6 (AZ (t8+1)) t47 t49 t50 b0 b1 b2 b3 b4 b5 b6 b7 Dg Dv CN EM GA DE MG GO D5 G6 G7 EV FA Fl Ch C8 Cl DW CV)
  (if(0:Int)≤AZ (t8-1)∧AZ (t8-1)<(CV.length:Int)then(
  cond (((CV.getD ((AZ (t8-1)).toNat) ([],[],false,())).2.2.1))
   ((BC n) t1 t6 (AZ (t8+1)) t47 t49 t50 b0 b1 b2 b3 b4 b5 b6 b7 Dg Dv CN EM GA DE MG GO D5 G6 G7 EV FA Fl Ch C8 Cl DW CV)
  ((ec (b0,Dg,()) (DW,CV,()) t8 t1).bind fun EY=>
  (BC n) t1 t6 (AZ (t8+1)) t47 t49 t50 b0 b1 b2 b3 b4 b5 b6 b7 Dg Dv CN EM GA DE MG GO D5 G6 G7 EV FA Fl Ch C8 Cl EY.1.1.1.1 EY.2.1))else none)))
 (if(0:Int)≤t6∧t6<(b4.length:Int)then(
 (BD n) t1 t6 0 t47 t49 t50 b0 b1 b2 b3 (b4.set (t6.toNat) (DW,CV,())) b5 b6 b7 Dg Dv CN EM GA DE MG GO D5 G6 G7 EV FA Fl Ch C8 Cl DW CV)else none)) v
theorem AGG:Bg []:=by delta Bg;intros;kernel_rfl
theorem ADr:Bg (false::[]):=by delta Bg;intros;kernel_rfl
theorem AEL:Bg (false::false::[]):=by delta Bg;intros;kernel_rfl
theorem AF4:Bg (false::false::false::[]):=by delta Bg;intros;kernel_rfl
theorem ADR(ω:List Bool):Bg (false::false::false::false::ω):=by delta Bg;intros;kernel_rfl
theorem AEJ(ω:List Bool):Bg (false::false::false::true::ω):=by delta Bg;intros;kernel_rfl
theorem AE_(ω:List Bool):Bg (false::false::true::ω):=by delta Bg;intros;kernel_rfl
theorem AEE:Bg (false::true::[]):=by delta Bg;intros;kernel_rfl
theorem AEO:Bg (false::true::false::[]):=by delta Bg;intros;kernel_rfl
theorem ACo:Bg (false::true::false::false::[]):=by delta Bg;intros;kernel_rfl
theorem ABe(ω:List Bool):Bg (false::true::false::false::false::ω):=by delta Bg;intros;kernel_rfl
theorem ACH(ω:List Bool):Bg (false::true::false::false::true::ω):=by delta Bg;intros;kernel_rfl
theorem AB9:Bg (false::true::false::true::[]):=by delta Bg;intros;kernel_rfl
theorem ACX(ω:List Bool):Bg (false::true::false::true::false::ω):=by delta Bg;intros;kernel_rfl
theorem ACd:Bg (false::true::false::true::true::[]):=by delta Bg;intros;kernel_rfl
theorem ACy(ω:List Bool):Bg (false::true::false::true::true::false::ω):=by delta Bg;intros;kernel_rfl
theorem AC2(ω:List Bool):Bg (false::true::false::true::true::true::ω):=by delta Bg;intros;kernel_rfl
theorem ABu:Bg (false::true::true::[]):=by delta Bg;intros;kernel_rfl
theorem ABa(ω:List Bool):Bg (false::true::true::false::ω):=by delta Bg;intros;kernel_rfl
theorem ACA:Bg (false::true::true::true::[]):=by delta Bg;intros;kernel_rfl
theorem ACZ(ω:List Bool):Bg (false::true::true::true::false::ω):=by delta Bg;intros;kernel_rfl
theorem ACq(ω:List Bool):Bg (false::true::true::true::true::ω):=by delta Bg;intros;kernel_rfl
theorem AC4:Bg (true::[]):=by delta Bg;intros;kernel_rfl
theorem ACi(ω:List Bool):Bg (true::false::ω):=by delta Bg;intros;kernel_rfl
theorem AB3:Bg (true::true::[]):=by delta Bg;intros;kernel_rfl
theorem ACW(ω:List Bool):Bg (true::true::false::ω):=by delta Bg;intros;kernel_rfl
theorem ABV:Bg (true::true::true::[]):=by delta Bg;intros;kernel_rfl
theorem AC1(ω:List Bool):Bg (true::true::true::false::ω):=by delta Bg;intros;kernel_rfl
theorem ACC(ω:List Bool):Bg (true::true::true::true::ω):=by delta Bg;intros;kernel_rfl
theorem ANY(yD:ABk→Int→Option G8)(yA:Int→Int→Option Hk)(ei:List Int→Int→Option Gi)(gf:Int→Option Hw)(gL:ABZ→Int→Option F7)(du:ABE→Int→Option Gn)(ec:ABL→ACI→Int→Int→Option F_)(fC:Int→Option KI)(gW:ABL→ABZ→Int→Int→Option Hp)(n:Nat)(v:an.V)(ω:List Bool):HZ ⟨T,RD [(69,⟨y8,o69,y8.un yD⟩),(71,⟨zA,o71,zA.un yA⟩),(180,⟨iF,vt,iF.un ei⟩),(186,⟨g_,xf,g_.un gf⟩),(231,⟨hO,xn,hO.un gL⟩),(278,⟨ft,wD,ft.un du⟩),(279,⟨gy,wT,gy.un ec⟩),(280,⟨fx,wK,fx.un fC⟩),(281,⟨gQ,vx,gQ.un gW⟩)],CQ [(10,[0,1,2,3,4,5,6,7,8,9,10,11]),(18,[0,1,2,3,4,5,6,7,8,9,10,11,12,13,14,15,16,17,18,19])]⟩ lT Tryz.f221 (L0 8 jS n) 8 ω (an.st 207 v)=an.un (fun(t1:Int) (t6:Int) (t8:Int) (t47:Int) (t49:Int) (t50:Bool) (b0:AAH) (b1:AAh) (b2:AAH) (b3:AAo) (b4:AA1) (b5:ABB) (b6:AAs) (b7:AAX) (Dg:Int) (Dv:Int) (CN:Bool) (EM:Int) (GA:Int) (DE:Bool) (MG:AAH) (GO:AAh) (D5:AAH) (G6:AAo) (G7:AA1) (EV:ABB) (FA:AAs) (Fl:AAX) (Ch:ABE) (C8:ABE) (Cl:Int) (DW:Int) (CV:AB7)=>
 cond ((decide (t8≤(CV.length:Int))))
  ((yA DW t8).bind fun u7=>
  (du Ch u7.1.1).bind fun u8=>
  cond (!u8.1.1.2.1)
   ((BC n) t1 t6 (AZ (t8+1)) t47 t49 t50 b0 b1 b2 b3 b4 b5 b6 b7 Dg Dv CN EM GA DE MG GO D5 G6 G7 EV FA Fl Ch C8 Cl DW CV)
  (cond (u8.1.1.1.2.1 !=0)
   ((BC n) t1 t6 (AZ (t8+1)) t47 t49 t50 b0 b1 b2 b3 b4 b5 b6 b7 Dg Dv CN EM GA DE MG GO D5 G6 G7 EV FA Fl Ch C8 Cl DW CV)
  (if(0:Int)≤AZ (t8-1)∧AZ (t8-1)<(CV.length:Int)then(
  cond (((CV.getD ((AZ (t8-1)).toNat) ([],[],false,())).2.2.1))
   ((BC n) t1 t6 (AZ (t8+1)) t47 t49 t50 b0 b1 b2 b3 b4 b5 b6 b7 Dg Dv CN EM GA DE MG GO D5 G6 G7 EV FA Fl Ch C8 Cl DW CV)
  ((ec (b0,Dg,()) (DW,CV,()) t8 t1).bind fun EY=>
  (BC n) t1 t6 (AZ (t8+1)) t47 t49 t50 b0 b1 b2 b3 b4 b5 b6 b7 Dg Dv CN EM GA DE MG GO D5 G6 G7 EV FA Fl Ch C8 Cl EY.1.1.1.1 EY.2.1))else none)))
 (if(0:Int)≤t6∧t6<(b4.length:Int)then(
 (BD n) t1 t6 0 t47 t49 t50 b0 b1 b2 b3 (b4.set (t6.toNat) (DW,CV,())) b5 b6 b7 Dg Dv CN EM GA DE MG GO D5 G6 G7 EV FA Fl Ch C8 Cl DW CV)else none)) v:=(AE AGG (AE ADr (AE AEL (AE AF4 ADR AEJ) AE_) (AE AEE (AE AEO (AE ACo ABe ACH) (AE AB9 ACX (AE ACd ACy AC2))) (AE ABu ABa (AE ACA ACZ ACq)))) (AE AC4 ACi (AE AB3 ACW (AE ABV AC1 ACC)))) ω yD yA ei gf gL du ec fC gW n v
theorem APx(n:Nat)(v:an.V)(ω:List Bool):HZ ACF lT Tryz.f221 (L0 8 jS n) 8 ω (an.st 207 v)=an.un (MF (Be n) (BC n) (BD n) (Bh n) (Bb n)) v:=ANY Ce Ec DK C0 Ew HV Fg HM Hi n v ω
theorem AKc(yD:ABk→Int→Option G8)(yA:Int→Int→Option Hk)(ei:List Int→Int→Option Gi)(gf:Int→Option Hw)(gL:ABZ→Int→Option F7)(du:ABE→Int→Option Gn)(ec:ABL→ACI→Int→Int→Option F_)(fC:Int→Option KI)(gW:ABL→ABZ→Int→Int→Option Hp)(n:Nat)(v:eT.V)(ω:List Bool):HZ ⟨T,RD [(69,⟨y8,o69,y8.un yD⟩),(71,⟨zA,o71,zA.un yA⟩),(180,⟨iF,vt,iF.un ei⟩),(186,⟨g_,xf,g_.un gf⟩),(231,⟨hO,xn,hO.un gL⟩),(278,⟨ft,wD,ft.un du⟩),(279,⟨gy,wT,gy.un ec⟩),(280,⟨fx,wK,fx.un fC⟩),(281,⟨gQ,vx,gQ.un gW⟩)],CQ [(10,[0,1,2,3,4,5,6,7,8,9,10,11]),(18,[0,1,2,3,4,5,6,7,8,9,10,11,12,13,14,15,16,17,18,19])]⟩ lT Tryz.f221 (L0 8 jS n) 15 ω (eT.st 207 v)=eT.un (fun(t1:Int) (t6:Int) (t11:Int) (t47:Int) (t49:Int) (t50:Bool) (b0:AAH) (b1:AAh) (b2:AAH) (b3:AAo) (b4:AA1) (b5:ABB) (b6:AAs) (b7:AAX) (Dg:Int) (Dv:Int) (CN:Bool) (EM:Int) (GA:Int) (DE:Bool) (MG:AAH) (GO:AAh) (D5:AAH) (G6:AAo) (G7:AA1) (EV:ABB) (FA:AAs) (Fl:AAX) (Ch:ABE) (C8:ABE) (Cl:Int) (DW:Int) (CV:AB7)=>
 cond ((decide (t11<(b7.length:Int))))
  (if(0:Int)≤t11∧t11<(b7.length:Int)then(
  let x65:Int:=(b7.getD (t11.toNat) (0,[],false,())).1
  (gf x65).bind fun u66=>
  cond (u66.1.1==DW)
   ((fC x65).bind fun u67=>
   cond ((decide (u67.1.1≤(CV.length:Int))))
    ((fC x65).bind fun u69=>
    if(0:Int)≤AZ (u69.1.1-1)∧AZ (u69.1.1-1)<(CV.length:Int)then(
    cond (((CV.getD ((AZ (u69.1.1-1)).toNat) ([],[],false,())).2.2.1))
     (if(0:Int)≤t11∧t11<(b7.length:Int)then(
     (BD n) t1 t6 (AZ (t11+1)) t47 t49 t50 b0 b1 b2 b3 b4 b5 b6 (b7.set (t11.toNat) ((b7.getD (t11.toNat) (0,[],false,())).1,(b7.getD (t11.toNat) (0,[],false,())).2.1,true,())) Dg Dv CN EM GA DE MG GO D5 G6 G7 EV FA Fl Ch C8 Cl DW CV)else none)
    ((BD n) t1 t6 (AZ (t11+1)) t47 t49 t50 b0 b1 b2 b3 b4 b5 b6 b7 Dg Dv CN EM GA DE MG GO D5 G6 G7 EV FA Fl Ch C8 Cl DW CV))else none)
   ((BD n) t1 t6 (AZ (t11+1)) t47 t49 t50 b0 b1 b2 b3 b4 b5 b6 b7 Dg Dv CN EM GA DE MG GO D5 G6 G7 EV FA Fl Ch C8 Cl DW CV))
  ((BD n) t1 t6 (AZ (t11+1)) t47 t49 t50 b0 b1 b2 b3 b4 b5 b6 b7 Dg Dv CN EM GA DE MG GO D5 G6 G7 EV FA Fl Ch C8 Cl DW CV))else none)
 ((Be n) t1 (AZ (t6+1)) b0 b1 b2 b3 b4 b5 b6 b7 Dg Dv CN EM GA DE MG GO D5 G6 G7 EV FA Fl Ch C8 Cl)) v:=by kernel_rfl
theorem AHD(n:Nat)(v:eT.V)(ω:List Bool):HZ ACF lT Tryz.f221 (L0 8 jS n) 15 ω (eT.st 207 v)=eT.un (Ko (Be n) (BC n) (BD n) (Bh n) (Bb n)) v:=AKc Ce Ec DK C0 Ew HV Fg HM Hi n v ω
theorem AI8(yD:ABk→Int→Option G8)(yA:Int→Int→Option Hk)(ei:List Int→Int→Option Gi)(gf:Int→Option Hw)(gL:ABZ→Int→Option F7)(du:ABE→Int→Option Gn)(ec:ABL→ACI→Int→Int→Option F_)(fC:Int→Option KI)(gW:ABL→ABZ→Int→Int→Option Hp)(n:Nat)(v:eG.V)(ω:List Bool):HZ ⟨T,RD [(69,⟨y8,o69,y8.un yD⟩),(71,⟨zA,o71,zA.un yA⟩),(180,⟨iF,vt,iF.un ei⟩),(186,⟨g_,xf,g_.un gf⟩),(231,⟨hO,xn,hO.un gL⟩),(278,⟨ft,wD,ft.un du⟩),(279,⟨gy,wT,gy.un ec⟩),(280,⟨fx,wK,fx.un fC⟩),(281,⟨gQ,vx,gQ.un gW⟩)],CQ [(10,[0,1,2,3,4,5,6,7,8,9,10,11]),(18,[0,1,2,3,4,5,6,7,8,9,10,11,12,13,14,15,16,17,18,19])]⟩ lT Tryz.f221 (L0 8 jS n) 21 ω (eG.st 207 v)=eG.un (fun(t1:Int) (t13:Int) (b0:AAH) (b1:AAh) (b2:AAH) (b3:AAo) (b4:AA1) (b5:ABB) (b6:AAs) (b7:AAX) (Dg:Int) (Dv:Int) (CN:Bool) (EM:Int) (GA:Int) (DE:Bool) (MG:AAH) (GO:AAh) (D5:AAH) (G6:AAo) (G7:AA1) (EV:ABB) (FA:AAs) (Fl:AAX) (Ch:ABE) (C8:ABE) (Cl:Int)=>
 cond ((decide (t13<(b5.length:Int))))
  (if(0:Int)≤t13∧t13<(b5.length:Int)then(
  (Bb n) t1 t13 1 b0 b1 b2 b3 b4 b5 b6 b7 Dg Dv CN EM GA DE MG GO D5 G6 G7 EV FA Fl Ch C8 Cl ((b5.getD (t13.toNat) (0,0,[],[],false,[],())).1) ((b5.getD (t13.toNat) (0,0,[],[],false,[],())).2.1) ((b5.getD (t13.toNat) (0,0,[],[],false,[],())).2.2.1) ((b5.getD (t13.toNat) (0,0,[],[],false,[],())).2.2.2.1) ((b5.getD (t13.toNat) (0,0,[],[],false,[],())).2.2.2.2.1) ((b5.getD (t13.toNat) (0,0,[],[],false,[],())).2.2.2.2.2.1))else none)
 (some ((((),Dg,(),(),(),Dv,(),(),(),(),CN,()),()),(b0,b1,b2,b3,b4,b5,b6,b7,())))) v:=by kernel_rfl
theorem AGu(n:Nat)(v:eG.V)(ω:List Bool):HZ ACF lT Tryz.f221 (L0 8 jS n) 21 ω (eG.st 207 v)=eG.un (Kz (Be n) (BC n) (BD n) (Bh n) (Bb n)) v:=AI8 Ce Ec DK C0 Ew HV Fg HM Hi n v ω
theorem ALf(yD:ABk→Int→Option G8)(yA:Int→Int→Option Hk)(ei:List Int→Int→Option Gi)(gf:Int→Option Hw)(gL:ABZ→Int→Option F7)(du:ABE→Int→Option Gn)(ec:ABL→ACI→Int→Int→Option F_)(fC:Int→Option KI)(gW:ABL→ABZ→Int→Int→Option Hp)(n:Nat)(v:eY.V)(ω:List Bool):HZ ⟨T,RD [(69,⟨y8,o69,y8.un yD⟩),(71,⟨zA,o71,zA.un yA⟩),(180,⟨iF,vt,iF.un ei⟩),(186,⟨g_,xf,g_.un gf⟩),(231,⟨hO,xn,hO.un gL⟩),(278,⟨ft,wD,ft.un du⟩),(279,⟨gy,wT,gy.un ec⟩),(280,⟨fx,wK,fx.un fC⟩),(281,⟨gQ,vx,gQ.un gW⟩)],CQ [(10,[0,1,2,3,4,5,6,7,8,9,10,11]),(18,[0,1,2,3,4,5,6,7,8,9,10,11,12,13,14,15,16,17,18,19])]⟩ lT Tryz.f221 (L0 8 jS n) 25 ω (eY.st 207 v)=eY.un (fun(t1:Int) (t13:Int) (t15:Int) (b0:AAH) (b1:AAh) (b2:AAH) (b3:AAo) (b4:AA1) (b5:ABB) (b6:AAs) (b7:AAX) (Dg:Int) (Dv:Int) (CN:Bool) (EM:Int) (GA:Int) (DE:Bool) (MG:AAH) (GO:AAh) (D5:AAH) (G6:AAo) (G7:AA1) (EV:ABB) (FA:AAs) (Fl:AAX) (Ch:ABE) (C8:ABE) (Cl:Int) (DW:Int) (CV:Int) (UF:AAH) (Ui:ABE) (Uw:Bool) (UG:List AAH)=>
 if(0:Int)≤t13∧t13<(b5.length:Int)then(
 cond (decide (t15≤(((b5.getD (t13.toNat) (0,0,[],[],false,[],())).2.2.2.2.2.1).length:Int)))
  ((yD (b3,Dv,()) CV).bind fun u74=>
  (ei u74.2.1 t1).bind fun u75=>
  cond (u75.1.1)
   ((gL (DW,CV,UF,Ui,Uw,UG,()) t15).bind fun u76=>
   (du Ch u76.1.1.1.1).bind fun u77=>
   cond (u77.1.1.2.1)
    (cond (((u77.1.1.1.1==u76.1.1.1.1)&&((u77.1.1.1.2.1==u76.1.1.1.2.1)&&((u77.1.1.1.2.2.1==u76.1.1.1.2.2.1)&&((u77.1.1.1.2.2.2.1==u76.1.1.1.2.2.2.1)&&true)))))
     ((gW (b0,Dg,()) (DW,CV,UF,Ui,Uw,UG,()) t15 t1).bind fun u79=>
     (Bb n) t1 t13 (AZ (t15+1)) b0 b1 b2 b3 b4 b5 b6 b7 Dg Dv CN EM GA DE MG GO D5 G6 G7 EV FA Fl Ch C8 Cl u79.1.1.1.1 u79.1.1.1.2.1 u79.2.1 u79.2.2.1 u79.1.1.1.2.2.2.2.1 u79.2.2.2.1)
    ((Bb n) t1 t13 (AZ (t15+1)) b0 b1 b2 b3 b4 b5 b6 b7 Dg Dv CN EM GA DE MG GO D5 G6 G7 EV FA Fl Ch C8 Cl DW CV UF Ui Uw UG))
   ((Bb n) t1 t13 (AZ (t15+1)) b0 b1 b2 b3 b4 b5 b6 b7 Dg Dv CN EM GA DE MG GO D5 G6 G7 EV FA Fl Ch C8 Cl DW CV UF Ui Uw UG))
  (if(0:Int)≤t13∧t13<(b5.length:Int)then(
  (Bh n) t1 (AZ (t13+1)) b0 b1 b2 b3 b4 (b5.set (t13.toNat) (DW,CV,UF,Ui,Uw,UG,())) b6 b7 Dg Dv CN EM GA DE MG GO D5 G6 G7 EV FA Fl Ch C8 Cl)else none))
 (if(0:Int)≤t13∧t13<(b5.length:Int)then(
 (Bh n) t1 (AZ (t13+1)) b0 b1 b2 b3 b4 (b5.set (t13.toNat) (DW,CV,UF,Ui,Uw,UG,())) b6 b7 Dg Dv CN EM GA DE MG GO D5 G6 G7 EV FA Fl Ch C8 Cl)else none))else none) v:=by kernel_rfl
theorem AIH(n:Nat)(v:eY.V)(ω:List Bool):HZ ACF lT Tryz.f221 (L0 8 jS n) 25 ω (eY.st 207 v)=eY.un (IV (Be n) (BC n) (BD n) (Bh n) (Bb n)) v:=ALf Ce Ec DK C0 Ew HV Fg HM Hi n v ω
theorem AaJ(yD:ABk→Int→Option G8)(yA:Int→Int→Option Hk)(ei:List Int→Int→Option Gi)(gf:Int→Option Hw)(gL:ABZ→Int→Option F7)(du:ABE→Int→Option Gn)(ec:ABL→ACI→Int→Int→Option F_)(fC:Int→Option KI)(gW:ABL→ABZ→Int→Int→Option Hp)(n:Nat)(ω:List Bool)(v:zX.V):DO ⟨T,RD [(69,⟨y8,o69,y8.un yD⟩),(71,⟨zA,o71,zA.un yA⟩),(180,⟨iF,vt,iF.un ei⟩),(186,⟨g_,xf,g_.un gf⟩),(231,⟨hO,xn,hO.un gL⟩),(278,⟨ft,wD,ft.un du⟩),(279,⟨gy,wT,gy.un ec⟩),(280,⟨fx,wK,fx.un fC⟩),(281,⟨gQ,vx,gQ.un gW⟩)],CQ [(10,[0,1,2,3,4,5,6,7,8,9,10,11]),(18,[0,1,2,3,4,5,6,7,8,9,10,11,12,13,14,15,16,17,18,19])]⟩ lT Tryz.f221 (L0 8 jS n) ω v=zX.un (fun(CP:Int) (CS:Int) (BT:Bool) (p1:Int) (b0:AAH) (b1:AAh) (b2:AAH) (b3:AAo) (b4:AA1) (b5:ABB) (b6:AAs) (b7:AAX)=>
 if(0:Int)≤p1∧p1<(b1.length:Int)then(
 (Be n) p1 0 b0 b1 b2 b3 b4 b5 b6 b7 CP CS BT 0 0 false [] [] [] [] [] [] [] [] ((b1.getD (p1.toNat) ([],[],0,())).1) ((b1.getD (p1.toNat) ([],[],0,())).2.1) ((b1.getD (p1.toNat) ([],[],0,())).2.2.1))else none) v:=by kernel_rfl
theorem AbG(n:Nat)(ω:List Bool)(v:zX.V):DO ACF lT Tryz.f221 (L0 8 jS n) ω v=zX.un (QR (Be n) (BC n) (BD n) (Bh n) (Bb n)) v:=AaJ Ce Ec DK C0 Ew HV Fg HM Hi n ω v
def Abg:SQ:=mk Tryz.func221 zX ASn Vo [s69,s71,nI,pO,ASs,AIN,AWF,ALu,AVb] [(10,[0,1,2,3,4,5,6,7,8,9,10,11]),(18,[0,1,2,3,4,5,6,7,8,9,10,11,12,13,14,15,16,17,18,19])] jS (hJ:= .cons (fun _=>rfl) ARZ (.cons (fun _=>rfl) APx (.cons (fun _=>rfl) AHD (.cons (fun _=>rfl) AGu (.cons (fun _=>rfl) AIH (.nil)))))) (he:=AbG Ae)
def Ab2:SQ:=mk Tryz.func134 cS AMe V0 [yd,AXA,Abg] [] []
def AFE:SQ:=mk Tryz.func160 AEw fI Ir [nI] [] [⟨3,⟨[(0,az),(1,az),(5,nt),(6,BI)],vB⟩,OO⟩]
def Aba:SQ:=mk Tryz.func222 AMs AMj Nd [ADC,AFE,ADv] [(8,[0,1,2])] [⟨5,⟨[(2,BI),(6,KD),(8,yh),(9,BI)],AMw⟩,Hs⟩] (hJ:= .cons (fun _=>rfl) (fun n v ω=>by rcases ω with _|⟨_|_,_⟩<;>kernel_rfl) (.nil))
def AZj:SQ:=mk Tryz.func223 AMI vp QH [ABw,AFE,ABi] [(7,[0,1,2,3,4,5,6])] [⟨5,⟨[(2,BI),(6,KD),(8,zy),(9,BI)],AMX⟩,Jd⟩] (hJ:= .cons (fun _=>rfl) (fun n v ω=>by rcases ω with _|⟨_|_,_⟩<;>kernel_rfl) (.nil))
def AaU:SQ:=mk Tryz.func135 cS ⟨AV5,[Du,Vz,PV,M_,Un,Sc,Ps,MO,Du]⟩ V9 [s82,ACl,yd,Aba,AZj] [(9,[0,1,2,3,5,6,7,8,9,10,11,12,13,14,15,16,17,18,19]),(13,[0,1,2,3,4,6,7,8,9,10,11,12,13,14,15,16,17,18,19])] [⟨7,⟨[(2,gU),(3,cY),(4,.c (.ptr 11 0)),(7,BI)],AM5⟩,KB⟩,⟨11,⟨[(2,gU),(3,cY),(4,.c (.ptr 11 0)),(8,BI)],AM5⟩,I3⟩]
def AaD:SQ:=mk Tryz.func282 lk Cf YS [s82,y7] [] []
def Abv:SQ:=mk Tryz.func283 ⟨[(0,xL)],[]⟩ xt Za [AR5] [] [⟨3,⟨[(0,xL),(3,nt),(4,BI)],[Mq]⟩,JD⟩,⟨6,⟨[(0,xL),(3,nt),(4,BI),(5,BI)],[Mq]⟩,JA⟩]
def AbQ:SQ:=mk Tryz.func224 ANO ⟨AV8,[Z1,Mq,Mq]⟩ eS [wZ,zo,nI,AaD,Abv] [] [⟨6,⟨[(1,nt),(2,az),(4,BI),(10,Zg),(12,zy),(13,.c (.ref 7)),(14,BI)],AMf⟩,PD⟩,⟨11,⟨[(4,BI),(10,Zg),(12,zy),(13,.c (.ref 7)),(15,BI)],AMf⟩,M4⟩]
def AZr:SQ:=mk Tryz.func136 cS ⟨AV5,[Du,Z1,PV,M_,Un,Sc,Ps,MO,Du]⟩ Vv [AFE,nI,AbQ,AE4] [(3,[0,2,3,4,5,6,7,8,9,10])] [] (he:=fun ω v=>by rcases ω with _|⟨_|_,_|⟨_|_,_⟩⟩<;>kernel_rfl)
def AZ9:SQ:=mk Tryz.func226 l4 wI jZ [] [] []
def AYm:SQ:=mk Tryz.func137 AFf ⟨[(0,.Me [.inr [.ref 0,.v tI,.ref 1,.ref 2,.ref 3,.v tI,.ref 4,.ref 8,.ref 6,.ref 7,.v .bool],.inl (.v tI)])],[Du,Vz,Du,M_,Un,PV,Ps,MO,Sc]⟩ Vx [ALA,AZ9] [] []
def AYn:SQ:=mk Tryz.func227 iN tG SR [ABt,Xt,zo,AXA,AE4] [] []
def AaM:SQ:=mk Tryz.func229 iN xt T2 [zo,pO] [] [⟨3,⟨[(1,BI),(2,KD),(5,xP7),(6,BI)],[AP8,Mq]⟩,JB⟩]
def Abz:SQ:=mk Tryz.func228 AMq vp T4 [ABw,ACl,ABi,pO,AR5] [(8,[0,1,2,3,4,5,6,7,8,9]),(9,[0,1,2,3,4,5,7,8,9])] [⟨6,⟨[(3,Xv),(4,KD),(5,Zg),(8,yh),(10,.c (.ptr 6 0)),(11,BI)],[tu,yl,AWg,Fv,Mq,oK,AUb,Fv,Mq,oK]⟩,Lo⟩]
def AcD:SQ:=mk Tryz.func138 cS sJ WM [s69,nI,yd,AYn,Abz,AaM] [(7,[0,1,2,3,4,5,6,7,8,9,10,11]),(9,[0,1,2,3,4,5,6,7,8,9,10,11,12]),(10,[0,1,2,3,4,5,6,7,8,9,10,11,12,13,14,15])] [] (he:=fun ω v=>by rcases ω with _|⟨_|_,_|⟨_|_,_|⟨_|_,_⟩⟩⟩<;>kernel_rfl)
def AWn:SQ:=mk Tryz.func286 AEw fI Kb [AFE] [] []
def AU3:SQ:=mk Tryz.func285 AD4 Cf KP [s82,AFE,y7,AVF] [(3,[0,1])] []
def AaT:SQ:=mk Tryz.func230 ANG vp Tu [ABw,ABi,AVL,AU3,AWn] [(4,[0,1,2,3,4,5,6])] [⟨8,⟨[(4,KD),(6,Zg),(8,.c (.ptr 5 0)),(9,BI)],AEk⟩,K6⟩]
def AYO:SQ:=mk Tryz.func139 AFf sJ V3 [s69,AaT] [(3,[0,1,2,3,4,5,6,7,8,9])] [] (he:=fun ω v=>by rcases ω with _|⟨_|_,_|⟨_|_,_⟩⟩<;>kernel_rfl)
def AZ_:SQ:=mk Tryz.func140 cS sJ Yr [s69,nI,yd,AWL,ASs] [(3,[0,1,2,3,4,5,6,7,8,9,10]),(9,[0,1,2,3,4,5,6,7,8,9,10,11]),(11,[0,1,2,3,4,5,6,7,8,9,10,11,12])] [] (he:=fun ω v=>by rcases ω with _|⟨_|_,_|⟨_|_,_⟩⟩<;>kernel_rfl)
def AYp:SQ:=mk Tryz.func232 wW Cf SC [s82,ABi] [(6,[0,1])] [⟨4,AMu,KW⟩]
def AbD:SQ:=mk Tryz.func233 AMg AAG T1 [AB2,Xt,ALA,AB5] [] []
def AaX:SQ:=mk Tryz.func141 AFf ⟨[(0,.Me [.inr [.ref 0,.v tI,.ref 1,.ref 2,.ref 8,.v tI,.ref 4,.ref 9,.ref 6,.ref 7,.v .bool],.inl (.v tI)])],[Du,Vz,Du,PV,Un,PV,Ps,MO,M_,Sc]⟩ Tz [AYp,AbD] [(3,[0,1,2,3,4,5,6,7,8,9]),(5,[0,1,2,3,4,5,6,7,8,9])] [] (he:=fun ω v=>by rcases ω with _|⟨_|_,_⟩<;>kernel_rfl)
def Aae:SQ:=mk Tryz.func142 AM2 AAG Vs [AB2,AB5,yi,pO,AE4] [(4,[0,1,2,3,4])] []
def AaS:SQ:=mk Tryz.func291 AAO Fi U1 [] [] [⟨2,⟨AL8,[AHv]⟩,Ja⟩]
def Abh:SQ:=mk Tryz.func235 xq Fi dN [AaS] [] [⟨2,⟨[(1,BI),(2,KD),(5,BI)],ADT⟩,OY⟩]
def Aa5:SQ:=mk Tryz.func236 ⟨[(0,.row Y11),(1,.row Y9),(2,BI)],[]⟩ ⟨AB8,[.sl 9 Y14]⟩ Pz [s71,AWj,yd,AIN] [(6,[0,1,2,3]),(7,[0,1,2,3]),(8,[0,1,3,4])] [⟨4,⟨[(3,KD),(4,Zg),(7,xP9),(8,.c (.ref 3)),(9,BI)],[rB,AHW,.sl 9 Y14,Fv]⟩,JH⟩] (hJ:= .cons (fun _=>rfl) (fun n v ω=>by rcases ω with _|⟨_|_,_|⟨_|_,_⟩⟩<;>kernel_rfl) (.nil))
def AbS:SQ:=mk Tryz.func288 ⟨[(0,qx),(1,rP)],[]⟩ ⟨[(0,.Me [.inl (.ref 0),.inl (.v .bool)])],vB⟩ ZN [y7] [] [⟨3,⟨[(1,rP),(2,KD),(6,xP7),(7,BI)],ANE⟩,LB⟩]
def AY2:SQ:=mk Tryz.func289 ⟨[(0,.row Y9),(1,.row Y8),(2,BI),(3,BI)],[]⟩ AAJ Ia [AG8] [] []
def Aa7:SQ:=mk Tryz.func290 ⟨[(0,az),(1,BI),(2,rP)],[]⟩ ⟨[(0,.agg [.v tI,.v tI,.v .str])],[]⟩ MR [nI,ALr,AUG] [] [⟨4,⟨[(0,az),(1,BI),(2,rP),(6,KD),(7,Zg),(8,yK),(9,BI)],[.mem [.v tI,.v tI,.v .str],ACt]⟩,Ms⟩]
def AaA:SQ:=mk Tryz.func234 AMv ⟨AT9,[.sl 9 Y8]⟩ P8 [s71,AG8,AUc,AB5,pO,ALu,AU3,AWn,AbS,AY2,Aa7] [(9,[0,1,2,4,5]),(14,[0,1,2,3,4,5]),(16,[0,1,2,4,5,6])] []
def AZs:SQ:=mk Tryz.func143 cS sJ Vy [Xt,AaA,Abh,Aa5] [(3,[0,1,2,3,4,5,6,7,8,9,10])] [] (he:=fun ω v=>by rcases ω with _|⟨_|_,_|⟨_|_,_|⟨_|_,_⟩⟩⟩<;>kernel_rfl)
def AZg:SQ:=mk Tryz.func144 cS ⟨[(0,.Me [.inr [.ref 0,.v tI,.ref 1,.ref 2,.ref 3,.v tI,.ref 8,.ref 5,.ref 6,.ref 7,.v .bool],.inl (.v tI)])],[Du,Vz,Du,M_,PV,Sc,Ps,MO,nW]⟩ Vr [AQS] [] [⟨5,⟨[(2,gU),(3,eu),(4,cY),(6,.c (.ref 19)),(7,BI)],[Du,Vz,Du,M_,nW,Sc,Ps,MO,rM,AFA,ADe,Fv,Z4,Fv,TQ,aJ,aG,Zi,Sg,nW]⟩,Mi⟩]
def Ab8:SQ:=mk Tryz.func238 iN tG SY [ABt,zo,yi] [(11,[0,1,2,3,6])] [⟨8,AMP,KR⟩] (hJ:= .cons (fun _=>rfl) (fun n v ω=>by rcases ω with _|⟨_|_,_⟩<;>kernel_rfl) (.nil))
def Aby:SQ:=mk Tryz.func145 cS sJ T3 [yd,AV3,Ab8] [(4,[0,1,2,3,4,5,6,7,8,9,10]),(6,[0,1,2,3,4,5,6,7,8,9,10,12])] [] (he:=fun ω v=>by rcases ω with _|⟨_|_,_⟩<;>kernel_rfl)
def s59:SQ:=mk Tryz.func59 cS ⟨[(0,.Me [.inr [.ref 0,.v tI,.ref 1,.ref 8,.ref 9,.v tI,.ref 10,.ref 11,.ref 6,.ref 12,.v .bool],.inl (.v tI)])],[Du,Z1,PV,PV,PV,PV,Ps,PV,Du,M_,nW,.sl 1 Y7,MO]⟩ bU [AbZ,Aam,Aav,Ab2,AaU,AZr,AYm,AcD,AYO,AZ_,AaX,Aae,AZs,AZg,Aby] [] []
abbrev i22:BZ:=ANC
abbrev o22:BZ:=AMe
def s22:SQ:=mk Tryz.func22 i22 o22 IZ [s51,s52,s58,s59] [(3,[0,1,2])] [] (he:=fun ω v=>by rcases ω with _|⟨_|_,_|⟨_|_,_⟩⟩<;>kernel_rfl)
def s37:SQ:=mk Tryz.func37 AFy ⟨[(0,.Me [.inr [.sl true tI,.v tI,.sl true Y2,.sl true tI,.sl true Y3,.v tI,.sl true Y6,.sl true Y7,.sl true Y9,.sl true Y10,.v .bool],.inl (.ref 1),.inr [.sl true tI,.v tI,.sl true Y2,.sl true tI,.sl true Y3,.v tI,.sl true Y6,.sl true Y7,.sl true Y9,.sl true Y10,.v .bool]])],[th,.sl 9 Y12]⟩ NW [s22,s63,s81,s82,s83,s84] [(21,[0,2,3,4,5,6,7,8,9,11,12,13,14,15,16,17,18,19,20,21])] [⟨4,⟨[(0,KD),(1,BI),(4,Zg),(6,cY),(7,lB),(8,.c (.ref 21)),(9,BI)],[th,AHa,Fv,Z4,Fv,TQ,aJ,aG,Zi,Sg,ADe,Fv,Z4,Fv,TQ,aJ,aG,Zi,Sg,.mem [.ref 20,.v tI],Fv,Fv]⟩,Eo⟩,⟨7,⟨[(0,KD),(1,BI),(4,Zg),(6,cY),(7,lB),(8,.c (.sl true tI))],[th,AHa,Fv,Z4,Fv,TQ,aJ,aG,Zi,Sg,ADe,Fv,Z4,Fv,TQ,aJ,aG,Zi,Sg,.mem [.sl true tI,.v tI]]⟩,Ei⟩,⟨14,⟨[(0,KD),(4,Zg),(6,cY),(10,lB),(12,.c (.ptr 20 0)),(13,.c (.ref 21)),(14,BI),(15,BI)],[th,AHa,Fv,Z4,Fv,TQ,aJ,aG,Zi,Sg,ADe,Fv,Z4,Fv,TQ,aJ,aG,Zi,Sg,AXR,AXR,.sl 9 Y12]⟩,Di⟩]
abbrev i10:BZ:=AEt
abbrev o10:BZ:=⟨[(0,.Me [.inr [.sl true tI,.v tI,.sl true Y2,.sl true tI,.sl true Y3,.v tI,.sl true Y6,.sl true Y7,.sl true Y9,.sl true Y10,.v .bool],.inl (.ref 0)])],[.sl 9 Y12]⟩
def s10:SQ:=mk Tryz.func10 i10 o10 G2 [s37,s38,s39] [] []
abbrev i43:BZ:=AMU
abbrev o43:BZ:=Cf
def gl:SQ:=mk Tryz.func43 i43 o43 A3 [] [] []
def s44:SQ:=mk Tryz.func44 AAc Cf E4 [gl] [] [⟨2,⟨[(1,KD),(6,az),(7,BI),(8,BI)],ARa⟩,Lr⟩]
def AY3:SQ:=mk Tryz.func161 l8 Cf Vq [gl] [] [⟨2,⟨[(0,az),(1,BI),(7,az),(8,BI),(9,BI)],[]⟩,J7⟩]
def s74:SQ:=mk Tryz.func74 lk Cf EA [s44,AY3] [] []
def s72:SQ:=mk Tryz.func72 Fi Cf Hb [gl] [] []
def s73:SQ:=mk Tryz.func73 Fi Cf XU [gl] [] []
def s53:SQ:=mk Tryz.func53 Fi Cf D7 [s72,s73] [] []
def AH8:SQ:=mk Tryz.func100 ⟨[(0,.c (.v .str))],[]⟩ Cf GK [] [] []
def s95:SQ:=mk Tryz.func95 Fi Fi FI [s53] [] []
def AKb:SQ:=mk Tryz.func251 ⟨[(0,.row Y1)],[]⟩ Cf L3 [gl,s53,s95,AH8] [(1,[0])] []
def Aa4:SQ:=mk Tryz.func173 AA0 Cf OM [AKb] [] [⟨2,⟨[(5,Xv),(6,BI),(7,BI)],[]⟩,H_⟩]
def AWR:SQ:=mk Tryz.func174 AA0 Cf KH [] [(4,[0])] [⟨2,⟨[(0,Xv),(5,Xv),(6,BI),(7,BI)],[]⟩,F6⟩]
def s92:SQ:=mk Tryz.func92 mG Cf FF [gl,Aa4,AWR] [] []
abbrev i86:BZ:=⟨[(0,az)],[]⟩
abbrev o86:BZ:=fI
def s86:SQ:=mk Tryz.func86 i86 o86 DG [] [] []
def AZM:SQ:=mk Tryz.func249 l8 Fi N8 [] [] [⟨2,⟨[(0,az),(1,BI),(7,BI),(8,BI)],[]⟩,GF⟩]
def zL:SQ:=mk Tryz.func162 l8 Cf Bo [AZM] [] []
def AWx:SQ:=mk Tryz.func252 ⟨[(0,BI),(1,.c (.mr (.cons (.sl tI) .unit)))],[]⟩ Cf Q7 [zL] [] []
def AX_:SQ:=mk Tryz.func294 ⟨[(0,az),(1,AKn)],[]⟩ Fi Dk [AWx] [] [⟨2,⟨[(0,az),(1,AKn),(7,BI),(8,BI)],[]⟩,B8⟩]
def AYJ:SQ:=mk Tryz.func247 ⟨[(0,nt),(1,AKn)],[Du]⟩ AMb Co [AWx,AX_] [] [⟨5,⟨[(0,nt),(1,AKn),(5,BI),(6,BI)],[Du]⟩,Bu⟩]
def ALn:SQ:=mk Tryz.func175 AEw AEg M9 [s86,AYJ] [] []
abbrev i93:BZ:=AA8
abbrev o93:BZ:=Cf
def s93:SQ:=mk Tryz.func93 i93 o93 C6 [ALn] [] []
def s75:SQ:=mk Tryz.func75 lk Fi Yk [s74,zL] [] [⟨5,⟨[(2,KD),(5,xP7),(13,az),(14,BI),(15,BI)],ANE⟩,N6⟩]
abbrev i32:BZ:=lk
abbrev o32:BZ:=Cf
def s32:SQ:=mk Tryz.func32 i32 o32 Gc [s74,s75] [(1,[0])] []
def s45:SQ:=mk Tryz.func45 wx Cf Kr [s32,s74,s92,s93] [] [⟨4,⟨[(0,xY),(32,xL),(33,BI),(34,BI)],[]⟩,FH⟩]
def s94:SQ:=mk Tryz.func94 ⟨[(0,qx),(1,.row Y3)],[]⟩ Cf ah [s32,gl] [] []
abbrev i46:BZ:=AFk
abbrev o46:BZ:=Cf
def s46:SQ:=mk Tryz.func46 i46 o46 Kc [gl,s44,s94,s95] [(7,[0,1])] [⟨2,⟨[(2,KD),(3,Zg),(9,.c (.sl false Y3)),(10,BI),(11,BI)],AXS⟩,Kg⟩]
def AaB:SQ:=mk Tryz.func176 Cf Fi ae [] [] []
abbrev i96:BZ:=AEH
abbrev o96:BZ:=Cf
def s96:SQ:=mk Tryz.func96 i96 o96 GW [s32,s44,s72,s74,AH8,AaB] [(5,[0,1,2])] [⟨3,⟨[(2,KD),(3,Zg),(5,BI),(9,AG0),(10,BI),(11,BI)],AUv⟩,LG⟩]
def s97:SQ:=mk Tryz.func97 AA8 Cf JJ [gl] [] []
def s47:SQ:=mk Tryz.func47 wx Cf KE [s96,s97] [(4,[0])] [⟨2,⟨[(0,xY),(8,.c (.sl false Y6)),(9,BI),(10,BI)],[]⟩,Eg⟩]
def AQD:SQ:=mk Tryz.func110 Fi Fi TF [s53] [] []
def AVK:SQ:=mk Tryz.func177 w8 Fi Rv [AQD] [] []
def AbO:SQ:=mk Tryz.func178 w8 Cf Ul [s95,AWR,AKb] [(4,[0,1])] [⟨2,⟨[(1,KD),(6,Xv),(7,BI),(8,BI)],[yl]⟩,LW⟩]
def s98:SQ:=mk Tryz.func98 wW Cf Hv [gl,s44,s72,s74,AVK,AbO] [] [⟨2,⟨[(2,KD),(3,Zg),(10,AGv),(11,BI),(12,BI)],APj⟩,K7⟩]
def s36:SQ:=mk Tryz.func36 AAN Fi Lq [] [] [⟨2,⟨[(6,.c (.sl false Y3)),(7,BI),(8,BI)],[]⟩,IB⟩]
def s48:SQ:=mk Tryz.func48 wx Cf L7 [s36,s98] [(4,[0])] [⟨2,⟨[(0,xY),(8,.c (.sl false Y7)),(9,BI),(10,BI)],[]⟩,FY⟩]
def s99:SQ:=mk Tryz.func99 ABC Cf Tx [gl] [] []
def s49:SQ:=mk Tryz.func49 wx Cf KL [s99] [] [⟨2,⟨[(0,xY),(8,ABo),(9,BI),(10,BI)],[]⟩,Ef⟩]
def s50:SQ:=mk Tryz.func50 wx Cf NY [s95,s97,AH8] [(4,[0])] [⟨2,⟨[(0,xY),(8,wv),(9,BI),(10,BI)],[]⟩,GL⟩]
def s16:SQ:=mk Tryz.func16 fH Cf Fq [s44,s45,s46,s47,s48,s49,s50] [] []
def Ab_:SQ:=mk Tryz.func111 Fi ⟨[(0,.c (.v .str))],[]⟩ bJ [] [] []
def s56:SQ:=mk Tryz.func56 ADo Cf Yt [gl,AH8,Ab_] [] [⟨4,⟨[(1,KD),(3,Zg),(11,xP9),(12,BI),(13,BI)],[AFA,AFA,.sl 9 tU]⟩,Dp⟩]
def s85:SQ:=mk Tryz.func85 AAc ⟨[(0,.agg [.ref 0,.v tI])],vB⟩ QF [s86] [(1,[0])] []
abbrev i87:BZ:=AAN
abbrev o87:BZ:=AFN
def s87:SQ:=mk Tryz.func87 i87 o87 Ed [s86] [] [⟨3,⟨[(2,KD),(3,yh),(10,.c (.sl false Y3)),(11,BI),(12,BI)],[.mem [.ref 1,.v tI],TQ,.mem [.ref 3,.v tI],TQ]⟩,Ht⟩]
def AUw:SQ:=mk Tryz.func172 AA0 xt I9 [] [] []
def s88:SQ:=mk Tryz.func88 mG AD9 DB [AUw] [(1,[0])] []
abbrev i89:BZ:=AAO
abbrev o89:BZ:=ADh
def s89:SQ:=mk Tryz.func89 i89 o89 Ft [s86] [] [⟨3,⟨[(2,KD),(3,yh),(10,AG0),(11,BI),(12,BI)],AMw⟩,JV⟩]
def s90:SQ:=mk Tryz.func90 w8 wI GX [s86,AUw] [(2,[0,1]),(6,[0,1,2,3,5,6])] [⟨4,⟨[(2,KD),(3,zy),(17,AGv),(18,BI),(19,BI)],AMX⟩,LJ⟩] (hJ:= .cons (fun _=>rfl) (fun n v ω=>by rcases ω with _|⟨_|_,_|⟨_|_,_⟩⟩<;>kernel_rfl) (.nil))
def s91:SQ:=mk Tryz.func91 ABC AAJ Mv [] [] []
def s40:SQ:=mk Tryz.func40 fH ANH OA [s85,s86,s87,s88,s89,s90,s91] [(1,[0,1]),(5,[0,1,2,3,4,5,6,7,8,9,11,13,14,15,16,17,18,19]),(10,[0,1,2,3,4,5,6,7,8,9,11,12,13,14,16,17,18,19]),(15,[0,1,2,3,4,5,6,7,8,9,11,12,13,14,15,17,18,19]),(20,[0,1,2,3,4,5,6,7,8,9,11,12,13,14,15,16,18,19])] [⟨3,⟨[(1,KD),(2,Zg),(3,cY),(25,xL),(26,BI),(27,BI)],cP⟩,FW⟩,⟨8,⟨[(1,KD),(2,Zg),(3,cY),(40,.c (.sl false Y6)),(41,BI),(42,BI)],cP⟩,FV⟩,⟨13,⟨[(1,KD),(2,Zg),(3,cY),(55,.c (.sl false Y7)),(56,BI),(57,BI)],cP⟩,En⟩,⟨18,⟨[(1,KD),(2,Zg),(3,cY),(70,ABo),(71,BI),(72,BI)],cP⟩,Ek⟩] (hJ:= .cons (fun _=>rfl) (fun n v ω=>by rcases ω with _|⟨_|_,_|⟨_|_,_⟩⟩<;>kernel_rfl) (.cons (fun _=>rfl) (fun n v ω=>by rcases ω with _|⟨_|_,_|⟨_|_,_⟩⟩<;>kernel_rfl) (.cons (fun _=>rfl) (fun n v ω=>by rcases ω with _|⟨_|_,_|⟨_|_,_⟩⟩<;>kernel_rfl) (.cons (fun _=>rfl) (fun n v ω=>by rcases ω with _|⟨_|_,_|⟨_|_,_⟩⟩<;>kernel_rfl) (.nil))))) (he:=fun ω v=>by rcases ω with _|⟨_|_,_|⟨_|_,_|⟨_|_,_⟩⟩⟩<;>kernel_rfl)
abbrev yL:BZ:=Fi
abbrev AL2:BZ:=fI
def AJ0:SQ:=mk Tryz.func188 yL AL2 Hm [gl] [] [⟨5,⟨[(0,BI),(3,nt),(10,BI)],vB⟩,KK⟩]
abbrev i210:BZ:=AFk
abbrev AUB:BZ:=AFN
def AKK:SQ:=mk Tryz.func210 i210 AUB EL [s46,s87] [] []
abbrev t_:BZ:=ANK
abbrev AKv:BZ:=ANN
def AVP:QN:=⟨t_,AKv,(t_.un L6)⟩
def Abj:aW:=⟨T,RD (SP.l [s32,s46,s86,s87,AKK]),CQ [(4,[0,1,2])]⟩
def AP6:List (Lp AKv):=[]
theorem AaY(g32:ABL→List Int→Option jT)(g46:ABL→ABk→Option RM)(g86:List Int→Option bm)(g87:ABk→Option IU)(AHf:ABL→ABk→Option cQ)(n:Nat)(ω:List Bool)(v:t_.V):DO ⟨T,RD [(32,⟨i32,o32,i32.un g32⟩),(46,⟨i46,o46,i46.un g46⟩),(86,⟨i86,o86,i86.un g86⟩),(87,⟨i87,o87,i87.un g87⟩),(210,⟨i210,AUB,i210.un AHf⟩)],CQ [(4,[0,1,2])]⟩ AVP Tryz.f187 (L0 0 AP6 n) ω v=t_.un (fun(p0:ABL) (p1:ABk) (p2:AAH)=>
 (g46 (p0.1,p0.2.1,()) (p1.1,p1.2.1,())).bind fun u1=>
 cond (!u1.1.1)
  ((AHf (p0.1,p0.2.1,()) (p1.1,p1.2.1,())).bind fun u2=>
  some (((((),u2.1.1.2.1,()),0,false,()),()),(u2.2.1,())))
 ((g32 (p0.1,p0.2.1,()) p2).bind fun u3=>
 cond (!u3.1.1)
  ((AHf (p0.1,p0.2.1,()) (p1.1,p1.2.1,())).bind fun u4=>
  some (((((),u4.1.1.2.1,()),0,false,()),()),(u4.2.1,())))
 (cond (((p1.1.length:Int)==30))
  ((AHf (p0.1,p0.2.1,()) (p1.1,p1.2.1,())).bind fun u6=>
  some (((((),u6.1.1.2.1,()),0,false,()),()),(u6.2.1,())))
 ((g87 (p1.1,p1.2.1,())).bind fun u7=>
 (g86 p2).bind fun u8=>
 if u7.2.1.length+1≤Go.M.Dw then(
 let x9:AAo:=u7.2.1++[(u8.2.1,false,0,())]
 some (((((),u7.1.1.2.1,()),(x9.length:Int),true,()),()),(x9,())))else none)))) v:=by rcases ω with _|⟨_|_,_|⟨_|_,_|⟨_|_,_|⟨_|_,_⟩⟩⟩⟩<;>kernel_rfl
theorem AYT(n:Nat)(ω:List Bool)(v:t_.V):DO Abj AVP Tryz.f187 (L0 0 AP6 n) ω v=t_.un (L6) v:=AaY Gc Kc DG Ed EL n ω v
def AWs:SQ:=mk Tryz.func187 t_ AKv L6 [s32,s46,s86,s87,AKK] [(4,[0,1,2])] AP6 (hJ:= .nil) (he:=AYT Ae)
abbrev y6:BZ:=sY
abbrev APB:BZ:=⟨mT,[.mem [.ref 1,.v tI,.ref 2,.ref 3,.ref 9,.v tI,.ref 10,.ref 11,.ref 7,.ref 8,.v .bool],Du,Vz,Du,PV,PV,PV,Ps,MO,M_,Un,Sc]⟩
def AUV:QN:=⟨y6,APB,(y6.un KC)⟩
def AZI:aW:=⟨T,RD (SP.l [AWs,AJ0]),CQ [(3,[0,1,2,3,4,5,6,7,8])]⟩
def APA:List (Lp APB):=[]
theorem AZS(AVw:ABL→ABk→List Int→Option dH)(z6:Int→Option HQ)(n:Nat)(ω:List Bool)(v:y6.V):DO ⟨T,RD [(187,⟨t_,AKv,t_.un AVw⟩),(188,⟨yL,AL2,yL.un z6⟩)],CQ [(3,[0,1,2,3,4,5,6,7,8])]⟩ AUV Tryz.f112 (L0 9 APA n) ω v=y6.un (fun(p1:Int) (AF:Int) (AU:Int) (AK:Bool) (b1:AAH) (b2:AAh) (b3:AAH) (b4:AAo) (b5:AA1) (b6:ABB) (b7:AAs) (b8:AAX)=>
 cond (((b5.length:Int)==4))
  (some ((4,()),(((),AF,(),(),(),AU,(),(),(),(),AK,()),b1,b2,b3,(),(),(),b7,b8,b4,b5,b6,())))
 ((z6 p1).bind fun u2=>
 (AVw (b1,AF,()) (b4,AU,()) u2.2.1).bind fun u3=>
 cond (!u3.1.1.2.2.1)
  (some ((4,()),(((),AF,(),(),(),AU,(),(),(),(),AK,()),b1,b2,b3,(),(),(),b7,b8,b4,b5,b6,())))
 (if b5.length+1≤Go.M.Dw then(
 some ((0,()),(((),AF,(),(),(),u3.1.1.1.2.1,(),(),(),(),AK,()),b1,b2,b3,(),(),(),b7,b8,u3.2.1,(b5++[(u3.1.1.2.1,[],())]),[],())))else none))) v:=by rcases ω with _|⟨_|_,_|⟨_|_,_⟩⟩<;>kernel_rfl
theorem Aag(n:Nat)(ω:List Bool)(v:y6.V):DO AZI AUV Tryz.f112 (L0 9 APA n) ω v=y6.un (KC) v:=AZS L6 Hm n ω v
def AZi:SQ:=mk Tryz.func112 y6 APB KC [AWs,AJ0] [(3,[0,1,2,3,4,5,6,7,8])] APA (hJ:= .nil) (he:=Aag Ae)
abbrev APd:BZ:=AEH
abbrev AUh:BZ:=ADh
def ARF:SQ:=mk Tryz.func257 APd AUh EO [s89,s96] [] []
abbrev uG:BZ:=AMS
abbrev AHF:BZ:=AM7
def AVh:QN:=⟨uG,AHF,(uG.un Jh)⟩
def AcA:aW:=⟨T,RD (SP.l [s89,s96,ARF]),CQ []⟩
def AQZ:List (Lp AHF):=[]
theorem Ab3(g89:ACI→Option Ka)(g96:ABL→ACI→Option Mf)(AQx:ABL→ACI→Option W5)(n:Nat)(ω:List Bool)(v:uG.V):DO ⟨T,RD [(89,⟨i89,o89,i89.un g89⟩),(96,⟨i96,o96,i96.un g96⟩),(257,⟨APd,AUh,APd.un AQx⟩)],CQ []⟩ AVh Tryz.f189 (L0 0 AQZ n) ω v=uG.un (fun(p0:ABL) (p1:ACI) (p2:ACD)=>
 (g89 (p1.1,p1.2.1,())).bind fun u1=>
 if u1.2.1.length+1≤Go.M.Dw then(
 let x2:AB7:=u1.2.1++[(p2,[],false,())]
 (g96 (p0.1,p0.2.1,()) (p1.1,p1.2.1,())).bind fun u3=>
 cond (!u3.1.1)
  ((AQx (p0.1,p0.2.1,()) (p1.1,p1.2.1,())).bind fun u4=>
  some ((((u4.1.1.1,(),()),0,false,()),()),(u4.2.1,())))
 ((g96 (p0.1,p0.2.1,()) (u1.1.1.1,x2,())).bind fun u5=>
 cond (!u5.1.1)
  ((AQx (p0.1,p0.2.1,()) (p1.1,p1.2.1,())).bind fun u6=>
  some ((((u6.1.1.1,(),()),0,false,()),()),(u6.2.1,())))
 (some ((((u1.1.1.1,(),()),(x2.length:Int),true,()),()),(x2,())))))else none) v:=by rcases ω with _|⟨_|_,_|⟨_|_,_⟩⟩<;>kernel_rfl
theorem AbA(n:Nat)(ω:List Bool)(v:uG.V):DO AcA AVh Tryz.f189 (L0 0 AQZ n) ω v=uG.un (Jh) v:=Ab3 Ft GW EO n ω v
def AXF:SQ:=mk Tryz.func189 uG AHF Jh [s89,s96,ARF] [] AQZ (hJ:= .nil) (he:=AbA Ae)
abbrev i31:BZ:=l4
abbrev o31:BZ:=ow
def s31:SQ:=mk Tryz.func31 i31 o31 Dq [s72,s73] [] []
def AYb:SQ:=mk Tryz.func159 ⟨[(0,.row Y10),(1,BI)],[]⟩ Fi Kw [] [] []
def AZy:SQ:=mk Tryz.func158 ⟨[(0,wv),(1,BI),(2,.c (.fn 159 []))],[]⟩ ow BQ [AYb] [] [⟨3,⟨[(0,wv),(1,BI),(2,.c (.fn 159 [])),(8,BI),(9,BI),(10,BI)],[]⟩,Aw⟩]
abbrev i67:BZ:=AA8
abbrev o67:BZ:=ow
def s67:SQ:=mk Tryz.func67 i67 o67 H6 [AZy] [] []
abbrev AVE:BZ:=⟨[(0,nt),(1,BI),(2,wv)],[MO]⟩
abbrev AcC:BZ:=⟨ALX,[PV,MO]⟩
def AVi:SQ:=APl (ρ:=Jf 190 0 258 259 34 45) (nm:= "slices.Insert[[]loop.example/g00178/impl.Sent,loop.example/g00178/impl.Sent]") (fv:=Tryz.f258) tOk (lp.ins ⟨by kernel_rfl,by kernel_rfl,by kernel_rfl,by kernel_rfl,by kernel_rfl,by kernel_rfl,by kernel_rfl,by kernel_rfl,by kernel_rfl,by kernel_rfl,by kernel_rfl,by kernel_rfl⟩ mx (by kernel_rfl) (by kernel_rfl) (by kernel_rfl) (by kernel_rfl) (by kernel_rfl) (by kernel_rfl) (by kernel_rfl)) (r:=Y10) rfl (by kernel_rfl) (by kernel_rfl) EJ (fun _=>rfl)
abbrev z8:BZ:=⟨[(0,KD),(1,BI),(2,.c (.v .str))],fh⟩
abbrev AN8:BZ:=⟨mT,[.mem [.ref 1,.v tI,.ref 2,.ref 3,.ref 4,.v tI,.ref 5,.ref 6,.ref 7,.ref 9,.v .bool],Du,Vz,Du,M_,Un,Sc,Ps,PV,MO]⟩
def AVB:QN:=⟨z8,AN8,(z8.un Ld)⟩
def AZJ:aW:=⟨T,RD (SP.l [s31,gl,s67,AXF,AVi]),CQ [(3,[0,1,2,3,4,5,6,7,8]),(8,[0,1,2,3,4,6,7,8])]⟩
def AOW:List (Lp AN8):=[]
theorem AaZ(g31:Int→Int→Option Ll)(g43:Int→Int→Int→Option Mz)(g67:ABN→Int→Option VQ)(AWv:ABL→ACI→List UInt8→Option aM)(AUf:Int→AAX→AAX→Option Is)(n:Nat)(ω:List Bool)(v:z8.V):DO ⟨T,RD [(31,⟨i31,o31,i31.un g31⟩),(43,⟨i43,o43,i43.un g43⟩),(67,⟨i67,o67,i67.un g67⟩),(189,⟨uG,AHF,uG.un AWv⟩),(190,⟨AVE,AcC,AVE.un AUf⟩)],CQ [(3,[0,1,2,3,4,5,6,7,8]),(8,[0,1,2,3,4,6,7,8])]⟩ AVB Tryz.f113 (L0 9 AOW n) ω v=z8.un (fun(p1:Int) (p2:ACD) (AF:Int) (AU:Int) (AK:Bool) (b1:AAH) (b2:AAh) (b3:AAH) (b4:AAo) (b5:AA1) (b6:ABB) (b7:AAs) (b8:AAX)=>
 (g43 p1 0 (AZ ((b5.length:Int)-1))).bind fun u2=>
 cond (!u2.1.1)
  (some ((2,()),(((),AF,(),(),(),AU,(),(),(),(),AK,()),b1,b2,b3,b4,b5,b6,b7,(),b8,())))
 (if(0:Int)≤p1∧p1<(b5.length:Int)then(
 (AWv (b1,AF,()) ((b5.getD (p1.toNat) (0,[],())).1,(b5.getD (p1.toNat) (0,[],())).2.1,()) p2).bind fun u3=>
 (g31 u3.1.1.1.1 u3.1.1.2.1).bind fun u4=>
 (g67 (b1,AF,b2,b3,b4,AU,b5,b6,b7,b8,AK,()) u4.1.1.1).bind fun u5=>
 cond (!u3.1.1.2.2.1)
  (some ((4,()),(((),AF,(),(),(),AU,(),(),(),(),AK,()),b1,b2,b3,b4,b5,b6,b7,(),b8,())))
 (cond (((b8.length:Int)==120))
  (some ((4,()),(((),AF,(),(),(),AU,(),(),(),(),AK,()),b1,b2,b3,b4,b5,b6,b7,(),b8,())))
 (cond (u5.1.1.2.1)
  (some ((4,()),(((),AF,(),(),(),AU,(),(),(),(),AK,()),b1,b2,b3,b4,b5,b6,b7,(),b8,())))
 (if(0:Int)≤p1∧p1<(b5.length:Int)then(
 (AUf u5.1.1.1 [(u4.1.1.1,p2,false,())] b8).bind fun u8=>
 some ((0,()),(((),AF,(),(),(),AU,(),(),(),(),AK,()),b1,b2,b3,b4,(b5.set (p1.toNat) (u3.1.1.1.1,u3.2.1,())),b6,b7,(),u8.2.2.1,())))else none))))else none)) v:=by rcases ω with _|⟨_|_,_⟩<;>kernel_rfl
theorem AYf(n:Nat)(ω:List Bool)(v:z8.V):DO AZJ AVB Tryz.f113 (L0 9 AOW n) ω v=z8.un (Ld) v:=AaZ Dq A3 H6 Jh EJ n ω v
def AYH:SQ:=mk Tryz.func113 z8 AN8 Ld [s31,gl,s67,AXF,AVi] [(3,[0,1,2,3,4,5,6,7,8]),(8,[0,1,2,3,4,6,7,8])] AOW (hJ:= .nil) (he:=AYf Ae)
def AD1:SQ:=mk Tryz.func193 AA8 Fi EP [gl,s93] [] []
abbrev ARO:BZ:=AMa
abbrev AUx:BZ:=fI
def AJv:SQ:=mk Tryz.func156 ARO AUx Iq [gl,s86] [] []
abbrev zO:BZ:=⟨[(0,xY),(1,BI),(2,BI)],[]⟩
abbrev ALH:BZ:=Fi
def AFS:SQ:=mk Tryz.func191 zO ALH Dj [AJv,zL,AD1] [] []
def AJh:SQ:=mk Tryz.func263 mG AD9 Dl [s88,s92] [] []
def Aai:SQ:=mk Tryz.func260 AFV tG T7 [s88,s92,s95,AKb,AJh] [(3,[0,1,2])] []
abbrev AEK:BZ:=Cf
abbrev APm:BZ:=Fi
def wz:SQ:=mk Tryz.func125 AEK APm J1 [] [] []
abbrev AQ2:BZ:=⟨[(0,KD),(1,BI),(2,.row Y1)],fh⟩
abbrev AVl:BZ:=pg
def ANt:SQ:=mk Tryz.func192 AQ2 AVl Lc [wz,Aai] [(1,[0,1,2,3,4,5,6,7,8,9]),(3,[0,1,3,4,5,6,7,8,9])] [] (he:=fun ω v=>by rcases ω with _|⟨_|_,_⟩<;>kernel_rfl)
abbrev ze:BZ:=AMr
abbrev ASG:BZ:=pg
def AUY:QN:=⟨ze,ASG,(ze.un I6)⟩
def Abr:aW:=⟨T,RD (SP.l [s31,gl,AFS,ANt]),CQ [(1,[0,1,2,3,4,5,6,7,8,9]),(3,[0,1,2,3,4,5,6,7,8,9]),(10,[9,10])]⟩
def AQm:List (Lp ASG):=[]
theorem AZQ(g31:Int→Int→Option Ll)(g43:Int→Int→Int→Option Mz)(uA:ABN→Int→Int→Option ID)(AUX:Int→ADG→Int→Int→Bool→List Int→AAh→List Int→AAo→AA1→ABB→AAs→AAX→Option Zn)(n:Nat)(ω:List Bool)(v:ze.V):DO ⟨T,RD [(31,⟨i31,o31,i31.un g31⟩),(43,⟨i43,o43,i43.un g43⟩),(191,⟨zO,ALH,zO.un uA⟩),(192,⟨AQ2,AVl,AQ2.un AUX⟩)],CQ [(1,[0,1,2,3,4,5,6,7,8,9]),(3,[0,1,2,3,4,5,6,7,8,9]),(10,[9,10])]⟩ AUY Tryz.f114 (L0 9 AQm n) ω v=ze.un (fun(p1:ACh) (AF:Int) (AU:Int) (AK:Bool) (b1:AAH) (b2:AAh) (b3:AAH) (b4:AAo) (b5:AA1) (b6:ABB) (b7:AAs) (b8:AAX)=>
 (g43 p1.2.1 0 (AZ ((b5.length:Int)-1))).bind fun u2=>
 cond (!u2.1.1)
  (some ((2,()),(((),AF,(),(),(),AU,(),(),(),(),AK,()),b1,b2,b3,b4,b5,b6,b7,b8,())))
 (if(0:Int)≤p1.2.1∧p1.2.1<(b5.length:Int)then(
 (g43 p1.2.2.1 1 (((b5.getD (p1.2.1.toNat) (0,[],())).2.1).length:Int)).bind fun u4=>
 cond (!u4.1.1)
  (some ((2,()),(((),AF,(),(),(),AU,(),(),(),(),AK,()),b1,b2,b3,b4,b5,b6,b7,b8,())))
 ((uA (b1,AF,b2,b3,b4,AU,b5,b6,b7,b8,AK,()) p1.2.2.2.1 ((b5.getD (p1.2.1.toNat) (0,[],())).1)).bind fun u6=>
 cond (u6.1.1 !=0)
  (some ((u6.1.1,()),(((),AF,(),(),(),AU,(),(),(),(),AK,()),b1,b2,b3,b4,b5,b6,b7,b8,())))
 ((g31 ((b5.getD (p1.2.1.toNat) (0,[],())).1) p1.2.2.1).bind fun u8=>
 if(0:Int)≤AZ (p1.2.2.1-1)∧AZ (p1.2.2.1-1)<(((b5.getD (p1.2.1.toNat) (0,[],())).2.1).length:Int)then(
 (AUX p1.2.2.2.1 (u8.1.1.1,0,false,((((b5.getD (p1.2.1.toNat) (0,[],())).2.1).getD ((AZ (p1.2.2.1-1)).toNat) ([],[],false,())).1),()) AF AU AK b1 b2 b3 b4 b5 b6 b7 b8).bind fun EY=>
 some ((EY.1.1,()),(((),EY.2.1.2.1,(),(),(),EY.2.1.2.2.2.2.2.1,(),(),(),(),EY.2.1.2.2.2.2.2.2.2.2.2.2.1,()),EY.2.2.1,EY.2.2.2.1,EY.2.2.2.2.1,EY.2.2.2.2.2.1,EY.2.2.2.2.2.2.1,EY.2.2.2.2.2.2.2.1,EY.2.2.2.2.2.2.2.2.1,EY.2.2.2.2.2.2.2.2.2.1,())))else none)))else none)) v:=by kernel_rfl
theorem Aa1(n:Nat)(ω:List Bool)(v:ze.V):DO Abr AUY Tryz.f114 (L0 9 AQm n) ω v=ze.un (I6) v:=AZQ Dq A3 Dj Lc n ω v
def Aaq:SQ:=mk Tryz.func114 ze ASG I6 [s31,gl,AFS,ANt] [(1,[0,1,2,3,4,5,6,7,8,9]),(3,[0,1,2,3,4,5,6,7,8,9]),(10,[9,10])] AQm (hJ:= .nil) (he:=Aa1 Ae)
def AZn:SQ:=mk Tryz.func240 ⟨[(0,.row Y1),(1,BI)],[]⟩ Fi Rg [] [] []
def AYK:SQ:=mk Tryz.func239 ⟨[(0,Xv),(1,BI),(2,.c (.fn 240 []))],[]⟩ ow CG [AZn] [] [⟨3,⟨[(0,Xv),(1,BI),(2,.c (.fn 240 [])),(8,BI),(9,BI),(10,BI)],[]⟩,A0⟩]
def AT_:SQ:=mk Tryz.func146 ADm ow SD [AYK] [] []
def Ab9:SQ:=APl (ρ:=Jf 296 0 307 308 92 96) (nm:= "slices.Insert[[]loop.example/g00178/impl.Entry,loop.example/g00178/impl.Entry]") (fv:=Tryz.f307) tOk (lp.ins ⟨by kernel_rfl,by kernel_rfl,by kernel_rfl,by kernel_rfl,by kernel_rfl,by kernel_rfl,by kernel_rfl,by kernel_rfl,by kernel_rfl,by kernel_rfl,by kernel_rfl,by kernel_rfl⟩ mx (by kernel_rfl) (by kernel_rfl) (by kernel_rfl) (by kernel_rfl) (by kernel_rfl) (by kernel_rfl) (by kernel_rfl)) (r:=Y1) rfl (by kernel_rfl) (by kernel_rfl) Dx (fun _=>rfl)
def AXP:SQ:=mk Tryz.func297 AMW ANM Q1 [] [] []
def ASq:SQ:=mk Tryz.func264 ⟨[(0,nt),(1,.row Y1)],tK⟩ ANI WS [AT_,Ab9,AXP] [(4,[1])] []
def AUR:SQ:=mk Tryz.func197 iN AAR Mj [gl,s88,s92,AJh,ASq] [] [⟨6,⟨[(1,BI),(2,KD),(4,Zg),(6,zy),(23,Xv),(24,BI),(25,BI)],[AP8,AHi,Mq,Mq,AST,.sl 1 Y1,Mq]⟩,Jc⟩]
def AUU:SQ:=mk Tryz.func194 mG AAR Od [AUR] [] []
abbrev i60:BZ:=iN
abbrev o60:BZ:=xe
def s60:SQ:=mk Tryz.func60 i60 o60 GS [s92,AT_] [] []
def Abs:SQ:=mk Tryz.func309 Fi Cf cmp_isNaN_int [] [] []
def AaP:SQ:=mk Tryz.func298 l4 Cf cmp_Less_int [Abs] [] []
def AYg:SQ:=mk Tryz.func299 Fi Cf Oy [] [] []
def AYx:SQ:=mk Tryz.func265 l8 ow GN [AaP,AYg] [] [⟨3,⟨[(0,az),(1,BI),(6,BI),(7,BI),(8,BI)],[]⟩,Dm⟩]
def AZw:SQ:=APl (ρ:=Jf 266 0 300 301 24 3) (nm:= "slices.Insert[[]int,int]") (fv:=Tryz.f300) tOk (lp.ins ⟨by kernel_rfl,by kernel_rfl,by kernel_rfl,by kernel_rfl,by kernel_rfl,by kernel_rfl,by kernel_rfl,by kernel_rfl,by kernel_rfl,by kernel_rfl,by kernel_rfl,by kernel_rfl⟩ mx (by kernel_rfl) (by kernel_rfl) (by kernel_rfl) (by kernel_rfl) (by kernel_rfl) (by kernel_rfl) (by kernel_rfl)) (r:=tI) rfl (by kernel_rfl) (by kernel_rfl) Jn (fun _=>rfl)
def AHM:SQ:=mk Tryz.func198 l8 AEg Kk [s86,AYx,AZw] [] []
def Abp:SQ:=mk Tryz.func261 AM9 AMp Sa [s32,gl,s89,s96,AHM,ARF] [(6,[0,1,2,4])] []
def AbB:SQ:=mk Tryz.func195 AA7 AMY NL [s31,s60,s67,Abp] [(6,[0,1,2,3,4,6,7,8,9])] [⟨1,ADq,C3⟩]
abbrev AET:BZ:=AMV
abbrev AQT:BZ:=xe
def AQ9:SQ:=mk Tryz.func207 AET AQT Je [s31] [] [⟨5,⟨[(2,KD),(4,Zg),(6,BI),(33,Xv),(34,BI),(35,BI)],[yl,ACt]⟩,KT⟩]
def ARP:SQ:=mk Tryz.func269 wW wI Es [s90,s98] [] []
abbrev AFm:BZ:=ANJ
abbrev AQv:BZ:=AMD
def AUA:SQ:=mk Tryz.func262 AFm AQv O_ [gl,s90,s98,AHM,ARP] [(4,[0,1,2,3,4,6])] []
abbrev i196:BZ:=AA7
abbrev AO6:BZ:=AMY
def c196:QN:=⟨i196,AO6,(i196.un K0)⟩
def AXG:aW:=⟨T,RD (SP.l [s60,AQ9,AUA]),CQ [(4,[0,1,2,3,4,5,6,7,8,9]),(6,[0,1,2,3,4,5,7,8,9,10])]⟩
def AE6:List (Lp AO6):=[⟨1,ADq,BU⟩]
abbrev j6:BZ:=ADq
theorem AQp(g60:ACc→Int→Option Mw)(AKx:ABZ→Int→Option I8)(AI9:ABL→ABZ→Int→Int→Option W7)(n:Nat)(v:j6.V)(ω:List Bool):HZ ⟨T,RD [(60,⟨i60,o60,i60.un g60⟩),(207,⟨AET,AQT,AET.un AKx⟩),(262,⟨AFm,AQv,AFm.un AI9⟩)],CQ [(4,[0,1,2,3,4,5,6,7,8,9]),(6,[0,1,2,3,4,5,7,8,9,10])]⟩ c196 Tryz.f196 (L0 9 AE6 n) 1 ω (j6.st 81 v)=j6.un (fun(t1:Int) (t2:Int) (t6:Int) (AF:Int) (AU:Int) (AK:Bool) (b1:AAH) (b2:AAh) (b3:AAH) (b4:AAo) (b5:AA1) (b6:ABB) (b7:AAs) (b8:AAX)=>
 if(0:Int)≤t1∧t1<(b6.length:Int)then(
 cond (decide (t6≤(((b6.getD (t1.toNat) (0,0,[],[],false,[],())).2.2.2.2.2.1).length:Int)))
  (if(0:Int)≤t1∧t1<(b6.length:Int)then(
  (AKx ((b6.getD (t1.toNat) (0,0,[],[],false,[],())).1,(b6.getD (t1.toNat) (0,0,[],[],false,[],())).2.1,(b6.getD (t1.toNat) (0,0,[],[],false,[],())).2.2.1,(b6.getD (t1.toNat) (0,0,[],[],false,[],())).2.2.2.1,(b6.getD (t1.toNat) (0,0,[],[],false,[],())).2.2.2.2.1,(b6.getD (t1.toNat) (0,0,[],[],false,[],())).2.2.2.2.2.1,()) t6).bind fun u2=>
  if(0:Int)≤t2∧t2<(b2.length:Int)then(
  (g60 ((b2.getD (t2.toNat) ([],[],0,())).1,(b2.getD (t2.toNat) ([],[],0,())).2.1,(b2.getD (t2.toNat) ([],[],0,())).2.2.1,()) u2.1.1.1.1).bind fun u3=>
  cond (u2.1.1.2.1)
   (cond (u3.1.1.2.1)
    (cond (((u3.1.1.1.1==u2.1.1.1.1)&&((u3.1.1.1.2.1==u2.1.1.1.2.1)&&((u3.1.1.1.2.2.1==u2.1.1.1.2.2.1)&&((u3.1.1.1.2.2.2.1==u2.1.1.1.2.2.2.1)&&true)))))
     (if(0:Int)≤t1∧t1<(b6.length:Int)then(
     (AI9 (b1,AF,()) ((b6.getD (t1.toNat) (0,0,[],[],false,[],())).1,(b6.getD (t1.toNat) (0,0,[],[],false,[],())).2.1,(b6.getD (t1.toNat) (0,0,[],[],false,[],())).2.2.1,(b6.getD (t1.toNat) (0,0,[],[],false,[],())).2.2.2.1,(b6.getD (t1.toNat) (0,0,[],[],false,[],())).2.2.2.2.1,(b6.getD (t1.toNat) (0,0,[],[],false,[],())).2.2.2.2.2.1,()) t6 t2).bind fun u5=>
     if(0:Int)≤t1∧t1<(b6.length:Int)then(
     (BU n) t1 t2 (AZ (t6+1)) AF AU AK b1 b2 b3 b4 b5 (b6.set (t1.toNat) (u5.1.1.1.1,u5.1.1.1.2.1,u5.2.1,u5.2.2.1,u5.1.1.1.2.2.2.2.1,u5.2.2.2.1,())) b7 b8)else none)else none)
    ((BU n) t1 t2 (AZ (t6+1)) AF AU AK b1 b2 b3 b4 b5 b6 b7 b8))
   ((BU n) t1 t2 (AZ (t6+1)) AF AU AK b1 b2 b3 b4 b5 b6 b7 b8))
  ((BU n) t1 t2 (AZ (t6+1)) AF AU AK b1 b2 b3 b4 b5 b6 b7 b8))else none)else none)
 (some (((()),()),(((),AF,(),(),(),AU,(),(),(),(),AK,()),b1,b2,b3,b4,b5,b6,b7,b8,()))))else none) v:=by rcases ω with _|⟨_|_,_⟩<;>kernel_rfl
theorem ANh(n:Nat)(v:j6.V)(ω:List Bool):HZ AXG c196 Tryz.f196 (L0 9 AE6 n) 1 ω (j6.st 81 v)=j6.un (HA (BU n)) v:=AQp GS Je O_ n v ω
theorem AY4(g60:ACc→Int→Option Mw)(AKx:ABZ→Int→Option I8)(AI9:ABL→ABZ→Int→Int→Option W7)(n:Nat)(ω:List Bool)(v:i196.V):DO ⟨T,RD [(60,⟨i60,o60,i60.un g60⟩),(207,⟨AET,AQT,AET.un AKx⟩),(262,⟨AFm,AQv,AFm.un AI9⟩)],CQ [(4,[0,1,2,3,4,5,6,7,8,9]),(6,[0,1,2,3,4,5,7,8,9,10])]⟩ c196 Tryz.f196 (L0 9 AE6 n) ω v=i196.un (fun(p1:Int) (p2:Int) (AF:Int) (AU:Int) (AK:Bool) (b1:AAH) (b2:AAh) (b3:AAH) (b4:AAo) (b5:AA1) (b6:ABB) (b7:AAs) (b8:AAX)=>
 (BU n) p1 p2 1 AF AU AK b1 b2 b3 b4 b5 b6 b7 b8) v:=by kernel_rfl
theorem Abk(n:Nat)(ω:List Bool)(v:i196.V):DO AXG c196 Tryz.f196 (L0 9 AE6 n) ω v=i196.un (Ju (BU n)) v:=AY4 GS Je O_ n ω v
def AZk:SQ:=mk Tryz.func196 i196 AO6 K0 [s60,AQ9,AUA] [(4,[0,1,2,3,4,5,6,7,8,9]),(6,[0,1,2,3,4,5,7,8,9,10])] AE6 (hJ:= .cons (fun _=>rfl) ANh (.nil)) (he:=Abk Ae)
def AbK:SQ:=mk Tryz.func115 sY pg QK [AJv,zL,AD1,AUU,AbB,AZk] [(7,[0,1,3,4,5,6,7,8,11]),(11,[0,1,2,3,4,5,6,7,8,9,10]),(17,[0,1,2,3,4,5,6,7,8,9])] [⟨9,⟨[(0,KD),(1,BI),(6,eu),(41,.c (.ref 5)),(42,BI),(43,BI)],[ACg,Du,Vz,Du,M_,Un,Sc,Ps,MO,.mem [.any,.any,.v tI]]⟩,Ez⟩,⟨15,⟨[(0,KD),(1,BI),(72,.c (.ref 6)),(73,BI),(74,BI)],fh⟩,FP⟩]
def Abd:SQ:=mk Tryz.func116 AA7 pg On [wz,AD1,AUR] [(5,[0,1,3,4,5,6,7,8,11])] []
def AWH:SQ:=mk Tryz.func248 ⟨[(0,BI),(1,.c (.mr (.cons tI .unit)))],[]⟩ Cf MP [] [] []
def ANs:SQ:=mk Tryz.func294 ⟨[(0,az),(1,ALB)],[]⟩ Fi D1 [AWH] [] [⟨2,⟨[(0,az),(1,ALB),(7,BI),(8,BI)],[]⟩,Bw⟩]
def ARd:SQ:=mk Tryz.func247 ⟨[(0,nt),(1,ALB)],[Du]⟩ AMb Cp [AWH,ANs] [] [⟨5,⟨[(0,nt),(1,ALB),(5,BI),(6,BI)],[Du]⟩,Br⟩]
abbrev i157:BZ:=l8
abbrev ATz:BZ:=AEg
def AIe:SQ:=mk Tryz.func157 i157 ATz HH [s86,ARd] [] []
def Aa_:SQ:=mk Tryz.func199 AMs AMp Ng [s89,s96,AIe] [(8,[0,1,2,4])] [⟨5,⟨[(2,BI),(6,KD),(8,yh),(19,AG0),(20,BI),(21,BI)],[.mem [.v tI,.ref 1],.sl 9 Y5,.mem [.v tI,.ref 3],.sl 2 Y5]⟩,Hj⟩]
def Abe:SQ:=mk Tryz.func200 AMI AMD P5 [s90,s98,AIe] [(7,[0,1,2,3,4,5,6])] [⟨5,⟨[(2,BI),(6,KD),(8,zy),(19,AGv),(20,BI),(21,BI)],[AVW,Fv,Mq,oK,AUd,Fv,Mq,.sl 2 (.sl tI)]⟩,JY⟩]
def AbI:SQ:=mk Tryz.func117 sY ⟨mT,[AOt,Du,Vz,PV,M_,Un,Sc,Ps,MO,Du]⟩ QB [s32,AD1,AHM,Aa_,Abe] [(9,[0,1,2,3,4,6,7,8,9,10]),(14,[0,1,2,3,4,5,7,8,9,10]),(16,[1,2,3,4,5,6,7,8,9])] [⟨7,⟨[(0,KD),(1,BI),(35,.c (.ref 5)),(36,BI),(37,BI)],AMd⟩,HU⟩,⟨12,⟨[(0,KD),(1,BI),(62,.c (.ref 6)),(63,BI),(64,BI)],AMd⟩,Gx⟩] (hJ:= .cons (fun _=>rfl) (fun n v ω=>by kernel_rfl) (.cons (fun _=>rfl) (fun n v ω=>by rcases ω with _|⟨_|_,_⟩<;>kernel_rfl) (.nil)))
def Aa8:SQ:=mk Tryz.func267 lk Cf X7 [s32,s74] [] []
def AYv:SQ:=mk Tryz.func268 ⟨[(0,xL)],[]⟩ ⟨AB8,tK⟩ gg [s92,ASq] [] [⟨3,⟨[(3,nt),(9,xL),(10,BI),(11,BI)],tK⟩,M5⟩,⟨8,⟨[(3,nt),(9,xL),(10,BI),(11,BI),(19,Xv),(20,BI),(21,BI)],tK⟩,M6⟩]
abbrev i201:BZ:=ANO
abbrev AVq:BZ:=⟨AV8,[Z1,.sl 1 Y1,Mq]⟩
def AW8:SQ:=mk Tryz.func201 i201 AVq Zm [s92,zL,Aa8,AYv] [] [⟨5,⟨[(2,az),(4,BI),(10,Zg),(12,.c (.ref 4)),(36,nt),(37,BI),(38,BI)],[Z1,AHi,Mq,Mq,Z1]⟩,Ru⟩]
abbrev yT:BZ:=sY
abbrev AR3:BZ:=⟨mT,[AOt,Du,Z1,PV,M_,Un,Sc,Ps,MO,Du]⟩
def AWP:QN:=⟨yT,AR3,(yT.un J5)⟩
def AZL:aW:=⟨T,RD (SP.l [gl,s93,AIe,AW8]),CQ [(3,[0,1,3,4,5,6,7,8]),(6,[0,1,3,4,5,6,7,8,9])]⟩
def ANq:List (Lp AR3):=[]
theorem AYQ(g43:Int→Int→Int→Option Mz)(g93:ABN→Int→Option Kx)(AVm:List Int→Int→Option XA)(AU9:ABL→List Int→Int→Int→AAh→Option UQ)(n:Nat)(ω:List Bool)(v:yT.V):DO ⟨T,RD [(43,⟨i43,o43,i43.un g43⟩),(93,⟨i93,o93,i93.un g93⟩),(157,⟨i157,ATz,i157.un AVm⟩),(201,⟨i201,AVq,i201.un AU9⟩)],CQ [(3,[0,1,3,4,5,6,7,8]),(6,[0,1,3,4,5,6,7,8,9])]⟩ AWP Tryz.f118 (L0 9 ANq n) ω v=yT.un (fun(p1:Int) (AF:Int) (AU:Int) (AK:Bool) (b1:AAH) (b2:AAh) (b3:AAH) (b4:AAo) (b5:AA1) (b6:ABB) (b7:AAs) (b8:AAX)=>
 (g43 p1 0 (AZ ((b2.length:Int)-1))).bind fun u2=>
 cond (!u2.1.1)
  (some ((2,()),(((),AF,(),(),(),AU,(),(),(),(),AK,()),b1,b2,(),b4,b5,b6,b7,b8,b3,())))
 ((g93 (b1,AF,b2,b3,b4,AU,b5,b6,b7,b8,AK,()) p1).bind fun u3=>
 cond (!u3.1.1)
  (some ((2,()),(((),AF,(),(),(),AU,(),(),(),(),AK,()),b1,b2,(),b4,b5,b6,b7,b8,b3,())))
 (let x4:Int:=AZ ((b4.length:Int)-1)
 (AU9 (b1,AF,()) b3 p1 (if 0>x4 then 0 else x4) b2).bind fun u6=>
 cond (!u6.1.1.2.1)
  (some ((4,()),(((),AF,(),(),(),AU,(),(),(),(),AK,()),b1,u6.2.1,(),b4,b5,b6,b7,b8,b3,())))
 (if(0:Int)≤p1∧p1<(u6.2.1.length:Int)then(
 (AVm b3 p1).bind fun u8=>
 some ((0,()),(((),AF,(),(),(),AU,(),(),(),(),AK,()),b1,(u6.2.1.set (p1.toNat) (u6.2.2.1,u6.2.2.2.1,u6.1.1.1.2.2.1,())),(),b4,b5,b6,b7,b8,u8.2.1,())))else none)))) v:=by rcases ω with _|⟨_|_,_⟩<;>kernel_rfl
theorem AaE(n:Nat)(ω:List Bool)(v:yT.V):DO AZL AWP Tryz.f118 (L0 9 ANq n) ω v=yT.un (J5) v:=AYQ A3 C6 HH Zm n ω v
def Abq:SQ:=mk Tryz.func118 yT AR3 J5 [gl,s93,AIe,AW8] [(3,[0,1,3,4,5,6,7,8]),(6,[0,1,3,4,5,6,7,8,9])] ANq (hJ:= .nil) (he:=AaE Ae)
def AZH:SQ:=mk Tryz.func202 l4 wI ix [] [] []
def AZK:SQ:=mk Tryz.func119 AE5 ⟨mT,[.mem [.ref 1,.v tI,.ref 2,.ref 3,.ref 4,.v tI,.ref 5,.ref 9,.ref 7,.ref 8,.v .bool],Du,Vz,Du,M_,Un,PV,Ps,MO,Sc]⟩ P7 [s36,AZH] [(1,[0,1,2,3,4,5,6,7,8])] []
abbrev i203:BZ:=iN
abbrev AO5:BZ:=AAR
def AUn:SQ:=mk Tryz.func203 i203 AO5 N5 [gl,AUU,AJh] [] []
abbrev AGI:BZ:=iN
abbrev AQG:BZ:=xt
def AU8:SQ:=mk Tryz.func205 AGI AQG Pk [s92,s95] [] [⟨5,⟨[(1,BI),(5,nt),(14,Xv),(15,BI),(16,BI)],[Mq]⟩,LV⟩]
abbrev ADx:BZ:=AMq
abbrev ASh:BZ:=⟨APc,[Du,.sl 1 Y1,oK]⟩
def AUS:SQ:=mk Tryz.func204 ADx ASh Px [s90,s95,s98,AHM,ASq,ARP] [(8,[0,1,2,3,4,5,6,7,8,9,10])] [⟨6,⟨[(4,KD),(5,Zg),(8,yh),(10,.c (.ptr 6 0)),(31,Xv),(32,BI),(33,BI)],[tu,yl,AWg,Fv,Mq,oK,AUb,Du,.sl 1 Y1,oK]⟩,Lk⟩]
end
end Go.Proofs.YtebiojjohcpanaaGreat.Wk
