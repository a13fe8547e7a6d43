/- Each function computes what was printed: by the kernel. -/
import Derived.Test.YtdmpcbfbjigonaaGreatDoorG0
import Derived.Test.YtdmpcbfbjigonaaGreatDoorProg
import Derived.KernelRfl
import Derived.Shelf.Strconv.AtoiAll
import Derived.Lib.AtoiOr
import Derived.Lib.AtoiErrMem
import Derived.Lib.AtoiAllCases
import Derived.WalkKit
import Derived.BigCall
set_option linter.unusedVariables false
set_option linter.unusedSimpArgs false
set_option linter.unusedSectionVars false
namespace Go.Proofs.YtdmpcbfbjigonaaGreatDoor.Wk
open Go Go.Fw Go.M Go.Proofs
noncomputable section
abbrev tI:Ty:= .int .i64
abbrev tU:Ty:= .int .u8
abbrev Y0:Ty:=(.cons tI (.cons tI (.cons tI (.cons tI (.cons .str .unit)))))
abbrev Y1:Ty:=(.cons (.sl tI) (.cons tI .unit))
abbrev Y2:Ty:=(.cons tI (.cons tI (.cons .bool (.cons .str .unit))))
abbrev Y3:Ty:=(.cons (.sl Y2) (.cons (.sl Y2) (.cons tI .unit)))
abbrev Y4:Ty:=(.cons (.sl tI) (.cons .bool (.cons tI .unit)))
abbrev Y5:Ty:=(.cons (.sl Y4) (.cons tI .unit))
abbrev Y6:Ty:=(.cons .str (.cons (.sl tI) (.cons .bool .unit)))
abbrev Y7:Ty:=(.cons tI (.cons (.sl Y6) .unit))
abbrev Y8:Ty:=(.cons tI (.cons tI (.cons (.sl tI) (.cons (.sl Y2) (.cons .bool (.cons (.sl (.sl tI)) .unit))))))
abbrev Y9:Ty:=(.cons tI (.cons tI (.cons .str .unit)))
abbrev mA:Ty:=(.cons tI (.cons tI (.cons (.sl Y9) .unit)))
abbrev Y11:Ty:=(.cons tI (.cons .str (.cons .bool .unit)))
abbrev Y12:Ty:=(.cons (.sl tI) (.cons tI (.cons (.sl Y3) (.cons (.sl tI) (.cons (.sl Y4) (.cons tI (.cons (.sl Y7) (.cons (.sl Y8) (.cons (.sl mA) (.cons (.sl Y11) (.cons .bool .unit)))))))))))
abbrev Y13:Ty:=(.cons (.sl tU) (.cons tI (.cons tI .unit)))
abbrev Y14:Ty:=(.cons tI (.cons .bool (.cons tI (.cons tI (.cons .bool (.cons .str .unit))))))
def T:F9:=[(3,⟨1,8,.int .i64,some tI⟩),
 (4,⟨1,1,.bool,some .bool⟩),
 (5,⟨1,1,.int .u8,some tU⟩),
 (9,⟨1,16,.str,some .str⟩),
 (22,⟨1,24,.sl 5,some (.sl tU)⟩),
 (25,⟨5,48,.st [(0,3),(1,3),(2,3),(3,3),(4,9)],some Y0⟩),
 (33,⟨1,8,.ptr 77,none⟩),
 (35,⟨1,24,.sl 3,some (.sl tI)⟩),
 (37,⟨2,32,.st [(0,35),(1,3)],some Y1⟩),
 (38,⟨1,24,.sl 131,some (.sl Y3)⟩),
 (39,⟨1,24,.sl 108,some (.sl Y4)⟩),
 (41,⟨2,32,.st [(0,39),(1,3)],some Y5⟩),
 (42,⟨1,24,.sl 116,some (.sl Y7)⟩),
 (43,⟨1,24,.sl 112,some (.sl Y8)⟩),
 (44,⟨1,24,.sl 102,some (.sl mA)⟩),
 (45,⟨1,24,.sl 88,some (.sl Y11)⟩),
 (47,⟨11,216,.st [(0,37),(2,38),(3,35),(4,41),(6,42),(7,43),(8,44),(9,45),(10,4)],some Y12⟩),
 (48,⟨1,24,.sl 25,some (.sl Y0)⟩),
 (56,⟨1,24,.sl 9,some (.sl .str)⟩),
 (77,⟨3,40,.st [(0,22),(1,3),(2,3)],some Y13⟩),
 (88,⟨3,32,.st [(0,3),(1,9),(2,4)],some Y11⟩),
 (92,⟨1,8,.ptr 25,none⟩),
 (100,⟨1,24,.sl 201,some (.sl Y9)⟩),
 (102,⟨3,40,.st [(0,3),(1,3),(2,100)],some mA⟩),
 (108,⟨3,40,.st [(0,35),(1,4),(2,3)],some Y4⟩),
 (109,⟨1,24,.sl 155,some (.sl Y2)⟩),
 (110,⟨1,24,.sl 35,some (.sl (.sl tI))⟩),
 (112,⟨6,96,.st [(0,3),(1,3),(2,35),(3,109),(4,4),(5,110)],some Y8⟩),
 (114,⟨1,24,.sl 153,some (.sl Y6)⟩),
 (116,⟨2,32,.st [(0,3),(1,114)],some Y7⟩),
 (125,⟨1,24,.sl 4,some (.sl .bool)⟩),
 (131,⟨3,56,.st [(0,109),(1,109),(2,3)],some Y3⟩),
 (153,⟨3,48,.st [(0,9),(1,35),(2,4)],some Y6⟩),
 (155,⟨4,40,.st [(0,3),(1,3),(2,4),(3,9)],some Y2⟩),
 (174,⟨1,24,.sl 205,some (.sl Y14)⟩),
 (201,⟨3,32,.st [(0,3),(1,3),(2,9)],some Y9⟩),
 (205,⟨6,56,.st [(0,3),(1,4),(2,155)],some Y14⟩)]
theorem tOk:C2 Tryz.prog T:=aC (by kernel_rfl)
theorem mx:Tryz.prog.follows .mixedOrders=true:=by kernel_rfl
abbrev SQ:=SP Tryz.prog
def mk{f:Nat}{fn:Func}(hf:Tryz.prog.funcs[f]? =some fn)(i o:CI)(g:i.Cu (Option o.V))(l:List SQ)(h:List ACa)(L:List (Lp o))
  (hJ:OW ⟨T,UW (SP.l l),EN h⟩ ⟨i,o,i.un g⟩ fn (Pd i.Dk.length L) L:=by
   repeat refine OW.cons (fun _=>rfl) (fun _ _ _=>by kernel_rfl) ?_
   exact OW.nil)
  (he:∀ω v,HJ ⟨T,UW (SP.l l),EN h⟩ ⟨i,o,i.un g⟩ fn (Pd i.Dk.length L Ar) ω v=i.un g v:=by intro ω v;kernel_rfl)
  (hL:VS fn=Lp.ls L:=by kernel_rfl) (hd:decide (Lp.ls L).Nodup=true:=by kernel_rfl) (hc:Vg fn ⟨i,o,i.un g⟩=true:=by kernel_rfl):SQ:=
 mkP tOk mx hf i o g l h L Ar hL hd hc hJ he
abbrev oD:XP:= .c (.v .bool)
abbrev M8:XP:= .c (.ptr 0 0)
abbrev CC:XP:= .c (.v tI)
abbrev UR:XP:= .c (.ptr 1 0)
abbrev an:XP:= .row Y1
abbrev Zj:XP:= .c (.sl false tI)
abbrev wT:XP:= .c (.ref 1)
abbrev ug:XP:= .c (.ref 0)
abbrev xP8:XP:= .c (.ref 2)
abbrev xP9:XP:= .c (.sl false .str)
abbrev S9:XP:= .c (.v .str)
abbrev dw:XP:= .c (.sl false Y2)
abbrev xB:XP:= .agg [.ref 0,.v tI,.ref 1,.ref 2,.ref 3,.v tI,.ref 4,.ref 5,.ref 6,.ref 7,.v .bool]
abbrev V9:XP:= .c (.ptr 10 0)
abbrev Uw:XP:= .c (.ptr 8 0)
abbrev WT:XP:= .c (.ptr 9 0)
abbrev X6:XP:= .c (.ptr 18 0)
abbrev th:XP:= .c (.ptr 4 0)
abbrev Wi:XP:= .c (.ptr 19 0)
abbrev ly:XP:= .c (.sl false Y14)
abbrev eW:BP:= .mem [.sl true tU,.v tI,.v tI]
abbrev Dd:BP:= .sl 9 tI
abbrev eV:BP:= .mem [.sl false tI,.v tI]
abbrev Sa:BP:= .sl 9 Y3
abbrev PA:BP:= .sl 9 Y4
abbrev Sf:BP:= .sl 9 Y7
abbrev Se:BP:= .sl 9 Y8
abbrev Sd:BP:= .sl 9 mA
abbrev RV:BP:= .sl 9 Y11
abbrev z8:BP:= .mem [.sl false Y4,.v tI]
abbrev q8:BP:= .mem [.sl false tI,.v tI,.sl false Y3,.sl false tI,.sl false Y4,.v tI,.sl false Y7,.sl false Y8,.sl false mA,.sl false Y11,.v .bool]
abbrev Xr:BP:= .mem [.v tI,.v tI,.v tI,.v tI,.v .str]
abbrev tD:BP:= .mem [.v tI,.v tI,.sl false tI,.sl false Y2,.v .bool,.sl false (.sl tI)]
abbrev yE:BP:= .mem [.v tI,.sl false Y6]
abbrev Mc:BP:= .sl 9 Y2
abbrev iN:BP:= .sl 9 (.sl tI)
abbrev yh:BP:= .mem [.ref 2,.v tI,.ref 3,.ref 4,.ref 5,.v tI,.ref 6,.ref 7,.ref 8,.ref 9,.v .bool]
abbrev qU:BP:= .mem [.ref 11,.v tI,.ref 12,.ref 13,.ref 14,.v tI,.ref 15,.ref 16,.ref 17,.ref 18,.v .bool]
abbrev FG:BP:= .sl 1 tI
abbrev Xt:BP:= .sl 2 Y3
abbrev Nj:BP:= .sl 2 Y4
abbrev aS:BP:= .sl 3 Y7
abbrev T2:BP:= .sl 3 Y8
abbrev Nr:BP:= .sl 2 mA
abbrev N_:BP:= .sl 1 Y11
abbrev Jy:BP:= .gone
abbrev bI:BP:= .mem [.ref 0,.v tI,.ref 1,.ref 2,.ref 3,.v tI,.ref 4,.ref 5,.ref 6,.ref 7,.v .bool]
abbrev cj:BP:= .mem [.ref 10,.v tI,.ref 11,.ref 12,.ref 13,.v tI,.ref 14,.ref 15,.ref 16,.ref 17,.v .bool]
abbrev ADU:BP:= .mem [.v tI,.v .str,.v .bool]
abbrev wj:BP:= .mem [.v tI,.v tI,.v .bool,.v .str]
abbrev ACg:BP:= .mem [.sl false Y2,.sl false Y2,.v tI]
abbrev T_:BP:= .sl 1 Y3
abbrev VN:BP:= .sl 1 Y7
abbrev iJ:BP:= .mem [.sl true Y2,.sl true Y2,.v tI]
abbrev ot:List (Nat×XP):=[(1,M8),(3,CC)]
abbrev qt:List (Nat×XP):=[(0,ug)]
abbrev ABn:List (Nat×XP):=[(0,.agg [.v tI,.v tI,.v tI,.v tI,.v .str])]
abbrev ACO:List (Nat×XP):=[(2,M8),(3,UR),(5,CC),(6,CC)]
abbrev AC4:List (Nat×XP):=[(1,M8),(2,UR),(3,.c (.ptr 3 0)),(4,CC)]
abbrev zD:List (Nat×XP):=[(0,xB)]
abbrev ACL:List (Nat×XP):=[(0,.Hd [.inr [.ref 0,.v tI,.ref 1,.ref 2,.ref 3,.v tI,.ref 4,.ref 5,.ref 6,.ref 7,.v .bool],.inl (.v tI)])]
abbrev AB1:List (Nat×XP):=[(0,.Hd [.inr [.ref 0,.v tI,.ref 1,.ref 8,.ref 3,.v tI,.ref 4,.ref 5,.ref 6,.ref 7,.v .bool],.inl (.v tI)])]
abbrev YK:List BP:=[eW]
abbrev ACX:List BP:=[eW,Dd]
abbrev AC8:List BP:=[Dd,Sa,Dd,PA,Sf,Se,Sd,RV]
abbrev ABf:List BP:=[eW,eV,Dd]
abbrev rC:List BP:=[q8]
abbrev AB3:List BP:=[eV,tD]
abbrev ABi:List BP:=[Dd,Mc,iN]
abbrev yL:List BP:=[tD,.mem [.v tI,.v tI,.ref 2,.ref 3,.v .bool,.ref 4],Dd,Mc,iN,.mem [.v tI,.v tI,.ref 6,.ref 7,.v .bool,.ref 8],Dd,Mc,iN]
abbrev eP:List BP:=[q8,yh,Dd,Sa,Dd,PA,Sf,Se,Sd,RV,qU,Dd,Sa,Dd,PA,Sf,Se,Sd,RV]
abbrev yH:List BP:=[FG,Xt,FG,Nj,aS,T2,Nr,N_]
abbrev ADq:List BP:=[FG,T_,FG,Nj,VN,.sl 1 Y8,Nr,N_]
abbrev rG:List BP:=[FG,T_,FG,Nj,VN,T2,Nr,N_,bI,cj,Dd,Sa,Dd,PA,Sf,Se,Sd,RV,iJ,.mem [.v tI,.sl true Y6]]
abbrev ACV:List BP:=[FG,Xt,FG,Nj,aS,T2,Nr,N_,.mem [.ref 0,.v tI,.ref 1,.ref 9,.ref 3,.v tI,.ref 4,.ref 5,.ref 6,.ref 7,.v .bool],Dd,Xr,.mem [.ref 12,.v tI,.ref 13,.ref 14,.ref 15,.v tI,.ref 16,.ref 17,.ref 18,.ref 19,.v .bool],Dd,Sa,Dd,PA,Sf,Se,Sd,RV]
abbrev ADn:List BP:=[T_,.mem [.ref 2,.ref 3,.v tI],Mc,Mc,.mem [.ref 5,.ref 6,.v tI],Mc,Mc,T_]
abbrev ACd:List BP:=[eW,yh,Dd,Sa,Dd,PA,Sf,Se,Sd,RV,qU,Dd,Sa,Dd,PA,Sf,Se,Sd,RV,.mem [.ref 20,.v tI],Dd,Dd]
abbrev ADk:List BP:=[Xr,Xr,.sl 9 tU]
abbrev zt:List BP:=[Xr]
abbrev Iz:CI:=⟨[(0,oD)],[]⟩
abbrev qG:CI:=⟨[(0,.c (.sl true tU))],[]⟩
abbrev s_:CI:=⟨[(0,M8)],YK⟩
abbrev py:CI:=⟨[(0,CC)],YK⟩
abbrev AAK:CI:=⟨[(0,M8),(1,CC)],YK⟩
abbrev ADZ:CI:=⟨[(0,CC),(1,CC),(2,CC)],[]⟩
abbrev rO:CI:=⟨[(0,an),(1,Zj)],[]⟩
abbrev Kg:CI:=⟨[(0,CC)],[]⟩
abbrev zz:CI:=⟨[(0,.agg [.v tI,.v tI,.ref 0])],[.sl 9 Y9]⟩
abbrev kI:CI:=⟨[(0,CC),(1,CC)],[]⟩
abbrev AC5:CI:=⟨[(0,Zj),(1,CC)],[]⟩
abbrev kg:CI:=⟨qt,[Dd]⟩
abbrev ADV:CI:=⟨[(0,M8),(1,an)],YK⟩
abbrev ABl:CI:=⟨[(0,wT)],ACX⟩
abbrev pc:CI:=⟨[(0,M8),(1,.row Y12)],YK⟩
abbrev tf:CI:=⟨ABn,YK⟩
abbrev yM:CI:=⟨[(0,S9)],YK⟩
abbrev ACU:CI:=⟨[(0,dw),(1,CC)],[]⟩
abbrev r9:CI:=⟨[(0,.row Y3)],[]⟩
abbrev nc:CI:=⟨[(0,.row Y12)],[]⟩
abbrev ABw:CI:=⟨ot,rC⟩
abbrev vN:CI:=⟨[(0,an),(1,.row Y8)],[]⟩
abbrev vJ:CI:=⟨[(2,M8),(3,UR),(5,CC)],AB3⟩
abbrev cF:CI:=⟨[(0,.row Y0)],[]⟩
abbrev nJ:CI:=⟨ABn,[]⟩
abbrev ui:CI:=⟨[(0,.agg [.v tI,.v tI,.ref 0,.ref 1,.v .bool,.ref 2])],ABi⟩
abbrev R_:CI:=⟨[(0,xB),(1,.row Y0)],yH⟩
abbrev nI:CI:=⟨[(0,.row Y12),(1,CC)],[]⟩
abbrev ud:CI:=⟨[(0,.row Y3),(1,.row Y2)],[]⟩
abbrev fi:CI:=⟨[(0,.Hd [.inr [.ref 0,.ref 1,.v tI],.inl (.v .bool)])],[Mc,Mc]⟩
abbrev cX:CI:=⟨ACL,yH⟩
abbrev nW:CI:=⟨qt,[Mc]⟩
abbrev jr:CI:=⟨[(0,.row Y3),(1,CC)],[]⟩
abbrev vM:CI:=⟨[(1,CC),(2,M8),(4,UR),(6,th),(7,CC)],[ACg,.mem [.ref 2,.ref 3,.v tI],Mc,Mc,.mem [.ref 5,.ref 6,.v tI],Mc,Mc]⟩
abbrev ue:CI:=⟨[(0,.Hd [.inr [.v tI,.v tI,.v .bool,.v .str],.inl (.v .bool)])],[]⟩
abbrev uj:CI:=⟨[(0,.Hd [.inr [.v tI,.ref 0],.inl (.v .bool)])],[.sl 9 Y6]⟩
abbrev jt:CI:=⟨[(0,.Hd [.inl (.v tI),.inl (.v .bool)])],[]⟩
abbrev i6:CI:=⟨[(0,.Hd [.inr [.v tI,.v tI,.ref 0,.ref 1,.v .bool,.ref 2],.inl (.v .bool)])],ABi⟩
abbrev ux:CI:=⟨ACL,ADq⟩
abbrev ur:CI:=⟨[(0,Zj),(1,Zj)],[]⟩
abbrev ll:CI:=⟨zD,yH⟩
abbrev vX:CI:=⟨[(0,.Hd [.inr [.ref 0,.v tI],.inl (.v .bool)])],[PA]⟩
abbrev ACS:CI:=⟨[(0,M8),(4,UR),(6,V9),(10,Wi),(12,.c (.ptr 28 0)),(13,.c (.ref 37)),(14,CC),(15,CC)],[eW,yh,Dd,Sa,Dd,PA,Sf,Se,Sd,RV,qU,Dd,Sa,Dd,PA,Sf,Se,Sd,RV,.mem [.ref 20,.v tI,.ref 21,.ref 22,.ref 23,.v tI,.ref 24,.ref 25,.ref 26,.ref 27,.v .bool],Jy,Jy,Jy,Jy,Jy,Jy,Jy,Jy,.mem [.ref 29,.v tI,.ref 30,.ref 31,.ref 32,.v tI,.ref 33,.ref 34,.ref 35,.ref 36,.v .bool],FG,T_,FG,Nj,VN,.sl 1 Y8,Nr,N_,.sl 9 Y0]⟩
abbrev SL:CI:=⟨[(0,S9)],[]⟩
abbrev AHF:CI:=⟨[(0,S9),(1,S9)],[]⟩
abbrev lk:CI:=⟨[(0,.Hd [.inl (.v .str),.inl (.v .bool)])],[]⟩
abbrev ABm:CI:=⟨[(0,S9),(1,CC)],[]⟩
abbrev uf:CI:=⟨[(0,.Hd [.inr [.v tI,.v tI,.v tI,.v tI,.v .str],.inl (.v .bool)])],[]⟩
open Go.Shelf Go.RowKit
@[reducible] def f_:Go.Shelf.Ren:=⟨(fun x=>match x with|144=>52|143=>76|219=>82|217=>112|225=>113|224=>114|267=>115|266=>150|314=>151|n=>n),(fun x=>match x with|46=>117|146=>178|51=>177|n=>n),(fun x=>match x with|1=>0|n=>n)⟩
theorem XX:Lays.n144 Tryz.prog f_:={mixed:=by kernel_rfl,f143:=by kernel_rfl,f144:=by kernel_rfl,f217:=by kernel_rfl,f219:=by kernel_rfl,f224:=by kernel_rfl,f225:=by kernel_rfl,f266:=by kernel_rfl,f267:=by kernel_rfl,f314:=by kernel_rfl,t3:=by kernel_rfl,a3:=fun w=>by kernel_rfl,z3:=fun w=>by kernel_rfl,v3:=fun w=>by kernel_rfl,t4:=by kernel_rfl,a4:=fun w=>by kernel_rfl,z4:=fun w=>by kernel_rfl,v4:=fun w=>by kernel_rfl,t5:=by kernel_rfl,a5:=fun w=>by kernel_rfl,z5:=fun w=>by kernel_rfl,v5:=fun w=>by kernel_rfl,t9:=by kernel_rfl,a9:=fun w=>by kernel_rfl,z9:=fun w=>by kernel_rfl,v9:=fun w=>by kernel_rfl,t46:=by kernel_rfl,a46:=fun w=>by kernel_rfl,z46:=fun w=>by kernel_rfl,v46:=fun w=>by kernel_rfl,t51:=by kernel_rfl,a51:=fun w=>by kernel_rfl,z51:=fun w=>by kernel_rfl,v51:=fun w=>by kernel_rfl,t146:=by kernel_rfl,a146:=fun w=>by kernel_rfl,z146:=fun w=>by kernel_rfl,v146:=fun w=>by kernel_rfl,g1:=by kernel_rfl}
@[reducible] def r6:Go.Shelf.Ren:=⟨(fun x=>match x with|171=>81|243=>111|246=>149|283=>175|284=>176|285=>177|286=>178|129=>184|317=>183|318=>185|319=>186|320=>187|337=>190|338=>191|n=>n),(fun x=>match x with|171=>206|53=>207|37=>22|173=>210|212=>220|51=>177|213=>221|46=>117|232=>229|233=>230|n=>n),(fun x=>match x with|17=>3|18=>4|19=>5|n=>n)⟩
theorem dK:LaysM.n171 Tryz.prog r6:={mixed:=by kernel_rfl,f129:=by kernel_rfl,f171:=by kernel_rfl,f243:=by kernel_rfl,f246:=by kernel_rfl,f283:=by kernel_rfl,f284:=by kernel_rfl,f285:=by kernel_rfl,f286:=by kernel_rfl,f317:=by kernel_rfl,f318:=by kernel_rfl,f319:=by kernel_rfl,f320:=by kernel_rfl,f337:=by kernel_rfl,f338:=by kernel_rfl,t0:=by kernel_rfl,a0:=fun w=>by kernel_rfl,z0:=fun w=>by kernel_rfl,v0:=fun w=>by kernel_rfl,t2:=by kernel_rfl,a2:=fun w=>by kernel_rfl,z2:=fun w=>by kernel_rfl,v2:=fun w=>by kernel_rfl,t3:=by kernel_rfl,a3:=fun w=>by kernel_rfl,z3:=fun w=>by kernel_rfl,v3:=fun w=>by kernel_rfl,t4:=by kernel_rfl,a4:=fun w=>by kernel_rfl,z4:=fun w=>by kernel_rfl,v4:=fun w=>by kernel_rfl,t5:=by kernel_rfl,a5:=fun w=>by kernel_rfl,z5:=fun w=>by kernel_rfl,v5:=fun w=>by kernel_rfl,t9:=by kernel_rfl,a9:=fun w=>by kernel_rfl,z9:=fun w=>by kernel_rfl,v9:=fun w=>by kernel_rfl,t20:=by kernel_rfl,a20:=fun w=>by kernel_rfl,z20:=fun w=>by kernel_rfl,v20:=fun w=>by kernel_rfl,t37:=by kernel_rfl,a37:=fun w=>by kernel_rfl,z37:=fun w=>by kernel_rfl,v37:=fun w=>by kernel_rfl,t46:=by kernel_rfl,a46:=fun w=>by kernel_rfl,z46:=fun w=>by kernel_rfl,v46:=fun w=>by kernel_rfl,t51:=by kernel_rfl,a51:=fun w=>by kernel_rfl,z51:=fun w=>by kernel_rfl,v51:=fun w=>by kernel_rfl,t53:=by kernel_rfl,a53:=fun w=>by kernel_rfl,z53:=fun w=>by kernel_rfl,v53:=fun w=>by kernel_rfl,t171:=by kernel_rfl,a171:=fun w=>by kernel_rfl,z171:=fun w=>by kernel_rfl,v171:=fun w=>by kernel_rfl,t173:=by kernel_rfl,a173:=fun w=>by kernel_rfl,z173:=fun w=>by kernel_rfl,v173:=fun w=>by kernel_rfl,t212:=by kernel_rfl,a212:=fun w=>by kernel_rfl,z212:=fun w=>by kernel_rfl,v212:=fun w=>by kernel_rfl,t213:=by kernel_rfl,a213:=fun w=>by kernel_rfl,z213:=fun w=>by kernel_rfl,t232:=by kernel_rfl,a232:=fun w=>by kernel_rfl,z232:=fun w=>by kernel_rfl,v232:=fun w=>by kernel_rfl,t233:=by kernel_rfl,a233:=fun w=>by kernel_rfl,z233:=fun w=>by kernel_rfl,v233:=fun w=>by kernel_rfl,g17:=by kernel_rfl,g18:=by kernel_rfl,g19:=by kernel_rfl,i0:=by kernel_rfl,i2:=by kernel_rfl,i3:=by kernel_rfl,i4:=by kernel_rfl,i5:=by kernel_rfl,i9:=by kernel_rfl,i20:=by kernel_rfl,i37:=by kernel_rfl,i46:=by kernel_rfl,i51:=by kernel_rfl,i53:=by kernel_rfl,i171:=by kernel_rfl,i173:=by kernel_rfl,i212:=by kernel_rfl,i232:=by kernel_rfl,i233:=by kernel_rfl,m17:=by kernel_rfl,m18:=by kernel_rfl,m19:=by kernel_rfl}
@[reducible] def xG:Go.Shelf.Ren:=⟨(fun x=>match x with|145=>32|220=>58|219=>82|217=>112|225=>113|224=>114|267=>115|266=>150|314=>151|n=>n),(fun x=>match x with|59=>65|46=>117|146=>178|51=>177|n=>n),(fun x=>match x with|1=>0|n=>n)⟩
theorem nB:Lays.n145 Tryz.prog xG:={mixed:=by kernel_rfl,f145:=by kernel_rfl,f217:=by kernel_rfl,f219:=by kernel_rfl,f220:=by kernel_rfl,f224:=by kernel_rfl,f225:=by kernel_rfl,f266:=by kernel_rfl,f267:=by kernel_rfl,f314:=by kernel_rfl,t3:=by kernel_rfl,a3:=fun w=>by kernel_rfl,z3:=fun w=>by kernel_rfl,v3:=fun w=>by kernel_rfl,t4:=by kernel_rfl,a4:=fun w=>by kernel_rfl,z4:=fun w=>by kernel_rfl,v4:=fun w=>by kernel_rfl,t5:=by kernel_rfl,a5:=fun w=>by kernel_rfl,z5:=fun w=>by kernel_rfl,v5:=fun w=>by kernel_rfl,t9:=by kernel_rfl,a9:=fun w=>by kernel_rfl,z9:=fun w=>by kernel_rfl,v9:=fun w=>by kernel_rfl,t46:=by kernel_rfl,a46:=fun w=>by kernel_rfl,z46:=fun w=>by kernel_rfl,v46:=fun w=>by kernel_rfl,t51:=by kernel_rfl,a51:=fun w=>by kernel_rfl,z51:=fun w=>by kernel_rfl,v51:=fun w=>by kernel_rfl,t59:=by kernel_rfl,a59:=fun w=>by kernel_rfl,z59:=fun w=>by kernel_rfl,v59:=fun w=>by kernel_rfl,t146:=by kernel_rfl,a146:=fun w=>by kernel_rfl,z146:=fun w=>by kernel_rfl,v146:=fun w=>by kernel_rfl,g1:=by kernel_rfl}
@[reducible] def lz:Go.Shelf.Ren:=⟨(fun x=>match x with|109=>33|n=>n),(fun x=>match x with|31=>56|n=>n),(fun x=>match x with|n=>n)⟩
theorem gQ:Lays.n109 Tryz.prog lz:={mixed:=by kernel_rfl,f109:=by kernel_rfl,t0:=by kernel_rfl,a0:=fun w=>by kernel_rfl,z0:=fun w=>by kernel_rfl,v0:=fun w=>by kernel_rfl,t3:=by kernel_rfl,a3:=fun w=>by kernel_rfl,z3:=fun w=>by kernel_rfl,v3:=fun w=>by kernel_rfl,t4:=by kernel_rfl,a4:=fun w=>by kernel_rfl,z4:=fun w=>by kernel_rfl,v4:=fun w=>by kernel_rfl,t9:=by kernel_rfl,a9:=fun w=>by kernel_rfl,z9:=fun w=>by kernel_rfl,v9:=fun w=>by kernel_rfl,t31:=by kernel_rfl,a31:=fun w=>by kernel_rfl,z31:=fun w=>by kernel_rfl,v31:=fun w=>by kernel_rfl}
@[reducible] def oT:Go.Shelf.Ren:=⟨(fun x=>match x with|101=>84|208=>118|206=>157|n=>n),(fun x=>match x with|n=>n),(fun x=>match x with|n=>n)⟩
theorem jy:Lays.n101 Tryz.prog oT:={mixed:=by kernel_rfl,f101:=by kernel_rfl,f206:=by kernel_rfl,f208:=by kernel_rfl,t3:=by kernel_rfl,a3:=fun w=>by kernel_rfl,z3:=fun w=>by kernel_rfl,v3:=fun w=>by kernel_rfl,t4:=by kernel_rfl,a4:=fun w=>by kernel_rfl,z4:=fun w=>by kernel_rfl,v4:=fun w=>by kernel_rfl,t9:=by kernel_rfl,a9:=fun w=>by kernel_rfl,z9:=fun w=>by kernel_rfl,v9:=fun w=>by kernel_rfl}
@[reducible] def sM:Go.Shelf.Ren:=⟨(fun x=>match x with|172=>83|244=>116|245=>117|247=>152|279=>153|280=>154|281=>155|282=>156|287=>179|316=>180|171=>81|205=>181|321=>188|322=>189|243=>111|246=>149|283=>175|284=>176|285=>177|286=>178|129=>184|317=>183|318=>185|319=>186|320=>187|337=>190|338=>191|n=>n),(fun x=>match x with|75=>120|76=>121|167=>180|37=>22|85=>181|168=>183|53=>207|175=>212|46=>117|210=>216|127=>224|145=>227|143=>225|171=>206|173=>210|212=>220|51=>177|213=>221|232=>229|233=>230|80=>231|n=>n),(fun x=>match x with|15=>1|16=>2|17=>3|18=>4|19=>5|n=>n)⟩
theorem d_:LaysC.n172 Tryz.prog sM:={mixed:=by kernel_rfl,f129:=by kernel_rfl,f171:=by kernel_rfl,f172:=by kernel_rfl,f205:=by kernel_rfl,f243:=by kernel_rfl,f244:=by kernel_rfl,f245:=by kernel_rfl,f246:=by kernel_rfl,f247:=by kernel_rfl,f279:=by kernel_rfl,f280:=by kernel_rfl,f281:=by kernel_rfl,f282:=by kernel_rfl,f283:=by kernel_rfl,f284:=by kernel_rfl,f285:=by kernel_rfl,f286:=by kernel_rfl,f287:=by kernel_rfl,f316:=by kernel_rfl,f317:=by kernel_rfl,f318:=by kernel_rfl,f319:=by kernel_rfl,f320:=by kernel_rfl,f321:=by kernel_rfl,f322:=by kernel_rfl,f337:=by kernel_rfl,f338:=by kernel_rfl,t0:=by kernel_rfl,a0:=fun w=>by kernel_rfl,z0:=fun w=>by kernel_rfl,v0:=fun w=>by kernel_rfl,t2:=by kernel_rfl,a2:=fun w=>by kernel_rfl,z2:=fun w=>by kernel_rfl,v2:=fun w=>by kernel_rfl,t3:=by kernel_rfl,a3:=fun w=>by kernel_rfl,z3:=fun w=>by kernel_rfl,v3:=fun w=>by kernel_rfl,t4:=by kernel_rfl,a4:=fun w=>by kernel_rfl,z4:=fun w=>by kernel_rfl,v4:=fun w=>by kernel_rfl,t5:=by kernel_rfl,a5:=fun w=>by kernel_rfl,z5:=fun w=>by kernel_rfl,v5:=fun w=>by kernel_rfl,t9:=by kernel_rfl,a9:=fun w=>by kernel_rfl,z9:=fun w=>by kernel_rfl,v9:=fun w=>by kernel_rfl,t20:=by kernel_rfl,a20:=fun w=>by kernel_rfl,z20:=fun w=>by kernel_rfl,v20:=fun w=>by kernel_rfl,t21:=by kernel_rfl,a21:=fun w=>by kernel_rfl,z21:=fun w=>by kernel_rfl,v21:=fun w=>by kernel_rfl,t37:=by kernel_rfl,a37:=fun w=>by kernel_rfl,z37:=fun w=>by kernel_rfl,v37:=fun w=>by kernel_rfl,t46:=by kernel_rfl,a46:=fun w=>by kernel_rfl,z46:=fun w=>by kernel_rfl,v46:=fun w=>by kernel_rfl,t51:=by kernel_rfl,a51:=fun w=>by kernel_rfl,z51:=fun w=>by kernel_rfl,v51:=fun w=>by kernel_rfl,t53:=by kernel_rfl,a53:=fun w=>by kernel_rfl,z53:=fun w=>by kernel_rfl,v53:=fun w=>by kernel_rfl,t75:=by kernel_rfl,a75:=fun w=>by kernel_rfl,z75:=fun w=>by kernel_rfl,v75:=fun w=>by kernel_rfl,t76:=by kernel_rfl,a76:=fun w=>by kernel_rfl,z76:=fun w=>by kernel_rfl,v76:=fun w=>by kernel_rfl,t85:=by kernel_rfl,a85:=fun w=>by kernel_rfl,z85:=fun w=>by kernel_rfl,v85:=fun w=>by kernel_rfl,t127:=by kernel_rfl,a127:=fun w=>by kernel_rfl,z127:=fun w=>by kernel_rfl,v127:=fun w=>by kernel_rfl,t143:=by kernel_rfl,a143:=fun w=>by kernel_rfl,z143:=fun w=>by kernel_rfl,v143:=fun w=>by kernel_rfl,t145:=by kernel_rfl,a145:=fun w=>by kernel_rfl,z145:=fun w=>by kernel_rfl,v145:=fun w=>by kernel_rfl,t167:=by kernel_rfl,a167:=fun w=>by kernel_rfl,z167:=fun w=>by kernel_rfl,v167:=fun w=>by kernel_rfl,t168:=by kernel_rfl,a168:=fun w=>by kernel_rfl,z168:=fun w=>by kernel_rfl,v168:=fun w=>by kernel_rfl,t171:=by kernel_rfl,a171:=fun w=>by kernel_rfl,z171:=fun w=>by kernel_rfl,v171:=fun w=>by kernel_rfl,t173:=by kernel_rfl,a173:=fun w=>by kernel_rfl,z173:=fun w=>by kernel_rfl,v173:=fun w=>by kernel_rfl,t175:=by kernel_rfl,a175:=fun w=>by kernel_rfl,z175:=fun w=>by kernel_rfl,v175:=fun w=>by kernel_rfl,t210:=by kernel_rfl,a210:=fun w=>by kernel_rfl,z210:=fun w=>by kernel_rfl,v210:=fun w=>by kernel_rfl,t212:=by kernel_rfl,a212:=fun w=>by kernel_rfl,z212:=fun w=>by kernel_rfl,v212:=fun w=>by kernel_rfl,t213:=by kernel_rfl,a213:=fun w=>by kernel_rfl,z213:=fun w=>by kernel_rfl,t232:=by kernel_rfl,a232:=fun w=>by kernel_rfl,z232:=fun w=>by kernel_rfl,v232:=fun w=>by kernel_rfl,t233:=by kernel_rfl,a233:=fun w=>by kernel_rfl,z233:=fun w=>by kernel_rfl,v233:=fun w=>by kernel_rfl,g15:=by kernel_rfl,g16:=by kernel_rfl,g17:=by kernel_rfl,g18:=by kernel_rfl,g19:=by kernel_rfl,t80:=by kernel_rfl,a80:=fun w=>by kernel_rfl,z80:=fun w=>by kernel_rfl,v80:=fun w=>by kernel_rfl,i0:=by kernel_rfl,i2:=by kernel_rfl,i3:=by kernel_rfl,i4:=by kernel_rfl,i5:=by kernel_rfl,i9:=by kernel_rfl,i20:=by kernel_rfl,i21:=by kernel_rfl,i37:=by kernel_rfl,i46:=by kernel_rfl,i51:=by kernel_rfl,i53:=by kernel_rfl,i75:=by kernel_rfl,i76:=by kernel_rfl,i80:=by kernel_rfl,i85:=by kernel_rfl,i127:=by kernel_rfl,i143:=by kernel_rfl,i145:=by kernel_rfl,i167:=by kernel_rfl,i168:=by kernel_rfl,i171:=by kernel_rfl,i173:=by kernel_rfl,i175:=by kernel_rfl,i210:=by kernel_rfl,i212:=by kernel_rfl,i232:=by kernel_rfl,i233:=by kernel_rfl,m15:=by kernel_rfl,m16:=by kernel_rfl,m17:=by kernel_rfl,m18:=by kernel_rfl,m19:=by kernel_rfl,c0:=by kernel_rfl,c2:=by kernel_rfl,c3:=by kernel_rfl,c4:=by kernel_rfl,c5:=by kernel_rfl,c9:=by kernel_rfl,c20:=by kernel_rfl,c21:=by kernel_rfl,c37:=by kernel_rfl,c46:=by kernel_rfl,c51:=by kernel_rfl,c53:=by kernel_rfl,c75:=by kernel_rfl,c76:=by kernel_rfl,c80:=by kernel_rfl,c85:=by kernel_rfl,c127:=by kernel_rfl,c143:=by kernel_rfl,c145:=by kernel_rfl,c167:=by kernel_rfl,c168:=by kernel_rfl,c171:=by kernel_rfl,c173:=by kernel_rfl,c175:=by kernel_rfl,c210:=by kernel_rfl,c212:=by kernel_rfl,c213:=by kernel_rfl,c232:=by kernel_rfl,c233:=by kernel_rfl}
theorem iK:Tryz.prog.globalNamed "internal/strconv.uint64pow10" =some kz:=by kernel_rfl
theorem vD:∀w,GI w→Go.Lib.TabIs Tryz.prog w "internal/strconv.uint64pow10" .u64 Go.Lib.pow10Tab:=fun w h=>h.tab iK
theorem vc:∀w,GI w→ ∃m,w.cell? ⟨sW,0,none⟩=some (.int .i64 m):=fun w h=>h.2.1
theorem maxOf{w:World}(h:w.ShapedOpen Tryz.prog):∃m,w.cell? ⟨sW,0,none⟩=some (.int .i64 m):=
 cell_of_shapedOpen_int (t:=3) (zero:= #[.int .i64 0]) h (of_decide_eq_true (by kernel_rfl)) (by kernel_rfl) rfl (by kernel_rfl) (by kernel_rfl) (by kernel_rfl)
set_option maxRecDepth 100000 in
theorem WY(s:ByteArray)(most:Int)(w:World)(X5:s.size≤1048576)(hG:∀w',Below w.heap.size w w'→GI w'):
  Calls Tryz.prog 59 #[.string s,.int .i64 most] w fun e w' =>(∃a b,CW s.data.toList most=some (a,b)∧e= .returned (.tuple #[.int .i64 a,.bool b]))∧Below w.heap.size w w':=by
 have hG0:=hG w (Below.refl _ _);have hs:=hG0.2.2.1;have hr:=hG0.2.2.2;have ADX:∀w',Below w.heap.size w w'→Go.Lib.TabIs Tryz.prog w' "internal/strconv.uint64pow10" .u64 Go.Lib.pow10Tab:=fun w' hb=>vD _ (hG w' hb)
 have hl:s.data.toList.length≤1048576:=X5;cases h:Go.Lib.atoiAll s.data.toList with
 |ok v=>
  have hv: -9223372036854775808≤v∧v≤9223372036854775807:=Go.Lib.atoiAll_bounds h;have e1:0≤v→(s.size:Int)≤most→Go.Lib.itoa v=s.data.toList→CW s.data.toList most=some (v,true):=fun a b c=>by unfold CW;rw[if_pos hl,h];simp only;rw[if_pos ⟨a,b,c⟩]
  have e2:(0≤v→(s.size:Int)≤most→Go.Lib.itoa v=s.data.toList→False)→CW s.data.toList most=some (0,false):=fun hh=>by unfold CW;rw[if_pos hl,h];simp only;rw[if_neg fun k=>hh k.1 k.2.1 k.2.2]
  have dig:∀W1:World,Below w.heap.size w W1→Calls Tryz.prog 55 #[.int .i64 v] W1 fun e w' =>e= .returned (.string ⟨(Go.Lib.itoa v).toArray⟩)∧Below w.heap.size w w':=by
   intro W1 hb
   go_enter Tryz.func55,Tryz.ntmps55
   go_wp2_with (go_at_call 81;refine(Any.strconv_Itoa dK v hv.1 hv.2 _ (ADX _ hb)).mono ?_;rintro e w' ⟨rfl,k,os,rfl⟩)
   go_ret
   exact⟨rfl,hb.trans ((aM k os).mono hb.size)⟩
  go_enter Tryz.func59,Tryz.ntmps59
  go_wp2_with (first|(go_at_call 83;refine(Any.strconv_Atoi_ok d_ s (by omega) v h _).mono ?_;rintro e w' ⟨rfl,hw⟩)|(go_at_call 55;refine(dig _ (by rcases hw with rfl|⟨t,rfl⟩;exact Below.refl _ _;exact Go.Lib.bytesWorld_below _ _ _)).mono ?_;rintro e w2 ⟨rfl,hb2⟩))
  ·rename_i w2 hb2 hc
   go_ret2
   refine⟨⟨_,_,e2 fun p q r=> ?_,rfl⟩,hb2⟩;rw[r,ByteArray.toList_eq]at hc;simp only[beq_self_eq_true,Bool.not_true,Bool.false_eq_true,or_false]at hc;omega
  ·rename_i w2 hb2 hc
   go_ret2
   refine⟨⟨_,_,e1 hc.1.1 hc.1.2 ?_,rfl⟩,hb2⟩;have:=hc.2;rw[ByteArray.toList_eq]at this;simpa using this
  ·go_ret2
   refine⟨⟨_,.inl ⟨e2 fun p q r=> ?_,rfl⟩⟩,?_⟩
   ·omega
   ·rcases hw with rfl|⟨t,rfl⟩
    ·exact Below.refl _ _
    ·exact Go.Lib.bytesWorld_below _ _ _
  ·go_ret2
   refine⟨⟨_,.inl ⟨e2 fun p q r=> ?_,rfl⟩⟩,?_⟩
   ·omega
   ·rcases hw with rfl|⟨t,rfl⟩
    ·exact Below.refl _ _
    ·exact Go.Lib.bytesWorld_below _ _ _
 |range=>
  have e0:CW s.data.toList most=some (0,false):=by unfold CW;rw[if_pos hl,h]
  obtain⟨ev,hv,he⟩:=hr
  go_enter Tryz.func59,Tryz.ntmps59
  go_wp2_with (go_at_call 83;refine(Any.strconv_Atoi_range d_ s (by omega) h ev _ hv he).mono ?_;rintro e W1 ⟨N,rfl,-,-,hb⟩)
  go_ret2
  exact⟨⟨_,_,e0,rfl⟩,hb⟩
 |_=>
  have e0:CW s.data.toList most=some (0,false):=by unfold CW;rw[if_pos hl,h]
  obtain⟨ev,hv,he⟩:=hs
  go_enter Tryz.func59,Tryz.ntmps59
  go_wp2_with (go_at_call 83;refine(Any.strconv_Atoi_syntax d_ s (by omega) h ev _ hv he).mono ?_;rintro e W1 ⟨N,rfl,-,-,hb⟩)
  go_ret2
  exact⟨⟨_,_,e0,rfl⟩,hb⟩
def s4:SQ:=mk Tryz.func4 ⟨[(0,.c (.sl false tU))],[]⟩ Iz aa [] [] []
def s13:SQ:=mk Tryz.func13 qG s_ Ob [] [] [⟨3,⟨[(0,.c (.sl true tU)),(3,CC),(4,CC)],[]⟩,JZ⟩]
def s50:SQ:=mk Tryz.func50 s_ py HE [] [(2,[0]),(3,[0]),(4,[0])] []
def kS:SQ:=mk Tryz.func17 AAK py AL [s50] [] []
def s44:SQ:=mk Tryz.func44 AAK ⟨[(0,oD)],YK⟩ Al [kS] [] []
def s40:SQ:=mk Tryz.func40 s_ ⟨[(0,.agg [.ref 1,.v tI])],ACX⟩ JK [kS,s44] [(6,[1,2])] [⟨4,⟨[(0,M8),(2,UR),(3,.c (.ptr 3 0)),(4,CC),(5,CC)],[eW,.mem [.ref 2,.v tI],Dd,.mem [.ref 4,.v tI],Dd]⟩,El⟩] (hJ:= .cons (fun _=>rfl) (fun n v ω=>by rcases ω with _|⟨_|_,_|⟨_|_,_⟩⟩<;>kernel_rfl) (.nil))
def ZU:SQ:=mk Tryz.func26 ADZ Iz BE [] [] []
abbrev i67:CI:=⟨[(0,an)],[]⟩
abbrev o67:CI:=Iz
def uk:SQ:=mk Tryz.func67 i67 o67 DT [ZU] [] [⟨4,⟨ot,[eV]⟩,HA⟩]
def s71:SQ:=mk Tryz.func71 ⟨[(0,Zj),(1,CC),(2,CC)],[]⟩ Iz On [ZU] [] [⟨2,⟨[(0,Zj),(1,CC),(2,CC),(7,CC)],[]⟩,Hq⟩]
def s65:SQ:=mk Tryz.func65 rO Iz DX [uk,s71] [] []
def s66:SQ:=mk Tryz.func66 rO Kg Me [] [(6,[0,1])] [⟨4,⟨[(1,Zj),(2,M8),(5,wT),(6,CC),(7,CC)],[eV,.sl 9 .bool]⟩,Iw⟩]
abbrev i41:CI:=rO
abbrev o41:CI:=Iz
def kV:SQ:=mk Tryz.func41 i41 o41 Cr [s65,s66] [(1,[0])] []
abbrev i68:CI:=⟨[],[]⟩
abbrev o68:CI:=zz
def s68:SQ:=mk Tryz.func68 i68 o68 Oh [] [] []
abbrev zN:CI:=⟨[(0,an)],[]⟩
abbrev o42:CI:=⟨[(0,.Hd [.inr [.ref 0,.v tI,.ref 1,.ref 2,.ref 3,.v tI,.ref 4,.ref 5,.ref 6,.ref 7,.v .bool],.inl (.v .bool)])],AC8⟩
def c42:NK:=⟨zN,o42,(zN.un D9)⟩
def C42:V_:=⟨T,UW (SP.l [uk,s68]),EN [(3,[0,1]),(4,[0,4])]⟩
def L42:List (Lp o42):=[]
def Aa(ω:List Bool):Prop:= ∀(n:Nat) (v:zN.V),HJ C42 c42 Tryz.f42 (Pd 0 L42 n) ω v=zN.un (D9) v
theorem ACz:Aa []:=by delta Aa;intros;kernel_rfl
theorem ACw:Aa (false::[]):=by delta Aa;intros;kernel_rfl
theorem ACp:Aa (false::false::[]):=by delta Aa;intros;kernel_rfl
theorem ADw:Aa (false::false::false::[]):=by delta Aa;intros;kernel_rfl
theorem ADY:Aa (false::false::false::false::[]):=by delta Aa;intros;kernel_rfl
theorem ADd:Aa (false::false::false::false::false::[]):=by delta Aa;intros;kernel_rfl
theorem ABq:Aa (false::false::false::false::false::false::[]):=by delta Aa;intros;kernel_rfl
theorem ADe:Aa (false::false::false::false::false::false::false::[]):=by delta Aa;intros;kernel_rfl
theorem ADW(ω:List Bool):Aa (false::false::false::false::false::false::false::false::ω):=by delta Aa;intros;kernel_rfl
theorem AAN(ω:List Bool):Aa (false::false::false::false::false::false::false::true::ω):=by delta Aa;intros;kernel_rfl
theorem AAd:Aa (false::false::false::false::false::false::true::[]):=by delta Aa;intros;kernel_rfl
theorem xO(ω:List Bool):Aa (false::false::false::false::false::false::true::false::ω):=by delta Aa;intros;kernel_rfl
theorem xz(ω:List Bool):Aa (false::false::false::false::false::false::true::true::ω):=by delta Aa;intros;kernel_rfl
theorem xJ:Aa (false::false::false::false::false::true::[]):=by delta Aa;intros;kernel_rfl
theorem vy(ω:List Bool):Aa (false::false::false::false::false::true::false::ω):=by delta Aa;intros;kernel_rfl
theorem AAk(ω:List Bool):Aa (false::false::false::false::false::true::true::ω):=by delta Aa;intros;kernel_rfl
theorem zW:Aa (false::false::false::false::true::[]):=by delta Aa;intros;kernel_rfl
theorem yS:Aa (false::false::false::false::true::false::[]):=by delta Aa;intros;kernel_rfl
theorem wA(ω:List Bool):Aa (false::false::false::false::true::false::false::ω):=by delta Aa;intros;kernel_rfl
theorem y8(ω:List Bool):Aa (false::false::false::false::true::false::true::ω):=by delta Aa;intros;kernel_rfl
theorem x7(ω:List Bool):Aa (false::false::false::false::true::true::ω):=by delta Aa;intros;kernel_rfl
theorem wW:Aa (false::false::false::true::[]):=by delta Aa;intros;kernel_rfl
theorem z7:Aa (false::false::false::true::false::[]):=by delta Aa;intros;kernel_rfl
theorem AAM(ω:List Bool):Aa (false::false::false::true::false::false::ω):=by delta Aa;intros;kernel_rfl
theorem yX(ω:List Bool):Aa (false::false::false::true::false::true::ω):=by delta Aa;intros;kernel_rfl
theorem xw(ω:List Bool):Aa (false::false::false::true::true::ω):=by delta Aa;intros;kernel_rfl
theorem AAw:Aa (false::false::true::[]):=by delta Aa;intros;kernel_rfl
theorem zB:Aa (false::false::true::false::[]):=by delta Aa;intros;kernel_rfl
theorem AA5:Aa (false::false::true::false::false::[]):=by delta Aa;intros;kernel_rfl
theorem wO(ω:List Bool):Aa (false::false::true::false::false::false::ω):=by delta Aa;intros;kernel_rfl
theorem zc(ω:List Bool):Aa (false::false::true::false::false::true::ω):=by delta Aa;intros;kernel_rfl
theorem yi(ω:List Bool):Aa (false::false::true::false::true::ω):=by delta Aa;intros;kernel_rfl
theorem xn(ω:List Bool):Aa (false::false::true::true::ω):=by delta Aa;intros;kernel_rfl
theorem zZ:Aa (false::true::[]):=by delta Aa;intros;kernel_rfl
theorem zu:Aa (false::true::false::[]):=by delta Aa;intros;kernel_rfl
theorem w_:Aa (false::true::false::false::[]):=by delta Aa;intros;kernel_rfl
theorem zi(ω:List Bool):Aa (false::true::false::false::false::ω):=by delta Aa;intros;kernel_rfl
theorem wC(ω:List Bool):Aa (false::true::false::false::true::ω):=by delta Aa;intros;kernel_rfl
theorem v8(ω:List Bool):Aa (false::true::false::true::ω):=by delta Aa;intros;kernel_rfl
theorem yv(ω:List Bool):Aa (false::true::true::ω):=by delta Aa;intros;kernel_rfl
theorem yZ:Aa (true::[]):=by delta Aa;intros;kernel_rfl
theorem wD:Aa (true::false::[]):=by delta Aa;intros;kernel_rfl
theorem AAs:Aa (true::false::false::[]):=by delta Aa;intros;kernel_rfl
theorem xZ:Aa (true::false::false::false::[]):=by delta Aa;intros;kernel_rfl
theorem vx:Aa (true::false::false::false::false::[]):=by delta Aa;intros;kernel_rfl
theorem ze:Aa (true::false::false::false::false::false::[]):=by delta Aa;intros;kernel_rfl
theorem AAo:Aa (true::false::false::false::false::false::false::[]):=by delta Aa;intros;kernel_rfl
theorem yb:Aa (true::false::false::false::false::false::false::false::[]):=by delta Aa;intros;kernel_rfl
theorem AAn(ω:List Bool):Aa (true::false::false::false::false::false::false::false::false::ω):=by delta Aa;intros;kernel_rfl
theorem wy(ω:List Bool):Aa (true::false::false::false::false::false::false::false::true::ω):=by delta Aa;intros;kernel_rfl
theorem vf:Aa (true::false::false::false::false::false::false::true::[]):=by delta Aa;intros;kernel_rfl
theorem yW(ω:List Bool):Aa (true::false::false::false::false::false::false::true::false::ω):=by delta Aa;intros;kernel_rfl
theorem xc(ω:List Bool):Aa (true::false::false::false::false::false::false::true::true::ω):=by delta Aa;intros;kernel_rfl
theorem vz:Aa (true::false::false::false::false::false::true::[]):=by delta Aa;intros;kernel_rfl
theorem we(ω:List Bool):Aa (true::false::false::false::false::false::true::false::ω):=by delta Aa;intros;kernel_rfl
theorem AA3(ω:List Bool):Aa (true::false::false::false::false::false::true::true::ω):=by delta Aa;intros;kernel_rfl
theorem yn:Aa (true::false::false::false::false::true::[]):=by delta Aa;intros;kernel_rfl
theorem xt:Aa (true::false::false::false::false::true::false::[]):=by delta Aa;intros;kernel_rfl
theorem yk(ω:List Bool):Aa (true::false::false::false::false::true::false::false::ω):=by delta Aa;intros;kernel_rfl
theorem vt(ω:List Bool):Aa (true::false::false::false::false::true::false::true::ω):=by delta Aa;intros;kernel_rfl
theorem wJ(ω:List Bool):Aa (true::false::false::false::false::true::true::ω):=by delta Aa;intros;kernel_rfl
theorem zw:Aa (true::false::false::false::true::[]):=by delta Aa;intros;kernel_rfl
theorem xy:Aa (true::false::false::false::true::false::[]):=by delta Aa;intros;kernel_rfl
theorem wI(ω:List Bool):Aa (true::false::false::false::true::false::false::ω):=by delta Aa;intros;kernel_rfl
theorem AAP(ω:List Bool):Aa (true::false::false::false::true::false::true::ω):=by delta Aa;intros;kernel_rfl
theorem z_(ω:List Bool):Aa (true::false::false::false::true::true::ω):=by delta Aa;intros;kernel_rfl
theorem vo:Aa (true::false::false::true::[]):=by delta Aa;intros;kernel_rfl
theorem za:Aa (true::false::false::true::false::[]):=by delta Aa;intros;kernel_rfl
theorem yc:Aa (true::false::false::true::false::false::[]):=by delta Aa;intros;kernel_rfl
theorem wX(ω:List Bool):Aa (true::false::false::true::false::false::false::ω):=by delta Aa;intros;kernel_rfl
theorem zQ(ω:List Bool):Aa (true::false::false::true::false::false::true::ω):=by delta Aa;intros;kernel_rfl
theorem wk(ω:List Bool):Aa (true::false::false::true::false::true::ω):=by delta Aa;intros;kernel_rfl
theorem zG(ω:List Bool):Aa (true::false::false::true::true::ω):=by delta Aa;intros;kernel_rfl
theorem wg:Aa (true::false::true::[]):=by delta Aa;intros;kernel_rfl
theorem xu:Aa (true::false::true::false::[]):=by delta Aa;intros;kernel_rfl
theorem AAT:Aa (true::false::true::false::false::[]):=by delta Aa;intros;kernel_rfl
theorem yD(ω:List Bool):Aa (true::false::true::false::false::false::ω):=by delta Aa;intros;kernel_rfl
theorem xd(ω:List Bool):Aa (true::false::true::false::false::true::ω):=by delta Aa;intros;kernel_rfl
theorem zk(ω:List Bool):Aa (true::false::true::false::true::ω):=by delta Aa;intros;kernel_rfl
theorem xU(ω:List Bool):Aa (true::false::true::true::ω):=by delta Aa;intros;kernel_rfl
theorem AAR:Aa (true::true::[]):=by delta Aa;intros;kernel_rfl
theorem AAv:Aa (true::true::false::[]):=by delta Aa;intros;kernel_rfl
theorem AAH:Aa (true::true::false::false::[]):=by delta Aa;intros;kernel_rfl
theorem zX(ω:List Bool):Aa (true::true::false::false::false::ω):=by delta Aa;intros;kernel_rfl
theorem AAB(ω:List Bool):Aa (true::true::false::false::true::ω):=by delta Aa;intros;kernel_rfl
theorem vm(ω:List Bool):Aa (true::true::false::true::ω):=by delta Aa;intros;kernel_rfl
theorem yJ(ω:List Bool):Aa (true::true::true::ω):=by delta Aa;intros;kernel_rfl
theorem e42(n:Nat)(ω:List Bool)(v:zN.V):HJ C42 c42 Tryz.f42 (Pd 0 L42 n) ω v=zN.un (D9) v:=(AD ACz (AD ACw (AD ACp (AD ADw (AD ADY (AD ADd (AD ABq (AD ADe ADW AAN) (AD AAd xO xz)) (AD xJ vy AAk)) (AD zW (AD yS wA y8) x7)) (AD wW (AD z7 AAM yX) xw)) (AD AAw (AD zB (AD AA5 wO zc) yi) xn)) (AD zZ (AD zu (AD w_ zi wC) v8) yv)) (AD yZ (AD wD (AD AAs (AD xZ (AD vx (AD ze (AD AAo (AD yb AAn wy) (AD vf yW xc)) (AD vz we AA3)) (AD yn (AD xt yk vt) wJ)) (AD zw (AD xy wI AAP) z_)) (AD vo (AD za (AD yc wX zQ) wk) zG)) (AD wg (AD xu (AD AAT yD xd) zk) xU)) (AD AAR (AD AAv (AD AAH zX AAB) vm) yJ))) ω n v
def s42:SQ:=mk Tryz.func42 zN o42 D9 [uk,s68] [(3,[0,1]),(4,[0,4])] L42 (hJ:= .nil) (he:=e42 Ar)
def s75:SQ:=mk Tryz.func75 kI Kg HM [] [] []
abbrev UU:CI:=AC5
abbrev fx:CI:=Iz
def X_:SQ:=mk Tryz.func110 UU fx Bu [] [] [⟨2,⟨[(0,Zj),(1,CC),(5,CC)],[]⟩,Ja⟩]
def s73:SQ:=mk Tryz.func73 AC5 kg HP [X_] [] [⟨4,⟨[(0,Zj),(1,CC),(5,ug),(6,oD),(7,CC)],[Dd]⟩,Ge⟩]
def s18:SQ:=mk Tryz.func18 ⟨[(0,M8),(1,Zj)],YK⟩ py Ca [kS] [] []
def s72:SQ:=mk Tryz.func72 ADV ABl JC [kS,s18,s44,s73,s75] [] [⟨4,⟨[(0,M8),(3,UR),(5,xP8),(6,CC),(7,CC)],ABf⟩,Eo⟩]
def s46:SQ:=mk Tryz.func46 ADV ABl Gy [kV,s72,s73] [] [⟨3,⟨[(3,UR),(5,xP8),(6,CC)],ABf⟩,GO⟩]
def s45:SQ:=mk Tryz.func45 ⟨[(0,Zj)],[]⟩ Kg Gq [s71] [] [⟨5,⟨[(0,Zj),(3,CC),(4,CC)],[]⟩,GC⟩]
def s47:SQ:=mk Tryz.func47 ⟨[(0,.row Y5)],[]⟩ Kg FY [] [] [⟨2,⟨ot,[z8]⟩,EU⟩]
abbrev iD:CI:=⟨[(0,.row Y5),(1,CC)],[]⟩
abbrev uz:CI:=kg
def uy:SQ:=mk Tryz.func74 iD uz BW [ZU] [] []
def s48:SQ:=mk Tryz.func48 pc tf G4 [kS,kV,s44,uy,s75] [(18,[1,2,3])] [⟨16,⟨[(0,M8),(3,UR),(4,.c (.ptr 2 0)),(5,.c (.ptr 3 0)),(7,CC),(8,CC),(9,CC)],[eW,q8,Xr,tD]⟩,DH⟩]
def s61:SQ:=mk Tryz.func61 ⟨[(0,M8),(1,xP9)],YK⟩ yM DI [kS] [] []
def s38:SQ:=mk Tryz.func38 kI Kg HV [] [] []
def s49:SQ:=mk Tryz.func49 pc tf Da [kS,s38,s44,s61,uy] [] []
def s16:SQ:=mk Tryz.func16 pc tf FK [kS,s44,s45,s46,s47,s48,s49] [(16,[1]),(27,[1,2])] []
def rL:SQ:=mk Tryz.func23 Kg Iz C8 [ZU] [] []
abbrev ie:CI:=Kg
abbrev u_:CI:=Kg
def lY:SQ:=mk Tryz.func56 ie u_ Bd [rL] [] []
def oL:SQ:=mk Tryz.func160 ⟨[(0,.row Y2)],[]⟩ Iz HQ [rL,ZU,lY] [(1,[0])] []
def AFg:SQ:=mk Tryz.func158 ACU Iz Mf [oL] [] [⟨4,⟨[(0,dw),(5,CC)],[]⟩,Gt⟩]
def ADS:SQ:=mk Tryz.func159 ⟨[(0,dw)],[]⟩ Iz Oz [] [] [⟨2,⟨[(0,dw),(3,CC)],[]⟩,DU⟩]
def gy:SQ:=mk Tryz.func119 r9 Iz De [ZU,AFg,ADS] [] []
def AE_:SQ:=mk Tryz.func120 r9 Iz Rn [] [] []
def s86:SQ:=mk Tryz.func86 nc Iz MI [kV,s65,uk,X_,gy,AE_] [] [⟨4,ABw,FJ⟩]
abbrev vu:CI:=⟨[(0,an),(1,.row Y5)],[]⟩
abbrev ADL:CI:=Iz
def lP:SQ:=mk Tryz.func121 vu ADL HI [rL,ZU,kV,lY,uk] [] [⟨5,⟨ACO,[eV,z8]⟩,GX⟩]
abbrev AAf:CI:=⟨[(0,an),(1,.row Y7)],[]⟩
abbrev ACl:CI:=Iz
def mO:SQ:=mk Tryz.func122 AAf ACl D7 [ZU,kV,s65,uk] [(8,[0,1,2])] [⟨5,⟨ACO,[eV,yE]⟩,G5⟩]
abbrev ga:CI:=Kg
abbrev vC:CI:=Kg
def s57:SQ:=mk Tryz.func57 ga vC DY [rL] [] []
def ACs:SQ:=mk Tryz.func161 ⟨[(0,.row Y8)],[]⟩ Kg KA [s57] [] []
def j9:SQ:=mk Tryz.func123 vN Iz E8 [ZU,lY,s65,uk,ADS,oL,ACs] [(6,[0,1]),(11,[0,1]),(15,[0,1])] [⟨4,vJ,Fa⟩,⟨9,⟨[(2,M8),(3,UR),(6,CC)],AB3⟩,EK⟩]
def s87:SQ:=mk Tryz.func87 nc Iz Kd [s47,lP,mO,j9] [(7,[0]),(13,[0,1])] [⟨5,⟨[(1,M8),(3,CC),(4,CC)],rC⟩,DZ⟩,⟨10,⟨[(1,M8),(3,CC),(5,CC)],rC⟩,CZ⟩]
def s88:SQ:=mk Tryz.func88 ⟨[(0,.row mA)],[]⟩ Iz Ho [ZU] [] []
def s89:SQ:=mk Tryz.func89 nc Iz OH [rL,lY] [(7,[0,1])] [⟨4,ABw,F6⟩]
def s62:SQ:=mk Tryz.func62 nc Iz Lb [s86,s87,s88,s89] [] []
def s31:SQ:=mk Tryz.func31 cF nJ QH [] [] []
def s9:SQ:=mk Tryz.func9 cF Iz KQ [ZU,s31] [(1,[0])] []
abbrev i105:CI:=⟨[(0,.row Y5)],[]⟩
abbrev gB:CI:=⟨[(0,.agg [.ref 0,.v tI])],[PA]⟩
def kq:SQ:=mk Tryz.func105 i105 gB DK [] [] [⟨3,⟨AC4,[z8,.mem [.ref 2,.v tI],PA,.mem [.ref 4,.v tI],PA]⟩,Iy⟩]
abbrev Wd:CI:=r9
abbrev gk:CI:=⟨[(0,.agg [.ref 0,.ref 1,.v tI])],[Mc,Mc]⟩
def j_:SQ:=mk Tryz.func106 Wd gk Cc [] [(1,[0])] [] (he:=fun ω v=>by rcases ω with _|⟨_|_,_|⟨_|_,_⟩⟩<;>kernel_rfl)
abbrev i107:CI:=⟨[(0,.row Y7)],[]⟩
abbrev ei:CI:=⟨[(0,.agg [.v tI,.ref 0])],[.sl 9 Y6]⟩
def k9:SQ:=mk Tryz.func107 i107 ei Ct [] [] [⟨3,⟨AC4,[yE,.mem [.v tI,.ref 2],.sl 9 Y6,.mem [.v tI,.ref 4],.sl 9 Y6]⟩,Iq⟩]
abbrev RN:CI:=⟨[(0,.row Y8)],[]⟩
abbrev dJ:CI:=ui
def AAt:NK:=⟨RN,dJ,(RN.un CP)⟩
def yz:V_:=⟨T,UW (SP.l ([]:List SQ)),EN [(1,[0,1]),(5,[0,1,2,3,4,6,7])]⟩
def pz:List (Lp dJ):=[⟨3,⟨[(1,M8),(2,UR),(3,.c (.ptr 5 0)),(4,CC)],yL⟩,EF⟩]
abbrev iA:CI:=⟨[(1,M8),(2,UR),(3,.c (.ptr 5 0)),(4,CC)],yL⟩
theorem wP(n:Nat)(v:iA.V)(ω:List Bool):Hn yz AAt Tryz.f108 (Pd 0 pz n) 3 ω (iA.st 40 v)=iA.un (La (EF n)) v:=by rcases ω with _|⟨_|_,_|⟨_|_,_|⟨_|_,_⟩⟩⟩<;>kernel_rfl
def B5(ω:List Bool):Prop:= ∀(n:Nat) (v:RN.V),HJ yz AAt Tryz.f108 (Pd 0 pz n) ω v=RN.un (IB (EF n)) v
theorem xA:B5 []:=by delta B5;intros;kernel_rfl
theorem zR:B5 (false::[]):=by delta B5;intros;kernel_rfl
theorem vv:B5 (false::false::[]):=by delta B5;intros;kernel_rfl
theorem yT(ω:List Bool):B5 (false::false::false::ω):=by delta B5;intros;kernel_rfl
theorem AA0:B5 (false::false::true::[]):=by delta B5;intros;kernel_rfl
theorem xI(ω:List Bool):B5 (false::false::true::false::ω):=by delta B5;intros;kernel_rfl
theorem AAe(ω:List Bool):B5 (false::false::true::true::ω):=by delta B5;intros;kernel_rfl
theorem AAa:B5 (false::true::[]):=by delta B5;intros;kernel_rfl
theorem yO(ω:List Bool):B5 (false::true::false::ω):=by delta B5;intros;kernel_rfl
theorem uc:B5 (false::true::true::[]):=by delta B5;intros;kernel_rfl
theorem so(ω:List Bool):B5 (false::true::true::false::ω):=by delta B5;intros;kernel_rfl
theorem qk:B5 (false::true::true::true::[]):=by delta B5;intros;kernel_rfl
theorem sC(ω:List Bool):B5 (false::true::true::true::false::ω):=by delta B5;intros;kernel_rfl
theorem ow(ω:List Bool):B5 (false::true::true::true::true::ω):=by delta B5;intros;kernel_rfl
theorem oP:B5 (true::[]):=by delta B5;intros;kernel_rfl
theorem pD:B5 (true::false::[]):=by delta B5;intros;kernel_rfl
theorem qJ:B5 (true::false::false::[]):=by delta B5;intros;kernel_rfl
theorem tQ(ω:List Bool):B5 (true::false::false::false::ω):=by delta B5;intros;kernel_rfl
theorem qN(ω:List Bool):B5 (true::false::false::true::ω):=by delta B5;intros;kernel_rfl
theorem rH:B5 (true::false::true::[]):=by delta B5;intros;kernel_rfl
theorem qH(ω:List Bool):B5 (true::false::true::false::ω):=by delta B5;intros;kernel_rfl
theorem rl:B5 (true::false::true::true::[]):=by delta B5;intros;kernel_rfl
theorem sj(ω:List Bool):B5 (true::false::true::true::false::ω):=by delta B5;intros;kernel_rfl
theorem rq(ω:List Bool):B5 (true::false::true::true::true::ω):=by delta B5;intros;kernel_rfl
theorem pO:B5 (true::true::[]):=by delta B5;intros;kernel_rfl
theorem sa(ω:List Bool):B5 (true::true::false::ω):=by delta B5;intros;kernel_rfl
theorem o4:B5 (true::true::true::[]):=by delta B5;intros;kernel_rfl
theorem qn(ω:List Bool):B5 (true::true::true::false::ω):=by delta B5;intros;kernel_rfl
theorem qL(ω:List Bool):B5 (true::true::true::true::ω):=by delta B5;intros;kernel_rfl
theorem AFN(n:Nat)(ω:List Bool)(v:RN.V):HJ yz AAt Tryz.f108 (Pd 0 pz n) ω v=RN.un (IB (EF n)) v:=(AD xA (AD zR (AD vv yT (AD AA0 xI AAe)) (AD AAa yO (AD uc so (AD qk sC ow)))) (AD oP (AD pD (AD qJ tQ qN) (AD rH qH (AD rl sj rq))) (AD pO sa (AD o4 qn qL)))) ω n v
def lD:SQ:=mk Tryz.func108 RN dJ CP [] [(1,[0,1]),(5,[0,1,2,3,4,6,7])] pz (hJ:= .cons (fun _=>rfl) wP (.nil)) (he:=AFN Ar)
abbrev i109:CI:=⟨[(0,.row mA)],[]⟩
abbrev gh:CI:=zz
def pU:SQ:=mk Tryz.func109 i109 gh BN [] [] []
abbrev i70:CI:=nc
abbrev o70:CI:=⟨zD,AC8⟩
def c70:NK:=⟨i70,o70,(i70.un JB)⟩
def C70:V_:=⟨T,UW (SP.l [kq,j_,k9,lD,pU]),EN [(1,[0,1]),(5,[0,1,2,3,4,5,6,7,8,9,11,13,14,15,16,17,18]),(9,[0,1,2,3,4,5,6,7,8,9,11,12,13,14,16,17,18]),(13,[0,1,2,3,4,5,6,7,8,9,11,12,13,14,15,17,18]),(17,[0,1,2,3,4,5,6,7,8,9,11,12,13,14,15,16,18])]⟩
def la:List (Lp o70):=[⟨3,⟨[(1,M8),(2,UR),(3,V9),(4,CC)],eP⟩,BV⟩,⟨7,⟨[(1,M8),(2,UR),(3,V9),(5,CC)],eP⟩,Be⟩,⟨11,⟨[(1,M8),(2,UR),(3,V9),(6,CC)],eP⟩,BS⟩,⟨15,⟨[(1,M8),(2,UR),(3,V9),(7,CC)],eP⟩,BT⟩]
abbrev cC:CI:=⟨[(1,M8),(2,UR),(3,V9),(4,CC)],eP⟩
abbrev cV:CI:=⟨[(1,M8),(2,UR),(3,V9),(5,CC)],eP⟩
abbrev Wx:CI:=⟨[(1,M8),(2,UR),(3,V9),(6,CC)],eP⟩
abbrev WE:CI:=⟨[(1,M8),(2,UR),(3,V9),(7,CC)],eP⟩
theorem ADo(Sr:ABK→Option C0)(Wt:ABG→Option GU)(TG:ABF→Option C3)(WG:ABE→Option DS)(WS:ABI→Option FQ)(n:Nat)(v:cC.V)(ω:List Bool):Hn ⟨T,UW [(105,⟨i105,gB,i105.un Sr⟩),(106,⟨Wd,gk,Wd.un Wt⟩),(107,⟨i107,ei,i107.un TG⟩),(108,⟨RN,dJ,RN.un WG⟩),(109,⟨i109,gh,i109.un WS⟩)],EN [(1,[0,1]),(5,[0,1,2,3,4,5,6,7,8,9,11,13,14,15,16,17,18]),(9,[0,1,2,3,4,5,6,7,8,9,11,12,13,14,16,17,18]),(13,[0,1,2,3,4,5,6,7,8,9,11,12,13,14,15,17,18]),(17,[0,1,2,3,4,5,6,7,8,9,11,12,13,14,15,16,18])]⟩ c70 Tryz.f70 (Pd 0 la n) 3 ω (cC.st 104 v)=cC.un (fun(t4:Int) (AM:AAQ) (AO:Int) (AU:AAX) (Bz:AAQ) (CB:AAY) (Et:Int) (DD:AA9) (C4:AA_) (Ez:ABA) (FW:AA8) (DV:Bool) (BK:Int) (Ds:Int) (EJ:Bool) (b2:AAQ) (b3:AAX) (b4:AAQ) (b5:AAY) (b6:AA9) (b7:AA_) (b8:ABA) (b9:AA8) (C5:Int) (D6:Int) (CU:Bool) (Ex:AAQ) (DA:AAX) (EV:AAQ) (Ec:AAY) (DQ:AA9) (Di:AA_) (Dx:ABA) (Qu:AA8)=>
 cond ((decide (t4<(AU.length:Int))))
  (if(0:Int)≤t4∧t4<(AU.length:Int)then(
  (Wt ((AU.getD (t4.toNat) ([],[],0,())).1,(AU.getD (t4.toNat) ([],[],0,())).2.1,(AU.getD (t4.toNat) ([],[],0,())).2.2.1,())).bind fun ik=>
  if DA.length+1≤Go.M.Cg then(
  (BV n) (AX (t4+1)) AM AO AU Bz CB Et DD C4 Ez FW DV BK Ds EJ b2 b3 b4 b5 b6 b7 b8 b9 C5 D6 CU Ex (DA++[(ik.2.1,ik.2.2.1,ik.1.1.2.2.1,())]) EV Ec DQ Di Dx Qu)else none)else none)
 ((Be n) 0 AM AO AU Bz CB Et DD C4 Ez FW DV BK Ds EJ b2 b3 b4 b5 b6 b7 b8 b9 C5 D6 CU Ex DA EV Ec DQ Di Dx Qu)) v:=by rcases ω with _|⟨_|_,_|⟨_|_,_⟩⟩<;>kernel_rfl
theorem ACc(n:Nat)(v:cC.V)(ω:List Bool):Hn C70 c70 Tryz.f70 (Pd 0 la n) 3 ω (cC.st 104 v)=cC.un (J7 (BV n) (Be n) (BS n) (BT n)) v:=ADo DK Cc Ct CP BN n v ω
theorem ACG(Sr:ABK→Option C0)(Wt:ABG→Option GU)(TG:ABF→Option C3)(WG:ABE→Option DS)(WS:ABI→Option FQ)(n:Nat)(v:cV.V)(ω:List Bool):Hn ⟨T,UW [(105,⟨i105,gB,i105.un Sr⟩),(106,⟨Wd,gk,Wd.un Wt⟩),(107,⟨i107,ei,i107.un TG⟩),(108,⟨RN,dJ,RN.un WG⟩),(109,⟨i109,gh,i109.un WS⟩)],EN [(1,[0,1]),(5,[0,1,2,3,4,5,6,7,8,9,11,13,14,15,16,17,18]),(9,[0,1,2,3,4,5,6,7,8,9,11,12,13,14,16,17,18]),(13,[0,1,2,3,4,5,6,7,8,9,11,12,13,14,15,17,18]),(17,[0,1,2,3,4,5,6,7,8,9,11,12,13,14,15,16,18])]⟩ c70 Tryz.f70 (Pd 0 la n) 7 ω (cV.st 104 v)=cV.un (fun(t5:Int) (AM:AAQ) (AO:Int) (AU:AAX) (Bz:AAQ) (CB:AAY) (Et:Int) (DD:AA9) (C4:AA_) (Ez:ABA) (FW:AA8) (DV:Bool) (BK:Int) (Ds:Int) (EJ:Bool) (b2:AAQ) (b3:AAX) (b4:AAQ) (b5:AAY) (b6:AA9) (b7:AA_) (b8:ABA) (b9:AA8) (C5:Int) (D6:Int) (CU:Bool) (Ex:AAQ) (DA:AAX) (EV:AAQ) (Ec:AAY) (DQ:AA9) (Di:AA_) (Dx:ABA) (Qu:AA8)=>
 cond ((decide (t5<(DD.length:Int))))
  (if(0:Int)≤t5∧t5<(DD.length:Int)then(
  (TG ((DD.getD (t5.toNat) (0,[],())).1,(DD.getD (t5.toNat) (0,[],())).2.1,())).bind fun m_=>
  if DQ.length+1≤Go.M.Cg then(
  (Be n) (AX (t5+1)) AM AO AU Bz CB Et DD C4 Ez FW DV BK Ds EJ b2 b3 b4 b5 b6 b7 b8 b9 C5 D6 CU Ex DA EV Ec (DQ++[(m_.1.1.1,m_.2.1,())]) Di Dx Qu)else none)else none)
 ((BS n) 0 AM AO AU Bz CB Et DD C4 Ez FW DV BK Ds EJ b2 b3 b4 b5 b6 b7 b8 b9 C5 D6 CU Ex DA EV Ec DQ Di Dx Qu)) v:=by rcases ω with _|⟨_|_,_|⟨_|_,_⟩⟩<;>kernel_rfl
theorem ADa(n:Nat)(v:cV.V)(ω:List Bool):Hn C70 c70 Tryz.f70 (Pd 0 la n) 7 ω (cV.st 104 v)=cV.un (J1 (BV n) (Be n) (BS n) (BT n)) v:=ACG DK Cc Ct CP BN n v ω
theorem yY(Sr:ABK→Option C0)(Wt:ABG→Option GU)(TG:ABF→Option C3)(WG:ABE→Option DS)(WS:ABI→Option FQ)(n:Nat)(v:Wx.V)(ω:List Bool):Hn ⟨T,UW [(105,⟨i105,gB,i105.un Sr⟩),(106,⟨Wd,gk,Wd.un Wt⟩),(107,⟨i107,ei,i107.un TG⟩),(108,⟨RN,dJ,RN.un WG⟩),(109,⟨i109,gh,i109.un WS⟩)],EN [(1,[0,1]),(5,[0,1,2,3,4,5,6,7,8,9,11,13,14,15,16,17,18]),(9,[0,1,2,3,4,5,6,7,8,9,11,12,13,14,16,17,18]),(13,[0,1,2,3,4,5,6,7,8,9,11,12,13,14,15,17,18]),(17,[0,1,2,3,4,5,6,7,8,9,11,12,13,14,15,16,18])]⟩ c70 Tryz.f70 (Pd 0 la n) 11 ω (Wx.st 104 v)=Wx.un (fun(t6:Int) (AM:AAQ) (AO:Int) (AU:AAX) (Bz:AAQ) (CB:AAY) (Et:Int) (DD:AA9) (C4:AA_) (Ez:ABA) (FW:AA8) (DV:Bool) (BK:Int) (Ds:Int) (EJ:Bool) (b2:AAQ) (b3:AAX) (b4:AAQ) (b5:AAY) (b6:AA9) (b7:AA_) (b8:ABA) (b9:AA8) (C5:Int) (D6:Int) (CU:Bool) (Ex:AAQ) (DA:AAX) (EV:AAQ) (Ec:AAY) (DQ:AA9) (Di:AA_) (Dx:ABA) (Qu:AA8)=>
 cond ((decide (t6<(C4.length:Int))))
  (if(0:Int)≤t6∧t6<(C4.length:Int)then(
  (WG ((C4.getD (t6.toNat) (0,0,[],[],false,[],())).1,(C4.getD (t6.toNat) (0,0,[],[],false,[],())).2.1,(C4.getD (t6.toNat) (0,0,[],[],false,[],())).2.2.1,(C4.getD (t6.toNat) (0,0,[],[],false,[],())).2.2.2.1,(C4.getD (t6.toNat) (0,0,[],[],false,[],())).2.2.2.2.1,(C4.getD (t6.toNat) (0,0,[],[],false,[],())).2.2.2.2.2.1,())).bind fun Wq=>
  if Di.length+1≤Go.M.Cg then(
  (BS n) (AX (t6+1)) AM AO AU Bz CB Et DD C4 Ez FW DV BK Ds EJ b2 b3 b4 b5 b6 b7 b8 b9 C5 D6 CU Ex DA EV Ec DQ (Di++[(Wq.1.1.1,Wq.1.1.2.1,Wq.2.1,Wq.2.2.1,Wq.1.1.2.2.2.2.1,Wq.2.2.2.1,())]) Dx Qu)else none)else none)
 ((BT n) 0 AM AO AU Bz CB Et DD C4 Ez FW DV BK Ds EJ b2 b3 b4 b5 b6 b7 b8 b9 C5 D6 CU Ex DA EV Ec DQ Di Dx Qu)) v:=by rcases ω with _|⟨_|_,_|⟨_|_,_⟩⟩<;>kernel_rfl
theorem AAC(n:Nat)(v:Wx.V)(ω:List Bool):Hn C70 c70 Tryz.f70 (Pd 0 la n) 11 ω (Wx.st 104 v)=Wx.un (JO (BV n) (Be n) (BS n) (BT n)) v:=yY DK Cc Ct CP BN n v ω
theorem xF(Sr:ABK→Option C0)(Wt:ABG→Option GU)(TG:ABF→Option C3)(WG:ABE→Option DS)(WS:ABI→Option FQ)(n:Nat)(v:WE.V)(ω:List Bool):Hn ⟨T,UW [(105,⟨i105,gB,i105.un Sr⟩),(106,⟨Wd,gk,Wd.un Wt⟩),(107,⟨i107,ei,i107.un TG⟩),(108,⟨RN,dJ,RN.un WG⟩),(109,⟨i109,gh,i109.un WS⟩)],EN [(1,[0,1]),(5,[0,1,2,3,4,5,6,7,8,9,11,13,14,15,16,17,18]),(9,[0,1,2,3,4,5,6,7,8,9,11,12,13,14,16,17,18]),(13,[0,1,2,3,4,5,6,7,8,9,11,12,13,14,15,17,18]),(17,[0,1,2,3,4,5,6,7,8,9,11,12,13,14,15,16,18])]⟩ c70 Tryz.f70 (Pd 0 la n) 15 ω (WE.st 104 v)=WE.un (fun(t7:Int) (AM:AAQ) (AO:Int) (AU:AAX) (Bz:AAQ) (CB:AAY) (Et:Int) (DD:AA9) (C4:AA_) (Ez:ABA) (FW:AA8) (DV:Bool) (BK:Int) (Ds:Int) (EJ:Bool) (b2:AAQ) (b3:AAX) (b4:AAQ) (b5:AAY) (b6:AA9) (b7:AA_) (b8:ABA) (b9:AA8) (C5:Int) (D6:Int) (CU:Bool) (Ex:AAQ) (DA:AAX) (EV:AAQ) (Ec:AAY) (DQ:AA9) (Di:AA_) (Dx:ABA) (Qu:AA8)=>
 cond ((decide (t7<(Ez.length:Int))))
  (if(0:Int)≤t7∧t7<(Ez.length:Int)then(
  (WS ((Ez.getD (t7.toNat) (0,0,[],())).1,(Ez.getD (t7.toNat) (0,0,[],())).2.1,(Ez.getD (t7.toNat) (0,0,[],())).2.2.1,())).bind fun gq=>
  if Dx.length+1≤Go.M.Cg then(
  (BT n) (AX (t7+1)) AM AO AU Bz CB Et DD C4 Ez FW DV BK Ds EJ b2 b3 b4 b5 b6 b7 b8 b9 C5 D6 CU Ex DA EV Ec DQ Di (Dx++[(gq.1.1.1,gq.1.1.2.1,gq.2.1,())]) Qu)else none)else none)
 (some ((((),C5,(),(),(),D6,(),(),(),(),CU,()),()),(Ex,DA,EV,Ec,DQ,Di,Dx,Qu,())))) v:=by rcases ω with _|⟨_|_,_|⟨_|_,_⟩⟩<;>kernel_rfl
theorem AAJ(n:Nat)(v:WE.V)(ω:List Bool):Hn C70 c70 Tryz.f70 (Pd 0 la n) 15 ω (WE.st 104 v)=WE.un (JU (BV n) (Be n) (BS n) (BT n)) v:=xF DK Cc Ct CP BN n v ω
def AB(ω:List Bool):Prop:= ∀(Sr:ABK→Option C0) (Wt:ABG→Option GU) (TG:ABF→Option C3) (WG:ABE→Option DS) (WS:ABI→Option FQ) (n:Nat) (v:i70.V),HJ ⟨T,UW [(105,⟨i105,gB,i105.un Sr⟩),(106,⟨Wd,gk,Wd.un Wt⟩),(107,⟨i107,ei,i107.un TG⟩),(108,⟨RN,dJ,RN.un WG⟩),(109,⟨i109,gh,i109.un WS⟩)],EN [(1,[0,1]),(5,[0,1,2,3,4,5,6,7,8,9,11,13,14,15,16,17,18]),(9,[0,1,2,3,4,5,6,7,8,9,11,12,13,14,16,17,18]),(13,[0,1,2,3,4,5,6,7,8,9,11,12,13,14,15,17,18]),(17,[0,1,2,3,4,5,6,7,8,9,11,12,13,14,15,16,18])]⟩ c70 Tryz.f70 (Pd 0 la n) ω v=i70.un (fun(p0:List Int×Int×List ABG×List Int×List ABL×Int×List ABF×List ABE×List ABI×List ABN×Bool×Unit)=>
 if 0+p0.1.length≤Go.M.Cg then(
 if 0+p0.2.2.2.1.length≤Go.M.Cg then(
 (Sr (p0.2.2.2.2.1,p0.2.2.2.2.2.1,())).bind fun u2=>
 if 0+p0.2.2.2.2.2.2.2.2.2.1.length≤Go.M.Cg then(
 (BV n) 0 p0.1 p0.2.1 p0.2.2.1 p0.2.2.2.1 p0.2.2.2.2.1 p0.2.2.2.2.2.1 p0.2.2.2.2.2.2.1 p0.2.2.2.2.2.2.2.1 p0.2.2.2.2.2.2.2.2.1 p0.2.2.2.2.2.2.2.2.2.1 p0.2.2.2.2.2.2.2.2.2.2.1 0 0 false [] [] [] [] [] [] [] [] p0.2.1 u2.1.1.2.1 p0.2.2.2.2.2.2.2.2.2.2.1 p0.1 [] p0.2.2.2.1 u2.2.1 [] [] [] p0.2.2.2.2.2.2.2.2.2.1)else none)else none)else none) v
theorem ABk:AB []:=by delta AB;intros;kernel_rfl
theorem ABe:AB (false::[]):=by delta AB;intros;kernel_rfl
theorem ACZ:AB (false::false::[]):=by delta AB;intros;kernel_rfl
theorem ADB:AB (false::false::false::[]):=by delta AB;intros;kernel_rfl
theorem ACD:AB (false::false::false::false::[]):=by delta AB;intros;kernel_rfl
theorem ADm:AB (false::false::false::false::false::[]):=by delta AB;intros;kernel_rfl
theorem ADK(ω:List Bool):AB (false::false::false::false::false::false::ω):=by delta AB;intros;kernel_rfl
theorem ACJ:AB (false::false::false::false::false::true::[]):=by delta AB;intros;kernel_rfl
theorem AC3(ω:List Bool):AB (false::false::false::false::false::true::false::ω):=by delta AB;intros;kernel_rfl
theorem yq(ω:List Bool):AB (false::false::false::false::false::true::true::ω):=by delta AB;intros;kernel_rfl
theorem vi:AB (false::false::false::false::true::[]):=by delta AB;intros;kernel_rfl
theorem xS(ω:List Bool):AB (false::false::false::false::true::false::ω):=by delta AB;intros;kernel_rfl
theorem wc:AB (false::false::false::false::true::true::[]):=by delta AB;intros;kernel_rfl
theorem zn(ω:List Bool):AB (false::false::false::false::true::true::false::ω):=by delta AB;intros;kernel_rfl
theorem xH:AB (false::false::false::false::true::true::true::[]):=by delta AB;intros;kernel_rfl
theorem xT(ω:List Bool):AB (false::false::false::false::true::true::true::false::ω):=by delta AB;intros;kernel_rfl
theorem yp:AB (false::false::false::false::true::true::true::true::[]):=by delta AB;intros;kernel_rfl
theorem xY(ω:List Bool):AB (false::false::false::false::true::true::true::true::false::ω):=by delta AB;intros;kernel_rfl
theorem AAO(ω:List Bool):AB (false::false::false::false::true::true::true::true::true::ω):=by delta AB;intros;kernel_rfl
theorem zF:AB (false::false::false::true::[]):=by delta AB;intros;kernel_rfl
theorem AAx:AB (false::false::false::true::false::[]):=by delta AB;intros;kernel_rfl
theorem wU:AB (false::false::false::true::false::false::[]):=by delta AB;intros;kernel_rfl
theorem w7(ω:List Bool):AB (false::false::false::true::false::false::false::ω):=by delta AB;intros;kernel_rfl
theorem yj(ω:List Bool):AB (false::false::false::true::false::false::true::ω):=by delta AB;intros;kernel_rfl
theorem AA4:AB (false::false::false::true::false::true::[]):=by delta AB;intros;kernel_rfl
theorem vl(ω:List Bool):AB (false::false::false::true::false::true::false::ω):=by delta AB;intros;kernel_rfl
theorem xq:AB (false::false::false::true::false::true::true::[]):=by delta AB;intros;kernel_rfl
theorem w4(ω:List Bool):AB (false::false::false::true::false::true::true::false::ω):=by delta AB;intros;kernel_rfl
theorem zx:AB (false::false::false::true::false::true::true::true::[]):=by delta AB;intros;kernel_rfl
theorem xC(ω:List Bool):AB (false::false::false::true::false::true::true::true::false::ω):=by delta AB;intros;kernel_rfl
theorem wi(ω:List Bool):AB (false::false::false::true::false::true::true::true::true::ω):=by delta AB;intros;kernel_rfl
theorem xh:AB (false::false::false::true::true::[]):=by delta AB;intros;kernel_rfl
theorem wH(ω:List Bool):AB (false::false::false::true::true::false::ω):=by delta AB;intros;kernel_rfl
theorem xk:AB (false::false::false::true::true::true::[]):=by delta AB;intros;kernel_rfl
theorem AAU(ω:List Bool):AB (false::false::false::true::true::true::false::ω):=by delta AB;intros;kernel_rfl
theorem xN:AB (false::false::false::true::true::true::true::[]):=by delta AB;intros;kernel_rfl
theorem xe(ω:List Bool):AB (false::false::false::true::true::true::true::false::ω):=by delta AB;intros;kernel_rfl
theorem xf(ω:List Bool):AB (false::false::false::true::true::true::true::true::ω):=by delta AB;intros;kernel_rfl
theorem zr:AB (false::false::true::[]):=by delta AB;intros;kernel_rfl
theorem xg:AB (false::false::true::false::[]):=by delta AB;intros;kernel_rfl
theorem zP:AB (false::false::true::false::false::[]):=by delta AB;intros;kernel_rfl
theorem zS(ω:List Bool):AB (false::false::true::false::false::false::ω):=by delta AB;intros;kernel_rfl
theorem wQ:AB (false::false::true::false::false::true::[]):=by delta AB;intros;kernel_rfl
theorem xo(ω:List Bool):AB (false::false::true::false::false::true::false::ω):=by delta AB;intros;kernel_rfl
theorem zm(ω:List Bool):AB (false::false::true::false::false::true::true::ω):=by delta AB;intros;kernel_rfl
theorem zV:AB (false::false::true::false::true::[]):=by delta AB;intros;kernel_rfl
theorem yr(ω:List Bool):AB (false::false::true::false::true::false::ω):=by delta AB;intros;kernel_rfl
theorem yf:AB (false::false::true::false::true::true::[]):=by delta AB;intros;kernel_rfl
theorem wm(ω:List Bool):AB (false::false::true::false::true::true::false::ω):=by delta AB;intros;kernel_rfl
theorem AAj:AB (false::false::true::false::true::true::true::[]):=by delta AB;intros;kernel_rfl
theorem ye(ω:List Bool):AB (false::false::true::false::true::true::true::false::ω):=by delta AB;intros;kernel_rfl
theorem vp:AB (false::false::true::false::true::true::true::true::[]):=by delta AB;intros;kernel_rfl
theorem AAL(ω:List Bool):AB (false::false::true::false::true::true::true::true::false::ω):=by delta AB;intros;kernel_rfl
theorem y6:AB (false::false::true::false::true::true::true::true::true::[]):=by delta AB;intros;kernel_rfl
theorem AAF(ω:List Bool):AB (false::false::true::false::true::true::true::true::true::false::ω):=by delta AB;intros;kernel_rfl
theorem vj(ω:List Bool):AB (false::false::true::false::true::true::true::true::true::true::ω):=by delta AB;intros;kernel_rfl
theorem yg:AB (false::false::true::true::[]):=by delta AB;intros;kernel_rfl
theorem AAc:AB (false::false::true::true::false::[]):=by delta AB;intros;kernel_rfl
theorem AAu:AB (false::false::true::true::false::false::[]):=by delta AB;intros;kernel_rfl
theorem y_(ω:List Bool):AB (false::false::true::true::false::false::false::ω):=by delta AB;intros;kernel_rfl
theorem AAV(ω:List Bool):AB (false::false::true::true::false::false::true::ω):=by delta AB;intros;kernel_rfl
theorem y9:AB (false::false::true::true::false::true::[]):=by delta AB;intros;kernel_rfl
theorem xD(ω:List Bool):AB (false::false::true::true::false::true::false::ω):=by delta AB;intros;kernel_rfl
theorem zO:AB (false::false::true::true::false::true::true::[]):=by delta AB;intros;kernel_rfl
theorem vk(ω:List Bool):AB (false::false::true::true::false::true::true::false::ω):=by delta AB;intros;kernel_rfl
theorem xP:AB (false::false::true::true::false::true::true::true::[]):=by delta AB;intros;kernel_rfl
theorem yo(ω:List Bool):AB (false::false::true::true::false::true::true::true::false::ω):=by delta AB;intros;kernel_rfl
theorem wM:AB (false::false::true::true::false::true::true::true::true::[]):=by delta AB;intros;kernel_rfl
theorem vg(ω:List Bool):AB (false::false::true::true::false::true::true::true::true::false::ω):=by delta AB;intros;kernel_rfl
theorem zK(ω:List Bool):AB (false::false::true::true::false::true::true::true::true::true::ω):=by delta AB;intros;kernel_rfl
theorem zf:AB (false::false::true::true::true::[]):=by delta AB;intros;kernel_rfl
theorem yK(ω:List Bool):AB (false::false::true::true::true::false::ω):=by delta AB;intros;kernel_rfl
theorem ya:AB (false::false::true::true::true::true::[]):=by delta AB;intros;kernel_rfl
theorem wY(ω:List Bool):AB (false::false::true::true::true::true::false::ω):=by delta AB;intros;kernel_rfl
theorem yG:AB (false::false::true::true::true::true::true::[]):=by delta AB;intros;kernel_rfl
theorem AAq(ω:List Bool):AB (false::false::true::true::true::true::true::false::ω):=by delta AB;intros;kernel_rfl
theorem yu:AB (false::false::true::true::true::true::true::true::[]):=by delta AB;intros;kernel_rfl
theorem wN(ω:List Bool):AB (false::false::true::true::true::true::true::true::false::ω):=by delta AB;intros;kernel_rfl
theorem x_(ω:List Bool):AB (false::false::true::true::true::true::true::true::true::ω):=by delta AB;intros;kernel_rfl
theorem AAi:AB (false::true::[]):=by delta AB;intros;kernel_rfl
theorem xi:AB (false::true::false::[]):=by delta AB;intros;kernel_rfl
theorem wo:AB (false::true::false::false::[]):=by delta AB;intros;kernel_rfl
theorem zb(ω:List Bool):AB (false::true::false::false::false::ω):=by delta AB;intros;kernel_rfl
theorem zL:AB (false::true::false::false::true::[]):=by delta AB;intros;kernel_rfl
theorem yx(ω:List Bool):AB (false::true::false::false::true::false::ω):=by delta AB;intros;kernel_rfl
theorem zU:AB (false::true::false::false::true::true::[]):=by delta AB;intros;kernel_rfl
theorem AAz(ω:List Bool):AB (false::true::false::false::true::true::false::ω):=by delta AB;intros;kernel_rfl
theorem v_:AB (false::true::false::false::true::true::true::[]):=by delta AB;intros;kernel_rfl
theorem AAW(ω:List Bool):AB (false::true::false::false::true::true::true::false::ω):=by delta AB;intros;kernel_rfl
theorem zo(ω:List Bool):AB (false::true::false::false::true::true::true::true::ω):=by delta AB;intros;kernel_rfl
theorem zA:AB (false::true::false::true::[]):=by delta AB;intros;kernel_rfl
theorem AAg(ω:List Bool):AB (false::true::false::true::false::ω):=by delta AB;intros;kernel_rfl
theorem v7:AB (false::true::false::true::true::[]):=by delta AB;intros;kernel_rfl
theorem wF(ω:List Bool):AB (false::true::false::true::true::false::ω):=by delta AB;intros;kernel_rfl
theorem wG:AB (false::true::false::true::true::true::[]):=by delta AB;intros;kernel_rfl
theorem wL(ω:List Bool):AB (false::true::false::true::true::true::false::ω):=by delta AB;intros;kernel_rfl
theorem xW:AB (false::true::false::true::true::true::true::[]):=by delta AB;intros;kernel_rfl
theorem AA6(ω:List Bool):AB (false::true::false::true::true::true::true::false::ω):=by delta AB;intros;kernel_rfl
theorem AAb:AB (false::true::false::true::true::true::true::true::[]):=by delta AB;intros;kernel_rfl
theorem sf(ω:List Bool):AB (false::true::false::true::true::true::true::true::false::ω):=by delta AB;intros;kernel_rfl
theorem pI(ω:List Bool):AB (false::true::false::true::true::true::true::true::true::ω):=by delta AB;intros;kernel_rfl
theorem re:AB (false::true::true::[]):=by delta AB;intros;kernel_rfl
theorem tB:AB (false::true::true::false::[]):=by delta AB;intros;kernel_rfl
theorem qd:AB (false::true::true::false::false::[]):=by delta AB;intros;kernel_rfl
theorem rQ(ω:List Bool):AB (false::true::true::false::false::false::ω):=by delta AB;intros;kernel_rfl
theorem rP:AB (false::true::true::false::false::true::[]):=by delta AB;intros;kernel_rfl
theorem tZ(ω:List Bool):AB (false::true::true::false::false::true::false::ω):=by delta AB;intros;kernel_rfl
theorem sg:AB (false::true::true::false::false::true::true::[]):=by delta AB;intros;kernel_rfl
theorem uC(ω:List Bool):AB (false::true::true::false::false::true::true::false::ω):=by delta AB;intros;kernel_rfl
theorem pA(ω:List Bool):AB (false::true::true::false::false::true::true::true::ω):=by delta AB;intros;kernel_rfl
theorem uK:AB (false::true::true::false::true::[]):=by delta AB;intros;kernel_rfl
theorem pK(ω:List Bool):AB (false::true::true::false::true::false::ω):=by delta AB;intros;kernel_rfl
theorem qW:AB (false::true::true::false::true::true::[]):=by delta AB;intros;kernel_rfl
theorem sq(ω:List Bool):AB (false::true::true::false::true::true::false::ω):=by delta AB;intros;kernel_rfl
theorem rb:AB (false::true::true::false::true::true::true::[]):=by delta AB;intros;kernel_rfl
theorem px(ω:List Bool):AB (false::true::true::false::true::true::true::false::ω):=by delta AB;intros;kernel_rfl
theorem o9:AB (false::true::true::false::true::true::true::true::[]):=by delta AB;intros;kernel_rfl
theorem oV(ω:List Bool):AB (false::true::true::false::true::true::true::true::false::ω):=by delta AB;intros;kernel_rfl
theorem sb(ω:List Bool):AB (false::true::true::false::true::true::true::true::true::ω):=by delta AB;intros;kernel_rfl
theorem ou:AB (false::true::true::true::[]):=by delta AB;intros;kernel_rfl
theorem ql:AB (false::true::true::true::false::[]):=by delta AB;intros;kernel_rfl
theorem qf:AB (false::true::true::true::false::false::[]):=by delta AB;intros;kernel_rfl
theorem uS(ω:List Bool):AB (false::true::true::true::false::false::false::ω):=by delta AB;intros;kernel_rfl
theorem qR:AB (false::true::true::true::false::false::true::[]):=by delta AB;intros;kernel_rfl
theorem sR(ω:List Bool):AB (false::true::true::true::false::false::true::false::ω):=by delta AB;intros;kernel_rfl
theorem rk(ω:List Bool):AB (false::true::true::true::false::false::true::true::ω):=by delta AB;intros;kernel_rfl
theorem qy:AB (false::true::true::true::false::true::[]):=by delta AB;intros;kernel_rfl
theorem tp(ω:List Bool):AB (false::true::true::true::false::true::false::ω):=by delta AB;intros;kernel_rfl
theorem oS:AB (false::true::true::true::false::true::true::[]):=by delta AB;intros;kernel_rfl
theorem qg(ω:List Bool):AB (false::true::true::true::false::true::true::false::ω):=by delta AB;intros;kernel_rfl
theorem qD:AB (false::true::true::true::false::true::true::true::[]):=by delta AB;intros;kernel_rfl
theorem qS(ω:List Bool):AB (false::true::true::true::false::true::true::true::false::ω):=by delta AB;intros;kernel_rfl
theorem o7(ω:List Bool):AB (false::true::true::true::false::true::true::true::true::ω):=by delta AB;intros;kernel_rfl
theorem sH:AB (false::true::true::true::true::[]):=by delta AB;intros;kernel_rfl
theorem rT:AB (false::true::true::true::true::false::[]):=by delta AB;intros;kernel_rfl
theorem tR:AB (false::true::true::true::true::false::false::[]):=by delta AB;intros;kernel_rfl
theorem uN(ω:List Bool):AB (false::true::true::true::true::false::false::false::ω):=by delta AB;intros;kernel_rfl
theorem qm(ω:List Bool):AB (false::true::true::true::true::false::false::true::ω):=by delta AB;intros;kernel_rfl
theorem uE:AB (false::true::true::true::true::false::true::[]):=by delta AB;intros;kernel_rfl
theorem tA(ω:List Bool):AB (false::true::true::true::true::false::true::false::ω):=by delta AB;intros;kernel_rfl
theorem p8:AB (false::true::true::true::true::false::true::true::[]):=by delta AB;intros;kernel_rfl
theorem uG(ω:List Bool):AB (false::true::true::true::true::false::true::true::false::ω):=by delta AB;intros;kernel_rfl
theorem uY(ω:List Bool):AB (false::true::true::true::true::false::true::true::true::ω):=by delta AB;intros;kernel_rfl
theorem tV:AB (false::true::true::true::true::true::[]):=by delta AB;intros;kernel_rfl
theorem qP(ω:List Bool):AB (false::true::true::true::true::true::false::ω):=by delta AB;intros;kernel_rfl
theorem rS:AB (false::true::true::true::true::true::true::[]):=by delta AB;intros;kernel_rfl
theorem ra(ω:List Bool):AB (false::true::true::true::true::true::true::false::ω):=by delta AB;intros;kernel_rfl
theorem uL(ω:List Bool):AB (false::true::true::true::true::true::true::true::ω):=by delta AB;intros;kernel_rfl
theorem tg:AB (true::[]):=by delta AB;intros;kernel_rfl
theorem pE:AB (true::false::[]):=by delta AB;intros;kernel_rfl
theorem pM:AB (true::false::false::[]):=by delta AB;intros;kernel_rfl
theorem oR:AB (true::false::false::false::[]):=by delta AB;intros;kernel_rfl
theorem pV:AB (true::false::false::false::false::[]):=by delta AB;intros;kernel_rfl
theorem om:AB (true::false::false::false::false::false::[]):=by delta AB;intros;kernel_rfl
theorem qQ(ω:List Bool):AB (true::false::false::false::false::false::false::ω):=by delta AB;intros;kernel_rfl
theorem ub(ω:List Bool):AB (true::false::false::false::false::false::true::ω):=by delta AB;intros;kernel_rfl
theorem qZ:AB (true::false::false::false::false::true::[]):=by delta AB;intros;kernel_rfl
theorem pd(ω:List Bool):AB (true::false::false::false::false::true::false::ω):=by delta AB;intros;kernel_rfl
theorem tE:AB (true::false::false::false::false::true::true::[]):=by delta AB;intros;kernel_rfl
theorem qa(ω:List Bool):AB (true::false::false::false::false::true::true::false::ω):=by delta AB;intros;kernel_rfl
theorem o5:AB (true::false::false::false::false::true::true::true::[]):=by delta AB;intros;kernel_rfl
theorem tG(ω:List Bool):AB (true::false::false::false::false::true::true::true::false::ω):=by delta AB;intros;kernel_rfl
theorem tL(ω:List Bool):AB (true::false::false::false::false::true::true::true::true::ω):=by delta AB;intros;kernel_rfl
theorem qC:AB (true::false::false::false::true::[]):=by delta AB;intros;kernel_rfl
theorem sG(ω:List Bool):AB (true::false::false::false::true::false::ω):=by delta AB;intros;kernel_rfl
theorem tc:AB (true::false::false::false::true::true::[]):=by delta AB;intros;kernel_rfl
theorem uB(ω:List Bool):AB (true::false::false::false::true::true::false::ω):=by delta AB;intros;kernel_rfl
theorem p9:AB (true::false::false::false::true::true::true::[]):=by delta AB;intros;kernel_rfl
theorem pY(ω:List Bool):AB (true::false::false::false::true::true::true::false::ω):=by delta AB;intros;kernel_rfl
theorem sd(ω:List Bool):AB (true::false::false::false::true::true::true::true::ω):=by delta AB;intros;kernel_rfl
theorem uT:AB (true::false::false::true::[]):=by delta AB;intros;kernel_rfl
theorem sc:AB (true::false::false::true::false::[]):=by delta AB;intros;kernel_rfl
theorem pR:AB (true::false::false::true::false::false::[]):=by delta AB;intros;kernel_rfl
theorem sA(ω:List Bool):AB (true::false::false::true::false::false::false::ω):=by delta AB;intros;kernel_rfl
theorem oy(ω:List Bool):AB (true::false::false::true::false::false::true::ω):=by delta AB;intros;kernel_rfl
theorem uV:AB (true::false::false::true::false::true::[]):=by delta AB;intros;kernel_rfl
theorem rI(ω:List Bool):AB (true::false::false::true::false::true::false::ω):=by delta AB;intros;kernel_rfl
theorem sk:AB (true::false::false::true::false::true::true::[]):=by delta AB;intros;kernel_rfl
theorem qz(ω:List Bool):AB (true::false::false::true::false::true::true::false::ω):=by delta AB;intros;kernel_rfl
theorem uU:AB (true::false::false::true::false::true::true::true::[]):=by delta AB;intros;kernel_rfl
theorem qh(ω:List Bool):AB (true::false::false::true::false::true::true::true::false::ω):=by delta AB;intros;kernel_rfl
theorem oG:AB (true::false::false::true::false::true::true::true::true::[]):=by delta AB;intros;kernel_rfl
theorem uO(ω:List Bool):AB (true::false::false::true::false::true::true::true::true::false::ω):=by delta AB;intros;kernel_rfl
theorem pj(ω:List Bool):AB (true::false::false::true::false::true::true::true::true::true::ω):=by delta AB;intros;kernel_rfl
theorem qp:AB (true::false::false::true::true::[]):=by delta AB;intros;kernel_rfl
theorem oW(ω:List Bool):AB (true::false::false::true::true::false::ω):=by delta AB;intros;kernel_rfl
theorem qY:AB (true::false::false::true::true::true::[]):=by delta AB;intros;kernel_rfl
theorem rW(ω:List Bool):AB (true::false::false::true::true::true::false::ω):=by delta AB;intros;kernel_rfl
theorem rJ:AB (true::false::false::true::true::true::true::[]):=by delta AB;intros;kernel_rfl
theorem pr(ω:List Bool):AB (true::false::false::true::true::true::true::false::ω):=by delta AB;intros;kernel_rfl
theorem pS:AB (true::false::false::true::true::true::true::true::[]):=by delta AB;intros;kernel_rfl
theorem p7(ω:List Bool):AB (true::false::false::true::true::true::true::true::false::ω):=by delta AB;intros;kernel_rfl
theorem q_(ω:List Bool):AB (true::false::false::true::true::true::true::true::true::ω):=by delta AB;intros;kernel_rfl
theorem sV:AB (true::false::true::[]):=by delta AB;intros;kernel_rfl
theorem pX:AB (true::false::true::false::[]):=by delta AB;intros;kernel_rfl
theorem rB:AB (true::false::true::false::false::[]):=by delta AB;intros;kernel_rfl
theorem qT(ω:List Bool):AB (true::false::true::false::false::false::ω):=by delta AB;intros;kernel_rfl
theorem oI:AB (true::false::true::false::false::true::[]):=by delta AB;intros;kernel_rfl
theorem uA(ω:List Bool):AB (true::false::true::false::false::true::false::ω):=by delta AB;intros;kernel_rfl
theorem pN:AB (true::false::true::false::false::true::true::[]):=by delta AB;intros;kernel_rfl
theorem pw(ω:List Bool):AB (true::false::true::false::false::true::true::false::ω):=by delta AB;intros;kernel_rfl
theorem sK(ω:List Bool):AB (true::false::true::false::false::true::true::true::ω):=by delta AB;intros;kernel_rfl
theorem tW:AB (true::false::true::false::true::[]):=by delta AB;intros;kernel_rfl
theorem qq(ω:List Bool):AB (true::false::true::false::true::false::ω):=by delta AB;intros;kernel_rfl
theorem oH:AB (true::false::true::false::true::true::[]):=by delta AB;intros;kernel_rfl
theorem ry(ω:List Bool):AB (true::false::true::false::true::true::false::ω):=by delta AB;intros;kernel_rfl
theorem sL:AB (true::false::true::false::true::true::true::[]):=by delta AB;intros;kernel_rfl
theorem sO(ω:List Bool):AB (true::false::true::false::true::true::true::false::ω):=by delta AB;intros;kernel_rfl
theorem rY:AB (true::false::true::false::true::true::true::true::[]):=by delta AB;intros;kernel_rfl
theorem tq(ω:List Bool):AB (true::false::true::false::true::true::true::true::false::ω):=by delta AB;intros;kernel_rfl
theorem oK(ω:List Bool):AB (true::false::true::false::true::true::true::true::true::ω):=by delta AB;intros;kernel_rfl
theorem pC:AB (true::false::true::true::[]):=by delta AB;intros;kernel_rfl
theorem tF:AB (true::false::true::true::false::[]):=by delta AB;intros;kernel_rfl
theorem sU:AB (true::false::true::true::false::false::[]):=by delta AB;intros;kernel_rfl
theorem oU(ω:List Bool):AB (true::false::true::true::false::false::false::ω):=by delta AB;intros;kernel_rfl
theorem sD:AB (true::false::true::true::false::false::true::[]):=by delta AB;intros;kernel_rfl
theorem rK(ω:List Bool):AB (true::false::true::true::false::false::true::false::ω):=by delta AB;intros;kernel_rfl
theorem sZ(ω:List Bool):AB (true::false::true::true::false::false::true::true::ω):=by delta AB;intros;kernel_rfl
theorem rV:AB (true::false::true::true::false::true::[]):=by delta AB;intros;kernel_rfl
theorem pf(ω:List Bool):AB (true::false::true::true::false::true::false::ω):=by delta AB;intros;kernel_rfl
theorem pL:AB (true::false::true::true::false::true::true::[]):=by delta AB;intros;kernel_rfl
theorem oZ(ω:List Bool):AB (true::false::true::true::false::true::true::false::ω):=by delta AB;intros;kernel_rfl
theorem tn:AB (true::false::true::true::false::true::true::true::[]):=by delta AB;intros;kernel_rfl
theorem tP(ω:List Bool):AB (true::false::true::true::false::true::true::true::false::ω):=by delta AB;intros;kernel_rfl
theorem pP(ω:List Bool):AB (true::false::true::true::false::true::true::true::true::ω):=by delta AB;intros;kernel_rfl
theorem pn:AB (true::false::true::true::true::[]):=by delta AB;intros;kernel_rfl
theorem oe:AB (true::false::true::true::true::false::[]):=by delta AB;intros;kernel_rfl
theorem tO:AB (true::false::true::true::true::false::false::[]):=by delta AB;intros;kernel_rfl
theorem rM(ω:List Bool):AB (true::false::true::true::true::false::false::false::ω):=by delta AB;intros;kernel_rfl
theorem qb(ω:List Bool):AB (true::false::true::true::true::false::false::true::ω):=by delta AB;intros;kernel_rfl
theorem rE:AB (true::false::true::true::true::false::true::[]):=by delta AB;intros;kernel_rfl
theorem ov(ω:List Bool):AB (true::false::true::true::true::false::true::false::ω):=by delta AB;intros;kernel_rfl
theorem pZ:AB (true::false::true::true::true::false::true::true::[]):=by delta AB;intros;kernel_rfl
theorem pT(ω:List Bool):AB (true::false::true::true::true::false::true::true::false::ω):=by delta AB;intros;kernel_rfl
theorem qc(ω:List Bool):AB (true::false::true::true::true::false::true::true::true::ω):=by delta AB;intros;kernel_rfl
theorem tv:AB (true::false::true::true::true::true::[]):=by delta AB;intros;kernel_rfl
theorem oc(ω:List Bool):AB (true::false::true::true::true::true::false::ω):=by delta AB;intros;kernel_rfl
theorem qE:AB (true::false::true::true::true::true::true::[]):=by delta AB;intros;kernel_rfl
theorem oN(ω:List Bool):AB (true::false::true::true::true::true::true::false::ω):=by delta AB;intros;kernel_rfl
theorem pH(ω:List Bool):AB (true::false::true::true::true::true::true::true::ω):=by delta AB;intros;kernel_rfl
theorem sw:AB (true::true::[]):=by delta AB;intros;kernel_rfl
theorem ua:AB (true::true::false::[]):=by delta AB;intros;kernel_rfl
theorem rZ:AB (true::true::false::false::[]):=by delta AB;intros;kernel_rfl
theorem rp(ω:List Bool):AB (true::true::false::false::false::ω):=by delta AB;intros;kernel_rfl
theorem rN:AB (true::true::false::false::true::[]):=by delta AB;intros;kernel_rfl
theorem oJ(ω:List Bool):AB (true::true::false::false::true::false::ω):=by delta AB;intros;kernel_rfl
theorem tY:AB (true::true::false::false::true::true::[]):=by delta AB;intros;kernel_rfl
theorem oY(ω:List Bool):AB (true::true::false::false::true::true::false::ω):=by delta AB;intros;kernel_rfl
theorem oQ(ω:List Bool):AB (true::true::false::false::true::true::true::ω):=by delta AB;intros;kernel_rfl
theorem pW:AB (true::true::false::true::[]):=by delta AB;intros;kernel_rfl
theorem qV(ω:List Bool):AB (true::true::false::true::false::ω):=by delta AB;intros;kernel_rfl
theorem t_:AB (true::true::false::true::true::[]):=by delta AB;intros;kernel_rfl
theorem uF(ω:List Bool):AB (true::true::false::true::true::false::ω):=by delta AB;intros;kernel_rfl
theorem ph:AB (true::true::false::true::true::true::[]):=by delta AB;intros;kernel_rfl
theorem qo(ω:List Bool):AB (true::true::false::true::true::true::false::ω):=by delta AB;intros;kernel_rfl
theorem r7:AB (true::true::false::true::true::true::true::[]):=by delta AB;intros;kernel_rfl
theorem qB(ω:List Bool):AB (true::true::false::true::true::true::true::false::ω):=by delta AB;intros;kernel_rfl
theorem uJ(ω:List Bool):AB (true::true::false::true::true::true::true::true::ω):=by delta AB;intros;kernel_rfl
theorem sT:AB (true::true::true::[]):=by delta AB;intros;kernel_rfl
theorem rD:AB (true::true::true::false::[]):=by delta AB;intros;kernel_rfl
theorem rA:AB (true::true::true::false::false::[]):=by delta AB;intros;kernel_rfl
theorem og(ω:List Bool):AB (true::true::true::false::false::false::ω):=by delta AB;intros;kernel_rfl
theorem tC:AB (true::true::true::false::false::true::[]):=by delta AB;intros;kernel_rfl
theorem oq(ω:List Bool):AB (true::true::true::false::false::true::false::ω):=by delta AB;intros;kernel_rfl
theorem sJ(ω:List Bool):AB (true::true::true::false::false::true::true::ω):=by delta AB;intros;kernel_rfl
theorem o6:AB (true::true::true::false::true::[]):=by delta AB;intros;kernel_rfl
theorem qA(ω:List Bool):AB (true::true::true::false::true::false::ω):=by delta AB;intros;kernel_rfl
theorem ri:AB (true::true::true::false::true::true::[]):=by delta AB;intros;kernel_rfl
theorem td(ω:List Bool):AB (true::true::true::false::true::true::false::ω):=by delta AB;intros;kernel_rfl
theorem sX:AB (true::true::true::false::true::true::true::[]):=by delta AB;intros;kernel_rfl
theorem sn(ω:List Bool):AB (true::true::true::false::true::true::true::false::ω):=by delta AB;intros;kernel_rfl
theorem sQ(ω:List Bool):AB (true::true::true::false::true::true::true::true::ω):=by delta AB;intros;kernel_rfl
theorem oM:AB (true::true::true::true::[]):=by delta AB;intros;kernel_rfl
theorem uW:AB (true::true::true::true::false::[]):=by delta AB;intros;kernel_rfl
theorem uX:AB (true::true::true::true::false::false::[]):=by delta AB;intros;kernel_rfl
theorem tN(ω:List Bool):AB (true::true::true::true::false::false::false::ω):=by delta AB;intros;kernel_rfl
theorem uQ(ω:List Bool):AB (true::true::true::true::false::false::true::ω):=by delta AB;intros;kernel_rfl
theorem uH:AB (true::true::true::true::false::true::[]):=by delta AB;intros;kernel_rfl
theorem qX(ω:List Bool):AB (true::true::true::true::false::true::false::ω):=by delta AB;intros;kernel_rfl
theorem tu:AB (true::true::true::true::false::true::true::[]):=by delta AB;intros;kernel_rfl
theorem pQ(ω:List Bool):AB (true::true::true::true::false::true::true::false::ω):=by delta AB;intros;kernel_rfl
theorem tz(ω:List Bool):AB (true::true::true::true::false::true::true::true::ω):=by delta AB;intros;kernel_rfl
theorem pv:AB (true::true::true::true::true::[]):=by delta AB;intros;kernel_rfl
theorem tM(ω:List Bool):AB (true::true::true::true::true::false::ω):=by delta AB;intros;kernel_rfl
theorem si:AB (true::true::true::true::true::true::[]):=by delta AB;intros;kernel_rfl
theorem rR(ω:List Bool):AB (true::true::true::true::true::true::false::ω):=by delta AB;intros;kernel_rfl
theorem ta(ω:List Bool):AB (true::true::true::true::true::true::true::ω):=by delta AB;intros;kernel_rfl
theorem b70(Sr:ABK→Option C0)(Wt:ABG→Option GU)(TG:ABF→Option C3)(WG:ABE→Option DS)(WS:ABI→Option FQ)(n:Nat)(ω:List Bool)(v:i70.V):HJ ⟨T,UW [(105,⟨i105,gB,i105.un Sr⟩),(106,⟨Wd,gk,Wd.un Wt⟩),(107,⟨i107,ei,i107.un TG⟩),(108,⟨RN,dJ,RN.un WG⟩),(109,⟨i109,gh,i109.un WS⟩)],EN [(1,[0,1]),(5,[0,1,2,3,4,5,6,7,8,9,11,13,14,15,16,17,18]),(9,[0,1,2,3,4,5,6,7,8,9,11,12,13,14,16,17,18]),(13,[0,1,2,3,4,5,6,7,8,9,11,12,13,14,15,17,18]),(17,[0,1,2,3,4,5,6,7,8,9,11,12,13,14,15,16,18])]⟩ c70 Tryz.f70 (Pd 0 la n) ω v=i70.un (fun(p0:List Int×Int×List ABG×List Int×List ABL×Int×List ABF×List ABE×List ABI×List ABN×Bool×Unit)=>
 if 0+p0.1.length≤Go.M.Cg then(
 if 0+p0.2.2.2.1.length≤Go.M.Cg then(
 (Sr (p0.2.2.2.2.1,p0.2.2.2.2.2.1,())).bind fun u2=>
 if 0+p0.2.2.2.2.2.2.2.2.2.1.length≤Go.M.Cg then(
 (BV n) 0 p0.1 p0.2.1 p0.2.2.1 p0.2.2.2.1 p0.2.2.2.2.1 p0.2.2.2.2.2.1 p0.2.2.2.2.2.2.1 p0.2.2.2.2.2.2.2.1 p0.2.2.2.2.2.2.2.2.1 p0.2.2.2.2.2.2.2.2.2.1 p0.2.2.2.2.2.2.2.2.2.2.1 0 0 false [] [] [] [] [] [] [] [] p0.2.1 u2.1.1.2.1 p0.2.2.2.2.2.2.2.2.2.2.1 p0.1 [] p0.2.2.2.1 u2.2.1 [] [] [] p0.2.2.2.2.2.2.2.2.2.1)else none)else none)else none) v:=(AD ABk (AD ABe (AD ACZ (AD ADB (AD ACD (AD ADm ADK (AD ACJ AC3 yq)) (AD vi xS (AD wc zn (AD xH xT (AD yp xY AAO))))) (AD zF (AD AAx (AD wU w7 yj) (AD AA4 vl (AD xq w4 (AD zx xC wi)))) (AD xh wH (AD xk AAU (AD xN xe xf))))) (AD zr (AD xg (AD zP zS (AD wQ xo zm)) (AD zV yr (AD yf wm (AD AAj ye (AD vp AAL (AD y6 AAF vj)))))) (AD yg (AD AAc (AD AAu y_ AAV) (AD y9 xD (AD zO vk (AD xP yo (AD wM vg zK))))) (AD zf yK (AD ya wY (AD yG AAq (AD yu wN x_))))))) (AD AAi (AD xi (AD wo zb (AD zL yx (AD zU AAz (AD v_ AAW zo)))) (AD zA AAg (AD v7 wF (AD wG wL (AD xW AA6 (AD AAb sf pI)))))) (AD re (AD tB (AD qd rQ (AD rP tZ (AD sg uC pA))) (AD uK pK (AD qW sq (AD rb px (AD o9 oV sb))))) (AD ou (AD ql (AD qf uS (AD qR sR rk)) (AD qy tp (AD oS qg (AD qD qS o7)))) (AD sH (AD rT (AD tR uN qm) (AD uE tA (AD p8 uG uY))) (AD tV qP (AD rS ra uL))))))) (AD tg (AD pE (AD pM (AD oR (AD pV (AD om qQ ub) (AD qZ pd (AD tE qa (AD o5 tG tL)))) (AD qC sG (AD tc uB (AD p9 pY sd)))) (AD uT (AD sc (AD pR sA oy) (AD uV rI (AD sk qz (AD uU qh (AD oG uO pj))))) (AD qp oW (AD qY rW (AD rJ pr (AD pS p7 q_)))))) (AD sV (AD pX (AD rB qT (AD oI uA (AD pN pw sK))) (AD tW qq (AD oH ry (AD sL sO (AD rY tq oK))))) (AD pC (AD tF (AD sU oU (AD sD rK sZ)) (AD rV pf (AD pL oZ (AD tn tP pP)))) (AD pn (AD oe (AD tO rM qb) (AD rE ov (AD pZ pT qc))) (AD tv oc (AD qE oN pH)))))) (AD sw (AD ua (AD rZ rp (AD rN oJ (AD tY oY oQ))) (AD pW qV (AD t_ uF (AD ph qo (AD r7 qB uJ))))) (AD sT (AD rD (AD rA og (AD tC oq sJ)) (AD o6 qA (AD ri td (AD sX sn sQ)))) (AD oM (AD uW (AD uX tN uQ) (AD uH qX (AD tu pQ tz))) (AD pv tM (AD si rR ta))))))) ω Sr Wt TG WG WS n v
theorem e70(n:Nat)(ω:List Bool)(v:i70.V):HJ C70 c70 Tryz.f70 (Pd 0 la n) ω v=i70.un (J4 (BV n) (Be n) (BS n) (BT n)) v:=b70 DK Cc Ct CP BN n ω v
def s70:SQ:=mk Tryz.func70 i70 o70 JB [kq,j_,k9,lD,pU] [(1,[0,1]),(5,[0,1,2,3,4,5,6,7,8,9,11,13,14,15,16,17,18]),(9,[0,1,2,3,4,5,6,7,8,9,11,12,13,14,16,17,18]),(13,[0,1,2,3,4,5,6,7,8,9,11,12,13,14,15,17,18]),(17,[0,1,2,3,4,5,6,7,8,9,11,12,13,14,15,16,18])] la (hJ:= .cons (fun _=>rfl) ACc (.cons (fun _=>rfl) ADa (.cons (fun _=>rfl) AAC (.cons (fun _=>rfl) AAJ (.nil))))) (he:=e70 Ar)
def ADl:SQ:=mk Tryz.func125 Kg kg IP [ZU] [] [⟨3,⟨[(0,CC),(3,ug),(4,CC)],[Dd]⟩,EW⟩]
abbrev i124:CI:=⟨[(0,an),(1,.row Y5),(2,Zj)],[]⟩
abbrev yd:CI:=⟨[(0,.Hd [.inr [.ref 0,.v tI],.inl (.v tI),.inl (.v .bool)])],[PA]⟩
def c124:NK:=⟨i124,yd,(i124.un I3)⟩
def AEl:V_:=⟨T,UW (SP.l [kV,kq,lP]),EN [(6,[0,1,2])]⟩
def yA:List (Lp yd):=[]
theorem AEw(g41:ABD→List Int→Option V6)(Sr:ABK→Option C0)(ACN:ABD→ABK→Option Km)(n:Nat)(ω:List Bool)(v:i124.V):HJ ⟨T,UW [(41,⟨i41,o41,i41.un g41⟩),(105,⟨i105,gB,i105.un Sr⟩),(121,⟨vu,ADL,vu.un ACN⟩)],EN [(6,[0,1,2])]⟩ c124 Tryz.f124 (Pd 0 yA n) ω v=i124.un (fun(p0:ABD) (p1:ABK) (p2:AAQ)=>
 (ACN (p0.1,p0.2.1,()) (p1.1,p1.2.1,())).bind fun u1=>
 cond (!u1.1.1)
  (some (((((),0,()),0,false,()),()),([],())))
 ((Sr (p1.1,p1.2.1,())).bind fun u2=>
 (g41 (p0.1,p0.2.1,()) p2).bind fun u3=>
 cond (!u3.1.1)
  (some (((((),u2.1.1.2.1,()),0,false,()),()),(u2.2.1,())))
 (cond (((p1.1.length:Int)==30))
  (some (((((),u2.1.1.2.1,()),0,false,()),()),(u2.2.1,())))
 (if 0+p2.length≤Go.M.Cg then(
 if u2.2.1.length+1≤Go.M.Cg then(
 let x5:AAY:=u2.2.1++[(p2,false,0,())]
 some (((((),u2.1.1.2.1,()),(x5.length:Int),true,()),()),(x5,())))else none)else none)))) v:=by rcases ω with _|⟨_|_,_|⟨_|_,_|⟨_|_,_|⟨_|_,_|⟨_|_,_⟩⟩⟩⟩⟩<;>kernel_rfl
theorem AEj(n:Nat)(ω:List Bool)(v:i124.V):HJ AEl c124 Tryz.f124 (Pd 0 yA n) ω v=i124.un (I3) v:=AEw Cr DK HI n ω v
def AE1:SQ:=mk Tryz.func124 i124 yd I3 [kV,kq,lP] [(6,[0,1,2])] yA (hJ:= .nil) (he:=AEj Ar)
def s90:SQ:=mk Tryz.func90 R_ ⟨[(0,.Hd [.inr [.ref 0,.v tI,.ref 1,.ref 2,.ref 8,.v tI,.ref 9,.ref 10,.ref 6,.ref 7,.v .bool],.inl (.v tI)])],[FG,Xt,FG,Jy,Jy,Jy,Nr,N_,Nj,aS,T2]⟩ N7 [AE1,ADl] [(3,[0,1,2,3,4,5,6,7,8,9,10])] [] (he:=fun ω v=>by rcases ω with _|⟨_|_,_|⟨_|_,_⟩⟩<;>kernel_rfl)
def AA1:SQ:=mk Tryz.func126 nI Iz G6 [ZU] [] []
abbrev i127:CI:=⟨[(0,an),(1,.row Y7),(2,S9)],[]⟩
abbrev xK:CI:=⟨[(0,.Hd [.inr [.v tI,.ref 0],.inl (.v tI),.inl (.v .bool)])],[.sl 9 Y6]⟩
def c127:NK:=⟨i127,xK,(i127.un G1)⟩
def AFY:V_:=⟨T,UW (SP.l [k9,mO]),EN []⟩
def z6:List (Lp xK):=[]
theorem AFx(TG:ABF→Option C3)(AAI:ABD→ABF→Option Hk)(n:Nat)(ω:List Bool)(v:i127.V):HJ ⟨T,UW [(107,⟨i107,ei,i107.un TG⟩),(122,⟨AAf,ACl,AAf.un AAI⟩)],EN []⟩ c127 Tryz.f127 (Pd 0 z6 n) ω v=i127.un (fun(p0:ABD) (p1:ABF) (p2:AAh)=>
 (AAI (p0.1,p0.2.1,()) (p1.1,p1.2.1,())).bind fun u1=>
 cond (!u1.1.1)
  (some ((((0,(),()),0,false,()),()),([],())))
 ((TG (p1.1,p1.2.1,())).bind fun u2=>
 if u2.2.1.length+1≤Go.M.Cg then(
 let x3:ABM:=u2.2.1++[(p2,[],false,())]
 (AAI (p0.1,p0.2.1,()) (u2.1.1.1,x3,())).bind fun u4=>
 cond (!u4.1.1)
  ((TG (p1.1,p1.2.1,())).bind fun u5=>
  some ((((u5.1.1.1,(),()),0,false,()),()),(u5.2.1,())))
 (some ((((u2.1.1.1,(),()),(x3.length:Int),true,()),()),(x3,()))))else none)) v:=by rcases ω with _|⟨_|_,_|⟨_|_,_⟩⟩<;>kernel_rfl
theorem AFD(n:Nat)(ω:List Bool)(v:i127.V):HJ AFY c127 Tryz.f127 (Pd 0 z6 n) ω v=i127.un (G1) v:=AFx Ct D7 n ω v
def AE2:SQ:=mk Tryz.func127 i127 xK G1 [k9,mO] [] z6 (hJ:= .nil) (he:=AFD Ar)
abbrev i51:CI:=kI
abbrev vH:CI:=Kg
def xQ:SQ:=mk Tryz.func51 i51 vH Bv [] [] []
def s91:SQ:=mk Tryz.func91 R_ ⟨[(0,.Hd [.inr [.ref 0,.v tI,.ref 1,.ref 2,.ref 3,.v tI,.ref 4,.ref 5,.ref 6,.ref 8,.v .bool],.inl (.v tI)])],[FG,Xt,FG,Nj,aS,T2,Nr,Jy,N_]⟩ Pb [xQ,AA1,AE2] [(3,[0,1,2,3,4,5,6,7,8,9,10]),(7,[0,1,2,3,4,5,6,7,8,9,10]),(11,[0,1,2,3,4,5,6,7,8,9,10,11,12,13,14,15,16,17,18]),(18,[0,1,2,3,4,5,6,7,8,9,10,11,12,13,14,15,16,17,18,19])] [⟨9,⟨[(2,Uw),(4,WT),(9,X6),(10,CC)],[FG,Xt,FG,Nj,aS,T2,Nr,N_,bI,cj,Dd,Sa,Dd,PA,Sf,Se,Sd,RV,ADU]⟩,Gz⟩,⟨16,⟨[(2,Uw),(4,WT),(9,X6),(11,.c (.ref 19)),(12,oD),(13,CC)],[FG,Xt,FG,Nj,aS,T2,Nr,N_,bI,cj,Dd,Sa,Dd,PA,Sf,Se,Sd,RV,ADU,RV]⟩,GA⟩] (he:=fun ω v=>by rcases ω with _|⟨_|_,_|⟨_|_,_|⟨_|_,_⟩⟩⟩<;>kernel_rfl)
def il:SQ:=mk Tryz.func128 nI Kg EA [ZU,X_] [] []
def AFX:SQ:=mk Tryz.func162 ud Iz OL [lY] [(2,[0,1])] []
def ADj:SQ:=mk Tryz.func129 ud fi Ji [j_,gy,oL,AFX] [] []
def s92:SQ:=mk Tryz.func92 R_ cX MQ [ZU,xQ,uy,X_,AA1,il,ADj] [(9,[0,1,2,3,4,5,6,7,8,9,10,11]),(11,[0,1,2,3,4,5,6,7,8,9,10,11,12])] [] (he:=fun ω v=>by rcases ω with _|⟨_|_,_|⟨_|_,_⟩⟩<;>kernel_rfl)
def ADM:SQ:=mk Tryz.func182 ⟨[(0,.row Y2),(1,.row Y2)],[]⟩ ⟨[(0,.agg [.v tI,.v tI,.v .bool,.v .str])],[]⟩ KE [] [] []
def wu:SQ:=mk Tryz.func168 ⟨[(0,dw),(1,.row Y2)],[]⟩ nW KH [ADM] [(6,[0,1]),(7,[0]),(9,[0,1])] [⟨4,⟨[(0,dw),(3,M8),(5,wT),(6,oD),(7,CC)],[wj,Mc]⟩,FX⟩]
def ADD:SQ:=mk Tryz.func147 jr fi Hg [ZU,j_,gy,wu] [(3,[0,1]),(8,[0,1,2,3,5,6])] [⟨5,vM,FR⟩] (he:=fun ω v=>by rcases ω with _|⟨_|_,_|⟨_|_,_⟩⟩<;>kernel_rfl)
def ACt:SQ:=mk Tryz.func130 r9 fi Il [ADD] [] []
abbrev Uz:CI:=ACU
abbrev ef:CI:=ue
def tS:SQ:=mk Tryz.func163 Uz ef D3 [] [] [⟨2,⟨[(0,dw),(1,CC),(4,M8),(6,CC)],[wj]⟩,Jg⟩]
abbrev i164:CI:=⟨[(0,an),(1,.row Y7),(2,CC),(3,CC)],[]⟩
abbrev gF:CI:=uj
def AB9:SQ:=mk Tryz.func164 i164 gF Cy [ZU,kV,s73,k9,mO] [(6,[0,1,2,4]),(7,[0,1,2,4])] []
def s64:SQ:=mk Tryz.func64 kI jt IQ [ZU] [] []
abbrev i141:CI:=⟨[(0,.row Y8),(1,CC)],[]⟩
abbrev gA:CI:=ue
def AAG:SQ:=mk Tryz.func141 i141 gA CX [s64,tS] [] []
abbrev U3:CI:=⟨[(0,an),(1,.row Y8),(2,CC),(3,CC)],[]⟩
abbrev fu:CI:=i6
def AC1:SQ:=mk Tryz.func165 U3 fu D_ [ZU,s73,lD,j9] [(6,[0,1,2,3,4,6])] []
abbrev i131:CI:=⟨[(0,xB),(1,CC)],[FG,T_,FG,Nj,aS,T2,Nr,N_]⟩
abbrev wK:CI:=⟨zD,ADq⟩
def c131:NK:=⟨i131,wK,(i131.un Nh)⟩
def kk:V_:=⟨T,UW (SP.l [xQ,lY,s57,uy,X_,AAG,tS,AB9,AC1]),EN [(10,[0,1,2,3,4,5,6,7,8,9,10,11]),(18,[0,1,2,3,4,5,6,7,8,9,10,11,12,13,14,15,16,17,18,19])]⟩
def VZ:List (Lp wK):=[⟨3,⟨[(1,CC),(2,Uw),(4,WT),(5,X6),(6,CC)],[FG,T_,FG,Nj,VN,T2,Nr,N_,bI,cj,Dd,Sa,Dd,PA,Sf,Se,Sd,RV,iJ]⟩,Aq⟩,⟨8,⟨[(1,CC),(2,Uw),(4,WT),(5,X6),(6,CC),(7,Wi),(8,CC),(46,.c (.ptr 18 2)),(47,CC),(48,Wi),(49,CC),(50,oD)],rG⟩,AZ⟩,⟨15,⟨[(1,CC),(2,Uw),(4,WT),(5,X6),(6,CC),(7,Wi),(11,CC),(46,.c (.ptr 18 2)),(47,CC),(48,Wi),(49,CC),(50,oD)],rG⟩,Ab⟩,⟨21,⟨[(1,CC),(2,Uw),(4,WT),(5,X6),(13,CC)],[FG,T_,FG,Nj,VN,.sl 1 Y8,Nr,N_,bI,cj,Dd,Sa,Dd,PA,Sf,Se,Sd,RV,iJ]⟩,Au⟩,⟨25,⟨[(1,CC),(2,Uw),(4,WT),(5,X6),(13,CC),(14,Wi),(15,CC)],[FG,T_,FG,Nj,VN,.sl 1 Y8,Nr,N_,bI,cj,Dd,Sa,Dd,PA,Sf,Se,Sd,RV,iJ,.mem [.v tI,.v tI,.sl true tI,.sl true Y2,.v .bool,.sl true (.sl tI)]]⟩,Ap⟩]
abbrev XB:CI:=⟨[(1,CC),(2,Uw),(4,WT),(5,X6),(6,CC)],[FG,T_,FG,Nj,VN,T2,Nr,N_,bI,cj,Dd,Sa,Dd,PA,Sf,Se,Sd,RV,iJ]⟩
abbrev Rh:CI:=⟨[(1,CC),(2,Uw),(4,WT),(5,X6),(6,CC),(7,Wi),(8,CC),(46,.c (.ptr 18 2)),(47,CC),(48,Wi),(49,CC),(50,oD)],rG⟩
abbrev To:CI:=⟨[(1,CC),(2,Uw),(4,WT),(5,X6),(6,CC),(7,Wi),(11,CC),(46,.c (.ptr 18 2)),(47,CC),(48,Wi),(49,CC),(50,oD)],rG⟩
abbrev Tu:CI:=⟨[(1,CC),(2,Uw),(4,WT),(5,X6),(13,CC)],[FG,T_,FG,Nj,VN,.sl 1 Y8,Nr,N_,bI,cj,Dd,Sa,Dd,PA,Sf,Se,Sd,RV,iJ]⟩
abbrev Tx:CI:=⟨[(1,CC),(2,Uw),(4,WT),(5,X6),(13,CC),(14,Wi),(15,CC)],[FG,T_,FG,Nj,VN,.sl 1 Y8,Nr,N_,bI,cj,Dd,Sa,Dd,PA,Sf,Se,Sd,RV,iJ,.mem [.v tI,.v tI,.sl true tI,.sl true Y2,.v .bool,.sl true (.sl tI)]]⟩
theorem wS(gT:Int→Int→Option ED)(iU:Int→Option EG)(gZ:Int→Option GN)(gX:ABK→Int→Option Dp)(T8:List Int→Int→Option DW)(UT:ABE→Int→Option DG)(S6:ABB→Int→Option Df)(Tz:ABD→ABF→Int→Int→Option DF)(Uh:ABD→ABE→Int→Int→Option EP)(n:Nat)(v:XB.V)(ω:List Bool):Hn ⟨T,UW [(51,⟨i51,vH,i51.un gT⟩),(56,⟨ie,u_,ie.un iU⟩),(57,⟨ga,vC,ga.un gZ⟩),(74,⟨iD,uz,iD.un gX⟩),(110,⟨UU,fx,UU.un T8⟩),(141,⟨i141,gA,i141.un UT⟩),(163,⟨Uz,ef,Uz.un S6⟩),(164,⟨i164,gF,i164.un Tz⟩),(165,⟨U3,fu,U3.un Uh⟩)],EN [(10,[0,1,2,3,4,5,6,7,8,9,10,11]),(18,[0,1,2,3,4,5,6,7,8,9,10,11,12,13,14,15,16,17,18,19])]⟩ c131 Tryz.f131 (Pd 8 VZ n) 3 ω (XB.st 207 v)=XB.un (fun(t1:Int) (t6:Int) (b0:AAQ) (b1:AAX) (b2:AAQ) (b3:AAY) (b4:AA9) (b5:AA_) (b6:ABA) (b7:AA8) (B9:Int) (CF:Int) (BI:Bool) (Cw:Int) (DJ:Int) (Bo:Bool) (KB:AAQ) (Ex:AAX) (DA:AAQ) (EV:AAY) (Ec:AA9) (DQ:AA_) (Di:ABA) (Dx:AA8) (Ba:ABB) (Bl:ABB) (Bc:Int)=>
 cond ((decide (t6<(b4.length:Int))))
  (if(0:Int)≤t6∧t6<(b4.length:Int)then(
  (gX (b3,CF,()) ((b4.getD (t6.toNat) (0,[],())).1)).bind fun u3=>
  (T8 u3.2.1 t1).bind fun u4=>
  cond (!u4.1.1)
   ((Aq n) t1 (AX (t6+1)) b0 b1 b2 b3 b4 b5 b6 b7 B9 CF BI Cw DJ Bo KB Ex DA EV Ec DQ Di Dx Ba Bl Bc)
  (let x5:Int:=(b4.getD (t6.toNat) (0,[],())).1
  cond (decide (Bc≥x5))
   ((Aq n) t1 (AX (t6+1)) b0 b1 b2 b3 b4 b5 b6 b7 B9 CF BI Cw DJ Bo KB Ex DA EV Ec DQ Di Dx Ba Bl Bc)
  ((AZ n) t1 t6 1 Bc x5 (decide (Bc≥x5)) b0 b1 b2 b3 b4 b5 b6 b7 B9 CF BI Cw DJ Bo KB Ex DA EV Ec DQ Di Dx Ba Bl Bc ((b4.getD (t6.toNat) (0,[],())).1) ((b4.getD (t6.toNat) (0,[],())).2.1))))else none)
 ((Au n) t1 0 b0 b1 b2 b3 b4 b5 b6 b7 B9 CF BI Cw DJ Bo KB Ex DA EV Ec DQ Di Dx Ba Bl Bc)) v:=by kernel_rfl
theorem wx(n:Nat)(v:XB.V)(ω:List Bool):Hn kk c131 Tryz.f131 (Pd 8 VZ n) 3 ω (XB.st 207 v)=XB.un (HW (Aq n) (AZ n) (Ab n) (Au n) (Ap n)) v:=wS Bv Bd DY BW Bu CX D3 Cy D_ n v ω
def As(ω:List Bool):Prop:= ∀(gT:Int→Int→Option ED) (iU:Int→Option EG) (gZ:Int→Option GN) (gX:ABK→Int→Option Dp) (T8:List Int→Int→Option DW) (UT:ABE→Int→Option DG) (S6:ABB→Int→Option Df) (Tz:ABD→ABF→Int→Int→Option DF) (Uh:ABD→ABE→Int→Int→Option EP) (n:Nat) (v:Rh.V),Hn ⟨T,UW [(51,⟨i51,vH,i51.un gT⟩),(56,⟨ie,u_,ie.un iU⟩),(57,⟨ga,vC,ga.un gZ⟩),(74,⟨iD,uz,iD.un gX⟩),(110,⟨UU,fx,UU.un T8⟩),(141,⟨i141,gA,i141.un UT⟩),(163,⟨Uz,ef,Uz.un S6⟩),(164,⟨i164,gF,i164.un Tz⟩),(165,⟨U3,fu,U3.un Uh⟩)],EN [(10,[0,1,2,3,4,5,6,7,8,9,10,11]),(18,[0,1,2,3,4,5,6,7,8,9,10,11,12,13,14,15,16,17,18,19])]⟩ c131 Tryz.f131 (Pd 8 VZ n) 8 ω (Rh.st 207 v)=Rh.un (fun(t1:Int) (t6:Int) (t8:Int) (t47:Int) (t49:Int) (t50:Bool) (b0:AAQ) (b1:AAX) (b2:AAQ) (b3:AAY) (b4:AA9) (b5:AA_) (b6:ABA) (b7:AA8) (B9:Int) (CF:Int) (BI:Bool) (Cw:Int) (DJ:Int) (Bo:Bool) (KB:AAQ) (Ex:AAX) (DA:AAQ) (EV:AAY) (Ec:AA9) (DQ:AA_) (Di:ABA) (Dx:AA8) (Ba:ABB) (Bl:ABB) (Bc:Int) (CR:Int) (BR:ABM)=>
 cond ((decide (t8≤(BR.length:Int))))
  ((gT CR t8).bind fun u7=>
  (S6 Ba u7.1.1).bind fun u8=>
  cond (!u8.1.1.2.1)
   ((AZ n) t1 t6 (AX (t8+1)) t47 t49 t50 b0 b1 b2 b3 b4 b5 b6 b7 B9 CF BI Cw DJ Bo KB Ex DA EV Ec DQ Di Dx Ba Bl Bc CR BR)
  (cond (u8.1.1.1.2.1 !=0)
   ((AZ n) t1 t6 (AX (t8+1)) t47 t49 t50 b0 b1 b2 b3 b4 b5 b6 b7 B9 CF BI Cw DJ Bo KB Ex DA EV Ec DQ Di Dx Ba Bl Bc CR BR)
  (if(0:Int)≤AX (t8-1)∧AX (t8-1)<(BR.length:Int)then(
  cond (((BR.getD ((AX (t8-1)).toNat) ([],[],false,())).2.2.1))
   ((AZ n) t1 t6 (AX (t8+1)) t47 t49 t50 b0 b1 b2 b3 b4 b5 b6 b7 B9 CF BI Cw DJ Bo KB Ex DA EV Ec DQ Di Dx Ba Bl Bc CR BR)
  ((Tz (b0,B9,()) (CR,BR,()) t8 t1).bind fun Ft=>
  (AZ n) t1 t6 (AX (t8+1)) t47 t49 t50 b0 b1 b2 b3 b4 b5 b6 b7 B9 CF BI Cw DJ Bo KB Ex DA EV Ec DQ Di Dx Ba Bl Bc Ft.1.1.1.1 Ft.2.1))else none)))
 (if(0:Int)≤t6∧t6<(b4.length:Int)then(
 (Ab n) t1 t6 0 t47 t49 t50 b0 b1 b2 b3 (b4.set (t6.toNat) (CR,BR,())) b5 b6 b7 B9 CF BI Cw DJ Bo KB Ex DA EV Ec DQ Di Dx Ba Bl Bc CR BR)else none)) v
theorem nx:As []:=by delta As;intros;kernel_rfl
theorem l6:As (false::[]):=by delta As;intros;kernel_rfl
theorem nt:As (false::false::[]):=by delta As;intros;kernel_rfl
theorem nf:As (false::false::false::[]):=by delta As;intros;kernel_rfl
theorem mj(ω:List Bool):As (false::false::false::false::ω):=by delta As;intros;kernel_rfl
theorem mw(ω:List Bool):As (false::false::false::true::ω):=by delta As;intros;kernel_rfl
theorem nu(ω:List Bool):As (false::false::true::ω):=by delta As;intros;kernel_rfl
theorem mP:As (false::true::[]):=by delta As;intros;kernel_rfl
theorem nr:As (false::true::false::[]):=by delta As;intros;kernel_rfl
theorem kF:As (false::true::false::false::[]):=by delta As;intros;kernel_rfl
theorem kZ(ω:List Bool):As (false::true::false::false::false::ω):=by delta As;intros;kernel_rfl
theorem lN(ω:List Bool):As (false::true::false::false::true::ω):=by delta As;intros;kernel_rfl
theorem j4:As (false::true::false::true::[]):=by delta As;intros;kernel_rfl
theorem kP(ω:List Bool):As (false::true::false::true::false::ω):=by delta As;intros;kernel_rfl
theorem kR:As (false::true::false::true::true::[]):=by delta As;intros;kernel_rfl
theorem lI(ω:List Bool):As (false::true::false::true::true::false::ω):=by delta As;intros;kernel_rfl
theorem j8(ω:List Bool):As (false::true::false::true::true::true::ω):=by delta As;intros;kernel_rfl
theorem lK:As (false::true::true::[]):=by delta As;intros;kernel_rfl
theorem kG(ω:List Bool):As (false::true::true::false::ω):=by delta As;intros;kernel_rfl
theorem kj:As (false::true::true::true::[]):=by delta As;intros;kernel_rfl
theorem lL(ω:List Bool):As (false::true::true::true::false::ω):=by delta As;intros;kernel_rfl
theorem kJ(ω:List Bool):As (false::true::true::true::true::ω):=by delta As;intros;kernel_rfl
theorem ke:As (true::[]):=by delta As;intros;kernel_rfl
theorem kA(ω:List Bool):As (true::false::ω):=by delta As;intros;kernel_rfl
theorem lB:As (true::true::[]):=by delta As;intros;kernel_rfl
theorem kU(ω:List Bool):As (true::true::false::ω):=by delta As;intros;kernel_rfl
theorem kB:As (true::true::true::[]):=by delta As;intros;kernel_rfl
theorem ku(ω:List Bool):As (true::true::true::false::ω):=by delta As;intros;kernel_rfl
theorem km(ω:List Bool):As (true::true::true::true::ω):=by delta As;intros;kernel_rfl
theorem wq(gT:Int→Int→Option ED)(iU:Int→Option EG)(gZ:Int→Option GN)(gX:ABK→Int→Option Dp)(T8:List Int→Int→Option DW)(UT:ABE→Int→Option DG)(S6:ABB→Int→Option Df)(Tz:ABD→ABF→Int→Int→Option DF)(Uh:ABD→ABE→Int→Int→Option EP)(n:Nat)(v:Rh.V)(ω:List Bool):Hn ⟨T,UW [(51,⟨i51,vH,i51.un gT⟩),(56,⟨ie,u_,ie.un iU⟩),(57,⟨ga,vC,ga.un gZ⟩),(74,⟨iD,uz,iD.un gX⟩),(110,⟨UU,fx,UU.un T8⟩),(141,⟨i141,gA,i141.un UT⟩),(163,⟨Uz,ef,Uz.un S6⟩),(164,⟨i164,gF,i164.un Tz⟩),(165,⟨U3,fu,U3.un Uh⟩)],EN [(10,[0,1,2,3,4,5,6,7,8,9,10,11]),(18,[0,1,2,3,4,5,6,7,8,9,10,11,12,13,14,15,16,17,18,19])]⟩ c131 Tryz.f131 (Pd 8 VZ n) 8 ω (Rh.st 207 v)=Rh.un (fun(t1:Int) (t6:Int) (t8:Int) (t47:Int) (t49:Int) (t50:Bool) (b0:AAQ) (b1:AAX) (b2:AAQ) (b3:AAY) (b4:AA9) (b5:AA_) (b6:ABA) (b7:AA8) (B9:Int) (CF:Int) (BI:Bool) (Cw:Int) (DJ:Int) (Bo:Bool) (KB:AAQ) (Ex:AAX) (DA:AAQ) (EV:AAY) (Ec:AA9) (DQ:AA_) (Di:ABA) (Dx:AA8) (Ba:ABB) (Bl:ABB) (Bc:Int) (CR:Int) (BR:ABM)=>
 cond ((decide (t8≤(BR.length:Int))))
  ((gT CR t8).bind fun u7=>
  (S6 Ba u7.1.1).bind fun u8=>
  cond (!u8.1.1.2.1)
   ((AZ n) t1 t6 (AX (t8+1)) t47 t49 t50 b0 b1 b2 b3 b4 b5 b6 b7 B9 CF BI Cw DJ Bo KB Ex DA EV Ec DQ Di Dx Ba Bl Bc CR BR)
  (cond (u8.1.1.1.2.1 !=0)
   ((AZ n) t1 t6 (AX (t8+1)) t47 t49 t50 b0 b1 b2 b3 b4 b5 b6 b7 B9 CF BI Cw DJ Bo KB Ex DA EV Ec DQ Di Dx Ba Bl Bc CR BR)
  (if(0:Int)≤AX (t8-1)∧AX (t8-1)<(BR.length:Int)then(
  cond (((BR.getD ((AX (t8-1)).toNat) ([],[],false,())).2.2.1))
   ((AZ n) t1 t6 (AX (t8+1)) t47 t49 t50 b0 b1 b2 b3 b4 b5 b6 b7 B9 CF BI Cw DJ Bo KB Ex DA EV Ec DQ Di Dx Ba Bl Bc CR BR)
  ((Tz (b0,B9,()) (CR,BR,()) t8 t1).bind fun Ft=>
  (AZ n) t1 t6 (AX (t8+1)) t47 t49 t50 b0 b1 b2 b3 b4 b5 b6 b7 B9 CF BI Cw DJ Bo KB Ex DA EV Ec DQ Di Dx Ba Bl Bc Ft.1.1.1.1 Ft.2.1))else none)))
 (if(0:Int)≤t6∧t6<(b4.length:Int)then(
 (Ab n) t1 t6 0 t47 t49 t50 b0 b1 b2 b3 (b4.set (t6.toNat) (CR,BR,())) b5 b6 b7 B9 CF BI Cw DJ Bo KB Ex DA EV Ec DQ Di Dx Ba Bl Bc CR BR)else none)) v:=(AD nx (AD l6 (AD nt (AD nf mj mw) nu) (AD mP (AD nr (AD kF kZ lN) (AD j4 kP (AD kR lI j8))) (AD lK kG (AD kj lL kJ)))) (AD ke kA (AD lB kU (AD kB ku km)))) ω gT iU gZ gX T8 UT S6 Tz Uh n v
theorem AA7(n:Nat)(v:Rh.V)(ω:List Bool):Hn kk c131 Tryz.f131 (Pd 8 VZ n) 8 ω (Rh.st 207 v)=Rh.un (HF (Aq n) (AZ n) (Ab n) (Au n) (Ap n)) v:=wq Bv Bd DY BW Bu CX D3 Cy D_ n v ω
theorem qj(gT:Int→Int→Option ED)(iU:Int→Option EG)(gZ:Int→Option GN)(gX:ABK→Int→Option Dp)(T8:List Int→Int→Option DW)(UT:ABE→Int→Option DG)(S6:ABB→Int→Option Df)(Tz:ABD→ABF→Int→Int→Option DF)(Uh:ABD→ABE→Int→Int→Option EP)(n:Nat)(v:To.V)(ω:List Bool):Hn ⟨T,UW [(51,⟨i51,vH,i51.un gT⟩),(56,⟨ie,u_,ie.un iU⟩),(57,⟨ga,vC,ga.un gZ⟩),(74,⟨iD,uz,iD.un gX⟩),(110,⟨UU,fx,UU.un T8⟩),(141,⟨i141,gA,i141.un UT⟩),(163,⟨Uz,ef,Uz.un S6⟩),(164,⟨i164,gF,i164.un Tz⟩),(165,⟨U3,fu,U3.un Uh⟩)],EN [(10,[0,1,2,3,4,5,6,7,8,9,10,11]),(18,[0,1,2,3,4,5,6,7,8,9,10,11,12,13,14,15,16,17,18,19])]⟩ c131 Tryz.f131 (Pd 8 VZ n) 15 ω (To.st 207 v)=To.un (fun(t1:Int) (t6:Int) (t11:Int) (t47:Int) (t49:Int) (t50:Bool) (b0:AAQ) (b1:AAX) (b2:AAQ) (b3:AAY) (b4:AA9) (b5:AA_) (b6:ABA) (b7:AA8) (B9:Int) (CF:Int) (BI:Bool) (Cw:Int) (DJ:Int) (Bo:Bool) (KB:AAQ) (Ex:AAX) (DA:AAQ) (EV:AAY) (Ec:AA9) (DQ:AA_) (Di:ABA) (Dx:AA8) (Ba:ABB) (Bl:ABB) (Bc:Int) (CR:Int) (BR:ABM)=>
 cond ((decide (t11<(b7.length:Int))))
  (if(0:Int)≤t11∧t11<(b7.length:Int)then(
  let zp:Int:=(b7.getD (t11.toNat) (0,[],false,())).1
  (iU zp).bind fun u66=>
  cond (u66.1.1==CR)
   ((gZ zp).bind fun u67=>
   cond ((decide (u67.1.1≤(BR.length:Int))))
    ((gZ zp).bind fun xX=>
    if(0:Int)≤AX (xX.1.1-1)∧AX (xX.1.1-1)<(BR.length:Int)then(
    cond (((BR.getD ((AX (xX.1.1-1)).toNat) ([],[],false,())).2.2.1))
     (if(0:Int)≤t11∧t11<(b7.length:Int)then(
     (Ab n) t1 t6 (AX (t11+1)) t47 t49 t50 b0 b1 b2 b3 b4 b5 b6 (b7.set (t11.toNat) ((b7.getD (t11.toNat) (0,[],false,())).1,(b7.getD (t11.toNat) (0,[],false,())).2.1,true,())) B9 CF BI Cw DJ Bo KB Ex DA EV Ec DQ Di Dx Ba Bl Bc CR BR)else none)
    ((Ab n) t1 t6 (AX (t11+1)) t47 t49 t50 b0 b1 b2 b3 b4 b5 b6 b7 B9 CF BI Cw DJ Bo KB Ex DA EV Ec DQ Di Dx Ba Bl Bc CR BR))else none)
   ((Ab n) t1 t6 (AX (t11+1)) t47 t49 t50 b0 b1 b2 b3 b4 b5 b6 b7 B9 CF BI Cw DJ Bo KB Ex DA EV Ec DQ Di Dx Ba Bl Bc CR BR))
  ((Ab n) t1 t6 (AX (t11+1)) t47 t49 t50 b0 b1 b2 b3 b4 b5 b6 b7 B9 CF BI Cw DJ Bo KB Ex DA EV Ec DQ Di Dx Ba Bl Bc CR BR))else none)
 ((Aq n) t1 (AX (t6+1)) b0 b1 b2 b3 b4 b5 b6 b7 B9 CF BI Cw DJ Bo KB Ex DA EV Ec DQ Di Dx Ba Bl Bc)) v:=by kernel_rfl
theorem sE(n:Nat)(v:To.V)(ω:List Bool):Hn kk c131 Tryz.f131 (Pd 8 VZ n) 15 ω (To.st 207 v)=To.un (Gi (Aq n) (AZ n) (Ab n) (Au n) (Ap n)) v:=qj Bv Bd DY BW Bu CX D3 Cy D_ n v ω
theorem qx(gT:Int→Int→Option ED)(iU:Int→Option EG)(gZ:Int→Option GN)(gX:ABK→Int→Option Dp)(T8:List Int→Int→Option DW)(UT:ABE→Int→Option DG)(S6:ABB→Int→Option Df)(Tz:ABD→ABF→Int→Int→Option DF)(Uh:ABD→ABE→Int→Int→Option EP)(n:Nat)(v:Tu.V)(ω:List Bool):Hn ⟨T,UW [(51,⟨i51,vH,i51.un gT⟩),(56,⟨ie,u_,ie.un iU⟩),(57,⟨ga,vC,ga.un gZ⟩),(74,⟨iD,uz,iD.un gX⟩),(110,⟨UU,fx,UU.un T8⟩),(141,⟨i141,gA,i141.un UT⟩),(163,⟨Uz,ef,Uz.un S6⟩),(164,⟨i164,gF,i164.un Tz⟩),(165,⟨U3,fu,U3.un Uh⟩)],EN [(10,[0,1,2,3,4,5,6,7,8,9,10,11]),(18,[0,1,2,3,4,5,6,7,8,9,10,11,12,13,14,15,16,17,18,19])]⟩ c131 Tryz.f131 (Pd 8 VZ n) 21 ω (Tu.st 207 v)=Tu.un (fun(t1:Int) (t13:Int) (b0:AAQ) (b1:AAX) (b2:AAQ) (b3:AAY) (b4:AA9) (b5:AA_) (b6:ABA) (b7:AA8) (B9:Int) (CF:Int) (BI:Bool) (Cw:Int) (DJ:Int) (Bo:Bool) (KB:AAQ) (Ex:AAX) (DA:AAQ) (EV:AAY) (Ec:AA9) (DQ:AA_) (Di:ABA) (Dx:AA8) (Ba:ABB) (Bl:ABB) (Bc:Int)=>
 cond ((decide (t13<(b5.length:Int))))
  (if(0:Int)≤t13∧t13<(b5.length:Int)then(
  (Ap n) t1 t13 1 b0 b1 b2 b3 b4 b5 b6 b7 B9 CF BI Cw DJ Bo KB Ex DA EV Ec DQ Di Dx Ba Bl Bc ((b5.getD (t13.toNat) (0,0,[],[],false,[],())).1) ((b5.getD (t13.toNat) (0,0,[],[],false,[],())).2.1) ((b5.getD (t13.toNat) (0,0,[],[],false,[],())).2.2.1) ((b5.getD (t13.toNat) (0,0,[],[],false,[],())).2.2.2.1) ((b5.getD (t13.toNat) (0,0,[],[],false,[],())).2.2.2.2.1) ((b5.getD (t13.toNat) (0,0,[],[],false,[],())).2.2.2.2.2.1))else none)
 (some ((((),B9,(),(),(),CF,(),(),(),(),BI,()),()),(b0,b1,b2,b3,b4,b5,b6,b7,())))) v:=by kernel_rfl
theorem rf(n:Nat)(v:Tu.V)(ω:List Bool):Hn kk c131 Tryz.f131 (Pd 8 VZ n) 21 ω (Tu.st 207 v)=Tu.un (Gk (Aq n) (AZ n) (Ab n) (Au n) (Ap n)) v:=qx Bv Bd DY BW Bu CX D3 Cy D_ n v ω
theorem qM(gT:Int→Int→Option ED)(iU:Int→Option EG)(gZ:Int→Option GN)(gX:ABK→Int→Option Dp)(T8:List Int→Int→Option DW)(UT:ABE→Int→Option DG)(S6:ABB→Int→Option Df)(Tz:ABD→ABF→Int→Int→Option DF)(Uh:ABD→ABE→Int→Int→Option EP)(n:Nat)(v:Tx.V)(ω:List Bool):Hn ⟨T,UW [(51,⟨i51,vH,i51.un gT⟩),(56,⟨ie,u_,ie.un iU⟩),(57,⟨ga,vC,ga.un gZ⟩),(74,⟨iD,uz,iD.un gX⟩),(110,⟨UU,fx,UU.un T8⟩),(141,⟨i141,gA,i141.un UT⟩),(163,⟨Uz,ef,Uz.un S6⟩),(164,⟨i164,gF,i164.un Tz⟩),(165,⟨U3,fu,U3.un Uh⟩)],EN [(10,[0,1,2,3,4,5,6,7,8,9,10,11]),(18,[0,1,2,3,4,5,6,7,8,9,10,11,12,13,14,15,16,17,18,19])]⟩ c131 Tryz.f131 (Pd 8 VZ n) 25 ω (Tx.st 207 v)=Tx.un (fun(t1:Int) (t13:Int) (t15:Int) (b0:AAQ) (b1:AAX) (b2:AAQ) (b3:AAY) (b4:AA9) (b5:AA_) (b6:ABA) (b7:AA8) (B9:Int) (CF:Int) (BI:Bool) (Cw:Int) (DJ:Int) (Bo:Bool) (KB:AAQ) (Ex:AAX) (DA:AAQ) (EV:AAY) (Ec:AA9) (DQ:AA_) (Di:ABA) (Dx:AA8) (Ba:ABB) (Bl:ABB) (Bc:Int) (CR:Int) (BR:Int) (Q2:AAQ) (Q8:ABB) (Q7:Bool) (Mg:List AAQ)=>
 if(0:Int)≤t13∧t13<(b5.length:Int)then(
 cond (decide (t15≤(((b5.getD (t13.toNat) (0,0,[],[],false,[],())).2.2.2.2.2.1).length:Int)))
  ((gX (b3,CF,()) BR).bind fun u74=>
  (T8 u74.2.1 t1).bind fun u75=>
  cond (u75.1.1)
   ((UT (CR,BR,Q2,Q8,Q7,Mg,()) t15).bind fun nO=>
   (S6 Ba nO.1.1.1.1).bind fun mH=>
   cond (mH.1.1.2.1)
    (cond (((mH.1.1.1.1==nO.1.1.1.1)&&((mH.1.1.1.2.1==nO.1.1.1.2.1)&&((mH.1.1.1.2.2.1==nO.1.1.1.2.2.1)&&((mH.1.1.1.2.2.2.1==nO.1.1.1.2.2.2.1)&&true)))))
     ((Uh (b0,B9,()) (CR,BR,Q2,Q8,Q7,Mg,()) t15 t1).bind fun j7=>
     (Ap n) t1 t13 (AX (t15+1)) b0 b1 b2 b3 b4 b5 b6 b7 B9 CF BI Cw DJ Bo KB Ex DA EV Ec DQ Di Dx Ba Bl Bc j7.1.1.1.1 j7.1.1.1.2.1 j7.2.1 j7.2.2.1 j7.1.1.1.2.2.2.2.1 j7.2.2.2.1)
    ((Ap n) t1 t13 (AX (t15+1)) b0 b1 b2 b3 b4 b5 b6 b7 B9 CF BI Cw DJ Bo KB Ex DA EV Ec DQ Di Dx Ba Bl Bc CR BR Q2 Q8 Q7 Mg))
   ((Ap n) t1 t13 (AX (t15+1)) b0 b1 b2 b3 b4 b5 b6 b7 B9 CF BI Cw DJ Bo KB Ex DA EV Ec DQ Di Dx Ba Bl Bc CR BR Q2 Q8 Q7 Mg))
  (if(0:Int)≤t13∧t13<(b5.length:Int)then(
  (Au n) t1 (AX (t13+1)) b0 b1 b2 b3 b4 (b5.set (t13.toNat) (CR,BR,Q2,Q8,Q7,Mg,())) b6 b7 B9 CF BI Cw DJ Bo KB Ex DA EV Ec DQ Di Dx Ba Bl Bc)else none))
 (if(0:Int)≤t13∧t13<(b5.length:Int)then(
 (Au n) t1 (AX (t13+1)) b0 b1 b2 b3 b4 (b5.set (t13.toNat) (CR,BR,Q2,Q8,Q7,Mg,())) b6 b7 B9 CF BI Cw DJ Bo KB Ex DA EV Ec DQ Di Dx Ba Bl Bc)else none))else none) v:=by kernel_rfl
theorem qO(n:Nat)(v:Tx.V)(ω:List Bool):Hn kk c131 Tryz.f131 (Pd 8 VZ n) 25 ω (Tx.st 207 v)=Tx.un (Es (Aq n) (AZ n) (Ab n) (Au n) (Ap n)) v:=qM Bv Bd DY BW Bu CX D3 Cy D_ n v ω
theorem AFz(gT:Int→Int→Option ED)(iU:Int→Option EG)(gZ:Int→Option GN)(gX:ABK→Int→Option Dp)(T8:List Int→Int→Option DW)(UT:ABE→Int→Option DG)(S6:ABB→Int→Option Df)(Tz:ABD→ABF→Int→Int→Option DF)(Uh:ABD→ABE→Int→Int→Option EP)(n:Nat)(ω:List Bool)(v:i131.V):HJ ⟨T,UW [(51,⟨i51,vH,i51.un gT⟩),(56,⟨ie,u_,ie.un iU⟩),(57,⟨ga,vC,ga.un gZ⟩),(74,⟨iD,uz,iD.un gX⟩),(110,⟨UU,fx,UU.un T8⟩),(141,⟨i141,gA,i141.un UT⟩),(163,⟨Uz,ef,Uz.un S6⟩),(164,⟨i164,gF,i164.un Tz⟩),(165,⟨U3,fu,U3.un Uh⟩)],EN [(10,[0,1,2,3,4,5,6,7,8,9,10,11]),(18,[0,1,2,3,4,5,6,7,8,9,10,11,12,13,14,15,16,17,18,19])]⟩ c131 Tryz.f131 (Pd 8 VZ n) ω v=i131.un (fun(BH:Int) (BM:Int) (Ak:Bool) (p1:Int) (b0:AAQ) (b1:AAX) (b2:AAQ) (b3:AAY) (b4:AA9) (b5:AA_) (b6:ABA) (b7:AA8)=>
 if(0:Int)≤p1∧p1<(b1.length:Int)then(
 (Aq n) p1 0 b0 b1 b2 b3 b4 b5 b6 b7 BH BM Ak 0 0 false [] [] [] [] [] [] [] [] ((b1.getD (p1.toNat) ([],[],0,())).1) ((b1.getD (p1.toNat) ([],[],0,())).2.1) ((b1.getD (p1.toNat) ([],[],0,())).2.2.1))else none) v:=by kernel_rfl
theorem AFK(n:Nat)(ω:List Bool)(v:i131.V):HJ kk c131 Tryz.f131 (Pd 8 VZ n) ω v=i131.un (J8 (Aq n) (AZ n) (Ab n) (Au n) (Ap n)) v:=AFz Bv Bd DY BW Bu CX D3 Cy D_ n ω v
def AGJ:SQ:=mk Tryz.func131 i131 wK Nh [xQ,lY,s57,uy,X_,AAG,tS,AB9,AC1] [(10,[0,1,2,3,4,5,6,7,8,9,10,11]),(18,[0,1,2,3,4,5,6,7,8,9,10,11,12,13,14,15,16,17,18,19])] VZ (hJ:= .cons (fun _=>rfl) wx (.cons (fun _=>rfl) AA7 (.cons (fun _=>rfl) sE (.cons (fun _=>rfl) rf (.cons (fun _=>rfl) qO (.nil)))))) (he:=AFK Ar)
def s93:SQ:=mk Tryz.func93 R_ ux N8 [il,ACt,AGJ] [] []
def lp:SQ:=mk Tryz.func135 ur kg E7 [X_] [] [⟨3,⟨[(0,Zj),(1,Zj),(5,ug),(6,CC)],[Dd]⟩,Ii⟩]
def AFm:SQ:=mk Tryz.func132 ⟨[(0,an),(1,.row Y7),(2,CC)],[]⟩ uj H7 [k9,mO,lp] [(8,[0,1,2])] [⟨5,⟨[(2,CC),(6,M8),(8,.c (.ptr 2 0)),(9,CC)],[.mem [.v tI,.ref 1],.sl 9 Y6,.mem [.v tI,.ref 3],.sl 9 Y6]⟩,EM⟩] (hJ:= .cons (fun _=>rfl) (fun n v ω=>by rcases ω with _|⟨_|_,_⟩<;>kernel_rfl) (.nil))
def AFE:SQ:=mk Tryz.func133 ⟨[(0,an),(1,.row Y8),(2,CC)],[]⟩ i6 Ju [lD,j9,lp] [(7,[0,1,2,3,4,5,6])] [⟨5,⟨[(2,CC),(6,M8),(8,th),(9,CC)],[.mem [.v tI,.v tI,.ref 1,.ref 2,.v .bool,.ref 3],Dd,Mc,iN,.mem [.v tI,.v tI,.ref 5,.ref 6,.v .bool,.ref 7],Dd,Mc,iN]⟩,FU⟩] (hJ:= .cons (fun _=>rfl) (fun n v ω=>by rcases ω with _|⟨_|_,_⟩<;>kernel_rfl) (.nil))
def s94:SQ:=mk Tryz.func94 R_ ⟨AB1,[FG,Xt,Jy,Nj,aS,T2,Nr,N_,FG]⟩ OD [kV,s73,il,AFm,AFE] [(9,[0,1,2,3,5,6,7,8,9,10,11,12,13,14,15,16,17,18,19]),(13,[0,1,2,3,4,6,7,8,9,10,11,12,13,14,15,16,17,18,19])] [⟨7,⟨[(2,Uw),(3,V9),(4,.c (.ptr 11 0)),(7,CC)],ACV⟩,F7⟩,⟨11,⟨[(2,Uw),(3,V9),(4,.c (.ptr 11 0)),(8,CC)],ACV⟩,FC⟩]
def AFW:SQ:=mk Tryz.func166 rO Iz Pw [kV,s65] [] []
def AFv:SQ:=mk Tryz.func167 ⟨[(0,.c (.sl false Y3))],[]⟩ nW Qa [wu] [] [⟨3,⟨[(0,.c (.sl false Y3)),(3,ug),(4,CC)],[Mc]⟩,FB⟩,⟨6,⟨[(0,.c (.sl false Y3)),(3,ug),(4,CC),(5,CC)],[Mc]⟩,FE⟩]
def AFl:SQ:=mk Tryz.func134 ⟨[(0,an),(1,ug),(2,Zj),(3,CC),(4,CC)],[Xt]⟩ ⟨[(0,.Hd [.inr [.ref 1,.ref 2,.v tI],.inl (.v .bool)])],[T_,Mc,Mc]⟩ Ts [uk,X_,gy,AFW,AFv] [] [⟨6,⟨[(1,ug),(2,Zj),(4,CC),(10,UR),(12,th),(13,.c (.ref 7)),(14,CC)],ADn⟩,JE⟩,⟨11,⟨[(4,CC),(10,UR),(12,th),(13,.c (.ref 7)),(15,CC)],ADn⟩,Ht⟩]
def s95:SQ:=mk Tryz.func95 R_ ⟨AB1,[FG,T_,Jy,Nj,aS,T2,Nr,N_,FG]⟩ OA [s75,X_,AFl,lp] [(3,[0,2,3,4,5,6,7,8,9,10])] [] (he:=fun ω v=>by rcases ω with _|⟨_|_,_|⟨_|_,_⟩⟩<;>kernel_rfl)
def AFU:SQ:=mk Tryz.func136 kI ui VY [] [] []
def s96:SQ:=mk Tryz.func96 ll ⟨[(0,.Hd [.inr [.ref 0,.v tI,.ref 1,.ref 2,.ref 3,.v tI,.ref 4,.ref 8,.ref 6,.ref 7,.v .bool],.inl (.v tI)])],[FG,Xt,FG,Nj,aS,Jy,Nr,N_,T2]⟩ N6 [s47,AFU] [] []
def AGA:SQ:=mk Tryz.func137 jr fi LX [ZU,s75,j_,gy,ACt] [] []
def AFi:SQ:=mk Tryz.func139 jr nW MW [lY,gy] [] [⟨3,⟨[(1,CC),(2,M8),(5,wT),(6,CC)],[ACg,Mc]⟩,FD⟩]
def AEu:SQ:=mk Tryz.func138 ⟨[(0,an),(1,.row Y8),(2,CC),(3,dw)],[]⟩ i6 MJ [lY,s73,lD,j9,wu] [(8,[0,1,2,3,4,5,6,7,8,9]),(9,[0,1,2,3,4,5,7,8,9])] [⟨6,⟨[(3,dw),(4,M8),(5,UR),(8,.c (.ptr 2 0)),(10,.c (.ptr 6 0)),(11,CC)],[eV,tD,.mem [.v tI,.v tI,.ref 3,.ref 4,.v .bool,.ref 5],Dd,Mc,iN,.mem [.v tI,.v tI,.ref 7,.ref 8,.v .bool,.ref 9],Dd,Mc,iN]⟩,Gx⟩]
def s97:SQ:=mk Tryz.func97 R_ cX Nk [uy,X_,il,AGA,AEu,AFi] [(7,[0,1,2,3,4,5,6,7,8,9,10,11]),(9,[0,1,2,3,4,5,6,7,8,9,10,11,12]),(10,[0,1,2,3,4,5,6,7,8,9,10,11,12,13,14,15])] [] (he:=fun ω v=>by rcases ω with _|⟨_|_,_|⟨_|_,_|⟨_|_,_⟩⟩⟩<;>kernel_rfl)
def AB7:SQ:=mk Tryz.func170 ur kg GQ [lp] [] []
def ACb:SQ:=mk Tryz.func169 ⟨[(0,an),(1,Zj),(2,Zj)],[]⟩ Iz GH [kV,s65,s66,lp] [(3,[0,1])] []
def AFT:SQ:=mk Tryz.func140 ⟨[(0,an),(1,.row Y8),(2,Zj)],[]⟩ i6 MU [lD,j9,ACs,ACb,AB7] [(4,[0,1,2,3,4,5,6])] [⟨8,⟨[(4,M8),(6,UR),(8,.c (.ptr 5 0)),(9,CC)],yL⟩,HC⟩]
def s98:SQ:=mk Tryz.func98 ll cX Nq [uy,AFT] [(3,[0,1,2,3,4,5,6,7,8,9])] [] (he:=fun ω v=>by rcases ω with _|⟨_|_,_|⟨_|_,_⟩⟩<;>kernel_rfl)
def s99:SQ:=mk Tryz.func99 R_ cX P2 [uy,X_,il,ADj,AAG] [(3,[0,1,2,3,4,5,6,7,8,9,10]),(9,[0,1,2,3,4,5,6,7,8,9,10,11]),(11,[0,1,2,3,4,5,6,7,8,9,10,11,12])] [] (he:=fun ω v=>by rcases ω with _|⟨_|_,_|⟨_|_,_⟩⟩<;>kernel_rfl)
def AFB:SQ:=mk Tryz.func142 vN Iz LA [kV,j9] [(6,[0,1])] [⟨4,vJ,GG⟩]
def AFZ:SQ:=mk Tryz.func143 ⟨[(0,an),(1,.row Y5),(2,CC),(3,CC)],[]⟩ vX MR [ZU,s47,kq,lP] [] []
def AEf:SQ:=mk Tryz.func100 ll ⟨[(0,.Hd [.inr [.ref 0,.v tI,.ref 1,.ref 2,.ref 8,.v tI,.ref 4,.ref 9,.ref 6,.ref 7,.v .bool],.inl (.v tI)])],[FG,Xt,FG,Jy,aS,Jy,Nr,N_,Nj,T2]⟩ MG [AFB,AFZ] [(3,[0,1,2,3,4,5,6,7,8,9]),(5,[0,1,2,3,4,5,6,7,8,9])] [] (he:=fun ω v=>by rcases ω with _|⟨_|_,_⟩<;>kernel_rfl)
def AFL:SQ:=mk Tryz.func101 ⟨[(0,an),(1,.row Y5),(2,CC)],[]⟩ vX Ns [rL,lY,s75,kq,lP] [(4,[0,1,2,3,4])] []
def AF1:SQ:=mk Tryz.func174 ⟨[(0,.row Y7)],[]⟩ Kg M9 [] [] [⟨2,⟨ot,[yE]⟩,Fh⟩]
def AEm:SQ:=mk Tryz.func145 nI Kg TH [AF1] [] [⟨2,⟨[(1,CC),(2,M8),(5,CC)],rC⟩,IW⟩]
def AEn:SQ:=mk Tryz.func146 ⟨[(0,.row Y12),(1,.row mA),(2,CC)],[]⟩ ⟨qt,[.sl 9 Y14]⟩ Jj [xQ,ADl,il,tS] [(6,[0,1,2,3]),(7,[0,1,2,3]),(8,[0,1,3,4])] [⟨4,⟨[(3,M8),(4,UR),(7,xP8),(8,.c (.ref 3)),(9,CC)],[q8,.mem [.v tI,.v tI,.sl false Y9],.sl 9 Y14,Dd]⟩,Fg⟩] (hJ:= .cons (fun _=>rfl) (fun n v ω=>by rcases ω with _|⟨_|_,_|⟨_|_,_⟩⟩<;>kernel_rfl) (.nil))
def AGL:SQ:=mk Tryz.func171 ⟨[(0,an),(1,ly)],[]⟩ ⟨[(0,.Hd [.inl (.ref 0),.inl (.v .bool)])],[Dd]⟩ QE [s65] [] [⟨3,⟨[(1,ly),(2,M8),(6,wT),(7,CC)],[eV,Dd]⟩,G9⟩]
def AEi:SQ:=mk Tryz.func172 ⟨[(0,.row mA),(1,.row Y9),(2,CC),(3,CC)],[]⟩ zz Ey [pU] [] []
def AFt:SQ:=mk Tryz.func173 ⟨[(0,Zj),(1,CC),(2,ly)],[]⟩ ⟨[(0,.agg [.v tI,.v tI,.v .str])],[]⟩ Hb [X_,oL,ADM] [] [⟨4,⟨[(0,Zj),(1,CC),(2,ly),(6,M8),(7,UR),(8,oD),(9,CC)],[.mem [.v tI,.v tI,.v .str],wj]⟩,Hj⟩]
def AEy:SQ:=mk Tryz.func144 ⟨[(0,an),(1,.row Y5),(2,CC),(3,.row mA),(4,ly)],[]⟩ ⟨[(0,.Hd [.inr [.v tI,.v tI,.ref 0],.inl (.v tI)])],[.sl 9 Y9]⟩ Jx [xQ,lY,s57,s88,pU,lP,ACb,AB7,AGL,AEi,AFt] [(9,[0,1,2,4,5]),(14,[0,1,2,3,4,5]),(16,[0,1,2,4,5,6])] []
def AEv:SQ:=mk Tryz.func102 R_ cX OG [ZU,AEy,AEm,AEn] [(3,[0,1,2,3,4,5,6,7,8,9,10])] [] (he:=fun ω v=>by rcases ω with _|⟨_|_,_|⟨_|_,_|⟨_|_,_⟩⟩⟩<;>kernel_rfl)
def AEr:SQ:=mk Tryz.func103 R_ ⟨[(0,.Hd [.inr [.ref 0,.v tI,.ref 1,.ref 2,.ref 3,.v tI,.ref 8,.ref 5,.ref 6,.ref 7,.v .bool],.inl (.v tI)])],[FG,Xt,FG,Nj,Jy,T2,Nr,N_,VN]⟩ OE [AA1] [] [⟨5,⟨[(2,Uw),(3,WT),(4,V9),(6,.c (.ref 19)),(7,CC)],[FG,Xt,FG,Nj,VN,T2,Nr,N_,bI,Xr,qU,Dd,Sa,Dd,PA,Sf,Se,Sd,RV,VN]⟩,Hi⟩]
def AEs:SQ:=mk Tryz.func148 jr fi LQ [rL,j_,gy] [(11,[0,1,2,3,6])] [⟨8,vM,GR⟩] (hJ:= .cons (fun _=>rfl) (fun n v ω=>by rcases ω with _|⟨_|_,_⟩<;>kernel_rfl) (.nil))
def AE3:SQ:=mk Tryz.func104 R_ cX MY [il,ADD,AEs] [(4,[0,1,2,3,4,5,6,7,8,9,10]),(6,[0,1,2,3,4,5,6,7,8,9,10,12])] [] (he:=fun ω v=>by rcases ω with _|⟨_|_,_⟩<;>kernel_rfl)
def s69:SQ:=mk Tryz.func69 R_ ⟨[(0,.Hd [.inr [.ref 0,.v tI,.ref 1,.ref 8,.ref 9,.v tI,.ref 10,.ref 11,.ref 6,.ref 12,.v .bool],.inl (.v tI)])],[FG,T_,Jy,Jy,Jy,Jy,Nr,Jy,FG,Nj,VN,.sl 1 Y8,N_]⟩ Rj [s90,s91,s92,s93,s94,s95,s96,s97,s98,s99,AEf,AFL,AEv,AEr,AE3] [] []
def s43:SQ:=mk Tryz.func43 ⟨[(0,.row Y12),(1,.row Y0)],[]⟩ ux Np [s9,s62,s69,s70] [(3,[0,1,2])] [] (he:=fun ω v=>by rcases ω with _|⟨_|_,_|⟨_|_,_⟩⟩<;>kernel_rfl)
def s14:SQ:=mk Tryz.func14 AAK ⟨[(0,.Hd [.inr [.ref 1,.v tI,.ref 2,.ref 3,.ref 4,.v tI,.ref 5,.ref 6,.ref 7,.ref 8,.v .bool],.inl (.ref 9),.inr [.ref 10,.v tI,.ref 11,.ref 12,.ref 13,.v tI,.ref 14,.ref 15,.ref 16,.ref 17,.v .bool]])],[eW,Jy,Jy,Jy,Jy,Jy,Jy,Jy,Jy,.sl 9 Y0,FG,T_,FG,Nj,VN,.sl 1 Y8,Nr,N_]⟩ GK [s16,kS,s40,kV,s42,s43] [(21,[0,2,3,4,5,6,7,8,9,11,12,13,14,15,16,17,18,19,28,29,30,31,32,33,34,35,36,37])] [⟨4,⟨[(0,M8),(1,CC),(4,UR),(6,V9),(7,Wi),(8,.c (.ref 21)),(9,CC)],ACd⟩,Cd⟩,⟨7,⟨[(0,M8),(1,CC),(4,UR),(6,V9),(7,Wi),(8,.c (.ref 21))],ACd⟩,Cb⟩,⟨14,ACS,CA⟩]
def s15:SQ:=mk Tryz.func15 ⟨[(0,M8),(1,.row Y0)],YK⟩ tf ME [kS,s18] [] []
def s19:SQ:=mk Tryz.func19 s_ py G7 [kS,s18,xQ] [] []
def s5:SQ:=mk Tryz.func5 qG nJ IA [s13,s14,s15,s16,kS,s18,s19] [] []
def s21:SQ:=mk Tryz.func21 Kg SL I1 [] [] []
def s29:SQ:=mk Tryz.func29 ADZ Iz KL [] [] []
def s30:SQ:=mk Tryz.func30 SL Iz Pl [] [] []
def s8:SQ:=mk Tryz.func8 cF Iz Mn [s21,s29,s30] [] [⟨4,⟨[(1,M8),(3,UR),(11,xP8),(12,CC),(13,CC)],ADk⟩,CD⟩]
def s20:SQ:=mk Tryz.func20 ⟨[],[]⟩ ⟨qt,[.sl 9 .str]⟩ Ik [] [] []
def s52:SQ:=txP (ZY XX (enters_of XX.f144 (by kernel_rfl) rfl) vc) rfl strings_Contains (fun _=>rfl)
def s79:SQ:=mk Tryz.func79 Kg Iz Kj [s29] [] []
def s80:SQ:=mk Tryz.func80 Kg Iz Oi [s29] [] []
def s54:SQ:=mk Tryz.func54 Kg Iz HT [s79,s80] [] []
def s77:SQ:=mk Tryz.func77 Kg Kg OB [s54] [] []
def s81:SQ:=txP (iW dK (enters_of dK.f171 (by kernel_rfl) rfl) vD) rfl strconv_Itoa (fun _=>rfl)
def s55:SQ:=mk Tryz.func55 Kg SL FA [s81] [] []
def s78:SQ:=mk Tryz.func78 Kg Kg Rt [s54] [] []
def s53:SQ:=mk Tryz.func53 Kg SL Gp [s54,s55,s77,s78] [] []
def s22:SQ:=mk Tryz.func22 ⟨[(0,.row Y0),(1,.c (.v tU))],[]⟩ lk LF [s52,s53,s54,s55] [(4,[0]),(6,[0])] []
def s6:SQ:=mk Tryz.func6 cF lk Ga [s8,s20,s21,s22] [(3,[0])] [⟨5,⟨[(1,M8),(4,S9),(21,wT),(22,CC),(23,CC)],[Xr,.sl 9 tU]⟩,FN⟩]
def s24:SQ:=mk Tryz.func24 Kg SL K5 [] [] []
def s25:SQ:=mk Tryz.func25 cF kg Ku [] [] []
def s27:SQ:=mk Tryz.func27 Kg SL Ly [] [] [⟨4,⟨[(0,CC),(3,S9)],[]⟩,Hr⟩]
def s28:SQ:=mk Tryz.func28 Kg SL IX [rL,s27,lY,s57] [] []
def s7:SQ:=mk Tryz.func7 cF lk EB [s9,rL,s24,s25,ZU,s27,s28] [] [⟨4,⟨[(1,M8),(4,CC)],zt⟩,Cl⟩,⟨11,⟨[(1,M8),(5,S9),(6,wT),(7,CC)],[Xr,Dd]⟩,CS⟩]
def s32:SQ:=txP (kp nB (enters_of nB.f145 (by kernel_rfl) rfl) vc) rfl strings_Cut (fun _=>rfl)
def s33:SQ:=txP (ew gQ (enters_of gQ.f109 (by kernel_rfl) rfl)) rfl FT (fun _=>rfl)
def s59:SQ:=txP (WZ (enters_of Tryz.func59 (by kernel_rfl) rfl) WY) rfl GB (fun _=>rfl)
def s84:SQ:=txP (WO jy (enters_of jy.f101 (by kernel_rfl) rfl)) rfl strings_TrimPrefix (fun _=>rfl)
def s85:SQ:=mk Tryz.func85 kI jt K_ [s79,s80] [] []
def s60:SQ:=mk Tryz.func60 SL jt Ic [s32,s53,s59,s84,s85] [] []
def s34:SQ:=mk Tryz.func34 ⟨[(0,M8),(1,.c (.v tU)),(2,S9)],zt⟩ ⟨[(0,S9)],zt⟩ HZ [s32,s59,s60] [] []
def s10:SQ:=mk Tryz.func10 SL uf Gv [s6,s20,s21,s32,s33,s34] [] [⟨6,⟨[(0,S9),(2,M8),(5,S9),(7,UR),(30,xP8),(31,CC),(32,CC)],ADk⟩,EX⟩]
def s63:SQ:=mk Tryz.func63 ⟨[(0,M8),(1,S9),(2,xP9)],YK⟩ yM HD [kS,s38,s61] [] []
def s35:SQ:=mk Tryz.func35 pc yM I0 [s7,s16,s44,s61,s62,s63] [] []
def s11:SQ:=mk Tryz.func11 qG SL FZ [s13,s14,s35] [] []
def s36:SQ:=mk Tryz.func36 ABm ⟨[(0,.Hd [.inl (.v tI),.inl (.v tI)])],[]⟩ Ma [] [] [⟨3,⟨[(0,S9),(1,CC),(6,CC),(7,CC)],[]⟩,HB⟩]
def s37:SQ:=mk Tryz.func37 ⟨[(0,CC),(1,Zj)],[]⟩ nJ Rg [] [] []
def s39:SQ:=mk Tryz.func39 SL jt Kk [s28,s36,s64] [] []
def s12:SQ:=mk Tryz.func12 SL uf Ig [s7,s24,s25,s36,s37,s38,s39] [] [⟨3,⟨[(0,S9),(2,M8),(4,UR),(5,CC)],[Xr,Xr]⟩,CG⟩,⟨11,⟨[(0,S9),(2,M8),(4,UR),(5,CC),(7,CC),(8,CC),(9,xP8),(10,CC)],[Xr,Xr,Dd]⟩,CM⟩]
abbrev i3:CI:=qG
abbrev o3:CI:=Iz
def s3:SQ:=mk Tryz.func3 i3 o3 Hh [s4,s5,s6,s7,s8,s9,s10,s11,s12] [(6,[0])] []
end
end Go.Proofs.YtdmpcbfbjigonaaGreatDoor.Wk
