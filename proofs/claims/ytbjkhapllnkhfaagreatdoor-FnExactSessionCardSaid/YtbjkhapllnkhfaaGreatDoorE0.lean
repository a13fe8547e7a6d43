/- Each function computes what was printed: by the kernel. -/
import Derived.Test.YtbjkhapllnkhfaaGreatDoorG1
import Derived.Test.YtbjkhapllnkhfaaGreatDoorProg
import Derived.KernelRfl
import Derived.Shelf.Strconv.AtoiAll
import Derived.Lib.AtoiOr
import Derived.Lib.AtoiErrMem
import Derived.Lib.AtoiAllCases
import Derived.WalkKit
import Derived.BigCall
set_option linter.unusedVariables false
set_option linter.unusedSimpArgs false
set_option linter.unusedSectionVars false
namespace Go.Proofs.YtbjkhapllnkhfaaGreatDoor.Wk
open Go Go.Fw Go.M Go.Proofs
noncomputable section
abbrev tI:Ty:= .int .i64
abbrev tU:Ty:= .int .u8
abbrev Y0:Ty:=(.cons (.sl tI) (.cons tI .unit))
abbrev Y1:Ty:=(.cons tI (.cons tI (.cons .bool (.cons .str .unit))))
abbrev Y2:Ty:=(.cons (.sl Y1) (.cons (.sl Y1) (.cons tI .unit)))
abbrev Y3:Ty:=(.cons (.sl tI) (.cons .bool (.cons tI .unit)))
abbrev Y4:Ty:=(.cons (.sl Y3) (.cons tI .unit))
abbrev Y5:Ty:=(.cons .str (.cons (.sl tI) (.cons .bool .unit)))
abbrev Y6:Ty:=(.cons tI (.cons (.sl Y5) .unit))
abbrev Y7:Ty:=(.cons tI (.cons tI (.cons (.sl tI) (.cons (.sl Y1) (.cons .bool (.cons (.sl (.sl tI)) .unit))))))
abbrev Y8:Ty:=(.cons tI (.cons tI (.cons .str .unit)))
abbrev Y9:Ty:=(.cons tI (.cons tI (.cons (.sl Y8) .unit)))
abbrev Y10:Ty:=(.cons tI (.cons .str (.cons .bool .unit)))
abbrev Y11:Ty:=(.cons (.sl tI) (.cons tI (.cons (.sl Y2) (.cons (.sl tI) (.cons (.sl Y3) (.cons tI (.cons (.sl Y6) (.cons (.sl Y7) (.cons (.sl Y9) (.cons (.sl Y10) (.cons .bool .unit)))))))))))
abbrev Y12:Ty:=(.cons tI (.cons tI (.cons tI (.cons tI (.cons .str .unit)))))
abbrev Y13:Ty:=(.cons tI (.cons .bool (.cons tI (.cons tI (.cons .bool (.cons .str .unit))))))
def T:JR:=[(3,⟨1,8,.int .i64,some tI⟩),
 (4,⟨1,1,.bool,some .bool⟩),
 (5,⟨1,1,.int .u8,some tU⟩),
 (9,⟨1,16,.str,some .str⟩),
 (22,⟨1,24,.sl 3,some (.sl tI)⟩),
 (24,⟨2,32,.st [(0,22),(1,3)],some Y0⟩),
 (28,⟨2,32,.st [(0,22),(1,3)],some Y0⟩),
 (32,⟨1,24,.sl 5,some (.sl tU)⟩),
 (36,⟨1,24,.sl 101,some (.sl Y2)⟩),
 (37,⟨1,24,.sl 156,some (.sl Y3)⟩),
 (39,⟨2,32,.st [(0,37),(1,3)],some Y4⟩),
 (40,⟨1,24,.sl 105,some (.sl Y6)⟩),
 (41,⟨1,24,.sl 109,some (.sl Y7)⟩),
 (42,⟨1,24,.sl 56,some (.sl Y9)⟩),
 (43,⟨1,24,.sl 129,some (.sl Y10)⟩),
 (45,⟨11,216,.st [(0,28),(2,36),(3,22),(4,39),(6,40),(7,41),(8,42),(9,43),(10,4)],some Y11⟩),
 (54,⟨1,24,.sl 59,some (.sl Y8)⟩),
 (56,⟨3,40,.st [(0,3),(1,3),(2,54)],some Y9⟩),
 (59,⟨3,32,.st [(0,3),(1,3),(2,9)],some Y8⟩),
 (61,⟨1,24,.sl 9,some (.sl .str)⟩),
 (76,⟨5,48,.st [(0,3),(1,3),(2,3),(3,3),(4,9)],some Y12⟩),
 (99,⟨1,24,.sl 173,some (.sl Y1)⟩),
 (101,⟨3,56,.st [(0,99),(1,99),(2,3)],some Y2⟩),
 (103,⟨1,24,.sl 161,some (.sl Y5)⟩),
 (105,⟨2,32,.st [(0,3),(1,103)],some Y6⟩),
 (107,⟨1,24,.sl 22,some (.sl (.sl tI))⟩),
 (109,⟨6,96,.st [(0,3),(1,3),(2,22),(3,99),(4,4),(5,107)],some Y7⟩),
 (129,⟨3,32,.st [(0,3),(1,9),(2,4)],some Y10⟩),
 (144,⟨1,8,.other,none⟩),
 (152,⟨1,8,.int .u64,some (.int .u64)⟩),
 (154,⟨1,8,.ptr 45,none⟩),
 (156,⟨3,40,.st [(0,22),(1,4),(2,3)],some Y3⟩),
 (161,⟨3,48,.st [(0,9),(1,22),(2,4)],some Y5⟩),
 (162,⟨1,8,.ptr 76,none⟩),
 (173,⟨4,40,.st [(0,3),(1,3),(2,4),(3,9)],some Y1⟩),
 (182,⟨1,8,.other,none⟩),
 (222,⟨1,24,.sl 225,some (.sl Y13)⟩),
 (225,⟨6,56,.st [(0,3),(1,4),(2,173)],some Y13⟩),
 (239,⟨1,24,.sl 4,some (.sl .bool)⟩),
 (245,⟨1,8,.other,none⟩),
 (293,⟨1,8,.other,none⟩),
 (294,⟨1,8,.ptr 56,none⟩)]
theorem tOk:ES Tryz.prog T:=rI (by kernel_rfl)
theorem mx:Tryz.prog.follows .mixedOrders=true:=by kernel_rfl
abbrev SQ:=SP Tryz.prog
def mk{f:Nat}{fn:Func}(hf:Tryz.prog.funcs[f]? =some fn)(i o:Bc)(g:i.Cu (Option o.V))(l:List SQ)(h:List AEc)(L:List (Lp o))
  (hJ:Um ⟨T,Ry (SP.l l),CV h⟩ ⟨i,o,i.un g⟩ fn (M3 i.GG.length L) L:=by
   repeat refine Um.cons (fun _=>rfl) (fun _ _ _=>by kernel_rfl) ?_
   exact Um.nil)
  (he:∀ω v,DB ⟨T,Ry (SP.l l),CV h⟩ ⟨i,o,i.un g⟩ fn (M3 i.GG.length L AX) ω v=i.un g v:=by intro ω v;kernel_rfl)
  (hL:bg fn=Lp.ls L:=by kernel_rfl) (hd:decide (Lp.ls L).Nodup=true:=by kernel_rfl) (hc:gK fn ⟨i,o,i.un g⟩=true:=by kernel_rfl):SQ:=
 mkP tOk mx hf i o g l h L AX hL hd hc hJ he
abbrev bt:XP:= .c (.sl false tI)
abbrev BB:XP:= .c (.v tI)
abbrev qZ:XP:= .row Y0
abbrev qR:XP:= .c (.ref 0)
abbrev xP4:XP:= .c (.v .bool)
abbrev Ko:XP:= .c (.ptr 0 0)
abbrev cV:XP:= .c (.ptr 1 0)
abbrev xP7:XP:= .agg [.ref 0,.v tI,.ref 1,.ref 2,.ref 3,.v tI,.ref 4,.ref 5,.ref 6,.ref 7,.v .bool]
abbrev xP8:XP:= .c (.ptr 10 0)
abbrev xP9:XP:= .c (.ref 1)
abbrev ZP:XP:= .c (.sl false Y1)
abbrev AB3:XP:= .c (.ptr 2 0)
abbrev az:XP:= .c (.v .str)
abbrev i7:XP:= .c (.ptr 8 0)
abbrev h_:XP:= .c (.ptr 9 0)
abbrev pr:XP:= .c (.ptr 18 0)
abbrev ABu:XP:= .c (.ptr 4 0)
abbrev uf:XP:= .c (.ptr 19 0)
abbrev AAC:XP:= .c (.sl false Y2)
abbrev tq:XP:= .c (.sl false Y13)
abbrev ARe:XP:= .c (.sl true .str)
abbrev AI7:XP:= .c (.ta 304 [(.cons (.sl tI) .unit)])
abbrev yv:XP:= .c (.pT Y11)
abbrev AJE:XP:= .c (.sl false Y5)
abbrev AIo:XP:= .c (.sl false (.sl tI))
abbrev qo:XP:= .c (.sl false Y9)
abbrev ADB:XP:= .c (.sl false Y10)
abbrev AG1:XP:= .c (.sl false Y8)
abbrev AI0:XP:= .c (.ta 323 [(.cons tI .unit)])
abbrev AHr:XP:= .c (.ta 332 [(.cons tI .unit)])
abbrev Ih:BP:= .sl 9 tI
abbrev zn:BP:= .mem [.sl false tI,.v tI]
abbrev jY:BP:= .sl 9 Y2
abbrev ZQ:BP:= .sl 9 Y3
abbrev iv:BP:= .sl 9 Y6
abbrev jV:BP:= .sl 9 Y7
abbrev i_:BP:= .sl 9 Y9
abbrev gl:BP:= .sl 9 Y10
abbrev AOs:BP:= .mem [.sl false Y3,.v tI]
abbrev Mr:BP:= .sl 9 Y1
abbrev AIE:BP:= .mem [.v tI,.sl false Y5]
abbrev tT:BP:= .sl 9 (.sl tI)
abbrev ADX:BP:= .mem [.v tI,.v tI,.sl false tI,.sl false Y1,.v .bool,.sl false (.sl tI)]
abbrev ADV:BP:= .mem [.sl false tI,.v tI,.sl false Y2,.sl false tI,.sl false Y3,.v tI,.sl false Y6,.sl false Y7,.sl false Y9,.sl false Y10,.v .bool]
abbrev ASy:BP:= .mem [.ref 11,.v tI,.ref 12,.ref 13,.ref 14,.v tI,.ref 15,.ref 16,.ref 17,.ref 18,.v .bool]
abbrev ADi:BP:= .mem [.v tI,.v tI,.sl false Y8]
abbrev tE:BP:= .mem [.v tI,.v tI,.v tI,.v tI,.v .str]
abbrev DV:BP:= .sl 1 tI
abbrev XT:BP:= .sl 2 Y2
abbrev MO:BP:= .sl 2 Y3
abbrev UW:BP:= .sl 3 Y6
abbrev Tj:BP:= .sl 3 Y7
abbrev P7:BP:= .sl 2 Y9
abbrev Lq:BP:= .sl 1 Y10
abbrev P4:BP:= .gone
abbrev uH:BP:= .mem [.ref 0,.v tI,.ref 1,.ref 2,.ref 3,.v tI,.ref 4,.ref 5,.ref 6,.ref 7,.v .bool]
abbrev xi:BP:= .mem [.ref 10,.v tI,.ref 11,.ref 12,.ref 13,.v tI,.ref 14,.ref 15,.ref 16,.ref 17,.v .bool]
abbrev ASU:BP:= .mem [.v tI,.v .str,.v .bool]
abbrev ADL:BP:= .mem [.v tI,.v tI,.v .bool,.v .str]
abbrev ANF:BP:= .mem [.sl false Y1,.sl false Y1,.v tI]
abbrev AH_:BP:= .mem [.ref 2,.ref 3,.v tI]
abbrev AK1:BP:= .mem [.ref 5,.ref 6,.v tI]
abbrev ZO:BP:= .sl 1 Y2
abbrev ni:BP:= .sl 1 Y6
abbrev AAx:BP:= .mem [.sl true Y1,.sl true Y1,.v tI]
abbrev AQK:BP:= .mem [.v tI,.v tI,.ref 1,.ref 2,.v .bool,.ref 3]
abbrev ASO:BP:= .mem [.v tI,.v tI,.ref 5,.ref 6,.v .bool,.ref 7]
abbrev ASp:BP:= .mem [.v tI,.v tI,.ref 3,.ref 4,.v .bool,.ref 5]
abbrev ARi:BP:= .mem [.v tI,.v tI,.ref 7,.ref 8,.v .bool,.ref 9]
abbrev w9:BP:= .mem [.ref 1,.v tI,.ref 2,.ref 3,.ref 4,.v tI,.ref 5,.ref 6,.ref 7,.ref 8,.v .bool]
abbrev ANh:BP:= .mem [.ref 1,.v tI,.ref 2,.ref 9,.ref 4,.v tI,.ref 5,.ref 6,.ref 7,.ref 8,.v .bool]
abbrev rr:List (Nat×XP):=[(0,BB)]
abbrev AEI:List (Nat×XP):=[(0,qR)]
abbrev AIN:List (Nat×XP):=[(1,Ko),(3,BB)]
abbrev AQo:List (Nat×XP):=[(1,Ko),(2,cV),(3,.c (.ptr 3 0)),(4,BB)]
abbrev AOQ:List (Nat×XP):=[(0,xP7)]
abbrev ARr:List (Nat×XP):=[(2,Ko),(3,cV),(5,BB),(6,BB)]
abbrev AQh:List (Nat×XP):=[(2,Ko),(3,cV),(5,BB)]
abbrev ARn:List (Nat×XP):=[(1,Ko),(3,BB),(4,BB)]
abbrev ASI:List (Nat×XP):=[(0,.MA [.inr [.ref 0,.ref 1,.v tI],.inl (.v .bool)])]
abbrev AOV:List (Nat×XP):=[(0,.MA [.inr [.ref 0,.v tI,.ref 1,.ref 2,.ref 3,.v tI,.ref 4,.ref 5,.ref 6,.ref 7,.v .bool],.inl (.v tI)])]
abbrev AP6:List (Nat×XP):=[(0,.MA [.inr [.v tI,.ref 0],.inl (.v .bool)])]
abbrev AOt:List (Nat×XP):=[(0,.MA [.inr [.v tI,.v tI,.ref 0,.ref 1,.v .bool,.ref 2],.inl (.v .bool)])]
abbrev ASk:List (Nat×XP):=[(0,.MA [.inr [.ref 0,.v tI,.ref 1,.ref 8,.ref 3,.v tI,.ref 4,.ref 5,.ref 6,.ref 7,.v .bool],.inl (.v tI)])]
abbrev ASX:List (Nat×XP):=[(0,.MA [.inr [.ref 1,.ref 2,.v tI],.inl (.v .bool)])]
abbrev APw:List (Nat×XP):=[(0,.MA [.inr [.v tI,.v tI,.ref 0],.inl (.v tI)])]
abbrev ASe:List (Nat×XP):=[(0,.MA [.inr [.ref 0,.v tI,.ref 1,.ref 2,.ref 3,.v tI,.ref 4,.ref 5,.ref 6,.ref 7,.v .bool],.inl (.v .str)])]
abbrev ALy:List (Nat×XP):=[(0,xP9)]
abbrev AQ_:List (Nat×XP):=[(0,Ko),(1,BB),(2,BB)]
abbrev uB:List BP:=[Ih]
abbrev AMW:List BP:=[zn]
abbrev AQN:List BP:=[Ih,jY,Ih,ZQ,iv,jV,i_,gl]
abbrev AR4:List BP:=[Ih,Mr,tT]
abbrev AKd:List BP:=[ADX,.mem [.v tI,.v tI,.ref 2,.ref 3,.v .bool,.ref 4],Ih,Mr,tT,.mem [.v tI,.v tI,.ref 6,.ref 7,.v .bool,.ref 8],Ih,Mr,tT]
abbrev pQ:List BP:=[ADV,.mem [.ref 2,.v tI,.ref 3,.ref 4,.ref 5,.v tI,.ref 6,.ref 7,.ref 8,.ref 9,.v .bool],Ih,jY,Ih,ZQ,iv,jV,i_,gl,ASy,Ih,jY,Ih,ZQ,iv,jV,i_,gl]
abbrev pK:List BP:=[ADV]
abbrev AQH:List BP:=[zn,AOs]
abbrev APb:List BP:=[zn,AIE]
abbrev ALK:List BP:=[zn,ADX]
abbrev AL5:List BP:=[tE]
abbrev AGS:List BP:=[DV,XT,DV,MO,UW,Tj,P7,Lq]
abbrev AE0:List BP:=[DV,ZO,DV,MO,ni,.sl 1 Y7,P7,Lq]
abbrev ACF:List BP:=[DV,ZO,DV,MO,ni,Tj,P7,Lq,uH,xi,Ih,jY,Ih,ZQ,iv,jV,i_,gl,AAx,.mem [.v tI,.sl true Y5]]
abbrev AKQ:List BP:=[.mem [.v tI,.ref 1],.sl 9 Y5,.mem [.v tI,.ref 3],.sl 9 Y5]
abbrev AKG:List BP:=[AQK,Ih,Mr,tT,ASO,Ih,Mr,tT]
abbrev AJ2:List BP:=[DV,XT,DV,MO,UW,Tj,P7,Lq,.mem [.ref 0,.v tI,.ref 1,.ref 9,.ref 3,.v tI,.ref 4,.ref 5,.ref 6,.ref 7,.v .bool],Ih,tE,.mem [.ref 12,.v tI,.ref 13,.ref 14,.ref 15,.v tI,.ref 16,.ref 17,.ref 18,.ref 19,.v .bool],Ih,jY,Ih,ZQ,iv,jV,i_,gl]
abbrev AJw:List BP:=[ZO,AH_,Mr,Mr,AK1,Mr,Mr,ZO]
abbrev AJ1:List BP:=[zn,Ih]
abbrev AJi:List BP:=[tE,tE,.sl 9 tU]
abbrev iQ:List BP:=[w9,DV,XT,DV,MO,UW,Tj,P7,Lq]
abbrev vf:List BP:=[.sl 1 Y1]
abbrev AJu:List BP:=[ANh,DV,XT,DV,MO,UW,Tj,P7,Lq,DV]
abbrev AKF:List BP:=[.mem [.v tI,.v tI,.ref 1],.sl 1 Y8]
abbrev AKH:List BP:=[w9,DV,XT,DV,MO,UW,Tj,.sl 1 Y9,Lq]
abbrev AJY:List BP:=[DV,ZO,DV,MO,UW,.sl 2 Y7,.sl 1 Y9,Lq]
abbrev kt:Bc:=⟨[(0,bt),(1,BB)],[]⟩
abbrev ET:Bc:=⟨rr,[]⟩
abbrev dq:Bc:=⟨AEI,uB⟩
abbrev vS:Bc:=⟨[(0,qZ)],[]⟩
abbrev AKE:Bc:=⟨[(0,.agg [.ref 0,.v tI])],uB⟩
abbrev AKS:Bc:=⟨[(0,BB),(1,BB),(2,BB)],[]⟩
abbrev Bu:Bc:=⟨[(0,xP4)],[]⟩
abbrev AAR:Bc:=⟨[(0,.agg [.v tI,.v tI,.ref 0])],[.sl 9 Y8]⟩
abbrev AKa:Bc:=⟨[(0,.MA [.inr [.ref 0,.v tI,.ref 1,.ref 2,.ref 3,.v tI,.ref 4,.ref 5,.ref 6,.ref 7,.v .bool],.inl (.v .bool)])],AQN⟩
abbrev AC3:Bc:=⟨[(0,.row Y4)],[]⟩
abbrev AEr:Bc:=⟨[(0,.agg [.ref 0,.v tI])],[ZQ]⟩
abbrev oe:Bc:=⟨[(0,.row Y2)],[]⟩
abbrev AEp:Bc:=⟨[(0,.agg [.ref 0,.ref 1,.v tI])],[Mr,Mr]⟩
abbrev ACS:Bc:=⟨[(0,.row Y6)],[]⟩
abbrev AFM:Bc:=⟨[(0,.agg [.v tI,.ref 0])],[.sl 9 Y5]⟩
abbrev zM:Bc:=⟨[(0,.row Y7)],[]⟩
abbrev yz:Bc:=⟨[(0,.agg [.v tI,.v tI,.ref 0,.ref 1,.v .bool,.ref 2])],AR4⟩
abbrev wC:Bc:=⟨[(0,.row Y9)],[]⟩
abbrev TB:Bc:=⟨[(0,.row Y11)],[]⟩
abbrev AJW:Bc:=⟨AOQ,AQN⟩
abbrev oX:Bc:=⟨[(0,qZ),(1,bt)],[]⟩
abbrev AFJ:Bc:=⟨[(0,ZP),(1,BB)],[]⟩
abbrev ACN:Bc:=⟨[(0,ZP)],[]⟩
abbrev yy:Bc:=⟨AIN,pK⟩
abbrev AFk:Bc:=⟨[(0,qZ),(1,.row Y4)],[]⟩
abbrev AGF:Bc:=⟨[(0,qZ),(1,.row Y6)],[]⟩
abbrev zP:Bc:=⟨[(0,qZ),(1,.row Y7)],[]⟩
abbrev AJK:Bc:=⟨AQh,ALK⟩
abbrev AJ5:Bc:=⟨ARn,pK⟩
abbrev ACh:Bc:=⟨[(0,.row Y8)],[]⟩
abbrev AGE:Bc:=⟨[(0,.row Y9),(1,BB)],[]⟩
abbrev vW:Bc:=⟨[(0,.MA [.inl (.v .str),.inl (.v .bool)])],[]⟩
abbrev nz:Bc:=⟨[(0,BB),(1,BB)],[]⟩
abbrev ZD:Bc:=⟨[(0,az)],[]⟩
abbrev AG9:Bc:=⟨[(0,.row Y11),(1,az)],[]⟩
abbrev u_:Bc:=⟨[(0,.row Y12)],[]⟩
abbrev ASw:Bc:=⟨[(0,az),(1,BB)],[]⟩
abbrev AJ3:Bc:=⟨[(0,.agg [.v tI,.v tI,.v tI,.v tI,.v .str])],[]⟩
abbrev lk:Bc:=⟨[(0,.MA [.inl (.v tI),.inl (.v .bool)])],[]⟩
abbrev AJO:Bc:=⟨[(0,.MA [.inr [.v tI,.v tI,.v tI,.v tI,.v .str],.inl (.v .bool)])],[]⟩
abbrev AJj:Bc:=⟨[(0,qZ),(1,.row Y4),(2,bt)],[]⟩
abbrev AJs:Bc:=⟨[(0,.MA [.inr [.ref 0,.v tI],.inl (.v tI),.inl (.v .bool)])],[ZQ]⟩
abbrev eQ:Bc:=⟨[(0,xP7),(1,.row Y12)],AGS⟩
abbrev yO:Bc:=⟨[(0,.row Y11),(1,BB)],[]⟩
abbrev AJP:Bc:=⟨[(0,qZ),(1,.row Y6),(2,az)],[]⟩
abbrev AKT:Bc:=⟨[(0,.MA [.inr [.v tI,.ref 0],.inl (.v tI),.inl (.v .bool)])],[.sl 9 Y5]⟩
abbrev AKZ:Bc:=⟨[(0,.row Y4),(1,BB)],[]⟩
abbrev AFp:Bc:=⟨[(0,.row Y2),(1,.row Y1)],[]⟩
abbrev uq:Bc:=⟨ASI,[Mr,Mr]⟩
abbrev vG:Bc:=⟨AOV,AGS⟩
abbrev AKV:Bc:=⟨[(0,.row Y1),(1,.row Y1)],[]⟩
abbrev AJe:Bc:=⟨[(0,.agg [.v tI,.v tI,.v .bool,.v .str])],[]⟩
abbrev AAG:Bc:=⟨AEI,[Mr]⟩
abbrev jz:Bc:=⟨[(0,.row Y2),(1,BB)],[]⟩
abbrev AJl:Bc:=⟨[(1,BB),(2,Ko),(4,cV),(6,ABu),(7,BB)],[ANF,AH_,Mr,Mr,AK1,Mr,Mr]⟩
abbrev AAO:Bc:=⟨[(0,.MA [.inr [.v tI,.v tI,.v .bool,.v .str],.inl (.v .bool)])],[]⟩
abbrev AJS:Bc:=⟨[(0,qZ),(1,.row Y6),(2,BB),(3,BB)],[]⟩
abbrev AJt:Bc:=⟨AP6,[.sl 9 Y5]⟩
abbrev AJU:Bc:=⟨[(0,.row Y7),(1,BB)],[]⟩
abbrev AKP:Bc:=⟨[(0,qZ),(1,.row Y7),(2,BB),(3,BB)],[]⟩
abbrev xz:Bc:=⟨AOt,AR4⟩
abbrev AJZ:Bc:=⟨AOV,AE0⟩
abbrev ACj:Bc:=⟨[(0,bt),(1,bt)],[]⟩
abbrev AKJ:Bc:=⟨[(0,qZ),(1,.row Y6),(2,BB)],[]⟩
abbrev AJ_:Bc:=⟨[(0,qZ),(1,.row Y7),(2,BB)],[]⟩
abbrev AJg:Bc:=⟨[(0,qZ),(1,qR),(2,bt),(3,BB),(4,BB)],[XT]⟩
abbrev AE6:Bc:=⟨AOQ,AGS⟩
abbrev AJf:Bc:=⟨[(0,qZ),(1,.row Y7),(2,BB),(3,ZP)],[]⟩
abbrev AG8:Bc:=⟨[(0,qZ),(1,bt),(2,bt)],[]⟩
abbrev AJ8:Bc:=⟨[(0,qZ),(1,.row Y7),(2,bt)],[]⟩
abbrev AJp:Bc:=⟨[(0,qZ),(1,.row Y4),(2,BB),(3,BB)],[]⟩
abbrev ACR:Bc:=⟨[(0,.MA [.inr [.ref 0,.v tI],.inl (.v .bool)])],[ZQ]⟩
abbrev AJd:Bc:=⟨[(0,qZ),(1,.row Y4),(2,BB)],[]⟩
abbrev AKY:Bc:=⟨[(0,qZ),(1,.row Y4),(2,BB),(3,.row Y9),(4,tq)],[]⟩
abbrev AKC:Bc:=⟨[(0,.row Y11),(1,.row Y12)],[]⟩
abbrev AG0:Bc:=⟨[(0,qZ),(1,az)],[]⟩
abbrev AJ9:Bc:=⟨[(0,.MA [.inl (.v .str),.inl (.v tI)])],[]⟩
abbrev AYM:Bc:=⟨[(0,az),(1,az)],[]⟩
abbrev AJv:Bc:=⟨ALy,[P4,DV]⟩
abbrev AGI:Bc:=⟨AEI,[DV]⟩
abbrev ACV:Bc:=⟨[(0,yv),(1,BB)],[]⟩
abbrev zt:Bc:=⟨[(0,yv)],[]⟩
abbrev AJJ:Bc:=⟨[(1,Ko),(10,qo),(11,BB),(12,BB)],pK⟩
abbrev vu:Bc:=⟨[(0,Ko),(1,BB)],iQ⟩
abbrev qn:Bc:=⟨rr,iQ⟩
abbrev AJ0:Bc:=⟨[(0,Ko),(1,.row Y12)],iQ⟩
abbrev AJV:Bc:=⟨ALy,[P4,.sl 1 Y1]⟩
abbrev ACI:Bc:=⟨ASI,[.sl 1 Y1,Mr]⟩
abbrev AKI:Bc:=⟨AP6,[.sl 2 Y5]⟩
abbrev ACn:Bc:=⟨AQ_,iQ⟩
abbrev AJc:Bc:=⟨[(0,.MA [])],iQ⟩
abbrev AFC:Bc:=⟨[(0,Ko),(1,BB),(2,BB),(6,BB)],iQ⟩
abbrev AJo:Bc:=⟨AOt,[Ih,Mr,.sl 2 (.sl tI)]⟩
abbrev AFs:Bc:=⟨[(0,Ko)],iQ⟩
abbrev AKU:Bc:=⟨[(0,.MA [])],[.mem [.v tI,.v tI,.ref 2],P4,.sl 1 Y8]⟩
open Go.Shelf Go.RowKit
@[reducible] def AHH:Go.Shelf.Ren:=⟨(fun x=>match x with|146=>25|221=>59|268=>130|138=>131|143=>132|195=>212|197=>213|218=>214|219=>215|260=>297|217=>298|225=>299|224=>300|267=>301|266=>349|314=>350|n=>n),(fun x=>match x with|31=>61|105=>185|46=>152|119=>272|139=>275|138=>274|146=>277|51=>276|n=>n),(fun x=>match x with|1=>0|3=>1|4=>2|n=>n)⟩
theorem yA:Lays.n146 Tryz.prog AHH:={mixed:=by kernel_rfl,f138:=by kernel_rfl,f143:=by kernel_rfl,f146:=by kernel_rfl,f195:=by kernel_rfl,f197:=by kernel_rfl,f217:=by kernel_rfl,f218:=by kernel_rfl,f219:=by kernel_rfl,f221:=by kernel_rfl,f224:=by kernel_rfl,f225:=by kernel_rfl,f260:=by kernel_rfl,f266:=by kernel_rfl,f267:=by kernel_rfl,f268:=by kernel_rfl,f314:=by kernel_rfl,t0:=by kernel_rfl,a0:=fun w=>by kernel_rfl,z0:=fun w=>by kernel_rfl,v0:=fun w=>by kernel_rfl,t3:=by kernel_rfl,a3:=fun w=>by kernel_rfl,z3:=fun w=>by kernel_rfl,v3:=fun w=>by kernel_rfl,t4:=by kernel_rfl,a4:=fun w=>by kernel_rfl,z4:=fun w=>by kernel_rfl,v4:=fun w=>by kernel_rfl,t5:=by kernel_rfl,a5:=fun w=>by kernel_rfl,z5:=fun w=>by kernel_rfl,v5:=fun w=>by kernel_rfl,t9:=by kernel_rfl,a9:=fun w=>by kernel_rfl,z9:=fun w=>by kernel_rfl,v9:=fun w=>by kernel_rfl,t21:=by kernel_rfl,a21:=fun w=>by kernel_rfl,z21:=fun w=>by kernel_rfl,v21:=fun w=>by kernel_rfl,t31:=by kernel_rfl,a31:=fun w=>by kernel_rfl,z31:=fun w=>by kernel_rfl,v31:=fun w=>by kernel_rfl,t46:=by kernel_rfl,a46:=fun w=>by kernel_rfl,z46:=fun w=>by kernel_rfl,v46:=fun w=>by kernel_rfl,t51:=by kernel_rfl,a51:=fun w=>by kernel_rfl,z51:=fun w=>by kernel_rfl,v51:=fun w=>by kernel_rfl,t105:=by kernel_rfl,a105:=fun w=>by kernel_rfl,z105:=fun w=>by kernel_rfl,v105:=fun w=>by kernel_rfl,t119:=by kernel_rfl,a119:=fun w=>by kernel_rfl,z119:=fun w=>by kernel_rfl,t138:=by kernel_rfl,a138:=fun w=>by kernel_rfl,z138:=fun w=>by kernel_rfl,v138:=fun w=>by kernel_rfl,t139:=by kernel_rfl,a139:=fun w=>by kernel_rfl,z139:=fun w=>by kernel_rfl,v139:=fun w=>by kernel_rfl,t146:=by kernel_rfl,a146:=fun w=>by kernel_rfl,z146:=fun w=>by kernel_rfl,v146:=fun w=>by kernel_rfl,g1:=by kernel_rfl,g3:=by kernel_rfl,g4:=by kernel_rfl}
@[reducible] def AIU:Go.Shelf.Ren:=⟨(fun x=>match x with|171=>129|243=>211|246=>296|283=>345|284=>346|285=>347|286=>348|129=>372|317=>371|318=>373|319=>374|320=>375|337=>384|338=>385|n=>n),(fun x=>match x with|171=>266|53=>267|37=>32|173=>270|212=>297|51=>276|213=>298|46=>152|232=>316|233=>317|n=>n),(fun x=>match x with|17=>3|18=>6|19=>7|n=>n)⟩
theorem wK:LaysM.n171 Tryz.prog AIU:={mixed:=by kernel_rfl,f129:=by kernel_rfl,f171:=by kernel_rfl,f243:=by kernel_rfl,f246:=by kernel_rfl,f283:=by kernel_rfl,f284:=by kernel_rfl,f285:=by kernel_rfl,f286:=by kernel_rfl,f317:=by kernel_rfl,f318:=by kernel_rfl,f319:=by kernel_rfl,f320:=by kernel_rfl,f337:=by kernel_rfl,f338:=by kernel_rfl,t0:=by kernel_rfl,a0:=fun w=>by kernel_rfl,z0:=fun w=>by kernel_rfl,v0:=fun w=>by kernel_rfl,t2:=by kernel_rfl,a2:=fun w=>by kernel_rfl,z2:=fun w=>by kernel_rfl,v2:=fun w=>by kernel_rfl,t3:=by kernel_rfl,a3:=fun w=>by kernel_rfl,z3:=fun w=>by kernel_rfl,v3:=fun w=>by kernel_rfl,t4:=by kernel_rfl,a4:=fun w=>by kernel_rfl,z4:=fun w=>by kernel_rfl,v4:=fun w=>by kernel_rfl,t5:=by kernel_rfl,a5:=fun w=>by kernel_rfl,z5:=fun w=>by kernel_rfl,v5:=fun w=>by kernel_rfl,t9:=by kernel_rfl,a9:=fun w=>by kernel_rfl,z9:=fun w=>by kernel_rfl,v9:=fun w=>by kernel_rfl,t20:=by kernel_rfl,a20:=fun w=>by kernel_rfl,z20:=fun w=>by kernel_rfl,v20:=fun w=>by kernel_rfl,t37:=by kernel_rfl,a37:=fun w=>by kernel_rfl,z37:=fun w=>by kernel_rfl,v37:=fun w=>by kernel_rfl,t46:=by kernel_rfl,a46:=fun w=>by kernel_rfl,z46:=fun w=>by kernel_rfl,v46:=fun w=>by kernel_rfl,t51:=by kernel_rfl,a51:=fun w=>by kernel_rfl,z51:=fun w=>by kernel_rfl,v51:=fun w=>by kernel_rfl,t53:=by kernel_rfl,a53:=fun w=>by kernel_rfl,z53:=fun w=>by kernel_rfl,v53:=fun w=>by kernel_rfl,t171:=by kernel_rfl,a171:=fun w=>by kernel_rfl,z171:=fun w=>by kernel_rfl,v171:=fun w=>by kernel_rfl,t173:=by kernel_rfl,a173:=fun w=>by kernel_rfl,z173:=fun w=>by kernel_rfl,v173:=fun w=>by kernel_rfl,t212:=by kernel_rfl,a212:=fun w=>by kernel_rfl,z212:=fun w=>by kernel_rfl,v212:=fun w=>by kernel_rfl,t213:=by kernel_rfl,a213:=fun w=>by kernel_rfl,z213:=fun w=>by kernel_rfl,t232:=by kernel_rfl,a232:=fun w=>by kernel_rfl,z232:=fun w=>by kernel_rfl,v232:=fun w=>by kernel_rfl,t233:=by kernel_rfl,a233:=fun w=>by kernel_rfl,z233:=fun w=>by kernel_rfl,v233:=fun w=>by kernel_rfl,g17:=by kernel_rfl,g18:=by kernel_rfl,g19:=by kernel_rfl,i0:=by kernel_rfl,i2:=by kernel_rfl,i3:=by kernel_rfl,i4:=by kernel_rfl,i5:=by kernel_rfl,i9:=by kernel_rfl,i20:=by kernel_rfl,i37:=by kernel_rfl,i46:=by kernel_rfl,i51:=by kernel_rfl,i53:=by kernel_rfl,i171:=by kernel_rfl,i173:=by kernel_rfl,i212:=by kernel_rfl,i232:=by kernel_rfl,i233:=by kernel_rfl,m17:=by kernel_rfl,m18:=by kernel_rfl,m19:=by kernel_rfl}
@[reducible] def AN3:Go.Shelf.Ren:=⟨(fun x=>match x with|145=>79|220=>152|219=>215|217=>298|225=>299|224=>300|267=>301|266=>349|314=>350|n=>n),(fun x=>match x with|59=>112|46=>152|146=>277|51=>276|n=>n),(fun x=>match x with|1=>0|n=>n)⟩
theorem AF1:Lays.n145 Tryz.prog AN3:={mixed:=by kernel_rfl,f145:=by kernel_rfl,f217:=by kernel_rfl,f219:=by kernel_rfl,f220:=by kernel_rfl,f224:=by kernel_rfl,f225:=by kernel_rfl,f266:=by kernel_rfl,f267:=by kernel_rfl,f314:=by kernel_rfl,t3:=by kernel_rfl,a3:=fun w=>by kernel_rfl,z3:=fun w=>by kernel_rfl,v3:=fun w=>by kernel_rfl,t4:=by kernel_rfl,a4:=fun w=>by kernel_rfl,z4:=fun w=>by kernel_rfl,v4:=fun w=>by kernel_rfl,t5:=by kernel_rfl,a5:=fun w=>by kernel_rfl,z5:=fun w=>by kernel_rfl,v5:=fun w=>by kernel_rfl,t9:=by kernel_rfl,a9:=fun w=>by kernel_rfl,z9:=fun w=>by kernel_rfl,v9:=fun w=>by kernel_rfl,t46:=by kernel_rfl,a46:=fun w=>by kernel_rfl,z46:=fun w=>by kernel_rfl,v46:=fun w=>by kernel_rfl,t51:=by kernel_rfl,a51:=fun w=>by kernel_rfl,z51:=fun w=>by kernel_rfl,v51:=fun w=>by kernel_rfl,t59:=by kernel_rfl,a59:=fun w=>by kernel_rfl,z59:=fun w=>by kernel_rfl,v59:=fun w=>by kernel_rfl,t146:=by kernel_rfl,a146:=fun w=>by kernel_rfl,z146:=fun w=>by kernel_rfl,v146:=fun w=>by kernel_rfl,g1:=by kernel_rfl}
@[reducible] def AGc:Go.Shelf.Ren:=⟨(fun x=>match x with|109=>80|n=>n),(fun x=>match x with|31=>61|n=>n),(fun x=>match x with|n=>n)⟩
theorem xy:Lays.n109 Tryz.prog AGc:={mixed:=by kernel_rfl,f109:=by kernel_rfl,t0:=by kernel_rfl,a0:=fun w=>by kernel_rfl,z0:=fun w=>by kernel_rfl,v0:=fun w=>by kernel_rfl,t3:=by kernel_rfl,a3:=fun w=>by kernel_rfl,z3:=fun w=>by kernel_rfl,v3:=fun w=>by kernel_rfl,t4:=by kernel_rfl,a4:=fun w=>by kernel_rfl,z4:=fun w=>by kernel_rfl,v4:=fun w=>by kernel_rfl,t9:=by kernel_rfl,a9:=fun w=>by kernel_rfl,z9:=fun w=>by kernel_rfl,v9:=fun w=>by kernel_rfl,t31:=by kernel_rfl,a31:=fun w=>by kernel_rfl,z31:=fun w=>by kernel_rfl,v31:=fun w=>by kernel_rfl}
@[reducible] def AH3:Go.Shelf.Ren:=⟨(fun x=>match x with|101=>227|208=>307|206=>357|n=>n),(fun x=>match x with|n=>n),(fun x=>match x with|n=>n)⟩
theorem ACO:Lays.n101 Tryz.prog AH3:={mixed:=by kernel_rfl,f101:=by kernel_rfl,f206:=by kernel_rfl,f208:=by kernel_rfl,t3:=by kernel_rfl,a3:=fun w=>by kernel_rfl,z3:=fun w=>by kernel_rfl,v3:=fun w=>by kernel_rfl,t4:=by kernel_rfl,a4:=fun w=>by kernel_rfl,z4:=fun w=>by kernel_rfl,v4:=fun w=>by kernel_rfl,t9:=by kernel_rfl,a9:=fun w=>by kernel_rfl,z9:=fun w=>by kernel_rfl,v9:=fun w=>by kernel_rfl}
@[reducible] def zO:Go.Shelf.Ren:=⟨(fun x=>match x with|144=>229|143=>132|219=>215|217=>298|225=>299|224=>300|267=>301|266=>349|314=>350|n=>n),(fun x=>match x with|46=>152|146=>277|51=>276|n=>n),(fun x=>match x with|1=>0|n=>n)⟩
theorem ot:Lays.n144 Tryz.prog zO:={mixed:=by kernel_rfl,f143:=by kernel_rfl,f144:=by kernel_rfl,f217:=by kernel_rfl,f219:=by kernel_rfl,f224:=by kernel_rfl,f225:=by kernel_rfl,f266:=by kernel_rfl,f267:=by kernel_rfl,f314:=by kernel_rfl,t3:=by kernel_rfl,a3:=fun w=>by kernel_rfl,z3:=fun w=>by kernel_rfl,v3:=fun w=>by kernel_rfl,t4:=by kernel_rfl,a4:=fun w=>by kernel_rfl,z4:=fun w=>by kernel_rfl,v4:=fun w=>by kernel_rfl,t5:=by kernel_rfl,a5:=fun w=>by kernel_rfl,z5:=fun w=>by kernel_rfl,v5:=fun w=>by kernel_rfl,t9:=by kernel_rfl,a9:=fun w=>by kernel_rfl,z9:=fun w=>by kernel_rfl,v9:=fun w=>by kernel_rfl,t46:=by kernel_rfl,a46:=fun w=>by kernel_rfl,z46:=fun w=>by kernel_rfl,v46:=fun w=>by kernel_rfl,t51:=by kernel_rfl,a51:=fun w=>by kernel_rfl,z51:=fun w=>by kernel_rfl,v51:=fun w=>by kernel_rfl,t146:=by kernel_rfl,a146:=fun w=>by kernel_rfl,z146:=fun w=>by kernel_rfl,v146:=fun w=>by kernel_rfl,g1:=by kernel_rfl}
@[reducible] def AIT:Go.Shelf.Ren:=⟨(fun x=>match x with|172=>226|244=>305|245=>306|247=>352|279=>353|280=>354|281=>355|282=>356|287=>376|316=>377|171=>129|205=>378|321=>386|322=>387|243=>211|246=>296|283=>345|284=>346|285=>347|286=>348|129=>372|317=>371|318=>373|319=>374|320=>375|337=>384|338=>385|n=>n),(fun x=>match x with|75=>192|76=>193|167=>280|37=>32|85=>281|168=>283|53=>267|175=>300|46=>152|210=>304|127=>311|145=>314|143=>312|171=>266|173=>270|212=>297|51=>276|213=>298|232=>316|233=>317|80=>319|n=>n),(fun x=>match x with|15=>4|16=>5|17=>3|18=>6|19=>7|n=>n)⟩
theorem wm:LaysC.n172 Tryz.prog AIT:={mixed:=by kernel_rfl,f129:=by kernel_rfl,f171:=by kernel_rfl,f172:=by kernel_rfl,f205:=by kernel_rfl,f243:=by kernel_rfl,f244:=by kernel_rfl,f245:=by kernel_rfl,f246:=by kernel_rfl,f247:=by kernel_rfl,f279:=by kernel_rfl,f280:=by kernel_rfl,f281:=by kernel_rfl,f282:=by kernel_rfl,f283:=by kernel_rfl,f284:=by kernel_rfl,f285:=by kernel_rfl,f286:=by kernel_rfl,f287:=by kernel_rfl,f316:=by kernel_rfl,f317:=by kernel_rfl,f318:=by kernel_rfl,f319:=by kernel_rfl,f320:=by kernel_rfl,f321:=by kernel_rfl,f322:=by kernel_rfl,f337:=by kernel_rfl,f338:=by kernel_rfl,t0:=by kernel_rfl,a0:=fun w=>by kernel_rfl,z0:=fun w=>by kernel_rfl,v0:=fun w=>by kernel_rfl,t2:=by kernel_rfl,a2:=fun w=>by kernel_rfl,z2:=fun w=>by kernel_rfl,v2:=fun w=>by kernel_rfl,t3:=by kernel_rfl,a3:=fun w=>by kernel_rfl,z3:=fun w=>by kernel_rfl,v3:=fun w=>by kernel_rfl,t4:=by kernel_rfl,a4:=fun w=>by kernel_rfl,z4:=fun w=>by kernel_rfl,v4:=fun w=>by kernel_rfl,t5:=by kernel_rfl,a5:=fun w=>by kernel_rfl,z5:=fun w=>by kernel_rfl,v5:=fun w=>by kernel_rfl,t9:=by kernel_rfl,a9:=fun w=>by kernel_rfl,z9:=fun w=>by kernel_rfl,v9:=fun w=>by kernel_rfl,t20:=by kernel_rfl,a20:=fun w=>by kernel_rfl,z20:=fun w=>by kernel_rfl,v20:=fun w=>by kernel_rfl,t21:=by kernel_rfl,a21:=fun w=>by kernel_rfl,z21:=fun w=>by kernel_rfl,v21:=fun w=>by kernel_rfl,t37:=by kernel_rfl,a37:=fun w=>by kernel_rfl,z37:=fun w=>by kernel_rfl,v37:=fun w=>by kernel_rfl,t46:=by kernel_rfl,a46:=fun w=>by kernel_rfl,z46:=fun w=>by kernel_rfl,v46:=fun w=>by kernel_rfl,t51:=by kernel_rfl,a51:=fun w=>by kernel_rfl,z51:=fun w=>by kernel_rfl,v51:=fun w=>by kernel_rfl,t53:=by kernel_rfl,a53:=fun w=>by kernel_rfl,z53:=fun w=>by kernel_rfl,v53:=fun w=>by kernel_rfl,t75:=by kernel_rfl,a75:=fun w=>by kernel_rfl,z75:=fun w=>by kernel_rfl,v75:=fun w=>by kernel_rfl,t76:=by kernel_rfl,a76:=fun w=>by kernel_rfl,z76:=fun w=>by kernel_rfl,v76:=fun w=>by kernel_rfl,t85:=by kernel_rfl,a85:=fun w=>by kernel_rfl,z85:=fun w=>by kernel_rfl,v85:=fun w=>by kernel_rfl,t127:=by kernel_rfl,a127:=fun w=>by kernel_rfl,z127:=fun w=>by kernel_rfl,v127:=fun w=>by kernel_rfl,t143:=by kernel_rfl,a143:=fun w=>by kernel_rfl,z143:=fun w=>by kernel_rfl,v143:=fun w=>by kernel_rfl,t145:=by kernel_rfl,a145:=fun w=>by kernel_rfl,z145:=fun w=>by kernel_rfl,v145:=fun w=>by kernel_rfl,t167:=by kernel_rfl,a167:=fun w=>by kernel_rfl,z167:=fun w=>by kernel_rfl,v167:=fun w=>by kernel_rfl,t168:=by kernel_rfl,a168:=fun w=>by kernel_rfl,z168:=fun w=>by kernel_rfl,v168:=fun w=>by kernel_rfl,t171:=by kernel_rfl,a171:=fun w=>by kernel_rfl,z171:=fun w=>by kernel_rfl,v171:=fun w=>by kernel_rfl,t173:=by kernel_rfl,a173:=fun w=>by kernel_rfl,z173:=fun w=>by kernel_rfl,v173:=fun w=>by kernel_rfl,t175:=by kernel_rfl,a175:=fun w=>by kernel_rfl,z175:=fun w=>by kernel_rfl,v175:=fun w=>by kernel_rfl,t210:=by kernel_rfl,a210:=fun w=>by kernel_rfl,z210:=fun w=>by kernel_rfl,v210:=fun w=>by kernel_rfl,t212:=by kernel_rfl,a212:=fun w=>by kernel_rfl,z212:=fun w=>by kernel_rfl,v212:=fun w=>by kernel_rfl,t213:=by kernel_rfl,a213:=fun w=>by kernel_rfl,z213:=fun w=>by kernel_rfl,t232:=by kernel_rfl,a232:=fun w=>by kernel_rfl,z232:=fun w=>by kernel_rfl,v232:=fun w=>by kernel_rfl,t233:=by kernel_rfl,a233:=fun w=>by kernel_rfl,z233:=fun w=>by kernel_rfl,v233:=fun w=>by kernel_rfl,g15:=by kernel_rfl,g16:=by kernel_rfl,g17:=by kernel_rfl,g18:=by kernel_rfl,g19:=by kernel_rfl,t80:=by kernel_rfl,a80:=fun w=>by kernel_rfl,z80:=fun w=>by kernel_rfl,v80:=fun w=>by kernel_rfl,i0:=by kernel_rfl,i2:=by kernel_rfl,i3:=by kernel_rfl,i4:=by kernel_rfl,i5:=by kernel_rfl,i9:=by kernel_rfl,i20:=by kernel_rfl,i21:=by kernel_rfl,i37:=by kernel_rfl,i46:=by kernel_rfl,i51:=by kernel_rfl,i53:=by kernel_rfl,i75:=by kernel_rfl,i76:=by kernel_rfl,i80:=by kernel_rfl,i85:=by kernel_rfl,i127:=by kernel_rfl,i143:=by kernel_rfl,i145:=by kernel_rfl,i167:=by kernel_rfl,i168:=by kernel_rfl,i171:=by kernel_rfl,i173:=by kernel_rfl,i175:=by kernel_rfl,i210:=by kernel_rfl,i212:=by kernel_rfl,i232:=by kernel_rfl,i233:=by kernel_rfl,m15:=by kernel_rfl,m16:=by kernel_rfl,m17:=by kernel_rfl,m18:=by kernel_rfl,m19:=by kernel_rfl,c0:=by kernel_rfl,c2:=by kernel_rfl,c3:=by kernel_rfl,c4:=by kernel_rfl,c5:=by kernel_rfl,c9:=by kernel_rfl,c20:=by kernel_rfl,c21:=by kernel_rfl,c37:=by kernel_rfl,c46:=by kernel_rfl,c51:=by kernel_rfl,c53:=by kernel_rfl,c75:=by kernel_rfl,c76:=by kernel_rfl,c80:=by kernel_rfl,c85:=by kernel_rfl,c127:=by kernel_rfl,c143:=by kernel_rfl,c145:=by kernel_rfl,c167:=by kernel_rfl,c168:=by kernel_rfl,c171:=by kernel_rfl,c173:=by kernel_rfl,c175:=by kernel_rfl,c210:=by kernel_rfl,c212:=by kernel_rfl,c213:=by kernel_rfl,c232:=by kernel_rfl,c233:=by kernel_rfl}
theorem ABS:Tryz.prog.globalNamed "internal/strconv.uint64pow10" =some AEC:=by kernel_rfl
theorem AKL:∀w,GI w->Go.Lib.TabIs Tryz.prog w "internal/strconv.uint64pow10" .u64 Go.Lib.pow10Tab:=fun w h=>h.tab ABS
theorem AF3:∀w,GI w-> ∃m,w.cell? ⟨AHZ,0,none⟩=some (.int .i64 m):=fun w h=>h.2.1
theorem maxOf{w:World}(h:w.ShapedOpen Tryz.prog):∃m,w.cell? ⟨AHZ,0,none⟩=some (.int .i64 m):=
 cell_of_shapedOpen_int (t:=3) (zero:= #[.int .i64 0]) h (of_decide_eq_true (by kernel_rfl)) (by kernel_rfl) rfl (by kernel_rfl) (by kernel_rfl) (by kernel_rfl)
set_option maxRecDepth 100000 in
theorem nG(s:ByteArray)(most:Int)(w:World)(ZR:s.size<=1048576)(hG:∀w',Below w.heap.size w w'->GI w'):
  Calls Tryz.prog 153 #[.string s,.int .i64 most] w fun e w' =>(∃a b,Ed s.data.toList most=some (a,b)/\e= .returned (.tuple #[.int .i64 a,.bool b]))/\Below w.heap.size w w':=by
 have hG0:=hG w (Below.refl _ _);have hs:=hG0.2.2.1;have hr:=hG0.2.2.2;have ARF:∀w',Below w.heap.size w w'->Go.Lib.TabIs Tryz.prog w' "internal/strconv.uint64pow10" .u64 Go.Lib.pow10Tab:=fun w' hb=>AKL _ (hG w' hb)
 have hl:s.data.toList.length<=1048576:=ZR;cases h:Go.Lib.atoiAll s.data.toList with
 |ok v=>
  have hv: -9223372036854775808<=v/\v<=9223372036854775807:=Go.Lib.atoiAll_bounds h;have e1:0<=v->(s.size:Int)<=most->Go.Lib.itoa v=s.data.toList->Ed s.data.toList most=some (v,true):=fun a b c=>by unfold Ed;rw[if_pos hl,h];simp only;rw[if_pos ⟨a,b,c⟩]
  have e2:(0<=v->(s.size:Int)<=most->Go.Lib.itoa v=s.data.toList->False)->Ed s.data.toList most=some (0,false):=fun hh=>by unfold Ed;rw[if_pos hl,h];simp only;rw[if_neg fun k=>hh k.1 k.2.1 k.2.2]
  have dig:∀W1:World,Below w.heap.size w W1->Calls Tryz.prog 56 #[.int .i64 v] W1 fun e w' =>e= .returned (.string ⟨(Go.Lib.itoa v).toArray⟩)/\Below w.heap.size w w':=by
   intro W1 hb
   go_enter Tryz.func56,Tryz.ntmps56
   go_wp2_with (go_at_call 129;refine(Any.strconv_Itoa wK v hv.1 hv.2 _ (ARF _ hb)).mono ?_;rintro e w' ⟨rfl,k,os,rfl⟩)
   go_ret
   exact⟨rfl,hb.trans ((sR k os).mono hb.size)⟩
  go_enter Tryz.func153,Tryz.ntmps153
  go_wp2_with (first|(go_at_call 226;refine(Any.strconv_Atoi_ok wm s (by omega) v h _).mono ?_;rintro e w' ⟨rfl,hw⟩)|(go_at_call 56;refine(dig _ (by rcases hw with rfl|⟨t,rfl⟩;exact Below.refl _ _;exact Go.Lib.bytesWorld_below _ _ _)).mono ?_;rintro e w2 ⟨rfl,hb2⟩))
  ·rename_i w2 hb2 hc
   go_ret2
   refine⟨⟨_,_,e2 fun p q r=> ?_,rfl⟩,hb2⟩;rw[r,ByteArray.toList_eq]at hc;simp only[beq_self_eq_true,Bool.not_true,Bool.false_eq_true,or_false]at hc;omega
  ·rename_i w2 hb2 hc
   go_ret2
   refine⟨⟨_,_,e1 hc.1.1 hc.1.2 ?_,rfl⟩,hb2⟩;have:=hc.2;rw[ByteArray.toList_eq]at this;simpa using this
  ·go_ret2
   refine⟨⟨_,.inl ⟨e2 fun p q r=> ?_,rfl⟩⟩,?_⟩
   ·omega
   ·rcases hw with rfl|⟨t,rfl⟩
    ·exact Below.refl _ _
    ·exact Go.Lib.bytesWorld_below _ _ _
  ·go_ret2
   refine⟨⟨_,.inl ⟨e2 fun p q r=> ?_,rfl⟩⟩,?_⟩
   ·omega
   ·rcases hw with rfl|⟨t,rfl⟩
    ·exact Below.refl _ _
    ·exact Go.Lib.bytesWorld_below _ _ _
 |range=>
  have e0:Ed s.data.toList most=some (0,false):=by unfold Ed;rw[if_pos hl,h]
  obtain⟨ev,hv,he⟩:=hr
  go_enter Tryz.func153,Tryz.ntmps153
  go_wp2_with (go_at_call 226;refine(Any.strconv_Atoi_range wm s (by omega) h ev _ hv he).mono ?_;rintro e W1 ⟨N,rfl,-,-,hb⟩)
  go_ret2
  exact⟨⟨_,_,e0,rfl⟩,hb⟩
 |_=>
  have e0:Ed s.data.toList most=some (0,false):=by unfold Ed;rw[if_pos hl,h]
  obtain⟨ev,hv,he⟩:=hs
  go_enter Tryz.func153,Tryz.ntmps153
  go_wp2_with (go_at_call 226;refine(Any.strconv_Atoi_syntax wm s (by omega) h ev _ hv he).mono ?_;rintro e W1 ⟨N,rfl,-,-,hb⟩)
  go_ret2
  exact⟨⟨_,_,e0,rfl⟩,hb⟩
def s22:SQ:=mk Tryz.func22 kt ET VX [] [] []
def s6:SQ:=mk Tryz.func6 ⟨[(0,qZ),(1,BB)],[]⟩ ET VO [s22] [] []
def s24:SQ:=mk Tryz.func24 ⟨[(0,bt)],[]⟩ dq aB [] [] [⟨3,⟨[(0,bt),(3,qR),(4,BB)],uB⟩,OU⟩]
def s8:SQ:=mk Tryz.func8 vS AKE M7 [s24] [] []
def Xh:SQ:=mk Tryz.func119 AKS Bu B9 [] [] []
abbrev i57:Bc:=vS
abbrev o57:Bc:=Bu
def s57:SQ:=mk Tryz.func57 i57 o57 GO [Xh] [] [⟨4,⟨AIN,AMW⟩,Lf⟩]
abbrev i58:Bc:=⟨[],[]⟩
abbrev o58:Bc:=AAR
def s58:SQ:=mk Tryz.func58 i58 o58 YR [] [] []
abbrev i23:Bc:=vS
abbrev o23:Bc:=AKa
def c23:Qv:=⟨i23,o23,(i23.un HV)⟩
def C23:cQ:=⟨T,Ry (SP.l [s57,s58]),CV [(3,[0,1]),(4,[0,4])]⟩
def L23:List (Lp o23):=[]
def K0(ω:List Bool):Prop:= ∀(n:Nat) (v:i23.V),DB C23 c23 Tryz.f23 (M3 0 L23 n) ω v=i23.un (HV) v
theorem AQU:K0 []:=by delta K0;intros;kernel_rfl
theorem ASq:K0 (false::[]):=by delta K0;intros;kernel_rfl
theorem ASY:K0 (false::false::[]):=by delta K0;intros;kernel_rfl
theorem AQ5:K0 (false::false::false::[]):=by delta K0;intros;kernel_rfl
theorem ASs:K0 (false::false::false::false::[]):=by delta K0;intros;kernel_rfl
theorem ASK:∀ω:List Bool,K0 (false::false::false::false::false::ω):=by refine AE ?_ (AE ?_ (AE ?_ ?_ ?_) (AE ?_ ?_ ?_)) (AE ?_ ?_ ?_)<;>(delta K0;intros;kernel_rfl)
theorem ASW:∀ω:List Bool,K0 (false::false::false::false::true::ω):=by refine AE ?_ (AE ?_ ?_ ?_) ?_<;>(delta K0;intros;kernel_rfl)
theorem AQE:∀ω:List Bool,K0 (false::false::false::true::ω):=by refine AE ?_ (AE ?_ ?_ ?_) ?_<;>(delta K0;intros;kernel_rfl)
theorem AQO:∀ω:List Bool,K0 (false::false::true::ω):=by refine AE ?_ (AE ?_ (AE ?_ ?_ ?_) ?_) ?_<;>(delta K0;intros;kernel_rfl)
theorem AKq:∀ω:List Bool,K0 (false::true::ω):=by refine AE ?_ (AE ?_ (AE ?_ ?_ ?_) ?_) ?_<;>(delta K0;intros;kernel_rfl)
theorem AM2:K0 (true::[]):=by delta K0;intros;kernel_rfl
theorem AKm:K0 (true::false::[]):=by delta K0;intros;kernel_rfl
theorem ALr:K0 (true::false::false::[]):=by delta K0;intros;kernel_rfl
theorem AK8:K0 (true::false::false::false::[]):=by delta K0;intros;kernel_rfl
theorem ALe:K0 (true::false::false::false::false::[]):=by delta K0;intros;kernel_rfl
theorem AKe:∀ω:List Bool,K0 (true::false::false::false::false::false::ω):=by refine AE ?_ (AE ?_ (AE ?_ ?_ ?_) (AE ?_ ?_ ?_)) (AE ?_ ?_ ?_)<;>(delta K0;intros;kernel_rfl)
theorem AL2:∀ω:List Bool,K0 (true::false::false::false::false::true::ω):=by refine AE ?_ (AE ?_ ?_ ?_) ?_<;>(delta K0;intros;kernel_rfl)
theorem ALt:∀ω:List Bool,K0 (true::false::false::false::true::ω):=by refine AE ?_ (AE ?_ ?_ ?_) ?_<;>(delta K0;intros;kernel_rfl)
theorem ALC:∀ω:List Bool,K0 (true::false::false::true::ω):=by refine AE ?_ (AE ?_ (AE ?_ ?_ ?_) ?_) ?_<;>(delta K0;intros;kernel_rfl)
theorem ALH:∀ω:List Bool,K0 (true::false::true::ω):=by refine AE ?_ (AE ?_ (AE ?_ ?_ ?_) ?_) ?_<;>(delta K0;intros;kernel_rfl)
theorem ANe:∀ω:List Bool,K0 (true::true::ω):=by refine AE ?_ (AE ?_ (AE ?_ ?_ ?_) ?_) ?_<;>(delta K0;intros;kernel_rfl)
theorem e23(n:Nat)(ω:List Bool)(v:i23.V):DB C23 c23 Tryz.f23 (M3 0 L23 n) ω v=i23.un (HV) v:=(AE AQU (AE ASq (AE ASY (AE AQ5 (AE ASs ASK ASW) AQE) AQO) AKq) (AE AM2 (AE AKm (AE ALr (AE AK8 (AE ALe AKe AL2) ALt) ALC) ALH) ANe)) ω n v
def s23:SQ:=mk Tryz.func23 i23 o23 HV [s57,s58] [(3,[0,1]),(4,[0,4])] L23 (hJ:= .nil) (he:=e23 AX)
abbrev i95:Bc:=AC3
abbrev o95:Bc:=AEr
def s95:SQ:=mk Tryz.func95 i95 o95 F_ [] [] [⟨3,⟨AQo,[AOs,.mem [.ref 2,.v tI],ZQ,.mem [.ref 4,.v tI],ZQ]⟩,OI⟩]
abbrev i96:Bc:=oe
abbrev o96:Bc:=AEp
def s96:SQ:=mk Tryz.func96 i96 o96 Eh [] [(1,[0])] [] (he:=fun ω v=>by rcases ω with _|⟨_|_,_|⟨_|_,_⟩⟩<;>kernel_rfl)
abbrev i97:Bc:=ACS
abbrev o97:Bc:=AFM
def s97:SQ:=mk Tryz.func97 i97 o97 FG [] [] [⟨3,⟨AQo,[AIE,.mem [.v tI,.ref 2],.sl 9 Y5,.mem [.v tI,.ref 4],.sl 9 Y5]⟩,OJ⟩]
abbrev wi:Bc:=zM
abbrev o98:Bc:=yz
def c98:Qv:=⟨wi,o98,(wi.un EI)⟩
def C98:cQ:=⟨T,Ry (SP.l ([]:List SQ)),CV [(1,[0,1]),(5,[0,1,2,3,4,6,7])]⟩
def L98:List (Lp o98):=[⟨3,⟨[(1,Ko),(2,cV),(3,.c (.ptr 5 0)),(4,BB)],AKd⟩,Hq⟩]
abbrev AGd:Bc:=⟨[(1,Ko),(2,cV),(3,.c (.ptr 5 0)),(4,BB)],AKd⟩
theorem AP7(n:Nat)(v:AGd.V)(ω:List Bool):Ke C98 c98 Tryz.f98 (M3 0 L98 n) 3 ω (AGd.st 40 v)=AGd.un (Sp (Hq n)) v:=by rcases ω with _|⟨_|_,_|⟨_|_,_|⟨_|_,_⟩⟩⟩<;>kernel_rfl
def AEN(ω:List Bool):Prop:= ∀(n:Nat) (v:wi.V),DB C98 c98 Tryz.f98 (M3 0 L98 n) ω v=wi.un (Nw (Hq n)) v
theorem ASM:AEN []:=by delta AEN;intros;kernel_rfl
theorem APy:∀ω:List Bool,AEN (false::ω):=by refine AE ?_ (AE ?_ ?_ (AE ?_ ?_ ?_)) (AE ?_ ?_ (AE ?_ ?_ (AE ?_ ?_ ?_)))<;>(delta AEN;intros;kernel_rfl)
theorem AQB:∀ω:List Bool,AEN (true::ω):=by refine AE ?_ (AE ?_ (AE ?_ ?_ ?_) (AE ?_ ?_ (AE ?_ ?_ ?_))) (AE ?_ ?_ (AE ?_ ?_ ?_))<;>(delta AEN;intros;kernel_rfl)
theorem e98(n:Nat)(ω:List Bool)(v:wi.V):DB C98 c98 Tryz.f98 (M3 0 L98 n) ω v=wi.un (Nw (Hq n)) v:=(AE ASM APy AQB) ω n v
def s98:SQ:=mk Tryz.func98 wi o98 EI [] [(1,[0,1]),(5,[0,1,2,3,4,6,7])] L98 (hJ:= .cons (fun _=>rfl) AP7 (.nil)) (he:=e98 AX)
abbrev i99:Bc:=wC
abbrev o99:Bc:=AAR
def s99:SQ:=mk Tryz.func99 i99 o99 CQ [] [] []
abbrev i42:Bc:=TB
abbrev o42:Bc:=AJW
def c42:Qv:=⟨i42,o42,(i42.un MJ)⟩
def C42:cQ:=⟨T,Ry (SP.l [s95,s96,s97,s98,s99]),CV [(1,[0,1]),(5,[0,1,2,3,4,5,6,7,8,9,11,13,14,15,16,17,18]),(9,[0,1,2,3,4,5,6,7,8,9,11,12,13,14,16,17,18]),(13,[0,1,2,3,4,5,6,7,8,9,11,12,13,14,15,17,18]),(17,[0,1,2,3,4,5,6,7,8,9,11,12,13,14,15,16,18])]⟩
def L42:List (Lp o42):=[⟨3,⟨[(1,Ko),(2,cV),(3,xP8),(4,BB)],pQ⟩,CY⟩,⟨7,⟨[(1,Ko),(2,cV),(3,xP8),(5,BB)],pQ⟩,Cn⟩,⟨11,⟨[(1,Ko),(2,cV),(3,xP8),(6,BB)],pQ⟩,CT⟩,⟨15,⟨[(1,Ko),(2,cV),(3,xP8),(7,BB)],pQ⟩,CW⟩]
abbrev vB:Bc:=⟨[(1,Ko),(2,cV),(3,xP8),(4,BB)],pQ⟩
abbrev vV:Bc:=⟨[(1,Ko),(2,cV),(3,xP8),(5,BB)],pQ⟩
abbrev mR:Bc:=⟨[(1,Ko),(2,cV),(3,xP8),(6,BB)],pQ⟩
abbrev mL:Bc:=⟨[(1,Ko),(2,cV),(3,xP8),(7,BB)],pQ⟩
theorem ARX(zd:AA6->Option FZ)(g96:ABR->Option Kt)(zq:ABL->Option FR)(g98:AAu->Option GM)(g99:ACD->Option Jd)(n:Nat)(v:vB.V)(ω:List Bool):Ke ⟨T,Ry [(95,⟨i95,o95,i95.un zd⟩),(96,⟨i96,o96,i96.un g96⟩),(97,⟨i97,o97,i97.un zq⟩),(98,⟨wi,o98,wi.un g98⟩),(99,⟨i99,o99,i99.un g99⟩)],CV [(1,[0,1]),(5,[0,1,2,3,4,5,6,7,8,9,11,13,14,15,16,17,18]),(9,[0,1,2,3,4,5,6,7,8,9,11,12,13,14,16,17,18]),(13,[0,1,2,3,4,5,6,7,8,9,11,12,13,14,15,17,18]),(17,[0,1,2,3,4,5,6,7,8,9,11,12,13,14,15,16,18])]⟩ c42 Tryz.f42 (M3 0 L42 n) 3 ω (vB.st 104 v)=vB.un (fun(t4:Int) (AQ:AAN) (AF:Int) (Ah:AAT) (BA:AAN) (BH:AAU) (AM:Int) (Bj:AAX) (Bi:AAY) (BM:AAV) (Bm:AAW) (AG:Bool) (Ba:Int) (Fi:Int) (Ix:Bool) (b2:AAN) (b3:AAT) (b4:AAN) (b5:AAU) (b6:AAX) (b7:AAY) (b8:AAV) (b9:AAW) (FA:Int) (Gy:Int) (D8:Bool) (G6:AAN) (EK:AAT) (Hy:AAN) (Hw:AAU) (Eu:AAX) (Fb:AAY) (GK:AAV) (bI:AAW)=>
 cond ((decide (t4<(Ah.length:Int))))
  (if(0:Int)<=t4/\t4<(Ah.length:Int)then(
  (g96 ((Ah.getD (t4.toNat) ([],[],0,())).1,(Ah.getD (t4.toNat) ([],[],0,())).2.1,(Ah.getD (t4.toNat) ([],[],0,())).2.2.1,())).bind fun AB6=>
  if EK.length+1<=Go.M.Cm then(
  (CY n) (AW (t4+1)) AQ AF Ah BA BH AM Bj Bi BM Bm AG Ba Fi Ix b2 b3 b4 b5 b6 b7 b8 b9 FA Gy D8 G6 (EK++[(AB6.2.1,AB6.2.2.1,AB6.1.1.2.2.1,())]) Hy Hw Eu Fb GK bI)else none)else none)
 ((Cn n) 0 AQ AF Ah BA BH AM Bj Bi BM Bm AG Ba Fi Ix b2 b3 b4 b5 b6 b7 b8 b9 FA Gy D8 G6 EK Hy Hw Eu Fb GK bI)) v:=by rcases ω with _|⟨_|_,_|⟨_|_,_⟩⟩<;>kernel_rfl
theorem ASz(n:Nat)(v:vB.V)(ω:List Bool):Ke C42 c42 Tryz.f42 (M3 0 L42 n) 3 ω (vB.st 104 v)=vB.un (RG (CY n) (Cn n) (CT n) (CW n)) v:=ARX F_ Eh FG EI CQ n v ω
theorem ARt(zd:AA6->Option FZ)(g96:ABR->Option Kt)(zq:ABL->Option FR)(g98:AAu->Option GM)(g99:ACD->Option Jd)(n:Nat)(v:vV.V)(ω:List Bool):Ke ⟨T,Ry [(95,⟨i95,o95,i95.un zd⟩),(96,⟨i96,o96,i96.un g96⟩),(97,⟨i97,o97,i97.un zq⟩),(98,⟨wi,o98,wi.un g98⟩),(99,⟨i99,o99,i99.un g99⟩)],CV [(1,[0,1]),(5,[0,1,2,3,4,5,6,7,8,9,11,13,14,15,16,17,18]),(9,[0,1,2,3,4,5,6,7,8,9,11,12,13,14,16,17,18]),(13,[0,1,2,3,4,5,6,7,8,9,11,12,13,14,15,17,18]),(17,[0,1,2,3,4,5,6,7,8,9,11,12,13,14,15,16,18])]⟩ c42 Tryz.f42 (M3 0 L42 n) 7 ω (vV.st 104 v)=vV.un (fun(t5:Int) (AQ:AAN) (AF:Int) (Ah:AAT) (BA:AAN) (BH:AAU) (AM:Int) (Bj:AAX) (Bi:AAY) (BM:AAV) (Bm:AAW) (AG:Bool) (Ba:Int) (Fi:Int) (Ix:Bool) (b2:AAN) (b3:AAT) (b4:AAN) (b5:AAU) (b6:AAX) (b7:AAY) (b8:AAV) (b9:AAW) (FA:Int) (Gy:Int) (D8:Bool) (G6:AAN) (EK:AAT) (Hy:AAN) (Hw:AAU) (Eu:AAX) (Fb:AAY) (GK:AAV) (bI:AAW)=>
 cond ((decide (t5<(Bj.length:Int))))
  (if(0:Int)<=t5/\t5<(Bj.length:Int)then(
  (zq ((Bj.getD (t5.toNat) (0,[],())).1,(Bj.getD (t5.toNat) (0,[],())).2.1,())).bind fun AFl=>
  if Eu.length+1<=Go.M.Cm then(
  (Cn n) (AW (t5+1)) AQ AF Ah BA BH AM Bj Bi BM Bm AG Ba Fi Ix b2 b3 b4 b5 b6 b7 b8 b9 FA Gy D8 G6 EK Hy Hw (Eu++[(AFl.1.1.1,AFl.2.1,())]) Fb GK bI)else none)else none)
 ((CT n) 0 AQ AF Ah BA BH AM Bj Bi BM Bm AG Ba Fi Ix b2 b3 b4 b5 b6 b7 b8 b9 FA Gy D8 G6 EK Hy Hw Eu Fb GK bI)) v:=by rcases ω with _|⟨_|_,_|⟨_|_,_⟩⟩<;>kernel_rfl
theorem AQa(n:Nat)(v:vV.V)(ω:List Bool):Ke C42 c42 Tryz.f42 (M3 0 L42 n) 7 ω (vV.st 104 v)=vV.un (RL (CY n) (Cn n) (CT n) (CW n)) v:=ARt F_ Eh FG EI CQ n v ω
theorem AMX(zd:AA6->Option FZ)(g96:ABR->Option Kt)(zq:ABL->Option FR)(g98:AAu->Option GM)(g99:ACD->Option Jd)(n:Nat)(v:mR.V)(ω:List Bool):Ke ⟨T,Ry [(95,⟨i95,o95,i95.un zd⟩),(96,⟨i96,o96,i96.un g96⟩),(97,⟨i97,o97,i97.un zq⟩),(98,⟨wi,o98,wi.un g98⟩),(99,⟨i99,o99,i99.un g99⟩)],CV [(1,[0,1]),(5,[0,1,2,3,4,5,6,7,8,9,11,13,14,15,16,17,18]),(9,[0,1,2,3,4,5,6,7,8,9,11,12,13,14,16,17,18]),(13,[0,1,2,3,4,5,6,7,8,9,11,12,13,14,15,17,18]),(17,[0,1,2,3,4,5,6,7,8,9,11,12,13,14,15,16,18])]⟩ c42 Tryz.f42 (M3 0 L42 n) 11 ω (mR.st 104 v)=mR.un (fun(t6:Int) (AQ:AAN) (AF:Int) (Ah:AAT) (BA:AAN) (BH:AAU) (AM:Int) (Bj:AAX) (Bi:AAY) (BM:AAV) (Bm:AAW) (AG:Bool) (Ba:Int) (Fi:Int) (Ix:Bool) (b2:AAN) (b3:AAT) (b4:AAN) (b5:AAU) (b6:AAX) (b7:AAY) (b8:AAV) (b9:AAW) (FA:Int) (Gy:Int) (D8:Bool) (G6:AAN) (EK:AAT) (Hy:AAN) (Hw:AAU) (Eu:AAX) (Fb:AAY) (GK:AAV) (bI:AAW)=>
 cond ((decide (t6<(Bi.length:Int))))
  (if(0:Int)<=t6/\t6<(Bi.length:Int)then(
  (g98 ((Bi.getD (t6.toNat) (0,0,[],[],false,[],())).1,(Bi.getD (t6.toNat) (0,0,[],[],false,[],())).2.1,(Bi.getD (t6.toNat) (0,0,[],[],false,[],())).2.2.1,(Bi.getD (t6.toNat) (0,0,[],[],false,[],())).2.2.2.1,(Bi.getD (t6.toNat) (0,0,[],[],false,[],())).2.2.2.2.1,(Bi.getD (t6.toNat) (0,0,[],[],false,[],())).2.2.2.2.2.1,())).bind fun l3=>
  if Fb.length+1<=Go.M.Cm then(
  (CT n) (AW (t6+1)) AQ AF Ah BA BH AM Bj Bi BM Bm AG Ba Fi Ix b2 b3 b4 b5 b6 b7 b8 b9 FA Gy D8 G6 EK Hy Hw Eu (Fb++[(l3.1.1.1,l3.1.1.2.1,l3.2.1,l3.2.2.1,l3.1.1.2.2.2.2.1,l3.2.2.2.1,())]) GK bI)else none)else none)
 ((CW n) 0 AQ AF Ah BA BH AM Bj Bi BM Bm AG Ba Fi Ix b2 b3 b4 b5 b6 b7 b8 b9 FA Gy D8 G6 EK Hy Hw Eu Fb GK bI)) v:=by rcases ω with _|⟨_|_,_|⟨_|_,_⟩⟩<;>kernel_rfl
theorem AL1(n:Nat)(v:mR.V)(ω:List Bool):Ke C42 c42 Tryz.f42 (M3 0 L42 n) 11 ω (mR.st 104 v)=mR.un (P3 (CY n) (Cn n) (CT n) (CW n)) v:=AMX F_ Eh FG EI CQ n v ω
theorem ALP(zd:AA6->Option FZ)(g96:ABR->Option Kt)(zq:ABL->Option FR)(g98:AAu->Option GM)(g99:ACD->Option Jd)(n:Nat)(v:mL.V)(ω:List Bool):Ke ⟨T,Ry [(95,⟨i95,o95,i95.un zd⟩),(96,⟨i96,o96,i96.un g96⟩),(97,⟨i97,o97,i97.un zq⟩),(98,⟨wi,o98,wi.un g98⟩),(99,⟨i99,o99,i99.un g99⟩)],CV [(1,[0,1]),(5,[0,1,2,3,4,5,6,7,8,9,11,13,14,15,16,17,18]),(9,[0,1,2,3,4,5,6,7,8,9,11,12,13,14,16,17,18]),(13,[0,1,2,3,4,5,6,7,8,9,11,12,13,14,15,17,18]),(17,[0,1,2,3,4,5,6,7,8,9,11,12,13,14,15,16,18])]⟩ c42 Tryz.f42 (M3 0 L42 n) 15 ω (mL.st 104 v)=mL.un (fun(t7:Int) (AQ:AAN) (AF:Int) (Ah:AAT) (BA:AAN) (BH:AAU) (AM:Int) (Bj:AAX) (Bi:AAY) (BM:AAV) (Bm:AAW) (AG:Bool) (Ba:Int) (Fi:Int) (Ix:Bool) (b2:AAN) (b3:AAT) (b4:AAN) (b5:AAU) (b6:AAX) (b7:AAY) (b8:AAV) (b9:AAW) (FA:Int) (Gy:Int) (D8:Bool) (G6:AAN) (EK:AAT) (Hy:AAN) (Hw:AAU) (Eu:AAX) (Fb:AAY) (GK:AAV) (bI:AAW)=>
 cond ((decide (t7<(BM.length:Int))))
  (if(0:Int)<=t7/\t7<(BM.length:Int)then(
  (g99 ((BM.getD (t7.toNat) (0,0,[],())).1,(BM.getD (t7.toNat) (0,0,[],())).2.1,(BM.getD (t7.toNat) (0,0,[],())).2.2.1,())).bind fun ABn=>
  if GK.length+1<=Go.M.Cm then(
  (CW n) (AW (t7+1)) AQ AF Ah BA BH AM Bj Bi BM Bm AG Ba Fi Ix b2 b3 b4 b5 b6 b7 b8 b9 FA Gy D8 G6 EK Hy Hw Eu Fb (GK++[(ABn.1.1.1,ABn.1.1.2.1,ABn.2.1,())]) bI)else none)else none)
 (some ((((),FA,(),(),(),Gy,(),(),(),(),D8,()),()),(G6,EK,Hy,Hw,Eu,Fb,GK,bI,())))) v:=by rcases ω with _|⟨_|_,_|⟨_|_,_⟩⟩<;>kernel_rfl
theorem AOp(n:Nat)(v:mL.V)(ω:List Bool):Ke C42 c42 Tryz.f42 (M3 0 L42 n) 15 ω (mL.st 104 v)=mL.un (P1 (CY n) (Cn n) (CT n) (CW n)) v:=ALP F_ Eh FG EI CQ n v ω
def Cy(ω:List Bool):Prop:= ∀(zd:AA6->Option FZ) (g96:ABR->Option Kt) (zq:ABL->Option FR) (g98:AAu->Option GM) (g99:ACD->Option Jd) (n:Nat) (v:i42.V),DB ⟨T,Ry [(95,⟨i95,o95,i95.un zd⟩),(96,⟨i96,o96,i96.un g96⟩),(97,⟨i97,o97,i97.un zq⟩),(98,⟨wi,o98,wi.un g98⟩),(99,⟨i99,o99,i99.un g99⟩)],CV [(1,[0,1]),(5,[0,1,2,3,4,5,6,7,8,9,11,13,14,15,16,17,18]),(9,[0,1,2,3,4,5,6,7,8,9,11,12,13,14,16,17,18]),(13,[0,1,2,3,4,5,6,7,8,9,11,12,13,14,15,17,18]),(17,[0,1,2,3,4,5,6,7,8,9,11,12,13,14,15,16,18])]⟩ c42 Tryz.f42 (M3 0 L42 n) ω v=i42.un (fun(p0:AAi)=>
 if 0+p0.1.length<=Go.M.Cm then(
 if 0+p0.2.2.2.1.length<=Go.M.Cm then(
 (zd (p0.2.2.2.2.1,p0.2.2.2.2.2.1,())).bind fun u2=>
 if 0+p0.2.2.2.2.2.2.2.2.2.1.length<=Go.M.Cm then(
 (CY n) 0 p0.1 p0.2.1 p0.2.2.1 p0.2.2.2.1 p0.2.2.2.2.1 p0.2.2.2.2.2.1 p0.2.2.2.2.2.2.1 p0.2.2.2.2.2.2.2.1 p0.2.2.2.2.2.2.2.2.1 p0.2.2.2.2.2.2.2.2.2.1 p0.2.2.2.2.2.2.2.2.2.2.1 0 0 false [] [] [] [] [] [] [] [] p0.2.1 u2.1.1.2.1 p0.2.2.2.2.2.2.2.2.2.2.1 p0.1 [] p0.2.2.2.1 u2.2.1 [] [] [] p0.2.2.2.2.2.2.2.2.2.1)else none)else none)else none) v
theorem AQL:Cy []:=by delta Cy;intros;kernel_rfl
theorem AP1:Cy (false::[]):=by delta Cy;intros;kernel_rfl
theorem ASt:Cy (false::false::[]):=by delta Cy;intros;kernel_rfl
theorem APS:Cy (false::false::false::[]):=by delta Cy;intros;kernel_rfl
theorem APg:∀ω:List Bool,Cy (false::false::false::false::ω):=by refine AE ?_ (AE ?_ ?_ (AE ?_ ?_ ?_)) (AE ?_ ?_ (AE ?_ ?_ (AE ?_ ?_ (AE ?_ ?_ ?_))))<;>(delta Cy;intros;kernel_rfl)
theorem AQR:Cy (false::false::false::true::[]):=by delta Cy;intros;kernel_rfl
theorem APe:∀ω:List Bool,Cy (false::false::false::true::false::ω):=by refine AE ?_ (AE ?_ ?_ ?_) (AE ?_ ?_ (AE ?_ ?_ (AE ?_ ?_ ?_)))<;>(delta Cy;intros;kernel_rfl)
theorem AR3:∀ω:List Bool,Cy (false::false::false::true::true::ω):=by refine AE ?_ ?_ (AE ?_ ?_ (AE ?_ ?_ ?_))<;>(delta Cy;intros;kernel_rfl)
theorem APh:Cy (false::false::true::[]):=by delta Cy;intros;kernel_rfl
theorem ANN:Cy (false::false::true::false::[]):=by delta Cy;intros;kernel_rfl
theorem AL7:∀ω:List Bool,Cy (false::false::true::false::false::ω):=by refine AE ?_ ?_ (AE ?_ ?_ ?_)<;>(delta Cy;intros;kernel_rfl)
theorem AM0:∀ω:List Bool,Cy (false::false::true::false::true::ω):=by refine AE ?_ ?_ (AE ?_ ?_ (AE ?_ ?_ (AE ?_ ?_ (AE ?_ ?_ ?_))))<;>(delta Cy;intros;kernel_rfl)
theorem ANL:Cy (false::false::true::true::[]):=by delta Cy;intros;kernel_rfl
theorem ALU:∀ω:List Bool,Cy (false::false::true::true::false::ω):=by refine AE ?_ (AE ?_ ?_ ?_) (AE ?_ ?_ (AE ?_ ?_ (AE ?_ ?_ (AE ?_ ?_ ?_))))<;>(delta Cy;intros;kernel_rfl)
theorem AMY:∀ω:List Bool,Cy (false::false::true::true::true::ω):=by refine AE ?_ ?_ (AE ?_ ?_ (AE ?_ ?_ (AE ?_ ?_ ?_)))<;>(delta Cy;intros;kernel_rfl)
theorem AKl:Cy (false::true::[]):=by delta Cy;intros;kernel_rfl
theorem AOL:Cy (false::true::false::[]):=by delta Cy;intros;kernel_rfl
theorem ALT:∀ω:List Bool,Cy (false::true::false::false::ω):=by refine AE ?_ ?_ (AE ?_ ?_ (AE ?_ ?_ (AE ?_ ?_ ?_)))<;>(delta Cy;intros;kernel_rfl)
theorem ALx:∀ω:List Bool,Cy (false::true::false::true::ω):=by refine AE ?_ ?_ (AE ?_ ?_ (AE ?_ ?_ (AE ?_ ?_ (AE ?_ ?_ ?_))))<;>(delta Cy;intros;kernel_rfl)
theorem ANo:Cy (false::true::true::[]):=by delta Cy;intros;kernel_rfl
theorem AOe:Cy (false::true::true::false::[]):=by delta Cy;intros;kernel_rfl
theorem AK_:∀ω:List Bool,Cy (false::true::true::false::false::ω):=by refine AE ?_ ?_ (AE ?_ ?_ (AE ?_ ?_ ?_))<;>(delta Cy;intros;kernel_rfl)
theorem AML:∀ω:List Bool,Cy (false::true::true::false::true::ω):=by refine AE ?_ ?_ (AE ?_ ?_ (AE ?_ ?_ (AE ?_ ?_ ?_)))<;>(delta Cy;intros;kernel_rfl)
theorem AKv:Cy (false::true::true::true::[]):=by delta Cy;intros;kernel_rfl
theorem AMx:∀ω:List Bool,Cy (false::true::true::true::false::ω):=by refine AE ?_ (AE ?_ ?_ (AE ?_ ?_ ?_)) (AE ?_ ?_ (AE ?_ ?_ (AE ?_ ?_ ?_)))<;>(delta Cy;intros;kernel_rfl)
theorem ANn:∀ω:List Bool,Cy (false::true::true::true::true::ω):=by refine AE ?_ (AE ?_ (AE ?_ ?_ ?_) (AE ?_ ?_ (AE ?_ ?_ ?_))) (AE ?_ ?_ (AE ?_ ?_ ?_))<;>(delta Cy;intros;kernel_rfl)
theorem AMA:Cy (true::[]):=by delta Cy;intros;kernel_rfl
theorem AKs:Cy (true::false::[]):=by delta Cy;intros;kernel_rfl
theorem AOh:Cy (true::false::false::[]):=by delta Cy;intros;kernel_rfl
theorem ALq:Cy (true::false::false::false::[]):=by delta Cy;intros;kernel_rfl
theorem AMw:∀ω:List Bool,Cy (true::false::false::false::false::ω):=by refine AE ?_ (AE ?_ ?_ ?_) (AE ?_ ?_ (AE ?_ ?_ (AE ?_ ?_ ?_)))<;>(delta Cy;intros;kernel_rfl)
theorem ALF:∀ω:List Bool,Cy (true::false::false::false::true::ω):=by refine AE ?_ ?_ (AE ?_ ?_ (AE ?_ ?_ ?_))<;>(delta Cy;intros;kernel_rfl)
theorem AN2:Cy (true::false::false::true::[]):=by delta Cy;intros;kernel_rfl
theorem ANc:∀ω:List Bool,Cy (true::false::false::true::false::ω):=by refine AE ?_ (AE ?_ ?_ ?_) (AE ?_ ?_ (AE ?_ ?_ (AE ?_ ?_ (AE ?_ ?_ ?_))))<;>(delta Cy;intros;kernel_rfl)
theorem ALW:∀ω:List Bool,Cy (true::false::false::true::true::ω):=by refine AE ?_ ?_ (AE ?_ ?_ (AE ?_ ?_ (AE ?_ ?_ ?_)))<;>(delta Cy;intros;kernel_rfl)
theorem AMI:Cy (true::false::true::[]):=by delta Cy;intros;kernel_rfl
theorem ANv:Cy (true::false::true::false::[]):=by delta Cy;intros;kernel_rfl
theorem ALi:∀ω:List Bool,Cy (true::false::true::false::false::ω):=by refine AE ?_ ?_ (AE ?_ ?_ (AE ?_ ?_ ?_))<;>(delta Cy;intros;kernel_rfl)
theorem ALf:∀ω:List Bool,Cy (true::false::true::false::true::ω):=by refine AE ?_ ?_ (AE ?_ ?_ (AE ?_ ?_ (AE ?_ ?_ ?_)))<;>(delta Cy;intros;kernel_rfl)
theorem AM_:Cy (true::false::true::true::[]):=by delta Cy;intros;kernel_rfl
theorem AOu:∀ω:List Bool,Cy (true::false::true::true::false::ω):=by refine AE ?_ (AE ?_ ?_ (AE ?_ ?_ ?_)) (AE ?_ ?_ (AE ?_ ?_ (AE ?_ ?_ ?_)))<;>(delta Cy;intros;kernel_rfl)
theorem AN7:∀ω:List Bool,Cy (true::false::true::true::true::ω):=by refine AE ?_ (AE ?_ (AE ?_ ?_ ?_) (AE ?_ ?_ (AE ?_ ?_ ?_))) (AE ?_ ?_ (AE ?_ ?_ ?_))<;>(delta Cy;intros;kernel_rfl)
theorem AMe:Cy (true::true::[]):=by delta Cy;intros;kernel_rfl
theorem AMu:Cy (true::true::false::[]):=by delta Cy;intros;kernel_rfl
theorem AM6:∀ω:List Bool,Cy (true::true::false::false::ω):=by refine AE ?_ ?_ (AE ?_ ?_ (AE ?_ ?_ ?_))<;>(delta Cy;intros;kernel_rfl)
theorem ANW:∀ω:List Bool,Cy (true::true::false::true::ω):=by refine AE ?_ ?_ (AE ?_ ?_ (AE ?_ ?_ (AE ?_ ?_ ?_)))<;>(delta Cy;intros;kernel_rfl)
theorem ALL:Cy (true::true::true::[]):=by delta Cy;intros;kernel_rfl
theorem AKo:∀ω:List Bool,Cy (true::true::true::false::ω):=by refine AE ?_ (AE ?_ ?_ (AE ?_ ?_ ?_)) (AE ?_ ?_ (AE ?_ ?_ (AE ?_ ?_ ?_)))<;>(delta Cy;intros;kernel_rfl)
theorem AKw:∀ω:List Bool,Cy (true::true::true::true::ω):=by refine AE ?_ (AE ?_ (AE ?_ ?_ ?_) (AE ?_ ?_ (AE ?_ ?_ ?_))) (AE ?_ ?_ (AE ?_ ?_ ?_))<;>(delta Cy;intros;kernel_rfl)
theorem b42(zd:AA6->Option FZ)(g96:ABR->Option Kt)(zq:ABL->Option FR)(g98:AAu->Option GM)(g99:ACD->Option Jd)(n:Nat)(ω:List Bool)(v:i42.V):DB ⟨T,Ry [(95,⟨i95,o95,i95.un zd⟩),(96,⟨i96,o96,i96.un g96⟩),(97,⟨i97,o97,i97.un zq⟩),(98,⟨wi,o98,wi.un g98⟩),(99,⟨i99,o99,i99.un g99⟩)],CV [(1,[0,1]),(5,[0,1,2,3,4,5,6,7,8,9,11,13,14,15,16,17,18]),(9,[0,1,2,3,4,5,6,7,8,9,11,12,13,14,16,17,18]),(13,[0,1,2,3,4,5,6,7,8,9,11,12,13,14,15,17,18]),(17,[0,1,2,3,4,5,6,7,8,9,11,12,13,14,15,16,18])]⟩ c42 Tryz.f42 (M3 0 L42 n) ω v=i42.un (fun(p0:AAi)=>
 if 0+p0.1.length<=Go.M.Cm then(
 if 0+p0.2.2.2.1.length<=Go.M.Cm then(
 (zd (p0.2.2.2.2.1,p0.2.2.2.2.2.1,())).bind fun u2=>
 if 0+p0.2.2.2.2.2.2.2.2.2.1.length<=Go.M.Cm then(
 (CY n) 0 p0.1 p0.2.1 p0.2.2.1 p0.2.2.2.1 p0.2.2.2.2.1 p0.2.2.2.2.2.1 p0.2.2.2.2.2.2.1 p0.2.2.2.2.2.2.2.1 p0.2.2.2.2.2.2.2.2.1 p0.2.2.2.2.2.2.2.2.2.1 p0.2.2.2.2.2.2.2.2.2.2.1 0 0 false [] [] [] [] [] [] [] [] p0.2.1 u2.1.1.2.1 p0.2.2.2.2.2.2.2.2.2.2.1 p0.1 [] p0.2.2.2.1 u2.2.1 [] [] [] p0.2.2.2.2.2.2.2.2.2.1)else none)else none)else none) v:=(AE AQL (AE AP1 (AE ASt (AE APS APg (AE AQR APe AR3)) (AE APh (AE ANN AL7 AM0) (AE ANL ALU AMY))) (AE AKl (AE AOL ALT ALx) (AE ANo (AE AOe AK_ AML) (AE AKv AMx ANn)))) (AE AMA (AE AKs (AE AOh (AE ALq AMw ALF) (AE AN2 ANc ALW)) (AE AMI (AE ANv ALi ALf) (AE AM_ AOu AN7))) (AE AMe (AE AMu AM6 ANW) (AE ALL AKo AKw)))) ω zd g96 zq g98 g99 n v
theorem e42(n:Nat)(ω:List Bool)(v:i42.V):DB C42 c42 Tryz.f42 (M3 0 L42 n) ω v=i42.un (Q3 (CY n) (Cn n) (CT n) (CW n)) v:=b42 F_ Eh FG EI CQ n ω v
def s42:SQ:=mk Tryz.func42 i42 o42 MJ [s95,s96,s97,s98,s99] [(1,[0,1]),(5,[0,1,2,3,4,5,6,7,8,9,11,13,14,15,16,17,18]),(9,[0,1,2,3,4,5,6,7,8,9,11,12,13,14,16,17,18]),(13,[0,1,2,3,4,5,6,7,8,9,11,12,13,14,15,17,18]),(17,[0,1,2,3,4,5,6,7,8,9,11,12,13,14,15,16,18])] L42 (hJ:= .cons (fun _=>rfl) ASz (.cons (fun _=>rfl) AQa (.cons (fun _=>rfl) AL1 (.cons (fun _=>rfl) AOp (.nil))))) (he:=e42 AX)
def AVK:SQ:=mk Tryz.func203 ⟨[(0,bt),(1,BB),(2,BB)],[]⟩ Bu dB [Xh] [] [⟨2,⟨[(0,bt),(1,BB),(2,BB),(7,BB)],[]⟩,NH⟩]
def ABO:SQ:=mk Tryz.func110 oX Bu Gi [s57,AVK] [] []
def AQd:SQ:=mk Tryz.func204 oX ET V1 [] [(6,[0,1])] [⟨4,⟨[(1,bt),(2,Ko),(5,xP9),(6,BB),(7,BB)],[zn,.sl 9 .bool]⟩,Oc⟩]
abbrev ANV:Bc:=oX
abbrev ARp:Bc:=Bu
def ub:SQ:=mk Tryz.func111 ANV ARp HI [ABO,AQd] [(1,[0])] []
def t_:SQ:=mk Tryz.func120 ET Bu E9 [Xh] [] []
abbrev iz:Bc:=ET
abbrev yY:Bc:=ET
def o_:SQ:=mk Tryz.func121 iz yY Cl [t_] [] []
def AIB:SQ:=mk Tryz.func207 ⟨[(0,.row Y1)],[]⟩ Bu Md [Xh,t_,o_] [(1,[0])] []
def AWp:SQ:=mk Tryz.func205 AFJ Bu Vx [AIB] [] [⟨4,⟨[(0,ZP),(5,BB)],[]⟩,Ls⟩]
def AS8:SQ:=mk Tryz.func206 ACN Bu Yq [] [] [⟨2,⟨[(0,ZP),(3,BB)],[]⟩,GJ⟩]
def ABq:SQ:=mk Tryz.func112 oe Bu Gg [Xh,AWp,AS8] [] []
abbrev jF:Bc:=kt
abbrev zA:Bc:=Bu
def pf:SQ:=mk Tryz.func113 jF zA DG [] [] [⟨2,⟨[(0,bt),(1,BB),(5,BB)],[]⟩,QK⟩]
def AXE:SQ:=mk Tryz.func114 oe Bu cT [] [] []
def s46:SQ:=mk Tryz.func46 TB Bu U7 [s57,ABO,ub,ABq,pf,AXE] [] [⟨4,yy,JM⟩]
abbrev AMC:Bc:=AFk
abbrev ASE:Bc:=Bu
def AD1:SQ:=mk Tryz.func115 AMC ASE Mh [s57,ub,Xh,t_,o_] [] [⟨5,⟨ARr,AQH⟩,Kp⟩]
abbrev ANf:Bc:=AGF
abbrev AQV:Bc:=Bu
def AFH:SQ:=mk Tryz.func116 ANf AQV HR [s57,ABO,ub,Xh] [(8,[0,1,2])] [⟨5,⟨ARr,APb⟩,Ly⟩]
abbrev ix:Bc:=ET
abbrev zo:Bc:=ET
def AFE:SQ:=mk Tryz.func216 ix zo Gh [t_] [] []
def ARQ:SQ:=mk Tryz.func208 zM ET Rt [AFE] [] []
def AEF:SQ:=mk Tryz.func117 zP Bu It [s57,ABO,Xh,o_,AS8,AIB,ARQ] [(6,[0,1]),(11,[0,1]),(15,[0,1])] [⟨4,AJK,JW⟩,⟨9,⟨[(2,Ko),(3,cV),(6,BB)],ALK⟩,Hv⟩]
def AL4:SQ:=mk Tryz.func118 AC3 ET LZ [] [] [⟨2,⟨AIN,[AOs]⟩,H_⟩]
def s47:SQ:=mk Tryz.func47 TB Bu S2 [AD1,AFH,AEF,AL4] [(7,[0]),(13,[0,1])] [⟨5,AJ5,Gl⟩,⟨10,⟨[(1,Ko),(3,BB),(5,BB)],pK⟩,Ea⟩]
def s48:SQ:=mk Tryz.func48 wC Bu M6 [Xh] [] []
def s49:SQ:=mk Tryz.func49 TB Bu XL [t_,o_] [(7,[0,1])] [⟨4,yy,J4⟩]
def s17:SQ:=mk Tryz.func17 TB Bu HX [s46,s47,s48,s49] [] []
def AWj:SQ:=mk Tryz.func337 ACh Bu Yy [Xh] [] []
def AVD:SQ:=mk Tryz.func276 wC Bu QN [AWj] [(6,[0])] [⟨3,⟨ARn,[ADi]⟩,Lk⟩]
def AT8:SQ:=mk Tryz.func181 TB Bu QX [s17,AVD] [] []
def AVF:SQ:=mk Tryz.func277 ⟨[(0,.row Y11),(1,.row Y8)],[]⟩ Bu XJ [] [(4,[0,1])] [⟨2,⟨AQh,[ADV,.mem [.v tI,.v tI,.v .str]]⟩,M1⟩]
def AVJ:SQ:=mk Tryz.func182 TB Bu SE [s17,AVF] [] [⟨4,yy,GY⟩,⟨7,AJ5,Gj⟩]
def ASV:SQ:=mk Tryz.func278 AGE vW Mc [] [] [⟨2,⟨[(1,BB),(2,Ko),(6,BB)],[ADi]⟩,Mp⟩]
abbrev jf:Bc:=nz
abbrev zh:Bc:=ET
def ABd:SQ:=mk Tryz.func177 jf zh De [] [] []
def AQ1:SQ:=mk Tryz.func279 AGE Bu Ht [ABd] [] []
def AWP:SQ:=mk Tryz.func183 TB Bu TJ [s17,ASV,AQ1] [(10,[0,1]),(11,[0,1])] [⟨4,yy,Ge⟩,⟨7,⟨[(1,Ko),(3,BB),(4,BB),(14,.c (.ptr 0 10)),(15,xP4),(16,xP4)],pK⟩,Ga⟩]
def AUU:SQ:=mk Tryz.func184 TB Bu Qt [s17] [] [⟨4,yy,Dy⟩,⟨7,⟨[(1,Ko),(3,BB),(4,BB),(11,.c (.ptr 0 10)),(12,xP4),(13,xP4)],pK⟩,Fp⟩]
def AV3:SQ:=mk Tryz.func280 ⟨[(0,.row Y11),(1,.row Y9),(2,.row Y9)],[]⟩ Bu QG [t_,ASV,AQ1] [] [⟨2,⟨[(3,Ko),(4,cV),(5,AB3),(7,BB)],[ADV,ADi,ADi]⟩,JQ⟩]
def AVE:SQ:=mk Tryz.func185 TB Bu Sr [s17,AV3] [(3,[0])] []
def AUj:SQ:=mk Tryz.func100 TB Bu VJ [AT8,AVJ,AWP,AUU,AVE] [] []
def ALM:SQ:=mk Tryz.func133 ET ZD Oo [] [] [⟨4,⟨[(0,BB),(3,az)],[]⟩,NA⟩]
def AK3:SQ:=mk Tryz.func134 ET ZD FX [t_,o_,ALM,AFE] [] []
def ATs:SQ:=mk Tryz.func101 ACh ZD GU [ALM,AK3] [(5,[0])] []
def s43:SQ:=mk Tryz.func43 AG9 ZD fN [AUj,ATs] [(8,[0])] [] (he:=fun ω v=>by rcases ω with _|⟨_|_,_⟩<;>kernel_rfl)
def AQ0:SQ:=mk Tryz.func102 ET ZD R_ [] [] []
def APv:SQ:=mk Tryz.func103 u_ dq S8 [] [] []
def ARD:SQ:=mk Tryz.func104 ASw ⟨[(0,.MA [.inl (.v tI),.inl (.v tI)])],[]⟩ VZ [] [] [⟨3,⟨[(0,az),(1,BB),(6,BB),(7,BB)],[]⟩,LY⟩]
def AU2:SQ:=mk Tryz.func105 ⟨[(0,BB),(1,bt)],[]⟩ AJ3 dL [] [] []
def AVo:SQ:=mk Tryz.func106 nz ET YV [] [] []
def AVh:SQ:=mk Tryz.func187 u_ AJ3 ah [] [] []
def APj:SQ:=mk Tryz.func108 u_ Bu WG [Xh,AVh] [(1,[0])] []
def s63:SQ:=mk Tryz.func63 u_ vW Kx [AQ0,APv,APj,Xh,t_,ALM,AK3] [] [⟨4,⟨[(1,Ko),(4,BB)],AL5⟩,Ex⟩,⟨11,⟨[(1,Ko),(5,az),(6,xP9),(7,BB)],[tE,Ih]⟩,EN⟩]
def ASb:SQ:=mk Tryz.func186 nz lk OH [Xh] [] []
def AVy:SQ:=mk Tryz.func107 ZD lk TF [ARD,AK3,ASb] [] []
def s44:SQ:=mk Tryz.func44 ZD AJO SN [s63,AQ0,APv,ARD,AU2,AVo,AVy] [] [⟨3,⟨[(0,az),(2,Ko),(4,cV),(5,BB)],[tE,tE]⟩,Ds⟩,⟨11,⟨[(0,az),(2,Ko),(4,cV),(5,BB),(7,BB),(8,BB),(9,.c (.ref 2)),(10,BB)],[tE,tE,Ih]⟩,D5⟩]
def ARx:SQ:=mk Tryz.func281 ET dq On [Xh] [] [⟨3,⟨[(0,BB),(3,qR),(4,BB)],uB⟩,H9⟩]
abbrev AAf:Bc:=AJj
abbrev ANq:Bc:=AJs
def AQk:Qv:=⟨AAf,ANq,(AAf.un Po)⟩
def AV5:cQ:=⟨T,Ry (SP.l [s95,ub,AD1]),CV [(6,[0,1,2])]⟩
def AOl:List (Lp ANq):=[]
theorem AVC(zd:AA6->Option FZ)(ASn:AAb->List Int->Option lL)(AQv:AAb->AA6->Option SM)(n:Nat)(ω:List Bool)(v:AAf.V):DB ⟨T,Ry [(95,⟨i95,o95,i95.un zd⟩),(111,⟨ANV,ARp,ANV.un ASn⟩),(115,⟨AMC,ASE,AMC.un AQv⟩)],CV [(6,[0,1,2])]⟩ AQk Tryz.f266 (M3 0 AOl n) ω v=AAf.un (fun(p0:AAb) (p1:AA6) (p2:AAN)=>
 (AQv (p0.1,p0.2.1,()) (p1.1,p1.2.1,())).bind fun u1=>
 cond (!u1.1.1)
  (some (((((),0,()),0,false,()),()),([],())))
 ((zd (p1.1,p1.2.1,())).bind fun u2=>
 (ASn (p0.1,p0.2.1,()) p2).bind fun u3=>
 cond (!u3.1.1)
  (some (((((),u2.1.1.2.1,()),0,false,()),()),(u2.2.1,())))
 (cond (((p1.1.length:Int)==30))
  (some (((((),u2.1.1.2.1,()),0,false,()),()),(u2.2.1,())))
 (if 0+p2.length<=Go.M.Cm then(
 if u2.2.1.length+1<=Go.M.Cm then(
 let x5:AAU:=u2.2.1++[(p2,false,0,())]
 some (((((),u2.1.1.2.1,()),(x5.length:Int),true,()),()),(x5,())))else none)else none)))) v:=by rcases ω with _|⟨_|_,_|⟨_|_,_|⟨_|_,_|⟨_|_,_|⟨_|_,_⟩⟩⟩⟩⟩<;>kernel_rfl
theorem AWh(n:Nat)(ω:List Bool)(v:AAf.V):DB AV5 AQk Tryz.f266 (M3 0 AOl n) ω v=AAf.un (Po) v:=AVC F_ HI Mh n ω v
def ATy:SQ:=mk Tryz.func266 AAf ANq Po [s95,ub,AD1] [(6,[0,1,2])] AOl (hJ:= .nil) (he:=AWh AX)
def AW7:SQ:=mk Tryz.func188 eQ ⟨[(0,.MA [.inr [.ref 0,.v tI,.ref 1,.ref 2,.ref 8,.v tI,.ref 9,.ref 10,.ref 6,.ref 7,.v .bool],.inl (.v tI)])],[DV,XT,DV,P4,P4,P4,P7,Lq,MO,UW,Tj]⟩ XK [ATy,ARx] [(3,[0,1,2,3,4,5,6,7,8,9,10])] [] (he:=fun ω v=>by rcases ω with _|⟨_|_,_|⟨_|_,_⟩⟩<;>kernel_rfl)
def ANO:SQ:=mk Tryz.func282 yO Bu L1 [Xh] [] []
abbrev ABj:Bc:=AJP
abbrev AM3:Bc:=AKT
def ARJ:Qv:=⟨ABj,AM3,(ABj.un Ln)⟩
def AW_:cQ:=⟨T,Ry (SP.l [s97,AFH]),CV []⟩
def ALD:List (Lp AM3):=[]
theorem AUw(zq:ABL->Option FR)(AKy:AAb->ABL->Option Mv)(n:Nat)(ω:List Bool)(v:ABj.V):DB ⟨T,Ry [(97,⟨i97,o97,i97.un zq⟩),(116,⟨ANf,AQV,ANf.un AKy⟩)],CV []⟩ ARJ Tryz.f268 (M3 0 ALD n) ω v=ABj.un (fun(p0:AAb) (p1:ABL) (p2:AAZ)=>
 (AKy (p0.1,p0.2.1,()) (p1.1,p1.2.1,())).bind fun u1=>
 cond (!u1.1.1)
  (some ((((0,(),()),0,false,()),()),([],())))
 ((zq (p1.1,p1.2.1,())).bind fun u2=>
 if u2.2.1.length+1<=Go.M.Cm then(
 let x3:ABI:=u2.2.1++[(p2,[],false,())]
 (AKy (p0.1,p0.2.1,()) (u2.1.1.1,x3,())).bind fun u4=>
 cond (!u4.1.1)
  ((zq (p1.1,p1.2.1,())).bind fun u5=>
  some ((((u5.1.1.1,(),()),0,false,()),()),(u5.2.1,())))
 (some ((((u2.1.1.1,(),()),(x3.length:Int),true,()),()),(x3,()))))else none)) v:=by rcases ω with _|⟨_|_,_|⟨_|_,_⟩⟩<;>kernel_rfl
theorem AXJ(n:Nat)(ω:List Bool)(v:ABj.V):DB AW_ ARJ Tryz.f268 (M3 0 ALD n) ω v=ABj.un (Ln) v:=AUw FG HR n ω v
def AWL:SQ:=mk Tryz.func268 ABj AM3 Ln [s97,AFH] [] ALD (hJ:= .nil) (he:=AXJ AX)
def AUW:SQ:=mk Tryz.func189 eQ ⟨[(0,.MA [.inr [.ref 0,.v tI,.ref 1,.ref 2,.ref 3,.v tI,.ref 4,.ref 5,.ref 6,.ref 8,.v .bool],.inl (.v tI)])],[DV,XT,DV,MO,UW,Tj,P7,P4,Lq]⟩ Zt [ABd,AWL,ANO] [(3,[0,1,2,3,4,5,6,7,8,9,10]),(7,[0,1,2,3,4,5,6,7,8,9,10]),(11,[0,1,2,3,4,5,6,7,8,9,10,11,12,13,14,15,16,17,18]),(18,[0,1,2,3,4,5,6,7,8,9,10,11,12,13,14,15,16,17,18,19])] [⟨9,⟨[(2,i7),(4,h_),(9,pr),(10,BB)],[DV,XT,DV,MO,UW,Tj,P7,Lq,uH,xi,Ih,jY,Ih,ZQ,iv,jV,i_,gl,ASU]⟩,LS⟩,⟨16,⟨[(2,i7),(4,h_),(9,pr),(11,.c (.ref 19)),(12,xP4),(13,BB)],[DV,XT,DV,MO,UW,Tj,P7,Lq,uH,xi,Ih,jY,Ih,ZQ,iv,jV,i_,gl,ASU,gl]⟩,KH⟩] (he:=fun ω v=>by rcases ω with _|⟨_|_,_|⟨_|_,_|⟨_|_,_⟩⟩⟩<;>kernel_rfl)
def ABA:SQ:=mk Tryz.func283 yO ET HT [pf,Xh] [] []
abbrev ie:Bc:=AKZ
abbrev zH:Bc:=dq
def ADE:SQ:=mk Tryz.func217 ie zH DT [Xh] [] []
def AVf:SQ:=mk Tryz.func333 AFp Bu XM [o_] [(2,[0,1])] []
def ASN:SQ:=mk Tryz.func262 AFp uq QQ [s96,ABq,AIB,AVf] [] []
def AUn:SQ:=mk Tryz.func190 eQ vG VK [pf,Xh,ABd,ADE,ASN,ANO,ABA] [(9,[0,1,2,3,4,5,6,7,8,9,10,11]),(11,[0,1,2,3,4,5,6,7,8,9,10,11,12])] [] (he:=fun ω v=>by rcases ω with _|⟨_|_,_|⟨_|_,_⟩⟩<;>kernel_rfl)
def AQg:SQ:=mk Tryz.func370 AKV AJe Rn [] [] []
def AMQ:SQ:=mk Tryz.func334 ⟨[(0,ZP),(1,.row Y1)],[]⟩ AAG Rk [AQg] [(6,[0,1]),(7,[0]),(9,[0,1])] [⟨4,⟨[(0,ZP),(3,Ko),(5,xP9),(6,xP4),(7,BB)],[ADL,Mr]⟩,Ja⟩]
def AQJ:SQ:=mk Tryz.func294 jz uq Mo [s96,ABq,Xh,AMQ] [(3,[0,1]),(8,[0,1,2,3,5,6])] [⟨5,AJl,Jf⟩] (he:=fun ω v=>by rcases ω with _|⟨_|_,_|⟨_|_,_⟩⟩<;>kernel_rfl)
def ARf:SQ:=mk Tryz.func264 oe uq Ox [AQJ] [] []
abbrev iU:Bc:=AFJ
abbrev AAS:Bc:=AAO
def AIy:SQ:=mk Tryz.func338 iU AAS HF [] [] [⟨2,⟨[(0,ZP),(1,BB),(4,Ko),(6,BB)],[ADL]⟩,QM⟩]
def AIu:SQ:=mk Tryz.func173 kt dq RP [pf] [] [⟨4,⟨[(0,bt),(1,BB),(5,qR),(6,xP4),(7,BB)],uB⟩,Ky⟩]
abbrev iu:Bc:=AJS
abbrev zg:Bc:=AJt
def AR6:SQ:=mk Tryz.func269 iu zg FU [s97,ub,AFH,Xh,AIu] [(6,[0,1,2,4]),(7,[0,1,2,4])] []
abbrev jR:Bc:=AJU
abbrev ym:Bc:=AAO
def AMB:SQ:=mk Tryz.func289 jR ym El [ASb,AIy] [] []
abbrev jc:Bc:=AKP
abbrev zL:Bc:=xz
def ARY:SQ:=mk Tryz.func275 jc zL HS [s98,AEF,Xh,AIu] [(6,[0,1,2,3,4,6])] []
abbrev ABB:Bc:=⟨[(0,xP7),(1,BB)],[DV,ZO,DV,MO,UW,Tj,P7,Lq]⟩
abbrev AKp:Bc:=⟨AOQ,AE0⟩
def mC:Qv:=⟨ABB,AKp,(ABB.un Xl)⟩
def AEG:cQ:=⟨T,Ry (SP.l [pf,o_,ABd,AFE,ADE,AR6,ARY,AMB,AIy]),CV [(10,[0,1,2,3,4,5,6,7,8,9,10,11]),(18,[0,1,2,3,4,5,6,7,8,9,10,11,12,13,14,15,16,17,18,19])]⟩
def kz:List (Lp AKp):=[⟨3,⟨[(1,BB),(2,i7),(4,h_),(5,pr),(6,BB)],[DV,ZO,DV,MO,ni,Tj,P7,Lq,uH,xi,Ih,jY,Ih,ZQ,iv,jV,i_,gl,AAx]⟩,Bf⟩,⟨8,⟨[(1,BB),(2,i7),(4,h_),(5,pr),(6,BB),(7,uf),(8,BB),(46,.c (.ptr 18 2)),(47,BB),(48,uf),(49,BB),(50,xP4)],ACF⟩,BE⟩,⟨15,⟨[(1,BB),(2,i7),(4,h_),(5,pr),(6,BB),(7,uf),(11,BB),(46,.c (.ptr 18 2)),(47,BB),(48,uf),(49,BB),(50,xP4)],ACF⟩,BF⟩,⟨21,⟨[(1,BB),(2,i7),(4,h_),(5,pr),(13,BB)],[DV,ZO,DV,MO,ni,.sl 1 Y7,P7,Lq,uH,xi,Ih,jY,Ih,ZQ,iv,jV,i_,gl,AAx]⟩,Bg⟩,⟨25,⟨[(1,BB),(2,i7),(4,h_),(5,pr),(13,BB),(14,uf),(15,BB)],[DV,ZO,DV,MO,ni,.sl 1 Y7,P7,Lq,uH,xi,Ih,jY,Ih,ZQ,iv,jV,i_,gl,AAx,.mem [.v tI,.v tI,.sl true tI,.sl true Y1,.v .bool,.sl true (.sl tI)]]⟩,Bd⟩]
abbrev mU:Bc:=⟨[(1,BB),(2,i7),(4,h_),(5,pr),(6,BB)],[DV,ZO,DV,MO,ni,Tj,P7,Lq,uH,xi,Ih,jY,Ih,ZQ,iv,jV,i_,gl,AAx]⟩
abbrev dJ:Bc:=⟨[(1,BB),(2,i7),(4,h_),(5,pr),(6,BB),(7,uf),(8,BB),(46,.c (.ptr 18 2)),(47,BB),(48,uf),(49,BB),(50,xP4)],ACF⟩
abbrev gZ:Bc:=⟨[(1,BB),(2,i7),(4,h_),(5,pr),(6,BB),(7,uf),(11,BB),(46,.c (.ptr 18 2)),(47,BB),(48,uf),(49,BB),(50,xP4)],ACF⟩
abbrev gM:Bc:=⟨[(1,BB),(2,i7),(4,h_),(5,pr),(13,BB)],[DV,ZO,DV,MO,ni,.sl 1 Y7,P7,Lq,uH,xi,Ih,jY,Ih,ZQ,iv,jV,i_,gl,AAx]⟩
abbrev gY:Bc:=⟨[(1,BB),(2,i7),(4,h_),(5,pr),(13,BB),(14,uf),(15,BB)],[DV,ZO,DV,MO,ni,.sl 1 Y7,P7,Lq,uH,xi,Ih,jY,Ih,ZQ,iv,jV,i_,gl,AAx,.mem [.v tI,.v tI,.sl true tI,.sl true Y1,.v .bool,.sl true (.sl tI)]]⟩
theorem ALv(hO:List Int->Int->Option Gf)(jq:Int->Option Ho)(gj:Int->Int->Option Ha)(gz:Int->Option KQ)(gy:AA6->Int->Option Gx)(gx:AAb->ABL->Int->Int->Option Fu)(iw:AAb->AAu->Int->Int->Option Hf)(iy:AAu->Int->Option F4)(gA:AAa->Int->Option GQ)(n:Nat)(v:mU.V)(ω:List Bool):Ke ⟨T,Ry [(113,⟨jF,zA,jF.un hO⟩),(121,⟨iz,yY,iz.un jq⟩),(177,⟨jf,zh,jf.un gj⟩),(216,⟨ix,zo,ix.un gz⟩),(217,⟨ie,zH,ie.un gy⟩),(269,⟨iu,zg,iu.un gx⟩),(275,⟨jc,zL,jc.un iw⟩),(289,⟨jR,ym,jR.un iy⟩),(338,⟨iU,AAS,iU.un gA⟩)],CV [(10,[0,1,2,3,4,5,6,7,8,9,10,11]),(18,[0,1,2,3,4,5,6,7,8,9,10,11,12,13,14,15,16,17,18,19])]⟩ mC Tryz.f284 (M3 8 kz n) 3 ω (mU.st 207 v)=mU.un (fun(t1:Int) (t6:Int) (b0:AAN) (b1:AAT) (b2:AAN) (b3:AAU) (b4:AAX) (b5:AAY) (b6:AAV) (b7:AAW) (Da:Int) (Dq:Int) (CJ:Bool) (EE:Int) (F7:Int) (DA:Bool) (N3:AAN) (G6:AAT) (EK:AAN) (Hy:AAU) (Hw:AAX) (Eu:AAY) (Fb:AAV) (GK:AAW) (Cc:AAa) (C3:AAa) (Ch:Int)=>
 cond ((decide (t6<(b4.length:Int))))
  (if(0:Int)<=t6/\t6<(b4.length:Int)then(
  (gy (b3,Dq,()) ((b4.getD (t6.toNat) (0,[],())).1)).bind fun u3=>
  (hO u3.2.1 t1).bind fun u4=>
  cond (!u4.1.1)
   ((Bf n) t1 (AW (t6+1)) b0 b1 b2 b3 b4 b5 b6 b7 Da Dq CJ EE F7 DA N3 G6 EK Hy Hw Eu Fb GK Cc C3 Ch)
  (let x5:Int:=(b4.getD (t6.toNat) (0,[],())).1
  cond (decide (Ch>=x5))
   ((Bf n) t1 (AW (t6+1)) b0 b1 b2 b3 b4 b5 b6 b7 Da Dq CJ EE F7 DA N3 G6 EK Hy Hw Eu Fb GK Cc C3 Ch)
  ((BE n) t1 t6 1 Ch x5 (decide (Ch>=x5)) b0 b1 b2 b3 b4 b5 b6 b7 Da Dq CJ EE F7 DA N3 G6 EK Hy Hw Eu Fb GK Cc C3 Ch ((b4.getD (t6.toNat) (0,[],())).1) ((b4.getD (t6.toNat) (0,[],())).2.1))))else none)
 ((Bg n) t1 0 b0 b1 b2 b3 b4 b5 b6 b7 Da Dq CJ EE F7 DA N3 G6 EK Hy Hw Eu Fb GK Cc C3 Ch)) v:=by kernel_rfl
theorem AK0(n:Nat)(v:mU.V)(ω:List Bool):Ke AEG mC Tryz.f284 (M3 8 kz n) 3 ω (mU.st 207 v)=mU.un (MY (Bf n) (BE n) (BF n) (Bg n) (Bd n)) v:=ALv DG Cl De Gh DT FU HS El HF n v ω
def VH(ω:List Bool):Prop:= ∀(hO:List Int->Int->Option Gf) (jq:Int->Option Ho) (gj:Int->Int->Option Ha) (gz:Int->Option KQ) (gy:AA6->Int->Option Gx) (gx:AAb->ABL->Int->Int->Option Fu) (iw:AAb->AAu->Int->Int->Option Hf) (iy:AAu->Int->Option F4) (gA:AAa->Int->Option GQ) (n:Nat) (v:dJ.V),Ke ⟨T,Ry [(113,⟨jF,zA,jF.un hO⟩),(121,⟨iz,yY,iz.un jq⟩),(177,⟨jf,zh,jf.un gj⟩),(216,⟨ix,zo,ix.un gz⟩),(217,⟨ie,zH,ie.un gy⟩),(269,⟨iu,zg,iu.un gx⟩),(275,⟨jc,zL,jc.un iw⟩),(289,⟨jR,ym,jR.un iy⟩),(338,⟨iU,AAS,iU.un gA⟩)],CV [(10,[0,1,2,3,4,5,6,7,8,9,10,11]),(18,[0,1,2,3,4,5,6,7,8,9,10,11,12,13,14,15,16,17,18,19])]⟩ mC Tryz.f284 (M3 8 kz n) 8 ω (dJ.st 207 v)=dJ.un (fun(t1:Int) (t6:Int) (t8:Int) (t47:Int) (t49:Int) (t50:Bool) (b0:AAN) (b1:AAT) (b2:AAN) (b3:AAU) (b4:AAX) (b5:AAY) (b6:AAV) (b7:AAW) (Da:Int) (Dq:Int) (CJ:Bool) (EE:Int) (F7:Int) (DA:Bool) (N3:AAN) (G6:AAT) (EK:AAN) (Hy:AAU) (Hw:AAX) (Eu:AAY) (Fb:AAV) (GK:AAW) (Cc:AAa) (C3:AAa) (Ch:Int) (EO:Int) (DE:ABI)=>
 cond ((decide (t8<=(DE.length:Int))))
  ((gj EO t8).bind fun u7=>
  (gA Cc u7.1.1).bind fun u8=>
  cond (!u8.1.1.2.1)
   ((BE n) t1 t6 (AW (t8+1)) t47 t49 t50 b0 b1 b2 b3 b4 b5 b6 b7 Da Dq CJ EE F7 DA N3 G6 EK Hy Hw Eu Fb GK Cc C3 Ch EO DE)
  (cond (u8.1.1.1.2.1 !=0)
   ((BE n) t1 t6 (AW (t8+1)) t47 t49 t50 b0 b1 b2 b3 b4 b5 b6 b7 Da Dq CJ EE F7 DA N3 G6 EK Hy Hw Eu Fb GK Cc C3 Ch EO DE)
  (if(0:Int)<=AW (t8-1)/\AW (t8-1)<(DE.length:Int)then(
  cond (((DE.getD ((AW (t8-1)).toNat) ([],[],false,())).2.2.1))
   ((BE n) t1 t6 (AW (t8+1)) t47 t49 t50 b0 b1 b2 b3 b4 b5 b6 b7 Da Dq CJ EE F7 DA N3 G6 EK Hy Hw Eu Fb GK Cc C3 Ch EO DE)
  ((gx (b0,Da,()) (EO,DE,()) t8 t1).bind fun FE=>
  (BE n) t1 t6 (AW (t8+1)) t47 t49 t50 b0 b1 b2 b3 b4 b5 b6 b7 Da Dq CJ EE F7 DA N3 G6 EK Hy Hw Eu Fb GK Cc C3 Ch FE.1.1.1.1 FE.2.1))else none)))
 (if(0:Int)<=t6/\t6<(b4.length:Int)then(
 (BF n) t1 t6 0 t47 t49 t50 b0 b1 b2 b3 (b4.set (t6.toNat) (EO,DE,())) b5 b6 b7 Da Dq CJ EE F7 DA N3 G6 EK Hy Hw Eu Fb GK Cc C3 Ch EO DE)else none)) v
theorem AGj:VH []:=by delta VH;intros;kernel_rfl
theorem AFG:VH (false::[]):=by delta VH;intros;kernel_rfl
theorem AFd:∀ω:List Bool,VH (false::false::ω):=by refine AE ?_ (AE ?_ ?_ ?_) ?_<;>(delta VH;intros;kernel_rfl)
theorem AE7:∀ω:List Bool,VH (false::true::ω):=by refine AE ?_ (AE ?_ (AE ?_ ?_ ?_) (AE ?_ ?_ (AE ?_ ?_ ?_))) (AE ?_ ?_ (AE ?_ ?_ ?_))<;>(delta VH;intros;kernel_rfl)
theorem AGu:∀ω:List Bool,VH (true::ω):=by refine AE ?_ ?_ (AE ?_ ?_ (AE ?_ ?_ ?_))<;>(delta VH;intros;kernel_rfl)
theorem ALd(hO:List Int->Int->Option Gf)(jq:Int->Option Ho)(gj:Int->Int->Option Ha)(gz:Int->Option KQ)(gy:AA6->Int->Option Gx)(gx:AAb->ABL->Int->Int->Option Fu)(iw:AAb->AAu->Int->Int->Option Hf)(iy:AAu->Int->Option F4)(gA:AAa->Int->Option GQ)(n:Nat)(v:dJ.V)(ω:List Bool):Ke ⟨T,Ry [(113,⟨jF,zA,jF.un hO⟩),(121,⟨iz,yY,iz.un jq⟩),(177,⟨jf,zh,jf.un gj⟩),(216,⟨ix,zo,ix.un gz⟩),(217,⟨ie,zH,ie.un gy⟩),(269,⟨iu,zg,iu.un gx⟩),(275,⟨jc,zL,jc.un iw⟩),(289,⟨jR,ym,jR.un iy⟩),(338,⟨iU,AAS,iU.un gA⟩)],CV [(10,[0,1,2,3,4,5,6,7,8,9,10,11]),(18,[0,1,2,3,4,5,6,7,8,9,10,11,12,13,14,15,16,17,18,19])]⟩ mC Tryz.f284 (M3 8 kz n) 8 ω (dJ.st 207 v)=dJ.un (fun(t1:Int) (t6:Int) (t8:Int) (t47:Int) (t49:Int) (t50:Bool) (b0:AAN) (b1:AAT) (b2:AAN) (b3:AAU) (b4:AAX) (b5:AAY) (b6:AAV) (b7:AAW) (Da:Int) (Dq:Int) (CJ:Bool) (EE:Int) (F7:Int) (DA:Bool) (N3:AAN) (G6:AAT) (EK:AAN) (Hy:AAU) (Hw:AAX) (Eu:AAY) (Fb:AAV) (GK:AAW) (Cc:AAa) (C3:AAa) (Ch:Int) (EO:Int) (DE:ABI)=>
 cond ((decide (t8<=(DE.length:Int))))
  ((gj EO t8).bind fun u7=>
  (gA Cc u7.1.1).bind fun u8=>
  cond (!u8.1.1.2.1)
   ((BE n) t1 t6 (AW (t8+1)) t47 t49 t50 b0 b1 b2 b3 b4 b5 b6 b7 Da Dq CJ EE F7 DA N3 G6 EK Hy Hw Eu Fb GK Cc C3 Ch EO DE)
  (cond (u8.1.1.1.2.1 !=0)
   ((BE n) t1 t6 (AW (t8+1)) t47 t49 t50 b0 b1 b2 b3 b4 b5 b6 b7 Da Dq CJ EE F7 DA N3 G6 EK Hy Hw Eu Fb GK Cc C3 Ch EO DE)
  (if(0:Int)<=AW (t8-1)/\AW (t8-1)<(DE.length:Int)then(
  cond (((DE.getD ((AW (t8-1)).toNat) ([],[],false,())).2.2.1))
   ((BE n) t1 t6 (AW (t8+1)) t47 t49 t50 b0 b1 b2 b3 b4 b5 b6 b7 Da Dq CJ EE F7 DA N3 G6 EK Hy Hw Eu Fb GK Cc C3 Ch EO DE)
  ((gx (b0,Da,()) (EO,DE,()) t8 t1).bind fun FE=>
  (BE n) t1 t6 (AW (t8+1)) t47 t49 t50 b0 b1 b2 b3 b4 b5 b6 b7 Da Dq CJ EE F7 DA N3 G6 EK Hy Hw Eu Fb GK Cc C3 Ch FE.1.1.1.1 FE.2.1))else none)))
 (if(0:Int)<=t6/\t6<(b4.length:Int)then(
 (BF n) t1 t6 0 t47 t49 t50 b0 b1 b2 b3 (b4.set (t6.toNat) (EO,DE,())) b5 b6 b7 Da Dq CJ EE F7 DA N3 G6 EK Hy Hw Eu Fb GK Cc C3 Ch EO DE)else none)) v:=(AE AGj (AE AFG AFd AE7) AGu) ω hO jq gj gz gy gx iw iy gA n v
theorem AN_(n:Nat)(v:dJ.V)(ω:List Bool):Ke AEG mC Tryz.f284 (M3 8 kz n) 8 ω (dJ.st 207 v)=dJ.un (Me (Bf n) (BE n) (BF n) (Bg n) (Bd n)) v:=ALd DG Cl De Gh DT FU HS El HF n v ω
theorem AIr(hO:List Int->Int->Option Gf)(jq:Int->Option Ho)(gj:Int->Int->Option Ha)(gz:Int->Option KQ)(gy:AA6->Int->Option Gx)(gx:AAb->ABL->Int->Int->Option Fu)(iw:AAb->AAu->Int->Int->Option Hf)(iy:AAu->Int->Option F4)(gA:AAa->Int->Option GQ)(n:Nat)(v:gZ.V)(ω:List Bool):Ke ⟨T,Ry [(113,⟨jF,zA,jF.un hO⟩),(121,⟨iz,yY,iz.un jq⟩),(177,⟨jf,zh,jf.un gj⟩),(216,⟨ix,zo,ix.un gz⟩),(217,⟨ie,zH,ie.un gy⟩),(269,⟨iu,zg,iu.un gx⟩),(275,⟨jc,zL,jc.un iw⟩),(289,⟨jR,ym,jR.un iy⟩),(338,⟨iU,AAS,iU.un gA⟩)],CV [(10,[0,1,2,3,4,5,6,7,8,9,10,11]),(18,[0,1,2,3,4,5,6,7,8,9,10,11,12,13,14,15,16,17,18,19])]⟩ mC Tryz.f284 (M3 8 kz n) 15 ω (gZ.st 207 v)=gZ.un (fun(t1:Int) (t6:Int) (t11:Int) (t47:Int) (t49:Int) (t50:Bool) (b0:AAN) (b1:AAT) (b2:AAN) (b3:AAU) (b4:AAX) (b5:AAY) (b6:AAV) (b7:AAW) (Da:Int) (Dq:Int) (CJ:Bool) (EE:Int) (F7:Int) (DA:Bool) (N3:AAN) (G6:AAT) (EK:AAN) (Hy:AAU) (Hw:AAX) (Eu:AAY) (Fb:AAV) (GK:AAW) (Cc:AAa) (C3:AAa) (Ch:Int) (EO:Int) (DE:ABI)=>
 cond ((decide (t11<(b7.length:Int))))
  (if(0:Int)<=t11/\t11<(b7.length:Int)then(
  let x65:Int:=(b7.getD (t11.toNat) (0,[],false,())).1
  (jq x65).bind fun u66=>
  cond (u66.1.1==EO)
   ((gz x65).bind fun u67=>
   cond ((decide (u67.1.1<=(DE.length:Int))))
    ((gz x65).bind fun u69=>
    if(0:Int)<=AW (u69.1.1-1)/\AW (u69.1.1-1)<(DE.length:Int)then(
    cond (((DE.getD ((AW (u69.1.1-1)).toNat) ([],[],false,())).2.2.1))
     (if(0:Int)<=t11/\t11<(b7.length:Int)then(
     (BF n) t1 t6 (AW (t11+1)) t47 t49 t50 b0 b1 b2 b3 b4 b5 b6 (b7.set (t11.toNat) ((b7.getD (t11.toNat) (0,[],false,())).1,(b7.getD (t11.toNat) (0,[],false,())).2.1,true,())) Da Dq CJ EE F7 DA N3 G6 EK Hy Hw Eu Fb GK Cc C3 Ch EO DE)else none)
    ((BF n) t1 t6 (AW (t11+1)) t47 t49 t50 b0 b1 b2 b3 b4 b5 b6 b7 Da Dq CJ EE F7 DA N3 G6 EK Hy Hw Eu Fb GK Cc C3 Ch EO DE))else none)
   ((BF n) t1 t6 (AW (t11+1)) t47 t49 t50 b0 b1 b2 b3 b4 b5 b6 b7 Da Dq CJ EE F7 DA N3 G6 EK Hy Hw Eu Fb GK Cc C3 Ch EO DE))
  ((BF n) t1 t6 (AW (t11+1)) t47 t49 t50 b0 b1 b2 b3 b4 b5 b6 b7 Da Dq CJ EE F7 DA N3 G6 EK Hy Hw Eu Fb GK Cc C3 Ch EO DE))else none)
 ((Bf n) t1 (AW (t6+1)) b0 b1 b2 b3 b4 b5 b6 b7 Da Dq CJ EE F7 DA N3 G6 EK Hy Hw Eu Fb GK Cc C3 Ch)) v:=by kernel_rfl
theorem AH0(n:Nat)(v:gZ.V)(ω:List Bool):Ke AEG mC Tryz.f284 (M3 8 kz n) 15 ω (gZ.st 207 v)=gZ.un (K7 (Bf n) (BE n) (BF n) (Bg n) (Bd n)) v:=AIr DG Cl De Gh DT FU HS El HF n v ω
theorem AI5(hO:List Int->Int->Option Gf)(jq:Int->Option Ho)(gj:Int->Int->Option Ha)(gz:Int->Option KQ)(gy:AA6->Int->Option Gx)(gx:AAb->ABL->Int->Int->Option Fu)(iw:AAb->AAu->Int->Int->Option Hf)(iy:AAu->Int->Option F4)(gA:AAa->Int->Option GQ)(n:Nat)(v:gM.V)(ω:List Bool):Ke ⟨T,Ry [(113,⟨jF,zA,jF.un hO⟩),(121,⟨iz,yY,iz.un jq⟩),(177,⟨jf,zh,jf.un gj⟩),(216,⟨ix,zo,ix.un gz⟩),(217,⟨ie,zH,ie.un gy⟩),(269,⟨iu,zg,iu.un gx⟩),(275,⟨jc,zL,jc.un iw⟩),(289,⟨jR,ym,jR.un iy⟩),(338,⟨iU,AAS,iU.un gA⟩)],CV [(10,[0,1,2,3,4,5,6,7,8,9,10,11]),(18,[0,1,2,3,4,5,6,7,8,9,10,11,12,13,14,15,16,17,18,19])]⟩ mC Tryz.f284 (M3 8 kz n) 21 ω (gM.st 207 v)=gM.un (fun(t1:Int) (t13:Int) (b0:AAN) (b1:AAT) (b2:AAN) (b3:AAU) (b4:AAX) (b5:AAY) (b6:AAV) (b7:AAW) (Da:Int) (Dq:Int) (CJ:Bool) (EE:Int) (F7:Int) (DA:Bool) (N3:AAN) (G6:AAT) (EK:AAN) (Hy:AAU) (Hw:AAX) (Eu:AAY) (Fb:AAV) (GK:AAW) (Cc:AAa) (C3:AAa) (Ch:Int)=>
 cond ((decide (t13<(b5.length:Int))))
  (if(0:Int)<=t13/\t13<(b5.length:Int)then(
  (Bd n) t1 t13 1 b0 b1 b2 b3 b4 b5 b6 b7 Da Dq CJ EE F7 DA N3 G6 EK Hy Hw Eu Fb GK Cc C3 Ch ((b5.getD (t13.toNat) (0,0,[],[],false,[],())).1) ((b5.getD (t13.toNat) (0,0,[],[],false,[],())).2.1) ((b5.getD (t13.toNat) (0,0,[],[],false,[],())).2.2.1) ((b5.getD (t13.toNat) (0,0,[],[],false,[],())).2.2.2.1) ((b5.getD (t13.toNat) (0,0,[],[],false,[],())).2.2.2.2.1) ((b5.getD (t13.toNat) (0,0,[],[],false,[],())).2.2.2.2.2.1))else none)
 (some ((((),Da,(),(),(),Dq,(),(),(),(),CJ,()),()),(b0,b1,b2,b3,b4,b5,b6,b7,())))) v:=by kernel_rfl
theorem AH8(n:Nat)(v:gM.V)(ω:List Bool):Ke AEG mC Tryz.f284 (M3 8 kz n) 21 ω (gM.st 207 v)=gM.un (LG (Bf n) (BE n) (BF n) (Bg n) (Bd n)) v:=AI5 DG Cl De Gh DT FU HS El HF n v ω
theorem AII(hO:List Int->Int->Option Gf)(jq:Int->Option Ho)(gj:Int->Int->Option Ha)(gz:Int->Option KQ)(gy:AA6->Int->Option Gx)(gx:AAb->ABL->Int->Int->Option Fu)(iw:AAb->AAu->Int->Int->Option Hf)(iy:AAu->Int->Option F4)(gA:AAa->Int->Option GQ)(n:Nat)(v:gY.V)(ω:List Bool):Ke ⟨T,Ry [(113,⟨jF,zA,jF.un hO⟩),(121,⟨iz,yY,iz.un jq⟩),(177,⟨jf,zh,jf.un gj⟩),(216,⟨ix,zo,ix.un gz⟩),(217,⟨ie,zH,ie.un gy⟩),(269,⟨iu,zg,iu.un gx⟩),(275,⟨jc,zL,jc.un iw⟩),(289,⟨jR,ym,jR.un iy⟩),(338,⟨iU,AAS,iU.un gA⟩)],CV [(10,[0,1,2,3,4,5,6,7,8,9,10,11]),(18,[0,1,2,3,4,5,6,7,8,9,10,11,12,13,14,15,16,17,18,19])]⟩ mC Tryz.f284 (M3 8 kz n) 25 ω (gY.st 207 v)=gY.un (fun(t1:Int) (t13:Int) (t15:Int) (b0:AAN) (b1:AAT) (b2:AAN) (b3:AAU) (b4:AAX) (b5:AAY) (b6:AAV) (b7:AAW) (Da:Int) (Dq:Int) (CJ:Bool) (EE:Int) (F7:Int) (DA:Bool) (N3:AAN) (G6:AAT) (EK:AAN) (Hy:AAU) (Hw:AAX) (Eu:AAY) (Fb:AAV) (GK:AAW) (Cc:AAa) (C3:AAa) (Ch:Int) (EO:Int) (DE:Int) (bf:AAN) (bU:AAa) (cG:Bool) (cH:List AAN)=>
 if(0:Int)<=t13/\t13<(b5.length:Int)then(
 cond (decide (t15<=(((b5.getD (t13.toNat) (0,0,[],[],false,[],())).2.2.2.2.2.1).length:Int)))
  ((gy (b3,Dq,()) DE).bind fun u74=>
  (hO u74.2.1 t1).bind fun u75=>
  cond (u75.1.1)
   ((iy (EO,DE,bf,bU,cG,cH,()) t15).bind fun u76=>
   (gA Cc u76.1.1.1.1).bind fun u77=>
   cond (u77.1.1.2.1)
    (cond (((u77.1.1.1.1==u76.1.1.1.1)&&((u77.1.1.1.2.1==u76.1.1.1.2.1)&&((u77.1.1.1.2.2.1==u76.1.1.1.2.2.1)&&((u77.1.1.1.2.2.2.1==u76.1.1.1.2.2.2.1)&&true)))))
     ((iw (b0,Da,()) (EO,DE,bf,bU,cG,cH,()) t15 t1).bind fun u79=>
     (Bd n) t1 t13 (AW (t15+1)) b0 b1 b2 b3 b4 b5 b6 b7 Da Dq CJ EE F7 DA N3 G6 EK Hy Hw Eu Fb GK Cc C3 Ch u79.1.1.1.1 u79.1.1.1.2.1 u79.2.1 u79.2.2.1 u79.1.1.1.2.2.2.2.1 u79.2.2.2.1)
    ((Bd n) t1 t13 (AW (t15+1)) b0 b1 b2 b3 b4 b5 b6 b7 Da Dq CJ EE F7 DA N3 G6 EK Hy Hw Eu Fb GK Cc C3 Ch EO DE bf bU cG cH))
   ((Bd n) t1 t13 (AW (t15+1)) b0 b1 b2 b3 b4 b5 b6 b7 Da Dq CJ EE F7 DA N3 G6 EK Hy Hw Eu Fb GK Cc C3 Ch EO DE bf bU cG cH))
  (if(0:Int)<=t13/\t13<(b5.length:Int)then(
  (Bg n) t1 (AW (t13+1)) b0 b1 b2 b3 b4 (b5.set (t13.toNat) (EO,DE,bf,bU,cG,cH,())) b6 b7 Da Dq CJ EE F7 DA N3 G6 EK Hy Hw Eu Fb GK Cc C3 Ch)else none))
 (if(0:Int)<=t13/\t13<(b5.length:Int)then(
 (Bg n) t1 (AW (t13+1)) b0 b1 b2 b3 b4 (b5.set (t13.toNat) (EO,DE,bf,bU,cG,cH,())) b6 b7 Da Dq CJ EE F7 DA N3 G6 EK Hy Hw Eu Fb GK Cc C3 Ch)else none))else none) v:=by kernel_rfl
theorem AHx(n:Nat)(v:gY.V)(ω:List Bool):Ke AEG mC Tryz.f284 (M3 8 kz n) 25 ω (gY.st 207 v)=gY.un (IW (Bf n) (BE n) (BF n) (Bg n) (Bd n)) v:=AII DG Cl De Gh DT FU HS El HF n v ω
theorem AWn(hO:List Int->Int->Option Gf)(jq:Int->Option Ho)(gj:Int->Int->Option Ha)(gz:Int->Option KQ)(gy:AA6->Int->Option Gx)(gx:AAb->ABL->Int->Int->Option Fu)(iw:AAb->AAu->Int->Int->Option Hf)(iy:AAu->Int->Option F4)(gA:AAa->Int->Option GQ)(n:Nat)(ω:List Bool)(v:ABB.V):DB ⟨T,Ry [(113,⟨jF,zA,jF.un hO⟩),(121,⟨iz,yY,iz.un jq⟩),(177,⟨jf,zh,jf.un gj⟩),(216,⟨ix,zo,ix.un gz⟩),(217,⟨ie,zH,ie.un gy⟩),(269,⟨iu,zg,iu.un gx⟩),(275,⟨jc,zL,jc.un iw⟩),(289,⟨jR,ym,jR.un iy⟩),(338,⟨iU,AAS,iU.un gA⟩)],CV [(10,[0,1,2,3,4,5,6,7,8,9,10,11]),(18,[0,1,2,3,4,5,6,7,8,9,10,11,12,13,14,15,16,17,18,19])]⟩ mC Tryz.f284 (M3 8 kz n) ω v=ABB.un (fun(CI:Int) (CP:Int) (BU:Bool) (p1:Int) (b0:AAN) (b1:AAT) (b2:AAN) (b3:AAU) (b4:AAX) (b5:AAY) (b6:AAV) (b7:AAW)=>
 if(0:Int)<=p1/\p1<(b1.length:Int)then(
 (Bf n) p1 0 b0 b1 b2 b3 b4 b5 b6 b7 CI CP BU 0 0 false [] [] [] [] [] [] [] [] ((b1.getD (p1.toNat) ([],[],0,())).1) ((b1.getD (p1.toNat) ([],[],0,())).2.1) ((b1.getD (p1.toNat) ([],[],0,())).2.2.1))else none) v:=by kernel_rfl
theorem AU7(n:Nat)(ω:List Bool)(v:ABB.V):DB AEG mC Tryz.f284 (M3 8 kz n) ω v=ABB.un (RD (Bf n) (BE n) (BF n) (Bg n) (Bd n)) v:=AWn DG Cl De Gh DT FU HS El HF n ω v
def AUu:SQ:=mk Tryz.func284 ABB AKp Xl [pf,o_,ABd,AFE,ADE,AR6,ARY,AMB,AIy] [(10,[0,1,2,3,4,5,6,7,8,9,10,11]),(18,[0,1,2,3,4,5,6,7,8,9,10,11,12,13,14,15,16,17,18,19])] kz (hJ:= .cons (fun _=>rfl) AK0 (.cons (fun _=>rfl) AN_ (.cons (fun _=>rfl) AH0 (.cons (fun _=>rfl) AH8 (.cons (fun _=>rfl) AHx (.nil)))))) (he:=AU7 AX)
def AXh:SQ:=mk Tryz.func191 eQ AJZ Xm [ARf,ABA,AUu] [] []
def AEv:SQ:=mk Tryz.func288 ACj dq Iy [pf] [] [⟨3,⟨[(0,bt),(1,bt),(5,qR),(6,BB)],uB⟩,O8⟩]
def AWR:SQ:=mk Tryz.func285 AKJ AJt Ng [s97,AFH,AEv] [(8,[0,1,2])] [⟨5,⟨[(2,BB),(6,Ko),(8,AB3),(9,BB)],AKQ⟩,Hn⟩] (hJ:= .cons (fun _=>rfl) (fun n v ω=>by rcases ω with _|⟨_|_,_⟩<;>kernel_rfl) (.nil))
def AU_:SQ:=mk Tryz.func286 AJ_ xz Qg [s98,AEF,AEv] [(7,[0,1,2,3,4,5,6])] [⟨5,⟨[(2,BB),(6,Ko),(8,ABu),(9,BB)],AKG⟩,Jg⟩] (hJ:= .cons (fun _=>rfl) (fun n v ω=>by rcases ω with _|⟨_|_,_⟩<;>kernel_rfl) (.nil))
def ATq:SQ:=mk Tryz.func192 eQ ⟨ASk,[DV,XT,P4,MO,UW,Tj,P7,Lq,DV]⟩ Xd [ub,AIu,ABA,AWR,AU_] [(9,[0,1,2,3,5,6,7,8,9,10,11,12,13,14,15,16,17,18,19]),(13,[0,1,2,3,4,6,7,8,9,10,11,12,13,14,15,16,17,18,19])] [⟨7,⟨[(2,i7),(3,xP8),(4,.c (.ptr 11 0)),(7,BB)],AJ2⟩,J_⟩,⟨11,⟨[(2,i7),(3,xP8),(4,.c (.ptr 11 0)),(8,BB)],AJ2⟩,JL⟩]
def ALB:SQ:=mk Tryz.func174 nz ET UT [] [] []
def AUE:SQ:=mk Tryz.func339 oX Bu aH [ABO,ub] [] []
def AWQ:SQ:=mk Tryz.func340 ⟨[(0,AAC)],[]⟩ AAG aj [AMQ] [] [⟨3,⟨[(0,AAC),(3,qR),(4,BB)],[Mr]⟩,I9⟩,⟨6,⟨[(0,AAC),(3,qR),(4,BB),(5,BB)],[Mr]⟩,JK⟩]
def AU3:SQ:=mk Tryz.func287 AJg ⟨ASX,[ZO,Mr,Mr]⟩ gR [s57,ABq,pf,AUE,AWQ] [] [⟨6,⟨[(1,qR),(2,bt),(4,BB),(10,cV),(12,ABu),(13,.c (.ref 7)),(14,BB)],AJw⟩,Pj⟩,⟨11,⟨[(4,BB),(10,cV),(12,ABu),(13,.c (.ref 7)),(15,BB)],AJw⟩,M_⟩]
def AUy:SQ:=mk Tryz.func193 eQ ⟨ASk,[DV,ZO,P4,MO,UW,Tj,P7,Lq,DV]⟩ Xo [pf,ALB,AU3,AEv] [(3,[0,2,3,4,5,6,7,8,9,10])] [] (he:=fun ω v=>by rcases ω with _|⟨_|_,_|⟨_|_,_⟩⟩<;>kernel_rfl)
def AXl:SQ:=mk Tryz.func270 nz yz kQ [] [] []
def AXz:SQ:=mk Tryz.func194 AE6 ⟨[(0,.MA [.inr [.ref 0,.v tI,.ref 1,.ref 2,.ref 3,.v tI,.ref 4,.ref 8,.ref 6,.ref 7,.v .bool],.inl (.v tI)])],[DV,XT,DV,MO,UW,P4,P7,Lq,Tj]⟩ XS [AL4,AXl] [] []
def AWE:SQ:=mk Tryz.func265 jz uq Ss [s96,ABq,Xh,ALB,ARf] [] []
def AWI:SQ:=mk Tryz.func272 jz AAG VI [ABq,o_] [] [⟨3,⟨[(1,BB),(2,Ko),(5,xP9),(6,BB)],[ANF,Mr]⟩,JJ⟩]
def AWO:SQ:=mk Tryz.func271 AJf xz VN [s98,AEF,o_,AIu,AMQ] [(8,[0,1,2,3,4,5,6,7,8,9]),(9,[0,1,2,3,4,5,7,8,9])] [⟨6,⟨[(3,ZP),(4,Ko),(5,cV),(8,AB3),(10,.c (.ptr 6 0)),(11,BB)],[zn,ADX,ASp,Ih,Mr,tT,ARi,Ih,Mr,tT]⟩,LP⟩]
def AVq:SQ:=mk Tryz.func195 eQ vG Xq [pf,ADE,AWE,AWO,AWI,ABA] [(7,[0,1,2,3,4,5,6,7,8,9,10,11]),(9,[0,1,2,3,4,5,6,7,8,9,10,11,12]),(10,[0,1,2,3,4,5,6,7,8,9,10,11,12,13,14,15])] [] (he:=fun ω v=>by rcases ω with _|⟨_|_,_|⟨_|_,_|⟨_|_,_⟩⟩⟩<;>kernel_rfl)
def ARN:SQ:=mk Tryz.func336 ACj dq Kl [AEv] [] []
def APQ:SQ:=mk Tryz.func335 AG8 Bu Kk [ABO,ub,AQd,AEv] [(3,[0,1])] []
def AWt:SQ:=mk Tryz.func273 AJ8 xz VV [s98,AEF,ARQ,APQ,ARN] [(4,[0,1,2,3,4,5,6])] [⟨8,⟨[(4,Ko),(6,cV),(8,.c (.ptr 5 0)),(9,BB)],AKd⟩,Lg⟩]
def AVw:SQ:=mk Tryz.func196 AE6 vG Xr [ADE,AWt] [(3,[0,1,2,3,4,5,6,7,8,9])] [] (he:=fun ω v=>by rcases ω with _|⟨_|_,_|⟨_|_,_⟩⟩<;>kernel_rfl)
def AT5:SQ:=mk Tryz.func197 eQ vG Zv [pf,ADE,ASN,ABA,AMB] [(3,[0,1,2,3,4,5,6,7,8,9,10]),(9,[0,1,2,3,4,5,6,7,8,9,10,11]),(11,[0,1,2,3,4,5,6,7,8,9,10,11,12])] [] (he:=fun ω v=>by rcases ω with _|⟨_|_,_|⟨_|_,_⟩⟩<;>kernel_rfl)
def AUM:SQ:=mk Tryz.func290 zP Bu SR [ub,AEF] [(6,[0,1])] [⟨4,AJK,Kn⟩]
def AVr:SQ:=mk Tryz.func267 AJp ACR U4 [s95,AD1,AL4,Xh] [] []
def AVx:SQ:=mk Tryz.func198 AE6 ⟨[(0,.MA [.inr [.ref 0,.v tI,.ref 1,.ref 2,.ref 8,.v tI,.ref 4,.ref 9,.ref 6,.ref 7,.v .bool],.inl (.v tI)])],[DV,XT,DV,P4,UW,P4,P7,Lq,MO,Tj]⟩ Uv [AVr,AUM] [(3,[0,1,2,3,4,5,6,7,8,9]),(5,[0,1,2,3,4,5,6,7,8,9])] [] (he:=fun ω v=>by rcases ω with _|⟨_|_,_⟩<;>kernel_rfl)
def AXp:SQ:=mk Tryz.func199 AJd ACR XI [s95,AD1,t_,o_,ALB] [(4,[0,1,2,3,4])] []
def AUI:SQ:=mk Tryz.func344 ACS ET WO [] [] [⟨2,⟨AIN,[AIE]⟩,Jp⟩]
def AXa:SQ:=mk Tryz.func292 yO ET fz [AUI] [] [⟨2,⟨[(1,BB),(2,Ko),(5,BB)],pK⟩,OT⟩]
def AXg:SQ:=mk Tryz.func293 ⟨[(0,.row Y11),(1,.row Y9),(2,BB)],[]⟩ ⟨AEI,[.sl 9 Y13]⟩ Qj [ABd,ARx,ABA,AIy] [(6,[0,1,2,3]),(7,[0,1,2,3]),(8,[0,1,3,4])] [⟨4,⟨[(3,Ko),(4,cV),(7,.c (.ref 2)),(8,.c (.ref 3)),(9,BB)],[ADV,ADi,.sl 9 Y13,Ih]⟩,Jm⟩] (hJ:= .cons (fun _=>rfl) (fun n v ω=>by rcases ω with _|⟨_|_,_|⟨_|_,_⟩⟩<;>kernel_rfl) (.nil))
def AVs:SQ:=mk Tryz.func341 ⟨[(0,qZ),(1,tq)],[]⟩ ⟨[(0,.MA [.inl (.ref 0),.inl (.v .bool)])],uB⟩ aw [ABO] [] [⟨3,⟨[(1,tq),(2,Ko),(6,xP9),(7,BB)],AJ1⟩,Lh⟩]
def AVp:SQ:=mk Tryz.func342 ⟨[(0,.row Y9),(1,.row Y8),(2,BB),(3,BB)],[]⟩ AAR Io [s99] [] []
def AWi:SQ:=mk Tryz.func343 ⟨[(0,bt),(1,BB),(2,tq)],[]⟩ ⟨[(0,.agg [.v tI,.v tI,.v .str])],[]⟩ MX [pf,AIB,AQg] [] [⟨4,⟨[(0,bt),(1,BB),(2,tq),(6,Ko),(7,cV),(8,xP4),(9,BB)],[.mem [.v tI,.v tI,.v .str],ADL]⟩,Mq⟩]
def AWW:SQ:=mk Tryz.func291 AKY ⟨APw,[.sl 9 Y8]⟩ Qp [s48,s99,AD1,o_,ABd,AFE,APQ,ARN,AVs,AVp,AWi] [(9,[0,1,2,4,5]),(14,[0,1,2,3,4,5]),(16,[0,1,2,4,5,6])] []
def AUF:SQ:=mk Tryz.func200 eQ vG Xg [Xh,AWW,AXa,AXg] [(3,[0,1,2,3,4,5,6,7,8,9,10])] [] (he:=fun ω v=>by rcases ω with _|⟨_|_,_|⟨_|_,_|⟨_|_,_⟩⟩⟩<;>kernel_rfl)
def AVR:SQ:=mk Tryz.func201 eQ ⟨[(0,.MA [.inr [.ref 0,.v tI,.ref 1,.ref 2,.ref 3,.v tI,.ref 8,.ref 5,.ref 6,.ref 7,.v .bool],.inl (.v tI)])],[DV,XT,DV,MO,P4,Tj,P7,Lq,ni]⟩ Xe [ANO] [] [⟨5,⟨[(2,i7),(3,h_),(4,xP8),(6,.c (.ref 19)),(7,BB)],[DV,XT,DV,MO,ni,Tj,P7,Lq,uH,tE,ASy,Ih,jY,Ih,ZQ,iv,jV,i_,gl,ni]⟩,Mw⟩]
def AVT:SQ:=mk Tryz.func295 jz uq Sz [s96,ABq,t_] [(11,[0,1,2,3,6])] [⟨8,AJl,KM⟩] (hJ:= .cons (fun _=>rfl) (fun n v ω=>by rcases ω with _|⟨_|_,_⟩<;>kernel_rfl) (.nil))
def AUl:SQ:=mk Tryz.func202 eQ vG VQ [ABA,AQJ,AVT] [(4,[0,1,2,3,4,5,6,7,8,9,10]),(6,[0,1,2,3,4,5,6,7,8,9,10,12])] [] (he:=fun ω v=>by rcases ω with _|⟨_|_,_⟩<;>kernel_rfl)
def AUQ:SQ:=mk Tryz.func109 eQ ⟨[(0,.MA [.inr [.ref 0,.v tI,.ref 1,.ref 8,.ref 9,.v tI,.ref 10,.ref 11,.ref 6,.ref 12,.v .bool],.inl (.v tI)])],[DV,ZO,P4,P4,P4,P4,P7,P4,DV,MO,ni,.sl 1 Y7,Lq]⟩ cW [AW7,AUW,AUn,AXh,ATq,AUy,AXz,AVq,AVw,AT5,AVx,AXp,AUF,AVR,AUl] [] []
def s45:SQ:=mk Tryz.func45 AKC AJZ SU [s17,s42,APj,AUQ] [(3,[0,1,2])] [] (he:=fun ω v=>by rcases ω with _|⟨_|_,_|⟨_|_,_⟩⟩<;>kernel_rfl)
def s16:SQ:=mk Tryz.func16 AG9 ⟨ASe,AE0⟩ Ob [s17,s42,s43,s44,s45] [(13,[0,2,3,4,5,6,7,8,9,10,11,12,13,14,15,16,17,18,19,20])] [] (he:=fun ω v=>by rcases ω with _|⟨_|_,_|⟨_|_,_⟩⟩<;>kernel_rfl)
def s7:SQ:=mk Tryz.func7 AG0 AJ9 Ps [s16,s23] [(20,[0,1,2,3,4,5,6,7,8,9])] [⟨7,⟨[(1,az),(6,Ko),(8,.c (.ref 9)),(9,BB),(10,BB)],[w9,Ih,jY,Ih,ZQ,iv,jV,i_,gl,.sl 9 .str]⟩,II⟩,⟨18,⟨[(6,Ko),(8,.c (.ref 9)),(11,az),(12,BB)],[w9,DV,ZO,DV,MO,ni,.sl 1 Y7,P7,Lq,.sl 9 .str]⟩,HG⟩] (hJ:= .cons (fun _=>rfl) (fun n v ω=>by kernel_rfl) (.cons (fun _=>rfl) (fun n v ω=>by rcases ω with _|⟨_|_,_⟩<;>kernel_rfl) (.nil)))
def s25:SQ:=txP (AAH yA (enters_of yA.f146 (by kernel_rfl) rfl) AF3 (by kernel_rfl)) rfl strings_Split (fun _=>rfl)
abbrev i66:Bc:=⟨[(0,bt)],[]⟩
abbrev o66:Bc:=dq
def s66:SQ:=mk Tryz.func66 i66 o66 DD [] [] []
abbrev i34:Bc:=vS
abbrev o34:Bc:=AKE
def s34:SQ:=mk Tryz.func34 i34 o34 IK [s66] [(1,[0])] []
abbrev i35:Bc:=⟨[],[]⟩
abbrev o35:Bc:=AAR
def s35:SQ:=mk Tryz.func35 i35 o35 Jb [] [] []
abbrev i139:Bc:=AKS
abbrev AD_:Bc:=Bu
def Rw:SQ:=mk Tryz.func139 i139 AD_ Ay [] [] []
def s67:SQ:=mk Tryz.func67 vS Bu Es [Rw] [] [⟨2,⟨[(1,Ko),(6,bt),(7,BB),(8,BB)],AMW⟩,Lb⟩]
def AWl:SQ:=mk Tryz.func218 kt Bu Xi [Rw] [] [⟨2,⟨[(0,bt),(1,BB),(7,bt),(8,BB),(9,BB)],[]⟩,KF⟩]
def wW:SQ:=mk Tryz.func140 oX Bu D2 [s67,AWl] [] []
def AIb:SQ:=mk Tryz.func209 ET Bu HY [Rw] [] []
def ASL:SQ:=mk Tryz.func210 ET Bu Yz [Rw] [] []
def AB0:SQ:=mk Tryz.func126 ET Bu C_ [AIb,ASL] [] []
def AI6:SQ:=mk Tryz.func150 ZD Bu F6 [] [] []
def qu:SQ:=mk Tryz.func127 ET ET EM [AB0] [] []
def AIs:SQ:=mk Tryz.func302 ⟨[(0,.row Y1)],[]⟩ Bu MD [AB0,qu,Rw,AI6] [(1,[0])] []
def ATx:SQ:=mk Tryz.func219 ACN Bu PA [AIs] [] [⟨2,⟨[(5,ZP),(6,BB),(7,BB)],[]⟩,H5⟩]
def ASA:SQ:=mk Tryz.func220 ACN Bu Kb [] [(4,[0])] [⟨2,⟨[(0,ZP),(5,ZP),(6,BB),(7,BB)],[]⟩,Fv⟩]
def xU:SQ:=mk Tryz.func141 oe Bu Ey [Rw,ATx,ASA] [] []
def AXW:SQ:=mk Tryz.func314 kt ET PE [] [] [⟨2,⟨[(0,bt),(1,BB),(7,BB),(8,BB)],[]⟩,F8⟩]
def AA0:SQ:=mk Tryz.func239 kt Bu Bp [AXW] [] []
def APk:SQ:=mk Tryz.func304 ⟨[(0,BB),(1,.c (.pT (.cons (.sl tI) .unit)))],[]⟩ Bu Re [AA0] [] []
def AXj:SQ:=mk Tryz.func351 ⟨[(0,bt),(1,AI7)],[]⟩ ET Df [APk] [] [⟨2,⟨[(0,bt),(1,AI7),(7,BB),(8,BB)],[]⟩,B6⟩]
def AUR:SQ:=mk Tryz.func303 ⟨[(0,qR),(1,AI7)],[DV]⟩ AJv Cj [APk,AXj] [] [⟨5,⟨[(0,qR),(1,AI7),(5,BB),(6,BB)],[DV]⟩,Bv⟩]
def AJF:SQ:=mk Tryz.func221 ACj AGI NK [s66,AUR] [] []
abbrev ABD:Bc:=ACV
abbrev AHX:Bc:=Bu
def AEK:SQ:=mk Tryz.func142 ABD AHX C4 [AJF] [] []
def AVg:SQ:=mk Tryz.func222 oX ET aW [wW,AA0] [] [⟨5,⟨[(2,Ko),(5,xP9),(13,bt),(14,BB),(15,BB)],AJ1⟩,O1⟩]
abbrev i143:Bc:=oX
abbrev ARA:Bc:=Bu
def tc:SQ:=mk Tryz.func143 i143 ARA Gq [wW,AVg] [(1,[0])] []
def s68:SQ:=mk Tryz.func68 zt Bu K9 [wW,xU,AEK,tc] [] [⟨4,⟨[(0,yv),(32,AAC),(33,BB),(34,BB)],[]⟩,E7⟩]
def AWK:SQ:=mk Tryz.func144 ⟨[(0,qZ),(1,.row Y3)],[]⟩ Bu dQ [Rw,tc] [] []
abbrev i69:Bc:=AFk
abbrev o69:Bc:=Bu
def s69:SQ:=mk Tryz.func69 i69 o69 Ks [s67,qu,Rw,AWK] [(7,[0,1])] [⟨2,⟨[(2,Ko),(3,cV),(9,.c (.sl false Y3)),(10,BB),(11,BB)],AQH⟩,Kq⟩]
def AV8:SQ:=mk Tryz.func223 Bu ET cq [] [] []
abbrev i145:Bc:=AGF
abbrev AQY:Bc:=Bu
def ADT:SQ:=mk Tryz.func145 i145 AQY GP [s67,wW,tc,AI6,AIb,AV8] [(5,[0,1,2])] [⟨3,⟨[(2,Ko),(3,cV),(5,BB),(9,AJE),(10,BB),(11,BB)],APb⟩,LO⟩]
def ASj:SQ:=mk Tryz.func146 ACV Bu Jt [Rw] [] []
def s70:SQ:=mk Tryz.func70 zt Bu KV [ADT,ASj] [(4,[0])] [⟨2,⟨[(0,yv),(8,.c (.sl false Y6)),(9,BB),(10,BB)],[]⟩,EU⟩]
def AI_:SQ:=mk Tryz.func128 ET ET Q0 [AB0] [] []
def ARg:SQ:=mk Tryz.func224 zM ET TV [AI_] [] []
def AXL:SQ:=mk Tryz.func225 zM Bu V6 [qu,ASA,AIs] [(4,[0,1])] [⟨2,⟨[(1,Ko),(6,ZP),(7,BB),(8,BB)],[ADX]⟩,Ll⟩]
def ABs:SQ:=mk Tryz.func147 zP Bu Hm [s67,Rw,wW,AIb,ARg,AXL] [] [⟨2,⟨[(2,Ko),(3,cV),(10,AIo),(11,BB),(12,BB)],ALK⟩,L_⟩]
def ALS:SQ:=mk Tryz.func148 AC3 ET L7 [] [] [⟨2,⟨[(6,.c (.sl false Y3)),(7,BB),(8,BB)],[]⟩,IE⟩]
def s71:SQ:=mk Tryz.func71 zt Bu ME [ABs,ALS] [(4,[0])] [⟨2,⟨[(0,yv),(8,.c (.sl false Y7)),(9,BB),(10,BB)],[]⟩,FQ⟩]
def AS0:SQ:=mk Tryz.func149 wC Bu VL [Rw] [] []
def s72:SQ:=mk Tryz.func72 zt Bu Km [AS0] [] [⟨2,⟨[(0,yv),(8,qo),(9,BB),(10,BB)],[]⟩,EV⟩]
def s73:SQ:=mk Tryz.func73 zt Bu Nf [qu,ASj,AI6] [(4,[0])] [⟨2,⟨[(0,yv),(8,ADB),(9,BB),(10,BB)],[]⟩,Fy⟩]
abbrev i36:Bc:=TB
abbrev o36:Bc:=Bu
def s36:SQ:=mk Tryz.func36 i36 o36 Cw [s67,s68,s69,s70,s71,s72,s73] [] []
abbrev i13:Bc:=vS
abbrev o13:Bc:=AKa
def zb:Qv:=⟨i13,o13,(i13.un ED)⟩
def C13:cQ:=⟨T,Ry (SP.l [s34,s35,s36]),CV [(1,[0,1])]⟩
def L13:List (Lp o13):=[]
def W13(p0:AAb):Option du:=
 (IK (p0.1,p0.2.1,())).bind fun u1=>
 (
 let x2:AAT:=(List.replicate ((p0.1.length:Int).toNat) ([],[],0,()))
 (Jb).bind fun u3=>
 (Jb).bind fun u4=>
 (Cw (u1.2.1,u1.1.1.2.1,x2,[],[],0,[],[],[(u3.1.1.1,u3.1.1.2.1,u3.2.1,()),(u4.1.1.1,u4.1.1.2.1,u4.2.1,())],[],false,())).bind fun u5=>
 cond (!u5.1.1)
  (some (((((),0,(),(),(),0,(),(),(),(),false,()),false,()),()),([],[],[],[],[],[],[],[],())))
 (some (((((),u1.1.1.2.1,(),(),(),0,(),(),(),(),false,()),true,()),()),(u1.2.1,x2,[],[],[],[],[(u3.1.1.1,u3.1.1.2.1,u3.2.1,()),(u4.1.1.1,u4.1.1.2.1,u4.2.1,())],[],()))))
def Xk(ω:List Bool):Prop:= ∀v,DB C13 zb Tryz.f13 (M3 0 L13 AX) ω v=i13.un ED v
def B13(ω:List Bool):Prop:= ∀v,DB C13 zb Tryz.f13 (M3 0 L13 AX) ω v=i13.un (fun p0=>if(0:Int)<=(p0.1.length:Int)/\(p0.1.length:Int)<=(p0.1.length:Int)/\(p0.1.length:Int)<=(Go.M.Cm:Int)then W13 p0 else none) v
def Rv(ω:List Bool):Prop:= ∀v u,i13.un ED v=some u->DB C13 zb Tryz.f13 (M3 0 L13 AX) ω v=some u
theorem JA{ω:List Bool}(h:Xk ω):Rv ω:=fun v u e=>(h v).trans e
theorem r_{ω:List Bool}(h:B13 ω):Rv ω:=fun v u e=>(h v).trans (by
 revert e
 show ED v.1.1=some u->(if(0:Int)<=(v.1.1.1.length:Int)/\(v.1.1.1.length:Int)<=(v.1.1.1.length:Int)/\(v.1.1.1.length:Int)<=(Go.M.Cm:Int)then W13 v.1.1 else none)=some u
 intro e;unfold ED at e;cases hc:IK (v.1.1.1,v.1.1.2.1,())with
 |none=>rw[hc]at e;cases e
 |some q=>
  rw[hc]at e;simp only[Option.bind_some]at e;by_cases hg:(0:Int)<=(v.1.1.1.length:Int)/\(v.1.1.1.length:Int)<=(v.1.1.1.length:Int)/\(v.1.1.1.length:Int)<=(Go.M.Cm:Int)
  ·rw[if_pos hg]at e
   rw[if_pos hg];unfold W13;rw[hc];exact e
  ·rw[if_neg hg]at e
   cases e)
theorem APq:Rv []:=JA (by delta Xk;intros;kernel_rfl)
theorem AQP:Rv (false::[]):=r_ (by delta B13;intros;kernel_rfl)
theorem APr:Rv (false::false::[]):=JA (by delta Xk;intros;kernel_rfl)
theorem AQl(ω:List Bool):Rv (false::false::false::ω):=r_ (by delta B13;intros;kernel_rfl)
theorem ARs:Rv (false::false::true::[]):=JA (by delta Xk;intros;kernel_rfl)
theorem AQ2:Rv (false::false::true::false::[]):=JA (by delta Xk;intros;kernel_rfl)
theorem APo:Rv (false::false::true::false::false::[]):=JA (by delta Xk;intros;kernel_rfl)
theorem AQQ(ω:List Bool):Rv (false::false::true::false::false::false::ω):=JA (by delta Xk;intros;kernel_rfl)
theorem ASa(ω:List Bool):Rv (false::false::true::false::false::true::ω):=JA (by delta Xk;intros;kernel_rfl)
theorem AOR(ω:List Bool):Rv (false::false::true::false::true::ω):=JA (by delta Xk;intros;kernel_rfl)
theorem ALG(ω:List Bool):Rv (false::false::true::true::ω):=JA (by delta Xk;intros;kernel_rfl)
theorem AOb:Rv (false::true::[]):=r_ (by delta B13;intros;kernel_rfl)
theorem AL0(ω:List Bool):Rv (false::true::false::ω):=r_ (by delta B13;intros;kernel_rfl)
theorem ANM:Rv (false::true::true::[]):=r_ (by delta B13;intros;kernel_rfl)
theorem AOd(ω:List Bool):Rv (false::true::true::false::ω):=r_ (by delta B13;intros;kernel_rfl)
theorem AM9:Rv (false::true::true::true::[]):=r_ (by delta B13;intros;kernel_rfl)
theorem AOS(ω:List Bool):Rv (false::true::true::true::false::ω):=r_ (by delta B13;intros;kernel_rfl)
theorem AMr:Rv (false::true::true::true::true::[]):=r_ (by delta B13;intros;kernel_rfl)
theorem AMm(ω:List Bool):Rv (false::true::true::true::true::false::ω):=r_ (by delta B13;intros;kernel_rfl)
theorem AMh(ω:List Bool):Rv (false::true::true::true::true::true::ω):=r_ (by delta B13;intros;kernel_rfl)
theorem AKr:Rv (true::[]):=JA (by delta Xk;intros;kernel_rfl)
theorem AN8:Rv (true::false::[]):=JA (by delta Xk;intros;kernel_rfl)
theorem AOg:Rv (true::false::false::[]):=JA (by delta Xk;intros;kernel_rfl)
theorem AOU:Rv (true::false::false::false::[]):=JA (by delta Xk;intros;kernel_rfl)
theorem AL_:Rv (true::false::false::false::false::[]):=JA (by delta Xk;intros;kernel_rfl)
theorem ANw(ω:List Bool):Rv (true::false::false::false::false::false::ω):=JA (by delta Xk;intros;kernel_rfl)
theorem ANy(ω:List Bool):Rv (true::false::false::false::false::true::ω):=JA (by delta Xk;intros;kernel_rfl)
theorem AN0(ω:List Bool):Rv (true::false::false::false::true::ω):=JA (by delta Xk;intros;kernel_rfl)
theorem AOB(ω:List Bool):Rv (true::false::false::true::ω):=JA (by delta Xk;intros;kernel_rfl)
theorem ALQ:Rv (true::false::true::[]):=JA (by delta Xk;intros;kernel_rfl)
theorem AME:Rv (true::false::true::false::[]):=JA (by delta Xk;intros;kernel_rfl)
theorem AKj:Rv (true::false::true::false::false::[]):=JA (by delta Xk;intros;kernel_rfl)
theorem AMM:Rv (true::false::true::false::false::false::[]):=JA (by delta Xk;intros;kernel_rfl)
theorem AKn(ω:List Bool):Rv (true::false::true::false::false::false::false::ω):=JA (by delta Xk;intros;kernel_rfl)
theorem AM7(ω:List Bool):Rv (true::false::true::false::false::false::true::ω):=JA (by delta Xk;intros;kernel_rfl)
theorem AOE(ω:List Bool):Rv (true::false::true::false::false::true::ω):=JA (by delta Xk;intros;kernel_rfl)
theorem ANT:Rv (true::false::true::false::true::[]):=JA (by delta Xk;intros;kernel_rfl)
theorem ALY:Rv (true::false::true::false::true::false::[]):=JA (by delta Xk;intros;kernel_rfl)
theorem AMn:Rv (true::false::true::false::true::false::false::[]):=JA (by delta Xk;intros;kernel_rfl)
theorem ANB(ω:List Bool):Rv (true::false::true::false::true::false::false::false::ω):=JA (by delta Xk;intros;kernel_rfl)
theorem AMK(ω:List Bool):Rv (true::false::true::false::true::false::false::true::ω):=JA (by delta Xk;intros;kernel_rfl)
theorem AKf:Rv (true::false::true::false::true::false::true::[]):=JA (by delta Xk;intros;kernel_rfl)
theorem AMR(ω:List Bool):Rv (true::false::true::false::true::false::true::false::ω):=JA (by delta Xk;intros;kernel_rfl)
theorem AM8(ω:List Bool):Rv (true::false::true::false::true::false::true::true::ω):=JA (by delta Xk;intros;kernel_rfl)
theorem AOa:Rv (true::false::true::false::true::true::[]):=JA (by delta Xk;intros;kernel_rfl)
theorem ANl(ω:List Bool):Rv (true::false::true::false::true::true::false::ω):=JA (by delta Xk;intros;kernel_rfl)
theorem ANX(ω:List Bool):Rv (true::false::true::false::true::true::true::ω):=JA (by delta Xk;intros;kernel_rfl)
theorem ALw:Rv (true::false::true::true::[]):=JA (by delta Xk;intros;kernel_rfl)
theorem AN5(ω:List Bool):Rv (true::false::true::true::false::ω):=JA (by delta Xk;intros;kernel_rfl)
theorem AKu:Rv (true::false::true::true::true::[]):=JA (by delta Xk;intros;kernel_rfl)
theorem ANb(ω:List Bool):Rv (true::false::true::true::true::false::ω):=JA (by delta Xk;intros;kernel_rfl)
theorem AMv(ω:List Bool):Rv (true::false::true::true::true::true::ω):=JA (by delta Xk;intros;kernel_rfl)
theorem AOk:Rv (true::true::[]):=JA (by delta Xk;intros;kernel_rfl)
theorem ANp(ω:List Bool):Rv (true::true::false::ω):=JA (by delta Xk;intros;kernel_rfl)
theorem ANR:Rv (true::true::true::[]):=JA (by delta Xk;intros;kernel_rfl)
theorem AMS(ω:List Bool):Rv (true::true::true::false::ω):=JA (by delta Xk;intros;kernel_rfl)
theorem AMj:Rv (true::true::true::true::[]):=JA (by delta Xk;intros;kernel_rfl)
theorem ALn(ω:List Bool):Rv (true::true::true::true::false::ω):=JA (by delta Xk;intros;kernel_rfl)
theorem AK6(ω:List Bool):Rv (true::true::true::true::true::ω):=JA (by delta Xk;intros;kernel_rfl)
def s13:SQ:=AXk tOk mx Tryz.func13 i13 o13 ED [s34,s35,s36] [(1,[0,1])] L13 AX (by kernel_rfl) (by kernel_rfl) (by kernel_rfl) .nil (AE APq (AE AQP (AE APr AQl (AE ARs (AE AQ2 (AE APo AQQ ASa) AOR) ALG)) (AE AOb AL0 (AE ANM AOd (AE AM9 AOS (AE AMr AMm AMh))))) (AE AKr (AE AN8 (AE AOg (AE AOU (AE AL_ ANw ANy) AN0) AOB) (AE ALQ (AE AME (AE AKj (AE AMM AKn AM7) AOE) (AE ANT (AE ALY (AE AMn ANB AMK) (AE AKf AMR AM8)) (AE AOa ANl ANX))) (AE ALw AN5 (AE AKu ANb AMv)))) (AE AOk ANp (AE ANR AMS (AE AMj ALn AK6)))))
abbrev i74:Bc:=AC3
abbrev o74:Bc:=AEr
def s74:SQ:=mk Tryz.func74 i74 o74 EL [s66] [] [⟨3,⟨[(2,Ko),(3,AB3),(10,.c (.sl false Y3)),(11,BB),(12,BB)],[.mem [.ref 1,.v tI],ZQ,.mem [.ref 3,.v tI],ZQ]⟩,Hk⟩]
def AQ9:SQ:=mk Tryz.func151 ACN AAG I_ [] [] []
def s75:SQ:=mk Tryz.func75 oe AEp C6 [AQ9] [(1,[0])] []
abbrev i76:Bc:=ACS
abbrev o76:Bc:=AFM
def s76:SQ:=mk Tryz.func76 i76 o76 Fc [s66] [] [⟨3,⟨[(2,Ko),(3,AB3),(10,AJE),(11,BB),(12,BB)],AKQ⟩,JY⟩]
def s77:SQ:=mk Tryz.func77 zM yz GH [s66,AQ9] [(2,[0,1]),(6,[0,1,2,3,5,6])] [⟨4,⟨[(2,Ko),(3,ABu),(17,AIo),(18,BB),(19,BB)],AKG⟩,Lw⟩] (hJ:= .cons (fun _=>rfl) (fun n v ω=>by rcases ω with _|⟨_|_,_|⟨_|_,_⟩⟩<;>kernel_rfl) (.nil))
def s78:SQ:=mk Tryz.func78 wC AAR Mz [] [] []
def s37:SQ:=mk Tryz.func37 TB AJW Dk [s34,s66,s74,s75,s76,s77,s78] [(1,[0,1]),(5,[0,1,2,3,4,5,6,7,8,9,11,13,14,15,16,17,18,19]),(10,[0,1,2,3,4,5,6,7,8,9,11,12,13,14,16,17,18,19]),(15,[0,1,2,3,4,5,6,7,8,9,11,12,13,14,15,17,18,19]),(20,[0,1,2,3,4,5,6,7,8,9,11,12,13,14,15,16,18,19])] [⟨3,⟨[(1,Ko),(2,cV),(3,xP8),(25,AAC),(26,BB),(27,BB)],pQ⟩,FK⟩,⟨8,⟨[(1,Ko),(2,cV),(3,xP8),(40,.c (.sl false Y6)),(41,BB),(42,BB)],pQ⟩,FM⟩,⟨13,⟨[(1,Ko),(2,cV),(3,xP8),(55,.c (.sl false Y7)),(56,BB),(57,BB)],pQ⟩,En⟩,⟨18,⟨[(1,Ko),(2,cV),(3,xP8),(70,qo),(71,BB),(72,BB)],pQ⟩,Em⟩] (hJ:= .cons (fun _=>rfl) (fun n v ω=>by rcases ω with _|⟨_|_,_|⟨_|_,_⟩⟩<;>kernel_rfl) (.cons (fun _=>rfl) (fun n v ω=>by rcases ω with _|⟨_|_,_|⟨_|_,_⟩⟩<;>kernel_rfl) (.cons (fun _=>rfl) (fun n v ω=>by rcases ω with _|⟨_|_,_|⟨_|_,_⟩⟩<;>kernel_rfl) (.cons (fun _=>rfl) (fun n v ω=>by rcases ω with _|⟨_|_,_|⟨_|_,_⟩⟩<;>kernel_rfl) (.nil))))) (he:=fun ω v=>by rcases ω with _|⟨_|_,_|⟨_|_,_|⟨_|_,_⟩⟩⟩<;>kernel_rfl)
def AUA:SQ:=mk Tryz.func122 ACh Bu VG [] [] []
def s50:SQ:=mk Tryz.func50 TB Bu QW [s36,AUA] [] [⟨2,AJJ,Ef⟩,⟨6,⟨[(1,Ko),(5,BB),(6,xP4),(10,qo),(11,BB),(12,BB),(17,AG1),(18,BB),(19,BB)],pK⟩,G9⟩]
def AVM:SQ:=mk Tryz.func123 yO vW Z0 [] [] [⟨2,⟨[(1,BB),(9,ADB),(10,BB),(11,BB)],[]⟩,O6⟩]
def s51:SQ:=mk Tryz.func51 TB Bu Sb [s36,AVM] [] [⟨2,AJJ,FN⟩,⟨5,⟨[(1,Ko),(10,qo),(11,BB),(12,BB),(17,AG1),(18,BB),(19,BB)],pK⟩,Gc⟩]
def APU:SQ:=mk Tryz.func124 AGE vW Ui [] [] [⟨2,⟨[(1,BB),(9,AG1),(10,BB),(11,BB)],[]⟩,Sj⟩]
def AMt:SQ:=mk Tryz.func125 ⟨[(0,BB),(1,.row Y9)],[]⟩ Bu Ie [qu,AI_] [(2,[0])] []
def s52:SQ:=mk Tryz.func52 TB Bu SL [s36,APU,AMt] [] [⟨4,⟨[(1,Ko),(19,qo),(20,BB),(21,BB)],pK⟩,FI⟩,⟨7,⟨[(1,Ko),(4,cV),(19,qo),(20,BB),(21,BB),(26,ADB),(27,BB),(28,BB)],[ADV,ADi]⟩,GV⟩]
def s53:SQ:=mk Tryz.func53 TB Bu Ql [s36] [] [⟨4,⟨[(17,qo),(18,BB),(19,BB)],[]⟩,DY⟩,⟨7,⟨[(17,qo),(18,BB),(19,BB),(24,AG1),(25,BB),(26,BB)],[]⟩,Fo⟩]
def s54:SQ:=mk Tryz.func54 TB Bu TN [s36,APU,AMt,AB0] [(9,[0,1]),(11,[0,1]),(12,[0,1])] [⟨4,⟨[(1,Ko),(22,qo),(23,BB),(24,BB)],pK⟩,FL⟩,⟨7,⟨[(1,Ko),(22,qo),(23,BB),(24,BB),(29,AG1),(30,BB),(31,BB)],pK⟩,Gk⟩]
def s20:SQ:=mk Tryz.func20 TB Bu VM [s50,s51,s52,s53,s54] [] []
def AWJ:SQ:=txP (AAr wK (enters_of wK.f171 (by kernel_rfl) rfl) AKL) rfl strconv_Itoa (fun _=>rfl)
def s56:SQ:=mk Tryz.func56 ET ZD Gw [AWJ] [] []
def s55:SQ:=mk Tryz.func55 ET ZD Eb [s56,AB0,qu,AI_] [] []
def s21:SQ:=mk Tryz.func21 ACh ZD Ov [s55,s56] [(5,[0])] []
def s38:SQ:=mk Tryz.func38 wC ZD NI [s21] [] []
def s79:SQ:=txP (AEH AF1 (enters_of AF1.f145 (by kernel_rfl) rfl) AF3) rfl strings_Cut (fun _=>rfl)
def s81:SQ:=mk Tryz.func81 ⟨[],[]⟩ ⟨AEI,[.sl 9 .str]⟩ OG [] [] []
def s80:SQ:=txP (yI xy (enters_of xy.f109 (by kernel_rfl) rfl)) rfl JV (fun _=>rfl)
def s82:SQ:=mk Tryz.func82 ET ZD PO [] [] []
def AQ8:SQ:=txP (m_ (enters_of Tryz.func153 (by kernel_rfl) rfl) nG) rfl KL (fun _=>rfl)
def AXt:SQ:=txP (mJ ACO (enters_of ACO.f101 (by kernel_rfl) rfl)) rfl strings_TrimPrefix (fun _=>rfl)
abbrev i228:Bc:=nz
abbrev AEo:Bc:=lk
def uC:SQ:=mk Tryz.func228 i228 AEo DP [AIb,ASL] [] []
def AXo:SQ:=mk Tryz.func154 ZD lk Ou [s55,s79,AQ8,AXt,uC] [] []
def s83:SQ:=mk Tryz.func83 ⟨[(0,Ko),(1,.c (.v tU)),(2,az)],AL5⟩ ⟨[(0,az)],AL5⟩ Ma [s79,AQ8,AXo] [] []
def s85:SQ:=mk Tryz.func85 u_ Bu Vk [s82,Rw,AI6] [] [⟨4,⟨[(1,Ko),(3,cV),(11,.c (.ref 2)),(12,BB),(13,BB)],AJi⟩,Dl⟩]
def AW4:SQ:=txP (rU ot (enters_of ot.f144 (by kernel_rfl) rfl) AF3) rfl strings_Contains (fun _=>rfl)
def AUx:SQ:=mk Tryz.func155 ⟨[(0,.row Y12),(1,.c (.v tU))],[]⟩ vW TK [s55,s56,AB0,AW4] [(4,[0]),(6,[0])] []
def s84:SQ:=mk Tryz.func84 u_ vW VE [s81,s82,s85,AUx] [(3,[0])] [⟨5,⟨[(1,Ko),(4,az),(21,xP9),(22,BB),(23,BB)],[tE,.sl 9 tU]⟩,JC⟩]
def s39:SQ:=mk Tryz.func39 ZD AJO Te [s79,s80,s81,s82,s83,s84] [] [⟨6,⟨[(0,az),(2,Ko),(5,az),(7,cV),(30,.c (.ref 2)),(31,BB),(32,BB)],AJi⟩,H0⟩]
abbrev ABk:Bc:=ET
abbrev AH6:Bc:=dq
def AJB:SQ:=mk Tryz.func231 ABk AH6 Hp [Rw] [] [⟨5,⟨[(0,BB),(3,qR),(10,BB)],uB⟩,KZ⟩]
abbrev AKz:Bc:=AFk
abbrev APd:Bc:=AEr
def AIz:SQ:=mk Tryz.func257 AKz APd EF [s69,s74] [] []
abbrev xB:Bc:=AJj
abbrev AH2:Bc:=AJs
def AQ3:Qv:=⟨xB,AH2,(xB.un MV)⟩
def AUq:cQ:=⟨T,Ry (SP.l [s66,s69,s74,tc,AIz]),CV [(4,[0,1,2])]⟩
def AOf:List (Lp AH2):=[]
theorem AUV(g66:List Int->Option dp)(g69:AAb->AA6->Option Sy)(g74:AA6->Option IU)(ARC:AAb->List Int->Option kZ)(AIt:AAb->AA6->Option eK)(n:Nat)(ω:List Bool)(v:xB.V):DB ⟨T,Ry [(66,⟨i66,o66,i66.un g66⟩),(69,⟨i69,o69,i69.un g69⟩),(74,⟨i74,o74,i74.un g74⟩),(143,⟨i143,ARA,i143.un ARC⟩),(257,⟨AKz,APd,AKz.un AIt⟩)],CV [(4,[0,1,2])]⟩ AQ3 Tryz.f230 (M3 0 AOf n) ω v=xB.un (fun(p0:AAb) (p1:AA6) (p2:AAN)=>
 (g69 (p0.1,p0.2.1,()) (p1.1,p1.2.1,())).bind fun u1=>
 cond (!u1.1.1)
  ((AIt (p0.1,p0.2.1,()) (p1.1,p1.2.1,())).bind fun u2=>
  some (((((),u2.1.1.2.1,()),0,false,()),()),(u2.2.1,())))
 ((ARC (p0.1,p0.2.1,()) p2).bind fun u3=>
 cond (!u3.1.1)
  ((AIt (p0.1,p0.2.1,()) (p1.1,p1.2.1,())).bind fun u4=>
  some (((((),u4.1.1.2.1,()),0,false,()),()),(u4.2.1,())))
 (cond (((p1.1.length:Int)==30))
  ((AIt (p0.1,p0.2.1,()) (p1.1,p1.2.1,())).bind fun u6=>
  some (((((),u6.1.1.2.1,()),0,false,()),()),(u6.2.1,())))
 ((g74 (p1.1,p1.2.1,())).bind fun u7=>
 (g66 p2).bind fun u8=>
 if u7.2.1.length+1<=Go.M.Cm then(
 let x9:AAU:=u7.2.1++[(u8.2.1,false,0,())]
 some (((((),u7.1.1.2.1,()),(x9.length:Int),true,()),()),(x9,())))else none)))) v:=by rcases ω with _|⟨_|_,_|⟨_|_,_|⟨_|_,_|⟨_|_,_⟩⟩⟩⟩<;>kernel_rfl
theorem AUZ(n:Nat)(ω:List Bool)(v:xB.V):DB AUq AQ3 Tryz.f230 (M3 0 AOf n) ω v=xB.un (MV) v:=AUV DD Ks EL Gq EF n ω v
def AQi:SQ:=mk Tryz.func230 xB AH2 MV [s66,s69,s74,tc,AIz] [(4,[0,1,2])] AOf (hJ:= .nil) (he:=AUZ AX)
abbrev AA4:Bc:=vu
abbrev ANK:Bc:=⟨rr,[.mem [.ref 1,.v tI,.ref 2,.ref 3,.ref 9,.v tI,.ref 10,.ref 11,.ref 7,.ref 8,.v .bool],DV,XT,DV,P4,P4,P4,P7,Lq,MO,UW,Tj]⟩
def c156:Qv:=⟨AA4,ANK,(AA4.un KG)⟩
def AU8:cQ:=⟨T,Ry (SP.l [AQi,AJB]),CV [(3,[0,1,2,3,4,5,6,7,8])]⟩
def ALN:List (Lp ANK):=[]
theorem AUL(AQ6:AAb->AA6->List Int->Option fM)(ABY:Int->Option HP)(n:Nat)(ω:List Bool)(v:AA4.V):DB ⟨T,Ry [(230,⟨xB,AH2,xB.un AQ6⟩),(231,⟨ABk,AH6,ABk.un ABY⟩)],CV [(3,[0,1,2,3,4,5,6,7,8])]⟩ c156 Tryz.f156 (M3 9 ALN n) ω v=AA4.un (fun(p1:Int) (AF:Int) (AM:Int) (AG:Bool) (b1:AAN) (b2:AAT) (b3:AAN) (b4:AAU) (b5:AAX) (b6:AAY) (b7:AAV) (b8:AAW)=>
 cond (((b5.length:Int)==4))
  (some ((4,()),(((),AF,(),(),(),AM,(),(),(),(),AG,()),b1,b2,b3,(),(),(),b7,b8,b4,b5,b6,())))
 ((ABY p1).bind fun u2=>
 (AQ6 (b1,AF,()) (b4,AM,()) u2.2.1).bind fun u3=>
 cond (!u3.1.1.2.2.1)
  (some ((4,()),(((),AF,(),(),(),AM,(),(),(),(),AG,()),b1,b2,b3,(),(),(),b7,b8,b4,b5,b6,())))
 (if b5.length+1<=Go.M.Cm then(
 some ((0,()),(((),AF,(),(),(),u3.1.1.1.2.1,(),(),(),(),AG,()),b1,b2,b3,(),(),(),b7,b8,u3.2.1,(b5++[(u3.1.1.2.1,[],())]),[],())))else none))) v:=by rcases ω with _|⟨_|_,_|⟨_|_,_⟩⟩<;>kernel_rfl
theorem AV7(n:Nat)(ω:List Bool)(v:AA4.V):DB AU8 c156 Tryz.f156 (M3 9 ALN n) ω v=AA4.un (KG) v:=AUL MV Hp n ω v
def AW8:SQ:=mk Tryz.func156 AA4 ANK KG [AQi,AJB] [(3,[0,1,2,3,4,5,6,7,8])] ALN (hJ:= .nil) (he:=AV7 AX)
abbrev ALl:Bc:=AGF
abbrev AQm:Bc:=AFM
def ALX:SQ:=mk Tryz.func308 ALl AQm EG [s76,ADT] [] []
abbrev i232:Bc:=AJP
abbrev AID:Bc:=AKT
def c232:Qv:=⟨i232,AID,(i232.un Jo)⟩
def AXi:cQ:=⟨T,Ry (SP.l [s76,ADT,ALX]),CV []⟩
def AN1:List (Lp AID):=[]
theorem AWZ(g76:ABL->Option Kj)(ALI:AAb->ABL->Option M0)(AMV:AAb->ABL->Option X_)(n:Nat)(ω:List Bool)(v:i232.V):DB ⟨T,Ry [(76,⟨i76,o76,i76.un g76⟩),(145,⟨i145,AQY,i145.un ALI⟩),(308,⟨ALl,AQm,ALl.un AMV⟩)],CV []⟩ c232 Tryz.f232 (M3 0 AN1 n) ω v=i232.un (fun(p0:AAb) (p1:ABL) (p2:AAZ)=>
 (g76 (p1.1,p1.2.1,())).bind fun u1=>
 if u1.2.1.length+1<=Go.M.Cm then(
 let x2:ABI:=u1.2.1++[(p2,[],false,())]
 (ALI (p0.1,p0.2.1,()) (p1.1,p1.2.1,())).bind fun u3=>
 cond (!u3.1.1)
  ((AMV (p0.1,p0.2.1,()) (p1.1,p1.2.1,())).bind fun u4=>
  some ((((u4.1.1.1,(),()),0,false,()),()),(u4.2.1,())))
 ((ALI (p0.1,p0.2.1,()) (u1.1.1.1,x2,())).bind fun u5=>
 cond (!u5.1.1)
  ((AMV (p0.1,p0.2.1,()) (p1.1,p1.2.1,())).bind fun u6=>
  some ((((u6.1.1.1,(),()),0,false,()),()),(u6.2.1,())))
 (some ((((u1.1.1.1,(),()),(x2.length:Int),true,()),()),(x2,())))))else none) v:=by rcases ω with _|⟨_|_,_|⟨_|_,_⟩⟩<;>kernel_rfl
theorem AUT(n:Nat)(ω:List Bool)(v:i232.V):DB AXi c232 Tryz.f232 (M3 0 AN1 n) ω v=i232.un (Jo) v:=AWZ Fc GP EG n ω v
def ARa:SQ:=mk Tryz.func232 i232 AID Jo [s76,ADT,ALX] [] AN1 (hJ:= .nil) (he:=AUT AX)
def AVt:SQ:=mk Tryz.func310 ⟨[(0,.row Y10),(1,BB)],[]⟩ ET K_ [] [] []
def ATw:SQ:=mk Tryz.func309 ⟨[(0,ADB),(1,BB),(2,.c (.fn 310 []))],[]⟩ lk BT [AVt] [] [⟨3,⟨[(0,ADB),(1,BB),(2,.c (.fn 310 [])),(8,BB),(9,BB),(10,BB)],[]⟩,As⟩]
abbrev i233:Bc:=ACV
abbrev AQD:Bc:=lk
def AK9:SQ:=mk Tryz.func233 i233 AQD ID [ATw] [] []
abbrev i234:Bc:=⟨[(0,qR),(1,BB),(2,ADB)],[Lq]⟩
abbrev AXB:Bc:=⟨ALy,[P4,Lq]⟩
def ARK:SQ:=AL3 (ρ:=Jl 234 0 311 312 43 129) (nm:= "slices.Insert[[]loop.example/g00178/impl.Sent,loop.example/g00178/impl.Sent]") (fv:=Tryz.f311) tOk (oG.ins ⟨by kernel_rfl,by kernel_rfl,by kernel_rfl,by kernel_rfl,by kernel_rfl,by kernel_rfl,by kernel_rfl,by kernel_rfl,by kernel_rfl,by kernel_rfl,by kernel_rfl,by kernel_rfl⟩ mx (by kernel_rfl) (by kernel_rfl) (by kernel_rfl) (by kernel_rfl) (by kernel_rfl) (by kernel_rfl) (by kernel_rfl)) (r:=Y10) rfl (by kernel_rfl) (by kernel_rfl) EA (fun _=>rfl)
abbrev i157:Bc:=⟨[(0,Ko),(1,BB),(2,az)],iQ⟩
abbrev AKb:Bc:=⟨rr,[.mem [.ref 1,.v tI,.ref 2,.ref 3,.ref 4,.v tI,.ref 5,.ref 6,.ref 7,.ref 9,.v .bool],DV,XT,DV,MO,UW,Tj,P7,P4,Lq]⟩
def c157:Qv:=⟨i157,AKb,(i157.un LL)⟩
def AUi:cQ:=⟨T,Ry (SP.l [Rw,uC,ARa,AK9,ARK]),CV [(3,[0,1,2,3,4,5,6,7,8]),(8,[0,1,2,3,4,6,7,8])]⟩
def AOc:List (Lp AKb):=[]
theorem AV6(lK:Int->Int->Int->Option ND)(th:Int->Int->Option La)(AQt:AAb->ABL->List UInt8->Option bh)(AR7:AAi->Int->Option Wo)(ASc:Int->AAW->AAW->Option I0)(n:Nat)(ω:List Bool)(v:i157.V):DB ⟨T,Ry [(139,⟨i139,AD_,i139.un lK⟩),(228,⟨i228,AEo,i228.un th⟩),(232,⟨i232,AID,i232.un AQt⟩),(233,⟨i233,AQD,i233.un AR7⟩),(234,⟨i234,AXB,i234.un ASc⟩)],CV [(3,[0,1,2,3,4,5,6,7,8]),(8,[0,1,2,3,4,6,7,8])]⟩ c157 Tryz.f157 (M3 9 AOc n) ω v=i157.un (fun(p1:Int) (p2:AAZ) (AF:Int) (AM:Int) (AG:Bool) (b1:AAN) (b2:AAT) (b3:AAN) (b4:AAU) (b5:AAX) (b6:AAY) (b7:AAV) (b8:AAW)=>
 (lK p1 0 (AW ((b5.length:Int)-1))).bind fun u2=>
 cond (!u2.1.1)
  (some ((2,()),(((),AF,(),(),(),AM,(),(),(),(),AG,()),b1,b2,b3,b4,b5,b6,b7,(),b8,())))
 (if(0:Int)<=p1/\p1<(b5.length:Int)then(
 (AQt (b1,AF,()) ((b5.getD (p1.toNat) (0,[],())).1,(b5.getD (p1.toNat) (0,[],())).2.1,()) p2).bind fun u3=>
 (th u3.1.1.1.1 u3.1.1.2.1).bind fun u4=>
 (AR7 (b1,AF,b2,b3,b4,AM,b5,b6,b7,b8,AG,()) u4.1.1.1).bind fun u5=>
 cond (!u3.1.1.2.2.1)
  (some ((4,()),(((),AF,(),(),(),AM,(),(),(),(),AG,()),b1,b2,b3,b4,b5,b6,b7,(),b8,())))
 (cond (((b8.length:Int)==120))
  (some ((4,()),(((),AF,(),(),(),AM,(),(),(),(),AG,()),b1,b2,b3,b4,b5,b6,b7,(),b8,())))
 (cond (u5.1.1.2.1)
  (some ((4,()),(((),AF,(),(),(),AM,(),(),(),(),AG,()),b1,b2,b3,b4,b5,b6,b7,(),b8,())))
 (if(0:Int)<=p1/\p1<(b5.length:Int)then(
 (ASc u5.1.1.1 [(u4.1.1.1,p2,false,())] b8).bind fun u8=>
 some ((0,()),(((),AF,(),(),(),AM,(),(),(),(),AG,()),b1,b2,b3,b4,(b5.set (p1.toNat) (u3.1.1.1.1,u3.2.1,())),b6,b7,(),u8.2.2.1,())))else none))))else none)) v:=by rcases ω with _|⟨_|_,_⟩<;>kernel_rfl
theorem AWS(n:Nat)(ω:List Bool)(v:i157.V):DB AUi c157 Tryz.f157 (M3 9 AOc n) ω v=i157.un (LL) v:=AV6 Ay DP Jo ID EA n ω v
def AXf:SQ:=mk Tryz.func157 i157 AKb LL [Rw,uC,ARa,AK9,ARK] [(3,[0,1,2,3,4,5,6,7,8]),(8,[0,1,2,3,4,6,7,8])] AOc (hJ:= .nil) (he:=AWS AX)
def AGG:SQ:=mk Tryz.func237 ACV ET EH [Rw,AEK] [] []
abbrev AMs:Bc:=AKZ
abbrev AQb:Bc:=dq
def AIS:SQ:=mk Tryz.func240 AMs AQb Is [s66,Rw] [] []
abbrev AAd:Bc:=⟨[(0,yv),(1,BB),(2,BB)],[]⟩
abbrev AHm:Bc:=ET
def AFY:SQ:=mk Tryz.func235 AAd AHm Dd [AGG,AA0,AIS] [] []
def AIV:SQ:=mk Tryz.func317 oe AEp Dh [s75,xU] [] []
def AUr:SQ:=mk Tryz.func313 AFp uq VD [s75,qu,xU,AIs,AIV] [(3,[0,1,2])] []
abbrev AHJ:Bc:=Bu
abbrev ANI:Bc:=ET
def xt:SQ:=mk Tryz.func169 AHJ ANI J8 [] [] []
abbrev i236:Bc:=⟨[(0,Ko),(1,BB),(2,.row Y1)],iQ⟩
abbrev AP9:Bc:=qn
def AM4:SQ:=mk Tryz.func236 i236 AP9 L8 [xt,AUr] [(1,[0,1,2,3,4,5,6,7,8,9]),(3,[0,1,3,4,5,6,7,8,9])] [] (he:=fun ω v=>by rcases ω with _|⟨_|_,_⟩<;>kernel_rfl)
abbrev ABa:Bc:=AJ0
abbrev AMi:Bc:=qn
def AQT:Qv:=⟨ABa,AMi,(ABa.un JP)⟩
def AWU:cQ:=⟨T,Ry (SP.l [Rw,uC,AFY,AM4]),CV [(1,[0,1,2,3,4,5,6,7,8,9]),(3,[0,1,2,3,4,5,6,7,8,9]),(10,[9,10])]⟩
def AOY:List (Lp AMi):=[]
theorem AXc(lK:Int->Int->Int->Option ND)(th:Int->Int->Option La)(xZ:AAi->Int->Int->Option Hz)(APt:Int->ACv->Int->Int->Bool->List Int->AAT->List Int->AAU->AAX->AAY->AAV->AAW->Option bw)(n:Nat)(ω:List Bool)(v:ABa.V):DB ⟨T,Ry [(139,⟨i139,AD_,i139.un lK⟩),(228,⟨i228,AEo,i228.un th⟩),(235,⟨AAd,AHm,AAd.un xZ⟩),(236,⟨i236,AP9,i236.un APt⟩)],CV [(1,[0,1,2,3,4,5,6,7,8,9]),(3,[0,1,2,3,4,5,6,7,8,9]),(10,[9,10])]⟩ AQT Tryz.f158 (M3 9 AOY n) ω v=ABa.un (fun(p1:ABX) (AF:Int) (AM:Int) (AG:Bool) (b1:AAN) (b2:AAT) (b3:AAN) (b4:AAU) (b5:AAX) (b6:AAY) (b7:AAV) (b8:AAW)=>
 (lK p1.2.1 0 (AW ((b5.length:Int)-1))).bind fun u2=>
 cond (!u2.1.1)
  (some ((2,()),(((),AF,(),(),(),AM,(),(),(),(),AG,()),b1,b2,b3,b4,b5,b6,b7,b8,())))
 (if(0:Int)<=p1.2.1/\p1.2.1<(b5.length:Int)then(
 (lK p1.2.2.1 1 (((b5.getD (p1.2.1.toNat) (0,[],())).2.1).length:Int)).bind fun u4=>
 cond (!u4.1.1)
  (some ((2,()),(((),AF,(),(),(),AM,(),(),(),(),AG,()),b1,b2,b3,b4,b5,b6,b7,b8,())))
 ((xZ (b1,AF,b2,b3,b4,AM,b5,b6,b7,b8,AG,()) p1.2.2.2.1 ((b5.getD (p1.2.1.toNat) (0,[],())).1)).bind fun u6=>
 cond (u6.1.1 !=0)
  (some ((u6.1.1,()),(((),AF,(),(),(),AM,(),(),(),(),AG,()),b1,b2,b3,b4,b5,b6,b7,b8,())))
 ((th ((b5.getD (p1.2.1.toNat) (0,[],())).1) p1.2.2.1).bind fun u8=>
 if(0:Int)<=AW (p1.2.2.1-1)/\AW (p1.2.2.1-1)<(((b5.getD (p1.2.1.toNat) (0,[],())).2.1).length:Int)then(
 (APt p1.2.2.2.1 (u8.1.1.1,0,false,((((b5.getD (p1.2.1.toNat) (0,[],())).2.1).getD ((AW (p1.2.2.1-1)).toNat) ([],[],false,())).1),()) AF AM AG b1 b2 b3 b4 b5 b6 b7 b8).bind fun FE=>
 some ((FE.1.1,()),(((),FE.2.1.2.1,(),(),(),FE.2.1.2.2.2.2.2.1,(),(),(),(),FE.2.1.2.2.2.2.2.2.2.2.2.2.1,()),FE.2.2.1,FE.2.2.2.1,FE.2.2.2.2.1,FE.2.2.2.2.2.1,FE.2.2.2.2.2.2.1,FE.2.2.2.2.2.2.2.1,FE.2.2.2.2.2.2.2.2.1,FE.2.2.2.2.2.2.2.2.2.1,())))else none)))else none)) v:=by kernel_rfl
theorem AXm(n:Nat)(ω:List Bool)(v:ABa.V):DB AWU AQT Tryz.f158 (M3 9 AOY n) ω v=ABa.un (JP) v:=AXc Ay DP Dd L8 n ω v
def AUY:SQ:=mk Tryz.func158 ABa AMi JP [Rw,uC,AFY,AM4] [(1,[0,1,2,3,4,5,6,7,8,9]),(3,[0,1,2,3,4,5,6,7,8,9]),(10,[9,10])] AOY (hJ:= .nil) (he:=AXm AX)
def AXy:SQ:=mk Tryz.func367 ⟨[(0,.row Y1),(1,BB)],[]⟩ ET TH [] [] []
def AWg:SQ:=mk Tryz.func366 ⟨[(0,ZP),(1,BB),(2,.c (.fn 367 []))],[]⟩ lk CD [AXy] [] [⟨3,⟨[(0,ZP),(1,BB),(2,.c (.fn 367 [])),(8,BB),(9,BB),(10,BB)],[]⟩,Aw⟩]
def AQs:SQ:=mk Tryz.func326 AFJ lk S6 [AWg] [] []
def ATk:SQ:=AL3 (ρ:=Jl 359 0 380 381 99 173) (nm:= "slices.Insert[[]loop.example/g00178/impl.Entry,loop.example/g00178/impl.Entry]") (fv:=Tryz.f380) tOk (oG.ins ⟨by kernel_rfl,by kernel_rfl,by kernel_rfl,by kernel_rfl,by kernel_rfl,by kernel_rfl,by kernel_rfl,by kernel_rfl,by kernel_rfl,by kernel_rfl,by kernel_rfl,by kernel_rfl⟩ mx (by kernel_rfl) (by kernel_rfl) (by kernel_rfl) (by kernel_rfl) (by kernel_rfl) (by kernel_rfl) (by kernel_rfl)) (r:=Y1) rfl (by kernel_rfl) (by kernel_rfl) Dr (fun _=>rfl)
def AR0:SQ:=mk Tryz.func360 AKV AJe Rj [] [] []
def AN9:SQ:=mk Tryz.func318 ⟨[(0,qR),(1,.row Y1)],vf⟩ AJV Xy [AQs,ATk,AR0] [(4,[1])] []
def APa:SQ:=mk Tryz.func243 jz ACI Mn [s75,Rw,xU,AIV,AN9] [] [⟨6,⟨[(1,BB),(2,Ko),(4,cV),(6,ABu),(23,ZP),(24,BB),(25,BB)],[ANF,AH_,Mr,Mr,AK1,.sl 1 Y1,Mr]⟩,Jq⟩]
def AQI:SQ:=mk Tryz.func238 oe ACI Om [APa] [] []
abbrev xh:Bc:=jz
abbrev AFq:Bc:=AAO
def AGK:SQ:=mk Tryz.func258 xh AFq GL [xU,AQs] [] []
def AWa:SQ:=mk Tryz.func382 ET Bu cmp_isNaN_int [] [] []
def AXO:SQ:=mk Tryz.func361 nz Bu cmp_Less_int [AWa] [] []
def AWX:SQ:=mk Tryz.func362 ET Bu PL [] [] []
def AT3:SQ:=mk Tryz.func319 kt lk GC [AXO,AWX] [] [⟨3,⟨[(0,bt),(1,BB),(6,BB),(7,BB),(8,BB)],[]⟩,Dn⟩]
def ATp:SQ:=AL3 (ρ:=Jl 320 0 363 364 22 3) (nm:= "slices.Insert[[]int,int]") (fv:=Tryz.f363) tOk (oG.ins ⟨by kernel_rfl,by kernel_rfl,by kernel_rfl,by kernel_rfl,by kernel_rfl,by kernel_rfl,by kernel_rfl,by kernel_rfl,by kernel_rfl,by kernel_rfl,by kernel_rfl,by kernel_rfl⟩ mx (by kernel_rfl) (by kernel_rfl) (by kernel_rfl) (by kernel_rfl) (by kernel_rfl) (by kernel_rfl) (by kernel_rfl)) (r:=tI) rfl (by kernel_rfl) (by kernel_rfl) Jv (fun _=>rfl)
def AJI:SQ:=mk Tryz.func244 kt AGI Kz [s66,AT3,ATp] [] []
def AWq:SQ:=mk Tryz.func315 AJS AKI TA [s76,Rw,tc,ADT,AJI,ALX] [(6,[0,1,2,4])] []
def AV4:SQ:=mk Tryz.func241 ACn AJc NL [uC,AK9,AGK,AWq] [(6,[0,1,2,3,4,6,7,8,9])] [⟨1,AFC,Cz⟩]
abbrev AFr:Bc:=AJU
abbrev AOv:Bc:=AAO
def AN6:SQ:=mk Tryz.func254 AFr AOv JS [uC] [] [⟨5,⟨[(2,Ko),(4,cV),(6,BB),(33,ZP),(34,BB),(35,BB)],[ADX,ADL]⟩,KW⟩]
def AM1:SQ:=mk Tryz.func324 zP yz Ei [s77,ABs] [] []
abbrev AF2:Bc:=AKP
abbrev ALu:Bc:=AJo
def AQW:SQ:=mk Tryz.func316 AF2 ALu PY [s77,Rw,ABs,AJI,AM1] [(4,[0,1,2,3,4,6])] []
abbrev ABl:Bc:=ACn
abbrev AMo:Bc:=AJc
def AHa:Qv:=⟨ABl,AMo,(ABl.un K4)⟩
def ARI:cQ:=⟨T,Ry (SP.l [AN6,AGK,AQW]),CV [(4,[0,1,2,3,4,5,6,7,8,9]),(6,[0,1,2,3,4,5,7,8,9,10])]⟩
def AFI:List (Lp AMo):=[⟨1,AFC,BX⟩]
abbrev mE:Bc:=AFC
theorem AMG(AIH:AAu->Int->Option JN)(xV:ABR->Int->Option Ms)(AH7:AAb->AAu->Int->Int->Option YD)(n:Nat)(v:mE.V)(ω:List Bool):Ke ⟨T,Ry [(254,⟨AFr,AOv,AFr.un AIH⟩),(258,⟨xh,AFq,xh.un xV⟩),(316,⟨AF2,ALu,AF2.un AH7⟩)],CV [(4,[0,1,2,3,4,5,6,7,8,9]),(6,[0,1,2,3,4,5,7,8,9,10])]⟩ AHa Tryz.f242 (M3 9 AFI n) 1 ω (mE.st 81 v)=mE.un (fun(t1:Int) (t2:Int) (t6:Int) (AF:Int) (AM:Int) (AG:Bool) (b1:AAN) (b2:AAT) (b3:AAN) (b4:AAU) (b5:AAX) (b6:AAY) (b7:AAV) (b8:AAW)=>
 if(0:Int)<=t1/\t1<(b6.length:Int)then(
 cond (decide (t6<=(((b6.getD (t1.toNat) (0,0,[],[],false,[],())).2.2.2.2.2.1).length:Int)))
  (if(0:Int)<=t1/\t1<(b6.length:Int)then(
  (AIH ((b6.getD (t1.toNat) (0,0,[],[],false,[],())).1,(b6.getD (t1.toNat) (0,0,[],[],false,[],())).2.1,(b6.getD (t1.toNat) (0,0,[],[],false,[],())).2.2.1,(b6.getD (t1.toNat) (0,0,[],[],false,[],())).2.2.2.1,(b6.getD (t1.toNat) (0,0,[],[],false,[],())).2.2.2.2.1,(b6.getD (t1.toNat) (0,0,[],[],false,[],())).2.2.2.2.2.1,()) t6).bind fun u2=>
  if(0:Int)<=t2/\t2<(b2.length:Int)then(
  (xV ((b2.getD (t2.toNat) ([],[],0,())).1,(b2.getD (t2.toNat) ([],[],0,())).2.1,(b2.getD (t2.toNat) ([],[],0,())).2.2.1,()) u2.1.1.1.1).bind fun u3=>
  cond (u2.1.1.2.1)
   (cond (u3.1.1.2.1)
    (cond (((u3.1.1.1.1==u2.1.1.1.1)&&((u3.1.1.1.2.1==u2.1.1.1.2.1)&&((u3.1.1.1.2.2.1==u2.1.1.1.2.2.1)&&((u3.1.1.1.2.2.2.1==u2.1.1.1.2.2.2.1)&&true)))))
     (if(0:Int)<=t1/\t1<(b6.length:Int)then(
     (AH7 (b1,AF,()) ((b6.getD (t1.toNat) (0,0,[],[],false,[],())).1,(b6.getD (t1.toNat) (0,0,[],[],false,[],())).2.1,(b6.getD (t1.toNat) (0,0,[],[],false,[],())).2.2.1,(b6.getD (t1.toNat) (0,0,[],[],false,[],())).2.2.2.1,(b6.getD (t1.toNat) (0,0,[],[],false,[],())).2.2.2.2.1,(b6.getD (t1.toNat) (0,0,[],[],false,[],())).2.2.2.2.2.1,()) t6 t2).bind fun u5=>
     if(0:Int)<=t1/\t1<(b6.length:Int)then(
     (BX n) t1 t2 (AW (t6+1)) AF AM AG b1 b2 b3 b4 b5 (b6.set (t1.toNat) (u5.1.1.1.1,u5.1.1.1.2.1,u5.2.1,u5.2.2.1,u5.1.1.1.2.2.2.2.1,u5.2.2.2.1,())) b7 b8)else none)else none)
    ((BX n) t1 t2 (AW (t6+1)) AF AM AG b1 b2 b3 b4 b5 b6 b7 b8))
   ((BX n) t1 t2 (AW (t6+1)) AF AM AG b1 b2 b3 b4 b5 b6 b7 b8))
  ((BX n) t1 t2 (AW (t6+1)) AF AM AG b1 b2 b3 b4 b5 b6 b7 b8))else none)else none)
 (some (((()),()),(((),AF,(),(),(),AM,(),(),(),(),AG,()),b1,b2,b3,b4,b5,b6,b7,b8,()))))else none) v:=by rcases ω with _|⟨_|_,_⟩<;>kernel_rfl
theorem ALm(n:Nat)(v:mE.V)(ω:List Bool):Ke ARI AHa Tryz.f242 (M3 9 AFI n) 1 ω (mE.st 81 v)=mE.un (G3 (BX n)) v:=AMG JS GL PY n v ω
theorem AVm(AIH:AAu->Int->Option JN)(xV:ABR->Int->Option Ms)(AH7:AAb->AAu->Int->Int->Option YD)(n:Nat)(ω:List Bool)(v:ABl.V):DB ⟨T,Ry [(254,⟨AFr,AOv,AFr.un AIH⟩),(258,⟨xh,AFq,xh.un xV⟩),(316,⟨AF2,ALu,AF2.un AH7⟩)],CV [(4,[0,1,2,3,4,5,6,7,8,9]),(6,[0,1,2,3,4,5,7,8,9,10])]⟩ AHa Tryz.f242 (M3 9 AFI n) ω v=ABl.un (fun(p1:Int) (p2:Int) (AF:Int) (AM:Int) (AG:Bool) (b1:AAN) (b2:AAT) (b3:AAN) (b4:AAU) (b5:AAX) (b6:AAY) (b7:AAV) (b8:AAW)=>
 (BX n) p1 p2 1 AF AM AG b1 b2 b3 b4 b5 b6 b7 b8) v:=by kernel_rfl
theorem AUJ(n:Nat)(ω:List Bool)(v:ABl.V):DB ARI AHa Tryz.f242 (M3 9 AFI n) ω v=ABl.un (J3 (BX n)) v:=AVm JS GL PY n ω v
def AXb:SQ:=mk Tryz.func242 ABl AMo K4 [AN6,AGK,AQW] [(4,[0,1,2,3,4,5,6,7,8,9]),(6,[0,1,2,3,4,5,7,8,9,10])] AFI (hJ:= .cons (fun _=>rfl) ALm (.nil)) (he:=AUJ AX)
def AUX:SQ:=mk Tryz.func159 vu qn Qq [AGG,AQI,AA0,AIS,AV4,AXb] [(7,[0,1,3,4,5,6,7,8,11]),(11,[0,1,2,3,4,5,6,7,8,9,10]),(17,[0,1,2,3,4,5,6,7,8,9])] [⟨9,⟨[(0,Ko),(1,BB),(6,h_),(41,.c (.ref 5)),(42,BB),(43,BB)],[w9,DV,XT,DV,MO,UW,Tj,P7,Lq,.mem [.any,.any,.v tI]]⟩,Eg⟩,⟨15,⟨[(0,Ko),(1,BB),(72,.c (.ref 6)),(73,BB),(74,BB)],iQ⟩,FC⟩]
def AWG:SQ:=mk Tryz.func160 ACn qn PN [xt,AGG,APa] [(5,[0,1,3,4,5,6,7,8,11])] []
def AR5:SQ:=mk Tryz.func323 ⟨[(0,BB),(1,.c (.pT (.cons tI .unit)))],[]⟩ Bu MU [] [] []
def ALp:SQ:=mk Tryz.func351 ⟨[(0,bt),(1,AI0)],[]⟩ ET Du [AR5] [] [⟨2,⟨[(0,bt),(1,AI0),(7,BB),(8,BB)],[]⟩,B3⟩]
def AMp:SQ:=mk Tryz.func303 ⟨[(0,qR),(1,AI0)],[DV]⟩ AJv Ck [AR5,ALp] [] [⟨5,⟨[(0,qR),(1,AI0),(5,BB),(6,BB)],[DV]⟩,Bt⟩]
abbrev AOA:Bc:=kt
abbrev AS3:Bc:=AGI
def AIw:SQ:=mk Tryz.func248 AOA AS3 G_ [s66,AMp] [] []
def ATm:SQ:=mk Tryz.func245 AKJ AKI Nh [s76,ADT,AIw] [(8,[0,1,2,4])] [⟨5,⟨[(2,BB),(6,Ko),(8,AB3),(19,AJE),(20,BB),(21,BB)],[.mem [.v tI,.ref 1],.sl 9 Y5,.mem [.v tI,.ref 3],.sl 2 Y5]⟩,Hd⟩]
def AXP:SQ:=mk Tryz.func246 AJ_ AJo Qu [s77,ABs,AIw] [(7,[0,1,2,3,4,5,6])] [⟨5,⟨[(2,BB),(6,Ko),(8,ABu),(19,AIo),(20,BB),(21,BB)],[AQK,Ih,Mr,tT,ASO,Ih,Mr,.sl 2 (.sl tI)]⟩,Je⟩]
def AXN:SQ:=mk Tryz.func161 vu ⟨rr,[ANh,DV,XT,P4,MO,UW,Tj,P7,Lq,DV]⟩ QY [tc,AGG,AJI,ATm,AXP] [(9,[0,1,2,3,4,6,7,8,9,10]),(14,[0,1,2,3,4,5,7,8,9,10]),(16,[1,2,3,4,5,6,7,8,9])] [⟨7,⟨[(0,Ko),(1,BB),(35,.c (.ref 5)),(36,BB),(37,BB)],AJu⟩,HE⟩,⟨12,⟨[(0,Ko),(1,BB),(62,.c (.ref 6)),(63,BB),(64,BB)],AJu⟩,Gt⟩] (hJ:= .cons (fun _=>rfl) (fun n v ω=>by kernel_rfl) (.cons (fun _=>rfl) (fun n v ω=>by rcases ω with _|⟨_|_,_⟩<;>kernel_rfl) (.nil)))
def AVL:SQ:=mk Tryz.func321 oX Bu ZT [wW,tc] [] []
def AVI:SQ:=mk Tryz.func322 ⟨[(0,AAC)],[]⟩ ⟨AEI,vf⟩ iq [xU,AN9] [] [⟨3,⟨[(3,qR),(9,AAC),(10,BB),(11,BB)],vf⟩,M8⟩,⟨8,⟨[(3,qR),(9,AAC),(10,BB),(11,BB),(19,ZP),(20,BB),(21,BB)],vf⟩,M9⟩]
abbrev ANA:Bc:=AJg
abbrev AP8:Bc:=⟨ASX,[ZO,.sl 1 Y1,Mr]⟩
def APY:SQ:=mk Tryz.func247 ANA AP8 bc [xU,AA0,AVL,AVI] [] [⟨5,⟨[(2,bt),(4,BB),(10,cV),(12,.c (.ref 4)),(36,qR),(37,BB),(38,BB)],[ZO,AH_,Mr,Mr,ZO]⟩,TQ⟩]
abbrev i162:Bc:=vu
abbrev ANz:Bc:=⟨rr,[ANh,DV,ZO,P4,MO,UW,Tj,P7,Lq,DV]⟩
def c162:Qv:=⟨i162,ANz,(i162.un J9)⟩
def AXT:cQ:=⟨T,Ry (SP.l [Rw,AEK,APY,AIw]),CV [(3,[0,1,3,4,5,6,7,8]),(6,[0,1,3,4,5,6,7,8,9])]⟩
def AOJ:List (Lp ANz):=[]
theorem AWY(lK:Int->Int->Int->Option ND)(ABM:AAi->Int->Option LF)(ASS:AAb->List Int->Int->Int->AAT->Option V8)(AQw:List Int->Int->Option Yd)(n:Nat)(ω:List Bool)(v:i162.V):DB ⟨T,Ry [(139,⟨i139,AD_,i139.un lK⟩),(142,⟨ABD,AHX,ABD.un ABM⟩),(247,⟨ANA,AP8,ANA.un ASS⟩),(248,⟨AOA,AS3,AOA.un AQw⟩)],CV [(3,[0,1,3,4,5,6,7,8]),(6,[0,1,3,4,5,6,7,8,9])]⟩ c162 Tryz.f162 (M3 9 AOJ n) ω v=i162.un (fun(p1:Int) (AF:Int) (AM:Int) (AG:Bool) (b1:AAN) (b2:AAT) (b3:AAN) (b4:AAU) (b5:AAX) (b6:AAY) (b7:AAV) (b8:AAW)=>
 (lK p1 0 (AW ((b2.length:Int)-1))).bind fun u2=>
 cond (!u2.1.1)
  (some ((2,()),(((),AF,(),(),(),AM,(),(),(),(),AG,()),b1,b2,(),b4,b5,b6,b7,b8,b3,())))
 ((ABM (b1,AF,b2,b3,b4,AM,b5,b6,b7,b8,AG,()) p1).bind fun u3=>
 cond (!u3.1.1)
  (some ((2,()),(((),AF,(),(),(),AM,(),(),(),(),AG,()),b1,b2,(),b4,b5,b6,b7,b8,b3,())))
 (let x4:Int:=AW ((b4.length:Int)-1)
 (ASS (b1,AF,()) b3 p1 (if 0>x4 then 0 else x4) b2).bind fun u6=>
 cond (!u6.1.1.2.1)
  (some ((4,()),(((),AF,(),(),(),AM,(),(),(),(),AG,()),b1,u6.2.1,(),b4,b5,b6,b7,b8,b3,())))
 (if(0:Int)<=p1/\p1<(u6.2.1.length:Int)then(
 (AQw b3 p1).bind fun u8=>
 some ((0,()),(((),AF,(),(),(),AM,(),(),(),(),AG,()),b1,(u6.2.1.set (p1.toNat) (u6.2.2.1,u6.2.2.2.1,u6.1.1.1.2.2.1,())),(),b4,b5,b6,b7,b8,u8.2.1,())))else none)))) v:=by rcases ω with _|⟨_|_,_⟩<;>kernel_rfl
theorem AXu(n:Nat)(ω:List Bool)(v:i162.V):DB AXT c162 Tryz.f162 (M3 9 AOJ n) ω v=i162.un (J9) v:=AWY Ay C4 bc G_ n ω v
def AWo:SQ:=mk Tryz.func162 i162 ANz J9 [Rw,AEK,APY,AIw] [(3,[0,1,3,4,5,6,7,8]),(6,[0,1,3,4,5,6,7,8,9])] AOJ (hJ:= .nil) (he:=AXu AX)
def AT9:SQ:=mk Tryz.func249 nz yz kg [] [] []
def AWF:SQ:=mk Tryz.func163 AFs ⟨rr,[.mem [.ref 1,.v tI,.ref 2,.ref 3,.ref 4,.v tI,.ref 5,.ref 9,.ref 7,.ref 8,.v .bool],DV,XT,DV,MO,UW,P4,P7,Lq,Tj]⟩ Qw [ALS,AT9] [(1,[0,1,2,3,4,5,6,7,8])] []
abbrev AGb:Bc:=jz
abbrev AOI:Bc:=ACI
def ARy:SQ:=mk Tryz.func250 AGb AOI OZ [Rw,AQI,AIV] [] []
abbrev AHF:Bc:=jz
abbrev AMO:Bc:=AAG
def APV:SQ:=mk Tryz.func252 AHF AMO QJ [qu,xU] [] [⟨5,⟨[(1,BB),(5,qR),(14,ZP),(15,BB),(16,BB)],[Mr]⟩,LU⟩]
abbrev AE9:Bc:=AJf
abbrev AOm:Bc:=⟨AOt,[DV,.sl 1 Y1,tT]⟩
def AQj:SQ:=mk Tryz.func251 AE9 AOm QL [s77,qu,ABs,AJI,AN9,AM1] [(8,[0,1,2,3,4,5,6,7,8,9,10])] [⟨6,⟨[(4,Ko),(5,cV),(8,AB3),(10,.c (.ptr 6 0)),(31,ZP),(32,BB),(33,BB)],[zn,ADX,ASp,Ih,Mr,tT,ARi,DV,.sl 1 Y1,tT]⟩,LQ⟩]
end
end Go.Proofs.YtbjkhapllnkhfaaGreatDoor.Wk
