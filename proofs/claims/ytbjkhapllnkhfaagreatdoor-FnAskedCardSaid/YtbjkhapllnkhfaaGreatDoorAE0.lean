/- Each function computes what was printed: by the kernel. -/
import Derived.Test.YtbjkhapllnkhfaaGreatDoorAG1
import Derived.Test.YtbjkhapllnkhfaaGreatDoorProg
import Derived.KernelRfl
import Derived.Shelf.Strconv.AtoiAll
import Derived.Lib.AtoiOr
import Derived.Lib.AtoiErrMem
import Derived.Lib.AtoiAllCases
import Derived.WalkKit
import Derived.BigCall
set_option linter.unusedVariables false
set_option linter.unusedSimpArgs false
set_option linter.unusedSectionVars false
namespace Go.Proofs.YtbjkhapllnkhfaaGreatDoor.Wk
open Go Go.Fw Go.M Go.Proofs
noncomputable section
abbrev tI:Ty:= .int .i64
abbrev tU:Ty:= .int .u8
abbrev Y0:Ty:=(.cons (.sl tI) (.cons tI .unit))
abbrev Y1:Ty:=(.cons tI (.cons tI (.cons .bool (.cons .str .unit))))
abbrev Y2:Ty:=(.cons (.sl Y1) (.cons (.sl Y1) (.cons tI .unit)))
abbrev Y3:Ty:=(.cons (.sl tI) (.cons .bool (.cons tI .unit)))
abbrev Y4:Ty:=(.cons (.sl Y3) (.cons tI .unit))
abbrev Y5:Ty:=(.cons .str (.cons (.sl tI) (.cons .bool .unit)))
abbrev Y6:Ty:=(.cons tI (.cons (.sl Y5) .unit))
abbrev Y7:Ty:=(.cons tI (.cons tI (.cons (.sl tI) (.cons (.sl Y1) (.cons .bool (.cons (.sl (.sl tI)) .unit))))))
abbrev Y8:Ty:=(.cons tI (.cons tI (.cons .str .unit)))
abbrev Y9:Ty:=(.cons tI (.cons tI (.cons (.sl Y8) .unit)))
abbrev Y10:Ty:=(.cons tI (.cons .str (.cons .bool .unit)))
abbrev Y11:Ty:=(.cons (.sl tI) (.cons tI (.cons (.sl Y2) (.cons (.sl tI) (.cons (.sl Y3) (.cons tI (.cons (.sl Y6) (.cons (.sl Y7) (.cons (.sl Y9) (.cons (.sl Y10) (.cons .bool .unit)))))))))))
abbrev Y12:Ty:=(.cons tI (.cons tI (.cons tI (.cons tI (.cons .str .unit)))))
abbrev Y13:Ty:=(.cons (.sl tU) (.cons tI (.cons tI .unit)))
abbrev Y14:Ty:=(.cons tI (.cons .bool (.cons tI (.cons tI (.cons .bool (.cons .str .unit))))))
def T:Ky:=[(3,⟨1,8,.int .i64,some tI⟩),
 (4,⟨1,1,.bool,some .bool⟩),
 (5,⟨1,1,.int .u8,some tU⟩),
 (9,⟨1,16,.str,some .str⟩),
 (22,⟨1,24,.sl 3,some (.sl tI)⟩),
 (28,⟨2,32,.st [(0,22),(1,3)],some Y0⟩),
 (32,⟨1,24,.sl 5,some (.sl tU)⟩),
 (36,⟨1,24,.sl 101,some (.sl Y2)⟩),
 (37,⟨1,24,.sl 156,some (.sl Y3)⟩),
 (39,⟨2,32,.st [(0,37),(1,3)],some Y4⟩),
 (40,⟨1,24,.sl 105,some (.sl Y6)⟩),
 (41,⟨1,24,.sl 109,some (.sl Y7)⟩),
 (42,⟨1,24,.sl 56,some (.sl Y9)⟩),
 (43,⟨1,24,.sl 129,some (.sl Y10)⟩),
 (45,⟨11,216,.st [(0,28),(2,36),(3,22),(4,39),(6,40),(7,41),(8,42),(9,43),(10,4)],some Y11⟩),
 (54,⟨1,24,.sl 59,some (.sl Y8)⟩),
 (56,⟨3,40,.st [(0,3),(1,3),(2,54)],some Y9⟩),
 (59,⟨3,32,.st [(0,3),(1,3),(2,9)],some Y8⟩),
 (61,⟨1,24,.sl 9,some (.sl .str)⟩),
 (64,⟨1,8,.ptr 88,none⟩),
 (76,⟨5,48,.st [(0,3),(1,3),(2,3),(3,3),(4,9)],some Y12⟩),
 (88,⟨3,40,.st [(0,32),(1,3),(2,3)],some Y13⟩),
 (99,⟨1,24,.sl 173,some (.sl Y1)⟩),
 (101,⟨3,56,.st [(0,99),(1,99),(2,3)],some Y2⟩),
 (103,⟨1,24,.sl 161,some (.sl Y5)⟩),
 (105,⟨2,32,.st [(0,3),(1,103)],some Y6⟩),
 (107,⟨1,24,.sl 22,some (.sl (.sl tI))⟩),
 (109,⟨6,96,.st [(0,3),(1,3),(2,22),(3,99),(4,4),(5,107)],some Y7⟩),
 (119,⟨1,24,.sl 76,some (.sl Y12)⟩),
 (129,⟨3,32,.st [(0,3),(1,9),(2,4)],some Y10⟩),
 (144,⟨1,8,.other,none⟩),
 (152,⟨1,8,.int .u64,some (.int .u64)⟩),
 (154,⟨1,8,.ptr 45,none⟩),
 (156,⟨3,40,.st [(0,22),(1,4),(2,3)],some Y3⟩),
 (161,⟨3,48,.st [(0,9),(1,22),(2,4)],some Y5⟩),
 (162,⟨1,8,.ptr 76,none⟩),
 (173,⟨4,40,.st [(0,3),(1,3),(2,4),(3,9)],some Y1⟩),
 (182,⟨1,8,.other,none⟩),
 (222,⟨1,24,.sl 225,some (.sl Y14)⟩),
 (225,⟨6,56,.st [(0,3),(1,4),(2,173)],some Y14⟩),
 (239,⟨1,24,.sl 4,some (.sl .bool)⟩),
 (245,⟨1,8,.other,none⟩),
 (293,⟨1,8,.other,none⟩),
 (294,⟨1,8,.ptr 56,none⟩)]
theorem tOk:E_ Tryz.prog T:=wD (by kernel_rfl)
theorem mx:Tryz.prog.follows .mixedOrders=true:=by kernel_rfl
abbrev SQ:=SP Tryz.prog
def mk{f:Nat}{fn:Func}(hf:Tryz.prog.funcs[f]? =some fn)(i o:BK)(g:i.Cu (Option o.V))(l:List SQ)(h:List AIa)(L:List (Lp o))
  (hJ:bG ⟨T,UE (SP.l l),Cn h⟩ ⟨i,o,i.un g⟩ fn (Nz i.Hg.length L) L:=by
   repeat refine bG.cons (fun _=>rfl) (fun _ _ _=>by kernel_rfl) ?_
   exact bG.nil)
  (he:∀ω v,DR ⟨T,UE (SP.l l),Cn h⟩ ⟨i,o,i.un g⟩ fn (Nz i.Hg.length L AU) ω v=i.un g v:=by intro ω v;kernel_rfl)
  (hL:o3 fn=Lp.ls L:=by kernel_rfl) (hd:decide (Lp.ls L).Nodup=true:=by kernel_rfl) (hc:pI fn ⟨i,o,i.un g⟩=true:=by kernel_rfl):SQ:=
 mkP tOk mx hf i o g l h L AU hL hd hc hJ he
abbrev xP0:XP:= .c (.v .bool)
abbrev IV:XP:= .c (.ptr 0 0)
abbrev BD:XP:= .c (.v tI)
abbrev VN:XP:= .c (.ptr 1 0)
abbrev xP4:XP:= .c (.ptr 3 0)
abbrev zL:XP:= .row Y0
abbrev fY:XP:= .c (.sl false tI)
abbrev xP7:XP:= .c (.ref 1)
abbrev wT:XP:= .c (.ref 0)
abbrev xP9:XP:= .c (.ref 2)
abbrev ADr:XP:= .row Y11
abbrev rS:XP:= .c (.ptr 2 0)
abbrev AXT:XP:= .c (.sl false .str)
abbrev ij:XP:= .c (.v .str)
abbrev dB:XP:= .c (.sl false Y1)
abbrev AQX:XP:= .agg [.ref 0,.v tI,.ref 1,.ref 2,.ref 3,.v tI,.ref 4,.ref 5,.ref 6,.ref 7,.v .bool]
abbrev jw:XP:= .c (.ptr 10 0)
abbrev nW:XP:= .c (.ptr 8 0)
abbrev mI:XP:= .c (.ptr 9 0)
abbrev vD:XP:= .c (.ptr 18 0)
abbrev uR:XP:= .c (.ptr 4 0)
abbrev sE:XP:= .c (.ptr 19 0)
abbrev AC1:XP:= .c (.sl false Y2)
abbrev AHj:XP:= .c (.ptr 6 0)
abbrev yc:XP:= .c (.sl false Y14)
abbrev AMg:XP:= .c (.yP 304 [(.cons (.sl tI) .unit)])
abbrev ADh:XP:= .c (.uT Y11)
abbrev ANI:XP:= .c (.sl false Y5)
abbrev AMi:XP:= .c (.sl false (.sl tI))
abbrev xK:XP:= .c (.sl false Y9)
abbrev AHM:XP:= .c (.sl false Y10)
abbrev AAi:XP:= .c (.sl false Y8)
abbrev AN1:XP:= .c (.yP 323 [(.cons tI .unit)])
abbrev AN4:XP:= .c (.yP 332 [(.cons tI .unit)])
abbrev aj:BP:= .mem [.sl true tU,.v tI,.v tI]
abbrev GW:BP:= .sl 9 tI
abbrev ARm:BP:= .mem [.ref 2,.v tI]
abbrev ARi:BP:= .mem [.ref 4,.v tI]
abbrev uH:BP:= .mem [.sl false tI,.v tI]
abbrev jr:BP:= .sl 9 Y2
abbrev UN:BP:= .sl 9 Y3
abbrev jk:BP:= .sl 9 Y6
abbrev jj:BP:= .sl 9 Y7
abbrev jn:BP:= .sl 9 Y9
abbrev iH:BP:= .sl 9 Y10
abbrev AQh:BP:= .mem [.sl false Y3,.v tI]
abbrev AE5:BP:= .mem [.sl false tI,.v tI,.sl false Y2,.sl false tI,.sl false Y3,.v tI,.sl false Y6,.sl false Y7,.sl false Y9,.sl false Y10,.v .bool]
abbrev vF:BP:= .mem [.v tI,.v tI,.v tI,.v tI,.v .str]
abbrev AFM:BP:= .mem [.v tI,.v tI,.sl false tI,.sl false Y1,.v .bool,.sl false (.sl tI)]
abbrev ANK:BP:= .mem [.v tI,.sl false Y5]
abbrev KT:BP:= .sl 9 Y1
abbrev qu:BP:= .sl 9 Y5
abbrev qD:BP:= .sl 9 (.sl tI)
abbrev ARf:BP:= .mem [.ref 2,.v tI,.ref 3,.ref 4,.ref 5,.v tI,.ref 6,.ref 7,.ref 8,.ref 9,.v .bool]
abbrev AOB:BP:= .mem [.ref 11,.v tI,.ref 12,.ref 13,.ref 14,.v tI,.ref 15,.ref 16,.ref 17,.ref 18,.v .bool]
abbrev DX:BP:= .sl 1 tI
abbrev av:BP:= .sl 2 Y2
abbrev N8:BP:= .sl 2 Y3
abbrev Xz:BP:= .sl 3 Y6
abbrev Vz:BP:= .sl 3 Y7
abbrev Px:BP:= .sl 2 Y9
abbrev Lv:BP:= .sl 1 Y10
abbrev Je:BP:= .gone
abbrev zD:BP:= .mem [.ref 0,.v tI,.ref 1,.ref 2,.ref 3,.v tI,.ref 4,.ref 5,.ref 6,.ref 7,.v .bool]
abbrev ABN:BP:= .mem [.ref 10,.v tI,.ref 11,.ref 12,.ref 13,.v tI,.ref 14,.ref 15,.ref 16,.ref 17,.v .bool]
abbrev AT2:BP:= .mem [.v tI,.v .str,.v .bool]
abbrev AIP:BP:= .mem [.v tI,.v tI,.v .bool,.v .str]
abbrev ASF:BP:= .mem [.sl false Y1,.sl false Y1,.v tI]
abbrev ALQ:BP:= .mem [.ref 2,.ref 3,.v tI]
abbrev ANb:BP:= .mem [.ref 5,.ref 6,.v tI]
abbrev aP:BP:= .sl 1 Y2
abbrev mJ:BP:= .sl 1 Y6
abbrev yu:BP:= .sl 1 Y7
abbrev AE1:BP:= .mem [.sl true Y1,.sl true Y1,.v tI]
abbrev ARx:BP:= .mem [.v tI,.ref 3]
abbrev AWY:BP:= .mem [.v tI,.v tI,.ref 1,.ref 2,.v .bool,.ref 3]
abbrev AXQ:BP:= .mem [.v tI,.v tI,.ref 5,.ref 6,.v .bool,.ref 7]
abbrev ARo:BP:= .mem [.v tI,.v tI,.ref 3,.ref 4,.v .bool,.ref 5]
abbrev AQ1:BP:= .mem [.v tI,.v tI,.ref 7,.ref 8,.v .bool,.ref 9]
abbrev AHR:BP:= .mem [.v tI,.v tI,.sl false Y8]
abbrev AHw:BP:= .mem [.ref 1,.v tI,.ref 2,.ref 3,.ref 4,.v tI,.ref 5,.ref 6,.ref 7,.ref 8,.v .bool]
abbrev ARK:BP:= .mem [.ref 1,.v tI,.ref 2,.ref 9,.ref 4,.v tI,.ref 5,.ref 6,.ref 7,.ref 8,.v .bool]
abbrev u_:List (Nat×XP):=[(0,BD)]
abbrev APy:List (Nat×XP):=[(0,.agg [.ref 1,.v tI])]
abbrev ANz:List (Nat×XP):=[(1,IV),(3,BD)]
abbrev AHP:List (Nat×XP):=[(0,wT)]
abbrev ALr:List (Nat×XP):=[(0,xP7)]
abbrev AUe:List (Nat×XP):=[(0,.agg [.v tI,.v tI,.v tI,.v tI,.v .str])]
abbrev AV2:List (Nat×XP):=[(2,IV),(3,VN),(5,BD),(6,BD)]
abbrev AXG:List (Nat×XP):=[(2,IV),(3,VN),(5,BD)]
abbrev AWO:List (Nat×XP):=[(1,IV),(3,BD),(4,BD)]
abbrev AV4:List (Nat×XP):=[(1,IV),(2,VN),(3,xP4),(4,BD)]
abbrev ARN:List (Nat×XP):=[(0,AQX)]
abbrev AU3:List (Nat×XP):=[(0,.NM [.inr [.ref 0,.ref 1,.v tI],.inl (.v .bool)])]
abbrev AP6:List (Nat×XP):=[(0,.NM [.inr [.ref 0,.v tI,.ref 1,.ref 2,.ref 3,.v tI,.ref 4,.ref 5,.ref 6,.ref 7,.v .bool],.inl (.v tI)])]
abbrev AVR:List (Nat×XP):=[(0,.agg [.v tI,.v tI,.v .bool,.v .str])]
abbrev AXC:List (Nat×XP):=[(0,.NM [.inr [.v tI,.ref 0],.inl (.v .bool)])]
abbrev AS4:List (Nat×XP):=[(0,.NM [.inr [.v tI,.v tI,.ref 0,.ref 1,.v .bool,.ref 2],.inl (.v .bool)])]
abbrev AWM:List (Nat×XP):=[(0,.NM [.inr [.ref 0,.v tI,.ref 1,.ref 8,.ref 3,.v tI,.ref 4,.ref 5,.ref 6,.ref 7,.v .bool],.inl (.v tI)])]
abbrev AUw:List (Nat×XP):=[(0,.NM [.inr [.ref 1,.ref 2,.v tI],.inl (.v .bool)])]
abbrev AOc:List (Nat×XP):=[(0,.NM [.inr [.v tI,.v tI,.ref 0],.inl (.v tI)])]
abbrev AOS:List (Nat×XP):=[(0,IV),(3,VN),(4,rS),(5,uR),(6,BD)]
abbrev AKY:List (Nat×XP):=[(0,.NM [.inr [.ref 0,.v tI,.ref 1,.ref 2,.ref 3,.v tI,.ref 4,.ref 5,.ref 6,.ref 7,.v .bool],.inl (.v .str)])]
abbrev AOf:List (Nat×XP):=[(0,IV),(1,BD),(2,BD)]
abbrev gT:List BP:=[aj]
abbrev APc:List BP:=[aj,GW]
abbrev AKN:List BP:=[uH]
abbrev APj:List BP:=[GW,jr,GW,UN,jk,jj,jn,iH]
abbrev p8:List BP:=[GW]
abbrev AO6:List BP:=[aj,uH,GW]
abbrev jg:List BP:=[AE5]
abbrev AOY:List BP:=[uH,AQh]
abbrev APh:List BP:=[uH,ANK]
abbrev AKM:List BP:=[uH,AFM]
abbrev AOb:List BP:=[GW,KT,qD]
abbrev AJC:List BP:=[AFM,.mem [.v tI,.v tI,.ref 2,.ref 3,.v .bool,.ref 4],GW,KT,qD,.mem [.v tI,.v tI,.ref 6,.ref 7,.v .bool,.ref 8],GW,KT,qD]
abbrev jZ:List BP:=[AE5,ARf,GW,jr,GW,UN,jk,jj,jn,iH,AOB,GW,jr,GW,UN,jk,jj,jn,iH]
abbrev AKP:List BP:=[DX,av,DX,N8,Xz,Vz,Px,Lv]
abbrev AI8:List BP:=[DX,aP,DX,N8,mJ,yu,Px,Lv]
abbrev AGs:List BP:=[DX,aP,DX,N8,mJ,Vz,Px,Lv,zD,ABN,GW,jr,GW,UN,jk,jj,jn,iH,AE1,.mem [.v tI,.sl true Y5]]
abbrev APe:List BP:=[.mem [.v tI,.ref 1],qu,ARx,qu]
abbrev APV:List BP:=[AWY,GW,KT,qD,AXQ,GW,KT,qD]
abbrev AOl:List BP:=[DX,av,DX,N8,Xz,Vz,Px,Lv,.mem [.ref 0,.v tI,.ref 1,.ref 9,.ref 3,.v tI,.ref 4,.ref 5,.ref 6,.ref 7,.v .bool],GW,vF,.mem [.ref 12,.v tI,.ref 13,.ref 14,.ref 15,.v tI,.ref 16,.ref 17,.ref 18,.ref 19,.v .bool],GW,jr,GW,UN,jk,jj,jn,iH]
abbrev APH:List BP:=[aP,ALQ,KT,KT,ANb,KT,KT,aP]
abbrev AJv:List BP:=[uH,GW]
abbrev APE:List BP:=[aj,ARf,GW,jr,GW,UN,jk,jj,jn,iH,AOB,GW,jr,GW,UN,jk,jj,jn,iH,.mem [.ref 20,.v tI],GW,GW]
abbrev AGz:List BP:=[aj,ALQ,KT,KT,ANb,KT,KT]
abbrev AGu:List BP:=[aj,uH,ARo,GW,KT,qD,AQ1,GW,KT,qD]
abbrev AJd:List BP:=[vF]
abbrev APb:List BP:=[vF,vF,.sl 9 tU]
abbrev mL:List BP:=[AHw,DX,av,DX,N8,Xz,Vz,Px,Lv]
abbrev zg:List BP:=[.sl 1 Y1]
abbrev AOQ:List BP:=[ARK,DX,av,DX,N8,Xz,Vz,Px,Lv,DX]
abbrev AOn:List BP:=[.mem [.v tI,.v tI,.ref 1],.sl 1 Y8]
abbrev AON:List BP:=[AHw,DX,av,DX,N8,Xz,Vz,.sl 1 Y9,Lv]
abbrev APD:List BP:=[DX,aP,DX,N8,Xz,.sl 2 Y7,.sl 1 Y9,Lv]
abbrev Bv:BK:=⟨[(0,xP0)],[]⟩
abbrev AJr:BK:=⟨[(0,.c (.sl true tU))],[]⟩
abbrev mc:BK:=⟨[(0,IV)],gT⟩
abbrev Ex:BK:=⟨u_,[]⟩
abbrev AG5:BK:=⟨u_,gT⟩
abbrev AJk:BK:=⟨[(0,IV),(1,BD)],gT⟩
abbrev AOi:BK:=⟨APy,APc⟩
abbrev AOj:BK:=⟨[(0,BD),(1,BD),(2,BD)],[]⟩
abbrev AGR:BK:=⟨[(0,zL)],[]⟩
abbrev tC:BK:=⟨[(0,zL),(1,fY)],[]⟩
abbrev AGI:BK:=⟨[(0,.agg [.v tI,.v tI,.ref 0])],[.sl 9 Y8]⟩
abbrev tP:BK:=⟨[(0,BD),(1,BD)],[]⟩
abbrev tK:BK:=⟨[(0,fY),(1,BD)],[]⟩
abbrev jG:BK:=⟨AHP,p8⟩
abbrev tE:BK:=⟨[(0,IV),(1,zL)],gT⟩
abbrev APK:BK:=⟨ALr,APc⟩
abbrev AGU:BK:=⟨[(0,.row Y4)],[]⟩
abbrev APL:BK:=⟨[(0,.row Y4),(1,BD)],[]⟩
abbrev AHB:BK:=⟨[(0,IV),(1,ADr)],gT⟩
abbrev AJw:BK:=⟨AUe,gT⟩
abbrev AIy:BK:=⟨[(0,ij)],gT⟩
abbrev AK4:BK:=⟨[(0,dB),(1,BD)],[]⟩
abbrev AGx:BK:=⟨[(0,dB)],[]⟩
abbrev si:BK:=⟨[(0,.row Y2)],[]⟩
abbrev Va:BK:=⟨[(0,ADr)],[]⟩
abbrev ADM:BK:=⟨ANz,jg⟩
abbrev AIo:BK:=⟨[(0,zL),(1,.row Y4)],[]⟩
abbrev AJT:BK:=⟨[(0,zL),(1,.row Y6)],[]⟩
abbrev ACH:BK:=⟨[(0,.row Y7)],[]⟩
abbrev zZ:BK:=⟨[(0,zL),(1,.row Y7)],[]⟩
abbrev APA:BK:=⟨AXG,AKM⟩
abbrev APS:BK:=⟨AWO,jg⟩
abbrev zj:BK:=⟨[(0,.row Y9)],[]⟩
abbrev zk:BK:=⟨[(0,.row Y12)],[]⟩
abbrev AOa:BK:=⟨AUe,[]⟩
abbrev AKQ:BK:=⟨[(0,.agg [.ref 0,.v tI])],[UN]⟩
abbrev AKv:BK:=⟨[(0,.agg [.ref 0,.ref 1,.v tI])],[KT,KT]⟩
abbrev AGJ:BK:=⟨[(0,.row Y6)],[]⟩
abbrev AI2:BK:=⟨[(0,.agg [.v tI,.ref 0])],[qu]⟩
abbrev ACY:BK:=⟨[(0,.agg [.v tI,.v tI,.ref 0,.ref 1,.v .bool,.ref 2])],AOb⟩
abbrev APY:BK:=⟨ARN,APj⟩
abbrev APQ:BK:=⟨[(0,zL),(1,.row Y4),(2,fY)],[]⟩
abbrev APB:BK:=⟨[(0,.NM [.inr [.ref 0,.v tI],.inl (.v tI),.inl (.v .bool)])],[UN]⟩
abbrev jO:BK:=⟨[(0,AQX),(1,.row Y12)],AKP⟩
abbrev ACf:BK:=⟨[(0,ADr),(1,BD)],[]⟩
abbrev APG:BK:=⟨[(0,zL),(1,.row Y6),(2,ij)],[]⟩
abbrev AO8:BK:=⟨[(0,.NM [.inr [.v tI,.ref 0],.inl (.v tI),.inl (.v .bool)])],[qu]⟩
abbrev ALO:BK:=⟨[(0,.row Y2),(1,.row Y1)],[]⟩
abbrev zh:BK:=⟨AU3,[KT,KT]⟩
abbrev AAS:BK:=⟨AP6,AKP⟩
abbrev AOv:BK:=⟨[(0,.row Y1),(1,.row Y1)],[]⟩
abbrev AO5:BK:=⟨AVR,[]⟩
abbrev ACs:BK:=⟨AHP,[KT]⟩
abbrev ow:BK:=⟨[(0,.row Y2),(1,BD)],[]⟩
abbrev AOq:BK:=⟨[(1,BD),(2,IV),(4,VN),(6,uR),(7,BD)],[ASF,ALQ,KT,KT,ANb,KT,KT]⟩
abbrev ADL:BK:=⟨[(0,.NM [.inr [.v tI,.v tI,.v .bool,.v .str],.inl (.v .bool)])],[]⟩
abbrev APM:BK:=⟨[(0,zL),(1,.row Y6),(2,BD),(3,BD)],[]⟩
abbrev AOZ:BK:=⟨AXC,[qu]⟩
abbrev om:BK:=⟨[(0,.NM [.inl (.v tI),.inl (.v .bool)])],[]⟩
abbrev AOF:BK:=⟨[(0,.row Y7),(1,BD)],[]⟩
abbrev AOk:BK:=⟨[(0,zL),(1,.row Y7),(2,BD),(3,BD)],[]⟩
abbrev ACA:BK:=⟨AS4,AOb⟩
abbrev AOH:BK:=⟨AP6,AI8⟩
abbrev AGC:BK:=⟨[(0,fY),(1,fY)],[]⟩
abbrev AOM:BK:=⟨[(0,zL),(1,.row Y6),(2,BD)],[]⟩
abbrev APO:BK:=⟨[(0,zL),(1,.row Y7),(2,BD)],[]⟩
abbrev AOo:BK:=⟨[(0,zL),(1,wT),(2,fY),(3,BD),(4,BD)],[av]⟩
abbrev AJM:BK:=⟨ARN,AKP⟩
abbrev APi:BK:=⟨[(0,zL),(1,.row Y7),(2,BD),(3,dB)],[]⟩
abbrev AIw:BK:=⟨[(0,zL),(1,fY),(2,fY)],[]⟩
abbrev AOp:BK:=⟨[(0,zL),(1,.row Y7),(2,fY)],[]⟩
abbrev AOe:BK:=⟨[(0,zL),(1,.row Y4),(2,BD),(3,BD)],[]⟩
abbrev AGX:BK:=⟨[(0,.NM [.inr [.ref 0,.v tI],.inl (.v .bool)])],[UN]⟩
abbrev AO4:BK:=⟨[(0,zL),(1,.row Y4),(2,BD)],[]⟩
abbrev AOr:BK:=⟨[(0,zL),(1,.row Y4),(2,BD),(3,.row Y9),(4,yc)],[]⟩
abbrev AO2:BK:=⟨[(0,ADr),(1,.row Y12)],[]⟩
abbrev AW4:BK:=⟨[(0,IV),(4,VN),(6,jw),(10,sE),(12,.c (.ptr 28 0)),(13,.c (.ref 37)),(14,BD),(15,BD)],[aj,ARf,GW,jr,GW,UN,jk,jj,jn,iH,AOB,GW,jr,GW,UN,jk,jj,jn,iH,.mem [.ref 20,.v tI,.ref 21,.ref 22,.ref 23,.v tI,.ref 24,.ref 25,.ref 26,.ref 27,.v .bool],Je,Je,Je,Je,Je,Je,Je,Je,.mem [.ref 29,.v tI,.ref 30,.ref 31,.ref 32,.v tI,.ref 33,.ref 34,.ref 35,.ref 36,.v .bool],DX,aP,DX,N8,mJ,yu,Px,Lv,.sl 9 Y12]⟩
abbrev APZ:BK:=⟨AVR,gT⟩
abbrev AOs:BK:=⟨[(0,.agg [.ref 1,.ref 2,.v tI])],[aj,KT,KT]⟩
abbrev APW:BK:=⟨[(0,.agg [.v tI,.v tI,.ref 1,.ref 2,.v .bool,.ref 3])],[aj,GW,KT,qD]⟩
abbrev cR:BK:=⟨[(0,ij)],[]⟩
abbrev zp:BK:=⟨[(0,.NM [.inl (.v .str),.inl (.v .bool)])],[]⟩
abbrev AOz:BK:=⟨ALr,[Je,DX]⟩
abbrev ALS:BK:=⟨AHP,[DX]⟩
abbrev AGy:BK:=⟨[(0,ADh),(1,BD)],[]⟩
abbrev ADQ:BK:=⟨[(0,ADh)],[]⟩
abbrev AF9:BK:=⟨[(0,.row Y8)],[]⟩
abbrev AOT:BK:=⟨[(1,IV),(10,xK),(11,BD),(12,BD)],jg⟩
abbrev AJp:BK:=⟨[(0,.row Y9),(1,BD)],[]⟩
abbrev Ade:BK:=⟨[(0,ij),(1,ij)],[]⟩
abbrev AUq:BK:=⟨[(0,ij),(1,BD)],[]⟩
abbrev AOy:BK:=⟨[(0,.NM [.inr [.v tI,.v tI,.v tI,.v tI,.v .str],.inl (.v .bool)])],[]⟩
abbrev AAD:BK:=⟨[(0,IV),(1,BD)],mL⟩
abbrev xc:BK:=⟨u_,mL⟩
abbrev AOI:BK:=⟨[(0,IV),(1,.row Y12)],mL⟩
abbrev AOL:BK:=⟨ALr,[Je,.sl 1 Y1]⟩
abbrev AGl:BK:=⟨AU3,[.sl 1 Y1,KT]⟩
abbrev AO1:BK:=⟨AXC,[.sl 2 Y5]⟩
abbrev AF_:BK:=⟨AOf,mL⟩
abbrev AOg:BK:=⟨[(0,.NM [])],mL⟩
abbrev AJi:BK:=⟨[(0,IV),(1,BD),(2,BD),(6,BD)],mL⟩
abbrev AOR:BK:=⟨AS4,[GW,KT,.sl 2 (.sl tI)]⟩
abbrev AI1:BK:=⟨[(0,IV)],mL⟩
abbrev AOm:BK:=⟨[(0,.NM [])],[.mem [.v tI,.v tI,.ref 2],Je,.sl 1 Y8]⟩
abbrev ALD:BK:=⟨[(0,ADr),(1,ij)],[]⟩
abbrev so:ABu:=[0,1,2,3,4,5,6,7,8,9]
abbrev hl1:ABu:=[0,1,2,3,4,5,6,7,8,9,10,11,12,13,14,15,16,17,18,19]
abbrev lx:ABu:=[0,1,2,3,4,5,6,7,8,9,10,11]
abbrev hl3:ABu:=[0,1,2,3,4,5,6,7,8]
abbrev hl4:ABu:=[0,1,2,3,4,5,6,7,8,9,11,13,14,15,16,17,18]
abbrev hl5:ABu:=[0,1,2,3,4,5,6,7,8,9,11,12,13,14,16,17,18]
abbrev hl6:ABu:=[0,1,2,3,4,5,6,7,8,9,11,12,13,14,15,17,18]
abbrev hl7:ABu:=[0,1,2,3,4,5,6,7,8,9,11,12,13,14,15,16,18]
abbrev hl8:ABu:=[1,2,3,4,5,6,7,8,9]
abbrev hl9:ABu:=[0,1,2,3,4,5,6,7,8,9,10]
abbrev AHr:ABu:=[0,1,2,3,4,5,6,7,8,9,10,11,12]
abbrev ALP:ABu:=[0,1,2,3,4,5,7,8,9,10]
abbrev AMN:ABu:=[0,1,2,3,4,5,6,8,9,10,11]
abbrev APq:ABu:=[1,11,12,14,15,16,17,18,19,20,21]
abbrev ASr:ABu:=[1,11,12,13,14,15,16,17,19,20,21]
abbrev ATD:ABu:=[1,11,12,13,14,15,17,18,19,20]
abbrev ARJ:ABu:=[1,11,12,13,14,15,16,18,19,20]
abbrev ATJ:ABu:=[1,11,12,13,14,15,16,17,18,20]
abbrev AN6:ABu:=[0,1,2,3,4,5,7,8,9]
abbrev AMu:ABu:=[0,1,3,4,5,6,7,8,9]
abbrev AMr:ABu:=[0,1,3,4,5,6,7,8]
abbrev AR4:ABu:=[0,1,3,4,5,7,8,9,13]
open Go.Shelf Go.RowKit
@[reducible] def AMe:Go.Shelf.Ren:=⟨(fun x=>match x with|171=>129|243=>211|246=>296|283=>345|284=>346|285=>347|286=>348|129=>372|317=>371|318=>373|319=>374|320=>375|337=>384|338=>385|n=>n),(fun x=>match x with|171=>266|53=>267|37=>32|173=>270|212=>297|51=>276|213=>298|46=>152|232=>316|233=>317|n=>n),(fun x=>match x with|17=>3|18=>6|19=>7|n=>n)⟩
theorem AAm:LaysM.n171 Tryz.prog AMe:=by
 repeat' first|kernel_rfl|(intro w;kernel_rfl)|constructor
@[reducible] def ARZ:Go.Shelf.Ren:=⟨(fun x=>match x with|145=>79|220=>152|219=>215|217=>298|225=>299|224=>300|267=>301|266=>349|314=>350|n=>n),(fun x=>match x with|59=>112|46=>152|146=>277|51=>276|n=>n),(fun x=>match x with|1=>0|n=>n)⟩
theorem ALE:Lays.n145 Tryz.prog ARZ:=by
 repeat' first|kernel_rfl|(intro w;kernel_rfl)|constructor
@[reducible] def AJG:Go.Shelf.Ren:=⟨(fun x=>match x with|109=>80|n=>n),(fun x=>match x with|31=>61|n=>n),(fun x=>match x with|n=>n)⟩
theorem ACQ:Lays.n109 Tryz.prog AJG:=by
 repeat' first|kernel_rfl|(intro w;kernel_rfl)|constructor
@[reducible] def AMF:Go.Shelf.Ren:=⟨(fun x=>match x with|101=>227|208=>307|206=>357|n=>n),(fun x=>match x with|n=>n),(fun x=>match x with|n=>n)⟩
theorem AF5:Lays.n101 Tryz.prog AMF:=by
 repeat' first|kernel_rfl|(intro w;kernel_rfl)|constructor
@[reducible] def ADw:Go.Shelf.Ren:=⟨(fun x=>match x with|144=>229|143=>132|219=>215|217=>298|225=>299|224=>300|267=>301|266=>349|314=>350|n=>n),(fun x=>match x with|46=>152|146=>277|51=>276|n=>n),(fun x=>match x with|1=>0|n=>n)⟩
theorem tO:Lays.n144 Tryz.prog ADw:=by
 repeat' first|kernel_rfl|(intro w;kernel_rfl)|constructor
@[reducible] def AMk:Go.Shelf.Ren:=⟨(fun x=>match x with|172=>226|244=>305|245=>306|247=>352|279=>353|280=>354|281=>355|282=>356|287=>376|316=>377|171=>129|205=>378|321=>386|322=>387|243=>211|246=>296|283=>345|284=>346|285=>347|286=>348|129=>372|317=>371|318=>373|319=>374|320=>375|337=>384|338=>385|n=>n),(fun x=>match x with|75=>192|76=>193|167=>280|37=>32|85=>281|168=>283|53=>267|175=>300|46=>152|210=>304|127=>311|145=>314|143=>312|171=>266|173=>270|212=>297|51=>276|213=>298|232=>316|233=>317|80=>319|n=>n),(fun x=>match x with|15=>4|16=>5|17=>3|18=>6|19=>7|n=>n)⟩
theorem ABi:LaysC.n172 Tryz.prog AMk:=by
 repeat' first|kernel_rfl|(intro w;kernel_rfl)|constructor
theorem AFb:Tryz.prog.globalNamed "internal/strconv.uint64pow10" =some AHm:=by kernel_rfl
theorem AOG:∀w,GI w->Go.Lib.TabIs Tryz.prog w "internal/strconv.uint64pow10" .u64 Go.Lib.pow10Tab:=fun w h=>h.tab AFb
theorem AOO:∀w,GI w-> ∃m,w.cell? ⟨AMT,0,none⟩=some (.int .i64 m):=fun w h=>h.2.1
theorem maxOf{w:World}(h:w.ShapedOpen Tryz.prog):∃m,w.cell? ⟨AMT,0,none⟩=some (.int .i64 m):=
 cell_of_shapedOpen_int (t:=3) (zero:= #[.int .i64 0]) h (of_decide_eq_true (by kernel_rfl)) (by kernel_rfl) rfl (by kernel_rfl) (by kernel_rfl) (by kernel_rfl)
set_option maxRecDepth 100000 in
theorem q_(s:ByteArray)(most:Int)(w:World)(aN:s.size<=1048576)(hG:∀w',Below w.heap.size w w'->GI w'):
  Calls Tryz.prog 153 #[.string s,.int .i64 most] w fun e w' =>(∃a b,FL s.data.toList most=some (a,b)/\e= .returned (.tuple #[.int .i64 a,.bool b]))/\Below w.heap.size w w':=by
 have hG0:=hG w (Below.refl _ _);have hs:=hG0.2.2.1;have hr:=hG0.2.2.2;have AWP:∀w',Below w.heap.size w w'->Go.Lib.TabIs Tryz.prog w' "internal/strconv.uint64pow10" .u64 Go.Lib.pow10Tab:=fun w' hb=>AOG _ (hG w' hb)
 have hl:s.data.toList.length<=1048576:=aN;cases h:Go.Lib.atoiAll s.data.toList with
 |ok v=>
  have hv: -9223372036854775808<=v/\v<=9223372036854775807:=Go.Lib.atoiAll_bounds h;have e1:0<=v->(s.size:Int)<=most->Go.Lib.itoa v=s.data.toList->FL s.data.toList most=some (v,true):=fun a b c=>by unfold FL;rw[if_pos hl,h];simp only;rw[if_pos ⟨a,b,c⟩]
  have e2:(0<=v->(s.size:Int)<=most->Go.Lib.itoa v=s.data.toList->False)->FL s.data.toList most=some (0,false):=fun hh=>by unfold FL;rw[if_pos hl,h];simp only;rw[if_neg fun k=>hh k.1 k.2.1 k.2.2]
  have dig:∀W1:World,Below w.heap.size w W1->Calls Tryz.prog 56 #[.int .i64 v] W1 fun e w' =>e= .returned (.string ⟨(Go.Lib.itoa v).toArray⟩)/\Below w.heap.size w w':=by
   intro W1 hb
   go_enter Tryz.func56,Tryz.ntmps56
   go_wp2_with (go_at_call 129;refine(Any.strconv_Itoa AAm v hv.1 hv.2 _ (AWP _ hb)).mono ?_;rintro e w' ⟨rfl,k,os,rfl⟩)
   go_ret
   exact⟨rfl,hb.trans ((wA k os).mono hb.size)⟩
  go_enter Tryz.func153,Tryz.ntmps153
  go_wp2_with (first|(go_at_call 226;refine(Any.strconv_Atoi_ok ABi s (by omega) v h _).mono ?_;rintro e w' ⟨rfl,hw⟩)|(go_at_call 56;refine(dig _ (by rcases hw with rfl|⟨t,rfl⟩;exact Below.refl _ _;exact Go.Lib.bytesWorld_below _ _ _)).mono ?_;rintro e w2 ⟨rfl,hb2⟩))
  ·rename_i w2 hb2 hc
   go_ret2
   refine⟨⟨_,_,e2 fun p q r=> ?_,rfl⟩,hb2⟩;rw[r,ByteArray.toList_eq]at hc;simp only[beq_self_eq_true,Bool.not_true,Bool.false_eq_true,or_false]at hc;omega
  ·rename_i w2 hb2 hc
   go_ret2
   refine⟨⟨_,_,e1 hc.1.1 hc.1.2 ?_,rfl⟩,hb2⟩;have:=hc.2;rw[ByteArray.toList_eq]at this;simpa using this
  ·go_ret2
   refine⟨⟨_,.inl ⟨e2 fun p q r=> ?_,rfl⟩⟩,?_⟩
   ·omega
   ·rcases hw with rfl|⟨t,rfl⟩
    ·exact Below.refl _ _
    ·exact Go.Lib.bytesWorld_below _ _ _
  ·go_ret2
   refine⟨⟨_,.inl ⟨e2 fun p q r=> ?_,rfl⟩⟩,?_⟩
   ·omega
   ·rcases hw with rfl|⟨t,rfl⟩
    ·exact Below.refl _ _
    ·exact Go.Lib.bytesWorld_below _ _ _
 |range=>
  have e0:FL s.data.toList most=some (0,false):=by unfold FL;rw[if_pos hl,h]
  obtain⟨ev,hv,he⟩:=hr
  go_enter Tryz.func153,Tryz.ntmps153
  go_wp2_with (go_at_call 226;refine(Any.strconv_Atoi_range ABi s (by omega) h ev _ hv he).mono ?_;rintro e W1 ⟨N,rfl,-,-,hb⟩)
  go_ret2
  exact⟨⟨_,_,e0,rfl⟩,hb⟩
 |_=>
  have e0:FL s.data.toList most=some (0,false):=by unfold FL;rw[if_pos hl,h]
  obtain⟨ev,hv,he⟩:=hs
  go_enter Tryz.func153,Tryz.ntmps153
  go_wp2_with (go_at_call 226;refine(Any.strconv_Atoi_syntax ABi s (by omega) h ev _ hv he).mono ?_;rintro e W1 ⟨N,rfl,-,-,hb⟩)
  go_ret2
  exact⟨⟨_,_,e0,rfl⟩,hb⟩
def AaM:SQ:=mk Tryz.func314 tK Ex Qd [] [] [⟨2,⟨[(0,fY),(1,BD),(7,BD),(8,BD)],[]⟩,Gw⟩]
def AEu:SQ:=mk Tryz.func239 tK Bv Bt [AaM] [] []
def Acg:SQ:=txP (AEE AAm (enters_of AAm.f171 (by kernel_rfl) rfl) AOG) rfl strconv_Itoa (fun _=>rfl)
def s79:SQ:=txP (AHc ALE (enters_of ALE.f145 (by kernel_rfl) rfl) AOO) rfl strings_Cut (fun _=>rfl)
def s80:SQ:=txP (AC6 ACQ (enters_of ACQ.f109 (by kernel_rfl) rfl)) rfl Kk (fun _=>rfl)
def Aat:SQ:=txP (qU AF5 (enters_of AF5.f101 (by kernel_rfl) rfl)) rfl strings_TrimPrefix (fun _=>rfl)
def AYu:SQ:=txP (vi tO (enters_of tO.f144 (by kernel_rfl) rfl) AOO) rfl strings_Contains (fun _=>rfl)
abbrev i234:BK:=⟨[(0,wT),(1,BD),(2,AHM)],[Lv]⟩
abbrev AZG:BK:=⟨ALr,[Je,Lv]⟩
def AV6:SQ:=ASG (ρ:=Kb 234 0 311 312 43 129) (nm:= "slices.Insert[[]loop.example/g00178/impl.Sent,loop.example/g00178/impl.Sent]") (fv:=Tryz.f311) tOk (sv.ins ⟨by kernel_rfl,by kernel_rfl,by kernel_rfl,by kernel_rfl,by kernel_rfl,by kernel_rfl,by kernel_rfl,by kernel_rfl,by kernel_rfl,by kernel_rfl,by kernel_rfl,by kernel_rfl⟩ mx (by kernel_rfl) (by kernel_rfl) (by kernel_rfl) (by kernel_rfl) (by kernel_rfl) (by kernel_rfl) (by kernel_rfl)) (r:=Y10) rfl (by kernel_rfl) (by kernel_rfl) Eb (fun _=>rfl)
def AZD:SQ:=ASG (ρ:=Kb 359 0 380 381 99 173) (nm:= "slices.Insert[[]loop.example/g00178/impl.Entry,loop.example/g00178/impl.Entry]") (fv:=Tryz.f380) tOk (sv.ins ⟨by kernel_rfl,by kernel_rfl,by kernel_rfl,by kernel_rfl,by kernel_rfl,by kernel_rfl,by kernel_rfl,by kernel_rfl,by kernel_rfl,by kernel_rfl,by kernel_rfl,by kernel_rfl⟩ mx (by kernel_rfl) (by kernel_rfl) (by kernel_rfl) (by kernel_rfl) (by kernel_rfl) (by kernel_rfl) (by kernel_rfl)) (r:=Y1) rfl (by kernel_rfl) (by kernel_rfl) EE (fun _=>rfl)
def Abu:SQ:=mk Tryz.func382 Ex Bv cmp_isNaN_int [] [] []
def AZg:SQ:=mk Tryz.func361 tP Bv cmp_Less_int [Abu] [] []
def Ab2:SQ:=mk Tryz.func362 Ex Bv RH [] [] []
def AZQ:SQ:=mk Tryz.func319 tK om G2 [AZg,Ab2] [] [⟨3,⟨[(0,fY),(1,BD),(6,BD),(7,BD),(8,BD)],[]⟩,D9⟩]
def Abq:SQ:=ASG (ρ:=Kb 320 0 363 364 22 3) (nm:= "slices.Insert[[]int,int]") (fv:=Tryz.f363) tOk (sv.ins ⟨by kernel_rfl,by kernel_rfl,by kernel_rfl,by kernel_rfl,by kernel_rfl,by kernel_rfl,by kernel_rfl,by kernel_rfl,by kernel_rfl,by kernel_rfl,by kernel_rfl,by kernel_rfl⟩ mx (by kernel_rfl) (by kernel_rfl) (by kernel_rfl) (by kernel_rfl) (by kernel_rfl) (by kernel_rfl) (by kernel_rfl)) (r:=tI) rfl (by kernel_rfl) (by kernel_rfl) Kx (fun _=>rfl)
def AZM:SQ:=Abe (ρ:=Kb 0 172 0 0 40 105) (nm:= "slices.Delete[[]loop.example/g00178/impl.Writer,loop.example/g00178/impl.Writer]") tOk (sv.del ⟨by kernel_rfl,by kernel_rfl,by kernel_rfl,by kernel_rfl,by kernel_rfl,by kernel_rfl,by kernel_rfl,by kernel_rfl,by kernel_rfl,by kernel_rfl,by kernel_rfl,by kernel_rfl⟩ mx (by kernel_rfl) (by kernel_rfl)) (r:=Y6) 2 rfl (by kernel_rfl) (by kernel_rfl) Fj (fun _=>rfl)
end
end Go.Proofs.YtbjkhapllnkhfaaGreatDoor.Wk
