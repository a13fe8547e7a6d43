/- Each function computes what was printed: by the kernel. -/
import Derived.Test.YtbjkhapllnkhfaaGreatDoorSG1
import Derived.Test.YtbjkhapllnkhfaaGreatDoorProg
import Derived.KernelRfl
import Derived.Shelf.Strconv.AtoiAll
import Derived.Lib.AtoiOr
import Derived.Lib.AtoiErrMem
import Derived.Lib.AtoiAllCases
import Derived.WalkKit
import Derived.BigCall
set_option linter.unusedVariables false
set_option linter.unusedSimpArgs false
set_option linter.unusedSectionVars false
namespace Go.Proofs.YtbjkhapllnkhfaaGreatDoor.Wk
open Go Go.Fw Go.M Go.Proofs
noncomputable section
abbrev tI:Ty:= .int .i64
abbrev tU:Ty:= .int .u8
abbrev Y0:Ty:=(.cons (.sl tI) (.cons tI .unit))
abbrev Y1:Ty:=(.cons tI (.cons tI (.cons .bool (.cons .str .unit))))
abbrev Y2:Ty:=(.cons (.sl Y1) (.cons (.sl Y1) (.cons tI .unit)))
abbrev Y3:Ty:=(.cons (.sl tI) (.cons .bool (.cons tI .unit)))
abbrev Y4:Ty:=(.cons (.sl Y3) (.cons tI .unit))
abbrev Y5:Ty:=(.cons .str (.cons (.sl tI) (.cons .bool .unit)))
abbrev Y6:Ty:=(.cons tI (.cons (.sl Y5) .unit))
abbrev Y7:Ty:=(.cons tI (.cons tI (.cons (.sl tI) (.cons (.sl Y1) (.cons .bool (.cons (.sl (.sl tI)) .unit))))))
abbrev Y8:Ty:=(.cons tI (.cons tI (.cons .str .unit)))
abbrev Y9:Ty:=(.cons tI (.cons tI (.cons (.sl Y8) .unit)))
abbrev Y10:Ty:=(.cons tI (.cons .str (.cons .bool .unit)))
abbrev Y11:Ty:=(.cons (.sl tI) (.cons tI (.cons (.sl Y2) (.cons (.sl tI) (.cons (.sl Y3) (.cons tI (.cons (.sl Y6) (.cons (.sl Y7) (.cons (.sl Y9) (.cons (.sl Y10) (.cons .bool .unit)))))))))))
abbrev Y12:Ty:=(.cons tI (.cons tI (.cons tI (.cons tI (.cons .str .unit)))))
abbrev Y13:Ty:=(.cons (.sl tU) (.cons tI (.cons tI .unit)))
abbrev Y14:Ty:=(.cons tI (.cons .bool (.cons tI (.cons tI (.cons .bool (.cons .str .unit))))))
def T:Jr:=[(3,⟨1,8,.int .i64,some tI⟩),
 (4,⟨1,1,.bool,some .bool⟩),
 (5,⟨1,1,.int .u8,some tU⟩),
 (9,⟨1,16,.str,some .str⟩),
 (22,⟨1,24,.sl 3,some (.sl tI)⟩),
 (28,⟨2,32,.st [(0,22),(1,3)],some Y0⟩),
 (32,⟨1,24,.sl 5,some (.sl tU)⟩),
 (36,⟨1,24,.sl 101,some (.sl Y2)⟩),
 (37,⟨1,24,.sl 156,some (.sl Y3)⟩),
 (39,⟨2,32,.st [(0,37),(1,3)],some Y4⟩),
 (40,⟨1,24,.sl 105,some (.sl Y6)⟩),
 (41,⟨1,24,.sl 109,some (.sl Y7)⟩),
 (42,⟨1,24,.sl 56,some (.sl Y9)⟩),
 (43,⟨1,24,.sl 129,some (.sl Y10)⟩),
 (45,⟨11,216,.st [(0,28),(2,36),(3,22),(4,39),(6,40),(7,41),(8,42),(9,43),(10,4)],some Y11⟩),
 (54,⟨1,24,.sl 59,some (.sl Y8)⟩),
 (56,⟨3,40,.st [(0,3),(1,3),(2,54)],some Y9⟩),
 (59,⟨3,32,.st [(0,3),(1,3),(2,9)],some Y8⟩),
 (61,⟨1,24,.sl 9,some (.sl .str)⟩),
 (64,⟨1,8,.ptr 88,none⟩),
 (76,⟨5,48,.st [(0,3),(1,3),(2,3),(3,3),(4,9)],some Y12⟩),
 (88,⟨3,40,.st [(0,32),(1,3),(2,3)],some Y13⟩),
 (99,⟨1,24,.sl 173,some (.sl Y1)⟩),
 (101,⟨3,56,.st [(0,99),(1,99),(2,3)],some Y2⟩),
 (103,⟨1,24,.sl 161,some (.sl Y5)⟩),
 (105,⟨2,32,.st [(0,3),(1,103)],some Y6⟩),
 (107,⟨1,24,.sl 22,some (.sl (.sl tI))⟩),
 (109,⟨6,96,.st [(0,3),(1,3),(2,22),(3,99),(4,4),(5,107)],some Y7⟩),
 (129,⟨3,32,.st [(0,3),(1,9),(2,4)],some Y10⟩),
 (144,⟨1,8,.other,none⟩),
 (152,⟨1,8,.int .u64,some (.int .u64)⟩),
 (154,⟨1,8,.ptr 45,none⟩),
 (156,⟨3,40,.st [(0,22),(1,4),(2,3)],some Y3⟩),
 (161,⟨3,48,.st [(0,9),(1,22),(2,4)],some Y5⟩),
 (162,⟨1,8,.ptr 76,none⟩),
 (173,⟨4,40,.st [(0,3),(1,3),(2,4),(3,9)],some Y1⟩),
 (182,⟨1,8,.other,none⟩),
 (222,⟨1,24,.sl 225,some (.sl Y14)⟩),
 (225,⟨6,56,.st [(0,3),(1,4),(2,173)],some Y14⟩),
 (239,⟨1,24,.sl 4,some (.sl .bool)⟩),
 (245,⟨1,8,.other,none⟩),
 (293,⟨1,8,.other,none⟩),
 (294,⟨1,8,.ptr 56,none⟩)]
theorem tOk:Eb Tryz.prog T:=vL (by kernel_rfl)
theorem mx:Tryz.prog.follows .mixedOrders=true:=by kernel_rfl
abbrev SQ:=SP Tryz.prog
def mk{f:Nat}{fn:Func}(hf:Tryz.prog.funcs[f]? =some fn)(i o:Bb)(g:i.Cu (Option o.V))(l:List SQ)(h:List AHG)(L:List (Lp o))
  (hJ:Vh ⟨T,Ul (SP.l l),Cj h⟩ ⟨i,o,i.un g⟩ fn (Og i.GV.length L) L:=by
   repeat refine Vh.cons (fun _=>rfl) (fun _ _ _=>by kernel_rfl) ?_
   exact Vh.nil)
  (he:∀ω v,DO ⟨T,Ul (SP.l l),Cj h⟩ ⟨i,o,i.un g⟩ fn (Og i.GV.length L AW) ω v=i.un g v:=by intro ω v;kernel_rfl)
  (hL:cz fn=Lp.ls L:=by kernel_rfl) (hd:decide (Lp.ls L).Nodup=true:=by kernel_rfl) (hc:iv fn ⟨i,o,i.un g⟩=true:=by kernel_rfl):SQ:=
 mkP tOk mx hf i o g l h L AW hL hd hc hJ he
abbrev zj:XP:= .c (.v .bool)
abbrev Im:XP:= .c (.ptr 0 0)
abbrev BA:XP:= .c (.v tI)
abbrev cB:XP:= .c (.ptr 1 0)
abbrev xP4:XP:= .c (.ptr 3 0)
abbrev eC:XP:= .c (.sl false tI)
abbrev vd:XP:= .row Y0
abbrev xP7:XP:= .c (.sl false .str)
abbrev lT:XP:= .c (.v .str)
abbrev xP9:XP:= .c (.ref 1)
abbrev aS:XP:= .c (.sl false Y1)
abbrev z_:XP:= .row Y11
abbrev Zi:XP:= .c (.ref 0)
abbrev AFM:XP:= .c (.ref 2)
abbrev vA:XP:= .c (.ptr 2 0)
abbrev AN0:XP:= .agg [.ref 0,.v tI,.ref 1,.ref 2,.ref 3,.v tI,.ref 4,.ref 5,.ref 6,.ref 7,.v .bool]
abbrev jw:XP:= .c (.ptr 10 0)
abbrev kb:XP:= .c (.ptr 8 0)
abbrev jX:XP:= .c (.ptr 9 0)
abbrev rU:XP:= .c (.ptr 18 0)
abbrev ADk:XP:= .c (.ptr 4 0)
abbrev wF:XP:= .c (.ptr 19 0)
abbrev AAo:XP:= .c (.sl false Y2)
abbrev wc:XP:= .c (.sl false Y14)
abbrev AR4:XP:= .c (.sl true .str)
abbrev AK9:XP:= .c (.vZ 304 [(.cons (.sl tI) .unit)])
abbrev ABt:XP:= .c (.rA Y11)
abbrev AJm:XP:= .c (.sl false Y5)
abbrev AKj:XP:= .c (.sl false (.sl tI))
abbrev uj:XP:= .c (.sl false Y9)
abbrev AF3:XP:= .c (.sl false Y10)
abbrev AHD:XP:= .c (.sl false Y8)
abbrev AKN:XP:= .c (.vZ 323 [(.cons tI .unit)])
abbrev AK6:XP:= .c (.vZ 332 [(.cons tI .unit)])
abbrev AFI:BP:= .mem [.sl true tU,.v tI,.v tI]
abbrev HG:BP:= .sl 9 tI
abbrev AOZ:BP:= .mem [.ref 4,.v tI]
abbrev yG:BP:= .mem [.sl false tI,.v tI]
abbrev kJ:BP:= .sl 9 Y2
abbrev aT:BP:= .sl 9 Y3
abbrev kI:BP:= .sl 9 Y6
abbrev j_:BP:= .sl 9 Y7
abbrev ju:BP:= .sl 9 Y9
abbrev jL:BP:= .sl 9 Y10
abbrev ACJ:BP:= .mem [.sl false tI,.v tI,.sl false Y2,.sl false tI,.sl false Y3,.v tI,.sl false Y6,.sl false Y7,.sl false Y9,.sl false Y10,.v .bool]
abbrev AO7:BP:= .mem [.sl false Y3,.v tI]
abbrev AKW:BP:= .mem [.v tI,.sl false Y5]
abbrev ACq:BP:= .mem [.v tI,.v tI,.sl false tI,.sl false Y1,.v .bool,.sl false (.sl tI)]
abbrev rR:BP:= .mem [.v tI,.v tI,.v tI,.v tI,.v .str]
abbrev Nf:BP:= .sl 9 Y1
abbrev sg:BP:= .sl 9 (.sl tI)
abbrev AS1:BP:= .mem [.ref 11,.v tI,.ref 12,.ref 13,.ref 14,.v tI,.ref 15,.ref 16,.ref 17,.ref 18,.v .bool]
abbrev AFE:BP:= .mem [.v tI,.v tI,.sl false Y8]
abbrev DT:BP:= .sl 1 tI
abbrev Yn:BP:= .sl 2 Y2
abbrev Me:BP:= .sl 2 Y3
abbrev Vm:BP:= .sl 3 Y6
abbrev Uk:BP:= .sl 3 Y7
abbrev P5:BP:= .sl 2 Y9
abbrev LN:BP:= .sl 1 Y10
abbrev Qu:BP:= .gone
abbrev wX:BP:= .mem [.ref 0,.v tI,.ref 1,.ref 2,.ref 3,.v tI,.ref 4,.ref 5,.ref 6,.ref 7,.v .bool]
abbrev yb:BP:= .mem [.ref 10,.v tI,.ref 11,.ref 12,.ref 13,.v tI,.ref 14,.ref 15,.ref 16,.ref 17,.v .bool]
abbrev ATb:BP:= .mem [.v tI,.v .str,.v .bool]
abbrev AFC:BP:= .mem [.v tI,.v tI,.v .bool,.v .str]
abbrev AP4:BP:= .mem [.sl false Y1,.sl false Y1,.v tI]
abbrev AJa:BP:= .mem [.ref 2,.ref 3,.v tI]
abbrev AN1:BP:= .mem [.ref 5,.ref 6,.v tI]
abbrev Zx:BP:= .sl 1 Y2
abbrev mY:BP:= .sl 1 Y6
abbrev ADZ:BP:= .mem [.sl true Y1,.sl true Y1,.v tI]
abbrev ASu:BP:= .mem [.v tI,.v tI,.ref 1,.ref 2,.v .bool,.ref 3]
abbrev AUO:BP:= .mem [.v tI,.v tI,.ref 5,.ref 6,.v .bool,.ref 7]
abbrev AUb:BP:= .mem [.v tI,.v tI,.ref 3,.ref 4,.v .bool,.ref 5]
abbrev AUk:BP:= .mem [.v tI,.v tI,.ref 7,.ref 8,.v .bool,.ref 9]
abbrev ANf:BP:= .mem [.ref 1,.v tI]
abbrev za:BP:= .mem [.ref 1,.v tI,.ref 2,.ref 3,.ref 4,.v tI,.ref 5,.ref 6,.ref 7,.ref 8,.v .bool]
abbrev AMn:BP:= .mem [.ref 1,.v tI,.ref 2,.ref 9,.ref 4,.v tI,.ref 5,.ref 6,.ref 7,.ref 8,.v .bool]
abbrev rj:List (Nat×XP):=[(0,BA)]
abbrev AKs:List (Nat×XP):=[(1,Im),(3,BA)]
abbrev ASQ:List (Nat×XP):=[(2,Im),(3,cB),(5,BA),(6,BA)]
abbrev AUG:List (Nat×XP):=[(2,Im),(3,cB),(5,BA)]
abbrev ATs:List (Nat×XP):=[(1,Im),(3,BA),(4,BA)]
abbrev AEy:List (Nat×XP):=[(0,Zi)]
abbrev AJv:List (Nat×XP):=[(0,xP9)]
abbrev ARz:List (Nat×XP):=[(0,.agg [.v tI,.v tI,.v tI,.v tI,.v .str])]
abbrev ATR:List (Nat×XP):=[(1,Im),(2,cB),(3,xP4),(4,BA)]
abbrev AOz:List (Nat×XP):=[(0,AN0)]
abbrev ARl:List (Nat×XP):=[(0,.L8 [.inr [.ref 0,.ref 1,.v tI],.inl (.v .bool)])]
abbrev APh:List (Nat×XP):=[(0,.L8 [.inr [.ref 0,.v tI,.ref 1,.ref 2,.ref 3,.v tI,.ref 4,.ref 5,.ref 6,.ref 7,.v .bool],.inl (.v tI)])]
abbrev ARv:List (Nat×XP):=[(0,.L8 [.inr [.v tI,.ref 0],.inl (.v .bool)])]
abbrev AN9:List (Nat×XP):=[(0,.L8 [.inr [.v tI,.v tI,.ref 0,.ref 1,.v .bool,.ref 2],.inl (.v .bool)])]
abbrev AUC:List (Nat×XP):=[(0,.L8 [.inr [.ref 0,.v tI,.ref 1,.ref 8,.ref 3,.v tI,.ref 4,.ref 5,.ref 6,.ref 7,.v .bool],.inl (.v tI)])]
abbrev ATP:List (Nat×XP):=[(0,.L8 [.inr [.ref 1,.ref 2,.v tI],.inl (.v .bool)])]
abbrev AR1:List (Nat×XP):=[(0,.L8 [.inr [.v tI,.v tI,.ref 0],.inl (.v tI)])]
abbrev ATX:List (Nat×XP):=[(0,.L8 [.inr [.ref 0,.v tI,.ref 1,.ref 2,.ref 3,.v tI,.ref 4,.ref 5,.ref 6,.ref 7,.v .bool],.inl (.v .str)])]
abbrev AUE:List (Nat×XP):=[(0,Im),(1,BA),(2,BA)]
abbrev uP:List BP:=[AFI]
abbrev AVL:List BP:=[AFI,HG]
abbrev AQP:List BP:=[yG]
abbrev AL5:List BP:=[HG,kJ,HG,aT,kI,j_,ju,jL]
abbrev fl:List BP:=[ACJ]
abbrev AML:List BP:=[yG,AO7]
abbrev ALn:List BP:=[yG,AKW]
abbrev AIb:List BP:=[yG,ACq]
abbrev ji:List BP:=[HG]
abbrev AMT:List BP:=[AFI,yG,HG]
abbrev AHO:List BP:=[rR]
abbrev ALb:List BP:=[HG,Nf,sg]
abbrev AHU:List BP:=[ACq,.mem [.v tI,.v tI,.ref 2,.ref 3,.v .bool,.ref 4],HG,Nf,sg,.mem [.v tI,.v tI,.ref 6,.ref 7,.v .bool,.ref 8],HG,Nf,sg]
abbrev fq:List BP:=[ACJ,.mem [.ref 2,.v tI,.ref 3,.ref 4,.ref 5,.v tI,.ref 6,.ref 7,.ref 8,.ref 9,.v .bool],HG,kJ,HG,aT,kI,j_,ju,jL,AS1,HG,kJ,HG,aT,kI,j_,ju,jL]
abbrev AIf:List BP:=[DT,Yn,DT,Me,Vm,Uk,P5,LN]
abbrev AGP:List BP:=[DT,Zx,DT,Me,mY,.sl 1 Y7,P5,LN]
abbrev AEo:List BP:=[DT,Zx,DT,Me,mY,Uk,P5,LN,wX,yb,HG,kJ,HG,aT,kI,j_,ju,jL,ADZ,.mem [.v tI,.sl true Y5]]
abbrev ALL:List BP:=[.mem [.v tI,.ref 1],.sl 9 Y5,.mem [.v tI,.ref 3],.sl 9 Y5]
abbrev AMa:List BP:=[ASu,HG,Nf,sg,AUO,HG,Nf,sg]
abbrev ALV:List BP:=[DT,Yn,DT,Me,Vm,Uk,P5,LN,.mem [.ref 0,.v tI,.ref 1,.ref 9,.ref 3,.v tI,.ref 4,.ref 5,.ref 6,.ref 7,.v .bool],HG,rR,.mem [.ref 12,.v tI,.ref 13,.ref 14,.ref 15,.v tI,.ref 16,.ref 17,.ref 18,.ref 19,.v .bool],HG,kJ,HG,aT,kI,j_,ju,jL]
abbrev ALC:List BP:=[Zx,AJa,Nf,Nf,AN1,Nf,Nf,Zx]
abbrev ALv:List BP:=[yG,HG]
abbrev ALa:List BP:=[ANf,HG,.mem [.ref 3,.v tI],HG]
abbrev AMd:List BP:=[rR,rR,.sl 9 tU]
abbrev jm:List BP:=[za,DT,Yn,DT,Me,Vm,Uk,P5,LN]
abbrev xK:List BP:=[.sl 1 Y1]
abbrev AMX:List BP:=[AMn,DT,Yn,DT,Me,Vm,Uk,P5,LN,DT]
abbrev ALE:List BP:=[.mem [.v tI,.v tI,.ref 1],.sl 1 Y8]
abbrev AMF:List BP:=[za,DT,Yn,DT,Me,Vm,Uk,.sl 1 Y9,LN]
abbrev ALZ:List BP:=[DT,Zx,DT,Me,Vm,.sl 2 Y7,.sl 1 Y9,LN]
abbrev AMO:List BP:=[za,DT,Zx,DT,Me,Vm,.sl 2 Y7,.sl 1 Y9,LN]
abbrev CA:Bb:=⟨[(0,zj)],[]⟩
abbrev AGT:Bb:=⟨[(0,.c (.sl true tU))],[]⟩
abbrev AEN:Bb:=⟨[(0,Im)],uP⟩
abbrev AGu:Bb:=⟨rj,uP⟩
abbrev AL7:Bb:=⟨[(0,Im),(1,BA)],uP⟩
abbrev AMJ:Bb:=⟨[(0,.agg [.ref 1,.v tI])],AVL⟩
abbrev ALF:Bb:=⟨[(0,BA),(1,BA),(2,BA)],[]⟩
abbrev ABc:Bb:=⟨[(0,vd)],[]⟩
abbrev ABX:Bb:=⟨[(0,.agg [.v tI,.v tI,.ref 0])],[.sl 9 Y8]⟩
abbrev AMe:Bb:=⟨[(0,.L8 [.inr [.ref 0,.v tI,.ref 1,.ref 2,.ref 3,.v tI,.ref 4,.ref 5,.ref 6,.ref 7,.v .bool],.inl (.v .bool)])],AL5⟩
abbrev EZ:Bb:=⟨rj,[]⟩
abbrev AHo:Bb:=⟨[(0,lT)],uP⟩
abbrev qA:Bb:=⟨[(0,vd),(1,eC)],[]⟩
abbrev AHC:Bb:=⟨[(0,aS),(1,BA)],[]⟩
abbrev AD1:Bb:=⟨[(0,aS)],[]⟩
abbrev qb:Bb:=⟨[(0,.row Y2)],[]⟩
abbrev qG:Bb:=⟨[(0,eC),(1,BA)],[]⟩
abbrev Te:Bb:=⟨[(0,z_)],[]⟩
abbrev AAi:Bb:=⟨AKs,fl⟩
abbrev AId:Bb:=⟨[(0,vd),(1,.row Y4)],[]⟩
abbrev AHV:Bb:=⟨[(0,vd),(1,.row Y6)],[]⟩
abbrev ABh:Bb:=⟨[(0,.row Y7)],[]⟩
abbrev AAe:Bb:=⟨[(0,vd),(1,.row Y7)],[]⟩
abbrev AL6:Bb:=⟨AUG,AIb⟩
abbrev ADm:Bb:=⟨[(0,.row Y4)],[]⟩
abbrev ALo:Bb:=⟨ATs,fl⟩
abbrev xi:Bb:=⟨[(0,.row Y9)],[]⟩
abbrev qY:Bb:=⟨[(0,BA),(1,BA)],[]⟩
abbrev iM:Bb:=⟨AEy,ji⟩
abbrev ALt:Bb:=⟨[(0,Im),(1,vd)],uP⟩
abbrev AMb:Bb:=⟨AJv,AVL⟩
abbrev AMW:Bb:=⟨[(0,.row Y4),(1,BA)],[]⟩
abbrev AD0:Bb:=⟨[(0,Im),(1,z_)],uP⟩
abbrev AHY:Bb:=⟨ARz,uP⟩
abbrev xB:Bb:=⟨[(0,.row Y12)],[]⟩
abbrev ALp:Bb:=⟨ARz,[]⟩
abbrev Zk:Bb:=⟨[(0,lT)],[]⟩
abbrev xA:Bb:=⟨[(0,.L8 [.inl (.v .str),.inl (.v .bool)])],[]⟩
abbrev AGr:Bb:=⟨[(0,.agg [.ref 0,.v tI])],[aT]⟩
abbrev AHQ:Bb:=⟨[(0,.agg [.ref 0,.ref 1,.v tI])],[Nf,Nf]⟩
abbrev AEf:Bb:=⟨[(0,.row Y6)],[]⟩
abbrev AHB:Bb:=⟨[(0,.agg [.v tI,.ref 0])],[.sl 9 Y5]⟩
abbrev AAU:Bb:=⟨[(0,.agg [.v tI,.v tI,.ref 0,.ref 1,.v .bool,.ref 2])],ALb⟩
abbrev ALw:Bb:=⟨AOz,AL5⟩
abbrev AD3:Bb:=⟨[(0,.row Y8)],[]⟩
abbrev AHF:Bb:=⟨[(0,.row Y9),(1,BA)],[]⟩
abbrev AHl:Bb:=⟨[(0,z_),(1,lT)],[]⟩
abbrev ASb:Bb:=⟨[(0,lT),(1,BA)],[]⟩
abbrev lK:Bb:=⟨[(0,.L8 [.inl (.v tI),.inl (.v .bool)])],[]⟩
abbrev ALK:Bb:=⟨[(0,.L8 [.inr [.v tI,.v tI,.v tI,.v tI,.v .str],.inl (.v .bool)])],[]⟩
abbrev ALd:Bb:=⟨[(0,vd),(1,.row Y4),(2,eC)],[]⟩
abbrev ALO:Bb:=⟨[(0,.L8 [.inr [.ref 0,.v tI],.inl (.v tI),.inl (.v .bool)])],[aT]⟩
abbrev f_:Bb:=⟨[(0,AN0),(1,.row Y12)],AIf⟩
abbrev ABH:Bb:=⟨[(0,z_),(1,BA)],[]⟩
abbrev AMR:Bb:=⟨[(0,vd),(1,.row Y6),(2,lT)],[]⟩
abbrev ALj:Bb:=⟨[(0,.L8 [.inr [.v tI,.ref 0],.inl (.v tI),.inl (.v .bool)])],[.sl 9 Y5]⟩
abbrev AGU:Bb:=⟨[(0,.row Y2),(1,.row Y1)],[]⟩
abbrev wt:Bb:=⟨ARl,[Nf,Nf]⟩
abbrev xM:Bb:=⟨APh,AIf⟩
abbrev ALX:Bb:=⟨[(0,.row Y1),(1,.row Y1)],[]⟩
abbrev ALq:Bb:=⟨[(0,.agg [.v tI,.v tI,.v .bool,.v .str])],[]⟩
abbrev AAt:Bb:=⟨AEy,[Nf]⟩
abbrev m_:Bb:=⟨[(0,.row Y2),(1,BA)],[]⟩
abbrev ALf:Bb:=⟨[(1,BA),(2,Im),(4,cB),(6,ADk),(7,BA)],[AP4,AJa,Nf,Nf,AN1,Nf,Nf]⟩
abbrev AA2:Bb:=⟨[(0,.L8 [.inr [.v tI,.v tI,.v .bool,.v .str],.inl (.v .bool)])],[]⟩
abbrev ALB:Bb:=⟨[(0,vd),(1,.row Y6),(2,BA),(3,BA)],[]⟩
abbrev ALy:Bb:=⟨ARv,[.sl 9 Y5]⟩
abbrev AMG:Bb:=⟨[(0,.row Y7),(1,BA)],[]⟩
abbrev ALG:Bb:=⟨[(0,vd),(1,.row Y7),(2,BA),(3,BA)],[]⟩
abbrev AAw:Bb:=⟨AN9,ALb⟩
abbrev ALA:Bb:=⟨APh,AGP⟩
abbrev AHk:Bb:=⟨[(0,eC),(1,eC)],[]⟩
abbrev AMV:Bb:=⟨[(0,vd),(1,.row Y6),(2,BA)],[]⟩
abbrev ALW:Bb:=⟨[(0,vd),(1,.row Y7),(2,BA)],[]⟩
abbrev AL9:Bb:=⟨[(0,vd),(1,Zi),(2,eC),(3,BA),(4,BA)],[Yn]⟩
abbrev AI4:Bb:=⟨AOz,AIf⟩
abbrev ALS:Bb:=⟨[(0,vd),(1,.row Y7),(2,BA),(3,aS)],[]⟩
abbrev AG9:Bb:=⟨[(0,vd),(1,eC),(2,eC)],[]⟩
abbrev AL4:Bb:=⟨[(0,vd),(1,.row Y7),(2,eC)],[]⟩
abbrev AMc:Bb:=⟨[(0,vd),(1,.row Y4),(2,BA),(3,BA)],[]⟩
abbrev AEl:Bb:=⟨[(0,.L8 [.inr [.ref 0,.v tI],.inl (.v .bool)])],[aT]⟩
abbrev ALI:Bb:=⟨[(0,vd),(1,.row Y4),(2,BA)],[]⟩
abbrev ALP:Bb:=⟨[(0,vd),(1,.row Y4),(2,BA),(3,.row Y9),(4,wc)],[]⟩
abbrev AMZ:Bb:=⟨[(0,z_),(1,.row Y12)],[]⟩
abbrev Abe:Bb:=⟨[(0,lT),(1,lT)],[]⟩
abbrev AMI:Bb:=⟨AJv,[Qu,DT]⟩
abbrev AGg:Bb:=⟨AEy,[DT]⟩
abbrev AER:Bb:=⟨[(0,ABt),(1,BA)],[]⟩
abbrev ABm:Bb:=⟨[(0,ABt)],[]⟩
abbrev AMY:Bb:=⟨[(1,Im),(10,uj),(11,BA),(12,BA)],fl⟩
abbrev wz:Bb:=⟨[(0,Im),(1,BA)],jm⟩
abbrev uz:Bb:=⟨rj,jm⟩
abbrev AMH:Bb:=⟨[(0,Im),(1,.row Y12)],jm⟩
abbrev AMP:Bb:=⟨AJv,[Qu,.sl 1 Y1]⟩
abbrev AD7:Bb:=⟨ARl,[.sl 1 Y1,Nf]⟩
abbrev ALe:Bb:=⟨ARv,[.sl 2 Y5]⟩
abbrev AED:Bb:=⟨AUE,jm⟩
abbrev AMA:Bb:=⟨[(0,.L8 [])],jm⟩
abbrev AH8:Bb:=⟨[(0,Im),(1,BA),(2,BA),(6,BA)],jm⟩
abbrev AMQ:Bb:=⟨AN9,[HG,Nf,.sl 2 (.sl tI)]⟩
abbrev AHH:Bb:=⟨[(0,Im)],jm⟩
abbrev AMC:Bb:=⟨[(0,.L8 [])],[.mem [.v tI,.v tI,.ref 2],Qu,.sl 1 Y8]⟩
abbrev AMD:Bb:=⟨[(0,vd),(1,lT)],[]⟩
abbrev ALD:Bb:=⟨[(0,.L8 [.inl (.v .str),.inl (.v tI)])],[]⟩
open Go.Shelf Go.RowKit
@[reducible] def AHZ:Go.Shelf.Ren:=⟨(fun x=>match x with|146=>25|221=>59|268=>130|138=>131|143=>132|195=>212|197=>213|218=>214|219=>215|260=>297|217=>298|225=>299|224=>300|267=>301|266=>349|314=>350|n=>n),(fun x=>match x with|31=>61|105=>185|46=>152|119=>272|139=>275|138=>274|146=>277|51=>276|n=>n),(fun x=>match x with|1=>0|3=>1|4=>2|n=>n)⟩
theorem AAc:Lays.n146 Tryz.prog AHZ:=by
 repeat' first|kernel_rfl|(intro w;kernel_rfl)|constructor
@[reducible] def AJU:Go.Shelf.Ren:=⟨(fun x=>match x with|171=>129|243=>211|246=>296|283=>345|284=>346|285=>347|286=>348|129=>372|317=>371|318=>373|319=>374|320=>375|337=>384|338=>385|n=>n),(fun x=>match x with|171=>266|53=>267|37=>32|173=>270|212=>297|51=>276|213=>298|46=>152|232=>316|233=>317|n=>n),(fun x=>match x with|17=>3|18=>6|19=>7|n=>n)⟩
theorem yZ:LaysM.n171 Tryz.prog AJU:=by
 repeat' first|kernel_rfl|(intro w;kernel_rfl)|constructor
@[reducible] def ANG:Go.Shelf.Ren:=⟨(fun x=>match x with|145=>79|220=>152|219=>215|217=>298|225=>299|224=>300|267=>301|266=>349|314=>350|n=>n),(fun x=>match x with|59=>112|46=>152|146=>277|51=>276|n=>n),(fun x=>match x with|1=>0|n=>n)⟩
theorem AI6:Lays.n145 Tryz.prog ANG:=by
 repeat' first|kernel_rfl|(intro w;kernel_rfl)|constructor
@[reducible] def AGn:Go.Shelf.Ren:=⟨(fun x=>match x with|109=>80|n=>n),(fun x=>match x with|31=>61|n=>n),(fun x=>match x with|n=>n)⟩
theorem AA7:Lays.n109 Tryz.prog AGn:=by
 repeat' first|kernel_rfl|(intro w;kernel_rfl)|constructor
@[reducible] def AJl:Go.Shelf.Ren:=⟨(fun x=>match x with|101=>227|208=>307|206=>357|n=>n),(fun x=>match x with|n=>n),(fun x=>match x with|n=>n)⟩
theorem ADr:Lays.n101 Tryz.prog AJl:=by
 repeat' first|kernel_rfl|(intro w;kernel_rfl)|constructor
@[reducible] def AA5:Go.Shelf.Ren:=⟨(fun x=>match x with|144=>229|143=>132|219=>215|217=>298|225=>299|224=>300|267=>301|266=>349|314=>350|n=>n),(fun x=>match x with|46=>152|146=>277|51=>276|n=>n),(fun x=>match x with|1=>0|n=>n)⟩
theorem qB:Lays.n144 Tryz.prog AA5:=by
 repeat' first|kernel_rfl|(intro w;kernel_rfl)|constructor
@[reducible] def AKz:Go.Shelf.Ren:=⟨(fun x=>match x with|172=>226|244=>305|245=>306|247=>352|279=>353|280=>354|281=>355|282=>356|287=>376|316=>377|171=>129|205=>378|321=>386|322=>387|243=>211|246=>296|283=>345|284=>346|285=>347|286=>348|129=>372|317=>371|318=>373|319=>374|320=>375|337=>384|338=>385|n=>n),(fun x=>match x with|75=>192|76=>193|167=>280|37=>32|85=>281|168=>283|53=>267|175=>300|46=>152|210=>304|127=>311|145=>314|143=>312|171=>266|173=>270|212=>297|51=>276|213=>298|232=>316|233=>317|80=>319|n=>n),(fun x=>match x with|15=>4|16=>5|17=>3|18=>6|19=>7|n=>n)⟩
theorem ye:LaysC.n172 Tryz.prog AKz:=by
 repeat' first|kernel_rfl|(intro w;kernel_rfl)|constructor
theorem ADR:Tryz.prog.globalNamed "internal/strconv.uint64pow10" =some AFb:=by kernel_rfl
theorem ALM:∀w,GI w->Go.Lib.TabIs Tryz.prog w "internal/strconv.uint64pow10" .u64 Go.Lib.pow10Tab:=fun w h=>h.tab ADR
theorem AHz:∀w,GI w-> ∃m,w.cell? ⟨AJx,0,none⟩=some (.int .i64 m):=fun w h=>h.2.1
theorem maxOf{w:World}(h:w.ShapedOpen Tryz.prog):∃m,w.cell? ⟨AJx,0,none⟩=some (.int .i64 m):=
 cell_of_shapedOpen_int (t:=3) (zero:= #[.int .i64 0]) h (of_decide_eq_true (by kernel_rfl)) (by kernel_rfl) rfl (by kernel_rfl) (by kernel_rfl) (by kernel_rfl)
set_option maxRecDepth 100000 in
theorem oh(s:ByteArray)(most:Int)(w:World)(aQ:s.size<=1048576)(hG:∀w',Below w.heap.size w w'->GI w'):
  Calls Tryz.prog 153 #[.string s,.int .i64 most] w fun e w' =>(∃a b,Ei s.data.toList most=some (a,b)/\e= .returned (.tuple #[.int .i64 a,.bool b]))/\Below w.heap.size w w':=by
 have hG0:=hG w (Below.refl _ _);have hs:=hG0.2.2.1;have hr:=hG0.2.2.2;have ARd:∀w',Below w.heap.size w w'->Go.Lib.TabIs Tryz.prog w' "internal/strconv.uint64pow10" .u64 Go.Lib.pow10Tab:=fun w' hb=>ALM _ (hG w' hb)
 have hl:s.data.toList.length<=1048576:=aQ;cases h:Go.Lib.atoiAll s.data.toList with
 |ok v=>
  have hv: -9223372036854775808<=v/\v<=9223372036854775807:=Go.Lib.atoiAll_bounds h;have e1:0<=v->(s.size:Int)<=most->Go.Lib.itoa v=s.data.toList->Ei s.data.toList most=some (v,true):=fun a b c=>by unfold Ei;rw[if_pos hl,h];simp only;rw[if_pos ⟨a,b,c⟩]
  have e2:(0<=v->(s.size:Int)<=most->Go.Lib.itoa v=s.data.toList->False)->Ei s.data.toList most=some (0,false):=fun hh=>by unfold Ei;rw[if_pos hl,h];simp only;rw[if_neg fun k=>hh k.1 k.2.1 k.2.2]
  have dig:∀W1:World,Below w.heap.size w W1->Calls Tryz.prog 56 #[.int .i64 v] W1 fun e w' =>e= .returned (.string ⟨(Go.Lib.itoa v).toArray⟩)/\Below w.heap.size w w':=by
   intro W1 hb
   go_enter Tryz.func56,Tryz.ntmps56
   go_wp2_with (go_at_call 129;refine(Any.strconv_Itoa yZ v hv.1 hv.2 _ (ARd _ hb)).mono ?_;rintro e w' ⟨rfl,k,os,rfl⟩)
   go_ret
   exact⟨rfl,hb.trans ((ud k os).mono hb.size)⟩
  go_enter Tryz.func153,Tryz.ntmps153
  go_wp2_with (first|(go_at_call 226;refine(Any.strconv_Atoi_ok ye s (by omega) v h _).mono ?_;rintro e w' ⟨rfl,hw⟩)|(go_at_call 56;refine(dig _ (by rcases hw with rfl|⟨t,rfl⟩;exact Below.refl _ _;exact Go.Lib.bytesWorld_below _ _ _)).mono ?_;rintro e w2 ⟨rfl,hb2⟩))
  ·rename_i w2 hb2 hc
   go_ret2
   refine⟨⟨_,_,e2 fun p q r=> ?_,rfl⟩,hb2⟩;rw[r,ByteArray.toList_eq]at hc;simp only[beq_self_eq_true,Bool.not_true,Bool.false_eq_true,or_false]at hc;omega
  ·rename_i w2 hb2 hc
   go_ret2
   refine⟨⟨_,_,e1 hc.1.1 hc.1.2 ?_,rfl⟩,hb2⟩;have:=hc.2;rw[ByteArray.toList_eq]at this;simpa using this
  ·go_ret2
   refine⟨⟨_,.inl ⟨e2 fun p q r=> ?_,rfl⟩⟩,?_⟩
   ·omega
   ·rcases hw with rfl|⟨t,rfl⟩
    ·exact Below.refl _ _
    ·exact Go.Lib.bytesWorld_below _ _ _
  ·go_ret2
   refine⟨⟨_,.inl ⟨e2 fun p q r=> ?_,rfl⟩⟩,?_⟩
   ·omega
   ·rcases hw with rfl|⟨t,rfl⟩
    ·exact Below.refl _ _
    ·exact Go.Lib.bytesWorld_below _ _ _
 |range=>
  have e0:Ei s.data.toList most=some (0,false):=by unfold Ei;rw[if_pos hl,h]
  obtain⟨ev,hv,he⟩:=hr
  go_enter Tryz.func153,Tryz.ntmps153
  go_wp2_with (go_at_call 226;refine(Any.strconv_Atoi_range ye s (by omega) h ev _ hv he).mono ?_;rintro e W1 ⟨N,rfl,-,-,hb⟩)
  go_ret2
  exact⟨⟨_,_,e0,rfl⟩,hb⟩
 |_=>
  have e0:Ei s.data.toList most=some (0,false):=by unfold Ei;rw[if_pos hl,h]
  obtain⟨ev,hv,he⟩:=hs
  go_enter Tryz.func153,Tryz.ntmps153
  go_wp2_with (go_at_call 226;refine(Any.strconv_Atoi_syntax ye s (by omega) h ev _ hv he).mono ?_;rintro e W1 ⟨N,rfl,-,-,hb⟩)
  go_ret2
  exact⟨⟨_,_,e0,rfl⟩,hb⟩
def s25:SQ:=txP (AAQ AAc (enters_of AAc.f146 (by kernel_rfl) rfl) AHz (by kernel_rfl)) rfl strings_Split (fun _=>rfl)
def AYO:SQ:=mk Tryz.func314 qG EZ PY [] [] [⟨2,⟨[(0,eC),(1,BA),(7,BA),(8,BA)],[]⟩,GJ⟩]
def ACI:SQ:=mk Tryz.func239 qG CA Bv [AYO] [] []
def AWD:SQ:=txP (ACE yZ (enters_of yZ.f171 (by kernel_rfl) rfl) ALM) rfl strconv_Itoa (fun _=>rfl)
def s79:SQ:=txP (AFR AI6 (enters_of AI6.f145 (by kernel_rfl) rfl) AHz) rfl strings_Cut (fun _=>rfl)
def s80:SQ:=txP (AAP AA7 (enters_of AA7.f109 (by kernel_rfl) rfl)) rfl KH (fun _=>rfl)
def AXa:SQ:=txP (nf ADr (enters_of ADr.f101 (by kernel_rfl) rfl)) rfl strings_TrimPrefix (fun _=>rfl)
def AX0:SQ:=txP (ub qB (enters_of qB.f144 (by kernel_rfl) rfl) AHz) rfl strings_Contains (fun _=>rfl)
abbrev i234:Bb:=⟨[(0,Zi),(1,BA),(2,AF3)],[LN]⟩
abbrev AWE:Bb:=⟨AJv,[Qu,LN]⟩
def AUy:SQ:=AQf (ρ:=J6 234 0 311 312 43 129) (nm:= "slices.Insert[[]loop.example/g00178/impl.Sent,loop.example/g00178/impl.Sent]") (fv:=Tryz.f311) tOk (qU.ins ⟨by kernel_rfl,by kernel_rfl,by kernel_rfl,by kernel_rfl,by kernel_rfl,by kernel_rfl,by kernel_rfl,by kernel_rfl,by kernel_rfl,by kernel_rfl,by kernel_rfl,by kernel_rfl⟩ mx (by kernel_rfl) (by kernel_rfl) (by kernel_rfl) (by kernel_rfl) (by kernel_rfl) (by kernel_rfl) (by kernel_rfl)) (r:=Y10) rfl (by kernel_rfl) (by kernel_rfl) EE (fun _=>rfl)
def AZ3:SQ:=AQf (ρ:=J6 359 0 380 381 99 173) (nm:= "slices.Insert[[]loop.example/g00178/impl.Entry,loop.example/g00178/impl.Entry]") (fv:=Tryz.f380) tOk (qU.ins ⟨by kernel_rfl,by kernel_rfl,by kernel_rfl,by kernel_rfl,by kernel_rfl,by kernel_rfl,by kernel_rfl,by kernel_rfl,by kernel_rfl,by kernel_rfl,by kernel_rfl,by kernel_rfl⟩ mx (by kernel_rfl) (by kernel_rfl) (by kernel_rfl) (by kernel_rfl) (by kernel_rfl) (by kernel_rfl) (by kernel_rfl)) (r:=Y1) rfl (by kernel_rfl) (by kernel_rfl) Dv (fun _=>rfl)
def AWL:SQ:=mk Tryz.func382 EZ CA cmp_isNaN_int [] [] []
def AYx:SQ:=mk Tryz.func361 qY CA cmp_Less_int [AWL] [] []
def AZ2:SQ:=mk Tryz.func362 EZ CA QI [] [] []
def AYe:SQ:=mk Tryz.func319 qG lK GP [AYx,AZ2] [] [⟨3,⟨[(0,eC),(1,BA),(6,BA),(7,BA),(8,BA)],[]⟩,Ds⟩]
def AYZ:SQ:=AQf (ρ:=J6 320 0 363 364 22 3) (nm:= "slices.Insert[[]int,int]") (fv:=Tryz.f363) tOk (qU.ins ⟨by kernel_rfl,by kernel_rfl,by kernel_rfl,by kernel_rfl,by kernel_rfl,by kernel_rfl,by kernel_rfl,by kernel_rfl,by kernel_rfl,by kernel_rfl,by kernel_rfl,by kernel_rfl⟩ mx (by kernel_rfl) (by kernel_rfl) (by kernel_rfl) (by kernel_rfl) (by kernel_rfl) (by kernel_rfl) (by kernel_rfl)) (r:=tI) rfl (by kernel_rfl) (by kernel_rfl) KJ (fun _=>rfl)
def AZ0:SQ:=AZA (ρ:=J6 0 172 0 0 40 105) (nm:= "slices.Delete[[]loop.example/g00178/impl.Writer,loop.example/g00178/impl.Writer]") tOk (qU.del ⟨by kernel_rfl,by kernel_rfl,by kernel_rfl,by kernel_rfl,by kernel_rfl,by kernel_rfl,by kernel_rfl,by kernel_rfl,by kernel_rfl,by kernel_rfl,by kernel_rfl,by kernel_rfl⟩ mx (by kernel_rfl) (by kernel_rfl)) (r:=Y6) 2 rfl (by kernel_rfl) (by kernel_rfl) FF (fun _=>rfl)
end
end Go.Proofs.YtbjkhapllnkhfaaGreatDoor.Wk
