/- Each function computes what was printed: by the kernel. -/
import Derived.Test.YtebiojjohcpanaaGreatG1
import Derived.Test.YtebiojjohcpanaaGreatProg
import Derived.KernelRfl
set_option linter.unusedVariables false
set_option linter.unusedSimpArgs false
set_option linter.unusedSectionVars false
namespace Go.Proofs.YtebiojjohcpanaaGreat.Wk
open Go Go.Fw Go.M Go.Proofs
noncomputable section
abbrev tI:Ty:= .int .i64
abbrev tU:Ty:= .int .u8
abbrev Y0:Ty:=(.cons (.sl tI) (.cons tI .unit))
abbrev Y1:Ty:=(.cons tI (.cons tI (.cons .bool (.cons .str .unit))))
abbrev Y2:Ty:=(.cons (.sl Y1) (.cons (.sl Y1) (.cons tI .unit)))
abbrev Y3:Ty:=(.cons (.sl tI) (.cons .bool (.cons tI .unit)))
abbrev Y4:Ty:=(.cons (.sl Y3) (.cons tI .unit))
abbrev Y5:Ty:=(.cons .str (.cons (.sl tI) (.cons .bool .unit)))
abbrev Y6:Ty:=(.cons tI (.cons (.sl Y5) .unit))
abbrev Y7:Ty:=(.cons tI (.cons tI (.cons (.sl tI) (.cons (.sl Y1) (.cons .bool (.cons (.sl (.sl tI)) .unit))))))
abbrev Y8:Ty:=(.cons tI (.cons tI (.cons .str .unit)))
abbrev Y9:Ty:=(.cons tI (.cons tI (.cons (.sl Y8) .unit)))
abbrev Y10:Ty:=(.cons tI (.cons .str (.cons .bool .unit)))
abbrev Y11:Ty:=(.cons (.sl tI) (.cons tI (.cons (.sl Y2) (.cons (.sl tI) (.cons (.sl Y3) (.cons tI (.cons (.sl Y6) (.cons (.sl Y7) (.cons (.sl Y9) (.cons (.sl Y10) (.cons .bool .unit)))))))))))
abbrev Y12:Ty:=(.cons tI (.cons tI (.cons tI (.cons tI (.cons .str .unit)))))
abbrev Y13:Ty:=(.cons (.sl tU) (.cons tI (.cons tI .unit)))
abbrev Y14:Ty:=(.cons tI (.cons .bool (.cons tI (.cons tI (.cons .bool (.cons .str .unit))))))
def T:Jw:=[(3,⟨1,8,.int .i64,some tI⟩),
 (4,⟨1,1,.bool,some .bool⟩),
 (5,⟨1,1,.int .u8,some tU⟩),
 (9,⟨1,16,.str,some .str⟩),
 (22,⟨1,24,.sl 5,some (.sl tU)⟩),
 (24,⟨1,24,.sl 3,some (.sl tI)⟩),
 (26,⟨2,32,.st [(0,24),(1,3)],some Y0⟩),
 (27,⟨1,24,.sl 94,some (.sl Y2)⟩),
 (28,⟨1,24,.sl 71,some (.sl Y3)⟩),
 (30,⟨2,32,.st [(0,28),(1,3)],some Y4⟩),
 (31,⟨1,24,.sl 63,some (.sl Y6)⟩),
 (32,⟨1,24,.sl 115,some (.sl Y7)⟩),
 (33,⟨1,24,.sl 49,some (.sl Y9)⟩),
 (34,⟨1,24,.sl 45,some (.sl Y10)⟩),
 (36,⟨11,216,.st [(0,26),(2,27),(3,24),(4,30),(6,31),(7,32),(8,33),(9,34),(10,4)],some Y11⟩),
 (37,⟨1,24,.sl 54,some (.sl Y12)⟩),
 (45,⟨3,32,.st [(0,3),(1,9),(2,4)],some Y10⟩),
 (47,⟨1,24,.sl 79,some (.sl Y8)⟩),
 (49,⟨3,40,.st [(0,3),(1,3),(2,47)],some Y9⟩),
 (54,⟨5,48,.st [(0,3),(1,3),(2,3),(3,3),(4,9)],some Y12⟩),
 (61,⟨1,24,.sl 162,some (.sl Y5)⟩),
 (63,⟨2,32,.st [(0,3),(1,61)],some Y6⟩),
 (71,⟨3,40,.st [(0,24),(1,4),(2,3)],some Y3⟩),
 (74,⟨1,8,.ptr 121,none⟩),
 (79,⟨3,32,.st [(0,3),(1,3),(2,9)],some Y8⟩),
 (87,⟨1,8,.other,none⟩),
 (92,⟨1,24,.sl 96,some (.sl Y1)⟩),
 (94,⟨3,56,.st [(0,92),(1,92),(2,3)],some Y2⟩),
 (96,⟨4,40,.st [(0,3),(1,3),(2,4),(3,9)],some Y1⟩),
 (103,⟨1,24,.sl 9,some (.sl .str)⟩),
 (113,⟨1,24,.sl 24,some (.sl (.sl tI))⟩),
 (115,⟨6,96,.st [(0,3),(1,3),(2,24),(3,92),(4,4),(5,113)],some Y7⟩),
 (121,⟨3,40,.st [(0,22),(1,3),(2,3)],some Y13⟩),
 (129,⟨1,8,.ptr 36,none⟩),
 (155,⟨1,8,.other,none⟩),
 (162,⟨3,48,.st [(0,9),(1,24),(2,4)],some Y5⟩),
 (189,⟨1,24,.sl 191,some (.sl Y14)⟩),
 (191,⟨6,56,.st [(0,3),(1,4),(2,96)],some Y14⟩),
 (199,⟨1,8,.other,none⟩),
 (202,⟨1,8,.int .u64,some (.int .u64)⟩),
 (205,⟨1,24,.sl 4,some (.sl .bool)⟩),
 (206,⟨1,8,.other,none⟩),
 (238,⟨1,8,.ptr 49,none⟩)]
theorem tOk:E5 Tryz.prog T:=qw (by kernel_rfl)
theorem mx:Tryz.prog.follows .mixedOrders=true:=by kernel_rfl
abbrev SQ:=SP Tryz.prog
def mk{f:Nat}{fn:Func}(hf:Tryz.prog.funcs[f]? =some fn)(i o:BE)(g:i.Cu (Option o.V))(l:List SQ)(h:List AGm)(L:List (Lp o))
  (hJ:Xz ⟨T,QN (SP.l l),B_ h⟩ ⟨i,o,i.un g⟩ fn (LU i.G8.length L) L:=by
   repeat refine Xz.cons (fun _=>rfl) (fun _ _ _=>by kernel_rfl) ?_
   exact Xz.nil)
  (he:∀ω v,Cy ⟨T,QN (SP.l l),B_ h⟩ ⟨i,o,i.un g⟩ fn (LU i.G8.length L Ac) ω v=i.un g v:=by intro ω v;kernel_rfl)
  (hL:kC fn=Lp.ls L:=by kernel_rfl) (hd:decide (Lp.ls L).Nodup=true:=by kernel_rfl) (hc:jt fn ⟨i,o,i.un g⟩=true:=by kernel_rfl):SQ:=
 mkP tOk mx hf i o g l h L Ac hL hd hc hJ he
abbrev xP0:XP:= .c (.v .bool)
abbrev J2:XP:= .c (.ptr 0 0)
abbrev BH:XP:= .c (.v tI)
abbrev To:XP:= .c (.ptr 1 0)
abbrev xP4:XP:= .c (.ptr 3 0)
abbrev sX:XP:= .row Y0
abbrev bV:XP:= .c (.sl false tI)
abbrev xP7:XP:= .c (.ref 1)
abbrev ot:XP:= .c (.ref 0)
abbrev xP9:XP:= .c (.ptr 2 0)
abbrev ze:XP:= .c (.v .str)
abbrev Yo:XP:= .c (.sl false Y1)
abbrev APu:XP:= .agg [.ref 0,.v tI,.ref 1,.ref 2,.ref 3,.v tI,.ref 4,.ref 5,.ref 6,.ref 7,.v .bool]
abbrev aL:XP:= .c (.ptr 10 0)
abbrev iO:XP:= .c (.ptr 8 0)
abbrev eU:XP:= .c (.ptr 9 0)
abbrev oV:XP:= .c (.ptr 18 0)
abbrev oX:XP:= .c (.ptr 4 0)
abbrev gF:XP:= .c (.ptr 19 0)
abbrev ub:XP:= .c (.sl false Y2)
abbrev ACG:XP:= .c (.ptr 6 0)
abbrev s8:XP:= .c (.sl false Y14)
abbrev AKb:XP:= .c (.sB 252 [(.cons (.sl tI) .unit)])
abbrev xc:XP:= .c (.oe Y11)
abbrev AKR:XP:= .c (.sl false Y5)
abbrev ALB:XP:= .c (.sl false (.sl tI))
abbrev AK6:XP:= .c (.sl false Y10)
abbrev AKT:XP:= .c (.sB 248 [(.cons tI .unit)])
abbrev ALD:XP:= .c (.sB 276 [(.cons tI .unit)])
abbrev XQ:BP:= .mem [.sl true tU,.v tI,.v tI]
abbrev FG:BP:= .sl 9 tI
abbrev AQg:BP:= .mem [.ref 2,.v tI]
abbrev ARO:BP:= .mem [.ref 4,.v tI]
abbrev oH:BP:= .mem [.sl false tI,.v tI]
abbrev aF:BP:= .sl 9 Y2
abbrev Qg:BP:= .sl 9 Y3
abbrev aD:BP:= .sl 9 Y6
abbrev Z6:BP:= .sl 9 Y7
abbrev aH:BP:= .sl 9 Y9
abbrev Yp:BP:= .sl 9 Y10
abbrev AO1:BP:= .mem [.sl false Y3,.v tI]
abbrev zX:BP:= .mem [.sl false tI,.v tI,.sl false Y2,.sl false tI,.sl false Y3,.v tI,.sl false Y6,.sl false Y7,.sl false Y9,.sl false Y10,.v .bool]
abbrev AE2:BP:= .mem [.v tI,.v tI,.v tI,.v tI,.v .str]
abbrev yf:BP:= .mem [.v tI,.v tI,.sl false tI,.sl false Y1,.v .bool,.sl false (.sl tI)]
abbrev AHq:BP:= .mem [.v tI,.sl false Y5]
abbrev Ju:BP:= .sl 9 Y1
abbrev lN:BP:= .sl 9 Y5
abbrev ki:BP:= .sl 9 (.sl tI)
abbrev ACS:BP:= .mem [.ref 2,.v tI,.ref 3,.ref 4,.ref 5,.v tI,.ref 6,.ref 7,.ref 8,.ref 9,.v .bool]
abbrev z_:BP:= .mem [.ref 11,.v tI,.ref 12,.ref 13,.ref 14,.v tI,.ref 15,.ref 16,.ref 17,.ref 18,.v .bool]
abbrev C0:BP:= .sl 1 tI
abbrev W6:BP:= .sl 2 Y2
abbrev LL:BP:= .sl 2 Y3
abbrev Tm:BP:= .sl 3 Y6
abbrev Tn:BP:= .sl 3 Y7
abbrev M4:BP:= .sl 2 Y9
abbrev JP:BP:= .sl 1 Y10
abbrev Iv:BP:= .gone
abbrev sM:BP:= .mem [.ref 0,.v tI,.ref 1,.ref 2,.ref 3,.v tI,.ref 4,.ref 5,.ref 6,.ref 7,.v .bool]
abbrev sY:BP:= .mem [.ref 10,.v tI,.ref 11,.ref 12,.ref 13,.v tI,.ref 14,.ref 15,.ref 16,.ref 17,.v .bool]
abbrev AXS:BP:= .mem [.v tI,.v .str,.v .bool]
abbrev AC8:BP:= .mem [.v tI,.v tI,.v .bool,.v .str]
abbrev APp:BP:= .mem [.sl false Y1,.sl false Y1,.v tI]
abbrev AET:BP:= .mem [.ref 2,.ref 3,.v tI]
abbrev AG3:BP:= .mem [.ref 5,.ref 6,.v tI]
abbrev TQ:BP:= .sl 1 Y2
abbrev cF:BP:= .sl 1 Y6
abbrev mZ:BP:= .sl 1 Y7
abbrev zU:BP:= .mem [.sl true Y1,.sl true Y1,.v tI]
abbrev AOn:BP:= .mem [.v tI,.sl true Y5]
abbrev ASo:BP:= .mem [.v tI,.ref 3]
abbrev AVC:BP:= .mem [.v tI,.v tI,.ref 1,.ref 2,.v .bool,.ref 3]
abbrev AW_:BP:= .mem [.v tI,.v tI,.ref 5,.ref 6,.v .bool,.ref 7]
abbrev ARa:BP:= .mem [.v tI,.v tI,.ref 3,.ref 4,.v .bool,.ref 5]
abbrev AN1:BP:= .mem [.v tI,.v tI,.ref 7,.ref 8,.v .bool,.ref 9]
abbrev yu:BP:= .mem [.ref 1,.v tI,.ref 2,.ref 3,.ref 4,.v tI,.ref 5,.ref 6,.ref 7,.ref 8,.v .bool]
abbrev APO:BP:= .mem [.ref 1,.v tI,.ref 2,.ref 9,.ref 4,.v tI,.ref 5,.ref 6,.ref 7,.ref 8,.v .bool]
abbrev ou:List (Nat×XP):=[(0,BH)]
abbrev ARX:List (Nat×XP):=[(0,.agg [.ref 1,.v tI])]
abbrev AIh:List (Nat×XP):=[(1,J2),(3,BH)]
abbrev ARo:List (Nat×XP):=[(0,.Nb [.inr [.ref 0,.v tI,.ref 1,.ref 2,.ref 3,.v tI,.ref 4,.ref 5,.ref 6,.ref 7,.v .bool],.inl (.v .bool)])]
abbrev AFZ:List (Nat×XP):=[(0,ot)]
abbrev AHi:List (Nat×XP):=[(0,xP7)]
abbrev AXY:List (Nat×XP):=[(0,.agg [.v tI,.v tI,.v tI,.v tI,.v .str])]
abbrev AWf:List (Nat×XP):=[(2,J2),(3,To),(5,BH),(6,BH)]
abbrev AU8:List (Nat×XP):=[(1,J2),(2,To),(3,xP4),(4,BH)]
abbrev AQR:List (Nat×XP):=[(0,APu)]
abbrev AW7:List (Nat×XP):=[(0,.Nb [.inr [.ref 0,.ref 1,.v tI],.inl (.v .bool)])]
abbrev AN5:List (Nat×XP):=[(0,.Nb [.inr [.ref 0,.v tI,.ref 1,.ref 2,.ref 3,.v tI,.ref 4,.ref 5,.ref 6,.ref 7,.v .bool],.inl (.v tI)])]
abbrev AWA:List (Nat×XP):=[(0,.agg [.v tI,.v tI,.v .bool,.v .str])]
abbrev AWR:List (Nat×XP):=[(0,.Nb [.inr [.v tI,.ref 0],.inl (.v .bool)])]
abbrev ATn:List (Nat×XP):=[(0,.Nb [.inr [.v tI,.v tI,.ref 0,.ref 1,.v .bool,.ref 2],.inl (.v .bool)])]
abbrev AVQ:List (Nat×XP):=[(0,.Nb [.inr [.ref 0,.v tI,.ref 1,.ref 8,.ref 3,.v tI,.ref 4,.ref 5,.ref 6,.ref 7,.v .bool],.inl (.v tI)])]
abbrev AW4:List (Nat×XP):=[(0,.Nb [.inr [.ref 1,.ref 2,.v tI],.inl (.v .bool)])]
abbrev AW9:List (Nat×XP):=[(0,.Nb [.inr [.v tI,.v tI,.ref 0],.inl (.v tI)])]
abbrev AWn:List (Nat×XP):=[(0,J2),(3,To),(4,xP9),(5,oX),(6,BH)]
abbrev AWi:List (Nat×XP):=[(0,J2),(1,BH),(2,BH)]
abbrev oy:List BP:=[XQ]
abbrev AXK:List BP:=[XQ,FG]
abbrev ASd:List BP:=[oH]
abbrev ANW:List BP:=[FG,aF,FG,Qg,aD,Z6,aH,Yp]
abbrev gi:List BP:=[FG]
abbrev ANC:List BP:=[XQ,oH,FG]
abbrev AAs:List BP:=[zX]
abbrev AMu:List BP:=[oH,AO1]
abbrev AMv:List BP:=[oH,AHq]
abbrev AGc:List BP:=[oH,yf]
abbrev ANj:List BP:=[FG,Ju,ki]
abbrev AEi:List BP:=[yf,.mem [.v tI,.v tI,.ref 2,.ref 3,.v .bool,.ref 4],FG,Ju,ki,.mem [.v tI,.v tI,.ref 6,.ref 7,.v .bool,.ref 8],FG,Ju,ki]
abbrev dH:List BP:=[zX,ACS,FG,aF,FG,Qg,aD,Z6,aH,Yp,z_,FG,aF,FG,Qg,aD,Z6,aH,Yp]
abbrev AEx:List BP:=[C0,W6,C0,LL,Tm,Tn,M4,JP]
abbrev AGG:List BP:=[C0,TQ,C0,LL,cF,mZ,M4,JP]
abbrev ABd:List BP:=[C0,TQ,C0,LL,cF,Tn,M4,JP,sM,sY,FG,aF,FG,Qg,aD,Z6,aH,Yp,zU,AOn]
abbrev ANp:List BP:=[.mem [.v tI,.ref 1],lN,ASo,lN]
abbrev AMe:List BP:=[AVC,FG,Ju,ki,AW_,FG,Ju,ki]
abbrev ANd:List BP:=[C0,W6,C0,LL,Tm,Tn,M4,JP,.mem [.ref 0,.v tI,.ref 1,.ref 9,.ref 3,.v tI,.ref 4,.ref 5,.ref 6,.ref 7,.v .bool],FG,AE2,.mem [.ref 12,.v tI,.ref 13,.ref 14,.ref 15,.v tI,.ref 16,.ref 17,.ref 18,.ref 19,.v .bool],FG,aF,FG,Qg,aD,Z6,aH,Yp]
abbrev AMy:List BP:=[TQ,AET,Ju,Ju,AG3,Ju,Ju,TQ]
abbrev AFv:List BP:=[oH,FG]
abbrev ANh:List BP:=[XQ,ACS,FG,aF,FG,Qg,aD,Z6,aH,Yp,z_,FG,aF,FG,Qg,aD,Z6,aH,Yp,.mem [.ref 20,.v tI],FG,FG]
abbrev AA_:List BP:=[XQ,AET,Ju,Ju,AG3,Ju,Ju]
abbrev AA3:List BP:=[XQ,oH,ARa,FG,Ju,ki,AN1,FG,Ju,ki]
abbrev tZ:List BP:=[C0]
abbrev gd:List BP:=[yu,C0,W6,C0,LL,Tm,Tn,M4,JP]
abbrev tW:List BP:=[.sl 1 Y1]
abbrev ANi:List BP:=[APO,C0,W6,C0,LL,Tm,Tn,M4,JP,C0]
abbrev AMj:List BP:=[.mem [.v tI,.v tI,.ref 1],.sl 1 Y8]
abbrev ANb:List BP:=[yu,C0,W6,C0,LL,Tm,Tn,.sl 1 Y9,JP]
abbrev AMx:List BP:=[C0,TQ,C0,LL,Tm,.sl 2 Y7,.sl 1 Y9,JP]
abbrev Cf:BE:=⟨[(0,xP0)],[]⟩
abbrev AFK:BE:=⟨[(0,.c (.sl true tU))],[]⟩
abbrev gj:BE:=⟨[(0,J2)],oy⟩
abbrev Fo:BE:=⟨ou,[]⟩
abbrev AA1:BE:=⟨ou,oy⟩
abbrev AF1:BE:=⟨[(0,J2),(1,BH)],oy⟩
abbrev ANq:BE:=⟨ARX,AXK⟩
abbrev ANg:BE:=⟨[(0,BH),(1,BH),(2,BH)],[]⟩
abbrev ABW:BE:=⟨[(0,sX)],[]⟩
abbrev mr:BE:=⟨[(0,sX),(1,bV)],[]⟩
abbrev ABI:BE:=⟨[(0,.agg [.v tI,.v tI,.ref 0])],[.sl 9 Y8]⟩
abbrev mw:BE:=⟨[(0,BH),(1,BH)],[]⟩
abbrev nE:BE:=⟨[(0,bV),(1,BH)],[]⟩
abbrev bX:BE:=⟨AFZ,gi⟩
abbrev nF:BE:=⟨[(0,J2),(1,sX)],oy⟩
abbrev ANO:BE:=⟨AHi,AXK⟩
abbrev ABA:BE:=⟨[(0,.row Y4)],[]⟩
abbrev ANf:BE:=⟨[(0,.row Y4),(1,BH)],[]⟩
abbrev ADy:BE:=⟨[(0,J2),(1,.row Y11)],oy⟩
abbrev ADt:BE:=⟨AXY,oy⟩
abbrev AEI:BE:=⟨[(0,Yo),(1,BH)],[]⟩
abbrev AAk:BE:=⟨[(0,Yo)],[]⟩
abbrev nq:BE:=⟨[(0,.row Y2)],[]⟩
abbrev nR:BE:=⟨[(0,.row Y11)],[]⟩
abbrev ANU:BE:=⟨AIh,AAs⟩
abbrev AEo:BE:=⟨[(0,sX),(1,.row Y4)],[]⟩
abbrev AFH:BE:=⟨[(0,sX),(1,.row Y6)],[]⟩
abbrev wM:BE:=⟨[(0,.row Y7)],[]⟩
abbrev tK:BE:=⟨[(0,sX),(1,.row Y7)],[]⟩
abbrev AMl:BE:=⟨[(2,J2),(3,To),(5,BH)],AGc⟩
abbrev ABJ:BE:=⟨[(0,.row Y9)],[]⟩
abbrev AFV:BE:=⟨[(0,.row Y12)],[]⟩
abbrev AF6:BE:=⟨[(0,.agg [.ref 0,.v tI])],[Qg]⟩
abbrev AEG:BE:=⟨[(0,.agg [.ref 0,.ref 1,.v tI])],[Ju,Ju]⟩
abbrev ABC:BE:=⟨[(0,.row Y6)],[]⟩
abbrev AEW:BE:=⟨[(0,.agg [.v tI,.ref 0])],[lN]⟩
abbrev xG:BE:=⟨[(0,.agg [.v tI,.v tI,.ref 0,.ref 1,.v .bool,.ref 2])],ANj⟩
abbrev AEE:BE:=⟨AQR,ANW⟩
abbrev AM8:BE:=⟨[(0,sX),(1,.row Y4),(2,bV)],[]⟩
abbrev ANQ:BE:=⟨[(0,.Nb [.inr [.ref 0,.v tI],.inl (.v tI),.inl (.v .bool)])],[Qg]⟩
abbrev dN:BE:=⟨[(0,APu),(1,.row Y12)],AEx⟩
abbrev rC:BE:=⟨[(0,.row Y11),(1,BH)],[]⟩
abbrev ANm:BE:=⟨[(0,sX),(1,.row Y6),(2,ze)],[]⟩
abbrev ANe:BE:=⟨[(0,.Nb [.inr [.v tI,.ref 0],.inl (.v tI),.inl (.v .bool)])],[lN]⟩
abbrev AEr:BE:=⟨[(0,.row Y2),(1,.row Y1)],[]⟩
abbrev tY:BE:=⟨AW7,[Ju,Ju]⟩
abbrev uK:BE:=⟨AN5,AEx⟩
abbrev ANK:BE:=⟨[(0,.row Y1),(1,.row Y1)],[]⟩
abbrev AM0:BE:=⟨AWA,[]⟩
abbrev wi:BE:=⟨AFZ,[Ju]⟩
abbrev j6:BE:=⟨[(0,.row Y2),(1,BH)],[]⟩
abbrev ANP:BE:=⟨[(1,BH),(2,J2),(4,To),(6,oX),(7,BH)],[APp,AET,Ju,Ju,AG3,Ju,Ju]⟩
abbrev wj:BE:=⟨[(0,.Nb [.inr [.v tI,.v tI,.v .bool,.v .str],.inl (.v .bool)])],[]⟩
abbrev AMz:BE:=⟨[(0,sX),(1,.row Y6),(2,BH),(3,BH)],[]⟩
abbrev AMq:BE:=⟨AWR,[lN]⟩
abbrev rN:BE:=⟨[(0,.Nb [.inl (.v tI),.inl (.v .bool)])],[]⟩
abbrev AMs:BE:=⟨[(0,.row Y7),(1,BH)],[]⟩
abbrev AM3:BE:=⟨[(0,sX),(1,.row Y7),(2,BH),(3,BH)],[]⟩
abbrev xj:BE:=⟨ATn,ANj⟩
abbrev ANR:BE:=⟨AN5,AGG⟩
abbrev AFo:BE:=⟨[(0,bV),(1,bV)],[]⟩
abbrev AMZ:BE:=⟨[(0,sX),(1,.row Y6),(2,BH)],[]⟩
abbrev ANM:BE:=⟨[(0,sX),(1,.row Y7),(2,BH)],[]⟩
abbrev ANJ:BE:=⟨[(0,sX),(1,ot),(2,bV),(3,BH),(4,BH)],[W6]⟩
abbrev AE4:BE:=⟨AQR,AEx⟩
abbrev AMw:BE:=⟨[(0,sX),(1,.row Y7),(2,BH),(3,Yo)],[]⟩
abbrev AEH:BE:=⟨[(0,sX),(1,bV),(2,bV)],[]⟩
abbrev AND:BE:=⟨[(0,sX),(1,.row Y7),(2,bV)],[]⟩
abbrev AMW:BE:=⟨[(0,sX),(1,.row Y4),(2,BH),(3,BH)],[]⟩
abbrev AA4:BE:=⟨[(0,.Nb [.inr [.ref 0,.v tI],.inl (.v .bool)])],[Qg]⟩
abbrev ANT:BE:=⟨[(0,sX),(1,.row Y4),(2,BH)],[]⟩
abbrev AMg:BE:=⟨[(1,BH),(2,J2),(5,BH)],AAs⟩
abbrev ANH:BE:=⟨[(0,sX),(1,.row Y4),(2,BH),(3,.row Y9),(4,s8)],[]⟩
abbrev AM6:BE:=⟨[(0,.row Y11),(1,.row Y12)],[]⟩
abbrev AX_:BE:=⟨[(0,J2),(4,To),(6,aL),(10,gF),(12,.c (.ptr 28 0)),(13,.c (.ref 37)),(14,BH),(15,BH)],[XQ,ACS,FG,aF,FG,Qg,aD,Z6,aH,Yp,z_,FG,aF,FG,Qg,aD,Z6,aH,Yp,.mem [.ref 20,.v tI,.ref 21,.ref 22,.ref 23,.v tI,.ref 24,.ref 25,.ref 26,.ref 27,.v .bool],Iv,Iv,Iv,Iv,Iv,Iv,Iv,Iv,.mem [.ref 29,.v tI,.ref 30,.ref 31,.ref 32,.v tI,.ref 33,.ref 34,.ref 35,.ref 36,.v .bool],C0,TQ,C0,LL,cF,mZ,M4,JP,.sl 9 Y12]⟩
abbrev ANc:BE:=⟨AWA,oy⟩
abbrev AMa:BE:=⟨[(0,.agg [.ref 1,.ref 2,.v tI])],[XQ,Ju,Ju]⟩
abbrev ANA:BE:=⟨[(0,.agg [.v tI,.v tI,.ref 1,.ref 2,.v .bool,.ref 3])],[XQ,FG,Ju,ki]⟩
abbrev ANn:BE:=⟨AHi,[Iv,C0]⟩
abbrev ABH:BE:=⟨AFZ,tZ⟩
abbrev ABN:BE:=⟨[(0,xc),(1,BH)],[]⟩
abbrev xZ:BE:=⟨[(0,xc)],[]⟩
abbrev tM:BE:=⟨[(0,J2),(1,BH)],gd⟩
abbrev qX:BE:=⟨ou,gd⟩
abbrev AMV:BE:=⟨[(0,J2),(1,.row Y12)],gd⟩
abbrev ANG:BE:=⟨AHi,[Iv,.sl 1 Y1]⟩
abbrev AAn:BE:=⟨AW7,[.sl 1 Y1,Ju]⟩
abbrev ANV:BE:=⟨AWR,[.sl 2 Y5]⟩
abbrev AAi:BE:=⟨AWi,gd⟩
abbrev AM1:BE:=⟨[(0,.Nb [])],gd⟩
abbrev AFw:BE:=⟨[(0,J2),(1,BH),(2,BH),(6,BH)],gd⟩
abbrev ANF:BE:=⟨ATn,[FG,Ju,.sl 2 (.sl tI)]⟩
abbrev AGH:BE:=⟨[(0,J2)],gd⟩
abbrev AM4:BE:=⟨[(0,.Nb [])],[.mem [.v tI,.v tI,.ref 2],Iv,.sl 1 Y8]⟩
abbrev AMr:BE:=⟨[(0,.row Y11),(1,BH),(2,ze)],[]⟩
def s9:SQ:=mk Tryz.func9 ⟨[(0,.c (.sl false tU))],[]⟩ Cf rr [] [] []
def s38:SQ:=mk Tryz.func38 AFK gj cE [] [] [⟨3,⟨[(0,.c (.sl true tU)),(3,BH),(4,BH)],[]⟩,QW⟩]
abbrev i39:BE:=⟨[(0,.c (.sl false tU)),(1,BH),(2,BH)],[]⟩
abbrev o39:BE:=Fo
def s39:SQ:=mk Tryz.func39 i39 o39 Vh [] [] []
def AbJ:SQ:=mk Tryz.func155 gj AA1 Mg [] [(2,[0]),(3,[0]),(4,[0])] []
abbrev yg:BE:=AF1
abbrev o63:BE:=AA1
def mg:SQ:=mk Tryz.func63 yg o63 AL [AbJ] [] []
abbrev i62:BE:=AF1
abbrev o62:BE:=⟨[(0,xP0)],oy⟩
def s62:SQ:=mk Tryz.func62 i62 o62 BA [mg] [] []
def s81:SQ:=mk Tryz.func81 gj ANq L_ [s62,mg] [(6,[1,2])] [⟨4,⟨[(0,J2),(2,To),(3,xP4),(4,BH),(5,BH)],[XQ,AQg,FG,ARO,FG]⟩,Im⟩] (hJ:= .cons (fun _=>rfl) (fun n v ω=>by rcases ω with _|⟨_|_,_|⟨_|_,_⟩⟩<;>kernel_rfl) (.nil))
def Ym:SQ:=mk Tryz.func129 ANg Cf CG [] [] []
abbrev i167:BE:=ABW
abbrev AbX:BE:=Cf
def wR:SQ:=mk Tryz.func167 i167 AbX Gg [Ym] [] [⟨4,⟨AIh,ASd⟩,Lv⟩]
def AVg:SQ:=mk Tryz.func163 ⟨[(0,bV),(1,BH),(2,BH)],[]⟩ Cf Yc [Ym] [] [⟨2,⟨[(0,bV),(1,BH),(2,BH),(7,BH)],[]⟩,Nk⟩]
def zw:SQ:=mk Tryz.func165 mr Cf Gx [AVg,wR] [] []
def AX7:SQ:=mk Tryz.func166 mr Fo VD [] [(6,[0,1])] [⟨4,⟨[(1,bV),(2,J2),(5,xP7),(6,BH),(7,BH)],[oH,.sl 9 .bool]⟩,Oe⟩]
abbrev i82:BE:=mr
abbrev o82:BE:=Cf
def s82:SQ:=mk Tryz.func82 i82 o82 Ey [zw,AX7] [(1,[0])] []
abbrev i168:BE:=⟨[],[]⟩
abbrev AcR:BE:=ABI
def AUi:SQ:=mk Tryz.func168 i168 AcR YH [] [] []
abbrev i83:BE:=ABW
abbrev o83:BE:=⟨ARo,ANW⟩
def c83:Qf:=⟨i83,o83,(i83.un Hi)⟩
def C83:aZ:=⟨T,QN (SP.l [wR,AUi]),B_ [(3,[0,1]),(4,[0,4])]⟩
def L83:List (Lp o83):=[]
def BC(ω:List Bool):Prop:= ∀(n:Nat) (v:i83.V),Cy C83 c83 Tryz.f83 (LU 0 L83 n) ω v=i83.un (Hi) v
theorem AUp:BC []:=by delta BC;intros;kernel_rfl
theorem AVM:BC (false::[]):=by delta BC;intros;kernel_rfl
theorem AWx:BC (false::false::[]):=by delta BC;intros;kernel_rfl
theorem AUy:BC (false::false::false::[]):=by delta BC;intros;kernel_rfl
theorem AWb:BC (false::false::false::false::[]):=by delta BC;intros;kernel_rfl
theorem AV4:BC (false::false::false::false::false::[]):=by delta BC;intros;kernel_rfl
theorem AXd:BC (false::false::false::false::false::false::[]):=by delta BC;intros;kernel_rfl
theorem AW3:BC (false::false::false::false::false::false::false::[]):=by delta BC;intros;kernel_rfl
theorem AYB(ω:List Bool):BC (false::false::false::false::false::false::false::false::ω):=by delta BC;intros;kernel_rfl
theorem AO4(ω:List Bool):BC (false::false::false::false::false::false::false::true::ω):=by delta BC;intros;kernel_rfl
theorem ATN:BC (false::false::false::false::false::false::true::[]):=by delta BC;intros;kernel_rfl
theorem ARd(ω:List Bool):BC (false::false::false::false::false::false::true::false::ω):=by delta BC;intros;kernel_rfl
theorem AOk(ω:List Bool):BC (false::false::false::false::false::false::true::true::ω):=by delta BC;intros;kernel_rfl
theorem AQA:BC (false::false::false::false::false::true::[]):=by delta BC;intros;kernel_rfl
theorem AQ2(ω:List Bool):BC (false::false::false::false::false::true::false::ω):=by delta BC;intros;kernel_rfl
theorem AOW(ω:List Bool):BC (false::false::false::false::false::true::true::ω):=by delta BC;intros;kernel_rfl
theorem APv:BC (false::false::false::false::true::[]):=by delta BC;intros;kernel_rfl
theorem ATZ:BC (false::false::false::false::true::false::[]):=by delta BC;intros;kernel_rfl
theorem AQY(ω:List Bool):BC (false::false::false::false::true::false::false::ω):=by delta BC;intros;kernel_rfl
theorem APc(ω:List Bool):BC (false::false::false::false::true::false::true::ω):=by delta BC;intros;kernel_rfl
theorem ARS(ω:List Bool):BC (false::false::false::false::true::true::ω):=by delta BC;intros;kernel_rfl
theorem ATJ:BC (false::false::false::true::[]):=by delta BC;intros;kernel_rfl
theorem ASO:BC (false::false::false::true::false::[]):=by delta BC;intros;kernel_rfl
theorem ATe(ω:List Bool):BC (false::false::false::true::false::false::ω):=by delta BC;intros;kernel_rfl
theorem ARF(ω:List Bool):BC (false::false::false::true::false::true::ω):=by delta BC;intros;kernel_rfl
theorem AQ6(ω:List Bool):BC (false::false::false::true::true::ω):=by delta BC;intros;kernel_rfl
theorem ANx:BC (false::false::true::[]):=by delta BC;intros;kernel_rfl
theorem AP8:BC (false::false::true::false::[]):=by delta BC;intros;kernel_rfl
theorem ARm:BC (false::false::true::false::false::[]):=by delta BC;intros;kernel_rfl
theorem AN4(ω:List Bool):BC (false::false::true::false::false::false::ω):=by delta BC;intros;kernel_rfl
theorem AOR(ω:List Bool):BC (false::false::true::false::false::true::ω):=by delta BC;intros;kernel_rfl
theorem AQW(ω:List Bool):BC (false::false::true::false::true::ω):=by delta BC;intros;kernel_rfl
theorem ASP(ω:List Bool):BC (false::false::true::true::ω):=by delta BC;intros;kernel_rfl
theorem AQb:BC (false::true::[]):=by delta BC;intros;kernel_rfl
theorem ARi:BC (false::true::false::[]):=by delta BC;intros;kernel_rfl
theorem ASC:BC (false::true::false::false::[]):=by delta BC;intros;kernel_rfl
theorem APG(ω:List Bool):BC (false::true::false::false::false::ω):=by delta BC;intros;kernel_rfl
theorem AR8(ω:List Bool):BC (false::true::false::false::true::ω):=by delta BC;intros;kernel_rfl
theorem AQu(ω:List Bool):BC (false::true::false::true::ω):=by delta BC;intros;kernel_rfl
theorem AOB(ω:List Bool):BC (false::true::true::ω):=by delta BC;intros;kernel_rfl
theorem AOL:BC (true::[]):=by delta BC;intros;kernel_rfl
theorem ASA:BC (true::false::[]):=by delta BC;intros;kernel_rfl
theorem AQZ:BC (true::false::false::[]):=by delta BC;intros;kernel_rfl
theorem AON:BC (true::false::false::false::[]):=by delta BC;intros;kernel_rfl
theorem AOz:BC (true::false::false::false::false::[]):=by delta BC;intros;kernel_rfl
theorem AO5:BC (true::false::false::false::false::false::[]):=by delta BC;intros;kernel_rfl
theorem AOg:BC (true::false::false::false::false::false::false::[]):=by delta BC;intros;kernel_rfl
theorem ARg:BC (true::false::false::false::false::false::false::false::[]):=by delta BC;intros;kernel_rfl
theorem ASD(ω:List Bool):BC (true::false::false::false::false::false::false::false::false::ω):=by delta BC;intros;kernel_rfl
theorem ARC(ω:List Bool):BC (true::false::false::false::false::false::false::false::true::ω):=by delta BC;intros;kernel_rfl
theorem AST:BC (true::false::false::false::false::false::false::true::[]):=by delta BC;intros;kernel_rfl
theorem APZ(ω:List Bool):BC (true::false::false::false::false::false::false::true::false::ω):=by delta BC;intros;kernel_rfl
theorem APo(ω:List Bool):BC (true::false::false::false::false::false::false::true::true::ω):=by delta BC;intros;kernel_rfl
theorem ARP:BC (true::false::false::false::false::false::true::[]):=by delta BC;intros;kernel_rfl
theorem ARv(ω:List Bool):BC (true::false::false::false::false::false::true::false::ω):=by delta BC;intros;kernel_rfl
theorem ARe(ω:List Bool):BC (true::false::false::false::false::false::true::true::ω):=by delta BC;intros;kernel_rfl
theorem AQl:BC (true::false::false::false::false::true::[]):=by delta BC;intros;kernel_rfl
theorem AP7:BC (true::false::false::false::false::true::false::[]):=by delta BC;intros;kernel_rfl
theorem AS9(ω:List Bool):BC (true::false::false::false::false::true::false::false::ω):=by delta BC;intros;kernel_rfl
theorem ARq(ω:List Bool):BC (true::false::false::false::false::true::false::true::ω):=by delta BC;intros;kernel_rfl
theorem AO7(ω:List Bool):BC (true::false::false::false::false::true::true::ω):=by delta BC;intros;kernel_rfl
theorem APw:BC (true::false::false::false::true::[]):=by delta BC;intros;kernel_rfl
theorem ATx:BC (true::false::false::false::true::false::[]):=by delta BC;intros;kernel_rfl
theorem AP2(ω:List Bool):BC (true::false::false::false::true::false::false::ω):=by delta BC;intros;kernel_rfl
theorem ARt(ω:List Bool):BC (true::false::false::false::true::false::true::ω):=by delta BC;intros;kernel_rfl
theorem AQe(ω:List Bool):BC (true::false::false::false::true::true::ω):=by delta BC;intros;kernel_rfl
theorem ARl:BC (true::false::false::true::[]):=by delta BC;intros;kernel_rfl
theorem AOs:BC (true::false::false::true::false::[]):=by delta BC;intros;kernel_rfl
theorem AOH:BC (true::false::false::true::false::false::[]):=by delta BC;intros;kernel_rfl
theorem ASJ(ω:List Bool):BC (true::false::false::true::false::false::false::ω):=by delta BC;intros;kernel_rfl
theorem AQB(ω:List Bool):BC (true::false::false::true::false::false::true::ω):=by delta BC;intros;kernel_rfl
theorem APN(ω:List Bool):BC (true::false::false::true::false::true::ω):=by delta BC;intros;kernel_rfl
theorem ARf(ω:List Bool):BC (true::false::false::true::true::ω):=by delta BC;intros;kernel_rfl
theorem AQD:BC (true::false::true::[]):=by delta BC;intros;kernel_rfl
theorem AOx:BC (true::false::true::false::[]):=by delta BC;intros;kernel_rfl
theorem AQ8:BC (true::false::true::false::false::[]):=by delta BC;intros;kernel_rfl
theorem AQq(ω:List Bool):BC (true::false::true::false::false::false::ω):=by delta BC;intros;kernel_rfl
theorem ATH(ω:List Bool):BC (true::false::true::false::false::true::ω):=by delta BC;intros;kernel_rfl
theorem ATA(ω:List Bool):BC (true::false::true::false::true::ω):=by delta BC;intros;kernel_rfl
theorem AP6(ω:List Bool):BC (true::false::true::true::ω):=by delta BC;intros;kernel_rfl
theorem ASr:BC (true::true::[]):=by delta BC;intros;kernel_rfl
theorem AS1:BC (true::true::false::[]):=by delta BC;intros;kernel_rfl
theorem AP_:BC (true::true::false::false::[]):=by delta BC;intros;kernel_rfl
theorem ATl(ω:List Bool):BC (true::true::false::false::false::ω):=by delta BC;intros;kernel_rfl
theorem ATr(ω:List Bool):BC (true::true::false::false::true::ω):=by delta BC;intros;kernel_rfl
theorem AN2(ω:List Bool):BC (true::true::false::true::ω):=by delta BC;intros;kernel_rfl
theorem AQX(ω:List Bool):BC (true::true::true::ω):=by delta BC;intros;kernel_rfl
theorem e83(n:Nat)(ω:List Bool)(v:i83.V):Cy C83 c83 Tryz.f83 (LU 0 L83 n) ω v=i83.un (Hi) v:=(AF AUp (AF AVM (AF AWx (AF AUy (AF AWb (AF AV4 (AF AXd (AF AW3 AYB AO4) (AF ATN ARd AOk)) (AF AQA AQ2 AOW)) (AF APv (AF ATZ AQY APc) ARS)) (AF ATJ (AF ASO ATe ARF) AQ6)) (AF ANx (AF AP8 (AF ARm AN4 AOR) AQW) ASP)) (AF AQb (AF ARi (AF ASC APG AR8) AQu) AOB)) (AF AOL (AF ASA (AF AQZ (AF AON (AF AOz (AF AO5 (AF AOg (AF ARg ASD ARC) (AF AST APZ APo)) (AF ARP ARv ARe)) (AF AQl (AF AP7 AS9 ARq) AO7)) (AF APw (AF ATx AP2 ARt) AQe)) (AF ARl (AF AOs (AF AOH ASJ AQB) APN) ARf)) (AF AQD (AF AOx (AF AQ8 AQq ATH) ATA) AP6)) (AF ASr (AF AS1 (AF AP_ ATl ATr) AN2) AQX))) ω n v
def s83:SQ:=mk Tryz.func83 i83 o83 Hi [wR,AUi] [(3,[0,1]),(4,[0,4])] L83 (hJ:= .nil) (he:=e83 Ac)
abbrev qO:BE:=mw
abbrev ACO:BE:=Fo
def yH:SQ:=mk Tryz.func225 qO ACO FY [] [] []
abbrev iP:BE:=nE
abbrev xq:BE:=Cf
def oF:SQ:=mk Tryz.func180 iP xq Cz [] [] [⟨2,⟨[(0,bV),(1,BH),(5,BH)],[]⟩,LG⟩]
def AAD:SQ:=mk Tryz.func164 nE bX Ib [oF] [] [⟨4,⟨[(0,bV),(1,BH),(5,ot),(6,xP0),(7,BH)],gi⟩,Hk⟩]
abbrev Aa2:BE:=⟨[(0,J2),(1,bV)],oy⟩
abbrev AZ8:BE:=AA1
def sK:SQ:=mk Tryz.func241 Aa2 AZ8 CQ [mg] [] []
abbrev AGO:BE:=nF
abbrev AOC:BE:=ANO
def AGN:SQ:=mk Tryz.func147 AGO AOC FP [s62,mg,AAD,yH,sK] [] [⟨4,⟨[(0,J2),(3,To),(5,.c (.ref 2)),(6,BH),(7,BH)],ANC⟩,Io⟩]
def s77:SQ:=mk Tryz.func77 nF ANO H5 [s82,AGN,AAD] [] [⟨3,⟨[(3,To),(5,.c (.ref 2)),(6,BH)],ANC⟩,Ky⟩]
def s76:SQ:=mk Tryz.func76 ⟨[(0,bV)],[]⟩ Fo L9 [AVg] [] [⟨5,⟨[(0,bV),(3,BH),(4,BH)],[]⟩,Kf⟩]
def AJG:SQ:=mk Tryz.func169 ABA Fo Jt [] [] [⟨2,⟨AIh,[AO1]⟩,IV⟩]
abbrev z6:BE:=ANf
abbrev o69:BE:=bX
def s69:SQ:=mk Tryz.func69 z6 o69 CK [Ym] [] []
def AZg:SQ:=mk Tryz.func170 ADy ADt MW [s62,mg,s69,s82,yH] [(18,[1,2,3])] [⟨16,⟨[(0,J2),(3,To),(4,xP9),(5,xP4),(7,BH),(8,BH),(9,BH)],[XQ,zX,AE2,yf]⟩,GO⟩]
def s64:SQ:=mk Tryz.func64 ⟨[(0,J2),(1,.c (.sl false .str))],oy⟩ ⟨[(0,ze)],oy⟩ Fh [mg] [] []
def AZh:SQ:=mk Tryz.func250 mw Fo Uh [] [] []
def AZn:SQ:=mk Tryz.func171 ADy ADt Gu [s62,mg,s64,s69,AZh] [] []
def s84:SQ:=mk Tryz.func84 ADy ADt P5 [s62,mg,s76,s77,AJG,AZg,AZn] [(16,[1]),(27,[1,2])] []
def zA:SQ:=mk Tryz.func185 Fo Cf Hn [Ym] [] []
abbrev jC:BE:=Fo
abbrev wO:BE:=Fo
def og:SQ:=mk Tryz.func186 jC wO Cn [zA] [] []
def ALz:SQ:=mk Tryz.func255 ⟨[(0,.row Y1)],[]⟩ Cf Mz [Ym,zA,og] [(1,[0])] []
def AZC:SQ:=mk Tryz.func253 AEI Cf VY [ALz] [] [⟨4,⟨[(0,Yo),(5,BH)],[]⟩,MP⟩]
def AXj:SQ:=mk Tryz.func254 AAk Cf YC [] [] [⟨2,⟨[(0,Yo),(3,BH)],[]⟩,Gj⟩]
def zb:SQ:=mk Tryz.func179 nq Cf G4 [Ym,AZC,AXj] [] []
def Abm:SQ:=mk Tryz.func181 nq Cf bl [] [] []
def AZd:SQ:=mk Tryz.func106 nR Cf Ur [s82,zw,wR,zb,oF,Abm] [] [⟨4,ANU,JT⟩]
abbrev i182:BE:=AEo
abbrev AWN:BE:=Cf
def ABv:SQ:=mk Tryz.func182 i182 AWN NH [s82,Ym,wR,zA,og] [] [⟨5,⟨AWf,AMu⟩,LD⟩]
abbrev i183:BE:=AFH
abbrev AUa:BE:=Cf
def AE6:SQ:=mk Tryz.func183 i183 AUa Hm [s82,Ym,zw,wR] [(8,[0,1,2])] [⟨5,⟨AWf,AMv⟩,L1⟩]
abbrev h_:BE:=Fo
abbrev wL:BE:=Fo
def AKH:SQ:=mk Tryz.func280 h_ wL HU [zA] [] []
def AXs:SQ:=mk Tryz.func256 wM Fo Ro [AKH] [] []
def ACq:SQ:=mk Tryz.func184 tK Cf JC [Ym,zw,wR,og,AXj,ALz,AXs] [(6,[0,1]),(11,[0,1]),(15,[0,1])] [⟨4,AMl,Jl⟩,⟨9,⟨[(2,J2),(3,To),(6,BH)],AGc⟩,H3⟩]
def Aar:SQ:=mk Tryz.func107 nR Cf Se [AJG,ABv,AE6,ACq] [(7,[0]),(13,[0,1])] [⟨5,⟨[(1,J2),(3,BH),(4,BH)],AAs⟩,Gm⟩,⟨10,⟨[(1,J2),(3,BH),(5,BH)],AAs⟩,En⟩]
def AVO:SQ:=mk Tryz.func108 ABJ Cf Nf [Ym] [] []
def AbB:SQ:=mk Tryz.func109 nR Cf W7 [zA,og] [(7,[0,1])] [⟨4,ANU,KO⟩]
def s52:SQ:=mk Tryz.func52 nR Cf Sa [AZd,Aar,AVO,AbB] [] []
def AcA:SQ:=mk Tryz.func130 AFV ⟨AXY,[]⟩ Zy [] [] []
def s58:SQ:=mk Tryz.func58 AFV Cf Zp [Ym,AcA] [(1,[0])] []
abbrev gz:BE:=ABA
abbrev xK:BE:=AF6
def ACE:SQ:=mk Tryz.func101 gz xK GW [] [] [⟨3,⟨AU8,[AO1,AQg,Qg,ARO,Qg]⟩,Oj⟩]
abbrev mn:BE:=nq
abbrev zW:BE:=AEG
def ACi:SQ:=mk Tryz.func102 mn zW Es [] [(1,[0])] [] (he:=fun ω v=>by rcases ω with _|⟨_|_,_|⟨_|_,_⟩⟩<;>kernel_rfl)
abbrev iN:BE:=ABC
abbrev wP:BE:=AEW
def ADB:SQ:=mk Tryz.func103 iN wP EX [] [] [⟨3,⟨AU8,[AHq,.mem [.v tI,.ref 2],lN,.mem [.v tI,.ref 4],lN]⟩,Jg⟩]
abbrev br:BE:=wM
abbrev vd:BE:=xG
def ATK:Qf:=⟨br,vd,(br.un EW)⟩
def AQ5:aZ:=⟨T,QN (SP.l ([]:List SQ)),B_ [(1,[0,1]),(5,[0,1,2,3,4,6,7])]⟩
def AHJ:List (Lp vd):=[⟨3,⟨[(1,J2),(2,To),(3,.c (.ptr 5 0)),(4,BH)],AEi⟩,H9⟩]
abbrev zx:BE:=⟨[(1,J2),(2,To),(3,.c (.ptr 5 0)),(4,BH)],AEi⟩
theorem APi(n:Nat)(v:zx.V)(ω:List Bool):Hg AQ5 ATK Tryz.f104 (LU 0 AHJ n) 3 ω (zx.st 40 v)=zx.un (Sj (H9 n)) v:=by rcases ω with _|⟨_|_,_|⟨_|_,_|⟨_|_,_⟩⟩⟩<;>kernel_rfl
def DX(ω:List Bool):Prop:= ∀(n:Nat) (v:br.V),Cy AQ5 ATK Tryz.f104 (LU 0 AHJ n) ω v=br.un (N_ (H9 n)) v
theorem AS5:DX []:=by delta DX;intros;kernel_rfl
theorem AQz:DX (false::[]):=by delta DX;intros;kernel_rfl
theorem APz:DX (false::false::[]):=by delta DX;intros;kernel_rfl
theorem ASa(ω:List Bool):DX (false::false::false::ω):=by delta DX;intros;kernel_rfl
theorem ATt:DX (false::false::true::[]):=by delta DX;intros;kernel_rfl
theorem ATT(ω:List Bool):DX (false::false::true::false::ω):=by delta DX;intros;kernel_rfl
theorem AO8(ω:List Bool):DX (false::false::true::true::ω):=by delta DX;intros;kernel_rfl
theorem ATE:DX (false::true::[]):=by delta DX;intros;kernel_rfl
theorem AQ1(ω:List Bool):DX (false::true::false::ω):=by delta DX;intros;kernel_rfl
theorem AK5:DX (false::true::true::[]):=by delta DX;intros;kernel_rfl
theorem AJ0(ω:List Bool):DX (false::true::true::false::ω):=by delta DX;intros;kernel_rfl
theorem AMH:DX (false::true::true::true::[]):=by delta DX;intros;kernel_rfl
theorem AI9(ω:List Bool):DX (false::true::true::true::false::ω):=by delta DX;intros;kernel_rfl
theorem AIN(ω:List Bool):DX (false::true::true::true::true::ω):=by delta DX;intros;kernel_rfl
theorem AKz:DX (true::[]):=by delta DX;intros;kernel_rfl
theorem AKI:DX (true::false::[]):=by delta DX;intros;kernel_rfl
theorem AL2:DX (true::false::false::[]):=by delta DX;intros;kernel_rfl
theorem AJ7(ω:List Bool):DX (true::false::false::false::ω):=by delta DX;intros;kernel_rfl
theorem AIz(ω:List Bool):DX (true::false::false::true::ω):=by delta DX;intros;kernel_rfl
theorem AGv:DX (true::false::true::[]):=by delta DX;intros;kernel_rfl
theorem AJs(ω:List Bool):DX (true::false::true::false::ω):=by delta DX;intros;kernel_rfl
theorem AJU:DX (true::false::true::true::[]):=by delta DX;intros;kernel_rfl
theorem AIX(ω:List Bool):DX (true::false::true::true::false::ω):=by delta DX;intros;kernel_rfl
theorem AKU(ω:List Bool):DX (true::false::true::true::true::ω):=by delta DX;intros;kernel_rfl
theorem AHu:DX (true::true::[]):=by delta DX;intros;kernel_rfl
theorem AL1(ω:List Bool):DX (true::true::false::ω):=by delta DX;intros;kernel_rfl
theorem AL4:DX (true::true::true::[]):=by delta DX;intros;kernel_rfl
theorem AMP(ω:List Bool):DX (true::true::true::false::ω):=by delta DX;intros;kernel_rfl
theorem AJ2(ω:List Bool):DX (true::true::true::true::ω):=by delta DX;intros;kernel_rfl
theorem Aal(n:Nat)(ω:List Bool)(v:br.V):Cy AQ5 ATK Tryz.f104 (LU 0 AHJ n) ω v=br.un (N_ (H9 n)) v:=(AF AS5 (AF AQz (AF APz ASa (AF ATt ATT AO8)) (AF ATE AQ1 (AF AK5 AJ0 (AF AMH AI9 AIN)))) (AF AKz (AF AKI (AF AL2 AJ7 AIz) (AF AGv AJs (AF AJU AIX AKU))) (AF AHu AL1 (AF AL4 AMP AJ2)))) ω n v
def ACm:SQ:=mk Tryz.func104 br vd EW [] [(1,[0,1]),(5,[0,1,2,3,4,6,7])] AHJ (hJ:= .cons (fun _=>rfl) APi (.nil)) (he:=Aal Ac)
abbrev i105:BE:=ABJ
abbrev zE:BE:=ABI
def ALj:SQ:=mk Tryz.func105 i105 zE CL [] [] []
abbrev i51:BE:=nR
abbrev o51:BE:=AEE
def c51:Qf:=⟨i51,o51,(i51.un Kn)⟩
def C51:aZ:=⟨T,QN (SP.l [ACE,ACi,ADB,ACm,ALj]),B_ [(1,[0,1]),(5,[0,1,2,3,4,5,6,7,8,9,11,13,14,15,16,17,18]),(9,[0,1,2,3,4,5,6,7,8,9,11,12,13,14,16,17,18]),(13,[0,1,2,3,4,5,6,7,8,9,11,12,13,14,15,17,18]),(17,[0,1,2,3,4,5,6,7,8,9,11,12,13,14,15,16,18])]⟩
def L51:List (Lp o51):=[⟨3,⟨[(1,J2),(2,To),(3,aL),(4,BH)],dH⟩,CZ⟩,⟨7,⟨[(1,J2),(2,To),(3,aL),(5,BH)],dH⟩,Co⟩,⟨11,⟨[(1,J2),(2,To),(3,aL),(6,BH)],dH⟩,CV⟩,⟨15,⟨[(1,J2),(2,To),(3,aL),(7,BH)],dH⟩,CU⟩]
abbrev tQ:BE:=⟨[(1,J2),(2,To),(3,aL),(4,BH)],dH⟩
abbrev tw:BE:=⟨[(1,J2),(2,To),(3,aL),(5,BH)],dH⟩
abbrev ln:BE:=⟨[(1,J2),(2,To),(3,aL),(6,BH)],dH⟩
abbrev lD:BE:=⟨[(1,J2),(2,To),(3,aL),(7,BH)],dH⟩
theorem AUo(eC:ACa→Option Fu)(mN:ACn→Option LN)(fM:ACt→Option Fv)(kz:ABe→Option Gk)(mc:ADa→Option JV)(n:Nat)(v:tQ.V)(ω:List Bool):Hg ⟨T,QN [(101,⟨gz,xK,gz.un eC⟩),(102,⟨mn,zW,mn.un mN⟩),(103,⟨iN,wP,iN.un fM⟩),(104,⟨br,vd,br.un kz⟩),(105,⟨i105,zE,i105.un mc⟩)],B_ [(1,[0,1]),(5,[0,1,2,3,4,5,6,7,8,9,11,13,14,15,16,17,18]),(9,[0,1,2,3,4,5,6,7,8,9,11,12,13,14,16,17,18]),(13,[0,1,2,3,4,5,6,7,8,9,11,12,13,14,15,17,18]),(17,[0,1,2,3,4,5,6,7,8,9,11,12,13,14,15,16,18])]⟩ c51 Tryz.f51 (LU 0 L51 n) 3 ω (tQ.st 104 v)=tQ.un (fun(t4:Int) (AM:AAG) (AE:Int) (Ab:AAa) (Cq:AAG) (DW:AAX) (AZ:Int) (DT:AAt) (DI:AA9) (Eb:ABQ) (EI:AAl) (AN:Bool) (Ar:Int) (Di:Int) (D4:Bool) (b2:AAG) (b3:AAa) (b4:AAG) (b5:AAX) (b6:AAt) (b7:AA9) (b8:ABQ) (b9:AAl) (Cr:Int) (DJ:Int) (CB:Bool) (FC:AAG) (DR:AAa) (FV:AAG) (FU:AAX) (Dq:AAt) (EB:AA9) (EJ:ABQ) (QO:AAl)=>
 cond ((decide (t4<(Ab.length:Int))))
  (if(0:Int)≤t4∧t4<(Ab.length:Int)then(
  (mN ((Ab.getD (t4.toNat) ([],[],0,())).1,(Ab.getD (t4.toNat) ([],[],0,())).2.1,(Ab.getD (t4.toNat) ([],[],0,())).2.2.1,())).bind fun z7=>
  if DR.length+1≤Go.M.DE then(
  (CZ n) (AS (t4+1)) AM AE Ab Cq DW AZ DT DI Eb EI AN Ar Di D4 b2 b3 b4 b5 b6 b7 b8 b9 Cr DJ CB FC (DR++[(z7.2.1,z7.2.2.1,z7.1.1.2.2.1,())]) FV FU Dq EB EJ QO)else none)else none)
 ((Co n) 0 AM AE Ab Cq DW AZ DT DI Eb EI AN Ar Di D4 b2 b3 b4 b5 b6 b7 b8 b9 Cr DJ CB FC DR FV FU Dq EB EJ QO)) v:=by rcases ω with _|⟨_|_,_|⟨_|_,_⟩⟩<;>kernel_rfl
theorem AVZ(n:Nat)(v:tQ.V)(ω:List Bool):Hg C51 c51 Tryz.f51 (LU 0 L51 n) 3 ω (tQ.st 104 v)=tQ.un (RR (CZ n) (Co n) (CV n) (CU n)) v:=AUo GW Es EX EW CL n v ω
theorem AXH(eC:ACa→Option Fu)(mN:ACn→Option LN)(fM:ACt→Option Fv)(kz:ABe→Option Gk)(mc:ADa→Option JV)(n:Nat)(v:tw.V)(ω:List Bool):Hg ⟨T,QN [(101,⟨gz,xK,gz.un eC⟩),(102,⟨mn,zW,mn.un mN⟩),(103,⟨iN,wP,iN.un fM⟩),(104,⟨br,vd,br.un kz⟩),(105,⟨i105,zE,i105.un mc⟩)],B_ [(1,[0,1]),(5,[0,1,2,3,4,5,6,7,8,9,11,13,14,15,16,17,18]),(9,[0,1,2,3,4,5,6,7,8,9,11,12,13,14,16,17,18]),(13,[0,1,2,3,4,5,6,7,8,9,11,12,13,14,15,17,18]),(17,[0,1,2,3,4,5,6,7,8,9,11,12,13,14,15,16,18])]⟩ c51 Tryz.f51 (LU 0 L51 n) 7 ω (tw.st 104 v)=tw.un (fun(t5:Int) (AM:AAG) (AE:Int) (Ab:AAa) (Cq:AAG) (DW:AAX) (AZ:Int) (DT:AAt) (DI:AA9) (Eb:ABQ) (EI:AAl) (AN:Bool) (Ar:Int) (Di:Int) (D4:Bool) (b2:AAG) (b3:AAa) (b4:AAG) (b5:AAX) (b6:AAt) (b7:AA9) (b8:ABQ) (b9:AAl) (Cr:Int) (DJ:Int) (CB:Bool) (FC:AAG) (DR:AAa) (FV:AAG) (FU:AAX) (Dq:AAt) (EB:AA9) (EJ:ABQ) (QO:AAl)=>
 cond ((decide (t5<(DT.length:Int))))
  (if(0:Int)≤t5∧t5<(DT.length:Int)then(
  (fM ((DT.getD (t5.toNat) (0,[],())).1,(DT.getD (t5.toNat) (0,[],())).2.1,())).bind fun AD8=>
  if Dq.length+1≤Go.M.DE then(
  (Co n) (AS (t5+1)) AM AE Ab Cq DW AZ DT DI Eb EI AN Ar Di D4 b2 b3 b4 b5 b6 b7 b8 b9 Cr DJ CB FC DR FV FU (Dq++[(AD8.1.1.1,AD8.2.1,())]) EB EJ QO)else none)else none)
 ((CV n) 0 AM AE Ab Cq DW AZ DT DI Eb EI AN Ar Di D4 b2 b3 b4 b5 b6 b7 b8 b9 Cr DJ CB FC DR FV FU Dq EB EJ QO)) v:=by rcases ω with _|⟨_|_,_|⟨_|_,_⟩⟩<;>kernel_rfl
theorem AXm(n:Nat)(v:tw.V)(ω:List Bool):Hg C51 c51 Tryz.f51 (LU 0 L51 n) 7 ω (tw.st 104 v)=tw.un (RU (CZ n) (Co n) (CV n) (CU n)) v:=AXH GW Es EX EW CL n v ω
theorem ASf(eC:ACa→Option Fu)(mN:ACn→Option LN)(fM:ACt→Option Fv)(kz:ABe→Option Gk)(mc:ADa→Option JV)(n:Nat)(v:ln.V)(ω:List Bool):Hg ⟨T,QN [(101,⟨gz,xK,gz.un eC⟩),(102,⟨mn,zW,mn.un mN⟩),(103,⟨iN,wP,iN.un fM⟩),(104,⟨br,vd,br.un kz⟩),(105,⟨i105,zE,i105.un mc⟩)],B_ [(1,[0,1]),(5,[0,1,2,3,4,5,6,7,8,9,11,13,14,15,16,17,18]),(9,[0,1,2,3,4,5,6,7,8,9,11,12,13,14,16,17,18]),(13,[0,1,2,3,4,5,6,7,8,9,11,12,13,14,15,17,18]),(17,[0,1,2,3,4,5,6,7,8,9,11,12,13,14,15,16,18])]⟩ c51 Tryz.f51 (LU 0 L51 n) 11 ω (ln.st 104 v)=ln.un (fun(t6:Int) (AM:AAG) (AE:Int) (Ab:AAa) (Cq:AAG) (DW:AAX) (AZ:Int) (DT:AAt) (DI:AA9) (Eb:ABQ) (EI:AAl) (AN:Bool) (Ar:Int) (Di:Int) (D4:Bool) (b2:AAG) (b3:AAa) (b4:AAG) (b5:AAX) (b6:AAt) (b7:AA9) (b8:ABQ) (b9:AAl) (Cr:Int) (DJ:Int) (CB:Bool) (FC:AAG) (DR:AAa) (FV:AAG) (FU:AAX) (Dq:AAt) (EB:AA9) (EJ:ABQ) (QO:AAl)=>
 cond ((decide (t6<(DI.length:Int))))
  (if(0:Int)≤t6∧t6<(DI.length:Int)then(
  (kz ((DI.getD (t6.toNat) (0,0,[],[],false,[],())).1,(DI.getD (t6.toNat) (0,0,[],[],false,[],())).2.1,(DI.getD (t6.toNat) (0,0,[],[],false,[],())).2.2.1,(DI.getD (t6.toNat) (0,0,[],[],false,[],())).2.2.2.1,(DI.getD (t6.toNat) (0,0,[],[],false,[],())).2.2.2.2.1,(DI.getD (t6.toNat) (0,0,[],[],false,[],())).2.2.2.2.2.1,())).bind fun mK=>
  if EB.length+1≤Go.M.DE then(
  (CV n) (AS (t6+1)) AM AE Ab Cq DW AZ DT DI Eb EI AN Ar Di D4 b2 b3 b4 b5 b6 b7 b8 b9 Cr DJ CB FC DR FV FU Dq (EB++[(mK.1.1.1,mK.1.1.2.1,mK.2.1,mK.2.2.1,mK.1.1.2.2.2.2.1,mK.2.2.2.1,())]) EJ QO)else none)else none)
 ((CU n) 0 AM AE Ab Cq DW AZ DT DI Eb EI AN Ar Di D4 b2 b3 b4 b5 b6 b7 b8 b9 Cr DJ CB FC DR FV FU Dq EB EJ QO)) v:=by rcases ω with _|⟨_|_,_|⟨_|_,_⟩⟩<;>kernel_rfl
theorem AOu(n:Nat)(v:ln.V)(ω:List Bool):Hg C51 c51 Tryz.f51 (LU 0 L51 n) 11 ω (ln.st 104 v)=ln.un (QM (CZ n) (Co n) (CV n) (CU n)) v:=ASf GW Es EX EW CL n v ω
theorem ARZ(eC:ACa→Option Fu)(mN:ACn→Option LN)(fM:ACt→Option Fv)(kz:ABe→Option Gk)(mc:ADa→Option JV)(n:Nat)(v:lD.V)(ω:List Bool):Hg ⟨T,QN [(101,⟨gz,xK,gz.un eC⟩),(102,⟨mn,zW,mn.un mN⟩),(103,⟨iN,wP,iN.un fM⟩),(104,⟨br,vd,br.un kz⟩),(105,⟨i105,zE,i105.un mc⟩)],B_ [(1,[0,1]),(5,[0,1,2,3,4,5,6,7,8,9,11,13,14,15,16,17,18]),(9,[0,1,2,3,4,5,6,7,8,9,11,12,13,14,16,17,18]),(13,[0,1,2,3,4,5,6,7,8,9,11,12,13,14,15,17,18]),(17,[0,1,2,3,4,5,6,7,8,9,11,12,13,14,15,16,18])]⟩ c51 Tryz.f51 (LU 0 L51 n) 15 ω (lD.st 104 v)=lD.un (fun(t7:Int) (AM:AAG) (AE:Int) (Ab:AAa) (Cq:AAG) (DW:AAX) (AZ:Int) (DT:AAt) (DI:AA9) (Eb:ABQ) (EI:AAl) (AN:Bool) (Ar:Int) (Di:Int) (D4:Bool) (b2:AAG) (b3:AAa) (b4:AAG) (b5:AAX) (b6:AAt) (b7:AA9) (b8:ABQ) (b9:AAl) (Cr:Int) (DJ:Int) (CB:Bool) (FC:AAG) (DR:AAa) (FV:AAG) (FU:AAX) (Dq:AAt) (EB:AA9) (EJ:ABQ) (QO:AAl)=>
 cond ((decide (t7<(Eb.length:Int))))
  (if(0:Int)≤t7∧t7<(Eb.length:Int)then(
  (mc ((Eb.getD (t7.toNat) (0,0,[],())).1,(Eb.getD (t7.toNat) (0,0,[],())).2.1,(Eb.getD (t7.toNat) (0,0,[],())).2.2.1,())).bind fun ya=>
  if EJ.length+1≤Go.M.DE then(
  (CU n) (AS (t7+1)) AM AE Ab Cq DW AZ DT DI Eb EI AN Ar Di D4 b2 b3 b4 b5 b6 b7 b8 b9 Cr DJ CB FC DR FV FU Dq EB (EJ++[(ya.1.1.1,ya.1.1.2.1,ya.2.1,())]) QO)else none)else none)
 (some ((((),Cr,(),(),(),DJ,(),(),(),(),CB,()),()),(FC,DR,FV,FU,Dq,EB,EJ,QO,())))) v:=by rcases ω with _|⟨_|_,_|⟨_|_,_⟩⟩<;>kernel_rfl
theorem AQs(n:Nat)(v:lD.V)(ω:List Bool):Hg C51 c51 Tryz.f51 (LU 0 L51 n) 15 ω (lD.st 104 v)=lD.un (QK (CZ n) (Co n) (CV n) (CU n)) v:=ARZ GW Es EX EW CL n v ω
def AH(ω:List Bool):Prop:= ∀(eC:ACa→Option Fu) (mN:ACn→Option LN) (fM:ACt→Option Fv) (kz:ABe→Option Gk) (mc:ADa→Option JV) (n:Nat) (v:i51.V),Cy ⟨T,QN [(101,⟨gz,xK,gz.un eC⟩),(102,⟨mn,zW,mn.un mN⟩),(103,⟨iN,wP,iN.un fM⟩),(104,⟨br,vd,br.un kz⟩),(105,⟨i105,zE,i105.un mc⟩)],B_ [(1,[0,1]),(5,[0,1,2,3,4,5,6,7,8,9,11,13,14,15,16,17,18]),(9,[0,1,2,3,4,5,6,7,8,9,11,12,13,14,16,17,18]),(13,[0,1,2,3,4,5,6,7,8,9,11,12,13,14,15,17,18]),(17,[0,1,2,3,4,5,6,7,8,9,11,12,13,14,15,16,18])]⟩ c51 Tryz.f51 (LU 0 L51 n) ω v=i51.un (fun(p0:ABf)=>
 if 0+p0.1.length≤Go.M.DE then(
 if 0+p0.2.2.2.1.length≤Go.M.DE then(
 (eC (p0.2.2.2.2.1,p0.2.2.2.2.2.1,())).bind fun u2=>
 if 0+p0.2.2.2.2.2.2.2.2.2.1.length≤Go.M.DE then(
 (CZ n) 0 p0.1 p0.2.1 p0.2.2.1 p0.2.2.2.1 p0.2.2.2.2.1 p0.2.2.2.2.2.1 p0.2.2.2.2.2.2.1 p0.2.2.2.2.2.2.2.1 p0.2.2.2.2.2.2.2.2.1 p0.2.2.2.2.2.2.2.2.2.1 p0.2.2.2.2.2.2.2.2.2.2.1 0 0 false [] [] [] [] [] [] [] [] p0.2.1 u2.1.1.2.1 p0.2.2.2.2.2.2.2.2.2.2.1 p0.1 [] p0.2.2.2.1 u2.2.1 [] [] [] p0.2.2.2.2.2.2.2.2.2.1)else none)else none)else none) v
theorem AXV:AH []:=by delta AH;intros;kernel_rfl
theorem AWF:AH (false::[]):=by delta AH;intros;kernel_rfl
theorem AU2:AH (false::false::[]):=by delta AH;intros;kernel_rfl
theorem AVT:AH (false::false::false::[]):=by delta AH;intros;kernel_rfl
theorem AVs:AH (false::false::false::false::[]):=by delta AH;intros;kernel_rfl
theorem AXC:AH (false::false::false::false::false::[]):=by delta AH;intros;kernel_rfl
theorem AVD(ω:List Bool):AH (false::false::false::false::false::false::ω):=by delta AH;intros;kernel_rfl
theorem AVG:AH (false::false::false::false::false::true::[]):=by delta AH;intros;kernel_rfl
theorem AUb(ω:List Bool):AH (false::false::false::false::false::true::false::ω):=by delta AH;intros;kernel_rfl
theorem ATP(ω:List Bool):AH (false::false::false::false::false::true::true::ω):=by delta AH;intros;kernel_rfl
theorem AQO:AH (false::false::false::false::true::[]):=by delta AH;intros;kernel_rfl
theorem AOf(ω:List Bool):AH (false::false::false::false::true::false::ω):=by delta AH;intros;kernel_rfl
theorem ATF:AH (false::false::false::false::true::true::[]):=by delta AH;intros;kernel_rfl
theorem ATg(ω:List Bool):AH (false::false::false::false::true::true::false::ω):=by delta AH;intros;kernel_rfl
theorem ATU:AH (false::false::false::false::true::true::true::[]):=by delta AH;intros;kernel_rfl
theorem ASY(ω:List Bool):AH (false::false::false::false::true::true::true::false::ω):=by delta AH;intros;kernel_rfl
theorem AQt:AH (false::false::false::false::true::true::true::true::[]):=by delta AH;intros;kernel_rfl
theorem ASv(ω:List Bool):AH (false::false::false::false::true::true::true::true::false::ω):=by delta AH;intros;kernel_rfl
theorem APR(ω:List Bool):AH (false::false::false::false::true::true::true::true::true::ω):=by delta AH;intros;kernel_rfl
theorem ARH:AH (false::false::false::true::[]):=by delta AH;intros;kernel_rfl
theorem ASR:AH (false::false::false::true::false::[]):=by delta AH;intros;kernel_rfl
theorem ASg:AH (false::false::false::true::false::false::[]):=by delta AH;intros;kernel_rfl
theorem ANz(ω:List Bool):AH (false::false::false::true::false::false::false::ω):=by delta AH;intros;kernel_rfl
theorem APL(ω:List Bool):AH (false::false::false::true::false::false::true::ω):=by delta AH;intros;kernel_rfl
theorem AQN:AH (false::false::false::true::false::true::[]):=by delta AH;intros;kernel_rfl
theorem ASU(ω:List Bool):AH (false::false::false::true::false::true::false::ω):=by delta AH;intros;kernel_rfl
theorem AOc:AH (false::false::false::true::false::true::true::[]):=by delta AH;intros;kernel_rfl
theorem APm(ω:List Bool):AH (false::false::false::true::false::true::true::false::ω):=by delta AH;intros;kernel_rfl
theorem ATQ:AH (false::false::false::true::false::true::true::true::[]):=by delta AH;intros;kernel_rfl
theorem ANt(ω:List Bool):AH (false::false::false::true::false::true::true::true::false::ω):=by delta AH;intros;kernel_rfl
theorem AQJ(ω:List Bool):AH (false::false::false::true::false::true::true::true::true::ω):=by delta AH;intros;kernel_rfl
theorem ATf:AH (false::false::false::true::true::[]):=by delta AH;intros;kernel_rfl
theorem AS0(ω:List Bool):AH (false::false::false::true::true::false::ω):=by delta AH;intros;kernel_rfl
theorem AQE:AH (false::false::false::true::true::true::[]):=by delta AH;intros;kernel_rfl
theorem APV(ω:List Bool):AH (false::false::false::true::true::true::false::ω):=by delta AH;intros;kernel_rfl
theorem ASI:AH (false::false::false::true::true::true::true::[]):=by delta AH;intros;kernel_rfl
theorem ASF(ω:List Bool):AH (false::false::false::true::true::true::true::false::ω):=by delta AH;intros;kernel_rfl
theorem APb(ω:List Bool):AH (false::false::false::true::true::true::true::true::ω):=by delta AH;intros;kernel_rfl
theorem AOa:AH (false::false::true::[]):=by delta AH;intros;kernel_rfl
theorem AQM:AH (false::false::true::false::[]):=by delta AH;intros;kernel_rfl
theorem ARs:AH (false::false::true::false::false::[]):=by delta AH;intros;kernel_rfl
theorem ASs(ω:List Bool):AH (false::false::true::false::false::false::ω):=by delta AH;intros;kernel_rfl
theorem ASj:AH (false::false::true::false::false::true::[]):=by delta AH;intros;kernel_rfl
theorem AOy(ω:List Bool):AH (false::false::true::false::false::true::false::ω):=by delta AH;intros;kernel_rfl
theorem ASS(ω:List Bool):AH (false::false::true::false::false::true::true::ω):=by delta AH;intros;kernel_rfl
theorem AOD:AH (false::false::true::false::true::[]):=by delta AH;intros;kernel_rfl
theorem AQo(ω:List Bool):AH (false::false::true::false::true::false::ω):=by delta AH;intros;kernel_rfl
theorem ASm:AH (false::false::true::false::true::true::[]):=by delta AH;intros;kernel_rfl
theorem AQr(ω:List Bool):AH (false::false::true::false::true::true::false::ω):=by delta AH;intros;kernel_rfl
theorem ARY:AH (false::false::true::false::true::true::true::[]):=by delta AH;intros;kernel_rfl
theorem ASp(ω:List Bool):AH (false::false::true::false::true::true::true::false::ω):=by delta AH;intros;kernel_rfl
theorem APC:AH (false::false::true::false::true::true::true::true::[]):=by delta AH;intros;kernel_rfl
theorem AOi(ω:List Bool):AH (false::false::true::false::true::true::true::true::false::ω):=by delta AH;intros;kernel_rfl
theorem ARr:AH (false::false::true::false::true::true::true::true::true::[]):=by delta AH;intros;kernel_rfl
theorem AQ4(ω:List Bool):AH (false::false::true::false::true::true::true::true::true::false::ω):=by delta AH;intros;kernel_rfl
theorem ARw(ω:List Bool):AH (false::false::true::false::true::true::true::true::true::true::ω):=by delta AH;intros;kernel_rfl
theorem APM:AH (false::false::true::true::[]):=by delta AH;intros;kernel_rfl
theorem AQv:AH (false::false::true::true::false::[]):=by delta AH;intros;kernel_rfl
theorem APf:AH (false::false::true::true::false::false::[]):=by delta AH;intros;kernel_rfl
theorem ASH(ω:List Bool):AH (false::false::true::true::false::false::false::ω):=by delta AH;intros;kernel_rfl
theorem AQH(ω:List Bool):AH (false::false::true::true::false::false::true::ω):=by delta AH;intros;kernel_rfl
theorem AOK:AH (false::false::true::true::false::true::[]):=by delta AH;intros;kernel_rfl
theorem ATd(ω:List Bool):AH (false::false::true::true::false::true::false::ω):=by delta AH;intros;kernel_rfl
theorem APg:AH (false::false::true::true::false::true::true::[]):=by delta AH;intros;kernel_rfl
theorem ASe(ω:List Bool):AH (false::false::true::true::false::true::true::false::ω):=by delta AH;intros;kernel_rfl
theorem AQV:AH (false::false::true::true::false::true::true::true::[]):=by delta AH;intros;kernel_rfl
theorem APP(ω:List Bool):AH (false::false::true::true::false::true::true::true::false::ω):=by delta AH;intros;kernel_rfl
theorem ATm:AH (false::false::true::true::false::true::true::true::true::[]):=by delta AH;intros;kernel_rfl
theorem ASu(ω:List Bool):AH (false::false::true::true::false::true::true::true::true::false::ω):=by delta AH;intros;kernel_rfl
theorem ATO(ω:List Bool):AH (false::false::true::true::false::true::true::true::true::true::ω):=by delta AH;intros;kernel_rfl
theorem ATv:AH (false::false::true::true::true::[]):=by delta AH;intros;kernel_rfl
theorem ASn(ω:List Bool):AH (false::false::true::true::true::false::ω):=by delta AH;intros;kernel_rfl
theorem AOl:AH (false::false::true::true::true::true::[]):=by delta AH;intros;kernel_rfl
theorem AS8(ω:List Bool):AH (false::false::true::true::true::true::false::ω):=by delta AH;intros;kernel_rfl
theorem AOX:AH (false::false::true::true::true::true::true::[]):=by delta AH;intros;kernel_rfl
theorem ASz(ω:List Bool):AH (false::false::true::true::true::true::true::false::ω):=by delta AH;intros;kernel_rfl
theorem AQ3:AH (false::false::true::true::true::true::true::true::[]):=by delta AH;intros;kernel_rfl
theorem AN3(ω:List Bool):AH (false::false::true::true::true::true::true::true::false::ω):=by delta AH;intros;kernel_rfl
theorem ARI(ω:List Bool):AH (false::false::true::true::true::true::true::true::true::ω):=by delta AH;intros;kernel_rfl
theorem AOE:AH (false::true::[]):=by delta AH;intros;kernel_rfl
theorem AQn:AH (false::true::false::[]):=by delta AH;intros;kernel_rfl
theorem ATs:AH (false::true::false::false::[]):=by delta AH;intros;kernel_rfl
theorem AQy(ω:List Bool):AH (false::true::false::false::false::ω):=by delta AH;intros;kernel_rfl
theorem AOr:AH (false::true::false::false::true::[]):=by delta AH;intros;kernel_rfl
theorem AR7(ω:List Bool):AH (false::true::false::false::true::false::ω):=by delta AH;intros;kernel_rfl
theorem AO_:AH (false::true::false::false::true::true::[]):=by delta AH;intros;kernel_rfl
theorem ARU(ω:List Bool):AH (false::true::false::false::true::true::false::ω):=by delta AH;intros;kernel_rfl
theorem APj:AH (false::true::false::false::true::true::true::[]):=by delta AH;intros;kernel_rfl
theorem AQL(ω:List Bool):AH (false::true::false::false::true::true::true::false::ω):=by delta AH;intros;kernel_rfl
theorem ATX(ω:List Bool):AH (false::true::false::false::true::true::true::true::ω):=by delta AH;intros;kernel_rfl
theorem AQF:AH (false::true::false::true::[]):=by delta AH;intros;kernel_rfl
theorem ASM(ω:List Bool):AH (false::true::false::true::false::ω):=by delta AH;intros;kernel_rfl
theorem ATw:AH (false::true::false::true::true::[]):=by delta AH;intros;kernel_rfl
theorem AQa(ω:List Bool):AH (false::true::false::true::true::false::ω):=by delta AH;intros;kernel_rfl
theorem ATI:AH (false::true::false::true::true::true::[]):=by delta AH;intros;kernel_rfl
theorem AS7(ω:List Bool):AH (false::true::false::true::true::true::false::ω):=by delta AH;intros;kernel_rfl
theorem APT:AH (false::true::false::true::true::true::true::[]):=by delta AH;intros;kernel_rfl
theorem AOp(ω:List Bool):AH (false::true::false::true::true::true::true::false::ω):=by delta AH;intros;kernel_rfl
theorem APD:AH (false::true::false::true::true::true::true::true::[]):=by delta AH;intros;kernel_rfl
theorem ALm(ω:List Bool):AH (false::true::false::true::true::true::true::true::false::ω):=by delta AH;intros;kernel_rfl
theorem AHK(ω:List Bool):AH (false::true::false::true::true::true::true::true::true::ω):=by delta AH;intros;kernel_rfl
theorem AHv:AH (false::true::true::[]):=by delta AH;intros;kernel_rfl
theorem AJo:AH (false::true::true::false::[]):=by delta AH;intros;kernel_rfl
theorem AHz:AH (false::true::true::false::false::[]):=by delta AH;intros;kernel_rfl
theorem AKJ(ω:List Bool):AH (false::true::true::false::false::false::ω):=by delta AH;intros;kernel_rfl
theorem ALg:AH (false::true::true::false::false::true::[]):=by delta AH;intros;kernel_rfl
theorem AIf(ω:List Bool):AH (false::true::true::false::false::true::false::ω):=by delta AH;intros;kernel_rfl
theorem AJ8:AH (false::true::true::false::false::true::true::[]):=by delta AH;intros;kernel_rfl
theorem AHn(ω:List Bool):AH (false::true::true::false::false::true::true::false::ω):=by delta AH;intros;kernel_rfl
theorem AIg(ω:List Bool):AH (false::true::true::false::false::true::true::true::ω):=by delta AH;intros;kernel_rfl
theorem AI2:AH (false::true::true::false::true::[]):=by delta AH;intros;kernel_rfl
theorem AIs(ω:List Bool):AH (false::true::true::false::true::false::ω):=by delta AH;intros;kernel_rfl
theorem AMB:AH (false::true::true::false::true::true::[]):=by delta AH;intros;kernel_rfl
theorem AKy(ω:List Bool):AH (false::true::true::false::true::true::false::ω):=by delta AH;intros;kernel_rfl
theorem ALX:AH (false::true::true::false::true::true::true::[]):=by delta AH;intros;kernel_rfl
theorem AIp(ω:List Bool):AH (false::true::true::false::true::true::true::false::ω):=by delta AH;intros;kernel_rfl
theorem ALb:AH (false::true::true::false::true::true::true::true::[]):=by delta AH;intros;kernel_rfl
theorem AG8(ω:List Bool):AH (false::true::true::false::true::true::true::true::false::ω):=by delta AH;intros;kernel_rfl
theorem AI8(ω:List Bool):AH (false::true::true::false::true::true::true::true::true::ω):=by delta AH;intros;kernel_rfl
theorem AH9:AH (false::true::true::true::[]):=by delta AH;intros;kernel_rfl
theorem AMK:AH (false::true::true::true::false::[]):=by delta AH;intros;kernel_rfl
theorem AHm:AH (false::true::true::true::false::false::[]):=by delta AH;intros;kernel_rfl
theorem AJR(ω:List Bool):AH (false::true::true::true::false::false::false::ω):=by delta AH;intros;kernel_rfl
theorem AHw:AH (false::true::true::true::false::false::true::[]):=by delta AH;intros;kernel_rfl
theorem AMA(ω:List Bool):AH (false::true::true::true::false::false::true::false::ω):=by delta AH;intros;kernel_rfl
theorem AJL(ω:List Bool):AH (false::true::true::true::false::false::true::true::ω):=by delta AH;intros;kernel_rfl
theorem AMQ:AH (false::true::true::true::false::true::[]):=by delta AH;intros;kernel_rfl
theorem AJF(ω:List Bool):AH (false::true::true::true::false::true::false::ω):=by delta AH;intros;kernel_rfl
theorem AIK:AH (false::true::true::true::false::true::true::[]):=by delta AH;intros;kernel_rfl
theorem AIW(ω:List Bool):AH (false::true::true::true::false::true::true::false::ω):=by delta AH;intros;kernel_rfl
theorem AJB:AH (false::true::true::true::false::true::true::true::[]):=by delta AH;intros;kernel_rfl
theorem AKB(ω:List Bool):AH (false::true::true::true::false::true::true::true::false::ω):=by delta AH;intros;kernel_rfl
theorem AJm(ω:List Bool):AH (false::true::true::true::false::true::true::true::true::ω):=by delta AH;intros;kernel_rfl
theorem AHW:AH (false::true::true::true::true::[]):=by delta AH;intros;kernel_rfl
theorem AHo:AH (false::true::true::true::true::false::[]):=by delta AH;intros;kernel_rfl
theorem AJe:AH (false::true::true::true::true::false::false::[]):=by delta AH;intros;kernel_rfl
theorem AKM(ω:List Bool):AH (false::true::true::true::true::false::false::false::ω):=by delta AH;intros;kernel_rfl
theorem AHS(ω:List Bool):AH (false::true::true::true::true::false::false::true::ω):=by delta AH;intros;kernel_rfl
theorem AKa:AH (false::true::true::true::true::false::true::[]):=by delta AH;intros;kernel_rfl
theorem AIq(ω:List Bool):AH (false::true::true::true::true::false::true::false::ω):=by delta AH;intros;kernel_rfl
theorem AHx:AH (false::true::true::true::true::false::true::true::[]):=by delta AH;intros;kernel_rfl
theorem AH8(ω:List Bool):AH (false::true::true::true::true::false::true::true::false::ω):=by delta AH;intros;kernel_rfl
theorem AHl(ω:List Bool):AH (false::true::true::true::true::false::true::true::true::ω):=by delta AH;intros;kernel_rfl
theorem AKp:AH (false::true::true::true::true::true::[]):=by delta AH;intros;kernel_rfl
theorem AKO(ω:List Bool):AH (false::true::true::true::true::true::false::ω):=by delta AH;intros;kernel_rfl
theorem AIy:AH (false::true::true::true::true::true::true::[]):=by delta AH;intros;kernel_rfl
theorem ALV(ω:List Bool):AH (false::true::true::true::true::true::true::false::ω):=by delta AH;intros;kernel_rfl
theorem AHc(ω:List Bool):AH (false::true::true::true::true::true::true::true::ω):=by delta AH;intros;kernel_rfl
theorem AJn:AH (true::[]):=by delta AH;intros;kernel_rfl
theorem AMT:AH (true::false::[]):=by delta AH;intros;kernel_rfl
theorem AL0:AH (true::false::false::[]):=by delta AH;intros;kernel_rfl
theorem AJX:AH (true::false::false::false::[]):=by delta AH;intros;kernel_rfl
theorem AL5:AH (true::false::false::false::false::[]):=by delta AH;intros;kernel_rfl
theorem AKm:AH (true::false::false::false::false::false::[]):=by delta AH;intros;kernel_rfl
theorem AIE(ω:List Bool):AH (true::false::false::false::false::false::false::ω):=by delta AH;intros;kernel_rfl
theorem AHk(ω:List Bool):AH (true::false::false::false::false::false::true::ω):=by delta AH;intros;kernel_rfl
theorem ALh:AH (true::false::false::false::false::true::[]):=by delta AH;intros;kernel_rfl
theorem AG9(ω:List Bool):AH (true::false::false::false::false::true::false::ω):=by delta AH;intros;kernel_rfl
theorem AMM:AH (true::false::false::false::false::true::true::[]):=by delta AH;intros;kernel_rfl
theorem AJ9(ω:List Bool):AH (true::false::false::false::false::true::true::false::ω):=by delta AH;intros;kernel_rfl
theorem AMJ:AH (true::false::false::false::false::true::true::true::[]):=by delta AH;intros;kernel_rfl
theorem AL9(ω:List Bool):AH (true::false::false::false::false::true::true::true::false::ω):=by delta AH;intros;kernel_rfl
theorem AI7(ω:List Bool):AH (true::false::false::false::false::true::true::true::true::ω):=by delta AH;intros;kernel_rfl
theorem AHL:AH (true::false::false::false::true::[]):=by delta AH;intros;kernel_rfl
theorem AIO(ω:List Bool):AH (true::false::false::false::true::false::ω):=by delta AH;intros;kernel_rfl
theorem AKS:AH (true::false::false::false::true::true::[]):=by delta AH;intros;kernel_rfl
theorem AK_(ω:List Bool):AH (true::false::false::false::true::true::false::ω):=by delta AH;intros;kernel_rfl
theorem AI4:AH (true::false::false::false::true::true::true::[]):=by delta AH;intros;kernel_rfl
theorem AJH(ω:List Bool):AH (true::false::false::false::true::true::true::false::ω):=by delta AH;intros;kernel_rfl
theorem AKq(ω:List Bool):AH (true::false::false::false::true::true::true::true::ω):=by delta AH;intros;kernel_rfl
theorem AJ_:AH (true::false::false::true::[]):=by delta AH;intros;kernel_rfl
theorem AGz:AH (true::false::false::true::false::[]):=by delta AH;intros;kernel_rfl
theorem AKD:AH (true::false::false::true::false::false::[]):=by delta AH;intros;kernel_rfl
theorem AJ5(ω:List Bool):AH (true::false::false::true::false::false::false::ω):=by delta AH;intros;kernel_rfl
theorem AKY(ω:List Bool):AH (true::false::false::true::false::false::true::ω):=by delta AH;intros;kernel_rfl
theorem AKQ:AH (true::false::false::true::false::true::[]):=by delta AH;intros;kernel_rfl
theorem AJj(ω:List Bool):AH (true::false::false::true::false::true::false::ω):=by delta AH;intros;kernel_rfl
theorem AJv:AH (true::false::false::true::false::true::true::[]):=by delta AH;intros;kernel_rfl
theorem AHH(ω:List Bool):AH (true::false::false::true::false::true::true::false::ω):=by delta AH;intros;kernel_rfl
theorem AIc:AH (true::false::false::true::false::true::true::true::[]):=by delta AH;intros;kernel_rfl
theorem AIu(ω:List Bool):AH (true::false::false::true::false::true::true::true::false::ω):=by delta AH;intros;kernel_rfl
theorem AIJ:AH (true::false::false::true::false::true::true::true::true::[]):=by delta AH;intros;kernel_rfl
theorem ALv(ω:List Bool):AH (true::false::false::true::false::true::true::true::true::false::ω):=by delta AH;intros;kernel_rfl
theorem AKE(ω:List Bool):AH (true::false::false::true::false::true::true::true::true::true::ω):=by delta AH;intros;kernel_rfl
theorem AKv:AH (true::false::false::true::true::[]):=by delta AH;intros;kernel_rfl
theorem AL8(ω:List Bool):AH (true::false::false::true::true::false::ω):=by delta AH;intros;kernel_rfl
theorem AIk:AH (true::false::false::true::true::true::[]):=by delta AH;intros;kernel_rfl
theorem ALi(ω:List Bool):AH (true::false::false::true::true::true::false::ω):=by delta AH;intros;kernel_rfl
theorem AKi:AH (true::false::false::true::true::true::true::[]):=by delta AH;intros;kernel_rfl
theorem AHg(ω:List Bool):AH (true::false::false::true::true::true::true::false::ω):=by delta AH;intros;kernel_rfl
theorem AJ1:AH (true::false::false::true::true::true::true::true::[]):=by delta AH;intros;kernel_rfl
theorem AHj(ω:List Bool):AH (true::false::false::true::true::true::true::true::false::ω):=by delta AH;intros;kernel_rfl
theorem AGy(ω:List Bool):AH (true::false::false::true::true::true::true::true::true::ω):=by delta AH;intros;kernel_rfl
theorem ALe:AH (true::false::true::[]):=by delta AH;intros;kernel_rfl
theorem AK2:AH (true::false::true::false::[]):=by delta AH;intros;kernel_rfl
theorem AJw:AH (true::false::true::false::false::[]):=by delta AH;intros;kernel_rfl
theorem AJM(ω:List Bool):AH (true::false::true::false::false::false::ω):=by delta AH;intros;kernel_rfl
theorem ALd:AH (true::false::true::false::false::true::[]):=by delta AH;intros;kernel_rfl
theorem ALf(ω:List Bool):AH (true::false::true::false::false::true::false::ω):=by delta AH;intros;kernel_rfl
theorem AH2:AH (true::false::true::false::false::true::true::[]):=by delta AH;intros;kernel_rfl
theorem AGw(ω:List Bool):AH (true::false::true::false::false::true::true::false::ω):=by delta AH;intros;kernel_rfl
theorem ALM(ω:List Bool):AH (true::false::true::false::false::true::true::true::ω):=by delta AH;intros;kernel_rfl
theorem AKx:AH (true::false::true::false::true::[]):=by delta AH;intros;kernel_rfl
theorem AIn(ω:List Bool):AH (true::false::true::false::true::false::ω):=by delta AH;intros;kernel_rfl
theorem AIC:AH (true::false::true::false::true::true::[]):=by delta AH;intros;kernel_rfl
theorem AJh(ω:List Bool):AH (true::false::true::false::true::true::false::ω):=by delta AH;intros;kernel_rfl
theorem AMR:AH (true::false::true::false::true::true::true::[]):=by delta AH;intros;kernel_rfl
theorem ALw(ω:List Bool):AH (true::false::true::false::true::true::true::false::ω):=by delta AH;intros;kernel_rfl
theorem AKw:AH (true::false::true::false::true::true::true::true::[]):=by delta AH;intros;kernel_rfl
theorem AHd(ω:List Bool):AH (true::false::true::false::true::true::true::true::false::ω):=by delta AH;intros;kernel_rfl
theorem AJP(ω:List Bool):AH (true::false::true::false::true::true::true::true::true::ω):=by delta AH;intros;kernel_rfl
theorem AIL:AH (true::false::true::true::[]):=by delta AH;intros;kernel_rfl
theorem AKo:AH (true::false::true::true::false::[]):=by delta AH;intros;kernel_rfl
theorem AJt:AH (true::false::true::true::false::false::[]):=by delta AH;intros;kernel_rfl
theorem AGu(ω:List Bool):AH (true::false::true::true::false::false::false::ω):=by delta AH;intros;kernel_rfl
theorem AJK:AH (true::false::true::true::false::false::true::[]):=by delta AH;intros;kernel_rfl
theorem AHC(ω:List Bool):AH (true::false::true::true::false::false::true::false::ω):=by delta AH;intros;kernel_rfl
theorem AHa(ω:List Bool):AH (true::false::true::true::false::false::true::true::ω):=by delta AH;intros;kernel_rfl
theorem AJT:AH (true::false::true::true::false::true::[]):=by delta AH;intros;kernel_rfl
theorem AKf(ω:List Bool):AH (true::false::true::true::false::true::false::ω):=by delta AH;intros;kernel_rfl
theorem AH5:AH (true::false::true::true::false::true::true::[]):=by delta AH;intros;kernel_rfl
theorem AHU(ω:List Bool):AH (true::false::true::true::false::true::true::false::ω):=by delta AH;intros;kernel_rfl
theorem AHD:AH (true::false::true::true::false::true::true::true::[]):=by delta AH;intros;kernel_rfl
theorem AHp(ω:List Bool):AH (true::false::true::true::false::true::true::true::false::ω):=by delta AH;intros;kernel_rfl
theorem AML(ω:List Bool):AH (true::false::true::true::false::true::true::true::true::ω):=by delta AH;intros;kernel_rfl
theorem AIl:AH (true::false::true::true::true::[]):=by delta AH;intros;kernel_rfl
theorem AIx:AH (true::false::true::true::true::false::[]):=by delta AH;intros;kernel_rfl
theorem AHt:AH (true::false::true::true::true::false::false::[]):=by delta AH;intros;kernel_rfl
theorem ALN(ω:List Bool):AH (true::false::true::true::true::false::false::false::ω):=by delta AH;intros;kernel_rfl
theorem AL7(ω:List Bool):AH (true::false::true::true::true::false::false::true::ω):=by delta AH;intros;kernel_rfl
theorem AJc:AH (true::false::true::true::true::false::true::[]):=by delta AH;intros;kernel_rfl
theorem AJJ(ω:List Bool):AH (true::false::true::true::true::false::true::false::ω):=by delta AH;intros;kernel_rfl
theorem AJy:AH (true::false::true::true::true::false::true::true::[]):=by delta AH;intros;kernel_rfl
theorem AHe(ω:List Bool):AH (true::false::true::true::true::false::true::true::false::ω):=by delta AH;intros;kernel_rfl
theorem AJg(ω:List Bool):AH (true::false::true::true::true::false::true::true::true::ω):=by delta AH;intros;kernel_rfl
theorem AHG:AH (true::false::true::true::true::true::[]):=by delta AH;intros;kernel_rfl
theorem AHI(ω:List Bool):AH (true::false::true::true::true::true::false::ω):=by delta AH;intros;kernel_rfl
theorem AG4:AH (true::false::true::true::true::true::true::[]):=by delta AH;intros;kernel_rfl
theorem ALA(ω:List Bool):AH (true::false::true::true::true::true::true::false::ω):=by delta AH;intros;kernel_rfl
theorem AIm(ω:List Bool):AH (true::false::true::true::true::true::true::true::ω):=by delta AH;intros;kernel_rfl
theorem AG6:AH (true::true::[]):=by delta AH;intros;kernel_rfl
theorem AK1:AH (true::true::false::[]):=by delta AH;intros;kernel_rfl
theorem AHN:AH (true::true::false::false::[]):=by delta AH;intros;kernel_rfl
theorem AIv(ω:List Bool):AH (true::true::false::false::false::ω):=by delta AH;intros;kernel_rfl
theorem ALo:AH (true::true::false::false::true::[]):=by delta AH;intros;kernel_rfl
theorem ALq(ω:List Bool):AH (true::true::false::false::true::false::ω):=by delta AH;intros;kernel_rfl
theorem ALP:AH (true::true::false::false::true::true::[]):=by delta AH;intros;kernel_rfl
theorem AJr(ω:List Bool):AH (true::true::false::false::true::true::false::ω):=by delta AH;intros;kernel_rfl
theorem AJQ(ω:List Bool):AH (true::true::false::false::true::true::true::ω):=by delta AH;intros;kernel_rfl
theorem AKN:AH (true::true::false::true::[]):=by delta AH;intros;kernel_rfl
theorem ALJ(ω:List Bool):AH (true::true::false::true::false::ω):=by delta AH;intros;kernel_rfl
theorem AJi:AH (true::true::false::true::true::[]):=by delta AH;intros;kernel_rfl
theorem ALt(ω:List Bool):AH (true::true::false::true::true::false::ω):=by delta AH;intros;kernel_rfl
theorem ALI:AH (true::true::false::true::true::true::[]):=by delta AH;intros;kernel_rfl
theorem AJx(ω:List Bool):AH (true::true::false::true::true::true::false::ω):=by delta AH;intros;kernel_rfl
theorem AH3:AH (true::true::false::true::true::true::true::[]):=by delta AH;intros;kernel_rfl
theorem ALO(ω:List Bool):AH (true::true::false::true::true::true::true::false::ω):=by delta AH;intros;kernel_rfl
theorem AHF(ω:List Bool):AH (true::true::false::true::true::true::true::true::ω):=by delta AH;intros;kernel_rfl
theorem AHs:AH (true::true::true::[]):=by delta AH;intros;kernel_rfl
theorem AJa:AH (true::true::true::false::[]):=by delta AH;intros;kernel_rfl
theorem AH0:AH (true::true::true::false::false::[]):=by delta AH;intros;kernel_rfl
theorem AIb(ω:List Bool):AH (true::true::true::false::false::false::ω):=by delta AH;intros;kernel_rfl
theorem AJu:AH (true::true::true::false::false::true::[]):=by delta AH;intros;kernel_rfl
theorem AJA(ω:List Bool):AH (true::true::true::false::false::true::false::ω):=by delta AH;intros;kernel_rfl
theorem AKC(ω:List Bool):AH (true::true::true::false::false::true::true::ω):=by delta AH;intros;kernel_rfl
theorem ALc:AH (true::true::true::false::true::[]):=by delta AH;intros;kernel_rfl
theorem ALZ(ω:List Bool):AH (true::true::true::false::true::false::ω):=by delta AH;intros;kernel_rfl
theorem AHZ:AH (true::true::true::false::true::true::[]):=by delta AH;intros;kernel_rfl
theorem ALR(ω:List Bool):AH (true::true::true::false::true::true::false::ω):=by delta AH;intros;kernel_rfl
theorem ALG:AH (true::true::true::false::true::true::true::[]):=by delta AH;intros;kernel_rfl
theorem AH4(ω:List Bool):AH (true::true::true::false::true::true::true::false::ω):=by delta AH;intros;kernel_rfl
theorem AIV(ω:List Bool):AH (true::true::true::false::true::true::true::true::ω):=by delta AH;intros;kernel_rfl
theorem AJS:AH (true::true::true::true::[]):=by delta AH;intros;kernel_rfl
theorem AHA:AH (true::true::true::true::false::[]):=by delta AH;intros;kernel_rfl
theorem AME:AH (true::true::true::true::false::false::[]):=by delta AH;intros;kernel_rfl
theorem AKr(ω:List Bool):AH (true::true::true::true::false::false::false::ω):=by delta AH;intros;kernel_rfl
theorem ALY(ω:List Bool):AH (true::true::true::true::false::false::true::ω):=by delta AH;intros;kernel_rfl
theorem AHV:AH (true::true::true::true::false::true::[]):=by delta AH;intros;kernel_rfl
theorem AKG(ω:List Bool):AH (true::true::true::true::false::true::false::ω):=by delta AH;intros;kernel_rfl
theorem AIU:AH (true::true::true::true::false::true::true::[]):=by delta AH;intros;kernel_rfl
theorem AH6(ω:List Bool):AH (true::true::true::true::false::true::true::false::ω):=by delta AH;intros;kernel_rfl
theorem AJ4(ω:List Bool):AH (true::true::true::true::false::true::true::true::ω):=by delta AH;intros;kernel_rfl
theorem AJZ:AH (true::true::true::true::true::[]):=by delta AH;intros;kernel_rfl
theorem AGx(ω:List Bool):AH (true::true::true::true::true::false::ω):=by delta AH;intros;kernel_rfl
theorem AHR:AH (true::true::true::true::true::true::[]):=by delta AH;intros;kernel_rfl
theorem AKn(ω:List Bool):AH (true::true::true::true::true::true::false::ω):=by delta AH;intros;kernel_rfl
theorem ALW(ω:List Bool):AH (true::true::true::true::true::true::true::ω):=by delta AH;intros;kernel_rfl
theorem b51(eC:ACa→Option Fu)(mN:ACn→Option LN)(fM:ACt→Option Fv)(kz:ABe→Option Gk)(mc:ADa→Option JV)(n:Nat)(ω:List Bool)(v:i51.V):Cy ⟨T,QN [(101,⟨gz,xK,gz.un eC⟩),(102,⟨mn,zW,mn.un mN⟩),(103,⟨iN,wP,iN.un fM⟩),(104,⟨br,vd,br.un kz⟩),(105,⟨i105,zE,i105.un mc⟩)],B_ [(1,[0,1]),(5,[0,1,2,3,4,5,6,7,8,9,11,13,14,15,16,17,18]),(9,[0,1,2,3,4,5,6,7,8,9,11,12,13,14,16,17,18]),(13,[0,1,2,3,4,5,6,7,8,9,11,12,13,14,15,17,18]),(17,[0,1,2,3,4,5,6,7,8,9,11,12,13,14,15,16,18])]⟩ c51 Tryz.f51 (LU 0 L51 n) ω v=i51.un (fun(p0:ABf)=>
 if 0+p0.1.length≤Go.M.DE then(
 if 0+p0.2.2.2.1.length≤Go.M.DE then(
 (eC (p0.2.2.2.2.1,p0.2.2.2.2.2.1,())).bind fun u2=>
 if 0+p0.2.2.2.2.2.2.2.2.2.1.length≤Go.M.DE then(
 (CZ n) 0 p0.1 p0.2.1 p0.2.2.1 p0.2.2.2.1 p0.2.2.2.2.1 p0.2.2.2.2.2.1 p0.2.2.2.2.2.2.1 p0.2.2.2.2.2.2.2.1 p0.2.2.2.2.2.2.2.2.1 p0.2.2.2.2.2.2.2.2.2.1 p0.2.2.2.2.2.2.2.2.2.2.1 0 0 false [] [] [] [] [] [] [] [] p0.2.1 u2.1.1.2.1 p0.2.2.2.2.2.2.2.2.2.2.1 p0.1 [] p0.2.2.2.1 u2.2.1 [] [] [] p0.2.2.2.2.2.2.2.2.2.1)else none)else none)else none) v:=(AF AXV (AF AWF (AF AU2 (AF AVT (AF AVs (AF AXC AVD (AF AVG AUb ATP)) (AF AQO AOf (AF ATF ATg (AF ATU ASY (AF AQt ASv APR))))) (AF ARH (AF ASR (AF ASg ANz APL) (AF AQN ASU (AF AOc APm (AF ATQ ANt AQJ)))) (AF ATf AS0 (AF AQE APV (AF ASI ASF APb))))) (AF AOa (AF AQM (AF ARs ASs (AF ASj AOy ASS)) (AF AOD AQo (AF ASm AQr (AF ARY ASp (AF APC AOi (AF ARr AQ4 ARw)))))) (AF APM (AF AQv (AF APf ASH AQH) (AF AOK ATd (AF APg ASe (AF AQV APP (AF ATm ASu ATO))))) (AF ATv ASn (AF AOl AS8 (AF AOX ASz (AF AQ3 AN3 ARI))))))) (AF AOE (AF AQn (AF ATs AQy (AF AOr AR7 (AF AO_ ARU (AF APj AQL ATX)))) (AF AQF ASM (AF ATw AQa (AF ATI AS7 (AF APT AOp (AF APD ALm AHK)))))) (AF AHv (AF AJo (AF AHz AKJ (AF ALg AIf (AF AJ8 AHn AIg))) (AF AI2 AIs (AF AMB AKy (AF ALX AIp (AF ALb AG8 AI8))))) (AF AH9 (AF AMK (AF AHm AJR (AF AHw AMA AJL)) (AF AMQ AJF (AF AIK AIW (AF AJB AKB AJm)))) (AF AHW (AF AHo (AF AJe AKM AHS) (AF AKa AIq (AF AHx AH8 AHl))) (AF AKp AKO (AF AIy ALV AHc))))))) (AF AJn (AF AMT (AF AL0 (AF AJX (AF AL5 (AF AKm AIE AHk) (AF ALh AG9 (AF AMM AJ9 (AF AMJ AL9 AI7)))) (AF AHL AIO (AF AKS AK_ (AF AI4 AJH AKq)))) (AF AJ_ (AF AGz (AF AKD AJ5 AKY) (AF AKQ AJj (AF AJv AHH (AF AIc AIu (AF AIJ ALv AKE))))) (AF AKv AL8 (AF AIk ALi (AF AKi AHg (AF AJ1 AHj AGy)))))) (AF ALe (AF AK2 (AF AJw AJM (AF ALd ALf (AF AH2 AGw ALM))) (AF AKx AIn (AF AIC AJh (AF AMR ALw (AF AKw AHd AJP))))) (AF AIL (AF AKo (AF AJt AGu (AF AJK AHC AHa)) (AF AJT AKf (AF AH5 AHU (AF AHD AHp AML)))) (AF AIl (AF AIx (AF AHt ALN AL7) (AF AJc AJJ (AF AJy AHe AJg))) (AF AHG AHI (AF AG4 ALA AIm)))))) (AF AG6 (AF AK1 (AF AHN AIv (AF ALo ALq (AF ALP AJr AJQ))) (AF AKN ALJ (AF AJi ALt (AF ALI AJx (AF AH3 ALO AHF))))) (AF AHs (AF AJa (AF AH0 AIb (AF AJu AJA AKC)) (AF ALc ALZ (AF AHZ ALR (AF ALG AH4 AIV)))) (AF AJS (AF AHA (AF AME AKr ALY) (AF AHV AKG (AF AIU AH6 AJ4))) (AF AJZ AGx (AF AHR AKn ALW))))))) ω eC mN fM kz mc n v
theorem e51(n:Nat)(ω:List Bool)(v:i51.V):Cy C51 c51 Tryz.f51 (LU 0 L51 n) ω v=i51.un (RW (CZ n) (Co n) (CV n) (CU n)) v:=b51 GW Es EX EW CL n ω v
def s51:SQ:=mk Tryz.func51 i51 o51 Kn [ACE,ACi,ADB,ACm,ALj] [(1,[0,1]),(5,[0,1,2,3,4,5,6,7,8,9,11,13,14,15,16,17,18]),(9,[0,1,2,3,4,5,6,7,8,9,11,12,13,14,16,17,18]),(13,[0,1,2,3,4,5,6,7,8,9,11,12,13,14,15,17,18]),(17,[0,1,2,3,4,5,6,7,8,9,11,12,13,14,15,16,18])] L51 (hJ:= .cons (fun _=>rfl) AVZ (.cons (fun _=>rfl) AXm (.cons (fun _=>rfl) AOu (.cons (fun _=>rfl) AQs (.nil))))) (he:=e51 Ac)
def AWk:SQ:=mk Tryz.func215 Fo bX PS [Ym] [] [⟨3,⟨[(0,BH),(3,ot),(4,BH)],gi⟩,IM⟩]
abbrev yl:BE:=AM8
abbrev ARK:BE:=ANQ
def AXZ:Qf:=⟨yl,ARK,(yl.un Mr)⟩
def AZf:aZ:=⟨T,QN (SP.l [s82,ACE,ABv]),B_ [(6,[0,1,2])]⟩
def ATS:List (Lp ARK):=[]
theorem Abx(g82:ABU→List Int→Option kR)(eC:ACa→Option Fu)(AUn:ABU→ACa→Option Sy)(n:Nat)(ω:List Bool)(v:yl.V):Cy ⟨T,QN [(82,⟨i82,o82,i82.un g82⟩),(101,⟨gz,xK,gz.un eC⟩),(182,⟨i182,AWN,i182.un AUn⟩)],B_ [(6,[0,1,2])]⟩ AXZ Tryz.f214 (LU 0 ATS n) ω v=yl.un (fun(p0:ABU) (p1:ACa) (p2:AAG)=>
 (AUn (p0.1,p0.2.1,()) (p1.1,p1.2.1,())).bind fun u1=>
 cond (!u1.1.1)
  (some (((((),0,()),0,false,()),()),([],())))
 ((eC (p1.1,p1.2.1,())).bind fun u2=>
 (g82 (p0.1,p0.2.1,()) p2).bind fun u3=>
 cond (!u3.1.1)
  (some (((((),u2.1.1.2.1,()),0,false,()),()),(u2.2.1,())))
 (cond (((p1.1.length:Int)==30))
  (some (((((),u2.1.1.2.1,()),0,false,()),()),(u2.2.1,())))
 (if 0+p2.length≤Go.M.DE then(
 if u2.2.1.length+1≤Go.M.DE then(
 let x5:AAX:=u2.2.1++[(p2,false,0,())]
 some (((((),u2.1.1.2.1,()),(x5.length:Int),true,()),()),(x5,())))else none)else none)))) v:=by rcases ω with _|⟨_|_,_|⟨_|_,_|⟨_|_,_|⟨_|_,_|⟨_|_,_⟩⟩⟩⟩⟩<;>kernel_rfl
theorem AZx(n:Nat)(ω:List Bool)(v:yl.V):Cy AZf AXZ Tryz.f214 (LU 0 ATS n) ω v=yl.un (Mr) v:=Abx Ey GW NH n ω v
def AVF:SQ:=mk Tryz.func214 yl ARK Mr [s82,ACE,ABv] [(6,[0,1,2])] ATS (hJ:= .nil) (he:=AZx Ac)
def AY_:SQ:=mk Tryz.func131 dN ⟨[(0,.Nb [.inr [.ref 0,.v tI,.ref 1,.ref 2,.ref 8,.v tI,.ref 9,.ref 10,.ref 6,.ref 7,.v .bool],.inl (.v tI)])],[C0,W6,C0,Iv,Iv,Iv,M4,JP,LL,Tm,Tn]⟩ XS [AVF,AWk] [(3,[0,1,2,3,4,5,6,7,8,9,10])] [] (he:=fun ω v=>by rcases ω with _|⟨_|_,_|⟨_|_,_⟩⟩<;>kernel_rfl)
def AOd:SQ:=mk Tryz.func216 rC Cf L4 [Ym] [] []
abbrev AAF:BE:=ANm
abbrev ARB:BE:=ANe
def AUh:Qf:=⟨AAF,ARB,(AAF.un G3)⟩
def AZD:aZ:=⟨T,QN (SP.l [ADB,AE6]),B_ []⟩
def ATa:List (Lp ARB):=[]
theorem AY0(fM:ACt→Option Fv)(AQG:ABU→ACt→Option NP)(n:Nat)(ω:List Bool)(v:AAF.V):Cy ⟨T,QN [(103,⟨iN,wP,iN.un fM⟩),(183,⟨i183,AUa,i183.un AQG⟩)],B_ []⟩ AUh Tryz.f217 (LU 0 ATa n) ω v=AAF.un (fun(p0:ABU) (p1:ACt) (p2:ABp)=>
 (AQG (p0.1,p0.2.1,()) (p1.1,p1.2.1,())).bind fun u1=>
 cond (!u1.1.1)
  (some ((((0,(),()),0,false,()),()),([],())))
 ((fM (p1.1,p1.2.1,())).bind fun u2=>
 if u2.2.1.length+1≤Go.M.DE then(
 let x3:AB4:=u2.2.1++[(p2,[],false,())]
 (AQG (p0.1,p0.2.1,()) (u2.1.1.1,x3,())).bind fun u4=>
 cond (!u4.1.1)
  ((fM (p1.1,p1.2.1,())).bind fun u5=>
  some ((((u5.1.1.1,(),()),0,false,()),()),(u5.2.1,())))
 (some ((((u2.1.1.1,(),()),(x3.length:Int),true,()),()),(x3,()))))else none)) v:=by rcases ω with _|⟨_|_,_|⟨_|_,_⟩⟩<;>kernel_rfl
theorem Ab3(n:Nat)(ω:List Bool)(v:AAF.V):Cy AZD AUh Tryz.f217 (LU 0 ATa n) ω v=AAF.un (G3) v:=AY0 EX Hm n ω v
def AWh:SQ:=mk Tryz.func217 AAF ARB G3 [ADB,AE6] [] ATa (hJ:= .nil) (he:=Ab3 Ac)
abbrev zL:BE:=mw
abbrev o71:BE:=Fo
def s71:SQ:=mk Tryz.func71 zL o71 CN [] [] []
def AY2:SQ:=mk Tryz.func132 dN ⟨[(0,.Nb [.inr [.ref 0,.v tI,.ref 1,.ref 2,.ref 3,.v tI,.ref 4,.ref 5,.ref 6,.ref 8,.v .bool],.inl (.v tI)])],[C0,W6,C0,LL,Tm,Tn,M4,Iv,JP]⟩ Zj [s71,AOd,AWh] [(3,[0,1,2,3,4,5,6,7,8,9,10]),(7,[0,1,2,3,4,5,6,7,8,9,10]),(11,[0,1,2,3,4,5,6,7,8,9,10,11,12,13,14,15,16,17,18]),(18,[0,1,2,3,4,5,6,7,8,9,10,11,12,13,14,15,16,17,18,19])] [⟨9,⟨[(2,iO),(4,eU),(9,oV),(10,BH)],[C0,W6,C0,LL,Tm,Tn,M4,JP,sM,sY,FG,aF,FG,Qg,aD,Z6,aH,Yp,AXS]⟩,MY⟩,⟨16,⟨[(2,iO),(4,eU),(9,oV),(11,.c (.ref 19)),(12,xP0),(13,BH)],[C0,W6,C0,LL,Tm,Tn,M4,JP,sM,sY,FG,aF,FG,Qg,aD,Z6,aH,Yp,AXS,Yp]⟩,KU⟩] (he:=fun ω v=>by rcases ω with _|⟨_|_,_|⟨_|_,_|⟨_|_,_⟩⟩⟩<;>kernel_rfl)
def yy:SQ:=mk Tryz.func218 rC Fo Hj [Ym,oF] [] []
def Aaq:SQ:=mk Tryz.func277 AEr Cf W0 [og] [(2,[0,1])] []
def AR3:SQ:=mk Tryz.func219 AEr tY Nl [ACi,zb,ALz,Aaq] [] []
def Aa9:SQ:=mk Tryz.func133 dN uK Uu [s69,s71,Ym,oF,AOd,yy,AR3] [(9,[0,1,2,3,4,5,6,7,8,9,10,11]),(11,[0,1,2,3,4,5,6,7,8,9,10,11,12])] [] (he:=fun ω v=>by rcases ω with _|⟨_|_,_|⟨_|_,_⟩⟩<;>kernel_rfl)
def AXi:SQ:=mk Tryz.func305 ANK AM0 SA [] [] []
def APt:SQ:=mk Tryz.func284 ⟨[(0,Yo),(1,.row Y1)],[]⟩ wi Rz [AXi] [(6,[0,1]),(7,[0]),(9,[0,1])] [⟨4,⟨[(0,Yo),(3,J2),(5,xP7),(6,xP0),(7,BH)],[AC8,Ju]⟩,Jm⟩]
def AW5:SQ:=mk Tryz.func237 j6 tY NJ [ACi,Ym,zb,APt] [(3,[0,1]),(8,[0,1,2,3,5,6])] [⟨5,ANP,Jc⟩] (he:=fun ω v=>by rcases ω with _|⟨_|_,_|⟨_|_,_⟩⟩<;>kernel_rfl)
def API:SQ:=mk Tryz.func220 nq tY Jv [AW5] [] []
abbrev iX:BE:=AEI
abbrev xJ:BE:=wj
def ALT:SQ:=mk Tryz.func278 iX xJ He [] [] [⟨2,⟨[(0,Yo),(1,BH),(4,J2),(6,BH)],[AC8]⟩,Qd⟩]
abbrev iA:BE:=AMz
abbrev w9:BE:=AMq
def AQc:SQ:=mk Tryz.func279 iA w9 Dv [s82,ADB,Ym,AAD,AE6] [(6,[0,1,2,4]),(7,[0,1,2,4])] []
def Aak:SQ:=mk Tryz.func287 mw rN TU [Ym] [] []
abbrev iV:BE:=AMs
abbrev wa:BE:=wj
def ATB:SQ:=mk Tryz.func231 iV wa Eo [ALT,Aak] [] []
abbrev V7:BE:=AM3
abbrev mI:BE:=xj
def AHY:SQ:=mk Tryz.func281 V7 mI Eg [ACm,Ym,AAD,ACq] [(6,[0,1,2,3,4,6])] []
abbrev AAE:BE:=⟨[(0,APu),(1,BH)],[C0,TQ,C0,LL,Tm,Tn,M4,JP]⟩
abbrev ARN:BE:=⟨AQR,AGG⟩
def ll:Qf:=⟨AAE,ARN,(AAE.un Wz)⟩
def AC1:aZ:=⟨T,QN (SP.l [s69,s71,oF,og,ATB,ALT,AQc,AKH,AHY]),B_ [(10,[0,1,2,3,4,5,6,7,8,9,10,11]),(18,[0,1,2,3,4,5,6,7,8,9,10,11,12,13,14,15,16,17,18,19])]⟩
def jc:List (Lp ARN):=[⟨3,⟨[(1,BH),(2,iO),(4,eU),(5,oV),(6,BH)],[C0,TQ,C0,LL,cF,Tn,M4,JP,sM,sY,FG,aF,FG,Qg,aD,Z6,aH,Yp,zU]⟩,Be⟩,⟨8,⟨[(1,BH),(2,iO),(4,eU),(5,oV),(6,BH),(7,gF),(8,BH),(46,.c (.ptr 18 2)),(47,BH),(48,gF),(49,BH),(50,xP0)],ABd⟩,BB⟩,⟨15,⟨[(1,BH),(2,iO),(4,eU),(5,oV),(6,BH),(7,gF),(11,BH),(46,.c (.ptr 18 2)),(47,BH),(48,gF),(49,BH),(50,xP0)],ABd⟩,BD⟩,⟨21,⟨[(1,BH),(2,iO),(4,eU),(5,oV),(13,BH)],[C0,TQ,C0,LL,cF,mZ,M4,JP,sM,sY,FG,aF,FG,Qg,aD,Z6,aH,Yp,zU]⟩,Bi⟩,⟨25,⟨[(1,BH),(2,iO),(4,eU),(5,oV),(13,BH),(14,gF),(15,BH)],[C0,TQ,C0,LL,cF,mZ,M4,JP,sM,sY,FG,aF,FG,Qg,aD,Z6,aH,Yp,zU,.mem [.v tI,.v tI,.sl true tI,.sl true Y1,.v .bool,.sl true (.sl tI)]]⟩,Bc⟩]
abbrev lq:BE:=⟨[(1,BH),(2,iO),(4,eU),(5,oV),(6,BH)],[C0,TQ,C0,LL,cF,Tn,M4,JP,sM,sY,FG,aF,FG,Qg,aD,Z6,aH,Yp,zU]⟩
abbrev cG:BE:=⟨[(1,BH),(2,iO),(4,eU),(5,oV),(6,BH),(7,gF),(8,BH),(46,.c (.ptr 18 2)),(47,BH),(48,gF),(49,BH),(50,xP0)],ABd⟩
abbrev fp:BE:=⟨[(1,BH),(2,iO),(4,eU),(5,oV),(6,BH),(7,gF),(11,BH),(46,.c (.ptr 18 2)),(47,BH),(48,gF),(49,BH),(50,xP0)],ABd⟩
abbrev fa:BE:=⟨[(1,BH),(2,iO),(4,eU),(5,oV),(13,BH)],[C0,TQ,C0,LL,cF,mZ,M4,JP,sM,sY,FG,aF,FG,Qg,aD,Z6,aH,Yp,zU]⟩
abbrev fO:BE:=⟨[(1,BH),(2,iO),(4,eU),(5,oV),(13,BH),(14,gF),(15,BH)],[C0,TQ,C0,LL,cF,mZ,M4,JP,sM,sY,FG,aF,FG,Qg,aD,Z6,aH,Yp,zU,.mem [.v tI,.v tI,.sl true tI,.sl true Y1,.v .bool,.sl true (.sl tI)]]⟩
theorem AOv(yP:ACa→Int→Option HB)(yX:Int→Int→Option H_)(gL:List Int→Int→Option Gw)(iB:Int→Option H0)(iK:ABe→Int→Option GZ)(fD:AA2→Int→Option Gp)(fx:ABU→ACt→Int→Int→Option GK)(gC:Int→Option Ks)(SH:ABU→ABe→Int→Int→Option Dt)(n:Nat)(v:lq.V)(ω:List Bool):Hg ⟨T,QN [(69,⟨z6,o69,z6.un yP⟩),(71,⟨zL,o71,zL.un yX⟩),(180,⟨iP,xq,iP.un gL⟩),(186,⟨jC,wO,jC.un iB⟩),(231,⟨iV,wa,iV.un iK⟩),(278,⟨iX,xJ,iX.un fD⟩),(279,⟨iA,w9,iA.un fx⟩),(280,⟨h_,wL,h_.un gC⟩),(281,⟨V7,mI,V7.un SH⟩)],B_ [(10,[0,1,2,3,4,5,6,7,8,9,10,11]),(18,[0,1,2,3,4,5,6,7,8,9,10,11,12,13,14,15,16,17,18,19])]⟩ ll Tryz.f221 (LU 8 jc n) 3 ω (lq.st 207 v)=lq.un (fun(t1:Int) (t6:Int) (b0:AAG) (b1:AAa) (b2:AAG) (b3:AAX) (b4:AAt) (b5:AA9) (b6:ABQ) (b7:AAl) (Dh:Int) (Dz:Int) (CH:Bool) (Dr:Int) (FM:Int) (Cl:Bool) (Mf:AAG) (FC:AAa) (DR:AAG) (FV:AAX) (FU:AAt) (Dq:AA9) (EB:ABQ) (EJ:AAl) (Cc:AA2) (C4:AA2) (Ci:Int)=>
 cond ((decide (t6<(b4.length:Int))))
  (if(0:Int)≤t6∧t6<(b4.length:Int)then(
  (yP (b3,Dz,()) ((b4.getD (t6.toNat) (0,[],())).1)).bind fun u3=>
  (gL u3.2.1 t1).bind fun u4=>
  cond (!u4.1.1)
   ((Be n) t1 (AS (t6+1)) b0 b1 b2 b3 b4 b5 b6 b7 Dh Dz CH Dr FM Cl Mf FC DR FV FU Dq EB EJ Cc C4 Ci)
  (let x5:Int:=(b4.getD (t6.toNat) (0,[],())).1
  cond (decide (Ci≥x5))
   ((Be n) t1 (AS (t6+1)) b0 b1 b2 b3 b4 b5 b6 b7 Dh Dz CH Dr FM Cl Mf FC DR FV FU Dq EB EJ Cc C4 Ci)
  ((BB n) t1 t6 1 Ci x5 (decide (Ci≥x5)) b0 b1 b2 b3 b4 b5 b6 b7 Dh Dz CH Dr FM Cl Mf FC DR FV FU Dq EB EJ Cc C4 Ci ((b4.getD (t6.toNat) (0,[],())).1) ((b4.getD (t6.toNat) (0,[],())).2.1))))else none)
 ((Bi n) t1 0 b0 b1 b2 b3 b4 b5 b6 b7 Dh Dz CH Dr FM Cl Mf FC DR FV FU Dq EB EJ Cc C4 Ci)) v:=by kernel_rfl
theorem AOS(n:Nat)(v:lq.V)(ω:List Bool):Hg AC1 ll Tryz.f221 (LU 8 jc n) 3 ω (lq.st 207 v)=lq.un (Mv (Be n) (BB n) (BD n) (Bi n) (Bc n)) v:=AOv CK CN Cz Cn Eo He Dv HU Eg n v ω
def Bg(ω:List Bool):Prop:= ∀(yP:ACa→Int→Option HB) (yX:Int→Int→Option H_) (gL:List Int→Int→Option Gw) (iB:Int→Option H0) (iK:ABe→Int→Option GZ) (fD:AA2→Int→Option Gp) (fx:ABU→ACt→Int→Int→Option GK) (gC:Int→Option Ks) (SH:ABU→ABe→Int→Int→Option Dt) (n:Nat) (v:cG.V),Hg ⟨T,QN [(69,⟨z6,o69,z6.un yP⟩),(71,⟨zL,o71,zL.un yX⟩),(180,⟨iP,xq,iP.un gL⟩),(186,⟨jC,wO,jC.un iB⟩),(231,⟨iV,wa,iV.un iK⟩),(278,⟨iX,xJ,iX.un fD⟩),(279,⟨iA,w9,iA.un fx⟩),(280,⟨h_,wL,h_.un gC⟩),(281,⟨V7,mI,V7.un SH⟩)],B_ [(10,[0,1,2,3,4,5,6,7,8,9,10,11]),(18,[0,1,2,3,4,5,6,7,8,9,10,11,12,13,14,15,16,17,18,19])]⟩ ll Tryz.f221 (LU 8 jc n) 8 ω (cG.st 207 v)=cG.un (fun(t1:Int) (t6:Int) (t8:Int) (t47:Int) (t49:Int) (t50:Bool) (b0:AAG) (b1:AAa) (b2:AAG) (b3:AAX) (b4:AAt) (b5:AA9) (b6:ABQ) (b7:AAl) (Dh:Int) (Dz:Int) (CH:Bool) (Dr:Int) (FM:Int) (Cl:Bool) (Mf:AAG) (FC:AAa) (DR:AAG) (FV:AAX) (FU:AAt) (Dq:AA9) (EB:ABQ) (EJ:AAl) (Cc:AA2) (C4:AA2) (Ci:Int) (DQ:Int) (CC:AB4)=>
 cond ((decide (t8≤(CC.length:Int))))
  ((yX DQ t8).bind fun u7=>
  (fD Cc u7.1.1).bind fun u8=>
  cond (!u8.1.1.2.1)
   ((BB n) t1 t6 (AS (t8+1)) t47 t49 t50 b0 b1 b2 b3 b4 b5 b6 b7 Dh Dz CH Dr FM Cl Mf FC DR FV FU Dq EB EJ Cc C4 Ci DQ CC)
  (cond (u8.1.1.1.2.1 !=0)
   ((BB n) t1 t6 (AS (t8+1)) t47 t49 t50 b0 b1 b2 b3 b4 b5 b6 b7 Dh Dz CH Dr FM Cl Mf FC DR FV FU Dq EB EJ Cc C4 Ci DQ CC)
  (if(0:Int)≤AS (t8-1)∧AS (t8-1)<(CC.length:Int)then(
  cond (((CC.getD ((AS (t8-1)).toNat) ([],[],false,())).2.2.1))
   ((BB n) t1 t6 (AS (t8+1)) t47 t49 t50 b0 b1 b2 b3 b4 b5 b6 b7 Dh Dz CH Dr FM Cl Mf FC DR FV FU Dq EB EJ Cc C4 Ci DQ CC)
  ((fx (b0,Dh,()) (DQ,CC,()) t8 t1).bind fun D9=>
  (BB n) t1 t6 (AS (t8+1)) t47 t49 t50 b0 b1 b2 b3 b4 b5 b6 b7 Dh Dz CH Dr FM Cl Mf FC DR FV FU Dq EB EJ Cc C4 Ci D9.1.1.1.1 D9.2.1))else none)))
 (if(0:Int)≤t6∧t6<(b4.length:Int)then(
 (BD n) t1 t6 0 t47 t49 t50 b0 b1 b2 b3 (b4.set (t6.toNat) (DQ,CC,())) b5 b6 b7 Dh Dz CH Dr FM Cl Mf FC DR FV FU Dq EB EJ Cc C4 Ci DQ CC)else none)) v
theorem AGb:Bg []:=by delta Bg;intros;kernel_rfl
theorem AGe:Bg (false::[]):=by delta Bg;intros;kernel_rfl
theorem AD9:Bg (false::false::[]):=by delta Bg;intros;kernel_rfl
theorem AGU:Bg (false::false::false::[]):=by delta Bg;intros;kernel_rfl
theorem AEA(ω:List Bool):Bg (false::false::false::false::ω):=by delta Bg;intros;kernel_rfl
theorem AFJ(ω:List Bool):Bg (false::false::false::true::ω):=by delta Bg;intros;kernel_rfl
theorem AF0(ω:List Bool):Bg (false::false::true::ω):=by delta Bg;intros;kernel_rfl
theorem AD2:Bg (false::true::[]):=by delta Bg;intros;kernel_rfl
theorem AEB:Bg (false::true::false::[]):=by delta Bg;intros;kernel_rfl
theorem ADO:Bg (false::true::false::false::[]):=by delta Bg;intros;kernel_rfl
theorem ABt(ω:List Bool):Bg (false::true::false::false::false::ω):=by delta Bg;intros;kernel_rfl
theorem AC7(ω:List Bool):Bg (false::true::false::false::true::ω):=by delta Bg;intros;kernel_rfl
theorem ACB:Bg (false::true::false::true::[]):=by delta Bg;intros;kernel_rfl
theorem AC5(ω:List Bool):Bg (false::true::false::true::false::ω):=by delta Bg;intros;kernel_rfl
theorem ACN:Bg (false::true::false::true::true::[]):=by delta Bg;intros;kernel_rfl
theorem ADV(ω:List Bool):Bg (false::true::false::true::true::false::ω):=by delta Bg;intros;kernel_rfl
theorem ABu(ω:List Bool):Bg (false::true::false::true::true::true::ω):=by delta Bg;intros;kernel_rfl
theorem ACH:Bg (false::true::true::[]):=by delta Bg;intros;kernel_rfl
theorem ABm(ω:List Bool):Bg (false::true::true::false::ω):=by delta Bg;intros;kernel_rfl
theorem ACR:Bg (false::true::true::true::[]):=by delta Bg;intros;kernel_rfl
theorem AB2(ω:List Bool):Bg (false::true::true::true::false::ω):=by delta Bg;intros;kernel_rfl
theorem AB0(ω:List Bool):Bg (false::true::true::true::true::ω):=by delta Bg;intros;kernel_rfl
theorem ACw:Bg (true::[]):=by delta Bg;intros;kernel_rfl
theorem ABr(ω:List Bool):Bg (true::false::ω):=by delta Bg;intros;kernel_rfl
theorem ACP:Bg (true::true::[]):=by delta Bg;intros;kernel_rfl
theorem ACe(ω:List Bool):Bg (true::true::false::ω):=by delta Bg;intros;kernel_rfl
theorem AB3:Bg (true::true::true::[]):=by delta Bg;intros;kernel_rfl
theorem ABy(ω:List Bool):Bg (true::true::true::false::ω):=by delta Bg;intros;kernel_rfl
theorem ACo(ω:List Bool):Bg (true::true::true::true::ω):=by delta Bg;intros;kernel_rfl
theorem ASQ(yP:ACa→Int→Option HB)(yX:Int→Int→Option H_)(gL:List Int→Int→Option Gw)(iB:Int→Option H0)(iK:ABe→Int→Option GZ)(fD:AA2→Int→Option Gp)(fx:ABU→ACt→Int→Int→Option GK)(gC:Int→Option Ks)(SH:ABU→ABe→Int→Int→Option Dt)(n:Nat)(v:cG.V)(ω:List Bool):Hg ⟨T,QN [(69,⟨z6,o69,z6.un yP⟩),(71,⟨zL,o71,zL.un yX⟩),(180,⟨iP,xq,iP.un gL⟩),(186,⟨jC,wO,jC.un iB⟩),(231,⟨iV,wa,iV.un iK⟩),(278,⟨iX,xJ,iX.un fD⟩),(279,⟨iA,w9,iA.un fx⟩),(280,⟨h_,wL,h_.un gC⟩),(281,⟨V7,mI,V7.un SH⟩)],B_ [(10,[0,1,2,3,4,5,6,7,8,9,10,11]),(18,[0,1,2,3,4,5,6,7,8,9,10,11,12,13,14,15,16,17,18,19])]⟩ ll Tryz.f221 (LU 8 jc n) 8 ω (cG.st 207 v)=cG.un (fun(t1:Int) (t6:Int) (t8:Int) (t47:Int) (t49:Int) (t50:Bool) (b0:AAG) (b1:AAa) (b2:AAG) (b3:AAX) (b4:AAt) (b5:AA9) (b6:ABQ) (b7:AAl) (Dh:Int) (Dz:Int) (CH:Bool) (Dr:Int) (FM:Int) (Cl:Bool) (Mf:AAG) (FC:AAa) (DR:AAG) (FV:AAX) (FU:AAt) (Dq:AA9) (EB:ABQ) (EJ:AAl) (Cc:AA2) (C4:AA2) (Ci:Int) (DQ:Int) (CC:AB4)=>
 cond ((decide (t8≤(CC.length:Int))))
  ((yX DQ t8).bind fun u7=>
  (fD Cc u7.1.1).bind fun u8=>
  cond (!u8.1.1.2.1)
   ((BB n) t1 t6 (AS (t8+1)) t47 t49 t50 b0 b1 b2 b3 b4 b5 b6 b7 Dh Dz CH Dr FM Cl Mf FC DR FV FU Dq EB EJ Cc C4 Ci DQ CC)
  (cond (u8.1.1.1.2.1 !=0)
   ((BB n) t1 t6 (AS (t8+1)) t47 t49 t50 b0 b1 b2 b3 b4 b5 b6 b7 Dh Dz CH Dr FM Cl Mf FC DR FV FU Dq EB EJ Cc C4 Ci DQ CC)
  (if(0:Int)≤AS (t8-1)∧AS (t8-1)<(CC.length:Int)then(
  cond (((CC.getD ((AS (t8-1)).toNat) ([],[],false,())).2.2.1))
   ((BB n) t1 t6 (AS (t8+1)) t47 t49 t50 b0 b1 b2 b3 b4 b5 b6 b7 Dh Dz CH Dr FM Cl Mf FC DR FV FU Dq EB EJ Cc C4 Ci DQ CC)
  ((fx (b0,Dh,()) (DQ,CC,()) t8 t1).bind fun D9=>
  (BB n) t1 t6 (AS (t8+1)) t47 t49 t50 b0 b1 b2 b3 b4 b5 b6 b7 Dh Dz CH Dr FM Cl Mf FC DR FV FU Dq EB EJ Cc C4 Ci D9.1.1.1.1 D9.2.1))else none)))
 (if(0:Int)≤t6∧t6<(b4.length:Int)then(
 (BD n) t1 t6 0 t47 t49 t50 b0 b1 b2 b3 (b4.set (t6.toNat) (DQ,CC,())) b5 b6 b7 Dh Dz CH Dr FM Cl Mf FC DR FV FU Dq EB EJ Cc C4 Ci DQ CC)else none)) v:=(AF AGb (AF AGe (AF AD9 (AF AGU AEA AFJ) AF0) (AF AD2 (AF AEB (AF ADO ABt AC7) (AF ACB AC5 (AF ACN ADV ABu))) (AF ACH ABm (AF ACR AB2 AB0)))) (AF ACw ABr (AF ACP ACe (AF AB3 ABy ACo)))) ω yP yX gL iB iK fD fx gC SH n v
theorem ASi(n:Nat)(v:cG.V)(ω:List Bool):Hg AC1 ll Tryz.f221 (LU 8 jc n) 8 ω (cG.st 207 v)=cG.un (Mw (Be n) (BB n) (BD n) (Bi n) (Bc n)) v:=ASQ CK CN Cz Cn Eo He Dv HU Eg n v ω
theorem AIa(yP:ACa→Int→Option HB)(yX:Int→Int→Option H_)(gL:List Int→Int→Option Gw)(iB:Int→Option H0)(iK:ABe→Int→Option GZ)(fD:AA2→Int→Option Gp)(fx:ABU→ACt→Int→Int→Option GK)(gC:Int→Option Ks)(SH:ABU→ABe→Int→Int→Option Dt)(n:Nat)(v:fp.V)(ω:List Bool):Hg ⟨T,QN [(69,⟨z6,o69,z6.un yP⟩),(71,⟨zL,o71,zL.un yX⟩),(180,⟨iP,xq,iP.un gL⟩),(186,⟨jC,wO,jC.un iB⟩),(231,⟨iV,wa,iV.un iK⟩),(278,⟨iX,xJ,iX.un fD⟩),(279,⟨iA,w9,iA.un fx⟩),(280,⟨h_,wL,h_.un gC⟩),(281,⟨V7,mI,V7.un SH⟩)],B_ [(10,[0,1,2,3,4,5,6,7,8,9,10,11]),(18,[0,1,2,3,4,5,6,7,8,9,10,11,12,13,14,15,16,17,18,19])]⟩ ll Tryz.f221 (LU 8 jc n) 15 ω (fp.st 207 v)=fp.un (fun(t1:Int) (t6:Int) (t11:Int) (t47:Int) (t49:Int) (t50:Bool) (b0:AAG) (b1:AAa) (b2:AAG) (b3:AAX) (b4:AAt) (b5:AA9) (b6:ABQ) (b7:AAl) (Dh:Int) (Dz:Int) (CH:Bool) (Dr:Int) (FM:Int) (Cl:Bool) (Mf:AAG) (FC:AAa) (DR:AAG) (FV:AAX) (FU:AAt) (Dq:AA9) (EB:ABQ) (EJ:AAl) (Cc:AA2) (C4:AA2) (Ci:Int) (DQ:Int) (CC:AB4)=>
 cond ((decide (t11<(b7.length:Int))))
  (if(0:Int)≤t11∧t11<(b7.length:Int)then(
  let x65:Int:=(b7.getD (t11.toNat) (0,[],false,())).1
  (iB x65).bind fun u66=>
  cond (u66.1.1==DQ)
   ((gC x65).bind fun u67=>
   cond ((decide (u67.1.1≤(CC.length:Int))))
    ((gC x65).bind fun u69=>
    if(0:Int)≤AS (u69.1.1-1)∧AS (u69.1.1-1)<(CC.length:Int)then(
    cond (((CC.getD ((AS (u69.1.1-1)).toNat) ([],[],false,())).2.2.1))
     (if(0:Int)≤t11∧t11<(b7.length:Int)then(
     (BD n) t1 t6 (AS (t11+1)) t47 t49 t50 b0 b1 b2 b3 b4 b5 b6 (b7.set (t11.toNat) ((b7.getD (t11.toNat) (0,[],false,())).1,(b7.getD (t11.toNat) (0,[],false,())).2.1,true,())) Dh Dz CH Dr FM Cl Mf FC DR FV FU Dq EB EJ Cc C4 Ci DQ CC)else none)
    ((BD n) t1 t6 (AS (t11+1)) t47 t49 t50 b0 b1 b2 b3 b4 b5 b6 b7 Dh Dz CH Dr FM Cl Mf FC DR FV FU Dq EB EJ Cc C4 Ci DQ CC))else none)
   ((BD n) t1 t6 (AS (t11+1)) t47 t49 t50 b0 b1 b2 b3 b4 b5 b6 b7 Dh Dz CH Dr FM Cl Mf FC DR FV FU Dq EB EJ Cc C4 Ci DQ CC))
  ((BD n) t1 t6 (AS (t11+1)) t47 t49 t50 b0 b1 b2 b3 b4 b5 b6 b7 Dh Dz CH Dr FM Cl Mf FC DR FV FU Dq EB EJ Cc C4 Ci DQ CC))else none)
 ((Be n) t1 (AS (t6+1)) b0 b1 b2 b3 b4 b5 b6 b7 Dh Dz CH Dr FM Cl Mf FC DR FV FU Dq EB EJ Cc C4 Ci)) v:=by kernel_rfl
theorem AII(n:Nat)(v:fp.V)(ω:List Bool):Hg AC1 ll Tryz.f221 (LU 8 jc n) 15 ω (fp.st 207 v)=fp.un (LX (Be n) (BB n) (BD n) (Bi n) (Bc n)) v:=AIa CK CN Cz Cn Eo He Dv HU Eg n v ω
theorem ALa(yP:ACa→Int→Option HB)(yX:Int→Int→Option H_)(gL:List Int→Int→Option Gw)(iB:Int→Option H0)(iK:ABe→Int→Option GZ)(fD:AA2→Int→Option Gp)(fx:ABU→ACt→Int→Int→Option GK)(gC:Int→Option Ks)(SH:ABU→ABe→Int→Int→Option Dt)(n:Nat)(v:fa.V)(ω:List Bool):Hg ⟨T,QN [(69,⟨z6,o69,z6.un yP⟩),(71,⟨zL,o71,zL.un yX⟩),(180,⟨iP,xq,iP.un gL⟩),(186,⟨jC,wO,jC.un iB⟩),(231,⟨iV,wa,iV.un iK⟩),(278,⟨iX,xJ,iX.un fD⟩),(279,⟨iA,w9,iA.un fx⟩),(280,⟨h_,wL,h_.un gC⟩),(281,⟨V7,mI,V7.un SH⟩)],B_ [(10,[0,1,2,3,4,5,6,7,8,9,10,11]),(18,[0,1,2,3,4,5,6,7,8,9,10,11,12,13,14,15,16,17,18,19])]⟩ ll Tryz.f221 (LU 8 jc n) 21 ω (fa.st 207 v)=fa.un (fun(t1:Int) (t13:Int) (b0:AAG) (b1:AAa) (b2:AAG) (b3:AAX) (b4:AAt) (b5:AA9) (b6:ABQ) (b7:AAl) (Dh:Int) (Dz:Int) (CH:Bool) (Dr:Int) (FM:Int) (Cl:Bool) (Mf:AAG) (FC:AAa) (DR:AAG) (FV:AAX) (FU:AAt) (Dq:AA9) (EB:ABQ) (EJ:AAl) (Cc:AA2) (C4:AA2) (Ci:Int)=>
 cond ((decide (t13<(b5.length:Int))))
  (if(0:Int)≤t13∧t13<(b5.length:Int)then(
  (Bc n) t1 t13 1 b0 b1 b2 b3 b4 b5 b6 b7 Dh Dz CH Dr FM Cl Mf FC DR FV FU Dq EB EJ Cc C4 Ci ((b5.getD (t13.toNat) (0,0,[],[],false,[],())).1) ((b5.getD (t13.toNat) (0,0,[],[],false,[],())).2.1) ((b5.getD (t13.toNat) (0,0,[],[],false,[],())).2.2.1) ((b5.getD (t13.toNat) (0,0,[],[],false,[],())).2.2.2.1) ((b5.getD (t13.toNat) (0,0,[],[],false,[],())).2.2.2.2.1) ((b5.getD (t13.toNat) (0,0,[],[],false,[],())).2.2.2.2.2.1))else none)
 (some ((((),Dh,(),(),(),Dz,(),(),(),(),CH,()),()),(b0,b1,b2,b3,b4,b5,b6,b7,())))) v:=by kernel_rfl
theorem AJ6(n:Nat)(v:fa.V)(ω:List Bool):Hg AC1 ll Tryz.f221 (LU 8 jc n) 21 ω (fa.st 207 v)=fa.un (Lj (Be n) (BB n) (BD n) (Bi n) (Bc n)) v:=ALa CK CN Cz Cn Eo He Dv HU Eg n v ω
theorem AK7(yP:ACa→Int→Option HB)(yX:Int→Int→Option H_)(gL:List Int→Int→Option Gw)(iB:Int→Option H0)(iK:ABe→Int→Option GZ)(fD:AA2→Int→Option Gp)(fx:ABU→ACt→Int→Int→Option GK)(gC:Int→Option Ks)(SH:ABU→ABe→Int→Int→Option Dt)(n:Nat)(v:fO.V)(ω:List Bool):Hg ⟨T,QN [(69,⟨z6,o69,z6.un yP⟩),(71,⟨zL,o71,zL.un yX⟩),(180,⟨iP,xq,iP.un gL⟩),(186,⟨jC,wO,jC.un iB⟩),(231,⟨iV,wa,iV.un iK⟩),(278,⟨iX,xJ,iX.un fD⟩),(279,⟨iA,w9,iA.un fx⟩),(280,⟨h_,wL,h_.un gC⟩),(281,⟨V7,mI,V7.un SH⟩)],B_ [(10,[0,1,2,3,4,5,6,7,8,9,10,11]),(18,[0,1,2,3,4,5,6,7,8,9,10,11,12,13,14,15,16,17,18,19])]⟩ ll Tryz.f221 (LU 8 jc n) 25 ω (fO.st 207 v)=fO.un (fun(t1:Int) (t13:Int) (t15:Int) (b0:AAG) (b1:AAa) (b2:AAG) (b3:AAX) (b4:AAt) (b5:AA9) (b6:ABQ) (b7:AAl) (Dh:Int) (Dz:Int) (CH:Bool) (Dr:Int) (FM:Int) (Cl:Bool) (Mf:AAG) (FC:AAa) (DR:AAG) (FV:AAX) (FU:AAt) (Dq:AA9) (EB:ABQ) (EJ:AAl) (Cc:AA2) (C4:AA2) (Ci:Int) (DQ:Int) (CC:Int) (aq:AAG) (a_:AA2) (aj:Bool) (VJ:List AAG)=>
 if(0:Int)≤t13∧t13<(b5.length:Int)then(
 cond (decide (t15≤(((b5.getD (t13.toNat) (0,0,[],[],false,[],())).2.2.2.2.2.1).length:Int)))
  ((yP (b3,Dz,()) CC).bind fun u74=>
  (gL u74.2.1 t1).bind fun u75=>
  cond (u75.1.1)
   ((iK (DQ,CC,aq,a_,aj,VJ,()) t15).bind fun u76=>
   (fD Cc u76.1.1.1.1).bind fun u77=>
   cond (u77.1.1.2.1)
    (cond (((u77.1.1.1.1==u76.1.1.1.1)&&((u77.1.1.1.2.1==u76.1.1.1.2.1)&&((u77.1.1.1.2.2.1==u76.1.1.1.2.2.1)&&((u77.1.1.1.2.2.2.1==u76.1.1.1.2.2.2.1)&&true)))))
     ((SH (b0,Dh,()) (DQ,CC,aq,a_,aj,VJ,()) t15 t1).bind fun u79=>
     (Bc n) t1 t13 (AS (t15+1)) b0 b1 b2 b3 b4 b5 b6 b7 Dh Dz CH Dr FM Cl Mf FC DR FV FU Dq EB EJ Cc C4 Ci u79.1.1.1.1 u79.1.1.1.2.1 u79.2.1 u79.2.2.1 u79.1.1.1.2.2.2.2.1 u79.2.2.2.1)
    ((Bc n) t1 t13 (AS (t15+1)) b0 b1 b2 b3 b4 b5 b6 b7 Dh Dz CH Dr FM Cl Mf FC DR FV FU Dq EB EJ Cc C4 Ci DQ CC aq a_ aj VJ))
   ((Bc n) t1 t13 (AS (t15+1)) b0 b1 b2 b3 b4 b5 b6 b7 Dh Dz CH Dr FM Cl Mf FC DR FV FU Dq EB EJ Cc C4 Ci DQ CC aq a_ aj VJ))
  (if(0:Int)≤t13∧t13<(b5.length:Int)then(
  (Bi n) t1 (AS (t13+1)) b0 b1 b2 b3 b4 (b5.set (t13.toNat) (DQ,CC,aq,a_,aj,VJ,())) b6 b7 Dh Dz CH Dr FM Cl Mf FC DR FV FU Dq EB EJ Cc C4 Ci)else none))
 (if(0:Int)≤t13∧t13<(b5.length:Int)then(
 (Bi n) t1 (AS (t13+1)) b0 b1 b2 b3 b4 (b5.set (t13.toNat) (DQ,CC,aq,a_,aj,VJ,())) b6 b7 Dh Dz CH Dr FM Cl Mf FC DR FV FU Dq EB EJ Cc C4 Ci)else none))else none) v:=by kernel_rfl
theorem AHy(n:Nat)(v:fO.V)(ω:List Bool):Hg AC1 ll Tryz.f221 (LU 8 jc n) 25 ω (fO.st 207 v)=fO.un (Il (Be n) (BB n) (BD n) (Bi n) (Bc n)) v:=AK7 CK CN Cz Cn Eo He Dv HU Eg n v ω
theorem AcJ(yP:ACa→Int→Option HB)(yX:Int→Int→Option H_)(gL:List Int→Int→Option Gw)(iB:Int→Option H0)(iK:ABe→Int→Option GZ)(fD:AA2→Int→Option Gp)(fx:ABU→ACt→Int→Int→Option GK)(gC:Int→Option Ks)(SH:ABU→ABe→Int→Int→Option Dt)(n:Nat)(ω:List Bool)(v:AAE.V):Cy ⟨T,QN [(69,⟨z6,o69,z6.un yP⟩),(71,⟨zL,o71,zL.un yX⟩),(180,⟨iP,xq,iP.un gL⟩),(186,⟨jC,wO,jC.un iB⟩),(231,⟨iV,wa,iV.un iK⟩),(278,⟨iX,xJ,iX.un fD⟩),(279,⟨iA,w9,iA.un fx⟩),(280,⟨h_,wL,h_.un gC⟩),(281,⟨V7,mI,V7.un SH⟩)],B_ [(10,[0,1,2,3,4,5,6,7,8,9,10,11]),(18,[0,1,2,3,4,5,6,7,8,9,10,11,12,13,14,15,16,17,18,19])]⟩ ll Tryz.f221 (LU 8 jc n) ω v=AAE.un (fun(CI:Int) (CM:Int) (BS:Bool) (p1:Int) (b0:AAG) (b1:AAa) (b2:AAG) (b3:AAX) (b4:AAt) (b5:AA9) (b6:ABQ) (b7:AAl)=>
 if(0:Int)≤p1∧p1<(b1.length:Int)then(
 (Be n) p1 0 b0 b1 b2 b3 b4 b5 b6 b7 CI CM BS 0 0 false [] [] [] [] [] [] [] [] ((b1.getD (p1.toNat) ([],[],0,())).1) ((b1.getD (p1.toNat) ([],[],0,())).2.1) ((b1.getD (p1.toNat) ([],[],0,())).2.2.1))else none) v:=by kernel_rfl
theorem Acv(n:Nat)(ω:List Bool)(v:AAE.V):Cy AC1 ll Tryz.f221 (LU 8 jc n) ω v=AAE.un (Q5 (Be n) (BB n) (BD n) (Bi n) (Bc n)) v:=AcJ CK CN Cz Cn Eo He Dv HU Eg n ω v
def Abv:SQ:=mk Tryz.func221 AAE ARN Wz [s69,s71,oF,og,ATB,ALT,AQc,AKH,AHY] [(10,[0,1,2,3,4,5,6,7,8,9,10,11]),(18,[0,1,2,3,4,5,6,7,8,9,10,11,12,13,14,15,16,17,18,19])] jc (hJ:= .cons (fun _=>rfl) AOS (.cons (fun _=>rfl) ASi (.cons (fun _=>rfl) AII (.cons (fun _=>rfl) AJ6 (.cons (fun _=>rfl) AHy (.nil)))))) (he:=Acv Ac)
def AZW:SQ:=mk Tryz.func134 dN ANR XA [yy,API,Abv] [] []
def ADN:SQ:=mk Tryz.func160 AFo bX H7 [oF] [] [⟨3,⟨[(0,bV),(1,bV),(5,ot),(6,BH)],gi⟩,Om⟩]
def AaU:SQ:=mk Tryz.func222 AMZ AMq OG [ADB,ADN,AE6] [(8,[0,1,2])] [⟨5,⟨[(2,BH),(6,J2),(8,xP9),(9,BH)],ANp⟩,Ht⟩] (hJ:= .cons (fun _=>rfl) (fun n v ω=>by rcases ω with _|⟨_|_,_⟩<;>kernel_rfl) (.nil))
def AZV:SQ:=mk Tryz.func223 ANM xj Qp [ACm,ADN,ACq] [(7,[0,1,2,3,4,5,6])] [⟨5,⟨[(2,BH),(6,J2),(8,oX),(9,BH)],AMe⟩,Ji⟩] (hJ:= .cons (fun _=>rfl) (fun n v ω=>by rcases ω with _|⟨_|_,_⟩<;>kernel_rfl) (.nil))
def AaW:SQ:=mk Tryz.func135 dN ⟨AVQ,[C0,W6,Iv,LL,Tm,Tn,M4,JP,C0]⟩ XZ [s82,AAD,yy,AaU,AZV] [(9,[0,1,2,3,5,6,7,8,9,10,11,12,13,14,15,16,17,18,19]),(13,[0,1,2,3,4,6,7,8,9,10,11,12,13,14,15,16,17,18,19])] [⟨7,⟨[(2,iO),(3,aL),(4,.c (.ptr 11 0)),(7,BH)],ANd⟩,KI⟩,⟨11,⟨[(2,iO),(3,aL),(4,.c (.ptr 11 0)),(8,BH)],ANd⟩,JQ⟩]
def Aa5:SQ:=mk Tryz.func282 mr Cf Zu [s82,zw] [] []
def AbK:SQ:=mk Tryz.func283 ⟨[(0,ub)],[]⟩ wi Z1 [APt] [] [⟨3,⟨[(0,ub),(3,ot),(4,BH)],[Ju]⟩,JN⟩,⟨6,⟨[(0,ub),(3,ot),(4,BH),(5,BH)],[Ju]⟩,JU⟩]
def AY8:SQ:=mk Tryz.func224 ANJ ⟨AW4,[TQ,Ju,Ju]⟩ fl [wR,zb,oF,Aa5,AbK] [] [⟨6,⟨[(1,ot),(2,bV),(4,BH),(10,To),(12,oX),(13,.c (.ref 7)),(14,BH)],AMy⟩,PZ⟩,⟨11,⟨[(4,BH),(10,To),(12,oX),(13,.c (.ref 7)),(15,BH)],AMy⟩,Nn⟩]
def AZi:SQ:=mk Tryz.func136 dN ⟨AVQ,[C0,TQ,Iv,LL,Tm,Tn,M4,JP,C0]⟩ XY [ADN,oF,AY8,yH] [(3,[0,2,3,4,5,6,7,8,9,10])] [] (he:=fun ω v=>by rcases ω with _|⟨_|_,_|⟨_|_,_⟩⟩<;>kernel_rfl)
abbrev i226:BE:=mw
abbrev ACz:BE:=xG
def AQC:SQ:=mk Tryz.func226 i226 ACz My [] [] []
def Aac:SQ:=mk Tryz.func137 AE4 ⟨[(0,.Nb [.inr [.ref 0,.v tI,.ref 1,.ref 2,.ref 3,.v tI,.ref 4,.ref 8,.ref 6,.ref 7,.v .bool],.inl (.v tI)])],[C0,W6,C0,LL,Tm,Iv,M4,JP,Tn]⟩ XJ [AJG,AQC] [] []
def AW6:SQ:=mk Tryz.func227 j6 tY O2 [ACi,Ym,zb,API,yH] [] []
abbrev i229:BE:=j6
abbrev ABj:BE:=wi
def AN8:SQ:=mk Tryz.func229 i229 ABj I6 [zb,og] [] [⟨3,⟨[(1,BH),(2,J2),(5,xP7),(6,BH)],[APp,Ju]⟩,JK⟩]
abbrev i228:BE:=AMw
abbrev ACX:BE:=xj
def AS_:SQ:=mk Tryz.func228 i228 ACX I7 [ACm,AAD,ACq,og,APt] [(8,[0,1,2,3,4,5,6,7,8,9]),(9,[0,1,2,3,4,5,7,8,9])] [⟨6,⟨[(3,Yo),(4,J2),(5,To),(8,xP9),(10,ACG),(11,BH)],[oH,yf,ARa,FG,Ju,ki,AN1,FG,Ju,ki]⟩,Lq⟩]
def AbA:SQ:=mk Tryz.func138 dN uK XO [s69,oF,yy,AW6,AS_,AN8] [(7,[0,1,2,3,4,5,6,7,8,9,10,11]),(9,[0,1,2,3,4,5,6,7,8,9,10,11,12]),(10,[0,1,2,3,4,5,6,7,8,9,10,11,12,13,14,15])] [] (he:=fun ω v=>by rcases ω with _|⟨_|_,_|⟨_|_,_|⟨_|_,_⟩⟩⟩<;>kernel_rfl)
def AV3:SQ:=mk Tryz.func286 AFo bX Ke [ADN] [] []
def AX8:SQ:=mk Tryz.func285 AEH Cf Km [s82,ADN,zw,AX7] [(3,[0,1])] []
abbrev qU:BE:=AND
abbrev ACd:BE:=xj
def AQP:SQ:=mk Tryz.func230 qU ACd I5 [ACm,ACq,AXs,AX8,AV3] [(4,[0,1,2,3,4,5,6])] [⟨8,⟨[(4,J2),(6,To),(8,.c (.ptr 5 0)),(9,BH)],AEi⟩,L8⟩]
def Ab_:SQ:=mk Tryz.func139 AE4 uK XM [s69,AQP] [(3,[0,1,2,3,4,5,6,7,8,9])] [] (he:=fun ω v=>by rcases ω with _|⟨_|_,_|⟨_|_,_⟩⟩<;>kernel_rfl)
def Abz:SQ:=mk Tryz.func140 dN uK Y_ [s69,oF,yy,AR3,ATB] [(3,[0,1,2,3,4,5,6,7,8,9,10]),(9,[0,1,2,3,4,5,6,7,8,9,10,11]),(11,[0,1,2,3,4,5,6,7,8,9,10,11,12])] [] (he:=fun ω v=>by rcases ω with _|⟨_|_,_|⟨_|_,_⟩⟩<;>kernel_rfl)
def Abe:SQ:=mk Tryz.func232 tK Cf Sb [s82,ACq] [(6,[0,1])] [⟨4,AMl,Kk⟩]
def AWV:SQ:=mk Tryz.func233 AMW AA4 QZ [ACE,Ym,AJG,ABv] [] []
def AZQ:SQ:=mk Tryz.func141 AE4 ⟨[(0,.Nb [.inr [.ref 0,.v tI,.ref 1,.ref 2,.ref 8,.v tI,.ref 4,.ref 9,.ref 6,.ref 7,.v .bool],.inl (.v tI)])],[C0,W6,C0,Iv,Tm,Iv,M4,JP,LL,Tn]⟩ U_ [Abe,AWV] [(3,[0,1,2,3,4,5,6,7,8,9]),(5,[0,1,2,3,4,5,6,7,8,9])] [] (he:=fun ω v=>by rcases ω with _|⟨_|_,_⟩<;>kernel_rfl)
def AVL:SQ:=mk Tryz.func142 ANT AA4 SK [ACE,ABv,zA,og,yH] [(4,[0,1,2,3,4])] []
def Acl:SQ:=mk Tryz.func291 ABC Fo WN [] [] [⟨2,⟨AIh,[AHq]⟩,Jq⟩]
def AbZ:SQ:=mk Tryz.func235 rC Fo eW [Acl] [] [⟨2,AMg,PF⟩]
def AZl:SQ:=mk Tryz.func236 ⟨[(0,.row Y11),(1,.row Y9),(2,BH)],[]⟩ ⟨AFZ,[.sl 9 Y14]⟩ Ql [s71,AWk,yy,ALT] [(6,[0,1,2,3]),(7,[0,1,2,3]),(8,[0,1,3,4])] [⟨4,⟨[(3,J2),(4,To),(7,.c (.ref 2)),(8,.c (.ref 3)),(9,BH)],[zX,.mem [.v tI,.v tI,.sl false Y8],.sl 9 Y14,FG]⟩,Je⟩] (hJ:= .cons (fun _=>rfl) (fun n v ω=>by rcases ω with _|⟨_|_,_|⟨_|_,_⟩⟩<;>kernel_rfl) (.nil))
def AY1:SQ:=mk Tryz.func288 ⟨[(0,sX),(1,s8)],[]⟩ ⟨[(0,.Nb [.inl (.ref 0),.inl (.v .bool)])],gi⟩ Z3 [zw] [] [⟨3,⟨[(1,s8),(2,J2),(6,xP7),(7,BH)],AFv⟩,Lw⟩]
def Acj:SQ:=mk Tryz.func289 ⟨[(0,.row Y9),(1,.row Y8),(2,BH),(3,BH)],[]⟩ ABI Is [ALj] [] []
def Aah:SQ:=mk Tryz.func290 ⟨[(0,bV),(1,BH),(2,s8)],[]⟩ ⟨[(0,.agg [.v tI,.v tI,.v .str])],[]⟩ Mx [oF,ALz,AXi] [] [⟨4,⟨[(0,bV),(1,BH),(2,s8),(6,J2),(7,To),(8,xP0),(9,BH)],[.mem [.v tI,.v tI,.v .str],AC8]⟩,Na⟩]
def Acm:SQ:=mk Tryz.func234 ANH ⟨AW9,[.sl 9 Y8]⟩ Q1 [s71,ALj,AVO,ABv,og,AKH,AX8,AV3,AY1,Acj,Aah] [(9,[0,1,2,4,5]),(14,[0,1,2,3,4,5]),(16,[0,1,2,4,5,6])] []
def AbG:SQ:=mk Tryz.func143 dN uK XL [Ym,Acm,AbZ,AZl] [(3,[0,1,2,3,4,5,6,7,8,9,10])] [] (he:=fun ω v=>by rcases ω with _|⟨_|_,_|⟨_|_,_|⟨_|_,_⟩⟩⟩<;>kernel_rfl)
def Abg:SQ:=mk Tryz.func144 dN ⟨[(0,.Nb [.inr [.ref 0,.v tI,.ref 1,.ref 2,.ref 3,.v tI,.ref 8,.ref 5,.ref 6,.ref 7,.v .bool],.inl (.v tI)])],[C0,W6,C0,LL,Iv,Tn,M4,JP,cF]⟩ XE [AOd] [] [⟨5,⟨[(2,iO),(3,eU),(4,aL),(6,.c (.ref 19)),(7,BH)],[C0,W6,C0,LL,cF,Tn,M4,JP,sM,AE2,z_,FG,aF,FG,Qg,aD,Z6,aH,Yp,cF]⟩,NQ⟩]
def Abq:SQ:=mk Tryz.func238 j6 tY S5 [ACi,zb,zA] [(11,[0,1,2,3,6])] [⟨8,ANP,KW⟩] (hJ:= .cons (fun _=>rfl) (fun n v ω=>by rcases ω with _|⟨_|_,_⟩<;>kernel_rfl) (.nil))
def AZT:SQ:=mk Tryz.func145 dN uK Um [yy,AW5,Abq] [(4,[0,1,2,3,4,5,6,7,8,9,10]),(6,[0,1,2,3,4,5,6,7,8,9,10,12])] [] (he:=fun ω v=>by rcases ω with _|⟨_|_,_⟩<;>kernel_rfl)
def s59:SQ:=mk Tryz.func59 dN ⟨[(0,.Nb [.inr [.ref 0,.v tI,.ref 1,.ref 8,.ref 9,.v tI,.ref 10,.ref 11,.ref 6,.ref 12,.v .bool],.inl (.v tI)])],[C0,TQ,Iv,Iv,Iv,Iv,M4,Iv,C0,LL,cF,mZ,JP]⟩ cU [AY_,AY2,Aa9,AZW,AaW,AZi,Aac,AbA,Ab_,Abz,AZQ,AVL,AbG,Abg,AZT] [] []
def s22:SQ:=mk Tryz.func22 AM6 ANR P0 [s51,s52,s58,s59] [(3,[0,1,2])] [] (he:=fun ω v=>by rcases ω with _|⟨_|_,_|⟨_|_,_⟩⟩<;>kernel_rfl)
abbrev i37:BE:=AF1
abbrev o37:BE:=⟨[(0,.Nb [.inr [.ref 1,.v tI,.ref 2,.ref 3,.ref 4,.v tI,.ref 5,.ref 6,.ref 7,.ref 8,.v .bool],.inl (.ref 9),.inr [.ref 10,.v tI,.ref 11,.ref 12,.ref 13,.v tI,.ref 14,.ref 15,.ref 16,.ref 17,.v .bool]])],[XQ,Iv,Iv,Iv,Iv,Iv,Iv,Iv,Iv,.sl 9 Y12,C0,TQ,C0,LL,cF,mZ,M4,JP]⟩
def s37:SQ:=mk Tryz.func37 i37 o37 Kq [s22,mg,s81,s82,s83,s84] [(21,[0,2,3,4,5,6,7,8,9,11,12,13,14,15,16,17,18,19,28,29,30,31,32,33,34,35,36,37])] [⟨4,⟨[(0,J2),(1,BH),(4,To),(6,aL),(7,gF),(8,.c (.ref 21)),(9,BH)],ANh⟩,Ez⟩,⟨7,⟨[(0,J2),(1,BH),(4,To),(6,aL),(7,gF),(8,.c (.ref 21))],ANh⟩,E7⟩,⟨14,AX_,Dl⟩]
def AXu:SQ:=mk Tryz.func292 gj ANc MZ [s62,mg,s64,s71,og] [] []
abbrev qv:BE:=gj
abbrev ACh:BE:=AMa
def ASx:SQ:=mk Tryz.func242 qv ACh GJ [s62,mg,s71,AR3,API,AW6,AXu] [(6,[1,2,3,4,5,6]),(14,[1,2,3,4,5,6,9]),(25,[0,1,2,3,6])] [⟨4,⟨[(0,J2),(2,To),(3,oX),(4,BH),(5,BH)],AA_⟩,EY⟩,⟨20,⟨[(2,To),(3,oX),(8,BH)],AA_⟩,Eu⟩,⟨23,⟨[(2,To),(3,oX),(8,BH),(9,BH)],AA_⟩,Et⟩] (hJ:= .cons (fun _=>rfl) (fun n v ω=>by rcases ω with _|⟨_|_,_|⟨_|_,_⟩⟩<;>kernel_rfl) (.cons (fun _=>rfl) (fun n v ω=>by kernel_rfl) (.cons (fun _=>rfl) (fun n v ω=>by rcases ω with _|⟨_|_,_|⟨_|_,_⟩⟩<;>kernel_rfl) (.nil))))
abbrev AEQ:BE:=gj
abbrev APE:BE:=AA1
def AFr:SQ:=mk Tryz.func153 AEQ APE FJ [mg,s71,sK] [] []
def AW8:SQ:=mk Tryz.func243 gj ANc Re [mg,AFr,sK,AXu] [] []
abbrev i148:BE:=gj
abbrev AS4:BE:=AMa
def AX4:SQ:=mk Tryz.func148 i148 AS4 VX [mg,s71,sK,ASx,AW8] [(6,[1,4]),(8,[1,3]),(10,[1,2,3,4,5,6]),(11,[0,1,2,3,5])] [⟨10,⟨[(0,J2),(2,To),(3,oX)],AA_⟩,NL⟩] (hJ:= .cons (fun _=>rfl) (fun n v ω=>by rcases ω with _|⟨_|_,_|⟨_|_,_⟩⟩<;>kernel_rfl) (.nil)) (he:=fun ω v=>by rcases ω with _|⟨_|_,_|⟨_|_,_⟩⟩<;>kernel_rfl)
def AaX:SQ:=mk Tryz.func244 nF ⟨ARX,[XQ,Qg]⟩ Pf [mg,s71,s77,AVL,AVF,AWV] [(5,[1,2,3,4,5]),(8,[1,2,3,4,5]),(10,[1,2,3,4,5])] [⟨3,⟨AWn,[XQ,oH,.mem [.ref 3,.v tI],Qg,.mem [.ref 5,.v tI],Qg]⟩,G7⟩] (hJ:= .cons (fun _=>rfl) (fun n v ω=>by rcases ω with _|⟨_|_,_|⟨_|_,_⟩⟩<;>kernel_rfl) (.nil))
abbrev AFd:BE:=nF
abbrev ANy:BE:=⟨ARX,[XQ,.sl 1 Y3]⟩
def AVV:SQ:=mk Tryz.func149 AFd ANy VN [mg,s77,AGN,AFr,sK,AaX] [(11,[1,2,5]),(14,[1,2,5]),(17,[1,2,3,4])] [⟨17,⟨[(0,J2),(4,To),(5,xP4),(7,.c (.sl true tI))],[XQ,AQg,Qg,ARO,.sl 1 Y3]⟩,NT⟩]
abbrev AcQ:BE:=nF
abbrev AbV:BE:=⟨[(0,.agg [.v tI,.ref 1])],[XQ,lN]⟩
def AWg:SQ:=mk Tryz.func245 AcQ AbV Pc [s62,mg,s64,AWh,yH,AQc] [(5,[1,2,3,4,5]),(7,[1,2,3,4,5])] [⟨3,⟨AWn,[XQ,oH,ASo,lN,.mem [.v tI,.ref 5],lN]⟩,Ik⟩] (hJ:= .cons (fun _=>rfl) (fun n v ω=>by rcases ω with _|⟨_|_,_|⟨_|_,_|⟨_|_,_⟩⟩⟩<;>kernel_rfl) (.nil))
abbrev qV:BE:=nF
abbrev ADz:BE:=⟨[(0,.agg [.v tI,.ref 1])],[XQ,.sl 1 Y5]⟩
def AQd:Qf:=⟨qV,ADz,(qV.un Oi)⟩
def AO9:aZ:=⟨T,QN (SP.l [mg,sK,AWg]),B_ [(7,[0,1,2,5]),(9,[1,2]),(12,[0,1,2])]⟩
def AKd:List (Lp ADz):=[⟨11,⟨[(4,To),(5,xP4)],[XQ,.mem [.v tI,.ref 2],lN,.mem [.v tI,.ref 4],.sl 1 Y5]⟩,HC⟩]
abbrev uz:BE:=⟨[(4,To),(5,xP4)],[XQ,.mem [.v tI,.ref 2],lN,.mem [.v tI,.ref 4],.sl 1 Y5]⟩
theorem AKt(n:Nat)(v:uz.V)(ω:List Bool):Hg AO9 AQd Tryz.f150 (LU 1 AKd n) 11 ω (uz.st 68 v)=uz.un (RC (HC n)) v:=by rcases ω with _|⟨_|_,_|⟨_|_,_|⟨_|_,_⟩⟩⟩<;>kernel_rfl
def T1(ω:List Bool):Prop:= ∀(n:Nat) (v:qV.V),Cy AO9 AQd Tryz.f150 (LU 1 AKd n) ω v=qV.un (OW (HC n)) v
theorem ASy:T1 []:=by delta T1;intros;kernel_rfl
theorem AQh:T1 (false::[]):=by delta T1;intros;kernel_rfl
theorem ASZ:T1 (false::false::[]):=by delta T1;intros;kernel_rfl
theorem AP9:T1 (false::false::false::[]):=by delta T1;intros;kernel_rfl
theorem APn(ω:List Bool):T1 (false::false::false::false::ω):=by delta T1;intros;kernel_rfl
theorem ATj(ω:List Bool):T1 (false::false::false::true::ω):=by delta T1;intros;kernel_rfl
theorem APJ(ω:List Bool):T1 (false::false::true::ω):=by delta T1;intros;kernel_rfl
theorem AR0(ω:List Bool):T1 (false::true::ω):=by delta T1;intros;kernel_rfl
theorem ASE(ω:List Bool):T1 (true::ω):=by delta T1;intros;kernel_rfl
theorem AaS(n:Nat)(ω:List Bool)(v:qV.V):Cy AO9 AQd Tryz.f150 (LU 1 AKd n) ω v=qV.un (OW (HC n)) v:=(AF ASy (AF AQh (AF ASZ (AF AP9 APn ATj) APJ) AR0) ASE) ω n v
def AWd:SQ:=mk Tryz.func150 qV ADz Oi [mg,sK,AWg] [(7,[0,1,2,5]),(9,[1,2]),(12,[0,1,2])] AKd (hJ:= .cons (fun _=>rfl) AKt (.nil)) (he:=AaS Ac)
abbrev qY:BE:=tK
abbrev ACT:BE:=bX
def AV_:SQ:=mk Tryz.func293 qY ACT Mq [s82,AAD] [] [⟨3,⟨[(2,J2),(5,xP7),(6,BH)],AFv⟩,NM⟩]
abbrev AAT:BE:=nF
abbrev AR4:BE:=ANA
def wV:Qf:=⟨AAT,AR4,(AAT.un Ma)⟩
def ASL:aZ:=⟨T,QN (SP.l [s62,mg,yH,AQC,AS_,AN8,AQP,ASx,AHY,AV_]),B_ [(6,[1,2,3,4,5,6,7,8,9]),(11,[0,1,2,3,4,5,6,7,8,9]),(17,[1,2,3,4,5,6,7,8,9])]⟩
def vv:List (Lp AR4):=[⟨4,⟨[(0,J2),(3,To),(4,xP9),(5,ACG),(6,BH),(7,BH)],AA3⟩,B6⟩,⟨15,⟨[(0,J2),(3,To),(4,xP9),(5,ACG),(12,BH)],AA3⟩,BT⟩]
abbrev cB:BE:=⟨[(0,J2),(3,To),(4,xP9),(5,ACG),(6,BH),(7,BH)],AA3⟩
abbrev Wy:BE:=⟨[(0,J2),(3,To),(4,xP9),(5,ACG),(12,BH)],AA3⟩
def Jz(ω:List Bool):Prop:= ∀(g62:Int→List Int→Int→Int→Option Nr) (ks:Int→List Int→Int→Int→Option Hz) (mE:Int→Int→Option P2) (oY:Int→Int→Option L0) (mQ:ABU→ABe→Int→AA2→Option F5) (l_:ACn→Int→Option F6) (lJ:ABU→ABe→List Int→Option GA) (lg:List Int→Int→Int→Option CW) (SH:ABU→ABe→Int→Int→Option Dt) (lj:ABU→ABe→Option Gl) (n:Nat) (v:cB.V),Hg ⟨T,QN [(62,⟨i62,o62,i62.un g62⟩),(63,⟨yg,o63,yg.un ks⟩),(225,⟨qO,ACO,qO.un mE⟩),(226,⟨i226,ACz,i226.un oY⟩),(228,⟨i228,ACX,i228.un mQ⟩),(229,⟨i229,ABj,i229.un l_⟩),(230,⟨qU,ACd,qU.un lJ⟩),(242,⟨qv,ACh,qv.un lg⟩),(281,⟨V7,mI,V7.un SH⟩),(293,⟨qY,ACT,qY.un lj⟩)],B_ [(6,[1,2,3,4,5,6,7,8,9]),(11,[0,1,2,3,4,5,6,7,8,9]),(17,[1,2,3,4,5,6,7,8,9])]⟩ wV Tryz.f246 (LU 1 vv n) 4 ω (cB.st 85 v)=cB.un (fun(t6:Int) (t7:Int) (AM:AAG) (AE:Int) (Ab:Int) (BJ:AAG) (Ar:Int) (It:Int) (LC:Int) (QL:Bool) (b3:AAG) (b4:AA2) (b5:List AAG) (LS:Int) (KB:Int) (LV:Bool) (b7:AAG) (b8:AA2) (b9:List AAG)=>
 cond (decide (t7<t6))
  ((ks (BJ.length:Int) AM AE Ab).bind fun u4=>
  (lg u4.2.1.1 u4.2.1.2.1 u4.2.1.2.2.1).bind fun u5=>
  (l_ (u5.2.2.1,u5.2.2.2.1,u5.1.1.2.2.1,()) KB).bind fun u6=>
  (mQ (BJ,Ar,()) (LS,KB,b7,b8,LV,b9,()) u4.1.1 u6.2.1).bind fun u7=>
  cond (u7.1.1.2.1)
   ((B6 n) t6 (AS (t7+1)) u5.2.1.1 u5.2.1.2.1 u5.2.1.2.2.1 BJ Ar It LC QL b3 b4 b5 u7.1.1.1.1 u7.1.1.1.2.1 u7.1.1.1.2.2.2.2.1 u7.2.1 u7.2.2.1 u7.2.2.2.1)
  ((B6 n) t6 (AS (t7+1)) u5.2.1.1 u5.2.1.2.1 u5.2.1.2.2.1 BJ Ar It LC QL b3 b4 b5 LS KB LV b7 b8 b9))
 ((g62 3 AM AE Ab).bind fun WR=>
 cond (WR.1.1)
  (some (((LS,KB,(),(),LV,(),()),()),((WR.2.1.1,WR.2.1.2.1,WR.2.1.2.2.1,()),b7,b8,b9,())))
 ((lj (BJ,Ar,()) (LS,KB,b7,b8,LV,b9,())).bind fun gD=>
 (lJ (BJ,Ar,()) (LS,KB,b7,b8,LV,b9,()) gD.2.1).bind fun Li=>
 cond (Li.1.1.2.1)
  ((BT n) 0 WR.2.1.1 WR.2.1.2.1 WR.2.1.2.2.1 BJ Ar It LC QL b3 b4 b5 Li.1.1.1.1 Li.1.1.1.2.1 Li.1.1.1.2.2.2.2.1 Li.2.1 Li.2.2.1 Li.2.2.2.1)
 ((BT n) 0 WR.2.1.1 WR.2.1.2.1 WR.2.1.2.2.1 BJ Ar It LC QL b3 b4 b5 LS KB LV b7 b8 b9)))) v
theorem AGE:Jz []:=by delta Jz;intros;kernel_rfl
theorem AEv(ω:List Bool):Jz (false::ω):=by delta Jz;intros;kernel_rfl
theorem AFf:Jz (true::[]):=by delta Jz;intros;kernel_rfl
theorem AEd(ω:List Bool):Jz (true::false::ω):=by delta Jz;intros;kernel_rfl
theorem AEK:Jz (true::true::[]):=by delta Jz;intros;kernel_rfl
theorem AGd(ω:List Bool):Jz (true::true::false::ω):=by delta Jz;intros;kernel_rfl
theorem AFp:Jz (true::true::true::[]):=by delta Jz;intros;kernel_rfl
theorem AEU(ω:List Bool):Jz (true::true::true::false::ω):=by delta Jz;intros;kernel_rfl
theorem AEu(ω:List Bool):Jz (true::true::true::true::ω):=by delta Jz;intros;kernel_rfl
theorem AQx(g62:Int→List Int→Int→Int→Option Nr)(ks:Int→List Int→Int→Int→Option Hz)(mE:Int→Int→Option P2)(oY:Int→Int→Option L0)(mQ:ABU→ABe→Int→AA2→Option F5)(l_:ACn→Int→Option F6)(lJ:ABU→ABe→List Int→Option GA)(lg:List Int→Int→Int→Option CW)(SH:ABU→ABe→Int→Int→Option Dt)(lj:ABU→ABe→Option Gl)(n:Nat)(v:cB.V)(ω:List Bool):Hg ⟨T,QN [(62,⟨i62,o62,i62.un g62⟩),(63,⟨yg,o63,yg.un ks⟩),(225,⟨qO,ACO,qO.un mE⟩),(226,⟨i226,ACz,i226.un oY⟩),(228,⟨i228,ACX,i228.un mQ⟩),(229,⟨i229,ABj,i229.un l_⟩),(230,⟨qU,ACd,qU.un lJ⟩),(242,⟨qv,ACh,qv.un lg⟩),(281,⟨V7,mI,V7.un SH⟩),(293,⟨qY,ACT,qY.un lj⟩)],B_ [(6,[1,2,3,4,5,6,7,8,9]),(11,[0,1,2,3,4,5,6,7,8,9]),(17,[1,2,3,4,5,6,7,8,9])]⟩ wV Tryz.f246 (LU 1 vv n) 4 ω (cB.st 85 v)=cB.un (fun(t6:Int) (t7:Int) (AM:AAG) (AE:Int) (Ab:Int) (BJ:AAG) (Ar:Int) (It:Int) (LC:Int) (QL:Bool) (b3:AAG) (b4:AA2) (b5:List AAG) (LS:Int) (KB:Int) (LV:Bool) (b7:AAG) (b8:AA2) (b9:List AAG)=>
 cond (decide (t7<t6))
  ((ks (BJ.length:Int) AM AE Ab).bind fun u4=>
  (lg u4.2.1.1 u4.2.1.2.1 u4.2.1.2.2.1).bind fun u5=>
  (l_ (u5.2.2.1,u5.2.2.2.1,u5.1.1.2.2.1,()) KB).bind fun u6=>
  (mQ (BJ,Ar,()) (LS,KB,b7,b8,LV,b9,()) u4.1.1 u6.2.1).bind fun u7=>
  cond (u7.1.1.2.1)
   ((B6 n) t6 (AS (t7+1)) u5.2.1.1 u5.2.1.2.1 u5.2.1.2.2.1 BJ Ar It LC QL b3 b4 b5 u7.1.1.1.1 u7.1.1.1.2.1 u7.1.1.1.2.2.2.2.1 u7.2.1 u7.2.2.1 u7.2.2.2.1)
  ((B6 n) t6 (AS (t7+1)) u5.2.1.1 u5.2.1.2.1 u5.2.1.2.2.1 BJ Ar It LC QL b3 b4 b5 LS KB LV b7 b8 b9))
 ((g62 3 AM AE Ab).bind fun WR=>
 cond (WR.1.1)
  (some (((LS,KB,(),(),LV,(),()),()),((WR.2.1.1,WR.2.1.2.1,WR.2.1.2.2.1,()),b7,b8,b9,())))
 ((lj (BJ,Ar,()) (LS,KB,b7,b8,LV,b9,())).bind fun gD=>
 (lJ (BJ,Ar,()) (LS,KB,b7,b8,LV,b9,()) gD.2.1).bind fun Li=>
 cond (Li.1.1.2.1)
  ((BT n) 0 WR.2.1.1 WR.2.1.2.1 WR.2.1.2.2.1 BJ Ar It LC QL b3 b4 b5 Li.1.1.1.1 Li.1.1.1.2.1 Li.1.1.1.2.2.2.2.1 Li.2.1 Li.2.2.1 Li.2.2.2.1)
 ((BT n) 0 WR.2.1.1 WR.2.1.2.1 WR.2.1.2.2.1 BJ Ar It LC QL b3 b4 b5 LS KB LV b7 b8 b9)))) v:=(AF AGE AEv (AF AFf AEd (AF AEK AGd (AF AFp AEU AEu)))) ω g62 ks mE oY mQ l_ lJ lg SH lj n v
theorem ATD(n:Nat)(v:cB.V)(ω:List Bool):Hg ASL wV Tryz.f246 (LU 1 vv n) 4 ω (cB.st 85 v)=cB.un (Mo (B6 n) (BT n)) v:=AQx BA AL FY My I7 I6 I5 GJ Eg Mq n v ω
def HI(ω:List Bool):Prop:= ∀(g62:Int→List Int→Int→Int→Option Nr) (ks:Int→List Int→Int→Int→Option Hz) (mE:Int→Int→Option P2) (oY:Int→Int→Option L0) (mQ:ABU→ABe→Int→AA2→Option F5) (l_:ACn→Int→Option F6) (lJ:ABU→ABe→List Int→Option GA) (lg:List Int→Int→Int→Option CW) (SH:ABU→ABe→Int→Int→Option Dt) (lj:ABU→ABe→Option Gl) (n:Nat) (v:Wy.V),Hg ⟨T,QN [(62,⟨i62,o62,i62.un g62⟩),(63,⟨yg,o63,yg.un ks⟩),(225,⟨qO,ACO,qO.un mE⟩),(226,⟨i226,ACz,i226.un oY⟩),(228,⟨i228,ACX,i228.un mQ⟩),(229,⟨i229,ABj,i229.un l_⟩),(230,⟨qU,ACd,qU.un lJ⟩),(242,⟨qv,ACh,qv.un lg⟩),(281,⟨V7,mI,V7.un SH⟩),(293,⟨qY,ACT,qY.un lj⟩)],B_ [(6,[1,2,3,4,5,6,7,8,9]),(11,[0,1,2,3,4,5,6,7,8,9]),(17,[1,2,3,4,5,6,7,8,9])]⟩ wV Tryz.f246 (LU 1 vv n) 15 ω (Wy.st 85 v)=Wy.un (fun(t12:Int) (AM:AAG) (AE:Int) (Ab:Int) (BJ:AAG) (Ar:Int) (It:Int) (LC:Int) (QL:Bool) (b3:AAG) (b4:AA2) (b5:List AAG) (LS:Int) (KB:Int) (LV:Bool) (b7:AAG) (b8:AA2) (b9:List AAG)=>
 (ks 9 AM AE Ab).bind fun Iq=>
 cond ((decide (t12<Iq.1.1)))
  ((mE (b9.length:Int) 1).bind fun gT=>
  (ks gT.1.1 Iq.2.1.1 Iq.2.1.2.1 Iq.2.1.2.2.1).bind fun gN=>
  (ks (BJ.length:Int) gN.2.1.1 gN.2.1.2.1 gN.2.1.2.2.1).bind fun PT=>
  (SH (BJ,Ar,()) (LS,KB,b7,b8,LV,b9,()) (AS (1+gN.1.1)) PT.1.1).bind fun ZZ=>
  cond (ZZ.1.1.2.1)
   ((BT n) (AS (t12+1)) PT.2.1.1 PT.2.1.2.1 PT.2.1.2.2.1 BJ Ar It LC QL b3 b4 b5 ZZ.1.1.1.1 ZZ.1.1.1.2.1 ZZ.1.1.1.2.2.2.2.1 ZZ.2.1 ZZ.2.2.1 ZZ.2.2.2.1)
  ((BT n) (AS (t12+1)) PT.2.1.1 PT.2.1.2.1 PT.2.1.2.2.1 BJ Ar It LC QL b3 b4 b5 LS KB LV b7 b8 b9))
 (some (((LS,KB,(),(),LV,(),()),()),((Iq.2.1.1,Iq.2.1.2.1,Iq.2.1.2.2.1,()),b7,b8,b9,())))) v
theorem ACu:HI []:=by delta HI;intros;kernel_rfl
theorem ABl(ω:List Bool):HI (false::ω):=by delta HI;intros;kernel_rfl
theorem AC9:HI (true::[]):=by delta HI;intros;kernel_rfl
theorem ADD(ω:List Bool):HI (true::false::ω):=by delta HI;intros;kernel_rfl
theorem AC_:HI (true::true::[]):=by delta HI;intros;kernel_rfl
theorem ADT(ω:List Bool):HI (true::true::false::ω):=by delta HI;intros;kernel_rfl
theorem ADE:HI (true::true::true::[]):=by delta HI;intros;kernel_rfl
theorem ACL(ω:List Bool):HI (true::true::true::false::ω):=by delta HI;intros;kernel_rfl
theorem ACV(ω:List Bool):HI (true::true::true::true::ω):=by delta HI;intros;kernel_rfl
theorem AMU(g62:Int→List Int→Int→Int→Option Nr)(ks:Int→List Int→Int→Int→Option Hz)(mE:Int→Int→Option P2)(oY:Int→Int→Option L0)(mQ:ABU→ABe→Int→AA2→Option F5)(l_:ACn→Int→Option F6)(lJ:ABU→ABe→List Int→Option GA)(lg:List Int→Int→Int→Option CW)(SH:ABU→ABe→Int→Int→Option Dt)(lj:ABU→ABe→Option Gl)(n:Nat)(v:Wy.V)(ω:List Bool):Hg ⟨T,QN [(62,⟨i62,o62,i62.un g62⟩),(63,⟨yg,o63,yg.un ks⟩),(225,⟨qO,ACO,qO.un mE⟩),(226,⟨i226,ACz,i226.un oY⟩),(228,⟨i228,ACX,i228.un mQ⟩),(229,⟨i229,ABj,i229.un l_⟩),(230,⟨qU,ACd,qU.un lJ⟩),(242,⟨qv,ACh,qv.un lg⟩),(281,⟨V7,mI,V7.un SH⟩),(293,⟨qY,ACT,qY.un lj⟩)],B_ [(6,[1,2,3,4,5,6,7,8,9]),(11,[0,1,2,3,4,5,6,7,8,9]),(17,[1,2,3,4,5,6,7,8,9])]⟩ wV Tryz.f246 (LU 1 vv n) 15 ω (Wy.st 85 v)=Wy.un (fun(t12:Int) (AM:AAG) (AE:Int) (Ab:Int) (BJ:AAG) (Ar:Int) (It:Int) (LC:Int) (QL:Bool) (b3:AAG) (b4:AA2) (b5:List AAG) (LS:Int) (KB:Int) (LV:Bool) (b7:AAG) (b8:AA2) (b9:List AAG)=>
 (ks 9 AM AE Ab).bind fun Iq=>
 cond ((decide (t12<Iq.1.1)))
  ((mE (b9.length:Int) 1).bind fun gT=>
  (ks gT.1.1 Iq.2.1.1 Iq.2.1.2.1 Iq.2.1.2.2.1).bind fun gN=>
  (ks (BJ.length:Int) gN.2.1.1 gN.2.1.2.1 gN.2.1.2.2.1).bind fun PT=>
  (SH (BJ,Ar,()) (LS,KB,b7,b8,LV,b9,()) (AS (1+gN.1.1)) PT.1.1).bind fun ZZ=>
  cond (ZZ.1.1.2.1)
   ((BT n) (AS (t12+1)) PT.2.1.1 PT.2.1.2.1 PT.2.1.2.2.1 BJ Ar It LC QL b3 b4 b5 ZZ.1.1.1.1 ZZ.1.1.1.2.1 ZZ.1.1.1.2.2.2.2.1 ZZ.2.1 ZZ.2.2.1 ZZ.2.2.2.1)
  ((BT n) (AS (t12+1)) PT.2.1.1 PT.2.1.2.1 PT.2.1.2.2.1 BJ Ar It LC QL b3 b4 b5 LS KB LV b7 b8 b9))
 (some (((LS,KB,(),(),LV,(),()),()),((Iq.2.1.1,Iq.2.1.2.1,Iq.2.1.2.2.1,()),b7,b8,b9,())))) v:=(AF ACu ABl (AF AC9 ADD (AF AC_ ADT (AF ADE ACL ACV)))) ω g62 ks mE oY mQ l_ lJ lg SH lj n v
theorem ALk(n:Nat)(v:Wy.V)(ω:List Bool):Hg ASL wV Tryz.f246 (LU 1 vv n) 15 ω (Wy.st 85 v)=Wy.un (Lo (B6 n) (BT n)) v:=AMU BA AL FY My I7 I6 I5 GJ Eg Mq n v ω
theorem Abo(g62:Int→List Int→Int→Int→Option Nr)(ks:Int→List Int→Int→Int→Option Hz)(mE:Int→Int→Option P2)(oY:Int→Int→Option L0)(mQ:ABU→ABe→Int→AA2→Option F5)(l_:ACn→Int→Option F6)(lJ:ABU→ABe→List Int→Option GA)(lg:List Int→Int→Int→Option CW)(SH:ABU→ABe→Int→Int→Option Dt)(lj:ABU→ABe→Option Gl)(n:Nat)(ω:List Bool)(v:AAT.V):Cy ⟨T,QN [(62,⟨i62,o62,i62.un g62⟩),(63,⟨yg,o63,yg.un ks⟩),(225,⟨qO,ACO,qO.un mE⟩),(226,⟨i226,ACz,i226.un oY⟩),(228,⟨i228,ACX,i228.un mQ⟩),(229,⟨i229,ABj,i229.un l_⟩),(230,⟨qU,ACd,qU.un lJ⟩),(242,⟨qv,ACh,qv.un lg⟩),(281,⟨V7,mI,V7.un SH⟩),(293,⟨qY,ACT,qY.un lj⟩)],B_ [(6,[1,2,3,4,5,6,7,8,9]),(11,[0,1,2,3,4,5,6,7,8,9]),(17,[1,2,3,4,5,6,7,8,9])]⟩ wV Tryz.f246 (LU 1 vv n) ω v=AAT.un (fun(p1:ABU) (AM:AAG) (AE:Int) (Ab:Int)=>
 (ks 2 AM AE Ab).bind fun u1=>
 (oY (AS (1+u1.1.1)) 4).bind fun u2=>
 (ks 5 u1.2.1.1 u1.2.1.2.1 u1.2.1.2.2.1).bind fun u3=>
 (B6 n) u3.1.1 0 u3.2.1.1 u3.2.1.2.1 u3.2.1.2.2.1 p1.1 p1.2.1 0 0 false [] [] [] u2.1.1.1 u2.1.1.2.1 u2.1.1.2.2.2.2.1 u2.2.1 u2.2.2.1 u2.2.2.2.1) v:=by kernel_rfl
theorem AaE(n:Nat)(ω:List Bool)(v:AAT.V):Cy ASL wV Tryz.f246 (LU 1 vv n) ω v=AAT.un (M7 (B6 n) (BT n)) v:=Abo BA AL FY My I7 I6 I5 GJ Eg Mq n ω v
def AY3:SQ:=mk Tryz.func246 AAT AR4 Ma [s62,mg,yH,AQC,AS_,AN8,AQP,ASx,AHY,AV_] [(6,[1,2,3,4,5,6,7,8,9]),(11,[0,1,2,3,4,5,6,7,8,9]),(17,[1,2,3,4,5,6,7,8,9])] vv (hJ:= .cons (fun _=>rfl) ATD (.cons (fun _=>rfl) ALk (.nil))) (he:=AaE Ac)
abbrev AF3:BE:=nF
abbrev AR9:BE:=ANA
def AUc:SQ:=mk Tryz.func151 AF3 AR9 VP [mg,AGN,sK,AW8,AY3] [(8,[1,2,4,5]),(10,[1,2,4,6])] [] (he:=fun ω v=>by rcases ω with _|⟨_|_,_|⟨_|_,_⟩⟩<;>kernel_rfl)
abbrev i152:BE:=gj
abbrev APk:BE:=⟨[(0,.agg [.v tI,.v tI,.ref 1])],[XQ,.sl 9 Y8]⟩
def AX3:SQ:=mk Tryz.func152 i152 APk Ja [mg,AFr,sK] [(5,[1,2])] [⟨3,⟨[(0,J2),(2,To),(3,xP4),(4,BH)],[XQ,.mem [.v tI,.v tI,.ref 2],.sl 9 Y8,.mem [.v tI,.v tI,.ref 4],.sl 9 Y8]⟩,HN⟩] (hJ:= .cons (fun _=>rfl) (fun n v ω=>by rcases ω with _|⟨_|_,_|⟨_|_,_|⟨_|_,_⟩⟩⟩<;>kernel_rfl) (.nil))
abbrev i154:BE:=gj
abbrev AOh:BE:=ANq
def AUv:SQ:=mk Tryz.func154 i154 AOh Rl [mg,s81,sK] [(6,[1,4])] []
abbrev i61:BE:=⟨[(0,J2),(1,.c (.sl false tU))],oy⟩
abbrev o61:BE:=⟨[(0,.agg [.ref 1,.v tI,.ref 2,.ref 3,.ref 4,.v tI,.ref 5,.ref 6,.ref 7,.ref 8,.v .bool])],[XQ,C0,TQ,C0,.sl 1 Y3,cF,mZ,M4,JP]⟩
def c61:Qf:=⟨i61,o61,(i61.un IX)⟩
def C61:aZ:=⟨T,QN (SP.l [s37,s39,mg,AGN,AX4,AVV,AWd,AUc,AX3,AFr,AUv]),B_ [(6,[1,11,12,14,15,16,17,18,19,20,21]),(10,[1,11,12,13,14,15,17,18,19,20]),(12,[1,11,12,13,14,15,16,18,19,20]),(14,[1,11,12,13,14,15,16,17,19,20,21]),(16,[1,11,12,13,14,15,16,17,18,20])]⟩
def L61:List (Lp o61):=[]
def jZ(ω:List Bool):Prop:= ∀(g37:Int→List Int→Int→Int→Option DG) (g39:List Int→Int→Int→Option aU) (ks:Int→List Int→Int→Int→Option Hz) (ABx:ABU→List Int→Int→Int→Option HR) (ACr:List Int→Int→Int→Option Nt) (ABq:ABU→List Int→Int→Int→Option Nc) (AB6:ABU→List Int→Int→Int→Option Ni) (ABw:ABU→List Int→Int→Int→Option aK) (ACJ:List Int→Int→Int→Option GX) (ACl:List Int→Int→Int→Option RH) (ABz:List Int→Int→Int→Option aT) (n:Nat) (v:i61.V),Cy ⟨T,QN [(37,⟨i37,o37,i37.un g37⟩),(39,⟨i39,o39,i39.un g39⟩),(63,⟨yg,o63,yg.un ks⟩),(147,⟨AGO,AOC,AGO.un ABx⟩),(148,⟨i148,AS4,i148.un ACr⟩),(149,⟨AFd,ANy,AFd.un ABq⟩),(150,⟨qV,ADz,qV.un AB6⟩),(151,⟨AF3,AR9,AF3.un ABw⟩),(152,⟨i152,APk,i152.un ACJ⟩),(153,⟨AEQ,APE,AEQ.un ACl⟩),(154,⟨i154,AOh,i154.un ABz⟩)],B_ [(6,[1,11,12,14,15,16,17,18,19,20,21]),(10,[1,11,12,13,14,15,17,18,19,20]),(12,[1,11,12,13,14,15,16,18,19,20]),(14,[1,11,12,13,14,15,16,17,19,20,21]),(16,[1,11,12,13,14,15,16,17,18,20])]⟩ c61 Tryz.f61 (LU 1 L61 n) ω v=i61.un (fun(p1:AAG) (AM:AAG) (AE:Int) (Ab:Int)=>
 (g39 p1 40 90).bind fun u1=>
 (g37 u1.1.1 AM AE Ab).bind fun u2=>
 let x4:AAG:=u2.2.2.2.2.2.2.2.2.2.2.2.1
 let x5:AAa:=u2.2.2.2.2.2.2.2.2.2.2.2.2.1
 let x6:AAG:=u2.2.2.2.2.2.2.2.2.2.2.2.2.2.1
 let x7:AAX:=u2.2.2.2.2.2.2.2.2.2.2.2.2.2.2.1
 let x8:AAt:=u2.2.2.2.2.2.2.2.2.2.2.2.2.2.2.2.1
 let x9:AA9:=u2.2.2.2.2.2.2.2.2.2.2.2.2.2.2.2.2.1
 let Yz:ABQ:=u2.2.2.2.2.2.2.2.2.2.2.2.2.2.2.2.2.2.1
 let cv:AAl:=u2.2.2.2.2.2.2.2.2.2.2.2.2.2.2.2.2.2.2.1
 (ks 40 u2.2.1.1 u2.2.1.2.1 u2.2.1.2.2.1).bind fun Dj=>
 cond (Dj.1.1==0)
  ((ABx (x4,u2.1.1.2.2.1.2.1,()) Dj.2.1.1 Dj.2.1.2.1 Dj.2.1.2.2.1).bind fun J9=>
  some ((((),u2.1.1.2.2.1.2.1,(),(),(),u2.1.1.2.2.1.2.2.2.2.2.1,(),(),(),(),u2.1.1.2.2.1.2.2.2.2.2.2.2.2.2.2.1,()),()),((J9.2.1.1,J9.2.1.2.1,J9.2.1.2.2.1,()),x4,x5,J9.2.2.1,x7,x8,x9,Yz,cv,())))
 (cond (Dj.1.1==1)
  ((ACr Dj.2.1.1 Dj.2.1.2.1 Dj.2.1.2.2.1).bind fun Kc=>
  if(0:Int)≤(0:Int)∧(0:Int)<(x5.length:Int)then(
  some ((((),u2.1.1.2.2.1.2.1,(),(),(),u2.1.1.2.2.1.2.2.2.2.2.1,(),(),(),(),u2.1.1.2.2.1.2.2.2.2.2.2.2.2.2.2.1,()),()),((Kc.2.1.1,Kc.2.1.2.1,Kc.2.1.2.2.1,()),x4,(x5.set 0 (Kc.2.2.1,Kc.2.2.2.1,Kc.1.1.2.2.1,())),x6,x7,x8,x9,Yz,cv,())))else none)
 (cond (Dj.1.1==2)
  ((ABq (x4,u2.1.1.2.2.1.2.1,()) Dj.2.1.1 Dj.2.1.2.1 Dj.2.1.2.2.1).bind fun u16=>
  some ((((),u2.1.1.2.2.1.2.1,(),(),(),u16.1.1.2.1,(),(),(),(),u2.1.1.2.2.1.2.2.2.2.2.2.2.2.2.2.1,()),()),((u16.2.1.1,u16.2.1.2.1,u16.2.1.2.2.1,()),x4,x5,x6,u16.2.2.1,x8,x9,Yz,cv,())))
 (cond (Dj.1.1==3)
  ((AB6 (x4,u2.1.1.2.2.1.2.1,()) Dj.2.1.1 Dj.2.1.2.1 Dj.2.1.2.2.1).bind fun Xb=>
  if x8.length+1≤Go.M.DE then(
  some ((((),u2.1.1.2.2.1.2.1,(),(),(),u2.1.1.2.2.1.2.2.2.2.2.1,(),(),(),(),u2.1.1.2.2.1.2.2.2.2.2.2.2.2.2.2.1,()),()),((Xb.2.1.1,Xb.2.1.2.1,Xb.2.1.2.2.1,()),x4,x5,x6,x7,(x8++[(Xb.1.1.1,Xb.2.2.1,())]),x9,Yz,cv,())))else none)
 (cond (Dj.1.1==4)
  ((ABw (x4,u2.1.1.2.2.1.2.1,()) Dj.2.1.1 Dj.2.1.2.1 Dj.2.1.2.2.1).bind fun Iq=>
  if x9.length+1≤Go.M.DE then(
  some ((((),u2.1.1.2.2.1.2.1,(),(),(),u2.1.1.2.2.1.2.2.2.2.2.1,(),(),(),(),u2.1.1.2.2.1.2.2.2.2.2.2.2.2.2.2.1,()),()),((Iq.2.1.1,Iq.2.1.2.1,Iq.2.1.2.2.1,()),x4,x5,x6,x7,x8,(x9++[(Iq.1.1.1,Iq.1.1.2.1,Iq.2.2.1,Iq.2.2.2.1,Iq.1.1.2.2.2.2.1,Iq.2.2.2.2.1,())]),Yz,cv,())))else none)
 (cond (Dj.1.1==5)
  ((ACJ Dj.2.1.1 Dj.2.1.2.1 Dj.2.1.2.2.1).bind fun dF=>
  if(0:Int)≤(0:Int)∧(0:Int)<(Yz.length:Int)then(
  some ((((),u2.1.1.2.2.1.2.1,(),(),(),u2.1.1.2.2.1.2.2.2.2.2.1,(),(),(),(),u2.1.1.2.2.1.2.2.2.2.2.2.2.2.2.2.1,()),()),((dF.2.1.1,dF.2.1.2.1,dF.2.1.2.2.1,()),x4,x5,x6,x7,x8,x9,(Yz.set 0 (dF.1.1.1,dF.1.1.2.1,dF.2.2.1,())),cv,())))else none)
 (cond (Dj.1.1==6)
  ((ACl Dj.2.1.1 Dj.2.1.2.1 Dj.2.1.2.2.1).bind fun ar=>
  if cv.length+1≤Go.M.DE then(
  some ((((),u2.1.1.2.2.1.2.1,(),(),(),u2.1.1.2.2.1.2.2.2.2.2.1,(),(),(),(),u2.1.1.2.2.1.2.2.2.2.2.2.2.2.2.2.1,()),()),((ar.2.1.1,ar.2.1.2.1,ar.2.1.2.2.1,()),x4,x5,x6,x7,x8,x9,Yz,(cv++[(ar.1.1,[],false,())]),())))else none)
 (cond (Dj.1.1==7)
  (some ((((),u2.1.1.2.2.1.2.1,(),(),(),u2.1.1.2.2.1.2.2.2.2.2.1,(),(),(),(),!u2.1.1.2.2.1.2.2.2.2.2.2.2.2.2.2.1,()),()),((Dj.2.1.1,Dj.2.1.2.1,Dj.2.1.2.2.1,()),x4,x5,x6,x7,x8,x9,Yz,cv,())))
 (cond (Dj.1.1==8)
  ((ABz Dj.2.1.1 Dj.2.1.2.1 Dj.2.1.2.2.1).bind fun nP=>
  some ((((),nP.1.1.2.1,(),(),(),u2.1.1.2.2.1.2.2.2.2.2.1,(),(),(),(),u2.1.1.2.2.1.2.2.2.2.2.2.2.2.2.2.1,()),()),((nP.2.1.1,nP.2.1.2.1,nP.2.1.2.2.1,()),nP.2.2.1,x5,x6,x7,x8,x9,Yz,cv,())))
 (some ((((),u2.1.1.2.2.1.2.1,(),(),(),u2.1.1.2.2.1.2.2.2.2.2.1,(),(),(),(),u2.1.1.2.2.1.2.2.2.2.2.2.2.2.2.2.1,()),()),((Dj.2.1.1,Dj.2.1.2.1,Dj.2.1.2.2.1,()),x4,x5,x6,x7,x8,x9,Yz,cv,())))))))))))) v
theorem AVX:jZ []:=by delta jZ;intros;kernel_rfl
theorem AXJ:jZ (false::[]):=by delta jZ;intros;kernel_rfl
theorem AV7:jZ (false::false::[]):=by delta jZ;intros;kernel_rfl
theorem AUe(ω:List Bool):jZ (false::false::false::ω):=by delta jZ;intros;kernel_rfl
theorem AXL(ω:List Bool):jZ (false::false::true::ω):=by delta jZ;intros;kernel_rfl
theorem AVa(ω:List Bool):jZ (false::true::ω):=by delta jZ;intros;kernel_rfl
theorem AWe(ω:List Bool):jZ (true::ω):=by delta jZ;intros;kernel_rfl
theorem b61(g37:Int→List Int→Int→Int→Option DG)(g39:List Int→Int→Int→Option aU)(ks:Int→List Int→Int→Int→Option Hz)(ABx:ABU→List Int→Int→Int→Option HR)(ACr:List Int→Int→Int→Option Nt)(ABq:ABU→List Int→Int→Int→Option Nc)(AB6:ABU→List Int→Int→Int→Option Ni)(ABw:ABU→List Int→Int→Int→Option aK)(ACJ:List Int→Int→Int→Option GX)(ACl:List Int→Int→Int→Option RH)(ABz:List Int→Int→Int→Option aT)(n:Nat)(ω:List Bool)(v:i61.V):Cy ⟨T,QN [(37,⟨i37,o37,i37.un g37⟩),(39,⟨i39,o39,i39.un g39⟩),(63,⟨yg,o63,yg.un ks⟩),(147,⟨AGO,AOC,AGO.un ABx⟩),(148,⟨i148,AS4,i148.un ACr⟩),(149,⟨AFd,ANy,AFd.un ABq⟩),(150,⟨qV,ADz,qV.un AB6⟩),(151,⟨AF3,AR9,AF3.un ABw⟩),(152,⟨i152,APk,i152.un ACJ⟩),(153,⟨AEQ,APE,AEQ.un ACl⟩),(154,⟨i154,AOh,i154.un ABz⟩)],B_ [(6,[1,11,12,14,15,16,17,18,19,20,21]),(10,[1,11,12,13,14,15,17,18,19,20]),(12,[1,11,12,13,14,15,16,18,19,20]),(14,[1,11,12,13,14,15,16,17,19,20,21]),(16,[1,11,12,13,14,15,16,17,18,20])]⟩ c61 Tryz.f61 (LU 1 L61 n) ω v=i61.un (fun(p1:AAG) (AM:AAG) (AE:Int) (Ab:Int)=>
 (g39 p1 40 90).bind fun u1=>
 (g37 u1.1.1 AM AE Ab).bind fun u2=>
 let x4:AAG:=u2.2.2.2.2.2.2.2.2.2.2.2.1
 let x5:AAa:=u2.2.2.2.2.2.2.2.2.2.2.2.2.1
 let x6:AAG:=u2.2.2.2.2.2.2.2.2.2.2.2.2.2.1
 let x7:AAX:=u2.2.2.2.2.2.2.2.2.2.2.2.2.2.2.1
 let x8:AAt:=u2.2.2.2.2.2.2.2.2.2.2.2.2.2.2.2.1
 let x9:AA9:=u2.2.2.2.2.2.2.2.2.2.2.2.2.2.2.2.2.1
 let Yz:ABQ:=u2.2.2.2.2.2.2.2.2.2.2.2.2.2.2.2.2.2.1
 let cv:AAl:=u2.2.2.2.2.2.2.2.2.2.2.2.2.2.2.2.2.2.2.1
 (ks 40 u2.2.1.1 u2.2.1.2.1 u2.2.1.2.2.1).bind fun Dj=>
 cond (Dj.1.1==0)
  ((ABx (x4,u2.1.1.2.2.1.2.1,()) Dj.2.1.1 Dj.2.1.2.1 Dj.2.1.2.2.1).bind fun J9=>
  some ((((),u2.1.1.2.2.1.2.1,(),(),(),u2.1.1.2.2.1.2.2.2.2.2.1,(),(),(),(),u2.1.1.2.2.1.2.2.2.2.2.2.2.2.2.2.1,()),()),((J9.2.1.1,J9.2.1.2.1,J9.2.1.2.2.1,()),x4,x5,J9.2.2.1,x7,x8,x9,Yz,cv,())))
 (cond (Dj.1.1==1)
  ((ACr Dj.2.1.1 Dj.2.1.2.1 Dj.2.1.2.2.1).bind fun Kc=>
  if(0:Int)≤(0:Int)∧(0:Int)<(x5.length:Int)then(
  some ((((),u2.1.1.2.2.1.2.1,(),(),(),u2.1.1.2.2.1.2.2.2.2.2.1,(),(),(),(),u2.1.1.2.2.1.2.2.2.2.2.2.2.2.2.2.1,()),()),((Kc.2.1.1,Kc.2.1.2.1,Kc.2.1.2.2.1,()),x4,(x5.set 0 (Kc.2.2.1,Kc.2.2.2.1,Kc.1.1.2.2.1,())),x6,x7,x8,x9,Yz,cv,())))else none)
 (cond (Dj.1.1==2)
  ((ABq (x4,u2.1.1.2.2.1.2.1,()) Dj.2.1.1 Dj.2.1.2.1 Dj.2.1.2.2.1).bind fun u16=>
  some ((((),u2.1.1.2.2.1.2.1,(),(),(),u16.1.1.2.1,(),(),(),(),u2.1.1.2.2.1.2.2.2.2.2.2.2.2.2.2.1,()),()),((u16.2.1.1,u16.2.1.2.1,u16.2.1.2.2.1,()),x4,x5,x6,u16.2.2.1,x8,x9,Yz,cv,())))
 (cond (Dj.1.1==3)
  ((AB6 (x4,u2.1.1.2.2.1.2.1,()) Dj.2.1.1 Dj.2.1.2.1 Dj.2.1.2.2.1).bind fun Xb=>
  if x8.length+1≤Go.M.DE then(
  some ((((),u2.1.1.2.2.1.2.1,(),(),(),u2.1.1.2.2.1.2.2.2.2.2.1,(),(),(),(),u2.1.1.2.2.1.2.2.2.2.2.2.2.2.2.2.1,()),()),((Xb.2.1.1,Xb.2.1.2.1,Xb.2.1.2.2.1,()),x4,x5,x6,x7,(x8++[(Xb.1.1.1,Xb.2.2.1,())]),x9,Yz,cv,())))else none)
 (cond (Dj.1.1==4)
  ((ABw (x4,u2.1.1.2.2.1.2.1,()) Dj.2.1.1 Dj.2.1.2.1 Dj.2.1.2.2.1).bind fun Iq=>
  if x9.length+1≤Go.M.DE then(
  some ((((),u2.1.1.2.2.1.2.1,(),(),(),u2.1.1.2.2.1.2.2.2.2.2.1,(),(),(),(),u2.1.1.2.2.1.2.2.2.2.2.2.2.2.2.2.1,()),()),((Iq.2.1.1,Iq.2.1.2.1,Iq.2.1.2.2.1,()),x4,x5,x6,x7,x8,(x9++[(Iq.1.1.1,Iq.1.1.2.1,Iq.2.2.1,Iq.2.2.2.1,Iq.1.1.2.2.2.2.1,Iq.2.2.2.2.1,())]),Yz,cv,())))else none)
 (cond (Dj.1.1==5)
  ((ACJ Dj.2.1.1 Dj.2.1.2.1 Dj.2.1.2.2.1).bind fun dF=>
  if(0:Int)≤(0:Int)∧(0:Int)<(Yz.length:Int)then(
  some ((((),u2.1.1.2.2.1.2.1,(),(),(),u2.1.1.2.2.1.2.2.2.2.2.1,(),(),(),(),u2.1.1.2.2.1.2.2.2.2.2.2.2.2.2.2.1,()),()),((dF.2.1.1,dF.2.1.2.1,dF.2.1.2.2.1,()),x4,x5,x6,x7,x8,x9,(Yz.set 0 (dF.1.1.1,dF.1.1.2.1,dF.2.2.1,())),cv,())))else none)
 (cond (Dj.1.1==6)
  ((ACl Dj.2.1.1 Dj.2.1.2.1 Dj.2.1.2.2.1).bind fun ar=>
  if cv.length+1≤Go.M.DE then(
  some ((((),u2.1.1.2.2.1.2.1,(),(),(),u2.1.1.2.2.1.2.2.2.2.2.1,(),(),(),(),u2.1.1.2.2.1.2.2.2.2.2.2.2.2.2.2.1,()),()),((ar.2.1.1,ar.2.1.2.1,ar.2.1.2.2.1,()),x4,x5,x6,x7,x8,x9,Yz,(cv++[(ar.1.1,[],false,())]),())))else none)
 (cond (Dj.1.1==7)
  (some ((((),u2.1.1.2.2.1.2.1,(),(),(),u2.1.1.2.2.1.2.2.2.2.2.1,(),(),(),(),!u2.1.1.2.2.1.2.2.2.2.2.2.2.2.2.2.1,()),()),((Dj.2.1.1,Dj.2.1.2.1,Dj.2.1.2.2.1,()),x4,x5,x6,x7,x8,x9,Yz,cv,())))
 (cond (Dj.1.1==8)
  ((ABz Dj.2.1.1 Dj.2.1.2.1 Dj.2.1.2.2.1).bind fun nP=>
  some ((((),nP.1.1.2.1,(),(),(),u2.1.1.2.2.1.2.2.2.2.2.1,(),(),(),(),u2.1.1.2.2.1.2.2.2.2.2.2.2.2.2.2.1,()),()),((nP.2.1.1,nP.2.1.2.1,nP.2.1.2.2.1,()),nP.2.2.1,x5,x6,x7,x8,x9,Yz,cv,())))
 (some ((((),u2.1.1.2.2.1.2.1,(),(),(),u2.1.1.2.2.1.2.2.2.2.2.1,(),(),(),(),u2.1.1.2.2.1.2.2.2.2.2.2.2.2.2.2.1,()),()),((Dj.2.1.1,Dj.2.1.2.1,Dj.2.1.2.2.1,()),x4,x5,x6,x7,x8,x9,Yz,cv,())))))))))))) v:=(AF AVX (AF AXJ (AF AV7 AUe AXL) AVa) AWe) ω g37 g39 ks ABx ACr ABq AB6 ABw ACJ ACl ABz n v
theorem e61(n:Nat)(ω:List Bool)(v:i61.V):Cy C61 c61 Tryz.f61 (LU 1 L61 n) ω v=i61.un (IX) v:=b61 Kq Vh AL FP VX VN Oi VP Ja FJ Rl n ω v
def s61:SQ:=mk Tryz.func61 i61 o61 IX [s37,s39,mg,AGN,AX4,AVV,AWd,AUc,AX3,AFr,AUv] [(6,[1,11,12,14,15,16,17,18,19,20,21]),(10,[1,11,12,13,14,15,17,18,19,20]),(12,[1,11,12,13,14,15,16,18,19,20]),(14,[1,11,12,13,14,15,16,17,19,20,21]),(16,[1,11,12,13,14,15,16,17,18,20])] L61 (hJ:= .nil) (he:=e61 Ac)
def s28:SQ:=mk Tryz.func28 AFK ⟨[(0,.Nb [.inr [.ref 0,.v tI,.ref 1,.ref 2,.ref 3,.v tI,.ref 4,.ref 5,.ref 6,.ref 7,.v .bool],.inl (.v tI),.inl (.v .str)])],[C0,TQ,C0,.sl 1 Y3,cF,mZ,M4,JP]⟩ Mm [s38,s61,s62,mg,s64] [(6,[3,4,5,6,7,8,9,10,11])] []
abbrev i43:BE:=ANg
abbrev o43:BE:=Cf
def jJ:SQ:=mk Tryz.func43 i43 o43 A7 [] [] []
def s44:SQ:=mk Tryz.func44 ABW Cf FF [jJ] [] [⟨2,⟨[(1,J2),(6,bV),(7,BH),(8,BH)],ASd⟩,L2⟩]
def Ab0:SQ:=mk Tryz.func161 nE Cf XN [jJ] [] [⟨2,⟨[(0,bV),(1,BH),(7,bV),(8,BH),(9,BH)],[]⟩,KF⟩]
def s74:SQ:=mk Tryz.func74 mr Cf EF [s44,Ab0] [] []
def s72:SQ:=mk Tryz.func72 Fo Cf Hp [jJ] [] []
def s73:SQ:=mk Tryz.func73 Fo Cf X3 [jJ] [] []
def s53:SQ:=mk Tryz.func53 Fo Cf EA [s72,s73] [] []
def AI5:SQ:=mk Tryz.func100 ⟨[(0,ze)],[]⟩ Cf GL [] [] []
def s95:SQ:=mk Tryz.func95 Fo Fo FL [s53] [] []
def AId:SQ:=mk Tryz.func251 ⟨[(0,.row Y1)],[]⟩ Cf Mu [jJ,s53,s95,AI5] [(1,[0])] []
def AaO:SQ:=mk Tryz.func173 AAk Cf O5 [AId] [] [⟨2,⟨[(5,Yo),(6,BH),(7,BH)],[]⟩,IQ⟩]
def AV9:SQ:=mk Tryz.func174 AAk Cf Kl [] [(4,[0])] [⟨2,⟨[(0,Yo),(5,Yo),(6,BH),(7,BH)],[]⟩,GY⟩]
def s92:SQ:=mk Tryz.func92 nq Cf FK [jJ,AaO,AV9] [] []
abbrev i86:BE:=⟨[(0,bV)],[]⟩
abbrev o86:BE:=bX
def s86:SQ:=mk Tryz.func86 i86 o86 DF [] [] []
def Aby:SQ:=mk Tryz.func249 nE Fo Oq [] [] [⟨2,⟨[(0,bV),(1,BH),(7,BH),(8,BH)],[]⟩,Ga⟩]
def zQ:SQ:=mk Tryz.func162 nE Cf Bo [Aby] [] []
def AWo:SQ:=mk Tryz.func252 ⟨[(0,BH),(1,.c (.oe (.cons (.sl tI) .unit)))],[]⟩ Cf Rb [zQ] [] []
def AZq:SQ:=mk Tryz.func294 ⟨[(0,bV),(1,AKb)],[]⟩ Fo Dp [AWo] [] [⟨2,⟨[(0,bV),(1,AKb),(7,BH),(8,BH)],[]⟩,B4⟩]
def AbQ:SQ:=mk Tryz.func247 ⟨[(0,ot),(1,AKb)],tZ⟩ ANn Ck [AWo,AZq] [] [⟨5,⟨[(0,ot),(1,AKb),(5,BH),(6,BH)],tZ⟩,Bt⟩]
def AKV:SQ:=mk Tryz.func175 AFo ABH Ng [s86,AbQ] [] []
abbrev i93:BE:=ABN
abbrev o93:BE:=Cf
def s93:SQ:=mk Tryz.func93 i93 o93 C5 [AKV] [] []
def s75:SQ:=mk Tryz.func75 mr Fo ZM [s74,zQ] [] [⟨5,⟨[(2,J2),(5,xP7),(13,bV),(14,BH),(15,BH)],AFv⟩,OZ⟩]
abbrev i32:BE:=mr
abbrev o32:BE:=Cf
def s32:SQ:=mk Tryz.func32 i32 o32 GF [s74,s75] [(1,[0])] []
def s45:SQ:=mk Tryz.func45 xZ Cf La [s32,s74,s92,s93] [] [⟨4,⟨[(0,xc),(32,ub),(33,BH),(34,BH)],[]⟩,FN⟩]
def s94:SQ:=mk Tryz.func94 ⟨[(0,sX),(1,.row Y3)],[]⟩ Cf cV [s32,jJ] [] []
abbrev i46:BE:=AEo
abbrev o46:BE:=Cf
def s46:SQ:=mk Tryz.func46 i46 o46 K7 [jJ,s44,s94,s95] [(7,[0,1])] [⟨2,⟨[(2,J2),(3,To),(9,.c (.sl false Y3)),(10,BH),(11,BH)],AMu⟩,LJ⟩]
def Abn:SQ:=mk Tryz.func176 Cf Fo cS [] [] []
abbrev i96:BE:=AFH
abbrev o96:BE:=Cf
def s96:SQ:=mk Tryz.func96 i96 o96 Gh [s32,s44,s72,s74,AI5,Abn] [(5,[0,1,2])] [⟨3,⟨[(2,J2),(3,To),(5,BH),(9,AKR),(10,BH),(11,BH)],AMv⟩,MU⟩]
def s97:SQ:=mk Tryz.func97 ABN Cf Js [jJ] [] []
end
end Go.Proofs.YtebiojjohcpanaaGreat.Wk
