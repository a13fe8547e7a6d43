/- Each function computes what was printed: by the kernel. -/
import Derived.Test.YtebiojjohcpanaaGreatG0
import Derived.Test.YtebiojjohcpanaaGreatProg
import Derived.KernelRfl
set_option linter.unusedVariables false
set_option linter.unusedSimpArgs false
set_option linter.unusedSectionVars false
namespace Go.Proofs.YtebiojjohcpanaaGreat.Wk
open Go Go.Fw Go.M Go.Proofs
noncomputable section
abbrev tI:Ty:= .int .i64
abbrev tU:Ty:= .int .u8
abbrev Y0:Ty:=(.cons (.sl tI) (.cons tI .unit))
abbrev Y1:Ty:=(.cons tI (.cons tI (.cons .bool (.cons .str .unit))))
abbrev Y2:Ty:=(.cons (.sl Y1) (.cons (.sl Y1) (.cons tI .unit)))
abbrev Y3:Ty:=(.cons (.sl tI) (.cons .bool (.cons tI .unit)))
abbrev Y4:Ty:=(.cons (.sl Y3) (.cons tI .unit))
abbrev Y5:Ty:=(.cons .str (.cons (.sl tI) (.cons .bool .unit)))
abbrev Y6:Ty:=(.cons tI (.cons (.sl Y5) .unit))
abbrev Y7:Ty:=(.cons tI (.cons tI (.cons (.sl tI) (.cons (.sl Y1) (.cons .bool (.cons (.sl (.sl tI)) .unit))))))
abbrev Y8:Ty:=(.cons tI (.cons tI (.cons .str .unit)))
abbrev Y9:Ty:=(.cons tI (.cons tI (.cons (.sl Y8) .unit)))
abbrev Y10:Ty:=(.cons tI (.cons .str (.cons .bool .unit)))
abbrev Y11:Ty:=(.cons (.sl tI) (.cons tI (.cons (.sl Y2) (.cons (.sl tI) (.cons (.sl Y3) (.cons tI (.cons (.sl Y6) (.cons (.sl Y7) (.cons (.sl Y9) (.cons (.sl Y10) (.cons .bool .unit)))))))))))
abbrev Y12:Ty:=(.cons tI (.cons tI (.cons tI (.cons tI (.cons .str .unit)))))
abbrev Y13:Ty:=(.cons (.sl tU) (.cons tI (.cons tI .unit)))
abbrev Y14:Ty:=(.cons tI (.cons .bool (.cons tI (.cons tI (.cons .bool (.cons .str .unit))))))
def T:Jg:=[(3,⟨1,8,.int .i64,some tI⟩),
 (4,⟨1,1,.bool,some .bool⟩),
 (5,⟨1,1,.int .u8,some tU⟩),
 (9,⟨1,16,.str,some .str⟩),
 (22,⟨1,24,.sl 5,some (.sl tU)⟩),
 (24,⟨1,24,.sl 3,some (.sl tI)⟩),
 (26,⟨2,32,.st [(0,24),(1,3)],some Y0⟩),
 (27,⟨1,24,.sl 94,some (.sl Y2)⟩),
 (28,⟨1,24,.sl 71,some (.sl Y3)⟩),
 (30,⟨2,32,.st [(0,28),(1,3)],some Y4⟩),
 (31,⟨1,24,.sl 63,some (.sl Y6)⟩),
 (32,⟨1,24,.sl 115,some (.sl Y7)⟩),
 (33,⟨1,24,.sl 49,some (.sl Y9)⟩),
 (34,⟨1,24,.sl 45,some (.sl Y10)⟩),
 (36,⟨11,216,.st [(0,26),(2,27),(3,24),(4,30),(6,31),(7,32),(8,33),(9,34),(10,4)],some Y11⟩),
 (37,⟨1,24,.sl 54,some (.sl Y12)⟩),
 (45,⟨3,32,.st [(0,3),(1,9),(2,4)],some Y10⟩),
 (47,⟨1,24,.sl 79,some (.sl Y8)⟩),
 (49,⟨3,40,.st [(0,3),(1,3),(2,47)],some Y9⟩),
 (54,⟨5,48,.st [(0,3),(1,3),(2,3),(3,3),(4,9)],some Y12⟩),
 (61,⟨1,24,.sl 162,some (.sl Y5)⟩),
 (63,⟨2,32,.st [(0,3),(1,61)],some Y6⟩),
 (71,⟨3,40,.st [(0,24),(1,4),(2,3)],some Y3⟩),
 (74,⟨1,8,.ptr 121,none⟩),
 (79,⟨3,32,.st [(0,3),(1,3),(2,9)],some Y8⟩),
 (87,⟨1,8,.other,none⟩),
 (92,⟨1,24,.sl 96,some (.sl Y1)⟩),
 (94,⟨3,56,.st [(0,92),(1,92),(2,3)],some Y2⟩),
 (96,⟨4,40,.st [(0,3),(1,3),(2,4),(3,9)],some Y1⟩),
 (103,⟨1,24,.sl 9,some (.sl .str)⟩),
 (113,⟨1,24,.sl 24,some (.sl (.sl tI))⟩),
 (115,⟨6,96,.st [(0,3),(1,3),(2,24),(3,92),(4,4),(5,113)],some Y7⟩),
 (121,⟨3,40,.st [(0,22),(1,3),(2,3)],some Y13⟩),
 (129,⟨1,8,.ptr 36,none⟩),
 (155,⟨1,8,.other,none⟩),
 (162,⟨3,48,.st [(0,9),(1,24),(2,4)],some Y5⟩),
 (189,⟨1,24,.sl 191,some (.sl Y14)⟩),
 (191,⟨6,56,.st [(0,3),(1,4),(2,96)],some Y14⟩),
 (199,⟨1,8,.other,none⟩),
 (202,⟨1,8,.int .u64,some (.int .u64)⟩),
 (205,⟨1,24,.sl 4,some (.sl .bool)⟩),
 (206,⟨1,8,.other,none⟩),
 (238,⟨1,8,.ptr 49,none⟩)]
theorem tOk:Ef Tryz.prog T:=pT (by kernel_rfl)
theorem mx:Tryz.prog.follows .mixedOrders=true:=by kernel_rfl
abbrev SQ:=SP Tryz.prog
def mk{f:Nat}{fn:Func}(hf:Tryz.prog.funcs[f]? =some fn)(i o:BX)(g:i.Cu (Option o.V))(l:List SQ)(h:List AFc)(L:List (Lp o))
  (hJ:W_ ⟨T,QA (SP.l l),CO h⟩ ⟨i,o,i.un g⟩ fn (Lr i.Gu.length L) L:=by
   repeat refine W_.cons (fun _=>rfl) (fun _ _ _=>by kernel_rfl) ?_
   exact W_.nil)
  (he:∀ω v,DP ⟨T,QA (SP.l l),CO h⟩ ⟨i,o,i.un g⟩ fn (Lr i.Gu.length L Ae) ω v=i.un g v:=by intro ω v;kernel_rfl)
  (hL:iH fn=Lp.ls L:=by kernel_rfl) (hd:decide (Lp.ls L).Nodup=true:=by kernel_rfl) (hc:iM fn ⟨i,o,i.un g⟩=true:=by kernel_rfl):SQ:=
 mkP tOk mx hf i o g l h L Ae hL hd hc hJ he
abbrev xP0:XP:= .c (.v .bool)
abbrev KA:XP:= .c (.ptr 0 0)
abbrev BJ:XP:= .c (.v tI)
abbrev Zq:XP:= .c (.ptr 1 0)
abbrev qz:XP:= .row Y0
abbrev aN:XP:= .c (.sl false tI)
abbrev xI:XP:= .c (.ref 1)
abbrev nE:XP:= .c (.ref 0)
abbrev xP8:XP:= .c (.ptr 2 0)
abbrev qM:XP:= .c (.sl false Y1)
abbrev AR5:XP:= .agg [.ref 0,.v tI,.ref 1,.ref 2,.ref 3,.v tI,.ref 4,.ref 5,.ref 6,.ref 7,.v .bool]
abbrev bw:XP:= .c (.ptr 10 0)
abbrev fp:XP:= .c (.ptr 8 0)
abbrev eL:XP:= .c (.ptr 9 0)
abbrev mW:XP:= .c (.ptr 18 0)
abbrev yD:XP:= .c (.ptr 4 0)
abbrev jr:XP:= .c (.ptr 19 0)
abbrev tv:XP:= .c (.sl false Y2)
abbrev qW:XP:= .c (.sl false Y14)
abbrev AGO:XP:= .c (.qP 252 [(.cons (.sl tI) .unit)])
abbrev wI:XP:= .c (.mb Y11)
abbrev AJT:XP:= .c (.sl false Y5)
abbrev AF9:XP:= .c (.sl false (.sl tI))
abbrev ADi:XP:= .c (.sl false Y10)
abbrev AHe:XP:= .c (.qP 248 [(.cons tI .unit)])
abbrev ALG:XP:= .c (.qP 276 [(.cons tI .unit)])
abbrev uB:BP:= .mem [.sl true tU,.v tI,.v tI]
abbrev Ft:BP:= .sl 9 tI
abbrev ud:BP:= .mem [.sl false tI,.v tI]
abbrev Z2:BP:= .sl 9 Y2
abbrev TK:BP:= .sl 9 Y3
abbrev Zy:BP:= .sl 9 Y6
abbrev ZO:BP:= .sl 9 Y7
abbrev Zb:BP:= .sl 9 Y9
abbrev WT:BP:= .sl 9 Y10
abbrev AM7:BP:= .mem [.sl false Y3,.v tI]
abbrev w_:BP:= .mem [.sl false tI,.v tI,.sl false Y2,.sl false tI,.sl false Y3,.v tI,.sl false Y6,.sl false Y7,.sl false Y9,.sl false Y10,.v .bool]
abbrev AFI:BP:= .mem [.v tI,.v tI,.v tI,.v tI,.v .str]
abbrev zK:BP:= .mem [.v tI,.v tI,.sl false tI,.sl false Y1,.v .bool,.sl false (.sl tI)]
abbrev AKZ:BP:= .mem [.v tI,.sl false Y5]
abbrev Mn:BP:= .sl 9 Y1
abbrev pw:BP:= .sl 9 (.sl tI)
abbrev AHo:BP:= .mem [.ref 2,.v tI,.ref 3,.ref 4,.ref 5,.v tI,.ref 6,.ref 7,.ref 8,.ref 9,.v .bool]
abbrev AEa:BP:= .mem [.ref 11,.v tI,.ref 12,.ref 13,.ref 14,.v tI,.ref 15,.ref 16,.ref 17,.ref 18,.v .bool]
abbrev Df:BP:= .sl 1 tI
abbrev V3:BP:= .sl 2 Y2
abbrev Mp:BP:= .sl 2 Y3
abbrev TT:BP:= .sl 3 Y6
abbrev SV:BP:= .sl 3 Y7
abbrev PQ:BP:= .sl 2 Y9
abbrev Ls:BP:= .sl 1 Y10
abbrev PK:BP:= .gone
abbrev rE:BP:= .mem [.ref 0,.v tI,.ref 1,.ref 2,.ref 3,.v tI,.ref 4,.ref 5,.ref 6,.ref 7,.v .bool]
abbrev ua:BP:= .mem [.ref 10,.v tI,.ref 11,.ref 12,.ref 13,.v tI,.ref 14,.ref 15,.ref 16,.ref 17,.v .bool]
abbrev AUX:BP:= .mem [.v tI,.v .str,.v .bool]
abbrev ABQ:BP:= .mem [.v tI,.v tI,.v .bool,.v .str]
abbrev AMs:BP:= .mem [.sl false Y1,.sl false Y1,.v tI]
abbrev ALF:BP:= .mem [.ref 2,.ref 3,.v tI]
abbrev ASB:BP:= .mem [.ref 5,.ref 6,.v tI]
abbrev ZD:BP:= .sl 1 Y2
abbrev mN:BP:= .sl 1 Y6
abbrev yH:BP:= .mem [.sl true Y1,.sl true Y1,.v tI]
abbrev AWB:BP:= .mem [.v tI,.v tI,.ref 1,.ref 2,.v .bool,.ref 3]
abbrev AT4:BP:= .mem [.v tI,.v tI,.ref 5,.ref 6,.v .bool,.ref 7]
abbrev AVx:BP:= .mem [.v tI,.v tI,.ref 3,.ref 4,.v .bool,.ref 5]
abbrev AVa:BP:= .mem [.v tI,.v tI,.ref 7,.ref 8,.v .bool,.ref 9]
abbrev ATp:BP:= .mem [.sl true tI,.v tI,.sl true Y2,.sl true tI,.sl true Y3,.v tI,.sl true Y6,.sl true Y7,.sl true Y9,.sl true Y10,.v .bool]
abbrev ABa:BP:= .mem [.ref 1,.v tI,.ref 2,.ref 3,.ref 4,.v tI,.ref 5,.ref 6,.ref 7,.ref 8,.v .bool]
abbrev AOb:BP:= .mem [.ref 1,.v tI,.ref 2,.ref 9,.ref 4,.v tI,.ref 5,.ref 6,.ref 7,.ref 8,.v .bool]
abbrev l9:List (Nat×XP):=[(0,BJ)]
abbrev AI7:List (Nat×XP):=[(1,KA),(3,BJ)]
abbrev ABq:List (Nat×XP):=[(0,nE)]
abbrev AK8:List (Nat×XP):=[(0,xI)]
abbrev AU8:List (Nat×XP):=[(0,.agg [.v tI,.v tI,.v tI,.v tI,.v .str])]
abbrev AVQ:List (Nat×XP):=[(2,KA),(3,Zq),(5,BJ),(6,BJ)]
abbrev AU7:List (Nat×XP):=[(1,KA),(2,Zq),(3,.c (.ptr 3 0)),(4,BJ)]
abbrev AMo:List (Nat×XP):=[(0,AR5)]
abbrev AUy:List (Nat×XP):=[(0,.Mh [.inr [.ref 0,.ref 1,.v tI],.inl (.v .bool)])]
abbrev ANc:List (Nat×XP):=[(0,.Mh [.inr [.ref 0,.v tI,.ref 1,.ref 2,.ref 3,.v tI,.ref 4,.ref 5,.ref 6,.ref 7,.v .bool],.inl (.v tI)])]
abbrev AWF:List (Nat×XP):=[(0,.Mh [.inr [.v tI,.ref 0],.inl (.v .bool)])]
abbrev ANs:List (Nat×XP):=[(0,.Mh [.inr [.v tI,.v tI,.ref 0,.ref 1,.v .bool,.ref 2],.inl (.v .bool)])]
abbrev AVj:List (Nat×XP):=[(0,.Mh [.inr [.ref 0,.v tI,.ref 1,.ref 8,.ref 3,.v tI,.ref 4,.ref 5,.ref 6,.ref 7,.v .bool],.inl (.v tI)])]
abbrev ATP:List (Nat×XP):=[(0,.Mh [.inr [.ref 1,.ref 2,.v tI],.inl (.v .bool)])]
abbrev ATd:List (Nat×XP):=[(0,.Mh [.inr [.v tI,.v tI,.ref 0],.inl (.v tI)])]
abbrev AVy:List (Nat×XP):=[(0,KA),(1,BJ),(2,BJ)]
abbrev qq:List BP:=[uB]
abbrev ATR:List BP:=[uB,Ft]
abbrev AOp:List BP:=[ud]
abbrev AWa:List BP:=[Ft,Z2,Ft,TK,Zy,ZO,Zb,WT]
abbrev qg:List BP:=[Ft]
abbrev AVv:List BP:=[uB,ud,Ft]
abbrev AK3:List BP:=[w_]
abbrev AUD:List BP:=[ud,AM7]
abbrev ATG:List BP:=[ud,AKZ]
abbrev AN6:List BP:=[ud,zK]
abbrev AUv:List BP:=[Ft,Mn,pw]
abbrev ARh:List BP:=[zK,.mem [.v tI,.v tI,.ref 2,.ref 3,.v .bool,.ref 4],Ft,Mn,pw,.mem [.v tI,.v tI,.ref 6,.ref 7,.v .bool,.ref 8],Ft,Mn,pw]
abbrev mE:List BP:=[w_,AHo,Ft,Z2,Ft,TK,Zy,ZO,Zb,WT,AEa,Ft,Z2,Ft,TK,Zy,ZO,Zb,WT]
abbrev AOf:List BP:=[Df,V3,Df,Mp,TT,SV,PQ,Ls]
abbrev AVS:List BP:=[Df,ZD,Df,Mp,mN,.sl 1 Y7,PQ,Ls]
abbrev zY:List BP:=[Df,ZD,Df,Mp,mN,SV,PQ,Ls,rE,ua,Ft,Z2,Ft,TK,Zy,ZO,Zb,WT,yH,.mem [.v tI,.sl true Y5]]
abbrev AL1:List BP:=[.mem [.v tI,.ref 1],.sl 9 Y5,.mem [.v tI,.ref 3],.sl 9 Y5]
abbrev ALx:List BP:=[AWB,Ft,Mn,pw,AT4,Ft,Mn,pw]
abbrev AMZ:List BP:=[Df,V3,Df,Mp,TT,SV,PQ,Ls,.mem [.ref 0,.v tI,.ref 1,.ref 9,.ref 3,.v tI,.ref 4,.ref 5,.ref 6,.ref 7,.v .bool],Ft,AFI,.mem [.ref 12,.v tI,.ref 13,.ref 14,.ref 15,.v tI,.ref 16,.ref 17,.ref 18,.ref 19,.v .bool],Ft,Z2,Ft,TK,Zy,ZO,Zb,WT]
abbrev ALy:List BP:=[ZD,ALF,Mn,Mn,ASB,Mn,Mn,ZD]
abbrev AMO:List BP:=[ud,Ft]
abbrev ew:List BP:=[ABa,Df,V3,Df,Mp,TT,SV,PQ,Ls]
abbrev rj:List BP:=[.sl 1 Y1]
abbrev AMW:List BP:=[AOb,Df,V3,Df,Mp,TT,SV,PQ,Ls,Df]
abbrev AMT:List BP:=[.mem [.v tI,.v tI,.ref 1],.sl 1 Y8]
abbrev AMH:List BP:=[ABa,Df,V3,Df,Mp,TT,SV,.sl 1 Y9,Ls]
abbrev zh:List BP:=[w_,WT]
abbrev AAK:List BP:=[w_,.sl 9 Y12,.mem [.ref 3,.v tI,.ref 4,.ref 5,.ref 6,.v tI,.ref 7,.ref 8,.ref 9,.ref 10,.v .bool],Df,ZD,Df,Mp,TT,.sl 2 Y7,.sl 1 Y9,Ls]
abbrev Cr:BX:=⟨[(0,xP0)],[]⟩
abbrev ADQ:BX:=⟨[(0,.c (.sl true tU))],[]⟩
abbrev AEW:BX:=⟨[(0,KA)],qq⟩
abbrev Fg:BX:=⟨l9,[]⟩
abbrev AFX:BX:=⟨l9,qq⟩
abbrev ADB:BX:=⟨[(0,KA),(1,BJ)],qq⟩
abbrev ALi:BX:=⟨[(0,BJ),(1,BJ),(2,BJ)],[]⟩
abbrev AAY:BX:=⟨[(0,qz)],[]⟩
abbrev lD:BX:=⟨[(0,qz),(1,aN)],[]⟩
abbrev AAX:BX:=⟨[(0,.agg [.v tI,.v tI,.ref 0])],[.sl 9 Y8]⟩
abbrev ln:BX:=⟨[(0,BJ),(1,BJ)],[]⟩
abbrev lB:BX:=⟨[(0,aN),(1,BJ)],[]⟩
abbrev dH:BX:=⟨ABq,qg⟩
abbrev ALd:BX:=⟨[(0,KA),(1,qz)],qq⟩
abbrev AMF:BX:=⟨AK8,ATR⟩
abbrev zU:BX:=⟨[(0,.row Y4)],[]⟩
abbrev ALm:BX:=⟨[(0,.row Y4),(1,BJ)],[]⟩
abbrev AEl:BX:=⟨[(0,KA),(1,.row Y11)],qq⟩
abbrev AET:BX:=⟨AU8,qq⟩
abbrev AEr:BX:=⟨[(0,qM),(1,BJ)],[]⟩
abbrev AAC:BX:=⟨[(0,qM)],[]⟩
abbrev lp:BX:=⟨[(0,.row Y2)],[]⟩
abbrev ij:BX:=⟨[(0,.row Y11)],[]⟩
abbrev ALs:BX:=⟨AI7,AK3⟩
abbrev ADX:BX:=⟨[(0,qz),(1,.row Y4)],[]⟩
abbrev AES:BX:=⟨[(0,qz),(1,.row Y6)],[]⟩
abbrev xF:BX:=⟨[(0,.row Y7)],[]⟩
abbrev vh:BX:=⟨[(0,qz),(1,.row Y7)],[]⟩
abbrev ALa:BX:=⟨[(2,KA),(3,Zq),(5,BJ)],AN6⟩
abbrev AAU:BX:=⟨[(0,.row Y9)],[]⟩
abbrev AFD:BX:=⟨[(0,.row Y12)],[]⟩
abbrev AEy:BX:=⟨[(0,.agg [.ref 0,.v tI])],[TK]⟩
abbrev AEw:BX:=⟨[(0,.agg [.ref 0,.ref 1,.v tI])],[Mn,Mn]⟩
abbrev zQ:BX:=⟨[(0,.row Y6)],[]⟩
abbrev AFO:BX:=⟨[(0,.agg [.v tI,.ref 0])],[.sl 9 Y5]⟩
abbrev wb:BX:=⟨[(0,.agg [.v tI,.v tI,.ref 0,.ref 1,.v .bool,.ref 2])],AUv⟩
abbrev ALX:BX:=⟨AMo,AWa⟩
abbrev AMV:BX:=⟨[(0,qz),(1,.row Y4),(2,aN)],[]⟩
abbrev ALc:BX:=⟨[(0,.Mh [.inr [.ref 0,.v tI],.inl (.v tI),.inl (.v .bool)])],[TK]⟩
abbrev bn:BX:=⟨[(0,AR5),(1,.row Y12)],AOf⟩
abbrev wq:BX:=⟨[(0,.row Y11),(1,BJ)],[]⟩
abbrev AMB:BX:=⟨[(0,qz),(1,.row Y6),(2,.c (.v .str))],[]⟩
abbrev AMA:BX:=⟨[(0,.Mh [.inr [.v tI,.ref 0],.inl (.v tI),.inl (.v .bool)])],[.sl 9 Y5]⟩
abbrev AE5:BX:=⟨[(0,.row Y2),(1,.row Y1)],[]⟩
abbrev sY:BX:=⟨AUy,[Mn,Mn]⟩
abbrev rN:BX:=⟨ANc,AOf⟩
abbrev AMU:BX:=⟨[(0,.row Y1),(1,.row Y1)],[]⟩
abbrev AME:BX:=⟨[(0,.agg [.v tI,.v tI,.v .bool,.v .str])],[]⟩
abbrev vG:BX:=⟨ABq,[Mn]⟩
abbrev gj:BX:=⟨[(0,.row Y2),(1,BJ)],[]⟩
abbrev AMQ:BX:=⟨[(1,BJ),(2,KA),(4,Zq),(6,yD),(7,BJ)],[AMs,ALF,Mn,Mn,ASB,Mn,Mn]⟩
abbrev wO:BX:=⟨[(0,.Mh [.inr [.v tI,.v tI,.v .bool,.v .str],.inl (.v .bool)])],[]⟩
abbrev ALV:BX:=⟨[(0,qz),(1,.row Y6),(2,BJ),(3,BJ)],[]⟩
abbrev AMY:BX:=⟨AWF,[.sl 9 Y5]⟩
abbrev pW:BX:=⟨[(0,.Mh [.inl (.v tI),.inl (.v .bool)])],[]⟩
abbrev ALj:BX:=⟨[(0,.row Y7),(1,BJ)],[]⟩
abbrev AL0:BX:=⟨[(0,qz),(1,.row Y7),(2,BJ),(3,BJ)],[]⟩
abbrev vd:BX:=⟨ANs,AUv⟩
abbrev ALw:BX:=⟨ANc,AVS⟩
abbrev ADO:BX:=⟨[(0,aN),(1,aN)],[]⟩
abbrev AMR:BX:=⟨[(0,qz),(1,.row Y6),(2,BJ)],[]⟩
abbrev AL4:BX:=⟨[(0,qz),(1,.row Y7),(2,BJ)],[]⟩
abbrev ALY:BX:=⟨[(0,qz),(1,nE),(2,aN),(3,BJ),(4,BJ)],[V3]⟩
abbrev ADD:BX:=⟨AMo,AOf⟩
abbrev AMX:BX:=⟨[(0,qz),(1,.row Y7),(2,BJ),(3,qM)],[]⟩
abbrev AFZ:BX:=⟨[(0,qz),(1,aN),(2,aN)],[]⟩
abbrev ALZ:BX:=⟨[(0,qz),(1,.row Y7),(2,aN)],[]⟩
abbrev AL8:BX:=⟨[(0,qz),(1,.row Y4),(2,BJ),(3,BJ)],[]⟩
abbrev AAe:BX:=⟨[(0,.Mh [.inr [.ref 0,.v tI],.inl (.v .bool)])],[TK]⟩
abbrev ALl:BX:=⟨[(0,qz),(1,.row Y4),(2,BJ)],[]⟩
abbrev AML:BX:=⟨[(0,qz),(1,.row Y4),(2,BJ),(3,.row Y9),(4,qW)],[]⟩
abbrev AMP:BX:=⟨[(0,.row Y11),(1,.row Y12)],[]⟩
abbrev AL6:BX:=⟨AK8,[PK,Df]⟩
abbrev AEn:BX:=⟨ABq,[Df]⟩
abbrev zZ:BX:=⟨[(0,wI),(1,BJ)],[]⟩
abbrev uq:BX:=⟨[(0,wI)],[]⟩
abbrev sJ:BX:=⟨[(0,KA),(1,BJ)],ew⟩
abbrev od:BX:=⟨l9,ew⟩
abbrev ALk:BX:=⟨[(0,KA),(1,.row Y12)],ew⟩
abbrev AMK:BX:=⟨AK8,[PK,.sl 1 Y1]⟩
abbrev zW:BX:=⟨AUy,[.sl 1 Y1,Mn]⟩
abbrev ALo:BX:=⟨AWF,[.sl 2 Y5]⟩
abbrev zy:BX:=⟨AVy,ew⟩
abbrev ALh:BX:=⟨[(0,.Mh [])],ew⟩
abbrev AEG:BX:=⟨[(0,KA),(1,BJ),(2,BJ),(6,BJ)],ew⟩
abbrev AMG:BX:=⟨ANs,[Ft,Mn,.sl 2 (.sl tI)]⟩
abbrev AC7:BX:=⟨[(0,KA)],ew⟩
abbrev AMN:BX:=⟨[(0,.Mh [])],[.mem [.v tI,.v tI,.ref 2],PK,.sl 1 Y8]⟩
abbrev ALv:BX:=⟨ABq,[WT]⟩
abbrev i9:BX:=⟨[(0,.c (.sl false tU))],[]⟩
abbrev o9:BX:=Cr
def s9:SQ:=mk Tryz.func9 i9 o9 US [] [] []
def s38:SQ:=mk Tryz.func38 ADQ AEW au [] [] [⟨3,⟨[(0,.c (.sl true tU)),(3,BJ),(4,BJ)],[]⟩,PT⟩]
def s39:SQ:=mk Tryz.func39 ⟨[(0,.c (.sl false tU)),(1,BJ),(2,BJ)],[]⟩ Fg YB [] [] []
def Aac:SQ:=mk Tryz.func155 AEW AFX Lv [] [(2,[0]),(3,[0]),(4,[0])] []
def s63:SQ:=mk Tryz.func63 ADB AFX Am [Aac] [] []
def s62:SQ:=mk Tryz.func62 ADB ⟨[(0,xP0)],qq⟩ B8 [s63] [] []
def s81:SQ:=mk Tryz.func81 AEW ⟨[(0,.agg [.ref 1,.v tI])],ATR⟩ Om [s62,s63] [(6,[1,2])] [⟨4,⟨[(0,KA),(2,Zq),(3,.c (.ptr 3 0)),(4,BJ),(5,BJ)],[uB,.mem [.ref 2,.v tI],Ft,.mem [.ref 4,.v tI],Ft]⟩,IL⟩] (hJ:= .cons (fun _=>rfl) (fun n v ω=>by rcases ω with _|⟨_|_,_|⟨_|_,_⟩⟩<;>kernel_rfl) (.nil))
def Xd:SQ:=mk Tryz.func129 ALi Cr CN [] [] []
abbrev i167:BX:=AAY
abbrev AZj:BX:=Cr
def vV:SQ:=mk Tryz.func167 i167 AZj GP [Xd] [] [⟨4,⟨AI7,AOp⟩,LC⟩]
def AVB:SQ:=mk Tryz.func163 ⟨[(0,aN),(1,BJ),(2,BJ)],[]⟩ Cr Ww [Xd] [] [⟨2,⟨[(0,aN),(1,BJ),(2,BJ),(7,BJ)],[]⟩,M0⟩]
def y9:SQ:=mk Tryz.func165 lD Cr Gg [AVB,vV] [] []
def AUU:SQ:=mk Tryz.func166 lD Fg UW [] [(6,[0,1])] [⟨4,⟨[(1,aN),(2,KA),(5,xI),(6,BJ),(7,BJ)],[ud,.sl 9 .bool]⟩,OI⟩]
abbrev i82:BX:=lD
abbrev o82:BX:=Cr
def s82:SQ:=mk Tryz.func82 i82 o82 FK [y9,AUU] [(1,[0])] []
abbrev i168:BX:=⟨[],[]⟩
abbrev AZA:BX:=AAX
def AUB:SQ:=mk Tryz.func168 i168 AZA Wn [] [] []
abbrev i83:BX:=AAY
abbrev o83:BX:=⟨[(0,.Mh [.inr [.ref 0,.v tI,.ref 1,.ref 2,.ref 3,.v tI,.ref 4,.ref 5,.ref 6,.ref 7,.v .bool],.inl (.v .bool)])],AWa⟩
def c83:QP:=⟨i83,o83,(i83.un HZ)⟩
def C83:Z9:=⟨T,QA (SP.l [vV,AUB]),CO [(3,[0,1]),(4,[0,4])]⟩
def L83:List (Lp o83):=[]
def BB(ω:List Bool):Prop:= ∀(n:Nat) (v:i83.V),DP C83 c83 Tryz.f83 (Lr 0 L83 n) ω v=i83.un (HZ) v
theorem AU9:BB []:=by delta BB;intros;kernel_rfl
theorem AVC:BB (false::[]):=by delta BB;intros;kernel_rfl
theorem AU5:BB (false::false::[]):=by delta BB;intros;kernel_rfl
theorem AVo:BB (false::false::false::[]):=by delta BB;intros;kernel_rfl
theorem ATQ:BB (false::false::false::false::[]):=by delta BB;intros;kernel_rfl
theorem AUu:BB (false::false::false::false::false::[]):=by delta BB;intros;kernel_rfl
theorem AWL:BB (false::false::false::false::false::false::[]):=by delta BB;intros;kernel_rfl
theorem AWH:BB (false::false::false::false::false::false::false::[]):=by delta BB;intros;kernel_rfl
theorem AWf(ω:List Bool):BB (false::false::false::false::false::false::false::false::ω):=by delta BB;intros;kernel_rfl
theorem AMj(ω:List Bool):BB (false::false::false::false::false::false::false::true::ω):=by delta BB;intros;kernel_rfl
theorem APq:BB (false::false::false::false::false::false::true::[]):=by delta BB;intros;kernel_rfl
theorem ASO(ω:List Bool):BB (false::false::false::false::false::false::true::false::ω):=by delta BB;intros;kernel_rfl
theorem AST(ω:List Bool):BB (false::false::false::false::false::false::true::true::ω):=by delta BB;intros;kernel_rfl
theorem APS:BB (false::false::false::false::false::true::[]):=by delta BB;intros;kernel_rfl
theorem ANf(ω:List Bool):BB (false::false::false::false::false::true::false::ω):=by delta BB;intros;kernel_rfl
theorem ANQ(ω:List Bool):BB (false::false::false::false::false::true::true::ω):=by delta BB;intros;kernel_rfl
theorem ASI:BB (false::false::false::false::true::[]):=by delta BB;intros;kernel_rfl
theorem ART:BB (false::false::false::false::true::false::[]):=by delta BB;intros;kernel_rfl
theorem AM1(ω:List Bool):BB (false::false::false::false::true::false::false::ω):=by delta BB;intros;kernel_rfl
theorem APj(ω:List Bool):BB (false::false::false::false::true::false::true::ω):=by delta BB;intros;kernel_rfl
theorem ASN(ω:List Bool):BB (false::false::false::false::true::true::ω):=by delta BB;intros;kernel_rfl
theorem APA:BB (false::false::false::true::[]):=by delta BB;intros;kernel_rfl
theorem AQR:BB (false::false::false::true::false::[]):=by delta BB;intros;kernel_rfl
theorem AOo(ω:List Bool):BB (false::false::false::true::false::false::ω):=by delta BB;intros;kernel_rfl
theorem AON(ω:List Bool):BB (false::false::false::true::false::true::ω):=by delta BB;intros;kernel_rfl
theorem APO(ω:List Bool):BB (false::false::false::true::true::ω):=by delta BB;intros;kernel_rfl
theorem AOX:BB (false::false::true::[]):=by delta BB;intros;kernel_rfl
theorem ARq:BB (false::false::true::false::[]):=by delta BB;intros;kernel_rfl
theorem AR3:BB (false::false::true::false::false::[]):=by delta BB;intros;kernel_rfl
theorem APe(ω:List Bool):BB (false::false::true::false::false::false::ω):=by delta BB;intros;kernel_rfl
theorem AN4(ω:List Bool):BB (false::false::true::false::false::true::ω):=by delta BB;intros;kernel_rfl
theorem AO5(ω:List Bool):BB (false::false::true::false::true::ω):=by delta BB;intros;kernel_rfl
theorem AP7(ω:List Bool):BB (false::false::true::true::ω):=by delta BB;intros;kernel_rfl
theorem ARA:BB (false::true::[]):=by delta BB;intros;kernel_rfl
theorem ANV:BB (false::true::false::[]):=by delta BB;intros;kernel_rfl
theorem APb:BB (false::true::false::false::[]):=by delta BB;intros;kernel_rfl
theorem AO0(ω:List Bool):BB (false::true::false::false::false::ω):=by delta BB;intros;kernel_rfl
theorem AN0(ω:List Bool):BB (false::true::false::false::true::ω):=by delta BB;intros;kernel_rfl
theorem AQM(ω:List Bool):BB (false::true::false::true::ω):=by delta BB;intros;kernel_rfl
theorem APB(ω:List Bool):BB (false::true::true::ω):=by delta BB;intros;kernel_rfl
theorem ANS:BB (true::[]):=by delta BB;intros;kernel_rfl
theorem AOn:BB (true::false::[]):=by delta BB;intros;kernel_rfl
theorem ANH:BB (true::false::false::[]):=by delta BB;intros;kernel_rfl
theorem APE:BB (true::false::false::false::[]):=by delta BB;intros;kernel_rfl
theorem ANh:BB (true::false::false::false::false::[]):=by delta BB;intros;kernel_rfl
theorem ARD:BB (true::false::false::false::false::false::[]):=by delta BB;intros;kernel_rfl
theorem AOm:BB (true::false::false::false::false::false::false::[]):=by delta BB;intros;kernel_rfl
theorem AQb:BB (true::false::false::false::false::false::false::false::[]):=by delta BB;intros;kernel_rfl
theorem AOg(ω:List Bool):BB (true::false::false::false::false::false::false::false::false::ω):=by delta BB;intros;kernel_rfl
theorem ARa(ω:List Bool):BB (true::false::false::false::false::false::false::false::true::ω):=by delta BB;intros;kernel_rfl
theorem ARJ:BB (true::false::false::false::false::false::false::true::[]):=by delta BB;intros;kernel_rfl
theorem ARu(ω:List Bool):BB (true::false::false::false::false::false::false::true::false::ω):=by delta BB;intros;kernel_rfl
theorem AQs(ω:List Bool):BB (true::false::false::false::false::false::false::true::true::ω):=by delta BB;intros;kernel_rfl
theorem ARG:BB (true::false::false::false::false::false::true::[]):=by delta BB;intros;kernel_rfl
theorem APu(ω:List Bool):BB (true::false::false::false::false::false::true::false::ω):=by delta BB;intros;kernel_rfl
theorem ARV(ω:List Bool):BB (true::false::false::false::false::false::true::true::ω):=by delta BB;intros;kernel_rfl
theorem AR2:BB (true::false::false::false::false::true::[]):=by delta BB;intros;kernel_rfl
theorem AM9:BB (true::false::false::false::false::true::false::[]):=by delta BB;intros;kernel_rfl
theorem APi(ω:List Bool):BB (true::false::false::false::false::true::false::false::ω):=by delta BB;intros;kernel_rfl
theorem ANq(ω:List Bool):BB (true::false::false::false::false::true::false::true::ω):=by delta BB;intros;kernel_rfl
theorem ARb(ω:List Bool):BB (true::false::false::false::false::true::true::ω):=by delta BB;intros;kernel_rfl
theorem AOl:BB (true::false::false::false::true::[]):=by delta BB;intros;kernel_rfl
theorem ARH:BB (true::false::false::false::true::false::[]):=by delta BB;intros;kernel_rfl
theorem ASW(ω:List Bool):BB (true::false::false::false::true::false::false::ω):=by delta BB;intros;kernel_rfl
theorem AMy(ω:List Bool):BB (true::false::false::false::true::false::true::ω):=by delta BB;intros;kernel_rfl
theorem APx(ω:List Bool):BB (true::false::false::false::true::true::ω):=by delta BB;intros;kernel_rfl
theorem ARM:BB (true::false::false::true::[]):=by delta BB;intros;kernel_rfl
theorem AOM:BB (true::false::false::true::false::[]):=by delta BB;intros;kernel_rfl
theorem AQn:BB (true::false::false::true::false::false::[]):=by delta BB;intros;kernel_rfl
theorem ARj(ω:List Bool):BB (true::false::false::true::false::false::false::ω):=by delta BB;intros;kernel_rfl
theorem ARX(ω:List Bool):BB (true::false::false::true::false::false::true::ω):=by delta BB;intros;kernel_rfl
theorem AOK(ω:List Bool):BB (true::false::false::true::false::true::ω):=by delta BB;intros;kernel_rfl
theorem ASV(ω:List Bool):BB (true::false::false::true::true::ω):=by delta BB;intros;kernel_rfl
theorem AP5:BB (true::false::true::[]):=by delta BB;intros;kernel_rfl
theorem ANU:BB (true::false::true::false::[]):=by delta BB;intros;kernel_rfl
theorem AMw:BB (true::false::true::false::false::[]):=by delta BB;intros;kernel_rfl
theorem AOh(ω:List Bool):BB (true::false::true::false::false::false::ω):=by delta BB;intros;kernel_rfl
theorem ANF(ω:List Bool):BB (true::false::true::false::false::true::ω):=by delta BB;intros;kernel_rfl
theorem AN3(ω:List Bool):BB (true::false::true::false::true::ω):=by delta BB;intros;kernel_rfl
theorem AOT(ω:List Bool):BB (true::false::true::true::ω):=by delta BB;intros;kernel_rfl
theorem AOZ:BB (true::true::[]):=by delta BB;intros;kernel_rfl
theorem AMq:BB (true::true::false::[]):=by delta BB;intros;kernel_rfl
theorem AQ_:BB (true::true::false::false::[]):=by delta BB;intros;kernel_rfl
theorem AQH(ω:List Bool):BB (true::true::false::false::false::ω):=by delta BB;intros;kernel_rfl
theorem ANg(ω:List Bool):BB (true::true::false::false::true::ω):=by delta BB;intros;kernel_rfl
theorem AOE(ω:List Bool):BB (true::true::false::true::ω):=by delta BB;intros;kernel_rfl
theorem ANp(ω:List Bool):BB (true::true::true::ω):=by delta BB;intros;kernel_rfl
theorem e83(n:Nat)(ω:List Bool)(v:i83.V):DP C83 c83 Tryz.f83 (Lr 0 L83 n) ω v=i83.un (HZ) v:=(AF AU9 (AF AVC (AF AU5 (AF AVo (AF ATQ (AF AUu (AF AWL (AF AWH AWf AMj) (AF APq ASO AST)) (AF APS ANf ANQ)) (AF ASI (AF ART AM1 APj) ASN)) (AF APA (AF AQR AOo AON) APO)) (AF AOX (AF ARq (AF AR3 APe AN4) AO5) AP7)) (AF ARA (AF ANV (AF APb AO0 AN0) AQM) APB)) (AF ANS (AF AOn (AF ANH (AF APE (AF ANh (AF ARD (AF AOm (AF AQb AOg ARa) (AF ARJ ARu AQs)) (AF ARG APu ARV)) (AF AR2 (AF AM9 APi ANq) ARb)) (AF AOl (AF ARH ASW AMy) APx)) (AF ARM (AF AOM (AF AQn ARj ARX) AOK) ASV)) (AF AP5 (AF ANU (AF AMw AOh ANF) AN3) AOT)) (AF AOZ (AF AMq (AF AQ_ AQH ANg) AOE) ANp))) ω n v
def s83:SQ:=mk Tryz.func83 i83 o83 HZ [vV,AUB] [(3,[0,1]),(4,[0,4])] L83 (hJ:= .nil) (he:=e83 Ae)
def AFC:SQ:=mk Tryz.func225 ln Fg MB [] [] []
abbrev ga:BX:=lB
abbrev u_:BX:=Cr
def mK:SQ:=mk Tryz.func180 ga u_ DI [] [] [⟨2,⟨[(0,aN),(1,BJ),(5,BJ)],[]⟩,PZ⟩]
def AB0:SQ:=mk Tryz.func164 lB dH MU [mK] [] [⟨4,⟨[(0,aN),(1,BJ),(5,nE),(6,xP0),(7,BJ)],qg⟩,Kb⟩]
def Aaf:SQ:=mk Tryz.func241 ⟨[(0,KA),(1,aN)],qq⟩ AFX OP [s63] [] []
def AXh:SQ:=mk Tryz.func147 ALd AMF O2 [s62,s63,AB0,AFC,Aaf] [] [⟨4,⟨[(0,KA),(3,Zq),(5,.c (.ref 2)),(6,BJ),(7,BJ)],AVv⟩,IK⟩]
def s77:SQ:=mk Tryz.func77 ALd AMF LR [s82,AXh,AB0] [] [⟨3,⟨[(3,Zq),(5,.c (.ref 2)),(6,BJ)],AVv⟩,KO⟩]
def s76:SQ:=mk Tryz.func76 ⟨[(0,aN)],[]⟩ Fg LG [AVB] [] [⟨5,⟨[(0,aN),(3,BJ),(4,BJ)],[]⟩,KH⟩]
def AHK:SQ:=mk Tryz.func169 zU Fg JZ [] [] [⟨2,⟨AI7,[AM7]⟩,H5⟩]
abbrev yz:BX:=ALm
abbrev o69:BX:=dH
def s69:SQ:=mk Tryz.func69 yz o69 Cd [Xd] [] []
def Aai:SQ:=mk Tryz.func170 AEl AET LB [s62,s63,s69,s82,AFC] [(18,[1,2,3])] [⟨16,⟨[(0,KA),(3,Zq),(4,xP8),(5,.c (.ptr 3 0)),(7,BJ),(8,BJ),(9,BJ)],[uB,w_,AFI,zK]⟩,Fz⟩]
def s64:SQ:=mk Tryz.func64 ⟨[(0,KA),(1,.c (.sl false .str))],qq⟩ ⟨[(0,.c (.v .str))],qq⟩ Is [s63] [] []
def AZ1:SQ:=mk Tryz.func250 ln Fg TJ [] [] []
def AZU:SQ:=mk Tryz.func171 AEl AET Gc [s62,s63,s64,s69,AZ1] [] []
def s84:SQ:=mk Tryz.func84 AEl AET Ol [s62,s63,s76,s77,AHK,Aai,AZU] [(16,[1]),(27,[1,2])] []
def y7:SQ:=mk Tryz.func185 Fg Cr HT [Xd] [] []
abbrev gR:BX:=Fg
abbrev vC:BX:=Fg
def oO:SQ:=mk Tryz.func186 gR vC C0 [y7] [] []
def AGw:SQ:=mk Tryz.func255 ⟨[(0,.row Y1)],[]⟩ Cr L4 [Xd,y7,oO] [(1,[0])] []
def AZB:SQ:=mk Tryz.func253 AEr Cr Ug [AGw] [] [⟨4,⟨[(0,qM),(5,BJ)],[]⟩,LX⟩]
def AVt:SQ:=mk Tryz.func254 AAC Cr W9 [] [] [⟨2,⟨[(0,qM),(3,BJ)],[]⟩,GS⟩]
def zH:SQ:=mk Tryz.func179 lp Cr Gn [Xd,AZB,AVt] [] []
def AXi:SQ:=mk Tryz.func181 lp Cr al [] [] []
def AaE:SQ:=mk Tryz.func106 ij Cr Tf [s82,y9,vV,zH,mK,AXi] [] [⟨4,ALs,Iv⟩]
abbrev i182:BX:=ADX
abbrev AVg:BX:=Cr
def ACR:SQ:=mk Tryz.func182 i182 AVg MA [s82,Xd,vV,y7,oO] [] [⟨5,⟨AVQ,AUD⟩,Kh⟩]
abbrev i183:BX:=AES
abbrev AVV:BX:=Cr
def AE2:SQ:=mk Tryz.func183 i183 AVV HW [s82,Xd,y9,vV] [(8,[0,1,2])] [⟨5,⟨AVQ,ATG⟩,LV⟩]
abbrev gE:BX:=Fg
abbrev vL:BX:=Fg
def AIH:SQ:=mk Tryz.func280 gE vL HG [y7] [] []
def AUJ:SQ:=mk Tryz.func256 xF Fg Qr [AIH] [] []
def AB7:SQ:=mk Tryz.func184 vh Cr Ip [Xd,y9,vV,oO,AVt,AGw,AUJ] [(6,[0,1]),(11,[0,1]),(15,[0,1])] [⟨4,ALa,JT⟩,⟨9,⟨[(2,KA),(3,Zq),(6,BJ)],AN6⟩,Hf⟩]
def AaP:SQ:=mk Tryz.func107 ij Cr Rp [AHK,ACR,AE2,AB7] [(7,[0]),(13,[0,1])] [⟨5,⟨[(1,KA),(3,BJ),(4,BJ)],AK3⟩,Gk⟩,⟨10,⟨[(1,KA),(3,BJ),(5,BJ)],AK3⟩,Ep⟩]
def ATF:SQ:=mk Tryz.func108 AAU Cr Mw [Xd] [] []
def AY3:SQ:=mk Tryz.func109 ij Cr Vl [y7,oO] [(7,[0,1])] [⟨4,ALs,J1⟩]
def s52:SQ:=mk Tryz.func52 ij Cr Rm [AaE,AaP,ATF,AY3] [] []
def AZP:SQ:=mk Tryz.func130 AFD ⟨AU8,[]⟩ Ye [] [] []
def s58:SQ:=mk Tryz.func58 AFD Cr YN [Xd,AZP] [(1,[0])] []
abbrev fg:BX:=zU
abbrev wG:BX:=AEy
def ABd:SQ:=mk Tryz.func101 fg wG F6 [] [] [⟨3,⟨AU7,[AM7,.mem [.ref 2,.v tI],TK,.mem [.ref 4,.v tI],TK]⟩,Nu⟩]
abbrev kh:BX:=lp
abbrev yc:BX:=AEw
def ACO:SQ:=mk Tryz.func102 kh yc El [] [(1,[0])] [] (he:=fun ω v=>by rcases ω with _|⟨_|_,_|⟨_|_,_⟩⟩<;>kernel_rfl)
abbrev fF:BX:=zQ
abbrev wy:BX:=AFO
def AA0:SQ:=mk Tryz.func103 fF wy FQ [] [] [⟨3,⟨AU7,[AKZ,.mem [.v tI,.ref 2],.sl 9 Y5,.mem [.v tI,.ref 4],.sl 9 Y5]⟩,OC⟩]
abbrev aP:BX:=xF
abbrev tw:BX:=wb
def ASJ:QP:=⟨aP,tw,(aP.un EL)⟩
def ASd:Z9:=⟨T,QA (SP.l ([]:List SQ)),CO [(1,[0,1]),(5,[0,1,2,3,4,6,7])]⟩
def AHE:List (Lp tw):=[⟨3,⟨[(1,KA),(2,Zq),(3,.c (.ptr 5 0)),(4,BJ)],ARh⟩,Hs⟩]
abbrev yn:BX:=⟨[(1,KA),(2,Zq),(3,.c (.ptr 5 0)),(4,BJ)],ARh⟩
theorem ANE(n:Nat)(v:yn.V)(ω:List Bool):G2 ASd ASJ Tryz.f104 (Lr 0 AHE n) 3 ω (yn.st 40 v)=yn.un (R_ (Hs n)) v:=by rcases ω with _|⟨_|_,_|⟨_|_,_|⟨_|_,_⟩⟩⟩<;>kernel_rfl
def DU(ω:List Bool):Prop:= ∀(n:Nat) (v:aP.V),DP ASd ASJ Tryz.f104 (Lr 0 AHE n) ω v=aP.un (NI (Hs n)) v
theorem AQg:DU []:=by delta DU;intros;kernel_rfl
theorem AN_:DU (false::[]):=by delta DU;intros;kernel_rfl
theorem ARw:DU (false::false::[]):=by delta DU;intros;kernel_rfl
theorem ANC(ω:List Bool):DU (false::false::false::ω):=by delta DU;intros;kernel_rfl
theorem ARL:DU (false::false::true::[]):=by delta DU;intros;kernel_rfl
theorem AN8(ω:List Bool):DU (false::false::true::false::ω):=by delta DU;intros;kernel_rfl
theorem AQV(ω:List Bool):DU (false::false::true::true::ω):=by delta DU;intros;kernel_rfl
theorem ANa:DU (false::true::[]):=by delta DU;intros;kernel_rfl
theorem AP2(ω:List Bool):DU (false::true::false::ω):=by delta DU;intros;kernel_rfl
theorem AG1:DU (false::true::true::[]):=by delta DU;intros;kernel_rfl
theorem AJw(ω:List Bool):DU (false::true::true::false::ω):=by delta DU;intros;kernel_rfl
theorem AHp:DU (false::true::true::true::[]):=by delta DU;intros;kernel_rfl
theorem AJC(ω:List Bool):DU (false::true::true::true::false::ω):=by delta DU;intros;kernel_rfl
theorem AGS(ω:List Bool):DU (false::true::true::true::true::ω):=by delta DU;intros;kernel_rfl
theorem AH6:DU (true::[]):=by delta DU;intros;kernel_rfl
theorem AJj:DU (true::false::[]):=by delta DU;intros;kernel_rfl
theorem AHa:DU (true::false::false::[]):=by delta DU;intros;kernel_rfl
theorem AHd(ω:List Bool):DU (true::false::false::false::ω):=by delta DU;intros;kernel_rfl
theorem AKW(ω:List Bool):DU (true::false::false::true::ω):=by delta DU;intros;kernel_rfl
theorem AKA:DU (true::false::true::[]):=by delta DU;intros;kernel_rfl
theorem AFu(ω:List Bool):DU (true::false::true::false::ω):=by delta DU;intros;kernel_rfl
theorem ALQ:DU (true::false::true::true::[]):=by delta DU;intros;kernel_rfl
theorem AIc(ω:List Bool):DU (true::false::true::true::false::ω):=by delta DU;intros;kernel_rfl
theorem AKk(ω:List Bool):DU (true::false::true::true::true::ω):=by delta DU;intros;kernel_rfl
theorem AKq:DU (true::true::[]):=by delta DU;intros;kernel_rfl
theorem AKb(ω:List Bool):DU (true::true::false::ω):=by delta DU;intros;kernel_rfl
theorem AKr:DU (true::true::true::[]):=by delta DU;intros;kernel_rfl
theorem AH3(ω:List Bool):DU (true::true::true::false::ω):=by delta DU;intros;kernel_rfl
theorem AGV(ω:List Bool):DU (true::true::true::true::ω):=by delta DU;intros;kernel_rfl
theorem AX6(n:Nat)(ω:List Bool)(v:aP.V):DP ASd ASJ Tryz.f104 (Lr 0 AHE n) ω v=aP.un (NI (Hs n)) v:=(AF AQg (AF AN_ (AF ARw ANC (AF ARL AN8 AQV)) (AF ANa AP2 (AF AG1 AJw (AF AHp AJC AGS)))) (AF AH6 (AF AJj (AF AHa AHd AKW) (AF AKA AFu (AF ALQ AIc AKk))) (AF AKq AKb (AF AKr AH3 AGV)))) ω n v
def ACV:SQ:=mk Tryz.func104 aP tw EL [] [(1,[0,1]),(5,[0,1,2,3,4,6,7])] AHE (hJ:= .cons (fun _=>rfl) ANE (.nil)) (he:=AX6 Ae)
abbrev i105:BX:=AAU
abbrev zF:BX:=AAX
def AI2:SQ:=mk Tryz.func105 i105 zF CS [] [] []
abbrev i51:BX:=ij
abbrev o51:BX:=ALX
def c51:QP:=⟨i51,o51,(i51.un Og)⟩
def C51:Z9:=⟨T,QA (SP.l [ABd,ACO,AA0,ACV,AI2]),CO [(1,[0,1]),(5,[0,1,2,3,4,5,6,7,8,9,11,13,14,15,16,17,18]),(9,[0,1,2,3,4,5,6,7,8,9,11,12,13,14,16,17,18]),(13,[0,1,2,3,4,5,6,7,8,9,11,12,13,14,15,17,18]),(17,[0,1,2,3,4,5,6,7,8,9,11,12,13,14,15,16,18])]⟩
def L51:List (Lp o51):=[⟨3,⟨[(1,KA),(2,Zq),(3,bw),(4,BJ)],mE⟩,Cc⟩,⟨7,⟨[(1,KA),(2,Zq),(3,bw),(5,BJ)],mE⟩,Cs⟩,⟨11,⟨[(1,KA),(2,Zq),(3,bw),(6,BJ)],mE⟩,CY⟩,⟨15,⟨[(1,KA),(2,Zq),(3,bw),(7,BJ)],mE⟩,CW⟩]
abbrev sX:BX:=⟨[(1,KA),(2,Zq),(3,bw),(4,BJ)],mE⟩
abbrev sQ:BX:=⟨[(1,KA),(2,Zq),(3,bw),(5,BJ)],mE⟩
abbrev kE:BX:=⟨[(1,KA),(2,Zq),(3,bw),(6,BJ)],mE⟩
abbrev km:BX:=⟨[(1,KA),(2,Zq),(3,bw),(7,BJ)],mE⟩
theorem ATJ(cj:ACC→Option FZ)(jk:ACP→Option Kk)(dD:ACJ→Option FX)(jO:ABi→Option GU)(jW:ACh→Option Ja)(n:Nat)(v:sX.V)(ω:List Bool):G2 ⟨T,QA [(101,⟨fg,wG,fg.un cj⟩),(102,⟨kh,yc,kh.un jk⟩),(103,⟨fF,wy,fF.un dD⟩),(104,⟨aP,tw,aP.un jO⟩),(105,⟨i105,zF,i105.un jW⟩)],CO [(1,[0,1]),(5,[0,1,2,3,4,5,6,7,8,9,11,13,14,15,16,17,18]),(9,[0,1,2,3,4,5,6,7,8,9,11,12,13,14,16,17,18]),(13,[0,1,2,3,4,5,6,7,8,9,11,12,13,14,15,17,18]),(17,[0,1,2,3,4,5,6,7,8,9,11,12,13,14,15,16,18])]⟩ c51 Tryz.f51 (Lr 0 L51 n) 3 ω (sX.st 104 v)=sX.un (fun(t4:Int) (AR:AAH) (AE:Int) (Ah:AAQ) (Bc:AAH) (Br:AAk) (AU:Int) (Bp:AAt) (Bm:AAu) (CG:AA2) (Bk:AAs) (AK:Bool) (Bj:Int) (D_:Int) (E5:Bool) (b2:AAH) (b3:AAQ) (b4:AAH) (b5:AAk) (b6:AAt) (b7:AAu) (b8:AA2) (b9:AAs) (Dr:Int) (Eb:Int) (C4:Bool) (GM:AAH) (D2:AAQ) (Gv:AAH) (Gz:AAk) (ER:AAt) (E8:AAu) (Fh:AA2) (Ui:AAs)=>
 cond ((decide (t4<(Ah.length:Int))))
  (if(0:Int)≤t4∧t4<(Ah.length:Int)then(
  (jk ((Ah.getD (t4.toNat) ([],[],0,())).1,(Ah.getD (t4.toNat) ([],[],0,())).2.1,(Ah.getD (t4.toNat) ([],[],0,())).2.2.1,())).bind fun yU=>
  if D2.length+1≤Go.M.Ds then(
  (Cc n) (AX (t4+1)) AR AE Ah Bc Br AU Bp Bm CG Bk AK Bj D_ E5 b2 b3 b4 b5 b6 b7 b8 b9 Dr Eb C4 GM (D2++[(yU.2.1,yU.2.2.1,yU.1.1.2.2.1,())]) Gv Gz ER E8 Fh Ui)else none)else none)
 ((Cs n) 0 AR AE Ah Bc Br AU Bp Bm CG Bk AK Bj D_ E5 b2 b3 b4 b5 b6 b7 b8 b9 Dr Eb C4 GM D2 Gv Gz ER E8 Fh Ui)) v:=by rcases ω with _|⟨_|_,_|⟨_|_,_⟩⟩<;>kernel_rfl
theorem AVA(n:Nat)(v:sX.V)(ω:List Bool):G2 C51 c51 Tryz.f51 (Lr 0 L51 n) 3 ω (sX.st 104 v)=sX.un (QT (Cc n) (Cs n) (CY n) (CW n)) v:=ATJ F6 El FQ EL CS n v ω
theorem AWM(cj:ACC→Option FZ)(jk:ACP→Option Kk)(dD:ACJ→Option FX)(jO:ABi→Option GU)(jW:ACh→Option Ja)(n:Nat)(v:sQ.V)(ω:List Bool):G2 ⟨T,QA [(101,⟨fg,wG,fg.un cj⟩),(102,⟨kh,yc,kh.un jk⟩),(103,⟨fF,wy,fF.un dD⟩),(104,⟨aP,tw,aP.un jO⟩),(105,⟨i105,zF,i105.un jW⟩)],CO [(1,[0,1]),(5,[0,1,2,3,4,5,6,7,8,9,11,13,14,15,16,17,18]),(9,[0,1,2,3,4,5,6,7,8,9,11,12,13,14,16,17,18]),(13,[0,1,2,3,4,5,6,7,8,9,11,12,13,14,15,17,18]),(17,[0,1,2,3,4,5,6,7,8,9,11,12,13,14,15,16,18])]⟩ c51 Tryz.f51 (Lr 0 L51 n) 7 ω (sQ.st 104 v)=sQ.un (fun(t5:Int) (AR:AAH) (AE:Int) (Ah:AAQ) (Bc:AAH) (Br:AAk) (AU:Int) (Bp:AAt) (Bm:AAu) (CG:AA2) (Bk:AAs) (AK:Bool) (Bj:Int) (D_:Int) (E5:Bool) (b2:AAH) (b3:AAQ) (b4:AAH) (b5:AAk) (b6:AAt) (b7:AAu) (b8:AA2) (b9:AAs) (Dr:Int) (Eb:Int) (C4:Bool) (GM:AAH) (D2:AAQ) (Gv:AAH) (Gz:AAk) (ER:AAt) (E8:AAu) (Fh:AA2) (Ui:AAs)=>
 cond ((decide (t5<(Bp.length:Int))))
  (if(0:Int)≤t5∧t5<(Bp.length:Int)then(
  (dD ((Bp.getD (t5.toNat) (0,[],())).1,(Bp.getD (t5.toNat) (0,[],())).2.1,())).bind fun AC0=>
  if ER.length+1≤Go.M.Ds then(
  (Cs n) (AX (t5+1)) AR AE Ah Bc Br AU Bp Bm CG Bk AK Bj D_ E5 b2 b3 b4 b5 b6 b7 b8 b9 Dr Eb C4 GM D2 Gv Gz (ER++[(AC0.1.1.1,AC0.2.1,())]) E8 Fh Ui)else none)else none)
 ((CY n) 0 AR AE Ah Bc Br AU Bp Bm CG Bk AK Bj D_ E5 b2 b3 b4 b5 b6 b7 b8 b9 Dr Eb C4 GM D2 Gv Gz ER E8 Fh Ui)) v:=by rcases ω with _|⟨_|_,_|⟨_|_,_⟩⟩<;>kernel_rfl
theorem AUh(n:Nat)(v:sQ.V)(ω:List Bool):G2 C51 c51 Tryz.f51 (Lr 0 L51 n) 7 ω (sQ.st 104 v)=sQ.un (QV (Cc n) (Cs n) (CY n) (CW n)) v:=AWM F6 El FQ EL CS n v ω
theorem AQT(cj:ACC→Option FZ)(jk:ACP→Option Kk)(dD:ACJ→Option FX)(jO:ABi→Option GU)(jW:ACh→Option Ja)(n:Nat)(v:kE.V)(ω:List Bool):G2 ⟨T,QA [(101,⟨fg,wG,fg.un cj⟩),(102,⟨kh,yc,kh.un jk⟩),(103,⟨fF,wy,fF.un dD⟩),(104,⟨aP,tw,aP.un jO⟩),(105,⟨i105,zF,i105.un jW⟩)],CO [(1,[0,1]),(5,[0,1,2,3,4,5,6,7,8,9,11,13,14,15,16,17,18]),(9,[0,1,2,3,4,5,6,7,8,9,11,12,13,14,16,17,18]),(13,[0,1,2,3,4,5,6,7,8,9,11,12,13,14,15,17,18]),(17,[0,1,2,3,4,5,6,7,8,9,11,12,13,14,15,16,18])]⟩ c51 Tryz.f51 (Lr 0 L51 n) 11 ω (kE.st 104 v)=kE.un (fun(t6:Int) (AR:AAH) (AE:Int) (Ah:AAQ) (Bc:AAH) (Br:AAk) (AU:Int) (Bp:AAt) (Bm:AAu) (CG:AA2) (Bk:AAs) (AK:Bool) (Bj:Int) (D_:Int) (E5:Bool) (b2:AAH) (b3:AAQ) (b4:AAH) (b5:AAk) (b6:AAt) (b7:AAu) (b8:AA2) (b9:AAs) (Dr:Int) (Eb:Int) (C4:Bool) (GM:AAH) (D2:AAQ) (Gv:AAH) (Gz:AAk) (ER:AAt) (E8:AAu) (Fh:AA2) (Ui:AAs)=>
 cond ((decide (t6<(Bm.length:Int))))
  (if(0:Int)≤t6∧t6<(Bm.length:Int)then(
  (jO ((Bm.getD (t6.toNat) (0,0,[],[],false,[],())).1,(Bm.getD (t6.toNat) (0,0,[],[],false,[],())).2.1,(Bm.getD (t6.toNat) (0,0,[],[],false,[],())).2.2.1,(Bm.getD (t6.toNat) (0,0,[],[],false,[],())).2.2.2.1,(Bm.getD (t6.toNat) (0,0,[],[],false,[],())).2.2.2.2.1,(Bm.getD (t6.toNat) (0,0,[],[],false,[],())).2.2.2.2.2.1,())).bind fun kc=>
  if E8.length+1≤Go.M.Ds then(
  (CY n) (AX (t6+1)) AR AE Ah Bc Br AU Bp Bm CG Bk AK Bj D_ E5 b2 b3 b4 b5 b6 b7 b8 b9 Dr Eb C4 GM D2 Gv Gz ER (E8++[(kc.1.1.1,kc.1.1.2.1,kc.2.1,kc.2.2.1,kc.1.1.2.2.2.2.1,kc.2.2.2.1,())]) Fh Ui)else none)else none)
 ((CW n) 0 AR AE Ah Bc Br AU Bp Bm CG Bk AK Bj D_ E5 b2 b3 b4 b5 b6 b7 b8 b9 Dr Eb C4 GM D2 Gv Gz ER E8 Fh Ui)) v:=by rcases ω with _|⟨_|_,_|⟨_|_,_⟩⟩<;>kernel_rfl
theorem API(n:Nat)(v:kE.V)(ω:List Bool):G2 C51 c51 Tryz.f51 (Lr 0 L51 n) 11 ω (kE.st 104 v)=kE.un (PE (Cc n) (Cs n) (CY n) (CW n)) v:=AQT F6 El FQ EL CS n v ω
theorem AQk(cj:ACC→Option FZ)(jk:ACP→Option Kk)(dD:ACJ→Option FX)(jO:ABi→Option GU)(jW:ACh→Option Ja)(n:Nat)(v:km.V)(ω:List Bool):G2 ⟨T,QA [(101,⟨fg,wG,fg.un cj⟩),(102,⟨kh,yc,kh.un jk⟩),(103,⟨fF,wy,fF.un dD⟩),(104,⟨aP,tw,aP.un jO⟩),(105,⟨i105,zF,i105.un jW⟩)],CO [(1,[0,1]),(5,[0,1,2,3,4,5,6,7,8,9,11,13,14,15,16,17,18]),(9,[0,1,2,3,4,5,6,7,8,9,11,12,13,14,16,17,18]),(13,[0,1,2,3,4,5,6,7,8,9,11,12,13,14,15,17,18]),(17,[0,1,2,3,4,5,6,7,8,9,11,12,13,14,15,16,18])]⟩ c51 Tryz.f51 (Lr 0 L51 n) 15 ω (km.st 104 v)=km.un (fun(t7:Int) (AR:AAH) (AE:Int) (Ah:AAQ) (Bc:AAH) (Br:AAk) (AU:Int) (Bp:AAt) (Bm:AAu) (CG:AA2) (Bk:AAs) (AK:Bool) (Bj:Int) (D_:Int) (E5:Bool) (b2:AAH) (b3:AAQ) (b4:AAH) (b5:AAk) (b6:AAt) (b7:AAu) (b8:AA2) (b9:AAs) (Dr:Int) (Eb:Int) (C4:Bool) (GM:AAH) (D2:AAQ) (Gv:AAH) (Gz:AAk) (ER:AAt) (E8:AAu) (Fh:AA2) (Ui:AAs)=>
 cond ((decide (t7<(CG.length:Int))))
  (if(0:Int)≤t7∧t7<(CG.length:Int)then(
  (jW ((CG.getD (t7.toNat) (0,0,[],())).1,(CG.getD (t7.toNat) (0,0,[],())).2.1,(CG.getD (t7.toNat) (0,0,[],())).2.2.1,())).bind fun xq=>
  if Fh.length+1≤Go.M.Ds then(
  (CW n) (AX (t7+1)) AR AE Ah Bc Br AU Bp Bm CG Bk AK Bj D_ E5 b2 b3 b4 b5 b6 b7 b8 b9 Dr Eb C4 GM D2 Gv Gz ER E8 (Fh++[(xq.1.1.1,xq.1.1.2.1,xq.2.1,())]) Ui)else none)else none)
 (some ((((),Dr,(),(),(),Eb,(),(),(),(),C4,()),()),(GM,D2,Gv,Gz,ER,E8,Fh,Ui,())))) v:=by rcases ω with _|⟨_|_,_|⟨_|_,_⟩⟩<;>kernel_rfl
theorem ASE(n:Nat)(v:km.V)(ω:List Bool):G2 C51 c51 Tryz.f51 (Lr 0 L51 n) 15 ω (km.st 104 v)=km.un (PF (Cc n) (Cs n) (CY n) (CW n)) v:=AQk F6 El FQ EL CS n v ω
def AG(ω:List Bool):Prop:= ∀(cj:ACC→Option FZ) (jk:ACP→Option Kk) (dD:ACJ→Option FX) (jO:ABi→Option GU) (jW:ACh→Option Ja) (n:Nat) (v:i51.V),DP ⟨T,QA [(101,⟨fg,wG,fg.un cj⟩),(102,⟨kh,yc,kh.un jk⟩),(103,⟨fF,wy,fF.un dD⟩),(104,⟨aP,tw,aP.un jO⟩),(105,⟨i105,zF,i105.un jW⟩)],CO [(1,[0,1]),(5,[0,1,2,3,4,5,6,7,8,9,11,13,14,15,16,17,18]),(9,[0,1,2,3,4,5,6,7,8,9,11,12,13,14,16,17,18]),(13,[0,1,2,3,4,5,6,7,8,9,11,12,13,14,15,17,18]),(17,[0,1,2,3,4,5,6,7,8,9,11,12,13,14,15,16,18])]⟩ c51 Tryz.f51 (Lr 0 L51 n) ω v=i51.un (fun(p0:ABS)=>
 if 0+p0.1.length≤Go.M.Ds then(
 if 0+p0.2.2.2.1.length≤Go.M.Ds then(
 (cj (p0.2.2.2.2.1,p0.2.2.2.2.2.1,())).bind fun u2=>
 if 0+p0.2.2.2.2.2.2.2.2.2.1.length≤Go.M.Ds then(
 (Cc n) 0 p0.1 p0.2.1 p0.2.2.1 p0.2.2.2.1 p0.2.2.2.2.1 p0.2.2.2.2.2.1 p0.2.2.2.2.2.2.1 p0.2.2.2.2.2.2.2.1 p0.2.2.2.2.2.2.2.2.1 p0.2.2.2.2.2.2.2.2.2.1 p0.2.2.2.2.2.2.2.2.2.2.1 0 0 false [] [] [] [] [] [] [] [] p0.2.1 u2.1.1.2.1 p0.2.2.2.2.2.2.2.2.2.2.1 p0.1 [] p0.2.2.2.1 u2.2.1 [] [] [] p0.2.2.2.2.2.2.2.2.2.1)else none)else none)else none) v
theorem AWb:AG []:=by delta AG;intros;kernel_rfl
theorem ATv:AG (false::[]):=by delta AG;intros;kernel_rfl
theorem AVc:AG (false::false::[]):=by delta AG;intros;kernel_rfl
theorem AVm:AG (false::false::false::[]):=by delta AG;intros;kernel_rfl
theorem AWD:AG (false::false::false::false::[]):=by delta AG;intros;kernel_rfl
theorem ATk:AG (false::false::false::false::false::[]):=by delta AG;intros;kernel_rfl
theorem AV9(ω:List Bool):AG (false::false::false::false::false::false::ω):=by delta AG;intros;kernel_rfl
theorem AWC:AG (false::false::false::false::false::true::[]):=by delta AG;intros;kernel_rfl
theorem AU4(ω:List Bool):AG (false::false::false::false::false::true::false::ω):=by delta AG;intros;kernel_rfl
theorem APF(ω:List Bool):AG (false::false::false::false::false::true::true::ω):=by delta AG;intros;kernel_rfl
theorem ARe:AG (false::false::false::false::true::[]):=by delta AG;intros;kernel_rfl
theorem APh(ω:List Bool):AG (false::false::false::false::true::false::ω):=by delta AG;intros;kernel_rfl
theorem AQa:AG (false::false::false::false::true::true::[]):=by delta AG;intros;kernel_rfl
theorem APU(ω:List Bool):AG (false::false::false::false::true::true::false::ω):=by delta AG;intros;kernel_rfl
theorem AQC:AG (false::false::false::false::true::true::true::[]):=by delta AG;intros;kernel_rfl
theorem APW(ω:List Bool):AG (false::false::false::false::true::true::true::false::ω):=by delta AG;intros;kernel_rfl
theorem AOd:AG (false::false::false::false::true::true::true::true::[]):=by delta AG;intros;kernel_rfl
theorem ANK(ω:List Bool):AG (false::false::false::false::true::true::true::true::false::ω):=by delta AG;intros;kernel_rfl
theorem AO2(ω:List Bool):AG (false::false::false::false::true::true::true::true::true::ω):=by delta AG;intros;kernel_rfl
theorem ARW:AG (false::false::false::true::[]):=by delta AG;intros;kernel_rfl
theorem AQp:AG (false::false::false::true::false::[]):=by delta AG;intros;kernel_rfl
theorem AQB:AG (false::false::false::true::false::false::[]):=by delta AG;intros;kernel_rfl
theorem AN5(ω:List Bool):AG (false::false::false::true::false::false::false::ω):=by delta AG;intros;kernel_rfl
theorem AQD(ω:List Bool):AG (false::false::false::true::false::false::true::ω):=by delta AG;intros;kernel_rfl
theorem APM:AG (false::false::false::true::false::true::[]):=by delta AG;intros;kernel_rfl
theorem APk(ω:List Bool):AG (false::false::false::true::false::true::false::ω):=by delta AG;intros;kernel_rfl
theorem AN2:AG (false::false::false::true::false::true::true::[]):=by delta AG;intros;kernel_rfl
theorem APY(ω:List Bool):AG (false::false::false::true::false::true::true::false::ω):=by delta AG;intros;kernel_rfl
theorem ARn:AG (false::false::false::true::false::true::true::true::[]):=by delta AG;intros;kernel_rfl
theorem AQ8(ω:List Bool):AG (false::false::false::true::false::true::true::true::false::ω):=by delta AG;intros;kernel_rfl
theorem ARc(ω:List Bool):AG (false::false::false::true::false::true::true::true::true::ω):=by delta AG;intros;kernel_rfl
theorem AQj:AG (false::false::false::true::true::[]):=by delta AG;intros;kernel_rfl
theorem AQY(ω:List Bool):AG (false::false::false::true::true::false::ω):=by delta AG;intros;kernel_rfl
theorem ANm:AG (false::false::false::true::true::true::[]):=by delta AG;intros;kernel_rfl
theorem AMf(ω:List Bool):AG (false::false::false::true::true::true::false::ω):=by delta AG;intros;kernel_rfl
theorem APw:AG (false::false::false::true::true::true::true::[]):=by delta AG;intros;kernel_rfl
theorem ASA(ω:List Bool):AG (false::false::false::true::true::true::true::false::ω):=by delta AG;intros;kernel_rfl
theorem ARZ(ω:List Bool):AG (false::false::false::true::true::true::true::true::ω):=by delta AG;intros;kernel_rfl
theorem AQh:AG (false::false::true::[]):=by delta AG;intros;kernel_rfl
theorem AQ6:AG (false::false::true::false::[]):=by delta AG;intros;kernel_rfl
theorem AQK:AG (false::false::true::false::false::[]):=by delta AG;intros;kernel_rfl
theorem ANI(ω:List Bool):AG (false::false::true::false::false::false::ω):=by delta AG;intros;kernel_rfl
theorem APl:AG (false::false::true::false::false::true::[]):=by delta AG;intros;kernel_rfl
theorem AOt(ω:List Bool):AG (false::false::true::false::false::true::false::ω):=by delta AG;intros;kernel_rfl
theorem ARI(ω:List Bool):AG (false::false::true::false::false::true::true::ω):=by delta AG;intros;kernel_rfl
theorem AO9:AG (false::false::true::false::true::[]):=by delta AG;intros;kernel_rfl
theorem ANX(ω:List Bool):AG (false::false::true::false::true::false::ω):=by delta AG;intros;kernel_rfl
theorem ARp:AG (false::false::true::false::true::true::[]):=by delta AG;intros;kernel_rfl
theorem APX(ω:List Bool):AG (false::false::true::false::true::true::false::ω):=by delta AG;intros;kernel_rfl
theorem ANB:AG (false::false::true::false::true::true::true::[]):=by delta AG;intros;kernel_rfl
theorem AP6(ω:List Bool):AG (false::false::true::false::true::true::true::false::ω):=by delta AG;intros;kernel_rfl
theorem APf:AG (false::false::true::false::true::true::true::true::[]):=by delta AG;intros;kernel_rfl
theorem ANb(ω:List Bool):AG (false::false::true::false::true::true::true::true::false::ω):=by delta AG;intros;kernel_rfl
theorem AND:AG (false::false::true::false::true::true::true::true::true::[]):=by delta AG;intros;kernel_rfl
theorem ANL(ω:List Bool):AG (false::false::true::false::true::true::true::true::true::false::ω):=by delta AG;intros;kernel_rfl
theorem AN7(ω:List Bool):AG (false::false::true::false::true::true::true::true::true::true::ω):=by delta AG;intros;kernel_rfl
theorem ARs:AG (false::false::true::true::[]):=by delta AG;intros;kernel_rfl
theorem ARt:AG (false::false::true::true::false::[]):=by delta AG;intros;kernel_rfl
theorem AOS:AG (false::false::true::true::false::false::[]):=by delta AG;intros;kernel_rfl
theorem ASK(ω:List Bool):AG (false::false::true::true::false::false::false::ω):=by delta AG;intros;kernel_rfl
theorem AR1(ω:List Bool):AG (false::false::true::true::false::false::true::ω):=by delta AG;intros;kernel_rfl
theorem AM8:AG (false::false::true::true::false::true::[]):=by delta AG;intros;kernel_rfl
theorem APJ(ω:List Bool):AG (false::false::true::true::false::true::false::ω):=by delta AG;intros;kernel_rfl
theorem AP0:AG (false::false::true::true::false::true::true::[]):=by delta AG;intros;kernel_rfl
theorem ARi(ω:List Bool):AG (false::false::true::true::false::true::true::false::ω):=by delta AG;intros;kernel_rfl
theorem AOv:AG (false::false::true::true::false::true::true::true::[]):=by delta AG;intros;kernel_rfl
theorem AM3(ω:List Bool):AG (false::false::true::true::false::true::true::true::false::ω):=by delta AG;intros;kernel_rfl
theorem AQP:AG (false::false::true::true::false::true::true::true::true::[]):=by delta AG;intros;kernel_rfl
theorem ARf(ω:List Bool):AG (false::false::true::true::false::true::true::true::true::false::ω):=by delta AG;intros;kernel_rfl
theorem ARF(ω:List Bool):AG (false::false::true::true::false::true::true::true::true::true::ω):=by delta AG;intros;kernel_rfl
theorem AP3:AG (false::false::true::true::true::[]):=by delta AG;intros;kernel_rfl
theorem ASb(ω:List Bool):AG (false::false::true::true::true::false::ω):=by delta AG;intros;kernel_rfl
theorem AQf:AG (false::false::true::true::true::true::[]):=by delta AG;intros;kernel_rfl
theorem AQ9(ω:List Bool):AG (false::false::true::true::true::true::false::ω):=by delta AG;intros;kernel_rfl
theorem ANz:AG (false::false::true::true::true::true::true::[]):=by delta AG;intros;kernel_rfl
theorem AQv(ω:List Bool):AG (false::false::true::true::true::true::true::false::ω):=by delta AG;intros;kernel_rfl
theorem AMt:AG (false::false::true::true::true::true::true::true::[]):=by delta AG;intros;kernel_rfl
theorem ASa(ω:List Bool):AG (false::false::true::true::true::true::true::true::false::ω):=by delta AG;intros;kernel_rfl
theorem ASZ(ω:List Bool):AG (false::false::true::true::true::true::true::true::true::ω):=by delta AG;intros;kernel_rfl
theorem ASG:AG (false::true::[]):=by delta AG;intros;kernel_rfl
theorem ARY:AG (false::true::false::[]):=by delta AG;intros;kernel_rfl
theorem ANk:AG (false::true::false::false::[]):=by delta AG;intros;kernel_rfl
theorem AOx(ω:List Bool):AG (false::true::false::false::false::ω):=by delta AG;intros;kernel_rfl
theorem ANd:AG (false::true::false::false::true::[]):=by delta AG;intros;kernel_rfl
theorem AOu(ω:List Bool):AG (false::true::false::false::true::false::ω):=by delta AG;intros;kernel_rfl
theorem AOP:AG (false::true::false::false::true::true::[]):=by delta AG;intros;kernel_rfl
theorem ANy(ω:List Bool):AG (false::true::false::false::true::true::false::ω):=by delta AG;intros;kernel_rfl
theorem AM5:AG (false::true::false::false::true::true::true::[]):=by delta AG;intros;kernel_rfl
theorem ANP(ω:List Bool):AG (false::true::false::false::true::true::true::false::ω):=by delta AG;intros;kernel_rfl
theorem APH(ω:List Bool):AG (false::true::false::false::true::true::true::true::ω):=by delta AG;intros;kernel_rfl
theorem APR:AG (false::true::false::true::[]):=by delta AG;intros;kernel_rfl
theorem ANZ(ω:List Bool):AG (false::true::false::true::false::ω):=by delta AG;intros;kernel_rfl
theorem AQu:AG (false::true::false::true::true::[]):=by delta AG;intros;kernel_rfl
theorem ASL(ω:List Bool):AG (false::true::false::true::true::false::ω):=by delta AG;intros;kernel_rfl
theorem APy:AG (false::true::false::true::true::true::[]):=by delta AG;intros;kernel_rfl
theorem AQJ(ω:List Bool):AG (false::true::false::true::true::true::false::ω):=by delta AG;intros;kernel_rfl
theorem AQO:AG (false::true::false::true::true::true::true::[]):=by delta AG;intros;kernel_rfl
theorem ASH(ω:List Bool):AG (false::true::false::true::true::true::true::false::ω):=by delta AG;intros;kernel_rfl
theorem AP9:AG (false::true::false::true::true::true::true::true::[]):=by delta AG;intros;kernel_rfl
theorem AKu(ω:List Bool):AG (false::true::false::true::true::true::true::true::false::ω):=by delta AG;intros;kernel_rfl
theorem AHg(ω:List Bool):AG (false::true::false::true::true::true::true::true::true::ω):=by delta AG;intros;kernel_rfl
theorem AHG:AG (false::true::true::[]):=by delta AG;intros;kernel_rfl
theorem AJM:AG (false::true::true::false::[]):=by delta AG;intros;kernel_rfl
theorem AKa:AG (false::true::true::false::false::[]):=by delta AG;intros;kernel_rfl
theorem AKC(ω:List Bool):AG (false::true::true::false::false::false::ω):=by delta AG;intros;kernel_rfl
theorem AKH:AG (false::true::true::false::false::true::[]):=by delta AG;intros;kernel_rfl
theorem AJs(ω:List Bool):AG (false::true::true::false::false::true::false::ω):=by delta AG;intros;kernel_rfl
theorem AKT:AG (false::true::true::false::false::true::true::[]):=by delta AG;intros;kernel_rfl
theorem AGb(ω:List Bool):AG (false::true::true::false::false::true::true::false::ω):=by delta AG;intros;kernel_rfl
theorem AKn(ω:List Bool):AG (false::true::true::false::false::true::true::true::ω):=by delta AG;intros;kernel_rfl
theorem AHj:AG (false::true::true::false::true::[]):=by delta AG;intros;kernel_rfl
theorem AFw(ω:List Bool):AG (false::true::true::false::true::false::ω):=by delta AG;intros;kernel_rfl
theorem AFz:AG (false::true::true::false::true::true::[]):=by delta AG;intros;kernel_rfl
theorem ALL(ω:List Bool):AG (false::true::true::false::true::true::false::ω):=by delta AG;intros;kernel_rfl
theorem AHc:AG (false::true::true::false::true::true::true::[]):=by delta AG;intros;kernel_rfl
theorem AGD(ω:List Bool):AG (false::true::true::false::true::true::true::false::ω):=by delta AG;intros;kernel_rfl
theorem AIv:AG (false::true::true::false::true::true::true::true::[]):=by delta AG;intros;kernel_rfl
theorem AKO(ω:List Bool):AG (false::true::true::false::true::true::true::true::false::ω):=by delta AG;intros;kernel_rfl
theorem AG2(ω:List Bool):AG (false::true::true::false::true::true::true::true::true::ω):=by delta AG;intros;kernel_rfl
theorem AIx:AG (false::true::true::true::[]):=by delta AG;intros;kernel_rfl
theorem AJh:AG (false::true::true::true::false::[]):=by delta AG;intros;kernel_rfl
theorem AKd:AG (false::true::true::true::false::false::[]):=by delta AG;intros;kernel_rfl
theorem AKx(ω:List Bool):AG (false::true::true::true::false::false::false::ω):=by delta AG;intros;kernel_rfl
theorem AJL:AG (false::true::true::true::false::false::true::[]):=by delta AG;intros;kernel_rfl
theorem ALJ(ω:List Bool):AG (false::true::true::true::false::false::true::false::ω):=by delta AG;intros;kernel_rfl
theorem AJZ(ω:List Bool):AG (false::true::true::true::false::false::true::true::ω):=by delta AG;intros;kernel_rfl
theorem AKJ:AG (false::true::true::true::false::true::[]):=by delta AG;intros;kernel_rfl
theorem AJy(ω:List Bool):AG (false::true::true::true::false::true::false::ω):=by delta AG;intros;kernel_rfl
theorem AGa:AG (false::true::true::true::false::true::true::[]):=by delta AG;intros;kernel_rfl
theorem AJp(ω:List Bool):AG (false::true::true::true::false::true::true::false::ω):=by delta AG;intros;kernel_rfl
theorem AID:AG (false::true::true::true::false::true::true::true::[]):=by delta AG;intros;kernel_rfl
theorem ALD(ω:List Bool):AG (false::true::true::true::false::true::true::true::false::ω):=by delta AG;intros;kernel_rfl
theorem AKL(ω:List Bool):AG (false::true::true::true::false::true::true::true::true::ω):=by delta AG;intros;kernel_rfl
theorem AGB:AG (false::true::true::true::true::[]):=by delta AG;intros;kernel_rfl
theorem AFv:AG (false::true::true::true::true::false::[]):=by delta AG;intros;kernel_rfl
theorem AI4:AG (false::true::true::true::true::false::false::[]):=by delta AG;intros;kernel_rfl
theorem AHX(ω:List Bool):AG (false::true::true::true::true::false::false::false::ω):=by delta AG;intros;kernel_rfl
theorem AKe(ω:List Bool):AG (false::true::true::true::true::false::false::true::ω):=by delta AG;intros;kernel_rfl
theorem AHv:AG (false::true::true::true::true::false::true::[]):=by delta AG;intros;kernel_rfl
theorem AHy(ω:List Bool):AG (false::true::true::true::true::false::true::false::ω):=by delta AG;intros;kernel_rfl
theorem AHi:AG (false::true::true::true::true::false::true::true::[]):=by delta AG;intros;kernel_rfl
theorem AIA(ω:List Bool):AG (false::true::true::true::true::false::true::true::false::ω):=by delta AG;intros;kernel_rfl
theorem AH5(ω:List Bool):AG (false::true::true::true::true::false::true::true::true::ω):=by delta AG;intros;kernel_rfl
theorem AI6:AG (false::true::true::true::true::true::[]):=by delta AG;intros;kernel_rfl
theorem AIL(ω:List Bool):AG (false::true::true::true::true::true::false::ω):=by delta AG;intros;kernel_rfl
theorem AGQ:AG (false::true::true::true::true::true::true::[]):=by delta AG;intros;kernel_rfl
theorem AGP(ω:List Bool):AG (false::true::true::true::true::true::true::false::ω):=by delta AG;intros;kernel_rfl
theorem AHB(ω:List Bool):AG (false::true::true::true::true::true::true::true::ω):=by delta AG;intros;kernel_rfl
theorem AJ4:AG (true::[]):=by delta AG;intros;kernel_rfl
theorem AGE:AG (true::false::[]):=by delta AG;intros;kernel_rfl
theorem AHO:AG (true::false::false::[]):=by delta AG;intros;kernel_rfl
theorem AK0:AG (true::false::false::false::[]):=by delta AG;intros;kernel_rfl
theorem AJe:AG (true::false::false::false::false::[]):=by delta AG;intros;kernel_rfl
theorem AHF:AG (true::false::false::false::false::false::[]):=by delta AG;intros;kernel_rfl
theorem AKB(ω:List Bool):AG (true::false::false::false::false::false::false::ω):=by delta AG;intros;kernel_rfl
theorem AHq(ω:List Bool):AG (true::false::false::false::false::false::true::ω):=by delta AG;intros;kernel_rfl
theorem AHZ:AG (true::false::false::false::false::true::[]):=by delta AG;intros;kernel_rfl
theorem AGN(ω:List Bool):AG (true::false::false::false::false::true::false::ω):=by delta AG;intros;kernel_rfl
theorem AIf:AG (true::false::false::false::false::true::true::[]):=by delta AG;intros;kernel_rfl
theorem AJW(ω:List Bool):AG (true::false::false::false::false::true::true::false::ω):=by delta AG;intros;kernel_rfl
theorem AIJ:AG (true::false::false::false::false::true::true::true::[]):=by delta AG;intros;kernel_rfl
theorem AH9(ω:List Bool):AG (true::false::false::false::false::true::true::true::false::ω):=by delta AG;intros;kernel_rfl
theorem AGh(ω:List Bool):AG (true::false::false::false::false::true::true::true::true::ω):=by delta AG;intros;kernel_rfl
theorem AKE:AG (true::false::false::false::true::[]):=by delta AG;intros;kernel_rfl
theorem AHR(ω:List Bool):AG (true::false::false::false::true::false::ω):=by delta AG;intros;kernel_rfl
theorem AHf:AG (true::false::false::false::true::true::[]):=by delta AG;intros;kernel_rfl
theorem ALM(ω:List Bool):AG (true::false::false::false::true::true::false::ω):=by delta AG;intros;kernel_rfl
theorem AGR:AG (true::false::false::false::true::true::true::[]):=by delta AG;intros;kernel_rfl
theorem AGr(ω:List Bool):AG (true::false::false::false::true::true::true::false::ω):=by delta AG;intros;kernel_rfl
theorem AKj(ω:List Bool):AG (true::false::false::false::true::true::true::true::ω):=by delta AG;intros;kernel_rfl
theorem AIK:AG (true::false::false::true::[]):=by delta AG;intros;kernel_rfl
theorem AH_:AG (true::false::false::true::false::[]):=by delta AG;intros;kernel_rfl
theorem AGt:AG (true::false::false::true::false::false::[]):=by delta AG;intros;kernel_rfl
theorem AF2(ω:List Bool):AG (true::false::false::true::false::false::false::ω):=by delta AG;intros;kernel_rfl
theorem AHs(ω:List Bool):AG (true::false::false::true::false::false::true::ω):=by delta AG;intros;kernel_rfl
theorem AJH:AG (true::false::false::true::false::true::[]):=by delta AG;intros;kernel_rfl
theorem AIU(ω:List Bool):AG (true::false::false::true::false::true::false::ω):=by delta AG;intros;kernel_rfl
theorem AJQ:AG (true::false::false::true::false::true::true::[]):=by delta AG;intros;kernel_rfl
theorem AJn(ω:List Bool):AG (true::false::false::true::false::true::true::false::ω):=by delta AG;intros;kernel_rfl
theorem AKz:AG (true::false::false::true::false::true::true::true::[]):=by delta AG;intros;kernel_rfl
theorem AKw(ω:List Bool):AG (true::false::false::true::false::true::true::true::false::ω):=by delta AG;intros;kernel_rfl
theorem AGn:AG (true::false::false::true::false::true::true::true::true::[]):=by delta AG;intros;kernel_rfl
theorem AG3(ω:List Bool):AG (true::false::false::true::false::true::true::true::true::false::ω):=by delta AG;intros;kernel_rfl
theorem AJb(ω:List Bool):AG (true::false::false::true::false::true::true::true::true::true::ω):=by delta AG;intros;kernel_rfl
theorem AJk:AG (true::false::false::true::true::[]):=by delta AG;intros;kernel_rfl
theorem AKM(ω:List Bool):AG (true::false::false::true::true::false::ω):=by delta AG;intros;kernel_rfl
theorem AGI:AG (true::false::false::true::true::true::[]):=by delta AG;intros;kernel_rfl
theorem AGC(ω:List Bool):AG (true::false::false::true::true::true::false::ω):=by delta AG;intros;kernel_rfl
theorem AIR:AG (true::false::false::true::true::true::true::[]):=by delta AG;intros;kernel_rfl
theorem AHw(ω:List Bool):AG (true::false::false::true::true::true::true::false::ω):=by delta AG;intros;kernel_rfl
theorem AIp:AG (true::false::false::true::true::true::true::true::[]):=by delta AG;intros;kernel_rfl
theorem AG6(ω:List Bool):AG (true::false::false::true::true::true::true::true::false::ω):=by delta AG;intros;kernel_rfl
theorem AIB(ω:List Bool):AG (true::false::false::true::true::true::true::true::true::ω):=by delta AG;intros;kernel_rfl
theorem AGX:AG (true::false::true::[]):=by delta AG;intros;kernel_rfl
theorem AKh:AG (true::false::true::false::[]):=by delta AG;intros;kernel_rfl
theorem AGG:AG (true::false::true::false::false::[]):=by delta AG;intros;kernel_rfl
theorem AJG(ω:List Bool):AG (true::false::true::false::false::false::ω):=by delta AG;intros;kernel_rfl
theorem AGJ:AG (true::false::true::false::false::true::[]):=by delta AG;intros;kernel_rfl
theorem AId(ω:List Bool):AG (true::false::true::false::false::true::false::ω):=by delta AG;intros;kernel_rfl
theorem AJa:AG (true::false::true::false::false::true::true::[]):=by delta AG;intros;kernel_rfl
theorem AIi(ω:List Bool):AG (true::false::true::false::false::true::true::false::ω):=by delta AG;intros;kernel_rfl
theorem AK9(ω:List Bool):AG (true::false::true::false::false::true::true::true::ω):=by delta AG;intros;kernel_rfl
theorem AGi:AG (true::false::true::false::true::[]):=by delta AG;intros;kernel_rfl
theorem AJ0(ω:List Bool):AG (true::false::true::false::true::false::ω):=by delta AG;intros;kernel_rfl
theorem AKm:AG (true::false::true::false::true::true::[]):=by delta AG;intros;kernel_rfl
theorem AJX(ω:List Bool):AG (true::false::true::false::true::true::false::ω):=by delta AG;intros;kernel_rfl
theorem AGF:AG (true::false::true::false::true::true::true::[]):=by delta AG;intros;kernel_rfl
theorem AGy(ω:List Bool):AG (true::false::true::false::true::true::true::false::ω):=by delta AG;intros;kernel_rfl
theorem AIa:AG (true::false::true::false::true::true::true::true::[]):=by delta AG;intros;kernel_rfl
theorem AHH(ω:List Bool):AG (true::false::true::false::true::true::true::true::false::ω):=by delta AG;intros;kernel_rfl
theorem AKI(ω:List Bool):AG (true::false::true::false::true::true::true::true::true::ω):=by delta AG;intros;kernel_rfl
theorem AIF:AG (true::false::true::true::[]):=by delta AG;intros;kernel_rfl
theorem AJu:AG (true::false::true::true::false::[]):=by delta AG;intros;kernel_rfl
theorem AKG:AG (true::false::true::true::false::false::[]):=by delta AG;intros;kernel_rfl
theorem AIS(ω:List Bool):AG (true::false::true::true::false::false::false::ω):=by delta AG;intros;kernel_rfl
theorem AKi:AG (true::false::true::true::false::false::true::[]):=by delta AG;intros;kernel_rfl
theorem AJA(ω:List Bool):AG (true::false::true::true::false::false::true::false::ω):=by delta AG;intros;kernel_rfl
theorem AH8(ω:List Bool):AG (true::false::true::true::false::false::true::true::ω):=by delta AG;intros;kernel_rfl
theorem AIl:AG (true::false::true::true::false::true::[]):=by delta AG;intros;kernel_rfl
theorem AJz(ω:List Bool):AG (true::false::true::true::false::true::false::ω):=by delta AG;intros;kernel_rfl
theorem AJl:AG (true::false::true::true::false::true::true::[]):=by delta AG;intros;kernel_rfl
theorem AKN(ω:List Bool):AG (true::false::true::true::false::true::true::false::ω):=by delta AG;intros;kernel_rfl
theorem AHt:AG (true::false::true::true::false::true::true::true::[]):=by delta AG;intros;kernel_rfl
theorem AH1(ω:List Bool):AG (true::false::true::true::false::true::true::true::false::ω):=by delta AG;intros;kernel_rfl
theorem AHW(ω:List Bool):AG (true::false::true::true::false::true::true::true::true::ω):=by delta AG;intros;kernel_rfl
theorem AJ1:AG (true::false::true::true::true::[]):=by delta AG;intros;kernel_rfl
theorem AIE:AG (true::false::true::true::true::false::[]):=by delta AG;intros;kernel_rfl
theorem AK2:AG (true::false::true::true::true::false::false::[]):=by delta AG;intros;kernel_rfl
theorem AGW(ω:List Bool):AG (true::false::true::true::true::false::false::false::ω):=by delta AG;intros;kernel_rfl
theorem AHY(ω:List Bool):AG (true::false::true::true::true::false::false::true::ω):=by delta AG;intros;kernel_rfl
theorem AG7:AG (true::false::true::true::true::false::true::[]):=by delta AG;intros;kernel_rfl
theorem AK4(ω:List Bool):AG (true::false::true::true::true::false::true::false::ω):=by delta AG;intros;kernel_rfl
theorem AGv:AG (true::false::true::true::true::false::true::true::[]):=by delta AG;intros;kernel_rfl
theorem AJ9(ω:List Bool):AG (true::false::true::true::true::false::true::true::false::ω):=by delta AG;intros;kernel_rfl
theorem AJv(ω:List Bool):AG (true::false::true::true::true::false::true::true::true::ω):=by delta AG;intros;kernel_rfl
theorem AHU:AG (true::false::true::true::true::true::[]):=by delta AG;intros;kernel_rfl
theorem AHQ(ω:List Bool):AG (true::false::true::true::true::true::false::ω):=by delta AG;intros;kernel_rfl
theorem AHN:AG (true::false::true::true::true::true::true::[]):=by delta AG;intros;kernel_rfl
theorem AF8(ω:List Bool):AG (true::false::true::true::true::true::true::false::ω):=by delta AG;intros;kernel_rfl
theorem AIy(ω:List Bool):AG (true::false::true::true::true::true::true::true::ω):=by delta AG;intros;kernel_rfl
theorem AGz:AG (true::true::[]):=by delta AG;intros;kernel_rfl
theorem AIh:AG (true::true::false::[]):=by delta AG;intros;kernel_rfl
theorem AKF:AG (true::true::false::false::[]):=by delta AG;intros;kernel_rfl
theorem AF7(ω:List Bool):AG (true::true::false::false::false::ω):=by delta AG;intros;kernel_rfl
theorem AGl:AG (true::true::false::false::true::[]):=by delta AG;intros;kernel_rfl
theorem AKR(ω:List Bool):AG (true::true::false::false::true::false::ω):=by delta AG;intros;kernel_rfl
theorem AGK:AG (true::true::false::false::true::true::[]):=by delta AG;intros;kernel_rfl
theorem AKs(ω:List Bool):AG (true::true::false::false::true::true::false::ω):=by delta AG;intros;kernel_rfl
theorem AIk(ω:List Bool):AG (true::true::false::false::true::true::true::ω):=by delta AG;intros;kernel_rfl
theorem AHC:AG (true::true::false::true::[]):=by delta AG;intros;kernel_rfl
theorem AIw(ω:List Bool):AG (true::true::false::true::false::ω):=by delta AG;intros;kernel_rfl
theorem AJm:AG (true::true::false::true::true::[]):=by delta AG;intros;kernel_rfl
theorem AGL(ω:List Bool):AG (true::true::false::true::true::false::ω):=by delta AG;intros;kernel_rfl
theorem AGf:AG (true::true::false::true::true::true::[]):=by delta AG;intros;kernel_rfl
theorem AF3(ω:List Bool):AG (true::true::false::true::true::true::false::ω):=by delta AG;intros;kernel_rfl
theorem AJI:AG (true::true::false::true::true::true::true::[]):=by delta AG;intros;kernel_rfl
theorem AKv(ω:List Bool):AG (true::true::false::true::true::true::true::false::ω):=by delta AG;intros;kernel_rfl
theorem AHu(ω:List Bool):AG (true::true::false::true::true::true::true::true::ω):=by delta AG;intros;kernel_rfl
theorem AKy:AG (true::true::true::[]):=by delta AG;intros;kernel_rfl
theorem AIo:AG (true::true::true::false::[]):=by delta AG;intros;kernel_rfl
theorem AHb:AG (true::true::true::false::false::[]):=by delta AG;intros;kernel_rfl
theorem AHD(ω:List Bool):AG (true::true::true::false::false::false::ω):=by delta AG;intros;kernel_rfl
theorem AIT:AG (true::true::true::false::false::true::[]):=by delta AG;intros;kernel_rfl
theorem AF0(ω:List Bool):AG (true::true::true::false::false::true::false::ω):=by delta AG;intros;kernel_rfl
theorem AFx(ω:List Bool):AG (true::true::true::false::false::true::true::ω):=by delta AG;intros;kernel_rfl
theorem AIQ:AG (true::true::true::false::true::[]):=by delta AG;intros;kernel_rfl
theorem AGZ(ω:List Bool):AG (true::true::true::false::true::false::ω):=by delta AG;intros;kernel_rfl
theorem AHM:AG (true::true::true::false::true::true::[]):=by delta AG;intros;kernel_rfl
theorem AJF(ω:List Bool):AG (true::true::true::false::true::true::false::ω):=by delta AG;intros;kernel_rfl
theorem AIW:AG (true::true::true::false::true::true::true::[]):=by delta AG;intros;kernel_rfl
theorem AJJ(ω:List Bool):AG (true::true::true::false::true::true::true::false::ω):=by delta AG;intros;kernel_rfl
theorem AKK(ω:List Bool):AG (true::true::true::false::true::true::true::true::ω):=by delta AG;intros;kernel_rfl
theorem AIO:AG (true::true::true::true::[]):=by delta AG;intros;kernel_rfl
theorem AJ7:AG (true::true::true::true::false::[]):=by delta AG;intros;kernel_rfl
theorem AGx:AG (true::true::true::true::false::false::[]):=by delta AG;intros;kernel_rfl
theorem AJR(ω:List Bool):AG (true::true::true::true::false::false::false::ω):=by delta AG;intros;kernel_rfl
theorem AJd(ω:List Bool):AG (true::true::true::true::false::false::true::ω):=by delta AG;intros;kernel_rfl
theorem AIg:AG (true::true::true::true::false::true::[]):=by delta AG;intros;kernel_rfl
theorem AIn(ω:List Bool):AG (true::true::true::true::false::true::false::ω):=by delta AG;intros;kernel_rfl
theorem ALE:AG (true::true::true::true::false::true::true::[]):=by delta AG;intros;kernel_rfl
theorem AIr(ω:List Bool):AG (true::true::true::true::false::true::true::false::ω):=by delta AG;intros;kernel_rfl
theorem ALB(ω:List Bool):AG (true::true::true::true::false::true::true::true::ω):=by delta AG;intros;kernel_rfl
theorem AGM:AG (true::true::true::true::true::[]):=by delta AG;intros;kernel_rfl
theorem AKS(ω:List Bool):AG (true::true::true::true::true::false::ω):=by delta AG;intros;kernel_rfl
theorem AG0:AG (true::true::true::true::true::true::[]):=by delta AG;intros;kernel_rfl
theorem AK5(ω:List Bool):AG (true::true::true::true::true::true::false::ω):=by delta AG;intros;kernel_rfl
theorem AGH(ω:List Bool):AG (true::true::true::true::true::true::true::ω):=by delta AG;intros;kernel_rfl
theorem b51(cj:ACC→Option FZ)(jk:ACP→Option Kk)(dD:ACJ→Option FX)(jO:ABi→Option GU)(jW:ACh→Option Ja)(n:Nat)(ω:List Bool)(v:i51.V):DP ⟨T,QA [(101,⟨fg,wG,fg.un cj⟩),(102,⟨kh,yc,kh.un jk⟩),(103,⟨fF,wy,fF.un dD⟩),(104,⟨aP,tw,aP.un jO⟩),(105,⟨i105,zF,i105.un jW⟩)],CO [(1,[0,1]),(5,[0,1,2,3,4,5,6,7,8,9,11,13,14,15,16,17,18]),(9,[0,1,2,3,4,5,6,7,8,9,11,12,13,14,16,17,18]),(13,[0,1,2,3,4,5,6,7,8,9,11,12,13,14,15,17,18]),(17,[0,1,2,3,4,5,6,7,8,9,11,12,13,14,15,16,18])]⟩ c51 Tryz.f51 (Lr 0 L51 n) ω v=i51.un (fun(p0:ABS)=>
 if 0+p0.1.length≤Go.M.Ds then(
 if 0+p0.2.2.2.1.length≤Go.M.Ds then(
 (cj (p0.2.2.2.2.1,p0.2.2.2.2.2.1,())).bind fun u2=>
 if 0+p0.2.2.2.2.2.2.2.2.2.1.length≤Go.M.Ds then(
 (Cc n) 0 p0.1 p0.2.1 p0.2.2.1 p0.2.2.2.1 p0.2.2.2.2.1 p0.2.2.2.2.2.1 p0.2.2.2.2.2.2.1 p0.2.2.2.2.2.2.2.1 p0.2.2.2.2.2.2.2.2.1 p0.2.2.2.2.2.2.2.2.2.1 p0.2.2.2.2.2.2.2.2.2.2.1 0 0 false [] [] [] [] [] [] [] [] p0.2.1 u2.1.1.2.1 p0.2.2.2.2.2.2.2.2.2.2.1 p0.1 [] p0.2.2.2.1 u2.2.1 [] [] [] p0.2.2.2.2.2.2.2.2.2.1)else none)else none)else none) v:=(AF AWb (AF ATv (AF AVc (AF AVm (AF AWD (AF ATk AV9 (AF AWC AU4 APF)) (AF ARe APh (AF AQa APU (AF AQC APW (AF AOd ANK AO2))))) (AF ARW (AF AQp (AF AQB AN5 AQD) (AF APM APk (AF AN2 APY (AF ARn AQ8 ARc)))) (AF AQj AQY (AF ANm AMf (AF APw ASA ARZ))))) (AF AQh (AF AQ6 (AF AQK ANI (AF APl AOt ARI)) (AF AO9 ANX (AF ARp APX (AF ANB AP6 (AF APf ANb (AF AND ANL AN7)))))) (AF ARs (AF ARt (AF AOS ASK AR1) (AF AM8 APJ (AF AP0 ARi (AF AOv AM3 (AF AQP ARf ARF))))) (AF AP3 ASb (AF AQf AQ9 (AF ANz AQv (AF AMt ASa ASZ))))))) (AF ASG (AF ARY (AF ANk AOx (AF ANd AOu (AF AOP ANy (AF AM5 ANP APH)))) (AF APR ANZ (AF AQu ASL (AF APy AQJ (AF AQO ASH (AF AP9 AKu AHg)))))) (AF AHG (AF AJM (AF AKa AKC (AF AKH AJs (AF AKT AGb AKn))) (AF AHj AFw (AF AFz ALL (AF AHc AGD (AF AIv AKO AG2))))) (AF AIx (AF AJh (AF AKd AKx (AF AJL ALJ AJZ)) (AF AKJ AJy (AF AGa AJp (AF AID ALD AKL)))) (AF AGB (AF AFv (AF AI4 AHX AKe) (AF AHv AHy (AF AHi AIA AH5))) (AF AI6 AIL (AF AGQ AGP AHB))))))) (AF AJ4 (AF AGE (AF AHO (AF AK0 (AF AJe (AF AHF AKB AHq) (AF AHZ AGN (AF AIf AJW (AF AIJ AH9 AGh)))) (AF AKE AHR (AF AHf ALM (AF AGR AGr AKj)))) (AF AIK (AF AH_ (AF AGt AF2 AHs) (AF AJH AIU (AF AJQ AJn (AF AKz AKw (AF AGn AG3 AJb))))) (AF AJk AKM (AF AGI AGC (AF AIR AHw (AF AIp AG6 AIB)))))) (AF AGX (AF AKh (AF AGG AJG (AF AGJ AId (AF AJa AIi AK9))) (AF AGi AJ0 (AF AKm AJX (AF AGF AGy (AF AIa AHH AKI))))) (AF AIF (AF AJu (AF AKG AIS (AF AKi AJA AH8)) (AF AIl AJz (AF AJl AKN (AF AHt AH1 AHW)))) (AF AJ1 (AF AIE (AF AK2 AGW AHY) (AF AG7 AK4 (AF AGv AJ9 AJv))) (AF AHU AHQ (AF AHN AF8 AIy)))))) (AF AGz (AF AIh (AF AKF AF7 (AF AGl AKR (AF AGK AKs AIk))) (AF AHC AIw (AF AJm AGL (AF AGf AF3 (AF AJI AKv AHu))))) (AF AKy (AF AIo (AF AHb AHD (AF AIT AF0 AFx)) (AF AIQ AGZ (AF AHM AJF (AF AIW AJJ AKK)))) (AF AIO (AF AJ7 (AF AGx AJR AJd) (AF AIg AIn (AF ALE AIr ALB))) (AF AGM AKS (AF AG0 AK5 AGH))))))) ω cj jk dD jO jW n v
theorem e51(n:Nat)(ω:List Bool)(v:i51.V):DP C51 c51 Tryz.f51 (Lr 0 L51 n) ω v=i51.un (QL (Cc n) (Cs n) (CY n) (CW n)) v:=b51 F6 El FQ EL CS n ω v
def s51:SQ:=mk Tryz.func51 i51 o51 Og [ABd,ACO,AA0,ACV,AI2] [(1,[0,1]),(5,[0,1,2,3,4,5,6,7,8,9,11,13,14,15,16,17,18]),(9,[0,1,2,3,4,5,6,7,8,9,11,12,13,14,16,17,18]),(13,[0,1,2,3,4,5,6,7,8,9,11,12,13,14,15,17,18]),(17,[0,1,2,3,4,5,6,7,8,9,11,12,13,14,15,16,18])] L51 (hJ:= .cons (fun _=>rfl) AVA (.cons (fun _=>rfl) AUh (.cons (fun _=>rfl) API (.cons (fun _=>rfl) ASE (.nil))))) (he:=e51 Ae)
def AV6:SQ:=mk Tryz.func215 Fg dH Nh [Xd] [] [⟨3,⟨[(0,BJ),(3,nE),(4,BJ)],qg⟩,Hw⟩]
abbrev xY:BX:=AMV
abbrev AOe:BX:=ALc
def AVP:QP:=⟨xY,AOe,(xY.un O5)⟩
def AbB:Z9:=⟨T,QA (SP.l [s82,ABd,ACR]),CO [(6,[0,1,2])]⟩
def AMp:List (Lp AOe):=[]
theorem AZs(g82:ABO→List Int→Option hO)(cj:ACC→Option FZ)(ATS:ABO→ACC→Option Rl)(n:Nat)(ω:List Bool)(v:xY.V):DP ⟨T,QA [(82,⟨i82,o82,i82.un g82⟩),(101,⟨fg,wG,fg.un cj⟩),(182,⟨i182,AVg,i182.un ATS⟩)],CO [(6,[0,1,2])]⟩ AVP Tryz.f214 (Lr 0 AMp n) ω v=xY.un (fun(p0:ABO) (p1:ACC) (p2:AAH)=>
 (ATS (p0.1,p0.2.1,()) (p1.1,p1.2.1,())).bind fun u1=>
 cond (!u1.1.1)
  (some (((((),0,()),0,false,()),()),([],())))
 ((cj (p1.1,p1.2.1,())).bind fun u2=>
 (g82 (p0.1,p0.2.1,()) p2).bind fun u3=>
 cond (!u3.1.1)
  (some (((((),u2.1.1.2.1,()),0,false,()),()),(u2.2.1,())))
 (cond (((p1.1.length:Int)==30))
  (some (((((),u2.1.1.2.1,()),0,false,()),()),(u2.2.1,())))
 (if 0+p2.length≤Go.M.Ds then(
 if u2.2.1.length+1≤Go.M.Ds then(
 let x5:AAk:=u2.2.1++[(p2,false,0,())]
 some (((((),u2.1.1.2.1,()),(x5.length:Int),true,()),()),(x5,())))else none)else none)))) v:=by rcases ω with _|⟨_|_,_|⟨_|_,_|⟨_|_,_|⟨_|_,_|⟨_|_,_⟩⟩⟩⟩⟩<;>kernel_rfl
theorem AaH(n:Nat)(ω:List Bool)(v:xY.V):DP AbB AVP Tryz.f214 (Lr 0 AMp n) ω v=xY.un (O5) v:=AZs FK F6 MA n ω v
def AaM:SQ:=mk Tryz.func214 xY AOe O5 [s82,ABd,ACR] [(6,[0,1,2])] AMp (hJ:= .nil) (he:=AaH Ae)
def AZF:SQ:=mk Tryz.func131 bn ⟨[(0,.Mh [.inr [.ref 0,.v tI,.ref 1,.ref 2,.ref 8,.v tI,.ref 9,.ref 10,.ref 6,.ref 7,.v .bool],.inl (.v tI)])],[Df,V3,Df,PK,PK,PK,PQ,Ls,Mp,TT,SV]⟩ Vv [AaM,AV6] [(3,[0,1,2,3,4,5,6,7,8,9,10])] [] (he:=fun ω v=>by rcases ω with _|⟨_|_,_|⟨_|_,_⟩⟩<;>kernel_rfl)
def AQZ:SQ:=mk Tryz.func216 wq Cr K7 [Xd] [] []
abbrev ym:BX:=AMB
abbrev ARP:BX:=AMA
def AWY:QP:=⟨ym,ARP,(ym.un K8)⟩
def Aaw:Z9:=⟨T,QA (SP.l [AA0,AE2]),CO []⟩
def ARx:List (Lp ARP):=[]
theorem AXr(dD:ACJ→Option FX)(AOC:ABO→ACJ→Option MV)(n:Nat)(ω:List Bool)(v:ym.V):DP ⟨T,QA [(103,⟨fF,wy,fF.un dD⟩),(183,⟨i183,AVV,i183.un AOC⟩)],CO []⟩ AWY Tryz.f217 (Lr 0 ARx n) ω v=ym.un (fun(p0:ABO) (p1:ACJ) (p2:ABs)=>
 (AOC (p0.1,p0.2.1,()) (p1.1,p1.2.1,())).bind fun u1=>
 cond (!u1.1.1)
  (some ((((0,(),()),0,false,()),()),([],())))
 ((dD (p1.1,p1.2.1,())).bind fun u2=>
 if u2.2.1.length+1≤Go.M.Ds then(
 let x3:ACH:=u2.2.1++[(p2,[],false,())]
 (AOC (p0.1,p0.2.1,()) (u2.1.1.1,x3,())).bind fun u4=>
 cond (!u4.1.1)
  ((dD (p1.1,p1.2.1,())).bind fun u5=>
  some ((((u5.1.1.1,(),()),0,false,()),()),(u5.2.1,())))
 (some ((((u2.1.1.1,(),()),(x3.length:Int),true,()),()),(x3,()))))else none)) v:=by rcases ω with _|⟨_|_,_|⟨_|_,_⟩⟩<;>kernel_rfl
theorem Aa9(n:Nat)(ω:List Bool)(v:ym.V):DP Aaw AWY Tryz.f217 (Lr 0 ARx n) ω v=ym.un (K8) v:=AXr FQ HW n ω v
def AZ7:SQ:=mk Tryz.func217 ym ARP K8 [AA0,AE2] [] ARx (hJ:= .nil) (he:=Aa9 Ae)
abbrev xe:BX:=ln
abbrev o71:BX:=Fg
def s71:SQ:=mk Tryz.func71 xe o71 EX [] [] []
def AZk:SQ:=mk Tryz.func132 bn ⟨[(0,.Mh [.inr [.ref 0,.v tI,.ref 1,.ref 2,.ref 3,.v tI,.ref 4,.ref 5,.ref 6,.ref 8,.v .bool],.inl (.v tI)])],[Df,V3,Df,Mp,TT,SV,PQ,PK,Ls]⟩ Xo [s71,AQZ,AZ7] [(3,[0,1,2,3,4,5,6,7,8,9,10]),(7,[0,1,2,3,4,5,6,7,8,9,10]),(11,[0,1,2,3,4,5,6,7,8,9,10,11,12,13,14,15,16,17,18]),(18,[0,1,2,3,4,5,6,7,8,9,10,11,12,13,14,15,16,17,18,19])] [⟨9,⟨[(2,fp),(4,eL),(9,mW),(10,BJ)],[Df,V3,Df,Mp,TT,SV,PQ,Ls,rE,ua,Ft,Z2,Ft,TK,Zy,ZO,Zb,WT,AUX]⟩,LL⟩,⟨16,⟨[(2,fp),(4,eL),(9,mW),(11,.c (.ref 19)),(12,xP0),(13,BJ)],[Df,V3,Df,Mp,TT,SV,PQ,Ls,rE,ua,Ft,Z2,Ft,TK,Zy,ZO,Zb,WT,AUX,WT]⟩,J9⟩] (he:=fun ω v=>by rcases ω with _|⟨_|_,_|⟨_|_,_|⟨_|_,_⟩⟩⟩<;>kernel_rfl)
def yA:SQ:=mk Tryz.func218 wq Fg Hb [Xd,mK] [] []
def AZl:SQ:=mk Tryz.func277 AE5 Cr VZ [oO] [(2,[0,1])] []
def AVl:SQ:=mk Tryz.func219 AE5 sY PR [ACO,zH,AGw,AZl] [] []
def AY0:SQ:=mk Tryz.func133 bn rN Tn [s69,s71,Xd,mK,AQZ,yA,AVl] [(9,[0,1,2,3,4,5,6,7,8,9,10,11]),(11,[0,1,2,3,4,5,6,7,8,9,10,11,12])] [] (he:=fun ω v=>by rcases ω with _|⟨_|_,_|⟨_|_,_⟩⟩<;>kernel_rfl)
def AT5:SQ:=mk Tryz.func305 AMU AME Qa [] [] []
def ARy:SQ:=mk Tryz.func284 ⟨[(0,qM),(1,.row Y1)],[]⟩ vG Qd [AT5] [(6,[0,1]),(7,[0]),(9,[0,1])] [⟨4,⟨[(0,qM),(3,KA),(5,xI),(6,xP0),(7,BJ)],[ABQ,Mn]⟩,JI⟩]
def AT9:SQ:=mk Tryz.func237 gj sY Mq [ACO,Xd,zH,ARy] [(3,[0,1]),(8,[0,1,2,3,5,6])] [⟨5,AMQ,JY⟩] (he:=fun ω v=>by rcases ω with _|⟨_|_,_|⟨_|_,_⟩⟩<;>kernel_rfl)
def AWe:SQ:=mk Tryz.func220 lp sY OH [AT9] [] []
abbrev fY:BX:=AEr
abbrev wJ:BX:=wO
def ALK:SQ:=mk Tryz.func278 fY wJ HO [] [] [⟨2,⟨[(0,qM),(1,BJ),(4,KA),(6,BJ)],[ABQ]⟩,Pc⟩]
abbrev gP:BX:=ALV
abbrev vl:BX:=AMY
def AUS:SQ:=mk Tryz.func279 gP vl Fa [s82,AA0,Xd,AB0,AE2] [(6,[0,1,2,4]),(7,[0,1,2,4])] []
def AX1:SQ:=mk Tryz.func287 ln pW RW [Xd] [] []
abbrev gO:BX:=ALj
abbrev wx:BX:=wO
def APK:SQ:=mk Tryz.func231 gO wx Ek [ALK,AX1] [] []
abbrev fN:BX:=AL0
abbrev wK:BX:=vd
def AU6:SQ:=mk Tryz.func281 fN wK Hc [ACV,Xd,AB0,AB7] [(6,[0,1,2,3,4,6])] []
abbrev xu:BX:=⟨[(0,AR5),(1,BJ)],[Df,ZD,Df,Mp,TT,SV,PQ,Ls]⟩
abbrev AQt:BX:=⟨AMo,AVS⟩
def kb:QP:=⟨xu,AQt,(xu.un V2)⟩
def AB6:Z9:=⟨T,QA (SP.l [s69,s71,mK,oO,APK,ALK,AUS,AIH,AU6]),CO [(10,[0,1,2,3,4,5,6,7,8,9,10,11]),(18,[0,1,2,3,4,5,6,7,8,9,10,11,12,13,14,15,16,17,18,19])]⟩
def gp:List (Lp AQt):=[⟨3,⟨[(1,BJ),(2,fp),(4,eL),(5,mW),(6,BJ)],[Df,ZD,Df,Mp,mN,SV,PQ,Ls,rE,ua,Ft,Z2,Ft,TK,Zy,ZO,Zb,WT,yH]⟩,Be⟩,⟨8,⟨[(1,BJ),(2,fp),(4,eL),(5,mW),(6,BJ),(7,jr),(8,BJ),(46,.c (.ptr 18 2)),(47,BJ),(48,jr),(49,BJ),(50,xP0)],zY⟩,BA⟩,⟨15,⟨[(1,BJ),(2,fp),(4,eL),(5,mW),(6,BJ),(7,jr),(11,BJ),(46,.c (.ptr 18 2)),(47,BJ),(48,jr),(49,BJ),(50,xP0)],zY⟩,BC⟩,⟨21,⟨[(1,BJ),(2,fp),(4,eL),(5,mW),(13,BJ)],[Df,ZD,Df,Mp,mN,.sl 1 Y7,PQ,Ls,rE,ua,Ft,Z2,Ft,TK,Zy,ZO,Zb,WT,yH]⟩,Bh⟩,⟨25,⟨[(1,BJ),(2,fp),(4,eL),(5,mW),(13,BJ),(14,jr),(15,BJ)],[Df,ZD,Df,Mp,mN,.sl 1 Y7,PQ,Ls,rE,ua,Ft,Z2,Ft,TK,Zy,ZO,Zb,WT,yH,.mem [.v tI,.v tI,.sl true tI,.sl true Y1,.v .bool,.sl true (.sl tI)]]⟩,Ba⟩]
abbrev ka:BX:=⟨[(1,BJ),(2,fp),(4,eL),(5,mW),(6,BJ)],[Df,ZD,Df,Mp,mN,SV,PQ,Ls,rE,ua,Ft,Z2,Ft,TK,Zy,ZO,Zb,WT,yH]⟩
abbrev aI:BX:=⟨[(1,BJ),(2,fp),(4,eL),(5,mW),(6,BJ),(7,jr),(8,BJ),(46,.c (.ptr 18 2)),(47,BJ),(48,jr),(49,BJ),(50,xP0)],zY⟩
abbrev dZ:BX:=⟨[(1,BJ),(2,fp),(4,eL),(5,mW),(6,BJ),(7,jr),(11,BJ),(46,.c (.ptr 18 2)),(47,BJ),(48,jr),(49,BJ),(50,xP0)],zY⟩
abbrev dp:BX:=⟨[(1,BJ),(2,fp),(4,eL),(5,mW),(13,BJ)],[Df,ZD,Df,Mp,mN,.sl 1 Y7,PQ,Ls,rE,ua,Ft,Z2,Ft,TK,Zy,ZO,Zb,WT,yH]⟩
abbrev du:BX:=⟨[(1,BJ),(2,fp),(4,eL),(5,mW),(13,BJ),(14,jr),(15,BJ)],[Df,ZD,Df,Mp,mN,.sl 1 Y7,PQ,Ls,rE,ua,Ft,Z2,Ft,TK,Zy,ZO,Zb,WT,yH,.mem [.v tI,.v tI,.sl true tI,.sl true Y1,.v .bool,.sl true (.sl tI)]]⟩
theorem AQi(xJ:ACC→Int→Option Gy)(xK:Int→Int→Option Hl)(eM:List Int→Int→Option Gh)(gT:Int→Option Hm)(gG:ABi→Int→Option F4)(cX:AA_→Int→Option GY)(eI:ABO→ACJ→Int→Int→Option GG)(dz:Int→Option KE)(fh:ABO→ABi→Int→Int→Option Hg)(n:Nat)(v:ka.V)(ω:List Bool):G2 ⟨T,QA [(69,⟨yz,o69,yz.un xJ⟩),(71,⟨xe,o71,xe.un xK⟩),(180,⟨ga,u_,ga.un eM⟩),(186,⟨gR,vC,gR.un gT⟩),(231,⟨gO,wx,gO.un gG⟩),(278,⟨fY,wJ,fY.un cX⟩),(279,⟨gP,vl,gP.un eI⟩),(280,⟨gE,vL,gE.un dz⟩),(281,⟨fN,wK,fN.un fh⟩)],CO [(10,[0,1,2,3,4,5,6,7,8,9,10,11]),(18,[0,1,2,3,4,5,6,7,8,9,10,11,12,13,14,15,16,17,18,19])]⟩ kb Tryz.f221 (Lr 8 gp n) 3 ω (ka.st 207 v)=ka.un (fun(t1:Int) (t6:Int) (b0:AAH) (b1:AAQ) (b2:AAH) (b3:AAk) (b4:AAt) (b5:AAu) (b6:AA2) (b7:AAs) (Dd:Int) (Dt:Int) (CQ:Bool) (EJ:Int) (GC:Int) (DD:Bool) (HU:AAH) (GM:AAQ) (D2:AAH) (Gv:AAk) (Gz:AAt) (ER:AAu) (E8:AA2) (Fh:AAs) (Cg:AA_) (C5:AA_) (Cl:Int)=>
 cond ((decide (t6<(b4.length:Int))))
  (if(0:Int)≤t6∧t6<(b4.length:Int)then(
  (xJ (b3,Dt,()) ((b4.getD (t6.toNat) (0,[],())).1)).bind fun u3=>
  (eM u3.2.1 t1).bind fun u4=>
  cond (!u4.1.1)
   ((Be n) t1 (AX (t6+1)) b0 b1 b2 b3 b4 b5 b6 b7 Dd Dt CQ EJ GC DD HU GM D2 Gv Gz ER E8 Fh Cg C5 Cl)
  (let x5:Int:=(b4.getD (t6.toNat) (0,[],())).1
  cond (decide (Cl≥x5))
   ((Be n) t1 (AX (t6+1)) b0 b1 b2 b3 b4 b5 b6 b7 Dd Dt CQ EJ GC DD HU GM D2 Gv Gz ER E8 Fh Cg C5 Cl)
  ((BA n) t1 t6 1 Cl x5 (decide (Cl≥x5)) b0 b1 b2 b3 b4 b5 b6 b7 Dd Dt CQ EJ GC DD HU GM D2 Gv Gz ER E8 Fh Cg C5 Cl ((b4.getD (t6.toNat) (0,[],())).1) ((b4.getD (t6.toNat) (0,[],())).2.1))))else none)
 ((Bh n) t1 0 b0 b1 b2 b3 b4 b5 b6 b7 Dd Dt CQ EJ GC DD HU GM D2 Gv Gz ER E8 Fh Cg C5 Cl)) v:=by kernel_rfl
theorem AOq(n:Nat)(v:ka.V)(ω:List Bool):G2 AB6 kb Tryz.f221 (Lr 8 gp n) 3 ω (ka.st 207 v)=ka.un (MR (Be n) (BA n) (BC n) (Bh n) (Ba n)) v:=AQi Cd EX DI C0 Ek HO Fa HG Hc n v ω
def Bf(ω:List Bool):Prop:= ∀(xJ:ACC→Int→Option Gy) (xK:Int→Int→Option Hl) (eM:List Int→Int→Option Gh) (gT:Int→Option Hm) (gG:ABi→Int→Option F4) (cX:AA_→Int→Option GY) (eI:ABO→ACJ→Int→Int→Option GG) (dz:Int→Option KE) (fh:ABO→ABi→Int→Int→Option Hg) (n:Nat) (v:aI.V),G2 ⟨T,QA [(69,⟨yz,o69,yz.un xJ⟩),(71,⟨xe,o71,xe.un xK⟩),(180,⟨ga,u_,ga.un eM⟩),(186,⟨gR,vC,gR.un gT⟩),(231,⟨gO,wx,gO.un gG⟩),(278,⟨fY,wJ,fY.un cX⟩),(279,⟨gP,vl,gP.un eI⟩),(280,⟨gE,vL,gE.un dz⟩),(281,⟨fN,wK,fN.un fh⟩)],CO [(10,[0,1,2,3,4,5,6,7,8,9,10,11]),(18,[0,1,2,3,4,5,6,7,8,9,10,11,12,13,14,15,16,17,18,19])]⟩ kb Tryz.f221 (Lr 8 gp n) 8 ω (aI.st 207 v)=aI.un (fun(t1:Int) (t6:Int) (t8:Int) (t47:Int) (t49:Int) (t50:Bool) (b0:AAH) (b1:AAQ) (b2:AAH) (b3:AAk) (b4:AAt) (b5:AAu) (b6:AA2) (b7:AAs) (Dd:Int) (Dt:Int) (CQ:Bool) (EJ:Int) (GC:Int) (DD:Bool) (HU:AAH) (GM:AAQ) (D2:AAH) (Gv:AAk) (Gz:AAt) (ER:AAu) (E8:AA2) (Fh:AAs) (Cg:AA_) (C5:AA_) (Cl:Int) (DV:Int) (CV:ACH)=>
 cond ((decide (t8≤(CV.length:Int))))
  ((xK DV t8).bind fun u7=>
  (cX Cg u7.1.1).bind fun u8=>
  cond (!u8.1.1.2.1)
   ((BA n) t1 t6 (AX (t8+1)) t47 t49 t50 b0 b1 b2 b3 b4 b5 b6 b7 Dd Dt CQ EJ GC DD HU GM D2 Gv Gz ER E8 Fh Cg C5 Cl DV CV)
  (cond (u8.1.1.1.2.1 !=0)
   ((BA n) t1 t6 (AX (t8+1)) t47 t49 t50 b0 b1 b2 b3 b4 b5 b6 b7 Dd Dt CQ EJ GC DD HU GM D2 Gv Gz ER E8 Fh Cg C5 Cl DV CV)
  (if(0:Int)≤AX (t8-1)∧AX (t8-1)<(CV.length:Int)then(
  cond (((CV.getD ((AX (t8-1)).toNat) ([],[],false,())).2.2.1))
   ((BA n) t1 t6 (AX (t8+1)) t47 t49 t50 b0 b1 b2 b3 b4 b5 b6 b7 Dd Dt CQ EJ GC DD HU GM D2 Gv Gz ER E8 Fh Cg C5 Cl DV CV)
  ((eI (b0,Dd,()) (DV,CV,()) t8 t1).bind fun EW=>
  (BA n) t1 t6 (AX (t8+1)) t47 t49 t50 b0 b1 b2 b3 b4 b5 b6 b7 Dd Dt CQ EJ GC DD HU GM D2 Gv Gz ER E8 Fh Cg C5 Cl EW.1.1.1.1 EW.2.1))else none)))
 (if(0:Int)≤t6∧t6<(b4.length:Int)then(
 (BC n) t1 t6 0 t47 t49 t50 b0 b1 b2 b3 (b4.set (t6.toNat) (DV,CV,())) b5 b6 b7 Dd Dt CQ EJ GC DD HU GM D2 Gv Gz ER E8 Fh Cg C5 Cl DV CV)else none)) v
theorem AFL:Bf []:=by delta Bf;intros;kernel_rfl
theorem AFR:Bf (false::[]):=by delta Bf;intros;kernel_rfl
theorem AER:Bf (false::false::[]):=by delta Bf;intros;kernel_rfl
theorem ADs:Bf (false::false::false::[]):=by delta Bf;intros;kernel_rfl
theorem AEq(ω:List Bool):Bf (false::false::false::false::ω):=by delta Bf;intros;kernel_rfl
theorem ADd(ω:List Bool):Bf (false::false::false::true::ω):=by delta Bf;intros;kernel_rfl
theorem AEd(ω:List Bool):Bf (false::false::true::ω):=by delta Bf;intros;kernel_rfl
theorem AEC:Bf (false::true::[]):=by delta Bf;intros;kernel_rfl
theorem ADG:Bf (false::true::false::[]):=by delta Bf;intros;kernel_rfl
theorem AAn:Bf (false::true::false::false::[]):=by delta Bf;intros;kernel_rfl
theorem ABX(ω:List Bool):Bf (false::true::false::false::false::ω):=by delta Bf;intros;kernel_rfl
theorem ACN(ω:List Bool):Bf (false::true::false::false::true::ω):=by delta Bf;intros;kernel_rfl
theorem AAz:Bf (false::true::false::true::[]):=by delta Bf;intros;kernel_rfl
theorem ABE(ω:List Bool):Bf (false::true::false::true::false::ω):=by delta Bf;intros;kernel_rfl
theorem ACQ:Bf (false::true::false::true::true::[]):=by delta Bf;intros;kernel_rfl
theorem ABe(ω:List Bool):Bf (false::true::false::true::true::false::ω):=by delta Bf;intros;kernel_rfl
theorem ACB(ω:List Bool):Bf (false::true::false::true::true::true::ω):=by delta Bf;intros;kernel_rfl
theorem ABN:Bf (false::true::true::[]):=by delta Bf;intros;kernel_rfl
theorem ABV(ω:List Bool):Bf (false::true::true::false::ω):=by delta Bf;intros;kernel_rfl
theorem ABy:Bf (false::true::true::true::[]):=by delta Bf;intros;kernel_rfl
theorem ACS(ω:List Bool):Bf (false::true::true::true::false::ω):=by delta Bf;intros;kernel_rfl
theorem ABm(ω:List Bool):Bf (false::true::true::true::true::ω):=by delta Bf;intros;kernel_rfl
theorem ABH:Bf (true::[]):=by delta Bf;intros;kernel_rfl
theorem ABt(ω:List Bool):Bf (true::false::ω):=by delta Bf;intros;kernel_rfl
theorem ABB:Bf (true::true::[]):=by delta Bf;intros;kernel_rfl
theorem ABK(ω:List Bool):Bf (true::true::false::ω):=by delta Bf;intros;kernel_rfl
theorem ACK:Bf (true::true::true::[]):=by delta Bf;intros;kernel_rfl
theorem AAl(ω:List Bool):Bf (true::true::true::false::ω):=by delta Bf;intros;kernel_rfl
theorem AAy(ω:List Bool):Bf (true::true::true::true::ω):=by delta Bf;intros;kernel_rfl
theorem ANT(xJ:ACC→Int→Option Gy)(xK:Int→Int→Option Hl)(eM:List Int→Int→Option Gh)(gT:Int→Option Hm)(gG:ABi→Int→Option F4)(cX:AA_→Int→Option GY)(eI:ABO→ACJ→Int→Int→Option GG)(dz:Int→Option KE)(fh:ABO→ABi→Int→Int→Option Hg)(n:Nat)(v:aI.V)(ω:List Bool):G2 ⟨T,QA [(69,⟨yz,o69,yz.un xJ⟩),(71,⟨xe,o71,xe.un xK⟩),(180,⟨ga,u_,ga.un eM⟩),(186,⟨gR,vC,gR.un gT⟩),(231,⟨gO,wx,gO.un gG⟩),(278,⟨fY,wJ,fY.un cX⟩),(279,⟨gP,vl,gP.un eI⟩),(280,⟨gE,vL,gE.un dz⟩),(281,⟨fN,wK,fN.un fh⟩)],CO [(10,[0,1,2,3,4,5,6,7,8,9,10,11]),(18,[0,1,2,3,4,5,6,7,8,9,10,11,12,13,14,15,16,17,18,19])]⟩ kb Tryz.f221 (Lr 8 gp n) 8 ω (aI.st 207 v)=aI.un (fun(t1:Int) (t6:Int) (t8:Int) (t47:Int) (t49:Int) (t50:Bool) (b0:AAH) (b1:AAQ) (b2:AAH) (b3:AAk) (b4:AAt) (b5:AAu) (b6:AA2) (b7:AAs) (Dd:Int) (Dt:Int) (CQ:Bool) (EJ:Int) (GC:Int) (DD:Bool) (HU:AAH) (GM:AAQ) (D2:AAH) (Gv:AAk) (Gz:AAt) (ER:AAu) (E8:AA2) (Fh:AAs) (Cg:AA_) (C5:AA_) (Cl:Int) (DV:Int) (CV:ACH)=>
 cond ((decide (t8≤(CV.length:Int))))
  ((xK DV t8).bind fun u7=>
  (cX Cg u7.1.1).bind fun u8=>
  cond (!u8.1.1.2.1)
   ((BA n) t1 t6 (AX (t8+1)) t47 t49 t50 b0 b1 b2 b3 b4 b5 b6 b7 Dd Dt CQ EJ GC DD HU GM D2 Gv Gz ER E8 Fh Cg C5 Cl DV CV)
  (cond (u8.1.1.1.2.1 !=0)
   ((BA n) t1 t6 (AX (t8+1)) t47 t49 t50 b0 b1 b2 b3 b4 b5 b6 b7 Dd Dt CQ EJ GC DD HU GM D2 Gv Gz ER E8 Fh Cg C5 Cl DV CV)
  (if(0:Int)≤AX (t8-1)∧AX (t8-1)<(CV.length:Int)then(
  cond (((CV.getD ((AX (t8-1)).toNat) ([],[],false,())).2.2.1))
   ((BA n) t1 t6 (AX (t8+1)) t47 t49 t50 b0 b1 b2 b3 b4 b5 b6 b7 Dd Dt CQ EJ GC DD HU GM D2 Gv Gz ER E8 Fh Cg C5 Cl DV CV)
  ((eI (b0,Dd,()) (DV,CV,()) t8 t1).bind fun EW=>
  (BA n) t1 t6 (AX (t8+1)) t47 t49 t50 b0 b1 b2 b3 b4 b5 b6 b7 Dd Dt CQ EJ GC DD HU GM D2 Gv Gz ER E8 Fh Cg C5 Cl EW.1.1.1.1 EW.2.1))else none)))
 (if(0:Int)≤t6∧t6<(b4.length:Int)then(
 (BC n) t1 t6 0 t47 t49 t50 b0 b1 b2 b3 (b4.set (t6.toNat) (DV,CV,())) b5 b6 b7 Dd Dt CQ EJ GC DD HU GM D2 Gv Gz ER E8 Fh Cg C5 Cl DV CV)else none)) v:=(AF AFL (AF AFR (AF AER (AF ADs AEq ADd) AEd) (AF AEC (AF ADG (AF AAn ABX ACN) (AF AAz ABE (AF ACQ ABe ACB))) (AF ABN ABV (AF ABy ACS ABm)))) (AF ABH ABt (AF ABB ABK (AF ACK AAl AAy)))) ω xJ xK eM gT gG cX eI dz fh n v
theorem AQ2(n:Nat)(v:aI.V)(ω:List Bool):G2 AB6 kb Tryz.f221 (Lr 8 gp n) 8 ω (aI.st 207 v)=aI.un (MF (Be n) (BA n) (BC n) (Bh n) (Ba n)) v:=ANT Cd EX DI C0 Ek HO Fa HG Hc n v ω
theorem AHr(xJ:ACC→Int→Option Gy)(xK:Int→Int→Option Hl)(eM:List Int→Int→Option Gh)(gT:Int→Option Hm)(gG:ABi→Int→Option F4)(cX:AA_→Int→Option GY)(eI:ABO→ACJ→Int→Int→Option GG)(dz:Int→Option KE)(fh:ABO→ABi→Int→Int→Option Hg)(n:Nat)(v:dZ.V)(ω:List Bool):G2 ⟨T,QA [(69,⟨yz,o69,yz.un xJ⟩),(71,⟨xe,o71,xe.un xK⟩),(180,⟨ga,u_,ga.un eM⟩),(186,⟨gR,vC,gR.un gT⟩),(231,⟨gO,wx,gO.un gG⟩),(278,⟨fY,wJ,fY.un cX⟩),(279,⟨gP,vl,gP.un eI⟩),(280,⟨gE,vL,gE.un dz⟩),(281,⟨fN,wK,fN.un fh⟩)],CO [(10,[0,1,2,3,4,5,6,7,8,9,10,11]),(18,[0,1,2,3,4,5,6,7,8,9,10,11,12,13,14,15,16,17,18,19])]⟩ kb Tryz.f221 (Lr 8 gp n) 15 ω (dZ.st 207 v)=dZ.un (fun(t1:Int) (t6:Int) (t11:Int) (t47:Int) (t49:Int) (t50:Bool) (b0:AAH) (b1:AAQ) (b2:AAH) (b3:AAk) (b4:AAt) (b5:AAu) (b6:AA2) (b7:AAs) (Dd:Int) (Dt:Int) (CQ:Bool) (EJ:Int) (GC:Int) (DD:Bool) (HU:AAH) (GM:AAQ) (D2:AAH) (Gv:AAk) (Gz:AAt) (ER:AAu) (E8:AA2) (Fh:AAs) (Cg:AA_) (C5:AA_) (Cl:Int) (DV:Int) (CV:ACH)=>
 cond ((decide (t11<(b7.length:Int))))
  (if(0:Int)≤t11∧t11<(b7.length:Int)then(
  let x65:Int:=(b7.getD (t11.toNat) (0,[],false,())).1
  (gT x65).bind fun u66=>
  cond (u66.1.1==DV)
   ((dz x65).bind fun u67=>
   cond ((decide (u67.1.1≤(CV.length:Int))))
    ((dz x65).bind fun u69=>
    if(0:Int)≤AX (u69.1.1-1)∧AX (u69.1.1-1)<(CV.length:Int)then(
    cond (((CV.getD ((AX (u69.1.1-1)).toNat) ([],[],false,())).2.2.1))
     (if(0:Int)≤t11∧t11<(b7.length:Int)then(
     (BC n) t1 t6 (AX (t11+1)) t47 t49 t50 b0 b1 b2 b3 b4 b5 b6 (b7.set (t11.toNat) ((b7.getD (t11.toNat) (0,[],false,())).1,(b7.getD (t11.toNat) (0,[],false,())).2.1,true,())) Dd Dt CQ EJ GC DD HU GM D2 Gv Gz ER E8 Fh Cg C5 Cl DV CV)else none)
    ((BC n) t1 t6 (AX (t11+1)) t47 t49 t50 b0 b1 b2 b3 b4 b5 b6 b7 Dd Dt CQ EJ GC DD HU GM D2 Gv Gz ER E8 Fh Cg C5 Cl DV CV))else none)
   ((BC n) t1 t6 (AX (t11+1)) t47 t49 t50 b0 b1 b2 b3 b4 b5 b6 b7 Dd Dt CQ EJ GC DD HU GM D2 Gv Gz ER E8 Fh Cg C5 Cl DV CV))
  ((BC n) t1 t6 (AX (t11+1)) t47 t49 t50 b0 b1 b2 b3 b4 b5 b6 b7 Dd Dt CQ EJ GC DD HU GM D2 Gv Gz ER E8 Fh Cg C5 Cl DV CV))else none)
 ((Be n) t1 (AX (t6+1)) b0 b1 b2 b3 b4 b5 b6 b7 Dd Dt CQ EJ GC DD HU GM D2 Gv Gz ER E8 Fh Cg C5 Cl)) v:=by kernel_rfl
theorem AGY(n:Nat)(v:dZ.V)(ω:List Bool):G2 AB6 kb Tryz.f221 (Lr 8 gp n) 15 ω (dZ.st 207 v)=dZ.un (Kq (Be n) (BA n) (BC n) (Bh n) (Ba n)) v:=AHr Cd EX DI C0 Ek HO Fa HG Hc n v ω
theorem AFy(xJ:ACC→Int→Option Gy)(xK:Int→Int→Option Hl)(eM:List Int→Int→Option Gh)(gT:Int→Option Hm)(gG:ABi→Int→Option F4)(cX:AA_→Int→Option GY)(eI:ABO→ACJ→Int→Int→Option GG)(dz:Int→Option KE)(fh:ABO→ABi→Int→Int→Option Hg)(n:Nat)(v:dp.V)(ω:List Bool):G2 ⟨T,QA [(69,⟨yz,o69,yz.un xJ⟩),(71,⟨xe,o71,xe.un xK⟩),(180,⟨ga,u_,ga.un eM⟩),(186,⟨gR,vC,gR.un gT⟩),(231,⟨gO,wx,gO.un gG⟩),(278,⟨fY,wJ,fY.un cX⟩),(279,⟨gP,vl,gP.un eI⟩),(280,⟨gE,vL,gE.un dz⟩),(281,⟨fN,wK,fN.un fh⟩)],CO [(10,[0,1,2,3,4,5,6,7,8,9,10,11]),(18,[0,1,2,3,4,5,6,7,8,9,10,11,12,13,14,15,16,17,18,19])]⟩ kb Tryz.f221 (Lr 8 gp n) 21 ω (dp.st 207 v)=dp.un (fun(t1:Int) (t13:Int) (b0:AAH) (b1:AAQ) (b2:AAH) (b3:AAk) (b4:AAt) (b5:AAu) (b6:AA2) (b7:AAs) (Dd:Int) (Dt:Int) (CQ:Bool) (EJ:Int) (GC:Int) (DD:Bool) (HU:AAH) (GM:AAQ) (D2:AAH) (Gv:AAk) (Gz:AAt) (ER:AAu) (E8:AA2) (Fh:AAs) (Cg:AA_) (C5:AA_) (Cl:Int)=>
 cond ((decide (t13<(b5.length:Int))))
  (if(0:Int)≤t13∧t13<(b5.length:Int)then(
  (Ba n) t1 t13 1 b0 b1 b2 b3 b4 b5 b6 b7 Dd Dt CQ EJ GC DD HU GM D2 Gv Gz ER E8 Fh Cg C5 Cl ((b5.getD (t13.toNat) (0,0,[],[],false,[],())).1) ((b5.getD (t13.toNat) (0,0,[],[],false,[],())).2.1) ((b5.getD (t13.toNat) (0,0,[],[],false,[],())).2.2.1) ((b5.getD (t13.toNat) (0,0,[],[],false,[],())).2.2.2.1) ((b5.getD (t13.toNat) (0,0,[],[],false,[],())).2.2.2.2.1) ((b5.getD (t13.toNat) (0,0,[],[],false,[],())).2.2.2.2.2.1))else none)
 (some ((((),Dd,(),(),(),Dt,(),(),(),(),CQ,()),()),(b0,b1,b2,b3,b4,b5,b6,b7,())))) v:=by kernel_rfl
theorem AF_(n:Nat)(v:dp.V)(ω:List Bool):G2 AB6 kb Tryz.f221 (Lr 8 gp n) 21 ω (dp.st 207 v)=dp.un (Kp (Be n) (BA n) (BC n) (Bh n) (Ba n)) v:=AFy Cd EX DI C0 Ek HO Fa HG Hc n v ω
theorem AJB(xJ:ACC→Int→Option Gy)(xK:Int→Int→Option Hl)(eM:List Int→Int→Option Gh)(gT:Int→Option Hm)(gG:ABi→Int→Option F4)(cX:AA_→Int→Option GY)(eI:ABO→ACJ→Int→Int→Option GG)(dz:Int→Option KE)(fh:ABO→ABi→Int→Int→Option Hg)(n:Nat)(v:du.V)(ω:List Bool):G2 ⟨T,QA [(69,⟨yz,o69,yz.un xJ⟩),(71,⟨xe,o71,xe.un xK⟩),(180,⟨ga,u_,ga.un eM⟩),(186,⟨gR,vC,gR.un gT⟩),(231,⟨gO,wx,gO.un gG⟩),(278,⟨fY,wJ,fY.un cX⟩),(279,⟨gP,vl,gP.un eI⟩),(280,⟨gE,vL,gE.un dz⟩),(281,⟨fN,wK,fN.un fh⟩)],CO [(10,[0,1,2,3,4,5,6,7,8,9,10,11]),(18,[0,1,2,3,4,5,6,7,8,9,10,11,12,13,14,15,16,17,18,19])]⟩ kb Tryz.f221 (Lr 8 gp n) 25 ω (du.st 207 v)=du.un (fun(t1:Int) (t13:Int) (t15:Int) (b0:AAH) (b1:AAQ) (b2:AAH) (b3:AAk) (b4:AAt) (b5:AAu) (b6:AA2) (b7:AAs) (Dd:Int) (Dt:Int) (CQ:Bool) (EJ:Int) (GC:Int) (DD:Bool) (HU:AAH) (GM:AAQ) (D2:AAH) (Gv:AAk) (Gz:AAt) (ER:AAu) (E8:AA2) (Fh:AAs) (Cg:AA_) (C5:AA_) (Cl:Int) (DV:Int) (CV:Int) (Ud:AAH) (Tx:AA_) (UF:Bool) (UQ:List AAH)=>
 if(0:Int)≤t13∧t13<(b5.length:Int)then(
 cond (decide (t15≤(((b5.getD (t13.toNat) (0,0,[],[],false,[],())).2.2.2.2.2.1).length:Int)))
  ((xJ (b3,Dt,()) CV).bind fun u74=>
  (eM u74.2.1 t1).bind fun u75=>
  cond (u75.1.1)
   ((gG (DV,CV,Ud,Tx,UF,UQ,()) t15).bind fun u76=>
   (cX Cg u76.1.1.1.1).bind fun u77=>
   cond (u77.1.1.2.1)
    (cond (((u77.1.1.1.1==u76.1.1.1.1)&&((u77.1.1.1.2.1==u76.1.1.1.2.1)&&((u77.1.1.1.2.2.1==u76.1.1.1.2.2.1)&&((u77.1.1.1.2.2.2.1==u76.1.1.1.2.2.2.1)&&true)))))
     ((fh (b0,Dd,()) (DV,CV,Ud,Tx,UF,UQ,()) t15 t1).bind fun u79=>
     (Ba n) t1 t13 (AX (t15+1)) b0 b1 b2 b3 b4 b5 b6 b7 Dd Dt CQ EJ GC DD HU GM D2 Gv Gz ER E8 Fh Cg C5 Cl u79.1.1.1.1 u79.1.1.1.2.1 u79.2.1 u79.2.2.1 u79.1.1.1.2.2.2.2.1 u79.2.2.2.1)
    ((Ba n) t1 t13 (AX (t15+1)) b0 b1 b2 b3 b4 b5 b6 b7 Dd Dt CQ EJ GC DD HU GM D2 Gv Gz ER E8 Fh Cg C5 Cl DV CV Ud Tx UF UQ))
   ((Ba n) t1 t13 (AX (t15+1)) b0 b1 b2 b3 b4 b5 b6 b7 Dd Dt CQ EJ GC DD HU GM D2 Gv Gz ER E8 Fh Cg C5 Cl DV CV Ud Tx UF UQ))
  (if(0:Int)≤t13∧t13<(b5.length:Int)then(
  (Bh n) t1 (AX (t13+1)) b0 b1 b2 b3 b4 (b5.set (t13.toNat) (DV,CV,Ud,Tx,UF,UQ,())) b6 b7 Dd Dt CQ EJ GC DD HU GM D2 Gv Gz ER E8 Fh Cg C5 Cl)else none))
 (if(0:Int)≤t13∧t13<(b5.length:Int)then(
 (Bh n) t1 (AX (t13+1)) b0 b1 b2 b3 b4 (b5.set (t13.toNat) (DV,CV,Ud,Tx,UF,UQ,())) b6 b7 Dd Dt CQ EJ GC DD HU GM D2 Gv Gz ER E8 Fh Cg C5 Cl)else none))else none) v:=by kernel_rfl
theorem AIV(n:Nat)(v:du.V)(ω:List Bool):G2 AB6 kb Tryz.f221 (Lr 8 gp n) 25 ω (du.st 207 v)=du.un (IF (Be n) (BA n) (BC n) (Bh n) (Ba n)) v:=AJB Cd EX DI C0 Ek HO Fa HG Hc n v ω
theorem AYG(xJ:ACC→Int→Option Gy)(xK:Int→Int→Option Hl)(eM:List Int→Int→Option Gh)(gT:Int→Option Hm)(gG:ABi→Int→Option F4)(cX:AA_→Int→Option GY)(eI:ABO→ACJ→Int→Int→Option GG)(dz:Int→Option KE)(fh:ABO→ABi→Int→Int→Option Hg)(n:Nat)(ω:List Bool)(v:xu.V):DP ⟨T,QA [(69,⟨yz,o69,yz.un xJ⟩),(71,⟨xe,o71,xe.un xK⟩),(180,⟨ga,u_,ga.un eM⟩),(186,⟨gR,vC,gR.un gT⟩),(231,⟨gO,wx,gO.un gG⟩),(278,⟨fY,wJ,fY.un cX⟩),(279,⟨gP,vl,gP.un eI⟩),(280,⟨gE,vL,gE.un dz⟩),(281,⟨fN,wK,fN.un fh⟩)],CO [(10,[0,1,2,3,4,5,6,7,8,9,10,11]),(18,[0,1,2,3,4,5,6,7,8,9,10,11,12,13,14,15,16,17,18,19])]⟩ kb Tryz.f221 (Lr 8 gp n) ω v=xu.un (fun(CP:Int) (CT:Int) (BQ:Bool) (p1:Int) (b0:AAH) (b1:AAQ) (b2:AAH) (b3:AAk) (b4:AAt) (b5:AAu) (b6:AA2) (b7:AAs)=>
 if(0:Int)≤p1∧p1<(b1.length:Int)then(
 (Be n) p1 0 b0 b1 b2 b3 b4 b5 b6 b7 CP CT BQ 0 0 false [] [] [] [] [] [] [] [] ((b1.getD (p1.toNat) ([],[],0,())).1) ((b1.getD (p1.toNat) ([],[],0,())).2.1) ((b1.getD (p1.toNat) ([],[],0,())).2.2.1))else none) v:=by kernel_rfl
theorem AXq(n:Nat)(ω:List Bool)(v:xu.V):DP AB6 kb Tryz.f221 (Lr 8 gp n) ω v=xu.un (QN (Be n) (BA n) (BC n) (Bh n) (Ba n)) v:=AYG Cd EX DI C0 Ek HO Fa HG Hc n ω v
def AXY:SQ:=mk Tryz.func221 xu AQt V2 [s69,s71,mK,oO,APK,ALK,AUS,AIH,AU6] [(10,[0,1,2,3,4,5,6,7,8,9,10,11]),(18,[0,1,2,3,4,5,6,7,8,9,10,11,12,13,14,15,16,17,18,19])] gp (hJ:= .cons (fun _=>rfl) AOq (.cons (fun _=>rfl) AQ2 (.cons (fun _=>rfl) AGY (.cons (fun _=>rfl) AF_ (.cons (fun _=>rfl) AIV (.nil)))))) (he:=AXq Ae)
def AYR:SQ:=mk Tryz.func134 bn ALw Ve [yA,AWe,AXY] [] []
def AD7:SQ:=mk Tryz.func160 ADO dH Iq [mK] [] [⟨3,⟨[(0,aN),(1,aN),(5,nE),(6,BJ)],qg⟩,N3⟩]
def AbN:SQ:=mk Tryz.func222 AMR AMY NQ [AA0,AD7,AE2] [(8,[0,1,2])] [⟨5,⟨[(2,BJ),(6,KA),(8,xP8),(9,BJ)],AL1⟩,Hi⟩] (hJ:= .cons (fun _=>rfl) (fun n v ω=>by rcases ω with _|⟨_|_,_⟩<;>kernel_rfl) (.nil))
def AX0:SQ:=mk Tryz.func223 AL4 vd P9 [ACV,AD7,AB7] [(7,[0,1,2,3,4,5,6])] [⟨5,⟨[(2,BJ),(6,KA),(8,yD),(9,BJ)],ALx⟩,JH⟩] (hJ:= .cons (fun _=>rfl) (fun n v ω=>by rcases ω with _|⟨_|_,_⟩<;>kernel_rfl) (.nil))
def AYh:SQ:=mk Tryz.func135 bn ⟨AVj,[Df,V3,PK,Mp,TT,SV,PQ,Ls,Df]⟩ Vg [s82,AB0,yA,AbN,AX0] [(9,[0,1,2,3,5,6,7,8,9,10,11,12,13,14,15,16,17,18,19]),(13,[0,1,2,3,4,6,7,8,9,10,11,12,13,14,15,16,17,18,19])] [⟨7,⟨[(2,fp),(3,bw),(4,.c (.ptr 11 0)),(7,BJ)],AMZ⟩,J6⟩,⟨11,⟨[(2,fp),(3,bw),(4,.c (.ptr 11 0)),(8,BJ)],AMZ⟩,I9⟩]
def AZT:SQ:=mk Tryz.func282 lD Cr YF [s82,y9] [] []
def AX_:SQ:=mk Tryz.func283 ⟨[(0,tv)],[]⟩ vG Yd [ARy] [] [⟨3,⟨[(0,tv),(3,nE),(4,BJ)],[Mn]⟩,Iy⟩,⟨6,⟨[(0,tv),(3,nE),(4,BJ),(5,BJ)],[Mn]⟩,I8⟩]
def AXS:SQ:=mk Tryz.func224 ALY ⟨ATP,[ZD,Mn,Mn]⟩ dW [vV,zH,mK,AZT,AX_] [] [⟨6,⟨[(1,nE),(2,aN),(4,BJ),(10,Zq),(12,yD),(13,.c (.ref 7)),(14,BJ)],ALy⟩,O3⟩,⟨11,⟨[(4,BJ),(10,Zq),(12,yD),(13,.c (.ref 7)),(15,BJ)],ALy⟩,Mz⟩]
def AYd:SQ:=mk Tryz.func136 bn ⟨AVj,[Df,ZD,PK,Mp,TT,SV,PQ,Ls,Df]⟩ V1 [AD7,mK,AXS,AFC] [(3,[0,2,3,4,5,6,7,8,9,10])] [] (he:=fun ω v=>by rcases ω with _|⟨_|_,_|⟨_|_,_⟩⟩<;>kernel_rfl)
def AYD:SQ:=mk Tryz.func226 ln wb gv [] [] []
def AZH:SQ:=mk Tryz.func137 ADD ⟨[(0,.Mh [.inr [.ref 0,.v tI,.ref 1,.ref 2,.ref 3,.v tI,.ref 4,.ref 8,.ref 6,.ref 7,.v .bool],.inl (.v tI)])],[Df,V3,Df,Mp,TT,PK,PQ,Ls,SV]⟩ Vw [AHK,AYD] [] []
def AbE:SQ:=mk Tryz.func227 gj sY RE [ACO,Xd,zH,AWe,AFC] [] []
def Aan:SQ:=mk Tryz.func229 gj vG To [zH,oO] [] [⟨3,⟨[(1,BJ),(2,KA),(5,xI),(6,BJ)],[AMs,Mn]⟩,Iu⟩]
def AYc:SQ:=mk Tryz.func228 AMX vd Tb [ACV,AB0,AB7,oO,ARy] [(8,[0,1,2,3,4,5,6,7,8,9]),(9,[0,1,2,3,4,5,7,8,9])] [⟨6,⟨[(3,qM),(4,KA),(5,Zq),(8,xP8),(10,.c (.ptr 6 0)),(11,BJ)],[ud,zK,AVx,Ft,Mn,pw,AVa,Ft,Mn,pw]⟩,Lg⟩]
def AXP:SQ:=mk Tryz.func138 bn rN Vy [s69,mK,yA,AbE,AYc,Aan] [(7,[0,1,2,3,4,5,6,7,8,9,10,11]),(9,[0,1,2,3,4,5,6,7,8,9,10,11,12]),(10,[0,1,2,3,4,5,6,7,8,9,10,11,12,13,14,15])] [] (he:=fun ω v=>by rcases ω with _|⟨_|_,_|⟨_|_,_|⟨_|_,_⟩⟩⟩<;>kernel_rfl)
def AVw:SQ:=mk Tryz.func286 ADO dH KW [AD7] [] []
def AWP:SQ:=mk Tryz.func285 AFZ Cr KK [s82,AD7,y9,AUU] [(3,[0,1])] []
def AX8:SQ:=mk Tryz.func230 ALZ vd TZ [ACV,AB7,AUJ,AWP,AVw] [(4,[0,1,2,3,4,5,6])] [⟨8,⟨[(4,KA),(6,Zq),(8,.c (.ptr 5 0)),(9,BJ)],ARh⟩,Lh⟩]
def AZ_:SQ:=mk Tryz.func139 ADD rN Vu [s69,AX8] [(3,[0,1,2,3,4,5,6,7,8,9])] [] (he:=fun ω v=>by rcases ω with _|⟨_|_,_|⟨_|_,_⟩⟩<;>kernel_rfl)
def AZr:SQ:=mk Tryz.func140 bn rN YZ [s69,mK,yA,AVl,APK] [(3,[0,1,2,3,4,5,6,7,8,9,10]),(9,[0,1,2,3,4,5,6,7,8,9,10,11]),(11,[0,1,2,3,4,5,6,7,8,9,10,11,12])] [] (he:=fun ω v=>by rcases ω with _|⟨_|_,_|⟨_|_,_⟩⟩<;>kernel_rfl)
def AZv:SQ:=mk Tryz.func232 vh Cr RU [s82,AB7] [(6,[0,1])] [⟨4,ALa,KS⟩]
def AbF:SQ:=mk Tryz.func233 AL8 AAe Ti [ABd,Xd,AHK,ACR] [] []
def AaG:SQ:=mk Tryz.func141 ADD ⟨[(0,.Mh [.inr [.ref 0,.v tI,.ref 1,.ref 2,.ref 8,.v tI,.ref 4,.ref 9,.ref 6,.ref 7,.v .bool],.inl (.v tI)])],[Df,V3,Df,PK,TT,PK,PQ,Ls,Mp,SV]⟩ Tq [AZv,AbF] [(3,[0,1,2,3,4,5,6,7,8,9]),(5,[0,1,2,3,4,5,6,7,8,9])] [] (he:=fun ω v=>by rcases ω with _|⟨_|_,_⟩<;>kernel_rfl)
def AaN:SQ:=mk Tryz.func142 ALl AAe Vn [ABd,ACR,y7,oO,AFC] [(4,[0,1,2,3,4])] []
def Aaa:SQ:=mk Tryz.func291 zQ Fg Ux [] [] [⟨2,⟨AI7,[AKZ]⟩,JK⟩]
def AZO:SQ:=mk Tryz.func235 wq Fg cU [Aaa] [] [⟨2,⟨[(1,BJ),(2,KA),(5,BJ)],AK3⟩,OS⟩]
def AX7:SQ:=mk Tryz.func236 ⟨[(0,.row Y11),(1,.row Y9),(2,BJ)],[]⟩ ⟨ABq,[.sl 9 Y14]⟩ P5 [s71,AV6,yA,ALK] [(6,[0,1,2,3]),(7,[0,1,2,3]),(8,[0,1,3,4])] [⟨4,⟨[(3,KA),(4,Zq),(7,.c (.ref 2)),(8,.c (.ref 3)),(9,BJ)],[w_,.mem [.v tI,.v tI,.sl false Y8],.sl 9 Y14,Ft]⟩,JU⟩] (hJ:= .cons (fun _=>rfl) (fun n v ω=>by rcases ω with _|⟨_|_,_|⟨_|_,_⟩⟩<;>kernel_rfl) (.nil))
def AZ0:SQ:=mk Tryz.func288 ⟨[(0,qz),(1,qW)],[]⟩ ⟨[(0,.Mh [.inl (.ref 0),.inl (.v .bool)])],qg⟩ Yp [y9] [] [⟨3,⟨[(1,qW),(2,KA),(6,xI),(7,BJ)],AMO⟩,LF⟩]
def AYu:SQ:=mk Tryz.func289 ⟨[(0,.row Y9),(1,.row Y8),(2,BJ),(3,BJ)],[]⟩ AAX Ia [AI2] [] []
def AZ9:SQ:=mk Tryz.func290 ⟨[(0,aN),(1,BJ),(2,qW)],[]⟩ ⟨[(0,.agg [.v tI,.v tI,.v .str])],[]⟩ L1 [mK,AGw,AT5] [] [⟨4,⟨[(0,aN),(1,BJ),(2,qW),(6,KA),(7,Zq),(8,xP0),(9,BJ)],[.mem [.v tI,.v tI,.v .str],ABQ]⟩,Mm⟩]
def AYr:SQ:=mk Tryz.func234 AML ⟨ATd,[.sl 9 Y8]⟩ Px [s71,AI2,ATF,ACR,oO,AIH,AWP,AVw,AZ0,AYu,AZ9] [(9,[0,1,2,4,5]),(14,[0,1,2,3,4,5]),(16,[0,1,2,4,5,6])] []
def AZR:SQ:=mk Tryz.func143 bn rN Vj [Xd,AYr,AZO,AX7] [(3,[0,1,2,3,4,5,6,7,8,9,10])] [] (he:=fun ω v=>by rcases ω with _|⟨_|_,_|⟨_|_,_|⟨_|_,_⟩⟩⟩<;>kernel_rfl)
def AYU:SQ:=mk Tryz.func144 bn ⟨[(0,.Mh [.inr [.ref 0,.v tI,.ref 1,.ref 2,.ref 3,.v tI,.ref 8,.ref 5,.ref 6,.ref 7,.v .bool],.inl (.v tI)])],[Df,V3,Df,Mp,PK,SV,PQ,Ls,mN]⟩ V4 [AQZ] [] [⟨5,⟨[(2,fp),(3,eL),(4,bw),(6,.c (.ref 19)),(7,BJ)],[Df,V3,Df,Mp,mN,SV,PQ,Ls,rE,AFI,AEa,Ft,Z2,Ft,TK,Zy,ZO,Zb,WT,mN]⟩,MZ⟩]
def Aax:SQ:=mk Tryz.func238 gj sY SC [ACO,zH,y7] [(11,[0,1,2,3,6])] [⟨8,AMQ,KV⟩] (hJ:= .cons (fun _=>rfl) (fun n v ω=>by rcases ω with _|⟨_|_,_⟩<;>kernel_rfl) (.nil))
def AYW:SQ:=mk Tryz.func145 bn rN Th [yA,AT9,Aax] [(4,[0,1,2,3,4,5,6,7,8,9,10]),(6,[0,1,2,3,4,5,6,7,8,9,10,12])] [] (he:=fun ω v=>by rcases ω with _|⟨_|_,_⟩<;>kernel_rfl)
def s59:SQ:=mk Tryz.func59 bn ⟨[(0,.Mh [.inr [.ref 0,.v tI,.ref 1,.ref 8,.ref 9,.v tI,.ref 10,.ref 11,.ref 6,.ref 12,.v .bool],.inl (.v tI)])],[Df,ZD,PK,PK,PK,PK,PQ,PK,Df,Mp,mN,.sl 1 Y7,Ls]⟩ aX [AZF,AZk,AY0,AYR,AYh,AYd,AZH,AXP,AZ_,AZr,AaG,AaN,AZR,AYU,AYW] [] []
abbrev i22:BX:=AMP
abbrev o22:BX:=ALw
def s22:SQ:=mk Tryz.func22 i22 o22 HY [s51,s52,s58,s59] [(3,[0,1,2])] [] (he:=fun ω v=>by rcases ω with _|⟨_|_,_|⟨_|_,_⟩⟩<;>kernel_rfl)
def s37:SQ:=mk Tryz.func37 ADB ⟨[(0,.Mh [.inr [.sl true tI,.v tI,.sl true Y2,.sl true tI,.sl true Y3,.v tI,.sl true Y6,.sl true Y7,.sl true Y9,.sl true Y10,.v .bool],.inl (.ref 1),.inr [.sl true tI,.v tI,.sl true Y2,.sl true tI,.sl true Y3,.v tI,.sl true Y6,.sl true Y7,.sl true Y9,.sl true Y10,.v .bool]])],[uB,.sl 9 Y12]⟩ NY [s22,s63,s81,s82,s83,s84] [(21,[0,2,3,4,5,6,7,8,9,11,12,13,14,15,16,17,18,19,20,21])] [⟨4,⟨[(0,KA),(1,BJ),(4,Zq),(6,bw),(7,jr),(8,.c (.ref 21)),(9,BJ)],[uB,AHo,Ft,Z2,Ft,TK,Zy,ZO,Zb,WT,AEa,Ft,Z2,Ft,TK,Zy,ZO,Zb,WT,.mem [.ref 20,.v tI],Ft,Ft]⟩,Ei⟩,⟨7,⟨[(0,KA),(1,BJ),(4,Zq),(6,bw),(7,jr),(8,.c (.sl true tI))],[uB,AHo,Ft,Z2,Ft,TK,Zy,ZO,Zb,WT,AEa,Ft,Z2,Ft,TK,Zy,ZO,Zb,WT,.mem [.sl true tI,.v tI]]⟩,Et⟩,⟨14,⟨[(0,KA),(4,Zq),(6,bw),(10,jr),(12,.c (.ptr 20 0)),(13,.c (.ref 21)),(14,BJ),(15,BJ)],[uB,AHo,Ft,Z2,Ft,TK,Zy,ZO,Zb,WT,AEa,Ft,Z2,Ft,TK,Zy,ZO,Zb,WT,ATp,ATp,.sl 9 Y12]⟩,Dh⟩]
abbrev i10:BX:=ADQ
abbrev o10:BX:=⟨[(0,.Mh [.inr [.sl true tI,.v tI,.sl true Y2,.sl true tI,.sl true Y3,.v tI,.sl true Y6,.sl true Y7,.sl true Y9,.sl true Y10,.v .bool],.inl (.ref 0)])],[.sl 9 Y12]⟩
def s10:SQ:=mk Tryz.func10 i10 o10 Fi [s37,s38,s39] [] []
abbrev i43:BX:=ALi
abbrev o43:BX:=Cr
def gd:SQ:=mk Tryz.func43 i43 o43 A4 [] [] []
def s44:SQ:=mk Tryz.func44 AAY Cr Ez [gd] [] [⟨2,⟨[(1,KA),(6,aN),(7,BJ),(8,BJ)],AOp⟩,LA⟩]
def Aar:SQ:=mk Tryz.func161 lB Cr Vs [gd] [] [⟨2,⟨[(0,aN),(1,BJ),(7,aN),(8,BJ),(9,BJ)],[]⟩,Jv⟩]
def s74:SQ:=mk Tryz.func74 lD Cr D7 [s44,Aar] [] []
def s72:SQ:=mk Tryz.func72 Fg Cr HS [gd] [] []
def s73:SQ:=mk Tryz.func73 Fg Cr XD [gd] [] []
def s53:SQ:=mk Tryz.func53 Fg Cr D6 [s72,s73] [] []
def AHA:SQ:=mk Tryz.func100 ⟨[(0,.c (.v .str))],[]⟩ Cr F7 [] [] []
def s95:SQ:=mk Tryz.func95 Fg Fg FB [s53] [] []
def AK1:SQ:=mk Tryz.func251 ⟨[(0,.row Y1)],[]⟩ Cr Lw [gd,s53,s95,AHA] [(1,[0])] []
def AZD:SQ:=mk Tryz.func173 AAC Cr N6 [AK1] [] [⟨2,⟨[(5,qM),(6,BJ),(7,BJ)],[]⟩,Hz⟩]
def AVn:SQ:=mk Tryz.func174 AAC Cr KF [] [(4,[0])] [⟨2,⟨[(0,qM),(5,qM),(6,BJ),(7,BJ)],[]⟩,GF⟩]
def s92:SQ:=mk Tryz.func92 lp Cr FD [gd,AZD,AVn] [] []
abbrev i86:BX:=⟨[(0,aN)],[]⟩
abbrev o86:BX:=dH
def s86:SQ:=mk Tryz.func86 i86 o86 DG [] [] []
def AY8:SQ:=mk Tryz.func249 lB Fg Nl [] [] [⟨2,⟨[(0,aN),(1,BJ),(7,BJ),(8,BJ)],[]⟩,GI⟩]
def zA:SQ:=mk Tryz.func162 lB Cr Bt [AY8] [] []
def AUb:SQ:=mk Tryz.func252 ⟨[(0,BJ),(1,.c (.mb (.cons (.sl tI) .unit)))],[]⟩ Cr Q5 [zA] [] []
def Aau:SQ:=mk Tryz.func294 ⟨[(0,aN),(1,AGO)],[]⟩ Fg Di [AUb] [] [⟨2,⟨[(0,aN),(1,AGO),(7,BJ),(8,BJ)],[]⟩,CA⟩]
def AXk:SQ:=mk Tryz.func247 ⟨[(0,nE),(1,AGO)],[Df]⟩ AL6 Cq [AUb,Aau] [] [⟨5,⟨[(0,nE),(1,AGO),(5,BJ),(6,BJ)],[Df]⟩,B3⟩]
def AJ2:SQ:=mk Tryz.func175 ADO AEn Mx [s86,AXk] [] []
abbrev i93:BX:=zZ
abbrev o93:BX:=Cr
def s93:SQ:=mk Tryz.func93 i93 o93 C8 [AJ2] [] []
def s75:SQ:=mk Tryz.func75 lD Fg Xn [s74,zA] [] [⟨5,⟨[(2,KA),(5,xI),(13,aN),(14,BJ),(15,BJ)],AMO⟩,Nt⟩]
abbrev i32:BX:=lD
abbrev o32:BX:=Cr
def s32:SQ:=mk Tryz.func32 i32 o32 Ge [s74,s75] [(1,[0])] []
def s45:SQ:=mk Tryz.func45 uq Cr Kt [s32,s74,s92,s93] [] [⟨4,⟨[(0,wI),(32,tv),(33,BJ),(34,BJ)],[]⟩,FE⟩]
def s94:SQ:=mk Tryz.func94 ⟨[(0,qz),(1,.row Y3)],[]⟩ Cr ae [s32,gd] [] []
abbrev i46:BX:=ADX
abbrev o46:BX:=Cr
def s46:SQ:=mk Tryz.func46 i46 o46 Kc [gd,s44,s94,s95] [(7,[0,1])] [⟨2,⟨[(2,KA),(3,Zq),(9,.c (.sl false Y3)),(10,BJ),(11,BJ)],AUD⟩,Ke⟩]
def Aa2:SQ:=mk Tryz.func176 Cr Fg aR [] [] []
abbrev i96:BX:=AES
abbrev o96:BX:=Cr
def s96:SQ:=mk Tryz.func96 i96 o96 GR [s32,s44,s72,s74,AHA,Aa2] [(5,[0,1,2])] [⟨3,⟨[(2,KA),(3,Zq),(5,BJ),(9,AJT),(10,BJ),(11,BJ)],ATG⟩,LH⟩]
def s97:SQ:=mk Tryz.func97 zZ Cr JE [gd] [] []
def s47:SQ:=mk Tryz.func47 uq Cr KC [s96,s97] [(4,[0])] [⟨2,⟨[(0,wI),(8,.c (.sl false Y6)),(9,BJ),(10,BJ)],[]⟩,Ec⟩]
def APQ:SQ:=mk Tryz.func110 Fg Fg TA [s53] [] []
def AT6:SQ:=mk Tryz.func177 xF Fg Rs [APQ] [] []
def AZt:SQ:=mk Tryz.func178 xF Cr UX [s95,AVn,AK1] [(4,[0,1])] [⟨2,⟨[(1,KA),(6,qM),(7,BJ),(8,BJ)],[zK]⟩,Ln⟩]
def s98:SQ:=mk Tryz.func98 vh Cr Hj [gd,s44,s72,s74,AT6,AZt] [] [⟨2,⟨[(2,KA),(3,Zq),(10,AF9),(11,BJ),(12,BJ)],AN6⟩,Lc⟩]
def s36:SQ:=mk Tryz.func36 zU Fg La [] [] [⟨2,⟨[(6,.c (.sl false Y3)),(7,BJ),(8,BJ)],[]⟩,H0⟩]
def s48:SQ:=mk Tryz.func48 uq Cr L2 [s36,s98] [(4,[0])] [⟨2,⟨[(0,wI),(8,.c (.sl false Y7)),(9,BJ),(10,BJ)],[]⟩,FU⟩]
def s99:SQ:=mk Tryz.func99 AAU Cr TY [gd] [] []
def s49:SQ:=mk Tryz.func49 uq Cr KB [s99] [] [⟨2,⟨[(0,wI),(8,.c (.sl false Y9)),(9,BJ),(10,BJ)],[]⟩,Ea⟩]
def s50:SQ:=mk Tryz.func50 uq Cr NK [s95,s97,AHA] [(4,[0])] [⟨2,⟨[(0,wI),(8,ADi),(9,BJ),(10,BJ)],[]⟩,F5⟩]
abbrev i16:BX:=ij
abbrev o16:BX:=Cr
def s16:SQ:=mk Tryz.func16 i16 o16 Fm [s44,s45,s46,s47,s48,s49,s50] [] []
def AbM:SQ:=mk Tryz.func111 Fg ⟨[(0,.c (.v .str))],[]⟩ aU [] [] []
def s56:SQ:=mk Tryz.func56 AFD Cr Xs [gd,AHA,AbM] [] [⟨4,⟨[(1,KA),(3,Zq),(11,.c (.ref 2)),(12,BJ),(13,BJ)],[AFI,AFI,.sl 9 tU]⟩,Dl⟩]
def s85:SQ:=mk Tryz.func85 AAY ⟨[(0,.agg [.ref 0,.v tI])],qg⟩ Py [s86] [(1,[0])] []
abbrev i87:BX:=zU
abbrev o87:BX:=AEy
def s87:SQ:=mk Tryz.func87 i87 o87 ET [s86] [] [⟨3,⟨[(2,KA),(3,xP8),(10,.c (.sl false Y3)),(11,BJ),(12,BJ)],[.mem [.ref 1,.v tI],TK,.mem [.ref 3,.v tI],TK]⟩,Hp⟩]
def AWd:SQ:=mk Tryz.func172 AAC vG I6 [] [] []
def s88:SQ:=mk Tryz.func88 lp AEw C9 [AWd] [(1,[0])] []
abbrev i89:BX:=zQ
abbrev o89:BX:=AFO
def s89:SQ:=mk Tryz.func89 i89 o89 Fo [s86] [] [⟨3,⟨[(2,KA),(3,xP8),(10,AJT),(11,BJ),(12,BJ)],AL1⟩,Jc⟩]
def s90:SQ:=mk Tryz.func90 xF wb GQ [s86,AWd] [(2,[0,1]),(6,[0,1,2,3,5,6])] [⟨4,⟨[(2,KA),(3,yD),(17,AF9),(18,BJ),(19,BJ)],ALx⟩,LS⟩] (hJ:= .cons (fun _=>rfl) (fun n v ω=>by rcases ω with _|⟨_|_,_|⟨_|_,_⟩⟩<;>kernel_rfl) (.nil))
def s91:SQ:=mk Tryz.func91 AAU AAX Mr [] [] []
def s40:SQ:=mk Tryz.func40 ij ALX N2 [s85,s86,s87,s88,s89,s90,s91] [(1,[0,1]),(5,[0,1,2,3,4,5,6,7,8,9,11,13,14,15,16,17,18,19]),(10,[0,1,2,3,4,5,6,7,8,9,11,12,13,14,16,17,18,19]),(15,[0,1,2,3,4,5,6,7,8,9,11,12,13,14,15,17,18,19]),(20,[0,1,2,3,4,5,6,7,8,9,11,12,13,14,15,16,18,19])] [⟨3,⟨[(1,KA),(2,Zq),(3,bw),(25,tv),(26,BJ),(27,BJ)],mE⟩,FP⟩,⟨8,⟨[(1,KA),(2,Zq),(3,bw),(40,.c (.sl false Y6)),(41,BJ),(42,BJ)],mE⟩,FO⟩,⟨13,⟨[(1,KA),(2,Zq),(3,bw),(55,.c (.sl false Y7)),(56,BJ),(57,BJ)],mE⟩,Ej⟩,⟨18,⟨[(1,KA),(2,Zq),(3,bw),(70,.c (.sl false Y9)),(71,BJ),(72,BJ)],mE⟩,Eu⟩] (hJ:= .cons (fun _=>rfl) (fun n v ω=>by rcases ω with _|⟨_|_,_|⟨_|_,_⟩⟩<;>kernel_rfl) (.cons (fun _=>rfl) (fun n v ω=>by rcases ω with _|⟨_|_,_|⟨_|_,_⟩⟩<;>kernel_rfl) (.cons (fun _=>rfl) (fun n v ω=>by rcases ω with _|⟨_|_,_|⟨_|_,_⟩⟩<;>kernel_rfl) (.cons (fun _=>rfl) (fun n v ω=>by rcases ω with _|⟨_|_,_|⟨_|_,_⟩⟩<;>kernel_rfl) (.nil))))) (he:=fun ω v=>by rcases ω with _|⟨_|_,_|⟨_|_,_|⟨_|_,_⟩⟩⟩<;>kernel_rfl)
abbrev xy:BX:=Fg
abbrev AJO:BX:=dH
def AHJ:SQ:=mk Tryz.func188 xy AJO He [gd] [] [⟨5,⟨[(0,BJ),(3,nE),(10,BJ)],qg⟩,KP⟩]
abbrev i210:BX:=ADX
abbrev AWJ:BX:=AEy
def AIP:SQ:=mk Tryz.func210 i210 AWJ EK [s46,s87] [] []
abbrev sy:BX:=AMV
abbrev AIz:BX:=ALc
def AUz:QP:=⟨sy,AIz,(sy.un MO)⟩
def AY2:Z9:=⟨T,QA (SP.l [s32,s46,s86,s87,AIP]),CO [(4,[0,1,2])]⟩
def AR_:List (Lp AIz):=[]
theorem AaR(g32:ABO→List Int→Option iw)(g46:ABO→ACC→Option RZ)(g86:List Int→Option bl)(g87:ACC→Option IJ)(AGj:ABO→ACC→Option bp)(n:Nat)(ω:List Bool)(v:sy.V):DP ⟨T,QA [(32,⟨i32,o32,i32.un g32⟩),(46,⟨i46,o46,i46.un g46⟩),(86,⟨i86,o86,i86.un g86⟩),(87,⟨i87,o87,i87.un g87⟩),(210,⟨i210,AWJ,i210.un AGj⟩)],CO [(4,[0,1,2])]⟩ AUz Tryz.f187 (Lr 0 AR_ n) ω v=sy.un (fun(p0:ABO) (p1:ACC) (p2:AAH)=>
 (g46 (p0.1,p0.2.1,()) (p1.1,p1.2.1,())).bind fun u1=>
 cond (!u1.1.1)
  ((AGj (p0.1,p0.2.1,()) (p1.1,p1.2.1,())).bind fun u2=>
  some (((((),u2.1.1.2.1,()),0,false,()),()),(u2.2.1,())))
 ((g32 (p0.1,p0.2.1,()) p2).bind fun u3=>
 cond (!u3.1.1)
  ((AGj (p0.1,p0.2.1,()) (p1.1,p1.2.1,())).bind fun u4=>
  some (((((),u4.1.1.2.1,()),0,false,()),()),(u4.2.1,())))
 (cond (((p1.1.length:Int)==30))
  ((AGj (p0.1,p0.2.1,()) (p1.1,p1.2.1,())).bind fun u6=>
  some (((((),u6.1.1.2.1,()),0,false,()),()),(u6.2.1,())))
 ((g87 (p1.1,p1.2.1,())).bind fun u7=>
 (g86 p2).bind fun u8=>
 if u7.2.1.length+1≤Go.M.Ds then(
 let x9:AAk:=u7.2.1++[(u8.2.1,false,0,())]
 some (((((),u7.1.1.2.1,()),(x9.length:Int),true,()),()),(x9,())))else none)))) v:=by rcases ω with _|⟨_|_,_|⟨_|_,_|⟨_|_,_|⟨_|_,_⟩⟩⟩⟩<;>kernel_rfl
theorem AZ6(n:Nat)(ω:List Bool)(v:sy.V):DP AY2 AUz Tryz.f187 (Lr 0 AR_ n) ω v=sy.un (MO) v:=AaR Ge Kc DG ET EK n ω v
def AUa:SQ:=mk Tryz.func187 sy AIz MO [s32,s46,s86,s87,AIP] [(4,[0,1,2])] AR_ (hJ:= .nil) (he:=AZ6 Ae)
abbrev xf:BX:=sJ
abbrev AO_:BX:=⟨l9,[.mem [.ref 1,.v tI,.ref 2,.ref 3,.ref 9,.v tI,.ref 10,.ref 11,.ref 7,.ref 8,.v .bool],Df,V3,Df,PK,PK,PK,PQ,Ls,Mp,TT,SV]⟩
def AV_:QP:=⟨xf,AO_,(xf.un J5)⟩
def AbK:Z9:=⟨T,QA (SP.l [AUa,AHJ]),CO [(3,[0,1,2,3,4,5,6,7,8])]⟩
def AQw:List (Lp AO_):=[]
theorem AZb(ATI:ABO→ACC→List Int→Option cr)(yG:Int→Option HC)(n:Nat)(ω:List Bool)(v:xf.V):DP ⟨T,QA [(187,⟨sy,AIz,sy.un ATI⟩),(188,⟨xy,AJO,xy.un yG⟩)],CO [(3,[0,1,2,3,4,5,6,7,8])]⟩ AV_ Tryz.f112 (Lr 9 AQw n) ω v=xf.un (fun(p1:Int) (AE:Int) (AU:Int) (AK:Bool) (b1:AAH) (b2:AAQ) (b3:AAH) (b4:AAk) (b5:AAt) (b6:AAu) (b7:AA2) (b8:AAs)=>
 cond (((b5.length:Int)==4))
  (some ((4,()),(((),AE,(),(),(),AU,(),(),(),(),AK,()),b1,b2,b3,(),(),(),b7,b8,b4,b5,b6,())))
 ((yG p1).bind fun u2=>
 (ATI (b1,AE,()) (b4,AU,()) u2.2.1).bind fun u3=>
 cond (!u3.1.1.2.2.1)
  (some ((4,()),(((),AE,(),(),(),AU,(),(),(),(),AK,()),b1,b2,b3,(),(),(),b7,b8,b4,b5,b6,())))
 (if b5.length+1≤Go.M.Ds then(
 some ((0,()),(((),AE,(),(),(),u3.1.1.1.2.1,(),(),(),(),AK,()),b1,b2,b3,(),(),(),b7,b8,u3.2.1,(b5++[(u3.1.1.2.1,[],())]),[],())))else none))) v:=by rcases ω with _|⟨_|_,_|⟨_|_,_⟩⟩<;>kernel_rfl
theorem AaB(n:Nat)(ω:List Bool)(v:xf.V):DP AbK AV_ Tryz.f112 (Lr 9 AQw n) ω v=xf.un (J5) v:=AZb MO He n ω v
def AXb:SQ:=mk Tryz.func112 xf AO_ J5 [AUa,AHJ] [(3,[0,1,2,3,4,5,6,7,8])] AQw (hJ:= .nil) (he:=AaB Ae)
abbrev AQ4:BX:=AES
abbrev ATi:BX:=AFO
def ARC:SQ:=mk Tryz.func257 AQ4 ATi EG [s89,s96] [] []
abbrev uF:BX:=AMB
abbrev AJt:BX:=AMA
def AVW:QP:=⟨uF,AJt,(uF.un JD)⟩
def AaW:Z9:=⟨T,QA (SP.l [s89,s96,ARC]),CO []⟩
def ANu:List (Lp AJt):=[]
theorem AaJ(g89:ACJ→Option KY)(g96:ABO→ACJ→Option Mo)(AOG:ABO→ACJ→Option W3)(n:Nat)(ω:List Bool)(v:uF.V):DP ⟨T,QA [(89,⟨i89,o89,i89.un g89⟩),(96,⟨i96,o96,i96.un g96⟩),(257,⟨AQ4,ATi,AQ4.un AOG⟩)],CO []⟩ AVW Tryz.f189 (Lr 0 ANu n) ω v=uF.un (fun(p0:ABO) (p1:ACJ) (p2:ABs)=>
 (g89 (p1.1,p1.2.1,())).bind fun u1=>
 if u1.2.1.length+1≤Go.M.Ds then(
 let x2:ACH:=u1.2.1++[(p2,[],false,())]
 (g96 (p0.1,p0.2.1,()) (p1.1,p1.2.1,())).bind fun u3=>
 cond (!u3.1.1)
  ((AOG (p0.1,p0.2.1,()) (p1.1,p1.2.1,())).bind fun u4=>
  some ((((u4.1.1.1,(),()),0,false,()),()),(u4.2.1,())))
 ((g96 (p0.1,p0.2.1,()) (u1.1.1.1,x2,())).bind fun u5=>
 cond (!u5.1.1)
  ((AOG (p0.1,p0.2.1,()) (p1.1,p1.2.1,())).bind fun u6=>
  some ((((u6.1.1.1,(),()),0,false,()),()),(u6.2.1,())))
 (some ((((u1.1.1.1,(),()),(x2.length:Int),true,()),()),(x2,())))))else none) v:=by rcases ω with _|⟨_|_,_|⟨_|_,_⟩⟩<;>kernel_rfl
theorem AY6(n:Nat)(ω:List Bool)(v:uF.V):DP AaW AVW Tryz.f189 (Lr 0 ANu n) ω v=uF.un (JD) v:=AaJ Fo GR EG n ω v
def ATt:SQ:=mk Tryz.func189 uF AJt JD [s89,s96,ARC] [] ANu (hJ:= .nil) (he:=AY6 Ae)
abbrev i31:BX:=ln
abbrev o31:BX:=pW
def s31:SQ:=mk Tryz.func31 i31 o31 Dn [s72,s73] [] []
def AXd:SQ:=mk Tryz.func159 ⟨[(0,.row Y10),(1,BJ)],[]⟩ Fg Kw [] [] []
def AYZ:SQ:=mk Tryz.func158 ⟨[(0,ADi),(1,BJ),(2,.c (.fn 159 []))],[]⟩ pW BM [AXd] [] [⟨3,⟨[(0,ADi),(1,BJ),(2,.c (.fn 159 [])),(8,BJ),(9,BJ),(10,BJ)],[]⟩,Av⟩]
abbrev i67:BX:=zZ
abbrev o67:BX:=pW
def s67:SQ:=mk Tryz.func67 i67 o67 H4 [AYZ] [] []
abbrev ATC:BX:=⟨[(0,nE),(1,BJ),(2,ADi)],[Ls]⟩
abbrev AYg:BX:=⟨AK8,[PK,Ls]⟩
def AU3:SQ:=ANG (ρ:=I_ 190 0 258 259 34 45) (nm:= "slices.Insert[[]loop.example/g00178/impl.Sent,loop.example/g00178/impl.Sent]") (fv:=Tryz.f258) tOk (lY.ins ⟨by kernel_rfl,by kernel_rfl,by kernel_rfl,by kernel_rfl,by kernel_rfl,by kernel_rfl,by kernel_rfl,by kernel_rfl,by kernel_rfl,by kernel_rfl,by kernel_rfl,by kernel_rfl⟩ mx (by kernel_rfl) (by kernel_rfl) (by kernel_rfl) (by kernel_rfl) (by kernel_rfl) (by kernel_rfl) (by kernel_rfl)) (r:=Y10) rfl (by kernel_rfl) (by kernel_rfl) ED (fun _=>rfl)
abbrev yE:BX:=⟨[(0,KA),(1,BJ),(2,.c (.v .str))],ew⟩
abbrev ARN:BX:=⟨l9,[.mem [.ref 1,.v tI,.ref 2,.ref 3,.ref 4,.v tI,.ref 5,.ref 6,.ref 7,.ref 9,.v .bool],Df,V3,Df,Mp,TT,SV,PQ,PK,Ls]⟩
def AUo:QP:=⟨yE,ARN,(yE.un Lo)⟩
def AZL:Z9:=⟨T,QA (SP.l [s31,gd,s67,ATt,AU3]),CO [(3,[0,1,2,3,4,5,6,7,8]),(8,[0,1,2,3,4,6,7,8])]⟩
def AOJ:List (Lp ARN):=[]
theorem AYQ(g31:Int→Int→Option LP)(g43:Int→Int→Int→Option Mt)(g67:ABS→Int→Option U2)(AVF:ABO→ACJ→List UInt8→Option ZY)(ATK:Int→AAs→AAs→Option Io)(n:Nat)(ω:List Bool)(v:yE.V):DP ⟨T,QA [(31,⟨i31,o31,i31.un g31⟩),(43,⟨i43,o43,i43.un g43⟩),(67,⟨i67,o67,i67.un g67⟩),(189,⟨uF,AJt,uF.un AVF⟩),(190,⟨ATC,AYg,ATC.un ATK⟩)],CO [(3,[0,1,2,3,4,5,6,7,8]),(8,[0,1,2,3,4,6,7,8])]⟩ AUo Tryz.f113 (Lr 9 AOJ n) ω v=yE.un (fun(p1:Int) (p2:ABs) (AE:Int) (AU:Int) (AK:Bool) (b1:AAH) (b2:AAQ) (b3:AAH) (b4:AAk) (b5:AAt) (b6:AAu) (b7:AA2) (b8:AAs)=>
 (g43 p1 0 (AX ((b5.length:Int)-1))).bind fun u2=>
 cond (!u2.1.1)
  (some ((2,()),(((),AE,(),(),(),AU,(),(),(),(),AK,()),b1,b2,b3,b4,b5,b6,b7,(),b8,())))
 (if(0:Int)≤p1∧p1<(b5.length:Int)then(
 (AVF (b1,AE,()) ((b5.getD (p1.toNat) (0,[],())).1,(b5.getD (p1.toNat) (0,[],())).2.1,()) p2).bind fun u3=>
 (g31 u3.1.1.1.1 u3.1.1.2.1).bind fun u4=>
 (g67 (b1,AE,b2,b3,b4,AU,b5,b6,b7,b8,AK,()) u4.1.1.1).bind fun u5=>
 cond (!u3.1.1.2.2.1)
  (some ((4,()),(((),AE,(),(),(),AU,(),(),(),(),AK,()),b1,b2,b3,b4,b5,b6,b7,(),b8,())))
 (cond (((b8.length:Int)==120))
  (some ((4,()),(((),AE,(),(),(),AU,(),(),(),(),AK,()),b1,b2,b3,b4,b5,b6,b7,(),b8,())))
 (cond (u5.1.1.2.1)
  (some ((4,()),(((),AE,(),(),(),AU,(),(),(),(),AK,()),b1,b2,b3,b4,b5,b6,b7,(),b8,())))
 (if(0:Int)≤p1∧p1<(b5.length:Int)then(
 (ATK u5.1.1.1 [(u4.1.1.1,p2,false,())] b8).bind fun u8=>
 some ((0,()),(((),AE,(),(),(),AU,(),(),(),(),AK,()),b1,b2,b3,b4,(b5.set (p1.toNat) (u3.1.1.1.1,u3.2.1,())),b6,b7,(),u8.2.2.1,())))else none))))else none)) v:=by rcases ω with _|⟨_|_,_⟩<;>kernel_rfl
theorem Aa6(n:Nat)(ω:List Bool)(v:yE.V):DP AZL AUo Tryz.f113 (Lr 9 AOJ n) ω v=yE.un (Lo) v:=AYQ Dn A4 H4 JD ED n ω v
def AY_:SQ:=mk Tryz.func113 yE ARN Lo [s31,gd,s67,ATt,AU3] [(3,[0,1,2,3,4,5,6,7,8]),(8,[0,1,2,3,4,6,7,8])] AOJ (hJ:= .nil) (he:=Aa6 Ae)
def AEV:SQ:=mk Tryz.func193 zZ Fg EM [gd,s93] [] []
abbrev AOA:BX:=ALm
abbrev AWS:BX:=dH
def AHV:SQ:=mk Tryz.func156 AOA AWS Il [gd,s86] [] []
abbrev zE:BX:=⟨[(0,wI),(1,BJ),(2,BJ)],[]⟩
abbrev AI3:BX:=Fg
def ADq:SQ:=mk Tryz.func191 zE AI3 Dg [AHV,zA,AEV] [] []
def AKX:SQ:=mk Tryz.func263 lp AEw Dk [s88,s92] [] []
def AbC:SQ:=mk Tryz.func260 AE5 sY Tc [s88,s92,s95,AK1,AKX] [(3,[0,1,2])] []
abbrev AFM:BX:=Cr
abbrev AOL:BX:=Fg
def wE:SQ:=mk Tryz.func125 AFM AOL J0 [] [] []
abbrev ANi:BX:=⟨[(0,KA),(1,BJ),(2,.row Y1)],ew⟩
abbrev AUN:BX:=od
def AOc:SQ:=mk Tryz.func192 ANi AUN Lj [wE,AbC] [(1,[0,1,2,3,4,5,6,7,8,9]),(3,[0,1,3,4,5,6,7,8,9])] [] (he:=fun ω v=>by rcases ω with _|⟨_|_,_⟩<;>kernel_rfl)
abbrev xp:BX:=ALk
abbrev AQl:BX:=od
def AU1:QP:=⟨xp,AQl,(xp.un I2)⟩
def AXO:Z9:=⟨T,QA (SP.l [s31,gd,ADq,AOc]),CO [(1,[0,1,2,3,4,5,6,7,8,9]),(3,[0,1,2,3,4,5,6,7,8,9]),(10,[9,10])]⟩
def APN:List (Lp AQl):=[]
theorem AZw(g31:Int→Int→Option LP)(g43:Int→Int→Int→Option Mt)(uE:ABS→Int→Int→Option H6)(AV0:Int→ACg→Int→Int→Bool→List Int→AAQ→List Int→AAk→AAt→AAu→AA2→AAs→Option Z4)(n:Nat)(ω:List Bool)(v:xp.V):DP ⟨T,QA [(31,⟨i31,o31,i31.un g31⟩),(43,⟨i43,o43,i43.un g43⟩),(191,⟨zE,AI3,zE.un uE⟩),(192,⟨ANi,AUN,ANi.un AV0⟩)],CO [(1,[0,1,2,3,4,5,6,7,8,9]),(3,[0,1,2,3,4,5,6,7,8,9]),(10,[9,10])]⟩ AU1 Tryz.f114 (Lr 9 APN n) ω v=xp.un (fun(p1:ACa) (AE:Int) (AU:Int) (AK:Bool) (b1:AAH) (b2:AAQ) (b3:AAH) (b4:AAk) (b5:AAt) (b6:AAu) (b7:AA2) (b8:AAs)=>
 (g43 p1.2.1 0 (AX ((b5.length:Int)-1))).bind fun u2=>
 cond (!u2.1.1)
  (some ((2,()),(((),AE,(),(),(),AU,(),(),(),(),AK,()),b1,b2,b3,b4,b5,b6,b7,b8,())))
 (if(0:Int)≤p1.2.1∧p1.2.1<(b5.length:Int)then(
 (g43 p1.2.2.1 1 (((b5.getD (p1.2.1.toNat) (0,[],())).2.1).length:Int)).bind fun u4=>
 cond (!u4.1.1)
  (some ((2,()),(((),AE,(),(),(),AU,(),(),(),(),AK,()),b1,b2,b3,b4,b5,b6,b7,b8,())))
 ((uE (b1,AE,b2,b3,b4,AU,b5,b6,b7,b8,AK,()) p1.2.2.2.1 ((b5.getD (p1.2.1.toNat) (0,[],())).1)).bind fun u6=>
 cond (u6.1.1 !=0)
  (some ((u6.1.1,()),(((),AE,(),(),(),AU,(),(),(),(),AK,()),b1,b2,b3,b4,b5,b6,b7,b8,())))
 ((g31 ((b5.getD (p1.2.1.toNat) (0,[],())).1) p1.2.2.1).bind fun u8=>
 if(0:Int)≤AX (p1.2.2.1-1)∧AX (p1.2.2.1-1)<(((b5.getD (p1.2.1.toNat) (0,[],())).2.1).length:Int)then(
 (AV0 p1.2.2.2.1 (u8.1.1.1,0,false,((((b5.getD (p1.2.1.toNat) (0,[],())).2.1).getD ((AX (p1.2.2.1-1)).toNat) ([],[],false,())).1),()) AE AU AK b1 b2 b3 b4 b5 b6 b7 b8).bind fun EW=>
 some ((EW.1.1,()),(((),EW.2.1.2.1,(),(),(),EW.2.1.2.2.2.2.2.1,(),(),(),(),EW.2.1.2.2.2.2.2.2.2.2.2.2.1,()),EW.2.2.1,EW.2.2.2.1,EW.2.2.2.2.1,EW.2.2.2.2.2.1,EW.2.2.2.2.2.2.1,EW.2.2.2.2.2.2.2.1,EW.2.2.2.2.2.2.2.2.1,EW.2.2.2.2.2.2.2.2.2.1,())))else none)))else none)) v:=by kernel_rfl
theorem Aaz(n:Nat)(ω:List Bool)(v:xp.V):DP AXO AU1 Tryz.f114 (Lr 9 APN n) ω v=xp.un (I2) v:=AZw Dn A4 Dg Lj n ω v
def AYY:SQ:=mk Tryz.func114 xp AQl I2 [s31,gd,ADq,AOc] [(1,[0,1,2,3,4,5,6,7,8,9]),(3,[0,1,2,3,4,5,6,7,8,9]),(10,[9,10])] APN (hJ:= .nil) (he:=Aaz Ae)
def AaT:SQ:=mk Tryz.func240 ⟨[(0,.row Y1),(1,BJ)],[]⟩ Fg SI [] [] []
def AXV:SQ:=mk Tryz.func239 ⟨[(0,qM),(1,BJ),(2,.c (.fn 240 []))],[]⟩ pW CF [AaT] [] [⟨3,⟨[(0,qM),(1,BJ),(2,.c (.fn 240 [])),(8,BJ),(9,BJ),(10,BJ)],[]⟩,A0⟩]
def AVi:SQ:=mk Tryz.func146 AEr pW Ru [AXV] [] []
def AXz:SQ:=ANG (ρ:=I_ 296 0 307 308 92 96) (nm:= "slices.Insert[[]loop.example/g00178/impl.Entry,loop.example/g00178/impl.Entry]") (fv:=Tryz.f307) tOk (lY.ins ⟨by kernel_rfl,by kernel_rfl,by kernel_rfl,by kernel_rfl,by kernel_rfl,by kernel_rfl,by kernel_rfl,by kernel_rfl,by kernel_rfl,by kernel_rfl,by kernel_rfl,by kernel_rfl⟩ mx (by kernel_rfl) (by kernel_rfl) (by kernel_rfl) (by kernel_rfl) (by kernel_rfl) (by kernel_rfl) (by kernel_rfl)) (r:=Y1) rfl (by kernel_rfl) (by kernel_rfl) Du (fun _=>rfl)
def AVu:SQ:=mk Tryz.func297 AMU AME Q2 [] [] []
def AR6:SQ:=mk Tryz.func264 ⟨[(0,nE),(1,.row Y1)],rj⟩ AMK WA [AVi,AXz,AVu] [(4,[1])] []
def AU_:SQ:=mk Tryz.func197 gj zW MY [gd,s88,s92,AKX,AR6] [] [⟨6,⟨[(1,BJ),(2,KA),(4,Zq),(6,yD),(23,qM),(24,BJ),(25,BJ)],[AMs,ALF,Mn,Mn,ASB,.sl 1 Y1,Mn]⟩,JV⟩]
def ATx:SQ:=mk Tryz.func194 lp zW Ni [AU_] [] []
abbrev i60:BX:=gj
abbrev o60:BX:=wO
def s60:SQ:=mk Tryz.func60 i60 o60 Fb [s92,AVi] [] []
def AYJ:SQ:=mk Tryz.func309 Fg Cr cmp_isNaN_int [] [] []
def AZp:SQ:=mk Tryz.func298 ln Cr cmp_Less_int [AYJ] [] []
def Aao:SQ:=mk Tryz.func299 Fg Cr O8 [] [] []
def AZ4:SQ:=mk Tryz.func265 lB pW GJ [AZp,Aao] [] [⟨3,⟨[(0,aN),(1,BJ),(6,BJ),(7,BJ),(8,BJ)],[]⟩,Dp⟩]
def AZI:SQ:=ANG (ρ:=I_ 266 0 300 301 24 3) (nm:= "slices.Insert[[]int,int]") (fv:=Tryz.f300) tOk (lY.ins ⟨by kernel_rfl,by kernel_rfl,by kernel_rfl,by kernel_rfl,by kernel_rfl,by kernel_rfl,by kernel_rfl,by kernel_rfl,by kernel_rfl,by kernel_rfl,by kernel_rfl,by kernel_rfl⟩ mx (by kernel_rfl) (by kernel_rfl) (by kernel_rfl) (by kernel_rfl) (by kernel_rfl) (by kernel_rfl) (by kernel_rfl)) (r:=tI) rfl (by kernel_rfl) (by kernel_rfl) Ji (fun _=>rfl)
def AGe:SQ:=mk Tryz.func198 lB AEn Kl [s86,AZ4,AZI] [] []
def Aam:SQ:=mk Tryz.func261 ALV ALo SD [s32,gd,s89,s96,AGe,ARC] [(6,[0,1,2,4])] []
def AZz:SQ:=mk Tryz.func195 zy ALh M7 [s31,s60,s67,Aam] [(6,[0,1,2,3,4,6,7,8,9])] [⟨1,AEG,C3⟩]
abbrev AE3:BX:=ALj
abbrev AQm:BX:=wO
def ANJ:SQ:=mk Tryz.func207 AE3 AQm JS [s31] [] [⟨5,⟨[(2,KA),(4,Zq),(6,BJ),(33,qM),(34,BJ),(35,BJ)],[zK,ABQ]⟩,KU⟩]
def AOR:SQ:=mk Tryz.func269 vh wb En [s90,s98] [] []
abbrev AEk:BX:=AL0
abbrev ARS:BX:=AMG
def AWK:SQ:=mk Tryz.func262 AEk ARS O0 [gd,s90,s98,AGe,AOR] [(4,[0,1,2,3,4,6])] []
abbrev i196:BX:=zy
abbrev AQX:BX:=ALh
def c196:QP:=⟨i196,AQX,(i196.un Kv)⟩
def ATw:Z9:=⟨T,QA (SP.l [s60,ANJ,AWK]),CO [(4,[0,1,2,3,4,5,6,7,8,9]),(6,[0,1,2,3,4,5,7,8,9,10])]⟩
def ADl:List (Lp AQX):=[⟨1,AEG,BR⟩]
abbrev jY:BX:=AEG
theorem AMe(g60:ACP→Int→Option Mi)(AGc:ABi→Int→Option I5)(AI5:ABO→ABi→Int→Int→Option WW)(n:Nat)(v:jY.V)(ω:List Bool):G2 ⟨T,QA [(60,⟨i60,o60,i60.un g60⟩),(207,⟨AE3,AQm,AE3.un AGc⟩),(262,⟨AEk,ARS,AEk.un AI5⟩)],CO [(4,[0,1,2,3,4,5,6,7,8,9]),(6,[0,1,2,3,4,5,7,8,9,10])]⟩ c196 Tryz.f196 (Lr 9 ADl n) 1 ω (jY.st 81 v)=jY.un (fun(t1:Int) (t2:Int) (t6:Int) (AE:Int) (AU:Int) (AK:Bool) (b1:AAH) (b2:AAQ) (b3:AAH) (b4:AAk) (b5:AAt) (b6:AAu) (b7:AA2) (b8:AAs)=>
 if(0:Int)≤t1∧t1<(b6.length:Int)then(
 cond (decide (t6≤(((b6.getD (t1.toNat) (0,0,[],[],false,[],())).2.2.2.2.2.1).length:Int)))
  (if(0:Int)≤t1∧t1<(b6.length:Int)then(
  (AGc ((b6.getD (t1.toNat) (0,0,[],[],false,[],())).1,(b6.getD (t1.toNat) (0,0,[],[],false,[],())).2.1,(b6.getD (t1.toNat) (0,0,[],[],false,[],())).2.2.1,(b6.getD (t1.toNat) (0,0,[],[],false,[],())).2.2.2.1,(b6.getD (t1.toNat) (0,0,[],[],false,[],())).2.2.2.2.1,(b6.getD (t1.toNat) (0,0,[],[],false,[],())).2.2.2.2.2.1,()) t6).bind fun u2=>
  if(0:Int)≤t2∧t2<(b2.length:Int)then(
  (g60 ((b2.getD (t2.toNat) ([],[],0,())).1,(b2.getD (t2.toNat) ([],[],0,())).2.1,(b2.getD (t2.toNat) ([],[],0,())).2.2.1,()) u2.1.1.1.1).bind fun u3=>
  cond (u2.1.1.2.1)
   (cond (u3.1.1.2.1)
    (cond (((u3.1.1.1.1==u2.1.1.1.1)&&((u3.1.1.1.2.1==u2.1.1.1.2.1)&&((u3.1.1.1.2.2.1==u2.1.1.1.2.2.1)&&((u3.1.1.1.2.2.2.1==u2.1.1.1.2.2.2.1)&&true)))))
     (if(0:Int)≤t1∧t1<(b6.length:Int)then(
     (AI5 (b1,AE,()) ((b6.getD (t1.toNat) (0,0,[],[],false,[],())).1,(b6.getD (t1.toNat) (0,0,[],[],false,[],())).2.1,(b6.getD (t1.toNat) (0,0,[],[],false,[],())).2.2.1,(b6.getD (t1.toNat) (0,0,[],[],false,[],())).2.2.2.1,(b6.getD (t1.toNat) (0,0,[],[],false,[],())).2.2.2.2.1,(b6.getD (t1.toNat) (0,0,[],[],false,[],())).2.2.2.2.2.1,()) t6 t2).bind fun u5=>
     if(0:Int)≤t1∧t1<(b6.length:Int)then(
     (BR n) t1 t2 (AX (t6+1)) AE AU AK b1 b2 b3 b4 b5 (b6.set (t1.toNat) (u5.1.1.1.1,u5.1.1.1.2.1,u5.2.1,u5.2.2.1,u5.1.1.1.2.2.2.2.1,u5.2.2.2.1,())) b7 b8)else none)else none)
    ((BR n) t1 t2 (AX (t6+1)) AE AU AK b1 b2 b3 b4 b5 b6 b7 b8))
   ((BR n) t1 t2 (AX (t6+1)) AE AU AK b1 b2 b3 b4 b5 b6 b7 b8))
  ((BR n) t1 t2 (AX (t6+1)) AE AU AK b1 b2 b3 b4 b5 b6 b7 b8))else none)else none)
 (some (((()),()),(((),AE,(),(),(),AU,(),(),(),(),AK,()),b1,b2,b3,b4,b5,b6,b7,b8,()))))else none) v:=by rcases ω with _|⟨_|_,_⟩<;>kernel_rfl
theorem AQr(n:Nat)(v:jY.V)(ω:List Bool):G2 ATw c196 Tryz.f196 (Lr 9 ADl n) 1 ω (jY.st 81 v)=jY.un (G6 (BR n)) v:=AMe Fb JS O0 n v ω
theorem AZS(g60:ACP→Int→Option Mi)(AGc:ABi→Int→Option I5)(AI5:ABO→ABi→Int→Int→Option WW)(n:Nat)(ω:List Bool)(v:i196.V):DP ⟨T,QA [(60,⟨i60,o60,i60.un g60⟩),(207,⟨AE3,AQm,AE3.un AGc⟩),(262,⟨AEk,ARS,AEk.un AI5⟩)],CO [(4,[0,1,2,3,4,5,6,7,8,9]),(6,[0,1,2,3,4,5,7,8,9,10])]⟩ c196 Tryz.f196 (Lr 9 ADl n) ω v=i196.un (fun(p1:Int) (p2:Int) (AE:Int) (AU:Int) (AK:Bool) (b1:AAH) (b2:AAQ) (b3:AAH) (b4:AAk) (b5:AAt) (b6:AAu) (b7:AA2) (b8:AAs)=>
 (BR n) p1 p2 1 AE AU AK b1 b2 b3 b4 b5 b6 b7 b8) v:=by kernel_rfl
theorem AXR(n:Nat)(ω:List Bool)(v:i196.V):DP ATw c196 Tryz.f196 (Lr 9 ADl n) ω v=i196.un (Jo (BR n)) v:=AZS Fb JS O0 n ω v
def AYy:SQ:=mk Tryz.func196 i196 AQX Kv [s60,ANJ,AWK] [(4,[0,1,2,3,4,5,6,7,8,9]),(6,[0,1,2,3,4,5,7,8,9,10])] ADl (hJ:= .cons (fun _=>rfl) AQr (.nil)) (he:=AXR Ae)
def AYK:SQ:=mk Tryz.func115 sJ od Pp [AHV,zA,AEV,ATx,AZz,AYy] [(7,[0,1,3,4,5,6,7,8,11]),(11,[0,1,2,3,4,5,6,7,8,9,10]),(17,[0,1,2,3,4,5,6,7,8,9])] [⟨9,⟨[(0,KA),(1,BJ),(6,eL),(41,.c (.ref 5)),(42,BJ),(43,BJ)],[ABa,Df,V3,Df,Mp,TT,SV,PQ,Ls,.mem [.any,.any,.v tI]]⟩,Eo⟩,⟨15,⟨[(0,KA),(1,BJ),(72,.c (.ref 6)),(73,BJ),(74,BJ)],ew⟩,FJ⟩]
def Aaj:SQ:=mk Tryz.func116 zy od O7 [wE,AEV,AU_] [(5,[0,1,3,4,5,6,7,8,11])] []
def AUF:SQ:=mk Tryz.func248 ⟨[(0,BJ),(1,.c (.mb (.cons tI .unit)))],[]⟩ Cr ML [] [] []
def AM2:SQ:=mk Tryz.func294 ⟨[(0,aN),(1,AHe)],[]⟩ Fg Dx [AUF] [] [⟨2,⟨[(0,aN),(1,AHe),(7,BJ),(8,BJ)],[]⟩,B6⟩]
def AOy:SQ:=mk Tryz.func247 ⟨[(0,nE),(1,AHe)],[Df]⟩ AL6 Cp [AUF,AM2] [] [⟨5,⟨[(0,nE),(1,AHe),(5,BJ),(6,BJ)],[Df]⟩,Bw⟩]
abbrev i157:BX:=lB
abbrev AWE:BX:=AEn
def AKV:SQ:=mk Tryz.func157 i157 AWE HP [s86,AOy] [] []
def Aah:SQ:=mk Tryz.func199 AMR ALo NL [s89,s96,AKV] [(8,[0,1,2,4])] [⟨5,⟨[(2,BJ),(6,KA),(8,xP8),(19,AJT),(20,BJ),(21,BJ)],[.mem [.v tI,.ref 1],.sl 9 Y5,.mem [.v tI,.ref 3],.sl 2 Y5]⟩,Hh⟩]
def AZN:SQ:=mk Tryz.func200 AL4 AMG Pu [s90,s98,AKV] [(7,[0,1,2,3,4,5,6])] [⟨5,⟨[(2,BJ),(6,KA),(8,yD),(19,AF9),(20,BJ),(21,BJ)],[AWB,Ft,Mn,pw,AT4,Ft,Mn,.sl 2 (.sl tI)]⟩,JM⟩]
def AYP:SQ:=mk Tryz.func117 sJ ⟨l9,[AOb,Df,V3,PK,Mp,TT,SV,PQ,Ls,Df]⟩ P2 [s32,AEV,AGe,Aah,AZN] [(9,[0,1,2,3,4,6,7,8,9,10]),(14,[0,1,2,3,4,5,7,8,9,10]),(16,[1,2,3,4,5,6,7,8,9])] [⟨7,⟨[(0,KA),(1,BJ),(35,.c (.ref 5)),(36,BJ),(37,BJ)],AMW⟩,HB⟩,⟨12,⟨[(0,KA),(1,BJ),(62,.c (.ref 6)),(63,BJ),(64,BJ)],AMW⟩,Gq⟩] (hJ:= .cons (fun _=>rfl) (fun n v ω=>by kernel_rfl) (.cons (fun _=>rfl) (fun n v ω=>by rcases ω with _|⟨_|_,_⟩<;>kernel_rfl) (.nil)))
def AXm:SQ:=mk Tryz.func267 lD Cr YG [s32,s74] [] []
def AXn:SQ:=mk Tryz.func268 ⟨[(0,tv)],[]⟩ ⟨ABq,rj⟩ fP [s92,AR6] [] [⟨3,⟨[(3,nE),(9,tv),(10,BJ),(11,BJ)],rj⟩,M4⟩,⟨8,⟨[(3,nE),(9,tv),(10,BJ),(11,BJ),(19,qM),(20,BJ),(21,BJ)],rj⟩,Mv⟩]
abbrev i201:BX:=ALY
abbrev AWh:BX:=⟨ATP,[ZD,.sl 1 Y1,Mn]⟩
def ATn:SQ:=mk Tryz.func201 i201 AWh Z3 [s92,zA,AXm,AXn] [] [⟨5,⟨[(2,aN),(4,BJ),(10,Zq),(12,.c (.ref 4)),(36,nE),(37,BJ),(38,BJ)],[ZD,ALF,Mn,Mn,ZD]⟩,RP⟩]
abbrev yq:BX:=sJ
abbrev ASC:BX:=⟨l9,[AOb,Df,ZD,PK,Mp,TT,SV,PQ,Ls,Df]⟩
def AWA:QP:=⟨yq,ASC,(yq.un Js)⟩
def AZm:Z9:=⟨T,QA (SP.l [gd,s93,AKV,ATn]),CO [(3,[0,1,3,4,5,6,7,8]),(6,[0,1,3,4,5,6,7,8,9])]⟩
def ASD:List (Lp ASC):=[]
theorem AZW(g43:Int→Int→Int→Option Mt)(g93:ABS→Int→Option Ks)(AVe:List Int→Int→Option WR)(AVT:ABO→List Int→Int→Int→AAQ→Option UU)(n:Nat)(ω:List Bool)(v:yq.V):DP ⟨T,QA [(43,⟨i43,o43,i43.un g43⟩),(93,⟨i93,o93,i93.un g93⟩),(157,⟨i157,AWE,i157.un AVe⟩),(201,⟨i201,AWh,i201.un AVT⟩)],CO [(3,[0,1,3,4,5,6,7,8]),(6,[0,1,3,4,5,6,7,8,9])]⟩ AWA Tryz.f118 (Lr 9 ASD n) ω v=yq.un (fun(p1:Int) (AE:Int) (AU:Int) (AK:Bool) (b1:AAH) (b2:AAQ) (b3:AAH) (b4:AAk) (b5:AAt) (b6:AAu) (b7:AA2) (b8:AAs)=>
 (g43 p1 0 (AX ((b2.length:Int)-1))).bind fun u2=>
 cond (!u2.1.1)
  (some ((2,()),(((),AE,(),(),(),AU,(),(),(),(),AK,()),b1,b2,(),b4,b5,b6,b7,b8,b3,())))
 ((g93 (b1,AE,b2,b3,b4,AU,b5,b6,b7,b8,AK,()) p1).bind fun u3=>
 cond (!u3.1.1)
  (some ((2,()),(((),AE,(),(),(),AU,(),(),(),(),AK,()),b1,b2,(),b4,b5,b6,b7,b8,b3,())))
 (let x4:Int:=AX ((b4.length:Int)-1)
 (AVT (b1,AE,()) b3 p1 (if 0>x4 then 0 else x4) b2).bind fun u6=>
 cond (!u6.1.1.2.1)
  (some ((4,()),(((),AE,(),(),(),AU,(),(),(),(),AK,()),b1,u6.2.1,(),b4,b5,b6,b7,b8,b3,())))
 (if(0:Int)≤p1∧p1<(u6.2.1.length:Int)then(
 (AVe b3 p1).bind fun u8=>
 some ((0,()),(((),AE,(),(),(),AU,(),(),(),(),AK,()),b1,(u6.2.1.set (p1.toNat) (u6.2.2.1,u6.2.2.2.1,u6.1.1.1.2.2.1,())),(),b4,b5,b6,b7,b8,u8.2.1,())))else none)))) v:=by rcases ω with _|⟨_|_,_⟩<;>kernel_rfl
theorem AY5(n:Nat)(ω:List Bool)(v:yq.V):DP AZm AWA Tryz.f118 (Lr 9 ASD n) ω v=yq.un (Js) v:=AZW A4 C8 HP Z3 n ω v
def AY1:SQ:=mk Tryz.func118 yq ASC Js [gd,s93,AKV,ATn] [(3,[0,1,3,4,5,6,7,8]),(6,[0,1,3,4,5,6,7,8,9])] ASD (hJ:= .nil) (he:=AY5 Ae)
def AXg:SQ:=mk Tryz.func202 ln wb iJ [] [] []
def AZY:SQ:=mk Tryz.func119 AC7 ⟨l9,[.mem [.ref 1,.v tI,.ref 2,.ref 3,.ref 4,.v tI,.ref 5,.ref 9,.ref 7,.ref 8,.v .bool],Df,V3,Df,Mp,TT,PK,PQ,Ls,SV]⟩ P0 [s36,AXg] [(1,[0,1,2,3,4,5,6,7,8])] []
abbrev i203:BX:=gj
abbrev ASX:BX:=zW
def AUs:SQ:=mk Tryz.func203 i203 ASX Np [gd,ATx,AKX] [] []
abbrev ADh:BX:=gj
abbrev AMv:BX:=vG
def AUT:SQ:=mk Tryz.func205 ADh AMv Ph [s92,s95] [] [⟨5,⟨[(1,BJ),(5,nE),(14,qM),(15,BJ),(16,BJ)],[Mn]⟩,Lf⟩]
abbrev AE4:BX:=AMX
abbrev AQe:BX:=⟨ANs,[Df,.sl 1 Y1,pw]⟩
def AUe:SQ:=mk Tryz.func204 AE4 AQe PX [s90,s95,s98,AGe,AR6,AOR] [(8,[0,1,2,3,4,5,6,7,8,9,10])] [⟨6,⟨[(4,KA),(5,Zq),(8,xP8),(10,.c (.ptr 6 0)),(31,qM),(32,BJ),(33,BJ)],[ud,zK,AVx,Ft,Mn,pw,AVa,Df,.sl 1 Y1,pw]⟩,Ll⟩]
end
end Go.Proofs.YtebiojjohcpanaaGreat.Wk
