/- Each function computes what was printed: by the kernel. -/
import Derived.Test.YtebiojjohcpanaaGreatG0
import Derived.Test.YtebiojjohcpanaaGreatProg
import Derived.KernelRfl
set_option linter.unusedVariables false
set_option linter.unusedSimpArgs false
set_option linter.unusedSectionVars false
namespace Go.Proofs.YtebiojjohcpanaaGreat.Wk
open Go Go.Fw Go.M Go.Proofs
noncomputable section
abbrev tI:Ty:= .int .i64
abbrev tU:Ty:= .int .u8
abbrev Y0:Ty:=(.cons (.sl tI) (.cons tI .unit))
abbrev Y1:Ty:=(.cons tI (.cons tI (.cons .bool (.cons .str .unit))))
abbrev Y2:Ty:=(.cons (.sl Y1) (.cons (.sl Y1) (.cons tI .unit)))
abbrev Y3:Ty:=(.cons (.sl tI) (.cons .bool (.cons tI .unit)))
abbrev Y4:Ty:=(.cons (.sl Y3) (.cons tI .unit))
abbrev Y5:Ty:=(.cons .str (.cons (.sl tI) (.cons .bool .unit)))
abbrev Y6:Ty:=(.cons tI (.cons (.sl Y5) .unit))
abbrev Y7:Ty:=(.cons tI (.cons tI (.cons (.sl tI) (.cons (.sl Y1) (.cons .bool (.cons (.sl (.sl tI)) .unit))))))
abbrev Y8:Ty:=(.cons tI (.cons tI (.cons .str .unit)))
abbrev Y9:Ty:=(.cons tI (.cons tI (.cons (.sl Y8) .unit)))
abbrev Y10:Ty:=(.cons tI (.cons .str (.cons .bool .unit)))
abbrev Y11:Ty:=(.cons (.sl tI) (.cons tI (.cons (.sl Y2) (.cons (.sl tI) (.cons (.sl Y3) (.cons tI (.cons (.sl Y6) (.cons (.sl Y7) (.cons (.sl Y9) (.cons (.sl Y10) (.cons .bool .unit)))))))))))
abbrev Y12:Ty:=(.cons tI (.cons tI (.cons tI (.cons tI (.cons .str .unit)))))
abbrev Y13:Ty:=(.cons (.sl tU) (.cons tI (.cons tI .unit)))
abbrev Y14:Ty:=(.cons tI (.cons .bool (.cons tI (.cons tI (.cons .bool (.cons .str .unit))))))
def T:JY:=[(3,⟨1,8,.int .i64,some tI⟩),
 (4,⟨1,1,.bool,some .bool⟩),
 (5,⟨1,1,.int .u8,some tU⟩),
 (9,⟨1,16,.str,some .str⟩),
 (22,⟨1,24,.sl 5,some (.sl tU)⟩),
 (24,⟨1,24,.sl 3,some (.sl tI)⟩),
 (26,⟨2,32,.st [(0,24),(1,3)],some Y0⟩),
 (27,⟨1,24,.sl 94,some (.sl Y2)⟩),
 (28,⟨1,24,.sl 71,some (.sl Y3)⟩),
 (30,⟨2,32,.st [(0,28),(1,3)],some Y4⟩),
 (31,⟨1,24,.sl 63,some (.sl Y6)⟩),
 (32,⟨1,24,.sl 115,some (.sl Y7)⟩),
 (33,⟨1,24,.sl 49,some (.sl Y9)⟩),
 (34,⟨1,24,.sl 45,some (.sl Y10)⟩),
 (36,⟨11,216,.st [(0,26),(2,27),(3,24),(4,30),(6,31),(7,32),(8,33),(9,34),(10,4)],some Y11⟩),
 (37,⟨1,24,.sl 54,some (.sl Y12)⟩),
 (45,⟨3,32,.st [(0,3),(1,9),(2,4)],some Y10⟩),
 (47,⟨1,24,.sl 79,some (.sl Y8)⟩),
 (49,⟨3,40,.st [(0,3),(1,3),(2,47)],some Y9⟩),
 (54,⟨5,48,.st [(0,3),(1,3),(2,3),(3,3),(4,9)],some Y12⟩),
 (61,⟨1,24,.sl 162,some (.sl Y5)⟩),
 (63,⟨2,32,.st [(0,3),(1,61)],some Y6⟩),
 (71,⟨3,40,.st [(0,24),(1,4),(2,3)],some Y3⟩),
 (74,⟨1,8,.ptr 121,none⟩),
 (79,⟨3,32,.st [(0,3),(1,3),(2,9)],some Y8⟩),
 (87,⟨1,8,.other,none⟩),
 (92,⟨1,24,.sl 96,some (.sl Y1)⟩),
 (94,⟨3,56,.st [(0,92),(1,92),(2,3)],some Y2⟩),
 (96,⟨4,40,.st [(0,3),(1,3),(2,4),(3,9)],some Y1⟩),
 (103,⟨1,24,.sl 9,some (.sl .str)⟩),
 (113,⟨1,24,.sl 24,some (.sl (.sl tI))⟩),
 (115,⟨6,96,.st [(0,3),(1,3),(2,24),(3,92),(4,4),(5,113)],some Y7⟩),
 (121,⟨3,40,.st [(0,22),(1,3),(2,3)],some Y13⟩),
 (129,⟨1,8,.ptr 36,none⟩),
 (155,⟨1,8,.other,none⟩),
 (162,⟨3,48,.st [(0,9),(1,24),(2,4)],some Y5⟩),
 (189,⟨1,24,.sl 191,some (.sl Y14)⟩),
 (191,⟨6,56,.st [(0,3),(1,4),(2,96)],some Y14⟩),
 (199,⟨1,8,.other,none⟩),
 (202,⟨1,8,.int .u64,some (.int .u64)⟩),
 (205,⟨1,24,.sl 4,some (.sl .bool)⟩),
 (206,⟨1,8,.other,none⟩),
 (238,⟨1,8,.ptr 49,none⟩)]
theorem tOk:Eo Tryz.prog T:=qf (by kernel_rfl)
theorem mx:Tryz.prog.follows .mixedOrders=true:=by kernel_rfl
abbrev SQ:=SP Tryz.prog
def mk{f:Nat}{fn:Func}(hf:Tryz.prog.funcs[f]? =some fn)(i o:Ba)(g:i.Cu (Option o.V))(l:List SQ)(h:List AF9)(L:List (Lp o))
  (hJ:Wg ⟨T,Q_ (SP.l l),CX h⟩ ⟨i,o,i.un g⟩ fn (M9 i.Gr.length L) L:=by
   repeat refine Wg.cons (fun _=>rfl) (fun _ _ _=>by kernel_rfl) ?_
   exact Wg.nil)
  (he:∀ω v,DR ⟨T,Q_ (SP.l l),CX h⟩ ⟨i,o,i.un g⟩ fn (M9 i.Gr.length L Ae) ω v=i.un g v:=by intro ω v;kernel_rfl)
  (hL:jW fn=Lp.ls L:=by kernel_rfl) (hd:decide (Lp.ls L).Nodup=true:=by kernel_rfl) (hc:iA fn ⟨i,o,i.un g⟩=true:=by kernel_rfl):SQ:=
 mkP tOk mx hf i o g l h L Ae hL hd hc hJ he
abbrev xP0:XP:= .c (.v .bool)
abbrev Kf:XP:= .c (.ptr 0 0)
abbrev BO:XP:= .c (.v tI)
abbrev Ze:XP:= .c (.ptr 1 0)
abbrev q6:XP:= .row Y0
abbrev Z8:XP:= .c (.sl false tI)
abbrev xP6:XP:= .c (.ref 1)
abbrev nq:XP:= .c (.ref 0)
abbrev xP8:XP:= .c (.ptr 2 0)
abbrev qv:XP:= .c (.sl false Y1)
abbrev ARD:XP:= .agg [.ref 0,.v tI,.ref 1,.ref 2,.ref 3,.v tI,.ref 4,.ref 5,.ref 6,.ref 7,.v .bool]
abbrev bO:XP:= .c (.ptr 10 0)
abbrev gA:XP:= .c (.ptr 8 0)
abbrev cT:XP:= .c (.ptr 9 0)
abbrev mc:XP:= .c (.ptr 18 0)
abbrev yD:XP:= .c (.ptr 4 0)
abbrev jv:XP:= .c (.ptr 19 0)
abbrev xX:XP:= .c (.sl false Y2)
abbrev rB:XP:= .c (.sl false Y14)
abbrev AJX:XP:= .c (.sl false Y5)
abbrev ALf:XP:= .c (.sl false (.sl tI))
abbrev ALK:XP:= .c (.sl false Y9)
abbrev AIH:XP:= .c (.qt 252 [(.cons (.sl tI) .unit)])
abbrev w8:XP:= .c (.my Y11)
abbrev ACa:XP:= .c (.sl false Y10)
abbrev AKh:XP:= .c (.qt 248 [(.cons tI .unit)])
abbrev AJp:XP:= .c (.qt 276 [(.cons tI .unit)])
abbrev ARB:XP:= .c (.sl false Y12)
abbrev tT:BP:= .mem [.sl true tU,.v tI,.v tI]
abbrev Es:BP:= .sl 9 tI
abbrev vJ:BP:= .mem [.sl false tI,.v tI]
abbrev Xo:BP:= .sl 9 Y2
abbrev RN:BP:= .sl 9 Y3
abbrev Xu:BP:= .sl 9 Y6
abbrev Xs:BP:= .sl 9 Y7
abbrev Xk:BP:= .sl 9 Y9
abbrev Rr:BP:= .sl 9 Y10
abbrev AOk:BP:= .mem [.sl false Y3,.v tI]
abbrev AGz:BP:= .mem [.sl false tI,.v tI,.sl false Y2,.sl false tI,.sl false Y3,.v tI,.sl false Y6,.sl false Y7,.sl false Y9,.sl false Y10,.v .bool]
abbrev ADr:BP:= .mem [.v tI,.v tI,.v tI,.v tI,.v .str]
abbrev yS:BP:= .mem [.v tI,.v tI,.sl false tI,.sl false Y1,.v .bool,.sl false (.sl tI)]
abbrev AH3:BP:= .mem [.v tI,.sl false Y5]
abbrev MX:BP:= .sl 9 Y1
abbrev qk:BP:= .sl 9 (.sl tI)
abbrev ALF:BP:= .mem [.ref 2,.v tI,.ref 3,.ref 4,.ref 5,.v tI,.ref 6,.ref 7,.ref 8,.ref 9,.v .bool]
abbrev ABt:BP:= .mem [.ref 11,.v tI,.ref 12,.ref 13,.ref 14,.v tI,.ref 15,.ref 16,.ref 17,.ref 18,.v .bool]
abbrev C6:BP:= .sl 1 tI
abbrev V3:BP:= .sl 2 Y2
abbrev KX:BP:= .sl 2 Y3
abbrev Q4:BP:= .sl 3 Y6
abbrev SZ:BP:= .sl 3 Y7
abbrev Ox:BP:= .sl 2 Y9
abbrev Jh:BP:= .sl 1 Y10
abbrev PS:BP:= .gone
abbrev ri:BP:= .mem [.ref 0,.v tI,.ref 1,.ref 2,.ref 3,.v tI,.ref 4,.ref 5,.ref 6,.ref 7,.v .bool]
abbrev rh:BP:= .mem [.ref 10,.v tI,.ref 11,.ref 12,.ref 13,.v tI,.ref 14,.ref 15,.ref 16,.ref 17,.v .bool]
abbrev AQp:BP:= .mem [.v tI,.v .str,.v .bool]
abbrev ABd:BP:= .mem [.v tI,.v tI,.v .bool,.v .str]
abbrev AN2:BP:= .mem [.sl false Y1,.sl false Y1,.v tI]
abbrev AHs:BP:= .mem [.ref 2,.ref 3,.v tI]
abbrev ARg:BP:= .mem [.ref 5,.ref 6,.v tI]
abbrev UQ:BP:= .sl 1 Y2
abbrev ij:BP:= .sl 1 Y6
abbrev zV:BP:= .mem [.sl true Y1,.sl true Y1,.v tI]
abbrev AUI:BP:= .mem [.v tI,.v tI,.ref 1,.ref 2,.v .bool,.ref 3]
abbrev AUW:BP:= .mem [.v tI,.v tI,.ref 5,.ref 6,.v .bool,.ref 7]
abbrev AVg:BP:= .mem [.v tI,.v tI,.ref 3,.ref 4,.v .bool,.ref 5]
abbrev AUZ:BP:= .mem [.v tI,.v tI,.ref 7,.ref 8,.v .bool,.ref 9]
abbrev AV5:BP:= .mem [.sl true tI,.v tI,.sl true Y2,.sl true tI,.sl true Y3,.v tI,.sl true Y6,.sl true Y7,.sl true Y9,.sl true Y10,.v .bool]
abbrev rQ:BP:= .mem [.ref 1,.v tI,.ref 2,.ref 3,.ref 4,.v tI,.ref 5,.ref 6,.ref 7,.ref 8,.v .bool]
abbrev AO0:BP:= .mem [.ref 1,.v tI,.ref 2,.ref 9,.ref 4,.v tI,.ref 5,.ref 6,.ref 7,.ref 8,.v .bool]
abbrev nP:List (Nat×XP):=[(0,BO)]
abbrev AHS:List (Nat×XP):=[(1,Kf),(3,BO)]
abbrev ACI:List (Nat×XP):=[(0,nq)]
abbrev AKv:List (Nat×XP):=[(0,xP6)]
abbrev AUe:List (Nat×XP):=[(0,.agg [.v tI,.v tI,.v tI,.v tI,.v .str])]
abbrev AWA:List (Nat×XP):=[(2,Kf),(3,Ze),(5,BO),(6,BO)]
abbrev AW2:List (Nat×XP):=[(1,Kf),(2,Ze),(3,.c (.ptr 3 0)),(4,BO)]
abbrev AOp:List (Nat×XP):=[(0,ARD)]
abbrev AWr:List (Nat×XP):=[(0,.MH [.inr [.ref 0,.ref 1,.v tI],.inl (.v .bool)])]
abbrev AST:List (Nat×XP):=[(0,.MH [.inr [.ref 0,.v tI,.ref 1,.ref 2,.ref 3,.v tI,.ref 4,.ref 5,.ref 6,.ref 7,.v .bool],.inl (.v tI)])]
abbrev AV4:List (Nat×XP):=[(0,.MH [.inr [.v tI,.ref 0],.inl (.v .bool)])]
abbrev APe:List (Nat×XP):=[(0,.MH [.inr [.v tI,.v tI,.ref 0,.ref 1,.v .bool,.ref 2],.inl (.v .bool)])]
abbrev AVF:List (Nat×XP):=[(0,.MH [.inr [.ref 0,.v tI,.ref 1,.ref 8,.ref 3,.v tI,.ref 4,.ref 5,.ref 6,.ref 7,.v .bool],.inl (.v tI)])]
abbrev AU3:List (Nat×XP):=[(0,.MH [.inr [.ref 1,.ref 2,.v tI],.inl (.v .bool)])]
abbrev AUp:List (Nat×XP):=[(0,.MH [.inr [.v tI,.v tI,.ref 0],.inl (.v tI)])]
abbrev AVp:List (Nat×XP):=[(0,Kf),(1,BO),(2,BO)]
abbrev AVw:List (Nat×XP):=[(0,.MH [.inr [.ref 0,.v tI,.ref 1,.ref 2,.ref 3,.v tI,.ref 4,.ref 5,.ref 6,.ref 7,.v .bool],.inl (.ref 8)])]
abbrev rC:List BP:=[tT]
abbrev ATq:List BP:=[tT,Es]
abbrev API:List BP:=[vJ]
abbrev AVT:List BP:=[Es,Xo,Es,RN,Xu,Xs,Xk,Rr]
abbrev uj:List BP:=[Es]
abbrev AWG:List BP:=[tT,vJ,Es]
abbrev ACw:List BP:=[AGz]
abbrev ATg:List BP:=[vJ,AOk]
abbrev AU2:List BP:=[vJ,AH3]
abbrev AO8:List BP:=[vJ,yS]
abbrev AVz:List BP:=[Es,MX,qk]
abbrev AQm:List BP:=[yS,.mem [.v tI,.v tI,.ref 2,.ref 3,.v .bool,.ref 4],Es,MX,qk,.mem [.v tI,.v tI,.ref 6,.ref 7,.v .bool,.ref 8],Es,MX,qk]
abbrev br:List BP:=[AGz,ALF,Es,Xo,Es,RN,Xu,Xs,Xk,Rr,ABt,Es,Xo,Es,RN,Xu,Xs,Xk,Rr]
abbrev AET:List BP:=[C6,V3,C6,KX,Q4,SZ,Ox,Jh]
abbrev AMn:List BP:=[C6,UQ,C6,KX,ij,.sl 1 Y7,Ox,Jh]
abbrev AAM:List BP:=[C6,UQ,C6,KX,ij,SZ,Ox,Jh,ri,rh,Es,Xo,Es,RN,Xu,Xs,Xk,Rr,zV,.mem [.v tI,.sl true Y5]]
abbrev AL3:List BP:=[.mem [.v tI,.ref 1],.sl 9 Y5,.mem [.v tI,.ref 3],.sl 9 Y5]
abbrev AMS:List BP:=[AUI,Es,MX,qk,AUW,Es,MX,qk]
abbrev AMw:List BP:=[C6,V3,C6,KX,Q4,SZ,Ox,Jh,.mem [.ref 0,.v tI,.ref 1,.ref 9,.ref 3,.v tI,.ref 4,.ref 5,.ref 6,.ref 7,.v .bool],Es,ADr,.mem [.ref 12,.v tI,.ref 13,.ref 14,.ref 15,.v tI,.ref 16,.ref 17,.ref 18,.ref 19,.v .bool],Es,Xo,Es,RN,Xu,Xs,Xk,Rr]
abbrev AMX:List BP:=[UQ,AHs,MX,MX,ARg,MX,MX,UQ]
abbrev AMY:List BP:=[vJ,Es]
abbrev fU:List BP:=[rQ,C6,V3,C6,KX,Q4,SZ,Ox,Jh]
abbrev sy:List BP:=[.sl 1 Y1]
abbrev AMr:List BP:=[AO0,C6,V3,C6,KX,Q4,SZ,Ox,Jh,C6]
abbrev AMM:List BP:=[.mem [.v tI,.v tI,.ref 1],.sl 1 Y8]
abbrev AMi:List BP:=[rQ,C6,V3,C6,KX,Q4,SZ,.sl 1 Y9,Jh]
abbrev CY:Ba:=⟨[(0,xP0)],[]⟩
abbrev AEI:Ba:=⟨[(0,.c (.sl true tU))],[]⟩
abbrev AEK:Ba:=⟨[(0,Kf)],rC⟩
abbrev Ff:Ba:=⟨nP,[]⟩
abbrev AEF:Ba:=⟨nP,rC⟩
abbrev AF3:Ba:=⟨[(0,Kf),(1,BO)],rC⟩
abbrev AL2:Ba:=⟨[(0,BO),(1,BO),(2,BO)],[]⟩
abbrev zz:Ba:=⟨[(0,q6)],[]⟩
abbrev ln:Ba:=⟨[(0,q6),(1,Z8)],[]⟩
abbrev AA_:Ba:=⟨[(0,.agg [.v tI,.v tI,.ref 0])],[.sl 9 Y8]⟩
abbrev lx:Ba:=⟨[(0,BO),(1,BO)],[]⟩
abbrev mG:Ba:=⟨[(0,Z8),(1,BO)],[]⟩
abbrev fJ:Ba:=⟨ACI,uj⟩
abbrev AMu:Ba:=⟨[(0,Kf),(1,q6)],rC⟩
abbrev ALx:Ba:=⟨AKv,ATq⟩
abbrev ABE:Ba:=⟨[(0,.row Y4)],[]⟩
abbrev AMe:Ba:=⟨[(0,.row Y4),(1,BO)],[]⟩
abbrev AFQ:Ba:=⟨[(0,Kf),(1,.row Y11)],rC⟩
abbrev ADq:Ba:=⟨AUe,rC⟩
abbrev AEq:Ba:=⟨[(0,qv),(1,BO)],[]⟩
abbrev zr:Ba:=⟨[(0,qv)],[]⟩
abbrev lf:Ba:=⟨[(0,.row Y2)],[]⟩
abbrev lr:Ba:=⟨[(0,.row Y11)],[]⟩
abbrev AM7:Ba:=⟨AHS,ACw⟩
abbrev AD0:Ba:=⟨[(0,q6),(1,.row Y4)],[]⟩
abbrev ADS:Ba:=⟨[(0,q6),(1,.row Y6)],[]⟩
abbrev xE:Ba:=⟨[(0,.row Y7)],[]⟩
abbrev xB:Ba:=⟨[(0,q6),(1,.row Y7)],[]⟩
abbrev AMZ:Ba:=⟨[(2,Kf),(3,Ze),(5,BO)],AO8⟩
abbrev AAU:Ba:=⟨[(0,.row Y9)],[]⟩
abbrev AFG:Ba:=⟨[(0,.row Y12)],[]⟩
abbrev AD6:Ba:=⟨[(0,.agg [.ref 0,.v tI])],[RN]⟩
abbrev AFa:Ba:=⟨[(0,.agg [.ref 0,.ref 1,.v tI])],[MX,MX]⟩
abbrev AAB:Ba:=⟨[(0,.row Y6)],[]⟩
abbrev AE7:Ba:=⟨[(0,.agg [.v tI,.ref 0])],[.sl 9 Y5]⟩
abbrev wV:Ba:=⟨[(0,.agg [.v tI,.v tI,.ref 0,.ref 1,.v .bool,.ref 2])],AVz⟩
abbrev AMq:Ba:=⟨AOp,AVT⟩
abbrev AMt:Ba:=⟨[(0,q6),(1,.row Y4),(2,Z8)],[]⟩
abbrev AMo:Ba:=⟨[(0,.MH [.inr [.ref 0,.v tI],.inl (.v tI),.inl (.v .bool)])],[RN]⟩
abbrev bm:Ba:=⟨[(0,ARD),(1,.row Y12)],AET⟩
abbrev xW:Ba:=⟨[(0,.row Y11),(1,BO)],[]⟩
abbrev AMH:Ba:=⟨[(0,q6),(1,.row Y6),(2,.c (.v .str))],[]⟩
abbrev AM3:Ba:=⟨[(0,.MH [.inr [.v tI,.ref 0],.inl (.v tI),.inl (.v .bool)])],[.sl 9 Y5]⟩
abbrev AEL:Ba:=⟨[(0,.row Y2),(1,.row Y1)],[]⟩
abbrev tL:Ba:=⟨AWr,[MX,MX]⟩
abbrev r6:Ba:=⟨AST,AET⟩
abbrev AMb:Ba:=⟨[(0,.row Y1),(1,.row Y1)],[]⟩
abbrev AM4:Ba:=⟨[(0,.agg [.v tI,.v tI,.v .bool,.v .str])],[]⟩
abbrev wq:Ba:=⟨ACI,[MX]⟩
abbrev iM:Ba:=⟨[(0,.row Y2),(1,BO)],[]⟩
abbrev AL_:Ba:=⟨[(1,BO),(2,Kf),(4,Ze),(6,yD),(7,BO)],[AN2,AHs,MX,MX,ARg,MX,MX]⟩
abbrev vt:Ba:=⟨[(0,.MH [.inr [.v tI,.v tI,.v .bool,.v .str],.inl (.v .bool)])],[]⟩
abbrev AL6:Ba:=⟨[(0,q6),(1,.row Y6),(2,BO),(3,BO)],[]⟩
abbrev AMA:Ba:=⟨AV4,[.sl 9 Y5]⟩
abbrev oJ:Ba:=⟨[(0,.MH [.inl (.v tI),.inl (.v .bool)])],[]⟩
abbrev AM0:Ba:=⟨[(0,.row Y7),(1,BO)],[]⟩
abbrev AM6:Ba:=⟨[(0,q6),(1,.row Y7),(2,BO),(3,BO)],[]⟩
abbrev wY:Ba:=⟨APe,AVz⟩
abbrev AMy:Ba:=⟨AST,AMn⟩
abbrev AAJ:Ba:=⟨[(0,Z8),(1,Z8)],[]⟩
abbrev AMW:Ba:=⟨[(0,q6),(1,.row Y6),(2,BO)],[]⟩
abbrev AL7:Ba:=⟨[(0,q6),(1,.row Y7),(2,BO)],[]⟩
abbrev AMs:Ba:=⟨[(0,q6),(1,nq),(2,Z8),(3,BO),(4,BO)],[V3]⟩
abbrev AEw:Ba:=⟨AOp,AET⟩
abbrev AME:Ba:=⟨[(0,q6),(1,.row Y7),(2,BO),(3,qv)],[]⟩
abbrev AEv:Ba:=⟨[(0,q6),(1,Z8),(2,Z8)],[]⟩
abbrev AMR:Ba:=⟨[(0,q6),(1,.row Y7),(2,Z8)],[]⟩
abbrev AL9:Ba:=⟨[(0,q6),(1,.row Y4),(2,BO),(3,BO)],[]⟩
abbrev AAL:Ba:=⟨[(0,.MH [.inr [.ref 0,.v tI],.inl (.v .bool)])],[RN]⟩
abbrev AMx:Ba:=⟨[(0,q6),(1,.row Y4),(2,BO)],[]⟩
abbrev AMl:Ba:=⟨[(0,q6),(1,.row Y4),(2,BO),(3,.row Y9),(4,rB)],[]⟩
abbrev AMJ:Ba:=⟨[(0,.row Y11),(1,.row Y12)],[]⟩
abbrev AMg:Ba:=⟨AKv,[PS,C6]⟩
abbrev AE6:Ba:=⟨ACI,[C6]⟩
abbrev AA8:Ba:=⟨[(0,w8),(1,BO)],[]⟩
abbrev wF:Ba:=⟨[(0,w8)],[]⟩
abbrev tK:Ba:=⟨[(0,Kf),(1,BO)],fU⟩
abbrev pd:Ba:=⟨nP,fU⟩
abbrev AMN:Ba:=⟨[(0,Kf),(1,.row Y12)],fU⟩
abbrev AMa:Ba:=⟨AKv,[PS,.sl 1 Y1]⟩
abbrev AAD:Ba:=⟨AWr,[.sl 1 Y1,MX]⟩
abbrev AL8:Ba:=⟨AV4,[.sl 2 Y5]⟩
abbrev AAE:Ba:=⟨AVp,fU⟩
abbrev AMf:Ba:=⟨[(0,.MH [])],fU⟩
abbrev AEu:Ba:=⟨[(0,Kf),(1,BO),(2,BO),(6,BO)],fU⟩
abbrev AMT:Ba:=⟨APe,[Es,MX,.sl 2 (.sl tI)]⟩
abbrev AFf:Ba:=⟨[(0,Kf)],fU⟩
abbrev AM2:Ba:=⟨[(0,.MH [])],[.mem [.v tI,.v tI,.ref 2],PS,.sl 1 Y8]⟩
abbrev AMz:Ba:=⟨[(0,.row Y11),(1,ARB)],[]⟩
abbrev i9:Ba:=⟨[(0,.c (.sl false tU))],[]⟩
abbrev o9:Ba:=CY
def s9:SQ:=mk Tryz.func9 i9 o9 de [] [] []
def s38:SQ:=mk Tryz.func38 AEI AEK bG [] [] [⟨3,⟨[(0,.c (.sl true tU)),(3,BO),(4,BO)],[]⟩,Pj⟩]
def s39:SQ:=mk Tryz.func39 ⟨[(0,.c (.sl false tU)),(1,BO),(2,BO)],[]⟩ Ff Yt [] [] []
def AYI:SQ:=mk Tryz.func155 AEK AEF Lq [] [(2,[0]),(3,[0]),(4,[0])] []
def s63:SQ:=mk Tryz.func63 AF3 AEF Ak [AYI] [] []
def s62:SQ:=mk Tryz.func62 AF3 ⟨[(0,xP0)],rC⟩ B4 [s63] [] []
def s81:SQ:=mk Tryz.func81 AEK ⟨[(0,.agg [.ref 1,.v tI])],ATq⟩ Oo [s62,s63] [(6,[1,2])] [⟨4,⟨[(0,Kf),(2,Ze),(3,.c (.ptr 3 0)),(4,BO),(5,BO)],[tT,.mem [.ref 2,.v tI],Es,.mem [.ref 4,.v tI],Es]⟩,IB⟩] (hJ:= .cons (fun _=>rfl) (fun n v ω=>by rcases ω with _|⟨_|_,_|⟨_|_,_⟩⟩<;>kernel_rfl) (.nil))
def Xt:SQ:=mk Tryz.func129 AL2 CY CG [] [] []
abbrev i167:Ba:=zz
abbrev AaS:Ba:=CY
def w5:SQ:=mk Tryz.func167 i167 AaS GO [Xt] [] [⟨4,⟨AHS,API⟩,LO⟩]
def AU7:SQ:=mk Tryz.func163 ⟨[(0,Z8),(1,BO),(2,BO)],[]⟩ CY XC [Xt] [] [⟨2,⟨[(0,Z8),(1,BO),(2,BO),(7,BO)],[]⟩,Mx⟩]
def zB:SQ:=mk Tryz.func165 ln CY GY [AU7,w5] [] []
def AVW:SQ:=mk Tryz.func166 ln Ff T9 [] [(6,[0,1])] [⟨4,⟨[(1,Z8),(2,Kf),(5,xP6),(6,BO),(7,BO)],[vJ,.sl 9 .bool]⟩,OA⟩]
abbrev i82:Ba:=ln
abbrev o82:Ba:=CY
def s82:SQ:=mk Tryz.func82 i82 o82 FL [zB,AVW] [(1,[0])] []
abbrev i168:Ba:=⟨[],[]⟩
abbrev AXq:Ba:=AA_
def AUi:SQ:=mk Tryz.func168 i168 AXq XO [] [] []
abbrev i83:Ba:=zz
abbrev o83:Ba:=⟨[(0,.MH [.inr [.ref 0,.v tI,.ref 1,.ref 2,.ref 3,.v tI,.ref 4,.ref 5,.ref 6,.ref 7,.v .bool],.inl (.v .bool)])],AVT⟩
def c83:QU:=⟨i83,o83,(i83.un HP)⟩
def C83:aN:=⟨T,Q_ (SP.l [w5,AUi]),CX [(3,[0,1]),(4,[0,4])]⟩
def L83:List (Lp o83):=[]
def BE(ω:List Bool):Prop:= ∀(n:Nat) (v:i83.V),DR C83 c83 Tryz.f83 (M9 0 L83 n) ω v=i83.un (HP) v
theorem AWY:BE []:=by delta BE;intros;kernel_rfl
theorem AWp:BE (false::[]):=by delta BE;intros;kernel_rfl
theorem AUn:BE (false::false::[]):=by delta BE;intros;kernel_rfl
theorem AUs:BE (false::false::false::[]):=by delta BE;intros;kernel_rfl
theorem AW9:BE (false::false::false::false::[]):=by delta BE;intros;kernel_rfl
theorem AV3:BE (false::false::false::false::false::[]):=by delta BE;intros;kernel_rfl
theorem ATc:BE (false::false::false::false::false::false::[]):=by delta BE;intros;kernel_rfl
theorem AV1:BE (false::false::false::false::false::false::false::[]):=by delta BE;intros;kernel_rfl
theorem ATp(ω:List Bool):BE (false::false::false::false::false::false::false::false::ω):=by delta BE;intros;kernel_rfl
theorem ANR(ω:List Bool):BE (false::false::false::false::false::false::false::true::ω):=by delta BE;intros;kernel_rfl
theorem AQP:BE (false::false::false::false::false::false::true::[]):=by delta BE;intros;kernel_rfl
theorem AR3(ω:List Bool):BE (false::false::false::false::false::false::true::false::ω):=by delta BE;intros;kernel_rfl
theorem AQf(ω:List Bool):BE (false::false::false::false::false::false::true::true::ω):=by delta BE;intros;kernel_rfl
theorem AR6:BE (false::false::false::false::false::true::[]):=by delta BE;intros;kernel_rfl
theorem AR4(ω:List Bool):BE (false::false::false::false::false::true::false::ω):=by delta BE;intros;kernel_rfl
theorem AQ8(ω:List Bool):BE (false::false::false::false::false::true::true::ω):=by delta BE;intros;kernel_rfl
theorem APL:BE (false::false::false::false::true::[]):=by delta BE;intros;kernel_rfl
theorem APH:BE (false::false::false::false::true::false::[]):=by delta BE;intros;kernel_rfl
theorem AQN(ω:List Bool):BE (false::false::false::false::true::false::false::ω):=by delta BE;intros;kernel_rfl
theorem AO4(ω:List Bool):BE (false::false::false::false::true::false::true::ω):=by delta BE;intros;kernel_rfl
theorem APb(ω:List Bool):BE (false::false::false::false::true::true::ω):=by delta BE;intros;kernel_rfl
theorem ASx:BE (false::false::false::true::[]):=by delta BE;intros;kernel_rfl
theorem AQt:BE (false::false::false::true::false::[]):=by delta BE;intros;kernel_rfl
theorem APh(ω:List Bool):BE (false::false::false::true::false::false::ω):=by delta BE;intros;kernel_rfl
theorem AP7(ω:List Bool):BE (false::false::false::true::false::true::ω):=by delta BE;intros;kernel_rfl
theorem ANM(ω:List Bool):BE (false::false::false::true::true::ω):=by delta BE;intros;kernel_rfl
theorem AOY:BE (false::false::true::[]):=by delta BE;intros;kernel_rfl
theorem AO9:BE (false::false::true::false::[]):=by delta BE;intros;kernel_rfl
theorem ANh:BE (false::false::true::false::false::[]):=by delta BE;intros;kernel_rfl
theorem AR2(ω:List Bool):BE (false::false::true::false::false::false::ω):=by delta BE;intros;kernel_rfl
theorem APF(ω:List Bool):BE (false::false::true::false::false::true::ω):=by delta BE;intros;kernel_rfl
theorem ASP(ω:List Bool):BE (false::false::true::false::true::ω):=by delta BE;intros;kernel_rfl
theorem AOc(ω:List Bool):BE (false::false::true::true::ω):=by delta BE;intros;kernel_rfl
theorem ARa:BE (false::true::[]):=by delta BE;intros;kernel_rfl
theorem ANp:BE (false::true::false::[]):=by delta BE;intros;kernel_rfl
theorem AOB:BE (false::true::false::false::[]):=by delta BE;intros;kernel_rfl
theorem AOX(ω:List Bool):BE (false::true::false::false::false::ω):=by delta BE;intros;kernel_rfl
theorem ARK(ω:List Bool):BE (false::true::false::false::true::ω):=by delta BE;intros;kernel_rfl
theorem AQS(ω:List Bool):BE (false::true::false::true::ω):=by delta BE;intros;kernel_rfl
theorem ASr(ω:List Bool):BE (false::true::true::ω):=by delta BE;intros;kernel_rfl
theorem AQx:BE (true::[]):=by delta BE;intros;kernel_rfl
theorem ARj:BE (true::false::[]):=by delta BE;intros;kernel_rfl
theorem AOz:BE (true::false::false::[]):=by delta BE;intros;kernel_rfl
theorem ANk:BE (true::false::false::false::[]):=by delta BE;intros;kernel_rfl
theorem ASh:BE (true::false::false::false::false::[]):=by delta BE;intros;kernel_rfl
theorem ANP:BE (true::false::false::false::false::false::[]):=by delta BE;intros;kernel_rfl
theorem ARE:BE (true::false::false::false::false::false::false::[]):=by delta BE;intros;kernel_rfl
theorem APt:BE (true::false::false::false::false::false::false::false::[]):=by delta BE;intros;kernel_rfl
theorem AOm(ω:List Bool):BE (true::false::false::false::false::false::false::false::false::ω):=by delta BE;intros;kernel_rfl
theorem ARl(ω:List Bool):BE (true::false::false::false::false::false::false::false::true::ω):=by delta BE;intros;kernel_rfl
theorem AR1:BE (true::false::false::false::false::false::false::true::[]):=by delta BE;intros;kernel_rfl
theorem AOI(ω:List Bool):BE (true::false::false::false::false::false::false::true::false::ω):=by delta BE;intros;kernel_rfl
theorem APi(ω:List Bool):BE (true::false::false::false::false::false::false::true::true::ω):=by delta BE;intros;kernel_rfl
theorem ARq:BE (true::false::false::false::false::false::true::[]):=by delta BE;intros;kernel_rfl
theorem ARh(ω:List Bool):BE (true::false::false::false::false::false::true::false::ω):=by delta BE;intros;kernel_rfl
theorem APK(ω:List Bool):BE (true::false::false::false::false::false::true::true::ω):=by delta BE;intros;kernel_rfl
theorem AOT:BE (true::false::false::false::false::true::[]):=by delta BE;intros;kernel_rfl
theorem ARJ:BE (true::false::false::false::false::true::false::[]):=by delta BE;intros;kernel_rfl
theorem ARe(ω:List Bool):BE (true::false::false::false::false::true::false::false::ω):=by delta BE;intros;kernel_rfl
theorem ANw(ω:List Bool):BE (true::false::false::false::false::true::false::true::ω):=by delta BE;intros;kernel_rfl
theorem ASH(ω:List Bool):BE (true::false::false::false::false::true::true::ω):=by delta BE;intros;kernel_rfl
theorem ASM:BE (true::false::false::false::true::[]):=by delta BE;intros;kernel_rfl
theorem ANT:BE (true::false::false::false::true::false::[]):=by delta BE;intros;kernel_rfl
theorem AQD(ω:List Bool):BE (true::false::false::false::true::false::false::ω):=by delta BE;intros;kernel_rfl
theorem ANm(ω:List Bool):BE (true::false::false::false::true::false::true::ω):=by delta BE;intros;kernel_rfl
theorem ANU(ω:List Bool):BE (true::false::false::false::true::true::ω):=by delta BE;intros;kernel_rfl
theorem ARV:BE (true::false::false::true::[]):=by delta BE;intros;kernel_rfl
theorem AN8:BE (true::false::false::true::false::[]):=by delta BE;intros;kernel_rfl
theorem ASd:BE (true::false::false::true::false::false::[]):=by delta BE;intros;kernel_rfl
theorem AQq(ω:List Bool):BE (true::false::false::true::false::false::false::ω):=by delta BE;intros;kernel_rfl
theorem ARb(ω:List Bool):BE (true::false::false::true::false::false::true::ω):=by delta BE;intros;kernel_rfl
theorem AQX(ω:List Bool):BE (true::false::false::true::false::true::ω):=by delta BE;intros;kernel_rfl
theorem AOG(ω:List Bool):BE (true::false::false::true::true::ω):=by delta BE;intros;kernel_rfl
theorem AQy:BE (true::false::true::[]):=by delta BE;intros;kernel_rfl
theorem ARr:BE (true::false::true::false::[]):=by delta BE;intros;kernel_rfl
theorem APU:BE (true::false::true::false::false::[]):=by delta BE;intros;kernel_rfl
theorem APE(ω:List Bool):BE (true::false::true::false::false::false::ω):=by delta BE;intros;kernel_rfl
theorem ASu(ω:List Bool):BE (true::false::true::false::false::true::ω):=by delta BE;intros;kernel_rfl
theorem AOQ(ω:List Bool):BE (true::false::true::false::true::ω):=by delta BE;intros;kernel_rfl
theorem ANG(ω:List Bool):BE (true::false::true::true::ω):=by delta BE;intros;kernel_rfl
theorem ARi:BE (true::true::[]):=by delta BE;intros;kernel_rfl
theorem APc:BE (true::true::false::[]):=by delta BE;intros;kernel_rfl
theorem ASz:BE (true::true::false::false::[]):=by delta BE;intros;kernel_rfl
theorem AQc(ω:List Bool):BE (true::true::false::false::false::ω):=by delta BE;intros;kernel_rfl
theorem AOu(ω:List Bool):BE (true::true::false::false::true::ω):=by delta BE;intros;kernel_rfl
theorem ASE(ω:List Bool):BE (true::true::false::true::ω):=by delta BE;intros;kernel_rfl
theorem APJ(ω:List Bool):BE (true::true::true::ω):=by delta BE;intros;kernel_rfl
theorem e83(n:Nat)(ω:List Bool)(v:i83.V):DR C83 c83 Tryz.f83 (M9 0 L83 n) ω v=i83.un (HP) v:=(AF AWY (AF AWp (AF AUn (AF AUs (AF AW9 (AF AV3 (AF ATc (AF AV1 ATp ANR) (AF AQP AR3 AQf)) (AF AR6 AR4 AQ8)) (AF APL (AF APH AQN AO4) APb)) (AF ASx (AF AQt APh AP7) ANM)) (AF AOY (AF AO9 (AF ANh AR2 APF) ASP) AOc)) (AF ARa (AF ANp (AF AOB AOX ARK) AQS) ASr)) (AF AQx (AF ARj (AF AOz (AF ANk (AF ASh (AF ANP (AF ARE (AF APt AOm ARl) (AF AR1 AOI APi)) (AF ARq ARh APK)) (AF AOT (AF ARJ ARe ANw) ASH)) (AF ASM (AF ANT AQD ANm) ANU)) (AF ARV (AF AN8 (AF ASd AQq ARb) AQX) AOG)) (AF AQy (AF ARr (AF APU APE ASu) AOQ) ANG)) (AF ARi (AF APc (AF ASz AQc AOu) ASE) APJ))) ω n v
def s83:SQ:=mk Tryz.func83 i83 o83 HP [w5,AUi] [(3,[0,1]),(4,[0,4])] L83 (hJ:= .nil) (he:=e83 Ae)
def AD8:SQ:=mk Tryz.func225 lx Ff MP [] [] []
abbrev gg:Ba:=mG
abbrev wM:Ba:=CY
def mn:SQ:=mk Tryz.func180 gg wM DG [] [] [⟨2,⟨[(0,Z8),(1,BO),(5,BO)],[]⟩,PW⟩]
def ACq:SQ:=mk Tryz.func164 mG fJ Lu [mn] [] [⟨4,⟨[(0,Z8),(1,BO),(5,nq),(6,xP0),(7,BO)],uj⟩,Kc⟩]
def AaR:SQ:=mk Tryz.func241 ⟨[(0,Kf),(1,Z8)],rC⟩ AEF OB [s63] [] []
def Abe:SQ:=mk Tryz.func147 AMu ALx Om [s62,s63,ACq,AD8,AaR] [] [⟨4,⟨[(0,Kf),(3,Ze),(5,.c (.ref 2)),(6,BO),(7,BO)],AWG⟩,IF⟩]
def s77:SQ:=mk Tryz.func77 AMu ALx Ll [s82,Abe,ACq] [] [⟨3,⟨[(3,Ze),(5,.c (.ref 2)),(6,BO)],AWG⟩,J9⟩]
def s76:SQ:=mk Tryz.func76 ⟨[(0,Z8)],[]⟩ Ff K0 [AU7] [] [⟨5,⟨[(0,Z8),(3,BO),(4,BO)],[]⟩,KB⟩]
def AIO:SQ:=mk Tryz.func169 ABE Ff I7 [] [] [⟨2,⟨AHS,[AOk]⟩,Hy⟩]
abbrev zJ:Ba:=AMe
abbrev o69:Ba:=fJ
def s69:SQ:=mk Tryz.func69 zJ o69 CW [Xt] [] []
def Aa1:SQ:=mk Tryz.func170 AFQ ADq Ky [s62,s63,s69,s82,AD8] [(18,[1,2,3])] [⟨16,⟨[(0,Kf),(3,Ze),(4,xP8),(5,.c (.ptr 3 0)),(7,BO),(8,BO),(9,BO)],[tT,AGz,ADr,yS]⟩,GC⟩]
def s64:SQ:=mk Tryz.func64 ⟨[(0,Kf),(1,.c (.sl false .str))],rC⟩ ⟨[(0,.c (.v .str))],rC⟩ Ii [s63] [] []
def AZs:SQ:=mk Tryz.func250 lx Ff S3 [] [] []
def AXu:SQ:=mk Tryz.func171 AFQ ADq Ga [s62,s63,s64,s69,AZs] [] []
def s84:SQ:=mk Tryz.func84 AFQ ADq Of [s62,s63,s76,s77,AIO,Aa1,AXu] [(16,[1]),(27,[1,2])] []
def yX:SQ:=mk Tryz.func185 Ff CY HM [Xt] [] []
abbrev gQ:Ba:=Ff
abbrev wj:Ba:=Ff
def oK:SQ:=mk Tryz.func186 gQ wj Cr [yX] [] []
def AIB:SQ:=mk Tryz.func255 ⟨[(0,.row Y1)],[]⟩ CY L0 [Xt,yX,oK] [(1,[0])] []
def AZ6:SQ:=mk Tryz.func253 AEq CY Un [AIB] [] [⟨4,⟨[(0,qv),(5,BO)],[]⟩,LB⟩]
def AWu:SQ:=mk Tryz.func254 zr CY W8 [] [] [⟨2,⟨[(0,qv),(3,BO)],[]⟩,GM⟩]
def yx:SQ:=mk Tryz.func179 lf CY Gk [Xt,AZ6,AWu] [] []
def AYm:SQ:=mk Tryz.func181 lf CY al [] [] []
def AaB:SQ:=mk Tryz.func106 lr CY Tx [s82,zB,w5,yx,mn,AYm] [] [⟨4,AM7,Ix⟩]
abbrev i182:Ba:=AD0
abbrev AUw:Ba:=CY
def ABw:SQ:=mk Tryz.func182 i182 AUw MQ [s82,Xt,w5,yX,oK] [] [⟨5,⟨AWA,ATg⟩,Kb⟩]
abbrev i183:Ba:=ADS
abbrev AUl:Ba:=CY
def AES:SQ:=mk Tryz.func183 i183 AUl HS [s82,Xt,zB,w5] [(8,[0,1,2])] [⟨5,⟨AWA,AU2⟩,K5⟩]
abbrev gF:Ba:=Ff
abbrev vv:Ba:=Ff
def AIg:SQ:=mk Tryz.func280 gF vv HD [yX] [] []
def ATf:SQ:=mk Tryz.func256 xE Ff Qn [AIg] [] []
def ACz:SQ:=mk Tryz.func184 xB CY Ig [Xt,zB,w5,oK,AWu,AIB,ATf] [(6,[0,1]),(11,[0,1]),(15,[0,1])] [⟨4,AMZ,I5⟩,⟨9,⟨[(2,Kf),(3,Ze),(6,BO)],AO8⟩,HU⟩]
def AXs:SQ:=mk Tryz.func107 lr CY Rf [AIO,ABw,AES,ACz] [(7,[0]),(13,[0,1])] [⟨5,⟨[(1,Kf),(3,BO),(4,BO)],ACw⟩,Gf⟩,⟨10,⟨[(1,Kf),(3,BO),(5,BO)],ACw⟩,Er⟩]
def AUq:SQ:=mk Tryz.func108 AAU CY Mt [Xt] [] []
def AX2:SQ:=mk Tryz.func109 lr CY V9 [yX,oK] [(7,[0,1])] [⟨4,AM7,Jn⟩]
def s52:SQ:=mk Tryz.func52 lr CY Q9 [AaB,AXs,AUq,AX2] [] []
def AYZ:SQ:=mk Tryz.func130 AFG ⟨AUe,[]⟩ ZA [] [] []
def s58:SQ:=mk Tryz.func58 AFG CY Xw [Xt,AYZ] [(1,[0])] []
abbrev fa:Ba:=ABE
abbrev xk:Ba:=AD6
def ABV:SQ:=mk Tryz.func101 fa xk GA [] [] [⟨3,⟨AW2,[AOk,.mem [.ref 2,.v tI],RN,.mem [.ref 4,.v tI],RN]⟩,OQ⟩]
abbrev kJ:Ba:=lf
abbrev yr:Ba:=AFa
def ACB:SQ:=mk Tryz.func102 kJ yr Em [] [(1,[0])] [] (he:=fun ω v=>by rcases ω with _|⟨_|_,_|⟨_|_,_⟩⟩<;>kernel_rfl)
abbrev gG:Ba:=AAB
abbrev wG:Ba:=AE7
def AC0:SQ:=mk Tryz.func103 gG wG FP [] [] [⟨3,⟨AW2,[AH3,.mem [.v tI,.ref 2],.sl 9 Y5,.mem [.v tI,.ref 4],.sl 9 Y5]⟩,OU⟩]
abbrev bS:Ba:=xE
abbrev uL:Ba:=wV
def ANg:QU:=⟨bS,uL,(bS.un EM)⟩
def AQL:aN:=⟨T,Q_ (SP.l ([]:List SQ)),CX [(1,[0,1]),(5,[0,1,2,3,4,6,7])]⟩
def AJd:List (Lp uL):=[⟨3,⟨[(1,Kf),(2,Ze),(3,.c (.ptr 5 0)),(4,BO)],AQm⟩,Hd⟩]
abbrev yR:Ba:=⟨[(1,Kf),(2,Ze),(3,.c (.ptr 5 0)),(4,BO)],AQm⟩
theorem ARI(n:Nat)(v:yR.V)(ω:List Bool):JR AQL ANg Tryz.f104 (M9 0 AJd n) 3 ω (yR.st 40 v)=yR.un (R0 (Hd n)) v:=by rcases ω with _|⟨_|_,_|⟨_|_,_|⟨_|_,_⟩⟩⟩<;>kernel_rfl
def DT(ω:List Bool):Prop:= ∀(n:Nat) (v:bS.V),DR AQL ANg Tryz.f104 (M9 0 AJd n) ω v=bS.un (NL (Hd n)) v
theorem ARA:DT []:=by delta DT;intros;kernel_rfl
theorem AOW:DT (false::[]):=by delta DT;intros;kernel_rfl
theorem ASj:DT (false::false::[]):=by delta DT;intros;kernel_rfl
theorem AN7(ω:List Bool):DT (false::false::false::ω):=by delta DT;intros;kernel_rfl
theorem ASc:DT (false::false::true::[]):=by delta DT;intros;kernel_rfl
theorem ASB(ω:List Bool):DT (false::false::true::false::ω):=by delta DT;intros;kernel_rfl
theorem AO7(ω:List Bool):DT (false::false::true::true::ω):=by delta DT;intros;kernel_rfl
theorem AQl:DT (false::true::[]):=by delta DT;intros;kernel_rfl
theorem ASU(ω:List Bool):DT (false::true::false::ω):=by delta DT;intros;kernel_rfl
theorem AKt:DT (false::true::true::[]):=by delta DT;intros;kernel_rfl
theorem AHy(ω:List Bool):DT (false::true::true::false::ω):=by delta DT;intros;kernel_rfl
theorem ALY:DT (false::true::true::true::[]):=by delta DT;intros;kernel_rfl
theorem AGv(ω:List Bool):DT (false::true::true::true::false::ω):=by delta DT;intros;kernel_rfl
theorem AI3(ω:List Bool):DT (false::true::true::true::true::ω):=by delta DT;intros;kernel_rfl
theorem ALM:DT (true::[]):=by delta DT;intros;kernel_rfl
theorem AKI:DT (true::false::[]):=by delta DT;intros;kernel_rfl
theorem ALZ:DT (true::false::false::[]):=by delta DT;intros;kernel_rfl
theorem AKu(ω:List Bool):DT (true::false::false::false::ω):=by delta DT;intros;kernel_rfl
theorem AIN(ω:List Bool):DT (true::false::false::true::ω):=by delta DT;intros;kernel_rfl
theorem AKL:DT (true::false::true::[]):=by delta DT;intros;kernel_rfl
theorem AHf(ω:List Bool):DT (true::false::true::false::ω):=by delta DT;intros;kernel_rfl
theorem AGm:DT (true::false::true::true::[]):=by delta DT;intros;kernel_rfl
theorem AIp(ω:List Bool):DT (true::false::true::true::false::ω):=by delta DT;intros;kernel_rfl
theorem AIy(ω:List Bool):DT (true::false::true::true::true::ω):=by delta DT;intros;kernel_rfl
theorem AK0:DT (true::true::[]):=by delta DT;intros;kernel_rfl
theorem ALd(ω:List Bool):DT (true::true::false::ω):=by delta DT;intros;kernel_rfl
theorem AKm:DT (true::true::true::[]):=by delta DT;intros;kernel_rfl
theorem AKp(ω:List Bool):DT (true::true::true::false::ω):=by delta DT;intros;kernel_rfl
theorem ALj(ω:List Bool):DT (true::true::true::true::ω):=by delta DT;intros;kernel_rfl
theorem AZ_(n:Nat)(ω:List Bool)(v:bS.V):DR AQL ANg Tryz.f104 (M9 0 AJd n) ω v=bS.un (NL (Hd n)) v:=(AF ARA (AF AOW (AF ASj AN7 (AF ASc ASB AO7)) (AF AQl ASU (AF AKt AHy (AF ALY AGv AI3)))) (AF ALM (AF AKI (AF ALZ AKu AIN) (AF AKL AHf (AF AGm AIp AIy))) (AF AK0 ALd (AF AKm AKp ALj)))) ω n v
def ABq:SQ:=mk Tryz.func104 bS uL EM [] [(1,[0,1]),(5,[0,1,2,3,4,6,7])] AJd (hJ:= .cons (fun _=>rfl) ARI (.nil)) (he:=AZ_ Ae)
abbrev i105:Ba:=AAU
abbrev zN:Ba:=AA_
def ALX:SQ:=mk Tryz.func105 i105 zN CK [] [] []
abbrev i51:Ba:=lr
abbrev o51:Ba:=AMq
def c51:QU:=⟨i51,o51,(i51.un L8)⟩
def C51:aN:=⟨T,Q_ (SP.l [ABV,ACB,AC0,ABq,ALX]),CX [(1,[0,1]),(5,[0,1,2,3,4,5,6,7,8,9,11,13,14,15,16,17,18]),(9,[0,1,2,3,4,5,6,7,8,9,11,12,13,14,16,17,18]),(13,[0,1,2,3,4,5,6,7,8,9,11,12,13,14,15,17,18]),(17,[0,1,2,3,4,5,6,7,8,9,11,12,13,14,15,16,18])]⟩
def L51:List (Lp o51):=[⟨3,⟨[(1,Kf),(2,Ze),(3,bO),(4,BO)],br⟩,CU⟩,⟨7,⟨[(1,Kf),(2,Ze),(3,bO),(5,BO)],br⟩,Cm⟩,⟨11,⟨[(1,Kf),(2,Ze),(3,bO),(6,BO)],br⟩,CR⟩,⟨15,⟨[(1,Kf),(2,Ze),(3,bO),(7,BO)],br⟩,CS⟩]
abbrev sk:Ba:=⟨[(1,Kf),(2,Ze),(3,bO),(4,BO)],br⟩
abbrev tG:Ba:=⟨[(1,Kf),(2,Ze),(3,bO),(5,BO)],br⟩
abbrev kW:Ba:=⟨[(1,Kf),(2,Ze),(3,bO),(6,BO)],br⟩
abbrev ki:Ba:=⟨[(1,Kf),(2,Ze),(3,bO),(7,BO)],br⟩
theorem AWQ(dO:ABr→Option Fe)(j9:ACN→Option KT)(cg:ACF→Option Fc)(jq:ABH→Option GL)(kQ:AC8→Option JP)(n:Nat)(v:sk.V)(ω:List Bool):JR ⟨T,Q_ [(101,⟨fa,xk,fa.un dO⟩),(102,⟨kJ,yr,kJ.un j9⟩),(103,⟨gG,wG,gG.un cg⟩),(104,⟨bS,uL,bS.un jq⟩),(105,⟨i105,zN,i105.un kQ⟩)],CX [(1,[0,1]),(5,[0,1,2,3,4,5,6,7,8,9,11,13,14,15,16,17,18]),(9,[0,1,2,3,4,5,6,7,8,9,11,12,13,14,16,17,18]),(13,[0,1,2,3,4,5,6,7,8,9,11,12,13,14,15,17,18]),(17,[0,1,2,3,4,5,6,7,8,9,11,12,13,14,15,16,18])]⟩ c51 Tryz.f51 (M9 0 L51 n) 3 ω (sk.st 104 v)=sk.un (fun(t4:Int) (AU:AAO) (AG:Int) (Aq:AAP) (Ck:AAO) (DJ:AAS) (AW:Int) (DH:AAr) (DC:AAv) (DD:AAs) (EU:AAk) (AL:Bool) (Bj:Int) (D9:Int) (E5:Bool) (b2:AAO) (b3:AAP) (b4:AAO) (b5:AAS) (b6:AAr) (b7:AAv) (b8:AAs) (b9:AAk) (DM:Int) (D7:Int) (Cf:Bool) (FV:AAO) (Di:AAP) (GF:AAO) (GG:AAS) (D8:AAr) (EZ:AAv) (FD:AAs) (Q0:AAk)=>
 cond ((decide (t4<(Aq.length:Int))))
  (if(0:Int)≤t4∧t4<(Aq.length:Int)then(
  (j9 ((Aq.getD (t4.toNat) ([],[],0,())).1,(Aq.getD (t4.toNat) ([],[],0,())).2.1,(Aq.getD (t4.toNat) ([],[],0,())).2.2.1,())).bind fun zf=>
  if Di.length+1≤Go.M.Dr then(
  (CU n) (AZ (t4+1)) AU AG Aq Ck DJ AW DH DC DD EU AL Bj D9 E5 b2 b3 b4 b5 b6 b7 b8 b9 DM D7 Cf FV (Di++[(zf.2.1,zf.2.2.1,zf.1.1.2.2.1,())]) GF GG D8 EZ FD Q0)else none)else none)
 ((Cm n) 0 AU AG Aq Ck DJ AW DH DC DD EU AL Bj D9 E5 b2 b3 b4 b5 b6 b7 b8 b9 DM D7 Cf FV Di GF GG D8 EZ FD Q0)) v:=by rcases ω with _|⟨_|_,_|⟨_|_,_⟩⟩<;>kernel_rfl
theorem AVP(n:Nat)(v:sk.V)(ω:List Bool):JR C51 c51 Tryz.f51 (M9 0 L51 n) 3 ω (sk.st 104 v)=sk.un (QG (CU n) (Cm n) (CR n) (CS n)) v:=AWQ GA Em FP EM CK n v ω
theorem AW0(dO:ABr→Option Fe)(j9:ACN→Option KT)(cg:ACF→Option Fc)(jq:ABH→Option GL)(kQ:AC8→Option JP)(n:Nat)(v:tG.V)(ω:List Bool):JR ⟨T,Q_ [(101,⟨fa,xk,fa.un dO⟩),(102,⟨kJ,yr,kJ.un j9⟩),(103,⟨gG,wG,gG.un cg⟩),(104,⟨bS,uL,bS.un jq⟩),(105,⟨i105,zN,i105.un kQ⟩)],CX [(1,[0,1]),(5,[0,1,2,3,4,5,6,7,8,9,11,13,14,15,16,17,18]),(9,[0,1,2,3,4,5,6,7,8,9,11,12,13,14,16,17,18]),(13,[0,1,2,3,4,5,6,7,8,9,11,12,13,14,15,17,18]),(17,[0,1,2,3,4,5,6,7,8,9,11,12,13,14,15,16,18])]⟩ c51 Tryz.f51 (M9 0 L51 n) 7 ω (tG.st 104 v)=tG.un (fun(t5:Int) (AU:AAO) (AG:Int) (Aq:AAP) (Ck:AAO) (DJ:AAS) (AW:Int) (DH:AAr) (DC:AAv) (DD:AAs) (EU:AAk) (AL:Bool) (Bj:Int) (D9:Int) (E5:Bool) (b2:AAO) (b3:AAP) (b4:AAO) (b5:AAS) (b6:AAr) (b7:AAv) (b8:AAs) (b9:AAk) (DM:Int) (D7:Int) (Cf:Bool) (FV:AAO) (Di:AAP) (GF:AAO) (GG:AAS) (D8:AAr) (EZ:AAv) (FD:AAs) (Q0:AAk)=>
 cond ((decide (t5<(DH.length:Int))))
  (if(0:Int)≤t5∧t5<(DH.length:Int)then(
  (cg ((DH.getD (t5.toNat) (0,[],())).1,(DH.getD (t5.toNat) (0,[],())).2.1,())).bind fun AE1=>
  if D8.length+1≤Go.M.Dr then(
  (Cm n) (AZ (t5+1)) AU AG Aq Ck DJ AW DH DC DD EU AL Bj D9 E5 b2 b3 b4 b5 b6 b7 b8 b9 DM D7 Cf FV Di GF GG (D8++[(AE1.1.1.1,AE1.2.1,())]) EZ FD Q0)else none)else none)
 ((CR n) 0 AU AG Aq Ck DJ AW DH DC DD EU AL Bj D9 E5 b2 b3 b4 b5 b6 b7 b8 b9 DM D7 Cf FV Di GF GG D8 EZ FD Q0)) v:=by rcases ω with _|⟨_|_,_|⟨_|_,_⟩⟩<;>kernel_rfl
theorem AT9(n:Nat)(v:tG.V)(ω:List Bool):JR C51 c51 Tryz.f51 (M9 0 L51 n) 7 ω (tG.st 104 v)=tG.un (QN (CU n) (Cm n) (CR n) (CS n)) v:=AW0 GA Em FP EM CK n v ω
theorem APx(dO:ABr→Option Fe)(j9:ACN→Option KT)(cg:ACF→Option Fc)(jq:ABH→Option GL)(kQ:AC8→Option JP)(n:Nat)(v:kW.V)(ω:List Bool):JR ⟨T,Q_ [(101,⟨fa,xk,fa.un dO⟩),(102,⟨kJ,yr,kJ.un j9⟩),(103,⟨gG,wG,gG.un cg⟩),(104,⟨bS,uL,bS.un jq⟩),(105,⟨i105,zN,i105.un kQ⟩)],CX [(1,[0,1]),(5,[0,1,2,3,4,5,6,7,8,9,11,13,14,15,16,17,18]),(9,[0,1,2,3,4,5,6,7,8,9,11,12,13,14,16,17,18]),(13,[0,1,2,3,4,5,6,7,8,9,11,12,13,14,15,17,18]),(17,[0,1,2,3,4,5,6,7,8,9,11,12,13,14,15,16,18])]⟩ c51 Tryz.f51 (M9 0 L51 n) 11 ω (kW.st 104 v)=kW.un (fun(t6:Int) (AU:AAO) (AG:Int) (Aq:AAP) (Ck:AAO) (DJ:AAS) (AW:Int) (DH:AAr) (DC:AAv) (DD:AAs) (EU:AAk) (AL:Bool) (Bj:Int) (D9:Int) (E5:Bool) (b2:AAO) (b3:AAP) (b4:AAO) (b5:AAS) (b6:AAr) (b7:AAv) (b8:AAs) (b9:AAk) (DM:Int) (D7:Int) (Cf:Bool) (FV:AAO) (Di:AAP) (GF:AAO) (GG:AAS) (D8:AAr) (EZ:AAv) (FD:AAs) (Q0:AAk)=>
 cond ((decide (t6<(DC.length:Int))))
  (if(0:Int)≤t6∧t6<(DC.length:Int)then(
  (jq ((DC.getD (t6.toNat) (0,0,[],[],false,[],())).1,(DC.getD (t6.toNat) (0,0,[],[],false,[],())).2.1,(DC.getD (t6.toNat) (0,0,[],[],false,[],())).2.2.1,(DC.getD (t6.toNat) (0,0,[],[],false,[],())).2.2.2.1,(DC.getD (t6.toNat) (0,0,[],[],false,[],())).2.2.2.2.1,(DC.getD (t6.toNat) (0,0,[],[],false,[],())).2.2.2.2.2.1,())).bind fun jt=>
  if EZ.length+1≤Go.M.Dr then(
  (CR n) (AZ (t6+1)) AU AG Aq Ck DJ AW DH DC DD EU AL Bj D9 E5 b2 b3 b4 b5 b6 b7 b8 b9 DM D7 Cf FV Di GF GG D8 (EZ++[(jt.1.1.1,jt.1.1.2.1,jt.2.1,jt.2.2.1,jt.1.1.2.2.2.2.1,jt.2.2.2.1,())]) FD Q0)else none)else none)
 ((CS n) 0 AU AG Aq Ck DJ AW DH DC DD EU AL Bj D9 E5 b2 b3 b4 b5 b6 b7 b8 b9 DM D7 Cf FV Di GF GG D8 EZ FD Q0)) v:=by rcases ω with _|⟨_|_,_|⟨_|_,_⟩⟩<;>kernel_rfl
theorem ARo(n:Nat)(v:kW.V)(ω:List Bool):JR C51 c51 Tryz.f51 (M9 0 L51 n) 11 ω (kW.st 104 v)=kW.un (PF (CU n) (Cm n) (CR n) (CS n)) v:=APx GA Em FP EM CK n v ω
theorem APN(dO:ABr→Option Fe)(j9:ACN→Option KT)(cg:ACF→Option Fc)(jq:ABH→Option GL)(kQ:AC8→Option JP)(n:Nat)(v:ki.V)(ω:List Bool):JR ⟨T,Q_ [(101,⟨fa,xk,fa.un dO⟩),(102,⟨kJ,yr,kJ.un j9⟩),(103,⟨gG,wG,gG.un cg⟩),(104,⟨bS,uL,bS.un jq⟩),(105,⟨i105,zN,i105.un kQ⟩)],CX [(1,[0,1]),(5,[0,1,2,3,4,5,6,7,8,9,11,13,14,15,16,17,18]),(9,[0,1,2,3,4,5,6,7,8,9,11,12,13,14,16,17,18]),(13,[0,1,2,3,4,5,6,7,8,9,11,12,13,14,15,17,18]),(17,[0,1,2,3,4,5,6,7,8,9,11,12,13,14,15,16,18])]⟩ c51 Tryz.f51 (M9 0 L51 n) 15 ω (ki.st 104 v)=ki.un (fun(t7:Int) (AU:AAO) (AG:Int) (Aq:AAP) (Ck:AAO) (DJ:AAS) (AW:Int) (DH:AAr) (DC:AAv) (DD:AAs) (EU:AAk) (AL:Bool) (Bj:Int) (D9:Int) (E5:Bool) (b2:AAO) (b3:AAP) (b4:AAO) (b5:AAS) (b6:AAr) (b7:AAv) (b8:AAs) (b9:AAk) (DM:Int) (D7:Int) (Cf:Bool) (FV:AAO) (Di:AAP) (GF:AAO) (GG:AAS) (D8:AAr) (EZ:AAv) (FD:AAs) (Q0:AAk)=>
 cond ((decide (t7<(DD.length:Int))))
  (if(0:Int)≤t7∧t7<(DD.length:Int)then(
  (kQ ((DD.getD (t7.toNat) (0,0,[],())).1,(DD.getD (t7.toNat) (0,0,[],())).2.1,(DD.getD (t7.toNat) (0,0,[],())).2.2.1,())).bind fun zZ=>
  if FD.length+1≤Go.M.Dr then(
  (CS n) (AZ (t7+1)) AU AG Aq Ck DJ AW DH DC DD EU AL Bj D9 E5 b2 b3 b4 b5 b6 b7 b8 b9 DM D7 Cf FV Di GF GG D8 EZ (FD++[(zZ.1.1.1,zZ.1.1.2.1,zZ.2.1,())]) Q0)else none)else none)
 (some ((((),DM,(),(),(),D7,(),(),(),(),Cf,()),()),(FV,Di,GF,GG,D8,EZ,FD,Q0,())))) v:=by rcases ω with _|⟨_|_,_|⟨_|_,_⟩⟩<;>kernel_rfl
theorem AQb(n:Nat)(v:ki.V)(ω:List Bool):JR C51 c51 Tryz.f51 (M9 0 L51 n) 15 ω (ki.st 104 v)=ki.un (PJ (CU n) (Cm n) (CR n) (CS n)) v:=APN GA Em FP EM CK n v ω
def AE(ω:List Bool):Prop:= ∀(dO:ABr→Option Fe) (j9:ACN→Option KT) (cg:ACF→Option Fc) (jq:ABH→Option GL) (kQ:AC8→Option JP) (n:Nat) (v:i51.V),DR ⟨T,Q_ [(101,⟨fa,xk,fa.un dO⟩),(102,⟨kJ,yr,kJ.un j9⟩),(103,⟨gG,wG,gG.un cg⟩),(104,⟨bS,uL,bS.un jq⟩),(105,⟨i105,zN,i105.un kQ⟩)],CX [(1,[0,1]),(5,[0,1,2,3,4,5,6,7,8,9,11,13,14,15,16,17,18]),(9,[0,1,2,3,4,5,6,7,8,9,11,12,13,14,16,17,18]),(13,[0,1,2,3,4,5,6,7,8,9,11,12,13,14,15,17,18]),(17,[0,1,2,3,4,5,6,7,8,9,11,12,13,14,15,16,18])]⟩ c51 Tryz.f51 (M9 0 L51 n) ω v=i51.un (fun(p0:ABF)=>
 if 0+p0.1.length≤Go.M.Dr then(
 if 0+p0.2.2.2.1.length≤Go.M.Dr then(
 (dO (p0.2.2.2.2.1,p0.2.2.2.2.2.1,())).bind fun u2=>
 if 0+p0.2.2.2.2.2.2.2.2.2.1.length≤Go.M.Dr then(
 (CU n) 0 p0.1 p0.2.1 p0.2.2.1 p0.2.2.2.1 p0.2.2.2.2.1 p0.2.2.2.2.2.1 p0.2.2.2.2.2.2.1 p0.2.2.2.2.2.2.2.1 p0.2.2.2.2.2.2.2.2.1 p0.2.2.2.2.2.2.2.2.2.1 p0.2.2.2.2.2.2.2.2.2.2.1 0 0 false [] [] [] [] [] [] [] [] p0.2.1 u2.1.1.2.1 p0.2.2.2.2.2.2.2.2.2.2.1 p0.1 [] p0.2.2.2.1 u2.2.1 [] [] [] p0.2.2.2.2.2.2.2.2.2.1)else none)else none)else none) v
theorem AT2:AE []:=by delta AE;intros;kernel_rfl
theorem AVd:AE (false::[]):=by delta AE;intros;kernel_rfl
theorem AVm:AE (false::false::[]):=by delta AE;intros;kernel_rfl
theorem AUa:AE (false::false::false::[]):=by delta AE;intros;kernel_rfl
theorem AVe:AE (false::false::false::false::[]):=by delta AE;intros;kernel_rfl
theorem AWh:AE (false::false::false::false::false::[]):=by delta AE;intros;kernel_rfl
theorem AUu(ω:List Bool):AE (false::false::false::false::false::false::ω):=by delta AE;intros;kernel_rfl
theorem AVC:AE (false::false::false::false::false::true::[]):=by delta AE;intros;kernel_rfl
theorem AUM(ω:List Bool):AE (false::false::false::false::false::true::false::ω):=by delta AE;intros;kernel_rfl
theorem AOU(ω:List Bool):AE (false::false::false::false::false::true::true::ω):=by delta AE;intros;kernel_rfl
theorem ARz:AE (false::false::false::false::true::[]):=by delta AE;intros;kernel_rfl
theorem AQd(ω:List Bool):AE (false::false::false::false::true::false::ω):=by delta AE;intros;kernel_rfl
theorem ARt:AE (false::false::false::false::true::true::[]):=by delta AE;intros;kernel_rfl
theorem ASG(ω:List Bool):AE (false::false::false::false::true::true::false::ω):=by delta AE;intros;kernel_rfl
theorem ANo:AE (false::false::false::false::true::true::true::[]):=by delta AE;intros;kernel_rfl
theorem ARv(ω:List Bool):AE (false::false::false::false::true::true::true::false::ω):=by delta AE;intros;kernel_rfl
theorem AQe:AE (false::false::false::false::true::true::true::true::[]):=by delta AE;intros;kernel_rfl
theorem AQT(ω:List Bool):AE (false::false::false::false::true::true::true::true::false::ω):=by delta AE;intros;kernel_rfl
theorem AQ7(ω:List Bool):AE (false::false::false::false::true::true::true::true::true::ω):=by delta AE;intros;kernel_rfl
theorem ASm:AE (false::false::false::true::[]):=by delta AE;intros;kernel_rfl
theorem AP2:AE (false::false::false::true::false::[]):=by delta AE;intros;kernel_rfl
theorem AOL:AE (false::false::false::true::false::false::[]):=by delta AE;intros;kernel_rfl
theorem AP8(ω:List Bool):AE (false::false::false::true::false::false::false::ω):=by delta AE;intros;kernel_rfl
theorem APw(ω:List Bool):AE (false::false::false::true::false::false::true::ω):=by delta AE;intros;kernel_rfl
theorem AOf:AE (false::false::false::true::false::true::[]):=by delta AE;intros;kernel_rfl
theorem ARM(ω:List Bool):AE (false::false::false::true::false::true::false::ω):=by delta AE;intros;kernel_rfl
theorem ASW:AE (false::false::false::true::false::true::true::[]):=by delta AE;intros;kernel_rfl
theorem AQ3(ω:List Bool):AE (false::false::false::true::false::true::true::false::ω):=by delta AE;intros;kernel_rfl
theorem AN1:AE (false::false::false::true::false::true::true::true::[]):=by delta AE;intros;kernel_rfl
theorem APr(ω:List Bool):AE (false::false::false::true::false::true::true::true::false::ω):=by delta AE;intros;kernel_rfl
theorem AQz(ω:List Bool):AE (false::false::false::true::false::true::true::true::true::ω):=by delta AE;intros;kernel_rfl
theorem ASS:AE (false::false::false::true::true::[]):=by delta AE;intros;kernel_rfl
theorem AR_(ω:List Bool):AE (false::false::false::true::true::false::ω):=by delta AE;intros;kernel_rfl
theorem AON:AE (false::false::false::true::true::true::[]):=by delta AE;intros;kernel_rfl
theorem APd(ω:List Bool):AE (false::false::false::true::true::true::false::ω):=by delta AE;intros;kernel_rfl
theorem AOS:AE (false::false::false::true::true::true::true::[]):=by delta AE;intros;kernel_rfl
theorem AOM(ω:List Bool):AE (false::false::false::true::true::true::true::false::ω):=by delta AE;intros;kernel_rfl
theorem AR8(ω:List Bool):AE (false::false::false::true::true::true::true::true::ω):=by delta AE;intros;kernel_rfl
theorem ANJ:AE (false::false::true::[]):=by delta AE;intros;kernel_rfl
theorem AP4:AE (false::false::true::false::[]):=by delta AE;intros;kernel_rfl
theorem ASN:AE (false::false::true::false::false::[]):=by delta AE;intros;kernel_rfl
theorem ARC(ω:List Bool):AE (false::false::true::false::false::false::ω):=by delta AE;intros;kernel_rfl
theorem AOq:AE (false::false::true::false::false::true::[]):=by delta AE;intros;kernel_rfl
theorem AOd(ω:List Bool):AE (false::false::true::false::false::true::false::ω):=by delta AE;intros;kernel_rfl
theorem AOl(ω:List Bool):AE (false::false::true::false::false::true::true::ω):=by delta AE;intros;kernel_rfl
theorem ASY:AE (false::false::true::false::true::[]):=by delta AE;intros;kernel_rfl
theorem APT(ω:List Bool):AE (false::false::true::false::true::false::ω):=by delta AE;intros;kernel_rfl
theorem ANC:AE (false::false::true::false::true::true::[]):=by delta AE;intros;kernel_rfl
theorem ANs(ω:List Bool):AE (false::false::true::false::true::true::false::ω):=by delta AE;intros;kernel_rfl
theorem ANc:AE (false::false::true::false::true::true::true::[]):=by delta AE;intros;kernel_rfl
theorem ARQ(ω:List Bool):AE (false::false::true::false::true::true::true::false::ω):=by delta AE;intros;kernel_rfl
theorem ANx:AE (false::false::true::false::true::true::true::true::[]):=by delta AE;intros;kernel_rfl
theorem ART(ω:List Bool):AE (false::false::true::false::true::true::true::true::false::ω):=by delta AE;intros;kernel_rfl
theorem AQ0:AE (false::false::true::false::true::true::true::true::true::[]):=by delta AE;intros;kernel_rfl
theorem AOi(ω:List Bool):AE (false::false::true::false::true::true::true::true::true::false::ω):=by delta AE;intros;kernel_rfl
theorem AR7(ω:List Bool):AE (false::false::true::false::true::true::true::true::true::true::ω):=by delta AE;intros;kernel_rfl
theorem ASi:AE (false::false::true::true::[]):=by delta AE;intros;kernel_rfl
theorem APy:AE (false::false::true::true::false::[]):=by delta AE;intros;kernel_rfl
theorem ARd:AE (false::false::true::true::false::false::[]):=by delta AE;intros;kernel_rfl
theorem AN3(ω:List Bool):AE (false::false::true::true::false::false::false::ω):=by delta AE;intros;kernel_rfl
theorem ARH(ω:List Bool):AE (false::false::true::true::false::false::true::ω):=by delta AE;intros;kernel_rfl
theorem APP:AE (false::false::true::true::false::true::[]):=by delta AE;intros;kernel_rfl
theorem AQQ(ω:List Bool):AE (false::false::true::true::false::true::false::ω):=by delta AE;intros;kernel_rfl
theorem APq:AE (false::false::true::true::false::true::true::[]):=by delta AE;intros;kernel_rfl
theorem ASQ(ω:List Bool):AE (false::false::true::true::false::true::true::false::ω):=by delta AE;intros;kernel_rfl
theorem AN4:AE (false::false::true::true::false::true::true::true::[]):=by delta AE;intros;kernel_rfl
theorem AOC(ω:List Bool):AE (false::false::true::true::false::true::true::true::false::ω):=by delta AE;intros;kernel_rfl
theorem ANL:AE (false::false::true::true::false::true::true::true::true::[]):=by delta AE;intros;kernel_rfl
theorem AQk(ω:List Bool):AE (false::false::true::true::false::true::true::true::true::false::ω):=by delta AE;intros;kernel_rfl
theorem AOj(ω:List Bool):AE (false::false::true::true::false::true::true::true::true::true::ω):=by delta AE;intros;kernel_rfl
theorem ANl:AE (false::false::true::true::true::[]):=by delta AE;intros;kernel_rfl
theorem AOn(ω:List Bool):AE (false::false::true::true::true::false::ω):=by delta AE;intros;kernel_rfl
theorem ASo:AE (false::false::true::true::true::true::[]):=by delta AE;intros;kernel_rfl
theorem AN0(ω:List Bool):AE (false::false::true::true::true::true::false::ω):=by delta AE;intros;kernel_rfl
theorem AR5:AE (false::false::true::true::true::true::true::[]):=by delta AE;intros;kernel_rfl
theorem ANS(ω:List Bool):AE (false::false::true::true::true::true::true::false::ω):=by delta AE;intros;kernel_rfl
theorem ARp:AE (false::false::true::true::true::true::true::true::[]):=by delta AE;intros;kernel_rfl
theorem ASV(ω:List Bool):AE (false::false::true::true::true::true::true::true::false::ω):=by delta AE;intros;kernel_rfl
theorem APm(ω:List Bool):AE (false::false::true::true::true::true::true::true::true::ω):=by delta AE;intros;kernel_rfl
theorem AQV:AE (false::true::[]):=by delta AE;intros;kernel_rfl
theorem ASX:AE (false::true::false::[]):=by delta AE;intros;kernel_rfl
theorem AQo:AE (false::true::false::false::[]):=by delta AE;intros;kernel_rfl
theorem AS0(ω:List Bool):AE (false::true::false::false::false::ω):=by delta AE;intros;kernel_rfl
theorem AO6:AE (false::true::false::false::true::[]):=by delta AE;intros;kernel_rfl
theorem AOF(ω:List Bool):AE (false::true::false::false::true::false::ω):=by delta AE;intros;kernel_rfl
theorem AOy:AE (false::true::false::false::true::true::[]):=by delta AE;intros;kernel_rfl
theorem APg(ω:List Bool):AE (false::true::false::false::true::true::false::ω):=by delta AE;intros;kernel_rfl
theorem ANY:AE (false::true::false::false::true::true::true::[]):=by delta AE;intros;kernel_rfl
theorem AOw(ω:List Bool):AE (false::true::false::false::true::true::true::false::ω):=by delta AE;intros;kernel_rfl
theorem ASl(ω:List Bool):AE (false::true::false::false::true::true::true::true::ω):=by delta AE;intros;kernel_rfl
theorem ANV:AE (false::true::false::true::[]):=by delta AE;intros;kernel_rfl
theorem ANK(ω:List Bool):AE (false::true::false::true::false::ω):=by delta AE;intros;kernel_rfl
theorem ANe:AE (false::true::false::true::true::[]):=by delta AE;intros;kernel_rfl
theorem ASf(ω:List Bool):AE (false::true::false::true::true::false::ω):=by delta AE;intros;kernel_rfl
theorem AO_:AE (false::true::false::true::true::true::[]):=by delta AE;intros;kernel_rfl
theorem ARc(ω:List Bool):AE (false::true::false::true::true::true::false::ω):=by delta AE;intros;kernel_rfl
theorem ARy:AE (false::true::false::true::true::true::true::[]):=by delta AE;intros;kernel_rfl
theorem AOZ(ω:List Bool):AE (false::true::false::true::true::true::true::false::ω):=by delta AE;intros;kernel_rfl
theorem ARO:AE (false::true::false::true::true::true::true::true::[]):=by delta AE;intros;kernel_rfl
theorem AIS(ω:List Bool):AE (false::true::false::true::true::true::true::true::false::ω):=by delta AE;intros;kernel_rfl
theorem AJQ(ω:List Bool):AE (false::true::false::true::true::true::true::true::true::ω):=by delta AE;intros;kernel_rfl
theorem AJO:AE (false::true::true::[]):=by delta AE;intros;kernel_rfl
theorem AH2:AE (false::true::true::false::[]):=by delta AE;intros;kernel_rfl
theorem AKX:AE (false::true::true::false::false::[]):=by delta AE;intros;kernel_rfl
theorem AJP(ω:List Bool):AE (false::true::true::false::false::false::ω):=by delta AE;intros;kernel_rfl
theorem ALt:AE (false::true::true::false::false::true::[]):=by delta AE;intros;kernel_rfl
theorem AJq(ω:List Bool):AE (false::true::true::false::false::true::false::ω):=by delta AE;intros;kernel_rfl
theorem AHJ:AE (false::true::true::false::false::true::true::[]):=by delta AE;intros;kernel_rfl
theorem ALU(ω:List Bool):AE (false::true::true::false::false::true::true::false::ω):=by delta AE;intros;kernel_rfl
theorem AGP(ω:List Bool):AE (false::true::true::false::false::true::true::true::ω):=by delta AE;intros;kernel_rfl
theorem AH8:AE (false::true::true::false::true::[]):=by delta AE;intros;kernel_rfl
theorem AKE(ω:List Bool):AE (false::true::true::false::true::false::ω):=by delta AE;intros;kernel_rfl
theorem AHI:AE (false::true::true::false::true::true::[]):=by delta AE;intros;kernel_rfl
theorem AIv(ω:List Bool):AE (false::true::true::false::true::true::false::ω):=by delta AE;intros;kernel_rfl
theorem AHH:AE (false::true::true::false::true::true::true::[]):=by delta AE;intros;kernel_rfl
theorem AI5(ω:List Bool):AE (false::true::true::false::true::true::true::false::ω):=by delta AE;intros;kernel_rfl
theorem AJ4:AE (false::true::true::false::true::true::true::true::[]):=by delta AE;intros;kernel_rfl
theorem AJS(ω:List Bool):AE (false::true::true::false::true::true::true::true::false::ω):=by delta AE;intros;kernel_rfl
theorem ALC(ω:List Bool):AE (false::true::true::false::true::true::true::true::true::ω):=by delta AE;intros;kernel_rfl
theorem AGa:AE (false::true::true::true::[]):=by delta AE;intros;kernel_rfl
theorem AIu:AE (false::true::true::true::false::[]):=by delta AE;intros;kernel_rfl
theorem AKW:AE (false::true::true::true::false::false::[]):=by delta AE;intros;kernel_rfl
theorem AKN(ω:List Bool):AE (false::true::true::true::false::false::false::ω):=by delta AE;intros;kernel_rfl
theorem AJz:AE (false::true::true::true::false::false::true::[]):=by delta AE;intros;kernel_rfl
theorem AG7(ω:List Bool):AE (false::true::true::true::false::false::true::false::ω):=by delta AE;intros;kernel_rfl
theorem AGb(ω:List Bool):AE (false::true::true::true::false::false::true::true::ω):=by delta AE;intros;kernel_rfl
theorem AHV:AE (false::true::true::true::false::true::[]):=by delta AE;intros;kernel_rfl
theorem AI_(ω:List Bool):AE (false::true::true::true::false::true::false::ω):=by delta AE;intros;kernel_rfl
theorem AH4:AE (false::true::true::true::false::true::true::[]):=by delta AE;intros;kernel_rfl
theorem AGc(ω:List Bool):AE (false::true::true::true::false::true::true::false::ω):=by delta AE;intros;kernel_rfl
theorem AIZ:AE (false::true::true::true::false::true::true::true::[]):=by delta AE;intros;kernel_rfl
theorem AKx(ω:List Bool):AE (false::true::true::true::false::true::true::true::false::ω):=by delta AE;intros;kernel_rfl
theorem AJb(ω:List Bool):AE (false::true::true::true::false::true::true::true::true::ω):=by delta AE;intros;kernel_rfl
theorem ALG:AE (false::true::true::true::true::[]):=by delta AE;intros;kernel_rfl
theorem AJ_:AE (false::true::true::true::true::false::[]):=by delta AE;intros;kernel_rfl
theorem AGj:AE (false::true::true::true::true::false::false::[]):=by delta AE;intros;kernel_rfl
theorem ALE(ω:List Bool):AE (false::true::true::true::true::false::false::false::ω):=by delta AE;intros;kernel_rfl
theorem AIq(ω:List Bool):AE (false::true::true::true::true::false::false::true::ω):=by delta AE;intros;kernel_rfl
theorem AHR:AE (false::true::true::true::true::false::true::[]):=by delta AE;intros;kernel_rfl
theorem AKT(ω:List Bool):AE (false::true::true::true::true::false::true::false::ω):=by delta AE;intros;kernel_rfl
theorem AJ2:AE (false::true::true::true::true::false::true::true::[]):=by delta AE;intros;kernel_rfl
theorem AGo(ω:List Bool):AE (false::true::true::true::true::false::true::true::false::ω):=by delta AE;intros;kernel_rfl
theorem AJZ(ω:List Bool):AE (false::true::true::true::true::false::true::true::true::ω):=by delta AE;intros;kernel_rfl
theorem AKG:AE (false::true::true::true::true::true::[]):=by delta AE;intros;kernel_rfl
theorem AGf(ω:List Bool):AE (false::true::true::true::true::true::false::ω):=by delta AE;intros;kernel_rfl
theorem AKl:AE (false::true::true::true::true::true::true::[]):=by delta AE;intros;kernel_rfl
theorem AGV(ω:List Bool):AE (false::true::true::true::true::true::true::false::ω):=by delta AE;intros;kernel_rfl
theorem AHD(ω:List Bool):AE (false::true::true::true::true::true::true::true::ω):=by delta AE;intros;kernel_rfl
theorem AJC:AE (true::[]):=by delta AE;intros;kernel_rfl
theorem AJl:AE (true::false::[]):=by delta AE;intros;kernel_rfl
theorem AJc:AE (true::false::false::[]):=by delta AE;intros;kernel_rfl
theorem AIl:AE (true::false::false::false::[]):=by delta AE;intros;kernel_rfl
theorem ALN:AE (true::false::false::false::false::[]):=by delta AE;intros;kernel_rfl
theorem AIA:AE (true::false::false::false::false::false::[]):=by delta AE;intros;kernel_rfl
theorem AKD(ω:List Bool):AE (true::false::false::false::false::false::false::ω):=by delta AE;intros;kernel_rfl
theorem AJA(ω:List Bool):AE (true::false::false::false::false::false::true::ω):=by delta AE;intros;kernel_rfl
theorem AIM:AE (true::false::false::false::false::true::[]):=by delta AE;intros;kernel_rfl
theorem AJU(ω:List Bool):AE (true::false::false::false::false::true::false::ω):=by delta AE;intros;kernel_rfl
theorem AIT:AE (true::false::false::false::false::true::true::[]):=by delta AE;intros;kernel_rfl
theorem AGg(ω:List Bool):AE (true::false::false::false::false::true::true::false::ω):=by delta AE;intros;kernel_rfl
theorem AK_:AE (true::false::false::false::false::true::true::true::[]):=by delta AE;intros;kernel_rfl
theorem AGZ(ω:List Bool):AE (true::false::false::false::false::true::true::true::false::ω):=by delta AE;intros;kernel_rfl
theorem ALT(ω:List Bool):AE (true::false::false::false::false::true::true::true::true::ω):=by delta AE;intros;kernel_rfl
theorem AGU:AE (true::false::false::false::true::[]):=by delta AE;intros;kernel_rfl
theorem AHT(ω:List Bool):AE (true::false::false::false::true::false::ω):=by delta AE;intros;kernel_rfl
theorem AKc:AE (true::false::false::false::true::true::[]):=by delta AE;intros;kernel_rfl
theorem AKg(ω:List Bool):AE (true::false::false::false::true::true::false::ω):=by delta AE;intros;kernel_rfl
theorem AJT:AE (true::false::false::false::true::true::true::[]):=by delta AE;intros;kernel_rfl
theorem AIj(ω:List Bool):AE (true::false::false::false::true::true::true::false::ω):=by delta AE;intros;kernel_rfl
theorem ALV(ω:List Bool):AE (true::false::false::false::true::true::true::true::ω):=by delta AE;intros;kernel_rfl
theorem AHZ:AE (true::false::false::true::[]):=by delta AE;intros;kernel_rfl
theorem ALO:AE (true::false::false::true::false::[]):=by delta AE;intros;kernel_rfl
theorem AHW:AE (true::false::false::true::false::false::[]):=by delta AE;intros;kernel_rfl
theorem AH7(ω:List Bool):AE (true::false::false::true::false::false::false::ω):=by delta AE;intros;kernel_rfl
theorem AIC(ω:List Bool):AE (true::false::false::true::false::false::true::ω):=by delta AE;intros;kernel_rfl
theorem AGx:AE (true::false::false::true::false::true::[]):=by delta AE;intros;kernel_rfl
theorem ALS(ω:List Bool):AE (true::false::false::true::false::true::false::ω):=by delta AE;intros;kernel_rfl
theorem AHK:AE (true::false::false::true::false::true::true::[]):=by delta AE;intros;kernel_rfl
theorem AK7(ω:List Bool):AE (true::false::false::true::false::true::true::false::ω):=by delta AE;intros;kernel_rfl
theorem AKd:AE (true::false::false::true::false::true::true::true::[]):=by delta AE;intros;kernel_rfl
theorem AK4(ω:List Bool):AE (true::false::false::true::false::true::true::true::false::ω):=by delta AE;intros;kernel_rfl
theorem AHF:AE (true::false::false::true::false::true::true::true::true::[]):=by delta AE;intros;kernel_rfl
theorem AIx(ω:List Bool):AE (true::false::false::true::false::true::true::true::true::false::ω):=by delta AE;intros;kernel_rfl
theorem AJt(ω:List Bool):AE (true::false::false::true::false::true::true::true::true::true::ω):=by delta AE;intros;kernel_rfl
theorem AKn:AE (true::false::false::true::true::[]):=by delta AE;intros;kernel_rfl
theorem ALm(ω:List Bool):AE (true::false::false::true::true::false::ω):=by delta AE;intros;kernel_rfl
theorem AJm:AE (true::false::false::true::true::true::[]):=by delta AE;intros;kernel_rfl
theorem ALa(ω:List Bool):AE (true::false::false::true::true::true::false::ω):=by delta AE;intros;kernel_rfl
theorem AHQ:AE (true::false::false::true::true::true::true::[]):=by delta AE;intros;kernel_rfl
theorem AG1(ω:List Bool):AE (true::false::false::true::true::true::true::false::ω):=by delta AE;intros;kernel_rfl
theorem ALv:AE (true::false::false::true::true::true::true::true::[]):=by delta AE;intros;kernel_rfl
theorem AGn(ω:List Bool):AE (true::false::false::true::true::true::true::true::false::ω):=by delta AE;intros;kernel_rfl
theorem AJF(ω:List Bool):AE (true::false::false::true::true::true::true::true::true::ω):=by delta AE;intros;kernel_rfl
theorem AJ3:AE (true::false::true::[]):=by delta AE;intros;kernel_rfl
theorem AKM:AE (true::false::true::false::[]):=by delta AE;intros;kernel_rfl
theorem AGd:AE (true::false::true::false::false::[]):=by delta AE;intros;kernel_rfl
theorem AH_(ω:List Bool):AE (true::false::true::false::false::false::ω):=by delta AE;intros;kernel_rfl
theorem AHd:AE (true::false::true::false::false::true::[]):=by delta AE;intros;kernel_rfl
theorem AG3(ω:List Bool):AE (true::false::true::false::false::true::false::ω):=by delta AE;intros;kernel_rfl
theorem ALp:AE (true::false::true::false::false::true::true::[]):=by delta AE;intros;kernel_rfl
theorem AKo(ω:List Bool):AE (true::false::true::false::false::true::true::false::ω):=by delta AE;intros;kernel_rfl
theorem AJj(ω:List Bool):AE (true::false::true::false::false::true::true::true::ω):=by delta AE;intros;kernel_rfl
theorem AKs:AE (true::false::true::false::true::[]):=by delta AE;intros;kernel_rfl
theorem AKe(ω:List Bool):AE (true::false::true::false::true::false::ω):=by delta AE;intros;kernel_rfl
theorem AHw:AE (true::false::true::false::true::true::[]):=by delta AE;intros;kernel_rfl
theorem AIU(ω:List Bool):AE (true::false::true::false::true::true::false::ω):=by delta AE;intros;kernel_rfl
theorem AHn:AE (true::false::true::false::true::true::true::[]):=by delta AE;intros;kernel_rfl
theorem AHz(ω:List Bool):AE (true::false::true::false::true::true::true::false::ω):=by delta AE;intros;kernel_rfl
theorem AKi:AE (true::false::true::false::true::true::true::true::[]):=by delta AE;intros;kernel_rfl
theorem ALs(ω:List Bool):AE (true::false::true::false::true::true::true::true::false::ω):=by delta AE;intros;kernel_rfl
theorem AId(ω:List Bool):AE (true::false::true::false::true::true::true::true::true::ω):=by delta AE;intros;kernel_rfl
theorem AI4:AE (true::false::true::true::[]):=by delta AE;intros;kernel_rfl
theorem AJn:AE (true::false::true::true::false::[]):=by delta AE;intros;kernel_rfl
theorem AK6:AE (true::false::true::true::false::false::[]):=by delta AE;intros;kernel_rfl
theorem AJe(ω:List Bool):AE (true::false::true::true::false::false::false::ω):=by delta AE;intros;kernel_rfl
theorem ALQ:AE (true::false::true::true::false::false::true::[]):=by delta AE;intros;kernel_rfl
theorem AHa(ω:List Bool):AE (true::false::true::true::false::false::true::false::ω):=by delta AE;intros;kernel_rfl
theorem ALc(ω:List Bool):AE (true::false::true::true::false::false::true::true::ω):=by delta AE;intros;kernel_rfl
theorem AIb:AE (true::false::true::true::false::true::[]):=by delta AE;intros;kernel_rfl
theorem AI9(ω:List Bool):AE (true::false::true::true::false::true::false::ω):=by delta AE;intros;kernel_rfl
theorem AIE:AE (true::false::true::true::false::true::true::[]):=by delta AE;intros;kernel_rfl
theorem AKb(ω:List Bool):AE (true::false::true::true::false::true::true::false::ω):=by delta AE;intros;kernel_rfl
theorem AHB:AE (true::false::true::true::false::true::true::true::[]):=by delta AE;intros;kernel_rfl
theorem AIL(ω:List Bool):AE (true::false::true::true::false::true::true::true::false::ω):=by delta AE;intros;kernel_rfl
theorem ALL(ω:List Bool):AE (true::false::true::true::false::true::true::true::true::ω):=by delta AE;intros;kernel_rfl
theorem ALk:AE (true::false::true::true::true::[]):=by delta AE;intros;kernel_rfl
theorem AIe:AE (true::false::true::true::true::false::[]):=by delta AE;intros;kernel_rfl
theorem AIh:AE (true::false::true::true::true::false::false::[]):=by delta AE;intros;kernel_rfl
theorem AKr(ω:List Bool):AE (true::false::true::true::true::false::false::false::ω):=by delta AE;intros;kernel_rfl
theorem AHl(ω:List Bool):AE (true::false::true::true::true::false::false::true::ω):=by delta AE;intros;kernel_rfl
theorem AKQ:AE (true::false::true::true::true::false::true::[]):=by delta AE;intros;kernel_rfl
theorem AJ1(ω:List Bool):AE (true::false::true::true::true::false::true::false::ω):=by delta AE;intros;kernel_rfl
theorem AI0:AE (true::false::true::true::true::false::true::true::[]):=by delta AE;intros;kernel_rfl
theorem AHr(ω:List Bool):AE (true::false::true::true::true::false::true::true::false::ω):=by delta AE;intros;kernel_rfl
theorem ALH(ω:List Bool):AE (true::false::true::true::true::false::true::true::true::ω):=by delta AE;intros;kernel_rfl
theorem ALl:AE (true::false::true::true::true::true::[]):=by delta AE;intros;kernel_rfl
theorem AJ0(ω:List Bool):AE (true::false::true::true::true::true::false::ω):=by delta AE;intros;kernel_rfl
theorem AI7:AE (true::false::true::true::true::true::true::[]):=by delta AE;intros;kernel_rfl
theorem AHG(ω:List Bool):AE (true::false::true::true::true::true::true::false::ω):=by delta AE;intros;kernel_rfl
theorem ALA(ω:List Bool):AE (true::false::true::true::true::true::true::true::ω):=by delta AE;intros;kernel_rfl
theorem AIF:AE (true::true::[]):=by delta AE;intros;kernel_rfl
theorem AHb:AE (true::true::false::[]):=by delta AE;intros;kernel_rfl
theorem AJB:AE (true::true::false::false::[]):=by delta AE;intros;kernel_rfl
theorem AHj(ω:List Bool):AE (true::true::false::false::false::ω):=by delta AE;intros;kernel_rfl
theorem AH0:AE (true::true::false::false::true::[]):=by delta AE;intros;kernel_rfl
theorem AG6(ω:List Bool):AE (true::true::false::false::true::false::ω):=by delta AE;intros;kernel_rfl
theorem AHA:AE (true::true::false::false::true::true::[]):=by delta AE;intros;kernel_rfl
theorem AGw(ω:List Bool):AE (true::true::false::false::true::true::false::ω):=by delta AE;intros;kernel_rfl
theorem AJR(ω:List Bool):AE (true::true::false::false::true::true::true::ω):=by delta AE;intros;kernel_rfl
theorem AJw:AE (true::true::false::true::[]):=by delta AE;intros;kernel_rfl
theorem AGX(ω:List Bool):AE (true::true::false::true::false::ω):=by delta AE;intros;kernel_rfl
theorem AK1:AE (true::true::false::true::true::[]):=by delta AE;intros;kernel_rfl
theorem AGS(ω:List Bool):AE (true::true::false::true::true::false::ω):=by delta AE;intros;kernel_rfl
theorem AHh:AE (true::true::false::true::true::true::[]):=by delta AE;intros;kernel_rfl
theorem AHx(ω:List Bool):AE (true::true::false::true::true::true::false::ω):=by delta AE;intros;kernel_rfl
theorem AK2:AE (true::true::false::true::true::true::true::[]):=by delta AE;intros;kernel_rfl
theorem ALq(ω:List Bool):AE (true::true::false::true::true::true::true::false::ω):=by delta AE;intros;kernel_rfl
theorem AJK(ω:List Bool):AE (true::true::false::true::true::true::true::true::ω):=by delta AE;intros;kernel_rfl
theorem AHg:AE (true::true::true::[]):=by delta AE;intros;kernel_rfl
theorem AIw:AE (true::true::true::false::[]):=by delta AE;intros;kernel_rfl
theorem AJ9:AE (true::true::true::false::false::[]):=by delta AE;intros;kernel_rfl
theorem AHv(ω:List Bool):AE (true::true::true::false::false::false::ω):=by delta AE;intros;kernel_rfl
theorem ALr:AE (true::true::true::false::false::true::[]):=by delta AE;intros;kernel_rfl
theorem AG2(ω:List Bool):AE (true::true::true::false::false::true::false::ω):=by delta AE;intros;kernel_rfl
theorem ALu(ω:List Bool):AE (true::true::true::false::false::true::true::ω):=by delta AE;intros;kernel_rfl
theorem ALh:AE (true::true::true::false::true::[]):=by delta AE;intros;kernel_rfl
theorem AGW(ω:List Bool):AE (true::true::true::false::true::false::ω):=by delta AE;intros;kernel_rfl
theorem AKJ:AE (true::true::true::false::true::true::[]):=by delta AE;intros;kernel_rfl
theorem AGr(ω:List Bool):AE (true::true::true::false::true::true::false::ω):=by delta AE;intros;kernel_rfl
theorem AKP:AE (true::true::true::false::true::true::true::[]):=by delta AE;intros;kernel_rfl
theorem AKV(ω:List Bool):AE (true::true::true::false::true::true::true::false::ω):=by delta AE;intros;kernel_rfl
theorem AIR(ω:List Bool):AE (true::true::true::false::true::true::true::true::ω):=by delta AE;intros;kernel_rfl
theorem AKZ:AE (true::true::true::true::[]):=by delta AE;intros;kernel_rfl
theorem AJx:AE (true::true::true::true::false::[]):=by delta AE;intros;kernel_rfl
theorem AHM:AE (true::true::true::true::false::false::[]):=by delta AE;intros;kernel_rfl
theorem AGt(ω:List Bool):AE (true::true::true::true::false::false::false::ω):=by delta AE;intros;kernel_rfl
theorem AGe(ω:List Bool):AE (true::true::true::true::false::false::true::ω):=by delta AE;intros;kernel_rfl
theorem AJH:AE (true::true::true::true::false::true::[]):=by delta AE;intros;kernel_rfl
theorem AGQ(ω:List Bool):AE (true::true::true::true::false::true::false::ω):=by delta AE;intros;kernel_rfl
theorem ALi:AE (true::true::true::true::false::true::true::[]):=by delta AE;intros;kernel_rfl
theorem AHe(ω:List Bool):AE (true::true::true::true::false::true::true::false::ω):=by delta AE;intros;kernel_rfl
theorem AGu(ω:List Bool):AE (true::true::true::true::false::true::true::true::ω):=by delta AE;intros;kernel_rfl
theorem AKC:AE (true::true::true::true::true::[]):=by delta AE;intros;kernel_rfl
theorem ALo(ω:List Bool):AE (true::true::true::true::true::false::ω):=by delta AE;intros;kernel_rfl
theorem AIV:AE (true::true::true::true::true::true::[]):=by delta AE;intros;kernel_rfl
theorem AGp(ω:List Bool):AE (true::true::true::true::true::true::false::ω):=by delta AE;intros;kernel_rfl
theorem AHm(ω:List Bool):AE (true::true::true::true::true::true::true::ω):=by delta AE;intros;kernel_rfl
theorem b51(dO:ABr→Option Fe)(j9:ACN→Option KT)(cg:ACF→Option Fc)(jq:ABH→Option GL)(kQ:AC8→Option JP)(n:Nat)(ω:List Bool)(v:i51.V):DR ⟨T,Q_ [(101,⟨fa,xk,fa.un dO⟩),(102,⟨kJ,yr,kJ.un j9⟩),(103,⟨gG,wG,gG.un cg⟩),(104,⟨bS,uL,bS.un jq⟩),(105,⟨i105,zN,i105.un kQ⟩)],CX [(1,[0,1]),(5,[0,1,2,3,4,5,6,7,8,9,11,13,14,15,16,17,18]),(9,[0,1,2,3,4,5,6,7,8,9,11,12,13,14,16,17,18]),(13,[0,1,2,3,4,5,6,7,8,9,11,12,13,14,15,17,18]),(17,[0,1,2,3,4,5,6,7,8,9,11,12,13,14,15,16,18])]⟩ c51 Tryz.f51 (M9 0 L51 n) ω v=i51.un (fun(p0:ABF)=>
 if 0+p0.1.length≤Go.M.Dr then(
 if 0+p0.2.2.2.1.length≤Go.M.Dr then(
 (dO (p0.2.2.2.2.1,p0.2.2.2.2.2.1,())).bind fun u2=>
 if 0+p0.2.2.2.2.2.2.2.2.2.1.length≤Go.M.Dr then(
 (CU n) 0 p0.1 p0.2.1 p0.2.2.1 p0.2.2.2.1 p0.2.2.2.2.1 p0.2.2.2.2.2.1 p0.2.2.2.2.2.2.1 p0.2.2.2.2.2.2.2.1 p0.2.2.2.2.2.2.2.2.1 p0.2.2.2.2.2.2.2.2.2.1 p0.2.2.2.2.2.2.2.2.2.2.1 0 0 false [] [] [] [] [] [] [] [] p0.2.1 u2.1.1.2.1 p0.2.2.2.2.2.2.2.2.2.2.1 p0.1 [] p0.2.2.2.1 u2.2.1 [] [] [] p0.2.2.2.2.2.2.2.2.2.1)else none)else none)else none) v:=(AF AT2 (AF AVd (AF AVm (AF AUa (AF AVe (AF AWh AUu (AF AVC AUM AOU)) (AF ARz AQd (AF ARt ASG (AF ANo ARv (AF AQe AQT AQ7))))) (AF ASm (AF AP2 (AF AOL AP8 APw) (AF AOf ARM (AF ASW AQ3 (AF AN1 APr AQz)))) (AF ASS AR_ (AF AON APd (AF AOS AOM AR8))))) (AF ANJ (AF AP4 (AF ASN ARC (AF AOq AOd AOl)) (AF ASY APT (AF ANC ANs (AF ANc ARQ (AF ANx ART (AF AQ0 AOi AR7)))))) (AF ASi (AF APy (AF ARd AN3 ARH) (AF APP AQQ (AF APq ASQ (AF AN4 AOC (AF ANL AQk AOj))))) (AF ANl AOn (AF ASo AN0 (AF AR5 ANS (AF ARp ASV APm))))))) (AF AQV (AF ASX (AF AQo AS0 (AF AO6 AOF (AF AOy APg (AF ANY AOw ASl)))) (AF ANV ANK (AF ANe ASf (AF AO_ ARc (AF ARy AOZ (AF ARO AIS AJQ)))))) (AF AJO (AF AH2 (AF AKX AJP (AF ALt AJq (AF AHJ ALU AGP))) (AF AH8 AKE (AF AHI AIv (AF AHH AI5 (AF AJ4 AJS ALC))))) (AF AGa (AF AIu (AF AKW AKN (AF AJz AG7 AGb)) (AF AHV AI_ (AF AH4 AGc (AF AIZ AKx AJb)))) (AF ALG (AF AJ_ (AF AGj ALE AIq) (AF AHR AKT (AF AJ2 AGo AJZ))) (AF AKG AGf (AF AKl AGV AHD))))))) (AF AJC (AF AJl (AF AJc (AF AIl (AF ALN (AF AIA AKD AJA) (AF AIM AJU (AF AIT AGg (AF AK_ AGZ ALT)))) (AF AGU AHT (AF AKc AKg (AF AJT AIj ALV)))) (AF AHZ (AF ALO (AF AHW AH7 AIC) (AF AGx ALS (AF AHK AK7 (AF AKd AK4 (AF AHF AIx AJt))))) (AF AKn ALm (AF AJm ALa (AF AHQ AG1 (AF ALv AGn AJF)))))) (AF AJ3 (AF AKM (AF AGd AH_ (AF AHd AG3 (AF ALp AKo AJj))) (AF AKs AKe (AF AHw AIU (AF AHn AHz (AF AKi ALs AId))))) (AF AI4 (AF AJn (AF AK6 AJe (AF ALQ AHa ALc)) (AF AIb AI9 (AF AIE AKb (AF AHB AIL ALL)))) (AF ALk (AF AIe (AF AIh AKr AHl) (AF AKQ AJ1 (AF AI0 AHr ALH))) (AF ALl AJ0 (AF AI7 AHG ALA)))))) (AF AIF (AF AHb (AF AJB AHj (AF AH0 AG6 (AF AHA AGw AJR))) (AF AJw AGX (AF AK1 AGS (AF AHh AHx (AF AK2 ALq AJK))))) (AF AHg (AF AIw (AF AJ9 AHv (AF ALr AG2 ALu)) (AF ALh AGW (AF AKJ AGr (AF AKP AKV AIR)))) (AF AKZ (AF AJx (AF AHM AGt AGe) (AF AJH AGQ (AF ALi AHe AGu))) (AF AKC ALo (AF AIV AGp AHm))))))) ω dO j9 cg jq kQ n v
theorem e51(n:Nat)(ω:List Bool)(v:i51.V):DR C51 c51 Tryz.f51 (M9 0 L51 n) ω v=i51.un (QP (CU n) (Cm n) (CR n) (CS n)) v:=b51 GA Em FP EM CK n ω v
def s51:SQ:=mk Tryz.func51 i51 o51 L8 [ABV,ACB,AC0,ABq,ALX] [(1,[0,1]),(5,[0,1,2,3,4,5,6,7,8,9,11,13,14,15,16,17,18]),(9,[0,1,2,3,4,5,6,7,8,9,11,12,13,14,16,17,18]),(13,[0,1,2,3,4,5,6,7,8,9,11,12,13,14,15,17,18]),(17,[0,1,2,3,4,5,6,7,8,9,11,12,13,14,15,16,18])] L51 (hJ:= .cons (fun _=>rfl) AVP (.cons (fun _=>rfl) AT9 (.cons (fun _=>rfl) ARo (.cons (fun _=>rfl) AQb (.nil))))) (he:=e51 Ae)
def AVY:SQ:=mk Tryz.func215 Ff fJ N4 [Xt] [] [⟨3,⟨[(0,BO),(3,nq),(4,BO)],uj⟩,Hn⟩]
abbrev yO:Ba:=AMt
abbrev AQI:Ba:=AMo
def AUF:QU:=⟨yO,AQI,(yO.un OZ)⟩
def Aaj:aN:=⟨T,Q_ (SP.l [s82,ABV,ABw]),CX [(6,[0,1,2])]⟩
def ANF:List (Lp AQI):=[]
theorem AYU(g82:AA9→List Int→Option jE)(dO:ABr→Option Fe)(AVH:AA9→ABr→Option Ry)(n:Nat)(ω:List Bool)(v:yO.V):DR ⟨T,Q_ [(82,⟨i82,o82,i82.un g82⟩),(101,⟨fa,xk,fa.un dO⟩),(182,⟨i182,AUw,i182.un AVH⟩)],CX [(6,[0,1,2])]⟩ AUF Tryz.f214 (M9 0 ANF n) ω v=yO.un (fun(p0:AA9) (p1:ABr) (p2:AAO)=>
 (AVH (p0.1,p0.2.1,()) (p1.1,p1.2.1,())).bind fun u1=>
 cond (!u1.1.1)
  (some (((((),0,()),0,false,()),()),([],())))
 ((dO (p1.1,p1.2.1,())).bind fun u2=>
 (g82 (p0.1,p0.2.1,()) p2).bind fun u3=>
 cond (!u3.1.1)
  (some (((((),u2.1.1.2.1,()),0,false,()),()),(u2.2.1,())))
 (cond (((p1.1.length:Int)==30))
  (some (((((),u2.1.1.2.1,()),0,false,()),()),(u2.2.1,())))
 (if 0+p2.length≤Go.M.Dr then(
 if u2.2.1.length+1≤Go.M.Dr then(
 let x5:AAS:=u2.2.1++[(p2,false,0,())]
 some (((((),u2.1.1.2.1,()),(x5.length:Int),true,()),()),(x5,())))else none)else none)))) v:=by rcases ω with _|⟨_|_,_|⟨_|_,_|⟨_|_,_|⟨_|_,_|⟨_|_,_⟩⟩⟩⟩⟩<;>kernel_rfl
theorem AZO(n:Nat)(ω:List Bool)(v:yO.V):DR Aaj AUF Tryz.f214 (M9 0 ANF n) ω v=yO.un (OZ) v:=AYU FL GA MQ n ω v
def AbV:SQ:=mk Tryz.func214 yO AQI OZ [s82,ABV,ABw] [(6,[0,1,2])] ANF (hJ:= .nil) (he:=AZO Ae)
def AYh:SQ:=mk Tryz.func131 bm ⟨[(0,.MH [.inr [.ref 0,.v tI,.ref 1,.ref 2,.ref 8,.v tI,.ref 9,.ref 10,.ref 6,.ref 7,.v .bool],.inl (.v tI)])],[C6,V3,C6,PS,PS,PS,Ox,Jh,KX,Q4,SZ]⟩ Vm [AbV,AVY] [(3,[0,1,2,3,4,5,6,7,8,9,10])] [] (he:=fun ω v=>by rcases ω with _|⟨_|_,_|⟨_|_,_⟩⟩<;>kernel_rfl)
def AOE:SQ:=mk Tryz.func216 xW CY LC [Xt] [] []
abbrev zC:Ba:=AMH
abbrev AOt:Ba:=AM3
def AU1:QU:=⟨zC,AOt,(zC.un K_)⟩
def Abs:aN:=⟨T,Q_ (SP.l [AC0,AES]),CX []⟩
def AQr:List (Lp AOt):=[]
theorem Aa7(cg:ACF→Option Fc)(ASF:AA9→ACF→Option Mf)(n:Nat)(ω:List Bool)(v:zC.V):DR ⟨T,Q_ [(103,⟨gG,wG,gG.un cg⟩),(183,⟨i183,AUl,i183.un ASF⟩)],CX []⟩ AU1 Tryz.f217 (M9 0 AQr n) ω v=zC.un (fun(p0:AA9) (p1:ACF) (p2:ACC)=>
 (ASF (p0.1,p0.2.1,()) (p1.1,p1.2.1,())).bind fun u1=>
 cond (!u1.1.1)
  (some ((((0,(),()),0,false,()),()),([],())))
 ((cg (p1.1,p1.2.1,())).bind fun u2=>
 if u2.2.1.length+1≤Go.M.Dr then(
 let x3:ACA:=u2.2.1++[(p2,[],false,())]
 (ASF (p0.1,p0.2.1,()) (u2.1.1.1,x3,())).bind fun u4=>
 cond (!u4.1.1)
  ((cg (p1.1,p1.2.1,())).bind fun u5=>
  some ((((u5.1.1.1,(),()),0,false,()),()),(u5.2.1,())))
 (some ((((u2.1.1.1,(),()),(x3.length:Int),true,()),()),(x3,()))))else none)) v:=by rcases ω with _|⟨_|_,_|⟨_|_,_⟩⟩<;>kernel_rfl
theorem AZd(n:Nat)(ω:List Bool)(v:zC.V):DR Abs AU1 Tryz.f217 (M9 0 AQr n) ω v=zC.un (K_) v:=Aa7 FP HS n ω v
def Aax:SQ:=mk Tryz.func217 zC AOt K_ [AC0,AES] [] AQr (hJ:= .nil) (he:=AZd Ae)
abbrev yI:Ba:=lx
abbrev o71:Ba:=Ff
def s71:SQ:=mk Tryz.func71 yI o71 ES [] [] []
def AaF:SQ:=mk Tryz.func132 bm ⟨[(0,.MH [.inr [.ref 0,.v tI,.ref 1,.ref 2,.ref 3,.v tI,.ref 4,.ref 5,.ref 6,.ref 8,.v .bool],.inl (.v tI)])],[C6,V3,C6,KX,Q4,SZ,Ox,PS,Jh]⟩ X8 [s71,AOE,Aax] [(3,[0,1,2,3,4,5,6,7,8,9,10]),(7,[0,1,2,3,4,5,6,7,8,9,10]),(11,[0,1,2,3,4,5,6,7,8,9,10,11,12,13,14,15,16,17,18]),(18,[0,1,2,3,4,5,6,7,8,9,10,11,12,13,14,15,16,17,18,19])] [⟨9,⟨[(2,gA),(4,cT),(9,mc),(10,BO)],[C6,V3,C6,KX,Q4,SZ,Ox,Jh,ri,rh,Es,Xo,Es,RN,Xu,Xs,Xk,Rr,AQp]⟩,Lo⟩,⟨16,⟨[(2,gA),(4,cT),(9,mc),(11,.c (.ref 19)),(12,xP0),(13,BO)],[C6,V3,C6,KX,Q4,SZ,Ox,Jh,ri,rh,Es,Xo,Es,RN,Xu,Xs,Xk,Rr,AQp,Rr]⟩,Jr⟩] (he:=fun ω v=>by rcases ω with _|⟨_|_,_|⟨_|_,_|⟨_|_,_⟩⟩⟩<;>kernel_rfl)
def yK:SQ:=mk Tryz.func218 xW Ff HN [Xt,mn] [] []
def AaX:SQ:=mk Tryz.func277 AEL CY V_ [oK] [(2,[0,1])] []
def AV2:SQ:=mk Tryz.func219 AEL tL Pg [ACB,yx,AIB,AaX] [] []
def AaA:SQ:=mk Tryz.func133 bm r6 Tr [s69,s71,Xt,mn,AOE,yK,AV2] [(9,[0,1,2,3,4,5,6,7,8,9,10,11]),(11,[0,1,2,3,4,5,6,7,8,9,10,11,12])] [] (he:=fun ω v=>by rcases ω with _|⟨_|_,_|⟨_|_,_⟩⟩<;>kernel_rfl)
def AUP:SQ:=mk Tryz.func305 AMb AM4 Qg [] [] []
def AQ5:SQ:=mk Tryz.func284 ⟨[(0,qv),(1,.row Y1)],[]⟩ wq Qd [AUP] [(6,[0,1]),(7,[0]),(9,[0,1])] [⟨4,⟨[(0,qv),(3,Kf),(5,xP6),(6,xP0),(7,BO)],[ABd,MX]⟩,JJ⟩]
def AUS:SQ:=mk Tryz.func237 iM tL MY [ACB,Xt,yx,AQ5] [(3,[0,1]),(8,[0,1,2,3,5,6])] [⟨5,AL_,I8⟩] (he:=fun ω v=>by rcases ω with _|⟨_|_,_|⟨_|_,_⟩⟩<;>kernel_rfl)
def AUd:SQ:=mk Tryz.func220 lf tL N_ [AUS] [] []
abbrev hI:Ba:=AEq
abbrev vl:Ba:=vt
def AJW:SQ:=mk Tryz.func278 hI vl HJ [] [] [⟨2,⟨[(0,qv),(1,BO),(4,Kf),(6,BO)],[ABd]⟩,Pb⟩]
abbrev gW:Ba:=AL6
abbrev wO:Ba:=AMA
def AWZ:SQ:=mk Tryz.func279 gW wO FZ [s82,AC0,Xt,ACq,AES] [(6,[0,1,2,4]),(7,[0,1,2,4])] []
def Aad:SQ:=mk Tryz.func287 lx oJ RZ [Xt] [] []
abbrev gu:Ba:=AM0
abbrev wR:Ba:=vt
def ANq:SQ:=mk Tryz.func231 gu wR Eg [AJW,Aad] [] []
abbrev gP:Ba:=AM6
abbrev vm:Ba:=wY
def AWv:SQ:=mk Tryz.func281 gP vm HL [ABq,Xt,ACq,ACz] [(6,[0,1,2,3,4,6])] []
abbrev zM:Ba:=⟨[(0,ARD),(1,BO)],[C6,UQ,C6,KX,Q4,SZ,Ox,Jh]⟩
abbrev AQh:Ba:=⟨AOp,AMn⟩
def ke:QU:=⟨zM,AQh,(zM.un V7)⟩
def ABg:aN:=⟨T,Q_ (SP.l [s69,s71,mn,oK,ANq,AJW,AWZ,AIg,AWv]),CX [(10,[0,1,2,3,4,5,6,7,8,9,10,11]),(18,[0,1,2,3,4,5,6,7,8,9,10,11,12,13,14,15,16,17,18,19])]⟩
def iY:List (Lp AQh):=[⟨3,⟨[(1,BO),(2,gA),(4,cT),(5,mc),(6,BO)],[C6,UQ,C6,KX,ij,SZ,Ox,Jh,ri,rh,Es,Xo,Es,RN,Xu,Xs,Xk,Rr,zV]⟩,Be⟩,⟨8,⟨[(1,BO),(2,gA),(4,cT),(5,mc),(6,BO),(7,jv),(8,BO),(46,.c (.ptr 18 2)),(47,BO),(48,jv),(49,BO),(50,xP0)],AAM⟩,BD⟩,⟨15,⟨[(1,BO),(2,gA),(4,cT),(5,mc),(6,BO),(7,jv),(11,BO),(46,.c (.ptr 18 2)),(47,BO),(48,jv),(49,BO),(50,xP0)],AAM⟩,BF⟩,⟨21,⟨[(1,BO),(2,gA),(4,cT),(5,mc),(13,BO)],[C6,UQ,C6,KX,ij,.sl 1 Y7,Ox,Jh,ri,rh,Es,Xo,Es,RN,Xu,Xs,Xk,Rr,zV]⟩,Bg⟩,⟨25,⟨[(1,BO),(2,gA),(4,cT),(5,mc),(13,BO),(14,jv),(15,BO)],[C6,UQ,C6,KX,ij,.sl 1 Y7,Ox,Jh,ri,rh,Es,Xo,Es,RN,Xu,Xs,Xk,Rr,zV,.mem [.v tI,.v tI,.sl true tI,.sl true Y1,.v .bool,.sl true (.sl tI)]]⟩,Bb⟩]
abbrev kf:Ba:=⟨[(1,BO),(2,gA),(4,cT),(5,mc),(6,BO)],[C6,UQ,C6,KX,ij,SZ,Ox,Jh,ri,rh,Es,Xo,Es,RN,Xu,Xs,Xk,Rr,zV]⟩
abbrev aw:Ba:=⟨[(1,BO),(2,gA),(4,cT),(5,mc),(6,BO),(7,jv),(8,BO),(46,.c (.ptr 18 2)),(47,BO),(48,jv),(49,BO),(50,xP0)],AAM⟩
abbrev du:Ba:=⟨[(1,BO),(2,gA),(4,cT),(5,mc),(6,BO),(7,jv),(11,BO),(46,.c (.ptr 18 2)),(47,BO),(48,jv),(49,BO),(50,xP0)],AAM⟩
abbrev dy:Ba:=⟨[(1,BO),(2,gA),(4,cT),(5,mc),(13,BO)],[C6,UQ,C6,KX,ij,.sl 1 Y7,Ox,Jh,ri,rh,Es,Xo,Es,RN,Xu,Xs,Xk,Rr,zV]⟩
abbrev eG:Ba:=⟨[(1,BO),(2,gA),(4,cT),(5,mc),(13,BO),(14,jv),(15,BO)],[C6,UQ,C6,KX,ij,.sl 1 Y7,Ox,Jh,ri,rh,Es,Xo,Es,RN,Xu,Xs,Xk,Rr,zV,.mem [.v tI,.v tI,.sl true tI,.sl true Y1,.v .bool,.sl true (.sl tI)]]⟩
theorem ASg(xp:ABr→Int→Option Gu)(xo:Int→Int→Option Hb)(eg:List Int→Int→Option Gg)(fc:Int→Option Hg)(fy:ABH→Int→Option Fq)(dH:AAw→Int→Option Gc)(eV:AA9→ACF→Int→Int→Option F_)(eW:Int→Option J5)(gM:AA9→ABH→Int→Int→Option Hi)(n:Nat)(v:kf.V)(ω:List Bool):JR ⟨T,Q_ [(69,⟨zJ,o69,zJ.un xp⟩),(71,⟨yI,o71,yI.un xo⟩),(180,⟨gg,wM,gg.un eg⟩),(186,⟨gQ,wj,gQ.un fc⟩),(231,⟨gu,wR,gu.un fy⟩),(278,⟨hI,vl,hI.un dH⟩),(279,⟨gW,wO,gW.un eV⟩),(280,⟨gF,vv,gF.un eW⟩),(281,⟨gP,vm,gP.un gM⟩)],CX [(10,[0,1,2,3,4,5,6,7,8,9,10,11]),(18,[0,1,2,3,4,5,6,7,8,9,10,11,12,13,14,15,16,17,18,19])]⟩ ke Tryz.f221 (M9 8 iY n) 3 ω (kf.st 207 v)=kf.un (fun(t1:Int) (t6:Int) (b0:AAO) (b1:AAP) (b2:AAO) (b3:AAS) (b4:AAr) (b5:AAv) (b6:AAs) (b7:AAk) (Dc:Int) (Dq:Int) (CH:Bool) (Dx:Int) (FT:Int) (Cq:Bool) (Jc:AAO) (FV:AAP) (Di:AAO) (GF:AAS) (GG:AAr) (D8:AAv) (EZ:AAs) (FD:AAk) (Ca:AAw) (C2:AAw) (Cc:Int)=>
 cond ((decide (t6<(b4.length:Int))))
  (if(0:Int)≤t6∧t6<(b4.length:Int)then(
  (xp (b3,Dq,()) ((b4.getD (t6.toNat) (0,[],())).1)).bind fun u3=>
  (eg u3.2.1 t1).bind fun u4=>
  cond (!u4.1.1)
   ((Be n) t1 (AZ (t6+1)) b0 b1 b2 b3 b4 b5 b6 b7 Dc Dq CH Dx FT Cq Jc FV Di GF GG D8 EZ FD Ca C2 Cc)
  (let x5:Int:=(b4.getD (t6.toNat) (0,[],())).1
  cond (decide (Cc≥x5))
   ((Be n) t1 (AZ (t6+1)) b0 b1 b2 b3 b4 b5 b6 b7 Dc Dq CH Dx FT Cq Jc FV Di GF GG D8 EZ FD Ca C2 Cc)
  ((BD n) t1 t6 1 Cc x5 (decide (Cc≥x5)) b0 b1 b2 b3 b4 b5 b6 b7 Dc Dq CH Dx FT Cq Jc FV Di GF GG D8 EZ FD Ca C2 Cc ((b4.getD (t6.toNat) (0,[],())).1) ((b4.getD (t6.toNat) (0,[],())).2.1))))else none)
 ((Bg n) t1 0 b0 b1 b2 b3 b4 b5 b6 b7 Dc Dq CH Dx FT Cq Jc FV Di GF GG D8 EZ FD Ca C2 Cc)) v:=by kernel_rfl
theorem APS(n:Nat)(v:kf.V)(ω:List Bool):JR ABg ke Tryz.f221 (M9 8 iY n) 3 ω (kf.st 207 v)=kf.un (L3 (Be n) (BD n) (BF n) (Bg n) (Bb n)) v:=ASg CW ES DG Cr Eg HJ FZ HD HL n v ω
def Bf(ω:List Bool):Prop:= ∀(xp:ABr→Int→Option Gu) (xo:Int→Int→Option Hb) (eg:List Int→Int→Option Gg) (fc:Int→Option Hg) (fy:ABH→Int→Option Fq) (dH:AAw→Int→Option Gc) (eV:AA9→ACF→Int→Int→Option F_) (eW:Int→Option J5) (gM:AA9→ABH→Int→Int→Option Hi) (n:Nat) (v:aw.V),JR ⟨T,Q_ [(69,⟨zJ,o69,zJ.un xp⟩),(71,⟨yI,o71,yI.un xo⟩),(180,⟨gg,wM,gg.un eg⟩),(186,⟨gQ,wj,gQ.un fc⟩),(231,⟨gu,wR,gu.un fy⟩),(278,⟨hI,vl,hI.un dH⟩),(279,⟨gW,wO,gW.un eV⟩),(280,⟨gF,vv,gF.un eW⟩),(281,⟨gP,vm,gP.un gM⟩)],CX [(10,[0,1,2,3,4,5,6,7,8,9,10,11]),(18,[0,1,2,3,4,5,6,7,8,9,10,11,12,13,14,15,16,17,18,19])]⟩ ke Tryz.f221 (M9 8 iY n) 8 ω (aw.st 207 v)=aw.un (fun(t1:Int) (t6:Int) (t8:Int) (t47:Int) (t49:Int) (t50:Bool) (b0:AAO) (b1:AAP) (b2:AAO) (b3:AAS) (b4:AAr) (b5:AAv) (b6:AAs) (b7:AAk) (Dc:Int) (Dq:Int) (CH:Bool) (Dx:Int) (FT:Int) (Cq:Bool) (Jc:AAO) (FV:AAP) (Di:AAO) (GF:AAS) (GG:AAr) (D8:AAv) (EZ:AAs) (FD:AAk) (Ca:AAw) (C2:AAw) (Cc:Int) (DS:Int) (CP:ACA)=>
 cond ((decide (t8≤(CP.length:Int))))
  ((xo DS t8).bind fun u7=>
  (dH Ca u7.1.1).bind fun u8=>
  cond (!u8.1.1.2.1)
   ((BD n) t1 t6 (AZ (t8+1)) t47 t49 t50 b0 b1 b2 b3 b4 b5 b6 b7 Dc Dq CH Dx FT Cq Jc FV Di GF GG D8 EZ FD Ca C2 Cc DS CP)
  (cond (u8.1.1.1.2.1 !=0)
   ((BD n) t1 t6 (AZ (t8+1)) t47 t49 t50 b0 b1 b2 b3 b4 b5 b6 b7 Dc Dq CH Dx FT Cq Jc FV Di GF GG D8 EZ FD Ca C2 Cc DS CP)
  (if(0:Int)≤AZ (t8-1)∧AZ (t8-1)<(CP.length:Int)then(
  cond (((CP.getD ((AZ (t8-1)).toNat) ([],[],false,())).2.2.1))
   ((BD n) t1 t6 (AZ (t8+1)) t47 t49 t50 b0 b1 b2 b3 b4 b5 b6 b7 Dc Dq CH Dx FT Cq Jc FV Di GF GG D8 EZ FD Ca C2 Cc DS CP)
  ((eV (b0,Dc,()) (DS,CP,()) t8 t1).bind fun ED=>
  (BD n) t1 t6 (AZ (t8+1)) t47 t49 t50 b0 b1 b2 b3 b4 b5 b6 b7 Dc Dq CH Dx FT Cq Jc FV Di GF GG D8 EZ FD Ca C2 Cc ED.1.1.1.1 ED.2.1))else none)))
 (if(0:Int)≤t6∧t6<(b4.length:Int)then(
 (BF n) t1 t6 0 t47 t49 t50 b0 b1 b2 b3 (b4.set (t6.toNat) (DS,CP,())) b5 b6 b7 Dc Dq CH Dx FT Cq Jc FV Di GF GG D8 EZ FD Ca C2 Cc DS CP)else none)) v
theorem AD1:Bf []:=by delta Bf;intros;kernel_rfl
theorem ADa:Bf (false::[]):=by delta Bf;intros;kernel_rfl
theorem AFs:Bf (false::false::[]):=by delta Bf;intros;kernel_rfl
theorem AFi:Bf (false::false::false::[]):=by delta Bf;intros;kernel_rfl
theorem AEG(ω:List Bool):Bf (false::false::false::false::ω):=by delta Bf;intros;kernel_rfl
theorem AFR(ω:List Bool):Bf (false::false::false::true::ω):=by delta Bf;intros;kernel_rfl
theorem AFD(ω:List Bool):Bf (false::false::true::ω):=by delta Bf;intros;kernel_rfl
theorem AFU:Bf (false::true::[]):=by delta Bf;intros;kernel_rfl
theorem AFE:Bf (false::true::false::[]):=by delta Bf;intros;kernel_rfl
theorem ACl:Bf (false::true::false::false::[]):=by delta Bf;intros;kernel_rfl
theorem ACk(ω:List Bool):Bf (false::true::false::false::false::ω):=by delta Bf;intros;kernel_rfl
theorem ABl(ω:List Bool):Bf (false::true::false::false::true::ω):=by delta Bf;intros;kernel_rfl
theorem ABZ:Bf (false::true::false::true::[]):=by delta Bf;intros;kernel_rfl
theorem ACh(ω:List Bool):Bf (false::true::false::true::false::ω):=by delta Bf;intros;kernel_rfl
theorem AC1:Bf (false::true::false::true::true::[]):=by delta Bf;intros;kernel_rfl
theorem ABu(ω:List Bool):Bf (false::true::false::true::true::false::ω):=by delta Bf;intros;kernel_rfl
theorem ACJ(ω:List Bool):Bf (false::true::false::true::true::true::ω):=by delta Bf;intros;kernel_rfl
theorem ACT:Bf (false::true::true::[]):=by delta Bf;intros;kernel_rfl
theorem ACK(ω:List Bool):Bf (false::true::true::false::ω):=by delta Bf;intros;kernel_rfl
theorem ACd:Bf (false::true::true::true::[]):=by delta Bf;intros;kernel_rfl
theorem ABK(ω:List Bool):Bf (false::true::true::true::false::ω):=by delta Bf;intros;kernel_rfl
theorem ABj(ω:List Bool):Bf (false::true::true::true::true::ω):=by delta Bf;intros;kernel_rfl
theorem ABS:Bf (true::[]):=by delta Bf;intros;kernel_rfl
theorem ACs(ω:List Bool):Bf (true::false::ω):=by delta Bf;intros;kernel_rfl
theorem ABx:Bf (true::true::[]):=by delta Bf;intros;kernel_rfl
theorem AB7(ω:List Bool):Bf (true::true::false::ω):=by delta Bf;intros;kernel_rfl
theorem ACD:Bf (true::true::true::[]):=by delta Bf;intros;kernel_rfl
theorem AB_(ω:List Bool):Bf (true::true::true::false::ω):=by delta Bf;intros;kernel_rfl
theorem ACV(ω:List Bool):Bf (true::true::true::true::ω):=by delta Bf;intros;kernel_rfl
theorem AQE(xp:ABr→Int→Option Gu)(xo:Int→Int→Option Hb)(eg:List Int→Int→Option Gg)(fc:Int→Option Hg)(fy:ABH→Int→Option Fq)(dH:AAw→Int→Option Gc)(eV:AA9→ACF→Int→Int→Option F_)(eW:Int→Option J5)(gM:AA9→ABH→Int→Int→Option Hi)(n:Nat)(v:aw.V)(ω:List Bool):JR ⟨T,Q_ [(69,⟨zJ,o69,zJ.un xp⟩),(71,⟨yI,o71,yI.un xo⟩),(180,⟨gg,wM,gg.un eg⟩),(186,⟨gQ,wj,gQ.un fc⟩),(231,⟨gu,wR,gu.un fy⟩),(278,⟨hI,vl,hI.un dH⟩),(279,⟨gW,wO,gW.un eV⟩),(280,⟨gF,vv,gF.un eW⟩),(281,⟨gP,vm,gP.un gM⟩)],CX [(10,[0,1,2,3,4,5,6,7,8,9,10,11]),(18,[0,1,2,3,4,5,6,7,8,9,10,11,12,13,14,15,16,17,18,19])]⟩ ke Tryz.f221 (M9 8 iY n) 8 ω (aw.st 207 v)=aw.un (fun(t1:Int) (t6:Int) (t8:Int) (t47:Int) (t49:Int) (t50:Bool) (b0:AAO) (b1:AAP) (b2:AAO) (b3:AAS) (b4:AAr) (b5:AAv) (b6:AAs) (b7:AAk) (Dc:Int) (Dq:Int) (CH:Bool) (Dx:Int) (FT:Int) (Cq:Bool) (Jc:AAO) (FV:AAP) (Di:AAO) (GF:AAS) (GG:AAr) (D8:AAv) (EZ:AAs) (FD:AAk) (Ca:AAw) (C2:AAw) (Cc:Int) (DS:Int) (CP:ACA)=>
 cond ((decide (t8≤(CP.length:Int))))
  ((xo DS t8).bind fun u7=>
  (dH Ca u7.1.1).bind fun u8=>
  cond (!u8.1.1.2.1)
   ((BD n) t1 t6 (AZ (t8+1)) t47 t49 t50 b0 b1 b2 b3 b4 b5 b6 b7 Dc Dq CH Dx FT Cq Jc FV Di GF GG D8 EZ FD Ca C2 Cc DS CP)
  (cond (u8.1.1.1.2.1 !=0)
   ((BD n) t1 t6 (AZ (t8+1)) t47 t49 t50 b0 b1 b2 b3 b4 b5 b6 b7 Dc Dq CH Dx FT Cq Jc FV Di GF GG D8 EZ FD Ca C2 Cc DS CP)
  (if(0:Int)≤AZ (t8-1)∧AZ (t8-1)<(CP.length:Int)then(
  cond (((CP.getD ((AZ (t8-1)).toNat) ([],[],false,())).2.2.1))
   ((BD n) t1 t6 (AZ (t8+1)) t47 t49 t50 b0 b1 b2 b3 b4 b5 b6 b7 Dc Dq CH Dx FT Cq Jc FV Di GF GG D8 EZ FD Ca C2 Cc DS CP)
  ((eV (b0,Dc,()) (DS,CP,()) t8 t1).bind fun ED=>
  (BD n) t1 t6 (AZ (t8+1)) t47 t49 t50 b0 b1 b2 b3 b4 b5 b6 b7 Dc Dq CH Dx FT Cq Jc FV Di GF GG D8 EZ FD Ca C2 Cc ED.1.1.1.1 ED.2.1))else none)))
 (if(0:Int)≤t6∧t6<(b4.length:Int)then(
 (BF n) t1 t6 0 t47 t49 t50 b0 b1 b2 b3 (b4.set (t6.toNat) (DS,CP,())) b5 b6 b7 Dc Dq CH Dx FT Cq Jc FV Di GF GG D8 EZ FD Ca C2 Cc DS CP)else none)) v:=(AF AD1 (AF ADa (AF AFs (AF AFi AEG AFR) AFD) (AF AFU (AF AFE (AF ACl ACk ABl) (AF ABZ ACh (AF AC1 ABu ACJ))) (AF ACT ACK (AF ACd ABK ABj)))) (AF ABS ACs (AF ABx AB7 (AF ACD AB_ ACV)))) ω xp xo eg fc fy dH eV eW gM n v
theorem APW(n:Nat)(v:aw.V)(ω:List Bool):JR ABg ke Tryz.f221 (M9 8 iY n) 8 ω (aw.st 207 v)=aw.un (L9 (Be n) (BD n) (BF n) (Bg n) (Bb n)) v:=AQE CW ES DG Cr Eg HJ FZ HD HL n v ω
theorem AJy(xp:ABr→Int→Option Gu)(xo:Int→Int→Option Hb)(eg:List Int→Int→Option Gg)(fc:Int→Option Hg)(fy:ABH→Int→Option Fq)(dH:AAw→Int→Option Gc)(eV:AA9→ACF→Int→Int→Option F_)(eW:Int→Option J5)(gM:AA9→ABH→Int→Int→Option Hi)(n:Nat)(v:du.V)(ω:List Bool):JR ⟨T,Q_ [(69,⟨zJ,o69,zJ.un xp⟩),(71,⟨yI,o71,yI.un xo⟩),(180,⟨gg,wM,gg.un eg⟩),(186,⟨gQ,wj,gQ.un fc⟩),(231,⟨gu,wR,gu.un fy⟩),(278,⟨hI,vl,hI.un dH⟩),(279,⟨gW,wO,gW.un eV⟩),(280,⟨gF,vv,gF.un eW⟩),(281,⟨gP,vm,gP.un gM⟩)],CX [(10,[0,1,2,3,4,5,6,7,8,9,10,11]),(18,[0,1,2,3,4,5,6,7,8,9,10,11,12,13,14,15,16,17,18,19])]⟩ ke Tryz.f221 (M9 8 iY n) 15 ω (du.st 207 v)=du.un (fun(t1:Int) (t6:Int) (t11:Int) (t47:Int) (t49:Int) (t50:Bool) (b0:AAO) (b1:AAP) (b2:AAO) (b3:AAS) (b4:AAr) (b5:AAv) (b6:AAs) (b7:AAk) (Dc:Int) (Dq:Int) (CH:Bool) (Dx:Int) (FT:Int) (Cq:Bool) (Jc:AAO) (FV:AAP) (Di:AAO) (GF:AAS) (GG:AAr) (D8:AAv) (EZ:AAs) (FD:AAk) (Ca:AAw) (C2:AAw) (Cc:Int) (DS:Int) (CP:ACA)=>
 cond ((decide (t11<(b7.length:Int))))
  (if(0:Int)≤t11∧t11<(b7.length:Int)then(
  let x65:Int:=(b7.getD (t11.toNat) (0,[],false,())).1
  (fc x65).bind fun u66=>
  cond (u66.1.1==DS)
   ((eW x65).bind fun u67=>
   cond ((decide (u67.1.1≤(CP.length:Int))))
    ((eW x65).bind fun u69=>
    if(0:Int)≤AZ (u69.1.1-1)∧AZ (u69.1.1-1)<(CP.length:Int)then(
    cond (((CP.getD ((AZ (u69.1.1-1)).toNat) ([],[],false,())).2.2.1))
     (if(0:Int)≤t11∧t11<(b7.length:Int)then(
     (BF n) t1 t6 (AZ (t11+1)) t47 t49 t50 b0 b1 b2 b3 b4 b5 b6 (b7.set (t11.toNat) ((b7.getD (t11.toNat) (0,[],false,())).1,(b7.getD (t11.toNat) (0,[],false,())).2.1,true,())) Dc Dq CH Dx FT Cq Jc FV Di GF GG D8 EZ FD Ca C2 Cc DS CP)else none)
    ((BF n) t1 t6 (AZ (t11+1)) t47 t49 t50 b0 b1 b2 b3 b4 b5 b6 b7 Dc Dq CH Dx FT Cq Jc FV Di GF GG D8 EZ FD Ca C2 Cc DS CP))else none)
   ((BF n) t1 t6 (AZ (t11+1)) t47 t49 t50 b0 b1 b2 b3 b4 b5 b6 b7 Dc Dq CH Dx FT Cq Jc FV Di GF GG D8 EZ FD Ca C2 Cc DS CP))
  ((BF n) t1 t6 (AZ (t11+1)) t47 t49 t50 b0 b1 b2 b3 b4 b5 b6 b7 Dc Dq CH Dx FT Cq Jc FV Di GF GG D8 EZ FD Ca C2 Cc DS CP))else none)
 ((Be n) t1 (AZ (t6+1)) b0 b1 b2 b3 b4 b5 b6 b7 Dc Dq CH Dx FT Cq Jc FV Di GF GG D8 EZ FD Ca C2 Cc)) v:=by kernel_rfl
theorem AK3(n:Nat)(v:du.V)(ω:List Bool):JR ABg ke Tryz.f221 (M9 8 iY n) 15 ω (du.st 207 v)=du.un (Ks (Be n) (BD n) (BF n) (Bg n) (Bb n)) v:=AJy CW ES DG Cr Eg HJ FZ HD HL n v ω
theorem AKH(xp:ABr→Int→Option Gu)(xo:Int→Int→Option Hb)(eg:List Int→Int→Option Gg)(fc:Int→Option Hg)(fy:ABH→Int→Option Fq)(dH:AAw→Int→Option Gc)(eV:AA9→ACF→Int→Int→Option F_)(eW:Int→Option J5)(gM:AA9→ABH→Int→Int→Option Hi)(n:Nat)(v:dy.V)(ω:List Bool):JR ⟨T,Q_ [(69,⟨zJ,o69,zJ.un xp⟩),(71,⟨yI,o71,yI.un xo⟩),(180,⟨gg,wM,gg.un eg⟩),(186,⟨gQ,wj,gQ.un fc⟩),(231,⟨gu,wR,gu.un fy⟩),(278,⟨hI,vl,hI.un dH⟩),(279,⟨gW,wO,gW.un eV⟩),(280,⟨gF,vv,gF.un eW⟩),(281,⟨gP,vm,gP.un gM⟩)],CX [(10,[0,1,2,3,4,5,6,7,8,9,10,11]),(18,[0,1,2,3,4,5,6,7,8,9,10,11,12,13,14,15,16,17,18,19])]⟩ ke Tryz.f221 (M9 8 iY n) 21 ω (dy.st 207 v)=dy.un (fun(t1:Int) (t13:Int) (b0:AAO) (b1:AAP) (b2:AAO) (b3:AAS) (b4:AAr) (b5:AAv) (b6:AAs) (b7:AAk) (Dc:Int) (Dq:Int) (CH:Bool) (Dx:Int) (FT:Int) (Cq:Bool) (Jc:AAO) (FV:AAP) (Di:AAO) (GF:AAS) (GG:AAr) (D8:AAv) (EZ:AAs) (FD:AAk) (Ca:AAw) (C2:AAw) (Cc:Int)=>
 cond ((decide (t13<(b5.length:Int))))
  (if(0:Int)≤t13∧t13<(b5.length:Int)then(
  (Bb n) t1 t13 1 b0 b1 b2 b3 b4 b5 b6 b7 Dc Dq CH Dx FT Cq Jc FV Di GF GG D8 EZ FD Ca C2 Cc ((b5.getD (t13.toNat) (0,0,[],[],false,[],())).1) ((b5.getD (t13.toNat) (0,0,[],[],false,[],())).2.1) ((b5.getD (t13.toNat) (0,0,[],[],false,[],())).2.2.1) ((b5.getD (t13.toNat) (0,0,[],[],false,[],())).2.2.2.1) ((b5.getD (t13.toNat) (0,0,[],[],false,[],())).2.2.2.2.1) ((b5.getD (t13.toNat) (0,0,[],[],false,[],())).2.2.2.2.2.1))else none)
 (some ((((),Dc,(),(),(),Dq,(),(),(),(),CH,()),()),(b0,b1,b2,b3,b4,b5,b6,b7,())))) v:=by kernel_rfl
theorem AG0(n:Nat)(v:dy.V)(ω:List Bool):JR ABg ke Tryz.f221 (M9 8 iY n) 21 ω (dy.st 207 v)=dy.un (Kq (Be n) (BD n) (BF n) (Bg n) (Bb n)) v:=AKH CW ES DG Cr Eg HJ FZ HD HL n v ω
theorem AGR(xp:ABr→Int→Option Gu)(xo:Int→Int→Option Hb)(eg:List Int→Int→Option Gg)(fc:Int→Option Hg)(fy:ABH→Int→Option Fq)(dH:AAw→Int→Option Gc)(eV:AA9→ACF→Int→Int→Option F_)(eW:Int→Option J5)(gM:AA9→ABH→Int→Int→Option Hi)(n:Nat)(v:eG.V)(ω:List Bool):JR ⟨T,Q_ [(69,⟨zJ,o69,zJ.un xp⟩),(71,⟨yI,o71,yI.un xo⟩),(180,⟨gg,wM,gg.un eg⟩),(186,⟨gQ,wj,gQ.un fc⟩),(231,⟨gu,wR,gu.un fy⟩),(278,⟨hI,vl,hI.un dH⟩),(279,⟨gW,wO,gW.un eV⟩),(280,⟨gF,vv,gF.un eW⟩),(281,⟨gP,vm,gP.un gM⟩)],CX [(10,[0,1,2,3,4,5,6,7,8,9,10,11]),(18,[0,1,2,3,4,5,6,7,8,9,10,11,12,13,14,15,16,17,18,19])]⟩ ke Tryz.f221 (M9 8 iY n) 25 ω (eG.st 207 v)=eG.un (fun(t1:Int) (t13:Int) (t15:Int) (b0:AAO) (b1:AAP) (b2:AAO) (b3:AAS) (b4:AAr) (b5:AAv) (b6:AAs) (b7:AAk) (Dc:Int) (Dq:Int) (CH:Bool) (Dx:Int) (FT:Int) (Cq:Bool) (Jc:AAO) (FV:AAP) (Di:AAO) (GF:AAS) (GG:AAr) (D8:AAv) (EZ:AAs) (FD:AAk) (Ca:AAw) (C2:AAw) (Cc:Int) (DS:Int) (CP:Int) (UG:AAO) (Ui:AAw) (UT:Bool) (UF:List AAO)=>
 if(0:Int)≤t13∧t13<(b5.length:Int)then(
 cond (decide (t15≤(((b5.getD (t13.toNat) (0,0,[],[],false,[],())).2.2.2.2.2.1).length:Int)))
  ((xp (b3,Dq,()) CP).bind fun u74=>
  (eg u74.2.1 t1).bind fun u75=>
  cond (u75.1.1)
   ((fy (DS,CP,UG,Ui,UT,UF,()) t15).bind fun u76=>
   (dH Ca u76.1.1.1.1).bind fun u77=>
   cond (u77.1.1.2.1)
    (cond (((u77.1.1.1.1==u76.1.1.1.1)&&((u77.1.1.1.2.1==u76.1.1.1.2.1)&&((u77.1.1.1.2.2.1==u76.1.1.1.2.2.1)&&((u77.1.1.1.2.2.2.1==u76.1.1.1.2.2.2.1)&&true)))))
     ((gM (b0,Dc,()) (DS,CP,UG,Ui,UT,UF,()) t15 t1).bind fun u79=>
     (Bb n) t1 t13 (AZ (t15+1)) b0 b1 b2 b3 b4 b5 b6 b7 Dc Dq CH Dx FT Cq Jc FV Di GF GG D8 EZ FD Ca C2 Cc u79.1.1.1.1 u79.1.1.1.2.1 u79.2.1 u79.2.2.1 u79.1.1.1.2.2.2.2.1 u79.2.2.2.1)
    ((Bb n) t1 t13 (AZ (t15+1)) b0 b1 b2 b3 b4 b5 b6 b7 Dc Dq CH Dx FT Cq Jc FV Di GF GG D8 EZ FD Ca C2 Cc DS CP UG Ui UT UF))
   ((Bb n) t1 t13 (AZ (t15+1)) b0 b1 b2 b3 b4 b5 b6 b7 Dc Dq CH Dx FT Cq Jc FV Di GF GG D8 EZ FD Ca C2 Cc DS CP UG Ui UT UF))
  (if(0:Int)≤t13∧t13<(b5.length:Int)then(
  (Bg n) t1 (AZ (t13+1)) b0 b1 b2 b3 b4 (b5.set (t13.toNat) (DS,CP,UG,Ui,UT,UF,())) b6 b7 Dc Dq CH Dx FT Cq Jc FV Di GF GG D8 EZ FD Ca C2 Cc)else none))
 (if(0:Int)≤t13∧t13<(b5.length:Int)then(
 (Bg n) t1 (AZ (t13+1)) b0 b1 b2 b3 b4 (b5.set (t13.toNat) (DS,CP,UG,Ui,UT,UF,())) b6 b7 Dc Dq CH Dx FT Cq Jc FV Di GF GG D8 EZ FD Ca C2 Cc)else none))else none) v:=by kernel_rfl
theorem AIo(n:Nat)(v:eG.V)(ω:List Bool):JR ABg ke Tryz.f221 (M9 8 iY n) 25 ω (eG.st 207 v)=eG.un (ID (Be n) (BD n) (BF n) (Bg n) (Bb n)) v:=AGR CW ES DG Cr Eg HJ FZ HD HL n v ω
theorem AaN(xp:ABr→Int→Option Gu)(xo:Int→Int→Option Hb)(eg:List Int→Int→Option Gg)(fc:Int→Option Hg)(fy:ABH→Int→Option Fq)(dH:AAw→Int→Option Gc)(eV:AA9→ACF→Int→Int→Option F_)(eW:Int→Option J5)(gM:AA9→ABH→Int→Int→Option Hi)(n:Nat)(ω:List Bool)(v:zM.V):DR ⟨T,Q_ [(69,⟨zJ,o69,zJ.un xp⟩),(71,⟨yI,o71,yI.un xo⟩),(180,⟨gg,wM,gg.un eg⟩),(186,⟨gQ,wj,gQ.un fc⟩),(231,⟨gu,wR,gu.un fy⟩),(278,⟨hI,vl,hI.un dH⟩),(279,⟨gW,wO,gW.un eV⟩),(280,⟨gF,vv,gF.un eW⟩),(281,⟨gP,vm,gP.un gM⟩)],CX [(10,[0,1,2,3,4,5,6,7,8,9,10,11]),(18,[0,1,2,3,4,5,6,7,8,9,10,11,12,13,14,15,16,17,18,19])]⟩ ke Tryz.f221 (M9 8 iY n) ω v=zM.un (fun(CI:Int) (CL:Int) (BS:Bool) (p1:Int) (b0:AAO) (b1:AAP) (b2:AAO) (b3:AAS) (b4:AAr) (b5:AAv) (b6:AAs) (b7:AAk)=>
 if(0:Int)≤p1∧p1<(b1.length:Int)then(
 (Be n) p1 0 b0 b1 b2 b3 b4 b5 b6 b7 CI CL BS 0 0 false [] [] [] [] [] [] [] [] ((b1.getD (p1.toNat) ([],[],0,())).1) ((b1.getD (p1.toNat) ([],[],0,())).2.1) ((b1.getD (p1.toNat) ([],[],0,())).2.2.1))else none) v:=by kernel_rfl
theorem AX6(n:Nat)(ω:List Bool)(v:zM.V):DR ABg ke Tryz.f221 (M9 8 iY n) ω v=zM.un (QK (Be n) (BD n) (BF n) (Bg n) (Bb n)) v:=AaN CW ES DG Cr Eg HJ FZ HD HL n ω v
def Aab:SQ:=mk Tryz.func221 zM AQh V7 [s69,s71,mn,oK,ANq,AJW,AWZ,AIg,AWv] [(10,[0,1,2,3,4,5,6,7,8,9,10,11]),(18,[0,1,2,3,4,5,6,7,8,9,10,11,12,13,14,15,16,17,18,19])] iY (hJ:= .cons (fun _=>rfl) APS (.cons (fun _=>rfl) APW (.cons (fun _=>rfl) AK3 (.cons (fun _=>rfl) AG0 (.cons (fun _=>rfl) AIo (.nil)))))) (he:=AX6 Ae)
def AbS:SQ:=mk Tryz.func134 bm AMy WC [yK,AUd,Aab] [] []
def ADM:SQ:=mk Tryz.func160 AAJ fJ Ia [mn] [] [⟨3,⟨[(0,Z8),(1,Z8),(5,nq),(6,BO)],uj⟩,OG⟩]
def Abb:SQ:=mk Tryz.func222 AMW AMA NH [AC0,ADM,AES] [(8,[0,1,2])] [⟨5,⟨[(2,BO),(6,Kf),(8,xP8),(9,BO)],AL3⟩,HW⟩] (hJ:= .cons (fun _=>rfl) (fun n v ω=>by rcases ω with _|⟨_|_,_⟩<;>kernel_rfl) (.nil))
def Aag:SQ:=mk Tryz.func223 AL7 wY P0 [ABq,ADM,ACz] [(7,[0,1,2,3,4,5,6])] [⟨5,⟨[(2,BO),(6,Kf),(8,yD),(9,BO)],AMS⟩,JL⟩] (hJ:= .cons (fun _=>rfl) (fun n v ω=>by rcases ω with _|⟨_|_,_⟩<;>kernel_rfl) (.nil))
def AYt:SQ:=mk Tryz.func135 bm ⟨AVF,[C6,V3,PS,KX,Q4,SZ,Ox,Jh,C6]⟩ V4 [s82,ACq,yK,Abb,Aag] [(9,[0,1,2,3,5,6,7,8,9,10,11,12,13,14,15,16,17,18,19]),(13,[0,1,2,3,4,6,7,8,9,10,11,12,13,14,15,16,17,18,19])] [⟨7,⟨[(2,gA),(3,bO),(4,.c (.ptr 11 0)),(7,BO)],AMw⟩,J3⟩,⟨11,⟨[(2,gA),(3,bO),(4,.c (.ptr 11 0)),(8,BO)],AMw⟩,Ir⟩]
def AY1:SQ:=mk Tryz.func282 ln CY Yg [s82,zB] [] []
def AY7:SQ:=mk Tryz.func283 ⟨[(0,xX)],[]⟩ wq ZG [AQ5] [] [⟨3,⟨[(0,xX),(3,nq),(4,BO)],[MX]⟩,Iq⟩,⟨6,⟨[(0,xX),(3,nq),(4,BO),(5,BO)],[MX]⟩,It⟩]
def AZF:SQ:=mk Tryz.func224 AMs ⟨AU3,[UQ,MX,MX]⟩ eO [w5,yx,mn,AY1,AY7] [] [⟨6,⟨[(1,nq),(2,Z8),(4,BO),(10,Ze),(12,yD),(13,.c (.ref 7)),(14,BO)],AMX⟩,Ob⟩,⟨11,⟨[(4,BO),(10,Ze),(12,yD),(13,.c (.ref 7)),(15,BO)],AMX⟩,Ml⟩]
def AbL:SQ:=mk Tryz.func136 bm ⟨AVF,[C6,UQ,PS,KX,Q4,SZ,Ox,Jh,C6]⟩ WG [ADM,mn,AZF,AD8] [(3,[0,2,3,4,5,6,7,8,9,10])] [] (he:=fun ω v=>by rcases ω with _|⟨_|_,_|⟨_|_,_⟩⟩<;>kernel_rfl)
def AXr:SQ:=mk Tryz.func226 lx wV jf [] [] []
def Aav:SQ:=mk Tryz.func137 AEw ⟨[(0,.MH [.inr [.ref 0,.v tI,.ref 1,.ref 2,.ref 3,.v tI,.ref 4,.ref 8,.ref 6,.ref 7,.v .bool],.inl (.v tI)])],[C6,V3,C6,KX,Q4,PS,Ox,Jh,SZ]⟩ Vv [AIO,AXr] [] []
def Aar:SQ:=mk Tryz.func227 iM tL Rk [ACB,Xt,yx,AUd,AD8] [] []
def AYf:SQ:=mk Tryz.func229 iM wq Tp [yx,oK] [] [⟨3,⟨[(1,BO),(2,Kf),(5,xP6),(6,BO)],[AN2,MX]⟩,Is⟩]
def AYb:SQ:=mk Tryz.func228 AME wY Tv [ABq,ACq,ACz,oK,AQ5] [(8,[0,1,2,3,4,5,6,7,8,9]),(9,[0,1,2,3,4,5,7,8,9])] [⟨6,⟨[(3,qv),(4,Kf),(5,Ze),(8,xP8),(10,.c (.ptr 6 0)),(11,BO)],[vJ,yS,AVg,Es,MX,qk,AUZ,Es,MX,qk]⟩,K6⟩]
def Abd:SQ:=mk Tryz.func138 bm r6 WE [s69,mn,yK,Aar,AYb,AYf] [(7,[0,1,2,3,4,5,6,7,8,9,10,11]),(9,[0,1,2,3,4,5,6,7,8,9,10,11,12]),(10,[0,1,2,3,4,5,6,7,8,9,10,11,12,13,14,15])] [] (he:=fun ω v=>by rcases ω with _|⟨_|_,_|⟨_|_,_|⟨_|_,_⟩⟩⟩<;>kernel_rfl)
def AWX:SQ:=mk Tryz.func286 AAJ fJ J7 [ADM] [] []
def AWl:SQ:=mk Tryz.func285 AEv CY KG [s82,ADM,zB,AVW] [(3,[0,1])] []
def AZE:SQ:=mk Tryz.func230 AMR wY T4 [ABq,ACz,ATf,AWl,AWX] [(4,[0,1,2,3,4,5,6])] [⟨8,⟨[(4,Kf),(6,Ze),(8,.c (.ptr 5 0)),(9,BO)],AQm⟩,LA⟩]
def Abr:SQ:=mk Tryz.func139 AEw r6 Vs [s69,AZE] [(3,[0,1,2,3,4,5,6,7,8,9])] [] (he:=fun ω v=>by rcases ω with _|⟨_|_,_|⟨_|_,_⟩⟩<;>kernel_rfl)
def AZn:SQ:=mk Tryz.func140 bm r6 X7 [s69,mn,yK,AV2,ANq] [(3,[0,1,2,3,4,5,6,7,8,9,10]),(9,[0,1,2,3,4,5,6,7,8,9,10,11]),(11,[0,1,2,3,4,5,6,7,8,9,10,11,12])] [] (he:=fun ω v=>by rcases ω with _|⟨_|_,_|⟨_|_,_⟩⟩<;>kernel_rfl)
def AZt:SQ:=mk Tryz.func232 xB CY SK [s82,ACz] [(6,[0,1])] [⟨4,AMZ,KR⟩]
def AZ0:SQ:=mk Tryz.func233 AL9 AAL Ti [ABV,Xt,AIO,ABw] [] []
def AYE:SQ:=mk Tryz.func141 AEw ⟨[(0,.MH [.inr [.ref 0,.v tI,.ref 1,.ref 2,.ref 8,.v tI,.ref 4,.ref 9,.ref 6,.ref 7,.v .bool],.inl (.v tI)])],[C6,V3,C6,PS,Q4,PS,Ox,Jh,KX,SZ]⟩ T1 [AZt,AZ0] [(3,[0,1,2,3,4,5,6,7,8,9]),(5,[0,1,2,3,4,5,6,7,8,9])] [] (he:=fun ω v=>by rcases ω with _|⟨_|_,_⟩<;>kernel_rfl)
def AZb:SQ:=mk Tryz.func142 AMx AAL WB [ABV,ABw,yX,oK,AD8] [(4,[0,1,2,3,4])] []
def AYv:SQ:=mk Tryz.func291 AAB Ff Uw [] [] [⟨2,⟨AHS,[AH3]⟩,JE⟩]
def AbT:SQ:=mk Tryz.func235 xW Ff c_ [AYv] [] [⟨2,⟨[(1,BO),(2,Kf),(5,BO)],ACw⟩,Nc⟩]
def AZK:SQ:=mk Tryz.func236 ⟨[(0,.row Y11),(1,.row Y9),(2,BO)],[]⟩ ⟨ACI,[.sl 9 Y14]⟩ Pv [s71,AVY,yK,AJW] [(6,[0,1,2,3]),(7,[0,1,2,3]),(8,[0,1,3,4])] [⟨4,⟨[(3,Kf),(4,Ze),(7,.c (.ref 2)),(8,.c (.ref 3)),(9,BO)],[AGz,.mem [.v tI,.v tI,.sl false Y8],.sl 9 Y14,Es]⟩,JH⟩] (hJ:= .cons (fun _=>rfl) (fun n v ω=>by rcases ω with _|⟨_|_,_|⟨_|_,_⟩⟩<;>kernel_rfl) (.nil))
def Aae:SQ:=mk Tryz.func288 ⟨[(0,q6),(1,rB)],[]⟩ ⟨[(0,.MH [.inl (.ref 0),.inl (.v .bool)])],uj⟩ ZJ [zB] [] [⟨3,⟨[(1,rB),(2,Kf),(6,xP6),(7,BO)],AMY⟩,Lj⟩]
def AZP:SQ:=mk Tryz.func289 ⟨[(0,.row Y9),(1,.row Y8),(2,BO),(3,BO)],[]⟩ AA_ IZ [ALX] [] []
def AZ9:SQ:=mk Tryz.func290 ⟨[(0,Z8),(1,BO),(2,rB)],[]⟩ ⟨[(0,.agg [.v tI,.v tI,.v .str])],[]⟩ MK [mn,AIB,AUP] [] [⟨4,⟨[(0,Z8),(1,BO),(2,rB),(6,Kf),(7,Ze),(8,xP0),(9,BO)],[.mem [.v tI,.v tI,.v .str],ABd]⟩,Mg⟩]
def AZW:SQ:=mk Tryz.func234 AMl ⟨AUp,[.sl 9 Y8]⟩ Pn [s71,ALX,AUq,ABw,oK,AIg,AWl,AWX,Aae,AZP,AZ9] [(9,[0,1,2,4,5]),(14,[0,1,2,3,4,5]),(16,[0,1,2,4,5,6])] []
def AaJ:SQ:=mk Tryz.func143 bm r6 Vu [Xt,AZW,AbT,AZK] [(3,[0,1,2,3,4,5,6,7,8,9,10])] [] (he:=fun ω v=>by rcases ω with _|⟨_|_,_|⟨_|_,_|⟨_|_,_⟩⟩⟩<;>kernel_rfl)
def Aa6:SQ:=mk Tryz.func144 bm ⟨[(0,.MH [.inr [.ref 0,.v tI,.ref 1,.ref 2,.ref 3,.v tI,.ref 8,.ref 5,.ref 6,.ref 7,.v .bool],.inl (.v tI)])],[C6,V3,C6,KX,PS,SZ,Ox,Jh,ij]⟩ WH [AOE] [] [⟨5,⟨[(2,gA),(3,cT),(4,bO),(6,.c (.ref 19)),(7,BO)],[C6,V3,C6,KX,ij,SZ,Ox,Jh,ri,ADr,ABt,Es,Xo,Es,RN,Xu,Xs,Xk,Rr,ij]⟩,MV⟩]
def AXt:SQ:=mk Tryz.func238 iM tL Q8 [ACB,yx,yX] [(11,[0,1,2,3,6])] [⟨8,AL_,KD⟩] (hJ:= .cons (fun _=>rfl) (fun n v ω=>by rcases ω with _|⟨_|_,_⟩<;>kernel_rfl) (.nil))
def AZM:SQ:=mk Tryz.func145 bm r6 Td [yK,AUS,AXt] [(4,[0,1,2,3,4,5,6,7,8,9,10]),(6,[0,1,2,3,4,5,6,7,8,9,10,12])] [] (he:=fun ω v=>by rcases ω with _|⟨_|_,_⟩<;>kernel_rfl)
def s59:SQ:=mk Tryz.func59 bm ⟨[(0,.MH [.inr [.ref 0,.v tI,.ref 1,.ref 8,.ref 9,.v tI,.ref 10,.ref 11,.ref 6,.ref 12,.v .bool],.inl (.v tI)])],[C6,UQ,PS,PS,PS,PS,Ox,PS,C6,KX,ij,.sl 1 Y7,Jh]⟩ bI [AYh,AaF,AaA,AbS,AYt,AbL,Aav,Abd,Abr,AZn,AYE,AZb,AaJ,Aa6,AZM] [] []
def s22:SQ:=mk Tryz.func22 AMJ AMy SE [s51,s52,s58,s59] [(3,[0,1,2])] [] (he:=fun ω v=>by rcases ω with _|⟨_|_,_|⟨_|_,_⟩⟩<;>kernel_rfl)
def s37:SQ:=mk Tryz.func37 AF3 ⟨[(0,.MH [.inr [.sl true tI,.v tI,.sl true Y2,.sl true tI,.sl true Y3,.v tI,.sl true Y6,.sl true Y7,.sl true Y9,.sl true Y10,.v .bool],.inl (.ref 1),.inr [.sl true tI,.v tI,.sl true Y2,.sl true tI,.sl true Y3,.v tI,.sl true Y6,.sl true Y7,.sl true Y9,.sl true Y10,.v .bool]])],[tT,.sl 9 Y12]⟩ NY [s22,s63,s81,s82,s83,s84] [(21,[0,2,3,4,5,6,7,8,9,11,12,13,14,15,16,17,18,19,20,21])] [⟨4,⟨[(0,Kf),(1,BO),(4,Ze),(6,bO),(7,jv),(8,.c (.ref 21)),(9,BO)],[tT,ALF,Es,Xo,Es,RN,Xu,Xs,Xk,Rr,ABt,Es,Xo,Es,RN,Xu,Xs,Xk,Rr,.mem [.ref 20,.v tI],Es,Es]⟩,Et⟩,⟨7,⟨[(0,Kf),(1,BO),(4,Ze),(6,bO),(7,jv),(8,.c (.sl true tI))],[tT,ALF,Es,Xo,Es,RN,Xu,Xs,Xk,Rr,ABt,Es,Xo,Es,RN,Xu,Xs,Xk,Rr,.mem [.sl true tI,.v tI]]⟩,Ef⟩,⟨14,⟨[(0,Kf),(4,Ze),(6,bO),(10,jv),(12,.c (.ptr 20 0)),(13,.c (.ref 21)),(14,BO),(15,BO)],[tT,ALF,Es,Xo,Es,RN,Xu,Xs,Xk,Rr,ABt,Es,Xo,Es,RN,Xu,Xs,Xk,Rr,AV5,AV5,.sl 9 Y12]⟩,Df⟩]
abbrev i10:Ba:=AEI
abbrev o10:Ba:=⟨[(0,.MH [.inr [.sl true tI,.v tI,.sl true Y2,.sl true tI,.sl true Y3,.v tI,.sl true Y6,.sl true Y7,.sl true Y9,.sl true Y10,.v .bool],.inl (.ref 0)])],[.sl 9 Y12]⟩
def s10:SQ:=mk Tryz.func10 i10 o10 Jz [s37,s38,s39] [] []
abbrev i86:Ba:=⟨[(0,Z8)],[]⟩
abbrev o86:Ba:=fJ
def s86:SQ:=mk Tryz.func86 i86 o86 DB [] [] []
def s85:SQ:=mk Tryz.func85 zz ⟨[(0,.agg [.ref 0,.v tI])],uj⟩ Po [s86] [(1,[0])] []
abbrev i87:Ba:=ABE
abbrev o87:Ba:=AD6
def s87:SQ:=mk Tryz.func87 i87 o87 EW [s86] [] [⟨3,⟨[(2,Kf),(3,xP8),(10,.c (.sl false Y3)),(11,BO),(12,BO)],[.mem [.ref 1,.v tI],RN,.mem [.ref 3,.v tI],RN]⟩,Hj⟩]
def AV7:SQ:=mk Tryz.func172 zr wq Iv [] [] []
def s88:SQ:=mk Tryz.func88 lf AFa C7 [AV7] [(1,[0])] []
abbrev i89:Ba:=AAB
abbrev o89:Ba:=AE7
def s89:SQ:=mk Tryz.func89 i89 o89 Fh [s86] [] [⟨3,⟨[(2,Kf),(3,xP8),(10,AJX),(11,BO),(12,BO)],AL3⟩,JK⟩]
def s90:SQ:=mk Tryz.func90 xE wV GN [s86,AV7] [(2,[0,1]),(6,[0,1,2,3,5,6])] [⟨4,⟨[(2,Kf),(3,yD),(17,ALf),(18,BO),(19,BO)],AMS⟩,Lc⟩] (hJ:= .cons (fun _=>rfl) (fun n v ω=>by rcases ω with _|⟨_|_,_|⟨_|_,_⟩⟩<;>kernel_rfl) (.nil))
def s91:SQ:=mk Tryz.func91 AAU AA_ MU [] [] []
def s40:SQ:=mk Tryz.func40 lr AMq LI [s85,s86,s87,s88,s89,s90,s91] [(1,[0,1]),(5,[0,1,2,3,4,5,6,7,8,9,11,13,14,15,16,17,18,19]),(10,[0,1,2,3,4,5,6,7,8,9,11,12,13,14,16,17,18,19]),(15,[0,1,2,3,4,5,6,7,8,9,11,12,13,14,15,17,18,19]),(20,[0,1,2,3,4,5,6,7,8,9,11,12,13,14,15,16,18,19])] [⟨3,⟨[(1,Kf),(2,Ze),(3,bO),(25,xX),(26,BO),(27,BO)],br⟩,FQ⟩,⟨8,⟨[(1,Kf),(2,Ze),(3,bO),(40,.c (.sl false Y6)),(41,BO),(42,BO)],br⟩,FN⟩,⟨13,⟨[(1,Kf),(2,Ze),(3,bO),(55,.c (.sl false Y7)),(56,BO),(57,BO)],br⟩,Eu⟩,⟨18,⟨[(1,Kf),(2,Ze),(3,bO),(70,ALK),(71,BO),(72,BO)],br⟩,Ej⟩] (hJ:= .cons (fun _=>rfl) (fun n v ω=>by rcases ω with _|⟨_|_,_|⟨_|_,_⟩⟩<;>kernel_rfl) (.cons (fun _=>rfl) (fun n v ω=>by rcases ω with _|⟨_|_,_|⟨_|_,_⟩⟩<;>kernel_rfl) (.cons (fun _=>rfl) (fun n v ω=>by rcases ω with _|⟨_|_,_|⟨_|_,_⟩⟩<;>kernel_rfl) (.cons (fun _=>rfl) (fun n v ω=>by rcases ω with _|⟨_|_,_|⟨_|_,_⟩⟩<;>kernel_rfl) (.nil))))) (he:=fun ω v=>by rcases ω with _|⟨_|_,_|⟨_|_,_|⟨_|_,_⟩⟩⟩<;>kernel_rfl)
abbrev i43:Ba:=AL2
abbrev o43:Ba:=CY
def fq:SQ:=mk Tryz.func43 i43 o43 A5 [] [] []
def s44:SQ:=mk Tryz.func44 zz CY Ex [fq] [] [⟨2,⟨[(1,Kf),(6,Z8),(7,BO),(8,BO)],API⟩,LR⟩]
def AaO:SQ:=mk Tryz.func161 mG CY V0 [fq] [] [⟨2,⟨[(0,Z8),(1,BO),(7,Z8),(8,BO),(9,BO)],[]⟩,J2⟩]
def s74:SQ:=mk Tryz.func74 ln CY D3 [s44,AaO] [] []
def s72:SQ:=mk Tryz.func72 Ff CY HT [fq] [] []
def s73:SQ:=mk Tryz.func73 Ff CY Wf [fq] [] []
def s53:SQ:=mk Tryz.func53 Ff CY Dh [s72,s73] [] []
def AHU:SQ:=mk Tryz.func100 ⟨[(0,.c (.v .str))],[]⟩ CY F4 [] [] []
def s95:SQ:=mk Tryz.func95 Ff Ff E7 [s53] [] []
def AGl:SQ:=mk Tryz.func251 ⟨[(0,.row Y1)],[]⟩ CY Ly [fq,s53,s95,AHU] [(1,[0])] []
def Aay:SQ:=mk Tryz.func173 zr CY OH [AGl] [] [⟨2,⟨[(5,qv),(6,BO),(7,BO)],[]⟩,H0⟩]
def AWa:SQ:=mk Tryz.func174 zr CY KH [] [(4,[0])] [⟨2,⟨[(0,qv),(5,qv),(6,BO),(7,BO)],[]⟩,GB⟩]
def s92:SQ:=mk Tryz.func92 lf CY FC [fq,Aay,AWa] [] []
def AYS:SQ:=mk Tryz.func249 mG Ff OX [] [] [⟨2,⟨[(0,Z8),(1,BO),(7,BO),(8,BO)],[]⟩,F9⟩]
def zY:SQ:=mk Tryz.func162 mG CY Bn [AYS] [] []
def ATz:SQ:=mk Tryz.func252 ⟨[(0,BO),(1,.c (.my (.cons (.sl tI) .unit)))],[]⟩ CY Qo [zY] [] []
def AYo:SQ:=mk Tryz.func294 ⟨[(0,Z8),(1,AIH)],[]⟩ Ff Dg [ATz] [] [⟨2,⟨[(0,Z8),(1,AIH),(7,BO),(8,BO)],[]⟩,B6⟩]
def AaT:SQ:=mk Tryz.func247 ⟨[(0,nq),(1,AIH)],[C6]⟩ AMg Ch [ATz,AYo] [] [⟨5,⟨[(0,nq),(1,AIH),(5,BO),(6,BO)],[C6]⟩,Bt⟩]
def AJs:SQ:=mk Tryz.func175 AAJ AE6 Mp [s86,AaT] [] []
abbrev i93:Ba:=AA8
abbrev o93:Ba:=CY
def s93:SQ:=mk Tryz.func93 i93 o93 C3 [AJs] [] []
def s75:SQ:=mk Tryz.func75 ln Ff Yc [s74,zY] [] [⟨5,⟨[(2,Kf),(5,xP6),(13,Z8),(14,BO),(15,BO)],AMY⟩,Ng⟩]
abbrev i32:Ba:=ln
abbrev o32:Ba:=CY
def s32:SQ:=mk Tryz.func32 i32 o32 Gh [s74,s75] [(1,[0])] []
def s45:SQ:=mk Tryz.func45 wF CY Kn [s32,s74,s92,s93] [] [⟨4,⟨[(0,w8),(32,xX),(33,BO),(34,BO)],[]⟩,E8⟩]
def s94:SQ:=mk Tryz.func94 ⟨[(0,q6),(1,.row Y3)],[]⟩ CY bL [s32,fq] [] []
abbrev i46:Ba:=AD0
abbrev o46:Ba:=CY
def s46:SQ:=mk Tryz.func46 i46 o46 Ke [fq,s44,s94,s95] [(7,[0,1])] [⟨2,⟨[(2,Kf),(3,Ze),(9,.c (.sl false Y3)),(10,BO),(11,BO)],ATg⟩,KY⟩]
def AYW:SQ:=mk Tryz.func176 CY Ff bR [] [] []
abbrev i96:Ba:=ADS
abbrev o96:Ba:=CY
def s96:SQ:=mk Tryz.func96 i96 o96 GP [s32,s44,s72,s74,AHU,AYW] [(5,[0,1,2])] [⟨3,⟨[(2,Kf),(3,Ze),(5,BO),(9,AJX),(10,BO),(11,BO)],AU2⟩,Ku⟩]
def s97:SQ:=mk Tryz.func97 AA8 CY JN [fq] [] []
def s47:SQ:=mk Tryz.func47 wF CY KP [s96,s97] [(4,[0])] [⟨2,⟨[(0,w8),(8,.c (.sl false Y6)),(9,BO),(10,BO)],[]⟩,Ec⟩]
def ANf:SQ:=mk Tryz.func110 Ff Ff TH [s53] [] []
def AVX:SQ:=mk Tryz.func177 xE Ff SH [ANf] [] []
def AbM:SQ:=mk Tryz.func178 xE CY Uh [s95,AWa,AGl] [(4,[0,1])] [⟨2,⟨[(1,Kf),(6,qv),(7,BO),(8,BO)],[yS]⟩,LQ⟩]
def s98:SQ:=mk Tryz.func98 xB CY Ha [fq,s44,s72,s74,AVX,AbM] [] [⟨2,⟨[(2,Kf),(3,Ze),(10,ALf),(11,BO),(12,BO)],AO8⟩,Kz⟩]
def s36:SQ:=mk Tryz.func36 ABE Ff LY [] [] [⟨2,⟨[(6,.c (.sl false Y3)),(7,BO),(8,BO)],[]⟩,Hu⟩]
def s48:SQ:=mk Tryz.func48 wF CY L2 [s36,s98] [(4,[0])] [⟨2,⟨[(0,w8),(8,.c (.sl false Y7)),(9,BO),(10,BO)],[]⟩,FU⟩]
def s99:SQ:=mk Tryz.func99 AAU CY Tk [fq] [] []
def s49:SQ:=mk Tryz.func49 wF CY KK [s99] [] [⟨2,⟨[(0,w8),(8,ALK),(9,BO),(10,BO)],[]⟩,Eb⟩]
def s50:SQ:=mk Tryz.func50 wF CY NQ [s95,s97,AHU] [(4,[0])] [⟨2,⟨[(0,w8),(8,ACa),(9,BO),(10,BO)],[]⟩,Ft⟩]
def s16:SQ:=mk Tryz.func16 lr CY IP [s44,s45,s46,s47,s48,s49,s50] [] []
def AYc:SQ:=mk Tryz.func111 Ff ⟨[(0,.c (.v .str))],[]⟩ bB [] [] []
def s56:SQ:=mk Tryz.func56 AFG CY Yh [fq,AHU,AYc] [] [⟨4,⟨[(1,Kf),(3,Ze),(11,.c (.ref 2)),(12,BO),(13,BO)],[ADr,ADr,.sl 9 tU]⟩,Dk⟩]
abbrev zD:Ba:=Ff
abbrev AHt:Ba:=fJ
def AKz:SQ:=mk Tryz.func188 zD AHt Hc [fq] [] [⟨5,⟨[(0,BO),(3,nq),(10,BO)],uj⟩,KF⟩]
abbrev i210:Ba:=AD0
abbrev AW1:Ba:=AD6
def AKR:SQ:=mk Tryz.func210 i210 AW1 EF [s46,s87] [] []
abbrev ui:Ba:=AMt
abbrev AKj:Ba:=AMo
def AW7:QU:=⟨ui,AKj,(ui.un MG)⟩
def AYs:aN:=⟨T,Q_ (SP.l [s32,s46,s86,s87,AKR]),CX [(4,[0,1,2])]⟩
def AQu:List (Lp AKj):=[]
theorem AZI(g32:AA9→List Int→Option iJ)(g46:AA9→ABr→Option RY)(g86:List Int→Option cI)(g87:ABr→Option IE)(AJi:AA9→ABr→Option bV)(n:Nat)(ω:List Bool)(v:ui.V):DR ⟨T,Q_ [(32,⟨i32,o32,i32.un g32⟩),(46,⟨i46,o46,i46.un g46⟩),(86,⟨i86,o86,i86.un g86⟩),(87,⟨i87,o87,i87.un g87⟩),(210,⟨i210,AW1,i210.un AJi⟩)],CX [(4,[0,1,2])]⟩ AW7 Tryz.f187 (M9 0 AQu n) ω v=ui.un (fun(p0:AA9) (p1:ABr) (p2:AAO)=>
 (g46 (p0.1,p0.2.1,()) (p1.1,p1.2.1,())).bind fun u1=>
 cond (!u1.1.1)
  ((AJi (p0.1,p0.2.1,()) (p1.1,p1.2.1,())).bind fun u2=>
  some (((((),u2.1.1.2.1,()),0,false,()),()),(u2.2.1,())))
 ((g32 (p0.1,p0.2.1,()) p2).bind fun u3=>
 cond (!u3.1.1)
  ((AJi (p0.1,p0.2.1,()) (p1.1,p1.2.1,())).bind fun u4=>
  some (((((),u4.1.1.2.1,()),0,false,()),()),(u4.2.1,())))
 (cond (((p1.1.length:Int)==30))
  ((AJi (p0.1,p0.2.1,()) (p1.1,p1.2.1,())).bind fun u6=>
  some (((((),u6.1.1.2.1,()),0,false,()),()),(u6.2.1,())))
 ((g87 (p1.1,p1.2.1,())).bind fun u7=>
 (g86 p2).bind fun u8=>
 if u7.2.1.length+1≤Go.M.Dr then(
 let x9:AAS:=u7.2.1++[(u8.2.1,false,0,())]
 some (((((),u7.1.1.2.1,()),(x9.length:Int),true,()),()),(x9,())))else none)))) v:=by rcases ω with _|⟨_|_,_|⟨_|_,_|⟨_|_,_|⟨_|_,_⟩⟩⟩⟩<;>kernel_rfl
theorem AXz(n:Nat)(ω:List Bool)(v:ui.V):DR AYs AW7 Tryz.f187 (M9 0 AQu n) ω v=ui.un (MG) v:=AZI Gh Ke DB EW EF n ω v
def AVb:SQ:=mk Tryz.func187 ui AKj MG [s32,s46,s86,s87,AKR] [(4,[0,1,2])] AQu (hJ:= .nil) (he:=AXz Ae)
abbrev yz:Ba:=tK
abbrev AQA:Ba:=⟨nP,[.mem [.ref 1,.v tI,.ref 2,.ref 3,.ref 9,.v tI,.ref 10,.ref 11,.ref 7,.ref 8,.v .bool],C6,V3,C6,PS,PS,PS,Ox,Jh,KX,Q4,SZ]⟩
def AUb:QU:=⟨yz,AQA,(yz.un Jy)⟩
def AZ5:aN:=⟨T,Q_ (SP.l [AVb,AKz]),CX [(3,[0,1,2,3,4,5,6,7,8])]⟩
def AOV:List (Lp AQA):=[]
theorem AaP(ATt:AA9→ABr→List Int→Option cr)(y9:Int→Option HG)(n:Nat)(ω:List Bool)(v:yz.V):DR ⟨T,Q_ [(187,⟨ui,AKj,ui.un ATt⟩),(188,⟨zD,AHt,zD.un y9⟩)],CX [(3,[0,1,2,3,4,5,6,7,8])]⟩ AUb Tryz.f112 (M9 9 AOV n) ω v=yz.un (fun(p1:Int) (AG:Int) (AW:Int) (AL:Bool) (b1:AAO) (b2:AAP) (b3:AAO) (b4:AAS) (b5:AAr) (b6:AAv) (b7:AAs) (b8:AAk)=>
 cond (((b5.length:Int)==4))
  (some ((4,()),(((),AG,(),(),(),AW,(),(),(),(),AL,()),b1,b2,b3,(),(),(),b7,b8,b4,b5,b6,())))
 ((y9 p1).bind fun u2=>
 (ATt (b1,AG,()) (b4,AW,()) u2.2.1).bind fun u3=>
 cond (!u3.1.1.2.2.1)
  (some ((4,()),(((),AG,(),(),(),AW,(),(),(),(),AL,()),b1,b2,b3,(),(),(),b7,b8,b4,b5,b6,())))
 (if b5.length+1≤Go.M.Dr then(
 some ((0,()),(((),AG,(),(),(),u3.1.1.1.2.1,(),(),(),(),AL,()),b1,b2,b3,(),(),(),b7,b8,u3.2.1,(b5++[(u3.1.1.2.1,[],())]),[],())))else none))) v:=by rcases ω with _|⟨_|_,_|⟨_|_,_⟩⟩<;>kernel_rfl
theorem AZ7(n:Nat)(ω:List Bool)(v:yz.V):DR AZ5 AUb Tryz.f112 (M9 9 AOV n) ω v=yz.un (Jy) v:=AaP MG Hc n ω v
def AZg:SQ:=mk Tryz.func112 yz AQA Jy [AVb,AKz] [(3,[0,1,2,3,4,5,6,7,8])] AOV (hJ:= .nil) (he:=AZ7 Ae)
abbrev APX:Ba:=ADS
abbrev AVB:Ba:=AE7
def ANH:SQ:=mk Tryz.func257 APX AVB EJ [s89,s96] [] []
abbrev vO:Ba:=AMH
abbrev AG_:Ba:=AM3
def AUR:QU:=⟨vO,AG_,(vO.un I9)⟩
def AZx:aN:=⟨T,Q_ (SP.l [s89,s96,ANH]),CX []⟩
def ASe:List (Lp AG_):=[]
theorem Abu(g89:ACF→Option J4)(g96:AA9→ACF→Option MS)(AQK:AA9→ACF→Option XE)(n:Nat)(ω:List Bool)(v:vO.V):DR ⟨T,Q_ [(89,⟨i89,o89,i89.un g89⟩),(96,⟨i96,o96,i96.un g96⟩),(257,⟨APX,AVB,APX.un AQK⟩)],CX []⟩ AUR Tryz.f189 (M9 0 ASe n) ω v=vO.un (fun(p0:AA9) (p1:ACF) (p2:ACC)=>
 (g89 (p1.1,p1.2.1,())).bind fun u1=>
 if u1.2.1.length+1≤Go.M.Dr then(
 let x2:ACA:=u1.2.1++[(p2,[],false,())]
 (g96 (p0.1,p0.2.1,()) (p1.1,p1.2.1,())).bind fun u3=>
 cond (!u3.1.1)
  ((AQK (p0.1,p0.2.1,()) (p1.1,p1.2.1,())).bind fun u4=>
  some ((((u4.1.1.1,(),()),0,false,()),()),(u4.2.1,())))
 ((g96 (p0.1,p0.2.1,()) (u1.1.1.1,x2,())).bind fun u5=>
 cond (!u5.1.1)
  ((AQK (p0.1,p0.2.1,()) (p1.1,p1.2.1,())).bind fun u6=>
  some ((((u6.1.1.1,(),()),0,false,()),()),(u6.2.1,())))
 (some ((((u1.1.1.1,(),()),(x2.length:Int),true,()),()),(x2,())))))else none) v:=by rcases ω with _|⟨_|_,_|⟨_|_,_⟩⟩<;>kernel_rfl
theorem AZh(n:Nat)(ω:List Bool)(v:vO.V):DR AZx AUR Tryz.f189 (M9 0 ASe n) ω v=vO.un (I9) v:=Abu Fh GP EJ n ω v
def AWM:SQ:=mk Tryz.func189 vO AG_ I9 [s89,s96,ANH] [] ASe (hJ:= .nil) (he:=AZh Ae)
abbrev i31:Ba:=lx
abbrev o31:Ba:=oJ
def s31:SQ:=mk Tryz.func31 i31 o31 Dl [s72,s73] [] []
def AYA:SQ:=mk Tryz.func159 ⟨[(0,.row Y10),(1,BO)],[]⟩ Ff Kk [] [] []
def Aat:SQ:=mk Tryz.func158 ⟨[(0,ACa),(1,BO),(2,.c (.fn 159 []))],[]⟩ oJ BQ [AYA] [] [⟨3,⟨[(0,ACa),(1,BO),(2,.c (.fn 159 [])),(8,BO),(9,BO),(10,BO)],[]⟩,Aw⟩]
abbrev i67:Ba:=AA8
abbrev o67:Ba:=oJ
def s67:SQ:=mk Tryz.func67 i67 o67 Hm [Aat] [] []
abbrev AWe:Ba:=⟨[(0,nq),(1,BO),(2,ACa)],[Jh]⟩
abbrev AYu:Ba:=⟨AKv,[PS,Jh]⟩
def AUc:SQ:=AOO (ρ:=JD 190 0 258 259 34 45) (nm:= "slices.Insert[[]loop.example/g00178/impl.Sent,loop.example/g00178/impl.Sent]") (fv:=Tryz.f258) tOk (mI.ins ⟨by kernel_rfl,by kernel_rfl,by kernel_rfl,by kernel_rfl,by kernel_rfl,by kernel_rfl,by kernel_rfl,by kernel_rfl,by kernel_rfl,by kernel_rfl,by kernel_rfl,by kernel_rfl⟩ mx (by kernel_rfl) (by kernel_rfl) (by kernel_rfl) (by kernel_rfl) (by kernel_rfl) (by kernel_rfl) (by kernel_rfl)) (r:=Y10) rfl (by kernel_rfl) (by kernel_rfl) EE (fun _=>rfl)
abbrev zg:Ba:=⟨[(0,Kf),(1,BO),(2,.c (.v .str))],fU⟩
abbrev AS2:Ba:=⟨nP,[.mem [.ref 1,.v tI,.ref 2,.ref 3,.ref 4,.v tI,.ref 5,.ref 6,.ref 7,.ref 9,.v .bool],C6,V3,C6,KX,Q4,SZ,Ox,PS,Jh]⟩
def AWi:QU:=⟨zg,AS2,(zg.un LV)⟩
def AY5:aN:=⟨T,Q_ (SP.l [s31,fq,s67,AWM,AUc]),CX [(3,[0,1,2,3,4,5,6,7,8]),(8,[0,1,2,3,4,6,7,8])]⟩
def AOK:List (Lp AS2):=[]
theorem AaE(g31:Int→Int→Option K7)(g43:Int→Int→Int→Option Mw)(g67:ABF→Int→Option VZ)(ATs:AA9→ACF→List UInt8→Option Z2)(AW5:Int→AAk→AAk→Option Ic)(n:Nat)(ω:List Bool)(v:zg.V):DR ⟨T,Q_ [(31,⟨i31,o31,i31.un g31⟩),(43,⟨i43,o43,i43.un g43⟩),(67,⟨i67,o67,i67.un g67⟩),(189,⟨vO,AG_,vO.un ATs⟩),(190,⟨AWe,AYu,AWe.un AW5⟩)],CX [(3,[0,1,2,3,4,5,6,7,8]),(8,[0,1,2,3,4,6,7,8])]⟩ AWi Tryz.f113 (M9 9 AOK n) ω v=zg.un (fun(p1:Int) (p2:ACC) (AG:Int) (AW:Int) (AL:Bool) (b1:AAO) (b2:AAP) (b3:AAO) (b4:AAS) (b5:AAr) (b6:AAv) (b7:AAs) (b8:AAk)=>
 (g43 p1 0 (AZ ((b5.length:Int)-1))).bind fun u2=>
 cond (!u2.1.1)
  (some ((2,()),(((),AG,(),(),(),AW,(),(),(),(),AL,()),b1,b2,b3,b4,b5,b6,b7,(),b8,())))
 (if(0:Int)≤p1∧p1<(b5.length:Int)then(
 (ATs (b1,AG,()) ((b5.getD (p1.toNat) (0,[],())).1,(b5.getD (p1.toNat) (0,[],())).2.1,()) p2).bind fun u3=>
 (g31 u3.1.1.1.1 u3.1.1.2.1).bind fun u4=>
 (g67 (b1,AG,b2,b3,b4,AW,b5,b6,b7,b8,AL,()) u4.1.1.1).bind fun u5=>
 cond (!u3.1.1.2.2.1)
  (some ((4,()),(((),AG,(),(),(),AW,(),(),(),(),AL,()),b1,b2,b3,b4,b5,b6,b7,(),b8,())))
 (cond (((b8.length:Int)==120))
  (some ((4,()),(((),AG,(),(),(),AW,(),(),(),(),AL,()),b1,b2,b3,b4,b5,b6,b7,(),b8,())))
 (cond (u5.1.1.2.1)
  (some ((4,()),(((),AG,(),(),(),AW,(),(),(),(),AL,()),b1,b2,b3,b4,b5,b6,b7,(),b8,())))
 (if(0:Int)≤p1∧p1<(b5.length:Int)then(
 (AW5 u5.1.1.1 [(u4.1.1.1,p2,false,())] b8).bind fun u8=>
 some ((0,()),(((),AG,(),(),(),AW,(),(),(),(),AL,()),b1,b2,b3,b4,(b5.set (p1.toNat) (u3.1.1.1.1,u3.2.1,())),b6,b7,(),u8.2.2.1,())))else none))))else none)) v:=by rcases ω with _|⟨_|_,_⟩<;>kernel_rfl
theorem AZ2(n:Nat)(ω:List Bool)(v:zg.V):DR AY5 AWi Tryz.f113 (M9 9 AOK n) ω v=zg.un (LV) v:=AaE Dl A5 Hm I9 EE n ω v
def AYi:SQ:=mk Tryz.func113 zg AS2 LV [s31,fq,s67,AWM,AUc] [(3,[0,1,2,3,4,5,6,7,8]),(8,[0,1,2,3,4,6,7,8])] AOK (hJ:= .nil) (he:=AZ2 Ae)
def AF1:SQ:=mk Tryz.func193 AA8 Ff EN [fq,s93] [] []
abbrev ARs:Ba:=AMe
abbrev AV0:Ba:=fJ
def AIi:SQ:=mk Tryz.func156 ARs AV0 Ik [fq,s86] [] []
abbrev zp:Ba:=⟨[(0,w8),(1,BO),(2,BO)],[]⟩
abbrev AJ5:Ba:=Ff
def AEM:SQ:=mk Tryz.func191 zp AJ5 De [AIi,zY,AF1] [] []
def ALD:SQ:=mk Tryz.func263 lf AFa Dj [s88,s92] [] []
def AY8:SQ:=mk Tryz.func260 AEL tL T5 [s88,s92,s95,AGl,ALD] [(3,[0,1,2])] []
abbrev AEU:Ba:=CY
abbrev AQC:Ba:=Ff
def vj:SQ:=mk Tryz.func125 AEU AQC Jw [] [] []
abbrev ASD:Ba:=⟨[(0,Kf),(1,BO),(2,.row Y1)],fU⟩
abbrev AT5:Ba:=pd
def AO1:SQ:=mk Tryz.func192 ASD AT5 LU [vj,AY8] [(1,[0,1,2,3,4,5,6,7,8,9]),(3,[0,1,3,4,5,6,7,8,9])] [] (he:=fun ω v=>by rcases ω with _|⟨_|_,_⟩<;>kernel_rfl)
abbrev yo:Ba:=AMN
abbrev AN9:Ba:=pd
def AVK:QU:=⟨yo,AN9,(yo.un I0)⟩
def AYN:aN:=⟨T,Q_ (SP.l [s31,fq,AEM,AO1]),CX [(1,[0,1,2,3,4,5,6,7,8,9]),(3,[0,1,2,3,4,5,6,7,8,9]),(10,[9,10])]⟩
def ASy:List (Lp AN9):=[]
theorem AbZ(g31:Int→Int→Option K7)(g43:Int→Int→Int→Option Mw)(uM:ABF→Int→Int→Option Hs)(AWF:Int→AC9→Int→Int→Bool→List Int→AAP→List Int→AAS→AAr→AAv→AAs→AAk→Option Z9)(n:Nat)(ω:List Bool)(v:yo.V):DR ⟨T,Q_ [(31,⟨i31,o31,i31.un g31⟩),(43,⟨i43,o43,i43.un g43⟩),(191,⟨zp,AJ5,zp.un uM⟩),(192,⟨ASD,AT5,ASD.un AWF⟩)],CX [(1,[0,1,2,3,4,5,6,7,8,9]),(3,[0,1,2,3,4,5,6,7,8,9]),(10,[9,10])]⟩ AVK Tryz.f114 (M9 9 ASy n) ω v=yo.un (fun(p1:AC3) (AG:Int) (AW:Int) (AL:Bool) (b1:AAO) (b2:AAP) (b3:AAO) (b4:AAS) (b5:AAr) (b6:AAv) (b7:AAs) (b8:AAk)=>
 (g43 p1.2.1 0 (AZ ((b5.length:Int)-1))).bind fun u2=>
 cond (!u2.1.1)
  (some ((2,()),(((),AG,(),(),(),AW,(),(),(),(),AL,()),b1,b2,b3,b4,b5,b6,b7,b8,())))
 (if(0:Int)≤p1.2.1∧p1.2.1<(b5.length:Int)then(
 (g43 p1.2.2.1 1 (((b5.getD (p1.2.1.toNat) (0,[],())).2.1).length:Int)).bind fun u4=>
 cond (!u4.1.1)
  (some ((2,()),(((),AG,(),(),(),AW,(),(),(),(),AL,()),b1,b2,b3,b4,b5,b6,b7,b8,())))
 ((uM (b1,AG,b2,b3,b4,AW,b5,b6,b7,b8,AL,()) p1.2.2.2.1 ((b5.getD (p1.2.1.toNat) (0,[],())).1)).bind fun u6=>
 cond (u6.1.1 !=0)
  (some ((u6.1.1,()),(((),AG,(),(),(),AW,(),(),(),(),AL,()),b1,b2,b3,b4,b5,b6,b7,b8,())))
 ((g31 ((b5.getD (p1.2.1.toNat) (0,[],())).1) p1.2.2.1).bind fun u8=>
 if(0:Int)≤AZ (p1.2.2.1-1)∧AZ (p1.2.2.1-1)<(((b5.getD (p1.2.1.toNat) (0,[],())).2.1).length:Int)then(
 (AWF p1.2.2.2.1 (u8.1.1.1,0,false,((((b5.getD (p1.2.1.toNat) (0,[],())).2.1).getD ((AZ (p1.2.2.1-1)).toNat) ([],[],false,())).1),()) AG AW AL b1 b2 b3 b4 b5 b6 b7 b8).bind fun ED=>
 some ((ED.1.1,()),(((),ED.2.1.2.1,(),(),(),ED.2.1.2.2.2.2.2.1,(),(),(),(),ED.2.1.2.2.2.2.2.2.2.2.2.2.1,()),ED.2.2.1,ED.2.2.2.1,ED.2.2.2.2.1,ED.2.2.2.2.2.1,ED.2.2.2.2.2.2.1,ED.2.2.2.2.2.2.2.1,ED.2.2.2.2.2.2.2.2.1,ED.2.2.2.2.2.2.2.2.2.1,())))else none)))else none)) v:=by kernel_rfl
theorem Aa0(n:Nat)(ω:List Bool)(v:yo.V):DR AYN AVK Tryz.f114 (M9 9 ASy n) ω v=yo.un (I0) v:=AbZ Dl A5 De LU n ω v
def AbU:SQ:=mk Tryz.func114 yo AN9 I0 [s31,fq,AEM,AO1] [(1,[0,1,2,3,4,5,6,7,8,9]),(3,[0,1,2,3,4,5,6,7,8,9]),(10,[9,10])] ASy (hJ:= .nil) (he:=Aa0 Ae)
def AaI:SQ:=mk Tryz.func240 ⟨[(0,.row Y1),(1,BO)],[]⟩ Ff SJ [] [] []
def AZN:SQ:=mk Tryz.func239 ⟨[(0,qv),(1,BO),(2,.c (.fn 240 []))],[]⟩ oJ CC [AaI] [] [⟨3,⟨[(0,qv),(1,BO),(2,.c (.fn 240 [])),(8,BO),(9,BO),(10,BO)],[]⟩,A4⟩]
def ATe:SQ:=mk Tryz.func146 AEq oJ SU [AZN] [] []
def AYM:SQ:=AOO (ρ:=JD 296 0 307 308 92 96) (nm:= "slices.Insert[[]loop.example/g00178/impl.Entry,loop.example/g00178/impl.Entry]") (fv:=Tryz.f307) tOk (mI.ins ⟨by kernel_rfl,by kernel_rfl,by kernel_rfl,by kernel_rfl,by kernel_rfl,by kernel_rfl,by kernel_rfl,by kernel_rfl,by kernel_rfl,by kernel_rfl,by kernel_rfl,by kernel_rfl⟩ mx (by kernel_rfl) (by kernel_rfl) (by kernel_rfl) (by kernel_rfl) (by kernel_rfl) (by kernel_rfl) (by kernel_rfl)) (r:=Y1) rfl (by kernel_rfl) (by kernel_rfl) Ds (fun _=>rfl)
def AUQ:SQ:=mk Tryz.func297 AMb AM4 Qq [] [] []
def APl:SQ:=mk Tryz.func264 ⟨[(0,nq),(1,.row Y1)],sy⟩ AMa WK [ATe,AYM,AUQ] [(4,[1])] []
def AUz:SQ:=mk Tryz.func197 iM AAD Ma [fq,s88,s92,ALD,APl] [] [⟨6,⟨[(1,BO),(2,Kf),(4,Ze),(6,yD),(23,qv),(24,BO),(25,BO)],[AN2,AHs,MX,MX,ARg,.sl 1 Y1,MX]⟩,I_⟩]
def AWP:SQ:=mk Tryz.func194 lf AAD Nj [AUz] [] []
abbrev i60:Ba:=iM
abbrev o60:Ba:=vt
def s60:SQ:=mk Tryz.func60 i60 o60 GQ [s92,ATe] [] []
def AYC:SQ:=mk Tryz.func309 Ff CY cmp_isNaN_int [] [] []
def Abn:SQ:=mk Tryz.func298 lx CY cmp_Less_int [AYC] [] []
def AX4:SQ:=mk Tryz.func299 Ff CY Ou [] [] []
def AZu:SQ:=mk Tryz.func265 mG oJ GI [Abn,AX4] [] [⟨3,⟨[(0,Z8),(1,BO),(6,BO),(7,BO),(8,BO)],[]⟩,Dm⟩]
def AZY:SQ:=AOO (ρ:=JD 266 0 300 301 24 3) (nm:= "slices.Insert[[]int,int]") (fv:=Tryz.f300) tOk (mI.ins ⟨by kernel_rfl,by kernel_rfl,by kernel_rfl,by kernel_rfl,by kernel_rfl,by kernel_rfl,by kernel_rfl,by kernel_rfl,by kernel_rfl,by kernel_rfl,by kernel_rfl,by kernel_rfl⟩ mx (by kernel_rfl) (by kernel_rfl) (by kernel_rfl) (by kernel_rfl) (by kernel_rfl) (by kernel_rfl) (by kernel_rfl)) (r:=tI) rfl (by kernel_rfl) (by kernel_rfl) JW (fun _=>rfl)
def AG9:SQ:=mk Tryz.func198 mG AE6 KU [s86,AZu,AZY] [] []
def AZ3:SQ:=mk Tryz.func261 AL6 AL8 SO [s32,fq,s89,s96,AG9,ANH] [(6,[0,1,2,4])] []
def AbF:SQ:=mk Tryz.func195 AAE AMf M3 [s31,s60,s67,AZ3] [(6,[0,1,2,3,4,6,7,8,9])] [⟨1,AEu,Cx⟩]
abbrev ADX:Ba:=AM0
abbrev APo:Ba:=vt
def APG:SQ:=mk Tryz.func207 ADX APo I6 [s31] [] [⟨5,⟨[(2,Kf),(4,Ze),(6,BO),(33,qv),(34,BO),(35,BO)],[yS,ABd]⟩,KA⟩]
def AOo:SQ:=mk Tryz.func269 xB wV Ep [s90,s98] [] []
abbrev AEO:Ba:=AM6
abbrev AQ1:Ba:=AMT
def AWw:SQ:=mk Tryz.func262 AEO AQ1 Oh [fq,s90,s98,AG9,AOo] [(4,[0,1,2,3,4,6])] []
abbrev i196:Ba:=AAE
abbrev ARW:Ba:=AMf
def c196:QU:=⟨i196,ARW,(i196.un Kh)⟩
def AUT:aN:=⟨T,Q_ (SP.l [s60,APG,AWw]),CX [(4,[0,1,2,3,4,5,6,7,8,9]),(6,[0,1,2,3,4,5,7,8,9,10])]⟩
def ADg:List (Lp ARW):=[⟨1,AEu,BV⟩]
abbrev lH:Ba:=AEu
theorem ANy(g60:ACN→Int→Option Me)(AHE:ABH→Int→Option I1)(AKF:AA9→ABH→Int→Int→Option W4)(n:Nat)(v:lH.V)(ω:List Bool):JR ⟨T,Q_ [(60,⟨i60,o60,i60.un g60⟩),(207,⟨ADX,APo,ADX.un AHE⟩),(262,⟨AEO,AQ1,AEO.un AKF⟩)],CX [(4,[0,1,2,3,4,5,6,7,8,9]),(6,[0,1,2,3,4,5,7,8,9,10])]⟩ c196 Tryz.f196 (M9 9 ADg n) 1 ω (lH.st 81 v)=lH.un (fun(t1:Int) (t2:Int) (t6:Int) (AG:Int) (AW:Int) (AL:Bool) (b1:AAO) (b2:AAP) (b3:AAO) (b4:AAS) (b5:AAr) (b6:AAv) (b7:AAs) (b8:AAk)=>
 if(0:Int)≤t1∧t1<(b6.length:Int)then(
 cond (decide (t6≤(((b6.getD (t1.toNat) (0,0,[],[],false,[],())).2.2.2.2.2.1).length:Int)))
  (if(0:Int)≤t1∧t1<(b6.length:Int)then(
  (AHE ((b6.getD (t1.toNat) (0,0,[],[],false,[],())).1,(b6.getD (t1.toNat) (0,0,[],[],false,[],())).2.1,(b6.getD (t1.toNat) (0,0,[],[],false,[],())).2.2.1,(b6.getD (t1.toNat) (0,0,[],[],false,[],())).2.2.2.1,(b6.getD (t1.toNat) (0,0,[],[],false,[],())).2.2.2.2.1,(b6.getD (t1.toNat) (0,0,[],[],false,[],())).2.2.2.2.2.1,()) t6).bind fun u2=>
  if(0:Int)≤t2∧t2<(b2.length:Int)then(
  (g60 ((b2.getD (t2.toNat) ([],[],0,())).1,(b2.getD (t2.toNat) ([],[],0,())).2.1,(b2.getD (t2.toNat) ([],[],0,())).2.2.1,()) u2.1.1.1.1).bind fun u3=>
  cond (u2.1.1.2.1)
   (cond (u3.1.1.2.1)
    (cond (((u3.1.1.1.1==u2.1.1.1.1)&&((u3.1.1.1.2.1==u2.1.1.1.2.1)&&((u3.1.1.1.2.2.1==u2.1.1.1.2.2.1)&&((u3.1.1.1.2.2.2.1==u2.1.1.1.2.2.2.1)&&true)))))
     (if(0:Int)≤t1∧t1<(b6.length:Int)then(
     (AKF (b1,AG,()) ((b6.getD (t1.toNat) (0,0,[],[],false,[],())).1,(b6.getD (t1.toNat) (0,0,[],[],false,[],())).2.1,(b6.getD (t1.toNat) (0,0,[],[],false,[],())).2.2.1,(b6.getD (t1.toNat) (0,0,[],[],false,[],())).2.2.2.1,(b6.getD (t1.toNat) (0,0,[],[],false,[],())).2.2.2.2.1,(b6.getD (t1.toNat) (0,0,[],[],false,[],())).2.2.2.2.2.1,()) t6 t2).bind fun u5=>
     if(0:Int)≤t1∧t1<(b6.length:Int)then(
     (BV n) t1 t2 (AZ (t6+1)) AG AW AL b1 b2 b3 b4 b5 (b6.set (t1.toNat) (u5.1.1.1.1,u5.1.1.1.2.1,u5.2.1,u5.2.2.1,u5.1.1.1.2.2.2.2.1,u5.2.2.2.1,())) b7 b8)else none)else none)
    ((BV n) t1 t2 (AZ (t6+1)) AG AW AL b1 b2 b3 b4 b5 b6 b7 b8))
   ((BV n) t1 t2 (AZ (t6+1)) AG AW AL b1 b2 b3 b4 b5 b6 b7 b8))
  ((BV n) t1 t2 (AZ (t6+1)) AG AW AL b1 b2 b3 b4 b5 b6 b7 b8))else none)else none)
 (some (((()),()),(((),AG,(),(),(),AW,(),(),(),(),AL,()),b1,b2,b3,b4,b5,b6,b7,b8,()))))else none) v:=by rcases ω with _|⟨_|_,_⟩<;>kernel_rfl
theorem AQi(n:Nat)(v:lH.V)(ω:List Bool):JR AUT c196 Tryz.f196 (M9 9 ADg n) 1 ω (lH.st 81 v)=lH.un (Gz (BV n)) v:=ANy GQ I6 Oh n v ω
theorem AXv(g60:ACN→Int→Option Me)(AHE:ABH→Int→Option I1)(AKF:AA9→ABH→Int→Int→Option W4)(n:Nat)(ω:List Bool)(v:i196.V):DR ⟨T,Q_ [(60,⟨i60,o60,i60.un g60⟩),(207,⟨ADX,APo,ADX.un AHE⟩),(262,⟨AEO,AQ1,AEO.un AKF⟩)],CX [(4,[0,1,2,3,4,5,6,7,8,9]),(6,[0,1,2,3,4,5,7,8,9,10])]⟩ c196 Tryz.f196 (M9 9 ADg n) ω v=i196.un (fun(p1:Int) (p2:Int) (AG:Int) (AW:Int) (AL:Bool) (b1:AAO) (b2:AAP) (b3:AAO) (b4:AAS) (b5:AAr) (b6:AAv) (b7:AAs) (b8:AAk)=>
 (BV n) p1 p2 1 AG AW AL b1 b2 b3 b4 b5 b6 b7 b8) v:=by kernel_rfl
theorem AYR(n:Nat)(ω:List Bool)(v:i196.V):DR AUT c196 Tryz.f196 (M9 9 ADg n) ω v=i196.un (Ji (BV n)) v:=AXv GQ I6 Oh n ω v
def AbH:SQ:=mk Tryz.func196 i196 ARW Kh [s60,APG,AWw] [(4,[0,1,2,3,4,5,6,7,8,9]),(6,[0,1,2,3,4,5,7,8,9,10])] ADg (hJ:= .cons (fun _=>rfl) AQi (.nil)) (he:=AYR Ae)
def AXp:SQ:=mk Tryz.func115 tK pd Pr [AIi,zY,AF1,AWP,AbF,AbH] [(7,[0,1,3,4,5,6,7,8,11]),(11,[0,1,2,3,4,5,6,7,8,9,10]),(17,[0,1,2,3,4,5,6,7,8,9])] [⟨9,⟨[(0,Kf),(1,BO),(6,cT),(41,.c (.ref 5)),(42,BO),(43,BO)],[rQ,C6,V3,C6,KX,Q4,SZ,Ox,Jh,.mem [.any,.any,.v tI]]⟩,Ei⟩,⟨15,⟨[(0,Kf),(1,BO),(72,.c (.ref 6)),(73,BO),(74,BO)],fU⟩,FJ⟩]
def AZL:SQ:=mk Tryz.func116 AAE pd Oc [vj,AF1,AUz] [(5,[0,1,3,4,5,6,7,8,11])] []
def ATr:SQ:=mk Tryz.func248 ⟨[(0,BO),(1,.c (.my (.cons tI .unit)))],[]⟩ CY MN [] [] []
def ANn:SQ:=mk Tryz.func294 ⟨[(0,Z8),(1,AKh)],[]⟩ Ff Dv [ATr] [] [⟨2,⟨[(0,Z8),(1,AKh),(7,BO),(8,BO)],[]⟩,Bv⟩]
def AQF:SQ:=mk Tryz.func247 ⟨[(0,nq),(1,AKh)],[C6]⟩ AMg Ci [ATr,ANn] [] [⟨5,⟨[(0,nq),(1,AKh),(5,BO),(6,BO)],[C6]⟩,Bp⟩]
abbrev i157:Ba:=mG
abbrev AUv:Ba:=AE6
def AJI:SQ:=mk Tryz.func157 i157 AUv HK [s86,AQF] [] []
def AX7:SQ:=mk Tryz.func199 AMW AL8 NI [s89,s96,AJI] [(8,[0,1,2,4])] [⟨5,⟨[(2,BO),(6,Kf),(8,xP8),(19,AJX),(20,BO),(21,BO)],[.mem [.v tI,.ref 1],.sl 9 Y5,.mem [.v tI,.ref 3],.sl 2 Y5]⟩,Hf⟩]
def AbQ:SQ:=mk Tryz.func200 AL7 AMT Ps [s90,s98,AJI] [(7,[0,1,2,3,4,5,6])] [⟨5,⟨[(2,BO),(6,Kf),(8,yD),(19,ALf),(20,BO),(21,BO)],[AUI,Es,MX,qk,AUW,Es,MX,.sl 2 (.sl tI)]⟩,JA⟩]
def Aa3:SQ:=mk Tryz.func117 tK ⟨nP,[AO0,C6,V3,PS,KX,Q4,SZ,Ox,Jh,C6]⟩ P5 [s32,AF1,AG9,AX7,AbQ] [(9,[0,1,2,3,4,6,7,8,9,10]),(14,[0,1,2,3,4,5,7,8,9,10]),(16,[1,2,3,4,5,6,7,8,9])] [⟨7,⟨[(0,Kf),(1,BO),(35,.c (.ref 5)),(36,BO),(37,BO)],AMr⟩,HE⟩,⟨12,⟨[(0,Kf),(1,BO),(62,.c (.ref 6)),(63,BO),(64,BO)],AMr⟩,Gm⟩] (hJ:= .cons (fun _=>rfl) (fun n v ω=>by kernel_rfl) (.cons (fun _=>rfl) (fun n v ω=>by rcases ω with _|⟨_|_,_⟩<;>kernel_rfl) (.nil)))
def AYz:SQ:=mk Tryz.func267 ln CY Xx [s32,s74] [] []
def AYn:SQ:=mk Tryz.func268 ⟨[(0,xX)],[]⟩ ⟨ACI,sy⟩ gL [s92,APl] [] [⟨3,⟨[(3,nq),(9,xX),(10,BO),(11,BO)],sy⟩,M0⟩,⟨8,⟨[(3,nq),(9,xX),(10,BO),(11,BO),(19,qv),(20,BO),(21,BO)],sy⟩,Mm⟩]
abbrev i201:Ba:=AMs
abbrev AV6:Ba:=⟨AU3,[UQ,.sl 1 Y1,MX]⟩
def ATx:SQ:=mk Tryz.func201 i201 AV6 Z3 [s92,zY,AYz,AYn] [] [⟨5,⟨[(2,Z8),(4,BO),(10,Ze),(12,.c (.ref 4)),(36,nq),(37,BO),(38,BO)],[UQ,AHs,MX,MX,UQ]⟩,RR⟩]
abbrev yy:Ba:=tK
abbrev ARk:Ba:=⟨nP,[AO0,C6,UQ,PS,KX,Q4,SZ,Ox,Jh,C6]⟩
def AUj:QU:=⟨yy,ARk,(yy.un J0)⟩
def AYD:aN:=⟨T,Q_ (SP.l [fq,s93,AJI,ATx]),CX [(3,[0,1,3,4,5,6,7,8]),(6,[0,1,3,4,5,6,7,8,9])]⟩
def AO2:List (Lp ARk):=[]
theorem Abq(g43:Int→Int→Int→Option Mw)(g93:ABF→Int→Option Kr)(AVk:List Int→Int→Option Wa)(AVU:AA9→List Int→Int→Int→AAP→Option UO)(n:Nat)(ω:List Bool)(v:yy.V):DR ⟨T,Q_ [(43,⟨i43,o43,i43.un g43⟩),(93,⟨i93,o93,i93.un g93⟩),(157,⟨i157,AUv,i157.un AVk⟩),(201,⟨i201,AV6,i201.un AVU⟩)],CX [(3,[0,1,3,4,5,6,7,8]),(6,[0,1,3,4,5,6,7,8,9])]⟩ AUj Tryz.f118 (M9 9 AO2 n) ω v=yy.un (fun(p1:Int) (AG:Int) (AW:Int) (AL:Bool) (b1:AAO) (b2:AAP) (b3:AAO) (b4:AAS) (b5:AAr) (b6:AAv) (b7:AAs) (b8:AAk)=>
 (g43 p1 0 (AZ ((b2.length:Int)-1))).bind fun u2=>
 cond (!u2.1.1)
  (some ((2,()),(((),AG,(),(),(),AW,(),(),(),(),AL,()),b1,b2,(),b4,b5,b6,b7,b8,b3,())))
 ((g93 (b1,AG,b2,b3,b4,AW,b5,b6,b7,b8,AL,()) p1).bind fun u3=>
 cond (!u3.1.1)
  (some ((2,()),(((),AG,(),(),(),AW,(),(),(),(),AL,()),b1,b2,(),b4,b5,b6,b7,b8,b3,())))
 (let x4:Int:=AZ ((b4.length:Int)-1)
 (AVU (b1,AG,()) b3 p1 (if 0>x4 then 0 else x4) b2).bind fun u6=>
 cond (!u6.1.1.2.1)
  (some ((4,()),(((),AG,(),(),(),AW,(),(),(),(),AL,()),b1,u6.2.1,(),b4,b5,b6,b7,b8,b3,())))
 (if(0:Int)≤p1∧p1<(u6.2.1.length:Int)then(
 (AVk b3 p1).bind fun u8=>
 some ((0,()),(((),AG,(),(),(),AW,(),(),(),(),AL,()),b1,(u6.2.1.set (p1.toNat) (u6.2.2.1,u6.2.2.2.1,u6.1.1.1.2.2.1,())),(),b4,b5,b6,b7,b8,u8.2.1,())))else none)))) v:=by rcases ω with _|⟨_|_,_⟩<;>kernel_rfl
theorem AZz(n:Nat)(ω:List Bool)(v:yy.V):DR AYD AUj Tryz.f118 (M9 9 AO2 n) ω v=yy.un (J0) v:=Abq A5 C3 HK Z3 n ω v
def AZB:SQ:=mk Tryz.func118 yy ARk J0 [fq,s93,AJI,ATx] [(3,[0,1,3,4,5,6,7,8]),(6,[0,1,3,4,5,6,7,8,9])] AO2 (hJ:= .nil) (he:=AZz Ae)
def Abm:SQ:=mk Tryz.func202 lx wV jN [] [] []
def AaQ:SQ:=mk Tryz.func119 AFf ⟨nP,[.mem [.ref 1,.v tI,.ref 2,.ref 3,.ref 4,.v tI,.ref 5,.ref 9,.ref 7,.ref 8,.v .bool],C6,V3,C6,KX,Q4,PS,Ox,Jh,SZ]⟩ Py [s36,Abm] [(1,[0,1,2,3,4,5,6,7,8])] []
abbrev i203:Ba:=iM
abbrev ASO:Ba:=AAD
def AVa:SQ:=mk Tryz.func203 i203 ASO N5 [fq,AWP,ALD] [] []
abbrev ADj:Ba:=iM
abbrev APp:Ba:=wq
def AUm:SQ:=mk Tryz.func205 ADj APp PU [s92,s95] [] [⟨5,⟨[(1,BO),(5,nq),(14,qv),(15,BO),(16,BO)],[MX]⟩,Kv⟩]
abbrev AD2:Ba:=AME
abbrev AQR:Ba:=⟨APe,[C6,.sl 1 Y1,qk]⟩
def AVn:SQ:=mk Tryz.func204 AD2 AQR Pc [s90,s95,s98,AG9,APl,AOo] [(8,[0,1,2,3,4,5,6,7,8,9,10])] [⟨6,⟨[(4,Kf),(5,Ze),(8,xP8),(10,.c (.ptr 6 0)),(31,qv),(32,BO),(33,BO)],[vJ,yS,AVg,Es,MX,qk,AUZ,C6,.sl 1 Y1,qk]⟩,LD⟩]
end
end Go.Proofs.YtebiojjohcpanaaGreat.Wk
