/- Each function computes what was printed: by the kernel. -/
import Derived.Test.YtdofdihhmbbbhaaGreatG0
import Derived.Test.YtdofdihhmbbbhaaGreatProg
import Derived.KernelRfl
set_option linter.unusedVariables false
set_option linter.unusedSimpArgs false
set_option linter.unusedSectionVars false
namespace Go.Proofs.YtdofdihhmbbbhaaGreat.Wk
open Go Go.Fw Go.M Go.Proofs
noncomputable section
abbrev tI:Ty:= .int .i64
abbrev tU:Ty:= .int .u8
abbrev Y0:Ty:=(.cons (.sl tI) (.cons tI .unit))
abbrev Y1:Ty:=(.cons tI (.cons tI (.cons .bool (.cons .str .unit))))
abbrev Y2:Ty:=(.cons (.sl Y1) (.cons (.sl Y1) (.cons tI .unit)))
abbrev Y3:Ty:=(.cons (.sl tI) (.cons .bool (.cons tI .unit)))
abbrev Y4:Ty:=(.cons (.sl Y3) (.cons tI .unit))
abbrev Y5:Ty:=(.cons .str (.cons (.sl tI) (.cons .bool .unit)))
abbrev Y6:Ty:=(.cons tI (.cons (.sl Y5) .unit))
abbrev Y7:Ty:=(.cons tI (.cons tI (.cons (.sl tI) (.cons (.sl Y1) (.cons .bool (.cons (.sl (.sl tI)) .unit))))))
abbrev Y8:Ty:=(.cons tI (.cons tI (.cons .str .unit)))
abbrev Y9:Ty:=(.cons tI (.cons tI (.cons (.sl Y8) .unit)))
abbrev Y10:Ty:=(.cons tI (.cons .str (.cons .bool .unit)))
abbrev Y11:Ty:=(.cons (.sl tI) (.cons tI (.cons (.sl Y2) (.cons (.sl tI) (.cons (.sl Y3) (.cons tI (.cons (.sl Y6) (.cons (.sl Y7) (.cons (.sl Y9) (.cons (.sl Y10) (.cons .bool .unit)))))))))))
abbrev Y12:Ty:=(.cons tI (.cons tI (.cons tI (.cons tI (.cons .str .unit)))))
abbrev Y13:Ty:=(.cons (.sl tU) (.cons tI (.cons tI .unit)))
abbrev Y14:Ty:=(.cons tI (.cons .bool (.cons tI (.cons tI (.cons .bool (.cons .str .unit))))))
def T:HE:=[(3,⟨1,8,.int .i64,some tI⟩),
 (4,⟨1,1,.bool,some .bool⟩),
 (5,⟨1,1,.int .u8,some tU⟩),
 (9,⟨1,16,.str,some .str⟩),
 (22,⟨1,24,.sl 5,some (.sl tU)⟩),
 (24,⟨1,24,.sl 3,some (.sl tI)⟩),
 (26,⟨2,32,.st [(0,24),(1,3)],some Y0⟩),
 (28,⟨1,24,.sl 141,some (.sl Y2)⟩),
 (29,⟨1,24,.sl 161,some (.sl Y3)⟩),
 (31,⟨2,32,.st [(0,29),(1,3)],some Y4⟩),
 (32,⟨1,24,.sl 90,some (.sl Y6)⟩),
 (33,⟨1,24,.sl 146,some (.sl Y7)⟩),
 (34,⟨1,24,.sl 52,some (.sl Y9)⟩),
 (35,⟨1,24,.sl 56,some (.sl Y10)⟩),
 (37,⟨11,216,.st [(0,26),(2,28),(3,24),(4,31),(6,32),(7,33),(8,34),(9,35),(10,4)],some Y11⟩),
 (45,⟨5,48,.st [(0,3),(1,3),(2,3),(3,3),(4,9)],some Y12⟩),
 (50,⟨1,24,.sl 54,some (.sl Y8)⟩),
 (52,⟨3,40,.st [(0,3),(1,3),(2,50)],some Y9⟩),
 (54,⟨3,32,.st [(0,3),(1,3),(2,9)],some Y8⟩),
 (56,⟨3,32,.st [(0,3),(1,9),(2,4)],some Y10⟩),
 (78,⟨1,8,.ptr 135,none⟩),
 (88,⟨1,24,.sl 167,some (.sl Y5)⟩),
 (90,⟨2,32,.st [(0,3),(1,88)],some Y6⟩),
 (98,⟨1,8,.other,none⟩),
 (135,⟨3,40,.st [(0,22),(1,3),(2,3)],some Y13⟩),
 (139,⟨1,24,.sl 219,some (.sl Y1)⟩),
 (141,⟨3,56,.st [(0,139),(1,139),(2,3)],some Y2⟩),
 (144,⟨1,24,.sl 24,some (.sl (.sl tI))⟩),
 (146,⟨6,96,.st [(0,3),(1,3),(2,24),(3,139),(4,4),(5,144)],some Y7⟩),
 (149,⟨1,8,.ptr 37,none⟩),
 (161,⟨3,40,.st [(0,24),(1,4),(2,3)],some Y3⟩),
 (167,⟨3,48,.st [(0,9),(1,24),(2,4)],some Y5⟩),
 (219,⟨4,40,.st [(0,3),(1,3),(2,4),(3,9)],some Y1⟩),
 (239,⟨1,24,.sl 242,some (.sl Y14)⟩),
 (242,⟨6,56,.st [(0,3),(1,4),(2,219)],some Y14⟩),
 (250,⟨1,24,.sl 45,some (.sl Y12)⟩),
 (302,⟨1,24,.sl 4,some (.sl .bool)⟩),
 (332,⟨1,24,.sl 9,some (.sl .str)⟩)]
theorem tOk:DY Tryz.prog T:=cH (by kernel_rfl)
theorem mx:Tryz.prog.follows .mixedOrders=true:=by kernel_rfl
abbrev SQ:=SP Tryz.prog
def mk{f:Nat}{fn:Func}(hf:Tryz.prog.funcs[f]? =some fn)(i o:Bn)(g:i.Cu (Option o.V))(l:List SQ)(h:List AFK)(L:List (Lp o))
  (hJ:RN ⟨T,Te (SP.l l),Cy h⟩ ⟨i,o,i.un g⟩ fn (Ng i.Eb.length L) L:=by
   repeat refine RN.cons (fun _=>rfl) (fun _ _ _=>by kernel_rfl) ?_
   exact RN.nil)
  (he:∀ω v,FQ ⟨T,Te (SP.l l),Cy h⟩ ⟨i,o,i.un g⟩ fn (Ng i.Eb.length L Ac) ω v=i.un g v:=by intro ω v;kernel_rfl)
  (hL:YT fn=Lp.ls L:=by kernel_rfl) (hd:decide (Lp.ls L).Nodup=true:=by kernel_rfl) (hc:YA fn ⟨i,o,i.un g⟩=true:=by kernel_rfl):SQ:=
 mkP tOk mx hf i o g l h L Ac hL hd hc hJ he
abbrev sQ:XP:= .c (.v .bool)
abbrev MZ:XP:= .c (.ptr 0 0)
abbrev Br:XP:= .c (.v tI)
abbrev Ry:XP:= .c (.ptr 1 0)
abbrev xP4:XP:= .c (.ptr 3 0)
abbrev fI:XP:= .row Y0
abbrev X3:XP:= .c (.sl false tI)
abbrev xP7:XP:= .c (.ref 1)
abbrev qY:XP:= .c (.ref 0)
abbrev xP9:XP:= .c (.ptr 2 0)
abbrev Zl:XP:= .c (.sl false Y1)
abbrev ACj:XP:= .agg [.ref 0,.v tI,.ref 1,.ref 2,.ref 3,.v tI,.ref 4,.ref 5,.ref 6,.ref 7,.v .bool]
abbrev Yd:XP:= .c (.ptr 10 0)
abbrev Xw:XP:= .c (.ptr 8 0)
abbrev Ze:XP:= .c (.ptr 9 0)
abbrev bH:XP:= .c (.ptr 18 0)
abbrev iK:XP:= .c (.ptr 4 0)
abbrev Zv:XP:= .c (.ptr 19 0)
abbrev wA:XP:= .c (.sl false Y2)
abbrev re:XP:= .c (.sl false Y14)
abbrev uN:XP:= .c (.gD 326 [(.cons (.sl tI) .unit)])
abbrev lD:XP:= .c (.fi Y11)
abbrev QG:BP:= .mem [.sl true tU,.v tI,.v tI]
abbrev ED:BP:= .sl 9 tI
abbrev AFB:BP:= .mem [.ref 2,.v tI]
abbrev AEu:BP:= .mem [.ref 4,.v tI]
abbrev bE:BP:= .mem [.sl false tI,.v tI]
abbrev VO:BP:= .sl 9 Y2
abbrev N_:BP:= .sl 9 Y3
abbrev VN:BP:= .sl 9 Y6
abbrev VM:BP:= .sl 9 Y7
abbrev VL:BP:= .sl 9 Y9
abbrev Qp:BP:= .sl 9 Y10
abbrev ACk:BP:= .mem [.sl false Y3,.v tI]
abbrev qQ:BP:= .mem [.sl false tI,.v tI,.sl false Y2,.sl false tI,.sl false Y3,.v tI,.sl false Y6,.sl false Y7,.sl false Y9,.sl false Y10,.v .bool]
abbrev ABj:BP:= .mem [.v tI,.v tI,.v tI,.v tI,.v .str]
abbrev qF:BP:= .mem [.v tI,.v tI,.sl false tI,.sl false Y1,.v .bool,.sl false (.sl tI)]
abbrev ADA:BP:= .mem [.v tI,.sl false Y5]
abbrev KG:BP:= .sl 9 Y1
abbrev bc:BP:= .sl 9 Y5
abbrev fY:BP:= .sl 9 (.sl tI)
abbrev AFI:BP:= .mem [.ref 2,.v tI,.ref 3,.ref 4,.ref 5,.v tI,.ref 6,.ref 7,.ref 8,.ref 9,.v .bool]
abbrev w6:BP:= .mem [.ref 11,.v tI,.ref 12,.ref 13,.ref 14,.v tI,.ref 15,.ref 16,.ref 17,.ref 18,.v .bool]
abbrev Ea:BP:= .sl 1 tI
abbrev bf:BP:= .sl 2 Y2
abbrev QN:BP:= .sl 2 Y3
abbrev eV:BP:= .sl 3 Y6
abbrev Wl:BP:= .sl 3 Y7
abbrev PY:BP:= .sl 2 Y9
abbrev OI:BP:= .sl 1 Y10
abbrev LN:BP:= .gone
abbrev ft:BP:= .mem [.ref 0,.v tI,.ref 1,.ref 2,.ref 3,.v tI,.ref 4,.ref 5,.ref 6,.ref 7,.v .bool]
abbrev ib:BP:= .mem [.ref 10,.v tI,.ref 11,.ref 12,.ref 13,.v tI,.ref 14,.ref 15,.ref 16,.ref 17,.v .bool]
abbrev AGF:BP:= .mem [.v tI,.v .str,.v .bool]
abbrev ABx:BP:= .mem [.v tI,.v tI,.v .bool,.v .str]
abbrev AH2:BP:= .mem [.sl false Y1,.sl false Y1,.v tI]
abbrev ADe:BP:= .mem [.ref 2,.ref 3,.v tI]
abbrev ACY:BP:= .mem [.ref 5,.ref 6,.v tI]
abbrev UU:BP:= .sl 1 Y2
abbrev V3:BP:= .sl 1 Y6
abbrev dP:BP:= .sl 1 Y7
abbrev lQ:BP:= .mem [.sl true Y1,.sl true Y1,.v tI]
abbrev AF6:BP:= .mem [.v tI,.v tI,.ref 3,.ref 4,.v .bool,.ref 5]
abbrev AHE:BP:= .mem [.v tI,.v tI,.ref 7,.ref 8,.v .bool,.ref 9]
abbrev AEt:List (Nat×XP):=[(0,.agg [.ref 1,.v tI])]
abbrev wJ:List (Nat×XP):=[(1,MZ),(3,Br)]
abbrev rT:List (Nat×XP):=[(0,qY)]
abbrev AGn:List (Nat×XP):=[(0,.agg [.v tI,.v tI,.v tI,.v tI,.v .str])]
abbrev AHj:List (Nat×XP):=[(2,MZ),(3,Ry),(5,Br),(6,Br)]
abbrev AHk:List (Nat×XP):=[(1,MZ),(2,Ry),(3,xP4),(4,Br)]
abbrev sX:List (Nat×XP):=[(0,ACj)]
abbrev AA4:List (Nat×XP):=[(0,.Jy [.inr [.ref 0,.v tI,.ref 1,.ref 2,.ref 3,.v tI,.ref 4,.ref 5,.ref 6,.ref 7,.v .bool],.inl (.v tI)])]
abbrev AGN:List (Nat×XP):=[(0,.agg [.v tI,.v tI,.v .bool,.v .str])]
abbrev AG9:List (Nat×XP):=[(0,.Jy [.inr [.ref 0,.v tI,.ref 1,.ref 8,.ref 3,.v tI,.ref 4,.ref 5,.ref 6,.ref 7,.v .bool],.inl (.v tI)])]
abbrev AGY:List (Nat×XP):=[(1,Br),(2,MZ),(5,xP7),(6,Br)]
abbrev AHu:List (Nat×XP):=[(0,MZ),(3,Ry),(4,xP9),(5,iK),(6,Br)]
abbrev bP:List BP:=[QG]
abbrev AH8:List BP:=[QG,ED]
abbrev AGP:List BP:=[ED,VO,ED,N_,VN,VM,VL,Qp]
abbrev AHz:List BP:=[QG,bE,ED]
abbrev xI:List BP:=[qQ]
abbrev AH1:List BP:=[bE,ACk]
abbrev AHB:List BP:=[bE,ADA]
abbrev AA_:List BP:=[bE,qF]
abbrev AF5:List BP:=[ED,KG,fY]
abbrev ADP:List BP:=[qF,.mem [.v tI,.v tI,.ref 2,.ref 3,.v .bool,.ref 4],ED,KG,fY,.mem [.v tI,.v tI,.ref 6,.ref 7,.v .bool,.ref 8],ED,KG,fY]
abbrev km:List BP:=[qQ,AFI,ED,VO,ED,N_,VN,VM,VL,Qp,w6,ED,VO,ED,N_,VN,VM,VL,Qp]
abbrev ACB:List BP:=[Ea,bf,Ea,QN,eV,Wl,PY,OI]
abbrev AII:List BP:=[Ea,UU,Ea,QN,V3,dP,PY,OI]
abbrev tA:List BP:=[Ea,UU,Ea,QN,V3,Wl,PY,OI,ft,ib,ED,VO,ED,N_,VN,VM,VL,Qp,lQ,.mem [.v tI,.sl true Y5]]
abbrev AH5:List BP:=[Ea,bf,Ea,QN,eV,Wl,PY,OI,.mem [.ref 0,.v tI,.ref 1,.ref 9,.ref 3,.v tI,.ref 4,.ref 5,.ref 6,.ref 7,.v .bool],ED,ABj,.mem [.ref 12,.v tI,.ref 13,.ref 14,.ref 15,.v tI,.ref 16,.ref 17,.ref 18,.ref 19,.v .bool],ED,VO,ED,N_,VN,VM,VL,Qp]
abbrev AHf:List BP:=[UU,ADe,KG,KG,ACY,KG,KG,UU]
abbrev ADi:List BP:=[bE,ED]
abbrev AHR:List BP:=[QG,AFI,ED,VO,ED,N_,VN,VM,VL,Qp,w6,ED,VO,ED,N_,VN,VM,VL,Qp,.mem [.ref 20,.v tI],ED,ED]
abbrev tH:List BP:=[QG,ADe,KG,KG,ACY,KG,KG]
abbrev tY:List BP:=[QG,bE,AF6,ED,KG,fY,AHE,ED,KG,fY]
abbrev AGZ:List BP:=[Ea,UU,Ea,.sl 1 Y3,V3,dP,.sl 1 Y9,OI]
abbrev EZ:Bn:=⟨[(0,sQ)],[]⟩
abbrev yA:Bn:=⟨[(0,.c (.sl true tU))],[]⟩
abbrev fB:Bn:=⟨[(0,MZ)],bP⟩
abbrev G4:Bn:=⟨[(0,Br)],[]⟩
abbrev jq:Bn:=⟨[(0,Br)],bP⟩
abbrev sB:Bn:=⟨[(0,MZ),(1,Br)],bP⟩
abbrev AAZ:Bn:=⟨AEt,AH8⟩
abbrev AAC:Bn:=⟨[(0,Br),(1,Br),(2,Br)],[]⟩
abbrev qa:Bn:=⟨[(0,fI)],[]⟩
abbrev cQ:Bn:=⟨[(0,fI),(1,X3)],[]⟩
abbrev qM:Bn:=⟨[(0,.agg [.v tI,.v tI,.ref 0])],[.sl 9 Y8]⟩
abbrev kH:Bn:=⟨[(0,Br),(1,Br)],[]⟩
abbrev jo:Bn:=⟨[(0,X3),(1,Br)],[]⟩
abbrev dN:Bn:=⟨rT,[ED]⟩
abbrev aK:Bn:=⟨[(0,MZ),(1,fI)],bP⟩
abbrev AAX:Bn:=⟨[(0,xP7)],AH8⟩
abbrev qo:Bn:=⟨[(0,.row Y4)],[]⟩
abbrev mv:Bn:=⟨[(0,MZ),(1,.row Y11)],bP⟩
abbrev qb:Bn:=⟨AGn,bP⟩
abbrev AAO:Bn:=⟨[(0,Zl),(1,Br)],[]⟩
abbrev qx:Bn:=⟨[(0,Zl)],[]⟩
abbrev kf:Bn:=⟨[(0,.row Y2)],[]⟩
abbrev gd:Bn:=⟨[(0,.row Y11)],[]⟩
abbrev AAe:Bn:=⟨wJ,xI⟩
abbrev AAJ:Bn:=⟨[(0,fI),(1,.row Y4)],[]⟩
abbrev AAr:Bn:=⟨[(0,fI),(1,.row Y6)],[]⟩
abbrev mo:Bn:=⟨[(0,.row Y7)],[]⟩
abbrev m_:Bn:=⟨[(0,fI),(1,.row Y7)],[]⟩
abbrev AAW:Bn:=⟨[(2,MZ),(3,Ry),(5,Br)],AA_⟩
abbrev pq:Bn:=⟨[(0,.row Y9)],[]⟩
abbrev AAc:Bn:=⟨[(0,.agg [.v tI,.v tI,.ref 0,.ref 1,.v .bool,.ref 2])],AF5⟩
abbrev VC:Bn:=⟨[(0,ACj),(1,.row Y12)],ACB⟩
abbrev jM:Bn:=⟨[(0,.row Y11),(1,Br)],[]⟩
abbrev AAK:Bn:=⟨[(0,.row Y2),(1,.row Y1)],[]⟩
abbrev kE:Bn:=⟨[(0,.Jy [.inr [.ref 0,.ref 1,.v tI],.inl (.v .bool)])],[KG,KG]⟩
abbrev gu:Bn:=⟨AA4,ACB⟩
abbrev qR:Bn:=⟨rT,[KG]⟩
abbrev mW:Bn:=⟨[(0,.row Y2),(1,Br)],[]⟩
abbrev AAR:Bn:=⟨[(1,Br),(2,MZ),(4,Ry),(6,iK),(7,Br)],[AH2,ADe,KG,KG,ACY,KG,KG]⟩
abbrev AAV:Bn:=⟨[(0,.Jy [.inr [.v tI,.v tI,.v .bool,.v .str],.inl (.v .bool)])],[]⟩
abbrev AAE:Bn:=⟨[(0,.Jy [.inr [.v tI,.ref 0],.inl (.v .bool)])],[bc]⟩
abbrev nH:Bn:=⟨[(0,.Jy [.inr [.v tI,.v tI,.ref 0,.ref 1,.v .bool,.ref 2],.inl (.v .bool)])],AF5⟩
abbrev AAb:Bn:=⟨AA4,AII⟩
abbrev rE:Bn:=⟨[(0,X3),(1,X3)],[]⟩
abbrev rB:Bn:=⟨sX,ACB⟩
abbrev AAB:Bn:=⟨[(0,.Jy [.inr [.ref 0,.v tI],.inl (.v .bool)])],[N_]⟩
abbrev AGT:Bn:=⟨[(0,MZ),(4,Ry),(6,Yd),(10,Zv),(12,.c (.ptr 28 0)),(13,.c (.ref 37)),(14,Br),(15,Br)],[QG,AFI,ED,VO,ED,N_,VN,VM,VL,Qp,w6,ED,VO,ED,N_,VN,VM,VL,Qp,.mem [.ref 20,.v tI,.ref 21,.ref 22,.ref 23,.v tI,.ref 24,.ref 25,.ref 26,.ref 27,.v .bool],LN,LN,LN,LN,LN,LN,LN,LN,.mem [.ref 29,.v tI,.ref 30,.ref 31,.ref 32,.v tI,.ref 33,.ref 34,.ref 35,.ref 36,.v .bool],Ea,UU,Ea,QN,V3,dP,PY,OI,.sl 9 Y12]⟩
abbrev AAM:Bn:=⟨AGN,bP⟩
abbrev AAA:Bn:=⟨[(0,.agg [.ref 1,.ref 2,.v tI])],[QG,KG,KG]⟩
abbrev AAw:Bn:=⟨[(0,.agg [.v tI,.v tI,.ref 1,.ref 2,.v .bool,.ref 3])],[QG,ED,KG,fY]⟩
abbrev AAi:Bn:=⟨[(0,lD),(1,Br)],[]⟩
abbrev jK:Bn:=⟨[(0,lD)],[]⟩
abbrev AAx:Bn:=⟨rT,[Qp]⟩
def s8:SQ:=mk Tryz.func8 ⟨[(0,.c (.sl false tU))],[]⟩ EZ cg [] [] []
def s46:SQ:=mk Tryz.func46 yA fB Rf [] [] [⟨3,⟨[(0,.c (.sl true tU)),(3,Br),(4,Br)],[]⟩,LF⟩]
abbrev ri:Bn:=⟨[(0,.c (.sl false tU)),(1,Br),(2,Br)],[]⟩
abbrev AEU:Bn:=G4
def AIF:SQ:=mk Tryz.func256 ri AEU Ov [] [] []
def AKC:SQ:=mk Tryz.func159 fB jq Ij [] [(2,[0]),(3,[0]),(4,[0])] []
abbrev ld:Bn:=sB
abbrev o62:Bn:=jq
def YK:SQ:=mk Tryz.func62 ld o62 AF [AKC] [] []
abbrev d_:Bn:=sB
abbrev pM:Bn:=⟨[(0,sQ)],bP⟩
def eO:SQ:=mk Tryz.func171 d_ pM Aj [YK] [] []
def AID:SQ:=mk Tryz.func120 fB AAZ IH [YK,eO] [(6,[1,2])] [⟨4,⟨[(0,MZ),(2,Ry),(3,xP4),(4,Br),(5,Br)],[QG,AFB,ED,AEu,ED]⟩,Fv⟩] (hJ:= .cons (fun _=>rfl) (fun n v ω=>by rcases ω with _|⟨_|_,_|⟨_|_,_⟩⟩<;>kernel_rfl) (.nil))
def eD:SQ:=mk Tryz.func49 AAC EZ BR [] [] []
abbrev i11:Bn:=qa
abbrev o11:Bn:=EZ
def s11:SQ:=mk Tryz.func11 i11 o11 EH [eD] [] [⟨4,⟨wJ,[bE]⟩,IV⟩]
def AG4:SQ:=mk Tryz.func263 ⟨[(0,X3),(1,Br),(2,Br)],[]⟩ EZ Qw [eD] [] [⟨2,⟨[(0,X3),(1,Br),(2,Br),(7,Br)],[]⟩,JR⟩]
def l7:SQ:=mk Tryz.func160 cQ EZ EM [s11,AG4] [] []
def AGO:SQ:=mk Tryz.func264 cQ G4 O8 [] [(6,[0,1])] [⟨4,⟨[(1,X3),(2,MZ),(5,xP7),(6,Br),(7,Br)],[bE,.sl 9 .bool]⟩,KP⟩]
abbrev ABC:Bn:=cQ
abbrev AGD:Bn:=EZ
def YO:SQ:=mk Tryz.func161 ABC AGD C_ [l7,AGO] [(1,[0])] []
abbrev AJQ:Bn:=⟨[],[]⟩
abbrev AKy:Bn:=qM
def AGC:SQ:=mk Tryz.func386 AJQ AKy Q7 [] [] []
abbrev mF:Bn:=qa
abbrev AA3:Bn:=⟨[(0,.Jy [.inr [.ref 0,.v tI,.ref 1,.ref 2,.ref 3,.v tI,.ref 4,.ref 5,.ref 6,.ref 7,.v .bool],.inl (.v .bool)])],AGP⟩
def AHx:PQ:=⟨mF,AA3,(mF.un E8)⟩
def AFu:Xk:=⟨T,Te (SP.l [s11,AGC]),Cy [(3,[0,1]),(4,[0,4])]⟩
def ACP:List (Lp AA3):=[]
def AS(ω:List Bool):Prop:= ∀(n:Nat) (v:mF.V),FQ AFu AHx Tryz.f327 (Ng 0 ACP n) ω v=mF.un (E8) v
theorem ABP:AS []:=by delta AS;intros;kernel_rfl
theorem ABA:AS (false::[]):=by delta AS;intros;kernel_rfl
theorem AEZ:AS (false::false::[]):=by delta AS;intros;kernel_rfl
theorem ADk:AS (false::false::false::[]):=by delta AS;intros;kernel_rfl
theorem AD_:AS (false::false::false::false::[]):=by delta AS;intros;kernel_rfl
theorem ADL:AS (false::false::false::false::false::[]):=by delta AS;intros;kernel_rfl
theorem AEM:AS (false::false::false::false::false::false::[]):=by delta AS;intros;kernel_rfl
theorem AEx:AS (false::false::false::false::false::false::false::[]):=by delta AS;intros;kernel_rfl
theorem ABt(ω:List Bool):AS (false::false::false::false::false::false::false::false::ω):=by delta AS;intros;kernel_rfl
theorem yz(ω:List Bool):AS (false::false::false::false::false::false::false::true::ω):=by delta AS;intros;kernel_rfl
theorem vN:AS (false::false::false::false::false::false::true::[]):=by delta AS;intros;kernel_rfl
theorem uH(ω:List Bool):AS (false::false::false::false::false::false::true::false::ω):=by delta AS;intros;kernel_rfl
theorem wW(ω:List Bool):AS (false::false::false::false::false::false::true::true::ω):=by delta AS;intros;kernel_rfl
theorem xu:AS (false::false::false::false::false::true::[]):=by delta AS;intros;kernel_rfl
theorem vc(ω:List Bool):AS (false::false::false::false::false::true::false::ω):=by delta AS;intros;kernel_rfl
theorem vP(ω:List Bool):AS (false::false::false::false::false::true::true::ω):=by delta AS;intros;kernel_rfl
theorem yL:AS (false::false::false::false::true::[]):=by delta AS;intros;kernel_rfl
theorem vy:AS (false::false::false::false::true::false::[]):=by delta AS;intros;kernel_rfl
theorem wP(ω:List Bool):AS (false::false::false::false::true::false::false::ω):=by delta AS;intros;kernel_rfl
theorem wa(ω:List Bool):AS (false::false::false::false::true::false::true::ω):=by delta AS;intros;kernel_rfl
theorem wk(ω:List Bool):AS (false::false::false::false::true::true::ω):=by delta AS;intros;kernel_rfl
theorem xn:AS (false::false::false::true::[]):=by delta AS;intros;kernel_rfl
theorem x_:AS (false::false::false::true::false::[]):=by delta AS;intros;kernel_rfl
theorem wG(ω:List Bool):AS (false::false::false::true::false::false::ω):=by delta AS;intros;kernel_rfl
theorem vo(ω:List Bool):AS (false::false::false::true::false::true::ω):=by delta AS;intros;kernel_rfl
theorem tc(ω:List Bool):AS (false::false::false::true::true::ω):=by delta AS;intros;kernel_rfl
theorem td:AS (false::false::true::[]):=by delta AS;intros;kernel_rfl
theorem wR:AS (false::false::true::false::[]):=by delta AS;intros;kernel_rfl
theorem wo:AS (false::false::true::false::false::[]):=by delta AS;intros;kernel_rfl
theorem vz(ω:List Bool):AS (false::false::true::false::false::false::ω):=by delta AS;intros;kernel_rfl
theorem w8(ω:List Bool):AS (false::false::true::false::false::true::ω):=by delta AS;intros;kernel_rfl
theorem zA(ω:List Bool):AS (false::false::true::false::true::ω):=by delta AS;intros;kernel_rfl
theorem yp(ω:List Bool):AS (false::false::true::true::ω):=by delta AS;intros;kernel_rfl
theorem zF:AS (false::true::[]):=by delta AS;intros;kernel_rfl
theorem wD:AS (false::true::false::[]):=by delta AS;intros;kernel_rfl
theorem vp:AS (false::true::false::false::[]):=by delta AS;intros;kernel_rfl
theorem tg(ω:List Bool):AS (false::true::false::false::false::ω):=by delta AS;intros;kernel_rfl
theorem ye(ω:List Bool):AS (false::true::false::false::true::ω):=by delta AS;intros;kernel_rfl
theorem xd(ω:List Bool):AS (false::true::false::true::ω):=by delta AS;intros;kernel_rfl
theorem tR(ω:List Bool):AS (false::true::true::ω):=by delta AS;intros;kernel_rfl
theorem zc:AS (true::[]):=by delta AS;intros;kernel_rfl
theorem wX:AS (true::false::[]):=by delta AS;intros;kernel_rfl
theorem tW:AS (true::false::false::[]):=by delta AS;intros;kernel_rfl
theorem uF:AS (true::false::false::false::[]):=by delta AS;intros;kernel_rfl
theorem xV:AS (true::false::false::false::false::[]):=by delta AS;intros;kernel_rfl
theorem tO:AS (true::false::false::false::false::false::[]):=by delta AS;intros;kernel_rfl
theorem uC:AS (true::false::false::false::false::false::false::[]):=by delta AS;intros;kernel_rfl
theorem xy:AS (true::false::false::false::false::false::false::false::[]):=by delta AS;intros;kernel_rfl
theorem xW(ω:List Bool):AS (true::false::false::false::false::false::false::false::false::ω):=by delta AS;intros;kernel_rfl
theorem wu(ω:List Bool):AS (true::false::false::false::false::false::false::false::true::ω):=by delta AS;intros;kernel_rfl
theorem uJ:AS (true::false::false::false::false::false::false::true::[]):=by delta AS;intros;kernel_rfl
theorem yT(ω:List Bool):AS (true::false::false::false::false::false::false::true::false::ω):=by delta AS;intros;kernel_rfl
theorem uR(ω:List Bool):AS (true::false::false::false::false::false::false::true::true::ω):=by delta AS;intros;kernel_rfl
theorem vv:AS (true::false::false::false::false::false::true::[]):=by delta AS;intros;kernel_rfl
theorem vJ(ω:List Bool):AS (true::false::false::false::false::false::true::false::ω):=by delta AS;intros;kernel_rfl
theorem sg(ω:List Bool):AS (true::false::false::false::false::false::true::true::ω):=by delta AS;intros;kernel_rfl
theorem vR:AS (true::false::false::false::false::true::[]):=by delta AS;intros;kernel_rfl
theorem xZ:AS (true::false::false::false::false::true::false::[]):=by delta AS;intros;kernel_rfl
theorem vT(ω:List Bool):AS (true::false::false::false::false::true::false::false::ω):=by delta AS;intros;kernel_rfl
theorem tG(ω:List Bool):AS (true::false::false::false::false::true::false::true::ω):=by delta AS;intros;kernel_rfl
theorem xB(ω:List Bool):AS (true::false::false::false::false::true::true::ω):=by delta AS;intros;kernel_rfl
theorem wS:AS (true::false::false::false::true::[]):=by delta AS;intros;kernel_rfl
theorem yP:AS (true::false::false::false::true::false::[]):=by delta AS;intros;kernel_rfl
theorem xe(ω:List Bool):AS (true::false::false::false::true::false::false::ω):=by delta AS;intros;kernel_rfl
theorem tZ(ω:List Bool):AS (true::false::false::false::true::false::true::ω):=by delta AS;intros;kernel_rfl
theorem w5(ω:List Bool):AS (true::false::false::false::true::true::ω):=by delta AS;intros;kernel_rfl
theorem sm:AS (true::false::false::true::[]):=by delta AS;intros;kernel_rfl
theorem wy:AS (true::false::false::true::false::[]):=by delta AS;intros;kernel_rfl
theorem zu:AS (true::false::false::true::false::false::[]):=by delta AS;intros;kernel_rfl
theorem vt(ω:List Bool):AS (true::false::false::true::false::false::false::ω):=by delta AS;intros;kernel_rfl
theorem wL(ω:List Bool):AS (true::false::false::true::false::false::true::ω):=by delta AS;intros;kernel_rfl
theorem vL(ω:List Bool):AS (true::false::false::true::false::true::ω):=by delta AS;intros;kernel_rfl
theorem zM(ω:List Bool):AS (true::false::false::true::true::ω):=by delta AS;intros;kernel_rfl
theorem zX:AS (true::false::true::[]):=by delta AS;intros;kernel_rfl
theorem xU:AS (true::false::true::false::[]):=by delta AS;intros;kernel_rfl
theorem uE:AS (true::false::true::false::false::[]):=by delta AS;intros;kernel_rfl
theorem tJ(ω:List Bool):AS (true::false::true::false::false::false::ω):=by delta AS;intros;kernel_rfl
theorem yr(ω:List Bool):AS (true::false::true::false::false::true::ω):=by delta AS;intros;kernel_rfl
theorem sc(ω:List Bool):AS (true::false::true::false::true::ω):=by delta AS;intros;kernel_rfl
theorem zU(ω:List Bool):AS (true::false::true::true::ω):=by delta AS;intros;kernel_rfl
theorem uI:AS (true::true::[]):=by delta AS;intros;kernel_rfl
theorem uf:AS (true::true::false::[]):=by delta AS;intros;kernel_rfl
theorem v_:AS (true::true::false::false::[]):=by delta AS;intros;kernel_rfl
theorem zC(ω:List Bool):AS (true::true::false::false::false::ω):=by delta AS;intros;kernel_rfl
theorem zB(ω:List Bool):AS (true::true::false::false::true::ω):=by delta AS;intros;kernel_rfl
theorem vg(ω:List Bool):AS (true::true::false::true::ω):=by delta AS;intros;kernel_rfl
theorem yx(ω:List Bool):AS (true::true::true::ω):=by delta AS;intros;kernel_rfl
theorem AJz(n:Nat)(ω:List Bool)(v:mF.V):FQ AFu AHx Tryz.f327 (Ng 0 ACP n) ω v=mF.un (E8) v:=(AE ABP (AE ABA (AE AEZ (AE ADk (AE AD_ (AE ADL (AE AEM (AE AEx ABt yz) (AE vN uH wW)) (AE xu vc vP)) (AE yL (AE vy wP wa) wk)) (AE xn (AE x_ wG vo) tc)) (AE td (AE wR (AE wo vz w8) zA) yp)) (AE zF (AE wD (AE vp tg ye) xd) tR)) (AE zc (AE wX (AE tW (AE uF (AE xV (AE tO (AE uC (AE xy xW wu) (AE uJ yT uR)) (AE vv vJ sg)) (AE vR (AE xZ vT tG) xB)) (AE wS (AE yP xe tZ) w5)) (AE sm (AE wy (AE zu vt wL) vL) zM)) (AE zX (AE xU (AE uE tJ yr) sc) zU)) (AE uI (AE uf (AE v_ zC zB) vg) yx))) ω n v
def AKW:SQ:=mk Tryz.func327 mF AA3 E8 [s11,AGC] [(3,[0,1]),(4,[0,4])] ACP (hJ:= .nil) (he:=AJz Ac)
abbrev cO:Bn:=kH
abbrev n0:Bn:=G4
def kM:SQ:=mk Tryz.func330 cO n0 DR [] [] []
abbrev Xc:Bn:=jo
abbrev kB:Bn:=EZ
def a_:SQ:=mk Tryz.func163 Xc kB B6 [] [] [⟨2,⟨[(0,X3),(1,Br),(5,Br)],[]⟩,Hh⟩]
def lu:SQ:=mk Tryz.func329 jo dN Fp [a_] [] [⟨4,⟨[(0,X3),(1,Br),(5,qY),(6,sQ),(7,Br)],[ED]⟩,E_⟩]
abbrev AJn:Bn:=⟨[(0,MZ),(1,X3)],bP⟩
abbrev AJa:Bn:=jq
def fy:SQ:=mk Tryz.func121 AJn AJa Bc [YK] [] []
abbrev qm:Bn:=aK
abbrev AEf:Bn:=AAX
def qP:SQ:=mk Tryz.func257 qm AEf DG [YK,fy,eO,lu,kM] [] [⟨4,⟨[(0,MZ),(3,Ry),(5,.c (.ref 2)),(6,Br),(7,Br)],AHz⟩,Fy⟩]
def ABB:SQ:=mk Tryz.func334 aK AAX FD [YO,qP,lu] [] [⟨3,⟨[(3,Ry),(5,.c (.ref 2)),(6,Br)],AHz⟩,HL⟩]
def AI0:SQ:=mk Tryz.func387 ⟨[(0,X3)],[]⟩ G4 H_ [AG4] [] [⟨5,⟨[(0,X3),(3,Br),(4,Br)],[]⟩,HT⟩]
def tS:SQ:=mk Tryz.func168 qo G4 Gi [] [] [⟨2,⟨wJ,[ACk]⟩,Fa⟩]
abbrev XW:Bn:=⟨[(0,.row Y4),(1,Br)],[]⟩
abbrev kd:Bn:=dN
def je:SQ:=mk Tryz.func346 XW kd Bm [eD] [] []
def AIo:SQ:=mk Tryz.func388 mv qb Ib [YK,YO,eO,kM,je] [(18,[1,2,3])] [⟨16,⟨[(0,MZ),(3,Ry),(4,xP9),(5,xP4),(7,Br),(8,Br),(9,Br)],[QG,qQ,ABj,qF]⟩,D3⟩]
def AEC:SQ:=mk Tryz.func391 ⟨[(0,MZ),(1,.c (.sl false .str))],bP⟩ ⟨[(0,.c (.v .str))],bP⟩ Ee [YK] [] []
def ALC:SQ:=mk Tryz.func412 kH G4 Nu [] [] []
def AJ0:SQ:=mk Tryz.func389 mv qb EJ [YK,eO,je,AEC,ALC] [] []
def AIt:SQ:=mk Tryz.func328 mv qb Kg [YK,tS,eO,ABB,AI0,AIo,AJ0] [(16,[1]),(27,[1,2])] []
def mJ:SQ:=mk Tryz.func169 G4 EZ E6 [eD] [] []
abbrev XK:Bn:=G4
abbrev kh:Bn:=G4
def a8:SQ:=mk Tryz.func170 XK kh Bu [mJ] [] []
def yo:SQ:=mk Tryz.func267 ⟨[(0,.row Y1)],[]⟩ EZ I_ [eD,mJ,a8] [(1,[0])] []
def AJw:SQ:=mk Tryz.func265 AAO EZ O5 [yo] [] [⟨4,⟨[(0,Zl),(5,Br)],[]⟩,IP⟩]
def AHG:SQ:=mk Tryz.func266 qx EZ Ri [] [] [⟨2,⟨[(0,Zl),(3,Br)],[]⟩,EF⟩]
def lC:SQ:=mk Tryz.func162 kf EZ EO [eD,AJw,AHG] [] []
def AJU:SQ:=mk Tryz.func164 kf EZ UR [] [] []
def s63:SQ:=mk Tryz.func63 gd EZ OQ [s11,l7,YO,lC,a_,AJU] [] [⟨4,AAe,GR⟩]
abbrev ACX:Bn:=AAJ
abbrev AFf:Bn:=EZ
def pO:SQ:=mk Tryz.func165 ACX AFf I5 [s11,eD,YO,mJ,a8] [] [⟨5,⟨AHj,AH1⟩,Hp⟩]
abbrev AE_:Bn:=AAr
abbrev AF7:Bn:=EZ
def qO:SQ:=mk Tryz.func166 AE_ AF7 E9 [s11,eD,l7,YO] [(8,[0,1,2])] [⟨5,⟨AHj,AHB⟩,IB⟩]
abbrev XG:Bn:=G4
abbrev ji:Bn:=G4
def zR:SQ:=mk Tryz.func337 XG ji Ep [mJ] [] []
def AGp:SQ:=mk Tryz.func268 mo G4 L6 [zR] [] []
def o0:SQ:=mk Tryz.func167 m_ EZ GG [s11,eD,l7,a8,AHG,yo,AGp] [(6,[0,1]),(11,[0,1]),(15,[0,1])] [⟨4,AAW,Gf⟩,⟨9,⟨[(2,MZ),(3,Ry),(6,Br)],AA_⟩,FM⟩]
def s64:SQ:=mk Tryz.func64 gd EZ NU [pO,qO,o0,tS] [(7,[0]),(13,[0,1])] [⟨5,⟨[(1,MZ),(3,Br),(4,Br)],xI⟩,EN⟩,⟨10,⟨[(1,MZ),(3,Br),(5,Br)],xI⟩,DB⟩]
def s65:SQ:=mk Tryz.func65 pq EZ JU [eD] [] []
def s66:SQ:=mk Tryz.func66 gd EZ QT [mJ,a8] [(7,[0,1])] [⟨4,AAe,G9⟩]
def s19:SQ:=mk Tryz.func19 gd EZ HQ [s63,s64,s65,s66] [] []
def AKa:SQ:=mk Tryz.func274 ⟨[(0,.row Y12)],[]⟩ ⟨AGn,[]⟩ Sx [] [] []
def AJL:SQ:=mk Tryz.func189 ⟨[(0,.row Y12)],[]⟩ EZ Rx [eD,AKa] [(1,[0])] []
abbrev Xi:Bn:=qo
abbrev kO:Bn:=⟨[(0,.agg [.ref 0,.v tI])],[N_]⟩
def oW:SQ:=mk Tryz.func184 Xi kO D7 [] [] [⟨3,⟨AHk,[ACk,AFB,N_,AEu,N_]⟩,Jz⟩]
abbrev ZQ:Bn:=kf
abbrev lR:Bn:=⟨[(0,.agg [.ref 0,.ref 1,.v tI])],[KG,KG]⟩
def o9:SQ:=mk Tryz.func185 ZQ lR C4 [] [(1,[0])] [] (he:=fun ω v=>by rcases ω with _|⟨_|_,_|⟨_|_,_⟩⟩<;>kernel_rfl)
abbrev XX:Bn:=⟨[(0,.row Y6)],[]⟩
abbrev kc:Bn:=⟨[(0,.agg [.v tI,.ref 0])],[bc]⟩
def pD:SQ:=mk Tryz.func186 XX kc Cj [] [] [⟨3,⟨AHk,[ADA,.mem [.v tI,.ref 2],bc,.mem [.v tI,.ref 4],bc]⟩,Gl⟩]
abbrev UF:Bn:=mo
abbrev g9:Bn:=AAc
def AE4:PQ:=⟨UF,g9,(UF.un Ck)⟩
def AFC:Xk:=⟨T,Te (SP.l ([]:List SQ)),Cy [(1,[0,1]),(5,[0,1,2,3,4,6,7])]⟩
def zO:List (Lp g9):=[⟨3,⟨[(1,MZ),(2,Ry),(3,.c (.ptr 5 0)),(4,Br)],ADP⟩,FN⟩]
abbrev lH:Bn:=⟨[(1,MZ),(2,Ry),(3,.c (.ptr 5 0)),(4,Br)],ADP⟩
theorem ACV(n:Nat)(v:lH.V)(ω:List Bool):GL AFC AE4 Tryz.f187 (Ng 0 zO n) 3 ω (lH.st 40 v)=lH.un (NC (FN n)) v:=by rcases ω with _|⟨_|_,_|⟨_|_,_|⟨_|_,_⟩⟩⟩<;>kernel_rfl
def CO(ω:List Bool):Prop:= ∀(n:Nat) (v:UF.V),FQ AFC AE4 Tryz.f187 (Ng 0 zO n) ω v=UF.un (Jk (FN n)) v
theorem ACG:CO []:=by delta CO;intros;kernel_rfl
theorem ADp:CO (false::[]):=by delta CO;intros;kernel_rfl
theorem ACJ:CO (false::false::[]):=by delta CO;intros;kernel_rfl
theorem ABU(ω:List Bool):CO (false::false::false::ω):=by delta CO;intros;kernel_rfl
theorem AB1:CO (false::false::true::[]):=by delta CO;intros;kernel_rfl
theorem AAy(ω:List Bool):CO (false::false::true::false::ω):=by delta CO;intros;kernel_rfl
theorem AEW(ω:List Bool):CO (false::false::true::true::ω):=by delta CO;intros;kernel_rfl
theorem AD4:CO (false::true::[]):=by delta CO;intros;kernel_rfl
theorem ADS(ω:List Bool):CO (false::true::false::ω):=by delta CO;intros;kernel_rfl
theorem uZ:CO (false::true::true::[]):=by delta CO;intros;kernel_rfl
theorem wB(ω:List Bool):CO (false::true::true::false::ω):=by delta CO;intros;kernel_rfl
theorem xo:CO (false::true::true::true::[]):=by delta CO;intros;kernel_rfl
theorem xO(ω:List Bool):CO (false::true::true::true::false::ω):=by delta CO;intros;kernel_rfl
theorem vK(ω:List Bool):CO (false::true::true::true::true::ω):=by delta CO;intros;kernel_rfl
theorem wm:CO (true::[]):=by delta CO;intros;kernel_rfl
theorem wT:CO (true::false::[]):=by delta CO;intros;kernel_rfl
theorem wj:CO (true::false::false::[]):=by delta CO;intros;kernel_rfl
theorem uc(ω:List Bool):CO (true::false::false::false::ω):=by delta CO;intros;kernel_rfl
theorem si(ω:List Bool):CO (true::false::false::true::ω):=by delta CO;intros;kernel_rfl
theorem ur:CO (true::false::true::[]):=by delta CO;intros;kernel_rfl
theorem yu(ω:List Bool):CO (true::false::true::false::ω):=by delta CO;intros;kernel_rfl
theorem uY:CO (true::false::true::true::[]):=by delta CO;intros;kernel_rfl
theorem vx(ω:List Bool):CO (true::false::true::true::false::ω):=by delta CO;intros;kernel_rfl
theorem xK(ω:List Bool):CO (true::false::true::true::true::ω):=by delta CO;intros;kernel_rfl
theorem zg:CO (true::true::[]):=by delta CO;intros;kernel_rfl
theorem w_(ω:List Bool):CO (true::true::false::ω):=by delta CO;intros;kernel_rfl
theorem zd:CO (true::true::true::[]):=by delta CO;intros;kernel_rfl
theorem yD(ω:List Bool):CO (true::true::true::false::ω):=by delta CO;intros;kernel_rfl
theorem s9(ω:List Bool):CO (true::true::true::true::ω):=by delta CO;intros;kernel_rfl
theorem ALA(n:Nat)(ω:List Bool)(v:UF.V):FQ AFC AE4 Tryz.f187 (Ng 0 zO n) ω v=UF.un (Jk (FN n)) v:=(AE ACG (AE ADp (AE ACJ ABU (AE AB1 AAy AEW)) (AE AD4 ADS (AE uZ wB (AE xo xO vK)))) (AE wm (AE wT (AE wj uc si) (AE ur yu (AE uY vx xK))) (AE zg w_ (AE zd yD s9)))) ω n v
def oY:SQ:=mk Tryz.func187 UF g9 Ck [] [(1,[0,1]),(5,[0,1,2,3,4,6,7])] zO (hJ:= .cons (fun _=>rfl) ACV (.nil)) (he:=ALA Ac)
abbrev Zz:Bn:=pq
abbrev lW:Bn:=qM
def xr:SQ:=mk Tryz.func188 Zz lW Bb [] [] []
abbrev yG:Bn:=gd
abbrev o86:Bn:=⟨sX,AGP⟩
def r6:PQ:=⟨yG,o86,(yG.un Ki)⟩
def C86:Xk:=⟨T,Te (SP.l [oW,o9,pD,oY,xr]),Cy [(1,[0,1]),(5,[0,1,2,3,4,5,6,7,8,9,11,13,14,15,16,17,18]),(9,[0,1,2,3,4,5,6,7,8,9,11,12,13,14,16,17,18]),(13,[0,1,2,3,4,5,6,7,8,9,11,12,13,14,15,17,18]),(17,[0,1,2,3,4,5,6,7,8,9,11,12,13,14,15,16,18])]⟩
def ph:List (Lp o86):=[⟨3,⟨[(1,MZ),(2,Ry),(3,Yd),(4,Br)],km⟩,Bk⟩,⟨7,⟨[(1,MZ),(2,Ry),(3,Yd),(5,Br)],km⟩,Bw⟩,⟨11,⟨[(1,MZ),(2,Ry),(3,Yd),(6,Br)],km⟩,Bi⟩,⟨15,⟨[(1,MZ),(2,Ry),(3,Yd),(7,Br)],km⟩,Bg⟩]
abbrev gC:Bn:=⟨[(1,MZ),(2,Ry),(3,Yd),(4,Br)],km⟩
abbrev gT:Bn:=⟨[(1,MZ),(2,Ry),(3,Yd),(5,Br)],km⟩
abbrev ZZ:Bn:=⟨[(1,MZ),(2,Ry),(3,Yd),(6,Br)],km⟩
abbrev ZW:Bn:=⟨[(1,MZ),(2,Ry),(3,Yd),(7,Br)],km⟩
theorem AGa(WB:AAj→Option Dg)(Zy:AAq→Option Hn)(Vf:AAn→Option DZ)(Z5:AAY→Option EG)(Zw:ABc→Option Gh)(n:Nat)(v:gC.V)(ω:List Bool):GL ⟨T,Te [(184,⟨Xi,kO,Xi.un WB⟩),(185,⟨ZQ,lR,ZQ.un Zy⟩),(186,⟨XX,kc,XX.un Vf⟩),(187,⟨UF,g9,UF.un Z5⟩),(188,⟨Zz,lW,Zz.un Zw⟩)],Cy [(1,[0,1]),(5,[0,1,2,3,4,5,6,7,8,9,11,13,14,15,16,17,18]),(9,[0,1,2,3,4,5,6,7,8,9,11,12,13,14,16,17,18]),(13,[0,1,2,3,4,5,6,7,8,9,11,12,13,14,15,17,18]),(17,[0,1,2,3,4,5,6,7,8,9,11,12,13,14,15,16,18])]⟩ r6 Tryz.f86 (Ng 0 ph n) 3 ω (gC.st 104 v)=gC.un (fun(t4:Int) (AH:AAD) (AL:Int) (AU:AAH) (Df:AAD) (FK:AAG) (Eh:Int) (DU:AAP) (DN:AAQ) (EK:AAS) (Ft:AAL) (DL:Bool) (Aq:Int) (Ds:Int) (FL:Bool) (b2:AAD) (b3:AAH) (b4:AAD) (b5:AAG) (b6:AAP) (b7:AAQ) (b8:AAS) (b9:AAL) (Da:Int) (Ez:Int) (Cv:Bool) (F6:AAD) (Db:AAH) (Fg:AAD) (FV:AAG) (D8:AAP) (ER:AAQ) (Em:AAS) (T0:AAL)=>
 cond ((decide (t4<(AU.length:Int))))
  (if(0:Int)≤t4∧t4<(AU.length:Int)then(
  (Zy ((AU.getD (t4.toNat) ([],[],0,())).1,(AU.getD (t4.toNat) ([],[],0,())).2.1,(AU.getD (t4.toNat) ([],[],0,())).2.2.1,())).bind fun mG=>
  if Db.length+1≤Go.M.DE then(
  (Bk n) (AX (t4+1)) AH AL AU Df FK Eh DU DN EK Ft DL Aq Ds FL b2 b3 b4 b5 b6 b7 b8 b9 Da Ez Cv F6 (Db++[(mG.2.1,mG.2.2.1,mG.1.1.2.2.1,())]) Fg FV D8 ER Em T0)else none)else none)
 ((Bw n) 0 AH AL AU Df FK Eh DU DN EK Ft DL Aq Ds FL b2 b3 b4 b5 b6 b7 b8 b9 Da Ez Cv F6 Db Fg FV D8 ER Em T0)) v:=by rcases ω with _|⟨_|_,_|⟨_|_,_⟩⟩<;>kernel_rfl
theorem AGb(n:Nat)(v:gC.V)(ω:List Bool):GL C86 r6 Tryz.f86 (Ng 0 ph n) 3 ω (gC.st 104 v)=gC.un (L1 (Bk n) (Bw n) (Bi n) (Bg n)) v:=AGa D7 C4 Cj Ck Bb n v ω
theorem AGy(WB:AAj→Option Dg)(Zy:AAq→Option Hn)(Vf:AAn→Option DZ)(Z5:AAY→Option EG)(Zw:ABc→Option Gh)(n:Nat)(v:gT.V)(ω:List Bool):GL ⟨T,Te [(184,⟨Xi,kO,Xi.un WB⟩),(185,⟨ZQ,lR,ZQ.un Zy⟩),(186,⟨XX,kc,XX.un Vf⟩),(187,⟨UF,g9,UF.un Z5⟩),(188,⟨Zz,lW,Zz.un Zw⟩)],Cy [(1,[0,1]),(5,[0,1,2,3,4,5,6,7,8,9,11,13,14,15,16,17,18]),(9,[0,1,2,3,4,5,6,7,8,9,11,12,13,14,16,17,18]),(13,[0,1,2,3,4,5,6,7,8,9,11,12,13,14,15,17,18]),(17,[0,1,2,3,4,5,6,7,8,9,11,12,13,14,15,16,18])]⟩ r6 Tryz.f86 (Ng 0 ph n) 7 ω (gT.st 104 v)=gT.un (fun(t5:Int) (AH:AAD) (AL:Int) (AU:AAH) (Df:AAD) (FK:AAG) (Eh:Int) (DU:AAP) (DN:AAQ) (EK:AAS) (Ft:AAL) (DL:Bool) (Aq:Int) (Ds:Int) (FL:Bool) (b2:AAD) (b3:AAH) (b4:AAD) (b5:AAG) (b6:AAP) (b7:AAQ) (b8:AAS) (b9:AAL) (Da:Int) (Ez:Int) (Cv:Bool) (F6:AAD) (Db:AAH) (Fg:AAD) (FV:AAG) (D8:AAP) (ER:AAQ) (Em:AAS) (T0:AAL)=>
 cond ((decide (t5<(DU.length:Int))))
  (if(0:Int)≤t5∧t5<(DU.length:Int)then(
  (Vf ((DU.getD (t5.toNat) (0,[],())).1,(DU.getD (t5.toNat) (0,[],())).2.1,())).bind fun qe=>
  if D8.length+1≤Go.M.DE then(
  (Bw n) (AX (t5+1)) AH AL AU Df FK Eh DU DN EK Ft DL Aq Ds FL b2 b3 b4 b5 b6 b7 b8 b9 Da Ez Cv F6 Db Fg FV (D8++[(qe.1.1.1,qe.2.1,())]) ER Em T0)else none)else none)
 ((Bi n) 0 AH AL AU Df FK Eh DU DN EK Ft DL Aq Ds FL b2 b3 b4 b5 b6 b7 b8 b9 Da Ez Cv F6 Db Fg FV D8 ER Em T0)) v:=by rcases ω with _|⟨_|_,_|⟨_|_,_⟩⟩<;>kernel_rfl
theorem AFh(n:Nat)(v:gT.V)(ω:List Bool):GL C86 r6 Tryz.f86 (Ng 0 ph n) 7 ω (gT.st 104 v)=gT.un (Lv (Bk n) (Bw n) (Bi n) (Bg n)) v:=AGy D7 C4 Cj Ck Bb n v ω
theorem ADQ(WB:AAj→Option Dg)(Zy:AAq→Option Hn)(Vf:AAn→Option DZ)(Z5:AAY→Option EG)(Zw:ABc→Option Gh)(n:Nat)(v:ZZ.V)(ω:List Bool):GL ⟨T,Te [(184,⟨Xi,kO,Xi.un WB⟩),(185,⟨ZQ,lR,ZQ.un Zy⟩),(186,⟨XX,kc,XX.un Vf⟩),(187,⟨UF,g9,UF.un Z5⟩),(188,⟨Zz,lW,Zz.un Zw⟩)],Cy [(1,[0,1]),(5,[0,1,2,3,4,5,6,7,8,9,11,13,14,15,16,17,18]),(9,[0,1,2,3,4,5,6,7,8,9,11,12,13,14,16,17,18]),(13,[0,1,2,3,4,5,6,7,8,9,11,12,13,14,15,17,18]),(17,[0,1,2,3,4,5,6,7,8,9,11,12,13,14,15,16,18])]⟩ r6 Tryz.f86 (Ng 0 ph n) 11 ω (ZZ.st 104 v)=ZZ.un (fun(t6:Int) (AH:AAD) (AL:Int) (AU:AAH) (Df:AAD) (FK:AAG) (Eh:Int) (DU:AAP) (DN:AAQ) (EK:AAS) (Ft:AAL) (DL:Bool) (Aq:Int) (Ds:Int) (FL:Bool) (b2:AAD) (b3:AAH) (b4:AAD) (b5:AAG) (b6:AAP) (b7:AAQ) (b8:AAS) (b9:AAL) (Da:Int) (Ez:Int) (Cv:Bool) (F6:AAD) (Db:AAH) (Fg:AAD) (FV:AAG) (D8:AAP) (ER:AAQ) (Em:AAS) (T0:AAL)=>
 cond ((decide (t6<(DN.length:Int))))
  (if(0:Int)≤t6∧t6<(DN.length:Int)then(
  (Z5 ((DN.getD (t6.toNat) (0,0,[],[],false,[],())).1,(DN.getD (t6.toNat) (0,0,[],[],false,[],())).2.1,(DN.getD (t6.toNat) (0,0,[],[],false,[],())).2.2.1,(DN.getD (t6.toNat) (0,0,[],[],false,[],())).2.2.2.1,(DN.getD (t6.toNat) (0,0,[],[],false,[],())).2.2.2.2.1,(DN.getD (t6.toNat) (0,0,[],[],false,[],())).2.2.2.2.2.1,())).bind fun Zp=>
  if ER.length+1≤Go.M.DE then(
  (Bi n) (AX (t6+1)) AH AL AU Df FK Eh DU DN EK Ft DL Aq Ds FL b2 b3 b4 b5 b6 b7 b8 b9 Da Ez Cv F6 Db Fg FV D8 (ER++[(Zp.1.1.1,Zp.1.1.2.1,Zp.2.1,Zp.2.2.1,Zp.1.1.2.2.2.2.1,Zp.2.2.2.1,())]) Em T0)else none)else none)
 ((Bg n) 0 AH AL AU Df FK Eh DU DN EK Ft DL Aq Ds FL b2 b3 b4 b5 b6 b7 b8 b9 Da Ez Cv F6 Db Fg FV D8 ER Em T0)) v:=by rcases ω with _|⟨_|_,_|⟨_|_,_⟩⟩<;>kernel_rfl
theorem ACK(n:Nat)(v:ZZ.V)(ω:List Bool):GL C86 r6 Tryz.f86 (Ng 0 ph n) 11 ω (ZZ.st 104 v)=ZZ.un (LA (Bk n) (Bw n) (Bi n) (Bg n)) v:=ADQ D7 C4 Cj Ck Bb n v ω
theorem AFJ(WB:AAj→Option Dg)(Zy:AAq→Option Hn)(Vf:AAn→Option DZ)(Z5:AAY→Option EG)(Zw:ABc→Option Gh)(n:Nat)(v:ZW.V)(ω:List Bool):GL ⟨T,Te [(184,⟨Xi,kO,Xi.un WB⟩),(185,⟨ZQ,lR,ZQ.un Zy⟩),(186,⟨XX,kc,XX.un Vf⟩),(187,⟨UF,g9,UF.un Z5⟩),(188,⟨Zz,lW,Zz.un Zw⟩)],Cy [(1,[0,1]),(5,[0,1,2,3,4,5,6,7,8,9,11,13,14,15,16,17,18]),(9,[0,1,2,3,4,5,6,7,8,9,11,12,13,14,16,17,18]),(13,[0,1,2,3,4,5,6,7,8,9,11,12,13,14,15,17,18]),(17,[0,1,2,3,4,5,6,7,8,9,11,12,13,14,15,16,18])]⟩ r6 Tryz.f86 (Ng 0 ph n) 15 ω (ZW.st 104 v)=ZW.un (fun(t7:Int) (AH:AAD) (AL:Int) (AU:AAH) (Df:AAD) (FK:AAG) (Eh:Int) (DU:AAP) (DN:AAQ) (EK:AAS) (Ft:AAL) (DL:Bool) (Aq:Int) (Ds:Int) (FL:Bool) (b2:AAD) (b3:AAH) (b4:AAD) (b5:AAG) (b6:AAP) (b7:AAQ) (b8:AAS) (b9:AAL) (Da:Int) (Ez:Int) (Cv:Bool) (F6:AAD) (Db:AAH) (Fg:AAD) (FV:AAG) (D8:AAP) (ER:AAQ) (Em:AAS) (T0:AAL)=>
 cond ((decide (t7<(EK.length:Int))))
  (if(0:Int)≤t7∧t7<(EK.length:Int)then(
  (Zw ((EK.getD (t7.toNat) (0,0,[],())).1,(EK.getD (t7.toNat) (0,0,[],())).2.1,(EK.getD (t7.toNat) (0,0,[],())).2.2.1,())).bind fun lq=>
  if Em.length+1≤Go.M.DE then(
  (Bg n) (AX (t7+1)) AH AL AU Df FK Eh DU DN EK Ft DL Aq Ds FL b2 b3 b4 b5 b6 b7 b8 b9 Da Ez Cv F6 Db Fg FV D8 ER (Em++[(lq.1.1.1,lq.1.1.2.1,lq.2.1,())]) T0)else none)else none)
 (some ((((),Da,(),(),(),Ez,(),(),(),(),Cv,()),()),(F6,Db,Fg,FV,D8,ER,Em,T0,())))) v:=by rcases ω with _|⟨_|_,_|⟨_|_,_⟩⟩<;>kernel_rfl
theorem AE7(n:Nat)(v:ZW.V)(ω:List Bool):GL C86 r6 Tryz.f86 (Ng 0 ph n) 15 ω (ZW.st 104 v)=ZW.un (K_ (Bk n) (Bw n) (Bi n) (Bg n)) v:=AFJ D7 C4 Cj Ck Bb n v ω
def AD(ω:List Bool):Prop:= ∀(WB:AAj→Option Dg) (Zy:AAq→Option Hn) (Vf:AAn→Option DZ) (Z5:AAY→Option EG) (Zw:ABc→Option Gh) (n:Nat) (v:yG.V),FQ ⟨T,Te [(184,⟨Xi,kO,Xi.un WB⟩),(185,⟨ZQ,lR,ZQ.un Zy⟩),(186,⟨XX,kc,XX.un Vf⟩),(187,⟨UF,g9,UF.un Z5⟩),(188,⟨Zz,lW,Zz.un Zw⟩)],Cy [(1,[0,1]),(5,[0,1,2,3,4,5,6,7,8,9,11,13,14,15,16,17,18]),(9,[0,1,2,3,4,5,6,7,8,9,11,12,13,14,16,17,18]),(13,[0,1,2,3,4,5,6,7,8,9,11,12,13,14,15,17,18]),(17,[0,1,2,3,4,5,6,7,8,9,11,12,13,14,15,16,18])]⟩ r6 Tryz.f86 (Ng 0 ph n) ω v=yG.un (fun(p0:AAd)=>
 if 0+p0.1.length≤Go.M.DE then(
 if 0+p0.2.2.2.1.length≤Go.M.DE then(
 (WB (p0.2.2.2.2.1,p0.2.2.2.2.2.1,())).bind fun u2=>
 if 0+p0.2.2.2.2.2.2.2.2.2.1.length≤Go.M.DE then(
 (Bk n) 0 p0.1 p0.2.1 p0.2.2.1 p0.2.2.2.1 p0.2.2.2.2.1 p0.2.2.2.2.2.1 p0.2.2.2.2.2.2.1 p0.2.2.2.2.2.2.2.1 p0.2.2.2.2.2.2.2.2.1 p0.2.2.2.2.2.2.2.2.2.1 p0.2.2.2.2.2.2.2.2.2.2.1 0 0 false [] [] [] [] [] [] [] [] p0.2.1 u2.1.1.2.1 p0.2.2.2.2.2.2.2.2.2.2.1 p0.1 [] p0.2.2.2.1 u2.2.1 [] [] [] p0.2.2.2.2.2.2.2.2.2.1)else none)else none)else none) v
theorem AFw:AD []:=by delta AD;intros;kernel_rfl
theorem AHH:AD (false::[]):=by delta AD;intros;kernel_rfl
theorem AHA:AD (false::false::[]):=by delta AD;intros;kernel_rfl
theorem AF0:AD (false::false::false::[]):=by delta AD;intros;kernel_rfl
theorem AGe:AD (false::false::false::false::[]):=by delta AD;intros;kernel_rfl
theorem AGh:AD (false::false::false::false::false::[]):=by delta AD;intros;kernel_rfl
theorem AFm(ω:List Bool):AD (false::false::false::false::false::false::ω):=by delta AD;intros;kernel_rfl
theorem AGW:AD (false::false::false::false::false::true::[]):=by delta AD;intros;kernel_rfl
theorem AHd(ω:List Bool):AD (false::false::false::false::false::true::false::ω):=by delta AD;intros;kernel_rfl
theorem AEg(ω:List Bool):AD (false::false::false::false::false::true::true::ω):=by delta AD;intros;kernel_rfl
theorem ADI:AD (false::false::false::false::true::[]):=by delta AD;intros;kernel_rfl
theorem AC8(ω:List Bool):AD (false::false::false::false::true::false::ω):=by delta AD;intros;kernel_rfl
theorem AC9:AD (false::false::false::false::true::true::[]):=by delta AD;intros;kernel_rfl
theorem ACl(ω:List Bool):AD (false::false::false::false::true::true::false::ω):=by delta AD;intros;kernel_rfl
theorem ACy:AD (false::false::false::false::true::true::true::[]):=by delta AD;intros;kernel_rfl
theorem ACq(ω:List Bool):AD (false::false::false::false::true::true::true::false::ω):=by delta AD;intros;kernel_rfl
theorem ABO:AD (false::false::false::false::true::true::true::true::[]):=by delta AD;intros;kernel_rfl
theorem AEc(ω:List Bool):AD (false::false::false::false::true::true::true::true::false::ω):=by delta AD;intros;kernel_rfl
theorem ADw(ω:List Bool):AD (false::false::false::false::true::true::true::true::true::ω):=by delta AD;intros;kernel_rfl
theorem ABg:AD (false::false::false::true::[]):=by delta AD;intros;kernel_rfl
theorem AEL:AD (false::false::false::true::false::[]):=by delta AD;intros;kernel_rfl
theorem ABk:AD (false::false::false::true::false::false::[]):=by delta AD;intros;kernel_rfl
theorem ADo(ω:List Bool):AD (false::false::false::true::false::false::false::ω):=by delta AD;intros;kernel_rfl
theorem AC1(ω:List Bool):AD (false::false::false::true::false::false::true::ω):=by delta AD;intros;kernel_rfl
theorem AEB:AD (false::false::false::true::false::true::[]):=by delta AD;intros;kernel_rfl
theorem ACF(ω:List Bool):AD (false::false::false::true::false::true::false::ω):=by delta AD;intros;kernel_rfl
theorem AEs:AD (false::false::false::true::false::true::true::[]):=by delta AD;intros;kernel_rfl
theorem AEF(ω:List Bool):AD (false::false::false::true::false::true::true::false::ω):=by delta AD;intros;kernel_rfl
theorem ADM:AD (false::false::false::true::false::true::true::true::[]):=by delta AD;intros;kernel_rfl
theorem ABE(ω:List Bool):AD (false::false::false::true::false::true::true::true::false::ω):=by delta AD;intros;kernel_rfl
theorem ACD(ω:List Bool):AD (false::false::false::true::false::true::true::true::true::ω):=by delta AD;intros;kernel_rfl
theorem ADb:AD (false::false::false::true::true::[]):=by delta AD;intros;kernel_rfl
theorem AB5(ω:List Bool):AD (false::false::false::true::true::false::ω):=by delta AD;intros;kernel_rfl
theorem ACg:AD (false::false::false::true::true::true::[]):=by delta AD;intros;kernel_rfl
theorem ACw(ω:List Bool):AD (false::false::false::true::true::true::false::ω):=by delta AD;intros;kernel_rfl
theorem ADR:AD (false::false::false::true::true::true::true::[]):=by delta AD;intros;kernel_rfl
theorem ABp(ω:List Bool):AD (false::false::false::true::true::true::true::false::ω):=by delta AD;intros;kernel_rfl
theorem AA2(ω:List Bool):AD (false::false::false::true::true::true::true::true::ω):=by delta AD;intros;kernel_rfl
theorem ACW:AD (false::false::true::[]):=by delta AD;intros;kernel_rfl
theorem ABn:AD (false::false::true::false::[]):=by delta AD;intros;kernel_rfl
theorem AAz:AD (false::false::true::false::false::[]):=by delta AD;intros;kernel_rfl
theorem AEa(ω:List Bool):AD (false::false::true::false::false::false::ω):=by delta AD;intros;kernel_rfl
theorem AA9:AD (false::false::true::false::false::true::[]):=by delta AD;intros;kernel_rfl
theorem AEv(ω:List Bool):AD (false::false::true::false::false::true::false::ω):=by delta AD;intros;kernel_rfl
theorem ADH(ω:List Bool):AD (false::false::true::false::false::true::true::ω):=by delta AD;intros;kernel_rfl
theorem AB2:AD (false::false::true::false::true::[]):=by delta AD;intros;kernel_rfl
theorem ADV(ω:List Bool):AD (false::false::true::false::true::false::ω):=by delta AD;intros;kernel_rfl
theorem ADZ:AD (false::false::true::false::true::true::[]):=by delta AD;intros;kernel_rfl
theorem AE1(ω:List Bool):AD (false::false::true::false::true::true::false::ω):=by delta AD;intros;kernel_rfl
theorem ADa:AD (false::false::true::false::true::true::true::[]):=by delta AD;intros;kernel_rfl
theorem ADt(ω:List Bool):AD (false::false::true::false::true::true::true::false::ω):=by delta AD;intros;kernel_rfl
theorem ADv:AD (false::false::true::false::true::true::true::true::[]):=by delta AD;intros;kernel_rfl
theorem ADK(ω:List Bool):AD (false::false::true::false::true::true::true::true::false::ω):=by delta AD;intros;kernel_rfl
theorem ABQ:AD (false::false::true::false::true::true::true::true::true::[]):=by delta AD;intros;kernel_rfl
theorem AFD(ω:List Bool):AD (false::false::true::false::true::true::true::true::true::false::ω):=by delta AD;intros;kernel_rfl
theorem AFH(ω:List Bool):AD (false::false::true::false::true::true::true::true::true::true::ω):=by delta AD;intros;kernel_rfl
theorem AC4:AD (false::false::true::true::[]):=by delta AD;intros;kernel_rfl
theorem AE9:AD (false::false::true::true::false::[]):=by delta AD;intros;kernel_rfl
theorem ADz:AD (false::false::true::true::false::false::[]):=by delta AD;intros;kernel_rfl
theorem AFE(ω:List Bool):AD (false::false::true::true::false::false::false::ω):=by delta AD;intros;kernel_rfl
theorem AC2(ω:List Bool):AD (false::false::true::true::false::false::true::ω):=by delta AD;intros;kernel_rfl
theorem ACc:AD (false::false::true::true::false::true::[]):=by delta AD;intros;kernel_rfl
theorem AD9(ω:List Bool):AD (false::false::true::true::false::true::false::ω):=by delta AD;intros;kernel_rfl
theorem ACp:AD (false::false::true::true::false::true::true::[]):=by delta AD;intros;kernel_rfl
theorem AEz(ω:List Bool):AD (false::false::true::true::false::true::true::false::ω):=by delta AD;intros;kernel_rfl
theorem AEX:AD (false::false::true::true::false::true::true::true::[]):=by delta AD;intros;kernel_rfl
theorem AEb(ω:List Bool):AD (false::false::true::true::false::true::true::true::false::ω):=by delta AD;intros;kernel_rfl
theorem AES:AD (false::false::true::true::false::true::true::true::true::[]):=by delta AD;intros;kernel_rfl
theorem ABm(ω:List Bool):AD (false::false::true::true::false::true::true::true::true::false::ω):=by delta AD;intros;kernel_rfl
theorem ADj(ω:List Bool):AD (false::false::true::true::false::true::true::true::true::true::ω):=by delta AD;intros;kernel_rfl
theorem AB6:AD (false::false::true::true::true::[]):=by delta AD;intros;kernel_rfl
theorem ADm(ω:List Bool):AD (false::false::true::true::true::false::ω):=by delta AD;intros;kernel_rfl
theorem ABN:AD (false::false::true::true::true::true::[]):=by delta AD;intros;kernel_rfl
theorem ABK(ω:List Bool):AD (false::false::true::true::true::true::false::ω):=by delta AD;intros;kernel_rfl
theorem AA7:AD (false::false::true::true::true::true::true::[]):=by delta AD;intros;kernel_rfl
theorem AEK(ω:List Bool):AD (false::false::true::true::true::true::true::false::ω):=by delta AD;intros;kernel_rfl
theorem ADN:AD (false::false::true::true::true::true::true::true::[]):=by delta AD;intros;kernel_rfl
theorem ABh(ω:List Bool):AD (false::false::true::true::true::true::true::true::false::ω):=by delta AD;intros;kernel_rfl
theorem ABb(ω:List Bool):AD (false::false::true::true::true::true::true::true::true::ω):=by delta AD;intros;kernel_rfl
theorem AEI:AD (false::true::[]):=by delta AD;intros;kernel_rfl
theorem ACZ:AD (false::true::false::[]):=by delta AD;intros;kernel_rfl
theorem ACA:AD (false::true::false::false::[]):=by delta AD;intros;kernel_rfl
theorem AFA(ω:List Bool):AD (false::true::false::false::false::ω):=by delta AD;intros;kernel_rfl
theorem AB3:AD (false::true::false::false::true::[]):=by delta AD;intros;kernel_rfl
theorem ACE(ω:List Bool):AD (false::true::false::false::true::false::ω):=by delta AD;intros;kernel_rfl
theorem AC7:AD (false::true::false::false::true::true::[]):=by delta AD;intros;kernel_rfl
theorem ACI(ω:List Bool):AD (false::true::false::false::true::true::false::ω):=by delta AD;intros;kernel_rfl
theorem ABR:AD (false::true::false::false::true::true::true::[]):=by delta AD;intros;kernel_rfl
theorem AE2(ω:List Bool):AD (false::true::false::false::true::true::true::false::ω):=by delta AD;intros;kernel_rfl
theorem ABy(ω:List Bool):AD (false::true::false::false::true::true::true::true::ω):=by delta AD;intros;kernel_rfl
theorem AEd:AD (false::true::false::true::[]):=by delta AD;intros;kernel_rfl
theorem AEq(ω:List Bool):AD (false::true::false::true::false::ω):=by delta AD;intros;kernel_rfl
theorem ADB:AD (false::true::false::true::true::[]):=by delta AD;intros;kernel_rfl
theorem ACx(ω:List Bool):AD (false::true::false::true::true::false::ω):=by delta AD;intros;kernel_rfl
theorem ABL:AD (false::true::false::true::true::true::[]):=by delta AD;intros;kernel_rfl
theorem ACb(ω:List Bool):AD (false::true::false::true::true::true::false::ω):=by delta AD;intros;kernel_rfl
theorem ACU:AD (false::true::false::true::true::true::true::[]):=by delta AD;intros;kernel_rfl
theorem ABo(ω:List Bool):AD (false::true::false::true::true::true::true::false::ω):=by delta AD;intros;kernel_rfl
theorem ABq:AD (false::true::false::true::true::true::true::true::[]):=by delta AD;intros;kernel_rfl
theorem zD(ω:List Bool):AD (false::true::false::true::true::true::true::true::false::ω):=by delta AD;intros;kernel_rfl
theorem zW(ω:List Bool):AD (false::true::false::true::true::true::true::true::true::ω):=by delta AD;intros;kernel_rfl
theorem tM:AD (false::true::true::[]):=by delta AD;intros;kernel_rfl
theorem yZ:AD (false::true::true::false::[]):=by delta AD;intros;kernel_rfl
theorem sv:AD (false::true::true::false::false::[]):=by delta AD;intros;kernel_rfl
theorem sd(ω:List Bool):AD (false::true::true::false::false::false::ω):=by delta AD;intros;kernel_rfl
theorem v7:AD (false::true::true::false::false::true::[]):=by delta AD;intros;kernel_rfl
theorem tX(ω:List Bool):AD (false::true::true::false::false::true::false::ω):=by delta AD;intros;kernel_rfl
theorem xq:AD (false::true::true::false::false::true::true::[]):=by delta AD;intros;kernel_rfl
theorem vi(ω:List Bool):AD (false::true::true::false::false::true::true::false::ω):=by delta AD;intros;kernel_rfl
theorem s5(ω:List Bool):AD (false::true::true::false::false::true::true::true::ω):=by delta AD;intros;kernel_rfl
theorem tu:AD (false::true::true::false::true::[]):=by delta AD;intros;kernel_rfl
theorem vV(ω:List Bool):AD (false::true::true::false::true::false::ω):=by delta AD;intros;kernel_rfl
theorem zo:AD (false::true::true::false::true::true::[]):=by delta AD;intros;kernel_rfl
theorem zZ(ω:List Bool):AD (false::true::true::false::true::true::false::ω):=by delta AD;intros;kernel_rfl
theorem vY:AD (false::true::true::false::true::true::true::[]):=by delta AD;intros;kernel_rfl
theorem uL(ω:List Bool):AD (false::true::true::false::true::true::true::false::ω):=by delta AD;intros;kernel_rfl
theorem wt:AD (false::true::true::false::true::true::true::true::[]):=by delta AD;intros;kernel_rfl
theorem vB(ω:List Bool):AD (false::true::true::false::true::true::true::true::false::ω):=by delta AD;intros;kernel_rfl
theorem xG(ω:List Bool):AD (false::true::true::false::true::true::true::true::true::ω):=by delta AD;intros;kernel_rfl
theorem u_:AD (false::true::true::true::[]):=by delta AD;intros;kernel_rfl
theorem uu:AD (false::true::true::true::false::[]):=by delta AD;intros;kernel_rfl
theorem yj:AD (false::true::true::true::false::false::[]):=by delta AD;intros;kernel_rfl
theorem yk(ω:List Bool):AD (false::true::true::true::false::false::false::ω):=by delta AD;intros;kernel_rfl
theorem tn:AD (false::true::true::true::false::false::true::[]):=by delta AD;intros;kernel_rfl
theorem zn(ω:List Bool):AD (false::true::true::true::false::false::true::false::ω):=by delta AD;intros;kernel_rfl
theorem wb(ω:List Bool):AD (false::true::true::true::false::false::true::true::ω):=by delta AD;intros;kernel_rfl
theorem sY:AD (false::true::true::true::false::true::[]):=by delta AD;intros;kernel_rfl
theorem vu(ω:List Bool):AD (false::true::true::true::false::true::false::ω):=by delta AD;intros;kernel_rfl
theorem yw:AD (false::true::true::true::false::true::true::[]):=by delta AD;intros;kernel_rfl
theorem wN(ω:List Bool):AD (false::true::true::true::false::true::true::false::ω):=by delta AD;intros;kernel_rfl
theorem xz:AD (false::true::true::true::false::true::true::true::[]):=by delta AD;intros;kernel_rfl
theorem zf(ω:List Bool):AD (false::true::true::true::false::true::true::true::false::ω):=by delta AD;intros;kernel_rfl
theorem yM(ω:List Bool):AD (false::true::true::true::false::true::true::true::true::ω):=by delta AD;intros;kernel_rfl
theorem uM:AD (false::true::true::true::true::[]):=by delta AD;intros;kernel_rfl
theorem vh:AD (false::true::true::true::true::false::[]):=by delta AD;intros;kernel_rfl
theorem zw:AD (false::true::true::true::true::false::false::[]):=by delta AD;intros;kernel_rfl
theorem tN(ω:List Bool):AD (false::true::true::true::true::false::false::false::ω):=by delta AD;intros;kernel_rfl
theorem yy(ω:List Bool):AD (false::true::true::true::true::false::false::true::ω):=by delta AD;intros;kernel_rfl
theorem ui:AD (false::true::true::true::true::false::true::[]):=by delta AD;intros;kernel_rfl
theorem uw(ω:List Bool):AD (false::true::true::true::true::false::true::false::ω):=by delta AD;intros;kernel_rfl
theorem wq:AD (false::true::true::true::true::false::true::true::[]):=by delta AD;intros;kernel_rfl
theorem uq(ω:List Bool):AD (false::true::true::true::true::false::true::true::false::ω):=by delta AD;intros;kernel_rfl
theorem zN(ω:List Bool):AD (false::true::true::true::true::false::true::true::true::ω):=by delta AD;intros;kernel_rfl
theorem ue:AD (false::true::true::true::true::true::[]):=by delta AD;intros;kernel_rfl
theorem uT(ω:List Bool):AD (false::true::true::true::true::true::false::ω):=by delta AD;intros;kernel_rfl
theorem yl:AD (false::true::true::true::true::true::true::[]):=by delta AD;intros;kernel_rfl
theorem zJ(ω:List Bool):AD (false::true::true::true::true::true::true::false::ω):=by delta AD;intros;kernel_rfl
theorem uK(ω:List Bool):AD (false::true::true::true::true::true::true::true::ω):=by delta AD;intros;kernel_rfl
theorem vf:AD (true::[]):=by delta AD;intros;kernel_rfl
theorem yF:AD (true::false::[]):=by delta AD;intros;kernel_rfl
theorem yC:AD (true::false::false::[]):=by delta AD;intros;kernel_rfl
theorem yB:AD (true::false::false::false::[]):=by delta AD;intros;kernel_rfl
theorem xt:AD (true::false::false::false::false::[]):=by delta AD;intros;kernel_rfl
theorem xk:AD (true::false::false::false::false::false::[]):=by delta AD;intros;kernel_rfl
theorem tF(ω:List Bool):AD (true::false::false::false::false::false::false::ω):=by delta AD;intros;kernel_rfl
theorem xc(ω:List Bool):AD (true::false::false::false::false::false::true::ω):=by delta AD;intros;kernel_rfl
theorem zY:AD (true::false::false::false::false::true::[]):=by delta AD;intros;kernel_rfl
theorem yV(ω:List Bool):AD (true::false::false::false::false::true::false::ω):=by delta AD;intros;kernel_rfl
theorem wY:AD (true::false::false::false::false::true::true::[]):=by delta AD;intros;kernel_rfl
theorem uk(ω:List Bool):AD (true::false::false::false::false::true::true::false::ω):=by delta AD;intros;kernel_rfl
theorem ta:AD (true::false::false::false::false::true::true::true::[]):=by delta AD;intros;kernel_rfl
theorem wC(ω:List Bool):AD (true::false::false::false::false::true::true::true::false::ω):=by delta AD;intros;kernel_rfl
theorem xp(ω:List Bool):AD (true::false::false::false::false::true::true::true::true::ω):=by delta AD;intros;kernel_rfl
theorem zh:AD (true::false::false::false::true::[]):=by delta AD;intros;kernel_rfl
theorem z5(ω:List Bool):AD (true::false::false::false::true::false::ω):=by delta AD;intros;kernel_rfl
theorem yq:AD (true::false::false::false::true::true::[]):=by delta AD;intros;kernel_rfl
theorem vb(ω:List Bool):AD (true::false::false::false::true::true::false::ω):=by delta AD;intros;kernel_rfl
theorem wU:AD (true::false::false::false::true::true::true::[]):=by delta AD;intros;kernel_rfl
theorem sn(ω:List Bool):AD (true::false::false::false::true::true::true::false::ω):=by delta AD;intros;kernel_rfl
theorem zx(ω:List Bool):AD (true::false::false::false::true::true::true::true::ω):=by delta AD;intros;kernel_rfl
theorem w3:AD (true::false::false::true::[]):=by delta AD;intros;kernel_rfl
theorem uP:AD (true::false::false::true::false::[]):=by delta AD;intros;kernel_rfl
theorem sj:AD (true::false::false::true::false::false::[]):=by delta AD;intros;kernel_rfl
theorem xh(ω:List Bool):AD (true::false::false::true::false::false::false::ω):=by delta AD;intros;kernel_rfl
theorem zq(ω:List Bool):AD (true::false::false::true::false::false::true::ω):=by delta AD;intros;kernel_rfl
theorem za:AD (true::false::false::true::false::true::[]):=by delta AD;intros;kernel_rfl
theorem xL(ω:List Bool):AD (true::false::false::true::false::true::false::ω):=by delta AD;intros;kernel_rfl
theorem zG:AD (true::false::false::true::false::true::true::[]):=by delta AD;intros;kernel_rfl
theorem xH(ω:List Bool):AD (true::false::false::true::false::true::true::false::ω):=by delta AD;intros;kernel_rfl
theorem xf:AD (true::false::false::true::false::true::true::true::[]):=by delta AD;intros;kernel_rfl
theorem uQ(ω:List Bool):AD (true::false::false::true::false::true::true::true::false::ω):=by delta AD;intros;kernel_rfl
theorem uh:AD (true::false::false::true::false::true::true::true::true::[]):=by delta AD;intros;kernel_rfl
theorem th(ω:List Bool):AD (true::false::false::true::false::true::true::true::true::false::ω):=by delta AD;intros;kernel_rfl
theorem xQ(ω:List Bool):AD (true::false::false::true::false::true::true::true::true::true::ω):=by delta AD;intros;kernel_rfl
theorem xw:AD (true::false::false::true::true::[]):=by delta AD;intros;kernel_rfl
theorem xJ(ω:List Bool):AD (true::false::false::true::true::false::ω):=by delta AD;intros;kernel_rfl
theorem uS:AD (true::false::false::true::true::true::[]):=by delta AD;intros;kernel_rfl
theorem s_(ω:List Bool):AD (true::false::false::true::true::true::false::ω):=by delta AD;intros;kernel_rfl
theorem vq:AD (true::false::false::true::true::true::true::[]):=by delta AD;intros;kernel_rfl
theorem wM(ω:List Bool):AD (true::false::false::true::true::true::true::false::ω):=by delta AD;intros;kernel_rfl
theorem uo:AD (true::false::false::true::true::true::true::true::[]):=by delta AD;intros;kernel_rfl
theorem uy(ω:List Bool):AD (true::false::false::true::true::true::true::true::false::ω):=by delta AD;intros;kernel_rfl
theorem yc(ω:List Bool):AD (true::false::false::true::true::true::true::true::true::ω):=by delta AD;intros;kernel_rfl
theorem zE:AD (true::false::true::[]):=by delta AD;intros;kernel_rfl
theorem wK:AD (true::false::true::false::[]):=by delta AD;intros;kernel_rfl
theorem yE:AD (true::false::true::false::false::[]):=by delta AD;intros;kernel_rfl
theorem yJ(ω:List Bool):AD (true::false::true::false::false::false::ω):=by delta AD;intros;kernel_rfl
theorem wg:AD (true::false::true::false::false::true::[]):=by delta AD;intros;kernel_rfl
theorem zb(ω:List Bool):AD (true::false::true::false::false::true::false::ω):=by delta AD;intros;kernel_rfl
theorem uV:AD (true::false::true::false::false::true::true::[]):=by delta AD;intros;kernel_rfl
theorem zz(ω:List Bool):AD (true::false::true::false::false::true::true::false::ω):=by delta AD;intros;kernel_rfl
theorem tP(ω:List Bool):AD (true::false::true::false::false::true::true::true::ω):=by delta AD;intros;kernel_rfl
theorem vk:AD (true::false::true::false::true::[]):=by delta AD;intros;kernel_rfl
theorem vW(ω:List Bool):AD (true::false::true::false::true::false::ω):=by delta AD;intros;kernel_rfl
theorem tE:AD (true::false::true::false::true::true::[]):=by delta AD;intros;kernel_rfl
theorem tv(ω:List Bool):AD (true::false::true::false::true::true::false::ω):=by delta AD;intros;kernel_rfl
theorem uA:AD (true::false::true::false::true::true::true::[]):=by delta AD;intros;kernel_rfl
theorem ud(ω:List Bool):AD (true::false::true::false::true::true::true::false::ω):=by delta AD;intros;kernel_rfl
theorem xg:AD (true::false::true::false::true::true::true::true::[]):=by delta AD;intros;kernel_rfl
theorem xN(ω:List Bool):AD (true::false::true::false::true::true::true::true::false::ω):=by delta AD;intros;kernel_rfl
theorem wh(ω:List Bool):AD (true::false::true::false::true::true::true::true::true::ω):=by delta AD;intros;kernel_rfl
theorem zT:AD (true::false::true::true::[]):=by delta AD;intros;kernel_rfl
theorem xl:AD (true::false::true::true::false::[]):=by delta AD;intros;kernel_rfl
theorem zk:AD (true::false::true::true::false::false::[]):=by delta AD;intros;kernel_rfl
theorem uj(ω:List Bool):AD (true::false::true::true::false::false::false::ω):=by delta AD;intros;kernel_rfl
theorem vD:AD (true::false::true::true::false::false::true::[]):=by delta AD;intros;kernel_rfl
theorem vI(ω:List Bool):AD (true::false::true::true::false::false::true::false::ω):=by delta AD;intros;kernel_rfl
theorem vC(ω:List Bool):AD (true::false::true::true::false::false::true::true::ω):=by delta AD;intros;kernel_rfl
theorem yQ:AD (true::false::true::true::false::true::[]):=by delta AD;intros;kernel_rfl
theorem zS(ω:List Bool):AD (true::false::true::true::false::true::false::ω):=by delta AD;intros;kernel_rfl
theorem vF:AD (true::false::true::true::false::true::true::[]):=by delta AD;intros;kernel_rfl
theorem zm(ω:List Bool):AD (true::false::true::true::false::true::true::false::ω):=by delta AD;intros;kernel_rfl
theorem sw:AD (true::false::true::true::false::true::true::true::[]):=by delta AD;intros;kernel_rfl
theorem xi(ω:List Bool):AD (true::false::true::true::false::true::true::true::false::ω):=by delta AD;intros;kernel_rfl
theorem u0(ω:List Bool):AD (true::false::true::true::false::true::true::true::true::ω):=by delta AD;intros;kernel_rfl
theorem w7:AD (true::false::true::true::true::[]):=by delta AD;intros;kernel_rfl
theorem yI:AD (true::false::true::true::true::false::[]):=by delta AD;intros;kernel_rfl
theorem ug:AD (true::false::true::true::true::false::false::[]):=by delta AD;intros;kernel_rfl
theorem uD(ω:List Bool):AD (true::false::true::true::true::false::false::false::ω):=by delta AD;intros;kernel_rfl
theorem zL(ω:List Bool):AD (true::false::true::true::true::false::false::true::ω):=by delta AD;intros;kernel_rfl
theorem wc:AD (true::false::true::true::true::false::true::[]):=by delta AD;intros;kernel_rfl
theorem su(ω:List Bool):AD (true::false::true::true::true::false::true::false::ω):=by delta AD;intros;kernel_rfl
theorem s6:AD (true::false::true::true::true::false::true::true::[]):=by delta AD;intros;kernel_rfl
theorem sf(ω:List Bool):AD (true::false::true::true::true::false::true::true::false::ω):=by delta AD;intros;kernel_rfl
theorem sa(ω:List Bool):AD (true::false::true::true::true::false::true::true::true::ω):=by delta AD;intros;kernel_rfl
theorem tp:AD (true::false::true::true::true::true::[]):=by delta AD;intros;kernel_rfl
theorem ua(ω:List Bool):AD (true::false::true::true::true::true::false::ω):=by delta AD;intros;kernel_rfl
theorem vO:AD (true::false::true::true::true::true::true::[]):=by delta AD;intros;kernel_rfl
theorem zp(ω:List Bool):AD (true::false::true::true::true::true::true::false::ω):=by delta AD;intros;kernel_rfl
theorem xj(ω:List Bool):AD (true::false::true::true::true::true::true::true::ω):=by delta AD;intros;kernel_rfl
theorem xY:AD (true::true::[]):=by delta AD;intros;kernel_rfl
theorem vH:AD (true::true::false::[]):=by delta AD;intros;kernel_rfl
theorem xA:AD (true::true::false::false::[]):=by delta AD;intros;kernel_rfl
theorem tQ(ω:List Bool):AD (true::true::false::false::false::ω):=by delta AD;intros;kernel_rfl
theorem vn:AD (true::true::false::false::true::[]):=by delta AD;intros;kernel_rfl
theorem zi(ω:List Bool):AD (true::true::false::false::true::false::ω):=by delta AD;intros;kernel_rfl
theorem xP:AD (true::true::false::false::true::true::[]):=by delta AD;intros;kernel_rfl
theorem zI(ω:List Bool):AD (true::true::false::false::true::true::false::ω):=by delta AD;intros;kernel_rfl
theorem uz(ω:List Bool):AD (true::true::false::false::true::true::true::ω):=by delta AD;intros;kernel_rfl
theorem ya:AD (true::true::false::true::[]):=by delta AD;intros;kernel_rfl
theorem tL(ω:List Bool):AD (true::true::false::true::false::ω):=by delta AD;intros;kernel_rfl
theorem tq:AD (true::true::false::true::true::[]):=by delta AD;intros;kernel_rfl
theorem sr(ω:List Bool):AD (true::true::false::true::true::false::ω):=by delta AD;intros;kernel_rfl
theorem tD:AD (true::true::false::true::true::true::[]):=by delta AD;intros;kernel_rfl
theorem w9(ω:List Bool):AD (true::true::false::true::true::true::false::ω):=by delta AD;intros;kernel_rfl
theorem tT:AD (true::true::false::true::true::true::true::[]):=by delta AD;intros;kernel_rfl
theorem xm(ω:List Bool):AD (true::true::false::true::true::true::true::false::ω):=by delta AD;intros;kernel_rfl
theorem zr(ω:List Bool):AD (true::true::false::true::true::true::true::true::ω):=by delta AD;intros;kernel_rfl
theorem wv:AD (true::true::true::[]):=by delta AD;intros;kernel_rfl
theorem xE:AD (true::true::true::false::[]):=by delta AD;intros;kernel_rfl
theorem wQ:AD (true::true::true::false::false::[]):=by delta AD;intros;kernel_rfl
theorem tB(ω:List Bool):AD (true::true::true::false::false::false::ω):=by delta AD;intros;kernel_rfl
theorem xD:AD (true::true::true::false::false::true::[]):=by delta AD;intros;kernel_rfl
theorem ve(ω:List Bool):AD (true::true::true::false::false::true::false::ω):=by delta AD;intros;kernel_rfl
theorem zV(ω:List Bool):AD (true::true::true::false::false::true::true::ω):=by delta AD;intros;kernel_rfl
theorem y_:AD (true::true::true::false::true::[]):=by delta AD;intros;kernel_rfl
theorem uW(ω:List Bool):AD (true::true::true::false::true::false::ω):=by delta AD;intros;kernel_rfl
theorem xR:AD (true::true::true::false::true::true::[]):=by delta AD;intros;kernel_rfl
theorem yK(ω:List Bool):AD (true::true::true::false::true::true::false::ω):=by delta AD;intros;kernel_rfl
theorem vj:AD (true::true::true::false::true::true::true::[]):=by delta AD;intros;kernel_rfl
theorem tK(ω:List Bool):AD (true::true::true::false::true::true::true::false::ω):=by delta AD;intros;kernel_rfl
theorem wx(ω:List Bool):AD (true::true::true::false::true::true::true::true::ω):=by delta AD;intros;kernel_rfl
theorem z6:AD (true::true::true::true::[]):=by delta AD;intros;kernel_rfl
theorem yg:AD (true::true::true::true::false::[]):=by delta AD;intros;kernel_rfl
theorem tz:AD (true::true::true::true::false::false::[]):=by delta AD;intros;kernel_rfl
theorem yS(ω:List Bool):AD (true::true::true::true::false::false::false::ω):=by delta AD;intros;kernel_rfl
theorem z7(ω:List Bool):AD (true::true::true::true::false::false::true::ω):=by delta AD;intros;kernel_rfl
theorem zt:AD (true::true::true::true::false::true::[]):=by delta AD;intros;kernel_rfl
theorem vl(ω:List Bool):AD (true::true::true::true::false::true::false::ω):=by delta AD;intros;kernel_rfl
theorem yR:AD (true::true::true::true::false::true::true::[]):=by delta AD;intros;kernel_rfl
theorem zP(ω:List Bool):AD (true::true::true::true::false::true::true::false::ω):=by delta AD;intros;kernel_rfl
theorem yn(ω:List Bool):AD (true::true::true::true::false::true::true::true::ω):=by delta AD;intros;kernel_rfl
theorem yO:AD (true::true::true::true::true::[]):=by delta AD;intros;kernel_rfl
theorem yh(ω:List Bool):AD (true::true::true::true::true::false::ω):=by delta AD;intros;kernel_rfl
theorem tw:AD (true::true::true::true::true::true::[]):=by delta AD;intros;kernel_rfl
theorem tV(ω:List Bool):AD (true::true::true::true::true::true::false::ω):=by delta AD;intros;kernel_rfl
theorem w4(ω:List Bool):AD (true::true::true::true::true::true::true::ω):=by delta AD;intros;kernel_rfl
theorem b86(WB:AAj→Option Dg)(Zy:AAq→Option Hn)(Vf:AAn→Option DZ)(Z5:AAY→Option EG)(Zw:ABc→Option Gh)(n:Nat)(ω:List Bool)(v:yG.V):FQ ⟨T,Te [(184,⟨Xi,kO,Xi.un WB⟩),(185,⟨ZQ,lR,ZQ.un Zy⟩),(186,⟨XX,kc,XX.un Vf⟩),(187,⟨UF,g9,UF.un Z5⟩),(188,⟨Zz,lW,Zz.un Zw⟩)],Cy [(1,[0,1]),(5,[0,1,2,3,4,5,6,7,8,9,11,13,14,15,16,17,18]),(9,[0,1,2,3,4,5,6,7,8,9,11,12,13,14,16,17,18]),(13,[0,1,2,3,4,5,6,7,8,9,11,12,13,14,15,17,18]),(17,[0,1,2,3,4,5,6,7,8,9,11,12,13,14,15,16,18])]⟩ r6 Tryz.f86 (Ng 0 ph n) ω v=yG.un (fun(p0:AAd)=>
 if 0+p0.1.length≤Go.M.DE then(
 if 0+p0.2.2.2.1.length≤Go.M.DE then(
 (WB (p0.2.2.2.2.1,p0.2.2.2.2.2.1,())).bind fun u2=>
 if 0+p0.2.2.2.2.2.2.2.2.2.1.length≤Go.M.DE then(
 (Bk n) 0 p0.1 p0.2.1 p0.2.2.1 p0.2.2.2.1 p0.2.2.2.2.1 p0.2.2.2.2.2.1 p0.2.2.2.2.2.2.1 p0.2.2.2.2.2.2.2.1 p0.2.2.2.2.2.2.2.2.1 p0.2.2.2.2.2.2.2.2.2.1 p0.2.2.2.2.2.2.2.2.2.2.1 0 0 false [] [] [] [] [] [] [] [] p0.2.1 u2.1.1.2.1 p0.2.2.2.2.2.2.2.2.2.2.1 p0.1 [] p0.2.2.2.1 u2.2.1 [] [] [] p0.2.2.2.2.2.2.2.2.2.1)else none)else none)else none) v:=(AE AFw (AE AHH (AE AHA (AE AF0 (AE AGe (AE AGh AFm (AE AGW AHd AEg)) (AE ADI AC8 (AE AC9 ACl (AE ACy ACq (AE ABO AEc ADw))))) (AE ABg (AE AEL (AE ABk ADo AC1) (AE AEB ACF (AE AEs AEF (AE ADM ABE ACD)))) (AE ADb AB5 (AE ACg ACw (AE ADR ABp AA2))))) (AE ACW (AE ABn (AE AAz AEa (AE AA9 AEv ADH)) (AE AB2 ADV (AE ADZ AE1 (AE ADa ADt (AE ADv ADK (AE ABQ AFD AFH)))))) (AE AC4 (AE AE9 (AE ADz AFE AC2) (AE ACc AD9 (AE ACp AEz (AE AEX AEb (AE AES ABm ADj))))) (AE AB6 ADm (AE ABN ABK (AE AA7 AEK (AE ADN ABh ABb))))))) (AE AEI (AE ACZ (AE ACA AFA (AE AB3 ACE (AE AC7 ACI (AE ABR AE2 ABy)))) (AE AEd AEq (AE ADB ACx (AE ABL ACb (AE ACU ABo (AE ABq zD zW)))))) (AE tM (AE yZ (AE sv sd (AE v7 tX (AE xq vi s5))) (AE tu vV (AE zo zZ (AE vY uL (AE wt vB xG))))) (AE u_ (AE uu (AE yj yk (AE tn zn wb)) (AE sY vu (AE yw wN (AE xz zf yM)))) (AE uM (AE vh (AE zw tN yy) (AE ui uw (AE wq uq zN))) (AE ue uT (AE yl zJ uK))))))) (AE vf (AE yF (AE yC (AE yB (AE xt (AE xk tF xc) (AE zY yV (AE wY uk (AE ta wC xp)))) (AE zh z5 (AE yq vb (AE wU sn zx)))) (AE w3 (AE uP (AE sj xh zq) (AE za xL (AE zG xH (AE xf uQ (AE uh th xQ))))) (AE xw xJ (AE uS s_ (AE vq wM (AE uo uy yc)))))) (AE zE (AE wK (AE yE yJ (AE wg zb (AE uV zz tP))) (AE vk vW (AE tE tv (AE uA ud (AE xg xN wh))))) (AE zT (AE xl (AE zk uj (AE vD vI vC)) (AE yQ zS (AE vF zm (AE sw xi u0)))) (AE w7 (AE yI (AE ug uD zL) (AE wc su (AE s6 sf sa))) (AE tp ua (AE vO zp xj)))))) (AE xY (AE vH (AE xA tQ (AE vn zi (AE xP zI uz))) (AE ya tL (AE tq sr (AE tD w9 (AE tT xm zr))))) (AE wv (AE xE (AE wQ tB (AE xD ve zV)) (AE y_ uW (AE xR yK (AE vj tK wx)))) (AE z6 (AE yg (AE tz yS z7) (AE zt vl (AE yR zP yn))) (AE yO yh (AE tw tV w4))))))) ω WB Zy Vf Z5 Zw n v
theorem e86(n:Nat)(ω:List Bool)(v:yG.V):FQ C86 r6 Tryz.f86 (Ng 0 ph n) ω v=yG.un (L3 (Bk n) (Bw n) (Bi n) (Bg n)) v:=b86 D7 C4 Cj Ck Bb n ω v
def s86:SQ:=mk Tryz.func86 yG o86 Ki [oW,o9,pD,oY,xr] [(1,[0,1]),(5,[0,1,2,3,4,5,6,7,8,9,11,13,14,15,16,17,18]),(9,[0,1,2,3,4,5,6,7,8,9,11,12,13,14,16,17,18]),(13,[0,1,2,3,4,5,6,7,8,9,11,12,13,14,15,17,18]),(17,[0,1,2,3,4,5,6,7,8,9,11,12,13,14,15,16,18])] ph (hJ:= .cons (fun _=>rfl) AGb (.cons (fun _=>rfl) AFh (.cons (fun _=>rfl) ACK (.cons (fun _=>rfl) AE7 (.nil))))) (he:=e86 Ac)
def AGQ:SQ:=mk Tryz.func342 G4 dN J9 [eD] [] [⟨3,⟨[(0,Br),(3,qY),(4,Br)],[ED]⟩,FY⟩]
abbrev ly:Bn:=⟨[(0,fI),(1,.row Y4),(2,X3)],[]⟩
abbrev ABX:Bn:=⟨[(0,.Jy [.inr [.ref 0,.v tI],.inl (.v tI),.inl (.v .bool)])],[N_]⟩
def AGv:PQ:=⟨ly,ABX,(ly.un I2)⟩
def AKY:Xk:=⟨T,Te (SP.l [YO,pO,oW]),Cy [(6,[0,1,2])]⟩
def AD0:List (Lp ABX):=[]
theorem AIy(AGt:AAT→List Int→Option YF)(AGo:AAT→AAj→Option Mt)(WB:AAj→Option Dg)(n:Nat)(ω:List Bool)(v:ly.V):FQ ⟨T,Te [(161,⟨ABC,AGD,ABC.un AGt⟩),(165,⟨ACX,AFf,ACX.un AGo⟩),(184,⟨Xi,kO,Xi.un WB⟩)],Cy [(6,[0,1,2])]⟩ AGv Tryz.f341 (Ng 0 AD0 n) ω v=ly.un (fun(p0:AAT) (p1:AAj) (p2:AAD)=>
 (AGo (p0.1,p0.2.1,()) (p1.1,p1.2.1,())).bind fun u1=>
 cond (!u1.1.1)
  (some (((((),0,()),0,false,()),()),([],())))
 ((WB (p1.1,p1.2.1,())).bind fun u2=>
 (AGt (p0.1,p0.2.1,()) p2).bind fun u3=>
 cond (!u3.1.1)
  (some (((((),u2.1.1.2.1,()),0,false,()),()),(u2.2.1,())))
 (cond (((p1.1.length:Int)==30))
  (some (((((),u2.1.1.2.1,()),0,false,()),()),(u2.2.1,())))
 (if 0+p2.length≤Go.M.DE then(
 if u2.2.1.length+1≤Go.M.DE then(
 let x5:AAG:=u2.2.1++[(p2,false,0,())]
 some (((((),u2.1.1.2.1,()),(x5.length:Int),true,()),()),(x5,())))else none)else none)))) v:=by rcases ω with _|⟨_|_,_|⟨_|_,_|⟨_|_,_|⟨_|_,_|⟨_|_,_⟩⟩⟩⟩⟩<;>kernel_rfl
theorem AKS(n:Nat)(ω:List Bool)(v:ly.V):FQ AKY AGv Tryz.f341 (Ng 0 AD0 n) ω v=ly.un (I2) v:=AIy C_ I5 D7 n ω v
def AIL:SQ:=mk Tryz.func341 ly ABX I2 [YO,pO,oW] [(6,[0,1,2])] AD0 (hJ:= .nil) (he:=AKS Ac)
def AI1:SQ:=mk Tryz.func275 VC ⟨[(0,.Jy [.inr [.ref 0,.v tI,.ref 1,.ref 2,.ref 8,.v tI,.ref 9,.ref 10,.ref 6,.ref 7,.v .bool],.inl (.v tI)])],[Ea,bf,Ea,LN,LN,LN,PY,OI,QN,eV,Wl]⟩ QH [AIL,AGQ] [(3,[0,1,2,3,4,5,6,7,8,9,10])] [] (he:=fun ω v=>by rcases ω with _|⟨_|_,_|⟨_|_,_⟩⟩<;>kernel_rfl)
def ADJ:SQ:=mk Tryz.func343 jM EZ Ia [eD] [] []
abbrev lE:Bn:=⟨[(0,fI),(1,.row Y6),(2,.c (.v .str))],[]⟩
abbrev ACe:Bn:=⟨[(0,.Jy [.inr [.v tI,.ref 0],.inl (.v tI),.inl (.v .bool)])],[bc]⟩
def AHe:PQ:=⟨lE,ACe,(lE.un ES)⟩
def AKq:Xk:=⟨T,Te (SP.l [qO,pD]),Cy []⟩
def ADU:List (Lp ACe):=[]
theorem AJW(ACR:AAT→AAn→Option JD)(Vf:AAn→Option DZ)(n:Nat)(ω:List Bool)(v:lE.V):FQ ⟨T,Te [(166,⟨AE_,AF7,AE_.un ACR⟩),(186,⟨XX,kc,XX.un Vf⟩)],Cy []⟩ AHe Tryz.f344 (Ng 0 ADU n) ω v=lE.un (fun(p0:AAT) (p1:AAn) (p2:AAg)=>
 (ACR (p0.1,p0.2.1,()) (p1.1,p1.2.1,())).bind fun u1=>
 cond (!u1.1.1)
  (some ((((0,(),()),0,false,()),()),([],())))
 ((Vf (p1.1,p1.2.1,())).bind fun u2=>
 if u2.2.1.length+1≤Go.M.DE then(
 let x3:AAf:=u2.2.1++[(p2,[],false,())]
 (ACR (p0.1,p0.2.1,()) (u2.1.1.1,x3,())).bind fun u4=>
 cond (!u4.1.1)
  ((Vf (p1.1,p1.2.1,())).bind fun u5=>
  some ((((u5.1.1.1,(),()),0,false,()),()),(u5.2.1,())))
 (some ((((u2.1.1.1,(),()),(x3.length:Int),true,()),()),(x3,()))))else none)) v:=by rcases ω with _|⟨_|_,_|⟨_|_,_⟩⟩<;>kernel_rfl
theorem AKE(n:Nat)(ω:List Bool)(v:lE.V):FQ AKq AHe Tryz.f344 (Ng 0 ADU n) ω v=lE.un (ES) v:=AJW E9 Cj n ω v
def AFg:SQ:=mk Tryz.func344 lE ACe ES [qO,pD] [] ADU (hJ:= .nil) (he:=AKE Ac)
abbrev Xx:Bn:=kH
abbrev jw:Bn:=G4
def dF:SQ:=mk Tryz.func177 Xx jw Bl [] [] []
def AJI:SQ:=mk Tryz.func276 VC ⟨[(0,.Jy [.inr [.ref 0,.v tI,.ref 1,.ref 2,.ref 3,.v tI,.ref 4,.ref 5,.ref 6,.ref 8,.v .bool],.inl (.v tI)])],[Ea,bf,Ea,QN,eV,Wl,PY,LN,OI]⟩ SB [dF,ADJ,AFg] [(3,[0,1,2,3,4,5,6,7,8,9,10]),(7,[0,1,2,3,4,5,6,7,8,9,10]),(11,[0,1,2,3,4,5,6,7,8,9,10,11,12,13,14,15,16,17,18]),(18,[0,1,2,3,4,5,6,7,8,9,10,11,12,13,14,15,16,17,18,19])] [⟨9,⟨[(2,Xw),(4,Ze),(9,bH),(10,Br)],[Ea,bf,Ea,QN,eV,Wl,PY,OI,ft,ib,ED,VO,ED,N_,VN,VM,VL,Qp,AGF]⟩,IW⟩,⟨16,⟨[(2,Xw),(4,Ze),(9,bH),(11,.c (.ref 19)),(12,sQ),(13,Br)],[Ea,bf,Ea,QN,eV,Wl,PY,OI,ft,ib,ED,VO,ED,N_,VN,VM,VL,Qp,AGF,Qp]⟩,G_⟩] (he:=fun ω v=>by rcases ω with _|⟨_|_,_|⟨_|_,_|⟨_|_,_⟩⟩⟩<;>kernel_rfl)
def lz:SQ:=mk Tryz.func345 jM G4 E5 [eD,a_] [] []
def AJ_:SQ:=mk Tryz.func395 AAK EZ QL [a8] [(2,[0,1])] []
def AEn:SQ:=mk Tryz.func347 AAK kE JV [lC,o9,yo,AJ_] [] []
def AJq:SQ:=mk Tryz.func277 VC gu OS [eD,a_,dF,ADJ,lz,je,AEn] [(9,[0,1,2,3,4,5,6,7,8,9,10,11]),(11,[0,1,2,3,4,5,6,7,8,9,10,11,12])] [] (he:=fun ω v=>by rcases ω with _|⟨_|_,_|⟨_|_,_⟩⟩<;>kernel_rfl)
def AFk:SQ:=mk Tryz.func413 ⟨[(0,.row Y1),(1,.row Y1)],[]⟩ ⟨AGN,[]⟩ MQ [] [] []
def AD6:SQ:=mk Tryz.func399 ⟨[(0,Zl),(1,.row Y1)],[]⟩ qR MA [AFk] [(6,[0,1]),(7,[0]),(9,[0,1])] [⟨4,⟨[(0,Zl),(3,MZ),(5,xP7),(6,sQ),(7,Br)],[ABx,KG]⟩,Gm⟩]
def AF3:SQ:=mk Tryz.func365 mW kE JJ [eD,lC,o9,AD6] [(3,[0,1]),(8,[0,1,2,3,5,6])] [⟨5,AAR,Ga⟩] (he:=fun ω v=>by rcases ω with _|⟨_|_,_|⟨_|_,_⟩⟩<;>kernel_rfl)
def ACn:SQ:=mk Tryz.func348 kf kE Gn [AF3] [] []
abbrev Xm:Bn:=AAO
abbrev jX:Bn:=AAV
def tf:SQ:=mk Tryz.func396 Xm jX Eo [] [] [⟨2,⟨[(0,Zl),(1,Br),(4,MZ),(6,Br)],[ABx]⟩,LJ⟩]
abbrev Xf:Bn:=⟨[(0,fI),(1,.row Y6),(2,Br),(3,Br)],[]⟩
abbrev kW:Bn:=AAE
def ACs:SQ:=mk Tryz.func392 Xf kW CZ [eD,YO,qO,pD,lu] [(6,[0,1,2,4]),(7,[0,1,2,4])] []
def AJ9:SQ:=mk Tryz.func402 kH ⟨[(0,.Jy [.inl (.v tI),.inl (.v .bool)])],[]⟩ NJ [eD] [] []
abbrev Xu:Bn:=⟨[(0,.row Y7),(1,Br)],[]⟩
abbrev kj:Bn:=AAV
def ADl:SQ:=mk Tryz.func359 Xu kj DC [tf,AJ9] [] []
abbrev Pd:Bn:=⟨[(0,fI),(1,.row Y7),(2,Br),(3,Br)],[]⟩
abbrev Z2:Bn:=nH
def wH:SQ:=mk Tryz.func394 Pd Z2 Cr [eD,o0,oY,lu] [(6,[0,1,2,3,4,6])] []
abbrev mM:Bn:=⟨[(0,ACj),(1,Br)],[Ea,UU,Ea,QN,eV,Wl,PY,OI]⟩
abbrev ACm:Bn:=⟨sX,AII⟩
def Z3:PQ:=⟨mM,ACm,(mM.un QQ)⟩
def oy:Xk:=⟨T,Te (SP.l [a_,a8,dF,zR,je,ADl,ACs,wH,tf]),Cy [(10,[0,1,2,3,4,5,6,7,8,9,10,11]),(18,[0,1,2,3,4,5,6,7,8,9,10,11,12,13,14,15,16,17,18,19])]⟩
def Yv:List (Lp ACm):=[⟨3,⟨[(1,Br),(2,Xw),(4,Ze),(5,bH),(6,Br)],[Ea,UU,Ea,QN,V3,Wl,PY,OI,ft,ib,ED,VO,ED,N_,VN,VM,VL,Qp,lQ]⟩,A5⟩,⟨8,⟨[(1,Br),(2,Xw),(4,Ze),(5,bH),(6,Br),(7,Zv),(8,Br),(46,.c (.ptr 18 2)),(47,Br),(48,Zv),(49,Br),(50,sQ)],tA⟩,Ai⟩,⟨15,⟨[(1,Br),(2,Xw),(4,Ze),(5,bH),(6,Br),(7,Zv),(11,Br),(46,.c (.ptr 18 2)),(47,Br),(48,Zv),(49,Br),(50,sQ)],tA⟩,Ak⟩,⟨21,⟨[(1,Br),(2,Xw),(4,Ze),(5,bH),(13,Br)],[Ea,UU,Ea,QN,V3,dP,PY,OI,ft,ib,ED,VO,ED,N_,VN,VM,VL,Qp,lQ]⟩,A_⟩,⟨25,⟨[(1,Br),(2,Xw),(4,Ze),(5,bH),(13,Br),(14,Zv),(15,Br)],[Ea,UU,Ea,QN,V3,dP,PY,OI,ft,ib,ED,VO,ED,N_,VN,VM,VL,Qp,lQ,.mem [.v tI,.v tI,.sl true tI,.sl true Y1,.v .bool,.sl true (.sl tI)]]⟩,Az⟩]
abbrev Zu:Bn:=⟨[(1,Br),(2,Xw),(4,Ze),(5,bH),(6,Br)],[Ea,UU,Ea,QN,V3,Wl,PY,OI,ft,ib,ED,VO,ED,N_,VN,VM,VL,Qp,lQ]⟩
abbrev UG:Bn:=⟨[(1,Br),(2,Xw),(4,Ze),(5,bH),(6,Br),(7,Zv),(8,Br),(46,.c (.ptr 18 2)),(47,Br),(48,Zv),(49,Br),(50,sQ)],tA⟩
abbrev WN:Bn:=⟨[(1,Br),(2,Xw),(4,Ze),(5,bH),(6,Br),(7,Zv),(11,Br),(46,.c (.ptr 18 2)),(47,Br),(48,Zv),(49,Br),(50,sQ)],tA⟩
abbrev WO:Bn:=⟨[(1,Br),(2,Xw),(4,Ze),(5,bH),(13,Br)],[Ea,UU,Ea,QN,V3,dP,PY,OI,ft,ib,ED,VO,ED,N_,VN,VM,VL,Qp,lQ]⟩
abbrev WE:Bn:=⟨[(1,Br),(2,Xw),(4,Ze),(5,bH),(13,Br),(14,Zv),(15,Br)],[Ea,UU,Ea,QN,V3,dP,PY,OI,ft,ib,ED,VO,ED,N_,VN,VM,VL,Qp,lQ,.mem [.v tI,.v tI,.sl true tI,.sl true Y1,.v .bool,.sl true (.sl tI)]]⟩
theorem AEk(Wm:List Int→Int→Option EV)(XN:Int→Option FP)(Wn:Int→Int→Option FU)(Wo:Int→Option HO)(We:AAj→Int→Option Ef)(Xq:AAY→Int→Option Dy)(Wd:AAT→AAn→Int→Int→Option Dx)(NR:AAT→AAY→Int→Int→Option CV)(VY:AAF→Int→Option EI)(n:Nat)(v:Zu.V)(ω:List Bool):GL ⟨T,Te [(163,⟨Xc,kB,Xc.un Wm⟩),(170,⟨XK,kh,XK.un XN⟩),(177,⟨Xx,jw,Xx.un Wn⟩),(337,⟨XG,ji,XG.un Wo⟩),(346,⟨XW,kd,XW.un We⟩),(359,⟨Xu,kj,Xu.un Xq⟩),(392,⟨Xf,kW,Xf.un Wd⟩),(394,⟨Pd,Z2,Pd.un NR⟩),(396,⟨Xm,jX,Xm.un VY⟩)],Cy [(10,[0,1,2,3,4,5,6,7,8,9,10,11]),(18,[0,1,2,3,4,5,6,7,8,9,10,11,12,13,14,15,16,17,18,19])]⟩ Z3 Tryz.f349 (Ng 8 Yv n) 3 ω (Zu.st 207 v)=Zu.un (fun(t1:Int) (t6:Int) (b0:AAD) (b1:AAH) (b2:AAD) (b3:AAG) (b4:AAP) (b5:AAQ) (b6:AAS) (b7:AAL) (CR:Int) (Ca:Int) (BV:Bool) (DV:Int) (Dw:Int) (CE:Bool) (MF:AAD) (F6:AAH) (Db:AAD) (Fg:AAG) (FV:AAP) (D8:AAQ) (ER:AAS) (Em:AAL) (Bo:AAF) (CA:AAF) (Bq:Int)=>
 cond ((decide (t6<(b4.length:Int))))
  (if(0:Int)≤t6∧t6<(b4.length:Int)then(
  (We (b3,Ca,()) ((b4.getD (t6.toNat) (0,[],())).1)).bind fun u3=>
  (Wm u3.2.1 t1).bind fun u4=>
  cond (!u4.1.1)
   ((A5 n) t1 (AX (t6+1)) b0 b1 b2 b3 b4 b5 b6 b7 CR Ca BV DV Dw CE MF F6 Db Fg FV D8 ER Em Bo CA Bq)
  (let x5:Int:=(b4.getD (t6.toNat) (0,[],())).1
  cond (decide (Bq≥x5))
   ((A5 n) t1 (AX (t6+1)) b0 b1 b2 b3 b4 b5 b6 b7 CR Ca BV DV Dw CE MF F6 Db Fg FV D8 ER Em Bo CA Bq)
  ((Ai n) t1 t6 1 Bq x5 (decide (Bq≥x5)) b0 b1 b2 b3 b4 b5 b6 b7 CR Ca BV DV Dw CE MF F6 Db Fg FV D8 ER Em Bo CA Bq ((b4.getD (t6.toNat) (0,[],())).1) ((b4.getD (t6.toNat) (0,[],())).2.1))))else none)
 ((A_ n) t1 0 b0 b1 b2 b3 b4 b5 b6 b7 CR Ca BV DV Dw CE MF F6 Db Fg FV D8 ER Em Bo CA Bq)) v:=by kernel_rfl
theorem AEH(n:Nat)(v:Zu.V)(ω:List Bool):GL oy Z3 Tryz.f349 (Ng 8 Yv n) 3 ω (Zu.st 207 v)=Zu.un (Iw (A5 n) (Ai n) (Ak n) (A_ n) (Az n)) v:=AEk B6 Bu Bl Ep Bm DC CZ Cr Eo n v ω
def A7(ω:List Bool):Prop:= ∀(Wm:List Int→Int→Option EV) (XN:Int→Option FP) (Wn:Int→Int→Option FU) (Wo:Int→Option HO) (We:AAj→Int→Option Ef) (Xq:AAY→Int→Option Dy) (Wd:AAT→AAn→Int→Int→Option Dx) (NR:AAT→AAY→Int→Int→Option CV) (VY:AAF→Int→Option EI) (n:Nat) (v:UG.V),GL ⟨T,Te [(163,⟨Xc,kB,Xc.un Wm⟩),(170,⟨XK,kh,XK.un XN⟩),(177,⟨Xx,jw,Xx.un Wn⟩),(337,⟨XG,ji,XG.un Wo⟩),(346,⟨XW,kd,XW.un We⟩),(359,⟨Xu,kj,Xu.un Xq⟩),(392,⟨Xf,kW,Xf.un Wd⟩),(394,⟨Pd,Z2,Pd.un NR⟩),(396,⟨Xm,jX,Xm.un VY⟩)],Cy [(10,[0,1,2,3,4,5,6,7,8,9,10,11]),(18,[0,1,2,3,4,5,6,7,8,9,10,11,12,13,14,15,16,17,18,19])]⟩ Z3 Tryz.f349 (Ng 8 Yv n) 8 ω (UG.st 207 v)=UG.un (fun(t1:Int) (t6:Int) (t8:Int) (t47:Int) (t49:Int) (t50:Bool) (b0:AAD) (b1:AAH) (b2:AAD) (b3:AAG) (b4:AAP) (b5:AAQ) (b6:AAS) (b7:AAL) (CR:Int) (Ca:Int) (BV:Bool) (DV:Int) (Dw:Int) (CE:Bool) (MF:AAD) (F6:AAH) (Db:AAD) (Fg:AAG) (FV:AAP) (D8:AAQ) (ER:AAS) (Em:AAL) (Bo:AAF) (CA:AAF) (Bq:Int) (Cp:Int) (Bf:AAf)=>
 cond ((decide (t8≤(Bf.length:Int))))
  ((Wn Cp t8).bind fun u7=>
  (VY Bo u7.1.1).bind fun u8=>
  cond (!u8.1.1.2.1)
   ((Ai n) t1 t6 (AX (t8+1)) t47 t49 t50 b0 b1 b2 b3 b4 b5 b6 b7 CR Ca BV DV Dw CE MF F6 Db Fg FV D8 ER Em Bo CA Bq Cp Bf)
  (cond (u8.1.1.1.2.1 !=0)
   ((Ai n) t1 t6 (AX (t8+1)) t47 t49 t50 b0 b1 b2 b3 b4 b5 b6 b7 CR Ca BV DV Dw CE MF F6 Db Fg FV D8 ER Em Bo CA Bq Cp Bf)
  (if(0:Int)≤AX (t8-1)∧AX (t8-1)<(Bf.length:Int)then(
  cond (((Bf.getD ((AX (t8-1)).toNat) ([],[],false,())).2.2.1))
   ((Ai n) t1 t6 (AX (t8+1)) t47 t49 t50 b0 b1 b2 b3 b4 b5 b6 b7 CR Ca BV DV Dw CE MF F6 Db Fg FV D8 ER Em Bo CA Bq Cp Bf)
  ((Wd (b0,CR,()) (Cp,Bf,()) t8 t1).bind fun HW=>
  (Ai n) t1 t6 (AX (t8+1)) t47 t49 t50 b0 b1 b2 b3 b4 b5 b6 b7 CR Ca BV DV Dw CE MF F6 Db Fg FV D8 ER Em Bo CA Bq HW.1.1.1.1 HW.2.1))else none)))
 (if(0:Int)≤t6∧t6<(b4.length:Int)then(
 (Ak n) t1 t6 0 t47 t49 t50 b0 b1 b2 b3 (b4.set (t6.toNat) (Cp,Bf,())) b5 b6 b7 CR Ca BV DV Dw CE MF F6 Db Fg FV D8 ER Em Bo CA Bq Cp Bf)else none)) v
theorem rC:A7 []:=by delta A7;intros;kernel_rfl
theorem rK:A7 (false::[]):=by delta A7;intros;kernel_rfl
theorem q6:A7 (false::false::[]):=by delta A7;intros;kernel_rfl
theorem r9:A7 (false::false::false::[]):=by delta A7;intros;kernel_rfl
theorem rG(ω:List Bool):A7 (false::false::false::false::ω):=by delta A7;intros;kernel_rfl
theorem p9(ω:List Bool):A7 (false::false::false::true::ω):=by delta A7;intros;kernel_rfl
theorem pr(ω:List Bool):A7 (false::false::true::ω):=by delta A7;intros;kernel_rfl
theorem qZ:A7 (false::true::[]):=by delta A7;intros;kernel_rfl
theorem qL:A7 (false::true::false::[]):=by delta A7;intros;kernel_rfl
theorem pA:A7 (false::true::false::false::[]):=by delta A7;intros;kernel_rfl
theorem ow(ω:List Bool):A7 (false::true::false::false::false::ω):=by delta A7;intros;kernel_rfl
theorem ni(ω:List Bool):A7 (false::true::false::false::true::ω):=by delta A7;intros;kernel_rfl
theorem oD:A7 (false::true::false::true::[]):=by delta A7;intros;kernel_rfl
theorem pQ(ω:List Bool):A7 (false::true::false::true::false::ω):=by delta A7;intros;kernel_rfl
theorem pN:A7 (false::true::false::true::true::[]):=by delta A7;intros;kernel_rfl
theorem oG(ω:List Bool):A7 (false::true::false::true::true::false::ω):=by delta A7;intros;kernel_rfl
theorem pY(ω:List Bool):A7 (false::true::false::true::true::true::ω):=by delta A7;intros;kernel_rfl
theorem oS:A7 (false::true::true::[]):=by delta A7;intros;kernel_rfl
theorem pC(ω:List Bool):A7 (false::true::true::false::ω):=by delta A7;intros;kernel_rfl
theorem o3:A7 (false::true::true::true::[]):=by delta A7;intros;kernel_rfl
theorem np(ω:List Bool):A7 (false::true::true::true::false::ω):=by delta A7;intros;kernel_rfl
theorem oe(ω:List Bool):A7 (false::true::true::true::true::ω):=by delta A7;intros;kernel_rfl
theorem nr:A7 (true::[]):=by delta A7;intros;kernel_rfl
theorem nv(ω:List Bool):A7 (true::false::ω):=by delta A7;intros;kernel_rfl
theorem pH:A7 (true::true::[]):=by delta A7;intros;kernel_rfl
theorem oN(ω:List Bool):A7 (true::true::false::ω):=by delta A7;intros;kernel_rfl
theorem oH:A7 (true::true::true::[]):=by delta A7;intros;kernel_rfl
theorem pB(ω:List Bool):A7 (true::true::true::false::ω):=by delta A7;intros;kernel_rfl
theorem oB(ω:List Bool):A7 (true::true::true::true::ω):=by delta A7;intros;kernel_rfl
theorem ADW(Wm:List Int→Int→Option EV)(XN:Int→Option FP)(Wn:Int→Int→Option FU)(Wo:Int→Option HO)(We:AAj→Int→Option Ef)(Xq:AAY→Int→Option Dy)(Wd:AAT→AAn→Int→Int→Option Dx)(NR:AAT→AAY→Int→Int→Option CV)(VY:AAF→Int→Option EI)(n:Nat)(v:UG.V)(ω:List Bool):GL ⟨T,Te [(163,⟨Xc,kB,Xc.un Wm⟩),(170,⟨XK,kh,XK.un XN⟩),(177,⟨Xx,jw,Xx.un Wn⟩),(337,⟨XG,ji,XG.un Wo⟩),(346,⟨XW,kd,XW.un We⟩),(359,⟨Xu,kj,Xu.un Xq⟩),(392,⟨Xf,kW,Xf.un Wd⟩),(394,⟨Pd,Z2,Pd.un NR⟩),(396,⟨Xm,jX,Xm.un VY⟩)],Cy [(10,[0,1,2,3,4,5,6,7,8,9,10,11]),(18,[0,1,2,3,4,5,6,7,8,9,10,11,12,13,14,15,16,17,18,19])]⟩ Z3 Tryz.f349 (Ng 8 Yv n) 8 ω (UG.st 207 v)=UG.un (fun(t1:Int) (t6:Int) (t8:Int) (t47:Int) (t49:Int) (t50:Bool) (b0:AAD) (b1:AAH) (b2:AAD) (b3:AAG) (b4:AAP) (b5:AAQ) (b6:AAS) (b7:AAL) (CR:Int) (Ca:Int) (BV:Bool) (DV:Int) (Dw:Int) (CE:Bool) (MF:AAD) (F6:AAH) (Db:AAD) (Fg:AAG) (FV:AAP) (D8:AAQ) (ER:AAS) (Em:AAL) (Bo:AAF) (CA:AAF) (Bq:Int) (Cp:Int) (Bf:AAf)=>
 cond ((decide (t8≤(Bf.length:Int))))
  ((Wn Cp t8).bind fun u7=>
  (VY Bo u7.1.1).bind fun u8=>
  cond (!u8.1.1.2.1)
   ((Ai n) t1 t6 (AX (t8+1)) t47 t49 t50 b0 b1 b2 b3 b4 b5 b6 b7 CR Ca BV DV Dw CE MF F6 Db Fg FV D8 ER Em Bo CA Bq Cp Bf)
  (cond (u8.1.1.1.2.1 !=0)
   ((Ai n) t1 t6 (AX (t8+1)) t47 t49 t50 b0 b1 b2 b3 b4 b5 b6 b7 CR Ca BV DV Dw CE MF F6 Db Fg FV D8 ER Em Bo CA Bq Cp Bf)
  (if(0:Int)≤AX (t8-1)∧AX (t8-1)<(Bf.length:Int)then(
  cond (((Bf.getD ((AX (t8-1)).toNat) ([],[],false,())).2.2.1))
   ((Ai n) t1 t6 (AX (t8+1)) t47 t49 t50 b0 b1 b2 b3 b4 b5 b6 b7 CR Ca BV DV Dw CE MF F6 Db Fg FV D8 ER Em Bo CA Bq Cp Bf)
  ((Wd (b0,CR,()) (Cp,Bf,()) t8 t1).bind fun HW=>
  (Ai n) t1 t6 (AX (t8+1)) t47 t49 t50 b0 b1 b2 b3 b4 b5 b6 b7 CR Ca BV DV Dw CE MF F6 Db Fg FV D8 ER Em Bo CA Bq HW.1.1.1.1 HW.2.1))else none)))
 (if(0:Int)≤t6∧t6<(b4.length:Int)then(
 (Ak n) t1 t6 0 t47 t49 t50 b0 b1 b2 b3 (b4.set (t6.toNat) (Cp,Bf,())) b5 b6 b7 CR Ca BV DV Dw CE MF F6 Db Fg FV D8 ER Em Bo CA Bq Cp Bf)else none)) v:=(AE rC (AE rK (AE q6 (AE r9 rG p9) pr) (AE qZ (AE qL (AE pA ow ni) (AE oD pQ (AE pN oG pY))) (AE oS pC (AE o3 np oe)))) (AE nr nv (AE pH oN (AE oH pB oB)))) ω Wm XN Wn Wo We Xq Wd NR VY n v
theorem ABY(n:Nat)(v:UG.V)(ω:List Bool):GL oy Z3 Tryz.f349 (Ng 8 Yv n) 8 ω (UG.st 207 v)=UG.un (Ir (A5 n) (Ai n) (Ak n) (A_ n) (Az n)) v:=ADW B6 Bu Bl Ep Bm DC CZ Cr Eo n v ω
theorem vZ(Wm:List Int→Int→Option EV)(XN:Int→Option FP)(Wn:Int→Int→Option FU)(Wo:Int→Option HO)(We:AAj→Int→Option Ef)(Xq:AAY→Int→Option Dy)(Wd:AAT→AAn→Int→Int→Option Dx)(NR:AAT→AAY→Int→Int→Option CV)(VY:AAF→Int→Option EI)(n:Nat)(v:WN.V)(ω:List Bool):GL ⟨T,Te [(163,⟨Xc,kB,Xc.un Wm⟩),(170,⟨XK,kh,XK.un XN⟩),(177,⟨Xx,jw,Xx.un Wn⟩),(337,⟨XG,ji,XG.un Wo⟩),(346,⟨XW,kd,XW.un We⟩),(359,⟨Xu,kj,Xu.un Xq⟩),(392,⟨Xf,kW,Xf.un Wd⟩),(394,⟨Pd,Z2,Pd.un NR⟩),(396,⟨Xm,jX,Xm.un VY⟩)],Cy [(10,[0,1,2,3,4,5,6,7,8,9,10,11]),(18,[0,1,2,3,4,5,6,7,8,9,10,11,12,13,14,15,16,17,18,19])]⟩ Z3 Tryz.f349 (Ng 8 Yv n) 15 ω (WN.st 207 v)=WN.un (fun(t1:Int) (t6:Int) (t11:Int) (t47:Int) (t49:Int) (t50:Bool) (b0:AAD) (b1:AAH) (b2:AAD) (b3:AAG) (b4:AAP) (b5:AAQ) (b6:AAS) (b7:AAL) (CR:Int) (Ca:Int) (BV:Bool) (DV:Int) (Dw:Int) (CE:Bool) (MF:AAD) (F6:AAH) (Db:AAD) (Fg:AAG) (FV:AAP) (D8:AAQ) (ER:AAS) (Em:AAL) (Bo:AAF) (CA:AAF) (Bq:Int) (Cp:Int) (Bf:AAf)=>
 cond ((decide (t11<(b7.length:Int))))
  (if(0:Int)≤t11∧t11<(b7.length:Int)then(
  let x65:Int:=(b7.getD (t11.toNat) (0,[],false,())).1
  (XN x65).bind fun u66=>
  cond (u66.1.1==Cp)
   ((Wo x65).bind fun u67=>
   cond ((decide (u67.1.1≤(Bf.length:Int))))
    ((Wo x65).bind fun u69=>
    if(0:Int)≤AX (u69.1.1-1)∧AX (u69.1.1-1)<(Bf.length:Int)then(
    cond (((Bf.getD ((AX (u69.1.1-1)).toNat) ([],[],false,())).2.2.1))
     (if(0:Int)≤t11∧t11<(b7.length:Int)then(
     (Ak n) t1 t6 (AX (t11+1)) t47 t49 t50 b0 b1 b2 b3 b4 b5 b6 (b7.set (t11.toNat) ((b7.getD (t11.toNat) (0,[],false,())).1,(b7.getD (t11.toNat) (0,[],false,())).2.1,true,())) CR Ca BV DV Dw CE MF F6 Db Fg FV D8 ER Em Bo CA Bq Cp Bf)else none)
    ((Ak n) t1 t6 (AX (t11+1)) t47 t49 t50 b0 b1 b2 b3 b4 b5 b6 b7 CR Ca BV DV Dw CE MF F6 Db Fg FV D8 ER Em Bo CA Bq Cp Bf))else none)
   ((Ak n) t1 t6 (AX (t11+1)) t47 t49 t50 b0 b1 b2 b3 b4 b5 b6 b7 CR Ca BV DV Dw CE MF F6 Db Fg FV D8 ER Em Bo CA Bq Cp Bf))
  ((Ak n) t1 t6 (AX (t11+1)) t47 t49 t50 b0 b1 b2 b3 b4 b5 b6 b7 CR Ca BV DV Dw CE MF F6 Db Fg FV D8 ER Em Bo CA Bq Cp Bf))else none)
 ((A5 n) t1 (AX (t6+1)) b0 b1 b2 b3 b4 b5 b6 b7 CR Ca BV DV Dw CE MF F6 Db Fg FV D8 ER Em Bo CA Bq)) v:=by kernel_rfl
theorem uU(n:Nat)(v:WN.V)(ω:List Bool):GL oy Z3 Tryz.f349 (Ng 8 Yv n) 15 ω (WN.st 207 v)=WN.un (Ht (A5 n) (Ai n) (Ak n) (A_ n) (Az n)) v:=vZ B6 Bu Bl Ep Bm DC CZ Cr Eo n v ω
theorem tb(Wm:List Int→Int→Option EV)(XN:Int→Option FP)(Wn:Int→Int→Option FU)(Wo:Int→Option HO)(We:AAj→Int→Option Ef)(Xq:AAY→Int→Option Dy)(Wd:AAT→AAn→Int→Int→Option Dx)(NR:AAT→AAY→Int→Int→Option CV)(VY:AAF→Int→Option EI)(n:Nat)(v:WO.V)(ω:List Bool):GL ⟨T,Te [(163,⟨Xc,kB,Xc.un Wm⟩),(170,⟨XK,kh,XK.un XN⟩),(177,⟨Xx,jw,Xx.un Wn⟩),(337,⟨XG,ji,XG.un Wo⟩),(346,⟨XW,kd,XW.un We⟩),(359,⟨Xu,kj,Xu.un Xq⟩),(392,⟨Xf,kW,Xf.un Wd⟩),(394,⟨Pd,Z2,Pd.un NR⟩),(396,⟨Xm,jX,Xm.un VY⟩)],Cy [(10,[0,1,2,3,4,5,6,7,8,9,10,11]),(18,[0,1,2,3,4,5,6,7,8,9,10,11,12,13,14,15,16,17,18,19])]⟩ Z3 Tryz.f349 (Ng 8 Yv n) 21 ω (WO.st 207 v)=WO.un (fun(t1:Int) (t13:Int) (b0:AAD) (b1:AAH) (b2:AAD) (b3:AAG) (b4:AAP) (b5:AAQ) (b6:AAS) (b7:AAL) (CR:Int) (Ca:Int) (BV:Bool) (DV:Int) (Dw:Int) (CE:Bool) (MF:AAD) (F6:AAH) (Db:AAD) (Fg:AAG) (FV:AAP) (D8:AAQ) (ER:AAS) (Em:AAL) (Bo:AAF) (CA:AAF) (Bq:Int)=>
 cond ((decide (t13<(b5.length:Int))))
  (if(0:Int)≤t13∧t13<(b5.length:Int)then(
  (Az n) t1 t13 1 b0 b1 b2 b3 b4 b5 b6 b7 CR Ca BV DV Dw CE MF F6 Db Fg FV D8 ER Em Bo CA Bq ((b5.getD (t13.toNat) (0,0,[],[],false,[],())).1) ((b5.getD (t13.toNat) (0,0,[],[],false,[],())).2.1) ((b5.getD (t13.toNat) (0,0,[],[],false,[],())).2.2.1) ((b5.getD (t13.toNat) (0,0,[],[],false,[],())).2.2.2.1) ((b5.getD (t13.toNat) (0,0,[],[],false,[],())).2.2.2.2.1) ((b5.getD (t13.toNat) (0,0,[],[],false,[],())).2.2.2.2.2.1))else none)
 (some ((((),CR,(),(),(),Ca,(),(),(),(),BV,()),()),(b0,b1,b2,b3,b4,b5,b6,b7,())))) v:=by kernel_rfl
theorem yt(n:Nat)(v:WO.V)(ω:List Bool):GL oy Z3 Tryz.f349 (Ng 8 Yv n) 21 ω (WO.st 207 v)=WO.un (Hu (A5 n) (Ai n) (Ak n) (A_ n) (Az n)) v:=tb B6 Bu Bl Ep Bm DC CZ Cr Eo n v ω
theorem yW(Wm:List Int→Int→Option EV)(XN:Int→Option FP)(Wn:Int→Int→Option FU)(Wo:Int→Option HO)(We:AAj→Int→Option Ef)(Xq:AAY→Int→Option Dy)(Wd:AAT→AAn→Int→Int→Option Dx)(NR:AAT→AAY→Int→Int→Option CV)(VY:AAF→Int→Option EI)(n:Nat)(v:WE.V)(ω:List Bool):GL ⟨T,Te [(163,⟨Xc,kB,Xc.un Wm⟩),(170,⟨XK,kh,XK.un XN⟩),(177,⟨Xx,jw,Xx.un Wn⟩),(337,⟨XG,ji,XG.un Wo⟩),(346,⟨XW,kd,XW.un We⟩),(359,⟨Xu,kj,Xu.un Xq⟩),(392,⟨Xf,kW,Xf.un Wd⟩),(394,⟨Pd,Z2,Pd.un NR⟩),(396,⟨Xm,jX,Xm.un VY⟩)],Cy [(10,[0,1,2,3,4,5,6,7,8,9,10,11]),(18,[0,1,2,3,4,5,6,7,8,9,10,11,12,13,14,15,16,17,18,19])]⟩ Z3 Tryz.f349 (Ng 8 Yv n) 25 ω (WE.st 207 v)=WE.un (fun(t1:Int) (t13:Int) (t15:Int) (b0:AAD) (b1:AAH) (b2:AAD) (b3:AAG) (b4:AAP) (b5:AAQ) (b6:AAS) (b7:AAL) (CR:Int) (Ca:Int) (BV:Bool) (DV:Int) (Dw:Int) (CE:Bool) (MF:AAD) (F6:AAH) (Db:AAD) (Fg:AAG) (FV:AAP) (D8:AAQ) (ER:AAS) (Em:AAL) (Bo:AAF) (CA:AAF) (Bq:Int) (Cp:Int) (Bf:Int) (Tz:AAD) (Tk:AAF) (Tg:Bool) (O6:List AAD)=>
 if(0:Int)≤t13∧t13<(b5.length:Int)then(
 cond (decide (t15≤(((b5.getD (t13.toNat) (0,0,[],[],false,[],())).2.2.2.2.2.1).length:Int)))
  ((We (b3,Ca,()) Bf).bind fun u74=>
  (Wm u74.2.1 t1).bind fun u75=>
  cond (u75.1.1)
   ((Xq (Cp,Bf,Tz,Tk,Tg,O6,()) t15).bind fun qk=>
   (VY Bo qk.1.1.1.1).bind fun qu=>
   cond (qu.1.1.2.1)
    (cond (((qu.1.1.1.1==qk.1.1.1.1)&&((qu.1.1.1.2.1==qk.1.1.1.2.1)&&((qu.1.1.1.2.2.1==qk.1.1.1.2.2.1)&&((qu.1.1.1.2.2.2.1==qk.1.1.1.2.2.2.1)&&true)))))
     ((NR (b0,CR,()) (Cp,Bf,Tz,Tk,Tg,O6,()) t15 t1).bind fun oh=>
     (Az n) t1 t13 (AX (t15+1)) b0 b1 b2 b3 b4 b5 b6 b7 CR Ca BV DV Dw CE MF F6 Db Fg FV D8 ER Em Bo CA Bq oh.1.1.1.1 oh.1.1.1.2.1 oh.2.1 oh.2.2.1 oh.1.1.1.2.2.2.2.1 oh.2.2.2.1)
    ((Az n) t1 t13 (AX (t15+1)) b0 b1 b2 b3 b4 b5 b6 b7 CR Ca BV DV Dw CE MF F6 Db Fg FV D8 ER Em Bo CA Bq Cp Bf Tz Tk Tg O6))
   ((Az n) t1 t13 (AX (t15+1)) b0 b1 b2 b3 b4 b5 b6 b7 CR Ca BV DV Dw CE MF F6 Db Fg FV D8 ER Em Bo CA Bq Cp Bf Tz Tk Tg O6))
  (if(0:Int)≤t13∧t13<(b5.length:Int)then(
  (A_ n) t1 (AX (t13+1)) b0 b1 b2 b3 b4 (b5.set (t13.toNat) (Cp,Bf,Tz,Tk,Tg,O6,())) b6 b7 CR Ca BV DV Dw CE MF F6 Db Fg FV D8 ER Em Bo CA Bq)else none))
 (if(0:Int)≤t13∧t13<(b5.length:Int)then(
 (A_ n) t1 (AX (t13+1)) b0 b1 b2 b3 b4 (b5.set (t13.toNat) (Cp,Bf,Tz,Tk,Tg,O6,())) b6 b7 CR Ca BV DV Dw CE MF F6 Db Fg FV D8 ER Em Bo CA Bq)else none))else none) v:=by kernel_rfl
theorem sy(n:Nat)(v:WE.V)(ω:List Bool):GL oy Z3 Tryz.f349 (Ng 8 Yv n) 25 ω (WE.st 207 v)=WE.un (Fu (A5 n) (Ai n) (Ak n) (A_ n) (Az n)) v:=yW B6 Bu Bl Ep Bm DC CZ Cr Eo n v ω
theorem AJD(Wm:List Int→Int→Option EV)(XN:Int→Option FP)(Wn:Int→Int→Option FU)(Wo:Int→Option HO)(We:AAj→Int→Option Ef)(Xq:AAY→Int→Option Dy)(Wd:AAT→AAn→Int→Int→Option Dx)(NR:AAT→AAY→Int→Int→Option CV)(VY:AAF→Int→Option EI)(n:Nat)(ω:List Bool)(v:mM.V):FQ ⟨T,Te [(163,⟨Xc,kB,Xc.un Wm⟩),(170,⟨XK,kh,XK.un XN⟩),(177,⟨Xx,jw,Xx.un Wn⟩),(337,⟨XG,ji,XG.un Wo⟩),(346,⟨XW,kd,XW.un We⟩),(359,⟨Xu,kj,Xu.un Xq⟩),(392,⟨Xf,kW,Xf.un Wd⟩),(394,⟨Pd,Z2,Pd.un NR⟩),(396,⟨Xm,jX,Xm.un VY⟩)],Cy [(10,[0,1,2,3,4,5,6,7,8,9,10,11]),(18,[0,1,2,3,4,5,6,7,8,9,10,11,12,13,14,15,16,17,18,19])]⟩ Z3 Tryz.f349 (Ng 8 Yv n) ω v=mM.un (fun(BU:Int) (Ba:Int) (Au:Bool) (p1:Int) (b0:AAD) (b1:AAH) (b2:AAD) (b3:AAG) (b4:AAP) (b5:AAQ) (b6:AAS) (b7:AAL)=>
 if(0:Int)≤p1∧p1<(b1.length:Int)then(
 (A5 n) p1 0 b0 b1 b2 b3 b4 b5 b6 b7 BU Ba Au 0 0 false [] [] [] [] [] [] [] [] ((b1.getD (p1.toNat) ([],[],0,())).1) ((b1.getD (p1.toNat) ([],[],0,())).2.1) ((b1.getD (p1.toNat) ([],[],0,())).2.2.1))else none) v:=by kernel_rfl
theorem AKo(n:Nat)(ω:List Bool)(v:mM.V):FQ oy Z3 Tryz.f349 (Ng 8 Yv n) ω v=mM.un (Ly (A5 n) (Ai n) (Ak n) (A_ n) (Az n)) v:=AJD B6 Bu Bl Ep Bm DC CZ Cr Eo n ω v
def AKv:SQ:=mk Tryz.func349 mM ACm QQ [a_,a8,dF,zR,je,ADl,ACs,wH,tf] [(10,[0,1,2,3,4,5,6,7,8,9,10,11]),(18,[0,1,2,3,4,5,6,7,8,9,10,11,12,13,14,15,16,17,18,19])] Yv (hJ:= .cons (fun _=>rfl) AEH (.cons (fun _=>rfl) ABY (.cons (fun _=>rfl) uU (.cons (fun _=>rfl) yt (.cons (fun _=>rfl) sy (.nil)))))) (he:=AKo Ac)
def AKL:SQ:=mk Tryz.func278 VC AAb QR [lz,ACn,AKv] [] []
def q9:SQ:=mk Tryz.func353 rE dN GK [a_] [] [⟨3,⟨[(0,X3),(1,X3),(5,qY),(6,Br)],[ED]⟩,J0⟩]
def AJS:SQ:=mk Tryz.func350 ⟨[(0,fI),(1,.row Y6),(2,Br)],[]⟩ AAE Jn [qO,pD,q9] [(8,[0,1,2])] [⟨5,⟨[(2,Br),(6,MZ),(8,xP9),(9,Br)],[.mem [.v tI,.ref 1],bc,.mem [.v tI,.ref 3],bc]⟩,FG⟩] (hJ:= .cons (fun _=>rfl) (fun n v ω=>by rcases ω with _|⟨_|_,_⟩<;>kernel_rfl) (.nil))
def AK9:SQ:=mk Tryz.func351 ⟨[(0,fI),(1,.row Y7),(2,Br)],[]⟩ nH Lf [o0,oY,q9] [(7,[0,1,2,3,4,5,6])] [⟨5,⟨[(2,Br),(6,MZ),(8,iK),(9,Br)],[.mem [.v tI,.v tI,.ref 1,.ref 2,.v .bool,.ref 3],ED,KG,fY,.mem [.v tI,.v tI,.ref 5,.ref 6,.v .bool,.ref 7],ED,KG,fY]⟩,Gc⟩] (hJ:= .cons (fun _=>rfl) (fun n v ω=>by rcases ω with _|⟨_|_,_⟩<;>kernel_rfl) (.nil))
def AIs:SQ:=mk Tryz.func279 VC ⟨AG9,[Ea,bf,LN,QN,eV,Wl,PY,OI,Ea]⟩ Qa [YO,lu,lz,AJS,AK9] [(9,[0,1,2,3,5,6,7,8,9,10,11,12,13,14,15,16,17,18,19]),(13,[0,1,2,3,4,6,7,8,9,10,11,12,13,14,15,16,17,18,19])] [⟨7,⟨[(2,Xw),(3,Yd),(4,.c (.ptr 11 0)),(7,Br)],AH5⟩,HH⟩,⟨11,⟨[(2,Xw),(3,Yd),(4,.c (.ptr 11 0)),(8,Br)],AH5⟩,GS⟩]
def AJH:SQ:=mk Tryz.func397 cQ EZ Sd [l7,YO] [] []
def AIr:SQ:=mk Tryz.func398 ⟨[(0,wA)],[]⟩ qR TW [AD6] [] [⟨3,⟨[(0,wA),(3,qY),(4,Br)],[KG]⟩,GV⟩,⟨6,⟨[(0,wA),(3,qY),(4,Br),(5,Br)],[KG]⟩,GO⟩]
def AI6:SQ:=mk Tryz.func352 ⟨[(0,fI),(1,qY),(2,X3),(3,Br),(4,Br)],[bf]⟩ ⟨[(0,.Jy [.inr [.ref 1,.ref 2,.v tI],.inl (.v .bool)])],[UU,KG,KG]⟩ WM [s11,lC,a_,AJH,AIr] [] [⟨6,⟨[(1,qY),(2,X3),(4,Br),(10,Ry),(12,iK),(13,.c (.ref 7)),(14,Br)],AHf⟩,Kl⟩,⟨11,⟨[(4,Br),(10,Ry),(12,iK),(13,.c (.ref 7)),(15,Br)],AHf⟩,JT⟩]
def AJK:SQ:=mk Tryz.func280 VC ⟨AG9,[Ea,UU,LN,QN,eV,Wl,PY,OI,Ea]⟩ QU [a_,kM,AI6,q9] [(3,[0,2,3,4,5,6,7,8,9,10])] [] (he:=fun ω v=>by rcases ω with _|⟨_|_,_|⟨_|_,_⟩⟩<;>kernel_rfl)
abbrev ed:Bn:=kH
abbrev nY:Bn:=AAc
def ADc:SQ:=mk Tryz.func354 ed nY Iu [] [] []
def AKs:SQ:=mk Tryz.func281 rB ⟨[(0,.Jy [.inr [.ref 0,.v tI,.ref 1,.ref 2,.ref 3,.v tI,.ref 4,.ref 8,.ref 6,.ref 7,.v .bool],.inl (.v tI)])],[Ea,bf,Ea,QN,eV,LN,PY,OI,Wl]⟩ QC [tS,ADc] [] []
def AGJ:SQ:=mk Tryz.func355 mW kE KU [eD,lC,o9,kM,ACn] [] []
abbrev dR:Bn:=mW
abbrev nU:Bn:=qR
def ABM:SQ:=mk Tryz.func357 dR nU GF [lC,a8] [] [⟨3,⟨AGY,[AH2,KG]⟩,GW⟩]
abbrev ct:Bn:=⟨[(0,fI),(1,.row Y7),(2,Br),(3,Zl)],[]⟩
abbrev oM:Bn:=nH
def ADg:SQ:=mk Tryz.func356 ct oM GC [o0,a8,oY,lu,AD6] [(8,[0,1,2,3,4,5,6,7,8,9]),(9,[0,1,2,3,4,5,7,8,9])] [⟨6,⟨[(3,Zl),(4,MZ),(5,Ry),(8,xP9),(10,.c (.ptr 6 0)),(11,Br)],[bE,qF,AF6,ED,KG,fY,AHE,ED,KG,fY]⟩,H9⟩]
def AJi:SQ:=mk Tryz.func282 VC gu QS [a_,lz,je,AGJ,ADg,ABM] [(7,[0,1,2,3,4,5,6,7,8,9,10,11]),(9,[0,1,2,3,4,5,6,7,8,9,10,11,12]),(10,[0,1,2,3,4,5,6,7,8,9,10,11,12,13,14,15])] [] (he:=fun ω v=>by rcases ω with _|⟨_|_,_|⟨_|_,_|⟨_|_,_⟩⟩⟩<;>kernel_rfl)
def AIH:SQ:=mk Tryz.func401 rE dN HU [q9] [] []
def AF1:SQ:=mk Tryz.func400 ⟨[(0,fI),(1,X3),(2,X3)],[]⟩ EZ HM [l7,YO,AGO,q9] [(3,[0,1])] []
abbrev cx:Bn:=⟨[(0,fI),(1,.row Y7),(2,X3)],[]⟩
abbrev o_:Bn:=nH
def ACd:SQ:=mk Tryz.func358 cx o_ GH [o0,oY,AGp,AF1,AIH] [(4,[0,1,2,3,4,5,6])] [⟨8,⟨[(4,MZ),(6,Ry),(8,.c (.ptr 5 0)),(9,Br)],ADP⟩,IL⟩]
def AJe:SQ:=mk Tryz.func283 rB gu QB [je,ACd] [(3,[0,1,2,3,4,5,6,7,8,9])] [] (he:=fun ω v=>by rcases ω with _|⟨_|_,_|⟨_|_,_⟩⟩<;>kernel_rfl)
def AKc:SQ:=mk Tryz.func284 VC gu Sb [a_,lz,je,AEn,ADl] [(3,[0,1,2,3,4,5,6,7,8,9,10]),(9,[0,1,2,3,4,5,6,7,8,9,10,11]),(11,[0,1,2,3,4,5,6,7,8,9,10,11,12])] [] (he:=fun ω v=>by rcases ω with _|⟨_|_,_|⟨_|_,_⟩⟩<;>kernel_rfl)
def AIw:SQ:=mk Tryz.func360 m_ EZ NY [YO,o0] [(6,[0,1])] [⟨4,AAW,HN⟩]
def AFs:SQ:=mk Tryz.func361 ⟨[(0,fI),(1,.row Y4),(2,Br),(3,Br)],[]⟩ AAB LH [eD,pO,tS,oW] [] []
def AJl:SQ:=mk Tryz.func285 rB ⟨[(0,.Jy [.inr [.ref 0,.v tI,.ref 1,.ref 2,.ref 8,.v tI,.ref 4,.ref 9,.ref 6,.ref 7,.v .bool],.inl (.v tI)])],[Ea,bf,Ea,LN,eV,LN,PY,OI,QN,Wl]⟩ OV [AIw,AFs] [(3,[0,1,2,3,4,5,6,7,8,9]),(5,[0,1,2,3,4,5,6,7,8,9])] [] (he:=fun ω v=>by rcases ω with _|⟨_|_,_⟩<;>kernel_rfl)
def AF8:SQ:=mk Tryz.func286 ⟨[(0,fI),(1,.row Y4),(2,Br)],[]⟩ AAB Mw [pO,mJ,a8,oW,kM] [(4,[0,1,2,3,4])] []
def AKu:SQ:=mk Tryz.func406 ⟨[(0,.row Y6)],[]⟩ G4 Po [] [] [⟨2,⟨wJ,[ADA]⟩,Gy⟩]
def AIv:SQ:=mk Tryz.func363 jM G4 V2 [AKu] [] [⟨2,⟨[(1,Br),(2,MZ),(5,Br)],xI⟩,KE⟩]
def AKD:SQ:=mk Tryz.func364 ⟨[(0,.row Y11),(1,.row Y9),(2,Br)],[]⟩ ⟨rT,[.sl 9 Y14]⟩ La [dF,AGQ,lz,tf] [(6,[0,1,2,3]),(7,[0,1,2,3]),(8,[0,1,3,4])] [⟨4,⟨[(3,MZ),(4,Ry),(7,.c (.ref 2)),(8,.c (.ref 3)),(9,Br)],[qQ,.mem [.v tI,.v tI,.sl false Y8],.sl 9 Y14,ED]⟩,Gj⟩] (hJ:= .cons (fun _=>rfl) (fun n v ω=>by rcases ω with _|⟨_|_,_|⟨_|_,_⟩⟩<;>kernel_rfl) (.nil))
def AKp:SQ:=mk Tryz.func403 ⟨[(0,fI),(1,re)],[]⟩ ⟨[(0,.Jy [.inl (.ref 0),.inl (.v .bool)])],[ED]⟩ TM [l7] [] [⟨3,⟨[(1,re),(2,MZ),(6,xP7),(7,Br)],ADi⟩,H4⟩]
def AJA:SQ:=mk Tryz.func404 ⟨[(0,.row Y9),(1,.row Y8),(2,Br),(3,Br)],[]⟩ qM F_ [xr] [] []
def AK6:SQ:=mk Tryz.func405 ⟨[(0,X3),(1,Br),(2,re)],[]⟩ ⟨[(0,.agg [.v tI,.v tI,.v .str])],[]⟩ I1 [a_,yo,AFk] [] [⟨4,⟨[(0,X3),(1,Br),(2,re),(6,MZ),(7,Ry),(8,sQ),(9,Br)],[.mem [.v tI,.v tI,.v .str],ABx]⟩,JC⟩]
def AJO:SQ:=mk Tryz.func362 ⟨[(0,fI),(1,.row Y4),(2,Br),(3,.row Y9),(4,re)],[]⟩ ⟨[(0,.Jy [.inr [.v tI,.v tI,.ref 0],.inl (.v tI)])],[.sl 9 Y8]⟩ Ld [s65,pO,a8,dF,xr,zR,AF1,AIH,AKp,AJA,AK6] [(9,[0,1,2,4,5]),(14,[0,1,2,3,4,5]),(16,[0,1,2,4,5,6])] []
def AJp:SQ:=mk Tryz.func287 VC gu QA [eD,AJO,AIv,AKD] [(3,[0,1,2,3,4,5,6,7,8,9,10])] [] (he:=fun ω v=>by rcases ω with _|⟨_|_,_|⟨_|_,_|⟨_|_,_⟩⟩⟩<;>kernel_rfl)
def AKr:SQ:=mk Tryz.func288 VC ⟨[(0,.Jy [.inr [.ref 0,.v tI,.ref 1,.ref 2,.ref 3,.v tI,.ref 8,.ref 5,.ref 6,.ref 7,.v .bool],.inl (.v tI)])],[Ea,bf,Ea,QN,LN,Wl,PY,OI,V3]⟩ QI [ADJ] [] [⟨5,⟨[(2,Xw),(3,Ze),(4,Yd),(6,.c (.ref 19)),(7,Br)],[Ea,bf,Ea,QN,V3,Wl,PY,OI,ft,ABj,w6,ED,VO,ED,N_,VN,VM,VL,Qp,V3]⟩,JB⟩]
def AJs:SQ:=mk Tryz.func366 mW kE NG [lC,mJ,o9] [(11,[0,1,2,3,6])] [⟨8,AAR,Hd⟩] (hJ:= .cons (fun _=>rfl) (fun n v ω=>by rcases ω with _|⟨_|_,_⟩<;>kernel_rfl) (.nil))
def AJ5:SQ:=mk Tryz.func289 VC gu OW [lz,AF3,AJs] [(4,[0,1,2,3,4,5,6,7,8,9,10]),(6,[0,1,2,3,4,5,6,7,8,9,10,12])] [] (he:=fun ω v=>by rcases ω with _|⟨_|_,_⟩<;>kernel_rfl)
def AJm:SQ:=mk Tryz.func190 VC ⟨[(0,.Jy [.inr [.ref 0,.v tI,.ref 1,.ref 8,.ref 9,.v tI,.ref 10,.ref 11,.ref 6,.ref 12,.v .bool],.inl (.v tI)])],[Ea,UU,LN,LN,LN,LN,PY,LN,Ea,QN,V3,dP,OI]⟩ Uf [AI1,AJI,AJq,AKL,AIs,AJK,AKs,AJi,AJe,AKc,AJl,AF8,AJp,AKr,AJ5] [] []
def s87:SQ:=mk Tryz.func87 ⟨[(0,.row Y11),(1,.row Y12)],[]⟩ AAb QD [s19,s86,AJL,AJm] [(3,[0,1,2])] [] (he:=fun ω v=>by rcases ω with _|⟨_|_,_|⟨_|_,_⟩⟩<;>kernel_rfl)
abbrev q_:Bn:=sB
abbrev AD5:Bn:=⟨[(0,.Jy [.inr [.ref 1,.v tI,.ref 2,.ref 3,.ref 4,.v tI,.ref 5,.ref 6,.ref 7,.ref 8,.v .bool],.inl (.ref 9),.inr [.ref 10,.v tI,.ref 11,.ref 12,.ref 13,.v tI,.ref 14,.ref 15,.ref 16,.ref 17,.v .bool]])],[QG,LN,LN,LN,LN,LN,LN,LN,LN,.sl 9 Y12,Ea,UU,Ea,QN,V3,dP,PY,OI]⟩
def AHL:SQ:=mk Tryz.func255 q_ AD5 HK [YK,s87,AID,YO,AKW,AIt] [(21,[0,2,3,4,5,6,7,8,9,11,12,13,14,15,16,17,18,19,28,29,30,31,32,33,34,35,36,37])] [⟨4,⟨[(0,MZ),(1,Br),(4,Ry),(6,Yd),(7,Zv),(8,.c (.ref 21)),(9,Br)],AHR⟩,C3⟩,⟨7,⟨[(0,MZ),(1,Br),(4,Ry),(6,Yd),(7,Zv),(8,.c (.ref 21))],AHR⟩,C7⟩,⟨14,AGT,CS⟩]
def AHv:SQ:=mk Tryz.func390 fB AAM IZ [YK,a8,eO,dF,AEC] [] []
abbrev cB:Bn:=fB
abbrev nt:Bn:=AAA
def ADD:SQ:=mk Tryz.func331 cB nt Dz [YK,eO,dF,AEn,ACn,AGJ,AHv] [(6,[1,2,3,4,5,6]),(14,[1,2,3,4,5,6,9]),(25,[0,1,2,3,6])] [⟨4,⟨[(0,MZ),(2,Ry),(3,iK),(4,Br),(5,Br)],tH⟩,Cm⟩,⟨20,⟨[(2,Ry),(3,iK),(8,Br)],tH⟩,DA⟩,⟨23,⟨[(2,Ry),(3,iK),(8,Br),(9,Br)],tH⟩,C8⟩] (hJ:= .cons (fun _=>rfl) (fun n v ω=>by rcases ω with _|⟨_|_,_|⟨_|_,_⟩⟩<;>kernel_rfl) (.cons (fun _=>rfl) (fun n v ω=>by kernel_rfl) (.cons (fun _=>rfl) (fun n v ω=>by rcases ω with _|⟨_|_,_|⟨_|_,_⟩⟩<;>kernel_rfl) (.nil))))
abbrev p7:Bn:=fB
abbrev AEp:Bn:=jq
def oR:SQ:=mk Tryz.func172 p7 AEp CY [YK,fy,dF] [] []
def AIA:SQ:=mk Tryz.func332 fB AAM MM [YK,fy,oR,AHv] [] []
abbrev rR:Bn:=fB
abbrev ACT:Bn:=AAA
def AHZ:SQ:=mk Tryz.func258 rR ACT O9 [YK,fy,dF,ADD,AIA] [(6,[1,4]),(8,[1,3]),(10,[1,2,3,4,5,6]),(11,[0,1,2,3,5])] [⟨10,⟨[(0,MZ),(2,Ry),(3,iK)],tH⟩,JF⟩] (hJ:= .cons (fun _=>rfl) (fun n v ω=>by rcases ω with _|⟨_|_,_|⟨_|_,_⟩⟩<;>kernel_rfl) (.nil)) (he:=fun ω v=>by rcases ω with _|⟨_|_,_|⟨_|_,_⟩⟩<;>kernel_rfl)
def AIu:SQ:=mk Tryz.func333 aK ⟨AEt,[QG,N_]⟩ Kw [YK,dF,AF8,ABB,AIL,AFs] [(5,[1,2,3,4,5]),(8,[1,2,3,4,5]),(10,[1,2,3,4,5])] [⟨3,⟨AHu,[QG,bE,.mem [.ref 3,.v tI],N_,.mem [.ref 5,.v tI],N_]⟩,EX⟩] (hJ:= .cons (fun _=>rfl) (fun n v ω=>by rcases ω with _|⟨_|_,_|⟨_|_,_⟩⟩<;>kernel_rfl) (.nil))
abbrev qK:Bn:=aK
abbrev ABv:Bn:=⟨AEt,[QG,.sl 1 Y3]⟩
def AHg:SQ:=mk Tryz.func259 qK ABv O7 [YK,fy,oR,qP,AIu,ABB] [(11,[1,2,5]),(14,[1,2,5]),(17,[1,2,3,4])] [⟨17,⟨[(0,MZ),(4,Ry),(5,xP4),(7,.c (.sl true tI))],[QG,AFB,N_,AEu,.sl 1 Y3]⟩,JL⟩]
abbrev AKM:Bn:=aK
abbrev AK7:Bn:=⟨[(0,.agg [.v tI,.ref 1])],[QG,bc]⟩
def AHq:SQ:=mk Tryz.func335 AKM AK7 Ke [YK,eO,kM,AFg,AEC,ACs] [(5,[1,2,3,4,5]),(7,[1,2,3,4,5])] [⟨3,⟨AHu,[QG,bE,.mem [.v tI,.ref 3],bc,.mem [.v tI,.ref 5],bc]⟩,F4⟩] (hJ:= .cons (fun _=>rfl) (fun n v ω=>by rcases ω with _|⟨_|_,_|⟨_|_,_|⟨_|_,_⟩⟩⟩<;>kernel_rfl) (.nil))
abbrev cG:Bn:=aK
abbrev rF:Bn:=⟨[(0,.agg [.v tI,.ref 1])],[QG,.sl 1 Y5]⟩
def ABl:PQ:=⟨cG,rF,(cG.un KJ)⟩
def ACa:Xk:=⟨T,Te (SP.l [YK,fy,AHq]),Cy [(7,[0,1,2,5]),(9,[1,2]),(12,[0,1,2])]⟩
def yf:List (Lp rF):=[⟨11,⟨[(4,Ry),(5,xP4)],[QG,.mem [.v tI,.ref 2],bc,.mem [.v tI,.ref 4],.sl 1 Y5]⟩,Ed⟩]
abbrev iN:Bn:=⟨[(4,Ry),(5,xP4)],[QG,.mem [.v tI,.ref 2],bc,.mem [.v tI,.ref 4],.sl 1 Y5]⟩
theorem vA(n:Nat)(v:iN.V)(ω:List Bool):GL ACa ABl Tryz.f260 (Ng 1 yf n) 11 ω (iN.st 68 v)=iN.un (L4 (Ed n)) v:=by rcases ω with _|⟨_|_,_|⟨_|_,_|⟨_|_,_⟩⟩⟩<;>kernel_rfl
def Nm(ω:List Bool):Prop:= ∀(n:Nat) (v:cG.V),FQ ACa ABl Tryz.f260 (Ng 1 yf n) ω v=cG.un (Ji (Ed n)) v
theorem ADf:Nm []:=by delta Nm;intros;kernel_rfl
theorem AB_:Nm (false::[]):=by delta Nm;intros;kernel_rfl
theorem AB0:Nm (false::false::[]):=by delta Nm;intros;kernel_rfl
theorem AEe:Nm (false::false::false::[]):=by delta Nm;intros;kernel_rfl
theorem AEy(ω:List Bool):Nm (false::false::false::false::ω):=by delta Nm;intros;kernel_rfl
theorem AB4(ω:List Bool):Nm (false::false::false::true::ω):=by delta Nm;intros;kernel_rfl
theorem ABZ(ω:List Bool):Nm (false::false::true::ω):=by delta Nm;intros;kernel_rfl
theorem AED(ω:List Bool):Nm (false::true::ω):=by delta Nm;intros;kernel_rfl
theorem ABW(ω:List Bool):Nm (true::ω):=by delta Nm;intros;kernel_rfl
theorem AI4(n:Nat)(ω:List Bool)(v:cG.V):FQ ACa ABl Tryz.f260 (Ng 1 yf n) ω v=cG.un (Ji (Ed n)) v:=(AE ADf (AE AB_ (AE AB0 (AE AEe AEy AB4) ABZ) AED) ABW) ω n v
def AFj:SQ:=mk Tryz.func260 cG rF KJ [YK,fy,AHq] [(7,[0,1,2,5]),(9,[1,2]),(12,[0,1,2])] yf (hJ:= .cons (fun _=>rfl) vA (.nil)) (he:=AI4 Ac)
abbrev dT:Bn:=m_
abbrev pU:Bn:=dN
def AG3:SQ:=mk Tryz.func393 dT pU Iy [YO,lu] [] [⟨3,⟨[(2,MZ),(5,xP7),(6,Br)],ADi⟩,JG⟩]
abbrev mQ:Bn:=aK
abbrev ACf:Bn:=AAw
def jL:PQ:=⟨mQ,ACf,(mQ.un IC)⟩
def ADu:Xk:=⟨T,Te (SP.l [YK,eO,kM,ADD,ADc,ADg,ABM,ACd,AG3,wH]),Cy [(6,[1,2,3,4,5,6,7,8,9]),(11,[0,1,2,3,4,5,6,7,8,9]),(17,[1,2,3,4,5,6,7,8,9])]⟩
def ie:List (Lp ACf):=[⟨4,⟨[(0,MZ),(3,Ry),(4,xP9),(5,.c (.ptr 6 0)),(6,Br),(7,Br)],tY⟩,BL⟩,⟨15,⟨[(0,MZ),(3,Ry),(4,xP9),(5,.c (.ptr 6 0)),(12,Br)],tY⟩,As⟩]
abbrev Ul:Bn:=⟨[(0,MZ),(3,Ry),(4,xP9),(5,.c (.ptr 6 0)),(6,Br),(7,Br)],tY⟩
abbrev Qb:Bn:=⟨[(0,MZ),(3,Ry),(4,xP9),(5,.c (.ptr 6 0)),(12,Br)],tY⟩
def G1(ω:List Bool):Prop:= ∀(Y_:Int→List Int→Int→Int→Option FT) (Zn:Int→List Int→Int→Int→Option JQ) (Zx:Int→Int→Option Kk) (ZL:List Int→Int→Int→Option Bh) (bN:Int→Int→Option H3) (ZO:AAT→AAY→Int→AAF→Option Dn) (ZT:AAq→Int→Option Dm) (ZY:AAT→AAY→List Int→Option Di) (ZA:AAT→AAY→Option EP) (NR:AAT→AAY→Int→Int→Option CV) (n:Nat) (v:Ul.V),GL ⟨T,Te [(62,⟨ld,o62,ld.un Y_⟩),(171,⟨d_,pM,d_.un Zn⟩),(330,⟨cO,n0,cO.un Zx⟩),(331,⟨cB,nt,cB.un ZL⟩),(354,⟨ed,nY,ed.un bN⟩),(356,⟨ct,oM,ct.un ZO⟩),(357,⟨dR,nU,dR.un ZT⟩),(358,⟨cx,o_,cx.un ZY⟩),(393,⟨dT,pU,dT.un ZA⟩),(394,⟨Pd,Z2,Pd.un NR⟩)],Cy [(6,[1,2,3,4,5,6,7,8,9]),(11,[0,1,2,3,4,5,6,7,8,9]),(17,[1,2,3,4,5,6,7,8,9])]⟩ jL Tryz.f336 (Ng 1 ie n) 4 ω (Ul.st 85 v)=Ul.un (fun(t6:Int) (t7:Int) (AH:AAD) (AL:Int) (AU:Int) (A6:AAD) (Aq:Int) (Ix:Int) (Je:Int) (MX:Bool) (b3:AAD) (b4:AAF) (b5:List AAD) (JW:Int) (Ih:Int) (JZ:Bool) (b7:AAD) (b8:AAF) (b9:List AAD)=>
 cond (decide (t7<t6))
  ((Y_ (A6.length:Int) AH AL AU).bind fun u4=>
  (ZL u4.2.1.1 u4.2.1.2.1 u4.2.1.2.2.1).bind fun u5=>
  (ZT (u5.2.2.1,u5.2.2.2.1,u5.1.1.2.2.1,()) Ih).bind fun u6=>
  (ZO (A6,Aq,()) (JW,Ih,b7,b8,JZ,b9,()) u4.1.1 u6.2.1).bind fun u7=>
  cond (u7.1.1.2.1)
   ((BL n) t6 (AX (t7+1)) u5.2.1.1 u5.2.1.2.1 u5.2.1.2.2.1 A6 Aq Ix Je MX b3 b4 b5 u7.1.1.1.1 u7.1.1.1.2.1 u7.1.1.1.2.2.2.2.1 u7.2.1 u7.2.2.1 u7.2.2.2.1)
  ((BL n) t6 (AX (t7+1)) u5.2.1.1 u5.2.1.2.1 u5.2.1.2.2.1 A6 Aq Ix Je MX b3 b4 b5 JW Ih JZ b7 b8 b9))
 ((Zn 3 AH AL AU).bind fun Rr=>
 cond (Rr.1.1)
  (some (((JW,Ih,(),(),JZ,(),()),()),((Rr.2.1.1,Rr.2.1.2.1,Rr.2.1.2.2.1,()),b7,b8,b9,())))
 ((ZA (A6,Aq,()) (JW,Ih,b7,b8,JZ,b9,())).bind fun XO=>
 (ZY (A6,Aq,()) (JW,Ih,b7,b8,JZ,b9,()) XO.2.1).bind fun PB=>
 cond (PB.1.1.2.1)
  ((As n) 0 Rr.2.1.1 Rr.2.1.2.1 Rr.2.1.2.2.1 A6 Aq Ix Je MX b3 b4 b5 PB.1.1.1.1 PB.1.1.1.2.1 PB.1.1.1.2.2.2.2.1 PB.2.1 PB.2.2.1 PB.2.2.2.1)
 ((As n) 0 Rr.2.1.1 Rr.2.1.2.1 Rr.2.1.2.2.1 A6 Aq Ix Je MX b3 b4 b5 JW Ih JZ b7 b8 b9)))) v
theorem qy:G1 []:=by delta G1;intros;kernel_rfl
theorem qA(ω:List Bool):G1 (false::ω):=by delta G1;intros;kernel_rfl
theorem qj:G1 (true::[]):=by delta G1;intros;kernel_rfl
theorem rq(ω:List Bool):G1 (true::false::ω):=by delta G1;intros;kernel_rfl
theorem rI:G1 (true::true::[]):=by delta G1;intros;kernel_rfl
theorem pw(ω:List Bool):G1 (true::true::false::ω):=by delta G1;intros;kernel_rfl
theorem rh:G1 (true::true::true::[]):=by delta G1;intros;kernel_rfl
theorem qU(ω:List Bool):G1 (true::true::true::false::ω):=by delta G1;intros;kernel_rfl
theorem sG(ω:List Bool):G1 (true::true::true::true::ω):=by delta G1;intros;kernel_rfl
theorem AC5(Y_:Int→List Int→Int→Int→Option FT)(Zn:Int→List Int→Int→Int→Option JQ)(Zx:Int→Int→Option Kk)(ZL:List Int→Int→Int→Option Bh)(bN:Int→Int→Option H3)(ZO:AAT→AAY→Int→AAF→Option Dn)(ZT:AAq→Int→Option Dm)(ZY:AAT→AAY→List Int→Option Di)(ZA:AAT→AAY→Option EP)(NR:AAT→AAY→Int→Int→Option CV)(n:Nat)(v:Ul.V)(ω:List Bool):GL ⟨T,Te [(62,⟨ld,o62,ld.un Y_⟩),(171,⟨d_,pM,d_.un Zn⟩),(330,⟨cO,n0,cO.un Zx⟩),(331,⟨cB,nt,cB.un ZL⟩),(354,⟨ed,nY,ed.un bN⟩),(356,⟨ct,oM,ct.un ZO⟩),(357,⟨dR,nU,dR.un ZT⟩),(358,⟨cx,o_,cx.un ZY⟩),(393,⟨dT,pU,dT.un ZA⟩),(394,⟨Pd,Z2,Pd.un NR⟩)],Cy [(6,[1,2,3,4,5,6,7,8,9]),(11,[0,1,2,3,4,5,6,7,8,9]),(17,[1,2,3,4,5,6,7,8,9])]⟩ jL Tryz.f336 (Ng 1 ie n) 4 ω (Ul.st 85 v)=Ul.un (fun(t6:Int) (t7:Int) (AH:AAD) (AL:Int) (AU:Int) (A6:AAD) (Aq:Int) (Ix:Int) (Je:Int) (MX:Bool) (b3:AAD) (b4:AAF) (b5:List AAD) (JW:Int) (Ih:Int) (JZ:Bool) (b7:AAD) (b8:AAF) (b9:List AAD)=>
 cond (decide (t7<t6))
  ((Y_ (A6.length:Int) AH AL AU).bind fun u4=>
  (ZL u4.2.1.1 u4.2.1.2.1 u4.2.1.2.2.1).bind fun u5=>
  (ZT (u5.2.2.1,u5.2.2.2.1,u5.1.1.2.2.1,()) Ih).bind fun u6=>
  (ZO (A6,Aq,()) (JW,Ih,b7,b8,JZ,b9,()) u4.1.1 u6.2.1).bind fun u7=>
  cond (u7.1.1.2.1)
   ((BL n) t6 (AX (t7+1)) u5.2.1.1 u5.2.1.2.1 u5.2.1.2.2.1 A6 Aq Ix Je MX b3 b4 b5 u7.1.1.1.1 u7.1.1.1.2.1 u7.1.1.1.2.2.2.2.1 u7.2.1 u7.2.2.1 u7.2.2.2.1)
  ((BL n) t6 (AX (t7+1)) u5.2.1.1 u5.2.1.2.1 u5.2.1.2.2.1 A6 Aq Ix Je MX b3 b4 b5 JW Ih JZ b7 b8 b9))
 ((Zn 3 AH AL AU).bind fun Rr=>
 cond (Rr.1.1)
  (some (((JW,Ih,(),(),JZ,(),()),()),((Rr.2.1.1,Rr.2.1.2.1,Rr.2.1.2.2.1,()),b7,b8,b9,())))
 ((ZA (A6,Aq,()) (JW,Ih,b7,b8,JZ,b9,())).bind fun XO=>
 (ZY (A6,Aq,()) (JW,Ih,b7,b8,JZ,b9,()) XO.2.1).bind fun PB=>
 cond (PB.1.1.2.1)
  ((As n) 0 Rr.2.1.1 Rr.2.1.2.1 Rr.2.1.2.2.1 A6 Aq Ix Je MX b3 b4 b5 PB.1.1.1.1 PB.1.1.1.2.1 PB.1.1.1.2.2.2.2.1 PB.2.1 PB.2.2.1 PB.2.2.2.1)
 ((As n) 0 Rr.2.1.1 Rr.2.1.2.1 Rr.2.1.2.2.1 A6 Aq Ix Je MX b3 b4 b5 JW Ih JZ b7 b8 b9)))) v:=(AE qy qA (AE qj rq (AE rI pw (AE rh qU sG)))) ω Y_ Zn Zx ZL bN ZO ZT ZY ZA NR n v
theorem ACv(n:Nat)(v:Ul.V)(ω:List Bool):GL ADu jL Tryz.f336 (Ng 1 ie n) 4 ω (Ul.st 85 v)=Ul.un (I4 (BL n) (As n)) v:=AC5 AF Aj DR Dz Iu GC GF GH Iy Cr n v ω
def Ek(ω:List Bool):Prop:= ∀(Y_:Int→List Int→Int→Int→Option FT) (Zn:Int→List Int→Int→Int→Option JQ) (Zx:Int→Int→Option Kk) (ZL:List Int→Int→Int→Option Bh) (bN:Int→Int→Option H3) (ZO:AAT→AAY→Int→AAF→Option Dn) (ZT:AAq→Int→Option Dm) (ZY:AAT→AAY→List Int→Option Di) (ZA:AAT→AAY→Option EP) (NR:AAT→AAY→Int→Int→Option CV) (n:Nat) (v:Qb.V),GL ⟨T,Te [(62,⟨ld,o62,ld.un Y_⟩),(171,⟨d_,pM,d_.un Zn⟩),(330,⟨cO,n0,cO.un Zx⟩),(331,⟨cB,nt,cB.un ZL⟩),(354,⟨ed,nY,ed.un bN⟩),(356,⟨ct,oM,ct.un ZO⟩),(357,⟨dR,nU,dR.un ZT⟩),(358,⟨cx,o_,cx.un ZY⟩),(393,⟨dT,pU,dT.un ZA⟩),(394,⟨Pd,Z2,Pd.un NR⟩)],Cy [(6,[1,2,3,4,5,6,7,8,9]),(11,[0,1,2,3,4,5,6,7,8,9]),(17,[1,2,3,4,5,6,7,8,9])]⟩ jL Tryz.f336 (Ng 1 ie n) 15 ω (Qb.st 85 v)=Qb.un (fun(t12:Int) (AH:AAD) (AL:Int) (AU:Int) (A6:AAD) (Aq:Int) (Ix:Int) (Je:Int) (MX:Bool) (b3:AAD) (b4:AAF) (b5:List AAD) (JW:Int) (Ih:Int) (JZ:Bool) (b7:AAD) (b8:AAF) (b9:List AAD)=>
 (Y_ 9 AH AL AU).bind fun JA=>
 cond ((decide (t12<JA.1.1)))
  ((Zx (b9.length:Int) 1).bind fun X2=>
  (Y_ X2.1.1 JA.2.1.1 JA.2.1.2.1 JA.2.1.2.2.1).bind fun Yf=>
  (Y_ (A6.length:Int) Yf.2.1.1 Yf.2.1.2.1 Yf.2.1.2.2.1).bind fun OL=>
  (NR (A6,Aq,()) (JW,Ih,b7,b8,JZ,b9,()) (AX (1+Yf.1.1)) OL.1.1).bind fun Vc=>
  cond (Vc.1.1.2.1)
   ((As n) (AX (t12+1)) OL.2.1.1 OL.2.1.2.1 OL.2.1.2.2.1 A6 Aq Ix Je MX b3 b4 b5 Vc.1.1.1.1 Vc.1.1.1.2.1 Vc.1.1.1.2.2.2.2.1 Vc.2.1 Vc.2.2.1 Vc.2.2.2.1)
  ((As n) (AX (t12+1)) OL.2.1.1 OL.2.1.2.1 OL.2.1.2.2.1 A6 Aq Ix Je MX b3 b4 b5 JW Ih JZ b7 b8 b9))
 (some (((JW,Ih,(),(),JZ,(),()),()),((JA.2.1.1,JA.2.1.2.1,JA.2.1.2.2.1,()),b7,b8,b9,())))) v
theorem pX:Ek []:=by delta Ek;intros;kernel_rfl
theorem pS(ω:List Bool):Ek (false::ω):=by delta Ek;intros;kernel_rfl
theorem oF:Ek (true::[]):=by delta Ek;intros;kernel_rfl
theorem pI(ω:List Bool):Ek (true::false::ω):=by delta Ek;intros;kernel_rfl
theorem nS:Ek (true::true::[]):=by delta Ek;intros;kernel_rfl
theorem ov(ω:List Bool):Ek (true::true::false::ω):=by delta Ek;intros;kernel_rfl
theorem nV:Ek (true::true::true::[]):=by delta Ek;intros;kernel_rfl
theorem o6(ω:List Bool):Ek (true::true::true::false::ω):=by delta Ek;intros;kernel_rfl
theorem nW(ω:List Bool):Ek (true::true::true::true::ω):=by delta Ek;intros;kernel_rfl
theorem wZ(Y_:Int→List Int→Int→Int→Option FT)(Zn:Int→List Int→Int→Int→Option JQ)(Zx:Int→Int→Option Kk)(ZL:List Int→Int→Int→Option Bh)(bN:Int→Int→Option H3)(ZO:AAT→AAY→Int→AAF→Option Dn)(ZT:AAq→Int→Option Dm)(ZY:AAT→AAY→List Int→Option Di)(ZA:AAT→AAY→Option EP)(NR:AAT→AAY→Int→Int→Option CV)(n:Nat)(v:Qb.V)(ω:List Bool):GL ⟨T,Te [(62,⟨ld,o62,ld.un Y_⟩),(171,⟨d_,pM,d_.un Zn⟩),(330,⟨cO,n0,cO.un Zx⟩),(331,⟨cB,nt,cB.un ZL⟩),(354,⟨ed,nY,ed.un bN⟩),(356,⟨ct,oM,ct.un ZO⟩),(357,⟨dR,nU,dR.un ZT⟩),(358,⟨cx,o_,cx.un ZY⟩),(393,⟨dT,pU,dT.un ZA⟩),(394,⟨Pd,Z2,Pd.un NR⟩)],Cy [(6,[1,2,3,4,5,6,7,8,9]),(11,[0,1,2,3,4,5,6,7,8,9]),(17,[1,2,3,4,5,6,7,8,9])]⟩ jL Tryz.f336 (Ng 1 ie n) 15 ω (Qb.st 85 v)=Qb.un (fun(t12:Int) (AH:AAD) (AL:Int) (AU:Int) (A6:AAD) (Aq:Int) (Ix:Int) (Je:Int) (MX:Bool) (b3:AAD) (b4:AAF) (b5:List AAD) (JW:Int) (Ih:Int) (JZ:Bool) (b7:AAD) (b8:AAF) (b9:List AAD)=>
 (Y_ 9 AH AL AU).bind fun JA=>
 cond ((decide (t12<JA.1.1)))
  ((Zx (b9.length:Int) 1).bind fun X2=>
  (Y_ X2.1.1 JA.2.1.1 JA.2.1.2.1 JA.2.1.2.2.1).bind fun Yf=>
  (Y_ (A6.length:Int) Yf.2.1.1 Yf.2.1.2.1 Yf.2.1.2.2.1).bind fun OL=>
  (NR (A6,Aq,()) (JW,Ih,b7,b8,JZ,b9,()) (AX (1+Yf.1.1)) OL.1.1).bind fun Vc=>
  cond (Vc.1.1.2.1)
   ((As n) (AX (t12+1)) OL.2.1.1 OL.2.1.2.1 OL.2.1.2.2.1 A6 Aq Ix Je MX b3 b4 b5 Vc.1.1.1.1 Vc.1.1.1.2.1 Vc.1.1.1.2.2.2.2.1 Vc.2.1 Vc.2.2.1 Vc.2.2.2.1)
  ((As n) (AX (t12+1)) OL.2.1.1 OL.2.1.2.1 OL.2.1.2.2.1 A6 Aq Ix Je MX b3 b4 b5 JW Ih JZ b7 b8 b9))
 (some (((JW,Ih,(),(),JZ,(),()),()),((JA.2.1.1,JA.2.1.2.1,JA.2.1.2.2.1,()),b7,b8,b9,())))) v:=(AE pX pS (AE oF pI (AE nS ov (AE nV o6 nW)))) ω Y_ Zn Zx ZL bN ZO ZT ZY ZA NR n v
theorem zH(n:Nat)(v:Qb.V)(ω:List Bool):GL ADu jL Tryz.f336 (Ng 1 ie n) 15 ω (Qb.st 85 v)=Qb.un (IA (BL n) (As n)) v:=wZ AF Aj DR Dz Iu GC GF GH Iy Cr n v ω
theorem AK2(Y_:Int→List Int→Int→Int→Option FT)(Zn:Int→List Int→Int→Int→Option JQ)(Zx:Int→Int→Option Kk)(ZL:List Int→Int→Int→Option Bh)(bN:Int→Int→Option H3)(ZO:AAT→AAY→Int→AAF→Option Dn)(ZT:AAq→Int→Option Dm)(ZY:AAT→AAY→List Int→Option Di)(ZA:AAT→AAY→Option EP)(NR:AAT→AAY→Int→Int→Option CV)(n:Nat)(ω:List Bool)(v:mQ.V):FQ ⟨T,Te [(62,⟨ld,o62,ld.un Y_⟩),(171,⟨d_,pM,d_.un Zn⟩),(330,⟨cO,n0,cO.un Zx⟩),(331,⟨cB,nt,cB.un ZL⟩),(354,⟨ed,nY,ed.un bN⟩),(356,⟨ct,oM,ct.un ZO⟩),(357,⟨dR,nU,dR.un ZT⟩),(358,⟨cx,o_,cx.un ZY⟩),(393,⟨dT,pU,dT.un ZA⟩),(394,⟨Pd,Z2,Pd.un NR⟩)],Cy [(6,[1,2,3,4,5,6,7,8,9]),(11,[0,1,2,3,4,5,6,7,8,9]),(17,[1,2,3,4,5,6,7,8,9])]⟩ jL Tryz.f336 (Ng 1 ie n) ω v=mQ.un (fun(p1:AAT) (AH:AAD) (AL:Int) (AU:Int)=>
 (Y_ 2 AH AL AU).bind fun u1=>
 (bN (AX (1+u1.1.1)) 4).bind fun u2=>
 (Y_ 5 u1.2.1.1 u1.2.1.2.1 u1.2.1.2.2.1).bind fun u3=>
 (BL n) u3.1.1 0 u3.2.1.1 u3.2.1.2.1 u3.2.1.2.2.1 p1.1 p1.2.1 0 0 false [] [] [] u2.1.1.1 u2.1.1.2.1 u2.1.1.2.2.2.2.1 u2.2.1 u2.2.2.1 u2.2.2.2.1) v:=by kernel_rfl
theorem ALB(n:Nat)(ω:List Bool)(v:mQ.V):FQ ADu jL Tryz.f336 (Ng 1 ie n) ω v=mQ.un (I6 (BL n) (As n)) v:=AK2 AF Aj DR Dz Iu GC GF GH Iy Cr n ω v
def AKU:SQ:=mk Tryz.func336 mQ ACf IC [YK,eO,kM,ADD,ADc,ADg,ABM,ACd,AG3,wH] [(6,[1,2,3,4,5,6,7,8,9]),(11,[0,1,2,3,4,5,6,7,8,9]),(17,[1,2,3,4,5,6,7,8,9])] ie (hJ:= .cons (fun _=>rfl) ACv (.cons (fun _=>rfl) zH (.nil))) (he:=ALB Ac)
abbrev rW:Bn:=aK
abbrev ACL:Bn:=AAw
def AGr:SQ:=mk Tryz.func261 rW ACL On [YK,fy,qP,AIA,AKU] [(8,[1,2,4,5]),(10,[1,2,4,6])] [] (he:=fun ω v=>by rcases ω with _|⟨_|_,_|⟨_|_,_⟩⟩<;>kernel_rfl)
abbrev px:Bn:=fB
abbrev AD2:Bn:=⟨[(0,.agg [.v tI,.v tI,.ref 1])],[QG,.sl 9 Y8]⟩
def AGX:SQ:=mk Tryz.func262 px AD2 Gk [YK,fy,oR] [(5,[1,2])] [⟨3,⟨[(0,MZ),(2,Ry),(3,xP4),(4,Br)],[QG,.mem [.v tI,.v tI,.ref 2],.sl 9 Y8,.mem [.v tI,.v tI,.ref 4],.sl 9 Y8]⟩,Ej⟩] (hJ:= .cons (fun _=>rfl) (fun n v ω=>by rcases ω with _|⟨_|_,_|⟨_|_,_|⟨_|_,_⟩⟩⟩<;>kernel_rfl) (.nil))
abbrev i45:Bn:=fB
abbrev o45:Bn:=AAZ
def s45:SQ:=mk Tryz.func45 i45 o45 MU [YK,AID,fy] [(6,[1,4])] []
abbrev hD:Bn:=⟨[(0,MZ),(1,.c (.sl false tU))],bP⟩
abbrev ACt:Bn:=⟨[(0,.agg [.ref 1,.v tI,.ref 2,.ref 3,.ref 4,.v tI,.ref 5,.ref 6,.ref 7,.ref 8,.v .bool])],[QG,Ea,UU,Ea,.sl 1 Y3,V3,dP,PY,OI]⟩
def AEY:PQ:=⟨hD,ACt,(hD.un Fb)⟩
def AJy:Xk:=⟨T,Te (SP.l [s45,YK,oR,AHL,AIF,qP,AHZ,AHg,AFj,AGr,AGX]),Cy [(6,[1,11,12,14,15,16,17,18,19,20,21]),(10,[1,11,12,13,14,15,17,18,19,20]),(12,[1,11,12,13,14,15,16,18,19,20]),(14,[1,11,12,13,14,15,16,17,19,20,21]),(16,[1,11,12,13,14,15,16,17,18,20])]⟩
def yb:List (Lp ACt):=[]
def SL(ω:List Bool):Prop:= ∀(g45:List Int→Int→Int→Option Sz) (Y_:Int→List Int→Int→Int→Option FT) (o5:List Int→Int→Int→Option L0) (oZ:Int→List Int→Int→Int→Option CF) (nc:List Int→Int→Int→Option TK) (o8:AAT→List Int→Int→Int→Option Eu) (pW:List Int→Int→Int→Option JO) (oA:AAT→List Int→Int→Int→Option JM) (pT:AAT→List Int→Int→Int→Option JP) (nx:AAT→List Int→Int→Int→Option TP) (oX:List Int→Int→Int→Option D9) (n:Nat) (v:hD.V),FQ ⟨T,Te [(45,⟨i45,o45,i45.un g45⟩),(62,⟨ld,o62,ld.un Y_⟩),(172,⟨p7,AEp,p7.un o5⟩),(255,⟨q_,AD5,q_.un oZ⟩),(256,⟨ri,AEU,ri.un nc⟩),(257,⟨qm,AEf,qm.un o8⟩),(258,⟨rR,ACT,rR.un pW⟩),(259,⟨qK,ABv,qK.un oA⟩),(260,⟨cG,rF,cG.un pT⟩),(261,⟨rW,ACL,rW.un nx⟩),(262,⟨px,AD2,px.un oX⟩)],Cy [(6,[1,11,12,14,15,16,17,18,19,20,21]),(10,[1,11,12,13,14,15,17,18,19,20]),(12,[1,11,12,13,14,15,16,18,19,20]),(14,[1,11,12,13,14,15,16,17,19,20,21]),(16,[1,11,12,13,14,15,16,17,18,20])]⟩ AEY Tryz.f158 (Ng 1 yb n) ω v=hD.un (fun(p1:AAD) (AH:AAD) (AL:Int) (AU:Int)=>
 (nc p1 40 90).bind fun u1=>
 (oZ u1.1.1 AH AL AU).bind fun u2=>
 let x4:AAD:=u2.2.2.2.2.2.2.2.2.2.2.2.1
 let x5:AAH:=u2.2.2.2.2.2.2.2.2.2.2.2.2.1
 let x6:AAD:=u2.2.2.2.2.2.2.2.2.2.2.2.2.2.1
 let x7:AAG:=u2.2.2.2.2.2.2.2.2.2.2.2.2.2.2.1
 let x8:AAP:=u2.2.2.2.2.2.2.2.2.2.2.2.2.2.2.2.1
 let x9:AAQ:=u2.2.2.2.2.2.2.2.2.2.2.2.2.2.2.2.2.1
 let Ub:AAS:=u2.2.2.2.2.2.2.2.2.2.2.2.2.2.2.2.2.2.1
 let U1:AAL:=u2.2.2.2.2.2.2.2.2.2.2.2.2.2.2.2.2.2.2.1
 (Y_ 40 u2.2.1.1 u2.2.1.2.1 u2.2.1.2.2.1).bind fun Ct=>
 cond (Ct.1.1==0)
  ((o8 (x4,u2.1.1.2.2.1.2.1,()) Ct.2.1.1 Ct.2.1.2.1 Ct.2.1.2.2.1).bind fun T5=>
  some ((((),u2.1.1.2.2.1.2.1,(),(),(),u2.1.1.2.2.1.2.2.2.2.2.1,(),(),(),(),u2.1.1.2.2.1.2.2.2.2.2.2.2.2.2.2.1,()),()),((T5.2.1.1,T5.2.1.2.1,T5.2.1.2.2.1,()),x4,x5,T5.2.2.1,x7,x8,x9,Ub,U1,())))
 (cond (Ct.1.1==1)
  ((pW Ct.2.1.1 Ct.2.1.2.1 Ct.2.1.2.2.1).bind fun Jx=>
  if(0:Int)≤(0:Int)∧(0:Int)<(x5.length:Int)then(
  some ((((),u2.1.1.2.2.1.2.1,(),(),(),u2.1.1.2.2.1.2.2.2.2.2.1,(),(),(),(),u2.1.1.2.2.1.2.2.2.2.2.2.2.2.2.2.1,()),()),((Jx.2.1.1,Jx.2.1.2.1,Jx.2.1.2.2.1,()),x4,(x5.set 0 (Jx.2.2.1,Jx.2.2.2.1,Jx.1.1.2.2.1,())),x6,x7,x8,x9,Ub,U1,())))else none)
 (cond (Ct.1.1==2)
  ((oA (x4,u2.1.1.2.2.1.2.1,()) Ct.2.1.1 Ct.2.1.2.1 Ct.2.1.2.2.1).bind fun u16=>
  some ((((),u2.1.1.2.2.1.2.1,(),(),(),u16.1.1.2.1,(),(),(),(),u2.1.1.2.2.1.2.2.2.2.2.2.2.2.2.2.1,()),()),((u16.2.1.1,u16.2.1.2.1,u16.2.1.2.2.1,()),x4,x5,x6,u16.2.2.1,x8,x9,Ub,U1,())))
 (cond (Ct.1.1==3)
  ((pT (x4,u2.1.1.2.2.1.2.1,()) Ct.2.1.1 Ct.2.1.2.1 Ct.2.1.2.2.1).bind fun T_=>
  if x8.length+1≤Go.M.DE then(
  some ((((),u2.1.1.2.2.1.2.1,(),(),(),u2.1.1.2.2.1.2.2.2.2.2.1,(),(),(),(),u2.1.1.2.2.1.2.2.2.2.2.2.2.2.2.2.1,()),()),((T_.2.1.1,T_.2.1.2.1,T_.2.1.2.2.1,()),x4,x5,x6,x7,(x8++[(T_.1.1.1,T_.2.2.1,())]),x9,Ub,U1,())))else none)
 (cond (Ct.1.1==4)
  ((nx (x4,u2.1.1.2.2.1.2.1,()) Ct.2.1.1 Ct.2.1.2.1 Ct.2.1.2.2.1).bind fun JA=>
  if x9.length+1≤Go.M.DE then(
  some ((((),u2.1.1.2.2.1.2.1,(),(),(),u2.1.1.2.2.1.2.2.2.2.2.1,(),(),(),(),u2.1.1.2.2.1.2.2.2.2.2.2.2.2.2.2.1,()),()),((JA.2.1.1,JA.2.1.2.1,JA.2.1.2.2.1,()),x4,x5,x6,x7,x8,(x9++[(JA.1.1.1,JA.1.1.2.1,JA.2.2.1,JA.2.2.2.1,JA.1.1.2.2.2.2.1,JA.2.2.2.2.1,())]),Ub,U1,())))else none)
 (cond (Ct.1.1==5)
  ((oX Ct.2.1.1 Ct.2.1.2.1 Ct.2.1.2.2.1).bind fun bZ=>
  if(0:Int)≤(0:Int)∧(0:Int)<(Ub.length:Int)then(
  some ((((),u2.1.1.2.2.1.2.1,(),(),(),u2.1.1.2.2.1.2.2.2.2.2.1,(),(),(),(),u2.1.1.2.2.1.2.2.2.2.2.2.2.2.2.2.1,()),()),((bZ.2.1.1,bZ.2.1.2.1,bZ.2.1.2.2.1,()),x4,x5,x6,x7,x8,x9,(Ub.set 0 (bZ.1.1.1,bZ.1.1.2.1,bZ.2.2.1,())),U1,())))else none)
 (cond (Ct.1.1==6)
  ((o5 Ct.2.1.1 Ct.2.1.2.1 Ct.2.1.2.2.1).bind fun Ux=>
  if U1.length+1≤Go.M.DE then(
  some ((((),u2.1.1.2.2.1.2.1,(),(),(),u2.1.1.2.2.1.2.2.2.2.2.1,(),(),(),(),u2.1.1.2.2.1.2.2.2.2.2.2.2.2.2.2.1,()),()),((Ux.2.1.1,Ux.2.1.2.1,Ux.2.1.2.2.1,()),x4,x5,x6,x7,x8,x9,Ub,(U1++[(Ux.1.1,[],false,())]),())))else none)
 (cond (Ct.1.1==7)
  (some ((((),u2.1.1.2.2.1.2.1,(),(),(),u2.1.1.2.2.1.2.2.2.2.2.1,(),(),(),(),!u2.1.1.2.2.1.2.2.2.2.2.2.2.2.2.2.1,()),()),((Ct.2.1.1,Ct.2.1.2.1,Ct.2.1.2.2.1,()),x4,x5,x6,x7,x8,x9,Ub,U1,())))
 (cond (Ct.1.1==8)
  ((g45 Ct.2.1.1 Ct.2.1.2.1 Ct.2.1.2.2.1).bind fun aM=>
  some ((((),aM.1.1.2.1,(),(),(),u2.1.1.2.2.1.2.2.2.2.2.1,(),(),(),(),u2.1.1.2.2.1.2.2.2.2.2.2.2.2.2.2.1,()),()),((aM.2.1.1,aM.2.1.2.1,aM.2.1.2.2.1,()),aM.2.2.1,x5,x6,x7,x8,x9,Ub,U1,())))
 (some ((((),u2.1.1.2.2.1.2.1,(),(),(),u2.1.1.2.2.1.2.2.2.2.2.1,(),(),(),(),u2.1.1.2.2.1.2.2.2.2.2.2.2.2.2.2.1,()),()),((Ct.2.1.1,Ct.2.1.2.1,Ct.2.1.2.2.1,()),x4,x5,x6,x7,x8,x9,Ub,U1,())))))))))))) v
theorem AA0:SL []:=by delta SL;intros;kernel_rfl
theorem ABV:SL (false::[]):=by delta SL;intros;kernel_rfl
theorem AEO:SL (false::false::[]):=by delta SL;intros;kernel_rfl
theorem ABw(ω:List Bool):SL (false::false::false::ω):=by delta SL;intros;kernel_rfl
theorem ADr(ω:List Bool):SL (false::false::true::ω):=by delta SL;intros;kernel_rfl
theorem AEV(ω:List Bool):SL (false::true::ω):=by delta SL;intros;kernel_rfl
theorem ABa(ω:List Bool):SL (true::ω):=by delta SL;intros;kernel_rfl
theorem AJV(g45:List Int→Int→Int→Option Sz)(Y_:Int→List Int→Int→Int→Option FT)(o5:List Int→Int→Int→Option L0)(oZ:Int→List Int→Int→Int→Option CF)(nc:List Int→Int→Int→Option TK)(o8:AAT→List Int→Int→Int→Option Eu)(pW:List Int→Int→Int→Option JO)(oA:AAT→List Int→Int→Int→Option JM)(pT:AAT→List Int→Int→Int→Option JP)(nx:AAT→List Int→Int→Int→Option TP)(oX:List Int→Int→Int→Option D9)(n:Nat)(ω:List Bool)(v:hD.V):FQ ⟨T,Te [(45,⟨i45,o45,i45.un g45⟩),(62,⟨ld,o62,ld.un Y_⟩),(172,⟨p7,AEp,p7.un o5⟩),(255,⟨q_,AD5,q_.un oZ⟩),(256,⟨ri,AEU,ri.un nc⟩),(257,⟨qm,AEf,qm.un o8⟩),(258,⟨rR,ACT,rR.un pW⟩),(259,⟨qK,ABv,qK.un oA⟩),(260,⟨cG,rF,cG.un pT⟩),(261,⟨rW,ACL,rW.un nx⟩),(262,⟨px,AD2,px.un oX⟩)],Cy [(6,[1,11,12,14,15,16,17,18,19,20,21]),(10,[1,11,12,13,14,15,17,18,19,20]),(12,[1,11,12,13,14,15,16,18,19,20]),(14,[1,11,12,13,14,15,16,17,19,20,21]),(16,[1,11,12,13,14,15,16,17,18,20])]⟩ AEY Tryz.f158 (Ng 1 yb n) ω v=hD.un (fun(p1:AAD) (AH:AAD) (AL:Int) (AU:Int)=>
 (nc p1 40 90).bind fun u1=>
 (oZ u1.1.1 AH AL AU).bind fun u2=>
 let x4:AAD:=u2.2.2.2.2.2.2.2.2.2.2.2.1
 let x5:AAH:=u2.2.2.2.2.2.2.2.2.2.2.2.2.1
 let x6:AAD:=u2.2.2.2.2.2.2.2.2.2.2.2.2.2.1
 let x7:AAG:=u2.2.2.2.2.2.2.2.2.2.2.2.2.2.2.1
 let x8:AAP:=u2.2.2.2.2.2.2.2.2.2.2.2.2.2.2.2.1
 let x9:AAQ:=u2.2.2.2.2.2.2.2.2.2.2.2.2.2.2.2.2.1
 let Ub:AAS:=u2.2.2.2.2.2.2.2.2.2.2.2.2.2.2.2.2.2.1
 let U1:AAL:=u2.2.2.2.2.2.2.2.2.2.2.2.2.2.2.2.2.2.2.1
 (Y_ 40 u2.2.1.1 u2.2.1.2.1 u2.2.1.2.2.1).bind fun Ct=>
 cond (Ct.1.1==0)
  ((o8 (x4,u2.1.1.2.2.1.2.1,()) Ct.2.1.1 Ct.2.1.2.1 Ct.2.1.2.2.1).bind fun T5=>
  some ((((),u2.1.1.2.2.1.2.1,(),(),(),u2.1.1.2.2.1.2.2.2.2.2.1,(),(),(),(),u2.1.1.2.2.1.2.2.2.2.2.2.2.2.2.2.1,()),()),((T5.2.1.1,T5.2.1.2.1,T5.2.1.2.2.1,()),x4,x5,T5.2.2.1,x7,x8,x9,Ub,U1,())))
 (cond (Ct.1.1==1)
  ((pW Ct.2.1.1 Ct.2.1.2.1 Ct.2.1.2.2.1).bind fun Jx=>
  if(0:Int)≤(0:Int)∧(0:Int)<(x5.length:Int)then(
  some ((((),u2.1.1.2.2.1.2.1,(),(),(),u2.1.1.2.2.1.2.2.2.2.2.1,(),(),(),(),u2.1.1.2.2.1.2.2.2.2.2.2.2.2.2.2.1,()),()),((Jx.2.1.1,Jx.2.1.2.1,Jx.2.1.2.2.1,()),x4,(x5.set 0 (Jx.2.2.1,Jx.2.2.2.1,Jx.1.1.2.2.1,())),x6,x7,x8,x9,Ub,U1,())))else none)
 (cond (Ct.1.1==2)
  ((oA (x4,u2.1.1.2.2.1.2.1,()) Ct.2.1.1 Ct.2.1.2.1 Ct.2.1.2.2.1).bind fun u16=>
  some ((((),u2.1.1.2.2.1.2.1,(),(),(),u16.1.1.2.1,(),(),(),(),u2.1.1.2.2.1.2.2.2.2.2.2.2.2.2.2.1,()),()),((u16.2.1.1,u16.2.1.2.1,u16.2.1.2.2.1,()),x4,x5,x6,u16.2.2.1,x8,x9,Ub,U1,())))
 (cond (Ct.1.1==3)
  ((pT (x4,u2.1.1.2.2.1.2.1,()) Ct.2.1.1 Ct.2.1.2.1 Ct.2.1.2.2.1).bind fun T_=>
  if x8.length+1≤Go.M.DE then(
  some ((((),u2.1.1.2.2.1.2.1,(),(),(),u2.1.1.2.2.1.2.2.2.2.2.1,(),(),(),(),u2.1.1.2.2.1.2.2.2.2.2.2.2.2.2.2.1,()),()),((T_.2.1.1,T_.2.1.2.1,T_.2.1.2.2.1,()),x4,x5,x6,x7,(x8++[(T_.1.1.1,T_.2.2.1,())]),x9,Ub,U1,())))else none)
 (cond (Ct.1.1==4)
  ((nx (x4,u2.1.1.2.2.1.2.1,()) Ct.2.1.1 Ct.2.1.2.1 Ct.2.1.2.2.1).bind fun JA=>
  if x9.length+1≤Go.M.DE then(
  some ((((),u2.1.1.2.2.1.2.1,(),(),(),u2.1.1.2.2.1.2.2.2.2.2.1,(),(),(),(),u2.1.1.2.2.1.2.2.2.2.2.2.2.2.2.2.1,()),()),((JA.2.1.1,JA.2.1.2.1,JA.2.1.2.2.1,()),x4,x5,x6,x7,x8,(x9++[(JA.1.1.1,JA.1.1.2.1,JA.2.2.1,JA.2.2.2.1,JA.1.1.2.2.2.2.1,JA.2.2.2.2.1,())]),Ub,U1,())))else none)
 (cond (Ct.1.1==5)
  ((oX Ct.2.1.1 Ct.2.1.2.1 Ct.2.1.2.2.1).bind fun bZ=>
  if(0:Int)≤(0:Int)∧(0:Int)<(Ub.length:Int)then(
  some ((((),u2.1.1.2.2.1.2.1,(),(),(),u2.1.1.2.2.1.2.2.2.2.2.1,(),(),(),(),u2.1.1.2.2.1.2.2.2.2.2.2.2.2.2.2.1,()),()),((bZ.2.1.1,bZ.2.1.2.1,bZ.2.1.2.2.1,()),x4,x5,x6,x7,x8,x9,(Ub.set 0 (bZ.1.1.1,bZ.1.1.2.1,bZ.2.2.1,())),U1,())))else none)
 (cond (Ct.1.1==6)
  ((o5 Ct.2.1.1 Ct.2.1.2.1 Ct.2.1.2.2.1).bind fun Ux=>
  if U1.length+1≤Go.M.DE then(
  some ((((),u2.1.1.2.2.1.2.1,(),(),(),u2.1.1.2.2.1.2.2.2.2.2.1,(),(),(),(),u2.1.1.2.2.1.2.2.2.2.2.2.2.2.2.2.1,()),()),((Ux.2.1.1,Ux.2.1.2.1,Ux.2.1.2.2.1,()),x4,x5,x6,x7,x8,x9,Ub,(U1++[(Ux.1.1,[],false,())]),())))else none)
 (cond (Ct.1.1==7)
  (some ((((),u2.1.1.2.2.1.2.1,(),(),(),u2.1.1.2.2.1.2.2.2.2.2.1,(),(),(),(),!u2.1.1.2.2.1.2.2.2.2.2.2.2.2.2.2.1,()),()),((Ct.2.1.1,Ct.2.1.2.1,Ct.2.1.2.2.1,()),x4,x5,x6,x7,x8,x9,Ub,U1,())))
 (cond (Ct.1.1==8)
  ((g45 Ct.2.1.1 Ct.2.1.2.1 Ct.2.1.2.2.1).bind fun aM=>
  some ((((),aM.1.1.2.1,(),(),(),u2.1.1.2.2.1.2.2.2.2.2.1,(),(),(),(),u2.1.1.2.2.1.2.2.2.2.2.2.2.2.2.2.1,()),()),((aM.2.1.1,aM.2.1.2.1,aM.2.1.2.2.1,()),aM.2.2.1,x5,x6,x7,x8,x9,Ub,U1,())))
 (some ((((),u2.1.1.2.2.1.2.1,(),(),(),u2.1.1.2.2.1.2.2.2.2.2.1,(),(),(),(),u2.1.1.2.2.1.2.2.2.2.2.2.2.2.2.2.1,()),()),((Ct.2.1.1,Ct.2.1.2.1,Ct.2.1.2.2.1,()),x4,x5,x6,x7,x8,x9,Ub,U1,())))))))))))) v:=(AE AA0 (AE ABV (AE AEO ABw ADr) AEV) ABa) ω g45 Y_ o5 oZ nc o8 pW oA pT nx oX n v
theorem AIp(n:Nat)(ω:List Bool)(v:hD.V):FQ AJy AEY Tryz.f158 (Ng 1 yb n) ω v=hD.un (Fb) v:=AJV MU AF CY HK Ov DG O9 O7 KJ On Gk n ω v
def AKk:SQ:=mk Tryz.func158 hD ACt Fb [s45,YK,oR,AHL,AIF,qP,AHZ,AHg,AFj,AGr,AGX] [(6,[1,11,12,14,15,16,17,18,19,20,21]),(10,[1,11,12,13,14,15,17,18,19,20]),(12,[1,11,12,13,14,15,16,18,19,20]),(14,[1,11,12,13,14,15,16,17,19,20,21]),(16,[1,11,12,13,14,15,16,17,18,20])] yb (hJ:= .nil) (he:=AIp Ac)
def s67:SQ:=mk Tryz.func67 mv jq Jm [YK,eO,oR] [(2,[1])] []
def s61:SQ:=mk Tryz.func61 yA ⟨sX,AGZ⟩ Qj [s19,s46,YK,s67,AKk] [(12,[0,3,4,5,6,7,8,10,11]),(16,[0,1,3,4,5,6,7,8,10,11]),(18,[0,3,4,5,6,7,8,10,11])] [] (he:=fun ω v=>by rcases ω with _|⟨_|_,_⟩<;>kernel_rfl)
def s18:SQ:=mk Tryz.func18 yA ⟨AA4,AGZ⟩ Lc [s46,s61,YK] [(3,[1,2,3,4,5,6,7,8,9])] []
def pj:SQ:=mk Tryz.func50 AAC EZ CT [] [] []
def s12:SQ:=mk Tryz.func12 qa EZ DD [pj] [] [⟨2,⟨[(1,MZ),(6,X3),(7,Br),(8,Br)],[bE]⟩,IG⟩]
def AJf:SQ:=mk Tryz.func247 jo EZ Qe [pj] [] [⟨2,⟨[(0,X3),(1,Br),(7,X3),(8,Br),(9,Br)],[]⟩,HA⟩]
def sH:SQ:=mk Tryz.func147 cQ EZ FA [s12,AJf] [] []
def ABr:SQ:=mk Tryz.func174 G4 EZ HZ [pj] [] []
def AKi:SQ:=mk Tryz.func175 G4 EZ XY [pj] [] []
def s72:SQ:=mk Tryz.func72 G4 EZ Cs [ABr,AKi] [] []
def AEo:SQ:=mk Tryz.func124 ⟨[(0,.c (.v .str))],[]⟩ EZ GD [] [] []
def yi:SQ:=mk Tryz.func152 G4 G4 Ip [s72] [] []
def AHP:SQ:=mk Tryz.func325 ⟨[(0,.row Y1)],[]⟩ EZ Ma [pj,s72,AEo,yi] [(1,[0])] []
def AJF:SQ:=mk Tryz.func248 qx EZ J3 [AHP] [] [⟨2,⟨[(5,Zl),(6,Br),(7,Br)],[]⟩,FX⟩]
def AGf:SQ:=mk Tryz.func249 qx EZ HY [] [(4,[0])] [⟨2,⟨[(0,Zl),(5,Zl),(6,Br),(7,Br)],[]⟩,D4⟩]
def AJX:SQ:=mk Tryz.func148 kf EZ Qc [pj,AJF,AGf] [] []
def AJk:SQ:=mk Tryz.func122 ⟨[(0,X3)],[]⟩ dN S8 [] [] []
def AJ1:SQ:=mk Tryz.func306 jo G4 KT [] [] [⟨2,⟨[(0,X3),(1,Br),(7,Br),(8,Br)],[]⟩,D1⟩]
def AGE:SQ:=mk Tryz.func225 jo EZ D2 [AJ1] [] []
def AFn:SQ:=mk Tryz.func326 ⟨[(0,Br),(1,.c (.fi (.cons (.sl tI) .unit)))],[]⟩ EZ SR [AGE] [] []
def AJY:SQ:=mk Tryz.func380 ⟨[(0,X3),(1,uN)],[]⟩ G4 DP [AFn] [] [⟨2,⟨[(0,X3),(1,uN),(7,Br),(8,Br)],[]⟩,CG⟩]
def AJ6:SQ:=mk Tryz.func315 ⟨[(0,qY),(1,uN)],[Ea]⟩ ⟨[(0,xP7)],[LN,Ea]⟩ DH [AFn,AJY] [] [⟨5,⟨[(0,qY),(1,uN),(5,Br),(6,Br)],[Ea]⟩,CB⟩]
def AKG:SQ:=mk Tryz.func250 rE ⟨rT,[Ea]⟩ WX [AJk,AJ6] [] []
def AI_:SQ:=mk Tryz.func149 AAi EZ Jp [AKG] [] []
def AKh:SQ:=mk Tryz.func251 cQ G4 SX [sH,AGE] [] [⟨5,⟨[(2,MZ),(5,xP7),(13,X3),(14,Br),(15,Br)],ADi⟩,KW⟩]
def AA5:SQ:=mk Tryz.func150 cQ EZ N9 [sH,AKh] [(1,[0])] []
def s54:SQ:=mk Tryz.func54 jK EZ Hr [sH,AJX,AI_,AA5] [] [⟨4,⟨[(0,lD),(32,wA),(33,Br),(34,Br)],[]⟩,DK⟩]
def AJP:SQ:=mk Tryz.func151 ⟨[(0,fI),(1,.row Y3)],[]⟩ EZ UC [pj,AA5] [] []
def s55:SQ:=mk Tryz.func55 AAJ EZ Uq [s12,pj,AJP,yi] [(7,[0,1])] [⟨2,⟨[(2,MZ),(3,Ry),(9,.c (.sl false Y3)),(10,Br),(11,Br)],AH1⟩,Hl⟩]
def AKb:SQ:=mk Tryz.func252 EZ G4 UM [] [] []
def AJj:SQ:=mk Tryz.func153 AAr EZ OU [s12,AEo,sH,AA5,ABr,AKb] [(5,[0,1,2])] [⟨3,⟨[(2,MZ),(3,Ry),(5,Br),(9,.c (.sl false Y5)),(10,Br),(11,Br)],AHB⟩,IU⟩]
def AHM:SQ:=mk Tryz.func154 AAi EZ Gv [pj] [] []
def s56:SQ:=mk Tryz.func56 jK EZ Ha [AJj,AHM] [(4,[0])] [⟨2,⟨[(0,lD),(8,.c (.sl false Y6)),(9,Br),(10,Br)],[]⟩,C0⟩]
def AKl:SQ:=mk Tryz.func173 G4 G4 UI [s72] [] []
def AKj:SQ:=mk Tryz.func253 mo G4 Qh [AKl] [] []
def AJ8:SQ:=mk Tryz.func254 mo EZ Ox [yi,AGf,AHP] [(4,[0,1])] [⟨2,⟨[(1,MZ),(6,Zl),(7,Br),(8,Br)],[qF]⟩,H5⟩]
def AKT:SQ:=mk Tryz.func155 m_ EZ SK [s12,pj,sH,ABr,AKj,AJ8] [] [⟨2,⟨[(2,MZ),(3,Ry),(10,.c (.sl false (.sl tI))),(11,Br),(12,Br)],AA_⟩,H0⟩]
def AKm:SQ:=mk Tryz.func156 qo G4 M7 [] [] [⟨2,⟨[(6,.c (.sl false Y3)),(7,Br),(8,Br)],[]⟩,Fe⟩]
def s57:SQ:=mk Tryz.func57 jK EZ Is [AKT,AKm] [(4,[0])] [⟨2,⟨[(0,lD),(8,.c (.sl false Y7)),(9,Br),(10,Br)],[]⟩,DX⟩]
def AI8:SQ:=mk Tryz.func157 pq EZ TS [pj] [] []
def s58:SQ:=mk Tryz.func58 jK EZ HX [AI8] [] [⟨2,⟨[(0,lD),(8,.c (.sl false Y9)),(9,Br),(10,Br)],[]⟩,Cz⟩]
def s59:SQ:=mk Tryz.func59 jK EZ Jt [AEo,yi,AHM] [(4,[0])] [⟨2,⟨[(0,lD),(8,.c (.sl false Y10)),(9,Br),(10,Br)],[]⟩,D6⟩]
def s15:SQ:=mk Tryz.func15 gd EZ NK [s12,s54,s55,s56,s57,s58,s59] [] []
def s20:SQ:=mk Tryz.func20 jM AAx R0 [s15,pj] [] [⟨5,⟨[(5,qY),(27,.c (.sl false Y8)),(28,Br),(29,Br)],[Qp]⟩,IX⟩]
def s21:SQ:=mk Tryz.func21 jM AAx Sq [s19,eD] [] [⟨5,⟨AGY,[qQ,Qp]⟩,KA⟩]
abbrev i4:Bn:=yA
abbrev o4:Bn:=EZ
def s4:SQ:=mk Tryz.func4 i4 o4 O0 [s8,s15,s18,s19,s20,s21] [(4,[0,1,2,3,4,5,6,7,8]),(17,[0,1,2,3,4,5,6,7,8,9,10])] [⟨13,⟨[(3,MZ),(4,Br),(5,.c (.ref 9)),(7,Br),(8,Br)],[.mem [.ref 1,.v tI,.ref 2,.ref 3,.ref 4,.v tI,.ref 5,.ref 6,.ref 7,.ref 8,.v .bool],Ea,UU,Ea,.sl 1 Y3,V3,dP,.sl 1 Y9,OI,Qp]⟩,JE⟩]
end
end Go.Proofs.YtdofdihhmbbbhaaGreat.Wk
