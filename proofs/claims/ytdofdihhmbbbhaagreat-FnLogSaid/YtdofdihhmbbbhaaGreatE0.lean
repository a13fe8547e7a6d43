/- Each function computes what was printed: by the kernel. -/
import Derived.Test.YtdofdihhmbbbhaaGreatG0
import Derived.Test.YtdofdihhmbbbhaaGreatProg
import Derived.KernelRfl
set_option linter.unusedVariables false
set_option linter.unusedSimpArgs false
set_option linter.unusedSectionVars false
namespace Go.Proofs.YtdofdihhmbbbhaaGreat.Wk
open Go Go.Fw Go.M Go.Proofs
noncomputable section
abbrev tI:Ty:= .int .i64
abbrev tU:Ty:= .int .u8
abbrev Y0:Ty:=(.cons (.sl tI) (.cons tI .unit))
abbrev Y1:Ty:=(.cons tI (.cons tI (.cons .bool (.cons .str .unit))))
abbrev Y2:Ty:=(.cons (.sl Y1) (.cons (.sl Y1) (.cons tI .unit)))
abbrev Y3:Ty:=(.cons (.sl tI) (.cons .bool (.cons tI .unit)))
abbrev Y4:Ty:=(.cons (.sl Y3) (.cons tI .unit))
abbrev Y5:Ty:=(.cons .str (.cons (.sl tI) (.cons .bool .unit)))
abbrev Y6:Ty:=(.cons tI (.cons (.sl Y5) .unit))
abbrev Y7:Ty:=(.cons tI (.cons tI (.cons (.sl tI) (.cons (.sl Y1) (.cons .bool (.cons (.sl (.sl tI)) .unit))))))
abbrev Y8:Ty:=(.cons tI (.cons tI (.cons .str .unit)))
abbrev Y9:Ty:=(.cons tI (.cons tI (.cons (.sl Y8) .unit)))
abbrev Y10:Ty:=(.cons tI (.cons .str (.cons .bool .unit)))
abbrev Y11:Ty:=(.cons (.sl tI) (.cons tI (.cons (.sl Y2) (.cons (.sl tI) (.cons (.sl Y3) (.cons tI (.cons (.sl Y6) (.cons (.sl Y7) (.cons (.sl Y9) (.cons (.sl Y10) (.cons .bool .unit)))))))))))
abbrev Y12:Ty:=(.cons tI (.cons tI (.cons tI (.cons tI (.cons .str .unit)))))
abbrev Y13:Ty:=(.cons (.sl tU) (.cons tI (.cons tI .unit)))
abbrev Y14:Ty:=(.cons tI (.cons .bool (.cons tI (.cons tI (.cons .bool (.cons .str .unit))))))
def T:G8:=[(3,⟨1,8,.int .i64,some tI⟩),
 (4,⟨1,1,.bool,some .bool⟩),
 (5,⟨1,1,.int .u8,some tU⟩),
 (9,⟨1,16,.str,some .str⟩),
 (22,⟨1,24,.sl 5,some (.sl tU)⟩),
 (24,⟨1,24,.sl 3,some (.sl tI)⟩),
 (26,⟨2,32,.st [(0,24),(1,3)],some Y0⟩),
 (28,⟨1,24,.sl 141,some (.sl Y2)⟩),
 (29,⟨1,24,.sl 161,some (.sl Y3)⟩),
 (31,⟨2,32,.st [(0,29),(1,3)],some Y4⟩),
 (32,⟨1,24,.sl 90,some (.sl Y6)⟩),
 (33,⟨1,24,.sl 146,some (.sl Y7)⟩),
 (34,⟨1,24,.sl 52,some (.sl Y9)⟩),
 (35,⟨1,24,.sl 56,some (.sl Y10)⟩),
 (37,⟨11,216,.st [(0,26),(2,28),(3,24),(4,31),(6,32),(7,33),(8,34),(9,35),(10,4)],some Y11⟩),
 (45,⟨5,48,.st [(0,3),(1,3),(2,3),(3,3),(4,9)],some Y12⟩),
 (50,⟨1,24,.sl 54,some (.sl Y8)⟩),
 (52,⟨3,40,.st [(0,3),(1,3),(2,50)],some Y9⟩),
 (54,⟨3,32,.st [(0,3),(1,3),(2,9)],some Y8⟩),
 (56,⟨3,32,.st [(0,3),(1,9),(2,4)],some Y10⟩),
 (78,⟨1,8,.ptr 135,none⟩),
 (88,⟨1,24,.sl 167,some (.sl Y5)⟩),
 (90,⟨2,32,.st [(0,3),(1,88)],some Y6⟩),
 (98,⟨1,8,.other,none⟩),
 (135,⟨3,40,.st [(0,22),(1,3),(2,3)],some Y13⟩),
 (139,⟨1,24,.sl 219,some (.sl Y1)⟩),
 (141,⟨3,56,.st [(0,139),(1,139),(2,3)],some Y2⟩),
 (144,⟨1,24,.sl 24,some (.sl (.sl tI))⟩),
 (146,⟨6,96,.st [(0,3),(1,3),(2,24),(3,139),(4,4),(5,144)],some Y7⟩),
 (149,⟨1,8,.ptr 37,none⟩),
 (161,⟨3,40,.st [(0,24),(1,4),(2,3)],some Y3⟩),
 (167,⟨3,48,.st [(0,9),(1,24),(2,4)],some Y5⟩),
 (219,⟨4,40,.st [(0,3),(1,3),(2,4),(3,9)],some Y1⟩),
 (239,⟨1,24,.sl 242,some (.sl Y14)⟩),
 (242,⟨6,56,.st [(0,3),(1,4),(2,219)],some Y14⟩),
 (250,⟨1,24,.sl 45,some (.sl Y12)⟩),
 (302,⟨1,24,.sl 4,some (.sl .bool)⟩),
 (332,⟨1,24,.sl 9,some (.sl .str)⟩)]
theorem tOk:Dd Tryz.prog T:=dY (by kernel_rfl)
theorem mx:Tryz.prog.follows .mixedOrders=true:=by kernel_rfl
abbrev SQ:=SP Tryz.prog
def mk{f:Nat}{fn:Func}(hf:Tryz.prog.funcs[f]? =some fn)(i o:Bn)(g:i.Cu (Option o.V))(l:List SQ)(h:List AFr)(L:List (Lp o))
  (hJ:Ri ⟨T,T5 (SP.l l),C0 h⟩ ⟨i,o,i.un g⟩ fn (Nj i.Ed.length L) L:=by
   repeat refine Ri.cons (fun _=>rfl) (fun _ _ _=>by kernel_rfl) ?_
   exact Ri.nil)
  (he:∀ω v,FW ⟨T,T5 (SP.l l),C0 h⟩ ⟨i,o,i.un g⟩ fn (Nj i.Ed.length L Aa) ω v=i.un g v:=by intro ω v;kernel_rfl)
  (hL:ZB fn=Lp.ls L:=by kernel_rfl) (hd:decide (Lp.ls L).Nodup=true:=by kernel_rfl) (hc:YX fn ⟨i,o,i.un g⟩=true:=by kernel_rfl):SQ:=
 mkP tOk mx hf i o g l h L Aa hL hd hc hJ he
abbrev qH:XP:= .c (.v .bool)
abbrev ML:XP:= .c (.ptr 0 0)
abbrev Bm:XP:= .c (.v tI)
abbrev SE:XP:= .c (.ptr 1 0)
abbrev xP4:XP:= .c (.ptr 3 0)
abbrev fm:XP:= .row Y0
abbrev YJ:XP:= .c (.sl false tI)
abbrev tB:XP:= .c (.ref 1)
abbrev qQ:XP:= .c (.ref 0)
abbrev xP9:XP:= .c (.ptr 2 0)
abbrev Zc:XP:= .c (.sl false Y1)
abbrev ACV:XP:= .agg [.ref 0,.v tI,.ref 1,.ref 2,.ref 3,.v tI,.ref 4,.ref 5,.ref 6,.ref 7,.v .bool]
abbrev Yn:XP:= .c (.ptr 10 0)
abbrev X0:XP:= .c (.ptr 8 0)
abbrev Zo:XP:= .c (.ptr 9 0)
abbrev bf:XP:= .c (.ptr 18 0)
abbrev jS:XP:= .c (.ptr 4 0)
abbrev aS:XP:= .c (.ptr 19 0)
abbrev AAH:XP:= .c (.sl false Y2)
abbrev s7:XP:= .c (.sl false Y14)
abbrev yn:XP:= .c (.gf 326 [(.cons (.sl tI) .unit)])
abbrev l8:XP:= .c (.gF Y11)
abbrev QU:BP:= .mem [.sl true tU,.v tI,.v tI]
abbrev EF:BP:= .sl 9 tI
abbrev AB_:BP:= .mem [.ref 2,.v tI]
abbrev ACN:BP:= .mem [.ref 4,.v tI]
abbrev bu:BP:= .mem [.sl false tI,.v tI]
abbrev VZ:BP:= .sl 9 Y2
abbrev OO:BP:= .sl 9 Y3
abbrev Ve:BP:= .sl 9 Y6
abbrev Vc:BP:= .sl 9 Y7
abbrev Va:BP:= .sl 9 Y9
abbrev QE:BP:= .sl 9 Y10
abbrev ADO:BP:= .mem [.sl false Y3,.v tI]
abbrev rP:BP:= .mem [.sl false tI,.v tI,.sl false Y2,.sl false tI,.sl false Y3,.v tI,.sl false Y6,.sl false Y7,.sl false Y9,.sl false Y10,.v .bool]
abbrev AE2:BP:= .mem [.v tI,.v tI,.v tI,.v tI,.v .str]
abbrev sC:BP:= .mem [.v tI,.v tI,.sl false tI,.sl false Y1,.v .bool,.sl false (.sl tI)]
abbrev AE4:BP:= .mem [.v tI,.sl false Y5]
abbrev KI:BP:= .sl 9 Y1
abbrev bN:BP:= .sl 9 Y5
abbrev gA:BP:= .sl 9 (.sl tI)
abbrev AFB:BP:= .mem [.ref 2,.v tI,.ref 3,.ref 4,.ref 5,.v tI,.ref 6,.ref 7,.ref 8,.ref 9,.v .bool]
abbrev wi:BP:= .mem [.ref 11,.v tI,.ref 12,.ref 13,.ref 14,.v tI,.ref 15,.ref 16,.ref 17,.ref 18,.v .bool]
abbrev Ec:BP:= .sl 1 tI
abbrev cA:BP:= .sl 2 Y2
abbrev Qb:BP:= .sl 2 Y3
abbrev ea:BP:= .sl 3 Y6
abbrev Wr:BP:= .sl 3 Y7
abbrev Pm:BP:= .sl 2 Y9
abbrev OT:BP:= .sl 1 Y10
abbrev LV:BP:= .gone
abbrev fu:BP:= .mem [.ref 0,.v tI,.ref 1,.ref 2,.ref 3,.v tI,.ref 4,.ref 5,.ref 6,.ref 7,.v .bool]
abbrev jT:BP:= .mem [.ref 10,.v tI,.ref 11,.ref 12,.ref 13,.v tI,.ref 14,.ref 15,.ref 16,.ref 17,.v .bool]
abbrev AHW:BP:= .mem [.v tI,.v .str,.v .bool]
abbrev ADq:BP:= .mem [.v tI,.v tI,.v .bool,.v .str]
abbrev AIA:BP:= .mem [.sl false Y1,.sl false Y1,.v tI]
abbrev AE6:BP:= .mem [.ref 2,.ref 3,.v tI]
abbrev AEW:BP:= .mem [.ref 5,.ref 6,.v tI]
abbrev Um:BP:= .sl 1 Y2
abbrev Vg:BP:= .sl 1 Y6
abbrev eE:BP:= .sl 1 Y7
abbrev mr:BP:= .mem [.sl true Y1,.sl true Y1,.v tI]
abbrev AHu:BP:= .mem [.v tI,.v tI,.ref 3,.ref 4,.v .bool,.ref 5]
abbrev AG8:BP:= .mem [.v tI,.v tI,.ref 7,.ref 8,.v .bool,.ref 9]
abbrev AEi:List (Nat×XP):=[(0,.agg [.ref 1,.v tI])]
abbrev zB:List (Nat×XP):=[(1,ML),(3,Bm)]
abbrev sV:List (Nat×XP):=[(0,qQ)]
abbrev AGs:List (Nat×XP):=[(0,.agg [.v tI,.v tI,.v tI,.v tI,.v .str])]
abbrev AHa:List (Nat×XP):=[(2,ML),(3,SE),(5,Bm),(6,Bm)]
abbrev AHs:List (Nat×XP):=[(1,ML),(2,SE),(3,xP4),(4,Bm)]
abbrev ya:List (Nat×XP):=[(0,ACV)]
abbrev AFe:List (Nat×XP):=[(0,.Ju [.inr [.ref 0,.v tI,.ref 1,.ref 2,.ref 3,.v tI,.ref 4,.ref 5,.ref 6,.ref 7,.v .bool],.inl (.v tI)])]
abbrev AGz:List (Nat×XP):=[(0,.agg [.v tI,.v tI,.v .bool,.v .str])]
abbrev AHq:List (Nat×XP):=[(0,.Ju [.inr [.ref 0,.v tI,.ref 1,.ref 8,.ref 3,.v tI,.ref 4,.ref 5,.ref 6,.ref 7,.v .bool],.inl (.v tI)])]
abbrev AGv:List (Nat×XP):=[(0,ML),(3,SE),(4,xP9),(5,jS),(6,Bm)]
abbrev b_:List BP:=[QU]
abbrev AId:List BP:=[QU,EF]
abbrev AGt:List BP:=[EF,VZ,EF,OO,Ve,Vc,Va,QE]
abbrev AGk:List BP:=[QU,bu,EF]
abbrev wa:List BP:=[rP]
abbrev AG1:List BP:=[bu,ADO]
abbrev AIX:List BP:=[bu,AE4]
abbrev ACl:List BP:=[bu,sC]
abbrev AGe:List BP:=[EF,KI,gA]
abbrev ACy:List BP:=[sC,.mem [.v tI,.v tI,.ref 2,.ref 3,.v .bool,.ref 4],EF,KI,gA,.mem [.v tI,.v tI,.ref 6,.ref 7,.v .bool,.ref 8],EF,KI,gA]
abbrev kJ:List BP:=[rP,AFB,EF,VZ,EF,OO,Ve,Vc,Va,QE,wi,EF,VZ,EF,OO,Ve,Vc,Va,QE]
abbrev AEQ:List BP:=[Ec,cA,Ec,Qb,ea,Wr,Pm,OT]
abbrev AHk:List BP:=[Ec,Um,Ec,Qb,Vg,eE,Pm,OT]
abbrev tK:List BP:=[Ec,Um,Ec,Qb,Vg,Wr,Pm,OT,fu,jT,EF,VZ,EF,OO,Ve,Vc,Va,QE,mr,.mem [.v tI,.sl true Y5]]
abbrev AIa:List BP:=[Ec,cA,Ec,Qb,ea,Wr,Pm,OT,.mem [.ref 0,.v tI,.ref 1,.ref 9,.ref 3,.v tI,.ref 4,.ref 5,.ref 6,.ref 7,.v .bool],EF,AE2,.mem [.ref 12,.v tI,.ref 13,.ref 14,.ref 15,.v tI,.ref 16,.ref 17,.ref 18,.ref 19,.v .bool],EF,VZ,EF,OO,Ve,Vc,Va,QE]
abbrev AHn:List BP:=[Um,AE6,KI,KI,AEW,KI,KI,Um]
abbrev AC6:List BP:=[bu,EF]
abbrev AGP:List BP:=[QU,AFB,EF,VZ,EF,OO,Ve,Vc,Va,QE,wi,EF,VZ,EF,OO,Ve,Vc,Va,QE,.mem [.ref 20,.v tI],EF,EF]
abbrev xr:List BP:=[QU,AE6,KI,KI,AEW,KI,KI]
abbrev AAc:List BP:=[QU,bu,AHu,EF,KI,gA,AG8,EF,KI,gA]
abbrev AIo:List BP:=[Ec,Um,Ec,.sl 1 Y3,Vg,eE,.sl 1 Y9,OT]
abbrev AGd:List BP:=[rP,QE]
abbrev Eb:Bn:=⟨[(0,qH)],[]⟩
abbrev wR:Bn:=⟨[(0,.c (.sl true tU))],[]⟩
abbrev fb:Bn:=⟨[(0,ML)],b_⟩
abbrev G5:Bn:=⟨[(0,Bm)],[]⟩
abbrev kR:Bn:=⟨[(0,Bm)],b_⟩
abbrev sy:Bn:=⟨[(0,ML),(1,Bm)],b_⟩
abbrev AAk:Bn:=⟨AEi,AId⟩
abbrev ABQ:Bn:=⟨[(0,Bm),(1,Bm),(2,Bm)],[]⟩
abbrev qS:Bn:=⟨[(0,fm)],[]⟩
abbrev eD:Bn:=⟨[(0,fm),(1,YJ)],[]⟩
abbrev sf:Bn:=⟨[(0,.agg [.v tI,.v tI,.ref 0])],[.sl 9 Y8]⟩
abbrev jh:Bn:=⟨[(0,Bm),(1,Bm)],[]⟩
abbrev ka:Bn:=⟨[(0,YJ),(1,Bm)],[]⟩
abbrev cn:Bn:=⟨sV,[EF]⟩
abbrev au:Bn:=⟨[(0,ML),(1,fm)],b_⟩
abbrev AAo:Bn:=⟨[(0,tB)],AId⟩
abbrev q9:Bn:=⟨[(0,.row Y4)],[]⟩
abbrev nJ:Bn:=⟨[(0,ML),(1,.row Y11)],b_⟩
abbrev qe:Bn:=⟨AGs,b_⟩
abbrev AA8:Bn:=⟨[(0,Zc),(1,Bm)],[]⟩
abbrev rm:Bn:=⟨[(0,Zc)],[]⟩
abbrev kC:Bn:=⟨[(0,.row Y2)],[]⟩
abbrev bF:Bn:=⟨[(0,.row Y11)],[]⟩
abbrev ABH:Bn:=⟨zB,wa⟩
abbrev AAp:Bn:=⟨[(0,fm),(1,.row Y4)],[]⟩
abbrev AAu:Bn:=⟨[(0,fm),(1,.row Y6)],[]⟩
abbrev nF:Bn:=⟨[(0,.row Y7)],[]⟩
abbrev nY:Bn:=⟨[(0,fm),(1,.row Y7)],[]⟩
abbrev AA0:Bn:=⟨[(2,ML),(3,SE),(5,Bm)],ACl⟩
abbrev qw:Bn:=⟨[(0,.row Y9)],[]⟩
abbrev ABO:Bn:=⟨[(0,.agg [.v tI,.v tI,.ref 0,.ref 1,.v .bool,.ref 2])],AGe⟩
abbrev VT:Bn:=⟨[(0,ACV),(1,.row Y12)],AEQ⟩
abbrev jk:Bn:=⟨[(0,.row Y11),(1,Bm)],[]⟩
abbrev ABT:Bn:=⟨[(0,.row Y2),(1,.row Y1)],[]⟩
abbrev kD:Bn:=⟨[(0,.Ju [.inr [.ref 0,.ref 1,.v tI],.inl (.v .bool)])],[KI,KI]⟩
abbrev hI:Bn:=⟨AFe,AEQ⟩
abbrev ra:Bn:=⟨sV,[KI]⟩
abbrev nM:Bn:=⟨[(0,.row Y2),(1,Bm)],[]⟩
abbrev AA3:Bn:=⟨[(1,Bm),(2,ML),(4,SE),(6,jS),(7,Bm)],[AIA,AE6,KI,KI,AEW,KI,KI]⟩
abbrev AAf:Bn:=⟨[(0,.Ju [.inr [.v tI,.v tI,.v .bool,.v .str],.inl (.v .bool)])],[]⟩
abbrev ABS:Bn:=⟨[(0,.Ju [.inr [.v tI,.ref 0],.inl (.v .bool)])],[bN]⟩
abbrev nz:Bn:=⟨[(0,.Ju [.inr [.v tI,.v tI,.ref 0,.ref 1,.v .bool,.ref 2],.inl (.v .bool)])],AGe⟩
abbrev AAx:Bn:=⟨AFe,AHk⟩
abbrev r8:Bn:=⟨[(0,YJ),(1,YJ)],[]⟩
abbrev ri:Bn:=⟨ya,AEQ⟩
abbrev AAl:Bn:=⟨[(0,.Ju [.inr [.ref 0,.v tI],.inl (.v .bool)])],[OO]⟩
abbrev AHS:Bn:=⟨[(0,ML),(4,SE),(6,Yn),(10,aS),(12,.c (.ptr 28 0)),(13,.c (.ref 37)),(14,Bm),(15,Bm)],[QU,AFB,EF,VZ,EF,OO,Ve,Vc,Va,QE,wi,EF,VZ,EF,OO,Ve,Vc,Va,QE,.mem [.ref 20,.v tI,.ref 21,.ref 22,.ref 23,.v tI,.ref 24,.ref 25,.ref 26,.ref 27,.v .bool],LV,LV,LV,LV,LV,LV,LV,LV,.mem [.ref 29,.v tI,.ref 30,.ref 31,.ref 32,.v tI,.ref 33,.ref 34,.ref 35,.ref 36,.v .bool],Ec,Um,Ec,Qb,Vg,eE,Pm,OT,.sl 9 Y12]⟩
abbrev AAy:Bn:=⟨AGz,b_⟩
abbrev ABC:Bn:=⟨[(0,.agg [.ref 1,.ref 2,.v tI])],[QU,KI,KI]⟩
abbrev AA1:Bn:=⟨[(0,.agg [.v tI,.v tI,.ref 1,.ref 2,.v .bool,.ref 3])],[QU,EF,KI,gA]⟩
abbrev ABM:Bn:=⟨[(0,l8),(1,Bm)],[]⟩
abbrev ko:Bn:=⟨[(0,l8)],[]⟩
abbrev AA6:Bn:=⟨sV,[QE]⟩
abbrev ABA:Bn:=⟨[(0,.Ju [.inl (.v .str),.inl (.v .bool)])],[]⟩
def s8:SQ:=mk Tryz.func8 ⟨[(0,.c (.sl false tU))],[]⟩ Eb cY [] [] []
def s46:SQ:=mk Tryz.func46 wR fb RX [] [] [⟨3,⟨[(0,.c (.sl true tU)),(3,Bm),(4,Bm)],[]⟩,LY⟩]
abbrev sH:Bn:=⟨[(0,.c (.sl false tU)),(1,Bm),(2,Bm)],[]⟩
abbrev ADe:Bn:=G5
def AGU:SQ:=mk Tryz.func256 sH ADe O8 [] [] []
def ALd:SQ:=mk Tryz.func159 fb kR Ii [] [(2,[0]),(3,[0]),(4,[0])] []
abbrev lu:Bn:=sy
abbrev o62:Bn:=kR
def ZR:SQ:=mk Tryz.func62 lu o62 AF [ALd] [] []
abbrev i171:Bn:=sy
abbrev od:Bn:=⟨[(0,qH)],b_⟩
def dw:SQ:=mk Tryz.func171 i171 od Aj [ZR] [] []
def AID:SQ:=mk Tryz.func120 fb AAk II [ZR,dw] [(6,[1,2])] [⟨4,⟨[(0,ML),(2,SE),(3,xP4),(4,Bm),(5,Bm)],[QU,AB_,EF,ACN,EF]⟩,Fy⟩] (hJ:= .cons (fun _=>rfl) (fun n v ω=>by rcases ω with _|⟨_|_,_|⟨_|_,_⟩⟩<;>kernel_rfl) (.nil))
def fR:SQ:=mk Tryz.func49 ABQ Eb BT [] [] []
abbrev i11:Bn:=qS
abbrev o11:Bn:=Eb
def s11:SQ:=mk Tryz.func11 i11 o11 EJ [fR] [] [⟨4,⟨zB,[bu]⟩,H9⟩]
def AGN:SQ:=mk Tryz.func263 ⟨[(0,YJ),(1,Bm),(2,Bm)],[]⟩ Eb Qv [fR] [] [⟨2,⟨[(0,YJ),(1,Bm),(2,Bm),(7,Bm)],[]⟩,JP⟩]
def lY:SQ:=mk Tryz.func160 eD Eb ES [s11,AGN] [] []
def AGl:SQ:=mk Tryz.func264 eD G5 Oq [] [(6,[0,1])] [⟨4,⟨[(1,YJ),(2,ML),(5,tB),(6,Bm),(7,Bm)],[bu,.sl 9 .bool]⟩,KU⟩]
abbrev ADN:Bn:=eD
abbrev AIW:Bn:=Eb
def Ys:SQ:=mk Tryz.func161 ADN AIW C7 [lY,AGl] [(1,[0])] []
abbrev AKU:Bn:=⟨[],[]⟩
abbrev ALV:Bn:=sf
def AIF:SQ:=mk Tryz.func386 AKU ALV RT [] [] []
abbrev lp:Bn:=qS
abbrev ABw:Bn:=⟨[(0,.Ju [.inr [.ref 0,.v tI,.ref 1,.ref 2,.ref 3,.v tI,.ref 4,.ref 5,.ref 6,.ref 7,.v .bool],.inl (.v .bool)])],AGt⟩
def AH7:O2:=⟨lp,ABw,(lp.un FA)⟩
def AIl:Xj:=⟨T,T5 (SP.l [s11,AIF]),C0 [(3,[0,1]),(4,[0,4])]⟩
def AFl:List (Lp ABw):=[]
def AS(ω:List Bool):Prop:= ∀(n:Nat) (v:lp.V),FW AIl AH7 Tryz.f327 (Nj 0 AFl n) ω v=lp.un (FA) v
theorem ADf:AS []:=by delta AS;intros;kernel_rfl
theorem ACf:AS (false::[]):=by delta AS;intros;kernel_rfl
theorem AFD:AS (false::false::[]):=by delta AS;intros;kernel_rfl
theorem AB6:AS (false::false::false::[]):=by delta AS;intros;kernel_rfl
theorem AD8:AS (false::false::false::false::[]):=by delta AS;intros;kernel_rfl
theorem AEw:AS (false::false::false::false::false::[]):=by delta AS;intros;kernel_rfl
theorem ABp:AS (false::false::false::false::false::false::[]):=by delta AS;intros;kernel_rfl
theorem ACk:AS (false::false::false::false::false::false::false::[]):=by delta AS;intros;kernel_rfl
theorem ACB(ω:List Bool):AS (false::false::false::false::false::false::false::false::ω):=by delta AS;intros;kernel_rfl
theorem zn(ω:List Bool):AS (false::false::false::false::false::false::false::true::ω):=by delta AS;intros;kernel_rfl
theorem AAE:AS (false::false::false::false::false::false::true::[]):=by delta AS;intros;kernel_rfl
theorem wZ(ω:List Bool):AS (false::false::false::false::false::false::true::false::ω):=by delta AS;intros;kernel_rfl
theorem xG(ω:List Bool):AS (false::false::false::false::false::false::true::true::ω):=by delta AS;intros;kernel_rfl
theorem wh:AS (false::false::false::false::false::true::[]):=by delta AS;intros;kernel_rfl
theorem zW(ω:List Bool):AS (false::false::false::false::false::true::false::ω):=by delta AS;intros;kernel_rfl
theorem w3(ω:List Bool):AS (false::false::false::false::false::true::true::ω):=by delta AS;intros;kernel_rfl
theorem ui:AS (false::false::false::false::true::[]):=by delta AS;intros;kernel_rfl
theorem uz:AS (false::false::false::false::true::false::[]):=by delta AS;intros;kernel_rfl
theorem wB(ω:List Bool):AS (false::false::false::false::true::false::false::ω):=by delta AS;intros;kernel_rfl
theorem xL(ω:List Bool):AS (false::false::false::false::true::false::true::ω):=by delta AS;intros;kernel_rfl
theorem yO(ω:List Bool):AS (false::false::false::false::true::true::ω):=by delta AS;intros;kernel_rfl
theorem AAb:AS (false::false::false::true::[]):=by delta AS;intros;kernel_rfl
theorem xn:AS (false::false::false::true::false::[]):=by delta AS;intros;kernel_rfl
theorem wJ(ω:List Bool):AS (false::false::false::true::false::false::ω):=by delta AS;intros;kernel_rfl
theorem td(ω:List Bool):AS (false::false::false::true::false::true::ω):=by delta AS;intros;kernel_rfl
theorem zr(ω:List Bool):AS (false::false::false::true::true::ω):=by delta AS;intros;kernel_rfl
theorem wy:AS (false::false::true::[]):=by delta AS;intros;kernel_rfl
theorem uR:AS (false::false::true::false::[]):=by delta AS;intros;kernel_rfl
theorem uT:AS (false::false::true::false::false::[]):=by delta AS;intros;kernel_rfl
theorem uY(ω:List Bool):AS (false::false::true::false::false::false::ω):=by delta AS;intros;kernel_rfl
theorem vE(ω:List Bool):AS (false::false::true::false::false::true::ω):=by delta AS;intros;kernel_rfl
theorem AAD(ω:List Bool):AS (false::false::true::false::true::ω):=by delta AS;intros;kernel_rfl
theorem xQ(ω:List Bool):AS (false::false::true::true::ω):=by delta AS;intros;kernel_rfl
theorem tv:AS (false::true::[]):=by delta AS;intros;kernel_rfl
theorem AAd:AS (false::true::false::[]):=by delta AS;intros;kernel_rfl
theorem ud:AS (false::true::false::false::[]):=by delta AS;intros;kernel_rfl
theorem AAW(ω:List Bool):AS (false::true::false::false::false::ω):=by delta AS;intros;kernel_rfl
theorem yu(ω:List Bool):AS (false::true::false::false::true::ω):=by delta AS;intros;kernel_rfl
theorem xk(ω:List Bool):AS (false::true::false::true::ω):=by delta AS;intros;kernel_rfl
theorem uf(ω:List Bool):AS (false::true::true::ω):=by delta AS;intros;kernel_rfl
theorem zg:AS (true::[]):=by delta AS;intros;kernel_rfl
theorem wc:AS (true::false::[]):=by delta AS;intros;kernel_rfl
theorem zS:AS (true::false::false::[]):=by delta AS;intros;kernel_rfl
theorem yA:AS (true::false::false::false::[]):=by delta AS;intros;kernel_rfl
theorem zH:AS (true::false::false::false::false::[]):=by delta AS;intros;kernel_rfl
theorem tM:AS (true::false::false::false::false::false::[]):=by delta AS;intros;kernel_rfl
theorem AAQ:AS (true::false::false::false::false::false::false::[]):=by delta AS;intros;kernel_rfl
theorem z_:AS (true::false::false::false::false::false::false::false::[]):=by delta AS;intros;kernel_rfl
theorem zI(ω:List Bool):AS (true::false::false::false::false::false::false::false::false::ω):=by delta AS;intros;kernel_rfl
theorem zX(ω:List Bool):AS (true::false::false::false::false::false::false::false::true::ω):=by delta AS;intros;kernel_rfl
theorem tN:AS (true::false::false::false::false::false::false::true::[]):=by delta AS;intros;kernel_rfl
theorem zN(ω:List Bool):AS (true::false::false::false::false::false::false::true::false::ω):=by delta AS;intros;kernel_rfl
theorem uu(ω:List Bool):AS (true::false::false::false::false::false::false::true::true::ω):=by delta AS;intros;kernel_rfl
theorem yj:AS (true::false::false::false::false::false::true::[]):=by delta AS;intros;kernel_rfl
theorem tg(ω:List Bool):AS (true::false::false::false::false::false::true::false::ω):=by delta AS;intros;kernel_rfl
theorem yl(ω:List Bool):AS (true::false::false::false::false::false::true::true::ω):=by delta AS;intros;kernel_rfl
theorem uV:AS (true::false::false::false::false::true::[]):=by delta AS;intros;kernel_rfl
theorem vg:AS (true::false::false::false::false::true::false::[]):=by delta AS;intros;kernel_rfl
theorem yw(ω:List Bool):AS (true::false::false::false::false::true::false::false::ω):=by delta AS;intros;kernel_rfl
theorem uJ(ω:List Bool):AS (true::false::false::false::false::true::false::true::ω):=by delta AS;intros;kernel_rfl
theorem xu(ω:List Bool):AS (true::false::false::false::false::true::true::ω):=by delta AS;intros;kernel_rfl
theorem zE:AS (true::false::false::false::true::[]):=by delta AS;intros;kernel_rfl
theorem yo:AS (true::false::false::false::true::false::[]):=by delta AS;intros;kernel_rfl
theorem vx(ω:List Bool):AS (true::false::false::false::true::false::false::ω):=by delta AS;intros;kernel_rfl
theorem wA(ω:List Bool):AS (true::false::false::false::true::false::true::ω):=by delta AS;intros;kernel_rfl
theorem zo(ω:List Bool):AS (true::false::false::false::true::true::ω):=by delta AS;intros;kernel_rfl
theorem vb:AS (true::false::false::true::[]):=by delta AS;intros;kernel_rfl
theorem u0:AS (true::false::false::true::false::[]):=by delta AS;intros;kernel_rfl
theorem yV:AS (true::false::false::true::false::false::[]):=by delta AS;intros;kernel_rfl
theorem yh(ω:List Bool):AS (true::false::false::true::false::false::false::ω):=by delta AS;intros;kernel_rfl
theorem xl(ω:List Bool):AS (true::false::false::true::false::false::true::ω):=by delta AS;intros;kernel_rfl
theorem uI(ω:List Bool):AS (true::false::false::true::false::true::ω):=by delta AS;intros;kernel_rfl
theorem zF(ω:List Bool):AS (true::false::false::true::true::ω):=by delta AS;intros;kernel_rfl
theorem wD:AS (true::false::true::[]):=by delta AS;intros;kernel_rfl
theorem AAB:AS (true::false::true::false::[]):=by delta AS;intros;kernel_rfl
theorem xW:AS (true::false::true::false::false::[]):=by delta AS;intros;kernel_rfl
theorem xN(ω:List Bool):AS (true::false::true::false::false::false::ω):=by delta AS;intros;kernel_rfl
theorem xY(ω:List Bool):AS (true::false::true::false::false::true::ω):=by delta AS;intros;kernel_rfl
theorem vA(ω:List Bool):AS (true::false::true::false::true::ω):=by delta AS;intros;kernel_rfl
theorem tP(ω:List Bool):AS (true::false::true::true::ω):=by delta AS;intros;kernel_rfl
theorem AAF:AS (true::true::[]):=by delta AS;intros;kernel_rfl
theorem wb:AS (true::true::false::[]):=by delta AS;intros;kernel_rfl
theorem xE:AS (true::true::false::false::[]):=by delta AS;intros;kernel_rfl
theorem tp(ω:List Bool):AS (true::true::false::false::false::ω):=by delta AS;intros;kernel_rfl
theorem vS(ω:List Bool):AS (true::true::false::false::true::ω):=by delta AS;intros;kernel_rfl
theorem ta(ω:List Bool):AS (true::true::false::true::ω):=by delta AS;intros;kernel_rfl
theorem wE(ω:List Bool):AS (true::true::true::ω):=by delta AS;intros;kernel_rfl
theorem AJx(n:Nat)(ω:List Bool)(v:lp.V):FW AIl AH7 Tryz.f327 (Nj 0 AFl n) ω v=lp.un (FA) v:=(AD ADf (AD ACf (AD AFD (AD AB6 (AD AD8 (AD AEw (AD ABp (AD ACk ACB zn) (AD AAE wZ xG)) (AD wh zW w3)) (AD ui (AD uz wB xL) yO)) (AD AAb (AD xn wJ td) zr)) (AD wy (AD uR (AD uT uY vE) AAD) xQ)) (AD tv (AD AAd (AD ud AAW yu) xk) uf)) (AD zg (AD wc (AD zS (AD yA (AD zH (AD tM (AD AAQ (AD z_ zI zX) (AD tN zN uu)) (AD yj tg yl)) (AD uV (AD vg yw uJ) xu)) (AD zE (AD yo vx wA) zo)) (AD vb (AD u0 (AD yV yh xl) uI) zF)) (AD wD (AD AAB (AD xW xN xY) vA) tP)) (AD AAF (AD wb (AD xE tp vS) ta) wE))) ω n v
def ALG:SQ:=mk Tryz.func327 lp ABw FA [s11,AIF] [(3,[0,1]),(4,[0,4])] AFl (hJ:= .nil) (he:=AJx Aa)
abbrev dd:Bn:=jh
abbrev oG:Bn:=G5
def lE:SQ:=mk Tryz.func330 dd oG DR [] [] []
abbrev X_:Bn:=ka
abbrev kA:Bn:=Eb
def bz:SQ:=mk Tryz.func163 X_ kA B4 [] [] [⟨2,⟨[(0,YJ),(1,Bm),(5,Bm)],[]⟩,Hl⟩]
def mY:SQ:=mk Tryz.func329 ka cn Fj [bz] [] [⟨4,⟨[(0,YJ),(1,Bm),(5,qQ),(6,qH),(7,Bm)],[EF]⟩,FC⟩]
abbrev ALN:Bn:=⟨[(0,ML),(1,YJ)],b_⟩
abbrev AJt:Bn:=kR
def gE:SQ:=mk Tryz.func121 ALN AJt Ba [ZR] [] []
abbrev sj:Bn:=au
abbrev AEX:Bn:=AAo
def rH:SQ:=mk Tryz.func257 sj AEX DK [ZR,gE,dw,mY,lE] [] [⟨4,⟨[(0,ML),(3,SE),(5,.c (.ref 2)),(6,Bm),(7,Bm)],AGk⟩,F5⟩]
def ABz:SQ:=mk Tryz.func334 au AAo FF [Ys,rH,mY] [] [⟨3,⟨[(3,SE),(5,.c (.ref 2)),(6,Bm)],AGk⟩,HV⟩]
def ALj:SQ:=mk Tryz.func387 ⟨[(0,YJ)],[]⟩ G5 H7 [AGN] [] [⟨5,⟨[(0,YJ),(3,Bm),(4,Bm)],[]⟩,HY⟩]
def uG:SQ:=mk Tryz.func168 q9 G5 Gn [] [] [⟨2,⟨zB,[ADO]⟩,FZ⟩]
abbrev Xn:Bn:=⟨[(0,.row Y4),(1,Bm)],[]⟩
abbrev kK:Bn:=cn
def jm:SQ:=mk Tryz.func346 Xn kK Bk [fR] [] []
def AK3:SQ:=mk Tryz.func388 nJ qe IK [ZR,Ys,dw,lE,jm] [(18,[1,2,3])] [⟨16,⟨[(0,ML),(3,SE),(4,xP9),(5,xP4),(7,Bm),(8,Bm),(9,Bm)],[QU,rP,AE2,sC]⟩,D6⟩]
def ACJ:SQ:=mk Tryz.func391 ⟨[(0,ML),(1,.c (.sl false .str))],b_⟩ ⟨[(0,.c (.v .str))],b_⟩ Eg [ZR] [] []
def ALm:SQ:=mk Tryz.func412 jh G5 OB [] [] []
def AJ9:SQ:=mk Tryz.func389 nJ qe EW [ZR,dw,jm,ACJ,ALm] [] []
def ALk:SQ:=mk Tryz.func328 nJ qe Ku [ZR,uG,dw,ABz,ALj,AK3,AJ9] [(16,[1]),(27,[1,2])] []
def lf:SQ:=mk Tryz.func169 G5 Eb E8 [fR] [] []
abbrev Xg:Bn:=G5
abbrev kF:Bn:=G5
def bZ:SQ:=mk Tryz.func170 Xg kF Bu [lf] [] []
def wK:SQ:=mk Tryz.func267 ⟨[(0,.row Y1)],[]⟩ Eb Ix [fR,lf,bZ] [(1,[0])] []
def ALa:SQ:=mk Tryz.func265 AA8 Eb PK [wK] [] [⟨4,⟨[(0,Zc),(5,Bm)],[]⟩,IM⟩]
def AHK:SQ:=mk Tryz.func266 rm Eb Rr [] [] [⟨2,⟨[(0,Zc),(3,Bm)],[]⟩,EI⟩]
def mW:SQ:=mk Tryz.func162 kC Eb EO [fR,ALa,AHK] [] []
def ALS:SQ:=mk Tryz.func164 kC Eb U7 [] [] []
def s63:SQ:=mk Tryz.func63 bF Eb Oi [s11,lY,Ys,mW,bz,ALS] [] [⟨4,ABH,GX⟩]
abbrev AED:Bn:=AAp
abbrev AGZ:Bn:=Eb
def p8:SQ:=mk Tryz.func165 AED AGZ I9 [s11,fR,Ys,lf,bZ] [] [⟨5,⟨AHa,AG1⟩,Hn⟩]
abbrev ACc:Bn:=AAu
abbrev AHw:Bn:=Eb
def sO:SQ:=mk Tryz.func166 ACc AHw E_ [s11,fR,lY,Ys] [(8,[0,1,2])] [⟨5,⟨AHa,AIX⟩,IF⟩]
abbrev YF:Bn:=G5
abbrev lC:Bn:=G5
def xI:SQ:=mk Tryz.func337 YF lC Ez [lf] [] []
def AGD:SQ:=mk Tryz.func268 nF G5 MI [xI] [] []
def oc:SQ:=mk Tryz.func167 nY Eb GL [s11,fR,lY,bZ,AHK,wK,AGD] [(6,[0,1]),(11,[0,1]),(15,[0,1])] [⟨4,AA0,Gp⟩,⟨9,⟨[(2,ML),(3,SE),(6,Bm)],ACl⟩,FN⟩]
def s64:SQ:=mk Tryz.func64 bF Eb NP [p8,sO,oc,uG] [(7,[0]),(13,[0,1])] [⟨5,⟨[(1,ML),(3,Bm),(4,Bm)],wa⟩,EU⟩,⟨10,⟨[(1,ML),(3,Bm),(5,Bm)],wa⟩,C_⟩]
def s65:SQ:=mk Tryz.func65 qw Eb JO [fR] [] []
def s66:SQ:=mk Tryz.func66 bF Eb Qm [lf,bZ] [(7,[0,1])] [⟨4,ABH,G9⟩]
def s19:SQ:=mk Tryz.func19 bF Eb Kr [s63,s64,s65,s66] [] []
def AKR:SQ:=mk Tryz.func274 ⟨[(0,.row Y12)],[]⟩ ⟨AGs,[]⟩ S3 [] [] []
def ALK:SQ:=mk Tryz.func189 ⟨[(0,.row Y12)],[]⟩ Eb R_ [fR,AKR] [(1,[0])] []
abbrev X3:Bn:=q9
abbrev lM:Bn:=⟨[(0,.agg [.ref 0,.v tI])],[OO]⟩
def pw:SQ:=mk Tryz.func184 X3 lM Dx [] [] [⟨3,⟨AHs,[ADO,AB_,OO,ACN,OO]⟩,KG⟩]
abbrev aJ:Bn:=kC
abbrev mm:Bn:=⟨[(0,.agg [.ref 0,.ref 1,.v tI])],[KI,KI]⟩
def oQ:SQ:=mk Tryz.func185 aJ mm DF [] [(1,[0])] [] (he:=fun ω v=>by rcases ω with _|⟨_|_,_|⟨_|_,_⟩⟩<;>kernel_rfl)
abbrev X4:Bn:=⟨[(0,.row Y6)],[]⟩
abbrev kc:Bn:=⟨[(0,.agg [.v tI,.ref 0])],[bN]⟩
def qB:SQ:=mk Tryz.func186 X4 kc Cl [] [] [⟨3,⟨AHs,[AE4,.mem [.v tI,.ref 2],bN,.mem [.v tI,.ref 4],bN]⟩,Gy⟩]
abbrev UU:Bn:=nF
abbrev iK:Bn:=ABO
def ACW:O2:=⟨UU,iK,(UU.un Ck)⟩
def ADb:Xj:=⟨T,T5 (SP.l ([]:List SQ)),C0 [(1,[0,1]),(5,[0,1,2,3,4,6,7])]⟩
def w4:List (Lp iK):=[⟨3,⟨[(1,ML),(2,SE),(3,.c (.ptr 5 0)),(4,Bm)],ACy⟩,FO⟩]
abbrev la:Bn:=⟨[(1,ML),(2,SE),(3,.c (.ptr 5 0)),(4,Bm)],ACy⟩
theorem AFV(n:Nat)(v:la.V)(ω:List Bool):GH ADb ACW Tryz.f187 (Nj 0 w4 n) 3 ω (la.st 40 v)=la.un (Me (FO n)) v:=by rcases ω with _|⟨_|_,_|⟨_|_,_|⟨_|_,_⟩⟩⟩<;>kernel_rfl
def CN(ω:List Bool):Prop:= ∀(n:Nat) (v:UU.V),FW ADb ACW Tryz.f187 (Nj 0 w4 n) ω v=UU.un (Jm (FO n)) v
theorem AEG:CN []:=by delta CN;intros;kernel_rfl
theorem AEf:CN (false::[]):=by delta CN;intros;kernel_rfl
theorem AB4:CN (false::false::[]):=by delta CN;intros;kernel_rfl
theorem AFn(ω:List Bool):CN (false::false::false::ω):=by delta CN;intros;kernel_rfl
theorem AD2:CN (false::false::true::[]):=by delta CN;intros;kernel_rfl
theorem AFG(ω:List Bool):CN (false::false::true::false::ω):=by delta CN;intros;kernel_rfl
theorem ACC(ω:List Bool):CN (false::false::true::true::ω):=by delta CN;intros;kernel_rfl
theorem AFp:CN (false::true::[]):=by delta CN;intros;kernel_rfl
theorem AE8(ω:List Bool):CN (false::true::false::ω):=by delta CN;intros;kernel_rfl
theorem tb:CN (false::true::true::[]):=by delta CN;intros;kernel_rfl
theorem xq(ω:List Bool):CN (false::true::true::false::ω):=by delta CN;intros;kernel_rfl
theorem vV:CN (false::true::true::true::[]):=by delta CN;intros;kernel_rfl
theorem yz(ω:List Bool):CN (false::true::true::true::false::ω):=by delta CN;intros;kernel_rfl
theorem ye(ω:List Bool):CN (false::true::true::true::true::ω):=by delta CN;intros;kernel_rfl
theorem AAK:CN (true::[]):=by delta CN;intros;kernel_rfl
theorem xi:CN (true::false::[]):=by delta CN;intros;kernel_rfl
theorem uZ:CN (true::false::false::[]):=by delta CN;intros;kernel_rfl
theorem xo(ω:List Bool):CN (true::false::false::false::ω):=by delta CN;intros;kernel_rfl
theorem AAA(ω:List Bool):CN (true::false::false::true::ω):=by delta CN;intros;kernel_rfl
theorem xT:CN (true::false::true::[]):=by delta CN;intros;kernel_rfl
theorem yD(ω:List Bool):CN (true::false::true::false::ω):=by delta CN;intros;kernel_rfl
theorem vu:CN (true::false::true::true::[]):=by delta CN;intros;kernel_rfl
theorem wL(ω:List Bool):CN (true::false::true::true::false::ω):=by delta CN;intros;kernel_rfl
theorem xt(ω:List Bool):CN (true::false::true::true::true::ω):=by delta CN;intros;kernel_rfl
theorem tw:CN (true::true::[]):=by delta CN;intros;kernel_rfl
theorem yB(ω:List Bool):CN (true::true::false::ω):=by delta CN;intros;kernel_rfl
theorem v8:CN (true::true::true::[]):=by delta CN;intros;kernel_rfl
theorem zd(ω:List Bool):CN (true::true::true::false::ω):=by delta CN;intros;kernel_rfl
theorem uk(ω:List Bool):CN (true::true::true::true::ω):=by delta CN;intros;kernel_rfl
theorem AKd(n:Nat)(ω:List Bool)(v:UU.V):FW ADb ACW Tryz.f187 (Nj 0 w4 n) ω v=UU.un (Jm (FO n)) v:=(AD AEG (AD AEf (AD AB4 AFn (AD AD2 AFG ACC)) (AD AFp AE8 (AD tb xq (AD vV yz ye)))) (AD AAK (AD xi (AD uZ xo AAA) (AD xT yD (AD vu wL xt))) (AD tw yB (AD v8 zd uk)))) ω n v
def pQ:SQ:=mk Tryz.func187 UU iK Ck [] [(1,[0,1]),(5,[0,1,2,3,4,6,7])] w4 (hJ:= .cons (fun _=>rfl) AFV (.nil)) (he:=AKd Aa)
abbrev Ze:Bn:=qw
abbrev mU:Bn:=sf
def tJ:SQ:=mk Tryz.func188 Ze mU BZ [] [] []
abbrev ue:Bn:=bF
abbrev o86:Bn:=⟨ya,AGt⟩
def sL:O2:=⟨ue,o86,(ue.un Ko)⟩
def C86:Xj:=⟨T,T5 (SP.l [pw,oQ,qB,pQ,tJ]),C0 [(1,[0,1]),(5,[0,1,2,3,4,5,6,7,8,9,11,13,14,15,16,17,18]),(9,[0,1,2,3,4,5,6,7,8,9,11,12,13,14,16,17,18]),(13,[0,1,2,3,4,5,6,7,8,9,11,12,13,14,15,17,18]),(17,[0,1,2,3,4,5,6,7,8,9,11,12,13,14,15,16,18])]⟩
def qM:List (Lp o86):=[⟨3,⟨[(1,ML),(2,SE),(3,Yn),(4,Bm)],kJ⟩,Bj⟩,⟨7,⟨[(1,ML),(2,SE),(3,Yn),(5,Bm)],kJ⟩,Bv⟩,⟨11,⟨[(1,ML),(2,SE),(3,Yn),(6,Bm)],kJ⟩,Be⟩,⟨15,⟨[(1,ML),(2,SE),(3,Yn),(7,Bm)],kJ⟩,Bf⟩]
abbrev gh:Bn:=⟨[(1,ML),(2,SE),(3,Yn),(4,Bm)],kJ⟩
abbrev gu:Bn:=⟨[(1,ML),(2,SE),(3,Yn),(5,Bm)],kJ⟩
abbrev aA:Bn:=⟨[(1,ML),(2,SE),(3,Yn),(6,Bm)],kJ⟩
abbrev Zz:Bn:=⟨[(1,ML),(2,SE),(3,Yn),(7,Bm)],kJ⟩
theorem AHJ(V3:ABB→Option Dc)(aB:ABG→Option Hm)(WJ:ABE→Option Da)(Zt:AA2→Option EH)(ZX:ABk→Option Gq)(n:Nat)(v:gh.V)(ω:List Bool):GH ⟨T,T5 [(184,⟨X3,lM,X3.un V3⟩),(185,⟨aJ,mm,aJ.un aB⟩),(186,⟨X4,kc,X4.un WJ⟩),(187,⟨UU,iK,UU.un Zt⟩),(188,⟨Ze,mU,Ze.un ZX⟩)],C0 [(1,[0,1]),(5,[0,1,2,3,4,5,6,7,8,9,11,13,14,15,16,17,18]),(9,[0,1,2,3,4,5,6,7,8,9,11,12,13,14,16,17,18]),(13,[0,1,2,3,4,5,6,7,8,9,11,12,13,14,15,17,18]),(17,[0,1,2,3,4,5,6,7,8,9,11,12,13,14,15,16,18])]⟩ sL Tryz.f86 (Nj 0 qM n) 3 ω (gh.st 104 v)=gh.un (fun(t4:Int) (AH:AAg) (AJ:Int) (AR:AAj) (DD:AAg) (EN:AAi) (Cz:Int) (C3:AAn) (Cq:AAt) (Ea:AAv) (Db:AAm) (CS:Bool) (Aq:Int) (Du:Int) (FI:Bool) (b2:AAg) (b3:AAj) (b4:AAg) (b5:AAi) (b6:AAn) (b7:AAt) (b8:AAv) (b9:AAm) (De:Int) (E6:Int) (Cy:Bool) (F9:AAg) (Df:AAj) (Fh:AAg) (Fb:AAi) (D_:AAn) (ET:AAt) (Eo:AAv) (Td:AAm)=>
 cond ((decide (t4<(AR.length:Int))))
  (if(0:Int)≤t4∧t4<(AR.length:Int)then(
  (aB ((AR.getD (t4.toNat) ([],[],0,())).1,(AR.getD (t4.toNat) ([],[],0,())).2.1,(AR.getD (t4.toNat) ([],[],0,())).2.2.1,())).bind fun lU=>
  if Df.length+1≤Go.M.DH then(
  (Bj n) (AX (t4+1)) AH AJ AR DD EN Cz C3 Cq Ea Db CS Aq Du FI b2 b3 b4 b5 b6 b7 b8 b9 De E6 Cy F9 (Df++[(lU.2.1,lU.2.2.1,lU.1.1.2.2.1,())]) Fh Fb D_ ET Eo Td)else none)else none)
 ((Bv n) 0 AH AJ AR DD EN Cz C3 Cq Ea Db CS Aq Du FI b2 b3 b4 b5 b6 b7 b8 b9 De E6 Cy F9 Df Fh Fb D_ ET Eo Td)) v:=by rcases ω with _|⟨_|_,_|⟨_|_,_⟩⟩<;>kernel_rfl
theorem AHD(n:Nat)(v:gh.V)(ω:List Bool):GH C86 sL Tryz.f86 (Nj 0 qM n) 3 ω (gh.st 104 v)=gh.un (Ly (Bj n) (Bv n) (Be n) (Bf n)) v:=AHJ Dx DF Cl Ck BZ n v ω
theorem AG3(V3:ABB→Option Dc)(aB:ABG→Option Hm)(WJ:ABE→Option Da)(Zt:AA2→Option EH)(ZX:ABk→Option Gq)(n:Nat)(v:gu.V)(ω:List Bool):GH ⟨T,T5 [(184,⟨X3,lM,X3.un V3⟩),(185,⟨aJ,mm,aJ.un aB⟩),(186,⟨X4,kc,X4.un WJ⟩),(187,⟨UU,iK,UU.un Zt⟩),(188,⟨Ze,mU,Ze.un ZX⟩)],C0 [(1,[0,1]),(5,[0,1,2,3,4,5,6,7,8,9,11,13,14,15,16,17,18]),(9,[0,1,2,3,4,5,6,7,8,9,11,12,13,14,16,17,18]),(13,[0,1,2,3,4,5,6,7,8,9,11,12,13,14,15,17,18]),(17,[0,1,2,3,4,5,6,7,8,9,11,12,13,14,15,16,18])]⟩ sL Tryz.f86 (Nj 0 qM n) 7 ω (gu.st 104 v)=gu.un (fun(t5:Int) (AH:AAg) (AJ:Int) (AR:AAj) (DD:AAg) (EN:AAi) (Cz:Int) (C3:AAn) (Cq:AAt) (Ea:AAv) (Db:AAm) (CS:Bool) (Aq:Int) (Du:Int) (FI:Bool) (b2:AAg) (b3:AAj) (b4:AAg) (b5:AAi) (b6:AAn) (b7:AAt) (b8:AAv) (b9:AAm) (De:Int) (E6:Int) (Cy:Bool) (F9:AAg) (Df:AAj) (Fh:AAg) (Fb:AAi) (D_:AAn) (ET:AAt) (Eo:AAv) (Td:AAm)=>
 cond ((decide (t5<(C3.length:Int))))
  (if(0:Int)≤t5∧t5<(C3.length:Int)then(
  (WJ ((C3.getD (t5.toNat) (0,[],())).1,(C3.getD (t5.toNat) (0,[],())).2.1,())).bind fun rY=>
  if D_.length+1≤Go.M.DH then(
  (Bv n) (AX (t5+1)) AH AJ AR DD EN Cz C3 Cq Ea Db CS Aq Du FI b2 b3 b4 b5 b6 b7 b8 b9 De E6 Cy F9 Df Fh Fb (D_++[(rY.1.1.1,rY.2.1,())]) ET Eo Td)else none)else none)
 ((Be n) 0 AH AJ AR DD EN Cz C3 Cq Ea Db CS Aq Du FI b2 b3 b4 b5 b6 b7 b8 b9 De E6 Cy F9 Df Fh Fb D_ ET Eo Td)) v:=by rcases ω with _|⟨_|_,_|⟨_|_,_⟩⟩<;>kernel_rfl
theorem AG_(n:Nat)(v:gu.V)(ω:List Bool):GH C86 sL Tryz.f86 (Nj 0 qM n) 7 ω (gu.st 104 v)=gu.un (Lv (Bj n) (Bv n) (Be n) (Bf n)) v:=AG3 Dx DF Cl Ck BZ n v ω
theorem AEx(V3:ABB→Option Dc)(aB:ABG→Option Hm)(WJ:ABE→Option Da)(Zt:AA2→Option EH)(ZX:ABk→Option Gq)(n:Nat)(v:aA.V)(ω:List Bool):GH ⟨T,T5 [(184,⟨X3,lM,X3.un V3⟩),(185,⟨aJ,mm,aJ.un aB⟩),(186,⟨X4,kc,X4.un WJ⟩),(187,⟨UU,iK,UU.un Zt⟩),(188,⟨Ze,mU,Ze.un ZX⟩)],C0 [(1,[0,1]),(5,[0,1,2,3,4,5,6,7,8,9,11,13,14,15,16,17,18]),(9,[0,1,2,3,4,5,6,7,8,9,11,12,13,14,16,17,18]),(13,[0,1,2,3,4,5,6,7,8,9,11,12,13,14,15,17,18]),(17,[0,1,2,3,4,5,6,7,8,9,11,12,13,14,15,16,18])]⟩ sL Tryz.f86 (Nj 0 qM n) 11 ω (aA.st 104 v)=aA.un (fun(t6:Int) (AH:AAg) (AJ:Int) (AR:AAj) (DD:AAg) (EN:AAi) (Cz:Int) (C3:AAn) (Cq:AAt) (Ea:AAv) (Db:AAm) (CS:Bool) (Aq:Int) (Du:Int) (FI:Bool) (b2:AAg) (b3:AAj) (b4:AAg) (b5:AAi) (b6:AAn) (b7:AAt) (b8:AAv) (b9:AAm) (De:Int) (E6:Int) (Cy:Bool) (F9:AAg) (Df:AAj) (Fh:AAg) (Fb:AAi) (D_:AAn) (ET:AAt) (Eo:AAv) (Td:AAm)=>
 cond ((decide (t6<(Cq.length:Int))))
  (if(0:Int)≤t6∧t6<(Cq.length:Int)then(
  (Zt ((Cq.getD (t6.toNat) (0,0,[],[],false,[],())).1,(Cq.getD (t6.toNat) (0,0,[],[],false,[],())).2.1,(Cq.getD (t6.toNat) (0,0,[],[],false,[],())).2.2.1,(Cq.getD (t6.toNat) (0,0,[],[],false,[],())).2.2.2.1,(Cq.getD (t6.toNat) (0,0,[],[],false,[],())).2.2.2.2.1,(Cq.getD (t6.toNat) (0,0,[],[],false,[],())).2.2.2.2.2.1,())).bind fun ZV=>
  if ET.length+1≤Go.M.DH then(
  (Be n) (AX (t6+1)) AH AJ AR DD EN Cz C3 Cq Ea Db CS Aq Du FI b2 b3 b4 b5 b6 b7 b8 b9 De E6 Cy F9 Df Fh Fb D_ (ET++[(ZV.1.1.1,ZV.1.1.2.1,ZV.2.1,ZV.2.2.1,ZV.1.1.2.2.2.2.1,ZV.2.2.2.1,())]) Eo Td)else none)else none)
 ((Bf n) 0 AH AJ AR DD EN Cz C3 Cq Ea Db CS Aq Du FI b2 b3 b4 b5 b6 b7 b8 b9 De E6 Cy F9 Df Fh Fb D_ ET Eo Td)) v:=by rcases ω with _|⟨_|_,_|⟨_|_,_⟩⟩<;>kernel_rfl
theorem AEK(n:Nat)(v:aA.V)(ω:List Bool):GH C86 sL Tryz.f86 (Nj 0 qM n) 11 ω (aA.st 104 v)=aA.un (K5 (Bj n) (Bv n) (Be n) (Bf n)) v:=AEx Dx DF Cl Ck BZ n v ω
theorem ABb(V3:ABB→Option Dc)(aB:ABG→Option Hm)(WJ:ABE→Option Da)(Zt:AA2→Option EH)(ZX:ABk→Option Gq)(n:Nat)(v:Zz.V)(ω:List Bool):GH ⟨T,T5 [(184,⟨X3,lM,X3.un V3⟩),(185,⟨aJ,mm,aJ.un aB⟩),(186,⟨X4,kc,X4.un WJ⟩),(187,⟨UU,iK,UU.un Zt⟩),(188,⟨Ze,mU,Ze.un ZX⟩)],C0 [(1,[0,1]),(5,[0,1,2,3,4,5,6,7,8,9,11,13,14,15,16,17,18]),(9,[0,1,2,3,4,5,6,7,8,9,11,12,13,14,16,17,18]),(13,[0,1,2,3,4,5,6,7,8,9,11,12,13,14,15,17,18]),(17,[0,1,2,3,4,5,6,7,8,9,11,12,13,14,15,16,18])]⟩ sL Tryz.f86 (Nj 0 qM n) 15 ω (Zz.st 104 v)=Zz.un (fun(t7:Int) (AH:AAg) (AJ:Int) (AR:AAj) (DD:AAg) (EN:AAi) (Cz:Int) (C3:AAn) (Cq:AAt) (Ea:AAv) (Db:AAm) (CS:Bool) (Aq:Int) (Du:Int) (FI:Bool) (b2:AAg) (b3:AAj) (b4:AAg) (b5:AAi) (b6:AAn) (b7:AAt) (b8:AAv) (b9:AAm) (De:Int) (E6:Int) (Cy:Bool) (F9:AAg) (Df:AAj) (Fh:AAg) (Fb:AAi) (D_:AAn) (ET:AAt) (Eo:AAv) (Td:AAm)=>
 cond ((decide (t7<(Ea.length:Int))))
  (if(0:Int)≤t7∧t7<(Ea.length:Int)then(
  (ZX ((Ea.getD (t7.toNat) (0,0,[],())).1,(Ea.getD (t7.toNat) (0,0,[],())).2.1,(Ea.getD (t7.toNat) (0,0,[],())).2.2.1,())).bind fun l7=>
  if Eo.length+1≤Go.M.DH then(
  (Bf n) (AX (t7+1)) AH AJ AR DD EN Cz C3 Cq Ea Db CS Aq Du FI b2 b3 b4 b5 b6 b7 b8 b9 De E6 Cy F9 Df Fh Fb D_ ET (Eo++[(l7.1.1.1,l7.1.1.2.1,l7.2.1,())]) Td)else none)else none)
 (some ((((),De,(),(),(),E6,(),(),(),(),Cy,()),()),(F9,Df,Fh,Fb,D_,ET,Eo,Td,())))) v:=by rcases ω with _|⟨_|_,_|⟨_|_,_⟩⟩<;>kernel_rfl
theorem ACX(n:Nat)(v:Zz.V)(ω:List Bool):GH C86 sL Tryz.f86 (Nj 0 qM n) 15 ω (Zz.st 104 v)=Zz.un (K_ (Bj n) (Bv n) (Be n) (Bf n)) v:=ABb Dx DF Cl Ck BZ n v ω
def AE(ω:List Bool):Prop:= ∀(V3:ABB→Option Dc) (aB:ABG→Option Hm) (WJ:ABE→Option Da) (Zt:AA2→Option EH) (ZX:ABk→Option Gq) (n:Nat) (v:ue.V),FW ⟨T,T5 [(184,⟨X3,lM,X3.un V3⟩),(185,⟨aJ,mm,aJ.un aB⟩),(186,⟨X4,kc,X4.un WJ⟩),(187,⟨UU,iK,UU.un Zt⟩),(188,⟨Ze,mU,Ze.un ZX⟩)],C0 [(1,[0,1]),(5,[0,1,2,3,4,5,6,7,8,9,11,13,14,15,16,17,18]),(9,[0,1,2,3,4,5,6,7,8,9,11,12,13,14,16,17,18]),(13,[0,1,2,3,4,5,6,7,8,9,11,12,13,14,15,17,18]),(17,[0,1,2,3,4,5,6,7,8,9,11,12,13,14,15,16,18])]⟩ sL Tryz.f86 (Nj 0 qM n) ω v=ue.un (fun(p0:AA7)=>
 if 0+p0.1.length≤Go.M.DH then(
 if 0+p0.2.2.2.1.length≤Go.M.DH then(
 (V3 (p0.2.2.2.2.1,p0.2.2.2.2.2.1,())).bind fun u2=>
 if 0+p0.2.2.2.2.2.2.2.2.2.1.length≤Go.M.DH then(
 (Bj n) 0 p0.1 p0.2.1 p0.2.2.1 p0.2.2.2.1 p0.2.2.2.2.1 p0.2.2.2.2.2.1 p0.2.2.2.2.2.2.1 p0.2.2.2.2.2.2.2.1 p0.2.2.2.2.2.2.2.2.1 p0.2.2.2.2.2.2.2.2.2.1 p0.2.2.2.2.2.2.2.2.2.2.1 0 0 false [] [] [] [] [] [] [] [] p0.2.1 u2.1.1.2.1 p0.2.2.2.2.2.2.2.2.2.2.1 p0.1 [] p0.2.2.2.1 u2.2.1 [] [] [] p0.2.2.2.2.2.2.2.2.2.1)else none)else none)else none) v
theorem AGO:AE []:=by delta AE;intros;kernel_rfl
theorem AG6:AE (false::[]):=by delta AE;intros;kernel_rfl
theorem AGV:AE (false::false::[]):=by delta AE;intros;kernel_rfl
theorem AH1:AE (false::false::false::[]):=by delta AE;intros;kernel_rfl
theorem AH6:AE (false::false::false::false::[]):=by delta AE;intros;kernel_rfl
theorem AGE:AE (false::false::false::false::false::[]):=by delta AE;intros;kernel_rfl
theorem AGr(ω:List Bool):AE (false::false::false::false::false::false::ω):=by delta AE;intros;kernel_rfl
theorem AHj:AE (false::false::false::false::false::true::[]):=by delta AE;intros;kernel_rfl
theorem AHh(ω:List Bool):AE (false::false::false::false::false::true::false::ω):=by delta AE;intros;kernel_rfl
theorem AEc(ω:List Bool):AE (false::false::false::false::false::true::true::ω):=by delta AE;intros;kernel_rfl
theorem ADZ:AE (false::false::false::false::true::[]):=by delta AE;intros;kernel_rfl
theorem AEa(ω:List Bool):AE (false::false::false::false::true::false::ω):=by delta AE;intros;kernel_rfl
theorem AEF:AE (false::false::false::false::true::true::[]):=by delta AE;intros;kernel_rfl
theorem ABx(ω:List Bool):AE (false::false::false::false::true::true::false::ω):=by delta AE;intros;kernel_rfl
theorem AEJ:AE (false::false::false::false::true::true::true::[]):=by delta AE;intros;kernel_rfl
theorem ADB(ω:List Bool):AE (false::false::false::false::true::true::true::false::ω):=by delta AE;intros;kernel_rfl
theorem ACE:AE (false::false::false::false::true::true::true::true::[]):=by delta AE;intros;kernel_rfl
theorem AFW(ω:List Bool):AE (false::false::false::false::true::true::true::true::false::ω):=by delta AE;intros;kernel_rfl
theorem AEV(ω:List Bool):AE (false::false::false::false::true::true::true::true::true::ω):=by delta AE;intros;kernel_rfl
theorem AEu:AE (false::false::false::true::[]):=by delta AE;intros;kernel_rfl
theorem ADJ:AE (false::false::false::true::false::[]):=by delta AE;intros;kernel_rfl
theorem AC1:AE (false::false::false::true::false::false::[]):=by delta AE;intros;kernel_rfl
theorem ACD(ω:List Bool):AE (false::false::false::true::false::false::false::ω):=by delta AE;intros;kernel_rfl
theorem ACP(ω:List Bool):AE (false::false::false::true::false::false::true::ω):=by delta AE;intros;kernel_rfl
theorem ACS:AE (false::false::false::true::false::true::[]):=by delta AE;intros;kernel_rfl
theorem ABY(ω:List Bool):AE (false::false::false::true::false::true::false::ω):=by delta AE;intros;kernel_rfl
theorem AEd:AE (false::false::false::true::false::true::true::[]):=by delta AE;intros;kernel_rfl
theorem AEy(ω:List Bool):AE (false::false::false::true::false::true::true::false::ω):=by delta AE;intros;kernel_rfl
theorem AB1:AE (false::false::false::true::false::true::true::true::[]):=by delta AE;intros;kernel_rfl
theorem AFN(ω:List Bool):AE (false::false::false::true::false::true::true::true::false::ω):=by delta AE;intros;kernel_rfl
theorem AEt(ω:List Bool):AE (false::false::false::true::false::true::true::true::true::ω):=by delta AE;intros;kernel_rfl
theorem AEq:AE (false::false::false::true::true::[]):=by delta AE;intros;kernel_rfl
theorem ACt(ω:List Bool):AE (false::false::false::true::true::false::ω):=by delta AE;intros;kernel_rfl
theorem ADx:AE (false::false::false::true::true::true::[]):=by delta AE;intros;kernel_rfl
theorem AEp(ω:List Bool):AE (false::false::false::true::true::true::false::ω):=by delta AE;intros;kernel_rfl
theorem AFT:AE (false::false::false::true::true::true::true::[]):=by delta AE;intros;kernel_rfl
theorem ADp(ω:List Bool):AE (false::false::false::true::true::true::true::false::ω):=by delta AE;intros;kernel_rfl
theorem ACw(ω:List Bool):AE (false::false::false::true::true::true::true::true::ω):=by delta AE;intros;kernel_rfl
theorem ADs:AE (false::false::true::[]):=by delta AE;intros;kernel_rfl
theorem AD6:AE (false::false::true::false::[]):=by delta AE;intros;kernel_rfl
theorem AB8:AE (false::false::true::false::false::[]):=by delta AE;intros;kernel_rfl
theorem AFa(ω:List Bool):AE (false::false::true::false::false::false::ω):=by delta AE;intros;kernel_rfl
theorem ACe:AE (false::false::true::false::false::true::[]):=by delta AE;intros;kernel_rfl
theorem ADo(ω:List Bool):AE (false::false::true::false::false::true::false::ω):=by delta AE;intros;kernel_rfl
theorem AB5(ω:List Bool):AE (false::false::true::false::false::true::true::ω):=by delta AE;intros;kernel_rfl
theorem AC3:AE (false::false::true::false::true::[]):=by delta AE;intros;kernel_rfl
theorem ADK(ω:List Bool):AE (false::false::true::false::true::false::ω):=by delta AE;intros;kernel_rfl
theorem ABd:AE (false::false::true::false::true::true::[]):=by delta AE;intros;kernel_rfl
theorem AES(ω:List Bool):AE (false::false::true::false::true::true::false::ω):=by delta AE;intros;kernel_rfl
theorem AFq:AE (false::false::true::false::true::true::true::[]):=by delta AE;intros;kernel_rfl
theorem AFh(ω:List Bool):AE (false::false::true::false::true::true::true::false::ω):=by delta AE;intros;kernel_rfl
theorem ABy:AE (false::false::true::false::true::true::true::true::[]):=by delta AE;intros;kernel_rfl
theorem AFI(ω:List Bool):AE (false::false::true::false::true::true::true::true::false::ω):=by delta AE;intros;kernel_rfl
theorem AEN:AE (false::false::true::false::true::true::true::true::true::[]):=by delta AE;intros;kernel_rfl
theorem AFb(ω:List Bool):AE (false::false::true::false::true::true::true::true::true::false::ω):=by delta AE;intros;kernel_rfl
theorem ADr(ω:List Bool):AE (false::false::true::false::true::true::true::true::true::true::ω):=by delta AE;intros;kernel_rfl
theorem AEh:AE (false::false::true::true::[]):=by delta AE;intros;kernel_rfl
theorem AE9:AE (false::false::true::true::false::[]):=by delta AE;intros;kernel_rfl
theorem ACs:AE (false::false::true::true::false::false::[]):=by delta AE;intros;kernel_rfl
theorem ADD(ω:List Bool):AE (false::false::true::true::false::false::false::ω):=by delta AE;intros;kernel_rfl
theorem AFL(ω:List Bool):AE (false::false::true::true::false::false::true::ω):=by delta AE;intros;kernel_rfl
theorem AD0:AE (false::false::true::true::false::true::[]):=by delta AE;intros;kernel_rfl
theorem AFf(ω:List Bool):AE (false::false::true::true::false::true::false::ω):=by delta AE;intros;kernel_rfl
theorem ADm:AE (false::false::true::true::false::true::true::[]):=by delta AE;intros;kernel_rfl
theorem ABs(ω:List Bool):AE (false::false::true::true::false::true::true::false::ω):=by delta AE;intros;kernel_rfl
theorem AE1:AE (false::false::true::true::false::true::true::true::[]):=by delta AE;intros;kernel_rfl
theorem ADg(ω:List Bool):AE (false::false::true::true::false::true::true::true::false::ω):=by delta AE;intros;kernel_rfl
theorem ADP:AE (false::false::true::true::false::true::true::true::true::[]):=by delta AE;intros;kernel_rfl
theorem ADV(ω:List Bool):AE (false::false::true::true::false::true::true::true::true::false::ω):=by delta AE;intros;kernel_rfl
theorem AFO(ω:List Bool):AE (false::false::true::true::false::true::true::true::true::true::ω):=by delta AE;intros;kernel_rfl
theorem AFZ:AE (false::false::true::true::true::[]):=by delta AE;intros;kernel_rfl
theorem ABe(ω:List Bool):AE (false::false::true::true::true::false::ω):=by delta AE;intros;kernel_rfl
theorem AE0:AE (false::false::true::true::true::true::[]):=by delta AE;intros;kernel_rfl
theorem ADH(ω:List Bool):AE (false::false::true::true::true::true::false::ω):=by delta AE;intros;kernel_rfl
theorem ABi:AE (false::false::true::true::true::true::true::[]):=by delta AE;intros;kernel_rfl
theorem ACx(ω:List Bool):AE (false::false::true::true::true::true::true::false::ω):=by delta AE;intros;kernel_rfl
theorem ADi:AE (false::false::true::true::true::true::true::true::[]):=by delta AE;intros;kernel_rfl
theorem ACi(ω:List Bool):AE (false::false::true::true::true::true::true::true::false::ω):=by delta AE;intros;kernel_rfl
theorem AEe(ω:List Bool):AE (false::false::true::true::true::true::true::true::true::ω):=by delta AE;intros;kernel_rfl
theorem ABa:AE (false::true::[]):=by delta AE;intros;kernel_rfl
theorem ACR:AE (false::true::false::[]):=by delta AE;intros;kernel_rfl
theorem ACI:AE (false::true::false::false::[]):=by delta AE;intros;kernel_rfl
theorem AFi(ω:List Bool):AE (false::true::false::false::false::ω):=by delta AE;intros;kernel_rfl
theorem AC5:AE (false::true::false::false::true::[]):=by delta AE;intros;kernel_rfl
theorem AFo(ω:List Bool):AE (false::true::false::false::true::false::ω):=by delta AE;intros;kernel_rfl
theorem ADl:AE (false::true::false::false::true::true::[]):=by delta AE;intros;kernel_rfl
theorem AC0(ω:List Bool):AE (false::true::false::false::true::true::false::ω):=by delta AE;intros;kernel_rfl
theorem AEl:AE (false::true::false::false::true::true::true::[]):=by delta AE;intros;kernel_rfl
theorem ADW(ω:List Bool):AE (false::true::false::false::true::true::true::false::ω):=by delta AE;intros;kernel_rfl
theorem AEk(ω:List Bool):AE (false::true::false::false::true::true::true::true::ω):=by delta AE;intros;kernel_rfl
theorem ABl:AE (false::true::false::true::[]):=by delta AE;intros;kernel_rfl
theorem ABt(ω:List Bool):AE (false::true::false::true::false::ω):=by delta AE;intros;kernel_rfl
theorem AFd:AE (false::true::false::true::true::[]):=by delta AE;intros;kernel_rfl
theorem ACY(ω:List Bool):AE (false::true::false::true::true::false::ω):=by delta AE;intros;kernel_rfl
theorem AE3:AE (false::true::false::true::true::true::[]):=by delta AE;intros;kernel_rfl
theorem AFE(ω:List Bool):AE (false::true::false::true::true::true::false::ω):=by delta AE;intros;kernel_rfl
theorem ACd:AE (false::true::false::true::true::true::true::[]):=by delta AE;intros;kernel_rfl
theorem AEr(ω:List Bool):AE (false::true::false::true::true::true::true::false::ω):=by delta AE;intros;kernel_rfl
theorem AFX:AE (false::true::false::true::true::true::true::true::[]):=by delta AE;intros;kernel_rfl
theorem AAS(ω:List Bool):AE (false::true::false::true::true::true::true::true::false::ω):=by delta AE;intros;kernel_rfl
theorem uc(ω:List Bool):AE (false::true::false::true::true::true::true::true::true::ω):=by delta AE;intros;kernel_rfl
theorem wk:AE (false::true::true::[]):=by delta AE;intros;kernel_rfl
theorem wU:AE (false::true::true::false::[]):=by delta AE;intros;kernel_rfl
theorem uS:AE (false::true::true::false::false::[]):=by delta AE;intros;kernel_rfl
theorem yk(ω:List Bool):AE (false::true::true::false::false::false::ω):=by delta AE;intros;kernel_rfl
theorem yv:AE (false::true::true::false::false::true::[]):=by delta AE;intros;kernel_rfl
theorem AAX(ω:List Bool):AE (false::true::true::false::false::true::false::ω):=by delta AE;intros;kernel_rfl
theorem yZ:AE (false::true::true::false::false::true::true::[]):=by delta AE;intros;kernel_rfl
theorem AAe(ω:List Bool):AE (false::true::true::false::false::true::true::false::ω):=by delta AE;intros;kernel_rfl
theorem vn(ω:List Bool):AE (false::true::true::false::false::true::true::true::ω):=by delta AE;intros;kernel_rfl
theorem vh:AE (false::true::true::false::true::[]):=by delta AE;intros;kernel_rfl
theorem yy(ω:List Bool):AE (false::true::true::false::true::false::ω):=by delta AE;intros;kernel_rfl
theorem uM:AE (false::true::true::false::true::true::[]):=by delta AE;intros;kernel_rfl
theorem xJ(ω:List Bool):AE (false::true::true::false::true::true::false::ω):=by delta AE;intros;kernel_rfl
theorem yU:AE (false::true::true::false::true::true::true::[]):=by delta AE;intros;kernel_rfl
theorem xF(ω:List Bool):AE (false::true::true::false::true::true::true::false::ω):=by delta AE;intros;kernel_rfl
theorem yJ:AE (false::true::true::false::true::true::true::true::[]):=by delta AE;intros;kernel_rfl
theorem v7(ω:List Bool):AE (false::true::true::false::true::true::true::true::false::ω):=by delta AE;intros;kernel_rfl
theorem v_(ω:List Bool):AE (false::true::true::false::true::true::true::true::true::ω):=by delta AE;intros;kernel_rfl
theorem xz:AE (false::true::true::true::[]):=by delta AE;intros;kernel_rfl
theorem yH:AE (false::true::true::true::false::[]):=by delta AE;intros;kernel_rfl
theorem AAG:AE (false::true::true::true::false::false::[]):=by delta AE;intros;kernel_rfl
theorem vT(ω:List Bool):AE (false::true::true::true::false::false::false::ω):=by delta AE;intros;kernel_rfl
theorem z6:AE (false::true::true::true::false::false::true::[]):=by delta AE;intros;kernel_rfl
theorem xm(ω:List Bool):AE (false::true::true::true::false::false::true::false::ω):=by delta AE;intros;kernel_rfl
theorem zK(ω:List Bool):AE (false::true::true::true::false::false::true::true::ω):=by delta AE;intros;kernel_rfl
theorem vp:AE (false::true::true::true::false::true::[]):=by delta AE;intros;kernel_rfl
theorem uo(ω:List Bool):AE (false::true::true::true::false::true::false::ω):=by delta AE;intros;kernel_rfl
theorem uh:AE (false::true::true::true::false::true::true::[]):=by delta AE;intros;kernel_rfl
theorem yY(ω:List Bool):AE (false::true::true::true::false::true::true::false::ω):=by delta AE;intros;kernel_rfl
theorem AAL:AE (false::true::true::true::false::true::true::true::[]):=by delta AE;intros;kernel_rfl
theorem xC(ω:List Bool):AE (false::true::true::true::false::true::true::true::false::ω):=by delta AE;intros;kernel_rfl
theorem vy(ω:List Bool):AE (false::true::true::true::false::true::true::true::true::ω):=by delta AE;intros;kernel_rfl
theorem vo:AE (false::true::true::true::true::[]):=by delta AE;intros;kernel_rfl
theorem wC:AE (false::true::true::true::true::false::[]):=by delta AE;intros;kernel_rfl
theorem wY:AE (false::true::true::true::true::false::false::[]):=by delta AE;intros;kernel_rfl
theorem AAI(ω:List Bool):AE (false::true::true::true::true::false::false::false::ω):=by delta AE;intros;kernel_rfl
theorem tS(ω:List Bool):AE (false::true::true::true::true::false::false::true::ω):=by delta AE;intros;kernel_rfl
theorem ub:AE (false::true::true::true::true::false::true::[]):=by delta AE;intros;kernel_rfl
theorem zx(ω:List Bool):AE (false::true::true::true::true::false::true::false::ω):=by delta AE;intros;kernel_rfl
theorem wv:AE (false::true::true::true::true::false::true::true::[]):=by delta AE;intros;kernel_rfl
theorem t_(ω:List Bool):AE (false::true::true::true::true::false::true::true::false::ω):=by delta AE;intros;kernel_rfl
theorem y_(ω:List Bool):AE (false::true::true::true::true::false::true::true::true::ω):=by delta AE;intros;kernel_rfl
theorem yc:AE (false::true::true::true::true::true::[]):=by delta AE;intros;kernel_rfl
theorem w8(ω:List Bool):AE (false::true::true::true::true::true::false::ω):=by delta AE;intros;kernel_rfl
theorem uF:AE (false::true::true::true::true::true::true::[]):=by delta AE;intros;kernel_rfl
theorem vK(ω:List Bool):AE (false::true::true::true::true::true::true::false::ω):=by delta AE;intros;kernel_rfl
theorem tn(ω:List Bool):AE (false::true::true::true::true::true::true::true::ω):=by delta AE;intros;kernel_rfl
theorem vC:AE (true::[]):=by delta AE;intros;kernel_rfl
theorem za:AE (true::false::[]):=by delta AE;intros;kernel_rfl
theorem yi:AE (true::false::false::[]):=by delta AE;intros;kernel_rfl
theorem w_:AE (true::false::false::false::[]):=by delta AE;intros;kernel_rfl
theorem u_:AE (true::false::false::false::false::[]):=by delta AE;intros;kernel_rfl
theorem wt:AE (true::false::false::false::false::false::[]):=by delta AE;intros;kernel_rfl
theorem xh(ω:List Bool):AE (true::false::false::false::false::false::false::ω):=by delta AE;intros;kernel_rfl
theorem te(ω:List Bool):AE (true::false::false::false::false::false::true::ω):=by delta AE;intros;kernel_rfl
theorem zD:AE (true::false::false::false::false::true::[]):=by delta AE;intros;kernel_rfl
theorem tV(ω:List Bool):AE (true::false::false::false::false::true::false::ω):=by delta AE;intros;kernel_rfl
theorem yt:AE (true::false::false::false::false::true::true::[]):=by delta AE;intros;kernel_rfl
theorem vF(ω:List Bool):AE (true::false::false::false::false::true::true::false::ω):=by delta AE;intros;kernel_rfl
theorem xH:AE (true::false::false::false::false::true::true::true::[]):=by delta AE;intros;kernel_rfl
theorem yK(ω:List Bool):AE (true::false::false::false::false::true::true::true::false::ω):=by delta AE;intros;kernel_rfl
theorem vl(ω:List Bool):AE (true::false::false::false::false::true::true::true::true::ω):=by delta AE;intros;kernel_rfl
theorem vO:AE (true::false::false::false::true::[]):=by delta AE;intros;kernel_rfl
theorem AAU(ω:List Bool):AE (true::false::false::false::true::false::ω):=by delta AE;intros;kernel_rfl
theorem uW:AE (true::false::false::false::true::true::[]):=by delta AE;intros;kernel_rfl
theorem yf(ω:List Bool):AE (true::false::false::false::true::true::false::ω):=by delta AE;intros;kernel_rfl
theorem vz:AE (true::false::false::false::true::true::true::[]):=by delta AE;intros;kernel_rfl
theorem yX(ω:List Bool):AE (true::false::false::false::true::true::true::false::ω):=by delta AE;intros;kernel_rfl
theorem vM(ω:List Bool):AE (true::false::false::false::true::true::true::true::ω):=by delta AE;intros;kernel_rfl
theorem x_:AE (true::false::false::true::[]):=by delta AE;intros;kernel_rfl
theorem uU:AE (true::false::false::true::false::[]):=by delta AE;intros;kernel_rfl
theorem wO:AE (true::false::false::true::false::false::[]):=by delta AE;intros;kernel_rfl
theorem vR(ω:List Bool):AE (true::false::false::true::false::false::false::ω):=by delta AE;intros;kernel_rfl
theorem zw(ω:List Bool):AE (true::false::false::true::false::false::true::ω):=by delta AE;intros;kernel_rfl
theorem zY:AE (true::false::false::true::false::true::[]):=by delta AE;intros;kernel_rfl
theorem vP(ω:List Bool):AE (true::false::false::true::false::true::false::ω):=by delta AE;intros;kernel_rfl
theorem xR:AE (true::false::false::true::false::true::true::[]):=by delta AE;intros;kernel_rfl
theorem vZ(ω:List Bool):AE (true::false::false::true::false::true::true::false::ω):=by delta AE;intros;kernel_rfl
theorem vI:AE (true::false::false::true::false::true::true::true::[]):=by delta AE;intros;kernel_rfl
theorem vY(ω:List Bool):AE (true::false::false::true::false::true::true::true::false::ω):=by delta AE;intros;kernel_rfl
theorem AAR:AE (true::false::false::true::false::true::true::true::true::[]):=by delta AE;intros;kernel_rfl
theorem w7(ω:List Bool):AE (true::false::false::true::false::true::true::true::true::false::ω):=by delta AE;intros;kernel_rfl
theorem yR(ω:List Bool):AE (true::false::false::true::false::true::true::true::true::true::ω):=by delta AE;intros;kernel_rfl
theorem vk:AE (true::false::false::true::true::[]):=by delta AE;intros;kernel_rfl
theorem AAC(ω:List Bool):AE (true::false::false::true::true::false::ω):=by delta AE;intros;kernel_rfl
theorem tO:AE (true::false::false::true::true::true::[]):=by delta AE;intros;kernel_rfl
theorem wq(ω:List Bool):AE (true::false::false::true::true::true::false::ω):=by delta AE;intros;kernel_rfl
theorem wz:AE (true::false::false::true::true::true::true::[]):=by delta AE;intros;kernel_rfl
theorem yS(ω:List Bool):AE (true::false::false::true::true::true::true::false::ω):=by delta AE;intros;kernel_rfl
theorem wQ:AE (true::false::false::true::true::true::true::true::[]):=by delta AE;intros;kernel_rfl
theorem xy(ω:List Bool):AE (true::false::false::true::true::true::true::true::false::ω):=by delta AE;intros;kernel_rfl
theorem tZ(ω:List Bool):AE (true::false::false::true::true::true::true::true::true::ω):=by delta AE;intros;kernel_rfl
theorem tG:AE (true::false::true::[]):=by delta AE;intros;kernel_rfl
theorem z7:AE (true::false::true::false::[]):=by delta AE;intros;kernel_rfl
theorem xg:AE (true::false::true::false::false::[]):=by delta AE;intros;kernel_rfl
theorem zj(ω:List Bool):AE (true::false::true::false::false::false::ω):=by delta AE;intros;kernel_rfl
theorem vj:AE (true::false::true::false::false::true::[]):=by delta AE;intros;kernel_rfl
theorem zi(ω:List Bool):AE (true::false::true::false::false::true::false::ω):=by delta AE;intros;kernel_rfl
theorem xO:AE (true::false::true::false::false::true::true::[]):=by delta AE;intros;kernel_rfl
theorem yb(ω:List Bool):AE (true::false::true::false::false::true::true::false::ω):=by delta AE;intros;kernel_rfl
theorem zh(ω:List Bool):AE (true::false::true::false::false::true::true::true::ω):=by delta AE;intros;kernel_rfl
theorem yp:AE (true::false::true::false::true::[]):=by delta AE;intros;kernel_rfl
theorem zL(ω:List Bool):AE (true::false::true::false::true::false::ω):=by delta AE;intros;kernel_rfl
theorem uy:AE (true::false::true::false::true::true::[]):=by delta AE;intros;kernel_rfl
theorem vm(ω:List Bool):AE (true::false::true::false::true::true::false::ω):=by delta AE;intros;kernel_rfl
theorem uE:AE (true::false::true::false::true::true::true::[]):=by delta AE;intros;kernel_rfl
theorem w9(ω:List Bool):AE (true::false::true::false::true::true::true::false::ω):=by delta AE;intros;kernel_rfl
theorem yQ:AE (true::false::true::false::true::true::true::true::[]):=by delta AE;intros;kernel_rfl
theorem ve(ω:List Bool):AE (true::false::true::false::true::true::true::true::false::ω):=by delta AE;intros;kernel_rfl
theorem AAY(ω:List Bool):AE (true::false::true::false::true::true::true::true::true::ω):=by delta AE;intros;kernel_rfl
theorem xS:AE (true::false::true::true::[]):=by delta AE;intros;kernel_rfl
theorem AAT:AE (true::false::true::true::false::[]):=by delta AE;intros;kernel_rfl
theorem wG:AE (true::false::true::true::false::false::[]):=by delta AE;intros;kernel_rfl
theorem ym(ω:List Bool):AE (true::false::true::true::false::false::false::ω):=by delta AE;intros;kernel_rfl
theorem uC:AE (true::false::true::true::false::false::true::[]):=by delta AE;intros;kernel_rfl
theorem xK(ω:List Bool):AE (true::false::true::true::false::false::true::false::ω):=by delta AE;intros;kernel_rfl
theorem wT(ω:List Bool):AE (true::false::true::true::false::false::true::true::ω):=by delta AE;intros;kernel_rfl
theorem AAa:AE (true::false::true::true::false::true::[]):=by delta AE;intros;kernel_rfl
theorem tX(ω:List Bool):AE (true::false::true::true::false::true::false::ω):=by delta AE;intros;kernel_rfl
theorem wo:AE (true::false::true::true::false::true::true::[]):=by delta AE;intros;kernel_rfl
theorem vB(ω:List Bool):AE (true::false::true::true::false::true::true::false::ω):=by delta AE;intros;kernel_rfl
theorem zA:AE (true::false::true::true::false::true::true::true::[]):=by delta AE;intros;kernel_rfl
theorem zV(ω:List Bool):AE (true::false::true::true::false::true::true::true::false::ω):=by delta AE;intros;kernel_rfl
theorem zU(ω:List Bool):AE (true::false::true::true::false::true::true::true::true::ω):=by delta AE;intros;kernel_rfl
theorem vf:AE (true::false::true::true::true::[]):=by delta AE;intros;kernel_rfl
theorem tu:AE (true::false::true::true::true::false::[]):=by delta AE;intros;kernel_rfl
theorem uN:AE (true::false::true::true::true::false::false::[]):=by delta AE;intros;kernel_rfl
theorem xU(ω:List Bool):AE (true::false::true::true::true::false::false::false::ω):=by delta AE;intros;kernel_rfl
theorem ur(ω:List Bool):AE (true::false::true::true::true::false::false::true::ω):=by delta AE;intros;kernel_rfl
theorem AAM:AE (true::false::true::true::true::false::true::[]):=by delta AE;intros;kernel_rfl
theorem wm(ω:List Bool):AE (true::false::true::true::true::false::true::false::ω):=by delta AE;intros;kernel_rfl
theorem yr:AE (true::false::true::true::true::false::true::true::[]):=by delta AE;intros;kernel_rfl
theorem wu(ω:List Bool):AE (true::false::true::true::true::false::true::true::false::ω):=by delta AE;intros;kernel_rfl
theorem xp(ω:List Bool):AE (true::false::true::true::true::false::true::true::true::ω):=by delta AE;intros;kernel_rfl
theorem zO:AE (true::false::true::true::true::true::[]):=by delta AE;intros;kernel_rfl
theorem uj(ω:List Bool):AE (true::false::true::true::true::true::false::ω):=by delta AE;intros;kernel_rfl
theorem xc:AE (true::false::true::true::true::true::true::[]):=by delta AE;intros;kernel_rfl
theorem uQ(ω:List Bool):AE (true::false::true::true::true::true::true::false::ω):=by delta AE;intros;kernel_rfl
theorem um(ω:List Bool):AE (true::false::true::true::true::true::true::true::ω):=by delta AE;intros;kernel_rfl
theorem AAO:AE (true::true::[]):=by delta AE;intros;kernel_rfl
theorem vL:AE (true::true::false::[]):=by delta AE;intros;kernel_rfl
theorem vc:AE (true::true::false::false::[]):=by delta AE;intros;kernel_rfl
theorem yg(ω:List Bool):AE (true::true::false::false::false::ω):=by delta AE;intros;kernel_rfl
theorem vi:AE (true::true::false::false::true::[]):=by delta AE;intros;kernel_rfl
theorem zu(ω:List Bool):AE (true::true::false::false::true::false::ω):=by delta AE;intros;kernel_rfl
theorem ux:AE (true::true::false::false::true::true::[]):=by delta AE;intros;kernel_rfl
theorem yE(ω:List Bool):AE (true::true::false::false::true::true::false::ω):=by delta AE;intros;kernel_rfl
theorem zy(ω:List Bool):AE (true::true::false::false::true::true::true::ω):=by delta AE;intros;kernel_rfl
theorem vd:AE (true::true::false::true::[]):=by delta AE;intros;kernel_rfl
theorem yG(ω:List Bool):AE (true::true::false::true::false::ω):=by delta AE;intros;kernel_rfl
theorem wM:AE (true::true::false::true::true::[]):=by delta AE;intros;kernel_rfl
theorem AAV(ω:List Bool):AE (true::true::false::true::true::false::ω):=by delta AE;intros;kernel_rfl
theorem xf:AE (true::true::false::true::true::true::[]):=by delta AE;intros;kernel_rfl
theorem zc(ω:List Bool):AE (true::true::false::true::true::true::false::ω):=by delta AE;intros;kernel_rfl
theorem zR:AE (true::true::false::true::true::true::true::[]):=by delta AE;intros;kernel_rfl
theorem wI(ω:List Bool):AE (true::true::false::true::true::true::true::false::ω):=by delta AE;intros;kernel_rfl
theorem wN(ω:List Bool):AE (true::true::false::true::true::true::true::true::ω):=by delta AE;intros;kernel_rfl
theorem wg:AE (true::true::true::[]):=by delta AE;intros;kernel_rfl
theorem zG:AE (true::true::true::false::[]):=by delta AE;intros;kernel_rfl
theorem uL:AE (true::true::true::false::false::[]):=by delta AE;intros;kernel_rfl
theorem th(ω:List Bool):AE (true::true::true::false::false::false::ω):=by delta AE;intros;kernel_rfl
theorem zb:AE (true::true::true::false::false::true::[]):=by delta AE;intros;kernel_rfl
theorem yP(ω:List Bool):AE (true::true::true::false::false::true::false::ω):=by delta AE;intros;kernel_rfl
theorem tR(ω:List Bool):AE (true::true::true::false::false::true::true::ω):=by delta AE;intros;kernel_rfl
theorem wX:AE (true::true::true::false::true::[]):=by delta AE;intros;kernel_rfl
theorem uX(ω:List Bool):AE (true::true::true::false::true::false::ω):=by delta AE;intros;kernel_rfl
theorem uv:AE (true::true::true::false::true::true::[]):=by delta AE;intros;kernel_rfl
theorem tc(ω:List Bool):AE (true::true::true::false::true::true::false::ω):=by delta AE;intros;kernel_rfl
theorem xX:AE (true::true::true::false::true::true::true::[]):=by delta AE;intros;kernel_rfl
theorem yN(ω:List Bool):AE (true::true::true::false::true::true::true::false::ω):=by delta AE;intros;kernel_rfl
theorem yq(ω:List Bool):AE (true::true::true::false::true::true::true::true::ω):=by delta AE;intros;kernel_rfl
theorem vD:AE (true::true::true::true::[]):=by delta AE;intros;kernel_rfl
theorem z8:AE (true::true::true::true::false::[]):=by delta AE;intros;kernel_rfl
theorem vQ:AE (true::true::true::true::false::false::[]):=by delta AE;intros;kernel_rfl
theorem zP(ω:List Bool):AE (true::true::true::true::false::false::false::ω):=by delta AE;intros;kernel_rfl
theorem uB(ω:List Bool):AE (true::true::true::true::false::false::true::ω):=by delta AE;intros;kernel_rfl
theorem xM:AE (true::true::true::true::false::true::[]):=by delta AE;intros;kernel_rfl
theorem tq(ω:List Bool):AE (true::true::true::true::false::true::false::ω):=by delta AE;intros;kernel_rfl
theorem yx:AE (true::true::true::true::false::true::true::[]):=by delta AE;intros;kernel_rfl
theorem AAJ(ω:List Bool):AE (true::true::true::true::false::true::true::false::ω):=by delta AE;intros;kernel_rfl
theorem xP(ω:List Bool):AE (true::true::true::true::false::true::true::true::ω):=by delta AE;intros;kernel_rfl
theorem we:AE (true::true::true::true::true::[]):=by delta AE;intros;kernel_rfl
theorem zJ(ω:List Bool):AE (true::true::true::true::true::false::ω):=by delta AE;intros;kernel_rfl
theorem ug:AE (true::true::true::true::true::true::[]):=by delta AE;intros;kernel_rfl
theorem yL(ω:List Bool):AE (true::true::true::true::true::true::false::ω):=by delta AE;intros;kernel_rfl
theorem vv(ω:List Bool):AE (true::true::true::true::true::true::true::ω):=by delta AE;intros;kernel_rfl
theorem b86(V3:ABB→Option Dc)(aB:ABG→Option Hm)(WJ:ABE→Option Da)(Zt:AA2→Option EH)(ZX:ABk→Option Gq)(n:Nat)(ω:List Bool)(v:ue.V):FW ⟨T,T5 [(184,⟨X3,lM,X3.un V3⟩),(185,⟨aJ,mm,aJ.un aB⟩),(186,⟨X4,kc,X4.un WJ⟩),(187,⟨UU,iK,UU.un Zt⟩),(188,⟨Ze,mU,Ze.un ZX⟩)],C0 [(1,[0,1]),(5,[0,1,2,3,4,5,6,7,8,9,11,13,14,15,16,17,18]),(9,[0,1,2,3,4,5,6,7,8,9,11,12,13,14,16,17,18]),(13,[0,1,2,3,4,5,6,7,8,9,11,12,13,14,15,17,18]),(17,[0,1,2,3,4,5,6,7,8,9,11,12,13,14,15,16,18])]⟩ sL Tryz.f86 (Nj 0 qM n) ω v=ue.un (fun(p0:AA7)=>
 if 0+p0.1.length≤Go.M.DH then(
 if 0+p0.2.2.2.1.length≤Go.M.DH then(
 (V3 (p0.2.2.2.2.1,p0.2.2.2.2.2.1,())).bind fun u2=>
 if 0+p0.2.2.2.2.2.2.2.2.2.1.length≤Go.M.DH then(
 (Bj n) 0 p0.1 p0.2.1 p0.2.2.1 p0.2.2.2.1 p0.2.2.2.2.1 p0.2.2.2.2.2.1 p0.2.2.2.2.2.2.1 p0.2.2.2.2.2.2.2.1 p0.2.2.2.2.2.2.2.2.1 p0.2.2.2.2.2.2.2.2.2.1 p0.2.2.2.2.2.2.2.2.2.2.1 0 0 false [] [] [] [] [] [] [] [] p0.2.1 u2.1.1.2.1 p0.2.2.2.2.2.2.2.2.2.2.1 p0.1 [] p0.2.2.2.1 u2.2.1 [] [] [] p0.2.2.2.2.2.2.2.2.2.1)else none)else none)else none) v:=(AD AGO (AD AG6 (AD AGV (AD AH1 (AD AH6 (AD AGE AGr (AD AHj AHh AEc)) (AD ADZ AEa (AD AEF ABx (AD AEJ ADB (AD ACE AFW AEV))))) (AD AEu (AD ADJ (AD AC1 ACD ACP) (AD ACS ABY (AD AEd AEy (AD AB1 AFN AEt)))) (AD AEq ACt (AD ADx AEp (AD AFT ADp ACw))))) (AD ADs (AD AD6 (AD AB8 AFa (AD ACe ADo AB5)) (AD AC3 ADK (AD ABd AES (AD AFq AFh (AD ABy AFI (AD AEN AFb ADr)))))) (AD AEh (AD AE9 (AD ACs ADD AFL) (AD AD0 AFf (AD ADm ABs (AD AE1 ADg (AD ADP ADV AFO))))) (AD AFZ ABe (AD AE0 ADH (AD ABi ACx (AD ADi ACi AEe))))))) (AD ABa (AD ACR (AD ACI AFi (AD AC5 AFo (AD ADl AC0 (AD AEl ADW AEk)))) (AD ABl ABt (AD AFd ACY (AD AE3 AFE (AD ACd AEr (AD AFX AAS uc)))))) (AD wk (AD wU (AD uS yk (AD yv AAX (AD yZ AAe vn))) (AD vh yy (AD uM xJ (AD yU xF (AD yJ v7 v_))))) (AD xz (AD yH (AD AAG vT (AD z6 xm zK)) (AD vp uo (AD uh yY (AD AAL xC vy)))) (AD vo (AD wC (AD wY AAI tS) (AD ub zx (AD wv t_ y_))) (AD yc w8 (AD uF vK tn))))))) (AD vC (AD za (AD yi (AD w_ (AD u_ (AD wt xh te) (AD zD tV (AD yt vF (AD xH yK vl)))) (AD vO AAU (AD uW yf (AD vz yX vM)))) (AD x_ (AD uU (AD wO vR zw) (AD zY vP (AD xR vZ (AD vI vY (AD AAR w7 yR))))) (AD vk AAC (AD tO wq (AD wz yS (AD wQ xy tZ)))))) (AD tG (AD z7 (AD xg zj (AD vj zi (AD xO yb zh))) (AD yp zL (AD uy vm (AD uE w9 (AD yQ ve AAY))))) (AD xS (AD AAT (AD wG ym (AD uC xK wT)) (AD AAa tX (AD wo vB (AD zA zV zU)))) (AD vf (AD tu (AD uN xU ur) (AD AAM wm (AD yr wu xp))) (AD zO uj (AD xc uQ um)))))) (AD AAO (AD vL (AD vc yg (AD vi zu (AD ux yE zy))) (AD vd yG (AD wM AAV (AD xf zc (AD zR wI wN))))) (AD wg (AD zG (AD uL th (AD zb yP tR)) (AD wX uX (AD uv tc (AD xX yN yq)))) (AD vD (AD z8 (AD vQ zP uB) (AD xM tq (AD yx AAJ xP))) (AD we zJ (AD ug yL vv))))))) ω V3 aB WJ Zt ZX n v
theorem e86(n:Nat)(ω:List Bool)(v:ue.V):FW C86 sL Tryz.f86 (Nj 0 qM n) ω v=ue.un (L4 (Bj n) (Bv n) (Be n) (Bf n)) v:=b86 Dx DF Cl Ck BZ n ω v
def s86:SQ:=mk Tryz.func86 ue o86 Ko [pw,oQ,qB,pQ,tJ] [(1,[0,1]),(5,[0,1,2,3,4,5,6,7,8,9,11,13,14,15,16,17,18]),(9,[0,1,2,3,4,5,6,7,8,9,11,12,13,14,16,17,18]),(13,[0,1,2,3,4,5,6,7,8,9,11,12,13,14,15,17,18]),(17,[0,1,2,3,4,5,6,7,8,9,11,12,13,14,15,16,18])] qM (hJ:= .cons (fun _=>rfl) AHD (.cons (fun _=>rfl) AG_ (.cons (fun _=>rfl) AEK (.cons (fun _=>rfl) ACX (.nil))))) (he:=e86 Aa)
def AHv:SQ:=mk Tryz.func342 G5 cn KK [fR] [] [⟨3,⟨[(0,Bm),(3,qQ),(4,Bm)],[EF]⟩,Fi⟩]
abbrev mz:Bn:=⟨[(0,fm),(1,.row Y4),(2,YJ)],[]⟩
abbrev ADu:Bn:=⟨[(0,.Ju [.inr [.ref 0,.v tI],.inl (.v tI),.inl (.v .bool)])],[OO]⟩
def AH3:O2:=⟨mz,ADu,(mz.un Ij)⟩
def AJo:Xj:=⟨T,T5 (SP.l [Ys,p8,pw]),C0 [(6,[0,1,2])]⟩
def AE_:List (Lp ADu):=[]
theorem ALO(AIr:AAw→List Int→Option Yz)(AHp:AAw→ABB→Option M5)(V3:ABB→Option Dc)(n:Nat)(ω:List Bool)(v:mz.V):FW ⟨T,T5 [(161,⟨ADN,AIW,ADN.un AIr⟩),(165,⟨AED,AGZ,AED.un AHp⟩),(184,⟨X3,lM,X3.un V3⟩)],C0 [(6,[0,1,2])]⟩ AH3 Tryz.f341 (Nj 0 AE_ n) ω v=mz.un (fun(p0:AAw) (p1:ABB) (p2:AAg)=>
 (AHp (p0.1,p0.2.1,()) (p1.1,p1.2.1,())).bind fun u1=>
 cond (!u1.1.1)
  (some (((((),0,()),0,false,()),()),([],())))
 ((V3 (p1.1,p1.2.1,())).bind fun u2=>
 (AIr (p0.1,p0.2.1,()) p2).bind fun u3=>
 cond (!u3.1.1)
  (some (((((),u2.1.1.2.1,()),0,false,()),()),(u2.2.1,())))
 (cond (((p1.1.length:Int)==30))
  (some (((((),u2.1.1.2.1,()),0,false,()),()),(u2.2.1,())))
 (if 0+p2.length≤Go.M.DH then(
 if u2.2.1.length+1≤Go.M.DH then(
 let x5:AAi:=u2.2.1++[(p2,false,0,())]
 some (((((),u2.1.1.2.1,()),(x5.length:Int),true,()),()),(x5,())))else none)else none)))) v:=by rcases ω with _|⟨_|_,_|⟨_|_,_|⟨_|_,_|⟨_|_,_|⟨_|_,_⟩⟩⟩⟩⟩<;>kernel_rfl
theorem ALY(n:Nat)(ω:List Bool)(v:mz.V):FW AJo AH3 Tryz.f341 (Nj 0 AE_ n) ω v=mz.un (Ij) v:=ALO C7 I9 Dx n ω v
def AGM:SQ:=mk Tryz.func341 mz ADu Ij [Ys,p8,pw] [(6,[0,1,2])] AE_ (hJ:= .nil) (he:=ALY Aa)
def AJh:SQ:=mk Tryz.func275 VT ⟨[(0,.Ju [.inr [.ref 0,.v tI,.ref 1,.ref 2,.ref 8,.v tI,.ref 9,.ref 10,.ref 6,.ref 7,.v .bool],.inl (.v tI)])],[Ec,cA,Ec,LV,LV,LV,Pm,OT,Qb,ea,Wr]⟩ Qg [AGM,AHv] [(3,[0,1,2,3,4,5,6,7,8,9,10])] [] (he:=fun ω v=>by rcases ω with _|⟨_|_,_|⟨_|_,_⟩⟩<;>kernel_rfl)
def AB9:SQ:=mk Tryz.func343 jk Eb IG [fR] [] []
abbrev lV:Bn:=⟨[(0,fm),(1,.row Y6),(2,.c (.v .str))],[]⟩
abbrev ACz:Bn:=⟨[(0,.Ju [.inr [.v tI,.ref 0],.inl (.v tI),.inl (.v .bool)])],[bN]⟩
def AGh:O2:=⟨lV,ACz,(lV.un ER)⟩
def AKJ:Xj:=⟨T,T5 (SP.l [sO,qB]),C0 []⟩
def ACO:List (Lp ACz):=[]
theorem AKD(ACT:AAw→ABE→Option JJ)(WJ:ABE→Option Da)(n:Nat)(ω:List Bool)(v:lV.V):FW ⟨T,T5 [(166,⟨ACc,AHw,ACc.un ACT⟩),(186,⟨X4,kc,X4.un WJ⟩)],C0 []⟩ AGh Tryz.f344 (Nj 0 ACO n) ω v=lV.un (fun(p0:AAw) (p1:ABE) (p2:AA_)=>
 (ACT (p0.1,p0.2.1,()) (p1.1,p1.2.1,())).bind fun u1=>
 cond (!u1.1.1)
  (some ((((0,(),()),0,false,()),()),([],())))
 ((WJ (p1.1,p1.2.1,())).bind fun u2=>
 if u2.2.1.length+1≤Go.M.DH then(
 let x3:AA9:=u2.2.1++[(p2,[],false,())]
 (ACT (p0.1,p0.2.1,()) (u2.1.1.1,x3,())).bind fun u4=>
 cond (!u4.1.1)
  ((WJ (p1.1,p1.2.1,())).bind fun u5=>
  some ((((u5.1.1.1,(),()),0,false,()),()),(u5.2.1,())))
 (some ((((u2.1.1.1,(),()),(x3.length:Int),true,()),()),(x3,()))))else none)) v:=by rcases ω with _|⟨_|_,_|⟨_|_,_⟩⟩<;>kernel_rfl
theorem AJi(n:Nat)(ω:List Bool)(v:lV.V):FW AKJ AGh Tryz.f344 (Nj 0 ACO n) ω v=lV.un (ER) v:=AKD E_ Cl n ω v
def AHQ:SQ:=mk Tryz.func344 lV ACz ER [sO,qB] [] ACO (hJ:= .nil) (he:=AJi Aa)
abbrev Xl:Bn:=jh
abbrev jw:Bn:=G5
def eR:SQ:=mk Tryz.func177 Xl jw Bl [] [] []
def AJ2:SQ:=mk Tryz.func276 VT ⟨[(0,.Ju [.inr [.ref 0,.v tI,.ref 1,.ref 2,.ref 3,.v tI,.ref 4,.ref 5,.ref 6,.ref 8,.v .bool],.inl (.v tI)])],[Ec,cA,Ec,Qb,ea,Wr,Pm,LV,OT]⟩ Sb [eR,AB9,AHQ] [(3,[0,1,2,3,4,5,6,7,8,9,10]),(7,[0,1,2,3,4,5,6,7,8,9,10]),(11,[0,1,2,3,4,5,6,7,8,9,10,11,12,13,14,15,16,17,18]),(18,[0,1,2,3,4,5,6,7,8,9,10,11,12,13,14,15,16,17,18,19])] [⟨9,⟨[(2,X0),(4,Zo),(9,bf),(10,Bm)],[Ec,cA,Ec,Qb,ea,Wr,Pm,OT,fu,jT,EF,VZ,EF,OO,Ve,Vc,Va,QE,AHW]⟩,H4⟩,⟨16,⟨[(2,X0),(4,Zo),(9,bf),(11,.c (.ref 19)),(12,qH),(13,Bm)],[Ec,cA,Ec,Qb,ea,Wr,Pm,OT,fu,jT,EF,VZ,EF,OO,Ve,Vc,Va,QE,AHW,QE]⟩,HD⟩] (he:=fun ω v=>by rcases ω with _|⟨_|_,_|⟨_|_,_|⟨_|_,_⟩⟩⟩<;>kernel_rfl)
def m_:SQ:=mk Tryz.func345 jk G5 FD [fR,bz] [] []
def AJa:SQ:=mk Tryz.func395 ABT Eb QR [bZ] [(2,[0,1])] []
def AC9:SQ:=mk Tryz.func347 ABT kD JT [mW,oQ,wK,AJa] [] []
def ALi:SQ:=mk Tryz.func277 VT hI Ol [fR,bz,eR,AB9,m_,jm,AC9] [(9,[0,1,2,3,4,5,6,7,8,9,10,11]),(11,[0,1,2,3,4,5,6,7,8,9,10,11,12])] [] (he:=fun ω v=>by rcases ω with _|⟨_|_,_|⟨_|_,_⟩⟩<;>kernel_rfl)
def AH5:SQ:=mk Tryz.func413 ⟨[(0,.row Y1),(1,.row Y1)],[]⟩ ⟨AGz,[]⟩ MJ [] [] []
def AB2:SQ:=mk Tryz.func399 ⟨[(0,Zc),(1,.row Y1)],[]⟩ ra MU [AH5] [(6,[0,1]),(7,[0]),(9,[0,1])] [⟨4,⟨[(0,Zc),(3,ML),(5,tB),(6,qH),(7,Bm)],[ADq,KI]⟩,Gj⟩]
def AHY:SQ:=mk Tryz.func365 nM kD JD [fR,mW,oQ,AB2] [(3,[0,1]),(8,[0,1,2,3,5,6])] [⟨5,AA3,Ge⟩] (he:=fun ω v=>by rcases ω with _|⟨_|_,_|⟨_|_,_⟩⟩<;>kernel_rfl)
def ABq:SQ:=mk Tryz.func348 kC kD Gx [AHY] [] []
abbrev YE:Bn:=AA8
abbrev ji:Bn:=AAf
def wF:SQ:=mk Tryz.func396 YE ji E4 [] [] [⟨2,⟨[(0,Zc),(1,Bm),(4,ML),(6,Bm)],[ADq]⟩,LP⟩]
abbrev Xq:Bn:=⟨[(0,fm),(1,.row Y6),(2,Bm),(3,Bm)],[]⟩
abbrev jg:Bn:=ABS
def AC4:SQ:=mk Tryz.func392 Xq jg CX [fR,Ys,sO,qB,mY] [(6,[0,1,2,4]),(7,[0,1,2,4])] []
def AKL:SQ:=mk Tryz.func402 jh ⟨[(0,.Ju [.inl (.v tI),.inl (.v .bool)])],[]⟩ Mk [fR] [] []
abbrev Xx:Bn:=⟨[(0,.row Y7),(1,Bm)],[]⟩
abbrev kB:Bn:=AAf
def AER:SQ:=mk Tryz.func359 Xx kB C8 [wF,AKL] [] []
abbrev PZ:Bn:=⟨[(0,fm),(1,.row Y7),(2,Bm),(3,Bm)],[]⟩
abbrev Zs:Bn:=nz
def xe:SQ:=mk Tryz.func394 PZ Zs Ct [fR,oc,pQ,mY] [(6,[0,1,2,3,4,6])] []
abbrev mB:Bn:=⟨[(0,ACV),(1,Bm)],[Ec,Um,Ec,Qb,ea,Wr,Pm,OT]⟩
abbrev AFP:Bn:=⟨ya,AHk⟩
def aU:O2:=⟨mB,AFP,(mB.un QP)⟩
def pT:Xj:=⟨T,T5 (SP.l [bz,bZ,eR,xI,jm,AER,AC4,xe,wF]),C0 [(10,[0,1,2,3,4,5,6,7,8,9,10,11]),(18,[0,1,2,3,4,5,6,7,8,9,10,11,12,13,14,15,16,17,18,19])]⟩
def ZH:List (Lp AFP):=[⟨3,⟨[(1,Bm),(2,X0),(4,Zo),(5,bf),(6,Bm)],[Ec,Um,Ec,Qb,Vg,Wr,Pm,OT,fu,jT,EF,VZ,EF,OO,Ve,Vc,Va,QE,mr]⟩,A6⟩,⟨8,⟨[(1,Bm),(2,X0),(4,Zo),(5,bf),(6,Bm),(7,aS),(8,Bm),(46,.c (.ptr 18 2)),(47,Bm),(48,aS),(49,Bm),(50,qH)],tK⟩,Ak⟩,⟨15,⟨[(1,Bm),(2,X0),(4,Zo),(5,bf),(6,Bm),(7,aS),(11,Bm),(46,.c (.ptr 18 2)),(47,Bm),(48,aS),(49,Bm),(50,qH)],tK⟩,Al⟩,⟨21,⟨[(1,Bm),(2,X0),(4,Zo),(5,bf),(13,Bm)],[Ec,Um,Ec,Qb,Vg,eE,Pm,OT,fu,jT,EF,VZ,EF,OO,Ve,Vc,Va,QE,mr]⟩,A9⟩,⟨25,⟨[(1,Bm),(2,X0),(4,Zo),(5,bf),(13,Bm),(14,aS),(15,Bm)],[Ec,Um,Ec,Qb,Vg,eE,Pm,OT,fu,jT,EF,VZ,EF,OO,Ve,Vc,Va,QE,mr,.mem [.v tI,.v tI,.sl true tI,.sl true Y1,.v .bool,.sl true (.sl tI)]]⟩,A0⟩]
abbrev Z_:Bn:=⟨[(1,Bm),(2,X0),(4,Zo),(5,bf),(6,Bm)],[Ec,Um,Ec,Qb,Vg,Wr,Pm,OT,fu,jT,EF,VZ,EF,OO,Ve,Vc,Va,QE,mr]⟩
abbrev UP:Bn:=⟨[(1,Bm),(2,X0),(4,Zo),(5,bf),(6,Bm),(7,aS),(8,Bm),(46,.c (.ptr 18 2)),(47,Bm),(48,aS),(49,Bm),(50,qH)],tK⟩
abbrev WY:Bn:=⟨[(1,Bm),(2,X0),(4,Zo),(5,bf),(6,Bm),(7,aS),(11,Bm),(46,.c (.ptr 18 2)),(47,Bm),(48,aS),(49,Bm),(50,qH)],tK⟩
abbrev Wg:Bn:=⟨[(1,Bm),(2,X0),(4,Zo),(5,bf),(13,Bm)],[Ec,Um,Ec,Qb,Vg,eE,Pm,OT,fu,jT,EF,VZ,EF,OO,Ve,Vc,Va,QE,mr]⟩
abbrev Wc:Bn:=⟨[(1,Bm),(2,X0),(4,Zo),(5,bf),(13,Bm),(14,aS),(15,Bm)],[Ec,Um,Ec,Qb,Vg,eE,Pm,OT,fu,jT,EF,VZ,EF,OO,Ve,Vc,Va,QE,mr,.mem [.v tI,.v tI,.sl true tI,.sl true Y1,.v .bool,.sl true (.sl tI)]]⟩
theorem AB3(XA:List Int→Int→Option EP)(XY:Int→Option FU)(Wy:Int→Int→Option FK)(W4:Int→Option Ha)(W9:ABB→Int→Option Ei)(Xb:AA2→Int→Option D8)(Wz:AAw→ABE→Int→Int→Option D2)(NZ:AAw→AA2→Int→Int→Option CU)(Vj:AAh→Int→Option EK)(n:Nat)(v:Z_.V)(ω:List Bool):GH ⟨T,T5 [(163,⟨X_,kA,X_.un XA⟩),(170,⟨Xg,kF,Xg.un XY⟩),(177,⟨Xl,jw,Xl.un Wy⟩),(337,⟨YF,lC,YF.un W4⟩),(346,⟨Xn,kK,Xn.un W9⟩),(359,⟨Xx,kB,Xx.un Xb⟩),(392,⟨Xq,jg,Xq.un Wz⟩),(394,⟨PZ,Zs,PZ.un NZ⟩),(396,⟨YE,ji,YE.un Vj⟩)],C0 [(10,[0,1,2,3,4,5,6,7,8,9,10,11]),(18,[0,1,2,3,4,5,6,7,8,9,10,11,12,13,14,15,16,17,18,19])]⟩ aU Tryz.f349 (Nj 8 ZH n) 3 ω (Z_.st 207 v)=Z_.un (fun(t1:Int) (t6:Int) (b0:AAg) (b1:AAj) (b2:AAg) (b3:AAi) (b4:AAn) (b5:AAt) (b6:AAv) (b7:AAm) (CQ:Int) (CY:Int) (BV:Bool) (DX:Int) (Dv:Int) (CC:Bool) (MD:AAg) (F9:AAj) (Df:AAg) (Fh:AAi) (Fb:AAn) (D_:AAt) (ET:AAv) (Eo:AAm) (Bo:AAh) (B_:AAh) (Bq:Int)=>
 cond ((decide (t6<(b4.length:Int))))
  (if(0:Int)≤t6∧t6<(b4.length:Int)then(
  (W9 (b3,CY,()) ((b4.getD (t6.toNat) (0,[],())).1)).bind fun u3=>
  (XA u3.2.1 t1).bind fun u4=>
  cond (!u4.1.1)
   ((A6 n) t1 (AX (t6+1)) b0 b1 b2 b3 b4 b5 b6 b7 CQ CY BV DX Dv CC MD F9 Df Fh Fb D_ ET Eo Bo B_ Bq)
  (let x5:Int:=(b4.getD (t6.toNat) (0,[],())).1
  cond (decide (Bq≥x5))
   ((A6 n) t1 (AX (t6+1)) b0 b1 b2 b3 b4 b5 b6 b7 CQ CY BV DX Dv CC MD F9 Df Fh Fb D_ ET Eo Bo B_ Bq)
  ((Ak n) t1 t6 1 Bq x5 (decide (Bq≥x5)) b0 b1 b2 b3 b4 b5 b6 b7 CQ CY BV DX Dv CC MD F9 Df Fh Fb D_ ET Eo Bo B_ Bq ((b4.getD (t6.toNat) (0,[],())).1) ((b4.getD (t6.toNat) (0,[],())).2.1))))else none)
 ((A9 n) t1 0 b0 b1 b2 b3 b4 b5 b6 b7 CQ CY BV DX Dv CC MD F9 Df Fh Fb D_ ET Eo Bo B_ Bq)) v:=by kernel_rfl
theorem AD7(n:Nat)(v:Z_.V)(ω:List Bool):GH pT aU Tryz.f349 (Nj 8 ZH n) 3 ω (Z_.st 207 v)=Z_.un (Iv (A6 n) (Ak n) (Al n) (A9 n) (A0 n)) v:=AB3 B4 Bu Bl Ez Bk C8 CX Ct E4 n v ω
def A8(ω:List Bool):Prop:= ∀(XA:List Int→Int→Option EP) (XY:Int→Option FU) (Wy:Int→Int→Option FK) (W4:Int→Option Ha) (W9:ABB→Int→Option Ei) (Xb:AA2→Int→Option D8) (Wz:AAw→ABE→Int→Int→Option D2) (NZ:AAw→AA2→Int→Int→Option CU) (Vj:AAh→Int→Option EK) (n:Nat) (v:UP.V),GH ⟨T,T5 [(163,⟨X_,kA,X_.un XA⟩),(170,⟨Xg,kF,Xg.un XY⟩),(177,⟨Xl,jw,Xl.un Wy⟩),(337,⟨YF,lC,YF.un W4⟩),(346,⟨Xn,kK,Xn.un W9⟩),(359,⟨Xx,kB,Xx.un Xb⟩),(392,⟨Xq,jg,Xq.un Wz⟩),(394,⟨PZ,Zs,PZ.un NZ⟩),(396,⟨YE,ji,YE.un Vj⟩)],C0 [(10,[0,1,2,3,4,5,6,7,8,9,10,11]),(18,[0,1,2,3,4,5,6,7,8,9,10,11,12,13,14,15,16,17,18,19])]⟩ aU Tryz.f349 (Nj 8 ZH n) 8 ω (UP.st 207 v)=UP.un (fun(t1:Int) (t6:Int) (t8:Int) (t47:Int) (t49:Int) (t50:Bool) (b0:AAg) (b1:AAj) (b2:AAg) (b3:AAi) (b4:AAn) (b5:AAt) (b6:AAv) (b7:AAm) (CQ:Int) (CY:Int) (BV:Bool) (DX:Int) (Dv:Int) (CC:Bool) (MD:AAg) (F9:AAj) (Df:AAg) (Fh:AAi) (Fb:AAn) (D_:AAt) (ET:AAv) (Eo:AAm) (Bo:AAh) (B_:AAh) (Bq:Int) (Cs:Int) (Bc:AA9)=>
 cond ((decide (t8≤(Bc.length:Int))))
  ((Wy Cs t8).bind fun u7=>
  (Vj Bo u7.1.1).bind fun u8=>
  cond (!u8.1.1.2.1)
   ((Ak n) t1 t6 (AX (t8+1)) t47 t49 t50 b0 b1 b2 b3 b4 b5 b6 b7 CQ CY BV DX Dv CC MD F9 Df Fh Fb D_ ET Eo Bo B_ Bq Cs Bc)
  (cond (u8.1.1.1.2.1 !=0)
   ((Ak n) t1 t6 (AX (t8+1)) t47 t49 t50 b0 b1 b2 b3 b4 b5 b6 b7 CQ CY BV DX Dv CC MD F9 Df Fh Fb D_ ET Eo Bo B_ Bq Cs Bc)
  (if(0:Int)≤AX (t8-1)∧AX (t8-1)<(Bc.length:Int)then(
  cond (((Bc.getD ((AX (t8-1)).toNat) ([],[],false,())).2.2.1))
   ((Ak n) t1 t6 (AX (t8+1)) t47 t49 t50 b0 b1 b2 b3 b4 b5 b6 b7 CQ CY BV DX Dv CC MD F9 Df Fh Fb D_ ET Eo Bo B_ Bq Cs Bc)
  ((Wz (b0,CQ,()) (Cs,Bc,()) t8 t1).bind fun HK=>
  (Ak n) t1 t6 (AX (t8+1)) t47 t49 t50 b0 b1 b2 b3 b4 b5 b6 b7 CQ CY BV DX Dv CC MD F9 Df Fh Fb D_ ET Eo Bo B_ Bq HK.1.1.1.1 HK.2.1))else none)))
 (if(0:Int)≤t6∧t6<(b4.length:Int)then(
 (Al n) t1 t6 0 t47 t49 t50 b0 b1 b2 b3 (b4.set (t6.toNat) (Cs,Bc,())) b5 b6 b7 CQ CY BV DX Dv CC MD F9 Df Fh Fb D_ ET Eo Bo B_ Bq Cs Bc)else none)) v
theorem sS:A8 []:=by delta A8;intros;kernel_rfl
theorem rj:A8 (false::[]):=by delta A8;intros;kernel_rfl
theorem qV:A8 (false::false::[]):=by delta A8;intros;kernel_rfl
theorem sn:A8 (false::false::false::[]):=by delta A8;intros;kernel_rfl
theorem rp(ω:List Bool):A8 (false::false::false::false::ω):=by delta A8;intros;kernel_rfl
theorem sc(ω:List Bool):A8 (false::false::false::true::ω):=by delta A8;intros;kernel_rfl
theorem rf(ω:List Bool):A8 (false::false::true::ω):=by delta A8;intros;kernel_rfl
theorem qp:A8 (false::true::[]):=by delta A8;intros;kernel_rfl
theorem qb:A8 (false::true::false::[]):=by delta A8;intros;kernel_rfl
theorem oe:A8 (false::true::false::false::[]):=by delta A8;intros;kernel_rfl
theorem qD(ω:List Bool):A8 (false::true::false::false::false::ω):=by delta A8;intros;kernel_rfl
theorem p7(ω:List Bool):A8 (false::true::false::false::true::ω):=by delta A8;intros;kernel_rfl
theorem oq:A8 (false::true::false::true::[]):=by delta A8;intros;kernel_rfl
theorem pU(ω:List Bool):A8 (false::true::false::true::false::ω):=by delta A8;intros;kernel_rfl
theorem ot:A8 (false::true::false::true::true::[]):=by delta A8;intros;kernel_rfl
theorem pz(ω:List Bool):A8 (false::true::false::true::true::false::ω):=by delta A8;intros;kernel_rfl
theorem pq(ω:List Bool):A8 (false::true::false::true::true::true::ω):=by delta A8;intros;kernel_rfl
theorem oS:A8 (false::true::true::[]):=by delta A8;intros;kernel_rfl
theorem oL(ω:List Bool):A8 (false::true::true::false::ω):=by delta A8;intros;kernel_rfl
theorem pt:A8 (false::true::true::true::[]):=by delta A8;intros;kernel_rfl
theorem pL(ω:List Bool):A8 (false::true::true::true::false::ω):=by delta A8;intros;kernel_rfl
theorem pP(ω:List Bool):A8 (false::true::true::true::true::ω):=by delta A8;intros;kernel_rfl
theorem ou:A8 (true::[]):=by delta A8;intros;kernel_rfl
theorem pB(ω:List Bool):A8 (true::false::ω):=by delta A8;intros;kernel_rfl
theorem o3:A8 (true::true::[]):=by delta A8;intros;kernel_rfl
theorem oH(ω:List Bool):A8 (true::true::false::ω):=by delta A8;intros;kernel_rfl
theorem pW:A8 (true::true::true::[]):=by delta A8;intros;kernel_rfl
theorem ow(ω:List Bool):A8 (true::true::true::false::ω):=by delta A8;intros;kernel_rfl
theorem oV(ω:List Bool):A8 (true::true::true::true::ω):=by delta A8;intros;kernel_rfl
theorem AC7(XA:List Int→Int→Option EP)(XY:Int→Option FU)(Wy:Int→Int→Option FK)(W4:Int→Option Ha)(W9:ABB→Int→Option Ei)(Xb:AA2→Int→Option D8)(Wz:AAw→ABE→Int→Int→Option D2)(NZ:AAw→AA2→Int→Int→Option CU)(Vj:AAh→Int→Option EK)(n:Nat)(v:UP.V)(ω:List Bool):GH ⟨T,T5 [(163,⟨X_,kA,X_.un XA⟩),(170,⟨Xg,kF,Xg.un XY⟩),(177,⟨Xl,jw,Xl.un Wy⟩),(337,⟨YF,lC,YF.un W4⟩),(346,⟨Xn,kK,Xn.un W9⟩),(359,⟨Xx,kB,Xx.un Xb⟩),(392,⟨Xq,jg,Xq.un Wz⟩),(394,⟨PZ,Zs,PZ.un NZ⟩),(396,⟨YE,ji,YE.un Vj⟩)],C0 [(10,[0,1,2,3,4,5,6,7,8,9,10,11]),(18,[0,1,2,3,4,5,6,7,8,9,10,11,12,13,14,15,16,17,18,19])]⟩ aU Tryz.f349 (Nj 8 ZH n) 8 ω (UP.st 207 v)=UP.un (fun(t1:Int) (t6:Int) (t8:Int) (t47:Int) (t49:Int) (t50:Bool) (b0:AAg) (b1:AAj) (b2:AAg) (b3:AAi) (b4:AAn) (b5:AAt) (b6:AAv) (b7:AAm) (CQ:Int) (CY:Int) (BV:Bool) (DX:Int) (Dv:Int) (CC:Bool) (MD:AAg) (F9:AAj) (Df:AAg) (Fh:AAi) (Fb:AAn) (D_:AAt) (ET:AAv) (Eo:AAm) (Bo:AAh) (B_:AAh) (Bq:Int) (Cs:Int) (Bc:AA9)=>
 cond ((decide (t8≤(Bc.length:Int))))
  ((Wy Cs t8).bind fun u7=>
  (Vj Bo u7.1.1).bind fun u8=>
  cond (!u8.1.1.2.1)
   ((Ak n) t1 t6 (AX (t8+1)) t47 t49 t50 b0 b1 b2 b3 b4 b5 b6 b7 CQ CY BV DX Dv CC MD F9 Df Fh Fb D_ ET Eo Bo B_ Bq Cs Bc)
  (cond (u8.1.1.1.2.1 !=0)
   ((Ak n) t1 t6 (AX (t8+1)) t47 t49 t50 b0 b1 b2 b3 b4 b5 b6 b7 CQ CY BV DX Dv CC MD F9 Df Fh Fb D_ ET Eo Bo B_ Bq Cs Bc)
  (if(0:Int)≤AX (t8-1)∧AX (t8-1)<(Bc.length:Int)then(
  cond (((Bc.getD ((AX (t8-1)).toNat) ([],[],false,())).2.2.1))
   ((Ak n) t1 t6 (AX (t8+1)) t47 t49 t50 b0 b1 b2 b3 b4 b5 b6 b7 CQ CY BV DX Dv CC MD F9 Df Fh Fb D_ ET Eo Bo B_ Bq Cs Bc)
  ((Wz (b0,CQ,()) (Cs,Bc,()) t8 t1).bind fun HK=>
  (Ak n) t1 t6 (AX (t8+1)) t47 t49 t50 b0 b1 b2 b3 b4 b5 b6 b7 CQ CY BV DX Dv CC MD F9 Df Fh Fb D_ ET Eo Bo B_ Bq HK.1.1.1.1 HK.2.1))else none)))
 (if(0:Int)≤t6∧t6<(b4.length:Int)then(
 (Al n) t1 t6 0 t47 t49 t50 b0 b1 b2 b3 (b4.set (t6.toNat) (Cs,Bc,())) b5 b6 b7 CQ CY BV DX Dv CC MD F9 Df Fh Fb D_ ET Eo Bo B_ Bq Cs Bc)else none)) v:=(AD sS (AD rj (AD qV (AD sn rp sc) rf) (AD qp (AD qb (AD oe qD p7) (AD oq pU (AD ot pz pq))) (AD oS oL (AD pt pL pP)))) (AD ou pB (AD o3 oH (AD pW ow oV)))) ω XA XY Wy W4 W9 Xb Wz NZ Vj n v
theorem AEv(n:Nat)(v:UP.V)(ω:List Bool):GH pT aU Tryz.f349 (Nj 8 ZH n) 8 ω (UP.st 207 v)=UP.un (Io (A6 n) (Ak n) (Al n) (A9 n) (A0 n)) v:=AC7 B4 Bu Bl Ez Bk C8 CX Ct E4 n v ω
theorem tF(XA:List Int→Int→Option EP)(XY:Int→Option FU)(Wy:Int→Int→Option FK)(W4:Int→Option Ha)(W9:ABB→Int→Option Ei)(Xb:AA2→Int→Option D8)(Wz:AAw→ABE→Int→Int→Option D2)(NZ:AAw→AA2→Int→Int→Option CU)(Vj:AAh→Int→Option EK)(n:Nat)(v:WY.V)(ω:List Bool):GH ⟨T,T5 [(163,⟨X_,kA,X_.un XA⟩),(170,⟨Xg,kF,Xg.un XY⟩),(177,⟨Xl,jw,Xl.un Wy⟩),(337,⟨YF,lC,YF.un W4⟩),(346,⟨Xn,kK,Xn.un W9⟩),(359,⟨Xx,kB,Xx.un Xb⟩),(392,⟨Xq,jg,Xq.un Wz⟩),(394,⟨PZ,Zs,PZ.un NZ⟩),(396,⟨YE,ji,YE.un Vj⟩)],C0 [(10,[0,1,2,3,4,5,6,7,8,9,10,11]),(18,[0,1,2,3,4,5,6,7,8,9,10,11,12,13,14,15,16,17,18,19])]⟩ aU Tryz.f349 (Nj 8 ZH n) 15 ω (WY.st 207 v)=WY.un (fun(t1:Int) (t6:Int) (t11:Int) (t47:Int) (t49:Int) (t50:Bool) (b0:AAg) (b1:AAj) (b2:AAg) (b3:AAi) (b4:AAn) (b5:AAt) (b6:AAv) (b7:AAm) (CQ:Int) (CY:Int) (BV:Bool) (DX:Int) (Dv:Int) (CC:Bool) (MD:AAg) (F9:AAj) (Df:AAg) (Fh:AAi) (Fb:AAn) (D_:AAt) (ET:AAv) (Eo:AAm) (Bo:AAh) (B_:AAh) (Bq:Int) (Cs:Int) (Bc:AA9)=>
 cond ((decide (t11<(b7.length:Int))))
  (if(0:Int)≤t11∧t11<(b7.length:Int)then(
  let x65:Int:=(b7.getD (t11.toNat) (0,[],false,())).1
  (XY x65).bind fun u66=>
  cond (u66.1.1==Cs)
   ((W4 x65).bind fun u67=>
   cond ((decide (u67.1.1≤(Bc.length:Int))))
    ((W4 x65).bind fun u69=>
    if(0:Int)≤AX (u69.1.1-1)∧AX (u69.1.1-1)<(Bc.length:Int)then(
    cond (((Bc.getD ((AX (u69.1.1-1)).toNat) ([],[],false,())).2.2.1))
     (if(0:Int)≤t11∧t11<(b7.length:Int)then(
     (Al n) t1 t6 (AX (t11+1)) t47 t49 t50 b0 b1 b2 b3 b4 b5 b6 (b7.set (t11.toNat) ((b7.getD (t11.toNat) (0,[],false,())).1,(b7.getD (t11.toNat) (0,[],false,())).2.1,true,())) CQ CY BV DX Dv CC MD F9 Df Fh Fb D_ ET Eo Bo B_ Bq Cs Bc)else none)
    ((Al n) t1 t6 (AX (t11+1)) t47 t49 t50 b0 b1 b2 b3 b4 b5 b6 b7 CQ CY BV DX Dv CC MD F9 Df Fh Fb D_ ET Eo Bo B_ Bq Cs Bc))else none)
   ((Al n) t1 t6 (AX (t11+1)) t47 t49 t50 b0 b1 b2 b3 b4 b5 b6 b7 CQ CY BV DX Dv CC MD F9 Df Fh Fb D_ ET Eo Bo B_ Bq Cs Bc))
  ((Al n) t1 t6 (AX (t11+1)) t47 t49 t50 b0 b1 b2 b3 b4 b5 b6 b7 CQ CY BV DX Dv CC MD F9 Df Fh Fb D_ ET Eo Bo B_ Bq Cs Bc))else none)
 ((A6 n) t1 (AX (t6+1)) b0 b1 b2 b3 b4 b5 b6 b7 CQ CY BV DX Dv CC MD F9 Df Fh Fb D_ ET Eo Bo B_ Bq)) v:=by kernel_rfl
theorem xd(n:Nat)(v:WY.V)(ω:List Bool):GH pT aU Tryz.f349 (Nj 8 ZH n) 15 ω (WY.st 207 v)=WY.un (Hr (A6 n) (Ak n) (Al n) (A9 n) (A0 n)) v:=tF B4 Bu Bl Ez Bk C8 CX Ct E4 n v ω
theorem ze(XA:List Int→Int→Option EP)(XY:Int→Option FU)(Wy:Int→Int→Option FK)(W4:Int→Option Ha)(W9:ABB→Int→Option Ei)(Xb:AA2→Int→Option D8)(Wz:AAw→ABE→Int→Int→Option D2)(NZ:AAw→AA2→Int→Int→Option CU)(Vj:AAh→Int→Option EK)(n:Nat)(v:Wg.V)(ω:List Bool):GH ⟨T,T5 [(163,⟨X_,kA,X_.un XA⟩),(170,⟨Xg,kF,Xg.un XY⟩),(177,⟨Xl,jw,Xl.un Wy⟩),(337,⟨YF,lC,YF.un W4⟩),(346,⟨Xn,kK,Xn.un W9⟩),(359,⟨Xx,kB,Xx.un Xb⟩),(392,⟨Xq,jg,Xq.un Wz⟩),(394,⟨PZ,Zs,PZ.un NZ⟩),(396,⟨YE,ji,YE.un Vj⟩)],C0 [(10,[0,1,2,3,4,5,6,7,8,9,10,11]),(18,[0,1,2,3,4,5,6,7,8,9,10,11,12,13,14,15,16,17,18,19])]⟩ aU Tryz.f349 (Nj 8 ZH n) 21 ω (Wg.st 207 v)=Wg.un (fun(t1:Int) (t13:Int) (b0:AAg) (b1:AAj) (b2:AAg) (b3:AAi) (b4:AAn) (b5:AAt) (b6:AAv) (b7:AAm) (CQ:Int) (CY:Int) (BV:Bool) (DX:Int) (Dv:Int) (CC:Bool) (MD:AAg) (F9:AAj) (Df:AAg) (Fh:AAi) (Fb:AAn) (D_:AAt) (ET:AAv) (Eo:AAm) (Bo:AAh) (B_:AAh) (Bq:Int)=>
 cond ((decide (t13<(b5.length:Int))))
  (if(0:Int)≤t13∧t13<(b5.length:Int)then(
  (A0 n) t1 t13 1 b0 b1 b2 b3 b4 b5 b6 b7 CQ CY BV DX Dv CC MD F9 Df Fh Fb D_ ET Eo Bo B_ Bq ((b5.getD (t13.toNat) (0,0,[],[],false,[],())).1) ((b5.getD (t13.toNat) (0,0,[],[],false,[],())).2.1) ((b5.getD (t13.toNat) (0,0,[],[],false,[],())).2.2.1) ((b5.getD (t13.toNat) (0,0,[],[],false,[],())).2.2.2.1) ((b5.getD (t13.toNat) (0,0,[],[],false,[],())).2.2.2.2.1) ((b5.getD (t13.toNat) (0,0,[],[],false,[],())).2.2.2.2.2.1))else none)
 (some ((((),CQ,(),(),(),CY,(),(),(),(),BV,()),()),(b0,b1,b2,b3,b4,b5,b6,b7,())))) v:=by kernel_rfl
theorem xB(n:Nat)(v:Wg.V)(ω:List Bool):GH pT aU Tryz.f349 (Nj 8 ZH n) 21 ω (Wg.st 207 v)=Wg.un (Hu (A6 n) (Ak n) (Al n) (A9 n) (A0 n)) v:=ze B4 Bu Bl Ez Bk C8 CX Ct E4 n v ω
theorem xD(XA:List Int→Int→Option EP)(XY:Int→Option FU)(Wy:Int→Int→Option FK)(W4:Int→Option Ha)(W9:ABB→Int→Option Ei)(Xb:AA2→Int→Option D8)(Wz:AAw→ABE→Int→Int→Option D2)(NZ:AAw→AA2→Int→Int→Option CU)(Vj:AAh→Int→Option EK)(n:Nat)(v:Wc.V)(ω:List Bool):GH ⟨T,T5 [(163,⟨X_,kA,X_.un XA⟩),(170,⟨Xg,kF,Xg.un XY⟩),(177,⟨Xl,jw,Xl.un Wy⟩),(337,⟨YF,lC,YF.un W4⟩),(346,⟨Xn,kK,Xn.un W9⟩),(359,⟨Xx,kB,Xx.un Xb⟩),(392,⟨Xq,jg,Xq.un Wz⟩),(394,⟨PZ,Zs,PZ.un NZ⟩),(396,⟨YE,ji,YE.un Vj⟩)],C0 [(10,[0,1,2,3,4,5,6,7,8,9,10,11]),(18,[0,1,2,3,4,5,6,7,8,9,10,11,12,13,14,15,16,17,18,19])]⟩ aU Tryz.f349 (Nj 8 ZH n) 25 ω (Wc.st 207 v)=Wc.un (fun(t1:Int) (t13:Int) (t15:Int) (b0:AAg) (b1:AAj) (b2:AAg) (b3:AAi) (b4:AAn) (b5:AAt) (b6:AAv) (b7:AAm) (CQ:Int) (CY:Int) (BV:Bool) (DX:Int) (Dv:Int) (CC:Bool) (MD:AAg) (F9:AAj) (Df:AAg) (Fh:AAi) (Fb:AAn) (D_:AAt) (ET:AAv) (Eo:AAm) (Bo:AAh) (B_:AAh) (Bq:Int) (Cs:Int) (Bc:Int) (T3:AAg) (UH:AAh) (Tm:Bool) (PC:List AAg)=>
 if(0:Int)≤t13∧t13<(b5.length:Int)then(
 cond (decide (t15≤(((b5.getD (t13.toNat) (0,0,[],[],false,[],())).2.2.2.2.2.1).length:Int)))
  ((W9 (b3,CY,()) Bc).bind fun u74=>
  (XA u74.2.1 t1).bind fun u75=>
  cond (u75.1.1)
   ((Xb (Cs,Bc,T3,UH,Tm,PC,()) t15).bind fun qv=>
   (Vj Bo qv.1.1.1.1).bind fun sJ=>
   cond (sJ.1.1.2.1)
    (cond (((sJ.1.1.1.1==qv.1.1.1.1)&&((sJ.1.1.1.2.1==qv.1.1.1.2.1)&&((sJ.1.1.1.2.2.1==qv.1.1.1.2.2.1)&&((sJ.1.1.1.2.2.2.1==qv.1.1.1.2.2.2.1)&&true)))))
     ((NZ (b0,CQ,()) (Cs,Bc,T3,UH,Tm,PC,()) t15 t1).bind fun oN=>
     (A0 n) t1 t13 (AX (t15+1)) b0 b1 b2 b3 b4 b5 b6 b7 CQ CY BV DX Dv CC MD F9 Df Fh Fb D_ ET Eo Bo B_ Bq oN.1.1.1.1 oN.1.1.1.2.1 oN.2.1 oN.2.2.1 oN.1.1.1.2.2.2.2.1 oN.2.2.2.1)
    ((A0 n) t1 t13 (AX (t15+1)) b0 b1 b2 b3 b4 b5 b6 b7 CQ CY BV DX Dv CC MD F9 Df Fh Fb D_ ET Eo Bo B_ Bq Cs Bc T3 UH Tm PC))
   ((A0 n) t1 t13 (AX (t15+1)) b0 b1 b2 b3 b4 b5 b6 b7 CQ CY BV DX Dv CC MD F9 Df Fh Fb D_ ET Eo Bo B_ Bq Cs Bc T3 UH Tm PC))
  (if(0:Int)≤t13∧t13<(b5.length:Int)then(
  (A9 n) t1 (AX (t13+1)) b0 b1 b2 b3 b4 (b5.set (t13.toNat) (Cs,Bc,T3,UH,Tm,PC,())) b6 b7 CQ CY BV DX Dv CC MD F9 Df Fh Fb D_ ET Eo Bo B_ Bq)else none))
 (if(0:Int)≤t13∧t13<(b5.length:Int)then(
 (A9 n) t1 (AX (t13+1)) b0 b1 b2 b3 b4 (b5.set (t13.toNat) (Cs,Bc,T3,UH,Tm,PC,())) b6 b7 CQ CY BV DX Dv CC MD F9 Df Fh Fb D_ ET Eo Bo B_ Bq)else none))else none) v:=by kernel_rfl
theorem wV(n:Nat)(v:Wc.V)(ω:List Bool):GH pT aU Tryz.f349 (Nj 8 ZH n) 25 ω (Wc.st 207 v)=Wc.un (Fz (A6 n) (Ak n) (Al n) (A9 n) (A0 n)) v:=xD B4 Bu Bl Ez Bk C8 CX Ct E4 n v ω
theorem AJN(XA:List Int→Int→Option EP)(XY:Int→Option FU)(Wy:Int→Int→Option FK)(W4:Int→Option Ha)(W9:ABB→Int→Option Ei)(Xb:AA2→Int→Option D8)(Wz:AAw→ABE→Int→Int→Option D2)(NZ:AAw→AA2→Int→Int→Option CU)(Vj:AAh→Int→Option EK)(n:Nat)(ω:List Bool)(v:mB.V):FW ⟨T,T5 [(163,⟨X_,kA,X_.un XA⟩),(170,⟨Xg,kF,Xg.un XY⟩),(177,⟨Xl,jw,Xl.un Wy⟩),(337,⟨YF,lC,YF.un W4⟩),(346,⟨Xn,kK,Xn.un W9⟩),(359,⟨Xx,kB,Xx.un Xb⟩),(392,⟨Xq,jg,Xq.un Wz⟩),(394,⟨PZ,Zs,PZ.un NZ⟩),(396,⟨YE,ji,YE.un Vj⟩)],C0 [(10,[0,1,2,3,4,5,6,7,8,9,10,11]),(18,[0,1,2,3,4,5,6,7,8,9,10,11,12,13,14,15,16,17,18,19])]⟩ aU Tryz.f349 (Nj 8 ZH n) ω v=mB.un (fun(BW:Int) (BX:Int) (As:Bool) (p1:Int) (b0:AAg) (b1:AAj) (b2:AAg) (b3:AAi) (b4:AAn) (b5:AAt) (b6:AAv) (b7:AAm)=>
 if(0:Int)≤p1∧p1<(b1.length:Int)then(
 (A6 n) p1 0 b0 b1 b2 b3 b4 b5 b6 b7 BW BX As 0 0 false [] [] [] [] [] [] [] [] ((b1.getD (p1.toNat) ([],[],0,())).1) ((b1.getD (p1.toNat) ([],[],0,())).2.1) ((b1.getD (p1.toNat) ([],[],0,())).2.2.1))else none) v:=by kernel_rfl
theorem ALM(n:Nat)(ω:List Bool)(v:mB.V):FW pT aU Tryz.f349 (Nj 8 ZH n) ω v=mB.un (L6 (A6 n) (Ak n) (Al n) (A9 n) (A0 n)) v:=AJN B4 Bu Bl Ez Bk C8 CX Ct E4 n ω v
def AKm:SQ:=mk Tryz.func349 mB AFP QP [bz,bZ,eR,xI,jm,AER,AC4,xe,wF] [(10,[0,1,2,3,4,5,6,7,8,9,10,11]),(18,[0,1,2,3,4,5,6,7,8,9,10,11,12,13,14,15,16,17,18,19])] ZH (hJ:= .cons (fun _=>rfl) AD7 (.cons (fun _=>rfl) AEv (.cons (fun _=>rfl) xd (.cons (fun _=>rfl) xB (.cons (fun _=>rfl) wV (.nil)))))) (he:=ALM Aa)
def AJg:SQ:=mk Tryz.func278 VT AAx QL [m_,ABq,AKm] [] []
def qU:SQ:=mk Tryz.func353 r8 cn GM [bz] [] [⟨3,⟨[(0,YJ),(1,YJ),(5,qQ),(6,Bm)],[EF]⟩,J_⟩]
def AK4:SQ:=mk Tryz.func350 ⟨[(0,fm),(1,.row Y6),(2,Bm)],[]⟩ ABS Jn [sO,qB,qU] [(8,[0,1,2])] [⟨5,⟨[(2,Bm),(6,ML),(8,xP9),(9,Bm)],[.mem [.v tI,.ref 1],bN,.mem [.v tI,.ref 3],bN]⟩,FV⟩] (hJ:= .cons (fun _=>rfl) (fun n v ω=>by rcases ω with _|⟨_|_,_⟩<;>kernel_rfl) (.nil))
def AJv:SQ:=mk Tryz.func351 ⟨[(0,fm),(1,.row Y7),(2,Bm)],[]⟩ nz Li [oc,pQ,qU] [(7,[0,1,2,3,4,5,6])] [⟨5,⟨[(2,Bm),(6,ML),(8,jS),(9,Bm)],[.mem [.v tI,.v tI,.ref 1,.ref 2,.v .bool,.ref 3],EF,KI,gA,.mem [.v tI,.v tI,.ref 5,.ref 6,.v .bool,.ref 7],EF,KI,gA]⟩,Gk⟩] (hJ:= .cons (fun _=>rfl) (fun n v ω=>by rcases ω with _|⟨_|_,_⟩<;>kernel_rfl) (.nil))
def ALD:SQ:=mk Tryz.func279 VT ⟨AHq,[Ec,cA,LV,Qb,ea,Wr,Pm,OT,Ec]⟩ Qk [Ys,mY,m_,AK4,AJv] [(9,[0,1,2,3,5,6,7,8,9,10,11,12,13,14,15,16,17,18,19]),(13,[0,1,2,3,4,6,7,8,9,10,11,12,13,14,15,16,17,18,19])] [⟨7,⟨[(2,X0),(3,Yn),(4,.c (.ptr 11 0)),(7,Bm)],AIa⟩,HJ⟩,⟨11,⟨[(2,X0),(3,Yn),(4,.c (.ptr 11 0)),(8,Bm)],AIa⟩,GS⟩]
def AJR:SQ:=mk Tryz.func397 eD Eb SL [lY,Ys] [] []
def ALB:SQ:=mk Tryz.func398 ⟨[(0,AAH)],[]⟩ ra TF [AB2] [] [⟨3,⟨[(0,AAH),(3,qQ),(4,Bm)],[KI]⟩,GV⟩,⟨6,⟨[(0,AAH),(3,qQ),(4,Bm),(5,Bm)],[KI]⟩,GU⟩]
def ALJ:SQ:=mk Tryz.func352 ⟨[(0,fm),(1,qQ),(2,YJ),(3,Bm),(4,Bm)],[cA]⟩ ⟨[(0,.Ju [.inr [.ref 1,.ref 2,.v tI],.inl (.v .bool)])],[Um,KI,KI]⟩ Wf [s11,mW,bz,AJR,ALB] [] [⟨6,⟨[(1,qQ),(2,YJ),(4,Bm),(10,SE),(12,jS),(13,.c (.ref 7)),(14,Bm)],AHn⟩,KW⟩,⟨11,⟨[(4,Bm),(10,SE),(12,jS),(13,.c (.ref 7)),(15,Bm)],AHn⟩,JQ⟩]
def AJ5:SQ:=mk Tryz.func280 VT ⟨AHq,[Ec,Um,LV,Qb,ea,Wr,Pm,OT,Ec]⟩ QA [bz,lE,ALJ,qU] [(3,[0,2,3,4,5,6,7,8,9,10])] [] (he:=fun ω v=>by rcases ω with _|⟨_|_,_|⟨_|_,_⟩⟩<;>kernel_rfl)
abbrev eM:Bn:=jh
abbrev oD:Bn:=ABO
def ADE:SQ:=mk Tryz.func354 eM oD I2 [] [] []
def AKs:SQ:=mk Tryz.func281 ri ⟨[(0,.Ju [.inr [.ref 0,.v tI,.ref 1,.ref 2,.ref 3,.v tI,.ref 4,.ref 8,.ref 6,.ref 7,.v .bool],.inl (.v tI)])],[Ec,cA,Ec,Qb,ea,LV,Pm,OT,Wr]⟩ Qd [uG,ADE] [] []
def AIL:SQ:=mk Tryz.func355 nM kD KH [fR,mW,oQ,lE,ABq] [] []
abbrev di:Bn:=nM
abbrev oU:Bn:=ra
def AD4:SQ:=mk Tryz.func357 di oU GD [mW,bZ] [] [⟨3,⟨[(1,Bm),(2,ML),(5,tB),(6,Bm)],[AIA,KI]⟩,GP⟩]
abbrev cw:Bn:=⟨[(0,fm),(1,.row Y7),(2,Bm),(3,Zc)],[]⟩
abbrev oP:Bn:=nz
def ACH:SQ:=mk Tryz.func356 cw oP GI [oc,bZ,pQ,mY,AB2] [(8,[0,1,2,3,4,5,6,7,8,9]),(9,[0,1,2,3,4,5,7,8,9])] [⟨6,⟨[(3,Zc),(4,ML),(5,SE),(8,xP9),(10,.c (.ptr 6 0)),(11,Bm)],[bu,sC,AHu,EF,KI,gA,AG8,EF,KI,gA]⟩,H5⟩]
def AKY:SQ:=mk Tryz.func282 VT hI QM [bz,m_,jm,AIL,ACH,AD4] [(7,[0,1,2,3,4,5,6,7,8,9,10,11]),(9,[0,1,2,3,4,5,6,7,8,9,10,11,12]),(10,[0,1,2,3,4,5,6,7,8,9,10,11,12,13,14,15])] [] (he:=fun ω v=>by rcases ω with _|⟨_|_,_|⟨_|_,_|⟨_|_,_⟩⟩⟩<;>kernel_rfl)
def AHm:SQ:=mk Tryz.func401 r8 cn HS [qU] [] []
def AIt:SQ:=mk Tryz.func400 ⟨[(0,fm),(1,YJ),(2,YJ)],[]⟩ Eb Hd [lY,Ys,AGl,qU] [(3,[0,1])] []
abbrev cf:Bn:=⟨[(0,fm),(1,.row Y7),(2,YJ)],[]⟩
abbrev oF:Bn:=nz
def ABm:SQ:=mk Tryz.func358 cf oF GK [oc,pQ,AGD,AIt,AHm] [(4,[0,1,2,3,4,5,6])] [⟨8,⟨[(4,ML),(6,SE),(8,.c (.ptr 5 0)),(9,Bm)],ACy⟩,IW⟩]
def AKq:SQ:=mk Tryz.func283 ri hI Ql [jm,ABm] [(3,[0,1,2,3,4,5,6,7,8,9])] [] (he:=fun ω v=>by rcases ω with _|⟨_|_,_|⟨_|_,_⟩⟩<;>kernel_rfl)
def ALR:SQ:=mk Tryz.func284 VT hI Sn [bz,m_,jm,AC9,AER] [(3,[0,1,2,3,4,5,6,7,8,9,10]),(9,[0,1,2,3,4,5,6,7,8,9,10,11]),(11,[0,1,2,3,4,5,6,7,8,9,10,11,12])] [] (he:=fun ω v=>by rcases ω with _|⟨_|_,_|⟨_|_,_⟩⟩<;>kernel_rfl)
def AKG:SQ:=mk Tryz.func360 nY Eb NC [Ys,oc] [(6,[0,1])] [⟨4,AA0,HU⟩]
def AH9:SQ:=mk Tryz.func361 ⟨[(0,fm),(1,.row Y4),(2,Bm),(3,Bm)],[]⟩ AAl LO [fR,p8,uG,pw] [] []
def AKB:SQ:=mk Tryz.func285 ri ⟨[(0,.Ju [.inr [.ref 0,.v tI,.ref 1,.ref 2,.ref 8,.v tI,.ref 4,.ref 9,.ref 6,.ref 7,.v .bool],.inl (.v tI)])],[Ec,cA,Ec,LV,ea,LV,Pm,OT,Qb,Wr]⟩ On [AKG,AH9] [(3,[0,1,2,3,4,5,6,7,8,9]),(5,[0,1,2,3,4,5,6,7,8,9])] [] (he:=fun ω v=>by rcases ω with _|⟨_|_,_⟩<;>kernel_rfl)
def AGp:SQ:=mk Tryz.func286 ⟨[(0,fm),(1,.row Y4),(2,Bm)],[]⟩ AAl Mh [p8,lf,bZ,pw,lE] [(4,[0,1,2,3,4])] []
def AKI:SQ:=mk Tryz.func406 ⟨[(0,.row Y6)],[]⟩ G5 Pe [] [] [⟨2,⟨zB,[AE4]⟩,Gg⟩]
def AJT:SQ:=mk Tryz.func363 jk G5 Vn [AKI] [] [⟨2,⟨[(1,Bm),(2,ML),(5,Bm)],wa⟩,KJ⟩]
def AJM:SQ:=mk Tryz.func364 ⟨[(0,.row Y11),(1,.row Y9),(2,Bm)],[]⟩ ⟨sV,[.sl 9 Y14]⟩ Ll [eR,AHv,m_,wF] [(6,[0,1,2,3]),(7,[0,1,2,3]),(8,[0,1,3,4])] [⟨4,⟨[(3,ML),(4,SE),(7,.c (.ref 2)),(8,.c (.ref 3)),(9,Bm)],[rP,.mem [.v tI,.v tI,.sl false Y8],.sl 9 Y14,EF]⟩,Gl⟩] (hJ:= .cons (fun _=>rfl) (fun n v ω=>by rcases ω with _|⟨_|_,_|⟨_|_,_⟩⟩<;>kernel_rfl) (.nil))
def AJk:SQ:=mk Tryz.func403 ⟨[(0,fm),(1,s7)],[]⟩ ⟨[(0,.Ju [.inl (.ref 0),.inl (.v .bool)])],[EF]⟩ S2 [lY] [] [⟨3,⟨[(1,s7),(2,ML),(6,tB),(7,Bm)],AC6⟩,ID⟩]
def AJ7:SQ:=mk Tryz.func404 ⟨[(0,.row Y9),(1,.row Y8),(2,Bm),(3,Bm)],[]⟩ sf GB [tJ] [] []
def AJw:SQ:=mk Tryz.func405 ⟨[(0,YJ),(1,Bm),(2,s7)],[]⟩ ⟨[(0,.agg [.v tI,.v tI,.v .str])],[]⟩ Iu [bz,wK,AH5] [] [⟨4,⟨[(0,YJ),(1,Bm),(2,s7),(6,ML),(7,SE),(8,qH),(9,Bm)],[.mem [.v tI,.v tI,.v .str],ADq]⟩,JI⟩]
def AJf:SQ:=mk Tryz.func362 ⟨[(0,fm),(1,.row Y4),(2,Bm),(3,.row Y9),(4,s7)],[]⟩ ⟨[(0,.Ju [.inr [.v tI,.v tI,.ref 0],.inl (.v tI)])],[.sl 9 Y8]⟩ Lg [s65,p8,bZ,eR,tJ,xI,AIt,AHm,AJk,AJ7,AJw] [(9,[0,1,2,4,5]),(14,[0,1,2,3,4,5]),(16,[0,1,2,4,5,6])] []
def AKe:SQ:=mk Tryz.func287 VT hI QI [fR,AJf,AJT,AJM] [(3,[0,1,2,3,4,5,6,7,8,9,10])] [] (he:=fun ω v=>by rcases ω with _|⟨_|_,_|⟨_|_,_|⟨_|_,_⟩⟩⟩<;>kernel_rfl)
def ALE:SQ:=mk Tryz.func288 VT ⟨[(0,.Ju [.inr [.ref 0,.v tI,.ref 1,.ref 2,.ref 3,.v tI,.ref 8,.ref 5,.ref 6,.ref 7,.v .bool],.inl (.v tI)])],[Ec,cA,Ec,Qb,LV,Wr,Pm,OT,Vg]⟩ QS [AB9] [] [⟨5,⟨[(2,X0),(3,Zo),(4,Yn),(6,.c (.ref 19)),(7,Bm)],[Ec,cA,Ec,Qb,Vg,Wr,Pm,OT,fu,AE2,wi,EF,VZ,EF,OO,Ve,Vc,Va,QE,Vg]⟩,JB⟩]
def ALh:SQ:=mk Tryz.func366 nM kD M0 [mW,lf,oQ] [(11,[0,1,2,3,6])] [⟨8,AA3,HX⟩] (hJ:= .cons (fun _=>rfl) (fun n v ω=>by rcases ω with _|⟨_|_,_⟩<;>kernel_rfl) (.nil))
def AKz:SQ:=mk Tryz.func289 VT hI Oe [m_,AHY,ALh] [(4,[0,1,2,3,4,5,6,7,8,9,10]),(6,[0,1,2,3,4,5,6,7,8,9,10,12])] [] (he:=fun ω v=>by rcases ω with _|⟨_|_,_⟩<;>kernel_rfl)
def AKE:SQ:=mk Tryz.func190 VT ⟨[(0,.Ju [.inr [.ref 0,.v tI,.ref 1,.ref 8,.ref 9,.v tI,.ref 10,.ref 11,.ref 6,.ref 12,.v .bool],.inl (.v tI)])],[Ec,Um,LV,LV,LV,LV,Pm,LV,Ec,Qb,Vg,eE,OT]⟩ US [AJh,AJ2,ALi,AJg,ALD,AJ5,AKs,AKY,AKq,ALR,AKB,AGp,AKe,ALE,AKz] [] []
def s87:SQ:=mk Tryz.func87 ⟨[(0,.row Y11),(1,.row Y12)],[]⟩ AAx Qe [s19,s86,ALK,AKE] [(3,[0,1,2])] [] (he:=fun ω v=>by rcases ω with _|⟨_|_,_|⟨_|_,_⟩⟩<;>kernel_rfl)
abbrev qk:Bn:=sy
abbrev ACZ:Bn:=⟨[(0,.Ju [.inr [.ref 1,.v tI,.ref 2,.ref 3,.ref 4,.v tI,.ref 5,.ref 6,.ref 7,.ref 8,.v .bool],.inl (.ref 9),.inr [.ref 10,.v tI,.ref 11,.ref 12,.ref 13,.v tI,.ref 14,.ref 15,.ref 16,.ref 17,.v .bool]])],[QU,LV,LV,LV,LV,LV,LV,LV,LV,.sl 9 Y12,Ec,Um,Ec,Qb,Vg,eE,Pm,OT]⟩
def AHc:SQ:=mk Tryz.func255 qk ACZ HM [ZR,s87,AID,Ys,ALG,ALk] [(21,[0,2,3,4,5,6,7,8,9,11,12,13,14,15,16,17,18,19,28,29,30,31,32,33,34,35,36,37])] [⟨4,⟨[(0,ML),(1,Bm),(4,SE),(6,Yn),(7,aS),(8,.c (.ref 21)),(9,Bm)],AGP⟩,C9⟩,⟨7,⟨[(0,ML),(1,Bm),(4,SE),(6,Yn),(7,aS),(8,.c (.ref 21))],AGP⟩,DE⟩,⟨14,AHS,CT⟩]
def AIg:SQ:=mk Tryz.func390 fb AAy Ia [ZR,bZ,dw,eR,ACJ] [] []
abbrev eV:Bn:=fb
abbrev pZ:Bn:=ABC
def ACg:SQ:=mk Tryz.func331 eV pZ D4 [ZR,dw,eR,AC9,ABq,AIL,AIg] [(6,[1,2,3,4,5,6]),(14,[1,2,3,4,5,6,9]),(25,[0,1,2,3,6])] [⟨4,⟨[(0,ML),(2,SE),(3,jS),(4,Bm),(5,Bm)],xr⟩,Cm⟩,⟨20,⟨[(2,SE),(3,jS),(8,Bm)],xr⟩,C5⟩,⟨23,⟨[(2,SE),(3,jS),(8,Bm),(9,Bm)],xr⟩,DC⟩] (hJ:= .cons (fun _=>rfl) (fun n v ω=>by rcases ω with _|⟨_|_,_|⟨_|_,_⟩⟩<;>kernel_rfl) (.cons (fun _=>rfl) (fun n v ω=>by kernel_rfl) (.cons (fun _=>rfl) (fun n v ω=>by rcases ω with _|⟨_|_,_|⟨_|_,_⟩⟩<;>kernel_rfl) (.nil))))
abbrev sb:Bn:=fb
abbrev AD9:Bn:=kR
def o7:SQ:=mk Tryz.func172 sb AD9 CV [ZR,gE,eR] [] []
def AGb:SQ:=mk Tryz.func332 fb AAy MY [ZR,gE,o7,AIg] [] []
abbrev rh:Bn:=fb
abbrev ACU:Bn:=ABC
def AHV:SQ:=mk Tryz.func258 rh ACU PD [ZR,gE,eR,ACg,AGb] [(6,[1,4]),(8,[1,3]),(10,[1,2,3,4,5,6]),(11,[0,1,2,3,5])] [⟨10,⟨[(0,ML),(2,SE),(3,jS)],xr⟩,JE⟩] (hJ:= .cons (fun _=>rfl) (fun n v ω=>by rcases ω with _|⟨_|_,_|⟨_|_,_⟩⟩<;>kernel_rfl) (.nil)) (he:=fun ω v=>by rcases ω with _|⟨_|_,_|⟨_|_,_⟩⟩<;>kernel_rfl)
def AJc:SQ:=mk Tryz.func333 au ⟨AEi,[QU,OO]⟩ Ke [ZR,eR,AGp,ABz,AGM,AH9] [(5,[1,2,3,4,5]),(8,[1,2,3,4,5]),(10,[1,2,3,4,5])] [⟨3,⟨AGv,[QU,bu,.mem [.ref 3,.v tI],OO,.mem [.ref 5,.v tI],OO]⟩,EZ⟩] (hJ:= .cons (fun _=>rfl) (fun n v ω=>by rcases ω with _|⟨_|_,_|⟨_|_,_⟩⟩<;>kernel_rfl) (.nil))
abbrev sU:Bn:=au
abbrev AEA:Bn:=⟨AEi,[QU,.sl 1 Y3]⟩
def AGo:SQ:=mk Tryz.func259 sU AEA O7 [ZR,gE,o7,rH,AJc,ABz] [(11,[1,2,5]),(14,[1,2,5]),(17,[1,2,3,4])] [⟨17,⟨[(0,ML),(4,SE),(5,xP4),(7,.c (.sl true tI))],[QU,AB_,OO,ACN,.sl 1 Y3]⟩,JA⟩]
abbrev AJj:Bn:=au
abbrev AJQ:Bn:=⟨[(0,.agg [.v tI,.ref 1])],[QU,bN]⟩
def AIE:SQ:=mk Tryz.func335 AJj AJQ Kk [ZR,dw,lE,AHQ,ACJ,AC4] [(5,[1,2,3,4,5]),(7,[1,2,3,4,5])] [⟨3,⟨AGv,[QU,bu,.mem [.v tI,.ref 3],bN,.mem [.v tI,.ref 5],bN]⟩,Fv⟩] (hJ:= .cons (fun _=>rfl) (fun n v ω=>by rcases ω with _|⟨_|_,_|⟨_|_,_|⟨_|_,_⟩⟩⟩<;>kernel_rfl) (.nil))
abbrev dP:Bn:=au
abbrev sZ:Bn:=⟨[(0,.agg [.v tI,.ref 1])],[QU,.sl 1 Y5]⟩
def ABc:O2:=⟨dP,sZ,(dP.un J0)⟩
def AFA:Xj:=⟨T,T5 (SP.l [ZR,gE,AIE]),C0 [(7,[0,1,2,5]),(9,[1,2]),(12,[0,1,2])]⟩
def wx:List (Lp sZ):=[⟨11,⟨[(4,SE),(5,xP4)],[QU,.mem [.v tI,.ref 2],bN,.mem [.v tI,.ref 4],.sl 1 Y5]⟩,Ef⟩]
abbrev iJ:Bn:=⟨[(4,SE),(5,xP4)],[QU,.mem [.v tI,.ref 2],bN,.mem [.v tI,.ref 4],.sl 1 Y5]⟩
theorem tQ(n:Nat)(v:iJ.V)(ω:List Bool):GH AFA ABc Tryz.f260 (Nj 1 wx n) 11 ω (iJ.st 68 v)=iJ.un (L2 (Ef n)) v:=by rcases ω with _|⟨_|_,_|⟨_|_,_|⟨_|_,_⟩⟩⟩<;>kernel_rfl
def Ns(ω:List Bool):Prop:= ∀(n:Nat) (v:dP.V),FW AFA ABc Tryz.f260 (Nj 1 wx n) ω v=dP.un (Jt (Ef n)) v
theorem ADn:Ns []:=by delta Ns;intros;kernel_rfl
theorem ACv:Ns (false::[]):=by delta Ns;intros;kernel_rfl
theorem ADT:Ns (false::false::[]):=by delta Ns;intros;kernel_rfl
theorem ABh:Ns (false::false::false::[]):=by delta Ns;intros;kernel_rfl
theorem ACq(ω:List Bool):Ns (false::false::false::false::ω):=by delta Ns;intros;kernel_rfl
theorem ADa(ω:List Bool):Ns (false::false::false::true::ω):=by delta Ns;intros;kernel_rfl
theorem ADM(ω:List Bool):Ns (false::false::true::ω):=by delta Ns;intros;kernel_rfl
theorem AFm(ω:List Bool):Ns (false::true::ω):=by delta Ns;intros;kernel_rfl
theorem ACu(ω:List Bool):Ns (true::ω):=by delta Ns;intros;kernel_rfl
theorem AJ0(n:Nat)(ω:List Bool)(v:dP.V):FW AFA ABc Tryz.f260 (Nj 1 wx n) ω v=dP.un (Jt (Ef n)) v:=(AD ADn (AD ACv (AD ADT (AD ABh ACq ADa) ADM) AFm) ACu) ω n v
def AHf:SQ:=mk Tryz.func260 dP sZ J0 [ZR,gE,AIE] [(7,[0,1,2,5]),(9,[1,2]),(12,[0,1,2])] wx (hJ:= .cons (fun _=>rfl) tQ (.nil)) (he:=AJ0 Aa)
abbrev dc:Bn:=nY
abbrev oM:Bn:=cn
def AIN:SQ:=mk Tryz.func393 dc oM Is [Ys,mY] [] [⟨3,⟨[(2,ML),(5,tB),(6,Bm)],AC6⟩,JG⟩]
abbrev mq:Bn:=au
abbrev AB0:Bn:=AA1
def lK:O2:=⟨mq,AB0,(mq.un IE)⟩
def AFH:Xj:=⟨T,T5 (SP.l [ZR,dw,lE,ACg,ADE,ACH,AD4,ABm,AIN,xe]),C0 [(6,[1,2,3,4,5,6,7,8,9]),(11,[0,1,2,3,4,5,6,7,8,9]),(17,[1,2,3,4,5,6,7,8,9])]⟩
def iz:List (Lp AB0):=[⟨4,⟨[(0,ML),(3,SE),(4,xP9),(5,.c (.ptr 6 0)),(6,Bm),(7,Bm)],AAc⟩,BL⟩,⟨15,⟨[(0,ML),(3,SE),(4,xP9),(5,.c (.ptr 6 0)),(12,Bm)],AAc⟩,Ar⟩]
abbrev Us:Bn:=⟨[(0,ML),(3,SE),(4,xP9),(5,.c (.ptr 6 0)),(6,Bm),(7,Bm)],AAc⟩
abbrev Qc:Bn:=⟨[(0,ML),(3,SE),(4,xP9),(5,.c (.ptr 6 0)),(12,Bm)],AAc⟩
def G2(ω:List Bool):Prop:= ∀(ZS:Int→List Int→Int→Int→Option FJ) (Zk:Int→List Int→Int→Int→Option JK) (Zw:Int→Int→Option Kw) (Zr:List Int→Int→Int→Option Bg) (ba:Int→Int→Option IP) (ZY:AAw→AA2→Int→AAh→Option Dp) (Z4:ABG→Int→Option Dm) (Z7:AAw→AA2→List Int→Option Dj) (Z2:AAw→AA2→Option EV) (NZ:AAw→AA2→Int→Int→Option CU) (n:Nat) (v:Us.V),GH ⟨T,T5 [(62,⟨lu,o62,lu.un ZS⟩),(171,⟨i171,od,i171.un Zk⟩),(330,⟨dd,oG,dd.un Zw⟩),(331,⟨eV,pZ,eV.un Zr⟩),(354,⟨eM,oD,eM.un ba⟩),(356,⟨cw,oP,cw.un ZY⟩),(357,⟨di,oU,di.un Z4⟩),(358,⟨cf,oF,cf.un Z7⟩),(393,⟨dc,oM,dc.un Z2⟩),(394,⟨PZ,Zs,PZ.un NZ⟩)],C0 [(6,[1,2,3,4,5,6,7,8,9]),(11,[0,1,2,3,4,5,6,7,8,9]),(17,[1,2,3,4,5,6,7,8,9])]⟩ lK Tryz.f336 (Nj 1 iz n) 4 ω (Us.st 85 v)=Us.un (fun(t6:Int) (t7:Int) (AH:AAg) (AJ:Int) (AR:Int) (A7:AAg) (Aq:Int) (Iy:Int) (JX:Int) (MZ:Bool) (b3:AAg) (b4:AAh) (b5:List AAg) (JZ:Int) (Ig:Int) (Ja:Bool) (b7:AAg) (b8:AAh) (b9:List AAg)=>
 cond (decide (t7<t6))
  ((ZS (A7.length:Int) AH AJ AR).bind fun u4=>
  (Zr u4.2.1.1 u4.2.1.2.1 u4.2.1.2.2.1).bind fun u5=>
  (Z4 (u5.2.2.1,u5.2.2.2.1,u5.1.1.2.2.1,()) Ig).bind fun u6=>
  (ZY (A7,Aq,()) (JZ,Ig,b7,b8,Ja,b9,()) u4.1.1 u6.2.1).bind fun u7=>
  cond (u7.1.1.2.1)
   ((BL n) t6 (AX (t7+1)) u5.2.1.1 u5.2.1.2.1 u5.2.1.2.2.1 A7 Aq Iy JX MZ b3 b4 b5 u7.1.1.1.1 u7.1.1.1.2.1 u7.1.1.1.2.2.2.2.1 u7.2.1 u7.2.2.1 u7.2.2.2.1)
  ((BL n) t6 (AX (t7+1)) u5.2.1.1 u5.2.1.2.1 u5.2.1.2.2.1 A7 Aq Iy JX MZ b3 b4 b5 JZ Ig Ja b7 b8 b9))
 ((Zk 3 AH AJ AR).bind fun Ru=>
 cond (Ru.1.1)
  (some (((JZ,Ig,(),(),Ja,(),()),()),((Ru.2.1.1,Ru.2.1.2.1,Ru.2.1.2.2.1,()),b7,b8,b9,())))
 ((Z2 (A7,Aq,()) (JZ,Ig,b7,b8,Ja,b9,())).bind fun X1=>
 (Z7 (A7,Aq,()) (JZ,Ig,b7,b8,Ja,b9,()) X1.2.1).bind fun Ot=>
 cond (Ot.1.1.2.1)
  ((Ar n) 0 Ru.2.1.1 Ru.2.1.2.1 Ru.2.1.2.2.1 A7 Aq Iy JX MZ b3 b4 b5 Ot.1.1.1.1 Ot.1.1.1.2.1 Ot.1.1.1.2.2.2.2.1 Ot.2.1 Ot.2.2.1 Ot.2.2.2.1)
 ((Ar n) 0 Ru.2.1.1 Ru.2.1.2.1 Ru.2.1.2.2.1 A7 Aq Iy JX MZ b3 b4 b5 JZ Ig Ja b7 b8 b9)))) v
theorem sF:G2 []:=by delta G2;intros;kernel_rfl
theorem qY(ω:List Bool):G2 (false::ω):=by delta G2;intros;kernel_rfl
theorem rb:G2 (true::[]):=by delta G2;intros;kernel_rfl
theorem rv(ω:List Bool):G2 (true::false::ω):=by delta G2;intros;kernel_rfl
theorem rO:G2 (true::true::[]):=by delta G2;intros;kernel_rfl
theorem qd(ω:List Bool):G2 (true::true::false::ω):=by delta G2;intros;kernel_rfl
theorem rR:G2 (true::true::true::[]):=by delta G2;intros;kernel_rfl
theorem sG(ω:List Bool):G2 (true::true::true::false::ω):=by delta G2;intros;kernel_rfl
theorem q6(ω:List Bool):G2 (true::true::true::true::ω):=by delta G2;intros;kernel_rfl
theorem ABg(ZS:Int→List Int→Int→Int→Option FJ)(Zk:Int→List Int→Int→Int→Option JK)(Zw:Int→Int→Option Kw)(Zr:List Int→Int→Int→Option Bg)(ba:Int→Int→Option IP)(ZY:AAw→AA2→Int→AAh→Option Dp)(Z4:ABG→Int→Option Dm)(Z7:AAw→AA2→List Int→Option Dj)(Z2:AAw→AA2→Option EV)(NZ:AAw→AA2→Int→Int→Option CU)(n:Nat)(v:Us.V)(ω:List Bool):GH ⟨T,T5 [(62,⟨lu,o62,lu.un ZS⟩),(171,⟨i171,od,i171.un Zk⟩),(330,⟨dd,oG,dd.un Zw⟩),(331,⟨eV,pZ,eV.un Zr⟩),(354,⟨eM,oD,eM.un ba⟩),(356,⟨cw,oP,cw.un ZY⟩),(357,⟨di,oU,di.un Z4⟩),(358,⟨cf,oF,cf.un Z7⟩),(393,⟨dc,oM,dc.un Z2⟩),(394,⟨PZ,Zs,PZ.un NZ⟩)],C0 [(6,[1,2,3,4,5,6,7,8,9]),(11,[0,1,2,3,4,5,6,7,8,9]),(17,[1,2,3,4,5,6,7,8,9])]⟩ lK Tryz.f336 (Nj 1 iz n) 4 ω (Us.st 85 v)=Us.un (fun(t6:Int) (t7:Int) (AH:AAg) (AJ:Int) (AR:Int) (A7:AAg) (Aq:Int) (Iy:Int) (JX:Int) (MZ:Bool) (b3:AAg) (b4:AAh) (b5:List AAg) (JZ:Int) (Ig:Int) (Ja:Bool) (b7:AAg) (b8:AAh) (b9:List AAg)=>
 cond (decide (t7<t6))
  ((ZS (A7.length:Int) AH AJ AR).bind fun u4=>
  (Zr u4.2.1.1 u4.2.1.2.1 u4.2.1.2.2.1).bind fun u5=>
  (Z4 (u5.2.2.1,u5.2.2.2.1,u5.1.1.2.2.1,()) Ig).bind fun u6=>
  (ZY (A7,Aq,()) (JZ,Ig,b7,b8,Ja,b9,()) u4.1.1 u6.2.1).bind fun u7=>
  cond (u7.1.1.2.1)
   ((BL n) t6 (AX (t7+1)) u5.2.1.1 u5.2.1.2.1 u5.2.1.2.2.1 A7 Aq Iy JX MZ b3 b4 b5 u7.1.1.1.1 u7.1.1.1.2.1 u7.1.1.1.2.2.2.2.1 u7.2.1 u7.2.2.1 u7.2.2.2.1)
  ((BL n) t6 (AX (t7+1)) u5.2.1.1 u5.2.1.2.1 u5.2.1.2.2.1 A7 Aq Iy JX MZ b3 b4 b5 JZ Ig Ja b7 b8 b9))
 ((Zk 3 AH AJ AR).bind fun Ru=>
 cond (Ru.1.1)
  (some (((JZ,Ig,(),(),Ja,(),()),()),((Ru.2.1.1,Ru.2.1.2.1,Ru.2.1.2.2.1,()),b7,b8,b9,())))
 ((Z2 (A7,Aq,()) (JZ,Ig,b7,b8,Ja,b9,())).bind fun X1=>
 (Z7 (A7,Aq,()) (JZ,Ig,b7,b8,Ja,b9,()) X1.2.1).bind fun Ot=>
 cond (Ot.1.1.2.1)
  ((Ar n) 0 Ru.2.1.1 Ru.2.1.2.1 Ru.2.1.2.2.1 A7 Aq Iy JX MZ b3 b4 b5 Ot.1.1.1.1 Ot.1.1.1.2.1 Ot.1.1.1.2.2.2.2.1 Ot.2.1 Ot.2.2.1 Ot.2.2.2.1)
 ((Ar n) 0 Ru.2.1.1 Ru.2.1.2.1 Ru.2.1.2.2.1 A7 Aq Iy JX MZ b3 b4 b5 JZ Ig Ja b7 b8 b9)))) v:=(AD sF qY (AD rb rv (AD rO qd (AD rR sG q6)))) ω ZS Zk Zw Zr ba ZY Z4 Z7 Z2 NZ n v
theorem AFU(n:Nat)(v:Us.V)(ω:List Bool):GH AFH lK Tryz.f336 (Nj 1 iz n) 4 ω (Us.st 85 v)=Us.un (Ip (BL n) (Ar n)) v:=ABg AF Aj DR D4 I2 GI GD GK Is Ct n v ω
def En(ω:List Bool):Prop:= ∀(ZS:Int→List Int→Int→Int→Option FJ) (Zk:Int→List Int→Int→Int→Option JK) (Zw:Int→Int→Option Kw) (Zr:List Int→Int→Int→Option Bg) (ba:Int→Int→Option IP) (ZY:AAw→AA2→Int→AAh→Option Dp) (Z4:ABG→Int→Option Dm) (Z7:AAw→AA2→List Int→Option Dj) (Z2:AAw→AA2→Option EV) (NZ:AAw→AA2→Int→Int→Option CU) (n:Nat) (v:Qc.V),GH ⟨T,T5 [(62,⟨lu,o62,lu.un ZS⟩),(171,⟨i171,od,i171.un Zk⟩),(330,⟨dd,oG,dd.un Zw⟩),(331,⟨eV,pZ,eV.un Zr⟩),(354,⟨eM,oD,eM.un ba⟩),(356,⟨cw,oP,cw.un ZY⟩),(357,⟨di,oU,di.un Z4⟩),(358,⟨cf,oF,cf.un Z7⟩),(393,⟨dc,oM,dc.un Z2⟩),(394,⟨PZ,Zs,PZ.un NZ⟩)],C0 [(6,[1,2,3,4,5,6,7,8,9]),(11,[0,1,2,3,4,5,6,7,8,9]),(17,[1,2,3,4,5,6,7,8,9])]⟩ lK Tryz.f336 (Nj 1 iz n) 15 ω (Qc.st 85 v)=Qc.un (fun(t12:Int) (AH:AAg) (AJ:Int) (AR:Int) (A7:AAg) (Aq:Int) (Iy:Int) (JX:Int) (MZ:Bool) (b3:AAg) (b4:AAh) (b5:List AAg) (JZ:Int) (Ig:Int) (Ja:Bool) (b7:AAg) (b8:AAh) (b9:List AAg)=>
 (ZS 9 AH AJ AR).bind fun I_=>
 cond ((decide (t12<I_.1.1)))
  ((Zw (b9.length:Int) 1).bind fun YI=>
  (ZS YI.1.1 I_.2.1.1 I_.2.1.2.1 I_.2.1.2.2.1).bind fun Yx=>
  (ZS (A7.length:Int) Yx.2.1.1 Yx.2.1.2.1 Yx.2.1.2.2.1).bind fun OH=>
  (NZ (A7,Aq,()) (JZ,Ig,b7,b8,Ja,b9,()) (AX (1+Yx.1.1)) OH.1.1).bind fun V6=>
  cond (V6.1.1.2.1)
   ((Ar n) (AX (t12+1)) OH.2.1.1 OH.2.1.2.1 OH.2.1.2.2.1 A7 Aq Iy JX MZ b3 b4 b5 V6.1.1.1.1 V6.1.1.1.2.1 V6.1.1.1.2.2.2.2.1 V6.2.1 V6.2.2.1 V6.2.2.2.1)
  ((Ar n) (AX (t12+1)) OH.2.1.1 OH.2.1.2.1 OH.2.1.2.2.1 A7 Aq Iy JX MZ b3 b4 b5 JZ Ig Ja b7 b8 b9))
 (some (((JZ,Ig,(),(),Ja,(),()),()),((I_.2.1.1,I_.2.1.2.1,I_.2.1.2.2.1,()),b7,b8,b9,())))) v
theorem pD:En []:=by delta En;intros;kernel_rfl
theorem pg(ω:List Bool):En (false::ω):=by delta En;intros;kernel_rfl
theorem oR:En (true::[]):=by delta En;intros;kernel_rfl
theorem oK(ω:List Bool):En (true::false::ω):=by delta En;intros;kernel_rfl
theorem pJ:En (true::true::[]):=by delta En;intros;kernel_rfl
theorem oW(ω:List Bool):En (true::true::false::ω):=by delta En;intros;kernel_rfl
theorem pN:En (true::true::true::[]):=by delta En;intros;kernel_rfl
theorem ph(ω:List Bool):En (true::true::true::false::ω):=by delta En;intros;kernel_rfl
theorem pd(ω:List Bool):En (true::true::true::true::ω):=by delta En;intros;kernel_rfl
theorem uH(ZS:Int→List Int→Int→Int→Option FJ)(Zk:Int→List Int→Int→Int→Option JK)(Zw:Int→Int→Option Kw)(Zr:List Int→Int→Int→Option Bg)(ba:Int→Int→Option IP)(ZY:AAw→AA2→Int→AAh→Option Dp)(Z4:ABG→Int→Option Dm)(Z7:AAw→AA2→List Int→Option Dj)(Z2:AAw→AA2→Option EV)(NZ:AAw→AA2→Int→Int→Option CU)(n:Nat)(v:Qc.V)(ω:List Bool):GH ⟨T,T5 [(62,⟨lu,o62,lu.un ZS⟩),(171,⟨i171,od,i171.un Zk⟩),(330,⟨dd,oG,dd.un Zw⟩),(331,⟨eV,pZ,eV.un Zr⟩),(354,⟨eM,oD,eM.un ba⟩),(356,⟨cw,oP,cw.un ZY⟩),(357,⟨di,oU,di.un Z4⟩),(358,⟨cf,oF,cf.un Z7⟩),(393,⟨dc,oM,dc.un Z2⟩),(394,⟨PZ,Zs,PZ.un NZ⟩)],C0 [(6,[1,2,3,4,5,6,7,8,9]),(11,[0,1,2,3,4,5,6,7,8,9]),(17,[1,2,3,4,5,6,7,8,9])]⟩ lK Tryz.f336 (Nj 1 iz n) 15 ω (Qc.st 85 v)=Qc.un (fun(t12:Int) (AH:AAg) (AJ:Int) (AR:Int) (A7:AAg) (Aq:Int) (Iy:Int) (JX:Int) (MZ:Bool) (b3:AAg) (b4:AAh) (b5:List AAg) (JZ:Int) (Ig:Int) (Ja:Bool) (b7:AAg) (b8:AAh) (b9:List AAg)=>
 (ZS 9 AH AJ AR).bind fun I_=>
 cond ((decide (t12<I_.1.1)))
  ((Zw (b9.length:Int) 1).bind fun YI=>
  (ZS YI.1.1 I_.2.1.1 I_.2.1.2.1 I_.2.1.2.2.1).bind fun Yx=>
  (ZS (A7.length:Int) Yx.2.1.1 Yx.2.1.2.1 Yx.2.1.2.2.1).bind fun OH=>
  (NZ (A7,Aq,()) (JZ,Ig,b7,b8,Ja,b9,()) (AX (1+Yx.1.1)) OH.1.1).bind fun V6=>
  cond (V6.1.1.2.1)
   ((Ar n) (AX (t12+1)) OH.2.1.1 OH.2.1.2.1 OH.2.1.2.2.1 A7 Aq Iy JX MZ b3 b4 b5 V6.1.1.1.1 V6.1.1.1.2.1 V6.1.1.1.2.2.2.2.1 V6.2.1 V6.2.2.1 V6.2.2.2.1)
  ((Ar n) (AX (t12+1)) OH.2.1.1 OH.2.1.2.1 OH.2.1.2.2.1 A7 Aq Iy JX MZ b3 b4 b5 JZ Ig Ja b7 b8 b9))
 (some (((JZ,Ig,(),(),Ja,(),()),()),((I_.2.1.1,I_.2.1.2.1,I_.2.1.2.2.1,()),b7,b8,b9,())))) v:=(AD pD pg (AD oR oK (AD pJ oW (AD pN ph pd)))) ω ZS Zk Zw Zr ba ZY Z4 Z7 Z2 NZ n v
theorem zm(n:Nat)(v:Qc.V)(ω:List Bool):GH AFH lK Tryz.f336 (Nj 1 iz n) 15 ω (Qc.st 85 v)=Qc.un (IY (BL n) (Ar n)) v:=uH AF Aj DR D4 I2 GI GD GK Is Ct n v ω
theorem AKt(ZS:Int→List Int→Int→Int→Option FJ)(Zk:Int→List Int→Int→Int→Option JK)(Zw:Int→Int→Option Kw)(Zr:List Int→Int→Int→Option Bg)(ba:Int→Int→Option IP)(ZY:AAw→AA2→Int→AAh→Option Dp)(Z4:ABG→Int→Option Dm)(Z7:AAw→AA2→List Int→Option Dj)(Z2:AAw→AA2→Option EV)(NZ:AAw→AA2→Int→Int→Option CU)(n:Nat)(ω:List Bool)(v:mq.V):FW ⟨T,T5 [(62,⟨lu,o62,lu.un ZS⟩),(171,⟨i171,od,i171.un Zk⟩),(330,⟨dd,oG,dd.un Zw⟩),(331,⟨eV,pZ,eV.un Zr⟩),(354,⟨eM,oD,eM.un ba⟩),(356,⟨cw,oP,cw.un ZY⟩),(357,⟨di,oU,di.un Z4⟩),(358,⟨cf,oF,cf.un Z7⟩),(393,⟨dc,oM,dc.un Z2⟩),(394,⟨PZ,Zs,PZ.un NZ⟩)],C0 [(6,[1,2,3,4,5,6,7,8,9]),(11,[0,1,2,3,4,5,6,7,8,9]),(17,[1,2,3,4,5,6,7,8,9])]⟩ lK Tryz.f336 (Nj 1 iz n) ω v=mq.un (fun(p1:AAw) (AH:AAg) (AJ:Int) (AR:Int)=>
 (ZS 2 AH AJ AR).bind fun u1=>
 (ba (AX (1+u1.1.1)) 4).bind fun u2=>
 (ZS 5 u1.2.1.1 u1.2.1.2.1 u1.2.1.2.2.1).bind fun u3=>
 (BL n) u3.1.1 0 u3.2.1.1 u3.2.1.2.1 u3.2.1.2.2.1 p1.1 p1.2.1 0 0 false [] [] [] u2.1.1.1 u2.1.1.2.1 u2.1.1.2.2.2.2.1 u2.2.1 u2.2.2.1 u2.2.2.2.1) v:=by kernel_rfl
theorem AJ8(n:Nat)(ω:List Bool)(v:mq.V):FW AFH lK Tryz.f336 (Nj 1 iz n) ω v=mq.un (I6 (BL n) (Ar n)) v:=AKt AF Aj DR D4 I2 GI GD GK Is Ct n ω v
def ALC:SQ:=mk Tryz.func336 mq AB0 IE [ZR,dw,lE,ACg,ADE,ACH,AD4,ABm,AIN,xe] [(6,[1,2,3,4,5,6,7,8,9]),(11,[0,1,2,3,4,5,6,7,8,9]),(17,[1,2,3,4,5,6,7,8,9])] iz (hJ:= .cons (fun _=>rfl) AFU (.cons (fun _=>rfl) zm (.nil))) (he:=AJ8 Aa)
abbrev sM:Bn:=au
abbrev ACr:Bn:=AA1
def AGu:SQ:=mk Tryz.func261 sM ACr Ox [ZR,gE,rH,AGb,ALC] [(8,[1,2,4,5]),(10,[1,2,4,6])] [] (he:=fun ω v=>by rcases ω with _|⟨_|_,_|⟨_|_,_⟩⟩<;>kernel_rfl)
abbrev qa:Bn:=fb
abbrev ACA:Bn:=⟨[(0,.agg [.v tI,.v tI,.ref 1])],[QU,.sl 9 Y8]⟩
def AIC:SQ:=mk Tryz.func262 qa ACA Ga [ZR,gE,o7] [(5,[1,2])] [⟨3,⟨[(0,ML),(2,SE),(3,xP4),(4,Bm)],[QU,.mem [.v tI,.v tI,.ref 2],.sl 9 Y8,.mem [.v tI,.v tI,.ref 4],.sl 9 Y8]⟩,El⟩] (hJ:= .cons (fun _=>rfl) (fun n v ω=>by rcases ω with _|⟨_|_,_|⟨_|_,_|⟨_|_,_⟩⟩⟩<;>kernel_rfl) (.nil))
abbrev i45:Bn:=fb
abbrev o45:Bn:=AAk
def s45:SQ:=mk Tryz.func45 i45 o45 MT [ZR,AID,gE] [(6,[1,4])] []
abbrev iI:Bn:=⟨[(0,ML),(1,.c (.sl false tU))],b_⟩
abbrev ACb:Bn:=⟨[(0,.agg [.ref 1,.v tI,.ref 2,.ref 3,.ref 4,.v tI,.ref 5,.ref 6,.ref 7,.ref 8,.v .bool])],[QU,Ec,Um,Ec,.sl 1 Y3,Vg,eE,Pm,OT]⟩
def AFc:O2:=⟨iI,ACb,(iI.un Fc)⟩
def AKx:Xj:=⟨T,T5 (SP.l [s45,ZR,o7,AHc,AGU,rH,AHV,AGo,AHf,AGu,AIC]),C0 [(6,[1,11,12,14,15,16,17,18,19,20,21]),(10,[1,11,12,13,14,15,17,18,19,20]),(12,[1,11,12,13,14,15,16,18,19,20]),(14,[1,11,12,13,14,15,16,17,19,20,21]),(16,[1,11,12,13,14,15,16,17,18,20])]⟩
def uw:List (Lp ACb):=[]
def Sw(ω:List Bool):Prop:= ∀(g45:List Int→Int→Int→Option S4) (ZS:Int→List Int→Int→Int→Option FJ) (om:List Int→Int→Int→Option Lx) (pv:Int→List Int→Int→Int→Option CE) (pA:List Int→Int→Int→Option S_) (oy:AAw→List Int→Int→Int→Option Et) (pC:List Int→Int→Int→Option JL) (qE:AAw→List Int→Int→Int→Option JN) (pr:AAw→List Int→Int→Int→Option JR) (p9:AAw→List Int→Int→Int→Option TC) (pE:List Int→Int→Int→Option D7) (n:Nat) (v:iI.V),FW ⟨T,T5 [(45,⟨i45,o45,i45.un g45⟩),(62,⟨lu,o62,lu.un ZS⟩),(172,⟨sb,AD9,sb.un om⟩),(255,⟨qk,ACZ,qk.un pv⟩),(256,⟨sH,ADe,sH.un pA⟩),(257,⟨sj,AEX,sj.un oy⟩),(258,⟨rh,ACU,rh.un pC⟩),(259,⟨sU,AEA,sU.un qE⟩),(260,⟨dP,sZ,dP.un pr⟩),(261,⟨sM,ACr,sM.un p9⟩),(262,⟨qa,ACA,qa.un pE⟩)],C0 [(6,[1,11,12,14,15,16,17,18,19,20,21]),(10,[1,11,12,13,14,15,17,18,19,20]),(12,[1,11,12,13,14,15,16,18,19,20]),(14,[1,11,12,13,14,15,16,17,19,20,21]),(16,[1,11,12,13,14,15,16,17,18,20])]⟩ AFc Tryz.f158 (Nj 1 uw n) ω v=iI.un (fun(p1:AAg) (AH:AAg) (AJ:Int) (AR:Int)=>
 (pA p1 40 90).bind fun u1=>
 (pv u1.1.1 AH AJ AR).bind fun u2=>
 let x4:AAg:=u2.2.2.2.2.2.2.2.2.2.2.2.1
 let x5:AAj:=u2.2.2.2.2.2.2.2.2.2.2.2.2.1
 let x6:AAg:=u2.2.2.2.2.2.2.2.2.2.2.2.2.2.1
 let x7:AAi:=u2.2.2.2.2.2.2.2.2.2.2.2.2.2.2.1
 let x8:AAn:=u2.2.2.2.2.2.2.2.2.2.2.2.2.2.2.2.1
 let x9:AAt:=u2.2.2.2.2.2.2.2.2.2.2.2.2.2.2.2.2.1
 let x10:AAv:=u2.2.2.2.2.2.2.2.2.2.2.2.2.2.2.2.2.2.1
 let VQ:AAm:=u2.2.2.2.2.2.2.2.2.2.2.2.2.2.2.2.2.2.2.1
 (ZS 40 u2.2.1.1 u2.2.1.2.1 u2.2.1.2.2.1).bind fun Cj=>
 cond (Cj.1.1==0)
  ((oy (x4,u2.1.1.2.2.1.2.1,()) Cj.2.1.1 Cj.2.1.2.1 Cj.2.1.2.2.1).bind fun Th=>
  some ((((),u2.1.1.2.2.1.2.1,(),(),(),u2.1.1.2.2.1.2.2.2.2.2.1,(),(),(),(),u2.1.1.2.2.1.2.2.2.2.2.2.2.2.2.2.1,()),()),((Th.2.1.1,Th.2.1.2.1,Th.2.1.2.2.1,()),x4,x5,Th.2.2.1,x7,x8,x9,x10,VQ,())))
 (cond (Cj.1.1==1)
  ((pC Cj.2.1.1 Cj.2.1.2.1 Cj.2.1.2.2.1).bind fun Jw=>
  if(0:Int)≤(0:Int)∧(0:Int)<(x5.length:Int)then(
  some ((((),u2.1.1.2.2.1.2.1,(),(),(),u2.1.1.2.2.1.2.2.2.2.2.1,(),(),(),(),u2.1.1.2.2.1.2.2.2.2.2.2.2.2.2.2.1,()),()),((Jw.2.1.1,Jw.2.1.2.1,Jw.2.1.2.2.1,()),x4,(x5.set 0 (Jw.2.2.1,Jw.2.2.2.1,Jw.1.1.2.2.1,())),x6,x7,x8,x9,x10,VQ,())))else none)
 (cond (Cj.1.1==2)
  ((qE (x4,u2.1.1.2.2.1.2.1,()) Cj.2.1.1 Cj.2.1.2.1 Cj.2.1.2.2.1).bind fun u16=>
  some ((((),u2.1.1.2.2.1.2.1,(),(),(),u16.1.1.2.1,(),(),(),(),u2.1.1.2.2.1.2.2.2.2.2.2.2.2.2.2.1,()),()),((u16.2.1.1,u16.2.1.2.1,u16.2.1.2.2.1,()),x4,x5,x6,u16.2.2.1,x8,x9,x10,VQ,())))
 (cond (Cj.1.1==3)
  ((pr (x4,u2.1.1.2.2.1.2.1,()) Cj.2.1.1 Cj.2.1.2.1 Cj.2.1.2.2.1).bind fun UM=>
  if x8.length+1≤Go.M.DH then(
  some ((((),u2.1.1.2.2.1.2.1,(),(),(),u2.1.1.2.2.1.2.2.2.2.2.1,(),(),(),(),u2.1.1.2.2.1.2.2.2.2.2.2.2.2.2.2.1,()),()),((UM.2.1.1,UM.2.1.2.1,UM.2.1.2.2.1,()),x4,x5,x6,x7,(x8++[(UM.1.1.1,UM.2.2.1,())]),x9,x10,VQ,())))else none)
 (cond (Cj.1.1==4)
  ((p9 (x4,u2.1.1.2.2.1.2.1,()) Cj.2.1.1 Cj.2.1.2.1 Cj.2.1.2.2.1).bind fun I_=>
  if x9.length+1≤Go.M.DH then(
  some ((((),u2.1.1.2.2.1.2.1,(),(),(),u2.1.1.2.2.1.2.2.2.2.2.1,(),(),(),(),u2.1.1.2.2.1.2.2.2.2.2.2.2.2.2.2.1,()),()),((I_.2.1.1,I_.2.1.2.1,I_.2.1.2.2.1,()),x4,x5,x6,x7,x8,(x9++[(I_.1.1.1,I_.1.1.2.1,I_.2.2.1,I_.2.2.2.1,I_.1.1.2.2.2.2.1,I_.2.2.2.2.1,())]),x10,VQ,())))else none)
 (cond (Cj.1.1==5)
  ((pE Cj.2.1.1 Cj.2.1.2.1 Cj.2.1.2.2.1).bind fun bU=>
  if(0:Int)≤(0:Int)∧(0:Int)<(x10.length:Int)then(
  some ((((),u2.1.1.2.2.1.2.1,(),(),(),u2.1.1.2.2.1.2.2.2.2.2.1,(),(),(),(),u2.1.1.2.2.1.2.2.2.2.2.2.2.2.2.2.1,()),()),((bU.2.1.1,bU.2.1.2.1,bU.2.1.2.2.1,()),x4,x5,x6,x7,x8,x9,(x10.set 0 (bU.1.1.1,bU.1.1.2.1,bU.2.2.1,())),VQ,())))else none)
 (cond (Cj.1.1==6)
  ((om Cj.2.1.1 Cj.2.1.2.1 Cj.2.1.2.2.1).bind fun U5=>
  if VQ.length+1≤Go.M.DH then(
  some ((((),u2.1.1.2.2.1.2.1,(),(),(),u2.1.1.2.2.1.2.2.2.2.2.1,(),(),(),(),u2.1.1.2.2.1.2.2.2.2.2.2.2.2.2.2.1,()),()),((U5.2.1.1,U5.2.1.2.1,U5.2.1.2.2.1,()),x4,x5,x6,x7,x8,x9,x10,(VQ++[(U5.1.1,[],false,())]),())))else none)
 (cond (Cj.1.1==7)
  (some ((((),u2.1.1.2.2.1.2.1,(),(),(),u2.1.1.2.2.1.2.2.2.2.2.1,(),(),(),(),!u2.1.1.2.2.1.2.2.2.2.2.2.2.2.2.2.1,()),()),((Cj.2.1.1,Cj.2.1.2.1,Cj.2.1.2.2.1,()),x4,x5,x6,x7,x8,x9,x10,VQ,())))
 (cond (Cj.1.1==8)
  ((g45 Cj.2.1.1 Cj.2.1.2.1 Cj.2.1.2.2.1).bind fun ae=>
  some ((((),ae.1.1.2.1,(),(),(),u2.1.1.2.2.1.2.2.2.2.2.1,(),(),(),(),u2.1.1.2.2.1.2.2.2.2.2.2.2.2.2.2.1,()),()),((ae.2.1.1,ae.2.1.2.1,ae.2.1.2.2.1,()),ae.2.2.1,x5,x6,x7,x8,x9,x10,VQ,())))
 (some ((((),u2.1.1.2.2.1.2.1,(),(),(),u2.1.1.2.2.1.2.2.2.2.2.1,(),(),(),(),u2.1.1.2.2.1.2.2.2.2.2.2.2.2.2.2.1,()),()),((Cj.2.1.1,Cj.2.1.2.1,Cj.2.1.2.2.1,()),x4,x5,x6,x7,x8,x9,x10,VQ,())))))))))))) v
theorem ADL:Sw []:=by delta Sw;intros;kernel_rfl
theorem AEO:Sw (false::[]):=by delta Sw;intros;kernel_rfl
theorem AFS:Sw (false::false::[]):=by delta Sw;intros;kernel_rfl
theorem ABf(ω:List Bool):Sw (false::false::false::ω):=by delta Sw;intros;kernel_rfl
theorem ABj(ω:List Bool):Sw (false::false::true::ω):=by delta Sw;intros;kernel_rfl
theorem AEL(ω:List Bool):Sw (false::true::ω):=by delta Sw;intros;kernel_rfl
theorem AC8(ω:List Bool):Sw (true::ω):=by delta Sw;intros;kernel_rfl
theorem AKh(g45:List Int→Int→Int→Option S4)(ZS:Int→List Int→Int→Int→Option FJ)(om:List Int→Int→Int→Option Lx)(pv:Int→List Int→Int→Int→Option CE)(pA:List Int→Int→Int→Option S_)(oy:AAw→List Int→Int→Int→Option Et)(pC:List Int→Int→Int→Option JL)(qE:AAw→List Int→Int→Int→Option JN)(pr:AAw→List Int→Int→Int→Option JR)(p9:AAw→List Int→Int→Int→Option TC)(pE:List Int→Int→Int→Option D7)(n:Nat)(ω:List Bool)(v:iI.V):FW ⟨T,T5 [(45,⟨i45,o45,i45.un g45⟩),(62,⟨lu,o62,lu.un ZS⟩),(172,⟨sb,AD9,sb.un om⟩),(255,⟨qk,ACZ,qk.un pv⟩),(256,⟨sH,ADe,sH.un pA⟩),(257,⟨sj,AEX,sj.un oy⟩),(258,⟨rh,ACU,rh.un pC⟩),(259,⟨sU,AEA,sU.un qE⟩),(260,⟨dP,sZ,dP.un pr⟩),(261,⟨sM,ACr,sM.un p9⟩),(262,⟨qa,ACA,qa.un pE⟩)],C0 [(6,[1,11,12,14,15,16,17,18,19,20,21]),(10,[1,11,12,13,14,15,17,18,19,20]),(12,[1,11,12,13,14,15,16,18,19,20]),(14,[1,11,12,13,14,15,16,17,19,20,21]),(16,[1,11,12,13,14,15,16,17,18,20])]⟩ AFc Tryz.f158 (Nj 1 uw n) ω v=iI.un (fun(p1:AAg) (AH:AAg) (AJ:Int) (AR:Int)=>
 (pA p1 40 90).bind fun u1=>
 (pv u1.1.1 AH AJ AR).bind fun u2=>
 let x4:AAg:=u2.2.2.2.2.2.2.2.2.2.2.2.1
 let x5:AAj:=u2.2.2.2.2.2.2.2.2.2.2.2.2.1
 let x6:AAg:=u2.2.2.2.2.2.2.2.2.2.2.2.2.2.1
 let x7:AAi:=u2.2.2.2.2.2.2.2.2.2.2.2.2.2.2.1
 let x8:AAn:=u2.2.2.2.2.2.2.2.2.2.2.2.2.2.2.2.1
 let x9:AAt:=u2.2.2.2.2.2.2.2.2.2.2.2.2.2.2.2.2.1
 let x10:AAv:=u2.2.2.2.2.2.2.2.2.2.2.2.2.2.2.2.2.2.1
 let VQ:AAm:=u2.2.2.2.2.2.2.2.2.2.2.2.2.2.2.2.2.2.2.1
 (ZS 40 u2.2.1.1 u2.2.1.2.1 u2.2.1.2.2.1).bind fun Cj=>
 cond (Cj.1.1==0)
  ((oy (x4,u2.1.1.2.2.1.2.1,()) Cj.2.1.1 Cj.2.1.2.1 Cj.2.1.2.2.1).bind fun Th=>
  some ((((),u2.1.1.2.2.1.2.1,(),(),(),u2.1.1.2.2.1.2.2.2.2.2.1,(),(),(),(),u2.1.1.2.2.1.2.2.2.2.2.2.2.2.2.2.1,()),()),((Th.2.1.1,Th.2.1.2.1,Th.2.1.2.2.1,()),x4,x5,Th.2.2.1,x7,x8,x9,x10,VQ,())))
 (cond (Cj.1.1==1)
  ((pC Cj.2.1.1 Cj.2.1.2.1 Cj.2.1.2.2.1).bind fun Jw=>
  if(0:Int)≤(0:Int)∧(0:Int)<(x5.length:Int)then(
  some ((((),u2.1.1.2.2.1.2.1,(),(),(),u2.1.1.2.2.1.2.2.2.2.2.1,(),(),(),(),u2.1.1.2.2.1.2.2.2.2.2.2.2.2.2.2.1,()),()),((Jw.2.1.1,Jw.2.1.2.1,Jw.2.1.2.2.1,()),x4,(x5.set 0 (Jw.2.2.1,Jw.2.2.2.1,Jw.1.1.2.2.1,())),x6,x7,x8,x9,x10,VQ,())))else none)
 (cond (Cj.1.1==2)
  ((qE (x4,u2.1.1.2.2.1.2.1,()) Cj.2.1.1 Cj.2.1.2.1 Cj.2.1.2.2.1).bind fun u16=>
  some ((((),u2.1.1.2.2.1.2.1,(),(),(),u16.1.1.2.1,(),(),(),(),u2.1.1.2.2.1.2.2.2.2.2.2.2.2.2.2.1,()),()),((u16.2.1.1,u16.2.1.2.1,u16.2.1.2.2.1,()),x4,x5,x6,u16.2.2.1,x8,x9,x10,VQ,())))
 (cond (Cj.1.1==3)
  ((pr (x4,u2.1.1.2.2.1.2.1,()) Cj.2.1.1 Cj.2.1.2.1 Cj.2.1.2.2.1).bind fun UM=>
  if x8.length+1≤Go.M.DH then(
  some ((((),u2.1.1.2.2.1.2.1,(),(),(),u2.1.1.2.2.1.2.2.2.2.2.1,(),(),(),(),u2.1.1.2.2.1.2.2.2.2.2.2.2.2.2.2.1,()),()),((UM.2.1.1,UM.2.1.2.1,UM.2.1.2.2.1,()),x4,x5,x6,x7,(x8++[(UM.1.1.1,UM.2.2.1,())]),x9,x10,VQ,())))else none)
 (cond (Cj.1.1==4)
  ((p9 (x4,u2.1.1.2.2.1.2.1,()) Cj.2.1.1 Cj.2.1.2.1 Cj.2.1.2.2.1).bind fun I_=>
  if x9.length+1≤Go.M.DH then(
  some ((((),u2.1.1.2.2.1.2.1,(),(),(),u2.1.1.2.2.1.2.2.2.2.2.1,(),(),(),(),u2.1.1.2.2.1.2.2.2.2.2.2.2.2.2.2.1,()),()),((I_.2.1.1,I_.2.1.2.1,I_.2.1.2.2.1,()),x4,x5,x6,x7,x8,(x9++[(I_.1.1.1,I_.1.1.2.1,I_.2.2.1,I_.2.2.2.1,I_.1.1.2.2.2.2.1,I_.2.2.2.2.1,())]),x10,VQ,())))else none)
 (cond (Cj.1.1==5)
  ((pE Cj.2.1.1 Cj.2.1.2.1 Cj.2.1.2.2.1).bind fun bU=>
  if(0:Int)≤(0:Int)∧(0:Int)<(x10.length:Int)then(
  some ((((),u2.1.1.2.2.1.2.1,(),(),(),u2.1.1.2.2.1.2.2.2.2.2.1,(),(),(),(),u2.1.1.2.2.1.2.2.2.2.2.2.2.2.2.2.1,()),()),((bU.2.1.1,bU.2.1.2.1,bU.2.1.2.2.1,()),x4,x5,x6,x7,x8,x9,(x10.set 0 (bU.1.1.1,bU.1.1.2.1,bU.2.2.1,())),VQ,())))else none)
 (cond (Cj.1.1==6)
  ((om Cj.2.1.1 Cj.2.1.2.1 Cj.2.1.2.2.1).bind fun U5=>
  if VQ.length+1≤Go.M.DH then(
  some ((((),u2.1.1.2.2.1.2.1,(),(),(),u2.1.1.2.2.1.2.2.2.2.2.1,(),(),(),(),u2.1.1.2.2.1.2.2.2.2.2.2.2.2.2.2.1,()),()),((U5.2.1.1,U5.2.1.2.1,U5.2.1.2.2.1,()),x4,x5,x6,x7,x8,x9,x10,(VQ++[(U5.1.1,[],false,())]),())))else none)
 (cond (Cj.1.1==7)
  (some ((((),u2.1.1.2.2.1.2.1,(),(),(),u2.1.1.2.2.1.2.2.2.2.2.1,(),(),(),(),!u2.1.1.2.2.1.2.2.2.2.2.2.2.2.2.2.1,()),()),((Cj.2.1.1,Cj.2.1.2.1,Cj.2.1.2.2.1,()),x4,x5,x6,x7,x8,x9,x10,VQ,())))
 (cond (Cj.1.1==8)
  ((g45 Cj.2.1.1 Cj.2.1.2.1 Cj.2.1.2.2.1).bind fun ae=>
  some ((((),ae.1.1.2.1,(),(),(),u2.1.1.2.2.1.2.2.2.2.2.1,(),(),(),(),u2.1.1.2.2.1.2.2.2.2.2.2.2.2.2.2.1,()),()),((ae.2.1.1,ae.2.1.2.1,ae.2.1.2.2.1,()),ae.2.2.1,x5,x6,x7,x8,x9,x10,VQ,())))
 (some ((((),u2.1.1.2.2.1.2.1,(),(),(),u2.1.1.2.2.1.2.2.2.2.2.1,(),(),(),(),u2.1.1.2.2.1.2.2.2.2.2.2.2.2.2.2.1,()),()),((Cj.2.1.1,Cj.2.1.2.1,Cj.2.1.2.2.1,()),x4,x5,x6,x7,x8,x9,x10,VQ,())))))))))))) v:=(AD ADL (AD AEO (AD AFS ABf ABj) AEL) AC8) ω g45 ZS om pv pA oy pC qE pr p9 pE n v
theorem AKc(n:Nat)(ω:List Bool)(v:iI.V):FW AKx AFc Tryz.f158 (Nj 1 uw n) ω v=iI.un (Fc) v:=AKh MT AF CV HM O8 DK PD O7 J0 Ox Ga n ω v
def AKb:SQ:=mk Tryz.func158 iI ACb Fc [s45,ZR,o7,AHc,AGU,rH,AHV,AGo,AHf,AGu,AIC] [(6,[1,11,12,14,15,16,17,18,19,20,21]),(10,[1,11,12,13,14,15,17,18,19,20]),(12,[1,11,12,13,14,15,16,18,19,20]),(14,[1,11,12,13,14,15,16,17,19,20,21]),(16,[1,11,12,13,14,15,16,17,18,20])] uw (hJ:= .nil) (he:=AKc Aa)
def s67:SQ:=mk Tryz.func67 nJ kR HT [ZR,dw,o7] [(2,[1])] []
def s61:SQ:=mk Tryz.func61 wR ⟨ya,AIo⟩ QO [s19,s46,ZR,s67,AKb] [(12,[0,3,4,5,6,7,8,10,11]),(16,[0,1,3,4,5,6,7,8,10,11]),(18,[0,3,4,5,6,7,8,10,11])] [] (he:=fun ω v=>by rcases ω with _|⟨_|_,_⟩<;>kernel_rfl)
def s22:SQ:=mk Tryz.func22 wR ⟨AFe,AIo⟩ NY [s46,s61,s67] [(3,[1,2,3,4,5,6,7,8,9])] []
def rJ:SQ:=mk Tryz.func50 ABQ Eb Cd [] [] []
def s12:SQ:=mk Tryz.func12 qS Eb DI [rJ] [] [⟨2,⟨[(1,ML),(6,YJ),(7,Bm),(8,Bm)],[bu]⟩,IZ⟩]
def AJu:SQ:=mk Tryz.func247 ka Eb QC [rJ] [] [⟨2,⟨[(0,YJ),(1,Bm),(7,YJ),(8,Bm),(9,Bm)],[]⟩,HE⟩]
def rk:SQ:=mk Tryz.func147 eD Eb FB [s12,AJu] [] []
def AEo:SQ:=mk Tryz.func174 G5 Eb HZ [rJ] [] []
def AKO:SQ:=mk Tryz.func175 G5 Eb Xp [rJ] [] []
def s72:SQ:=mk Tryz.func72 G5 Eb Cv [AEo,AKO] [] []
def ABn:SQ:=mk Tryz.func124 ⟨[(0,.c (.v .str))],[]⟩ Eb GG [] [] []
def zQ:SQ:=mk Tryz.func152 G5 G5 It [s72] [] []
def AIR:SQ:=mk Tryz.func325 ⟨[(0,.row Y1)],[]⟩ Eb Mm [rJ,s72,ABn,zQ] [(1,[0])] []
def ALe:SQ:=mk Tryz.func248 rm Eb Jz [AIR] [] [⟨2,⟨[(5,Zc),(6,Bm),(7,Bm)],[]⟩,Fg⟩]
def AIi:SQ:=mk Tryz.func249 rm Eb HL [] [(4,[0])] [⟨2,⟨[(0,Zc),(5,Zc),(6,Bm),(7,Bm)],[]⟩,Dz⟩]
def AKA:SQ:=mk Tryz.func148 kC Eb P8 [rJ,ALe,AIi] [] []
def AKj:SQ:=mk Tryz.func122 ⟨[(0,YJ)],[]⟩ cn Ta [] [] []
def AJ1:SQ:=mk Tryz.func306 ka G5 KO [] [] [⟨2,⟨[(0,YJ),(1,Bm),(7,Bm),(8,Bm)],[]⟩,D9⟩]
def AGi:SQ:=mk Tryz.func225 ka Eb Dw [AJ1] [] []
def AGQ:SQ:=mk Tryz.func326 ⟨[(0,Bm),(1,.c (.gF (.cons (.sl tI) .unit)))],[]⟩ Eb SD [AGi] [] []
def AJ4:SQ:=mk Tryz.func380 ⟨[(0,YJ),(1,yn)],[]⟩ G5 DT [AGQ] [] [⟨2,⟨[(0,YJ),(1,yn),(7,Bm),(8,Bm)],[]⟩,CF⟩]
def AKo:SQ:=mk Tryz.func315 ⟨[(0,qQ),(1,yn)],[Ec]⟩ ⟨[(0,tB)],[LV,Ec]⟩ DL [AGQ,AJ4] [] [⟨5,⟨[(0,qQ),(1,yn),(5,Bm),(6,Bm)],[Ec]⟩,CA⟩]
def ALL:SQ:=mk Tryz.func250 r8 ⟨sV,[Ec]⟩ WX [AKj,AKo] [] []
def AJy:SQ:=mk Tryz.func149 ABM Eb Jj [ALL] [] []
def AKP:SQ:=mk Tryz.func251 eD G5 R0 [rk,AGi] [] [⟨5,⟨[(2,ML),(5,tB),(13,YJ),(14,Bm),(15,Bm)],AC6⟩,J6⟩]
def ACQ:SQ:=mk Tryz.func150 eD Eb OJ [rk,AKP] [(1,[0])] []
def s54:SQ:=mk Tryz.func54 ko Eb Hw [rk,AKA,AJy,ACQ] [] [⟨4,⟨[(0,l8),(32,AAH),(33,Bm),(34,Bm)],[]⟩,DO⟩]
def ALA:SQ:=mk Tryz.func151 ⟨[(0,fm),(1,.row Y3)],[]⟩ Eb Ub [rJ,ACQ] [] []
def s55:SQ:=mk Tryz.func55 AAp Eb UY [s12,rJ,ALA,zQ] [(7,[0,1])] [⟨2,⟨[(2,ML),(3,SE),(9,.c (.sl false Y3)),(10,Bm),(11,Bm)],AG1⟩,Hi⟩]
def AKM:SQ:=mk Tryz.func252 Eb G5 U0 [] [] []
def AKX:SQ:=mk Tryz.func153 AAu Eb OX [s12,ABn,rk,ACQ,AEo,AKM] [(5,[0,1,2])] [⟨3,⟨[(2,ML),(3,SE),(5,Bm),(9,.c (.sl false Y5)),(10,Bm),(11,Bm)],AIX⟩,IL⟩]
def AGI:SQ:=mk Tryz.func154 ABM Eb Gw [rJ] [] []
def s56:SQ:=mk Tryz.func56 ko Eb He [AKX,AGI] [(4,[0])] [⟨2,⟨[(0,l8),(8,.c (.sl false Y6)),(9,Bm),(10,Bm)],[]⟩,C2⟩]
def AJY:SQ:=mk Tryz.func173 G5 G5 Uu [s72] [] []
def ALg:SQ:=mk Tryz.func253 nF G5 QH [AJY] [] []
def AKC:SQ:=mk Tryz.func254 nF Eb Ov [zQ,AIi,AIR] [(4,[0,1])] [⟨2,⟨[(1,ML),(6,Zc),(7,Bm),(8,Bm)],[sC]⟩,IB⟩]
def AJ3:SQ:=mk Tryz.func155 nY Eb SN [s12,rJ,rk,AEo,ALg,AKC] [] [⟨2,⟨[(2,ML),(3,SE),(10,.c (.sl false (.sl tI))),(11,Bm),(12,Bm)],ACl⟩,IV⟩]
def AK6:SQ:=mk Tryz.func156 q9 G5 NI [] [] [⟨2,⟨[(6,.c (.sl false Y3)),(7,Bm),(8,Bm)],[]⟩,FX⟩]
def s57:SQ:=mk Tryz.func57 ko Eb Im [AJ3,AK6] [(4,[0])] [⟨2,⟨[(0,l8),(8,.c (.sl false Y7)),(9,Bm),(10,Bm)],[]⟩,DZ⟩]
def AJL:SQ:=mk Tryz.func157 qw Eb TQ [rJ] [] []
def s58:SQ:=mk Tryz.func58 ko Eb HO [AJL] [] [⟨2,⟨[(0,l8),(8,.c (.sl false Y9)),(9,Bm),(10,Bm)],[]⟩,C1⟩]
def s59:SQ:=mk Tryz.func59 ko Eb Ji [ABn,zQ,AGI] [(4,[0])] [⟨2,⟨[(0,l8),(8,.c (.sl false Y10)),(9,Bm),(10,Bm)],[]⟩,D3⟩]
def s15:SQ:=mk Tryz.func15 bF Eb QY [s12,s54,s55,s56,s57,s58,s59] [] []
def s23:SQ:=mk Tryz.func23 bF AA6 Rc [s15] [] [⟨5,⟨[(1,ML),(3,tB),(12,.c (.sl false Y10)),(13,Bm),(14,Bm)],AGd⟩,LU⟩]
def s24:SQ:=mk Tryz.func24 jk ABA Qy [s23] [] [⟨2,⟨[(1,Bm),(9,qQ),(10,Bm),(11,Bm)],[QE]⟩,LX⟩]
def s26:SQ:=mk Tryz.func26 bF AA6 Q5 [s19] [(5,[0,1])] [⟨3,⟨[(1,ML),(3,tB),(4,Bm)],AGd⟩,JU⟩]
def s25:SQ:=mk Tryz.func25 jk ABA U2 [s26] [] [⟨3,⟨[(1,Bm),(6,qQ),(7,Bm)],[QE]⟩,LD⟩]
abbrev i5:Bn:=wR
abbrev o5:Bn:=Eb
def s5:SQ:=mk Tryz.func5 i5 o5 RD [s8,s22,s23,s24,s25,s26] [(13,[0,1,2,3,4,5,6,7,8,9]),(15,[0,1,2,3,4,5,6,7,8,9])] [⟨11,⟨[(3,ML),(4,Bm),(5,.c (.ref 9)),(6,.c (.v .str)),(7,qH),(10,qH),(11,Bm)],[.mem [.ref 1,.v tI,.ref 2,.ref 3,.ref 4,.v tI,.ref 5,.ref 6,.ref 7,.ref 8,.v .bool],Ec,Um,Ec,.sl 1 Y3,Vg,eE,.sl 1 Y9,OT,QE]⟩,KE⟩]
end
end Go.Proofs.YtdofdihhmbbbhaaGreat.Wk
