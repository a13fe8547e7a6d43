/- Each function computes what was printed: by the kernel. -/
import Derived.Test.YtdofdihhmbbbhaaGreatG0
import Derived.Test.YtdofdihhmbbbhaaGreatProg
import Derived.KernelRfl
set_option linter.unusedVariables false
set_option linter.unusedSimpArgs false
set_option linter.unusedSectionVars false
namespace Go.Proofs.YtdofdihhmbbbhaaGreat.Wk
open Go Go.Fw Go.M Go.Proofs
noncomputable section
abbrev tI:Ty:= .int .i64
abbrev tU:Ty:= .int .u8
abbrev Y0:Ty:=(.cons (.sl tI) (.cons tI .unit))
abbrev Y1:Ty:=(.cons tI (.cons tI (.cons .bool (.cons .str .unit))))
abbrev Y2:Ty:=(.cons (.sl Y1) (.cons (.sl Y1) (.cons tI .unit)))
abbrev Y3:Ty:=(.cons (.sl tI) (.cons .bool (.cons tI .unit)))
abbrev Y4:Ty:=(.cons (.sl Y3) (.cons tI .unit))
abbrev Y5:Ty:=(.cons .str (.cons (.sl tI) (.cons .bool .unit)))
abbrev Y6:Ty:=(.cons tI (.cons (.sl Y5) .unit))
abbrev Y7:Ty:=(.cons tI (.cons tI (.cons (.sl tI) (.cons (.sl Y1) (.cons .bool (.cons (.sl (.sl tI)) .unit))))))
abbrev Y8:Ty:=(.cons tI (.cons tI (.cons .str .unit)))
abbrev Y9:Ty:=(.cons tI (.cons tI (.cons (.sl Y8) .unit)))
abbrev XJ:Ty:=(.cons tI (.cons .str (.cons .bool .unit)))
abbrev ec:Ty:=(.cons (.sl tI) (.cons tI (.cons (.sl Y2) (.cons (.sl tI) (.cons (.sl Y3) (.cons tI (.cons (.sl Y6) (.cons (.sl Y7) (.cons (.sl Y9) (.cons (.sl XJ) (.cons .bool .unit)))))))))))
abbrev gN:Ty:=(.cons tI (.cons tI (.cons tI (.cons tI (.cons .str .unit)))))
abbrev mJ:Ty:=(.cons (.sl tU) (.cons tI (.cons tI .unit)))
abbrev dv:Ty:=(.cons tI (.cons .bool (.cons tI (.cons tI (.cons .bool (.cons .str .unit))))))
def T:Dp:=[(3,⟨1,8,.int .i64,some tI⟩),
 (4,⟨1,1,.bool,some .bool⟩),
 (5,⟨1,1,.int .u8,some tU⟩),
 (9,⟨1,16,.str,some .str⟩),
 (22,⟨1,24,.sl 5,some (.sl tU)⟩),
 (24,⟨1,24,.sl 3,some (.sl tI)⟩),
 (26,⟨2,32,.st [(0,24),(1,3)],some Y0⟩),
 (28,⟨1,24,.sl 141,some (.sl Y2)⟩),
 (29,⟨1,24,.sl 161,some (.sl Y3)⟩),
 (31,⟨2,32,.st [(0,29),(1,3)],some Y4⟩),
 (32,⟨1,24,.sl 90,some (.sl Y6)⟩),
 (33,⟨1,24,.sl 146,some (.sl Y7)⟩),
 (34,⟨1,24,.sl 52,some (.sl Y9)⟩),
 (35,⟨1,24,.sl 56,some (.sl XJ)⟩),
 (37,⟨11,216,.st [(0,26),(2,28),(3,24),(4,31),(6,32),(7,33),(8,34),(9,35),(10,4)],some ec⟩),
 (45,⟨5,48,.st [(0,3),(1,3),(2,3),(3,3),(4,9)],some gN⟩),
 (50,⟨1,24,.sl 54,some (.sl Y8)⟩),
 (52,⟨3,40,.st [(0,3),(1,3),(2,50)],some Y9⟩),
 (54,⟨3,32,.st [(0,3),(1,3),(2,9)],some Y8⟩),
 (56,⟨3,32,.st [(0,3),(1,9),(2,4)],some XJ⟩),
 (78,⟨1,8,.ptr 135,none⟩),
 (88,⟨1,24,.sl 167,some (.sl Y5)⟩),
 (90,⟨2,32,.st [(0,3),(1,88)],some Y6⟩),
 (98,⟨1,8,.other,none⟩),
 (135,⟨3,40,.st [(0,22),(1,3),(2,3)],some mJ⟩),
 (139,⟨1,24,.sl 219,some (.sl Y1)⟩),
 (141,⟨3,56,.st [(0,139),(1,139),(2,3)],some Y2⟩),
 (144,⟨1,24,.sl 24,some (.sl (.sl tI))⟩),
 (146,⟨6,96,.st [(0,3),(1,3),(2,24),(3,139),(4,4),(5,144)],some Y7⟩),
 (149,⟨1,8,.ptr 37,none⟩),
 (161,⟨3,40,.st [(0,24),(1,4),(2,3)],some Y3⟩),
 (167,⟨3,48,.st [(0,9),(1,24),(2,4)],some Y5⟩),
 (219,⟨4,40,.st [(0,3),(1,3),(2,4),(3,9)],some Y1⟩),
 (239,⟨1,24,.sl 242,some (.sl dv)⟩),
 (242,⟨6,56,.st [(0,3),(1,4),(2,219)],some dv⟩),
 (260,⟨1,8,.int .u64,some (.int .u64)⟩),
 (326,⟨1,8,.other,none⟩),
 (327,⟨1,8,.ptr 52,none⟩)]
theorem jy:B7 Tryz.prog T:=Rh (by kernel_rfl)
theorem mx:Tryz.prog.follows .mixedOrders=true:=by kernel_rfl
abbrev SQ:=SP Tryz.prog
def mk {f:Nat} {fn:Func} (hf:Tryz.prog.funcs[f]? =some fn) (i o:Cq) (g:i.Cu (Option o.V)) (l:List SQ) (h:List nS) (L:List (Lp o))
  (hJ:H0 ⟨T,T0 (SP.l l),ID h⟩ ⟨i,o,i.un g⟩ fn (Rt i.CU.length L) L:=by
   repeat refine H0.cons (fun _=>rfl) (fun _ _ _=>by kernel_rfl) ?_
   exact H0.nil)
  (he: ∀ω v,I5 ⟨T,T0 (SP.l l),ID h⟩ ⟨i,o,i.un g⟩ fn (Rt i.CU.length L Ao) ω v=i.un g v:=by intro ω v;kernel_rfl)
  (hL:LM fn=Lp.ls L:=by kernel_rfl) (hd:decide (Lp.ls L).Nodup=true:=by kernel_rfl) (hc:My fn ⟨i,o,i.un g⟩=true:=by kernel_rfl):SQ:=
 mP jy mx hf i o g l h L Ao hL hd hc hJ he
abbrev M1:XP:= .c (.ptr 0 0)
abbrev Bk:XP:= .c (.v tI)
abbrev Yw:XP:= .c (.ptr 1 0)
abbrev S5:XP:= .c (.sl false tI)
abbrev aZ:XP:= .c (.ref 0)
abbrev aa:XP:= .c (.sl false Y1)
abbrev gJ:XP:= .c (.Sj 326 [(.cons (.sl tI) .unit)])
abbrev bV:XP:= .c (.SK ec)
abbrev YN:XP:= .c (.sl false Y9)
abbrev jI:XP:= .c (.sl false XJ)
abbrev Zm:XP:= .c (.ptr 10 0)
abbrev XD:XP:= .c (.sl false dv)
abbrev X7:XP:= .c (.sl false Y8)
abbrev ck:BP:= .mem [.sl true tU,.v tI,.v tI]
abbrev LC:BP:= .sl 9 tI
abbrev Wn:BP:= .mem [.sl false tI,.v tI]
abbrev N2:BP:= .sl 1 tI
abbrev eP:BP:= .mem [.v tI,.v tI,.sl false tI,.sl false Y1,.v .bool,.sl false (.sl tI)]
abbrev eo:BP:= .mem [.v tI,.v tI,.v tI,.v tI,.v .str]
abbrev cL:BP:= .mem [.sl false tI,.v tI,.sl false Y2,.sl false tI,.sl false Y3,.v tI,.sl false Y6,.sl false Y7,.sl false Y9,.sl false XJ,.v .bool]
abbrev eM:BP:= .mem [.v tI,.v tI,.v .bool,.v .str]
abbrev Za:BP:= .mem [.ref 1,.v tI,.ref 2,.ref 3,.ref 4,.v tI,.ref 5,.ref 6,.ref 7,.ref 8,.v .bool]
abbrev ZG:List BP:=[ck]
abbrev dr:List BP:=[LC,.sl 9 Y2,LC,.sl 9 Y3,.sl 9 Y6,.sl 9 Y7,.sl 9 Y9,.sl 9 XJ]
abbrev aL:List BP:=[cL,.mem [.ref 2,.v tI,.ref 3,.ref 4,.ref 5,.v tI,.ref 6,.ref 7,.ref 8,.ref 9,.v .bool],LC,.sl 9 Y2,LC,.sl 9 Y3,.sl 9 Y6,.sl 9 Y7,.sl 9 Y9,.sl 9 XJ,.mem [.ref 11,.v tI,.ref 12,.ref 13,.ref 14,.v tI,.ref 15,.ref 16,.ref 17,.ref 18,.v .bool],LC,.sl 9 Y2,LC,.sl 9 Y3,.sl 9 Y6,.sl 9 Y7,.sl 9 Y9,.sl 9 XJ]
abbrev eV:List BP:=[.mem [.v tI,.v tI,.ref 1],.sl 1 Y8]
abbrev f5:List BP:=[Za,N2,.sl 2 Y2,N2,.sl 2 Y3,.sl 3 Y6,.sl 3 Y7,.sl 1 Y9,.sl 1 XJ]
abbrev XW:List BP:=[cL]
abbrev D4:Cq:=⟨[(0,.c (.v .bool))],[]⟩
abbrev cm:Cq:=⟨[(0,.c (.sl true tU))],[]⟩
abbrev Zz:Cq:=⟨[(0,M1)],ZG⟩
abbrev cV:Cq:=⟨[(0,Bk)],ZG⟩
abbrev e9:Cq:=⟨[(0,M1),(1,Bk)],ZG⟩
abbrev fW:Cq:=⟨[(0,.agg [.ref 1,.v tI])],[ck,LC]⟩
abbrev d5:Cq:=⟨[(0,.agg [.ref 0,.v tI])],[LC]⟩
abbrev Zp:Cq:=⟨[(0,aZ)],[LC]⟩
abbrev Zb:Cq:=⟨[(0,.row Y0)],[]⟩
abbrev eu:Cq:=⟨[(0,.agg [.v tI,.v tI,.ref 0])],[.sl 9 Y8]⟩
abbrev gE:Cq:=⟨[(0,Bk),(1,Bk),(2,Bk)],[]⟩
abbrev bh:Cq:=⟨[(0,S5),(1,Bk)],[]⟩
abbrev a5:Cq:=⟨[(0,.row Y0),(1,S5)],[]⟩
abbrev Ll:Cq:=⟨[(0,Bk)],[]⟩
abbrev bf:Cq:=⟨[(0,aa)],[]⟩
abbrev eR:Cq:=⟨[(0,bV),(1,Bk)],[]⟩
abbrev YL:Cq:=⟨[(0,bV)],[]⟩
abbrev cw:Cq:=⟨[(0,.row Y7)],[]⟩
abbrev UM:Cq:=⟨[(0,.row ec)],[]⟩
abbrev cz:Cq:=⟨[(0,.Hi [.inl (.v tI),.inl (.v .bool)])],[]⟩
abbrev eE:Cq:=⟨[(0,.Hi [.inr [.v tI,.v tI,.v .bool,.v .str],.inl (.v .bool)])],[]⟩
abbrev fX:Cq:=⟨[(0,.row ec),(1,Bk)],[]⟩
abbrev d_:Cq:=⟨[(0,.Hi [])],[.mem [.v tI,.v tI,.ref 2],.gone,.sl 1 Y8]⟩
abbrev ed:Cq:=⟨[(0,.row Y0),(1,S5),(2,S5)],[]⟩
abbrev fQ:Cq:=⟨[(0,Bk)],f5⟩
abbrev eO:Cq:=⟨[(1,M1),(10,YN),(11,Bk),(12,Bk)],XW⟩
abbrev f9:Cq:=⟨[(0,.Hi [.inl (.v .str),.inl (.v .bool)])],[]⟩
def s8:SQ:=mk Tryz.func8 ⟨[(0,.c (.sl false tU))],[]⟩ D4 Qm [] [] []
def ln:SQ:=mk Tryz.func46 cm Zz Li [] [] [⟨3,⟨[(0,.c (.sl true tU)),(3,Bk),(4,Bk)],[]⟩,GU⟩]
def iD:SQ:=mk Tryz.func159 Zz cV Eg [] [(2,[0]),(3,[0]),(4,[0])] []
def gT:SQ:=mk Tryz.func62 e9 cV DL [iD] [] []
def jb:SQ:=mk Tryz.func171 e9 ⟨[(0,.c (.v .bool))],ZG⟩ Kf [gT] [] []
def i6:SQ:=mk Tryz.func120 Zz fW F9 [gT,jb] [(6,[1,2])] [⟨4,⟨[(0,M1),(2,Yw),(3,.c (.ptr 3 0)),(4,Bk),(5,Bk)],[ck,.mem [.ref 2,.v tI],LC,.mem [.ref 4,.v tI],LC]⟩,DE⟩] (hJ:= .cons (fun _=>rfl) (fun n v ω=>by rcases ω with _|⟨_|_,_|⟨_|_,_⟩⟩<;>kernel_rfl) (.nil))
def i_:SQ:=mk Tryz.func121 ⟨[(0,M1),(1,S5)],ZG⟩ cV EN [gT] [] []
def ku:SQ:=mk Tryz.func45 Zz fW Is [gT,i6,i_] [(6,[1,4])] []
def s9:SQ:=mk Tryz.func9 cm d5 Ha [ku,ln] [] []
def We:SQ:=mk Tryz.func122 ⟨[(0,S5)],[]⟩ Zp CC [] [] []
abbrev l8:Cq:=Zb
abbrev ll:Cq:=d5
def iQ:SQ:=mk Tryz.func47 l8 ll C_ [We] [(1,[0])] []
abbrev mH:Cq:=⟨[],[]⟩
abbrev ld:Cq:=eu
def j4:SQ:=mk Tryz.func48 mH ld Ea [] [] []
abbrev cQ:Cq:=gE
abbrev gV:Cq:=D4
def U2:SQ:=mk Tryz.func50 cQ gV Ah [] [] []
def dY:SQ:=mk Tryz.func12 Zb D4 Ba [U2] [] [⟨2,⟨[(1,M1),(6,S5),(7,Bk),(8,Bk)],[Wn]⟩,EX⟩]
def ie:SQ:=mk Tryz.func247 bh D4 JO [U2] [] [⟨2,⟨[(0,S5),(1,Bk),(7,S5),(8,Bk),(9,Bk)],[]⟩,Du⟩]
def UP:SQ:=mk Tryz.func147 a5 D4 Bg [dY,ie] [] []
def aC:SQ:=mk Tryz.func174 Ll D4 Cp [U2] [] []
def fc:SQ:=mk Tryz.func175 Ll D4 Jz [U2] [] []
def gf:SQ:=mk Tryz.func72 Ll D4 BX [aC,fc] [] []
def aD:SQ:=mk Tryz.func124 ⟨[(0,.c (.v .str))],[]⟩ D4 CM [] [] []
def XY:SQ:=mk Tryz.func152 Ll Ll DJ [gf] [] []
def cu:SQ:=mk Tryz.func325 ⟨[(0,.row Y1)],[]⟩ D4 GB [U2,gf,aD,XY] [(1,[0])] []
def gp:SQ:=mk Tryz.func248 bf D4 FX [cu] [] [⟨2,⟨[(5,aa),(6,Bk),(7,Bk)],[]⟩,C0⟩]
def fT:SQ:=mk Tryz.func249 bf D4 Dy [] [(4,[0])] [⟨2,⟨[(0,aa),(5,aa),(6,Bk),(7,Bk)],[]⟩,CN⟩]
def eK:SQ:=mk Tryz.func148 ⟨[(0,.row Y2)],[]⟩ D4 HG [U2,gp,fT] [] []
def gj:SQ:=mk Tryz.func306 bh Ll FQ [] [] [⟨2,⟨[(0,S5),(1,Bk),(7,Bk),(8,Bk)],[]⟩,CP⟩]
def Zf:SQ:=mk Tryz.func225 bh D4 BQ [gj] [] []
def fw:SQ:=mk Tryz.func326 ⟨[(0,Bk),(1,.c (.SK (.cons (.sl tI) .unit)))],[]⟩ D4 Gu [Zf] [] []
def iZ:SQ:=mk Tryz.func380 ⟨[(0,S5),(1,gJ)],[]⟩ Ll BL [fw] [] [⟨2,⟨[(0,S5),(1,gJ),(7,Bk),(8,Bk)],[]⟩,Ab⟩]
def iG:SQ:=mk Tryz.func315 ⟨[(0,aZ),(1,gJ)],[N2]⟩ ⟨[(0,.c (.ref 1))],[.gone,N2]⟩ Ap [fw,iZ] [] [⟨5,⟨[(0,aZ),(1,gJ),(5,Bk),(6,Bk)],[N2]⟩,AX⟩]
def dS:SQ:=mk Tryz.func250 ⟨[(0,S5),(1,S5)],[]⟩ ⟨[(0,aZ)],[N2]⟩ GC [We,iG] [] []
abbrev U7:Cq:=eR
abbrev Zq:Cq:=D4
def dR:SQ:=mk Tryz.func149 U7 Zq CX [dS] [] []
def g6:SQ:=mk Tryz.func251 a5 Ll KW [UP,Zf] [] [⟨5,⟨[(2,M1),(5,.c (.ref 1)),(13,S5),(14,Bk),(15,Bk)],[Wn,LC]⟩,Fg⟩]
def aA:SQ:=mk Tryz.func150 a5 D4 Fu [UP,g6] [(1,[0])] []
def kz:SQ:=mk Tryz.func54 YL D4 EI [UP,eK,dR,aA] [] [⟨4,⟨[(0,bV),(32,.c (.sl false Y2)),(33,Bk),(34,Bk)],[]⟩,Bq⟩]
def jD:SQ:=mk Tryz.func151 ⟨[(0,.row Y0),(1,.row Y3)],[]⟩ D4 LW [U2,aA] [] []
def kJ:SQ:=mk Tryz.func55 ⟨[(0,.row Y0),(1,.row Y4)],[]⟩ D4 KB [dY,U2,jD,XY] [(7,[0,1])] [⟨2,⟨[(2,M1),(3,Yw),(9,.c (.sl false Y3)),(10,Bk),(11,Bk)],[Wn,.mem [.sl false Y3,.v tI]]⟩,EA⟩]
def jJ:SQ:=mk Tryz.func252 D4 Ll Lb [] [] []
def il:SQ:=mk Tryz.func153 ⟨[(0,.row Y0),(1,.row Y6)],[]⟩ D4 IU [dY,aD,UP,aA,aC,jJ] [(5,[0,1,2])] [⟨3,⟨[(2,M1),(3,Yw),(5,Bk),(9,.c (.sl false Y5)),(10,Bk),(11,Bk)],[Wn,.mem [.v tI,.sl false Y5]]⟩,Ed⟩]
def ez:SQ:=mk Tryz.func154 eR D4 Dd [U2] [] []
def mF:SQ:=mk Tryz.func56 YL D4 D2 [il,ez] [(4,[0])] [⟨2,⟨[(0,bV),(8,.c (.sl false Y6)),(9,Bk),(10,Bk)],[]⟩,Bj⟩]
def dK:SQ:=mk Tryz.func173 Ll Ll H9 [gf] [] []
def jM:SQ:=mk Tryz.func253 cw Ll JM [dK] [] []
def ix:SQ:=mk Tryz.func254 cw D4 Iu [XY,fT,cu] [(4,[0,1])] [⟨2,⟨[(1,M1),(6,aa),(7,Bk),(8,Bk)],[eP]⟩,EY⟩]
def jV:SQ:=mk Tryz.func155 ⟨[(0,.row Y0),(1,.row Y7)],[]⟩ D4 Ka [dY,U2,UP,aC,jM,ix] [] [⟨2,⟨[(2,M1),(3,Yw),(10,.c (.sl false (.sl tI))),(11,Bk),(12,Bk)],[Wn,eP]⟩,ES⟩]
def iT:SQ:=mk Tryz.func156 ⟨[(0,.row Y4)],[]⟩ Ll HT [] [] [⟨2,⟨[(6,.c (.sl false Y3)),(7,Bk),(8,Bk)],[]⟩,C8⟩]
def kS:SQ:=mk Tryz.func57 YL D4 Em [jV,iT] [(4,[0])] [⟨2,⟨[(0,bV),(8,.c (.sl false Y7)),(9,Bk),(10,Bk)],[]⟩,CA⟩]
def fy:SQ:=mk Tryz.func157 ⟨[(0,.row Y9)],[]⟩ D4 IZ [U2] [] []
def mE:SQ:=mk Tryz.func58 YL D4 D6 [fy] [] [⟨2,⟨[(0,bV),(8,YN),(9,Bk),(10,Bk)],[]⟩,Bi⟩]
def mO:SQ:=mk Tryz.func59 YL D4 FJ [aD,XY,ez] [(4,[0])] [⟨2,⟨[(0,bV),(8,jI),(9,Bk),(10,Bk)],[]⟩,CO⟩]
abbrev kh:Cq:=UM
abbrev mW:Cq:=D4
def aM:SQ:=mk Tryz.func15 kh mW A3 [dY,kz,kJ,mF,kS,mE,mO] [] []
abbrev dc:Cq:=Zb
abbrev gq:Cq:=⟨[(0,.Hi [.inr [.ref 0,.v tI,.ref 1,.ref 2,.ref 3,.v tI,.ref 4,.ref 5,.ref 6,.ref 7,.v .bool],.inl (.v .bool)])],dr⟩
def jQ:KD:=⟨dc,gq,(dc.un Cn)⟩
def jS:QP:=⟨T,T0 (SP.l [aM,iQ,j4]),ID [(1,[0,1])]⟩
def gY:List (Lp gq):=[]
def iH (p0:m9):Option Lx:=
 (C_ (p0.1,p0.2.1,())).bind fun u1=>
 (
 let x2:my:=(List.replicate ((p0.1.length:Int).toNat) ([],[],0,()))
 (Ea).bind fun u3=>
 (Ea).bind fun u4=>
 (A3 (u1.2.1,u1.1.1.2.1,x2,[],[],0,[],[],[(u3.1.1.1,u3.1.1.2.1,u3.2.1,()),(u4.1.1.1,u4.1.1.2.1,u4.2.1,())],[],false,())).bind fun u5=>
 cond (!u5.1.1)
  (some (((((),0,(),(),(),0,(),(),(),(),false,()),false,()),()),([],[],[],[],[],[],[],[],())))
 (some (((((),u1.1.1.2.1,(),(),(),0,(),(),(),(),false,()),true,()),()),(u1.2.1,x2,[],[],[],[],[(u3.1.1.1,u3.1.1.2.1,u3.2.1,()),(u4.1.1.1,u4.1.1.2.1,u4.2.1,())],[],()))))
def JP (ω:List Bool):Prop:= ∀v,I5 jS jQ Tryz.f10 (Rt 0 gY Ao) ω v=dc.un Cn v
def Xn (ω:List Bool):Prop:= ∀v,I5 jS jQ Tryz.f10 (Rt 0 gY Ao) ω v=dc.un (fun p0=>if (0:Int)≤(p0.1.length:Int)∧(p0.1.length:Int)≤(p0.1.length:Int)∧(p0.1.length:Int)≤(Go.M.I8:Int) then iH p0 else none) v
def G_ (ω:List Bool):Prop:= ∀v u,dc.un Cn v=some u→I5 jS jQ Tryz.f10 (Rt 0 gY Ao) ω v=some u
theorem DS {ω:List Bool} (h:JP ω):G_ ω:=fun v u e=>(h v).trans e
theorem Q9 {ω:List Bool} (h:Xn ω):G_ ω:=fun v u e=>(h v).trans (by
 revert e
 show Cn v.1.1=some u→(if (0:Int)≤(v.1.1.1.length:Int)∧(v.1.1.1.length:Int)≤(v.1.1.1.length:Int)∧(v.1.1.1.length:Int)≤(Go.M.I8:Int) then iH v.1.1 else none)=some u
 intro e
 unfold Cn at e
 cases hc:C_ (v.1.1.1,v.1.1.2.1,()) with
 |none=>rw [hc] at e;cases e
 |some q=>
  rw [hc] at e
  simp only [Option.bind_some] at e
  by_cases hg:(0:Int)≤(v.1.1.1.length:Int)∧(v.1.1.1.length:Int)≤(v.1.1.1.length:Int)∧(v.1.1.1.length:Int)≤(Go.M.I8:Int)
  ·rw [if_pos hg] at e
   rw [if_pos hg]
   unfold iH
   rw [hc]
   exact e
  ·rw [if_neg hg] at e
   cases e)
theorem eS:G_ []:=DS (by delta JP;intros;kernel_rfl)
theorem gG:G_ (false::[]):=Q9 (by delta Xn;intros;kernel_rfl)
theorem d7:G_ (false::false::[]):=DS (by delta JP;intros;kernel_rfl)
theorem f_ (ω:List Bool):G_ (false::false::false::ω):=Q9 (by delta Xn;intros;kernel_rfl)
theorem gH:G_ (false::false::true::[]):=DS (by delta JP;intros;kernel_rfl)
theorem du:G_ (false::false::true::false::[]):=DS (by delta JP;intros;kernel_rfl)
theorem fU:G_ (false::false::true::false::false::[]):=DS (by delta JP;intros;kernel_rfl)
theorem dy (ω:List Bool):G_ (false::false::true::false::false::false::ω):=DS (by delta JP;intros;kernel_rfl)
theorem ei (ω:List Bool):G_ (false::false::true::false::false::true::ω):=DS (by delta JP;intros;kernel_rfl)
theorem c7 (ω:List Bool):G_ (false::false::true::false::true::ω):=DS (by delta JP;intros;kernel_rfl)
theorem dL (ω:List Bool):G_ (false::false::true::true::ω):=DS (by delta JP;intros;kernel_rfl)
theorem dQ:G_ (false::true::[]):=Q9 (by delta Xn;intros;kernel_rfl)
theorem bW (ω:List Bool):G_ (false::true::false::ω):=Q9 (by delta Xn;intros;kernel_rfl)
theorem ca:G_ (false::true::true::[]):=Q9 (by delta Xn;intros;kernel_rfl)
theorem bl (ω:List Bool):G_ (false::true::true::false::ω):=Q9 (by delta Xn;intros;kernel_rfl)
theorem a6:G_ (false::true::true::true::[]):=Q9 (by delta Xn;intros;kernel_rfl)
theorem cj (ω:List Bool):G_ (false::true::true::true::false::ω):=Q9 (by delta Xn;intros;kernel_rfl)
theorem cX:G_ (false::true::true::true::true::[]):=Q9 (by delta Xn;intros;kernel_rfl)
theorem cn (ω:List Bool):G_ (false::true::true::true::true::false::ω):=Q9 (by delta Xn;intros;kernel_rfl)
theorem dE (ω:List Bool):G_ (false::true::true::true::true::true::ω):=Q9 (by delta Xn;intros;kernel_rfl)
theorem cC:G_ (true::[]):=DS (by delta JP;intros;kernel_rfl)
theorem bm:G_ (true::false::[]):=DS (by delta JP;intros;kernel_rfl)
theorem bL:G_ (true::false::false::[]):=DS (by delta JP;intros;kernel_rfl)
theorem ct:G_ (true::false::false::false::[]):=DS (by delta JP;intros;kernel_rfl)
theorem dI:G_ (true::false::false::false::false::[]):=DS (by delta JP;intros;kernel_rfl)
theorem dD (ω:List Bool):G_ (true::false::false::false::false::false::ω):=DS (by delta JP;intros;kernel_rfl)
theorem bQ (ω:List Bool):G_ (true::false::false::false::false::true::ω):=DS (by delta JP;intros;kernel_rfl)
theorem cZ (ω:List Bool):G_ (true::false::false::false::true::ω):=DS (by delta JP;intros;kernel_rfl)
theorem cM (ω:List Bool):G_ (true::false::false::true::ω):=DS (by delta JP;intros;kernel_rfl)
theorem bn:G_ (true::false::true::[]):=DS (by delta JP;intros;kernel_rfl)
theorem cG:G_ (true::false::true::false::[]):=DS (by delta JP;intros;kernel_rfl)
theorem bX:G_ (true::false::true::false::false::[]):=DS (by delta JP;intros;kernel_rfl)
theorem dU:G_ (true::false::true::false::false::false::[]):=DS (by delta JP;intros;kernel_rfl)
theorem dT (ω:List Bool):G_ (true::false::true::false::false::false::false::ω):=DS (by delta JP;intros;kernel_rfl)
theorem cp (ω:List Bool):G_ (true::false::true::false::false::false::true::ω):=DS (by delta JP;intros;kernel_rfl)
theorem cy (ω:List Bool):G_ (true::false::true::false::false::true::ω):=DS (by delta JP;intros;kernel_rfl)
theorem cr:G_ (true::false::true::false::true::[]):=DS (by delta JP;intros;kernel_rfl)
theorem bR:G_ (true::false::true::false::true::false::[]):=DS (by delta JP;intros;kernel_rfl)
theorem bY:G_ (true::false::true::false::true::false::false::[]):=DS (by delta JP;intros;kernel_rfl)
theorem bO (ω:List Bool):G_ (true::false::true::false::true::false::false::false::ω):=DS (by delta JP;intros;kernel_rfl)
theorem a_ (ω:List Bool):G_ (true::false::true::false::true::false::false::true::ω):=DS (by delta JP;intros;kernel_rfl)
theorem cW:G_ (true::false::true::false::true::false::true::[]):=DS (by delta JP;intros;kernel_rfl)
theorem c8 (ω:List Bool):G_ (true::false::true::false::true::false::true::false::ω):=DS (by delta JP;intros;kernel_rfl)
theorem a9 (ω:List Bool):G_ (true::false::true::false::true::false::true::true::ω):=DS (by delta JP;intros;kernel_rfl)
theorem bo:G_ (true::false::true::false::true::true::[]):=DS (by delta JP;intros;kernel_rfl)
theorem bd (ω:List Bool):G_ (true::false::true::false::true::true::false::ω):=DS (by delta JP;intros;kernel_rfl)
theorem dA (ω:List Bool):G_ (true::false::true::false::true::true::true::ω):=DS (by delta JP;intros;kernel_rfl)
theorem bu:G_ (true::false::true::true::[]):=DS (by delta JP;intros;kernel_rfl)
theorem cH (ω:List Bool):G_ (true::false::true::true::false::ω):=DS (by delta JP;intros;kernel_rfl)
theorem c0:G_ (true::false::true::true::true::[]):=DS (by delta JP;intros;kernel_rfl)
theorem cf (ω:List Bool):G_ (true::false::true::true::true::false::ω):=DS (by delta JP;intros;kernel_rfl)
theorem bg (ω:List Bool):G_ (true::false::true::true::true::true::ω):=DS (by delta JP;intros;kernel_rfl)
theorem bq:G_ (true::true::[]):=DS (by delta JP;intros;kernel_rfl)
theorem cB (ω:List Bool):G_ (true::true::false::ω):=DS (by delta JP;intros;kernel_rfl)
theorem bp:G_ (true::true::true::[]):=DS (by delta JP;intros;kernel_rfl)
theorem cO (ω:List Bool):G_ (true::true::true::false::ω):=DS (by delta JP;intros;kernel_rfl)
theorem bj:G_ (true::true::true::true::[]):=DS (by delta JP;intros;kernel_rfl)
theorem bU (ω:List Bool):G_ (true::true::true::true::false::ω):=DS (by delta JP;intros;kernel_rfl)
theorem br (ω:List Bool):G_ (true::true::true::true::true::ω):=DS (by delta JP;intros;kernel_rfl)
def lf:SQ:=iX jy mx Tryz.func10 dc gq Cn [aM,iQ,j4] [(1,[0,1])] gY Ao (by kernel_rfl) (by kernel_rfl) (by kernel_rfl) .nil (Aj eS (Aj gG (Aj d7 f_ (Aj gH (Aj du (Aj fU dy ei) c7) dL)) (Aj dQ bW (Aj ca bl (Aj a6 cj (Aj cX cn dE))))) (Aj cC (Aj bm (Aj bL (Aj ct (Aj dI dD bQ) cZ) cM) (Aj bn (Aj cG (Aj bX (Aj dU dT cp) cy) (Aj cr (Aj bR (Aj bY bO a_) (Aj cW c8 a9)) (Aj bo bd dA))) (Aj bu cH (Aj c0 cf bg)))) (Aj bq cB (Aj bp cO (Aj bj bU br)))))
def lX:SQ:=mk Tryz.func49 gE D4 Gt [] [] []
def ko:SQ:=mk Tryz.func11 Zb D4 IJ [lX] [] [⟨4,⟨[(1,M1),(3,Bk)],[Wn]⟩,ER⟩]
def lp:SQ:=mk Tryz.func14 ⟨[(0,.c (.sl false tU)),(1,Bk)],[]⟩ Ll QQ [] [] []
def iC:SQ:=mk Tryz.func123 Ll ⟨[(0,.c (.v .str))],[]⟩ LS [] [] []
def mC:SQ:=mk Tryz.func51 ⟨[(0,.row gN)],[]⟩ D4 Ke [U2,iC,aD] [] [⟨4,⟨[(1,M1),(3,Yw),(11,.c (.ref 2)),(12,Bk),(13,Bk)],[eo,eo,.sl 9 tU]⟩,BN⟩]
def jd:SQ:=mk Tryz.func125 ⟨[(0,.row Y4)],[]⟩ ⟨[(0,.agg [.ref 0,.v tI])],[.sl 9 Y3]⟩ FI [We] [] [⟨3,⟨[(2,M1),(3,.c (.ptr 2 0)),(10,.c (.sl false Y3)),(11,Bk),(12,Bk)],[.mem [.ref 1,.v tI],.sl 9 Y3,.mem [.ref 3,.v tI],.sl 9 Y3]⟩,Ct⟩]
def fu:SQ:=mk Tryz.func214 bf ⟨[(0,aZ)],[.sl 9 Y1]⟩ DV [] [] []
def hD:SQ:=mk Tryz.func126 ⟨[(0,.row Y2)],[]⟩ ⟨[(0,.agg [.ref 0,.ref 1,.v tI])],[.sl 9 Y1,.sl 9 Y1]⟩ HF [fu] [(1,[0])] []
def jL:SQ:=mk Tryz.func127 ⟨[(0,.row Y6)],[]⟩ ⟨[(0,.agg [.v tI,.ref 0])],[.sl 9 Y5]⟩ GX [We] [] [⟨3,⟨[(2,M1),(3,.c (.ptr 2 0)),(10,.c (.sl false Y5)),(11,Bk),(12,Bk)],[.mem [.v tI,.ref 1],.sl 9 Y5,.mem [.v tI,.ref 3],.sl 9 Y5]⟩,Dg⟩]
def jY:SQ:=mk Tryz.func128 cw ⟨[(0,.agg [.v tI,.v tI,.ref 0,.ref 1,.v .bool,.ref 2])],[LC,.sl 9 Y1,.sl 9 (.sl tI)]⟩ IY [We,fu] [(2,[0,1]),(6,[0,1,2,3,5,6])] [⟨4,⟨[(2,M1),(3,.c (.ptr 4 0)),(17,.c (.sl false (.sl tI))),(18,Bk),(19,Bk)],[.mem [.v tI,.v tI,.ref 1,.ref 2,.v .bool,.ref 3],LC,.sl 9 Y1,.sl 9 (.sl tI),.mem [.v tI,.v tI,.ref 5,.ref 6,.v .bool,.ref 7],LC,.sl 9 Y1,.sl 9 (.sl tI)]⟩,EM⟩] (hJ:= .cons (fun _=>rfl) (fun n v ω=>by rcases ω with _|⟨_|_,_|⟨_|_,_⟩⟩<;>kernel_rfl) (.nil))
def fF:SQ:=mk Tryz.func129 ⟨[(0,.row Y9)],[]⟩ eu Ep [] [] []
def lj:SQ:=mk Tryz.func52 UM ⟨[(0,.agg [.ref 0,.v tI,.ref 1,.ref 2,.ref 3,.v tI,.ref 4,.ref 5,.ref 6,.ref 7,.v .bool])],dr⟩ FZ [iQ,We,jd,hD,jL,jY,fF] [(1,[0,1]),(5,[0,1,2,3,4,5,6,7,8,9,11,13,14,15,16,17,18,19]),(10,[0,1,2,3,4,5,6,7,8,9,11,12,13,14,16,17,18,19]),(15,[0,1,2,3,4,5,6,7,8,9,11,12,13,14,15,17,18,19]),(20,[0,1,2,3,4,5,6,7,8,9,11,12,13,14,15,16,18,19])] [⟨3,⟨[(1,M1),(2,Yw),(3,Zm),(25,.c (.sl false Y2)),(26,Bk),(27,Bk)],aL⟩,B5⟩,⟨8,⟨[(1,M1),(2,Yw),(3,Zm),(40,.c (.sl false Y6)),(41,Bk),(42,Bk)],aL⟩,B3⟩,⟨13,⟨[(1,M1),(2,Yw),(3,Zm),(55,.c (.sl false Y7)),(56,Bk),(57,Bk)],aL⟩,Bl⟩,⟨18,⟨[(1,M1),(2,Yw),(3,Zm),(70,YN),(71,Bk),(72,Bk)],aL⟩,Bn⟩] (hJ:= .cons (fun _=>rfl) (fun n v ω=>by rcases ω with _|⟨_|_,_|⟨_|_,_⟩⟩<;>kernel_rfl) (.cons (fun _=>rfl) (fun n v ω=>by rcases ω with _|⟨_|_,_|⟨_|_,_⟩⟩<;>kernel_rfl) (.cons (fun _=>rfl) (fun n v ω=>by rcases ω with _|⟨_|_,_|⟨_|_,_⟩⟩<;>kernel_rfl) (.cons (fun _=>rfl) (fun n v ω=>by rcases ω with _|⟨_|_,_|⟨_|_,_⟩⟩<;>kernel_rfl) (.nil))))) (he:=fun ω v=>by rcases ω with _|⟨_|_,_|⟨_|_,_|⟨_|_,_⟩⟩⟩<;>kernel_rfl)
abbrev Vv:Cq:=⟨[(0,Bk),(1,Bk)],[]⟩
abbrev Zh:Cq:=cz
def a7:SQ:=mk Tryz.func218 Vv Zh Db [aC,fc] [] []
abbrev VT:Cq:=Ll
abbrev aR:Cq:=Zp
def fJ:SQ:=mk Tryz.func216 VT aR EZ [U2] [] [⟨5,⟨[(0,Bk),(3,aZ),(10,Bk)],[LC]⟩,D5⟩]
def jC:SQ:=mk Tryz.func383 ⟨[(0,.row Y1),(1,Bk)],[]⟩ Ll Hd [] [] []
def jF:SQ:=mk Tryz.func382 ⟨[(0,aa),(1,Bk),(2,.c (.fn 383 []))],[]⟩ cz Ae [jC] [] [⟨3,⟨[(0,aa),(1,Bk),(2,.c (.fn 383 [])),(8,Bk),(9,Bk),(10,Bk)],[]⟩,AG⟩]
def gu:SQ:=mk Tryz.func319 ⟨[(0,aa),(1,Bk)],[]⟩ cz JN [jF] [] []
abbrev Vu:Cq:=⟨[(0,.row Y2),(1,Bk)],[]⟩
abbrev Z2:Cq:=eE
def eH:SQ:=mk Tryz.func244 Vu Z2 Ey [eK,gu] [] []
def mB:SQ:=mk Tryz.func60 ⟨[(0,.row Y6)],[]⟩ Ll Gh [] [] [⟨2,⟨[(1,M1),(6,.c (.sl false Y5)),(7,Bk),(8,Bk)],[.mem [.v tI,.sl false Y5]]⟩,Da⟩]
abbrev cU:Cq:=fX
abbrev gP:Cq:=Ll
def jG:SQ:=mk Tryz.func17 cU gP Fa [mB] [] [⟨2,⟨[(1,Bk),(8,.c (.sl false Y6)),(9,Bk),(10,Bk)],[]⟩,Fm⟩]
def iE:SQ:=mk Tryz.func320 ⟨[(0,XD)],[]⟩ Zp F_ [] [] [⟨3,⟨[(3,aZ),(7,XD),(8,Bk),(9,Bk)],[LC]⟩,Er⟩]
def ik:SQ:=mk Tryz.func71 ⟨[(0,Bk),(1,.row Y9)],[]⟩ D4 DN [XY,dK] [(2,[0])] []
def dw:SQ:=mk Tryz.func321 ⟨[(0,M1),(1,.row Y8)],eV⟩ d_ Bp [] [(1,[2])] [] (he:=fun ω v=>by rcases ω with _|⟨_|_,_⟩<;>kernel_rfl)
def iA:SQ:=mk Tryz.func381 ed Zp Mx [UP,Zf] [] [⟨5,⟨[(2,S5),(7,aZ),(22,S5),(23,Bk),(24,Bk)],[LC]⟩,HI⟩]
def iv:SQ:=mk Tryz.func318 ed D4 Cr [UP,aA,dS,iA] [(3,[0,1])] []
def jA:SQ:=mk Tryz.func375 ⟨[(0,.row Y1),(1,.row Y1)],[]⟩ ⟨[(0,.agg [.v tI,.v tI,.v .bool,.v .str])],[]⟩ Ir [] [] []
def iL:SQ:=mk Tryz.func384 ⟨[(0,XD),(1,S5),(2,Bk)],[]⟩ eE KV [Zf,cu,jA] [] [⟨3,⟨[(1,S5),(2,Bk),(6,M1),(8,Yw),(9,.c (.v .bool)),(13,XD),(14,Bk),(15,Bk)],[eM,eM]⟩,Fh⟩]
def hY:SQ:=mk Tryz.func322 ⟨[(0,M1),(1,XD),(2,S5)],eV⟩ d_ A0 [a7,dw,iL] [(0,[0,1])] []
abbrev Vn:Cq:=⟨[(0,.row Y0),(1,.row Y4),(2,Bk),(3,.row Y9),(4,XD)],[]⟩
abbrev Zx:Cq:=⟨[(0,.Hi [.inr [.v tI,.v tI,.ref 0],.inl (.v tI)])],[.sl 1 Y8]⟩
def er:SQ:=mk Tryz.func245 Vn Zx Dt [kJ,ik,fF,UP,XY,fy,dK,dS,iv,iE,dw,hY] [(1,[0,1,2,3]),(8,[0,1,2,3,4,8,9]),(11,[0,1,2,3,4,5,6,7])] []
abbrev U8:Cq:=⟨[(0,M1),(1,Bk),(2,Bk)],f5⟩
abbrev cS:Cq:=fQ
def X6:KD:=⟨U8,cS,(U8.un Es)⟩
def fo:QP:=⟨T,T0 (SP.l [jG,U2,dR,fJ,a7,eH,er]),ID [(13,[0,1,2]),(16,[0,1,2,3,4])]⟩
def XF:List (Lp cS):=[⟨7,⟨[(0,M1),(1,Bk),(7,.c (.ptr 9 0)),(8,Bk),(10,.c (.ref 10)),(43,.c (.ref 11)),(44,Bk),(45,Bk)],[Za,N2,.sl 2 Y2,N2,.sl 2 Y3,.sl 3 Y6,.sl 3 Y7,.sl 1 Y9,.sl 1 XJ,.mem [.v tI,.v tI,.sl true Y8],.sl 9 dv,LC]⟩,Ag⟩]
abbrev Lv:Cq:=⟨[(0,M1),(1,Bk),(7,.c (.ptr 9 0)),(8,Bk),(10,.c (.ref 10)),(43,.c (.ref 11)),(44,Bk),(45,Bk)],[Za,N2,.sl 2 Y2,N2,.sl 2 Y3,.sl 3 Y6,.sl 3 Y7,.sl 1 Y9,.sl 1 XJ,.mem [.v tI,.v tI,.sl true Y8],.sl 9 dv,LC]⟩
def AU (ω:List Bool):Prop:= ∀(aj:m7→Int→Option D7) (dN:Int→Int→Int→Option IX) (Uo:m7→Int→Option EF) (VK:Int→Option Cm) (Vf:Int→Int→Option F8) (UE:nM→Int→Option Gd) (Ua:m9→nI→Int→nG→nE→Option C9) (n:Nat) (v:Lv.V),Pj ⟨T,T0 [(17,⟨cU,gP,cU.un aj⟩),(50,⟨cQ,gV,cQ.un dN⟩),(149,⟨U7,Zq,U7.un Uo⟩),(216,⟨VT,aR,VT.un VK⟩),(218,⟨Vv,Zh,Vv.un Vf⟩),(244,⟨Vu,Z2,Vu.un UE⟩),(245,⟨Vn,Zx,Vn.un Ua⟩)],ID [(13,[0,1,2]),(16,[0,1,2,3,4])]⟩ X6 Tryz.f144 (Rt 9 XF n) 7 ω (Lv.st 111 v)=Lv.un (fun (t1:Int) (t8:Int) (WC:Int) (Rn:Int) (AL:Int) (A7:Int) (Ac:Bool) (b1:mr) (b2:my) (b3:mr) (b4:mw) (b5:mz) (b6:m6) (b7:mv) (b8:m5) (Mu:Int) (Ob:Int) (OA:nA) (UO:nE) (OI:mr)=>
 cond (decide (Rn<WC))
  (if (0:Int)≤Rn∧Rn<(OI.length:Int) then (
  let x8:Int:=(OI.getD (Rn.toNat) 0)
  cond ((decide (x8<(b2.length:Int))))
   ((Uo (b1,AL,b2,b3,b4,A7,b5,b6,b7,b8,Ac,()) x8).bind fun Uv=>
   cond (!Uv.1.1)
    (if (0:Int)≤x8∧x8<(b2.length:Int) then (
    (UE ((b2.getD (x8.toNat) ([],[],0,())).1,(b2.getD (x8.toNat) ([],[],0,())).2.1,(b2.getD (x8.toNat) ([],[],0,())).2.2.1,()) t8).bind fun P0=>
    if UO.length+1≤Go.M.I8 then (
    (Ag n) t1 t8 WC (As (Rn+1)) AL A7 Ac b1 b2 b3 b4 b5 b6 b7 b8 Mu Ob OA (UO++[(x8,P0.1.1.2.1,P0.1.1.1.1,P0.1.1.1.2.1,P0.1.1.1.2.2.1,P0.1.1.1.2.2.2.1,())]) OI) else none) else none)
   ((Ag n) t1 t8 WC (As (Rn+1)) AL A7 Ac b1 b2 b3 b4 b5 b6 b7 b8 Mu Ob OA UO OI))
  ((Ag n) t1 t8 WC (As (Rn+1)) AL A7 Ac b1 b2 b3 b4 b5 b6 b7 b8 Mu Ob OA UO OI)) else none)
 ((aj (b1,AL,b2,b3,b4,A7,b5,b6,b7,b8,Ac,()) Mu).bind fun Si=>
 (Ua (b1,AL,()) (b4,A7,()) Si.1.1 (Mu,Ob,OA,()) UO).bind fun T2=>
 cond (T2.1.1.2.1 !=0)
  (some ((5,()),(((),AL,(),(),(),A7,(),(),(),(),Ac,()),b1,b2,b3,b4,b5,b6,b7,b8,())))
 (if (0:Int)≤t1∧t1<(b7.length:Int) then (
 some ((0,()),(((),AL,(),(),(),A7,(),(),(),(),Ac,()),b1,b2,b3,b4,b5,b6,(b7.set (t1.toNat) (T2.1.1.1.1,T2.1.1.1.2.1,T2.2.1,())),b8,()))) else none))) v
theorem ZI:AU []:=by delta AU;intros;kernel_rfl
theorem ZF:AU (false::[]):=by delta AU;intros;kernel_rfl
theorem Xy:AU (false::false::[]):=by delta AU;intros;kernel_rfl
theorem YP (ω:List Bool):AU (false::false::false::ω):=by delta AU;intros;kernel_rfl
theorem YT:AU (false::false::true::[]):=by delta AU;intros;kernel_rfl
theorem X_ (ω:List Bool):AU (false::false::true::false::ω):=by delta AU;intros;kernel_rfl
theorem Yo (ω:List Bool):AU (false::false::true::true::ω):=by delta AU;intros;kernel_rfl
theorem Yb:AU (false::true::[]):=by delta AU;intros;kernel_rfl
theorem Xx (ω:List Bool):AU (false::true::false::ω):=by delta AU;intros;kernel_rfl
theorem Wh:AU (false::true::true::[]):=by delta AU;intros;kernel_rfl
theorem Xd (ω:List Bool):AU (false::true::true::false::ω):=by delta AU;intros;kernel_rfl
theorem XE:AU (false::true::true::true::[]):=by delta AU;intros;kernel_rfl
theorem W0 (ω:List Bool):AU (false::true::true::true::false::ω):=by delta AU;intros;kernel_rfl
theorem Wc (ω:List Bool):AU (false::true::true::true::true::ω):=by delta AU;intros;kernel_rfl
theorem W9:AU (true::[]):=by delta AU;intros;kernel_rfl
theorem XO:AU (true::false::[]):=by delta AU;intros;kernel_rfl
theorem XK:AU (true::false::false::[]):=by delta AU;intros;kernel_rfl
theorem Wl (ω:List Bool):AU (true::false::false::false::ω):=by delta AU;intros;kernel_rfl
theorem XT (ω:List Bool):AU (true::false::false::true::ω):=by delta AU;intros;kernel_rfl
theorem Wq:AU (true::false::true::[]):=by delta AU;intros;kernel_rfl
theorem Wp (ω:List Bool):AU (true::false::true::false::ω):=by delta AU;intros;kernel_rfl
theorem XX:AU (true::false::true::true::[]):=by delta AU;intros;kernel_rfl
theorem Wg (ω:List Bool):AU (true::false::true::true::false::ω):=by delta AU;intros;kernel_rfl
theorem XG (ω:List Bool):AU (true::false::true::true::true::ω):=by delta AU;intros;kernel_rfl
theorem XM:AU (true::true::[]):=by delta AU;intros;kernel_rfl
theorem W4 (ω:List Bool):AU (true::true::false::ω):=by delta AU;intros;kernel_rfl
theorem WX:AU (true::true::true::[]):=by delta AU;intros;kernel_rfl
theorem W_ (ω:List Bool):AU (true::true::true::false::ω):=by delta AU;intros;kernel_rfl
theorem XH (ω:List Bool):AU (true::true::true::true::ω):=by delta AU;intros;kernel_rfl
theorem bS (aj:m7→Int→Option D7) (dN:Int→Int→Int→Option IX) (Uo:m7→Int→Option EF) (VK:Int→Option Cm) (Vf:Int→Int→Option F8) (UE:nM→Int→Option Gd) (Ua:m9→nI→Int→nG→nE→Option C9) (n:Nat) (v:Lv.V) (ω:List Bool):Pj ⟨T,T0 [(17,⟨cU,gP,cU.un aj⟩),(50,⟨cQ,gV,cQ.un dN⟩),(149,⟨U7,Zq,U7.un Uo⟩),(216,⟨VT,aR,VT.un VK⟩),(218,⟨Vv,Zh,Vv.un Vf⟩),(244,⟨Vu,Z2,Vu.un UE⟩),(245,⟨Vn,Zx,Vn.un Ua⟩)],ID [(13,[0,1,2]),(16,[0,1,2,3,4])]⟩ X6 Tryz.f144 (Rt 9 XF n) 7 ω (Lv.st 111 v)=Lv.un (fun (t1:Int) (t8:Int) (WC:Int) (Rn:Int) (AL:Int) (A7:Int) (Ac:Bool) (b1:mr) (b2:my) (b3:mr) (b4:mw) (b5:mz) (b6:m6) (b7:mv) (b8:m5) (Mu:Int) (Ob:Int) (OA:nA) (UO:nE) (OI:mr)=>
 cond (decide (Rn<WC))
  (if (0:Int)≤Rn∧Rn<(OI.length:Int) then (
  let x8:Int:=(OI.getD (Rn.toNat) 0)
  cond ((decide (x8<(b2.length:Int))))
   ((Uo (b1,AL,b2,b3,b4,A7,b5,b6,b7,b8,Ac,()) x8).bind fun Uv=>
   cond (!Uv.1.1)
    (if (0:Int)≤x8∧x8<(b2.length:Int) then (
    (UE ((b2.getD (x8.toNat) ([],[],0,())).1,(b2.getD (x8.toNat) ([],[],0,())).2.1,(b2.getD (x8.toNat) ([],[],0,())).2.2.1,()) t8).bind fun P0=>
    if UO.length+1≤Go.M.I8 then (
    (Ag n) t1 t8 WC (As (Rn+1)) AL A7 Ac b1 b2 b3 b4 b5 b6 b7 b8 Mu Ob OA (UO++[(x8,P0.1.1.2.1,P0.1.1.1.1,P0.1.1.1.2.1,P0.1.1.1.2.2.1,P0.1.1.1.2.2.2.1,())]) OI) else none) else none)
   ((Ag n) t1 t8 WC (As (Rn+1)) AL A7 Ac b1 b2 b3 b4 b5 b6 b7 b8 Mu Ob OA UO OI))
  ((Ag n) t1 t8 WC (As (Rn+1)) AL A7 Ac b1 b2 b3 b4 b5 b6 b7 b8 Mu Ob OA UO OI)) else none)
 ((aj (b1,AL,b2,b3,b4,A7,b5,b6,b7,b8,Ac,()) Mu).bind fun Si=>
 (Ua (b1,AL,()) (b4,A7,()) Si.1.1 (Mu,Ob,OA,()) UO).bind fun T2=>
 cond (T2.1.1.2.1 !=0)
  (some ((5,()),(((),AL,(),(),(),A7,(),(),(),(),Ac,()),b1,b2,b3,b4,b5,b6,b7,b8,())))
 (if (0:Int)≤t1∧t1<(b7.length:Int) then (
 some ((0,()),(((),AL,(),(),(),A7,(),(),(),(),Ac,()),b1,b2,b3,b4,b5,b6,(b7.set (t1.toNat) (T2.1.1.1.1,T2.1.1.1.2.1,T2.2.1,())),b8,()))) else none))) v:=(Aj ZI (Aj ZF (Aj Xy YP (Aj YT X_ Yo)) (Aj Yb Xx (Aj Wh Xd (Aj XE W0 Wc)))) (Aj W9 (Aj XO (Aj XK Wl XT) (Aj Wq Wp (Aj XX Wg XG))) (Aj XM W4 (Aj WX W_ XH)))) ω aj dN Uo VK Vf UE Ua n v
theorem dO (n:Nat) (v:Lv.V) (ω:List Bool):Pj fo X6 Tryz.f144 (Rt 9 XF n) 7 ω (Lv.st 111 v)=Lv.un (FB (Ag n)) v:=bS Fa Ah CX EZ Db Ey Dt n v ω
theorem iS (aj:m7→Int→Option D7) (dN:Int→Int→Int→Option IX) (Uo:m7→Int→Option EF) (VK:Int→Option Cm) (Vf:Int→Int→Option F8) (UE:nM→Int→Option Gd) (Ua:m9→nI→Int→nG→nE→Option C9) (n:Nat) (ω:List Bool) (v:U8.V):I5 ⟨T,T0 [(17,⟨cU,gP,cU.un aj⟩),(50,⟨cQ,gV,cQ.un dN⟩),(149,⟨U7,Zq,U7.un Uo⟩),(216,⟨VT,aR,VT.un VK⟩),(218,⟨Vv,Zh,Vv.un Vf⟩),(244,⟨Vu,Z2,Vu.un UE⟩),(245,⟨Vn,Zx,Vn.un Ua⟩)],ID [(13,[0,1,2]),(16,[0,1,2,3,4])]⟩ X6 Tryz.f144 (Rt 9 XF n) ω v=U8.un (fun (p1:Int) (p2:Int) (AL:Int) (A7:Int) (Ac:Bool) (b1:mr) (b2:my) (b3:mr) (b4:mw) (b5:mz) (b6:m6) (b7:mv) (b8:m5)=>
 (dN p1 0 (As ((b7.length:Int)-1))).bind fun u2=>
 cond (!u2.1.1)
  (some ((2,()),(((),AL,(),(),(),A7,(),(),(),(),Ac,()),b1,b2,b3,b4,b5,b6,b7,b8,())))
 (if (0:Int)≤p1∧p1<(b7.length:Int) then (
 (Vf ((b7.getD (p1.toNat) (0,0,[],())).1) ((b7.getD (p1.toNat) (0,0,[],())).2.1)).bind fun u5=>
 (VK p2).bind fun u6=>
 (Ag n) p1 u5.1.1.1 (u6.2.1.length:Int) 0 AL A7 Ac b1 b2 b3 b4 b5 b6 b7 b8 ((b7.getD (p1.toNat) (0,0,[],())).1) ((b7.getD (p1.toNat) (0,0,[],())).2.1) ((b7.getD (p1.toNat) (0,0,[],())).2.2.1) [] u6.2.1) else none)) v:=by kernel_rfl
theorem g8 (n:Nat) (ω:List Bool) (v:U8.V):I5 fo X6 Tryz.f144 (Rt 9 XF n) ω v=U8.un (E5 (Ag n)) v:=iS Fa Ah CX EZ Db Ey Dt n ω v
def jE:SQ:=mk Tryz.func144 U8 cS Es [jG,U2,dR,fJ,a7,eH,er] [(13,[0,1,2]),(16,[0,1,2,3,4])] XF (hJ:= .cons (fun _=>rfl) dO (.nil)) (he:=g8 Ao)
def lK:SQ:=mk Tryz.func53 ⟨[(0,M1),(1,.row gN)],[Za,N2,.sl 2 Y2,N2,.sl 2 Y3,.sl 3 Y6,.sl 3 Y7,.sl 2 Y9,.sl 1 XJ]⟩ fQ H4 [U2,jE] [(27,[0]),(34,[0,1,2,3,4,5,6,7,8,9]),(36,[0,1,2,3,4,5,6,7,8,9])] [] (he:=fun ω v=>by rcases ω with _|⟨_|_,_|⟨_|_,_⟩⟩<;>kernel_rfl)
def l9:SQ:=mk Tryz.func13 ⟨[(0,.row ec),(1,.row gN)],[]⟩ ⟨[(0,.Hi [.inr [.ref 0,.v tI,.ref 1,.ref 2,.ref 3,.v tI,.ref 4,.ref 5,.ref 6,.ref 7,.v .bool],.inl (.v tI)])],[N2,.sl 2 Y2,N2,.sl 2 Y3,.sl 3 Y6,.sl 3 Y7,.sl 1 Y9,.sl 1 XJ]⟩ Ga [aM,mC,lj,lK] [] []
def ke:SQ:=mk Tryz.func68 ⟨[(0,.row Y8)],[]⟩ D4 IP [] [] []
def k7:SQ:=mk Tryz.func28 UM D4 GY [aM,ke] [] [⟨2,eO,Bm⟩,⟨6,⟨[(1,M1),(5,Bk),(6,.c (.v .bool)),(10,YN),(11,Bk),(12,Bk),(17,X7),(18,Bk),(19,Bk)],XW⟩,Ck⟩]
def kR:SQ:=mk Tryz.func69 fX f9 KY [] [] [⟨2,⟨[(1,Bk),(9,jI),(10,Bk),(11,Bk)],[]⟩,Fj⟩]
def lO:SQ:=mk Tryz.func29 UM D4 HJ [aM,kR] [] [⟨2,eO,B8⟩,⟨5,⟨[(1,M1),(10,YN),(11,Bk),(12,Bk),(17,X7),(18,Bk),(19,Bk)],XW⟩,CZ⟩]
def j6:SQ:=mk Tryz.func70 ⟨[(0,.row Y9),(1,Bk)],[]⟩ f9 H5 [] [] [⟨2,⟨[(1,Bk),(9,X7),(10,Bk),(11,Bk)],[]⟩,Hc⟩]
def mX:SQ:=mk Tryz.func30 UM D4 HK [aM,j6,ik] [] [⟨4,⟨[(1,M1),(19,YN),(20,Bk),(21,Bk)],XW⟩,B4⟩,⟨7,⟨[(1,M1),(4,Yw),(19,YN),(20,Bk),(21,Bk),(26,jI),(27,Bk),(28,Bk)],[cL,.mem [.v tI,.v tI,.sl false Y8]]⟩,CW⟩]
def lT:SQ:=mk Tryz.func31 UM D4 Gc [aM] [] [⟨4,⟨[(17,YN),(18,Bk),(19,Bk)],[]⟩,BK⟩,⟨7,⟨[(17,YN),(18,Bk),(19,Bk),(24,X7),(25,Bk),(26,Bk)],[]⟩,CI⟩]
def lx:SQ:=mk Tryz.func32 UM D4 HZ [aM,j6,ik,gf] [(9,[0,1]),(11,[0,1]),(12,[0,1])] [⟨4,⟨[(1,M1),(22,YN),(23,Bk),(24,Bk)],XW⟩,B9⟩,⟨7,⟨[(1,M1),(22,YN),(23,Bk),(24,Bk),(29,X7),(30,Bk),(31,Bk)],XW⟩,CY⟩]
def lW:SQ:=mk Tryz.func16 UM D4 IL [k7,lO,mX,lT,lx] [] []
abbrev i3:Cq:=cm
abbrev o3:Cq:=D4
def s3:SQ:=mk Tryz.func3 i3 o3 Jg [s8,s9,lf,ko,dY,l9,lp,aM,lW,jG] [(9,[0,1,2,3,4,5,6,7,8,9,10])] [] (he:=fun ω v=>by rcases ω with _|⟨_|_,_|⟨_|_,_⟩⟩<;>kernel_rfl)
end
end Go.Proofs.YtdofdihhmbbbhaaGreat.Wk
