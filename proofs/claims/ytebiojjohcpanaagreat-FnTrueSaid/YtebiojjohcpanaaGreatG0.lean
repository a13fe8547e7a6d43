/- What each function computes, printed by a program out of the translation; what is printed is checked in the equations. -/
import Derived.Test.YtebiojjohcpanaaGreatF1
set_option linter.unusedVariables false
set_option linter.unusedSimpArgs false
set_option linter.unusedSectionVars false
namespace Go.M
noncomputable section
abbrev Xg:Type:=ABq×Unit
def Xn(p0:AAC):Option Xg:=
 some (((decide ((p0.length:Int)>1048576)),()),())
abbrev Wv:Type:=ACu×AEO
abbrev aF:Type:=List Int->Int->Int->Option Wv
def aw(R3:aF)(t0:AAC)(t3 t4:Int):Option Wv:=
 cond ((decide (t4<(t0.length:Int))))
  (cond (decide (t4<4000))
   (if(0:Int)<=t4/\t4<(t0.length:Int)then(
   R3 t0 (dY .i64 (Aa ((Aa ((Aa (t3*131))+(Aa ((t0.getD (t4.toNat) 0)))))+7)) 1073741823) (Aa (t4+1)))else none)
  (some (((),()),((t0,0,t3,()),()))))
 (some (((),()),((t0,0,t3,()),())))
def QI:Nat->aF
 |0=>fun _ _ _=>none
 |n+1=>aw (QI n)
def bP(R3:aF)(p0:AAC):Option Wv:=
 R3 p0 (Aa (17817+(p0.length:Int))) 0
def cT(p0:AAC):Option Wv:=bP (QI Ae) p0
abbrev sX:Type:=ABu×AEO
def MK(AR:AAC)(AE Am:Int):Option sX:=
 let x2:Int:=Aa ((Aa (Am*6364136223846793005))+1442695040888963407)
 let x3:Int:=ATx .i64 (x2.fdiv (2^33)) (x2.fdiv (2^45))
 cond ((decide (AE<(AR.length:Int))))
  (if(0:Int)<=AE/\AE<(AR.length:Int)then(
  some ((dY .i64 (Aa ((dY .i64 x3 255)+(Aa ((AR.getD (AE.toNat) 0))))) 255,()),((AR,Aa (AE+1),x2,()),())))else none)
 (some ((dY .i64 x3 255,()),((AR,AE,x2,()),())))
abbrev pT:Type:=ABu×AEO
def An(p1:Int)(AR:AAC)(AE Am:Int):Option pT:=
 cond (decide (p1<=0))
  (some ((0,()),((AR,AE,Am,()),())))
 (cond (decide (p1<=256))
  ((MK AR AE Am).bind fun u1=>
  if p1=0 then none else(
  some ((u1.1.1.tmod p1,()),((u1.2.1.1,u1.2.1.2.1,u1.2.1.2.2.1,()),()))))
 ((MK AR AE Am).bind fun u2=>
 (MK u2.2.1.1 u2.2.1.2.1 u2.2.1.2.2.1).bind fun u3=>
 (MK u3.2.1.1 u3.2.1.2.1 u3.2.1.2.2.1).bind fun u4=>
 (MK u4.2.1.1 u4.2.1.2.1 u4.2.1.2.2.1).bind fun u5=>
 if p1=0 then none else(
 some ((((Aa ((Aa ((Aa ((Aa (u2.1.1*16777216))+(Aa (u3.1.1*65536))))+(Aa (u4.1.1*256))))+u5.1.1)).tmod p1),()),((u5.2.1.1,u5.2.1.2.1,u5.2.1.2.2.1,()),())))))
abbrev sB:Type:=ABq×AEO
def CB(p1:Int)(AR:AAC)(AE Am:Int):Option sB:=
 (An p1 AR AE Am).bind fun u1=>
 some ((u1.1.1==0,()),((u1.2.1.1,u1.2.1.2.1,u1.2.1.2.2.1,()),()))
abbrev MP:Type:=AFa×AGc
abbrev P3:Type:=Int->Int->List Int->Int->Int->Int->List Int->Int->List Int->Option MP
def Su(R4:P3)(t4 t5:Int)(AR:AAC)(AE Am Bn:Int)(b2:AAC)(vB:Int)(b4:AAC):Option MP:=
 cond (decide (t5<t4))
  ((An 5 AR AE Am).bind fun u3=>
  if b4.length+1<=D8 then(
  R4 t4 (Aa (t5+1)) u3.2.1.1 u3.2.1.2.1 u3.2.1.2.2.1 Bn b2 vB (b4++[u3.1.1]))else none)
 ((CB 2 AR AE Am).bind fun u5=>
 cond (u5.1.1)
  (some ((((),2,()),()),((u5.2.1.1,u5.2.1.2.1,u5.2.1.2.2.1,()),b4,())))
 (some ((((),vB,()),()),((u5.2.1.1,u5.2.1.2.1,u5.2.1.2.2.1,()),b4,()))))
def Ik:Nat->P3
 |0=>fun _ _ _ _ _ _ _ _ _=>none
 |n+1=>Su (Ik n)
def Sg(R4:P3)(AR:AAC)(AE Am:Int):Option MP:=
 (An 3 AR AE Am).bind fun u1=>
 (An 5 u1.2.1.1 u1.2.1.2.1 u1.2.1.2.2.1).bind fun u2=>
 R4 (Aa (3+u2.1.1)) 0 u2.2.1.1 u2.2.1.2.1 u2.2.1.2.2.1 0 [] (Aa (1+u1.1.1)) []
def PJ(AR:AAC)(AE Am:Int):Option MP:=Sg (Ik Ae) AR AE Am
abbrev k9:Type:=ABu×AEO
def Og(p1 AR:AAC)(AE Am:Int):Option k9:=
 (An (p1.length:Int) AR AE Am).bind fun u1=>
 if(0:Int)<=u1.1.1/\u1.1.1<(p1.length:Int)then(
 some (((p1.getD (u1.1.1.toNat) 0),()),((u1.2.1.1,u1.2.1.2.1,u1.2.1.2.2.1,()),())))else none
abbrev cq:Type:=ACu×AC2
def DT(p0:AAC):Option cq:=
 if 0+p0.length<=D8 then(
 some (((),()),(p0,())))else none
abbrev ka:Type:=AFa×AC2
def Qj(p0:ABU):Option ka:=
 (DT p0.1).bind fun u1=>
 some ((((),p0.2.1,()),()),(u1.2.1,()))
abbrev NN:Type:=ABq×Unit
def BC(p0 p1 p2:Int):Option NN:=
 cond (decide (p0>=p1))
  (some ((decide (p0<=p2),()),()))
 (some ((false,()),()))
abbrev Ql:Type:=ABq×Unit
abbrev Tw:Type:=List Int->Int->Int->List Int->Int->Option Ql
def WS(R2:Tw)(t6:AAC)(t7 t8:Int)(AR:AAC)(AE:Int):Option Ql:=
 cond (decide (t8<t7))
  (if(0:Int)<=t8/\t8<(t6.length:Int)then(
  (BC (t6.getD (t8.toNat) 0) 0 7).bind fun u2=>
  cond (!u2.1.1)
   (some ((false,()),()))
  (R2 t6 t7 (Aa (t8+1)) AR AE))else none)
 ((BC (AR.length:Int) 1 8).bind fun u3=>
 cond (u3.1.1)
  ((BC AE 1 4).bind fun u4=>
  some ((u4.1.1,()),()))
 (some ((false,()),())))
def Ld:Nat->Tw
 |0=>fun _ _ _ _ _=>none
 |n+1=>WS (Ld n)
def V8(R2:Tw)(p0:ABU):Option Ql:=
 R2 p0.1 (p0.1.length:Int) 0 p0.1 p0.2.1
def FI(p0:ABU):Option Ql:=V8 (Ld Ae) p0
abbrev R0:Type:=ABq×Unit
abbrev Va:Type:=List Int->Int->List Int->Int->Int->Option R0
def Qo(R2:Va)(t0:AAC)(t1:Int)(t7:AAC)(t8 t9:Int):Option R0:=
 cond (decide (t9<t8))
  (if(0:Int)<=t9/\t9<(t7.length:Int)then(
  let x1:Int:=(t7.getD (t9.toNat) 0)
  (BC x1 0 t1).bind fun u2=>
  cond (!u2.1.1)
   (some ((false,()),()))
  (cond (decide (t9>0))
   (if(0:Int)<=Aa (t9-1)/\Aa (t9-1)<(t0.length:Int)then(
   cond (decide ((t0.getD ((Aa (t9-1)).toNat) 0)>=x1))
    (some ((false,()),()))
   (R2 t0 t1 t7 t8 (Aa (t9+1))))else none)
  (R2 t0 t1 t7 t8 (Aa (t9+1)))))else none)
 (some ((true,()),()))
def KP:Nat->Va
 |0=>fun _ _ _ _ _=>none
 |n+1=>Qo (KP n)
def XY(R2:Va)(p0:AAC)(p1:Int):Option R0:=
 R2 p0 p1 p0 (p0.length:Int) 0
def WU(p0:AAC)(p1:Int):Option R0:=XY (KP Ae) p0 p1
abbrev qZ:Type:=ABq×Unit
def EH(p0:ABU)(p1:AAC):Option qZ:=
 (FI (p0.1,p0.2.1,())).bind fun u1=>
 cond (u1.1.1)
  ((WU p1 (Aa ((p0.1.length:Int)-1))).bind fun u3=>
  some ((u3.1.1,()),()))
 (some ((false,()),()))
abbrev pf:Type:=ABq×Unit
def Hq(p0:Int):Option pf:=
 (BC p0 1 30).bind fun u1=>
 some ((u1.1.1,()),())
abbrev wM:Type:=ABq×Unit
def XG(p0:Int):Option wM:=
 (BC p0 1 60).bind fun u1=>
 some ((u1.1.1,()),())
abbrev rK:Type:=ABq×Unit
def Dw(p0:Int):Option rK:=
 (Hq (Aa (p0.tdiv 4294967296))).bind fun u2=>
 cond (u2.1.1)
  ((XG (p0.tmod 4294967296)).bind fun u3=>
  some ((u3.1.1,()),()))
 (some ((false,()),()))
abbrev sD:Type:=ABq×Unit
def GV(p0:ACB):Option sD:=
 some (((decide ((p0.length:Int)<=40)),()),())
abbrev p_:Type:=ABu×Unit
def FR(p0:Int):Option p_:=
 (Dw p0).bind fun u1=>
 cond (!u1.1.1)
  (some ((0,()),()))
 (some (((Aa (p0.tdiv 4294967296)),()),()))
abbrev qx:Type:=ABq×Unit
def Mj(p0:ADr):Option qx:=
 (BC p0.2.1 0 30).bind fun u1=>
 cond (u1.1.1)
  (cond (p0.2.1==0)
   (cond (!p0.2.2.1)
    ((Dw p0.1).bind fun u2=>
    cond (u2.1.1)
     ((GV p0.2.2.2.1).bind fun u3=>
     some ((u3.1.1,()),()))
    (some ((false,()),())))
   (cond (decide (p0.2.1>0))
    ((Dw p0.1).bind fun u4=>
    cond (u4.1.1)
     (cond (p0.2.2.2.1==[])
      ((GV p0.2.2.2.1).bind fun u5=>
      some ((u5.1.1,()),()))
     (some ((false,()),())))
    (some ((false,()),())))
   ((Dw p0.1).bind fun u6=>
   cond (u6.1.1)
    (some ((false,()),()))
   (some ((false,()),())))))
  ((FR p0.1).bind fun u7=>
  let x8:Bool:=decide (p0.2.1>u7.1.1)
  cond (!p0.2.2.1)
   ((Dw p0.1).bind fun u9=>
   cond (u9.1.1)
    (cond (x8)
     ((GV p0.2.2.2.1).bind fun EP=>
     some ((EP.1.1,()),()))
    (some ((false,()),())))
   (some ((false,()),())))
  (cond (decide (p0.2.1>0))
   ((Dw p0.1).bind fun M6=>
   cond (M6.1.1)
    (cond (x8)
     (cond (p0.2.2.2.1==[])
      ((GV p0.2.2.2.1).bind fun bX=>
      some ((bX.1.1,()),()))
     (some ((false,()),())))
    (some ((false,()),())))
   (some ((false,()),())))
  ((Dw p0.1).bind fun XC=>
  cond (XC.1.1)
   (cond (x8)
    (some ((false,()),()))
   (some ((false,()),())))
  (some ((false,()),()))))))
 (cond (!p0.2.2.1)
  ((Dw p0.1).bind fun V0=>
  cond (V0.1.1)
   (some ((false,()),()))
  (some ((false,()),())))
 (cond (decide (p0.2.1>0))
  ((Dw p0.1).bind fun u15=>
  cond (u15.1.1)
   (some ((false,()),()))
  (some ((false,()),())))
 ((Dw p0.1).bind fun u16=>
 cond (u16.1.1)
  (some ((false,()),()))
 (some ((false,()),())))))
abbrev PM:Type:=ABq×Unit
abbrev Rw:Type:=ABR->Int->Int->Option PM
def OM(R2:Rw)(t5:ABR)(t6 t7:Int):Option PM:=
 cond (decide (t7<t6))
  (if(0:Int)<=t7/\t7<(t5.length:Int)then(
  (Mj ((t5.getD (t7.toNat) (0,0,false,[],())).1,(t5.getD (t7.toNat) (0,0,false,[],())).2.1,(t5.getD (t7.toNat) (0,0,false,[],())).2.2.1,(t5.getD (t7.toNat) (0,0,false,[],())).2.2.2.1,())).bind fun u1=>
  cond (!u1.1.1)
   (some ((false,()),()))
  (R2 t5 t6 (Aa (t7+1))))else none)
 (some ((true,()),()))
def II:Nat->Rw
 |0=>fun _ _ _=>none
 |n+1=>OM (II n)
def VV(R2:Rw)(p0:ABR):Option PM:=
 R2 p0 (p0.length:Int) 0
def OZ(p0:ABR):Option PM:=VV (II Ae) p0
abbrev LD:Type:=ABq×Unit
abbrev O5:Type:=ABR->ABR->Int->Int->Option LD
def Lv(R2:O5)(t0 t5:ABR)(t6 t7:Int):Option LD:=
 cond (decide (t7<t6))
  (if(0:Int)<=t7/\t7<(t5.length:Int)then(
  cond (decide (t7>0))
   (if(0:Int)<=Aa (t7-1)/\Aa (t7-1)<(t0.length:Int)then(
   cond (decide (((t0.getD ((Aa (t7-1)).toNat) (0,0,false,[],())).1)>=((t5.getD (t7.toNat) (0,0,false,[],())).1)))
    (some ((false,()),()))
   (R2 t0 t5 t6 (Aa (t7+1))))else none)
  (R2 t0 t5 t6 (Aa (t7+1))))else none)
 (some ((true,()),()))
def GM:Nat->O5
 |0=>fun _ _ _ _=>none
 |n+1=>Lv (GM n)
def Rg(R2:O5)(p0:ABR):Option LD:=
 R2 p0 p0 (p0.length:Int) 0
def Kr(p0:ABR):Option LD:=Rg (GM Ae) p0
abbrev qK:Type:=ABq×Unit
def FT(p0:ACt):Option qK:=
 cond ((decide ((p0.1.length:Int)>200)))
  (some ((false,()),()))
 (cond (decide ((p0.2.1.length:Int)>20))
  (some ((false,()),()))
 ((OZ p0.1).bind fun u3=>
 cond (u3.1.1)
  ((OZ p0.2.1).bind fun u4=>
  cond (u4.1.1)
   ((Kr p0.1).bind fun u5=>
   cond (u5.1.1)
    ((BC p0.2.2.1 0 30).bind fun u6=>
    some ((u6.1.1,()),()))
   (some ((false,()),())))
  (some ((false,()),())))
 (some ((false,()),()))))
abbrev Ix:Type:=ABu×Unit
abbrev Lf:Type:=List Int->Int->Int->Int->Option Ix
def OU(R2:Lf)(t0:AAC)(t1 t7 t8:Int):Option Ix:=
 cond (decide (t8<t7))
  (if(0:Int)<=t8/\t8<(t0.length:Int)then(
  cond (t1==(t0.getD (t8.toNat) 0))
   (some ((t8,()),()))
  (R2 t0 t1 t7 (Aa (t8+1))))else none)
 (some (((-1),()),()))
def GY:Nat->Lf
 |0=>fun _ _ _ _=>none
 |n+1=>OU (GY n)
def Om(R2:Lf)(p0:AAC)(p1:Int):Option Ix:=
 R2 p0 p1 (p0.length:Int) 0
def Ot(p0:AAC)(p1:Int):Option Ix:=Om (GY Ae) p0 p1
abbrev YZ:Type:=ABq×Unit
def Bz(p0:AAC)(p1:Int):Option YZ:=
 (Ot p0 p1).bind fun u1=>
 some ((decide (u1.1.1>=0),()),())
abbrev sa:Type:=ABq×Unit
def Ra(p0:Int)(p1:AC2):Option sa:=
 (Bz p1.1 p0).bind fun u1=>
 some ((!u1.1.1,()),())
abbrev DX:Type:=ABu×Unit
abbrev Ep:Type:=List Int->(AC2×Unit)->Int->Int->Option DX
def EG(R2:Ep)(t0:AAC)(t1:AC2×Unit)(t7 t8:Int):Option DX:=
 cond (decide (t8<t7))
  (if(0:Int)<=t8/\t8<(t0.length:Int)then(
  (Ra (t0.getD (t8.toNat) 0) t1.1).bind fun u2=>
  cond (u2.1.1)
   (some ((t8,()),()))
  (R2 t0 (t1.1,()) t7 (Aa (t8+1))))else none)
 (some (((-1),()),()))
def CD:Nat->Ep
 |0=>fun _ _ _ _=>none
 |n+1=>EG (CD n)
def EJ(R2:Ep)(p0:AAC)(p1:AC2×Unit):Option DX:=
 R2 p0 (p1.1,()) (p0.length:Int) 0
def Du(p0:AAC)(p1:AC2×Unit):Option DX:=EJ (CD Ae) p0 p1
abbrev DU:Type:=ACu×AGg
abbrev Eh:Type:=(AC2×Unit)->Int->Int->List Int->Option DU
def EA(R5:Eh)(t1:AC2×Unit)(t5 t6:Int)(b0:AAC):Option DU:=
 cond ((decide (t6<(b0.length:Int))))
  (if(0:Int)<=t6/\t6<(b0.length:Int)then(
  let x3:Int:=(b0.getD (t6.toNat) 0)
  (Ra x3 t1.1).bind fun u4=>
  cond (!u4.1.1)
   (if(0:Int)<=t5/\t5<(b0.length:Int)then(
   R5 (t1.1,()) (Aa (t5+1)) (Aa (t6+1)) (b0.set (t5.toNat) x3))else none)
  (R5 (t1.1,()) t5 (Aa (t6+1)) b0))else none)
 (if(0:Int)<=t5/\t5<=(b0.length:Int)/\(b0.length:Int)<=(b0.length:Int)then(
 let x6:AAC:=(b0.take (t5.toNat)++List.replicate (((b0.length:Int).toNat)-(t5.toNat)) 0++b0.drop ((t5.toNat)+(((b0.length:Int).toNat)-(t5.toNat))))
 if(0:Int)<=(0:Int)/\(0:Int)<=t5/\t5<=(x6.length:Int)then(
 some (((),()),((),((x6.drop 0).take ((t5.toNat)-0)),())))else none)else none)
def B6:Nat->Eh
 |0=>fun _ _ _ _=>none
 |n+1=>EA (B6 n)
def EC(R5:Eh)(p1:AC2×Unit)(b0:AAC):Option DU:=
 (Du b0 (p1.1,())).bind fun u1=>
 cond (u1.1.1==(-1))
  (some (((),()),((),b0,())))
 (R5 (p1.1,()) u1.1.1 (Aa (u1.1.1+1)) b0)
def Cy(p1:AC2×Unit)(b0:AAC):Option DU:=EC (B6 Ae) p1 b0
abbrev yW:Type:=ACu×AC2
def NO(p0 p1:AAC):Option yW:=
 (DT p0).bind fun u1=>
 (Cy ((p1,()),()) u1.2.1).bind fun u2=>
 some (((),()),(u2.2.2.1,()))
abbrev LJ:Type:=ABq×Unit
def DI(p0:ABg)(p1:Int):Option LJ:=
 (NO [p1] p0.2.2.2.1).bind fun u1=>
 some ((decide ((u1.2.1.length:Int)>0),()),())
abbrev Ua:Type:=ABu×Unit
abbrev Xo:Type:=List Int->Int->Int->List Int->Int->List Int->Option Ua
def Yp(R5:Xo)(t13:AAC)(t14 t15:Int)(AR:AAC)(AE:Int)(b1:AAC):Option Ua:=
 cond (decide (t15<t14))
  (if(0:Int)<=t15/\t15<(t13.length:Int)then(
  let x2:Int:=(t13.getD (t15.toNat) 0)
  if(0:Int)<=x2/\x2<(AR.length:Int)then(
  (Bz b1 (AR.getD (x2.toNat) 0)).bind fun u4=>
  cond (!u4.1.1)
   (if(0:Int)<=x2/\x2<(AR.length:Int)then(
   if b1.length+1<=D8 then(
   R5 t13 t14 (Aa (t15+1)) AR AE (b1++[(AR.getD (x2.toNat) 0)]))else none)else none)
  (R5 t13 t14 (Aa (t15+1)) AR AE b1))else none)else none)
 (some (((b1.length:Int),()),()))
def O_:Nat->Xo
 |0=>fun _ _ _ _ _ _=>none
 |n+1=>Yp (O_ n)
def ZD(R5:Xo)(p0:ABU)(p1:AAC):Option Ua:=
 (EH (p0.1,p0.2.1,()) p1).bind fun u1=>
 cond (!u1.1.1)
  (some (((-1),()),()))
 (R5 p1 (p1.length:Int) 0 p0.1 p0.2.1 [])
def Yz(p0:ABU)(p1:AAC):Option Ua:=ZD (O_ Ae) p0 p1
abbrev kZ:Type:=ABq×Unit
def G3(p0:ABU)(p1:AAC):Option kZ:=
 (EH (p0.1,p0.2.1,()) p1).bind fun u1=>
 cond (u1.1.1)
  ((Yz (p0.1,p0.2.1,()) p1).bind fun u2=>
  some (((decide (u2.1.1>=p0.2.1)),()),()))
 (some ((false,()),()))
abbrev J5:Type:=ABq×Unit
abbrev MX:Type:=ABg->AAT->Int->Int->Option J5
def KA(R4:MX)(t0:ABg)(t32:AAT)(t33 t34:Int):Option J5:=
 cond (decide (t34<t33))
  (if(0:Int)<=t34/\t34<(t32.length:Int)then(
  (FT ((t32.getD (t34.toNat) ([],[],0,())).1,(t32.getD (t34.toNat) ([],[],0,())).2.1,(t32.getD (t34.toNat) ([],[],0,())).2.2.1,())).bind fun u5=>
  cond (!u5.1.1)
   (some ((false,()),()))
  ((DI t0 t34).bind fun u6=>
  cond (u6.1.1)
   (cond (decide ((Aa ((Aa ((((t32.getD (t34.toNat) ([],[],0,())).1).length:Int)+(((t32.getD (t34.toNat) ([],[],0,())).2.1).length:Int)))+((t32.getD (t34.toNat) ([],[],0,())).2.2.1)))>0))
    (some ((false,()),()))
   (R4 t0 t32 t33 (Aa (t34+1))))
  (R4 t0 t32 t33 (Aa (t34+1)))))else none)
 (cond (t0.2.2.2.2.2.2.2.2.2.2.1)
  (some ((true,()),()))
 ((G3 (t0.1,t0.2.1,()) t0.2.2.2.1).bind fun bX=>
 some ((!bX.1.1,()),())))
def FN:Nat->MX
 |0=>fun _ _ _ _=>none
 |n+1=>KA (FN n)
def Pw(R4:MX)(p0:ABg):Option J5:=
 cond (((p0.2.2.1.length:Int) !=(p0.1.length:Int)))
  (some ((false,()),()))
 ((EH (p0.1,p0.2.1,()) p0.2.2.2.1).bind fun u3=>
 cond (!u3.1.1)
  (some ((false,()),()))
 (R4 p0 p0.2.2.1 (p0.2.2.1.length:Int) 0))
def LH(p0:ABg):Option J5:=Pw (FN Ae) p0
abbrev vJ:Type:=ABq×Unit
def bl(p0:ABU)(p1:AFu):Option vJ:=
 (G3 (p0.1,p0.2.1,()) p1.1).bind fun u1=>
 cond (u1.1.1)
  ((BC p1.2.2.1 0 60).bind fun u2=>
  cond (u2.1.1)
   (cond (p1.2.1)
    (some ((true,()),()))
   (some ((p1.2.2.1==0,()),())))
  (some ((false,()),())))
 (some ((false,()),()))
abbrev SE:Type:=ABq×Unit
abbrev aJ:Type:=AAU->Int->Int->List Int->Int->AAU->Int->Option SE
def Tr(R2:aJ)(t9:AAU)(t10 t11:Int)(AR:AAC)(AE:Int)(Cf:AAU)(Bn:Int):Option SE:=
 cond (decide (t11<t10))
  (if(0:Int)<=t11/\t11<(t9.length:Int)then(
  (bl (AR,AE,()) ((t9.getD (t11.toNat) ([],false,0,())).1,(t9.getD (t11.toNat) ([],false,0,())).2.1,(t9.getD (t11.toNat) ([],false,0,())).2.2.1,())).bind fun u1=>
  cond (!u1.1.1)
   (some ((false,()),()))
  (cond (((t9.getD (t11.toNat) ([],false,0,())).2.1))
   (cond (t11==(Aa ((Cf.length:Int)-1)))
    (some ((false,()),()))
   (cond (decide (t11>0))
    (if(0:Int)<=Aa (t11-1)/\Aa (t11-1)<(Cf.length:Int)then(
    cond (!((Cf.getD ((Aa (t11-1)).toNat) ([],false,0,())).2.1))
     (some ((false,()),()))
    (R2 t9 t10 (Aa (t11+1)) AR AE Cf Bn))else none)
   (R2 t9 t10 (Aa (t11+1)) AR AE Cf Bn)))
  (R2 t9 t10 (Aa (t11+1)) AR AE Cf Bn)))else none)
 (cond (Bn==0)
  ((FI (AR,AE,())).bind fun u5=>
  cond (u5.1.1)
   (cond ((decide ((Cf.length:Int)<=30)))
    (some ((true,()),()))
   (some ((false,()),())))
  (some ((false,()),())))
 ((FR Bn).bind fun u7=>
 (BC u7.1.1 1 (Cf.length:Int)).bind fun u8=>
 (FI (AR,AE,())).bind fun u9=>
 cond (u9.1.1)
  (cond ((decide ((Cf.length:Int)<=30)))
   (some ((u8.1.1,()),()))
  (some ((false,()),())))
 (some ((false,()),()))))
def Ky:Nat->aJ
 |0=>fun _ _ _ _ _ _ _=>none
 |n+1=>Tr (Ky n)
def ag(R2:aJ)(p0:ABU)(p1:ABy):Option SE:=
 R2 p1.1 (p1.1.length:Int) 0 p0.1 p0.2.1 p1.1 p1.2.1
def K6(p0:ABU)(p1:ABy):Option SE:=ag (Ky Ae) p0 p1
abbrev pY:Type:=ABu×Unit
def cg(p0:Bool):Option pY:=
 cond (p0)
  (some ((1,()),()))
 (some ((0,()),()))
abbrev NJ:Type:=ABq×Unit
abbrev Tm:Type:=Int->AB_->Int->Int->List Int->Int->Int->AB_->Option NJ
def WH(R3:Tm)(t5:Int)(t9:AB_)(t10 t11:Int)(AR:AAC)(AE Cf:Int)(Bn:AB_):Option NJ:=
 cond (decide (t11<t10))
  (if(0:Int)<=t11/\t11<(t9.length:Int)then(
  (GV ((t9.getD (t11.toNat) ([],[],false,())).1)).bind fun u3=>
  cond (!u3.1.1)
   (some ((false,()),()))
  ((EH (AR,AE,()) ((t9.getD (t11.toNat) ([],[],false,())).2.1)).bind fun u4=>
  cond (!u4.1.1)
   (some ((false,()),()))
  ((G3 (AR,AE,()) ((t9.getD (t11.toNat) ([],[],false,())).2.1)).bind fun u6=>
  cond (((t9.getD (t11.toNat) ([],[],false,())).2.2.1) !=u6.1.1)
   (some ((false,()),()))
  ((cg (!((t9.getD (t11.toNat) ([],[],false,())).2.2.1))).bind fun u8=>
  R3 (Aa (t5+u8.1.1)) t9 t10 (Aa (t11+1)) AR AE Cf Bn))))else none)
 ((FI (AR,AE,())).bind fun u9=>
 cond (u9.1.1)
  ((Hq Cf).bind fun EP=>
  cond (EP.1.1)
   (cond ((decide ((Bn.length:Int)<=60)))
    (some ((decide (t5<=6),()),()))
   (some ((false,()),())))
  (some ((false,()),())))
 (some ((false,()),())))
def MC:Nat->Tm
 |0=>fun _ _ _ _ _ _ _ _=>none
 |n+1=>WH (MC n)
def V4(R3:Tm)(p0:ABU)(p1:ACG):Option NJ:=
 R3 0 p1.2.1 (p1.2.1.length:Int) 0 p0.1 p0.2.1 p1.1 p1.2.1
def Gn(p0:ABU)(p1:ACG):Option NJ:=V4 (MC Ae) p0 p1
abbrev fK:Type:=ABq×Unit
def Jq(p0:ABg)(p1:Int):Option fK:=
 (BC p1 1 (p0.2.2.2.2.1.length:Int)).bind fun u2=>
 some ((u2.1.1,()),())
abbrev Iq:Type:=ABq×Unit
abbrev MA:Type:=ABg->ABO->Int->Int->Option Iq
def JX(R2:MA)(t0:ABg)(t8:ABO)(t9 t10:Int):Option Iq:=
 cond (decide (t10<t9))
  (if(0:Int)<=t10/\t10<(t8.length:Int)then(
  (Gn (t0.1,t0.2.1,()) ((t8.getD (t10.toNat) (0,[],())).1,(t8.getD (t10.toNat) (0,[],())).2.1,())).bind fun u2=>
  cond (!u2.1.1)
   (some ((false,()),()))
  ((Jq t0 ((t8.getD (t10.toNat) (0,[],())).1)).bind fun u4=>
  cond (!u4.1.1)
   (some ((false,()),()))
  (cond (decide (t10>0))
   (if(0:Int)<=Aa (t10-1)/\Aa (t10-1)<(t0.2.2.2.2.2.2.1.length:Int)then(
   cond (decide (((t0.2.2.2.2.2.2.1.getD ((Aa (t10-1)).toNat) (0,[],())).1)>=((t8.getD (t10.toNat) (0,[],())).1)))
    (some ((false,()),()))
   (R2 t0 t8 t9 (Aa (t10+1))))else none)
  (R2 t0 t8 t9 (Aa (t10+1))))))else none)
 (some ((decide ((t0.2.2.2.2.2.2.1.length:Int)<=4),()),()))
def Es:Nat->MA
 |0=>fun _ _ _ _=>none
 |n+1=>JX (Es n)
def O1(R2:MA)(p0:ABg):Option Iq:=
 R2 p0 p0.2.2.2.2.2.2.1 (p0.2.2.2.2.2.2.1.length:Int) 0
def Kc(p0:ABg):Option Iq:=O1 (Es Ae) p0
abbrev vm:Type:=ABu×Unit
def Tx(p0:Int):Option vm:=
 (Dw p0).bind fun u1=>
 cond (!u1.1.1)
  (some ((0,()),()))
 (some ((p0.tmod 4294967296,()),()))
abbrev rA:Type:=ABu×Unit
def S7(p0:ABr):Option rA:=
 cond ((p0.2.2.2.1.length:Int)==0)
  (some ((0,()),()))
 (let x2:Int:=(p0.2.2.2.1.length:Int)
 if(0:Int)<=Aa (x2-1)/\Aa (x2-1)<(p0.2.2.2.1.length:Int)then(
 (Tx ((p0.2.2.2.1.getD ((Aa (x2-1)).toNat) (0,0,false,[],())).1)).bind fun u4=>
 some ((u4.1.1,()),()))else none)
abbrev UH:Type:=ABq×Unit
abbrev Xq:Type:=ABR->Int->Int->Int->Int->List Int->ABR->Bool->List AAC->Option UH
def Sr(R2:Xq)(t6:ABR)(t7 t8 AR AE:Int)(Am:AAC)(CE:ABR)(Cd:Bool)(AS:List AAC):Option UH:=
 cond (decide (t8<t7))
  (if(0:Int)<=t8/\t8<(t6.length:Int)then(
  (Mj ((t6.getD (t8.toNat) (0,0,false,[],())).1,(t6.getD (t8.toNat) (0,0,false,[],())).2.1,(t6.getD (t8.toNat) (0,0,false,[],())).2.2.1,(t6.getD (t8.toNat) (0,0,false,[],())).2.2.2.1,())).bind fun u2=>
  cond (!u2.1.1)
   (some ((false,()),()))
  ((FR ((t6.getD (t8.toNat) (0,0,false,[],())).1)).bind fun u4=>
  cond (u4.1.1 !=AE)
   (some ((false,()),()))
  (cond (decide (((t6.getD (t8.toNat) (0,0,false,[],())).2.1)>=AR))
   (some ((false,()),()))
  (R2 t6 t7 (Aa (t8+1)) AR AE Am CE Cd AS))))else none)
 ((Kr CE).bind fun u6=>
 some ((u6.1.1,()),()))
def MD:Nat->Xq
 |0=>fun _ _ _ _ _ _ _ _ _=>none
 |n+1=>Sr (MD n)
def ZT(R2:Xq)(p0:ABr):Option UH:=
 R2 p0.2.2.2.1 (p0.2.2.2.1.length:Int) 0 p0.1 p0.2.1 p0.2.2.1 p0.2.2.2.1 p0.2.2.2.2.1 p0.2.2.2.2.2.1
def VC(p0:ABr):Option UH:=ZT (MD Ae) p0
abbrev UO:Type:=ABq×Unit
abbrev Xy:Type:=List AAC->Int->Int->List Int->Int->Int->Int->List Int->ABR->Bool->List AAC->Option UO
def Rr(R2:Xy)(t10:List AAC)(t11 t12:Int)(AR:AAC)(AE Cf Bn:Int)(EM:AAC)(HF:ABR)(Mu:Bool)(EO:List AAC):Option UO:=
 cond (decide (t12<t11))
  (if(0:Int)<=t12/\t12<(t10.length:Int)then(
  (EH (AR,AE,()) (t10.getD (t12.toNat) [])).bind fun u2=>
  cond (!u2.1.1)
   (some ((false,()),()))
  (R2 t10 t11 (Aa (t12+1)) AR AE Cf Bn EM HF Mu EO))else none)
 (cond (Mu)
  ((S7 (Cf,Bn,EM,HF,Mu,EO,())).bind fun u3=>
  (Hq Bn).bind fun u4=>
  cond (u4.1.1)
   ((BC Cf (Aa (Bn+1)) 30).bind fun u5=>
   (FI (AR,AE,())).bind fun u6=>
   cond (u6.1.1)
    (cond (u5.1.1)
     ((EH (AR,AE,()) EM).bind fun u7=>
     cond (u7.1.1)
      ((VC (Cf,Bn,EM,HF,Mu,EO,())).bind fun u8=>
      cond (u8.1.1)
       (some ((((EO.length:Int)==u3.1.1),()),()))
      (some ((false,()),())))
     (some ((false,()),())))
    (some ((false,()),())))
   (some ((false,()),())))
  ((FI (AR,AE,())).bind fun EP=>
  cond (EP.1.1)
   (some ((false,()),()))
  (some ((false,()),()))))
 ((Hq Bn).bind fun M6=>
 cond (M6.1.1)
  ((BC Cf (Aa (Bn+1)) 30).bind fun bX=>
  (FI (AR,AE,())).bind fun XC=>
  cond (XC.1.1)
   (cond (bX.1.1)
    ((EH (AR,AE,()) EM).bind fun V0=>
    cond (V0.1.1)
     ((VC (Cf,Bn,EM,HF,Mu,EO,())).bind fun u15=>
     cond (u15.1.1)
      (some ((((EO.length:Int)==0),()),()))
     (some ((false,()),())))
    (some ((false,()),())))
   (some ((false,()),())))
  (some ((false,()),())))
 ((FI (AR,AE,())).bind fun kc=>
 cond (kc.1.1)
  (some ((false,()),()))
 (some ((false,()),())))))
def Lk:Nat->Xy
 |0=>fun _ _ _ _ _ _ _ _ _ _ _=>none
 |n+1=>Rr (Lk n)
def ZK(R2:Xy)(p0:ABU)(p1:ABr):Option UO:=
 R2 p1.2.2.2.2.2.1 (p1.2.2.2.2.2.1.length:Int) 0 p0.1 p0.2.1 p1.1 p1.2.1 p1.2.2.1 p1.2.2.2.1 p1.2.2.2.2.1 p1.2.2.2.2.2.1
def Hw(p0:ABU)(p1:ABr):Option UO:=ZK (Lk Ae) p0 p1
abbrev PT:Type:=ABu×Unit
abbrev Ss:Type:=AAU->Int->Int->Option PT
def Oi(R2:Ss)(t6:AAU)(t7 t8:Int):Option PT:=
 cond (decide (t8<t7))
  (if(0:Int)<=t8/\t8<(t6.length:Int)then(
  cond (!((t6.getD (t8.toNat) ([],false,0,())).2.1))
   (some ((Aa (t8+1),()),()))
  (R2 t6 t7 (Aa (t8+1))))else none)
 (some ((0,()),()))
def IL:Nat->Ss
 |0=>fun _ _ _=>none
 |n+1=>Oi (IL n)
def VM(R2:Ss)(p0:ABy):Option PT:=
 R2 p0.1 (p0.1.length:Int) 0
def MF(p0:ABy):Option PT:=VM (IL Ae) p0
abbrev Ku:Type:=ABq×Unit
abbrev NX:Type:=ABg->ABP->Int->Int->Option Ku
def Kz(R2:NX)(t0:ABg)(t8:ABP)(t9 t10:Int):Option Ku:=
 cond (decide (t10<t9))
  (if(0:Int)<=t10/\t10<(t8.length:Int)then(
  (Hw (t0.1,t0.2.1,()) ((t8.getD (t10.toNat) (0,0,[],[],false,[],())).1,(t8.getD (t10.toNat) (0,0,[],[],false,[],())).2.1,(t8.getD (t10.toNat) (0,0,[],[],false,[],())).2.2.1,(t8.getD (t10.toNat) (0,0,[],[],false,[],())).2.2.2.1,(t8.getD (t10.toNat) (0,0,[],[],false,[],())).2.2.2.2.1,(t8.getD (t10.toNat) (0,0,[],[],false,[],())).2.2.2.2.2.1,())).bind fun u2=>
  cond (!u2.1.1)
   (some ((false,()),()))
  (cond (((t8.getD (t10.toNat) (0,0,[],[],false,[],())).1) !=(t0.2.2.2.2.1.length:Int))
   (some ((false,()),()))
  ((MF (t0.2.2.2.2.1,t0.2.2.2.2.2.1,())).bind fun u6=>
  cond (((t8.getD (t10.toNat) (0,0,[],[],false,[],())).2.1) !=u6.1.1)
   (some ((false,()),()))
  (R2 t0 t8 t9 (Aa (t10+1))))))else none)
 (some ((decide ((t0.2.2.2.2.2.2.2.1.length:Int)<=1),()),()))
def Fq:Nat->NX
 |0=>fun _ _ _ _=>none
 |n+1=>Kz (Fq n)
def P_(R2:NX)(p0:ABg):Option Ku:=
 R2 p0 p0.2.2.2.2.2.2.2.1 (p0.2.2.2.2.2.2.2.1.length:Int) 0
def Mi(p0:ABg):Option Ku:=P_ (Fq Ae) p0
abbrev oX:Type:=ABq×Unit
def UJ(p0:ADW):Option oX:=
 (BC p0.1 1 31).bind fun u1=>
 cond (u1.1.1)
  ((BC p0.2.1 1 61).bind fun u2=>
  cond (u2.1.1)
   (some ((decide ((p0.2.2.1.length:Int)<=120),()),()))
  (some ((false,()),())))
 (some ((false,()),()))
abbrev Im:Type:=ABq×Unit
abbrev Lr:Type:=ABg->AAq->Int->Int->Option Im
def Jk(R2:Lr)(t0:ABg)(t8:AAq)(t9 t10:Int):Option Im:=
 cond (decide (t10<t9))
  (if(0:Int)<=t10/\t10<(t8.length:Int)then(
  (UJ ((t8.getD (t10.toNat) (0,0,[],())).1,(t8.getD (t10.toNat) (0,0,[],())).2.1,(t8.getD (t10.toNat) (0,0,[],())).2.2.1,())).bind fun u2=>
  cond (!u2.1.1)
   (some ((false,()),()))
  (R2 t0 t8 t9 (Aa (t10+1))))else none)
 (some (((t0.2.2.2.2.2.2.2.2.1.length:Int)==2,()),()))
def Er:Nat->Lr
 |0=>fun _ _ _ _=>none
 |n+1=>Jk (Er n)
def OS(R2:Lr)(p0:ABg):Option Im:=
 R2 p0 p0.2.2.2.2.2.2.2.2.1 (p0.2.2.2.2.2.2.2.2.1.length:Int) 0
def Km(p0:ABg):Option Im:=OS (Er Ae) p0
abbrev LM:Type:=ABq×Unit
abbrev OJ:Type:=ABg->AA1->Int->Int->Option LM
def MG(R2:OJ)(t0:ABg)(t8:AA1)(t9 t10:Int):Option LM:=
 cond (decide (t10<t9))
  (if(0:Int)<=t10/\t10<(t8.length:Int)then(
  (FR ((t8.getD (t10.toNat) (0,[],false,())).1)).bind fun u3=>
  (Jq t0 u3.1.1).bind fun u4=>
  cond (!u4.1.1)
   (some ((false,()),()))
  ((GV ((t8.getD (t10.toNat) (0,[],false,())).2.1)).bind fun u6=>
  cond (!u6.1.1)
   (some ((false,()),()))
  (cond (decide (t10>0))
   (if(0:Int)<=Aa (t10-1)/\Aa (t10-1)<(t0.2.2.2.2.2.2.2.2.2.1.length:Int)then(
   cond (decide (((t0.2.2.2.2.2.2.2.2.2.1.getD ((Aa (t10-1)).toNat) (0,[],false,())).1)>=((t8.getD (t10.toNat) (0,[],false,())).1)))
    (some ((false,()),()))
   (R2 t0 t8 t9 (Aa (t10+1))))else none)
  (R2 t0 t8 t9 (Aa (t10+1))))))else none)
 (some ((decide ((t0.2.2.2.2.2.2.2.2.2.1.length:Int)<=120),()),()))
def GL:Nat->OJ
 |0=>fun _ _ _ _=>none
 |n+1=>MG (GL n)
def RU(R2:OJ)(p0:ABg):Option LM:=
 R2 p0 p0.2.2.2.2.2.2.2.2.2.1 (p0.2.2.2.2.2.2.2.2.2.1.length:Int) 0
def N3(p0:ABg):Option LM:=RU (GL Ae) p0
abbrev PF:Type:=ABq×Unit
def Ca(p0:ABg):Option PF:=
 (FI (p0.1,p0.2.1,())).bind fun u1=>
 cond (u1.1.1)
  ((LH (p0.1,p0.2.1,p0.2.2.1,p0.2.2.2.1,p0.2.2.2.2.1,p0.2.2.2.2.2.1,p0.2.2.2.2.2.2.1,p0.2.2.2.2.2.2.2.1,p0.2.2.2.2.2.2.2.2.1,p0.2.2.2.2.2.2.2.2.2.1,p0.2.2.2.2.2.2.2.2.2.2.1,())).bind fun u2=>
  cond (u2.1.1)
   ((K6 (p0.1,p0.2.1,()) (p0.2.2.2.2.1,p0.2.2.2.2.2.1,())).bind fun u3=>
   cond (u3.1.1)
    ((Kc (p0.1,p0.2.1,p0.2.2.1,p0.2.2.2.1,p0.2.2.2.2.1,p0.2.2.2.2.2.1,p0.2.2.2.2.2.2.1,p0.2.2.2.2.2.2.2.1,p0.2.2.2.2.2.2.2.2.1,p0.2.2.2.2.2.2.2.2.2.1,p0.2.2.2.2.2.2.2.2.2.2.1,())).bind fun u4=>
    cond (u4.1.1)
     ((Mi (p0.1,p0.2.1,p0.2.2.1,p0.2.2.2.1,p0.2.2.2.2.1,p0.2.2.2.2.2.1,p0.2.2.2.2.2.2.1,p0.2.2.2.2.2.2.2.1,p0.2.2.2.2.2.2.2.2.1,p0.2.2.2.2.2.2.2.2.2.1,p0.2.2.2.2.2.2.2.2.2.2.1,())).bind fun u5=>
     cond (u5.1.1)
      ((Km (p0.1,p0.2.1,p0.2.2.1,p0.2.2.2.1,p0.2.2.2.2.1,p0.2.2.2.2.2.1,p0.2.2.2.2.2.2.1,p0.2.2.2.2.2.2.2.1,p0.2.2.2.2.2.2.2.2.1,p0.2.2.2.2.2.2.2.2.2.1,p0.2.2.2.2.2.2.2.2.2.2.1,())).bind fun u6=>
      cond (u6.1.1)
       ((N3 (p0.1,p0.2.1,p0.2.2.1,p0.2.2.2.1,p0.2.2.2.2.1,p0.2.2.2.2.2.1,p0.2.2.2.2.2.2.1,p0.2.2.2.2.2.2.2.1,p0.2.2.2.2.2.2.2.2.1,p0.2.2.2.2.2.2.2.2.2.1,p0.2.2.2.2.2.2.2.2.2.2.1,())).bind fun u7=>
       some ((u7.1.1,()),()))
      (some ((false,()),())))
     (some ((false,()),())))
    (some ((false,()),())))
   (some ((false,()),())))
  (some ((false,()),())))
 (some ((false,()),()))
abbrev yR:Type:=ABq×Unit
def CN(p0 p1 p2:Int):Option yR:=
 cond (decide (p0>=p1))
  (some ((decide (p0<=p2),()),()))
 (some ((false,()),()))
abbrev Qf:Type:=ABq×Unit
abbrev T2:Type:=Int->List Int->Int->Option Qf
def WE(R4:T2)(t3:Int)(AR:AAC)(AE:Int):Option Qf:=
 cond ((decide (t3<(AR.length:Int))))
  (if(0:Int)<=t3/\t3<(AR.length:Int)then(
  (CN (AR.getD (t3.toNat) 0) 0 7).bind fun u5=>
  cond (!u5.1.1)
   (some ((false,()),()))
  (R4 (Aa (t3+1)) AR AE))else none)
 (some ((true,()),()))
def Ll:Nat->T2
 |0=>fun _ _ _=>none
 |n+1=>WE (Ll n)
def WB(R4:T2)(p0:ABU):Option Qf:=
 (CN (p0.1.length:Int) 1 8).bind fun u1=>
 cond (!u1.1.1)
  (some ((false,()),()))
 ((CN p0.2.1 1 4).bind fun u2=>
 cond (!u2.1.1)
  (some ((false,()),()))
 (R4 0 p0.1 p0.2.1))
def Gg(p0:ABU):Option Qf:=WB (Ll Ae) p0
abbrev rb:Type:=AGi×Unit
def cE(p0:Int):Option rb:=
 cond (p0==8)
  (some (([],()),()))
 (cond (p0==10)
  (some (([],()),()))
 (cond (p0==12)
  (some (([],()),()))
 (cond (p0==2)
  (some (([65,84],()),()))
 (cond (p0==3)
  (some (([65,66,67],()),()))
 (cond (p0==5)
  (some (([65,66],()),()))
 (cond (p0==14)
  (some (([65,66],()),()))
 (cond (p0==11)
  (some (([66,67],()),()))
 (cond (p0==13)
  (some (([80],()),()))
 (some (([65],()),()))))))))))
abbrev QA:Type:=ABq×Unit
abbrev Xa:Type:=Int->Int->Int->Int->Int->Int->List UInt8->Int->Int->Int->Int->List UInt8->List Int->Option QA
def Dc(R4:Xa)(t12 t13 AR AE Am CE:Int)(Cd:ACB)(Cf Bn EM HF:Int)(Mu:ACB)(b2:AAC):Option QA:=
 cond (decide (t13<t12))
  (if(0:Int)<=t13/\t13<(b2.length:Int)then(
  let x3:Int:=(b2.getD (t13.toNat) 0)
  cond (x3==65)
   (R4 t12 (Aa (t13+1)) AR AE Am CE Cd Cf 0 EM HF Mu b2)
  (cond (x3==80)
   (R4 t12 (Aa (t13+1)) AR AE Am CE Cd Cf 0 EM HF Mu b2)
  (cond (x3==66)
   (R4 t12 (Aa (t13+1)) AR AE Am CE Cd Cf Bn 0 HF Mu b2)
  (cond (x3==67)
   (R4 t12 (Aa (t13+1)) AR AE Am CE Cd Cf Bn EM 0 Mu b2)
  (cond (x3==84)
   (R4 t12 (Aa (t13+1)) AR AE Am CE Cd Cf Bn EM HF [] b2)
  (R4 t12 (Aa (t13+1)) AR AE Am CE Cd Cf Bn EM HF Mu b2))))))else none)
 ((BC AR 1 16).bind fun u4=>
 cond (u4.1.1)
  (cond (((Cf==0)&&((Bn==0)&&((EM==0)&&((HF==0)&&((Mu==[])&&true))))))
   ((GV Cd).bind fun u6=>
   some ((u6.1.1,()),()))
  (some ((false,()),())))
 (some ((false,()),())))
def D1:Nat->Xa
 |0=>fun _ _ _ _ _ _ _ _ _ _ _ _ _=>none
 |n+1=>Dc (D1 n)
def ZV(R4:Xa)(p0:ADN):Option QA:=
 (cE p0.1).bind fun u1=>
 if u1.1.1.length<=D8 then(
 let x2:AAC:=(u1.1.1.map fun c=>(c.toNat:Int))
 R4 (x2.length:Int) 0 p0.1 p0.2.1 p0.2.2.1 p0.2.2.2.1 p0.2.2.2.2.1 0 p0.2.1 p0.2.2.1 p0.2.2.2.1 p0.2.2.2.2.1 x2)else none
def Zq(p0:ADN):Option QA:=ZV (D1 Ae) p0
abbrev Ij:Type:=AFa×AEP
abbrev Ox:Type:=AAU->Int->Int->Int->AAU->Int->AAU->Option Ij
def RV(R3:Ox)(t10:AAU)(t11 t12 AE:Int)(b1:AAU)(oJ:Int)(b3:AAU):Option Ij:=
 cond (decide (t12<t11))
  (if(0:Int)<=t12/\t12<(t10.length:Int)then(
  (DT ((t10.getD (t12.toNat) ([],false,0,())).1)).bind fun u1=>
  if b3.length+1<=D8 then(
  R3 t10 t11 (Aa (t12+1)) AE b1 oJ (b3++[(u1.2.1,(t10.getD (t12.toNat) ([],false,0,())).2.1,(t10.getD (t12.toNat) ([],false,0,())).2.2.1,())]))else none)else none)
 (some ((((),oJ,()),()),(b3,())))
def H6:Nat->Ox
 |0=>fun _ _ _ _ _ _ _=>none
 |n+1=>RV (H6 n)
def RR(R3:Ox)(p0:ABy):Option Ij:=
 R3 p0.1 (p0.1.length:Int) 0 0 [] p0.2.1 []
def En(p0:ABy):Option Ij:=RR (H6 Ae) p0
abbrev iW:Type:=ACu×AEa
def JN(p0:ABR):Option iW:=
 if 0+p0.length<=D8 then(
 some (((),()),(p0,())))else none
abbrev mO:Type:=AHA×AEG
def DN(p0:ACt):Option mO:=
 (JN p0.1).bind fun u1=>
 (JN p0.2.1).bind fun u2=>
 some ((((),(),p0.2.2.1,()),()),(u1.2.1,u2.2.1,()))
abbrev Kt:Type:=AHG×AEQ
abbrev Q1:Type:=AB_->Int->Int->Int->AB_->Int->AB_->Option Kt
def TK(R3:Q1)(t10:AB_)(t11 t12 AR:Int)(b1:AB_)(bC:Int)(b3:AB_):Option Kt:=
 cond (decide (t12<t11))
  (if(0:Int)<=t12/\t12<(t10.length:Int)then(
  (DT ((t10.getD (t12.toNat) ([],[],false,())).2.1)).bind fun u2=>
  if b3.length+1<=D8 then(
  R3 t10 t11 (Aa (t12+1)) AR b1 bC (b3++[((t10.getD (t12.toNat) ([],[],false,())).1,u2.2.1,(t10.getD (t12.toNat) ([],[],false,())).2.2.1,())]))else none)else none)
 (some (((bC,(),()),()),(b3,())))
def Jw:Nat->Q1
 |0=>fun _ _ _ _ _ _ _=>none
 |n+1=>TK (Jw n)
def TT(R3:Q1)(p0:ACG):Option Kt:=
 R3 p0.2.1 (p0.2.1.length:Int) 0 0 [] p0.1 []
def GC(p0:ACG):Option Kt:=TT (Jw Ae) p0
abbrev Qk:Type:=AFf×AEH
abbrev UG:Type:=List AAC->Int->Int->Int->Int->Bool->List Int->ABR->List AAC->Int->Int->Bool->List Int->ABR->List AAC->Option Qk
def WR(R4:UG)(t17:List AAC)(t18 t19 AR AE:Int)(Cd:Bool)(b1:AAC)(b2:ABR)(b3:List AAC)(yw zB:Int)(yT:Bool)(b5:AAC)(b6:ABR)(b7:List AAC):Option Qk:=
 cond (decide (t19<t18))
  (if(0:Int)<=t19/\t19<(t17.length:Int)then(
  (DT (t17.getD (t19.toNat) [])).bind fun u4=>
  if b7.length+1<=D8 then(
  R4 t17 t18 (Aa (t19+1)) AR AE Cd b1 b2 b3 yw zB yT b5 b6 (b7++[u4.2.1]))else none)else none)
 (some (((yw,zB,(),(),yT,(),()),()),(b5,b6,b7,())))
def Lc:Nat->UG
 |0=>fun _ _ _ _ _ _ _ _ _ _ _ _ _ _ _=>none
 |n+1=>WR (Lc n)
def WM(R4:UG)(p0:ABr):Option Qk:=
 (DT p0.2.2.1).bind fun u1=>
 (JN p0.2.2.2.1).bind fun u2=>
 R4 p0.2.2.2.2.2.1 (p0.2.2.2.2.2.1.length:Int) 0 0 0 false [] [] [] p0.1 p0.2.1 p0.2.2.2.2.1 u1.2.1 u2.2.1 []
def Gp(p0:ABr):Option Qk:=WM (Lc Ae) p0
abbrev jv:Type:=AFv×AEo
def NG(p0:ADW):Option jv:=
 if 0+p0.2.2.1.length<=D8 then(
 some (((p0.1,p0.2.1,(),()),()),(p0.2.2.1,())))else none
abbrev Ea:Type:=AHH×AEI
abbrev IX:Type:=AAT->Int->Int->List Int->Int->AAT->List Int->AAU->Int->ABO->ABP->AAq->AA1->Bool->Int->Int->Bool->List Int->AAT->List Int->AAU->ABO->ABP->AAq->AA1->Int->Int->Bool->List Int->AAT->List Int->AAU->ABO->ABP->AAq->AA1->Option Ea
abbrev IU:Type:=ABO->Int->Int->List Int->Int->AAT->List Int->AAU->Int->ABO->ABP->AAq->AA1->Bool->Int->Int->Bool->List Int->AAT->List Int->AAU->ABO->ABP->AAq->AA1->Int->Int->Bool->List Int->AAT->List Int->AAU->ABO->ABP->AAq->AA1->Option Ea
abbrev HW:Type:=ABP->Int->Int->List Int->Int->AAT->List Int->AAU->Int->ABO->ABP->AAq->AA1->Bool->Int->Int->Bool->List Int->AAT->List Int->AAU->ABO->ABP->AAq->AA1->Int->Int->Bool->List Int->AAT->List Int->AAU->ABO->ABP->AAq->AA1->Option Ea
abbrev Hj:Type:=AAq->Int->Int->List Int->Int->AAT->List Int->AAU->Int->ABO->ABP->AAq->AA1->Bool->Int->Int->Bool->List Int->AAT->List Int->AAU->ABO->ABP->AAq->AA1->Int->Int->Bool->List Int->AAT->List Int->AAU->ABO->ABP->AAq->AA1->Option Ea
def VJ(R3:IX)(R8:IU)(R13:HW)(R18:Hj)(t25:AAT)(t26 t27:Int)(AR:AAC)(AE:Int)(Am:AAT)(CE:AAC)(Cd:AAU)(AS:Int)(CZ:ABO)(CS:ABP)(CU:AAq)(C9:AA1)(AK:Bool)(Bn EO:Int)(FK:Bool)(b2:AAC)(b3:AAT)(b4:AAC)(b5:AAU)(b6:ABO)(b7:ABP)(b8:AAq)(b9:AA1)(Dy Et:Int)(DH:Bool)(GD:AAC)(D6:AAT)(Gk:AAC)(Gi:AAU)(EW:ABO)(Eu:ABP)(Fi:AAq)(TB:AA1):Option Ea:=
 cond (decide (t27<t26))
  (if(0:Int)<=t27/\t27<(t25.length:Int)then(
  (DN ((t25.getD (t27.toNat) ([],[],0,())).1,(t25.getD (t27.toNat) ([],[],0,())).2.1,(t25.getD (t27.toNat) ([],[],0,())).2.2.1,())).bind fun u15=>
  if D6.length+1<=D8 then(
  R3 t25 t26 (Aa (t27+1)) AR AE Am CE Cd AS CZ CS CU C9 AK Bn EO FK b2 b3 b4 b5 b6 b7 b8 b9 Dy Et DH GD (D6++[(u15.2.1,u15.2.2.1,u15.1.1.2.2.1,())]) Gk Gi EW Eu Fi TB)else none)else none)
 (R8 CZ (CZ.length:Int) 0 AR AE Am CE Cd AS CZ CS CU C9 AK Bn EO FK b2 b3 b4 b5 b6 b7 b8 b9 Dy Et DH GD D6 Gk Gi EW Eu Fi TB)
def VD(R3:IX)(R8:IU)(R13:HW)(R18:Hj)(t40:ABO)(t41 t42:Int)(AR:AAC)(AE:Int)(Am:AAT)(CE:AAC)(Cd:AAU)(AS:Int)(CZ:ABO)(CS:ABP)(CU:AAq)(C9:AA1)(AK:Bool)(Bn EO:Int)(FK:Bool)(b2:AAC)(b3:AAT)(b4:AAC)(b5:AAU)(b6:ABO)(b7:ABP)(b8:AAq)(b9:AA1)(Dy Et:Int)(DH:Bool)(GD:AAC)(D6:AAT)(Gk:AAC)(Gi:AAU)(EW:ABO)(Eu:ABP)(Fi:AAq)(TB:AA1):Option Ea:=
 cond (decide (t42<t41))
  (if(0:Int)<=t42/\t42<(t40.length:Int)then(
  (GC ((t40.getD (t42.toNat) (0,[],())).1,(t40.getD (t42.toNat) (0,[],())).2.1,())).bind fun TA=>
  if EW.length+1<=D8 then(
  R8 t40 t41 (Aa (t42+1)) AR AE Am CE Cd AS CZ CS CU C9 AK Bn EO FK b2 b3 b4 b5 b6 b7 b8 b9 Dy Et DH GD D6 Gk Gi (EW++[(TA.1.1.1,TA.2.1,())]) Eu Fi TB)else none)else none)
 (R13 CS (CS.length:Int) 0 AR AE Am CE Cd AS CZ CS CU C9 AK Bn EO FK b2 b3 b4 b5 b6 b7 b8 b9 Dy Et DH GD D6 Gk Gi EW Eu Fi TB)
def Td(R3:IX)(R8:IU)(R13:HW)(R18:Hj)(t55:ABP)(t56 t57:Int)(AR:AAC)(AE:Int)(Am:AAT)(CE:AAC)(Cd:AAU)(AS:Int)(CZ:ABO)(CS:ABP)(CU:AAq)(C9:AA1)(AK:Bool)(Bn EO:Int)(FK:Bool)(b2:AAC)(b3:AAT)(b4:AAC)(b5:AAU)(b6:ABO)(b7:ABP)(b8:AAq)(b9:AA1)(Dy Et:Int)(DH:Bool)(GD:AAC)(D6:AAT)(Gk:AAC)(Gi:AAU)(EW:ABO)(Eu:ABP)(Fi:AAq)(TB:AA1):Option Ea:=
 cond (decide (t57<t56))
  (if(0:Int)<=t57/\t57<(t55.length:Int)then(
  (Gp ((t55.getD (t57.toNat) (0,0,[],[],false,[],())).1,(t55.getD (t57.toNat) (0,0,[],[],false,[],())).2.1,(t55.getD (t57.toNat) (0,0,[],[],false,[],())).2.2.1,(t55.getD (t57.toNat) (0,0,[],[],false,[],())).2.2.2.1,(t55.getD (t57.toNat) (0,0,[],[],false,[],())).2.2.2.2.1,(t55.getD (t57.toNat) (0,0,[],[],false,[],())).2.2.2.2.2.1,())).bind fun gU=>
  if Eu.length+1<=D8 then(
  R13 t55 t56 (Aa (t57+1)) AR AE Am CE Cd AS CZ CS CU C9 AK Bn EO FK b2 b3 b4 b5 b6 b7 b8 b9 Dy Et DH GD D6 Gk Gi EW (Eu++[(gU.1.1.1,gU.1.1.2.1,gU.2.1,gU.2.2.1,gU.1.1.2.2.2.2.1,gU.2.2.2.1,())]) Fi TB)else none)else none)
 (R18 CU (CU.length:Int) 0 AR AE Am CE Cd AS CZ CS CU C9 AK Bn EO FK b2 b3 b4 b5 b6 b7 b8 b9 Dy Et DH GD D6 Gk Gi EW Eu Fi TB)
def TN(R3:IX)(R8:IU)(R13:HW)(R18:Hj)(t70:AAq)(t71 t72:Int)(AR:AAC)(AE:Int)(Am:AAT)(CE:AAC)(Cd:AAU)(AS:Int)(CZ:ABO)(CS:ABP)(CU:AAq)(C9:AA1)(AK:Bool)(Bn EO:Int)(FK:Bool)(b2:AAC)(b3:AAT)(b4:AAC)(b5:AAU)(b6:ABO)(b7:ABP)(b8:AAq)(b9:AA1)(Dy Et:Int)(DH:Bool)(GD:AAC)(D6:AAT)(Gk:AAC)(Gi:AAU)(EW:ABO)(Eu:ABP)(Fi:AAq)(TB:AA1):Option Ea:=
 cond (decide (t72<t71))
  (if(0:Int)<=t72/\t72<(t70.length:Int)then(
  (NG ((t70.getD (t72.toNat) (0,0,[],())).1,(t70.getD (t72.toNat) (0,0,[],())).2.1,(t70.getD (t72.toNat) (0,0,[],())).2.2.1,())).bind fun nu=>
  if Fi.length+1<=D8 then(
  R18 t70 t71 (Aa (t72+1)) AR AE Am CE Cd AS CZ CS CU C9 AK Bn EO FK b2 b3 b4 b5 b6 b7 b8 b9 Dy Et DH GD D6 Gk Gi EW Eu (Fi++[(nu.1.1.1,nu.1.1.2.1,nu.2.1,())]) TB)else none)else none)
 (if 0+C9.length<=D8 then(
 some ((((),Dy,(),(),(),Et,(),(),(),(),DH,()),()),(GD,D6,Gk,Gi,EW,Eu,Fi,C9,())))else none)
mutual
def Fg:Nat->IX
 |0=>fun _ _ _ _ _ _ _ _ _ _ _ _ _ _ _ _ _ _ _ _ _ _ _ _ _ _ _ _ _ _ _ _ _ _ _ _=>none
 |n+1=>VJ (Fg n) (Fm n) (E_ n) (Ex n)
def Fm:Nat->IU
 |0=>fun _ _ _ _ _ _ _ _ _ _ _ _ _ _ _ _ _ _ _ _ _ _ _ _ _ _ _ _ _ _ _ _ _ _ _ _=>none
 |n+1=>VD (Fg n) (Fm n) (E_ n) (Ex n)
def E_:Nat->HW
 |0=>fun _ _ _ _ _ _ _ _ _ _ _ _ _ _ _ _ _ _ _ _ _ _ _ _ _ _ _ _ _ _ _ _ _ _ _ _=>none
 |n+1=>Td (Fg n) (Fm n) (E_ n) (Ex n)
def Ex:Nat->Hj
 |0=>fun _ _ _ _ _ _ _ _ _ _ _ _ _ _ _ _ _ _ _ _ _ _ _ _ _ _ _ _ _ _ _ _ _ _ _ _=>none
 |n+1=>TN (Fg n) (Fm n) (E_ n) (Ex n)
end
def U7(R3:IX)(R8:IU)(R13:HW)(R18:Hj)(p0:ABg):Option Ea:=
 (Qj (p0.1,p0.2.1,())).bind fun u2=>
 (DT p0.2.2.2.1).bind fun u3=>
 (En (p0.2.2.2.2.1,p0.2.2.2.2.2.1,())).bind fun u4=>
 R3 p0.2.2.1 (p0.2.2.1.length:Int) 0 p0.1 p0.2.1 p0.2.2.1 p0.2.2.2.1 p0.2.2.2.2.1 p0.2.2.2.2.2.1 p0.2.2.2.2.2.2.1 p0.2.2.2.2.2.2.2.1 p0.2.2.2.2.2.2.2.2.1 p0.2.2.2.2.2.2.2.2.2.1 p0.2.2.2.2.2.2.2.2.2.2.1 0 0 false [] [] [] [] [] [] [] [] u2.1.1.2.1 u4.1.1.2.1 p0.2.2.2.2.2.2.2.2.2.2.1 u2.2.1 [] u3.2.1 u4.2.1 [] [] [] []
def Lm(p0:ABg):Option Ea:=U7 (Fg Ae) (Fm Ae) (E_ Ae) (Ex Ae) p0
abbrev ME:Type:=AES×Unit
def D3(p0 p1:Int):Option ME:=
 (Hq p0).bind fun u1=>
 cond (!u1.1.1)
  (some (((0,false,()),()),()))
 ((XG p1).bind fun u2=>
 cond (!u2.1.1)
  (some (((0,false,()),()),()))
 (some (((Aa ((Aa (4294967296*p0))+p1),true,()),()),())))
abbrev Ha:Type:=ACu×AC2
abbrev SZ:Type:=Int->Int->List Int->Option Ha
def Uv(R5:SZ)(t0 t10:Int)(b0:AAC):Option Ha:=
 cond (decide (t10<8))
  (if t10<0 then none else(
  cond (((dY .i64 (t0.fdiv (2^(min t10.toNat 64))) 1)==1))
   (if b0.length+1<=D8 then(
   R5 t0 (Aa (t10+1)) (b0++[t10]))else none)
  (R5 t0 (Aa (t10+1)) b0)))
 (some (((),()),(b0,())))
def KX:Nat->SZ
 |0=>fun _ _ _=>none
 |n+1=>Uv (KX n)
def Uo(R5:SZ)(p0:Int):Option Ha:=
 (BC p0 0 255).bind fun u1=>
 cond (!u1.1.1)
  (some (((),()),([],())))
 (R5 p0 0 [])
def Hy(p0:Int):Option Ha:=Uo (KX Ae) p0
abbrev mQ:Type:=ABu×Unit
def SW(p0:ADr)(p1:Int):Option mQ:=
 cond (decide (p0.1<p1))
  (some (((-1),()),()))
 (cond (decide (p0.1>p1))
  (some ((1,()),()))
 (some ((0,()),())))
abbrev Bd:Type:=AES×Unit
abbrev CC:Type:=ABR->Int->Int->Int->Int->Option Bd
def C6(R3:CC)(t0:ABR)(t1 t8 t9 t10:Int):Option Bd:=
 cond (decide (t9<t10))
  (let x2:Int:=Aa ((IntKind.wrap .u64 (Aa (t9+t10))).fdiv (2^1))
  if(0:Int)<=x2/\x2<(t0.length:Int)then(
  (SW ((t0.getD (x2.toNat) (0,0,false,[],())).1,(t0.getD (x2.toNat) (0,0,false,[],())).2.1,(t0.getD (x2.toNat) (0,0,false,[],())).2.2.1,(t0.getD (x2.toNat) (0,0,false,[],())).2.2.2.1,()) t1).bind fun u3=>
  cond (decide (u3.1.1<0))
   (R3 t0 t1 t8 (Aa (x2+1)) t10)
  (R3 t0 t1 t8 t9 x2))else none)
 (cond (decide (t9<t8))
  (if(0:Int)<=t9/\t9<(t0.length:Int)then(
  (SW ((t0.getD (t9.toNat) (0,0,false,[],())).1,(t0.getD (t9.toNat) (0,0,false,[],())).2.1,(t0.getD (t9.toNat) (0,0,false,[],())).2.2.1,(t0.getD (t9.toNat) (0,0,false,[],())).2.2.2.1,()) t1).bind fun u4=>
  some (((t9,u4.1.1==0,()),()),()))else none)
 (some (((t9,false,()),()),())))
def BB:Nat->CC
 |0=>fun _ _ _ _ _=>none
 |n+1=>C6 (BB n)
def C8(R3:CC)(p0:ABR)(p1:Int):Option Bd:=
 R3 p0 p1 (p0.length:Int) 0 (p0.length:Int)
def CK(p0:ABR)(p1:Int):Option Bd:=C8 (BB Ae) p0 p1
abbrev rW:Type:=AES×Unit
def Sj(p0:ABR)(p1:Int):Option rW:=
 (CK p0 p1).bind fun u1=>
 some (((u1.1.1.1,u1.1.1.2.1,()),()),())
abbrev M7:Type:=AFi×Unit
def Gm(p0:ACt)(p1:Int):Option M7:=
 (FT (p0.1,p0.2.1,p0.2.2.1,())).bind fun u1=>
 cond (!u1.1.1)
  (some ((((0,0,false,[],()),false,()),()),()))
 ((Sj p0.1 p1).bind fun u2=>
 cond (!u2.1.1.2.1)
  (some ((((0,0,false,[],()),false,()),()),()))
 (if(0:Int)<=u2.1.1.1/\u2.1.1.1<(p0.1.length:Int)then(
 some (((((p0.1.getD (u2.1.1.1.toNat) (0,0,false,[],())).1,(p0.1.getD (u2.1.1.1.toNat) (0,0,false,[],())).2.1,(p0.1.getD (u2.1.1.1.toNat) (0,0,false,[],())).2.2.1,(p0.1.getD (u2.1.1.1.toNat) (0,0,false,[],())).2.2.2.1,()),true,()),()),()))else none))
abbrev Np:Type:=ABu×Unit
abbrev Qu:Type:=AB_->Int->Int->Int->AB_->Option Np
def TQ(R2:Qu)(t6:AB_)(t7 t8 AR:Int)(AE:AB_):Option Np:=
 cond (decide (t8<t7))
  (if(0:Int)<=t8/\t8<(t6.length:Int)then(
  cond (!((t6.getD (t8.toNat) ([],[],false,())).2.2.1))
   (some ((t8,()),()))
  (R2 t6 t7 (Aa (t8+1)) AR AE))else none)
 (some (((AE.length:Int),()),()))
def Jt:Nat->Qu
 |0=>fun _ _ _ _ _=>none
 |n+1=>TQ (Jt n)
def Th(R2:Qu)(p0:ACG):Option Np:=
 R2 p0.2.1 (p0.2.1.length:Int) 0 p0.1 p0.2.1
def Qc(p0:ACG):Option Np:=Th (Jt Ae) p0
abbrev NQ:Type:=ABu×Unit
abbrev X1:Type:=Int->ABO->Int->Int->Option NQ
def Zi(R2:X1)(t1:Int)(t8:ABO)(t9 t10:Int):Option NQ:=
 cond (decide (t10<t9))
  (if(0:Int)<=t10/\t10<(t8.length:Int)then(
  cond (((t8.getD (t10.toNat) (0,[],())).1)==t1)
   ((Qc ((t8.getD (t10.toNat) (0,[],())).1,(t8.getD (t10.toNat) (0,[],())).2.1,())).bind fun u3=>
   some ((u3.1.1,()),()))
  (R2 t1 t8 t9 (Aa (t10+1))))else none)
 (some ((0,()),()))
def O0:Nat->X1
 |0=>fun _ _ _ _=>none
 |n+1=>Zi (O0 n)
def Ye(R2:X1)(p0:ABg)(p1:Int):Option NQ:=
 R2 p1 p0.2.2.2.2.2.2.1 (p0.2.2.2.2.2.2.1.length:Int) 0
def RT(p0:ABg)(p1:Int):Option NQ:=Ye (O0 Ae) p0 p1
abbrev S9:Type:=ACu×AC2
abbrev Vn:Type:=AC_->Int->Int->List Int->Option S9
def YL(R3:Vn)(t7:AC_)(t8 t9:Int)(b0:AAC):Option S9:=
 cond (decide (t9<t8))
  (if(0:Int)<=t9/\t9<(t7.length:Int)then(
  if b0.length+1<=D8 then(
  R3 t7 t8 (Aa (t9+1)) (b0++[((t7.getD (t9.toNat) (0,false,0,0,false,[],())).1)]))else none)else none)
 (some (((),()),(b0,())))
def M9:Nat->Vn
 |0=>fun _ _ _ _=>none
 |n+1=>YL (M9 n)
def XI(R3:Vn)(p0:AC_):Option S9:=
 R3 p0 (p0.length:Int) 0 []
def PU(p0:AC_):Option S9:=XI (M9 Ae) p0
abbrev qu:Type:=ABq×Unit
def Iy(p0:Int)(p1:ADW):Option qu:=
 (FR p0).bind fun u1=>
 cond ((decide (u1.1.1<p1.1)))
  (some ((true,()),()))
 (cond (u1.1.1==p1.1)
  ((Tx p0).bind fun u3=>
  some (((decide (u3.1.1<p1.2.1)),()),()))
 (some ((false,()),())))
abbrev i7:Type:=ACu×AHO
def FO(p1:AFK)(AR AE:Int)(b1:ADS):Option i7:=
 if b1.length+1<=D8 then(
 some (((()),()),((AR,AE,(),()),(),(b1++[(p1.1,p1.2.1,p1.2.2.1,())]),())))else none
abbrev Zl:Type:=ACu×AC2
abbrev bc:Type:=List Int->List Int->Int->Int->List Int->Option Zl
def dB(R5:bc)(t2 t22:AAC)(t23 t24:Int)(b0:AAC):Option Zl:=
 cond (decide (t24<t23))
  (if(0:Int)<=t24/\t24<(t22.length:Int)then(
  let x3:Int:=(t22.getD (t24.toNat) 0)
  (Bz t2 x3).bind fun u4=>
  cond (!u4.1.1)
   (if b0.length+1<=D8 then(
   R5 t2 t22 t23 (Aa (t24+1)) (b0++[x3]))else none)
  (R5 t2 t22 t23 (Aa (t24+1)) b0))else none)
 (some (((),()),(b0,())))
def Sh:Nat->bc
 |0=>fun _ _ _ _ _=>none
 |n+1=>dB (Sh n)
def dP(R5:bc)(p0:ABU)(p1 p2:AAC):Option Zl:=
 (EH (p0.1,p0.2.1,()) p1).bind fun u1=>
 cond (!u1.1.1)
  (some (((),()),([],())))
 ((EH (p0.1,p0.2.1,()) p2).bind fun u2=>
 cond (!u2.1.1)
  (some (((),()),([],())))
 (R5 p2 p1 (p1.length:Int) 0 []))
def fP(p0:ABU)(p1 p2:AAC):Option Zl:=dP (Sh Ae) p0 p1 p2
abbrev sw:Type:=ABq×Unit
def HI(p0:ABU)(p1 p2:AAC):Option sw:=
 (EH (p0.1,p0.2.1,()) p2).bind fun u1=>
 cond (!u1.1.1)
  (some ((false,()),()))
 ((G3 (p0.1,p0.2.1,()) p1).bind fun u2=>
 cond (!u2.1.1)
  (some ((false,()),()))
 ((NO p2 p1).bind fun u3=>
 cond (((u3.2.1.length:Int) !=(p2.length:Int)))
  (some ((false,()),()))
 ((fP (p0.1,p0.2.1,()) p1 p2).bind fun u6=>
 (G3 (p0.1,p0.2.1,()) u6.2.1).bind fun u7=>
 some ((!u7.1.1,()),()))))
abbrev sW:Type:=(ADr×Unit)×Unit
def Rc(p0 p1:ADr):Option sW:=
 cond ((decide (p1.2.1>p0.2.1)))
  (some (((p1.1,p1.2.1,p1.2.2.1,p1.2.2.2.1,()),()),()))
 (some (((p0.1,p0.2.1,p0.2.2.1,p0.2.2.2.1,()),()),()))
abbrev Ub:Type:=AFi×Unit
abbrev XM:Type:=List Int->Int->Bool->AC_->Int->Int->Int->Int->Bool->List UInt8->Int->Int->Bool->List UInt8->Option Ub
def ZU(R3:XM)(t1:AAC)(t2:Int)(t9:Bool)(t13:AC_)(t14 t15 AR AE:Int)(Am:Bool)(CE:ACB)(Cf Bn:Int)(EM:Bool)(HF:ACB):Option Ub:=
 cond (decide (t15<t14))
  (if(0:Int)<=t15/\t15<(t13.length:Int)then(
  cond (!((t13.getD (t15.toNat) (0,false,0,0,false,[],())).2.1))
   (R3 t1 t2 t9 t13 t14 (Aa (t15+1)) AR AE Am CE Cf Bn EM HF)
  ((Bz t1 ((t13.getD (t15.toNat) (0,false,0,0,false,[],())).1)).bind fun u3=>
  cond (!u3.1.1)
   (R3 t1 t2 t9 t13 t14 (Aa (t15+1)) AR AE Am CE Cf Bn EM HF)
  ((Mj ((t13.getD (t15.toNat) (0,false,0,0,false,[],())).2.2.1,(t13.getD (t15.toNat) (0,false,0,0,false,[],())).2.2.2.1,(t13.getD (t15.toNat) (0,false,0,0,false,[],())).2.2.2.2.1,(t13.getD (t15.toNat) (0,false,0,0,false,[],())).2.2.2.2.2.1,())).bind fun u4=>
  cond (!u4.1.1)
   (R3 t1 t2 t9 t13 t14 (Aa (t15+1)) AR AE Am CE Cf Bn EM HF)
  (cond (((t13.getD (t15.toNat) (0,false,0,0,false,[],())).2.2.1) !=t2)
   (R3 t1 t2 t9 t13 t14 (Aa (t15+1)) AR AE Am CE Cf Bn EM HF)
  (cond (!t9)
   ((Rc ((t13.getD (t15.toNat) (0,false,0,0,false,[],())).2.2.1,(t13.getD (t15.toNat) (0,false,0,0,false,[],())).2.2.2.1,(t13.getD (t15.toNat) (0,false,0,0,false,[],())).2.2.2.2.1,(t13.getD (t15.toNat) (0,false,0,0,false,[],())).2.2.2.2.2.1,()) ((t13.getD (t15.toNat) (0,false,0,0,false,[],())).2.2.1,(t13.getD (t15.toNat) (0,false,0,0,false,[],())).2.2.2.1,(t13.getD (t15.toNat) (0,false,0,0,false,[],())).2.2.2.2.1,(t13.getD (t15.toNat) (0,false,0,0,false,[],())).2.2.2.2.2.1,())).bind fun u6=>
   R3 t1 t2 true t13 t14 (Aa (t15+1)) AR AE Am CE u6.1.1.1 u6.1.1.2.1 u6.1.1.2.2.1 u6.1.1.2.2.2.1)
  ((Rc (Cf,Bn,EM,HF,()) ((t13.getD (t15.toNat) (0,false,0,0,false,[],())).2.2.1,(t13.getD (t15.toNat) (0,false,0,0,false,[],())).2.2.2.1,(t13.getD (t15.toNat) (0,false,0,0,false,[],())).2.2.2.2.1,(t13.getD (t15.toNat) (0,false,0,0,false,[],())).2.2.2.2.2.1,())).bind fun u7=>
  R3 t1 t2 true t13 t14 (Aa (t15+1)) AR AE Am CE u7.1.1.1 u7.1.1.2.1 u7.1.1.2.2.1 u7.1.1.2.2.2.1))))))else none)
 (some ((((Cf,Bn,EM,HF,()),t9,()),()),()))
def Oh:Nat->XM
 |0=>fun _ _ _ _ _ _ _ _ _ _ _ _ _ _=>none
 |n+1=>ZU (Oh n)
def ZI(R3:XM)(p0:AC_)(p1:AAC)(p2:Int):Option Ub:=
 R3 p1 p2 false p0 (p0.length:Int) 0 0 0 false [] 0 0 false []
def Zs(p0:AC_)(p1:AAC)(p2:Int):Option Ub:=ZI (Oh Ae) p0 p1 p2
abbrev fx:Type:=ACu×AHO
def DL(p1:AC_)(p2:AAC)(AR AE:Int)(b1:ADS):Option fx:=
 (D3 AR AE).bind fun u1=>
 (Zs p1 p2 u1.1.1.1).bind fun u2=>
 cond (!u2.1.1.2.1)
  ((FO (3,u1.1.1.1,[],()) AR AE b1).bind fun u3=>
  some (((()),()),((u3.2.1.1,Aa (u3.2.1.2.1+1),(),()),(),u3.2.2.2.1,())))
 (cond (u2.1.1.1.2.2.1)
  ((FO (2,u1.1.1.1,[],()) AR AE b1).bind fun u4=>
  some (((()),()),((u4.2.1.1,Aa (u4.2.1.2.1+1),(),()),(),u4.2.2.2.1,())))
 ((FO (1,u1.1.1.1,u2.1.1.1.2.2.2.1,()) AR AE b1).bind fun u5=>
 some (((()),()),((u5.2.1.1,Aa (u5.2.1.2.1+1),(),()),(),u5.2.2.2.1,()))))
abbrev Ko:Type:=(AHP×Unit)×AEo
def KE(p0:ABU)(p1:ABy)(p2:Int)(p3:ADW)(p4:AC_):Option Ko:=
 (K6 (p0.1,p0.2.1,()) (p1.1,p1.2.1,())).bind fun u1=>
 cond (!u1.1.1)
  (some ((((0,0,(),()),1,()),()),([],())))
 ((UJ (p3.1,p3.2.1,p3.2.2.1,())).bind fun u2=>
 cond (!u2.1.1)
  (some ((((0,0,(),()),1,()),()),([],())))
 ((PU p4).bind fun u3=>
 (EH (p0.1,p0.2.1,()) u3.2.1).bind fun u4=>
 cond (!u4.1.1)
  (some ((((0,0,(),()),1,()),()),([],())))
 ((NG (p3.1,p3.2.1,p3.2.2.1,())).bind fun u5=>
 cond ((decide (p3.1>(p1.1.length:Int))))
  (some ((((u5.1.1.1,u5.1.1.2.1,(),()),2,()),()),(u5.2.1,())))
 (cond ((p3.2.2.1.length:Int)==120)
  (some ((((u5.1.1.1,u5.1.1.2.1,(),()),2,()),()),(u5.2.1,())))
 (cond (decide (p1.2.1>0))
  ((Iy p1.2.1 (p3.1,p3.2.1,p3.2.2.1,())).bind fun u8=>
  cond (!u8.1.1)
   ((FO (5,p1.2.1,[],()) u5.1.1.1 u5.1.1.2.1 u5.2.1).bind fun u9=>
   (FR p1.2.1).bind fun EP=>
   (Tx p1.2.1).bind fun M6=>
   some ((((EP.1.1,Aa (M6.1.1+1),(),()),0,()),()),(u9.2.2.2.1,())))
  (if(0:Int)<=Aa (p3.1-1)/\Aa (p3.1-1)<(p1.1.length:Int)then(
  (PU p4).bind fun bX=>
  (NO bX.2.1 ((p1.1.getD ((Aa (p3.1-1)).toNat) ([],false,0,())).1)).bind fun XC=>
  cond (((p1.1.getD ((Aa (p3.1-1)).toNat) ([],false,0,())).2.1))
   (cond ((decide (p3.2.1>((p1.1.getD ((Aa (p3.1-1)).toNat) ([],false,0,())).2.2.1))))
    ((FO (4,Aa (p3.1+1),[],()) u5.1.1.1 u5.1.1.2.1 u5.2.1).bind fun kc=>
    some ((((Aa (p3.1+1),1,(),()),0,()),()),(kc.2.2.2.1,())))
   (cond (!((p1.1.getD ((Aa (p3.1-1)).toNat) ([],false,0,())).2.1))
    (cond (decide (p3.2.1>p2))
     (some ((((u5.1.1.1,u5.1.1.2.1,(),()),2,()),()),(u5.2.1,())))
    (cond (decide (p3.2.1>60))
     (some ((((u5.1.1.1,u5.1.1.2.1,(),()),2,()),()),(u5.2.1,())))
    ((HI (p0.1,p0.2.1,()) ((p1.1.getD ((Aa (p3.1-1)).toNat) ([],false,0,())).1) XC.2.1).bind fun l4=>
    cond (!l4.1.1)
     (some ((((u5.1.1.1,u5.1.1.2.1,(),()),3,()),()),(u5.2.1,())))
    ((DL p4 XC.2.1 u5.1.1.1 u5.1.1.2.1 u5.2.1).bind fun TA=>
    some ((((TA.2.1.1,TA.2.1.2.1,(),()),0,()),()),(TA.2.2.2.1,()))))))
   (cond (decide (p3.2.1>60))
    (some ((((u5.1.1.1,u5.1.1.2.1,(),()),2,()),()),(u5.2.1,())))
   ((HI (p0.1,p0.2.1,()) ((p1.1.getD ((Aa (p3.1-1)).toNat) ([],false,0,())).1) XC.2.1).bind fun nT=>
   cond (!nT.1.1)
    (some ((((u5.1.1.1,u5.1.1.2.1,(),()),3,()),()),(u5.2.1,())))
   ((DL p4 XC.2.1 u5.1.1.1 u5.1.1.2.1 u5.2.1).bind fun u22=>
   some ((((u22.2.1.1,u22.2.1.2.1,(),()),0,()),()),(u22.2.2.2.1,())))))))
  (cond (!((p1.1.getD ((Aa (p3.1-1)).toNat) ([],false,0,())).2.1))
   (cond (decide (p3.2.1>p2))
    (some ((((u5.1.1.1,u5.1.1.2.1,(),()),2,()),()),(u5.2.1,())))
   (cond (decide (p3.2.1>60))
    (some ((((u5.1.1.1,u5.1.1.2.1,(),()),2,()),()),(u5.2.1,())))
   ((HI (p0.1,p0.2.1,()) ((p1.1.getD ((Aa (p3.1-1)).toNat) ([],false,0,())).1) XC.2.1).bind fun YV=>
   cond (!YV.1.1)
    (some ((((u5.1.1.1,u5.1.1.2.1,(),()),3,()),()),(u5.2.1,())))
   ((DL p4 XC.2.1 u5.1.1.1 u5.1.1.2.1 u5.2.1).bind fun gU=>
   some ((((gU.2.1.1,gU.2.1.2.1,(),()),0,()),()),(gU.2.2.2.1,()))))))
  (cond (decide (p3.2.1>60))
   (some ((((u5.1.1.1,u5.1.1.2.1,(),()),2,()),()),(u5.2.1,())))
  ((HI (p0.1,p0.2.1,()) ((p1.1.getD ((Aa (p3.1-1)).toNat) ([],false,0,())).1) XC.2.1).bind fun ot=>
  cond (!ot.1.1)
   (some ((((u5.1.1.1,u5.1.1.2.1,(),()),3,()),()),(u5.2.1,())))
  ((DL p4 XC.2.1 u5.1.1.1 u5.1.1.2.1 u5.2.1).bind fun wy=>
  some ((((wy.2.1.1,wy.2.1.2.1,(),()),0,()),()),(wy.2.2.2.1,())))))))else none))
 (if(0:Int)<=Aa (p3.1-1)/\Aa (p3.1-1)<(p1.1.length:Int)then(
 (PU p4).bind fun YY=>
 (NO YY.2.1 ((p1.1.getD ((Aa (p3.1-1)).toNat) ([],false,0,())).1)).bind fun tM=>
 cond (((p1.1.getD ((Aa (p3.1-1)).toNat) ([],false,0,())).2.1))
  (cond ((decide (p3.2.1>((p1.1.getD ((Aa (p3.1-1)).toNat) ([],false,0,())).2.2.1))))
   ((FO (4,Aa (p3.1+1),[],()) u5.1.1.1 u5.1.1.2.1 u5.2.1).bind fun nP=>
   some ((((Aa (p3.1+1),1,(),()),0,()),()),(nP.2.2.2.1,())))
  (cond (!((p1.1.getD ((Aa (p3.1-1)).toNat) ([],false,0,())).2.1))
   (cond (decide (p3.2.1>p2))
    (some ((((u5.1.1.1,u5.1.1.2.1,(),()),2,()),()),(u5.2.1,())))
   (cond (decide (p3.2.1>60))
    (some ((((u5.1.1.1,u5.1.1.2.1,(),()),2,()),()),(u5.2.1,())))
   ((HI (p0.1,p0.2.1,()) ((p1.1.getD ((Aa (p3.1-1)).toNat) ([],false,0,())).1) tM.2.1).bind fun u35=>
   cond (!u35.1.1)
    (some ((((u5.1.1.1,u5.1.1.2.1,(),()),3,()),()),(u5.2.1,())))
   ((DL p4 tM.2.1 u5.1.1.1 u5.1.1.2.1 u5.2.1).bind fun u36=>
   some ((((u36.2.1.1,u36.2.1.2.1,(),()),0,()),()),(u36.2.2.2.1,()))))))
  (cond (decide (p3.2.1>60))
   (some ((((u5.1.1.1,u5.1.1.2.1,(),()),2,()),()),(u5.2.1,())))
  ((HI (p0.1,p0.2.1,()) ((p1.1.getD ((Aa (p3.1-1)).toNat) ([],false,0,())).1) tM.2.1).bind fun nA=>
  cond (!nA.1.1)
   (some ((((u5.1.1.1,u5.1.1.2.1,(),()),3,()),()),(u5.2.1,())))
  ((DL p4 tM.2.1 u5.1.1.1 u5.1.1.2.1 u5.2.1).bind fun u38=>
  some ((((u38.2.1.1,u38.2.1.2.1,(),()),0,()),()),(u38.2.2.2.1,())))))))
 (cond (!((p1.1.getD ((Aa (p3.1-1)).toNat) ([],false,0,())).2.1))
  (cond (decide (p3.2.1>p2))
   (some ((((u5.1.1.1,u5.1.1.2.1,(),()),2,()),()),(u5.2.1,())))
  (cond (decide (p3.2.1>60))
   (some ((((u5.1.1.1,u5.1.1.2.1,(),()),2,()),()),(u5.2.1,())))
  ((HI (p0.1,p0.2.1,()) ((p1.1.getD ((Aa (p3.1-1)).toNat) ([],false,0,())).1) tM.2.1).bind fun u40=>
  cond (!u40.1.1)
   (some ((((u5.1.1.1,u5.1.1.2.1,(),()),3,()),()),(u5.2.1,())))
  ((DL p4 tM.2.1 u5.1.1.1 u5.1.1.2.1 u5.2.1).bind fun u41=>
  some ((((u41.2.1.1,u41.2.1.2.1,(),()),0,()),()),(u41.2.2.2.1,()))))))
 (cond (decide (p3.2.1>60))
  (some ((((u5.1.1.1,u5.1.1.2.1,(),()),2,()),()),(u5.2.1,())))
 ((HI (p0.1,p0.2.1,()) ((p1.1.getD ((Aa (p3.1-1)).toNat) ([],false,0,())).1) tM.2.1).bind fun u42=>
 cond (!u42.1.1)
  (some ((((u5.1.1.1,u5.1.1.2.1,(),()),3,()),()),(u5.2.1,())))
 ((DL p4 tM.2.1 u5.1.1.1 u5.1.1.2.1 u5.2.1).bind fun u43=>
 some ((((u43.2.1.1,u43.2.1.2.1,(),()),0,()),()),(u43.2.2.2.1,())))))))else none))))))
abbrev Kq:Type:=ABu×AEM
abbrev Qv:Type:=Int->Int->Int->Int->Int->Int->Bool->List Int->AAT->List Int->AAU->ABO->ABP->AAq->AA1->Int->Int->ADS->AC_->List Int->Option Kq
def Nk(R7:Qv)(t1 t8 t44 t45 AE AS:Int)(AK:Bool)(b1:AAC)(b2:AAT)(b3:AAC)(b4:AAU)(b5:ABO)(b6:ABP)(b7:AAq)(b8:AA1)(jT EE:Int)(eF:ADS)(LU:AC_)(GD:AAC):Option Kq:=
 cond (decide (t45<t44))
  (if(0:Int)<=t45/\t45<(GD.length:Int)then(
  let x8:Int:=(GD.getD (t45.toNat) 0)
  cond ((decide (x8<(b2.length:Int))))
   ((DI (b1,AE,b2,b3,b4,AS,b5,b6,b7,b8,AK,()) x8).bind fun EP=>
   cond (!EP.1.1)
    (if(0:Int)<=x8/\x8<(b2.length:Int)then(
    (Gm ((b2.getD (x8.toNat) ([],[],0,())).1,(b2.getD (x8.toNat) ([],[],0,())).2.1,(b2.getD (x8.toNat) ([],[],0,())).2.2.1,()) t8).bind fun M6=>
    if LU.length+1<=D8 then(
    R7 t1 t8 t44 (Aa (t45+1)) AE AS AK b1 b2 b3 b4 b5 b6 b7 b8 jT EE eF (LU++[(x8,M6.1.1.2.1,M6.1.1.1.1,M6.1.1.1.2.1,M6.1.1.1.2.2.1,M6.1.1.1.2.2.2.1,())]) GD)else none)else none)
   (R7 t1 t8 t44 (Aa (t45+1)) AE AS AK b1 b2 b3 b4 b5 b6 b7 b8 jT EE eF LU GD))
  (R7 t1 t8 t44 (Aa (t45+1)) AE AS AK b1 b2 b3 b4 b5 b6 b7 b8 jT EE eF LU GD))else none)
 ((RT (b1,AE,b2,b3,b4,AS,b5,b6,b7,b8,AK,()) jT).bind fun XC=>
 (KE (b1,AE,()) (b4,AS,()) XC.1.1 (jT,EE,eF,()) LU).bind fun V0=>
 cond (V0.1.1.2.1 !=0)
  (some ((5,()),(((),AE,(),(),(),AS,(),(),(),(),AK,()),b1,b2,b3,b4,b5,b6,b7,b8,())))
 (if(0:Int)<=t1/\t1<(b7.length:Int)then(
 some ((0,()),(((),AE,(),(),(),AS,(),(),(),(),AK,()),b1,b2,b3,b4,b5,b6,(b7.set (t1.toNat) (V0.1.1.1.1,V0.1.1.1.2.1,V0.2.1,())),b8,())))else none))
def DM:Nat->Qv
 |0=>fun _ _ _ _ _ _ _ _ _ _ _ _ _ _ _ _ _ _ _ _=>none
 |n+1=>Nk (DM n)
def Nf(R7:Qv)(p1 p2 AE AS:Int)(AK:Bool)(b1:AAC)(b2:AAT)(b3:AAC)(b4:AAU)(b5:ABO)(b6:ABP)(b7:AAq)(b8:AA1):Option Kq:=
 (BC p1 0 (Aa ((b7.length:Int)-1))).bind fun u2=>
 cond (!u2.1.1)
  (some ((2,()),(((),AE,(),(),(),AS,(),(),(),(),AK,()),b1,b2,b3,b4,b5,b6,b7,b8,())))
 (if(0:Int)<=p1/\p1<(b7.length:Int)then(
 (D3 ((b7.getD (p1.toNat) (0,0,[],())).1) ((b7.getD (p1.toNat) (0,0,[],())).2.1)).bind fun u5=>
 (Hy p2).bind fun u6=>
 R7 p1 u5.1.1.1 (u6.2.1.length:Int) 0 AE AS AK b1 b2 b3 b4 b5 b6 b7 b8 ((b7.getD (p1.toNat) (0,0,[],())).1) ((b7.getD (p1.toNat) (0,0,[],())).2.1) ((b7.getD (p1.toNat) (0,0,[],())).2.2.1) [] u6.2.1)else none)
def NF(p1 p2 AE AS:Int)(AK:Bool)(b1:AAC)(b2:AAT)(b3:AAC)(b4:AAU)(b5:ABO)(b6:ABP)(b7:AAq)(b8:AA1):Option Kq:=Nf (DM Ae) p1 p2 AE AS AK b1 b2 b3 b4 b5 b6 b7 b8
abbrev oP:Type:=ABq×Unit
def Ul(p0:AFK):Option oP:=
 cond (p0.1==1)
  (some ((true,()),()))
 (cond (p0.1==2)
  (some ((true,()),()))
 (some ((p0.1==3,()),())))
abbrev D_:Type:=ABq×Unit
abbrev Me:Type:=AAq->Int->Int->List Int->Int->AAT->List Int->AAU->Int->ABO->ABP->AAq->AA1->Bool->Option D_
abbrev MV:Type:=Int->Bool->AAq->Int->Int->ADS->Int->Int->List Int->Int->AAT->List Int->AAU->Int->ABO->ABP->AAq->AA1->Bool->Option D_
def Nl(R2:Me)(R6:MV)(t10:AAq)(t11 t12:Int)(AR:AAC)(AE:Int)(Am:AAT)(CE:AAC)(Cd:AAU)(AS:Int)(CZ:ABO)(CS:ABP)(CU:AAq)(C9:AA1)(AK:Bool):Option D_:=
 cond (decide (t12<t11))
  (if(0:Int)<=t12/\t12<(t10.length:Int)then(
  R6 0 false t10 t11 t12 ((t10.getD (t12.toNat) (0,0,[],())).2.2.1) (((t10.getD (t12.toNat) (0,0,[],())).2.2.1).length:Int) 0 AR AE Am CE Cd AS CZ CS CU C9 AK)else none)
 ((Ca (AR,AE,Am,CE,Cd,AS,CZ,CS,CU,C9,AK,())).bind fun u3=>
 some ((u3.1.1,()),()))
def Tc(R2:Me)(R6:MV)(t5:Int)(t6:Bool)(t10:AAq)(t11 t12:Int)(t17:ADS)(t18 t19:Int)(AR:AAC)(AE:Int)(Am:AAT)(CE:AAC)(Cd:AAU)(AS:Int)(CZ:ABO)(CS:ABP)(CU:AAq)(C9:AA1)(AK:Bool):Option D_:=
 cond (decide (t19<t18))
  (if(0:Int)<=t19/\t19<(t17.length:Int)then(
  (Ul ((t17.getD (t19.toNat) (0,0,[],())).1,(t17.getD (t19.toNat) (0,0,[],())).2.1,(t17.getD (t19.toNat) (0,0,[],())).2.2.1,())).bind fun u4=>
  cond (!u4.1.1)
   (R6 t5 t6 t10 t11 t12 t17 t18 (Aa (t19+1)) AR AE Am CE Cd AS CZ CS CU C9 AK)
  (cond (t6)
   (cond (decide (((t17.getD (t19.toNat) (0,0,[],())).2.1)<=t5))
    (some ((false,()),()))
   (R6 ((t17.getD (t19.toNat) (0,0,[],())).2.1) true t10 t11 t12 t17 t18 (Aa (t19+1)) AR AE Am CE Cd AS CZ CS CU C9 AK))
  (R6 ((t17.getD (t19.toNat) (0,0,[],())).2.1) true t10 t11 t12 t17 t18 (Aa (t19+1)) AR AE Am CE Cd AS CZ CS CU C9 AK)))else none)
 (R2 t10 t11 (Aa (t12+1)) AR AE Am CE Cd AS CZ CS CU C9 AK)
mutual
def E7:Nat->Me
 |0=>fun _ _ _ _ _ _ _ _ _ _ _ _ _ _=>none
 |n+1=>Nl (E7 n) (Hg n)
def Hg:Nat->MV
 |0=>fun _ _ _ _ _ _ _ _ _ _ _ _ _ _ _ _ _ _ _=>none
 |n+1=>Tc (E7 n) (Hg n)
end
def TM(R2:Me)(R6:MV)(p0:ABg):Option D_:=
 R2 p0.2.2.2.2.2.2.2.2.1 (p0.2.2.2.2.2.2.2.2.1.length:Int) 0 p0.1 p0.2.1 p0.2.2.1 p0.2.2.2.1 p0.2.2.2.2.1 p0.2.2.2.2.2.1 p0.2.2.2.2.2.2.1 p0.2.2.2.2.2.2.2.1 p0.2.2.2.2.2.2.2.2.1 p0.2.2.2.2.2.2.2.2.2.1 p0.2.2.2.2.2.2.2.2.2.2.1
def F9(p0:ABg):Option D_:=TM (E7 Ae) (Hg Ae) p0
abbrev Ui:Type:=(AHQ×Unit)×Unit
abbrev XF:Type:=Int->AA1->Int->Int->Option Ui
def ZX(R2:XF)(t1:Int)(t9:AA1)(t10 t11:Int):Option Ui:=
 cond (decide (t11<t10))
  (if(0:Int)<=t11/\t11<(t9.length:Int)then(
  cond (((t9.getD (t11.toNat) (0,[],false,())).1)==t1)
   (some (((((t9.getD (t11.toNat) (0,[],false,())).2.1),true,()),()),()))
  (R2 t1 t9 t10 (Aa (t11+1))))else none)
 (some ((([],false,()),()),()))
def Ov:Nat->XF
 |0=>fun _ _ _ _=>none
 |n+1=>ZX (Ov n)
def ZS(R2:XF)(p0:ABg)(p1:Int):Option Ui:=
 R2 p1 p0.2.2.2.2.2.2.2.2.2.1 (p0.2.2.2.2.2.2.2.2.2.1.length:Int) 0
def ZB(p0:ABg)(p1:Int):Option Ui:=ZS (Ov Ae) p0 p1
abbrev EZ:Type:=ABq×Unit
abbrev Nq:Type:=AAq->Int->Int->List Int->Int->AAT->List Int->AAU->Int->ABO->ABP->AAq->AA1->Bool->Option EZ
abbrev N6:Type:=AAq->Int->Int->ADS->Int->Int->List Int->Int->AAT->List Int->AAU->Int->ABO->ABP->AAq->AA1->Bool->Option EZ
def OL(R2:Nq)(R5:N6)(t10:AAq)(t11 t12:Int)(AR:AAC)(AE:Int)(Am:AAT)(CE:AAC)(Cd:AAU)(AS:Int)(CZ:ABO)(CS:ABP)(CU:AAq)(C9:AA1)(AK:Bool):Option EZ:=
 cond (decide (t12<t11))
  (if(0:Int)<=t12/\t12<(t10.length:Int)then(
  R5 t10 t11 t12 ((t10.getD (t12.toNat) (0,0,[],())).2.2.1) (((t10.getD (t12.toNat) (0,0,[],())).2.2.1).length:Int) 0 AR AE Am CE Cd AS CZ CS CU C9 AK)else none)
 ((Ca (AR,AE,Am,CE,Cd,AS,CZ,CS,CU,C9,AK,())).bind fun u3=>
 some ((u3.1.1,()),()))
def Oa(R2:Nq)(R5:N6)(t10:AAq)(t11 t12:Int)(t17:ADS)(t18 t19:Int)(AR:AAC)(AE:Int)(Am:AAT)(CE:AAC)(Cd:AAU)(AS:Int)(CZ:ABO)(CS:ABP)(CU:AAq)(C9:AA1)(AK:Bool):Option EZ:=
 cond (decide (t19<t18))
  (if(0:Int)<=t19/\t19<(t17.length:Int)then(
  (ZB (AR,AE,Am,CE,Cd,AS,CZ,CS,CU,C9,AK,()) ((t17.getD (t19.toNat) (0,0,[],())).2.1)).bind fun u5=>
  cond (((t17.getD (t19.toNat) (0,0,[],())).1)==1)
   (cond (!u5.1.1.2.1)
    (some ((false,()),()))
   (cond (!(u5.1.1.1==((t17.getD (t19.toNat) (0,0,[],())).2.2.1)))
    (some ((false,()),()))
   (R5 t10 t11 t12 t17 t18 (Aa (t19+1)) AR AE Am CE Cd AS CZ CS CU C9 AK)))
  (R5 t10 t11 t12 t17 t18 (Aa (t19+1)) AR AE Am CE Cd AS CZ CS CU C9 AK))else none)
 (R2 t10 t11 (Aa (t12+1)) AR AE Am CE Cd AS CZ CS CU C9 AK)
mutual
def Fe:Nat->Nq
 |0=>fun _ _ _ _ _ _ _ _ _ _ _ _ _ _=>none
 |n+1=>OL (Fe n) (Gt n)
def Gt:Nat->N6
 |0=>fun _ _ _ _ _ _ _ _ _ _ _ _ _ _ _ _ _=>none
 |n+1=>Oa (Fe n) (Gt n)
end
def VT(R2:Nq)(R5:N6)(p0:ABg):Option EZ:=
 R2 p0.2.2.2.2.2.2.2.2.1 (p0.2.2.2.2.2.2.2.2.1.length:Int) 0 p0.1 p0.2.1 p0.2.2.1 p0.2.2.2.1 p0.2.2.2.2.1 p0.2.2.2.2.2.1 p0.2.2.2.2.2.2.1 p0.2.2.2.2.2.2.2.1 p0.2.2.2.2.2.2.2.2.1 p0.2.2.2.2.2.2.2.2.2.1 p0.2.2.2.2.2.2.2.2.2.2.1
def Gz(p0:ABg):Option EZ:=VT (Fe Ae) (Gt Ae) p0
abbrev ZA:Type:=(AHQ×Unit)×Unit
abbrev cS:Type:=Int->ADS->Int->Int->Option ZA
def dR(R2:cS)(t1:Int)(t9:ADS)(t10 t11:Int):Option ZA:=
 cond (decide (t11<t10))
  (if(0:Int)<=t11/\t11<(t9.length:Int)then(
  cond (((t9.getD (t11.toNat) (0,0,[],())).1)==1)
   (cond (((t9.getD (t11.toNat) (0,0,[],())).2.1)==t1)
    (some (((((t9.getD (t11.toNat) (0,0,[],())).2.2.1),true,()),()),()))
   (R2 t1 t9 t10 (Aa (t11+1))))
  (R2 t1 t9 t10 (Aa (t11+1))))else none)
 (some ((([],false,()),()),()))
def Sq:Nat->cS
 |0=>fun _ _ _ _=>none
 |n+1=>dR (Sq n)
def dO(R2:cS)(p0:ADW)(p1:Int):Option ZA:=
 R2 p1 p0.2.2.1 (p0.2.2.1.length:Int) 0
def T5(p0:ADW)(p1:Int):Option ZA:=dO (Sq Ae) p0 p1
abbrev JW:Type:=ABq×Unit
abbrev Ny:Type:=AAq->Int->Int->List Int->Int->AAT->List Int->AAU->Int->ABO->ABP->AAq->AA1->Bool->Option JW
abbrev N8:Type:=AAq->Int->Int->AA1->Int->Int->List Int->Int->AAT->List Int->AAU->Int->ABO->ABP->AAq->AA1->Bool->Int->Int->ADS->Option JW
def OQ(R4:Ny)(R7:N8)(t19:AAq)(t20 t21:Int)(AR:AAC)(AE:Int)(Am:AAT)(CE:AAC)(Cd:AAU)(AS:Int)(CZ:ABO)(CS:ABP)(CU:AAq)(C9:AA1)(AK:Bool):Option JW:=
 cond (decide (t21<t20))
  (if(0:Int)<=t21/\t21<(t19.length:Int)then(
  R7 t19 t20 t21 C9 (C9.length:Int) 0 AR AE Am CE Cd AS CZ CS CU C9 AK ((t19.getD (t21.toNat) (0,0,[],())).1) ((t19.getD (t21.toNat) (0,0,[],())).2.1) ((t19.getD (t21.toNat) (0,0,[],())).2.2.1))else none)
 (some ((true,()),()))
def O3(R4:Ny)(R7:N8)(t19:AAq)(t20 t21:Int)(t26:AA1)(t27 t28:Int)(AR:AAC)(AE:Int)(Am:AAT)(CE:AAC)(Cd:AAU)(AS:Int)(CZ:ABO)(CS:ABP)(CU:AAq)(C9:AA1)(AK:Bool)(Cf Bn:Int)(EM:ADS):Option JW:=
 cond (decide (t28<t27))
  (if(0:Int)<=t28/\t28<(t26.length:Int)then(
  (T5 (Cf,Bn,EM,()) ((t26.getD (t28.toNat) (0,[],false,())).1)).bind fun u7=>
  cond (((t26.getD (t28.toNat) (0,[],false,())).2.2.1))
   (cond (decide (((t26.getD (t28.toNat) (0,[],false,())).1)>AS))
    ((Iy ((t26.getD (t28.toNat) (0,[],false,())).1) (Cf,Bn,EM,())).bind fun M6=>
    cond (M6.1.1)
     (cond (!u7.1.1.2.1)
      (some ((false,()),()))
     (R7 t19 t20 t21 t26 t27 (Aa (t28+1)) AR AE Am CE Cd AS CZ CS CU C9 AK Cf Bn EM))
    (R7 t19 t20 t21 t26 t27 (Aa (t28+1)) AR AE Am CE Cd AS CZ CS CU C9 AK Cf Bn EM))
   (R7 t19 t20 t21 t26 t27 (Aa (t28+1)) AR AE Am CE Cd AS CZ CS CU C9 AK Cf Bn EM))
  (R7 t19 t20 t21 t26 t27 (Aa (t28+1)) AR AE Am CE Cd AS CZ CS CU C9 AK Cf Bn EM))else none)
 (R4 t19 t20 (Aa (t21+1)) AR AE Am CE Cd AS CZ CS CU C9 AK)
mutual
def Fo:Nat->Ny
 |0=>fun _ _ _ _ _ _ _ _ _ _ _ _ _ _=>none
 |n+1=>OQ (Fo n) (G_ n)
def G_:Nat->N8
 |0=>fun _ _ _ _ _ _ _ _ _ _ _ _ _ _ _ _ _ _ _ _=>none
 |n+1=>O3 (Fo n) (G_ n)
end
def U5(R4:Ny)(R7:N8)(p0:ABg):Option JW:=
 (Ca (p0.1,p0.2.1,p0.2.2.1,p0.2.2.2.1,p0.2.2.2.2.1,p0.2.2.2.2.2.1,p0.2.2.2.2.2.2.1,p0.2.2.2.2.2.2.2.1,p0.2.2.2.2.2.2.2.2.1,p0.2.2.2.2.2.2.2.2.2.1,p0.2.2.2.2.2.2.2.2.2.2.1,())).bind fun u1=>
 cond (!u1.1.1)
  ((Ca (p0.1,p0.2.1,p0.2.2.1,p0.2.2.2.1,p0.2.2.2.2.1,p0.2.2.2.2.2.1,p0.2.2.2.2.2.2.1,p0.2.2.2.2.2.2.2.1,p0.2.2.2.2.2.2.2.2.1,p0.2.2.2.2.2.2.2.2.2.1,p0.2.2.2.2.2.2.2.2.2.2.1,())).bind fun u2=>
  some ((u2.1.1,()),()))
 (cond (p0.2.2.2.2.2.2.2.2.2.2.1)
  ((Ca (p0.1,p0.2.1,p0.2.2.1,p0.2.2.2.1,p0.2.2.2.2.1,p0.2.2.2.2.2.1,p0.2.2.2.2.2.2.1,p0.2.2.2.2.2.2.2.1,p0.2.2.2.2.2.2.2.2.1,p0.2.2.2.2.2.2.2.2.2.1,p0.2.2.2.2.2.2.2.2.2.2.1,())).bind fun u4=>
  some ((u4.1.1,()),()))
 (R4 p0.2.2.2.2.2.2.2.2.1 (p0.2.2.2.2.2.2.2.2.1.length:Int) 0 p0.1 p0.2.1 p0.2.2.1 p0.2.2.2.1 p0.2.2.2.2.1 p0.2.2.2.2.2.1 p0.2.2.2.2.2.2.1 p0.2.2.2.2.2.2.2.1 p0.2.2.2.2.2.2.2.2.1 p0.2.2.2.2.2.2.2.2.2.1 p0.2.2.2.2.2.2.2.2.2.2.1))
def Sc(p0:ABg):Option JW:=U5 (Fo Ae) (G_ Ae) p0
abbrev IW:Type:=ABq×Unit
abbrev Mf:Type:=AAq->Int->Int->Option IW
abbrev MW:Type:=AAq->Int->Int->ADS->Int->Int->Option IW
def Na(R4:Mf)(R7:MW)(t17:AAq)(t18 t19:Int):Option IW:=
 cond (decide (t19<t18))
  (if(0:Int)<=t19/\t19<(t17.length:Int)then(
  R7 t17 t18 t19 ((t17.getD (t19.toNat) (0,0,[],())).2.2.1) (((t17.getD (t19.toNat) (0,0,[],())).2.2.1).length:Int) 0)else none)
 (some ((true,()),()))
def NY(R4:Mf)(R7:MW)(t17:AAq)(t18 t19:Int)(t24:ADS)(t25 t26:Int):Option IW:=
 cond (decide (t26<t25))
  (if(0:Int)<=t26/\t26<(t24.length:Int)then(
  cond (((t24.getD (t26.toNat) (0,0,[],())).1)==3)
   (some ((false,()),()))
  (R7 t17 t18 t19 t24 t25 (Aa (t26+1))))else none)
 (R4 t17 t18 (Aa (t19+1)))
mutual
def Dl:Nat->Mf
 |0=>fun _ _ _=>none
 |n+1=>Na (Dl n) (GH n)
def GH:Nat->MW
 |0=>fun _ _ _ _ _ _=>none
 |n+1=>NY (Dl n) (GH n)
end
def TS(R4:Mf)(R7:MW)(p0:ABg):Option IW:=
 (Ca (p0.1,p0.2.1,p0.2.2.1,p0.2.2.2.1,p0.2.2.2.2.1,p0.2.2.2.2.2.1,p0.2.2.2.2.2.2.1,p0.2.2.2.2.2.2.2.1,p0.2.2.2.2.2.2.2.2.1,p0.2.2.2.2.2.2.2.2.2.1,p0.2.2.2.2.2.2.2.2.2.2.1,())).bind fun u1=>
 cond (!u1.1.1)
  ((Ca (p0.1,p0.2.1,p0.2.2.1,p0.2.2.2.1,p0.2.2.2.2.1,p0.2.2.2.2.2.1,p0.2.2.2.2.2.2.1,p0.2.2.2.2.2.2.2.1,p0.2.2.2.2.2.2.2.2.1,p0.2.2.2.2.2.2.2.2.2.1,p0.2.2.2.2.2.2.2.2.2.2.1,())).bind fun u2=>
  some ((u2.1.1,()),()))
 (cond (p0.2.2.2.2.2.2.2.2.2.2.1)
  ((Ca (p0.1,p0.2.1,p0.2.2.1,p0.2.2.2.1,p0.2.2.2.2.1,p0.2.2.2.2.2.1,p0.2.2.2.2.2.2.1,p0.2.2.2.2.2.2.2.1,p0.2.2.2.2.2.2.2.2.1,p0.2.2.2.2.2.2.2.2.2.1,p0.2.2.2.2.2.2.2.2.2.2.1,())).bind fun u4=>
  some ((u4.1.1,()),()))
 (R4 p0.2.2.2.2.2.2.2.2.1 (p0.2.2.2.2.2.2.2.2.1.length:Int) 0))
def Qi(p0:ABg):Option IW:=TS (Dl Ae) (GH Ae) p0
abbrev JM:Type:=ABq×Unit
abbrev N9:Type:=AAq->Int->Int->List Int->Int->AAT->List Int->AAU->Int->ABO->ABP->AAq->AA1->Bool->Option JM
abbrev N7:Type:=AAq->Int->Int->ADS->Int->Int->List Int->Int->AAT->List Int->AAU->Int->ABO->ABP->AAq->AA1->Bool->Option JM
def Oy(R4:N9)(R7:N7)(t22:AAq)(t23 t24:Int)(AR:AAC)(AE:Int)(Am:AAT)(CE:AAC)(Cd:AAU)(AS:Int)(CZ:ABO)(CS:ABP)(CU:AAq)(C9:AA1)(AK:Bool):Option JM:=
 cond (decide (t24<t23))
  (if(0:Int)<=t24/\t24<(t22.length:Int)then(
  R7 t22 t23 t24 ((t22.getD (t24.toNat) (0,0,[],())).2.2.1) (((t22.getD (t24.toNat) (0,0,[],())).2.2.1).length:Int) 0 AR AE Am CE Cd AS CZ CS CU C9 AK)else none)
 (some ((true,()),()))
def On(R4:N9)(R7:N7)(t22:AAq)(t23 t24:Int)(t29:ADS)(t30 t31:Int)(AR:AAC)(AE:Int)(Am:AAT)(CE:AAC)(Cd:AAU)(AS:Int)(CZ:ABO)(CS:ABP)(CU:AAq)(C9:AA1)(AK:Bool):Option JM:=
 cond (decide (t31<t30))
  (if(0:Int)<=t31/\t31<(t29.length:Int)then(
  (Dw ((t29.getD (t31.toNat) (0,0,[],())).2.1)).bind fun u8=>
  cond (u8.1.1)
   (if(0:Int)<=(0:Int)/\(0:Int)<(CU.length:Int)then(
   (Iy ((t29.getD (t31.toNat) (0,0,[],())).2.1) ((CU.getD 0 (0,0,[],())).1,(CU.getD 0 (0,0,[],())).2.1,(CU.getD 0 (0,0,[],())).2.2.1,())).bind fun EP=>
   cond (EP.1.1)
    (if(0:Int)<=(1:Int)/\(1:Int)<(CU.length:Int)then(
    (Iy ((t29.getD (t31.toNat) (0,0,[],())).2.1) ((CU.getD 1 (0,0,[],())).1,(CU.getD 1 (0,0,[],())).2.1,(CU.getD 1 (0,0,[],())).2.2.1,())).bind fun bX=>
    cond (((t29.getD (t31.toNat) (0,0,[],())).1) !=1)
     (R7 t22 t23 t24 t29 t30 (Aa (t31+1)) AR AE Am CE Cd AS CZ CS CU C9 AK)
    (cond (decide (((t29.getD (t31.toNat) (0,0,[],())).2.1)<=AS))
     (R7 t22 t23 t24 t29 t30 (Aa (t31+1)) AR AE Am CE Cd AS CZ CS CU C9 AK)
    (cond (!bX.1.1)
     (R7 t22 t23 t24 t29 t30 (Aa (t31+1)) AR AE Am CE Cd AS CZ CS CU C9 AK)
    (if(0:Int)<=(0:Int)/\(0:Int)<(CU.length:Int)then(
    (T5 ((CU.getD 0 (0,0,[],())).1,(CU.getD 0 (0,0,[],())).2.1,(CU.getD 0 (0,0,[],())).2.2.1,()) ((t29.getD (t31.toNat) (0,0,[],())).2.1)).bind fun u16=>
    if(0:Int)<=(1:Int)/\(1:Int)<(CU.length:Int)then(
    (T5 ((CU.getD 1 (0,0,[],())).1,(CU.getD 1 (0,0,[],())).2.1,(CU.getD 1 (0,0,[],())).2.2.1,()) ((t29.getD (t31.toNat) (0,0,[],())).2.1)).bind fun ue=>
    cond ((u16.1.1.2.1 !=ue.1.1.2.1))
     (some ((false,()),()))
    (cond ((!(u16.1.1.1==ue.1.1.1)))
     (some ((false,()),()))
    (R7 t22 t23 t24 t29 t30 (Aa (t31+1)) AR AE Am CE Cd AS CZ CS CU C9 AK)))else none)else none))))else none)
   (cond (((t29.getD (t31.toNat) (0,0,[],())).1) !=1)
    (R7 t22 t23 t24 t29 t30 (Aa (t31+1)) AR AE Am CE Cd AS CZ CS CU C9 AK)
   (cond (decide (((t29.getD (t31.toNat) (0,0,[],())).2.1)<=AS))
    (R7 t22 t23 t24 t29 t30 (Aa (t31+1)) AR AE Am CE Cd AS CZ CS CU C9 AK)
   (R7 t22 t23 t24 t29 t30 (Aa (t31+1)) AR AE Am CE Cd AS CZ CS CU C9 AK))))else none)
  (cond (((t29.getD (t31.toNat) (0,0,[],())).1) !=1)
   (R7 t22 t23 t24 t29 t30 (Aa (t31+1)) AR AE Am CE Cd AS CZ CS CU C9 AK)
  (cond (decide (((t29.getD (t31.toNat) (0,0,[],())).2.1)<=AS))
   (R7 t22 t23 t24 t29 t30 (Aa (t31+1)) AR AE Am CE Cd AS CZ CS CU C9 AK)
  (R7 t22 t23 t24 t29 t30 (Aa (t31+1)) AR AE Am CE Cd AS CZ CS CU C9 AK))))else none)
 (R4 t22 t23 (Aa (t24+1)) AR AE Am CE Cd AS CZ CS CU C9 AK)
mutual
def Ff:Nat->N9
 |0=>fun _ _ _ _ _ _ _ _ _ _ _ _ _ _=>none
 |n+1=>Oy (Ff n) (Gx n)
def Gx:Nat->N7
 |0=>fun _ _ _ _ _ _ _ _ _ _ _ _ _ _ _ _ _=>none
 |n+1=>On (Ff n) (Gx n)
end
def U_(R4:N9)(R7:N7)(p0:ABg):Option JM:=
 (Ca (p0.1,p0.2.1,p0.2.2.1,p0.2.2.2.1,p0.2.2.2.2.1,p0.2.2.2.2.2.1,p0.2.2.2.2.2.2.1,p0.2.2.2.2.2.2.2.1,p0.2.2.2.2.2.2.2.2.1,p0.2.2.2.2.2.2.2.2.2.1,p0.2.2.2.2.2.2.2.2.2.2.1,())).bind fun u1=>
 cond (!u1.1.1)
  ((Ca (p0.1,p0.2.1,p0.2.2.1,p0.2.2.2.1,p0.2.2.2.2.1,p0.2.2.2.2.2.1,p0.2.2.2.2.2.2.1,p0.2.2.2.2.2.2.2.1,p0.2.2.2.2.2.2.2.2.1,p0.2.2.2.2.2.2.2.2.2.1,p0.2.2.2.2.2.2.2.2.2.2.1,())).bind fun u2=>
  some ((u2.1.1,()),()))
 (cond (p0.2.2.2.2.2.2.2.2.2.2.1)
  ((Ca (p0.1,p0.2.1,p0.2.2.1,p0.2.2.2.1,p0.2.2.2.2.1,p0.2.2.2.2.2.1,p0.2.2.2.2.2.2.1,p0.2.2.2.2.2.2.2.1,p0.2.2.2.2.2.2.2.2.1,p0.2.2.2.2.2.2.2.2.2.1,p0.2.2.2.2.2.2.2.2.2.2.1,())).bind fun u4=>
  some ((u4.1.1,()),()))
 (R4 p0.2.2.2.2.2.2.2.2.1 (p0.2.2.2.2.2.2.2.2.1.length:Int) 0 p0.1 p0.2.1 p0.2.2.1 p0.2.2.2.1 p0.2.2.2.2.1 p0.2.2.2.2.2.1 p0.2.2.2.2.2.2.1 p0.2.2.2.2.2.2.2.1 p0.2.2.2.2.2.2.2.2.1 p0.2.2.2.2.2.2.2.2.2.1 p0.2.2.2.2.2.2.2.2.2.2.1))
def S1(p0:ABg):Option JM:=U_ (Ff Ae) (Gx Ae) p0
abbrev NA:Type:=ABq×Unit
def JE(p0:ABg):Option NA:=
 (F9 (p0.1,p0.2.1,p0.2.2.1,p0.2.2.2.1,p0.2.2.2.2.1,p0.2.2.2.2.2.1,p0.2.2.2.2.2.2.1,p0.2.2.2.2.2.2.2.1,p0.2.2.2.2.2.2.2.2.1,p0.2.2.2.2.2.2.2.2.2.1,p0.2.2.2.2.2.2.2.2.2.2.1,())).bind fun u1=>
 cond (u1.1.1)
  ((Gz (p0.1,p0.2.1,p0.2.2.1,p0.2.2.2.1,p0.2.2.2.2.1,p0.2.2.2.2.2.1,p0.2.2.2.2.2.2.1,p0.2.2.2.2.2.2.2.1,p0.2.2.2.2.2.2.2.2.1,p0.2.2.2.2.2.2.2.2.2.1,p0.2.2.2.2.2.2.2.2.2.2.1,())).bind fun u2=>
  cond (u2.1.1)
   ((Sc (p0.1,p0.2.1,p0.2.2.1,p0.2.2.2.1,p0.2.2.2.2.1,p0.2.2.2.2.2.1,p0.2.2.2.2.2.2.1,p0.2.2.2.2.2.2.2.1,p0.2.2.2.2.2.2.2.2.1,p0.2.2.2.2.2.2.2.2.2.1,p0.2.2.2.2.2.2.2.2.2.2.1,())).bind fun u3=>
   cond (u3.1.1)
    ((Qi (p0.1,p0.2.1,p0.2.2.1,p0.2.2.2.1,p0.2.2.2.2.1,p0.2.2.2.2.2.1,p0.2.2.2.2.2.2.1,p0.2.2.2.2.2.2.2.1,p0.2.2.2.2.2.2.2.2.1,p0.2.2.2.2.2.2.2.2.2.1,p0.2.2.2.2.2.2.2.2.2.2.1,())).bind fun u4=>
    cond (u4.1.1)
     ((S1 (p0.1,p0.2.1,p0.2.2.1,p0.2.2.2.1,p0.2.2.2.2.1,p0.2.2.2.2.2.1,p0.2.2.2.2.2.2.1,p0.2.2.2.2.2.2.2.1,p0.2.2.2.2.2.2.2.2.1,p0.2.2.2.2.2.2.2.2.2.1,p0.2.2.2.2.2.2.2.2.2.2.1,())).bind fun u5=>
     some ((u5.1.1,()),()))
    (some ((false,()),())))
   (some ((false,()),())))
  (some ((false,()),())))
 (some ((false,()),()))
abbrev sd:Type:=ABu×Unit
def ZF(p0:AAC)(p1 p2:Int):Option sd:=
 let x1:Int:=Aa ((p0.length:Int).tdiv 4)
 cond ((decide ((Aa (p1+x1))>p2)))
  (some ((p2,()),()))
 (some ((Aa (p1+x1),()),()))
abbrev Wz:Type:=ABq×Unit
abbrev aH:Type:=List Int->Int->Int->Int->Option Wz
def Tu(R2:aH)(t0:AAC)(t1 t2 t7:Int):Option Wz:=
 cond ((decide (t7<(t0.length:Int))))
  (if(0:Int)<=t7/\t7<(t0.length:Int)then(
  (CN (t0.getD (t7.toNat) 0) t1 t2).bind fun u3=>
  cond (!u3.1.1)
   (some ((false,()),()))
  (cond (decide (t7>0))
   (if(0:Int)<=Aa (t7-1)/\Aa (t7-1)<(t0.length:Int)then(
   if(0:Int)<=t7/\t7<(t0.length:Int)then(
   cond (decide ((t0.getD ((Aa (t7-1)).toNat) 0)>=(t0.getD (t7.toNat) 0)))
    (some ((false,()),()))
   (R2 t0 t1 t2 (Aa (t7+1))))else none)else none)
  (R2 t0 t1 t2 (Aa (t7+1)))))else none)
 (some ((true,()),()))
def NL:Nat->aH
 |0=>fun _ _ _ _=>none
 |n+1=>Tu (NL n)
def bU(R2:aH)(p0:AAC)(p1 p2:Int):Option Wz:=
 R2 p0 p1 p2 0
def XE(p0:AAC)(p1 p2:Int):Option Wz:=bU (NL Ae) p0 p1 p2
abbrev ph:Type:=ABq×Unit
def G7(p0:ABU)(p1:AAC):Option ph:=
 (Gg (p0.1,p0.2.1,())).bind fun u1=>
 cond (u1.1.1)
  ((XE p1 0 (Aa ((p0.1.length:Int)-1))).bind fun u3=>
  some ((u3.1.1,()),()))
 (some ((false,()),()))
abbrev Uh:Type:=ABu×Unit
abbrev X_:Type:=List Int->Int->Int->List Int->Int->List Bool->Option Uh
def Yv(R4:X_)(t1:AAC)(t6 t7:Int)(AR:AAC)(AE:Int)(b1:List Bool):Option Uh:=
 cond ((decide (t7<(t1.length:Int))))
  (if(0:Int)<=t7/\t7<(t1.length:Int)then(
  let x3:Int:=(t1.getD (t7.toNat) 0)
  if(0:Int)<=x3/\x3<(AR.length:Int)then(
  let x4:Int:=(AR.getD (x3.toNat) 0)
  if(0:Int)<=x4/\x4<(b1.length:Int)then(
  cond (!(b1.getD (x4.toNat) false))
   (if(0:Int)<=x4/\x4<(b1.length:Int)then(
   R4 t1 (Aa (t6+1)) (Aa (t7+1)) AR AE (b1.set (x4.toNat) true))else none)
  (R4 t1 t6 (Aa (t7+1)) AR AE b1))else none)else none)else none)
 (some ((t6,()),()))
def Oj:Nat->X_
 |0=>fun _ _ _ _ _ _=>none
 |n+1=>Yv (Oj n)
def ZJ(R4:X_)(p0:ABU)(p1:AAC):Option Uh:=
 R4 p1 0 0 p0.1 p0.2.1 (List.replicate 8 false)
def VI(p0:ABU)(p1:AAC):Option Uh:=ZJ (Oj Ae) p0 p1
abbrev jo:Type:=ABq×Unit
def Fa(p0:ABU)(p1:AAC):Option jo:=
 (G7 (p0.1,p0.2.1,()) p1).bind fun u1=>
 cond (u1.1.1)
  ((VI (p0.1,p0.2.1,()) p1).bind fun u2=>
  some (((decide (u2.1.1>=p0.2.1)),()),()))
 (some ((false,()),()))
abbrev lW:Type:=AFv×AEo
def YC:Option lW:=
 some (((1,1,(),()),()),([],()))
abbrev oY:Type:=((AEN×Bool×Unit)×Unit)×AEI
def Hp(p0:ABU):Option oY:=
 (Gg (p0.1,p0.2.1,())).bind fun u1=>
 cond (!u1.1.1)
  (some (((((),0,(),(),(),0,(),(),(),(),false,()),false,()),()),([],[],[],[],[],[],[],[],())))
 (if 0+p0.1.length<=D8 then(
 if(0:Int)<=(p0.1.length:Int)/\(p0.1.length:Int)<=(p0.1.length:Int)/\(p0.1.length:Int)<=(D8:Int)then(
 (YC).bind fun u3=>
 (YC).bind fun u4=>
 some (((((),p0.2.1,(),(),(),0,(),(),(),(),false,()),true,()),()),(p0.1,(List.replicate ((p0.1.length:Int).toNat) ([],[],0,())),[],[],[],[],[(u3.1.1.1,u3.1.1.2.1,u3.2.1,()),(u4.1.1.1,u4.1.1.2.1,u4.2.1,())],[],())))else none)else none)
abbrev wV:Type:=ABu×Unit
def MS(p0 p1:Int):Option wV:=
 cond (decide (p0>p1))
  (some ((p0,()),()))
 (some ((p1,()),()))
abbrev G9:Type:=ABq×Unit
abbrev Z5:Type:=List Int->Int->Int->Option G9
def bQ(R2:Z5)(t0:AAC)(t1 t5:Int):Option G9:=
 cond ((decide (t5<(t0.length:Int))))
  (if(0:Int)<=t5/\t5<(t0.length:Int)then(
  cond ((t0.getD (t5.toNat) 0)==t1)
   (some ((true,()),()))
  (R2 t0 t1 (Aa (t5+1))))else none)
 (some ((false,()),()))
def QN:Nat->Z5
 |0=>fun _ _ _=>none
 |n+1=>bQ (QN n)
def an(R2:Z5)(p0:AAC)(p1:Int):Option G9:=
 R2 p0 p1 0
def DV(p0:AAC)(p1:Int):Option G9:=an (QN Ae) p0 p1
abbrev W5:Type:=ACu×AC2
abbrev aN:Type:=List Int->Int->Bool->Int->List Int->Option W5
def UE(R4:aN)(t0:AAC)(t1:Int)(t6:Bool)(t7:Int)(b0:AAC):Option W5:=
 cond ((decide (t7<(t0.length:Int))))
  (cond (!t6)
   (if(0:Int)<=t7/\t7<(t0.length:Int)then(
   cond (decide ((t0.getD (t7.toNat) 0)>t1))
    (if b0.length+1<=D8 then(
    if(0:Int)<=t7/\t7<(t0.length:Int)then(
    if(b0++[t1]).length+1<=D8 then(
    R4 t0 t1 true (Aa (t7+1)) ((b0++[t1])++[(t0.getD (t7.toNat) 0)]))else none)else none)else none)
   (if(0:Int)<=t7/\t7<(t0.length:Int)then(
   if b0.length+1<=D8 then(
   R4 t0 t1 t6 (Aa (t7+1)) (b0++[(t0.getD (t7.toNat) 0)]))else none)else none))else none)
  (if(0:Int)<=t7/\t7<(t0.length:Int)then(
  if b0.length+1<=D8 then(
  R4 t0 t1 t6 (Aa (t7+1)) (b0++[(t0.getD (t7.toNat) 0)]))else none)else none))
 (cond (!t6)
  (if b0.length+1<=D8 then(
  some (((),()),(b0++[t1],())))else none)
 (some (((),()),(b0,()))))
def Kw:Nat->aN
 |0=>fun _ _ _ _ _=>none
 |n+1=>UE (Kw n)
def aq(R4:aN)(p0:AAC)(p1:Int):Option W5:=
 (DV p0 p1).bind fun u1=>
 R4 p0 p1 u1.1.1 0 []
def Ma(p0:AAC)(p1:Int):Option W5:=aq (Kw Ae) p0 p1
abbrev MQ:Type:=ACu×AGc
abbrev P4:Type:=Int->Int->List Int->Int->Int->List Int->Int->List Int->Option MQ
def Sl(R4:P4)(t6 t7:Int)(AR:AAC)(AE Am:Int)(Cf:AAC)(Bn:Int)(b2:AAC):Option MQ:=
 cond (decide (t7<t6))
  ((MS (Cf.length:Int) 1).bind fun u3=>
  (An u3.1.1 AR AE Am).bind fun u4=>
  (Ma b2 u4.1.1).bind fun u5=>
  R4 t6 (Aa (t7+1)) u4.2.1.1 u4.2.1.2.1 u4.2.1.2.2.1 Cf Bn u5.2.1)
 ((CB 20 AR AE Am).bind fun u6=>
 cond (u6.1.1)
  ((Og [(-1),0,(Cf.length:Int)] u6.2.1.1 u6.2.1.2.1 u6.2.1.2.2.1).bind fun u7=>
  if b2.length+1<=D8 then(
  some (((),()),((u7.2.1.1,u7.2.1.2.1,u7.2.1.2.2.1,()),b2++[u7.1.1],())))else none)
 (some (((),()),((u6.2.1.1,u6.2.1.2.1,u6.2.1.2.2.1,()),b2,()))))
def Ih:Nat->P4
 |0=>fun _ _ _ _ _ _ _ _=>none
 |n+1=>Sl (Ih n)
def Sx(R4:P4)(p1:ABU)(AR:AAC)(AE Am:Int):Option MQ:=
 (An (Aa ((p1.1.length:Int)+2)) AR AE Am).bind fun u2=>
 R4 u2.1.1 0 u2.2.1.1 u2.2.1.2.1 u2.2.1.2.2.1 p1.1 p1.2.1 []
def Pj(p1:ABU)(AR:AAC)(AE Am:Int):Option MQ:=Sx (Ih Ae) p1 AR AE Am
abbrev Ps:Type:=ACu×AGc
abbrev SC:Type:=Int->List Int->Int->Int->List Int->Int->List Int->Option Ps
def VS(R3:SC)(t6:Int)(AR:AAC)(AE Am:Int)(Cf:AAC)(Bn:Int)(b2:AAC):Option Ps:=
 cond ((decide (t6<(Cf.length:Int))))
  ((Fa (Cf,Bn,()) b2).bind fun u3=>
  cond (!u3.1.1)
   ((Ma b2 t6).bind fun u4=>
   R3 (Aa (t6+1)) AR AE Am Cf Bn u4.2.1)
  (some (((),()),((AR,AE,Am,()),b2,()))))
 (some (((),()),((AR,AE,Am,()),b2,())))
def Ka:Nat->SC
 |0=>fun _ _ _ _ _ _ _=>none
 |n+1=>VS (Ka n)
def U2(R3:SC)(p1:ABU)(AR:AAC)(AE Am:Int):Option Ps:=
 (Pj (p1.1,p1.2.1,()) AR AE Am).bind fun u1=>
 R3 0 u1.2.1.1 u1.2.1.2.1 u1.2.1.2.2.1 p1.1 p1.2.1 u1.2.2.1
def LR(p1:ABU)(AR:AAC)(AE Am:Int):Option Ps:=U2 (Ka Ae) p1 AR AE Am
abbrev PH:Type:=ABu×Unit
abbrev Sy:Type:=List Int->Int->Int->Option PH
def VL(R5:Sy)(t0:AAC)(t3 t4:Int):Option PH:=
 cond ((decide (t4<(t0.length:Int))))
  (if(0:Int)<=t4/\t4<(t0.length:Int)then(
  let x3:Int:=(t0.getD (t4.toNat) 0)
  if x3<0 then none else(
  R5 t0 (bOr .i64 t3 (Aa (1*2^(min x3.toNat 64)))) (Aa (t4+1))))else none)
 (some ((t3,()),()))
def KY:Nat->Sy
 |0=>fun _ _ _=>none
 |n+1=>VL (KY n)
def Uu(R5:Sy)(p0:AAC):Option PH:=
 (XE p0 0 7).bind fun u1=>
 cond (!u1.1.1)
  (some (((-1),()),()))
 (R5 p0 0 0)
def Lo(p0:AAC):Option PH:=Uu (KY Ae) p0
abbrev Pp:Type:=ABu×Unit
abbrev Sd:Type:=Int->AAU->Int->Option Pp
def PB(R2:Sd)(t3:Int)(AR:AAU)(AE:Int):Option Pp:=
 cond ((decide (t3<(AR.length:Int))))
  (if(0:Int)<=t3/\t3<(AR.length:Int)then(
  cond (!((AR.getD (t3.toNat) ([],false,0,())).2.1))
   (some ((Aa (t3+1),()),()))
  (R2 (Aa (t3+1)) AR AE))else none)
 (some ((0,()),()))
def IP:Nat->Sd
 |0=>fun _ _ _=>none
 |n+1=>PB (IP n)
def U4(R2:Sd)(p0:ABy):Option Pp:=
 R2 0 p0.1 p0.2.1
def Jc(p0:ABy):Option Pp:=U4 (IP Ae) p0
abbrev HG:Type:=ACu×AC2
def Cn(p0:ABy)(p1:Int):Option HG:=
 (CN p1 1 (p0.1.length:Int)).bind fun u1=>
 cond (!u1.1.1)
  (some (((),()),([],())))
 (if(0:Int)<=Aa (p1-1)/\Aa (p1-1)<(p0.1.length:Int)then(
 if 0+((p0.1.getD ((Aa (p1-1)).toNat) ([],false,0,())).1).length<=D8 then(
 some (((),()),(((p0.1.getD ((Aa (p1-1)).toNat) ([],false,0,())).1),())))else none)else none)
abbrev MO:Type:=AF1×AEO
abbrev OP:Type:=Int->Int->Int->List Int->Int->Int->List Int->Int->AAT->List Int->AAU->Int->ABO->ABP->AAq->AA1->Bool->Int->Int->Int->Int->List UInt8->Int->Int->List Int->ABR->Bool->List AAC->Option MO
def RP(sg:OP)(t7 t8 t9:Int)(AR:AAC)(AE Am:Int)(Cf:AAC)(Bn:Int)(EM:AAT)(HF:AAC)(Mu:AAU)(EO:Int)(AO1:ABO)(APq:ABP)(AQO:AAq)(ASw:AA1)(FK:Bool)(bC oJ ATR AS7:Int)(wP:ACB)(AEB vB:Int)(AS5:AAC)(APm:ABR)(AQ7:Bool)(ACZ:List AAC):Option MO:=
 cond ((decide (t9<(ACZ.length:Int))))
  (if(0:Int)<=t9/\t9<(ACZ.length:Int)then(
  (Fa (Cf,Bn,()) (ACZ.getD (t9.toNat) [])).bind fun u22=>
  cond (!u22.1.1)
   ((CB 3 AR AE Am).bind fun aM=>
   cond (!aM.1.1)
    (sg t7 (Aa (t9+1)) (Aa (t9+1)) aM.2.1.1 aM.2.1.2.1 aM.2.1.2.2.1 Cf Bn EM HF Mu EO AO1 APq AQO ASw FK bC oJ ATR AS7 wP AEB vB AS5 APm AQ7 ACZ)
   (sg t7 t8 (Aa (t9+1)) aM.2.1.1 aM.2.1.2.1 aM.2.1.2.2.1 Cf Bn EM HF Mu EO AO1 APq AQO ASw FK bC oJ ATR AS7 wP AEB vB AS5 APm AQ7 ACZ))
  (sg t7 t8 (Aa (t9+1)) AR AE Am Cf Bn EM HF Mu EO AO1 APq AQO ASw FK bC oJ ATR AS7 wP AEB vB AS5 APm AQ7 ACZ))else none)
 (some (((11,0,t8,t7,[],()),()),((AR,AE,Am,()),())))
def GS:Nat->OP
 |0=>fun _ _ _ _ _ _ _ _ _ _ _ _ _ _ _ _ _ _ _ _ _ _ _ _ _ _ _ _=>none
 |n+1=>RP (GS n)
def SJ(sg:OP)(p1:ABg)(AR:AAC)(AE Am:Int):Option MO:=
 cond ((p1.2.2.2.2.2.2.2.1.length:Int)==0)
  (some (((8,0,0,0,[],()),()),((AR,AE,Am,()),())))
 (if(0:Int)<=(0:Int)/\(0:Int)<(p1.2.2.2.2.2.2.2.1.length:Int)then(
 (Cn (p1.2.2.2.2.1,p1.2.2.2.2.2.1,()) ((p1.2.2.2.2.2.2.2.1.getD 0 (0,0,[],[],false,[],())).2.1)).bind fun u3=>
 (An (u3.2.1.length:Int) AR AE Am).bind fun u5=>
 if(0:Int)<=u5.1.1/\u5.1.1<(u3.2.1.length:Int)then(
 let x6:Int:=(u3.2.1.getD (u5.1.1.toNat) 0)
 cond (!((p1.2.2.2.2.2.2.2.1.getD 0 (0,0,[],[],false,[],())).2.2.2.2.1))
  ((CB 4 u5.2.1.1 u5.2.1.2.1 u5.2.1.2.2.1).bind fun u8=>
  cond (u8.1.1)
   (some (((10,0,0,0,[],()),()),((u8.2.1.1,u8.2.1.2.1,u8.2.1.2.2.1,()),())))
  (cond (!((p1.2.2.2.2.2.2.2.1.getD 0 (0,0,[],[],false,[],())).2.2.2.2.1))
   (some (((9,x6,0,0,[],()),()),((u8.2.1.1,u8.2.1.2.1,u8.2.1.2.2.1,()),())))
  ((CB 6 u8.2.1.1 u8.2.1.2.1 u8.2.1.2.2.1).bind fun EP=>
  cond (EP.1.1)
   (some (((12,0,0,0,[],()),()),((EP.2.1.1,EP.2.1.2.1,EP.2.1.2.2.1,()),())))
  ((CB 3 EP.2.1.1 EP.2.1.2.1 EP.2.1.2.2.1).bind fun M6=>
  cond (M6.1.1)
   (some (((4,x6,0,0,[],()),()),((M6.2.1.1,M6.2.1.2.1,M6.2.1.2.2.1,()),())))
  ((MS (((p1.2.2.2.2.2.2.2.1.getD 0 (0,0,[],[],false,[],())).2.2.2.2.2.1).length:Int) 1).bind fun XC=>
  (An XC.1.1 M6.2.1.1 M6.2.1.2.1 M6.2.1.2.2.1).bind fun V0=>
  sg x6 (Aa (1+V0.1.1)) 0 V0.2.1.1 V0.2.1.2.1 V0.2.1.2.2.1 p1.1 p1.2.1 p1.2.2.1 p1.2.2.2.1 p1.2.2.2.2.1 p1.2.2.2.2.2.1 p1.2.2.2.2.2.2.1 p1.2.2.2.2.2.2.2.1 p1.2.2.2.2.2.2.2.2.1 p1.2.2.2.2.2.2.2.2.2.1 p1.2.2.2.2.2.2.2.2.2.2.1 0 0 0 0 [] ((p1.2.2.2.2.2.2.2.1.getD 0 (0,0,[],[],false,[],())).1) ((p1.2.2.2.2.2.2.2.1.getD 0 (0,0,[],[],false,[],())).2.1) ((p1.2.2.2.2.2.2.2.1.getD 0 (0,0,[],[],false,[],())).2.2.1) ((p1.2.2.2.2.2.2.2.1.getD 0 (0,0,[],[],false,[],())).2.2.2.1) ((p1.2.2.2.2.2.2.2.1.getD 0 (0,0,[],[],false,[],())).2.2.2.2.1) ((p1.2.2.2.2.2.2.2.1.getD 0 (0,0,[],[],false,[],())).2.2.2.2.2.1))))))
 (cond (!((p1.2.2.2.2.2.2.2.1.getD 0 (0,0,[],[],false,[],())).2.2.2.2.1))
  (some (((9,x6,0,0,[],()),()),((u5.2.1.1,u5.2.1.2.1,u5.2.1.2.2.1,()),())))
 ((CB 6 u5.2.1.1 u5.2.1.2.1 u5.2.1.2.2.1).bind fun u16=>
 cond (u16.1.1)
  (some (((12,0,0,0,[],()),()),((u16.2.1.1,u16.2.1.2.1,u16.2.1.2.2.1,()),())))
 ((CB 3 u16.2.1.1 u16.2.1.2.1 u16.2.1.2.2.1).bind fun kc=>
 cond (kc.1.1)
  (some (((4,x6,0,0,[],()),()),((kc.2.1.1,kc.2.1.2.1,kc.2.1.2.2.1,()),())))
 ((MS (((p1.2.2.2.2.2.2.2.1.getD 0 (0,0,[],[],false,[],())).2.2.2.2.2.1).length:Int) 1).bind fun l4=>
 (An l4.1.1 kc.2.1.1 kc.2.1.2.1 kc.2.1.2.2.1).bind fun TA=>
 sg x6 (Aa (1+TA.1.1)) 0 TA.2.1.1 TA.2.1.2.1 TA.2.1.2.2.1 p1.1 p1.2.1 p1.2.2.1 p1.2.2.2.1 p1.2.2.2.2.1 p1.2.2.2.2.2.1 p1.2.2.2.2.2.2.1 p1.2.2.2.2.2.2.2.1 p1.2.2.2.2.2.2.2.2.1 p1.2.2.2.2.2.2.2.2.2.1 p1.2.2.2.2.2.2.2.2.2.2.1 0 0 0 0 [] ((p1.2.2.2.2.2.2.2.1.getD 0 (0,0,[],[],false,[],())).1) ((p1.2.2.2.2.2.2.2.1.getD 0 (0,0,[],[],false,[],())).2.1) ((p1.2.2.2.2.2.2.2.1.getD 0 (0,0,[],[],false,[],())).2.2.1) ((p1.2.2.2.2.2.2.2.1.getD 0 (0,0,[],[],false,[],())).2.2.2.1) ((p1.2.2.2.2.2.2.2.1.getD 0 (0,0,[],[],false,[],())).2.2.2.2.1) ((p1.2.2.2.2.2.2.2.1.getD 0 (0,0,[],[],false,[],())).2.2.2.2.2.1))))))else none)else none)
def Lh(p1:ABg)(AR:AAC)(AE Am:Int):Option MO:=SJ (GS Ae) p1 AR AE Am
abbrev sQ:Type:=AGi×AEO
def JD(p1:List ACB)(AR:AAC)(AE Am:Int):Option sQ:=
 (An (p1.length:Int) AR AE Am).bind fun u1=>
 if(0:Int)<=u1.1.1/\u1.1.1<(p1.length:Int)then(
 some (((p1.getD (u1.1.1.toNat) []),()),((u1.2.1.1,u1.2.1.2.1,u1.2.1.2.2.1,()),())))else none
abbrev wK:Type:=ABu×Unit
def Tz(p0 p1:Int):Option wK:=
 cond (decide (p0<p1))
  (some ((p0,()),()))
 (some ((p1,()),()))
abbrev gB:Type:=AF1×AEO
def G5(p1:ABg)(AR:AAC)(AE Am:Int):Option gB:=
 (An (p1.2.2.2.2.2.2.1.length:Int) AR AE Am).bind fun u2=>
 (CB 3 u2.2.1.1 u2.2.1.2.1 u2.2.1.2.2.1).bind fun u3=>
 cond (!u3.1.1)
  (let x4:Int:=(p1.2.2.2.2.2.2.1.length:Int)
  if(0:Int)<=Aa (x4-1)/\Aa (x4-1)<(p1.2.2.2.2.2.2.1.length:Int)then(
  (Cn (p1.2.2.2.2.1,p1.2.2.2.2.2.1,()) ((p1.2.2.2.2.2.2.1.getD ((Aa (x4-1)).toNat) (0,[],())).1)).bind fun u6=>
  (An (u6.2.1.length:Int) u3.2.1.1 u3.2.1.2.1 u3.2.1.2.2.1).bind fun u8=>
  if(0:Int)<=u8.1.1/\u8.1.1<(u6.2.1.length:Int)then(
  let x9:Int:=(u6.2.1.getD (u8.1.1.toNat) 0)
  let x10:Int:=(((p1.2.2.2.2.2.2.1.getD ((Aa (x4-1)).toNat) (0,[],())).2.1).length:Int)
  cond (x10==0)
   ((JD [[],[97],[98,99],[100]] u8.2.1.1 u8.2.1.2.1 u8.2.1.2.2.1).bind fun M6=>
   some (((2,Aa (x4-1),0,0,M6.1.1,()),()),((M6.2.1.1,M6.2.1.2.1,M6.2.1.2.2.1,()),())))
  ((CB 7 u8.2.1.1 u8.2.1.2.1 u8.2.1.2.2.1).bind fun bX=>
  cond (bX.1.1)
   ((JD [[],[97],[98,99],[100]] bX.2.1.1 bX.2.1.2.1 bX.2.1.2.2.1).bind fun XC=>
   some (((2,Aa (x4-1),0,0,XC.1.1,()),()),((XC.2.1.1,XC.2.1.2.1,XC.2.1.2.2.1,()),())))
  ((CB 3 bX.2.1.1 bX.2.1.2.1 bX.2.1.2.2.1).bind fun V0=>
  cond (V0.1.1)
   (some (((4,x9,0,0,[],()),()),((V0.2.1.1,V0.2.1.2.1,V0.2.1.2.2.1,()),())))
  ((Tz x10 3).bind fun u15=>
  (An u15.1.1 V0.2.1.1 V0.2.1.2.1 V0.2.1.2.2.1).bind fun u16=>
  some (((3,Aa (x4-1),Aa (x10-u16.1.1),x9,[],()),()),((u16.2.1.1,u16.2.1.2.1,u16.2.1.2.2.1,()),()))))))else none)else none)
 (if(0:Int)<=u2.1.1/\u2.1.1<(p1.2.2.2.2.2.2.1.length:Int)then(
 (Cn (p1.2.2.2.2.1,p1.2.2.2.2.2.1,()) ((p1.2.2.2.2.2.2.1.getD (u2.1.1.toNat) (0,[],())).1)).bind fun ue=>
 (An (ue.2.1.length:Int) u3.2.1.1 u3.2.1.2.1 u3.2.1.2.2.1).bind fun TA=>
 if(0:Int)<=TA.1.1/\TA.1.1<(ue.2.1.length:Int)then(
 let x21:Int:=(ue.2.1.getD (TA.1.1.toNat) 0)
 let x22:Int:=(((p1.2.2.2.2.2.2.1.getD (u2.1.1.toNat) (0,[],())).2.1).length:Int)
 cond (x22==0)
  ((JD [[],[97],[98,99],[100]] TA.2.1.1 TA.2.1.2.1 TA.2.1.2.2.1).bind fun aM=>
  some (((2,u2.1.1,0,0,aM.1.1,()),()),((aM.2.1.1,aM.2.1.2.1,aM.2.1.2.2.1,()),())))
 ((CB 7 TA.2.1.1 TA.2.1.2.1 TA.2.1.2.2.1).bind fun YV=>
 cond (YV.1.1)
  ((JD [[],[97],[98,99],[100]] YV.2.1.1 YV.2.1.2.1 YV.2.1.2.2.1).bind fun gU=>
  some (((2,u2.1.1,0,0,gU.1.1,()),()),((gU.2.1.1,gU.2.1.2.1,gU.2.1.2.2.1,()),())))
 ((CB 3 YV.2.1.1 YV.2.1.2.1 YV.2.1.2.2.1).bind fun ot=>
 cond (ot.1.1)
  (some (((4,x21,0,0,[],()),()),((ot.2.1.1,ot.2.1.2.1,ot.2.1.2.2.1,()),())))
 ((Tz x22 3).bind fun wy=>
 (An wy.1.1 ot.2.1.1 ot.2.1.2.1 ot.2.1.2.2.1).bind fun YY=>
 some (((3,u2.1.1,Aa (x22-YY.1.1),x21,[],()),()),((YY.2.1.1,YY.2.1.2.1,YY.2.1.2.2.1,()),()))))))else none)else none)
abbrev gl:Type:=AF1×AEO
def Pb(p1:ABg)(AR:AAC)(AE Am:Int):Option gl:=
 cond ((p1.2.2.2.2.2.2.1.length:Int)==0)
  ((LR (p1.1,p1.2.1,()) AR AE Am).bind fun u3=>
  (Lo u3.2.2.1).bind fun u4=>
  some (((1,u4.1.1,0,0,[],()),()),((u3.2.1.1,u3.2.1.2.1,u3.2.1.2.2.1,()),())))
 ((CB 30 AR AE Am).bind fun u5=>
 cond (u5.1.1)
  ((LR (p1.1,p1.2.1,()) u5.2.1.1 u5.2.1.2.1 u5.2.1.2.2.1).bind fun u6=>
  (Lo u6.2.2.1).bind fun u7=>
  some (((1,u7.1.1,0,0,[],()),()),((u6.2.1.1,u6.2.1.2.1,u6.2.1.2.2.1,()),())))
 ((An (p1.2.2.1.length:Int) u5.2.1.1 u5.2.1.2.1 u5.2.1.2.2.1).bind fun u8=>
 (An 44 u8.2.1.1 u8.2.1.2.1 u8.2.1.2.2.1).bind fun u9=>
 cond (u9.1.1==0)
  ((An 16 u9.2.1.1 u9.2.1.2.1 u9.2.1.2.2.1).bind fun EP=>
  some (((5,u8.1.1,EP.1.1,0,[],()),()),((EP.2.1.1,EP.2.1.2.1,EP.2.1.2.2.1,()),())))
 (cond (u9.1.1==1)
  (cond ((p1.2.2.2.1.length:Int)==0)
   (some (((6,u8.1.1,0,0,[],()),()),((u9.2.1.1,u9.2.1.2.1,u9.2.1.2.2.1,()),())))
  ((CB 12 u9.2.1.1 u9.2.1.2.1 u9.2.1.2.2.1).bind fun bX=>
  cond (bX.1.1)
   (some (((6,u8.1.1,0,0,[],()),()),((bX.2.1.1,bX.2.1.2.1,bX.2.1.2.2.1,()),())))
  (if(0:Int)<=(0:Int)/\(0:Int)<(p1.2.2.2.1.length:Int)then(
  some (((7,(p1.2.2.2.1.getD 0 0),0,0,[],()),()),((bX.2.1.1,bX.2.1.2.1,bX.2.1.2.2.1,()),())))else none)))
 (cond (u9.1.1==2)
  ((An (p1.2.2.2.2.2.2.1.length:Int) u9.2.1.1 u9.2.1.2.1 u9.2.1.2.2.1).bind fun u15=>
  some (((15,u15.1.1,0,0,[],()),()),((u15.2.1.1,u15.2.1.2.1,u15.2.1.2.2.1,()),())))
 (cond (u9.1.1==3)
  ((CB 3 u9.2.1.1 u9.2.1.2.1 u9.2.1.2.2.1).bind fun u16=>
  cond (u16.1.1)
   (cond (decide ((p1.2.2.2.2.2.2.2.2.2.1.length:Int)>0))
    ((An (p1.2.2.2.2.2.2.2.2.2.1.length:Int) u16.2.1.1 u16.2.1.2.1 u16.2.1.2.2.1).bind fun l4=>
    if(0:Int)<=l4.1.1/\l4.1.1<(p1.2.2.2.2.2.2.2.2.2.1.length:Int)then(
    some (((13,((p1.2.2.2.2.2.2.2.2.2.1.getD (l4.1.1.toNat) (0,[],false,())).1),0,0,[],()),()),((l4.2.1.1,l4.2.1.2.1,l4.2.1.2.2.1,()),())))else none)
   (some (((16,u8.1.1,0,0,[],()),()),((u16.2.1.1,u16.2.1.2.1,u16.2.1.2.2.1,()),()))))
  (some (((16,u8.1.1,0,0,[],()),()),((u16.2.1.1,u16.2.1.2.1,u16.2.1.2.2.1,()),()))))
 (cond (u9.1.1==4)
  ((CB 2 u9.2.1.1 u9.2.1.2.1 u9.2.1.2.2.1).bind fun nT=>
  cond (nT.1.1)
   ((An 256 nT.2.1.1 nT.2.1.2.1 nT.2.1.2.2.1).bind fun u22=>
   (An 2 u22.2.1.1 u22.2.1.2.1 u22.2.1.2.2.1).bind fun aM=>
   some (((14,aM.1.1,u22.1.1,0,[],()),()),((aM.2.1.1,aM.2.1.2.1,aM.2.1.2.2.1,()),())))
  ((An 2 nT.2.1.1 nT.2.1.2.1 nT.2.1.2.2.1).bind fun YV=>
  some (((14,YV.1.1,255,0,[],()),()),((YV.2.1.1,YV.2.1.2.1,YV.2.1.2.2.1,()),()))))
 (cond (u9.1.1==5)
  ((CB 2 u9.2.1.1 u9.2.1.2.1 u9.2.1.2.2.1).bind fun gU=>
  cond (gU.1.1)
   ((An 256 gU.2.1.1 gU.2.1.2.1 gU.2.1.2.2.1).bind fun ot=>
   (An 2 ot.2.1.1 ot.2.1.2.1 ot.2.1.2.2.1).bind fun wy=>
   some (((14,wy.1.1,ot.1.1,0,[],()),()),((wy.2.1.1,wy.2.1.2.1,wy.2.1.2.2.1,()),())))
  ((An 2 gU.2.1.1 gU.2.1.2.1 gU.2.1.2.2.1).bind fun YY=>
  some (((14,YY.1.1,255,0,[],()),()),((YY.2.1.1,YY.2.1.2.1,YY.2.1.2.2.1,()),()))))
 (cond (u9.1.1==6)
  ((CB 2 u9.2.1.1 u9.2.1.2.1 u9.2.1.2.2.1).bind fun tM=>
  cond (tM.1.1)
   ((An 256 tM.2.1.1 tM.2.1.2.1 tM.2.1.2.2.1).bind fun nu=>
   (An 2 nu.2.1.1 nu.2.1.2.1 nu.2.1.2.2.1).bind fun yB=>
   some (((14,yB.1.1,nu.1.1,0,[],()),()),((yB.2.1.1,yB.2.1.2.1,yB.2.1.2.2.1,()),())))
  ((An 2 tM.2.1.1 tM.2.1.2.1 tM.2.1.2.2.1).bind fun u32=>
  some (((14,u32.1.1,255,0,[],()),()),((u32.2.1.1,u32.2.1.2.1,u32.2.1.2.2.1,()),()))))
 (cond (u9.1.1==7)
  ((CB 2 u9.2.1.1 u9.2.1.2.1 u9.2.1.2.2.1).bind fun nP=>
  cond (nP.1.1)
   ((An 256 nP.2.1.1 nP.2.1.2.1 nP.2.1.2.2.1).bind fun wN=>
   (An 2 wN.2.1.1 wN.2.1.2.1 wN.2.1.2.2.1).bind fun u35=>
   some (((14,u35.1.1,wN.1.1,0,[],()),()),((u35.2.1.1,u35.2.1.2.1,u35.2.1.2.2.1,()),())))
  ((An 2 nP.2.1.1 nP.2.1.2.1 nP.2.1.2.2.1).bind fun u36=>
  some (((14,u36.1.1,255,0,[],()),()),((u36.2.1.1,u36.2.1.2.1,u36.2.1.2.2.1,()),()))))
 (cond (u9.1.1==8)
  ((CB 2 u9.2.1.1 u9.2.1.2.1 u9.2.1.2.2.1).bind fun nA=>
  cond (nA.1.1)
   ((An 256 nA.2.1.1 nA.2.1.2.1 nA.2.1.2.2.1).bind fun u38=>
   (An 2 u38.2.1.1 u38.2.1.2.1 u38.2.1.2.2.1).bind fun u39=>
   some (((14,u39.1.1,u38.1.1,0,[],()),()),((u39.2.1.1,u39.2.1.2.1,u39.2.1.2.2.1,()),())))
  ((An 2 nA.2.1.1 nA.2.1.2.1 nA.2.1.2.2.1).bind fun u40=>
  some (((14,u40.1.1,255,0,[],()),()),((u40.2.1.1,u40.2.1.2.1,u40.2.1.2.2.1,()),()))))
 (cond (decide ((p1.2.2.2.2.1.length:Int)>1))
  ((Jc (p1.2.2.2.2.1,p1.2.2.2.2.2.1,())).bind fun u43=>
  cond ((decide (u43.1.1<(p1.2.2.2.2.1.length:Int))))
   ((CB 3 u9.2.1.1 u9.2.1.2.1 u9.2.1.2.2.1).bind fun u45=>
   cond (!u45.1.1)
    ((Lh (p1.1,p1.2.1,p1.2.2.1,p1.2.2.2.1,p1.2.2.2.2.1,p1.2.2.2.2.2.1,p1.2.2.2.2.2.2.1,p1.2.2.2.2.2.2.2.1,p1.2.2.2.2.2.2.2.2.1,p1.2.2.2.2.2.2.2.2.2.1,p1.2.2.2.2.2.2.2.2.2.2.1,()) u45.2.1.1 u45.2.1.2.1 u45.2.1.2.2.1).bind fun sy=>
    some (((sy.1.1.1,sy.1.1.2.1,sy.1.1.2.2.1,sy.1.1.2.2.2.1,sy.1.1.2.2.2.2.1,()),()),((sy.2.1.1,sy.2.1.2.1,sy.2.1.2.2.1,()),())))
   ((G5 (p1.1,p1.2.1,p1.2.2.1,p1.2.2.2.1,p1.2.2.2.2.1,p1.2.2.2.2.2.1,p1.2.2.2.2.2.2.1,p1.2.2.2.2.2.2.2.1,p1.2.2.2.2.2.2.2.2.1,p1.2.2.2.2.2.2.2.2.2.1,p1.2.2.2.2.2.2.2.2.2.2.1,()) u45.2.1.1 u45.2.1.2.1 u45.2.1.2.2.1).bind fun mh=>
   some (((mh.1.1.1,mh.1.1.2.1,mh.1.1.2.2.1,mh.1.1.2.2.2.1,mh.1.1.2.2.2.2.1,()),()),((mh.2.1.1,mh.2.1.2.1,mh.2.1.2.2.1,()),()))))
  ((G5 (p1.1,p1.2.1,p1.2.2.1,p1.2.2.2.1,p1.2.2.2.2.1,p1.2.2.2.2.2.1,p1.2.2.2.2.2.2.1,p1.2.2.2.2.2.2.2.1,p1.2.2.2.2.2.2.2.2.1,p1.2.2.2.2.2.2.2.2.2.1,p1.2.2.2.2.2.2.2.2.2.2.1,()) u9.2.1.1 u9.2.1.2.1 u9.2.1.2.2.1).bind fun u48=>
  some (((u48.1.1.1,u48.1.1.2.1,u48.1.1.2.2.1,u48.1.1.2.2.2.1,u48.1.1.2.2.2.2.1,()),()),((u48.2.1.1,u48.2.1.2.1,u48.2.1.2.2.1,()),()))))
 ((G5 (p1.1,p1.2.1,p1.2.2.1,p1.2.2.2.1,p1.2.2.2.2.1,p1.2.2.2.2.2.1,p1.2.2.2.2.2.2.1,p1.2.2.2.2.2.2.2.1,p1.2.2.2.2.2.2.2.2.1,p1.2.2.2.2.2.2.2.2.2.1,p1.2.2.2.2.2.2.2.2.2.2.1,()) u9.2.1.1 u9.2.1.2.1 u9.2.1.2.2.1).bind fun tC=>
 some (((tC.1.1.1,tC.1.1.2.1,tC.1.1.2.2.1,tC.1.1.2.2.2.1,tC.1.1.2.2.2.2.1,()),()),((tC.2.1.1,tC.2.1.2.1,tC.2.1.2.2.1,()),()))))))))))))))
abbrev rQ:Type:=ABq×Unit
def Hs(p0:Int):Option rQ:=
 cond (decide (p0>0))
  ((CN (Aa (p0.tdiv 4294967296)) 1 30).bind fun u2=>
  cond (u2.1.1)
   ((CN (p0.tmod 4294967296) 1 60).bind fun u3=>
   some ((u3.1.1,()),()))
  (some ((false,()),())))
 (some ((false,()),()))
abbrev Ht:Type:=ABu×Unit
def DD(p0:Int):Option Ht:=
 (Hs p0).bind fun u1=>
 cond (!u1.1.1)
  (some ((0,()),()))
 (some (((Aa (p0.tdiv 4294967296)),()),()))
abbrev qH:Type:=ABq×Unit
def Mg(p0:ADr):Option qH:=
 (Hs p0.1).bind fun u1=>
 cond (!u1.1.1)
  (some ((false,()),()))
 ((CN p0.2.1 0 30).bind fun u2=>
 cond (!u2.1.1)
  (some ((false,()),()))
 (cond (decide (p0.2.1>0))
  ((DD p0.1).bind fun u3=>
  cond ((decide (p0.2.1<=u3.1.1)))
   (some ((false,()),()))
  (cond (decide ((p0.2.2.2.1.length:Int)>40))
   (some ((false,()),()))
  (cond (!p0.2.2.1)
   (some ((true,()),()))
  (cond (decide (p0.2.1>0))
   (some ((p0.2.2.2.1==[],()),()))
  (some ((false,()),()))))))
 (cond (decide ((p0.2.2.2.1.length:Int)>40))
  (some ((false,()),()))
 (cond (!p0.2.2.1)
  (some ((true,()),()))
 (cond (decide (p0.2.1>0))
  (some ((p0.2.2.2.1==[],()),()))
 (some ((false,()),())))))))
abbrev UI:Type:=ABq×Unit
abbrev XX:Type:=ABR->Int->Option UI
def S4(R4:XX)(t0:ABR)(t5:Int):Option UI:=
 cond ((decide (t5<(t0.length:Int))))
  (if(0:Int)<=t5/\t5<(t0.length:Int)then(
  (Mg ((t0.getD (t5.toNat) (0,0,false,[],())).1,(t0.getD (t5.toNat) (0,0,false,[],())).2.1,(t0.getD (t5.toNat) (0,0,false,[],())).2.2.1,(t0.getD (t5.toNat) (0,0,false,[],())).2.2.2.1,())).bind fun u3=>
  cond (!u3.1.1)
   (some ((false,()),()))
  (R4 t0 (Aa (t5+1))))else none)
 (some ((true,()),()))
def L4:Nat->XX
 |0=>fun _ _=>none
 |n+1=>S4 (L4 n)
def Zb(R4:XX)(p0:ABR)(p1:Int):Option UI:=
 cond ((decide ((p0.length:Int)>p1)))
  (some ((false,()),()))
 (R4 p0 0)
def VG(p0:ABR)(p1:Int):Option UI:=Zb (L4 Ae) p0 p1
abbrev Wy:Type:=ABq×Unit
abbrev aA:Type:=ABR->Int->Option Wy
def Pk(R2:aA)(t0:ABR)(t3:Int):Option Wy:=
 cond ((decide (t3<(t0.length:Int))))
  (if(0:Int)<=Aa (t3-1)/\Aa (t3-1)<(t0.length:Int)then(
  if(0:Int)<=t3/\t3<(t0.length:Int)then(
  cond (decide (((t0.getD ((Aa (t3-1)).toNat) (0,0,false,[],())).1)>=((t0.getD (t3.toNat) (0,0,false,[],())).1)))
   (some ((false,()),()))
  (R2 t0 (Aa (t3+1))))else none)else none)
 (some ((true,()),()))
def Gh:Nat->aA
 |0=>fun _ _=>none
 |n+1=>Pk (Gh n)
def bW(R2:aA)(p0:ABR):Option Wy:=
 R2 p0 1
def Xp(p0:ABR):Option Wy:=bW (Gh Ae) p0
abbrev qP:Type:=ABq×Unit
def Gy(p0:ACt):Option qP:=
 (VG p0.1 200).bind fun u1=>
 cond (u1.1.1)
  ((VG p0.2.1 20).bind fun u2=>
  cond (u2.1.1)
   ((Xp p0.1).bind fun u3=>
   cond (u3.1.1)
    ((CN p0.2.2.1 0 30).bind fun u4=>
    some ((u4.1.1,()),()))
   (some ((false,()),())))
  (some ((false,()),())))
 (some ((false,()),()))
abbrev pk:Type:=ABq×Unit
def bq(p0:ACt):Option pk:=
 cond (((p0.1.length:Int)==0))
  (cond ((p0.2.1.length:Int)==0)
   (some ((p0.2.2.1==0,()),()))
  (some ((false,()),())))
 (some ((false,()),()))
abbrev QU:Type:=ABq×Unit
abbrev To:Type:=Int->List Int->Int->AAT->List Int->AAU->Int->ABO->ABP->AAq->AA1->Bool->Option QU
def Px(R4:To)(t3:Int)(AR:AAC)(AE:Int)(Am:AAT)(CE:AAC)(Cd:AAU)(AS:Int)(CZ:ABO)(CS:ABP)(CU:AAq)(C9:AA1)(AK:Bool):Option QU:=
 cond ((decide (t3<(Am.length:Int))))
  (if(0:Int)<=t3/\t3<(Am.length:Int)then(
  (Gy ((Am.getD (t3.toNat) ([],[],0,())).1,(Am.getD (t3.toNat) ([],[],0,())).2.1,(Am.getD (t3.toNat) ([],[],0,())).2.2.1,())).bind fun u8=>
  cond (!u8.1.1)
   (some ((false,()),()))
  ((DV CE t3).bind fun u9=>
  cond (u9.1.1)
   (if(0:Int)<=t3/\t3<(Am.length:Int)then(
   (bq ((Am.getD (t3.toNat) ([],[],0,())).1,(Am.getD (t3.toNat) ([],[],0,())).2.1,(Am.getD (t3.toNat) ([],[],0,())).2.2.1,())).bind fun EP=>
   cond (!EP.1.1)
    (some ((false,()),()))
   (R4 (Aa (t3+1)) AR AE Am CE Cd AS CZ CS CU C9 AK))else none)
  (R4 (Aa (t3+1)) AR AE Am CE Cd AS CZ CS CU C9 AK)))else none)
 (some ((true,()),()))
def JV:Nat->To
 |0=>fun _ _ _ _ _ _ _ _ _ _ _ _=>none
 |n+1=>Px (JV n)
def V3(R4:To)(p0:ABg):Option QU:=
 (Gg (p0.1,p0.2.1,())).bind fun u1=>
 cond (!u1.1.1)
  (some ((false,()),()))
 (cond (((p0.2.2.1.length:Int) !=(p0.1.length:Int)))
  (some ((false,()),()))
 ((G7 (p0.1,p0.2.1,()) p0.2.2.2.1).bind fun u4=>
 cond (!u4.1.1)
  (some ((false,()),()))
 ((Fa (p0.1,p0.2.1,()) p0.2.2.2.1).bind fun u5=>
 cond (u5.1.1)
  (cond (!p0.2.2.2.2.2.2.2.2.2.2.1)
   (some ((false,()),()))
  (R4 0 p0.1 p0.2.1 p0.2.2.1 p0.2.2.2.1 p0.2.2.2.2.1 p0.2.2.2.2.2.1 p0.2.2.2.2.2.2.1 p0.2.2.2.2.2.2.2.1 p0.2.2.2.2.2.2.2.2.1 p0.2.2.2.2.2.2.2.2.2.1 p0.2.2.2.2.2.2.2.2.2.2.1))
 (R4 0 p0.1 p0.2.1 p0.2.2.1 p0.2.2.2.1 p0.2.2.2.2.1 p0.2.2.2.2.2.1 p0.2.2.2.2.2.2.1 p0.2.2.2.2.2.2.2.1 p0.2.2.2.2.2.2.2.2.1 p0.2.2.2.2.2.2.2.2.2.1 p0.2.2.2.2.2.2.2.2.2.2.1))))
def Uj(p0:ABg):Option QU:=V3 (JV Ae) p0
abbrev Sv:Type:=ABq×Unit
abbrev Zu:Type:=Int->Int->List Int->Int->AAU->Int->Option Sv
def Tq(R5:Zu)(t5 t6:Int)(AR:AAC)(AE:Int)(Cf:AAU)(Bn:Int):Option Sv:=
 cond (decide (t6<t5))
  (if(0:Int)<=t6/\t6<(Cf.length:Int)then(
  (Fa (AR,AE,()) ((Cf.getD (t6.toNat) ([],false,0,())).1)).bind fun u6=>
  cond (!u6.1.1)
   (some ((false,()),()))
  ((CN ((Cf.getD (t6.toNat) ([],false,0,())).2.2.1) 0 60).bind fun u8=>
  cond (!u8.1.1)
   (some ((false,()),()))
  (cond (!((Cf.getD (t6.toNat) ([],false,0,())).2.1))
   (cond (((Cf.getD (t6.toNat) ([],false,0,())).2.2.1) !=0)
    (some ((false,()),()))
   (cond (((Cf.getD (t6.toNat) ([],false,0,())).2.1))
    (cond (t6==(Aa (t5-1)))
     (some ((false,()),()))
    (cond (decide (t6>0))
     (if(0:Int)<=Aa (t6-1)/\Aa (t6-1)<(Cf.length:Int)then(
     cond (!((Cf.getD ((Aa (t6-1)).toNat) ([],false,0,())).2.1))
      (some ((false,()),()))
     (R5 t5 (Aa (t6+1)) AR AE Cf Bn))else none)
    (R5 t5 (Aa (t6+1)) AR AE Cf Bn)))
   (R5 t5 (Aa (t6+1)) AR AE Cf Bn)))
  (cond (((Cf.getD (t6.toNat) ([],false,0,())).2.1))
   (cond (t6==(Aa (t5-1)))
    (some ((false,()),()))
   (cond (decide (t6>0))
    (if(0:Int)<=Aa (t6-1)/\Aa (t6-1)<(Cf.length:Int)then(
    cond (!((Cf.getD ((Aa (t6-1)).toNat) ([],false,0,())).2.1))
     (some ((false,()),()))
    (R5 t5 (Aa (t6+1)) AR AE Cf Bn))else none)
   (R5 t5 (Aa (t6+1)) AR AE Cf Bn)))
  (R5 t5 (Aa (t6+1)) AR AE Cf Bn)))))else none)
 (some ((true,()),()))
def Kx:Nat->Zu
 |0=>fun _ _ _ _ _ _=>none
 |n+1=>Tq (Kx n)
def bI(R5:Zu)(p0:ABU)(p1:ABy):Option Sv:=
 (Gg (p0.1,p0.2.1,())).bind fun u1=>
 cond (!u1.1.1)
  (some ((false,()),()))
 (cond ((decide ((p1.1.length:Int)>30)))
  (some ((false,()),()))
 (cond (p1.2.1 !=0)
  ((Hs p1.2.1).bind fun u3=>
  cond (!u3.1.1)
   (some ((false,()),()))
  ((DD p1.2.1).bind fun u4=>
  cond ((decide (u4.1.1>(p1.1.length:Int))))
   (some ((false,()),()))
  (R5 (p1.1.length:Int) 0 p0.1 p0.2.1 p1.1 p1.2.1)))
 (R5 (p1.1.length:Int) 0 p0.1 p0.2.1 p1.1 p1.2.1)))
def Mn(p0:ABU)(p1:ABy):Option Sv:=bI (Kx Ae) p0 p1
abbrev M_:Type:=ABq×Unit
abbrev T3:Type:=Int->Int->List Int->Int->Int->AB_->Option M_
def Vw(R5:T3)(t5 t6:Int)(AR:AAC)(AE Cf:Int)(Bn:AB_):Option M_:=
 cond ((decide (t6<(Bn.length:Int))))
  (if(0:Int)<=t6/\t6<(Bn.length:Int)then(
  cond ((decide ((((Bn.getD (t6.toNat) ([],[],false,())).1).length:Int)>40)))
   (some ((false,()),()))
  ((G7 (AR,AE,()) ((Bn.getD (t6.toNat) ([],[],false,())).2.1)).bind fun u7=>
  cond (!u7.1.1)
   (some ((false,()),()))
  ((Fa (AR,AE,()) ((Bn.getD (t6.toNat) ([],[],false,())).2.1)).bind fun u9=>
  cond (u9.1.1 !=((Bn.getD (t6.toNat) ([],[],false,())).2.2.1))
   (some ((false,()),()))
  (cond (!((Bn.getD (t6.toNat) ([],[],false,())).2.2.1))
   (R5 (Aa (t5+1)) (Aa (t6+1)) AR AE Cf Bn)
  (R5 t5 (Aa (t6+1)) AR AE Cf Bn)))))else none)
 (some ((decide (t5<=6),()),()))
def Lu:Nat->T3
 |0=>fun _ _ _ _ _ _=>none
 |n+1=>Vw (Lu n)
def WL(R5:T3)(p0:ABU)(p1:ACG):Option M_:=
 (Gg (p0.1,p0.2.1,())).bind fun u1=>
 cond (!u1.1.1)
  (some ((false,()),()))
 ((CN p1.1 1 30).bind fun u2=>
 cond (!u2.1.1)
  (some ((false,()),()))
 (cond (decide ((p1.2.1.length:Int)>60))
  (some ((false,()),()))
 (R5 0 0 p0.1 p0.2.1 p1.1 p1.2.1)))
def Hr(p0:ABU)(p1:ACG):Option M_:=WL (Lu Ae) p0 p1
abbrev Kd:Type:=ABu×Unit
def He(p0:Int):Option Kd:=
 (Hs p0).bind fun u1=>
 cond (!u1.1.1)
  (some ((0,()),()))
 (some ((p0.tmod 4294967296,()),()))
abbrev sA:Type:=ABu×Unit
def RO(p0:ABr):Option sA:=
 cond ((p0.2.2.2.1.length:Int)==0)
  (some ((0,()),()))
 (let x2:Int:=(p0.2.2.2.1.length:Int)
 if(0:Int)<=Aa (x2-1)/\Aa (x2-1)<(p0.2.2.2.1.length:Int)then(
 (He ((p0.2.2.2.1.getD ((Aa (x2-1)).toNat) (0,0,false,[],())).1)).bind fun u4=>
 some ((u4.1.1,()),()))else none)
abbrev NV:Type:=ABq×Unit
abbrev SN:Type:=Int->List Int->Int->Int->Int->List Int->ABR->Bool->List AAC->Option NV
abbrev Se:Type:=Int->List Int->Int->Int->Int->List Int->ABR->Bool->List AAC->Option NV
def Sb(R4:SN)(R9:Se)(t5:Int)(AR:AAC)(AE Cf Bn:Int)(EM:AAC)(HF:ABR)(Mu:Bool)(EO:List AAC):Option NV:=
 cond ((decide (t5<(HF.length:Int))))
  (if(0:Int)<=t5/\t5<(HF.length:Int)then(
  (Mg ((HF.getD (t5.toNat) (0,0,false,[],())).1,(HF.getD (t5.toNat) (0,0,false,[],())).2.1,(HF.getD (t5.toNat) (0,0,false,[],())).2.2.1,(HF.getD (t5.toNat) (0,0,false,[],())).2.2.2.1,())).bind fun u7=>
  cond (!u7.1.1)
   (some ((false,()),()))
  (if(0:Int)<=t5/\t5<(HF.length:Int)then(
  (DD ((HF.getD (t5.toNat) (0,0,false,[],())).1)).bind fun u9=>
  cond (u9.1.1 !=Bn)
   (some ((false,()),()))
  (if(0:Int)<=t5/\t5<(HF.length:Int)then(
  cond (decide (((HF.getD (t5.toNat) (0,0,false,[],())).2.1)>=Cf))
   (some ((false,()),()))
  (R4 (Aa (t5+1)) AR AE Cf Bn EM HF Mu EO))else none))else none))else none)
 (R9 0 AR AE Cf Bn EM HF Mu EO)
def SL(R4:SN)(R9:Se)(t6:Int)(AR:AAC)(AE Cf Bn:Int)(EM:AAC)(HF:ABR)(Mu:Bool)(EO:List AAC):Option NV:=
 cond ((decide (t6<(EO.length:Int))))
  (if(0:Int)<=t6/\t6<(EO.length:Int)then(
  (G7 (AR,AE,()) (EO.getD (t6.toNat) [])).bind fun bX=>
  cond (!bX.1.1)
   (some ((false,()),()))
  (R9 (Aa (t6+1)) AR AE Cf Bn EM HF Mu EO))else none)
 (cond (!Mu)
  (some ((((EO.length:Int)==0),()),()))
 ((RO (Cf,Bn,EM,HF,Mu,EO,())).bind fun V0=>
 some ((((EO.length:Int)==V0.1.1),()),())))
mutual
def Jl:Nat->SN
 |0=>fun _ _ _ _ _ _ _ _ _=>none
 |n+1=>Sb (Jl n) (H8 n)
def H8:Nat->Se
 |0=>fun _ _ _ _ _ _ _ _ _=>none
 |n+1=>SL (Jl n) (H8 n)
end
def Yh(R4:SN)(R9:Se)(p0:ABU)(p1:ABr):Option NV:=
 (Gg (p0.1,p0.2.1,())).bind fun u1=>
 cond (!u1.1.1)
  (some ((false,()),()))
 ((CN p1.2.1 1 30).bind fun u2=>
 cond (!u2.1.1)
  (some ((false,()),()))
 ((CN p1.1 (Aa (p1.2.1+1)) 30).bind fun u3=>
 cond (!u3.1.1)
  (some ((false,()),()))
 ((G7 (p0.1,p0.2.1,()) p1.2.2.1).bind fun u4=>
 cond (!u4.1.1)
  (some ((false,()),()))
 ((Xp p1.2.2.2.1).bind fun u5=>
 cond (!u5.1.1)
  (some ((false,()),()))
 (R4 0 p0.1 p0.2.1 p1.1 p1.2.1 p1.2.2.1 p1.2.2.2.1 p1.2.2.2.2.1 p1.2.2.2.2.2.1)))))
def I6(p0:ABU)(p1:ABr):Option NV:=Yh (Jl Ae) (H8 Ae) p0 p1
abbrev JK:Type:=ABq×Unit
abbrev OC:Type:=Int->Int->List Int->Int->AAT->List Int->AAU->Int->ABO->ABP->AAq->AA1->Bool->Option JK
abbrev Mv:Type:=Int->Int->List Int->Int->AAT->List Int->AAU->Int->ABO->ABP->AAq->AA1->Bool->Option JK
def Od(R5:OC)(R10:Mv)(t3 t4:Int)(AR:AAC)(AE:Int)(Am:AAT)(CE:AAC)(Cd:AAU)(AS:Int)(CZ:ABO)(CS:ABP)(CU:AAq)(C9:AA1)(AK:Bool):Option JK:=
 cond ((decide (t4<(CZ.length:Int))))
  (if(0:Int)<=t4/\t4<(CZ.length:Int)then(
  (Hr (AR,AE,()) ((CZ.getD (t4.toNat) (0,[],())).1,(CZ.getD (t4.toNat) (0,[],())).2.1,())).bind fun u6=>
  cond (!u6.1.1)
   (some ((false,()),()))
  (if(0:Int)<=t4/\t4<(CZ.length:Int)then(
  cond (decide (((CZ.getD (t4.toNat) (0,[],())).1)>t3))
   (some ((false,()),()))
  (cond (decide (t4>0))
   (if(0:Int)<=Aa (t4-1)/\Aa (t4-1)<(CZ.length:Int)then(
   if(0:Int)<=t4/\t4<(CZ.length:Int)then(
   cond (decide (((CZ.getD ((Aa (t4-1)).toNat) (0,[],())).1)>=((CZ.getD (t4.toNat) (0,[],())).1)))
    (some ((false,()),()))
   (R5 t3 (Aa (t4+1)) AR AE Am CE Cd AS CZ CS CU C9 AK))else none)else none)
  (R5 t3 (Aa (t4+1)) AR AE Am CE Cd AS CZ CS CU C9 AK)))else none))else none)
 (R10 t3 0 AR AE Am CE Cd AS CZ CS CU C9 AK)
def NZ(R5:OC)(R10:Mv)(t3 t5:Int)(AR:AAC)(AE:Int)(Am:AAT)(CE:AAC)(Cd:AAU)(AS:Int)(CZ:ABO)(CS:ABP)(CU:AAq)(C9:AA1)(AK:Bool):Option JK:=
 cond ((decide (t5<(CS.length:Int))))
  (if(0:Int)<=t5/\t5<(CS.length:Int)then(
  (I6 (AR,AE,()) ((CS.getD (t5.toNat) (0,0,[],[],false,[],())).1,(CS.getD (t5.toNat) (0,0,[],[],false,[],())).2.1,(CS.getD (t5.toNat) (0,0,[],[],false,[],())).2.2.1,(CS.getD (t5.toNat) (0,0,[],[],false,[],())).2.2.2.1,(CS.getD (t5.toNat) (0,0,[],[],false,[],())).2.2.2.2.1,(CS.getD (t5.toNat) (0,0,[],[],false,[],())).2.2.2.2.2.1,())).bind fun M6=>
  cond (!M6.1.1)
   (some ((false,()),()))
  (cond (((CS.getD (t5.toNat) (0,0,[],[],false,[],())).1) !=t3)
   (some ((false,()),()))
  ((Jc (Cd,AS,())).bind fun V0=>
  cond (((CS.getD (t5.toNat) (0,0,[],[],false,[],())).2.1) !=V0.1.1)
   (some ((false,()),()))
  (R10 t3 (Aa (t5+1)) AR AE Am CE Cd AS CZ CS CU C9 AK))))else none)
 (some ((true,()),()))
mutual
def G2:Nat->OC
 |0=>fun _ _ _ _ _ _ _ _ _ _ _ _ _=>none
 |n+1=>Od (G2 n) (Ez n)
def Ez:Nat->Mv
 |0=>fun _ _ _ _ _ _ _ _ _ _ _ _ _=>none
 |n+1=>NZ (G2 n) (Ez n)
end
def U9(R5:OC)(R10:Mv)(p0:ABg):Option JK:=
 (Mn (p0.1,p0.2.1,()) (p0.2.2.2.2.1,p0.2.2.2.2.2.1,())).bind fun u2=>
 cond (!u2.1.1)
  (some ((false,()),()))
 (cond (decide ((p0.2.2.2.2.2.2.1.length:Int)>4))
  (some ((false,()),()))
 (cond (decide ((p0.2.2.2.2.2.2.2.1.length:Int)>1))
  (some ((false,()),()))
 (R5 (p0.2.2.2.2.1.length:Int) 0 p0.1 p0.2.1 p0.2.2.1 p0.2.2.2.1 p0.2.2.2.2.1 p0.2.2.2.2.2.1 p0.2.2.2.2.2.2.1 p0.2.2.2.2.2.2.2.1 p0.2.2.2.2.2.2.2.2.1 p0.2.2.2.2.2.2.2.2.2.1 p0.2.2.2.2.2.2.2.2.2.2.1)))
def SD(p0:ABg):Option JK:=U9 (G2 Ae) (Ez Ae) p0
abbrev oe:Type:=ABq×Unit
def NT(p0:ADW):Option oe:=
 (CN p0.1 1 31).bind fun u1=>
 cond (u1.1.1)
  ((CN p0.2.1 1 61).bind fun u2=>
  cond (u2.1.1)
   (some ((decide ((p0.2.2.1.length:Int)<=120),()),()))
  (some ((false,()),())))
 (some ((false,()),()))
abbrev Sn:Type:=ABq×Unit
abbrev Vi:Type:=Int->List Int->Int->AAT->List Int->AAU->Int->ABO->ABP->AAq->AA1->Bool->Option Sn
def Q3(R4:Vi)(t3:Int)(AR:AAC)(AE:Int)(Am:AAT)(CE:AAC)(Cd:AAU)(AS:Int)(CZ:ABO)(CS:ABP)(CU:AAq)(C9:AA1)(AK:Bool):Option Sn:=
 cond ((decide (t3<(C9.length:Int))))
  (if(0:Int)<=t3/\t3<(C9.length:Int)then(
  (Hs ((C9.getD (t3.toNat) (0,[],false,())).1)).bind fun u4=>
  cond (!u4.1.1)
   (some ((false,()),()))
  ((DD ((C9.getD (t3.toNat) (0,[],false,())).1)).bind fun u6=>
  cond ((decide (u6.1.1>(Cd.length:Int))))
   (some ((false,()),()))
  (cond ((decide ((((C9.getD (t3.toNat) (0,[],false,())).2.1).length:Int)>40)))
   (some ((false,()),()))
  (cond (decide (t3>0))
   (if(0:Int)<=Aa (t3-1)/\Aa (t3-1)<(C9.length:Int)then(
   cond (decide (((C9.getD ((Aa (t3-1)).toNat) (0,[],false,())).1)>=((C9.getD (t3.toNat) (0,[],false,())).1)))
    (some ((false,()),()))
   (R4 (Aa (t3+1)) AR AE Am CE Cd AS CZ CS CU C9 AK))else none)
  (R4 (Aa (t3+1)) AR AE Am CE Cd AS CZ CS CU C9 AK)))))else none)
 (some ((true,()),()))
def KQ:Nat->Vi
 |0=>fun _ _ _ _ _ _ _ _ _ _ _ _=>none
 |n+1=>Q3 (KQ n)
def XK(R4:Vi)(p0:ABg):Option Sn:=
 cond (decide ((p0.2.2.2.2.2.2.2.2.2.1.length:Int)>120))
  (some ((false,()),()))
 (R4 0 p0.1 p0.2.1 p0.2.2.1 p0.2.2.2.1 p0.2.2.2.2.1 p0.2.2.2.2.2.1 p0.2.2.2.2.2.2.1 p0.2.2.2.2.2.2.2.1 p0.2.2.2.2.2.2.2.2.1 p0.2.2.2.2.2.2.2.2.2.1 p0.2.2.2.2.2.2.2.2.2.2.1)
def W6(p0:ABg):Option Sn:=XK (KQ Ae) p0
abbrev rL:Type:=ABq×Unit
def Wl(p0:ABg):Option rL:=
 (Uj (p0.1,p0.2.1,p0.2.2.1,p0.2.2.2.1,p0.2.2.2.2.1,p0.2.2.2.2.2.1,p0.2.2.2.2.2.2.1,p0.2.2.2.2.2.2.2.1,p0.2.2.2.2.2.2.2.2.1,p0.2.2.2.2.2.2.2.2.2.1,p0.2.2.2.2.2.2.2.2.2.2.1,())).bind fun u1=>
 cond (u1.1.1)
  ((SD (p0.1,p0.2.1,p0.2.2.1,p0.2.2.2.1,p0.2.2.2.2.1,p0.2.2.2.2.2.1,p0.2.2.2.2.2.2.1,p0.2.2.2.2.2.2.2.1,p0.2.2.2.2.2.2.2.2.1,p0.2.2.2.2.2.2.2.2.2.1,p0.2.2.2.2.2.2.2.2.2.2.1,())).bind fun u2=>
  cond (u2.1.1)
   (cond ((p0.2.2.2.2.2.2.2.2.1.length:Int)==2)
    (if(0:Int)<=(0:Int)/\(0:Int)<(p0.2.2.2.2.2.2.2.2.1.length:Int)then(
    (NT ((p0.2.2.2.2.2.2.2.2.1.getD 0 (0,0,[],())).1,(p0.2.2.2.2.2.2.2.2.1.getD 0 (0,0,[],())).2.1,(p0.2.2.2.2.2.2.2.2.1.getD 0 (0,0,[],())).2.2.1,())).bind fun u4=>
    cond (u4.1.1)
     (if(0:Int)<=(1:Int)/\(1:Int)<(p0.2.2.2.2.2.2.2.2.1.length:Int)then(
     (NT ((p0.2.2.2.2.2.2.2.2.1.getD 1 (0,0,[],())).1,(p0.2.2.2.2.2.2.2.2.1.getD 1 (0,0,[],())).2.1,(p0.2.2.2.2.2.2.2.2.1.getD 1 (0,0,[],())).2.2.1,())).bind fun u5=>
     cond (u5.1.1)
      ((W6 (p0.1,p0.2.1,p0.2.2.1,p0.2.2.2.1,p0.2.2.2.2.1,p0.2.2.2.2.2.1,p0.2.2.2.2.2.2.1,p0.2.2.2.2.2.2.2.1,p0.2.2.2.2.2.2.2.2.1,p0.2.2.2.2.2.2.2.2.2.1,p0.2.2.2.2.2.2.2.2.2.2.1,())).bind fun u6=>
      some ((u6.1.1,()),()))
     (some ((false,()),())))else none)
    (some ((false,()),())))else none)
   (some ((false,()),())))
  (some ((false,()),())))
 (some ((false,()),()))
abbrev nw:Type:=AF1×Unit
def Z3(p0:ADN):Option nw:=
 cond (p0.1==1)
  (some (((p0.1,p0.2.1,0,0,[],()),()),()))
 (cond (p0.1==4)
  (some (((p0.1,p0.2.1,0,0,[],()),()),()))
 (cond (p0.1==6)
  (some (((p0.1,p0.2.1,0,0,[],()),()),()))
 (cond (p0.1==7)
  (some (((p0.1,p0.2.1,0,0,[],()),()),()))
 (cond (p0.1==9)
  (some (((p0.1,p0.2.1,0,0,[],()),()),()))
 (cond (p0.1==13)
  (some (((p0.1,p0.2.1,0,0,[],()),()),()))
 (cond (p0.1==15)
  (some (((p0.1,p0.2.1,0,0,[],()),()),()))
 (cond (p0.1==16)
  (some (((p0.1,p0.2.1,0,0,[],()),()),()))
 (cond (p0.1==2)
  (some (((p0.1,p0.2.1,0,0,p0.2.2.2.2.1,()),()),()))
 (cond (p0.1==3)
  (some (((p0.1,p0.2.1,p0.2.2.1,p0.2.2.2.1,[],()),()),()))
 (cond (p0.1==5)
  (some (((p0.1,p0.2.1,p0.2.2.1,0,[],()),()),()))
 (cond (p0.1==14)
  (some (((p0.1,p0.2.1,p0.2.2.1,0,[],()),()),()))
 (cond (p0.1==11)
  (some (((p0.1,0,p0.2.2.1,p0.2.2.2.1,[],()),()),()))
 (some (((p0.1,0,0,0,[],()),()),()))))))))))))))
abbrev sf:Type:=ABq×Unit
def Yo(p0:ADN):Option sf:=
 (CN p0.1 1 16).bind fun u1=>
 cond (u1.1.1)
  ((Z3 (p0.1,p0.2.1,p0.2.2.1,p0.2.2.2.1,p0.2.2.2.2.1,())).bind fun u2=>
  cond (((p0.1==u2.1.1.1)&&((p0.2.1==u2.1.1.2.1)&&((p0.2.2.1==u2.1.1.2.2.1)&&((p0.2.2.2.1==u2.1.1.2.2.2.1)&&((p0.2.2.2.2.1==u2.1.1.2.2.2.2.1)&&true))))))
   (some ((decide ((p0.2.2.2.2.1.length:Int)<=40),()),()))
  (some ((false,()),())))
 (some ((false,()),()))
abbrev F6:Type:=AFa×AEP
abbrev Xu:Type:=Int->AAU->Int->Int->AAU->Int->AAU->Option F6
def ZY(R3:Xu)(t4:Int)(AR:AAU)(AE Bn:Int)(b2:AAU)(vB:Int)(b4:AAU):Option F6:=
 cond ((decide (t4<(AR.length:Int))))
  (if(0:Int)<=t4/\t4<(AR.length:Int)then(
  if 0+((AR.getD (t4.toNat) ([],false,0,())).1).length<=D8 then(
  if b4.length+1<=D8 then(
  R3 (Aa (t4+1)) AR AE Bn b2 vB (b4++[(((AR.getD (t4.toNat) ([],false,0,())).1),(AR.getD (t4.toNat) ([],false,0,())).2.1,(AR.getD (t4.toNat) ([],false,0,())).2.2.1,())]))else none)else none)else none)
 (some ((((),vB,()),()),(b4,())))
def OW:Nat->Xu
 |0=>fun _ _ _ _ _ _ _=>none
 |n+1=>ZY (OW n)
def Yu(R3:Xu)(p0:ABy):Option F6:=
 R3 0 p0.1 p0.2.1 0 [] p0.2.1 []
def GR(p0:ABy):Option F6:=Yu (OW Ae) p0
abbrev K3:Type:=AHA×AEG
def FA(p0:ACt):Option K3:=
 if 0+p0.1.length<=D8 then(
 if 0+p0.2.1.length<=D8 then(
 some ((((),(),p0.2.2.1,()),()),(p0.1,p0.2.1,())))else none)else none
abbrev Fv:Type:=AHG×AEQ
abbrev YB:Type:=Int->Int->AB_->Int->AB_->Int->AB_->Option Fv
def Ys(R3:YB)(t4 AR:Int)(AE:AB_)(Cf:Int)(b2:AB_)(AEB:Int)(b4:AB_):Option Fv:=
 cond ((decide (t4<(AE.length:Int))))
  (if(0:Int)<=t4/\t4<(AE.length:Int)then(
  if 0+((AE.getD (t4.toNat) ([],[],false,())).2.1).length<=D8 then(
  if b4.length+1<=D8 then(
  R3 (Aa (t4+1)) AR AE Cf b2 AEB (b4++[((AE.getD (t4.toNat) ([],[],false,())).1,((AE.getD (t4.toNat) ([],[],false,())).2.1),(AE.getD (t4.toNat) ([],[],false,())).2.2.1,())]))else none)else none)else none)
 (some (((AEB,(),()),()),(b4,())))
def Ob:Nat->YB
 |0=>fun _ _ _ _ _ _ _=>none
 |n+1=>Ys (Ob n)
def Yw(R3:YB)(p0:ACG):Option Fv:=
 R3 0 p0.1 p0.2.1 0 [] p0.1 []
def Fj(p0:ACG):Option Fv:=Yw (Ob Ae) p0
abbrev Gl:Type:=AFf×AEH
abbrev XU:Type:=Int->Int->Int->List Int->ABR->Bool->List AAC->Int->Int->Bool->List Int->ABR->List AAC->Int->Int->Bool->List Int->ABR->List AAC->Option Gl
def Sa(R3:XU)(t4 AR AE:Int)(Am:AAC)(CE:ABR)(Cd:Bool)(AS:List AAC)(Cf Bn:Int)(Mu:Bool)(b2:AAC)(b3:ABR)(b4:List AAC)(AFR AGZ:Int)(AF_:Bool)(b6:AAC)(b7:ABR)(b8:List AAC):Option Gl:=
 cond ((decide (t4<(AS.length:Int))))
  (if(0:Int)<=t4/\t4<(AS.length:Int)then(
  if 0+(AS.getD (t4.toNat) []).length<=D8 then(
  if b8.length+1<=D8 then(
  R3 (Aa (t4+1)) AR AE Am CE Cd AS Cf Bn Mu b2 b3 b4 AFR AGZ AF_ b6 b7 (b8++[(AS.getD (t4.toNat) [])]))else none)else none)else none)
 (some (((AFR,AGZ,(),(),AF_,(),()),()),(b6,b7,b8,())))
def H7:Nat->XU
 |0=>fun _ _ _ _ _ _ _ _ _ _ _ _ _ _ _ _ _ _ _=>none
 |n+1=>Sa (H7 n)
def Nv(R3:XU)(p0:ABr):Option Gl:=
 if 0+p0.2.2.1.length<=D8 then(
 if 0+p0.2.2.2.1.length<=D8 then(
 R3 0 p0.1 p0.2.1 p0.2.2.1 p0.2.2.2.1 p0.2.2.2.2.1 p0.2.2.2.2.2.1 0 0 false [] [] [] p0.1 p0.2.1 p0.2.2.2.2.1 p0.2.2.1 p0.2.2.2.1 [])else none)else none
def Ec(p0:ABr):Option Gl:=Nv (H7 Ae) p0
abbrev Js:Type:=AFv×AEo
def CY(p0:ADW):Option Js:=
 if 0+p0.2.2.1.length<=D8 then(
 some (((p0.1,p0.2.1,(),()),()),(p0.2.2.1,())))else none
abbrev F5:Type:=AHH×AEI
abbrev KD:Type:=Int->List Int->Int->AAT->List Int->AAU->Int->ABO->ABP->AAq->AA1->Bool->Int->Int->Bool->List Int->AAT->List Int->AAU->ABO->ABP->AAq->AA1->Int->Int->Bool->List Int->AAT->List Int->AAU->ABO->ABP->AAq->AA1->Option F5
abbrev KH:Type:=Int->List Int->Int->AAT->List Int->AAU->Int->ABO->ABP->AAq->AA1->Bool->Int->Int->Bool->List Int->AAT->List Int->AAU->ABO->ABP->AAq->AA1->Int->Int->Bool->List Int->AAT->List Int->AAU->ABO->ABP->AAq->AA1->Option F5
abbrev JL:Type:=Int->List Int->Int->AAT->List Int->AAU->Int->ABO->ABP->AAq->AA1->Bool->Int->Int->Bool->List Int->AAT->List Int->AAU->ABO->ABP->AAq->AA1->Int->Int->Bool->List Int->AAT->List Int->AAU->ABO->ABP->AAq->AA1->Option F5
abbrev JO:Type:=Int->List Int->Int->AAT->List Int->AAU->Int->ABO->ABP->AAq->AA1->Bool->Int->Int->Bool->List Int->AAT->List Int->AAU->ABO->ABP->AAq->AA1->Int->Int->Bool->List Int->AAT->List Int->AAU->ABO->ABP->AAq->AA1->Option F5
def Q6(R3:KD)(R7:KH)(zI:JL)(qT:JO)(t4:Int)(AR:AAC)(AE:Int)(Am:AAT)(CE:AAC)(Cd:AAU)(AS:Int)(CZ:ABO)(CS:ABP)(CU:AAq)(C9:AA1)(AK:Bool)(Bn EO:Int)(FK:Bool)(b2:AAC)(b3:AAT)(b4:AAC)(b5:AAU)(b6:ABO)(b7:ABP)(b8:AAq)(b9:AA1)(Dy Et:Int)(DH:Bool)(GD:AAC)(D6:AAT)(Gk:AAC)(Gi:AAU)(EW:ABO)(Eu:ABP)(Fi:AAq)(TB:AA1):Option F5:=
 cond ((decide (t4<(Am.length:Int))))
  (if(0:Int)<=t4/\t4<(Am.length:Int)then(
  (FA ((Am.getD (t4.toNat) ([],[],0,())).1,(Am.getD (t4.toNat) ([],[],0,())).2.1,(Am.getD (t4.toNat) ([],[],0,())).2.2.1,())).bind fun AAu=>
  if D6.length+1<=D8 then(
  R3 (Aa (t4+1)) AR AE Am CE Cd AS CZ CS CU C9 AK Bn EO FK b2 b3 b4 b5 b6 b7 b8 b9 Dy Et DH GD (D6++[(AAu.2.1,AAu.2.2.1,AAu.1.1.2.2.1,())]) Gk Gi EW Eu Fi TB)else none)else none)
 (R7 0 AR AE Am CE Cd AS CZ CS CU C9 AK Bn EO FK b2 b3 b4 b5 b6 b7 b8 b9 Dy Et DH GD D6 Gk Gi EW Eu Fi TB)
def Q4(R3:KD)(R7:KH)(zI:JL)(qT:JO)(t5:Int)(AR:AAC)(AE:Int)(Am:AAT)(CE:AAC)(Cd:AAU)(AS:Int)(CZ:ABO)(CS:ABP)(CU:AAq)(C9:AA1)(AK:Bool)(Bn EO:Int)(FK:Bool)(b2:AAC)(b3:AAT)(b4:AAC)(b5:AAU)(b6:ABO)(b7:ABP)(b8:AAq)(b9:AA1)(Dy Et:Int)(DH:Bool)(GD:AAC)(D6:AAT)(Gk:AAC)(Gi:AAU)(EW:ABO)(Eu:ABP)(Fi:AAq)(TB:AA1):Option F5:=
 cond ((decide (t5<(CZ.length:Int))))
  (if(0:Int)<=t5/\t5<(CZ.length:Int)then(
  (Fj ((CZ.getD (t5.toNat) (0,[],())).1,(CZ.getD (t5.toNat) (0,[],())).2.1,())).bind fun AFV=>
  if EW.length+1<=D8 then(
  R7 (Aa (t5+1)) AR AE Am CE Cd AS CZ CS CU C9 AK Bn EO FK b2 b3 b4 b5 b6 b7 b8 b9 Dy Et DH GD D6 Gk Gi (EW++[(AFV.1.1.1,AFV.2.1,())]) Eu Fi TB)else none)else none)
 (zI 0 AR AE Am CE Cd AS CZ CS CU C9 AK Bn EO FK b2 b3 b4 b5 b6 b7 b8 b9 Dy Et DH GD D6 Gk Gi EW Eu Fi TB)
def Pz(R3:KD)(R7:KH)(zI:JL)(qT:JO)(t6:Int)(AR:AAC)(AE:Int)(Am:AAT)(CE:AAC)(Cd:AAU)(AS:Int)(CZ:ABO)(CS:ABP)(CU:AAq)(C9:AA1)(AK:Bool)(Bn EO:Int)(FK:Bool)(b2:AAC)(b3:AAT)(b4:AAC)(b5:AAU)(b6:ABO)(b7:ABP)(b8:AAq)(b9:AA1)(Dy Et:Int)(DH:Bool)(GD:AAC)(D6:AAT)(Gk:AAC)(Gi:AAU)(EW:ABO)(Eu:ABP)(Fi:AAq)(TB:AA1):Option F5:=
 cond ((decide (t6<(CS.length:Int))))
  (if(0:Int)<=t6/\t6<(CS.length:Int)then(
  (Ec ((CS.getD (t6.toNat) (0,0,[],[],false,[],())).1,(CS.getD (t6.toNat) (0,0,[],[],false,[],())).2.1,(CS.getD (t6.toNat) (0,0,[],[],false,[],())).2.2.1,(CS.getD (t6.toNat) (0,0,[],[],false,[],())).2.2.2.1,(CS.getD (t6.toNat) (0,0,[],[],false,[],())).2.2.2.2.1,(CS.getD (t6.toNat) (0,0,[],[],false,[],())).2.2.2.2.2.1,())).bind fun mM=>
  if Eu.length+1<=D8 then(
  zI (Aa (t6+1)) AR AE Am CE Cd AS CZ CS CU C9 AK Bn EO FK b2 b3 b4 b5 b6 b7 b8 b9 Dy Et DH GD D6 Gk Gi EW (Eu++[(mM.1.1.1,mM.1.1.2.1,mM.2.1,mM.2.2.1,mM.1.1.2.2.2.2.1,mM.2.2.2.1,())]) Fi TB)else none)else none)
 (qT 0 AR AE Am CE Cd AS CZ CS CU C9 AK Bn EO FK b2 b3 b4 b5 b6 b7 b8 b9 Dy Et DH GD D6 Gk Gi EW Eu Fi TB)
def Py(R3:KD)(R7:KH)(zI:JL)(qT:JO)(t7:Int)(AR:AAC)(AE:Int)(Am:AAT)(CE:AAC)(Cd:AAU)(AS:Int)(CZ:ABO)(CS:ABP)(CU:AAq)(C9:AA1)(AK:Bool)(Bn EO:Int)(FK:Bool)(b2:AAC)(b3:AAT)(b4:AAC)(b5:AAU)(b6:ABO)(b7:ABP)(b8:AAq)(b9:AA1)(Dy Et:Int)(DH:Bool)(GD:AAC)(D6:AAT)(Gk:AAC)(Gi:AAU)(EW:ABO)(Eu:ABP)(Fi:AAq)(TB:AA1):Option F5:=
 cond ((decide (t7<(CU.length:Int))))
  (if(0:Int)<=t7/\t7<(CU.length:Int)then(
  (CY ((CU.getD (t7.toNat) (0,0,[],())).1,(CU.getD (t7.toNat) (0,0,[],())).2.1,(CU.getD (t7.toNat) (0,0,[],())).2.2.1,())).bind fun zr=>
  if Fi.length+1<=D8 then(
  qT (Aa (t7+1)) AR AE Am CE Cd AS CZ CS CU C9 AK Bn EO FK b2 b3 b4 b5 b6 b7 b8 b9 Dy Et DH GD D6 Gk Gi EW Eu (Fi++[(zr.1.1.1,zr.1.1.2.1,zr.2.1,())]) TB)else none)else none)
 (some ((((),Dy,(),(),(),Et,(),(),(),(),DH,()),()),(GD,D6,Gk,Gi,EW,Eu,Fi,TB,())))
mutual
def Cl:Nat->KD
 |0=>fun _ _ _ _ _ _ _ _ _ _ _ _ _ _ _ _ _ _ _ _ _ _ _ _ _ _ _ _ _ _ _ _ _ _=>none
 |n+1=>Q6 (Cl n) (C1 n) (Cg n) (Ci n)
def C1:Nat->KH
 |0=>fun _ _ _ _ _ _ _ _ _ _ _ _ _ _ _ _ _ _ _ _ _ _ _ _ _ _ _ _ _ _ _ _ _ _=>none
 |n+1=>Q4 (Cl n) (C1 n) (Cg n) (Ci n)
def Cg:Nat->JL
 |0=>fun _ _ _ _ _ _ _ _ _ _ _ _ _ _ _ _ _ _ _ _ _ _ _ _ _ _ _ _ _ _ _ _ _ _=>none
 |n+1=>Pz (Cl n) (C1 n) (Cg n) (Ci n)
def Ci:Nat->JO
 |0=>fun _ _ _ _ _ _ _ _ _ _ _ _ _ _ _ _ _ _ _ _ _ _ _ _ _ _ _ _ _ _ _ _ _ _=>none
 |n+1=>Py (Cl n) (C1 n) (Cg n) (Ci n)
end
def Qq(R3:KD)(R7:KH)(zI:JL)(qT:JO)(p0:ABg):Option F5:=
 if 0+p0.1.length<=D8 then(
 if 0+p0.2.2.2.1.length<=D8 then(
 (GR (p0.2.2.2.2.1,p0.2.2.2.2.2.1,())).bind fun u2=>
 if 0+p0.2.2.2.2.2.2.2.2.2.1.length<=D8 then(
 R3 0 p0.1 p0.2.1 p0.2.2.1 p0.2.2.2.1 p0.2.2.2.2.1 p0.2.2.2.2.2.1 p0.2.2.2.2.2.2.1 p0.2.2.2.2.2.2.2.1 p0.2.2.2.2.2.2.2.2.1 p0.2.2.2.2.2.2.2.2.2.1 p0.2.2.2.2.2.2.2.2.2.2.1 0 0 false [] [] [] [] [] [] [] [] p0.2.1 u2.1.1.2.1 p0.2.2.2.2.2.2.2.2.2.2.1 p0.1 [] p0.2.2.2.1 u2.2.1 [] [] [] p0.2.2.2.2.2.2.2.2.2.1)else none)else none)else none
def PX(p0:ABg):Option F5:=Qq (Cl Ae) (C1 Ae) (Cg Ae) (Ci Ae) p0
abbrev PR:Type:=ACu×AC2
abbrev SG:Type:=Int->Int->List Int->Option PR
def OY(R3:SG)(t0 t4:Int)(b0:AAC):Option PR:=
 cond (decide (t4<8))
  ((CN t0 0 255).bind fun u1=>
  cond (u1.1.1)
   (if t4<0 then none else(
   cond (((dY .i64 (t0.fdiv (2^(min t4.toNat 64))) 1)==1))
    (if b0.length+1<=D8 then(
    R3 t0 (Aa (t4+1)) (b0++[t4]))else none)
   (R3 t0 (Aa (t4+1)) b0)))
  (some (((),()),(b0,()))))
 (some (((),()),(b0,())))
def IQ:Nat->SG
 |0=>fun _ _ _=>none
 |n+1=>OY (IQ n)
def VE(R3:SG)(p0:Int):Option PR:=
 R3 p0 0 []
def OI(p0:Int):Option PR:=VE (IQ Ae) p0
abbrev pZ:Type:=(AHR×Unit)×AEP
def PY(p0:ABU)(p1:ABy)(p2:AAC):Option pZ:=
 (Mn (p0.1,p0.2.1,()) (p1.1,p1.2.1,())).bind fun u1=>
 cond (!u1.1.1)
  (some (((((),0,()),0,false,()),()),([],())))
 ((GR (p1.1,p1.2.1,())).bind fun u2=>
 (Fa (p0.1,p0.2.1,()) p2).bind fun u3=>
 cond (!u3.1.1)
  (some (((((),u2.1.1.2.1,()),0,false,()),()),(u2.2.1,())))
 (cond (((p1.1.length:Int)==30))
  (some (((((),u2.1.1.2.1,()),0,false,()),()),(u2.2.1,())))
 (if 0+p2.length<=D8 then(
 if u2.2.1.length+1<=D8 then(
 let x5:AAU:=u2.2.1++[(p2,false,0,())]
 some (((((),u2.1.1.2.1,()),(x5.length:Int),true,()),()),(x5,())))else none)else none)))
abbrev dv:Type:=AED×(List Int×AAT×List Int×Unit×Unit×Unit×AAq×AA1×AAU×ABO×ABP×Unit)
def We(CR CW:Int)(Bc:Bool)(p1:ADN)(b0:AAC)(b1:AAT)(b2:AAC)(b3:AAU)(b4:ABO)(b5:ABP)(b6:AAq)(b7:AA1):Option dv:=
 cond (((b4.length:Int)==4))
  (some (((((),CR,(),(),(),CW,(),(),(),(),Bc,()),4,()),()),(b0,b1,b2,(),(),(),b6,b7,b3,b4,b5,())))
 ((OI p1.2.1).bind fun u2=>
 (PY (b0,CR,()) (b3,CW,()) u2.2.1).bind fun u3=>
 cond (!u3.1.1.2.2.1)
  (some (((((),CR,(),(),(),CW,(),(),(),(),Bc,()),4,()),()),(b0,b1,b2,(),(),(),b6,b7,b3,b4,b5,())))
 (if b4.length+1<=D8 then(
 some (((((),CR,(),(),(),u3.1.1.1.2.1,(),(),(),(),Bc,()),0,()),()),(b0,b1,b2,(),(),(),b6,b7,u3.2.1,(b4++[(u3.1.1.2.1,[],())]),[],())))else none))
abbrev kt:Type:=ABq×Unit
def MB(p0:ABg)(p1:Int):Option kt:=
 (CN p1 0 (Aa ((p0.2.2.2.2.2.2.1.length:Int)-1))).bind fun u2=>
 some ((u2.1.1,()),())
abbrev kq:Type:=(AHS×Unit)×AEQ
def L1(p0:ABU)(p1:ACG)(p2:ACB):Option kq:=
 (Hr (p0.1,p0.2.1,()) (p1.1,p1.2.1,())).bind fun u1=>
 cond (!u1.1.1)
  (some ((((0,(),()),0,false,()),()),([],())))
 ((Fj (p1.1,p1.2.1,())).bind fun u2=>
 if u2.2.1.length+1<=D8 then(
 let x3:AB_:=u2.2.1++[(p2,[],false,())]
 (Hr (p0.1,p0.2.1,()) (u2.1.1.1,x3,())).bind fun u4=>
 cond (!u4.1.1)
  ((Fj (p1.1,p1.2.1,())).bind fun u5=>
  some ((((u5.1.1.1,(),()),0,false,()),()),(u5.2.1,())))
 (some ((((u2.1.1.1,(),()),(x3.length:Int),true,()),()),(x3,()))))else none)
abbrev H3:Type:=ABu×Unit
def Ej(p0 p1:Int):Option H3:=
 some ((Aa ((Aa (4294967296*p0))+p1),()),())
abbrev K0:Type:=AED×(List Int×AAT×List Int×AAU×ABO×ABP×AAq×Unit×AA1×Unit)
abbrev SM:Type:=Int->List Int->AAT->List Int->AAU->ABO->ABP->AAq->AA1->Int->Int->Bool->Int->Int->Bool->List Int->AAT->List Int->AAU->ABO->ABP->AAq->AA1->Int->List UInt8->Bool->Option K0
abbrev QY:Type:=Bool->Int->List Int->AAT->List Int->AAU->ABO->ABP->AAq->AA1->Int->Int->Bool->Int->Int->Bool->List Int->AAT->List Int->AAU->ABO->ABP->AAq->AA1->Int->List UInt8->Bool->AA1->Option K0
def Zo(R9:SM)(sg:QY)(t10:Int)(b0:AAC)(b1:AAT)(b2:AAC)(b3:AAU)(b4:ABO)(b5:ABP)(b6:AAq)(b7:AA1)(Dq D5:Int)(CT:Bool)(EE Fp:Int)(C_:Bool)(LU:AAC)(GD:AAT)(D6:AAC)(Gk:AAU)(Gi:ABO)(EW:ABP)(Eu:AAq)(Fi:AA1)(Cq:Int)(DJ:ACB)(Ct:Bool):Option K0:=
 cond ((decide (t10<(b7.length:Int))))
  (if(0:Int)<=t10/\t10<(b7.length:Int)then(
  cond (((b7.getD (t10.toNat) (0,[],false,())).1)==Cq)
   (some (((((),Dq,(),(),(),D5,(),(),(),(),CT,()),4,()),()),(b0,b1,b2,b3,b4,b5,b6,(),b7,())))
  (R9 (Aa (t10+1)) b0 b1 b2 b3 b4 b5 b6 b7 Dq D5 CT EE Fp C_ LU GD D6 Gk Gi EW Eu Fi Cq DJ Ct))else none)
 (sg false 0 b0 b1 b2 b3 b4 b5 b6 b7 Dq D5 CT EE Fp C_ LU GD D6 Gk Gi EW Eu Fi Cq DJ Ct [])
def YQ(R9:SM)(sg:QY)(t12:Bool)(t13:Int)(b0:AAC)(b1:AAT)(b2:AAC)(b3:AAU)(b4:ABO)(b5:ABP)(b6:AAq)(b7:AA1)(Dq D5:Int)(CT:Bool)(EE Fp:Int)(C_:Bool)(LU:AAC)(GD:AAT)(D6:AAC)(Gk:AAU)(Gi:ABO)(EW:ABP)(Eu:AAq)(Fi:AA1)(Cq:Int)(DJ:ACB)(Ct:Bool)(wF:AA1):Option K0:=
 cond ((decide (t13<(b7.length:Int))))
  (cond (!t12)
   (if(0:Int)<=t13/\t13<(b7.length:Int)then(
   cond (decide (((b7.getD (t13.toNat) (0,[],false,())).1)>Cq))
    (if wF.length+1<=D8 then(
    let x18:AA1:=wF++[(Cq,DJ,Ct,())]
    if(0:Int)<=t13/\t13<(b7.length:Int)then(
    if x18.length+1<=D8 then(
    sg true (Aa (t13+1)) b0 b1 b2 b3 b4 b5 b6 b7 Dq D5 CT EE Fp C_ LU GD D6 Gk Gi EW Eu Fi Cq DJ Ct (x18++[((b7.getD (t13.toNat) (0,[],false,())).1,(b7.getD (t13.toNat) (0,[],false,())).2.1,(b7.getD (t13.toNat) (0,[],false,())).2.2.1,())]))else none)else none)else none)
   (if(0:Int)<=t13/\t13<(b7.length:Int)then(
   if wF.length+1<=D8 then(
   sg t12 (Aa (t13+1)) b0 b1 b2 b3 b4 b5 b6 b7 Dq D5 CT EE Fp C_ LU GD D6 Gk Gi EW Eu Fi Cq DJ Ct (wF++[((b7.getD (t13.toNat) (0,[],false,())).1,(b7.getD (t13.toNat) (0,[],false,())).2.1,(b7.getD (t13.toNat) (0,[],false,())).2.2.1,())]))else none)else none))else none)
  (if(0:Int)<=t13/\t13<(b7.length:Int)then(
  if wF.length+1<=D8 then(
  sg t12 (Aa (t13+1)) b0 b1 b2 b3 b4 b5 b6 b7 Dq D5 CT EE Fp C_ LU GD D6 Gk Gi EW Eu Fi Cq DJ Ct (wF++[((b7.getD (t13.toNat) (0,[],false,())).1,(b7.getD (t13.toNat) (0,[],false,())).2.1,(b7.getD (t13.toNat) (0,[],false,())).2.2.1,())]))else none)else none))
 (cond (!t12)
  (if wF.length+1<=D8 then(
  some (((((),Dq,(),(),(),D5,(),(),(),(),CT,()),0,()),()),(b0,b1,b2,b3,b4,b5,b6,(),(wF++[(Cq,DJ,Ct,())]),())))else none)
 (some (((((),Dq,(),(),(),D5,(),(),(),(),CT,()),0,()),()),(b0,b1,b2,b3,b4,b5,b6,(),wF,()))))
mutual
def Lt:Nat->SM
 |0=>fun _ _ _ _ _ _ _ _ _ _ _ _ _ _ _ _ _ _ _ _ _ _ _ _ _ _=>none
 |n+1=>Zo (Lt n) (KT n)
def KT:Nat->QY
 |0=>fun _ _ _ _ _ _ _ _ _ _ _ _ _ _ _ _ _ _ _ _ _ _ _ _ _ _ _ _=>none
 |n+1=>YQ (Lt n) (KT n)
end
def ZG(R9:SM)(sg:QY)(CR CW:Int)(Bc:Bool)(p1:ADN)(b0:AAC)(b1:AAT)(b2:AAC)(b3:AAU)(b4:ABO)(b5:ABP)(b6:AAq)(b7:AA1):Option K0:=
 (MB (b0,CR,b1,b2,b3,CW,b4,b5,b6,b7,Bc,()) p1.2.1).bind fun u1=>
 cond (!u1.1.1)
  (some (((((),CR,(),(),(),CW,(),(),(),(),Bc,()),2,()),()),(b0,b1,b2,b3,b4,b5,b6,(),b7,())))
 (if(0:Int)<=p1.2.1/\p1.2.1<(b4.length:Int)then(
 (L1 (b0,CR,()) ((b4.getD (p1.2.1.toNat) (0,[],())).1,(b4.getD (p1.2.1.toNat) (0,[],())).2.1,()) p1.2.2.2.2.1).bind fun u2=>
 cond (!u2.1.1.2.2.1)
  (some (((((),CR,(),(),(),CW,(),(),(),(),Bc,()),4,()),()),(b0,b1,b2,b3,b4,b5,b6,(),b7,())))
 (cond (((b7.length:Int)==120))
  (some (((((),CR,(),(),(),CW,(),(),(),(),Bc,()),4,()),()),(b0,b1,b2,b3,b4,b5,b6,(),b7,())))
 (if(0:Int)<=p1.2.1/\p1.2.1<(b4.length:Int)then(
 (Ej u2.1.1.1.1 u2.1.1.2.1).bind fun u5=>
 R9 0 b0 b1 b2 b3 (b4.set (p1.2.1.toNat) (u2.1.1.1.1,u2.2.1,())) b5 b6 b7 CR CW Bc 0 0 false [] [] [] [] [] [] [] [] u5.1.1 p1.2.2.2.2.1 false)else none)))else none)
def Yg(CR CW:Int)(Bc:Bool)(p1:ADN)(b0:AAC)(b1:AAT)(b2:AAC)(b3:AAU)(b4:ABO)(b5:ABP)(b6:AAq)(b7:AA1):Option K0:=ZG (Lt Ae) (KT Ae) CR CW Bc p1 b0 b1 b2 b3 b4 b5 b6 b7
abbrev rB:Type:=ABu×Unit
def Hn(p0:ABg)(p1:Int):Option rB:=
 (CN p1 0 (Aa ((p0.2.2.1.length:Int)-1))).bind fun u2=>
 cond (!u2.1.1)
  (some ((2,()),()))
 ((DV p0.2.2.2.1 p1).bind fun u3=>
 cond (u3.1.1)
  (some ((3,()),()))
 (some ((0,()),())))
abbrev qg:Type:=ABq×Unit
def W4(p0:ACt)(p1:ADr):Option qg:=
 cond (p1.2.1==0)
  ((DD p1.1).bind fun u1=>
  some (((decide (u1.1.1>p0.2.2.1)),()),()))
 (some (((decide (p1.2.1>p0.2.2.1)),()),()))
abbrev nr:Type:=AEJ×AEG
def QH(p0:ACt)(p1:ADr):Option nr:=
 (Gy (p0.1,p0.2.1,p0.2.2.1,())).bind fun u1=>
 cond (!u1.1.1)
  (some (((((),(),0,()),false,()),()),([],[],())))
 ((FA (p0.1,p0.2.1,p0.2.2.1,())).bind fun u2=>
 (Mg (p1.1,p1.2.1,p1.2.2.1,p1.2.2.2.1,())).bind fun u3=>
 cond (!u3.1.1)
  (some (((((),(),u2.1.1.2.2.1,()),false,()),()),(u2.2.1,u2.2.2.1,())))
 ((W4 (p0.1,p0.2.1,p0.2.2.1,()) (p1.1,p1.2.1,p1.2.2.1,p1.2.2.2.1,())).bind fun u4=>
 cond (!u4.1.1)
  (some (((((),(),u2.1.1.2.2.1,()),false,()),()),(u2.2.1,u2.2.2.1,())))
 (cond ((p0.2.1.length:Int)==20)
  (some (((((),(),u2.1.1.2.2.1,()),false,()),()),(u2.2.1,u2.2.2.1,())))
 (if u2.2.2.1.length+1<=D8 then(
 some (((((),(),u2.1.1.2.2.1,()),true,()),()),(u2.2.1,(u2.2.2.1++[(p1.1,p1.2.1,p1.2.2.1,p1.2.2.2.1,())]),())))else none))))
abbrev dC:Type:=AED×AEI
def Ue(CR CW:Int)(Bc:Bool)(p1:ADN)(b0:AAC)(b1:AAT)(b2:AAC)(b3:AAU)(b4:ABO)(b5:ABP)(b6:AAq)(b7:AA1):Option dC:=
 (MB (b0,CR,b1,b2,b3,CW,b4,b5,b6,b7,Bc,()) p1.2.1).bind fun u1=>
 cond (!u1.1.1)
  (some (((((),CR,(),(),(),CW,(),(),(),(),Bc,()),2,()),()),(b0,b1,b2,b3,b4,b5,b6,b7,())))
 (if(0:Int)<=p1.2.1/\p1.2.1<(b4.length:Int)then(
 (CN p1.2.2.1 1 (((b4.getD (p1.2.1.toNat) (0,[],())).2.1).length:Int)).bind fun u3=>
 cond (!u3.1.1)
  (some (((((),CR,(),(),(),CW,(),(),(),(),Bc,()),2,()),()),(b0,b1,b2,b3,b4,b5,b6,b7,())))
 ((Hn (b0,CR,b1,b2,b3,CW,b4,b5,b6,b7,Bc,()) p1.2.2.2.1).bind fun u4=>
 cond (u4.1.1 !=0)
  (some (((((),CR,(),(),(),CW,(),(),(),(),Bc,()),u4.1.1,()),()),(b0,b1,b2,b3,b4,b5,b6,b7,())))
 ((Cn (b3,CW,()) ((b4.getD (p1.2.1.toNat) (0,[],())).1)).bind fun u6=>
 (DV u6.2.1 p1.2.2.2.1).bind fun u7=>
 cond (!u7.1.1)
  (some (((((),CR,(),(),(),CW,(),(),(),(),Bc,()),2,()),()),(b0,b1,b2,b3,b4,b5,b6,b7,())))
 (if(0:Int)<=p1.2.2.2.1/\p1.2.2.2.1<(b1.length:Int)then(
 if(0:Int)<=Aa (p1.2.2.1-1)/\Aa (p1.2.2.1-1)<(((b4.getD (p1.2.1.toNat) (0,[],())).2.1).length:Int)then(
 (Ej ((b4.getD (p1.2.1.toNat) (0,[],())).1) p1.2.2.1).bind fun EP=>
 (QH ((b1.getD (p1.2.2.2.1.toNat) ([],[],0,())).1,(b1.getD (p1.2.2.2.1.toNat) ([],[],0,())).2.1,(b1.getD (p1.2.2.2.1.toNat) ([],[],0,())).2.2.1,()) (EP.1.1,0,false,((((b4.getD (p1.2.1.toNat) (0,[],())).2.1).getD ((Aa (p1.2.2.1-1)).toNat) ([],[],false,())).1),())).bind fun M6=>
 cond (!M6.1.1.2.1)
  (some (((((),CR,(),(),(),CW,(),(),(),(),Bc,()),4,()),()),(b0,b1,b2,b3,b4,b5,b6,b7,())))
 (if(0:Int)<=p1.2.2.2.1/\p1.2.2.2.1<(b1.length:Int)then(
 some (((((),CR,(),(),(),CW,(),(),(),(),Bc,()),0,()),()),(b0,(b1.set (p1.2.2.2.1.toNat) (M6.2.1,M6.2.2.1,M6.1.1.1.2.2.1,())),b2,b3,b4,b5,b6,b7,())))else none))else none)else none))))else none)
abbrev sR:Type:=(ADr×Unit)×Unit
def RI(p0 p1:ADr):Option sR:=
 cond ((decide (p1.2.1>p0.2.1)))
  (some (((p1.1,p1.2.1,p1.2.2.1,p1.2.2.2.1,()),()),()))
 (some (((p0.1,p0.2.1,p0.2.2.1,p0.2.2.2.1,()),()),()))
abbrev UZ:Type:=ACu×AEa
abbrev Xr:Type:=ABR->Bool->Int->Int->Int->Bool->List UInt8->ABR->Option UZ
def SR(R4:Xr)(t0:ABR)(t6:Bool)(t7 AR AE:Int)(Am:Bool)(CE:ACB)(b1:ABR):Option UZ:=
 cond ((decide (t7<(t0.length:Int))))
  (cond (!t6)
   (if(0:Int)<=t7/\t7<(t0.length:Int)then(
   cond (((t0.getD (t7.toNat) (0,0,false,[],())).1)==AR)
    (if(0:Int)<=t7/\t7<(t0.length:Int)then(
    (RI ((t0.getD (t7.toNat) (0,0,false,[],())).1,(t0.getD (t7.toNat) (0,0,false,[],())).2.1,(t0.getD (t7.toNat) (0,0,false,[],())).2.2.1,(t0.getD (t7.toNat) (0,0,false,[],())).2.2.2.1,()) (AR,AE,Am,CE,())).bind fun u3=>
    if b1.length+1<=D8 then(
    R4 t0 true (Aa (t7+1)) AR AE Am CE (b1++[(u3.1.1.1,u3.1.1.2.1,u3.1.1.2.2.1,u3.1.1.2.2.2.1,())]))else none)else none)
   (cond (!t6)
    (if(0:Int)<=t7/\t7<(t0.length:Int)then(
    cond (decide (((t0.getD (t7.toNat) (0,0,false,[],())).1)>AR))
     (if b1.length+1<=D8 then(
     let x6:ABR:=b1++[(AR,AE,Am,CE,())]
     if(0:Int)<=t7/\t7<(t0.length:Int)then(
     if x6.length+1<=D8 then(
     R4 t0 true (Aa (t7+1)) AR AE Am CE (x6++[((t0.getD (t7.toNat) (0,0,false,[],())).1,(t0.getD (t7.toNat) (0,0,false,[],())).2.1,(t0.getD (t7.toNat) (0,0,false,[],())).2.2.1,(t0.getD (t7.toNat) (0,0,false,[],())).2.2.2.1,())]))else none)else none)else none)
    (if(0:Int)<=t7/\t7<(t0.length:Int)then(
    if b1.length+1<=D8 then(
    R4 t0 t6 (Aa (t7+1)) AR AE Am CE (b1++[((t0.getD (t7.toNat) (0,0,false,[],())).1,(t0.getD (t7.toNat) (0,0,false,[],())).2.1,(t0.getD (t7.toNat) (0,0,false,[],())).2.2.1,(t0.getD (t7.toNat) (0,0,false,[],())).2.2.2.1,())]))else none)else none))else none)
   (if(0:Int)<=t7/\t7<(t0.length:Int)then(
   if b1.length+1<=D8 then(
   R4 t0 t6 (Aa (t7+1)) AR AE Am CE (b1++[((t0.getD (t7.toNat) (0,0,false,[],())).1,(t0.getD (t7.toNat) (0,0,false,[],())).2.1,(t0.getD (t7.toNat) (0,0,false,[],())).2.2.1,(t0.getD (t7.toNat) (0,0,false,[],())).2.2.2.1,())]))else none)else none)))else none)
  (cond (!t6)
   (if(0:Int)<=t7/\t7<(t0.length:Int)then(
   cond (decide (((t0.getD (t7.toNat) (0,0,false,[],())).1)>AR))
    (if b1.length+1<=D8 then(
    let x11:ABR:=b1++[(AR,AE,Am,CE,())]
    if(0:Int)<=t7/\t7<(t0.length:Int)then(
    if x11.length+1<=D8 then(
    R4 t0 true (Aa (t7+1)) AR AE Am CE (x11++[((t0.getD (t7.toNat) (0,0,false,[],())).1,(t0.getD (t7.toNat) (0,0,false,[],())).2.1,(t0.getD (t7.toNat) (0,0,false,[],())).2.2.1,(t0.getD (t7.toNat) (0,0,false,[],())).2.2.2.1,())]))else none)else none)else none)
   (if(0:Int)<=t7/\t7<(t0.length:Int)then(
   if b1.length+1<=D8 then(
   R4 t0 t6 (Aa (t7+1)) AR AE Am CE (b1++[((t0.getD (t7.toNat) (0,0,false,[],())).1,(t0.getD (t7.toNat) (0,0,false,[],())).2.1,(t0.getD (t7.toNat) (0,0,false,[],())).2.2.1,(t0.getD (t7.toNat) (0,0,false,[],())).2.2.2.1,())]))else none)else none))else none)
  (if(0:Int)<=t7/\t7<(t0.length:Int)then(
  if b1.length+1<=D8 then(
  R4 t0 t6 (Aa (t7+1)) AR AE Am CE (b1++[((t0.getD (t7.toNat) (0,0,false,[],())).1,(t0.getD (t7.toNat) (0,0,false,[],())).2.1,(t0.getD (t7.toNat) (0,0,false,[],())).2.2.1,(t0.getD (t7.toNat) (0,0,false,[],())).2.2.2.1,())]))else none)else none)))
 (cond (!t6)
  (if b1.length+1<=D8 then(
  some (((),()),((b1++[(AR,AE,Am,CE,())]),())))else none)
 (some (((),()),(b1,()))))
def Jf:Nat->Xr
 |0=>fun _ _ _ _ _ _ _ _=>none
 |n+1=>SR (Jf n)
def Yx(R4:Xr)(p0:ABR)(p1:ADr):Option UZ:=
 R4 p0 false 0 p1.1 p1.2.1 p1.2.2.1 p1.2.2.2.1 []
def RY(p0:ABR)(p1:ADr):Option UZ:=Yx (Jf Ae) p0 p1
abbrev Nu:Type:=AEJ×AEG
abbrev Qp:Type:=Int->Int->ABR->ABR->Int->Int->ABR->ABR->Int->ABR->ABR->Option Nu
def TO(R5:Qp)(t1 t7:Int)(AR AE:ABR)(Am EM:Int)(b2 b3:ABR)(bf:Int)(b5 b6:ABR):Option Nu:=
 cond ((decide (t7<(AE.length:Int))))
  (if t7<0 then none else(
  cond (((dY .i64 (t1.fdiv (2^(min t7.toNat 64))) 1)==1))
   (if(0:Int)<=t7/\t7<(AE.length:Int)then(
   (RY b5 ((AE.getD (t7.toNat) (0,0,false,[],())).1,(AE.getD (t7.toNat) (0,0,false,[],())).2.1,(AE.getD (t7.toNat) (0,0,false,[],())).2.2.1,(AE.getD (t7.toNat) (0,0,false,[],())).2.2.2.1,())).bind fun u5=>
   R5 t1 (Aa (t7+1)) AR AE Am EM b2 b3 bf u5.2.1 b6)else none)
  (R5 t1 (Aa (t7+1)) AR AE Am EM b2 b3 bf b5 b6)))
 ((CN t1 0 1048575).bind fun u6=>
 cond (!u6.1.1)
  ((FA (AR,AE,Am,())).bind fun u7=>
  some (((((),(),u7.1.1.2.2.1,()),false,()),()),(u7.2.1,u7.2.2.1,())))
 (cond ((decide ((b5.length:Int)>200)))
  ((FA (AR,AE,Am,())).bind fun u9=>
  some (((((),(),u9.1.1.2.2.1,()),false,()),()),(u9.2.1,u9.2.2.1,())))
 (some (((((),(),bf,()),true,()),()),(b5,b6,())))))
def Jd:Nat->Qp
 |0=>fun _ _ _ _ _ _ _ _ _ _ _=>none
 |n+1=>TO (Jd n)
def TJ(R5:Qp)(p0:ACt)(p1:Int):Option Nu:=
 (Gy (p0.1,p0.2.1,p0.2.2.1,())).bind fun u1=>
 cond (!u1.1.1)
  (some (((((),(),0,()),false,()),()),([],[],())))
 (if 0+p0.1.length<=D8 then(
 R5 p1 0 p0.1 p0.2.1 p0.2.2.1 0 [] [] p0.2.2.1 p0.1 [])else none)
def NI(p0:ACt)(p1:Int):Option Nu:=TJ (Jd Ae) p0 p1
abbrev kz:Type:=AEJ×AEG
def O2(p0:ACt):Option kz:=
 (NI (p0.1,p0.2.1,p0.2.2.1,()) 1048575).bind fun u1=>
 some (((((),(),u1.1.1.1.2.2.1,()),u1.1.1.2.1,()),()),(u1.2.1,u1.2.2.1,()))
abbrev G6:Type:=AFi×Unit
abbrev Z4:Type:=ABR->Int->Int->Int->Int->Bool->List UInt8->Option G6
def bL(R2:Z4)(t0:ABR)(t1 t6 AR AE:Int)(Am:Bool)(CE:ACB):Option G6:=
 cond ((decide (t6<(t0.length:Int))))
  (if(0:Int)<=t6/\t6<(t0.length:Int)then(
  cond (((t0.getD (t6.toNat) (0,0,false,[],())).1)==t1)
   (if(0:Int)<=t6/\t6<(t0.length:Int)then(
   some (((((t0.getD (t6.toNat) (0,0,false,[],())).1,(t0.getD (t6.toNat) (0,0,false,[],())).2.1,(t0.getD (t6.toNat) (0,0,false,[],())).2.2.1,(t0.getD (t6.toNat) (0,0,false,[],())).2.2.2.1,()),true,()),()),()))else none)
  (R2 t0 t1 (Aa (t6+1)) AR AE Am CE))else none)
 (some ((((0,0,false,[],()),false,()),()),()))
def QP:Nat->Z4
 |0=>fun _ _ _ _ _ _ _=>none
 |n+1=>bL (QP n)
def aa(R2:Z4)(p0:ABR)(p1:Int):Option G6:=
 R2 p0 p1 0 0 0 false []
def Hd(p0:ABR)(p1:Int):Option G6:=aa (QP Ae) p0 p1
abbrev GZ:Type:=AFk×AEQ
def Fy(p0:ABU)(p1:ACG)(p2 p3:Int):Option GZ:=
 (Hr (p0.1,p0.2.1,()) (p1.1,p1.2.1,())).bind fun u1=>
 cond (!u1.1.1)
  (some ((((0,(),()),false,()),()),([],())))
 ((Fj (p1.1,p1.2.1,())).bind fun u2=>
 (CN p2 1 (p1.2.1.length:Int)).bind fun u4=>
 cond (!u4.1.1)
  (some ((((u2.1.1.1,(),()),false,()),()),(u2.2.1,())))
 ((CN p3 0 (Aa ((p0.1.length:Int)-1))).bind fun u6=>
 cond (!u6.1.1)
  (some ((((u2.1.1.1,(),()),false,()),()),(u2.2.1,())))
 (if(0:Int)<=Aa (p2-1)/\Aa (p2-1)<(p1.2.1.length:Int)then(
 cond (((p1.2.1.getD ((Aa (p2-1)).toNat) ([],[],false,())).2.2.1))
  (some ((((u2.1.1.1,(),()),false,()),()),(u2.2.1,())))
 (if(0:Int)<=Aa (p2-1)/\Aa (p2-1)<(u2.2.1.length:Int)then(
 (Ma ((u2.2.1.getD ((Aa (p2-1)).toNat) ([],[],false,())).2.1) p3).bind fun u8=>
 if(0:Int)<=Aa (p2-1)/\Aa (p2-1)<(u2.2.1.length:Int)then(
 let x9:AB_:=(u2.2.1.set ((Aa (p2-1)).toNat) ((u2.2.1.getD ((Aa (p2-1)).toNat) ([],[],false,())).1,u8.2.1,(u2.2.1.getD ((Aa (p2-1)).toNat) ([],[],false,())).2.2.1,()))
 if(0:Int)<=Aa (p2-1)/\Aa (p2-1)<(x9.length:Int)then(
 (Fa (p0.1,p0.2.1,()) ((x9.getD ((Aa (p2-1)).toNat) ([],[],false,())).2.1)).bind fun EP=>
 if(0:Int)<=Aa (p2-1)/\Aa (p2-1)<(x9.length:Int)then(
 some ((((u2.1.1.1,(),()),true,()),()),((x9.set ((Aa (p2-1)).toNat) ((x9.getD ((Aa (p2-1)).toNat) ([],[],false,())).1,(x9.getD ((Aa (p2-1)).toNat) ([],[],false,())).2.1,EP.1.1,())),())))else none)else none)else none)else none))else none)))
abbrev mH:Type:=AES×Unit
def Si(p0 p1:Int):Option mH:=
 (CN p0 1 30).bind fun u1=>
 cond (!u1.1.1)
  (some (((0,false,()),()),()))
 ((CN p1 1 60).bind fun u2=>
 cond (!u2.1.1)
  (some (((0,false,()),()),()))
 (some (((Aa ((Aa (4294967296*p0))+p1),true,()),()),())))
abbrev GQ:Type:=AFi×Unit
def E9(p0:ABr)(p1:Int):Option GQ:=
 (Si p0.2.1 p1).bind fun u1=>
 cond (!p0.2.2.2.2.1)
  (some ((((0,0,false,[],()),false,()),()),()))
 (cond (!u1.1.1.2.1)
  (some ((((0,0,false,[],()),false,()),()),()))
 (cond (decide (p1>(p0.2.2.2.2.2.1.length:Int)))
  (some ((((0,0,false,[],()),false,()),()),()))
 ((Hd p0.2.2.2.1 u1.1.1.1).bind fun u3=>
 cond (u3.1.1.2.1)
  (some ((((u1.1.1.1,p0.1,u3.1.1.1.2.2.1,u3.1.1.1.2.2.2.1,()),true,()),()),()))
 (some ((((u1.1.1.1,p0.1,true,[],()),true,()),()),())))))
abbrev Hu:Type:=AER×AEH
def Ho(p0:ABU)(p1:ABr)(p2 p3:Int):Option Hu:=
 (I6 (p0.1,p0.2.1,()) (p1.1,p1.2.1,p1.2.2.1,p1.2.2.2.1,p1.2.2.2.2.1,p1.2.2.2.2.2.1,())).bind fun u1=>
 cond (!u1.1.1)
  (some ((((0,0,(),(),false,(),()),false,()),()),([],[],[],())))
 ((Ec (p1.1,p1.2.1,p1.2.2.1,p1.2.2.2.1,p1.2.2.2.2.1,p1.2.2.2.2.2.1,())).bind fun u2=>
 (CN p2 1 (p1.2.2.2.2.2.1.length:Int)).bind fun u4=>
 cond (!u4.1.1)
  (some ((((u2.1.1.1,u2.1.1.2.1,(),(),u2.1.1.2.2.2.2.1,(),()),false,()),()),(u2.2.1,u2.2.2.1,u2.2.2.2.1,())))
 ((CN p3 0 (Aa ((p0.1.length:Int)-1))).bind fun u6=>
 cond (!u6.1.1)
  (some ((((u2.1.1.1,u2.1.1.2.1,(),(),u2.1.1.2.2.2.2.1,(),()),false,()),()),(u2.2.1,u2.2.2.1,u2.2.2.2.1,())))
 (if(0:Int)<=Aa (p2-1)/\Aa (p2-1)<(u2.2.2.2.1.length:Int)then(
 (Ma (u2.2.2.2.1.getD ((Aa (p2-1)).toNat) []) p3).bind fun u7=>
 if(0:Int)<=Aa (p2-1)/\Aa (p2-1)<(u2.2.2.2.1.length:Int)then(
 some ((((u2.1.1.1,u2.1.1.2.1,(),(),u2.1.1.2.2.2.2.1,(),()),true,()),()),(u2.2.1,u2.2.2.1,(u2.2.2.2.1.set ((Aa (p2-1)).toNat) u7.2.1),())))else none)else none)))
abbrev B8:Type:=AHH×AEI
abbrev IY:Type:=Int->Int->List Int->AAT->List Int->AAU->ABO->ABP->AAq->AA1->Int->Int->Bool->Int->Int->Bool->List Int->AAT->List Int->AAU->ABO->ABP->AAq->AA1->ABR->ABR->Int->Option B8
abbrev Ib:Type:=Int->Int->Int->Int->Int->Bool->List Int->AAT->List Int->AAU->ABO->ABP->AAq->AA1->Int->Int->Bool->Int->Int->Bool->List Int->AAT->List Int->AAU->ABO->ABP->AAq->AA1->ABR->ABR->Int->Int->AB_->Option B8
abbrev Hl:Type:=Int->Int->Int->Int->Int->Bool->List Int->AAT->List Int->AAU->ABO->ABP->AAq->AA1->Int->Int->Bool->Int->Int->Bool->List Int->AAT->List Int->AAU->ABO->ABP->AAq->AA1->ABR->ABR->Int->Int->AB_->Option B8
abbrev Hk:Type:=Int->Int->List Int->AAT->List Int->AAU->ABO->ABP->AAq->AA1->Int->Int->Bool->Int->Int->Bool->List Int->AAT->List Int->AAU->ABO->ABP->AAq->AA1->ABR->ABR->Int->Option B8
abbrev Hh:Type:=Int->Int->Int->List Int->AAT->List Int->AAU->ABO->ABP->AAq->AA1->Int->Int->Bool->Int->Int->Bool->List Int->AAT->List Int->AAU->ABO->ABP->AAq->AA1->ABR->ABR->Int->Int->Int->List Int->ABR->Bool->List AAC->Option B8
def Mk(R3:IY)(R8:Ib)(qT:Hl)(R21:Hk)(R25:Hh)(t1 t6:Int)(b0:AAC)(b1:AAT)(b2:AAC)(b3:AAU)(b4:ABO)(b5:ABP)(b6:AAq)(b7:AA1)(Dq D5:Int)(CT:Bool)(EE Fp:Int)(C_:Bool)(LU:AAC)(GD:AAT)(D6:AAC)(Gk:AAU)(Gi:ABO)(EW:ABP)(Eu:AAq)(Fi:AA1)(Cq DJ:ABR)(Ct:Int):Option B8:=
 cond ((decide (t6<(b4.length:Int))))
  (if(0:Int)<=t6/\t6<(b4.length:Int)then(
  (Cn (b3,D5,()) ((b4.getD (t6.toNat) (0,[],())).1)).bind fun u3=>
  (DV u3.2.1 t1).bind fun u4=>
  cond (!u4.1.1)
   (R3 t1 (Aa (t6+1)) b0 b1 b2 b3 b4 b5 b6 b7 Dq D5 CT EE Fp C_ LU GD D6 Gk Gi EW Eu Fi Cq DJ Ct)
  (let x5:Int:=(b4.getD (t6.toNat) (0,[],())).1
  cond (decide (Ct>=x5))
   (R3 t1 (Aa (t6+1)) b0 b1 b2 b3 b4 b5 b6 b7 Dq D5 CT EE Fp C_ LU GD D6 Gk Gi EW Eu Fi Cq DJ Ct)
  (R8 t1 t6 1 Ct x5 (decide (Ct>=x5)) b0 b1 b2 b3 b4 b5 b6 b7 Dq D5 CT EE Fp C_ LU GD D6 Gk Gi EW Eu Fi Cq DJ Ct ((b4.getD (t6.toNat) (0,[],())).1) ((b4.getD (t6.toNat) (0,[],())).2.1))))else none)
 (R21 t1 0 b0 b1 b2 b3 b4 b5 b6 b7 Dq D5 CT EE Fp C_ LU GD D6 Gk Gi EW Eu Fi Cq DJ Ct)
def MM(R3:IY)(R8:Ib)(qT:Hl)(R21:Hk)(R25:Hh)(t1 t6 t8 t47 t49:Int)(t50:Bool)(b0:AAC)(b1:AAT)(b2:AAC)(b3:AAU)(b4:ABO)(b5:ABP)(b6:AAq)(b7:AA1)(Dq D5:Int)(CT:Bool)(EE Fp:Int)(C_:Bool)(LU:AAC)(GD:AAT)(D6:AAC)(Gk:AAU)(Gi:ABO)(EW:ABP)(Eu:AAq)(Fi:AA1)(Cq DJ:ABR)(Ct Dg:Int)(Ce:AB_):Option B8:=
 cond ((decide (t8<=(Ce.length:Int))))
  ((Ej Dg t8).bind fun u7=>
  (Hd Cq u7.1.1).bind fun u8=>
  cond (!u8.1.1.2.1)
   (R8 t1 t6 (Aa (t8+1)) t47 t49 t50 b0 b1 b2 b3 b4 b5 b6 b7 Dq D5 CT EE Fp C_ LU GD D6 Gk Gi EW Eu Fi Cq DJ Ct Dg Ce)
  (cond (u8.1.1.1.2.1 !=0)
   (R8 t1 t6 (Aa (t8+1)) t47 t49 t50 b0 b1 b2 b3 b4 b5 b6 b7 Dq D5 CT EE Fp C_ LU GD D6 Gk Gi EW Eu Fi Cq DJ Ct Dg Ce)
  (if(0:Int)<=Aa (t8-1)/\Aa (t8-1)<(Ce.length:Int)then(
  cond (((Ce.getD ((Aa (t8-1)).toNat) ([],[],false,())).2.2.1))
   (R8 t1 t6 (Aa (t8+1)) t47 t49 t50 b0 b1 b2 b3 b4 b5 b6 b7 Dq D5 CT EE Fp C_ LU GD D6 Gk Gi EW Eu Fi Cq DJ Ct Dg Ce)
  ((Fy (b0,Dq,()) (Dg,Ce,()) t8 t1).bind fun EP=>
  R8 t1 t6 (Aa (t8+1)) t47 t49 t50 b0 b1 b2 b3 b4 b5 b6 b7 Dq D5 CT EE Fp C_ LU GD D6 Gk Gi EW Eu Fi Cq DJ Ct EP.1.1.1.1 EP.2.1))else none)))
 (if(0:Int)<=t6/\t6<(b4.length:Int)then(
 qT t1 t6 0 t47 t49 t50 b0 b1 b2 b3 (b4.set (t6.toNat) (Dg,Ce,())) b5 b6 b7 Dq D5 CT EE Fp C_ LU GD D6 Gk Gi EW Eu Fi Cq DJ Ct Dg Ce)else none)
def LB(R3:IY)(R8:Ib)(qT:Hl)(R21:Hk)(R25:Hh)(t1 t6 t11 t47 t49:Int)(t50:Bool)(b0:AAC)(b1:AAT)(b2:AAC)(b3:AAU)(b4:ABO)(b5:ABP)(b6:AAq)(b7:AA1)(Dq D5:Int)(CT:Bool)(EE Fp:Int)(C_:Bool)(LU:AAC)(GD:AAT)(D6:AAC)(Gk:AAU)(Gi:ABO)(EW:ABP)(Eu:AAq)(Fi:AA1)(Cq DJ:ABR)(Ct Dg:Int)(Ce:AB_):Option B8:=
 cond ((decide (t11<(b7.length:Int))))
  (if(0:Int)<=t11/\t11<(b7.length:Int)then(
  let x65:Int:=(b7.getD (t11.toNat) (0,[],false,())).1
  (DD x65).bind fun u66=>
  cond (u66.1.1==Dg)
   ((He x65).bind fun u67=>
   cond ((decide (u67.1.1<=(Ce.length:Int))))
    ((He x65).bind fun u69=>
    if(0:Int)<=Aa (u69.1.1-1)/\Aa (u69.1.1-1)<(Ce.length:Int)then(
    cond (((Ce.getD ((Aa (u69.1.1-1)).toNat) ([],[],false,())).2.2.1))
     (if(0:Int)<=t11/\t11<(b7.length:Int)then(
     qT t1 t6 (Aa (t11+1)) t47 t49 t50 b0 b1 b2 b3 b4 b5 b6 (b7.set (t11.toNat) ((b7.getD (t11.toNat) (0,[],false,())).1,(b7.getD (t11.toNat) (0,[],false,())).2.1,true,())) Dq D5 CT EE Fp C_ LU GD D6 Gk Gi EW Eu Fi Cq DJ Ct Dg Ce)else none)
    (qT t1 t6 (Aa (t11+1)) t47 t49 t50 b0 b1 b2 b3 b4 b5 b6 b7 Dq D5 CT EE Fp C_ LU GD D6 Gk Gi EW Eu Fi Cq DJ Ct Dg Ce))else none)
   (qT t1 t6 (Aa (t11+1)) t47 t49 t50 b0 b1 b2 b3 b4 b5 b6 b7 Dq D5 CT EE Fp C_ LU GD D6 Gk Gi EW Eu Fi Cq DJ Ct Dg Ce))
  (qT t1 t6 (Aa (t11+1)) t47 t49 t50 b0 b1 b2 b3 b4 b5 b6 b7 Dq D5 CT EE Fp C_ LU GD D6 Gk Gi EW Eu Fi Cq DJ Ct Dg Ce))else none)
 (R3 t1 (Aa (t6+1)) b0 b1 b2 b3 b4 b5 b6 b7 Dq D5 CT EE Fp C_ LU GD D6 Gk Gi EW Eu Fi Cq DJ Ct)
def LK(R3:IY)(R8:Ib)(qT:Hl)(R21:Hk)(R25:Hh)(t1 t13:Int)(b0:AAC)(b1:AAT)(b2:AAC)(b3:AAU)(b4:ABO)(b5:ABP)(b6:AAq)(b7:AA1)(Dq D5:Int)(CT:Bool)(EE Fp:Int)(C_:Bool)(LU:AAC)(GD:AAT)(D6:AAC)(Gk:AAU)(Gi:ABO)(EW:ABP)(Eu:AAq)(Fi:AA1)(Cq DJ:ABR)(Ct:Int):Option B8:=
 cond ((decide (t13<(b5.length:Int))))
  (if(0:Int)<=t13/\t13<(b5.length:Int)then(
  R25 t1 t13 1 b0 b1 b2 b3 b4 b5 b6 b7 Dq D5 CT EE Fp C_ LU GD D6 Gk Gi EW Eu Fi Cq DJ Ct ((b5.getD (t13.toNat) (0,0,[],[],false,[],())).1) ((b5.getD (t13.toNat) (0,0,[],[],false,[],())).2.1) ((b5.getD (t13.toNat) (0,0,[],[],false,[],())).2.2.1) ((b5.getD (t13.toNat) (0,0,[],[],false,[],())).2.2.2.1) ((b5.getD (t13.toNat) (0,0,[],[],false,[],())).2.2.2.2.1) ((b5.getD (t13.toNat) (0,0,[],[],false,[],())).2.2.2.2.2.1))else none)
 (some ((((),Dq,(),(),(),D5,(),(),(),(),CT,()),()),(b0,b1,b2,b3,b4,b5,b6,b7,())))
def Ic(R3:IY)(R8:Ib)(qT:Hl)(R21:Hk)(R25:Hh)(t1 t13 t15:Int)(b0:AAC)(b1:AAT)(b2:AAC)(b3:AAU)(b4:ABO)(b5:ABP)(b6:AAq)(b7:AA1)(Dq D5:Int)(CT:Bool)(EE Fp:Int)(C_:Bool)(LU:AAC)(GD:AAT)(D6:AAC)(Gk:AAU)(Gi:ABO)(EW:ABP)(Eu:AAq)(Fi:AA1)(Cq DJ:ABR)(Ct Dg Ce:Int)(VU:AAC)(VW:ABR)(VB:Bool)(Ux:List AAC):Option B8:=
 if(0:Int)<=t13/\t13<(b5.length:Int)then(
 cond (decide (t15<=(((b5.getD (t13.toNat) (0,0,[],[],false,[],())).2.2.2.2.2.1).length:Int)))
  ((Cn (b3,D5,()) Ce).bind fun u74=>
  (DV u74.2.1 t1).bind fun u75=>
  cond (u75.1.1)
   ((E9 (Dg,Ce,VU,VW,VB,Ux,()) t15).bind fun u76=>
   (Hd Cq u76.1.1.1.1).bind fun u77=>
   cond (u77.1.1.2.1)
    (cond (((u77.1.1.1.1==u76.1.1.1.1)&&((u77.1.1.1.2.1==u76.1.1.1.2.1)&&((u77.1.1.1.2.2.1==u76.1.1.1.2.2.1)&&((u77.1.1.1.2.2.2.1==u76.1.1.1.2.2.2.1)&&true)))))
     ((Ho (b0,Dq,()) (Dg,Ce,VU,VW,VB,Ux,()) t15 t1).bind fun u79=>
     R25 t1 t13 (Aa (t15+1)) b0 b1 b2 b3 b4 b5 b6 b7 Dq D5 CT EE Fp C_ LU GD D6 Gk Gi EW Eu Fi Cq DJ Ct u79.1.1.1.1 u79.1.1.1.2.1 u79.2.1 u79.2.2.1 u79.1.1.1.2.2.2.2.1 u79.2.2.2.1)
    (R25 t1 t13 (Aa (t15+1)) b0 b1 b2 b3 b4 b5 b6 b7 Dq D5 CT EE Fp C_ LU GD D6 Gk Gi EW Eu Fi Cq DJ Ct Dg Ce VU VW VB Ux))
   (R25 t1 t13 (Aa (t15+1)) b0 b1 b2 b3 b4 b5 b6 b7 Dq D5 CT EE Fp C_ LU GD D6 Gk Gi EW Eu Fi Cq DJ Ct Dg Ce VU VW VB Ux))
  (if(0:Int)<=t13/\t13<(b5.length:Int)then(
  R21 t1 (Aa (t13+1)) b0 b1 b2 b3 b4 (b5.set (t13.toNat) (Dg,Ce,VU,VW,VB,Ux,())) b6 b7 Dq D5 CT EE Fp C_ LU GD D6 Gk Gi EW Eu Fi Cq DJ Ct)else none))
 (if(0:Int)<=t13/\t13<(b5.length:Int)then(
 R21 t1 (Aa (t13+1)) b0 b1 b2 b3 b4 (b5.set (t13.toNat) (Dg,Ce,VU,VW,VB,Ux,())) b6 b7 Dq D5 CT EE Fp C_ LU GD D6 Gk Gi EW Eu Fi Cq DJ Ct)else none))else none
mutual
def Bm:Nat->IY
 |0=>fun _ _ _ _ _ _ _ _ _ _ _ _ _ _ _ _ _ _ _ _ _ _ _ _ _ _ _=>none
 |n+1=>Mk (Bm n) (BN n) (BO n) (Bq n) (Bj n)
def BN:Nat->Ib
 |0=>fun _ _ _ _ _ _ _ _ _ _ _ _ _ _ _ _ _ _ _ _ _ _ _ _ _ _ _ _ _ _ _ _ _=>none
 |n+1=>MM (Bm n) (BN n) (BO n) (Bq n) (Bj n)
def BO:Nat->Hl
 |0=>fun _ _ _ _ _ _ _ _ _ _ _ _ _ _ _ _ _ _ _ _ _ _ _ _ _ _ _ _ _ _ _ _ _=>none
 |n+1=>LB (Bm n) (BN n) (BO n) (Bq n) (Bj n)
def Bq:Nat->Hk
 |0=>fun _ _ _ _ _ _ _ _ _ _ _ _ _ _ _ _ _ _ _ _ _ _ _ _ _ _ _=>none
 |n+1=>LK (Bm n) (BN n) (BO n) (Bq n) (Bj n)
def Bj:Nat->Hh
 |0=>fun _ _ _ _ _ _ _ _ _ _ _ _ _ _ _ _ _ _ _ _ _ _ _ _ _ _ _ _ _ _ _ _ _ _=>none
 |n+1=>Ic (Bm n) (BN n) (BO n) (Bq n) (Bj n)
end
def Q9(R3:IY)(R8:Ib)(qT:Hl)(R21:Hk)(R25:Hh)(CR CW:Int)(Bc:Bool)(p1:Int)(b0:AAC)(b1:AAT)(b2:AAC)(b3:AAU)(b4:ABO)(b5:ABP)(b6:AAq)(b7:AA1):Option B8:=
 if(0:Int)<=p1/\p1<(b1.length:Int)then(
 R3 p1 0 b0 b1 b2 b3 b4 b5 b6 b7 CR CW Bc 0 0 false [] [] [] [] [] [] [] [] ((b1.getD (p1.toNat) ([],[],0,())).1) ((b1.getD (p1.toNat) ([],[],0,())).2.1) ((b1.getD (p1.toNat) ([],[],0,())).2.2.1))else none
def WZ(CR CW:Int)(Bc:Bool)(p1:Int)(b0:AAC)(b1:AAT)(b2:AAC)(b3:AAU)(b4:ABO)(b5:ABP)(b6:AAq)(b7:AA1):Option B8:=Q9 (Bm Ae) (BN Ae) (BO Ae) (Bq Ae) (Bj Ae) CR CW Bc p1 b0 b1 b2 b3 b4 b5 b6 b7
abbrev rP:Type:=AED×AEI
def Wt(CR CW:Int)(Bc:Bool)(p1:ADN)(b0:AAC)(b1:AAT)(b2:AAC)(b3:AAU)(b4:ABO)(b5:ABP)(b6:AAq)(b7:AA1):Option rP:=
 (Hn (b0,CR,b1,b2,b3,CW,b4,b5,b6,b7,Bc,()) p1.2.1).bind fun u1=>
 cond (u1.1.1 !=0)
  (some (((((),CR,(),(),(),CW,(),(),(),(),Bc,()),u1.1.1,()),()),(b0,b1,b2,b3,b4,b5,b6,b7,())))
 (if(0:Int)<=p1.2.1/\p1.2.1<(b1.length:Int)then(
 (O2 ((b1.getD (p1.2.1.toNat) ([],[],0,())).1,(b1.getD (p1.2.1.toNat) ([],[],0,())).2.1,(b1.getD (p1.2.1.toNat) ([],[],0,())).2.2.1,())).bind fun u2=>
 cond (!u2.1.1.2.1)
  (some (((((),CR,(),(),(),CW,(),(),(),(),Bc,()),4,()),()),(b0,b1,b2,b3,b4,b5,b6,b7,())))
 (if(0:Int)<=p1.2.1/\p1.2.1<(b1.length:Int)then(
 (WZ CR CW Bc p1.2.1 b0 (b1.set (p1.2.1.toNat) (u2.2.1,u2.2.2.1,u2.1.1.1.2.2.1,())) b2 b3 b4 b5 b6 b7).bind fun u4=>
 some (((((),u4.1.1.2.1,(),(),(),u4.1.1.2.2.2.2.2.1,(),(),(),(),u4.1.1.2.2.2.2.2.2.2.2.2.2.1,()),0,()),()),(u4.2.1,u4.2.2.1,u4.2.2.2.1,u4.2.2.2.2.1,u4.2.2.2.2.2.1,u4.2.2.2.2.2.2.1,u4.2.2.2.2.2.2.2.1,u4.2.2.2.2.2.2.2.2.1,())))else none))else none)
abbrev UQ:Type:=ACu×AC2
abbrev YN:Type:=List Int->List Int->Int->List Int->Option UQ
def ZM(R3:YN)(t0 t1:AAC)(t6:Int)(b0:AAC):Option UQ:=
 cond ((decide (t6<(t0.length:Int))))
  (if(0:Int)<=t6/\t6<(t0.length:Int)then(
  (DV t1 (t0.getD (t6.toNat) 0)).bind fun u3=>
  cond (!u3.1.1)
   (if(0:Int)<=t6/\t6<(t0.length:Int)then(
   if b0.length+1<=D8 then(
   R3 t0 t1 (Aa (t6+1)) (b0++[(t0.getD (t6.toNat) 0)]))else none)else none)
  (R3 t0 t1 (Aa (t6+1)) b0))else none)
 (some (((),()),(b0,())))
def OV:Nat->YN
 |0=>fun _ _ _ _=>none
 |n+1=>ZM (OV n)
def ZE(R3:YN)(p0 p1:AAC):Option UQ:=
 R3 p0 p1 0 []
def I_(p0 p1:AAC):Option UQ:=ZE (OV Ae) p0 p1
abbrev LL:Type:=AFk×AEQ
abbrev OO:Type:=Int->Int->Int->AB_->Int->AB_->Option LL
def Rh(R5:OO)(t2 t9 AR:Int)(b1:AB_)(bC:Int)(b3:AB_):Option LL:=
 cond ((decide (t9<(b3.length:Int))))
  (if(0:Int)<=t9/\t9<(b3.length:Int)then(
  cond (!((b3.getD (t9.toNat) ([],[],false,())).2.2.1))
   (if(0:Int)<=t9/\t9<(b3.length:Int)then(
   (I_ ((b3.getD (t9.toNat) ([],[],false,())).2.1) [t2]).bind fun u5=>
   if(0:Int)<=t9/\t9<(b3.length:Int)then(
   R5 t2 (Aa (t9+1)) AR b1 bC (b3.set (t9.toNat) ((b3.getD (t9.toNat) ([],[],false,())).1,u5.2.1,(b3.getD (t9.toNat) ([],[],false,())).2.2.1,())))else none)else none)
  (R5 t2 (Aa (t9+1)) AR b1 bC b3))else none)
 (some ((((bC,(),()),true,()),()),(b3,())))
def H_:Nat->OO
 |0=>fun _ _ _ _ _ _=>none
 |n+1=>Rh (H_ n)
def RG(R5:OO)(p0:ABU)(p1:ACG)(p2:Int):Option LL:=
 (Hr (p0.1,p0.2.1,()) (p1.1,p1.2.1,())).bind fun u1=>
 cond (!u1.1.1)
  (some ((((0,(),()),false,()),()),([],())))
 ((Fj (p1.1,p1.2.1,())).bind fun u2=>
 R5 p2 0 0 [] u2.1.1.1 u2.2.1)
def Nr(p0:ABU)(p1:ACG)(p2:Int):Option LL:=RG (H_ Ae) p0 p1 p2
abbrev Ns:Type:=AER×AEH
abbrev Qs:Type:=Int->Int->Int->Int->Bool->List Int->ABR->List AAC->Int->Int->Bool->List Int->ABR->List AAC->Option Ns
def Ti(R5:Qs)(t2 t9 AR AE:Int)(Cd:Bool)(b1:AAC)(b2:ABR)(b3:List AAC)(yw zB:Int)(yT:Bool)(b5:AAC)(b6:ABR)(b7:List AAC):Option Ns:=
 cond ((decide (t9<(b7.length:Int))))
  (if(0:Int)<=t9/\t9<(b7.length:Int)then(
  (I_ (b7.getD (t9.toNat) []) [t2]).bind fun u4=>
  if(0:Int)<=t9/\t9<(b7.length:Int)then(
  R5 t2 (Aa (t9+1)) AR AE Cd b1 b2 b3 yw zB yT b5 b6 (b7.set (t9.toNat) u4.2.1))else none)else none)
 (some ((((yw,zB,(),(),yT,(),()),true,()),()),(b5,b6,b7,())))
def Jp:Nat->Qs
 |0=>fun _ _ _ _ _ _ _ _ _ _ _ _ _ _=>none
 |n+1=>Ti (Jp n)
def TV(R5:Qs)(p0:ABU)(p1:ABr)(p2:Int):Option Ns:=
 (I6 (p0.1,p0.2.1,()) (p1.1,p1.2.1,p1.2.2.1,p1.2.2.2.1,p1.2.2.2.2.1,p1.2.2.2.2.2.1,())).bind fun u1=>
 cond (!u1.1.1)
  (some ((((0,0,(),(),false,(),()),false,()),()),([],[],[],())))
 ((Ec (p1.1,p1.2.1,p1.2.2.1,p1.2.2.2.1,p1.2.2.2.2.1,p1.2.2.2.2.2.1,())).bind fun u2=>
 R5 p2 0 0 0 false [] [] [] u2.1.1.1 u2.1.1.2.1 u2.1.1.2.2.2.2.1 u2.2.1 u2.2.2.1 u2.2.2.2.1)
def QT(p0:ABU)(p1:ABr)(p2:Int):Option Ns:=TV (Jp Ae) p0 p1 p2
abbrev Jj:Type:=AED×AHT
abbrev Qb:Type:=Int->List Int->AAT->List Int->AAU->ABO->ABP->AAq->AA1->Int->Int->Bool->List Int->Int->Int->Int->Int->List UInt8->Int->Int->Bool->List Int->AAT->List Int->AAU->ABO->ABP->AAq->AA1->Option Jj
abbrev PV:Type:=Int->List Int->AAT->List Int->AAU->ABO->ABP->AAq->AA1->Int->Int->Bool->List Int->Int->Int->Int->Int->List UInt8->Int->Int->Bool->List Int->AAT->List Int->AAU->ABO->ABP->AAq->AA1->Option Jj
def XT(R7:Qb)(zI:PV)(t7:Int)(b0:AAC)(b1:AAT)(b2:AAC)(b3:AAU)(b4:ABO)(b5:ABP)(b6:AAq)(b7:AA1)(Dq D5:Int)(CT:Bool)(b9:AAC)(ABn Dy ABE ABQ:Int)(ABz:ACB)(ABM AB5:Int)(wg:Bool)(D6:AAC)(Gk:AAT)(Gi:AAC)(EW:AAU)(Eu:ABO)(Fi:ABP)(TB:AAq)(wF:AA1):Option Jj:=
 cond ((decide (t7<(b4.length:Int))))
  (if(0:Int)<=t7/\t7<(b4.length:Int)then(
  (Nr (b0,Dq,()) ((b4.getD (t7.toNat) (0,[],())).1,(b4.getD (t7.toNat) (0,[],())).2.1,()) Dy).bind fun u5=>
  if(0:Int)<=t7/\t7<(b4.length:Int)then(
  R7 (Aa (t7+1)) b0 b1 b2 b3 (b4.set (t7.toNat) (u5.1.1.1.1,u5.2.1,())) b5 b6 b7 Dq D5 CT b9 ABn Dy ABE ABQ ABz ABM AB5 wg D6 Gk Gi EW Eu Fi TB wF)else none)else none)
 (zI 0 b0 b1 b2 b3 b4 b5 b6 b7 Dq D5 CT b9 ABn Dy ABE ABQ ABz ABM AB5 wg D6 Gk Gi EW Eu Fi TB wF)
def WD(R7:Qb)(zI:PV)(t8:Int)(b0:AAC)(b1:AAT)(b2:AAC)(b3:AAU)(b4:ABO)(b5:ABP)(b6:AAq)(b7:AA1)(Dq D5:Int)(CT:Bool)(b9:AAC)(ABn Dy ABE ABQ:Int)(ABz:ACB)(ABM AB5:Int)(wg:Bool)(D6:AAC)(Gk:AAT)(Gi:AAC)(EW:AAU)(Eu:ABO)(Fi:ABP)(TB:AAq)(wF:AA1):Option Jj:=
 cond ((decide (t8<(b5.length:Int))))
  (if(0:Int)<=t8/\t8<(b5.length:Int)then(
  (QT (b0,Dq,()) ((b5.getD (t8.toNat) (0,0,[],[],false,[],())).1,(b5.getD (t8.toNat) (0,0,[],[],false,[],())).2.1,(b5.getD (t8.toNat) (0,0,[],[],false,[],())).2.2.1,(b5.getD (t8.toNat) (0,0,[],[],false,[],())).2.2.2.1,(b5.getD (t8.toNat) (0,0,[],[],false,[],())).2.2.2.2.1,(b5.getD (t8.toNat) (0,0,[],[],false,[],())).2.2.2.2.2.1,()) Dy).bind fun u8=>
  if(0:Int)<=t8/\t8<(b5.length:Int)then(
  zI (Aa (t8+1)) b0 b1 b2 b3 b4 (b5.set (t8.toNat) (u8.1.1.1.1,u8.1.1.1.2.1,u8.2.1,u8.2.2.1,u8.1.1.1.2.2.2.2.1,u8.2.2.2.1,())) b6 b7 Dq D5 CT b9 ABn Dy ABE ABQ ABz ABM AB5 wg D6 Gk Gi EW Eu Fi TB wF)else none)else none)
 (cond (CT)
  (some (((((),Dq,(),(),(),D5,(),(),(),(),true,()),0,()),()),(b0,b1,(),b3,b4,b5,b6,b7,b9,())))
 ((Fa (b0,Dq,()) b9).bind fun EP=>
 some (((((),Dq,(),(),(),D5,(),(),(),(),EP.1.1,()),0,()),()),(b0,b1,(),b3,b4,b5,b6,b7,b9,()))))
mutual
def KU:Nat->Qb
 |0=>fun _ _ _ _ _ _ _ _ _ _ _ _ _ _ _ _ _ _ _ _ _ _ _ _ _ _ _ _ _=>none
 |n+1=>XT (KU n) (JR n)
def JR:Nat->PV
 |0=>fun _ _ _ _ _ _ _ _ _ _ _ _ _ _ _ _ _ _ _ _ _ _ _ _ _ _ _ _ _=>none
 |n+1=>WD (KU n) (JR n)
end
def YK(R7:Qb)(zI:PV)(CR CW:Int)(Bc:Bool)(p1:ADN)(b0:AAC)(b1:AAT)(b2:AAC)(b3:AAU)(b4:ABO)(b5:ABP)(b6:AAq)(b7:AA1):Option Jj:=
 (Hn (b0,CR,b1,b2,b3,CW,b4,b5,b6,b7,Bc,()) p1.2.1).bind fun u1=>
 cond (u1.1.1 !=0)
  (some (((((),CR,(),(),(),CW,(),(),(),(),Bc,()),u1.1.1,()),()),(b0,b1,(),b3,b4,b5,b6,b7,b2,())))
 (if(0:Int)<=p1.2.1/\p1.2.1<(b1.length:Int)then(
 (Ma b2 p1.2.1).bind fun u3=>
 R7 0 b0 (b1.set (p1.2.1.toNat) ([],[],0,())) b2 b3 b4 b5 b6 b7 CR CW Bc u3.2.1 p1.1 p1.2.1 p1.2.2.1 p1.2.2.2.1 p1.2.2.2.2.1 0 0 false [] [] [] [] [] [] [] [])else none)
def WX(CR CW:Int)(Bc:Bool)(p1:ADN)(b0:AAC)(b1:AAT)(b2:AAC)(b3:AAU)(b4:ABO)(b5:ABP)(b6:AAq)(b7:AA1):Option Jj:=YK (KU Ae) (JR Ae) CR CW Bc p1 b0 b1 b2 b3 b4 b5 b6 b7
abbrev s_:Type:=ABq×Unit
def Za(p0:ABU)(p1:AAC):Option s_:=
 (G7 (p0.1,p0.2.1,()) p1).bind fun u1=>
 cond (u1.1.1)
  ((Fa (p0.1,p0.2.1,()) p1).bind fun u2=>
  some ((!u2.1.1,()),()))
 (some ((false,()),()))
abbrev KJ:Type:=ACu×AEa
abbrev Pf:Type:=AAT->Int->ABR->Option KJ
abbrev PQ:Type:=AAT->Int->Int->ABR->Option KJ
def Vy(R3:Pf)(R6:PQ)(t0:AAT)(t4:Int)(b0:ABR):Option KJ:=
 cond ((decide (t4<(t0.length:Int))))
  (R6 t0 t4 0 b0)
 (some (((),()),(b0,())))
def WK(R3:Pf)(R6:PQ)(t0:AAT)(t4 t5:Int)(b0:ABR):Option KJ:=
 if(0:Int)<=t4/\t4<(t0.length:Int)then(
 cond (decide (t5<(((t0.getD (t4.toNat) ([],[],0,())).1).length:Int)))
  (if(0:Int)<=t4/\t4<(t0.length:Int)then(
  if(0:Int)<=t5/\t5<(((t0.getD (t4.toNat) ([],[],0,())).1).length:Int)then(
  (RY b0 ((((t0.getD (t4.toNat) ([],[],0,())).1).getD (t5.toNat) (0,0,false,[],())).1,(((t0.getD (t4.toNat) ([],[],0,())).1).getD (t5.toNat) (0,0,false,[],())).2.1,(((t0.getD (t4.toNat) ([],[],0,())).1).getD (t5.toNat) (0,0,false,[],())).2.2.1,(((t0.getD (t4.toNat) ([],[],0,())).1).getD (t5.toNat) (0,0,false,[],())).2.2.2.1,())).bind fun u3=>
  R6 t0 t4 (Aa (t5+1)) u3.2.1)else none)else none)
 (R3 t0 (Aa (t4+1)) b0))else none
mutual
def JT:Nat->Pf
 |0=>fun _ _ _=>none
 |n+1=>Vy (JT n) (JI n)
def JI:Nat->PQ
 |0=>fun _ _ _ _=>none
 |n+1=>WK (JT n) (JI n)
end
def fy(R3:Pf)(R6:PQ)(p0:AAT):Option KJ:=
 R3 p0 0 []
def Zx(p0:AAT):Option KJ:=fy (JT Ae) (JI Ae) p0
abbrev Of:Type:=AEJ×AHU
abbrev Wh:Type:=List Int->Int->Int->AAT->Int->ABR->ABR->Int->ABR->ABR->AAT->Option Of
abbrev UY:Type:=Int->Int->AAT->Int->ABR->ABR->Int->ABR->ABR->AAT->Option Of
def ct(R6:Wh)(zI:UY)(t2:AAC)(t4 t14:Int)(b0:AAT)(EM:Int)(b2 b3:ABR)(bf:Int)(b5 b6:ABR)(b7:AAT):Option Of:=
 cond ((decide (t14<(b0.length:Int))))
  ((DV t2 t14).bind fun u6=>
  cond (!u6.1.1)
   (if(0:Int)<=t14/\t14<(b0.length:Int)then(
   if b7.length+1<=D8 then(
   R6 t2 t4 (Aa (t14+1)) b0 EM b2 b3 bf b5 b6 (b7++[((b0.getD (t14.toNat) ([],[],0,())).1,(b0.getD (t14.toNat) ([],[],0,())).2.1,(b0.getD (t14.toNat) ([],[],0,())).2.2.1,())]))else none)else none)
  (R6 t2 t4 (Aa (t14+1)) b0 EM b2 b3 bf b5 b6 b7))
 (zI t4 0 b0 EM b2 b3 bf b5 b6 b7)
def av(R6:Wh)(zI:UY)(t4 t15:Int)(b0:AAT)(EM:Int)(b2 b3:ABR)(bf:Int)(b5 b6:ABR)(b7:AAT):Option Of:=
 cond ((decide (t15<(b7.length:Int))))
  (if(0:Int)<=t15/\t15<(b7.length:Int)then(
  (Gy ((b7.getD (t15.toNat) ([],[],0,())).1,(b7.getD (t15.toNat) ([],[],0,())).2.1,(b7.getD (t15.toNat) ([],[],0,())).2.2.1,())).bind fun u9=>
  cond (!u9.1.1)
   (some (((((),(),bf,()),false,()),()),(b0,b5,b6,())))
  (zI t4 (Aa (t15+1)) b0 EM b2 b3 bf b5 b6 b7))else none)
 ((Zx b7).bind fun EP=>
 (Gy (EP.2.1,[],t4,())).bind fun M6=>
 cond (!M6.1.1)
  (some (((((),(),bf,()),false,()),()),(b0,b5,b6,())))
 (some (((((),(),t4,()),true,()),()),(b0,EP.2.1,[],()))))
mutual
def Pn:Nat->Wh
 |0=>fun _ _ _ _ _ _ _ _ _ _ _=>none
 |n+1=>ct (Pn n) (NR n)
def NR:Nat->UY
 |0=>fun _ _ _ _ _ _ _ _ _ _=>none
 |n+1=>av (Pn n) (NR n)
end
def dV(R6:Wh)(zI:UY)(p0:ABU)(p2:AAC)(p3 p4:Int)(b0:AAT):Option Of:=
 (Gg (p0.1,p0.2.1,())).bind fun u1=>
 cond (!u1.1.1)
  (some (((((),(),0,()),false,()),()),(b0,[],[],())))
 (cond (((b0.length:Int) !=(p0.1.length:Int)))
  (some (((((),(),0,()),false,()),()),(b0,[],[],())))
 ((Za (p0.1,p0.2.1,()) p2).bind fun u3=>
 cond (!u3.1.1)
  (some (((((),(),0,()),false,()),()),(b0,[],[],())))
 ((DV p2 p3).bind fun u4=>
 cond (!u4.1.1)
  (some (((((),(),0,()),false,()),()),(b0,[],[],())))
 (R6 p2 p4 0 b0 0 [] [] 0 [] [] []))))
def fh(p0:ABU)(p2:AAC)(p3 p4:Int)(b0:AAT):Option Of:=dV (Pn Ae) (NR Ae) p0 p2 p3 p4 b0
abbrev pz:Type:=AED×AHT
def Wj(CR CW:Int)(Bc:Bool)(p1:ADN)(b0:AAC)(b1:AAT)(b2:AAC)(b3:AAU)(b4:ABO)(b5:ABP)(b6:AAq)(b7:AA1):Option pz:=
 (DV b2 p1.2.1).bind fun u1=>
 cond (!u1.1.1)
  (some (((((),CR,(),(),(),CW,(),(),(),(),Bc,()),2,()),()),(b0,b1,(),b3,b4,b5,b6,b7,b2,())))
 ((MS (Aa ((b3.length:Int)-1)) 0).bind fun u3=>
 (fh (b0,CR,()) b2 p1.2.1 u3.1.1 b1).bind fun u4=>
 cond (!u4.1.1.2.1)
  (some (((((),CR,(),(),(),CW,(),(),(),(),Bc,()),4,()),()),(b0,u4.2.1,(),b3,b4,b5,b6,b7,b2,())))
 (if(0:Int)<=p1.2.1/\p1.2.1<(u4.2.1.length:Int)then(
 (I_ b2 [p1.2.1]).bind fun u6=>
 some (((((),CR,(),(),(),CW,(),(),(),(),Bc,()),0,()),()),(b0,(u4.2.1.set (p1.2.1.toNat) (u4.2.2.1,u4.2.2.2.1,u4.1.1.1.2.2.1,())),(),b3,b4,b5,b6,b7,u6.2.1,())))else none))
abbrev qL:Type:=AFf×AEH
def j7(p0 p1:Int):Option qL:=
 some (((p1,p0,(),(),false,(),()),()),([],[],[],()))
abbrev fL:Type:=AED×(List Int×AAT×List Int×AAU×ABO×Unit×AAq×AA1×ABP×Unit)
def Wu(CR CW:Int)(Bc:Bool)(b0:AAC)(b1:AAT)(b2:AAC)(b3:AAU)(b4:ABO)(b5:ABP)(b6:AAq)(b7:AA1):Option fL:=
 (Jc (b3,CW,())).bind fun u1=>
 cond ((decide ((b3.length:Int)<2)))
  (some (((((),CR,(),(),(),CW,(),(),(),(),Bc,()),2,()),()),(b0,b1,b2,b3,b4,(),b6,b7,b5,())))
 (cond ((u1.1.1==(b3.length:Int)))
  (some (((((),CR,(),(),(),CW,(),(),(),(),Bc,()),2,()),()),(b0,b1,b2,b3,b4,(),b6,b7,b5,())))
 (cond ((decide ((b5.length:Int)>0)))
  (some (((((),CR,(),(),(),CW,(),(),(),(),Bc,()),4,()),()),(b0,b1,b2,b3,b4,(),b6,b7,b5,())))
 ((j7 u1.1.1 (b3.length:Int)).bind fun u5=>
 some (((((),CR,(),(),(),CW,(),(),(),(),Bc,()),0,()),()),(b0,b1,b2,b3,b4,(),b6,b7,[(u5.1.1.1,u5.1.1.2.1,u5.2.1,u5.2.2.1,u5.1.1.2.2.2.2.1,u5.2.2.2.1,())],())))))
abbrev lX:Type:=AEJ×AEG
def Rt(p0:ACt)(p1:Int):Option lX:=
 (Gy (p0.1,p0.2.1,p0.2.2.1,())).bind fun u1=>
 cond (!u1.1.1)
  (some (((((),(),0,()),false,()),()),([],[],())))
 ((O2 (p0.1,p0.2.1,p0.2.2.1,())).bind fun u2=>
 cond (!u2.1.1.2.1)
  ((FA (p0.1,p0.2.1,p0.2.2.1,())).bind fun u3=>
  some (((((),(),u3.1.1.2.2.1,()),false,()),()),(u3.2.1,u3.2.2.1,())))
 ((CN p1 0 30).bind fun u4=>
 cond (!u4.1.1)
  ((FA (p0.1,p0.2.1,p0.2.2.1,())).bind fun u5=>
  some (((((),(),u5.1.1.2.2.1,()),false,()),()),(u5.2.1,u5.2.2.1,())))
 ((MS u2.1.1.1.2.2.1 p1).bind fun u6=>
 some (((((),(),u6.1.1,()),true,()),()),(u2.2.1,u2.2.2.1,())))))
abbrev QS:Type:=ACu×AEa
abbrev T8:Type:=Int->Int->ABR->ABR->Int->ABR->Option QS
def P9(R3:T8)(t1 t6:Int)(AR AE:ABR)(Am:Int)(b1:ABR):Option QS:=
 cond ((decide (t6<(AR.length:Int))))
  ((Gy (AR,AE,Am,())).bind fun u2=>
  cond (u2.1.1)
   (if(0:Int)<=t6/\t6<(AR.length:Int)then(
   (DD ((AR.getD (t6.toNat) (0,0,false,[],())).1)).bind fun u4=>
   cond (u4.1.1==t1)
    (if(0:Int)<=t6/\t6<(AR.length:Int)then(
    if b1.length+1<=D8 then(
    R3 t1 (Aa (t6+1)) AR AE Am (b1++[((AR.getD (t6.toNat) (0,0,false,[],())).1,(AR.getD (t6.toNat) (0,0,false,[],())).2.1,(AR.getD (t6.toNat) (0,0,false,[],())).2.2.1,(AR.getD (t6.toNat) (0,0,false,[],())).2.2.2.1,())]))else none)else none)
   (R3 t1 (Aa (t6+1)) AR AE Am b1))else none)
  (some (((),()),(b1,()))))
 (some (((),()),(b1,())))
def JG:Nat->T8
 |0=>fun _ _ _ _ _ _=>none
 |n+1=>P9 (JG n)
def WT(R3:T8)(p0:ACt)(p1:Int):Option QS:=
 R3 p1 0 p0.1 p0.2.1 p0.2.2.1 []
def Um(p0:ACt)(p1:Int):Option QS:=WT (JG Ae) p0 p1
abbrev Qd:Type:=AER×AEH
abbrev UC:Type:=ABR->Int->List Int->Int->Int->Int->List Int->ABR->Bool->List AAC->Int->Int->Bool->List Int->ABR->List AAC->Int->Int->Bool->List Int->ABR->List AAC->Option Qd
def WG(R6:UC)(t3:ABR)(t11:Int)(AR:AAC)(AE Cf Bn:Int)(EM:AAC)(HF:ABR)(Mu:Bool)(EO:List AAC)(bC oJ:Int)(wP:Bool)(b3:AAC)(b4:ABR)(b5:List AAC)(vP vN:Int)(wX:Bool)(b7:AAC)(b8:ABR)(b9:List AAC):Option Qd:=
 cond ((decide (t11<(t3.length:Int))))
  (if(0:Int)<=t11/\t11<(t3.length:Int)then(
  (DD ((t3.getD (t11.toNat) (0,0,false,[],())).1)).bind fun u6=>
  cond (u6.1.1==Bn)
   (if(0:Int)<=t11/\t11<(t3.length:Int)then(
   (RY b8 ((t3.getD (t11.toNat) (0,0,false,[],())).1,(t3.getD (t11.toNat) (0,0,false,[],())).2.1,(t3.getD (t11.toNat) (0,0,false,[],())).2.2.1,(t3.getD (t11.toNat) (0,0,false,[],())).2.2.2.1,())).bind fun u7=>
   R6 t3 (Aa (t11+1)) AR AE Cf Bn EM HF Mu EO bC oJ wP b3 b4 b5 vP vN wX b7 u7.2.1 b9)else none)
  (R6 t3 (Aa (t11+1)) AR AE Cf Bn EM HF Mu EO bC oJ wP b3 b4 b5 vP vN wX b7 b8 b9))else none)
 (cond (Mu)
  ((Ec (Cf,Bn,EM,HF,Mu,EO,())).bind fun u8=>
  some ((((u8.1.1.1,u8.1.1.2.1,(),(),u8.1.1.2.2.2.2.1,(),()),false,()),()),(u8.2.1,u8.2.2.1,u8.2.2.2.1,())))
 ((I6 (AR,AE,()) (vP,vN,b7,b8,wX,b9,())).bind fun u9=>
 cond (!u9.1.1)
  ((Ec (Cf,Bn,EM,HF,Mu,EO,())).bind fun EP=>
  some ((((EP.1.1.1,EP.1.1.2.1,(),(),EP.1.1.2.2.2.2.1,(),()),false,()),()),(EP.2.1,EP.2.2.1,EP.2.2.2.1,())))
 (some ((((vP,vN,(),(),wX,(),()),true,()),()),(b7,b8,b9,())))))
def Lj:Nat->UC
 |0=>fun _ _ _ _ _ _ _ _ _ _ _ _ _ _ _ _ _ _ _ _ _ _=>none
 |n+1=>WG (Lj n)
def V1(R6:UC)(p0:ABU)(p1:ABr)(p2:Int)(p3:ABR):Option Qd:=
 (I6 (p0.1,p0.2.1,()) (p1.1,p1.2.1,p1.2.2.1,p1.2.2.2.1,p1.2.2.2.2.1,p1.2.2.2.2.2.1,())).bind fun u1=>
 cond (!u1.1.1)
  (some ((((0,0,(),(),false,(),()),false,()),()),([],[],[],())))
 ((Ec (p1.1,p1.2.1,p1.2.2.1,p1.2.2.2.1,p1.2.2.2.2.1,p1.2.2.2.2.2.1,())).bind fun u2=>
 (Ma u2.2.1 p2).bind fun u3=>
 R6 p3 0 p0.1 p0.2.1 p1.1 p1.2.1 p1.2.2.1 p1.2.2.2.1 p1.2.2.2.2.1 p1.2.2.2.2.2.1 0 0 false [] [] [] u2.1.1.1 u2.1.1.2.1 u2.1.1.2.2.2.2.1 u3.2.1 u2.2.2.1 u2.2.2.2.1)
def UK(p0:ABU)(p1:ABr)(p2:Int)(p3:ABR):Option Qd:=V1 (Lj Ae) p0 p1 p2 p3
abbrev pW:Type:=AED×AEI
def Wb(CR CW:Int)(Bc:Bool)(p1:ADN)(b0:AAC)(b1:AAT)(b2:AAC)(b3:AAU)(b4:ABO)(b5:ABP)(b6:AAq)(b7:AA1):Option pW:=
 cond (((b5.length:Int)==0))
  (some (((((),CR,(),(),(),CW,(),(),(),(),Bc,()),2,()),()),(b0,b1,b2,b3,b4,b5,b6,b7,())))
 (if(0:Int)<=(0:Int)/\(0:Int)<(b5.length:Int)then(
 (Hn (b0,CR,b1,b2,b3,CW,b4,b5,b6,b7,Bc,()) p1.2.1).bind fun u2=>
 cond (u2.1.1 !=0)
  (some (((((),CR,(),(),(),CW,(),(),(),(),Bc,()),u2.1.1,()),()),(b0,b1,b2,b3,b4,b5,b6,b7,())))
 ((Cn (b3,CW,()) ((b5.getD 0 (0,0,[],[],false,[],())).2.1)).bind fun u4=>
 (DV u4.2.1 p1.2.1).bind fun u5=>
 cond (!u5.1.1)
  (some (((((),CR,(),(),(),CW,(),(),(),(),Bc,()),2,()),()),(b0,b1,b2,b3,b4,b5,b6,b7,())))
 (if(0:Int)<=p1.2.1/\p1.2.1<(b1.length:Int)then(
 (Rt ((b1.getD (p1.2.1.toNat) ([],[],0,())).1,(b1.getD (p1.2.1.toNat) ([],[],0,())).2.1,(b1.getD (p1.2.1.toNat) ([],[],0,())).2.2.1,()) (Aa (((b5.getD 0 (0,0,[],[],false,[],())).1)-1))).bind fun u7=>
 (Um (u7.2.1,u7.2.2.1,u7.1.1.1.2.2.1,()) ((b5.getD 0 (0,0,[],[],false,[],())).2.1)).bind fun u9=>
 (UK (b0,CR,()) ((b5.getD 0 (0,0,[],[],false,[],())).1,(b5.getD 0 (0,0,[],[],false,[],())).2.1,(b5.getD 0 (0,0,[],[],false,[],())).2.2.1,(b5.getD 0 (0,0,[],[],false,[],())).2.2.2.1,(b5.getD 0 (0,0,[],[],false,[],())).2.2.2.2.1,(b5.getD 0 (0,0,[],[],false,[],())).2.2.2.2.2.1,()) p1.2.1 u9.2.1).bind fun EP=>
 cond (!u7.1.1.2.1)
  (some (((((),CR,(),(),(),CW,(),(),(),(),Bc,()),4,()),()),(b0,b1,b2,b3,b4,b5,b6,b7,())))
 (cond (!EP.1.1.2.1)
  (some (((((),CR,(),(),(),CW,(),(),(),(),Bc,()),4,()),()),(b0,b1,b2,b3,b4,b5,b6,b7,())))
 (if(0:Int)<=p1.2.1/\p1.2.1<(b1.length:Int)then(
 if(0:Int)<=(0:Int)/\(0:Int)<(b5.length:Int)then(
 some (((((),CR,(),(),(),CW,(),(),(),(),Bc,()),0,()),()),(b0,(b1.set (p1.2.1.toNat) (u7.2.1,u7.2.2.1,u7.1.1.1.2.2.1,())),b2,b3,b4,(b5.set 0 (EP.1.1.1.1,EP.1.1.1.2.1,EP.2.1,EP.2.2.1,EP.1.1.1.2.2.2.2.1,EP.2.2.2.1,())),b6,b7,())))else none)else none)))else none)))else none)
abbrev sO:Type:=ACu×AC2
def Kh(p0 p1:AAC):Option sO:=
 (I_ p0 p1).bind fun u1=>
 (I_ p0 u1.2.1).bind fun u2=>
 some (((),()),(u2.2.1,()))
abbrev sP:Type:=ABq×Unit
def Kj(p0:ABU)(p1 p2:AAC):Option sP:=
 (Fa (p0.1,p0.2.1,()) p1).bind fun u1=>
 cond (!u1.1.1)
  (some ((false,()),()))
 ((G7 (p0.1,p0.2.1,()) p2).bind fun u2=>
 cond (!u2.1.1)
  (some ((false,()),()))
 ((I_ p2 p1).bind fun u3=>
 cond (decide ((u3.2.1.length:Int)>0))
  (some ((false,()),()))
 ((I_ p1 p2).bind fun u5=>
 (VI (p0.1,p0.2.1,()) u5.2.1).bind fun u6=>
 some (((decide (u6.1.1<p0.2.1)),()),()))))
abbrev Qe:Type:=AER×AEH
abbrev Tv:Type:=Int->Int->Int->List Int->ABR->Bool->List AAC->Int->Int->Bool->List Int->ABR->List AAC->Int->Int->Bool->List Int->ABR->List AAC->Option Qe
def WO(R8:Tv)(t9 AR AE:Int)(Am:AAC)(CE:ABR)(Cd:Bool)(AS:List AAC)(Cf Bn:Int)(Mu:Bool)(b2:AAC)(b3:ABR)(b4:List AAC)(AFR AGZ:Int)(AF_:Bool)(b6:AAC)(b7:ABR)(b8:List AAC):Option Qe:=
 (RO (AR,AE,Am,CE,Cd,AS,())).bind fun u5=>
 cond (decide (t9<u5.1.1))
  (if b8.length+1<=D8 then(
  R8 (Aa (t9+1)) AR AE Am CE Cd AS Cf Bn Mu b2 b3 b4 AFR AGZ AF_ b6 b7 (b8++[[]]))else none)
 (some ((((AFR,AGZ,(),(),AF_,(),()),true,()),()),(b6,b7,b8,())))
def La:Nat->Tv
 |0=>fun _ _ _ _ _ _ _ _ _ _ _ _ _ _ _ _ _ _ _=>none
 |n+1=>WO (La n)
def V5(R8:Tv)(p0:ABU)(p1:ABr)(p2:AAC):Option Qe:=
 (I6 (p0.1,p0.2.1,()) (p1.1,p1.2.1,p1.2.2.1,p1.2.2.2.1,p1.2.2.2.2.1,p1.2.2.2.2.2.1,())).bind fun u1=>
 cond (!u1.1.1)
  (some ((((0,0,(),(),false,(),()),false,()),()),([],[],[],())))
 ((Ec (p1.1,p1.2.1,p1.2.2.1,p1.2.2.2.1,p1.2.2.2.2.1,p1.2.2.2.2.2.1,())).bind fun u2=>
 cond (p1.2.2.2.2.1)
  (some ((((u2.1.1.1,u2.1.1.2.1,(),(),u2.1.1.2.2.2.2.1,(),()),false,()),()),(u2.2.1,u2.2.2.1,u2.2.2.2.1,())))
 ((Kh p1.2.2.1 p2).bind fun u3=>
 (Kj (p0.1,p0.2.1,()) p2 u3.2.1).bind fun u4=>
 cond (!u4.1.1)
  (some ((((u2.1.1.1,u2.1.1.2.1,(),(),u2.1.1.2.2.2.2.1,(),()),false,()),()),(u2.2.1,u2.2.2.1,u2.2.2.2.1,())))
 (R8 0 p1.1 p1.2.1 p1.2.2.1 p1.2.2.2.1 p1.2.2.2.2.1 p1.2.2.2.2.2.1 0 0 false [] [] [] u2.1.1.1 u2.1.1.2.1 true u2.2.1 u2.2.2.1 u2.2.2.2.1)))
def UL(p0:ABU)(p1:ABr)(p2:AAC):Option Qe:=V5 (La Ae) p0 p1 p2
abbrev qY:Type:=AED×AEI
def Wm(CR CW:Int)(Bc:Bool)(b0:AAC)(b1:AAT)(b2:AAC)(b3:AAU)(b4:ABO)(b5:ABP)(b6:AAq)(b7:AA1):Option qY:=
 cond (((b5.length:Int)==0))
  (some (((((),CR,(),(),(),CW,(),(),(),(),Bc,()),2,()),()),(b0,b1,b2,b3,b4,b5,b6,b7,())))
 (if(0:Int)<=(0:Int)/\(0:Int)<(b5.length:Int)then(
 if(0:Int)<=(0:Int)/\(0:Int)<(b5.length:Int)then(
 (Cn (b3,CW,()) ((b5.getD 0 (0,0,[],[],false,[],())).2.1)).bind fun u3=>
 (UL (b0,CR,()) ((b5.getD 0 (0,0,[],[],false,[],())).1,(b5.getD 0 (0,0,[],[],false,[],())).2.1,(b5.getD 0 (0,0,[],[],false,[],())).2.2.1,(b5.getD 0 (0,0,[],[],false,[],())).2.2.2.1,(b5.getD 0 (0,0,[],[],false,[],())).2.2.2.2.1,(b5.getD 0 (0,0,[],[],false,[],())).2.2.2.2.2.1,()) u3.2.1).bind fun u4=>
 cond (!u4.1.1.2.1)
  (some (((((),CR,(),(),(),CW,(),(),(),(),Bc,()),4,()),()),(b0,b1,b2,b3,b4,b5,b6,b7,())))
 (if(0:Int)<=(0:Int)/\(0:Int)<(b5.length:Int)then(
 some (((((),CR,(),(),(),CW,(),(),(),(),Bc,()),0,()),()),(b0,b1,b2,b3,b4,(b5.set 0 (u4.1.1.1.1,u4.1.1.1.2.1,u4.2.1,u4.2.2.1,u4.1.1.1.2.2.2.2.1,u4.2.2.2.1,())),b6,b7,())))else none))else none)else none)
abbrev s8:Type:=AED×AEI
def Yr(CR CW:Int)(Bc:Bool)(p1:ADN)(b0:AAC)(b1:AAT)(b2:AAC)(b3:AAU)(b4:ABO)(b5:ABP)(b6:AAq)(b7:AA1):Option s8:=
 cond (((b5.length:Int)==0))
  (some (((((),CR,(),(),(),CW,(),(),(),(),Bc,()),2,()),()),(b0,b1,b2,b3,b4,b5,b6,b7,())))
 (if(0:Int)<=(0:Int)/\(0:Int)<(b5.length:Int)then(
 (E9 ((b5.getD 0 (0,0,[],[],false,[],())).1,(b5.getD 0 (0,0,[],[],false,[],())).2.1,(b5.getD 0 (0,0,[],[],false,[],())).2.2.1,(b5.getD 0 (0,0,[],[],false,[],())).2.2.2.1,(b5.getD 0 (0,0,[],[],false,[],())).2.2.2.2.1,(b5.getD 0 (0,0,[],[],false,[],())).2.2.2.2.2.1,()) p1.2.2.1).bind fun u2=>
 cond (!u2.1.1.2.1)
  (some (((((),CR,(),(),(),CW,(),(),(),(),Bc,()),2,()),()),(b0,b1,b2,b3,b4,b5,b6,b7,())))
 ((Hn (b0,CR,b1,b2,b3,CW,b4,b5,b6,b7,Bc,()) p1.2.2.2.1).bind fun u3=>
 cond (u3.1.1 !=0)
  (some (((((),CR,(),(),(),CW,(),(),(),(),Bc,()),u3.1.1,()),()),(b0,b1,b2,b3,b4,b5,b6,b7,())))
 (if(0:Int)<=(0:Int)/\(0:Int)<(b5.length:Int)then(
 (Cn (b3,CW,()) ((b5.getD 0 (0,0,[],[],false,[],())).2.1)).bind fun u5=>
 (DV u5.2.1 p1.2.2.2.1).bind fun u6=>
 cond (!u6.1.1)
  (some (((((),CR,(),(),(),CW,(),(),(),(),Bc,()),2,()),()),(b0,b1,b2,b3,b4,b5,b6,b7,())))
 (if(0:Int)<=p1.2.2.2.1/\p1.2.2.2.1<(b1.length:Int)then(
 (QH ((b1.getD (p1.2.2.2.1.toNat) ([],[],0,())).1,(b1.getD (p1.2.2.2.1.toNat) ([],[],0,())).2.1,(b1.getD (p1.2.2.2.1.toNat) ([],[],0,())).2.2.1,()) (u2.1.1.1.1,u2.1.1.1.2.1,u2.1.1.1.2.2.1,u2.1.1.1.2.2.2.1,())).bind fun u7=>
 cond (!u7.1.1.2.1)
  (some (((((),CR,(),(),(),CW,(),(),(),(),Bc,()),4,()),()),(b0,b1,b2,b3,b4,b5,b6,b7,())))
 (if(0:Int)<=p1.2.2.2.1/\p1.2.2.2.1<(b1.length:Int)then(
 some (((((),CR,(),(),(),CW,(),(),(),(),Bc,()),0,()),()),(b0,(b1.set (p1.2.2.2.1.toNat) (u7.2.1,u7.2.2.1,u7.1.1.1.2.2.1,())),b2,b3,b4,b5,b6,b7,())))else none))else none))else none)))else none)
abbrev Pd:Type:=ABq×Unit
abbrev SU:Type:=Int->List Int->Int->Int->Int->List Int->ABR->Bool->List AAC->Option Pd
def Uz(R4:SU)(t5:Int)(AR:AAC)(AE Cf Bn:Int)(EM:AAC)(HF:ABR)(Mu:Bool)(EO:List AAC):Option Pd:=
 cond ((decide (t5<(EO.length:Int))))
  (if(0:Int)<=t5/\t5<(EO.length:Int)then(
  (Fa (AR,AE,()) (EO.getD (t5.toNat) [])).bind fun u3=>
  cond (!u3.1.1)
   (some ((false,()),()))
  (R4 (Aa (t5+1)) AR AE Cf Bn EM HF Mu EO))else none)
 (some ((true,()),()))
def Kn:Nat->SU
 |0=>fun _ _ _ _ _ _ _ _ _=>none
 |n+1=>Uz (Kn n)
def VP(R4:SU)(p0:ABU)(p1:ABr):Option Pd:=
 (I6 (p0.1,p0.2.1,()) (p1.1,p1.2.1,p1.2.2.1,p1.2.2.2.1,p1.2.2.2.2.1,p1.2.2.2.2.2.1,())).bind fun u1=>
 cond (!u1.1.1)
  (some ((false,()),()))
 (cond (!p1.2.2.2.2.1)
  (some ((false,()),()))
 (R4 0 p0.1 p0.2.1 p1.1 p1.2.1 p1.2.2.1 p1.2.2.2.1 p1.2.2.2.2.1 p1.2.2.2.2.2.1))
def Rz(p0:ABU)(p1:ABr):Option Pd:=VP (Kn Ae) p0 p1
abbrev oZ:Type:=AFs×AEP
def UM(p0:ABU)(p1:ABy)(p2 p3:Int):Option oZ:=
 (Mn (p0.1,p0.2.1,()) (p1.1,p1.2.1,())).bind fun u1=>
 cond (!u1.1.1)
  (some (((((),0,()),false,()),()),([],())))
 ((GR (p1.1,p1.2.1,())).bind fun u2=>
 (Jc (p1.1,p1.2.1,())).bind fun u3=>
 cond ((p2 !=(p1.1.length:Int)))
  (some (((((),u2.1.1.2.1,()),false,()),()),(u2.2.1,())))
 (cond (u3.1.1==0)
  (some (((((),u2.1.1.2.1,()),false,()),()),(u2.2.1,())))
 (cond (p2==u3.1.1)
  (some (((((),u2.1.1.2.1,()),false,()),()),(u2.2.1,())))
 ((CN p3 0 60).bind fun u5=>
 cond (!u5.1.1)
  (some (((((),u2.1.1.2.1,()),false,()),()),(u2.2.1,())))
 (if(0:Int)<=Aa (u3.1.1-1)/\Aa (u3.1.1-1)<(u2.2.1.length:Int)then(
 let x6:AAU:=(u2.2.1.set ((Aa (u3.1.1-1)).toNat) ((u2.2.1.getD ((Aa (u3.1.1-1)).toNat) ([],false,0,())).1,true,(u2.2.1.getD ((Aa (u3.1.1-1)).toNat) ([],false,0,())).2.2.1,()))
 if(0:Int)<=Aa (u3.1.1-1)/\Aa (u3.1.1-1)<(x6.length:Int)then(
 some (((((),u2.1.1.2.1,()),true,()),()),((x6.set ((Aa (u3.1.1-1)).toNat) ((x6.getD ((Aa (u3.1.1-1)).toNat) ([],false,0,())).1,(x6.getD ((Aa (u3.1.1-1)).toNat) ([],false,0,())).2.1,p3,())),())))else none)else none)))))
abbrev dE:Type:=AED×(List Int×AAT×List Int×Unit×ABO×Unit×AAq×AA1×AAU×ABP×Unit)
def US(CR CW:Int)(Bc:Bool)(b0:AAC)(b1:AAT)(b2:AAC)(b3:AAU)(b4:ABO)(b5:ABP)(b6:AAq)(b7:AA1):Option dE:=
 cond (((b5.length:Int)==0))
  (some (((((),CR,(),(),(),CW,(),(),(),(),Bc,()),2,()),()),(b0,b1,b2,(),b4,(),b6,b7,b3,b5,())))
 (if(0:Int)<=(0:Int)/\(0:Int)<(b5.length:Int)then(
 (Rz (b0,CR,()) ((b5.getD 0 (0,0,[],[],false,[],())).1,(b5.getD 0 (0,0,[],[],false,[],())).2.1,(b5.getD 0 (0,0,[],[],false,[],())).2.2.1,(b5.getD 0 (0,0,[],[],false,[],())).2.2.2.1,(b5.getD 0 (0,0,[],[],false,[],())).2.2.2.2.1,(b5.getD 0 (0,0,[],[],false,[],())).2.2.2.2.2.1,())).bind fun u2=>
 cond (!u2.1.1)
  (some (((((),CR,(),(),(),CW,(),(),(),(),Bc,()),5,()),()),(b0,b1,b2,(),b4,(),b6,b7,b3,b5,())))
 (if(0:Int)<=(0:Int)/\(0:Int)<(b5.length:Int)then(
 if(0:Int)<=(0:Int)/\(0:Int)<(b5.length:Int)then(
 (UM (b0,CR,()) (b3,CW,()) ((b5.getD 0 (0,0,[],[],false,[],())).1) (((b5.getD 0 (0,0,[],[],false,[],())).2.2.2.2.2.1).length:Int)).bind fun u5=>
 cond (!u5.1.1.2.1)
  (some (((((),CR,(),(),(),CW,(),(),(),(),Bc,()),4,()),()),(b0,b1,b2,(),b4,(),b6,b7,b3,b5,())))
 (some (((((),CR,(),(),(),u5.1.1.1.2.1,(),(),(),(),Bc,()),0,()),()),(b0,b1,b2,(),b4,(),b6,b7,u5.2.1,[],()))))else none)else none))else none)
abbrev qh:Type:=AFs×AEP
def Wo(p0:ABU)(p1:ABy)(p2:Int):Option qh:=
 (Mn (p0.1,p0.2.1,()) (p1.1,p1.2.1,())).bind fun u1=>
 cond (!u1.1.1)
  (some (((((),0,()),false,()),()),([],())))
 ((GR (p1.1,p1.2.1,())).bind fun u2=>
 (Hs p2).bind fun u3=>
 cond (!u3.1.1)
  (some (((((),u2.1.1.2.1,()),false,()),()),(u2.2.1,())))
 ((DD p2).bind fun u4=>
 cond ((decide (u4.1.1>(p1.1.length:Int))))
  (some (((((),u2.1.1.2.1,()),false,()),()),(u2.2.1,())))
 ((MS u2.1.1.2.1 p2).bind fun u6=>
 some (((((),u6.1.1,()),true,()),()),(u2.2.1,())))))
abbrev Nz:Type:=ABu×Unit
abbrev Q8:Type:=Int->Int->AB_->Option Nz
def Ta(R2:Q8)(t3 AR:Int)(AE:AB_):Option Nz:=
 cond ((decide (t3<(AE.length:Int))))
  (if(0:Int)<=t3/\t3<(AE.length:Int)then(
  cond (((AE.getD (t3.toNat) ([],[],false,())).2.2.1))
   (R2 (Aa (t3+1)) AR AE)
  (some ((t3,()),())))else none)
 (some ((t3,()),()))
def Jz:Nat->Q8
 |0=>fun _ _ _=>none
 |n+1=>Ta (Jz n)
def dX(R2:Q8)(p0:ACG):Option Nz:=
 R2 0 p0.1 p0.2.1
def Vt(p0:ACG):Option Nz:=dX (Jz Ae) p0
abbrev UP:Type:=ABu×Unit
abbrev XJ:Type:=Int->Int->List Int->Int->AAT->List Int->AAU->Int->ABO->ABP->AAq->AA1->Bool->Option UP
def ZO(R2:XJ)(t1 t5:Int)(AR:AAC)(AE:Int)(Am:AAT)(CE:AAC)(Cd:AAU)(AS:Int)(CZ:ABO)(CS:ABP)(CU:AAq)(C9:AA1)(AK:Bool):Option UP:=
 cond ((decide (t5<(CZ.length:Int))))
  (if(0:Int)<=t5/\t5<(CZ.length:Int)then(
  cond (((CZ.getD (t5.toNat) (0,[],())).1)==t1)
   (if(0:Int)<=t5/\t5<(CZ.length:Int)then(
   (Vt ((CZ.getD (t5.toNat) (0,[],())).1,(CZ.getD (t5.toNat) (0,[],())).2.1,())).bind fun u3=>
   some ((u3.1.1,()),()))else none)
  (R2 t1 (Aa (t5+1)) AR AE Am CE Cd AS CZ CS CU C9 AK))else none)
 (some ((0,()),()))
def Oe:Nat->XJ
 |0=>fun _ _ _ _ _ _ _ _ _ _ _ _ _=>none
 |n+1=>ZO (Oe n)
def jl(R2:XJ)(p0:ABg)(p1:Int):Option UP:=
 R2 p1 0 p0.1 p0.2.1 p0.2.2.1 p0.2.2.2.1 p0.2.2.2.2.1 p0.2.2.2.2.2.1 p0.2.2.2.2.2.2.1 p0.2.2.2.2.2.2.2.1 p0.2.2.2.2.2.2.2.2.1 p0.2.2.2.2.2.2.2.2.2.1 p0.2.2.2.2.2.2.2.2.2.2.1
def eS(p0:ABg)(p1:Int):Option UP:=jl (Oe Ae) p0 p1
abbrev OA:Type:=ACu×(AC_×Unit)
abbrev Q7:Type:=Int->List Int->Int->AAT->List Int->AAU->Int->ABO->ABP->AAq->AA1->Bool->Int->Int->ADS->AC_->List Int->Option OA
def Tj(R4:Q7)(t9:Int)(AR:AAC)(AE:Int)(Am:AAT)(CE:AAC)(Cd:AAU)(AS:Int)(CZ:ABO)(CS:ABP)(CU:AAq)(C9:AA1)(AK:Bool)(Cf Bn:Int)(EM:ADS)(b2:AC_)(b3:AAC):Option OA:=
 cond ((decide (t9<(b3.length:Int))))
  (if(0:Int)<=t9/\t9<(b3.length:Int)then(
  (Hn (AR,AE,Am,CE,Cd,AS,CZ,CS,CU,C9,AK,()) (b3.getD (t9.toNat) 0)).bind fun u4=>
  cond (u4.1.1 !=0)
   (R4 (Aa (t9+1)) AR AE Am CE Cd AS CZ CS CU C9 AK Cf Bn EM b2 b3)
  (if(0:Int)<=t9/\t9<(b3.length:Int)then(
  let x5:Int:=(b3.getD (t9.toNat) 0)
  if(0:Int)<=x5/\x5<(Am.length:Int)then(
  (Ej Cf Bn).bind fun u6=>
  (Hd ((Am.getD (x5.toNat) ([],[],0,())).1) u6.1.1).bind fun u7=>
  if(0:Int)<=t9/\t9<(b3.length:Int)then(
  if b2.length+1<=D8 then(
  R4 (Aa (t9+1)) AR AE Am CE Cd AS CZ CS CU C9 AK Cf Bn EM (b2++[((b3.getD (t9.toNat) 0),u7.1.1.2.1,u7.1.1.1.1,u7.1.1.1.2.1,u7.1.1.1.2.2.1,u7.1.1.1.2.2.2.1,())]) b3)else none)else none)else none)else none))else none)
 (some (((),()),(b2,())))
def Ja:Nat->Q7
 |0=>fun _ _ _ _ _ _ _ _ _ _ _ _ _ _ _ _ _=>none
 |n+1=>Tj (Ja n)
def TL(R4:Q7)(p0:ABg)(p1:ADW)(p2:Int):Option OA:=
 (OI p2).bind fun u1=>
 R4 0 p0.1 p0.2.1 p0.2.2.1 p0.2.2.2.1 p0.2.2.2.2.1 p0.2.2.2.2.2.1 p0.2.2.2.2.2.2.1 p0.2.2.2.2.2.2.2.1 p0.2.2.2.2.2.2.2.2.1 p0.2.2.2.2.2.2.2.2.2.1 p0.2.2.2.2.2.2.2.2.2.2.1 p1.1 p1.2.1 p1.2.2.1 [] u1.2.1
def Qm(p0:ABg)(p1:ADW)(p2:Int):Option OA:=TL (Ja Ae) p0 p1 p2
abbrev Qn:Type:=((Unit×Bool×Unit)×Unit)×AC2
abbrev Tt:Type:=AC_->Int->List Int->Int->List Int->Option Qn
def WJ(R3:Tt)(t1:AC_)(t7:Int)(AR:AAC)(AE:Int)(b1:AAC):Option Qn:=
 cond ((decide (t7<(t1.length:Int))))
  (if(0:Int)<=t7/\t7<(t1.length:Int)then(
  if b1.length+1<=D8 then(
  R3 t1 (Aa (t7+1)) AR AE (b1++[((t1.getD (t7.toNat) (0,false,0,0,false,[],())).1)]))else none)else none)
 ((G7 (AR,AE,()) b1).bind fun u3=>
 some ((((),u3.1.1,()),()),(b1,())))
def LW:Nat->Tt
 |0=>fun _ _ _ _ _=>none
 |n+1=>WJ (LW n)
def fp(R3:Tt)(p0:ABU)(p1:AC_):Option Qn:=
 R3 p1 0 p0.1 p0.2.1 []
def aG(p0:ABU)(p1:AC_):Option Qn:=fp (LW Ae) p0 p1
abbrev rM:Type:=AFv×AEo
def Io(p0:ADW)(p1:AFK)(p2 p3:Int):Option rM:=
 (CY (p0.1,p0.2.1,p0.2.2.1,())).bind fun u1=>
 if u1.2.1.length+1<=D8 then(
 some (((p2,p3,(),()),()),((u1.2.1++[(p1.1,p1.2.1,p1.2.2.1,())]),())))else none
abbrev SK:Type:=(AFK×Unit)×Unit
abbrev Vj:Type:=List Int->Int->AC_->Bool->Int->Int->Int->List UInt8->Int->Int->Bool->List UInt8->Option SK
def X2(R4:Vj)(t0:AAC)(t1:Int)(t2:AC_)(t8:Bool)(t9 AR AE:Int)(Am:ACB)(Cf Bn:Int)(EM:Bool)(HF:ACB):Option SK:=
 cond ((decide (t9<(t2.length:Int))))
  (if(0:Int)<=t9/\t9<(t2.length:Int)then(
  cond (!((t2.getD (t9.toNat) (0,false,0,0,false,[],())).2.1))
   (R4 t0 t1 t2 t8 (Aa (t9+1)) AR AE Am Cf Bn EM HF)
  ((DV t0 ((t2.getD (t9.toNat) (0,false,0,0,false,[],())).1)).bind fun u4=>
  cond (!u4.1.1)
   (R4 t0 t1 t2 t8 (Aa (t9+1)) AR AE Am Cf Bn EM HF)
  ((Mg ((t2.getD (t9.toNat) (0,false,0,0,false,[],())).2.2.1,(t2.getD (t9.toNat) (0,false,0,0,false,[],())).2.2.2.1,(t2.getD (t9.toNat) (0,false,0,0,false,[],())).2.2.2.2.1,(t2.getD (t9.toNat) (0,false,0,0,false,[],())).2.2.2.2.2.1,())).bind fun u5=>
  cond (!u5.1.1)
   (R4 t0 t1 t2 t8 (Aa (t9+1)) AR AE Am Cf Bn EM HF)
  (cond (((t2.getD (t9.toNat) (0,false,0,0,false,[],())).2.2.1) !=t1)
   (R4 t0 t1 t2 t8 (Aa (t9+1)) AR AE Am Cf Bn EM HF)
  (cond (!t8)
   ((RI ((t2.getD (t9.toNat) (0,false,0,0,false,[],())).2.2.1,(t2.getD (t9.toNat) (0,false,0,0,false,[],())).2.2.2.1,(t2.getD (t9.toNat) (0,false,0,0,false,[],())).2.2.2.2.1,(t2.getD (t9.toNat) (0,false,0,0,false,[],())).2.2.2.2.2.1,()) ((t2.getD (t9.toNat) (0,false,0,0,false,[],())).2.2.1,(t2.getD (t9.toNat) (0,false,0,0,false,[],())).2.2.2.1,(t2.getD (t9.toNat) (0,false,0,0,false,[],())).2.2.2.2.1,(t2.getD (t9.toNat) (0,false,0,0,false,[],())).2.2.2.2.2.1,())).bind fun u7=>
   R4 t0 t1 t2 true (Aa (t9+1)) AR AE Am u7.1.1.1 u7.1.1.2.1 u7.1.1.2.2.1 u7.1.1.2.2.2.1)
  ((RI (Cf,Bn,EM,HF,()) ((t2.getD (t9.toNat) (0,false,0,0,false,[],())).2.2.1,(t2.getD (t9.toNat) (0,false,0,0,false,[],())).2.2.2.1,(t2.getD (t9.toNat) (0,false,0,0,false,[],())).2.2.2.2.1,(t2.getD (t9.toNat) (0,false,0,0,false,[],())).2.2.2.2.2.1,())).bind fun u8=>
  R4 t0 t1 t2 true (Aa (t9+1)) AR AE Am u8.1.1.1 u8.1.1.2.1 u8.1.1.2.2.1 u8.1.1.2.2.2.1))))))else none)
 (cond (!t8)
  (some (((3,t1,[],()),()),()))
 (cond (EM)
  (some (((2,t1,[],()),()),()))
 (some (((1,t1,HF,()),()),()))))
def ND:Nat->Vj
 |0=>fun _ _ _ _ _ _ _ _ _ _ _ _=>none
 |n+1=>X2 (ND n)
def ig(R4:Vj)(p0:AAC)(p1:Int)(p2:AC_):Option SK:=
 R4 p0 p1 p2 false 0 0 0 [] 0 0 false []
def Mq(p0:AAC)(p1:Int)(p2:AC_):Option SK:=ig (ND Ae) p0 p1 p2
abbrev Zn:Type:=(AHP×Unit)×AEo
def QQ(p0:ABU)(p1:ABy)(p2:Int)(p3:ADW)(p4:AC_):Option Zn:=
 (aG (p0.1,p0.2.1,()) p4).bind fun u1=>
 (Mn (p0.1,p0.2.1,()) (p1.1,p1.2.1,())).bind fun u2=>
 cond (!u2.1.1)
  (some ((((0,0,(),()),1,()),()),([],())))
 ((NT (p3.1,p3.2.1,p3.2.2.1,())).bind fun u3=>
 cond (!u3.1.1)
  (some ((((0,0,(),()),1,()),()),([],())))
 (cond (!u1.1.1.2.1)
  (some ((((0,0,(),()),1,()),()),([],())))
 (cond ((decide (p3.1>(p1.1.length:Int))))
  ((CY (p3.1,p3.2.1,p3.2.2.1,())).bind fun u5=>
  some ((((u5.1.1.1,u5.1.1.2.1,(),()),2,()),()),(u5.2.1,())))
 (cond ((p3.2.2.1.length:Int)==120)
  ((CY (p3.1,p3.2.1,p3.2.2.1,())).bind fun u7=>
  some ((((u7.1.1.1,u7.1.1.2.1,(),()),2,()),()),(u7.2.1,())))
 (if(0:Int)<=Aa (p3.1-1)/\Aa (p3.1-1)<(p1.1.length:Int)then(
 (Ej p3.1 p3.2.1).bind fun u8=>
 cond ((decide (p1.2.1>=u8.1.1)))
  ((DD p1.2.1).bind fun EP=>
  (He p1.2.1).bind fun M6=>
  (Io (p3.1,p3.2.1,p3.2.2.1,()) (5,p1.2.1,[],()) EP.1.1 (Aa (M6.1.1+1))).bind fun bX=>
  some ((((bX.1.1.1,bX.1.1.2.1,(),()),0,()),()),(bX.2.1,())))
 (cond (((p1.1.getD ((Aa (p3.1-1)).toNat) ([],false,0,())).2.1))
  (cond ((decide (p3.2.1>((p1.1.getD ((Aa (p3.1-1)).toNat) ([],false,0,())).2.2.1))))
   ((Io (p3.1,p3.2.1,p3.2.2.1,()) (4,Aa (p3.1+1),[],()) (Aa (p3.1+1)) 1).bind fun u16=>
   some ((((u16.1.1.1,u16.1.1.2.1,(),()),0,()),()),(u16.2.1,())))
  (cond (!((p1.1.getD ((Aa (p3.1-1)).toNat) ([],false,0,())).2.1))
   (cond (decide (p3.2.1>p2))
    ((CY (p3.1,p3.2.1,p3.2.2.1,())).bind fun ue=>
    some ((((ue.1.1.1,ue.1.1.2.1,(),()),2,()),()),(ue.2.1,())))
   (cond (decide (p3.2.1>60))
    ((CY (p3.1,p3.2.1,p3.2.2.1,())).bind fun l4=>
    some ((((l4.1.1.1,l4.1.1.2.1,(),()),2,()),()),(l4.2.1,())))
   ((Kh u1.2.1 ((p1.1.getD ((Aa (p3.1-1)).toNat) ([],false,0,())).1)).bind fun TA=>
   (Kj (p0.1,p0.2.1,()) ((p1.1.getD ((Aa (p3.1-1)).toNat) ([],false,0,())).1) TA.2.1).bind fun nT=>
   cond (!nT.1.1)
    ((CY (p3.1,p3.2.1,p3.2.2.1,())).bind fun u22=>
    some ((((u22.1.1.1,u22.1.1.2.1,(),()),3,()),()),(u22.2.1,())))
   ((Mq ((p1.1.getD ((Aa (p3.1-1)).toNat) ([],false,0,())).1) u8.1.1 p4).bind fun aM=>
   (Io (p3.1,p3.2.1,p3.2.2.1,()) (aM.1.1.1,aM.1.1.2.1,aM.1.1.2.2.1,()) p3.1 (Aa (p3.2.1+1))).bind fun YV=>
   some ((((YV.1.1.1,YV.1.1.2.1,(),()),0,()),()),(YV.2.1,()))))))
  (cond (decide (p3.2.1>60))
   ((CY (p3.1,p3.2.1,p3.2.2.1,())).bind fun gU=>
   some ((((gU.1.1.1,gU.1.1.2.1,(),()),2,()),()),(gU.2.1,())))
  ((Kh u1.2.1 ((p1.1.getD ((Aa (p3.1-1)).toNat) ([],false,0,())).1)).bind fun ot=>
  (Kj (p0.1,p0.2.1,()) ((p1.1.getD ((Aa (p3.1-1)).toNat) ([],false,0,())).1) ot.2.1).bind fun wy=>
  cond (!wy.1.1)
   ((CY (p3.1,p3.2.1,p3.2.2.1,())).bind fun YY=>
   some ((((YY.1.1.1,YY.1.1.2.1,(),()),3,()),()),(YY.2.1,())))
  ((Mq ((p1.1.getD ((Aa (p3.1-1)).toNat) ([],false,0,())).1) u8.1.1 p4).bind fun tM=>
  (Io (p3.1,p3.2.1,p3.2.2.1,()) (tM.1.1.1,tM.1.1.2.1,tM.1.1.2.2.1,()) p3.1 (Aa (p3.2.1+1))).bind fun nu=>
  some ((((nu.1.1.1,nu.1.1.2.1,(),()),0,()),()),(nu.2.1,())))))))
 (cond (!((p1.1.getD ((Aa (p3.1-1)).toNat) ([],false,0,())).2.1))
  (cond (decide (p3.2.1>p2))
   ((CY (p3.1,p3.2.1,p3.2.2.1,())).bind fun u32=>
   some ((((u32.1.1.1,u32.1.1.2.1,(),()),2,()),()),(u32.2.1,())))
  (cond (decide (p3.2.1>60))
   ((CY (p3.1,p3.2.1,p3.2.2.1,())).bind fun nP=>
   some ((((nP.1.1.1,nP.1.1.2.1,(),()),2,()),()),(nP.2.1,())))
  ((Kh u1.2.1 ((p1.1.getD ((Aa (p3.1-1)).toNat) ([],false,0,())).1)).bind fun wN=>
  (Kj (p0.1,p0.2.1,()) ((p1.1.getD ((Aa (p3.1-1)).toNat) ([],false,0,())).1) wN.2.1).bind fun u35=>
  cond (!u35.1.1)
   ((CY (p3.1,p3.2.1,p3.2.2.1,())).bind fun u36=>
   some ((((u36.1.1.1,u36.1.1.2.1,(),()),3,()),()),(u36.2.1,())))
  ((Mq ((p1.1.getD ((Aa (p3.1-1)).toNat) ([],false,0,())).1) u8.1.1 p4).bind fun nA=>
  (Io (p3.1,p3.2.1,p3.2.2.1,()) (nA.1.1.1,nA.1.1.2.1,nA.1.1.2.2.1,()) p3.1 (Aa (p3.2.1+1))).bind fun u38=>
  some ((((u38.1.1.1,u38.1.1.2.1,(),()),0,()),()),(u38.2.1,()))))))
 (cond (decide (p3.2.1>60))
  ((CY (p3.1,p3.2.1,p3.2.2.1,())).bind fun u39=>
  some ((((u39.1.1.1,u39.1.1.2.1,(),()),2,()),()),(u39.2.1,())))
 ((Kh u1.2.1 ((p1.1.getD ((Aa (p3.1-1)).toNat) ([],false,0,())).1)).bind fun u40=>
 (Kj (p0.1,p0.2.1,()) ((p1.1.getD ((Aa (p3.1-1)).toNat) ([],false,0,())).1) u40.2.1).bind fun u41=>
 cond (!u41.1.1)
  ((CY (p3.1,p3.2.1,p3.2.2.1,())).bind fun u42=>
  some ((((u42.1.1.1,u42.1.1.2.1,(),()),3,()),()),(u42.2.1,())))
 ((Mq ((p1.1.getD ((Aa (p3.1-1)).toNat) ([],false,0,())).1) u8.1.1 p4).bind fun u43=>
 (Io (p3.1,p3.2.1,p3.2.2.1,()) (u43.1.1.1,u43.1.1.2.1,u43.1.1.2.2.1,()) p3.1 (Aa (p3.2.1+1))).bind fun u44=>
 some ((((u44.1.1.1,u44.1.1.2.1,(),()),0,()),()),(u44.2.1,()))))))))else none)))))
abbrev qo:Type:=AED×AEI
def W3(CR CW:Int)(Bc:Bool)(p1:ADN)(b0:AAC)(b1:AAT)(b2:AAC)(b3:AAU)(b4:ABO)(b5:ABP)(b6:AAq)(b7:AA1):Option qo:=
 (CN p1.2.1 0 1).bind fun u1=>
 cond (!u1.1.1)
  (some (((((),CR,(),(),(),CW,(),(),(),(),Bc,()),2,()),()),(b0,b1,b2,b3,b4,b5,b6,b7,())))
 (if(0:Int)<=p1.2.1/\p1.2.1<(b6.length:Int)then(
 if(0:Int)<=p1.2.1/\p1.2.1<(b6.length:Int)then(
 if(0:Int)<=p1.2.1/\p1.2.1<(b6.length:Int)then(
 (eS (b0,CR,b1,b2,b3,CW,b4,b5,b6,b7,Bc,()) ((b6.getD (p1.2.1.toNat) (0,0,[],())).1)).bind fun u3=>
 (Qm (b0,CR,b1,b2,b3,CW,b4,b5,b6,b7,Bc,()) ((b6.getD (p1.2.1.toNat) (0,0,[],())).1,(b6.getD (p1.2.1.toNat) (0,0,[],())).2.1,(b6.getD (p1.2.1.toNat) (0,0,[],())).2.2.1,()) p1.2.2.1).bind fun u4=>
 (QQ (b0,CR,()) (b3,CW,()) u3.1.1 ((b6.getD (p1.2.1.toNat) (0,0,[],())).1,(b6.getD (p1.2.1.toNat) (0,0,[],())).2.1,(b6.getD (p1.2.1.toNat) (0,0,[],())).2.2.1,()) u4.2.1).bind fun u5=>
 cond (u5.1.1.2.1 !=0)
  (some (((((),CR,(),(),(),CW,(),(),(),(),Bc,()),5,()),()),(b0,b1,b2,b3,b4,b5,b6,b7,())))
 (if(0:Int)<=p1.2.1/\p1.2.1<(b6.length:Int)then(
 some (((((),CR,(),(),(),CW,(),(),(),(),Bc,()),0,()),()),(b0,b1,b2,b3,b4,b5,(b6.set (p1.2.1.toNat) (u5.1.1.1.1,u5.1.1.1.2.1,u5.2.1,())),b7,())))else none))else none)else none)else none)
abbrev Oo:Type:=AED×(List Int×AAT×List Int×AAU×Unit×ABP×AAq×AA1×ABO×Unit)
abbrev Vk:Type:=Int->List Int->AAT->List Int->AAU->ABO->ABP->AAq->AA1->Int->Int->Bool->Int->Int->Int->Int->List UInt8->Int->Int->Bool->List Int->AAT->List Int->AAU->ABO->ABP->AAq->AA1->ABO->Option Oo
def XW(R5:Vk)(t7:Int)(b0:AAC)(b1:AAT)(b2:AAC)(b3:AAU)(b4:ABO)(b5:ABP)(b6:AAq)(b7:AA1)(Dq D5:Int)(CT:Bool)(jT EE eF AWQ:Int)(AWR:ACB)(Dy Et:Int)(DH:Bool)(GD:AAC)(D6:AAT)(Gk:AAC)(Gi:AAU)(EW:ABO)(Eu:ABP)(Fi:AAq)(TB:AA1)(wF:ABO):Option Oo:=
 cond ((decide (t7<(b4.length:Int))))
  (cond (t7 !=EE)
   (if(0:Int)<=t7/\t7<(b4.length:Int)then(
   if wF.length+1<=D8 then(
   R5 (Aa (t7+1)) b0 b1 b2 b3 b4 b5 b6 b7 Dq D5 CT jT EE eF AWQ AWR Dy Et DH GD D6 Gk Gi EW Eu Fi TB (wF++[((b4.getD (t7.toNat) (0,[],())).1,(b4.getD (t7.toNat) (0,[],())).2.1,())]))else none)else none)
  (R5 (Aa (t7+1)) b0 b1 b2 b3 b4 b5 b6 b7 Dq D5 CT jT EE eF AWQ AWR Dy Et DH GD D6 Gk Gi EW Eu Fi TB wF))
 (some (((((),Dq,(),(),(),D5,(),(),(),(),CT,()),0,()),()),(b0,b1,b2,b3,(),b5,b6,b7,wF,())))
def My:Nat->Vk
 |0=>fun _ _ _ _ _ _ _ _ _ _ _ _ _ _ _ _ _ _ _ _ _ _ _ _ _ _ _ _ _=>none
 |n+1=>XW (My n)
def Xb(R5:Vk)(CR CW:Int)(Bc:Bool)(p1:ADN)(b0:AAC)(b1:AAT)(b2:AAC)(b3:AAU)(b4:ABO)(b5:ABP)(b6:AAq)(b7:AA1):Option Oo:=
 (MB (b0,CR,b1,b2,b3,CW,b4,b5,b6,b7,Bc,()) p1.2.1).bind fun u1=>
 cond (!u1.1.1)
  (some (((((),CR,(),(),(),CW,(),(),(),(),Bc,()),2,()),()),(b0,b1,b2,b3,(),b5,b6,b7,b4,())))
 (R5 0 b0 b1 b2 b3 b4 b5 b6 b7 CR CW Bc p1.1 p1.2.1 p1.2.2.1 p1.2.2.2.1 p1.2.2.2.2.1 0 0 false [] [] [] [] [] [] [] [] [])
def Wp(CR CW:Int)(Bc:Bool)(p1:ADN)(b0:AAC)(b1:AAT)(b2:AAC)(b3:AAU)(b4:ABO)(b5:ABP)(b6:AAq)(b7:AA1):Option Oo:=Xb (My Ae) CR CW Bc p1 b0 b1 b2 b3 b4 b5 b6 b7
abbrev Po:Type:=AEJ×AEG
abbrev Sp:Type:=Int->Int->ABR->ABR->Int->Int->ABR->ABR->Int->ABR->ABR->Option Po
def Ut(R8:Sp)(t1 t7:Int)(AR AE:ABR)(Am EM:Int)(b2 b3:ABR)(bf:Int)(b5 b6:ABR):Option Po:=
 cond ((decide (t7<(AR.length:Int))))
  (if(0:Int)<=t7/\t7<(AR.length:Int)then(
  cond (decide (((AR.getD (t7.toNat) (0,0,false,[],())).1)>t1))
   (if(0:Int)<=t7/\t7<(AR.length:Int)then(
   if b5.length+1<=D8 then(
   R8 t1 (Aa (t7+1)) AR AE Am EM b2 b3 bf (b5++[((AR.getD (t7.toNat) (0,0,false,[],())).1,(AR.getD (t7.toNat) (0,0,false,[],())).2.1,(AR.getD (t7.toNat) (0,0,false,[],())).2.2.1,(AR.getD (t7.toNat) (0,0,false,[],())).2.2.2.1,())]) b6)else none)else none)
  (R8 t1 (Aa (t7+1)) AR AE Am EM b2 b3 bf b5 b6))else none)
 (some (((((),(),bf,()),true,()),()),(b5,b6,())))
def Kb:Nat->Sp
 |0=>fun _ _ _ _ _ _ _ _ _ _ _=>none
 |n+1=>Ut (Kb n)
def Un(R8:Sp)(p0:ACt)(p1:Int):Option Po:=
 (Gy (p0.1,p0.2.1,p0.2.2.1,())).bind fun u1=>
 cond (!u1.1.1)
  (some (((((),(),0,()),false,()),()),([],[],())))
 ((FA (p0.1,p0.2.1,p0.2.2.1,())).bind fun u2=>
 (Hs p1).bind fun u3=>
 cond (!u3.1.1)
  (some (((((),(),u2.1.1.2.2.1,()),false,()),()),(u2.2.1,u2.2.2.1,())))
 (R8 p1 0 p0.1 p0.2.1 p0.2.2.1 0 [] [] u2.1.1.2.2.1 [] u2.2.2.1))
def SV(p0:ACt)(p1:Int):Option Po:=Un (Kb Ae) p0 p1
abbrev nh:Type:=AED×AEI
def UT(CR CW:Int)(Bc:Bool)(p1:ADN)(b0:AAC)(b1:AAT)(b2:AAC)(b3:AAU)(b4:ABO)(b5:ABP)(b6:AAq)(b7:AA1):Option nh:=
 (Hn (b0,CR,b1,b2,b3,CW,b4,b5,b6,b7,Bc,()) p1.2.1).bind fun u1=>
 cond (u1.1.1 !=0)
  (some (((((),CR,(),(),(),CW,(),(),(),(),Bc,()),u1.1.1,()),()),(b0,b1,b2,b3,b4,b5,b6,b7,())))
 (if(0:Int)<=p1.2.1/\p1.2.1<(b1.length:Int)then(
 (NI ((b1.getD (p1.2.1.toNat) ([],[],0,())).1,(b1.getD (p1.2.1.toNat) ([],[],0,())).2.1,(b1.getD (p1.2.1.toNat) ([],[],0,())).2.2.1,()) p1.2.2.1).bind fun u2=>
 cond (p1.1==16)
  (if(0:Int)<=p1.2.1/\p1.2.1<(b1.length:Int)then(
  (SV ((b1.getD (p1.2.1.toNat) ([],[],0,())).1,(b1.getD (p1.2.1.toNat) ([],[],0,())).2.1,(b1.getD (p1.2.1.toNat) ([],[],0,())).2.2.1,()) CW).bind fun u3=>
  cond (!u3.1.1.2.1)
   (some (((((),CR,(),(),(),CW,(),(),(),(),Bc,()),4,()),()),(b0,b1,b2,b3,b4,b5,b6,b7,())))
  (if(0:Int)<=p1.2.1/\p1.2.1<(b1.length:Int)then(
  some (((((),CR,(),(),(),CW,(),(),(),(),Bc,()),0,()),()),(b0,(b1.set (p1.2.1.toNat) (u3.2.1,u3.2.2.1,u3.1.1.1.2.2.1,())),b2,b3,b4,b5,b6,b7,())))else none))else none)
 (cond (!u2.1.1.2.1)
  (some (((((),CR,(),(),(),CW,(),(),(),(),Bc,()),4,()),()),(b0,b1,b2,b3,b4,b5,b6,b7,())))
 (if(0:Int)<=p1.2.1/\p1.2.1<(b1.length:Int)then(
 some (((((),CR,(),(),(),CW,(),(),(),(),Bc,()),0,()),()),(b0,(b1.set (p1.2.1.toNat) (u2.2.1,u2.2.2.1,u2.1.1.1.2.2.1,())),b2,b3,b4,b5,b6,b7,())))else none)))else none)
abbrev jr:Type:=AED×(List Int×AAT×Unit×Unit×Unit×Unit×AAq×Unit×List Int×AAU×ABO×ABP×AA1×Unit)
def bw(CR CW:Int)(Bc:Bool)(p1:ADN)(b0:AAC)(b1:AAT)(b2:AAC)(b3:AAU)(b4:ABO)(b5:ABP)(b6:AAq)(b7:AA1):Option jr:=
 cond (p1.1==1)
  ((We CR CW Bc (p1.1,p1.2.1,p1.2.2.1,p1.2.2.2.1,p1.2.2.2.2.1,()) b0 b1 b2 b3 b4 b5 b6 b7).bind fun u1=>
  some (((((),u1.1.1.1.2.1,(),(),(),u1.1.1.1.2.2.2.2.2.1,(),(),(),(),u1.1.1.1.2.2.2.2.2.2.2.2.2.2.1,()),u1.1.1.2.1,()),()),(u1.2.1,u1.2.2.1,(),(),(),(),u1.2.2.2.2.2.2.2.1,(),u1.2.2.2.1,u1.2.2.2.2.2.2.2.2.2.1,u1.2.2.2.2.2.2.2.2.2.2.1,u1.2.2.2.2.2.2.2.2.2.2.2.1,u1.2.2.2.2.2.2.2.2.1,())))
 (cond (p1.1==2)
  ((Yg CR CW Bc (p1.1,p1.2.1,p1.2.2.1,p1.2.2.2.1,p1.2.2.2.2.1,()) b0 b1 b2 b3 b4 b5 b6 b7).bind fun u5=>
  some (((((),u5.1.1.1.2.1,(),(),(),u5.1.1.1.2.2.2.2.2.1,(),(),(),(),u5.1.1.1.2.2.2.2.2.2.2.2.2.2.1,()),u5.1.1.2.1,()),()),(u5.2.1,u5.2.2.1,(),(),(),(),u5.2.2.2.2.2.2.2.1,(),u5.2.2.2.1,u5.2.2.2.2.1,u5.2.2.2.2.2.1,u5.2.2.2.2.2.2.1,u5.2.2.2.2.2.2.2.2.2.1,())))
 (cond (p1.1==3)
  ((Ue CR CW Bc (p1.1,p1.2.1,p1.2.2.1,p1.2.2.2.1,p1.2.2.2.2.1,()) b0 b1 b2 b3 b4 b5 b6 b7).bind fun u7=>
  some (((((),u7.1.1.1.2.1,(),(),(),u7.1.1.1.2.2.2.2.2.1,(),(),(),(),u7.1.1.1.2.2.2.2.2.2.2.2.2.2.1,()),u7.1.1.2.1,()),()),(u7.2.1,u7.2.2.1,(),(),(),(),u7.2.2.2.2.2.2.2.1,(),u7.2.2.2.1,u7.2.2.2.2.1,u7.2.2.2.2.2.1,u7.2.2.2.2.2.2.1,u7.2.2.2.2.2.2.2.2.1,())))
 (cond (p1.1==4)
  ((Wt CR CW Bc (p1.1,p1.2.1,p1.2.2.1,p1.2.2.2.1,p1.2.2.2.2.1,()) b0 b1 b2 b3 b4 b5 b6 b7).bind fun u8=>
  some (((((),u8.1.1.1.2.1,(),(),(),u8.1.1.1.2.2.2.2.2.1,(),(),(),(),u8.1.1.1.2.2.2.2.2.2.2.2.2.2.1,()),u8.1.1.2.1,()),()),(u8.2.1,u8.2.2.1,(),(),(),(),u8.2.2.2.2.2.2.2.1,(),u8.2.2.2.1,u8.2.2.2.2.1,u8.2.2.2.2.2.1,u8.2.2.2.2.2.2.1,u8.2.2.2.2.2.2.2.2.1,())))
 (cond (p1.1==6)
  ((WX CR CW Bc (p1.1,p1.2.1,p1.2.2.1,p1.2.2.2.1,p1.2.2.2.2.1,()) b0 b1 b2 b3 b4 b5 b6 b7).bind fun u9=>
  some (((((),u9.1.1.1.2.1,(),(),(),u9.1.1.1.2.2.2.2.2.1,(),(),(),(),u9.1.1.1.2.2.2.2.2.2.2.2.2.2.1,()),u9.1.1.2.1,()),()),(u9.2.1,u9.2.2.1,(),(),(),(),u9.2.2.2.2.2.2.2.1,(),u9.2.2.2.2.2.2.2.2.2.1,u9.2.2.2.2.1,u9.2.2.2.2.2.1,u9.2.2.2.2.2.2.1,u9.2.2.2.2.2.2.2.2.1,())))
 (cond (p1.1==7)
  ((Wj CR CW Bc (p1.1,p1.2.1,p1.2.2.1,p1.2.2.2.1,p1.2.2.2.2.1,()) b0 b1 b2 b3 b4 b5 b6 b7).bind fun M6=>
  some (((((),M6.1.1.1.2.1,(),(),(),M6.1.1.1.2.2.2.2.2.1,(),(),(),(),M6.1.1.1.2.2.2.2.2.2.2.2.2.2.1,()),M6.1.1.2.1,()),()),(M6.2.1,M6.2.2.1,(),(),(),(),M6.2.2.2.2.2.2.2.1,(),M6.2.2.2.2.2.2.2.2.2.1,M6.2.2.2.2.1,M6.2.2.2.2.2.1,M6.2.2.2.2.2.2.1,M6.2.2.2.2.2.2.2.2.1,())))
 (cond (p1.1==8)
  ((Wu CR CW Bc b0 b1 b2 b3 b4 b5 b6 b7).bind fun V0=>
  some (((((),V0.1.1.1.2.1,(),(),(),V0.1.1.1.2.2.2.2.2.1,(),(),(),(),V0.1.1.1.2.2.2.2.2.2.2.2.2.2.1,()),V0.1.1.2.1,()),()),(V0.2.1,V0.2.2.1,(),(),(),(),V0.2.2.2.2.2.2.2.1,(),V0.2.2.2.1,V0.2.2.2.2.1,V0.2.2.2.2.2.1,V0.2.2.2.2.2.2.2.2.2.1,V0.2.2.2.2.2.2.2.2.1,())))
 (cond (p1.1==9)
  ((Wb CR CW Bc (p1.1,p1.2.1,p1.2.2.1,p1.2.2.2.1,p1.2.2.2.2.1,()) b0 b1 b2 b3 b4 b5 b6 b7).bind fun kc=>
  some (((((),kc.1.1.1.2.1,(),(),(),kc.1.1.1.2.2.2.2.2.1,(),(),(),(),kc.1.1.1.2.2.2.2.2.2.2.2.2.2.1,()),kc.1.1.2.1,()),()),(kc.2.1,kc.2.2.1,(),(),(),(),kc.2.2.2.2.2.2.2.1,(),kc.2.2.2.1,kc.2.2.2.2.1,kc.2.2.2.2.2.1,kc.2.2.2.2.2.2.1,kc.2.2.2.2.2.2.2.2.1,())))
 (cond (p1.1==10)
  ((Wm CR CW Bc b0 b1 b2 b3 b4 b5 b6 b7).bind fun l4=>
  some (((((),l4.1.1.1.2.1,(),(),(),l4.1.1.1.2.2.2.2.2.1,(),(),(),(),l4.1.1.1.2.2.2.2.2.2.2.2.2.2.1,()),l4.1.1.2.1,()),()),(l4.2.1,l4.2.2.1,(),(),(),(),l4.2.2.2.2.2.2.2.1,(),l4.2.2.2.1,l4.2.2.2.2.1,l4.2.2.2.2.2.1,l4.2.2.2.2.2.2.1,l4.2.2.2.2.2.2.2.2.1,())))
 (cond (p1.1==11)
  ((Yr CR CW Bc (p1.1,p1.2.1,p1.2.2.1,p1.2.2.2.1,p1.2.2.2.2.1,()) b0 b1 b2 b3 b4 b5 b6 b7).bind fun nT=>
  some (((((),nT.1.1.1.2.1,(),(),(),nT.1.1.1.2.2.2.2.2.1,(),(),(),(),nT.1.1.1.2.2.2.2.2.2.2.2.2.2.1,()),nT.1.1.2.1,()),()),(nT.2.1,nT.2.2.1,(),(),(),(),nT.2.2.2.2.2.2.2.1,(),nT.2.2.2.1,nT.2.2.2.2.1,nT.2.2.2.2.2.1,nT.2.2.2.2.2.2.1,nT.2.2.2.2.2.2.2.2.1,())))
 (cond (p1.1==12)
  ((US CR CW Bc b0 b1 b2 b3 b4 b5 b6 b7).bind fun aM=>
  some (((((),aM.1.1.1.2.1,(),(),(),aM.1.1.1.2.2.2.2.2.1,(),(),(),(),aM.1.1.1.2.2.2.2.2.2.2.2.2.2.1,()),aM.1.1.2.1,()),()),(aM.2.1,aM.2.2.1,(),(),(),(),aM.2.2.2.2.2.2.2.1,(),aM.2.2.2.1,aM.2.2.2.2.2.2.2.2.2.1,aM.2.2.2.2.2.1,aM.2.2.2.2.2.2.2.2.2.2.1,aM.2.2.2.2.2.2.2.2.1,())))
 (cond (p1.1==13)
  ((Wo (b0,CR,()) (b3,CW,()) p1.2.1).bind fun wy=>
  cond (!wy.1.1.2.1)
   (some (((((),CR,(),(),(),CW,(),(),(),(),Bc,()),4,()),()),(b0,b1,(),(),(),(),b6,(),b2,b3,b4,b5,b7,())))
  (some (((((),CR,(),(),(),wy.1.1.1.2.1,(),(),(),(),Bc,()),0,()),()),(b0,b1,(),(),(),(),b6,(),b2,wy.2.1,b4,b5,b7,()))))
 (cond (p1.1==14)
  ((W3 CR CW Bc (p1.1,p1.2.1,p1.2.2.1,p1.2.2.2.1,p1.2.2.2.2.1,()) b0 b1 b2 b3 b4 b5 b6 b7).bind fun YY=>
  some (((((),YY.1.1.1.2.1,(),(),(),YY.1.1.1.2.2.2.2.2.1,(),(),(),(),YY.1.1.1.2.2.2.2.2.2.2.2.2.2.1,()),YY.1.1.2.1,()),()),(YY.2.1,YY.2.2.1,(),(),(),(),YY.2.2.2.2.2.2.2.1,(),YY.2.2.2.1,YY.2.2.2.2.1,YY.2.2.2.2.2.1,YY.2.2.2.2.2.2.1,YY.2.2.2.2.2.2.2.2.1,())))
 (cond (p1.1==15)
  ((Wp CR CW Bc (p1.1,p1.2.1,p1.2.2.1,p1.2.2.2.1,p1.2.2.2.2.1,()) b0 b1 b2 b3 b4 b5 b6 b7).bind fun nu=>
  some (((((),nu.1.1.1.2.1,(),(),(),nu.1.1.1.2.2.2.2.2.1,(),(),(),(),nu.1.1.1.2.2.2.2.2.2.2.2.2.2.1,()),nu.1.1.2.1,()),()),(nu.2.1,nu.2.2.1,(),(),(),(),nu.2.2.2.2.2.2.2.1,(),nu.2.2.2.1,nu.2.2.2.2.1,nu.2.2.2.2.2.2.2.2.2.1,nu.2.2.2.2.2.2.1,nu.2.2.2.2.2.2.2.2.1,())))
 ((UT CR CW Bc (p1.1,p1.2.1,p1.2.2.1,p1.2.2.2.1,p1.2.2.2.2.1,()) b0 b1 b2 b3 b4 b5 b6 b7).bind fun nP=>
 some (((((),nP.1.1.1.2.1,(),(),(),nP.1.1.1.2.2.2.2.2.1,(),(),(),(),nP.1.1.1.2.2.2.2.2.2.2.2.2.2.1,()),nP.1.1.2.1,()),()),(nP.2.1,nP.2.2.1,(),(),(),(),nP.2.2.2.2.2.2.2.1,(),nP.2.2.2.1,nP.2.2.2.2.1,nP.2.2.2.2.2.1,nP.2.2.2.2.2.2.1,nP.2.2.2.2.2.2.2.2.1,()))))))))))))))))
abbrev qE:Type:=AED×AEI
def Wr(p0:ABg)(p1:ADN):Option qE:=
 (Wl (p0.1,p0.2.1,p0.2.2.1,p0.2.2.2.1,p0.2.2.2.2.1,p0.2.2.2.2.2.1,p0.2.2.2.2.2.2.1,p0.2.2.2.2.2.2.2.1,p0.2.2.2.2.2.2.2.2.1,p0.2.2.2.2.2.2.2.2.2.1,p0.2.2.2.2.2.2.2.2.2.2.1,())).bind fun u1=>
 cond (!u1.1.1)
  (some (((((),0,(),(),(),0,(),(),(),(),false,()),1,()),()),([],[],[],[],[],[],[],[],())))
 ((Yo (p1.1,p1.2.1,p1.2.2.1,p1.2.2.2.1,p1.2.2.2.2.1,())).bind fun u2=>
 cond (!u2.1.1)
  (some (((((),0,(),(),(),0,(),(),(),(),false,()),1,()),()),([],[],[],[],[],[],[],[],())))
 ((PX (p0.1,p0.2.1,p0.2.2.1,p0.2.2.2.1,p0.2.2.2.2.1,p0.2.2.2.2.2.1,p0.2.2.2.2.2.2.1,p0.2.2.2.2.2.2.2.1,p0.2.2.2.2.2.2.2.2.1,p0.2.2.2.2.2.2.2.2.2.1,p0.2.2.2.2.2.2.2.2.2.2.1,())).bind fun u3=>
 (bw u3.1.1.2.1 u3.1.1.2.2.2.2.2.1 u3.1.1.2.2.2.2.2.2.2.2.2.2.1 (p1.1,p1.2.1,p1.2.2.1,p1.2.2.2.1,p1.2.2.2.2.1,()) u3.2.1 u3.2.2.1 u3.2.2.2.1 u3.2.2.2.2.1 u3.2.2.2.2.2.1 u3.2.2.2.2.2.2.1 u3.2.2.2.2.2.2.2.1 u3.2.2.2.2.2.2.2.2.1).bind fun u4=>
 cond (u4.1.1.2.1 !=0)
  ((PX (p0.1,p0.2.1,p0.2.2.1,p0.2.2.2.1,p0.2.2.2.2.1,p0.2.2.2.2.2.1,p0.2.2.2.2.2.2.1,p0.2.2.2.2.2.2.2.1,p0.2.2.2.2.2.2.2.2.1,p0.2.2.2.2.2.2.2.2.2.1,p0.2.2.2.2.2.2.2.2.2.2.1,())).bind fun EP=>
  some (((((),EP.1.1.2.1,(),(),(),EP.1.1.2.2.2.2.2.1,(),(),(),(),EP.1.1.2.2.2.2.2.2.2.2.2.2.1,()),u4.1.1.2.1,()),()),(EP.2.1,EP.2.2.1,EP.2.2.2.1,EP.2.2.2.2.1,EP.2.2.2.2.2.1,EP.2.2.2.2.2.2.1,EP.2.2.2.2.2.2.2.1,EP.2.2.2.2.2.2.2.2.1,())))
 (some (((((),u4.1.1.1.2.1,(),(),(),u4.1.1.1.2.2.2.2.2.1,(),(),(),(),u4.1.1.1.2.2.2.2.2.2.2.2.2.2.1,()),u4.1.1.2.1,()),()),(u4.2.1,u4.2.2.1,u4.2.2.2.2.2.2.2.2.2.1,u4.2.2.2.2.2.2.2.2.2.2.1,u4.2.2.2.2.2.2.2.2.2.2.2.1,u4.2.2.2.2.2.2.2.2.2.2.2.2.1,u4.2.2.2.2.2.2.2.1,u4.2.2.2.2.2.2.2.2.2.2.2.2.2.1,())))))
abbrev JC:Type:=ACu×(AA1×Unit)
abbrev YA:Type:=ADS->Int->Int->AA1->Option JC
def Zg(R5:YA)(t27:ADS)(t28 t29:Int)(b0:AA1):Option JC:=
 cond (decide (t29<t28))
  (if(0:Int)<=t29/\t29<(t27.length:Int)then(
  cond (((t27.getD (t29.toNat) (0,0,[],())).1)==1)
   (if b0.length+1<=D8 then(
   R5 t27 t28 (Aa (t29+1)) (b0++[(((t27.getD (t29.toNat) (0,0,[],())).2.1),((t27.getD (t29.toNat) (0,0,[],())).2.2.1),true,())]))else none)
  (R5 t27 t28 (Aa (t29+1)) b0))else none)
 (some (((),()),(b0,())))
def LS:Nat->YA
 |0=>fun _ _ _ _=>none
 |n+1=>Zg (LS n)
def Yy(R5:YA)(p0:ABg)(p1:Int):Option JC:=
 (Ca (p0.1,p0.2.1,p0.2.2.1,p0.2.2.2.1,p0.2.2.2.2.1,p0.2.2.2.2.2.1,p0.2.2.2.2.2.2.1,p0.2.2.2.2.2.2.2.1,p0.2.2.2.2.2.2.2.2.1,p0.2.2.2.2.2.2.2.2.2.1,p0.2.2.2.2.2.2.2.2.2.2.1,())).bind fun u1=>
 cond (!u1.1.1)
  (some (((),()),([],())))
 ((BC p1 0 (Aa ((p0.2.2.2.2.2.2.2.2.1.length:Int)-1))).bind fun u3=>
 cond (!u3.1.1)
  (some (((),()),([],())))
 (if(0:Int)<=p1/\p1<(p0.2.2.2.2.2.2.2.2.1.length:Int)then(
 R5 ((p0.2.2.2.2.2.2.2.2.1.getD (p1.toNat) (0,0,[],())).2.2.1) (((p0.2.2.2.2.2.2.2.2.1.getD (p1.toNat) (0,0,[],())).2.2.1).length:Int) 0 [])else none))
def MI(p0:ABg)(p1:Int):Option JC:=Yy (LS Ae) p0 p1
abbrev c_:Type:=AFa×AEP
def EX(p0:ABU)(p1:ABy):Option c_:=
 (K6 (p0.1,p0.2.1,()) (p1.1,p1.2.1,())).bind fun u1=>
 cond (!u1.1.1)
  (some ((((),0,()),()),([],())))
 ((En (p1.1,p1.2.1,())).bind fun u2=>
 some ((((),u2.1.1.2.1,()),()),(u2.2.1,())))
abbrev dk:Type:=(AHR×Unit)×AEP
def Ml(p0:ABU)(p1:ABy)(p2:AAC):Option dk:=
 (K6 (p0.1,p0.2.1,()) (p1.1,p1.2.1,())).bind fun u1=>
 cond (!u1.1.1)
  ((EX (p0.1,p0.2.1,()) (p1.1,p1.2.1,())).bind fun u2=>
  some (((((),u2.1.1.2.1,()),0,false,()),()),(u2.2.1,())))
 ((G3 (p0.1,p0.2.1,()) p2).bind fun u3=>
 cond (!u3.1.1)
  ((EX (p0.1,p0.2.1,()) (p1.1,p1.2.1,())).bind fun u4=>
  some (((((),u4.1.1.2.1,()),0,false,()),()),(u4.2.1,())))
 (cond (((p1.1.length:Int)==30))
  ((EX (p0.1,p0.2.1,()) (p1.1,p1.2.1,())).bind fun u6=>
  some (((((),u6.1.1.2.1,()),0,false,()),()),(u6.2.1,())))
 ((En (p1.1,p1.2.1,())).bind fun u7=>
 (DT p2).bind fun u8=>
 if u7.2.1.length+1<=D8 then(
 let x9:AAU:=u7.2.1++[(u8.2.1,false,0,())]
 some (((((),u7.1.1.2.1,()),(x9.length:Int),true,()),()),(x9,())))else none)))
abbrev Y_:Type:=ABu×(AEN×List Int×AAT×List Int×Unit×Unit×Unit×AAq×AA1×AAU×ABO×ABP×Unit)
def KV(p1 AE AS:Int)(AK:Bool)(b1:AAC)(b2:AAT)(b3:AAC)(b4:AAU)(b5:ABO)(b6:ABP)(b7:AAq)(b8:AA1):Option Y_:=
 cond (((b5.length:Int)==4))
  (some ((4,()),(((),AE,(),(),(),AS,(),(),(),(),AK,()),b1,b2,b3,(),(),(),b7,b8,b4,b5,b6,())))
 ((Hy p1).bind fun u2=>
 (Ml (b1,AE,()) (b4,AS,()) u2.2.1).bind fun u3=>
 cond (!u3.1.1.2.2.1)
  (some ((4,()),(((),AE,(),(),(),AS,(),(),(),(),AK,()),b1,b2,b3,(),(),(),b7,b8,b4,b5,b6,())))
 (if b5.length+1<=D8 then(
 some ((0,()),(((),AE,(),(),(),u3.1.1.1.2.1,(),(),(),(),AK,()),b1,b2,b3,(),(),(),b7,b8,u3.2.1,(b5++[(u3.1.1.2.1,[],())]),[],())))else none))
abbrev XO:Type:=AHG×AEQ
def EY(p0:ABU)(p1:ACG):Option XO:=
 (Gn (p0.1,p0.2.1,()) (p1.1,p1.2.1,())).bind fun u1=>
 cond (!u1.1.1)
  (some (((0,(),()),()),([],())))
 ((GC (p1.1,p1.2.1,())).bind fun u2=>
 some (((u2.1.1.1,(),()),()),(u2.2.1,())))
abbrev az:Type:=(AHS×Unit)×AEQ
def J0(p0:ABU)(p1:ACG)(p2:ACB):Option az:=
 (GC (p1.1,p1.2.1,())).bind fun u1=>
 if u1.2.1.length+1<=D8 then(
 let x2:AB_:=u1.2.1++[(p2,[],false,())]
 (Gn (p0.1,p0.2.1,()) (p1.1,p1.2.1,())).bind fun u3=>
 cond (!u3.1.1)
  ((EY (p0.1,p0.2.1,()) (p1.1,p1.2.1,())).bind fun u4=>
  some ((((u4.1.1.1,(),()),0,false,()),()),(u4.2.1,())))
 ((Gn (p0.1,p0.2.1,()) (u1.1.1.1,x2,())).bind fun u5=>
 cond (!u5.1.1)
  ((EY (p0.1,p0.2.1,()) (p1.1,p1.2.1,())).bind fun u6=>
  some ((((u6.1.1.1,(),()),0,false,()),()),(u6.2.1,())))
 (some ((((u1.1.1.1,(),()),(x2.length:Int),true,()),()),(x2,())))))else none
abbrev dd:Type:=ABu×Unit
def LG(p0:AHI)(p1:Int):Option dd:=
 some ((Aa (p0.1-p1),()),())
abbrev BW:Type:=AES×Unit
abbrev B3:Type:=AA1->Int->Int->Int->Int->Option BW
def Cv(R3:B3)(t0:AA1)(t1 t8 t9 t10:Int):Option BW:=
 cond (decide (t9<t10))
  (let x2:Int:=Aa ((IntKind.wrap .u64 (Aa (t9+t10))).fdiv (2^1))
  if(0:Int)<=x2/\x2<(t0.length:Int)then(
  (LG ((t0.getD (x2.toNat) (0,[],false,())).1,(t0.getD (x2.toNat) (0,[],false,())).2.1,(t0.getD (x2.toNat) (0,[],false,())).2.2.1,()) t1).bind fun u3=>
  cond (decide (u3.1.1<0))
   (R3 t0 t1 t8 (Aa (x2+1)) t10)
  (R3 t0 t1 t8 t9 x2))else none)
 (cond (decide (t9<t8))
  (if(0:Int)<=t9/\t9<(t0.length:Int)then(
  (LG ((t0.getD (t9.toNat) (0,[],false,())).1,(t0.getD (t9.toNat) (0,[],false,())).2.1,(t0.getD (t9.toNat) (0,[],false,())).2.2.1,()) t1).bind fun u4=>
  some (((t9,u4.1.1==0,()),()),()))else none)
 (some (((t9,false,()),()),())))
def Ax:Nat->B3
 |0=>fun _ _ _ _ _=>none
 |n+1=>Cv (Ax n)
def Cs(R3:B3)(p0:AA1)(p1:Int):Option BW:=
 R3 p0 p1 (p0.length:Int) 0 (p0.length:Int)
def Bb(p0:AA1)(p1:Int):Option BW:=Cs (Ax Ae) p0 p1
abbrev V7:Type:=AES×Unit
def IK(p0:ABg)(p1:Int):Option V7:=
 (Bb p0.2.2.2.2.2.2.2.2.2.1 p1).bind fun u1=>
 some (((u1.1.1.1,u1.1.1.2.1,()),()),())
abbrev I5:Type:=ACu×(Unit×AA1×Unit)
def EV(p1:Int)(p2 b0:AA1):Option I5:=(xA p1 p2 b0).map fun l=>(((),()),((),l,()))
abbrev ai:Type:=ABu×(AEN×List Int×AAT×List Int×AAU×ABO×ABP×AAq×Unit×AA1×Unit)
def L2(p1:Int)(p2:ACB)(AE AS:Int)(AK:Bool)(b1:AAC)(b2:AAT)(b3:AAC)(b4:AAU)(b5:ABO)(b6:ABP)(b7:AAq)(b8:AA1):Option ai:=
 (BC p1 0 (Aa ((b5.length:Int)-1))).bind fun u2=>
 cond (!u2.1.1)
  (some ((2,()),(((),AE,(),(),(),AS,(),(),(),(),AK,()),b1,b2,b3,b4,b5,b6,b7,(),b8,())))
 (if(0:Int)<=p1/\p1<(b5.length:Int)then(
 (J0 (b1,AE,()) ((b5.getD (p1.toNat) (0,[],())).1,(b5.getD (p1.toNat) (0,[],())).2.1,()) p2).bind fun u3=>
 (D3 u3.1.1.1.1 u3.1.1.2.1).bind fun u4=>
 (IK (b1,AE,b2,b3,b4,AS,b5,b6,b7,b8,AK,()) u4.1.1.1).bind fun u5=>
 cond (!u3.1.1.2.2.1)
  (some ((4,()),(((),AE,(),(),(),AS,(),(),(),(),AK,()),b1,b2,b3,b4,b5,b6,b7,(),b8,())))
 (cond (((b8.length:Int)==120))
  (some ((4,()),(((),AE,(),(),(),AS,(),(),(),(),AK,()),b1,b2,b3,b4,b5,b6,b7,(),b8,())))
 (cond (u5.1.1.2.1)
  (some ((4,()),(((),AE,(),(),(),AS,(),(),(),(),AK,()),b1,b2,b3,b4,b5,b6,b7,(),b8,())))
 (if(0:Int)<=p1/\p1<(b5.length:Int)then(
 (EV u5.1.1.1 [(u4.1.1.1,p2,false,())] b8).bind fun u8=>
 some ((0,()),(((),AE,(),(),(),AS,(),(),(),(),AK,()),b1,b2,b3,b4,(b5.set (p1.toNat) (u3.1.1.1.1,u3.2.1,())),b6,b7,(),u8.2.2.1,())))else none))))else none)
abbrev dZ:Type:=ABu×Unit
def Ed(p0:ABg)(p1:Int):Option dZ:=
 (BC p1 0 (Aa ((p0.2.2.1.length:Int)-1))).bind fun u2=>
 cond (!u2.1.1)
  (some ((2,()),()))
 ((DI p0 p1).bind fun u3=>
 cond (u3.1.1)
  (some ((3,()),()))
 (some ((0,()),())))
abbrev dM:Type:=ACu×AC2
def I9(p0:ABy)(p1:Int):Option dM:=
 (BC p1 1 (p0.1.length:Int)).bind fun u1=>
 cond (!u1.1.1)
  (some (((),()),([],())))
 (if(0:Int)<=Aa (p1-1)/\Aa (p1-1)<(p0.1.length:Int)then(
 (DT ((p0.1.getD ((Aa (p1-1)).toNat) ([],false,0,())).1)).bind fun u2=>
 some (((),()),(u2.2.1,())))else none)
abbrev IE:Type:=ABu×Unit
def Ds(p0:ABg)(p1 p2:Int):Option IE:=
 (Ed p0 p1).bind fun u1=>
 cond (u1.1.1==0)
  ((I9 (p0.2.2.2.2.1,p0.2.2.2.2.2.1,()) p2).bind fun u2=>
  (Bz u2.2.1 p1).bind fun u3=>
  cond (!u3.1.1)
   (some ((2,()),()))
  (some ((u1.1.1,()),())))
 (some ((u1.1.1,()),()))
abbrev kU:Type:=AHA×AEG
def Dx(p0:ACt):Option kU:=
 (FT (p0.1,p0.2.1,p0.2.2.1,())).bind fun u1=>
 cond (!u1.1.1)
  (some ((((),(),0,()),()),([],[],())))
 ((DN (p0.1,p0.2.1,p0.2.2.1,())).bind fun u2=>
 some ((((),(),u2.1.1.2.2.1,()),()),(u2.2.1,u2.2.2.1,())))
abbrev nV:Type:=AEJ×AEG
def UR(p0:ACt)(p1:ADr):Option nV:=
 (FT (p0.1,p0.2.1,p0.2.2.1,())).bind fun u1=>
 cond (!u1.1.1)
  ((Dx (p0.1,p0.2.1,p0.2.2.1,())).bind fun u2=>
  some (((((),(),u2.1.1.2.2.1,()),false,()),()),(u2.2.1,u2.2.2.1,())))
 ((Mj (p1.1,p1.2.1,p1.2.2.1,p1.2.2.2.1,())).bind fun u3=>
 cond (!u3.1.1)
  ((Dx (p0.1,p0.2.1,p0.2.2.1,())).bind fun u4=>
  some (((((),(),u4.1.1.2.2.1,()),false,()),()),(u4.2.1,u4.2.2.1,())))
 (cond ((p0.2.1.length:Int)==20)
  ((Dx (p0.1,p0.2.1,p0.2.2.1,())).bind fun u6=>
  some (((((),(),u6.1.1.2.2.1,()),false,()),()),(u6.2.1,u6.2.2.1,())))
 (cond (p1.2.1==0)
  ((FR p1.1).bind fun u7=>
  cond ((decide (u7.1.1<=p0.2.2.1)))
   ((DN (p0.1,p0.2.1,p0.2.2.1,())).bind fun u9=>
   some (((((),(),u9.1.1.2.2.1,()),false,()),()),(u9.2.1,u9.2.2.1,())))
  (cond (decide (p1.2.1>0))
   (cond ((decide (p1.2.1<=p0.2.2.1)))
    ((DN (p0.1,p0.2.1,p0.2.2.1,())).bind fun M6=>
    some (((((),(),M6.1.1.2.2.1,()),false,()),()),(M6.2.1,M6.2.2.1,())))
   ((DN (p0.1,p0.2.1,p0.2.2.1,())).bind fun bX=>
   if bX.2.2.1.length+1<=D8 then(
   some (((((),(),bX.1.1.2.2.1,()),true,()),()),(bX.2.1,(bX.2.2.1++[(p1.1,p1.2.1,p1.2.2.1,p1.2.2.2.1,())]),())))else none))
  ((DN (p0.1,p0.2.1,p0.2.2.1,())).bind fun V0=>
  if V0.2.2.1.length+1<=D8 then(
  some (((((),(),V0.1.1.2.2.1,()),true,()),()),(V0.2.1,(V0.2.2.1++[(p1.1,p1.2.1,p1.2.2.1,p1.2.2.2.1,())]),())))else none)))
 (cond (decide (p1.2.1>0))
  (cond ((decide (p1.2.1<=p0.2.2.1)))
   ((DN (p0.1,p0.2.1,p0.2.2.1,())).bind fun kc=>
   some (((((),(),kc.1.1.2.2.1,()),false,()),()),(kc.2.1,kc.2.2.1,())))
  ((DN (p0.1,p0.2.1,p0.2.2.1,())).bind fun ue=>
  if ue.2.2.1.length+1<=D8 then(
  some (((((),(),ue.1.1.2.2.1,()),true,()),()),(ue.2.1,(ue.2.2.1++[(p1.1,p1.2.1,p1.2.2.1,p1.2.2.2.1,())]),())))else none))
 ((DN (p0.1,p0.2.1,p0.2.2.1,())).bind fun TA=>
 if TA.2.2.1.length+1<=D8 then(
 some (((((),(),TA.1.1.2.2.1,()),true,()),()),(TA.2.1,(TA.2.2.1++[(p1.1,p1.2.1,p1.2.2.1,p1.2.2.2.1,())]),())))else none)))))
abbrev eL:Type:=ABu×Unit
def KM(p0:Bool):Option eL:=
 cond (p0)
  (some ((0,()),()))
 (some ((4,()),()))
abbrev bO:Type:=ABu×AEM
def L0(p1:Int)(p2:ADr)(AE AS:Int)(AK:Bool)(b1:AAC)(b2:AAT)(b3:AAC)(b4:AAU)(b5:ABO)(b6:ABP)(b7:AAq)(b8:AA1):Option bO:=
 if(0:Int)<=p1/\p1<(b2.length:Int)then(
 (UR ((b2.getD (p1.toNat) ([],[],0,())).1,(b2.getD (p1.toNat) ([],[],0,())).2.1,(b2.getD (p1.toNat) ([],[],0,())).2.2.1,()) (p2.1,p2.2.1,p2.2.2.1,p2.2.2.2.1,())).bind fun u1=>
 cond (u1.1.1.2.1)
  (if(0:Int)<=p1/\p1<(b2.length:Int)then(
  (KM u1.1.1.2.1).bind fun u3=>
  some ((u3.1.1,()),(((),AE,(),(),(),AS,(),(),(),(),AK,()),b1,(b2.set (p1.toNat) (u1.2.1,u1.2.2.1,u1.1.1.1.2.2.1,())),b3,b4,b5,b6,b7,b8,())))else none)
 ((KM u1.1.1.2.1).bind fun u4=>
 some ((u4.1.1,()),(((),AE,(),(),(),AS,(),(),(),(),AK,()),b1,b2,b3,b4,b5,b6,b7,b8,()))))else none
abbrev gi:Type:=ABu×AEM
def JQ(p1:ADN)(AE AS:Int)(AK:Bool)(b1:AAC)(b2:AAT)(b3:AAC)(b4:AAU)(b5:ABO)(b6:ABP)(b7:AAq)(b8:AA1):Option gi:=
 (BC p1.2.1 0 (Aa ((b5.length:Int)-1))).bind fun u2=>
 cond (!u2.1.1)
  (some ((2,()),(((),AE,(),(),(),AS,(),(),(),(),AK,()),b1,b2,b3,b4,b5,b6,b7,b8,())))
 (if(0:Int)<=p1.2.1/\p1.2.1<(b5.length:Int)then(
 (BC p1.2.2.1 1 (((b5.getD (p1.2.1.toNat) (0,[],())).2.1).length:Int)).bind fun u4=>
 cond (!u4.1.1)
  (some ((2,()),(((),AE,(),(),(),AS,(),(),(),(),AK,()),b1,b2,b3,b4,b5,b6,b7,b8,())))
 ((Ds (b1,AE,b2,b3,b4,AS,b5,b6,b7,b8,AK,()) p1.2.2.2.1 ((b5.getD (p1.2.1.toNat) (0,[],())).1)).bind fun u6=>
 cond (u6.1.1 !=0)
  (some ((u6.1.1,()),(((),AE,(),(),(),AS,(),(),(),(),AK,()),b1,b2,b3,b4,b5,b6,b7,b8,())))
 ((D3 ((b5.getD (p1.2.1.toNat) (0,[],())).1) p1.2.2.1).bind fun u8=>
 if(0:Int)<=Aa (p1.2.2.1-1)/\Aa (p1.2.2.1-1)<(((b5.getD (p1.2.1.toNat) (0,[],())).2.1).length:Int)then(
 (L0 p1.2.2.2.1 (u8.1.1.1,0,false,((((b5.getD (p1.2.1.toNat) (0,[],())).2.1).getD ((Aa (p1.2.2.1-1)).toNat) ([],[],false,())).1),()) AE AS AK b1 b2 b3 b4 b5 b6 b7 b8).bind fun EP=>
 some ((EP.1.1,()),(((),EP.2.1.2.1,(),(),(),EP.2.1.2.2.2.2.2.1,(),(),(),(),EP.2.1.2.2.2.2.2.2.2.2.2.2.1,()),EP.2.2.1,EP.2.2.2.1,EP.2.2.2.2.1,EP.2.2.2.2.2.1,EP.2.2.2.2.2.2.1,EP.2.2.2.2.2.2.2.1,EP.2.2.2.2.2.2.2.2.1,EP.2.2.2.2.2.2.2.2.2.1,())))else none)))else none)
abbrev Pg:Type:=ACu×AHJ
def D9(p1:Int)(p2 b0:ABR):Option Pg:=(xA p1 p2 b0).map fun l=>(((),()),((),l,()))
abbrev yi:Type:=ACu×AHJ
def W_(p1:ADr)(b0:ABR):Option yi:=
 (Sj b0 p1.1).bind fun u1=>
 cond (!u1.1.1.2.1)
  ((D9 u1.1.1.1 [(p1.1,p1.2.1,p1.2.2.1,p1.2.2.2.1,())] b0).bind fun u2=>
  some (((),()),((),u2.2.2.1,())))
 (if(0:Int)<=u1.1.1.1/\u1.1.1.1<(b0.length:Int)then(
 (Rc ((b0.getD (u1.1.1.1.toNat) (0,0,false,[],())).1,(b0.getD (u1.1.1.1.toNat) (0,0,false,[],())).2.1,(b0.getD (u1.1.1.1.toNat) (0,0,false,[],())).2.2.1,(b0.getD (u1.1.1.1.toNat) (0,0,false,[],())).2.2.2.1,()) (p1.1,p1.2.1,p1.2.2.1,p1.2.2.2.1,())).bind fun u3=>
 if(0:Int)<=u1.1.1.1/\u1.1.1.1<(b0.length:Int)then(
 some (((),()),((),(b0.set (u1.1.1.1.toNat) (u3.1.1.1,u3.1.1.2.1,u3.1.1.2.2.1,u3.1.1.2.2.2.1,())),())))else none)else none)
abbrev Nt:Type:=AEJ×AEG
abbrev Qr:Type:=Int->ABR->Int->Int->ABR->ABR->Int->Int->ABR->ABR->Int->ABR->ABR->Option Nt
def TX(R6:Qr)(t1:Int)(t23:ABR)(t24 t25:Int)(AR AE:ABR)(Am EM:Int)(b2 b3:ABR)(bf:Int)(b5 b6:ABR):Option Nt:=
 cond (decide (t25<t24))
  (if(0:Int)<=t25/\t25<(t23.length:Int)then(
  if t25<0 then none else(
  cond (((dY .i64 (t1.fdiv (2^(min t25.toNat 64))) 1)==1))
   ((W_ ((t23.getD (t25.toNat) (0,0,false,[],())).1,(t23.getD (t25.toNat) (0,0,false,[],())).2.1,(t23.getD (t25.toNat) (0,0,false,[],())).2.2.1,(t23.getD (t25.toNat) (0,0,false,[],())).2.2.2.1,()) b5).bind fun u9=>
   R6 t1 t23 t24 (Aa (t25+1)) AR AE Am EM b2 b3 bf u9.2.2.1 b6)
  (R6 t1 t23 t24 (Aa (t25+1)) AR AE Am EM b2 b3 bf b5 b6)))else none)
 (cond ((decide ((b5.length:Int)>200)))
  ((DN (AR,AE,Am,())).bind fun M6=>
  some (((((),(),M6.1.1.2.2.1,()),false,()),()),(M6.2.1,M6.2.2.1,())))
 (some (((((),(),bf,()),true,()),()),(b5,b6,()))))
def Jr:Nat->Qr
 |0=>fun _ _ _ _ _ _ _ _ _ _ _ _ _=>none
 |n+1=>TX (Jr n)
def Te(R6:Qr)(p0:ACt)(p1:Int):Option Nt:=
 (FT (p0.1,p0.2.1,p0.2.2.1,())).bind fun u1=>
 cond (!u1.1.1)
  ((Dx (p0.1,p0.2.1,p0.2.2.1,())).bind fun u2=>
  some (((((),(),u2.1.1.2.2.1,()),false,()),()),(u2.2.1,u2.2.2.1,())))
 ((BC p1 0 1048575).bind fun u3=>
 cond (!u3.1.1)
  ((Dx (p0.1,p0.2.1,p0.2.2.1,())).bind fun u4=>
  some (((((),(),u4.1.1.2.2.1,()),false,()),()),(u4.2.1,u4.2.2.1,())))
 ((DN (p0.1,p0.2.1,p0.2.2.1,())).bind fun u5=>
 R6 p1 p0.2.1 (p0.2.1.length:Int) 0 p0.1 p0.2.1 p0.2.2.1 0 [] [] u5.1.1.2.2.1 u5.2.1 []))
def M0(p0:ACt)(p1:Int):Option Nt:=Te (Jr Ae) p0 p1
abbrev l9:Type:=AEJ×AEG
def OT(p0:ACt):Option l9:=
 (M0 (p0.1,p0.2.1,p0.2.2.1,()) 1048575).bind fun u1=>
 some (((((),(),u1.1.1.1.2.2.1,()),u1.1.1.2.1,()),()),(u1.2.1,u1.2.2.1,()))
abbrev nW:Type:=ABq×Unit
def cmp_isNaN_int(p0:Int):Option nW:=
 some ((p0 !=p0,()),())
abbrev qb:Type:=ABq×Unit
def cmp_Less_int(p0 p1:Int):Option qb:=
 (cmp_isNaN_int p0).bind fun u1=>
 cond (u1.1.1)
  ((cmp_isNaN_int p1).bind fun u2=>
  cond (!u2.1.1)
   (some ((true,()),()))
  (some ((decide (p0<p1),()),())))
 (some ((decide (p0<p1),()),()))
abbrev iA:Type:=ABq×Unit
def Pr(p0:Int):Option iA:=
 some ((p0 !=p0,()),())
abbrev Fl:Type:=AES×Unit
abbrev Hf:Type:=List Int->Int->Int->Int->Int->Option Fl
def J9(R3:Hf)(t0:AAC)(t1 t6 t7 t8:Int):Option Fl:=
 cond (decide (t7<t8))
  (let x2:Int:=Aa ((IntKind.wrap .u64 (Aa (t7+t8))).fdiv (2^1))
  if(0:Int)<=x2/\x2<(t0.length:Int)then(
  (cmp_Less_int (t0.getD (x2.toNat) 0) t1).bind fun u4=>
  cond (u4.1.1)
   (R3 t0 t1 t6 (Aa (x2+1)) t8)
  (R3 t0 t1 t6 t7 x2))else none)
 (cond (decide (t7<t6))
  (if(0:Int)<=t7/\t7<(t0.length:Int)then(
  cond ((t0.getD (t7.toNat) 0)==t1)
   (some (((t7,true,()),()),()))
  (if(0:Int)<=t7/\t7<(t0.length:Int)then(
  (Pr (t0.getD (t7.toNat) 0)).bind fun u7=>
  cond (u7.1.1)
   ((Pr t1).bind fun u8=>
   some (((t7,u8.1.1,()),()),()))
  (some (((t7,false,()),()),())))else none))else none)
 (some (((t7,false,()),()),())))
def D4:Nat->Hf
 |0=>fun _ _ _ _ _=>none
 |n+1=>J9 (D4 n)
def J_(R3:Hf)(p0:AAC)(p1:Int):Option Fl:=
 R3 p0 p1 (p0.length:Int) 0 (p0.length:Int)
def Gc(p0:AAC)(p1:Int):Option Fl:=J_ (D4 Ae) p0 p1
abbrev af:Type:=ACu×AGg
def J2(p1:Int)(p2 b0:AAC):Option af:=(xA p1 p2 b0).map fun l=>(((),()),((),l,()))
abbrev nY:Type:=ACu×AC2
def Kv(p0:AAC)(p1:Int):Option nY:=
 (DT p0).bind fun u1=>
 (Gc u1.2.1 p1).bind fun u2=>
 cond (!u2.1.1.2.1)
  ((J2 u2.1.1.1 [p1] u1.2.1).bind fun u3=>
  some (((),()),(u3.2.2.1,())))
 (some (((),()),(u1.2.1,())))
abbrev mP:Type:=AFk×AEQ
def Ro(p0:ABU)(p1:ACG)(p2 p3:Int):Option mP:=
 (Gn (p0.1,p0.2.1,()) (p1.1,p1.2.1,())).bind fun u1=>
 cond (!u1.1.1)
  ((EY (p0.1,p0.2.1,()) (p1.1,p1.2.1,())).bind fun u2=>
  some ((((u2.1.1.1,(),()),false,()),()),(u2.2.1,())))
 ((BC p2 1 (p1.2.1.length:Int)).bind fun u4=>
 cond (!u4.1.1)
  ((EY (p0.1,p0.2.1,()) (p1.1,p1.2.1,())).bind fun u5=>
  some ((((u5.1.1.1,(),()),false,()),()),(u5.2.1,())))
 (if(0:Int)<=Aa (p2-1)/\Aa (p2-1)<(p1.2.1.length:Int)then(
 cond (((p1.2.1.getD ((Aa (p2-1)).toNat) ([],[],false,())).2.2.1))
  ((EY (p0.1,p0.2.1,()) (p1.1,p1.2.1,())).bind fun u7=>
  some ((((u7.1.1.1,(),()),false,()),()),(u7.2.1,())))
 ((BC p3 0 (Aa ((p0.1.length:Int)-1))).bind fun u9=>
 cond (!u9.1.1)
  ((EY (p0.1,p0.2.1,()) (p1.1,p1.2.1,())).bind fun EP=>
  some ((((EP.1.1.1,(),()),false,()),()),(EP.2.1,())))
 ((GC (p1.1,p1.2.1,())).bind fun M6=>
 if(0:Int)<=Aa (p2-1)/\Aa (p2-1)<(M6.2.1.length:Int)then(
 (Kv ((M6.2.1.getD ((Aa (p2-1)).toNat) ([],[],false,())).2.1) p3).bind fun bX=>
 let x13:AB_:=(M6.2.1.set ((Aa (p2-1)).toNat) ((M6.2.1.getD ((Aa (p2-1)).toNat) ([],[],false,())).1,bX.2.1,(M6.2.1.getD ((Aa (p2-1)).toNat) ([],[],false,())).2.2.1,()))
 (G3 (p0.1,p0.2.1,()) ((x13.getD ((Aa (p2-1)).toNat) ([],[],false,())).2.1)).bind fun V0=>
 some ((((M6.1.1.1,(),()),true,()),()),((x13.set ((Aa (p2-1)).toNat) ((x13.getD ((Aa (p2-1)).toNat) ([],[],false,())).1,(x13.getD ((Aa (p2-1)).toNat) ([],[],false,())).2.1,V0.1.1,())),())))else none)))else none))
abbrev GU:Type:=ACu×AEM
abbrev K4:Type:=Int->Int->Int->Int->Int->Bool->List Int->AAT->List Int->AAU->ABO->ABP->AAq->AA1->Option GU
def Iu(R1:K4)(t1 t2 t6 AE AS:Int)(AK:Bool)(b1:AAC)(b2:AAT)(b3:AAC)(b4:AAU)(b5:ABO)(b6:ABP)(b7:AAq)(b8:AA1):Option GU:=
 if(0:Int)<=t1/\t1<(b5.length:Int)then(
 cond (decide (t6<=(((b5.getD (t1.toNat) (0,[],())).2.1).length:Int)))
  (if(0:Int)<=t1/\t1<(b5.length:Int)then(
  (D3 ((b5.getD (t1.toNat) (0,[],())).1) t6).bind fun u3=>
  if(0:Int)<=t2/\t2<(b2.length:Int)then(
  (Gm ((b2.getD (t2.toNat) ([],[],0,())).1,(b2.getD (t2.toNat) ([],[],0,())).2.1,(b2.getD (t2.toNat) ([],[],0,())).2.2.1,()) u3.1.1.1).bind fun u4=>
  if(0:Int)<=t1/\t1<(b5.length:Int)then(
  if(0:Int)<=Aa (t6-1)/\Aa (t6-1)<(((b5.getD (t1.toNat) (0,[],())).2.1).length:Int)then(
  cond (((((b5.getD (t1.toNat) (0,[],())).2.1).getD ((Aa (t6-1)).toNat) ([],[],false,())).2.2.1))
   (R1 t1 t2 (Aa (t6+1)) AE AS AK b1 b2 b3 b4 b5 b6 b7 b8)
  (cond (!u4.1.1.2.1)
   (R1 t1 t2 (Aa (t6+1)) AE AS AK b1 b2 b3 b4 b5 b6 b7 b8)
  (cond (u4.1.1.1.2.1 !=0)
   (R1 t1 t2 (Aa (t6+1)) AE AS AK b1 b2 b3 b4 b5 b6 b7 b8)
  (if(0:Int)<=t1/\t1<(b5.length:Int)then(
  (Ro (b1,AE,()) ((b5.getD (t1.toNat) (0,[],())).1,(b5.getD (t1.toNat) (0,[],())).2.1,()) t6 t2).bind fun u6=>
  if(0:Int)<=t1/\t1<(b5.length:Int)then(
  let x7:ABO:=(b5.set (t1.toNat) (u6.1.1.1.1,u6.2.1,()))
  (IK (b1,AE,b2,b3,b4,AS,x7,b6,b7,b8,AK,()) u3.1.1.1).bind fun u8=>
  cond (u8.1.1.2.1)
   (if(0:Int)<=t1/\t1<(x7.length:Int)then(
   if(0:Int)<=Aa (t6-1)/\Aa (t6-1)<(((x7.getD (t1.toNat) (0,[],())).2.1).length:Int)then(
   cond (((((x7.getD (t1.toNat) (0,[],())).2.1).getD ((Aa (t6-1)).toNat) ([],[],false,())).2.2.1))
    (if(0:Int)<=u8.1.1.1/\u8.1.1.1<(b8.length:Int)then(
    R1 t1 t2 (Aa (t6+1)) AE AS AK b1 b2 b3 b4 x7 b6 b7 (b8.set (u8.1.1.1.toNat) ((b8.getD (u8.1.1.1.toNat) (0,[],false,())).1,(b8.getD (u8.1.1.1.toNat) (0,[],false,())).2.1,true,())))else none)
   (R1 t1 t2 (Aa (t6+1)) AE AS AK b1 b2 b3 b4 x7 b6 b7 b8))else none)else none)
  (R1 t1 t2 (Aa (t6+1)) AE AS AK b1 b2 b3 b4 x7 b6 b7 b8))else none)else none))))else none)else none)else none)else none)
 (some (((()),()),(((),AE,(),(),(),AS,(),(),(),(),AK,()),b1,b2,b3,b4,b5,b6,b7,b8,()))))else none
def DE:Nat->K4
 |0=>fun _ _ _ _ _ _ _ _ _ _ _ _ _ _=>none
 |n+1=>Iu (DE n)
def N2(R1:K4)(p1 p2 AE AS:Int)(AK:Bool)(b1:AAC)(b2:AAT)(b3:AAC)(b4:AAU)(b5:ABO)(b6:ABP)(b7:AAq)(b8:AA1):Option GU:=
 R1 p1 p2 1 AE AS AK b1 b2 b3 b4 b5 b6 b7 b8
def Ni(p1 p2 AE AS:Int)(AK:Bool)(b1:AAC)(b2:AAT)(b3:AAC)(b4:AAU)(b5:ABO)(b6:ABP)(b7:AAq)(b8:AA1):Option GU:=N2 (DE Ae) p1 p2 AE AS AK b1 b2 b3 b4 b5 b6 b7 b8
abbrev JS:Type:=AFi×Unit
abbrev Rp:Type:=Int->ABR->Int->Int->Int->Int->List Int->ABR->Bool->List AAC->Int->Int->Bool->List UInt8->Option JS
def VH(R5:Rp)(t6:Int)(t33:ABR)(t34 t35 AR AE:Int)(Am:AAC)(CE:ABR)(Cd:Bool)(AS:List AAC)(Cf Bn:Int)(EM:Bool)(HF:ACB):Option JS:=
 cond (decide (t35<t34))
  (if(0:Int)<=t35/\t35<(t33.length:Int)then(
  cond (((t33.getD (t35.toNat) (0,0,false,[],())).1)==t6)
   (some ((((t6,AR,((t33.getD (t35.toNat) (0,0,false,[],())).2.2.1),((t33.getD (t35.toNat) (0,0,false,[],())).2.2.2.1),()),true,()),()),()))
  (R5 t6 t33 t34 (Aa (t35+1)) AR AE Am CE Cd AS Cf Bn EM HF))else none)
 (some ((((t6,AR,true,[],()),true,()),()),()))
def Ks:Nat->Rp
 |0=>fun _ _ _ _ _ _ _ _ _ _ _ _ _ _=>none
 |n+1=>VH (Ks n)
def VQ(R5:Rp)(p0:ABr)(p1:Int):Option JS:=
 (D3 p0.2.1 p1).bind fun u1=>
 cond (!u1.1.1.2.1)
  (some ((((0,0,false,[],()),false,()),()),()))
 (cond (!p0.2.2.2.2.1)
  (some ((((0,0,false,[],()),false,()),()),()))
 (cond (decide (p1>(p0.2.2.2.2.2.1.length:Int)))
  (some ((((0,0,false,[],()),false,()),()),()))
 (R5 u1.1.1.1 p0.2.2.2.1 (p0.2.2.2.1.length:Int) 0 p0.1 p0.2.1 p0.2.2.1 p0.2.2.2.1 p0.2.2.2.2.1 p0.2.2.2.2.2.1 0 0 false [])))
def Jg(p0:ABr)(p1:Int):Option JS:=VQ (Ks Ae) p0 p1
abbrev lk:Type:=AFf×AEH
def E6(p0:ABU)(p1:ABr):Option lk:=
 (Hw (p0.1,p0.2.1,()) (p1.1,p1.2.1,p1.2.2.1,p1.2.2.2.1,p1.2.2.2.2.1,p1.2.2.2.2.2.1,())).bind fun u1=>
 cond (!u1.1.1)
  (some (((0,0,(),(),false,(),()),()),([],[],[],())))
 ((Gp (p1.1,p1.2.1,p1.2.2.1,p1.2.2.2.1,p1.2.2.2.2.1,p1.2.2.2.2.2.1,())).bind fun u2=>
 some (((u2.1.1.1,u2.1.1.2.1,(),(),u2.1.1.2.2.2.2.1,(),()),()),(u2.2.1,u2.2.2.1,u2.2.2.2.1,())))
abbrev YG:Type:=AER×AEH
def PN(p0:ABU)(p1:ABr)(p2 p3:Int):Option YG:=
 (Hw (p0.1,p0.2.1,()) (p1.1,p1.2.1,p1.2.2.1,p1.2.2.2.1,p1.2.2.2.2.1,p1.2.2.2.2.2.1,())).bind fun u1=>
 cond (!u1.1.1)
  ((E6 (p0.1,p0.2.1,()) (p1.1,p1.2.1,p1.2.2.1,p1.2.2.2.1,p1.2.2.2.2.1,p1.2.2.2.2.2.1,())).bind fun u2=>
  some ((((u2.1.1.1,u2.1.1.2.1,(),(),u2.1.1.2.2.2.2.1,(),()),false,()),()),(u2.2.1,u2.2.2.1,u2.2.2.2.1,())))
 ((BC p2 1 (p1.2.2.2.2.2.1.length:Int)).bind fun u4=>
 cond (!u4.1.1)
  ((E6 (p0.1,p0.2.1,()) (p1.1,p1.2.1,p1.2.2.1,p1.2.2.2.1,p1.2.2.2.2.1,p1.2.2.2.2.2.1,())).bind fun u5=>
  some ((((u5.1.1.1,u5.1.1.2.1,(),(),u5.1.1.2.2.2.2.1,(),()),false,()),()),(u5.2.1,u5.2.2.1,u5.2.2.2.1,())))
 ((BC p3 0 (Aa ((p0.1.length:Int)-1))).bind fun u7=>
 cond (!u7.1.1)
  ((E6 (p0.1,p0.2.1,()) (p1.1,p1.2.1,p1.2.2.1,p1.2.2.2.1,p1.2.2.2.2.1,p1.2.2.2.2.2.1,())).bind fun u8=>
  some ((((u8.1.1.1,u8.1.1.2.1,(),(),u8.1.1.2.2.2.2.1,(),()),false,()),()),(u8.2.1,u8.2.2.1,u8.2.2.2.1,())))
 ((Gp (p1.1,p1.2.1,p1.2.2.1,p1.2.2.2.1,p1.2.2.2.2.1,p1.2.2.2.2.2.1,())).bind fun u9=>
 if(0:Int)<=Aa (p2-1)/\Aa (p2-1)<(u9.2.2.2.1.length:Int)then(
 (Kv (u9.2.2.2.1.getD ((Aa (p2-1)).toNat) []) p3).bind fun EP=>
 if(0:Int)<=Aa (p2-1)/\Aa (p2-1)<(u9.2.2.2.1.length:Int)then(
 some ((((u9.1.1.1,u9.1.1.2.1,(),(),u9.1.1.2.2.2.2.1,(),()),true,()),()),(u9.2.1,u9.2.2.1,(u9.2.2.2.1.set ((Aa (p2-1)).toNat) EP.2.1),())))else none)else none)))
abbrev J3:Type:=ACu×AEM
abbrev ML:Type:=Int->Int->Int->Int->Int->Bool->List Int->AAT->List Int->AAU->ABO->ABP->AAq->AA1->Option J3
def HP(R1:ML)(t1 t2 t6 AE AS:Int)(AK:Bool)(b1:AAC)(b2:AAT)(b3:AAC)(b4:AAU)(b5:ABO)(b6:ABP)(b7:AAq)(b8:AA1):Option J3:=
 if(0:Int)<=t1/\t1<(b6.length:Int)then(
 cond (decide (t6<=(((b6.getD (t1.toNat) (0,0,[],[],false,[],())).2.2.2.2.2.1).length:Int)))
  (if(0:Int)<=t1/\t1<(b6.length:Int)then(
  (Jg ((b6.getD (t1.toNat) (0,0,[],[],false,[],())).1,(b6.getD (t1.toNat) (0,0,[],[],false,[],())).2.1,(b6.getD (t1.toNat) (0,0,[],[],false,[],())).2.2.1,(b6.getD (t1.toNat) (0,0,[],[],false,[],())).2.2.2.1,(b6.getD (t1.toNat) (0,0,[],[],false,[],())).2.2.2.2.1,(b6.getD (t1.toNat) (0,0,[],[],false,[],())).2.2.2.2.2.1,()) t6).bind fun u2=>
  if(0:Int)<=t2/\t2<(b2.length:Int)then(
  (Gm ((b2.getD (t2.toNat) ([],[],0,())).1,(b2.getD (t2.toNat) ([],[],0,())).2.1,(b2.getD (t2.toNat) ([],[],0,())).2.2.1,()) u2.1.1.1.1).bind fun u3=>
  cond (u2.1.1.2.1)
   (cond (u3.1.1.2.1)
    (cond (((u3.1.1.1.1==u2.1.1.1.1)&&((u3.1.1.1.2.1==u2.1.1.1.2.1)&&((u3.1.1.1.2.2.1==u2.1.1.1.2.2.1)&&((u3.1.1.1.2.2.2.1==u2.1.1.1.2.2.2.1)&&true)))))
     (if(0:Int)<=t1/\t1<(b6.length:Int)then(
     (PN (b1,AE,()) ((b6.getD (t1.toNat) (0,0,[],[],false,[],())).1,(b6.getD (t1.toNat) (0,0,[],[],false,[],())).2.1,(b6.getD (t1.toNat) (0,0,[],[],false,[],())).2.2.1,(b6.getD (t1.toNat) (0,0,[],[],false,[],())).2.2.2.1,(b6.getD (t1.toNat) (0,0,[],[],false,[],())).2.2.2.2.1,(b6.getD (t1.toNat) (0,0,[],[],false,[],())).2.2.2.2.2.1,()) t6 t2).bind fun u5=>
     if(0:Int)<=t1/\t1<(b6.length:Int)then(
     R1 t1 t2 (Aa (t6+1)) AE AS AK b1 b2 b3 b4 b5 (b6.set (t1.toNat) (u5.1.1.1.1,u5.1.1.1.2.1,u5.2.1,u5.2.2.1,u5.1.1.1.2.2.2.2.1,u5.2.2.2.1,())) b7 b8)else none)else none)
    (R1 t1 t2 (Aa (t6+1)) AE AS AK b1 b2 b3 b4 b5 b6 b7 b8))
   (R1 t1 t2 (Aa (t6+1)) AE AS AK b1 b2 b3 b4 b5 b6 b7 b8))
  (R1 t1 t2 (Aa (t6+1)) AE AS AK b1 b2 b3 b4 b5 b6 b7 b8))else none)else none)
 (some (((()),()),(((),AE,(),(),(),AS,(),(),(),(),AK,()),b1,b2,b3,b4,b5,b6,b7,b8,()))))else none
def Be:Nat->ML
 |0=>fun _ _ _ _ _ _ _ _ _ _ _ _ _ _=>none
 |n+1=>HP (Be n)
def KB(R1:ML)(p1 p2 AE AS:Int)(AK:Bool)(b1:AAC)(b2:AAT)(b3:AAC)(b4:AAU)(b5:ABO)(b6:ABP)(b7:AAq)(b8:AA1):Option J3:=
 R1 p1 p2 1 AE AS AK b1 b2 b3 b4 b5 b6 b7 b8
def LF(p1 p2 AE AS:Int)(AK:Bool)(b1:AAC)(b2:AAT)(b3:AAC)(b4:AAU)(b5:ABO)(b6:ABP)(b7:AAq)(b8:AA1):Option J3:=KB (Be Ae) p1 p2 AE AS AK b1 b2 b3 b4 b5 b6 b7 b8
abbrev IV:Type:=ABu×AEM
abbrev Ms:Type:=Int->Int->Int->Int->Int->Bool->List Int->AAT->List Int->AAU->ABO->ABP->AAq->AA1->Int->Option IV
abbrev LN:Type:=Int->Int->Int->Int->Int->Bool->List Int->AAT->List Int->AAU->ABO->ABP->AAq->AA1->Option IV
def Nc(R9:Ms)(qT:LN)(t1 t42 t43 AE AS:Int)(AK:Bool)(b1:AAC)(b2:AAT)(b3:AAC)(b4:AAU)(b5:ABO)(b6:ABP)(b7:AAq)(b8:AA1)(eF:Int):Option IV:=
 cond (decide (t43<t42))
  (if(0:Int)<=t43/\t43<(b5.length:Int)then(
  cond (decide (((b5.getD (t43.toNat) (0,[],())).1)>eF))
   ((I9 (b4,AS,()) ((b5.getD (t43.toNat) (0,[],())).1)).bind fun u6=>
   (Bz u6.2.1 t1).bind fun u7=>
   cond (u7.1.1)
    ((Ni t43 t1 AE AS AK b1 b2 b3 b4 b5 b6 b7 b8).bind fun u8=>
    R9 t1 t42 (Aa (t43+1)) u8.2.1.2.1 u8.2.1.2.2.2.2.2.1 u8.2.1.2.2.2.2.2.2.2.2.2.2.1 u8.2.2.1 u8.2.2.2.1 u8.2.2.2.2.1 u8.2.2.2.2.2.1 u8.2.2.2.2.2.2.1 u8.2.2.2.2.2.2.2.1 u8.2.2.2.2.2.2.2.2.1 u8.2.2.2.2.2.2.2.2.2.1 eF)
   (R9 t1 t42 (Aa (t43+1)) AE AS AK b1 b2 b3 b4 b5 b6 b7 b8 eF))
  (R9 t1 t42 (Aa (t43+1)) AE AS AK b1 b2 b3 b4 b5 b6 b7 b8 eF))else none)
 (qT t1 (b6.length:Int) 0 AE AS AK b1 b2 b3 b4 b5 b6 b7 b8)
def Mm(R9:Ms)(qT:LN)(t1 t73 t74 AE AS:Int)(AK:Bool)(b1:AAC)(b2:AAT)(b3:AAC)(b4:AAU)(b5:ABO)(b6:ABP)(b7:AAq)(b8:AA1):Option IV:=
 cond (decide (t74<t73))
  (if(0:Int)<=t74/\t74<(b6.length:Int)then(
  (I9 (b4,AS,()) ((b6.getD (t74.toNat) (0,0,[],[],false,[],())).2.1)).bind fun M6=>
  (Bz M6.2.1 t1).bind fun bX=>
  cond (bX.1.1)
   ((LF t74 t1 AE AS AK b1 b2 b3 b4 b5 b6 b7 b8).bind fun XC=>
   qT t1 t73 (Aa (t74+1)) XC.2.1.2.1 XC.2.1.2.2.2.2.2.1 XC.2.1.2.2.2.2.2.2.2.2.2.2.1 XC.2.2.1 XC.2.2.2.1 XC.2.2.2.2.1 XC.2.2.2.2.2.1 XC.2.2.2.2.2.2.1 XC.2.2.2.2.2.2.2.1 XC.2.2.2.2.2.2.2.2.1 XC.2.2.2.2.2.2.2.2.2.1)
  (qT t1 t73 (Aa (t74+1)) AE AS AK b1 b2 b3 b4 b5 b6 b7 b8))else none)
 (some ((0,()),(((),AE,(),(),(),AS,(),(),(),(),AK,()),b1,b2,b3,b4,b5,b6,b7,b8,())))
mutual
def FD:Nat->Ms
 |0=>fun _ _ _ _ _ _ _ _ _ _ _ _ _ _ _=>none
 |n+1=>Nc (FD n) (FZ n)
def FZ:Nat->LN
 |0=>fun _ _ _ _ _ _ _ _ _ _ _ _ _ _=>none
 |n+1=>Mm (FD n) (FZ n)
end
def Tg(R9:Ms)(qT:LN)(p1 AE AS:Int)(AK:Bool)(b1:AAC)(b2:AAT)(b3:AAC)(b4:AAU)(b5:ABO)(b6:ABP)(b7:AAq)(b8:AA1):Option IV:=
 (Ed (b1,AE,b2,b3,b4,AS,b5,b6,b7,b8,AK,()) p1).bind fun u1=>
 cond (u1.1.1 !=0)
  (some ((u1.1.1,()),(((),AE,(),(),(),AS,(),(),(),(),AK,()),b1,b2,b3,b4,b5,b6,b7,b8,())))
 (if(0:Int)<=p1/\p1<(b2.length:Int)then(
 (OT ((b2.getD (p1.toNat) ([],[],0,())).1,(b2.getD (p1.toNat) ([],[],0,())).2.1,(b2.getD (p1.toNat) ([],[],0,())).2.2.1,())).bind fun u2=>
 cond (!u2.1.1.2.1)
  (some ((4,()),(((),AE,(),(),(),AS,(),(),(),(),AK,()),b1,b2,b3,b4,b5,b6,b7,b8,())))
 (if(0:Int)<=p1/\p1<(b2.length:Int)then(
 R9 p1 (b5.length:Int) 0 AE AS AK b1 (b2.set (p1.toNat) (u2.2.1,u2.2.2.1,u2.1.1.1.2.2.1,())) b3 b4 b5 b6 b7 b8 u2.1.1.1.2.2.1)else none))else none)
def Qa(p1 AE AS:Int)(AK:Bool)(b1:AAC)(b2:AAT)(b3:AAC)(b4:AAU)(b5:ABO)(b6:ABP)(b7:AAq)(b8:AA1):Option IV:=Tg (FD Ae) (FZ Ae) p1 AE AS AK b1 b2 b3 b4 b5 b6 b7 b8
abbrev il:Type:=ABu×AEM
def Pc(p1 p2 AE AS:Int)(AK:Bool)(b1:AAC)(b2:AAT)(b3:AAC)(b4:AAU)(b5:ABO)(b6:ABP)(b7:AAq)(b8:AA1):Option il:=
 (Ed (b1,AE,b2,b3,b4,AS,b5,b6,b7,b8,AK,()) p1).bind fun u1=>
 cond (u1.1.1 !=0)
  (some ((u1.1.1,()),(((),AE,(),(),(),AS,(),(),(),(),AK,()),b1,b2,b3,b4,b5,b6,b7,b8,())))
 (if(0:Int)<=p1/\p1<(b2.length:Int)then(
 (M0 ((b2.getD (p1.toNat) ([],[],0,())).1,(b2.getD (p1.toNat) ([],[],0,())).2.1,(b2.getD (p1.toNat) ([],[],0,())).2.2.1,()) p2).bind fun u2=>
 if(0:Int)<=p1/\p1<(b2.length:Int)then(
 (KM u2.1.1.2.1).bind fun u4=>
 some ((u4.1.1,()),(((),AE,(),(),(),AS,(),(),(),(),AK,()),b1,(b2.set (p1.toNat) (u2.2.1,u2.2.2.1,u2.1.1.1.2.2.1,())),b3,b4,b5,b6,b7,b8,())))else none)else none)
abbrev dw:Type:=ABq×Unit
def MY(p0:Int)(p1:ABu):Option dw:=
 some ((p0==p1.1,()),())
abbrev Cr:Type:=ABu×Unit
abbrev Dj:Type:=List Int->AD5->Int->Int->Option Cr
def FL(R2:Dj)(t0:AAC)(t1:AD5)(t7 t8:Int):Option Cr:=
 cond (decide (t8<t7))
  (if(0:Int)<=t8/\t8<(t0.length:Int)then(
  (MY (t0.getD (t8.toNat) 0) t1.1).bind fun u2=>
  cond (u2.1.1)
   (some ((t8,()),()))
  (R2 t0 (t1.1,()) t7 (Aa (t8+1))))else none)
 (some (((-1),()),()))
def B_:Nat->Dj
 |0=>fun _ _ _ _=>none
 |n+1=>FL (B_ n)
def FM(R2:Dj)(p0:AAC)(p1:AD5):Option Cr:=
 R2 p0 (p1.1,()) (p0.length:Int) 0
def EB(p0:AAC)(p1:AD5):Option Cr:=FM (B_ Ae) p0 p1
abbrev Cm:Type:=ACu×AGg
abbrev Db:Type:=AD5->Int->Int->List Int->Option Cm
def FC(R5:Db)(t1:AD5)(t5 t6:Int)(b0:AAC):Option Cm:=
 cond ((decide (t6<(b0.length:Int))))
  (if(0:Int)<=t6/\t6<(b0.length:Int)then(
  let x3:Int:=(b0.getD (t6.toNat) 0)
  (MY x3 t1.1).bind fun u4=>
  cond (!u4.1.1)
   (if(0:Int)<=t5/\t5<(b0.length:Int)then(
   R5 (t1.1,()) (Aa (t5+1)) (Aa (t6+1)) (b0.set (t5.toNat) x3))else none)
  (R5 (t1.1,()) t5 (Aa (t6+1)) b0))else none)
 (if(0:Int)<=t5/\t5<=(b0.length:Int)/\(b0.length:Int)<=(b0.length:Int)then(
 let x6:AAC:=(b0.take (t5.toNat)++List.replicate (((b0.length:Int).toNat)-(t5.toNat)) 0++b0.drop ((t5.toNat)+(((b0.length:Int).toNat)-(t5.toNat))))
 if(0:Int)<=(0:Int)/\(0:Int)<=t5/\t5<=(x6.length:Int)then(
 some (((),()),((),((x6.drop 0).take ((t5.toNat)-0)),())))else none)else none)
def B4:Nat->Db
 |0=>fun _ _ _ _=>none
 |n+1=>FC (B4 n)
def E5(R5:Db)(p1:AD5)(b0:AAC):Option Cm:=
 (EB b0 (p1.1,())).bind fun u1=>
 cond (u1.1.1==(-1))
  (some (((),()),((),b0,())))
 (R5 (p1.1,()) u1.1.1 (Aa (u1.1.1+1)) b0)
def Cx(p1:AD5)(b0:AAC):Option Cm:=E5 (B4 Ae) p1 b0
abbrev YM:Type:=ACu×AC2
def HY(p0:AAC)(p1:Int):Option YM:=
 (DT p0).bind fun u1=>
 (Cx ((p1,()),()) u1.2.1).bind fun u2=>
 some (((),()),(u2.2.2.1,()))
abbrev LA:Type:=AFk×AEQ
abbrev Oq:Type:=Int->AB_->Int->Int->Int->AB_->Int->AB_->Option LA
def RW(R5:Oq)(t2:Int)(t19:AB_)(t20 t21 AR:Int)(b1:AB_)(bC:Int)(b3:AB_):Option LA:=
 cond (decide (t21<t20))
  (if(0:Int)<=t21/\t21<(t19.length:Int)then(
  cond (!((t19.getD (t21.toNat) ([],[],false,())).2.2.1))
   ((HY ((t19.getD (t21.toNat) ([],[],false,())).2.1) t2).bind fun u5=>
   if(0:Int)<=t21/\t21<(b3.length:Int)then(
   R5 t2 t19 t20 (Aa (t21+1)) AR b1 bC (b3.set (t21.toNat) ((b3.getD (t21.toNat) ([],[],false,())).1,u5.2.1,(b3.getD (t21.toNat) ([],[],false,())).2.2.1,())))else none)
  (R5 t2 t19 t20 (Aa (t21+1)) AR b1 bC b3))else none)
 (some ((((bC,(),()),true,()),()),(b3,())))
def IA:Nat->Oq
 |0=>fun _ _ _ _ _ _ _ _=>none
 |n+1=>RW (IA n)
def Ri(R5:Oq)(p0:ABU)(p1:ACG)(p2:Int):Option LA:=
 (Gn (p0.1,p0.2.1,()) (p1.1,p1.2.1,())).bind fun u1=>
 cond (!u1.1.1)
  (some ((((0,(),()),false,()),()),([],())))
 ((GC (p1.1,p1.2.1,())).bind fun u2=>
 R5 p2 p1.2.1 (p1.2.1.length:Int) 0 0 [] u2.1.1.1 u2.2.1)
def N1(p0:ABU)(p1:ACG)(p2:Int):Option LA:=Ri (IA Ae) p0 p1 p2
abbrev Nx:Type:=AER×AEH
abbrev Qw:Type:=Int->List AAC->Int->Int->Int->Int->Bool->List Int->ABR->List AAC->Int->Int->Bool->List Int->ABR->List AAC->Option Nx
def TU(R5:Qw)(t2:Int)(t19:List AAC)(t20 t21 AR AE:Int)(Cd:Bool)(b1:AAC)(b2:ABR)(b3:List AAC)(yw zB:Int)(yT:Bool)(b5:AAC)(b6:ABR)(b7:List AAC):Option Nx:=
 cond (decide (t21<t20))
  (if(0:Int)<=t21/\t21<(t19.length:Int)then(
  (HY (t19.getD (t21.toNat) []) t2).bind fun u4=>
  if(0:Int)<=t21/\t21<(b7.length:Int)then(
  R5 t2 t19 t20 (Aa (t21+1)) AR AE Cd b1 b2 b3 yw zB yT b5 b6 (b7.set (t21.toNat) u4.2.1))else none)else none)
 (some ((((yw,zB,(),(),yT,(),()),true,()),()),(b5,b6,b7,())))
def Jn:Nat->Qw
 |0=>fun _ _ _ _ _ _ _ _ _ _ _ _ _ _ _ _=>none
 |n+1=>TU (Jn n)
def TZ(R5:Qw)(p0:ABU)(p1:ABr)(p2:Int):Option Nx:=
 (Hw (p0.1,p0.2.1,()) (p1.1,p1.2.1,p1.2.2.1,p1.2.2.2.1,p1.2.2.2.2.1,p1.2.2.2.2.2.1,())).bind fun u1=>
 cond (!u1.1.1)
  (some ((((0,0,(),(),false,(),()),false,()),()),([],[],[],())))
 ((Gp (p1.1,p1.2.1,p1.2.2.1,p1.2.2.2.1,p1.2.2.2.2.1,p1.2.2.2.2.2.1,())).bind fun u2=>
 R5 p2 p1.2.2.2.2.2.1 (p1.2.2.2.2.2.1.length:Int) 0 0 0 false [] [] [] u2.1.1.1 u2.1.1.2.1 u2.1.1.2.2.2.2.1 u2.2.1 u2.2.2.1 u2.2.2.2.1)
def QR(p0:ABU)(p1:ABr)(p2:Int):Option Nx:=TZ (Jn Ae) p0 p1 p2
abbrev Gv:Type:=ABu×AHV
abbrev MT:Type:=Int->Int->Int->Int->Int->Bool->List Int->AAT->List Int->AAU->ABO->ABP->AAq->AA1->List Int->Option Gv
abbrev LI:Type:=Int->Int->Int->Int->Int->Bool->List Int->AAT->List Int->AAU->ABO->ABP->AAq->AA1->List Int->Option Gv
def TP(R7:MT)(R12:LI)(t1 t36 t37 AE AS:Int)(AK:Bool)(b1:AAC)(b2:AAT)(b3:AAC)(b4:AAU)(b5:ABO)(b6:ABP)(b7:AAq)(b8:AA1)(b9:AAC):Option Gv:=
 cond (decide (t37<t36))
  (if(0:Int)<=t37/\t37<(b5.length:Int)then(
  (N1 (b1,AE,()) ((b5.getD (t37.toNat) (0,[],())).1,(b5.getD (t37.toNat) (0,[],())).2.1,()) t1).bind fun u4=>
  if(0:Int)<=t37/\t37<(b5.length:Int)then(
  R7 t1 t36 (Aa (t37+1)) AE AS AK b1 b2 b3 b4 (b5.set (t37.toNat) (u4.1.1.1.1,u4.2.1,())) b6 b7 b8 b9)else none)else none)
 (R12 t1 (b6.length:Int) 0 AE AS AK b1 b2 b3 b4 b5 b6 b7 b8 b9)
def Ru(R7:MT)(R12:LI)(t1 t63 t64 AE AS:Int)(AK:Bool)(b1:AAC)(b2:AAT)(b3:AAC)(b4:AAU)(b5:ABO)(b6:ABP)(b7:AAq)(b8:AA1)(b9:AAC):Option Gv:=
 cond (decide (t64<t63))
  (if(0:Int)<=t64/\t64<(b6.length:Int)then(
  (QR (b1,AE,()) ((b6.getD (t64.toNat) (0,0,[],[],false,[],())).1,(b6.getD (t64.toNat) (0,0,[],[],false,[],())).2.1,(b6.getD (t64.toNat) (0,0,[],[],false,[],())).2.2.1,(b6.getD (t64.toNat) (0,0,[],[],false,[],())).2.2.2.1,(b6.getD (t64.toNat) (0,0,[],[],false,[],())).2.2.2.2.1,(b6.getD (t64.toNat) (0,0,[],[],false,[],())).2.2.2.2.2.1,()) t1).bind fun u6=>
  if(0:Int)<=t64/\t64<(b6.length:Int)then(
  R12 t1 t63 (Aa (t64+1)) AE AS AK b1 b2 b3 b4 b5 (b6.set (t64.toNat) (u6.1.1.1.1,u6.1.1.1.2.1,u6.2.1,u6.2.2.1,u6.1.1.1.2.2.2.2.1,u6.2.2.2.1,())) b7 b8 b9)else none)else none)
 (cond (AK)
  (some ((0,()),(((),AE,(),(),(),AS,(),(),(),(),true,()),b1,b2,(),b4,b5,b6,b7,b8,b9,())))
 ((G3 (b1,AE,()) b9).bind fun u8=>
 some ((0,()),(((),AE,(),(),(),AS,(),(),(),(),u8.1.1,()),b1,b2,(),b4,b5,b6,b7,b8,b9,()))))
mutual
def HZ:Nat->MT
 |0=>fun _ _ _ _ _ _ _ _ _ _ _ _ _ _ _=>none
 |n+1=>TP (HZ n) (HA n)
def HA:Nat->LI
 |0=>fun _ _ _ _ _ _ _ _ _ _ _ _ _ _ _=>none
 |n+1=>Ru (HZ n) (HA n)
end
def Tb(R7:MT)(R12:LI)(p1 AE AS:Int)(AK:Bool)(b1:AAC)(b2:AAT)(b3:AAC)(b4:AAU)(b5:ABO)(b6:ABP)(b7:AAq)(b8:AA1):Option Gv:=
 (Ed (b1,AE,b2,b3,b4,AS,b5,b6,b7,b8,AK,()) p1).bind fun u1=>
 cond (u1.1.1 !=0)
  (some ((u1.1.1,()),(((),AE,(),(),(),AS,(),(),(),(),AK,()),b1,b2,(),b4,b5,b6,b7,b8,b3,())))
 (if(0:Int)<=p1/\p1<(b2.length:Int)then(
 (Kv b3 p1).bind fun u3=>
 R7 p1 (b5.length:Int) 0 AE AS AK b1 (b2.set (p1.toNat) ([],[],0,())) b3 b4 b5 b6 b7 b8 u3.2.1)else none)
def QW(p1 AE AS:Int)(AK:Bool)(b1:AAC)(b2:AAT)(b3:AAC)(b4:AAU)(b5:ABO)(b6:ABP)(b7:AAq)(b8:AA1):Option Gv:=Tb (HZ Ae) (HA Ae) p1 AE AS AK b1 b2 b3 b4 b5 b6 b7 b8
abbrev sx:Type:=ABq×Unit
def Ze(p0:ABU)(p1:AAC):Option sx:=
 (EH (p0.1,p0.2.1,()) p1).bind fun u1=>
 cond (u1.1.1)
  ((G3 (p0.1,p0.2.1,()) p1).bind fun u2=>
  some ((!u2.1.1,()),()))
 (some ((false,()),()))
abbrev Pe:Type:=ACu×AEa
abbrev Uc:Type:=AAT->Int->Int->ABR->Option Pe
abbrev UN:Type:=AAT->Int->Int->ABR->Int->Int->ABR->Option Pe
def bT(R3:Uc)(R8:UN)(t9:AAT)(t10 t11:Int)(b0:ABR):Option Pe:=
 cond (decide (t11<t10))
  (if(0:Int)<=t11/\t11<(t9.length:Int)then(
  (FT ((t9.getD (t11.toNat) ([],[],0,())).1,(t9.getD (t11.toNat) ([],[],0,())).2.1,(t9.getD (t11.toNat) ([],[],0,())).2.2.1,())).bind fun u1=>
  cond (!u1.1.1)
   (some (((),()),([],())))
  (R8 t9 t10 t11 ((t9.getD (t11.toNat) ([],[],0,())).1) (((t9.getD (t11.toNat) ([],[],0,())).1).length:Int) 0 b0))else none)
 (some (((),()),(b0,())))
def bS(R3:Uc)(R8:UN)(t9:AAT)(t10 t11:Int)(t19:ABR)(t20 t21:Int)(b0:ABR):Option Pe:=
 cond (decide (t21<t20))
  (if(0:Int)<=t21/\t21<(t19.length:Int)then(
  (W_ ((t19.getD (t21.toNat) (0,0,false,[],())).1,(t19.getD (t21.toNat) (0,0,false,[],())).2.1,(t19.getD (t21.toNat) (0,0,false,[],())).2.2.1,(t19.getD (t21.toNat) (0,0,false,[],())).2.2.2.1,()) b0).bind fun u3=>
  R8 t9 t10 t11 t19 t20 (Aa (t21+1)) u3.2.2.1)else none)
 (R3 t9 t10 (Aa (t11+1)) b0)
mutual
def NK:Nat->Uc
 |0=>fun _ _ _ _=>none
 |n+1=>bT (NK n) (NS n)
def NS:Nat->UN
 |0=>fun _ _ _ _ _ _ _=>none
 |n+1=>bS (NK n) (NS n)
end
def lq(R3:Uc)(R8:UN)(p0:AAT):Option Pe:=
 R3 p0 (p0.length:Int) 0 []
def iq(p0:AAT):Option Pe:=lq (NK Ae) (NS Ae) p0
abbrev VF:Type:=AEJ×AHU
abbrev cZ:Type:=List Int->Int->Int->Int->AAT->Int->ABR->ABR->AAT->Option VF
def cx(R5:cZ)(t2:AAC)(t4 t37 t38:Int)(b0:AAT)(EM:Int)(b2 b3:ABR)(b4:AAT):Option VF:=
 cond (decide (t38<t37))
  (if(0:Int)<=t38/\t38<(b0.length:Int)then(
  (Bz t2 t38).bind fun u4=>
  cond (u4.1.1)
   (R5 t2 t4 t37 (Aa (t38+1)) b0 EM b2 b3 b4)
  ((FT ((b0.getD (t38.toNat) ([],[],0,())).1,(b0.getD (t38.toNat) ([],[],0,())).2.1,(b0.getD (t38.toNat) ([],[],0,())).2.2.1,())).bind fun u5=>
  cond (!u5.1.1)
   (some (((((),(),0,()),false,()),()),(b0,[],[],())))
  (if b4.length+1<=D8 then(
  R5 t2 t4 t37 (Aa (t38+1)) b0 EM b2 b3 (b4++[((b0.getD (t38.toNat) ([],[],0,())).1,(b0.getD (t38.toNat) ([],[],0,())).2.1,(b0.getD (t38.toNat) ([],[],0,())).2.2.1,())]))else none)))else none)
 ((iq b4).bind fun u7=>
 (FT (u7.2.1,[],t4,())).bind fun u8=>
 cond (!u8.1.1)
  (some (((((),(),0,()),false,()),()),(b0,[],[],())))
 (some (((((),(),t4,()),true,()),()),(b0,u7.2.1,[],()))))
def R_:Nat->cZ
 |0=>fun _ _ _ _ _ _ _ _ _=>none
 |n+1=>cx (R_ n)
def dH(R5:cZ)(p0:ABU)(p2:AAC)(p3 p4:Int)(b0:AAT):Option VF:=
 cond (((b0.length:Int) !=(p0.1.length:Int)))
  (some (((((),(),0,()),false,()),()),(b0,[],[],())))
 ((Ze (p0.1,p0.2.1,()) p2).bind fun u2=>
 cond (!u2.1.1)
  (some (((((),(),0,()),false,()),()),(b0,[],[],())))
 ((Bz p2 p3).bind fun u3=>
 cond (!u3.1.1)
  (some (((((),(),0,()),false,()),()),(b0,[],[],())))
 (R5 p2 p4 (b0.length:Int) 0 b0 0 [] [] [])))
def ar(p0:ABU)(p2:AAC)(p3 p4:Int)(b0:AAT):Option VF:=dH (R_ Ae) p0 p2 p3 p4 b0
abbrev jR:Type:=ABu×AHV
def KL(p1 AE AS:Int)(AK:Bool)(b1:AAC)(b2:AAT)(b3:AAC)(b4:AAU)(b5:ABO)(b6:ABP)(b7:AAq)(b8:AA1):Option jR:=
 (BC p1 0 (Aa ((b2.length:Int)-1))).bind fun u2=>
 cond (!u2.1.1)
  (some ((2,()),(((),AE,(),(),(),AS,(),(),(),(),AK,()),b1,b2,(),b4,b5,b6,b7,b8,b3,())))
 ((DI (b1,AE,b2,b3,b4,AS,b5,b6,b7,b8,AK,()) p1).bind fun u3=>
 cond (!u3.1.1)
  (some ((2,()),(((),AE,(),(),(),AS,(),(),(),(),AK,()),b1,b2,(),b4,b5,b6,b7,b8,b3,())))
 (let x4:Int:=Aa ((b4.length:Int)-1)
 (ar (b1,AE,()) b3 p1 (if 0>x4 then 0 else x4) b2).bind fun u6=>
 cond (!u6.1.1.2.1)
  (some ((4,()),(((),AE,(),(),(),AS,(),(),(),(),AK,()),b1,u6.2.1,(),b4,b5,b6,b7,b8,b3,())))
 (if(0:Int)<=p1/\p1<(u6.2.1.length:Int)then(
 (HY b3 p1).bind fun u8=>
 some ((0,()),(((),AE,(),(),(),AS,(),(),(),(),AK,()),b1,(u6.2.1.set (p1.toNat) (u6.2.2.1,u6.2.2.2.1,u6.1.1.1.2.2.1,())),(),b4,b5,b6,b7,b8,u8.2.1,())))else none)))
abbrev qC:Type:=AFf×AEH
def jw(p0 p1:Int):Option qC:=
 some (((p1,p0,(),(),false,(),()),()),([],[],[],()))
abbrev Zf:Type:=ABu×(AEN×List Int×AAT×List Int×AAU×ABO×Unit×AAq×AA1×ABP×Unit)
def QX(AE AS:Int)(AK:Bool)(b1:AAC)(b2:AAT)(b3:AAC)(b4:AAU)(b5:ABO)(b6:ABP)(b7:AAq)(b8:AA1):Option Zf:=
 (MF (b4,AS,())).bind fun u1=>
 cond ((decide ((b4.length:Int)<2)))
  (some ((2,()),(((),AE,(),(),(),AS,(),(),(),(),AK,()),b1,b2,b3,b4,b5,(),b7,b8,b6,())))
 (cond ((u1.1.1==(b4.length:Int)))
  (some ((2,()),(((),AE,(),(),(),AS,(),(),(),(),AK,()),b1,b2,b3,b4,b5,(),b7,b8,b6,())))
 (cond ((decide ((b6.length:Int)>0)))
  (some ((4,()),(((),AE,(),(),(),AS,(),(),(),(),AK,()),b1,b2,b3,b4,b5,(),b7,b8,b6,())))
 ((jw u1.1.1 (b4.length:Int)).bind fun u5=>
 some ((0,()),(((),AE,(),(),(),AS,(),(),(),(),AK,()),b1,b2,b3,b4,b5,(),b7,b8,[(u5.1.1.1,u5.1.1.2.1,u5.2.1,u5.2.2.1,u5.1.1.2.2.2.2.1,u5.2.2.2.1,())],())))))
abbrev T_:Type:=AEJ×AEG
def O7(p0:ACt)(p1:Int):Option T_:=
 (OT (p0.1,p0.2.1,p0.2.2.1,())).bind fun u1=>
 cond (!u1.1.1.2.1)
  ((Dx (p0.1,p0.2.1,p0.2.2.1,())).bind fun u2=>
  some (((((),(),u2.1.1.2.2.1,()),false,()),()),(u2.2.1,u2.2.2.1,())))
 ((BC p1 0 30).bind fun u3=>
 cond (!u3.1.1)
  ((Dx (p0.1,p0.2.1,p0.2.2.1,())).bind fun u4=>
  some (((((),(),u4.1.1.2.2.1,()),false,()),()),(u4.2.1,u4.2.2.1,())))
 (some (((((),(),(if p1>u1.1.1.1.2.2.1 then p1 else u1.1.1.1.2.2.1),()),true,()),()),(u1.2.1,u1.2.2.1,()))))
abbrev KS:Type:=ACu×AEa
abbrev T9:Type:=Int->ABR->Int->Int->ABR->Option KS
def V2(R5:T9)(t1:Int)(t14:ABR)(t15 t16:Int)(b0:ABR):Option KS:=
 cond (decide (t16<t15))
  (if(0:Int)<=t16/\t16<(t14.length:Int)then(
  (FR ((t14.getD (t16.toNat) (0,0,false,[],())).1)).bind fun u3=>
  cond (u3.1.1==t1)
   (if b0.length+1<=D8 then(
   R5 t1 t14 t15 (Aa (t16+1)) (b0++[((t14.getD (t16.toNat) (0,0,false,[],())).1,(t14.getD (t16.toNat) (0,0,false,[],())).2.1,(t14.getD (t16.toNat) (0,0,false,[],())).2.2.1,(t14.getD (t16.toNat) (0,0,false,[],())).2.2.2.1,())]))else none)
  (R5 t1 t14 t15 (Aa (t16+1)) b0))else none)
 (some (((),()),(b0,())))
def L5:Nat->T9
 |0=>fun _ _ _ _ _=>none
 |n+1=>V2 (L5 n)
def WC(R5:T9)(p0:ACt)(p1:Int):Option KS:=
 (FT (p0.1,p0.2.1,p0.2.2.1,())).bind fun u1=>
 cond (!u1.1.1)
  (some (((),()),([],())))
 (R5 p1 p0.1 (p0.1.length:Int) 0 [])
def QM(p0:ACt)(p1:Int):Option KS:=WC (L5 Ae) p0 p1
abbrev KK:Type:=AER×AEH
abbrev T0:Type:=ABR->Int->Int->List Int->Int->Int->Int->List Int->ABR->Bool->List AAC->Int->Int->Bool->List Int->ABR->List AAC->Int->Int->Bool->List Int->ABR->List AAC->Option KK
def Vz(R6:T0)(t31:ABR)(t32 t33:Int)(AR:AAC)(AE Cf Bn:Int)(EM:AAC)(HF:ABR)(Mu:Bool)(EO:List AAC)(bC oJ:Int)(wP:Bool)(b3:AAC)(b4:ABR)(b5:List AAC)(vP vN:Int)(wX:Bool)(b7:AAC)(b8:ABR)(b9:List AAC):Option KK:=
 cond (decide (t33<t32))
  (if(0:Int)<=t33/\t33<(t31.length:Int)then(
  (FR ((t31.getD (t33.toNat) (0,0,false,[],())).1)).bind fun u7=>
  cond (u7.1.1==Bn)
   ((W_ ((t31.getD (t33.toNat) (0,0,false,[],())).1,(t31.getD (t33.toNat) (0,0,false,[],())).2.1,(t31.getD (t33.toNat) (0,0,false,[],())).2.2.1,(t31.getD (t33.toNat) (0,0,false,[],())).2.2.2.1,()) b8).bind fun u8=>
   R6 t31 t32 (Aa (t33+1)) AR AE Cf Bn EM HF Mu EO bC oJ wP b3 b4 b5 vP vN wX b7 u8.2.2.1 b9)
  (R6 t31 t32 (Aa (t33+1)) AR AE Cf Bn EM HF Mu EO bC oJ wP b3 b4 b5 vP vN wX b7 b8 b9))else none)
 ((Hw (AR,AE,()) (vP,vN,b7,b8,wX,b9,())).bind fun u9=>
 cond (!u9.1.1)
  ((Gp (Cf,Bn,EM,HF,Mu,EO,())).bind fun EP=>
  some ((((EP.1.1.1,EP.1.1.2.1,(),(),EP.1.1.2.2.2.2.1,(),()),false,()),()),(EP.2.1,EP.2.2.1,EP.2.2.2.1,())))
 (some ((((vP,vN,(),(),wX,(),()),true,()),()),(b7,b8,b9,()))))
def Li:Nat->T0
 |0=>fun _ _ _ _ _ _ _ _ _ _ _ _ _ _ _ _ _ _ _ _ _ _ _=>none
 |n+1=>Vz (Li n)
def WI(R6:T0)(p0:ABU)(p1:ABr)(p2:Int)(p3:ABR):Option KK:=
 (Hw (p0.1,p0.2.1,()) (p1.1,p1.2.1,p1.2.2.1,p1.2.2.2.1,p1.2.2.2.2.1,p1.2.2.2.2.2.1,())).bind fun u1=>
 cond (!u1.1.1)
  ((E6 (p0.1,p0.2.1,()) (p1.1,p1.2.1,p1.2.2.1,p1.2.2.2.1,p1.2.2.2.2.1,p1.2.2.2.2.2.1,())).bind fun u2=>
  some ((((u2.1.1.1,u2.1.1.2.1,(),(),u2.1.1.2.2.2.2.1,(),()),false,()),()),(u2.2.1,u2.2.2.1,u2.2.2.2.1,())))
 (cond (p1.2.2.2.2.1)
  ((E6 (p0.1,p0.2.1,()) (p1.1,p1.2.1,p1.2.2.1,p1.2.2.2.1,p1.2.2.2.2.1,p1.2.2.2.2.2.1,())).bind fun u3=>
  some ((((u3.1.1.1,u3.1.1.2.1,(),(),u3.1.1.2.2.2.2.1,(),()),false,()),()),(u3.2.1,u3.2.2.1,u3.2.2.2.1,())))
 ((Gp (p1.1,p1.2.1,p1.2.2.1,p1.2.2.2.1,p1.2.2.2.2.1,p1.2.2.2.2.2.1,())).bind fun u4=>
 (Kv u4.2.1 p2).bind fun u5=>
 R6 p3 (p3.length:Int) 0 p0.1 p0.2.1 p1.1 p1.2.1 p1.2.2.1 p1.2.2.2.1 p1.2.2.2.2.1 p1.2.2.2.2.2.1 0 0 false [] [] [] u4.1.1.1 u4.1.1.2.1 u4.1.1.2.2.2.2.1 u5.2.1 u4.2.2.1 u4.2.2.2.1))
def QJ(p0:ABU)(p1:ABr)(p2:Int)(p3:ABR):Option KK:=WI (Li Ae) p0 p1 p2 p3
abbrev kQ:Type:=ABu×AEM
def KF(p1 AE AS:Int)(AK:Bool)(b1:AAC)(b2:AAT)(b3:AAC)(b4:AAU)(b5:ABO)(b6:ABP)(b7:AAq)(b8:AA1):Option kQ:=
 cond (((b6.length:Int)==0))
  (some ((2,()),(((),AE,(),(),(),AS,(),(),(),(),AK,()),b1,b2,b3,b4,b5,b6,b7,b8,())))
 (if(0:Int)<=(0:Int)/\(0:Int)<(b6.length:Int)then(
 (Ds (b1,AE,b2,b3,b4,AS,b5,b6,b7,b8,AK,()) p1 ((b6.getD 0 (0,0,[],[],false,[],())).2.1)).bind fun u3=>
 cond (u3.1.1 !=0)
  (some ((u3.1.1,()),(((),AE,(),(),(),AS,(),(),(),(),AK,()),b1,b2,b3,b4,b5,b6,b7,b8,())))
 (if(0:Int)<=p1/\p1<(b2.length:Int)then(
 (O7 ((b2.getD (p1.toNat) ([],[],0,())).1,(b2.getD (p1.toNat) ([],[],0,())).2.1,(b2.getD (p1.toNat) ([],[],0,())).2.2.1,()) (Aa (((b6.getD 0 (0,0,[],[],false,[],())).1)-1))).bind fun u5=>
 (QM (u5.2.1,u5.2.2.1,u5.1.1.1.2.2.1,()) ((b6.getD 0 (0,0,[],[],false,[],())).2.1)).bind fun u7=>
 (QJ (b1,AE,()) ((b6.getD 0 (0,0,[],[],false,[],())).1,(b6.getD 0 (0,0,[],[],false,[],())).2.1,(b6.getD 0 (0,0,[],[],false,[],())).2.2.1,(b6.getD 0 (0,0,[],[],false,[],())).2.2.2.1,(b6.getD 0 (0,0,[],[],false,[],())).2.2.2.2.1,(b6.getD 0 (0,0,[],[],false,[],())).2.2.2.2.2.1,()) p1 u7.2.1).bind fun u8=>
 cond (!u5.1.1.2.1)
  (some ((4,()),(((),AE,(),(),(),AS,(),(),(),(),AK,()),b1,b2,b3,b4,b5,b6,b7,b8,())))
 (cond (!u8.1.1.2.1)
  (some ((4,()),(((),AE,(),(),(),AS,(),(),(),(),AK,()),b1,b2,b3,b4,b5,b6,b7,b8,())))
 (if(0:Int)<=p1/\p1<(b2.length:Int)then(
 if(0:Int)<=(0:Int)/\(0:Int)<(b6.length:Int)then(
 some ((0,()),(((),AE,(),(),(),AS,(),(),(),(),AK,()),b1,(b2.set (p1.toNat) (u5.2.1,u5.2.2.1,u5.1.1.1.2.2.1,())),b3,b4,b5,(b6.set 0 (u8.1.1.1.1,u8.1.1.1.2.1,u8.2.1,u8.2.2.1,u8.1.1.1.2.2.2.2.1,u8.2.2.2.1,())),b7,b8,())))else none)else none)))else none))else none)
abbrev cr:Type:=AER×AEH
def QG(p0:ABU)(p1:ABr)(p2:AAC):Option cr:=
 (Hw (p0.1,p0.2.1,()) (p1.1,p1.2.1,p1.2.2.1,p1.2.2.2.1,p1.2.2.2.2.1,p1.2.2.2.2.2.1,())).bind fun u1=>
 cond (!u1.1.1)
  ((E6 (p0.1,p0.2.1,()) (p1.1,p1.2.1,p1.2.2.1,p1.2.2.2.1,p1.2.2.2.2.1,p1.2.2.2.2.2.1,())).bind fun u2=>
  some ((((u2.1.1.1,u2.1.1.2.1,(),(),u2.1.1.2.2.2.2.1,(),()),false,()),()),(u2.2.1,u2.2.2.1,u2.2.2.2.1,())))
 (cond (p1.2.2.2.2.1)
  ((E6 (p0.1,p0.2.1,()) (p1.1,p1.2.1,p1.2.2.1,p1.2.2.2.1,p1.2.2.2.2.1,p1.2.2.2.2.2.1,())).bind fun u3=>
  some ((((u3.1.1.1,u3.1.1.2.1,(),(),u3.1.1.2.2.2.2.1,(),()),false,()),()),(u3.2.1,u3.2.2.1,u3.2.2.2.1,())))
 ((NO p1.2.2.1 p2).bind fun u4=>
 (HI (p0.1,p0.2.1,()) p2 u4.2.1).bind fun u5=>
 cond (!u5.1.1)
  ((E6 (p0.1,p0.2.1,()) (p1.1,p1.2.1,p1.2.2.1,p1.2.2.2.1,p1.2.2.2.2.1,p1.2.2.2.2.2.1,())).bind fun u6=>
  some ((((u6.1.1.1,u6.1.1.2.1,(),(),u6.1.1.2.2.2.2.1,(),()),false,()),()),(u6.2.1,u6.2.2.1,u6.2.2.2.1,())))
 ((Gp (p1.1,p1.2.1,p1.2.2.1,p1.2.2.2.1,p1.2.2.2.2.1,p1.2.2.2.2.2.1,())).bind fun u7=>
 (S7 (p1.1,p1.2.1,p1.2.2.1,p1.2.2.2.1,p1.2.2.2.2.1,p1.2.2.2.2.2.1,())).bind fun u8=>
 if(0:Int)<=u8.1.1/\u8.1.1<=u8.1.1/\u8.1.1<=(D8:Int)then(
 some ((((u7.1.1.1,u7.1.1.2.1,(),(),true,(),()),true,()),()),(u7.2.1,u7.2.2.1,(List.replicate (u8.1.1.toNat) []),())))else none)))
abbrev jY:Type:=ABu×AEM
def KG(AE AS:Int)(AK:Bool)(b1:AAC)(b2:AAT)(b3:AAC)(b4:AAU)(b5:ABO)(b6:ABP)(b7:AAq)(b8:AA1):Option jY:=
 cond (((b6.length:Int)==0))
  (some ((2,()),(((),AE,(),(),(),AS,(),(),(),(),AK,()),b1,b2,b3,b4,b5,b6,b7,b8,())))
 (if(0:Int)<=(0:Int)/\(0:Int)<(b6.length:Int)then(
 if(0:Int)<=(0:Int)/\(0:Int)<(b6.length:Int)then(
 (I9 (b4,AS,()) ((b6.getD 0 (0,0,[],[],false,[],())).2.1)).bind fun u3=>
 (QG (b1,AE,()) ((b6.getD 0 (0,0,[],[],false,[],())).1,(b6.getD 0 (0,0,[],[],false,[],())).2.1,(b6.getD 0 (0,0,[],[],false,[],())).2.2.1,(b6.getD 0 (0,0,[],[],false,[],())).2.2.2.1,(b6.getD 0 (0,0,[],[],false,[],())).2.2.2.2.1,(b6.getD 0 (0,0,[],[],false,[],())).2.2.2.2.2.1,()) u3.2.1).bind fun u4=>
 if(0:Int)<=(0:Int)/\(0:Int)<(b6.length:Int)then(
 (KM u4.1.1.2.1).bind fun u6=>
 some ((u6.1.1,()),(((),AE,(),(),(),AS,(),(),(),(),AK,()),b1,b2,b3,b4,b5,(b6.set 0 (u4.1.1.1.1,u4.1.1.1.2.1,u4.2.1,u4.2.2.1,u4.1.1.1.2.2.2.2.1,u4.2.2.2.1,())),b7,b8,())))else none)else none)else none)
abbrev mX:Type:=ABu×AEM
def SA(p1 p2 AE AS:Int)(AK:Bool)(b1:AAC)(b2:AAT)(b3:AAC)(b4:AAU)(b5:ABO)(b6:ABP)(b7:AAq)(b8:AA1):Option mX:=
 cond (((b6.length:Int)==0))
  (some ((2,()),(((),AE,(),(),(),AS,(),(),(),(),AK,()),b1,b2,b3,b4,b5,b6,b7,b8,())))
 (if(0:Int)<=(0:Int)/\(0:Int)<(b6.length:Int)then(
 (Jg ((b6.getD 0 (0,0,[],[],false,[],())).1,(b6.getD 0 (0,0,[],[],false,[],())).2.1,(b6.getD 0 (0,0,[],[],false,[],())).2.2.1,(b6.getD 0 (0,0,[],[],false,[],())).2.2.2.1,(b6.getD 0 (0,0,[],[],false,[],())).2.2.2.2.1,(b6.getD 0 (0,0,[],[],false,[],())).2.2.2.2.2.1,()) p1).bind fun u2=>
 cond (!u2.1.1.2.1)
  (some ((2,()),(((),AE,(),(),(),AS,(),(),(),(),AK,()),b1,b2,b3,b4,b5,b6,b7,b8,())))
 (if(0:Int)<=(0:Int)/\(0:Int)<(b6.length:Int)then(
 (Ds (b1,AE,b2,b3,b4,AS,b5,b6,b7,b8,AK,()) p2 ((b6.getD 0 (0,0,[],[],false,[],())).2.1)).bind fun u4=>
 cond (u4.1.1 !=0)
  (some ((u4.1.1,()),(((),AE,(),(),(),AS,(),(),(),(),AK,()),b1,b2,b3,b4,b5,b6,b7,b8,())))
 ((L0 p2 (u2.1.1.1.1,u2.1.1.1.2.1,u2.1.1.1.2.2.1,u2.1.1.1.2.2.2.1,()) AE AS AK b1 b2 b3 b4 b5 b6 b7 b8).bind fun u5=>
 some ((u5.1.1,()),(((),u5.2.1.2.1,(),(),(),u5.2.1.2.2.2.2.2.1,(),(),(),(),u5.2.1.2.2.2.2.2.2.2.2.2.2.1,()),u5.2.2.1,u5.2.2.2.1,u5.2.2.2.2.1,u5.2.2.2.2.2.1,u5.2.2.2.2.2.2.1,u5.2.2.2.2.2.2.2.1,u5.2.2.2.2.2.2.2.2.1,u5.2.2.2.2.2.2.2.2.2.1,()))))else none))else none)
abbrev LY:Type:=ABq×Unit
abbrev S_:Type:=List AAC->Int->Int->List Int->Int->Option LY
def VA(R4:S_)(t17:List AAC)(t18 t19:Int)(AR:AAC)(AE:Int):Option LY:=
 cond (decide (t19<t18))
  (if(0:Int)<=t19/\t19<(t17.length:Int)then(
  (G3 (AR,AE,()) (t17.getD (t19.toNat) [])).bind fun u3=>
  cond (!u3.1.1)
   (some ((false,()),()))
  (R4 t17 t18 (Aa (t19+1)) AR AE))else none)
 (some ((true,()),()))
def Kf:Nat->S_
 |0=>fun _ _ _ _ _=>none
 |n+1=>VA (Kf n)
def Us(R4:S_)(p0:ABU)(p1:ABr):Option LY:=
 (Hw (p0.1,p0.2.1,()) (p1.1,p1.2.1,p1.2.2.1,p1.2.2.2.1,p1.2.2.2.2.1,p1.2.2.2.2.2.1,())).bind fun u1=>
 cond (!u1.1.1)
  (some ((false,()),()))
 (cond (!p1.2.2.2.2.1)
  (some ((false,()),()))
 (R4 p1.2.2.2.2.2.1 (p1.2.2.2.2.2.1.length:Int) 0 p0.1 p0.2.1))
def O8(p0:ABU)(p1:ABr):Option LY:=Us (Kf Ae) p0 p1
abbrev dS:Type:=AFs×AEP
def QL(p0:ABU)(p1:ABy)(p2 p3:Int):Option dS:=
 (MF (p1.1,p1.2.1,())).bind fun u1=>
 (K6 (p0.1,p0.2.1,()) (p1.1,p1.2.1,())).bind fun u2=>
 cond (!u2.1.1)
  ((EX (p0.1,p0.2.1,()) (p1.1,p1.2.1,())).bind fun u3=>
  some (((((),u3.1.1.2.1,()),false,()),()),(u3.2.1,())))
 (cond ((p2 !=(p1.1.length:Int)))
  ((EX (p0.1,p0.2.1,()) (p1.1,p1.2.1,())).bind fun u5=>
  some (((((),u5.1.1.2.1,()),false,()),()),(u5.2.1,())))
 (cond (u1.1.1==p2)
  ((EX (p0.1,p0.2.1,()) (p1.1,p1.2.1,())).bind fun u6=>
  some (((((),u6.1.1.2.1,()),false,()),()),(u6.2.1,())))
 ((BC p3 0 60).bind fun u7=>
 cond (!u7.1.1)
  ((EX (p0.1,p0.2.1,()) (p1.1,p1.2.1,())).bind fun u8=>
  some (((((),u8.1.1.2.1,()),false,()),()),(u8.2.1,())))
 ((En (p1.1,p1.2.1,())).bind fun u9=>
 if(0:Int)<=Aa (u1.1.1-1)/\Aa (u1.1.1-1)<(u9.2.1.length:Int)then(
 let x10:AAU:=(u9.2.1.set ((Aa (u1.1.1-1)).toNat) ((u9.2.1.getD ((Aa (u1.1.1-1)).toNat) ([],false,0,())).1,true,(u9.2.1.getD ((Aa (u1.1.1-1)).toNat) ([],false,0,())).2.2.1,()))
 if(0:Int)<=Aa (u1.1.1-1)/\Aa (u1.1.1-1)<(x10.length:Int)then(
 some (((((),u9.1.1.2.1,()),true,()),()),((x10.set ((Aa (u1.1.1-1)).toNat) ((x10.getD ((Aa (u1.1.1-1)).toNat) ([],false,0,())).1,(x10.getD ((Aa (u1.1.1-1)).toNat) ([],false,0,())).2.1,p3,())),())))else none)else none))))
abbrev X8:Type:=ABu×(AEN×List Int×AAT×List Int×Unit×ABO×Unit×AAq×AA1×AAU×ABP×Unit)
def JP(AE AS:Int)(AK:Bool)(b1:AAC)(b2:AAT)(b3:AAC)(b4:AAU)(b5:ABO)(b6:ABP)(b7:AAq)(b8:AA1):Option X8:=
 cond (((b6.length:Int)==0))
  (some ((2,()),(((),AE,(),(),(),AS,(),(),(),(),AK,()),b1,b2,b3,(),b5,(),b7,b8,b4,b6,())))
 (if(0:Int)<=(0:Int)/\(0:Int)<(b6.length:Int)then(
 (O8 (b1,AE,()) ((b6.getD 0 (0,0,[],[],false,[],())).1,(b6.getD 0 (0,0,[],[],false,[],())).2.1,(b6.getD 0 (0,0,[],[],false,[],())).2.2.1,(b6.getD 0 (0,0,[],[],false,[],())).2.2.2.1,(b6.getD 0 (0,0,[],[],false,[],())).2.2.2.2.1,(b6.getD 0 (0,0,[],[],false,[],())).2.2.2.2.2.1,())).bind fun u2=>
 cond (!u2.1.1)
  (some ((5,()),(((),AE,(),(),(),AS,(),(),(),(),AK,()),b1,b2,b3,(),b5,(),b7,b8,b4,b6,())))
 (if(0:Int)<=(0:Int)/\(0:Int)<(b6.length:Int)then(
 if(0:Int)<=(0:Int)/\(0:Int)<(b6.length:Int)then(
 (QL (b1,AE,()) (b4,AS,()) ((b6.getD 0 (0,0,[],[],false,[],())).1) (((b6.getD 0 (0,0,[],[],false,[],())).2.2.2.2.2.1).length:Int)).bind fun u5=>
 cond (u5.1.1.2.1)
  ((KM u5.1.1.2.1).bind fun u6=>
  some ((u6.1.1,()),(((),AE,(),(),(),u5.1.1.1.2.1,(),(),(),(),AK,()),b1,b2,b3,(),b5,(),b7,b8,u5.2.1,[],())))
 ((KM u5.1.1.2.1).bind fun u7=>
 some ((u7.1.1,()),(((),AE,(),(),(),AS,(),(),(),(),AK,()),b1,b2,b3,(),b5,(),b7,b8,b4,b6,()))))else none)else none))else none)
abbrev qM:Type:=AFs×AEP
def Ww(p0:ABU)(p1:ABy)(p2:Int):Option qM:=
 (K6 (p0.1,p0.2.1,()) (p1.1,p1.2.1,())).bind fun u1=>
 cond (!u1.1.1)
  ((EX (p0.1,p0.2.1,()) (p1.1,p1.2.1,())).bind fun u2=>
  some (((((),u2.1.1.2.1,()),false,()),()),(u2.2.1,())))
 ((FR p2).bind fun u3=>
 (BC u3.1.1 1 (p1.1.length:Int)).bind fun u4=>
 cond (!u4.1.1)
  ((EX (p0.1,p0.2.1,()) (p1.1,p1.2.1,())).bind fun u5=>
  some (((((),u5.1.1.2.1,()),false,()),()),(u5.2.1,())))
 ((En (p1.1,p1.2.1,())).bind fun u6=>
 some (((((),(if p2>u6.1.1.2.1 then p2 else u6.1.1.2.1),()),true,()),()),(u6.2.1,()))))
abbrev iC:Type:=ABq×Unit
def PS(p0:ADr)(p1:ABu):Option iC:=
 some ((decide (p0.1<=p1.1),()),())
abbrev Bw:Type:=ABu×Unit
abbrev Ch:Type:=ABR->AD5->Int->Int->Option Bw
def Dh(R2:Ch)(t0:ABR)(t1:AD5)(t7 t8:Int):Option Bw:=
 cond (decide (t8<t7))
  (if(0:Int)<=t8/\t8<(t0.length:Int)then(
  (PS ((t0.getD (t8.toNat) (0,0,false,[],())).1,(t0.getD (t8.toNat) (0,0,false,[],())).2.1,(t0.getD (t8.toNat) (0,0,false,[],())).2.2.1,(t0.getD (t8.toNat) (0,0,false,[],())).2.2.2.1,()) t1.1).bind fun u1=>
  cond (u1.1.1)
   (some ((t8,()),()))
  (R2 t0 (t1.1,()) t7 (Aa (t8+1))))else none)
 (some (((-1),()),()))
def BV:Nat->Ch
 |0=>fun _ _ _ _=>none
 |n+1=>Dh (BV n)
def Df(R2:Ch)(p0:ABR)(p1:AD5):Option Bw:=
 R2 p0 (p1.1,()) (p0.length:Int) 0
def Cw(p0:ABR)(p1:AD5):Option Bw:=Df (BV Ae) p0 p1
abbrev Bu:Type:=ACu×AHJ
abbrev Cc:Type:=AD5->Int->Int->ABR->Option Bu
def De(R5:Cc)(t1:AD5)(t5 t6:Int)(b0:ABR):Option Bu:=
 cond ((decide (t6<(b0.length:Int))))
  (if(0:Int)<=t6/\t6<(b0.length:Int)then(
  (PS ((b0.getD (t6.toNat) (0,0,false,[],())).1,(b0.getD (t6.toNat) (0,0,false,[],())).2.1,(b0.getD (t6.toNat) (0,0,false,[],())).2.2.1,(b0.getD (t6.toNat) (0,0,false,[],())).2.2.2.1,()) t1.1).bind fun u3=>
  cond (!u3.1.1)
   (if(0:Int)<=t5/\t5<(b0.length:Int)then(
   R5 (t1.1,()) (Aa (t5+1)) (Aa (t6+1)) (b0.set (t5.toNat) ((b0.getD (t6.toNat) (0,0,false,[],())).1,(b0.getD (t6.toNat) (0,0,false,[],())).2.1,(b0.getD (t6.toNat) (0,0,false,[],())).2.2.1,(b0.getD (t6.toNat) (0,0,false,[],())).2.2.2.1,())))else none)
  (R5 (t1.1,()) t5 (Aa (t6+1)) b0))else none)
 (if(0:Int)<=t5/\t5<=(b0.length:Int)/\(b0.length:Int)<=(b0.length:Int)then(
 let x5:ABR:=(b0.take (t5.toNat)++List.replicate (((b0.length:Int).toNat)-(t5.toNat)) (0,0,false,[],())++b0.drop ((t5.toNat)+(((b0.length:Int).toNat)-(t5.toNat))))
 if(0:Int)<=(0:Int)/\(0:Int)<=t5/\t5<=(x5.length:Int)then(
 some (((),()),((),((x5.drop 0).take ((t5.toNat)-0)),())))else none)else none)
def BT:Nat->Cc
 |0=>fun _ _ _ _=>none
 |n+1=>De (BT n)
def DZ(R5:Cc)(p1:AD5)(b0:ABR):Option Bu:=
 (Cw b0 (p1.1,())).bind fun u1=>
 cond (u1.1.1==(-1))
  (some (((),()),((),b0,())))
 (R5 (p1.1,()) u1.1.1 (Aa (u1.1.1+1)) b0)
def B5(p1:AD5)(b0:ABR):Option Bu:=DZ (BT Ae) p1 b0
abbrev lG:Type:=AEJ×AEG
def SF(p0:ACt)(p1:Int):Option lG:=
 (FT (p0.1,p0.2.1,p0.2.2.1,())).bind fun u1=>
 cond (!u1.1.1)
  ((Dx (p0.1,p0.2.1,p0.2.2.1,())).bind fun u2=>
  some (((((),(),u2.1.1.2.2.1,()),false,()),()),(u2.2.1,u2.2.2.1,())))
 ((Dw p1).bind fun u3=>
 cond (!u3.1.1)
  ((Dx (p0.1,p0.2.1,p0.2.2.1,())).bind fun u4=>
  some (((((),(),u4.1.1.2.2.1,()),false,()),()),(u4.2.1,u4.2.2.1,())))
 ((DN (p0.1,p0.2.1,p0.2.2.1,())).bind fun u5=>
 (B5 ((p1,()),()) u5.2.1).bind fun u6=>
 some (((((),(),u5.1.1.2.2.1,()),true,()),()),(u6.2.2.1,u5.2.2.1,()))))
abbrev iZ:Type:=ABu×AEM
def PK(p1 AE AS:Int)(AK:Bool)(b1:AAC)(b2:AAT)(b3:AAC)(b4:AAU)(b5:ABO)(b6:ABP)(b7:AAq)(b8:AA1):Option iZ:=
 (Ed (b1,AE,b2,b3,b4,AS,b5,b6,b7,b8,AK,()) p1).bind fun u1=>
 cond (u1.1.1 !=0)
  (some ((u1.1.1,()),(((),AE,(),(),(),AS,(),(),(),(),AK,()),b1,b2,b3,b4,b5,b6,b7,b8,())))
 (if(0:Int)<=p1/\p1<(b2.length:Int)then(
 (SF ((b2.getD (p1.toNat) ([],[],0,())).1,(b2.getD (p1.toNat) ([],[],0,())).2.1,(b2.getD (p1.toNat) ([],[],0,())).2.2.1,()) AS).bind fun u2=>
 if(0:Int)<=p1/\p1<(b2.length:Int)then(
 (KM u2.1.1.2.1).bind fun u4=>
 some ((u4.1.1,()),(((),AE,(),(),(),AS,(),(),(),(),AK,()),b1,(b2.set (p1.toNat) (u2.2.1,u2.2.2.1,u2.1.1.1.2.2.1,())),b3,b4,b5,b6,b7,b8,())))else none)else none)
abbrev OE:Type:=ACu×(Unit×ABO×Unit)
def FP(p1 p2:Int)(b0:ABO):Option OE:=(AEx p1 p2 b0).map fun l=>(((),()),((),l,()))
abbrev cy:Type:=ABu×(AEN×List Int×AAT×Unit×Unit×Unit×Unit×AAq×Unit×List Int×AAU×ABO×ABP×AA1×Unit)
def Uk(p1:ADN)(AE AS:Int)(AK:Bool)(b1:AAC)(b2:AAT)(b3:AAC)(b4:AAU)(b5:ABO)(b6:ABP)(b7:AAq)(b8:AA1):Option cy:=
 cond (p1.1==1)
  ((KV p1.2.1 AE AS AK b1 b2 b3 b4 b5 b6 b7 b8).bind fun u1=>
  some ((u1.1.1,()),(((),u1.2.1.2.1,(),(),(),u1.2.1.2.2.2.2.2.1,(),(),(),(),u1.2.1.2.2.2.2.2.2.2.2.2.2.1,()),u1.2.2.1,u1.2.2.2.1,(),(),(),(),u1.2.2.2.2.2.2.2.2.1,(),u1.2.2.2.2.1,u1.2.2.2.2.2.2.2.2.2.2.1,u1.2.2.2.2.2.2.2.2.2.2.2.1,u1.2.2.2.2.2.2.2.2.2.2.2.2.1,u1.2.2.2.2.2.2.2.2.2.1,())))
 (cond (p1.1==2)
  ((L2 p1.2.1 p1.2.2.2.2.1 AE AS AK b1 b2 b3 b4 b5 b6 b7 b8).bind fun u6=>
  some ((u6.1.1,()),(((),u6.2.1.2.1,(),(),(),u6.2.1.2.2.2.2.2.1,(),(),(),(),u6.2.1.2.2.2.2.2.2.2.2.2.2.1,()),u6.2.2.1,u6.2.2.2.1,(),(),(),(),u6.2.2.2.2.2.2.2.2.1,(),u6.2.2.2.2.1,u6.2.2.2.2.2.1,u6.2.2.2.2.2.2.1,u6.2.2.2.2.2.2.2.1,u6.2.2.2.2.2.2.2.2.2.2.1,())))
 (cond (p1.1==3)
  ((JQ (p1.1,p1.2.1,p1.2.2.1,p1.2.2.2.1,p1.2.2.2.2.1,()) AE AS AK b1 b2 b3 b4 b5 b6 b7 b8).bind fun u8=>
  some ((u8.1.1,()),(((),u8.2.1.2.1,(),(),(),u8.2.1.2.2.2.2.2.1,(),(),(),(),u8.2.1.2.2.2.2.2.2.2.2.2.2.1,()),u8.2.2.1,u8.2.2.2.1,(),(),(),(),u8.2.2.2.2.2.2.2.2.1,(),u8.2.2.2.2.1,u8.2.2.2.2.2.1,u8.2.2.2.2.2.2.1,u8.2.2.2.2.2.2.2.1,u8.2.2.2.2.2.2.2.2.2.1,())))
 (cond (p1.1==4)
  ((Qa p1.2.1 AE AS AK b1 b2 b3 b4 b5 b6 b7 b8).bind fun EP=>
  some ((EP.1.1,()),(((),EP.2.1.2.1,(),(),(),EP.2.1.2.2.2.2.2.1,(),(),(),(),EP.2.1.2.2.2.2.2.2.2.2.2.2.1,()),EP.2.2.1,EP.2.2.2.1,(),(),(),(),EP.2.2.2.2.2.2.2.2.1,(),EP.2.2.2.2.1,EP.2.2.2.2.2.1,EP.2.2.2.2.2.2.1,EP.2.2.2.2.2.2.2.1,EP.2.2.2.2.2.2.2.2.2.1,())))
 (cond (p1.1==5)
  ((Pc p1.2.1 p1.2.2.1 AE AS AK b1 b2 b3 b4 b5 b6 b7 b8).bind fun XC=>
  some ((XC.1.1,()),(((),XC.2.1.2.1,(),(),(),XC.2.1.2.2.2.2.2.1,(),(),(),(),XC.2.1.2.2.2.2.2.2.2.2.2.2.1,()),XC.2.2.1,XC.2.2.2.1,(),(),(),(),XC.2.2.2.2.2.2.2.2.1,(),XC.2.2.2.2.1,XC.2.2.2.2.2.1,XC.2.2.2.2.2.2.1,XC.2.2.2.2.2.2.2.1,XC.2.2.2.2.2.2.2.2.2.1,())))
 (cond (p1.1==6)
  ((QW p1.2.1 AE AS AK b1 b2 b3 b4 b5 b6 b7 b8).bind fun u16=>
  some ((u16.1.1,()),(((),u16.2.1.2.1,(),(),(),u16.2.1.2.2.2.2.2.1,(),(),(),(),u16.2.1.2.2.2.2.2.2.2.2.2.2.1,()),u16.2.2.1,u16.2.2.2.1,(),(),(),(),u16.2.2.2.2.2.2.2.2.1,(),u16.2.2.2.2.2.2.2.2.2.2.1,u16.2.2.2.2.2.1,u16.2.2.2.2.2.2.1,u16.2.2.2.2.2.2.2.1,u16.2.2.2.2.2.2.2.2.2.1,())))
 (cond (p1.1==7)
  ((KL p1.2.1 AE AS AK b1 b2 b3 b4 b5 b6 b7 b8).bind fun TA=>
  some ((TA.1.1,()),(((),TA.2.1.2.1,(),(),(),TA.2.1.2.2.2.2.2.1,(),(),(),(),TA.2.1.2.2.2.2.2.2.2.2.2.2.1,()),TA.2.2.1,TA.2.2.2.1,(),(),(),(),TA.2.2.2.2.2.2.2.2.1,(),TA.2.2.2.2.2.2.2.2.2.2.1,TA.2.2.2.2.2.1,TA.2.2.2.2.2.2.1,TA.2.2.2.2.2.2.2.1,TA.2.2.2.2.2.2.2.2.2.1,())))
 (cond (p1.1==8)
  ((QX AE AS AK b1 b2 b3 b4 b5 b6 b7 b8).bind fun YV=>
  some ((YV.1.1,()),(((),YV.2.1.2.1,(),(),(),YV.2.1.2.2.2.2.2.1,(),(),(),(),YV.2.1.2.2.2.2.2.2.2.2.2.2.1,()),YV.2.2.1,YV.2.2.2.1,(),(),(),(),YV.2.2.2.2.2.2.2.2.1,(),YV.2.2.2.2.1,YV.2.2.2.2.2.1,YV.2.2.2.2.2.2.1,YV.2.2.2.2.2.2.2.2.2.2.1,YV.2.2.2.2.2.2.2.2.2.1,())))
 (cond (p1.1==9)
  ((KF p1.2.1 AE AS AK b1 b2 b3 b4 b5 b6 b7 b8).bind fun YY=>
  some ((YY.1.1,()),(((),YY.2.1.2.1,(),(),(),YY.2.1.2.2.2.2.2.1,(),(),(),(),YY.2.1.2.2.2.2.2.2.2.2.2.2.1,()),YY.2.2.1,YY.2.2.2.1,(),(),(),(),YY.2.2.2.2.2.2.2.2.1,(),YY.2.2.2.2.1,YY.2.2.2.2.2.1,YY.2.2.2.2.2.2.1,YY.2.2.2.2.2.2.2.1,YY.2.2.2.2.2.2.2.2.2.1,())))
 (cond (p1.1==10)
  ((KG AE AS AK b1 b2 b3 b4 b5 b6 b7 b8).bind fun yB=>
  some ((yB.1.1,()),(((),yB.2.1.2.1,(),(),(),yB.2.1.2.2.2.2.2.1,(),(),(),(),yB.2.1.2.2.2.2.2.2.2.2.2.2.1,()),yB.2.2.1,yB.2.2.2.1,(),(),(),(),yB.2.2.2.2.2.2.2.2.1,(),yB.2.2.2.2.1,yB.2.2.2.2.2.1,yB.2.2.2.2.2.2.1,yB.2.2.2.2.2.2.2.1,yB.2.2.2.2.2.2.2.2.2.1,())))
 (cond (p1.1==11)
  ((SA p1.2.2.1 p1.2.2.2.1 AE AS AK b1 b2 b3 b4 b5 b6 b7 b8).bind fun wN=>
  some ((wN.1.1,()),(((),wN.2.1.2.1,(),(),(),wN.2.1.2.2.2.2.2.1,(),(),(),(),wN.2.1.2.2.2.2.2.2.2.2.2.2.1,()),wN.2.2.1,wN.2.2.2.1,(),(),(),(),wN.2.2.2.2.2.2.2.2.1,(),wN.2.2.2.2.1,wN.2.2.2.2.2.1,wN.2.2.2.2.2.2.1,wN.2.2.2.2.2.2.2.1,wN.2.2.2.2.2.2.2.2.2.1,())))
 (cond (p1.1==12)
  ((JP AE AS AK b1 b2 b3 b4 b5 b6 b7 b8).bind fun nA=>
  some ((nA.1.1,()),(((),nA.2.1.2.1,(),(),(),nA.2.1.2.2.2.2.2.1,(),(),(),(),nA.2.1.2.2.2.2.2.2.2.2.2.2.1,()),nA.2.2.1,nA.2.2.2.1,(),(),(),(),nA.2.2.2.2.2.2.2.2.1,(),nA.2.2.2.2.1,nA.2.2.2.2.2.2.2.2.2.2.1,nA.2.2.2.2.2.2.1,nA.2.2.2.2.2.2.2.2.2.2.2.1,nA.2.2.2.2.2.2.2.2.2.1,())))
 (cond (p1.1==13)
  ((Ww (b1,AE,()) (b4,AS,()) p1.2.1).bind fun u42=>
  (KM u42.1.1.2.1).bind fun u43=>
  some ((u43.1.1,()),(((),AE,(),(),(),u42.1.1.1.2.1,(),(),(),(),AK,()),b1,b2,(),(),(),(),b7,(),b3,u42.2.1,b5,b6,b8,())))
 (cond (p1.1==14)
  ((NF p1.2.1 p1.2.2.1 AE AS AK b1 b2 b3 b4 b5 b6 b7 b8).bind fun sy=>
  some ((sy.1.1,()),(((),sy.2.1.2.1,(),(),(),sy.2.1.2.2.2.2.2.1,(),(),(),(),sy.2.1.2.2.2.2.2.2.2.2.2.2.1,()),sy.2.2.1,sy.2.2.2.1,(),(),(),(),sy.2.2.2.2.2.2.2.2.1,(),sy.2.2.2.2.1,sy.2.2.2.2.2.1,sy.2.2.2.2.2.2.1,sy.2.2.2.2.2.2.2.1,sy.2.2.2.2.2.2.2.2.2.1,())))
 (cond (p1.1==16)
  ((PK p1.2.1 AE AS AK b1 b2 b3 b4 b5 b6 b7 b8).bind fun tC=>
  some ((tC.1.1,()),(((),tC.2.1.2.1,(),(),(),tC.2.1.2.2.2.2.2.1,(),(),(),(),tC.2.1.2.2.2.2.2.2.2.2.2.2.1,()),tC.2.2.1,tC.2.2.2.1,(),(),(),(),tC.2.2.2.2.2.2.2.2.1,(),tC.2.2.2.2.1,tC.2.2.2.2.2.1,tC.2.2.2.2.2.2.1,tC.2.2.2.2.2.2.2.1,tC.2.2.2.2.2.2.2.2.2.1,())))
 ((BC p1.2.1 0 (Aa ((b5.length:Int)-1))).bind fun u53=>
 cond (!u53.1.1)
  (some ((2,()),(((),AE,(),(),(),AS,(),(),(),(),AK,()),b1,b2,(),(),(),(),b7,(),b3,b4,b5,b6,b8,())))
 ((FP p1.2.1 (Aa (p1.2.1+1)) b5).bind fun u54=>
 some ((0,()),(((),AE,(),(),(),AS,(),(),(),(),AK,()),b1,b2,(),(),(),(),b7,(),b3,b4,u54.2.2.1,b6,b8,()))))))))))))))))))
abbrev pg:Type:=AED×AEI
def PZ(p0:ABg)(p1:ADN):Option pg:=
 (Ca (p0.1,p0.2.1,p0.2.2.1,p0.2.2.2.1,p0.2.2.2.2.1,p0.2.2.2.2.2.1,p0.2.2.2.2.2.2.1,p0.2.2.2.2.2.2.2.1,p0.2.2.2.2.2.2.2.2.1,p0.2.2.2.2.2.2.2.2.2.1,p0.2.2.2.2.2.2.2.2.2.2.1,())).bind fun u1=>
 cond (!u1.1.1)
  (some (((((),0,(),(),(),0,(),(),(),(),false,()),1,()),()),([],[],[],[],[],[],[],[],())))
 ((Zq (p1.1,p1.2.1,p1.2.2.1,p1.2.2.2.1,p1.2.2.2.2.1,())).bind fun u2=>
 cond (!u2.1.1)
  (some (((((),0,(),(),(),0,(),(),(),(),false,()),1,()),()),([],[],[],[],[],[],[],[],())))
 ((Lm (p0.1,p0.2.1,p0.2.2.1,p0.2.2.2.1,p0.2.2.2.2.1,p0.2.2.2.2.2.1,p0.2.2.2.2.2.2.1,p0.2.2.2.2.2.2.2.1,p0.2.2.2.2.2.2.2.2.1,p0.2.2.2.2.2.2.2.2.2.1,p0.2.2.2.2.2.2.2.2.2.2.1,())).bind fun u3=>
 (Uk (p1.1,p1.2.1,p1.2.2.1,p1.2.2.2.1,p1.2.2.2.2.1,()) u3.1.1.2.1 u3.1.1.2.2.2.2.2.1 u3.1.1.2.2.2.2.2.2.2.2.2.2.1 u3.2.1 u3.2.2.1 u3.2.2.2.1 u3.2.2.2.2.1 u3.2.2.2.2.2.1 u3.2.2.2.2.2.2.1 u3.2.2.2.2.2.2.2.1 u3.2.2.2.2.2.2.2.2.1).bind fun u4=>
 cond (u4.1.1 !=0)
  ((Lm (p0.1,p0.2.1,p0.2.2.1,p0.2.2.2.1,p0.2.2.2.2.1,p0.2.2.2.2.2.1,p0.2.2.2.2.2.2.1,p0.2.2.2.2.2.2.2.1,p0.2.2.2.2.2.2.2.2.1,p0.2.2.2.2.2.2.2.2.2.1,p0.2.2.2.2.2.2.2.2.2.2.1,())).bind fun EP=>
  some (((((),EP.1.1.2.1,(),(),(),EP.1.1.2.2.2.2.2.1,(),(),(),(),EP.1.1.2.2.2.2.2.2.2.2.2.2.1,()),u4.1.1,()),()),(EP.2.1,EP.2.2.1,EP.2.2.2.1,EP.2.2.2.2.1,EP.2.2.2.2.2.1,EP.2.2.2.2.2.2.1,EP.2.2.2.2.2.2.2.1,EP.2.2.2.2.2.2.2.2.1,())))
 (some (((((),u4.2.1.2.1,(),(),(),u4.2.1.2.2.2.2.2.1,(),(),(),(),u4.2.1.2.2.2.2.2.2.2.2.2.2.1,()),0,()),()),(u4.2.2.1,u4.2.2.2.1,u4.2.2.2.2.2.2.2.2.2.2.1,u4.2.2.2.2.2.2.2.2.2.2.2.1,u4.2.2.2.2.2.2.2.2.2.2.2.2.1,u4.2.2.2.2.2.2.2.2.2.2.2.2.2.1,u4.2.2.2.2.2.2.2.2.1,u4.2.2.2.2.2.2.2.2.2.2.2.2.2.2.1,())))))
abbrev Eg:Type:=((AHK×Unit×AHK×Unit)×Unit)×(AEL×AEK×Unit)
abbrev H5:Type:=Int->Int->List Int->Int->Int->Int->Int->Bool->List Int->AAT->List Int->AAU->ABO->ABP->AAq->AA1->Int->Int->Bool->List Int->AAT->List Int->AAU->ABO->ABP->AAq->AA1->Int->List Int->List Int->Option Eg
abbrev H4:Type:=Int->List Int->List Int->Int->Int->Int->Int->Bool->List Int->AAT->List Int->AAU->ABO->ABP->AAq->AA1->Int->Int->Bool->List Int->AAT->List Int->AAU->ABO->ABP->AAq->AA1->List Int->Int->Option Eg
abbrev HR:Type:=Int->Int->List Int->Int->Int->Int->Int->Bool->List Int->AAT->List Int->AAU->ABO->ABP->AAq->AA1->Int->Int->Bool->List Int->AAT->List Int->AAU->ABO->ABP->AAq->AA1->List Int->Int->AAT->List Int->AAU->Int->ABO->ABP->AAq->AA1->Bool->List Int->Int->AAT->List Int->AAU->Int->ABO->ABP->AAq->AA1->Bool->AEK->Option Eg
def RM(R4:H5)(R7:H4)(R14:HR)(t1 t9:Int)(AR:AAC)(AE Am Bn EO:Int)(FK:Bool)(b2:AAC)(b3:AAT)(b4:AAC)(b5:AAU)(b6:ABO)(b7:ABP)(b8:AAq)(b9:AA1)(Dy Et:Int)(DH:Bool)(GD:AAC)(D6:AAT)(Gk:AAC)(Gi:AAU)(EW:ABO)(Eu:ABP)(Fi:AAq)(TB:AA1)(Ce:Int)(b20 b21:AAC):Option Eg:=
 cond ((decide (t9<(b20.length:Int))))
  (if b21.length+1<=D8 then(
  R4 t1 (Aa (t9+1)) AR AE Am Bn EO FK b2 b3 b4 b5 b6 b7 b8 b9 Dy Et DH GD D6 Gk Gi EW Eu Fi TB Ce b20 (b21++[t9]))else none)
 (R7 t1 b21 AR AE Am Bn EO FK b2 b3 b4 b5 b6 b7 b8 b9 Dy Et DH GD D6 Gk Gi EW Eu Fi TB b20 Ce)
def RF(R4:H5)(R7:H4)(R14:HR)(t1:Int)(t8 AR:AAC)(AE Am Bn EO:Int)(FK:Bool)(b2:AAC)(b3:AAT)(b4:AAC)(b5:AAU)(b6:ABO)(b7:ABP)(b8:AAq)(b9:AA1)(Dy Et:Int)(DH:Bool)(GD:AAC)(D6:AAT)(Gk:AAC)(Gi:AAU)(EW:ABO)(Eu:ABP)(Fi:AAq)(TB:AA1)(Dg:AAC)(Ce:Int):Option Eg:=
 cond (decide (Ce>1))
  ((Fa (Dg,Ce,()) t8).bind fun u3=>
  cond (!u3.1.1)
   (R7 t1 t8 AR AE Am Bn EO FK b2 b3 b4 b5 b6 b7 b8 b9 Dy Et DH GD D6 Gk Gi EW Eu Fi TB Dg (Aa (Ce-1)))
  ((Hp (Dg,Ce,())).bind fun u4=>
  (An (Aa (t1+1)) AR AE Am).bind fun u5=>
  R14 u5.1.1 0 u5.2.1.1 u5.2.1.2.1 u5.2.1.2.2.1 Bn EO FK b2 b3 b4 b5 b6 b7 b8 b9 Dy Et DH GD D6 Gk Gi EW Eu Fi TB u4.2.1 u4.1.1.1.2.1 u4.2.2.1 u4.2.2.2.1 u4.2.2.2.2.1 u4.1.1.1.2.2.2.2.2.1 u4.2.2.2.2.2.1 u4.2.2.2.2.2.2.1 u4.2.2.2.2.2.2.2.1 u4.2.2.2.2.2.2.2.2.1 u4.1.1.1.2.2.2.2.2.2.2.2.2.2.1 u4.2.1 u4.1.1.1.2.1 u4.2.2.1 u4.2.2.2.1 u4.2.2.2.2.1 u4.1.1.1.2.2.2.2.2.1 u4.2.2.2.2.2.1 u4.2.2.2.2.2.2.1 u4.2.2.2.2.2.2.2.1 u4.2.2.2.2.2.2.2.2.1 u4.1.1.1.2.2.2.2.2.2.2.2.2.2.1 []))
 ((Hp (Dg,Ce,())).bind fun u6=>
 (An (Aa (t1+1)) AR AE Am).bind fun u7=>
 R14 u7.1.1 0 u7.2.1.1 u7.2.1.2.1 u7.2.1.2.2.1 Bn EO FK b2 b3 b4 b5 b6 b7 b8 b9 Dy Et DH GD D6 Gk Gi EW Eu Fi TB u6.2.1 u6.1.1.1.2.1 u6.2.2.1 u6.2.2.2.1 u6.2.2.2.2.1 u6.1.1.1.2.2.2.2.2.1 u6.2.2.2.2.2.1 u6.2.2.2.2.2.2.1 u6.2.2.2.2.2.2.2.1 u6.2.2.2.2.2.2.2.2.1 u6.1.1.1.2.2.2.2.2.2.2.2.2.2.1 u6.2.1 u6.1.1.1.2.1 u6.2.2.1 u6.2.2.2.1 u6.2.2.2.2.1 u6.1.1.1.2.2.2.2.2.1 u6.2.2.2.2.2.1 u6.2.2.2.2.2.2.1 u6.2.2.2.2.2.2.2.1 u6.2.2.2.2.2.2.2.2.1 u6.1.1.1.2.2.2.2.2.2.2.2.2.2.1 [])
def QE(R4:H5)(R7:H4)(R14:HR)(t14 t15:Int)(AR:AAC)(AE Am Bn EO:Int)(FK:Bool)(b2:AAC)(b3:AAT)(b4:AAC)(b5:AAU)(b6:ABO)(b7:ABP)(b8:AAq)(b9:AA1)(Dy Et:Int)(DH:Bool)(GD:AAC)(D6:AAT)(Gk:AAC)(Gi:AAU)(EW:ABO)(Eu:ABP)(Fi:AAq)(TB:AA1)(Dg:AAC)(Ce:Int)(VU:AAT)(VW:AAC)(VB:AAU)(Ux:Int)(AFH:ABO)(AEv:ABP)(AEh:AAq)(AFM:AA1)(zk:Bool)(ABe:AAC)(ABZ:Int)(ACK:AAT)(ABl:AAC)(ABx:AAU)(ACF:Int)(ACN:ABO)(ACH:ABP)(AA9:AAq)(AA6:AA1)(v7:Bool)(b21:AEK):Option Eg:=
 cond (decide (t15<t14))
  ((Pb (ABe,ABZ,ACK,ABl,ABx,ACF,ACN,ACH,AA9,AA6,v7,()) AR AE Am).bind fun u8=>
  if b21.length+1<=D8 then(
  let x9:AEK:=b21++[(u8.1.1.1,u8.1.1.2.1,u8.1.1.2.2.1,u8.1.1.2.2.2.1,u8.1.1.2.2.2.2.1,())]
  (Wr (ABe,ABZ,ACK,ABl,ABx,ACF,ACN,ACH,AA9,AA6,v7,()) (u8.1.1.1,u8.1.1.2.1,u8.1.1.2.2.1,u8.1.1.2.2.2.1,u8.1.1.2.2.2.2.1,())).bind fun EP=>
  cond (EP.1.1.2.1==0)
   (R14 t14 (Aa (t15+1)) u8.2.1.1 u8.2.1.2.1 u8.2.1.2.2.1 Bn EO FK b2 b3 b4 b5 b6 b7 b8 b9 Dy Et DH GD D6 Gk Gi EW Eu Fi TB Dg Ce VU VW VB Ux AFH AEv AEh AFM zk EP.2.1 EP.1.1.1.2.1 EP.2.2.1 EP.2.2.2.1 EP.2.2.2.2.1 EP.1.1.1.2.2.2.2.2.1 EP.2.2.2.2.2.1 EP.2.2.2.2.2.2.1 EP.2.2.2.2.2.2.2.1 EP.2.2.2.2.2.2.2.2.1 EP.1.1.1.2.2.2.2.2.2.2.2.2.2.1 x9)
  (R14 t14 (Aa (t15+1)) u8.2.1.1 u8.2.1.2.1 u8.2.1.2.2.1 Bn EO FK b2 b3 b4 b5 b6 b7 b8 b9 Dy Et DH GD D6 Gk Gi EW Eu Fi TB Dg Ce VU VW VB Ux AFH AEv AEh AFM zk ABe ABZ ACK ABl ABx ACF ACN ACH AA9 AA6 v7 x9))else none)
 (some ((((Dg,Ce,VU,VW,VB,Ux,AFH,AEv,AEh,AFM,zk,()),(),(ABe,ABZ,ACK,ABl,ABx,ACF,ACN,ACH,AA9,AA6,v7,()),()),()),((AR,AE,Am,()),b21,())))
mutual
def E4:Nat->H5
 |0=>fun _ _ _ _ _ _ _ _ _ _ _ _ _ _ _ _ _ _ _ _ _ _ _ _ _ _ _ _ _ _=>none
 |n+1=>RM (E4 n) (E8 n) (Dt n)
def E8:Nat->H4
 |0=>fun _ _ _ _ _ _ _ _ _ _ _ _ _ _ _ _ _ _ _ _ _ _ _ _ _ _ _ _ _=>none
 |n+1=>RF (E4 n) (E8 n) (Dt n)
def Dt:Nat->HR
 |0=>fun _ _ _ _ _ _ _ _ _ _ _ _ _ _ _ _ _ _ _ _ _ _ _ _ _ _ _ _ _ _ _ _ _ _ _ _ _ _ _ _ _ _ _ _ _ _ _ _ _ _=>none
 |n+1=>QE (E4 n) (E8 n) (Dt n)
end
def Rk(R4:H5)(R7:H4)(R14:HR)(p1:Int)(AR:AAC)(AE Am:Int):Option Eg:=
 (PJ AR AE Am).bind fun u1=>
 R4 p1 0 u1.2.1.1 u1.2.1.2.1 u1.2.1.2.2.1 0 0 false [] [] [] [] [] [] [] [] 0 0 false [] [] [] [] [] [] [] [] u1.1.1.2.1 u1.2.2.1 []
def OB(p1:Int)(AR:AAC)(AE Am:Int):Option Eg:=Rk (E4 Ae) (E8 Ae) (Dt Ae) p1 AR AE Am
abbrev IJ:Type:=((AHK×Unit×Unit)×Unit)×(AEK×Unit)
def HL(p0:AAC):Option IJ:=
 (cT p0).bind fun u1=>
 (ZF p0 100 190).bind fun u2=>
 (OB u2.1.1 u1.2.1.1 u1.2.1.2.1 u1.2.1.2.2.1).bind fun u3=>
 some ((((u3.1.1.1.1,u3.1.1.1.2.1,u3.1.1.1.2.2.1,u3.1.1.1.2.2.2.1,u3.1.1.1.2.2.2.2.1,u3.1.1.1.2.2.2.2.2.1,u3.1.1.1.2.2.2.2.2.2.1,u3.1.1.1.2.2.2.2.2.2.2.1,u3.1.1.1.2.2.2.2.2.2.2.2.1,u3.1.1.1.2.2.2.2.2.2.2.2.2.1,u3.1.1.1.2.2.2.2.2.2.2.2.2.2.1,()),(),()),()),(u3.2.2.1,()))
abbrev GB:Type:=((AEN×Unit×Unit)×Unit)×(List Int×AAT×List Int×AAU×ABO×ABP×AAq×AA1×List Int×Unit)
abbrev T1:Type:=AEK->Int->Int->Int->Int->Bool->List Int->AAT->List Int->AAU->ABO->ABP->AAq->AA1->Int->Int->Bool->List Int->AAT->List Int->AAU->ABO->ABP->AAq->AA1->List Int->Option GB
def V9(R6:T1)(t25:AEK)(t26 t27 AE AS:Int)(AK:Bool)(b1:AAC)(b2:AAT)(b3:AAC)(b4:AAU)(b5:ABO)(b6:ABP)(b7:AAq)(b8:AA1)(EE Fp:Int)(C_:Bool)(LU:AAC)(GD:AAT)(D6:AAC)(Gk:AAU)(Gi:ABO)(EW:ABP)(Eu:AAq)(Fi:AA1)(TB:AAC):Option GB:=
 cond (decide (t27<t26))
  (if(0:Int)<=t27/\t27<(t25.length:Int)then(
  (PZ (LU,EE,GD,D6,Gk,Fp,Gi,EW,Eu,Fi,C_,()) ((t25.getD (t27.toNat) (0,0,0,0,[],())).1,(t25.getD (t27.toNat) (0,0,0,0,[],())).2.1,(t25.getD (t27.toNat) (0,0,0,0,[],())).2.2.1,(t25.getD (t27.toNat) (0,0,0,0,[],())).2.2.2.1,(t25.getD (t27.toNat) (0,0,0,0,[],())).2.2.2.2.1,())).bind fun u4=>
  cond (u4.1.1.2.1==0)
   (if TB.length+1<=D8 then(
   R6 t25 t26 (Aa (t27+1)) AE AS AK b1 b2 b3 b4 b5 b6 b7 b8 u4.1.1.1.2.1 u4.1.1.1.2.2.2.2.2.1 u4.1.1.1.2.2.2.2.2.2.2.2.2.2.1 u4.2.1 u4.2.2.1 u4.2.2.2.1 u4.2.2.2.2.1 u4.2.2.2.2.2.1 u4.2.2.2.2.2.2.1 u4.2.2.2.2.2.2.2.1 u4.2.2.2.2.2.2.2.2.1 (TB++[u4.1.1.2.1]))else none)
  (if TB.length+1<=D8 then(
  R6 t25 t26 (Aa (t27+1)) AE AS AK b1 b2 b3 b4 b5 b6 b7 b8 EE Fp C_ LU GD D6 Gk Gi EW Eu Fi (TB++[u4.1.1.2.1]))else none))else none)
 (some (((((),EE,(),(),(),Fp,(),(),(),(),C_,()),(),()),()),(LU,GD,D6,Gk,Gi,EW,Eu,Fi,TB,())))
def LX:Nat->T1
 |0=>fun _ _ _ _ _ _ _ _ _ _ _ _ _ _ _ _ _ _ _ _ _ _ _ _ _ _=>none
 |n+1=>V9 (LX n)
def WQ(R6:T1)(p0:ABg)(p1:AEK):Option GB:=
 (Lm (p0.1,p0.2.1,p0.2.2.1,p0.2.2.2.1,p0.2.2.2.2.1,p0.2.2.2.2.2.1,p0.2.2.2.2.2.2.1,p0.2.2.2.2.2.2.2.1,p0.2.2.2.2.2.2.2.2.1,p0.2.2.2.2.2.2.2.2.2.1,p0.2.2.2.2.2.2.2.2.2.2.1,())).bind fun u1=>
 cond ((decide ((p1.length:Int)>200)))
  (some (((((),u1.1.1.2.1,(),(),(),u1.1.1.2.2.2.2.2.1,(),(),(),(),u1.1.1.2.2.2.2.2.2.2.2.2.2.1,()),(),()),()),(u1.2.1,u1.2.2.1,u1.2.2.2.1,u1.2.2.2.2.1,u1.2.2.2.2.2.1,u1.2.2.2.2.2.2.1,u1.2.2.2.2.2.2.2.1,u1.2.2.2.2.2.2.2.2.1,[],())))
 ((Ca (p0.1,p0.2.1,p0.2.2.1,p0.2.2.2.1,p0.2.2.2.2.1,p0.2.2.2.2.2.1,p0.2.2.2.2.2.2.1,p0.2.2.2.2.2.2.2.1,p0.2.2.2.2.2.2.2.2.1,p0.2.2.2.2.2.2.2.2.2.1,p0.2.2.2.2.2.2.2.2.2.2.1,())).bind fun u3=>
 cond (!u3.1.1)
  (some (((((),u1.1.1.2.1,(),(),(),u1.1.1.2.2.2.2.2.1,(),(),(),(),u1.1.1.2.2.2.2.2.2.2.2.2.2.1,()),(),()),()),(u1.2.1,u1.2.2.1,u1.2.2.2.1,u1.2.2.2.2.1,u1.2.2.2.2.2.1,u1.2.2.2.2.2.2.1,u1.2.2.2.2.2.2.2.1,u1.2.2.2.2.2.2.2.2.1,[],())))
 (R6 p1 (p1.length:Int) 0 0 0 false [] [] [] [] [] [] [] [] u1.1.1.2.1 u1.1.1.2.2.2.2.2.1 u1.1.1.2.2.2.2.2.2.2.2.2.2.1 u1.2.1 u1.2.2.1 u1.2.2.2.1 u1.2.2.2.2.1 u1.2.2.2.2.2.1 u1.2.2.2.2.2.2.1 u1.2.2.2.2.2.2.2.1 u1.2.2.2.2.2.2.2.2.1 []))
def I7(p0:ABg)(p1:AEK):Option GB:=WQ (LX Ae) p0 p1
abbrev JB:Type:=ABq×Unit
abbrev PC:Type:=Int->Int->Int->Bool->List Int->AAT->List Int->AAU->ABO->ABP->AAq->AA1->Option JB
abbrev M5:Type:=Int->Int->Int->Int->Bool->List Int->AAT->List Int->AAU->ABO->ABP->AAq->AA1->AA1->Option JB
abbrev Mz:Type:=Int->Int->Bool->Int->Int->Int->Bool->List Int->AAT->List Int->AAU->ABO->ABP->AAq->AA1->AA1->Option JB
def N5(R8:PC)(R12:M5)(sg:Mz)(t7 AE AS:Int)(AK:Bool)(b1:AAC)(b2:AAT)(b3:AAC)(b4:AAU)(b5:ABO)(b6:ABP)(b7:AAq)(b8:AA1):Option JB:=
 cond (decide (t7<2))
  ((MI (b1,AE,b2,b3,b4,AS,b5,b6,b7,b8,AK,()) t7).bind fun EP=>
  R12 t7 0 AE AS AK b1 b2 b3 b4 b5 b6 b7 b8 EP.2.1)
 ((Ca (b1,AE,b2,b3,b4,AS,b5,b6,b7,b8,AK,())).bind fun M6=>
 some ((M6.1.1,()),()))
def Mw(R8:PC)(R12:M5)(sg:Mz)(t7 t9 AE AS:Int)(AK:Bool)(b1:AAC)(b2:AAT)(b3:AAC)(b4:AAU)(b5:ABO)(b6:ABP)(b7:AAq)(b8 b9:AA1):Option JB:=
 cond ((decide (t9<(b9.length:Int))))
  (sg t7 t9 false 0 AE AS AK b1 b2 b3 b4 b5 b6 b7 b8 b9)
 (R8 (Aa (t7+1)) AE AS AK b1 b2 b3 b4 b5 b6 b7 b8)
def Q_(R8:PC)(R12:M5)(sg:Mz)(t7 t9:Int)(t10:Bool)(t11 AE AS:Int)(AK:Bool)(b1:AAC)(b2:AAT)(b3:AAC)(b4:AAU)(b5:ABO)(b6:ABP)(b7:AAq)(b8 b9:AA1):Option JB:=
 cond ((decide (t11<(b8.length:Int))))
  (cond (t10)
   (sg t7 t9 true (Aa (t11+1)) AE AS AK b1 b2 b3 b4 b5 b6 b7 b8 b9)
  (if(0:Int)<=t11/\t11<(b8.length:Int)then(
  if(0:Int)<=t9/\t9<(b9.length:Int)then(
  cond (((b8.getD (t11.toNat) (0,[],false,())).1)==((b9.getD (t9.toNat) (0,[],false,())).1))
   (if(0:Int)<=t11/\t11<(b8.length:Int)then(
   if(0:Int)<=t9/\t9<(b9.length:Int)then(
   sg t7 t9 (((b8.getD (t11.toNat) (0,[],false,())).2.1)==((b9.getD (t9.toNat) (0,[],false,())).2.1)) (Aa (t11+1)) AE AS AK b1 b2 b3 b4 b5 b6 b7 b8 b9)else none)else none)
  (sg t7 t9 false (Aa (t11+1)) AE AS AK b1 b2 b3 b4 b5 b6 b7 b8 b9))else none)else none))
 (cond (!t10)
  (some ((false,()),()))
 (cond (decide (t9>0))
  (if(0:Int)<=Aa (t9-1)/\Aa (t9-1)<(b9.length:Int)then(
  if(0:Int)<=t9/\t9<(b9.length:Int)then(
  cond (decide (((b9.getD ((Aa (t9-1)).toNat) (0,[],false,())).1)>=((b9.getD (t9.toNat) (0,[],false,())).1)))
   (some ((false,()),()))
  (R12 t7 (Aa (t9+1)) AE AS AK b1 b2 b3 b4 b5 b6 b7 b8 b9))else none)else none)
 (R12 t7 (Aa (t9+1)) AE AS AK b1 b2 b3 b4 b5 b6 b7 b8 b9)))
mutual
def Cp:Nat->PC
 |0=>fun _ _ _ _ _ _ _ _ _ _ _ _=>none
 |n+1=>N5 (Cp n) (Ck n) (C2 n)
def Ck:Nat->M5
 |0=>fun _ _ _ _ _ _ _ _ _ _ _ _ _ _=>none
 |n+1=>Mw (Cp n) (Ck n) (C2 n)
def C2:Nat->Mz
 |0=>fun _ _ _ _ _ _ _ _ _ _ _ _ _ _ _ _=>none
 |n+1=>Q_ (Cp n) (Ck n) (C2 n)
end
def Rv(R8:PC)(R12:M5)(sg:Mz)(p0:AAC):Option JB:=
 (Xn p0).bind fun u1=>
 cond (u1.1.1)
  (some ((true,()),()))
 ((HL p0).bind fun u2=>
 (I7 (u2.1.1.1.1,u2.1.1.1.2.1,u2.1.1.1.2.2.1,u2.1.1.1.2.2.2.1,u2.1.1.1.2.2.2.2.1,u2.1.1.1.2.2.2.2.2.1,u2.1.1.1.2.2.2.2.2.2.1,u2.1.1.1.2.2.2.2.2.2.2.1,u2.1.1.1.2.2.2.2.2.2.2.2.1,u2.1.1.1.2.2.2.2.2.2.2.2.2.1,u2.1.1.1.2.2.2.2.2.2.2.2.2.2.1,()) u2.2.1).bind fun u3=>
 cond (((u3.2.2.2.2.2.2.2.2.2.1.length:Int) !=(u2.2.1.length:Int)))
  (some ((false,()),()))
 ((Gz (u3.2.1,u3.1.1.1.2.1,u3.2.2.1,u3.2.2.2.1,u3.2.2.2.2.1,u3.1.1.1.2.2.2.2.2.1,u3.2.2.2.2.2.1,u3.2.2.2.2.2.2.1,u3.2.2.2.2.2.2.2.1,u3.2.2.2.2.2.2.2.2.1,u3.1.1.1.2.2.2.2.2.2.2.2.2.2.1,())).bind fun u7=>
 cond (!u7.1.1)
  (some ((false,()),()))
 ((F9 (u3.2.1,u3.1.1.1.2.1,u3.2.2.1,u3.2.2.2.1,u3.2.2.2.2.1,u3.1.1.1.2.2.2.2.2.1,u3.2.2.2.2.2.1,u3.2.2.2.2.2.2.1,u3.2.2.2.2.2.2.2.1,u3.2.2.2.2.2.2.2.2.1,u3.1.1.1.2.2.2.2.2.2.2.2.2.2.1,())).bind fun u8=>
 cond (!u8.1.1)
  (some ((false,()),()))
 ((JE (u3.2.1,u3.1.1.1.2.1,u3.2.2.1,u3.2.2.2.1,u3.2.2.2.2.1,u3.1.1.1.2.2.2.2.2.1,u3.2.2.2.2.2.1,u3.2.2.2.2.2.2.1,u3.2.2.2.2.2.2.2.1,u3.2.2.2.2.2.2.2.2.1,u3.1.1.1.2.2.2.2.2.2.2.2.2.2.1,())).bind fun u9=>
 cond (!u9.1.1)
  (some ((false,()),()))
 (R8 0 u3.1.1.1.2.1 u3.1.1.1.2.2.2.2.2.1 u3.1.1.1.2.2.2.2.2.2.2.2.2.2.1 u3.2.1 u3.2.2.1 u3.2.2.2.1 u3.2.2.2.2.1 u3.2.2.2.2.2.1 u3.2.2.2.2.2.2.1 u3.2.2.2.2.2.2.2.1 u3.2.2.2.2.2.2.2.2.1)))))
def Rf(p0:AAC):Option JB:=Rv (Cp Ae) (Ck Ae) (C2 Ae) p0
end
end Go.M
