/- What each function computes, printed by a program out of the translation; what is printed is checked in the equations. -/
import Derived.Test.YtbjkhapllnkhfaaGreatDoorF1
set_option linter.unusedVariables false
set_option linter.unusedSimpArgs false
set_option linter.unusedSectionVars false
namespace Go.M
open Go.Fw
noncomputable section
abbrev dp:Type:=ABW×ACE
def DD(p0:AAN):Option dp:=
 if 0+p0.length<=Cm then(
 some (((),()),(p0,())))else none
abbrev lp:Type:=AEW×ACE
def IK(p0:AAb):Option lp:=
 (DD p0.1).bind fun u1=>
 some ((((),p0.2.1,()),()),(u1.2.1,()))
abbrev nJ:Type:=AEX×AEJ
def Jb:Option nJ:=
 some (((1,1,(),()),()),([],()))
abbrev ND:Type:=AAg×Unit
def Ay(p0 p1 p2:Int):Option ND:=
 cond (decide (p0>=p1))
  (some ((decide (p0<=p2),()),()))
 (some ((false,()),()))
abbrev QV:Type:=AAg×Unit
abbrev UK:Type:=List Int->Int->Int->List Int->Int->Option QV
def Wf(R2:UK)(t6:AAN)(t7 t8:Int)(AQ:AAN)(AF:Int):Option QV:=
 cond (decide (t8<t7))
  (if(0:Int)<=t8/\t8<(t6.length:Int)then(
  (Ay (t6.getD (t8.toNat) 0) 0 7).bind fun u2=>
  cond (!u2.1.1)
   (some ((false,()),()))
  (R2 t6 t7 (AW (t8+1)) AQ AF))else none)
 ((Ay (AQ.length:Int) 1 8).bind fun u3=>
 cond (u3.1.1)
  ((Ay AF 1 4).bind fun u4=>
  some ((u4.1.1,()),()))
 (some ((false,()),())))
def Lb:Nat->UK
 |0=>fun _ _ _ _ _=>none
 |n+1=>Wf (Lb n)
def Wi(R2:UK)(p0:AAb):Option QV:=
 R2 p0.1 (p0.1.length:Int) 0 p0.1 p0.2.1
def Es(p0:AAb):Option QV:=Wi (Lb AX) p0
abbrev TM:Type:=AAg×Unit
abbrev Wa:Type:=List Int->Int->List Int->Int->Int->Option TM
def RQ(R2:Wa)(t0:AAN)(t1:Int)(t7:AAN)(t8 t9:Int):Option TM:=
 cond (decide (t9<t8))
  (if(0:Int)<=t9/\t9<(t7.length:Int)then(
  let x1:Int:=(t7.getD (t9.toNat) 0)
  (Ay x1 0 t1).bind fun u2=>
  cond (!u2.1.1)
   (some ((false,()),()))
  (cond (decide (t9>0))
   (if(0:Int)<=AW (t9-1)/\AW (t9-1)<(t0.length:Int)then(
   cond (decide ((t0.getD ((AW (t9-1)).toNat) 0)>=x1))
    (some ((false,()),()))
   (R2 t0 t1 t7 t8 (AW (t9+1))))else none)
  (R2 t0 t1 t7 t8 (AW (t9+1)))))else none)
 (some ((true,()),()))
def KF:Nat->Wa
 |0=>fun _ _ _ _ _=>none
 |n+1=>RQ (KF n)
def YZ(R2:Wa)(p0:AAN)(p1:Int):Option TM:=
 R2 p0 p1 p0 (p0.length:Int) 0
def Xi(p0:AAN)(p1:Int):Option TM:=YZ (KF AX) p0 p1
abbrev sD:Type:=AAg×Unit
def D2(p0:AAb)(p1:AAN):Option sD:=
 (Es (p0.1,p0.2.1,())).bind fun u1=>
 cond (u1.1.1)
  ((Xi p1 (AW ((p0.1.length:Int)-1))).bind fun u3=>
  some ((u3.1.1,()),()))
 (some ((false,()),()))
abbrev ql:Type:=AAg×Unit
def HY(p0:Int):Option ql:=
 (Ay p0 1 30).bind fun u1=>
 some ((u1.1.1,()),())
abbrev xJ:Type:=AAg×Unit
def Yz(p0:Int):Option xJ:=
 (Ay p0 1 60).bind fun u1=>
 some ((u1.1.1,()),())
abbrev rX:Type:=AAg×Unit
def C_(p0:Int):Option rX:=
 (HY (AW (p0.tdiv 4294967296))).bind fun u2=>
 cond (u2.1.1)
  ((Yz (p0.tmod 4294967296)).bind fun u3=>
  some ((u3.1.1,()),()))
 (some ((false,()),()))
abbrev ui:Type:=AAg×Unit
def F6(p0:AAZ):Option ui:=
 some (((decide ((p0.length:Int)<=40)),()),())
abbrev rD:Type:=AAv×Unit
def EM(p0:Int):Option rD:=
 (C_ p0).bind fun u1=>
 cond (!u1.1.1)
  (some ((0,()),()))
 (some (((AW (p0.tdiv 4294967296)),()),()))
abbrev q6:Type:=AAg×Unit
def MD(p0:ACv):Option q6:=
 (Ay p0.2.1 0 30).bind fun u1=>
 cond (u1.1.1)
  (cond (p0.2.1==0)
   (cond (!p0.2.2.1)
    ((C_ p0.1).bind fun u2=>
    cond (u2.1.1)
     ((F6 p0.2.2.2.1).bind fun u3=>
     some ((u3.1.1,()),()))
    (some ((false,()),())))
   (cond (decide (p0.2.1>0))
    ((C_ p0.1).bind fun u4=>
    cond (u4.1.1)
     (cond (p0.2.2.2.1==[])
      ((F6 p0.2.2.2.1).bind fun u5=>
      some ((u5.1.1,()),()))
     (some ((false,()),())))
    (some ((false,()),())))
   ((C_ p0.1).bind fun u6=>
   cond (u6.1.1)
    (some ((false,()),()))
   (some ((false,()),())))))
  ((EM p0.1).bind fun u7=>
  let x8:Bool:=decide (p0.2.1>u7.1.1)
  cond (!p0.2.2.1)
   ((C_ p0.1).bind fun u9=>
   cond (u9.1.1)
    (cond (x8)
     ((F6 p0.2.2.2.1).bind fun FE=>
     some ((FE.1.1,()),()))
    (some ((false,()),())))
   (some ((false,()),())))
  (cond (decide (p0.2.1>0))
   ((C_ p0.1).bind fun Hj=>
   cond (Hj.1.1)
    (cond (x8)
     (cond (p0.2.2.2.1==[])
      ((F6 p0.2.2.2.1).bind fun Th=>
      some ((Th.1.1,()),()))
     (some ((false,()),())))
    (some ((false,()),())))
   (some ((false,()),())))
  ((C_ p0.1).bind fun WL=>
  cond (WL.1.1)
   (cond (x8)
    (some ((false,()),()))
   (some ((false,()),())))
  (some ((false,()),()))))))
 (cond (!p0.2.2.1)
  ((C_ p0.1).bind fun Pd=>
  cond (Pd.1.1)
   (some ((false,()),()))
  (some ((false,()),())))
 (cond (decide (p0.2.1>0))
  ((C_ p0.1).bind fun qQ=>
  cond (qQ.1.1)
   (some ((false,()),()))
  (some ((false,()),())))
 ((C_ p0.1).bind fun u16=>
 cond (u16.1.1)
  (some ((false,()),()))
 (some ((false,()),())))))
abbrev PM:Type:=AAg×Unit
abbrev TU:Type:=AAa->Int->Int->Option PM
def O_(R2:TU)(t5:AAa)(t6 t7:Int):Option PM:=
 cond (decide (t7<t6))
  (if(0:Int)<=t7/\t7<(t5.length:Int)then(
  (MD ((t5.getD (t7.toNat) (0,0,false,[],())).1,(t5.getD (t7.toNat) (0,0,false,[],())).2.1,(t5.getD (t7.toNat) (0,0,false,[],())).2.2.1,(t5.getD (t7.toNat) (0,0,false,[],())).2.2.2.1,())).bind fun u1=>
  cond (!u1.1.1)
   (some ((false,()),()))
  (R2 t5 t6 (AW (t7+1))))else none)
 (some ((true,()),()))
def H5:Nat->TU
 |0=>fun _ _ _=>none
 |n+1=>O_ (H5 n)
def Vu(R2:TU)(p0:AAa):Option PM:=
 R2 p0 (p0.length:Int) 0
def PA(p0:AAa):Option PM:=Vu (H5 AX) p0
abbrev LB:Type:=AAg×Unit
abbrev OX:Type:=AAa->AAa->Int->Int->Option LB
def LX(R2:OX)(t0 t5:AAa)(t6 t7:Int):Option LB:=
 cond (decide (t7<t6))
  (if(0:Int)<=t7/\t7<(t5.length:Int)then(
  cond (decide (t7>0))
   (if(0:Int)<=AW (t7-1)/\AW (t7-1)<(t0.length:Int)then(
   cond (decide (((t0.getD ((AW (t7-1)).toNat) (0,0,false,[],())).1)>=((t5.getD (t7.toNat) (0,0,false,[],())).1)))
    (some ((false,()),()))
   (R2 t0 t5 t6 (AW (t7+1))))else none)
  (R2 t0 t5 t6 (AW (t7+1))))else none)
 (some ((true,()),()))
def Fv:Nat->OX
 |0=>fun _ _ _ _=>none
 |n+1=>LX (Fv n)
def Rf(R2:OX)(p0:AAa):Option LB:=
 R2 p0 p0 (p0.length:Int) 0
def Kb(p0:AAa):Option LB:=Rf (Fv AX) p0
abbrev re:Type:=AAg×Unit
def Ey(p0:ABR):Option re:=
 cond ((decide ((p0.1.length:Int)>200)))
  (some ((false,()),()))
 (cond (decide ((p0.2.1.length:Int)>20))
  (some ((false,()),()))
 ((PA p0.1).bind fun u3=>
 cond (u3.1.1)
  ((PA p0.2.1).bind fun u4=>
  cond (u4.1.1)
   ((Kb p0.1).bind fun u5=>
   cond (u5.1.1)
    ((Ay p0.2.2.1 0 30).bind fun u6=>
    some ((u6.1.1,()),()))
   (some ((false,()),())))
  (some ((false,()),())))
 (some ((false,()),()))))
abbrev Im:Type:=AAv×Unit
abbrev L0:Type:=List Int->Int->Int->Int->Option Im
def OD(R2:L0)(t0:AAN)(t1 t7 t8:Int):Option Im:=
 cond (decide (t8<t7))
  (if(0:Int)<=t8/\t8<(t0.length:Int)then(
  cond (t1==(t0.getD (t8.toNat) 0))
   (some ((t8,()),()))
  (R2 t0 t1 t7 (AW (t8+1))))else none)
 (some (((-1),()),()))
def F8:Nat->L0
 |0=>fun _ _ _ _=>none
 |n+1=>OD (F8 n)
def OY(R2:L0)(p0:AAN)(p1:Int):Option Im:=
 R2 p0 p1 (p0.length:Int) 0
def PE(p0:AAN)(p1:Int):Option Im:=OY (F8 AX) p0 p1
abbrev ZS:Type:=AAg×Unit
def Bp(p0:AAN)(p1:Int):Option ZS:=
 (PE p0 p1).bind fun u1=>
 some ((decide (u1.1.1>=0),()),())
abbrev uS:Type:=AAg×Unit
def Re(p0:Int)(p1:ACE):Option uS:=
 (Bp p1.1 p0).bind fun u1=>
 some ((!u1.1.1,()),())
abbrev DK:Type:=AAv×Unit
abbrev ER:Type:=List Int->(ACE×Unit)->Int->Int->Option DK
def D4(R2:ER)(t0:AAN)(t1:ACE×Unit)(t7 t8:Int):Option DK:=
 cond (decide (t8<t7))
  (if(0:Int)<=t8/\t8<(t0.length:Int)then(
  (Re (t0.getD (t8.toNat) 0) t1.1).bind fun u2=>
  cond (u2.1.1)
   (some ((t8,()),()))
  (R2 t0 (t1.1,()) t7 (AW (t8+1))))else none)
 (some (((-1),()),()))
def B6:Nat->ER
 |0=>fun _ _ _ _=>none
 |n+1=>D4 (B6 n)
def D3(R2:ER)(p0:AAN)(p1:ACE×Unit):Option DK:=
 R2 p0 (p1.1,()) (p0.length:Int) 0
def Df(p0:AAN)(p1:ACE×Unit):Option DK:=D3 (B6 AX) p0 p1
abbrev DF:Type:=ABW×AEe
abbrev EJ:Type:=(ACE×Unit)->Int->Int->List Int->Option DF
def Dv(R5:EJ)(t1:ACE×Unit)(t5 t6:Int)(b0:AAN):Option DF:=
 cond ((decide (t6<(b0.length:Int))))
  (if(0:Int)<=t6/\t6<(b0.length:Int)then(
  let x3:Int:=(b0.getD (t6.toNat) 0)
  (Re x3 t1.1).bind fun u4=>
  cond (!u4.1.1)
   (if(0:Int)<=t5/\t5<(b0.length:Int)then(
   R5 (t1.1,()) (AW (t5+1)) (AW (t6+1)) (b0.set (t5.toNat) x3))else none)
  (R5 (t1.1,()) t5 (AW (t6+1)) b0))else none)
 (if(0:Int)<=t5/\t5<=(b0.length:Int)/\(b0.length:Int)<=(b0.length:Int)then(
 let x6:AAN:=(b0.take (t5.toNat)++List.replicate (((b0.length:Int).toNat)-(t5.toNat)) 0++b0.drop ((t5.toNat)+(((b0.length:Int).toNat)-(t5.toNat))))
 if(0:Int)<=(0:Int)/\(0:Int)<=t5/\t5<=(x6.length:Int)then(
 some (((),()),((),((x6.drop 0).take ((t5.toNat)-0)),())))else none)else none)
def Bv:Nat->EJ
 |0=>fun _ _ _ _=>none
 |n+1=>Dv (Bv n)
def Dt(R5:EJ)(p1:ACE×Unit)(b0:AAN):Option DF:=
 (Df b0 (p1.1,())).bind fun u1=>
 cond (u1.1.1==(-1))
  (some (((),()),((),b0,())))
 (R5 (p1.1,()) u1.1.1 (AW (u1.1.1+1)) b0)
def Cj(p1:ACE×Unit)(b0:AAN):Option DF:=Dt (Bv AX) p1 b0
abbrev yZ:Type:=ABW×ACE
def NK(p0 p1:AAN):Option yZ:=
 (DD p0).bind fun u1=>
 (Cj ((p1,()),()) u1.2.1).bind fun u2=>
 some (((),()),(u2.2.2.1,()))
abbrev LF:Type:=AAg×Unit
def C4(p0:AAi)(p1:Int):Option LF:=
 (NK [p1] p0.2.2.2.1).bind fun u1=>
 some ((decide ((u1.2.1.length:Int)>0),()),())
abbrev Ux:Type:=AAv×Unit
abbrev YM:Type:=List Int->Int->Int->List Int->Int->List Int->Option Ux
def aJ(R5:YM)(t13:AAN)(t14 t15:Int)(AQ:AAN)(AF:Int)(b1:AAN):Option Ux:=
 cond (decide (t15<t14))
  (if(0:Int)<=t15/\t15<(t13.length:Int)then(
  let x2:Int:=(t13.getD (t15.toNat) 0)
  if(0:Int)<=x2/\x2<(AQ.length:Int)then(
  (Bp b1 (AQ.getD (x2.toNat) 0)).bind fun u4=>
  cond (!u4.1.1)
   (if(0:Int)<=x2/\x2<(AQ.length:Int)then(
   if b1.length+1<=Cm then(
   R5 t13 t14 (AW (t15+1)) AQ AF (b1++[(AQ.getD (x2.toNat) 0)]))else none)else none)
  (R5 t13 t14 (AW (t15+1)) AQ AF b1))else none)else none)
 (some (((b1.length:Int),()),()))
def O1:Nat->YM
 |0=>fun _ _ _ _ _ _=>none
 |n+1=>aJ (O1 n)
def aT(R5:YM)(p0:AAb)(p1:AAN):Option Ux:=
 (D2 (p0.1,p0.2.1,()) p1).bind fun u1=>
 cond (!u1.1.1)
  (some (((-1),()),()))
 (R5 p1 (p1.length:Int) 0 p0.1 p0.2.1 [])
def aW(p0:AAb)(p1:AAN):Option Ux:=aT (O1 AX) p0 p1
abbrev kZ:Type:=AAg×Unit
def Gq(p0:AAb)(p1:AAN):Option kZ:=
 (D2 (p0.1,p0.2.1,()) p1).bind fun u1=>
 cond (u1.1.1)
  ((aW (p0.1,p0.2.1,()) p1).bind fun u2=>
  some (((decide (u2.1.1>=p0.2.1)),()),()))
 (some ((false,()),()))
abbrev Ju:Type:=AAg×Unit
abbrev MH:Type:=AAi->AAT->Int->Int->Option Ju
def J2(R4:MH)(t0:AAi)(t32:AAT)(t33 t34:Int):Option Ju:=
 cond (decide (t34<t33))
  (if(0:Int)<=t34/\t34<(t32.length:Int)then(
  (Ey ((t32.getD (t34.toNat) ([],[],0,())).1,(t32.getD (t34.toNat) ([],[],0,())).2.1,(t32.getD (t34.toNat) ([],[],0,())).2.2.1,())).bind fun u5=>
  cond (!u5.1.1)
   (some ((false,()),()))
  ((C4 t0 t34).bind fun u6=>
  cond (u6.1.1)
   (cond (decide ((AW ((AW ((((t32.getD (t34.toNat) ([],[],0,())).1).length:Int)+(((t32.getD (t34.toNat) ([],[],0,())).2.1).length:Int)))+((t32.getD (t34.toNat) ([],[],0,())).2.2.1)))>0))
    (some ((false,()),()))
   (R4 t0 t32 t33 (AW (t34+1))))
  (R4 t0 t32 t33 (AW (t34+1)))))else none)
 (cond (t0.2.2.2.2.2.2.2.2.2.2.1)
  (some ((true,()),()))
 ((Gq (t0.1,t0.2.1,()) t0.2.2.2.1).bind fun Th=>
 some ((!Th.1.1,()),())))
def E7:Nat->MH
 |0=>fun _ _ _ _=>none
 |n+1=>J2 (E7 n)
def Py(R4:MH)(p0:AAi):Option Ju:=
 cond (((p0.2.2.1.length:Int) !=(p0.1.length:Int)))
  (some ((false,()),()))
 ((D2 (p0.1,p0.2.1,()) p0.2.2.2.1).bind fun u3=>
 cond (!u3.1.1)
  (some ((false,()),()))
 (R4 p0 p0.2.2.1 (p0.2.2.1.length:Int) 0))
def K9(p0:AAi):Option Ju:=Py (E7 AX) p0
abbrev wq:Type:=AAg×Unit
def dQ(p0:AAb)(p1:AEd):Option wq:=
 (Gq (p0.1,p0.2.1,()) p1.1).bind fun u1=>
 cond (u1.1.1)
  ((Ay p1.2.2.1 0 60).bind fun u2=>
  cond (u2.1.1)
   (cond (p1.2.1)
    (some ((true,()),()))
   (some ((p1.2.2.1==0,()),())))
  (some ((false,()),())))
 (some ((false,()),()))
abbrev Sy:Type:=AAg×Unit
abbrev ag:Type:=AAU->Int->Int->List Int->Int->AAU->Int->Option Sy
def Uc(R2:ag)(t9:AAU)(t10 t11:Int)(AQ:AAN)(AF:Int)(B7:AAU)(Ba:Int):Option Sy:=
 cond (decide (t11<t10))
  (if(0:Int)<=t11/\t11<(t9.length:Int)then(
  (dQ (AQ,AF,()) ((t9.getD (t11.toNat) ([],false,0,())).1,(t9.getD (t11.toNat) ([],false,0,())).2.1,(t9.getD (t11.toNat) ([],false,0,())).2.2.1,())).bind fun u1=>
  cond (!u1.1.1)
   (some ((false,()),()))
  (cond (((t9.getD (t11.toNat) ([],false,0,())).2.1))
   (cond (t11==(AW ((B7.length:Int)-1)))
    (some ((false,()),()))
   (cond (decide (t11>0))
    (if(0:Int)<=AW (t11-1)/\AW (t11-1)<(B7.length:Int)then(
    cond (!((B7.getD ((AW (t11-1)).toNat) ([],false,0,())).2.1))
     (some ((false,()),()))
    (R2 t9 t10 (AW (t11+1)) AQ AF B7 Ba))else none)
   (R2 t9 t10 (AW (t11+1)) AQ AF B7 Ba)))
  (R2 t9 t10 (AW (t11+1)) AQ AF B7 Ba)))else none)
 (cond (Ba==0)
  ((Es (AQ,AF,())).bind fun u5=>
  cond (u5.1.1)
   (cond ((decide ((B7.length:Int)<=30)))
    (some ((true,()),()))
   (some ((false,()),())))
  (some ((false,()),())))
 ((EM Ba).bind fun u7=>
 (Ay u7.1.1 1 (B7.length:Int)).bind fun u8=>
 (Es (AQ,AF,())).bind fun u9=>
 cond (u9.1.1)
  (cond ((decide ((B7.length:Int)<=30)))
   (some ((u8.1.1,()),()))
  (some ((false,()),())))
 (some ((false,()),()))))
def Kq:Nat->ag
 |0=>fun _ _ _ _ _ _ _=>none
 |n+1=>Uc (Kq n)
def cE(R2:ag)(p0:AAb)(p1:AA6):Option Sy:=
 R2 p1.1 (p1.1.length:Int) 0 p0.1 p0.2.1 p1.1 p1.2.1
def Ks(p0:AAb)(p1:AA6):Option Sy:=cE (Kq AX) p0 p1
abbrev qx:Type:=AAv×Unit
def cq(p0:Bool):Option qx:=
 cond (p0)
  (some ((1,()),()))
 (some ((0,()),()))
abbrev M0:Type:=AAg×Unit
abbrev UE:Type:=Int->ABI->Int->Int->List Int->Int->Int->ABI->Option M0
def Wy(R3:UE)(t5:Int)(t9:ABI)(t10 t11:Int)(AQ:AAN)(AF B7:Int)(Ba:ABI):Option M0:=
 cond (decide (t11<t10))
  (if(0:Int)<=t11/\t11<(t9.length:Int)then(
  (F6 ((t9.getD (t11.toNat) ([],[],false,())).1)).bind fun u3=>
  cond (!u3.1.1)
   (some ((false,()),()))
  ((D2 (AQ,AF,()) ((t9.getD (t11.toNat) ([],[],false,())).2.1)).bind fun u4=>
  cond (!u4.1.1)
   (some ((false,()),()))
  ((Gq (AQ,AF,()) ((t9.getD (t11.toNat) ([],[],false,())).2.1)).bind fun u6=>
  cond (((t9.getD (t11.toNat) ([],[],false,())).2.2.1) !=u6.1.1)
   (some ((false,()),()))
  ((cq (!((t9.getD (t11.toNat) ([],[],false,())).2.2.1))).bind fun u8=>
  R3 (AW (t5+u8.1.1)) t9 t10 (AW (t11+1)) AQ AF B7 Ba))))else none)
 ((Es (AQ,AF,())).bind fun u9=>
 cond (u9.1.1)
  ((HY B7).bind fun FE=>
  cond (FE.1.1)
   (cond ((decide ((Ba.length:Int)<=60)))
    (some ((decide (t5<=6),()),()))
   (some ((false,()),())))
  (some ((false,()),())))
 (some ((false,()),())))
def LO:Nat->UE
 |0=>fun _ _ _ _ _ _ _ _=>none
 |n+1=>Wy (LO n)
def Wp(R3:UE)(p0:AAb)(p1:ABL):Option M0:=
 R3 0 p1.2.1 (p1.2.1.length:Int) 0 p0.1 p0.2.1 p1.1 p1.2.1
def GP(p0:AAb)(p1:ABL):Option M0:=Wp (LO AX) p0 p1
abbrev fk:Type:=AAg×Unit
def Jt(p0:AAi)(p1:Int):Option fk:=
 (Ay p1 1 (p0.2.2.2.2.1.length:Int)).bind fun u2=>
 some ((u2.1.1,()),())
abbrev Il:Type:=AAg×Unit
abbrev L6:Type:=AAi->AAX->Int->Int->Option Il
def Jr(R2:L6)(t0:AAi)(t8:AAX)(t9 t10:Int):Option Il:=
 cond (decide (t10<t9))
  (if(0:Int)<=t10/\t10<(t8.length:Int)then(
  (GP (t0.1,t0.2.1,()) ((t8.getD (t10.toNat) (0,[],())).1,(t8.getD (t10.toNat) (0,[],())).2.1,())).bind fun u2=>
  cond (!u2.1.1)
   (some ((false,()),()))
  ((Jt t0 ((t8.getD (t10.toNat) (0,[],())).1)).bind fun u4=>
  cond (!u4.1.1)
   (some ((false,()),()))
  (cond (decide (t10>0))
   (if(0:Int)<=AW (t10-1)/\AW (t10-1)<(t0.2.2.2.2.2.2.1.length:Int)then(
   cond (decide (((t0.2.2.2.2.2.2.1.getD ((AW (t10-1)).toNat) (0,[],())).1)>=((t8.getD (t10.toNat) (0,[],())).1)))
    (some ((false,()),()))
   (R2 t0 t8 t9 (AW (t10+1))))else none)
  (R2 t0 t8 t9 (AW (t10+1))))))else none)
 (some ((decide ((t0.2.2.2.2.2.2.1.length:Int)<=4),()),()))
def EU:Nat->L6
 |0=>fun _ _ _ _=>none
 |n+1=>Jr (EU n)
def OC(R2:L6)(p0:AAi):Option Il:=
 R2 p0 p0.2.2.2.2.2.2.1 (p0.2.2.2.2.2.2.1.length:Int) 0
def KV(p0:AAi):Option Il:=OC (EU AX) p0
abbrev wI:Type:=AAv×Unit
def Q0(p0:Int):Option wI:=
 (C_ p0).bind fun u1=>
 cond (!u1.1.1)
  (some ((0,()),()))
 (some ((p0.tmod 4294967296,()),()))
abbrev rR:Type:=AAv×Unit
def TV(p0:AAu):Option rR:=
 cond ((p0.2.2.2.1.length:Int)==0)
  (some ((0,()),()))
 (let x2:Int:=(p0.2.2.2.1.length:Int)
 if(0:Int)<=AW (x2-1)/\AW (x2-1)<(p0.2.2.2.1.length:Int)then(
 (Q0 ((p0.2.2.2.1.getD ((AW (x2-1)).toNat) (0,0,false,[],())).1)).bind fun u4=>
 some ((u4.1.1,()),()))else none)
abbrev VA:Type:=AAg×Unit
abbrev X3:Type:=AAa->Int->Int->Int->Int->List Int->AAa->Bool->List AAN->Option VA
def S9(R2:X3)(t6:AAa)(t7 t8 AQ AF:Int)(Ah:AAN)(BA:AAa)(BH:Bool)(AM:List AAN):Option VA:=
 cond (decide (t8<t7))
  (if(0:Int)<=t8/\t8<(t6.length:Int)then(
  (MD ((t6.getD (t8.toNat) (0,0,false,[],())).1,(t6.getD (t8.toNat) (0,0,false,[],())).2.1,(t6.getD (t8.toNat) (0,0,false,[],())).2.2.1,(t6.getD (t8.toNat) (0,0,false,[],())).2.2.2.1,())).bind fun u2=>
  cond (!u2.1.1)
   (some ((false,()),()))
  ((EM ((t6.getD (t8.toNat) (0,0,false,[],())).1)).bind fun u4=>
  cond (u4.1.1 !=AF)
   (some ((false,()),()))
  (cond (decide (((t6.getD (t8.toNat) (0,0,false,[],())).2.1)>=AQ))
   (some ((false,()),()))
  (R2 t6 t7 (AW (t8+1)) AQ AF Ah BA BH AM))))else none)
 ((Kb BA).bind fun u6=>
 some ((u6.1.1,()),()))
def Ll:Nat->X3
 |0=>fun _ _ _ _ _ _ _ _ _=>none
 |n+1=>S9 (Ll n)
def aQ(R2:X3)(p0:AAu):Option VA:=
 R2 p0.2.2.2.1 (p0.2.2.2.1.length:Int) 0 p0.1 p0.2.1 p0.2.2.1 p0.2.2.2.1 p0.2.2.2.2.1 p0.2.2.2.2.2.1
def V6(p0:AAu):Option VA:=aQ (Ll AX) p0
abbrev VF:Type:=AAg×Unit
abbrev YT:Type:=List AAN->Int->Int->List Int->Int->Int->Int->List Int->AAa->Bool->List AAN->Option VF
def SC(R2:YT)(t10:List AAN)(t11 t12:Int)(AQ:AAN)(AF B7 Ba:Int)(CO:AAN)(EX:AAa)(Hu:Bool)(Fi:List AAN):Option VF:=
 cond (decide (t12<t11))
  (if(0:Int)<=t12/\t12<(t10.length:Int)then(
  (D2 (AQ,AF,()) (t10.getD (t12.toNat) [])).bind fun u2=>
  cond (!u2.1.1)
   (some ((false,()),()))
  (R2 t10 t11 (AW (t12+1)) AQ AF B7 Ba CO EX Hu Fi))else none)
 (cond (Hu)
  ((TV (B7,Ba,CO,EX,Hu,Fi,())).bind fun u3=>
  (HY Ba).bind fun u4=>
  cond (u4.1.1)
   ((Ay B7 (AW (Ba+1)) 30).bind fun u5=>
   (Es (AQ,AF,())).bind fun u6=>
   cond (u6.1.1)
    (cond (u5.1.1)
     ((D2 (AQ,AF,()) CO).bind fun u7=>
     cond (u7.1.1)
      ((V6 (B7,Ba,CO,EX,Hu,Fi,())).bind fun u8=>
      cond (u8.1.1)
       (some ((((Fi.length:Int)==u3.1.1),()),()))
      (some ((false,()),())))
     (some ((false,()),())))
    (some ((false,()),())))
   (some ((false,()),())))
  ((Es (AQ,AF,())).bind fun FE=>
  cond (FE.1.1)
   (some ((false,()),()))
  (some ((false,()),()))))
 ((HY Ba).bind fun Hj=>
 cond (Hj.1.1)
  ((Ay B7 (AW (Ba+1)) 30).bind fun Th=>
  (Es (AQ,AF,())).bind fun WL=>
  cond (WL.1.1)
   (cond (Th.1.1)
    ((D2 (AQ,AF,()) CO).bind fun Pd=>
    cond (Pd.1.1)
     ((V6 (B7,Ba,CO,EX,Hu,Fi,())).bind fun qQ=>
     cond (qQ.1.1)
      (some ((((Fi.length:Int)==0),()),()))
     (some ((false,()),())))
    (some ((false,()),())))
   (some ((false,()),())))
  (some ((false,()),())))
 ((Es (AQ,AF,())).bind fun qF=>
 cond (qF.1.1)
  (some ((false,()),()))
 (some ((false,()),())))))
def L_:Nat->YT
 |0=>fun _ _ _ _ _ _ _ _ _ _ _=>none
 |n+1=>SC (L_ n)
def Ze(R2:YT)(p0:AAb)(p1:AAu):Option VF:=
 R2 p1.2.2.2.2.2.1 (p1.2.2.2.2.2.1.length:Int) 0 p0.1 p0.2.1 p1.1 p1.2.1 p1.2.2.1 p1.2.2.2.1 p1.2.2.2.2.1 p1.2.2.2.2.2.1
def Hm(p0:AAb)(p1:AAu):Option VF:=Ze (L_ AX) p0 p1
abbrev PU:Type:=AAv×Unit
abbrev Sw:Type:=AAU->Int->Int->Option PU
def OK(R2:Sw)(t6:AAU)(t7 t8:Int):Option PU:=
 cond (decide (t8<t7))
  (if(0:Int)<=t8/\t8<(t6.length:Int)then(
  cond (!((t6.getD (t8.toNat) ([],false,0,())).2.1))
   (some ((AW (t8+1),()),()))
  (R2 t6 t7 (AW (t8+1))))else none)
 (some ((0,()),()))
def IE:Nat->Sw
 |0=>fun _ _ _=>none
 |n+1=>OK (IE n)
def Vo(R2:Sw)(p0:AA6):Option PU:=
 R2 p0.1 (p0.1.length:Int) 0
def L7(p0:AA6):Option PU:=Vo (IE AX) p0
abbrev Kg:Type:=AAg×Unit
abbrev NW:Type:=AAi->AAY->Int->Int->Option Kg
def Kr(R2:NW)(t0:AAi)(t8:AAY)(t9 t10:Int):Option Kg:=
 cond (decide (t10<t9))
  (if(0:Int)<=t10/\t10<(t8.length:Int)then(
  (Hm (t0.1,t0.2.1,()) ((t8.getD (t10.toNat) (0,0,[],[],false,[],())).1,(t8.getD (t10.toNat) (0,0,[],[],false,[],())).2.1,(t8.getD (t10.toNat) (0,0,[],[],false,[],())).2.2.1,(t8.getD (t10.toNat) (0,0,[],[],false,[],())).2.2.2.1,(t8.getD (t10.toNat) (0,0,[],[],false,[],())).2.2.2.2.1,(t8.getD (t10.toNat) (0,0,[],[],false,[],())).2.2.2.2.2.1,())).bind fun u2=>
  cond (!u2.1.1)
   (some ((false,()),()))
  (cond (((t8.getD (t10.toNat) (0,0,[],[],false,[],())).1) !=(t0.2.2.2.2.1.length:Int))
   (some ((false,()),()))
  ((L7 (t0.2.2.2.2.1,t0.2.2.2.2.2.1,())).bind fun u6=>
  cond (((t8.getD (t10.toNat) (0,0,[],[],false,[],())).2.1) !=u6.1.1)
   (some ((false,()),()))
  (R2 t0 t8 t9 (AW (t10+1))))))else none)
 (some ((decide ((t0.2.2.2.2.2.2.2.1.length:Int)<=1),()),()))
def FQ:Nat->NW
 |0=>fun _ _ _ _=>none
 |n+1=>Kr (FQ n)
def QH(R2:NW)(p0:AAi):Option Kg:=
 R2 p0 p0.2.2.2.2.2.2.2.1 (p0.2.2.2.2.2.2.2.1.length:Int) 0
def ME(p0:AAi):Option Kg:=QH (FQ AX) p0
abbrev pO:Type:=AAg×Unit
def VL(p0:ACD):Option pO:=
 (Ay p0.1 1 31).bind fun u1=>
 cond (u1.1.1)
  ((Ay p0.2.1 1 61).bind fun u2=>
  cond (u2.1.1)
   (some ((decide ((p0.2.2.1.length:Int)<=120),()),()))
  (some ((false,()),())))
 (some ((false,()),()))
abbrev Iq:Type:=AAg×Unit
abbrev Lu:Type:=AAi->AAV->Int->Int->Option Iq
def Jn(R2:Lu)(t0:AAi)(t8:AAV)(t9 t10:Int):Option Iq:=
 cond (decide (t10<t9))
  (if(0:Int)<=t10/\t10<(t8.length:Int)then(
  (VL ((t8.getD (t10.toNat) (0,0,[],())).1,(t8.getD (t10.toNat) (0,0,[],())).2.1,(t8.getD (t10.toNat) (0,0,[],())).2.2.1,())).bind fun u2=>
  cond (!u2.1.1)
   (some ((false,()),()))
  (R2 t0 t8 t9 (AW (t10+1))))else none)
 (some (((t0.2.2.2.2.2.2.2.2.1.length:Int)==2,()),()))
def EV:Nat->Lu
 |0=>fun _ _ _ _=>none
 |n+1=>Jn (EV n)
def Oe(R2:Lu)(p0:AAi):Option Iq:=
 R2 p0 p0.2.2.2.2.2.2.2.2.1 (p0.2.2.2.2.2.2.2.2.1.length:Int) 0
def Km(p0:AAi):Option Iq:=Oe (EV AX) p0
abbrev LI:Type:=AAg×Unit
abbrev PJ:Type:=AAi->AAW->Int->Int->Option LI
def Lj(R2:PJ)(t0:AAi)(t8:AAW)(t9 t10:Int):Option LI:=
 cond (decide (t10<t9))
  (if(0:Int)<=t10/\t10<(t8.length:Int)then(
  (EM ((t8.getD (t10.toNat) (0,[],false,())).1)).bind fun u3=>
  (Jt t0 u3.1.1).bind fun u4=>
  cond (!u4.1.1)
   (some ((false,()),()))
  ((F6 ((t8.getD (t10.toNat) (0,[],false,())).2.1)).bind fun u6=>
  cond (!u6.1.1)
   (some ((false,()),()))
  (cond (decide (t10>0))
   (if(0:Int)<=AW (t10-1)/\AW (t10-1)<(t0.2.2.2.2.2.2.2.2.2.1.length:Int)then(
   cond (decide (((t0.2.2.2.2.2.2.2.2.2.1.getD ((AW (t10-1)).toNat) (0,[],false,())).1)>=((t8.getD (t10.toNat) (0,[],false,())).1)))
    (some ((false,()),()))
   (R2 t0 t8 t9 (AW (t10+1))))else none)
  (R2 t0 t8 t9 (AW (t10+1))))))else none)
 (some ((decide ((t0.2.2.2.2.2.2.2.2.2.1.length:Int)<=120),()),()))
def Fy:Nat->PJ
 |0=>fun _ _ _ _=>none
 |n+1=>Lj (Fy n)
def RS(R2:PJ)(p0:AAi):Option LI:=
 R2 p0 p0.2.2.2.2.2.2.2.2.2.1 (p0.2.2.2.2.2.2.2.2.2.1.length:Int) 0
def Nf(p0:AAi):Option LI:=RS (Fy AX) p0
abbrev tC:Type:=AAg×Unit
def Cw(p0:AAi):Option tC:=
 (Es (p0.1,p0.2.1,())).bind fun u1=>
 cond (u1.1.1)
  ((K9 (p0.1,p0.2.1,p0.2.2.1,p0.2.2.2.1,p0.2.2.2.2.1,p0.2.2.2.2.2.1,p0.2.2.2.2.2.2.1,p0.2.2.2.2.2.2.2.1,p0.2.2.2.2.2.2.2.2.1,p0.2.2.2.2.2.2.2.2.2.1,p0.2.2.2.2.2.2.2.2.2.2.1,())).bind fun u2=>
  cond (u2.1.1)
   ((Ks (p0.1,p0.2.1,()) (p0.2.2.2.2.1,p0.2.2.2.2.2.1,())).bind fun u3=>
   cond (u3.1.1)
    ((KV (p0.1,p0.2.1,p0.2.2.1,p0.2.2.2.1,p0.2.2.2.2.1,p0.2.2.2.2.2.1,p0.2.2.2.2.2.2.1,p0.2.2.2.2.2.2.2.1,p0.2.2.2.2.2.2.2.2.1,p0.2.2.2.2.2.2.2.2.2.1,p0.2.2.2.2.2.2.2.2.2.2.1,())).bind fun u4=>
    cond (u4.1.1)
     ((ME (p0.1,p0.2.1,p0.2.2.1,p0.2.2.2.1,p0.2.2.2.2.1,p0.2.2.2.2.2.1,p0.2.2.2.2.2.2.1,p0.2.2.2.2.2.2.2.1,p0.2.2.2.2.2.2.2.2.1,p0.2.2.2.2.2.2.2.2.2.1,p0.2.2.2.2.2.2.2.2.2.2.1,())).bind fun u5=>
     cond (u5.1.1)
      ((Km (p0.1,p0.2.1,p0.2.2.1,p0.2.2.2.1,p0.2.2.2.2.1,p0.2.2.2.2.2.1,p0.2.2.2.2.2.2.1,p0.2.2.2.2.2.2.2.1,p0.2.2.2.2.2.2.2.2.1,p0.2.2.2.2.2.2.2.2.2.1,p0.2.2.2.2.2.2.2.2.2.2.1,())).bind fun u6=>
      cond (u6.1.1)
       ((Nf (p0.1,p0.2.1,p0.2.2.1,p0.2.2.2.1,p0.2.2.2.2.1,p0.2.2.2.2.2.1,p0.2.2.2.2.2.2.1,p0.2.2.2.2.2.2.2.1,p0.2.2.2.2.2.2.2.2.1,p0.2.2.2.2.2.2.2.2.2.1,p0.2.2.2.2.2.2.2.2.2.2.1,())).bind fun u7=>
       some ((u7.1.1,()),()))
      (some ((false,()),())))
     (some ((false,()),())))
    (some ((false,()),())))
   (some ((false,()),())))
  (some ((false,()),())))
 (some ((false,()),()))
abbrev du:Type:=(AGO×Unit)×ADG
def ED(p0:AAb):Option du:=
 (IK (p0.1,p0.2.1,())).bind fun u1=>
 if(0:Int)<=(p0.1.length:Int)/\(p0.1.length:Int)<=(p0.1.length:Int)/\(p0.1.length:Int)<=(Cm:Int)then(
 let x2:AAT:=(List.replicate ((p0.1.length:Int).toNat) ([],[],0,()))
 (Jb).bind fun u3=>
 (Jb).bind fun u4=>
 (Cw (u1.2.1,u1.1.1.2.1,x2,[],[],0,[],[],[(u3.1.1.1,u3.1.1.2.1,u3.2.1,()),(u4.1.1.1,u4.1.1.2.1,u4.2.1,())],[],false,())).bind fun u5=>
 cond (!u5.1.1)
  (some (((((),0,(),(),(),0,(),(),(),(),false,()),false,()),()),([],[],[],[],[],[],[],[],())))
 (some (((((),u1.1.1.2.1,(),(),(),0,(),(),(),(),false,()),true,()),()),(u1.2.1,x2,[],[],[],[],[(u3.1.1.1,u3.1.1.2.1,u3.2.1,()),(u4.1.1.1,u4.1.1.2.1,u4.2.1,())],[],()))))else none
abbrev z7:Type:=AAg×Unit
def B9(p0 p1 p2:Int):Option z7:=
 cond (decide (p0>=p1))
  (some ((decide (p0<=p2),()),()))
 (some ((false,()),()))
abbrev Qz:Type:=AAg×Unit
abbrev UD:Type:=Int->List Int->Int->Option Qz
def XF(R4:UD)(t3:Int)(AQ:AAN)(AF:Int):Option Qz:=
 cond ((decide (t3<(AQ.length:Int))))
  (if(0:Int)<=t3/\t3<(AQ.length:Int)then(
  (B9 (AQ.getD (t3.toNat) 0) 0 7).bind fun u5=>
  cond (!u5.1.1)
   (some ((false,()),()))
  (R4 (AW (t3+1)) AQ AF))else none)
 (some ((true,()),()))
def Lf:Nat->UD
 |0=>fun _ _ _=>none
 |n+1=>XF (Lf n)
def W3(R4:UD)(p0:AAb):Option Qz:=
 (B9 (p0.1.length:Int) 1 8).bind fun u1=>
 cond (!u1.1.1)
  (some ((false,()),()))
 ((B9 p0.2.1 1 4).bind fun u2=>
 cond (!u2.1.1)
  (some ((false,()),()))
 (R4 0 p0.1 p0.2.1))
def GO(p0:AAb):Option Qz:=W3 (Lf AX) p0
abbrev rF:Type:=ADQ×Unit
def PO(p0:Int):Option rF:=
 cond (p0==8)
  (some (([],()),()))
 (cond (p0==10)
  (some (([],()),()))
 (cond (p0==12)
  (some (([],()),()))
 (cond (p0==2)
  (some (([65,84],()),()))
 (cond (p0==3)
  (some (([65,66,67],()),()))
 (cond (p0==5)
  (some (([65,66],()),()))
 (cond (p0==14)
  (some (([65,66],()),()))
 (cond (p0==11)
  (some (([66,67],()),()))
 (cond (p0==13)
  (some (([80],()),()))
 (some (([65],()),()))))))))))
abbrev QT:Type:=AAg×Unit
abbrev Yk:Type:=Int->Int->Int->Int->Int->Int->List UInt8->Int->Int->Int->Int->List UInt8->List Int->Option QT
def DN(R4:Yk)(t12 t13 AQ AF Ah BA:Int)(BH:AAZ)(B7 Ba CO EX:Int)(Hu:AAZ)(b2:AAN):Option QT:=
 cond (decide (t13<t12))
  (if(0:Int)<=t13/\t13<(b2.length:Int)then(
  let x3:Int:=(b2.getD (t13.toNat) 0)
  cond (x3==65)
   (R4 t12 (AW (t13+1)) AQ AF Ah BA BH B7 0 CO EX Hu b2)
  (cond (x3==80)
   (R4 t12 (AW (t13+1)) AQ AF Ah BA BH B7 0 CO EX Hu b2)
  (cond (x3==66)
   (R4 t12 (AW (t13+1)) AQ AF Ah BA BH B7 Ba 0 EX Hu b2)
  (cond (x3==67)
   (R4 t12 (AW (t13+1)) AQ AF Ah BA BH B7 Ba CO 0 Hu b2)
  (cond (x3==84)
   (R4 t12 (AW (t13+1)) AQ AF Ah BA BH B7 Ba CO EX [] b2)
  (R4 t12 (AW (t13+1)) AQ AF Ah BA BH B7 Ba CO EX Hu b2))))))else none)
 ((Ay AQ 1 16).bind fun u4=>
 cond (u4.1.1)
  (cond (((B7==0)&&((Ba==0)&&((CO==0)&&((EX==0)&&((Hu==[])&&true))))))
   ((F6 BH).bind fun u6=>
   some ((u6.1.1,()),()))
  (some ((false,()),())))
 (some ((false,()),())))
def Dl:Nat->Yk
 |0=>fun _ _ _ _ _ _ _ _ _ _ _ _ _=>none
 |n+1=>DN (Dl n)
def Z8(R4:Yk)(p0:ABX):Option QT:=
 (PO p0.1).bind fun u1=>
 if u1.1.1.length<=Cm then(
 let x2:AAN:=(u1.1.1.map fun c=>(c.toNat:Int))
 R4 (x2.length:Int) 0 p0.1 p0.2.1 p0.2.2.1 p0.2.2.2.1 p0.2.2.2.2.1 0 p0.2.1 p0.2.2.1 p0.2.2.2.1 p0.2.2.2.2.1 x2)else none
def Vk(p0:ABX):Option QT:=Z8 (Dl AX) p0
abbrev IU:Type:=AEW×AD2
abbrev PI:Type:=AAU->Int->Int->Int->AAU->Int->AAU->Option IU
def RY(R3:PI)(t10:AAU)(t11 t12 AF:Int)(b1:AAU)(fc:Int)(b3:AAU):Option IU:=
 cond (decide (t12<t11))
  (if(0:Int)<=t12/\t12<(t10.length:Int)then(
  (DD ((t10.getD (t12.toNat) ([],false,0,())).1)).bind fun u1=>
  if b3.length+1<=Cm then(
  R3 t10 t11 (AW (t12+1)) AF b1 fc (b3++[(u1.2.1,(t10.getD (t12.toNat) ([],false,0,())).2.1,(t10.getD (t12.toNat) ([],false,0,())).2.2.1,())]))else none)else none)
 (some ((((),fc,()),()),(b3,())))
def Hk:Nat->PI
 |0=>fun _ _ _ _ _ _ _=>none
 |n+1=>RY (Hk n)
def Rl(R3:PI)(p0:AA6):Option IU:=
 R3 p0.1 (p0.1.length:Int) 0 0 [] p0.2.1 []
def EL(p0:AA6):Option IU:=Rl (Hk AX) p0
abbrev iR:Type:=ABW×AEU
def I_(p0:AAa):Option iR:=
 if 0+p0.length<=Cm then(
 some (((),()),(p0,())))else none
abbrev l8:Type:=AEf×ADS
def C6(p0:ABR):Option l8:=
 (I_ p0.1).bind fun u1=>
 (I_ p0.2.1).bind fun u2=>
 some ((((),(),p0.2.2.1,()),()),(u1.2.1,u2.2.1,()))
abbrev Kj:Type:=AE2×AD3
abbrev Q2:Type:=ABI->Int->Int->Int->ABI->Int->ABI->Option Kj
def T6(R3:Q2)(t10:ABI)(t11 t12 AQ:Int)(b1:ABI)(Wb:Int)(b3:ABI):Option Kj:=
 cond (decide (t12<t11))
  (if(0:Int)<=t12/\t12<(t10.length:Int)then(
  (DD ((t10.getD (t12.toNat) ([],[],false,())).2.1)).bind fun u2=>
  if b3.length+1<=Cm then(
  R3 t10 t11 (AW (t12+1)) AQ b1 Wb (b3++[((t10.getD (t12.toNat) ([],[],false,())).1,u2.2.1,(t10.getD (t12.toNat) ([],[],false,())).2.2.1,())]))else none)else none)
 (some (((Wb,(),()),()),(b3,())))
def JY:Nat->Q2
 |0=>fun _ _ _ _ _ _ _=>none
 |n+1=>T6 (JY n)
def Tp(R3:Q2)(p0:ABL):Option Kj:=
 R3 p0.2.1 (p0.2.1.length:Int) 0 0 [] p0.1 []
def Fc(p0:ABL):Option Kj:=Tp (JY AX) p0
abbrev Qe:Type:=AEY×ADU
abbrev Ub:Type:=List AAN->Int->Int->Int->Int->Bool->List Int->AAa->List AAN->Int->Int->Bool->List Int->AAa->List AAN->Option Qe
def W0(R4:Ub)(t17:List AAN)(t18 t19 AQ AF:Int)(BH:Bool)(b1:AAN)(b2:AAa)(b3:List AAN)(AAK zY:Int)(yp:Bool)(b5:AAN)(b6:AAa)(b7:List AAN):Option Qe:=
 cond (decide (t19<t18))
  (if(0:Int)<=t19/\t19<(t17.length:Int)then(
  (DD (t17.getD (t19.toNat) [])).bind fun u4=>
  if b7.length+1<=Cm then(
  R4 t17 t18 (AW (t19+1)) AQ AF BH b1 b2 b3 AAK zY yp b5 b6 (b7++[u4.2.1]))else none)else none)
 (some (((AAK,zY,(),(),yp,(),()),()),(b5,b6,b7,())))
def Lw:Nat->Ub
 |0=>fun _ _ _ _ _ _ _ _ _ _ _ _ _ _ _=>none
 |n+1=>W0 (Lw n)
def Wl(R4:Ub)(p0:AAu):Option Qe:=
 (DD p0.2.2.1).bind fun u1=>
 (I_ p0.2.2.2.1).bind fun u2=>
 R4 p0.2.2.2.2.2.1 (p0.2.2.2.2.2.1.length:Int) 0 0 0 false [] [] [] p0.1 p0.2.1 p0.2.2.2.2.1 u1.2.1 u2.2.1 []
def GH(p0:AAu):Option Qe:=Wl (Lw AX) p0
abbrev ka:Type:=AEX×AEJ
def Mz(p0:ACD):Option ka:=
 if 0+p0.2.2.1.length<=Cm then(
 some (((p0.1,p0.2.1,(),()),()),(p0.2.2.1,())))else none
abbrev EC:Type:=AE8×ADG
abbrev IB:Type:=AAT->Int->Int->List Int->Int->AAT->List Int->AAU->Int->AAX->AAY->AAV->AAW->Bool->Int->Int->Bool->List Int->AAT->List Int->AAU->AAX->AAY->AAV->AAW->Int->Int->Bool->List Int->AAT->List Int->AAU->AAX->AAY->AAV->AAW->Option EC
abbrev H6:Type:=AAX->Int->Int->List Int->Int->AAT->List Int->AAU->Int->AAX->AAY->AAV->AAW->Bool->Int->Int->Bool->List Int->AAT->List Int->AAU->AAX->AAY->AAV->AAW->Int->Int->Bool->List Int->AAT->List Int->AAU->AAX->AAY->AAV->AAW->Option EC
abbrev HO:Type:=AAY->Int->Int->List Int->Int->AAT->List Int->AAU->Int->AAX->AAY->AAV->AAW->Bool->Int->Int->Bool->List Int->AAT->List Int->AAU->AAX->AAY->AAV->AAW->Int->Int->Bool->List Int->AAT->List Int->AAU->AAX->AAY->AAV->AAW->Option EC
abbrev HN:Type:=AAV->Int->Int->List Int->Int->AAT->List Int->AAU->Int->AAX->AAY->AAV->AAW->Bool->Int->Int->Bool->List Int->AAT->List Int->AAU->AAX->AAY->AAV->AAW->Int->Int->Bool->List Int->AAT->List Int->AAU->AAX->AAY->AAV->AAW->Option EC
def Vs(R3:IB)(R8:H6)(R13:HO)(R18:HN)(t25:AAT)(t26 t27:Int)(AQ:AAN)(AF:Int)(Ah:AAT)(BA:AAN)(BH:AAU)(AM:Int)(Bj:AAX)(Bi:AAY)(BM:AAV)(Bm:AAW)(AG:Bool)(Ba Fi:Int)(Ix:Bool)(b2:AAN)(b3:AAT)(b4:AAN)(b5:AAU)(b6:AAX)(b7:AAY)(b8:AAV)(b9:AAW)(FA Gy:Int)(D8:Bool)(G6:AAN)(EK:AAT)(Hy:AAN)(Hw:AAU)(Eu:AAX)(Fb:AAY)(GK:AAV)(bI:AAW):Option EC:=
 cond (decide (t27<t26))
  (if(0:Int)<=t27/\t27<(t25.length:Int)then(
  (C6 ((t25.getD (t27.toNat) ([],[],0,())).1,(t25.getD (t27.toNat) ([],[],0,())).2.1,(t25.getD (t27.toNat) ([],[],0,())).2.2.1,())).bind fun qQ=>
  if EK.length+1<=Cm then(
  R3 t25 t26 (AW (t27+1)) AQ AF Ah BA BH AM Bj Bi BM Bm AG Ba Fi Ix b2 b3 b4 b5 b6 b7 b8 b9 FA Gy D8 G6 (EK++[(qQ.2.1,qQ.2.2.1,qQ.1.1.2.2.1,())]) Hy Hw Eu Fb GK bI)else none)else none)
 (R8 Bj (Bj.length:Int) 0 AQ AF Ah BA BH AM Bj Bi BM Bm AG Ba Fi Ix b2 b3 b4 b5 b6 b7 b8 b9 FA Gy D8 G6 EK Hy Hw Eu Fb GK bI)
def Vj(R3:IB)(R8:H6)(R13:HO)(R18:HN)(t40:AAX)(t41 t42:Int)(AQ:AAN)(AF:Int)(Ah:AAT)(BA:AAN)(BH:AAU)(AM:Int)(Bj:AAX)(Bi:AAY)(BM:AAV)(Bm:AAW)(AG:Bool)(Ba Fi:Int)(Ix:Bool)(b2:AAN)(b3:AAT)(b4:AAN)(b5:AAU)(b6:AAX)(b7:AAY)(b8:AAV)(b9:AAW)(FA Gy:Int)(D8:Bool)(G6:AAN)(EK:AAT)(Hy:AAN)(Hw:AAU)(Eu:AAX)(Fb:AAY)(GK:AAV)(bI:AAW):Option EC:=
 cond (decide (t42<t41))
  (if(0:Int)<=t42/\t42<(t40.length:Int)then(
  (Fc ((t40.getD (t42.toNat) (0,[],())).1,(t40.getD (t42.toNat) (0,[],())).2.1,())).bind fun iG=>
  if Eu.length+1<=Cm then(
  R8 t40 t41 (AW (t42+1)) AQ AF Ah BA BH AM Bj Bi BM Bm AG Ba Fi Ix b2 b3 b4 b5 b6 b7 b8 b9 FA Gy D8 G6 EK Hy Hw (Eu++[(iG.1.1.1,iG.2.1,())]) Fb GK bI)else none)else none)
 (R13 Bi (Bi.length:Int) 0 AQ AF Ah BA BH AM Bj Bi BM Bm AG Ba Fi Ix b2 b3 b4 b5 b6 b7 b8 b9 FA Gy D8 G6 EK Hy Hw Eu Fb GK bI)
def Tq(R3:IB)(R8:H6)(R13:HO)(R18:HN)(t55:AAY)(t56 t57:Int)(AQ:AAN)(AF:Int)(Ah:AAT)(BA:AAN)(BH:AAU)(AM:Int)(Bj:AAX)(Bi:AAY)(BM:AAV)(Bm:AAW)(AG:Bool)(Ba Fi:Int)(Ix:Bool)(b2:AAN)(b3:AAT)(b4:AAN)(b5:AAU)(b6:AAX)(b7:AAY)(b8:AAV)(b9:AAW)(FA Gy:Int)(D8:Bool)(G6:AAN)(EK:AAT)(Hy:AAN)(Hw:AAU)(Eu:AAX)(Fb:AAY)(GK:AAV)(bI:AAW):Option EC:=
 cond (decide (t57<t56))
  (if(0:Int)<=t57/\t57<(t55.length:Int)then(
  (GH ((t55.getD (t57.toNat) (0,0,[],[],false,[],())).1,(t55.getD (t57.toNat) (0,0,[],[],false,[],())).2.1,(t55.getD (t57.toNat) (0,0,[],[],false,[],())).2.2.1,(t55.getD (t57.toNat) (0,0,[],[],false,[],())).2.2.2.1,(t55.getD (t57.toNat) (0,0,[],[],false,[],())).2.2.2.2.1,(t55.getD (t57.toNat) (0,0,[],[],false,[],())).2.2.2.2.2.1,())).bind fun u25=>
  if Fb.length+1<=Cm then(
  R13 t55 t56 (AW (t57+1)) AQ AF Ah BA BH AM Bj Bi BM Bm AG Ba Fi Ix b2 b3 b4 b5 b6 b7 b8 b9 FA Gy D8 G6 EK Hy Hw Eu (Fb++[(u25.1.1.1,u25.1.1.2.1,u25.2.1,u25.2.2.1,u25.1.1.2.2.2.2.1,u25.2.2.2.1,())]) GK bI)else none)else none)
 (R18 BM (BM.length:Int) 0 AQ AF Ah BA BH AM Bj Bi BM Bm AG Ba Fi Ix b2 b3 b4 b5 b6 b7 b8 b9 FA Gy D8 G6 EK Hy Hw Eu Fb GK bI)
def Tn(R3:IB)(R8:H6)(R13:HO)(R18:HN)(t70:AAV)(t71 t72:Int)(AQ:AAN)(AF:Int)(Ah:AAT)(BA:AAN)(BH:AAU)(AM:Int)(Bj:AAX)(Bi:AAY)(BM:AAV)(Bm:AAW)(AG:Bool)(Ba Fi:Int)(Ix:Bool)(b2:AAN)(b3:AAT)(b4:AAN)(b5:AAU)(b6:AAX)(b7:AAY)(b8:AAV)(b9:AAW)(FA Gy:Int)(D8:Bool)(G6:AAN)(EK:AAT)(Hy:AAN)(Hw:AAU)(Eu:AAX)(Fb:AAY)(GK:AAV)(bI:AAW):Option EC:=
 cond (decide (t72<t71))
  (if(0:Int)<=t72/\t72<(t70.length:Int)then(
  (Mz ((t70.getD (t72.toNat) (0,0,[],())).1,(t70.getD (t72.toNat) (0,0,[],())).2.1,(t70.getD (t72.toNat) (0,0,[],())).2.2.1,())).bind fun vO=>
  if GK.length+1<=Cm then(
  R18 t70 t71 (AW (t72+1)) AQ AF Ah BA BH AM Bj Bi BM Bm AG Ba Fi Ix b2 b3 b4 b5 b6 b7 b8 b9 FA Gy D8 G6 EK Hy Hw Eu Fb (GK++[(vO.1.1.1,vO.1.1.2.1,vO.2.1,())]) bI)else none)else none)
 (if 0+Bm.length<=Cm then(
 some ((((),FA,(),(),(),Gy,(),(),(),(),D8,()),()),(G6,EK,Hy,Hw,Eu,Fb,GK,Bm,())))else none)
mutual
def FK:Nat->IB
 |0=>fun _ _ _ _ _ _ _ _ _ _ _ _ _ _ _ _ _ _ _ _ _ _ _ _ _ _ _ _ _ _ _ _ _ _ _ _=>none
 |n+1=>Vs (FK n) (FM n) (En n) (Em n)
def FM:Nat->H6
 |0=>fun _ _ _ _ _ _ _ _ _ _ _ _ _ _ _ _ _ _ _ _ _ _ _ _ _ _ _ _ _ _ _ _ _ _ _ _=>none
 |n+1=>Vj (FK n) (FM n) (En n) (Em n)
def En:Nat->HO
 |0=>fun _ _ _ _ _ _ _ _ _ _ _ _ _ _ _ _ _ _ _ _ _ _ _ _ _ _ _ _ _ _ _ _ _ _ _ _=>none
 |n+1=>Tq (FK n) (FM n) (En n) (Em n)
def Em:Nat->HN
 |0=>fun _ _ _ _ _ _ _ _ _ _ _ _ _ _ _ _ _ _ _ _ _ _ _ _ _ _ _ _ _ _ _ _ _ _ _ _=>none
 |n+1=>Tn (FK n) (FM n) (En n) (Em n)
end
def Vw(R3:IB)(R8:H6)(R13:HO)(R18:HN)(p0:AAi):Option EC:=
 (IK (p0.1,p0.2.1,())).bind fun u2=>
 (DD p0.2.2.2.1).bind fun u3=>
 (EL (p0.2.2.2.2.1,p0.2.2.2.2.2.1,())).bind fun u4=>
 R3 p0.2.2.1 (p0.2.2.1.length:Int) 0 p0.1 p0.2.1 p0.2.2.1 p0.2.2.2.1 p0.2.2.2.2.1 p0.2.2.2.2.2.1 p0.2.2.2.2.2.2.1 p0.2.2.2.2.2.2.2.1 p0.2.2.2.2.2.2.2.2.1 p0.2.2.2.2.2.2.2.2.2.1 p0.2.2.2.2.2.2.2.2.2.2.1 0 0 false [] [] [] [] [] [] [] [] u2.1.1.2.1 u4.1.1.2.1 p0.2.2.2.2.2.2.2.2.2.2.1 u2.2.1 [] u3.2.1 u4.2.1 [] [] [] []
def Dk(p0:AAi):Option EC:=Vw (FK AX) (FM AX) (En AX) (Em AX) p0
abbrev La:Type:=ADw×Unit
def DP(p0 p1:Int):Option La:=
 (HY p0).bind fun u1=>
 cond (!u1.1.1)
  (some (((0,false,()),()),()))
 ((Yz p1).bind fun u2=>
 cond (!u2.1.1)
  (some (((0,false,()),()),()))
 (some (((AW ((AW (4294967296*p0))+p1),true,()),()),())))
abbrev HP:Type:=ABW×ACE
abbrev SF:Type:=Int->Int->List Int->Option HP
def Vv(R5:SF)(t0 t10:Int)(b0:AAN):Option HP:=
 cond (decide (t10<8))
  (if t10<0 then none else(
  cond (((tO .i64 (t0.fdiv (2^(min t10.toNat 64))) 1)==1))
   (if b0.length+1<=Cm then(
   R5 t0 (AW (t10+1)) (b0++[t10]))else none)
  (R5 t0 (AW (t10+1)) b0)))
 (some (((),()),(b0,())))
def KZ:Nat->SF
 |0=>fun _ _ _=>none
 |n+1=>Vv (KZ n)
def Vg(R5:SF)(p0:Int):Option HP:=
 (Ay p0 0 255).bind fun u1=>
 cond (!u1.1.1)
  (some (((),()),([],())))
 (R5 p0 0 [])
def Hp(p0:Int):Option HP:=Vg (KZ AX) p0
abbrev mP:Type:=AAv×Unit
def TH(p0:ACv)(p1:Int):Option mP:=
 cond (decide (p0.1<p1))
  (some (((-1),()),()))
 (cond (decide (p0.1>p1))
  (some ((1,()),()))
 (some ((0,()),())))
abbrev BV:Type:=ADw×Unit
abbrev B4:Type:=AAa->Int->Int->Int->Int->Option BV
def Cp(R3:B4)(t0:AAa)(t1 t8 t9 t10:Int):Option BV:=
 cond (decide (t9<t10))
  (let x2:Int:=AW ((IntKind.wrap .u64 (AW (t9+t10))).fdiv (2^1))
  if(0:Int)<=x2/\x2<(t0.length:Int)then(
  (TH ((t0.getD (x2.toNat) (0,0,false,[],())).1,(t0.getD (x2.toNat) (0,0,false,[],())).2.1,(t0.getD (x2.toNat) (0,0,false,[],())).2.2.1,(t0.getD (x2.toNat) (0,0,false,[],())).2.2.2.1,()) t1).bind fun u3=>
  cond (decide (u3.1.1<0))
   (R3 t0 t1 t8 (AW (x2+1)) t10)
  (R3 t0 t1 t8 t9 x2))else none)
 (cond (decide (t9<t8))
  (if(0:Int)<=t9/\t9<(t0.length:Int)then(
  (TH ((t0.getD (t9.toNat) (0,0,false,[],())).1,(t0.getD (t9.toNat) (0,0,false,[],())).2.1,(t0.getD (t9.toNat) (0,0,false,[],())).2.2.1,(t0.getD (t9.toNat) (0,0,false,[],())).2.2.2.1,()) t1).bind fun u4=>
  some (((t9,u4.1.1==0,()),()),()))else none)
 (some (((t9,false,()),()),())))
def Aw:Nat->B4
 |0=>fun _ _ _ _ _=>none
 |n+1=>Cp (Aw n)
def Cr(R3:B4)(p0:AAa)(p1:Int):Option BV:=
 R3 p0 p1 (p0.length:Int) 0 (p0.length:Int)
def CD(p0:AAa)(p1:Int):Option BV:=Cr (Aw AX) p0 p1
abbrev r8:Type:=ADw×Unit
def S6(p0:AAa)(p1:Int):Option r8:=
 (CD p0 p1).bind fun u1=>
 some (((u1.1.1.1,u1.1.1.2.1,()),()),())
abbrev Ms:Type:=AEZ×Unit
def GL(p0:ABR)(p1:Int):Option Ms:=
 (Ey (p0.1,p0.2.1,p0.2.2.1,())).bind fun u1=>
 cond (!u1.1.1)
  (some ((((0,0,false,[],()),false,()),()),()))
 ((S6 p0.1 p1).bind fun u2=>
 cond (!u2.1.1.2.1)
  (some ((((0,0,false,[],()),false,()),()),()))
 (if(0:Int)<=u2.1.1.1/\u2.1.1.1<(p0.1.length:Int)then(
 some (((((p0.1.getD (u2.1.1.1.toNat) (0,0,false,[],())).1,(p0.1.getD (u2.1.1.1.toNat) (0,0,false,[],())).2.1,(p0.1.getD (u2.1.1.1.toNat) (0,0,false,[],())).2.2.1,(p0.1.getD (u2.1.1.1.toNat) (0,0,false,[],())).2.2.2.1,()),true,()),()),()))else none))
abbrev Nt:Type:=AAv×Unit
abbrev Q6:Type:=ABI->Int->Int->Int->ABI->Option Nt
def T8(R2:Q6)(t6:ABI)(t7 t8 AQ:Int)(AF:ABI):Option Nt:=
 cond (decide (t8<t7))
  (if(0:Int)<=t8/\t8<(t6.length:Int)then(
  cond (!((t6.getD (t8.toNat) ([],[],false,())).2.2.1))
   (some ((t8,()),()))
  (R2 t6 t7 (AW (t8+1)) AQ AF))else none)
 (some (((AF.length:Int),()),()))
def Jj:Nat->Q6
 |0=>fun _ _ _ _ _=>none
 |n+1=>T8 (Jj n)
def T9(R2:Q6)(p0:ABL):Option Nt:=
 R2 p0.2.1 (p0.2.1.length:Int) 0 p0.1 p0.2.1
def Qm(p0:ABL):Option Nt:=T9 (Jj AX) p0
abbrev NJ:Type:=AAv×Unit
abbrev YF:Type:=Int->AAX->Int->Int->Option NJ
def Z5(R2:YF)(t1:Int)(t8:AAX)(t9 t10:Int):Option NJ:=
 cond (decide (t10<t9))
  (if(0:Int)<=t10/\t10<(t8.length:Int)then(
  cond (((t8.getD (t10.toNat) (0,[],())).1)==t1)
   ((Qm ((t8.getD (t10.toNat) (0,[],())).1,(t8.getD (t10.toNat) (0,[],())).2.1,())).bind fun u3=>
   some ((u3.1.1,()),()))
  (R2 t1 t8 t9 (AW (t10+1))))else none)
 (some ((0,()),()))
def PD:Nat->YF
 |0=>fun _ _ _ _=>none
 |n+1=>Z5 (PD n)
def aA(R2:YF)(p0:AAi)(p1:Int):Option NJ:=
 R2 p1 p0.2.2.2.2.2.2.1 (p0.2.2.2.2.2.2.1.length:Int) 0
def RU(p0:AAi)(p1:Int):Option NJ:=aA (PD AX) p0 p1
abbrev TO:Type:=ABW×ACE
abbrev WS:Type:=ACU->Int->Int->List Int->Option TO
def Yp(R3:WS)(t7:ACU)(t8 t9:Int)(b0:AAN):Option TO:=
 cond (decide (t9<t8))
  (if(0:Int)<=t9/\t9<(t7.length:Int)then(
  if b0.length+1<=Cm then(
  R3 t7 t8 (AW (t9+1)) (b0++[((t7.getD (t9.toNat) (0,false,0,0,false,[],())).1)]))else none)else none)
 (some (((),()),(b0,())))
def Mt:Nat->WS
 |0=>fun _ _ _ _=>none
 |n+1=>Yp (Mt n)
def Yi(R3:WS)(p0:ACU):Option TO:=
 R3 p0 (p0.length:Int) 0 []
def PZ(p0:ACU):Option TO:=Yi (Mt AX) p0
abbrev rl:Type:=AAg×Unit
def Ie(p0:Int)(p1:ACD):Option rl:=
 (EM p0).bind fun u1=>
 cond ((decide (u1.1.1<p1.1)))
  (some ((true,()),()))
 (cond (u1.1.1==p1.1)
  ((Q0 p0).bind fun u3=>
  some (((decide (u3.1.1<p1.2.1)),()),()))
 (some ((false,()),())))
abbrev ig:Type:=ABW×AGZ
def E4(p1:ADa)(AQ AF:Int)(b1:ACH):Option ig:=
 if b1.length+1<=Cm then(
 some (((()),()),((AQ,AF,(),()),(),(b1++[(p1.1,p1.2.1,p1.2.2.1,())]),())))else none
abbrev Z7:Type:=ABW×ACE
abbrev cr:Type:=List Int->List Int->Int->Int->List Int->Option Z7
def eP(R5:cr)(t2 t22:AAN)(t23 t24:Int)(b0:AAN):Option Z7:=
 cond (decide (t24<t23))
  (if(0:Int)<=t24/\t24<(t22.length:Int)then(
  let x3:Int:=(t22.getD (t24.toNat) 0)
  (Bp t2 x3).bind fun u4=>
  cond (!u4.1.1)
   (if b0.length+1<=Cm then(
   R5 t2 t22 t23 (AW (t24+1)) (b0++[x3]))else none)
  (R5 t2 t22 t23 (AW (t24+1)) b0))else none)
 (some (((),()),(b0,())))
def Sd:Nat->cr
 |0=>fun _ _ _ _ _=>none
 |n+1=>eP (Sd n)
def eU(R5:cr)(p0:AAb)(p1 p2:AAN):Option Z7:=
 (D2 (p0.1,p0.2.1,()) p1).bind fun u1=>
 cond (!u1.1.1)
  (some (((),()),([],())))
 ((D2 (p0.1,p0.2.1,()) p2).bind fun u2=>
 cond (!u2.1.1)
  (some (((),()),([],())))
 (R5 p2 p1 (p1.length:Int) 0 []))
def gQ(p0:AAb)(p1 p2:AAN):Option Z7:=eU (Sd AX) p0 p1 p2
abbrev uO:Type:=AAg×Unit
def G1(p0:AAb)(p1 p2:AAN):Option uO:=
 (D2 (p0.1,p0.2.1,()) p2).bind fun u1=>
 cond (!u1.1.1)
  (some ((false,()),()))
 ((Gq (p0.1,p0.2.1,()) p1).bind fun u2=>
 cond (!u2.1.1)
  (some ((false,()),()))
 ((NK p2 p1).bind fun u3=>
 cond (((u3.2.1.length:Int) !=(p2.length:Int)))
  (some ((false,()),()))
 ((gQ (p0.1,p0.2.1,()) p1 p2).bind fun u6=>
 (Gq (p0.1,p0.2.1,()) u6.2.1).bind fun u7=>
 some ((!u7.1.1,()),()))))
abbrev uW:Type:=(ACv×Unit)×Unit
def Rj(p0 p1:ACv):Option uW:=
 cond ((decide (p1.2.1>p0.2.1)))
  (some (((p1.1,p1.2.1,p1.2.2.1,p1.2.2.2.1,()),()),()))
 (some (((p0.1,p0.2.1,p0.2.2.1,p0.2.2.2.1,()),()),()))
abbrev Uy:Type:=AEZ×Unit
abbrev X5:Type:=List Int->Int->Bool->ACU->Int->Int->Int->Int->Bool->List UInt8->Int->Int->Bool->List UInt8->Option Uy
def Za(R3:X5)(t1:AAN)(t2:Int)(t9:Bool)(t13:ACU)(t14 t15 AQ AF:Int)(Ah:Bool)(BA:AAZ)(B7 Ba:Int)(CO:Bool)(EX:AAZ):Option Uy:=
 cond (decide (t15<t14))
  (if(0:Int)<=t15/\t15<(t13.length:Int)then(
  cond (!((t13.getD (t15.toNat) (0,false,0,0,false,[],())).2.1))
   (R3 t1 t2 t9 t13 t14 (AW (t15+1)) AQ AF Ah BA B7 Ba CO EX)
  ((Bp t1 ((t13.getD (t15.toNat) (0,false,0,0,false,[],())).1)).bind fun u3=>
  cond (!u3.1.1)
   (R3 t1 t2 t9 t13 t14 (AW (t15+1)) AQ AF Ah BA B7 Ba CO EX)
  ((MD ((t13.getD (t15.toNat) (0,false,0,0,false,[],())).2.2.1,(t13.getD (t15.toNat) (0,false,0,0,false,[],())).2.2.2.1,(t13.getD (t15.toNat) (0,false,0,0,false,[],())).2.2.2.2.1,(t13.getD (t15.toNat) (0,false,0,0,false,[],())).2.2.2.2.2.1,())).bind fun u4=>
  cond (!u4.1.1)
   (R3 t1 t2 t9 t13 t14 (AW (t15+1)) AQ AF Ah BA B7 Ba CO EX)
  (cond (((t13.getD (t15.toNat) (0,false,0,0,false,[],())).2.2.1) !=t2)
   (R3 t1 t2 t9 t13 t14 (AW (t15+1)) AQ AF Ah BA B7 Ba CO EX)
  (cond (!t9)
   ((Rj ((t13.getD (t15.toNat) (0,false,0,0,false,[],())).2.2.1,(t13.getD (t15.toNat) (0,false,0,0,false,[],())).2.2.2.1,(t13.getD (t15.toNat) (0,false,0,0,false,[],())).2.2.2.2.1,(t13.getD (t15.toNat) (0,false,0,0,false,[],())).2.2.2.2.2.1,()) ((t13.getD (t15.toNat) (0,false,0,0,false,[],())).2.2.1,(t13.getD (t15.toNat) (0,false,0,0,false,[],())).2.2.2.1,(t13.getD (t15.toNat) (0,false,0,0,false,[],())).2.2.2.2.1,(t13.getD (t15.toNat) (0,false,0,0,false,[],())).2.2.2.2.2.1,())).bind fun u6=>
   R3 t1 t2 true t13 t14 (AW (t15+1)) AQ AF Ah BA u6.1.1.1 u6.1.1.2.1 u6.1.1.2.2.1 u6.1.1.2.2.2.1)
  ((Rj (B7,Ba,CO,EX,()) ((t13.getD (t15.toNat) (0,false,0,0,false,[],())).2.2.1,(t13.getD (t15.toNat) (0,false,0,0,false,[],())).2.2.2.1,(t13.getD (t15.toNat) (0,false,0,0,false,[],())).2.2.2.2.1,(t13.getD (t15.toNat) (0,false,0,0,false,[],())).2.2.2.2.2.1,())).bind fun u7=>
  R3 t1 t2 true t13 t14 (AW (t15+1)) AQ AF Ah BA u7.1.1.1 u7.1.1.2.1 u7.1.1.2.2.1 u7.1.1.2.2.2.1))))))else none)
 (some ((((B7,Ba,CO,EX,()),t9,()),()),()))
def O2:Nat->X5
 |0=>fun _ _ _ _ _ _ _ _ _ _ _ _ _ _=>none
 |n+1=>Za (O2 n)
def aO(R3:X5)(p0:ACU)(p1:AAN)(p2:Int):Option Uy:=
 R3 p1 p2 false p0 (p0.length:Int) 0 0 0 false [] 0 0 false []
def Z4(p0:ACU)(p1:AAN)(p2:Int):Option Uy:=aO (O2 AX) p0 p1 p2
abbrev hI:Type:=ABW×AGZ
def C2(p1:ACU)(p2:AAN)(AQ AF:Int)(b1:ACH):Option hI:=
 (DP AQ AF).bind fun u1=>
 (Z4 p1 p2 u1.1.1.1).bind fun u2=>
 cond (!u2.1.1.2.1)
  ((E4 (3,u1.1.1.1,[],()) AQ AF b1).bind fun u3=>
  some (((()),()),((u3.2.1.1,AW (u3.2.1.2.1+1),(),()),(),u3.2.2.2.1,())))
 (cond (u2.1.1.1.2.2.1)
  ((E4 (2,u1.1.1.1,[],()) AQ AF b1).bind fun u4=>
  some (((()),()),((u4.2.1.1,AW (u4.2.1.2.1+1),(),()),(),u4.2.2.2.1,())))
 ((E4 (1,u1.1.1.1,u2.1.1.1.2.2.2.1,()) AQ AF b1).bind fun u5=>
 some (((()),()),((u5.2.1.1,AW (u5.2.1.2.1+1),(),()),(),u5.2.2.2.1,()))))
abbrev Kf:Type:=(AGf×Unit)×AEJ
def J5(p0:AAb)(p1:AA6)(p2:Int)(p3:ACD)(p4:ACU):Option Kf:=
 (Ks (p0.1,p0.2.1,()) (p1.1,p1.2.1,())).bind fun u1=>
 cond (!u1.1.1)
  (some ((((0,0,(),()),1,()),()),([],())))
 ((VL (p3.1,p3.2.1,p3.2.2.1,())).bind fun u2=>
 cond (!u2.1.1)
  (some ((((0,0,(),()),1,()),()),([],())))
 ((PZ p4).bind fun u3=>
 (D2 (p0.1,p0.2.1,()) u3.2.1).bind fun u4=>
 cond (!u4.1.1)
  (some ((((0,0,(),()),1,()),()),([],())))
 ((Mz (p3.1,p3.2.1,p3.2.2.1,())).bind fun u5=>
 cond ((decide (p3.1>(p1.1.length:Int))))
  (some ((((u5.1.1.1,u5.1.1.2.1,(),()),2,()),()),(u5.2.1,())))
 (cond ((p3.2.2.1.length:Int)==120)
  (some ((((u5.1.1.1,u5.1.1.2.1,(),()),2,()),()),(u5.2.1,())))
 (cond (decide (p1.2.1>0))
  ((Ie p1.2.1 (p3.1,p3.2.1,p3.2.2.1,())).bind fun u8=>
  cond (!u8.1.1)
   ((E4 (5,p1.2.1,[],()) u5.1.1.1 u5.1.1.2.1 u5.2.1).bind fun u9=>
   (EM p1.2.1).bind fun FE=>
   (Q0 p1.2.1).bind fun Hj=>
   some ((((FE.1.1,AW (Hj.1.1+1),(),()),0,()),()),(u9.2.2.2.1,())))
  (if(0:Int)<=AW (p3.1-1)/\AW (p3.1-1)<(p1.1.length:Int)then(
  (PZ p4).bind fun Th=>
  (NK Th.2.1 ((p1.1.getD ((AW (p3.1-1)).toNat) ([],false,0,())).1)).bind fun WL=>
  cond (((p1.1.getD ((AW (p3.1-1)).toNat) ([],false,0,())).2.1))
   (cond ((decide (p3.2.1>((p1.1.getD ((AW (p3.1-1)).toNat) ([],false,0,())).2.2.1))))
    ((E4 (4,AW (p3.1+1),[],()) u5.1.1.1 u5.1.1.2.1 u5.2.1).bind fun qF=>
    some ((((AW (p3.1+1),1,(),()),0,()),()),(qF.2.2.2.1,())))
   (cond (!((p1.1.getD ((AW (p3.1-1)).toNat) ([],false,0,())).2.1))
    (cond (decide (p3.2.1>p2))
     (some ((((u5.1.1.1,u5.1.1.2.1,(),()),2,()),()),(u5.2.1,())))
    (cond (decide (p3.2.1>60))
     (some ((((u5.1.1.1,u5.1.1.2.1,(),()),2,()),()),(u5.2.1,())))
    ((G1 (p0.1,p0.2.1,()) ((p1.1.getD ((AW (p3.1-1)).toNat) ([],false,0,())).1) WL.2.1).bind fun gr=>
    cond (!gr.1.1)
     (some ((((u5.1.1.1,u5.1.1.2.1,(),()),3,()),()),(u5.2.1,())))
    ((C2 p4 WL.2.1 u5.1.1.1 u5.1.1.2.1 u5.2.1).bind fun iG=>
    some ((((iG.2.1.1,iG.2.1.2.1,(),()),0,()),()),(iG.2.2.2.1,()))))))
   (cond (decide (p3.2.1>60))
    (some ((((u5.1.1.1,u5.1.1.2.1,(),()),2,()),()),(u5.2.1,())))
   ((G1 (p0.1,p0.2.1,()) ((p1.1.getD ((AW (p3.1-1)).toNat) ([],false,0,())).1) WL.2.1).bind fun hY=>
   cond (!hY.1.1)
    (some ((((u5.1.1.1,u5.1.1.2.1,(),()),3,()),()),(u5.2.1,())))
   ((C2 p4 WL.2.1 u5.1.1.1 u5.1.1.2.1 u5.2.1).bind fun u22=>
   some ((((u22.2.1.1,u22.2.1.2.1,(),()),0,()),()),(u22.2.2.2.1,())))))))
  (cond (!((p1.1.getD ((AW (p3.1-1)).toNat) ([],false,0,())).2.1))
   (cond (decide (p3.2.1>p2))
    (some ((((u5.1.1.1,u5.1.1.2.1,(),()),2,()),()),(u5.2.1,())))
   (cond (decide (p3.2.1>60))
    (some ((((u5.1.1.1,u5.1.1.2.1,(),()),2,()),()),(u5.2.1,())))
   ((G1 (p0.1,p0.2.1,()) ((p1.1.getD ((AW (p3.1-1)).toNat) ([],false,0,())).1) WL.2.1).bind fun o9=>
   cond (!o9.1.1)
    (some ((((u5.1.1.1,u5.1.1.2.1,(),()),3,()),()),(u5.2.1,())))
   ((C2 p4 WL.2.1 u5.1.1.1 u5.1.1.2.1 u5.2.1).bind fun u25=>
   some ((((u25.2.1.1,u25.2.1.2.1,(),()),0,()),()),(u25.2.2.2.1,()))))))
  (cond (decide (p3.2.1>60))
   (some ((((u5.1.1.1,u5.1.1.2.1,(),()),2,()),()),(u5.2.1,())))
  ((G1 (p0.1,p0.2.1,()) ((p1.1.getD ((AW (p3.1-1)).toNat) ([],false,0,())).1) WL.2.1).bind fun u26=>
  cond (!u26.1.1)
   (some ((((u5.1.1.1,u5.1.1.2.1,(),()),3,()),()),(u5.2.1,())))
  ((C2 p4 WL.2.1 u5.1.1.1 u5.1.1.2.1 u5.2.1).bind fun u27=>
  some ((((u27.2.1.1,u27.2.1.2.1,(),()),0,()),()),(u27.2.2.2.1,())))))))else none))
 (if(0:Int)<=AW (p3.1-1)/\AW (p3.1-1)<(p1.1.length:Int)then(
 (PZ p4).bind fun jU=>
 (NK jU.2.1 ((p1.1.getD ((AW (p3.1-1)).toNat) ([],false,0,())).1)).bind fun u29=>
 cond (((p1.1.getD ((AW (p3.1-1)).toNat) ([],false,0,())).2.1))
  (cond ((decide (p3.2.1>((p1.1.getD ((AW (p3.1-1)).toNat) ([],false,0,())).2.2.1))))
   ((E4 (4,AW (p3.1+1),[],()) u5.1.1.1 u5.1.1.2.1 u5.2.1).bind fun xo=>
   some ((((AW (p3.1+1),1,(),()),0,()),()),(xo.2.2.2.1,())))
  (cond (!((p1.1.getD ((AW (p3.1-1)).toNat) ([],false,0,())).2.1))
   (cond (decide (p3.2.1>p2))
    (some ((((u5.1.1.1,u5.1.1.2.1,(),()),2,()),()),(u5.2.1,())))
   (cond (decide (p3.2.1>60))
    (some ((((u5.1.1.1,u5.1.1.2.1,(),()),2,()),()),(u5.2.1,())))
   ((G1 (p0.1,p0.2.1,()) ((p1.1.getD ((AW (p3.1-1)).toNat) ([],false,0,())).1) u29.2.1).bind fun u35=>
   cond (!u35.1.1)
    (some ((((u5.1.1.1,u5.1.1.2.1,(),()),3,()),()),(u5.2.1,())))
   ((C2 p4 u29.2.1 u5.1.1.1 u5.1.1.2.1 u5.2.1).bind fun u36=>
   some ((((u36.2.1.1,u36.2.1.2.1,(),()),0,()),()),(u36.2.2.2.1,()))))))
  (cond (decide (p3.2.1>60))
   (some ((((u5.1.1.1,u5.1.1.2.1,(),()),2,()),()),(u5.2.1,())))
  ((G1 (p0.1,p0.2.1,()) ((p1.1.getD ((AW (p3.1-1)).toNat) ([],false,0,())).1) u29.2.1).bind fun xl=>
  cond (!xl.1.1)
   (some ((((u5.1.1.1,u5.1.1.2.1,(),()),3,()),()),(u5.2.1,())))
  ((C2 p4 u29.2.1 u5.1.1.1 u5.1.1.2.1 u5.2.1).bind fun u38=>
  some ((((u38.2.1.1,u38.2.1.2.1,(),()),0,()),()),(u38.2.2.2.1,())))))))
 (cond (!((p1.1.getD ((AW (p3.1-1)).toNat) ([],false,0,())).2.1))
  (cond (decide (p3.2.1>p2))
   (some ((((u5.1.1.1,u5.1.1.2.1,(),()),2,()),()),(u5.2.1,())))
  (cond (decide (p3.2.1>60))
   (some ((((u5.1.1.1,u5.1.1.2.1,(),()),2,()),()),(u5.2.1,())))
  ((G1 (p0.1,p0.2.1,()) ((p1.1.getD ((AW (p3.1-1)).toNat) ([],false,0,())).1) u29.2.1).bind fun u40=>
  cond (!u40.1.1)
   (some ((((u5.1.1.1,u5.1.1.2.1,(),()),3,()),()),(u5.2.1,())))
  ((C2 p4 u29.2.1 u5.1.1.1 u5.1.1.2.1 u5.2.1).bind fun u41=>
  some ((((u41.2.1.1,u41.2.1.2.1,(),()),0,()),()),(u41.2.2.2.1,()))))))
 (cond (decide (p3.2.1>60))
  (some ((((u5.1.1.1,u5.1.1.2.1,(),()),2,()),()),(u5.2.1,())))
 ((G1 (p0.1,p0.2.1,()) ((p1.1.getD ((AW (p3.1-1)).toNat) ([],false,0,())).1) u29.2.1).bind fun u42=>
 cond (!u42.1.1)
  (some ((((u5.1.1.1,u5.1.1.2.1,(),()),3,()),()),(u5.2.1,())))
 ((C2 p4 u29.2.1 u5.1.1.1 u5.1.1.2.1 u5.2.1).bind fun u43=>
 some ((((u43.2.1.1,u43.2.1.2.1,(),()),0,()),()),(u43.2.2.2.1,())))))))else none))))))
abbrev KY:Type:=AAv×ADj
abbrev RC:Type:=Int->Int->Int->Int->Int->Int->Bool->List Int->AAT->List Int->AAU->AAX->AAY->AAV->AAW->Int->Int->ACH->ACU->List Int->Option KY
def NT(R7:RC)(t1 t8 t44 t45 AF AM:Int)(AG:Bool)(b1:AAN)(b2:AAT)(b3:AAN)(b4:AAU)(b5:AAX)(b6:AAY)(b7:AAV)(b8:AAW)(j7 EE:Int)(fH:ACH)(N3:ACU)(G6:AAN):Option KY:=
 cond (decide (t45<t44))
  (if(0:Int)<=t45/\t45<(G6.length:Int)then(
  let x8:Int:=(G6.getD (t45.toNat) 0)
  cond ((decide (x8<(b2.length:Int))))
   ((C4 (b1,AF,b2,b3,b4,AM,b5,b6,b7,b8,AG,()) x8).bind fun FE=>
   cond (!FE.1.1)
    (if(0:Int)<=x8/\x8<(b2.length:Int)then(
    (GL ((b2.getD (x8.toNat) ([],[],0,())).1,(b2.getD (x8.toNat) ([],[],0,())).2.1,(b2.getD (x8.toNat) ([],[],0,())).2.2.1,()) t8).bind fun Hj=>
    if N3.length+1<=Cm then(
    R7 t1 t8 t44 (AW (t45+1)) AF AM AG b1 b2 b3 b4 b5 b6 b7 b8 j7 EE fH (N3++[(x8,Hj.1.1.2.1,Hj.1.1.1.1,Hj.1.1.1.2.1,Hj.1.1.1.2.2.1,Hj.1.1.1.2.2.2.1,())]) G6)else none)else none)
   (R7 t1 t8 t44 (AW (t45+1)) AF AM AG b1 b2 b3 b4 b5 b6 b7 b8 j7 EE fH N3 G6))
  (R7 t1 t8 t44 (AW (t45+1)) AF AM AG b1 b2 b3 b4 b5 b6 b7 b8 j7 EE fH N3 G6))else none)
 ((RU (b1,AF,b2,b3,b4,AM,b5,b6,b7,b8,AG,()) j7).bind fun WL=>
 (J5 (b1,AF,()) (b4,AM,()) WL.1.1 (j7,EE,fH,()) N3).bind fun Pd=>
 cond (Pd.1.1.2.1 !=0)
  (some ((5,()),(((),AF,(),(),(),AM,(),(),(),(),AG,()),b1,b2,b3,b4,b5,b6,b7,b8,())))
 (if(0:Int)<=t1/\t1<(b7.length:Int)then(
 some ((0,()),(((),AF,(),(),(),AM,(),(),(),(),AG,()),b1,b2,b3,b4,b5,b6,(b7.set (t1.toNat) (Pd.1.1.1.1,Pd.1.1.1.2.1,Pd.2.1,())),b8,())))else none))
def C8:Nat->RC
 |0=>fun _ _ _ _ _ _ _ _ _ _ _ _ _ _ _ _ _ _ _ _=>none
 |n+1=>NT (C8 n)
def NR(R7:RC)(p1 p2 AF AM:Int)(AG:Bool)(b1:AAN)(b2:AAT)(b3:AAN)(b4:AAU)(b5:AAX)(b6:AAY)(b7:AAV)(b8:AAW):Option KY:=
 (Ay p1 0 (AW ((b7.length:Int)-1))).bind fun u2=>
 cond (!u2.1.1)
  (some ((2,()),(((),AF,(),(),(),AM,(),(),(),(),AG,()),b1,b2,b3,b4,b5,b6,b7,b8,())))
 (if(0:Int)<=p1/\p1<(b7.length:Int)then(
 (DP ((b7.getD (p1.toNat) (0,0,[],())).1) ((b7.getD (p1.toNat) (0,0,[],())).2.1)).bind fun u5=>
 (Hp p2).bind fun u6=>
 R7 p1 u5.1.1.1 (u6.2.1.length:Int) 0 AF AM AG b1 b2 b3 b4 b5 b6 b7 b8 ((b7.getD (p1.toNat) (0,0,[],())).1) ((b7.getD (p1.toNat) (0,0,[],())).2.1) ((b7.getD (p1.toNat) (0,0,[],())).2.2.1) [] u6.2.1)else none)
def My(p1 p2 AF AM:Int)(AG:Bool)(b1:AAN)(b2:AAT)(b3:AAN)(b4:AAU)(b5:AAX)(b6:AAY)(b7:AAV)(b8:AAW):Option KY:=NR (C8 AX) p1 p2 AF AM AG b1 b2 b3 b4 b5 b6 b7 b8
abbrev p9:Type:=AAg×Unit
def VG(p0:ADa):Option p9:=
 cond (p0.1==1)
  (some ((true,()),()))
 (cond (p0.1==2)
  (some ((true,()),()))
 (some ((p0.1==3,()),())))
abbrev IC:Type:=AAg×Unit
abbrev MZ:Type:=AAV->Int->Int->List Int->Int->AAT->List Int->AAU->Int->AAX->AAY->AAV->AAW->Bool->Option IC
abbrev MF:Type:=Int->Bool->AAV->Int->Int->ACH->Int->Int->List Int->Int->AAT->List Int->AAU->Int->AAX->AAY->AAV->AAW->Bool->Option IC
def NO(R2:MZ)(R6:MF)(t10:AAV)(t11 t12:Int)(AQ:AAN)(AF:Int)(Ah:AAT)(BA:AAN)(BH:AAU)(AM:Int)(Bj:AAX)(Bi:AAY)(BM:AAV)(Bm:AAW)(AG:Bool):Option IC:=
 cond (decide (t12<t11))
  (if(0:Int)<=t12/\t12<(t10.length:Int)then(
  R6 0 false t10 t11 t12 ((t10.getD (t12.toNat) (0,0,[],())).2.2.1) (((t10.getD (t12.toNat) (0,0,[],())).2.2.1).length:Int) 0 AQ AF Ah BA BH AM Bj Bi BM Bm AG)else none)
 ((Cw (AQ,AF,Ah,BA,BH,AM,Bj,Bi,BM,Bm,AG,())).bind fun u3=>
 some ((u3.1.1,()),()))
def T3(R2:MZ)(R6:MF)(t5:Int)(t6:Bool)(t10:AAV)(t11 t12:Int)(t17:ACH)(t18 t19:Int)(AQ:AAN)(AF:Int)(Ah:AAT)(BA:AAN)(BH:AAU)(AM:Int)(Bj:AAX)(Bi:AAY)(BM:AAV)(Bm:AAW)(AG:Bool):Option IC:=
 cond (decide (t19<t18))
  (if(0:Int)<=t19/\t19<(t17.length:Int)then(
  (VG ((t17.getD (t19.toNat) (0,0,[],())).1,(t17.getD (t19.toNat) (0,0,[],())).2.1,(t17.getD (t19.toNat) (0,0,[],())).2.2.1,())).bind fun u4=>
  cond (!u4.1.1)
   (R6 t5 t6 t10 t11 t12 t17 t18 (AW (t19+1)) AQ AF Ah BA BH AM Bj Bi BM Bm AG)
  (cond (t6)
   (cond (decide (((t17.getD (t19.toNat) (0,0,[],())).2.1)<=t5))
    (some ((false,()),()))
   (R6 ((t17.getD (t19.toNat) (0,0,[],())).2.1) true t10 t11 t12 t17 t18 (AW (t19+1)) AQ AF Ah BA BH AM Bj Bi BM Bm AG))
  (R6 ((t17.getD (t19.toNat) (0,0,[],())).2.1) true t10 t11 t12 t17 t18 (AW (t19+1)) AQ AF Ah BA BH AM Bj Bi BM Bm AG)))else none)
 (R2 t10 t11 (AW (t12+1)) AQ AF Ah BA BH AM Bj Bi BM Bm AG)
mutual
def Ef:Nat->MZ
 |0=>fun _ _ _ _ _ _ _ _ _ _ _ _ _ _=>none
 |n+1=>NO (Ef n) (G9 n)
def G9:Nat->MF
 |0=>fun _ _ _ _ _ _ _ _ _ _ _ _ _ _ _ _ _ _ _=>none
 |n+1=>T3 (Ef n) (G9 n)
end
def T1(R2:MZ)(R6:MF)(p0:AAi):Option IC:=
 R2 p0.2.2.2.2.2.2.2.2.1 (p0.2.2.2.2.2.2.2.2.1.length:Int) 0 p0.1 p0.2.1 p0.2.2.1 p0.2.2.2.1 p0.2.2.2.2.1 p0.2.2.2.2.2.1 p0.2.2.2.2.2.2.1 p0.2.2.2.2.2.2.2.1 p0.2.2.2.2.2.2.2.2.1 p0.2.2.2.2.2.2.2.2.2.1 p0.2.2.2.2.2.2.2.2.2.2.1
def QW(p0:AAi):Option IC:=T1 (Ef AX) (G9 AX) p0
abbrev VT:Type:=AEV×Unit
abbrev Ya:Type:=Int->AAW->Int->Int->Option VT
def aK(R2:Ya)(t1:Int)(t9:AAW)(t10 t11:Int):Option VT:=
 cond (decide (t11<t10))
  (if(0:Int)<=t11/\t11<(t9.length:Int)then(
  cond (((t9.getD (t11.toNat) (0,[],false,())).1)==t1)
   (some (((((t9.getD (t11.toNat) (0,[],false,())).2.1),true,()),()),()))
  (R2 t1 t9 t10 (AW (t11+1))))else none)
 (some ((([],false,()),()),()))
def O6:Nat->Ya
 |0=>fun _ _ _ _=>none
 |n+1=>aK (O6 n)
def aN(R2:Ya)(p0:AAi)(p1:Int):Option VT:=
 R2 p1 p0.2.2.2.2.2.2.2.2.2.1 (p0.2.2.2.2.2.2.2.2.2.1.length:Int) 0
def Z0(p0:AAi)(p1:Int):Option VT:=aN (O6 AX) p0 p1
abbrev JE:Type:=AAg×Unit
abbrev Nl:Type:=AAV->Int->Int->List Int->Int->AAT->List Int->AAU->Int->AAX->AAY->AAV->AAW->Bool->Option JE
abbrev N6:Type:=AAV->Int->Int->ACH->Int->Int->List Int->Int->AAT->List Int->AAU->Int->AAX->AAY->AAV->AAW->Bool->Option JE
def Oa(R2:Nl)(R5:N6)(t10:AAV)(t11 t12:Int)(AQ:AAN)(AF:Int)(Ah:AAT)(BA:AAN)(BH:AAU)(AM:Int)(Bj:AAX)(Bi:AAY)(BM:AAV)(Bm:AAW)(AG:Bool):Option JE:=
 cond (decide (t12<t11))
  (if(0:Int)<=t12/\t12<(t10.length:Int)then(
  R5 t10 t11 t12 ((t10.getD (t12.toNat) (0,0,[],())).2.2.1) (((t10.getD (t12.toNat) (0,0,[],())).2.2.1).length:Int) 0 AQ AF Ah BA BH AM Bj Bi BM Bm AG)else none)
 ((Cw (AQ,AF,Ah,BA,BH,AM,Bj,Bi,BM,Bm,AG,())).bind fun u3=>
 some ((u3.1.1,()),()))
def PB(R2:Nl)(R5:N6)(t10:AAV)(t11 t12:Int)(t17:ACH)(t18 t19:Int)(AQ:AAN)(AF:Int)(Ah:AAT)(BA:AAN)(BH:AAU)(AM:Int)(Bj:AAX)(Bi:AAY)(BM:AAV)(Bm:AAW)(AG:Bool):Option JE:=
 cond (decide (t19<t18))
  (if(0:Int)<=t19/\t19<(t17.length:Int)then(
  (Z0 (AQ,AF,Ah,BA,BH,AM,Bj,Bi,BM,Bm,AG,()) ((t17.getD (t19.toNat) (0,0,[],())).2.1)).bind fun u5=>
  cond (((t17.getD (t19.toNat) (0,0,[],())).1)==1)
   (cond (!u5.1.1.2.1)
    (some ((false,()),()))
   (cond (!(u5.1.1.1==((t17.getD (t19.toNat) (0,0,[],())).2.2.1)))
    (some ((false,()),()))
   (R5 t10 t11 t12 t17 t18 (AW (t19+1)) AQ AF Ah BA BH AM Bj Bi BM Bm AG)))
  (R5 t10 t11 t12 t17 t18 (AW (t19+1)) AQ AF Ah BA BH AM Bj Bi BM Bm AG))else none)
 (R2 t10 t11 (AW (t12+1)) AQ AF Ah BA BH AM Bj Bi BM Bm AG)
mutual
def FN:Nat->Nl
 |0=>fun _ _ _ _ _ _ _ _ _ _ _ _ _ _=>none
 |n+1=>Oa (FN n) (Gc n)
def Gc:Nat->N6
 |0=>fun _ _ _ _ _ _ _ _ _ _ _ _ _ _ _ _ _=>none
 |n+1=>PB (FN n) (Gc n)
end
def Va(R2:Nl)(R5:N6)(p0:AAi):Option JE:=
 R2 p0.2.2.2.2.2.2.2.2.1 (p0.2.2.2.2.2.2.2.2.1.length:Int) 0 p0.1 p0.2.1 p0.2.2.1 p0.2.2.2.1 p0.2.2.2.2.1 p0.2.2.2.2.2.1 p0.2.2.2.2.2.2.1 p0.2.2.2.2.2.2.2.1 p0.2.2.2.2.2.2.2.2.1 p0.2.2.2.2.2.2.2.2.2.1 p0.2.2.2.2.2.2.2.2.2.2.1
def Sb(p0:AAi):Option JE:=Va (FN AX) (Gc AX) p0
abbrev Z2:Type:=AEV×Unit
abbrev cS:Type:=Int->ACH->Int->Int->Option Z2
def dv(R2:cS)(t1:Int)(t9:ACH)(t10 t11:Int):Option Z2:=
 cond (decide (t11<t10))
  (if(0:Int)<=t11/\t11<(t9.length:Int)then(
  cond (((t9.getD (t11.toNat) (0,0,[],())).1)==1)
   (cond (((t9.getD (t11.toNat) (0,0,[],())).2.1)==t1)
    (some (((((t9.getD (t11.toNat) (0,0,[],())).2.2.1),true,()),()),()))
   (R2 t1 t9 t10 (AW (t11+1))))
  (R2 t1 t9 t10 (AW (t11+1))))else none)
 (some ((([],false,()),()),()))
def Sj:Nat->cS
 |0=>fun _ _ _ _=>none
 |n+1=>dv (Sj n)
def dz(R2:cS)(p0:ACD)(p1:Int):Option Z2:=
 R2 p1 p0.2.2.1 (p0.2.2.1.length:Int) 0
def Ui(p0:ACD)(p1:Int):Option Z2:=dz (Sj AX) p0 p1
abbrev JD:Type:=AAg×Unit
abbrev N5:Type:=AAV->Int->Int->List Int->Int->AAT->List Int->AAU->Int->AAX->AAY->AAV->AAW->Bool->Option JD
abbrev Nv:Type:=AAV->Int->Int->AAW->Int->Int->List Int->Int->AAT->List Int->AAU->Int->AAX->AAY->AAV->AAW->Bool->Int->Int->ACH->Option JD
def OL(R4:N5)(R7:Nv)(t19:AAV)(t20 t21:Int)(AQ:AAN)(AF:Int)(Ah:AAT)(BA:AAN)(BH:AAU)(AM:Int)(Bj:AAX)(Bi:AAY)(BM:AAV)(Bm:AAW)(AG:Bool):Option JD:=
 cond (decide (t21<t20))
  (if(0:Int)<=t21/\t21<(t19.length:Int)then(
  R7 t19 t20 t21 Bm (Bm.length:Int) 0 AQ AF Ah BA BH AM Bj Bi BM Bm AG ((t19.getD (t21.toNat) (0,0,[],())).1) ((t19.getD (t21.toNat) (0,0,[],())).2.1) ((t19.getD (t21.toNat) (0,0,[],())).2.2.1))else none)
 (some ((true,()),()))
def Of(R4:N5)(R7:Nv)(t19:AAV)(t20 t21:Int)(t26:AAW)(t27 t28:Int)(AQ:AAN)(AF:Int)(Ah:AAT)(BA:AAN)(BH:AAU)(AM:Int)(Bj:AAX)(Bi:AAY)(BM:AAV)(Bm:AAW)(AG:Bool)(B7 Ba:Int)(CO:ACH):Option JD:=
 cond (decide (t28<t27))
  (if(0:Int)<=t28/\t28<(t26.length:Int)then(
  (Ui (B7,Ba,CO,()) ((t26.getD (t28.toNat) (0,[],false,())).1)).bind fun u7=>
  cond (((t26.getD (t28.toNat) (0,[],false,())).2.2.1))
   (cond (decide (((t26.getD (t28.toNat) (0,[],false,())).1)>AM))
    ((Ie ((t26.getD (t28.toNat) (0,[],false,())).1) (B7,Ba,CO,())).bind fun Hj=>
    cond (Hj.1.1)
     (cond (!u7.1.1.2.1)
      (some ((false,()),()))
     (R7 t19 t20 t21 t26 t27 (AW (t28+1)) AQ AF Ah BA BH AM Bj Bi BM Bm AG B7 Ba CO))
    (R7 t19 t20 t21 t26 t27 (AW (t28+1)) AQ AF Ah BA BH AM Bj Bi BM Bm AG B7 Ba CO))
   (R7 t19 t20 t21 t26 t27 (AW (t28+1)) AQ AF Ah BA BH AM Bj Bi BM Bm AG B7 Ba CO))
  (R7 t19 t20 t21 t26 t27 (AW (t28+1)) AQ AF Ah BA BH AM Bj Bi BM Bm AG B7 Ba CO))else none)
 (R4 t19 t20 (AW (t21+1)) AQ AF Ah BA BH AM Bj Bi BM Bm AG)
mutual
def FI:Nat->N5
 |0=>fun _ _ _ _ _ _ _ _ _ _ _ _ _ _=>none
 |n+1=>OL (FI n) (GV n)
def GV:Nat->Nv
 |0=>fun _ _ _ _ _ _ _ _ _ _ _ _ _ _ _ _ _ _ _ _=>none
 |n+1=>Of (FI n) (GV n)
end
def WD(R4:N5)(R7:Nv)(p0:AAi):Option JD:=
 (Cw (p0.1,p0.2.1,p0.2.2.1,p0.2.2.2.1,p0.2.2.2.2.1,p0.2.2.2.2.2.1,p0.2.2.2.2.2.2.1,p0.2.2.2.2.2.2.2.1,p0.2.2.2.2.2.2.2.2.1,p0.2.2.2.2.2.2.2.2.2.1,p0.2.2.2.2.2.2.2.2.2.2.1,())).bind fun u1=>
 cond (!u1.1.1)
  ((Cw (p0.1,p0.2.1,p0.2.2.1,p0.2.2.2.1,p0.2.2.2.2.1,p0.2.2.2.2.2.1,p0.2.2.2.2.2.2.1,p0.2.2.2.2.2.2.2.1,p0.2.2.2.2.2.2.2.2.1,p0.2.2.2.2.2.2.2.2.2.1,p0.2.2.2.2.2.2.2.2.2.2.1,())).bind fun u2=>
  some ((u2.1.1,()),()))
 (cond (p0.2.2.2.2.2.2.2.2.2.2.1)
  ((Cw (p0.1,p0.2.1,p0.2.2.1,p0.2.2.2.1,p0.2.2.2.2.1,p0.2.2.2.2.2.1,p0.2.2.2.2.2.2.1,p0.2.2.2.2.2.2.2.1,p0.2.2.2.2.2.2.2.2.1,p0.2.2.2.2.2.2.2.2.2.1,p0.2.2.2.2.2.2.2.2.2.2.1,())).bind fun u4=>
  some ((u4.1.1,()),()))
 (R4 p0.2.2.2.2.2.2.2.2.1 (p0.2.2.2.2.2.2.2.2.1.length:Int) 0 p0.1 p0.2.1 p0.2.2.1 p0.2.2.2.1 p0.2.2.2.2.1 p0.2.2.2.2.2.1 p0.2.2.2.2.2.2.1 p0.2.2.2.2.2.2.2.1 p0.2.2.2.2.2.2.2.2.1 p0.2.2.2.2.2.2.2.2.2.1 p0.2.2.2.2.2.2.2.2.2.2.1))
def SL(p0:AAi):Option JD:=WD (FI AX) (GV AX) p0
abbrev H4:Type:=AAg×Unit
abbrev MN:Type:=AAV->Int->Int->Option H4
abbrev MQ:Type:=AAV->Int->Int->ACH->Int->Int->Option H4
def NN(R4:MN)(R7:MQ)(t17:AAV)(t18 t19:Int):Option H4:=
 cond (decide (t19<t18))
  (if(0:Int)<=t19/\t19<(t17.length:Int)then(
  R7 t17 t18 t19 ((t17.getD (t19.toNat) (0,0,[],())).2.2.1) (((t17.getD (t19.toNat) (0,0,[],())).2.2.1).length:Int) 0)else none)
 (some ((true,()),()))
def NX(R4:MN)(R7:MQ)(t17:AAV)(t18 t19:Int)(t24:ACH)(t25 t26:Int):Option H4:=
 cond (decide (t26<t25))
  (if(0:Int)<=t26/\t26<(t24.length:Int)then(
  cond (((t24.getD (t26.toNat) (0,0,[],())).1)==3)
   (some ((false,()),()))
  (R7 t17 t18 t19 t24 t25 (AW (t26+1))))else none)
 (R4 t17 t18 (AW (t19+1)))
mutual
def DY:Nat->MN
 |0=>fun _ _ _=>none
 |n+1=>NN (DY n) (Fo n)
def Fo:Nat->MQ
 |0=>fun _ _ _ _ _ _=>none
 |n+1=>NX (DY n) (Fo n)
end
def Ts(R4:MN)(R7:MQ)(p0:AAi):Option H4:=
 (Cw (p0.1,p0.2.1,p0.2.2.1,p0.2.2.2.1,p0.2.2.2.2.1,p0.2.2.2.2.2.1,p0.2.2.2.2.2.2.1,p0.2.2.2.2.2.2.2.1,p0.2.2.2.2.2.2.2.2.1,p0.2.2.2.2.2.2.2.2.2.1,p0.2.2.2.2.2.2.2.2.2.2.1,())).bind fun u1=>
 cond (!u1.1.1)
  ((Cw (p0.1,p0.2.1,p0.2.2.1,p0.2.2.2.1,p0.2.2.2.2.1,p0.2.2.2.2.2.1,p0.2.2.2.2.2.2.1,p0.2.2.2.2.2.2.2.1,p0.2.2.2.2.2.2.2.2.1,p0.2.2.2.2.2.2.2.2.2.1,p0.2.2.2.2.2.2.2.2.2.2.1,())).bind fun u2=>
  some ((u2.1.1,()),()))
 (cond (p0.2.2.2.2.2.2.2.2.2.2.1)
  ((Cw (p0.1,p0.2.1,p0.2.2.1,p0.2.2.2.1,p0.2.2.2.2.1,p0.2.2.2.2.2.1,p0.2.2.2.2.2.2.1,p0.2.2.2.2.2.2.2.1,p0.2.2.2.2.2.2.2.2.1,p0.2.2.2.2.2.2.2.2.2.1,p0.2.2.2.2.2.2.2.2.2.2.1,())).bind fun u4=>
  some ((u4.1.1,()),()))
 (R4 p0.2.2.2.2.2.2.2.2.1 (p0.2.2.2.2.2.2.2.2.1.length:Int) 0))
def Ql(p0:AAi):Option H4:=Ts (DY AX) (Fo AX) p0
abbrev JB:Type:=AAg×Unit
abbrev Na:Type:=AAV->Int->Int->List Int->Int->AAT->List Int->AAU->Int->AAX->AAY->AAV->AAW->Bool->Option JB
abbrev Np:Type:=AAV->Int->Int->ACH->Int->Int->List Int->Int->AAT->List Int->AAU->Int->AAX->AAY->AAV->AAW->Bool->Option JB
def Ot(R4:Na)(R7:Np)(t22:AAV)(t23 t24:Int)(AQ:AAN)(AF:Int)(Ah:AAT)(BA:AAN)(BH:AAU)(AM:Int)(Bj:AAX)(Bi:AAY)(BM:AAV)(Bm:AAW)(AG:Bool):Option JB:=
 cond (decide (t24<t23))
  (if(0:Int)<=t24/\t24<(t22.length:Int)then(
  R7 t22 t23 t24 ((t22.getD (t24.toNat) (0,0,[],())).2.2.1) (((t22.getD (t24.toNat) (0,0,[],())).2.2.1).length:Int) 0 AQ AF Ah BA BH AM Bj Bi BM Bm AG)else none)
 (some ((true,()),()))
def OP(R4:Na)(R7:Np)(t22:AAV)(t23 t24:Int)(t29:ACH)(t30 t31:Int)(AQ:AAN)(AF:Int)(Ah:AAT)(BA:AAN)(BH:AAU)(AM:Int)(Bj:AAX)(Bi:AAY)(BM:AAV)(Bm:AAW)(AG:Bool):Option JB:=
 cond (decide (t31<t30))
  (if(0:Int)<=t31/\t31<(t29.length:Int)then(
  (C_ ((t29.getD (t31.toNat) (0,0,[],())).2.1)).bind fun u8=>
  cond (u8.1.1)
   (if(0:Int)<=(0:Int)/\(0:Int)<(BM.length:Int)then(
   (Ie ((t29.getD (t31.toNat) (0,0,[],())).2.1) ((BM.getD 0 (0,0,[],())).1,(BM.getD 0 (0,0,[],())).2.1,(BM.getD 0 (0,0,[],())).2.2.1,())).bind fun FE=>
   cond (FE.1.1)
    (if(0:Int)<=(1:Int)/\(1:Int)<(BM.length:Int)then(
    (Ie ((t29.getD (t31.toNat) (0,0,[],())).2.1) ((BM.getD 1 (0,0,[],())).1,(BM.getD 1 (0,0,[],())).2.1,(BM.getD 1 (0,0,[],())).2.2.1,())).bind fun Th=>
    cond (((t29.getD (t31.toNat) (0,0,[],())).1) !=1)
     (R7 t22 t23 t24 t29 t30 (AW (t31+1)) AQ AF Ah BA BH AM Bj Bi BM Bm AG)
    (cond (decide (((t29.getD (t31.toNat) (0,0,[],())).2.1)<=AM))
     (R7 t22 t23 t24 t29 t30 (AW (t31+1)) AQ AF Ah BA BH AM Bj Bi BM Bm AG)
    (cond (!Th.1.1)
     (R7 t22 t23 t24 t29 t30 (AW (t31+1)) AQ AF Ah BA BH AM Bj Bi BM Bm AG)
    (if(0:Int)<=(0:Int)/\(0:Int)<(BM.length:Int)then(
    (Ui ((BM.getD 0 (0,0,[],())).1,(BM.getD 0 (0,0,[],())).2.1,(BM.getD 0 (0,0,[],())).2.2.1,()) ((t29.getD (t31.toNat) (0,0,[],())).2.1)).bind fun u16=>
    if(0:Int)<=(1:Int)/\(1:Int)<(BM.length:Int)then(
    (Ui ((BM.getD 1 (0,0,[],())).1,(BM.getD 1 (0,0,[],())).2.1,(BM.getD 1 (0,0,[],())).2.2.1,()) ((t29.getD (t31.toNat) (0,0,[],())).2.1)).bind fun rZ=>
    cond ((u16.1.1.2.1 !=rZ.1.1.2.1))
     (some ((false,()),()))
    (cond ((!(u16.1.1.1==rZ.1.1.1)))
     (some ((false,()),()))
    (R7 t22 t23 t24 t29 t30 (AW (t31+1)) AQ AF Ah BA BH AM Bj Bi BM Bm AG)))else none)else none))))else none)
   (cond (((t29.getD (t31.toNat) (0,0,[],())).1) !=1)
    (R7 t22 t23 t24 t29 t30 (AW (t31+1)) AQ AF Ah BA BH AM Bj Bi BM Bm AG)
   (cond (decide (((t29.getD (t31.toNat) (0,0,[],())).2.1)<=AM))
    (R7 t22 t23 t24 t29 t30 (AW (t31+1)) AQ AF Ah BA BH AM Bj Bi BM Bm AG)
   (R7 t22 t23 t24 t29 t30 (AW (t31+1)) AQ AF Ah BA BH AM Bj Bi BM Bm AG))))else none)
  (cond (((t29.getD (t31.toNat) (0,0,[],())).1) !=1)
   (R7 t22 t23 t24 t29 t30 (AW (t31+1)) AQ AF Ah BA BH AM Bj Bi BM Bm AG)
  (cond (decide (((t29.getD (t31.toNat) (0,0,[],())).2.1)<=AM))
   (R7 t22 t23 t24 t29 t30 (AW (t31+1)) AQ AF Ah BA BH AM Bj Bi BM Bm AG)
  (R7 t22 t23 t24 t29 t30 (AW (t31+1)) AQ AF Ah BA BH AM Bj Bi BM Bm AG))))else none)
 (R4 t22 t23 (AW (t24+1)) AQ AF Ah BA BH AM Bj Bi BM Bm AG)
mutual
def FL:Nat->Na
 |0=>fun _ _ _ _ _ _ _ _ _ _ _ _ _ _=>none
 |n+1=>Ot (FL n) (Gk n)
def Gk:Nat->Np
 |0=>fun _ _ _ _ _ _ _ _ _ _ _ _ _ _ _ _ _=>none
 |n+1=>OP (FL n) (Gk n)
end
def WH(R4:Na)(R7:Np)(p0:AAi):Option JB:=
 (Cw (p0.1,p0.2.1,p0.2.2.1,p0.2.2.2.1,p0.2.2.2.2.1,p0.2.2.2.2.2.1,p0.2.2.2.2.2.2.1,p0.2.2.2.2.2.2.2.1,p0.2.2.2.2.2.2.2.2.1,p0.2.2.2.2.2.2.2.2.2.1,p0.2.2.2.2.2.2.2.2.2.2.1,())).bind fun u1=>
 cond (!u1.1.1)
  ((Cw (p0.1,p0.2.1,p0.2.2.1,p0.2.2.2.1,p0.2.2.2.2.1,p0.2.2.2.2.2.1,p0.2.2.2.2.2.2.1,p0.2.2.2.2.2.2.2.1,p0.2.2.2.2.2.2.2.2.1,p0.2.2.2.2.2.2.2.2.2.1,p0.2.2.2.2.2.2.2.2.2.2.1,())).bind fun u2=>
  some ((u2.1.1,()),()))
 (cond (p0.2.2.2.2.2.2.2.2.2.2.1)
  ((Cw (p0.1,p0.2.1,p0.2.2.1,p0.2.2.2.1,p0.2.2.2.2.1,p0.2.2.2.2.2.1,p0.2.2.2.2.2.2.1,p0.2.2.2.2.2.2.2.1,p0.2.2.2.2.2.2.2.2.1,p0.2.2.2.2.2.2.2.2.2.1,p0.2.2.2.2.2.2.2.2.2.2.1,())).bind fun u4=>
  some ((u4.1.1,()),()))
 (R4 p0.2.2.2.2.2.2.2.2.1 (p0.2.2.2.2.2.2.2.2.1.length:Int) 0 p0.1 p0.2.1 p0.2.2.1 p0.2.2.2.1 p0.2.2.2.2.1 p0.2.2.2.2.2.1 p0.2.2.2.2.2.2.1 p0.2.2.2.2.2.2.2.1 p0.2.2.2.2.2.2.2.2.1 p0.2.2.2.2.2.2.2.2.2.1 p0.2.2.2.2.2.2.2.2.2.2.1))
def TN(p0:AAi):Option JB:=WH (FL AX) (Gk AX) p0
abbrev pX:Type:=AAg×Unit
def VM(p0:AAi):Option pX:=
 (QW (p0.1,p0.2.1,p0.2.2.1,p0.2.2.2.1,p0.2.2.2.2.1,p0.2.2.2.2.2.1,p0.2.2.2.2.2.2.1,p0.2.2.2.2.2.2.2.1,p0.2.2.2.2.2.2.2.2.1,p0.2.2.2.2.2.2.2.2.2.1,p0.2.2.2.2.2.2.2.2.2.2.1,())).bind fun u1=>
 cond (u1.1.1)
  ((Sb (p0.1,p0.2.1,p0.2.2.1,p0.2.2.2.1,p0.2.2.2.2.1,p0.2.2.2.2.2.1,p0.2.2.2.2.2.2.1,p0.2.2.2.2.2.2.2.1,p0.2.2.2.2.2.2.2.2.1,p0.2.2.2.2.2.2.2.2.2.1,p0.2.2.2.2.2.2.2.2.2.2.1,())).bind fun u2=>
  cond (u2.1.1)
   ((SL (p0.1,p0.2.1,p0.2.2.1,p0.2.2.2.1,p0.2.2.2.2.1,p0.2.2.2.2.2.1,p0.2.2.2.2.2.2.1,p0.2.2.2.2.2.2.2.1,p0.2.2.2.2.2.2.2.2.1,p0.2.2.2.2.2.2.2.2.2.1,p0.2.2.2.2.2.2.2.2.2.2.1,())).bind fun u3=>
   cond (u3.1.1)
    ((Ql (p0.1,p0.2.1,p0.2.2.1,p0.2.2.2.1,p0.2.2.2.2.1,p0.2.2.2.2.2.1,p0.2.2.2.2.2.2.1,p0.2.2.2.2.2.2.2.1,p0.2.2.2.2.2.2.2.2.1,p0.2.2.2.2.2.2.2.2.2.1,p0.2.2.2.2.2.2.2.2.2.2.1,())).bind fun u4=>
    cond (u4.1.1)
     ((TN (p0.1,p0.2.1,p0.2.2.1,p0.2.2.2.1,p0.2.2.2.2.1,p0.2.2.2.2.2.1,p0.2.2.2.2.2.2.1,p0.2.2.2.2.2.2.2.1,p0.2.2.2.2.2.2.2.2.1,p0.2.2.2.2.2.2.2.2.2.1,p0.2.2.2.2.2.2.2.2.2.2.1,())).bind fun u5=>
     some ((u5.1.1,()),()))
    (some ((false,()),())))
   (some ((false,()),())))
  (some ((false,()),())))
 (some ((false,()),()))
abbrev XZ:Type:=AAg×Unit
abbrev a_:Type:=List Int->Int->Int->Int->Option XZ
def Ua(R2:a_)(t0:AAN)(t1 t2 t7:Int):Option XZ:=
 cond ((decide (t7<(t0.length:Int))))
  (if(0:Int)<=t7/\t7<(t0.length:Int)then(
  (B9 (t0.getD (t7.toNat) 0) t1 t2).bind fun u3=>
  cond (!u3.1.1)
   (some ((false,()),()))
  (cond (decide (t7>0))
   (if(0:Int)<=AW (t7-1)/\AW (t7-1)<(t0.length:Int)then(
   if(0:Int)<=t7/\t7<(t0.length:Int)then(
   cond (decide ((t0.getD ((AW (t7-1)).toNat) 0)>=(t0.getD (t7.toNat) 0)))
    (some ((false,()),()))
   (R2 t0 t1 t2 (AW (t7+1))))else none)else none)
  (R2 t0 t1 t2 (AW (t7+1)))))else none)
 (some ((true,()),()))
def NH:Nat->a_
 |0=>fun _ _ _ _=>none
 |n+1=>Ua (NH n)
def cJ(R2:a_)(p0:AAN)(p1 p2:Int):Option XZ:=
 R2 p0 p1 p2 0
def dB(p0:AAN)(p1 p2:Int):Option XZ:=cJ (NH AX) p0 p1 p2
abbrev qy:Type:=AAg×Unit
def Gi(p0:AAb)(p1:AAN):Option qy:=
 (GO (p0.1,p0.2.1,())).bind fun u1=>
 cond (u1.1.1)
  ((dB p1 0 (AW ((p0.1.length:Int)-1))).bind fun u3=>
  some ((u3.1.1,()),()))
 (some ((false,()),()))
abbrev U2:Type:=AAv×Unit
abbrev YL:Type:=List Int->Int->Int->List Int->Int->List Bool->Option U2
def ZW(R4:YL)(t1:AAN)(t6 t7:Int)(AQ:AAN)(AF:Int)(b1:List Bool):Option U2:=
 cond ((decide (t7<(t1.length:Int))))
  (if(0:Int)<=t7/\t7<(t1.length:Int)then(
  let x3:Int:=(t1.getD (t7.toNat) 0)
  if(0:Int)<=x3/\x3<(AQ.length:Int)then(
  let x4:Int:=(AQ.getD (x3.toNat) 0)
  if(0:Int)<=x4/\x4<(b1.length:Int)then(
  cond (!(b1.getD (x4.toNat) false))
   (if(0:Int)<=x4/\x4<(b1.length:Int)then(
   R4 t1 (AW (t6+1)) (AW (t7+1)) AQ AF (b1.set (x4.toNat) true))else none)
  (R4 t1 t6 (AW (t7+1)) AQ AF b1))else none)else none)else none)
 (some ((t6,()),()))
def Oc:Nat->YL
 |0=>fun _ _ _ _ _ _=>none
 |n+1=>ZW (Oc n)
def Zb(R4:YL)(p0:AAb)(p1:AAN):Option U2:=
 R4 p1 0 0 p0.1 p0.2.1 (List.replicate 8 false)
def V1(p0:AAb)(p1:AAN):Option U2:=Zb (Oc AX) p0 p1
abbrev lL:Type:=AAg×Unit
def HI(p0:AAb)(p1:AAN):Option lL:=
 (Gi (p0.1,p0.2.1,()) p1).bind fun u1=>
 cond (u1.1.1)
  ((V1 (p0.1,p0.2.1,()) p1).bind fun u2=>
  some (((decide (u2.1.1>=p0.2.1)),()),()))
 (some ((false,()),()))
abbrev nt:Type:=AEX×AEJ
def YR:Option nt:=
 some (((1,1,(),()),()),([],()))
abbrev qA:Type:=(AGO×Unit)×ADG
def HV(p0:AAb):Option qA:=
 (GO (p0.1,p0.2.1,())).bind fun u1=>
 cond (!u1.1.1)
  (some (((((),0,(),(),(),0,(),(),(),(),false,()),false,()),()),([],[],[],[],[],[],[],[],())))
 (if 0+p0.1.length<=Cm then(
 if(0:Int)<=(p0.1.length:Int)/\(p0.1.length:Int)<=(p0.1.length:Int)/\(p0.1.length:Int)<=(Cm:Int)then(
 (YR).bind fun u3=>
 (YR).bind fun u4=>
 some (((((),p0.2.1,(),(),(),0,(),(),(),(),false,()),true,()),()),(p0.1,(List.replicate ((p0.1.length:Int).toNat) ([],[],0,())),[],[],[],[],[(u3.1.1.1,u3.1.1.2.1,u3.2.1,()),(u4.1.1.1,u4.1.1.2.1,u4.2.1,())],[],())))else none)else none)
abbrev xC:Type:=AAv×Unit
def UT(p0 p1:Int):Option xC:=
 cond (decide (p0>p1))
  (some ((p0,()),()))
 (some ((p1,()),()))
abbrev Gf:Type:=AAg×Unit
abbrev ay:Type:=List Int->Int->Int->Option Gf
def bW(R2:ay)(t0:AAN)(t1 t5:Int):Option Gf:=
 cond ((decide (t5<(t0.length:Int))))
  (if(0:Int)<=t5/\t5<(t0.length:Int)then(
  cond ((t0.getD (t5.toNat) 0)==t1)
   (some ((true,()),()))
  (R2 t0 t1 (AW (t5+1))))else none)
 (some ((false,()),()))
def QK:Nat->ay
 |0=>fun _ _ _=>none
 |n+1=>bW (QK n)
def bq(R2:ay)(p0:AAN)(p1:Int):Option Gf:=
 R2 p0 p1 0
def DG(p0:AAN)(p1:Int):Option Gf:=bq (QK AX) p0 p1
abbrev Xf:Type:=ABW×ACE
abbrev af:Type:=List Int->Int->Bool->Int->List Int->Option Xf
def UG(R4:af)(t0:AAN)(t1:Int)(t6:Bool)(t7:Int)(b0:AAN):Option Xf:=
 cond ((decide (t7<(t0.length:Int))))
  (cond (!t6)
   (if(0:Int)<=t7/\t7<(t0.length:Int)then(
   cond (decide ((t0.getD (t7.toNat) 0)>t1))
    (if b0.length+1<=Cm then(
    if(0:Int)<=t7/\t7<(t0.length:Int)then(
    if(b0++[t1]).length+1<=Cm then(
    R4 t0 t1 true (AW (t7+1)) ((b0++[t1])++[(t0.getD (t7.toNat) 0)]))else none)else none)else none)
   (if(0:Int)<=t7/\t7<(t0.length:Int)then(
   if b0.length+1<=Cm then(
   R4 t0 t1 t6 (AW (t7+1)) (b0++[(t0.getD (t7.toNat) 0)]))else none)else none))else none)
  (if(0:Int)<=t7/\t7<(t0.length:Int)then(
  if b0.length+1<=Cm then(
  R4 t0 t1 t6 (AW (t7+1)) (b0++[(t0.getD (t7.toNat) 0)]))else none)else none))
 (cond (!t6)
  (if b0.length+1<=Cm then(
  some (((),()),(b0++[t1],())))else none)
 (some (((),()),(b0,()))))
def Ky:Nat->af
 |0=>fun _ _ _ _ _=>none
 |n+1=>UG (Ky n)
def br(R4:af)(p0:AAN)(p1:Int):Option Xf:=
 (DG p0 p1).bind fun u1=>
 R4 p0 p1 u1.1.1 0 []
def RP(p0:AAN)(p1:Int):Option Xf:=br (Ky AX) p0 p1
abbrev Pl:Type:=AAv×Unit
abbrev Sx:Type:=Int->AAU->Int->Option Pl
def PH(R2:Sx)(t3:Int)(AQ:AAU)(AF:Int):Option Pl:=
 cond ((decide (t3<(AQ.length:Int))))
  (if(0:Int)<=t3/\t3<(AQ.length:Int)then(
  cond (!((AQ.getD (t3.toNat) ([],false,0,())).2.1))
   (some ((AW (t3+1),()),()))
  (R2 (AW (t3+1)) AQ AF))else none)
 (some ((0,()),()))
def H_:Nat->Sx
 |0=>fun _ _ _=>none
 |n+1=>PH (H_ n)
def Vb(R2:Sx)(p0:AA6):Option Pl:=
 R2 0 p0.1 p0.2.1
def LZ(p0:AA6):Option Pl:=Vb (H_ AX) p0
abbrev Gx:Type:=ABW×ACE
def DT(p0:AA6)(p1:Int):Option Gx:=
 (B9 p1 1 (p0.1.length:Int)).bind fun u1=>
 cond (!u1.1.1)
  (some (((),()),([],())))
 (if(0:Int)<=AW (p1-1)/\AW (p1-1)<(p0.1.length:Int)then(
 if 0+((p0.1.getD ((AW (p1-1)).toNat) ([],false,0,())).1).length<=Cm then(
 some (((),()),(((p0.1.getD ((AW (p1-1)).toNat) ([],false,0,())).1),())))else none)else none)
abbrev xP:Type:=AAv×Unit
def YV(p0 p1:Int):Option xP:=
 cond (decide (p0<p1))
  (some ((p0,()),()))
 (some ((p1,()),()))
abbrev rv:Type:=AAg×Unit
def E9(p0:Int):Option rv:=
 cond (decide (p0>0))
  ((B9 (AW (p0.tdiv 4294967296)) 1 30).bind fun u2=>
  cond (u2.1.1)
   ((B9 (p0.tmod 4294967296) 1 60).bind fun u3=>
   some ((u3.1.1,()),()))
  (some ((false,()),())))
 (some ((false,()),()))
abbrev Ho:Type:=AAv×Unit
def Cl(p0:Int):Option Ho:=
 (E9 p0).bind fun u1=>
 cond (!u1.1.1)
  (some ((0,()),()))
 (some (((AW (p0.tdiv 4294967296)),()),()))
abbrev tF:Type:=AAg×Unit
def Md(p0:ACv):Option tF:=
 (E9 p0.1).bind fun u1=>
 cond (!u1.1.1)
  (some ((false,()),()))
 ((B9 p0.2.1 0 30).bind fun u2=>
 cond (!u2.1.1)
  (some ((false,()),()))
 (cond (decide (p0.2.1>0))
  ((Cl p0.1).bind fun u3=>
  cond ((decide (p0.2.1<=u3.1.1)))
   (some ((false,()),()))
  (cond (decide ((p0.2.2.2.1.length:Int)>40))
   (some ((false,()),()))
  (cond (!p0.2.2.1)
   (some ((true,()),()))
  (cond (decide (p0.2.1>0))
   (some ((p0.2.2.2.1==[],()),()))
  (some ((false,()),()))))))
 (cond (decide ((p0.2.2.2.1.length:Int)>40))
  (some ((false,()),()))
 (cond (!p0.2.2.1)
  (some ((true,()),()))
 (cond (decide (p0.2.1>0))
  (some ((p0.2.2.2.1==[],()),()))
 (some ((false,()),())))))))
abbrev VS:Type:=AAg×Unit
abbrev Yh:Type:=AAa->Int->Option VS
def S_(R4:Yh)(t0:AAa)(t5:Int):Option VS:=
 cond ((decide (t5<(t0.length:Int))))
  (if(0:Int)<=t5/\t5<(t0.length:Int)then(
  (Md ((t0.getD (t5.toNat) (0,0,false,[],())).1,(t0.getD (t5.toNat) (0,0,false,[],())).2.1,(t0.getD (t5.toNat) (0,0,false,[],())).2.2.1,(t0.getD (t5.toNat) (0,0,false,[],())).2.2.2.1,())).bind fun u3=>
  cond (!u3.1.1)
   (some ((false,()),()))
  (R4 t0 (AW (t5+1))))else none)
 (some ((true,()),()))
def Ls:Nat->Yh
 |0=>fun _ _=>none
 |n+1=>S_ (Ls n)
def Zd(R4:Yh)(p0:AAa)(p1:Int):Option VS:=
 cond ((decide ((p0.length:Int)>p1)))
  (some ((false,()),()))
 (R4 p0 0)
def Vx(p0:AAa)(p1:Int):Option VS:=Zd (Ls AX) p0 p1
abbrev XU:Type:=AAg×Unit
abbrev bH:Type:=AAa->Int->Option XU
def PT(R2:bH)(t0:AAa)(t3:Int):Option XU:=
 cond ((decide (t3<(t0.length:Int))))
  (if(0:Int)<=AW (t3-1)/\AW (t3-1)<(t0.length:Int)then(
  if(0:Int)<=t3/\t3<(t0.length:Int)then(
  cond (decide (((t0.getD ((AW (t3-1)).toNat) (0,0,false,[],())).1)>=((t0.getD (t3.toNat) (0,0,false,[],())).1)))
   (some ((false,()),()))
  (R2 t0 (AW (t3+1))))else none)else none)
 (some ((true,()),()))
def GJ:Nat->bH
 |0=>fun _ _=>none
 |n+1=>PT (GJ n)
def bO(R2:bH)(p0:AAa):Option XU:=
 R2 p0 1
def Yq(p0:AAa):Option XU:=bO (GJ AX) p0
abbrev rj:Type:=AAg×Unit
def Gg(p0:ABR):Option rj:=
 (Vx p0.1 200).bind fun u1=>
 cond (u1.1.1)
  ((Vx p0.2.1 20).bind fun u2=>
  cond (u2.1.1)
   ((Yq p0.1).bind fun u3=>
   cond (u3.1.1)
    ((B9 p0.2.2.1 0 30).bind fun u4=>
    some ((u4.1.1,()),()))
   (some ((false,()),())))
  (some ((false,()),())))
 (some ((false,()),()))
abbrev sV:Type:=AAg×Unit
def cT(p0:ABR):Option sV:=
 cond (((p0.1.length:Int)==0))
  (cond ((p0.2.1.length:Int)==0)
   (some ((p0.2.2.1==0,()),()))
  (some ((false,()),())))
 (some ((false,()),()))
abbrev Qk:Type:=AAg×Unit
abbrev Ud:Type:=Int->List Int->Int->AAT->List Int->AAU->Int->AAX->AAY->AAV->AAW->Bool->Option Qk
def QB(R4:Ud)(t3:Int)(AQ:AAN)(AF:Int)(Ah:AAT)(BA:AAN)(BH:AAU)(AM:Int)(Bj:AAX)(Bi:AAY)(BM:AAV)(Bm:AAW)(AG:Bool):Option Qk:=
 cond ((decide (t3<(Ah.length:Int))))
  (if(0:Int)<=t3/\t3<(Ah.length:Int)then(
  (Gg ((Ah.getD (t3.toNat) ([],[],0,())).1,(Ah.getD (t3.toNat) ([],[],0,())).2.1,(Ah.getD (t3.toNat) ([],[],0,())).2.2.1,())).bind fun u8=>
  cond (!u8.1.1)
   (some ((false,()),()))
  ((DG BA t3).bind fun u9=>
  cond (u9.1.1)
   (if(0:Int)<=t3/\t3<(Ah.length:Int)then(
   (cT ((Ah.getD (t3.toNat) ([],[],0,())).1,(Ah.getD (t3.toNat) ([],[],0,())).2.1,(Ah.getD (t3.toNat) ([],[],0,())).2.2.1,())).bind fun FE=>
   cond (!FE.1.1)
    (some ((false,()),()))
   (R4 (AW (t3+1)) AQ AF Ah BA BH AM Bj Bi BM Bm AG))else none)
  (R4 (AW (t3+1)) AQ AF Ah BA BH AM Bj Bi BM Bm AG)))else none)
 (some ((true,()),()))
def JM:Nat->Ud
 |0=>fun _ _ _ _ _ _ _ _ _ _ _ _=>none
 |n+1=>QB (JM n)
def Wg(R4:Ud)(p0:AAi):Option Qk:=
 (GO (p0.1,p0.2.1,())).bind fun u1=>
 cond (!u1.1.1)
  (some ((false,()),()))
 (cond (((p0.2.2.1.length:Int) !=(p0.1.length:Int)))
  (some ((false,()),()))
 ((Gi (p0.1,p0.2.1,()) p0.2.2.2.1).bind fun u4=>
 cond (!u4.1.1)
  (some ((false,()),()))
 ((HI (p0.1,p0.2.1,()) p0.2.2.2.1).bind fun u5=>
 cond (u5.1.1)
  (cond (!p0.2.2.2.2.2.2.2.2.2.2.1)
   (some ((false,()),()))
  (R4 0 p0.1 p0.2.1 p0.2.2.1 p0.2.2.2.1 p0.2.2.2.2.1 p0.2.2.2.2.2.1 p0.2.2.2.2.2.2.1 p0.2.2.2.2.2.2.2.1 p0.2.2.2.2.2.2.2.2.1 p0.2.2.2.2.2.2.2.2.2.1 p0.2.2.2.2.2.2.2.2.2.2.1))
 (R4 0 p0.1 p0.2.1 p0.2.2.1 p0.2.2.2.1 p0.2.2.2.2.1 p0.2.2.2.2.2.1 p0.2.2.2.2.2.2.1 p0.2.2.2.2.2.2.2.1 p0.2.2.2.2.2.2.2.2.1 p0.2.2.2.2.2.2.2.2.2.1 p0.2.2.2.2.2.2.2.2.2.2.1))))
def U7(p0:AAi):Option Qk:=Wg (JM AX) p0
abbrev SM:Type:=AAg×Unit
abbrev ak:Type:=Int->Int->List Int->Int->AAU->Int->Option SM
def UQ(R5:ak)(t5 t6:Int)(AQ:AAN)(AF:Int)(B7:AAU)(Ba:Int):Option SM:=
 cond (decide (t6<t5))
  (if(0:Int)<=t6/\t6<(B7.length:Int)then(
  (HI (AQ,AF,()) ((B7.getD (t6.toNat) ([],false,0,())).1)).bind fun u6=>
  cond (!u6.1.1)
   (some ((false,()),()))
  ((B9 ((B7.getD (t6.toNat) ([],false,0,())).2.2.1) 0 60).bind fun u8=>
  cond (!u8.1.1)
   (some ((false,()),()))
  (cond (!((B7.getD (t6.toNat) ([],false,0,())).2.1))
   (cond (((B7.getD (t6.toNat) ([],false,0,())).2.2.1) !=0)
    (some ((false,()),()))
   (cond (((B7.getD (t6.toNat) ([],false,0,())).2.1))
    (cond (t6==(AW (t5-1)))
     (some ((false,()),()))
    (cond (decide (t6>0))
     (if(0:Int)<=AW (t6-1)/\AW (t6-1)<(B7.length:Int)then(
     cond (!((B7.getD ((AW (t6-1)).toNat) ([],false,0,())).2.1))
      (some ((false,()),()))
     (R5 t5 (AW (t6+1)) AQ AF B7 Ba))else none)
    (R5 t5 (AW (t6+1)) AQ AF B7 Ba)))
   (R5 t5 (AW (t6+1)) AQ AF B7 Ba)))
  (cond (((B7.getD (t6.toNat) ([],false,0,())).2.1))
   (cond (t6==(AW (t5-1)))
    (some ((false,()),()))
   (cond (decide (t6>0))
    (if(0:Int)<=AW (t6-1)/\AW (t6-1)<(B7.length:Int)then(
    cond (!((B7.getD ((AW (t6-1)).toNat) ([],false,0,())).2.1))
     (some ((false,()),()))
    (R5 t5 (AW (t6+1)) AQ AF B7 Ba))else none)
   (R5 t5 (AW (t6+1)) AQ AF B7 Ba)))
  (R5 t5 (AW (t6+1)) AQ AF B7 Ba)))))else none)
 (some ((true,()),()))
def Kp:Nat->ak
 |0=>fun _ _ _ _ _ _=>none
 |n+1=>UQ (Kp n)
def cF(R5:ak)(p0:AAb)(p1:AA6):Option SM:=
 (GO (p0.1,p0.2.1,())).bind fun u1=>
 cond (!u1.1.1)
  (some ((false,()),()))
 (cond ((decide ((p1.1.length:Int)>30)))
  (some ((false,()),()))
 (cond (p1.2.1 !=0)
  ((E9 p1.2.1).bind fun u3=>
  cond (!u3.1.1)
   (some ((false,()),()))
  ((Cl p1.2.1).bind fun u4=>
  cond ((decide (u4.1.1>(p1.1.length:Int))))
   (some ((false,()),()))
  (R5 (p1.1.length:Int) 0 p0.1 p0.2.1 p1.1 p1.2.1)))
 (R5 (p1.1.length:Int) 0 p0.1 p0.2.1 p1.1 p1.2.1)))
def Mh(p0:AAb)(p1:AA6):Option SM:=cF (Kp AX) p0 p1
abbrev Mv:Type:=AAg×Unit
abbrev UL:Type:=Int->Int->List Int->Int->Int->ABI->Option Mv
def W6(R5:UL)(t5 t6:Int)(AQ:AAN)(AF B7:Int)(Ba:ABI):Option Mv:=
 cond ((decide (t6<(Ba.length:Int))))
  (if(0:Int)<=t6/\t6<(Ba.length:Int)then(
  cond ((decide ((((Ba.getD (t6.toNat) ([],[],false,())).1).length:Int)>40)))
   (some ((false,()),()))
  ((Gi (AQ,AF,()) ((Ba.getD (t6.toNat) ([],[],false,())).2.1)).bind fun u7=>
  cond (!u7.1.1)
   (some ((false,()),()))
  ((HI (AQ,AF,()) ((Ba.getD (t6.toNat) ([],[],false,())).2.1)).bind fun u9=>
  cond (u9.1.1 !=((Ba.getD (t6.toNat) ([],[],false,())).2.2.1))
   (some ((false,()),()))
  (cond (!((Ba.getD (t6.toNat) ([],[],false,())).2.2.1))
   (R5 (AW (t5+1)) (AW (t6+1)) AQ AF B7 Ba)
  (R5 t5 (AW (t6+1)) AQ AF B7 Ba)))))else none)
 (some ((decide (t5<=6),()),()))
def Ly:Nat->UL
 |0=>fun _ _ _ _ _ _=>none
 |n+1=>W6 (Ly n)
def W9(R5:UL)(p0:AAb)(p1:ABL):Option Mv:=
 (GO (p0.1,p0.2.1,())).bind fun u1=>
 cond (!u1.1.1)
  (some ((false,()),()))
 ((B9 p1.1 1 30).bind fun u2=>
 cond (!u2.1.1)
  (some ((false,()),()))
 (cond (decide ((p1.2.1.length:Int)>60))
  (some ((false,()),()))
 (R5 0 0 p0.1 p0.2.1 p1.1 p1.2.1)))
def HR(p0:AAb)(p1:ABL):Option Mv:=W9 (Ly AX) p0 p1
abbrev KQ:Type:=AAv×Unit
def Gh(p0:Int):Option KQ:=
 (E9 p0).bind fun u1=>
 cond (!u1.1.1)
  (some ((0,()),()))
 (some ((p0.tmod 4294967296,()),()))
abbrev uT:Type:=AAv×Unit
def Rt(p0:AAu):Option uT:=
 cond ((p0.2.2.2.1.length:Int)==0)
  (some ((0,()),()))
 (let x2:Int:=(p0.2.2.2.1.length:Int)
 if(0:Int)<=AW (x2-1)/\AW (x2-1)<(p0.2.2.2.1.length:Int)then(
 (Gh ((p0.2.2.2.1.getD ((AW (x2-1)).toNat) (0,0,false,[],())).1)).bind fun u4=>
 some ((u4.1.1,()),()))else none)
abbrev NG:Type:=AAg×Unit
abbrev Td:Type:=Int->List Int->Int->Int->Int->List Int->AAa->Bool->List AAN->Option NG
abbrev Sv:Type:=Int->List Int->Int->Int->Int->List Int->AAa->Bool->List AAN->Option NG
def Su(R4:Td)(R9:Sv)(t5:Int)(AQ:AAN)(AF B7 Ba:Int)(CO:AAN)(EX:AAa)(Hu:Bool)(Fi:List AAN):Option NG:=
 cond ((decide (t5<(EX.length:Int))))
  (if(0:Int)<=t5/\t5<(EX.length:Int)then(
  (Md ((EX.getD (t5.toNat) (0,0,false,[],())).1,(EX.getD (t5.toNat) (0,0,false,[],())).2.1,(EX.getD (t5.toNat) (0,0,false,[],())).2.2.1,(EX.getD (t5.toNat) (0,0,false,[],())).2.2.2.1,())).bind fun u7=>
  cond (!u7.1.1)
   (some ((false,()),()))
  (if(0:Int)<=t5/\t5<(EX.length:Int)then(
  (Cl ((EX.getD (t5.toNat) (0,0,false,[],())).1)).bind fun u9=>
  cond (u9.1.1 !=Ba)
   (some ((false,()),()))
  (if(0:Int)<=t5/\t5<(EX.length:Int)then(
  cond (decide (((EX.getD (t5.toNat) (0,0,false,[],())).2.1)>=B7))
   (some ((false,()),()))
  (R4 (AW (t5+1)) AQ AF B7 Ba CO EX Hu Fi))else none))else none))else none)
 (R9 0 AQ AF B7 Ba CO EX Hu Fi)
def Sq(R4:Td)(R9:Sv)(t6:Int)(AQ:AAN)(AF B7 Ba:Int)(CO:AAN)(EX:AAa)(Hu:Bool)(Fi:List AAN):Option NG:=
 cond ((decide (t6<(Fi.length:Int))))
  (if(0:Int)<=t6/\t6<(Fi.length:Int)then(
  (Gi (AQ,AF,()) (Fi.getD (t6.toNat) [])).bind fun Th=>
  cond (!Th.1.1)
   (some ((false,()),()))
  (R9 (AW (t6+1)) AQ AF B7 Ba CO EX Hu Fi))else none)
 (cond (!Hu)
  (some ((((Fi.length:Int)==0),()),()))
 ((Rt (B7,Ba,CO,EX,Hu,Fi,())).bind fun Pd=>
 some ((((Fi.length:Int)==Pd.1.1),()),())))
mutual
def JW:Nat->Td
 |0=>fun _ _ _ _ _ _ _ _ _=>none
 |n+1=>Su (JW n) (Hv n)
def Hv:Nat->Sv
 |0=>fun _ _ _ _ _ _ _ _ _=>none
 |n+1=>Sq (JW n) (Hv n)
end
def Zj(R4:Td)(R9:Sv)(p0:AAb)(p1:AAu):Option NG:=
 (GO (p0.1,p0.2.1,())).bind fun u1=>
 cond (!u1.1.1)
  (some ((false,()),()))
 ((B9 p1.2.1 1 30).bind fun u2=>
 cond (!u2.1.1)
  (some ((false,()),()))
 ((B9 p1.1 (AW (p1.2.1+1)) 30).bind fun u3=>
 cond (!u3.1.1)
  (some ((false,()),()))
 ((Gi (p0.1,p0.2.1,()) p1.2.2.1).bind fun u4=>
 cond (!u4.1.1)
  (some ((false,()),()))
 ((Yq p1.2.2.2.1).bind fun u5=>
 cond (!u5.1.1)
  (some ((false,()),()))
 (R4 0 p0.1 p0.2.1 p1.1 p1.2.1 p1.2.2.1 p1.2.2.2.1 p1.2.2.2.2.1 p1.2.2.2.2.2.1)))))
def It(p0:AAb)(p1:AAu):Option NG:=Zj (JW AX) (Hv AX) p0 p1
abbrev I7:Type:=AAg×Unit
abbrev N1:Type:=Int->Int->List Int->Int->AAT->List Int->AAU->Int->AAX->AAY->AAV->AAW->Bool->Option I7
abbrev MI:Type:=Int->Int->List Int->Int->AAT->List Int->AAU->Int->AAX->AAY->AAV->AAW->Bool->Option I7
def PF(R5:N1)(R10:MI)(t3 t4:Int)(AQ:AAN)(AF:Int)(Ah:AAT)(BA:AAN)(BH:AAU)(AM:Int)(Bj:AAX)(Bi:AAY)(BM:AAV)(Bm:AAW)(AG:Bool):Option I7:=
 cond ((decide (t4<(Bj.length:Int))))
  (if(0:Int)<=t4/\t4<(Bj.length:Int)then(
  (HR (AQ,AF,()) ((Bj.getD (t4.toNat) (0,[],())).1,(Bj.getD (t4.toNat) (0,[],())).2.1,())).bind fun u6=>
  cond (!u6.1.1)
   (some ((false,()),()))
  (if(0:Int)<=t4/\t4<(Bj.length:Int)then(
  cond (decide (((Bj.getD (t4.toNat) (0,[],())).1)>t3))
   (some ((false,()),()))
  (cond (decide (t4>0))
   (if(0:Int)<=AW (t4-1)/\AW (t4-1)<(Bj.length:Int)then(
   if(0:Int)<=t4/\t4<(Bj.length:Int)then(
   cond (decide (((Bj.getD ((AW (t4-1)).toNat) (0,[],())).1)>=((Bj.getD (t4.toNat) (0,[],())).1)))
    (some ((false,()),()))
   (R5 t3 (AW (t4+1)) AQ AF Ah BA BH AM Bj Bi BM Bm AG))else none)else none)
  (R5 t3 (AW (t4+1)) AQ AF Ah BA BH AM Bj Bi BM Bm AG)))else none))else none)
 (R10 t3 0 AQ AF Ah BA BH AM Bj Bi BM Bm AG)
def NM(R5:N1)(R10:MI)(t3 t5:Int)(AQ:AAN)(AF:Int)(Ah:AAT)(BA:AAN)(BH:AAU)(AM:Int)(Bj:AAX)(Bi:AAY)(BM:AAV)(Bm:AAW)(AG:Bool):Option I7:=
 cond ((decide (t5<(Bi.length:Int))))
  (if(0:Int)<=t5/\t5<(Bi.length:Int)then(
  (It (AQ,AF,()) ((Bi.getD (t5.toNat) (0,0,[],[],false,[],())).1,(Bi.getD (t5.toNat) (0,0,[],[],false,[],())).2.1,(Bi.getD (t5.toNat) (0,0,[],[],false,[],())).2.2.1,(Bi.getD (t5.toNat) (0,0,[],[],false,[],())).2.2.2.1,(Bi.getD (t5.toNat) (0,0,[],[],false,[],())).2.2.2.2.1,(Bi.getD (t5.toNat) (0,0,[],[],false,[],())).2.2.2.2.2.1,())).bind fun Hj=>
  cond (!Hj.1.1)
   (some ((false,()),()))
  (cond (((Bi.getD (t5.toNat) (0,0,[],[],false,[],())).1) !=t3)
   (some ((false,()),()))
  ((LZ (BH,AM,())).bind fun Pd=>
  cond (((Bi.getD (t5.toNat) (0,0,[],[],false,[],())).2.1) !=Pd.1.1)
   (some ((false,()),()))
  (R10 t3 (AW (t5+1)) AQ AF Ah BA BH AM Bj Bi BM Bm AG))))else none)
 (some ((true,()),()))
mutual
def Gl:Nat->N1
 |0=>fun _ _ _ _ _ _ _ _ _ _ _ _ _=>none
 |n+1=>PF (Gl n) (Ea n)
def Ea:Nat->MI
 |0=>fun _ _ _ _ _ _ _ _ _ _ _ _ _=>none
 |n+1=>NM (Gl n) (Ea n)
end
def WE(R5:N1)(R10:MI)(p0:AAi):Option I7:=
 (Mh (p0.1,p0.2.1,()) (p0.2.2.2.2.1,p0.2.2.2.2.2.1,())).bind fun u2=>
 cond (!u2.1.1)
  (some ((false,()),()))
 (cond (decide ((p0.2.2.2.2.2.2.1.length:Int)>4))
  (some ((false,()),()))
 (cond (decide ((p0.2.2.2.2.2.2.2.1.length:Int)>1))
  (some ((false,()),()))
 (R5 (p0.2.2.2.2.1.length:Int) 0 p0.1 p0.2.1 p0.2.2.1 p0.2.2.2.1 p0.2.2.2.2.1 p0.2.2.2.2.2.1 p0.2.2.2.2.2.2.1 p0.2.2.2.2.2.2.2.1 p0.2.2.2.2.2.2.2.2.1 p0.2.2.2.2.2.2.2.2.2.1 p0.2.2.2.2.2.2.2.2.2.2.1)))
def S2(p0:AAi):Option I7:=WE (Gl AX) (Ea AX) p0
abbrev pA:Type:=AAg×Unit
def M6(p0:ACD):Option pA:=
 (B9 p0.1 1 31).bind fun u1=>
 cond (u1.1.1)
  ((B9 p0.2.1 1 61).bind fun u2=>
  cond (u2.1.1)
   (some ((decide ((p0.2.2.1.length:Int)<=120),()),()))
  (some ((false,()),())))
 (some ((false,()),()))
abbrev SV:Type:=AAg×Unit
abbrev WW:Type:=Int->List Int->Int->AAT->List Int->AAU->Int->AAX->AAY->AAV->AAW->Bool->Option SV
def RN(R4:WW)(t3:Int)(AQ:AAN)(AF:Int)(Ah:AAT)(BA:AAN)(BH:AAU)(AM:Int)(Bj:AAX)(Bi:AAY)(BM:AAV)(Bm:AAW)(AG:Bool):Option SV:=
 cond ((decide (t3<(Bm.length:Int))))
  (if(0:Int)<=t3/\t3<(Bm.length:Int)then(
  (E9 ((Bm.getD (t3.toNat) (0,[],false,())).1)).bind fun u4=>
  cond (!u4.1.1)
   (some ((false,()),()))
  ((Cl ((Bm.getD (t3.toNat) (0,[],false,())).1)).bind fun u6=>
  cond ((decide (u6.1.1>(BH.length:Int))))
   (some ((false,()),()))
  (cond ((decide ((((Bm.getD (t3.toNat) (0,[],false,())).2.1).length:Int)>40)))
   (some ((false,()),()))
  (cond (decide (t3>0))
   (if(0:Int)<=AW (t3-1)/\AW (t3-1)<(Bm.length:Int)then(
   cond (decide (((Bm.getD ((AW (t3-1)).toNat) (0,[],false,())).1)>=((Bm.getD (t3.toNat) (0,[],false,())).1)))
    (some ((false,()),()))
   (R4 (AW (t3+1)) AQ AF Ah BA BH AM Bj Bi BM Bm AG))else none)
  (R4 (AW (t3+1)) AQ AF Ah BA BH AM Bj Bi BM Bm AG)))))else none)
 (some ((true,()),()))
def J4:Nat->WW
 |0=>fun _ _ _ _ _ _ _ _ _ _ _ _=>none
 |n+1=>RN (J4 n)
def Ye(R4:WW)(p0:AAi):Option SV:=
 cond (decide ((p0.2.2.2.2.2.2.2.2.2.1.length:Int)>120))
  (some ((false,()),()))
 (R4 0 p0.1 p0.2.1 p0.2.2.1 p0.2.2.2.1 p0.2.2.2.2.1 p0.2.2.2.2.2.1 p0.2.2.2.2.2.2.1 p0.2.2.2.2.2.2.2.1 p0.2.2.2.2.2.2.2.2.1 p0.2.2.2.2.2.2.2.2.2.1 p0.2.2.2.2.2.2.2.2.2.2.1)
def XL(p0:AAi):Option SV:=Ye (J4 AX) p0
abbrev sW:Type:=AAg×Unit
def HX(p0:AAi):Option sW:=
 (U7 (p0.1,p0.2.1,p0.2.2.1,p0.2.2.2.1,p0.2.2.2.2.1,p0.2.2.2.2.2.1,p0.2.2.2.2.2.2.1,p0.2.2.2.2.2.2.2.1,p0.2.2.2.2.2.2.2.2.1,p0.2.2.2.2.2.2.2.2.2.1,p0.2.2.2.2.2.2.2.2.2.2.1,())).bind fun u1=>
 cond (u1.1.1)
  ((S2 (p0.1,p0.2.1,p0.2.2.1,p0.2.2.2.1,p0.2.2.2.2.1,p0.2.2.2.2.2.1,p0.2.2.2.2.2.2.1,p0.2.2.2.2.2.2.2.1,p0.2.2.2.2.2.2.2.2.1,p0.2.2.2.2.2.2.2.2.2.1,p0.2.2.2.2.2.2.2.2.2.2.1,())).bind fun u2=>
  cond (u2.1.1)
   (cond ((p0.2.2.2.2.2.2.2.2.1.length:Int)==2)
    (if(0:Int)<=(0:Int)/\(0:Int)<(p0.2.2.2.2.2.2.2.2.1.length:Int)then(
    (M6 ((p0.2.2.2.2.2.2.2.2.1.getD 0 (0,0,[],())).1,(p0.2.2.2.2.2.2.2.2.1.getD 0 (0,0,[],())).2.1,(p0.2.2.2.2.2.2.2.2.1.getD 0 (0,0,[],())).2.2.1,())).bind fun u4=>
    cond (u4.1.1)
     (if(0:Int)<=(1:Int)/\(1:Int)<(p0.2.2.2.2.2.2.2.2.1.length:Int)then(
     (M6 ((p0.2.2.2.2.2.2.2.2.1.getD 1 (0,0,[],())).1,(p0.2.2.2.2.2.2.2.2.1.getD 1 (0,0,[],())).2.1,(p0.2.2.2.2.2.2.2.2.1.getD 1 (0,0,[],())).2.2.1,())).bind fun u5=>
     cond (u5.1.1)
      ((XL (p0.1,p0.2.1,p0.2.2.1,p0.2.2.2.1,p0.2.2.2.2.1,p0.2.2.2.2.2.1,p0.2.2.2.2.2.2.1,p0.2.2.2.2.2.2.2.1,p0.2.2.2.2.2.2.2.2.1,p0.2.2.2.2.2.2.2.2.2.1,p0.2.2.2.2.2.2.2.2.2.2.1,())).bind fun u6=>
      some ((u6.1.1,()),()))
     (some ((false,()),())))else none)
    (some ((false,()),())))else none)
   (some ((false,()),())))
  (some ((false,()),())))
 (some ((false,()),()))
abbrev pJ:Type:=AFP×Unit
def ah(p0:ABX):Option pJ:=
 cond (p0.1==1)
  (some (((p0.1,p0.2.1,0,0,[],()),()),()))
 (cond (p0.1==4)
  (some (((p0.1,p0.2.1,0,0,[],()),()),()))
 (cond (p0.1==6)
  (some (((p0.1,p0.2.1,0,0,[],()),()),()))
 (cond (p0.1==7)
  (some (((p0.1,p0.2.1,0,0,[],()),()),()))
 (cond (p0.1==9)
  (some (((p0.1,p0.2.1,0,0,[],()),()),()))
 (cond (p0.1==13)
  (some (((p0.1,p0.2.1,0,0,[],()),()),()))
 (cond (p0.1==15)
  (some (((p0.1,p0.2.1,0,0,[],()),()),()))
 (cond (p0.1==16)
  (some (((p0.1,p0.2.1,0,0,[],()),()),()))
 (cond (p0.1==2)
  (some (((p0.1,p0.2.1,0,0,p0.2.2.2.2.1,()),()),()))
 (cond (p0.1==3)
  (some (((p0.1,p0.2.1,p0.2.2.1,p0.2.2.2.1,[],()),()),()))
 (cond (p0.1==5)
  (some (((p0.1,p0.2.1,p0.2.2.1,0,[],()),()),()))
 (cond (p0.1==14)
  (some (((p0.1,p0.2.1,p0.2.2.1,0,[],()),()),()))
 (cond (p0.1==11)
  (some (((p0.1,0,p0.2.2.1,p0.2.2.2.1,[],()),()),()))
 (some (((p0.1,0,0,0,[],()),()),()))))))))))))))
abbrev uc:Type:=AAg×Unit
def WG(p0:ABX):Option uc:=
 (B9 p0.1 1 16).bind fun u1=>
 cond (u1.1.1)
  ((ah (p0.1,p0.2.1,p0.2.2.1,p0.2.2.2.1,p0.2.2.2.2.1,())).bind fun u2=>
  cond (((p0.1==u2.1.1.1)&&((p0.2.1==u2.1.1.2.1)&&((p0.2.2.1==u2.1.1.2.2.1)&&((p0.2.2.2.1==u2.1.1.2.2.2.1)&&((p0.2.2.2.2.1==u2.1.1.2.2.2.2.1)&&true))))))
   (some ((decide ((p0.2.2.2.2.1.length:Int)<=40),()),()))
  (some ((false,()),())))
 (some ((false,()),()))
abbrev FZ:Type:=AEW×AD2
abbrev Yc:Type:=Int->AAU->Int->Int->AAU->Int->AAU->Option FZ
def Zp(R3:Yc)(t4:Int)(AQ:AAU)(AF Ba:Int)(b2:AAU)(ASd:Int)(b4:AAU):Option FZ:=
 cond ((decide (t4<(AQ.length:Int))))
  (if(0:Int)<=t4/\t4<(AQ.length:Int)then(
  if 0+((AQ.getD (t4.toNat) ([],false,0,())).1).length<=Cm then(
  if b4.length+1<=Cm then(
  R3 (AW (t4+1)) AQ AF Ba b2 ASd (b4++[(((AQ.getD (t4.toNat) ([],false,0,())).1),(AQ.getD (t4.toNat) ([],false,0,())).2.1,(AQ.getD (t4.toNat) ([],false,0,())).2.2.1,())]))else none)else none)else none)
 (some ((((),ASd,()),()),(b4,())))
def OI:Nat->Yc
 |0=>fun _ _ _ _ _ _ _=>none
 |n+1=>Zp (OI n)
def Zo(R3:Yc)(p0:AA6):Option FZ:=
 R3 0 p0.1 p0.2.1 0 [] p0.2.1 []
def F_(p0:AA6):Option FZ:=Zo (OI AX) p0
abbrev Kt:Type:=AEf×ADS
def Eh(p0:ABR):Option Kt:=
 if 0+p0.1.length<=Cm then(
 if 0+p0.2.1.length<=Cm then(
 some ((((),(),p0.2.2.1,()),()),(p0.1,p0.2.1,())))else none)else none
abbrev FR:Type:=AE2×AD3
abbrev Yb:Type:=Int->Int->ABI->Int->ABI->Int->ABI->Option FR
def Zs(R3:Yb)(t4 AQ:Int)(AF:ABI)(B7:Int)(b2:ABI)(ARm:Int)(b4:ABI):Option FR:=
 cond ((decide (t4<(AF.length:Int))))
  (if(0:Int)<=t4/\t4<(AF.length:Int)then(
  if 0+((AF.getD (t4.toNat) ([],[],false,())).2.1).length<=Cm then(
  if b4.length+1<=Cm then(
  R3 (AW (t4+1)) AQ AF B7 b2 ARm (b4++[((AF.getD (t4.toNat) ([],[],false,())).1,((AF.getD (t4.toNat) ([],[],false,())).2.1),(AF.getD (t4.toNat) ([],[],false,())).2.2.1,())]))else none)else none)else none)
 (some (((ARm,(),()),()),(b4,())))
def OJ:Nat->Yb
 |0=>fun _ _ _ _ _ _ _=>none
 |n+1=>Zs (OJ n)
def aP(R3:Yb)(p0:ABL):Option FR:=
 R3 0 p0.1 p0.2.1 0 [] p0.1 []
def FG(p0:ABL):Option FR:=aP (OJ AX) p0
abbrev GM:Type:=AEY×ADU
abbrev Yw:Type:=Int->Int->Int->List Int->AAa->Bool->List AAN->Int->Int->Bool->List Int->AAa->List AAN->Int->Int->Bool->List Int->AAa->List AAN->Option GM
def Sp(R3:Yw)(t4 AQ AF:Int)(Ah:AAN)(BA:AAa)(BH:Bool)(AM:List AAN)(B7 Ba:Int)(Hu:Bool)(b2:AAN)(b3:AAa)(b4:List AAN)(AFL AE4:Int)(AGY:Bool)(b6:AAN)(b7:AAa)(b8:List AAN):Option GM:=
 cond ((decide (t4<(AM.length:Int))))
  (if(0:Int)<=t4/\t4<(AM.length:Int)then(
  if 0+(AM.getD (t4.toNat) []).length<=Cm then(
  if b8.length+1<=Cm then(
  R3 (AW (t4+1)) AQ AF Ah BA BH AM B7 Ba Hu b2 b3 b4 AFL AE4 AGY b6 b7 (b8++[(AM.getD (t4.toNat) [])]))else none)else none)else none)
 (some (((AFL,AE4,(),(),AGY,(),()),()),(b6,b7,b8,())))
def Hq:Nat->Yw
 |0=>fun _ _ _ _ _ _ _ _ _ _ _ _ _ _ _ _ _ _ _=>none
 |n+1=>Sp (Hq n)
def Nw(R3:Yw)(p0:AAu):Option GM:=
 if 0+p0.2.2.1.length<=Cm then(
 if 0+p0.2.2.2.1.length<=Cm then(
 R3 0 p0.1 p0.2.1 p0.2.2.1 p0.2.2.2.1 p0.2.2.2.2.1 p0.2.2.2.2.2.1 0 0 false [] [] [] p0.1 p0.2.1 p0.2.2.2.2.1 p0.2.2.1 p0.2.2.2.1 [])else none)else none
def EI(p0:AAu):Option GM:=Nw (Hq AX) p0
abbrev Jd:Type:=AEX×AEJ
def CQ(p0:ACD):Option Jd:=
 if 0+p0.2.2.1.length<=Cm then(
 some (((p0.1,p0.2.1,(),()),()),(p0.2.2.1,())))else none
abbrev Fa:Type:=AE8×ADG
abbrev KD:Type:=Int->List Int->Int->AAT->List Int->AAU->Int->AAX->AAY->AAV->AAW->Bool->Int->Int->Bool->List Int->AAT->List Int->AAU->AAX->AAY->AAV->AAW->Int->Int->Bool->List Int->AAT->List Int->AAU->AAX->AAY->AAV->AAW->Option Fa
abbrev KA:Type:=Int->List Int->Int->AAT->List Int->AAU->Int->AAX->AAY->AAV->AAW->Bool->Int->Int->Bool->List Int->AAT->List Int->AAU->AAX->AAY->AAV->AAW->Int->Int->Bool->List Int->AAT->List Int->AAU->AAX->AAY->AAV->AAW->Option Fa
abbrev JH:Type:=Int->List Int->Int->AAT->List Int->AAU->Int->AAX->AAY->AAV->AAW->Bool->Int->Int->Bool->List Int->AAT->List Int->AAU->AAX->AAY->AAV->AAW->Int->Int->Bool->List Int->AAT->List Int->AAU->AAX->AAY->AAV->AAW->Option Fa
abbrev JI:Type:=Int->List Int->Int->AAT->List Int->AAU->Int->AAX->AAY->AAV->AAW->Bool->Int->Int->Bool->List Int->AAT->List Int->AAU->AAX->AAY->AAV->AAW->Int->Int->Bool->List Int->AAT->List Int->AAU->AAX->AAY->AAV->AAW->Option Fa
def RG(R3:KD)(R7:KA)(iH:JH)(rB:JI)(t4:Int)(AQ:AAN)(AF:Int)(Ah:AAT)(BA:AAN)(BH:AAU)(AM:Int)(Bj:AAX)(Bi:AAY)(BM:AAV)(Bm:AAW)(AG:Bool)(Ba Fi:Int)(Ix:Bool)(b2:AAN)(b3:AAT)(b4:AAN)(b5:AAU)(b6:AAX)(b7:AAY)(b8:AAV)(b9:AAW)(FA Gy:Int)(D8:Bool)(G6:AAN)(EK:AAT)(Hy:AAN)(Hw:AAU)(Eu:AAX)(Fb:AAY)(GK:AAV)(bI:AAW):Option Fa:=
 cond ((decide (t4<(Ah.length:Int))))
  (if(0:Int)<=t4/\t4<(Ah.length:Int)then(
  (Eh ((Ah.getD (t4.toNat) ([],[],0,())).1,(Ah.getD (t4.toNat) ([],[],0,())).2.1,(Ah.getD (t4.toNat) ([],[],0,())).2.2.1,())).bind fun AB6=>
  if EK.length+1<=Cm then(
  R3 (AW (t4+1)) AQ AF Ah BA BH AM Bj Bi BM Bm AG Ba Fi Ix b2 b3 b4 b5 b6 b7 b8 b9 FA Gy D8 G6 (EK++[(AB6.2.1,AB6.2.2.1,AB6.1.1.2.2.1,())]) Hy Hw Eu Fb GK bI)else none)else none)
 (R7 0 AQ AF Ah BA BH AM Bj Bi BM Bm AG Ba Fi Ix b2 b3 b4 b5 b6 b7 b8 b9 FA Gy D8 G6 EK Hy Hw Eu Fb GK bI)
def RL(R3:KD)(R7:KA)(iH:JH)(rB:JI)(t5:Int)(AQ:AAN)(AF:Int)(Ah:AAT)(BA:AAN)(BH:AAU)(AM:Int)(Bj:AAX)(Bi:AAY)(BM:AAV)(Bm:AAW)(AG:Bool)(Ba Fi:Int)(Ix:Bool)(b2:AAN)(b3:AAT)(b4:AAN)(b5:AAU)(b6:AAX)(b7:AAY)(b8:AAV)(b9:AAW)(FA Gy:Int)(D8:Bool)(G6:AAN)(EK:AAT)(Hy:AAN)(Hw:AAU)(Eu:AAX)(Fb:AAY)(GK:AAV)(bI:AAW):Option Fa:=
 cond ((decide (t5<(Bj.length:Int))))
  (if(0:Int)<=t5/\t5<(Bj.length:Int)then(
  (FG ((Bj.getD (t5.toNat) (0,[],())).1,(Bj.getD (t5.toNat) (0,[],())).2.1,())).bind fun AFl=>
  if Eu.length+1<=Cm then(
  R7 (AW (t5+1)) AQ AF Ah BA BH AM Bj Bi BM Bm AG Ba Fi Ix b2 b3 b4 b5 b6 b7 b8 b9 FA Gy D8 G6 EK Hy Hw (Eu++[(AFl.1.1.1,AFl.2.1,())]) Fb GK bI)else none)else none)
 (iH 0 AQ AF Ah BA BH AM Bj Bi BM Bm AG Ba Fi Ix b2 b3 b4 b5 b6 b7 b8 b9 FA Gy D8 G6 EK Hy Hw Eu Fb GK bI)
def P3(R3:KD)(R7:KA)(iH:JH)(rB:JI)(t6:Int)(AQ:AAN)(AF:Int)(Ah:AAT)(BA:AAN)(BH:AAU)(AM:Int)(Bj:AAX)(Bi:AAY)(BM:AAV)(Bm:AAW)(AG:Bool)(Ba Fi:Int)(Ix:Bool)(b2:AAN)(b3:AAT)(b4:AAN)(b5:AAU)(b6:AAX)(b7:AAY)(b8:AAV)(b9:AAW)(FA Gy:Int)(D8:Bool)(G6:AAN)(EK:AAT)(Hy:AAN)(Hw:AAU)(Eu:AAX)(Fb:AAY)(GK:AAV)(bI:AAW):Option Fa:=
 cond ((decide (t6<(Bi.length:Int))))
  (if(0:Int)<=t6/\t6<(Bi.length:Int)then(
  (EI ((Bi.getD (t6.toNat) (0,0,[],[],false,[],())).1,(Bi.getD (t6.toNat) (0,0,[],[],false,[],())).2.1,(Bi.getD (t6.toNat) (0,0,[],[],false,[],())).2.2.1,(Bi.getD (t6.toNat) (0,0,[],[],false,[],())).2.2.2.1,(Bi.getD (t6.toNat) (0,0,[],[],false,[],())).2.2.2.2.1,(Bi.getD (t6.toNat) (0,0,[],[],false,[],())).2.2.2.2.2.1,())).bind fun l3=>
  if Fb.length+1<=Cm then(
  iH (AW (t6+1)) AQ AF Ah BA BH AM Bj Bi BM Bm AG Ba Fi Ix b2 b3 b4 b5 b6 b7 b8 b9 FA Gy D8 G6 EK Hy Hw Eu (Fb++[(l3.1.1.1,l3.1.1.2.1,l3.2.1,l3.2.2.1,l3.1.1.2.2.2.2.1,l3.2.2.2.1,())]) GK bI)else none)else none)
 (rB 0 AQ AF Ah BA BH AM Bj Bi BM Bm AG Ba Fi Ix b2 b3 b4 b5 b6 b7 b8 b9 FA Gy D8 G6 EK Hy Hw Eu Fb GK bI)
def P1(R3:KD)(R7:KA)(iH:JH)(rB:JI)(t7:Int)(AQ:AAN)(AF:Int)(Ah:AAT)(BA:AAN)(BH:AAU)(AM:Int)(Bj:AAX)(Bi:AAY)(BM:AAV)(Bm:AAW)(AG:Bool)(Ba Fi:Int)(Ix:Bool)(b2:AAN)(b3:AAT)(b4:AAN)(b5:AAU)(b6:AAX)(b7:AAY)(b8:AAV)(b9:AAW)(FA Gy:Int)(D8:Bool)(G6:AAN)(EK:AAT)(Hy:AAN)(Hw:AAU)(Eu:AAX)(Fb:AAY)(GK:AAV)(bI:AAW):Option Fa:=
 cond ((decide (t7<(BM.length:Int))))
  (if(0:Int)<=t7/\t7<(BM.length:Int)then(
  (CQ ((BM.getD (t7.toNat) (0,0,[],())).1,(BM.getD (t7.toNat) (0,0,[],())).2.1,(BM.getD (t7.toNat) (0,0,[],())).2.2.1,())).bind fun ABn=>
  if GK.length+1<=Cm then(
  rB (AW (t7+1)) AQ AF Ah BA BH AM Bj Bi BM Bm AG Ba Fi Ix b2 b3 b4 b5 b6 b7 b8 b9 FA Gy D8 G6 EK Hy Hw Eu Fb (GK++[(ABn.1.1.1,ABn.1.1.2.1,ABn.2.1,())]) bI)else none)else none)
 (some ((((),FA,(),(),(),Gy,(),(),(),(),D8,()),()),(G6,EK,Hy,Hw,Eu,Fb,GK,bI,())))
mutual
def CY:Nat->KD
 |0=>fun _ _ _ _ _ _ _ _ _ _ _ _ _ _ _ _ _ _ _ _ _ _ _ _ _ _ _ _ _ _ _ _ _ _=>none
 |n+1=>RG (CY n) (Cn n) (CT n) (CW n)
def Cn:Nat->KA
 |0=>fun _ _ _ _ _ _ _ _ _ _ _ _ _ _ _ _ _ _ _ _ _ _ _ _ _ _ _ _ _ _ _ _ _ _=>none
 |n+1=>RL (CY n) (Cn n) (CT n) (CW n)
def CT:Nat->JH
 |0=>fun _ _ _ _ _ _ _ _ _ _ _ _ _ _ _ _ _ _ _ _ _ _ _ _ _ _ _ _ _ _ _ _ _ _=>none
 |n+1=>P3 (CY n) (Cn n) (CT n) (CW n)
def CW:Nat->JI
 |0=>fun _ _ _ _ _ _ _ _ _ _ _ _ _ _ _ _ _ _ _ _ _ _ _ _ _ _ _ _ _ _ _ _ _ _=>none
 |n+1=>P1 (CY n) (Cn n) (CT n) (CW n)
end
def Q3(R3:KD)(R7:KA)(iH:JH)(rB:JI)(p0:AAi):Option Fa:=
 if 0+p0.1.length<=Cm then(
 if 0+p0.2.2.2.1.length<=Cm then(
 (F_ (p0.2.2.2.2.1,p0.2.2.2.2.2.1,())).bind fun u2=>
 if 0+p0.2.2.2.2.2.2.2.2.2.1.length<=Cm then(
 R3 0 p0.1 p0.2.1 p0.2.2.1 p0.2.2.2.1 p0.2.2.2.2.1 p0.2.2.2.2.2.1 p0.2.2.2.2.2.2.1 p0.2.2.2.2.2.2.2.1 p0.2.2.2.2.2.2.2.2.1 p0.2.2.2.2.2.2.2.2.2.1 p0.2.2.2.2.2.2.2.2.2.2.1 0 0 false [] [] [] [] [] [] [] [] p0.2.1 u2.1.1.2.1 p0.2.2.2.2.2.2.2.2.2.2.1 p0.1 [] p0.2.2.2.1 u2.2.1 [] [] [] p0.2.2.2.2.2.2.2.2.2.1)else none)else none)else none
def MJ(p0:AAi):Option Fa:=Q3 (CY AX) (Cn AX) (CT AX) (CW AX) p0
abbrev Pq:Type:=ABW×ACE
abbrev TC:Type:=Int->Int->List Int->Option Pq
def OW(R3:TC)(t0 t4:Int)(b0:AAN):Option Pq:=
 cond (decide (t4<8))
  ((B9 t0 0 255).bind fun u1=>
  cond (u1.1.1)
   (if t4<0 then none else(
   cond (((tO .i64 (t0.fdiv (2^(min t4.toNat 64))) 1)==1))
    (if b0.length+1<=Cm then(
    R3 t0 (AW (t4+1)) (b0++[t4]))else none)
   (R3 t0 (AW (t4+1)) b0)))
  (some (((),()),(b0,()))))
 (some (((),()),(b0,())))
def H9:Nat->TC
 |0=>fun _ _ _=>none
 |n+1=>OW (H9 n)
def Ve(R3:TC)(p0:Int):Option Pq:=
 R3 p0 0 []
def On(p0:Int):Option Pq:=Ve (H9 AX) p0
abbrev rH:Type:=(AGq×Unit)×AD2
def Po(p0:AAb)(p1:AA6)(p2:AAN):Option rH:=
 (Mh (p0.1,p0.2.1,()) (p1.1,p1.2.1,())).bind fun u1=>
 cond (!u1.1.1)
  (some (((((),0,()),0,false,()),()),([],())))
 ((F_ (p1.1,p1.2.1,())).bind fun u2=>
 (HI (p0.1,p0.2.1,()) p2).bind fun u3=>
 cond (!u3.1.1)
  (some (((((),u2.1.1.2.1,()),0,false,()),()),(u2.2.1,())))
 (cond (((p1.1.length:Int)==30))
  (some (((((),u2.1.1.2.1,()),0,false,()),()),(u2.2.1,())))
 (if 0+p2.length<=Cm then(
 if u2.2.1.length+1<=Cm then(
 let x5:AAU:=u2.2.1++[(p2,false,0,())]
 some (((((),u2.1.1.2.1,()),(x5.length:Int),true,()),()),(x5,())))else none)else none)))
abbrev fB:Type:=AC7×(List Int×AAT×List Int×Unit×Unit×Unit×AAV×AAW×AAU×AAX×AAY×Unit)
def XK(CI CP:Int)(BU:Bool)(p1:ABX)(b0:AAN)(b1:AAT)(b2:AAN)(b3:AAU)(b4:AAX)(b5:AAY)(b6:AAV)(b7:AAW):Option fB:=
 cond (((b4.length:Int)==4))
  (some (((((),CI,(),(),(),CP,(),(),(),(),BU,()),4,()),()),(b0,b1,b2,(),(),(),b6,b7,b3,b4,b5,())))
 ((On p1.2.1).bind fun u2=>
 (Po (b0,CI,()) (b3,CP,()) u2.2.1).bind fun u3=>
 cond (!u3.1.1.2.2.1)
  (some (((((),CI,(),(),(),CP,(),(),(),(),BU,()),4,()),()),(b0,b1,b2,(),(),(),b6,b7,b3,b4,b5,())))
 (if b4.length+1<=Cm then(
 some (((((),CI,(),(),(),u3.1.1.1.2.1,(),(),(),(),BU,()),0,()),()),(b0,b1,b2,(),(),(),b6,b7,u3.2.1,(b4++[(u3.1.1.2.1,[],())]),[],())))else none))
abbrev mW:Type:=AAg×Unit
def L1(p0:AAi)(p1:Int):Option mW:=
 (B9 p1 0 (AW ((p0.2.2.2.2.2.2.1.length:Int)-1))).bind fun u2=>
 some ((u2.1.1,()),())
abbrev l4:Type:=(AGr×Unit)×AD3
def Ln(p0:AAb)(p1:ABL)(p2:AAZ):Option l4:=
 (HR (p0.1,p0.2.1,()) (p1.1,p1.2.1,())).bind fun u1=>
 cond (!u1.1.1)
  (some ((((0,(),()),0,false,()),()),([],())))
 ((FG (p1.1,p1.2.1,())).bind fun u2=>
 if u2.2.1.length+1<=Cm then(
 let x3:ABI:=u2.2.1++[(p2,[],false,())]
 (HR (p0.1,p0.2.1,()) (u2.1.1.1,x3,())).bind fun u4=>
 cond (!u4.1.1)
  ((FG (p1.1,p1.2.1,())).bind fun u5=>
  some ((((u5.1.1.1,(),()),0,false,()),()),(u5.2.1,())))
 (some ((((u2.1.1.1,(),()),(x3.length:Int),true,()),()),(x3,()))))else none)
abbrev Ha:Type:=AAv×Unit
def De(p0 p1:Int):Option Ha:=
 some ((AW ((AW (4294967296*p0))+p1),()),())
abbrev Kv:Type:=AC7×(List Int×AAT×List Int×AAU×AAX×AAY×AAV×Unit×AAW×Unit)
abbrev SW:Type:=Int->List Int->AAT->List Int->AAU->AAX->AAY->AAV->AAW->Int->Int->Bool->Int->Int->Bool->List Int->AAT->List Int->AAU->AAX->AAY->AAV->AAW->Int->List UInt8->Bool->Option Kv
abbrev Qx:Type:=Bool->Int->List Int->AAT->List Int->AAU->AAX->AAY->AAV->AAW->Int->Int->Bool->Int->Int->Bool->List Int->AAT->List Int->AAU->AAX->AAY->AAV->AAW->Int->List UInt8->Bool->AAW->Option Kv
def ZU(R9:SW)(R16:Qx)(t10:Int)(b0:AAN)(b1:AAT)(b2:AAN)(b3:AAU)(b4:AAX)(b5:AAY)(b6:AAV)(b7:AAW)(Da Dq:Int)(CJ:Bool)(EE F7:Int)(DA:Bool)(N3:AAN)(G6:AAT)(EK:AAN)(Hy:AAU)(Hw:AAX)(Eu:AAY)(Fb:AAV)(GK:AAW)(Cc:Int)(C3:AAZ)(Ch:Bool):Option Kv:=
 cond ((decide (t10<(b7.length:Int))))
  (if(0:Int)<=t10/\t10<(b7.length:Int)then(
  cond (((b7.getD (t10.toNat) (0,[],false,())).1)==Cc)
   (some (((((),Da,(),(),(),Dq,(),(),(),(),CJ,()),4,()),()),(b0,b1,b2,b3,b4,b5,b6,(),b7,())))
  (R9 (AW (t10+1)) b0 b1 b2 b3 b4 b5 b6 b7 Da Dq CJ EE F7 DA N3 G6 EK Hy Hw Eu Fb GK Cc C3 Ch))else none)
 (R16 false 0 b0 b1 b2 b3 b4 b5 b6 b7 Da Dq CJ EE F7 DA N3 G6 EK Hy Hw Eu Fb GK Cc C3 Ch [])
def YP(R9:SW)(R16:Qx)(t12:Bool)(t13:Int)(b0:AAN)(b1:AAT)(b2:AAN)(b3:AAU)(b4:AAX)(b5:AAY)(b6:AAV)(b7:AAW)(Da Dq:Int)(CJ:Bool)(EE F7:Int)(DA:Bool)(N3:AAN)(G6:AAT)(EK:AAN)(Hy:AAU)(Hw:AAX)(Eu:AAY)(Fb:AAV)(GK:AAW)(Cc:Int)(C3:AAZ)(Ch:Bool)(wT:AAW):Option Kv:=
 cond ((decide (t13<(b7.length:Int))))
  (cond (!t12)
   (if(0:Int)<=t13/\t13<(b7.length:Int)then(
   cond (decide (((b7.getD (t13.toNat) (0,[],false,())).1)>Cc))
    (if wT.length+1<=Cm then(
    let x18:AAW:=wT++[(Cc,C3,Ch,())]
    if(0:Int)<=t13/\t13<(b7.length:Int)then(
    if x18.length+1<=Cm then(
    R16 true (AW (t13+1)) b0 b1 b2 b3 b4 b5 b6 b7 Da Dq CJ EE F7 DA N3 G6 EK Hy Hw Eu Fb GK Cc C3 Ch (x18++[((b7.getD (t13.toNat) (0,[],false,())).1,(b7.getD (t13.toNat) (0,[],false,())).2.1,(b7.getD (t13.toNat) (0,[],false,())).2.2.1,())]))else none)else none)else none)
   (if(0:Int)<=t13/\t13<(b7.length:Int)then(
   if wT.length+1<=Cm then(
   R16 t12 (AW (t13+1)) b0 b1 b2 b3 b4 b5 b6 b7 Da Dq CJ EE F7 DA N3 G6 EK Hy Hw Eu Fb GK Cc C3 Ch (wT++[((b7.getD (t13.toNat) (0,[],false,())).1,(b7.getD (t13.toNat) (0,[],false,())).2.1,(b7.getD (t13.toNat) (0,[],false,())).2.2.1,())]))else none)else none))else none)
  (if(0:Int)<=t13/\t13<(b7.length:Int)then(
  if wT.length+1<=Cm then(
  R16 t12 (AW (t13+1)) b0 b1 b2 b3 b4 b5 b6 b7 Da Dq CJ EE F7 DA N3 G6 EK Hy Hw Eu Fb GK Cc C3 Ch (wT++[((b7.getD (t13.toNat) (0,[],false,())).1,(b7.getD (t13.toNat) (0,[],false,())).2.1,(b7.getD (t13.toNat) (0,[],false,())).2.2.1,())]))else none)else none))
 (cond (!t12)
  (if wT.length+1<=Cm then(
  some (((((),Da,(),(),(),Dq,(),(),(),(),CJ,()),0,()),()),(b0,b1,b2,b3,b4,b5,b6,(),(wT++[(Cc,C3,Ch,())]),())))else none)
 (some (((((),Da,(),(),(),Dq,(),(),(),(),CJ,()),0,()),()),(b0,b1,b2,b3,b4,b5,b6,(),wT,()))))
mutual
def LS:Nat->SW
 |0=>fun _ _ _ _ _ _ _ _ _ _ _ _ _ _ _ _ _ _ _ _ _ _ _ _ _ _=>none
 |n+1=>ZU (LS n) (KH n)
def KH:Nat->Qx
 |0=>fun _ _ _ _ _ _ _ _ _ _ _ _ _ _ _ _ _ _ _ _ _ _ _ _ _ _ _ _=>none
 |n+1=>YP (LS n) (KH n)
end
def Zq(R9:SW)(R16:Qx)(CI CP:Int)(BU:Bool)(p1:ABX)(b0:AAN)(b1:AAT)(b2:AAN)(b3:AAU)(b4:AAX)(b5:AAY)(b6:AAV)(b7:AAW):Option Kv:=
 (L1 (b0,CI,b1,b2,b3,CP,b4,b5,b6,b7,BU,()) p1.2.1).bind fun u1=>
 cond (!u1.1.1)
  (some (((((),CI,(),(),(),CP,(),(),(),(),BU,()),2,()),()),(b0,b1,b2,b3,b4,b5,b6,(),b7,())))
 (if(0:Int)<=p1.2.1/\p1.2.1<(b4.length:Int)then(
 (Ln (b0,CI,()) ((b4.getD (p1.2.1.toNat) (0,[],())).1,(b4.getD (p1.2.1.toNat) (0,[],())).2.1,()) p1.2.2.2.2.1).bind fun u2=>
 cond (!u2.1.1.2.2.1)
  (some (((((),CI,(),(),(),CP,(),(),(),(),BU,()),4,()),()),(b0,b1,b2,b3,b4,b5,b6,(),b7,())))
 (cond (((b7.length:Int)==120))
  (some (((((),CI,(),(),(),CP,(),(),(),(),BU,()),4,()),()),(b0,b1,b2,b3,b4,b5,b6,(),b7,())))
 (if(0:Int)<=p1.2.1/\p1.2.1<(b4.length:Int)then(
 (De u2.1.1.1.1 u2.1.1.2.1).bind fun u5=>
 R9 0 b0 b1 b2 b3 (b4.set (p1.2.1.toNat) (u2.1.1.1.1,u2.2.1,())) b5 b6 b7 CI CP BU 0 0 false [] [] [] [] [] [] [] [] u5.1.1 p1.2.2.2.2.1 false)else none)))else none)
def Zt(CI CP:Int)(BU:Bool)(p1:ABX)(b0:AAN)(b1:AAT)(b2:AAN)(b3:AAU)(b4:AAX)(b5:AAY)(b6:AAV)(b7:AAW):Option Kv:=Zq (LS AX) (KH AX) CI CP BU p1 b0 b1 b2 b3 b4 b5 b6 b7
abbrev s_:Type:=AAv×Unit
def HT(p0:AAi)(p1:Int):Option s_:=
 (B9 p1 0 (AW ((p0.2.2.1.length:Int)-1))).bind fun u2=>
 cond (!u2.1.1)
  (some ((2,()),()))
 ((DG p0.2.2.2.1 p1).bind fun u3=>
 cond (u3.1.1)
  (some ((3,()),()))
 (some ((0,()),())))
abbrev tK:Type:=AAg×Unit
def XM(p0:ABR)(p1:ACv):Option tK:=
 cond (p1.2.1==0)
  ((Cl p1.1).bind fun u1=>
  some (((decide (u1.1.1>p0.2.2.1)),()),()))
 (some (((decide (p1.2.1>p0.2.2.1)),()),()))
abbrev pM:Type:=ADW×ADS
def QQ(p0:ABR)(p1:ACv):Option pM:=
 (Gg (p0.1,p0.2.1,p0.2.2.1,())).bind fun u1=>
 cond (!u1.1.1)
  (some (((((),(),0,()),false,()),()),([],[],())))
 ((Eh (p0.1,p0.2.1,p0.2.2.1,())).bind fun u2=>
 (Md (p1.1,p1.2.1,p1.2.2.1,p1.2.2.2.1,())).bind fun u3=>
 cond (!u3.1.1)
  (some (((((),(),u2.1.1.2.2.1,()),false,()),()),(u2.2.1,u2.2.2.1,())))
 ((XM (p0.1,p0.2.1,p0.2.2.1,()) (p1.1,p1.2.1,p1.2.2.1,p1.2.2.2.1,())).bind fun u4=>
 cond (!u4.1.1)
  (some (((((),(),u2.1.1.2.2.1,()),false,()),()),(u2.2.1,u2.2.2.1,())))
 (cond ((p0.2.1.length:Int)==20)
  (some (((((),(),u2.1.1.2.2.1,()),false,()),()),(u2.2.1,u2.2.2.1,())))
 (if u2.2.2.1.length+1<=Cm then(
 some (((((),(),u2.1.1.2.2.1,()),true,()),()),(u2.2.1,(u2.2.2.1++[(p1.1,p1.2.1,p1.2.2.1,p1.2.2.2.1,())]),())))else none))))
abbrev dm:Type:=AC7×ADG
def VK(CI CP:Int)(BU:Bool)(p1:ABX)(b0:AAN)(b1:AAT)(b2:AAN)(b3:AAU)(b4:AAX)(b5:AAY)(b6:AAV)(b7:AAW):Option dm:=
 (L1 (b0,CI,b1,b2,b3,CP,b4,b5,b6,b7,BU,()) p1.2.1).bind fun u1=>
 cond (!u1.1.1)
  (some (((((),CI,(),(),(),CP,(),(),(),(),BU,()),2,()),()),(b0,b1,b2,b3,b4,b5,b6,b7,())))
 (if(0:Int)<=p1.2.1/\p1.2.1<(b4.length:Int)then(
 (B9 p1.2.2.1 1 (((b4.getD (p1.2.1.toNat) (0,[],())).2.1).length:Int)).bind fun u3=>
 cond (!u3.1.1)
  (some (((((),CI,(),(),(),CP,(),(),(),(),BU,()),2,()),()),(b0,b1,b2,b3,b4,b5,b6,b7,())))
 ((HT (b0,CI,b1,b2,b3,CP,b4,b5,b6,b7,BU,()) p1.2.2.2.1).bind fun u4=>
 cond (u4.1.1 !=0)
  (some (((((),CI,(),(),(),CP,(),(),(),(),BU,()),u4.1.1,()),()),(b0,b1,b2,b3,b4,b5,b6,b7,())))
 ((DT (b3,CP,()) ((b4.getD (p1.2.1.toNat) (0,[],())).1)).bind fun u6=>
 (DG u6.2.1 p1.2.2.2.1).bind fun u7=>
 cond (!u7.1.1)
  (some (((((),CI,(),(),(),CP,(),(),(),(),BU,()),2,()),()),(b0,b1,b2,b3,b4,b5,b6,b7,())))
 (if(0:Int)<=p1.2.2.2.1/\p1.2.2.2.1<(b1.length:Int)then(
 if(0:Int)<=AW (p1.2.2.1-1)/\AW (p1.2.2.1-1)<(((b4.getD (p1.2.1.toNat) (0,[],())).2.1).length:Int)then(
 (De ((b4.getD (p1.2.1.toNat) (0,[],())).1) p1.2.2.1).bind fun FE=>
 (QQ ((b1.getD (p1.2.2.2.1.toNat) ([],[],0,())).1,(b1.getD (p1.2.2.2.1.toNat) ([],[],0,())).2.1,(b1.getD (p1.2.2.2.1.toNat) ([],[],0,())).2.2.1,()) (FE.1.1,0,false,((((b4.getD (p1.2.1.toNat) (0,[],())).2.1).getD ((AW (p1.2.2.1-1)).toNat) ([],[],false,())).1),())).bind fun Hj=>
 cond (!Hj.1.1.2.1)
  (some (((((),CI,(),(),(),CP,(),(),(),(),BU,()),4,()),()),(b0,b1,b2,b3,b4,b5,b6,b7,())))
 (if(0:Int)<=p1.2.2.2.1/\p1.2.2.2.1<(b1.length:Int)then(
 some (((((),CI,(),(),(),CP,(),(),(),(),BU,()),0,()),()),(b0,(b1.set (p1.2.2.2.1.toNat) (Hj.2.1,Hj.2.2.1,Hj.1.1.1.2.2.1,())),b2,b3,b4,b5,b6,b7,())))else none))else none)else none))))else none)
abbrev uk:Type:=(ACv×Unit)×Unit
def Rn(p0 p1:ACv):Option uk:=
 cond ((decide (p1.2.1>p0.2.1)))
  (some (((p1.1,p1.2.1,p1.2.2.1,p1.2.2.2.1,()),()),()))
 (some (((p0.1,p0.2.1,p0.2.2.1,p0.2.2.2.1,()),()),()))
abbrev U5:Type:=ABW×AEU
abbrev Yr:Type:=AAa->Bool->Int->Int->Int->Bool->List UInt8->AAa->Option U5
def TS(R4:Yr)(t0:AAa)(t6:Bool)(t7 AQ AF:Int)(Ah:Bool)(BA:AAZ)(b1:AAa):Option U5:=
 cond ((decide (t7<(t0.length:Int))))
  (cond (!t6)
   (if(0:Int)<=t7/\t7<(t0.length:Int)then(
   cond (((t0.getD (t7.toNat) (0,0,false,[],())).1)==AQ)
    (if(0:Int)<=t7/\t7<(t0.length:Int)then(
    (Rn ((t0.getD (t7.toNat) (0,0,false,[],())).1,(t0.getD (t7.toNat) (0,0,false,[],())).2.1,(t0.getD (t7.toNat) (0,0,false,[],())).2.2.1,(t0.getD (t7.toNat) (0,0,false,[],())).2.2.2.1,()) (AQ,AF,Ah,BA,())).bind fun u3=>
    if b1.length+1<=Cm then(
    R4 t0 true (AW (t7+1)) AQ AF Ah BA (b1++[(u3.1.1.1,u3.1.1.2.1,u3.1.1.2.2.1,u3.1.1.2.2.2.1,())]))else none)else none)
   (cond (!t6)
    (if(0:Int)<=t7/\t7<(t0.length:Int)then(
    cond (decide (((t0.getD (t7.toNat) (0,0,false,[],())).1)>AQ))
     (if b1.length+1<=Cm then(
     let x6:AAa:=b1++[(AQ,AF,Ah,BA,())]
     if(0:Int)<=t7/\t7<(t0.length:Int)then(
     if x6.length+1<=Cm then(
     R4 t0 true (AW (t7+1)) AQ AF Ah BA (x6++[((t0.getD (t7.toNat) (0,0,false,[],())).1,(t0.getD (t7.toNat) (0,0,false,[],())).2.1,(t0.getD (t7.toNat) (0,0,false,[],())).2.2.1,(t0.getD (t7.toNat) (0,0,false,[],())).2.2.2.1,())]))else none)else none)else none)
    (if(0:Int)<=t7/\t7<(t0.length:Int)then(
    if b1.length+1<=Cm then(
    R4 t0 t6 (AW (t7+1)) AQ AF Ah BA (b1++[((t0.getD (t7.toNat) (0,0,false,[],())).1,(t0.getD (t7.toNat) (0,0,false,[],())).2.1,(t0.getD (t7.toNat) (0,0,false,[],())).2.2.1,(t0.getD (t7.toNat) (0,0,false,[],())).2.2.2.1,())]))else none)else none))else none)
   (if(0:Int)<=t7/\t7<(t0.length:Int)then(
   if b1.length+1<=Cm then(
   R4 t0 t6 (AW (t7+1)) AQ AF Ah BA (b1++[((t0.getD (t7.toNat) (0,0,false,[],())).1,(t0.getD (t7.toNat) (0,0,false,[],())).2.1,(t0.getD (t7.toNat) (0,0,false,[],())).2.2.1,(t0.getD (t7.toNat) (0,0,false,[],())).2.2.2.1,())]))else none)else none)))else none)
  (cond (!t6)
   (if(0:Int)<=t7/\t7<(t0.length:Int)then(
   cond (decide (((t0.getD (t7.toNat) (0,0,false,[],())).1)>AQ))
    (if b1.length+1<=Cm then(
    let x11:AAa:=b1++[(AQ,AF,Ah,BA,())]
    if(0:Int)<=t7/\t7<(t0.length:Int)then(
    if x11.length+1<=Cm then(
    R4 t0 true (AW (t7+1)) AQ AF Ah BA (x11++[((t0.getD (t7.toNat) (0,0,false,[],())).1,(t0.getD (t7.toNat) (0,0,false,[],())).2.1,(t0.getD (t7.toNat) (0,0,false,[],())).2.2.1,(t0.getD (t7.toNat) (0,0,false,[],())).2.2.2.1,())]))else none)else none)else none)
   (if(0:Int)<=t7/\t7<(t0.length:Int)then(
   if b1.length+1<=Cm then(
   R4 t0 t6 (AW (t7+1)) AQ AF Ah BA (b1++[((t0.getD (t7.toNat) (0,0,false,[],())).1,(t0.getD (t7.toNat) (0,0,false,[],())).2.1,(t0.getD (t7.toNat) (0,0,false,[],())).2.2.1,(t0.getD (t7.toNat) (0,0,false,[],())).2.2.2.1,())]))else none)else none))else none)
  (if(0:Int)<=t7/\t7<(t0.length:Int)then(
  if b1.length+1<=Cm then(
  R4 t0 t6 (AW (t7+1)) AQ AF Ah BA (b1++[((t0.getD (t7.toNat) (0,0,false,[],())).1,(t0.getD (t7.toNat) (0,0,false,[],())).2.1,(t0.getD (t7.toNat) (0,0,false,[],())).2.2.1,(t0.getD (t7.toNat) (0,0,false,[],())).2.2.2.1,())]))else none)else none)))
 (cond (!t6)
  (if b1.length+1<=Cm then(
  some (((),()),((b1++[(AQ,AF,Ah,BA,())]),())))else none)
 (some (((),()),(b1,()))))
def Ja:Nat->Yr
 |0=>fun _ _ _ _ _ _ _ _=>none
 |n+1=>TS (Ja n)
def Zm(R4:Yr)(p0:AAa)(p1:ACv):Option U5:=
 R4 p0 false 0 p1.1 p1.2.1 p1.2.2.1 p1.2.2.2.1 []
def Rk(p0:AAa)(p1:ACv):Option U5:=Zm (Ja AX) p0 p1
abbrev Nk:Type:=ADW×ADS
abbrev Q1:Type:=Int->Int->AAa->AAa->Int->Int->AAa->AAa->Int->AAa->AAa->Option Nk
def T2(R5:Q1)(t1 t7:Int)(AQ AF:AAa)(Ah CO:Int)(b2 b3:AAa)(cc:Int)(b5 b6:AAa):Option Nk:=
 cond ((decide (t7<(AF.length:Int))))
  (if t7<0 then none else(
  cond (((tO .i64 (t1.fdiv (2^(min t7.toNat 64))) 1)==1))
   (if(0:Int)<=t7/\t7<(AF.length:Int)then(
   (Rk b5 ((AF.getD (t7.toNat) (0,0,false,[],())).1,(AF.getD (t7.toNat) (0,0,false,[],())).2.1,(AF.getD (t7.toNat) (0,0,false,[],())).2.2.1,(AF.getD (t7.toNat) (0,0,false,[],())).2.2.2.1,())).bind fun u5=>
   R5 t1 (AW (t7+1)) AQ AF Ah CO b2 b3 cc u5.2.1 b6)else none)
  (R5 t1 (AW (t7+1)) AQ AF Ah CO b2 b3 cc b5 b6)))
 ((B9 t1 0 1048575).bind fun u6=>
 cond (!u6.1.1)
  ((Eh (AQ,AF,Ah,())).bind fun u7=>
  some (((((),(),u7.1.1.2.2.1,()),false,()),()),(u7.2.1,u7.2.2.1,())))
 (cond ((decide ((b5.length:Int)>200)))
  ((Eh (AQ,AF,Ah,())).bind fun u9=>
  some (((((),(),u9.1.1.2.2.1,()),false,()),()),(u9.2.1,u9.2.2.1,())))
 (some (((((),(),cc,()),true,()),()),(b5,b6,())))))
def Jf:Nat->Q1
 |0=>fun _ _ _ _ _ _ _ _ _ _ _=>none
 |n+1=>T2 (Jf n)
def T4(R5:Q1)(p0:ABR)(p1:Int):Option Nk:=
 (Gg (p0.1,p0.2.1,p0.2.2.1,())).bind fun u1=>
 cond (!u1.1.1)
  (some (((((),(),0,()),false,()),()),([],[],())))
 (if 0+p0.1.length<=Cm then(
 R5 p1 0 p0.1 p0.2.1 p0.2.2.1 0 [] [] p0.2.2.1 p0.1 [])else none)
def Mo(p0:ABR)(p1:Int):Option Nk:=T4 (Jf AX) p0 p1
abbrev mi:Type:=ADW×ADS
def Ox(p0:ABR):Option mi:=
 (Mo (p0.1,p0.2.1,p0.2.2.1,()) 1048575).bind fun u1=>
 some (((((),(),u1.1.1.1.2.2.1,()),u1.1.1.2.1,()),()),(u1.2.1,u1.2.2.1,()))
abbrev GQ:Type:=AEZ×Unit
abbrev bG:Type:=AAa->Int->Int->Int->Int->Bool->List UInt8->Option GQ
def bS(R2:bG)(t0:AAa)(t1 t6 AQ AF:Int)(Ah:Bool)(BA:AAZ):Option GQ:=
 cond ((decide (t6<(t0.length:Int))))
  (if(0:Int)<=t6/\t6<(t0.length:Int)then(
  cond (((t0.getD (t6.toNat) (0,0,false,[],())).1)==t1)
   (if(0:Int)<=t6/\t6<(t0.length:Int)then(
   some (((((t0.getD (t6.toNat) (0,0,false,[],())).1,(t0.getD (t6.toNat) (0,0,false,[],())).2.1,(t0.getD (t6.toNat) (0,0,false,[],())).2.2.1,(t0.getD (t6.toNat) (0,0,false,[],())).2.2.2.1,()),true,()),()),()))else none)
  (R2 t0 t1 (AW (t6+1)) AQ AF Ah BA))else none)
 (some ((((0,0,false,[],()),false,()),()),()))
def QM:Nat->bG
 |0=>fun _ _ _ _ _ _ _=>none
 |n+1=>bS (QM n)
def bZ(R2:bG)(p0:AAa)(p1:Int):Option GQ:=
 R2 p0 p1 0 0 0 false []
def HF(p0:AAa)(p1:Int):Option GQ:=bZ (QM AX) p0 p1
abbrev Fu:Type:=AEa×AD3
def FU(p0:AAb)(p1:ABL)(p2 p3:Int):Option Fu:=
 (HR (p0.1,p0.2.1,()) (p1.1,p1.2.1,())).bind fun u1=>
 cond (!u1.1.1)
  (some ((((0,(),()),false,()),()),([],())))
 ((FG (p1.1,p1.2.1,())).bind fun u2=>
 (B9 p2 1 (p1.2.1.length:Int)).bind fun u4=>
 cond (!u4.1.1)
  (some ((((u2.1.1.1,(),()),false,()),()),(u2.2.1,())))
 ((B9 p3 0 (AW ((p0.1.length:Int)-1))).bind fun u6=>
 cond (!u6.1.1)
  (some ((((u2.1.1.1,(),()),false,()),()),(u2.2.1,())))
 (if(0:Int)<=AW (p2-1)/\AW (p2-1)<(p1.2.1.length:Int)then(
 cond (((p1.2.1.getD ((AW (p2-1)).toNat) ([],[],false,())).2.2.1))
  (some ((((u2.1.1.1,(),()),false,()),()),(u2.2.1,())))
 (if(0:Int)<=AW (p2-1)/\AW (p2-1)<(u2.2.1.length:Int)then(
 (RP ((u2.2.1.getD ((AW (p2-1)).toNat) ([],[],false,())).2.1) p3).bind fun u8=>
 if(0:Int)<=AW (p2-1)/\AW (p2-1)<(u2.2.1.length:Int)then(
 let x9:ABI:=(u2.2.1.set ((AW (p2-1)).toNat) ((u2.2.1.getD ((AW (p2-1)).toNat) ([],[],false,())).1,u8.2.1,(u2.2.1.getD ((AW (p2-1)).toNat) ([],[],false,())).2.2.1,()))
 if(0:Int)<=AW (p2-1)/\AW (p2-1)<(x9.length:Int)then(
 (HI (p0.1,p0.2.1,()) ((x9.getD ((AW (p2-1)).toNat) ([],[],false,())).2.1)).bind fun FE=>
 if(0:Int)<=AW (p2-1)/\AW (p2-1)<(x9.length:Int)then(
 some ((((u2.1.1.1,(),()),true,()),()),((x9.set ((AW (p2-1)).toNat) ((x9.getD ((AW (p2-1)).toNat) ([],[],false,())).1,(x9.getD ((AW (p2-1)).toNat) ([],[],false,())).2.1,FE.1.1,())),())))else none)else none)else none)else none))else none)))
abbrev nD:Type:=ADw×Unit
def OH(p0 p1:Int):Option nD:=
 (B9 p0 1 30).bind fun u1=>
 cond (!u1.1.1)
  (some (((0,false,()),()),()))
 ((B9 p1 1 60).bind fun u2=>
 cond (!u2.1.1)
  (some (((0,false,()),()),()))
 (some (((AW ((AW (4294967296*p0))+p1),true,()),()),())))
abbrev F4:Type:=AEZ×Unit
def El(p0:AAu)(p1:Int):Option F4:=
 (OH p0.2.1 p1).bind fun u1=>
 cond (!p0.2.2.2.2.1)
  (some ((((0,0,false,[],()),false,()),()),()))
 (cond (!u1.1.1.2.1)
  (some ((((0,0,false,[],()),false,()),()),()))
 (cond (decide (p1>(p0.2.2.2.2.2.1.length:Int)))
  (some ((((0,0,false,[],()),false,()),()),()))
 ((HF p0.2.2.2.1 u1.1.1.1).bind fun u3=>
 cond (u3.1.1.2.1)
  (some ((((u1.1.1.1,p0.1,u3.1.1.1.2.2.1,u3.1.1.1.2.2.2.1,()),true,()),()),()))
 (some ((((u1.1.1.1,p0.1,true,[],()),true,()),()),())))))
abbrev Hf:Type:=AD9×ADU
def HS(p0:AAb)(p1:AAu)(p2 p3:Int):Option Hf:=
 (It (p0.1,p0.2.1,()) (p1.1,p1.2.1,p1.2.2.1,p1.2.2.2.1,p1.2.2.2.2.1,p1.2.2.2.2.2.1,())).bind fun u1=>
 cond (!u1.1.1)
  (some ((((0,0,(),(),false,(),()),false,()),()),([],[],[],())))
 ((EI (p1.1,p1.2.1,p1.2.2.1,p1.2.2.2.1,p1.2.2.2.2.1,p1.2.2.2.2.2.1,())).bind fun u2=>
 (B9 p2 1 (p1.2.2.2.2.2.1.length:Int)).bind fun u4=>
 cond (!u4.1.1)
  (some ((((u2.1.1.1,u2.1.1.2.1,(),(),u2.1.1.2.2.2.2.1,(),()),false,()),()),(u2.2.1,u2.2.2.1,u2.2.2.2.1,())))
 ((B9 p3 0 (AW ((p0.1.length:Int)-1))).bind fun u6=>
 cond (!u6.1.1)
  (some ((((u2.1.1.1,u2.1.1.2.1,(),(),u2.1.1.2.2.2.2.1,(),()),false,()),()),(u2.2.1,u2.2.2.1,u2.2.2.2.1,())))
 (if(0:Int)<=AW (p2-1)/\AW (p2-1)<(u2.2.2.2.1.length:Int)then(
 (RP (u2.2.2.2.1.getD ((AW (p2-1)).toNat) []) p3).bind fun u7=>
 if(0:Int)<=AW (p2-1)/\AW (p2-1)<(u2.2.2.2.1.length:Int)then(
 some ((((u2.1.1.1,u2.1.1.2.1,(),(),u2.1.1.2.2.2.2.1,(),()),true,()),()),(u2.2.1,u2.2.2.1,(u2.2.2.2.1.set ((AW (p2-1)).toNat) u7.2.1),())))else none)else none)))
abbrev Bz:Type:=AE8×ADG
abbrev IJ:Type:=Int->Int->List Int->AAT->List Int->AAU->AAX->AAY->AAV->AAW->Int->Int->Bool->Int->Int->Bool->List Int->AAT->List Int->AAU->AAX->AAY->AAV->AAW->AAa->AAa->Int->Option Bz
abbrev IH:Type:=Int->Int->Int->Int->Int->Bool->List Int->AAT->List Int->AAU->AAX->AAY->AAV->AAW->Int->Int->Bool->Int->Int->Bool->List Int->AAT->List Int->AAU->AAX->AAY->AAV->AAW->AAa->AAa->Int->Int->ABI->Option Bz
abbrev HC:Type:=Int->Int->Int->Int->Int->Bool->List Int->AAT->List Int->AAU->AAX->AAY->AAV->AAW->Int->Int->Bool->Int->Int->Bool->List Int->AAT->List Int->AAU->AAX->AAY->AAV->AAW->AAa->AAa->Int->Int->ABI->Option Bz
abbrev HM:Type:=Int->Int->List Int->AAT->List Int->AAU->AAX->AAY->AAV->AAW->Int->Int->Bool->Int->Int->Bool->List Int->AAT->List Int->AAU->AAX->AAY->AAV->AAW->AAa->AAa->Int->Option Bz
abbrev HD:Type:=Int->Int->Int->List Int->AAT->List Int->AAU->AAX->AAY->AAV->AAW->Int->Int->Bool->Int->Int->Bool->List Int->AAT->List Int->AAU->AAX->AAY->AAV->AAW->AAa->AAa->Int->Int->Int->List Int->AAa->Bool->List AAN->Option Bz
def MY(R3:IJ)(R8:IH)(rB:HC)(R21:HM)(R25:HD)(t1 t6:Int)(b0:AAN)(b1:AAT)(b2:AAN)(b3:AAU)(b4:AAX)(b5:AAY)(b6:AAV)(b7:AAW)(Da Dq:Int)(CJ:Bool)(EE F7:Int)(DA:Bool)(N3:AAN)(G6:AAT)(EK:AAN)(Hy:AAU)(Hw:AAX)(Eu:AAY)(Fb:AAV)(GK:AAW)(Cc C3:AAa)(Ch:Int):Option Bz:=
 cond ((decide (t6<(b4.length:Int))))
  (if(0:Int)<=t6/\t6<(b4.length:Int)then(
  (DT (b3,Dq,()) ((b4.getD (t6.toNat) (0,[],())).1)).bind fun u3=>
  (DG u3.2.1 t1).bind fun u4=>
  cond (!u4.1.1)
   (R3 t1 (AW (t6+1)) b0 b1 b2 b3 b4 b5 b6 b7 Da Dq CJ EE F7 DA N3 G6 EK Hy Hw Eu Fb GK Cc C3 Ch)
  (let x5:Int:=(b4.getD (t6.toNat) (0,[],())).1
  cond (decide (Ch>=x5))
   (R3 t1 (AW (t6+1)) b0 b1 b2 b3 b4 b5 b6 b7 Da Dq CJ EE F7 DA N3 G6 EK Hy Hw Eu Fb GK Cc C3 Ch)
  (R8 t1 t6 1 Ch x5 (decide (Ch>=x5)) b0 b1 b2 b3 b4 b5 b6 b7 Da Dq CJ EE F7 DA N3 G6 EK Hy Hw Eu Fb GK Cc C3 Ch ((b4.getD (t6.toNat) (0,[],())).1) ((b4.getD (t6.toNat) (0,[],())).2.1))))else none)
 (R21 t1 0 b0 b1 b2 b3 b4 b5 b6 b7 Da Dq CJ EE F7 DA N3 G6 EK Hy Hw Eu Fb GK Cc C3 Ch)
def Me(R3:IJ)(R8:IH)(rB:HC)(R21:HM)(R25:HD)(t1 t6 t8 t47 t49:Int)(t50:Bool)(b0:AAN)(b1:AAT)(b2:AAN)(b3:AAU)(b4:AAX)(b5:AAY)(b6:AAV)(b7:AAW)(Da Dq:Int)(CJ:Bool)(EE F7:Int)(DA:Bool)(N3:AAN)(G6:AAT)(EK:AAN)(Hy:AAU)(Hw:AAX)(Eu:AAY)(Fb:AAV)(GK:AAW)(Cc C3:AAa)(Ch EO:Int)(DE:ABI):Option Bz:=
 cond ((decide (t8<=(DE.length:Int))))
  ((De EO t8).bind fun u7=>
  (HF Cc u7.1.1).bind fun u8=>
  cond (!u8.1.1.2.1)
   (R8 t1 t6 (AW (t8+1)) t47 t49 t50 b0 b1 b2 b3 b4 b5 b6 b7 Da Dq CJ EE F7 DA N3 G6 EK Hy Hw Eu Fb GK Cc C3 Ch EO DE)
  (cond (u8.1.1.1.2.1 !=0)
   (R8 t1 t6 (AW (t8+1)) t47 t49 t50 b0 b1 b2 b3 b4 b5 b6 b7 Da Dq CJ EE F7 DA N3 G6 EK Hy Hw Eu Fb GK Cc C3 Ch EO DE)
  (if(0:Int)<=AW (t8-1)/\AW (t8-1)<(DE.length:Int)then(
  cond (((DE.getD ((AW (t8-1)).toNat) ([],[],false,())).2.2.1))
   (R8 t1 t6 (AW (t8+1)) t47 t49 t50 b0 b1 b2 b3 b4 b5 b6 b7 Da Dq CJ EE F7 DA N3 G6 EK Hy Hw Eu Fb GK Cc C3 Ch EO DE)
  ((FU (b0,Da,()) (EO,DE,()) t8 t1).bind fun FE=>
  R8 t1 t6 (AW (t8+1)) t47 t49 t50 b0 b1 b2 b3 b4 b5 b6 b7 Da Dq CJ EE F7 DA N3 G6 EK Hy Hw Eu Fb GK Cc C3 Ch FE.1.1.1.1 FE.2.1))else none)))
 (if(0:Int)<=t6/\t6<(b4.length:Int)then(
 rB t1 t6 0 t47 t49 t50 b0 b1 b2 b3 (b4.set (t6.toNat) (EO,DE,())) b5 b6 b7 Da Dq CJ EE F7 DA N3 G6 EK Hy Hw Eu Fb GK Cc C3 Ch EO DE)else none)
def K7(R3:IJ)(R8:IH)(rB:HC)(R21:HM)(R25:HD)(t1 t6 t11 t47 t49:Int)(t50:Bool)(b0:AAN)(b1:AAT)(b2:AAN)(b3:AAU)(b4:AAX)(b5:AAY)(b6:AAV)(b7:AAW)(Da Dq:Int)(CJ:Bool)(EE F7:Int)(DA:Bool)(N3:AAN)(G6:AAT)(EK:AAN)(Hy:AAU)(Hw:AAX)(Eu:AAY)(Fb:AAV)(GK:AAW)(Cc C3:AAa)(Ch EO:Int)(DE:ABI):Option Bz:=
 cond ((decide (t11<(b7.length:Int))))
  (if(0:Int)<=t11/\t11<(b7.length:Int)then(
  let x65:Int:=(b7.getD (t11.toNat) (0,[],false,())).1
  (Cl x65).bind fun u66=>
  cond (u66.1.1==EO)
   ((Gh x65).bind fun u67=>
   cond ((decide (u67.1.1<=(DE.length:Int))))
    ((Gh x65).bind fun u69=>
    if(0:Int)<=AW (u69.1.1-1)/\AW (u69.1.1-1)<(DE.length:Int)then(
    cond (((DE.getD ((AW (u69.1.1-1)).toNat) ([],[],false,())).2.2.1))
     (if(0:Int)<=t11/\t11<(b7.length:Int)then(
     rB t1 t6 (AW (t11+1)) t47 t49 t50 b0 b1 b2 b3 b4 b5 b6 (b7.set (t11.toNat) ((b7.getD (t11.toNat) (0,[],false,())).1,(b7.getD (t11.toNat) (0,[],false,())).2.1,true,())) Da Dq CJ EE F7 DA N3 G6 EK Hy Hw Eu Fb GK Cc C3 Ch EO DE)else none)
    (rB t1 t6 (AW (t11+1)) t47 t49 t50 b0 b1 b2 b3 b4 b5 b6 b7 Da Dq CJ EE F7 DA N3 G6 EK Hy Hw Eu Fb GK Cc C3 Ch EO DE))else none)
   (rB t1 t6 (AW (t11+1)) t47 t49 t50 b0 b1 b2 b3 b4 b5 b6 b7 Da Dq CJ EE F7 DA N3 G6 EK Hy Hw Eu Fb GK Cc C3 Ch EO DE))
  (rB t1 t6 (AW (t11+1)) t47 t49 t50 b0 b1 b2 b3 b4 b5 b6 b7 Da Dq CJ EE F7 DA N3 G6 EK Hy Hw Eu Fb GK Cc C3 Ch EO DE))else none)
 (R3 t1 (AW (t6+1)) b0 b1 b2 b3 b4 b5 b6 b7 Da Dq CJ EE F7 DA N3 G6 EK Hy Hw Eu Fb GK Cc C3 Ch)
def LG(R3:IJ)(R8:IH)(rB:HC)(R21:HM)(R25:HD)(t1 t13:Int)(b0:AAN)(b1:AAT)(b2:AAN)(b3:AAU)(b4:AAX)(b5:AAY)(b6:AAV)(b7:AAW)(Da Dq:Int)(CJ:Bool)(EE F7:Int)(DA:Bool)(N3:AAN)(G6:AAT)(EK:AAN)(Hy:AAU)(Hw:AAX)(Eu:AAY)(Fb:AAV)(GK:AAW)(Cc C3:AAa)(Ch:Int):Option Bz:=
 cond ((decide (t13<(b5.length:Int))))
  (if(0:Int)<=t13/\t13<(b5.length:Int)then(
  R25 t1 t13 1 b0 b1 b2 b3 b4 b5 b6 b7 Da Dq CJ EE F7 DA N3 G6 EK Hy Hw Eu Fb GK Cc C3 Ch ((b5.getD (t13.toNat) (0,0,[],[],false,[],())).1) ((b5.getD (t13.toNat) (0,0,[],[],false,[],())).2.1) ((b5.getD (t13.toNat) (0,0,[],[],false,[],())).2.2.1) ((b5.getD (t13.toNat) (0,0,[],[],false,[],())).2.2.2.1) ((b5.getD (t13.toNat) (0,0,[],[],false,[],())).2.2.2.2.1) ((b5.getD (t13.toNat) (0,0,[],[],false,[],())).2.2.2.2.2.1))else none)
 (some ((((),Da,(),(),(),Dq,(),(),(),(),CJ,()),()),(b0,b1,b2,b3,b4,b5,b6,b7,())))
def IW(R3:IJ)(R8:IH)(rB:HC)(R21:HM)(R25:HD)(t1 t13 t15:Int)(b0:AAN)(b1:AAT)(b2:AAN)(b3:AAU)(b4:AAX)(b5:AAY)(b6:AAV)(b7:AAW)(Da Dq:Int)(CJ:Bool)(EE F7:Int)(DA:Bool)(N3:AAN)(G6:AAT)(EK:AAN)(Hy:AAU)(Hw:AAX)(Eu:AAY)(Fb:AAV)(GK:AAW)(Cc C3:AAa)(Ch EO DE:Int)(bf:AAN)(bU:AAa)(cG:Bool)(cH:List AAN):Option Bz:=
 if(0:Int)<=t13/\t13<(b5.length:Int)then(
 cond (decide (t15<=(((b5.getD (t13.toNat) (0,0,[],[],false,[],())).2.2.2.2.2.1).length:Int)))
  ((DT (b3,Dq,()) DE).bind fun u74=>
  (DG u74.2.1 t1).bind fun u75=>
  cond (u75.1.1)
   ((El (EO,DE,bf,bU,cG,cH,()) t15).bind fun u76=>
   (HF Cc u76.1.1.1.1).bind fun u77=>
   cond (u77.1.1.2.1)
    (cond (((u77.1.1.1.1==u76.1.1.1.1)&&((u77.1.1.1.2.1==u76.1.1.1.2.1)&&((u77.1.1.1.2.2.1==u76.1.1.1.2.2.1)&&((u77.1.1.1.2.2.2.1==u76.1.1.1.2.2.2.1)&&true)))))
     ((HS (b0,Da,()) (EO,DE,bf,bU,cG,cH,()) t15 t1).bind fun u79=>
     R25 t1 t13 (AW (t15+1)) b0 b1 b2 b3 b4 b5 b6 b7 Da Dq CJ EE F7 DA N3 G6 EK Hy Hw Eu Fb GK Cc C3 Ch u79.1.1.1.1 u79.1.1.1.2.1 u79.2.1 u79.2.2.1 u79.1.1.1.2.2.2.2.1 u79.2.2.2.1)
    (R25 t1 t13 (AW (t15+1)) b0 b1 b2 b3 b4 b5 b6 b7 Da Dq CJ EE F7 DA N3 G6 EK Hy Hw Eu Fb GK Cc C3 Ch EO DE bf bU cG cH))
   (R25 t1 t13 (AW (t15+1)) b0 b1 b2 b3 b4 b5 b6 b7 Da Dq CJ EE F7 DA N3 G6 EK Hy Hw Eu Fb GK Cc C3 Ch EO DE bf bU cG cH))
  (if(0:Int)<=t13/\t13<(b5.length:Int)then(
  R21 t1 (AW (t13+1)) b0 b1 b2 b3 b4 (b5.set (t13.toNat) (EO,DE,bf,bU,cG,cH,())) b6 b7 Da Dq CJ EE F7 DA N3 G6 EK Hy Hw Eu Fb GK Cc C3 Ch)else none))
 (if(0:Int)<=t13/\t13<(b5.length:Int)then(
 R21 t1 (AW (t13+1)) b0 b1 b2 b3 b4 (b5.set (t13.toNat) (EO,DE,bf,bU,cG,cH,())) b6 b7 Da Dq CJ EE F7 DA N3 G6 EK Hy Hw Eu Fb GK Cc C3 Ch)else none))else none
mutual
def Bf:Nat->IJ
 |0=>fun _ _ _ _ _ _ _ _ _ _ _ _ _ _ _ _ _ _ _ _ _ _ _ _ _ _ _=>none
 |n+1=>MY (Bf n) (BE n) (BF n) (Bg n) (Bd n)
def BE:Nat->IH
 |0=>fun _ _ _ _ _ _ _ _ _ _ _ _ _ _ _ _ _ _ _ _ _ _ _ _ _ _ _ _ _ _ _ _ _=>none
 |n+1=>Me (Bf n) (BE n) (BF n) (Bg n) (Bd n)
def BF:Nat->HC
 |0=>fun _ _ _ _ _ _ _ _ _ _ _ _ _ _ _ _ _ _ _ _ _ _ _ _ _ _ _ _ _ _ _ _ _=>none
 |n+1=>K7 (Bf n) (BE n) (BF n) (Bg n) (Bd n)
def Bg:Nat->HM
 |0=>fun _ _ _ _ _ _ _ _ _ _ _ _ _ _ _ _ _ _ _ _ _ _ _ _ _ _ _=>none
 |n+1=>LG (Bf n) (BE n) (BF n) (Bg n) (Bd n)
def Bd:Nat->HD
 |0=>fun _ _ _ _ _ _ _ _ _ _ _ _ _ _ _ _ _ _ _ _ _ _ _ _ _ _ _ _ _ _ _ _ _ _=>none
 |n+1=>IW (Bf n) (BE n) (BF n) (Bg n) (Bd n)
end
def RD(R3:IJ)(R8:IH)(rB:HC)(R21:HM)(R25:HD)(CI CP:Int)(BU:Bool)(p1:Int)(b0:AAN)(b1:AAT)(b2:AAN)(b3:AAU)(b4:AAX)(b5:AAY)(b6:AAV)(b7:AAW):Option Bz:=
 if(0:Int)<=p1/\p1<(b1.length:Int)then(
 R3 p1 0 b0 b1 b2 b3 b4 b5 b6 b7 CI CP BU 0 0 false [] [] [] [] [] [] [] [] ((b1.getD (p1.toNat) ([],[],0,())).1) ((b1.getD (p1.toNat) ([],[],0,())).2.1) ((b1.getD (p1.toNat) ([],[],0,())).2.2.1))else none
def Xl(CI CP:Int)(BU:Bool)(p1:Int)(b0:AAN)(b1:AAT)(b2:AAN)(b3:AAU)(b4:AAX)(b5:AAY)(b6:AAV)(b7:AAW):Option Bz:=RD (Bf AX) (BE AX) (BF AX) (Bg AX) (Bd AX) CI CP BU p1 b0 b1 b2 b3 b4 b5 b6 b7
abbrev tV:Type:=AC7×ADG
def Xm(CI CP:Int)(BU:Bool)(p1:ABX)(b0:AAN)(b1:AAT)(b2:AAN)(b3:AAU)(b4:AAX)(b5:AAY)(b6:AAV)(b7:AAW):Option tV:=
 (HT (b0,CI,b1,b2,b3,CP,b4,b5,b6,b7,BU,()) p1.2.1).bind fun u1=>
 cond (u1.1.1 !=0)
  (some (((((),CI,(),(),(),CP,(),(),(),(),BU,()),u1.1.1,()),()),(b0,b1,b2,b3,b4,b5,b6,b7,())))
 (if(0:Int)<=p1.2.1/\p1.2.1<(b1.length:Int)then(
 (Ox ((b1.getD (p1.2.1.toNat) ([],[],0,())).1,(b1.getD (p1.2.1.toNat) ([],[],0,())).2.1,(b1.getD (p1.2.1.toNat) ([],[],0,())).2.2.1,())).bind fun u2=>
 cond (!u2.1.1.2.1)
  (some (((((),CI,(),(),(),CP,(),(),(),(),BU,()),4,()),()),(b0,b1,b2,b3,b4,b5,b6,b7,())))
 (if(0:Int)<=p1.2.1/\p1.2.1<(b1.length:Int)then(
 (Xl CI CP BU p1.2.1 b0 (b1.set (p1.2.1.toNat) (u2.2.1,u2.2.2.1,u2.1.1.1.2.2.1,())) b2 b3 b4 b5 b6 b7).bind fun u4=>
 some (((((),u4.1.1.2.1,(),(),(),u4.1.1.2.2.2.2.2.1,(),(),(),(),u4.1.1.2.2.2.2.2.2.2.2.2.2.1,()),0,()),()),(u4.2.1,u4.2.2.1,u4.2.2.2.1,u4.2.2.2.2.1,u4.2.2.2.2.2.1,u4.2.2.2.2.2.2.1,u4.2.2.2.2.2.2.2.1,u4.2.2.2.2.2.2.2.2.1,())))else none))else none)
abbrev VU:Type:=ABW×ACE
abbrev YX:Type:=List Int->List Int->Int->List Int->Option VU
def Zg(R3:YX)(t0 t1:AAN)(t6:Int)(b0:AAN):Option VU:=
 cond ((decide (t6<(t0.length:Int))))
  (if(0:Int)<=t6/\t6<(t0.length:Int)then(
  (DG t1 (t0.getD (t6.toNat) 0)).bind fun u3=>
  cond (!u3.1.1)
   (if(0:Int)<=t6/\t6<(t0.length:Int)then(
   if b0.length+1<=Cm then(
   R3 t0 t1 (AW (t6+1)) (b0++[(t0.getD (t6.toNat) 0)]))else none)else none)
  (R3 t0 t1 (AW (t6+1)) b0))else none)
 (some (((),()),(b0,())))
def O8:Nat->YX
 |0=>fun _ _ _ _=>none
 |n+1=>Zg (O8 n)
def aI(R3:YX)(p0 p1:AAN):Option VU:=
 R3 p0 p1 0 []
def Iy(p0 p1:AAN):Option VU:=aI (O8 AX) p0 p1
abbrev K6:Type:=AEa×AD3
abbrev OM:Type:=Int->Int->Int->ABI->Int->ABI->Option K6
def Ra(R5:OM)(t2 t9 AQ:Int)(b1:ABI)(Wb:Int)(b3:ABI):Option K6:=
 cond ((decide (t9<(b3.length:Int))))
  (if(0:Int)<=t9/\t9<(b3.length:Int)then(
  cond (!((b3.getD (t9.toNat) ([],[],false,())).2.2.1))
   (if(0:Int)<=t9/\t9<(b3.length:Int)then(
   (Iy ((b3.getD (t9.toNat) ([],[],false,())).2.1) [t2]).bind fun u5=>
   if(0:Int)<=t9/\t9<(b3.length:Int)then(
   R5 t2 (AW (t9+1)) AQ b1 Wb (b3.set (t9.toNat) ((b3.getD (t9.toNat) ([],[],false,())).1,u5.2.1,(b3.getD (t9.toNat) ([],[],false,())).2.2.1,())))else none)else none)
  (R5 t2 (AW (t9+1)) AQ b1 Wb b3))else none)
 (some ((((Wb,(),()),true,()),()),(b3,())))
def Hn:Nat->OM
 |0=>fun _ _ _ _ _ _=>none
 |n+1=>Ra (Hn n)
def RW(R5:OM)(p0:AAb)(p1:ABL)(p2:Int):Option K6:=
 (HR (p0.1,p0.2.1,()) (p1.1,p1.2.1,())).bind fun u1=>
 cond (!u1.1.1)
  (some ((((0,(),()),false,()),()),([],())))
 ((FG (p1.1,p1.2.1,())).bind fun u2=>
 R5 p2 0 0 [] u2.1.1.1 u2.2.1)
def Ng(p0:AAb)(p1:ABL)(p2:Int):Option K6:=RW (Hn AX) p0 p1 p2
abbrev Nr:Type:=AD9×ADU
abbrev RM:Type:=Int->Int->Int->Int->Bool->List Int->AAa->List AAN->Int->Int->Bool->List Int->AAa->List AAN->Option Nr
def Tm(R5:RM)(t2 t9 AQ AF:Int)(BH:Bool)(b1:AAN)(b2:AAa)(b3:List AAN)(AAK zY:Int)(yp:Bool)(b5:AAN)(b6:AAa)(b7:List AAN):Option Nr:=
 cond ((decide (t9<(b7.length:Int))))
  (if(0:Int)<=t9/\t9<(b7.length:Int)then(
  (Iy (b7.getD (t9.toNat) []) [t2]).bind fun u4=>
  if(0:Int)<=t9/\t9<(b7.length:Int)then(
  R5 t2 (AW (t9+1)) AQ AF BH b1 b2 b3 AAK zY yp b5 b6 (b7.set (t9.toNat) u4.2.1))else none)else none)
 (some ((((AAK,zY,(),(),yp,(),()),true,()),()),(b5,b6,b7,())))
def Jg:Nat->RM
 |0=>fun _ _ _ _ _ _ _ _ _ _ _ _ _ _=>none
 |n+1=>Tm (Jg n)
def Tw(R5:RM)(p0:AAb)(p1:AAu)(p2:Int):Option Nr:=
 (It (p0.1,p0.2.1,()) (p1.1,p1.2.1,p1.2.2.1,p1.2.2.2.1,p1.2.2.2.2.1,p1.2.2.2.2.2.1,())).bind fun u1=>
 cond (!u1.1.1)
  (some ((((0,0,(),(),false,(),()),false,()),()),([],[],[],())))
 ((EI (p1.1,p1.2.1,p1.2.2.1,p1.2.2.2.1,p1.2.2.2.2.1,p1.2.2.2.2.2.1,())).bind fun u2=>
 R5 p2 0 0 0 false [] [] [] u2.1.1.1 u2.1.1.2.1 u2.1.1.2.2.2.2.1 u2.2.1 u2.2.2.1 u2.2.2.2.1)
def Qg(p0:AAb)(p1:AAu)(p2:Int):Option Nr:=Tw (Jg AX) p0 p1 p2
abbrev Ji:Type:=AC7×AGz
abbrev Qn:Type:=Int->List Int->AAT->List Int->AAU->AAX->AAY->AAV->AAW->Int->Int->Bool->List Int->Int->Int->Int->Int->List UInt8->Int->Int->Bool->List Int->AAT->List Int->AAU->AAX->AAY->AAV->AAW->Option Ji
abbrev Pt:Type:=Int->List Int->AAT->List Int->AAU->AAX->AAY->AAV->AAW->Int->Int->Bool->List Int->Int->Int->Int->Int->List UInt8->Int->Int->Bool->List Int->AAT->List Int->AAU->AAX->AAY->AAV->AAW->Option Ji
def Yv(R7:Qn)(iH:Pt)(t7:Int)(b0:AAN)(b1:AAT)(b2:AAN)(b3:AAU)(b4:AAX)(b5:AAY)(b6:AAV)(b7:AAW)(Da Dq:Int)(CJ:Bool)(b9:AAN)(AC0 FA AC4 ACP:Int)(ACr:AAZ)(ACW ACz:Int)(xH:Bool)(EK:AAN)(Hy:AAT)(Hw:AAN)(Eu:AAU)(Fb:AAX)(GK:AAY)(bI:AAV)(wT:AAW):Option Ji:=
 cond ((decide (t7<(b4.length:Int))))
  (if(0:Int)<=t7/\t7<(b4.length:Int)then(
  (Ng (b0,Da,()) ((b4.getD (t7.toNat) (0,[],())).1,(b4.getD (t7.toNat) (0,[],())).2.1,()) FA).bind fun u5=>
  if(0:Int)<=t7/\t7<(b4.length:Int)then(
  R7 (AW (t7+1)) b0 b1 b2 b3 (b4.set (t7.toNat) (u5.1.1.1.1,u5.2.1,())) b5 b6 b7 Da Dq CJ b9 AC0 FA AC4 ACP ACr ACW ACz xH EK Hy Hw Eu Fb GK bI wT)else none)else none)
 (iH 0 b0 b1 b2 b3 b4 b5 b6 b7 Da Dq CJ b9 AC0 FA AC4 ACP ACr ACW ACz xH EK Hy Hw Eu Fb GK bI wT)
def Wh(R7:Qn)(iH:Pt)(t8:Int)(b0:AAN)(b1:AAT)(b2:AAN)(b3:AAU)(b4:AAX)(b5:AAY)(b6:AAV)(b7:AAW)(Da Dq:Int)(CJ:Bool)(b9:AAN)(AC0 FA AC4 ACP:Int)(ACr:AAZ)(ACW ACz:Int)(xH:Bool)(EK:AAN)(Hy:AAT)(Hw:AAN)(Eu:AAU)(Fb:AAX)(GK:AAY)(bI:AAV)(wT:AAW):Option Ji:=
 cond ((decide (t8<(b5.length:Int))))
  (if(0:Int)<=t8/\t8<(b5.length:Int)then(
  (Qg (b0,Da,()) ((b5.getD (t8.toNat) (0,0,[],[],false,[],())).1,(b5.getD (t8.toNat) (0,0,[],[],false,[],())).2.1,(b5.getD (t8.toNat) (0,0,[],[],false,[],())).2.2.1,(b5.getD (t8.toNat) (0,0,[],[],false,[],())).2.2.2.1,(b5.getD (t8.toNat) (0,0,[],[],false,[],())).2.2.2.2.1,(b5.getD (t8.toNat) (0,0,[],[],false,[],())).2.2.2.2.2.1,()) FA).bind fun u8=>
  if(0:Int)<=t8/\t8<(b5.length:Int)then(
  iH (AW (t8+1)) b0 b1 b2 b3 b4 (b5.set (t8.toNat) (u8.1.1.1.1,u8.1.1.1.2.1,u8.2.1,u8.2.2.1,u8.1.1.1.2.2.2.2.1,u8.2.2.2.1,())) b6 b7 Da Dq CJ b9 AC0 FA AC4 ACP ACr ACW ACz xH EK Hy Hw Eu Fb GK bI wT)else none)else none)
 (cond (CJ)
  (some (((((),Da,(),(),(),Dq,(),(),(),(),true,()),0,()),()),(b0,b1,(),b3,b4,b5,b6,b7,b9,())))
 ((HI (b0,Da,()) b9).bind fun FE=>
 some (((((),Da,(),(),(),Dq,(),(),(),(),FE.1.1,()),0,()),()),(b0,b1,(),b3,b4,b5,b6,b7,b9,()))))
mutual
def J_:Nat->Qn
 |0=>fun _ _ _ _ _ _ _ _ _ _ _ _ _ _ _ _ _ _ _ _ _ _ _ _ _ _ _ _ _=>none
 |n+1=>Yv (J_ n) (JL n)
def JL:Nat->Pt
 |0=>fun _ _ _ _ _ _ _ _ _ _ _ _ _ _ _ _ _ _ _ _ _ _ _ _ _ _ _ _ _=>none
 |n+1=>Wh (J_ n) (JL n)
end
def Yu(R7:Qn)(iH:Pt)(CI CP:Int)(BU:Bool)(p1:ABX)(b0:AAN)(b1:AAT)(b2:AAN)(b3:AAU)(b4:AAX)(b5:AAY)(b6:AAV)(b7:AAW):Option Ji:=
 (HT (b0,CI,b1,b2,b3,CP,b4,b5,b6,b7,BU,()) p1.2.1).bind fun u1=>
 cond (u1.1.1 !=0)
  (some (((((),CI,(),(),(),CP,(),(),(),(),BU,()),u1.1.1,()),()),(b0,b1,(),b3,b4,b5,b6,b7,b2,())))
 (if(0:Int)<=p1.2.1/\p1.2.1<(b1.length:Int)then(
 (RP b2 p1.2.1).bind fun u3=>
 R7 0 b0 (b1.set (p1.2.1.toNat) ([],[],0,())) b2 b3 b4 b5 b6 b7 CI CP BU u3.2.1 p1.1 p1.2.1 p1.2.2.1 p1.2.2.2.1 p1.2.2.2.2.1 0 0 false [] [] [] [] [] [] [] [])else none)
def Xd(CI CP:Int)(BU:Bool)(p1:ABX)(b0:AAN)(b1:AAT)(b2:AAN)(b3:AAU)(b4:AAX)(b5:AAY)(b6:AAV)(b7:AAW):Option Ji:=Yu (J_ AX) (JL AX) CI CP BU p1 b0 b1 b2 b3 b4 b5 b6 b7
abbrev uD:Type:=AAg×Unit
def aH(p0:AAb)(p1:AAN):Option uD:=
 (Gi (p0.1,p0.2.1,()) p1).bind fun u1=>
 cond (u1.1.1)
  ((HI (p0.1,p0.2.1,()) p1).bind fun u2=>
  some ((!u2.1.1,()),()))
 (some ((false,()),()))
abbrev J7:Type:=ABW×AEU
abbrev PX:Type:=AAT->Int->AAa->Option J7
abbrev Pe:Type:=AAT->Int->Int->AAa->Option J7
def Wr(R3:PX)(R6:Pe)(t0:AAT)(t4:Int)(b0:AAa):Option J7:=
 cond ((decide (t4<(t0.length:Int))))
  (R6 t0 t4 0 b0)
 (some (((),()),(b0,())))
def Wz(R3:PX)(R6:Pe)(t0:AAT)(t4 t5:Int)(b0:AAa):Option J7:=
 if(0:Int)<=t4/\t4<(t0.length:Int)then(
 cond (decide (t5<(((t0.getD (t4.toNat) ([],[],0,())).1).length:Int)))
  (if(0:Int)<=t4/\t4<(t0.length:Int)then(
  if(0:Int)<=t5/\t5<(((t0.getD (t4.toNat) ([],[],0,())).1).length:Int)then(
  (Rk b0 ((((t0.getD (t4.toNat) ([],[],0,())).1).getD (t5.toNat) (0,0,false,[],())).1,(((t0.getD (t4.toNat) ([],[],0,())).1).getD (t5.toNat) (0,0,false,[],())).2.1,(((t0.getD (t4.toNat) ([],[],0,())).1).getD (t5.toNat) (0,0,false,[],())).2.2.1,(((t0.getD (t4.toNat) ([],[],0,())).1).getD (t5.toNat) (0,0,false,[],())).2.2.2.1,())).bind fun u3=>
  R6 t0 t4 (AW (t5+1)) u3.2.1)else none)else none)
 (R3 t0 (AW (t4+1)) b0))else none
mutual
def I9:Nat->PX
 |0=>fun _ _ _=>none
 |n+1=>Wr (I9 n) (JK n)
def JK:Nat->Pe
 |0=>fun _ _ _ _=>none
 |n+1=>Wz (I9 n) (JK n)
end
def gw(R3:PX)(R6:Pe)(p0:AAT):Option J7:=
 R3 p0 0 []
def aj(p0:AAT):Option J7:=gw (I9 AX) (JK AX) p0
abbrev O7:Type:=ADW×AG5
abbrev XW:Type:=List Int->Int->Int->AAT->Int->AAa->AAa->Int->AAa->AAa->AAT->Option O7
abbrev U8:Type:=Int->Int->AAT->Int->AAa->AAa->Int->AAa->AAa->AAT->Option O7
def dw(R6:XW)(iH:U8)(t2:AAN)(t4 t14:Int)(b0:AAT)(CO:Int)(b2 b3:AAa)(cc:Int)(b5 b6:AAa)(b7:AAT):Option O7:=
 cond ((decide (t14<(b0.length:Int))))
  ((DG t2 t14).bind fun u6=>
  cond (!u6.1.1)
   (if(0:Int)<=t14/\t14<(b0.length:Int)then(
   if b7.length+1<=Cm then(
   R6 t2 t4 (AW (t14+1)) b0 CO b2 b3 cc b5 b6 (b7++[((b0.getD (t14.toNat) ([],[],0,())).1,(b0.getD (t14.toNat) ([],[],0,())).2.1,(b0.getD (t14.toNat) ([],[],0,())).2.2.1,())]))else none)else none)
  (R6 t2 t4 (AW (t14+1)) b0 CO b2 b3 cc b5 b6 b7))
 (iH t4 0 b0 CO b2 b3 cc b5 b6 b7)
def bT(R6:XW)(iH:U8)(t4 t15:Int)(b0:AAT)(CO:Int)(b2 b3:AAa)(cc:Int)(b5 b6:AAa)(b7:AAT):Option O7:=
 cond ((decide (t15<(b7.length:Int))))
  (if(0:Int)<=t15/\t15<(b7.length:Int)then(
  (Gg ((b7.getD (t15.toNat) ([],[],0,())).1,(b7.getD (t15.toNat) ([],[],0,())).2.1,(b7.getD (t15.toNat) ([],[],0,())).2.2.1,())).bind fun u9=>
  cond (!u9.1.1)
   (some (((((),(),cc,()),false,()),()),(b0,b5,b6,())))
  (iH t4 (AW (t15+1)) b0 CO b2 b3 cc b5 b6 b7))else none)
 ((aj b7).bind fun FE=>
 (Gg (FE.2.1,[],t4,())).bind fun Hj=>
 cond (!Hj.1.1)
  (some (((((),(),cc,()),false,()),()),(b0,b5,b6,())))
 (some (((((),(),t4,()),true,()),()),(b0,FE.2.1,[],()))))
mutual
def Pj:Nat->XW
 |0=>fun _ _ _ _ _ _ _ _ _ _ _=>none
 |n+1=>dw (Pj n) (M_ n)
def M_:Nat->U8
 |0=>fun _ _ _ _ _ _ _ _ _ _=>none
 |n+1=>bT (Pj n) (M_ n)
end
def dh(R6:XW)(iH:U8)(p0:AAb)(p2:AAN)(p3 p4:Int)(b0:AAT):Option O7:=
 (GO (p0.1,p0.2.1,())).bind fun u1=>
 cond (!u1.1.1)
  (some (((((),(),0,()),false,()),()),(b0,[],[],())))
 (cond (((b0.length:Int) !=(p0.1.length:Int)))
  (some (((((),(),0,()),false,()),()),(b0,[],[],())))
 ((aH (p0.1,p0.2.1,()) p2).bind fun u3=>
 cond (!u3.1.1)
  (some (((((),(),0,()),false,()),()),(b0,[],[],())))
 ((DG p2 p3).bind fun u4=>
 cond (!u4.1.1)
  (some (((((),(),0,()),false,()),()),(b0,[],[],())))
 (R6 p2 p4 0 b0 0 [] [] 0 [] [] []))))
def gR(p0:AAb)(p2:AAN)(p3 p4:Int)(b0:AAT):Option O7:=dh (Pj AX) (M_ AX) p0 p2 p3 p4 b0
abbrev qh:Type:=AC7×AGz
def Xo(CI CP:Int)(BU:Bool)(p1:ABX)(b0:AAN)(b1:AAT)(b2:AAN)(b3:AAU)(b4:AAX)(b5:AAY)(b6:AAV)(b7:AAW):Option qh:=
 (DG b2 p1.2.1).bind fun u1=>
 cond (!u1.1.1)
  (some (((((),CI,(),(),(),CP,(),(),(),(),BU,()),2,()),()),(b0,b1,(),b3,b4,b5,b6,b7,b2,())))
 ((UT (AW ((b3.length:Int)-1)) 0).bind fun u3=>
 (gR (b0,CI,()) b2 p1.2.1 u3.1.1 b1).bind fun u4=>
 cond (!u4.1.1.2.1)
  (some (((((),CI,(),(),(),CP,(),(),(),(),BU,()),4,()),()),(b0,u4.2.1,(),b3,b4,b5,b6,b7,b2,())))
 (if(0:Int)<=p1.2.1/\p1.2.1<(u4.2.1.length:Int)then(
 (Iy b2 [p1.2.1]).bind fun u6=>
 some (((((),CI,(),(),(),CP,(),(),(),(),BU,()),0,()),()),(b0,(u4.2.1.set (p1.2.1.toNat) (u4.2.2.1,u4.2.2.2.1,u4.1.1.1.2.2.1,())),(),b3,b4,b5,b6,b7,u6.2.1,())))else none))
abbrev ry:Type:=AEY×ADU
def kQ(p0 p1:Int):Option ry:=
 some (((p1,p0,(),(),false,(),()),()),([],[],[],()))
abbrev fE:Type:=AC7×(List Int×AAT×List Int×AAU×AAX×Unit×AAV×AAW×AAY×Unit)
def XS(CI CP:Int)(BU:Bool)(b0:AAN)(b1:AAT)(b2:AAN)(b3:AAU)(b4:AAX)(b5:AAY)(b6:AAV)(b7:AAW):Option fE:=
 (LZ (b3,CP,())).bind fun u1=>
 cond ((decide ((b3.length:Int)<2)))
  (some (((((),CI,(),(),(),CP,(),(),(),(),BU,()),2,()),()),(b0,b1,b2,b3,b4,(),b6,b7,b5,())))
 (cond ((u1.1.1==(b3.length:Int)))
  (some (((((),CI,(),(),(),CP,(),(),(),(),BU,()),2,()),()),(b0,b1,b2,b3,b4,(),b6,b7,b5,())))
 (cond ((decide ((b5.length:Int)>0)))
  (some (((((),CI,(),(),(),CP,(),(),(),(),BU,()),4,()),()),(b0,b1,b2,b3,b4,(),b6,b7,b5,())))
 ((kQ u1.1.1 (b3.length:Int)).bind fun u5=>
 some (((((),CI,(),(),(),CP,(),(),(),(),BU,()),0,()),()),(b0,b1,b2,b3,b4,(),b6,b7,[(u5.1.1.1,u5.1.1.2.1,u5.2.1,u5.2.2.1,u5.1.1.2.2.2.2.1,u5.2.2.2.1,())],())))))
abbrev nW:Type:=ADW×ADS
def Ss(p0:ABR)(p1:Int):Option nW:=
 (Gg (p0.1,p0.2.1,p0.2.2.1,())).bind fun u1=>
 cond (!u1.1.1)
  (some (((((),(),0,()),false,()),()),([],[],())))
 ((Ox (p0.1,p0.2.1,p0.2.2.1,())).bind fun u2=>
 cond (!u2.1.1.2.1)
  ((Eh (p0.1,p0.2.1,p0.2.2.1,())).bind fun u3=>
  some (((((),(),u3.1.1.2.2.1,()),false,()),()),(u3.2.1,u3.2.2.1,())))
 ((B9 p1 0 30).bind fun u4=>
 cond (!u4.1.1)
  ((Eh (p0.1,p0.2.1,p0.2.2.1,())).bind fun u5=>
  some (((((),(),u5.1.1.2.2.1,()),false,()),()),(u5.2.1,u5.2.2.1,())))
 ((UT u2.1.1.1.2.2.1 p1).bind fun u6=>
 some (((((),(),u6.1.1,()),true,()),()),(u2.2.1,u2.2.2.1,())))))
abbrev Qy:Type:=ABW×AEU
abbrev US:Type:=Int->Int->AAa->AAa->Int->AAa->Option Qy
def P9(R3:US)(t1 t6:Int)(AQ AF:AAa)(Ah:Int)(b1:AAa):Option Qy:=
 cond ((decide (t6<(AQ.length:Int))))
  ((Gg (AQ,AF,Ah,())).bind fun u2=>
  cond (u2.1.1)
   (if(0:Int)<=t6/\t6<(AQ.length:Int)then(
   (Cl ((AQ.getD (t6.toNat) (0,0,false,[],())).1)).bind fun u4=>
   cond (u4.1.1==t1)
    (if(0:Int)<=t6/\t6<(AQ.length:Int)then(
    if b1.length+1<=Cm then(
    R3 t1 (AW (t6+1)) AQ AF Ah (b1++[((AQ.getD (t6.toNat) (0,0,false,[],())).1,(AQ.getD (t6.toNat) (0,0,false,[],())).2.1,(AQ.getD (t6.toNat) (0,0,false,[],())).2.2.1,(AQ.getD (t6.toNat) (0,0,false,[],())).2.2.2.1,())]))else none)else none)
   (R3 t1 (AW (t6+1)) AQ AF Ah b1))else none)
  (some (((),()),(b1,()))))
 (some (((),()),(b1,())))
def JJ:Nat->US
 |0=>fun _ _ _ _ _ _=>none
 |n+1=>P9 (JJ n)
def Wv(R3:US)(p0:ABR)(p1:Int):Option Qy:=
 R3 p1 0 p0.1 p0.2.1 p0.2.2.1 []
def VI(p0:ABR)(p1:Int):Option Qy:=Wv (JJ AX) p0 p1
abbrev Qc:Type:=AD9×ADU
abbrev UP:Type:=AAa->Int->List Int->Int->Int->Int->List Int->AAa->Bool->List AAN->Int->Int->Bool->List Int->AAa->List AAN->Int->Int->Bool->List Int->AAa->List AAN->Option Qc
def Wq(R6:UP)(t3:AAa)(t11:Int)(AQ:AAN)(AF B7 Ba:Int)(CO:AAN)(EX:AAa)(Hu:Bool)(Fi:List AAN)(Wb fc:Int)(AHL:Bool)(b3:AAN)(b4:AAa)(b5:List AAN)(wV wH:Int)(wG:Bool)(b7:AAN)(b8:AAa)(b9:List AAN):Option Qc:=
 cond ((decide (t11<(t3.length:Int))))
  (if(0:Int)<=t11/\t11<(t3.length:Int)then(
  (Cl ((t3.getD (t11.toNat) (0,0,false,[],())).1)).bind fun u6=>
  cond (u6.1.1==Ba)
   (if(0:Int)<=t11/\t11<(t3.length:Int)then(
   (Rk b8 ((t3.getD (t11.toNat) (0,0,false,[],())).1,(t3.getD (t11.toNat) (0,0,false,[],())).2.1,(t3.getD (t11.toNat) (0,0,false,[],())).2.2.1,(t3.getD (t11.toNat) (0,0,false,[],())).2.2.2.1,())).bind fun u7=>
   R6 t3 (AW (t11+1)) AQ AF B7 Ba CO EX Hu Fi Wb fc AHL b3 b4 b5 wV wH wG b7 u7.2.1 b9)else none)
  (R6 t3 (AW (t11+1)) AQ AF B7 Ba CO EX Hu Fi Wb fc AHL b3 b4 b5 wV wH wG b7 b8 b9))else none)
 (cond (Hu)
  ((EI (B7,Ba,CO,EX,Hu,Fi,())).bind fun u8=>
  some ((((u8.1.1.1,u8.1.1.2.1,(),(),u8.1.1.2.2.2.2.1,(),()),false,()),()),(u8.2.1,u8.2.2.1,u8.2.2.2.1,())))
 ((It (AQ,AF,()) (wV,wH,b7,b8,wG,b9,())).bind fun u9=>
 cond (!u9.1.1)
  ((EI (B7,Ba,CO,EX,Hu,Fi,())).bind fun FE=>
  some ((((FE.1.1.1,FE.1.1.2.1,(),(),FE.1.1.2.2.2.2.1,(),()),false,()),()),(FE.2.1,FE.2.2.1,FE.2.2.2.1,())))
 (some ((((wV,wH,(),(),wG,(),()),true,()),()),(b7,b8,b9,())))))
def LP:Nat->UP
 |0=>fun _ _ _ _ _ _ _ _ _ _ _ _ _ _ _ _ _ _ _ _ _ _=>none
 |n+1=>Wq (LP n)
def W_(R6:UP)(p0:AAb)(p1:AAu)(p2:Int)(p3:AAa):Option Qc:=
 (It (p0.1,p0.2.1,()) (p1.1,p1.2.1,p1.2.2.1,p1.2.2.2.1,p1.2.2.2.2.1,p1.2.2.2.2.2.1,())).bind fun u1=>
 cond (!u1.1.1)
  (some ((((0,0,(),(),false,(),()),false,()),()),([],[],[],())))
 ((EI (p1.1,p1.2.1,p1.2.2.1,p1.2.2.2.1,p1.2.2.2.2.1,p1.2.2.2.2.2.1,())).bind fun u2=>
 (RP u2.2.1 p2).bind fun u3=>
 R6 p3 0 p0.1 p0.2.1 p1.1 p1.2.1 p1.2.2.1 p1.2.2.2.1 p1.2.2.2.2.1 p1.2.2.2.2.2.1 0 0 false [] [] [] u2.1.1.1 u2.1.1.2.1 u2.1.1.2.2.2.2.1 u3.2.1 u2.2.2.1 u2.2.2.2.1)
def VN(p0:AAb)(p1:AAu)(p2:Int)(p3:AAa):Option Qc:=W_ (LP AX) p0 p1 p2 p3
abbrev sx:Type:=AC7×ADG
def Xq(CI CP:Int)(BU:Bool)(p1:ABX)(b0:AAN)(b1:AAT)(b2:AAN)(b3:AAU)(b4:AAX)(b5:AAY)(b6:AAV)(b7:AAW):Option sx:=
 cond (((b5.length:Int)==0))
  (some (((((),CI,(),(),(),CP,(),(),(),(),BU,()),2,()),()),(b0,b1,b2,b3,b4,b5,b6,b7,())))
 (if(0:Int)<=(0:Int)/\(0:Int)<(b5.length:Int)then(
 (HT (b0,CI,b1,b2,b3,CP,b4,b5,b6,b7,BU,()) p1.2.1).bind fun u2=>
 cond (u2.1.1 !=0)
  (some (((((),CI,(),(),(),CP,(),(),(),(),BU,()),u2.1.1,()),()),(b0,b1,b2,b3,b4,b5,b6,b7,())))
 ((DT (b3,CP,()) ((b5.getD 0 (0,0,[],[],false,[],())).2.1)).bind fun u4=>
 (DG u4.2.1 p1.2.1).bind fun u5=>
 cond (!u5.1.1)
  (some (((((),CI,(),(),(),CP,(),(),(),(),BU,()),2,()),()),(b0,b1,b2,b3,b4,b5,b6,b7,())))
 (if(0:Int)<=p1.2.1/\p1.2.1<(b1.length:Int)then(
 (Ss ((b1.getD (p1.2.1.toNat) ([],[],0,())).1,(b1.getD (p1.2.1.toNat) ([],[],0,())).2.1,(b1.getD (p1.2.1.toNat) ([],[],0,())).2.2.1,()) (AW (((b5.getD 0 (0,0,[],[],false,[],())).1)-1))).bind fun u7=>
 (VI (u7.2.1,u7.2.2.1,u7.1.1.1.2.2.1,()) ((b5.getD 0 (0,0,[],[],false,[],())).2.1)).bind fun u9=>
 (VN (b0,CI,()) ((b5.getD 0 (0,0,[],[],false,[],())).1,(b5.getD 0 (0,0,[],[],false,[],())).2.1,(b5.getD 0 (0,0,[],[],false,[],())).2.2.1,(b5.getD 0 (0,0,[],[],false,[],())).2.2.2.1,(b5.getD 0 (0,0,[],[],false,[],())).2.2.2.2.1,(b5.getD 0 (0,0,[],[],false,[],())).2.2.2.2.2.1,()) p1.2.1 u9.2.1).bind fun FE=>
 cond (!u7.1.1.2.1)
  (some (((((),CI,(),(),(),CP,(),(),(),(),BU,()),4,()),()),(b0,b1,b2,b3,b4,b5,b6,b7,())))
 (cond (!FE.1.1.2.1)
  (some (((((),CI,(),(),(),CP,(),(),(),(),BU,()),4,()),()),(b0,b1,b2,b3,b4,b5,b6,b7,())))
 (if(0:Int)<=p1.2.1/\p1.2.1<(b1.length:Int)then(
 if(0:Int)<=(0:Int)/\(0:Int)<(b5.length:Int)then(
 some (((((),CI,(),(),(),CP,(),(),(),(),BU,()),0,()),()),(b0,(b1.set (p1.2.1.toNat) (u7.2.1,u7.2.2.1,u7.1.1.1.2.2.1,())),b2,b3,b4,(b5.set 0 (FE.1.1.1.1,FE.1.1.1.2.1,FE.2.1,FE.2.2.1,FE.1.1.1.2.2.2.2.1,FE.2.2.2.1,())),b6,b7,())))else none)else none)))else none)))else none)
abbrev uQ:Type:=ABW×ACE
def Kl(p0 p1:AAN):Option uQ:=
 (Iy p0 p1).bind fun u1=>
 (Iy p0 u1.2.1).bind fun u2=>
 some (((),()),(u2.2.1,()))
abbrev uU:Type:=AAg×Unit
def Kk(p0:AAb)(p1 p2:AAN):Option uU:=
 (HI (p0.1,p0.2.1,()) p1).bind fun u1=>
 cond (!u1.1.1)
  (some ((false,()),()))
 ((Gi (p0.1,p0.2.1,()) p2).bind fun u2=>
 cond (!u2.1.1)
  (some ((false,()),()))
 ((Iy p2 p1).bind fun u3=>
 cond (decide ((u3.2.1.length:Int)>0))
  (some ((false,()),()))
 ((Iy p1 p2).bind fun u5=>
 (V1 (p0.1,p0.2.1,()) u5.2.1).bind fun u6=>
 some (((decide (u6.1.1<p0.2.1)),()),()))))
abbrev Qa:Type:=AD9×ADU
abbrev UY:Type:=Int->Int->Int->List Int->AAa->Bool->List AAN->Int->Int->Bool->List Int->AAa->List AAN->Int->Int->Bool->List Int->AAa->List AAN->Option Qa
def Ww(R8:UY)(t9 AQ AF:Int)(Ah:AAN)(BA:AAa)(BH:Bool)(AM:List AAN)(B7 Ba:Int)(Hu:Bool)(b2:AAN)(b3:AAa)(b4:List AAN)(AFL AE4:Int)(AGY:Bool)(b6:AAN)(b7:AAa)(b8:List AAN):Option Qa:=
 (Rt (AQ,AF,Ah,BA,BH,AM,())).bind fun u5=>
 cond (decide (t9<u5.1.1))
  (if b8.length+1<=Cm then(
  R8 (AW (t9+1)) AQ AF Ah BA BH AM B7 Ba Hu b2 b3 b4 AFL AE4 AGY b6 b7 (b8++[[]]))else none)
 (some ((((AFL,AE4,(),(),AGY,(),()),true,()),()),(b6,b7,b8,())))
def Lg:Nat->UY
 |0=>fun _ _ _ _ _ _ _ _ _ _ _ _ _ _ _ _ _ _ _=>none
 |n+1=>Ww (Lg n)
def Wn(R8:UY)(p0:AAb)(p1:AAu)(p2:AAN):Option Qa:=
 (It (p0.1,p0.2.1,()) (p1.1,p1.2.1,p1.2.2.1,p1.2.2.2.1,p1.2.2.2.2.1,p1.2.2.2.2.2.1,())).bind fun u1=>
 cond (!u1.1.1)
  (some ((((0,0,(),(),false,(),()),false,()),()),([],[],[],())))
 ((EI (p1.1,p1.2.1,p1.2.2.1,p1.2.2.2.1,p1.2.2.2.2.1,p1.2.2.2.2.2.1,())).bind fun u2=>
 cond (p1.2.2.2.2.1)
  (some ((((u2.1.1.1,u2.1.1.2.1,(),(),u2.1.1.2.2.2.2.1,(),()),false,()),()),(u2.2.1,u2.2.2.1,u2.2.2.2.1,())))
 ((Kl p1.2.2.1 p2).bind fun u3=>
 (Kk (p0.1,p0.2.1,()) p2 u3.2.1).bind fun u4=>
 cond (!u4.1.1)
  (some ((((u2.1.1.1,u2.1.1.2.1,(),(),u2.1.1.2.2.2.2.1,(),()),false,()),()),(u2.2.1,u2.2.2.1,u2.2.2.2.1,())))
 (R8 0 p1.1 p1.2.1 p1.2.2.1 p1.2.2.2.1 p1.2.2.2.2.1 p1.2.2.2.2.2.1 0 0 false [] [] [] u2.1.1.1 u2.1.1.2.1 true u2.2.1 u2.2.2.1 u2.2.2.2.1)))
def VV(p0:AAb)(p1:AAu)(p2:AAN):Option Qa:=Wn (Lg AX) p0 p1 p2
abbrev rP:Type:=AC7×ADG
def Xr(CI CP:Int)(BU:Bool)(b0:AAN)(b1:AAT)(b2:AAN)(b3:AAU)(b4:AAX)(b5:AAY)(b6:AAV)(b7:AAW):Option rP:=
 cond (((b5.length:Int)==0))
  (some (((((),CI,(),(),(),CP,(),(),(),(),BU,()),2,()),()),(b0,b1,b2,b3,b4,b5,b6,b7,())))
 (if(0:Int)<=(0:Int)/\(0:Int)<(b5.length:Int)then(
 if(0:Int)<=(0:Int)/\(0:Int)<(b5.length:Int)then(
 (DT (b3,CP,()) ((b5.getD 0 (0,0,[],[],false,[],())).2.1)).bind fun u3=>
 (VV (b0,CI,()) ((b5.getD 0 (0,0,[],[],false,[],())).1,(b5.getD 0 (0,0,[],[],false,[],())).2.1,(b5.getD 0 (0,0,[],[],false,[],())).2.2.1,(b5.getD 0 (0,0,[],[],false,[],())).2.2.2.1,(b5.getD 0 (0,0,[],[],false,[],())).2.2.2.2.1,(b5.getD 0 (0,0,[],[],false,[],())).2.2.2.2.2.1,()) u3.2.1).bind fun u4=>
 cond (!u4.1.1.2.1)
  (some (((((),CI,(),(),(),CP,(),(),(),(),BU,()),4,()),()),(b0,b1,b2,b3,b4,b5,b6,b7,())))
 (if(0:Int)<=(0:Int)/\(0:Int)<(b5.length:Int)then(
 some (((((),CI,(),(),(),CP,(),(),(),(),BU,()),0,()),()),(b0,b1,b2,b3,b4,(b5.set 0 (u4.1.1.1.1,u4.1.1.1.2.1,u4.2.1,u4.2.2.1,u4.1.1.1.2.2.2.2.1,u4.2.2.2.1,())),b6,b7,())))else none))else none)else none)
abbrev tb:Type:=AC7×ADG
def Zv(CI CP:Int)(BU:Bool)(p1:ABX)(b0:AAN)(b1:AAT)(b2:AAN)(b3:AAU)(b4:AAX)(b5:AAY)(b6:AAV)(b7:AAW):Option tb:=
 cond (((b5.length:Int)==0))
  (some (((((),CI,(),(),(),CP,(),(),(),(),BU,()),2,()),()),(b0,b1,b2,b3,b4,b5,b6,b7,())))
 (if(0:Int)<=(0:Int)/\(0:Int)<(b5.length:Int)then(
 (El ((b5.getD 0 (0,0,[],[],false,[],())).1,(b5.getD 0 (0,0,[],[],false,[],())).2.1,(b5.getD 0 (0,0,[],[],false,[],())).2.2.1,(b5.getD 0 (0,0,[],[],false,[],())).2.2.2.1,(b5.getD 0 (0,0,[],[],false,[],())).2.2.2.2.1,(b5.getD 0 (0,0,[],[],false,[],())).2.2.2.2.2.1,()) p1.2.2.1).bind fun u2=>
 cond (!u2.1.1.2.1)
  (some (((((),CI,(),(),(),CP,(),(),(),(),BU,()),2,()),()),(b0,b1,b2,b3,b4,b5,b6,b7,())))
 ((HT (b0,CI,b1,b2,b3,CP,b4,b5,b6,b7,BU,()) p1.2.2.2.1).bind fun u3=>
 cond (u3.1.1 !=0)
  (some (((((),CI,(),(),(),CP,(),(),(),(),BU,()),u3.1.1,()),()),(b0,b1,b2,b3,b4,b5,b6,b7,())))
 (if(0:Int)<=(0:Int)/\(0:Int)<(b5.length:Int)then(
 (DT (b3,CP,()) ((b5.getD 0 (0,0,[],[],false,[],())).2.1)).bind fun u5=>
 (DG u5.2.1 p1.2.2.2.1).bind fun u6=>
 cond (!u6.1.1)
  (some (((((),CI,(),(),(),CP,(),(),(),(),BU,()),2,()),()),(b0,b1,b2,b3,b4,b5,b6,b7,())))
 (if(0:Int)<=p1.2.2.2.1/\p1.2.2.2.1<(b1.length:Int)then(
 (QQ ((b1.getD (p1.2.2.2.1.toNat) ([],[],0,())).1,(b1.getD (p1.2.2.2.1.toNat) ([],[],0,())).2.1,(b1.getD (p1.2.2.2.1.toNat) ([],[],0,())).2.2.1,()) (u2.1.1.1.1,u2.1.1.1.2.1,u2.1.1.1.2.2.1,u2.1.1.1.2.2.2.1,())).bind fun u7=>
 cond (!u7.1.1.2.1)
  (some (((((),CI,(),(),(),CP,(),(),(),(),BU,()),4,()),()),(b0,b1,b2,b3,b4,b5,b6,b7,())))
 (if(0:Int)<=p1.2.2.2.1/\p1.2.2.2.1<(b1.length:Int)then(
 some (((((),CI,(),(),(),CP,(),(),(),(),BU,()),0,()),()),(b0,(b1.set (p1.2.2.2.1.toNat) (u7.2.1,u7.2.2.1,u7.1.1.1.2.2.1,())),b2,b3,b4,b5,b6,b7,())))else none))else none))else none)))else none)
abbrev Pr:Type:=AAg×Unit
abbrev TX:Type:=Int->List Int->Int->Int->Int->List Int->AAa->Bool->List AAN->Option Pr
def Vp(R4:TX)(t5:Int)(AQ:AAN)(AF B7 Ba:Int)(CO:AAN)(EX:AAa)(Hu:Bool)(Fi:List AAN):Option Pr:=
 cond ((decide (t5<(Fi.length:Int))))
  (if(0:Int)<=t5/\t5<(Fi.length:Int)then(
  (HI (AQ,AF,()) (Fi.getD (t5.toNat) [])).bind fun u3=>
  cond (!u3.1.1)
   (some ((false,()),()))
  (R4 (AW (t5+1)) AQ AF B7 Ba CO EX Hu Fi))else none)
 (some ((true,()),()))
def Kn:Nat->TX
 |0=>fun _ _ _ _ _ _ _ _ _=>none
 |n+1=>Vp (Kn n)
def Vf(R4:TX)(p0:AAb)(p1:AAu):Option Pr:=
 (It (p0.1,p0.2.1,()) (p1.1,p1.2.1,p1.2.2.1,p1.2.2.2.1,p1.2.2.2.2.1,p1.2.2.2.2.2.1,())).bind fun u1=>
 cond (!u1.1.1)
  (some ((false,()),()))
 (cond (!p1.2.2.2.2.1)
  (some ((false,()),()))
 (R4 0 p0.1 p0.2.1 p1.1 p1.2.1 p1.2.2.1 p1.2.2.2.1 p1.2.2.2.2.1 p1.2.2.2.2.2.1))
def SR(p0:AAb)(p1:AAu):Option Pr:=Vf (Kn AX) p0 p1
abbrev pz:Type:=AEb×AD2
def U4(p0:AAb)(p1:AA6)(p2 p3:Int):Option pz:=
 (Mh (p0.1,p0.2.1,()) (p1.1,p1.2.1,())).bind fun u1=>
 cond (!u1.1.1)
  (some (((((),0,()),false,()),()),([],())))
 ((F_ (p1.1,p1.2.1,())).bind fun u2=>
 (LZ (p1.1,p1.2.1,())).bind fun u3=>
 cond ((p2 !=(p1.1.length:Int)))
  (some (((((),u2.1.1.2.1,()),false,()),()),(u2.2.1,())))
 (cond (u3.1.1==0)
  (some (((((),u2.1.1.2.1,()),false,()),()),(u2.2.1,())))
 (cond (p2==u3.1.1)
  (some (((((),u2.1.1.2.1,()),false,()),()),(u2.2.1,())))
 ((B9 p3 0 60).bind fun u5=>
 cond (!u5.1.1)
  (some (((((),u2.1.1.2.1,()),false,()),()),(u2.2.1,())))
 (if(0:Int)<=AW (u3.1.1-1)/\AW (u3.1.1-1)<(u2.2.1.length:Int)then(
 let x6:AAU:=(u2.2.1.set ((AW (u3.1.1-1)).toNat) ((u2.2.1.getD ((AW (u3.1.1-1)).toNat) ([],false,0,())).1,true,(u2.2.1.getD ((AW (u3.1.1-1)).toNat) ([],false,0,())).2.2.1,()))
 if(0:Int)<=AW (u3.1.1-1)/\AW (u3.1.1-1)<(x6.length:Int)then(
 some (((((),u2.1.1.2.1,()),true,()),()),((x6.set ((AW (u3.1.1-1)).toNat) ((x6.getD ((AW (u3.1.1-1)).toNat) ([],false,0,())).1,(x6.getD ((AW (u3.1.1-1)).toNat) ([],false,0,())).2.1,p3,())),())))else none)else none)))))
abbrev eI:Type:=AC7×(List Int×AAT×List Int×Unit×AAX×Unit×AAV×AAW×AAU×AAY×Unit)
def Uv(CI CP:Int)(BU:Bool)(b0:AAN)(b1:AAT)(b2:AAN)(b3:AAU)(b4:AAX)(b5:AAY)(b6:AAV)(b7:AAW):Option eI:=
 cond (((b5.length:Int)==0))
  (some (((((),CI,(),(),(),CP,(),(),(),(),BU,()),2,()),()),(b0,b1,b2,(),b4,(),b6,b7,b3,b5,())))
 (if(0:Int)<=(0:Int)/\(0:Int)<(b5.length:Int)then(
 (SR (b0,CI,()) ((b5.getD 0 (0,0,[],[],false,[],())).1,(b5.getD 0 (0,0,[],[],false,[],())).2.1,(b5.getD 0 (0,0,[],[],false,[],())).2.2.1,(b5.getD 0 (0,0,[],[],false,[],())).2.2.2.1,(b5.getD 0 (0,0,[],[],false,[],())).2.2.2.2.1,(b5.getD 0 (0,0,[],[],false,[],())).2.2.2.2.2.1,())).bind fun u2=>
 cond (!u2.1.1)
  (some (((((),CI,(),(),(),CP,(),(),(),(),BU,()),5,()),()),(b0,b1,b2,(),b4,(),b6,b7,b3,b5,())))
 (if(0:Int)<=(0:Int)/\(0:Int)<(b5.length:Int)then(
 if(0:Int)<=(0:Int)/\(0:Int)<(b5.length:Int)then(
 (U4 (b0,CI,()) (b3,CP,()) ((b5.getD 0 (0,0,[],[],false,[],())).1) (((b5.getD 0 (0,0,[],[],false,[],())).2.2.2.2.2.1).length:Int)).bind fun u5=>
 cond (!u5.1.1.2.1)
  (some (((((),CI,(),(),(),CP,(),(),(),(),BU,()),4,()),()),(b0,b1,b2,(),b4,(),b6,b7,b3,b5,())))
 (some (((((),CI,(),(),(),u5.1.1.1.2.1,(),(),(),(),BU,()),0,()),()),(b0,b1,b2,(),b4,(),b6,b7,u5.2.1,[],()))))else none)else none))else none)
abbrev rq:Type:=AEb×AD2
def XI(p0:AAb)(p1:AA6)(p2:Int):Option rq:=
 (Mh (p0.1,p0.2.1,()) (p1.1,p1.2.1,())).bind fun u1=>
 cond (!u1.1.1)
  (some (((((),0,()),false,()),()),([],())))
 ((F_ (p1.1,p1.2.1,())).bind fun u2=>
 (E9 p2).bind fun u3=>
 cond (!u3.1.1)
  (some (((((),u2.1.1.2.1,()),false,()),()),(u2.2.1,())))
 ((Cl p2).bind fun u4=>
 cond ((decide (u4.1.1>(p1.1.length:Int))))
  (some (((((),u2.1.1.2.1,()),false,()),()),(u2.2.1,())))
 ((UT u2.1.1.2.1 p2).bind fun u6=>
 some (((((),u6.1.1,()),true,()),()),(u2.2.1,())))))
abbrev N8:Type:=AAv×Unit
abbrev RR:Type:=Int->Int->ABI->Option N8
def To(R2:RR)(t3 AQ:Int)(AF:ABI):Option N8:=
 cond ((decide (t3<(AF.length:Int))))
  (if(0:Int)<=t3/\t3<(AF.length:Int)then(
  cond (((AF.getD (t3.toNat) ([],[],false,())).2.2.1))
   (R2 (AW (t3+1)) AQ AF)
  (some ((t3,()),())))else none)
 (some ((t3,()),()))
def Jp:Nat->RR
 |0=>fun _ _ _=>none
 |n+1=>To (Jp n)
def ed(R2:RR)(p0:ABL):Option N8:=
 R2 0 p0.1 p0.2.1
def WO(p0:ABL):Option N8:=ed (Jp AX) p0
abbrev VB:Type:=AAv×Unit
abbrev X6:Type:=Int->Int->List Int->Int->AAT->List Int->AAU->Int->AAX->AAY->AAV->AAW->Bool->Option VB
def aX(R2:X6)(t1 t5:Int)(AQ:AAN)(AF:Int)(Ah:AAT)(BA:AAN)(BH:AAU)(AM:Int)(Bj:AAX)(Bi:AAY)(BM:AAV)(Bm:AAW)(AG:Bool):Option VB:=
 cond ((decide (t5<(Bj.length:Int))))
  (if(0:Int)<=t5/\t5<(Bj.length:Int)then(
  cond (((Bj.getD (t5.toNat) (0,[],())).1)==t1)
   (if(0:Int)<=t5/\t5<(Bj.length:Int)then(
   (WO ((Bj.getD (t5.toNat) (0,[],())).1,(Bj.getD (t5.toNat) (0,[],())).2.1,())).bind fun u3=>
   some ((u3.1.1,()),()))else none)
  (R2 t1 (AW (t5+1)) AQ AF Ah BA BH AM Bj Bi BM Bm AG))else none)
 (some ((0,()),()))
def OT:Nat->X6
 |0=>fun _ _ _ _ _ _ _ _ _ _ _ _ _=>none
 |n+1=>aX (OT n)
def lD(R2:X6)(p0:AAi)(p1:Int):Option VB:=
 R2 p1 0 p0.1 p0.2.1 p0.2.2.1 p0.2.2.2.1 p0.2.2.2.2.1 p0.2.2.2.2.2.1 p0.2.2.2.2.2.2.1 p0.2.2.2.2.2.2.2.1 p0.2.2.2.2.2.2.2.2.1 p0.2.2.2.2.2.2.2.2.2.1 p0.2.2.2.2.2.2.2.2.2.2.1
def fz(p0:AAi)(p1:Int):Option VB:=lD (OT AX) p0 p1
abbrev Nz:Type:=ABW×(ACU×Unit)
abbrev Q7:Type:=Int->List Int->Int->AAT->List Int->AAU->Int->AAX->AAY->AAV->AAW->Bool->Int->Int->ACH->ACU->List Int->Option Nz
def T_(R4:Q7)(t9:Int)(AQ:AAN)(AF:Int)(Ah:AAT)(BA:AAN)(BH:AAU)(AM:Int)(Bj:AAX)(Bi:AAY)(BM:AAV)(Bm:AAW)(AG:Bool)(B7 Ba:Int)(CO:ACH)(b2:ACU)(b3:AAN):Option Nz:=
 cond ((decide (t9<(b3.length:Int))))
  (if(0:Int)<=t9/\t9<(b3.length:Int)then(
  (HT (AQ,AF,Ah,BA,BH,AM,Bj,Bi,BM,Bm,AG,()) (b3.getD (t9.toNat) 0)).bind fun u4=>
  cond (u4.1.1 !=0)
   (R4 (AW (t9+1)) AQ AF Ah BA BH AM Bj Bi BM Bm AG B7 Ba CO b2 b3)
  (if(0:Int)<=t9/\t9<(b3.length:Int)then(
  let x5:Int:=(b3.getD (t9.toNat) 0)
  if(0:Int)<=x5/\x5<(Ah.length:Int)then(
  (De B7 Ba).bind fun u6=>
  (HF ((Ah.getD (x5.toNat) ([],[],0,())).1) u6.1.1).bind fun u7=>
  if(0:Int)<=t9/\t9<(b3.length:Int)then(
  if b2.length+1<=Cm then(
  R4 (AW (t9+1)) AQ AF Ah BA BH AM Bj Bi BM Bm AG B7 Ba CO (b2++[((b3.getD (t9.toNat) 0),u7.1.1.2.1,u7.1.1.1.1,u7.1.1.1.2.1,u7.1.1.1.2.2.1,u7.1.1.1.2.2.2.1,())]) b3)else none)else none)else none)else none))else none)
 (some (((),()),(b2,())))
def Jm:Nat->Q7
 |0=>fun _ _ _ _ _ _ _ _ _ _ _ _ _ _ _ _ _=>none
 |n+1=>T_ (Jm n)
def Tt(R4:Q7)(p0:AAi)(p1:ACD)(p2:Int):Option Nz:=
 (On p2).bind fun u1=>
 R4 0 p0.1 p0.2.1 p0.2.2.1 p0.2.2.2.1 p0.2.2.2.2.1 p0.2.2.2.2.2.1 p0.2.2.2.2.2.2.1 p0.2.2.2.2.2.2.2.1 p0.2.2.2.2.2.2.2.2.1 p0.2.2.2.2.2.2.2.2.2.1 p0.2.2.2.2.2.2.2.2.2.2.1 p1.1 p1.2.1 p1.2.2.1 [] u1.2.1
def Qj(p0:AAi)(p1:ACD)(p2:Int):Option Nz:=Tt (Jm AX) p0 p1 p2
abbrev Qo:Type:=((Unit×Bool×Unit)×Unit)×ACE
abbrev UN:Type:=ACU->Int->List Int->Int->List Int->Option Qo
def XC(R3:UN)(t1:ACU)(t7:Int)(AQ:AAN)(AF:Int)(b1:AAN):Option Qo:=
 cond ((decide (t7<(t1.length:Int))))
  (if(0:Int)<=t7/\t7<(t1.length:Int)then(
  if b1.length+1<=Cm then(
  R3 t1 (AW (t7+1)) AQ AF (b1++[((t1.getD (t7.toNat) (0,false,0,0,false,[],())).1)]))else none)else none)
 ((Gi (AQ,AF,()) b1).bind fun u3=>
 some ((((),u3.1.1,()),()),(b1,())))
def Lh:Nat->UN
 |0=>fun _ _ _ _ _=>none
 |n+1=>XC (Lh n)
def hU(R3:UN)(p0:AAb)(p1:ACU):Option Qo:=
 R3 p1 0 p0.1 p0.2.1 []
def aw(p0:AAb)(p1:ACU):Option Qo:=hU (Lh AX) p0 p1
abbrev sn:Type:=AEX×AEJ
def Io(p0:ACD)(p1:ADa)(p2 p3:Int):Option sn:=
 (CQ (p0.1,p0.2.1,p0.2.2.1,())).bind fun u1=>
 if u1.2.1.length+1<=Cm then(
 some (((p2,p3,(),()),()),((u1.2.1++[(p1.1,p1.2.1,p1.2.2.1,())]),())))else none
abbrev TG:Type:=(ADa×Unit)×Unit
abbrev We:Type:=List Int->Int->ACU->Bool->Int->Int->Int->List UInt8->Int->Int->Bool->List UInt8->Option TG
def ZH(R4:We)(t0:AAN)(t1:Int)(t2:ACU)(t8:Bool)(t9 AQ AF:Int)(Ah:AAZ)(B7 Ba:Int)(CO:Bool)(EX:AAZ):Option TG:=
 cond ((decide (t9<(t2.length:Int))))
  (if(0:Int)<=t9/\t9<(t2.length:Int)then(
  cond (!((t2.getD (t9.toNat) (0,false,0,0,false,[],())).2.1))
   (R4 t0 t1 t2 t8 (AW (t9+1)) AQ AF Ah B7 Ba CO EX)
  ((DG t0 ((t2.getD (t9.toNat) (0,false,0,0,false,[],())).1)).bind fun u4=>
  cond (!u4.1.1)
   (R4 t0 t1 t2 t8 (AW (t9+1)) AQ AF Ah B7 Ba CO EX)
  ((Md ((t2.getD (t9.toNat) (0,false,0,0,false,[],())).2.2.1,(t2.getD (t9.toNat) (0,false,0,0,false,[],())).2.2.2.1,(t2.getD (t9.toNat) (0,false,0,0,false,[],())).2.2.2.2.1,(t2.getD (t9.toNat) (0,false,0,0,false,[],())).2.2.2.2.2.1,())).bind fun u5=>
  cond (!u5.1.1)
   (R4 t0 t1 t2 t8 (AW (t9+1)) AQ AF Ah B7 Ba CO EX)
  (cond (((t2.getD (t9.toNat) (0,false,0,0,false,[],())).2.2.1) !=t1)
   (R4 t0 t1 t2 t8 (AW (t9+1)) AQ AF Ah B7 Ba CO EX)
  (cond (!t8)
   ((Rn ((t2.getD (t9.toNat) (0,false,0,0,false,[],())).2.2.1,(t2.getD (t9.toNat) (0,false,0,0,false,[],())).2.2.2.1,(t2.getD (t9.toNat) (0,false,0,0,false,[],())).2.2.2.2.1,(t2.getD (t9.toNat) (0,false,0,0,false,[],())).2.2.2.2.2.1,()) ((t2.getD (t9.toNat) (0,false,0,0,false,[],())).2.2.1,(t2.getD (t9.toNat) (0,false,0,0,false,[],())).2.2.2.1,(t2.getD (t9.toNat) (0,false,0,0,false,[],())).2.2.2.2.1,(t2.getD (t9.toNat) (0,false,0,0,false,[],())).2.2.2.2.2.1,())).bind fun u7=>
   R4 t0 t1 t2 true (AW (t9+1)) AQ AF Ah u7.1.1.1 u7.1.1.2.1 u7.1.1.2.2.1 u7.1.1.2.2.2.1)
  ((Rn (B7,Ba,CO,EX,()) ((t2.getD (t9.toNat) (0,false,0,0,false,[],())).2.2.1,(t2.getD (t9.toNat) (0,false,0,0,false,[],())).2.2.2.1,(t2.getD (t9.toNat) (0,false,0,0,false,[],())).2.2.2.2.1,(t2.getD (t9.toNat) (0,false,0,0,false,[],())).2.2.2.2.2.1,())).bind fun u8=>
  R4 t0 t1 t2 true (AW (t9+1)) AQ AF Ah u8.1.1.1 u8.1.1.2.1 u8.1.1.2.2.1 u8.1.1.2.2.2.1))))))else none)
 (cond (!t8)
  (some (((3,t1,[],()),()),()))
 (cond (CO)
  (some (((2,t1,[],()),()),()))
 (some (((1,t1,EX,()),()),()))))
def Mq:Nat->We
 |0=>fun _ _ _ _ _ _ _ _ _ _ _ _=>none
 |n+1=>ZH (Mq n)
def ia(R4:We)(p0:AAN)(p1:Int)(p2:ACU):Option TG:=
 R4 p0 p1 p2 false 0 0 0 [] 0 0 false []
def MX(p0:AAN)(p1:Int)(p2:ACU):Option TG:=ia (Mq AX) p0 p1 p2
abbrev Zu:Type:=(AGf×Unit)×AEJ
def Qp(p0:AAb)(p1:AA6)(p2:Int)(p3:ACD)(p4:ACU):Option Zu:=
 (aw (p0.1,p0.2.1,()) p4).bind fun u1=>
 (Mh (p0.1,p0.2.1,()) (p1.1,p1.2.1,())).bind fun u2=>
 cond (!u2.1.1)
  (some ((((0,0,(),()),1,()),()),([],())))
 ((M6 (p3.1,p3.2.1,p3.2.2.1,())).bind fun u3=>
 cond (!u3.1.1)
  (some ((((0,0,(),()),1,()),()),([],())))
 (cond (!u1.1.1.2.1)
  (some ((((0,0,(),()),1,()),()),([],())))
 (cond ((decide (p3.1>(p1.1.length:Int))))
  ((CQ (p3.1,p3.2.1,p3.2.2.1,())).bind fun u5=>
  some ((((u5.1.1.1,u5.1.1.2.1,(),()),2,()),()),(u5.2.1,())))
 (cond ((p3.2.2.1.length:Int)==120)
  ((CQ (p3.1,p3.2.1,p3.2.2.1,())).bind fun u7=>
  some ((((u7.1.1.1,u7.1.1.2.1,(),()),2,()),()),(u7.2.1,())))
 (if(0:Int)<=AW (p3.1-1)/\AW (p3.1-1)<(p1.1.length:Int)then(
 (De p3.1 p3.2.1).bind fun u8=>
 cond ((decide (p1.2.1>=u8.1.1)))
  ((Cl p1.2.1).bind fun FE=>
  (Gh p1.2.1).bind fun Hj=>
  (Io (p3.1,p3.2.1,p3.2.2.1,()) (5,p1.2.1,[],()) FE.1.1 (AW (Hj.1.1+1))).bind fun Th=>
  some ((((Th.1.1.1,Th.1.1.2.1,(),()),0,()),()),(Th.2.1,())))
 (cond (((p1.1.getD ((AW (p3.1-1)).toNat) ([],false,0,())).2.1))
  (cond ((decide (p3.2.1>((p1.1.getD ((AW (p3.1-1)).toNat) ([],false,0,())).2.2.1))))
   ((Io (p3.1,p3.2.1,p3.2.2.1,()) (4,AW (p3.1+1),[],()) (AW (p3.1+1)) 1).bind fun u16=>
   some ((((u16.1.1.1,u16.1.1.2.1,(),()),0,()),()),(u16.2.1,())))
  (cond (!((p1.1.getD ((AW (p3.1-1)).toNat) ([],false,0,())).2.1))
   (cond (decide (p3.2.1>p2))
    ((CQ (p3.1,p3.2.1,p3.2.2.1,())).bind fun rZ=>
    some ((((rZ.1.1.1,rZ.1.1.2.1,(),()),2,()),()),(rZ.2.1,())))
   (cond (decide (p3.2.1>60))
    ((CQ (p3.1,p3.2.1,p3.2.2.1,())).bind fun gr=>
    some ((((gr.1.1.1,gr.1.1.2.1,(),()),2,()),()),(gr.2.1,())))
   ((Kl u1.2.1 ((p1.1.getD ((AW (p3.1-1)).toNat) ([],false,0,())).1)).bind fun iG=>
   (Kk (p0.1,p0.2.1,()) ((p1.1.getD ((AW (p3.1-1)).toNat) ([],false,0,())).1) iG.2.1).bind fun hY=>
   cond (!hY.1.1)
    ((CQ (p3.1,p3.2.1,p3.2.2.1,())).bind fun u22=>
    some ((((u22.1.1.1,u22.1.1.2.1,(),()),3,()),()),(u22.2.1,())))
   ((MX ((p1.1.getD ((AW (p3.1-1)).toNat) ([],false,0,())).1) u8.1.1 p4).bind fun vZ=>
   (Io (p3.1,p3.2.1,p3.2.2.1,()) (vZ.1.1.1,vZ.1.1.2.1,vZ.1.1.2.2.1,()) p3.1 (AW (p3.2.1+1))).bind fun o9=>
   some ((((o9.1.1.1,o9.1.1.2.1,(),()),0,()),()),(o9.2.1,()))))))
  (cond (decide (p3.2.1>60))
   ((CQ (p3.1,p3.2.1,p3.2.2.1,())).bind fun u25=>
   some ((((u25.1.1.1,u25.1.1.2.1,(),()),2,()),()),(u25.2.1,())))
  ((Kl u1.2.1 ((p1.1.getD ((AW (p3.1-1)).toNat) ([],false,0,())).1)).bind fun u26=>
  (Kk (p0.1,p0.2.1,()) ((p1.1.getD ((AW (p3.1-1)).toNat) ([],false,0,())).1) u26.2.1).bind fun u27=>
  cond (!u27.1.1)
   ((CQ (p3.1,p3.2.1,p3.2.2.1,())).bind fun jU=>
   some ((((jU.1.1.1,jU.1.1.2.1,(),()),3,()),()),(jU.2.1,())))
  ((MX ((p1.1.getD ((AW (p3.1-1)).toNat) ([],false,0,())).1) u8.1.1 p4).bind fun u29=>
  (Io (p3.1,p3.2.1,p3.2.2.1,()) (u29.1.1.1,u29.1.1.2.1,u29.1.1.2.2.1,()) p3.1 (AW (p3.2.1+1))).bind fun vO=>
  some ((((vO.1.1.1,vO.1.1.2.1,(),()),0,()),()),(vO.2.1,())))))))
 (cond (!((p1.1.getD ((AW (p3.1-1)).toNat) ([],false,0,())).2.1))
  (cond (decide (p3.2.1>p2))
   ((CQ (p3.1,p3.2.1,p3.2.2.1,())).bind fun u32=>
   some ((((u32.1.1.1,u32.1.1.2.1,(),()),2,()),()),(u32.2.1,())))
  (cond (decide (p3.2.1>60))
   ((CQ (p3.1,p3.2.1,p3.2.2.1,())).bind fun xo=>
   some ((((xo.1.1.1,xo.1.1.2.1,(),()),2,()),()),(xo.2.1,())))
  ((Kl u1.2.1 ((p1.1.getD ((AW (p3.1-1)).toNat) ([],false,0,())).1)).bind fun u34=>
  (Kk (p0.1,p0.2.1,()) ((p1.1.getD ((AW (p3.1-1)).toNat) ([],false,0,())).1) u34.2.1).bind fun u35=>
  cond (!u35.1.1)
   ((CQ (p3.1,p3.2.1,p3.2.2.1,())).bind fun u36=>
   some ((((u36.1.1.1,u36.1.1.2.1,(),()),3,()),()),(u36.2.1,())))
  ((MX ((p1.1.getD ((AW (p3.1-1)).toNat) ([],false,0,())).1) u8.1.1 p4).bind fun xl=>
  (Io (p3.1,p3.2.1,p3.2.2.1,()) (xl.1.1.1,xl.1.1.2.1,xl.1.1.2.2.1,()) p3.1 (AW (p3.2.1+1))).bind fun u38=>
  some ((((u38.1.1.1,u38.1.1.2.1,(),()),0,()),()),(u38.2.1,()))))))
 (cond (decide (p3.2.1>60))
  ((CQ (p3.1,p3.2.1,p3.2.2.1,())).bind fun u39=>
  some ((((u39.1.1.1,u39.1.1.2.1,(),()),2,()),()),(u39.2.1,())))
 ((Kl u1.2.1 ((p1.1.getD ((AW (p3.1-1)).toNat) ([],false,0,())).1)).bind fun u40=>
 (Kk (p0.1,p0.2.1,()) ((p1.1.getD ((AW (p3.1-1)).toNat) ([],false,0,())).1) u40.2.1).bind fun u41=>
 cond (!u41.1.1)
  ((CQ (p3.1,p3.2.1,p3.2.2.1,())).bind fun u42=>
  some ((((u42.1.1.1,u42.1.1.2.1,(),()),3,()),()),(u42.2.1,())))
 ((MX ((p1.1.getD ((AW (p3.1-1)).toNat) ([],false,0,())).1) u8.1.1 p4).bind fun u43=>
 (Io (p3.1,p3.2.1,p3.2.2.1,()) (u43.1.1.1,u43.1.1.2.1,u43.1.1.2.2.1,()) p3.1 (AW (p3.2.1+1))).bind fun u44=>
 some ((((u44.1.1.1,u44.1.1.2.1,(),()),0,()),()),(u44.2.1,()))))))))else none)))))
abbrev sy:Type:=AC7×ADG
def Xg(CI CP:Int)(BU:Bool)(p1:ABX)(b0:AAN)(b1:AAT)(b2:AAN)(b3:AAU)(b4:AAX)(b5:AAY)(b6:AAV)(b7:AAW):Option sy:=
 (B9 p1.2.1 0 1).bind fun u1=>
 cond (!u1.1.1)
  (some (((((),CI,(),(),(),CP,(),(),(),(),BU,()),2,()),()),(b0,b1,b2,b3,b4,b5,b6,b7,())))
 (if(0:Int)<=p1.2.1/\p1.2.1<(b6.length:Int)then(
 if(0:Int)<=p1.2.1/\p1.2.1<(b6.length:Int)then(
 if(0:Int)<=p1.2.1/\p1.2.1<(b6.length:Int)then(
 (fz (b0,CI,b1,b2,b3,CP,b4,b5,b6,b7,BU,()) ((b6.getD (p1.2.1.toNat) (0,0,[],())).1)).bind fun u3=>
 (Qj (b0,CI,b1,b2,b3,CP,b4,b5,b6,b7,BU,()) ((b6.getD (p1.2.1.toNat) (0,0,[],())).1,(b6.getD (p1.2.1.toNat) (0,0,[],())).2.1,(b6.getD (p1.2.1.toNat) (0,0,[],())).2.2.1,()) p1.2.2.1).bind fun u4=>
 (Qp (b0,CI,()) (b3,CP,()) u3.1.1 ((b6.getD (p1.2.1.toNat) (0,0,[],())).1,(b6.getD (p1.2.1.toNat) (0,0,[],())).2.1,(b6.getD (p1.2.1.toNat) (0,0,[],())).2.2.1,()) u4.2.1).bind fun u5=>
 cond (u5.1.1.2.1 !=0)
  (some (((((),CI,(),(),(),CP,(),(),(),(),BU,()),5,()),()),(b0,b1,b2,b3,b4,b5,b6,b7,())))
 (if(0:Int)<=p1.2.1/\p1.2.1<(b6.length:Int)then(
 some (((((),CI,(),(),(),CP,(),(),(),(),BU,()),0,()),()),(b0,b1,b2,b3,b4,b5,(b6.set (p1.2.1.toNat) (u5.1.1.1.1,u5.1.1.1.2.1,u5.2.1,())),b7,())))else none))else none)else none)else none)
abbrev Oj:Type:=AC7×(List Int×AAT×List Int×AAU×Unit×AAY×AAV×AAW×AAX×Unit)
abbrev Wc:Type:=Int->List Int->AAT->List Int->AAU->AAX->AAY->AAV->AAW->Int->Int->Bool->Int->Int->Int->Int->List UInt8->Int->Int->Bool->List Int->AAT->List Int->AAU->AAX->AAY->AAV->AAW->AAX->Option Oj
def YN(R5:Wc)(t7:Int)(b0:AAN)(b1:AAT)(b2:AAN)(b3:AAU)(b4:AAX)(b5:AAY)(b6:AAV)(b7:AAW)(Da Dq:Int)(CJ:Bool)(j7 EE fH AQf:Int)(ARM:AAZ)(FA Gy:Int)(D8:Bool)(G6:AAN)(EK:AAT)(Hy:AAN)(Hw:AAU)(Eu:AAX)(Fb:AAY)(GK:AAV)(bI:AAW)(wT:AAX):Option Oj:=
 cond ((decide (t7<(b4.length:Int))))
  (cond (t7 !=EE)
   (if(0:Int)<=t7/\t7<(b4.length:Int)then(
   if wT.length+1<=Cm then(
   R5 (AW (t7+1)) b0 b1 b2 b3 b4 b5 b6 b7 Da Dq CJ j7 EE fH AQf ARM FA Gy D8 G6 EK Hy Hw Eu Fb GK bI (wT++[((b4.getD (t7.toNat) (0,[],())).1,(b4.getD (t7.toNat) (0,[],())).2.1,())]))else none)else none)
  (R5 (AW (t7+1)) b0 b1 b2 b3 b4 b5 b6 b7 Da Dq CJ j7 EE fH AQf ARM FA Gy D8 G6 EK Hy Hw Eu Fb GK bI wT))
 (some (((((),Da,(),(),(),Dq,(),(),(),(),CJ,()),0,()),()),(b0,b1,b2,b3,(),b5,b6,b7,wT,())))
def Mw:Nat->Wc
 |0=>fun _ _ _ _ _ _ _ _ _ _ _ _ _ _ _ _ _ _ _ _ _ _ _ _ _ _ _ _ _=>none
 |n+1=>YN (Mw n)
def ZF(R5:Wc)(CI CP:Int)(BU:Bool)(p1:ABX)(b0:AAN)(b1:AAT)(b2:AAN)(b3:AAU)(b4:AAX)(b5:AAY)(b6:AAV)(b7:AAW):Option Oj:=
 (L1 (b0,CI,b1,b2,b3,CP,b4,b5,b6,b7,BU,()) p1.2.1).bind fun u1=>
 cond (!u1.1.1)
  (some (((((),CI,(),(),(),CP,(),(),(),(),BU,()),2,()),()),(b0,b1,b2,b3,(),b5,b6,b7,b4,())))
 (R5 0 b0 b1 b2 b3 b4 b5 b6 b7 CI CP BU p1.1 p1.2.1 p1.2.2.1 p1.2.2.2.1 p1.2.2.2.2.1 0 0 false [] [] [] [] [] [] [] [] [])
def Xe(CI CP:Int)(BU:Bool)(p1:ABX)(b0:AAN)(b1:AAT)(b2:AAN)(b3:AAU)(b4:AAX)(b5:AAY)(b6:AAV)(b7:AAW):Option Oj:=ZF (Mw AX) CI CP BU p1 b0 b1 b2 b3 b4 b5 b6 b7
abbrev Pk:Type:=ADW×ADS
abbrev Sm:Type:=Int->Int->AAa->AAa->Int->Int->AAa->AAa->Int->AAa->AAa->Option Pk
def WB(R8:Sm)(t1 t7:Int)(AQ AF:AAa)(Ah CO:Int)(b2 b3:AAa)(cc:Int)(b5 b6:AAa):Option Pk:=
 cond ((decide (t7<(AQ.length:Int))))
  (if(0:Int)<=t7/\t7<(AQ.length:Int)then(
  cond (decide (((AQ.getD (t7.toNat) (0,0,false,[],())).1)>t1))
   (if(0:Int)<=t7/\t7<(AQ.length:Int)then(
   if b5.length+1<=Cm then(
   R8 t1 (AW (t7+1)) AQ AF Ah CO b2 b3 cc (b5++[((AQ.getD (t7.toNat) (0,0,false,[],())).1,(AQ.getD (t7.toNat) (0,0,false,[],())).2.1,(AQ.getD (t7.toNat) (0,0,false,[],())).2.2.1,(AQ.getD (t7.toNat) (0,0,false,[],())).2.2.2.1,())]) b6)else none)else none)
  (R8 t1 (AW (t7+1)) AQ AF Ah CO b2 b3 cc b5 b6))else none)
 (some (((((),(),cc,()),true,()),()),(b5,b6,())))
def KM:Nat->Sm
 |0=>fun _ _ _ _ _ _ _ _ _ _ _=>none
 |n+1=>WB (KM n)
def Vl(R8:Sm)(p0:ABR)(p1:Int):Option Pk:=
 (Gg (p0.1,p0.2.1,p0.2.2.1,())).bind fun u1=>
 cond (!u1.1.1)
  (some (((((),(),0,()),false,()),()),([],[],())))
 ((Eh (p0.1,p0.2.1,p0.2.2.1,())).bind fun u2=>
 (E9 p1).bind fun u3=>
 cond (!u3.1.1)
  (some (((((),(),u2.1.1.2.2.1,()),false,()),()),(u2.2.1,u2.2.2.1,())))
 (R8 p1 0 p0.1 p0.2.1 p0.2.2.1 0 [] [] u2.1.1.2.2.1 [] u2.2.2.1))
def Sz(p0:ABR)(p1:Int):Option Pk:=Vl (KM AX) p0 p1
abbrev ow:Type:=AC7×ADG
def VQ(CI CP:Int)(BU:Bool)(p1:ABX)(b0:AAN)(b1:AAT)(b2:AAN)(b3:AAU)(b4:AAX)(b5:AAY)(b6:AAV)(b7:AAW):Option ow:=
 (HT (b0,CI,b1,b2,b3,CP,b4,b5,b6,b7,BU,()) p1.2.1).bind fun u1=>
 cond (u1.1.1 !=0)
  (some (((((),CI,(),(),(),CP,(),(),(),(),BU,()),u1.1.1,()),()),(b0,b1,b2,b3,b4,b5,b6,b7,())))
 (if(0:Int)<=p1.2.1/\p1.2.1<(b1.length:Int)then(
 (Mo ((b1.getD (p1.2.1.toNat) ([],[],0,())).1,(b1.getD (p1.2.1.toNat) ([],[],0,())).2.1,(b1.getD (p1.2.1.toNat) ([],[],0,())).2.2.1,()) p1.2.2.1).bind fun u2=>
 cond (p1.1==16)
  (if(0:Int)<=p1.2.1/\p1.2.1<(b1.length:Int)then(
  (Sz ((b1.getD (p1.2.1.toNat) ([],[],0,())).1,(b1.getD (p1.2.1.toNat) ([],[],0,())).2.1,(b1.getD (p1.2.1.toNat) ([],[],0,())).2.2.1,()) CP).bind fun u3=>
  cond (!u3.1.1.2.1)
   (some (((((),CI,(),(),(),CP,(),(),(),(),BU,()),4,()),()),(b0,b1,b2,b3,b4,b5,b6,b7,())))
  (if(0:Int)<=p1.2.1/\p1.2.1<(b1.length:Int)then(
  some (((((),CI,(),(),(),CP,(),(),(),(),BU,()),0,()),()),(b0,(b1.set (p1.2.1.toNat) (u3.2.1,u3.2.2.1,u3.1.1.1.2.2.1,())),b2,b3,b4,b5,b6,b7,())))else none))else none)
 (cond (!u2.1.1.2.1)
  (some (((((),CI,(),(),(),CP,(),(),(),(),BU,()),4,()),()),(b0,b1,b2,b3,b4,b5,b6,b7,())))
 (if(0:Int)<=p1.2.1/\p1.2.1<(b1.length:Int)then(
 some (((((),CI,(),(),(),CP,(),(),(),(),BU,()),0,()),()),(b0,(b1.set (p1.2.1.toNat) (u2.2.1,u2.2.2.1,u2.1.1.1.2.2.1,())),b2,b3,b4,b5,b6,b7,())))else none)))else none)
abbrev lN:Type:=AC7×(List Int×AAT×Unit×Unit×Unit×Unit×AAV×Unit×List Int×AAU×AAX×AAY×AAW×Unit)
def cW(CI CP:Int)(BU:Bool)(p1:ABX)(b0:AAN)(b1:AAT)(b2:AAN)(b3:AAU)(b4:AAX)(b5:AAY)(b6:AAV)(b7:AAW):Option lN:=
 cond (p1.1==1)
  ((XK CI CP BU (p1.1,p1.2.1,p1.2.2.1,p1.2.2.2.1,p1.2.2.2.2.1,()) b0 b1 b2 b3 b4 b5 b6 b7).bind fun u1=>
  some (((((),u1.1.1.1.2.1,(),(),(),u1.1.1.1.2.2.2.2.2.1,(),(),(),(),u1.1.1.1.2.2.2.2.2.2.2.2.2.2.1,()),u1.1.1.2.1,()),()),(u1.2.1,u1.2.2.1,(),(),(),(),u1.2.2.2.2.2.2.2.1,(),u1.2.2.2.1,u1.2.2.2.2.2.2.2.2.2.1,u1.2.2.2.2.2.2.2.2.2.2.1,u1.2.2.2.2.2.2.2.2.2.2.2.1,u1.2.2.2.2.2.2.2.2.1,())))
 (cond (p1.1==2)
  ((Zt CI CP BU (p1.1,p1.2.1,p1.2.2.1,p1.2.2.2.1,p1.2.2.2.2.1,()) b0 b1 b2 b3 b4 b5 b6 b7).bind fun u5=>
  some (((((),u5.1.1.1.2.1,(),(),(),u5.1.1.1.2.2.2.2.2.1,(),(),(),(),u5.1.1.1.2.2.2.2.2.2.2.2.2.2.1,()),u5.1.1.2.1,()),()),(u5.2.1,u5.2.2.1,(),(),(),(),u5.2.2.2.2.2.2.2.1,(),u5.2.2.2.1,u5.2.2.2.2.1,u5.2.2.2.2.2.1,u5.2.2.2.2.2.2.1,u5.2.2.2.2.2.2.2.2.2.1,())))
 (cond (p1.1==3)
  ((VK CI CP BU (p1.1,p1.2.1,p1.2.2.1,p1.2.2.2.1,p1.2.2.2.2.1,()) b0 b1 b2 b3 b4 b5 b6 b7).bind fun u7=>
  some (((((),u7.1.1.1.2.1,(),(),(),u7.1.1.1.2.2.2.2.2.1,(),(),(),(),u7.1.1.1.2.2.2.2.2.2.2.2.2.2.1,()),u7.1.1.2.1,()),()),(u7.2.1,u7.2.2.1,(),(),(),(),u7.2.2.2.2.2.2.2.1,(),u7.2.2.2.1,u7.2.2.2.2.1,u7.2.2.2.2.2.1,u7.2.2.2.2.2.2.1,u7.2.2.2.2.2.2.2.2.1,())))
 (cond (p1.1==4)
  ((Xm CI CP BU (p1.1,p1.2.1,p1.2.2.1,p1.2.2.2.1,p1.2.2.2.2.1,()) b0 b1 b2 b3 b4 b5 b6 b7).bind fun u8=>
  some (((((),u8.1.1.1.2.1,(),(),(),u8.1.1.1.2.2.2.2.2.1,(),(),(),(),u8.1.1.1.2.2.2.2.2.2.2.2.2.2.1,()),u8.1.1.2.1,()),()),(u8.2.1,u8.2.2.1,(),(),(),(),u8.2.2.2.2.2.2.2.1,(),u8.2.2.2.1,u8.2.2.2.2.1,u8.2.2.2.2.2.1,u8.2.2.2.2.2.2.1,u8.2.2.2.2.2.2.2.2.1,())))
 (cond (p1.1==6)
  ((Xd CI CP BU (p1.1,p1.2.1,p1.2.2.1,p1.2.2.2.1,p1.2.2.2.2.1,()) b0 b1 b2 b3 b4 b5 b6 b7).bind fun u9=>
  some (((((),u9.1.1.1.2.1,(),(),(),u9.1.1.1.2.2.2.2.2.1,(),(),(),(),u9.1.1.1.2.2.2.2.2.2.2.2.2.2.1,()),u9.1.1.2.1,()),()),(u9.2.1,u9.2.2.1,(),(),(),(),u9.2.2.2.2.2.2.2.1,(),u9.2.2.2.2.2.2.2.2.2.1,u9.2.2.2.2.1,u9.2.2.2.2.2.1,u9.2.2.2.2.2.2.1,u9.2.2.2.2.2.2.2.2.1,())))
 (cond (p1.1==7)
  ((Xo CI CP BU (p1.1,p1.2.1,p1.2.2.1,p1.2.2.2.1,p1.2.2.2.2.1,()) b0 b1 b2 b3 b4 b5 b6 b7).bind fun Hj=>
  some (((((),Hj.1.1.1.2.1,(),(),(),Hj.1.1.1.2.2.2.2.2.1,(),(),(),(),Hj.1.1.1.2.2.2.2.2.2.2.2.2.2.1,()),Hj.1.1.2.1,()),()),(Hj.2.1,Hj.2.2.1,(),(),(),(),Hj.2.2.2.2.2.2.2.1,(),Hj.2.2.2.2.2.2.2.2.2.1,Hj.2.2.2.2.1,Hj.2.2.2.2.2.1,Hj.2.2.2.2.2.2.1,Hj.2.2.2.2.2.2.2.2.1,())))
 (cond (p1.1==8)
  ((XS CI CP BU b0 b1 b2 b3 b4 b5 b6 b7).bind fun Pd=>
  some (((((),Pd.1.1.1.2.1,(),(),(),Pd.1.1.1.2.2.2.2.2.1,(),(),(),(),Pd.1.1.1.2.2.2.2.2.2.2.2.2.2.1,()),Pd.1.1.2.1,()),()),(Pd.2.1,Pd.2.2.1,(),(),(),(),Pd.2.2.2.2.2.2.2.1,(),Pd.2.2.2.1,Pd.2.2.2.2.1,Pd.2.2.2.2.2.1,Pd.2.2.2.2.2.2.2.2.2.1,Pd.2.2.2.2.2.2.2.2.1,())))
 (cond (p1.1==9)
  ((Xq CI CP BU (p1.1,p1.2.1,p1.2.2.1,p1.2.2.2.1,p1.2.2.2.2.1,()) b0 b1 b2 b3 b4 b5 b6 b7).bind fun qF=>
  some (((((),qF.1.1.1.2.1,(),(),(),qF.1.1.1.2.2.2.2.2.1,(),(),(),(),qF.1.1.1.2.2.2.2.2.2.2.2.2.2.1,()),qF.1.1.2.1,()),()),(qF.2.1,qF.2.2.1,(),(),(),(),qF.2.2.2.2.2.2.2.1,(),qF.2.2.2.1,qF.2.2.2.2.1,qF.2.2.2.2.2.1,qF.2.2.2.2.2.2.1,qF.2.2.2.2.2.2.2.2.1,())))
 (cond (p1.1==10)
  ((Xr CI CP BU b0 b1 b2 b3 b4 b5 b6 b7).bind fun gr=>
  some (((((),gr.1.1.1.2.1,(),(),(),gr.1.1.1.2.2.2.2.2.1,(),(),(),(),gr.1.1.1.2.2.2.2.2.2.2.2.2.2.1,()),gr.1.1.2.1,()),()),(gr.2.1,gr.2.2.1,(),(),(),(),gr.2.2.2.2.2.2.2.1,(),gr.2.2.2.1,gr.2.2.2.2.1,gr.2.2.2.2.2.1,gr.2.2.2.2.2.2.1,gr.2.2.2.2.2.2.2.2.1,())))
 (cond (p1.1==11)
  ((Zv CI CP BU (p1.1,p1.2.1,p1.2.2.1,p1.2.2.2.1,p1.2.2.2.2.1,()) b0 b1 b2 b3 b4 b5 b6 b7).bind fun hY=>
  some (((((),hY.1.1.1.2.1,(),(),(),hY.1.1.1.2.2.2.2.2.1,(),(),(),(),hY.1.1.1.2.2.2.2.2.2.2.2.2.2.1,()),hY.1.1.2.1,()),()),(hY.2.1,hY.2.2.1,(),(),(),(),hY.2.2.2.2.2.2.2.1,(),hY.2.2.2.1,hY.2.2.2.2.1,hY.2.2.2.2.2.1,hY.2.2.2.2.2.2.1,hY.2.2.2.2.2.2.2.2.1,())))
 (cond (p1.1==12)
  ((Uv CI CP BU b0 b1 b2 b3 b4 b5 b6 b7).bind fun vZ=>
  some (((((),vZ.1.1.1.2.1,(),(),(),vZ.1.1.1.2.2.2.2.2.1,(),(),(),(),vZ.1.1.1.2.2.2.2.2.2.2.2.2.2.1,()),vZ.1.1.2.1,()),()),(vZ.2.1,vZ.2.2.1,(),(),(),(),vZ.2.2.2.2.2.2.2.1,(),vZ.2.2.2.1,vZ.2.2.2.2.2.2.2.2.2.1,vZ.2.2.2.2.2.1,vZ.2.2.2.2.2.2.2.2.2.2.1,vZ.2.2.2.2.2.2.2.2.1,())))
 (cond (p1.1==13)
  ((XI (b0,CI,()) (b3,CP,()) p1.2.1).bind fun u27=>
  cond (!u27.1.1.2.1)
   (some (((((),CI,(),(),(),CP,(),(),(),(),BU,()),4,()),()),(b0,b1,(),(),(),(),b6,(),b2,b3,b4,b5,b7,())))
  (some (((((),CI,(),(),(),u27.1.1.1.2.1,(),(),(),(),BU,()),0,()),()),(b0,b1,(),(),(),(),b6,(),b2,u27.2.1,b4,b5,b7,()))))
 (cond (p1.1==14)
  ((Xg CI CP BU (p1.1,p1.2.1,p1.2.2.1,p1.2.2.2.1,p1.2.2.2.2.1,()) b0 b1 b2 b3 b4 b5 b6 b7).bind fun jU=>
  some (((((),jU.1.1.1.2.1,(),(),(),jU.1.1.1.2.2.2.2.2.1,(),(),(),(),jU.1.1.1.2.2.2.2.2.2.2.2.2.2.1,()),jU.1.1.2.1,()),()),(jU.2.1,jU.2.2.1,(),(),(),(),jU.2.2.2.2.2.2.2.1,(),jU.2.2.2.1,jU.2.2.2.2.1,jU.2.2.2.2.2.1,jU.2.2.2.2.2.2.1,jU.2.2.2.2.2.2.2.2.1,())))
 (cond (p1.1==15)
  ((Xe CI CP BU (p1.1,p1.2.1,p1.2.2.1,p1.2.2.2.1,p1.2.2.2.2.1,()) b0 b1 b2 b3 b4 b5 b6 b7).bind fun vO=>
  some (((((),vO.1.1.1.2.1,(),(),(),vO.1.1.1.2.2.2.2.2.1,(),(),(),(),vO.1.1.1.2.2.2.2.2.2.2.2.2.2.1,()),vO.1.1.2.1,()),()),(vO.2.1,vO.2.2.1,(),(),(),(),vO.2.2.2.2.2.2.2.1,(),vO.2.2.2.1,vO.2.2.2.2.1,vO.2.2.2.2.2.2.2.2.2.1,vO.2.2.2.2.2.2.1,vO.2.2.2.2.2.2.2.2.1,())))
 ((VQ CI CP BU (p1.1,p1.2.1,p1.2.2.1,p1.2.2.2.1,p1.2.2.2.2.1,()) b0 b1 b2 b3 b4 b5 b6 b7).bind fun xo=>
 some (((((),xo.1.1.1.2.1,(),(),(),xo.1.1.1.2.2.2.2.2.1,(),(),(),(),xo.1.1.1.2.2.2.2.2.2.2.2.2.2.1,()),xo.1.1.2.1,()),()),(xo.2.1,xo.2.2.1,(),(),(),(),xo.2.2.2.2.2.2.2.1,(),xo.2.2.2.1,xo.2.2.2.2.1,xo.2.2.2.2.2.1,xo.2.2.2.2.2.2.1,xo.2.2.2.2.2.2.2.2.1,()))))))))))))))))
abbrev q_:Type:=AC7×ADG
def SU(p0:AAi)(p1:ABX):Option q_:=
 (HX (p0.1,p0.2.1,p0.2.2.1,p0.2.2.2.1,p0.2.2.2.2.1,p0.2.2.2.2.2.1,p0.2.2.2.2.2.2.1,p0.2.2.2.2.2.2.2.1,p0.2.2.2.2.2.2.2.2.1,p0.2.2.2.2.2.2.2.2.2.1,p0.2.2.2.2.2.2.2.2.2.2.1,())).bind fun u1=>
 cond (!u1.1.1)
  (some (((((),0,(),(),(),0,(),(),(),(),false,()),1,()),()),([],[],[],[],[],[],[],[],())))
 ((WG (p1.1,p1.2.1,p1.2.2.1,p1.2.2.2.1,p1.2.2.2.2.1,())).bind fun u2=>
 cond (!u2.1.1)
  (some (((((),0,(),(),(),0,(),(),(),(),false,()),1,()),()),([],[],[],[],[],[],[],[],())))
 ((MJ (p0.1,p0.2.1,p0.2.2.1,p0.2.2.2.1,p0.2.2.2.2.1,p0.2.2.2.2.2.1,p0.2.2.2.2.2.2.1,p0.2.2.2.2.2.2.2.1,p0.2.2.2.2.2.2.2.2.1,p0.2.2.2.2.2.2.2.2.2.1,p0.2.2.2.2.2.2.2.2.2.2.1,())).bind fun u3=>
 (cW u3.1.1.2.1 u3.1.1.2.2.2.2.2.1 u3.1.1.2.2.2.2.2.2.2.2.2.2.1 (p1.1,p1.2.1,p1.2.2.1,p1.2.2.2.1,p1.2.2.2.2.1,()) u3.2.1 u3.2.2.1 u3.2.2.2.1 u3.2.2.2.2.1 u3.2.2.2.2.2.1 u3.2.2.2.2.2.2.1 u3.2.2.2.2.2.2.2.1 u3.2.2.2.2.2.2.2.2.1).bind fun u4=>
 cond (u4.1.1.2.1 !=0)
  ((MJ (p0.1,p0.2.1,p0.2.2.1,p0.2.2.2.1,p0.2.2.2.2.1,p0.2.2.2.2.2.1,p0.2.2.2.2.2.2.1,p0.2.2.2.2.2.2.2.1,p0.2.2.2.2.2.2.2.2.1,p0.2.2.2.2.2.2.2.2.2.1,p0.2.2.2.2.2.2.2.2.2.2.1,())).bind fun FE=>
  some (((((),FE.1.1.2.1,(),(),(),FE.1.1.2.2.2.2.2.1,(),(),(),(),FE.1.1.2.2.2.2.2.2.2.2.2.2.1,()),u4.1.1.2.1,()),()),(FE.2.1,FE.2.2.1,FE.2.2.2.1,FE.2.2.2.2.1,FE.2.2.2.2.2.1,FE.2.2.2.2.2.2.1,FE.2.2.2.2.2.2.2.1,FE.2.2.2.2.2.2.2.2.1,())))
 (some (((((),u4.1.1.1.2.1,(),(),(),u4.1.1.1.2.2.2.2.2.1,(),(),(),(),u4.1.1.1.2.2.2.2.2.2.2.2.2.2.1,()),u4.1.1.2.1,()),()),(u4.2.1,u4.2.2.1,u4.2.2.2.2.2.2.2.2.2.1,u4.2.2.2.2.2.2.2.2.2.2.1,u4.2.2.2.2.2.2.2.2.2.2.2.1,u4.2.2.2.2.2.2.2.2.2.2.2.2.1,u4.2.2.2.2.2.2.2.1,u4.2.2.2.2.2.2.2.2.2.2.2.2.2.1,())))))
abbrev nX:Type:=AAg×Unit
def Yy(p0:ADa):Option nX:=
 (B9 p0.1 1 3).bind fun u1=>
 some ((u1.1.1,()),())
abbrev Qs:Type:=AAg×Unit
abbrev Un:Type:=Int->Int->Int->Int->ACH->Option Qs
def Wx(R3:Un)(t3 t4 AQ AF:Int)(Ah:ACH):Option Qs:=
 cond ((decide (t4<(Ah.length:Int))))
  (if(0:Int)<=t4/\t4<(Ah.length:Int)then(
  (Yy ((Ah.getD (t4.toNat) (0,0,[],())).1,(Ah.getD (t4.toNat) (0,0,[],())).2.1,(Ah.getD (t4.toNat) (0,0,[],())).2.2.1,())).bind fun u2=>
  cond (!u2.1.1)
   (R3 t3 (AW (t4+1)) AQ AF Ah)
  (cond (decide (t3>=0))
   (if(0:Int)<=t3/\t3<(Ah.length:Int)then(
   if(0:Int)<=t4/\t4<(Ah.length:Int)then(
   cond (decide (((Ah.getD (t3.toNat) (0,0,[],())).2.1)>=((Ah.getD (t4.toNat) (0,0,[],())).2.1)))
    (some ((false,()),()))
   (R3 t4 (AW (t4+1)) AQ AF Ah))else none)else none)
  (R3 t4 (AW (t4+1)) AQ AF Ah)))else none)
 (some ((true,()),()))
def Lk:Nat->Un
 |0=>fun _ _ _ _ _=>none
 |n+1=>Wx (Lk n)
def XB(R3:Un)(p0:ACD):Option Qs:=
 R3 (-1) 0 p0.1 p0.2.1 p0.2.2.1
def QN(p0:ACD):Option Qs:=XB (Lk AX) p0
abbrev ks:Type:=AAg×Unit
def QX(p0:AAi):Option ks:=
 (HX (p0.1,p0.2.1,p0.2.2.1,p0.2.2.2.1,p0.2.2.2.2.1,p0.2.2.2.2.2.1,p0.2.2.2.2.2.2.1,p0.2.2.2.2.2.2.2.1,p0.2.2.2.2.2.2.2.2.1,p0.2.2.2.2.2.2.2.2.2.1,p0.2.2.2.2.2.2.2.2.2.2.1,())).bind fun u1=>
 cond (u1.1.1)
  (if(0:Int)<=(0:Int)/\(0:Int)<(p0.2.2.2.2.2.2.2.2.1.length:Int)then(
  (QN ((p0.2.2.2.2.2.2.2.2.1.getD 0 (0,0,[],())).1,(p0.2.2.2.2.2.2.2.2.1.getD 0 (0,0,[],())).2.1,(p0.2.2.2.2.2.2.2.2.1.getD 0 (0,0,[],())).2.2.1,())).bind fun u2=>
  cond (u2.1.1)
   (if(0:Int)<=(1:Int)/\(1:Int)<(p0.2.2.2.2.2.2.2.2.1.length:Int)then(
   (QN ((p0.2.2.2.2.2.2.2.2.1.getD 1 (0,0,[],())).1,(p0.2.2.2.2.2.2.2.2.1.getD 1 (0,0,[],())).2.1,(p0.2.2.2.2.2.2.2.2.1.getD 1 (0,0,[],())).2.2.1,())).bind fun u3=>
   some ((u3.1.1,()),()))else none)
  (some ((false,()),())))else none)
 (some ((false,()),()))
abbrev Sc:Type:=AAg×Unit
abbrev WM:Type:=Int->List Int->Int->AAT->List Int->AAU->Int->AAX->AAY->AAV->AAW->Bool->Int->Int->List UInt8->Option Sc
def Yj(R2:WM)(t5:Int)(AQ:AAN)(AF:Int)(Ah:AAT)(BA:AAN)(BH:AAU)(AM:Int)(Bj:AAX)(Bi:AAY)(BM:AAV)(Bm:AAW)(AG:Bool)(B7 Ba:Int)(CO:AAZ):Option Sc:=
 cond ((decide (t5<(Bm.length:Int))))
  (if(0:Int)<=t5/\t5<(Bm.length:Int)then(
  cond (((Bm.getD (t5.toNat) (0,[],false,())).1)==Ba)
   (if(0:Int)<=t5/\t5<(Bm.length:Int)then(
   cond (((Bm.getD (t5.toNat) (0,[],false,())).2.1)==CO)
    (some ((true,()),()))
   (R2 (AW (t5+1)) AQ AF Ah BA BH AM Bj Bi BM Bm AG B7 Ba CO))else none)
  (R2 (AW (t5+1)) AQ AF Ah BA BH AM Bj Bi BM Bm AG B7 Ba CO))else none)
 (some ((false,()),()))
def M1:Nat->WM
 |0=>fun _ _ _ _ _ _ _ _ _ _ _ _ _ _ _=>none
 |n+1=>Yj (M1 n)
def X9(R2:WM)(p0:AAi)(p1:ADa):Option Sc:=
 R2 0 p0.1 p0.2.1 p0.2.2.1 p0.2.2.2.1 p0.2.2.2.2.1 p0.2.2.2.2.2.1 p0.2.2.2.2.2.2.1 p0.2.2.2.2.2.2.2.1 p0.2.2.2.2.2.2.2.2.1 p0.2.2.2.2.2.2.2.2.2.1 p0.2.2.2.2.2.2.2.2.2.2.1 p1.1 p1.2.1 p1.2.2.1
def XJ(p0:AAi)(p1:ADa):Option Sc:=X9 (M1 AX) p0 p1
abbrev I4:Type:=AAg×Unit
abbrev Nu:Type:=Int->List Int->Int->AAT->List Int->AAU->Int->AAX->AAY->AAV->AAW->Bool->Option I4
abbrev NZ:Type:=Int->Int->List Int->Int->AAT->List Int->AAU->Int->AAX->AAY->AAV->AAW->Bool->Option I4
def V5(R4:Nu)(R7:NZ)(t3:Int)(AQ:AAN)(AF:Int)(Ah:AAT)(BA:AAN)(BH:AAU)(AM:Int)(Bj:AAX)(Bi:AAY)(BM:AAV)(Bm:AAW)(AG:Bool):Option I4:=
 cond (decide (t3<2))
  (R7 t3 0 AQ AF Ah BA BH AM Bj Bi BM Bm AG)
 (some ((true,()),()))
def Oq(R4:Nu)(R7:NZ)(t3 t4:Int)(AQ:AAN)(AF:Int)(Ah:AAT)(BA:AAN)(BH:AAU)(AM:Int)(Bj:AAX)(Bi:AAY)(BM:AAV)(Bm:AAW)(AG:Bool):Option I4:=
 if(0:Int)<=t3/\t3<(BM.length:Int)then(
 cond (decide (t4<(((BM.getD (t3.toNat) (0,0,[],())).2.2.1).length:Int)))
  (if(0:Int)<=t3/\t3<(BM.length:Int)then(
  if(0:Int)<=t4/\t4<(((BM.getD (t3.toNat) (0,0,[],())).2.2.1).length:Int)then(
  cond (((((BM.getD (t3.toNat) (0,0,[],())).2.2.1).getD (t4.toNat) (0,0,[],())).1)==1)
   ((XJ (AQ,AF,Ah,BA,BH,AM,Bj,Bi,BM,Bm,AG,()) ((((BM.getD (t3.toNat) (0,0,[],())).2.2.1).getD (t4.toNat) (0,0,[],())).1,(((BM.getD (t3.toNat) (0,0,[],())).2.2.1).getD (t4.toNat) (0,0,[],())).2.1,(((BM.getD (t3.toNat) (0,0,[],())).2.2.1).getD (t4.toNat) (0,0,[],())).2.2.1,())).bind fun u4=>
   cond (!u4.1.1)
    (some ((false,()),()))
   (R7 t3 (AW (t4+1)) AQ AF Ah BA BH AM Bj Bi BM Bm AG))
  (R7 t3 (AW (t4+1)) AQ AF Ah BA BH AM Bj Bi BM Bm AG))else none)else none)
 (R4 (AW (t3+1)) AQ AF Ah BA BH AM Bj Bi BM Bm AG))else none
mutual
def GY:Nat->Nu
 |0=>fun _ _ _ _ _ _ _ _ _ _ _ _=>none
 |n+1=>V5 (GY n) (Gj n)
def Gj:Nat->NZ
 |0=>fun _ _ _ _ _ _ _ _ _ _ _ _ _=>none
 |n+1=>Oq (GY n) (Gj n)
end
def WC(R4:Nu)(R7:NZ)(p0:AAi):Option I4:=
 (HX (p0.1,p0.2.1,p0.2.2.1,p0.2.2.2.1,p0.2.2.2.2.1,p0.2.2.2.2.2.1,p0.2.2.2.2.2.2.1,p0.2.2.2.2.2.2.2.1,p0.2.2.2.2.2.2.2.2.1,p0.2.2.2.2.2.2.2.2.2.1,p0.2.2.2.2.2.2.2.2.2.2.1,())).bind fun u1=>
 cond (!u1.1.1)
  (some ((false,()),()))
 (R4 0 p0.1 p0.2.1 p0.2.2.1 p0.2.2.2.1 p0.2.2.2.2.1 p0.2.2.2.2.2.1 p0.2.2.2.2.2.2.1 p0.2.2.2.2.2.2.2.1 p0.2.2.2.2.2.2.2.2.1 p0.2.2.2.2.2.2.2.2.2.1 p0.2.2.2.2.2.2.2.2.2.2.1)
def SE(p0:AAi):Option I4:=WC (GY AX) (Gj AX) p0
abbrev SJ:Type:=AEV×Unit
abbrev WZ:Type:=Int->Int->Int->Int->ACH->Option SJ
def X4(R2:WZ)(t1 t6 AQ AF:Int)(Ah:ACH):Option SJ:=
 cond ((decide (t6<(Ah.length:Int))))
  (if(0:Int)<=t6/\t6<(Ah.length:Int)then(
  cond (((Ah.getD (t6.toNat) (0,0,[],())).1)==1)
   (if(0:Int)<=t6/\t6<(Ah.length:Int)then(
   cond (((Ah.getD (t6.toNat) (0,0,[],())).2.1)==t1)
    (if(0:Int)<=t6/\t6<(Ah.length:Int)then(
    some (((((Ah.getD (t6.toNat) (0,0,[],())).2.2.1),true,()),()),()))else none)
   (R2 t1 (AW (t6+1)) AQ AF Ah))else none)
  (R2 t1 (AW (t6+1)) AQ AF Ah))else none)
 (some ((([],false,()),()),()))
def Mp:Nat->WZ
 |0=>fun _ _ _ _ _=>none
 |n+1=>X4 (Mp n)
def YQ(R2:WZ)(p0:ACD)(p1:Int):Option SJ:=
 R2 p1 0 p0.1 p0.2.1 p0.2.2.1
def Mc(p0:ACD)(p1:Int):Option SJ:=YQ (Mp AX) p0 p1
abbrev mq:Type:=AAg×Unit
def Ht(p0:ACD)(p1:Int):Option mq:=
 (De p0.1 p0.2.1).bind fun u1=>
 some ((decide (u1.1.1>p1),()),())
abbrev I5:Type:=AAg×Unit
abbrev Ny:Type:=Int->List Int->Int->AAT->List Int->AAU->Int->AAX->AAY->AAV->AAW->Bool->Option I5
abbrev Ni:Type:=Int->Int->Bool->Bool->List Int->Int->AAT->List Int->AAU->Int->AAX->AAY->AAV->AAW->Bool->Option I5
def WA(R4:Ny)(R7:Ni)(t3:Int)(AQ:AAN)(AF:Int)(Ah:AAT)(BA:AAN)(BH:AAU)(AM:Int)(Bj:AAX)(Bi:AAY)(BM:AAV)(Bm:AAW)(AG:Bool):Option I5:=
 cond (decide (t3<2))
  (cond (!AG)
   (R7 t3 0 AG (!AG) AQ AF Ah BA BH AM Bj Bi BM Bm AG)
  (some ((true,()),())))
 (some ((true,()),()))
def O3(R4:Ny)(R7:Ni)(t3 t4:Int)(t15 t16:Bool)(AQ:AAN)(AF:Int)(Ah:AAT)(BA:AAN)(BH:AAU)(AM:Int)(Bj:AAX)(Bi:AAY)(BM:AAV)(Bm:AAW)(AG:Bool):Option I5:=
 cond ((decide (t4<(Bm.length:Int))))
  (if(0:Int)<=t4/\t4<(Bm.length:Int)then(
  if(0:Int)<=t3/\t3<(BM.length:Int)then(
  (Mc ((BM.getD (t3.toNat) (0,0,[],())).1,(BM.getD (t3.toNat) (0,0,[],())).2.1,(BM.getD (t3.toNat) (0,0,[],())).2.2.1,()) ((Bm.getD (t4.toNat) (0,[],false,())).1)).bind fun u4=>
  cond (((Bm.getD (t4.toNat) (0,[],false,())).2.2.1))
   (cond (decide (((Bm.getD (t4.toNat) (0,[],false,())).1)>AM))
    (if(0:Int)<=t3/\t3<(BM.length:Int)then(
    (Ht ((BM.getD (t3.toNat) (0,0,[],())).1,(BM.getD (t3.toNat) (0,0,[],())).2.1,(BM.getD (t3.toNat) (0,0,[],())).2.2.1,()) ((Bm.getD (t4.toNat) (0,[],false,())).1)).bind fun u8=>
    cond (u8.1.1)
     (cond (!u4.1.1.2.1)
      (some ((false,()),()))
     (R7 t3 (AW (t4+1)) t15 t16 AQ AF Ah BA BH AM Bj Bi BM Bm AG))
    (R7 t3 (AW (t4+1)) t15 t16 AQ AF Ah BA BH AM Bj Bi BM Bm AG))else none)
   (R7 t3 (AW (t4+1)) t15 t16 AQ AF Ah BA BH AM Bj Bi BM Bm AG))
  (R7 t3 (AW (t4+1)) t15 t16 AQ AF Ah BA BH AM Bj Bi BM Bm AG))else none)else none)
 (R4 (AW (t3+1)) AQ AF Ah BA BH AM Bj Bi BM Bm AG)
mutual
def Ge:Nat->Ny
 |0=>fun _ _ _ _ _ _ _ _ _ _ _ _=>none
 |n+1=>WA (Ge n) (Ga n)
def Ga:Nat->Ni
 |0=>fun _ _ _ _ _ _ _ _ _ _ _ _ _ _ _=>none
 |n+1=>O3 (Ge n) (Ga n)
end
def Vq(R4:Ny)(R7:Ni)(p0:AAi):Option I5:=
 (HX (p0.1,p0.2.1,p0.2.2.1,p0.2.2.2.1,p0.2.2.2.2.1,p0.2.2.2.2.2.1,p0.2.2.2.2.2.2.1,p0.2.2.2.2.2.2.2.1,p0.2.2.2.2.2.2.2.2.1,p0.2.2.2.2.2.2.2.2.2.1,p0.2.2.2.2.2.2.2.2.2.2.1,())).bind fun u1=>
 cond (!u1.1.1)
  (some ((false,()),()))
 (R4 0 p0.1 p0.2.1 p0.2.2.1 p0.2.2.2.1 p0.2.2.2.2.1 p0.2.2.2.2.2.1 p0.2.2.2.2.2.2.1 p0.2.2.2.2.2.2.2.1 p0.2.2.2.2.2.2.2.2.1 p0.2.2.2.2.2.2.2.2.2.1 p0.2.2.2.2.2.2.2.2.2.2.1)
def TJ(p0:AAi):Option I5:=Vq (Ge AX) (Ga AX) p0
abbrev H8:Type:=AAg×Unit
abbrev Ml:Type:=Int->List Int->Int->AAT->List Int->AAU->Int->AAX->AAY->AAV->AAW->Bool->Option H8
abbrev MS:Type:=Int->Int->Bool->Bool->List Int->Int->AAT->List Int->AAU->Int->AAX->AAY->AAV->AAW->Bool->Option H8
def Tr(R4:Ml)(R7:MS)(t3:Int)(AQ:AAN)(AF:Int)(Ah:AAT)(BA:AAN)(BH:AAU)(AM:Int)(Bj:AAX)(Bi:AAY)(BM:AAV)(Bm:AAW)(AG:Bool):Option H8:=
 cond (decide (t3<2))
  (cond (!AG)
   (R7 t3 0 AG (!AG) AQ AF Ah BA BH AM Bj Bi BM Bm AG)
  (some ((true,()),())))
 (some ((true,()),()))
def NY(R4:Ml)(R7:MS)(t3 t4:Int)(t12 t13:Bool)(AQ:AAN)(AF:Int)(Ah:AAT)(BA:AAN)(BH:AAU)(AM:Int)(Bj:AAX)(Bi:AAY)(BM:AAV)(Bm:AAW)(AG:Bool):Option H8:=
 if(0:Int)<=t3/\t3<(BM.length:Int)then(
 cond (decide (t4<(((BM.getD (t3.toNat) (0,0,[],())).2.2.1).length:Int)))
  (if(0:Int)<=t3/\t3<(BM.length:Int)then(
  if(0:Int)<=t4/\t4<(((BM.getD (t3.toNat) (0,0,[],())).2.2.1).length:Int)then(
  cond (((((BM.getD (t3.toNat) (0,0,[],())).2.2.1).getD (t4.toNat) (0,0,[],())).1)==3)
   (some ((false,()),()))
  (R7 t3 (AW (t4+1)) t12 t13 AQ AF Ah BA BH AM Bj Bi BM Bm AG))else none)else none)
 (R4 (AW (t3+1)) AQ AF Ah BA BH AM Bj Bi BM Bm AG))else none
mutual
def Dy:Nat->Ml
 |0=>fun _ _ _ _ _ _ _ _ _ _ _ _=>none
 |n+1=>Tr (Dy n) (Fp n)
def Fp:Nat->MS
 |0=>fun _ _ _ _ _ _ _ _ _ _ _ _ _ _ _=>none
 |n+1=>NY (Dy n) (Fp n)
end
def Tl(R4:Ml)(R7:MS)(p0:AAi):Option H8:=
 (HX (p0.1,p0.2.1,p0.2.2.1,p0.2.2.2.1,p0.2.2.2.2.1,p0.2.2.2.2.2.1,p0.2.2.2.2.2.2.1,p0.2.2.2.2.2.2.2.1,p0.2.2.2.2.2.2.2.2.1,p0.2.2.2.2.2.2.2.2.2.1,p0.2.2.2.2.2.2.2.2.2.2.1,())).bind fun u1=>
 cond (!u1.1.1)
  (some ((false,()),()))
 (R4 0 p0.1 p0.2.1 p0.2.2.1 p0.2.2.2.1 p0.2.2.2.2.1 p0.2.2.2.2.2.1 p0.2.2.2.2.2.2.1 p0.2.2.2.2.2.2.2.1 p0.2.2.2.2.2.2.2.2.1 p0.2.2.2.2.2.2.2.2.2.1 p0.2.2.2.2.2.2.2.2.2.2.1)
def Qt(p0:AAi):Option H8:=Tl (Dy AX) (Fp AX) p0
abbrev Qb:Type:=AAg×Unit
abbrev UZ:Type:=Int->List Int->Int->AAT->List Int->AAU->Int->AAX->AAY->AAV->AAW->Bool->Int->Int->ACH->Int->Int->ACH->Option Qb
def P8(R2:UZ)(t7:Int)(AQ:AAN)(AF:Int)(Ah:AAT)(BA:AAN)(BH:AAU)(AM:Int)(Bj:AAX)(Bi:AAY)(BM:AAV)(Bm:AAW)(AG:Bool)(B7 Ba:Int)(CO:ACH)(Wb fc:Int)(AAL:ACH):Option Qb:=
 cond ((decide (t7<(CO.length:Int))))
  (if(0:Int)<=t7/\t7<(CO.length:Int)then(
  cond (((CO.getD (t7.toNat) (0,0,[],())).1) !=1)
   (R2 (AW (t7+1)) AQ AF Ah BA BH AM Bj Bi BM Bm AG B7 Ba CO Wb fc AAL)
  ((E9 ((CO.getD (t7.toNat) (0,0,[],())).2.1)).bind fun u4=>
  cond (!u4.1.1)
   (R2 (AW (t7+1)) AQ AF Ah BA BH AM Bj Bi BM Bm AG B7 Ba CO Wb fc AAL)
  (cond (decide (((CO.getD (t7.toNat) (0,0,[],())).2.1)<=AM))
   (R2 (AW (t7+1)) AQ AF Ah BA BH AM Bj Bi BM Bm AG B7 Ba CO Wb fc AAL)
  ((Ht (B7,Ba,CO,()) ((CO.getD (t7.toNat) (0,0,[],())).2.1)).bind fun u7=>
  cond (!u7.1.1)
   (R2 (AW (t7+1)) AQ AF Ah BA BH AM Bj Bi BM Bm AG B7 Ba CO Wb fc AAL)
  ((Ht (Wb,fc,AAL,()) ((CO.getD (t7.toNat) (0,0,[],())).2.1)).bind fun u9=>
  cond (!u9.1.1)
   (R2 (AW (t7+1)) AQ AF Ah BA BH AM Bj Bi BM Bm AG B7 Ba CO Wb fc AAL)
  ((Mc (B7,Ba,CO,()) ((CO.getD (t7.toNat) (0,0,[],())).2.1)).bind fun Hj=>
  (Mc (Wb,fc,AAL,()) ((CO.getD (t7.toNat) (0,0,[],())).2.1)).bind fun WL=>
  cond (!WL.1.1.2.1)
   (some ((false,()),()))
  (cond ((!(WL.1.1.1==Hj.1.1.1)))
   (some ((false,()),()))
  (R2 (AW (t7+1)) AQ AF Ah BA BH AM Bj Bi BM Bm AG B7 Ba CO Wb fc AAL))))))))else none)
 (some ((true,()),()))
def JQ:Nat->UZ
 |0=>fun _ _ _ _ _ _ _ _ _ _ _ _ _ _ _ _ _ _=>none
 |n+1=>P8 (JQ n)
def XA(R2:UZ)(p0:AAi)(p1 p2:ACD):Option Qb:=
 R2 0 p0.1 p0.2.1 p0.2.2.1 p0.2.2.2.1 p0.2.2.2.2.1 p0.2.2.2.2.2.1 p0.2.2.2.2.2.2.1 p0.2.2.2.2.2.2.2.1 p0.2.2.2.2.2.2.2.2.1 p0.2.2.2.2.2.2.2.2.2.1 p0.2.2.2.2.2.2.2.2.2.2.1 p1.1 p1.2.1 p1.2.2.1 p2.1 p2.2.1 p2.2.2.1
def QG(p0:AAi)(p1 p2:ACD):Option Qb:=XA (JQ AX) p0 p1 p2
abbrev mB:Type:=AAg×Unit
def Sr(p0:AAi):Option mB:=
 (HX (p0.1,p0.2.1,p0.2.2.1,p0.2.2.2.1,p0.2.2.2.2.1,p0.2.2.2.2.2.1,p0.2.2.2.2.2.2.1,p0.2.2.2.2.2.2.2.1,p0.2.2.2.2.2.2.2.2.1,p0.2.2.2.2.2.2.2.2.2.1,p0.2.2.2.2.2.2.2.2.2.2.1,())).bind fun u1=>
 cond (!u1.1.1)
  (some ((false,()),()))
 (cond (p0.2.2.2.2.2.2.2.2.2.2.1)
  (some ((true,()),()))
 (if(0:Int)<=(0:Int)/\(0:Int)<(p0.2.2.2.2.2.2.2.2.1.length:Int)then(
 if(0:Int)<=(1:Int)/\(1:Int)<(p0.2.2.2.2.2.2.2.2.1.length:Int)then(
 (QG (p0.1,p0.2.1,p0.2.2.1,p0.2.2.2.1,p0.2.2.2.2.1,p0.2.2.2.2.2.1,p0.2.2.2.2.2.2.1,p0.2.2.2.2.2.2.2.1,p0.2.2.2.2.2.2.2.2.1,p0.2.2.2.2.2.2.2.2.2.1,p0.2.2.2.2.2.2.2.2.2.2.1,()) ((p0.2.2.2.2.2.2.2.2.1.getD 0 (0,0,[],())).1,(p0.2.2.2.2.2.2.2.2.1.getD 0 (0,0,[],())).2.1,(p0.2.2.2.2.2.2.2.2.1.getD 0 (0,0,[],())).2.2.1,()) ((p0.2.2.2.2.2.2.2.2.1.getD 1 (0,0,[],())).1,(p0.2.2.2.2.2.2.2.2.1.getD 1 (0,0,[],())).2.1,(p0.2.2.2.2.2.2.2.2.1.getD 1 (0,0,[],())).2.2.1,())).bind fun u3=>
 cond (u3.1.1)
  (if(0:Int)<=(1:Int)/\(1:Int)<(p0.2.2.2.2.2.2.2.2.1.length:Int)then(
  if(0:Int)<=(0:Int)/\(0:Int)<(p0.2.2.2.2.2.2.2.2.1.length:Int)then(
  (QG (p0.1,p0.2.1,p0.2.2.1,p0.2.2.2.1,p0.2.2.2.2.1,p0.2.2.2.2.2.1,p0.2.2.2.2.2.2.1,p0.2.2.2.2.2.2.2.1,p0.2.2.2.2.2.2.2.2.1,p0.2.2.2.2.2.2.2.2.2.1,p0.2.2.2.2.2.2.2.2.2.2.1,()) ((p0.2.2.2.2.2.2.2.2.1.getD 1 (0,0,[],())).1,(p0.2.2.2.2.2.2.2.2.1.getD 1 (0,0,[],())).2.1,(p0.2.2.2.2.2.2.2.2.1.getD 1 (0,0,[],())).2.2.1,()) ((p0.2.2.2.2.2.2.2.2.1.getD 0 (0,0,[],())).1,(p0.2.2.2.2.2.2.2.2.1.getD 0 (0,0,[],())).2.1,(p0.2.2.2.2.2.2.2.2.1.getD 0 (0,0,[],())).2.2.1,())).bind fun u4=>
  some ((u4.1.1,()),()))else none)else none)
 (some ((false,()),())))else none)else none))
abbrev uK:Type:=AAv×Unit
def VX(p0:AAN)(p1:Int):Option uK:=
 let x1:Int:=AW (p1-(p0.length:Int))
 cond (decide (x1<0))
  (some (((-1),()),()))
 (some ((x1,()),()))
abbrev pw:Type:=AAv×Unit
def VO(p0:AAb)(p1:Int):Option pw:=
 (VX p0.1 p1).bind fun u1=>
 cond (decide (u1.1.1<0))
  (some (((-1),()),()))
 (some ((u1.1.1,()),()))
abbrev Ut:Type:=ABW×ACE
abbrev ZK:Type:=List Int->Int->List Int->Option Ut
def aD(R3:ZK)(t0:AAN)(t4:Int)(b0:AAN):Option Ut:=
 cond ((decide (t4<(t0.length:Int))))
  (if(0:Int)<=t4/\t4<(t0.length:Int)then(
  if(0:Int)<=t4/\t4<(b0.length:Int)then(
  R3 t0 (AW (t4+1)) (b0.set (t4.toNat) (t0.getD (t4.toNat) 0)))else none)else none)
 (some (((),()),(b0,())))
def OU:Nat->ZK
 |0=>fun _ _ _=>none
 |n+1=>aD (OU n)
def aL(R3:ZK)(p0:AAN):Option Ut:=
 if(0:Int)<=(p0.length:Int)/\(p0.length:Int)<=(p0.length:Int)/\(p0.length:Int)<=(Cm:Int)then(
 R3 p0 0 (List.replicate ((p0.length:Int).toNat) 0))else none
def aB(p0:AAN):Option Ut:=aL (OU AX) p0
abbrev pk:Type:=AEW×ACE
def M7(p0:AAb):Option pk:=
 (aB p0.1).bind fun u1=>
 some ((((),p0.2.1,()),()),(u1.2.1,()))
abbrev U1:Type:=AAg×Unit
abbrev YO:Type:=List Int->List Int->Int->Option U1
def Zr(R4:YO)(t0 t1:AAN)(t5:Int):Option U1:=
 cond ((decide (t5<(t0.length:Int))))
  (if(0:Int)<=t5/\t5<(t0.length:Int)then(
  if(0:Int)<=t5/\t5<(t1.length:Int)then(
  cond ((t0.getD (t5.toNat) 0) !=(t1.getD (t5.toNat) 0))
   (some ((false,()),()))
  (R4 t0 t1 (AW (t5+1))))else none)else none)
 (some ((true,()),()))
def Ol:Nat->YO
 |0=>fun _ _ _=>none
 |n+1=>Zr (Ol n)
def Z6(R4:YO)(p0 p1:AAN):Option U1:=
 cond (((p0.length:Int) !=(p1.length:Int)))
  (some ((false,()),()))
 (R4 p0 p1 0)
def aC(p0 p1:AAN):Option U1:=Z6 (Ol AX) p0 p1
abbrev pt:Type:=AAg×Unit
def Uu(p0 p1:AAb):Option pt:=
 (aC p0.1 p1.1).bind fun u1=>
 cond (!u1.1.1)
  (some ((false,()),()))
 (cond (p0.2.1 !=p1.2.1)
  (some ((false,()),()))
 (some ((true,()),())))
abbrev eK:Type:=AEW×AD2
def EF(p0:AAb)(p1:AA6):Option eK:=
 (Ks (p0.1,p0.2.1,()) (p1.1,p1.2.1,())).bind fun u1=>
 cond (!u1.1.1)
  (some ((((),0,()),()),([],())))
 ((EL (p1.1,p1.2.1,())).bind fun u2=>
 some ((((),u2.1.1.2.1,()),()),(u2.2.1,())))
abbrev fM:Type:=(AGq×Unit)×AD2
def MV(p0:AAb)(p1:AA6)(p2:AAN):Option fM:=
 (Ks (p0.1,p0.2.1,()) (p1.1,p1.2.1,())).bind fun u1=>
 cond (!u1.1.1)
  ((EF (p0.1,p0.2.1,()) (p1.1,p1.2.1,())).bind fun u2=>
  some (((((),u2.1.1.2.1,()),0,false,()),()),(u2.2.1,())))
 ((Gq (p0.1,p0.2.1,()) p2).bind fun u3=>
 cond (!u3.1.1)
  ((EF (p0.1,p0.2.1,()) (p1.1,p1.2.1,())).bind fun u4=>
  some (((((),u4.1.1.2.1,()),0,false,()),()),(u4.2.1,())))
 (cond (((p1.1.length:Int)==30))
  ((EF (p0.1,p0.2.1,()) (p1.1,p1.2.1,())).bind fun u6=>
  some (((((),u6.1.1.2.1,()),0,false,()),()),(u6.2.1,())))
 ((EL (p1.1,p1.2.1,())).bind fun u7=>
 (DD p2).bind fun u8=>
 if u7.2.1.length+1<=Cm then(
 let x9:AAU:=u7.2.1++[(u8.2.1,false,0,())]
 some (((((),u7.1.1.2.1,()),(x9.length:Int),true,()),()),(x9,())))else none)))
abbrev Zn:Type:=AAv×(ADq×List Int×AAT×List Int×Unit×Unit×Unit×AAV×AAW×AAU×AAX×AAY×Unit)
def KG(p1 AF AM:Int)(AG:Bool)(b1:AAN)(b2:AAT)(b3:AAN)(b4:AAU)(b5:AAX)(b6:AAY)(b7:AAV)(b8:AAW):Option Zn:=
 cond (((b5.length:Int)==4))
  (some ((4,()),(((),AF,(),(),(),AM,(),(),(),(),AG,()),b1,b2,b3,(),(),(),b7,b8,b4,b5,b6,())))
 ((Hp p1).bind fun u2=>
 (MV (b1,AF,()) (b4,AM,()) u2.2.1).bind fun u3=>
 cond (!u3.1.1.2.2.1)
  (some ((4,()),(((),AF,(),(),(),AM,(),(),(),(),AG,()),b1,b2,b3,(),(),(),b7,b8,b4,b5,b6,())))
 (if b5.length+1<=Cm then(
 some ((0,()),(((),AF,(),(),(),u3.1.1.1.2.1,(),(),(),(),AG,()),b1,b2,b3,(),(),(),b7,b8,u3.2.1,(b5++[(u3.1.1.2.1,[],())]),[],())))else none))
abbrev X_:Type:=AE2×AD3
def EG(p0:AAb)(p1:ABL):Option X_:=
 (GP (p0.1,p0.2.1,()) (p1.1,p1.2.1,())).bind fun u1=>
 cond (!u1.1.1)
  (some (((0,(),()),()),([],())))
 ((Fc (p1.1,p1.2.1,())).bind fun u2=>
 some (((u2.1.1.1,(),()),()),(u2.2.1,())))
abbrev bh:Type:=(AGr×Unit)×AD3
def Jo(p0:AAb)(p1:ABL)(p2:AAZ):Option bh:=
 (Fc (p1.1,p1.2.1,())).bind fun u1=>
 if u1.2.1.length+1<=Cm then(
 let x2:ABI:=u1.2.1++[(p2,[],false,())]
 (GP (p0.1,p0.2.1,()) (p1.1,p1.2.1,())).bind fun u3=>
 cond (!u3.1.1)
  ((EG (p0.1,p0.2.1,()) (p1.1,p1.2.1,())).bind fun u4=>
  some ((((u4.1.1.1,(),()),0,false,()),()),(u4.2.1,())))
 ((GP (p0.1,p0.2.1,()) (u1.1.1.1,x2,())).bind fun u5=>
 cond (!u5.1.1)
  ((EG (p0.1,p0.2.1,()) (p1.1,p1.2.1,())).bind fun u6=>
  some ((((u6.1.1.1,(),()),0,false,()),()),(u6.2.1,())))
 (some ((((u1.1.1.1,(),()),(x2.length:Int),true,()),()),(x2,())))))else none
abbrev ea:Type:=AAv×Unit
def K_(p0:AFV)(p1:Int):Option ea:=
 some ((AW (p0.1-p1),()),())
abbrev BO:Type:=ADw×Unit
abbrev Bq:Type:=AAW->Int->Int->Int->Int->Option BO
def Cg(R3:Bq)(t0:AAW)(t1 t8 t9 t10:Int):Option BO:=
 cond (decide (t9<t10))
  (let x2:Int:=AW ((IntKind.wrap .u64 (AW (t9+t10))).fdiv (2^1))
  if(0:Int)<=x2/\x2<(t0.length:Int)then(
  (K_ ((t0.getD (x2.toNat) (0,[],false,())).1,(t0.getD (x2.toNat) (0,[],false,())).2.1,(t0.getD (x2.toNat) (0,[],false,())).2.2.1,()) t1).bind fun u3=>
  cond (decide (u3.1.1<0))
   (R3 t0 t1 t8 (AW (x2+1)) t10)
  (R3 t0 t1 t8 t9 x2))else none)
 (cond (decide (t9<t8))
  (if(0:Int)<=t9/\t9<(t0.length:Int)then(
  (K_ ((t0.getD (t9.toNat) (0,[],false,())).1,(t0.getD (t9.toNat) (0,[],false,())).2.1,(t0.getD (t9.toNat) (0,[],false,())).2.2.1,()) t1).bind fun u4=>
  some (((t9,u4.1.1==0,()),()),()))else none)
 (some (((t9,false,()),()),())))
def As:Nat->Bq
 |0=>fun _ _ _ _ _=>none
 |n+1=>Cg (As n)
def Cf(R3:Bq)(p0:AAW)(p1:Int):Option BO:=
 R3 p0 p1 (p0.length:Int) 0 (p0.length:Int)
def BT(p0:AAW)(p1:Int):Option BO:=Cf (As AX) p0 p1
abbrev Wo:Type:=ADw×Unit
def ID(p0:AAi)(p1:Int):Option Wo:=
 (BT p0.2.2.2.2.2.2.2.2.2.1 p1).bind fun u1=>
 some (((u1.1.1.1,u1.1.1.2.1,()),()),())
abbrev I0:Type:=ABW×(Unit×AAW×Unit)
def EA(p1:Int)(p2 b0:AAW):Option I0:=(z6 p1 p2 b0).map fun l=>(((),()),((),l,()))
abbrev b_:Type:=AAv×(ADq×List Int×AAT×List Int×AAU×AAX×AAY×AAV×Unit×AAW×Unit)
def LL(p1:Int)(p2:AAZ)(AF AM:Int)(AG:Bool)(b1:AAN)(b2:AAT)(b3:AAN)(b4:AAU)(b5:AAX)(b6:AAY)(b7:AAV)(b8:AAW):Option b_:=
 (Ay p1 0 (AW ((b5.length:Int)-1))).bind fun u2=>
 cond (!u2.1.1)
  (some ((2,()),(((),AF,(),(),(),AM,(),(),(),(),AG,()),b1,b2,b3,b4,b5,b6,b7,(),b8,())))
 (if(0:Int)<=p1/\p1<(b5.length:Int)then(
 (Jo (b1,AF,()) ((b5.getD (p1.toNat) (0,[],())).1,(b5.getD (p1.toNat) (0,[],())).2.1,()) p2).bind fun u3=>
 (DP u3.1.1.1.1 u3.1.1.2.1).bind fun u4=>
 (ID (b1,AF,b2,b3,b4,AM,b5,b6,b7,b8,AG,()) u4.1.1.1).bind fun u5=>
 cond (!u3.1.1.2.2.1)
  (some ((4,()),(((),AF,(),(),(),AM,(),(),(),(),AG,()),b1,b2,b3,b4,b5,b6,b7,(),b8,())))
 (cond (((b8.length:Int)==120))
  (some ((4,()),(((),AF,(),(),(),AM,(),(),(),(),AG,()),b1,b2,b3,b4,b5,b6,b7,(),b8,())))
 (cond (u5.1.1.2.1)
  (some ((4,()),(((),AF,(),(),(),AM,(),(),(),(),AG,()),b1,b2,b3,b4,b5,b6,b7,(),b8,())))
 (if(0:Int)<=p1/\p1<(b5.length:Int)then(
 (EA u5.1.1.1 [(u4.1.1.1,p2,false,())] b8).bind fun u8=>
 some ((0,()),(((),AF,(),(),(),AM,(),(),(),(),AG,()),b1,b2,b3,b4,(b5.set (p1.toNat) (u3.1.1.1.1,u3.2.1,())),b6,b7,(),u8.2.2.1,())))else none))))else none)
abbrev ec:Type:=AAv×Unit
def EH(p0:AAi)(p1:Int):Option ec:=
 (Ay p1 0 (AW ((p0.2.2.1.length:Int)-1))).bind fun u2=>
 cond (!u2.1.1)
  (some ((2,()),()))
 ((C4 p0 p1).bind fun u3=>
 cond (u3.1.1)
  (some ((3,()),()))
 (some ((0,()),())))
abbrev eF:Type:=ABW×ACE
def Is(p0:AA6)(p1:Int):Option eF:=
 (Ay p1 1 (p0.1.length:Int)).bind fun u1=>
 cond (!u1.1.1)
  (some (((),()),([],())))
 (if(0:Int)<=AW (p1-1)/\AW (p1-1)<(p0.1.length:Int)then(
 (DD ((p0.1.getD ((AW (p1-1)).toNat) ([],false,0,())).1)).bind fun u2=>
 some (((),()),(u2.2.1,())))else none)
abbrev Hz:Type:=AAv×Unit
def Dd(p0:AAi)(p1 p2:Int):Option Hz:=
 (EH p0 p1).bind fun u1=>
 cond (u1.1.1==0)
  ((Is (p0.2.2.2.2.1,p0.2.2.2.2.2.1,()) p2).bind fun u2=>
  (Bp u2.2.1 p1).bind fun u3=>
  cond (!u3.1.1)
   (some ((2,()),()))
  (some ((u1.1.1,()),())))
 (some ((u1.1.1,()),()))
abbrev j5:Type:=AEf×ADS
def Dh(p0:ABR):Option j5:=
 (Ey (p0.1,p0.2.1,p0.2.2.1,())).bind fun u1=>
 cond (!u1.1.1)
  (some ((((),(),0,()),()),([],[],())))
 ((C6 (p0.1,p0.2.1,p0.2.2.1,())).bind fun u2=>
 some ((((),(),u2.1.1.2.2.1,()),()),(u2.2.1,u2.2.2.1,())))
abbrev pq:Type:=ADW×ADS
def VD(p0:ABR)(p1:ACv):Option pq:=
 (Ey (p0.1,p0.2.1,p0.2.2.1,())).bind fun u1=>
 cond (!u1.1.1)
  ((Dh (p0.1,p0.2.1,p0.2.2.1,())).bind fun u2=>
  some (((((),(),u2.1.1.2.2.1,()),false,()),()),(u2.2.1,u2.2.2.1,())))
 ((MD (p1.1,p1.2.1,p1.2.2.1,p1.2.2.2.1,())).bind fun u3=>
 cond (!u3.1.1)
  ((Dh (p0.1,p0.2.1,p0.2.2.1,())).bind fun u4=>
  some (((((),(),u4.1.1.2.2.1,()),false,()),()),(u4.2.1,u4.2.2.1,())))
 (cond ((p0.2.1.length:Int)==20)
  ((Dh (p0.1,p0.2.1,p0.2.2.1,())).bind fun u6=>
  some (((((),(),u6.1.1.2.2.1,()),false,()),()),(u6.2.1,u6.2.2.1,())))
 (cond (p1.2.1==0)
  ((EM p1.1).bind fun u7=>
  cond ((decide (u7.1.1<=p0.2.2.1)))
   ((C6 (p0.1,p0.2.1,p0.2.2.1,())).bind fun u9=>
   some (((((),(),u9.1.1.2.2.1,()),false,()),()),(u9.2.1,u9.2.2.1,())))
  (cond (decide (p1.2.1>0))
   (cond ((decide (p1.2.1<=p0.2.2.1)))
    ((C6 (p0.1,p0.2.1,p0.2.2.1,())).bind fun Hj=>
    some (((((),(),Hj.1.1.2.2.1,()),false,()),()),(Hj.2.1,Hj.2.2.1,())))
   ((C6 (p0.1,p0.2.1,p0.2.2.1,())).bind fun Th=>
   if Th.2.2.1.length+1<=Cm then(
   some (((((),(),Th.1.1.2.2.1,()),true,()),()),(Th.2.1,(Th.2.2.1++[(p1.1,p1.2.1,p1.2.2.1,p1.2.2.2.1,())]),())))else none))
  ((C6 (p0.1,p0.2.1,p0.2.2.1,())).bind fun Pd=>
  if Pd.2.2.1.length+1<=Cm then(
  some (((((),(),Pd.1.1.2.2.1,()),true,()),()),(Pd.2.1,(Pd.2.2.1++[(p1.1,p1.2.1,p1.2.2.1,p1.2.2.2.1,())]),())))else none)))
 (cond (decide (p1.2.1>0))
  (cond ((decide (p1.2.1<=p0.2.2.1)))
   ((C6 (p0.1,p0.2.1,p0.2.2.1,())).bind fun qF=>
   some (((((),(),qF.1.1.2.2.1,()),false,()),()),(qF.2.1,qF.2.2.1,())))
  ((C6 (p0.1,p0.2.1,p0.2.2.1,())).bind fun rZ=>
  if rZ.2.2.1.length+1<=Cm then(
  some (((((),(),rZ.1.1.2.2.1,()),true,()),()),(rZ.2.1,(rZ.2.2.1++[(p1.1,p1.2.1,p1.2.2.1,p1.2.2.2.1,())]),())))else none))
 ((C6 (p0.1,p0.2.1,p0.2.2.1,())).bind fun iG=>
 if iG.2.2.1.length+1<=Cm then(
 some (((((),(),iG.1.1.2.2.1,()),true,()),()),(iG.2.1,(iG.2.2.1++[(p1.1,p1.2.1,p1.2.2.1,p1.2.2.2.1,())]),())))else none)))))
abbrev fD:Type:=AAv×Unit
def J8(p0:Bool):Option fD:=
 cond (p0)
  (some ((0,()),()))
 (some ((4,()),()))
abbrev bw:Type:=AAv×ADj
def L8(p1:Int)(p2:ACv)(AF AM:Int)(AG:Bool)(b1:AAN)(b2:AAT)(b3:AAN)(b4:AAU)(b5:AAX)(b6:AAY)(b7:AAV)(b8:AAW):Option bw:=
 if(0:Int)<=p1/\p1<(b2.length:Int)then(
 (VD ((b2.getD (p1.toNat) ([],[],0,())).1,(b2.getD (p1.toNat) ([],[],0,())).2.1,(b2.getD (p1.toNat) ([],[],0,())).2.2.1,()) (p2.1,p2.2.1,p2.2.2.1,p2.2.2.2.1,())).bind fun u1=>
 cond (u1.1.1.2.1)
  (if(0:Int)<=p1/\p1<(b2.length:Int)then(
  (J8 u1.1.1.2.1).bind fun u3=>
  some ((u3.1.1,()),(((),AF,(),(),(),AM,(),(),(),(),AG,()),b1,(b2.set (p1.toNat) (u1.2.1,u1.2.2.1,u1.1.1.1.2.2.1,())),b3,b4,b5,b6,b7,b8,())))else none)
 ((J8 u1.1.1.2.1).bind fun u4=>
 some ((u4.1.1,()),(((),AF,(),(),(),AM,(),(),(),(),AG,()),b1,b2,b3,b4,b5,b6,b7,b8,()))))else none
abbrev jm:Type:=AAv×ADj
def JP(p1:ABX)(AF AM:Int)(AG:Bool)(b1:AAN)(b2:AAT)(b3:AAN)(b4:AAU)(b5:AAX)(b6:AAY)(b7:AAV)(b8:AAW):Option jm:=
 (Ay p1.2.1 0 (AW ((b5.length:Int)-1))).bind fun u2=>
 cond (!u2.1.1)
  (some ((2,()),(((),AF,(),(),(),AM,(),(),(),(),AG,()),b1,b2,b3,b4,b5,b6,b7,b8,())))
 (if(0:Int)<=p1.2.1/\p1.2.1<(b5.length:Int)then(
 (Ay p1.2.2.1 1 (((b5.getD (p1.2.1.toNat) (0,[],())).2.1).length:Int)).bind fun u4=>
 cond (!u4.1.1)
  (some ((2,()),(((),AF,(),(),(),AM,(),(),(),(),AG,()),b1,b2,b3,b4,b5,b6,b7,b8,())))
 ((Dd (b1,AF,b2,b3,b4,AM,b5,b6,b7,b8,AG,()) p1.2.2.2.1 ((b5.getD (p1.2.1.toNat) (0,[],())).1)).bind fun u6=>
 cond (u6.1.1 !=0)
  (some ((u6.1.1,()),(((),AF,(),(),(),AM,(),(),(),(),AG,()),b1,b2,b3,b4,b5,b6,b7,b8,())))
 ((DP ((b5.getD (p1.2.1.toNat) (0,[],())).1) p1.2.2.1).bind fun u8=>
 if(0:Int)<=AW (p1.2.2.1-1)/\AW (p1.2.2.1-1)<(((b5.getD (p1.2.1.toNat) (0,[],())).2.1).length:Int)then(
 (L8 p1.2.2.2.1 (u8.1.1.1,0,false,((((b5.getD (p1.2.1.toNat) (0,[],())).2.1).getD ((AW (p1.2.2.1-1)).toNat) ([],[],false,())).1),()) AF AM AG b1 b2 b3 b4 b5 b6 b7 b8).bind fun FE=>
 some ((FE.1.1,()),(((),FE.2.1.2.1,(),(),(),FE.2.1.2.2.2.2.2.1,(),(),(),(),FE.2.1.2.2.2.2.2.2.2.2.2.2.1,()),FE.2.2.1,FE.2.2.2.1,FE.2.2.2.2.1,FE.2.2.2.2.2.1,FE.2.2.2.2.2.2.1,FE.2.2.2.2.2.2.2.1,FE.2.2.2.2.2.2.2.2.1,FE.2.2.2.2.2.2.2.2.2.1,())))else none)))else none)
abbrev PK:Type:=ABW×AFz
def Dr(p1:Int)(p2 b0:AAa):Option PK:=(z6 p1 p2 b0).map fun l=>(((),()),((),l,()))
abbrev yj:Type:=ABW×AFz
def Xy(p1:ACv)(b0:AAa):Option yj:=
 (S6 b0 p1.1).bind fun u1=>
 cond (!u1.1.1.2.1)
  ((Dr u1.1.1.1 [(p1.1,p1.2.1,p1.2.2.1,p1.2.2.2.1,())] b0).bind fun u2=>
  some (((),()),((),u2.2.2.1,())))
 (if(0:Int)<=u1.1.1.1/\u1.1.1.1<(b0.length:Int)then(
 (Rj ((b0.getD (u1.1.1.1.toNat) (0,0,false,[],())).1,(b0.getD (u1.1.1.1.toNat) (0,0,false,[],())).2.1,(b0.getD (u1.1.1.1.toNat) (0,0,false,[],())).2.2.1,(b0.getD (u1.1.1.1.toNat) (0,0,false,[],())).2.2.2.1,()) (p1.1,p1.2.1,p1.2.2.1,p1.2.2.2.1,())).bind fun u3=>
 if(0:Int)<=u1.1.1.1/\u1.1.1.1<(b0.length:Int)then(
 some (((),()),((),(b0.set (u1.1.1.1.toNat) (u3.1.1.1,u3.1.1.2.1,u3.1.1.2.2.1,u3.1.1.2.2.2.1,())),())))else none)else none)
abbrev N2:Type:=ADW×ADS
abbrev Q5:Type:=Int->AAa->Int->Int->AAa->AAa->Int->Int->AAa->AAa->Int->AAa->AAa->Option N2
def Tz(R6:Q5)(t1:Int)(t23:AAa)(t24 t25:Int)(AQ AF:AAa)(Ah CO:Int)(b2 b3:AAa)(cc:Int)(b5 b6:AAa):Option N2:=
 cond (decide (t25<t24))
  (if(0:Int)<=t25/\t25<(t23.length:Int)then(
  if t25<0 then none else(
  cond (((tO .i64 (t1.fdiv (2^(min t25.toNat 64))) 1)==1))
   ((Xy ((t23.getD (t25.toNat) (0,0,false,[],())).1,(t23.getD (t25.toNat) (0,0,false,[],())).2.1,(t23.getD (t25.toNat) (0,0,false,[],())).2.2.1,(t23.getD (t25.toNat) (0,0,false,[],())).2.2.2.1,()) b5).bind fun u9=>
   R6 t1 t23 t24 (AW (t25+1)) AQ AF Ah CO b2 b3 cc u9.2.2.1 b6)
  (R6 t1 t23 t24 (AW (t25+1)) AQ AF Ah CO b2 b3 cc b5 b6)))else none)
 (cond ((decide ((b5.length:Int)>200)))
  ((C6 (AQ,AF,Ah,())).bind fun Hj=>
  some (((((),(),Hj.1.1.2.2.1,()),false,()),()),(Hj.2.1,Hj.2.2.1,())))
 (some (((((),(),cc,()),true,()),()),(b5,b6,()))))
def Jq:Nat->Q5
 |0=>fun _ _ _ _ _ _ _ _ _ _ _ _ _=>none
 |n+1=>Tz (Jq n)
def UA(R6:Q5)(p0:ABR)(p1:Int):Option N2:=
 (Ey (p0.1,p0.2.1,p0.2.2.1,())).bind fun u1=>
 cond (!u1.1.1)
  ((Dh (p0.1,p0.2.1,p0.2.2.1,())).bind fun u2=>
  some (((((),(),u2.1.1.2.2.1,()),false,()),()),(u2.2.1,u2.2.2.1,())))
 ((Ay p1 0 1048575).bind fun u3=>
 cond (!u3.1.1)
  ((Dh (p0.1,p0.2.1,p0.2.2.1,())).bind fun u4=>
  some (((((),(),u4.1.1.2.2.1,()),false,()),()),(u4.2.1,u4.2.2.1,())))
 ((C6 (p0.1,p0.2.1,p0.2.2.1,())).bind fun u5=>
 R6 p1 p0.2.1 (p0.2.1.length:Int) 0 p0.1 p0.2.1 p0.2.2.1 0 [] [] u5.1.1.2.2.1 u5.2.1 []))
def Mn(p0:ABR)(p1:Int):Option N2:=UA (Jq AX) p0 p1
abbrev nC:Type:=ADW×ADS
def Om(p0:ABR):Option nC:=
 (Mn (p0.1,p0.2.1,p0.2.2.1,()) 1048575).bind fun u1=>
 some (((((),(),u1.1.1.1.2.2.1,()),u1.1.1.2.1,()),()),(u1.2.1,u1.2.2.1,()))
abbrev pC:Type:=AAg×Unit
def cmp_isNaN_int(p0:Int):Option pC:=
 some ((p0 !=p0,()),())
abbrev so:Type:=AAg×Unit
def cmp_Less_int(p0 p1:Int):Option so:=
 (cmp_isNaN_int p0).bind fun u1=>
 cond (u1.1.1)
  ((cmp_isNaN_int p1).bind fun u2=>
  cond (!u2.1.1)
   (some ((true,()),()))
  (some ((decide (p0<p1),()),())))
 (some ((decide (p0<p1),()),()))
abbrev jW:Type:=AAg×Unit
def PL(p0:Int):Option jW:=
 some ((p0 !=p0,()),())
abbrev FJ:Type:=ADw×Unit
abbrev HB:Type:=List Int->Int->Int->Int->Int->Option FJ
def Jz(R3:HB)(t0:AAN)(t1 t6 t7 t8:Int):Option FJ:=
 cond (decide (t7<t8))
  (let x2:Int:=AW ((IntKind.wrap .u64 (AW (t7+t8))).fdiv (2^1))
  if(0:Int)<=x2/\x2<(t0.length:Int)then(
  (cmp_Less_int (t0.getD (x2.toNat) 0) t1).bind fun u4=>
  cond (u4.1.1)
   (R3 t0 t1 t6 (AW (x2+1)) t8)
  (R3 t0 t1 t6 t7 x2))else none)
 (cond (decide (t7<t6))
  (if(0:Int)<=t7/\t7<(t0.length:Int)then(
  cond ((t0.getD (t7.toNat) 0)==t1)
   (some (((t7,true,()),()),()))
  (if(0:Int)<=t7/\t7<(t0.length:Int)then(
  (PL (t0.getD (t7.toNat) 0)).bind fun u7=>
  cond (u7.1.1)
   ((PL t1).bind fun u8=>
   some (((t7,u8.1.1,()),()),()))
  (some (((t7,false,()),()),())))else none))else none)
 (some (((t7,false,()),()),())))
def Dn:Nat->HB
 |0=>fun _ _ _ _ _=>none
 |n+1=>Jz (Dn n)
def J0(R3:HB)(p0:AAN)(p1:Int):Option FJ:=
 R3 p0 p1 (p0.length:Int) 0 (p0.length:Int)
def GC(p0:AAN)(p1:Int):Option FJ:=J0 (Dn AX) p0 p1
abbrev cO:Type:=ABW×AEe
def Jv(p1:Int)(p2 b0:AAN):Option cO:=(z6 p1 p2 b0).map fun l=>(((),()),((),l,()))
abbrev pL:Type:=ABW×ACE
def Kz(p0:AAN)(p1:Int):Option pL:=
 (DD p0).bind fun u1=>
 (GC u1.2.1 p1).bind fun u2=>
 cond (!u2.1.1.2.1)
  ((Jv u2.1.1.1 [p1] u1.2.1).bind fun u3=>
  some (((),()),(u3.2.2.1,())))
 (some (((),()),(u1.2.1,())))
abbrev nr:Type:=AEa×AD3
def TA(p0:AAb)(p1:ABL)(p2 p3:Int):Option nr:=
 (GP (p0.1,p0.2.1,()) (p1.1,p1.2.1,())).bind fun u1=>
 cond (!u1.1.1)
  ((EG (p0.1,p0.2.1,()) (p1.1,p1.2.1,())).bind fun u2=>
  some ((((u2.1.1.1,(),()),false,()),()),(u2.2.1,())))
 ((Ay p2 1 (p1.2.1.length:Int)).bind fun u4=>
 cond (!u4.1.1)
  ((EG (p0.1,p0.2.1,()) (p1.1,p1.2.1,())).bind fun u5=>
  some ((((u5.1.1.1,(),()),false,()),()),(u5.2.1,())))
 (if(0:Int)<=AW (p2-1)/\AW (p2-1)<(p1.2.1.length:Int)then(
 cond (((p1.2.1.getD ((AW (p2-1)).toNat) ([],[],false,())).2.2.1))
  ((EG (p0.1,p0.2.1,()) (p1.1,p1.2.1,())).bind fun u7=>
  some ((((u7.1.1.1,(),()),false,()),()),(u7.2.1,())))
 ((Ay p3 0 (AW ((p0.1.length:Int)-1))).bind fun u9=>
 cond (!u9.1.1)
  ((EG (p0.1,p0.2.1,()) (p1.1,p1.2.1,())).bind fun FE=>
  some ((((FE.1.1.1,(),()),false,()),()),(FE.2.1,())))
 ((Fc (p1.1,p1.2.1,())).bind fun Hj=>
 if(0:Int)<=AW (p2-1)/\AW (p2-1)<(Hj.2.1.length:Int)then(
 (Kz ((Hj.2.1.getD ((AW (p2-1)).toNat) ([],[],false,())).2.1) p3).bind fun Th=>
 let x13:ABI:=(Hj.2.1.set ((AW (p2-1)).toNat) ((Hj.2.1.getD ((AW (p2-1)).toNat) ([],[],false,())).1,Th.2.1,(Hj.2.1.getD ((AW (p2-1)).toNat) ([],[],false,())).2.2.1,()))
 (Gq (p0.1,p0.2.1,()) ((x13.getD ((AW (p2-1)).toNat) ([],[],false,())).2.1)).bind fun Pd=>
 some ((((Hj.1.1.1,(),()),true,()),()),((x13.set ((AW (p2-1)).toNat) ((x13.getD ((AW (p2-1)).toNat) ([],[],false,())).1,(x13.getD ((AW (p2-1)).toNat) ([],[],false,())).2.1,Pd.1.1,())),())))else none)))else none))
abbrev F9:Type:=ABW×ADj
abbrev Ku:Type:=Int->Int->Int->Int->Int->Bool->List Int->AAT->List Int->AAU->AAX->AAY->AAV->AAW->Option F9
def Ii(R1:Ku)(t1 t2 t6 AF AM:Int)(AG:Bool)(b1:AAN)(b2:AAT)(b3:AAN)(b4:AAU)(b5:AAX)(b6:AAY)(b7:AAV)(b8:AAW):Option F9:=
 if(0:Int)<=t1/\t1<(b5.length:Int)then(
 cond (decide (t6<=(((b5.getD (t1.toNat) (0,[],())).2.1).length:Int)))
  (if(0:Int)<=t1/\t1<(b5.length:Int)then(
  (DP ((b5.getD (t1.toNat) (0,[],())).1) t6).bind fun u3=>
  if(0:Int)<=t2/\t2<(b2.length:Int)then(
  (GL ((b2.getD (t2.toNat) ([],[],0,())).1,(b2.getD (t2.toNat) ([],[],0,())).2.1,(b2.getD (t2.toNat) ([],[],0,())).2.2.1,()) u3.1.1.1).bind fun u4=>
  if(0:Int)<=t1/\t1<(b5.length:Int)then(
  if(0:Int)<=AW (t6-1)/\AW (t6-1)<(((b5.getD (t1.toNat) (0,[],())).2.1).length:Int)then(
  cond (((((b5.getD (t1.toNat) (0,[],())).2.1).getD ((AW (t6-1)).toNat) ([],[],false,())).2.2.1))
   (R1 t1 t2 (AW (t6+1)) AF AM AG b1 b2 b3 b4 b5 b6 b7 b8)
  (cond (!u4.1.1.2.1)
   (R1 t1 t2 (AW (t6+1)) AF AM AG b1 b2 b3 b4 b5 b6 b7 b8)
  (cond (u4.1.1.1.2.1 !=0)
   (R1 t1 t2 (AW (t6+1)) AF AM AG b1 b2 b3 b4 b5 b6 b7 b8)
  (if(0:Int)<=t1/\t1<(b5.length:Int)then(
  (TA (b1,AF,()) ((b5.getD (t1.toNat) (0,[],())).1,(b5.getD (t1.toNat) (0,[],())).2.1,()) t6 t2).bind fun u6=>
  if(0:Int)<=t1/\t1<(b5.length:Int)then(
  let x7:AAX:=(b5.set (t1.toNat) (u6.1.1.1.1,u6.2.1,()))
  (ID (b1,AF,b2,b3,b4,AM,x7,b6,b7,b8,AG,()) u3.1.1.1).bind fun u8=>
  cond (u8.1.1.2.1)
   (if(0:Int)<=t1/\t1<(x7.length:Int)then(
   if(0:Int)<=AW (t6-1)/\AW (t6-1)<(((x7.getD (t1.toNat) (0,[],())).2.1).length:Int)then(
   cond (((((x7.getD (t1.toNat) (0,[],())).2.1).getD ((AW (t6-1)).toNat) ([],[],false,())).2.2.1))
    (if(0:Int)<=u8.1.1.1/\u8.1.1.1<(b8.length:Int)then(
    R1 t1 t2 (AW (t6+1)) AF AM AG b1 b2 b3 b4 x7 b6 b7 (b8.set (u8.1.1.1.toNat) ((b8.getD (u8.1.1.1.toNat) (0,[],false,())).1,(b8.getD (u8.1.1.1.toNat) (0,[],false,())).2.1,true,())))else none)
   (R1 t1 t2 (AW (t6+1)) AF AM AG b1 b2 b3 b4 x7 b6 b7 b8))else none)else none)
  (R1 t1 t2 (AW (t6+1)) AF AM AG b1 b2 b3 b4 x7 b6 b7 b8))else none)else none))))else none)else none)else none)else none)
 (some (((()),()),(((),AF,(),(),(),AM,(),(),(),(),AG,()),b1,b2,b3,b4,b5,b6,b7,b8,()))))else none
def Cz:Nat->Ku
 |0=>fun _ _ _ _ _ _ _ _ _ _ _ _ _ _=>none
 |n+1=>Ii (Cz n)
def Nj(R1:Ku)(p1 p2 AF AM:Int)(AG:Bool)(b1:AAN)(b2:AAT)(b3:AAN)(b4:AAU)(b5:AAX)(b6:AAY)(b7:AAV)(b8:AAW):Option F9:=
 R1 p1 p2 1 AF AM AG b1 b2 b3 b4 b5 b6 b7 b8
def NL(p1 p2 AF AM:Int)(AG:Bool)(b1:AAN)(b2:AAT)(b3:AAN)(b4:AAU)(b5:AAX)(b6:AAY)(b7:AAV)(b8:AAW):Option F9:=Nj (Cz AX) p1 p2 AF AM AG b1 b2 b3 b4 b5 b6 b7 b8
abbrev JN:Type:=AEZ×Unit
abbrev S1:Type:=Int->AAa->Int->Int->Int->Int->List Int->AAa->Bool->List AAN->Int->Int->Bool->List UInt8->Option JN
def V0(R5:S1)(t6:Int)(t33:AAa)(t34 t35 AQ AF:Int)(Ah:AAN)(BA:AAa)(BH:Bool)(AM:List AAN)(B7 Ba:Int)(CO:Bool)(EX:AAZ):Option JN:=
 cond (decide (t35<t34))
  (if(0:Int)<=t35/\t35<(t33.length:Int)then(
  cond (((t33.getD (t35.toNat) (0,0,false,[],())).1)==t6)
   (some ((((t6,AQ,((t33.getD (t35.toNat) (0,0,false,[],())).2.2.1),((t33.getD (t35.toNat) (0,0,false,[],())).2.2.2.1),()),true,()),()),()))
  (R5 t6 t33 t34 (AW (t35+1)) AQ AF Ah BA BH AM B7 Ba CO EX))else none)
 (some ((((t6,AQ,true,[],()),true,()),()),()))
def KW:Nat->S1
 |0=>fun _ _ _ _ _ _ _ _ _ _ _ _ _ _=>none
 |n+1=>V0 (KW n)
def Vy(R5:S1)(p0:AAu)(p1:Int):Option JN:=
 (DP p0.2.1 p1).bind fun u1=>
 cond (!u1.1.1.2.1)
  (some ((((0,0,false,[],()),false,()),()),()))
 (cond (!p0.2.2.2.2.1)
  (some ((((0,0,false,[],()),false,()),()),()))
 (cond (decide (p1>(p0.2.2.2.2.2.1.length:Int)))
  (some ((((0,0,false,[],()),false,()),()),()))
 (R5 u1.1.1.1 p0.2.2.2.1 (p0.2.2.2.1.length:Int) 0 p0.1 p0.2.1 p0.2.2.1 p0.2.2.2.1 p0.2.2.2.2.1 p0.2.2.2.2.2.1 0 0 false [])))
def JS(p0:AAu)(p1:Int):Option JN:=Vy (KW AX) p0 p1
abbrev nO:Type:=AEY×ADU
def Ei(p0:AAb)(p1:AAu):Option nO:=
 (Hm (p0.1,p0.2.1,()) (p1.1,p1.2.1,p1.2.2.1,p1.2.2.2.1,p1.2.2.2.2.1,p1.2.2.2.2.2.1,())).bind fun u1=>
 cond (!u1.1.1)
  (some (((0,0,(),(),false,(),()),()),([],[],[],())))
 ((GH (p1.1,p1.2.1,p1.2.2.1,p1.2.2.2.1,p1.2.2.2.2.1,p1.2.2.2.2.2.1,())).bind fun u2=>
 some (((u2.1.1.1,u2.1.1.2.1,(),(),u2.1.1.2.2.2.2.1,(),()),()),(u2.2.1,u2.2.2.1,u2.2.2.2.1,())))
abbrev YD:Type:=AD9×ADU
def PY(p0:AAb)(p1:AAu)(p2 p3:Int):Option YD:=
 (Hm (p0.1,p0.2.1,()) (p1.1,p1.2.1,p1.2.2.1,p1.2.2.2.1,p1.2.2.2.2.1,p1.2.2.2.2.2.1,())).bind fun u1=>
 cond (!u1.1.1)
  ((Ei (p0.1,p0.2.1,()) (p1.1,p1.2.1,p1.2.2.1,p1.2.2.2.1,p1.2.2.2.2.1,p1.2.2.2.2.2.1,())).bind fun u2=>
  some ((((u2.1.1.1,u2.1.1.2.1,(),(),u2.1.1.2.2.2.2.1,(),()),false,()),()),(u2.2.1,u2.2.2.1,u2.2.2.2.1,())))
 ((Ay p2 1 (p1.2.2.2.2.2.1.length:Int)).bind fun u4=>
 cond (!u4.1.1)
  ((Ei (p0.1,p0.2.1,()) (p1.1,p1.2.1,p1.2.2.1,p1.2.2.2.1,p1.2.2.2.2.1,p1.2.2.2.2.2.1,())).bind fun u5=>
  some ((((u5.1.1.1,u5.1.1.2.1,(),(),u5.1.1.2.2.2.2.1,(),()),false,()),()),(u5.2.1,u5.2.2.1,u5.2.2.2.1,())))
 ((Ay p3 0 (AW ((p0.1.length:Int)-1))).bind fun u7=>
 cond (!u7.1.1)
  ((Ei (p0.1,p0.2.1,()) (p1.1,p1.2.1,p1.2.2.1,p1.2.2.2.1,p1.2.2.2.2.1,p1.2.2.2.2.2.1,())).bind fun u8=>
  some ((((u8.1.1.1,u8.1.1.2.1,(),(),u8.1.1.2.2.2.2.1,(),()),false,()),()),(u8.2.1,u8.2.2.1,u8.2.2.2.1,())))
 ((GH (p1.1,p1.2.1,p1.2.2.1,p1.2.2.2.1,p1.2.2.2.2.1,p1.2.2.2.2.2.1,())).bind fun u9=>
 if(0:Int)<=AW (p2-1)/\AW (p2-1)<(u9.2.2.2.1.length:Int)then(
 (Kz (u9.2.2.2.1.getD ((AW (p2-1)).toNat) []) p3).bind fun FE=>
 if(0:Int)<=AW (p2-1)/\AW (p2-1)<(u9.2.2.2.1.length:Int)then(
 some ((((u9.1.1.1,u9.1.1.2.1,(),(),u9.1.1.2.2.2.2.1,(),()),true,()),()),(u9.2.1,u9.2.2.1,(u9.2.2.2.1.set ((AW (p2-1)).toNat) FE.2.1),())))else none)else none)))
abbrev Jx:Type:=ABW×ADj
abbrev Mb:Type:=Int->Int->Int->Int->Int->Bool->List Int->AAT->List Int->AAU->AAX->AAY->AAV->AAW->Option Jx
def G3(R1:Mb)(t1 t2 t6 AF AM:Int)(AG:Bool)(b1:AAN)(b2:AAT)(b3:AAN)(b4:AAU)(b5:AAX)(b6:AAY)(b7:AAV)(b8:AAW):Option Jx:=
 if(0:Int)<=t1/\t1<(b6.length:Int)then(
 cond (decide (t6<=(((b6.getD (t1.toNat) (0,0,[],[],false,[],())).2.2.2.2.2.1).length:Int)))
  (if(0:Int)<=t1/\t1<(b6.length:Int)then(
  (JS ((b6.getD (t1.toNat) (0,0,[],[],false,[],())).1,(b6.getD (t1.toNat) (0,0,[],[],false,[],())).2.1,(b6.getD (t1.toNat) (0,0,[],[],false,[],())).2.2.1,(b6.getD (t1.toNat) (0,0,[],[],false,[],())).2.2.2.1,(b6.getD (t1.toNat) (0,0,[],[],false,[],())).2.2.2.2.1,(b6.getD (t1.toNat) (0,0,[],[],false,[],())).2.2.2.2.2.1,()) t6).bind fun u2=>
  if(0:Int)<=t2/\t2<(b2.length:Int)then(
  (GL ((b2.getD (t2.toNat) ([],[],0,())).1,(b2.getD (t2.toNat) ([],[],0,())).2.1,(b2.getD (t2.toNat) ([],[],0,())).2.2.1,()) u2.1.1.1.1).bind fun u3=>
  cond (u2.1.1.2.1)
   (cond (u3.1.1.2.1)
    (cond (((u3.1.1.1.1==u2.1.1.1.1)&&((u3.1.1.1.2.1==u2.1.1.1.2.1)&&((u3.1.1.1.2.2.1==u2.1.1.1.2.2.1)&&((u3.1.1.1.2.2.2.1==u2.1.1.1.2.2.2.1)&&true)))))
     (if(0:Int)<=t1/\t1<(b6.length:Int)then(
     (PY (b1,AF,()) ((b6.getD (t1.toNat) (0,0,[],[],false,[],())).1,(b6.getD (t1.toNat) (0,0,[],[],false,[],())).2.1,(b6.getD (t1.toNat) (0,0,[],[],false,[],())).2.2.1,(b6.getD (t1.toNat) (0,0,[],[],false,[],())).2.2.2.1,(b6.getD (t1.toNat) (0,0,[],[],false,[],())).2.2.2.2.1,(b6.getD (t1.toNat) (0,0,[],[],false,[],())).2.2.2.2.2.1,()) t6 t2).bind fun u5=>
     if(0:Int)<=t1/\t1<(b6.length:Int)then(
     R1 t1 t2 (AW (t6+1)) AF AM AG b1 b2 b3 b4 b5 (b6.set (t1.toNat) (u5.1.1.1.1,u5.1.1.1.2.1,u5.2.1,u5.2.2.1,u5.1.1.1.2.2.2.2.1,u5.2.2.2.1,())) b7 b8)else none)else none)
    (R1 t1 t2 (AW (t6+1)) AF AM AG b1 b2 b3 b4 b5 b6 b7 b8))
   (R1 t1 t2 (AW (t6+1)) AF AM AG b1 b2 b3 b4 b5 b6 b7 b8))
  (R1 t1 t2 (AW (t6+1)) AF AM AG b1 b2 b3 b4 b5 b6 b7 b8))else none)else none)
 (some (((()),()),(((),AF,(),(),(),AM,(),(),(),(),AG,()),b1,b2,b3,b4,b5,b6,b7,b8,()))))else none
def BX:Nat->Mb
 |0=>fun _ _ _ _ _ _ _ _ _ _ _ _ _ _=>none
 |n+1=>G3 (BX n)
def J3(R1:Mb)(p1 p2 AF AM:Int)(AG:Bool)(b1:AAN)(b2:AAT)(b3:AAN)(b4:AAU)(b5:AAX)(b6:AAY)(b7:AAV)(b8:AAW):Option Jx:=
 R1 p1 p2 1 AF AM AG b1 b2 b3 b4 b5 b6 b7 b8
def K4(p1 p2 AF AM:Int)(AG:Bool)(b1:AAN)(b2:AAT)(b3:AAN)(b4:AAU)(b5:AAX)(b6:AAY)(b7:AAV)(b8:AAW):Option Jx:=J3 (BX AX) p1 p2 AF AM AG b1 b2 b3 b4 b5 b6 b7 b8
abbrev IA:Type:=AAv×ADj
abbrev MP:Type:=Int->Int->Int->Int->Int->Bool->List Int->AAT->List Int->AAU->AAX->AAY->AAV->AAW->Int->Option IA
abbrev LH:Type:=Int->Int->Int->Int->Int->Bool->List Int->AAT->List Int->AAU->AAX->AAY->AAV->AAW->Option IA
def NQ(R9:MP)(rB:LH)(t1 t42 t43 AF AM:Int)(AG:Bool)(b1:AAN)(b2:AAT)(b3:AAN)(b4:AAU)(b5:AAX)(b6:AAY)(b7:AAV)(b8:AAW)(fH:Int):Option IA:=
 cond (decide (t43<t42))
  (if(0:Int)<=t43/\t43<(b5.length:Int)then(
  cond (decide (((b5.getD (t43.toNat) (0,[],())).1)>fH))
   ((Is (b4,AM,()) ((b5.getD (t43.toNat) (0,[],())).1)).bind fun u6=>
   (Bp u6.2.1 t1).bind fun u7=>
   cond (u7.1.1)
    ((NL t43 t1 AF AM AG b1 b2 b3 b4 b5 b6 b7 b8).bind fun u8=>
    R9 t1 t42 (AW (t43+1)) u8.2.1.2.1 u8.2.1.2.2.2.2.2.1 u8.2.1.2.2.2.2.2.2.2.2.2.2.1 u8.2.2.1 u8.2.2.2.1 u8.2.2.2.2.1 u8.2.2.2.2.2.1 u8.2.2.2.2.2.2.1 u8.2.2.2.2.2.2.2.1 u8.2.2.2.2.2.2.2.2.1 u8.2.2.2.2.2.2.2.2.2.1 fH)
   (R9 t1 t42 (AW (t43+1)) AF AM AG b1 b2 b3 b4 b5 b6 b7 b8 fH))
  (R9 t1 t42 (AW (t43+1)) AF AM AG b1 b2 b3 b4 b5 b6 b7 b8 fH))else none)
 (rB t1 (b6.length:Int) 0 AF AM AG b1 b2 b3 b4 b5 b6 b7 b8)
def Mf(R9:MP)(rB:LH)(t1 t73 t74 AF AM:Int)(AG:Bool)(b1:AAN)(b2:AAT)(b3:AAN)(b4:AAU)(b5:AAX)(b6:AAY)(b7:AAV)(b8:AAW):Option IA:=
 cond (decide (t74<t73))
  (if(0:Int)<=t74/\t74<(b6.length:Int)then(
  (Is (b4,AM,()) ((b6.getD (t74.toNat) (0,0,[],[],false,[],())).2.1)).bind fun Hj=>
  (Bp Hj.2.1 t1).bind fun Th=>
  cond (Th.1.1)
   ((K4 t74 t1 AF AM AG b1 b2 b3 b4 b5 b6 b7 b8).bind fun WL=>
   rB t1 t73 (AW (t74+1)) WL.2.1.2.1 WL.2.1.2.2.2.2.2.1 WL.2.1.2.2.2.2.2.2.2.2.2.2.1 WL.2.2.1 WL.2.2.2.1 WL.2.2.2.2.1 WL.2.2.2.2.2.1 WL.2.2.2.2.2.2.1 WL.2.2.2.2.2.2.2.1 WL.2.2.2.2.2.2.2.2.1 WL.2.2.2.2.2.2.2.2.2.1)
  (rB t1 t73 (AW (t74+1)) AF AM AG b1 b2 b3 b4 b5 b6 b7 b8))else none)
 (some ((0,()),(((),AF,(),(),(),AM,(),(),(),(),AG,()),b1,b2,b3,b4,b5,b6,b7,b8,())))
mutual
def Eg:Nat->MP
 |0=>fun _ _ _ _ _ _ _ _ _ _ _ _ _ _ _=>none
 |n+1=>NQ (Eg n) (FC n)
def FC:Nat->LH
 |0=>fun _ _ _ _ _ _ _ _ _ _ _ _ _ _=>none
 |n+1=>Mf (Eg n) (FC n)
end
def Tv(R9:MP)(rB:LH)(p1 AF AM:Int)(AG:Bool)(b1:AAN)(b2:AAT)(b3:AAN)(b4:AAU)(b5:AAX)(b6:AAY)(b7:AAV)(b8:AAW):Option IA:=
 (EH (b1,AF,b2,b3,b4,AM,b5,b6,b7,b8,AG,()) p1).bind fun u1=>
 cond (u1.1.1 !=0)
  (some ((u1.1.1,()),(((),AF,(),(),(),AM,(),(),(),(),AG,()),b1,b2,b3,b4,b5,b6,b7,b8,())))
 (if(0:Int)<=p1/\p1<(b2.length:Int)then(
 (Om ((b2.getD (p1.toNat) ([],[],0,())).1,(b2.getD (p1.toNat) ([],[],0,())).2.1,(b2.getD (p1.toNat) ([],[],0,())).2.2.1,())).bind fun u2=>
 cond (!u2.1.1.2.1)
  (some ((4,()),(((),AF,(),(),(),AM,(),(),(),(),AG,()),b1,b2,b3,b4,b5,b6,b7,b8,())))
 (if(0:Int)<=p1/\p1<(b2.length:Int)then(
 R9 p1 (b5.length:Int) 0 AF AM AG b1 (b2.set (p1.toNat) (u2.2.1,u2.2.2.1,u2.1.1.1.2.2.1,())) b3 b4 b5 b6 b7 b8 u2.1.1.1.2.2.1)else none))else none)
def Qq(p1 AF AM:Int)(AG:Bool)(b1:AAN)(b2:AAT)(b3:AAN)(b4:AAU)(b5:AAX)(b6:AAY)(b7:AAV)(b8:AAW):Option IA:=Tv (Eg AX) (FC AX) p1 AF AM AG b1 b2 b3 b4 b5 b6 b7 b8
abbrev jr:Type:=AAv×ADj
def PN(p1 p2 AF AM:Int)(AG:Bool)(b1:AAN)(b2:AAT)(b3:AAN)(b4:AAU)(b5:AAX)(b6:AAY)(b7:AAV)(b8:AAW):Option jr:=
 (EH (b1,AF,b2,b3,b4,AM,b5,b6,b7,b8,AG,()) p1).bind fun u1=>
 cond (u1.1.1 !=0)
  (some ((u1.1.1,()),(((),AF,(),(),(),AM,(),(),(),(),AG,()),b1,b2,b3,b4,b5,b6,b7,b8,())))
 (if(0:Int)<=p1/\p1<(b2.length:Int)then(
 (Mn ((b2.getD (p1.toNat) ([],[],0,())).1,(b2.getD (p1.toNat) ([],[],0,())).2.1,(b2.getD (p1.toNat) ([],[],0,())).2.2.1,()) p2).bind fun u2=>
 if(0:Int)<=p1/\p1<(b2.length:Int)then(
 (J8 u2.1.1.2.1).bind fun u4=>
 some ((u4.1.1,()),(((),AF,(),(),(),AM,(),(),(),(),AG,()),b1,(b2.set (p1.toNat) (u2.2.1,u2.2.2.1,u2.1.1.1.2.2.1,())),b3,b4,b5,b6,b7,b8,())))else none)else none)
abbrev fi:Type:=AAg×Unit
def MU(p0:Int)(p1:AAv):Option fi:=
 some ((p0==p1.1,()),())
abbrev Ce:Type:=AAv×Unit
abbrev DZ:Type:=List Int->ACw->Int->Int->Option Ce
def Et(R2:DZ)(t0:AAN)(t1:ACw)(t7 t8:Int):Option Ce:=
 cond (decide (t8<t7))
  (if(0:Int)<=t8/\t8<(t0.length:Int)then(
  (MU (t0.getD (t8.toNat) 0) t1.1).bind fun u2=>
  cond (u2.1.1)
   (some ((t8,()),()))
  (R2 t0 (t1.1,()) t7 (AW (t8+1))))else none)
 (some (((-1),()),()))
def B3:Nat->DZ
 |0=>fun _ _ _ _=>none
 |n+1=>Et (B3 n)
def Ew(R2:DZ)(p0:AAN)(p1:ACw):Option Ce:=
 R2 p0 (p1.1,()) (p0.length:Int) 0
def Du(p0:AAN)(p1:ACw):Option Ce:=Ew (B3 AX) p0 p1
abbrev Ca:Type:=ABW×AEe
abbrev DO:Type:=ACw->Int->Int->List Int->Option Ca
def EY(R5:DO)(t1:ACw)(t5 t6:Int)(b0:AAN):Option Ca:=
 cond ((decide (t6<(b0.length:Int))))
  (if(0:Int)<=t6/\t6<(b0.length:Int)then(
  let x3:Int:=(b0.getD (t6.toNat) 0)
  (MU x3 t1.1).bind fun u4=>
  cond (!u4.1.1)
   (if(0:Int)<=t5/\t5<(b0.length:Int)then(
   R5 (t1.1,()) (AW (t5+1)) (AW (t6+1)) (b0.set (t5.toNat) x3))else none)
  (R5 (t1.1,()) t5 (AW (t6+1)) b0))else none)
 (if(0:Int)<=t5/\t5<=(b0.length:Int)/\(b0.length:Int)<=(b0.length:Int)then(
 let x6:AAN:=(b0.take (t5.toNat)++List.replicate (((b0.length:Int).toNat)-(t5.toNat)) 0++b0.drop ((t5.toNat)+(((b0.length:Int).toNat)-(t5.toNat))))
 if(0:Int)<=(0:Int)/\(0:Int)<=t5/\t5<=(x6.length:Int)then(
 some (((),()),((),((x6.drop 0).take ((t5.toNat)-0)),())))else none)else none)
def Bt:Nat->DO
 |0=>fun _ _ _ _=>none
 |n+1=>EY (Bt n)
def EZ(R5:DO)(p1:ACw)(b0:AAN):Option Ca:=
 (Du b0 (p1.1,())).bind fun u1=>
 cond (u1.1.1==(-1))
  (some (((),()),((),b0,())))
 (R5 (p1.1,()) u1.1.1 (AW (u1.1.1+1)) b0)
def Ck(p1:ACw)(b0:AAN):Option Ca:=EZ (Bt AX) p1 b0
abbrev Yd:Type:=ABW×ACE
def G_(p0:AAN)(p1:Int):Option Yd:=
 (DD p0).bind fun u1=>
 (Ck ((p1,()),()) u1.2.1).bind fun u2=>
 some (((),()),(u2.2.2.1,()))
abbrev LD:Type:=AEa×AD3
abbrev O4:Type:=Int->ABI->Int->Int->Int->ABI->Int->ABI->Option LD
def RZ(R5:O4)(t2:Int)(t19:ABI)(t20 t21 AQ:Int)(b1:ABI)(Wb:Int)(b3:ABI):Option LD:=
 cond (decide (t21<t20))
  (if(0:Int)<=t21/\t21<(t19.length:Int)then(
  cond (!((t19.getD (t21.toNat) ([],[],false,())).2.2.1))
   ((G_ ((t19.getD (t21.toNat) ([],[],false,())).2.1) t2).bind fun u5=>
   if(0:Int)<=t21/\t21<(b3.length:Int)then(
   R5 t2 t19 t20 (AW (t21+1)) AQ b1 Wb (b3.set (t21.toNat) ((b3.getD (t21.toNat) ([],[],false,())).1,u5.2.1,(b3.getD (t21.toNat) ([],[],false,())).2.2.1,())))else none)
  (R5 t2 t19 t20 (AW (t21+1)) AQ b1 Wb b3))else none)
 (some ((((Wb,(),()),true,()),()),(b3,())))
def Hd:Nat->O4
 |0=>fun _ _ _ _ _ _ _ _=>none
 |n+1=>RZ (Hd n)
def Rm(R5:O4)(p0:AAb)(p1:ABL)(p2:Int):Option LD:=
 (GP (p0.1,p0.2.1,()) (p1.1,p1.2.1,())).bind fun u1=>
 cond (!u1.1.1)
  (some ((((0,(),()),false,()),()),([],())))
 ((Fc (p1.1,p1.2.1,())).bind fun u2=>
 R5 p2 p1.2.1 (p1.2.1.length:Int) 0 0 [] u2.1.1.1 u2.2.1)
def Nh(p0:AAb)(p1:ABL)(p2:Int):Option LD:=Rm (Hd AX) p0 p1 p2
abbrev Nx:Type:=AD9×ADU
abbrev RH:Type:=Int->List AAN->Int->Int->Int->Int->Bool->List Int->AAa->List AAN->Int->Int->Bool->List Int->AAa->List AAN->Option Nx
def T0(R5:RH)(t2:Int)(t19:List AAN)(t20 t21 AQ AF:Int)(BH:Bool)(b1:AAN)(b2:AAa)(b3:List AAN)(AAK zY:Int)(yp:Bool)(b5:AAN)(b6:AAa)(b7:List AAN):Option Nx:=
 cond (decide (t21<t20))
  (if(0:Int)<=t21/\t21<(t19.length:Int)then(
  (G_ (t19.getD (t21.toNat) []) t2).bind fun u4=>
  if(0:Int)<=t21/\t21<(b7.length:Int)then(
  R5 t2 t19 t20 (AW (t21+1)) AQ AF BH b1 b2 b3 AAK zY yp b5 b6 (b7.set (t21.toNat) u4.2.1))else none)else none)
 (some ((((AAK,zY,(),(),yp,(),()),true,()),()),(b5,b6,b7,())))
def Je:Nat->RH
 |0=>fun _ _ _ _ _ _ _ _ _ _ _ _ _ _ _ _=>none
 |n+1=>T0 (Je n)
def T5(R5:RH)(p0:AAb)(p1:AAu)(p2:Int):Option Nx:=
 (Hm (p0.1,p0.2.1,()) (p1.1,p1.2.1,p1.2.2.1,p1.2.2.2.1,p1.2.2.2.2.1,p1.2.2.2.2.2.1,())).bind fun u1=>
 cond (!u1.1.1)
  (some ((((0,0,(),(),false,(),()),false,()),()),([],[],[],())))
 ((GH (p1.1,p1.2.1,p1.2.2.1,p1.2.2.2.1,p1.2.2.2.2.1,p1.2.2.2.2.2.1,())).bind fun u2=>
 R5 p2 p1.2.2.2.2.2.1 (p1.2.2.2.2.2.1.length:Int) 0 0 0 false [] [] [] u2.1.1.1 u2.1.1.2.1 u2.1.1.2.2.2.2.1 u2.2.1 u2.2.2.1 u2.2.2.2.1)
def Qu(p0:AAb)(p1:AAu)(p2:Int):Option Nx:=T5 (Je AX) p0 p1 p2
abbrev GX:Type:=AAv×AHM
abbrev MM:Type:=Int->Int->Int->Int->Int->Bool->List Int->AAT->List Int->AAU->AAX->AAY->AAV->AAW->List Int->Option GX
abbrev LA:Type:=Int->Int->Int->Int->Int->Bool->List Int->AAT->List Int->AAU->AAX->AAY->AAV->AAW->List Int->Option GX
def Tx(R7:MM)(R12:LA)(t1 t36 t37 AF AM:Int)(AG:Bool)(b1:AAN)(b2:AAT)(b3:AAN)(b4:AAU)(b5:AAX)(b6:AAY)(b7:AAV)(b8:AAW)(b9:AAN):Option GX:=
 cond (decide (t37<t36))
  (if(0:Int)<=t37/\t37<(b5.length:Int)then(
  (Nh (b1,AF,()) ((b5.getD (t37.toNat) (0,[],())).1,(b5.getD (t37.toNat) (0,[],())).2.1,()) t1).bind fun u4=>
  if(0:Int)<=t37/\t37<(b5.length:Int)then(
  R7 t1 t36 (AW (t37+1)) AF AM AG b1 b2 b3 b4 (b5.set (t37.toNat) (u4.1.1.1.1,u4.2.1,())) b6 b7 b8 b9)else none)else none)
 (R12 t1 (b6.length:Int) 0 AF AM AG b1 b2 b3 b4 b5 b6 b7 b8 b9)
def SI(R7:MM)(R12:LA)(t1 t63 t64 AF AM:Int)(AG:Bool)(b1:AAN)(b2:AAT)(b3:AAN)(b4:AAU)(b5:AAX)(b6:AAY)(b7:AAV)(b8:AAW)(b9:AAN):Option GX:=
 cond (decide (t64<t63))
  (if(0:Int)<=t64/\t64<(b6.length:Int)then(
  (Qu (b1,AF,()) ((b6.getD (t64.toNat) (0,0,[],[],false,[],())).1,(b6.getD (t64.toNat) (0,0,[],[],false,[],())).2.1,(b6.getD (t64.toNat) (0,0,[],[],false,[],())).2.2.1,(b6.getD (t64.toNat) (0,0,[],[],false,[],())).2.2.2.1,(b6.getD (t64.toNat) (0,0,[],[],false,[],())).2.2.2.2.1,(b6.getD (t64.toNat) (0,0,[],[],false,[],())).2.2.2.2.2.1,()) t1).bind fun u6=>
  if(0:Int)<=t64/\t64<(b6.length:Int)then(
  R12 t1 t63 (AW (t64+1)) AF AM AG b1 b2 b3 b4 b5 (b6.set (t64.toNat) (u6.1.1.1.1,u6.1.1.1.2.1,u6.2.1,u6.2.2.1,u6.1.1.1.2.2.2.2.1,u6.2.2.2.1,())) b7 b8 b9)else none)else none)
 (cond (AG)
  (some ((0,()),(((),AF,(),(),(),AM,(),(),(),(),true,()),b1,b2,(),b4,b5,b6,b7,b8,b9,())))
 ((Gq (b1,AF,()) b9).bind fun u8=>
 some ((0,()),(((),AF,(),(),(),AM,(),(),(),(),u8.1.1,()),b1,b2,(),b4,b5,b6,b7,b8,b9,()))))
mutual
def HE:Nat->MM
 |0=>fun _ _ _ _ _ _ _ _ _ _ _ _ _ _ _=>none
 |n+1=>Tx (HE n) (Gt n)
def Gt:Nat->LA
 |0=>fun _ _ _ _ _ _ _ _ _ _ _ _ _ _ _=>none
 |n+1=>SI (HE n) (Gt n)
end
def UB(R7:MM)(R12:LA)(p1 AF AM:Int)(AG:Bool)(b1:AAN)(b2:AAT)(b3:AAN)(b4:AAU)(b5:AAX)(b6:AAY)(b7:AAV)(b8:AAW):Option GX:=
 (EH (b1,AF,b2,b3,b4,AM,b5,b6,b7,b8,AG,()) p1).bind fun u1=>
 cond (u1.1.1 !=0)
  (some ((u1.1.1,()),(((),AF,(),(),(),AM,(),(),(),(),AG,()),b1,b2,(),b4,b5,b6,b7,b8,b3,())))
 (if(0:Int)<=p1/\p1<(b2.length:Int)then(
 (Kz b3 p1).bind fun u3=>
 R7 p1 (b5.length:Int) 0 AF AM AG b1 (b2.set (p1.toNat) ([],[],0,())) b3 b4 b5 b6 b7 b8 u3.2.1)else none)
def QY(p1 AF AM:Int)(AG:Bool)(b1:AAN)(b2:AAT)(b3:AAN)(b4:AAU)(b5:AAX)(b6:AAY)(b7:AAV)(b8:AAW):Option GX:=UB (HE AX) (Gt AX) p1 AF AM AG b1 b2 b3 b4 b5 b6 b7 b8
abbrev uM:Type:=AAg×Unit
def ZT(p0:AAb)(p1:AAN):Option uM:=
 (D2 (p0.1,p0.2.1,()) p1).bind fun u1=>
 cond (u1.1.1)
  ((Gq (p0.1,p0.2.1,()) p1).bind fun u2=>
  some ((!u2.1.1,()),()))
 (some ((false,()),()))
abbrev Pf:Type:=ABW×AEU
abbrev U9:Type:=AAT->Int->Int->AAa->Option Pf
abbrev VP:Type:=AAT->Int->Int->AAa->Int->Int->AAa->Option Pf
def bn(R3:U9)(R8:VP)(t9:AAT)(t10 t11:Int)(b0:AAa):Option Pf:=
 cond (decide (t11<t10))
  (if(0:Int)<=t11/\t11<(t9.length:Int)then(
  (Ey ((t9.getD (t11.toNat) ([],[],0,())).1,(t9.getD (t11.toNat) ([],[],0,())).2.1,(t9.getD (t11.toNat) ([],[],0,())).2.2.1,())).bind fun u1=>
  cond (!u1.1.1)
   (some (((),()),([],())))
  (R8 t9 t10 t11 ((t9.getD (t11.toNat) ([],[],0,())).1) (((t9.getD (t11.toNat) ([],[],0,())).1).length:Int) 0 b0))else none)
 (some (((),()),(b0,())))
def bl(R3:U9)(R8:VP)(t9:AAT)(t10 t11:Int)(t19:AAa)(t20 t21:Int)(b0:AAa):Option Pf:=
 cond (decide (t21<t20))
  (if(0:Int)<=t21/\t21<(t19.length:Int)then(
  (Xy ((t19.getD (t21.toNat) (0,0,false,[],())).1,(t19.getD (t21.toNat) (0,0,false,[],())).2.1,(t19.getD (t21.toNat) (0,0,false,[],())).2.2.1,(t19.getD (t21.toNat) (0,0,false,[],())).2.2.2.1,()) b0).bind fun u3=>
  R8 t9 t10 t11 t19 t20 (AW (t21+1)) u3.2.2.1)else none)
 (R3 t9 t10 (AW (t11+1)) b0)
mutual
def M8:Nat->U9
 |0=>fun _ _ _ _=>none
 |n+1=>bn (M8 n) (M9 n)
def M9:Nat->VP
 |0=>fun _ _ _ _ _ _ _=>none
 |n+1=>bl (M8 n) (M9 n)
end
def mb(R3:U9)(R8:VP)(p0:AAT):Option Pf:=
 R3 p0 (p0.length:Int) 0 []
def iq(p0:AAT):Option Pf:=mb (M8 AX) (M9 AX) p0
abbrev V8:Type:=ADW×AG5
abbrev dX:Type:=List Int->Int->Int->Int->AAT->Int->AAa->AAa->AAT->Option V8
def dj(R5:dX)(t2:AAN)(t4 t37 t38:Int)(b0:AAT)(CO:Int)(b2 b3:AAa)(b4:AAT):Option V8:=
 cond (decide (t38<t37))
  (if(0:Int)<=t38/\t38<(b0.length:Int)then(
  (Bp t2 t38).bind fun u4=>
  cond (u4.1.1)
   (R5 t2 t4 t37 (AW (t38+1)) b0 CO b2 b3 b4)
  ((Ey ((b0.getD (t38.toNat) ([],[],0,())).1,(b0.getD (t38.toNat) ([],[],0,())).2.1,(b0.getD (t38.toNat) ([],[],0,())).2.2.1,())).bind fun u5=>
  cond (!u5.1.1)
   (some (((((),(),0,()),false,()),()),(b0,[],[],())))
  (if b4.length+1<=Cm then(
  R5 t2 t4 t37 (AW (t38+1)) b0 CO b2 b3 (b4++[((b0.getD (t38.toNat) ([],[],0,())).1,(b0.getD (t38.toNat) ([],[],0,())).2.1,(b0.getD (t38.toNat) ([],[],0,())).2.2.1,())]))else none)))else none)
 ((iq b4).bind fun u7=>
 (Ey (u7.2.1,[],t4,())).bind fun u8=>
 cond (!u8.1.1)
  (some (((((),(),0,()),false,()),()),(b0,[],[],())))
 (some (((((),(),t4,()),true,()),()),(b0,u7.2.1,[],()))))
def TQ:Nat->dX
 |0=>fun _ _ _ _ _ _ _ _ _=>none
 |n+1=>dj (TQ n)
def eG(R5:dX)(p0:AAb)(p2:AAN)(p3 p4:Int)(b0:AAT):Option V8:=
 cond (((b0.length:Int) !=(p0.1.length:Int)))
  (some (((((),(),0,()),false,()),()),(b0,[],[],())))
 ((ZT (p0.1,p0.2.1,()) p2).bind fun u2=>
 cond (!u2.1.1)
  (some (((((),(),0,()),false,()),()),(b0,[],[],())))
 ((Bp p2 p3).bind fun u3=>
 cond (!u3.1.1)
  (some (((((),(),0,()),false,()),()),(b0,[],[],())))
 (R5 p2 p4 (b0.length:Int) 0 b0 0 [] [] [])))
def bc(p0:AAb)(p2:AAN)(p3 p4:Int)(b0:AAT):Option V8:=eG (TQ AX) p0 p2 p3 p4 b0
abbrev kE:Type:=AAv×AHM
def J9(p1 AF AM:Int)(AG:Bool)(b1:AAN)(b2:AAT)(b3:AAN)(b4:AAU)(b5:AAX)(b6:AAY)(b7:AAV)(b8:AAW):Option kE:=
 (Ay p1 0 (AW ((b2.length:Int)-1))).bind fun u2=>
 cond (!u2.1.1)
  (some ((2,()),(((),AF,(),(),(),AM,(),(),(),(),AG,()),b1,b2,(),b4,b5,b6,b7,b8,b3,())))
 ((C4 (b1,AF,b2,b3,b4,AM,b5,b6,b7,b8,AG,()) p1).bind fun u3=>
 cond (!u3.1.1)
  (some ((2,()),(((),AF,(),(),(),AM,(),(),(),(),AG,()),b1,b2,(),b4,b5,b6,b7,b8,b3,())))
 (let x4:Int:=AW ((b4.length:Int)-1)
 (bc (b1,AF,()) b3 p1 (if 0>x4 then 0 else x4) b2).bind fun u6=>
 cond (!u6.1.1.2.1)
  (some ((4,()),(((),AF,(),(),(),AM,(),(),(),(),AG,()),b1,u6.2.1,(),b4,b5,b6,b7,b8,b3,())))
 (if(0:Int)<=p1/\p1<(u6.2.1.length:Int)then(
 (G_ b3 p1).bind fun u8=>
 some ((0,()),(((),AF,(),(),(),AM,(),(),(),(),AG,()),b1,(u6.2.1.set (p1.toNat) (u6.2.2.1,u6.2.2.2.1,u6.1.1.1.2.2.1,())),(),b4,b5,b6,b7,b8,u8.2.1,())))else none)))
abbrev rV:Type:=AEY×ADU
def kg(p0 p1:Int):Option rV:=
 some (((p1,p0,(),(),false,(),()),()),([],[],[],()))
abbrev aR:Type:=AAv×(ADq×List Int×AAT×List Int×AAU×AAX×Unit×AAV×AAW×AAY×Unit)
def Qw(AF AM:Int)(AG:Bool)(b1:AAN)(b2:AAT)(b3:AAN)(b4:AAU)(b5:AAX)(b6:AAY)(b7:AAV)(b8:AAW):Option aR:=
 (L7 (b4,AM,())).bind fun u1=>
 cond ((decide ((b4.length:Int)<2)))
  (some ((2,()),(((),AF,(),(),(),AM,(),(),(),(),AG,()),b1,b2,b3,b4,b5,(),b7,b8,b6,())))
 (cond ((u1.1.1==(b4.length:Int)))
  (some ((2,()),(((),AF,(),(),(),AM,(),(),(),(),AG,()),b1,b2,b3,b4,b5,(),b7,b8,b6,())))
 (cond ((decide ((b6.length:Int)>0)))
  (some ((4,()),(((),AF,(),(),(),AM,(),(),(),(),AG,()),b1,b2,b3,b4,b5,(),b7,b8,b6,())))
 ((kg u1.1.1 (b4.length:Int)).bind fun u5=>
 some ((0,()),(((),AF,(),(),(),AM,(),(),(),(),AG,()),b1,b2,b3,b4,b5,(),b7,b8,[(u5.1.1.1,u5.1.1.2.1,u5.2.1,u5.2.2.1,u5.1.1.2.2.2.2.1,u5.2.2.2.1,())],())))))
abbrev Uh:Type:=ADW×ADS
def OZ(p0:ABR)(p1:Int):Option Uh:=
 (Om (p0.1,p0.2.1,p0.2.2.1,())).bind fun u1=>
 cond (!u1.1.1.2.1)
  ((Dh (p0.1,p0.2.1,p0.2.2.1,())).bind fun u2=>
  some (((((),(),u2.1.1.2.2.1,()),false,()),()),(u2.2.1,u2.2.2.1,())))
 ((Ay p1 0 30).bind fun u3=>
 cond (!u3.1.1)
  ((Dh (p0.1,p0.2.1,p0.2.2.1,())).bind fun u4=>
  some (((((),(),u4.1.1.2.2.1,()),false,()),()),(u4.2.1,u4.2.2.1,())))
 (some (((((),(),(if p1>u1.1.1.1.2.2.1 then p1 else u1.1.1.1.2.2.1),()),true,()),()),(u1.2.1,u1.2.2.1,()))))
abbrev KE:Type:=ABW×AEU
abbrev UU:Type:=Int->AAa->Int->Int->AAa->Option KE
def XD(R5:UU)(t1:Int)(t14:AAa)(t15 t16:Int)(b0:AAa):Option KE:=
 cond (decide (t16<t15))
  (if(0:Int)<=t16/\t16<(t14.length:Int)then(
  (EM ((t14.getD (t16.toNat) (0,0,false,[],())).1)).bind fun u3=>
  cond (u3.1.1==t1)
   (if b0.length+1<=Cm then(
   R5 t1 t14 t15 (AW (t16+1)) (b0++[((t14.getD (t16.toNat) (0,0,false,[],())).1,(t14.getD (t16.toNat) (0,0,false,[],())).2.1,(t14.getD (t16.toNat) (0,0,false,[],())).2.2.1,(t14.getD (t16.toNat) (0,0,false,[],())).2.2.2.1,())]))else none)
  (R5 t1 t14 t15 (AW (t16+1)) b0))else none)
 (some (((),()),(b0,())))
def LU:Nat->UU
 |0=>fun _ _ _ _ _=>none
 |n+1=>XD (LU n)
def Wu(R5:UU)(p0:ABR)(p1:Int):Option KE:=
 (Ey (p0.1,p0.2.1,p0.2.2.1,())).bind fun u1=>
 cond (!u1.1.1)
  (some (((),()),([],())))
 (R5 p1 p0.1 (p0.1.length:Int) 0 [])
def QJ(p0:ABR)(p1:Int):Option KE:=Wu (LU AX) p0 p1
abbrev J6:Type:=AD9×ADU
abbrev UR:Type:=AAa->Int->Int->List Int->Int->Int->Int->List Int->AAa->Bool->List AAN->Int->Int->Bool->List Int->AAa->List AAN->Int->Int->Bool->List Int->AAa->List AAN->Option J6
def Wm(R6:UR)(t31:AAa)(t32 t33:Int)(AQ:AAN)(AF B7 Ba:Int)(CO:AAN)(EX:AAa)(Hu:Bool)(Fi:List AAN)(Wb fc:Int)(AHL:Bool)(b3:AAN)(b4:AAa)(b5:List AAN)(wV wH:Int)(wG:Bool)(b7:AAN)(b8:AAa)(b9:List AAN):Option J6:=
 cond (decide (t33<t32))
  (if(0:Int)<=t33/\t33<(t31.length:Int)then(
  (EM ((t31.getD (t33.toNat) (0,0,false,[],())).1)).bind fun u7=>
  cond (u7.1.1==Ba)
   ((Xy ((t31.getD (t33.toNat) (0,0,false,[],())).1,(t31.getD (t33.toNat) (0,0,false,[],())).2.1,(t31.getD (t33.toNat) (0,0,false,[],())).2.2.1,(t31.getD (t33.toNat) (0,0,false,[],())).2.2.2.1,()) b8).bind fun u8=>
   R6 t31 t32 (AW (t33+1)) AQ AF B7 Ba CO EX Hu Fi Wb fc AHL b3 b4 b5 wV wH wG b7 u8.2.2.1 b9)
  (R6 t31 t32 (AW (t33+1)) AQ AF B7 Ba CO EX Hu Fi Wb fc AHL b3 b4 b5 wV wH wG b7 b8 b9))else none)
 ((Hm (AQ,AF,()) (wV,wH,b7,b8,wG,b9,())).bind fun u9=>
 cond (!u9.1.1)
  ((GH (B7,Ba,CO,EX,Hu,Fi,())).bind fun FE=>
  some ((((FE.1.1.1,FE.1.1.2.1,(),(),FE.1.1.2.2.2.2.1,(),()),false,()),()),(FE.2.1,FE.2.2.1,FE.2.2.2.1,())))
 (some ((((wV,wH,(),(),wG,(),()),true,()),()),(b7,b8,b9,()))))
def LQ:Nat->UR
 |0=>fun _ _ _ _ _ _ _ _ _ _ _ _ _ _ _ _ _ _ _ _ _ _ _=>none
 |n+1=>Wm (LQ n)
def XE(R6:UR)(p0:AAb)(p1:AAu)(p2:Int)(p3:AAa):Option J6:=
 (Hm (p0.1,p0.2.1,()) (p1.1,p1.2.1,p1.2.2.1,p1.2.2.2.1,p1.2.2.2.2.1,p1.2.2.2.2.2.1,())).bind fun u1=>
 cond (!u1.1.1)
  ((Ei (p0.1,p0.2.1,()) (p1.1,p1.2.1,p1.2.2.1,p1.2.2.2.1,p1.2.2.2.2.1,p1.2.2.2.2.2.1,())).bind fun u2=>
  some ((((u2.1.1.1,u2.1.1.2.1,(),(),u2.1.1.2.2.2.2.1,(),()),false,()),()),(u2.2.1,u2.2.2.1,u2.2.2.2.1,())))
 (cond (p1.2.2.2.2.1)
  ((Ei (p0.1,p0.2.1,()) (p1.1,p1.2.1,p1.2.2.1,p1.2.2.2.1,p1.2.2.2.2.1,p1.2.2.2.2.2.1,())).bind fun u3=>
  some ((((u3.1.1.1,u3.1.1.2.1,(),(),u3.1.1.2.2.2.2.1,(),()),false,()),()),(u3.2.1,u3.2.2.1,u3.2.2.2.1,())))
 ((GH (p1.1,p1.2.1,p1.2.2.1,p1.2.2.2.1,p1.2.2.2.2.1,p1.2.2.2.2.2.1,())).bind fun u4=>
 (Kz u4.2.1 p2).bind fun u5=>
 R6 p3 (p3.length:Int) 0 p0.1 p0.2.1 p1.1 p1.2.1 p1.2.2.1 p1.2.2.2.1 p1.2.2.2.2.1 p1.2.2.2.2.2.1 0 0 false [] [] [] u4.1.1.1 u4.1.1.2.1 u4.1.1.2.2.2.2.1 u5.2.1 u4.2.2.1 u4.2.2.2.1))
def QL(p0:AAb)(p1:AAu)(p2:Int)(p3:AAa):Option J6:=XE (LQ AX) p0 p1 p2 p3
abbrev lQ:Type:=AAv×ADj
def KI(p1 AF AM:Int)(AG:Bool)(b1:AAN)(b2:AAT)(b3:AAN)(b4:AAU)(b5:AAX)(b6:AAY)(b7:AAV)(b8:AAW):Option lQ:=
 cond (((b6.length:Int)==0))
  (some ((2,()),(((),AF,(),(),(),AM,(),(),(),(),AG,()),b1,b2,b3,b4,b5,b6,b7,b8,())))
 (if(0:Int)<=(0:Int)/\(0:Int)<(b6.length:Int)then(
 (Dd (b1,AF,b2,b3,b4,AM,b5,b6,b7,b8,AG,()) p1 ((b6.getD 0 (0,0,[],[],false,[],())).2.1)).bind fun u3=>
 cond (u3.1.1 !=0)
  (some ((u3.1.1,()),(((),AF,(),(),(),AM,(),(),(),(),AG,()),b1,b2,b3,b4,b5,b6,b7,b8,())))
 (if(0:Int)<=p1/\p1<(b2.length:Int)then(
 (OZ ((b2.getD (p1.toNat) ([],[],0,())).1,(b2.getD (p1.toNat) ([],[],0,())).2.1,(b2.getD (p1.toNat) ([],[],0,())).2.2.1,()) (AW (((b6.getD 0 (0,0,[],[],false,[],())).1)-1))).bind fun u5=>
 (QJ (u5.2.1,u5.2.2.1,u5.1.1.1.2.2.1,()) ((b6.getD 0 (0,0,[],[],false,[],())).2.1)).bind fun u7=>
 (QL (b1,AF,()) ((b6.getD 0 (0,0,[],[],false,[],())).1,(b6.getD 0 (0,0,[],[],false,[],())).2.1,(b6.getD 0 (0,0,[],[],false,[],())).2.2.1,(b6.getD 0 (0,0,[],[],false,[],())).2.2.2.1,(b6.getD 0 (0,0,[],[],false,[],())).2.2.2.2.1,(b6.getD 0 (0,0,[],[],false,[],())).2.2.2.2.2.1,()) p1 u7.2.1).bind fun u8=>
 cond (!u5.1.1.2.1)
  (some ((4,()),(((),AF,(),(),(),AM,(),(),(),(),AG,()),b1,b2,b3,b4,b5,b6,b7,b8,())))
 (cond (!u8.1.1.2.1)
  (some ((4,()),(((),AF,(),(),(),AM,(),(),(),(),AG,()),b1,b2,b3,b4,b5,b6,b7,b8,())))
 (if(0:Int)<=p1/\p1<(b2.length:Int)then(
 if(0:Int)<=(0:Int)/\(0:Int)<(b6.length:Int)then(
 some ((0,()),(((),AF,(),(),(),AM,(),(),(),(),AG,()),b1,(b2.set (p1.toNat) (u5.2.1,u5.2.2.1,u5.1.1.1.2.2.1,())),b3,b4,b5,(b6.set 0 (u8.1.1.1.1,u8.1.1.1.2.1,u8.2.1,u8.2.2.1,u8.1.1.1.2.2.2.2.1,u8.2.2.2.1,())),b7,b8,())))else none)else none)))else none))else none)
abbrev eO:Type:=AD9×ADU
def QS(p0:AAb)(p1:AAu)(p2:AAN):Option eO:=
 (Hm (p0.1,p0.2.1,()) (p1.1,p1.2.1,p1.2.2.1,p1.2.2.2.1,p1.2.2.2.2.1,p1.2.2.2.2.2.1,())).bind fun u1=>
 cond (!u1.1.1)
  ((Ei (p0.1,p0.2.1,()) (p1.1,p1.2.1,p1.2.2.1,p1.2.2.2.1,p1.2.2.2.2.1,p1.2.2.2.2.2.1,())).bind fun u2=>
  some ((((u2.1.1.1,u2.1.1.2.1,(),(),u2.1.1.2.2.2.2.1,(),()),false,()),()),(u2.2.1,u2.2.2.1,u2.2.2.2.1,())))
 (cond (p1.2.2.2.2.1)
  ((Ei (p0.1,p0.2.1,()) (p1.1,p1.2.1,p1.2.2.1,p1.2.2.2.1,p1.2.2.2.2.1,p1.2.2.2.2.2.1,())).bind fun u3=>
  some ((((u3.1.1.1,u3.1.1.2.1,(),(),u3.1.1.2.2.2.2.1,(),()),false,()),()),(u3.2.1,u3.2.2.1,u3.2.2.2.1,())))
 ((NK p1.2.2.1 p2).bind fun u4=>
 (G1 (p0.1,p0.2.1,()) p2 u4.2.1).bind fun u5=>
 cond (!u5.1.1)
  ((Ei (p0.1,p0.2.1,()) (p1.1,p1.2.1,p1.2.2.1,p1.2.2.2.1,p1.2.2.2.2.1,p1.2.2.2.2.2.1,())).bind fun u6=>
  some ((((u6.1.1.1,u6.1.1.2.1,(),(),u6.1.1.2.2.2.2.1,(),()),false,()),()),(u6.2.1,u6.2.2.1,u6.2.2.2.1,())))
 ((GH (p1.1,p1.2.1,p1.2.2.1,p1.2.2.2.1,p1.2.2.2.2.1,p1.2.2.2.2.2.1,())).bind fun u7=>
 (TV (p1.1,p1.2.1,p1.2.2.1,p1.2.2.2.1,p1.2.2.2.2.1,p1.2.2.2.2.2.1,())).bind fun u8=>
 if(0:Int)<=u8.1.1/\u8.1.1<=u8.1.1/\u8.1.1<=(Cm:Int)then(
 some ((((u7.1.1.1,u7.1.1.2.1,(),(),true,(),()),true,()),()),(u7.2.1,u7.2.2.1,(List.replicate (u8.1.1.toNat) []),())))else none)))
abbrev lH:Type:=AAv×ADj
def KJ(AF AM:Int)(AG:Bool)(b1:AAN)(b2:AAT)(b3:AAN)(b4:AAU)(b5:AAX)(b6:AAY)(b7:AAV)(b8:AAW):Option lH:=
 cond (((b6.length:Int)==0))
  (some ((2,()),(((),AF,(),(),(),AM,(),(),(),(),AG,()),b1,b2,b3,b4,b5,b6,b7,b8,())))
 (if(0:Int)<=(0:Int)/\(0:Int)<(b6.length:Int)then(
 if(0:Int)<=(0:Int)/\(0:Int)<(b6.length:Int)then(
 (Is (b4,AM,()) ((b6.getD 0 (0,0,[],[],false,[],())).2.1)).bind fun u3=>
 (QS (b1,AF,()) ((b6.getD 0 (0,0,[],[],false,[],())).1,(b6.getD 0 (0,0,[],[],false,[],())).2.1,(b6.getD 0 (0,0,[],[],false,[],())).2.2.1,(b6.getD 0 (0,0,[],[],false,[],())).2.2.2.1,(b6.getD 0 (0,0,[],[],false,[],())).2.2.2.2.1,(b6.getD 0 (0,0,[],[],false,[],())).2.2.2.2.2.1,()) u3.2.1).bind fun u4=>
 if(0:Int)<=(0:Int)/\(0:Int)<(b6.length:Int)then(
 (J8 u4.1.1.2.1).bind fun u6=>
 some ((u6.1.1,()),(((),AF,(),(),(),AM,(),(),(),(),AG,()),b1,b2,b3,b4,b5,(b6.set 0 (u4.1.1.1.1,u4.1.1.1.2.1,u4.2.1,u4.2.2.1,u4.1.1.1.2.2.2.2.1,u4.2.2.2.1,())),b7,b8,())))else none)else none)else none)
abbrev nP:Type:=AAv×ADj
def S5(p1 p2 AF AM:Int)(AG:Bool)(b1:AAN)(b2:AAT)(b3:AAN)(b4:AAU)(b5:AAX)(b6:AAY)(b7:AAV)(b8:AAW):Option nP:=
 cond (((b6.length:Int)==0))
  (some ((2,()),(((),AF,(),(),(),AM,(),(),(),(),AG,()),b1,b2,b3,b4,b5,b6,b7,b8,())))
 (if(0:Int)<=(0:Int)/\(0:Int)<(b6.length:Int)then(
 (JS ((b6.getD 0 (0,0,[],[],false,[],())).1,(b6.getD 0 (0,0,[],[],false,[],())).2.1,(b6.getD 0 (0,0,[],[],false,[],())).2.2.1,(b6.getD 0 (0,0,[],[],false,[],())).2.2.2.1,(b6.getD 0 (0,0,[],[],false,[],())).2.2.2.2.1,(b6.getD 0 (0,0,[],[],false,[],())).2.2.2.2.2.1,()) p1).bind fun u2=>
 cond (!u2.1.1.2.1)
  (some ((2,()),(((),AF,(),(),(),AM,(),(),(),(),AG,()),b1,b2,b3,b4,b5,b6,b7,b8,())))
 (if(0:Int)<=(0:Int)/\(0:Int)<(b6.length:Int)then(
 (Dd (b1,AF,b2,b3,b4,AM,b5,b6,b7,b8,AG,()) p2 ((b6.getD 0 (0,0,[],[],false,[],())).2.1)).bind fun u4=>
 cond (u4.1.1 !=0)
  (some ((u4.1.1,()),(((),AF,(),(),(),AM,(),(),(),(),AG,()),b1,b2,b3,b4,b5,b6,b7,b8,())))
 ((L8 p2 (u2.1.1.1.1,u2.1.1.1.2.1,u2.1.1.1.2.2.1,u2.1.1.1.2.2.2.1,()) AF AM AG b1 b2 b3 b4 b5 b6 b7 b8).bind fun u5=>
 some ((u5.1.1,()),(((),u5.2.1.2.1,(),(),(),u5.2.1.2.2.2.2.2.1,(),(),(),(),u5.2.1.2.2.2.2.2.2.2.2.2.2.1,()),u5.2.2.1,u5.2.2.2.1,u5.2.2.2.2.1,u5.2.2.2.2.2.1,u5.2.2.2.2.2.2.1,u5.2.2.2.2.2.2.2.1,u5.2.2.2.2.2.2.2.2.1,u5.2.2.2.2.2.2.2.2.2.1,()))))else none))else none)
abbrev Ld:Type:=AAg×Unit
abbrev TE:Type:=List AAN->Int->Int->List Int->Int->Option Ld
def Vc(R4:TE)(t17:List AAN)(t18 t19:Int)(AQ:AAN)(AF:Int):Option Ld:=
 cond (decide (t19<t18))
  (if(0:Int)<=t19/\t19<(t17.length:Int)then(
  (Gq (AQ,AF,()) (t17.getD (t19.toNat) [])).bind fun u3=>
  cond (!u3.1.1)
   (some ((false,()),()))
  (R4 t17 t18 (AW (t19+1)) AQ AF))else none)
 (some ((true,()),()))
def Ki:Nat->TE
 |0=>fun _ _ _ _ _=>none
 |n+1=>Vc (Ki n)
def V7(R4:TE)(p0:AAb)(p1:AAu):Option Ld:=
 (Hm (p0.1,p0.2.1,()) (p1.1,p1.2.1,p1.2.2.1,p1.2.2.2.1,p1.2.2.2.2.1,p1.2.2.2.2.2.1,())).bind fun u1=>
 cond (!u1.1.1)
  (some ((false,()),()))
 (cond (!p1.2.2.2.2.1)
  (some ((false,()),()))
 (R4 p1.2.2.2.2.2.1 (p1.2.2.2.2.2.1.length:Int) 0 p0.1 p0.2.1))
def Oz(p0:AAb)(p1:AAu):Option Ld:=V7 (Ki AX) p0 p1
abbrev dk:Type:=AEb×AD2
def QP(p0:AAb)(p1:AA6)(p2 p3:Int):Option dk:=
 (L7 (p1.1,p1.2.1,())).bind fun u1=>
 (Ks (p0.1,p0.2.1,()) (p1.1,p1.2.1,())).bind fun u2=>
 cond (!u2.1.1)
  ((EF (p0.1,p0.2.1,()) (p1.1,p1.2.1,())).bind fun u3=>
  some (((((),u3.1.1.2.1,()),false,()),()),(u3.2.1,())))
 (cond ((p2 !=(p1.1.length:Int)))
  ((EF (p0.1,p0.2.1,()) (p1.1,p1.2.1,())).bind fun u5=>
  some (((((),u5.1.1.2.1,()),false,()),()),(u5.2.1,())))
 (cond (u1.1.1==p2)
  ((EF (p0.1,p0.2.1,()) (p1.1,p1.2.1,())).bind fun u6=>
  some (((((),u6.1.1.2.1,()),false,()),()),(u6.2.1,())))
 ((Ay p3 0 60).bind fun u7=>
 cond (!u7.1.1)
  ((EF (p0.1,p0.2.1,()) (p1.1,p1.2.1,())).bind fun u8=>
  some (((((),u8.1.1.2.1,()),false,()),()),(u8.2.1,())))
 ((EL (p1.1,p1.2.1,())).bind fun u9=>
 if(0:Int)<=AW (u1.1.1-1)/\AW (u1.1.1-1)<(u9.2.1.length:Int)then(
 let x10:AAU:=(u9.2.1.set ((AW (u1.1.1-1)).toNat) ((u9.2.1.getD ((AW (u1.1.1-1)).toNat) ([],false,0,())).1,true,(u9.2.1.getD ((AW (u1.1.1-1)).toNat) ([],false,0,())).2.2.1,()))
 if(0:Int)<=AW (u1.1.1-1)/\AW (u1.1.1-1)<(x10.length:Int)then(
 some (((((),u9.1.1.2.1,()),true,()),()),((x10.set ((AW (u1.1.1-1)).toNat) ((x10.getD ((AW (u1.1.1-1)).toNat) ([],false,0,())).1,(x10.getD ((AW (u1.1.1-1)).toNat) ([],false,0,())).2.1,p3,())),())))else none)else none))))
abbrev Yg:Type:=AAv×(ADq×List Int×AAT×List Int×Unit×AAX×Unit×AAV×AAW×AAU×AAY×Unit)
def I2(AF AM:Int)(AG:Bool)(b1:AAN)(b2:AAT)(b3:AAN)(b4:AAU)(b5:AAX)(b6:AAY)(b7:AAV)(b8:AAW):Option Yg:=
 cond (((b6.length:Int)==0))
  (some ((2,()),(((),AF,(),(),(),AM,(),(),(),(),AG,()),b1,b2,b3,(),b5,(),b7,b8,b4,b6,())))
 (if(0:Int)<=(0:Int)/\(0:Int)<(b6.length:Int)then(
 (Oz (b1,AF,()) ((b6.getD 0 (0,0,[],[],false,[],())).1,(b6.getD 0 (0,0,[],[],false,[],())).2.1,(b6.getD 0 (0,0,[],[],false,[],())).2.2.1,(b6.getD 0 (0,0,[],[],false,[],())).2.2.2.1,(b6.getD 0 (0,0,[],[],false,[],())).2.2.2.2.1,(b6.getD 0 (0,0,[],[],false,[],())).2.2.2.2.2.1,())).bind fun u2=>
 cond (!u2.1.1)
  (some ((5,()),(((),AF,(),(),(),AM,(),(),(),(),AG,()),b1,b2,b3,(),b5,(),b7,b8,b4,b6,())))
 (if(0:Int)<=(0:Int)/\(0:Int)<(b6.length:Int)then(
 if(0:Int)<=(0:Int)/\(0:Int)<(b6.length:Int)then(
 (QP (b1,AF,()) (b4,AM,()) ((b6.getD 0 (0,0,[],[],false,[],())).1) (((b6.getD 0 (0,0,[],[],false,[],())).2.2.2.2.2.1).length:Int)).bind fun u5=>
 cond (u5.1.1.2.1)
  ((J8 u5.1.1.2.1).bind fun u6=>
  some ((u6.1.1,()),(((),AF,(),(),(),u5.1.1.1.2.1,(),(),(),(),AG,()),b1,b2,b3,(),b5,(),b7,b8,u5.2.1,[],())))
 ((J8 u5.1.1.2.1).bind fun u7=>
 some ((u7.1.1,()),(((),AF,(),(),(),AM,(),(),(),(),AG,()),b1,b2,b3,(),b5,(),b7,b8,b4,b6,()))))else none)else none))else none)
abbrev tJ:Type:=AEb×AD2
def XY(p0:AAb)(p1:AA6)(p2:Int):Option tJ:=
 (Ks (p0.1,p0.2.1,()) (p1.1,p1.2.1,())).bind fun u1=>
 cond (!u1.1.1)
  ((EF (p0.1,p0.2.1,()) (p1.1,p1.2.1,())).bind fun u2=>
  some (((((),u2.1.1.2.1,()),false,()),()),(u2.2.1,())))
 ((EM p2).bind fun u3=>
 (Ay u3.1.1 1 (p1.1.length:Int)).bind fun u4=>
 cond (!u4.1.1)
  ((EF (p0.1,p0.2.1,()) (p1.1,p1.2.1,())).bind fun u5=>
  some (((((),u5.1.1.2.1,()),false,()),()),(u5.2.1,())))
 ((EL (p1.1,p1.2.1,())).bind fun u6=>
 some (((((),(if p2>u6.1.1.2.1 then p2 else u6.1.1.2.1),()),true,()),()),(u6.2.1,()))))
abbrev im:Type:=AAg×Unit
def PW(p0:ACv)(p1:AAv):Option im:=
 some ((decide (p0.1<=p1.1),()),())
abbrev Bo:Type:=AAv×Unit
abbrev CU:Type:=AAa->ACw->Int->Int->Option Bo
def DQ(R2:CU)(t0:AAa)(t1:ACw)(t7 t8:Int):Option Bo:=
 cond (decide (t8<t7))
  (if(0:Int)<=t8/\t8<(t0.length:Int)then(
  (PW ((t0.getD (t8.toNat) (0,0,false,[],())).1,(t0.getD (t8.toNat) (0,0,false,[],())).2.1,(t0.getD (t8.toNat) (0,0,false,[],())).2.2.1,(t0.getD (t8.toNat) (0,0,false,[],())).2.2.2.1,()) t1.1).bind fun u1=>
  cond (u1.1.1)
   (some ((t8,()),()))
  (R2 t0 (t1.1,()) t7 (AW (t8+1))))else none)
 (some (((-1),()),()))
def BK:Nat->CU
 |0=>fun _ _ _ _=>none
 |n+1=>DQ (BK n)
def DR(R2:CU)(p0:AAa)(p1:ACw):Option Bo:=
 R2 p0 (p1.1,()) (p0.length:Int) 0
def Ci(p0:AAa)(p1:ACw):Option Bo:=DR (BK AX) p0 p1
abbrev Bn:Type:=ABW×AFz
abbrev CR:Type:=ACw->Int->Int->AAa->Option Bn
def DI(R5:CR)(t1:ACw)(t5 t6:Int)(b0:AAa):Option Bn:=
 cond ((decide (t6<(b0.length:Int))))
  (if(0:Int)<=t6/\t6<(b0.length:Int)then(
  (PW ((b0.getD (t6.toNat) (0,0,false,[],())).1,(b0.getD (t6.toNat) (0,0,false,[],())).2.1,(b0.getD (t6.toNat) (0,0,false,[],())).2.2.1,(b0.getD (t6.toNat) (0,0,false,[],())).2.2.2.1,()) t1.1).bind fun u3=>
  cond (!u3.1.1)
   (if(0:Int)<=t5/\t5<(b0.length:Int)then(
   R5 (t1.1,()) (AW (t5+1)) (AW (t6+1)) (b0.set (t5.toNat) ((b0.getD (t6.toNat) (0,0,false,[],())).1,(b0.getD (t6.toNat) (0,0,false,[],())).2.1,(b0.getD (t6.toNat) (0,0,false,[],())).2.2.1,(b0.getD (t6.toNat) (0,0,false,[],())).2.2.2.1,())))else none)
  (R5 (t1.1,()) t5 (AW (t6+1)) b0))else none)
 (if(0:Int)<=t5/\t5<=(b0.length:Int)/\(b0.length:Int)<=(b0.length:Int)then(
 let x5:AAa:=(b0.take (t5.toNat)++List.replicate (((b0.length:Int).toNat)-(t5.toNat)) (0,0,false,[],())++b0.drop ((t5.toNat)+(((b0.length:Int).toNat)-(t5.toNat))))
 if(0:Int)<=(0:Int)/\(0:Int)<=t5/\t5<=(x5.length:Int)then(
 some (((),()),((),((x5.drop 0).take ((t5.toNat)-0)),())))else none)else none)
def BI:Nat->CR
 |0=>fun _ _ _ _=>none
 |n+1=>DI (BI n)
def DJ(R5:CR)(p1:ACw)(b0:AAa):Option Bn:=
 (Ci b0 (p1.1,())).bind fun u1=>
 cond (u1.1.1==(-1))
  (some (((),()),((),b0,())))
 (R5 (p1.1,()) u1.1.1 (AW (u1.1.1+1)) b0)
def Br(p1:ACw)(b0:AAa):Option Bn:=DJ (BI AX) p1 b0
abbrev mA:Type:=ADW×ADS
def Ta(p0:ABR)(p1:Int):Option mA:=
 (Ey (p0.1,p0.2.1,p0.2.2.1,())).bind fun u1=>
 cond (!u1.1.1)
  ((Dh (p0.1,p0.2.1,p0.2.2.1,())).bind fun u2=>
  some (((((),(),u2.1.1.2.2.1,()),false,()),()),(u2.2.1,u2.2.2.1,())))
 ((C_ p1).bind fun u3=>
 cond (!u3.1.1)
  ((Dh (p0.1,p0.2.1,p0.2.2.1,())).bind fun u4=>
  some (((((),(),u4.1.1.2.2.1,()),false,()),()),(u4.2.1,u4.2.2.1,())))
 ((C6 (p0.1,p0.2.1,p0.2.2.1,())).bind fun u5=>
 (Br ((p1,()),()) u5.2.1).bind fun u6=>
 some (((((),(),u5.1.1.2.2.1,()),true,()),()),(u6.2.2.1,u5.2.2.1,()))))
abbrev iS:Type:=AAv×ADj
def Pg(p1 AF AM:Int)(AG:Bool)(b1:AAN)(b2:AAT)(b3:AAN)(b4:AAU)(b5:AAX)(b6:AAY)(b7:AAV)(b8:AAW):Option iS:=
 (EH (b1,AF,b2,b3,b4,AM,b5,b6,b7,b8,AG,()) p1).bind fun u1=>
 cond (u1.1.1 !=0)
  (some ((u1.1.1,()),(((),AF,(),(),(),AM,(),(),(),(),AG,()),b1,b2,b3,b4,b5,b6,b7,b8,())))
 (if(0:Int)<=p1/\p1<(b2.length:Int)then(
 (Ta ((b2.getD (p1.toNat) ([],[],0,())).1,(b2.getD (p1.toNat) ([],[],0,())).2.1,(b2.getD (p1.toNat) ([],[],0,())).2.2.1,()) AM).bind fun u2=>
 if(0:Int)<=p1/\p1<(b2.length:Int)then(
 (J8 u2.1.1.2.1).bind fun u4=>
 some ((u4.1.1,()),(((),AF,(),(),(),AM,(),(),(),(),AG,()),b1,(b2.set (p1.toNat) (u2.2.1,u2.2.2.1,u2.1.1.1.2.2.1,())),b3,b4,b5,b6,b7,b8,())))else none)else none)
abbrev OB:Type:=ABW×(Unit×AAX×Unit)
def Ez(p1 p2:Int)(b0:AAX):Option OB:=(AFe p1 p2 b0).map fun l=>(((),()),((),l,()))
abbrev eH:Type:=AAv×(ADq×List Int×AAT×Unit×Unit×Unit×Unit×AAV×Unit×List Int×AAU×AAX×AAY×AAW×Unit)
def Uz(p1:ABX)(AF AM:Int)(AG:Bool)(b1:AAN)(b2:AAT)(b3:AAN)(b4:AAU)(b5:AAX)(b6:AAY)(b7:AAV)(b8:AAW):Option eH:=
 cond (p1.1==1)
  ((KG p1.2.1 AF AM AG b1 b2 b3 b4 b5 b6 b7 b8).bind fun u1=>
  some ((u1.1.1,()),(((),u1.2.1.2.1,(),(),(),u1.2.1.2.2.2.2.2.1,(),(),(),(),u1.2.1.2.2.2.2.2.2.2.2.2.2.1,()),u1.2.2.1,u1.2.2.2.1,(),(),(),(),u1.2.2.2.2.2.2.2.2.1,(),u1.2.2.2.2.1,u1.2.2.2.2.2.2.2.2.2.2.1,u1.2.2.2.2.2.2.2.2.2.2.2.1,u1.2.2.2.2.2.2.2.2.2.2.2.2.1,u1.2.2.2.2.2.2.2.2.2.1,())))
 (cond (p1.1==2)
  ((LL p1.2.1 p1.2.2.2.2.1 AF AM AG b1 b2 b3 b4 b5 b6 b7 b8).bind fun u6=>
  some ((u6.1.1,()),(((),u6.2.1.2.1,(),(),(),u6.2.1.2.2.2.2.2.1,(),(),(),(),u6.2.1.2.2.2.2.2.2.2.2.2.2.1,()),u6.2.2.1,u6.2.2.2.1,(),(),(),(),u6.2.2.2.2.2.2.2.2.1,(),u6.2.2.2.2.1,u6.2.2.2.2.2.1,u6.2.2.2.2.2.2.1,u6.2.2.2.2.2.2.2.1,u6.2.2.2.2.2.2.2.2.2.2.1,())))
 (cond (p1.1==3)
  ((JP (p1.1,p1.2.1,p1.2.2.1,p1.2.2.2.1,p1.2.2.2.2.1,()) AF AM AG b1 b2 b3 b4 b5 b6 b7 b8).bind fun u8=>
  some ((u8.1.1,()),(((),u8.2.1.2.1,(),(),(),u8.2.1.2.2.2.2.2.1,(),(),(),(),u8.2.1.2.2.2.2.2.2.2.2.2.2.1,()),u8.2.2.1,u8.2.2.2.1,(),(),(),(),u8.2.2.2.2.2.2.2.2.1,(),u8.2.2.2.2.1,u8.2.2.2.2.2.1,u8.2.2.2.2.2.2.1,u8.2.2.2.2.2.2.2.1,u8.2.2.2.2.2.2.2.2.2.1,())))
 (cond (p1.1==4)
  ((Qq p1.2.1 AF AM AG b1 b2 b3 b4 b5 b6 b7 b8).bind fun FE=>
  some ((FE.1.1,()),(((),FE.2.1.2.1,(),(),(),FE.2.1.2.2.2.2.2.1,(),(),(),(),FE.2.1.2.2.2.2.2.2.2.2.2.2.1,()),FE.2.2.1,FE.2.2.2.1,(),(),(),(),FE.2.2.2.2.2.2.2.2.1,(),FE.2.2.2.2.1,FE.2.2.2.2.2.1,FE.2.2.2.2.2.2.1,FE.2.2.2.2.2.2.2.1,FE.2.2.2.2.2.2.2.2.2.1,())))
 (cond (p1.1==5)
  ((PN p1.2.1 p1.2.2.1 AF AM AG b1 b2 b3 b4 b5 b6 b7 b8).bind fun WL=>
  some ((WL.1.1,()),(((),WL.2.1.2.1,(),(),(),WL.2.1.2.2.2.2.2.1,(),(),(),(),WL.2.1.2.2.2.2.2.2.2.2.2.2.1,()),WL.2.2.1,WL.2.2.2.1,(),(),(),(),WL.2.2.2.2.2.2.2.2.1,(),WL.2.2.2.2.1,WL.2.2.2.2.2.1,WL.2.2.2.2.2.2.1,WL.2.2.2.2.2.2.2.1,WL.2.2.2.2.2.2.2.2.2.1,())))
 (cond (p1.1==6)
  ((QY p1.2.1 AF AM AG b1 b2 b3 b4 b5 b6 b7 b8).bind fun u16=>
  some ((u16.1.1,()),(((),u16.2.1.2.1,(),(),(),u16.2.1.2.2.2.2.2.1,(),(),(),(),u16.2.1.2.2.2.2.2.2.2.2.2.2.1,()),u16.2.2.1,u16.2.2.2.1,(),(),(),(),u16.2.2.2.2.2.2.2.2.1,(),u16.2.2.2.2.2.2.2.2.2.2.1,u16.2.2.2.2.2.1,u16.2.2.2.2.2.2.1,u16.2.2.2.2.2.2.2.1,u16.2.2.2.2.2.2.2.2.2.1,())))
 (cond (p1.1==7)
  ((J9 p1.2.1 AF AM AG b1 b2 b3 b4 b5 b6 b7 b8).bind fun iG=>
  some ((iG.1.1,()),(((),iG.2.1.2.1,(),(),(),iG.2.1.2.2.2.2.2.1,(),(),(),(),iG.2.1.2.2.2.2.2.2.2.2.2.2.1,()),iG.2.2.1,iG.2.2.2.1,(),(),(),(),iG.2.2.2.2.2.2.2.2.1,(),iG.2.2.2.2.2.2.2.2.2.2.1,iG.2.2.2.2.2.1,iG.2.2.2.2.2.2.1,iG.2.2.2.2.2.2.2.1,iG.2.2.2.2.2.2.2.2.2.1,())))
 (cond (p1.1==8)
  ((Qw AF AM AG b1 b2 b3 b4 b5 b6 b7 b8).bind fun o9=>
  some ((o9.1.1,()),(((),o9.2.1.2.1,(),(),(),o9.2.1.2.2.2.2.2.1,(),(),(),(),o9.2.1.2.2.2.2.2.2.2.2.2.2.1,()),o9.2.2.1,o9.2.2.2.1,(),(),(),(),o9.2.2.2.2.2.2.2.2.1,(),o9.2.2.2.2.1,o9.2.2.2.2.2.1,o9.2.2.2.2.2.2.1,o9.2.2.2.2.2.2.2.2.2.2.1,o9.2.2.2.2.2.2.2.2.2.1,())))
 (cond (p1.1==9)
  ((KI p1.2.1 AF AM AG b1 b2 b3 b4 b5 b6 b7 b8).bind fun jU=>
  some ((jU.1.1,()),(((),jU.2.1.2.1,(),(),(),jU.2.1.2.2.2.2.2.1,(),(),(),(),jU.2.1.2.2.2.2.2.2.2.2.2.2.1,()),jU.2.2.1,jU.2.2.2.1,(),(),(),(),jU.2.2.2.2.2.2.2.2.1,(),jU.2.2.2.2.1,jU.2.2.2.2.2.1,jU.2.2.2.2.2.2.1,jU.2.2.2.2.2.2.2.1,jU.2.2.2.2.2.2.2.2.2.1,())))
 (cond (p1.1==10)
  ((KJ AF AM AG b1 b2 b3 b4 b5 b6 b7 b8).bind fun u31=>
  some ((u31.1.1,()),(((),u31.2.1.2.1,(),(),(),u31.2.1.2.2.2.2.2.1,(),(),(),(),u31.2.1.2.2.2.2.2.2.2.2.2.2.1,()),u31.2.2.1,u31.2.2.2.1,(),(),(),(),u31.2.2.2.2.2.2.2.2.1,(),u31.2.2.2.2.1,u31.2.2.2.2.2.1,u31.2.2.2.2.2.2.1,u31.2.2.2.2.2.2.2.1,u31.2.2.2.2.2.2.2.2.2.1,())))
 (cond (p1.1==11)
  ((S5 p1.2.2.1 p1.2.2.2.1 AF AM AG b1 b2 b3 b4 b5 b6 b7 b8).bind fun u34=>
  some ((u34.1.1,()),(((),u34.2.1.2.1,(),(),(),u34.2.1.2.2.2.2.2.1,(),(),(),(),u34.2.1.2.2.2.2.2.2.2.2.2.2.1,()),u34.2.2.1,u34.2.2.2.1,(),(),(),(),u34.2.2.2.2.2.2.2.2.1,(),u34.2.2.2.2.1,u34.2.2.2.2.2.1,u34.2.2.2.2.2.2.1,u34.2.2.2.2.2.2.2.1,u34.2.2.2.2.2.2.2.2.2.1,())))
 (cond (p1.1==12)
  ((I2 AF AM AG b1 b2 b3 b4 b5 b6 b7 b8).bind fun xl=>
  some ((xl.1.1,()),(((),xl.2.1.2.1,(),(),(),xl.2.1.2.2.2.2.2.1,(),(),(),(),xl.2.1.2.2.2.2.2.2.2.2.2.2.1,()),xl.2.2.1,xl.2.2.2.1,(),(),(),(),xl.2.2.2.2.2.2.2.2.1,(),xl.2.2.2.2.1,xl.2.2.2.2.2.2.2.2.2.2.1,xl.2.2.2.2.2.2.1,xl.2.2.2.2.2.2.2.2.2.2.2.1,xl.2.2.2.2.2.2.2.2.2.1,())))
 (cond (p1.1==13)
  ((XY (b1,AF,()) (b4,AM,()) p1.2.1).bind fun u42=>
  (J8 u42.1.1.2.1).bind fun u43=>
  some ((u43.1.1,()),(((),AF,(),(),(),u42.1.1.1.2.1,(),(),(),(),AG,()),b1,b2,(),(),(),(),b7,(),b3,u42.2.1,b5,b6,b8,())))
 (cond (p1.1==14)
  ((My p1.2.1 p1.2.2.1 AF AM AG b1 b2 b3 b4 b5 b6 b7 b8).bind fun u46=>
  some ((u46.1.1,()),(((),u46.2.1.2.1,(),(),(),u46.2.1.2.2.2.2.2.1,(),(),(),(),u46.2.1.2.2.2.2.2.2.2.2.2.2.1,()),u46.2.2.1,u46.2.2.2.1,(),(),(),(),u46.2.2.2.2.2.2.2.2.1,(),u46.2.2.2.2.1,u46.2.2.2.2.2.1,u46.2.2.2.2.2.2.1,u46.2.2.2.2.2.2.2.1,u46.2.2.2.2.2.2.2.2.2.1,())))
 (cond (p1.1==16)
  ((Pg p1.2.1 AF AM AG b1 b2 b3 b4 b5 b6 b7 b8).bind fun u49=>
  some ((u49.1.1,()),(((),u49.2.1.2.1,(),(),(),u49.2.1.2.2.2.2.2.1,(),(),(),(),u49.2.1.2.2.2.2.2.2.2.2.2.2.1,()),u49.2.2.1,u49.2.2.2.1,(),(),(),(),u49.2.2.2.2.2.2.2.2.1,(),u49.2.2.2.2.1,u49.2.2.2.2.2.1,u49.2.2.2.2.2.2.1,u49.2.2.2.2.2.2.2.1,u49.2.2.2.2.2.2.2.2.2.1,())))
 ((Ay p1.2.1 0 (AW ((b5.length:Int)-1))).bind fun u53=>
 cond (!u53.1.1)
  (some ((2,()),(((),AF,(),(),(),AM,(),(),(),(),AG,()),b1,b2,(),(),(),(),b7,(),b3,b4,b5,b6,b8,())))
 ((Ez p1.2.1 (AW (p1.2.1+1)) b5).bind fun u54=>
 some ((0,()),(((),AF,(),(),(),AM,(),(),(),(),AG,()),b1,b2,(),(),(),(),b7,(),b3,b4,u54.2.2.1,b6,b8,()))))))))))))))))))
abbrev rA:Type:=AC7×ADG
def MT(p0:AAi)(p1:ABX):Option rA:=
 (Cw (p0.1,p0.2.1,p0.2.2.1,p0.2.2.2.1,p0.2.2.2.2.1,p0.2.2.2.2.2.1,p0.2.2.2.2.2.2.1,p0.2.2.2.2.2.2.2.1,p0.2.2.2.2.2.2.2.2.1,p0.2.2.2.2.2.2.2.2.2.1,p0.2.2.2.2.2.2.2.2.2.2.1,())).bind fun u1=>
 cond (!u1.1.1)
  (some (((((),0,(),(),(),0,(),(),(),(),false,()),1,()),()),([],[],[],[],[],[],[],[],())))
 ((Vk (p1.1,p1.2.1,p1.2.2.1,p1.2.2.2.1,p1.2.2.2.2.1,())).bind fun u2=>
 cond (!u2.1.1)
  (some (((((),0,(),(),(),0,(),(),(),(),false,()),1,()),()),([],[],[],[],[],[],[],[],())))
 ((Dk (p0.1,p0.2.1,p0.2.2.1,p0.2.2.2.1,p0.2.2.2.2.1,p0.2.2.2.2.2.1,p0.2.2.2.2.2.2.1,p0.2.2.2.2.2.2.2.1,p0.2.2.2.2.2.2.2.2.1,p0.2.2.2.2.2.2.2.2.2.1,p0.2.2.2.2.2.2.2.2.2.2.1,())).bind fun u3=>
 (Uz (p1.1,p1.2.1,p1.2.2.1,p1.2.2.2.1,p1.2.2.2.2.1,()) u3.1.1.2.1 u3.1.1.2.2.2.2.2.1 u3.1.1.2.2.2.2.2.2.2.2.2.2.1 u3.2.1 u3.2.2.1 u3.2.2.2.1 u3.2.2.2.2.1 u3.2.2.2.2.2.1 u3.2.2.2.2.2.2.1 u3.2.2.2.2.2.2.2.1 u3.2.2.2.2.2.2.2.2.1).bind fun u4=>
 cond (u4.1.1 !=0)
  ((Dk (p0.1,p0.2.1,p0.2.2.1,p0.2.2.2.1,p0.2.2.2.2.1,p0.2.2.2.2.2.1,p0.2.2.2.2.2.2.1,p0.2.2.2.2.2.2.2.1,p0.2.2.2.2.2.2.2.2.1,p0.2.2.2.2.2.2.2.2.2.1,p0.2.2.2.2.2.2.2.2.2.2.1,())).bind fun FE=>
  some (((((),FE.1.1.2.1,(),(),(),FE.1.1.2.2.2.2.2.1,(),(),(),(),FE.1.1.2.2.2.2.2.2.2.2.2.2.1,()),u4.1.1,()),()),(FE.2.1,FE.2.2.1,FE.2.2.2.1,FE.2.2.2.2.1,FE.2.2.2.2.2.1,FE.2.2.2.2.2.2.1,FE.2.2.2.2.2.2.2.1,FE.2.2.2.2.2.2.2.2.1,())))
 (some (((((),u4.2.1.2.1,(),(),(),u4.2.1.2.2.2.2.2.1,(),(),(),(),u4.2.1.2.2.2.2.2.2.2.2.2.2.1,()),0,()),()),(u4.2.2.1,u4.2.2.2.1,u4.2.2.2.2.2.2.2.2.2.2.1,u4.2.2.2.2.2.2.2.2.2.2.2.1,u4.2.2.2.2.2.2.2.2.2.2.2.2.1,u4.2.2.2.2.2.2.2.2.2.2.2.2.2.1,u4.2.2.2.2.2.2.2.2.1,u4.2.2.2.2.2.2.2.2.2.2.2.2.2.2.1,())))))
abbrev pW:Type:=AAg×Unit
def VJ(p0:AAi):Option pW:=
 (QX (p0.1,p0.2.1,p0.2.2.1,p0.2.2.2.1,p0.2.2.2.2.1,p0.2.2.2.2.2.1,p0.2.2.2.2.2.2.1,p0.2.2.2.2.2.2.2.1,p0.2.2.2.2.2.2.2.2.1,p0.2.2.2.2.2.2.2.2.2.1,p0.2.2.2.2.2.2.2.2.2.2.1,())).bind fun u1=>
 cond (u1.1.1)
  ((SE (p0.1,p0.2.1,p0.2.2.1,p0.2.2.2.1,p0.2.2.2.2.1,p0.2.2.2.2.2.1,p0.2.2.2.2.2.2.1,p0.2.2.2.2.2.2.2.1,p0.2.2.2.2.2.2.2.2.1,p0.2.2.2.2.2.2.2.2.2.1,p0.2.2.2.2.2.2.2.2.2.2.1,())).bind fun u2=>
  cond (u2.1.1)
   ((TJ (p0.1,p0.2.1,p0.2.2.1,p0.2.2.2.1,p0.2.2.2.2.1,p0.2.2.2.2.2.1,p0.2.2.2.2.2.2.1,p0.2.2.2.2.2.2.2.1,p0.2.2.2.2.2.2.2.2.1,p0.2.2.2.2.2.2.2.2.2.1,p0.2.2.2.2.2.2.2.2.2.2.1,())).bind fun u3=>
   cond (u3.1.1)
    ((Qt (p0.1,p0.2.1,p0.2.2.1,p0.2.2.2.1,p0.2.2.2.2.1,p0.2.2.2.2.2.1,p0.2.2.2.2.2.2.1,p0.2.2.2.2.2.2.2.1,p0.2.2.2.2.2.2.2.2.1,p0.2.2.2.2.2.2.2.2.2.1,p0.2.2.2.2.2.2.2.2.2.2.1,())).bind fun u4=>
    cond (u4.1.1)
     ((Sr (p0.1,p0.2.1,p0.2.2.1,p0.2.2.2.1,p0.2.2.2.2.1,p0.2.2.2.2.2.1,p0.2.2.2.2.2.2.1,p0.2.2.2.2.2.2.2.1,p0.2.2.2.2.2.2.2.2.1,p0.2.2.2.2.2.2.2.2.2.1,p0.2.2.2.2.2.2.2.2.2.2.1,())).bind fun u5=>
     some ((u5.1.1,()),()))
    (some ((false,()),())))
   (some ((false,()),())))
  (some ((false,()),())))
 (some ((false,()),()))
abbrev XG:Type:=ADQ×Unit
abbrev ae:Type:=Int->List UInt8->Option XG
def LM(R4:ae)(t0:Int)(t3:AAZ):Option XG:=
 cond (decide (t0>0))
  (let x2:AAZ:=([w8 ((AW (48+(t0.tmod 10))))].map fun n:Int=>UInt8.ofNat n.toNat)
  if x2.length+t3.length<=Cm then(
  R4 (AW (t0.tdiv 10)) (x2++t3))else none)
 (some ((t3,()),()))
def NA:Nat->ae
 |0=>fun _ _=>none
 |n+1=>LM (NA n)
def bV(R4:ae)(p0:Int):Option XG:=
 cond (decide (p0<=0))
  (some (([48],()),()))
 (R4 p0 [])
def Oo(p0:Int):Option XG:=bV (NA AX) p0
abbrev nE:Type:=ADQ×Unit
def FX(p0:Int):Option nE:=
 (E9 p0).bind fun u1=>
 cond (!u1.1.1)
  (some (([],()),()))
 ((Cl p0).bind fun u2=>
 (Oo u2.1.1).bind fun u3=>
 if 1+u3.1.1.length<=Cm then(
 if([101]++u3.1.1).length+1<=Cm then(
 let x4:AAZ:=([101]++u3.1.1)++[46]
 (Gh p0).bind fun u5=>
 (Oo u5.1.1).bind fun u6=>
 if x4.length+u6.1.1.length<=Cm then(
 some ((x4++u6.1.1,()),()))else none)else none)else none)
abbrev l_:Type:=ADQ×Unit
def GU(p0:ADa):Option l_:=
 cond (p0.1==1)
  (cond (p0.2.2.1==[])
   ((FX p0.2.1).bind fun u1=>
   if 5+u1.1.1.length<=Cm then(
   some ((([100,97,116,97,32]++u1.1.1),()),()))else none)
  ((FX p0.2.1).bind fun u3=>
  if 5+u3.1.1.length<=Cm then(
  let x4:AAZ:=[100,97,116,97,32]++u3.1.1
  if x4.length+1<=Cm then(
  if(x4++[32]).length+p0.2.2.1.length<=Cm then(
  some ((((x4++[32])++p0.2.2.1),()),()))else none)else none)else none))
 (cond (p0.1==2)
  ((FX p0.2.1).bind fun u6=>
  if 5+u6.1.1.length<=Cm then(
  some ((([104,111,108,101,32]++u6.1.1),()),()))else none)
 (cond (p0.1==3)
  ((FX p0.2.1).bind fun u8=>
  if 5+u8.1.1.length<=Cm then(
  some ((([108,111,115,115,32]++u8.1.1),()),()))else none)
 (cond (p0.1==4)
  ((Oo p0.2.1).bind fun FE=>
  if 4+FE.1.1.length<=Cm then(
  some ((([101,114,97,32]++FE.1.1),()),()))else none)
 (cond (p0.1==5)
  ((FX p0.2.1).bind fun Th=>
  if 5+Th.1.1.length<=Cm then(
  some ((([116,114,105,109,32]++Th.1.1),()),()))else none)
 (some (([],()),()))))))
abbrev bC:Type:=ADQ×Unit
def fN(p0:AAi)(p1:AAZ):Option bC:=
 cond ((p1==[106,117,100,103,101]))
  ((VJ (p0.1,p0.2.1,p0.2.2.1,p0.2.2.2.1,p0.2.2.2.2.1,p0.2.2.2.2.2.1,p0.2.2.2.2.2.2.1,p0.2.2.2.2.2.2.2.1,p0.2.2.2.2.2.2.2.2.1,p0.2.2.2.2.2.2.2.2.2.1,p0.2.2.2.2.2.2.2.2.2.2.1,())).bind fun u2=>
  cond (u2.1.1)
   (some (([121,101,115],()),()))
  (some (([110,111],()),())))
 (cond ((p1==[111,117,116,32,48]))
  (if(0:Int)<=(4:Int)/\(4:Int)<(p1.length:Int)then(
  let x5:Int:=AW ((AW (((p1.getD 4 0).toNat:Int)))-48)
  if(0:Int)<=x5/\x5<(p0.2.2.2.2.2.2.2.2.1.length:Int)then(
  cond ((((p0.2.2.2.2.2.2.2.2.1.getD (x5.toNat) (0,0,[],())).2.2.1).length:Int)==0)
   (some (([110,111,110,101],()),()))
  (let x7:Int:=(((p0.2.2.2.2.2.2.2.2.1.getD (x5.toNat) (0,0,[],())).2.2.1).length:Int)
  if(0:Int)<=AW (x7-1)/\AW (x7-1)<(((p0.2.2.2.2.2.2.2.2.1.getD (x5.toNat) (0,0,[],())).2.2.1).length:Int)then(
  (GU ((((p0.2.2.2.2.2.2.2.2.1.getD (x5.toNat) (0,0,[],())).2.2.1).getD ((AW (x7-1)).toNat) (0,0,[],())).1,(((p0.2.2.2.2.2.2.2.2.1.getD (x5.toNat) (0,0,[],())).2.2.1).getD ((AW (x7-1)).toNat) (0,0,[],())).2.1,(((p0.2.2.2.2.2.2.2.2.1.getD (x5.toNat) (0,0,[],())).2.2.1).getD ((AW (x7-1)).toNat) (0,0,[],())).2.2.1,())).bind fun u8=>
  some ((u8.1.1,()),()))else none))else none)else none)
 (cond ((p1==[111,117,116,32,49]))
  (if(0:Int)<=(4:Int)/\(4:Int)<(p1.length:Int)then(
  let x15:Int:=AW ((AW (((p1.getD 4 0).toNat:Int)))-48)
  if(0:Int)<=x15/\x15<(p0.2.2.2.2.2.2.2.2.1.length:Int)then(
  cond ((((p0.2.2.2.2.2.2.2.2.1.getD (x15.toNat) (0,0,[],())).2.2.1).length:Int)==0)
   (some (([110,111,110,101],()),()))
  (let x17:Int:=(((p0.2.2.2.2.2.2.2.2.1.getD (x15.toNat) (0,0,[],())).2.2.1).length:Int)
  if(0:Int)<=AW (x17-1)/\AW (x17-1)<(((p0.2.2.2.2.2.2.2.2.1.getD (x15.toNat) (0,0,[],())).2.2.1).length:Int)then(
  (GU ((((p0.2.2.2.2.2.2.2.2.1.getD (x15.toNat) (0,0,[],())).2.2.1).getD ((AW (x17-1)).toNat) (0,0,[],())).1,(((p0.2.2.2.2.2.2.2.2.1.getD (x15.toNat) (0,0,[],())).2.2.1).getD ((AW (x17-1)).toNat) (0,0,[],())).2.1,(((p0.2.2.2.2.2.2.2.2.1.getD (x15.toNat) (0,0,[],())).2.2.1).getD ((AW (x17-1)).toNat) (0,0,[],())).2.2.1,())).bind fun rZ=>
  some ((rZ.1.1,()),()))else none))else none)else none)
 (some (([],()),()))))
abbrev sY:Type:=ADQ×Unit
def R_(p0:Int):Option sY:=
 if(0:Int)<=p0/\p0<17 then(
 some ((([[],[111,112,101,110],[97,100,100],[115,116,111,114,101],[115,121,110,99],[99,114,97,115,104],[108,111,115,101],[102,105,108,108],[109,101,110,100],[115,101,97,108],[112,108,97,110],[102,105,120],[99,108,111,115,101],[116,114,105,109],[114,101,97,100],[100,114,111,112],[112,114,117,110,101]].getD (p0.toNat) []),()),()))else none
abbrev sq:Type:=ABW×ACE
def S8(p0:ABX):Option sq:=
 cond (p0.1==8)
  (some (((),()),([],())))
 (cond (p0.1==10)
  (some (((),()),([],())))
 (cond (p0.1==12)
  (some (((),()),([],())))
 (cond (p0.1==13)
  (some (((),()),([],())))
 (cond (p0.1==3)
  (some (((),()),([p0.2.1,p0.2.2.1,p0.2.2.2.1],())))
 (cond (p0.1==5)
  (some (((),()),([p0.2.1,p0.2.2.1],())))
 (cond (p0.1==14)
  (some (((),()),([p0.2.1,p0.2.2.1],())))
 (cond (p0.1==11)
  (some (((),()),([p0.2.2.1,p0.2.2.2.1],())))
 (some (((),()),([p0.2.1],()))))))))))
abbrev QO:Type:=((Int×Int×Unit)×Unit)×Unit
abbrev TZ:Type:=List UInt8->Int->Int->Int->Option QO
def Sg(R3:TZ)(t0:AAZ)(t1 t6 t7:Int):Option QO:=
 cond ((decide (t1<(t0.length:Int))))
  (if(0:Int)<=t1/\t1<(t0.length:Int)then(
  cond (decide (((t0.getD (t1.toNat) 0).toNat:Int)>=48))
   (if(0:Int)<=t1/\t1<(t0.length:Int)then(
   cond (decide (((t0.getD (t1.toNat) 0).toNat:Int)<=57))
    (cond ((decide ((AW (t1-t6))<11)))
     (if(0:Int)<=t1/\t1<(t0.length:Int)then(
     R3 t0 (AW (t1+1)) t6 (AW ((AW ((AW (10*t7))+(AW (((t0.getD (t1.toNat) 0).toNat:Int)))))-48)))else none)
    (cond (t1==t6)
     (some ((((-1),t1,()),()),()))
    (cond ((decide ((AW (t1-t6))>10)))
     (some ((((-1),t1,()),()),()))
    (some (((t7,t1,()),()),())))))
   (cond (t1==t6)
    (some ((((-1),t1,()),()),()))
   (cond ((decide ((AW (t1-t6))>10)))
    (some ((((-1),t1,()),()),()))
   (some (((t7,t1,()),()),())))))else none)
  (cond (t1==t6)
   (some ((((-1),t1,()),()),()))
  (cond ((decide ((AW (t1-t6))>10)))
   (some ((((-1),t1,()),()),()))
  (some (((t7,t1,()),()),())))))else none)
 (cond (t1==t6)
  (some ((((-1),t1,()),()),()))
 (cond ((decide ((AW (t1-t6))>10)))
  (some ((((-1),t1,()),()),()))
 (some (((t7,t1,()),()),()))))
def LY:Nat->TZ
 |0=>fun _ _ _ _=>none
 |n+1=>Sg (LY n)
def kN(R3:TZ)(p0:AAZ)(p1:Int):Option QO:=
 R3 p0 p1 p1 0
def VZ(p0:AAZ)(p1:Int):Option QO:=kN (LY AX) p0 p1
abbrev w_:Type:=AFP×Unit
def dL(p0:Int)(p1:AAN):Option w_:=
 cond (p0==11)
  (if(0:Int)<=(0:Int)/\(0:Int)<(p1.length:Int)then(
  if(0:Int)<=(1:Int)/\(1:Int)<(p1.length:Int)then(
  some (((p0,0,(p1.getD 0 0),(p1.getD 1 0),[],()),()),()))else none)else none)
 (cond ((decide ((p1.length:Int)>0)))
  (if(0:Int)<=(0:Int)/\(0:Int)<(p1.length:Int)then(
  cond ((decide ((p1.length:Int)>1)))
   (if(0:Int)<=(1:Int)/\(1:Int)<(p1.length:Int)then(
   cond ((decide ((p1.length:Int)>2)))
    (if(0:Int)<=(2:Int)/\(2:Int)<(p1.length:Int)then(
    some (((p0,(p1.getD 0 0),(p1.getD 1 0),(p1.getD 2 0),[],()),()),()))else none)
   (some (((p0,(p1.getD 0 0),(p1.getD 1 0),0,[],()),()),())))else none)
  (cond ((decide ((p1.length:Int)>2)))
   (if(0:Int)<=(2:Int)/\(2:Int)<(p1.length:Int)then(
   some (((p0,(p1.getD 0 0),0,(p1.getD 2 0),[],()),()),()))else none)
  (some (((p0,(p1.getD 0 0),0,0,[],()),()),()))))else none)
 (some (((p0,0,0,0,[],()),()),())))
abbrev KK:Type:=AEV×Unit
abbrev PV:Type:=Int->Int->Int->Int->Int->List UInt8->Option KK
abbrev Nb:Type:=List UInt8->Int->Int->Int->Int->Int->List UInt8->List Int->Option KK
def Ia(R4:PV)(iH:Nb)(t4 AQ AF Ah BA:Int)(BH:AAZ):Option KK:=
 cond ((decide (t4<(BH.length:Int))))
  (if(0:Int)<=t4/\t4<(BH.length:Int)then(
  cond (((BH.getD (t4.toNat) 0).toNat:Int)==10)
   (some ((([],false,()),()),()))
  (R4 (AW (t4+1)) AQ AF Ah BA BH))else none)
 ((R_ AQ).bind fun u5=>
 (S8 (AQ,AF,Ah,BA,BH,())).bind fun u6=>
 iH u5.1.1 0 AQ AF Ah BA BH u6.2.1)
def Hl(R4:PV)(iH:Nb)(t5:AAZ)(t7 AQ AF Ah BA:Int)(BH:AAZ)(b1:AAN):Option KK:=
 cond ((decide (t7<(b1.length:Int))))
  (if(0:Int)<=t7/\t7<(b1.length:Int)then(
  (B9 (b1.getD (t7.toNat) 0) 0 9999999999).bind fun u9=>
  cond (!u9.1.1)
   (some ((([],false,()),()),()))
  (if t5.length+1<=Cm then(
  if(0:Int)<=t7/\t7<(b1.length:Int)then(
  (Oo (b1.getD (t7.toNat) 0)).bind fun Hj=>
  if(t5++[32]).length+Hj.1.1.length<=Cm then(
  iH ((t5++[32])++Hj.1.1) (AW (t7+1)) AQ AF Ah BA BH b1)else none)else none)else none))else none)
 (cond (AQ==2)
  (if t5.length+1<=Cm then(
  if(t5++[32]).length+BH.length<=Cm then(
  some ((((t5++[32])++BH,true,()),()),()))else none)else none)
 (cond (AQ==13)
  (if t5.length+1<=Cm then(
  (FX AF).bind fun WL=>
  if(t5++[32]).length+WL.1.1.length<=Cm then(
  some (((((t5++[32])++WL.1.1),true,()),()),()))else none)else none)
 (some (((t5,true,()),()),()))))
mutual
def Ex:Nat->PV
 |0=>fun _ _ _ _ _ _=>none
 |n+1=>Ia (Ex n) (EN n)
def EN:Nat->Nb
 |0=>fun _ _ _ _ _ _ _ _=>none
 |n+1=>Hl (Ex n) (EN n)
end
def W8(R4:PV)(iH:Nb)(p0:ABX):Option KK:=
 (WG (p0.1,p0.2.1,p0.2.2.1,p0.2.2.2.1,p0.2.2.2.2.1,())).bind fun u1=>
 cond (!u1.1.1)
  (some ((([],false,()),()),()))
 (cond (p0.1==13)
  ((E9 p0.2.1).bind fun u2=>
  cond (!u2.1.1)
   (some ((([],false,()),()),()))
  (R4 0 p0.1 p0.2.1 p0.2.2.1 p0.2.2.2.1 p0.2.2.2.2.1))
 (R4 0 p0.1 p0.2.1 p0.2.2.1 p0.2.2.2.1 p0.2.2.2.2.1))
def Kx(p0:ABX):Option KK:=W8 (Ex AX) (EN AX) p0
abbrev nQ:Type:=ADw×Unit
def TF(p0:AAZ):Option nQ:=
 cond ((decide ((p0.length:Int)<4)))
  (some (((0,false,()),()),()))
 ((VZ p0 1).bind fun u2=>
 (VZ p0 (AW (u2.1.1.2.1+1))).bind fun u3=>
 (OH u2.1.1.1 u3.1.1.1).bind fun u4=>
 cond (!u4.1.1.2.1)
  (some (((0,false,()),()),()))
 ((FX u4.1.1.1).bind fun u5=>
 cond (!(u5.1.1==p0))
  (some (((0,false,()),()),()))
 (some (((u4.1.1.1,true,()),()),()))))
abbrev HK:Type:=(AHN×Unit)×Unit
abbrev Nc:Type:=List UInt8->Int->Int->Int->Int->Int->List UInt8->Int->Int->Int->Int->List UInt8->Option HK
abbrev MG:Type:=List UInt8->Int->Int->Int->Int->Int->Int->Int->Int->List UInt8->Int->Int->Int->Int->List UInt8->List Int->Option HK
def He(R3:Nc)(iH:MG)(t0:AAZ)(t5 AQ AF Ah BA:Int)(BH:AAZ)(B7 Ba CO EX:Int)(Hu:AAZ):Option HK:=
 cond (decide (t5<=16))
  ((R_ t5).bind fun u1=>
  cond ((decide ((t0.length:Int)<(u1.1.1.length:Int))))
   (R3 t0 (AW (t5+1)) AQ AF Ah BA BH B7 Ba CO EX Hu)
  (let x4:Int:=(u1.1.1.length:Int)
  if(0:Int)<=(0:Int)/\(0:Int)<=x4/\x4<=(t0.length:Int)then(
  cond (!(((t0.drop 0).take ((x4.toNat)-0))==u1.1.1))
   (R3 t0 (AW (t5+1)) AQ AF Ah BA BH B7 Ba CO EX Hu)
  ((S8 (t5,0,0,0,[],())).bind fun u6=>
  iH t0 t5 (u6.2.1.length:Int) (u1.1.1.length:Int) 0 AQ AF Ah BA BH B7 Ba CO EX Hu []))else none))
 (some ((((B7,Ba,CO,EX,Hu,()),false,()),()),()))
def G5(R3:Nc)(iH:MG)(t0:AAZ)(t5 t7 t8 t10 AQ AF Ah BA:Int)(BH:AAZ)(B7 Ba CO EX:Int)(Hu:AAZ)(b2:AAN):Option HK:=
 cond (decide (t10<t7))
  ((VZ t0 (AW (t8+1))).bind fun u9=>
  cond ((decide (u9.1.1.1<0)))
   (some ((((B7,Ba,CO,EX,Hu,()),false,()),()),()))
  (if b2.length+1<=Cm then(
  iH t0 t5 t7 u9.1.1.2.1 (AW (t10+1)) AQ AF Ah BA BH B7 Ba CO EX Hu (b2++[u9.1.1.1]))else none))
 ((dL t5 b2).bind fun Hj=>
 cond (t5==2)
  ((YV (AW (t8+1)) (t0.length:Int)).bind fun Th=>
  if(0:Int)<=Th.1.1/\Th.1.1<=(t0.length:Int)/\(t0.length:Int)<=(t0.length:Int)then(
  let x13:AAZ:=((t0.drop (Th.1.1.toNat)).take (((t0.length:Int).toNat)-(Th.1.1.toNat)))
  (Kx (Hj.1.1.1,Hj.1.1.2.1,Hj.1.1.2.2.1,Hj.1.1.2.2.2.1,x13,())).bind fun Pd=>
  cond (!Pd.1.1.2.1)
   (some ((((B7,Ba,CO,EX,Hu,()),false,()),()),()))
  (cond (!(Pd.1.1.1==t0))
   (some ((((B7,Ba,CO,EX,Hu,()),false,()),()),()))
  (some ((((Hj.1.1.1,Hj.1.1.2.1,Hj.1.1.2.2.1,Hj.1.1.2.2.2.1,x13,()),true,()),()),()))))else none)
 (cond (t5==13)
  ((YV (AW (t8+1)) (t0.length:Int)).bind fun qQ=>
  if(0:Int)<=qQ.1.1/\qQ.1.1<=(t0.length:Int)/\(t0.length:Int)<=(t0.length:Int)then(
  (TF ((t0.drop (qQ.1.1.toNat)).take (((t0.length:Int).toNat)-(qQ.1.1.toNat)))).bind fun qF=>
  (Kx (Hj.1.1.1,qF.1.1.1,Hj.1.1.2.2.1,Hj.1.1.2.2.2.1,Hj.1.1.2.2.2.2.1,())).bind fun rZ=>
  cond (!rZ.1.1.2.1)
   (some ((((B7,Ba,CO,EX,Hu,()),false,()),()),()))
  (cond (!(rZ.1.1.1==t0))
   (some ((((B7,Ba,CO,EX,Hu,()),false,()),()),()))
  (some ((((Hj.1.1.1,qF.1.1.1,Hj.1.1.2.2.1,Hj.1.1.2.2.2.1,Hj.1.1.2.2.2.2.1,()),true,()),()),()))))else none)
 ((Kx (Hj.1.1.1,Hj.1.1.2.1,Hj.1.1.2.2.1,Hj.1.1.2.2.2.1,Hj.1.1.2.2.2.2.1,())).bind fun gr=>
 cond (!gr.1.1.2.1)
  (some ((((B7,Ba,CO,EX,Hu,()),false,()),()),()))
 (cond (!(gr.1.1.1==t0))
  (some ((((B7,Ba,CO,EX,Hu,()),false,()),()),()))
 (some ((((Hj.1.1.1,Hj.1.1.2.1,Hj.1.1.2.2.1,Hj.1.1.2.2.2.1,Hj.1.1.2.2.2.2.1,()),true,()),()),()))))))
mutual
def Ds:Nat->Nc
 |0=>fun _ _ _ _ _ _ _ _ _ _ _ _=>none
 |n+1=>He (Ds n) (D5 n)
def D5:Nat->MG
 |0=>fun _ _ _ _ _ _ _ _ _ _ _ _ _ _ _ _=>none
 |n+1=>G5 (Ds n) (D5 n)
end
def V3(R3:Nc)(iH:MG)(p0:AAZ):Option HK:=
 R3 p0 1 0 0 0 0 [] 0 0 0 0 []
def SN(p0:AAZ):Option HK:=V3 (Ds AX) (D5 AX) p0
abbrev nV:Type:=(AHO×Unit)×ADG
def Ob(p0:AAi)(p1:AAZ):Option nV:=
 (MJ (p0.1,p0.2.1,p0.2.2.1,p0.2.2.2.1,p0.2.2.2.2.1,p0.2.2.2.2.2.1,p0.2.2.2.2.2.2.1,p0.2.2.2.2.2.2.2.1,p0.2.2.2.2.2.2.2.2.1,p0.2.2.2.2.2.2.2.2.2.1,p0.2.2.2.2.2.2.2.2.2.2.1,())).bind fun u1=>
 (HX (p0.1,p0.2.1,p0.2.2.1,p0.2.2.2.1,p0.2.2.2.2.1,p0.2.2.2.2.2.1,p0.2.2.2.2.2.2.1,p0.2.2.2.2.2.2.2.1,p0.2.2.2.2.2.2.2.2.1,p0.2.2.2.2.2.2.2.2.2.1,p0.2.2.2.2.2.2.2.2.2.2.1,())).bind fun u2=>
 cond (!u2.1.1)
  (some (((((),u1.1.1.2.1,(),(),(),u1.1.1.2.2.2.2.2.1,(),(),(),(),u1.1.1.2.2.2.2.2.2.2.2.2.2.1,()),[98,97,100],()),()),(u1.2.1,u1.2.2.1,u1.2.2.2.1,u1.2.2.2.2.1,u1.2.2.2.2.2.1,u1.2.2.2.2.2.2.1,u1.2.2.2.2.2.2.2.1,u1.2.2.2.2.2.2.2.2.1,())))
 (cond (p1==[])
  (some (((((),u1.1.1.2.1,(),(),(),u1.1.1.2.2.2.2.2.1,(),(),(),(),u1.1.1.2.2.2.2.2.2.2.2.2.2.1,()),[],()),()),(u1.2.1,u1.2.2.1,u1.2.2.2.1,u1.2.2.2.2.1,u1.2.2.2.2.2.1,u1.2.2.2.2.2.2.1,u1.2.2.2.2.2.2.2.1,u1.2.2.2.2.2.2.2.2.1,())))
 (if(0:Int)<=(0:Int)/\(0:Int)<(p1.length:Int)then(
 cond (((p1.getD 0 0).toNat:Int)==35)
  (some (((((),u1.1.1.2.1,(),(),(),u1.1.1.2.2.2.2.2.1,(),(),(),(),u1.1.1.2.2.2.2.2.2.2.2.2.2.1,()),[],()),()),(u1.2.1,u1.2.2.1,u1.2.2.2.1,u1.2.2.2.2.1,u1.2.2.2.2.2.1,u1.2.2.2.2.2.2.1,u1.2.2.2.2.2.2.2.1,u1.2.2.2.2.2.2.2.2.1,())))
 ((fN (p0.1,p0.2.1,p0.2.2.1,p0.2.2.2.1,p0.2.2.2.2.1,p0.2.2.2.2.2.1,p0.2.2.2.2.2.2.1,p0.2.2.2.2.2.2.2.1,p0.2.2.2.2.2.2.2.2.1,p0.2.2.2.2.2.2.2.2.2.1,p0.2.2.2.2.2.2.2.2.2.2.1,()) p1).bind fun u4=>
 cond (!(u4.1.1==[]))
  (some (((((),u1.1.1.2.1,(),(),(),u1.1.1.2.2.2.2.2.1,(),(),(),(),u1.1.1.2.2.2.2.2.2.2.2.2.2.1,()),u4.1.1,()),()),(u1.2.1,u1.2.2.1,u1.2.2.2.1,u1.2.2.2.2.1,u1.2.2.2.2.2.1,u1.2.2.2.2.2.2.1,u1.2.2.2.2.2.2.2.1,u1.2.2.2.2.2.2.2.2.1,())))
 (cond ((p1==[111,117,116,32,48]))
  (some (((((),u1.1.1.2.1,(),(),(),u1.1.1.2.2.2.2.2.1,(),(),(),(),u1.1.1.2.2.2.2.2.2.2.2.2.2.1,()),u4.1.1,()),()),(u1.2.1,u1.2.2.1,u1.2.2.2.1,u1.2.2.2.2.1,u1.2.2.2.2.2.1,u1.2.2.2.2.2.2.1,u1.2.2.2.2.2.2.2.1,u1.2.2.2.2.2.2.2.2.1,())))
 (cond ((p1==[111,117,116,32,49]))
  (some (((((),u1.1.1.2.1,(),(),(),u1.1.1.2.2.2.2.2.1,(),(),(),(),u1.1.1.2.2.2.2.2.2.2.2.2.2.1,()),u4.1.1,()),()),(u1.2.1,u1.2.2.1,u1.2.2.2.1,u1.2.2.2.2.1,u1.2.2.2.2.2.1,u1.2.2.2.2.2.2.1,u1.2.2.2.2.2.2.2.1,u1.2.2.2.2.2.2.2.2.1,())))
 ((SN p1).bind fun u7=>
 cond (!u7.1.1.2.1)
  (some (((((),u1.1.1.2.1,(),(),(),u1.1.1.2.2.2.2.2.1,(),(),(),(),u1.1.1.2.2.2.2.2.2.2.2.2.2.1,()),[119,104,97,116],()),()),(u1.2.1,u1.2.2.1,u1.2.2.2.1,u1.2.2.2.2.1,u1.2.2.2.2.2.1,u1.2.2.2.2.2.2.1,u1.2.2.2.2.2.2.2.1,u1.2.2.2.2.2.2.2.2.1,())))
 ((SU (p0.1,p0.2.1,p0.2.2.1,p0.2.2.2.1,p0.2.2.2.2.1,p0.2.2.2.2.2.1,p0.2.2.2.2.2.2.1,p0.2.2.2.2.2.2.2.1,p0.2.2.2.2.2.2.2.2.1,p0.2.2.2.2.2.2.2.2.2.1,p0.2.2.2.2.2.2.2.2.2.2.1,()) (u7.1.1.1.1,u7.1.1.1.2.1,u7.1.1.1.2.2.1,u7.1.1.1.2.2.2.1,u7.1.1.1.2.2.2.2.1,())).bind fun u8=>
 if(0:Int)<=u8.1.1.2.1/\u8.1.1.2.1<6 then(
 some (((((),u8.1.1.1.2.1,(),(),(),u8.1.1.1.2.2.2.2.2.1,(),(),(),(),u8.1.1.1.2.2.2.2.2.2.2.2.2.2.1,()),([[111,107],[98,97,100],[110,111,110,101],[108,111,115,116],[114,101,102,117,115,101,100],[119,97,105,116]].getD (u8.1.1.2.1.toNat) []),()),()),(u8.2.1,u8.2.2.1,u8.2.2.2.1,u8.2.2.2.2.1,u8.2.2.2.2.2.1,u8.2.2.2.2.2.2.1,u8.2.2.2.2.2.2.2.1,u8.2.2.2.2.2.2.2.2.1,())))else none))))))else none))
end
end Go.M
