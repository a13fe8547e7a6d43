/- What each function computes, printed by a program out of the translation; what is printed is checked in the equations. -/
import Derived.Test.YtebiojjohcpanaaGreatG0
set_option linter.unusedVariables false
set_option linter.unusedSimpArgs false
set_option linter.unusedSectionVars false
namespace Go.M
noncomputable section
abbrev SI:Type:=(AMq×Unit)×Unit
def KQ(p0:AAB):Option SI:=
 (cx p0).bind fun u1=>
 (Ik p0 u1.2.1.1 u1.2.1.2.1 u1.2.1.2.2.1).bind fun u2=>
 let x3:AAT:=u2.2.2.2.2.2.2.2.2.2.1
 (QQ (u2.2.2.1,u2.1.1.2.1,u2.2.2.2.1,u2.2.2.2.2.1,u2.2.2.2.2.2.1,u2.1.1.2.2.2.2.2.1,u2.2.2.2.2.2.2.1,u2.2.2.2.2.2.2.2.1,u2.2.2.2.2.2.2.2.2.1,x3,u2.1.1.2.2.2.2.2.2.2.2.2.2.1,())).bind fun u4=>
 cond (u4.1.1)
  ((BL 2 u2.2.1.1 u2.2.1.2.1 u2.2.1.2.2.1).bind fun u5=>
  cond (u5.1.1)
   ((G_ (u2.2.2.1,u2.1.1.2.1,()) u5.2.1.1 u5.2.1.2.1 u5.2.1.2.2.1).bind fun u6=>
   (J7 u6.2.2.1).bind fun u7=>
   (NP (u2.2.2.1,u2.1.1.2.1,u2.2.2.2.1,u2.2.2.2.2.1,u2.2.2.2.2.2.1,u2.1.1.2.2.2.2.2.1,u2.2.2.2.2.2.2.1,u2.2.2.2.2.2.2.2.1,u2.2.2.2.2.2.2.2.2.1,x3,u2.1.1.2.2.2.2.2.2.2.2.2.2.1,()) (1,u7.1.1,0,0,[],())).bind fun u8=>
   cond (u8.1.1.2.1==0)
    (some (((u8.2.1,u8.1.1.1.2.1,u8.2.2.1,u8.2.2.2.1,u8.2.2.2.2.1,u8.1.1.1.2.2.2.2.2.1,u8.2.2.2.2.2.1,u8.2.2.2.2.2.2.1,u8.2.2.2.2.2.2.2.1,u8.2.2.2.2.2.2.2.2.1,u8.1.1.1.2.2.2.2.2.2.2.2.2.2.1,()),()),()))
   (some (((u2.2.2.1,u2.1.1.2.1,u2.2.2.2.1,u2.2.2.2.2.1,u2.2.2.2.2.2.1,u2.1.1.2.2.2.2.2.1,u2.2.2.2.2.2.2.1,u2.2.2.2.2.2.2.2.1,u2.2.2.2.2.2.2.2.2.1,x3,u2.1.1.2.2.2.2.2.2.2.2.2.2.1,()),()),())))
  (some (((u2.2.2.1,u2.1.1.2.1,u2.2.2.2.1,u2.2.2.2.2.1,u2.2.2.2.2.2.1,u2.1.1.2.2.2.2.2.1,u2.2.2.2.2.2.2.1,u2.2.2.2.2.2.2.2.1,u2.2.2.2.2.2.2.2.2.1,x3,u2.1.1.2.2.2.2.2.2.2.2.2.2.1,()),()),())))
 (some (((u2.2.2.1,u2.1.1.2.1,u2.2.2.2.1,u2.2.2.2.2.1,u2.2.2.2.2.2.1,u2.1.1.2.2.2.2.2.1,u2.2.2.2.2.2.2.1,u2.2.2.2.2.2.2.2.1,u2.2.2.2.2.2.2.2.2.1,x3,u2.1.1.2.2.2.2.2.2.2.2.2.2.1,()),()),()))
abbrev S_:Type:=AHo×(Unit×Unit×Unit×Unit×Unit×Unit×Unit×Unit×List Int×AAQ×List Int×AAH×AAj×AA6×ABA×AAT×Unit)
abbrev aS:Type:=AD7->Int->Int->Int->Int->Bool->List Int->AAQ->List Int->AAH->AAj->AA6->ABA->AAT->Int->Int->Bool->List Int->AAQ->List Int->AAH->AAj->AA6->ABA->AAT->Option S_
def QJ(R2:aS)(t10:AD7)(t11 t12 Db Ds:Int)(CR:Bool)(b9:AAB)(NY:AAQ)(Ez:AAB)(DY:AAH)(Gm:AAj)(Gl:AA6)(ES:ABA)(Ey:AAT)(AXd AWj:Int)(ASP:Bool)(T6:AAB)(oQ:AAQ)(zR:AAB)(b21:AAH)(b22:AAj)(b23:AA6)(b24:ABA)(b25:AAT):Option S_:=
 cond (decide (t12<t11))
  (if(0:Int)<=t12/\t12<(t10.length:Int)then(
  (QG (b9,Db,NY,Ez,DY,Ds,Gm,Gl,ES,Ey,CR,()) ((t10.getD (t12.toNat) (0,0,0,0,[],())).1,(t10.getD (t12.toNat) (0,0,0,0,[],())).2.1,(t10.getD (t12.toNat) (0,0,0,0,[],())).2.2.1,(t10.getD (t12.toNat) (0,0,0,0,[],())).2.2.2.1,(t10.getD (t12.toNat) (0,0,0,0,[],())).2.2.2.2.1,())).bind fun u1=>
  cond (u1.1.1.2.1 !=0)
   (some (((((),0,(),(),(),0,(),(),(),(),false,()),false,()),()),((),(),(),(),(),(),(),(),[],[],[],[],[],[],[],[],())))
  (R2 t10 t11 (AW (t12+1)) u1.1.1.1.2.1 u1.1.1.1.2.2.2.2.2.1 u1.1.1.1.2.2.2.2.2.2.2.2.2.2.1 u1.2.1 u1.2.2.1 u1.2.2.2.1 u1.2.2.2.2.1 u1.2.2.2.2.2.1 u1.2.2.2.2.2.2.1 u1.2.2.2.2.2.2.2.1 u1.2.2.2.2.2.2.2.2.1 AXd AWj ASP T6 oQ zR b21 b22 b23 b24 b25))else none)
 (some (((((),Db,(),(),(),Ds,(),(),(),(),CR,()),true,()),()),((),(),(),(),(),(),(),(),b9,NY,Ez,DY,Gm,Gl,ES,Ey,())))
def Ln:Nat->aS
 |0=>fun _ _ _ _ _ _ _ _ _ _ _ _ _ _ _ _ _ _ _ _ _ _ _ _ _=>none
 |n+1=>QJ (Ln n)
def bN(R2:aS)(Bz B6:Int)(BG:Bool)(p1:AD7)(b0:AAB)(b1:AAQ)(b2:AAB)(b3:AAH)(b4:AAj)(b5:AA6)(b6:ABA)(b7:AAT):Option S_:=
 R2 p1 (p1.length:Int) 0 Bz B6 BG b0 b1 b2 b3 b4 b5 b6 b7 0 0 false [] [] [] [] [] [] [] []
def RW(Bz B6:Int)(BG:Bool)(p1:AD7)(b0:AAB)(b1:AAQ)(b2:AAB)(b3:AAH)(b4:AAj)(b5:AA6)(b6:ABA)(b7:AAT):Option S_:=bN (Ln AZ) Bz B6 BG p1 b0 b1 b2 b3 b4 b5 b6 b7
abbrev Jc:Type:=ADI×(AD7×Unit)
abbrev Ol:Type:=Int->List Int->Int->AD7->Option Jc
abbrev On:Type:=Int->List Int->Int->List Int->Int->Int->AD7->Option Jc
def PH(R3:Ol)(R6:On)(t0:Int)(t1:AAB)(t6:Int)(b0:AD7):Option Jc:=
 cond (decide (t6<=t0))
  (R6 t0 t1 t6 t1 (t1.length:Int) 0 b0)
 (if b0.length+1<=C_ then(
 some (((),()),((b0++[(12,0,0,0,[],())]),())))else none)
def Kv(R3:Ol)(R6:On)(t0:Int)(t1:AAB)(t6:Int)(t15:AAB)(t16 t17:Int)(b0:AD7):Option Jc:=
 cond (decide (t17<t16))
  (if(0:Int)<=t17/\t17<(t15.length:Int)then(
  let x2:Int:=(t15.getD (t17.toNat) 0)
  if b0.length+2<=C_ then(
  R6 t0 t1 t6 t15 t16 (AW (t17+1)) (b0++[(11,0,t6,x2,[],()),(4,x2,0,0,[],())]))else none)else none)
 (R3 t0 t1 (AW (t6+1)) b0)
mutual
def Ep:Nat->Ol
 |0=>fun _ _ _ _=>none
 |n+1=>PH (Ep n) (G6 n)
def G6:Nat->On
 |0=>fun _ _ _ _ _ _ _=>none
 |n+1=>Kv (Ep n) (G6 n)
end
def fW(R3:Ol)(R6:On)(p0:Int)(p1:AAB):Option Jc:=
 R3 p0 p1 1 []
def Xz(p0:Int)(p1:AAB):Option Jc:=fW (Ep AZ) (G6 AZ) p0 p1
abbrev Ou:Type:=AHo×AEE
abbrev Ru:Type:=Int->Int->List Int->Int->AAQ->List Int->AAH->Int->AAj->AA6->ABA->AAT->Bool->Int->Int->Bool->List Int->AAQ->List Int->AAH->AAj->AA6->ABA->AAT->Int->Int->Bool->List Int->AAQ->List Int->AAH->AAj->AA6->ABA->AAT->List Int->AD7->Option Ou
def Ek(R9:Ru)(t41 t42:Int)(AL:AAB)(AF:Int)(Aa:AAQ)(Ck:AAB)(DO:AAH)(Ab:Int)(DI:AAj)(DC:AA6)(D_:ABA)(EG:AAT)(AM:Bool)(Au DZ:Int)(Dl:Bool)(b2:AAB)(b3:AAQ)(b4:AAB)(b5:AAH)(b6:AAj)(b7:AA6)(b8:ABA)(b9:AAT)(Cr DK:Int)(CE:Bool)(Ez:AAB)(DY:AAQ)(Gm:AAB)(Gl:AAH)(ES:AAj)(Ey:AA6)(Fq:ABA)(T6:AAT)(oQ:AAB)(zR:AD7):Option Ou:=
 cond (decide (t42<t41))
  (if(0:Int)<=t42/\t42<(oQ.length:Int)then(
  if zR.length+1<=C_ then(
  R9 t41 (AW (t42+1)) AL AF Aa Ck DO Ab DI DC D_ EG AM Au DZ Dl b2 b3 b4 b5 b6 b7 b8 b9 Cr DK CE Ez DY Gm Gl ES Ey Fq T6 oQ (zR++[(9,(oQ.getD (t42.toNat) 0),0,0,[],())]))else none)else none)
 (if zR.length+1<=C_ then(
 (RW Cr DK CE (zR++[(10,0,0,0,[],())]) Ez DY Gm Gl ES Ey Fq T6).bind fun T_=>
 let x35:AA6:=T_.2.2.2.2.2.2.2.2.2.2.2.2.2.2.1
 cond (!T_.1.1.2.1)
  ((HA (AL,AF,Aa,Ck,DO,Ab,DI,DC,D_,EG,AM,())).bind fun p7=>
  some (((((),p7.1.1.2.1,(),(),(),p7.1.1.2.2.2.2.2.1,(),(),(),(),p7.1.1.2.2.2.2.2.2.2.2.2.2.1,()),false,()),()),(p7.2.1,p7.2.2.1,p7.2.2.2.1,p7.2.2.2.2.1,p7.2.2.2.2.2.1,p7.2.2.2.2.2.2.1,p7.2.2.2.2.2.2.2.1,p7.2.2.2.2.2.2.2.2.1,())))
 (if(0:Int)<=(0:Int)/\(0:Int)<(x35.length:Int)then(
 (Xz (((x35.getD 0 (0,0,[],[],false,[],())).2.2.2.2.2.1).length:Int) oQ).bind fun u41=>
 (RW T_.1.1.1.2.1 T_.1.1.1.2.2.2.2.2.1 T_.1.1.1.2.2.2.2.2.2.2.2.2.2.1 u41.2.1 T_.2.2.2.2.2.2.2.2.2.1 T_.2.2.2.2.2.2.2.2.2.2.1 T_.2.2.2.2.2.2.2.2.2.2.2.1 T_.2.2.2.2.2.2.2.2.2.2.2.2.1 T_.2.2.2.2.2.2.2.2.2.2.2.2.2.1 x35 T_.2.2.2.2.2.2.2.2.2.2.2.2.2.2.2.1 T_.2.2.2.2.2.2.2.2.2.2.2.2.2.2.2.2.1).bind fun sj=>
 cond (!sj.1.1.2.1)
  ((HA (AL,AF,Aa,Ck,DO,Ab,DI,DC,D_,EG,AM,())).bind fun u51=>
  some (((((),u51.1.1.2.1,(),(),(),u51.1.1.2.2.2.2.2.1,(),(),(),(),u51.1.1.2.2.2.2.2.2.2.2.2.2.1,()),false,()),()),(u51.2.1,u51.2.2.1,u51.2.2.2.1,u51.2.2.2.2.1,u51.2.2.2.2.2.1,u51.2.2.2.2.2.2.1,u51.2.2.2.2.2.2.2.1,u51.2.2.2.2.2.2.2.2.1,())))
 (some (((((),sj.1.1.1.2.1,(),(),(),sj.1.1.1.2.2.2.2.2.1,(),(),(),(),sj.1.1.1.2.2.2.2.2.2.2.2.2.2.1,()),true,()),()),(sj.2.2.2.2.2.2.2.2.2.1,sj.2.2.2.2.2.2.2.2.2.2.1,sj.2.2.2.2.2.2.2.2.2.2.2.1,sj.2.2.2.2.2.2.2.2.2.2.2.2.1,sj.2.2.2.2.2.2.2.2.2.2.2.2.2.1,sj.2.2.2.2.2.2.2.2.2.2.2.2.2.2.1,sj.2.2.2.2.2.2.2.2.2.2.2.2.2.2.2.1,sj.2.2.2.2.2.2.2.2.2.2.2.2.2.2.2.2.1,()))))else none))else none)
def C4:Nat->Ru
 |0=>fun _ _ _ _ _ _ _ _ _ _ _ _ _ _ _ _ _ _ _ _ _ _ _ _ _ _ _ _ _ _ _ _ _ _ _ _ _=>none
 |n+1=>Ek (C4 n)
def OL(R9:Ru)(p0:ABl):Option Ou:=
 (HA (p0.1,p0.2.1,p0.2.2.1,p0.2.2.2.1,p0.2.2.2.2.1,p0.2.2.2.2.2.1,p0.2.2.2.2.2.2.1,p0.2.2.2.2.2.2.2.1,p0.2.2.2.2.2.2.2.2.1,p0.2.2.2.2.2.2.2.2.2.1,p0.2.2.2.2.2.2.2.2.2.2.1,())).bind fun u1=>
 cond ((p0.2.2.2.2.2.2.2.1.length:Int)==0)
  ((RW u1.1.1.2.1 u1.1.1.2.2.2.2.2.1 u1.1.1.2.2.2.2.2.2.2.2.2.2.1 [(8,0,0,0,[],())] u1.2.1 u1.2.2.1 u1.2.2.2.1 u1.2.2.2.2.1 u1.2.2.2.2.2.1 u1.2.2.2.2.2.2.1 u1.2.2.2.2.2.2.2.1 u1.2.2.2.2.2.2.2.2.1).bind fun u3=>
  let x4:AAB:=u3.2.2.2.2.2.2.2.2.2.1
  let x5:AAQ:=u3.2.2.2.2.2.2.2.2.2.2.1
  let x6:AAB:=u3.2.2.2.2.2.2.2.2.2.2.2.1
  let x7:AAH:=u3.2.2.2.2.2.2.2.2.2.2.2.2.1
  let x8:AAj:=u3.2.2.2.2.2.2.2.2.2.2.2.2.2.1
  let x9:AA6:=u3.2.2.2.2.2.2.2.2.2.2.2.2.2.2.1
  let Xv:ABA:=u3.2.2.2.2.2.2.2.2.2.2.2.2.2.2.2.1
  let bG:AAT:=u3.2.2.2.2.2.2.2.2.2.2.2.2.2.2.2.2.1
  cond (!u3.1.1.2.1)
   ((Kk (p0.1,p0.2.1,p0.2.2.1,p0.2.2.2.1,p0.2.2.2.2.1,p0.2.2.2.2.2.1,p0.2.2.2.2.2.2.1,p0.2.2.2.2.2.2.2.1,p0.2.2.2.2.2.2.2.2.1,p0.2.2.2.2.2.2.2.2.2.1,p0.2.2.2.2.2.2.2.2.2.2.1,())).bind fun Dw=>
   some (((((),Dw.1.1.2.1,(),(),(),Dw.1.1.2.2.2.2.2.1,(),(),(),(),Dw.1.1.2.2.2.2.2.2.2.2.2.2.1,()),false,()),()),(Dw.2.1,Dw.2.2.1,Dw.2.2.2.1,Dw.2.2.2.2.1,Dw.2.2.2.2.2.1,Dw.2.2.2.2.2.2.1,Dw.2.2.2.2.2.2.2.1,Dw.2.2.2.2.2.2.2.2.1,())))
  ((Kz (x4,u3.1.1.1.2.1,x5,x6,x7,u3.1.1.1.2.2.2.2.2.1,x8,x9,Xv,bG,u3.1.1.1.2.2.2.2.2.2.2.2.2.2.1,())).bind fun KV=>
  cond (!KV.1.1)
   ((Kk (p0.1,p0.2.1,p0.2.2.1,p0.2.2.2.1,p0.2.2.2.2.1,p0.2.2.2.2.2.1,p0.2.2.2.2.2.2.1,p0.2.2.2.2.2.2.2.1,p0.2.2.2.2.2.2.2.2.1,p0.2.2.2.2.2.2.2.2.2.1,p0.2.2.2.2.2.2.2.2.2.2.1,())).bind fun Zn=>
   some (((((),Zn.1.1.2.1,(),(),(),Zn.1.1.2.2.2.2.2.1,(),(),(),(),Zn.1.1.2.2.2.2.2.2.2.2.2.2.1,()),false,()),()),(Zn.2.1,Zn.2.2.1,Zn.2.2.2.1,Zn.2.2.2.2.1,Zn.2.2.2.2.2.1,Zn.2.2.2.2.2.2.1,Zn.2.2.2.2.2.2.2.1,Zn.2.2.2.2.2.2.2.2.1,())))
  (if(0:Int)<=(0:Int)/\(0:Int)<(x9.length:Int)then(
  (Nq (x4,u3.1.1.1.2.1,x5,x6,x7,u3.1.1.1.2.2.2.2.2.1,x8,x9,Xv,bG,u3.1.1.1.2.2.2.2.2.2.2.2.2.2.1,()) ((x9.getD 0 (0,0,[],[],false,[],())).2.1)).bind fun QR=>
  R9 (QR.2.1.length:Int) 0 p0.1 p0.2.1 p0.2.2.1 p0.2.2.2.1 p0.2.2.2.2.1 p0.2.2.2.2.2.1 p0.2.2.2.2.2.2.1 p0.2.2.2.2.2.2.2.1 p0.2.2.2.2.2.2.2.2.1 p0.2.2.2.2.2.2.2.2.2.1 p0.2.2.2.2.2.2.2.2.2.2.1 0 0 false [] [] [] [] [] [] [] [] u3.1.1.1.2.1 u3.1.1.1.2.2.2.2.2.1 u3.1.1.1.2.2.2.2.2.2.2.2.2.2.1 x4 x5 x6 x7 x8 x9 Xv bG QR.2.1 [])else none)))
 ((Kz (u1.2.1,u1.1.1.2.1,u1.2.2.1,u1.2.2.2.1,u1.2.2.2.2.1,u1.1.1.2.2.2.2.2.1,u1.2.2.2.2.2.1,u1.2.2.2.2.2.2.1,u1.2.2.2.2.2.2.2.1,u1.2.2.2.2.2.2.2.2.1,u1.1.1.2.2.2.2.2.2.2.2.2.2.1,())).bind fun Lt=>
 cond (!Lt.1.1)
  ((Kk (p0.1,p0.2.1,p0.2.2.1,p0.2.2.2.1,p0.2.2.2.2.1,p0.2.2.2.2.2.1,p0.2.2.2.2.2.2.1,p0.2.2.2.2.2.2.2.1,p0.2.2.2.2.2.2.2.2.1,p0.2.2.2.2.2.2.2.2.2.1,p0.2.2.2.2.2.2.2.2.2.2.1,())).bind fun Wo=>
  some (((((),Wo.1.1.2.1,(),(),(),Wo.1.1.2.2.2.2.2.1,(),(),(),(),Wo.1.1.2.2.2.2.2.2.2.2.2.2.1,()),false,()),()),(Wo.2.1,Wo.2.2.1,Wo.2.2.2.1,Wo.2.2.2.2.1,Wo.2.2.2.2.2.1,Wo.2.2.2.2.2.2.1,Wo.2.2.2.2.2.2.2.1,Wo.2.2.2.2.2.2.2.2.1,())))
 (if(0:Int)<=(0:Int)/\(0:Int)<(u1.2.2.2.2.2.2.1.length:Int)then(
 (Nq (u1.2.1,u1.1.1.2.1,u1.2.2.1,u1.2.2.2.1,u1.2.2.2.2.1,u1.1.1.2.2.2.2.2.1,u1.2.2.2.2.2.1,u1.2.2.2.2.2.2.1,u1.2.2.2.2.2.2.2.1,u1.2.2.2.2.2.2.2.2.1,u1.1.1.2.2.2.2.2.2.2.2.2.2.1,()) ((u1.2.2.2.2.2.2.1.getD 0 (0,0,[],[],false,[],())).2.1)).bind fun HS=>
 R9 (HS.2.1.length:Int) 0 p0.1 p0.2.1 p0.2.2.1 p0.2.2.2.1 p0.2.2.2.2.1 p0.2.2.2.2.2.1 p0.2.2.2.2.2.2.1 p0.2.2.2.2.2.2.2.1 p0.2.2.2.2.2.2.2.2.1 p0.2.2.2.2.2.2.2.2.2.1 p0.2.2.2.2.2.2.2.2.2.2.1 0 0 false [] [] [] [] [] [] [] [] u1.1.1.2.1 u1.1.1.2.2.2.2.2.1 u1.1.1.2.2.2.2.2.2.2.2.2.2.1 u1.2.1 u1.2.2.1 u1.2.2.2.1 u1.2.2.2.2.1 u1.2.2.2.2.2.1 u1.2.2.2.2.2.2.1 u1.2.2.2.2.2.2.2.1 u1.2.2.2.2.2.2.2.2.1 HS.2.1 [])else none))
def Nr(p0:ABl):Option Ou:=OL (C4 AZ) p0
abbrev Kq:Type:=(AMs×Unit)×Unit
abbrev U5:Type:=AD7->Int->List Int->Int->AAQ->List Int->AAH->Int->AAj->AA6->ABA->AAT->Bool->Int->Int->Bool->List Int->AAQ->List Int->AAH->AAj->AA6->ABA->AAT->Option Kq
def Qm(R2:U5)(t1:AD7)(t6:Int)(AL:AAB)(AF:Int)(Aa:AAQ)(Ck:AAB)(DO:AAH)(Ab:Int)(DI:AAj)(DC:AA6)(D_:ABA)(EG:AAT)(AM:Bool)(Au DZ:Int)(Dl:Bool)(b2:AAB)(b3:AAQ)(b4:AAB)(b5:AAH)(b6:AAj)(b7:AA6)(b8:ABA)(b9:AAT):Option Kq:=
 cond ((decide (t6<(t1.length:Int))))
  (if(0:Int)<=t6/\t6<(t1.length:Int)then(
  (NP (AL,AF,Aa,Ck,DO,Ab,DI,DC,D_,EG,AM,()) ((t1.getD (t6.toNat) (0,0,0,0,[],())).1,(t1.getD (t6.toNat) (0,0,0,0,[],())).2.1,(t1.getD (t6.toNat) (0,0,0,0,[],())).2.2.1,(t1.getD (t6.toNat) (0,0,0,0,[],())).2.2.2.1,(t1.getD (t6.toNat) (0,0,0,0,[],())).2.2.2.2.1,())).bind fun u2=>
  cond (u2.1.1.2.1 !=0)
   (some ((((AL,AF,Aa,Ck,DO,Ab,DI,DC,D_,EG,AM,()),false,()),()),()))
  (R2 t1 (AW (t6+1)) u2.2.1 u2.1.1.1.2.1 u2.2.2.1 u2.2.2.2.1 u2.2.2.2.2.1 u2.1.1.1.2.2.2.2.2.1 u2.2.2.2.2.2.1 u2.2.2.2.2.2.2.1 u2.2.2.2.2.2.2.2.1 u2.2.2.2.2.2.2.2.2.1 u2.1.1.1.2.2.2.2.2.2.2.2.2.2.1 Au DZ Dl b2 b3 b4 b5 b6 b7 b8 b9))else none)
 (some ((((AL,AF,Aa,Ck,DO,Ab,DI,DC,D_,EG,AM,()),true,()),()),()))
def Jh:Nat->U5
 |0=>fun _ _ _ _ _ _ _ _ _ _ _ _ _ _ _ _ _ _ _ _ _ _ _ _=>none
 |n+1=>Qm (Jh n)
def g_(R2:U5)(nA:AAB)(Bz:Int)(l_:AAQ)(nU:AAB)(lX:AAH)(B6:Int)(my:AAj)(gy:AA6)(mG:ABA)(nO:AAT)(BG:Bool)(p1:AD7):Option Kq:=
 R2 p1 0 nA Bz l_ nU lX B6 my gy mG nO BG 0 0 false [] [] [] [] [] [] [] []
def N6(nA:AAB)(Bz:Int)(l_:AAQ)(nU:AAB)(lX:AAH)(B6:Int)(my:AAj)(gy:AA6)(mG:ABA)(nO:AAT)(BG:Bool)(p1:AD7):Option Kq:=g_ (Jh AZ) nA Bz l_ nU lX B6 my gy mG nO BG p1
abbrev Ca:Type:=(AMs×Unit)×Unit
abbrev I1:Type:=Int->List Int->Int->AAQ->List Int->AAH->Int->AAj->AA6->ABA->AAT->Bool->Int->Int->Bool->List Int->AAQ->List Int->AAH->AAj->AA6->ABA->AAT->List Int->Int->AAQ->List Int->AAH->Int->AAj->AA6->ABA->AAT->Bool->List Int->AD7->Option Ca
abbrev I2:Type:=Bool->Int->List Int->Int->AAQ->List Int->AAH->Int->AAj->AA6->ABA->AAT->Bool->Int->Int->Bool->List Int->AAQ->List Int->AAH->AAj->AA6->ABA->AAT->List Int->Int->AAQ->List Int->AAH->Int->AAj->AA6->ABA->AAT->Bool->List Int->AD7->Option Ca
abbrev I3:Type:=Bool->Int->Int->List Int->Int->AAQ->List Int->AAH->Int->AAj->AA6->ABA->AAT->Bool->Int->Int->Bool->List Int->AAQ->List Int->AAH->AAj->AA6->ABA->AAT->List Int->Int->AAQ->List Int->AAH->Int->AAj->AA6->ABA->AAT->Bool->List Int->AD7->Option Ca
def cJ(R12:I1)(R19:I2)(R22:I3)(t9:Int)(AL:AAB)(AF:Int)(Aa:AAQ)(Ck:AAB)(DO:AAH)(Ab:Int)(DI:AAj)(DC:AA6)(D_:ABA)(EG:AAT)(AM:Bool)(Au DZ:Int)(Dl:Bool)(b2:AAB)(b3:AAQ)(b4:AAB)(b5:AAH)(b6:AAj)(b7:AA6)(b8:ABA)(b9:AAT)(Wp:AAB)(Cr:Int)(We:AAQ)(Wt:AAB)(XD:AAH)(DK:Int)(ed:AAj)(bL:AA6)(fz:ABA)(fu:AAT)(CE:Bool)(Ez:AAB)(DY:AD7):Option Ca:=
 cond ((decide (t9<(Ez.length:Int))))
  (if(0:Int)<=t9/\t9<(Ez.length:Int)then(
  if DY.length+1<=C_ then(
  R12 (AW (t9+1)) AL AF Aa Ck DO Ab DI DC D_ EG AM Au DZ Dl b2 b3 b4 b5 b6 b7 b8 b9 Wp Cr We Wt XD DK ed bL fz fu CE Ez (DY++[(9,(Ez.getD (t9.toNat) 0),0,0,[],())]))else none)else none)
 (if DY.length+1<=C_ then(
 (N6 Wp Cr We Wt XD DK ed bL fz fu CE (DY++[(10,0,0,0,[],())])).bind fun Zn=>
 R19 Zn.1.1.2.1 1 AL AF Aa Ck DO Ab DI DC D_ EG AM Au DZ Dl b2 b3 b4 b5 b6 b7 b8 b9 Zn.1.1.1.1 Zn.1.1.1.2.1 Zn.1.1.1.2.2.1 Zn.1.1.1.2.2.2.1 Zn.1.1.1.2.2.2.2.1 Zn.1.1.1.2.2.2.2.2.1 Zn.1.1.1.2.2.2.2.2.2.1 Zn.1.1.1.2.2.2.2.2.2.2.1 Zn.1.1.1.2.2.2.2.2.2.2.2.1 Zn.1.1.1.2.2.2.2.2.2.2.2.2.1 Zn.1.1.1.2.2.2.2.2.2.2.2.2.2.1 Ez [])else none)
def cg(R12:I1)(R19:I2)(R22:I3)(t10:Bool)(t11:Int)(AL:AAB)(AF:Int)(Aa:AAQ)(Ck:AAB)(DO:AAH)(Ab:Int)(DI:AAj)(DC:AA6)(D_:ABA)(EG:AAT)(AM:Bool)(Au DZ:Int)(Dl:Bool)(b2:AAB)(b3:AAQ)(b4:AAB)(b5:AAH)(b6:AAj)(b7:AA6)(b8:ABA)(b9:AAT)(Wp:AAB)(Cr:Int)(We:AAQ)(Wt:AAB)(XD:AAH)(DK:Int)(ed:AAj)(bL:AA6)(fz:ABA)(fu:AAT)(CE:Bool)(Ez:AAB)(DY:AD7):Option Ca:=
 cond (t10)
  (if(0:Int)<=(0:Int)/\(0:Int)<(bL.length:Int)then(
  cond (decide (t11<=(((bL.getD 0 (0,0,[],[],false,[],())).2.2.2.2.2.1).length:Int)))
   (R22 t10 t11 0 AL AF Aa Ck DO Ab DI DC D_ EG AM Au DZ Dl b2 b3 b4 b5 b6 b7 b8 b9 Wp Cr We Wt XD DK ed bL fz fu CE Ez DY)
  (if DY.length+1<=C_ then(
  cond (t10)
   ((N6 Wp Cr We Wt XD DK ed bL fz fu CE (DY++[(12,0,0,0,[],())])).bind fun QR=>
   cond (!QR.1.1.2.1)
    ((Fa (AL,AF,Aa,Ck,DO,Ab,DI,DC,D_,EG,AM,())).bind fun ZP=>
    some ((((ZP.2.1,ZP.1.1.2.1,ZP.2.2.1,ZP.2.2.2.1,ZP.2.2.2.2.1,ZP.1.1.2.2.2.2.2.1,ZP.2.2.2.2.2.1,ZP.2.2.2.2.2.2.1,ZP.2.2.2.2.2.2.2.1,ZP.2.2.2.2.2.2.2.2.1,ZP.1.1.2.2.2.2.2.2.2.2.2.2.1,()),false,()),()),()))
   (some ((((QR.1.1.1.1,QR.1.1.1.2.1,QR.1.1.1.2.2.1,QR.1.1.1.2.2.2.1,QR.1.1.1.2.2.2.2.1,QR.1.1.1.2.2.2.2.2.1,QR.1.1.1.2.2.2.2.2.2.1,QR.1.1.1.2.2.2.2.2.2.2.1,QR.1.1.1.2.2.2.2.2.2.2.2.1,QR.1.1.1.2.2.2.2.2.2.2.2.2.1,QR.1.1.1.2.2.2.2.2.2.2.2.2.2.1,()),true,()),()),())))
  (cond (!t10)
   ((Fa (AL,AF,Aa,Ck,DO,Ab,DI,DC,D_,EG,AM,())).bind fun Wo=>
   some ((((Wo.2.1,Wo.1.1.2.1,Wo.2.2.1,Wo.2.2.2.1,Wo.2.2.2.2.1,Wo.1.1.2.2.2.2.2.1,Wo.2.2.2.2.2.1,Wo.2.2.2.2.2.2.1,Wo.2.2.2.2.2.2.2.1,Wo.2.2.2.2.2.2.2.2.1,Wo.1.1.2.2.2.2.2.2.2.2.2.2.1,()),false,()),()),()))
  (some ((((Wp,Cr,We,Wt,XD,DK,ed,bL,fz,fu,CE,()),true,()),()),()))))else none))else none)
 (if DY.length+1<=C_ then(
 cond (t10)
  ((N6 Wp Cr We Wt XD DK ed bL fz fu CE (DY++[(12,0,0,0,[],())])).bind fun HS=>
  cond (!HS.1.1.2.1)
   ((Fa (AL,AF,Aa,Ck,DO,Ab,DI,DC,D_,EG,AM,())).bind fun WG=>
   some ((((WG.2.1,WG.1.1.2.1,WG.2.2.1,WG.2.2.2.1,WG.2.2.2.2.1,WG.1.1.2.2.2.2.2.1,WG.2.2.2.2.2.1,WG.2.2.2.2.2.2.1,WG.2.2.2.2.2.2.2.1,WG.2.2.2.2.2.2.2.2.1,WG.1.1.2.2.2.2.2.2.2.2.2.2.1,()),false,()),()),()))
  (some ((((HS.1.1.1.1,HS.1.1.1.2.1,HS.1.1.1.2.2.1,HS.1.1.1.2.2.2.1,HS.1.1.1.2.2.2.2.1,HS.1.1.1.2.2.2.2.2.1,HS.1.1.1.2.2.2.2.2.2.1,HS.1.1.1.2.2.2.2.2.2.2.1,HS.1.1.1.2.2.2.2.2.2.2.2.1,HS.1.1.1.2.2.2.2.2.2.2.2.2.1,HS.1.1.1.2.2.2.2.2.2.2.2.2.2.1,()),true,()),()),())))
 (cond (!t10)
  ((Fa (AL,AF,Aa,Ck,DO,Ab,DI,DC,D_,EG,AM,())).bind fun QK=>
  some ((((QK.2.1,QK.1.1.2.1,QK.2.2.1,QK.2.2.2.1,QK.2.2.2.2.1,QK.1.1.2.2.2.2.2.1,QK.2.2.2.2.2.1,QK.2.2.2.2.2.2.1,QK.2.2.2.2.2.2.2.1,QK.2.2.2.2.2.2.2.2.1,QK.1.1.2.2.2.2.2.2.2.2.2.2.1,()),false,()),()),()))
 (some ((((Wp,Cr,We,Wt,XD,DK,ed,bL,fz,fu,CE,()),true,()),()),()))))else none)
def cj(R12:I1)(R19:I2)(R22:I3)(t10:Bool)(t11 t12:Int)(AL:AAB)(AF:Int)(Aa:AAQ)(Ck:AAB)(DO:AAH)(Ab:Int)(DI:AAj)(DC:AA6)(D_:ABA)(EG:AAT)(AM:Bool)(Au DZ:Int)(Dl:Bool)(b2:AAB)(b3:AAQ)(b4:AAB)(b5:AAH)(b6:AAj)(b7:AA6)(b8:ABA)(b9:AAT)(Wp:AAB)(Cr:Int)(We:AAQ)(Wt:AAB)(XD:AAH)(DK:Int)(ed:AAj)(bL:AA6)(fz:ABA)(fu:AAT)(CE:Bool)(Ez:AAB)(DY:AD7):Option Ca:=
 cond ((decide (t12<(Ez.length:Int))))
  (if(0:Int)<=t12/\t12<(Ez.length:Int)then(
  if(0:Int)<=t12/\t12<(Ez.length:Int)then(
  if DY.length+2<=C_ then(
  R22 t10 t11 (AW (t12+1)) AL AF Aa Ck DO Ab DI DC D_ EG AM Au DZ Dl b2 b3 b4 b5 b6 b7 b8 b9 Wp Cr We Wt XD DK ed bL fz fu CE Ez (DY++[(11,0,t11,(Ez.getD (t12.toNat) 0),[],()),(4,(Ez.getD (t12.toNat) 0),0,0,[],())]))else none)else none)else none)
 (R19 t10 (AW (t11+1)) AL AF Aa Ck DO Ab DI DC D_ EG AM Au DZ Dl b2 b3 b4 b5 b6 b7 b8 b9 Wp Cr We Wt XD DK ed bL fz fu CE Ez DY)
mutual
def HJ:Nat->I1
 |0=>fun _ _ _ _ _ _ _ _ _ _ _ _ _ _ _ _ _ _ _ _ _ _ _ _ _ _ _ _ _ _ _ _ _ _ _ _=>none
 |n+1=>cJ (HJ n) (HH n) (HK n)
def HH:Nat->I2
 |0=>fun _ _ _ _ _ _ _ _ _ _ _ _ _ _ _ _ _ _ _ _ _ _ _ _ _ _ _ _ _ _ _ _ _ _ _ _ _=>none
 |n+1=>cg (HJ n) (HH n) (HK n)
def HK:Nat->I3
 |0=>fun _ _ _ _ _ _ _ _ _ _ _ _ _ _ _ _ _ _ _ _ _ _ _ _ _ _ _ _ _ _ _ _ _ _ _ _ _ _=>none
 |n+1=>cj (HJ n) (HH n) (HK n)
end
def UQ(R12:I1)(R19:I2)(R22:I3)(nA:AAB)(Bz:Int)(l_:AAQ)(nU:AAB)(lX:AAH)(B6:Int)(my:AAj)(gy:AA6)(mG:ABA)(nO:AAT)(BG:Bool):Option Ca:=
 (QQ (nA,Bz,l_,nU,lX,B6,my,gy,mG,nO,BG,())).bind fun u1=>
 cond (!u1.1.1)
  (some (((([],0,[],[],[],0,[],[],[],[],false,()),false,()),()),()))
 (cond (((gy.length:Int)==0))
  ((NP (nA,Bz,l_,nU,lX,B6,my,gy,mG,nO,BG,()) (8,0,0,0,[],())).bind fun u3=>
  cond (u3.1.1.2.1 !=0)
   ((Fa (nA,Bz,l_,nU,lX,B6,my,gy,mG,nO,BG,())).bind fun u4=>
   some ((((u4.2.1,u4.1.1.2.1,u4.2.2.1,u4.2.2.2.1,u4.2.2.2.2.1,u4.1.1.2.2.2.2.2.1,u4.2.2.2.2.2.1,u4.2.2.2.2.2.2.1,u4.2.2.2.2.2.2.2.1,u4.2.2.2.2.2.2.2.2.1,u4.1.1.2.2.2.2.2.2.2.2.2.2.1,()),false,()),()),()))
  (if(0:Int)<=(0:Int)/\(0:Int)<(u3.2.2.2.2.2.2.1.length:Int)then(
  (CS (u3.2.2.2.2.1,u3.1.1.1.2.2.2.2.2.1,()) ((u3.2.2.2.2.2.2.1.getD 0 (0,0,[],[],false,[],())).2.1)).bind fun u6=>
  (Qr (u3.2.1,u3.1.1.1.2.1,u3.2.2.1,u3.2.2.2.1,u3.2.2.2.2.1,u3.1.1.1.2.2.2.2.2.1,u3.2.2.2.2.2.1,u3.2.2.2.2.2.2.1,u3.2.2.2.2.2.2.2.1,u3.2.2.2.2.2.2.2.2.1,u3.1.1.1.2.2.2.2.2.2.2.2.2.2.1,()) u6.2.1).bind fun u7=>
  R12 0 nA Bz l_ nU lX B6 my gy mG nO BG 0 0 false [] [] [] [] [] [] [] [] u3.2.1 u3.1.1.1.2.1 u3.2.2.1 u3.2.2.2.1 u3.2.2.2.2.1 u3.1.1.1.2.2.2.2.2.1 u3.2.2.2.2.2.1 u3.2.2.2.2.2.2.1 u3.2.2.2.2.2.2.2.1 u3.2.2.2.2.2.2.2.2.1 u3.1.1.1.2.2.2.2.2.2.2.2.2.2.1 u7.2.1 [])else none))
 (if(0:Int)<=(0:Int)/\(0:Int)<(gy.length:Int)then(
 (CS (lX,B6,()) ((gy.getD 0 (0,0,[],[],false,[],())).2.1)).bind fun u9=>
 (Qr (nA,Bz,l_,nU,lX,B6,my,gy,mG,nO,BG,()) u9.2.1).bind fun EI=>
 R12 0 nA Bz l_ nU lX B6 my gy mG nO BG 0 0 false [] [] [] [] [] [] [] [] nA Bz l_ nU lX B6 my gy mG nO BG EI.2.1 [])else none))
def RU(nA:AAB)(Bz:Int)(l_:AAQ)(nU:AAB)(lX:AAH)(B6:Int)(my:AAj)(gy:AA6)(mG:ABA)(nO:AAT)(BG:Bool):Option Ca:=UQ (HJ AZ) (HH AZ) (HK AZ) nA Bz l_ nU lX B6 my gy mG nO BG
abbrev gl:Type:=ABi×Unit
def K7(p0:AAB):Option gl:=
 (sX p0).bind fun u1=>
 cond (u1.1.1)
  (some ((true,()),()))
 ((KQ p0).bind fun u2=>
 (Nr (u2.1.1.1,u2.1.1.2.1,u2.1.1.2.2.1,u2.1.1.2.2.2.1,u2.1.1.2.2.2.2.1,u2.1.1.2.2.2.2.2.1,u2.1.1.2.2.2.2.2.2.1,u2.1.1.2.2.2.2.2.2.2.1,u2.1.1.2.2.2.2.2.2.2.2.1,u2.1.1.2.2.2.2.2.2.2.2.2.1,u2.1.1.2.2.2.2.2.2.2.2.2.2.1,())).bind fun u3=>
 (RU u2.1.1.1 u2.1.1.2.1 u2.1.1.2.2.1 u2.1.1.2.2.2.1 u2.1.1.2.2.2.2.1 u2.1.1.2.2.2.2.2.1 u2.1.1.2.2.2.2.2.2.1 u2.1.1.2.2.2.2.2.2.2.1 u2.1.1.2.2.2.2.2.2.2.2.1 u2.1.1.2.2.2.2.2.2.2.2.2.1 u2.1.1.2.2.2.2.2.2.2.2.2.2.1).bind fun u4=>
 cond ((u3.1.1.2.1 !=u4.1.1.2.1))
  (some ((false,()),()))
 (cond (!u3.1.1.2.1)
  (cond ((u3.2.2.2.2.1.length:Int)==(u2.1.1.2.2.2.2.1.length:Int))
   (some ((true,()),()))
  (some (((u3.2.2.1.length:Int)==0,()),())))
 ((IB (u2.1.1.2.2.2.2.1,u2.1.1.2.2.2.2.2.1,())).bind fun u9=>
 if(0:Int)<=AW (u9.1.1-1)/\AW (u9.1.1-1)<(u3.2.2.2.2.1.length:Int)then(
 cond (((u3.2.2.2.2.1.getD ((AW (u9.1.1-1)).toNat) ([],false,0,())).2.1))
  ((IB (u3.2.2.2.2.1,u3.1.1.1.2.2.2.2.2.1,())).bind fun Mv=>
  cond ((Mv.1.1==(AW (u9.1.1+1))))
   (cond ((u3.2.2.2.2.2.2.1.length:Int)==0)
    ((Kz (u3.2.1,u3.1.1.1.2.1,u3.2.2.1,u3.2.2.2.1,u3.2.2.2.2.1,u3.1.1.1.2.2.2.2.2.1,u3.2.2.2.2.2.1,u3.2.2.2.2.2.2.1,u3.2.2.2.2.2.2.2.1,u3.2.2.2.2.2.2.2.2.1,u3.1.1.1.2.2.2.2.2.2.2.2.2.2.1,())).bind fun KV=>
    cond (KV.1.1)
     (some (((u3.2.2.2.2.2.2.2.2.1.length:Int)==(u2.1.1.2.2.2.2.2.2.2.2.2.1.length:Int),()),()))
    (some ((false,()),())))
   (some ((false,()),())))
  (some ((false,()),())))
 (some ((false,()),())))else none)))
end
end Go.M
