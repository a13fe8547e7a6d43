/- What each function computes, printed by a program out of the translation; what is printed is checked in the equations. -/
import Derived.Test.YtdkfcaidapdecaaGreatF1
set_option linter.unusedVariables false
set_option linter.unusedSimpArgs false
set_option linter.unusedSectionVars false
namespace Go.M
noncomputable section
abbrev xK:Type:=ABU×Unit
def nT(p0:AAF):Option xK:=
 some (((decide ((p0.length:Int)>1048576)),()),())
abbrev WW:Type:=ABc×ACp
abbrev Zc:Type:=List Int→Int→Int→Option WW
def Z7(R3:Zc)(t0:AAF)(t3 t4:Int):Option WW:=
 cond ((decide (t4<(t0.length:Int))))
  (cond (decide (t4<4000))
   (if(0:Int)≤t4∧t4<(t0.length:Int)then(
   R3 t0 (cO .i64 (AU ((AU ((AU (t3*131))+(AU ((t0.getD (t4.toNat) 0)))))+7)) 1073741823) (AU (t4+1)))else none)
  (some (((),()),((t0,0,t3,()),()))))
 (some (((),()),((t0,0,t3,()),())))
def QI:Nat→Zc
 |0=>fun _ _ _=>none
 |n+1=>Z7 (QI n)
def Zy(R3:Zc)(p0:AAF):Option WW:=
 R3 p0 (AU (17817+(p0.length:Int))) 0
def bB(p0:AAF):Option WW:=Zy (QI Ab) p0
abbrev qv:Type:=ABW×ACp
def MX(AM:AAF)(AE Ac:Int):Option qv:=
 let x2:Int:=AU ((AU (Ac*6364136223846793005))+1442695040888963407)
 let x3:Int:=APz .i64 (x2.fdiv (2^33)) (x2.fdiv (2^45))
 cond ((decide (AE<(AM.length:Int))))
  (if(0:Int)≤AE∧AE<(AM.length:Int)then(
  some ((cO .i64 (AU ((cO .i64 x3 255)+(AU ((AM.getD (AE.toNat) 0))))) 255,()),((AM,AU (AE+1),x2,()),())))else none)
 (some ((cO .i64 x3 255,()),((AM,AE,x2,()),())))
abbrev Hy:Type:=ABW×ACp
def AJ(p1:Int)(AM:AAF)(AE Ac:Int):Option Hy:=
 cond (decide (p1≤0))
  (some ((0,()),((AM,AE,Ac,()),())))
 (cond (decide (p1≤256))
  ((MX AM AE Ac).bind fun u1=>
  if p1=0 then none else(
  some ((u1.1.1.tmod p1,()),((u1.2.1.1,u1.2.1.2.1,u1.2.1.2.2.1,()),()))))
 ((MX AM AE Ac).bind fun u2=>
 (MX u2.2.1.1 u2.2.1.2.1 u2.2.1.2.2.1).bind fun u3=>
 (MX u3.2.1.1 u3.2.1.2.1 u3.2.1.2.2.1).bind fun u4=>
 (MX u4.2.1.1 u4.2.1.2.1 u4.2.1.2.2.1).bind fun u5=>
 if p1=0 then none else(
 some ((((AU ((AU ((AU ((AU (u2.1.1*16777216))+(AU (u3.1.1*65536))))+(AU (u4.1.1*256))))+u5.1.1)).tmod p1),()),((u5.2.1.1,u5.2.1.2.1,u5.2.1.2.2.1,()),())))))
abbrev NN:Type:=ABU×ACp
def BF(p1:Int)(AM:AAF)(AE Ac:Int):Option NN:=
 (AJ p1 AM AE Ac).bind fun u1=>
 some ((u1.1.1==0,()),((u1.2.1.1,u1.2.1.2.1,u1.2.1.2.2.1,()),()))
abbrev M4:Type:=ACq×AE8
abbrev Pt:Type:=Int→Int→List Int→Int→Int→Int→List Int→Int→List Int→Option M4
def Rp(R4:Pt)(t4 t5:Int)(AM:AAF)(AE Ac Az:Int)(b2:AAF)(dO:Int)(b4:AAF):Option M4:=
 cond (decide (t5<t4))
  ((AJ 5 AM AE Ac).bind fun u3=>
  if b4.length+1≤DF then(
  R4 t4 (AU (t5+1)) u3.2.1.1 u3.2.1.2.1 u3.2.1.2.2.1 Az b2 dO (b4++[u3.1.1]))else none)
 ((BF 2 AM AE Ac).bind fun u5=>
 cond (u5.1.1)
  (some ((((),2,()),()),((u5.2.1.1,u5.2.1.2.1,u5.2.1.2.2.1,()),b4,())))
 (some ((((),dO,()),()),((u5.2.1.1,u5.2.1.2.1,u5.2.1.2.2.1,()),b4,()))))
def Ii:Nat→Pt
 |0=>fun _ _ _ _ _ _ _ _ _=>none
 |n+1=>Rp (Ii n)
def Rx(R4:Pt)(AM:AAF)(AE Ac:Int):Option M4:=
 (AJ 3 AM AE Ac).bind fun u1=>
 (AJ 5 u1.2.1.1 u1.2.1.2.1 u1.2.1.2.2.1).bind fun u2=>
 R4 (AU (3+u2.1.1)) 0 u2.2.1.1 u2.2.1.2.1 u2.2.1.2.2.1 0 [] (AU (1+u1.1.1)) []
def MJ(AM:AAF)(AE Ac:Int):Option M4:=Rx (Ii Ab) AM AE Ac
abbrev jc:Type:=ABW×ACp
def CB(p1 AM:AAF)(AE Ac:Int):Option jc:=
 (AJ (p1.length:Int) AM AE Ac).bind fun u1=>
 if(0:Int)≤u1.1.1∧u1.1.1<(p1.length:Int)then(
 some (((p1.getD (u1.1.1.toNat) 0),()),((u1.2.1.1,u1.2.1.2.1,u1.2.1.2.2.1,()),())))else none
abbrev Zj:Type:=ACq×AE8
def Q9(AM:AAF)(AE Ac:Int):Option Zj:=
 (MJ AM AE Ac).bind fun u1=>
 (AJ 20 u1.2.1.1 u1.2.1.2.1 u1.2.1.2.2.1).bind fun u2=>
 cond (u2.1.1==0)
  ((CB [0,4,5] u2.2.1.1 u2.2.1.2.1 u2.2.1.2.2.1).bind fun u3=>
  some ((((),u3.1.1,()),()),((u3.2.1.1,u3.2.1.2.1,u3.2.1.2.2.1,()),u1.2.2.1,())))
 (cond (u2.1.1==1)
  ((CB [(-1),7,8] u2.2.1.1 u2.2.1.2.1 u2.2.1.2.2.1).bind fun u4=>
  if(0:Int)≤(0:Int)∧(0:Int)<(u1.2.2.1.length:Int)then(
  some ((((),u1.1.1.2.1,()),()),((u4.2.1.1,u4.2.1.2.1,u4.2.1.2.2.1,()),(u1.2.2.1.set 0 u4.1.1),())))else none)
 (cond (u2.1.1==2)
  ((CB [0,8,9] u2.2.1.1 u2.2.1.2.1 u2.2.1.2.2.1).bind fun u6=>
  if(0:Int)≤u6.1.1∧u6.1.1≤u6.1.1∧u6.1.1≤(DF:Int)then(
  some ((((),u1.1.1.2.1,()),()),((u6.2.1.1,u6.2.1.2.1,u6.2.1.2.2.1,()),(List.replicate (u6.1.1.toNat) 0),())))else none)
 (some ((((),u1.1.1.2.1,()),()),((u2.2.1.1,u2.2.1.2.1,u2.2.1.2.2.1,()),u1.2.2.1,())))))
abbrev bW:Type:=ABc×ABd
def DI(p0:AAF):Option bW:=
 if 0+p0.length≤DF then(
 some (((),()),(p0,())))else none
abbrev iX:Type:=ACq×ABd
def QX(p0:ABA):Option iX:=
 (DI p0.1).bind fun u1=>
 some ((((),p0.2.1,()),()),(u1.2.1,()))
abbrev NU:Type:=ABU×Unit
def A6(p0 p1 p2:Int):Option NU:=
 cond (decide (p0≥p1))
  (some ((decide (p0≤p2),()),()))
 (some ((false,()),()))
abbrev Qc:Type:=ABU×Unit
abbrev Tl:Type:=List Int→Int→Int→List Int→Int→Option Qc
def V_(R2:Tl)(t6:AAF)(t7 t8:Int)(AM:AAF)(AE:Int):Option Qc:=
 cond (decide (t8<t7))
  (if(0:Int)≤t8∧t8<(t6.length:Int)then(
  (A6 (t6.getD (t8.toNat) 0) 0 7).bind fun u2=>
  cond (!u2.1.1)
   (some ((false,()),()))
  (R2 t6 t7 (AU (t8+1)) AM AE))else none)
 ((A6 (AM.length:Int) 1 8).bind fun u3=>
 cond (u3.1.1)
  ((A6 AE 1 4).bind fun u4=>
  some ((u4.1.1,()),()))
 (some ((false,()),())))
def Lw:Nat→Tl
 |0=>fun _ _ _ _ _=>none
 |n+1=>V_ (Lw n)
def Vy(R2:Tl)(p0:ABA):Option Qc:=
 R2 p0.1 (p0.1.length:Int) 0 p0.1 p0.2.1
def E7(p0:ABA):Option Qc:=Vy (Lw Ab) p0
abbrev Sg:Type:=ABU×Unit
abbrev Vi:Type:=List Int→Int→List Int→Int→Int→Option Sg
def Qk(R2:Vi)(t0:AAF)(t1:Int)(t7:AAF)(t8 t9:Int):Option Sg:=
 cond (decide (t9<t8))
  (if(0:Int)≤t9∧t9<(t7.length:Int)then(
  let x1:Int:=(t7.getD (t9.toNat) 0)
  (A6 x1 0 t1).bind fun u2=>
  cond (!u2.1.1)
   (some ((false,()),()))
  (cond (decide (t9>0))
   (if(0:Int)≤AU (t9-1)∧AU (t9-1)<(t0.length:Int)then(
   cond (decide ((t0.getD ((AU (t9-1)).toNat) 0)≥x1))
    (some ((false,()),()))
   (R2 t0 t1 t7 t8 (AU (t9+1))))else none)
  (R2 t0 t1 t7 t8 (AU (t9+1)))))else none)
 (some ((true,()),()))
def KM:Nat→Vi
 |0=>fun _ _ _ _ _=>none
 |n+1=>Qk (KM n)
def Xb(R2:Vi)(p0:AAF)(p1:Int):Option Sg:=
 R2 p0 p1 p0 (p0.length:Int) 0
def WO(p0:AAF)(p1:Int):Option Sg:=Xb (KM Ab) p0 p1
abbrev oT:Type:=ABU×Unit
def Dy(p0:ABA)(p1:AAF):Option oT:=
 (E7 (p0.1,p0.2.1,())).bind fun u1=>
 cond (u1.1.1)
  ((WO p1 (AU ((p0.1.length:Int)-1))).bind fun u3=>
  some ((u3.1.1,()),()))
 (some ((false,()),()))
abbrev pk:Type:=ABU×Unit
def Hk(p0:Int):Option pk:=
 (A6 p0 1 30).bind fun u1=>
 some ((u1.1.1,()),())
abbrev sX:Type:=ABU×Unit
def Xc(p0:Int):Option sX:=
 (A6 p0 1 60).bind fun u1=>
 some ((u1.1.1,()),())
abbrev nP:Type:=ABU×Unit
def D1(p0:Int):Option nP:=
 (Hk (AU (p0.tdiv 4294967296))).bind fun u2=>
 cond (u2.1.1)
  ((Xc (p0.tmod 4294967296)).bind fun u3=>
  some ((u3.1.1,()),()))
 (some ((false,()),()))
abbrev qT:Type:=ABU×Unit
def GC(p0:ABY):Option qT:=
 some (((decide ((p0.length:Int)≤40)),()),())
abbrev n0:Type:=ABW×Unit
def FC(p0:Int):Option n0:=
 (D1 p0).bind fun u1=>
 cond (!u1.1.1)
  (some ((0,()),()))
 (some (((AU (p0.tdiv 4294967296)),()),()))
abbrev qL:Type:=ABU×Unit
def Ml(p0:ABh):Option qL:=
 (A6 p0.2.1 0 30).bind fun u1=>
 cond (u1.1.1)
  (cond (p0.2.1==0)
   (cond (!p0.2.2.1)
    ((D1 p0.1).bind fun u2=>
    cond (u2.1.1)
     ((GC p0.2.2.2.1).bind fun u3=>
     some ((u3.1.1,()),()))
    (some ((false,()),())))
   (cond (decide (p0.2.1>0))
    ((D1 p0.1).bind fun u4=>
    cond (u4.1.1)
     (cond (p0.2.2.2.1==[])
      ((GC p0.2.2.2.1).bind fun u5=>
      some ((u5.1.1,()),()))
     (some ((false,()),())))
    (some ((false,()),())))
   ((D1 p0.1).bind fun u6=>
   cond (u6.1.1)
    (some ((false,()),()))
   (some ((false,()),())))))
  ((FC p0.1).bind fun u7=>
  let x8:Bool:=decide (p0.2.1>u7.1.1)
  cond (!p0.2.2.1)
   ((D1 p0.1).bind fun u9=>
   cond (u9.1.1)
    (cond (x8)
     ((GC p0.2.2.2.1).bind fun D5=>
     some ((D5.1.1,()),()))
    (some ((false,()),())))
   (some ((false,()),())))
  (cond (decide (p0.2.1>0))
   ((D1 p0.1).bind fun MZ=>
   cond (MZ.1.1)
    (cond (x8)
     (cond (p0.2.2.2.1==[])
      ((GC p0.2.2.2.1).bind fun D7=>
      some ((D7.1.1,()),()))
     (some ((false,()),())))
    (some ((false,()),())))
   (some ((false,()),())))
  ((D1 p0.1).bind fun Mi=>
  cond (Mi.1.1)
   (cond (x8)
    (some ((false,()),()))
   (some ((false,()),())))
  (some ((false,()),()))))))
 (cond (!p0.2.2.1)
  ((D1 p0.1).bind fun Kc=>
  cond (Kc.1.1)
   (some ((false,()),()))
  (some ((false,()),())))
 (cond (decide (p0.2.1>0))
  ((D1 p0.1).bind fun tp=>
  cond (tp.1.1)
   (some ((false,()),()))
  (some ((false,()),())))
 ((D1 p0.1).bind fun u16=>
 cond (u16.1.1)
  (some ((false,()),()))
 (some ((false,()),())))))
abbrev Pb:Type:=ABU×Unit
abbrev SC:Type:=AAZ→Int→Int→Option Pb
def OH(R2:SC)(t5:AAZ)(t6 t7:Int):Option Pb:=
 cond (decide (t7<t6))
  (if(0:Int)≤t7∧t7<(t5.length:Int)then(
  (Ml ((t5.getD (t7.toNat) (0,0,false,[],())).1,(t5.getD (t7.toNat) (0,0,false,[],())).2.1,(t5.getD (t7.toNat) (0,0,false,[],())).2.2.1,(t5.getD (t7.toNat) (0,0,false,[],())).2.2.2.1,())).bind fun u1=>
  cond (!u1.1.1)
   (some ((false,()),()))
  (R2 t5 t6 (AU (t7+1))))else none)
 (some ((true,()),()))
def II:Nat→SC
 |0=>fun _ _ _=>none
 |n+1=>OH (II n)
def Uv(R2:SC)(p0:AAZ):Option Pb:=
 R2 p0 (p0.length:Int) 0
def Ob(p0:AAZ):Option Pb:=Uv (II Ab) p0
abbrev LW:Type:=ABU×Unit
abbrev Od:Type:=AAZ→AAZ→Int→Int→Option LW
def Li(R2:Od)(t0 t5:AAZ)(t6 t7:Int):Option LW:=
 cond (decide (t7<t6))
  (if(0:Int)≤t7∧t7<(t5.length:Int)then(
  cond (decide (t7>0))
   (if(0:Int)≤AU (t7-1)∧AU (t7-1)<(t0.length:Int)then(
   cond (decide (((t0.getD ((AU (t7-1)).toNat) (0,0,false,[],())).1)≥((t5.getD (t7.toNat) (0,0,false,[],())).1)))
    (some ((false,()),()))
   (R2 t0 t5 t6 (AU (t7+1))))else none)
  (R2 t0 t5 t6 (AU (t7+1))))else none)
 (some ((true,()),()))
def GK:Nat→Od
 |0=>fun _ _ _ _=>none
 |n+1=>Li (GK n)
def RZ(R2:Od)(p0:AAZ):Option LW:=
 R2 p0 p0 (p0.length:Int) 0
def Kh(p0:AAZ):Option LW:=RZ (GK Ab) p0
abbrev nL:Type:=ABU×Unit
def FE(p0:ABa):Option nL:=
 cond ((decide ((p0.1.length:Int)>200)))
  (some ((false,()),()))
 (cond (decide ((p0.2.1.length:Int)>20))
  (some ((false,()),()))
 ((Ob p0.1).bind fun u3=>
 cond (u3.1.1)
  ((Ob p0.2.1).bind fun u4=>
  cond (u4.1.1)
   ((Kh p0.1).bind fun u5=>
   cond (u5.1.1)
    ((A6 p0.2.2.1 0 30).bind fun u6=>
    some ((u6.1.1,()),()))
   (some ((false,()),())))
  (some ((false,()),())))
 (some ((false,()),()))))
abbrev Ir:Type:=ABW×Unit
abbrev MI:Type:=List Int→Int→Int→Int→Option Ir
def OV(R2:MI)(t0:AAF)(t1 t7 t8:Int):Option Ir:=
 cond (decide (t8<t7))
  (if(0:Int)≤t8∧t8<(t0.length:Int)then(
  cond (t1==(t0.getD (t8.toNat) 0))
   (some ((t8,()),()))
  (R2 t0 t1 t7 (AU (t8+1))))else none)
 (some (((-1),()),()))
def GA:Nat→MI
 |0=>fun _ _ _ _=>none
 |n+1=>OV (GA n)
def OQ(R2:MI)(p0:AAF)(p1:Int):Option Ir:=
 R2 p0 p1 (p0.length:Int) 0
def Om(p0:AAF)(p1:Int):Option Ir:=OQ (GA Ab) p0 p1
abbrev YA:Type:=ABU×Unit
def Bq(p0:AAF)(p1:Int):Option YA:=
 (Om p0 p1).bind fun u1=>
 some ((decide (u1.1.1≥0),()),())
abbrev qm:Type:=ABU×Unit
def RC(p0:Int)(p1:ABd):Option qm:=
 (Bq p1.1 p0).bind fun u1=>
 some ((!u1.1.1,()),())
abbrev DT:Type:=ABW×Unit
abbrev Ea:Type:=List Int→(ABd×Unit)→Int→Int→Option DT
def D3(R2:Ea)(t0:AAF)(t1:ABd×Unit)(t7 t8:Int):Option DT:=
 cond (decide (t8<t7))
  (if(0:Int)≤t8∧t8<(t0.length:Int)then(
  (RC (t0.getD (t8.toNat) 0) t1.1).bind fun u2=>
  cond (u2.1.1)
   (some ((t8,()),()))
  (R2 t0 (t1.1,()) t7 (AU (t8+1))))else none)
 (some (((-1),()),()))
def B8:Nat→Ea
 |0=>fun _ _ _ _=>none
 |n+1=>D3 (B8 n)
def Dx(R2:Ea)(p0:AAF)(p1:ABd×Unit):Option DT:=
 R2 p0 (p1.1,()) (p0.length:Int) 0
def De(p0:AAF)(p1:ABd×Unit):Option DT:=Dx (B8 Ab) p0 p1
abbrev DJ:Type:=ABc×AGb
abbrev ER:Type:=(ABd×Unit)→Int→Int→List Int→Option DJ
def Dt(R5:ER)(t1:ABd×Unit)(t5 t6:Int)(b0:AAF):Option DJ:=
 cond ((decide (t6<(b0.length:Int))))
  (if(0:Int)≤t6∧t6<(b0.length:Int)then(
  let x3:Int:=(b0.getD (t6.toNat) 0)
  (RC x3 t1.1).bind fun u4=>
  cond (!u4.1.1)
   (if(0:Int)≤t5∧t5<(b0.length:Int)then(
   R5 (t1.1,()) (AU (t5+1)) (AU (t6+1)) (b0.set (t5.toNat) x3))else none)
  (R5 (t1.1,()) t5 (AU (t6+1)) b0))else none)
 (if(0:Int)≤t5∧t5≤(b0.length:Int)∧(b0.length:Int)≤(b0.length:Int)then(
 let x6:AAF:=(b0.take (t5.toNat)++List.replicate (((b0.length:Int).toNat)-(t5.toNat)) 0++b0.drop ((t5.toNat)+(((b0.length:Int).toNat)-(t5.toNat))))
 if(0:Int)≤(0:Int)∧(0:Int)≤t5∧t5≤(x6.length:Int)then(
 some (((),()),((),((x6.drop 0).take ((t5.toNat)-0)),())))else none)else none)
def B4:Nat→ER
 |0=>fun _ _ _ _=>none
 |n+1=>Dt (B4 n)
def Du(R5:ER)(p1:ABd×Unit)(b0:AAF):Option DJ:=
 (De b0 (p1.1,())).bind fun u1=>
 cond (u1.1.1==(-1))
  (some (((),()),((),b0,())))
 (R5 (p1.1,()) u1.1.1 (AU (u1.1.1+1)) b0)
def Co(p1:ABd×Unit)(b0:AAF):Option DJ:=Du (B4 Ab) p1 b0
abbrev wH:Type:=ABc×ABd
def NM(p0 p1:AAF):Option wH:=
 (DI p0).bind fun u1=>
 (Co ((p1,()),()) u1.2.1).bind fun u2=>
 some (((),()),(u2.2.2.1,()))
abbrev Lb:Type:=ABU×Unit
def C3(p0:ABV)(p1:Int):Option Lb:=
 (NM [p1] p0.2.2.2.1).bind fun u1=>
 some ((decide ((u1.2.1.length:Int)>0),()),())
abbrev UG:Type:=ABW×Unit
abbrev Xf:Type:=List Int→Int→Int→List Int→Int→List Int→Option UG
def YH(R5:Xf)(t13:AAF)(t14 t15:Int)(AM:AAF)(AE:Int)(b1:AAF):Option UG:=
 cond (decide (t15<t14))
  (if(0:Int)≤t15∧t15<(t13.length:Int)then(
  let x2:Int:=(t13.getD (t15.toNat) 0)
  if(0:Int)≤x2∧x2<(AM.length:Int)then(
  (Bq b1 (AM.getD (x2.toNat) 0)).bind fun u4=>
  cond (!u4.1.1)
   (if(0:Int)≤x2∧x2<(AM.length:Int)then(
   if b1.length+1≤DF then(
   R5 t13 t14 (AU (t15+1)) AM AE (b1++[(AM.getD (x2.toNat) 0)]))else none)else none)
  (R5 t13 t14 (AU (t15+1)) AM AE b1))else none)else none)
 (some (((b1.length:Int),()),()))
def Oy:Nat→Xf
 |0=>fun _ _ _ _ _ _=>none
 |n+1=>YH (Oy n)
def ZA(R5:Xf)(p0:ABA)(p1:AAF):Option UG:=
 (Dy (p0.1,p0.2.1,()) p1).bind fun u1=>
 cond (!u1.1.1)
  (some (((-1),()),()))
 (R5 p1 (p1.length:Int) 0 p0.1 p0.2.1 [])
def YJ(p0:ABA)(p1:AAF):Option UG:=ZA (Oy Ab) p0 p1
abbrev iT:Type:=ABU×Unit
def Gn(p0:ABA)(p1:AAF):Option iT:=
 (Dy (p0.1,p0.2.1,()) p1).bind fun u1=>
 cond (u1.1.1)
  ((YJ (p0.1,p0.2.1,()) p1).bind fun u2=>
  some (((decide (u2.1.1≥p0.2.1)),()),()))
 (some ((false,()),()))
abbrev Jz:Type:=ABU×Unit
abbrev Me:Type:=ABV→AAT→Int→Int→Option Jz
def KD(R4:Me)(t0:ABV)(t32:AAT)(t33 t34:Int):Option Jz:=
 cond (decide (t34<t33))
  (if(0:Int)≤t34∧t34<(t32.length:Int)then(
  (FE ((t32.getD (t34.toNat) ([],[],0,())).1,(t32.getD (t34.toNat) ([],[],0,())).2.1,(t32.getD (t34.toNat) ([],[],0,())).2.2.1,())).bind fun u5=>
  cond (!u5.1.1)
   (some ((false,()),()))
  ((C3 t0 t34).bind fun u6=>
  cond (u6.1.1)
   (cond (decide ((AU ((AU ((((t32.getD (t34.toNat) ([],[],0,())).1).length:Int)+(((t32.getD (t34.toNat) ([],[],0,())).2.1).length:Int)))+((t32.getD (t34.toNat) ([],[],0,())).2.2.1)))>0))
    (some ((false,()),()))
   (R4 t0 t32 t33 (AU (t34+1))))
  (R4 t0 t32 t33 (AU (t34+1)))))else none)
 (cond (t0.2.2.2.2.2.2.2.2.2.2.1)
  (some ((true,()),()))
 ((Gn (t0.1,t0.2.1,()) t0.2.2.2.1).bind fun D7=>
 some ((!D7.1.1,()),())))
def FJ:Nat→Me
 |0=>fun _ _ _ _=>none
 |n+1=>KD (FJ n)
def Pf(R4:Me)(p0:ABV):Option Jz:=
 cond (((p0.2.2.1.length:Int) !=(p0.1.length:Int)))
  (some ((false,()),()))
 ((Dy (p0.1,p0.2.1,()) p0.2.2.2.1).bind fun u3=>
 cond (!u3.1.1)
  (some ((false,()),()))
 (R4 p0 p0.2.2.1 (p0.2.2.1.length:Int) 0))
def LY(p0:ABV):Option Jz:=Pf (FJ Ab) p0
abbrev sa:Type:=ABU×Unit
def aq(p0:ABA)(p1:AFe):Option sa:=
 (Gn (p0.1,p0.2.1,()) p1.1).bind fun u1=>
 cond (u1.1.1)
  ((A6 p1.2.2.1 0 60).bind fun u2=>
  cond (u2.1.1)
   (cond (p1.2.1)
    (some ((true,()),()))
   (some ((p1.2.2.1==0,()),())))
  (some ((false,()),())))
 (some ((false,()),()))
abbrev Rn:Type:=ABU×Unit
abbrev ZG:Type:=AAP→Int→Int→List Int→Int→AAP→Int→Option Rn
def Tq(R2:ZG)(t9:AAP)(t10 t11:Int)(AM:AAF)(AE:Int)(BI:AAP)(Az:Int):Option Rn:=
 cond (decide (t11<t10))
  (if(0:Int)≤t11∧t11<(t9.length:Int)then(
  (aq (AM,AE,()) ((t9.getD (t11.toNat) ([],false,0,())).1,(t9.getD (t11.toNat) ([],false,0,())).2.1,(t9.getD (t11.toNat) ([],false,0,())).2.2.1,())).bind fun u1=>
  cond (!u1.1.1)
   (some ((false,()),()))
  (cond (((t9.getD (t11.toNat) ([],false,0,())).2.1))
   (cond (t11==(AU ((BI.length:Int)-1)))
    (some ((false,()),()))
   (cond (decide (t11>0))
    (if(0:Int)≤AU (t11-1)∧AU (t11-1)<(BI.length:Int)then(
    cond (!((BI.getD ((AU (t11-1)).toNat) ([],false,0,())).2.1))
     (some ((false,()),()))
    (R2 t9 t10 (AU (t11+1)) AM AE BI Az))else none)
   (R2 t9 t10 (AU (t11+1)) AM AE BI Az)))
  (R2 t9 t10 (AU (t11+1)) AM AE BI Az)))else none)
 (cond (Az==0)
  ((E7 (AM,AE,())).bind fun u5=>
  cond (u5.1.1)
   (cond ((decide ((BI.length:Int)≤30)))
    (some ((true,()),()))
   (some ((false,()),())))
  (some ((false,()),())))
 ((FC Az).bind fun u7=>
 (A6 u7.1.1 1 (BI.length:Int)).bind fun u8=>
 (E7 (AM,AE,())).bind fun u9=>
 cond (u9.1.1)
  (cond ((decide ((BI.length:Int)≤30)))
   (some ((u8.1.1,()),()))
  (some ((false,()),())))
 (some ((false,()),()))))
def K9:Nat→ZG
 |0=>fun _ _ _ _ _ _ _=>none
 |n+1=>Tq (K9 n)
def Zw(R2:ZG)(p0:ABA)(p1:ABZ):Option Rn:=
 R2 p1.1 (p1.1.length:Int) 0 p0.1 p0.2.1 p1.1 p1.2.1
def LB(p0:ABA)(p1:ABZ):Option Rn:=Zw (K9 Ab) p0 p1
abbrev nW:Type:=ABW×Unit
def az(p0:Bool):Option nW:=
 cond (p0)
  (some ((1,()),()))
 (some ((0,()),()))
abbrev NB:Type:=ABU×Unit
abbrev Te:Type:=Int→ABX→Int→Int→List Int→Int→Int→ABX→Option NB
def Vk(R3:Te)(t5:Int)(t9:ABX)(t10 t11:Int)(AM:AAF)(AE BI:Int)(Az:ABX):Option NB:=
 cond (decide (t11<t10))
  (if(0:Int)≤t11∧t11<(t9.length:Int)then(
  (GC ((t9.getD (t11.toNat) ([],[],false,())).1)).bind fun u3=>
  cond (!u3.1.1)
   (some ((false,()),()))
  ((Dy (AM,AE,()) ((t9.getD (t11.toNat) ([],[],false,())).2.1)).bind fun u4=>
  cond (!u4.1.1)
   (some ((false,()),()))
  ((Gn (AM,AE,()) ((t9.getD (t11.toNat) ([],[],false,())).2.1)).bind fun u6=>
  cond (((t9.getD (t11.toNat) ([],[],false,())).2.2.1) !=u6.1.1)
   (some ((false,()),()))
  ((az (!((t9.getD (t11.toNat) ([],[],false,())).2.2.1))).bind fun u8=>
  R3 (AU (t5+u8.1.1)) t9 t10 (AU (t11+1)) AM AE BI Az))))else none)
 ((E7 (AM,AE,())).bind fun u9=>
 cond (u9.1.1)
  ((Hk BI).bind fun D5=>
  cond (D5.1.1)
   (cond ((decide ((Az.length:Int)≤60)))
    (some ((decide (t5≤6),()),()))
   (some ((false,()),())))
  (some ((false,()),())))
 (some ((false,()),())))
def MR:Nat→Te
 |0=>fun _ _ _ _ _ _ _ _=>none
 |n+1=>Vk (MR n)
def WA(R3:Te)(p0:ABA)(p1:ABb):Option NB:=
 R3 0 p1.2.1 (p1.2.1.length:Int) 0 p0.1 p0.2.1 p1.1 p1.2.1
def GX(p0:ABA)(p1:ABb):Option NB:=WA (MR Ab) p0 p1
abbrev dv:Type:=ABU×Unit
def JU(p0:ABV)(p1:Int):Option dv:=
 (A6 p1 1 (p0.2.2.2.2.1.length:Int)).bind fun u2=>
 some ((u2.1.1,()),())
abbrev Is:Type:=ABU×Unit
abbrev MG:Type:=ABV→AAj→Int→Int→Option Is
def Js(R2:MG)(t0:ABV)(t8:AAj)(t9 t10:Int):Option Is:=
 cond (decide (t10<t9))
  (if(0:Int)≤t10∧t10<(t8.length:Int)then(
  (GX (t0.1,t0.2.1,()) ((t8.getD (t10.toNat) (0,[],())).1,(t8.getD (t10.toNat) (0,[],())).2.1,())).bind fun u2=>
  cond (!u2.1.1)
   (some ((false,()),()))
  ((JU t0 ((t8.getD (t10.toNat) (0,[],())).1)).bind fun u4=>
  cond (!u4.1.1)
   (some ((false,()),()))
  (cond (decide (t10>0))
   (if(0:Int)≤AU (t10-1)∧AU (t10-1)<(t0.2.2.2.2.2.2.1.length:Int)then(
   cond (decide (((t0.2.2.2.2.2.2.1.getD ((AU (t10-1)).toNat) (0,[],())).1)≥((t8.getD (t10.toNat) (0,[],())).1)))
    (some ((false,()),()))
   (R2 t0 t8 t9 (AU (t10+1))))else none)
  (R2 t0 t8 t9 (AU (t10+1))))))else none)
 (some ((decide ((t0.2.2.2.2.2.2.1.length:Int)≤4),()),()))
def Ec:Nat→MG
 |0=>fun _ _ _ _=>none
 |n+1=>Js (Ec n)
def Oe(R2:MG)(p0:ABV):Option Is:=
 R2 p0 p0.2.2.2.2.2.2.1 (p0.2.2.2.2.2.2.1.length:Int) 0
def Ka(p0:ABV):Option Is:=Oe (Ec Ab) p0
abbrev ta:Type:=ABW×Unit
def Tj(p0:Int):Option ta:=
 (D1 p0).bind fun u1=>
 cond (!u1.1.1)
  (some ((0,()),()))
 (some ((p0.tmod 4294967296,()),()))
abbrev pe:Type:=ABW×Unit
def Se(p0:ABT):Option pe:=
 cond ((p0.2.2.2.1.length:Int)==0)
  (some ((0,()),()))
 (let x2:Int:=(p0.2.2.2.1.length:Int)
 if(0:Int)≤AU (x2-1)∧AU (x2-1)<(p0.2.2.2.1.length:Int)then(
 (Tj ((p0.2.2.2.1.getD ((AU (x2-1)).toNat) (0,0,false,[],())).1)).bind fun u4=>
 some ((u4.1.1,()),()))else none)
abbrev UE:Type:=ABU×Unit
abbrev Wz:Type:=AAZ→Int→Int→Int→Int→List Int→AAZ→Bool→List AAF→Option UE
def Sz(R2:Wz)(t6:AAZ)(t7 t8 AM AE:Int)(Ac:AAF)(DN:AAZ)(ET:Bool)(Aa:List AAF):Option UE:=
 cond (decide (t8<t7))
  (if(0:Int)≤t8∧t8<(t6.length:Int)then(
  (Ml ((t6.getD (t8.toNat) (0,0,false,[],())).1,(t6.getD (t8.toNat) (0,0,false,[],())).2.1,(t6.getD (t8.toNat) (0,0,false,[],())).2.2.1,(t6.getD (t8.toNat) (0,0,false,[],())).2.2.2.1,())).bind fun u2=>
  cond (!u2.1.1)
   (some ((false,()),()))
  ((FC ((t6.getD (t8.toNat) (0,0,false,[],())).1)).bind fun u4=>
  cond (u4.1.1 !=AE)
   (some ((false,()),()))
  (cond (decide (((t6.getD (t8.toNat) (0,0,false,[],())).2.1)≥AM))
   (some ((false,()),()))
  (R2 t6 t7 (AU (t8+1)) AM AE Ac DN ET Aa))))else none)
 ((Kh DN).bind fun u6=>
 some ((u6.1.1,()),()))
def L2:Nat→Wz
 |0=>fun _ _ _ _ _ _ _ _ _=>none
 |n+1=>Sz (L2 n)
def YB(R2:Wz)(p0:ABT):Option UE:=
 R2 p0.2.2.2.1 (p0.2.2.2.1.length:Int) 0 p0.1 p0.2.1 p0.2.2.1 p0.2.2.2.1 p0.2.2.2.2.1 p0.2.2.2.2.2.1
def Uu(p0:ABT):Option UE:=YB (L2 Ab) p0
abbrev UM:Type:=ABU×Unit
abbrev XM:Type:=List AAF→Int→Int→List Int→Int→Int→Int→List Int→AAZ→Bool→List AAF→Option UM
def S9(R2:XM)(t10:List AAF)(t11 t12:Int)(AM:AAF)(AE BI Az:Int)(DK:AAF)(G4:AAZ)(M6:Bool)(D8:List AAF):Option UM:=
 cond (decide (t12<t11))
  (if(0:Int)≤t12∧t12<(t10.length:Int)then(
  (Dy (AM,AE,()) (t10.getD (t12.toNat) [])).bind fun u2=>
  cond (!u2.1.1)
   (some ((false,()),()))
  (R2 t10 t11 (AU (t12+1)) AM AE BI Az DK G4 M6 D8))else none)
 (cond (M6)
  ((Se (BI,Az,DK,G4,M6,D8,())).bind fun u3=>
  (Hk Az).bind fun u4=>
  cond (u4.1.1)
   ((A6 BI (AU (Az+1)) 30).bind fun u5=>
   (E7 (AM,AE,())).bind fun u6=>
   cond (u6.1.1)
    (cond (u5.1.1)
     ((Dy (AM,AE,()) DK).bind fun u7=>
     cond (u7.1.1)
      ((Uu (BI,Az,DK,G4,M6,D8,())).bind fun u8=>
      cond (u8.1.1)
       (some ((((D8.length:Int)==u3.1.1),()),()))
      (some ((false,()),())))
     (some ((false,()),())))
    (some ((false,()),())))
   (some ((false,()),())))
  ((E7 (AM,AE,())).bind fun D5=>
  cond (D5.1.1)
   (some ((false,()),()))
  (some ((false,()),()))))
 ((Hk Az).bind fun MZ=>
 cond (MZ.1.1)
  ((A6 BI (AU (Az+1)) 30).bind fun D7=>
  (E7 (AM,AE,())).bind fun Mi=>
  cond (Mi.1.1)
   (cond (D7.1.1)
    ((Dy (AM,AE,()) DK).bind fun Kc=>
    cond (Kc.1.1)
     ((Uu (BI,Az,DK,G4,M6,D8,())).bind fun tp=>
     cond (tp.1.1)
      (some ((((D8.length:Int)==0),()),()))
     (some ((false,()),())))
    (some ((false,()),())))
   (some ((false,()),())))
  (some ((false,()),())))
 ((E7 (AM,AE,())).bind fun X4=>
 cond (X4.1.1)
  (some ((false,()),()))
 (some ((false,()),())))))
def Ls:Nat→XM
 |0=>fun _ _ _ _ _ _ _ _ _ _ _=>none
 |n+1=>S9 (Ls n)
def Yw(R2:XM)(p0:ABA)(p1:ABT):Option UM:=
 R2 p1.2.2.2.2.2.1 (p1.2.2.2.2.2.1.length:Int) 0 p0.1 p0.2.1 p1.1 p1.2.1 p1.2.2.1 p1.2.2.2.1 p1.2.2.2.2.1 p1.2.2.2.2.2.1
def Hw(p0:ABA)(p1:ABT):Option UM:=Yw (Ls Ab) p0 p1
abbrev O8:Type:=ABW×Unit
abbrev Ri:Type:=AAP→Int→Int→Option O8
def OT(R2:Ri)(t6:AAP)(t7 t8:Int):Option O8:=
 cond (decide (t8<t7))
  (if(0:Int)≤t8∧t8<(t6.length:Int)then(
  cond (!((t6.getD (t8.toNat) ([],false,0,())).2.1))
   (some ((AU (t8+1),()),()))
  (R2 t6 t7 (AU (t8+1))))else none)
 (some ((0,()),()))
def IM:Nat→Ri
 |0=>fun _ _ _=>none
 |n+1=>OT (IM n)
def VL(R2:Ri)(p0:ABZ):Option O8:=
 R2 p0.1 (p0.1.length:Int) 0
def Lm(p0:ABZ):Option O8:=VL (IM Ab) p0
abbrev Ks:Type:=ABU×Unit
abbrev Nq:Type:=ABV→AAo→Int→Int→Option Ks
def LI(R2:Nq)(t0:ABV)(t8:AAo)(t9 t10:Int):Option Ks:=
 cond (decide (t10<t9))
  (if(0:Int)≤t10∧t10<(t8.length:Int)then(
  (Hw (t0.1,t0.2.1,()) ((t8.getD (t10.toNat) (0,0,[],[],false,[],())).1,(t8.getD (t10.toNat) (0,0,[],[],false,[],())).2.1,(t8.getD (t10.toNat) (0,0,[],[],false,[],())).2.2.1,(t8.getD (t10.toNat) (0,0,[],[],false,[],())).2.2.2.1,(t8.getD (t10.toNat) (0,0,[],[],false,[],())).2.2.2.2.1,(t8.getD (t10.toNat) (0,0,[],[],false,[],())).2.2.2.2.2.1,())).bind fun u2=>
  cond (!u2.1.1)
   (some ((false,()),()))
  (cond (((t8.getD (t10.toNat) (0,0,[],[],false,[],())).1) !=(t0.2.2.2.2.1.length:Int))
   (some ((false,()),()))
  ((Lm (t0.2.2.2.2.1,t0.2.2.2.2.2.1,())).bind fun u6=>
  cond (((t8.getD (t10.toNat) (0,0,[],[],false,[],())).2.1) !=u6.1.1)
   (some ((false,()),()))
  (R2 t0 t8 t9 (AU (t10+1))))))else none)
 (some ((decide ((t0.2.2.2.2.2.2.2.1.length:Int)≤1),()),()))
def FZ:Nat→Nq
 |0=>fun _ _ _ _=>none
 |n+1=>LI (FZ n)
def P6(R2:Nq)(p0:ABV):Option Ks:=
 R2 p0 p0.2.2.2.2.2.2.2.1 (p0.2.2.2.2.2.2.2.1.length:Int) 0
def Mq(p0:ABV):Option Ks:=P6 (FZ Ab) p0
abbrev mA:Type:=ABU×Unit
def UW(p0:ABi):Option mA:=
 (A6 p0.1 1 31).bind fun u1=>
 cond (u1.1.1)
  ((A6 p0.2.1 1 61).bind fun u2=>
  cond (u2.1.1)
   (some ((decide ((p0.2.2.1.length:Int)≤120),()),()))
  (some ((false,()),())))
 (some ((false,()),()))
abbrev Iz:Type:=ABU×Unit
abbrev MO:Type:=ABV→AAs→Int→Int→Option Iz
def Jl(R2:MO)(t0:ABV)(t8:AAs)(t9 t10:Int):Option Iz:=
 cond (decide (t10<t9))
  (if(0:Int)≤t10∧t10<(t8.length:Int)then(
  (UW ((t8.getD (t10.toNat) (0,0,[],())).1,(t8.getD (t10.toNat) (0,0,[],())).2.1,(t8.getD (t10.toNat) (0,0,[],())).2.2.1,())).bind fun u2=>
  cond (!u2.1.1)
   (some ((false,()),()))
  (R2 t0 t8 t9 (AU (t10+1))))else none)
 (some (((t0.2.2.2.2.2.2.2.2.1.length:Int)==2,()),()))
def Eb:Nat→MO
 |0=>fun _ _ _ _=>none
 |n+1=>Jl (Eb n)
def OL(R2:MO)(p0:ABV):Option Iz:=
 R2 p0 p0.2.2.2.2.2.2.2.2.1 (p0.2.2.2.2.2.2.2.2.1.length:Int) 0
def Kr(p0:ABV):Option Iz:=OL (Eb Ab) p0
abbrev LV:Type:=ABU×Unit
abbrev Ov:Type:=ABV→AAa→Int→Int→Option LV
def MD(R2:Ov)(t0:ABV)(t8:AAa)(t9 t10:Int):Option LV:=
 cond (decide (t10<t9))
  (if(0:Int)≤t10∧t10<(t8.length:Int)then(
  (FC ((t8.getD (t10.toNat) (0,[],false,())).1)).bind fun u3=>
  (JU t0 u3.1.1).bind fun u4=>
  cond (!u4.1.1)
   (some ((false,()),()))
  ((GC ((t8.getD (t10.toNat) (0,[],false,())).2.1)).bind fun u6=>
  cond (!u6.1.1)
   (some ((false,()),()))
  (cond (decide (t10>0))
   (if(0:Int)≤AU (t10-1)∧AU (t10-1)<(t0.2.2.2.2.2.2.2.2.2.1.length:Int)then(
   cond (decide (((t0.2.2.2.2.2.2.2.2.2.1.getD ((AU (t10-1)).toNat) (0,[],false,())).1)≥((t8.getD (t10.toNat) (0,[],false,())).1)))
    (some ((false,()),()))
   (R2 t0 t8 t9 (AU (t10+1))))else none)
  (R2 t0 t8 t9 (AU (t10+1))))))else none)
 (some ((decide ((t0.2.2.2.2.2.2.2.2.2.1.length:Int)≤120),()),()))
def GO:Nat→Ov
 |0=>fun _ _ _ _=>none
 |n+1=>MD (GO n)
def RS(R2:Ov)(p0:ABV):Option LV:=
 R2 p0 p0.2.2.2.2.2.2.2.2.2.1 (p0.2.2.2.2.2.2.2.2.2.1.length:Int) 0
def OA(p0:ABV):Option LV:=RS (GO Ab) p0
abbrev pL:Type:=ABU×Unit
def SY(p0:ABV):Option pL:=
 (E7 (p0.1,p0.2.1,())).bind fun u1=>
 cond (u1.1.1)
  ((LY (p0.1,p0.2.1,p0.2.2.1,p0.2.2.2.1,p0.2.2.2.2.1,p0.2.2.2.2.2.1,p0.2.2.2.2.2.2.1,p0.2.2.2.2.2.2.2.1,p0.2.2.2.2.2.2.2.2.1,p0.2.2.2.2.2.2.2.2.2.1,p0.2.2.2.2.2.2.2.2.2.2.1,())).bind fun u2=>
  cond (u2.1.1)
   ((LB (p0.1,p0.2.1,()) (p0.2.2.2.2.1,p0.2.2.2.2.2.1,())).bind fun u3=>
   cond (u3.1.1)
    ((Ka (p0.1,p0.2.1,p0.2.2.1,p0.2.2.2.1,p0.2.2.2.2.1,p0.2.2.2.2.2.1,p0.2.2.2.2.2.2.1,p0.2.2.2.2.2.2.2.1,p0.2.2.2.2.2.2.2.2.1,p0.2.2.2.2.2.2.2.2.2.1,p0.2.2.2.2.2.2.2.2.2.2.1,())).bind fun u4=>
    cond (u4.1.1)
     ((Mq (p0.1,p0.2.1,p0.2.2.1,p0.2.2.2.1,p0.2.2.2.2.1,p0.2.2.2.2.2.1,p0.2.2.2.2.2.2.1,p0.2.2.2.2.2.2.2.1,p0.2.2.2.2.2.2.2.2.1,p0.2.2.2.2.2.2.2.2.2.1,p0.2.2.2.2.2.2.2.2.2.2.1,())).bind fun u5=>
     cond (u5.1.1)
      ((Kr (p0.1,p0.2.1,p0.2.2.1,p0.2.2.2.1,p0.2.2.2.2.1,p0.2.2.2.2.2.1,p0.2.2.2.2.2.2.1,p0.2.2.2.2.2.2.2.1,p0.2.2.2.2.2.2.2.2.1,p0.2.2.2.2.2.2.2.2.2.1,p0.2.2.2.2.2.2.2.2.2.2.1,())).bind fun u6=>
      cond (u6.1.1)
       ((OA (p0.1,p0.2.1,p0.2.2.1,p0.2.2.2.1,p0.2.2.2.2.1,p0.2.2.2.2.2.1,p0.2.2.2.2.2.2.1,p0.2.2.2.2.2.2.2.1,p0.2.2.2.2.2.2.2.2.1,p0.2.2.2.2.2.2.2.2.2.1,p0.2.2.2.2.2.2.2.2.2.2.1,())).bind fun u7=>
       some ((u7.1.1,()),()))
      (some ((false,()),())))
     (some ((false,()),())))
    (some ((false,()),())))
   (some ((false,()),())))
  (some ((false,()),())))
 (some ((false,()),()))
abbrev vR:Type:=ABU×Unit
def CK(p0 p1 p2:Int):Option vR:=
 cond (decide (p0≥p1))
  (some ((decide (p0≤p2),()),()))
 (some ((false,()),()))
abbrev Qf:Type:=ABU×Unit
abbrev Tw:Type:=Int→List Int→Int→Option Qf
def Vv(R4:Tw)(t3:Int)(AM:AAF)(AE:Int):Option Qf:=
 cond ((decide (t3<(AM.length:Int))))
  (if(0:Int)≤t3∧t3<(AM.length:Int)then(
  (CK (AM.getD (t3.toNat) 0) 0 7).bind fun u5=>
  cond (!u5.1.1)
   (some ((false,()),()))
  (R4 (AU (t3+1)) AM AE))else none)
 (some ((true,()),()))
def Lo:Nat→Tw
 |0=>fun _ _ _=>none
 |n+1=>Vv (Lo n)
def V4(R4:Tw)(p0:ABA):Option Qf:=
 (CK (p0.1.length:Int) 1 8).bind fun u1=>
 cond (!u1.1.1)
  (some ((false,()),()))
 ((CK p0.2.1 1 4).bind fun u2=>
 cond (!u2.1.1)
  (some ((false,()),()))
 (R4 0 p0.1 p0.2.1))
def Ge(p0:ABA):Option Qf:=V4 (Lo Ab) p0
abbrev ny:Type:=AGj×Unit
def aW(p0:Int):Option ny:=
 cond (p0==8)
  (some (([],()),()))
 (cond (p0==10)
  (some (([],()),()))
 (cond (p0==12)
  (some (([],()),()))
 (cond (p0==2)
  (some (([65,84],()),()))
 (cond (p0==3)
  (some (([65,66,67],()),()))
 (cond (p0==5)
  (some (([65,66],()),()))
 (cond (p0==14)
  (some (([65,66],()),()))
 (cond (p0==11)
  (some (([66,67],()),()))
 (cond (p0==13)
  (some (([80],()),()))
 (some (([65],()),()))))))))))
abbrev P5:Type:=ABU×Unit
abbrev Xw:Type:=Int→Int→Int→Int→Int→Int→List UInt8→Int→Int→Int→Int→List UInt8→List Int→Option P5
def DP(R4:Xw)(t12 t13 AM AE Ac DN:Int)(ET:ABY)(BI Az DK G4:Int)(M6:ABY)(b2:AAF):Option P5:=
 cond (decide (t13<t12))
  (if(0:Int)≤t13∧t13<(b2.length:Int)then(
  let x3:Int:=(b2.getD (t13.toNat) 0)
  cond (x3==65)
   (R4 t12 (AU (t13+1)) AM AE Ac DN ET BI 0 DK G4 M6 b2)
  (cond (x3==80)
   (R4 t12 (AU (t13+1)) AM AE Ac DN ET BI 0 DK G4 M6 b2)
  (cond (x3==66)
   (R4 t12 (AU (t13+1)) AM AE Ac DN ET BI Az 0 G4 M6 b2)
  (cond (x3==67)
   (R4 t12 (AU (t13+1)) AM AE Ac DN ET BI Az DK 0 M6 b2)
  (cond (x3==84)
   (R4 t12 (AU (t13+1)) AM AE Ac DN ET BI Az DK G4 [] b2)
  (R4 t12 (AU (t13+1)) AM AE Ac DN ET BI Az DK G4 M6 b2))))))else none)
 ((A6 AM 1 16).bind fun u4=>
 cond (u4.1.1)
  (cond (((BI==0)&&((Az==0)&&((DK==0)&&((G4==0)&&((M6==[])&&true))))))
   ((GC ET).bind fun u6=>
   some ((u6.1.1,()),()))
  (some ((false,()),())))
 (some ((false,()),())))
def Di:Nat→Xw
 |0=>fun _ _ _ _ _ _ _ _ _ _ _ _ _=>none
 |n+1=>DP (Di n)
def YW(R4:Xw)(p0:ABe):Option P5:=
 (aW p0.1).bind fun u1=>
 if u1.1.1.length≤DF then(
 let x2:AAF:=(u1.1.1.map fun c=>(c.toNat:Int))
 R4 (x2.length:Int) 0 p0.1 p0.2.1 p0.2.2.1 p0.2.2.2.1 p0.2.2.2.2.1 0 p0.2.1 p0.2.2.1 p0.2.2.2.1 p0.2.2.2.2.1 x2)else none
def VN(p0:ABe):Option P5:=YW (Di Ab) p0
abbrev Ig:Type:=ACq×ADy
abbrev Oz:Type:=AAP→Int→Int→Int→AAP→Int→AAP→Option Ig
def RU(R3:Oz)(t10:AAP)(t11 t12 AE:Int)(b1:AAP)(K_:Int)(b3:AAP):Option Ig:=
 cond (decide (t12<t11))
  (if(0:Int)≤t12∧t12<(t10.length:Int)then(
  (DI ((t10.getD (t12.toNat) ([],false,0,())).1)).bind fun u1=>
  if b3.length+1≤DF then(
  R3 t10 t11 (AU (t12+1)) AE b1 K_ (b3++[(u1.2.1,(t10.getD (t12.toNat) ([],false,0,())).2.1,(t10.getD (t12.toNat) ([],false,0,())).2.2.1,())]))else none)else none)
 (some ((((),K_,()),()),(b3,())))
def H6:Nat→Oz
 |0=>fun _ _ _ _ _ _ _=>none
 |n+1=>RU (H6 n)
def Q8(R3:Oz)(p0:ABZ):Option Ig:=
 R3 p0.1 (p0.1.length:Int) 0 0 [] p0.2.1 []
def EW(p0:ABZ):Option Ig:=Q8 (H6 Ab) p0
abbrev gp:Type:=ABc×AEh
def JK(p0:AAZ):Option gp:=
 if 0+p0.length≤DF then(
 some (((),()),(p0,())))else none
abbrev kc:Type:=AEf×ACz
def DA(p0:ABa):Option kc:=
 (JK p0.1).bind fun u1=>
 (JK p0.2.1).bind fun u2=>
 some ((((),(),p0.2.2.1,()),()),(u1.2.1,u2.2.1,()))
abbrev Ko:Type:=AEi×AD4
abbrev Qs:Type:=ABX→Int→Int→Int→ABX→Int→ABX→Option Ko
def TK(R3:Qs)(t10:ABX)(t11 t12 AM:Int)(b1:ABX)(Iy:Int)(b3:ABX):Option Ko:=
 cond (decide (t12<t11))
  (if(0:Int)≤t12∧t12<(t10.length:Int)then(
  (DI ((t10.getD (t12.toNat) ([],[],false,())).2.1)).bind fun u2=>
  if b3.length+1≤DF then(
  R3 t10 t11 (AU (t12+1)) AM b1 Iy (b3++[((t10.getD (t12.toNat) ([],[],false,())).1,u2.2.1,(t10.getD (t12.toNat) ([],[],false,())).2.2.1,())]))else none)else none)
 (some (((Iy,(),()),()),(b3,())))
def Je:Nat→Qs
 |0=>fun _ _ _ _ _ _ _=>none
 |n+1=>TK (Je n)
def TU(R3:Qs)(p0:ABb):Option Ko:=
 R3 p0.2.1 (p0.2.1.length:Int) 0 0 [] p0.1 []
def Fz(p0:ABb):Option Ko:=TU (Je Ab) p0
abbrev QR:Type:=AED×AC2
abbrev T2:Type:=List AAF→Int→Int→Int→Int→Bool→List Int→AAZ→List AAF→Int→Int→Bool→List Int→AAZ→List AAF→Option QR
def Vl(R4:T2)(t17:List AAF)(t18 t19 AM AE:Int)(ET:Bool)(b1:AAF)(b2:AAZ)(b3:List AAF)(hD ed:Int)(vE:Bool)(b5:AAF)(b6:AAZ)(b7:List AAF):Option QR:=
 cond (decide (t19<t18))
  (if(0:Int)≤t19∧t19<(t17.length:Int)then(
  (DI (t17.getD (t19.toNat) [])).bind fun u4=>
  if b7.length+1≤DF then(
  R4 t17 t18 (AU (t19+1)) AM AE ET b1 b2 b3 hD ed vE b5 b6 (b7++[u4.2.1]))else none)else none)
 (some (((hD,ed,(),(),vE,(),()),()),(b5,b6,b7,())))
def Ln:Nat→T2
 |0=>fun _ _ _ _ _ _ _ _ _ _ _ _ _ _ _=>none
 |n+1=>Vl (Ln n)
def Vx(R4:T2)(p0:ABT):Option QR:=
 (DI p0.2.2.1).bind fun u1=>
 (JK p0.2.2.2.1).bind fun u2=>
 R4 p0.2.2.2.2.2.1 (p0.2.2.2.2.2.1.length:Int) 0 0 0 false [] [] [] p0.1 p0.2.1 p0.2.2.2.2.1 u1.2.1 u2.2.1 []
def GZ(p0:ABT):Option QR:=Vx (Ln Ab) p0
abbrev jM:Type:=AEj×AEk
def NI(p0:ABi):Option jM:=
 if 0+p0.2.2.1.length≤DF then(
 some (((p0.1,p0.2.1,(),()),()),(p0.2.2.1,())))else none
abbrev EH:Type:=AEl×ACf
abbrev IX:Type:=AAT→Int→Int→List Int→Int→AAT→List Int→AAP→Int→AAj→AAo→AAs→AAa→Bool→Int→Int→Bool→List Int→AAT→List Int→AAP→AAj→AAo→AAs→AAa→Int→Int→Bool→List Int→AAT→List Int→AAP→AAj→AAo→AAs→AAa→Option EH
abbrev IK:Type:=AAj→Int→Int→List Int→Int→AAT→List Int→AAP→Int→AAj→AAo→AAs→AAa→Bool→Int→Int→Bool→List Int→AAT→List Int→AAP→AAj→AAo→AAs→AAa→Int→Int→Bool→List Int→AAT→List Int→AAP→AAj→AAo→AAs→AAa→Option EH
abbrev HW:Type:=AAo→Int→Int→List Int→Int→AAT→List Int→AAP→Int→AAj→AAo→AAs→AAa→Bool→Int→Int→Bool→List Int→AAT→List Int→AAP→AAj→AAo→AAs→AAa→Int→Int→Bool→List Int→AAT→List Int→AAP→AAj→AAo→AAs→AAa→Option EH
abbrev HY:Type:=AAs→Int→Int→List Int→Int→AAT→List Int→AAP→Int→AAj→AAo→AAs→AAa→Bool→Int→Int→Bool→List Int→AAT→List Int→AAP→AAj→AAo→AAs→AAa→Int→Int→Bool→List Int→AAT→List Int→AAP→AAj→AAo→AAs→AAa→Option EH
def VM(R3:IX)(R8:IK)(R13:HW)(R18:HY)(t25:AAT)(t26 t27:Int)(AM:AAF)(AE:Int)(Ac:AAT)(DN:AAF)(ET:AAP)(Aa:Int)(EJ:AAj)(D9:AAo)(GB:AAs)(GW:AAa)(AN:Bool)(Az D8:Int)(E9:Bool)(b2:AAF)(b3:AAT)(b4:AAF)(b5:AAP)(b6:AAj)(b7:AAo)(b8:AAs)(b9:AAa)(Dh Ed:Int)(C1:Bool)(Fl:AAF)(DX:AAT)(F7:AAF)(GV:AAP)(Dv:AAj)(D_:AAo)(E8:AAs)(VO:AAa):Option EH:=
 cond (decide (t27<t26))
  (if(0:Int)≤t27∧t27<(t25.length:Int)then(
  (DA ((t25.getD (t27.toNat) ([],[],0,())).1,(t25.getD (t27.toNat) ([],[],0,())).2.1,(t25.getD (t27.toNat) ([],[],0,())).2.2.1,())).bind fun tp=>
  if DX.length+1≤DF then(
  R3 t25 t26 (AU (t27+1)) AM AE Ac DN ET Aa EJ D9 GB GW AN Az D8 E9 b2 b3 b4 b5 b6 b7 b8 b9 Dh Ed C1 Fl (DX++[(tp.2.1,tp.2.2.1,tp.1.1.2.2.1,())]) F7 GV Dv D_ E8 VO)else none)else none)
 (R8 EJ (EJ.length:Int) 0 AM AE Ac DN ET Aa EJ D9 GB GW AN Az D8 E9 b2 b3 b4 b5 b6 b7 b8 b9 Dh Ed C1 Fl DX F7 GV Dv D_ E8 VO)
def U3(R3:IX)(R8:IK)(R13:HW)(R18:HY)(t40:AAj)(t41 t42:Int)(AM:AAF)(AE:Int)(Ac:AAT)(DN:AAF)(ET:AAP)(Aa:Int)(EJ:AAj)(D9:AAo)(GB:AAs)(GW:AAa)(AN:Bool)(Az D8:Int)(E9:Bool)(b2:AAF)(b3:AAT)(b4:AAF)(b5:AAP)(b6:AAj)(b7:AAo)(b8:AAs)(b9:AAa)(Dh Ed:Int)(C1:Bool)(Fl:AAF)(DX:AAT)(F7:AAF)(GV:AAP)(Dv:AAj)(D_:AAo)(E8:AAs)(VO:AAa):Option EH:=
 cond (decide (t42<t41))
  (if(0:Int)≤t42∧t42<(t40.length:Int)then(
  (Fz ((t40.getD (t42.toNat) (0,[],())).1,(t40.getD (t42.toNat) (0,[],())).2.1,())).bind fun MU=>
  if Dv.length+1≤DF then(
  R8 t40 t41 (AU (t42+1)) AM AE Ac DN ET Aa EJ D9 GB GW AN Az D8 E9 b2 b3 b4 b5 b6 b7 b8 b9 Dh Ed C1 Fl DX F7 GV (Dv++[(MU.1.1.1,MU.2.1,())]) D_ E8 VO)else none)else none)
 (R13 D9 (D9.length:Int) 0 AM AE Ac DN ET Aa EJ D9 GB GW AN Az D8 E9 b2 b3 b4 b5 b6 b7 b8 b9 Dh Ed C1 Fl DX F7 GV Dv D_ E8 VO)
def TN(R3:IX)(R8:IK)(R13:HW)(R18:HY)(t55:AAo)(t56 t57:Int)(AM:AAF)(AE:Int)(Ac:AAT)(DN:AAF)(ET:AAP)(Aa:Int)(EJ:AAj)(D9:AAo)(GB:AAs)(GW:AAa)(AN:Bool)(Az D8:Int)(E9:Bool)(b2:AAF)(b3:AAT)(b4:AAF)(b5:AAP)(b6:AAj)(b7:AAo)(b8:AAs)(b9:AAa)(Dh Ed:Int)(C1:Bool)(Fl:AAF)(DX:AAT)(F7:AAF)(GV:AAP)(Dv:AAj)(D_:AAo)(E8:AAs)(VO:AAa):Option EH:=
 cond (decide (t57<t56))
  (if(0:Int)≤t57∧t57<(t55.length:Int)then(
  (GZ ((t55.getD (t57.toNat) (0,0,[],[],false,[],())).1,(t55.getD (t57.toNat) (0,0,[],[],false,[],())).2.1,(t55.getD (t57.toNat) (0,0,[],[],false,[],())).2.2.1,(t55.getD (t57.toNat) (0,0,[],[],false,[],())).2.2.2.1,(t55.getD (t57.toNat) (0,0,[],[],false,[],())).2.2.2.2.1,(t55.getD (t57.toNat) (0,0,[],[],false,[],())).2.2.2.2.2.1,())).bind fun aV=>
  if D_.length+1≤DF then(
  R13 t55 t56 (AU (t57+1)) AM AE Ac DN ET Aa EJ D9 GB GW AN Az D8 E9 b2 b3 b4 b5 b6 b7 b8 b9 Dh Ed C1 Fl DX F7 GV Dv (D_++[(aV.1.1.1,aV.1.1.2.1,aV.2.1,aV.2.2.1,aV.1.1.2.2.2.2.1,aV.2.2.2.1,())]) E8 VO)else none)else none)
 (R18 GB (GB.length:Int) 0 AM AE Ac DN ET Aa EJ D9 GB GW AN Az D8 E9 b2 b3 b4 b5 b6 b7 b8 b9 Dh Ed C1 Fl DX F7 GV Dv D_ E8 VO)
def TY(R3:IX)(R8:IK)(R13:HW)(R18:HY)(t70:AAs)(t71 t72:Int)(AM:AAF)(AE:Int)(Ac:AAT)(DN:AAF)(ET:AAP)(Aa:Int)(EJ:AAj)(D9:AAo)(GB:AAs)(GW:AAa)(AN:Bool)(Az D8:Int)(E9:Bool)(b2:AAF)(b3:AAT)(b4:AAF)(b5:AAP)(b6:AAj)(b7:AAo)(b8:AAs)(b9:AAa)(Dh Ed:Int)(C1:Bool)(Fl:AAF)(DX:AAT)(F7:AAF)(GV:AAP)(Dv:AAj)(D_:AAo)(E8:AAs)(VO:AAa):Option EH:=
 cond (decide (t72<t71))
  (if(0:Int)≤t72∧t72<(t70.length:Int)then(
  (NI ((t70.getD (t72.toNat) (0,0,[],())).1,(t70.getD (t72.toNat) (0,0,[],())).2.1,(t70.getD (t72.toNat) (0,0,[],())).2.2.1,())).bind fun mm=>
  if E8.length+1≤DF then(
  R18 t70 t71 (AU (t72+1)) AM AE Ac DN ET Aa EJ D9 GB GW AN Az D8 E9 b2 b3 b4 b5 b6 b7 b8 b9 Dh Ed C1 Fl DX F7 GV Dv D_ (E8++[(mm.1.1.1,mm.1.1.2.1,mm.2.1,())]) VO)else none)else none)
 (if 0+GW.length≤DF then(
 some ((((),Dh,(),(),(),Ed,(),(),(),(),C1,()),()),(Fl,DX,F7,GV,Dv,D_,E8,GW,())))else none)
mutual
def FV:Nat→IX
 |0=>fun _ _ _ _ _ _ _ _ _ _ _ _ _ _ _ _ _ _ _ _ _ _ _ _ _ _ _ _ _ _ _ _ _ _ _ _=>none
 |n+1=>VM (FV n) (FU n) (En n) (Ef n)
def FU:Nat→IK
 |0=>fun _ _ _ _ _ _ _ _ _ _ _ _ _ _ _ _ _ _ _ _ _ _ _ _ _ _ _ _ _ _ _ _ _ _ _ _=>none
 |n+1=>U3 (FV n) (FU n) (En n) (Ef n)
def En:Nat→HW
 |0=>fun _ _ _ _ _ _ _ _ _ _ _ _ _ _ _ _ _ _ _ _ _ _ _ _ _ _ _ _ _ _ _ _ _ _ _ _=>none
 |n+1=>TN (FV n) (FU n) (En n) (Ef n)
def Ef:Nat→HY
 |0=>fun _ _ _ _ _ _ _ _ _ _ _ _ _ _ _ _ _ _ _ _ _ _ _ _ _ _ _ _ _ _ _ _ _ _ _ _=>none
 |n+1=>TY (FV n) (FU n) (En n) (Ef n)
end
def Uk(R3:IX)(R8:IK)(R13:HW)(R18:HY)(p0:ABV):Option EH:=
 (QX (p0.1,p0.2.1,())).bind fun u2=>
 (DI p0.2.2.2.1).bind fun u3=>
 (EW (p0.2.2.2.2.1,p0.2.2.2.2.2.1,())).bind fun u4=>
 R3 p0.2.2.1 (p0.2.2.1.length:Int) 0 p0.1 p0.2.1 p0.2.2.1 p0.2.2.2.1 p0.2.2.2.2.1 p0.2.2.2.2.2.1 p0.2.2.2.2.2.2.1 p0.2.2.2.2.2.2.2.1 p0.2.2.2.2.2.2.2.2.1 p0.2.2.2.2.2.2.2.2.2.1 p0.2.2.2.2.2.2.2.2.2.2.1 0 0 false [] [] [] [] [] [] [] [] u2.1.1.2.1 u4.1.1.2.1 p0.2.2.2.2.2.2.2.2.2.2.1 u2.2.1 [] u3.2.1 u4.2.1 [] [] [] []
def Oa(p0:ABV):Option EH:=Uk (FV Ab) (FU Ab) (En Ab) (Ef Ab) p0
abbrev MN:Type:=AEg×Unit
def Dn(p0 p1:Int):Option MN:=
 (Hk p0).bind fun u1=>
 cond (!u1.1.1)
  (some (((0,false,()),()),()))
 ((Xc p1).bind fun u2=>
 cond (!u2.1.1)
  (some (((0,false,()),()),()))
 (some (((AU ((AU (4294967296*p0))+p1),true,()),()),())))
abbrev HQ:Type:=ABc×ABd
abbrev TB:Type:=Int→Int→List Int→Option HQ
def U1(R5:TB)(t0 t10:Int)(b0:AAF):Option HQ:=
 cond (decide (t10<8))
  (if t10<0 then none else(
  cond (((cO .i64 (t0.fdiv (2^(min t10.toNat 64))) 1)==1))
   (if b0.length+1≤DF then(
   R5 t0 (AU (t10+1)) (b0++[t10]))else none)
  (R5 t0 (AU (t10+1)) b0)))
 (some (((),()),(b0,())))
def Kj:Nat→TB
 |0=>fun _ _ _=>none
 |n+1=>U1 (Kj n)
def U2(R5:TB)(p0:Int):Option HQ:=
 (A6 p0 0 255).bind fun u1=>
 cond (!u1.1.1)
  (some (((),()),([],())))
 (R5 p0 0 [])
def Hs(p0:Int):Option HQ:=U2 (Kj Ab) p0
abbrev kP:Type:=ABW×Unit
def Sx(p0:ABh)(p1:Int):Option kP:=
 cond (decide (p0.1<p1))
  (some (((-1),()),()))
 (cond (decide (p0.1>p1))
  (some ((1,()),()))
 (some ((0,()),())))
abbrev BU:Type:=AEg×Unit
abbrev B7:Type:=AAZ→Int→Int→Int→Int→Option BU
def Cs(R3:B7)(t0:AAZ)(t1 t8 t9 t10:Int):Option BU:=
 cond (decide (t9<t10))
  (let x2:Int:=AU ((IntKind.wrap .u64 (AU (t9+t10))).fdiv (2^1))
  if(0:Int)≤x2∧x2<(t0.length:Int)then(
  (Sx ((t0.getD (x2.toNat) (0,0,false,[],())).1,(t0.getD (x2.toNat) (0,0,false,[],())).2.1,(t0.getD (x2.toNat) (0,0,false,[],())).2.2.1,(t0.getD (x2.toNat) (0,0,false,[],())).2.2.2.1,()) t1).bind fun u3=>
  cond (decide (u3.1.1<0))
   (R3 t0 t1 t8 (AU (x2+1)) t10)
  (R3 t0 t1 t8 t9 x2))else none)
 (cond (decide (t9<t8))
  (if(0:Int)≤t9∧t9<(t0.length:Int)then(
  (Sx ((t0.getD (t9.toNat) (0,0,false,[],())).1,(t0.getD (t9.toNat) (0,0,false,[],())).2.1,(t0.getD (t9.toNat) (0,0,false,[],())).2.2.1,(t0.getD (t9.toNat) (0,0,false,[],())).2.2.2.1,()) t1).bind fun u4=>
  some (((t9,u4.1.1==0,()),()),()))else none)
 (some (((t9,false,()),()),())))
def A3:Nat→B7
 |0=>fun _ _ _ _ _=>none
 |n+1=>Cs (A3 n)
def Cr(R3:B7)(p0:AAZ)(p1:Int):Option BU:=
 R3 p0 p1 (p0.length:Int) 0 (p0.length:Int)
def CF(p0:AAZ)(p1:Int):Option BU:=Cr (A3 Ab) p0 p1
abbrev oF:Type:=AEg×Unit
def SJ(p0:AAZ)(p1:Int):Option oF:=
 (CF p0 p1).bind fun u1=>
 some (((u1.1.1.1,u1.1.1.2.1,()),()),())
abbrev M9:Type:=AEm×Unit
def Ga(p0:ABa)(p1:Int):Option M9:=
 (FE (p0.1,p0.2.1,p0.2.2.1,())).bind fun u1=>
 cond (!u1.1.1)
  (some ((((0,0,false,[],()),false,()),()),()))
 ((SJ p0.1 p1).bind fun u2=>
 cond (!u2.1.1.2.1)
  (some ((((0,0,false,[],()),false,()),()),()))
 (if(0:Int)≤u2.1.1.1∧u2.1.1.1<(p0.1.length:Int)then(
 some (((((p0.1.getD (u2.1.1.1.toNat) (0,0,false,[],())).1,(p0.1.getD (u2.1.1.1.toNat) (0,0,false,[],())).2.1,(p0.1.getD (u2.1.1.1.toNat) (0,0,false,[],())).2.2.1,(p0.1.getD (u2.1.1.1.toNat) (0,0,false,[],())).2.2.2.1,()),true,()),()),()))else none))
abbrev Nx:Type:=ABW×Unit
abbrev Ql:Type:=ABX→Int→Int→Int→ABX→Option Nx
def TG(R2:Ql)(t6:ABX)(t7 t8 AM:Int)(AE:ABX):Option Nx:=
 cond (decide (t8<t7))
  (if(0:Int)≤t8∧t8<(t6.length:Int)then(
  cond (!((t6.getD (t8.toNat) ([],[],false,())).2.2.1))
   (some ((t8,()),()))
  (R2 t6 t7 (AU (t8+1)) AM AE))else none)
 (some (((AE.length:Int),()),()))
def JZ:Nat→Ql
 |0=>fun _ _ _ _ _=>none
 |n+1=>TG (JZ n)
def TW(R2:Ql)(p0:ABb):Option Nx:=
 R2 p0.2.1 (p0.2.1.length:Int) 0 p0.1 p0.2.1
def Qb(p0:ABb):Option Nx:=TW (JZ Ab) p0
abbrev NZ:Type:=ABW×Unit
abbrev Xo:Type:=Int→AAj→Int→Int→Option NZ
def Yh(R2:Xo)(t1:Int)(t8:AAj)(t9 t10:Int):Option NZ:=
 cond (decide (t10<t9))
  (if(0:Int)≤t10∧t10<(t8.length:Int)then(
  cond (((t8.getD (t10.toNat) (0,[],())).1)==t1)
   ((Qb ((t8.getD (t10.toNat) (0,[],())).1,(t8.getD (t10.toNat) (0,[],())).2.1,())).bind fun u3=>
   some ((u3.1.1,()),()))
  (R2 t1 t8 t9 (AU (t10+1))))else none)
 (some ((0,()),()))
def Oc:Nat→Xo
 |0=>fun _ _ _ _=>none
 |n+1=>Yh (Oc n)
def Yt(R2:Xo)(p0:ABV)(p1:Int):Option NZ:=
 R2 p1 p0.2.2.2.2.2.2.1 (p0.2.2.2.2.2.2.1.length:Int) 0
def RW(p0:ABV)(p1:Int):Option NZ:=Yt (Oc Ab) p0 p1
abbrev SZ:Type:=ABc×ABd
abbrev VY:Type:=ABf→Int→Int→List Int→Option SZ
def XN(R3:VY)(t7:ABf)(t8 t9:Int)(b0:AAF):Option SZ:=
 cond (decide (t9<t8))
  (if(0:Int)≤t9∧t9<(t7.length:Int)then(
  if b0.length+1≤DF then(
  R3 t7 t8 (AU (t9+1)) (b0++[((t7.getD (t9.toNat) (0,false,0,0,false,[],())).1)]))else none)else none)
 (some (((),()),(b0,())))
def NH:Nat→VY
 |0=>fun _ _ _ _=>none
 |n+1=>XN (NH n)
def X1(R3:VY)(p0:ABf):Option SZ:=
 R3 p0 (p0.length:Int) 0 []
def PN(p0:ABf):Option SZ:=X1 (NH Ab) p0
abbrev od:Type:=ABU×Unit
def We(p0:Int)(p1:ABi):Option od:=
 (FC p0).bind fun u1=>
 cond ((decide (u1.1.1<p1.1)))
  (some ((true,()),()))
 (cond (u1.1.1==p1.1)
  ((Tj p0).bind fun u3=>
  some (((decide (u3.1.1<p1.2.1)),()),()))
 (some ((false,()),())))
abbrev fu:Type:=ABc×AJF
def FB(p1:AEn)(AM AE:Int)(b1:ACk):Option fu:=
 if b1.length+1≤DF then(
 some (((()),()),((AM,AE,(),()),(),(b1++[(p1.1,p1.2.1,p1.2.2.1,())]),())))else none
abbrev Ya:Type:=ABc×ABd
abbrev bL:Type:=List Int→List Int→Int→Int→List Int→Option Ya
def cI(R5:bL)(t2 t22:AAF)(t23 t24:Int)(b0:AAF):Option Ya:=
 cond (decide (t24<t23))
  (if(0:Int)≤t24∧t24<(t22.length:Int)then(
  let x3:Int:=(t22.getD (t24.toNat) 0)
  (Bq t2 x3).bind fun u4=>
  cond (!u4.1.1)
   (if b0.length+1≤DF then(
   R5 t2 t22 t23 (AU (t24+1)) (b0++[x3]))else none)
  (R5 t2 t22 t23 (AU (t24+1)) b0))else none)
 (some (((),()),(b0,())))
def S2:Nat→bL
 |0=>fun _ _ _ _ _=>none
 |n+1=>cI (S2 n)
def cJ(R5:bL)(p0:ABA)(p1 p2:AAF):Option Ya:=
 (Dy (p0.1,p0.2.1,()) p1).bind fun u1=>
 cond (!u1.1.1)
  (some (((),()),([],())))
 ((Dy (p0.1,p0.2.1,()) p2).bind fun u2=>
 cond (!u2.1.1)
  (some (((),()),([],())))
 (R5 p2 p1 (p1.length:Int) 0 []))
def eS(p0:ABA)(p1 p2:AAF):Option Ya:=cJ (S2 Ab) p0 p1 p2
abbrev qX:Type:=ABU×Unit
def HD(p0:ABA)(p1 p2:AAF):Option qX:=
 (Dy (p0.1,p0.2.1,()) p2).bind fun u1=>
 cond (!u1.1.1)
  (some ((false,()),()))
 ((Gn (p0.1,p0.2.1,()) p1).bind fun u2=>
 cond (!u2.1.1)
  (some ((false,()),()))
 ((NM p2 p1).bind fun u3=>
 cond (((u3.2.1.length:Int) !=(p2.length:Int)))
  (some ((false,()),()))
 ((eS (p0.1,p0.2.1,()) p1 p2).bind fun u6=>
 (Gn (p0.1,p0.2.1,()) u6.2.1).bind fun u7=>
 some ((!u7.1.1,()),()))))
abbrev q7:Type:=AFf×Unit
def RF(p0 p1:ABh):Option q7:=
 cond ((decide (p1.2.1>p0.2.1)))
  (some (((p1.1,p1.2.1,p1.2.2.1,p1.2.2.2.1,()),()),()))
 (some (((p0.1,p0.2.1,p0.2.2.1,p0.2.2.2.1,()),()),()))
abbrev UX:Type:=AEm×Unit
abbrev Xd:Type:=List Int→Int→Bool→ABf→Int→Int→Int→Int→Bool→List UInt8→Int→Int→Bool→List UInt8→Option UX
def Yn(R3:Xd)(t1:AAF)(t2:Int)(t9:Bool)(t13:ABf)(t14 t15 AM AE:Int)(Ac:Bool)(DN:ABY)(BI Az:Int)(DK:Bool)(G4:ABY):Option UX:=
 cond (decide (t15<t14))
  (if(0:Int)≤t15∧t15<(t13.length:Int)then(
  cond (!((t13.getD (t15.toNat) (0,false,0,0,false,[],())).2.1))
   (R3 t1 t2 t9 t13 t14 (AU (t15+1)) AM AE Ac DN BI Az DK G4)
  ((Bq t1 ((t13.getD (t15.toNat) (0,false,0,0,false,[],())).1)).bind fun u3=>
  cond (!u3.1.1)
   (R3 t1 t2 t9 t13 t14 (AU (t15+1)) AM AE Ac DN BI Az DK G4)
  ((Ml ((t13.getD (t15.toNat) (0,false,0,0,false,[],())).2.2.1,(t13.getD (t15.toNat) (0,false,0,0,false,[],())).2.2.2.1,(t13.getD (t15.toNat) (0,false,0,0,false,[],())).2.2.2.2.1,(t13.getD (t15.toNat) (0,false,0,0,false,[],())).2.2.2.2.2.1,())).bind fun u4=>
  cond (!u4.1.1)
   (R3 t1 t2 t9 t13 t14 (AU (t15+1)) AM AE Ac DN BI Az DK G4)
  (cond (((t13.getD (t15.toNat) (0,false,0,0,false,[],())).2.2.1) !=t2)
   (R3 t1 t2 t9 t13 t14 (AU (t15+1)) AM AE Ac DN BI Az DK G4)
  (cond (!t9)
   ((RF ((t13.getD (t15.toNat) (0,false,0,0,false,[],())).2.2.1,(t13.getD (t15.toNat) (0,false,0,0,false,[],())).2.2.2.1,(t13.getD (t15.toNat) (0,false,0,0,false,[],())).2.2.2.2.1,(t13.getD (t15.toNat) (0,false,0,0,false,[],())).2.2.2.2.2.1,()) ((t13.getD (t15.toNat) (0,false,0,0,false,[],())).2.2.1,(t13.getD (t15.toNat) (0,false,0,0,false,[],())).2.2.2.1,(t13.getD (t15.toNat) (0,false,0,0,false,[],())).2.2.2.2.1,(t13.getD (t15.toNat) (0,false,0,0,false,[],())).2.2.2.2.2.1,())).bind fun u6=>
   R3 t1 t2 true t13 t14 (AU (t15+1)) AM AE Ac DN u6.1.1.1 u6.1.1.2.1 u6.1.1.2.2.1 u6.1.1.2.2.2.1)
  ((RF (BI,Az,DK,G4,()) ((t13.getD (t15.toNat) (0,false,0,0,false,[],())).2.2.1,(t13.getD (t15.toNat) (0,false,0,0,false,[],())).2.2.2.1,(t13.getD (t15.toNat) (0,false,0,0,false,[],())).2.2.2.2.1,(t13.getD (t15.toNat) (0,false,0,0,false,[],())).2.2.2.2.2.1,())).bind fun u7=>
  R3 t1 t2 true t13 t14 (AU (t15+1)) AM AE Ac DN u7.1.1.1 u7.1.1.2.1 u7.1.1.2.2.1 u7.1.1.2.2.2.1))))))else none)
 (some ((((BI,Az,DK,G4,()),t9,()),()),()))
def Oq:Nat→Xd
 |0=>fun _ _ _ _ _ _ _ _ _ _ _ _ _ _=>none
 |n+1=>Yn (Oq n)
def YP(R3:Xd)(p0:ABf)(p1:AAF)(p2:Int):Option UX:=
 R3 p1 p2 false p0 (p0.length:Int) 0 0 0 false [] 0 0 false []
def Ye(p0:ABf)(p1:AAF)(p2:Int):Option UX:=YP (Oq Ab) p0 p1 p2
abbrev eo:Type:=ABc×AJF
def C2(p1:ABf)(p2:AAF)(AM AE:Int)(b1:ACk):Option eo:=
 (Dn AM AE).bind fun u1=>
 (Ye p1 p2 u1.1.1.1).bind fun u2=>
 cond (!u2.1.1.2.1)
  ((FB (3,u1.1.1.1,[],()) AM AE b1).bind fun u3=>
  some (((()),()),((u3.2.1.1,AU (u3.2.1.2.1+1),(),()),(),u3.2.2.2.1,())))
 (cond (u2.1.1.1.2.2.1)
  ((FB (2,u1.1.1.1,[],()) AM AE b1).bind fun u4=>
  some (((()),()),((u4.2.1.1,AU (u4.2.1.2.1+1),(),()),(),u4.2.2.2.1,())))
 ((FB (1,u1.1.1.1,u2.1.1.1.2.2.2.1,()) AM AE b1).bind fun u5=>
 some (((()),()),((u5.2.1.1,AU (u5.2.1.2.1+1),(),()),(),u5.2.2.2.1,()))))
abbrev Ke:Type:=(AJU×Unit)×AEk
def KV(p0:ABA)(p1:ABZ)(p2:Int)(p3:ABi)(p4:ABf):Option Ke:=
 (LB (p0.1,p0.2.1,()) (p1.1,p1.2.1,())).bind fun u1=>
 cond (!u1.1.1)
  (some ((((0,0,(),()),1,()),()),([],())))
 ((UW (p3.1,p3.2.1,p3.2.2.1,())).bind fun u2=>
 cond (!u2.1.1)
  (some ((((0,0,(),()),1,()),()),([],())))
 ((PN p4).bind fun u3=>
 (Dy (p0.1,p0.2.1,()) u3.2.1).bind fun u4=>
 cond (!u4.1.1)
  (some ((((0,0,(),()),1,()),()),([],())))
 ((NI (p3.1,p3.2.1,p3.2.2.1,())).bind fun u5=>
 cond ((decide (p3.1>(p1.1.length:Int))))
  (some ((((u5.1.1.1,u5.1.1.2.1,(),()),2,()),()),(u5.2.1,())))
 (cond ((p3.2.2.1.length:Int)==120)
  (some ((((u5.1.1.1,u5.1.1.2.1,(),()),2,()),()),(u5.2.1,())))
 (cond (decide (p1.2.1>0))
  ((We p1.2.1 (p3.1,p3.2.1,p3.2.2.1,())).bind fun u8=>
  cond (!u8.1.1)
   ((FB (5,p1.2.1,[],()) u5.1.1.1 u5.1.1.2.1 u5.2.1).bind fun u9=>
   (FC p1.2.1).bind fun D5=>
   (Tj p1.2.1).bind fun MZ=>
   some ((((D5.1.1,AU (MZ.1.1+1),(),()),0,()),()),(u9.2.2.2.1,())))
  (if(0:Int)≤AU (p3.1-1)∧AU (p3.1-1)<(p1.1.length:Int)then(
  (PN p4).bind fun D7=>
  (NM D7.2.1 ((p1.1.getD ((AU (p3.1-1)).toNat) ([],false,0,())).1)).bind fun Mi=>
  cond (((p1.1.getD ((AU (p3.1-1)).toNat) ([],false,0,())).2.1))
   (cond ((decide (p3.2.1>((p1.1.getD ((AU (p3.1-1)).toNat) ([],false,0,())).2.2.1))))
    ((FB (4,AU (p3.1+1),[],()) u5.1.1.1 u5.1.1.2.1 u5.2.1).bind fun X4=>
    some ((((AU (p3.1+1),1,(),()),0,()),()),(X4.2.2.2.1,())))
   (cond (!((p1.1.getD ((AU (p3.1-1)).toNat) ([],false,0,())).2.1))
    (cond (decide (p3.2.1>p2))
     (some ((((u5.1.1.1,u5.1.1.2.1,(),()),2,()),()),(u5.2.1,())))
    (cond (decide (p3.2.1>60))
     (some ((((u5.1.1.1,u5.1.1.2.1,(),()),2,()),()),(u5.2.1,())))
    ((HD (p0.1,p0.2.1,()) ((p1.1.getD ((AU (p3.1-1)).toNat) ([],false,0,())).1) Mi.2.1).bind fun eY=>
    cond (!eY.1.1)
     (some ((((u5.1.1.1,u5.1.1.2.1,(),()),3,()),()),(u5.2.1,())))
    ((C2 p4 Mi.2.1 u5.1.1.1 u5.1.1.2.1 u5.2.1).bind fun MU=>
    some ((((MU.2.1.1,MU.2.1.2.1,(),()),0,()),()),(MU.2.2.2.1,()))))))
   (cond (decide (p3.2.1>60))
    (some ((((u5.1.1.1,u5.1.1.2.1,(),()),2,()),()),(u5.2.1,())))
   ((HD (p0.1,p0.2.1,()) ((p1.1.getD ((AU (p3.1-1)).toNat) ([],false,0,())).1) Mi.2.1).bind fun lX=>
   cond (!lX.1.1)
    (some ((((u5.1.1.1,u5.1.1.2.1,(),()),3,()),()),(u5.2.1,())))
   ((C2 p4 Mi.2.1 u5.1.1.1 u5.1.1.2.1 u5.2.1).bind fun zQ=>
   some ((((zQ.2.1.1,zQ.2.1.2.1,(),()),0,()),()),(zQ.2.2.2.1,())))))))
  (cond (!((p1.1.getD ((AU (p3.1-1)).toNat) ([],false,0,())).2.1))
   (cond (decide (p3.2.1>p2))
    (some ((((u5.1.1.1,u5.1.1.2.1,(),()),2,()),()),(u5.2.1,())))
   (cond (decide (p3.2.1>60))
    (some ((((u5.1.1.1,u5.1.1.2.1,(),()),2,()),()),(u5.2.1,())))
   ((HD (p0.1,p0.2.1,()) ((p1.1.getD ((AU (p3.1-1)).toNat) ([],false,0,())).1) Mi.2.1).bind fun Ip=>
   cond (!Ip.1.1)
    (some ((((u5.1.1.1,u5.1.1.2.1,(),()),3,()),()),(u5.2.1,())))
   ((C2 p4 Mi.2.1 u5.1.1.1 u5.1.1.2.1 u5.2.1).bind fun aV=>
   some ((((aV.2.1.1,aV.2.1.2.1,(),()),0,()),()),(aV.2.2.2.1,()))))))
  (cond (decide (p3.2.1>60))
   (some ((((u5.1.1.1,u5.1.1.2.1,(),()),2,()),()),(u5.2.1,())))
  ((HD (p0.1,p0.2.1,()) ((p1.1.getD ((AU (p3.1-1)).toNat) ([],false,0,())).1) Mi.2.1).bind fun fK=>
  cond (!fK.1.1)
   (some ((((u5.1.1.1,u5.1.1.2.1,(),()),3,()),()),(u5.2.1,())))
  ((C2 p4 Mi.2.1 u5.1.1.1 u5.1.1.2.1 u5.2.1).bind fun ec=>
  some ((((ec.2.1.1,ec.2.1.2.1,(),()),0,()),()),(ec.2.2.2.1,())))))))else none))
 (if(0:Int)≤AU (p3.1-1)∧AU (p3.1-1)<(p1.1.length:Int)then(
 (PN p4).bind fun O4=>
 (NM O4.2.1 ((p1.1.getD ((AU (p3.1-1)).toNat) ([],false,0,())).1)).bind fun YO=>
 cond (((p1.1.getD ((AU (p3.1-1)).toNat) ([],false,0,())).2.1))
  (cond ((decide (p3.2.1>((p1.1.getD ((AU (p3.1-1)).toNat) ([],false,0,())).2.2.1))))
   ((FB (4,AU (p3.1+1),[],()) u5.1.1.1 u5.1.1.2.1 u5.2.1).bind fun Zq=>
   some ((((AU (p3.1+1),1,(),()),0,()),()),(Zq.2.2.2.1,())))
  (cond (!((p1.1.getD ((AU (p3.1-1)).toNat) ([],false,0,())).2.1))
   (cond (decide (p3.2.1>p2))
    (some ((((u5.1.1.1,u5.1.1.2.1,(),()),2,()),()),(u5.2.1,())))
   (cond (decide (p3.2.1>60))
    (some ((((u5.1.1.1,u5.1.1.2.1,(),()),2,()),()),(u5.2.1,())))
   ((HD (p0.1,p0.2.1,()) ((p1.1.getD ((AU (p3.1-1)).toNat) ([],false,0,())).1) YO.2.1).bind fun u35=>
   cond (!u35.1.1)
    (some ((((u5.1.1.1,u5.1.1.2.1,(),()),3,()),()),(u5.2.1,())))
   ((C2 p4 YO.2.1 u5.1.1.1 u5.1.1.2.1 u5.2.1).bind fun u36=>
   some ((((u36.2.1.1,u36.2.1.2.1,(),()),0,()),()),(u36.2.2.2.1,()))))))
  (cond (decide (p3.2.1>60))
   (some ((((u5.1.1.1,u5.1.1.2.1,(),()),2,()),()),(u5.2.1,())))
  ((HD (p0.1,p0.2.1,()) ((p1.1.getD ((AU (p3.1-1)).toNat) ([],false,0,())).1) YO.2.1).bind fun lx=>
  cond (!lx.1.1)
   (some ((((u5.1.1.1,u5.1.1.2.1,(),()),3,()),()),(u5.2.1,())))
  ((C2 p4 YO.2.1 u5.1.1.1 u5.1.1.2.1 u5.2.1).bind fun u38=>
  some ((((u38.2.1.1,u38.2.1.2.1,(),()),0,()),()),(u38.2.2.2.1,())))))))
 (cond (!((p1.1.getD ((AU (p3.1-1)).toNat) ([],false,0,())).2.1))
  (cond (decide (p3.2.1>p2))
   (some ((((u5.1.1.1,u5.1.1.2.1,(),()),2,()),()),(u5.2.1,())))
  (cond (decide (p3.2.1>60))
   (some ((((u5.1.1.1,u5.1.1.2.1,(),()),2,()),()),(u5.2.1,())))
  ((HD (p0.1,p0.2.1,()) ((p1.1.getD ((AU (p3.1-1)).toNat) ([],false,0,())).1) YO.2.1).bind fun u40=>
  cond (!u40.1.1)
   (some ((((u5.1.1.1,u5.1.1.2.1,(),()),3,()),()),(u5.2.1,())))
  ((C2 p4 YO.2.1 u5.1.1.1 u5.1.1.2.1 u5.2.1).bind fun u41=>
  some ((((u41.2.1.1,u41.2.1.2.1,(),()),0,()),()),(u41.2.2.2.1,()))))))
 (cond (decide (p3.2.1>60))
  (some ((((u5.1.1.1,u5.1.1.2.1,(),()),2,()),()),(u5.2.1,())))
 ((HD (p0.1,p0.2.1,()) ((p1.1.getD ((AU (p3.1-1)).toNat) ([],false,0,())).1) YO.2.1).bind fun u42=>
 cond (!u42.1.1)
  (some ((((u5.1.1.1,u5.1.1.2.1,(),()),3,()),()),(u5.2.1,())))
 ((C2 p4 YO.2.1 u5.1.1.1 u5.1.1.2.1 u5.2.1).bind fun u43=>
 some ((((u43.2.1.1,u43.2.1.2.1,(),()),0,()),()),(u43.2.2.2.1,())))))))else none))))))
abbrev Kt:Type:=ABW×ADw
abbrev Qw:Type:=Int→Int→Int→Int→Int→Int→Bool→List Int→AAT→List Int→AAP→AAj→AAo→AAs→AAa→Int→Int→ACk→ABf→List Int→Option Kt
def Nj(R7:Qw)(t1 t8 t44 t45 AE Aa:Int)(AN:Bool)(b1:AAF)(b2:AAT)(b3:AAF)(b4:AAP)(b5:AAj)(b6:AAo)(b7:AAs)(b8:AAa)(hU Dp:Int)(dt:ACk)(MV:ABf)(Fl:AAF):Option Kt:=
 cond (decide (t45<t44))
  (if(0:Int)≤t45∧t45<(Fl.length:Int)then(
  let x8:Int:=(Fl.getD (t45.toNat) 0)
  cond ((decide (x8<(b2.length:Int))))
   ((C3 (b1,AE,b2,b3,b4,Aa,b5,b6,b7,b8,AN,()) x8).bind fun D5=>
   cond (!D5.1.1)
    (if(0:Int)≤x8∧x8<(b2.length:Int)then(
    (Ga ((b2.getD (x8.toNat) ([],[],0,())).1,(b2.getD (x8.toNat) ([],[],0,())).2.1,(b2.getD (x8.toNat) ([],[],0,())).2.2.1,()) t8).bind fun MZ=>
    if MV.length+1≤DF then(
    R7 t1 t8 t44 (AU (t45+1)) AE Aa AN b1 b2 b3 b4 b5 b6 b7 b8 hU Dp dt (MV++[(x8,MZ.1.1.2.1,MZ.1.1.1.1,MZ.1.1.1.2.1,MZ.1.1.1.2.2.1,MZ.1.1.1.2.2.2.1,())]) Fl)else none)else none)
   (R7 t1 t8 t44 (AU (t45+1)) AE Aa AN b1 b2 b3 b4 b5 b6 b7 b8 hU Dp dt MV Fl))
  (R7 t1 t8 t44 (AU (t45+1)) AE Aa AN b1 b2 b3 b4 b5 b6 b7 b8 hU Dp dt MV Fl))else none)
 ((RW (b1,AE,b2,b3,b4,Aa,b5,b6,b7,b8,AN,()) hU).bind fun Mi=>
 (KV (b1,AE,()) (b4,Aa,()) Mi.1.1 (hU,Dp,dt,()) MV).bind fun Kc=>
 cond (Kc.1.1.2.1 !=0)
  (some ((5,()),(((),AE,(),(),(),Aa,(),(),(),(),AN,()),b1,b2,b3,b4,b5,b6,b7,b8,())))
 (if(0:Int)≤t1∧t1<(b7.length:Int)then(
 some ((0,()),(((),AE,(),(),(),Aa,(),(),(),(),AN,()),b1,b2,b3,b4,b5,b6,(b7.set (t1.toNat) (Kc.1.1.1.1,Kc.1.1.1.2.1,Kc.2.1,())),b8,())))else none))
def DD:Nat→Qw
 |0=>fun _ _ _ _ _ _ _ _ _ _ _ _ _ _ _ _ _ _ _ _=>none
 |n+1=>Nj (DD n)
def Ni(R7:Qw)(p1 p2 AE Aa:Int)(AN:Bool)(b1:AAF)(b2:AAT)(b3:AAF)(b4:AAP)(b5:AAj)(b6:AAo)(b7:AAs)(b8:AAa):Option Kt:=
 (A6 p1 0 (AU ((b7.length:Int)-1))).bind fun u2=>
 cond (!u2.1.1)
  (some ((2,()),(((),AE,(),(),(),Aa,(),(),(),(),AN,()),b1,b2,b3,b4,b5,b6,b7,b8,())))
 (if(0:Int)≤p1∧p1<(b7.length:Int)then(
 (Dn ((b7.getD (p1.toNat) (0,0,[],())).1) ((b7.getD (p1.toNat) (0,0,[],())).2.1)).bind fun u5=>
 (Hs p2).bind fun u6=>
 R7 p1 u5.1.1.1 (u6.2.1.length:Int) 0 AE Aa AN b1 b2 b3 b4 b5 b6 b7 b8 ((b7.getD (p1.toNat) (0,0,[],())).1) ((b7.getD (p1.toNat) (0,0,[],())).2.1) ((b7.getD (p1.toNat) (0,0,[],())).2.2.1) [] u6.2.1)else none)
def ND(p1 p2 AE Aa:Int)(AN:Bool)(b1:AAF)(b2:AAT)(b3:AAF)(b4:AAP)(b5:AAj)(b6:AAo)(b7:AAs)(b8:AAa):Option Kt:=Ni (DD Ab) p1 p2 AE Aa AN b1 b2 b3 b4 b5 b6 b7 b8
abbrev ZU:Type:=ABW×Unit
def Uz(p0:AAF)(p1 p2:Int):Option ZU:=
 let x1:Int:=AU ((p0.length:Int).tdiv 4)
 cond ((decide ((AU (p1+x1))>p2)))
  (some ((p2,()),()))
 (some ((AU (p1+x1),()),()))
abbrev Wm:Type:=ABU×Unit
abbrev ZM:Type:=List Int→Int→Int→Int→Option Wm
def T6(R2:ZM)(t0:AAF)(t1 t2 t7:Int):Option Wm:=
 cond ((decide (t7<(t0.length:Int))))
  (if(0:Int)≤t7∧t7<(t0.length:Int)then(
  (CK (t0.getD (t7.toNat) 0) t1 t2).bind fun u3=>
  cond (!u3.1.1)
   (some ((false,()),()))
  (cond (decide (t7>0))
   (if(0:Int)≤AU (t7-1)∧AU (t7-1)<(t0.length:Int)then(
   if(0:Int)≤t7∧t7<(t0.length:Int)then(
   cond (decide ((t0.getD ((AU (t7-1)).toNat) 0)≥(t0.getD (t7.toNat) 0)))
    (some ((false,()),()))
   (R2 t0 t1 t2 (AU (t7+1))))else none)else none)
  (R2 t0 t1 t2 (AU (t7+1)))))else none)
 (some ((true,()),()))
def Nc:Nat→ZM
 |0=>fun _ _ _ _=>none
 |n+1=>T6 (Nc n)
def aK(R2:ZM)(p0:AAF)(p1 p2:Int):Option Wm:=
 R2 p0 p1 p2 0
def XC(p0:AAF)(p1 p2:Int):Option Wm:=aK (Nc Ab) p0 p1 p2
abbrev px:Type:=ABU×Unit
def Gv(p0:ABA)(p1:AAF):Option px:=
 (Ge (p0.1,p0.2.1,())).bind fun u1=>
 cond (u1.1.1)
  ((XC p1 0 (AU ((p0.1.length:Int)-1))).bind fun u3=>
  some ((u3.1.1,()),()))
 (some ((false,()),()))
abbrev UY:Type:=ABW×Unit
abbrev Xq:Type:=List Int→Int→Int→List Int→Int→List Bool→Option UY
def YN(R4:Xq)(t1:AAF)(t6 t7:Int)(AM:AAF)(AE:Int)(b1:List Bool):Option UY:=
 cond ((decide (t7<(t1.length:Int))))
  (if(0:Int)≤t7∧t7<(t1.length:Int)then(
  let x3:Int:=(t1.getD (t7.toNat) 0)
  if(0:Int)≤x3∧x3<(AM.length:Int)then(
  let x4:Int:=(AM.getD (x3.toNat) 0)
  if(0:Int)≤x4∧x4<(b1.length:Int)then(
  cond (!(b1.getD (x4.toNat) false))
   (if(0:Int)≤x4∧x4<(b1.length:Int)then(
   R4 t1 (AU (t6+1)) (AU (t7+1)) AM AE (b1.set (x4.toNat) true))else none)
  (R4 t1 t6 (AU (t7+1)) AM AE b1))else none)else none)else none)
 (some ((t6,()),()))
def OW:Nat→Xq
 |0=>fun _ _ _ _ _ _=>none
 |n+1=>YN (OW n)
def Yv(R4:Xq)(p0:ABA)(p1:AAF):Option UY:=
 R4 p1 0 0 p0.1 p0.2.1 (List.replicate 8 false)
def Uh(p0:ABA)(p1:AAF):Option UY:=Yv (OW Ab) p0 p1
abbrev jE:Type:=ABU×Unit
def Em(p0:ABA)(p1:AAF):Option jE:=
 (Gv (p0.1,p0.2.1,()) p1).bind fun u1=>
 cond (u1.1.1)
  ((Uh (p0.1,p0.2.1,()) p1).bind fun u2=>
  some (((decide (u2.1.1≥p0.2.1)),()),()))
 (some ((false,()),()))
abbrev jd:Type:=AEj×AEk
def Xh:Option jd:=
 some (((1,1,(),()),()),([],()))
abbrev mf:Type:=((ADi×Bool×Unit)×Unit)×ACf
def Hr(p0:ABA):Option mf:=
 (Ge (p0.1,p0.2.1,())).bind fun u1=>
 cond (!u1.1.1)
  (some (((((),0,(),(),(),0,(),(),(),(),false,()),false,()),()),([],[],[],[],[],[],[],[],())))
 (if 0+p0.1.length≤DF then(
 if(0:Int)≤(p0.1.length:Int)∧(p0.1.length:Int)≤(p0.1.length:Int)∧(p0.1.length:Int)≤(DF:Int)then(
 (Xh).bind fun u3=>
 (Xh).bind fun u4=>
 some (((((),p0.2.1,(),(),(),0,(),(),(),(),false,()),true,()),()),(p0.1,(List.replicate ((p0.1.length:Int).toNat) ([],[],0,())),[],[],[],[],[(u3.1.1.1,u3.1.1.2.1,u3.2.1,()),(u4.1.1.1,u4.1.1.2.1,u4.2.1,())],[],())))else none)else none)
abbrev PG:Type:=ABW×Unit
def FQ(p0 p1:Int):Option PG:=
 cond (decide (p0>p1))
  (some ((p0,()),()))
 (some ((p1,()),()))
abbrev Gf:Type:=ABU×Unit
abbrev ZJ:Type:=List Int→Int→Int→Option Gf
def UA(R2:ZJ)(t0:AAF)(t1 t5:Int):Option Gf:=
 cond ((decide (t5<(t0.length:Int))))
  (if(0:Int)≤t5∧t5<(t0.length:Int)then(
  cond ((t0.getD (t5.toNat) 0)==t1)
   (some ((true,()),()))
  (R2 t0 t1 (AU (t5+1))))else none)
 (some ((false,()),()))
def K3:Nat→ZJ
 |0=>fun _ _ _=>none
 |n+1=>UA (K3 n)
def Tn(R2:ZJ)(p0:AAF)(p1:Int):Option Gf:=
 R2 p0 p1 0
def Cv(p0:AAF)(p1:Int):Option Gf:=Tn (K3 Ab) p0 p1
abbrev WS:Type:=ABc×ABd
abbrev Zh:Type:=List Int→Int→Bool→Int→List Int→Option WS
def PT(R4:Zh)(t0:AAF)(t1:Int)(t6:Bool)(t7:Int)(b0:AAF):Option WS:=
 cond ((decide (t7<(t0.length:Int))))
  (cond (!t6)
   (if(0:Int)≤t7∧t7<(t0.length:Int)then(
   cond (decide ((t0.getD (t7.toNat) 0)>t1))
    (if b0.length+1≤DF then(
    if(0:Int)≤t7∧t7<(t0.length:Int)then(
    if(b0++[t1]).length+1≤DF then(
    R4 t0 t1 true (AU (t7+1)) ((b0++[t1])++[(t0.getD (t7.toNat) 0)]))else none)else none)else none)
   (if(0:Int)≤t7∧t7<(t0.length:Int)then(
   if b0.length+1≤DF then(
   R4 t0 t1 t6 (AU (t7+1)) (b0++[(t0.getD (t7.toNat) 0)]))else none)else none))else none)
  (if(0:Int)≤t7∧t7<(t0.length:Int)then(
  if b0.length+1≤DF then(
  R4 t0 t1 t6 (AU (t7+1)) (b0++[(t0.getD (t7.toNat) 0)]))else none)else none))
 (cond (!t6)
  (if b0.length+1≤DF then(
  some (((),()),(b0++[t1],())))else none)
 (some (((),()),(b0,()))))
def Ho:Nat→Zh
 |0=>fun _ _ _ _ _=>none
 |n+1=>PT (Ho n)
def T4(R4:Zh)(p0:AAF)(p1:Int):Option WS:=
 (Cv p0 p1).bind fun u1=>
 R4 p0 p1 u1.1.1 0 []
def IZ(p0:AAF)(p1:Int):Option WS:=T4 (Ho Ab) p0 p1
abbrev HM:Type:=ABc×AE8
abbrev Ps:Type:=Int→Int→List Int→Int→Int→List Int→Int→List Int→Option HM
def Sw(R4:Ps)(t6 t7:Int)(AM:AAF)(AE Ac:Int)(BI:AAF)(Az:Int)(b2:AAF):Option HM:=
 cond (decide (t7<t6))
  ((FQ (BI.length:Int) 1).bind fun u3=>
  (AJ u3.1.1 AM AE Ac).bind fun u4=>
  (IZ b2 u4.1.1).bind fun u5=>
  R4 t6 (AU (t7+1)) u4.2.1.1 u4.2.1.2.1 u4.2.1.2.2.1 BI Az u5.2.1)
 ((BF 20 AM AE Ac).bind fun u6=>
 cond (u6.1.1)
  ((CB [(-1),0,(BI.length:Int)] u6.2.1.1 u6.2.1.2.1 u6.2.1.2.2.1).bind fun u7=>
  if b2.length+1≤DF then(
  some (((),()),((u7.2.1.1,u7.2.1.2.1,u7.2.1.2.2.1,()),b2++[u7.1.1],())))else none)
 (some (((),()),((u6.2.1.1,u6.2.1.2.1,u6.2.1.2.2.1,()),b2,()))))
def Io:Nat→Ps
 |0=>fun _ _ _ _ _ _ _ _=>none
 |n+1=>Sw (Io n)
def SL(R4:Ps)(p1:ABA)(AM:AAF)(AE Ac:Int):Option HM:=
 (AJ (AU ((p1.1.length:Int)+2)) AM AE Ac).bind fun u2=>
 R4 u2.1.1 0 u2.2.1.1 u2.2.1.2.1 u2.2.1.2.2.1 p1.1 p1.2.1 []
def FH(p1:ABA)(AM:AAF)(AE Ac:Int):Option HM:=SL (Io Ab) p1 AM AE Ac
abbrev O6:Type:=ABc×AE8
abbrev Sc:Type:=Int→List Int→Int→Int→List Int→Int→List Int→Option O6
def VH(R3:Sc)(t6:Int)(AM:AAF)(AE Ac:Int)(BI:AAF)(Az:Int)(b2:AAF):Option O6:=
 cond ((decide (t6<(BI.length:Int))))
  ((Em (BI,Az,()) b2).bind fun u3=>
  cond (!u3.1.1)
   ((IZ b2 t6).bind fun u4=>
   R3 (AU (t6+1)) AM AE Ac BI Az u4.2.1)
  (some (((),()),((AM,AE,Ac,()),b2,()))))
 (some (((),()),((AM,AE,Ac,()),b2,())))
def Kl:Nat→Sc
 |0=>fun _ _ _ _ _ _ _=>none
 |n+1=>VH (Kl n)
def VD(R3:Sc)(p1:ABA)(AM:AAF)(AE Ac:Int):Option O6:=
 (FH (p1.1,p1.2.1,()) AM AE Ac).bind fun u1=>
 R3 0 u1.2.1.1 u1.2.1.2.1 u1.2.1.2.2.1 p1.1 p1.2.1 u1.2.2.1
def Hv(p1:ABA)(AM:AAF)(AE Ac:Int):Option O6:=VD (Kl Ab) p1 AM AE Ac
abbrev PY:Type:=ABW×Unit
abbrev Rw:Type:=List Int→Int→Int→Option PY
def VE(R5:Rw)(t0:AAF)(t3 t4:Int):Option PY:=
 cond ((decide (t4<(t0.length:Int))))
  (if(0:Int)≤t4∧t4<(t0.length:Int)then(
  let x3:Int:=(t0.getD (t4.toNat) 0)
  if x3<0 then none else(
  R5 t0 (bOr .i64 t3 (AU (1*2^(min x3.toNat 64)))) (AU (t4+1))))else none)
 (some ((t3,()),()))
def Kz:Nat→Rw
 |0=>fun _ _ _=>none
 |n+1=>VE (Kz n)
def Uo(R5:Rw)(p0:AAF):Option PY:=
 (XC p0 0 7).bind fun u1=>
 cond (!u1.1.1)
  (some (((-1),()),()))
 (R5 p0 0 0)
def MB(p0:AAF):Option PY:=Uo (Kz Ab) p0
abbrev PM:Type:=ABW×Unit
abbrev SK:Type:=Int→AAP→Int→Option PM
def Of(R2:SK)(t3:Int)(AM:AAP)(AE:Int):Option PM:=
 cond ((decide (t3<(AM.length:Int))))
  (if(0:Int)≤t3∧t3<(AM.length:Int)then(
  cond (!((AM.getD (t3.toNat) ([],false,0,())).2.1))
   (some ((AU (t3+1),()),()))
  (R2 (AU (t3+1)) AM AE))else none)
 (some ((0,()),()))
def IF:Nat→SK
 |0=>fun _ _ _=>none
 |n+1=>Of (IF n)
def VK(R2:SK)(p0:ABZ):Option PM:=
 R2 0 p0.1 p0.2.1
def JY(p0:ABZ):Option PM:=VK (IF Ab) p0
abbrev HC:Type:=ABc×ABd
def Cb(p0:ABZ)(p1:Int):Option HC:=
 (CK p1 1 (p0.1.length:Int)).bind fun u1=>
 cond (!u1.1.1)
  (some (((),()),([],())))
 (if(0:Int)≤AU (p1-1)∧AU (p1-1)<(p0.1.length:Int)then(
 if 0+((p0.1.getD ((AU (p1-1)).toNat) ([],false,0,())).1).length≤DF then(
 some (((),()),(((p0.1.getD ((AU (p1-1)).toNat) ([],false,0,())).1),())))else none)else none)
abbrev M0:Type:=AEo×ACp
abbrev OE:Type:=Int→Int→Int→List Int→Int→Int→List Int→Int→AAT→List Int→AAP→Int→AAj→AAo→AAs→AAa→Bool→Int→Int→Int→Int→List UInt8→Int→Int→List Int→AAZ→Bool→List AAF→Option M0
def RE(R16:OE)(t7 t8 t9:Int)(AM:AAF)(AE Ac:Int)(BI:AAF)(Az:Int)(DK:AAT)(G4:AAF)(M6:AAP)(D8:Int)(AMd:AAj)(APa:AAo)(AMk:AAs)(ANK:AAa)(E9:Bool)(Iy K_ AM2 APE:Int)(Pk:ABY)(gF dO:Int)(APi:AAF)(AP8:AAZ)(APX:Bool)(zq:List AAF):Option M0:=
 cond ((decide (t9<(zq.length:Int))))
  (if(0:Int)≤t9∧t9<(zq.length:Int)then(
  (Em (BI,Az,()) (zq.getD (t9.toNat) [])).bind fun zQ=>
  cond (!zQ.1.1)
   ((BF 3 AM AE Ac).bind fun Zk=>
   cond (!Zk.1.1)
    (R16 t7 (AU (t9+1)) (AU (t9+1)) Zk.2.1.1 Zk.2.1.2.1 Zk.2.1.2.2.1 BI Az DK G4 M6 D8 AMd APa AMk ANK E9 Iy K_ AM2 APE Pk gF dO APi AP8 APX zq)
   (R16 t7 t8 (AU (t9+1)) Zk.2.1.1 Zk.2.1.2.1 Zk.2.1.2.2.1 BI Az DK G4 M6 D8 AMd APa AMk ANK E9 Iy K_ AM2 APE Pk gF dO APi AP8 APX zq))
  (R16 t7 t8 (AU (t9+1)) AM AE Ac BI Az DK G4 M6 D8 AMd APa AMk ANK E9 Iy K_ AM2 APE Pk gF dO APi AP8 APX zq))else none)
 (some (((11,0,t8,t7,[],()),()),((AM,AE,Ac,()),())))
def GL:Nat→OE
 |0=>fun _ _ _ _ _ _ _ _ _ _ _ _ _ _ _ _ _ _ _ _ _ _ _ _ _ _ _ _=>none
 |n+1=>RE (GL n)
def Sh(R16:OE)(p1:ABV)(AM:AAF)(AE Ac:Int):Option M0:=
 cond ((p1.2.2.2.2.2.2.2.1.length:Int)==0)
  (some (((8,0,0,0,[],()),()),((AM,AE,Ac,()),())))
 (if(0:Int)≤(0:Int)∧(0:Int)<(p1.2.2.2.2.2.2.2.1.length:Int)then(
 (Cb (p1.2.2.2.2.1,p1.2.2.2.2.2.1,()) ((p1.2.2.2.2.2.2.2.1.getD 0 (0,0,[],[],false,[],())).2.1)).bind fun u3=>
 (AJ (u3.2.1.length:Int) AM AE Ac).bind fun u5=>
 if(0:Int)≤u5.1.1∧u5.1.1<(u3.2.1.length:Int)then(
 let x6:Int:=(u3.2.1.getD (u5.1.1.toNat) 0)
 cond (!((p1.2.2.2.2.2.2.2.1.getD 0 (0,0,[],[],false,[],())).2.2.2.2.1))
  ((BF 4 u5.2.1.1 u5.2.1.2.1 u5.2.1.2.2.1).bind fun u8=>
  cond (u8.1.1)
   (some (((10,0,0,0,[],()),()),((u8.2.1.1,u8.2.1.2.1,u8.2.1.2.2.1,()),())))
  (cond (!((p1.2.2.2.2.2.2.2.1.getD 0 (0,0,[],[],false,[],())).2.2.2.2.1))
   (some (((9,x6,0,0,[],()),()),((u8.2.1.1,u8.2.1.2.1,u8.2.1.2.2.1,()),())))
  ((BF 6 u8.2.1.1 u8.2.1.2.1 u8.2.1.2.2.1).bind fun D5=>
  cond (D5.1.1)
   (some (((12,0,0,0,[],()),()),((D5.2.1.1,D5.2.1.2.1,D5.2.1.2.2.1,()),())))
  ((BF 3 D5.2.1.1 D5.2.1.2.1 D5.2.1.2.2.1).bind fun MZ=>
  cond (MZ.1.1)
   (some (((4,x6,0,0,[],()),()),((MZ.2.1.1,MZ.2.1.2.1,MZ.2.1.2.2.1,()),())))
  ((FQ (((p1.2.2.2.2.2.2.2.1.getD 0 (0,0,[],[],false,[],())).2.2.2.2.2.1).length:Int) 1).bind fun Mi=>
  (AJ Mi.1.1 MZ.2.1.1 MZ.2.1.2.1 MZ.2.1.2.2.1).bind fun Kc=>
  R16 x6 (AU (1+Kc.1.1)) 0 Kc.2.1.1 Kc.2.1.2.1 Kc.2.1.2.2.1 p1.1 p1.2.1 p1.2.2.1 p1.2.2.2.1 p1.2.2.2.2.1 p1.2.2.2.2.2.1 p1.2.2.2.2.2.2.1 p1.2.2.2.2.2.2.2.1 p1.2.2.2.2.2.2.2.2.1 p1.2.2.2.2.2.2.2.2.2.1 p1.2.2.2.2.2.2.2.2.2.2.1 0 0 0 0 [] ((p1.2.2.2.2.2.2.2.1.getD 0 (0,0,[],[],false,[],())).1) ((p1.2.2.2.2.2.2.2.1.getD 0 (0,0,[],[],false,[],())).2.1) ((p1.2.2.2.2.2.2.2.1.getD 0 (0,0,[],[],false,[],())).2.2.1) ((p1.2.2.2.2.2.2.2.1.getD 0 (0,0,[],[],false,[],())).2.2.2.1) ((p1.2.2.2.2.2.2.2.1.getD 0 (0,0,[],[],false,[],())).2.2.2.2.1) ((p1.2.2.2.2.2.2.2.1.getD 0 (0,0,[],[],false,[],())).2.2.2.2.2.1))))))
 (cond (!((p1.2.2.2.2.2.2.2.1.getD 0 (0,0,[],[],false,[],())).2.2.2.2.1))
  (some (((9,x6,0,0,[],()),()),((u5.2.1.1,u5.2.1.2.1,u5.2.1.2.2.1,()),())))
 ((BF 6 u5.2.1.1 u5.2.1.2.1 u5.2.1.2.2.1).bind fun u16=>
 cond (u16.1.1)
  (some (((12,0,0,0,[],()),()),((u16.2.1.1,u16.2.1.2.1,u16.2.1.2.2.1,()),())))
 ((BF 3 u16.2.1.1 u16.2.1.2.1 u16.2.1.2.2.1).bind fun X4=>
 cond (X4.1.1)
  (some (((4,x6,0,0,[],()),()),((X4.2.1.1,X4.2.1.2.1,X4.2.1.2.2.1,()),())))
 ((FQ (((p1.2.2.2.2.2.2.2.1.getD 0 (0,0,[],[],false,[],())).2.2.2.2.2.1).length:Int) 1).bind fun eY=>
 (AJ eY.1.1 X4.2.1.1 X4.2.1.2.1 X4.2.1.2.2.1).bind fun MU=>
 R16 x6 (AU (1+MU.1.1)) 0 MU.2.1.1 MU.2.1.2.1 MU.2.1.2.2.1 p1.1 p1.2.1 p1.2.2.1 p1.2.2.2.1 p1.2.2.2.2.1 p1.2.2.2.2.2.1 p1.2.2.2.2.2.2.1 p1.2.2.2.2.2.2.2.1 p1.2.2.2.2.2.2.2.2.1 p1.2.2.2.2.2.2.2.2.2.1 p1.2.2.2.2.2.2.2.2.2.2.1 0 0 0 0 [] ((p1.2.2.2.2.2.2.2.1.getD 0 (0,0,[],[],false,[],())).1) ((p1.2.2.2.2.2.2.2.1.getD 0 (0,0,[],[],false,[],())).2.1) ((p1.2.2.2.2.2.2.2.1.getD 0 (0,0,[],[],false,[],())).2.2.1) ((p1.2.2.2.2.2.2.2.1.getD 0 (0,0,[],[],false,[],())).2.2.2.1) ((p1.2.2.2.2.2.2.2.1.getD 0 (0,0,[],[],false,[],())).2.2.2.2.1) ((p1.2.2.2.2.2.2.2.1.getD 0 (0,0,[],[],false,[],())).2.2.2.2.2.1))))))else none)else none)
def L9(p1:ABV)(AM:AAF)(AE Ac:Int):Option M0:=Sh (GL Ab) p1 AM AE Ac
abbrev qh:Type:=AGj×ACp
def G6(p1:List ABY)(AM:AAF)(AE Ac:Int):Option qh:=
 (AJ (p1.length:Int) AM AE Ac).bind fun u1=>
 if(0:Int)≤u1.1.1∧u1.1.1<(p1.length:Int)then(
 some (((p1.getD (u1.1.1.toNat) []),()),((u1.2.1.1,u1.2.1.2.1,u1.2.1.2.2.1,()),())))else none
abbrev sx:Type:=ABW×Unit
def T1(p0 p1:Int):Option sx:=
 cond (decide (p0<p1))
  (some ((p0,()),()))
 (some ((p1,()),()))
abbrev fA:Type:=AEo×ACp
def Gq(p1:ABV)(AM:AAF)(AE Ac:Int):Option fA:=
 (AJ (p1.2.2.2.2.2.2.1.length:Int) AM AE Ac).bind fun u2=>
 (BF 3 u2.2.1.1 u2.2.1.2.1 u2.2.1.2.2.1).bind fun u3=>
 cond (!u3.1.1)
  (let x4:Int:=(p1.2.2.2.2.2.2.1.length:Int)
  if(0:Int)≤AU (x4-1)∧AU (x4-1)<(p1.2.2.2.2.2.2.1.length:Int)then(
  (Cb (p1.2.2.2.2.1,p1.2.2.2.2.2.1,()) ((p1.2.2.2.2.2.2.1.getD ((AU (x4-1)).toNat) (0,[],())).1)).bind fun u6=>
  (AJ (u6.2.1.length:Int) u3.2.1.1 u3.2.1.2.1 u3.2.1.2.2.1).bind fun u8=>
  if(0:Int)≤u8.1.1∧u8.1.1<(u6.2.1.length:Int)then(
  let x9:Int:=(u6.2.1.getD (u8.1.1.toNat) 0)
  let Ym:Int:=(((p1.2.2.2.2.2.2.1.getD ((AU (x4-1)).toNat) (0,[],())).2.1).length:Int)
  cond (Ym==0)
   ((G6 [[],[97],[98,99],[100]] u8.2.1.1 u8.2.1.2.1 u8.2.1.2.2.1).bind fun MZ=>
   some (((2,AU (x4-1),0,0,MZ.1.1,()),()),((MZ.2.1.1,MZ.2.1.2.1,MZ.2.1.2.2.1,()),())))
  ((BF 7 u8.2.1.1 u8.2.1.2.1 u8.2.1.2.2.1).bind fun D7=>
  cond (D7.1.1)
   ((G6 [[],[97],[98,99],[100]] D7.2.1.1 D7.2.1.2.1 D7.2.1.2.2.1).bind fun Mi=>
   some (((2,AU (x4-1),0,0,Mi.1.1,()),()),((Mi.2.1.1,Mi.2.1.2.1,Mi.2.1.2.2.1,()),())))
  ((BF 3 D7.2.1.1 D7.2.1.2.1 D7.2.1.2.2.1).bind fun Kc=>
  cond (Kc.1.1)
   (some (((4,x9,0,0,[],()),()),((Kc.2.1.1,Kc.2.1.2.1,Kc.2.1.2.2.1,()),())))
  ((T1 Ym 3).bind fun tp=>
  (AJ tp.1.1 Kc.2.1.1 Kc.2.1.2.1 Kc.2.1.2.2.1).bind fun u16=>
  some (((3,AU (x4-1),AU (Ym-u16.1.1),x9,[],()),()),((u16.2.1.1,u16.2.1.2.1,u16.2.1.2.2.1,()),()))))))else none)else none)
 (if(0:Int)≤u2.1.1∧u2.1.1<(p1.2.2.2.2.2.2.1.length:Int)then(
 (Cb (p1.2.2.2.2.1,p1.2.2.2.2.2.1,()) ((p1.2.2.2.2.2.2.1.getD (u2.1.1.toNat) (0,[],())).1)).bind fun Vu=>
 (AJ (Vu.2.1.length:Int) u3.2.1.1 u3.2.1.2.1 u3.2.1.2.2.1).bind fun MU=>
 if(0:Int)≤MU.1.1∧MU.1.1<(Vu.2.1.length:Int)then(
 let x21:Int:=(Vu.2.1.getD (MU.1.1.toNat) 0)
 let x22:Int:=(((p1.2.2.2.2.2.2.1.getD (u2.1.1.toNat) (0,[],())).2.1).length:Int)
 cond (x22==0)
  ((G6 [[],[97],[98,99],[100]] MU.2.1.1 MU.2.1.2.1 MU.2.1.2.2.1).bind fun Zk=>
  some (((2,u2.1.1,0,0,Zk.1.1,()),()),((Zk.2.1.1,Zk.2.1.2.1,Zk.2.1.2.2.1,()),())))
 ((BF 7 MU.2.1.1 MU.2.1.2.1 MU.2.1.2.2.1).bind fun Ip=>
 cond (Ip.1.1)
  ((G6 [[],[97],[98,99],[100]] Ip.2.1.1 Ip.2.1.2.1 Ip.2.1.2.2.1).bind fun aV=>
  some (((2,u2.1.1,0,0,aV.1.1,()),()),((aV.2.1.1,aV.2.1.2.1,aV.2.1.2.2.1,()),())))
 ((BF 3 Ip.2.1.1 Ip.2.1.2.1 Ip.2.1.2.2.1).bind fun fK=>
 cond (fK.1.1)
  (some (((4,x21,0,0,[],()),()),((fK.2.1.1,fK.2.1.2.1,fK.2.1.2.2.1,()),())))
 ((T1 x22 3).bind fun ec=>
 (AJ ec.1.1 fK.2.1.1 fK.2.1.2.1 fK.2.1.2.2.1).bind fun O4=>
 some (((3,u2.1.1,AU (x22-O4.1.1),x21,[],()),()),((O4.2.1.1,O4.2.1.2.1,O4.2.1.2.2.1,()),()))))))else none)else none)
abbrev fX:Type:=AEo×ACp
def Lj(p1:ABV)(AM:AAF)(AE Ac:Int):Option fX:=
 cond ((p1.2.2.2.2.2.2.1.length:Int)==0)
  ((Hv (p1.1,p1.2.1,()) AM AE Ac).bind fun u3=>
  (MB u3.2.2.1).bind fun u4=>
  some (((1,u4.1.1,0,0,[],()),()),((u3.2.1.1,u3.2.1.2.1,u3.2.1.2.2.1,()),())))
 ((BF 30 AM AE Ac).bind fun u5=>
 cond (u5.1.1)
  ((Hv (p1.1,p1.2.1,()) u5.2.1.1 u5.2.1.2.1 u5.2.1.2.2.1).bind fun u6=>
  (MB u6.2.2.1).bind fun u7=>
  some (((1,u7.1.1,0,0,[],()),()),((u6.2.1.1,u6.2.1.2.1,u6.2.1.2.2.1,()),())))
 ((AJ (p1.2.2.1.length:Int) u5.2.1.1 u5.2.1.2.1 u5.2.1.2.2.1).bind fun u8=>
 (AJ 44 u8.2.1.1 u8.2.1.2.1 u8.2.1.2.2.1).bind fun u9=>
 cond (u9.1.1==0)
  ((AJ 16 u9.2.1.1 u9.2.1.2.1 u9.2.1.2.2.1).bind fun D5=>
  some (((5,u8.1.1,D5.1.1,0,[],()),()),((D5.2.1.1,D5.2.1.2.1,D5.2.1.2.2.1,()),())))
 (cond (u9.1.1==1)
  (cond ((p1.2.2.2.1.length:Int)==0)
   (some (((6,u8.1.1,0,0,[],()),()),((u9.2.1.1,u9.2.1.2.1,u9.2.1.2.2.1,()),())))
  ((BF 12 u9.2.1.1 u9.2.1.2.1 u9.2.1.2.2.1).bind fun D7=>
  cond (D7.1.1)
   (some (((6,u8.1.1,0,0,[],()),()),((D7.2.1.1,D7.2.1.2.1,D7.2.1.2.2.1,()),())))
  (if(0:Int)≤(0:Int)∧(0:Int)<(p1.2.2.2.1.length:Int)then(
  some (((7,(p1.2.2.2.1.getD 0 0),0,0,[],()),()),((D7.2.1.1,D7.2.1.2.1,D7.2.1.2.2.1,()),())))else none)))
 (cond (u9.1.1==2)
  ((AJ (p1.2.2.2.2.2.2.1.length:Int) u9.2.1.1 u9.2.1.2.1 u9.2.1.2.2.1).bind fun tp=>
  some (((15,tp.1.1,0,0,[],()),()),((tp.2.1.1,tp.2.1.2.1,tp.2.1.2.2.1,()),())))
 (cond (u9.1.1==3)
  ((BF 3 u9.2.1.1 u9.2.1.2.1 u9.2.1.2.2.1).bind fun u16=>
  cond (u16.1.1)
   (cond (decide ((p1.2.2.2.2.2.2.2.2.2.1.length:Int)>0))
    ((AJ (p1.2.2.2.2.2.2.2.2.2.1.length:Int) u16.2.1.1 u16.2.1.2.1 u16.2.1.2.2.1).bind fun eY=>
    if(0:Int)≤eY.1.1∧eY.1.1<(p1.2.2.2.2.2.2.2.2.2.1.length:Int)then(
    some (((13,((p1.2.2.2.2.2.2.2.2.2.1.getD (eY.1.1.toNat) (0,[],false,())).1),0,0,[],()),()),((eY.2.1.1,eY.2.1.2.1,eY.2.1.2.2.1,()),())))else none)
   (some (((16,u8.1.1,0,0,[],()),()),((u16.2.1.1,u16.2.1.2.1,u16.2.1.2.2.1,()),()))))
  (some (((16,u8.1.1,0,0,[],()),()),((u16.2.1.1,u16.2.1.2.1,u16.2.1.2.2.1,()),()))))
 (cond (u9.1.1==4)
  ((BF 2 u9.2.1.1 u9.2.1.2.1 u9.2.1.2.2.1).bind fun lX=>
  cond (lX.1.1)
   ((AJ 256 lX.2.1.1 lX.2.1.2.1 lX.2.1.2.2.1).bind fun zQ=>
   (AJ 2 zQ.2.1.1 zQ.2.1.2.1 zQ.2.1.2.2.1).bind fun Zk=>
   some (((14,Zk.1.1,zQ.1.1,0,[],()),()),((Zk.2.1.1,Zk.2.1.2.1,Zk.2.1.2.2.1,()),())))
  ((AJ 2 lX.2.1.1 lX.2.1.2.1 lX.2.1.2.2.1).bind fun Ip=>
  some (((14,Ip.1.1,255,0,[],()),()),((Ip.2.1.1,Ip.2.1.2.1,Ip.2.1.2.2.1,()),()))))
 (cond (u9.1.1==5)
  ((BF 2 u9.2.1.1 u9.2.1.2.1 u9.2.1.2.2.1).bind fun aV=>
  cond (aV.1.1)
   ((AJ 256 aV.2.1.1 aV.2.1.2.1 aV.2.1.2.2.1).bind fun fK=>
   (AJ 2 fK.2.1.1 fK.2.1.2.1 fK.2.1.2.2.1).bind fun ec=>
   some (((14,ec.1.1,fK.1.1,0,[],()),()),((ec.2.1.1,ec.2.1.2.1,ec.2.1.2.2.1,()),())))
  ((AJ 2 aV.2.1.1 aV.2.1.2.1 aV.2.1.2.2.1).bind fun O4=>
  some (((14,O4.1.1,255,0,[],()),()),((O4.2.1.1,O4.2.1.2.1,O4.2.1.2.2.1,()),()))))
 (cond (u9.1.1==6)
  ((BF 2 u9.2.1.1 u9.2.1.2.1 u9.2.1.2.2.1).bind fun YO=>
  cond (YO.1.1)
   ((AJ 256 YO.2.1.1 YO.2.1.2.1 YO.2.1.2.2.1).bind fun mm=>
   (AJ 2 mm.2.1.1 mm.2.1.2.1 mm.2.1.2.2.1).bind fun aT=>
   some (((14,aT.1.1,mm.1.1,0,[],()),()),((aT.2.1.1,aT.2.1.2.1,aT.2.1.2.2.1,()),())))
  ((AJ 2 YO.2.1.1 YO.2.1.2.1 YO.2.1.2.2.1).bind fun u32=>
  some (((14,u32.1.1,255,0,[],()),()),((u32.2.1.1,u32.2.1.2.1,u32.2.1.2.2.1,()),()))))
 (cond (u9.1.1==7)
  ((BF 2 u9.2.1.1 u9.2.1.2.1 u9.2.1.2.2.1).bind fun Zq=>
  cond (Zq.1.1)
   ((AJ 256 Zq.2.1.1 Zq.2.1.2.1 Zq.2.1.2.2.1).bind fun s9=>
   (AJ 2 s9.2.1.1 s9.2.1.2.1 s9.2.1.2.2.1).bind fun u35=>
   some (((14,u35.1.1,s9.1.1,0,[],()),()),((u35.2.1.1,u35.2.1.2.1,u35.2.1.2.2.1,()),())))
  ((AJ 2 Zq.2.1.1 Zq.2.1.2.1 Zq.2.1.2.2.1).bind fun u36=>
  some (((14,u36.1.1,255,0,[],()),()),((u36.2.1.1,u36.2.1.2.1,u36.2.1.2.2.1,()),()))))
 (cond (u9.1.1==8)
  ((BF 2 u9.2.1.1 u9.2.1.2.1 u9.2.1.2.2.1).bind fun lx=>
  cond (lx.1.1)
   ((AJ 256 lx.2.1.1 lx.2.1.2.1 lx.2.1.2.2.1).bind fun u38=>
   (AJ 2 u38.2.1.1 u38.2.1.2.1 u38.2.1.2.2.1).bind fun ld=>
   some (((14,ld.1.1,u38.1.1,0,[],()),()),((ld.2.1.1,ld.2.1.2.1,ld.2.1.2.2.1,()),())))
  ((AJ 2 lx.2.1.1 lx.2.1.2.1 lx.2.1.2.2.1).bind fun u40=>
  some (((14,u40.1.1,255,0,[],()),()),((u40.2.1.1,u40.2.1.2.1,u40.2.1.2.2.1,()),()))))
 (cond (decide ((p1.2.2.2.2.1.length:Int)>1))
  ((JY (p1.2.2.2.2.1,p1.2.2.2.2.2.1,())).bind fun u43=>
  cond ((decide (u43.1.1<(p1.2.2.2.2.1.length:Int))))
   ((BF 3 u9.2.1.1 u9.2.1.2.1 u9.2.1.2.2.1).bind fun u45=>
   cond (!u45.1.1)
    ((L9 (p1.1,p1.2.1,p1.2.2.1,p1.2.2.2.1,p1.2.2.2.2.1,p1.2.2.2.2.2.1,p1.2.2.2.2.2.2.1,p1.2.2.2.2.2.2.2.1,p1.2.2.2.2.2.2.2.2.1,p1.2.2.2.2.2.2.2.2.2.1,p1.2.2.2.2.2.2.2.2.2.2.1,()) u45.2.1.1 u45.2.1.2.1 u45.2.1.2.2.1).bind fun rC=>
    some (((rC.1.1.1,rC.1.1.2.1,rC.1.1.2.2.1,rC.1.1.2.2.2.1,rC.1.1.2.2.2.2.1,()),()),((rC.2.1.1,rC.2.1.2.1,rC.2.1.2.2.1,()),())))
   ((Gq (p1.1,p1.2.1,p1.2.2.1,p1.2.2.2.1,p1.2.2.2.2.1,p1.2.2.2.2.2.1,p1.2.2.2.2.2.2.1,p1.2.2.2.2.2.2.2.1,p1.2.2.2.2.2.2.2.2.1,p1.2.2.2.2.2.2.2.2.2.1,p1.2.2.2.2.2.2.2.2.2.2.1,()) u45.2.1.1 u45.2.1.2.1 u45.2.1.2.2.1).bind fun lF=>
   some (((lF.1.1.1,lF.1.1.2.1,lF.1.1.2.2.1,lF.1.1.2.2.2.1,lF.1.1.2.2.2.2.1,()),()),((lF.2.1.1,lF.2.1.2.1,lF.2.1.2.2.1,()),()))))
  ((Gq (p1.1,p1.2.1,p1.2.2.1,p1.2.2.2.1,p1.2.2.2.2.1,p1.2.2.2.2.2.1,p1.2.2.2.2.2.2.1,p1.2.2.2.2.2.2.2.1,p1.2.2.2.2.2.2.2.2.1,p1.2.2.2.2.2.2.2.2.2.1,p1.2.2.2.2.2.2.2.2.2.2.1,()) u9.2.1.1 u9.2.1.2.1 u9.2.1.2.2.1).bind fun u48=>
  some (((u48.1.1.1,u48.1.1.2.1,u48.1.1.2.2.1,u48.1.1.2.2.2.1,u48.1.1.2.2.2.2.1,()),()),((u48.2.1.1,u48.2.1.2.1,u48.2.1.2.2.1,()),()))))
 ((Gq (p1.1,p1.2.1,p1.2.2.1,p1.2.2.2.1,p1.2.2.2.2.1,p1.2.2.2.2.2.1,p1.2.2.2.2.2.2.1,p1.2.2.2.2.2.2.2.1,p1.2.2.2.2.2.2.2.2.1,p1.2.2.2.2.2.2.2.2.2.1,p1.2.2.2.2.2.2.2.2.2.2.1,()) u9.2.1.1 u9.2.1.2.1 u9.2.1.2.2.1).bind fun qz=>
 some (((qz.1.1.1,qz.1.1.2.1,qz.1.1.2.2.1,qz.1.1.2.2.2.1,qz.1.1.2.2.2.2.1,()),()),((qz.2.1.1,qz.2.1.2.1,qz.2.1.2.2.1,()),()))))))))))))))
abbrev qD:Type:=ABU×Unit
def Hq(p0:Int):Option qD:=
 cond (decide (p0>0))
  ((CK (AU (p0.tdiv 4294967296)) 1 30).bind fun u2=>
  cond (u2.1.1)
   ((CK (p0.tmod 4294967296) 1 60).bind fun u3=>
   some ((u3.1.1,()),()))
  (some ((false,()),())))
 (some ((false,()),()))
abbrev H9:Type:=ABW×Unit
def Cl(p0:Int):Option H9:=
 (Hq p0).bind fun u1=>
 cond (!u1.1.1)
  (some ((0,()),()))
 (some (((AU (p0.tdiv 4294967296)),()),()))
abbrev oA:Type:=ABU×Unit
def Mr(p0:ABh):Option oA:=
 (Hq p0.1).bind fun u1=>
 cond (!u1.1.1)
  (some ((false,()),()))
 ((CK p0.2.1 0 30).bind fun u2=>
 cond (!u2.1.1)
  (some ((false,()),()))
 (cond (decide (p0.2.1>0))
  ((Cl p0.1).bind fun u3=>
  cond ((decide (p0.2.1≤u3.1.1)))
   (some ((false,()),()))
  (cond (decide ((p0.2.2.2.1.length:Int)>40))
   (some ((false,()),()))
  (cond (!p0.2.2.1)
   (some ((true,()),()))
  (cond (decide (p0.2.1>0))
   (some ((p0.2.2.2.1==[],()),()))
  (some ((false,()),()))))))
 (cond (decide ((p0.2.2.2.1.length:Int)>40))
  (some ((false,()),()))
 (cond (!p0.2.2.1)
  (some ((true,()),()))
 (cond (decide (p0.2.1>0))
  (some ((p0.2.2.2.1==[],()),()))
 (some ((false,()),())))))))
abbrev UC:Type:=ABU×Unit
abbrev W8:Type:=AAZ→Int→Option UC
def S3(R4:W8)(t0:AAZ)(t5:Int):Option UC:=
 cond ((decide (t5<(t0.length:Int))))
  (if(0:Int)≤t5∧t5<(t0.length:Int)then(
  (Mr ((t0.getD (t5.toNat) (0,0,false,[],())).1,(t0.getD (t5.toNat) (0,0,false,[],())).2.1,(t0.getD (t5.toNat) (0,0,false,[],())).2.2.1,(t0.getD (t5.toNat) (0,0,false,[],())).2.2.2.1,())).bind fun u3=>
  cond (!u3.1.1)
   (some ((false,()),()))
  (R4 t0 (AU (t5+1))))else none)
 (some ((true,()),()))
def L4:Nat→W8
 |0=>fun _ _=>none
 |n+1=>S3 (L4 n)
def Yo(R4:W8)(p0:AAZ)(p1:Int):Option UC:=
 cond ((decide ((p0.length:Int)>p1)))
  (some ((false,()),()))
 (R4 p0 0)
def Ut(p0:AAZ)(p1:Int):Option UC:=Yo (L4 Ab) p0 p1
abbrev WQ:Type:=ABU×Unit
abbrev Zi:Type:=AAZ→Int→Option WQ
def PJ(R2:Zi)(t0:AAZ)(t3:Int):Option WQ:=
 cond ((decide (t3<(t0.length:Int))))
  (if(0:Int)≤AU (t3-1)∧AU (t3-1)<(t0.length:Int)then(
  if(0:Int)≤t3∧t3<(t0.length:Int)then(
  cond (decide (((t0.getD ((AU (t3-1)).toNat) (0,0,false,[],())).1)≥((t0.getD (t3.toNat) (0,0,false,[],())).1)))
   (some ((false,()),()))
  (R2 t0 (AU (t3+1))))else none)else none)
 (some ((true,()),()))
def Gc:Nat→Zi
 |0=>fun _ _=>none
 |n+1=>PJ (Gc n)
def aI(R2:Zi)(p0:AAZ):Option WQ:=
 R2 p0 1
def Xn(p0:AAZ):Option WQ:=aI (Gc Ab) p0
abbrev o0:Type:=ABU×Unit
def Gu(p0:ABa):Option o0:=
 (Ut p0.1 200).bind fun u1=>
 cond (u1.1.1)
  ((Ut p0.2.1 20).bind fun u2=>
  cond (u2.1.1)
   ((Xn p0.1).bind fun u3=>
   cond (u3.1.1)
    ((CK p0.2.2.1 0 30).bind fun u4=>
    some ((u4.1.1,()),()))
   (some ((false,()),())))
  (some ((false,()),())))
 (some ((false,()),()))
abbrev oq:Type:=ABU×Unit
def aZ(p0:ABa):Option oq:=
 cond (((p0.1.length:Int)==0))
  (cond ((p0.2.1.length:Int)==0)
   (some ((p0.2.2.1==0,()),()))
  (some ((false,()),())))
 (some ((false,()),()))
abbrev QM:Type:=ABU×Unit
abbrev Tu:Type:=Int→List Int→Int→AAT→List Int→AAP→Int→AAj→AAo→AAs→AAa→Bool→Option QM
def Pl(R4:Tu)(t3:Int)(AM:AAF)(AE:Int)(Ac:AAT)(DN:AAF)(ET:AAP)(Aa:Int)(EJ:AAj)(D9:AAo)(GB:AAs)(GW:AAa)(AN:Bool):Option QM:=
 cond ((decide (t3<(Ac.length:Int))))
  (if(0:Int)≤t3∧t3<(Ac.length:Int)then(
  (Gu ((Ac.getD (t3.toNat) ([],[],0,())).1,(Ac.getD (t3.toNat) ([],[],0,())).2.1,(Ac.getD (t3.toNat) ([],[],0,())).2.2.1,())).bind fun u8=>
  cond (!u8.1.1)
   (some ((false,()),()))
  ((Cv DN t3).bind fun u9=>
  cond (u9.1.1)
   (if(0:Int)≤t3∧t3<(Ac.length:Int)then(
   (aZ ((Ac.getD (t3.toNat) ([],[],0,())).1,(Ac.getD (t3.toNat) ([],[],0,())).2.1,(Ac.getD (t3.toNat) ([],[],0,())).2.2.1,())).bind fun D5=>
   cond (!D5.1.1)
    (some ((false,()),()))
   (R4 (AU (t3+1)) AM AE Ac DN ET Aa EJ D9 GB GW AN))else none)
  (R4 (AU (t3+1)) AM AE Ac DN ET Aa EJ D9 GB GW AN)))else none)
 (some ((true,()),()))
def JH:Nat→Tu
 |0=>fun _ _ _ _ _ _ _ _ _ _ _ _=>none
 |n+1=>Pl (JH n)
def Vw(R4:Tu)(p0:ABV):Option QM:=
 (Ge (p0.1,p0.2.1,())).bind fun u1=>
 cond (!u1.1.1)
  (some ((false,()),()))
 (cond (((p0.2.2.1.length:Int) !=(p0.1.length:Int)))
  (some ((false,()),()))
 ((Gv (p0.1,p0.2.1,()) p0.2.2.2.1).bind fun u4=>
 cond (!u4.1.1)
  (some ((false,()),()))
 ((Em (p0.1,p0.2.1,()) p0.2.2.2.1).bind fun u5=>
 cond (u5.1.1)
  (cond (!p0.2.2.2.2.2.2.2.2.2.2.1)
   (some ((false,()),()))
  (R4 0 p0.1 p0.2.1 p0.2.2.1 p0.2.2.2.1 p0.2.2.2.2.1 p0.2.2.2.2.2.1 p0.2.2.2.2.2.2.1 p0.2.2.2.2.2.2.2.1 p0.2.2.2.2.2.2.2.2.1 p0.2.2.2.2.2.2.2.2.2.1 p0.2.2.2.2.2.2.2.2.2.2.1))
 (R4 0 p0.1 p0.2.1 p0.2.2.1 p0.2.2.2.1 p0.2.2.2.2.1 p0.2.2.2.2.2.1 p0.2.2.2.2.2.2.1 p0.2.2.2.2.2.2.2.1 p0.2.2.2.2.2.2.2.2.1 p0.2.2.2.2.2.2.2.2.2.1 p0.2.2.2.2.2.2.2.2.2.2.1))))
def UZ(p0:ABV):Option QM:=Vw (JH Ab) p0
abbrev SI:Type:=ABU×Unit
abbrev ZV:Type:=Int→Int→List Int→Int→AAP→Int→Option SI
def Tr(R5:ZV)(t5 t6:Int)(AM:AAF)(AE:Int)(BI:AAP)(Az:Int):Option SI:=
 cond (decide (t6<t5))
  (if(0:Int)≤t6∧t6<(BI.length:Int)then(
  (Em (AM,AE,()) ((BI.getD (t6.toNat) ([],false,0,())).1)).bind fun u6=>
  cond (!u6.1.1)
   (some ((false,()),()))
  ((CK ((BI.getD (t6.toNat) ([],false,0,())).2.2.1) 0 60).bind fun u8=>
  cond (!u8.1.1)
   (some ((false,()),()))
  (cond (!((BI.getD (t6.toNat) ([],false,0,())).2.1))
   (cond (((BI.getD (t6.toNat) ([],false,0,())).2.2.1) !=0)
    (some ((false,()),()))
   (cond (((BI.getD (t6.toNat) ([],false,0,())).2.1))
    (cond (t6==(AU (t5-1)))
     (some ((false,()),()))
    (cond (decide (t6>0))
     (if(0:Int)≤AU (t6-1)∧AU (t6-1)<(BI.length:Int)then(
     cond (!((BI.getD ((AU (t6-1)).toNat) ([],false,0,())).2.1))
      (some ((false,()),()))
     (R5 t5 (AU (t6+1)) AM AE BI Az))else none)
    (R5 t5 (AU (t6+1)) AM AE BI Az)))
   (R5 t5 (AU (t6+1)) AM AE BI Az)))
  (cond (((BI.getD (t6.toNat) ([],false,0,())).2.1))
   (cond (t6==(AU (t5-1)))
    (some ((false,()),()))
   (cond (decide (t6>0))
    (if(0:Int)≤AU (t6-1)∧AU (t6-1)<(BI.length:Int)then(
    cond (!((BI.getD ((AU (t6-1)).toNat) ([],false,0,())).2.1))
     (some ((false,()),()))
    (R5 t5 (AU (t6+1)) AM AE BI Az))else none)
   (R5 t5 (AU (t6+1)) AM AE BI Az)))
  (R5 t5 (AU (t6+1)) AM AE BI Az)))))else none)
 (some ((true,()),()))
def LD:Nat→ZV
 |0=>fun _ _ _ _ _ _=>none
 |n+1=>Tr (LD n)
def Z0(R5:ZV)(p0:ABA)(p1:ABZ):Option SI:=
 (Ge (p0.1,p0.2.1,())).bind fun u1=>
 cond (!u1.1.1)
  (some ((false,()),()))
 (cond ((decide ((p1.1.length:Int)>30)))
  (some ((false,()),()))
 (cond (p1.2.1 !=0)
  ((Hq p1.2.1).bind fun u3=>
  cond (!u3.1.1)
   (some ((false,()),()))
  ((Cl p1.2.1).bind fun u4=>
  cond ((decide (u4.1.1>(p1.1.length:Int))))
   (some ((false,()),()))
  (R5 (p1.1.length:Int) 0 p0.1 p0.2.1 p1.1 p1.2.1)))
 (R5 (p1.1.length:Int) 0 p0.1 p0.2.1 p1.1 p1.2.1)))
def Mz(p0:ABA)(p1:ABZ):Option SI:=Z0 (LD Ab) p0 p1
abbrev NK:Type:=ABU×Unit
abbrev Tt:Type:=Int→Int→List Int→Int→Int→ABX→Option NK
def V5(R5:Tt)(t5 t6:Int)(AM:AAF)(AE BI:Int)(Az:ABX):Option NK:=
 cond ((decide (t6<(Az.length:Int))))
  (if(0:Int)≤t6∧t6<(Az.length:Int)then(
  cond ((decide ((((Az.getD (t6.toNat) ([],[],false,())).1).length:Int)>40)))
   (some ((false,()),()))
  ((Gv (AM,AE,()) ((Az.getD (t6.toNat) ([],[],false,())).2.1)).bind fun u7=>
  cond (!u7.1.1)
   (some ((false,()),()))
  ((Em (AM,AE,()) ((Az.getD (t6.toNat) ([],[],false,())).2.1)).bind fun u9=>
  cond (u9.1.1 !=((Az.getD (t6.toNat) ([],[],false,())).2.2.1))
   (some ((false,()),()))
  (cond (!((Az.getD (t6.toNat) ([],[],false,())).2.2.1))
   (R5 (AU (t5+1)) (AU (t6+1)) AM AE BI Az)
  (R5 t5 (AU (t6+1)) AM AE BI Az)))))else none)
 (some ((decide (t5≤6),()),()))
def Lx:Nat→Tt
 |0=>fun _ _ _ _ _ _=>none
 |n+1=>V5 (Lx n)
def V7(R5:Tt)(p0:ABA)(p1:ABb):Option NK:=
 (Ge (p0.1,p0.2.1,())).bind fun u1=>
 cond (!u1.1.1)
  (some ((false,()),()))
 ((CK p1.1 1 30).bind fun u2=>
 cond (!u2.1.1)
  (some ((false,()),()))
 (cond (decide ((p1.2.1.length:Int)>60))
  (some ((false,()),()))
 (R5 0 0 p0.1 p0.2.1 p1.1 p1.2.1)))
def Hj(p0:ABA)(p1:ABb):Option NK:=V7 (Lx Ab) p0 p1
abbrev Kv:Type:=ABW×Unit
def HU(p0:Int):Option Kv:=
 (Hq p0).bind fun u1=>
 cond (!u1.1.1)
  (some ((0,()),()))
 (some ((p0.tmod 4294967296,()),()))
abbrev qg:Type:=ABW×Unit
def RQ(p0:ABT):Option qg:=
 cond ((p0.2.2.2.1.length:Int)==0)
  (some ((0,()),()))
 (let x2:Int:=(p0.2.2.2.1.length:Int)
 if(0:Int)≤AU (x2-1)∧AU (x2-1)<(p0.2.2.2.1.length:Int)then(
 (HU ((p0.2.2.2.1.getD ((AU (x2-1)).toNat) (0,0,false,[],())).1)).bind fun u4=>
 some ((u4.1.1,()),()))else none)
abbrev NP:Type:=ABU×Unit
abbrev Sy:Type:=Int→List Int→Int→Int→Int→List Int→AAZ→Bool→List AAF→Option NP
abbrev SU:Type:=Int→List Int→Int→Int→Int→List Int→AAZ→Bool→List AAF→Option NP
def Sm(R4:Sy)(R9:SU)(t5:Int)(AM:AAF)(AE BI Az:Int)(DK:AAF)(G4:AAZ)(M6:Bool)(D8:List AAF):Option NP:=
 cond ((decide (t5<(G4.length:Int))))
  (if(0:Int)≤t5∧t5<(G4.length:Int)then(
  (Mr ((G4.getD (t5.toNat) (0,0,false,[],())).1,(G4.getD (t5.toNat) (0,0,false,[],())).2.1,(G4.getD (t5.toNat) (0,0,false,[],())).2.2.1,(G4.getD (t5.toNat) (0,0,false,[],())).2.2.2.1,())).bind fun u7=>
  cond (!u7.1.1)
   (some ((false,()),()))
  (if(0:Int)≤t5∧t5<(G4.length:Int)then(
  (Cl ((G4.getD (t5.toNat) (0,0,false,[],())).1)).bind fun u9=>
  cond (u9.1.1 !=Az)
   (some ((false,()),()))
  (if(0:Int)≤t5∧t5<(G4.length:Int)then(
  cond (decide (((G4.getD (t5.toNat) (0,0,false,[],())).2.1)≥BI))
   (some ((false,()),()))
  (R4 (AU (t5+1)) AM AE BI Az DK G4 M6 D8))else none))else none))else none)
 (R9 0 AM AE BI Az DK G4 M6 D8)
def Sp(R4:Sy)(R9:SU)(t6:Int)(AM:AAF)(AE BI Az:Int)(DK:AAF)(G4:AAZ)(M6:Bool)(D8:List AAF):Option NP:=
 cond ((decide (t6<(D8.length:Int))))
  (if(0:Int)≤t6∧t6<(D8.length:Int)then(
  (Gv (AM,AE,()) (D8.getD (t6.toNat) [])).bind fun D7=>
  cond (!D7.1.1)
   (some ((false,()),()))
  (R9 (AU (t6+1)) AM AE BI Az DK G4 M6 D8))else none)
 (cond (!M6)
  (some ((((D8.length:Int)==0),()),()))
 ((RQ (BI,Az,DK,G4,M6,D8,())).bind fun Kc=>
 some ((((D8.length:Int)==Kc.1.1),()),())))
mutual
def JW:Nat→Sy
 |0=>fun _ _ _ _ _ _ _ _ _=>none
 |n+1=>Sm (JW n) (IC n)
def IC:Nat→SU
 |0=>fun _ _ _ _ _ _ _ _ _=>none
 |n+1=>Sp (JW n) (IC n)
end
def Ys(R4:Sy)(R9:SU)(p0:ABA)(p1:ABT):Option NP:=
 (Ge (p0.1,p0.2.1,())).bind fun u1=>
 cond (!u1.1.1)
  (some ((false,()),()))
 ((CK p1.2.1 1 30).bind fun u2=>
 cond (!u2.1.1)
  (some ((false,()),()))
 ((CK p1.1 (AU (p1.2.1+1)) 30).bind fun u3=>
 cond (!u3.1.1)
  (some ((false,()),()))
 ((Gv (p0.1,p0.2.1,()) p1.2.2.1).bind fun u4=>
 cond (!u4.1.1)
  (some ((false,()),()))
 ((Xn p1.2.2.2.1).bind fun u5=>
 cond (!u5.1.1)
  (some ((false,()),()))
 (R4 0 p0.1 p0.2.1 p1.1 p1.2.1 p1.2.2.1 p1.2.2.2.1 p1.2.2.2.2.1 p1.2.2.2.2.2.1)))))
def I7(p0:ABA)(p1:ABT):Option NP:=Ys (JW Ab) (IC Ab) p0 p1
abbrev JR:Type:=ABU×Unit
abbrev N_:Type:=Int→Int→List Int→Int→AAT→List Int→AAP→Int→AAj→AAo→AAs→AAa→Bool→Option JR
abbrev Mt:Type:=Int→Int→List Int→Int→AAT→List Int→AAP→Int→AAj→AAo→AAs→AAa→Bool→Option JR
def O0(R5:N_)(R10:Mt)(t3 t4:Int)(AM:AAF)(AE:Int)(Ac:AAT)(DN:AAF)(ET:AAP)(Aa:Int)(EJ:AAj)(D9:AAo)(GB:AAs)(GW:AAa)(AN:Bool):Option JR:=
 cond ((decide (t4<(EJ.length:Int))))
  (if(0:Int)≤t4∧t4<(EJ.length:Int)then(
  (Hj (AM,AE,()) ((EJ.getD (t4.toNat) (0,[],())).1,(EJ.getD (t4.toNat) (0,[],())).2.1,())).bind fun u6=>
  cond (!u6.1.1)
   (some ((false,()),()))
  (if(0:Int)≤t4∧t4<(EJ.length:Int)then(
  cond (decide (((EJ.getD (t4.toNat) (0,[],())).1)>t3))
   (some ((false,()),()))
  (cond (decide (t4>0))
   (if(0:Int)≤AU (t4-1)∧AU (t4-1)<(EJ.length:Int)then(
   if(0:Int)≤t4∧t4<(EJ.length:Int)then(
   cond (decide (((EJ.getD ((AU (t4-1)).toNat) (0,[],())).1)≥((EJ.getD (t4.toNat) (0,[],())).1)))
    (some ((false,()),()))
   (R5 t3 (AU (t4+1)) AM AE Ac DN ET Aa EJ D9 GB GW AN))else none)else none)
  (R5 t3 (AU (t4+1)) AM AE Ac DN ET Aa EJ D9 GB GW AN)))else none))else none)
 (R10 t3 0 AM AE Ac DN ET Aa EJ D9 GB GW AN)
def Np(R5:N_)(R10:Mt)(t3 t5:Int)(AM:AAF)(AE:Int)(Ac:AAT)(DN:AAF)(ET:AAP)(Aa:Int)(EJ:AAj)(D9:AAo)(GB:AAs)(GW:AAa)(AN:Bool):Option JR:=
 cond ((decide (t5<(D9.length:Int))))
  (if(0:Int)≤t5∧t5<(D9.length:Int)then(
  (I7 (AM,AE,()) ((D9.getD (t5.toNat) (0,0,[],[],false,[],())).1,(D9.getD (t5.toNat) (0,0,[],[],false,[],())).2.1,(D9.getD (t5.toNat) (0,0,[],[],false,[],())).2.2.1,(D9.getD (t5.toNat) (0,0,[],[],false,[],())).2.2.2.1,(D9.getD (t5.toNat) (0,0,[],[],false,[],())).2.2.2.2.1,(D9.getD (t5.toNat) (0,0,[],[],false,[],())).2.2.2.2.2.1,())).bind fun MZ=>
  cond (!MZ.1.1)
   (some ((false,()),()))
  (cond (((D9.getD (t5.toNat) (0,0,[],[],false,[],())).1) !=t3)
   (some ((false,()),()))
  ((JY (ET,Aa,())).bind fun Kc=>
  cond (((D9.getD (t5.toNat) (0,0,[],[],false,[],())).2.1) !=Kc.1.1)
   (some ((false,()),()))
  (R10 t3 (AU (t5+1)) AM AE Ac DN ET Aa EJ D9 GB GW AN))))else none)
 (some ((true,()),()))
mutual
def Gt:Nat→N_
 |0=>fun _ _ _ _ _ _ _ _ _ _ _ _ _=>none
 |n+1=>O0 (Gt n) (Et n)
def Et:Nat→Mt
 |0=>fun _ _ _ _ _ _ _ _ _ _ _ _ _=>none
 |n+1=>Np (Gt n) (Et n)
end
def U5(R5:N_)(R10:Mt)(p0:ABV):Option JR:=
 (Mz (p0.1,p0.2.1,()) (p0.2.2.2.2.1,p0.2.2.2.2.2.1,())).bind fun u2=>
 cond (!u2.1.1)
  (some ((false,()),()))
 (cond (decide ((p0.2.2.2.2.2.2.1.length:Int)>4))
  (some ((false,()),()))
 (cond (decide ((p0.2.2.2.2.2.2.2.1.length:Int)>1))
  (some ((false,()),()))
 (R5 (p0.2.2.2.2.1.length:Int) 0 p0.1 p0.2.1 p0.2.2.1 p0.2.2.2.1 p0.2.2.2.2.1 p0.2.2.2.2.2.1 p0.2.2.2.2.2.2.1 p0.2.2.2.2.2.2.2.1 p0.2.2.2.2.2.2.2.2.1 p0.2.2.2.2.2.2.2.2.2.1 p0.2.2.2.2.2.2.2.2.2.2.1)))
def Sb(p0:ABV):Option JR:=U5 (Gt Ab) (Et Ab) p0
abbrev mR:Type:=ABU×Unit
def NT(p0:ABi):Option mR:=
 (CK p0.1 1 31).bind fun u1=>
 cond (u1.1.1)
  ((CK p0.2.1 1 61).bind fun u2=>
  cond (u2.1.1)
   (some ((decide ((p0.2.2.1.length:Int)≤120),()),()))
  (some ((false,()),())))
 (some ((false,()),()))
abbrev S_:Type:=ABU×Unit
abbrev VQ:Type:=Int→List Int→Int→AAT→List Int→AAP→Int→AAj→AAo→AAs→AAa→Bool→Option S_
def Q6(R4:VQ)(t3:Int)(AM:AAF)(AE:Int)(Ac:AAT)(DN:AAF)(ET:AAP)(Aa:Int)(EJ:AAj)(D9:AAo)(GB:AAs)(GW:AAa)(AN:Bool):Option S_:=
 cond ((decide (t3<(GW.length:Int))))
  (if(0:Int)≤t3∧t3<(GW.length:Int)then(
  (Hq ((GW.getD (t3.toNat) (0,[],false,())).1)).bind fun u4=>
  cond (!u4.1.1)
   (some ((false,()),()))
  ((Cl ((GW.getD (t3.toNat) (0,[],false,())).1)).bind fun u6=>
  cond ((decide (u6.1.1>(ET.length:Int))))
   (some ((false,()),()))
  (cond ((decide ((((GW.getD (t3.toNat) (0,[],false,())).2.1).length:Int)>40)))
   (some ((false,()),()))
  (cond (decide (t3>0))
   (if(0:Int)≤AU (t3-1)∧AU (t3-1)<(GW.length:Int)then(
   cond (decide (((GW.getD ((AU (t3-1)).toNat) (0,[],false,())).1)≥((GW.getD (t3.toNat) (0,[],false,())).1)))
    (some ((false,()),()))
   (R4 (AU (t3+1)) AM AE Ac DN ET Aa EJ D9 GB GW AN))else none)
  (R4 (AU (t3+1)) AM AE Ac DN ET Aa EJ D9 GB GW AN)))))else none)
 (some ((true,()),()))
def KT:Nat→VQ
 |0=>fun _ _ _ _ _ _ _ _ _ _ _ _=>none
 |n+1=>Q6 (KT n)
def XO(R4:VQ)(p0:ABV):Option S_:=
 cond (decide ((p0.2.2.2.2.2.2.2.2.2.1.length:Int)>120))
  (some ((false,()),()))
 (R4 0 p0.1 p0.2.1 p0.2.2.1 p0.2.2.2.1 p0.2.2.2.2.1 p0.2.2.2.2.2.1 p0.2.2.2.2.2.2.1 p0.2.2.2.2.2.2.2.1 p0.2.2.2.2.2.2.2.2.1 p0.2.2.2.2.2.2.2.2.2.1 p0.2.2.2.2.2.2.2.2.2.2.1)
def Wj(p0:ABV):Option S_:=XO (KT Ab) p0
abbrev og:Type:=ABU×Unit
def PO(p0:ABV):Option og:=
 (UZ (p0.1,p0.2.1,p0.2.2.1,p0.2.2.2.1,p0.2.2.2.2.1,p0.2.2.2.2.2.1,p0.2.2.2.2.2.2.1,p0.2.2.2.2.2.2.2.1,p0.2.2.2.2.2.2.2.2.1,p0.2.2.2.2.2.2.2.2.2.1,p0.2.2.2.2.2.2.2.2.2.2.1,())).bind fun u1=>
 cond (u1.1.1)
  ((Sb (p0.1,p0.2.1,p0.2.2.1,p0.2.2.2.1,p0.2.2.2.2.1,p0.2.2.2.2.2.1,p0.2.2.2.2.2.2.1,p0.2.2.2.2.2.2.2.1,p0.2.2.2.2.2.2.2.2.1,p0.2.2.2.2.2.2.2.2.2.1,p0.2.2.2.2.2.2.2.2.2.2.1,())).bind fun u2=>
  cond (u2.1.1)
   (cond ((p0.2.2.2.2.2.2.2.2.1.length:Int)==2)
    (if(0:Int)≤(0:Int)∧(0:Int)<(p0.2.2.2.2.2.2.2.2.1.length:Int)then(
    (NT ((p0.2.2.2.2.2.2.2.2.1.getD 0 (0,0,[],())).1,(p0.2.2.2.2.2.2.2.2.1.getD 0 (0,0,[],())).2.1,(p0.2.2.2.2.2.2.2.2.1.getD 0 (0,0,[],())).2.2.1,())).bind fun u4=>
    cond (u4.1.1)
     (if(0:Int)≤(1:Int)∧(1:Int)<(p0.2.2.2.2.2.2.2.2.1.length:Int)then(
     (NT ((p0.2.2.2.2.2.2.2.2.1.getD 1 (0,0,[],())).1,(p0.2.2.2.2.2.2.2.2.1.getD 1 (0,0,[],())).2.1,(p0.2.2.2.2.2.2.2.2.1.getD 1 (0,0,[],())).2.2.1,())).bind fun u5=>
     cond (u5.1.1)
      ((Wj (p0.1,p0.2.1,p0.2.2.1,p0.2.2.2.1,p0.2.2.2.2.1,p0.2.2.2.2.2.1,p0.2.2.2.2.2.2.1,p0.2.2.2.2.2.2.2.1,p0.2.2.2.2.2.2.2.2.1,p0.2.2.2.2.2.2.2.2.2.1,p0.2.2.2.2.2.2.2.2.2.2.1,())).bind fun u6=>
      some ((u6.1.1,()),()))
     (some ((false,()),())))else none)
    (some ((false,()),())))else none)
   (some ((false,()),())))
  (some ((false,()),())))
 (some ((false,()),()))
abbrev mb:Type:=AEo×Unit
def Zl(p0:ABe):Option mb:=
 cond (p0.1==1)
  (some (((p0.1,p0.2.1,0,0,[],()),()),()))
 (cond (p0.1==4)
  (some (((p0.1,p0.2.1,0,0,[],()),()),()))
 (cond (p0.1==6)
  (some (((p0.1,p0.2.1,0,0,[],()),()),()))
 (cond (p0.1==7)
  (some (((p0.1,p0.2.1,0,0,[],()),()),()))
 (cond (p0.1==9)
  (some (((p0.1,p0.2.1,0,0,[],()),()),()))
 (cond (p0.1==13)
  (some (((p0.1,p0.2.1,0,0,[],()),()),()))
 (cond (p0.1==15)
  (some (((p0.1,p0.2.1,0,0,[],()),()),()))
 (cond (p0.1==16)
  (some (((p0.1,p0.2.1,0,0,[],()),()),()))
 (cond (p0.1==2)
  (some (((p0.1,p0.2.1,0,0,p0.2.2.2.2.1,()),()),()))
 (cond (p0.1==3)
  (some (((p0.1,p0.2.1,p0.2.2.1,p0.2.2.2.1,[],()),()),()))
 (cond (p0.1==5)
  (some (((p0.1,p0.2.1,p0.2.2.1,0,[],()),()),()))
 (cond (p0.1==14)
  (some (((p0.1,p0.2.1,p0.2.2.1,0,[],()),()),()))
 (cond (p0.1==11)
  (some (((p0.1,0,p0.2.2.1,p0.2.2.2.1,[],()),()),()))
 (some (((p0.1,0,0,0,[],()),()),()))))))))))))))
abbrev qo:Type:=ABU×Unit
def Yq(p0:ABe):Option qo:=
 (CK p0.1 1 16).bind fun u1=>
 cond (u1.1.1)
  ((Zl (p0.1,p0.2.1,p0.2.2.1,p0.2.2.2.1,p0.2.2.2.2.1,())).bind fun u2=>
  cond (((p0.1==u2.1.1.1)&&((p0.2.1==u2.1.1.2.1)&&((p0.2.2.1==u2.1.1.2.2.1)&&((p0.2.2.2.1==u2.1.1.2.2.2.1)&&((p0.2.2.2.2.1==u2.1.1.2.2.2.2.1)&&true))))))
   (some ((decide ((p0.2.2.2.2.1.length:Int)≤40),()),()))
  (some ((false,()),())))
 (some ((false,()),()))
abbrev Fa:Type:=ACq×ADy
abbrev XX:Type:=Int→AAP→Int→Int→AAP→Int→AAP→Option Fa
def Yr(R3:XX)(t4:Int)(AM:AAP)(AE Az:Int)(b2:AAP)(dO:Int)(b4:AAP):Option Fa:=
 cond ((decide (t4<(AM.length:Int))))
  (if(0:Int)≤t4∧t4<(AM.length:Int)then(
  if 0+((AM.getD (t4.toNat) ([],false,0,())).1).length≤DF then(
  if b4.length+1≤DF then(
  R3 (AU (t4+1)) AM AE Az b2 dO (b4++[(((AM.getD (t4.toNat) ([],false,0,())).1),(AM.getD (t4.toNat) ([],false,0,())).2.1,(AM.getD (t4.toNat) ([],false,0,())).2.2.1,())]))else none)else none)else none)
 (some ((((),dO,()),()),(b4,())))
def Ot:Nat→XX
 |0=>fun _ _ _ _ _ _ _=>none
 |n+1=>Yr (Ot n)
def ZC(R3:XX)(p0:ABZ):Option Fa:=
 R3 0 p0.1 p0.2.1 0 [] p0.2.1 []
def GI(p0:ABZ):Option Fa:=ZC (Ot Ab) p0
abbrev LK:Type:=AEf×ACz
def Ej(p0:ABa):Option LK:=
 if 0+p0.1.length≤DF then(
 if 0+p0.2.1.length≤DF then(
 some ((((),(),p0.2.2.1,()),()),(p0.1,p0.2.1,())))else none)else none
abbrev Fc:Type:=AEi×AD4
abbrev XT:Type:=Int→Int→ABX→Int→ABX→Int→ABX→Option Fc
def Su(R3:XT)(t4 AM:Int)(AE:ABX)(BI:Int)(b2:ABX)(gF:Int)(b4:ABX):Option Fc:=
 cond ((decide (t4<(AE.length:Int))))
  (if(0:Int)≤t4∧t4<(AE.length:Int)then(
  if 0+((AE.getD (t4.toNat) ([],[],false,())).2.1).length≤DF then(
  if b4.length+1≤DF then(
  R3 (AU (t4+1)) AM AE BI b2 gF (b4++[((AE.getD (t4.toNat) ([],[],false,())).1,((AE.getD (t4.toNat) ([],[],false,())).2.1),(AE.getD (t4.toNat) ([],[],false,())).2.2.1,())]))else none)else none)else none)
 (some (((gF,(),()),()),(b4,())))
def Jv:Nat→XT
 |0=>fun _ _ _ _ _ _ _=>none
 |n+1=>Su (Jv n)
def Sv(R3:XT)(p0:ABb):Option Fc:=
 R3 0 p0.1 p0.2.1 0 [] p0.1 []
def EO(p0:ABb):Option Fc:=Sv (Jv Ab) p0
abbrev Gd:Type:=AED×AC2
abbrev W9:Type:=Int→Int→Int→List Int→AAZ→Bool→List AAF→Int→Int→Bool→List Int→AAZ→List AAF→Int→Int→Bool→List Int→AAZ→List AAF→Option Gd
def Rq(R3:W9)(t4 AM AE:Int)(Ac:AAF)(DN:AAZ)(ET:Bool)(Aa:List AAF)(BI Az:Int)(M6:Bool)(b2:AAF)(b3:AAZ)(b4:List AAF)(ABk AER:Int)(AET:Bool)(b6:AAF)(b7:AAZ)(b8:List AAF):Option Gd:=
 cond ((decide (t4<(Aa.length:Int))))
  (if(0:Int)≤t4∧t4<(Aa.length:Int)then(
  if 0+(Aa.getD (t4.toNat) []).length≤DF then(
  if b8.length+1≤DF then(
  R3 (AU (t4+1)) AM AE Ac DN ET Aa BI Az M6 b2 b3 b4 ABk AER AET b6 b7 (b8++[(Aa.getD (t4.toNat) [])]))else none)else none)else none)
 (some (((ABk,AER,(),(),AET,(),()),()),(b6,b7,b8,())))
def H0:Nat→W9
 |0=>fun _ _ _ _ _ _ _ _ _ _ _ _ _ _ _ _ _ _ _=>none
 |n+1=>Rq (H0 n)
def N9(R3:W9)(p0:ABT):Option Gd:=
 if 0+p0.2.2.1.length≤DF then(
 if 0+p0.2.2.2.1.length≤DF then(
 R3 0 p0.1 p0.2.1 p0.2.2.1 p0.2.2.2.1 p0.2.2.2.2.1 p0.2.2.2.2.2.1 0 0 false [] [] [] p0.1 p0.2.1 p0.2.2.2.2.1 p0.2.2.1 p0.2.2.2.1 [])else none)else none
def EL(p0:ABT):Option Gd:=N9 (H0 Ab) p0
abbrev Jr:Type:=AEj×AEk
def CO(p0:ABi):Option Jr:=
 if 0+p0.2.2.1.length≤DF then(
 some (((p0.1,p0.2.1,(),()),()),(p0.2.2.1,())))else none
abbrev Fh:Type:=AEl×ACf
abbrev KR:Type:=Int→List Int→Int→AAT→List Int→AAP→Int→AAj→AAo→AAs→AAa→Bool→Int→Int→Bool→List Int→AAT→List Int→AAP→AAj→AAo→AAs→AAa→Int→Int→Bool→List Int→AAT→List Int→AAP→AAj→AAo→AAs→AAa→Option Fh
abbrev KK:Type:=Int→List Int→Int→AAT→List Int→AAP→Int→AAj→AAo→AAs→AAa→Bool→Int→Int→Bool→List Int→AAT→List Int→AAP→AAj→AAo→AAs→AAa→Int→Int→Bool→List Int→AAT→List Int→AAP→AAj→AAo→AAs→AAa→Option Fh
abbrev JD:Type:=Int→List Int→Int→AAT→List Int→AAP→Int→AAj→AAo→AAs→AAa→Bool→Int→Int→Bool→List Int→AAT→List Int→AAP→AAj→AAo→AAs→AAa→Int→Int→Bool→List Int→AAT→List Int→AAP→AAj→AAo→AAs→AAa→Option Fh
abbrev JQ:Type:=Int→List Int→Int→AAT→List Int→AAP→Int→AAj→AAo→AAs→AAa→Bool→Int→Int→Bool→List Int→AAT→List Int→AAP→AAj→AAo→AAs→AAa→Int→Int→Bool→List Int→AAT→List Int→AAP→AAj→AAo→AAs→AAa→Option Fh
def Qn(R3:KR)(R7:KK)(rh:JD)(gu:JQ)(t4:Int)(AM:AAF)(AE:Int)(Ac:AAT)(DN:AAF)(ET:AAP)(Aa:Int)(EJ:AAj)(D9:AAo)(GB:AAs)(GW:AAa)(AN:Bool)(Az D8:Int)(E9:Bool)(b2:AAF)(b3:AAT)(b4:AAF)(b5:AAP)(b6:AAj)(b7:AAo)(b8:AAs)(b9:AAa)(Dh Ed:Int)(C1:Bool)(Fl:AAF)(DX:AAT)(F7:AAF)(GV:AAP)(Dv:AAj)(D_:AAo)(E8:AAs)(VO:AAa):Option Fh:=
 cond ((decide (t4<(Ac.length:Int))))
  (if(0:Int)≤t4∧t4<(Ac.length:Int)then(
  (Ej ((Ac.getD (t4.toNat) ([],[],0,())).1,(Ac.getD (t4.toNat) ([],[],0,())).2.1,(Ac.getD (t4.toNat) ([],[],0,())).2.2.1,())).bind fun yK=>
  if DX.length+1≤DF then(
  R3 (AU (t4+1)) AM AE Ac DN ET Aa EJ D9 GB GW AN Az D8 E9 b2 b3 b4 b5 b6 b7 b8 b9 Dh Ed C1 Fl (DX++[(yK.2.1,yK.2.2.1,yK.1.1.2.2.1,())]) F7 GV Dv D_ E8 VO)else none)else none)
 (R7 0 AM AE Ac DN ET Aa EJ D9 GB GW AN Az D8 E9 b2 b3 b4 b5 b6 b7 b8 b9 Dh Ed C1 Fl DX F7 GV Dv D_ E8 VO)
def Qo(R3:KR)(R7:KK)(rh:JD)(gu:JQ)(t5:Int)(AM:AAF)(AE:Int)(Ac:AAT)(DN:AAF)(ET:AAP)(Aa:Int)(EJ:AAj)(D9:AAo)(GB:AAs)(GW:AAa)(AN:Bool)(Az D8:Int)(E9:Bool)(b2:AAF)(b3:AAT)(b4:AAF)(b5:AAP)(b6:AAj)(b7:AAo)(b8:AAs)(b9:AAa)(Dh Ed:Int)(C1:Bool)(Fl:AAF)(DX:AAT)(F7:AAF)(GV:AAP)(Dv:AAj)(D_:AAo)(E8:AAs)(VO:AAa):Option Fh:=
 cond ((decide (t5<(EJ.length:Int))))
  (if(0:Int)≤t5∧t5<(EJ.length:Int)then(
  (EO ((EJ.getD (t5.toNat) (0,[],())).1,(EJ.getD (t5.toNat) (0,[],())).2.1,())).bind fun ACP=>
  if Dv.length+1≤DF then(
  R7 (AU (t5+1)) AM AE Ac DN ET Aa EJ D9 GB GW AN Az D8 E9 b2 b3 b4 b5 b6 b7 b8 b9 Dh Ed C1 Fl DX F7 GV (Dv++[(ACP.1.1.1,ACP.2.1,())]) D_ E8 VO)else none)else none)
 (rh 0 AM AE Ac DN ET Aa EJ D9 GB GW AN Az D8 E9 b2 b3 b4 b5 b6 b7 b8 b9 Dh Ed C1 Fl DX F7 GV Dv D_ E8 VO)
def Pr(R3:KR)(R7:KK)(rh:JD)(gu:JQ)(t6:Int)(AM:AAF)(AE:Int)(Ac:AAT)(DN:AAF)(ET:AAP)(Aa:Int)(EJ:AAj)(D9:AAo)(GB:AAs)(GW:AAa)(AN:Bool)(Az D8:Int)(E9:Bool)(b2:AAF)(b3:AAT)(b4:AAF)(b5:AAP)(b6:AAj)(b7:AAo)(b8:AAs)(b9:AAa)(Dh Ed:Int)(C1:Bool)(Fl:AAF)(DX:AAT)(F7:AAF)(GV:AAP)(Dv:AAj)(D_:AAo)(E8:AAs)(VO:AAa):Option Fh:=
 cond ((decide (t6<(D9.length:Int))))
  (if(0:Int)≤t6∧t6<(D9.length:Int)then(
  (EL ((D9.getD (t6.toNat) (0,0,[],[],false,[],())).1,(D9.getD (t6.toNat) (0,0,[],[],false,[],())).2.1,(D9.getD (t6.toNat) (0,0,[],[],false,[],())).2.2.1,(D9.getD (t6.toNat) (0,0,[],[],false,[],())).2.2.2.1,(D9.getD (t6.toNat) (0,0,[],[],false,[],())).2.2.2.2.1,(D9.getD (t6.toNat) (0,0,[],[],false,[],())).2.2.2.2.2.1,())).bind fun ks=>
  if D_.length+1≤DF then(
  rh (AU (t6+1)) AM AE Ac DN ET Aa EJ D9 GB GW AN Az D8 E9 b2 b3 b4 b5 b6 b7 b8 b9 Dh Ed C1 Fl DX F7 GV Dv (D_++[(ks.1.1.1,ks.1.1.2.1,ks.2.1,ks.2.2.1,ks.1.1.2.2.2.2.1,ks.2.2.2.1,())]) E8 VO)else none)else none)
 (gu 0 AM AE Ac DN ET Aa EJ D9 GB GW AN Az D8 E9 b2 b3 b4 b5 b6 b7 b8 b9 Dh Ed C1 Fl DX F7 GV Dv D_ E8 VO)
def Pp(R3:KR)(R7:KK)(rh:JD)(gu:JQ)(t7:Int)(AM:AAF)(AE:Int)(Ac:AAT)(DN:AAF)(ET:AAP)(Aa:Int)(EJ:AAj)(D9:AAo)(GB:AAs)(GW:AAa)(AN:Bool)(Az D8:Int)(E9:Bool)(b2:AAF)(b3:AAT)(b4:AAF)(b5:AAP)(b6:AAj)(b7:AAo)(b8:AAs)(b9:AAa)(Dh Ed:Int)(C1:Bool)(Fl:AAF)(DX:AAT)(F7:AAF)(GV:AAP)(Dv:AAj)(D_:AAo)(E8:AAs)(VO:AAa):Option Fh:=
 cond ((decide (t7<(GB.length:Int))))
  (if(0:Int)≤t7∧t7<(GB.length:Int)then(
  (CO ((GB.getD (t7.toNat) (0,0,[],())).1,(GB.getD (t7.toNat) (0,0,[],())).2.1,(GB.getD (t7.toNat) (0,0,[],())).2.2.1,())).bind fun we=>
  if E8.length+1≤DF then(
  gu (AU (t7+1)) AM AE Ac DN ET Aa EJ D9 GB GW AN Az D8 E9 b2 b3 b4 b5 b6 b7 b8 b9 Dh Ed C1 Fl DX F7 GV Dv D_ (E8++[(we.1.1.1,we.1.1.2.1,we.2.1,())]) VO)else none)else none)
 (some ((((),Dh,(),(),(),Ed,(),(),(),(),C1,()),()),(Fl,DX,F7,GV,Dv,D_,E8,VO,())))
mutual
def CY:Nat→KR
 |0=>fun _ _ _ _ _ _ _ _ _ _ _ _ _ _ _ _ _ _ _ _ _ _ _ _ _ _ _ _ _ _ _ _ _ _=>none
 |n+1=>Qn (CY n) (Cp n) (CV n) (CT n)
def Cp:Nat→KK
 |0=>fun _ _ _ _ _ _ _ _ _ _ _ _ _ _ _ _ _ _ _ _ _ _ _ _ _ _ _ _ _ _ _ _ _ _=>none
 |n+1=>Qo (CY n) (Cp n) (CV n) (CT n)
def CV:Nat→JD
 |0=>fun _ _ _ _ _ _ _ _ _ _ _ _ _ _ _ _ _ _ _ _ _ _ _ _ _ _ _ _ _ _ _ _ _ _=>none
 |n+1=>Pr (CY n) (Cp n) (CV n) (CT n)
def CT:Nat→JQ
 |0=>fun _ _ _ _ _ _ _ _ _ _ _ _ _ _ _ _ _ _ _ _ _ _ _ _ _ _ _ _ _ _ _ _ _ _=>none
 |n+1=>Pp (CY n) (Cp n) (CV n) (CT n)
end
def Qt(R3:KR)(R7:KK)(rh:JD)(gu:JQ)(p0:ABV):Option Fh:=
 if 0+p0.1.length≤DF then(
 if 0+p0.2.2.2.1.length≤DF then(
 (GI (p0.2.2.2.2.1,p0.2.2.2.2.2.1,())).bind fun u2=>
 if 0+p0.2.2.2.2.2.2.2.2.2.1.length≤DF then(
 R3 0 p0.1 p0.2.1 p0.2.2.1 p0.2.2.2.1 p0.2.2.2.2.1 p0.2.2.2.2.2.1 p0.2.2.2.2.2.2.1 p0.2.2.2.2.2.2.2.1 p0.2.2.2.2.2.2.2.2.1 p0.2.2.2.2.2.2.2.2.2.1 p0.2.2.2.2.2.2.2.2.2.2.1 0 0 false [] [] [] [] [] [] [] [] p0.2.1 u2.1.1.2.1 p0.2.2.2.2.2.2.2.2.2.2.1 p0.1 [] p0.2.2.2.1 u2.2.1 [] [] [] p0.2.2.2.2.2.2.2.2.2.1)else none)else none)else none
def O7(p0:ABV):Option Fh:=Qt (CY Ab) (Cp Ab) (CV Ab) (CT Ab) p0
abbrev O_:Type:=ABc×ABd
abbrev Ss:Type:=Int→Int→List Int→Option O_
def OG(R3:Ss)(t0 t4:Int)(b0:AAF):Option O_:=
 cond (decide (t4<8))
  ((CK t0 0 255).bind fun u1=>
  cond (u1.1.1)
   (if t4<0 then none else(
   cond (((cO .i64 (t0.fdiv (2^(min t4.toNat 64))) 1)==1))
    (if b0.length+1≤DF then(
    R3 t0 (AU (t4+1)) (b0++[t4]))else none)
   (R3 t0 (AU (t4+1)) b0)))
  (some (((),()),(b0,()))))
 (some (((),()),(b0,())))
def IJ:Nat→Ss
 |0=>fun _ _ _=>none
 |n+1=>OG (IJ n)
def Uf(R3:Ss)(p0:Int):Option O_:=
 R3 p0 0 []
def OY(p0:Int):Option O_:=Uf (IJ Ab) p0
abbrev pv:Type:=(AJV×Unit)×ADy
def Ms(p0:ABA)(p1:ABZ)(p2:AAF):Option pv:=
 (Mz (p0.1,p0.2.1,()) (p1.1,p1.2.1,())).bind fun u1=>
 cond (!u1.1.1)
  (some (((((),0,()),0,false,()),()),([],())))
 ((GI (p1.1,p1.2.1,())).bind fun u2=>
 (Em (p0.1,p0.2.1,()) p2).bind fun u3=>
 cond (!u3.1.1)
  (some (((((),u2.1.1.2.1,()),0,false,()),()),(u2.2.1,())))
 (cond (((p1.1.length:Int)==30))
  (some (((((),u2.1.1.2.1,()),0,false,()),()),(u2.2.1,())))
 (if 0+p2.length≤DF then(
 if u2.2.1.length+1≤DF then(
 let x5:AAP:=u2.2.1++[(p2,false,0,())]
 some (((((),u2.1.1.2.1,()),(x5.length:Int),true,()),()),(x5,())))else none)else none)))
abbrev cy:Type:=AB_×(List Int×AAT×List Int×Unit×Unit×Unit×AAs×AAa×AAP×AAj×AAo×Unit)
def Wh(CL CN:Int)(BQ:Bool)(p1:ABe)(b0:AAF)(b1:AAT)(b2:AAF)(b3:AAP)(b4:AAj)(b5:AAo)(b6:AAs)(b7:AAa):Option cy:=
 cond (((b4.length:Int)==4))
  (some (((((),CL,(),(),(),CN,(),(),(),(),BQ,()),4,()),()),(b0,b1,b2,(),(),(),b6,b7,b3,b4,b5,())))
 ((OY p1.2.1).bind fun u2=>
 (Ms (b0,CL,()) (b3,CN,()) u2.2.1).bind fun u3=>
 cond (!u3.1.1.2.2.1)
  (some (((((),CL,(),(),(),CN,(),(),(),(),BQ,()),4,()),()),(b0,b1,b2,(),(),(),b6,b7,b3,b4,b5,())))
 (if b4.length+1≤DF then(
 some (((((),CL,(),(),(),u3.1.1.1.2.1,(),(),(),(),BQ,()),0,()),()),(b0,b1,b2,(),(),(),b6,b7,u3.2.1,(b4++[(u3.1.1.2.1,[],())]),[],())))else none))
abbrev jq:Type:=ABU×Unit
def L_(p0:ABV)(p1:Int):Option jq:=
 (CK p1 0 (AU ((p0.2.2.2.2.2.2.1.length:Int)-1))).bind fun u2=>
 some ((u2.1.1,()),())
abbrev ku:Type:=(AKB×Unit)×AD4
def Gp(p0:ABA)(p1:ABb)(p2:ABY):Option ku:=
 (Hj (p0.1,p0.2.1,()) (p1.1,p1.2.1,())).bind fun u1=>
 cond (!u1.1.1)
  (some ((((0,(),()),0,false,()),()),([],())))
 ((EO (p1.1,p1.2.1,())).bind fun u2=>
 if u2.2.1.length+1≤DF then(
 let x3:ABX:=u2.2.1++[(p2,[],false,())]
 (Hj (p0.1,p0.2.1,()) (u2.1.1.1,x3,())).bind fun u4=>
 cond (!u4.1.1)
  ((EO (p1.1,p1.2.1,())).bind fun u5=>
  some ((((u5.1.1.1,(),()),0,false,()),()),(u5.2.1,())))
 (some ((((u2.1.1.1,(),()),(x3.length:Int),true,()),()),(x3,()))))else none)
abbrev H4:Type:=ABW×Unit
def CZ(p0 p1:Int):Option H4:=
 some ((AU ((AU (4294967296*p0))+p1),()),())
abbrev LJ:Type:=AB_×(List Int×AAT×List Int×AAP×AAj×AAo×AAs×Unit×AAa×Unit)
abbrev TC:Type:=Int→List Int→AAT→List Int→AAP→AAj→AAo→AAs→AAa→Int→Int→Bool→Int→Int→Bool→List Int→AAT→List Int→AAP→AAj→AAo→AAs→AAa→Int→List UInt8→Bool→Option LJ
abbrev QY:Type:=Bool→Int→List Int→AAT→List Int→AAP→AAj→AAo→AAs→AAa→Int→Int→Bool→Int→Int→Bool→List Int→AAT→List Int→AAP→AAj→AAo→AAs→AAa→Int→List UInt8→Bool→AAa→Option LJ
def Yp(R9:TC)(R16:QY)(t10:Int)(b0:AAF)(b1:AAT)(b2:AAF)(b3:AAP)(b4:AAj)(b5:AAo)(b6:AAs)(b7:AAa)(Db Dq:Int)(CM:Bool)(Dp FD:Int)(Ch:Bool)(MV:AAF)(Fl:AAT)(DX:AAF)(F7:AAP)(GV:AAj)(Dv:AAo)(D_:AAs)(E8:AAa)(Cd:Int)(C4:ABY)(Cg:Bool):Option LJ:=
 cond ((decide (t10<(b7.length:Int))))
  (if(0:Int)≤t10∧t10<(b7.length:Int)then(
  cond (((b7.getD (t10.toNat) (0,[],false,())).1)==Cd)
   (some (((((),Db,(),(),(),Dq,(),(),(),(),CM,()),4,()),()),(b0,b1,b2,b3,b4,b5,b6,(),b7,())))
  (R9 (AU (t10+1)) b0 b1 b2 b3 b4 b5 b6 b7 Db Dq CM Dp FD Ch MV Fl DX F7 GV Dv D_ E8 Cd C4 Cg))else none)
 (R16 false 0 b0 b1 b2 b3 b4 b5 b6 b7 Db Dq CM Dp FD Ch MV Fl DX F7 GV Dv D_ E8 Cd C4 Cg [])
def Ww(R9:TC)(R16:QY)(t12:Bool)(t13:Int)(b0:AAF)(b1:AAT)(b2:AAF)(b3:AAP)(b4:AAj)(b5:AAo)(b6:AAs)(b7:AAa)(Db Dq:Int)(CM:Bool)(Dp FD:Int)(Ch:Bool)(MV:AAF)(Fl:AAT)(DX:AAF)(F7:AAP)(GV:AAj)(Dv:AAo)(D_:AAs)(E8:AAa)(Cd:Int)(C4:ABY)(Cg:Bool)(sS:AAa):Option LJ:=
 cond ((decide (t13<(b7.length:Int))))
  (cond (!t12)
   (if(0:Int)≤t13∧t13<(b7.length:Int)then(
   cond (decide (((b7.getD (t13.toNat) (0,[],false,())).1)>Cd))
    (if sS.length+1≤DF then(
    let x18:AAa:=sS++[(Cd,C4,Cg,())]
    if(0:Int)≤t13∧t13<(b7.length:Int)then(
    if x18.length+1≤DF then(
    R16 true (AU (t13+1)) b0 b1 b2 b3 b4 b5 b6 b7 Db Dq CM Dp FD Ch MV Fl DX F7 GV Dv D_ E8 Cd C4 Cg (x18++[((b7.getD (t13.toNat) (0,[],false,())).1,(b7.getD (t13.toNat) (0,[],false,())).2.1,(b7.getD (t13.toNat) (0,[],false,())).2.2.1,())]))else none)else none)else none)
   (if(0:Int)≤t13∧t13<(b7.length:Int)then(
   if sS.length+1≤DF then(
   R16 t12 (AU (t13+1)) b0 b1 b2 b3 b4 b5 b6 b7 Db Dq CM Dp FD Ch MV Fl DX F7 GV Dv D_ E8 Cd C4 Cg (sS++[((b7.getD (t13.toNat) (0,[],false,())).1,(b7.getD (t13.toNat) (0,[],false,())).2.1,(b7.getD (t13.toNat) (0,[],false,())).2.2.1,())]))else none)else none))else none)
  (if(0:Int)≤t13∧t13<(b7.length:Int)then(
  if sS.length+1≤DF then(
  R16 t12 (AU (t13+1)) b0 b1 b2 b3 b4 b5 b6 b7 Db Dq CM Dp FD Ch MV Fl DX F7 GV Dv D_ E8 Cd C4 Cg (sS++[((b7.getD (t13.toNat) (0,[],false,())).1,(b7.getD (t13.toNat) (0,[],false,())).2.1,(b7.getD (t13.toNat) (0,[],false,())).2.2.1,())]))else none)else none))
 (cond (!t12)
  (if sS.length+1≤DF then(
  some (((((),Db,(),(),(),Dq,(),(),(),(),CM,()),0,()),()),(b0,b1,b2,b3,b4,b5,b6,(),(sS++[(Cd,C4,Cg,())]),())))else none)
 (some (((((),Db,(),(),(),Dq,(),(),(),(),CM,()),0,()),()),(b0,b1,b2,b3,b4,b5,b6,(),sS,()))))
mutual
def MS:Nat→TC
 |0=>fun _ _ _ _ _ _ _ _ _ _ _ _ _ _ _ _ _ _ _ _ _ _ _ _ _ _=>none
 |n+1=>Yp (MS n) (KW n)
def KW:Nat→QY
 |0=>fun _ _ _ _ _ _ _ _ _ _ _ _ _ _ _ _ _ _ _ _ _ _ _ _ _ _ _ _=>none
 |n+1=>Ww (MS n) (KW n)
end
def Yu(R9:TC)(R16:QY)(CL CN:Int)(BQ:Bool)(p1:ABe)(b0:AAF)(b1:AAT)(b2:AAF)(b3:AAP)(b4:AAj)(b5:AAo)(b6:AAs)(b7:AAa):Option LJ:=
 (L_ (b0,CL,b1,b2,b3,CN,b4,b5,b6,b7,BQ,()) p1.2.1).bind fun u1=>
 cond (!u1.1.1)
  (some (((((),CL,(),(),(),CN,(),(),(),(),BQ,()),2,()),()),(b0,b1,b2,b3,b4,b5,b6,(),b7,())))
 (if(0:Int)≤p1.2.1∧p1.2.1<(b4.length:Int)then(
 (Gp (b0,CL,()) ((b4.getD (p1.2.1.toNat) (0,[],())).1,(b4.getD (p1.2.1.toNat) (0,[],())).2.1,()) p1.2.2.2.2.1).bind fun u2=>
 cond (!u2.1.1.2.2.1)
  (some (((((),CL,(),(),(),CN,(),(),(),(),BQ,()),4,()),()),(b0,b1,b2,b3,b4,b5,b6,(),b7,())))
 (cond (((b7.length:Int)==120))
  (some (((((),CL,(),(),(),CN,(),(),(),(),BQ,()),4,()),()),(b0,b1,b2,b3,b4,b5,b6,(),b7,())))
 (if(0:Int)≤p1.2.1∧p1.2.1<(b4.length:Int)then(
 (CZ u2.1.1.1.1 u2.1.1.2.1).bind fun u5=>
 R9 0 b0 b1 b2 b3 (b4.set (p1.2.1.toNat) (u2.1.1.1.1,u2.2.1,())) b5 b6 b7 CL CN BQ 0 0 false [] [] [] [] [] [] [] [] u5.1.1 p1.2.2.2.2.1 false)else none)))else none)
def YZ(CL CN:Int)(BQ:Bool)(p1:ABe)(b0:AAF)(b1:AAT)(b2:AAF)(b3:AAP)(b4:AAj)(b5:AAo)(b6:AAs)(b7:AAa):Option LJ:=Yu (MS Ab) (KW Ab) CL CN BQ p1 b0 b1 b2 b3 b4 b5 b6 b7
abbrev oZ:Type:=ABW×Unit
def Hl(p0:ABV)(p1:Int):Option oZ:=
 (CK p1 0 (AU ((p0.2.2.1.length:Int)-1))).bind fun u2=>
 cond (!u2.1.1)
  (some ((2,()),()))
 ((Cv p0.2.2.2.1 p1).bind fun u3=>
 cond (u3.1.1)
  (some ((3,()),()))
 (some ((0,()),())))
abbrev pT:Type:=ABU×Unit
def WX(p0:ABa)(p1:ABh):Option pT:=
 cond (p1.2.1==0)
  ((Cl p1.1).bind fun u1=>
  some (((decide (u1.1.1>p0.2.2.1)),()),()))
 (some (((decide (p1.2.1>p0.2.2.1)),()),()))
abbrev mZ:Type:=ADl×ACz
def NX(p0:ABa)(p1:ABh):Option mZ:=
 (Gu (p0.1,p0.2.1,p0.2.2.1,())).bind fun u1=>
 cond (!u1.1.1)
  (some (((((),(),0,()),false,()),()),([],[],())))
 ((Ej (p0.1,p0.2.1,p0.2.2.1,())).bind fun u2=>
 (Mr (p1.1,p1.2.1,p1.2.2.1,p1.2.2.2.1,())).bind fun u3=>
 cond (!u3.1.1)
  (some (((((),(),u2.1.1.2.2.1,()),false,()),()),(u2.2.1,u2.2.2.1,())))
 ((WX (p0.1,p0.2.1,p0.2.2.1,()) (p1.1,p1.2.1,p1.2.2.1,p1.2.2.2.1,())).bind fun u4=>
 cond (!u4.1.1)
  (some (((((),(),u2.1.1.2.2.1,()),false,()),()),(u2.2.1,u2.2.2.1,())))
 (cond ((p0.2.1.length:Int)==20)
  (some (((((),(),u2.1.1.2.2.1,()),false,()),()),(u2.2.1,u2.2.2.1,())))
 (if u2.2.2.1.length+1≤DF then(
 some (((((),(),u2.1.1.2.2.1,()),true,()),()),(u2.2.1,(u2.2.2.1++[(p1.1,p1.2.1,p1.2.2.1,p1.2.2.2.1,())]),())))else none))))
abbrev cK:Type:=AB_×ACf
def UH(CL CN:Int)(BQ:Bool)(p1:ABe)(b0:AAF)(b1:AAT)(b2:AAF)(b3:AAP)(b4:AAj)(b5:AAo)(b6:AAs)(b7:AAa):Option cK:=
 (L_ (b0,CL,b1,b2,b3,CN,b4,b5,b6,b7,BQ,()) p1.2.1).bind fun u1=>
 cond (!u1.1.1)
  (some (((((),CL,(),(),(),CN,(),(),(),(),BQ,()),2,()),()),(b0,b1,b2,b3,b4,b5,b6,b7,())))
 (if(0:Int)≤p1.2.1∧p1.2.1<(b4.length:Int)then(
 (CK p1.2.2.1 1 (((b4.getD (p1.2.1.toNat) (0,[],())).2.1).length:Int)).bind fun u3=>
 cond (!u3.1.1)
  (some (((((),CL,(),(),(),CN,(),(),(),(),BQ,()),2,()),()),(b0,b1,b2,b3,b4,b5,b6,b7,())))
 ((Hl (b0,CL,b1,b2,b3,CN,b4,b5,b6,b7,BQ,()) p1.2.2.2.1).bind fun u4=>
 cond (u4.1.1 !=0)
  (some (((((),CL,(),(),(),CN,(),(),(),(),BQ,()),u4.1.1,()),()),(b0,b1,b2,b3,b4,b5,b6,b7,())))
 ((Cb (b3,CN,()) ((b4.getD (p1.2.1.toNat) (0,[],())).1)).bind fun u6=>
 (Cv u6.2.1 p1.2.2.2.1).bind fun u7=>
 cond (!u7.1.1)
  (some (((((),CL,(),(),(),CN,(),(),(),(),BQ,()),2,()),()),(b0,b1,b2,b3,b4,b5,b6,b7,())))
 (if(0:Int)≤p1.2.2.2.1∧p1.2.2.2.1<(b1.length:Int)then(
 if(0:Int)≤AU (p1.2.2.1-1)∧AU (p1.2.2.1-1)<(((b4.getD (p1.2.1.toNat) (0,[],())).2.1).length:Int)then(
 (CZ ((b4.getD (p1.2.1.toNat) (0,[],())).1) p1.2.2.1).bind fun D5=>
 (NX ((b1.getD (p1.2.2.2.1.toNat) ([],[],0,())).1,(b1.getD (p1.2.2.2.1.toNat) ([],[],0,())).2.1,(b1.getD (p1.2.2.2.1.toNat) ([],[],0,())).2.2.1,()) (D5.1.1,0,false,((((b4.getD (p1.2.1.toNat) (0,[],())).2.1).getD ((AU (p1.2.2.1-1)).toNat) ([],[],false,())).1),())).bind fun MZ=>
 cond (!MZ.1.1.2.1)
  (some (((((),CL,(),(),(),CN,(),(),(),(),BQ,()),4,()),()),(b0,b1,b2,b3,b4,b5,b6,b7,())))
 (if(0:Int)≤p1.2.2.2.1∧p1.2.2.2.1<(b1.length:Int)then(
 some (((((),CL,(),(),(),CN,(),(),(),(),BQ,()),0,()),()),(b0,(b1.set (p1.2.2.2.1.toNat) (MZ.2.1,MZ.2.2.1,MZ.1.1.1.2.2.1,())),b2,b3,b4,b5,b6,b7,())))else none))else none)else none))))else none)
abbrev qq:Type:=AFf×Unit
def RX(p0 p1:ABh):Option qq:=
 cond ((decide (p1.2.1>p0.2.1)))
  (some (((p1.1,p1.2.1,p1.2.2.1,p1.2.2.2.1,()),()),()))
 (some (((p0.1,p0.2.1,p0.2.2.1,p0.2.2.2.1,()),()),()))
abbrev UO:Type:=ABc×AEh
abbrev XK:Type:=AAZ→Bool→Int→Int→Int→Bool→List UInt8→AAZ→Option UO
def SH(R4:XK)(t0:AAZ)(t6:Bool)(t7 AM AE:Int)(Ac:Bool)(DN:ABY)(b1:AAZ):Option UO:=
 cond ((decide (t7<(t0.length:Int))))
  (cond (!t6)
   (if(0:Int)≤t7∧t7<(t0.length:Int)then(
   cond (((t0.getD (t7.toNat) (0,0,false,[],())).1)==AM)
    (if(0:Int)≤t7∧t7<(t0.length:Int)then(
    (RX ((t0.getD (t7.toNat) (0,0,false,[],())).1,(t0.getD (t7.toNat) (0,0,false,[],())).2.1,(t0.getD (t7.toNat) (0,0,false,[],())).2.2.1,(t0.getD (t7.toNat) (0,0,false,[],())).2.2.2.1,()) (AM,AE,Ac,DN,())).bind fun u3=>
    if b1.length+1≤DF then(
    R4 t0 true (AU (t7+1)) AM AE Ac DN (b1++[(u3.1.1.1,u3.1.1.2.1,u3.1.1.2.2.1,u3.1.1.2.2.2.1,())]))else none)else none)
   (cond (!t6)
    (if(0:Int)≤t7∧t7<(t0.length:Int)then(
    cond (decide (((t0.getD (t7.toNat) (0,0,false,[],())).1)>AM))
     (if b1.length+1≤DF then(
     let x6:AAZ:=b1++[(AM,AE,Ac,DN,())]
     if(0:Int)≤t7∧t7<(t0.length:Int)then(
     if x6.length+1≤DF then(
     R4 t0 true (AU (t7+1)) AM AE Ac DN (x6++[((t0.getD (t7.toNat) (0,0,false,[],())).1,(t0.getD (t7.toNat) (0,0,false,[],())).2.1,(t0.getD (t7.toNat) (0,0,false,[],())).2.2.1,(t0.getD (t7.toNat) (0,0,false,[],())).2.2.2.1,())]))else none)else none)else none)
    (if(0:Int)≤t7∧t7<(t0.length:Int)then(
    if b1.length+1≤DF then(
    R4 t0 t6 (AU (t7+1)) AM AE Ac DN (b1++[((t0.getD (t7.toNat) (0,0,false,[],())).1,(t0.getD (t7.toNat) (0,0,false,[],())).2.1,(t0.getD (t7.toNat) (0,0,false,[],())).2.2.1,(t0.getD (t7.toNat) (0,0,false,[],())).2.2.2.1,())]))else none)else none))else none)
   (if(0:Int)≤t7∧t7<(t0.length:Int)then(
   if b1.length+1≤DF then(
   R4 t0 t6 (AU (t7+1)) AM AE Ac DN (b1++[((t0.getD (t7.toNat) (0,0,false,[],())).1,(t0.getD (t7.toNat) (0,0,false,[],())).2.1,(t0.getD (t7.toNat) (0,0,false,[],())).2.2.1,(t0.getD (t7.toNat) (0,0,false,[],())).2.2.2.1,())]))else none)else none)))else none)
  (cond (!t6)
   (if(0:Int)≤t7∧t7<(t0.length:Int)then(
   cond (decide (((t0.getD (t7.toNat) (0,0,false,[],())).1)>AM))
    (if b1.length+1≤DF then(
    let bl:AAZ:=b1++[(AM,AE,Ac,DN,())]
    if(0:Int)≤t7∧t7<(t0.length:Int)then(
    if bl.length+1≤DF then(
    R4 t0 true (AU (t7+1)) AM AE Ac DN (bl++[((t0.getD (t7.toNat) (0,0,false,[],())).1,(t0.getD (t7.toNat) (0,0,false,[],())).2.1,(t0.getD (t7.toNat) (0,0,false,[],())).2.2.1,(t0.getD (t7.toNat) (0,0,false,[],())).2.2.2.1,())]))else none)else none)else none)
   (if(0:Int)≤t7∧t7<(t0.length:Int)then(
   if b1.length+1≤DF then(
   R4 t0 t6 (AU (t7+1)) AM AE Ac DN (b1++[((t0.getD (t7.toNat) (0,0,false,[],())).1,(t0.getD (t7.toNat) (0,0,false,[],())).2.1,(t0.getD (t7.toNat) (0,0,false,[],())).2.2.1,(t0.getD (t7.toNat) (0,0,false,[],())).2.2.2.1,())]))else none)else none))else none)
  (if(0:Int)≤t7∧t7<(t0.length:Int)then(
  if b1.length+1≤DF then(
  R4 t0 t6 (AU (t7+1)) AM AE Ac DN (b1++[((t0.getD (t7.toNat) (0,0,false,[],())).1,(t0.getD (t7.toNat) (0,0,false,[],())).2.1,(t0.getD (t7.toNat) (0,0,false,[],())).2.2.1,(t0.getD (t7.toNat) (0,0,false,[],())).2.2.2.1,())]))else none)else none)))
 (cond (!t6)
  (if b1.length+1≤DF then(
  some (((),()),((b1++[(AM,AE,Ac,DN,())]),())))else none)
 (some (((),()),(b1,()))))
def Ju:Nat→XK
 |0=>fun _ _ _ _ _ _ _ _=>none
 |n+1=>SH (Ju n)
def Yc(R4:XK)(p0:AAZ)(p1:ABh):Option UO:=
 R4 p0 false 0 p1.1 p1.2.1 p1.2.2.1 p1.2.2.2.1 []
def RN(p0:AAZ)(p1:ABh):Option UO:=Yc (Ju Ab) p0 p1
abbrev Ny:Type:=ADl×ACz
abbrev Qz:Type:=Int→Int→AAZ→AAZ→Int→Int→AAZ→AAZ→Int→AAZ→AAZ→Option Ny
def TV(R5:Qz)(t1 t7:Int)(AM AE:AAZ)(Ac DK:Int)(b2 b3:AAZ)(Mo:Int)(b5 b6:AAZ):Option Ny:=
 cond ((decide (t7<(AE.length:Int))))
  (if t7<0 then none else(
  cond (((cO .i64 (t1.fdiv (2^(min t7.toNat 64))) 1)==1))
   (if(0:Int)≤t7∧t7<(AE.length:Int)then(
   (RN b5 ((AE.getD (t7.toNat) (0,0,false,[],())).1,(AE.getD (t7.toNat) (0,0,false,[],())).2.1,(AE.getD (t7.toNat) (0,0,false,[],())).2.2.1,(AE.getD (t7.toNat) (0,0,false,[],())).2.2.2.1,())).bind fun u5=>
   R5 t1 (AU (t7+1)) AM AE Ac DK b2 b3 Mo u5.2.1 b6)else none)
  (R5 t1 (AU (t7+1)) AM AE Ac DK b2 b3 Mo b5 b6)))
 ((CK t1 0 1048575).bind fun u6=>
 cond (!u6.1.1)
  ((Ej (AM,AE,Ac,())).bind fun u7=>
  some (((((),(),u7.1.1.2.2.1,()),false,()),()),(u7.2.1,u7.2.2.1,())))
 (cond ((decide ((b5.length:Int)>200)))
  ((Ej (AM,AE,Ac,())).bind fun u9=>
  some (((((),(),u9.1.1.2.2.1,()),false,()),()),(u9.2.1,u9.2.2.1,())))
 (some (((((),(),Mo,()),true,()),()),(b5,b6,())))))
def Jf:Nat→Qz
 |0=>fun _ _ _ _ _ _ _ _ _ _ _=>none
 |n+1=>TV (Jf n)
def TP(R5:Qz)(p0:ABa)(p1:Int):Option Ny:=
 (Gu (p0.1,p0.2.1,p0.2.2.1,())).bind fun u1=>
 cond (!u1.1.1)
  (some (((((),(),0,()),false,()),()),([],[],())))
 (if 0+p0.1.length≤DF then(
 R5 p1 0 p0.1 p0.2.1 p0.2.2.1 0 [] [] p0.2.2.1 p0.1 [])else none)
def NF(p0:ABa)(p1:Int):Option Ny:=TP (Jf Ab) p0 p1
abbrev k_:Type:=ADl×ACz
def Jx(p0:ABa):Option k_:=
 (NF (p0.1,p0.2.1,p0.2.2.1,()) 1048575).bind fun u1=>
 some (((((),(),u1.1.1.1.2.2.1,()),u1.1.1.2.1,()),()),(u1.2.1,u1.2.2.1,()))
abbrev Gg:Type:=AEm×Unit
abbrev ZW:Type:=AAZ→Int→Int→Int→Int→Bool→List UInt8→Option Gg
def aA(R2:ZW)(t0:AAZ)(t1 t6 AM AE:Int)(Ac:Bool)(DN:ABY):Option Gg:=
 cond ((decide (t6<(t0.length:Int))))
  (if(0:Int)≤t6∧t6<(t0.length:Int)then(
  cond (((t0.getD (t6.toNat) (0,0,false,[],())).1)==t1)
   (if(0:Int)≤t6∧t6<(t0.length:Int)then(
   some (((((t0.getD (t6.toNat) (0,0,false,[],())).1,(t0.getD (t6.toNat) (0,0,false,[],())).2.1,(t0.getD (t6.toNat) (0,0,false,[],())).2.2.1,(t0.getD (t6.toNat) (0,0,false,[],())).2.2.2.1,()),true,()),()),()))else none)
  (R2 t0 t1 (AU (t6+1)) AM AE Ac DN))else none)
 (some ((((0,0,false,[],()),false,()),()),()))
def Py:Nat→ZW
 |0=>fun _ _ _ _ _ _ _=>none
 |n+1=>aA (Py n)
def aE(R2:ZW)(p0:AAZ)(p1:Int):Option Gg:=
 R2 p0 p1 0 0 0 false []
def HP(p0:AAZ)(p1:Int):Option Gg:=aE (Py Ab) p0 p1
abbrev GH:Type:=AEp×AD4
def Dk(p0:ABA)(p1:ABb)(p2 p3:Int):Option GH:=
 (Hj (p0.1,p0.2.1,()) (p1.1,p1.2.1,())).bind fun u1=>
 cond (!u1.1.1)
  (some ((((0,(),()),false,()),()),([],())))
 ((EO (p1.1,p1.2.1,())).bind fun u2=>
 (CK p2 1 (p1.2.1.length:Int)).bind fun u4=>
 cond (!u4.1.1)
  (some ((((u2.1.1.1,(),()),false,()),()),(u2.2.1,())))
 ((CK p3 0 (AU ((p0.1.length:Int)-1))).bind fun u6=>
 cond (!u6.1.1)
  (some ((((u2.1.1.1,(),()),false,()),()),(u2.2.1,())))
 (if(0:Int)≤AU (p2-1)∧AU (p2-1)<(p1.2.1.length:Int)then(
 cond (((p1.2.1.getD ((AU (p2-1)).toNat) ([],[],false,())).2.2.1))
  (some ((((u2.1.1.1,(),()),false,()),()),(u2.2.1,())))
 (if(0:Int)≤AU (p2-1)∧AU (p2-1)<(u2.2.1.length:Int)then(
 (IZ ((u2.2.1.getD ((AU (p2-1)).toNat) ([],[],false,())).2.1) p3).bind fun u8=>
 if(0:Int)≤AU (p2-1)∧AU (p2-1)<(u2.2.1.length:Int)then(
 let x9:ABX:=(u2.2.1.set ((AU (p2-1)).toNat) ((u2.2.1.getD ((AU (p2-1)).toNat) ([],[],false,())).1,u8.2.1,(u2.2.1.getD ((AU (p2-1)).toNat) ([],[],false,())).2.2.1,()))
 if(0:Int)≤AU (p2-1)∧AU (p2-1)<(x9.length:Int)then(
 (Em (p0.1,p0.2.1,()) ((x9.getD ((AU (p2-1)).toNat) ([],[],false,())).2.1)).bind fun D5=>
 if(0:Int)≤AU (p2-1)∧AU (p2-1)<(x9.length:Int)then(
 some ((((u2.1.1.1,(),()),true,()),()),((x9.set ((AU (p2-1)).toNat) ((x9.getD ((AU (p2-1)).toNat) ([],[],false,())).1,(x9.getD ((AU (p2-1)).toNat) ([],[],false,())).2.1,D5.1.1,())),())))else none)else none)else none)else none))else none)))
abbrev jg:Type:=AEg×Unit
def Sk(p0 p1:Int):Option jg:=
 (CK p0 1 30).bind fun u1=>
 cond (!u1.1.1)
  (some (((0,false,()),()),()))
 ((CK p1 1 60).bind fun u2=>
 cond (!u2.1.1)
  (some (((0,false,()),()),()))
 (some (((AU ((AU (4294967296*p0))+p1),true,()),()),())))
abbrev GG:Type:=AEm×Unit
def Eo(p0:ABT)(p1:Int):Option GG:=
 (Sk p0.2.1 p1).bind fun u1=>
 cond (!p0.2.2.2.2.1)
  (some ((((0,0,false,[],()),false,()),()),()))
 (cond (!u1.1.1.2.1)
  (some ((((0,0,false,[],()),false,()),()),()))
 (cond (decide (p1>(p0.2.2.2.2.2.1.length:Int)))
  (some ((((0,0,false,[],()),false,()),()),()))
 ((HP p0.2.2.2.1 u1.1.1.1).bind fun u3=>
 cond (u3.1.1.2.1)
  (some ((((u1.1.1.1,p0.1,u3.1.1.1.2.2.1,u3.1.1.1.2.2.2.1,()),true,()),()),()))
 (some ((((u1.1.1.1,p0.1,true,[],()),true,()),()),())))))
abbrev Dj:Type:=AEI×AC2
def EX(p0:ABA)(p1:ABT)(p2 p3:Int):Option Dj:=
 (I7 (p0.1,p0.2.1,()) (p1.1,p1.2.1,p1.2.2.1,p1.2.2.2.1,p1.2.2.2.2.1,p1.2.2.2.2.2.1,())).bind fun u1=>
 cond (!u1.1.1)
  (some ((((0,0,(),(),false,(),()),false,()),()),([],[],[],())))
 ((EL (p1.1,p1.2.1,p1.2.2.1,p1.2.2.2.1,p1.2.2.2.2.1,p1.2.2.2.2.2.1,())).bind fun u2=>
 (CK p2 1 (p1.2.2.2.2.2.1.length:Int)).bind fun u4=>
 cond (!u4.1.1)
  (some ((((u2.1.1.1,u2.1.1.2.1,(),(),u2.1.1.2.2.2.2.1,(),()),false,()),()),(u2.2.1,u2.2.2.1,u2.2.2.2.1,())))
 ((CK p3 0 (AU ((p0.1.length:Int)-1))).bind fun u6=>
 cond (!u6.1.1)
  (some ((((u2.1.1.1,u2.1.1.2.1,(),(),u2.1.1.2.2.2.2.1,(),()),false,()),()),(u2.2.1,u2.2.2.1,u2.2.2.2.1,())))
 (if(0:Int)≤AU (p2-1)∧AU (p2-1)<(u2.2.2.2.1.length:Int)then(
 (IZ (u2.2.2.2.1.getD ((AU (p2-1)).toNat) []) p3).bind fun u7=>
 if(0:Int)≤AU (p2-1)∧AU (p2-1)<(u2.2.2.2.1.length:Int)then(
 some ((((u2.1.1.1,u2.1.1.2.1,(),(),u2.1.1.2.2.2.2.1,(),()),true,()),()),(u2.2.1,u2.2.2.1,(u2.2.2.2.1.set ((AU (p2-1)).toNat) u7.2.1),())))else none)else none)))
abbrev B5:Type:=AEl×ACf
abbrev Ia:Type:=Int→Int→List Int→AAT→List Int→AAP→AAj→AAo→AAs→AAa→Int→Int→Bool→Int→Int→Bool→List Int→AAT→List Int→AAP→AAj→AAo→AAs→AAa→AAZ→AAZ→Int→Option B5
abbrev Ic:Type:=Int→Int→Int→Int→Int→Bool→List Int→AAT→List Int→AAP→AAj→AAo→AAs→AAa→Int→Int→Bool→Int→Int→Bool→List Int→AAT→List Int→AAP→AAj→AAo→AAs→AAa→AAZ→AAZ→Int→Int→ABX→Option B5
abbrev HT:Type:=Int→Int→Int→Int→Int→Bool→List Int→AAT→List Int→AAP→AAj→AAo→AAs→AAa→Int→Int→Bool→Int→Int→Bool→List Int→AAT→List Int→AAP→AAj→AAo→AAs→AAa→AAZ→AAZ→Int→Int→ABX→Option B5
abbrev HO:Type:=Int→Int→List Int→AAT→List Int→AAP→AAj→AAo→AAs→AAa→Int→Int→Bool→Int→Int→Bool→List Int→AAT→List Int→AAP→AAj→AAo→AAs→AAa→AAZ→AAZ→Int→Option B5
abbrev Ha:Type:=Int→Int→Int→List Int→AAT→List Int→AAP→AAj→AAo→AAs→AAa→Int→Int→Bool→Int→Int→Bool→List Int→AAT→List Int→AAP→AAj→AAo→AAs→AAa→AAZ→AAZ→Int→Int→Int→List Int→AAZ→Bool→List AAF→Option B5
def My(R3:Ia)(R8:Ic)(gu:HT)(R21:HO)(R25:Ha)(t1 t6:Int)(b0:AAF)(b1:AAT)(b2:AAF)(b3:AAP)(b4:AAj)(b5:AAo)(b6:AAs)(b7:AAa)(Db Dq:Int)(CM:Bool)(Dp FD:Int)(Ch:Bool)(MV:AAF)(Fl:AAT)(DX:AAF)(F7:AAP)(GV:AAj)(Dv:AAo)(D_:AAs)(E8:AAa)(Cd C4:AAZ)(Cg:Int):Option B5:=
 cond ((decide (t6<(b4.length:Int))))
  (if(0:Int)≤t6∧t6<(b4.length:Int)then(
  (Cb (b3,Dq,()) ((b4.getD (t6.toNat) (0,[],())).1)).bind fun u3=>
  (Cv u3.2.1 t1).bind fun u4=>
  cond (!u4.1.1)
   (R3 t1 (AU (t6+1)) b0 b1 b2 b3 b4 b5 b6 b7 Db Dq CM Dp FD Ch MV Fl DX F7 GV Dv D_ E8 Cd C4 Cg)
  (let x5:Int:=(b4.getD (t6.toNat) (0,[],())).1
  cond (decide (Cg≥x5))
   (R3 t1 (AU (t6+1)) b0 b1 b2 b3 b4 b5 b6 b7 Db Dq CM Dp FD Ch MV Fl DX F7 GV Dv D_ E8 Cd C4 Cg)
  (R8 t1 t6 1 Cg x5 (decide (Cg≥x5)) b0 b1 b2 b3 b4 b5 b6 b7 Db Dq CM Dp FD Ch MV Fl DX F7 GV Dv D_ E8 Cd C4 Cg ((b4.getD (t6.toNat) (0,[],())).1) ((b4.getD (t6.toNat) (0,[],())).2.1))))else none)
 (R21 t1 0 b0 b1 b2 b3 b4 b5 b6 b7 Db Dq CM Dp FD Ch MV Fl DX F7 GV Dv D_ E8 Cd C4 Cg)
def Mh(R3:Ia)(R8:Ic)(gu:HT)(R21:HO)(R25:Ha)(t1 t6 t8 t47 t49:Int)(t50:Bool)(b0:AAF)(b1:AAT)(b2:AAF)(b3:AAP)(b4:AAj)(b5:AAo)(b6:AAs)(b7:AAa)(Db Dq:Int)(CM:Bool)(Dp FD:Int)(Ch:Bool)(MV:AAF)(Fl:AAT)(DX:AAF)(F7:AAP)(GV:AAj)(Dv:AAo)(D_:AAs)(E8:AAa)(Cd C4:AAZ)(Cg EV:Int)(CS:ABX):Option B5:=
 cond ((decide (t8≤(CS.length:Int))))
  ((CZ EV t8).bind fun u7=>
  (HP Cd u7.1.1).bind fun u8=>
  cond (!u8.1.1.2.1)
   (R8 t1 t6 (AU (t8+1)) t47 t49 t50 b0 b1 b2 b3 b4 b5 b6 b7 Db Dq CM Dp FD Ch MV Fl DX F7 GV Dv D_ E8 Cd C4 Cg EV CS)
  (cond (u8.1.1.1.2.1 !=0)
   (R8 t1 t6 (AU (t8+1)) t47 t49 t50 b0 b1 b2 b3 b4 b5 b6 b7 Db Dq CM Dp FD Ch MV Fl DX F7 GV Dv D_ E8 Cd C4 Cg EV CS)
  (if(0:Int)≤AU (t8-1)∧AU (t8-1)<(CS.length:Int)then(
  cond (((CS.getD ((AU (t8-1)).toNat) ([],[],false,())).2.2.1))
   (R8 t1 t6 (AU (t8+1)) t47 t49 t50 b0 b1 b2 b3 b4 b5 b6 b7 Db Dq CM Dp FD Ch MV Fl DX F7 GV Dv D_ E8 Cd C4 Cg EV CS)
  ((Dk (b0,Db,()) (EV,CS,()) t8 t1).bind fun D5=>
  R8 t1 t6 (AU (t8+1)) t47 t49 t50 b0 b1 b2 b3 b4 b5 b6 b7 Db Dq CM Dp FD Ch MV Fl DX F7 GV Dv D_ E8 Cd C4 Cg D5.1.1.1.1 D5.2.1))else none)))
 (if(0:Int)≤t6∧t6<(b4.length:Int)then(
 gu t1 t6 0 t47 t49 t50 b0 b1 b2 b3 (b4.set (t6.toNat) (EV,CS,())) b5 b6 b7 Db Dq CM Dp FD Ch MV Fl DX F7 GV Dv D_ E8 Cd C4 Cg EV CS)else none)
def LO(R3:Ia)(R8:Ic)(gu:HT)(R21:HO)(R25:Ha)(t1 t6 t11 t47 t49:Int)(t50:Bool)(b0:AAF)(b1:AAT)(b2:AAF)(b3:AAP)(b4:AAj)(b5:AAo)(b6:AAs)(b7:AAa)(Db Dq:Int)(CM:Bool)(Dp FD:Int)(Ch:Bool)(MV:AAF)(Fl:AAT)(DX:AAF)(F7:AAP)(GV:AAj)(Dv:AAo)(D_:AAs)(E8:AAa)(Cd C4:AAZ)(Cg EV:Int)(CS:ABX):Option B5:=
 cond ((decide (t11<(b7.length:Int))))
  (if(0:Int)≤t11∧t11<(b7.length:Int)then(
  let x65:Int:=(b7.getD (t11.toNat) (0,[],false,())).1
  (Cl x65).bind fun u66=>
  cond (u66.1.1==EV)
   ((HU x65).bind fun u67=>
   cond ((decide (u67.1.1≤(CS.length:Int))))
    ((HU x65).bind fun u69=>
    if(0:Int)≤AU (u69.1.1-1)∧AU (u69.1.1-1)<(CS.length:Int)then(
    cond (((CS.getD ((AU (u69.1.1-1)).toNat) ([],[],false,())).2.2.1))
     (if(0:Int)≤t11∧t11<(b7.length:Int)then(
     gu t1 t6 (AU (t11+1)) t47 t49 t50 b0 b1 b2 b3 b4 b5 b6 (b7.set (t11.toNat) ((b7.getD (t11.toNat) (0,[],false,())).1,(b7.getD (t11.toNat) (0,[],false,())).2.1,true,())) Db Dq CM Dp FD Ch MV Fl DX F7 GV Dv D_ E8 Cd C4 Cg EV CS)else none)
    (gu t1 t6 (AU (t11+1)) t47 t49 t50 b0 b1 b2 b3 b4 b5 b6 b7 Db Dq CM Dp FD Ch MV Fl DX F7 GV Dv D_ E8 Cd C4 Cg EV CS))else none)
   (gu t1 t6 (AU (t11+1)) t47 t49 t50 b0 b1 b2 b3 b4 b5 b6 b7 Db Dq CM Dp FD Ch MV Fl DX F7 GV Dv D_ E8 Cd C4 Cg EV CS))
  (gu t1 t6 (AU (t11+1)) t47 t49 t50 b0 b1 b2 b3 b4 b5 b6 b7 Db Dq CM Dp FD Ch MV Fl DX F7 GV Dv D_ E8 Cd C4 Cg EV CS))else none)
 (R3 t1 (AU (t6+1)) b0 b1 b2 b3 b4 b5 b6 b7 Db Dq CM Dp FD Ch MV Fl DX F7 GV Dv D_ E8 Cd C4 Cg)
def LP(R3:Ia)(R8:Ic)(gu:HT)(R21:HO)(R25:Ha)(t1 t13:Int)(b0:AAF)(b1:AAT)(b2:AAF)(b3:AAP)(b4:AAj)(b5:AAo)(b6:AAs)(b7:AAa)(Db Dq:Int)(CM:Bool)(Dp FD:Int)(Ch:Bool)(MV:AAF)(Fl:AAT)(DX:AAF)(F7:AAP)(GV:AAj)(Dv:AAo)(D_:AAs)(E8:AAa)(Cd C4:AAZ)(Cg:Int):Option B5:=
 cond ((decide (t13<(b5.length:Int))))
  (if(0:Int)≤t13∧t13<(b5.length:Int)then(
  R25 t1 t13 1 b0 b1 b2 b3 b4 b5 b6 b7 Db Dq CM Dp FD Ch MV Fl DX F7 GV Dv D_ E8 Cd C4 Cg ((b5.getD (t13.toNat) (0,0,[],[],false,[],())).1) ((b5.getD (t13.toNat) (0,0,[],[],false,[],())).2.1) ((b5.getD (t13.toNat) (0,0,[],[],false,[],())).2.2.1) ((b5.getD (t13.toNat) (0,0,[],[],false,[],())).2.2.2.1) ((b5.getD (t13.toNat) (0,0,[],[],false,[],())).2.2.2.2.1) ((b5.getD (t13.toNat) (0,0,[],[],false,[],())).2.2.2.2.2.1))else none)
 (some ((((),Db,(),(),(),Dq,(),(),(),(),CM,()),()),(b0,b1,b2,b3,b4,b5,b6,b7,())))
def Ik(R3:Ia)(R8:Ic)(gu:HT)(R21:HO)(R25:Ha)(t1 t13 t15:Int)(b0:AAF)(b1:AAT)(b2:AAF)(b3:AAP)(b4:AAj)(b5:AAo)(b6:AAs)(b7:AAa)(Db Dq:Int)(CM:Bool)(Dp FD:Int)(Ch:Bool)(MV:AAF)(Fl:AAT)(DX:AAF)(F7:AAP)(GV:AAj)(Dv:AAo)(D_:AAs)(E8:AAa)(Cd C4:AAZ)(Cg EV CS:Int)(aH:AAF)(Z6:AAZ)(aO:Bool)(VG:List AAF):Option B5:=
 if(0:Int)≤t13∧t13<(b5.length:Int)then(
 cond (decide (t15≤(((b5.getD (t13.toNat) (0,0,[],[],false,[],())).2.2.2.2.2.1).length:Int)))
  ((Cb (b3,Dq,()) CS).bind fun u74=>
  (Cv u74.2.1 t1).bind fun u75=>
  cond (u75.1.1)
   ((Eo (EV,CS,aH,Z6,aO,VG,()) t15).bind fun u76=>
   (HP Cd u76.1.1.1.1).bind fun u77=>
   cond (u77.1.1.2.1)
    (cond (((u77.1.1.1.1==u76.1.1.1.1)&&((u77.1.1.1.2.1==u76.1.1.1.2.1)&&((u77.1.1.1.2.2.1==u76.1.1.1.2.2.1)&&((u77.1.1.1.2.2.2.1==u76.1.1.1.2.2.2.1)&&true)))))
     ((EX (b0,Db,()) (EV,CS,aH,Z6,aO,VG,()) t15 t1).bind fun z6=>
     R25 t1 t13 (AU (t15+1)) b0 b1 b2 b3 b4 b5 b6 b7 Db Dq CM Dp FD Ch MV Fl DX F7 GV Dv D_ E8 Cd C4 Cg z6.1.1.1.1 z6.1.1.1.2.1 z6.2.1 z6.2.2.1 z6.1.1.1.2.2.2.2.1 z6.2.2.2.1)
    (R25 t1 t13 (AU (t15+1)) b0 b1 b2 b3 b4 b5 b6 b7 Db Dq CM Dp FD Ch MV Fl DX F7 GV Dv D_ E8 Cd C4 Cg EV CS aH Z6 aO VG))
   (R25 t1 t13 (AU (t15+1)) b0 b1 b2 b3 b4 b5 b6 b7 Db Dq CM Dp FD Ch MV Fl DX F7 GV Dv D_ E8 Cd C4 Cg EV CS aH Z6 aO VG))
  (if(0:Int)≤t13∧t13<(b5.length:Int)then(
  R21 t1 (AU (t13+1)) b0 b1 b2 b3 b4 (b5.set (t13.toNat) (EV,CS,aH,Z6,aO,VG,())) b6 b7 Db Dq CM Dp FD Ch MV Fl DX F7 GV Dv D_ E8 Cd C4 Cg)else none))
 (if(0:Int)≤t13∧t13<(b5.length:Int)then(
 R21 t1 (AU (t13+1)) b0 b1 b2 b3 b4 (b5.set (t13.toNat) (EV,CS,aH,Z6,aO,VG,())) b6 b7 Db Dq CM Dp FD Ch MV Fl DX F7 GV Dv D_ E8 Cd C4 Cg)else none))else none
mutual
def Bd:Nat→Ia
 |0=>fun _ _ _ _ _ _ _ _ _ _ _ _ _ _ _ _ _ _ _ _ _ _ _ _ _ _ _=>none
 |n+1=>My (Bd n) (A9 n) (A_ n) (Bf n) (BZ n)
def A9:Nat→Ic
 |0=>fun _ _ _ _ _ _ _ _ _ _ _ _ _ _ _ _ _ _ _ _ _ _ _ _ _ _ _ _ _ _ _ _ _=>none
 |n+1=>Mh (Bd n) (A9 n) (A_ n) (Bf n) (BZ n)
def A_:Nat→HT
 |0=>fun _ _ _ _ _ _ _ _ _ _ _ _ _ _ _ _ _ _ _ _ _ _ _ _ _ _ _ _ _ _ _ _ _=>none
 |n+1=>LO (Bd n) (A9 n) (A_ n) (Bf n) (BZ n)
def Bf:Nat→HO
 |0=>fun _ _ _ _ _ _ _ _ _ _ _ _ _ _ _ _ _ _ _ _ _ _ _ _ _ _ _=>none
 |n+1=>LP (Bd n) (A9 n) (A_ n) (Bf n) (BZ n)
def BZ:Nat→Ha
 |0=>fun _ _ _ _ _ _ _ _ _ _ _ _ _ _ _ _ _ _ _ _ _ _ _ _ _ _ _ _ _ _ _ _ _ _=>none
 |n+1=>Ik (Bd n) (A9 n) (A_ n) (Bf n) (BZ n)
end
def Q3(R3:Ia)(R8:Ic)(gu:HT)(R21:HO)(R25:Ha)(CL CN:Int)(BQ:Bool)(p1:Int)(b0:AAF)(b1:AAT)(b2:AAF)(b3:AAP)(b4:AAj)(b5:AAo)(b6:AAs)(b7:AAa):Option B5:=
 if(0:Int)≤p1∧p1<(b1.length:Int)then(
 R3 p1 0 b0 b1 b2 b3 b4 b5 b6 b7 CL CN BQ 0 0 false [] [] [] [] [] [] [] [] ((b1.getD (p1.toNat) ([],[],0,())).1) ((b1.getD (p1.toNat) ([],[],0,())).2.1) ((b1.getD (p1.toNat) ([],[],0,())).2.2.1))else none
def WE(CL CN:Int)(BQ:Bool)(p1:Int)(b0:AAF)(b1:AAT)(b2:AAF)(b3:AAP)(b4:AAj)(b5:AAo)(b6:AAs)(b7:AAa):Option B5:=Q3 (Bd Ab) (A9 Ab) (A_ Ab) (Bf Ab) (BZ Ab) CL CN BQ p1 b0 b1 b2 b3 b4 b5 b6 b7
abbrev np:Type:=AB_×ACf
def WK(CL CN:Int)(BQ:Bool)(p1:ABe)(b0:AAF)(b1:AAT)(b2:AAF)(b3:AAP)(b4:AAj)(b5:AAo)(b6:AAs)(b7:AAa):Option np:=
 (Hl (b0,CL,b1,b2,b3,CN,b4,b5,b6,b7,BQ,()) p1.2.1).bind fun u1=>
 cond (u1.1.1 !=0)
  (some (((((),CL,(),(),(),CN,(),(),(),(),BQ,()),u1.1.1,()),()),(b0,b1,b2,b3,b4,b5,b6,b7,())))
 (if(0:Int)≤p1.2.1∧p1.2.1<(b1.length:Int)then(
 (Jx ((b1.getD (p1.2.1.toNat) ([],[],0,())).1,(b1.getD (p1.2.1.toNat) ([],[],0,())).2.1,(b1.getD (p1.2.1.toNat) ([],[],0,())).2.2.1,())).bind fun u2=>
 cond (!u2.1.1.2.1)
  (some (((((),CL,(),(),(),CN,(),(),(),(),BQ,()),4,()),()),(b0,b1,b2,b3,b4,b5,b6,b7,())))
 (if(0:Int)≤p1.2.1∧p1.2.1<(b1.length:Int)then(
 (WE CL CN BQ p1.2.1 b0 (b1.set (p1.2.1.toNat) (u2.2.1,u2.2.2.1,u2.1.1.1.2.2.1,())) b2 b3 b4 b5 b6 b7).bind fun u4=>
 some (((((),u4.1.1.2.1,(),(),(),u4.1.1.2.2.2.2.2.1,(),(),(),(),u4.1.1.2.2.2.2.2.2.2.2.2.2.1,()),0,()),()),(u4.2.1,u4.2.2.1,u4.2.2.2.1,u4.2.2.2.2.1,u4.2.2.2.2.2.1,u4.2.2.2.2.2.2.1,u4.2.2.2.2.2.2.2.1,u4.2.2.2.2.2.2.2.2.1,())))else none))else none)
abbrev UD:Type:=ABc×ABd
abbrev W4:Type:=List Int→List Int→Int→List Int→Option UD
def YX(R3:W4)(t0 t1:AAF)(t6:Int)(b0:AAF):Option UD:=
 cond ((decide (t6<(t0.length:Int))))
  (if(0:Int)≤t6∧t6<(t0.length:Int)then(
  (Cv t1 (t0.getD (t6.toNat) 0)).bind fun u3=>
  cond (!u3.1.1)
   (if(0:Int)≤t6∧t6<(t0.length:Int)then(
   if b0.length+1≤DF then(
   R3 t0 t1 (AU (t6+1)) (b0++[(t0.getD (t6.toNat) 0)]))else none)else none)
  (R3 t0 t1 (AU (t6+1)) b0))else none)
 (some (((),()),(b0,())))
def O2:Nat→W4
 |0=>fun _ _ _ _=>none
 |n+1=>YX (O2 n)
def YE(R3:W4)(p0 p1:AAF):Option UD:=
 R3 p0 p1 0 []
def I2(p0 p1:AAF):Option UD:=YE (O2 Ab) p0 p1
abbrev LZ:Type:=AEp×AD4
abbrev ON:Type:=Int→Int→Int→ABX→Int→ABX→Option LZ
def RH(R5:ON)(t2 t9 AM:Int)(b1:ABX)(Iy:Int)(b3:ABX):Option LZ:=
 cond ((decide (t9<(b3.length:Int))))
  (if(0:Int)≤t9∧t9<(b3.length:Int)then(
  cond (!((b3.getD (t9.toNat) ([],[],false,())).2.2.1))
   (if(0:Int)≤t9∧t9<(b3.length:Int)then(
   (I2 ((b3.getD (t9.toNat) ([],[],false,())).2.1) [t2]).bind fun u5=>
   if(0:Int)≤t9∧t9<(b3.length:Int)then(
   R5 t2 (AU (t9+1)) AM b1 Iy (b3.set (t9.toNat) ((b3.getD (t9.toNat) ([],[],false,())).1,u5.2.1,(b3.getD (t9.toNat) ([],[],false,())).2.2.1,())))else none)else none)
  (R5 t2 (AU (t9+1)) AM b1 Iy b3))else none)
 (some ((((Iy,(),()),true,()),()),(b3,())))
def H8:Nat→ON
 |0=>fun _ _ _ _ _ _=>none
 |n+1=>RH (H8 n)
def RV(R5:ON)(p0:ABA)(p1:ABb)(p2:Int):Option LZ:=
 (Hj (p0.1,p0.2.1,()) (p1.1,p1.2.1,())).bind fun u1=>
 cond (!u1.1.1)
  (some ((((0,(),()),false,()),()),([],())))
 ((EO (p1.1,p1.2.1,())).bind fun u2=>
 R5 p2 0 0 [] u2.1.1.1 u2.2.1)
def N1(p0:ABA)(p1:ABb)(p2:Int):Option LZ:=RV (H8 Ab) p0 p1 p2
abbrev N7:Type:=AEI×AC2
abbrev Qx:Type:=Int→Int→Int→Int→Bool→List Int→AAZ→List AAF→Int→Int→Bool→List Int→AAZ→List AAF→Option N7
def Td(R5:Qx)(t2 t9 AM AE:Int)(ET:Bool)(b1:AAF)(b2:AAZ)(b3:List AAF)(hD ed:Int)(vE:Bool)(b5:AAF)(b6:AAZ)(b7:List AAF):Option N7:=
 cond ((decide (t9<(b7.length:Int))))
  (if(0:Int)≤t9∧t9<(b7.length:Int)then(
  (I2 (b7.getD (t9.toNat) []) [t2]).bind fun u4=>
  if(0:Int)≤t9∧t9<(b7.length:Int)then(
  R5 t2 (AU (t9+1)) AM AE ET b1 b2 b3 hD ed vE b5 b6 (b7.set (t9.toNat) u4.2.1))else none)else none)
 (some ((((hD,ed,(),(),vE,(),()),true,()),()),(b5,b6,b7,())))
def Jo:Nat→Qx
 |0=>fun _ _ _ _ _ _ _ _ _ _ _ _ _ _=>none
 |n+1=>Td (Jo n)
def Tc(R5:Qx)(p0:ABA)(p1:ABT)(p2:Int):Option N7:=
 (I7 (p0.1,p0.2.1,()) (p1.1,p1.2.1,p1.2.2.1,p1.2.2.2.1,p1.2.2.2.2.1,p1.2.2.2.2.2.1,())).bind fun u1=>
 cond (!u1.1.1)
  (some ((((0,0,(),(),false,(),()),false,()),()),([],[],[],())))
 ((EL (p1.1,p1.2.1,p1.2.2.1,p1.2.2.2.1,p1.2.2.2.2.1,p1.2.2.2.2.2.1,())).bind fun u2=>
 R5 p2 0 0 0 false [] [] [] u2.1.1.1 u2.1.1.2.1 u2.1.1.2.2.2.2.1 u2.2.1 u2.2.2.1 u2.2.2.2.1)
def Qd(p0:ABA)(p1:ABT)(p2:Int):Option N7:=Tc (Jo Ab) p0 p1 p2
abbrev Jn:Type:=AB_×AKH
abbrev QO:Type:=Int→List Int→AAT→List Int→AAP→AAj→AAo→AAs→AAa→Int→Int→Bool→List Int→Int→Int→Int→Int→List UInt8→Int→Int→Bool→List Int→AAT→List Int→AAP→AAj→AAo→AAs→AAa→Option Jn
abbrev PD:Type:=Int→List Int→AAT→List Int→AAP→AAj→AAo→AAs→AAa→Int→Int→Bool→List Int→Int→Int→Int→Int→List UInt8→Int→Int→Bool→List Int→AAT→List Int→AAP→AAj→AAo→AAs→AAa→Option Jn
def W_(R7:QO)(rh:PD)(t7:Int)(b0:AAF)(b1:AAT)(b2:AAF)(b3:AAP)(b4:AAj)(b5:AAo)(b6:AAs)(b7:AAa)(Db Dq:Int)(CM:Bool)(b9:AAF)(zE Dh zB zI:Int)(yu:ABY)(yi ym:Int)(td:Bool)(DX:AAF)(F7:AAT)(GV:AAF)(Dv:AAP)(D_:AAj)(E8:AAo)(VO:AAs)(sS:AAa):Option Jn:=
 cond ((decide (t7<(b4.length:Int))))
  (if(0:Int)≤t7∧t7<(b4.length:Int)then(
  (N1 (b0,Db,()) ((b4.getD (t7.toNat) (0,[],())).1,(b4.getD (t7.toNat) (0,[],())).2.1,()) Dh).bind fun u5=>
  if(0:Int)≤t7∧t7<(b4.length:Int)then(
  R7 (AU (t7+1)) b0 b1 b2 b3 (b4.set (t7.toNat) (u5.1.1.1.1,u5.2.1,())) b5 b6 b7 Db Dq CM b9 zE Dh zB zI yu yi ym td DX F7 GV Dv D_ E8 VO sS)else none)else none)
 (rh 0 b0 b1 b2 b3 b4 b5 b6 b7 Db Dq CM b9 zE Dh zB zI yu yi ym td DX F7 GV Dv D_ E8 VO sS)
def V3(R7:QO)(rh:PD)(t8:Int)(b0:AAF)(b1:AAT)(b2:AAF)(b3:AAP)(b4:AAj)(b5:AAo)(b6:AAs)(b7:AAa)(Db Dq:Int)(CM:Bool)(b9:AAF)(zE Dh zB zI:Int)(yu:ABY)(yi ym:Int)(td:Bool)(DX:AAF)(F7:AAT)(GV:AAF)(Dv:AAP)(D_:AAj)(E8:AAo)(VO:AAs)(sS:AAa):Option Jn:=
 cond ((decide (t8<(b5.length:Int))))
  (if(0:Int)≤t8∧t8<(b5.length:Int)then(
  (Qd (b0,Db,()) ((b5.getD (t8.toNat) (0,0,[],[],false,[],())).1,(b5.getD (t8.toNat) (0,0,[],[],false,[],())).2.1,(b5.getD (t8.toNat) (0,0,[],[],false,[],())).2.2.1,(b5.getD (t8.toNat) (0,0,[],[],false,[],())).2.2.2.1,(b5.getD (t8.toNat) (0,0,[],[],false,[],())).2.2.2.2.1,(b5.getD (t8.toNat) (0,0,[],[],false,[],())).2.2.2.2.2.1,()) Dh).bind fun u8=>
  if(0:Int)≤t8∧t8<(b5.length:Int)then(
  rh (AU (t8+1)) b0 b1 b2 b3 b4 (b5.set (t8.toNat) (u8.1.1.1.1,u8.1.1.1.2.1,u8.2.1,u8.2.2.1,u8.1.1.1.2.2.2.2.1,u8.2.2.2.1,())) b6 b7 Db Dq CM b9 zE Dh zB zI yu yi ym td DX F7 GV Dv D_ E8 VO sS)else none)else none)
 (cond (CM)
  (some (((((),Db,(),(),(),Dq,(),(),(),(),true,()),0,()),()),(b0,b1,(),b3,b4,b5,b6,b7,b9,())))
 ((Em (b0,Db,()) b9).bind fun D5=>
 some (((((),Db,(),(),(),Dq,(),(),(),(),D5.1.1,()),0,()),()),(b0,b1,(),b3,b4,b5,b6,b7,b9,()))))
mutual
def KQ:Nat→QO
 |0=>fun _ _ _ _ _ _ _ _ _ _ _ _ _ _ _ _ _ _ _ _ _ _ _ _ _ _ _ _ _=>none
 |n+1=>W_ (KQ n) (JM n)
def JM:Nat→PD
 |0=>fun _ _ _ _ _ _ _ _ _ _ _ _ _ _ _ _ _ _ _ _ _ _ _ _ _ _ _ _ _=>none
 |n+1=>V3 (KQ n) (JM n)
end
def XL(R7:QO)(rh:PD)(CL CN:Int)(BQ:Bool)(p1:ABe)(b0:AAF)(b1:AAT)(b2:AAF)(b3:AAP)(b4:AAj)(b5:AAo)(b6:AAs)(b7:AAa):Option Jn:=
 (Hl (b0,CL,b1,b2,b3,CN,b4,b5,b6,b7,BQ,()) p1.2.1).bind fun u1=>
 cond (u1.1.1 !=0)
  (some (((((),CL,(),(),(),CN,(),(),(),(),BQ,()),u1.1.1,()),()),(b0,b1,(),b3,b4,b5,b6,b7,b2,())))
 (if(0:Int)≤p1.2.1∧p1.2.1<(b1.length:Int)then(
 (IZ b2 p1.2.1).bind fun u3=>
 R7 0 b0 (b1.set (p1.2.1.toNat) ([],[],0,())) b2 b3 b4 b5 b6 b7 CL CN BQ u3.2.1 p1.1 p1.2.1 p1.2.2.1 p1.2.2.2.1 p1.2.2.2.2.1 0 0 false [] [] [] [] [] [] [] [])else none)
def WG(CL CN:Int)(BQ:Bool)(p1:ABe)(b0:AAF)(b1:AAT)(b2:AAF)(b3:AAP)(b4:AAj)(b5:AAo)(b6:AAs)(b7:AAa):Option Jn:=XL (KQ Ab) (JM Ab) CL CN BQ p1 b0 b1 b2 b3 b4 b5 b6 b7
abbrev qp:Type:=ABU×Unit
def Yy(p0:ABA)(p1:AAF):Option qp:=
 (Gv (p0.1,p0.2.1,()) p1).bind fun u1=>
 cond (u1.1.1)
  ((Em (p0.1,p0.2.1,()) p1).bind fun u2=>
  some ((!u2.1.1,()),()))
 (some ((false,()),()))
abbrev KP:Type:=ABc×AEh
abbrev Pd:Type:=AAT→Int→AAZ→Option KP
abbrev PK:Type:=AAT→Int→Int→AAZ→Option KP
def V8(R3:Pd)(R6:PK)(t0:AAT)(t4:Int)(b0:AAZ):Option KP:=
 cond ((decide (t4<(t0.length:Int))))
  (R6 t0 t4 0 b0)
 (some (((),()),(b0,())))
def V0(R3:Pd)(R6:PK)(t0:AAT)(t4 t5:Int)(b0:AAZ):Option KP:=
 if(0:Int)≤t4∧t4<(t0.length:Int)then(
 cond (decide (t5<(((t0.getD (t4.toNat) ([],[],0,())).1).length:Int)))
  (if(0:Int)≤t4∧t4<(t0.length:Int)then(
  if(0:Int)≤t5∧t5<(((t0.getD (t4.toNat) ([],[],0,())).1).length:Int)then(
  (RN b0 ((((t0.getD (t4.toNat) ([],[],0,())).1).getD (t5.toNat) (0,0,false,[],())).1,(((t0.getD (t4.toNat) ([],[],0,())).1).getD (t5.toNat) (0,0,false,[],())).2.1,(((t0.getD (t4.toNat) ([],[],0,())).1).getD (t5.toNat) (0,0,false,[],())).2.2.1,(((t0.getD (t4.toNat) ([],[],0,())).1).getD (t5.toNat) (0,0,false,[],())).2.2.2.1,())).bind fun u3=>
  R6 t0 t4 (AU (t5+1)) u3.2.1)else none)else none)
 (R3 t0 (AU (t4+1)) b0))else none
mutual
def JN:Nat→Pd
 |0=>fun _ _ _=>none
 |n+1=>V8 (JN n) (JO n)
def JO:Nat→PK
 |0=>fun _ _ _ _=>none
 |n+1=>V0 (JN n) (JO n)
end
def ef(R3:Pd)(R6:PK)(p0:AAT):Option KP:=
 R3 p0 0 []
def ZI(p0:AAT):Option KP:=ef (JN Ab) (JO Ab) p0
abbrev Oh:Type:=ADl×AKR
abbrev WD:Type:=List Int→Int→Int→AAT→Int→AAZ→AAZ→Int→AAZ→AAZ→AAT→Option Oh
abbrev Ub:Type:=Int→Int→AAT→Int→AAZ→AAZ→Int→AAZ→AAZ→AAT→Option Oh
def ba(R6:WD)(rh:Ub)(t2:AAF)(t4 t14:Int)(b0:AAT)(DK:Int)(b2 b3:AAZ)(Mo:Int)(b5 b6:AAZ)(b7:AAT):Option Oh:=
 cond ((decide (t14<(b0.length:Int))))
  ((Cv t2 t14).bind fun u6=>
  cond (!u6.1.1)
   (if(0:Int)≤t14∧t14<(b0.length:Int)then(
   if b7.length+1≤DF then(
   R6 t2 t4 (AU (t14+1)) b0 DK b2 b3 Mo b5 b6 (b7++[((b0.getD (t14.toNat) ([],[],0,())).1,(b0.getD (t14.toNat) ([],[],0,())).2.1,(b0.getD (t14.toNat) ([],[],0,())).2.2.1,())]))else none)else none)
  (R6 t2 t4 (AU (t14+1)) b0 DK b2 b3 Mo b5 b6 b7))
 (rh t4 0 b0 DK b2 b3 Mo b5 b6 b7)
def aP(R6:WD)(rh:Ub)(t4 t15:Int)(b0:AAT)(DK:Int)(b2 b3:AAZ)(Mo:Int)(b5 b6:AAZ)(b7:AAT):Option Oh:=
 cond ((decide (t15<(b7.length:Int))))
  (if(0:Int)≤t15∧t15<(b7.length:Int)then(
  (Gu ((b7.getD (t15.toNat) ([],[],0,())).1,(b7.getD (t15.toNat) ([],[],0,())).2.1,(b7.getD (t15.toNat) ([],[],0,())).2.2.1,())).bind fun u9=>
  cond (!u9.1.1)
   (some (((((),(),Mo,()),false,()),()),(b0,b5,b6,())))
  (rh t4 (AU (t15+1)) b0 DK b2 b3 Mo b5 b6 b7))else none)
 ((ZI b7).bind fun D5=>
 (Gu (D5.2.1,[],t4,())).bind fun MZ=>
 cond (!MZ.1.1)
  (some (((((),(),Mo,()),false,()),()),(b0,b5,b6,())))
 (some (((((),(),t4,()),true,()),()),(b0,D5.2.1,[],()))))
mutual
def O5:Nat→WD
 |0=>fun _ _ _ _ _ _ _ _ _ _ _=>none
 |n+1=>ba (O5 n) (Nb n)
def Nb:Nat→Ub
 |0=>fun _ _ _ _ _ _ _ _ _ _=>none
 |n+1=>aP (O5 n) (Nb n)
end
def bf(R6:WD)(rh:Ub)(p0:ABA)(p2:AAF)(p3 p4:Int)(b0:AAT):Option Oh:=
 (Ge (p0.1,p0.2.1,())).bind fun u1=>
 cond (!u1.1.1)
  (some (((((),(),0,()),false,()),()),(b0,[],[],())))
 (cond (((b0.length:Int) !=(p0.1.length:Int)))
  (some (((((),(),0,()),false,()),()),(b0,[],[],())))
 ((Yy (p0.1,p0.2.1,()) p2).bind fun u3=>
 cond (!u3.1.1)
  (some (((((),(),0,()),false,()),()),(b0,[],[],())))
 ((Cv p2 p3).bind fun u4=>
 cond (!u4.1.1)
  (some (((((),(),0,()),false,()),()),(b0,[],[],())))
 (R6 p2 p4 0 b0 0 [] [] 0 [] [] []))))
def eP(p0:ABA)(p2:AAF)(p3 p4:Int)(b0:AAT):Option Oh:=bf (O5 Ab) (Nb Ab) p0 p2 p3 p4 b0
abbrev pO:Type:=AB_×AKH
def WU(CL CN:Int)(BQ:Bool)(p1:ABe)(b0:AAF)(b1:AAT)(b2:AAF)(b3:AAP)(b4:AAj)(b5:AAo)(b6:AAs)(b7:AAa):Option pO:=
 (Cv b2 p1.2.1).bind fun u1=>
 cond (!u1.1.1)
  (some (((((),CL,(),(),(),CN,(),(),(),(),BQ,()),2,()),()),(b0,b1,(),b3,b4,b5,b6,b7,b2,())))
 ((FQ (AU ((b3.length:Int)-1)) 0).bind fun u3=>
 (eP (b0,CL,()) b2 p1.2.1 u3.1.1 b1).bind fun u4=>
 cond (!u4.1.1.2.1)
  (some (((((),CL,(),(),(),CN,(),(),(),(),BQ,()),4,()),()),(b0,u4.2.1,(),b3,b4,b5,b6,b7,b2,())))
 (if(0:Int)≤p1.2.1∧p1.2.1<(u4.2.1.length:Int)then(
 (I2 b2 [p1.2.1]).bind fun u6=>
 some (((((),CL,(),(),(),CN,(),(),(),(),BQ,()),0,()),()),(b0,(u4.2.1.set (p1.2.1.toNat) (u4.2.2.1,u4.2.2.2.1,u4.1.1.1.2.2.1,())),(),b3,b4,b5,b6,b7,u6.2.1,())))else none))
abbrev Lq:Type:=AED×AC2
def Mk(p0 p1:Int):Option Lq:=
 some (((p1,p0,(),(),false,(),()),()),([],[],[],()))
abbrev dR:Type:=AB_×(List Int×AAT×List Int×AAP×AAj×Unit×AAs×AAa×AAo×Unit)
def Wd(CL CN:Int)(BQ:Bool)(b0:AAF)(b1:AAT)(b2:AAF)(b3:AAP)(b4:AAj)(b5:AAo)(b6:AAs)(b7:AAa):Option dR:=
 (JY (b3,CN,())).bind fun u1=>
 cond ((decide ((b3.length:Int)<2)))
  (some (((((),CL,(),(),(),CN,(),(),(),(),BQ,()),2,()),()),(b0,b1,b2,b3,b4,(),b6,b7,b5,())))
 (cond ((u1.1.1==(b3.length:Int)))
  (some (((((),CL,(),(),(),CN,(),(),(),(),BQ,()),2,()),()),(b0,b1,b2,b3,b4,(),b6,b7,b5,())))
 (cond ((decide ((b5.length:Int)>0)))
  (some (((((),CL,(),(),(),CN,(),(),(),(),BQ,()),4,()),()),(b0,b1,b2,b3,b4,(),b6,b7,b5,())))
 ((Mk u1.1.1 (b3.length:Int)).bind fun u5=>
 some (((((),CL,(),(),(),CN,(),(),(),(),BQ,()),0,()),()),(b0,b1,b2,b3,b4,(),b6,b7,[(u5.1.1.1,u5.1.1.2.1,u5.2.1,u5.2.2.1,u5.1.1.2.2.2.2.1,u5.2.2.2.1,())],())))))
abbrev kh:Type:=ADl×ACz
def OM(p0:ABa)(p1:Int):Option kh:=
 (Gu (p0.1,p0.2.1,p0.2.2.1,())).bind fun u1=>
 cond (!u1.1.1)
  (some (((((),(),0,()),false,()),()),([],[],())))
 ((Jx (p0.1,p0.2.1,p0.2.2.1,())).bind fun u2=>
 cond (!u2.1.1.2.1)
  ((Ej (p0.1,p0.2.1,p0.2.2.1,())).bind fun u3=>
  some (((((),(),u3.1.1.2.2.1,()),false,()),()),(u3.2.1,u3.2.2.1,())))
 ((CK p1 0 30).bind fun u4=>
 cond (!u4.1.1)
  ((Ej (p0.1,p0.2.1,p0.2.2.1,())).bind fun u5=>
  some (((((),(),u5.1.1.2.2.1,()),false,()),()),(u5.2.1,u5.2.2.1,())))
 ((FQ u2.1.1.1.2.2.1 p1).bind fun u6=>
 some (((((),(),u6.1.1,()),true,()),()),(u2.2.1,u2.2.2.1,())))))
abbrev Fm:Type:=ABc×AEh
abbrev T5:Type:=Int→Int→AAZ→AAZ→Int→AAZ→Option Fm
def Ph(R3:T5)(t1 t6:Int)(AM AE:AAZ)(Ac:Int)(b1:AAZ):Option Fm:=
 cond ((decide (t6<(AM.length:Int))))
  ((Gu (AM,AE,Ac,())).bind fun u2=>
  cond (u2.1.1)
   (if(0:Int)≤t6∧t6<(AM.length:Int)then(
   (Cl ((AM.getD (t6.toNat) (0,0,false,[],())).1)).bind fun u4=>
   cond (u4.1.1==t1)
    (if(0:Int)≤t6∧t6<(AM.length:Int)then(
    if b1.length+1≤DF then(
    R3 t1 (AU (t6+1)) AM AE Ac (b1++[((AM.getD (t6.toNat) (0,0,false,[],())).1,(AM.getD (t6.toNat) (0,0,false,[],())).2.1,(AM.getD (t6.toNat) (0,0,false,[],())).2.2.1,(AM.getD (t6.toNat) (0,0,false,[],())).2.2.2.1,())]))else none)else none)
   (R3 t1 (AU (t6+1)) AM AE Ac b1))else none)
  (some (((),()),(b1,()))))
 (some (((),()),(b1,())))
def JF:Nat→T5
 |0=>fun _ _ _ _ _ _=>none
 |n+1=>Ph (JF n)
def WC(R3:T5)(p0:ABa)(p1:Int):Option Fm:=
 R3 p1 0 p0.1 p0.2.1 p0.2.2.1 []
def I5(p0:ABa)(p1:Int):Option Fm:=WC (JF Ab) p0 p1
abbrev F4:Type:=AEI×AC2
abbrev T7:Type:=AAZ→Int→List Int→Int→Int→Int→List Int→AAZ→Bool→List AAF→Int→Int→Bool→List Int→AAZ→List AAF→Int→Int→Bool→List Int→AAZ→List AAF→Option F4
def Vt(R6:T7)(t3:AAZ)(t11:Int)(AM:AAF)(AE BI Az:Int)(DK:AAF)(G4:AAZ)(M6:Bool)(D8:List AAF)(Iy K_:Int)(Pk:Bool)(b3:AAF)(b4:AAZ)(b5:List AAF)(LM KA:Int)(LL:Bool)(b7:AAF)(b8:AAZ)(b9:List AAF):Option F4:=
 cond ((decide (t11<(t3.length:Int))))
  (if(0:Int)≤t11∧t11<(t3.length:Int)then(
  (Cl ((t3.getD (t11.toNat) (0,0,false,[],())).1)).bind fun u6=>
  cond (u6.1.1==Az)
   (if(0:Int)≤t11∧t11<(t3.length:Int)then(
   (RN b8 ((t3.getD (t11.toNat) (0,0,false,[],())).1,(t3.getD (t11.toNat) (0,0,false,[],())).2.1,(t3.getD (t11.toNat) (0,0,false,[],())).2.2.1,(t3.getD (t11.toNat) (0,0,false,[],())).2.2.2.1,())).bind fun u7=>
   R6 t3 (AU (t11+1)) AM AE BI Az DK G4 M6 D8 Iy K_ Pk b3 b4 b5 LM KA LL b7 u7.2.1 b9)else none)
  (R6 t3 (AU (t11+1)) AM AE BI Az DK G4 M6 D8 Iy K_ Pk b3 b4 b5 LM KA LL b7 b8 b9))else none)
 (cond (M6)
  ((EL (BI,Az,DK,G4,M6,D8,())).bind fun u8=>
  some ((((u8.1.1.1,u8.1.1.2.1,(),(),u8.1.1.2.2.2.2.1,(),()),false,()),()),(u8.2.1,u8.2.2.1,u8.2.2.2.1,())))
 ((I7 (AM,AE,()) (LM,KA,b7,b8,LL,b9,())).bind fun u9=>
 cond (!u9.1.1)
  ((EL (BI,Az,DK,G4,M6,D8,())).bind fun D5=>
  some ((((D5.1.1.1,D5.1.1.2.1,(),(),D5.1.1.2.2.2.2.1,(),()),false,()),()),(D5.2.1,D5.2.2.1,D5.2.2.2.1,())))
 (some ((((LM,KA,(),(),LL,(),()),true,()),()),(b7,b8,b9,())))))
def MT:Nat→T7
 |0=>fun _ _ _ _ _ _ _ _ _ _ _ _ _ _ _ _ _ _ _ _ _ _=>none
 |n+1=>Vt (MT n)
def Vz(R6:T7)(p0:ABA)(p1:ABT)(p2:Int)(p3:AAZ):Option F4:=
 (I7 (p0.1,p0.2.1,()) (p1.1,p1.2.1,p1.2.2.1,p1.2.2.2.1,p1.2.2.2.2.1,p1.2.2.2.2.2.1,())).bind fun u1=>
 cond (!u1.1.1)
  (some ((((0,0,(),(),false,(),()),false,()),()),([],[],[],())))
 ((EL (p1.1,p1.2.1,p1.2.2.1,p1.2.2.2.1,p1.2.2.2.2.1,p1.2.2.2.2.2.1,())).bind fun u2=>
 (IZ u2.2.1 p2).bind fun u3=>
 R6 p3 0 p0.1 p0.2.1 p1.1 p1.2.1 p1.2.2.1 p1.2.2.2.1 p1.2.2.2.2.1 p1.2.2.2.2.2.1 0 0 false [] [] [] u2.1.1.1 u2.1.1.2.1 u2.1.1.2.2.2.2.1 u3.2.1 u2.2.2.1 u2.2.2.2.1)
def JA(p0:ABA)(p1:ABT)(p2:Int)(p3:AAZ):Option F4:=Vz (MT Ab) p0 p1 p2 p3
abbrev pd:Type:=AB_×ACf
def WM(CL CN:Int)(BQ:Bool)(p1:ABe)(b0:AAF)(b1:AAT)(b2:AAF)(b3:AAP)(b4:AAj)(b5:AAo)(b6:AAs)(b7:AAa):Option pd:=
 cond (((b5.length:Int)==0))
  (some (((((),CL,(),(),(),CN,(),(),(),(),BQ,()),2,()),()),(b0,b1,b2,b3,b4,b5,b6,b7,())))
 (if(0:Int)≤(0:Int)∧(0:Int)<(b5.length:Int)then(
 (Hl (b0,CL,b1,b2,b3,CN,b4,b5,b6,b7,BQ,()) p1.2.1).bind fun u2=>
 cond (u2.1.1 !=0)
  (some (((((),CL,(),(),(),CN,(),(),(),(),BQ,()),u2.1.1,()),()),(b0,b1,b2,b3,b4,b5,b6,b7,())))
 ((Cb (b3,CN,()) ((b5.getD 0 (0,0,[],[],false,[],())).2.1)).bind fun u4=>
 (Cv u4.2.1 p1.2.1).bind fun u5=>
 cond (!u5.1.1)
  (some (((((),CL,(),(),(),CN,(),(),(),(),BQ,()),2,()),()),(b0,b1,b2,b3,b4,b5,b6,b7,())))
 (if(0:Int)≤p1.2.1∧p1.2.1<(b1.length:Int)then(
 (OM ((b1.getD (p1.2.1.toNat) ([],[],0,())).1,(b1.getD (p1.2.1.toNat) ([],[],0,())).2.1,(b1.getD (p1.2.1.toNat) ([],[],0,())).2.2.1,()) (AU (((b5.getD 0 (0,0,[],[],false,[],())).1)-1))).bind fun u7=>
 (I5 (u7.2.1,u7.2.2.1,u7.1.1.1.2.2.1,()) ((b5.getD 0 (0,0,[],[],false,[],())).2.1)).bind fun u9=>
 (JA (b0,CL,()) ((b5.getD 0 (0,0,[],[],false,[],())).1,(b5.getD 0 (0,0,[],[],false,[],())).2.1,(b5.getD 0 (0,0,[],[],false,[],())).2.2.1,(b5.getD 0 (0,0,[],[],false,[],())).2.2.2.1,(b5.getD 0 (0,0,[],[],false,[],())).2.2.2.2.1,(b5.getD 0 (0,0,[],[],false,[],())).2.2.2.2.2.1,()) p1.2.1 u9.2.1).bind fun D5=>
 cond (!u7.1.1.2.1)
  (some (((((),CL,(),(),(),CN,(),(),(),(),BQ,()),4,()),()),(b0,b1,b2,b3,b4,b5,b6,b7,())))
 (cond (!D5.1.1.2.1)
  (some (((((),CL,(),(),(),CN,(),(),(),(),BQ,()),4,()),()),(b0,b1,b2,b3,b4,b5,b6,b7,())))
 (if(0:Int)≤p1.2.1∧p1.2.1<(b1.length:Int)then(
 if(0:Int)≤(0:Int)∧(0:Int)<(b5.length:Int)then(
 some (((((),CL,(),(),(),CN,(),(),(),(),BQ,()),0,()),()),(b0,(b1.set (p1.2.1.toNat) (u7.2.1,u7.2.2.1,u7.1.1.1.2.2.1,())),b2,b3,b4,(b5.set 0 (D5.1.1.1.1,D5.1.1.1.2.1,D5.2.1,D5.2.2.1,D5.1.1.1.2.2.2.2.1,D5.2.2.2.1,())),b6,b7,())))else none)else none)))else none)))else none)
abbrev qe:Type:=ABc×ABd
def KZ(p0 p1:AAF):Option qe:=
 (I2 p0 p1).bind fun u1=>
 (I2 p0 u1.2.1).bind fun u2=>
 some (((),()),(u2.2.1,()))
abbrev qb:Type:=ABU×Unit
def Kb(p0:ABA)(p1 p2:AAF):Option qb:=
 (Em (p0.1,p0.2.1,()) p1).bind fun u1=>
 cond (!u1.1.1)
  (some ((false,()),()))
 ((Gv (p0.1,p0.2.1,()) p2).bind fun u2=>
 cond (!u2.1.1)
  (some ((false,()),()))
 ((I2 p2 p1).bind fun u3=>
 cond (decide ((u3.2.1.length:Int)>0))
  (some ((false,()),()))
 ((I2 p1 p2).bind fun u5=>
 (Uh (p0.1,p0.2.1,()) u5.2.1).bind fun u6=>
 some (((decide (u6.1.1<p0.2.1)),()),()))))
abbrev Fo:Type:=AEI×AC2
abbrev Th:Type:=Int→Int→Int→List Int→AAZ→Bool→List AAF→Int→Int→Bool→List Int→AAZ→List AAF→Int→Int→Bool→List Int→AAZ→List AAF→Option Fo
def Vn(R8:Th)(t9 AM AE:Int)(Ac:AAF)(DN:AAZ)(ET:Bool)(Aa:List AAF)(BI Az:Int)(M6:Bool)(b2:AAF)(b3:AAZ)(b4:List AAF)(ABk AER:Int)(AET:Bool)(b6:AAF)(b7:AAZ)(b8:List AAF):Option Fo:=
 (RQ (AM,AE,Ac,DN,ET,Aa,())).bind fun u5=>
 cond (decide (t9<u5.1.1))
  (if b8.length+1≤DF then(
  R8 (AU (t9+1)) AM AE Ac DN ET Aa BI Az M6 b2 b3 b4 ABk AER AET b6 b7 (b8++[[]]))else none)
 (some ((((ABk,AER,(),(),AET,(),()),true,()),()),(b6,b7,b8,())))
def Lk:Nat→Th
 |0=>fun _ _ _ _ _ _ _ _ _ _ _ _ _ _ _ _ _ _ _=>none
 |n+1=>Vn (Lk n)
def Vs(R8:Th)(p0:ABA)(p1:ABT)(p2:AAF):Option Fo:=
 (I7 (p0.1,p0.2.1,()) (p1.1,p1.2.1,p1.2.2.1,p1.2.2.2.1,p1.2.2.2.2.1,p1.2.2.2.2.2.1,())).bind fun u1=>
 cond (!u1.1.1)
  (some ((((0,0,(),(),false,(),()),false,()),()),([],[],[],())))
 ((EL (p1.1,p1.2.1,p1.2.2.1,p1.2.2.2.1,p1.2.2.2.2.1,p1.2.2.2.2.2.1,())).bind fun u2=>
 cond (p1.2.2.2.2.1)
  (some ((((u2.1.1.1,u2.1.1.2.1,(),(),u2.1.1.2.2.2.2.1,(),()),false,()),()),(u2.2.1,u2.2.2.1,u2.2.2.2.1,())))
 ((KZ p1.2.2.1 p2).bind fun u3=>
 (Kb (p0.1,p0.2.1,()) p2 u3.2.1).bind fun u4=>
 cond (!u4.1.1)
  (some ((((u2.1.1.1,u2.1.1.2.1,(),(),u2.1.1.2.2.2.2.1,(),()),false,()),()),(u2.2.1,u2.2.2.1,u2.2.2.2.1,())))
 (R8 0 p1.1 p1.2.1 p1.2.2.1 p1.2.2.2.1 p1.2.2.2.2.1 p1.2.2.2.2.2.1 0 0 false [] [] [] u2.1.1.1 u2.1.1.2.1 true u2.2.1 u2.2.2.1 u2.2.2.2.1)))
def I1(p0:ABA)(p1:ABT)(p2:AAF):Option Fo:=Vs (Lk Ab) p0 p1 p2
abbrev o8:Type:=AB_×ACf
def Wg(CL CN:Int)(BQ:Bool)(b0:AAF)(b1:AAT)(b2:AAF)(b3:AAP)(b4:AAj)(b5:AAo)(b6:AAs)(b7:AAa):Option o8:=
 cond (((b5.length:Int)==0))
  (some (((((),CL,(),(),(),CN,(),(),(),(),BQ,()),2,()),()),(b0,b1,b2,b3,b4,b5,b6,b7,())))
 (if(0:Int)≤(0:Int)∧(0:Int)<(b5.length:Int)then(
 if(0:Int)≤(0:Int)∧(0:Int)<(b5.length:Int)then(
 (Cb (b3,CN,()) ((b5.getD 0 (0,0,[],[],false,[],())).2.1)).bind fun u3=>
 (I1 (b0,CL,()) ((b5.getD 0 (0,0,[],[],false,[],())).1,(b5.getD 0 (0,0,[],[],false,[],())).2.1,(b5.getD 0 (0,0,[],[],false,[],())).2.2.1,(b5.getD 0 (0,0,[],[],false,[],())).2.2.2.1,(b5.getD 0 (0,0,[],[],false,[],())).2.2.2.2.1,(b5.getD 0 (0,0,[],[],false,[],())).2.2.2.2.2.1,()) u3.2.1).bind fun u4=>
 cond (!u4.1.1.2.1)
  (some (((((),CL,(),(),(),CN,(),(),(),(),BQ,()),4,()),()),(b0,b1,b2,b3,b4,b5,b6,b7,())))
 (if(0:Int)≤(0:Int)∧(0:Int)<(b5.length:Int)then(
 some (((((),CL,(),(),(),CN,(),(),(),(),BQ,()),0,()),()),(b0,b1,b2,b3,b4,(b5.set 0 (u4.1.1.1.1,u4.1.1.1.2.1,u4.2.1,u4.2.2.1,u4.1.1.1.2.2.2.2.1,u4.2.2.2.1,())),b6,b7,())))else none))else none)else none)
abbrev qd:Type:=AB_×ACf
def Y_(CL CN:Int)(BQ:Bool)(p1:ABe)(b0:AAF)(b1:AAT)(b2:AAF)(b3:AAP)(b4:AAj)(b5:AAo)(b6:AAs)(b7:AAa):Option qd:=
 cond (((b5.length:Int)==0))
  (some (((((),CL,(),(),(),CN,(),(),(),(),BQ,()),2,()),()),(b0,b1,b2,b3,b4,b5,b6,b7,())))
 (if(0:Int)≤(0:Int)∧(0:Int)<(b5.length:Int)then(
 (Eo ((b5.getD 0 (0,0,[],[],false,[],())).1,(b5.getD 0 (0,0,[],[],false,[],())).2.1,(b5.getD 0 (0,0,[],[],false,[],())).2.2.1,(b5.getD 0 (0,0,[],[],false,[],())).2.2.2.1,(b5.getD 0 (0,0,[],[],false,[],())).2.2.2.2.1,(b5.getD 0 (0,0,[],[],false,[],())).2.2.2.2.2.1,()) p1.2.2.1).bind fun u2=>
 cond (!u2.1.1.2.1)
  (some (((((),CL,(),(),(),CN,(),(),(),(),BQ,()),2,()),()),(b0,b1,b2,b3,b4,b5,b6,b7,())))
 ((Hl (b0,CL,b1,b2,b3,CN,b4,b5,b6,b7,BQ,()) p1.2.2.2.1).bind fun u3=>
 cond (u3.1.1 !=0)
  (some (((((),CL,(),(),(),CN,(),(),(),(),BQ,()),u3.1.1,()),()),(b0,b1,b2,b3,b4,b5,b6,b7,())))
 (if(0:Int)≤(0:Int)∧(0:Int)<(b5.length:Int)then(
 (Cb (b3,CN,()) ((b5.getD 0 (0,0,[],[],false,[],())).2.1)).bind fun u5=>
 (Cv u5.2.1 p1.2.2.2.1).bind fun u6=>
 cond (!u6.1.1)
  (some (((((),CL,(),(),(),CN,(),(),(),(),BQ,()),2,()),()),(b0,b1,b2,b3,b4,b5,b6,b7,())))
 (if(0:Int)≤p1.2.2.2.1∧p1.2.2.2.1<(b1.length:Int)then(
 (NX ((b1.getD (p1.2.2.2.1.toNat) ([],[],0,())).1,(b1.getD (p1.2.2.2.1.toNat) ([],[],0,())).2.1,(b1.getD (p1.2.2.2.1.toNat) ([],[],0,())).2.2.1,()) (u2.1.1.1.1,u2.1.1.1.2.1,u2.1.1.1.2.2.1,u2.1.1.1.2.2.2.1,())).bind fun u7=>
 cond (!u7.1.1.2.1)
  (some (((((),CL,(),(),(),CN,(),(),(),(),BQ,()),4,()),()),(b0,b1,b2,b3,b4,b5,b6,b7,())))
 (if(0:Int)≤p1.2.2.2.1∧p1.2.2.2.1<(b1.length:Int)then(
 some (((((),CL,(),(),(),CN,(),(),(),(),BQ,()),0,()),()),(b0,(b1.set (p1.2.2.2.1.toNat) (u7.2.1,u7.2.2.1,u7.1.1.1.2.2.1,())),b2,b3,b4,b5,b6,b7,())))else none))else none))else none)))else none)
abbrev PE:Type:=ABU×Unit
abbrev Sa:Type:=Int→List Int→Int→Int→Int→List Int→AAZ→Bool→List AAF→Option PE
def U7(R4:Sa)(t5:Int)(AM:AAF)(AE BI Az:Int)(DK:AAF)(G4:AAZ)(M6:Bool)(D8:List AAF):Option PE:=
 cond ((decide (t5<(D8.length:Int))))
  (if(0:Int)≤t5∧t5<(D8.length:Int)then(
  (Em (AM,AE,()) (D8.getD (t5.toNat) [])).bind fun u3=>
  cond (!u3.1.1)
   (some ((false,()),()))
  (R4 (AU (t5+1)) AM AE BI Az DK G4 M6 D8))else none)
 (some ((true,()),()))
def Km:Nat→Sa
 |0=>fun _ _ _ _ _ _ _ _ _=>none
 |n+1=>U7 (Km n)
def Un(R4:Sa)(p0:ABA)(p1:ABT):Option PE:=
 (I7 (p0.1,p0.2.1,()) (p1.1,p1.2.1,p1.2.2.1,p1.2.2.2.1,p1.2.2.2.2.1,p1.2.2.2.2.2.1,())).bind fun u1=>
 cond (!u1.1.1)
  (some ((false,()),()))
 (cond (!p1.2.2.2.2.1)
  (some ((false,()),()))
 (R4 0 p0.1 p0.2.1 p1.1 p1.2.1 p1.2.2.1 p1.2.2.2.1 p1.2.2.2.2.1 p1.2.2.2.2.2.1))
def SG(p0:ABA)(p1:ABT):Option PE:=Un (Km Ab) p0 p1
abbrev mi:Type:=AEq×ADy
def P2(p0:ABA)(p1:ABZ)(p2 p3:Int):Option mi:=
 (Mz (p0.1,p0.2.1,()) (p1.1,p1.2.1,())).bind fun u1=>
 cond (!u1.1.1)
  (some (((((),0,()),false,()),()),([],())))
 ((GI (p1.1,p1.2.1,())).bind fun u2=>
 (JY (p1.1,p1.2.1,())).bind fun u3=>
 cond ((p2 !=(p1.1.length:Int)))
  (some (((((),u2.1.1.2.1,()),false,()),()),(u2.2.1,())))
 (cond (u3.1.1==0)
  (some (((((),u2.1.1.2.1,()),false,()),()),(u2.2.1,())))
 (cond (p2==u3.1.1)
  (some (((((),u2.1.1.2.1,()),false,()),()),(u2.2.1,())))
 ((CK p3 0 60).bind fun u5=>
 cond (!u5.1.1)
  (some (((((),u2.1.1.2.1,()),false,()),()),(u2.2.1,())))
 (if(0:Int)≤AU (u3.1.1-1)∧AU (u3.1.1-1)<(u2.2.1.length:Int)then(
 let x6:AAP:=(u2.2.1.set ((AU (u3.1.1-1)).toNat) ((u2.2.1.getD ((AU (u3.1.1-1)).toNat) ([],false,0,())).1,true,(u2.2.1.getD ((AU (u3.1.1-1)).toNat) ([],false,0,())).2.2.1,()))
 if(0:Int)≤AU (u3.1.1-1)∧AU (u3.1.1-1)<(x6.length:Int)then(
 some (((((),u2.1.1.2.1,()),true,()),()),((x6.set ((AU (u3.1.1-1)).toNat) ((x6.getD ((AU (u3.1.1-1)).toNat) ([],false,0,())).1,(x6.getD ((AU (u3.1.1-1)).toNat) ([],false,0,())).2.1,p3,())),())))else none)else none)))))
abbrev bh:Type:=AB_×(List Int×AAT×List Int×Unit×AAj×Unit×AAs×AAa×AAP×AAo×Unit)
def UN(CL CN:Int)(BQ:Bool)(b0:AAF)(b1:AAT)(b2:AAF)(b3:AAP)(b4:AAj)(b5:AAo)(b6:AAs)(b7:AAa):Option bh:=
 cond (((b5.length:Int)==0))
  (some (((((),CL,(),(),(),CN,(),(),(),(),BQ,()),2,()),()),(b0,b1,b2,(),b4,(),b6,b7,b3,b5,())))
 (if(0:Int)≤(0:Int)∧(0:Int)<(b5.length:Int)then(
 (SG (b0,CL,()) ((b5.getD 0 (0,0,[],[],false,[],())).1,(b5.getD 0 (0,0,[],[],false,[],())).2.1,(b5.getD 0 (0,0,[],[],false,[],())).2.2.1,(b5.getD 0 (0,0,[],[],false,[],())).2.2.2.1,(b5.getD 0 (0,0,[],[],false,[],())).2.2.2.2.1,(b5.getD 0 (0,0,[],[],false,[],())).2.2.2.2.2.1,())).bind fun u2=>
 cond (!u2.1.1)
  (some (((((),CL,(),(),(),CN,(),(),(),(),BQ,()),5,()),()),(b0,b1,b2,(),b4,(),b6,b7,b3,b5,())))
 (if(0:Int)≤(0:Int)∧(0:Int)<(b5.length:Int)then(
 if(0:Int)≤(0:Int)∧(0:Int)<(b5.length:Int)then(
 (P2 (b0,CL,()) (b3,CN,()) ((b5.getD 0 (0,0,[],[],false,[],())).1) (((b5.getD 0 (0,0,[],[],false,[],())).2.2.2.2.2.1).length:Int)).bind fun u5=>
 cond (!u5.1.1.2.1)
  (some (((((),CL,(),(),(),CN,(),(),(),(),BQ,()),4,()),()),(b0,b1,b2,(),b4,(),b6,b7,b3,b5,())))
 (some (((((),CL,(),(),(),u5.1.1.1.2.1,(),(),(),(),BQ,()),0,()),()),(b0,b1,b2,(),b4,(),b6,b7,u5.2.1,[],()))))else none)else none))else none)
abbrev qB:Type:=AEq×ADy
def Rz(p0:ABA)(p1:ABZ)(p2:Int):Option qB:=
 (Mz (p0.1,p0.2.1,()) (p1.1,p1.2.1,())).bind fun u1=>
 cond (!u1.1.1)
  (some (((((),0,()),false,()),()),([],())))
 ((GI (p1.1,p1.2.1,())).bind fun u2=>
 (Hq p2).bind fun u3=>
 cond (!u3.1.1)
  (some (((((),u2.1.1.2.1,()),false,()),()),(u2.2.1,())))
 ((Cl p2).bind fun u4=>
 cond ((decide (u4.1.1>(p1.1.length:Int))))
  (some (((((),u2.1.1.2.1,()),false,()),()),(u2.2.1,())))
 ((FQ u2.1.1.2.1 p2).bind fun u6=>
 some (((((),u6.1.1,()),true,()),()),(u2.2.1,())))))
abbrev Nu:Type:=ABW×Unit
abbrev Qi:Type:=Int→Int→ABX→Option Nu
def TL(R2:Qi)(t3 AM:Int)(AE:ABX):Option Nu:=
 cond ((decide (t3<(AE.length:Int))))
  (if(0:Int)≤t3∧t3<(AE.length:Int)then(
  cond (((AE.getD (t3.toNat) ([],[],false,())).2.2.1))
   (R2 (AU (t3+1)) AM AE)
  (some ((t3,()),())))else none)
 (some ((t3,()),()))
def Jt:Nat→Qi
 |0=>fun _ _ _=>none
 |n+1=>TL (Jt n)
def cZ(R2:Qi)(p0:ABb):Option Nu:=
 R2 0 p0.1 p0.2.1
def Vh(p0:ABb):Option Nu:=cZ (Jt Ab) p0
abbrev UT:Type:=ABW×Unit
abbrev Xu:Type:=Int→Int→List Int→Int→AAT→List Int→AAP→Int→AAj→AAo→AAs→AAa→Bool→Option UT
def ZD(R2:Xu)(t1 t5:Int)(AM:AAF)(AE:Int)(Ac:AAT)(DN:AAF)(ET:AAP)(Aa:Int)(EJ:AAj)(D9:AAo)(GB:AAs)(GW:AAa)(AN:Bool):Option UT:=
 cond ((decide (t5<(EJ.length:Int))))
  (if(0:Int)≤t5∧t5<(EJ.length:Int)then(
  cond (((EJ.getD (t5.toNat) (0,[],())).1)==t1)
   (if(0:Int)≤t5∧t5<(EJ.length:Int)then(
   (Vh ((EJ.getD (t5.toNat) (0,[],())).1,(EJ.getD (t5.toNat) (0,[],())).2.1,())).bind fun u3=>
   some ((u3.1.1,()),()))else none)
  (R2 t1 (AU (t5+1)) AM AE Ac DN ET Aa EJ D9 GB GW AN))else none)
 (some ((0,()),()))
def Oo:Nat→Xu
 |0=>fun _ _ _ _ _ _ _ _ _ _ _ _ _=>none
 |n+1=>ZD (Oo n)
def ix(R2:Xu)(p0:ABV)(p1:Int):Option UT:=
 R2 p1 0 p0.1 p0.2.1 p0.2.2.1 p0.2.2.2.1 p0.2.2.2.2.1 p0.2.2.2.2.2.1 p0.2.2.2.2.2.2.1 p0.2.2.2.2.2.2.2.1 p0.2.2.2.2.2.2.2.2.1 p0.2.2.2.2.2.2.2.2.2.1 p0.2.2.2.2.2.2.2.2.2.2.1
def dm(p0:ABV)(p1:Int):Option UT:=ix (Oo Ab) p0 p1
abbrev Nw:Type:=ABc×(ABf×Unit)
abbrev Q4:Type:=Int→List Int→Int→AAT→List Int→AAP→Int→AAj→AAo→AAs→AAa→Bool→Int→Int→ACk→ABf→List Int→Option Nw
def TS(R4:Q4)(t9:Int)(AM:AAF)(AE:Int)(Ac:AAT)(DN:AAF)(ET:AAP)(Aa:Int)(EJ:AAj)(D9:AAo)(GB:AAs)(GW:AAa)(AN:Bool)(BI Az:Int)(DK:ACk)(b2:ABf)(b3:AAF):Option Nw:=
 cond ((decide (t9<(b3.length:Int))))
  (if(0:Int)≤t9∧t9<(b3.length:Int)then(
  (Hl (AM,AE,Ac,DN,ET,Aa,EJ,D9,GB,GW,AN,()) (b3.getD (t9.toNat) 0)).bind fun u4=>
  cond (u4.1.1 !=0)
   (R4 (AU (t9+1)) AM AE Ac DN ET Aa EJ D9 GB GW AN BI Az DK b2 b3)
  (if(0:Int)≤t9∧t9<(b3.length:Int)then(
  let x5:Int:=(b3.getD (t9.toNat) 0)
  if(0:Int)≤x5∧x5<(Ac.length:Int)then(
  (CZ BI Az).bind fun u6=>
  (HP ((Ac.getD (x5.toNat) ([],[],0,())).1) u6.1.1).bind fun u7=>
  if(0:Int)≤t9∧t9<(b3.length:Int)then(
  if b2.length+1≤DF then(
  R4 (AU (t9+1)) AM AE Ac DN ET Aa EJ D9 GB GW AN BI Az DK (b2++[((b3.getD (t9.toNat) 0),u7.1.1.2.1,u7.1.1.1.1,u7.1.1.1.2.1,u7.1.1.1.2.2.1,u7.1.1.1.2.2.2.1,())]) b3)else none)else none)else none)else none))else none)
 (some (((),()),(b2,())))
def Jp:Nat→Q4
 |0=>fun _ _ _ _ _ _ _ _ _ _ _ _ _ _ _ _ _=>none
 |n+1=>TS (Jp n)
def TO(R4:Q4)(p0:ABV)(p1:ABi)(p2:Int):Option Nw:=
 (OY p2).bind fun u1=>
 R4 0 p0.1 p0.2.1 p0.2.2.1 p0.2.2.2.1 p0.2.2.2.2.1 p0.2.2.2.2.2.1 p0.2.2.2.2.2.2.1 p0.2.2.2.2.2.2.2.1 p0.2.2.2.2.2.2.2.2.1 p0.2.2.2.2.2.2.2.2.2.1 p0.2.2.2.2.2.2.2.2.2.2.1 p1.1 p1.2.1 p1.2.2.1 [] u1.2.1
def QV(p0:ABV)(p1:ABi)(p2:Int):Option Nw:=TO (Jp Ab) p0 p1 p2
abbrev QS:Type:=((Unit×Bool×Unit)×Unit)×ABd
abbrev Tp:Type:=ABf→Int→List Int→Int→List Int→Option QS
def V1(R3:Tp)(t1:ABf)(t7:Int)(AM:AAF)(AE:Int)(b1:AAF):Option QS:=
 cond ((decide (t7<(t1.length:Int))))
  (if(0:Int)≤t7∧t7<(t1.length:Int)then(
  if b1.length+1≤DF then(
  R3 t1 (AU (t7+1)) AM AE (b1++[((t1.getD (t7.toNat) (0,false,0,0,false,[],())).1)]))else none)else none)
 ((Gv (AM,AE,()) b1).bind fun u3=>
 some ((((),u3.1.1,()),()),(b1,())))
def Lr:Nat→Tp
 |0=>fun _ _ _ _ _=>none
 |n+1=>V1 (Lr n)
def ey(R3:Tp)(p0:ABA)(p1:ABf):Option QS:=
 R3 p1 0 p0.1 p0.2.1 []
def ZN(p0:ABA)(p1:ABf):Option QS:=ey (Lr Ab) p0 p1
abbrev pR:Type:=AEj×AEk
def Iq(p0:ABi)(p1:AEn)(p2 p3:Int):Option pR:=
 (CO (p0.1,p0.2.1,p0.2.2.1,())).bind fun u1=>
 if u1.2.1.length+1≤DF then(
 some (((p2,p3,(),()),()),((u1.2.1++[(p1.1,p1.2.1,p1.2.2.1,())]),())))else none
abbrev Sd:Type:=(AEn×Unit)×Unit
abbrev VW:Type:=List Int→Int→ABf→Bool→Int→Int→Int→List UInt8→Int→Int→Bool→List UInt8→Option Sd
def XF(R4:VW)(t0:AAF)(t1:Int)(t2:ABf)(t8:Bool)(t9 AM AE:Int)(Ac:ABY)(BI Az:Int)(DK:Bool)(G4:ABY):Option Sd:=
 cond ((decide (t9<(t2.length:Int))))
  (if(0:Int)≤t9∧t9<(t2.length:Int)then(
  cond (!((t2.getD (t9.toNat) (0,false,0,0,false,[],())).2.1))
   (R4 t0 t1 t2 t8 (AU (t9+1)) AM AE Ac BI Az DK G4)
  ((Cv t0 ((t2.getD (t9.toNat) (0,false,0,0,false,[],())).1)).bind fun u4=>
  cond (!u4.1.1)
   (R4 t0 t1 t2 t8 (AU (t9+1)) AM AE Ac BI Az DK G4)
  ((Mr ((t2.getD (t9.toNat) (0,false,0,0,false,[],())).2.2.1,(t2.getD (t9.toNat) (0,false,0,0,false,[],())).2.2.2.1,(t2.getD (t9.toNat) (0,false,0,0,false,[],())).2.2.2.2.1,(t2.getD (t9.toNat) (0,false,0,0,false,[],())).2.2.2.2.2.1,())).bind fun u5=>
  cond (!u5.1.1)
   (R4 t0 t1 t2 t8 (AU (t9+1)) AM AE Ac BI Az DK G4)
  (cond (((t2.getD (t9.toNat) (0,false,0,0,false,[],())).2.2.1) !=t1)
   (R4 t0 t1 t2 t8 (AU (t9+1)) AM AE Ac BI Az DK G4)
  (cond (!t8)
   ((RX ((t2.getD (t9.toNat) (0,false,0,0,false,[],())).2.2.1,(t2.getD (t9.toNat) (0,false,0,0,false,[],())).2.2.2.1,(t2.getD (t9.toNat) (0,false,0,0,false,[],())).2.2.2.2.1,(t2.getD (t9.toNat) (0,false,0,0,false,[],())).2.2.2.2.2.1,()) ((t2.getD (t9.toNat) (0,false,0,0,false,[],())).2.2.1,(t2.getD (t9.toNat) (0,false,0,0,false,[],())).2.2.2.1,(t2.getD (t9.toNat) (0,false,0,0,false,[],())).2.2.2.2.1,(t2.getD (t9.toNat) (0,false,0,0,false,[],())).2.2.2.2.2.1,())).bind fun u7=>
   R4 t0 t1 t2 true (AU (t9+1)) AM AE Ac u7.1.1.1 u7.1.1.2.1 u7.1.1.2.2.1 u7.1.1.2.2.2.1)
  ((RX (BI,Az,DK,G4,()) ((t2.getD (t9.toNat) (0,false,0,0,false,[],())).2.2.1,(t2.getD (t9.toNat) (0,false,0,0,false,[],())).2.2.2.1,(t2.getD (t9.toNat) (0,false,0,0,false,[],())).2.2.2.2.1,(t2.getD (t9.toNat) (0,false,0,0,false,[],())).2.2.2.2.2.1,())).bind fun u8=>
  R4 t0 t1 t2 true (AU (t9+1)) AM AE Ac u8.1.1.1 u8.1.1.2.1 u8.1.1.2.2.1 u8.1.1.2.2.2.1))))))else none)
 (cond (!t8)
  (some (((3,t1,[],()),()),()))
 (cond (DK)
  (some (((2,t1,[],()),()),()))
 (some (((1,t1,G4,()),()),()))))
def NC:Nat→VW
 |0=>fun _ _ _ _ _ _ _ _ _ _ _ _=>none
 |n+1=>XF (NC n)
def gD(R4:VW)(p0:AAF)(p1:Int)(p2:ABf):Option Sd:=
 R4 p0 p1 p2 false 0 0 0 [] 0 0 false []
def Mv(p0:AAF)(p1:Int)(p2:ABf):Option Sd:=gD (NC Ab) p0 p1 p2
abbrev YM:Type:=(AJU×Unit)×AEk
def Qe(p0:ABA)(p1:ABZ)(p2:Int)(p3:ABi)(p4:ABf):Option YM:=
 (ZN (p0.1,p0.2.1,()) p4).bind fun u1=>
 (Mz (p0.1,p0.2.1,()) (p1.1,p1.2.1,())).bind fun u2=>
 cond (!u2.1.1)
  (some ((((0,0,(),()),1,()),()),([],())))
 ((NT (p3.1,p3.2.1,p3.2.2.1,())).bind fun u3=>
 cond (!u3.1.1)
  (some ((((0,0,(),()),1,()),()),([],())))
 (cond (!u1.1.1.2.1)
  (some ((((0,0,(),()),1,()),()),([],())))
 (cond ((decide (p3.1>(p1.1.length:Int))))
  ((CO (p3.1,p3.2.1,p3.2.2.1,())).bind fun u5=>
  some ((((u5.1.1.1,u5.1.1.2.1,(),()),2,()),()),(u5.2.1,())))
 (cond ((p3.2.2.1.length:Int)==120)
  ((CO (p3.1,p3.2.1,p3.2.2.1,())).bind fun u7=>
  some ((((u7.1.1.1,u7.1.1.2.1,(),()),2,()),()),(u7.2.1,())))
 (if(0:Int)≤AU (p3.1-1)∧AU (p3.1-1)<(p1.1.length:Int)then(
 (CZ p3.1 p3.2.1).bind fun u8=>
 cond ((decide (p1.2.1≥u8.1.1)))
  ((Cl p1.2.1).bind fun D5=>
  (HU p1.2.1).bind fun MZ=>
  (Iq (p3.1,p3.2.1,p3.2.2.1,()) (5,p1.2.1,[],()) D5.1.1 (AU (MZ.1.1+1))).bind fun D7=>
  some ((((D7.1.1.1,D7.1.1.2.1,(),()),0,()),()),(D7.2.1,())))
 (cond (((p1.1.getD ((AU (p3.1-1)).toNat) ([],false,0,())).2.1))
  (cond ((decide (p3.2.1>((p1.1.getD ((AU (p3.1-1)).toNat) ([],false,0,())).2.2.1))))
   ((Iq (p3.1,p3.2.1,p3.2.2.1,()) (4,AU (p3.1+1),[],()) (AU (p3.1+1)) 1).bind fun u16=>
   some ((((u16.1.1.1,u16.1.1.2.1,(),()),0,()),()),(u16.2.1,())))
  (cond (!((p1.1.getD ((AU (p3.1-1)).toNat) ([],false,0,())).2.1))
   (cond (decide (p3.2.1>p2))
    ((CO (p3.1,p3.2.1,p3.2.2.1,())).bind fun Vu=>
    some ((((Vu.1.1.1,Vu.1.1.2.1,(),()),2,()),()),(Vu.2.1,())))
   (cond (decide (p3.2.1>60))
    ((CO (p3.1,p3.2.1,p3.2.2.1,())).bind fun eY=>
    some ((((eY.1.1.1,eY.1.1.2.1,(),()),2,()),()),(eY.2.1,())))
   ((KZ u1.2.1 ((p1.1.getD ((AU (p3.1-1)).toNat) ([],false,0,())).1)).bind fun MU=>
   (Kb (p0.1,p0.2.1,()) ((p1.1.getD ((AU (p3.1-1)).toNat) ([],false,0,())).1) MU.2.1).bind fun lX=>
   cond (!lX.1.1)
    ((CO (p3.1,p3.2.1,p3.2.2.1,())).bind fun zQ=>
    some ((((zQ.1.1.1,zQ.1.1.2.1,(),()),3,()),()),(zQ.2.1,())))
   ((Mv ((p1.1.getD ((AU (p3.1-1)).toNat) ([],false,0,())).1) u8.1.1 p4).bind fun Zk=>
   (Iq (p3.1,p3.2.1,p3.2.2.1,()) (Zk.1.1.1,Zk.1.1.2.1,Zk.1.1.2.2.1,()) p3.1 (AU (p3.2.1+1))).bind fun Ip=>
   some ((((Ip.1.1.1,Ip.1.1.2.1,(),()),0,()),()),(Ip.2.1,()))))))
  (cond (decide (p3.2.1>60))
   ((CO (p3.1,p3.2.1,p3.2.2.1,())).bind fun aV=>
   some ((((aV.1.1.1,aV.1.1.2.1,(),()),2,()),()),(aV.2.1,())))
  ((KZ u1.2.1 ((p1.1.getD ((AU (p3.1-1)).toNat) ([],false,0,())).1)).bind fun fK=>
  (Kb (p0.1,p0.2.1,()) ((p1.1.getD ((AU (p3.1-1)).toNat) ([],false,0,())).1) fK.2.1).bind fun ec=>
  cond (!ec.1.1)
   ((CO (p3.1,p3.2.1,p3.2.2.1,())).bind fun O4=>
   some ((((O4.1.1.1,O4.1.1.2.1,(),()),3,()),()),(O4.2.1,())))
  ((Mv ((p1.1.getD ((AU (p3.1-1)).toNat) ([],false,0,())).1) u8.1.1 p4).bind fun YO=>
  (Iq (p3.1,p3.2.1,p3.2.2.1,()) (YO.1.1.1,YO.1.1.2.1,YO.1.1.2.2.1,()) p3.1 (AU (p3.2.1+1))).bind fun mm=>
  some ((((mm.1.1.1,mm.1.1.2.1,(),()),0,()),()),(mm.2.1,())))))))
 (cond (!((p1.1.getD ((AU (p3.1-1)).toNat) ([],false,0,())).2.1))
  (cond (decide (p3.2.1>p2))
   ((CO (p3.1,p3.2.1,p3.2.2.1,())).bind fun u32=>
   some ((((u32.1.1.1,u32.1.1.2.1,(),()),2,()),()),(u32.2.1,())))
  (cond (decide (p3.2.1>60))
   ((CO (p3.1,p3.2.1,p3.2.2.1,())).bind fun Zq=>
   some ((((Zq.1.1.1,Zq.1.1.2.1,(),()),2,()),()),(Zq.2.1,())))
  ((KZ u1.2.1 ((p1.1.getD ((AU (p3.1-1)).toNat) ([],false,0,())).1)).bind fun s9=>
  (Kb (p0.1,p0.2.1,()) ((p1.1.getD ((AU (p3.1-1)).toNat) ([],false,0,())).1) s9.2.1).bind fun u35=>
  cond (!u35.1.1)
   ((CO (p3.1,p3.2.1,p3.2.2.1,())).bind fun u36=>
   some ((((u36.1.1.1,u36.1.1.2.1,(),()),3,()),()),(u36.2.1,())))
  ((Mv ((p1.1.getD ((AU (p3.1-1)).toNat) ([],false,0,())).1) u8.1.1 p4).bind fun lx=>
  (Iq (p3.1,p3.2.1,p3.2.2.1,()) (lx.1.1.1,lx.1.1.2.1,lx.1.1.2.2.1,()) p3.1 (AU (p3.2.1+1))).bind fun u38=>
  some ((((u38.1.1.1,u38.1.1.2.1,(),()),0,()),()),(u38.2.1,()))))))
 (cond (decide (p3.2.1>60))
  ((CO (p3.1,p3.2.1,p3.2.2.1,())).bind fun ld=>
  some ((((ld.1.1.1,ld.1.1.2.1,(),()),2,()),()),(ld.2.1,())))
 ((KZ u1.2.1 ((p1.1.getD ((AU (p3.1-1)).toNat) ([],false,0,())).1)).bind fun u40=>
 (Kb (p0.1,p0.2.1,()) ((p1.1.getD ((AU (p3.1-1)).toNat) ([],false,0,())).1) u40.2.1).bind fun u41=>
 cond (!u41.1.1)
  ((CO (p3.1,p3.2.1,p3.2.2.1,())).bind fun u42=>
  some ((((u42.1.1.1,u42.1.1.2.1,(),()),3,()),()),(u42.2.1,())))
 ((Mv ((p1.1.getD ((AU (p3.1-1)).toNat) ([],false,0,())).1) u8.1.1 p4).bind fun u43=>
 (Iq (p3.1,p3.2.1,p3.2.2.1,()) (u43.1.1.1,u43.1.1.2.1,u43.1.1.2.2.1,()) p3.1 (AU (p3.2.1+1))).bind fun u44=>
 some ((((u44.1.1.1,u44.1.1.2.1,(),()),0,()),()),(u44.2.1,()))))))))else none)))))
abbrev pH:Type:=AB_×ACf
def WH(CL CN:Int)(BQ:Bool)(p1:ABe)(b0:AAF)(b1:AAT)(b2:AAF)(b3:AAP)(b4:AAj)(b5:AAo)(b6:AAs)(b7:AAa):Option pH:=
 (CK p1.2.1 0 1).bind fun u1=>
 cond (!u1.1.1)
  (some (((((),CL,(),(),(),CN,(),(),(),(),BQ,()),2,()),()),(b0,b1,b2,b3,b4,b5,b6,b7,())))
 (if(0:Int)≤p1.2.1∧p1.2.1<(b6.length:Int)then(
 if(0:Int)≤p1.2.1∧p1.2.1<(b6.length:Int)then(
 if(0:Int)≤p1.2.1∧p1.2.1<(b6.length:Int)then(
 (dm (b0,CL,b1,b2,b3,CN,b4,b5,b6,b7,BQ,()) ((b6.getD (p1.2.1.toNat) (0,0,[],())).1)).bind fun u3=>
 (QV (b0,CL,b1,b2,b3,CN,b4,b5,b6,b7,BQ,()) ((b6.getD (p1.2.1.toNat) (0,0,[],())).1,(b6.getD (p1.2.1.toNat) (0,0,[],())).2.1,(b6.getD (p1.2.1.toNat) (0,0,[],())).2.2.1,()) p1.2.2.1).bind fun u4=>
 (Qe (b0,CL,()) (b3,CN,()) u3.1.1 ((b6.getD (p1.2.1.toNat) (0,0,[],())).1,(b6.getD (p1.2.1.toNat) (0,0,[],())).2.1,(b6.getD (p1.2.1.toNat) (0,0,[],())).2.2.1,()) u4.2.1).bind fun u5=>
 cond (u5.1.1.2.1 !=0)
  (some (((((),CL,(),(),(),CN,(),(),(),(),BQ,()),5,()),()),(b0,b1,b2,b3,b4,b5,b6,b7,())))
 (if(0:Int)≤p1.2.1∧p1.2.1<(b6.length:Int)then(
 some (((((),CL,(),(),(),CN,(),(),(),(),BQ,()),0,()),()),(b0,b1,b2,b3,b4,b5,(b6.set (p1.2.1.toNat) (u5.1.1.1.1,u5.1.1.1.2.1,u5.2.1,())),b7,())))else none))else none)else none)else none)
abbrev OO:Type:=AB_×(List Int×AAT×List Int×AAP×Unit×AAo×AAs×AAa×AAj×Unit)
abbrev VX:Type:=Int→List Int→AAT→List Int→AAP→AAj→AAo→AAs→AAa→Int→Int→Bool→Int→Int→Int→Int→List UInt8→Int→Int→Bool→List Int→AAT→List Int→AAP→AAj→AAo→AAs→AAa→AAj→Option OO
def XY(R5:VX)(t7:Int)(b0:AAF)(b1:AAT)(b2:AAF)(b3:AAP)(b4:AAj)(b5:AAo)(b6:AAs)(b7:AAa)(Db Dq:Int)(CM:Bool)(hU Dp dt AUe:Int)(AS9:ABY)(Dh Ed:Int)(C1:Bool)(Fl:AAF)(DX:AAT)(F7:AAF)(GV:AAP)(Dv:AAj)(D_:AAo)(E8:AAs)(VO:AAa)(sS:AAj):Option OO:=
 cond ((decide (t7<(b4.length:Int))))
  (cond (t7 !=Dp)
   (if(0:Int)≤t7∧t7<(b4.length:Int)then(
   if sS.length+1≤DF then(
   R5 (AU (t7+1)) b0 b1 b2 b3 b4 b5 b6 b7 Db Dq CM hU Dp dt AUe AS9 Dh Ed C1 Fl DX F7 GV Dv D_ E8 VO (sS++[((b4.getD (t7.toNat) (0,[],())).1,(b4.getD (t7.toNat) (0,[],())).2.1,())]))else none)else none)
  (R5 (AU (t7+1)) b0 b1 b2 b3 b4 b5 b6 b7 Db Dq CM hU Dp dt AUe AS9 Dh Ed C1 Fl DX F7 GV Dv D_ E8 VO sS))
 (some (((((),Db,(),(),(),Dq,(),(),(),(),CM,()),0,()),()),(b0,b1,b2,b3,(),b5,b6,b7,sS,())))
def NA:Nat→VX
 |0=>fun _ _ _ _ _ _ _ _ _ _ _ _ _ _ _ _ _ _ _ _ _ _ _ _ _ _ _ _ _=>none
 |n+1=>XY (NA n)
def Xy(R5:VX)(CL CN:Int)(BQ:Bool)(p1:ABe)(b0:AAF)(b1:AAT)(b2:AAF)(b3:AAP)(b4:AAj)(b5:AAo)(b6:AAs)(b7:AAa):Option OO:=
 (L_ (b0,CL,b1,b2,b3,CN,b4,b5,b6,b7,BQ,()) p1.2.1).bind fun u1=>
 cond (!u1.1.1)
  (some (((((),CL,(),(),(),CN,(),(),(),(),BQ,()),2,()),()),(b0,b1,b2,b3,(),b5,b6,b7,b4,())))
 (R5 0 b0 b1 b2 b3 b4 b5 b6 b7 CL CN BQ p1.1 p1.2.1 p1.2.2.1 p1.2.2.2.1 p1.2.2.2.2.1 0 0 false [] [] [] [] [] [] [] [] [])
def Wf(CL CN:Int)(BQ:Bool)(p1:ABe)(b0:AAF)(b1:AAT)(b2:AAF)(b3:AAP)(b4:AAj)(b5:AAo)(b6:AAs)(b7:AAa):Option OO:=Xy (NA Ab) CL CN BQ p1 b0 b1 b2 b3 b4 b5 b6 b7
abbrev PX:Type:=ADl×ACz
abbrev SF:Type:=Int→Int→AAZ→AAZ→Int→Int→AAZ→AAZ→Int→AAZ→AAZ→Option PX
def VI(R8:SF)(t1 t7:Int)(AM AE:AAZ)(Ac DK:Int)(b2 b3:AAZ)(Mo:Int)(b5 b6:AAZ):Option PX:=
 cond ((decide (t7<(AM.length:Int))))
  (if(0:Int)≤t7∧t7<(AM.length:Int)then(
  cond (decide (((AM.getD (t7.toNat) (0,0,false,[],())).1)>t1))
   (if(0:Int)≤t7∧t7<(AM.length:Int)then(
   if b5.length+1≤DF then(
   R8 t1 (AU (t7+1)) AM AE Ac DK b2 b3 Mo (b5++[((AM.getD (t7.toNat) (0,0,false,[],())).1,(AM.getD (t7.toNat) (0,0,false,[],())).2.1,(AM.getD (t7.toNat) (0,0,false,[],())).2.2.1,(AM.getD (t7.toNat) (0,0,false,[],())).2.2.2.1,())]) b6)else none)else none)
  (R8 t1 (AU (t7+1)) AM AE Ac DK b2 b3 Mo b5 b6))else none)
 (some (((((),(),Mo,()),true,()),()),(b5,b6,())))
def Kn:Nat→SF
 |0=>fun _ _ _ _ _ _ _ _ _ _ _=>none
 |n+1=>VI (Kn n)
def Ur(R8:SF)(p0:ABa)(p1:Int):Option PX:=
 (Gu (p0.1,p0.2.1,p0.2.2.1,())).bind fun u1=>
 cond (!u1.1.1)
  (some (((((),(),0,()),false,()),()),([],[],())))
 ((Ej (p0.1,p0.2.1,p0.2.2.1,())).bind fun u2=>
 (Hq p1).bind fun u3=>
 cond (!u3.1.1)
  (some (((((),(),u2.1.1.2.2.1,()),false,()),()),(u2.2.1,u2.2.2.1,())))
 (R8 p1 0 p0.1 p0.2.1 p0.2.2.1 0 [] [] u2.1.1.2.2.1 [] u2.2.2.1))
def Rk(p0:ABa)(p1:Int):Option PX:=Ur (Kn Ab) p0 p1
abbrev mH:Type:=AB_×ACf
def UJ(CL CN:Int)(BQ:Bool)(p1:ABe)(b0:AAF)(b1:AAT)(b2:AAF)(b3:AAP)(b4:AAj)(b5:AAo)(b6:AAs)(b7:AAa):Option mH:=
 (Hl (b0,CL,b1,b2,b3,CN,b4,b5,b6,b7,BQ,()) p1.2.1).bind fun u1=>
 cond (u1.1.1 !=0)
  (some (((((),CL,(),(),(),CN,(),(),(),(),BQ,()),u1.1.1,()),()),(b0,b1,b2,b3,b4,b5,b6,b7,())))
 (if(0:Int)≤p1.2.1∧p1.2.1<(b1.length:Int)then(
 (NF ((b1.getD (p1.2.1.toNat) ([],[],0,())).1,(b1.getD (p1.2.1.toNat) ([],[],0,())).2.1,(b1.getD (p1.2.1.toNat) ([],[],0,())).2.2.1,()) p1.2.2.1).bind fun u2=>
 cond (p1.1==16)
  (if(0:Int)≤p1.2.1∧p1.2.1<(b1.length:Int)then(
  (Rk ((b1.getD (p1.2.1.toNat) ([],[],0,())).1,(b1.getD (p1.2.1.toNat) ([],[],0,())).2.1,(b1.getD (p1.2.1.toNat) ([],[],0,())).2.2.1,()) CN).bind fun u3=>
  cond (!u3.1.1.2.1)
   (some (((((),CL,(),(),(),CN,(),(),(),(),BQ,()),4,()),()),(b0,b1,b2,b3,b4,b5,b6,b7,())))
  (if(0:Int)≤p1.2.1∧p1.2.1<(b1.length:Int)then(
  some (((((),CL,(),(),(),CN,(),(),(),(),BQ,()),0,()),()),(b0,(b1.set (p1.2.1.toNat) (u3.2.1,u3.2.2.1,u3.1.1.1.2.2.1,())),b2,b3,b4,b5,b6,b7,())))else none))else none)
 (cond (!u2.1.1.2.1)
  (some (((((),CL,(),(),(),CN,(),(),(),(),BQ,()),4,()),()),(b0,b1,b2,b3,b4,b5,b6,b7,())))
 (if(0:Int)≤p1.2.1∧p1.2.1<(b1.length:Int)then(
 some (((((),CL,(),(),(),CN,(),(),(),(),BQ,()),0,()),()),(b0,(b1.set (p1.2.1.toNat) (u2.2.1,u2.2.2.1,u2.1.1.1.2.2.1,())),b2,b3,b4,b5,b6,b7,())))else none)))else none)
abbrev iF:Type:=AB_×(List Int×AAT×Unit×Unit×Unit×Unit×AAs×Unit×List Int×AAP×AAj×AAo×AAa×Unit)
def bS(CL CN:Int)(BQ:Bool)(p1:ABe)(b0:AAF)(b1:AAT)(b2:AAF)(b3:AAP)(b4:AAj)(b5:AAo)(b6:AAs)(b7:AAa):Option iF:=
 cond (p1.1==1)
  ((Wh CL CN BQ (p1.1,p1.2.1,p1.2.2.1,p1.2.2.2.1,p1.2.2.2.2.1,()) b0 b1 b2 b3 b4 b5 b6 b7).bind fun u1=>
  some (((((),u1.1.1.1.2.1,(),(),(),u1.1.1.1.2.2.2.2.2.1,(),(),(),(),u1.1.1.1.2.2.2.2.2.2.2.2.2.2.1,()),u1.1.1.2.1,()),()),(u1.2.1,u1.2.2.1,(),(),(),(),u1.2.2.2.2.2.2.2.1,(),u1.2.2.2.1,u1.2.2.2.2.2.2.2.2.2.1,u1.2.2.2.2.2.2.2.2.2.2.1,u1.2.2.2.2.2.2.2.2.2.2.2.1,u1.2.2.2.2.2.2.2.2.1,())))
 (cond (p1.1==2)
  ((YZ CL CN BQ (p1.1,p1.2.1,p1.2.2.1,p1.2.2.2.1,p1.2.2.2.2.1,()) b0 b1 b2 b3 b4 b5 b6 b7).bind fun u5=>
  some (((((),u5.1.1.1.2.1,(),(),(),u5.1.1.1.2.2.2.2.2.1,(),(),(),(),u5.1.1.1.2.2.2.2.2.2.2.2.2.2.1,()),u5.1.1.2.1,()),()),(u5.2.1,u5.2.2.1,(),(),(),(),u5.2.2.2.2.2.2.2.1,(),u5.2.2.2.1,u5.2.2.2.2.1,u5.2.2.2.2.2.1,u5.2.2.2.2.2.2.1,u5.2.2.2.2.2.2.2.2.2.1,())))
 (cond (p1.1==3)
  ((UH CL CN BQ (p1.1,p1.2.1,p1.2.2.1,p1.2.2.2.1,p1.2.2.2.2.1,()) b0 b1 b2 b3 b4 b5 b6 b7).bind fun u7=>
  some (((((),u7.1.1.1.2.1,(),(),(),u7.1.1.1.2.2.2.2.2.1,(),(),(),(),u7.1.1.1.2.2.2.2.2.2.2.2.2.2.1,()),u7.1.1.2.1,()),()),(u7.2.1,u7.2.2.1,(),(),(),(),u7.2.2.2.2.2.2.2.1,(),u7.2.2.2.1,u7.2.2.2.2.1,u7.2.2.2.2.2.1,u7.2.2.2.2.2.2.1,u7.2.2.2.2.2.2.2.2.1,())))
 (cond (p1.1==4)
  ((WK CL CN BQ (p1.1,p1.2.1,p1.2.2.1,p1.2.2.2.1,p1.2.2.2.2.1,()) b0 b1 b2 b3 b4 b5 b6 b7).bind fun u8=>
  some (((((),u8.1.1.1.2.1,(),(),(),u8.1.1.1.2.2.2.2.2.1,(),(),(),(),u8.1.1.1.2.2.2.2.2.2.2.2.2.2.1,()),u8.1.1.2.1,()),()),(u8.2.1,u8.2.2.1,(),(),(),(),u8.2.2.2.2.2.2.2.1,(),u8.2.2.2.1,u8.2.2.2.2.1,u8.2.2.2.2.2.1,u8.2.2.2.2.2.2.1,u8.2.2.2.2.2.2.2.2.1,())))
 (cond (p1.1==6)
  ((WG CL CN BQ (p1.1,p1.2.1,p1.2.2.1,p1.2.2.2.1,p1.2.2.2.2.1,()) b0 b1 b2 b3 b4 b5 b6 b7).bind fun u9=>
  some (((((),u9.1.1.1.2.1,(),(),(),u9.1.1.1.2.2.2.2.2.1,(),(),(),(),u9.1.1.1.2.2.2.2.2.2.2.2.2.2.1,()),u9.1.1.2.1,()),()),(u9.2.1,u9.2.2.1,(),(),(),(),u9.2.2.2.2.2.2.2.1,(),u9.2.2.2.2.2.2.2.2.2.1,u9.2.2.2.2.1,u9.2.2.2.2.2.1,u9.2.2.2.2.2.2.1,u9.2.2.2.2.2.2.2.2.1,())))
 (cond (p1.1==7)
  ((WU CL CN BQ (p1.1,p1.2.1,p1.2.2.1,p1.2.2.2.1,p1.2.2.2.2.1,()) b0 b1 b2 b3 b4 b5 b6 b7).bind fun MZ=>
  some (((((),MZ.1.1.1.2.1,(),(),(),MZ.1.1.1.2.2.2.2.2.1,(),(),(),(),MZ.1.1.1.2.2.2.2.2.2.2.2.2.2.1,()),MZ.1.1.2.1,()),()),(MZ.2.1,MZ.2.2.1,(),(),(),(),MZ.2.2.2.2.2.2.2.1,(),MZ.2.2.2.2.2.2.2.2.2.1,MZ.2.2.2.2.1,MZ.2.2.2.2.2.1,MZ.2.2.2.2.2.2.1,MZ.2.2.2.2.2.2.2.2.1,())))
 (cond (p1.1==8)
  ((Wd CL CN BQ b0 b1 b2 b3 b4 b5 b6 b7).bind fun Kc=>
  some (((((),Kc.1.1.1.2.1,(),(),(),Kc.1.1.1.2.2.2.2.2.1,(),(),(),(),Kc.1.1.1.2.2.2.2.2.2.2.2.2.2.1,()),Kc.1.1.2.1,()),()),(Kc.2.1,Kc.2.2.1,(),(),(),(),Kc.2.2.2.2.2.2.2.1,(),Kc.2.2.2.1,Kc.2.2.2.2.1,Kc.2.2.2.2.2.1,Kc.2.2.2.2.2.2.2.2.2.1,Kc.2.2.2.2.2.2.2.2.1,())))
 (cond (p1.1==9)
  ((WM CL CN BQ (p1.1,p1.2.1,p1.2.2.1,p1.2.2.2.1,p1.2.2.2.2.1,()) b0 b1 b2 b3 b4 b5 b6 b7).bind fun X4=>
  some (((((),X4.1.1.1.2.1,(),(),(),X4.1.1.1.2.2.2.2.2.1,(),(),(),(),X4.1.1.1.2.2.2.2.2.2.2.2.2.2.1,()),X4.1.1.2.1,()),()),(X4.2.1,X4.2.2.1,(),(),(),(),X4.2.2.2.2.2.2.2.1,(),X4.2.2.2.1,X4.2.2.2.2.1,X4.2.2.2.2.2.1,X4.2.2.2.2.2.2.1,X4.2.2.2.2.2.2.2.2.1,())))
 (cond (p1.1==10)
  ((Wg CL CN BQ b0 b1 b2 b3 b4 b5 b6 b7).bind fun eY=>
  some (((((),eY.1.1.1.2.1,(),(),(),eY.1.1.1.2.2.2.2.2.1,(),(),(),(),eY.1.1.1.2.2.2.2.2.2.2.2.2.2.1,()),eY.1.1.2.1,()),()),(eY.2.1,eY.2.2.1,(),(),(),(),eY.2.2.2.2.2.2.2.1,(),eY.2.2.2.1,eY.2.2.2.2.1,eY.2.2.2.2.2.1,eY.2.2.2.2.2.2.1,eY.2.2.2.2.2.2.2.2.1,())))
 (cond (p1.1==11)
  ((Y_ CL CN BQ (p1.1,p1.2.1,p1.2.2.1,p1.2.2.2.1,p1.2.2.2.2.1,()) b0 b1 b2 b3 b4 b5 b6 b7).bind fun lX=>
  some (((((),lX.1.1.1.2.1,(),(),(),lX.1.1.1.2.2.2.2.2.1,(),(),(),(),lX.1.1.1.2.2.2.2.2.2.2.2.2.2.1,()),lX.1.1.2.1,()),()),(lX.2.1,lX.2.2.1,(),(),(),(),lX.2.2.2.2.2.2.2.1,(),lX.2.2.2.1,lX.2.2.2.2.1,lX.2.2.2.2.2.1,lX.2.2.2.2.2.2.1,lX.2.2.2.2.2.2.2.2.1,())))
 (cond (p1.1==12)
  ((UN CL CN BQ b0 b1 b2 b3 b4 b5 b6 b7).bind fun Zk=>
  some (((((),Zk.1.1.1.2.1,(),(),(),Zk.1.1.1.2.2.2.2.2.1,(),(),(),(),Zk.1.1.1.2.2.2.2.2.2.2.2.2.2.1,()),Zk.1.1.2.1,()),()),(Zk.2.1,Zk.2.2.1,(),(),(),(),Zk.2.2.2.2.2.2.2.1,(),Zk.2.2.2.1,Zk.2.2.2.2.2.2.2.2.2.1,Zk.2.2.2.2.2.1,Zk.2.2.2.2.2.2.2.2.2.2.1,Zk.2.2.2.2.2.2.2.2.1,())))
 (cond (p1.1==13)
  ((Rz (b0,CL,()) (b3,CN,()) p1.2.1).bind fun ec=>
  cond (!ec.1.1.2.1)
   (some (((((),CL,(),(),(),CN,(),(),(),(),BQ,()),4,()),()),(b0,b1,(),(),(),(),b6,(),b2,b3,b4,b5,b7,())))
  (some (((((),CL,(),(),(),ec.1.1.1.2.1,(),(),(),(),BQ,()),0,()),()),(b0,b1,(),(),(),(),b6,(),b2,ec.2.1,b4,b5,b7,()))))
 (cond (p1.1==14)
  ((WH CL CN BQ (p1.1,p1.2.1,p1.2.2.1,p1.2.2.2.1,p1.2.2.2.2.1,()) b0 b1 b2 b3 b4 b5 b6 b7).bind fun O4=>
  some (((((),O4.1.1.1.2.1,(),(),(),O4.1.1.1.2.2.2.2.2.1,(),(),(),(),O4.1.1.1.2.2.2.2.2.2.2.2.2.2.1,()),O4.1.1.2.1,()),()),(O4.2.1,O4.2.2.1,(),(),(),(),O4.2.2.2.2.2.2.2.1,(),O4.2.2.2.1,O4.2.2.2.2.1,O4.2.2.2.2.2.1,O4.2.2.2.2.2.2.1,O4.2.2.2.2.2.2.2.2.1,())))
 (cond (p1.1==15)
  ((Wf CL CN BQ (p1.1,p1.2.1,p1.2.2.1,p1.2.2.2.1,p1.2.2.2.2.1,()) b0 b1 b2 b3 b4 b5 b6 b7).bind fun mm=>
  some (((((),mm.1.1.1.2.1,(),(),(),mm.1.1.1.2.2.2.2.2.1,(),(),(),(),mm.1.1.1.2.2.2.2.2.2.2.2.2.2.1,()),mm.1.1.2.1,()),()),(mm.2.1,mm.2.2.1,(),(),(),(),mm.2.2.2.2.2.2.2.1,(),mm.2.2.2.1,mm.2.2.2.2.1,mm.2.2.2.2.2.2.2.2.2.1,mm.2.2.2.2.2.2.1,mm.2.2.2.2.2.2.2.2.1,())))
 ((UJ CL CN BQ (p1.1,p1.2.1,p1.2.2.1,p1.2.2.2.1,p1.2.2.2.2.1,()) b0 b1 b2 b3 b4 b5 b6 b7).bind fun Zq=>
 some (((((),Zq.1.1.1.2.1,(),(),(),Zq.1.1.1.2.2.2.2.2.1,(),(),(),(),Zq.1.1.1.2.2.2.2.2.2.2.2.2.2.1,()),Zq.1.1.2.1,()),()),(Zq.2.1,Zq.2.2.1,(),(),(),(),Zq.2.2.2.2.2.2.2.1,(),Zq.2.2.2.1,Zq.2.2.2.2.1,Zq.2.2.2.2.2.1,Zq.2.2.2.2.2.2.1,Zq.2.2.2.2.2.2.2.2.1,()))))))))))))))))
abbrev ot:Type:=AB_×ACf
def SR(p0:ABV)(p1:ABe):Option ot:=
 (PO (p0.1,p0.2.1,p0.2.2.1,p0.2.2.2.1,p0.2.2.2.2.1,p0.2.2.2.2.2.1,p0.2.2.2.2.2.2.1,p0.2.2.2.2.2.2.2.1,p0.2.2.2.2.2.2.2.2.1,p0.2.2.2.2.2.2.2.2.2.1,p0.2.2.2.2.2.2.2.2.2.2.1,())).bind fun u1=>
 cond (!u1.1.1)
  (some (((((),0,(),(),(),0,(),(),(),(),false,()),1,()),()),([],[],[],[],[],[],[],[],())))
 ((Yq (p1.1,p1.2.1,p1.2.2.1,p1.2.2.2.1,p1.2.2.2.2.1,())).bind fun u2=>
 cond (!u2.1.1)
  (some (((((),0,(),(),(),0,(),(),(),(),false,()),1,()),()),([],[],[],[],[],[],[],[],())))
 ((O7 (p0.1,p0.2.1,p0.2.2.1,p0.2.2.2.1,p0.2.2.2.2.1,p0.2.2.2.2.2.1,p0.2.2.2.2.2.2.1,p0.2.2.2.2.2.2.2.1,p0.2.2.2.2.2.2.2.2.1,p0.2.2.2.2.2.2.2.2.2.1,p0.2.2.2.2.2.2.2.2.2.2.1,())).bind fun u3=>
 (bS u3.1.1.2.1 u3.1.1.2.2.2.2.2.1 u3.1.1.2.2.2.2.2.2.2.2.2.2.1 (p1.1,p1.2.1,p1.2.2.1,p1.2.2.2.1,p1.2.2.2.2.1,()) u3.2.1 u3.2.2.1 u3.2.2.2.1 u3.2.2.2.2.1 u3.2.2.2.2.2.1 u3.2.2.2.2.2.2.1 u3.2.2.2.2.2.2.2.1 u3.2.2.2.2.2.2.2.2.1).bind fun u4=>
 cond (u4.1.1.2.1 !=0)
  ((O7 (p0.1,p0.2.1,p0.2.2.1,p0.2.2.2.1,p0.2.2.2.2.1,p0.2.2.2.2.2.1,p0.2.2.2.2.2.2.1,p0.2.2.2.2.2.2.2.1,p0.2.2.2.2.2.2.2.2.1,p0.2.2.2.2.2.2.2.2.2.1,p0.2.2.2.2.2.2.2.2.2.2.1,())).bind fun D5=>
  some (((((),D5.1.1.2.1,(),(),(),D5.1.1.2.2.2.2.2.1,(),(),(),(),D5.1.1.2.2.2.2.2.2.2.2.2.2.1,()),u4.1.1.2.1,()),()),(D5.2.1,D5.2.2.1,D5.2.2.2.1,D5.2.2.2.2.1,D5.2.2.2.2.2.1,D5.2.2.2.2.2.2.1,D5.2.2.2.2.2.2.2.1,D5.2.2.2.2.2.2.2.2.1,())))
 (some (((((),u4.1.1.1.2.1,(),(),(),u4.1.1.1.2.2.2.2.2.1,(),(),(),(),u4.1.1.1.2.2.2.2.2.2.2.2.2.2.1,()),u4.1.1.2.1,()),()),(u4.2.1,u4.2.2.1,u4.2.2.2.2.2.2.2.2.2.1,u4.2.2.2.2.2.2.2.2.2.2.1,u4.2.2.2.2.2.2.2.2.2.2.2.1,u4.2.2.2.2.2.2.2.2.2.2.2.2.1,u4.2.2.2.2.2.2.2.1,u4.2.2.2.2.2.2.2.2.2.2.2.2.2.1,())))))
abbrev DH:Type:=(AKW×Unit)×(ABj×Unit×Unit×Unit×Unit×Unit×Unit×Unit×Unit×(List ABe)×List Int×AAT×List Int×AAP×AAj×AAo×AAs×AAa×Unit)
abbrev Ht:Type:=Int→Int→List Int→Int→Int→Int→Int→Bool→List Int→AAT→List Int→AAP→AAj→AAo→AAs→AAa→Int→Int→Bool→List Int→AAT→List Int→AAP→AAj→AAo→AAs→AAa→Int→List Int→List Int→Option DH
abbrev H3:Type:=Int→List Int→Int→Int→Int→Int→Bool→List Int→AAT→List Int→AAP→AAj→AAo→AAs→AAa→Int→Int→Bool→List Int→AAT→List Int→AAP→AAj→AAo→AAs→AAa→Int→List Int→List Int→Option DH
abbrev HI:Type:=Int→Int→List Int→Int→Int→Int→Int→Bool→List Int→AAT→List Int→AAP→AAj→AAo→AAs→AAa→Int→Int→Bool→List Int→AAT→List Int→AAP→AAj→AAo→AAs→AAa→Int→Int→Bool→Int→Int→Bool→List Int→AAT→List Int→AAP→AAj→AAo→AAs→AAa→(List ABe)→Option DH
def RR(R4:Ht)(R7:H3)(R14:HI)(t1 t9:Int)(AM:AAF)(AE Ac Az D8:Int)(E9:Bool)(b2:AAF)(b3:AAT)(b4:AAF)(b5:AAP)(b6:AAj)(b7:AAo)(b8:AAs)(b9:AAa)(Dh Ed:Int)(C1:Bool)(Fl:AAF)(DX:AAT)(F7:AAF)(GV:AAP)(Dv:AAj)(D_:AAo)(E8:AAs)(VO:AAa)(CS:Int)(b20 b21:AAF):Option DH:=
 cond ((decide (t9<(b20.length:Int))))
  (if b21.length+1≤DF then(
  R4 t1 (AU (t9+1)) AM AE Ac Az D8 E9 b2 b3 b4 b5 b6 b7 b8 b9 Dh Ed C1 Fl DX F7 GV Dv D_ E8 VO CS b20 (b21++[t9]))else none)
 (R7 t1 AM AE Ac Az D8 E9 b2 b3 b4 b5 b6 b7 b8 b9 Dh Ed C1 Fl DX F7 GV Dv D_ E8 VO CS b20 b21)
def RT(R4:Ht)(R7:H3)(R14:HI)(t1:Int)(AM:AAF)(AE Ac Az D8:Int)(E9:Bool)(b2:AAF)(b3:AAT)(b4:AAF)(b5:AAP)(b6:AAj)(b7:AAo)(b8:AAs)(b9:AAa)(Dh Ed:Int)(C1:Bool)(Fl:AAF)(DX:AAT)(F7:AAF)(GV:AAP)(Dv:AAj)(D_:AAo)(E8:AAs)(VO:AAa)(CS:Int)(b20 b21:AAF):Option DH:=
 cond (decide (CS>1))
  ((Em (b20,CS,()) b21).bind fun u3=>
  cond (!u3.1.1)
   (R7 t1 AM AE Ac Az D8 E9 b2 b3 b4 b5 b6 b7 b8 b9 Dh Ed C1 Fl DX F7 GV Dv D_ E8 VO (AU (CS-1)) b20 b21)
  ((Hr (b20,CS,())).bind fun u4=>
  (AJ (AU (t1+1)) AM AE Ac).bind fun u5=>
  R14 u5.1.1 0 u5.2.1.1 u5.2.1.2.1 u5.2.1.2.2.1 Az D8 E9 b2 b3 b4 b5 b6 b7 b8 b9 Dh Ed C1 Fl DX F7 GV Dv D_ E8 VO u4.1.1.1.2.1 u4.1.1.1.2.2.2.2.2.1 u4.1.1.1.2.2.2.2.2.2.2.2.2.2.1 u4.1.1.1.2.1 u4.1.1.1.2.2.2.2.2.1 u4.1.1.1.2.2.2.2.2.2.2.2.2.2.1 u4.2.1 u4.2.2.1 u4.2.2.2.1 u4.2.2.2.2.1 u4.2.2.2.2.2.1 u4.2.2.2.2.2.2.1 u4.2.2.2.2.2.2.2.1 u4.2.2.2.2.2.2.2.2.1 []))
 ((Hr (b20,CS,())).bind fun u6=>
 (AJ (AU (t1+1)) AM AE Ac).bind fun u7=>
 R14 u7.1.1 0 u7.2.1.1 u7.2.1.2.1 u7.2.1.2.2.1 Az D8 E9 b2 b3 b4 b5 b6 b7 b8 b9 Dh Ed C1 Fl DX F7 GV Dv D_ E8 VO u6.1.1.1.2.1 u6.1.1.1.2.2.2.2.2.1 u6.1.1.1.2.2.2.2.2.2.2.2.2.2.1 u6.1.1.1.2.1 u6.1.1.1.2.2.2.2.2.1 u6.1.1.1.2.2.2.2.2.2.2.2.2.2.1 u6.2.1 u6.2.2.1 u6.2.2.2.1 u6.2.2.2.2.1 u6.2.2.2.2.2.1 u6.2.2.2.2.2.2.1 u6.2.2.2.2.2.2.2.1 u6.2.2.2.2.2.2.2.2.1 [])
def P1(R4:Ht)(R7:H3)(R14:HI)(t14 t15:Int)(AM:AAF)(AE Ac Az D8:Int)(E9:Bool)(b2:AAF)(b3:AAT)(b4:AAF)(b5:AAP)(b6:AAj)(b7:AAo)(b8:AAs)(b9:AAa)(Dh Ed:Int)(C1:Bool)(Fl:AAF)(DX:AAT)(F7:AAF)(GV:AAP)(Dv:AAj)(D_:AAo)(E8:AAs)(VO:AAa)(CS VG:Int)(xm:Bool)(zM zD:Int)(tQ:Bool)(b29:AAF)(b30:AAT)(b31:AAF)(b32:AAP)(b33:AAj)(b34:AAo)(b35:AAs)(b36:AAa)(b37:List ABe):Option DH:=
 cond (decide (t15<t14))
  ((Lj (b29,zM,b30,b31,b32,zD,b33,b34,b35,b36,tQ,()) AM AE Ac).bind fun u8=>
  if b37.length+1≤DF then(
  let x9:List ABe:=b37++[(u8.1.1.1,u8.1.1.2.1,u8.1.1.2.2.1,u8.1.1.2.2.2.1,u8.1.1.2.2.2.2.1,())]
  (SR (b29,zM,b30,b31,b32,zD,b33,b34,b35,b36,tQ,()) (u8.1.1.1,u8.1.1.2.1,u8.1.1.2.2.1,u8.1.1.2.2.2.1,u8.1.1.2.2.2.2.1,())).bind fun D5=>
  cond (D5.1.1.2.1==0)
   (R14 t14 (AU (t15+1)) u8.2.1.1 u8.2.1.2.1 u8.2.1.2.2.1 Az D8 E9 b2 b3 b4 b5 b6 b7 b8 b9 Dh Ed C1 Fl DX F7 GV Dv D_ E8 VO CS VG xm D5.1.1.1.2.1 D5.1.1.1.2.2.2.2.2.1 D5.1.1.1.2.2.2.2.2.2.2.2.2.2.1 D5.2.1 D5.2.2.1 D5.2.2.2.1 D5.2.2.2.2.1 D5.2.2.2.2.2.1 D5.2.2.2.2.2.2.1 D5.2.2.2.2.2.2.2.1 D5.2.2.2.2.2.2.2.2.1 x9)
  (R14 t14 (AU (t15+1)) u8.2.1.1 u8.2.1.2.1 u8.2.1.2.2.1 Az D8 E9 b2 b3 b4 b5 b6 b7 b8 b9 Dh Ed C1 Fl DX F7 GV Dv D_ E8 VO CS VG xm zM zD tQ b29 b30 b31 b32 b33 b34 b35 b36 x9))else none)
 (some (((((),CS,(),(),(),VG,(),(),(),(),xm,()),(),((),zM,(),(),(),zD,(),(),(),(),tQ,()),()),()),((AM,AE,Ac,()),(),(),(),(),(),(),(),(),b37,b29,b30,b31,b32,b33,b34,b35,b36,())))
mutual
def Eu:Nat→Ht
 |0=>fun _ _ _ _ _ _ _ _ _ _ _ _ _ _ _ _ _ _ _ _ _ _ _ _ _ _ _ _ _ _=>none
 |n+1=>RR (Eu n) (Ey n) (Dd n)
def Ey:Nat→H3
 |0=>fun _ _ _ _ _ _ _ _ _ _ _ _ _ _ _ _ _ _ _ _ _ _ _ _ _ _ _ _ _=>none
 |n+1=>RT (Eu n) (Ey n) (Dd n)
def Dd:Nat→HI
 |0=>fun _ _ _ _ _ _ _ _ _ _ _ _ _ _ _ _ _ _ _ _ _ _ _ _ _ _ _ _ _ _ _ _ _ _ _ _ _ _ _ _ _ _=>none
 |n+1=>P1 (Eu n) (Ey n) (Dd n)
end
def Re(R4:Ht)(R7:H3)(R14:HI)(p1:Int)(AM:AAF)(AE Ac:Int):Option DH:=
 (MJ AM AE Ac).bind fun u1=>
 R4 p1 0 u1.2.1.1 u1.2.1.2.1 u1.2.1.2.2.1 0 0 false [] [] [] [] [] [] [] [] 0 0 false [] [] [] [] [] [] [] [] u1.1.1.2.1 u1.2.2.1 []
def Kx(p1:Int)(AM:AAF)(AE Ac:Int):Option DH:=Re (Eu Ab) (Ey Ab) (Dd Ab) p1 AM AE Ac
abbrev f_:Type:=AFf×ACp
def Lt(AM:AAF)(AE Ac:Int):Option f_:=
 (AJ 3 AM AE Ac).bind fun u1=>
 (AJ 6 u1.2.1.1 u1.2.1.2.1 u1.2.1.2.2.1).bind fun u2=>
 (CZ (AU (1+u1.1.1)) (AU (1+u2.1.1))).bind fun u3=>
 (G6 [[],[97],[98,99],[0],[119,111,114,100]] u2.2.1.1 u2.2.1.2.1 u2.2.1.2.2.1).bind fun u4=>
 (BF 3 u4.2.1.1 u4.2.1.2.1 u4.2.1.2.2.1).bind fun u5=>
 cond (u5.1.1)
  ((Cl u3.1.1).bind fun u6=>
  (AJ 3 u5.2.1.1 u5.2.1.2.1 u5.2.1.2.2.1).bind fun u7=>
  let x8:Int:=AU ((AU (u6.1.1+1))+u7.1.1)
  (BF 2 u7.2.1.1 u7.2.1.2.1 u7.2.1.2.2.1).bind fun u9=>
  cond (u9.1.1)
   (some (((u3.1.1,x8,true,[],()),()),((u9.2.1.1,u9.2.1.2.1,u9.2.1.2.2.1,()),())))
  (some (((u3.1.1,x8,false,u4.1.1,()),()),((u9.2.1.1,u9.2.1.2.1,u9.2.1.2.2.1,()),()))))
 (some (((u3.1.1,0,false,u4.1.1,()),()),((u5.2.1.1,u5.2.1.2.1,u5.2.1.2.2.1,()),())))
abbrev CU:Type:=AEf×ALI
abbrev Ij:Type:=Int→Int→List Int→Int→Int→Int→AAZ→AAZ→Int→AAZ→AAZ→Option CU
abbrev Hu:Type:=Int→List Int→Int→Int→Int→AAZ→AAZ→Int→AAZ→AAZ→Option CU
abbrev H5:Type:=Int→Int→List Int→Int→Int→Int→AAZ→AAZ→Int→AAZ→AAZ→Option CU
def Ru(R4:Ij)(R20:Hu)(R23:H5)(t4 t5:Int)(AM:AAF)(AE Ac DK:Int)(b2 b3:AAZ)(Mo:Int)(b5 b6:AAZ):Option CU:=
 cond (decide (t5<t4))
  ((Lt AM AE Ac).bind fun u2=>
  (NX (b5,b6,Mo,()) (u2.1.1.1,u2.1.1.2.1,u2.1.1.2.2.1,u2.1.1.2.2.2.1,())).bind fun u3=>
  (AJ 6 u2.2.1.1 u2.2.1.2.1 u2.2.1.2.2.1).bind fun u4=>
  cond (u4.1.1==0)
   ((Jx (b5,b6,Mo,())).bind fun u5=>
   cond (u5.1.1.2.1)
    (R4 t4 (AU (t5+1)) u4.2.1.1 u4.2.1.2.1 u4.2.1.2.2.1 DK b2 b3 u5.1.1.1.2.2.1 u5.2.1 u5.2.2.1)
   (R4 t4 (AU (t5+1)) u4.2.1.1 u4.2.1.2.1 u4.2.1.2.2.1 DK b2 b3 Mo b5 b6))
  (cond (u4.1.1==1)
   ((Jx (u3.2.1,u3.2.2.1,u3.1.1.1.2.2.1,())).bind fun u6=>
   cond (u6.1.1.2.1)
    (R4 t4 (AU (t5+1)) u4.2.1.1 u4.2.1.2.1 u4.2.1.2.2.1 DK b2 b3 u6.1.1.1.2.2.1 u6.2.1 u6.2.2.1)
   (R4 t4 (AU (t5+1)) u4.2.1.1 u4.2.1.2.1 u4.2.1.2.2.1 DK b2 b3 Mo b5 b6))
  (cond (u4.1.1==2)
   ((BF 3 u4.2.1.1 u4.2.1.2.1 u4.2.1.2.2.1).bind fun u7=>
   cond (u7.1.1)
    ((AJ 4 u7.2.1.1 u7.2.1.2.1 u7.2.1.2.2.1).bind fun u8=>
    (OM (b5,b6,Mo,()) u8.1.1).bind fun u9=>
    cond (u9.1.1.2.1)
     (R4 t4 (AU (t5+1)) u8.2.1.1 u8.2.1.2.1 u8.2.1.2.2.1 DK b2 b3 u9.1.1.1.2.2.1 u9.2.1 u9.2.2.1)
    (R4 t4 (AU (t5+1)) u8.2.1.1 u8.2.1.2.1 u8.2.1.2.2.1 DK b2 b3 Mo b5 b6))
   (cond (u3.1.1.2.1)
    (R4 t4 (AU (t5+1)) u7.2.1.1 u7.2.1.2.1 u7.2.1.2.2.1 DK b2 b3 u3.1.1.1.2.2.1 u3.2.1 u3.2.2.1)
   (R4 t4 (AU (t5+1)) u7.2.1.1 u7.2.1.2.1 u7.2.1.2.2.1 DK b2 b3 Mo b5 b6)))
  (cond (u3.1.1.2.1)
   (R4 t4 (AU (t5+1)) u4.2.1.1 u4.2.1.2.1 u4.2.1.2.2.1 DK b2 b3 u3.1.1.1.2.2.1 u3.2.1 u3.2.2.1)
  (R4 t4 (AU (t5+1)) u4.2.1.1 u4.2.1.2.1 u4.2.1.2.2.1 DK b2 b3 Mo b5 b6)))))
 ((BF 40 AM AE Ac).bind fun aV=>
 cond (aV.1.1)
  (R20 1 aV.2.1.1 aV.2.1.2.1 aV.2.1.2.2.1 DK b2 b3 Mo [] b6)
 (some ((((),(),Mo,()),()),((aV.2.1.1,aV.2.1.2.1,aV.2.1.2.2.1,()),b5,b6,()))))
def RP(R4:Ij)(R20:Hu)(R23:H5)(t8:Int)(AM:AAF)(AE Ac DK:Int)(b2 b3:AAZ)(Mo:Int)(b5 b6:AAZ):Option CU:=
 cond (decide (t8≤4))
  (R23 t8 1 AM AE Ac DK b2 b3 Mo b5 b6)
 (some ((((),(),Mo,()),()),((AM,AE,Ac,()),b5,b6,())))
def Q_(R4:Ij)(R20:Hu)(R23:H5)(t8 t9:Int)(AM:AAF)(AE Ac DK:Int)(b2 b3:AAZ)(Mo:Int)(b5 b6:AAZ):Option CU:=
 cond (decide (t9≤50))
  ((CZ t8 t9).bind fun fK=>
  if b5.length+1≤DF then(
  R23 t8 (AU (t9+1)) AM AE Ac DK b2 b3 Mo (b5++[(fK.1.1,0,false,[],())]) b6)else none)
 (R20 (AU (t8+1)) AM AE Ac DK b2 b3 Mo b5 b6)
mutual
def EN:Nat→Ij
 |0=>fun _ _ _ _ _ _ _ _ _ _ _=>none
 |n+1=>Ru (EN n) (Ep n) (Eg n)
def Ep:Nat→Hu
 |0=>fun _ _ _ _ _ _ _ _ _ _=>none
 |n+1=>RP (EN n) (Ep n) (Eg n)
def Eg:Nat→H5
 |0=>fun _ _ _ _ _ _ _ _ _ _ _=>none
 |n+1=>Q_ (EN n) (Ep n) (Eg n)
end
def Sn(R4:Ij)(R20:Hu)(R23:H5)(AM:AAF)(AE Ac:Int):Option CU:=
 (AJ 8 AM AE Ac).bind fun u1=>
 R4 u1.1.1 0 u1.2.1.1 u1.2.1.2.1 u1.2.1.2.2.1 0 [] [] 0 [] []
def GD(AM:AAF)(AE Ac:Int):Option CU:=Sn (EN Ab) (Ep Ab) (Eg Ab) AM AE Ac
abbrev Qp:Type:=ABW×ACp
def FG(AM:AAF)(AE Ac:Int):Option Qp:=
 (AJ 3 AM AE Ac).bind fun u1=>
 (AJ 6 u1.2.1.1 u1.2.1.2.1 u1.2.1.2.2.1).bind fun u2=>
 (CZ (AU (1+u1.1.1)) (AU (1+u2.1.1))).bind fun u3=>
 (AJ 15 u2.2.1.1 u2.2.1.2.1 u2.2.1.2.2.1).bind fun u4=>
 cond (u4.1.1==0)
  ((CB [0,(-1),4294967296,4294967297,9223372036854775807,(-9223372036854775808)] u4.2.1.1 u4.2.1.2.1 u4.2.1.2.2.1).bind fun u5=>
  some ((u5.1.1,()),((u5.2.1.1,u5.2.1.2.1,u5.2.1.2.2.1,()),())))
 (cond (u4.1.1==1)
  ((CB [0,30,31] u4.2.1.1 u4.2.1.2.1 u4.2.1.2.2.1).bind fun u6=>
  (CB [0,60,61] u6.2.1.1 u6.2.1.2.1 u6.2.1.2.2.1).bind fun u7=>
  (CZ u6.1.1 u7.1.1).bind fun u8=>
  some ((u8.1.1,()),((u7.2.1.1,u7.2.1.2.1,u7.2.1.2.2.1,()),())))
 (some ((u3.1.1,()),((u4.2.1.1,u4.2.1.2.1,u4.2.1.2.2.1,()),()))))
abbrev qQ:Type:=AFf×ACp
def RJ(AM:AAF)(AE Ac:Int):Option qQ:=
 (Lt AM AE Ac).bind fun u1=>
 (AJ 15 u1.2.1.1 u1.2.1.2.1 u1.2.1.2.2.1).bind fun u2=>
 cond (u2.1.1==0)
  ((FG u2.2.1.1 u2.2.1.2.1 u2.2.1.2.2.1).bind fun u3=>
  some (((u3.1.1,u1.1.1.2.1,u1.1.1.2.2.1,u1.1.1.2.2.2.1,()),()),((u3.2.1.1,u3.2.1.2.1,u3.2.1.2.2.1,()),())))
 (cond (u2.1.1==1)
  ((CB [(-1),1,30,31] u2.2.1.1 u2.2.1.2.1 u2.2.1.2.2.1).bind fun u4=>
  some (((u1.1.1.1,u4.1.1,u1.1.1.2.2.1,u1.1.1.2.2.2.1,()),()),((u4.2.1.1,u4.2.1.2.1,u4.2.1.2.2.1,()),())))
 (cond (u2.1.1==2)
  (some (((u1.1.1.1,u1.1.1.2.1,true,u1.1.1.2.2.2.1,()),()),((u2.2.1.1,u2.2.1.2.1,u2.2.1.2.2.1,()),())))
 (cond (u2.1.1==3)
  ((AJ 2 u2.2.1.1 u2.2.1.2.1 u2.2.1.2.2.1).bind fun u5=>
  if(0:Int)≤(AU (40+u5.1.1))∧(AU (40+u5.1.1))≤(AU (40+u5.1.1))∧(AU (40+u5.1.1))≤(DF:Int)then(
  some (((u1.1.1.1,u1.1.1.2.1,u1.1.1.2.2.1,((List.replicate ((AU (40+u5.1.1)).toNat) 0).map fun n:Int=>UInt8.ofNat n.toNat),()),()),((u5.2.1.1,u5.2.1.2.1,u5.2.1.2.2.1,()),())))else none)
 (some (((u1.1.1.1,u1.1.1.2.1,u1.1.1.2.2.1,u1.1.1.2.2.2.1,()),()),((u2.2.1.1,u2.2.1.2.1,u2.2.1.2.2.1,()),()))))))
abbrev NR:Type:=AEf×ALI
abbrev Ve:Type:=List Int→Int→Int→Int→AAZ→AAZ→Int→AAZ→AAZ→Option NR
def XQ(R10:Ve)(AM:AAF)(AE Ac DK:Int)(b2 b3:AAZ)(Mo:Int)(b5 b6:AAZ):Option NR:=
 (AJ 2 AM AE Ac).bind fun Kc=>
 cond ((decide ((b6.length:Int)<(AU (20+Kc.1.1)))))
  ((CZ 5 1).bind fun u16=>
  if b6.length+1≤DF then(
  R10 Kc.2.1.1 Kc.2.1.2.1 Kc.2.1.2.2.1 DK b2 b3 Mo b5 (b6++[(u16.1.1,0,false,[],())]))else none)
 (some ((((),(),Mo,()),()),((Kc.2.1.1,Kc.2.1.2.1,Kc.2.1.2.2.1,()),b5,b6,())))
def M8:Nat→Ve
 |0=>fun _ _ _ _ _ _ _ _ _=>none
 |n+1=>XQ (M8 n)
def Yz(R10:Ve)(AM:AAF)(AE Ac:Int):Option NR:=
 (GD AM AE Ac).bind fun u1=>
 (AJ 25 u1.2.1.1 u1.2.1.2.1 u1.2.1.2.2.1).bind fun u2=>
 cond (u2.1.1==0)
  ((CB [(-1),30,31] u2.2.1.1 u2.2.1.2.1 u2.2.1.2.2.1).bind fun u3=>
  some ((((),(),u3.1.1,()),()),((u3.2.1.1,u3.2.1.2.1,u3.2.1.2.2.1,()),u1.2.2.1,u1.2.2.2.1,())))
 (cond (u2.1.1==1)
  ((RJ u2.2.1.1 u2.2.1.2.1 u2.2.1.2.2.1).bind fun u4=>
  if u1.2.2.1.length+1≤DF then(
  some ((((),(),u1.1.1.2.2.1,()),()),((u4.2.1.1,u4.2.1.2.1,u4.2.1.2.2.1,()),(u1.2.2.1++[(u4.1.1.1,u4.1.1.2.1,u4.1.1.2.2.1,u4.1.1.2.2.2.1,())]),u1.2.2.2.1,())))else none)
 (cond (u2.1.1==2)
  ((RJ u2.2.1.1 u2.2.1.2.1 u2.2.1.2.2.1).bind fun u9=>
  if u1.2.2.2.1.length+1≤DF then(
  some ((((),(),u1.1.1.2.2.1,()),()),((u9.2.1.1,u9.2.1.2.1,u9.2.1.2.2.1,()),u1.2.2.1,(u1.2.2.2.1++[(u9.1.1.1,u9.1.1.2.1,u9.1.1.2.2.1,u9.1.1.2.2.2.1,())]),())))else none)
 (cond (u2.1.1==3)
  (R10 u2.2.1.1 u2.2.1.2.1 u2.2.1.2.2.1 0 [] [] u1.1.1.2.2.1 u1.2.2.1 u1.2.2.2.1)
 (some ((((),(),u1.1.1.2.2.1,()),()),((u2.2.1.1,u2.2.1.2.1,u2.2.1.2.2.1,()),u1.2.2.1,u1.2.2.2.1,()))))))
def U0(AM:AAF)(AE Ac:Int):Option NR:=Yz (M8 Ab) AM AE Ac
abbrev Ma:Type:=ACq×ALO
abbrev Pv:Type:=Int→List Int→Int→Int→List Int→Int→Int→AAP→Int→AAP→Option Ma
def Sl(R3:Pv)(t6:Int)(AM:AAF)(AE Ac:Int)(BI:AAF)(Az K_:Int)(b3:AAP)(ed:Int)(b5:AAP):Option Ma:=
 (AJ 7 AM AE Ac).bind fun u1=>
 cond (decide (t6<u1.1.1))
  ((Hv (BI,Az,()) u1.2.1.1 u1.2.1.2.1 u1.2.1.2.2.1).bind fun u2=>
  (Ms (BI,Az,()) (b5,ed,()) u2.2.2.1).bind fun u3=>
  (AJ 4 u2.2.1.1 u2.2.1.2.1 u2.2.1.2.2.1).bind fun u4=>
  cond (u4.1.1==0)
   ((AJ 5 u4.2.1.1 u4.2.1.2.1 u4.2.1.2.2.1).bind fun u5=>
   (P2 (BI,Az,()) (b5,ed,()) (b5.length:Int) u5.1.1).bind fun u6=>
   cond (u6.1.1.2.1)
    (R3 (AU (t6+1)) u5.2.1.1 u5.2.1.2.1 u5.2.1.2.2.1 BI Az K_ b3 u6.1.1.1.2.1 u6.2.1)
   (R3 (AU (t6+1)) u5.2.1.1 u5.2.1.2.1 u5.2.1.2.2.1 BI Az K_ b3 ed b5))
  (cond (u4.1.1==1)
   ((AJ 2 u4.2.1.1 u4.2.1.2.1 u4.2.1.2.2.1).bind fun u7=>
   (AJ 4 u7.2.1.1 u7.2.1.2.1 u7.2.1.2.2.1).bind fun u8=>
   (CZ (AU (1+u7.1.1)) (AU (1+u8.1.1))).bind fun u9=>
   (Rz (BI,Az,()) (b5,ed,()) u9.1.1).bind fun D5=>
   cond (D5.1.1.2.1)
    (R3 (AU (t6+1)) u8.2.1.1 u8.2.1.2.1 u8.2.1.2.2.1 BI Az K_ b3 D5.1.1.1.2.1 D5.2.1)
   (R3 (AU (t6+1)) u8.2.1.1 u8.2.1.2.1 u8.2.1.2.2.1 BI Az K_ b3 ed b5))
  (cond (u3.1.1.2.2.1)
   (R3 (AU (t6+1)) u4.2.1.1 u4.2.1.2.1 u4.2.1.2.2.1 BI Az K_ b3 u3.1.1.1.2.1 u3.2.1)
  (R3 (AU (t6+1)) u4.2.1.1 u4.2.1.2.1 u4.2.1.2.2.1 BI Az K_ b3 ed b5))))
 (some ((((),ed,()),()),((u1.2.1.1,u1.2.1.2.1,u1.2.1.2.2.1,()),b5,())))
def Gy:Nat→Pv
 |0=>fun _ _ _ _ _ _ _ _ _ _=>none
 |n+1=>Sl (Gy n)
def S1(R3:Pv)(p1:ABA)(AM:AAF)(AE Ac:Int):Option Ma:=
 R3 0 AM AE Ac p1.1 p1.2.1 0 [] 0 []
def PS(p1:ABA)(AM:AAF)(AE Ac:Int):Option Ma:=S1 (Gy Ab) p1 AM AE Ac
abbrev NO:Type:=ACq×ALO
abbrev Vc:Type:=List Int→List Int→Int→Int→Int→AAP→Int→AAP→Option NO
def X0(R17:Vc)(t7 AM:AAF)(AE Ac Az:Int)(b2:AAP)(dO:Int)(b4:AAP):Option NO:=
 (AJ 2 AM AE Ac).bind fun MZ=>
 cond ((decide ((b4.length:Int)<(AU (30+MZ.1.1)))))
  (if b4.length+1≤DF then(
  R17 t7 MZ.2.1.1 MZ.2.1.2.1 MZ.2.1.2.2.1 Az b2 dO (b4++[(t7,false,0,())]))else none)
 (some ((((),dO,()),()),((MZ.2.1.1,MZ.2.1.2.1,MZ.2.1.2.2.1,()),b4,())))
def NJ:Nat→Vc
 |0=>fun _ _ _ _ _ _ _ _=>none
 |n+1=>X0 (NJ n)
def YS(R17:Vc)(p1:ABA)(AM:AAF)(AE Ac:Int):Option NO:=
 (PS (p1.1,p1.2.1,()) AM AE Ac).bind fun u1=>
 let x2:Int:=(u1.2.2.1.length:Int)
 (AJ 25 u1.2.1.1 u1.2.1.2.1 u1.2.1.2.2.1).bind fun u3=>
 cond (u3.1.1==0)
  ((FG u3.2.1.1 u3.2.1.2.1 u3.2.1.2.2.1).bind fun u4=>
  some ((((),u4.1.1,()),()),((u4.2.1.1,u4.2.1.2.1,u4.2.1.2.2.1,()),u1.2.2.1,())))
 (cond (u3.1.1==1)
  (cond (decide (x2>0))
   (if(0:Int)≤AU (x2-1)∧AU (x2-1)<(u1.2.2.1.length:Int)then(
   some ((((),u1.1.1.2.1,()),()),((u3.2.1.1,u3.2.1.2.1,u3.2.1.2.2.1,()),(u1.2.2.1.set ((AU (x2-1)).toNat) ((u1.2.2.1.getD ((AU (x2-1)).toNat) ([],false,0,())).1,true,(u1.2.2.1.getD ((AU (x2-1)).toNat) ([],false,0,())).2.2.1,())),())))else none)
  (some ((((),u1.1.1.2.1,()),()),((u3.2.1.1,u3.2.1.2.1,u3.2.1.2.2.1,()),u1.2.2.1,()))))
 (cond (u3.1.1==2)
  (cond (decide (x2>0))
   ((CB [(-1),1,60,61] u3.2.1.1 u3.2.1.2.1 u3.2.1.2.2.1).bind fun u6=>
   if(0:Int)≤(0:Int)∧(0:Int)<(u1.2.2.1.length:Int)then(
   some ((((),u1.1.1.2.1,()),()),((u6.2.1.1,u6.2.1.2.1,u6.2.1.2.2.1,()),(u1.2.2.1.set 0 ((u1.2.2.1.getD 0 ([],false,0,())).1,(u1.2.2.1.getD 0 ([],false,0,())).2.1,u6.1.1,())),())))else none)
  (some ((((),u1.1.1.2.1,()),()),((u3.2.1.1,u3.2.1.2.1,u3.2.1.2.2.1,()),u1.2.2.1,()))))
 (cond (u3.1.1==3)
  (cond (decide (x2>0))
   ((FH (p1.1,p1.2.1,()) u3.2.1.1 u3.2.1.2.1 u3.2.1.2.2.1).bind fun u8=>
   if(0:Int)≤(0:Int)∧(0:Int)<(u1.2.2.1.length:Int)then(
   some ((((),u1.1.1.2.1,()),()),((u8.2.1.1,u8.2.1.2.1,u8.2.1.2.2.1,()),(u1.2.2.1.set 0 (u8.2.2.1,(u1.2.2.1.getD 0 ([],false,0,())).2.1,(u1.2.2.1.getD 0 ([],false,0,())).2.2.1,())),())))else none)
  (some ((((),u1.1.1.2.1,()),()),((u3.2.1.1,u3.2.1.2.1,u3.2.1.2.2.1,()),u1.2.2.1,()))))
 (cond (u3.1.1==4)
  ((Hv (p1.1,p1.2.1,()) u3.2.1.1 u3.2.1.2.1 u3.2.1.2.2.1).bind fun D5=>
  R17 D5.2.2.1 D5.2.1.1 D5.2.1.2.1 D5.2.1.2.2.1 0 [] u1.1.1.2.1 u1.2.2.1)
 (some ((((),u1.1.1.2.1,()),()),((u3.2.1.1,u3.2.1.2.1,u3.2.1.2.2.1,()),u1.2.2.1,())))))))
def VB(p1:ABA)(AM:AAF)(AE Ac:Int):Option NO:=YS (NJ Ab) p1 AM AE Ac
abbrev Mm:Type:=AEi×ALS
abbrev Pq:Type:=Int→List Int→Int→Int→List Int→Int→Int→ABX→Int→ABX→Option Mm
def Rs(R3:Pq)(t6:Int)(AM:AAF)(AE Ac:Int)(BI:AAF)(Az Iy:Int)(b3:ABX)(hD:Int)(b5:ABX):Option Mm:=
 (AJ 14 AM AE Ac).bind fun u2=>
 cond (decide (t6<u2.1.1))
  ((G6 [[],[97],[98,99]] u2.2.1.1 u2.2.1.2.1 u2.2.1.2.2.1).bind fun u3=>
  (Gp (BI,Az,()) (hD,b5,()) u3.1.1).bind fun u4=>
  (BF 2 u3.2.1.1 u3.2.1.2.1 u3.2.1.2.2.1).bind fun u5=>
  cond (u5.1.1)
   ((FQ (b5.length:Int) 1).bind fun u6=>
   (AJ u6.1.1 u5.2.1.1 u5.2.1.2.1 u5.2.1.2.2.1).bind fun u7=>
   (AJ (BI.length:Int) u7.2.1.1 u7.2.1.2.1 u7.2.1.2.2.1).bind fun u8=>
   (Dk (BI,Az,()) (hD,b5,()) (AU (1+u7.1.1)) u8.1.1).bind fun u9=>
   cond (u9.1.1.2.1)
    (R3 (AU (t6+1)) u8.2.1.1 u8.2.1.2.1 u8.2.1.2.2.1 BI Az Iy b3 u9.1.1.1.1 u9.2.1)
   (R3 (AU (t6+1)) u8.2.1.1 u8.2.1.2.1 u8.2.1.2.2.1 BI Az Iy b3 hD b5))
  (cond (u4.1.1.2.2.1)
   (R3 (AU (t6+1)) u5.2.1.1 u5.2.1.2.1 u5.2.1.2.2.1 BI Az Iy b3 u4.1.1.1.1 u4.2.1)
  (R3 (AU (t6+1)) u5.2.1.1 u5.2.1.2.1 u5.2.1.2.2.1 BI Az Iy b3 hD b5)))
 (some (((hD,(),()),()),((u2.2.1.1,u2.2.1.2.1,u2.2.1.2.2.1,()),b5,())))
def Il:Nat→Pq
 |0=>fun _ _ _ _ _ _ _ _ _ _=>none
 |n+1=>Rs (Il n)
def SM(R3:Pq)(p1:ABA)(AM:AAF)(AE Ac:Int):Option Mm:=
 (AJ 4 AM AE Ac).bind fun u1=>
 R3 0 u1.2.1.1 u1.2.1.2.1 u1.2.1.2.2.1 p1.1 p1.2.1 0 [] (AU (1+u1.1.1)) []
def PQ(p1:ABA)(AM:AAF)(AE Ac:Int):Option Mm:=SM (Il Ab) p1 AM AE Ac
abbrev NW:Type:=AEi×ALS
abbrev Vg:Type:=List Int→Int→Int→Int→ABX→Int→ABX→Option NW
def Qv(rh:Vg)(AM:AAF)(AE Ac BI:Int)(b2:ABX)(gF:Int)(b4:ABX):Option NW:=
 cond ((decide ((b4.length:Int)<60)))
  (cond ((decide ((b4.length:Int)>0)))
   (if(0:Int)≤(0:Int)∧(0:Int)<(b4.length:Int)then(
   if b4.length+1≤DF then(
   rh AM AE Ac BI b2 gF (b4++[((b4.getD 0 ([],[],false,())).1,(b4.getD 0 ([],[],false,())).2.1,(b4.getD 0 ([],[],false,())).2.2.1,())]))else none)else none)
  (some (((gF,(),()),()),((AM,AE,Ac,()),b4,()))))
 (some (((gF,(),()),()),((AM,AE,Ac,()),b4,())))
def G_:Nat→Vg
 |0=>fun _ _ _ _ _ _ _=>none
 |n+1=>Qv (G_ n)
def OB(rh:Vg)(p1:ABA)(AM:AAF)(AE Ac:Int):Option NW:=
 (PQ (p1.1,p1.2.1,()) AM AE Ac).bind fun u1=>
 (AJ 25 u1.2.1.1 u1.2.1.2.1 u1.2.1.2.2.1).bind fun u2=>
 cond (u2.1.1==0)
  ((CB [0,30,31] u2.2.1.1 u2.2.1.2.1 u2.2.1.2.2.1).bind fun u3=>
  some (((u3.1.1,(),()),()),((u3.2.1.1,u3.2.1.2.1,u3.2.1.2.2.1,()),u1.2.2.1,())))
 (cond (u2.1.1==1)
  (cond (decide ((u1.2.2.1.length:Int)>0))
   (if(0:Int)≤(0:Int)∧(0:Int)<(u1.2.2.1.length:Int)then(
   if(0:Int)≤(0:Int)∧(0:Int)<(u1.2.2.1.length:Int)then(
   some (((u1.1.1.1,(),()),()),((u2.2.1.1,u2.2.1.2.1,u2.2.1.2.2.1,()),(u1.2.2.1.set 0 ((u1.2.2.1.getD 0 ([],[],false,())).1,(u1.2.2.1.getD 0 ([],[],false,())).2.1,!((u1.2.2.1.getD 0 ([],[],false,())).2.2.1),())),())))else none)else none)
  (some (((u1.1.1.1,(),()),()),((u2.2.1.1,u2.2.1.2.1,u2.2.1.2.2.1,()),u1.2.2.1,()))))
 (cond (u2.1.1==2)
  ((AJ 2 u2.2.1.1 u2.2.1.2.1 u2.2.1.2.2.1).bind fun u7=>
  if(0:Int)≤(AU (40+u7.1.1))∧(AU (40+u7.1.1))≤(AU (40+u7.1.1))∧(AU (40+u7.1.1))≤(DF:Int)then(
  if u1.2.2.1.length+1≤DF then(
  some (((u1.1.1.1,(),()),()),((u7.2.1.1,u7.2.1.2.1,u7.2.1.2.2.1,()),(u1.2.2.1++[(((List.replicate ((AU (40+u7.1.1)).toNat) 0).map fun n:Int=>UInt8.ofNat n.toNat),[],false,())]),())))else none)else none)
 (cond (u2.1.1==3)
  (rh u2.2.1.1 u2.2.1.2.1 u2.2.1.2.2.1 0 [] u1.1.1.1 u1.2.2.1)
 (some (((u1.1.1.1,(),()),()),((u2.2.1.1,u2.2.1.2.1,u2.2.1.2.2.1,()),u1.2.2.1,()))))))
def OJ(p1:ABA)(AM:AAF)(AE Ac:Int):Option NW:=OB (G_ Ab) p1 AM AE Ac
abbrev Gw:Type:=ABc×ABd
abbrev VZ:Type:=Int→List Int→Int→List Int→Option Gw
def Xs(R3:VZ)(t6:Int)(AM:AAF)(AE:Int)(b1:AAF):Option Gw:=
 cond ((decide (t6<(AM.length:Int))))
  ((Em (AM,AE,()) b1).bind fun u2=>
  cond (!u2.1.1)
   ((IZ b1 t6).bind fun u3=>
   R3 (AU (t6+1)) AM AE u3.2.1)
  (some (((),()),(b1,()))))
 (some (((),()),(b1,())))
def M_:Nat→VZ
 |0=>fun _ _ _ _=>none
 |n+1=>Xs (M_ n)
def Xt(R3:VZ)(p0:ABA)(p1:ABT):Option Gw:=
 if 0+p1.2.2.1.length≤DF then(
 R3 0 p0.1 p0.2.1 p1.2.2.1)else none
def Mn(p0:ABA)(p1:ABT):Option Gw:=Xt (M_ Ab) p0 p1
abbrev HZ:Type:=AED×ALT
abbrev LS:Type:=Int→Int→List Int→Int→Int→List Int→Int→Int→Int→Bool→List Int→AAZ→List AAF→Int→Int→Bool→List Int→AAZ→List AAF→Option HZ
abbrev Ku:Type:=Int→List Int→Int→Int→List Int→Int→Int→Int→Bool→List Int→AAZ→List AAF→Int→Int→Bool→List Int→AAZ→List AAF→Option HZ
def Md(R4:LS)(gu:Ku)(t6 t7:Int)(AM:AAF)(AE Ac:Int)(BI:AAF)(Az Iy K_:Int)(Pk:Bool)(b3:AAF)(b4:AAZ)(b5:List AAF)(LM KA:Int)(LL:Bool)(b7:AAF)(b8:AAZ)(b9:List AAF):Option HZ:=
 cond (decide (t7<t6))
  ((AJ (BI.length:Int) AM AE Ac).bind fun u4=>
  (GD u4.2.1.1 u4.2.1.2.1 u4.2.1.2.2.1).bind fun u5=>
  (I5 (u5.2.2.1,u5.2.2.2.1,u5.1.1.2.2.1,()) KA).bind fun u6=>
  (JA (BI,Az,()) (LM,KA,b7,b8,LL,b9,()) u4.1.1 u6.2.1).bind fun u7=>
  cond (u7.1.1.2.1)
   (R4 t6 (AU (t7+1)) u5.2.1.1 u5.2.1.2.1 u5.2.1.2.2.1 BI Az Iy K_ Pk b3 b4 b5 u7.1.1.1.1 u7.1.1.1.2.1 u7.1.1.1.2.2.2.2.1 u7.2.1 u7.2.2.1 u7.2.2.2.1)
  (R4 t6 (AU (t7+1)) u5.2.1.1 u5.2.1.2.1 u5.2.1.2.2.1 BI Az Iy K_ Pk b3 b4 b5 LM KA LL b7 b8 b9))
 ((BF 3 AM AE Ac).bind fun Vu=>
 cond (Vu.1.1)
  (some (((LM,KA,(),(),LL,(),()),()),((Vu.2.1.1,Vu.2.1.2.1,Vu.2.1.2.2.1,()),b7,b8,b9,())))
 ((Mn (BI,Az,()) (LM,KA,b7,b8,LL,b9,())).bind fun eY=>
 (I1 (BI,Az,()) (LM,KA,b7,b8,LL,b9,()) eY.2.1).bind fun MU=>
 cond (MU.1.1.2.1)
  (gu 0 Vu.2.1.1 Vu.2.1.2.1 Vu.2.1.2.2.1 BI Az Iy K_ Pk b3 b4 b5 MU.1.1.1.1 MU.1.1.1.2.1 MU.1.1.1.2.2.2.2.1 MU.2.1 MU.2.2.1 MU.2.2.2.1)
 (gu 0 Vu.2.1.1 Vu.2.1.2.1 Vu.2.1.2.2.1 BI Az Iy K_ Pk b3 b4 b5 LM KA LL b7 b8 b9)))
def Lf(R4:LS)(gu:Ku)(t12:Int)(AM:AAF)(AE Ac:Int)(BI:AAF)(Az Iy K_:Int)(Pk:Bool)(b3:AAF)(b4:AAZ)(b5:List AAF)(LM KA:Int)(LL:Bool)(b7:AAF)(b8:AAZ)(b9:List AAF):Option HZ:=
 (AJ 9 AM AE Ac).bind fun Ip=>
 cond ((decide (t12<Ip.1.1)))
  ((FQ (b9.length:Int) 1).bind fun fK=>
  (AJ fK.1.1 Ip.2.1.1 Ip.2.1.2.1 Ip.2.1.2.2.1).bind fun ec=>
  (AJ (BI.length:Int) ec.2.1.1 ec.2.1.2.1 ec.2.1.2.2.1).bind fun O4=>
  (EX (BI,Az,()) (LM,KA,b7,b8,LL,b9,()) (AU (1+ec.1.1)) O4.1.1).bind fun YO=>
  cond (YO.1.1.2.1)
   (gu (AU (t12+1)) O4.2.1.1 O4.2.1.2.1 O4.2.1.2.2.1 BI Az Iy K_ Pk b3 b4 b5 YO.1.1.1.1 YO.1.1.1.2.1 YO.1.1.1.2.2.2.2.1 YO.2.1 YO.2.2.1 YO.2.2.2.1)
  (gu (AU (t12+1)) O4.2.1.1 O4.2.1.2.1 O4.2.1.2.2.1 BI Az Iy K_ Pk b3 b4 b5 LM KA LL b7 b8 b9))
 (some (((LM,KA,(),(),LL,(),()),()),((Ip.2.1.1,Ip.2.1.2.1,Ip.2.1.2.2.1,()),b7,b8,b9,())))
mutual
def B9:Nat→LS
 |0=>fun _ _ _ _ _ _ _ _ _ _ _ _ _ _ _ _ _ _ _=>none
 |n+1=>Md (B9 n) (BO n)
def BO:Nat→Ku
 |0=>fun _ _ _ _ _ _ _ _ _ _ _ _ _ _ _ _ _ _=>none
 |n+1=>Lf (B9 n) (BO n)
end
def Mb(R4:LS)(gu:Ku)(p1:ABA)(AM:AAF)(AE Ac:Int):Option HZ:=
 (AJ 2 AM AE Ac).bind fun u1=>
 (Mk (AU (1+u1.1.1)) 4).bind fun u2=>
 (AJ 5 u1.2.1.1 u1.2.1.2.1 u1.2.1.2.2.1).bind fun u3=>
 R4 u3.1.1 0 u3.2.1.1 u3.2.1.2.1 u3.2.1.2.2.1 p1.1 p1.2.1 0 0 false [] [] [] u2.1.1.1 u2.1.1.2.1 u2.1.1.2.2.2.2.1 u2.2.1 u2.2.2.1 u2.2.2.2.1
def ME(p1:ABA)(AM:AAF)(AE Ac:Int):Option HZ:=Mb (B9 Ab) (BO Ab) p1 AM AE Ac
abbrev ZS:Type:=AED×ALT
def Uq(p1:ABA)(AM:AAF)(AE Ac:Int):Option ZS:=
 (ME (p1.1,p1.2.1,()) AM AE Ac).bind fun u1=>
 (AJ 25 u1.2.1.1 u1.2.1.2.1 u1.2.1.2.2.1).bind fun u2=>
 cond (u2.1.1==0)
  ((CB [u1.1.1.2.1,30,31] u2.2.1.1 u2.2.1.2.1 u2.2.1.2.2.1).bind fun u3=>
  some (((u3.1.1,u1.1.1.2.1,(),(),u1.1.1.2.2.2.2.1,(),()),()),((u3.2.1.1,u3.2.1.2.1,u3.2.1.2.2.1,()),u1.2.2.1,u1.2.2.2.1,u1.2.2.2.2.1,())))
 (cond (u2.1.1==1)
  (some (((u1.1.1.1,u1.1.1.2.1,(),(),!u1.1.1.2.2.2.2.1,(),()),()),((u2.2.1.1,u2.2.1.2.1,u2.2.1.2.2.1,()),u1.2.2.1,u1.2.2.2.1,u1.2.2.2.2.1,())))
 (cond (u2.1.1==2)
  ((FH (p1.1,p1.2.1,()) u2.2.1.1 u2.2.1.2.1 u2.2.1.2.2.1).bind fun u4=>
  if u1.2.2.2.2.1.length+1≤DF then(
  some (((u1.1.1.1,u1.1.1.2.1,(),(),u1.1.1.2.2.2.2.1,(),()),()),((u4.2.1.1,u4.2.1.2.1,u4.2.1.2.2.1,()),u1.2.2.1,u1.2.2.2.1,(u1.2.2.2.2.1++[u4.2.2.1]),())))else none)
 (cond (u2.1.1==3)
  ((RJ u2.2.1.1 u2.2.1.2.1 u2.2.1.2.2.1).bind fun u9=>
  if u1.2.2.2.1.length+1≤DF then(
  some (((u1.1.1.1,u1.1.1.2.1,(),(),u1.1.1.2.2.2.2.1,(),()),()),((u9.2.1.1,u9.2.1.2.1,u9.2.1.2.2.1,()),u1.2.2.1,(u1.2.2.2.1++[(u9.1.1.1,u9.1.1.2.1,u9.1.1.2.2.1,u9.1.1.2.2.2.1,())]),u1.2.2.2.2.1,())))else none)
 (cond (u2.1.1==4)
  ((FH (p1.1,p1.2.1,()) u2.2.1.1 u2.2.1.2.1 u2.2.1.2.2.1).bind fun Kc=>
  some (((u1.1.1.1,u1.1.1.2.1,(),(),u1.1.1.2.2.2.2.1,(),()),()),((Kc.2.1.1,Kc.2.1.2.1,Kc.2.1.2.2.1,()),Kc.2.2.1,u1.2.2.2.1,u1.2.2.2.2.1,())))
 (some (((u1.1.1.1,u1.1.1.2.1,(),(),u1.1.1.2.2.2.2.1,(),()),()),((u2.2.1.1,u2.2.1.2.1,u2.2.1.2.2.1,()),u1.2.2.1,u1.2.2.2.1,u1.2.2.2.2.1,())))))))
abbrev GM:Type:=AEj×(ABj×ACk×Unit)
abbrev Nn:Type:=Int→List Int→Int→Int→Int→Int→ACk→Int→Int→ACk→Option GM
def P_(R3:Nn)(t4:Int)(AM:AAF)(AE Ac BI Az:Int)(b2:ACk)(gF dO:Int)(b4:ACk):Option GM:=
 (AJ 4 AM AE Ac).bind fun u3=>
 cond (decide (t4<u3.1.1))
  ((AJ 5 u3.2.1.1 u3.2.1.2.1 u3.2.1.2.2.1).bind fun u4=>
  (FG u4.2.1.1 u4.2.1.2.1 u4.2.1.2.2.1).bind fun u5=>
  if b4.length+1≤DF then(
  R3 (AU (t4+1)) u5.2.1.1 u5.2.1.2.1 u5.2.1.2.2.1 BI Az b2 gF dO (b4++[(AU (1+u4.1.1),u5.1.1,[],())]))else none)
 ((AJ 25 u3.2.1.1 u3.2.1.2.1 u3.2.1.2.2.1).bind fun Mi=>
 cond (Mi.1.1==0)
  ((CB [0,31,32] Mi.2.1.1 Mi.2.1.2.1 Mi.2.1.2.2.1).bind fun Kc=>
  some (((Kc.1.1,dO,(),()),()),((Kc.2.1.1,Kc.2.1.2.1,Kc.2.1.2.2.1,()),b4,())))
 (cond (Mi.1.1==1)
  ((CB [0,60,61,62] Mi.2.1.1 Mi.2.1.2.1 Mi.2.1.2.2.1).bind fun tp=>
  some (((gF,tp.1.1,(),()),()),((tp.2.1.1,tp.2.1.2.1,tp.2.1.2.2.1,()),b4,())))
 (cond (Mi.1.1==2)
  ((AJ 2 Mi.2.1.1 Mi.2.1.2.1 Mi.2.1.2.2.1).bind fun u16=>
  if(0:Int)≤(AU (120+u16.1.1))∧(AU (120+u16.1.1))≤(AU (120+u16.1.1))∧(AU (120+u16.1.1))≤(DF:Int)then(
  some (((gF,dO,(),()),()),((u16.2.1.1,u16.2.1.2.1,u16.2.1.2.2.1,()),(List.replicate ((AU (120+u16.1.1)).toNat) (0,0,[],())),())))else none)
 (some (((gF,dO,(),()),()),((Mi.2.1.1,Mi.2.1.2.1,Mi.2.1.2.2.1,()),b4,()))))))
def HJ:Nat→Nn
 |0=>fun _ _ _ _ _ _ _ _ _ _=>none
 |n+1=>P_ (HJ n)
def QD(R3:Nn)(AM:AAF)(AE Ac:Int):Option GM:=
 (AJ 3 AM AE Ac).bind fun u1=>
 (AJ 5 u1.2.1.1 u1.2.1.2.1 u1.2.1.2.2.1).bind fun u2=>
 R3 0 u2.2.1.1 u2.2.1.2.1 u2.2.1.2.2.1 0 0 [] (AU (1+u1.1.1)) (AU (1+u2.1.1)) []
def Jq(AM:AAF)(AE Ac:Int):Option GM:=QD (HJ Ab) AM AE Ac
abbrev ei:Type:=AEl×(ABj×List Int×AAT×List Int×AAP×AAj×AAo×AAs×AAa×Unit)
def IP(p1 AM:AAF)(AE Ac:Int):Option ei:=
 (Uz p1 40 90).bind fun u1=>
 (Kx u1.1.1 AM AE Ac).bind fun u2=>
 let x4:AAF:=u2.2.2.2.2.2.2.2.2.2.2.2.1
 let x5:AAT:=u2.2.2.2.2.2.2.2.2.2.2.2.2.1
 let x6:AAF:=u2.2.2.2.2.2.2.2.2.2.2.2.2.2.1
 let x7:AAP:=u2.2.2.2.2.2.2.2.2.2.2.2.2.2.2.1
 let x8:AAj:=u2.2.2.2.2.2.2.2.2.2.2.2.2.2.2.2.1
 let x9:AAo:=u2.2.2.2.2.2.2.2.2.2.2.2.2.2.2.2.2.1
 let Ym:AAs:=u2.2.2.2.2.2.2.2.2.2.2.2.2.2.2.2.2.2.1
 let bl:AAa:=u2.2.2.2.2.2.2.2.2.2.2.2.2.2.2.2.2.2.2.1
 (AJ 40 u2.2.1.1 u2.2.1.2.1 u2.2.1.2.2.1).bind fun D7=>
 cond (D7.1.1==0)
  ((FH (x4,u2.1.1.2.2.1.2.1,()) D7.2.1.1 D7.2.1.2.1 D7.2.1.2.2.1).bind fun Mi=>
  some ((((),u2.1.1.2.2.1.2.1,(),(),(),u2.1.1.2.2.1.2.2.2.2.2.1,(),(),(),(),u2.1.1.2.2.1.2.2.2.2.2.2.2.2.2.2.1,()),()),((Mi.2.1.1,Mi.2.1.2.1,Mi.2.1.2.2.1,()),x4,x5,Mi.2.2.1,x7,x8,x9,Ym,bl,())))
 (cond (D7.1.1==1)
  ((U0 D7.2.1.1 D7.2.1.2.1 D7.2.1.2.2.1).bind fun Kc=>
  if(0:Int)≤(0:Int)∧(0:Int)<(x5.length:Int)then(
  some ((((),u2.1.1.2.2.1.2.1,(),(),(),u2.1.1.2.2.1.2.2.2.2.2.1,(),(),(),(),u2.1.1.2.2.1.2.2.2.2.2.2.2.2.2.2.1,()),()),((Kc.2.1.1,Kc.2.1.2.1,Kc.2.1.2.2.1,()),x4,(x5.set 0 (Kc.2.2.1,Kc.2.2.2.1,Kc.1.1.2.2.1,())),x6,x7,x8,x9,Ym,bl,())))else none)
 (cond (D7.1.1==2)
  ((VB (x4,u2.1.1.2.2.1.2.1,()) D7.2.1.1 D7.2.1.2.1 D7.2.1.2.2.1).bind fun u16=>
  some ((((),u2.1.1.2.2.1.2.1,(),(),(),u16.1.1.2.1,(),(),(),(),u2.1.1.2.2.1.2.2.2.2.2.2.2.2.2.2.1,()),()),((u16.2.1.1,u16.2.1.2.1,u16.2.1.2.2.1,()),x4,x5,x6,u16.2.2.1,x8,x9,Ym,bl,())))
 (cond (D7.1.1==3)
  ((OJ (x4,u2.1.1.2.2.1.2.1,()) D7.2.1.1 D7.2.1.2.1 D7.2.1.2.2.1).bind fun X4=>
  if x8.length+1≤DF then(
  some ((((),u2.1.1.2.2.1.2.1,(),(),(),u2.1.1.2.2.1.2.2.2.2.2.1,(),(),(),(),u2.1.1.2.2.1.2.2.2.2.2.2.2.2.2.2.1,()),()),((X4.2.1.1,X4.2.1.2.1,X4.2.1.2.2.1,()),x4,x5,x6,x7,(x8++[(X4.1.1.1,X4.2.2.1,())]),x9,Ym,bl,())))else none)
 (cond (D7.1.1==4)
  ((Uq (x4,u2.1.1.2.2.1.2.1,()) D7.2.1.1 D7.2.1.2.1 D7.2.1.2.2.1).bind fun Ip=>
  if x9.length+1≤DF then(
  some ((((),u2.1.1.2.2.1.2.1,(),(),(),u2.1.1.2.2.1.2.2.2.2.2.1,(),(),(),(),u2.1.1.2.2.1.2.2.2.2.2.2.2.2.2.2.1,()),()),((Ip.2.1.1,Ip.2.1.2.1,Ip.2.1.2.2.1,()),x4,x5,x6,x7,x8,(x9++[(Ip.1.1.1,Ip.1.1.2.1,Ip.2.2.1,Ip.2.2.2.1,Ip.1.1.2.2.2.2.1,Ip.2.2.2.2.1,())]),Ym,bl,())))else none)
 (cond (D7.1.1==5)
  ((Jq D7.2.1.1 D7.2.1.2.1 D7.2.1.2.2.1).bind fun aT=>
  if(0:Int)≤(0:Int)∧(0:Int)<(Ym.length:Int)then(
  some ((((),u2.1.1.2.2.1.2.1,(),(),(),u2.1.1.2.2.1.2.2.2.2.2.1,(),(),(),(),u2.1.1.2.2.1.2.2.2.2.2.2.2.2.2.2.1,()),()),((aT.2.1.1,aT.2.1.2.1,aT.2.1.2.2.1,()),x4,x5,x6,x7,x8,x9,(Ym.set 0 (aT.1.1.1,aT.1.1.2.1,aT.2.2.1,())),bl,())))else none)
 (cond (D7.1.1==6)
  ((FG D7.2.1.1 D7.2.1.2.1 D7.2.1.2.2.1).bind fun Zq=>
  if bl.length+1≤DF then(
  some ((((),u2.1.1.2.2.1.2.1,(),(),(),u2.1.1.2.2.1.2.2.2.2.2.1,(),(),(),(),u2.1.1.2.2.1.2.2.2.2.2.2.2.2.2.2.1,()),()),((Zq.2.1.1,Zq.2.1.2.1,Zq.2.1.2.2.1,()),x4,x5,x6,x7,x8,x9,Ym,(bl++[(Zq.1.1,[],false,())]),())))else none)
 (cond (D7.1.1==7)
  (some ((((),u2.1.1.2.2.1.2.1,(),(),(),u2.1.1.2.2.1.2.2.2.2.2.1,(),(),(),(),!u2.1.1.2.2.1.2.2.2.2.2.2.2.2.2.2.1,()),()),((D7.2.1.1,D7.2.1.2.1,D7.2.1.2.2.1,()),x4,x5,x6,x7,x8,x9,Ym,bl,())))
 (cond (D7.1.1==8)
  ((Q9 D7.2.1.1 D7.2.1.2.1 D7.2.1.2.2.1).bind fun ld=>
  some ((((),ld.1.1.2.1,(),(),(),u2.1.1.2.2.1.2.2.2.2.2.1,(),(),(),(),u2.1.1.2.2.1.2.2.2.2.2.2.2.2.2.2.1,()),()),((ld.2.1.1,ld.2.1.2.1,ld.2.1.2.2.1,()),ld.2.2.1,x5,x6,x7,x8,x9,Ym,bl,())))
 (some ((((),u2.1.1.2.2.1.2.1,(),(),(),u2.1.1.2.2.1.2.2.2.2.2.1,(),(),(),(),u2.1.1.2.2.1.2.2.2.2.2.2.2.2.2.2.1,()),()),((D7.2.1.1,D7.2.1.2.1,D7.2.1.2.2.1,()),x4,x5,x6,x7,x8,x9,Ym,bl,())))))))))))
abbrev OZ:Type:=AEl×ACf
abbrev br:Type:=ACq×ADy
def EI(p0:ABA)(p1:ABZ):Option br:=
 (LB (p0.1,p0.2.1,()) (p1.1,p1.2.1,())).bind fun u1=>
 cond (!u1.1.1)
  (some ((((),0,()),()),([],())))
 ((EW (p1.1,p1.2.1,())).bind fun u2=>
 some ((((),u2.1.1.2.1,()),()),(u2.2.1,())))
abbrev dz:Type:=(AJV×Unit)×ADy
def Mj(p0:ABA)(p1:ABZ)(p2:AAF):Option dz:=
 (LB (p0.1,p0.2.1,()) (p1.1,p1.2.1,())).bind fun u1=>
 cond (!u1.1.1)
  ((EI (p0.1,p0.2.1,()) (p1.1,p1.2.1,())).bind fun u2=>
  some (((((),u2.1.1.2.1,()),0,false,()),()),(u2.2.1,())))
 ((Gn (p0.1,p0.2.1,()) p2).bind fun u3=>
 cond (!u3.1.1)
  ((EI (p0.1,p0.2.1,()) (p1.1,p1.2.1,())).bind fun u4=>
  some (((((),u4.1.1.2.1,()),0,false,()),()),(u4.2.1,())))
 (cond (((p1.1.length:Int)==30))
  ((EI (p0.1,p0.2.1,()) (p1.1,p1.2.1,())).bind fun u6=>
  some (((((),u6.1.1.2.1,()),0,false,()),()),(u6.2.1,())))
 ((EW (p1.1,p1.2.1,())).bind fun u7=>
 (DI p2).bind fun u8=>
 if u7.2.1.length+1≤DF then(
 let x9:AAP:=u7.2.1++[(u8.2.1,false,0,())]
 some (((((),u7.1.1.2.1,()),(x9.length:Int),true,()),()),(x9,())))else none)))
abbrev Yf:Type:=ABW×(ADi×List Int×AAT×List Int×Unit×Unit×Unit×AAs×AAa×AAP×AAj×AAo×Unit)
def KO(p1 AE Aa:Int)(AN:Bool)(b1:AAF)(b2:AAT)(b3:AAF)(b4:AAP)(b5:AAj)(b6:AAo)(b7:AAs)(b8:AAa):Option Yf:=
 cond (((b5.length:Int)==4))
  (some ((4,()),(((),AE,(),(),(),Aa,(),(),(),(),AN,()),b1,b2,b3,(),(),(),b7,b8,b4,b5,b6,())))
 ((Hs p1).bind fun u2=>
 (Mj (b1,AE,()) (b4,Aa,()) u2.2.1).bind fun u3=>
 cond (!u3.1.1.2.2.1)
  (some ((4,()),(((),AE,(),(),(),Aa,(),(),(),(),AN,()),b1,b2,b3,(),(),(),b7,b8,b4,b5,b6,())))
 (if b5.length+1≤DF then(
 some ((0,()),(((),AE,(),(),(),u3.1.1.1.2.1,(),(),(),(),AN,()),b1,b2,b3,(),(),(),b7,b8,u3.2.1,(b5++[(u3.1.1.2.1,[],())]),[],())))else none))
abbrev Xg:Type:=AEi×AD4
def EG(p0:ABA)(p1:ABb):Option Xg:=
 (GX (p0.1,p0.2.1,()) (p1.1,p1.2.1,())).bind fun u1=>
 cond (!u1.1.1)
  (some (((0,(),()),()),([],())))
 ((Fz (p1.1,p1.2.1,())).bind fun u2=>
 some (((u2.1.1.1,(),()),()),(u2.2.1,())))
abbrev Zr:Type:=(AKB×Unit)×AD4
def Jh(p0:ABA)(p1:ABb)(p2:ABY):Option Zr:=
 (Fz (p1.1,p1.2.1,())).bind fun u1=>
 if u1.2.1.length+1≤DF then(
 let x2:ABX:=u1.2.1++[(p2,[],false,())]
 (GX (p0.1,p0.2.1,()) (p1.1,p1.2.1,())).bind fun u3=>
 cond (!u3.1.1)
  ((EG (p0.1,p0.2.1,()) (p1.1,p1.2.1,())).bind fun u4=>
  some ((((u4.1.1.1,(),()),0,false,()),()),(u4.2.1,())))
 ((GX (p0.1,p0.2.1,()) (u1.1.1.1,x2,())).bind fun u5=>
 cond (!u5.1.1)
  ((EG (p0.1,p0.2.1,()) (p1.1,p1.2.1,())).bind fun u6=>
  some ((((u6.1.1.1,(),()),0,false,()),()),(u6.2.1,())))
 (some ((((u1.1.1.1,(),()),(x2.length:Int),true,()),()),(x2,())))))else none
abbrev cN:Type:=ABW×Unit
def Lc(p0:AG0)(p1:Int):Option cN:=
 some ((AU (p0.1-p1),()),())
abbrev BK:Type:=AEg×Unit
abbrev Bt:Type:=AAa→Int→Int→Int→Int→Option BK
def Cf(R3:Bt)(t0:AAa)(t1 t8 t9 t10:Int):Option BK:=
 cond (decide (t9<t10))
  (let x2:Int:=AU ((IntKind.wrap .u64 (AU (t9+t10))).fdiv (2^1))
  if(0:Int)≤x2∧x2<(t0.length:Int)then(
  (Lc ((t0.getD (x2.toNat) (0,[],false,())).1,(t0.getD (x2.toNat) (0,[],false,())).2.1,(t0.getD (x2.toNat) (0,[],false,())).2.2.1,()) t1).bind fun u3=>
  cond (decide (u3.1.1<0))
   (R3 t0 t1 t8 (AU (x2+1)) t10)
  (R3 t0 t1 t8 t9 x2))else none)
 (cond (decide (t9<t8))
  (if(0:Int)≤t9∧t9<(t0.length:Int)then(
  (Lc ((t0.getD (t9.toNat) (0,[],false,())).1,(t0.getD (t9.toNat) (0,[],false,())).2.1,(t0.getD (t9.toNat) (0,[],false,())).2.2.1,()) t1).bind fun u4=>
  some (((t9,u4.1.1==0,()),()),()))else none)
 (some (((t9,false,()),()),())))
def Av:Nat→Bt
 |0=>fun _ _ _ _ _=>none
 |n+1=>Cf (Av n)
def Ci(R3:Bt)(p0:AAa)(p1:Int):Option BK:=
 R3 p0 p1 (p0.length:Int) 0 (p0.length:Int)
def BL(p0:AAa)(p1:Int):Option BK:=Ci (Av Ab) p0 p1
abbrev Vm:Type:=AEg×Unit
def IU(p0:ABV)(p1:Int):Option Vm:=
 (BL p0.2.2.2.2.2.2.2.2.2.1 p1).bind fun u1=>
 some (((u1.1.1.1,u1.1.1.2.1,()),()),())
abbrev I0:Type:=ABc×(Unit×AAa×Unit)
def EF(p1:Int)(p2 b0:AAa):Option I0:=(uo p1 p2 b0).map fun l=>(((),()),((),l,()))
abbrev Zv:Type:=ABW×(ADi×List Int×AAT×List Int×AAP×AAj×AAo×AAs×Unit×AAa×Unit)
def MF(p1:Int)(p2:ABY)(AE Aa:Int)(AN:Bool)(b1:AAF)(b2:AAT)(b3:AAF)(b4:AAP)(b5:AAj)(b6:AAo)(b7:AAs)(b8:AAa):Option Zv:=
 (A6 p1 0 (AU ((b5.length:Int)-1))).bind fun u2=>
 cond (!u2.1.1)
  (some ((2,()),(((),AE,(),(),(),Aa,(),(),(),(),AN,()),b1,b2,b3,b4,b5,b6,b7,(),b8,())))
 (if(0:Int)≤p1∧p1<(b5.length:Int)then(
 (Jh (b1,AE,()) ((b5.getD (p1.toNat) (0,[],())).1,(b5.getD (p1.toNat) (0,[],())).2.1,()) p2).bind fun u3=>
 (Dn u3.1.1.1.1 u3.1.1.2.1).bind fun u4=>
 (IU (b1,AE,b2,b3,b4,Aa,b5,b6,b7,b8,AN,()) u4.1.1.1).bind fun u5=>
 cond (!u3.1.1.2.2.1)
  (some ((4,()),(((),AE,(),(),(),Aa,(),(),(),(),AN,()),b1,b2,b3,b4,b5,b6,b7,(),b8,())))
 (cond (((b8.length:Int)==120))
  (some ((4,()),(((),AE,(),(),(),Aa,(),(),(),(),AN,()),b1,b2,b3,b4,b5,b6,b7,(),b8,())))
 (cond (u5.1.1.2.1)
  (some ((4,()),(((),AE,(),(),(),Aa,(),(),(),(),AN,()),b1,b2,b3,b4,b5,b6,b7,(),b8,())))
 (if(0:Int)≤p1∧p1<(b5.length:Int)then(
 (EF u5.1.1.1 [(u4.1.1.1,p2,false,())] b8).bind fun u8=>
 some ((0,()),(((),AE,(),(),(),Aa,(),(),(),(),AN,()),b1,b2,b3,b4,(b5.set (p1.toNat) (u3.1.1.1.1,u3.2.1,())),b6,b7,(),u8.2.2.1,())))else none))))else none)
abbrev cR:Type:=ABW×Unit
def EP(p0:ABV)(p1:Int):Option cR:=
 (A6 p1 0 (AU ((p0.2.2.1.length:Int)-1))).bind fun u2=>
 cond (!u2.1.1)
  (some ((2,()),()))
 ((C3 p0 p1).bind fun u3=>
 cond (u3.1.1)
  (some ((3,()),()))
 (some ((0,()),())))
abbrev cE:Type:=ABc×ABd
def I9(p0:ABZ)(p1:Int):Option cE:=
 (A6 p1 1 (p0.1.length:Int)).bind fun u1=>
 cond (!u1.1.1)
  (some (((),()),([],())))
 (if(0:Int)≤AU (p1-1)∧AU (p1-1)<(p0.1.length:Int)then(
 (DI ((p0.1.getD ((AU (p1-1)).toNat) ([],false,0,())).1)).bind fun u2=>
 some (((),()),(u2.2.1,())))else none)
abbrev IG:Type:=ABW×Unit
def Dc(p0:ABV)(p1 p2:Int):Option IG:=
 (EP p0 p1).bind fun u1=>
 cond (u1.1.1==0)
  ((I9 (p0.2.2.2.2.1,p0.2.2.2.2.2.1,()) p2).bind fun u2=>
  (Bq u2.2.1 p1).bind fun u3=>
  cond (!u3.1.1)
   (some ((2,()),()))
  (some ((u1.1.1,()),())))
 (some ((u1.1.1,()),()))
abbrev jL:Type:=AEf×ACz
def Df(p0:ABa):Option jL:=
 (FE (p0.1,p0.2.1,p0.2.2.1,())).bind fun u1=>
 cond (!u1.1.1)
  (some ((((),(),0,()),()),([],[],())))
 ((DA (p0.1,p0.2.1,p0.2.2.1,())).bind fun u2=>
 some ((((),(),u2.1.1.2.2.1,()),()),(u2.2.1,u2.2.2.1,())))
abbrev mn:Type:=ADl×ACz
def UL(p0:ABa)(p1:ABh):Option mn:=
 (FE (p0.1,p0.2.1,p0.2.2.1,())).bind fun u1=>
 cond (!u1.1.1)
  ((Df (p0.1,p0.2.1,p0.2.2.1,())).bind fun u2=>
  some (((((),(),u2.1.1.2.2.1,()),false,()),()),(u2.2.1,u2.2.2.1,())))
 ((Ml (p1.1,p1.2.1,p1.2.2.1,p1.2.2.2.1,())).bind fun u3=>
 cond (!u3.1.1)
  ((Df (p0.1,p0.2.1,p0.2.2.1,())).bind fun u4=>
  some (((((),(),u4.1.1.2.2.1,()),false,()),()),(u4.2.1,u4.2.2.1,())))
 (cond ((p0.2.1.length:Int)==20)
  ((Df (p0.1,p0.2.1,p0.2.2.1,())).bind fun u6=>
  some (((((),(),u6.1.1.2.2.1,()),false,()),()),(u6.2.1,u6.2.2.1,())))
 (cond (p1.2.1==0)
  ((FC p1.1).bind fun u7=>
  cond ((decide (u7.1.1≤p0.2.2.1)))
   ((DA (p0.1,p0.2.1,p0.2.2.1,())).bind fun u9=>
   some (((((),(),u9.1.1.2.2.1,()),false,()),()),(u9.2.1,u9.2.2.1,())))
  (cond (decide (p1.2.1>0))
   (cond ((decide (p1.2.1≤p0.2.2.1)))
    ((DA (p0.1,p0.2.1,p0.2.2.1,())).bind fun MZ=>
    some (((((),(),MZ.1.1.2.2.1,()),false,()),()),(MZ.2.1,MZ.2.2.1,())))
   ((DA (p0.1,p0.2.1,p0.2.2.1,())).bind fun D7=>
   if D7.2.2.1.length+1≤DF then(
   some (((((),(),D7.1.1.2.2.1,()),true,()),()),(D7.2.1,(D7.2.2.1++[(p1.1,p1.2.1,p1.2.2.1,p1.2.2.2.1,())]),())))else none))
  ((DA (p0.1,p0.2.1,p0.2.2.1,())).bind fun Kc=>
  if Kc.2.2.1.length+1≤DF then(
  some (((((),(),Kc.1.1.2.2.1,()),true,()),()),(Kc.2.1,(Kc.2.2.1++[(p1.1,p1.2.1,p1.2.2.1,p1.2.2.2.1,())]),())))else none)))
 (cond (decide (p1.2.1>0))
  (cond ((decide (p1.2.1≤p0.2.2.1)))
   ((DA (p0.1,p0.2.1,p0.2.2.1,())).bind fun X4=>
   some (((((),(),X4.1.1.2.2.1,()),false,()),()),(X4.2.1,X4.2.2.1,())))
  ((DA (p0.1,p0.2.1,p0.2.2.1,())).bind fun Vu=>
  if Vu.2.2.1.length+1≤DF then(
  some (((((),(),Vu.1.1.2.2.1,()),true,()),()),(Vu.2.1,(Vu.2.2.1++[(p1.1,p1.2.1,p1.2.2.1,p1.2.2.2.1,())]),())))else none))
 ((DA (p0.1,p0.2.1,p0.2.2.1,())).bind fun MU=>
 if MU.2.2.1.length+1≤DF then(
 some (((((),(),MU.1.1.2.2.1,()),true,()),()),(MU.2.1,(MU.2.2.1++[(p1.1,p1.2.1,p1.2.2.1,p1.2.2.2.1,())]),())))else none)))))
abbrev cm:Type:=ABW×Unit
def KS(p0:Bool):Option cm:=
 cond (p0)
  (some ((0,()),()))
 (some ((4,()),()))
abbrev aC:Type:=ABW×ADw
def L5(p1:Int)(p2:ABh)(AE Aa:Int)(AN:Bool)(b1:AAF)(b2:AAT)(b3:AAF)(b4:AAP)(b5:AAj)(b6:AAo)(b7:AAs)(b8:AAa):Option aC:=
 if(0:Int)≤p1∧p1<(b2.length:Int)then(
 (UL ((b2.getD (p1.toNat) ([],[],0,())).1,(b2.getD (p1.toNat) ([],[],0,())).2.1,(b2.getD (p1.toNat) ([],[],0,())).2.2.1,()) (p2.1,p2.2.1,p2.2.2.1,p2.2.2.2.1,())).bind fun u1=>
 cond (u1.1.1.2.1)
  (if(0:Int)≤p1∧p1<(b2.length:Int)then(
  (KS u1.1.1.2.1).bind fun u3=>
  some ((u3.1.1,()),(((),AE,(),(),(),Aa,(),(),(),(),AN,()),b1,(b2.set (p1.toNat) (u1.2.1,u1.2.2.1,u1.1.1.1.2.2.1,())),b3,b4,b5,b6,b7,b8,())))else none)
 ((KS u1.1.1.2.1).bind fun u4=>
 some ((u4.1.1,()),(((),AE,(),(),(),Aa,(),(),(),(),AN,()),b1,b2,b3,b4,b5,b6,b7,b8,()))))else none
abbrev fk:Type:=ABW×ADw
def JC(p1:ABe)(AE Aa:Int)(AN:Bool)(b1:AAF)(b2:AAT)(b3:AAF)(b4:AAP)(b5:AAj)(b6:AAo)(b7:AAs)(b8:AAa):Option fk:=
 (A6 p1.2.1 0 (AU ((b5.length:Int)-1))).bind fun u2=>
 cond (!u2.1.1)
  (some ((2,()),(((),AE,(),(),(),Aa,(),(),(),(),AN,()),b1,b2,b3,b4,b5,b6,b7,b8,())))
 (if(0:Int)≤p1.2.1∧p1.2.1<(b5.length:Int)then(
 (A6 p1.2.2.1 1 (((b5.getD (p1.2.1.toNat) (0,[],())).2.1).length:Int)).bind fun u4=>
 cond (!u4.1.1)
  (some ((2,()),(((),AE,(),(),(),Aa,(),(),(),(),AN,()),b1,b2,b3,b4,b5,b6,b7,b8,())))
 ((Dc (b1,AE,b2,b3,b4,Aa,b5,b6,b7,b8,AN,()) p1.2.2.2.1 ((b5.getD (p1.2.1.toNat) (0,[],())).1)).bind fun u6=>
 cond (u6.1.1 !=0)
  (some ((u6.1.1,()),(((),AE,(),(),(),Aa,(),(),(),(),AN,()),b1,b2,b3,b4,b5,b6,b7,b8,())))
 ((Dn ((b5.getD (p1.2.1.toNat) (0,[],())).1) p1.2.2.1).bind fun u8=>
 if(0:Int)≤AU (p1.2.2.1-1)∧AU (p1.2.2.1-1)<(((b5.getD (p1.2.1.toNat) (0,[],())).2.1).length:Int)then(
 (L5 p1.2.2.2.1 (u8.1.1.1,0,false,((((b5.getD (p1.2.1.toNat) (0,[],())).2.1).getD ((AU (p1.2.2.1-1)).toNat) ([],[],false,())).1),()) AE Aa AN b1 b2 b3 b4 b5 b6 b7 b8).bind fun D5=>
 some ((D5.1.1,()),(((),D5.2.1.2.1,(),(),(),D5.2.1.2.2.2.2.2.1,(),(),(),(),D5.2.1.2.2.2.2.2.2.2.2.2.2.1,()),D5.2.2.1,D5.2.2.2.1,D5.2.2.2.2.1,D5.2.2.2.2.2.1,D5.2.2.2.2.2.2.1,D5.2.2.2.2.2.2.2.1,D5.2.2.2.2.2.2.2.2.1,D5.2.2.2.2.2.2.2.2.2.1,())))else none)))else none)
abbrev PF:Type:=ABc×AHR
def Dr(p1:Int)(p2 b0:AAZ):Option PF:=(uo p1 p2 b0).map fun l=>(((),()),((),l,()))
abbrev uW:Type:=ABc×AHR
def Wr(p1:ABh)(b0:AAZ):Option uW:=
 (SJ b0 p1.1).bind fun u1=>
 cond (!u1.1.1.2.1)
  ((Dr u1.1.1.1 [(p1.1,p1.2.1,p1.2.2.1,p1.2.2.2.1,())] b0).bind fun u2=>
  some (((),()),((),u2.2.2.1,())))
 (if(0:Int)≤u1.1.1.1∧u1.1.1.1<(b0.length:Int)then(
 (RF ((b0.getD (u1.1.1.1.toNat) (0,0,false,[],())).1,(b0.getD (u1.1.1.1.toNat) (0,0,false,[],())).2.1,(b0.getD (u1.1.1.1.toNat) (0,0,false,[],())).2.2.1,(b0.getD (u1.1.1.1.toNat) (0,0,false,[],())).2.2.2.1,()) (p1.1,p1.2.1,p1.2.2.1,p1.2.2.2.1,())).bind fun u3=>
 if(0:Int)≤u1.1.1.1∧u1.1.1.1<(b0.length:Int)then(
 some (((),()),((),(b0.set (u1.1.1.1.toNat) (u3.1.1.1,u3.1.1.2.1,u3.1.1.2.2.1,u3.1.1.2.2.2.1,())),())))else none)else none)
abbrev N2:Type:=ADl×ACz
abbrev Qq:Type:=Int→AAZ→Int→Int→AAZ→AAZ→Int→Int→AAZ→AAZ→Int→AAZ→AAZ→Option N2
def TJ(R6:Qq)(t1:Int)(t23:AAZ)(t24 t25:Int)(AM AE:AAZ)(Ac DK:Int)(b2 b3:AAZ)(Mo:Int)(b5 b6:AAZ):Option N2:=
 cond (decide (t25<t24))
  (if(0:Int)≤t25∧t25<(t23.length:Int)then(
  if t25<0 then none else(
  cond (((cO .i64 (t1.fdiv (2^(min t25.toNat 64))) 1)==1))
   ((Wr ((t23.getD (t25.toNat) (0,0,false,[],())).1,(t23.getD (t25.toNat) (0,0,false,[],())).2.1,(t23.getD (t25.toNat) (0,0,false,[],())).2.2.1,(t23.getD (t25.toNat) (0,0,false,[],())).2.2.2.1,()) b5).bind fun u9=>
   R6 t1 t23 t24 (AU (t25+1)) AM AE Ac DK b2 b3 Mo u9.2.2.1 b6)
  (R6 t1 t23 t24 (AU (t25+1)) AM AE Ac DK b2 b3 Mo b5 b6)))else none)
 (cond ((decide ((b5.length:Int)>200)))
  ((DA (AM,AE,Ac,())).bind fun MZ=>
  some (((((),(),MZ.1.1.2.2.1,()),false,()),()),(MZ.2.1,MZ.2.2.1,())))
 (some (((((),(),Mo,()),true,()),()),(b5,b6,()))))
def JX:Nat→Qq
 |0=>fun _ _ _ _ _ _ _ _ _ _ _ _ _=>none
 |n+1=>TJ (JX n)
def TX(R6:Qq)(p0:ABa)(p1:Int):Option N2:=
 (FE (p0.1,p0.2.1,p0.2.2.1,())).bind fun u1=>
 cond (!u1.1.1)
  ((Df (p0.1,p0.2.1,p0.2.2.1,())).bind fun u2=>
  some (((((),(),u2.1.1.2.2.1,()),false,()),()),(u2.2.1,u2.2.2.1,())))
 ((A6 p1 0 1048575).bind fun u3=>
 cond (!u3.1.1)
  ((Df (p0.1,p0.2.1,p0.2.2.1,())).bind fun u4=>
  some (((((),(),u4.1.1.2.2.1,()),false,()),()),(u4.2.1,u4.2.2.1,())))
 ((DA (p0.1,p0.2.1,p0.2.2.1,())).bind fun u5=>
 R6 p1 p0.2.1 (p0.2.1.length:Int) 0 p0.1 p0.2.1 p0.2.2.1 0 [] [] u5.1.1.2.2.1 u5.2.1 []))
def NG(p0:ABa)(p1:Int):Option N2:=TX (JX Ab) p0 p1
abbrev kV:Type:=ADl×ACz
def Oj(p0:ABa):Option kV:=
 (NG (p0.1,p0.2.1,p0.2.2.1,()) 1048575).bind fun u1=>
 some (((((),(),u1.1.1.1.2.2.1,()),u1.1.1.2.1,()),()),(u1.2.1,u1.2.2.1,()))
abbrev mQ:Type:=ABU×Unit
def cmp_isNaN_int(p0:Int):Option mQ:=
 some ((p0 !=p0,()),())
abbrev pn:Type:=ABU×Unit
def cmp_Less_int(p0 p1:Int):Option pn:=
 (cmp_isNaN_int p0).bind fun u1=>
 cond (u1.1.1)
  ((cmp_isNaN_int p1).bind fun u2=>
  cond (!u2.1.1)
   (some ((true,()),()))
  (some ((decide (p0<p1),()),())))
 (some ((decide (p0<p1),()),()))
abbrev gC:Type:=ABU×Unit
def PU(p0:Int):Option gC:=
 some ((p0 !=p0,()),())
abbrev FR:Type:=AEg×Unit
abbrev Hd:Type:=List Int→Int→Int→Int→Int→Option FR
def J7(R3:Hd)(t0:AAF)(t1 t6 t7 t8:Int):Option FR:=
 cond (decide (t7<t8))
  (let x2:Int:=AU ((IntKind.wrap .u64 (AU (t7+t8))).fdiv (2^1))
  if(0:Int)≤x2∧x2<(t0.length:Int)then(
  (cmp_Less_int (t0.getD (x2.toNat) 0) t1).bind fun u4=>
  cond (u4.1.1)
   (R3 t0 t1 t6 (AU (x2+1)) t8)
  (R3 t0 t1 t6 t7 x2))else none)
 (cond (decide (t7<t6))
  (if(0:Int)≤t7∧t7<(t0.length:Int)then(
  cond ((t0.getD (t7.toNat) 0)==t1)
   (some (((t7,true,()),()),()))
  (if(0:Int)≤t7∧t7<(t0.length:Int)then(
  (PU (t0.getD (t7.toNat) 0)).bind fun u7=>
  cond (u7.1.1)
   ((PU t1).bind fun u8=>
   some (((t7,u8.1.1,()),()),()))
  (some (((t7,false,()),()),())))else none))else none)
 (some (((t7,false,()),()),())))
def Dg:Nat→Hd
 |0=>fun _ _ _ _ _=>none
 |n+1=>J7 (Dg n)
def J9(R3:Hd)(p0:AAF)(p1:Int):Option FR:=
 R3 p0 p1 (p0.length:Int) 0 (p0.length:Int)
def GS(p0:AAF)(p1:Int):Option FR:=J9 (Dg Ab) p0 p1
abbrev aB:Type:=ABc×AGb
def J4(p1:Int)(p2 b0:AAF):Option aB:=(uo p1 p2 b0).map fun l=>(((),()),((),l,()))
abbrev mY:Type:=ABc×ABd
def LH(p0:AAF)(p1:Int):Option mY:=
 (DI p0).bind fun u1=>
 (GS u1.2.1 p1).bind fun u2=>
 cond (!u2.1.1.2.1)
  ((J4 u2.1.1.1 [p1] u1.2.1).bind fun u3=>
  some (((),()),(u3.2.2.1,())))
 (some (((),()),(u1.2.1,())))
abbrev kU:Type:=AEp×AD4
def S6(p0:ABA)(p1:ABb)(p2 p3:Int):Option kU:=
 (GX (p0.1,p0.2.1,()) (p1.1,p1.2.1,())).bind fun u1=>
 cond (!u1.1.1)
  ((EG (p0.1,p0.2.1,()) (p1.1,p1.2.1,())).bind fun u2=>
  some ((((u2.1.1.1,(),()),false,()),()),(u2.2.1,())))
 ((A6 p2 1 (p1.2.1.length:Int)).bind fun u4=>
 cond (!u4.1.1)
  ((EG (p0.1,p0.2.1,()) (p1.1,p1.2.1,())).bind fun u5=>
  some ((((u5.1.1.1,(),()),false,()),()),(u5.2.1,())))
 (if(0:Int)≤AU (p2-1)∧AU (p2-1)<(p1.2.1.length:Int)then(
 cond (((p1.2.1.getD ((AU (p2-1)).toNat) ([],[],false,())).2.2.1))
  ((EG (p0.1,p0.2.1,()) (p1.1,p1.2.1,())).bind fun u7=>
  some ((((u7.1.1.1,(),()),false,()),()),(u7.2.1,())))
 ((A6 p3 0 (AU ((p0.1.length:Int)-1))).bind fun u9=>
 cond (!u9.1.1)
  ((EG (p0.1,p0.2.1,()) (p1.1,p1.2.1,())).bind fun D5=>
  some ((((D5.1.1.1,(),()),false,()),()),(D5.2.1,())))
 ((Fz (p1.1,p1.2.1,())).bind fun MZ=>
 if(0:Int)≤AU (p2-1)∧AU (p2-1)<(MZ.2.1.length:Int)then(
 (LH ((MZ.2.1.getD ((AU (p2-1)).toNat) ([],[],false,())).2.1) p3).bind fun D7=>
 let x13:ABX:=(MZ.2.1.set ((AU (p2-1)).toNat) ((MZ.2.1.getD ((AU (p2-1)).toNat) ([],[],false,())).1,D7.2.1,(MZ.2.1.getD ((AU (p2-1)).toNat) ([],[],false,())).2.2.1,()))
 (Gn (p0.1,p0.2.1,()) ((x13.getD ((AU (p2-1)).toNat) ([],[],false,())).2.1)).bind fun Kc=>
 some ((((MZ.1.1.1,(),()),true,()),()),((x13.set ((AU (p2-1)).toNat) ((x13.getD ((AU (p2-1)).toNat) ([],[],false,())).1,(x13.getD ((AU (p2-1)).toNat) ([],[],false,())).2.1,Kc.1.1,())),())))else none)))else none))
abbrev GQ:Type:=ABc×ADw
abbrev K6:Type:=Int→Int→Int→Int→Int→Bool→List Int→AAT→List Int→AAP→AAj→AAo→AAs→AAa→Option GQ
def Iu(R1:K6)(t1 t2 t6 AE Aa:Int)(AN:Bool)(b1:AAF)(b2:AAT)(b3:AAF)(b4:AAP)(b5:AAj)(b6:AAo)(b7:AAs)(b8:AAa):Option GQ:=
 if(0:Int)≤t1∧t1<(b5.length:Int)then(
 cond (decide (t6≤(((b5.getD (t1.toNat) (0,[],())).2.1).length:Int)))
  (if(0:Int)≤t1∧t1<(b5.length:Int)then(
  (Dn ((b5.getD (t1.toNat) (0,[],())).1) t6).bind fun u3=>
  if(0:Int)≤t2∧t2<(b2.length:Int)then(
  (Ga ((b2.getD (t2.toNat) ([],[],0,())).1,(b2.getD (t2.toNat) ([],[],0,())).2.1,(b2.getD (t2.toNat) ([],[],0,())).2.2.1,()) u3.1.1.1).bind fun u4=>
  if(0:Int)≤t1∧t1<(b5.length:Int)then(
  if(0:Int)≤AU (t6-1)∧AU (t6-1)<(((b5.getD (t1.toNat) (0,[],())).2.1).length:Int)then(
  cond (((((b5.getD (t1.toNat) (0,[],())).2.1).getD ((AU (t6-1)).toNat) ([],[],false,())).2.2.1))
   (R1 t1 t2 (AU (t6+1)) AE Aa AN b1 b2 b3 b4 b5 b6 b7 b8)
  (cond (!u4.1.1.2.1)
   (R1 t1 t2 (AU (t6+1)) AE Aa AN b1 b2 b3 b4 b5 b6 b7 b8)
  (cond (u4.1.1.1.2.1 !=0)
   (R1 t1 t2 (AU (t6+1)) AE Aa AN b1 b2 b3 b4 b5 b6 b7 b8)
  (if(0:Int)≤t1∧t1<(b5.length:Int)then(
  (S6 (b1,AE,()) ((b5.getD (t1.toNat) (0,[],())).1,(b5.getD (t1.toNat) (0,[],())).2.1,()) t6 t2).bind fun u6=>
  if(0:Int)≤t1∧t1<(b5.length:Int)then(
  let x7:AAj:=(b5.set (t1.toNat) (u6.1.1.1.1,u6.2.1,()))
  (IU (b1,AE,b2,b3,b4,Aa,x7,b6,b7,b8,AN,()) u3.1.1.1).bind fun u8=>
  cond (u8.1.1.2.1)
   (if(0:Int)≤t1∧t1<(x7.length:Int)then(
   if(0:Int)≤AU (t6-1)∧AU (t6-1)<(((x7.getD (t1.toNat) (0,[],())).2.1).length:Int)then(
   cond (((((x7.getD (t1.toNat) (0,[],())).2.1).getD ((AU (t6-1)).toNat) ([],[],false,())).2.2.1))
    (if(0:Int)≤u8.1.1.1∧u8.1.1.1<(b8.length:Int)then(
    R1 t1 t2 (AU (t6+1)) AE Aa AN b1 b2 b3 b4 x7 b6 b7 (b8.set (u8.1.1.1.toNat) ((b8.getD (u8.1.1.1.toNat) (0,[],false,())).1,(b8.getD (u8.1.1.1.toNat) (0,[],false,())).2.1,true,())))else none)
   (R1 t1 t2 (AU (t6+1)) AE Aa AN b1 b2 b3 b4 x7 b6 b7 b8))else none)else none)
  (R1 t1 t2 (AU (t6+1)) AE Aa AN b1 b2 b3 b4 x7 b6 b7 b8))else none)else none))))else none)else none)else none)else none)
 (some (((()),()),(((),AE,(),(),(),Aa,(),(),(),(),AN,()),b1,b2,b3,b4,b5,b6,b7,b8,()))))else none
def C0:Nat→K6
 |0=>fun _ _ _ _ _ _ _ _ _ _ _ _ _ _=>none
 |n+1=>Iu (C0 n)
def N3(R1:K6)(p1 p2 AE Aa:Int)(AN:Bool)(b1:AAF)(b2:AAT)(b3:AAF)(b4:AAP)(b5:AAj)(b6:AAo)(b7:AAs)(b8:AAa):Option GQ:=
 R1 p1 p2 1 AE Aa AN b1 b2 b3 b4 b5 b6 b7 b8
def Nt(p1 p2 AE Aa:Int)(AN:Bool)(b1:AAF)(b2:AAT)(b3:AAF)(b4:AAP)(b5:AAj)(b6:AAo)(b7:AAs)(b8:AAa):Option GQ:=N3 (C0 Ab) p1 p2 AE Aa AN b1 b2 b3 b4 b5 b6 b7 b8
abbrev JE:Type:=AEm×Unit
abbrev Sj:Type:=Int→AAZ→Int→Int→Int→Int→List Int→AAZ→Bool→List AAF→Int→Int→Bool→List UInt8→Option JE
def VA(R5:Sj)(t6:Int)(t33:AAZ)(t34 t35 AM AE:Int)(Ac:AAF)(DN:AAZ)(ET:Bool)(Aa:List AAF)(BI Az:Int)(DK:Bool)(G4:ABY):Option JE:=
 cond (decide (t35<t34))
  (if(0:Int)≤t35∧t35<(t33.length:Int)then(
  cond (((t33.getD (t35.toNat) (0,0,false,[],())).1)==t6)
   (some ((((t6,AM,((t33.getD (t35.toNat) (0,0,false,[],())).2.2.1),((t33.getD (t35.toNat) (0,0,false,[],())).2.2.2.1),()),true,()),()),()))
  (R5 t6 t33 t34 (AU (t35+1)) AM AE Ac DN ET Aa BI Az DK G4))else none)
 (some ((((t6,AM,true,[],()),true,()),()),()))
def K0:Nat→Sj
 |0=>fun _ _ _ _ _ _ _ _ _ _ _ _ _ _=>none
 |n+1=>VA (K0 n)
def Um(R5:Sj)(p0:ABT)(p1:Int):Option JE:=
 (Dn p0.2.1 p1).bind fun u1=>
 cond (!u1.1.1.2.1)
  (some ((((0,0,false,[],()),false,()),()),()))
 (cond (!p0.2.2.2.2.1)
  (some ((((0,0,false,[],()),false,()),()),()))
 (cond (decide (p1>(p0.2.2.2.2.2.1.length:Int)))
  (some ((((0,0,false,[],()),false,()),()),()))
 (R5 u1.1.1.1 p0.2.2.2.1 (p0.2.2.2.1.length:Int) 0 p0.1 p0.2.1 p0.2.2.1 p0.2.2.2.1 p0.2.2.2.2.1 p0.2.2.2.2.2.1 0 0 false [])))
def Ji(p0:ABT)(p1:Int):Option JE:=Um (K0 Ab) p0 p1
abbrev kC:Type:=AED×AC2
def Ez(p0:ABA)(p1:ABT):Option kC:=
 (Hw (p0.1,p0.2.1,()) (p1.1,p1.2.1,p1.2.2.1,p1.2.2.2.1,p1.2.2.2.2.1,p1.2.2.2.2.2.1,())).bind fun u1=>
 cond (!u1.1.1)
  (some (((0,0,(),(),false,(),()),()),([],[],[],())))
 ((GZ (p1.1,p1.2.1,p1.2.2.1,p1.2.2.2.1,p1.2.2.2.2.1,p1.2.2.2.2.2.1,())).bind fun u2=>
 some (((u2.1.1.1,u2.1.1.2.1,(),(),u2.1.1.2.2.2.2.1,(),()),()),(u2.2.1,u2.2.2.1,u2.2.2.2.1,())))
abbrev Xl:Type:=AEI×AC2
def PL(p0:ABA)(p1:ABT)(p2 p3:Int):Option Xl:=
 (Hw (p0.1,p0.2.1,()) (p1.1,p1.2.1,p1.2.2.1,p1.2.2.2.1,p1.2.2.2.2.1,p1.2.2.2.2.2.1,())).bind fun u1=>
 cond (!u1.1.1)
  ((Ez (p0.1,p0.2.1,()) (p1.1,p1.2.1,p1.2.2.1,p1.2.2.2.1,p1.2.2.2.2.1,p1.2.2.2.2.2.1,())).bind fun u2=>
  some ((((u2.1.1.1,u2.1.1.2.1,(),(),u2.1.1.2.2.2.2.1,(),()),false,()),()),(u2.2.1,u2.2.2.1,u2.2.2.2.1,())))
 ((A6 p2 1 (p1.2.2.2.2.2.1.length:Int)).bind fun u4=>
 cond (!u4.1.1)
  ((Ez (p0.1,p0.2.1,()) (p1.1,p1.2.1,p1.2.2.1,p1.2.2.2.1,p1.2.2.2.2.1,p1.2.2.2.2.2.1,())).bind fun u5=>
  some ((((u5.1.1.1,u5.1.1.2.1,(),(),u5.1.1.2.2.2.2.1,(),()),false,()),()),(u5.2.1,u5.2.2.1,u5.2.2.2.1,())))
 ((A6 p3 0 (AU ((p0.1.length:Int)-1))).bind fun u7=>
 cond (!u7.1.1)
  ((Ez (p0.1,p0.2.1,()) (p1.1,p1.2.1,p1.2.2.1,p1.2.2.2.1,p1.2.2.2.2.1,p1.2.2.2.2.2.1,())).bind fun u8=>
  some ((((u8.1.1.1,u8.1.1.2.1,(),(),u8.1.1.2.2.2.2.1,(),()),false,()),()),(u8.2.1,u8.2.2.1,u8.2.2.2.1,())))
 ((GZ (p1.1,p1.2.1,p1.2.2.1,p1.2.2.2.1,p1.2.2.2.2.1,p1.2.2.2.2.2.1,())).bind fun u9=>
 if(0:Int)≤AU (p2-1)∧AU (p2-1)<(u9.2.2.2.1.length:Int)then(
 (LH (u9.2.2.2.1.getD ((AU (p2-1)).toNat) []) p3).bind fun D5=>
 if(0:Int)≤AU (p2-1)∧AU (p2-1)<(u9.2.2.2.1.length:Int)then(
 some ((((u9.1.1.1,u9.1.1.2.1,(),(),u9.1.1.2.2.2.2.1,(),()),true,()),()),(u9.2.1,u9.2.2.1,(u9.2.2.2.1.set ((AU (p2-1)).toNat) D5.2.1),())))else none)else none)))
abbrev J2:Type:=ABc×ADw
abbrev M7:Type:=Int→Int→Int→Int→Int→Bool→List Int→AAT→List Int→AAP→AAj→AAo→AAs→AAa→Option J2
def HF(R1:M7)(t1 t2 t6 AE Aa:Int)(AN:Bool)(b1:AAF)(b2:AAT)(b3:AAF)(b4:AAP)(b5:AAj)(b6:AAo)(b7:AAs)(b8:AAa):Option J2:=
 if(0:Int)≤t1∧t1<(b6.length:Int)then(
 cond (decide (t6≤(((b6.getD (t1.toNat) (0,0,[],[],false,[],())).2.2.2.2.2.1).length:Int)))
  (if(0:Int)≤t1∧t1<(b6.length:Int)then(
  (Ji ((b6.getD (t1.toNat) (0,0,[],[],false,[],())).1,(b6.getD (t1.toNat) (0,0,[],[],false,[],())).2.1,(b6.getD (t1.toNat) (0,0,[],[],false,[],())).2.2.1,(b6.getD (t1.toNat) (0,0,[],[],false,[],())).2.2.2.1,(b6.getD (t1.toNat) (0,0,[],[],false,[],())).2.2.2.2.1,(b6.getD (t1.toNat) (0,0,[],[],false,[],())).2.2.2.2.2.1,()) t6).bind fun u2=>
  if(0:Int)≤t2∧t2<(b2.length:Int)then(
  (Ga ((b2.getD (t2.toNat) ([],[],0,())).1,(b2.getD (t2.toNat) ([],[],0,())).2.1,(b2.getD (t2.toNat) ([],[],0,())).2.2.1,()) u2.1.1.1.1).bind fun u3=>
  cond (u2.1.1.2.1)
   (cond (u3.1.1.2.1)
    (cond (((u3.1.1.1.1==u2.1.1.1.1)&&((u3.1.1.1.2.1==u2.1.1.1.2.1)&&((u3.1.1.1.2.2.1==u2.1.1.1.2.2.1)&&((u3.1.1.1.2.2.2.1==u2.1.1.1.2.2.2.1)&&true)))))
     (if(0:Int)≤t1∧t1<(b6.length:Int)then(
     (PL (b1,AE,()) ((b6.getD (t1.toNat) (0,0,[],[],false,[],())).1,(b6.getD (t1.toNat) (0,0,[],[],false,[],())).2.1,(b6.getD (t1.toNat) (0,0,[],[],false,[],())).2.2.1,(b6.getD (t1.toNat) (0,0,[],[],false,[],())).2.2.2.1,(b6.getD (t1.toNat) (0,0,[],[],false,[],())).2.2.2.2.1,(b6.getD (t1.toNat) (0,0,[],[],false,[],())).2.2.2.2.2.1,()) t6 t2).bind fun u5=>
     if(0:Int)≤t1∧t1<(b6.length:Int)then(
     R1 t1 t2 (AU (t6+1)) AE Aa AN b1 b2 b3 b4 b5 (b6.set (t1.toNat) (u5.1.1.1.1,u5.1.1.1.2.1,u5.2.1,u5.2.2.1,u5.1.1.1.2.2.2.2.1,u5.2.2.2.1,())) b7 b8)else none)else none)
    (R1 t1 t2 (AU (t6+1)) AE Aa AN b1 b2 b3 b4 b5 b6 b7 b8))
   (R1 t1 t2 (AU (t6+1)) AE Aa AN b1 b2 b3 b4 b5 b6 b7 b8))
  (R1 t1 t2 (AU (t6+1)) AE Aa AN b1 b2 b3 b4 b5 b6 b7 b8))else none)else none)
 (some (((()),()),(((),AE,(),(),(),Aa,(),(),(),(),AN,()),b1,b2,b3,b4,b5,b6,b7,b8,()))))else none
def BS:Nat→M7
 |0=>fun _ _ _ _ _ _ _ _ _ _ _ _ _ _=>none
 |n+1=>HF (BS n)
def KC(R1:M7)(p1 p2 AE Aa:Int)(AN:Bool)(b1:AAF)(b2:AAT)(b3:AAF)(b4:AAP)(b5:AAj)(b6:AAo)(b7:AAs)(b8:AAa):Option J2:=
 R1 p1 p2 1 AE Aa AN b1 b2 b3 b4 b5 b6 b7 b8
def La(p1 p2 AE Aa:Int)(AN:Bool)(b1:AAF)(b2:AAT)(b3:AAF)(b4:AAP)(b5:AAj)(b6:AAo)(b7:AAs)(b8:AAa):Option J2:=KC (BS Ab) p1 p2 AE Aa AN b1 b2 b3 b4 b5 b6 b7 b8
abbrev IQ:Type:=ABW×ADw
abbrev Mc:Type:=Int→Int→Int→Int→Int→Bool→List Int→AAT→List Int→AAP→AAj→AAo→AAs→AAa→Int→Option IQ
abbrev LQ:Type:=Int→Int→Int→Int→Int→Bool→List Int→AAT→List Int→AAP→AAj→AAo→AAs→AAa→Option IQ
def Nh(R9:Mc)(gu:LQ)(t1 t42 t43 AE Aa:Int)(AN:Bool)(b1:AAF)(b2:AAT)(b3:AAF)(b4:AAP)(b5:AAj)(b6:AAo)(b7:AAs)(b8:AAa)(dt:Int):Option IQ:=
 cond (decide (t43<t42))
  (if(0:Int)≤t43∧t43<(b5.length:Int)then(
  cond (decide (((b5.getD (t43.toNat) (0,[],())).1)>dt))
   ((I9 (b4,Aa,()) ((b5.getD (t43.toNat) (0,[],())).1)).bind fun u6=>
   (Bq u6.2.1 t1).bind fun u7=>
   cond (u7.1.1)
    ((Nt t43 t1 AE Aa AN b1 b2 b3 b4 b5 b6 b7 b8).bind fun u8=>
    R9 t1 t42 (AU (t43+1)) u8.2.1.2.1 u8.2.1.2.2.2.2.2.1 u8.2.1.2.2.2.2.2.2.2.2.2.2.1 u8.2.2.1 u8.2.2.2.1 u8.2.2.2.2.1 u8.2.2.2.2.2.1 u8.2.2.2.2.2.2.1 u8.2.2.2.2.2.2.2.1 u8.2.2.2.2.2.2.2.2.1 u8.2.2.2.2.2.2.2.2.2.1 dt)
   (R9 t1 t42 (AU (t43+1)) AE Aa AN b1 b2 b3 b4 b5 b6 b7 b8 dt))
  (R9 t1 t42 (AU (t43+1)) AE Aa AN b1 b2 b3 b4 b5 b6 b7 b8 dt))else none)
 (gu t1 (b6.length:Int) 0 AE Aa AN b1 b2 b3 b4 b5 b6 b7 b8)
def Mg(R9:Mc)(gu:LQ)(t1 t73 t74 AE Aa:Int)(AN:Bool)(b1:AAF)(b2:AAT)(b3:AAF)(b4:AAP)(b5:AAj)(b6:AAo)(b7:AAs)(b8:AAa):Option IQ:=
 cond (decide (t74<t73))
  (if(0:Int)≤t74∧t74<(b6.length:Int)then(
  (I9 (b4,Aa,()) ((b6.getD (t74.toNat) (0,0,[],[],false,[],())).2.1)).bind fun MZ=>
  (Bq MZ.2.1 t1).bind fun D7=>
  cond (D7.1.1)
   ((La t74 t1 AE Aa AN b1 b2 b3 b4 b5 b6 b7 b8).bind fun Mi=>
   gu t1 t73 (AU (t74+1)) Mi.2.1.2.1 Mi.2.1.2.2.2.2.2.1 Mi.2.1.2.2.2.2.2.2.2.2.2.2.1 Mi.2.2.1 Mi.2.2.2.1 Mi.2.2.2.2.1 Mi.2.2.2.2.2.1 Mi.2.2.2.2.2.2.1 Mi.2.2.2.2.2.2.2.1 Mi.2.2.2.2.2.2.2.2.1 Mi.2.2.2.2.2.2.2.2.2.1)
  (gu t1 t73 (AU (t74+1)) AE Aa AN b1 b2 b3 b4 b5 b6 b7 b8))else none)
 (some ((0,()),(((),AE,(),(),(),Aa,(),(),(),(),AN,()),b1,b2,b3,b4,b5,b6,b7,b8,())))
mutual
def Ew:Nat→Mc
 |0=>fun _ _ _ _ _ _ _ _ _ _ _ _ _ _ _=>none
 |n+1=>Nh (Ew n) (FP n)
def FP:Nat→LQ
 |0=>fun _ _ _ _ _ _ _ _ _ _ _ _ _ _=>none
 |n+1=>Mg (Ew n) (FP n)
end
def TT(R9:Mc)(gu:LQ)(p1 AE Aa:Int)(AN:Bool)(b1:AAF)(b2:AAT)(b3:AAF)(b4:AAP)(b5:AAj)(b6:AAo)(b7:AAs)(b8:AAa):Option IQ:=
 (EP (b1,AE,b2,b3,b4,Aa,b5,b6,b7,b8,AN,()) p1).bind fun u1=>
 cond (u1.1.1 !=0)
  (some ((u1.1.1,()),(((),AE,(),(),(),Aa,(),(),(),(),AN,()),b1,b2,b3,b4,b5,b6,b7,b8,())))
 (if(0:Int)≤p1∧p1<(b2.length:Int)then(
 (Oj ((b2.getD (p1.toNat) ([],[],0,())).1,(b2.getD (p1.toNat) ([],[],0,())).2.1,(b2.getD (p1.toNat) ([],[],0,())).2.2.1,())).bind fun u2=>
 cond (!u2.1.1.2.1)
  (some ((4,()),(((),AE,(),(),(),Aa,(),(),(),(),AN,()),b1,b2,b3,b4,b5,b6,b7,b8,())))
 (if(0:Int)≤p1∧p1<(b2.length:Int)then(
 R9 p1 (b5.length:Int) 0 AE Aa AN b1 (b2.set (p1.toNat) (u2.2.1,u2.2.2.1,u2.1.1.1.2.2.1,())) b3 b4 b5 b6 b7 b8 u2.1.1.1.2.2.1)else none))else none)
def QN(p1 AE Aa:Int)(AN:Bool)(b1:AAF)(b2:AAT)(b3:AAF)(b4:AAP)(b5:AAj)(b6:AAo)(b7:AAs)(b8:AAa):Option IQ:=TT (Ew Ab) (FP Ab) p1 AE Aa AN b1 b2 b3 b4 b5 b6 b7 b8
abbrev fm:Type:=ABW×ADw
def PH(p1 p2 AE Aa:Int)(AN:Bool)(b1:AAF)(b2:AAT)(b3:AAF)(b4:AAP)(b5:AAj)(b6:AAo)(b7:AAs)(b8:AAa):Option fm:=
 (EP (b1,AE,b2,b3,b4,Aa,b5,b6,b7,b8,AN,()) p1).bind fun u1=>
 cond (u1.1.1 !=0)
  (some ((u1.1.1,()),(((),AE,(),(),(),Aa,(),(),(),(),AN,()),b1,b2,b3,b4,b5,b6,b7,b8,())))
 (if(0:Int)≤p1∧p1<(b2.length:Int)then(
 (NG ((b2.getD (p1.toNat) ([],[],0,())).1,(b2.getD (p1.toNat) ([],[],0,())).2.1,(b2.getD (p1.toNat) ([],[],0,())).2.2.1,()) p2).bind fun u2=>
 if(0:Int)≤p1∧p1<(b2.length:Int)then(
 (KS u2.1.1.2.1).bind fun u4=>
 some ((u4.1.1,()),(((),AE,(),(),(),Aa,(),(),(),(),AN,()),b1,(b2.set (p1.toNat) (u2.2.1,u2.2.2.1,u2.1.1.1.2.2.1,())),b3,b4,b5,b6,b7,b8,())))else none)else none)
abbrev dD:Type:=ABU×Unit
def M5(p0:Int)(p1:ABW):Option dD:=
 some ((p0==p1.1,()),())
abbrev Ce:Type:=ABW×Unit
abbrev DZ:Type:=List Int→AB6→Int→Int→Option Ce
def E_(R2:DZ)(t0:AAF)(t1:AB6)(t7 t8:Int):Option Ce:=
 cond (decide (t8<t7))
  (if(0:Int)≤t8∧t8<(t0.length:Int)then(
  (M5 (t0.getD (t8.toNat) 0) t1.1).bind fun u2=>
  cond (u2.1.1)
   (some ((t8,()),()))
  (R2 t0 (t1.1,()) t7 (AU (t8+1))))else none)
 (some (((-1),()),()))
def B6:Nat→DZ
 |0=>fun _ _ _ _=>none
 |n+1=>E_ (B6 n)
def FA(R2:DZ)(p0:AAF)(p1:AB6):Option Ce:=
 R2 p0 (p1.1,()) (p0.length:Int) 0
def Dw(p0:AAF)(p1:AB6):Option Ce:=FA (B6 Ab) p0 p1
abbrev Cc:Type:=ABc×AGb
abbrev DS:Type:=AB6→Int→Int→List Int→Option Cc
def Eh(R5:DS)(t1:AB6)(t5 t6:Int)(b0:AAF):Option Cc:=
 cond ((decide (t6<(b0.length:Int))))
  (if(0:Int)≤t6∧t6<(b0.length:Int)then(
  let x3:Int:=(b0.getD (t6.toNat) 0)
  (M5 x3 t1.1).bind fun u4=>
  cond (!u4.1.1)
   (if(0:Int)≤t5∧t5<(b0.length:Int)then(
   R5 (t1.1,()) (AU (t5+1)) (AU (t6+1)) (b0.set (t5.toNat) x3))else none)
  (R5 (t1.1,()) t5 (AU (t6+1)) b0))else none)
 (if(0:Int)≤t5∧t5≤(b0.length:Int)∧(b0.length:Int)≤(b0.length:Int)then(
 let x6:AAF:=(b0.take (t5.toNat)++List.replicate (((b0.length:Int).toNat)-(t5.toNat)) 0++b0.drop ((t5.toNat)+(((b0.length:Int).toNat)-(t5.toNat))))
 if(0:Int)≤(0:Int)∧(0:Int)≤t5∧t5≤(x6.length:Int)then(
 some (((),()),((),((x6.drop 0).take ((t5.toNat)-0)),())))else none)else none)
def Bv:Nat→DS
 |0=>fun _ _ _ _=>none
 |n+1=>Eh (Bv n)
def Es(R5:DS)(p1:AB6)(b0:AAF):Option Cc:=
 (Dw b0 (p1.1,())).bind fun u1=>
 cond (u1.1.1==(-1))
  (some (((),()),((),b0,())))
 (R5 (p1.1,()) u1.1.1 (AU (u1.1.1+1)) b0)
def Cm(p1:AB6)(b0:AAF):Option Cc:=Es (Bv Ab) p1 b0
abbrev Xm:Type:=ABc×ABd
def HS(p0:AAF)(p1:Int):Option Xm:=
 (DI p0).bind fun u1=>
 (Cm ((p1,()),()) u1.2.1).bind fun u2=>
 some (((),()),(u2.2.2.1,()))
abbrev Ld:Type:=AEp×AD4
abbrev O1:Type:=Int→ABX→Int→Int→Int→ABX→Int→ABX→Option Ld
def Rb(R5:O1)(t2:Int)(t19:ABX)(t20 t21 AM:Int)(b1:ABX)(Iy:Int)(b3:ABX):Option Ld:=
 cond (decide (t21<t20))
  (if(0:Int)≤t21∧t21<(t19.length:Int)then(
  cond (!((t19.getD (t21.toNat) ([],[],false,())).2.2.1))
   ((HS ((t19.getD (t21.toNat) ([],[],false,())).2.1) t2).bind fun u5=>
   if(0:Int)≤t21∧t21<(b3.length:Int)then(
   R5 t2 t19 t20 (AU (t21+1)) AM b1 Iy (b3.set (t21.toNat) ((b3.getD (t21.toNat) ([],[],false,())).1,u5.2.1,(b3.getD (t21.toNat) ([],[],false,())).2.2.1,())))else none)
  (R5 t2 t19 t20 (AU (t21+1)) AM b1 Iy b3))else none)
 (some ((((Iy,(),()),true,()),()),(b3,())))
def H7:Nat→O1
 |0=>fun _ _ _ _ _ _ _ _=>none
 |n+1=>Rb (H7 n)
def Q7(R5:O1)(p0:ABA)(p1:ABb)(p2:Int):Option Ld:=
 (GX (p0.1,p0.2.1,()) (p1.1,p1.2.1,())).bind fun u1=>
 cond (!u1.1.1)
  (some ((((0,(),()),false,()),()),([],())))
 ((Fz (p1.1,p1.2.1,())).bind fun u2=>
 R5 p2 p1.2.1 (p1.2.1.length:Int) 0 0 [] u2.1.1.1 u2.2.1)
def N6(p0:ABA)(p1:ABb)(p2:Int):Option Ld:=Q7 (H7 Ab) p0 p1 p2
abbrev Nv:Type:=AEI×AC2
abbrev Qr:Type:=Int→List AAF→Int→Int→Int→Int→Bool→List Int→AAZ→List AAF→Int→Int→Bool→List Int→AAZ→List AAF→Option Nv
def TM(R5:Qr)(t2:Int)(t19:List AAF)(t20 t21 AM AE:Int)(ET:Bool)(b1:AAF)(b2:AAZ)(b3:List AAF)(hD ed:Int)(vE:Bool)(b5:AAF)(b6:AAZ)(b7:List AAF):Option Nv:=
 cond (decide (t21<t20))
  (if(0:Int)≤t21∧t21<(t19.length:Int)then(
  (HS (t19.getD (t21.toNat) []) t2).bind fun u4=>
  if(0:Int)≤t21∧t21<(b7.length:Int)then(
  R5 t2 t19 t20 (AU (t21+1)) AM AE ET b1 b2 b3 hD ed vE b5 b6 (b7.set (t21.toNat) u4.2.1))else none)else none)
 (some ((((hD,ed,(),(),vE,(),()),true,()),()),(b5,b6,b7,())))
def JS:Nat→Qr
 |0=>fun _ _ _ _ _ _ _ _ _ _ _ _ _ _ _ _=>none
 |n+1=>TM (JS n)
def TZ(R5:Qr)(p0:ABA)(p1:ABT)(p2:Int):Option Nv:=
 (Hw (p0.1,p0.2.1,()) (p1.1,p1.2.1,p1.2.2.1,p1.2.2.2.1,p1.2.2.2.2.1,p1.2.2.2.2.2.1,())).bind fun u1=>
 cond (!u1.1.1)
  (some ((((0,0,(),(),false,(),()),false,()),()),([],[],[],())))
 ((GZ (p1.1,p1.2.1,p1.2.2.1,p1.2.2.2.1,p1.2.2.2.2.1,p1.2.2.2.2.2.1,())).bind fun u2=>
 R5 p2 p1.2.2.2.2.2.1 (p1.2.2.2.2.2.1.length:Int) 0 0 0 false [] [] [] u2.1.1.1 u2.1.1.2.1 u2.1.1.2.2.2.2.1 u2.2.1 u2.2.2.1 u2.2.2.2.1)
def QZ(p0:ABA)(p1:ABT)(p2:Int):Option Nv:=TZ (JS Ab) p0 p1 p2
abbrev Gh:Type:=ABW×ALX
abbrev Mx:Type:=Int→Int→Int→Int→Int→Bool→List Int→AAT→List Int→AAP→AAj→AAo→AAs→AAa→List Int→Option Gh
abbrev LU:Type:=Int→Int→Int→Int→Int→Bool→List Int→AAT→List Int→AAP→AAj→AAo→AAs→AAa→List Int→Option Gh
def Tb(R7:Mx)(R12:LU)(t1 t36 t37 AE Aa:Int)(AN:Bool)(b1:AAF)(b2:AAT)(b3:AAF)(b4:AAP)(b5:AAj)(b6:AAo)(b7:AAs)(b8:AAa)(b9:AAF):Option Gh:=
 cond (decide (t37<t36))
  (if(0:Int)≤t37∧t37<(b5.length:Int)then(
  (N6 (b1,AE,()) ((b5.getD (t37.toNat) (0,[],())).1,(b5.getD (t37.toNat) (0,[],())).2.1,()) t1).bind fun u4=>
  if(0:Int)≤t37∧t37<(b5.length:Int)then(
  R7 t1 t36 (AU (t37+1)) AE Aa AN b1 b2 b3 b4 (b5.set (t37.toNat) (u4.1.1.1.1,u4.2.1,())) b6 b7 b8 b9)else none)else none)
 (R12 t1 (b6.length:Int) 0 AE Aa AN b1 b2 b3 b4 b5 b6 b7 b8 b9)
def SD(R7:Mx)(R12:LU)(t1 t63 t64 AE Aa:Int)(AN:Bool)(b1:AAF)(b2:AAT)(b3:AAF)(b4:AAP)(b5:AAj)(b6:AAo)(b7:AAs)(b8:AAa)(b9:AAF):Option Gh:=
 cond (decide (t64<t63))
  (if(0:Int)≤t64∧t64<(b6.length:Int)then(
  (QZ (b1,AE,()) ((b6.getD (t64.toNat) (0,0,[],[],false,[],())).1,(b6.getD (t64.toNat) (0,0,[],[],false,[],())).2.1,(b6.getD (t64.toNat) (0,0,[],[],false,[],())).2.2.1,(b6.getD (t64.toNat) (0,0,[],[],false,[],())).2.2.2.1,(b6.getD (t64.toNat) (0,0,[],[],false,[],())).2.2.2.2.1,(b6.getD (t64.toNat) (0,0,[],[],false,[],())).2.2.2.2.2.1,()) t1).bind fun u6=>
  if(0:Int)≤t64∧t64<(b6.length:Int)then(
  R12 t1 t63 (AU (t64+1)) AE Aa AN b1 b2 b3 b4 b5 (b6.set (t64.toNat) (u6.1.1.1.1,u6.1.1.1.2.1,u6.2.1,u6.2.2.1,u6.1.1.1.2.2.2.2.1,u6.2.2.2.1,())) b7 b8 b9)else none)else none)
 (cond (AN)
  (some ((0,()),(((),AE,(),(),(),Aa,(),(),(),(),true,()),b1,b2,(),b4,b5,b6,b7,b8,b9,())))
 ((Gn (b1,AE,()) b9).bind fun u8=>
 some ((0,()),(((),AE,(),(),(),Aa,(),(),(),(),u8.1.1,()),b1,b2,(),b4,b5,b6,b7,b8,b9,()))))
mutual
def HV:Nat→Mx
 |0=>fun _ _ _ _ _ _ _ _ _ _ _ _ _ _ _=>none
 |n+1=>Tb (HV n) (G2 n)
def G2:Nat→LU
 |0=>fun _ _ _ _ _ _ _ _ _ _ _ _ _ _ _=>none
 |n+1=>SD (HV n) (G2 n)
end
def TQ(R7:Mx)(R12:LU)(p1 AE Aa:Int)(AN:Bool)(b1:AAF)(b2:AAT)(b3:AAF)(b4:AAP)(b5:AAj)(b6:AAo)(b7:AAs)(b8:AAa):Option Gh:=
 (EP (b1,AE,b2,b3,b4,Aa,b5,b6,b7,b8,AN,()) p1).bind fun u1=>
 cond (u1.1.1 !=0)
  (some ((u1.1.1,()),(((),AE,(),(),(),Aa,(),(),(),(),AN,()),b1,b2,(),b4,b5,b6,b7,b8,b3,())))
 (if(0:Int)≤p1∧p1<(b2.length:Int)then(
 (LH b3 p1).bind fun u3=>
 R7 p1 (b5.length:Int) 0 AE Aa AN b1 (b2.set (p1.toNat) ([],[],0,())) b3 b4 b5 b6 b7 b8 u3.2.1)else none)
def Qa(p1 AE Aa:Int)(AN:Bool)(b1:AAF)(b2:AAT)(b3:AAF)(b4:AAP)(b5:AAj)(b6:AAo)(b7:AAs)(b8:AAa):Option Gh:=TQ (HV Ab) (G2 Ab) p1 AE Aa AN b1 b2 b3 b4 b5 b6 b7 b8
abbrev rA:Type:=ABU×Unit
def Yd(p0:ABA)(p1:AAF):Option rA:=
 (Dy (p0.1,p0.2.1,()) p1).bind fun u1=>
 cond (u1.1.1)
  ((Gn (p0.1,p0.2.1,()) p1).bind fun u2=>
  some ((!u2.1.1,()),()))
 (some ((false,()),()))
abbrev PA:Type:=ABc×AEh
abbrev Ud:Type:=AAT→Int→Int→AAZ→Option PA
abbrev UK:Type:=AAT→Int→Int→AAZ→Int→Int→AAZ→Option PA
def aF(R3:Ud)(R8:UK)(t9:AAT)(t10 t11:Int)(b0:AAZ):Option PA:=
 cond (decide (t11<t10))
  (if(0:Int)≤t11∧t11<(t9.length:Int)then(
  (FE ((t9.getD (t11.toNat) ([],[],0,())).1,(t9.getD (t11.toNat) ([],[],0,())).2.1,(t9.getD (t11.toNat) ([],[],0,())).2.2.1,())).bind fun u1=>
  cond (!u1.1.1)
   (some (((),()),([],())))
  (R8 t9 t10 t11 ((t9.getD (t11.toNat) ([],[],0,())).1) (((t9.getD (t11.toNat) ([],[],0,())).1).length:Int) 0 b0))else none)
 (some (((),()),(b0,())))
def Zp(R3:Ud)(R8:UK)(t9:AAT)(t10 t11:Int)(t19:AAZ)(t20 t21:Int)(b0:AAZ):Option PA:=
 cond (decide (t21<t20))
  (if(0:Int)≤t21∧t21<(t19.length:Int)then(
  (Wr ((t19.getD (t21.toNat) (0,0,false,[],())).1,(t19.getD (t21.toNat) (0,0,false,[],())).2.1,(t19.getD (t21.toNat) (0,0,false,[],())).2.2.1,(t19.getD (t21.toNat) (0,0,false,[],())).2.2.2.1,()) b0).bind fun u3=>
  R8 t9 t10 t11 t19 t20 (AU (t21+1)) u3.2.2.1)else none)
 (R3 t9 t10 (AU (t11+1)) b0)
mutual
def NY:Nat→Ud
 |0=>fun _ _ _ _=>none
 |n+1=>aF (NY n) (NQ n)
def NQ:Nat→UK
 |0=>fun _ _ _ _ _ _ _=>none
 |n+1=>Zp (NY n) (NQ n)
end
def jh(R3:Ud)(R8:UK)(p0:AAT):Option PA:=
 R3 p0 (p0.length:Int) 0 []
def gB(p0:AAT):Option PA:=jh (NY Ab) (NQ Ab) p0
abbrev U4:Type:=ADl×AKR
abbrev bM:Type:=List Int→Int→Int→Int→AAT→Int→AAZ→AAZ→AAT→Option U4
def bq(R5:bM)(t2:AAF)(t4 t37 t38:Int)(b0:AAT)(DK:Int)(b2 b3:AAZ)(b4:AAT):Option U4:=
 cond (decide (t38<t37))
  (if(0:Int)≤t38∧t38<(b0.length:Int)then(
  (Bq t2 t38).bind fun u4=>
  cond (u4.1.1)
   (R5 t2 t4 t37 (AU (t38+1)) b0 DK b2 b3 b4)
  ((FE ((b0.getD (t38.toNat) ([],[],0,())).1,(b0.getD (t38.toNat) ([],[],0,())).2.1,(b0.getD (t38.toNat) ([],[],0,())).2.2.1,())).bind fun u5=>
  cond (!u5.1.1)
   (some (((((),(),0,()),false,()),()),(b0,[],[],())))
  (if b4.length+1≤DF then(
  R5 t2 t4 t37 (AU (t38+1)) b0 DK b2 b3 (b4++[((b0.getD (t38.toNat) ([],[],0,())).1,(b0.getD (t38.toNat) ([],[],0,())).2.1,(b0.getD (t38.toNat) ([],[],0,())).2.2.1,())]))else none)))else none)
 ((gB b4).bind fun u7=>
 (FE (u7.2.1,[],t4,())).bind fun u8=>
 cond (!u8.1.1)
  (some (((((),(),0,()),false,()),()),(b0,[],[],())))
 (some (((((),(),t4,()),true,()),()),(b0,u7.2.1,[],()))))
def SB:Nat→bM
 |0=>fun _ _ _ _ _ _ _ _ _=>none
 |n+1=>bq (SB n)
def cH(R5:bM)(p0:ABA)(p2:AAF)(p3 p4:Int)(b0:AAT):Option U4:=
 cond (((b0.length:Int) !=(p0.1.length:Int)))
  (some (((((),(),0,()),false,()),()),(b0,[],[],())))
 ((Yd (p0.1,p0.2.1,()) p2).bind fun u2=>
 cond (!u2.1.1)
  (some (((((),(),0,()),false,()),()),(b0,[],[],())))
 ((Bq p2 p3).bind fun u3=>
 cond (!u3.1.1)
  (some (((((),(),0,()),false,()),()),(b0,[],[],())))
 (R5 p2 p4 (b0.length:Int) 0 b0 0 [] [] [])))
def Zt(p0:ABA)(p2:AAF)(p3 p4:Int)(b0:AAT):Option U4:=cH (SB Ab) p0 p2 p3 p4 b0
abbrev iD:Type:=ABW×ALX
def KF(p1 AE Aa:Int)(AN:Bool)(b1:AAF)(b2:AAT)(b3:AAF)(b4:AAP)(b5:AAj)(b6:AAo)(b7:AAs)(b8:AAa):Option iD:=
 (A6 p1 0 (AU ((b2.length:Int)-1))).bind fun u2=>
 cond (!u2.1.1)
  (some ((2,()),(((),AE,(),(),(),Aa,(),(),(),(),AN,()),b1,b2,(),b4,b5,b6,b7,b8,b3,())))
 ((C3 (b1,AE,b2,b3,b4,Aa,b5,b6,b7,b8,AN,()) p1).bind fun u3=>
 cond (!u3.1.1)
  (some ((2,()),(((),AE,(),(),(),Aa,(),(),(),(),AN,()),b1,b2,(),b4,b5,b6,b7,b8,b3,())))
 (let x4:Int:=AU ((b4.length:Int)-1)
 (Zt (b1,AE,()) b3 p1 (if 0>x4 then 0 else x4) b2).bind fun u6=>
 cond (!u6.1.1.2.1)
  (some ((4,()),(((),AE,(),(),(),Aa,(),(),(),(),AN,()),b1,u6.2.1,(),b4,b5,b6,b7,b8,b3,())))
 (if(0:Int)≤p1∧p1<(u6.2.1.length:Int)then(
 (HS b3 p1).bind fun u8=>
 some ((0,()),(((),AE,(),(),(),Aa,(),(),(),(),AN,()),b1,(u6.2.1.set (p1.toNat) (u6.2.2.1,u6.2.2.2.1,u6.1.1.1.2.2.1,())),(),b4,b5,b6,b7,b8,u8.2.1,())))else none)))
abbrev nh:Type:=AED×AC2
def ie(p0 p1:Int):Option nh:=
 some (((p1,p0,(),(),false,(),()),()),([],[],[],()))
abbrev YT:Type:=ABW×(ADi×List Int×AAT×List Int×AAP×AAj×Unit×AAs×AAa×AAo×Unit)
def QQ(AE Aa:Int)(AN:Bool)(b1:AAF)(b2:AAT)(b3:AAF)(b4:AAP)(b5:AAj)(b6:AAo)(b7:AAs)(b8:AAa):Option YT:=
 (Lm (b4,Aa,())).bind fun u1=>
 cond ((decide ((b4.length:Int)<2)))
  (some ((2,()),(((),AE,(),(),(),Aa,(),(),(),(),AN,()),b1,b2,b3,b4,b5,(),b7,b8,b6,())))
 (cond ((u1.1.1==(b4.length:Int)))
  (some ((2,()),(((),AE,(),(),(),Aa,(),(),(),(),AN,()),b1,b2,b3,b4,b5,(),b7,b8,b6,())))
 (cond ((decide ((b6.length:Int)>0)))
  (some ((4,()),(((),AE,(),(),(),Aa,(),(),(),(),AN,()),b1,b2,b3,b4,b5,(),b7,b8,b6,())))
 ((ie u1.1.1 (b4.length:Int)).bind fun u5=>
 some ((0,()),(((),AE,(),(),(),Aa,(),(),(),(),AN,()),b1,b2,b3,b4,b5,(),b7,b8,[(u5.1.1.1,u5.1.1.2.1,u5.2.1,u5.2.2.1,u5.1.1.2.2.2.2.1,u5.2.2.2.1,())],())))))
abbrev Tx:Type:=ADl×ACz
def OX(p0:ABa)(p1:Int):Option Tx:=
 (Oj (p0.1,p0.2.1,p0.2.2.1,())).bind fun u1=>
 cond (!u1.1.1.2.1)
  ((Df (p0.1,p0.2.1,p0.2.2.1,())).bind fun u2=>
  some (((((),(),u2.1.1.2.2.1,()),false,()),()),(u2.2.1,u2.2.2.1,())))
 ((A6 p1 0 30).bind fun u3=>
 cond (!u3.1.1)
  ((Df (p0.1,p0.2.1,p0.2.2.1,())).bind fun u4=>
  some (((((),(),u4.1.1.2.2.1,()),false,()),()),(u4.2.1,u4.2.2.1,())))
 (some (((((),(),(if p1>u1.1.1.1.2.2.1 then p1 else u1.1.1.1.2.2.1),()),true,()),()),(u1.2.1,u1.2.2.1,()))))
abbrev KG:Type:=ABc×AEh
abbrev To:Type:=Int→AAZ→Int→Int→AAZ→Option KG
def Vr(R5:To)(t1:Int)(t14:AAZ)(t15 t16:Int)(b0:AAZ):Option KG:=
 cond (decide (t16<t15))
  (if(0:Int)≤t16∧t16<(t14.length:Int)then(
  (FC ((t14.getD (t16.toNat) (0,0,false,[],())).1)).bind fun u3=>
  cond (u3.1.1==t1)
   (if b0.length+1≤DF then(
   R5 t1 t14 t15 (AU (t16+1)) (b0++[((t14.getD (t16.toNat) (0,0,false,[],())).1,(t14.getD (t16.toNat) (0,0,false,[],())).2.1,(t14.getD (t16.toNat) (0,0,false,[],())).2.2.1,(t14.getD (t16.toNat) (0,0,false,[],())).2.2.2.1,())]))else none)
  (R5 t1 t14 t15 (AU (t16+1)) b0))else none)
 (some (((),()),(b0,())))
def L3:Nat→To
 |0=>fun _ _ _ _ _=>none
 |n+1=>Vr (L3 n)
def V2(R5:To)(p0:ABa)(p1:Int):Option KG:=
 (FE (p0.1,p0.2.1,p0.2.2.1,())).bind fun u1=>
 cond (!u1.1.1)
  (some (((),()),([],())))
 (R5 p1 p0.1 (p0.1.length:Int) 0 [])
def QA(p0:ABa)(p1:Int):Option KG:=V2 (L3 Ab) p0 p1
abbrev KI:Type:=AEI×AC2
abbrev Tz:Type:=AAZ→Int→Int→List Int→Int→Int→Int→List Int→AAZ→Bool→List AAF→Int→Int→Bool→List Int→AAZ→List AAF→Int→Int→Bool→List Int→AAZ→List AAF→Option KI
def V9(R6:Tz)(t31:AAZ)(t32 t33:Int)(AM:AAF)(AE BI Az:Int)(DK:AAF)(G4:AAZ)(M6:Bool)(D8:List AAF)(Iy K_:Int)(Pk:Bool)(b3:AAF)(b4:AAZ)(b5:List AAF)(LM KA:Int)(LL:Bool)(b7:AAF)(b8:AAZ)(b9:List AAF):Option KI:=
 cond (decide (t33<t32))
  (if(0:Int)≤t33∧t33<(t31.length:Int)then(
  (FC ((t31.getD (t33.toNat) (0,0,false,[],())).1)).bind fun u7=>
  cond (u7.1.1==Az)
   ((Wr ((t31.getD (t33.toNat) (0,0,false,[],())).1,(t31.getD (t33.toNat) (0,0,false,[],())).2.1,(t31.getD (t33.toNat) (0,0,false,[],())).2.2.1,(t31.getD (t33.toNat) (0,0,false,[],())).2.2.2.1,()) b8).bind fun u8=>
   R6 t31 t32 (AU (t33+1)) AM AE BI Az DK G4 M6 D8 Iy K_ Pk b3 b4 b5 LM KA LL b7 u8.2.2.1 b9)
  (R6 t31 t32 (AU (t33+1)) AM AE BI Az DK G4 M6 D8 Iy K_ Pk b3 b4 b5 LM KA LL b7 b8 b9))else none)
 ((Hw (AM,AE,()) (LM,KA,b7,b8,LL,b9,())).bind fun u9=>
 cond (!u9.1.1)
  ((GZ (BI,Az,DK,G4,M6,D8,())).bind fun D5=>
  some ((((D5.1.1.1,D5.1.1.2.1,(),(),D5.1.1.2.2.2.2.1,(),()),false,()),()),(D5.2.1,D5.2.2.1,D5.2.2.2.1,())))
 (some ((((LM,KA,(),(),LL,(),()),true,()),()),(b7,b8,b9,()))))
def L6:Nat→Tz
 |0=>fun _ _ _ _ _ _ _ _ _ _ _ _ _ _ _ _ _ _ _ _ _ _ _=>none
 |n+1=>V9 (L6 n)
def WB(R6:Tz)(p0:ABA)(p1:ABT)(p2:Int)(p3:AAZ):Option KI:=
 (Hw (p0.1,p0.2.1,()) (p1.1,p1.2.1,p1.2.2.1,p1.2.2.2.1,p1.2.2.2.2.1,p1.2.2.2.2.2.1,())).bind fun u1=>
 cond (!u1.1.1)
  ((Ez (p0.1,p0.2.1,()) (p1.1,p1.2.1,p1.2.2.1,p1.2.2.2.1,p1.2.2.2.2.1,p1.2.2.2.2.2.1,())).bind fun u2=>
  some ((((u2.1.1.1,u2.1.1.2.1,(),(),u2.1.1.2.2.2.2.1,(),()),false,()),()),(u2.2.1,u2.2.2.1,u2.2.2.2.1,())))
 (cond (p1.2.2.2.2.1)
  ((Ez (p0.1,p0.2.1,()) (p1.1,p1.2.1,p1.2.2.1,p1.2.2.2.1,p1.2.2.2.2.1,p1.2.2.2.2.2.1,())).bind fun u3=>
  some ((((u3.1.1.1,u3.1.1.2.1,(),(),u3.1.1.2.2.2.2.1,(),()),false,()),()),(u3.2.1,u3.2.2.1,u3.2.2.2.1,())))
 ((GZ (p1.1,p1.2.1,p1.2.2.1,p1.2.2.2.1,p1.2.2.2.2.1,p1.2.2.2.2.2.1,())).bind fun u4=>
 (LH u4.2.1 p2).bind fun u5=>
 R6 p3 (p3.length:Int) 0 p0.1 p0.2.1 p1.1 p1.2.1 p1.2.2.1 p1.2.2.2.1 p1.2.2.2.2.1 p1.2.2.2.2.2.1 0 0 false [] [] [] u4.1.1.1 u4.1.1.2.1 u4.1.1.2.2.2.2.1 u5.2.1 u4.2.2.1 u4.2.2.2.1))
def Px(p0:ABA)(p1:ABT)(p2:Int)(p3:AAZ):Option KI:=WB (L6 Ab) p0 p1 p2 p3
abbrev jD:Type:=ABW×ADw
def KH(p1 AE Aa:Int)(AN:Bool)(b1:AAF)(b2:AAT)(b3:AAF)(b4:AAP)(b5:AAj)(b6:AAo)(b7:AAs)(b8:AAa):Option jD:=
 cond (((b6.length:Int)==0))
  (some ((2,()),(((),AE,(),(),(),Aa,(),(),(),(),AN,()),b1,b2,b3,b4,b5,b6,b7,b8,())))
 (if(0:Int)≤(0:Int)∧(0:Int)<(b6.length:Int)then(
 (Dc (b1,AE,b2,b3,b4,Aa,b5,b6,b7,b8,AN,()) p1 ((b6.getD 0 (0,0,[],[],false,[],())).2.1)).bind fun u3=>
 cond (u3.1.1 !=0)
  (some ((u3.1.1,()),(((),AE,(),(),(),Aa,(),(),(),(),AN,()),b1,b2,b3,b4,b5,b6,b7,b8,())))
 (if(0:Int)≤p1∧p1<(b2.length:Int)then(
 (OX ((b2.getD (p1.toNat) ([],[],0,())).1,(b2.getD (p1.toNat) ([],[],0,())).2.1,(b2.getD (p1.toNat) ([],[],0,())).2.2.1,()) (AU (((b6.getD 0 (0,0,[],[],false,[],())).1)-1))).bind fun u5=>
 (QA (u5.2.1,u5.2.2.1,u5.1.1.1.2.2.1,()) ((b6.getD 0 (0,0,[],[],false,[],())).2.1)).bind fun u7=>
 (Px (b1,AE,()) ((b6.getD 0 (0,0,[],[],false,[],())).1,(b6.getD 0 (0,0,[],[],false,[],())).2.1,(b6.getD 0 (0,0,[],[],false,[],())).2.2.1,(b6.getD 0 (0,0,[],[],false,[],())).2.2.2.1,(b6.getD 0 (0,0,[],[],false,[],())).2.2.2.2.1,(b6.getD 0 (0,0,[],[],false,[],())).2.2.2.2.2.1,()) p1 u7.2.1).bind fun u8=>
 cond (!u5.1.1.2.1)
  (some ((4,()),(((),AE,(),(),(),Aa,(),(),(),(),AN,()),b1,b2,b3,b4,b5,b6,b7,b8,())))
 (cond (!u8.1.1.2.1)
  (some ((4,()),(((),AE,(),(),(),Aa,(),(),(),(),AN,()),b1,b2,b3,b4,b5,b6,b7,b8,())))
 (if(0:Int)≤p1∧p1<(b2.length:Int)then(
 if(0:Int)≤(0:Int)∧(0:Int)<(b6.length:Int)then(
 some ((0,()),(((),AE,(),(),(),Aa,(),(),(),(),AN,()),b1,(b2.set (p1.toNat) (u5.2.1,u5.2.2.1,u5.1.1.1.2.2.1,())),b3,b4,b5,(b6.set 0 (u8.1.1.1.1,u8.1.1.1.2.1,u8.2.1,u8.2.2.1,u8.1.1.1.2.2.2.2.1,u8.2.2.2.1,())),b7,b8,())))else none)else none)))else none))else none)
abbrev bY:Type:=AEI×AC2
def P7(p0:ABA)(p1:ABT)(p2:AAF):Option bY:=
 (Hw (p0.1,p0.2.1,()) (p1.1,p1.2.1,p1.2.2.1,p1.2.2.2.1,p1.2.2.2.2.1,p1.2.2.2.2.2.1,())).bind fun u1=>
 cond (!u1.1.1)
  ((Ez (p0.1,p0.2.1,()) (p1.1,p1.2.1,p1.2.2.1,p1.2.2.2.1,p1.2.2.2.2.1,p1.2.2.2.2.2.1,())).bind fun u2=>
  some ((((u2.1.1.1,u2.1.1.2.1,(),(),u2.1.1.2.2.2.2.1,(),()),false,()),()),(u2.2.1,u2.2.2.1,u2.2.2.2.1,())))
 (cond (p1.2.2.2.2.1)
  ((Ez (p0.1,p0.2.1,()) (p1.1,p1.2.1,p1.2.2.1,p1.2.2.2.1,p1.2.2.2.2.1,p1.2.2.2.2.2.1,())).bind fun u3=>
  some ((((u3.1.1.1,u3.1.1.2.1,(),(),u3.1.1.2.2.2.2.1,(),()),false,()),()),(u3.2.1,u3.2.2.1,u3.2.2.2.1,())))
 ((NM p1.2.2.1 p2).bind fun u4=>
 (HD (p0.1,p0.2.1,()) p2 u4.2.1).bind fun u5=>
 cond (!u5.1.1)
  ((Ez (p0.1,p0.2.1,()) (p1.1,p1.2.1,p1.2.2.1,p1.2.2.2.1,p1.2.2.2.2.1,p1.2.2.2.2.2.1,())).bind fun u6=>
  some ((((u6.1.1.1,u6.1.1.2.1,(),(),u6.1.1.2.2.2.2.1,(),()),false,()),()),(u6.2.1,u6.2.2.1,u6.2.2.2.1,())))
 ((GZ (p1.1,p1.2.1,p1.2.2.1,p1.2.2.2.1,p1.2.2.2.2.1,p1.2.2.2.2.2.1,())).bind fun u7=>
 (Se (p1.1,p1.2.1,p1.2.2.1,p1.2.2.2.1,p1.2.2.2.2.1,p1.2.2.2.2.2.1,())).bind fun u8=>
 if(0:Int)≤u8.1.1∧u8.1.1≤u8.1.1∧u8.1.1≤(DF:Int)then(
 some ((((u7.1.1.1,u7.1.1.2.1,(),(),true,(),()),true,()),()),(u7.2.1,u7.2.2.1,(List.replicate (u8.1.1.toNat) []),())))else none)))
abbrev iI:Type:=ABW×ADw
def KL(AE Aa:Int)(AN:Bool)(b1:AAF)(b2:AAT)(b3:AAF)(b4:AAP)(b5:AAj)(b6:AAo)(b7:AAs)(b8:AAa):Option iI:=
 cond (((b6.length:Int)==0))
  (some ((2,()),(((),AE,(),(),(),Aa,(),(),(),(),AN,()),b1,b2,b3,b4,b5,b6,b7,b8,())))
 (if(0:Int)≤(0:Int)∧(0:Int)<(b6.length:Int)then(
 if(0:Int)≤(0:Int)∧(0:Int)<(b6.length:Int)then(
 (I9 (b4,Aa,()) ((b6.getD 0 (0,0,[],[],false,[],())).2.1)).bind fun u3=>
 (P7 (b1,AE,()) ((b6.getD 0 (0,0,[],[],false,[],())).1,(b6.getD 0 (0,0,[],[],false,[],())).2.1,(b6.getD 0 (0,0,[],[],false,[],())).2.2.1,(b6.getD 0 (0,0,[],[],false,[],())).2.2.2.1,(b6.getD 0 (0,0,[],[],false,[],())).2.2.2.2.1,(b6.getD 0 (0,0,[],[],false,[],())).2.2.2.2.2.1,()) u3.2.1).bind fun u4=>
 if(0:Int)≤(0:Int)∧(0:Int)<(b6.length:Int)then(
 (KS u4.1.1.2.1).bind fun u6=>
 some ((u6.1.1,()),(((),AE,(),(),(),Aa,(),(),(),(),AN,()),b1,b2,b3,b4,b5,(b6.set 0 (u4.1.1.1.1,u4.1.1.1.2.1,u4.2.1,u4.2.2.1,u4.1.1.1.2.2.2.2.1,u4.2.2.2.1,())),b7,b8,())))else none)else none)else none)
abbrev ja:Type:=ABW×ADw
def Sq(p1 p2 AE Aa:Int)(AN:Bool)(b1:AAF)(b2:AAT)(b3:AAF)(b4:AAP)(b5:AAj)(b6:AAo)(b7:AAs)(b8:AAa):Option ja:=
 cond (((b6.length:Int)==0))
  (some ((2,()),(((),AE,(),(),(),Aa,(),(),(),(),AN,()),b1,b2,b3,b4,b5,b6,b7,b8,())))
 (if(0:Int)≤(0:Int)∧(0:Int)<(b6.length:Int)then(
 (Ji ((b6.getD 0 (0,0,[],[],false,[],())).1,(b6.getD 0 (0,0,[],[],false,[],())).2.1,(b6.getD 0 (0,0,[],[],false,[],())).2.2.1,(b6.getD 0 (0,0,[],[],false,[],())).2.2.2.1,(b6.getD 0 (0,0,[],[],false,[],())).2.2.2.2.1,(b6.getD 0 (0,0,[],[],false,[],())).2.2.2.2.2.1,()) p1).bind fun u2=>
 cond (!u2.1.1.2.1)
  (some ((2,()),(((),AE,(),(),(),Aa,(),(),(),(),AN,()),b1,b2,b3,b4,b5,b6,b7,b8,())))
 (if(0:Int)≤(0:Int)∧(0:Int)<(b6.length:Int)then(
 (Dc (b1,AE,b2,b3,b4,Aa,b5,b6,b7,b8,AN,()) p2 ((b6.getD 0 (0,0,[],[],false,[],())).2.1)).bind fun u4=>
 cond (u4.1.1 !=0)
  (some ((u4.1.1,()),(((),AE,(),(),(),Aa,(),(),(),(),AN,()),b1,b2,b3,b4,b5,b6,b7,b8,())))
 ((L5 p2 (u2.1.1.1.1,u2.1.1.1.2.1,u2.1.1.1.2.2.1,u2.1.1.1.2.2.2.1,()) AE Aa AN b1 b2 b3 b4 b5 b6 b7 b8).bind fun u5=>
 some ((u5.1.1,()),(((),u5.2.1.2.1,(),(),(),u5.2.1.2.2.2.2.2.1,(),(),(),(),u5.2.1.2.2.2.2.2.2.2.2.2.2.1,()),u5.2.2.1,u5.2.2.2.1,u5.2.2.2.2.1,u5.2.2.2.2.2.1,u5.2.2.2.2.2.2.1,u5.2.2.2.2.2.2.2.1,u5.2.2.2.2.2.2.2.2.1,u5.2.2.2.2.2.2.2.2.2.1,()))))else none))else none)
abbrev L8:Type:=ABU×Unit
abbrev R0:Type:=List AAF→Int→Int→List Int→Int→Option L8
def Ug(R4:R0)(t17:List AAF)(t18 t19:Int)(AM:AAF)(AE:Int):Option L8:=
 cond (decide (t19<t18))
  (if(0:Int)≤t19∧t19<(t17.length:Int)then(
  (Gn (AM,AE,()) (t17.getD (t19.toNat) [])).bind fun u3=>
  cond (!u3.1.1)
   (some ((false,()),()))
  (R4 t17 t18 (AU (t19+1)) AM AE))else none)
 (some ((true,()),()))
def KY:Nat→R0
 |0=>fun _ _ _ _ _=>none
 |n+1=>Ug (KY n)
def Ui(R4:R0)(p0:ABA)(p1:ABT):Option L8:=
 (Hw (p0.1,p0.2.1,()) (p1.1,p1.2.1,p1.2.2.1,p1.2.2.2.1,p1.2.2.2.2.1,p1.2.2.2.2.2.1,())).bind fun u1=>
 cond (!u1.1.1)
  (some ((false,()),()))
 (cond (!p1.2.2.2.2.1)
  (some ((false,()),()))
 (R4 p1.2.2.2.2.2.1 (p1.2.2.2.2.2.1.length:Int) 0 p0.1 p0.2.1))
def Og(p0:ABA)(p1:ABT):Option L8:=Ui (KY Ab) p0 p1
abbrev bu:Type:=AEq×ADy
def QG(p0:ABA)(p1:ABZ)(p2 p3:Int):Option bu:=
 (Lm (p1.1,p1.2.1,())).bind fun u1=>
 (LB (p0.1,p0.2.1,()) (p1.1,p1.2.1,())).bind fun u2=>
 cond (!u2.1.1)
  ((EI (p0.1,p0.2.1,()) (p1.1,p1.2.1,())).bind fun u3=>
  some (((((),u3.1.1.2.1,()),false,()),()),(u3.2.1,())))
 (cond ((p2 !=(p1.1.length:Int)))
  ((EI (p0.1,p0.2.1,()) (p1.1,p1.2.1,())).bind fun u5=>
  some (((((),u5.1.1.2.1,()),false,()),()),(u5.2.1,())))
 (cond (u1.1.1==p2)
  ((EI (p0.1,p0.2.1,()) (p1.1,p1.2.1,())).bind fun u6=>
  some (((((),u6.1.1.2.1,()),false,()),()),(u6.2.1,())))
 ((A6 p3 0 60).bind fun u7=>
 cond (!u7.1.1)
  ((EI (p0.1,p0.2.1,()) (p1.1,p1.2.1,())).bind fun u8=>
  some (((((),u8.1.1.2.1,()),false,()),()),(u8.2.1,())))
 ((EW (p1.1,p1.2.1,())).bind fun u9=>
 if(0:Int)≤AU (u1.1.1-1)∧AU (u1.1.1-1)<(u9.2.1.length:Int)then(
 let Ym:AAP:=(u9.2.1.set ((AU (u1.1.1-1)).toNat) ((u9.2.1.getD ((AU (u1.1.1-1)).toNat) ([],false,0,())).1,true,(u9.2.1.getD ((AU (u1.1.1-1)).toNat) ([],false,0,())).2.2.1,()))
 if(0:Int)≤AU (u1.1.1-1)∧AU (u1.1.1-1)<(Ym.length:Int)then(
 some (((((),u9.1.1.2.1,()),true,()),()),((Ym.set ((AU (u1.1.1-1)).toNat) ((Ym.getD ((AU (u1.1.1-1)).toNat) ([],false,0,())).1,(Ym.getD ((AU (u1.1.1-1)).toNat) ([],false,0,())).2.1,p3,())),())))else none)else none))))
abbrev XB:Type:=ABW×(ADi×List Int×AAT×List Int×Unit×AAj×Unit×AAs×AAa×AAP×AAo×Unit)
def JJ(AE Aa:Int)(AN:Bool)(b1:AAF)(b2:AAT)(b3:AAF)(b4:AAP)(b5:AAj)(b6:AAo)(b7:AAs)(b8:AAa):Option XB:=
 cond (((b6.length:Int)==0))
  (some ((2,()),(((),AE,(),(),(),Aa,(),(),(),(),AN,()),b1,b2,b3,(),b5,(),b7,b8,b4,b6,())))
 (if(0:Int)≤(0:Int)∧(0:Int)<(b6.length:Int)then(
 (Og (b1,AE,()) ((b6.getD 0 (0,0,[],[],false,[],())).1,(b6.getD 0 (0,0,[],[],false,[],())).2.1,(b6.getD 0 (0,0,[],[],false,[],())).2.2.1,(b6.getD 0 (0,0,[],[],false,[],())).2.2.2.1,(b6.getD 0 (0,0,[],[],false,[],())).2.2.2.2.1,(b6.getD 0 (0,0,[],[],false,[],())).2.2.2.2.2.1,())).bind fun u2=>
 cond (!u2.1.1)
  (some ((5,()),(((),AE,(),(),(),Aa,(),(),(),(),AN,()),b1,b2,b3,(),b5,(),b7,b8,b4,b6,())))
 (if(0:Int)≤(0:Int)∧(0:Int)<(b6.length:Int)then(
 if(0:Int)≤(0:Int)∧(0:Int)<(b6.length:Int)then(
 (QG (b1,AE,()) (b4,Aa,()) ((b6.getD 0 (0,0,[],[],false,[],())).1) (((b6.getD 0 (0,0,[],[],false,[],())).2.2.2.2.2.1).length:Int)).bind fun u5=>
 cond (u5.1.1.2.1)
  ((KS u5.1.1.2.1).bind fun u6=>
  some ((u6.1.1,()),(((),AE,(),(),(),u5.1.1.1.2.1,(),(),(),(),AN,()),b1,b2,b3,(),b5,(),b7,b8,u5.2.1,[],())))
 ((KS u5.1.1.2.1).bind fun u7=>
 some ((u7.1.1,()),(((),AE,(),(),(),Aa,(),(),(),(),AN,()),b1,b2,b3,(),b5,(),b7,b8,b4,b6,()))))else none)else none))else none)
abbrev o6:Type:=AEq×ADy
def WN(p0:ABA)(p1:ABZ)(p2:Int):Option o6:=
 (LB (p0.1,p0.2.1,()) (p1.1,p1.2.1,())).bind fun u1=>
 cond (!u1.1.1)
  ((EI (p0.1,p0.2.1,()) (p1.1,p1.2.1,())).bind fun u2=>
  some (((((),u2.1.1.2.1,()),false,()),()),(u2.2.1,())))
 ((FC p2).bind fun u3=>
 (A6 u3.1.1 1 (p1.1.length:Int)).bind fun u4=>
 cond (!u4.1.1)
  ((EI (p0.1,p0.2.1,()) (p1.1,p1.2.1,())).bind fun u5=>
  some (((((),u5.1.1.2.1,()),false,()),()),(u5.2.1,())))
 ((EW (p1.1,p1.2.1,())).bind fun u6=>
 some (((((),(if p2>u6.1.1.2.1 then p2 else u6.1.1.2.1),()),true,()),()),(u6.2.1,()))))
abbrev gM:Type:=ABU×Unit
def PV(p0:ABh)(p1:ABW):Option gM:=
 some ((decide (p0.1≤p1.1),()),())
abbrev Bp:Type:=ABW×Unit
abbrev CW:Type:=AAZ→AB6→Int→Int→Option Bp
def DV(R2:CW)(t0:AAZ)(t1:AB6)(t7 t8:Int):Option Bp:=
 cond (decide (t8<t7))
  (if(0:Int)≤t8∧t8<(t0.length:Int)then(
  (PV ((t0.getD (t8.toNat) (0,0,false,[],())).1,(t0.getD (t8.toNat) (0,0,false,[],())).2.1,(t0.getD (t8.toNat) (0,0,false,[],())).2.2.1,(t0.getD (t8.toNat) (0,0,false,[],())).2.2.2.1,()) t1.1).bind fun u1=>
  cond (u1.1.1)
   (some ((t8,()),()))
  (R2 t0 (t1.1,()) t7 (AU (t8+1))))else none)
 (some (((-1),()),()))
def BJ:Nat→CW
 |0=>fun _ _ _ _=>none
 |n+1=>DV (BJ n)
def DW(R2:CW)(p0:AAZ)(p1:AB6):Option Bp:=
 R2 p0 (p1.1,()) (p0.length:Int) 0
def Ck(p0:AAZ)(p1:AB6):Option Bp:=DW (BJ Ab) p0 p1
abbrev Bn:Type:=ABc×AHR
abbrev CQ:Type:=AB6→Int→Int→AAZ→Option Bn
def DL(R5:CQ)(t1:AB6)(t5 t6:Int)(b0:AAZ):Option Bn:=
 cond ((decide (t6<(b0.length:Int))))
  (if(0:Int)≤t6∧t6<(b0.length:Int)then(
  (PV ((b0.getD (t6.toNat) (0,0,false,[],())).1,(b0.getD (t6.toNat) (0,0,false,[],())).2.1,(b0.getD (t6.toNat) (0,0,false,[],())).2.2.1,(b0.getD (t6.toNat) (0,0,false,[],())).2.2.2.1,()) t1.1).bind fun u3=>
  cond (!u3.1.1)
   (if(0:Int)≤t5∧t5<(b0.length:Int)then(
   R5 (t1.1,()) (AU (t5+1)) (AU (t6+1)) (b0.set (t5.toNat) ((b0.getD (t6.toNat) (0,0,false,[],())).1,(b0.getD (t6.toNat) (0,0,false,[],())).2.1,(b0.getD (t6.toNat) (0,0,false,[],())).2.2.1,(b0.getD (t6.toNat) (0,0,false,[],())).2.2.2.1,())))else none)
  (R5 (t1.1,()) t5 (AU (t6+1)) b0))else none)
 (if(0:Int)≤t5∧t5≤(b0.length:Int)∧(b0.length:Int)≤(b0.length:Int)then(
 let x5:AAZ:=(b0.take (t5.toNat)++List.replicate (((b0.length:Int).toNat)-(t5.toNat)) (0,0,false,[],())++b0.drop ((t5.toNat)+(((b0.length:Int).toNat)-(t5.toNat))))
 if(0:Int)≤(0:Int)∧(0:Int)≤t5∧t5≤(x5.length:Int)then(
 some (((),()),((),((x5.drop 0).take ((t5.toNat)-0)),())))else none)else none)
def BG:Nat→CQ
 |0=>fun _ _ _ _=>none
 |n+1=>DL (BG n)
def DM(R5:CQ)(p1:AB6)(b0:AAZ):Option Bn:=
 (Ck b0 (p1.1,())).bind fun u1=>
 cond (u1.1.1==(-1))
  (some (((),()),((),b0,())))
 (R5 (p1.1,()) u1.1.1 (AU (u1.1.1+1)) b0)
def Bw(p1:AB6)(b0:AAZ):Option Bn:=DM (BG Ab) p1 b0
abbrev kK:Type:=ADl×ACz
def SA(p0:ABa)(p1:Int):Option kK:=
 (FE (p0.1,p0.2.1,p0.2.2.1,())).bind fun u1=>
 cond (!u1.1.1)
  ((Df (p0.1,p0.2.1,p0.2.2.1,())).bind fun u2=>
  some (((((),(),u2.1.1.2.2.1,()),false,()),()),(u2.2.1,u2.2.2.1,())))
 ((D1 p1).bind fun u3=>
 cond (!u3.1.1)
  ((Df (p0.1,p0.2.1,p0.2.2.1,())).bind fun u4=>
  some (((((),(),u4.1.1.2.2.1,()),false,()),()),(u4.2.1,u4.2.2.1,())))
 ((DA (p0.1,p0.2.1,p0.2.2.1,())).bind fun u5=>
 (Bw ((p1,()),()) u5.2.1).bind fun u6=>
 some (((((),(),u5.1.1.2.2.1,()),true,()),()),(u6.2.2.1,u5.2.2.1,()))))
abbrev fc:Type:=ABW×ADw
def O9(p1 AE Aa:Int)(AN:Bool)(b1:AAF)(b2:AAT)(b3:AAF)(b4:AAP)(b5:AAj)(b6:AAo)(b7:AAs)(b8:AAa):Option fc:=
 (EP (b1,AE,b2,b3,b4,Aa,b5,b6,b7,b8,AN,()) p1).bind fun u1=>
 cond (u1.1.1 !=0)
  (some ((u1.1.1,()),(((),AE,(),(),(),Aa,(),(),(),(),AN,()),b1,b2,b3,b4,b5,b6,b7,b8,())))
 (if(0:Int)≤p1∧p1<(b2.length:Int)then(
 (SA ((b2.getD (p1.toNat) ([],[],0,())).1,(b2.getD (p1.toNat) ([],[],0,())).2.1,(b2.getD (p1.toNat) ([],[],0,())).2.2.1,()) Aa).bind fun u2=>
 if(0:Int)≤p1∧p1<(b2.length:Int)then(
 (KS u2.1.1.2.1).bind fun u4=>
 some ((u4.1.1,()),(((),AE,(),(),(),Aa,(),(),(),(),AN,()),b1,(b2.set (p1.toNat) (u2.2.1,u2.2.2.1,u2.1.1.1.2.2.1,())),b3,b4,b5,b6,b7,b8,())))else none)else none)
abbrev OC:Type:=ABc×(Unit×AAj×Unit)
def FI(p1 p2:Int)(b0:AAj):Option OC:=(ACI p1 p2 b0).map fun l=>(((),()),((),l,()))
abbrev cA:Type:=ABW×(ADi×List Int×AAT×Unit×Unit×Unit×Unit×AAs×Unit×List Int×AAP×AAj×AAo×AAa×Unit)
def Ue(p1:ABe)(AE Aa:Int)(AN:Bool)(b1:AAF)(b2:AAT)(b3:AAF)(b4:AAP)(b5:AAj)(b6:AAo)(b7:AAs)(b8:AAa):Option cA:=
 cond (p1.1==1)
  ((KO p1.2.1 AE Aa AN b1 b2 b3 b4 b5 b6 b7 b8).bind fun u1=>
  some ((u1.1.1,()),(((),u1.2.1.2.1,(),(),(),u1.2.1.2.2.2.2.2.1,(),(),(),(),u1.2.1.2.2.2.2.2.2.2.2.2.2.1,()),u1.2.2.1,u1.2.2.2.1,(),(),(),(),u1.2.2.2.2.2.2.2.2.1,(),u1.2.2.2.2.1,u1.2.2.2.2.2.2.2.2.2.2.1,u1.2.2.2.2.2.2.2.2.2.2.2.1,u1.2.2.2.2.2.2.2.2.2.2.2.2.1,u1.2.2.2.2.2.2.2.2.2.1,())))
 (cond (p1.1==2)
  ((MF p1.2.1 p1.2.2.2.2.1 AE Aa AN b1 b2 b3 b4 b5 b6 b7 b8).bind fun u6=>
  some ((u6.1.1,()),(((),u6.2.1.2.1,(),(),(),u6.2.1.2.2.2.2.2.1,(),(),(),(),u6.2.1.2.2.2.2.2.2.2.2.2.2.1,()),u6.2.2.1,u6.2.2.2.1,(),(),(),(),u6.2.2.2.2.2.2.2.2.1,(),u6.2.2.2.2.1,u6.2.2.2.2.2.1,u6.2.2.2.2.2.2.1,u6.2.2.2.2.2.2.2.1,u6.2.2.2.2.2.2.2.2.2.2.1,())))
 (cond (p1.1==3)
  ((JC (p1.1,p1.2.1,p1.2.2.1,p1.2.2.2.1,p1.2.2.2.2.1,()) AE Aa AN b1 b2 b3 b4 b5 b6 b7 b8).bind fun u8=>
  some ((u8.1.1,()),(((),u8.2.1.2.1,(),(),(),u8.2.1.2.2.2.2.2.1,(),(),(),(),u8.2.1.2.2.2.2.2.2.2.2.2.2.1,()),u8.2.2.1,u8.2.2.2.1,(),(),(),(),u8.2.2.2.2.2.2.2.2.1,(),u8.2.2.2.2.1,u8.2.2.2.2.2.1,u8.2.2.2.2.2.2.1,u8.2.2.2.2.2.2.2.1,u8.2.2.2.2.2.2.2.2.2.1,())))
 (cond (p1.1==4)
  ((QN p1.2.1 AE Aa AN b1 b2 b3 b4 b5 b6 b7 b8).bind fun D5=>
  some ((D5.1.1,()),(((),D5.2.1.2.1,(),(),(),D5.2.1.2.2.2.2.2.1,(),(),(),(),D5.2.1.2.2.2.2.2.2.2.2.2.2.1,()),D5.2.2.1,D5.2.2.2.1,(),(),(),(),D5.2.2.2.2.2.2.2.2.1,(),D5.2.2.2.2.1,D5.2.2.2.2.2.1,D5.2.2.2.2.2.2.1,D5.2.2.2.2.2.2.2.1,D5.2.2.2.2.2.2.2.2.2.1,())))
 (cond (p1.1==5)
  ((PH p1.2.1 p1.2.2.1 AE Aa AN b1 b2 b3 b4 b5 b6 b7 b8).bind fun Mi=>
  some ((Mi.1.1,()),(((),Mi.2.1.2.1,(),(),(),Mi.2.1.2.2.2.2.2.1,(),(),(),(),Mi.2.1.2.2.2.2.2.2.2.2.2.2.1,()),Mi.2.2.1,Mi.2.2.2.1,(),(),(),(),Mi.2.2.2.2.2.2.2.2.1,(),Mi.2.2.2.2.1,Mi.2.2.2.2.2.1,Mi.2.2.2.2.2.2.1,Mi.2.2.2.2.2.2.2.1,Mi.2.2.2.2.2.2.2.2.2.1,())))
 (cond (p1.1==6)
  ((Qa p1.2.1 AE Aa AN b1 b2 b3 b4 b5 b6 b7 b8).bind fun u16=>
  some ((u16.1.1,()),(((),u16.2.1.2.1,(),(),(),u16.2.1.2.2.2.2.2.1,(),(),(),(),u16.2.1.2.2.2.2.2.2.2.2.2.2.1,()),u16.2.2.1,u16.2.2.2.1,(),(),(),(),u16.2.2.2.2.2.2.2.2.1,(),u16.2.2.2.2.2.2.2.2.2.2.1,u16.2.2.2.2.2.1,u16.2.2.2.2.2.2.1,u16.2.2.2.2.2.2.2.1,u16.2.2.2.2.2.2.2.2.2.1,())))
 (cond (p1.1==7)
  ((KF p1.2.1 AE Aa AN b1 b2 b3 b4 b5 b6 b7 b8).bind fun MU=>
  some ((MU.1.1,()),(((),MU.2.1.2.1,(),(),(),MU.2.1.2.2.2.2.2.1,(),(),(),(),MU.2.1.2.2.2.2.2.2.2.2.2.2.1,()),MU.2.2.1,MU.2.2.2.1,(),(),(),(),MU.2.2.2.2.2.2.2.2.1,(),MU.2.2.2.2.2.2.2.2.2.2.1,MU.2.2.2.2.2.1,MU.2.2.2.2.2.2.1,MU.2.2.2.2.2.2.2.1,MU.2.2.2.2.2.2.2.2.2.1,())))
 (cond (p1.1==8)
  ((QQ AE Aa AN b1 b2 b3 b4 b5 b6 b7 b8).bind fun Ip=>
  some ((Ip.1.1,()),(((),Ip.2.1.2.1,(),(),(),Ip.2.1.2.2.2.2.2.1,(),(),(),(),Ip.2.1.2.2.2.2.2.2.2.2.2.2.1,()),Ip.2.2.1,Ip.2.2.2.1,(),(),(),(),Ip.2.2.2.2.2.2.2.2.1,(),Ip.2.2.2.2.1,Ip.2.2.2.2.2.1,Ip.2.2.2.2.2.2.1,Ip.2.2.2.2.2.2.2.2.2.2.1,Ip.2.2.2.2.2.2.2.2.2.1,())))
 (cond (p1.1==9)
  ((KH p1.2.1 AE Aa AN b1 b2 b3 b4 b5 b6 b7 b8).bind fun O4=>
  some ((O4.1.1,()),(((),O4.2.1.2.1,(),(),(),O4.2.1.2.2.2.2.2.1,(),(),(),(),O4.2.1.2.2.2.2.2.2.2.2.2.2.1,()),O4.2.2.1,O4.2.2.2.1,(),(),(),(),O4.2.2.2.2.2.2.2.2.1,(),O4.2.2.2.2.1,O4.2.2.2.2.2.1,O4.2.2.2.2.2.2.1,O4.2.2.2.2.2.2.2.1,O4.2.2.2.2.2.2.2.2.2.1,())))
 (cond (p1.1==10)
  ((KL AE Aa AN b1 b2 b3 b4 b5 b6 b7 b8).bind fun aT=>
  some ((aT.1.1,()),(((),aT.2.1.2.1,(),(),(),aT.2.1.2.2.2.2.2.1,(),(),(),(),aT.2.1.2.2.2.2.2.2.2.2.2.2.1,()),aT.2.2.1,aT.2.2.2.1,(),(),(),(),aT.2.2.2.2.2.2.2.2.1,(),aT.2.2.2.2.1,aT.2.2.2.2.2.1,aT.2.2.2.2.2.2.1,aT.2.2.2.2.2.2.2.1,aT.2.2.2.2.2.2.2.2.2.1,())))
 (cond (p1.1==11)
  ((Sq p1.2.2.1 p1.2.2.2.1 AE Aa AN b1 b2 b3 b4 b5 b6 b7 b8).bind fun s9=>
  some ((s9.1.1,()),(((),s9.2.1.2.1,(),(),(),s9.2.1.2.2.2.2.2.1,(),(),(),(),s9.2.1.2.2.2.2.2.2.2.2.2.2.1,()),s9.2.2.1,s9.2.2.2.1,(),(),(),(),s9.2.2.2.2.2.2.2.2.1,(),s9.2.2.2.2.1,s9.2.2.2.2.2.1,s9.2.2.2.2.2.2.1,s9.2.2.2.2.2.2.2.1,s9.2.2.2.2.2.2.2.2.2.1,())))
 (cond (p1.1==12)
  ((JJ AE Aa AN b1 b2 b3 b4 b5 b6 b7 b8).bind fun lx=>
  some ((lx.1.1,()),(((),lx.2.1.2.1,(),(),(),lx.2.1.2.2.2.2.2.1,(),(),(),(),lx.2.1.2.2.2.2.2.2.2.2.2.2.1,()),lx.2.2.1,lx.2.2.2.1,(),(),(),(),lx.2.2.2.2.2.2.2.2.1,(),lx.2.2.2.2.1,lx.2.2.2.2.2.2.2.2.2.2.1,lx.2.2.2.2.2.2.1,lx.2.2.2.2.2.2.2.2.2.2.2.1,lx.2.2.2.2.2.2.2.2.2.1,())))
 (cond (p1.1==13)
  ((WN (b1,AE,()) (b4,Aa,()) p1.2.1).bind fun u42=>
  (KS u42.1.1.2.1).bind fun u43=>
  some ((u43.1.1,()),(((),AE,(),(),(),u42.1.1.1.2.1,(),(),(),(),AN,()),b1,b2,(),(),(),(),b7,(),b3,u42.2.1,b5,b6,b8,())))
 (cond (p1.1==14)
  ((ND p1.2.1 p1.2.2.1 AE Aa AN b1 b2 b3 b4 b5 b6 b7 b8).bind fun rC=>
  some ((rC.1.1,()),(((),rC.2.1.2.1,(),(),(),rC.2.1.2.2.2.2.2.1,(),(),(),(),rC.2.1.2.2.2.2.2.2.2.2.2.2.1,()),rC.2.2.1,rC.2.2.2.1,(),(),(),(),rC.2.2.2.2.2.2.2.2.1,(),rC.2.2.2.2.1,rC.2.2.2.2.2.1,rC.2.2.2.2.2.2.1,rC.2.2.2.2.2.2.2.1,rC.2.2.2.2.2.2.2.2.2.1,())))
 (cond (p1.1==16)
  ((O9 p1.2.1 AE Aa AN b1 b2 b3 b4 b5 b6 b7 b8).bind fun qz=>
  some ((qz.1.1,()),(((),qz.2.1.2.1,(),(),(),qz.2.1.2.2.2.2.2.1,(),(),(),(),qz.2.1.2.2.2.2.2.2.2.2.2.2.1,()),qz.2.2.1,qz.2.2.2.1,(),(),(),(),qz.2.2.2.2.2.2.2.2.1,(),qz.2.2.2.2.1,qz.2.2.2.2.2.1,qz.2.2.2.2.2.2.1,qz.2.2.2.2.2.2.2.1,qz.2.2.2.2.2.2.2.2.2.1,())))
 ((A6 p1.2.1 0 (AU ((b5.length:Int)-1))).bind fun u53=>
 cond (!u53.1.1)
  (some ((2,()),(((),AE,(),(),(),Aa,(),(),(),(),AN,()),b1,b2,(),(),(),(),b7,(),b3,b4,b5,b6,b8,())))
 ((FI p1.2.1 (AU (p1.2.1+1)) b5).bind fun u54=>
 some ((0,()),(((),AE,(),(),(),Aa,(),(),(),(),AN,()),b1,b2,(),(),(),(),b7,(),b3,b4,u54.2.2.1,b6,b8,()))))))))))))))))))
end
end Go.M
