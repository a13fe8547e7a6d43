/- What each function computes, printed by a program out of the translation; what is printed is checked in the equations. -/
import Derived.Test.YtdkfcaidapdecaaGreatF1
set_option linter.unusedVariables false
set_option linter.unusedSimpArgs false
set_option linter.unusedSectionVars false
namespace Go.M
noncomputable section
abbrev wL:Type:=AA1×Unit
def nw(p0:AAM):Option wL:=
 some (((decide ((p0.length:Int)>1048576)),()),())
abbrev WE:Type:=AA9×ADB
abbrev ZP:Type:=List Int→Int→Int→Option WE
def Z9(R3:ZP)(t0:AAM)(t3 t4:Int):Option WE:=
 cond ((decide (t4<(t0.length:Int))))
  (cond (decide (t4<4000))
   (if(0:Int)≤t4∧t4<(t0.length:Int)then(
   R3 t0 (cQ .i64 (AS ((AS ((AS (t3*131))+(AS ((t0.getD (t4.toNat) 0)))))+7)) 1073741823) (AS (t4+1)))else none)
  (some (((),()),((t0,0,t3,()),()))))
 (some (((),()),((t0,0,t3,()),())))
def Pt:Nat→ZP
 |0=>fun _ _ _=>none
 |n+1=>Z9 (Pt n)
def aK(R3:ZP)(p0:AAM):Option WE:=
 R3 p0 (AS (17817+(p0.length:Int))) 0
def aU(p0:AAM):Option WE:=aK (Pt AY) p0
abbrev qe:Type:=AA3×ADB
def L_(AL:AAM)(AE Ab:Int):Option qe:=
 let x2:Int:=AS ((AS (Ab*6364136223846793005))+1442695040888963407)
 let x3:Int:=AQB .i64 (x2.fdiv (2^33)) (x2.fdiv (2^45))
 cond ((decide (AE<(AL.length:Int))))
  (if(0:Int)≤AE∧AE<(AL.length:Int)then(
  some ((cQ .i64 (AS ((cQ .i64 x3 255)+(AS ((AL.getD (AE.toNat) 0))))) 255,()),((AL,AS (AE+1),x2,()),())))else none)
 (some ((cQ .i64 x3 255,()),((AL,AE,x2,()),())))
abbrev Hk:Type:=AA3×ADB
def AJ(p1:Int)(AL:AAM)(AE Ab:Int):Option Hk:=
 cond (decide (p1≤0))
  (some ((0,()),((AL,AE,Ab,()),())))
 (cond (decide (p1≤256))
  ((L_ AL AE Ab).bind fun u1=>
  if p1=0 then none else(
  some ((u1.1.1.tmod p1,()),((u1.2.1.1,u1.2.1.2.1,u1.2.1.2.2.1,()),()))))
 ((L_ AL AE Ab).bind fun u2=>
 (L_ u2.2.1.1 u2.2.1.2.1 u2.2.1.2.2.1).bind fun u3=>
 (L_ u3.2.1.1 u3.2.1.2.1 u3.2.1.2.2.1).bind fun u4=>
 (L_ u4.2.1.1 u4.2.1.2.1 u4.2.1.2.2.1).bind fun u5=>
 if p1=0 then none else(
 some ((((AS ((AS ((AS ((AS (u2.1.1*16777216))+(AS (u3.1.1*65536))))+(AS (u4.1.1*256))))+u5.1.1)).tmod p1),()),((u5.2.1.1,u5.2.1.2.1,u5.2.1.2.2.1,()),())))))
abbrev NL:Type:=AA1×ADB
def A9(p1:Int)(AL:AAM)(AE Ab:Int):Option NL:=
 (AJ p1 AL AE Ab).bind fun u1=>
 some ((u1.1.1==0,()),((u1.2.1.1,u1.2.1.2.1,u1.2.1.2.2.1,()),()))
abbrev MM:Type:=ACt×AEf
abbrev Pc:Type:=Int→Int→List Int→Int→Int→Int→List Int→Int→List Int→Option MM
def SU(R4:Pc)(t4 t5:Int)(AL:AAM)(AE Ab Ap:Int)(b2:AAM)(dw:Int)(b4:AAM):Option MM:=
 cond (decide (t5<t4))
  ((AJ 5 AL AE Ab).bind fun u3=>
  if b4.length+1≤DA then(
  R4 t4 (AS (t5+1)) u3.2.1.1 u3.2.1.2.1 u3.2.1.2.2.1 Ap b2 dw (b4++[u3.1.1]))else none)
 ((A9 2 AL AE Ab).bind fun u5=>
 cond (u5.1.1)
  (some ((((),2,()),()),((u5.2.1.1,u5.2.1.2.1,u5.2.1.2.2.1,()),b4,())))
 (some ((((),dw,()),()),((u5.2.1.1,u5.2.1.2.1,u5.2.1.2.2.1,()),b4,()))))
def IM:Nat→Pc
 |0=>fun _ _ _ _ _ _ _ _ _=>none
 |n+1=>SU (IM n)
def SO(R4:Pc)(AL:AAM)(AE Ab:Int):Option MM:=
 (AJ 3 AL AE Ab).bind fun u1=>
 (AJ 5 u1.2.1.1 u1.2.1.2.1 u1.2.1.2.2.1).bind fun u2=>
 R4 (AS (3+u2.1.1)) 0 u2.2.1.1 u2.2.1.2.1 u2.2.1.2.2.1 0 [] (AS (1+u1.1.1)) []
def L0(AL:AAM)(AE Ab:Int):Option MM:=SO (IM AY) AL AE Ab
abbrev jj:Type:=AA3×ADB
def CI(p1 AL:AAM)(AE Ab:Int):Option jj:=
 (AJ (p1.length:Int) AL AE Ab).bind fun u1=>
 if(0:Int)≤u1.1.1∧u1.1.1<(p1.length:Int)then(
 some (((p1.getD (u1.1.1.toNat) 0),()),((u1.2.1.1,u1.2.1.2.1,u1.2.1.2.2.1,()),())))else none
abbrev ZR:Type:=ACt×AEf
def RC(AL:AAM)(AE Ab:Int):Option ZR:=
 (L0 AL AE Ab).bind fun u1=>
 (AJ 20 u1.2.1.1 u1.2.1.2.1 u1.2.1.2.2.1).bind fun u2=>
 cond (u2.1.1==0)
  ((CI [0,4,5] u2.2.1.1 u2.2.1.2.1 u2.2.1.2.2.1).bind fun u3=>
  some ((((),u3.1.1,()),()),((u3.2.1.1,u3.2.1.2.1,u3.2.1.2.2.1,()),u1.2.2.1,())))
 (cond (u2.1.1==1)
  ((CI [(-1),7,8] u2.2.1.1 u2.2.1.2.1 u2.2.1.2.2.1).bind fun u4=>
  if(0:Int)≤(0:Int)∧(0:Int)<(u1.2.2.1.length:Int)then(
  some ((((),u1.1.1.2.1,()),()),((u4.2.1.1,u4.2.1.2.1,u4.2.1.2.2.1,()),(u1.2.2.1.set 0 u4.1.1),())))else none)
 (cond (u2.1.1==2)
  ((CI [0,8,9] u2.2.1.1 u2.2.1.2.1 u2.2.1.2.2.1).bind fun u6=>
  if(0:Int)≤u6.1.1∧u6.1.1≤u6.1.1∧u6.1.1≤(DA:Int)then(
  some ((((),u1.1.1.2.1,()),()),((u6.2.1.1,u6.2.1.2.1,u6.2.1.2.2.1,()),(List.replicate (u6.1.1.toNat) 0),())))else none)
 (some ((((),u1.1.1.2.1,()),()),((u2.2.1.1,u2.2.1.2.1,u2.2.1.2.2.1,()),u1.2.2.1,())))))
abbrev cN:Type:=AA9×AA_
def DB(p0:AAM):Option cN:=
 if 0+p0.length≤DA then(
 some (((),()),(p0,())))else none
abbrev iD:Type:=ACt×AA_
def QK(p0:AAq):Option iD:=
 (DB p0.1).bind fun u1=>
 some ((((),p0.2.1,()),()),(u1.2.1,()))
abbrev NC:Type:=AA1×Unit
def Ay(p0 p1 p2:Int):Option NC:=
 cond (decide (p0≥p1))
  (some ((decide (p0≤p2),()),()))
 (some ((false,()),()))
abbrev QA:Type:=AA1×Unit
abbrev Tr:Type:=List Int→Int→Int→List Int→Int→Option QA
def Vk(R2:Tr)(t6:AAM)(t7 t8:Int)(AL:AAM)(AE:Int):Option QA:=
 cond (decide (t8<t7))
  (if(0:Int)≤t8∧t8<(t6.length:Int)then(
  (Ay (t6.getD (t8.toNat) 0) 0 7).bind fun u2=>
  cond (!u2.1.1)
   (some ((false,()),()))
  (R2 t6 t7 (AS (t8+1)) AL AE))else none)
 ((Ay (AL.length:Int) 1 8).bind fun u3=>
 cond (u3.1.1)
  ((Ay AE 1 4).bind fun u4=>
  some ((u4.1.1,()),()))
 (some ((false,()),())))
def Lm:Nat→Tr
 |0=>fun _ _ _ _ _=>none
 |n+1=>Vk (Lm n)
def Vx(R2:Tr)(p0:AAq):Option QA:=
 R2 p0.1 (p0.1.length:Int) 0 p0.1 p0.2.1
def Es(p0:AAq):Option QA:=Vx (Lm AY) p0
abbrev Sl:Type:=AA1×Unit
abbrev VG:Type:=List Int→Int→List Int→Int→Int→Option Sl
def Qj(R2:VG)(t0:AAM)(t1:Int)(t7:AAM)(t8 t9:Int):Option Sl:=
 cond (decide (t9<t8))
  (if(0:Int)≤t9∧t9<(t7.length:Int)then(
  let x1:Int:=(t7.getD (t9.toNat) 0)
  (Ay x1 0 t1).bind fun u2=>
  cond (!u2.1.1)
   (some ((false,()),()))
  (cond (decide (t9>0))
   (if(0:Int)≤AS (t9-1)∧AS (t9-1)<(t0.length:Int)then(
   cond (decide ((t0.getD ((AS (t9-1)).toNat) 0)≥x1))
    (some ((false,()),()))
   (R2 t0 t1 t7 t8 (AS (t9+1))))else none)
  (R2 t0 t1 t7 t8 (AS (t9+1)))))else none)
 (some ((true,()),()))
def J3:Nat→VG
 |0=>fun _ _ _ _ _=>none
 |n+1=>Qj (J3 n)
def Wr(R2:VG)(p0:AAM)(p1:Int):Option Sl:=
 R2 p0 p1 p0 (p0.length:Int) 0
def WD(p0:AAM)(p1:Int):Option Sl:=Wr (J3 AY) p0 p1
abbrev o5:Type:=AA1×Unit
def Du(p0:AAq)(p1:AAM):Option o5:=
 (Es (p0.1,p0.2.1,())).bind fun u1=>
 cond (u1.1.1)
  ((WD p1 (AS ((p0.1.length:Int)-1))).bind fun u3=>
  some ((u3.1.1,()),()))
 (some ((false,()),()))
abbrev pA:Type:=AA1×Unit
def HZ(p0:Int):Option pA:=
 (Ay p0 1 30).bind fun u1=>
 some ((u1.1.1,()),())
abbrev tX:Type:=AA1×Unit
def Wg(p0:Int):Option tX:=
 (Ay p0 1 60).bind fun u1=>
 some ((u1.1.1,()),())
abbrev oK:Type:=AA1×Unit
def Ds(p0:Int):Option oK:=
 (HZ (AS (p0.tdiv 4294967296))).bind fun u2=>
 cond (u2.1.1)
  ((Wg (p0.tmod 4294967296)).bind fun u3=>
  some ((u3.1.1,()),()))
 (some ((false,()),()))
abbrev qW:Type:=AA1×Unit
def F4(p0:AA7):Option qW:=
 some (((decide ((p0.length:Int)≤40)),()),())
abbrev nr:Type:=AA3×Unit
def E4(p0:Int):Option nr:=
 (Ds p0).bind fun u1=>
 cond (!u1.1.1)
  (some ((0,()),()))
 (some (((AS (p0.tdiv 4294967296)),()),()))
abbrev nq:Type:=AA1×Unit
def Mh(p0:ABk):Option nq:=
 (Ay p0.2.1 0 30).bind fun u1=>
 cond (u1.1.1)
  (cond (p0.2.1==0)
   (cond (!p0.2.2.1)
    ((Ds p0.1).bind fun u2=>
    cond (u2.1.1)
     ((F4 p0.2.2.2.1).bind fun u3=>
     some ((u3.1.1,()),()))
    (some ((false,()),())))
   (cond (decide (p0.2.1>0))
    ((Ds p0.1).bind fun u4=>
    cond (u4.1.1)
     (cond (p0.2.2.2.1==[])
      ((F4 p0.2.2.2.1).bind fun u5=>
      some ((u5.1.1,()),()))
     (some ((false,()),())))
    (some ((false,()),())))
   ((Ds p0.1).bind fun u6=>
   cond (u6.1.1)
    (some ((false,()),()))
   (some ((false,()),())))))
  ((E4 p0.1).bind fun u7=>
  let x8:Bool:=decide (p0.2.1>u7.1.1)
  cond (!p0.2.2.1)
   ((Ds p0.1).bind fun u9=>
   cond (u9.1.1)
    (cond (x8)
     ((F4 p0.2.2.2.1).bind fun D1=>
     some ((D1.1.1,()),()))
    (some ((false,()),())))
   (some ((false,()),())))
  (cond (decide (p0.2.1>0))
   ((Ds p0.1).bind fun MO=>
   cond (MO.1.1)
    (cond (x8)
     (cond (p0.2.2.2.1==[])
      ((F4 p0.2.2.2.1).bind fun Dz=>
      some ((Dz.1.1,()),()))
     (some ((false,()),())))
    (some ((false,()),())))
   (some ((false,()),())))
  ((Ds p0.1).bind fun MK=>
  cond (MK.1.1)
   (cond (x8)
    (some ((false,()),()))
   (some ((false,()),())))
  (some ((false,()),()))))))
 (cond (!p0.2.2.1)
  ((Ds p0.1).bind fun KP=>
  cond (KP.1.1)
   (some ((false,()),()))
  (some ((false,()),())))
 (cond (decide (p0.2.1>0))
  ((Ds p0.1).bind fun tY=>
  cond (tY.1.1)
   (some ((false,()),()))
  (some ((false,()),())))
 ((Ds p0.1).bind fun u16=>
 cond (u16.1.1)
  (some ((false,()),()))
 (some ((false,()),())))))
abbrev Ov:Type:=AA1×Unit
abbrev Ri:Type:=AAR→Int→Int→Option Ov
def OH(R2:Ri)(t5:AAR)(t6 t7:Int):Option Ov:=
 cond (decide (t7<t6))
  (if(0:Int)≤t7∧t7<(t5.length:Int)then(
  (Mh ((t5.getD (t7.toNat) (0,0,false,[],())).1,(t5.getD (t7.toNat) (0,0,false,[],())).2.1,(t5.getD (t7.toNat) (0,0,false,[],())).2.2.1,(t5.getD (t7.toNat) (0,0,false,[],())).2.2.2.1,())).bind fun u1=>
  cond (!u1.1.1)
   (some ((false,()),()))
  (R2 t5 t6 (AS (t7+1))))else none)
 (some ((true,()),()))
def IE:Nat→Ri
 |0=>fun _ _ _=>none
 |n+1=>OH (IE n)
def U9(R2:Ri)(p0:AAR):Option Ov:=
 R2 p0 (p0.length:Int) 0
def N3(p0:AAR):Option Ov:=U9 (IE AY) p0
abbrev LH:Type:=AA1×Unit
abbrev OT:Type:=AAR→AAR→Int→Int→Option LH
def L4(R2:OT)(t0 t5:AAR)(t6 t7:Int):Option LH:=
 cond (decide (t7<t6))
  (if(0:Int)≤t7∧t7<(t5.length:Int)then(
  cond (decide (t7>0))
   (if(0:Int)≤AS (t7-1)∧AS (t7-1)<(t0.length:Int)then(
   cond (decide (((t0.getD ((AS (t7-1)).toNat) (0,0,false,[],())).1)≥((t5.getD (t7.toNat) (0,0,false,[],())).1)))
    (some ((false,()),()))
   (R2 t0 t5 t6 (AS (t7+1))))else none)
  (R2 t0 t5 t6 (AS (t7+1))))else none)
 (some ((true,()),()))
def F6:Nat→OT
 |0=>fun _ _ _ _=>none
 |n+1=>L4 (F6 n)
def Qq(R2:OT)(p0:AAR):Option LH:=
 R2 p0 p0 (p0.length:Int) 0
def Kd(p0:AAR):Option LH:=Qq (F6 AY) p0
abbrev pr:Type:=AA1×Unit
def E7(p0:AA6):Option pr:=
 cond ((decide ((p0.1.length:Int)>200)))
  (some ((false,()),()))
 (cond (decide ((p0.2.1.length:Int)>20))
  (some ((false,()),()))
 ((N3 p0.1).bind fun u3=>
 cond (u3.1.1)
  ((N3 p0.2.1).bind fun u4=>
  cond (u4.1.1)
   ((Kd p0.1).bind fun u5=>
   cond (u5.1.1)
    ((Ay p0.2.2.1 0 30).bind fun u6=>
    some ((u6.1.1,()),()))
   (some ((false,()),())))
  (some ((false,()),())))
 (some ((false,()),()))))
abbrev Il:Type:=AA3×Unit
abbrev LW:Type:=List Int→Int→Int→Int→Option Il
def Oi(R2:LW)(t0:AAM)(t1 t7 t8:Int):Option Il:=
 cond (decide (t8<t7))
  (if(0:Int)≤t8∧t8<(t0.length:Int)then(
  cond (t1==(t0.getD (t8.toNat) 0))
   (some ((t8,()),()))
  (R2 t0 t1 t7 (AS (t8+1))))else none)
 (some (((-1),()),()))
def F_:Nat→LW
 |0=>fun _ _ _ _=>none
 |n+1=>Oi (F_ n)
def N5(R2:LW)(p0:AAM)(p1:Int):Option Il:=
 R2 p0 p1 (p0.length:Int) 0
def N6(p0:AAM)(p1:Int):Option Il:=N5 (F_ AY) p0 p1
abbrev X0:Type:=AA1×Unit
def Bg(p0:AAM)(p1:Int):Option X0:=
 (N6 p0 p1).bind fun u1=>
 some ((decide (u1.1.1≥0),()),())
abbrev qx:Type:=AA1×Unit
def Qx(p0:Int)(p1:AA_):Option qx:=
 (Bg p1.1 p0).bind fun u1=>
 some ((!u1.1.1,()),())
abbrev DN:Type:=AA3×Unit
abbrev ER:Type:=List Int→(AA_×Unit)→Int→Int→Option DN
def Dx(R2:ER)(t0:AAM)(t1:AA_×Unit)(t7 t8:Int):Option DN:=
 cond (decide (t8<t7))
  (if(0:Int)≤t8∧t8<(t0.length:Int)then(
  (Qx (t0.getD (t8.toNat) 0) t1.1).bind fun u2=>
  cond (u2.1.1)
   (some ((t8,()),()))
  (R2 t0 (t1.1,()) t7 (AS (t8+1))))else none)
 (some (((-1),()),()))
def Bq:Nat→ER
 |0=>fun _ _ _ _=>none
 |n+1=>Dx (Bq n)
def Dv(R2:ER)(p0:AAM)(p1:AA_×Unit):Option DN:=
 R2 p0 (p1.1,()) (p0.length:Int) 0
def DZ(p0:AAM)(p1:AA_×Unit):Option DN:=Dv (Bq AY) p0 p1
abbrev DD:Type:=AA9×AF_
abbrev EK:Type:=(AA_×Unit)→Int→Int→List Int→Option DD
def Dq(R5:EK)(t1:AA_×Unit)(t5 t6:Int)(b0:AAM):Option DD:=
 cond ((decide (t6<(b0.length:Int))))
  (if(0:Int)≤t6∧t6<(b0.length:Int)then(
  let x3:Int:=(b0.getD (t6.toNat) 0)
  (Qx x3 t1.1).bind fun u4=>
  cond (!u4.1.1)
   (if(0:Int)≤t5∧t5<(b0.length:Int)then(
   R5 (t1.1,()) (AS (t5+1)) (AS (t6+1)) (b0.set (t5.toNat) x3))else none)
  (R5 (t1.1,()) t5 (AS (t6+1)) b0))else none)
 (if(0:Int)≤t5∧t5≤(b0.length:Int)∧(b0.length:Int)≤(b0.length:Int)then(
 let x6:AAM:=(b0.take (t5.toNat)++List.replicate (((b0.length:Int).toNat)-(t5.toNat)) 0++b0.drop ((t5.toNat)+(((b0.length:Int).toNat)-(t5.toNat))))
 if(0:Int)≤(0:Int)∧(0:Int)≤t5∧t5≤(x6.length:Int)then(
 some (((),()),((),((x6.drop 0).take ((t5.toNat)-0)),())))else none)else none)
def Bl:Nat→EK
 |0=>fun _ _ _ _=>none
 |n+1=>Dq (Bl n)
def Dp(R5:EK)(p1:AA_×Unit)(b0:AAM):Option DD:=
 (DZ b0 (p1.1,())).bind fun u1=>
 cond (u1.1.1==(-1))
  (some (((),()),((),b0,())))
 (R5 (p1.1,()) u1.1.1 (AS (u1.1.1+1)) b0)
def Cg(p1:AA_×Unit)(b0:AAM):Option DD:=Dp (Bl AY) p1 b0
abbrev vR:Type:=AA9×AA_
def M7(p0 p1:AAM):Option vR:=
 (DB p0).bind fun u1=>
 (Cg ((p1,()),()) u1.2.1).bind fun u2=>
 some (((),()),(u2.2.2.1,()))
abbrev LF:Type:=AA1×Unit
def Cz(p0:AA2)(p1:Int):Option LF:=
 (M7 [p1] p0.2.2.2.1).bind fun u1=>
 some ((decide ((u1.2.1.length:Int)>0),()),())
abbrev UE:Type:=AA3×Unit
abbrev Wd:Type:=List Int→Int→Int→List Int→Int→List Int→Option UE
def YO(R5:Wd)(t13:AAM)(t14 t15:Int)(AL:AAM)(AE:Int)(b1:AAM):Option UE:=
 cond (decide (t15<t14))
  (if(0:Int)≤t15∧t15<(t13.length:Int)then(
  let x2:Int:=(t13.getD (t15.toNat) 0)
  if(0:Int)≤x2∧x2<(AL.length:Int)then(
  (Bg b1 (AL.getD (x2.toNat) 0)).bind fun u4=>
  cond (!u4.1.1)
   (if(0:Int)≤x2∧x2<(AL.length:Int)then(
   if b1.length+1≤DA then(
   R5 t13 t14 (AS (t15+1)) AL AE (b1++[(AL.getD (x2.toNat) 0)]))else none)else none)
  (R5 t13 t14 (AS (t15+1)) AL AE b1))else none)else none)
 (some (((b1.length:Int),()),()))
def Oc:Nat→Wd
 |0=>fun _ _ _ _ _ _=>none
 |n+1=>YO (Oc n)
def Ym(R5:Wd)(p0:AAq)(p1:AAM):Option UE:=
 (Du (p0.1,p0.2.1,()) p1).bind fun u1=>
 cond (!u1.1.1)
  (some (((-1),()),()))
 (R5 p1 (p1.length:Int) 0 p0.1 p0.2.1 [])
def Yy(p0:AAq)(p1:AAM):Option UE:=Ym (Oc AY) p0 p1
abbrev iR:Type:=AA1×Unit
def GW(p0:AAq)(p1:AAM):Option iR:=
 (Du (p0.1,p0.2.1,()) p1).bind fun u1=>
 cond (u1.1.1)
  ((Yy (p0.1,p0.2.1,()) p1).bind fun u2=>
  some (((decide (u2.1.1≥p0.2.1)),()),()))
 (some ((false,()),()))
abbrev Jn:Type:=AA1×Unit
abbrev MP:Type:=AA2→AAO→Int→Int→Option Jn
def Jx(R4:MP)(t0:AA2)(t32:AAO)(t33 t34:Int):Option Jn:=
 cond (decide (t34<t33))
  (if(0:Int)≤t34∧t34<(t32.length:Int)then(
  (E7 ((t32.getD (t34.toNat) ([],[],0,())).1,(t32.getD (t34.toNat) ([],[],0,())).2.1,(t32.getD (t34.toNat) ([],[],0,())).2.2.1,())).bind fun u5=>
  cond (!u5.1.1)
   (some ((false,()),()))
  ((Cz t0 t34).bind fun u6=>
  cond (u6.1.1)
   (cond (decide ((AS ((AS ((((t32.getD (t34.toNat) ([],[],0,())).1).length:Int)+(((t32.getD (t34.toNat) ([],[],0,())).2.1).length:Int)))+((t32.getD (t34.toNat) ([],[],0,())).2.2.1)))>0))
    (some ((false,()),()))
   (R4 t0 t32 t33 (AS (t34+1))))
  (R4 t0 t32 t33 (AS (t34+1)))))else none)
 (cond (t0.2.2.2.2.2.2.2.2.2.2.1)
  (some ((true,()),()))
 ((GW (t0.1,t0.2.1,()) t0.2.2.2.1).bind fun Dz=>
 some ((!Dz.1.1,()),())))
def E5:Nat→MP
 |0=>fun _ _ _ _=>none
 |n+1=>Jx (E5 n)
def PN(R4:MP)(p0:AA2):Option Jn:=
 cond (((p0.2.2.1.length:Int) !=(p0.1.length:Int)))
  (some ((false,()),()))
 ((Du (p0.1,p0.2.1,()) p0.2.2.2.1).bind fun u3=>
 cond (!u3.1.1)
  (some ((false,()),()))
 (R4 p0 p0.2.2.1 (p0.2.2.1.length:Int) 0))
def LI(p0:AA2):Option Jn:=PN (E5 AY) p0
abbrev sP:Type:=AA1×Unit
def bR(p0:AAq)(p1:AE2):Option sP:=
 (GW (p0.1,p0.2.1,()) p1.1).bind fun u1=>
 cond (u1.1.1)
  ((Ay p1.2.2.1 0 60).bind fun u2=>
  cond (u2.1.1)
   (cond (p1.2.1)
    (some ((true,()),()))
   (some ((p1.2.2.1==0,()),())))
  (some ((false,()),())))
 (some ((false,()),()))
abbrev SY:Type:=AA1×Unit
abbrev ZC:Type:=AAN→Int→Int→List Int→Int→AAN→Int→Option SY
def T2(R2:ZC)(t9:AAN)(t10 t11:Int)(AL:AAM)(AE:Int)(BB:AAN)(Ap:Int):Option SY:=
 cond (decide (t11<t10))
  (if(0:Int)≤t11∧t11<(t9.length:Int)then(
  (bR (AL,AE,()) ((t9.getD (t11.toNat) ([],false,0,())).1,(t9.getD (t11.toNat) ([],false,0,())).2.1,(t9.getD (t11.toNat) ([],false,0,())).2.2.1,())).bind fun u1=>
  cond (!u1.1.1)
   (some ((false,()),()))
  (cond (((t9.getD (t11.toNat) ([],false,0,())).2.1))
   (cond (t11==(AS ((BB.length:Int)-1)))
    (some ((false,()),()))
   (cond (decide (t11>0))
    (if(0:Int)≤AS (t11-1)∧AS (t11-1)<(BB.length:Int)then(
    cond (!((BB.getD ((AS (t11-1)).toNat) ([],false,0,())).2.1))
     (some ((false,()),()))
    (R2 t9 t10 (AS (t11+1)) AL AE BB Ap))else none)
   (R2 t9 t10 (AS (t11+1)) AL AE BB Ap)))
  (R2 t9 t10 (AS (t11+1)) AL AE BB Ap)))else none)
 (cond (Ap==0)
  ((Es (AL,AE,())).bind fun u5=>
  cond (u5.1.1)
   (cond ((decide ((BB.length:Int)≤30)))
    (some ((true,()),()))
   (some ((false,()),())))
  (some ((false,()),())))
 ((E4 Ap).bind fun u7=>
 (Ay u7.1.1 1 (BB.length:Int)).bind fun u8=>
 (Es (AL,AE,())).bind fun u9=>
 cond (u9.1.1)
  (cond ((decide ((BB.length:Int)≤30)))
   (some ((u8.1.1,()),()))
  (some ((false,()),())))
 (some ((false,()),()))))
def Kz:Nat→ZC
 |0=>fun _ _ _ _ _ _ _=>none
 |n+1=>T2 (Kz n)
def aA(R2:ZC)(p0:AAq)(p1:AA5):Option SY:=
 R2 p1.1 (p1.1.length:Int) 0 p0.1 p0.2.1 p1.1 p1.2.1
def Ks(p0:AAq)(p1:AA5):Option SY:=aA (Kz AY) p0 p1
abbrev oC:Type:=AA3×Unit
def au(p0:Bool):Option oC:=
 cond (p0)
  (some ((1,()),()))
 (some ((0,()),()))
abbrev Mm:Type:=AA1×Unit
abbrev TW:Type:=Int→AA4→Int→Int→List Int→Int→Int→AA4→Option Mm
def Vi(R3:TW)(t5:Int)(t9:AA4)(t10 t11:Int)(AL:AAM)(AE BB:Int)(Ap:AA4):Option Mm:=
 cond (decide (t11<t10))
  (if(0:Int)≤t11∧t11<(t9.length:Int)then(
  (F4 ((t9.getD (t11.toNat) ([],[],false,())).1)).bind fun u3=>
  cond (!u3.1.1)
   (some ((false,()),()))
  ((Du (AL,AE,()) ((t9.getD (t11.toNat) ([],[],false,())).2.1)).bind fun u4=>
  cond (!u4.1.1)
   (some ((false,()),()))
  ((GW (AL,AE,()) ((t9.getD (t11.toNat) ([],[],false,())).2.1)).bind fun u6=>
  cond (((t9.getD (t11.toNat) ([],[],false,())).2.2.1) !=u6.1.1)
   (some ((false,()),()))
  ((au (!((t9.getD (t11.toNat) ([],[],false,())).2.2.1))).bind fun u8=>
  R3 (AS (t5+u8.1.1)) t9 t10 (AS (t11+1)) AL AE BB Ap))))else none)
 ((Es (AL,AE,())).bind fun u9=>
 cond (u9.1.1)
  ((HZ BB).bind fun D1=>
  cond (D1.1.1)
   (cond ((decide ((Ap.length:Int)≤60)))
    (some ((decide (t5≤6),()),()))
   (some ((false,()),())))
  (some ((false,()),())))
 (some ((false,()),())))
def L2:Nat→TW
 |0=>fun _ _ _ _ _ _ _ _=>none
 |n+1=>Vi (L2 n)
def Vb(R3:TW)(p0:AAq)(p1:AA8):Option Mm:=
 R3 0 p1.2.1 (p1.2.1.length:Int) 0 p0.1 p0.2.1 p1.1 p1.2.1
def GN(p0:AAq)(p1:AA8):Option Mm:=Vb (L2 AY) p0 p1
abbrev cx:Type:=AA1×Unit
def Jk(p0:AA2)(p1:Int):Option cx:=
 (Ay p1 1 (p0.2.2.2.2.1.length:Int)).bind fun u2=>
 some ((u2.1.1,()),())
abbrev Ia:Type:=AA1×Unit
abbrev LQ:Type:=AA2→AAc→Int→Int→Option Ia
def JL(R2:LQ)(t0:AA2)(t8:AAc)(t9 t10:Int):Option Ia:=
 cond (decide (t10<t9))
  (if(0:Int)≤t10∧t10<(t8.length:Int)then(
  (GN (t0.1,t0.2.1,()) ((t8.getD (t10.toNat) (0,[],())).1,(t8.getD (t10.toNat) (0,[],())).2.1,())).bind fun u2=>
  cond (!u2.1.1)
   (some ((false,()),()))
  ((Jk t0 ((t8.getD (t10.toNat) (0,[],())).1)).bind fun u4=>
  cond (!u4.1.1)
   (some ((false,()),()))
  (cond (decide (t10>0))
   (if(0:Int)≤AS (t10-1)∧AS (t10-1)<(t0.2.2.2.2.2.2.1.length:Int)then(
   cond (decide (((t0.2.2.2.2.2.2.1.getD ((AS (t10-1)).toNat) (0,[],())).1)≥((t8.getD (t10.toNat) (0,[],())).1)))
    (some ((false,()),()))
   (R2 t0 t8 t9 (AS (t10+1))))else none)
  (R2 t0 t8 t9 (AS (t10+1))))))else none)
 (some ((decide ((t0.2.2.2.2.2.2.1.length:Int)≤4),()),()))
def ET:Nat→LQ
 |0=>fun _ _ _ _=>none
 |n+1=>JL (ET n)
def OO(R2:LQ)(p0:AA2):Option Ia:=
 R2 p0 p0.2.2.2.2.2.2.1 (p0.2.2.2.2.2.2.1.length:Int) 0
def KJ(p0:AA2):Option Ia:=OO (ET AY) p0
abbrev tJ:Type:=AA3×Unit
def Th(p0:Int):Option tJ:=
 (Ds p0).bind fun u1=>
 cond (!u1.1.1)
  (some ((0,()),()))
 (some ((p0.tmod 4294967296,()),()))
abbrev nn:Type:=AA3×Unit
def SI(p0:AAy):Option nn:=
 cond ((p0.2.2.2.1.length:Int)==0)
  (some ((0,()),()))
 (let x2:Int:=(p0.2.2.2.1.length:Int)
 if(0:Int)≤AS (x2-1)∧AS (x2-1)<(p0.2.2.2.1.length:Int)then(
 (Th ((p0.2.2.2.1.getD ((AS (x2-1)).toNat) (0,0,false,[],())).1)).bind fun u4=>
 some ((u4.1.1,()),()))else none)
abbrev UD:Type:=AA1×Unit
abbrev W7:Type:=AAR→Int→Int→Int→Int→List Int→AAR→Bool→List AAM→Option UD
def SK(R2:W7)(t6:AAR)(t7 t8 AL AE:Int)(Ab:AAM)(DI:AAR)(EJ:Bool)(AZ:List AAM):Option UD:=
 cond (decide (t8<t7))
  (if(0:Int)≤t8∧t8<(t6.length:Int)then(
  (Mh ((t6.getD (t8.toNat) (0,0,false,[],())).1,(t6.getD (t8.toNat) (0,0,false,[],())).2.1,(t6.getD (t8.toNat) (0,0,false,[],())).2.2.1,(t6.getD (t8.toNat) (0,0,false,[],())).2.2.2.1,())).bind fun u2=>
  cond (!u2.1.1)
   (some ((false,()),()))
  ((E4 ((t6.getD (t8.toNat) (0,0,false,[],())).1)).bind fun u4=>
  cond (u4.1.1 !=AE)
   (some ((false,()),()))
  (cond (decide (((t6.getD (t8.toNat) (0,0,false,[],())).2.1)≥AL))
   (some ((false,()),()))
  (R2 t6 t7 (AS (t8+1)) AL AE Ab DI EJ AZ))))else none)
 ((Kd DI).bind fun u6=>
 some ((u6.1.1,()),()))
def Lx:Nat→W7
 |0=>fun _ _ _ _ _ _ _ _ _=>none
 |n+1=>SK (Lx n)
def YG(R2:W7)(p0:AAy):Option UD:=
 R2 p0.2.2.2.1 (p0.2.2.2.1.length:Int) 0 p0.1 p0.2.1 p0.2.2.1 p0.2.2.2.1 p0.2.2.2.2.1 p0.2.2.2.2.2.1
def Ud(p0:AAy):Option UD:=YG (Lx AY) p0
abbrev UF:Type:=AA1×Unit
abbrev Xq:Type:=List AAM→Int→Int→List Int→Int→Int→Int→List Int→AAR→Bool→List AAM→Option UF
def Ro(R2:Xq)(t10:List AAM)(t11 t12:Int)(AL:AAM)(AE BB Ap:Int)(DE:AAM)(Gq:AAR)(Mi:Bool)(D2:List AAM):Option UF:=
 cond (decide (t12<t11))
  (if(0:Int)≤t12∧t12<(t10.length:Int)then(
  (Du (AL,AE,()) (t10.getD (t12.toNat) [])).bind fun u2=>
  cond (!u2.1.1)
   (some ((false,()),()))
  (R2 t10 t11 (AS (t12+1)) AL AE BB Ap DE Gq Mi D2))else none)
 (cond (Mi)
  ((SI (BB,Ap,DE,Gq,Mi,D2,())).bind fun u3=>
  (HZ Ap).bind fun u4=>
  cond (u4.1.1)
   ((Ay BB (AS (Ap+1)) 30).bind fun u5=>
   (Es (AL,AE,())).bind fun u6=>
   cond (u6.1.1)
    (cond (u5.1.1)
     ((Du (AL,AE,()) DE).bind fun u7=>
     cond (u7.1.1)
      ((Ud (BB,Ap,DE,Gq,Mi,D2,())).bind fun u8=>
      cond (u8.1.1)
       (some ((((D2.length:Int)==u3.1.1),()),()))
      (some ((false,()),())))
     (some ((false,()),())))
    (some ((false,()),())))
   (some ((false,()),())))
  ((Es (AL,AE,())).bind fun D1=>
  cond (D1.1.1)
   (some ((false,()),()))
  (some ((false,()),()))))
 ((HZ Ap).bind fun MO=>
 cond (MO.1.1)
  ((Ay BB (AS (Ap+1)) 30).bind fun Dz=>
  (Es (AL,AE,())).bind fun MK=>
  cond (MK.1.1)
   (cond (Dz.1.1)
    ((Du (AL,AE,()) DE).bind fun KP=>
    cond (KP.1.1)
     ((Ud (BB,Ap,DE,Gq,Mi,D2,())).bind fun tY=>
     cond (tY.1.1)
      (some ((((D2.length:Int)==0),()),()))
     (some ((false,()),())))
    (some ((false,()),())))
   (some ((false,()),())))
  (some ((false,()),())))
 ((Es (AL,AE,())).bind fun Xv=>
 cond (Xv.1.1)
  (some ((false,()),()))
 (some ((false,()),())))))
def Li:Nat→Xq
 |0=>fun _ _ _ _ _ _ _ _ _ _ _=>none
 |n+1=>Ro (Li n)
def Yn(R2:Xq)(p0:AAq)(p1:AAy):Option UF:=
 R2 p1.2.2.2.2.2.1 (p1.2.2.2.2.2.1.length:Int) 0 p0.1 p0.2.1 p1.1 p1.2.1 p1.2.2.1 p1.2.2.2.1 p1.2.2.2.2.1 p1.2.2.2.2.2.1
def Hu(p0:AAq)(p1:AAy):Option UF:=Yn (Li AY) p0 p1
abbrev Oy:Type:=AA3×Unit
abbrev Ru:Type:=AAN→Int→Int→Option Oy
def OY(R2:Ru)(t6:AAN)(t7 t8:Int):Option Oy:=
 cond (decide (t8<t7))
  (if(0:Int)≤t8∧t8<(t6.length:Int)then(
  cond (!((t6.getD (t8.toNat) ([],false,0,())).2.1))
   (some ((AS (t8+1),()),()))
  (R2 t6 t7 (AS (t8+1))))else none)
 (some ((0,()),()))
def IF:Nat→Ru
 |0=>fun _ _ _=>none
 |n+1=>OY (IF n)
def U_(R2:Ru)(p0:AA5):Option Oy:=
 R2 p0.1 (p0.1.length:Int) 0
def LP(p0:AA5):Option Oy:=U_ (IF AY) p0
abbrev Kc:Type:=AA1×Unit
abbrev NR:Type:=AA2→AAi→Int→Int→Option Kc
def Kr(R2:NR)(t0:AA2)(t8:AAi)(t9 t10:Int):Option Kc:=
 cond (decide (t10<t9))
  (if(0:Int)≤t10∧t10<(t8.length:Int)then(
  (Hu (t0.1,t0.2.1,()) ((t8.getD (t10.toNat) (0,0,[],[],false,[],())).1,(t8.getD (t10.toNat) (0,0,[],[],false,[],())).2.1,(t8.getD (t10.toNat) (0,0,[],[],false,[],())).2.2.1,(t8.getD (t10.toNat) (0,0,[],[],false,[],())).2.2.2.1,(t8.getD (t10.toNat) (0,0,[],[],false,[],())).2.2.2.2.1,(t8.getD (t10.toNat) (0,0,[],[],false,[],())).2.2.2.2.2.1,())).bind fun u2=>
  cond (!u2.1.1)
   (some ((false,()),()))
  (cond (((t8.getD (t10.toNat) (0,0,[],[],false,[],())).1) !=(t0.2.2.2.2.1.length:Int))
   (some ((false,()),()))
  ((LP (t0.2.2.2.2.1,t0.2.2.2.2.2.1,())).bind fun u6=>
  cond (((t8.getD (t10.toNat) (0,0,[],[],false,[],())).2.1) !=u6.1.1)
   (some ((false,()),()))
  (R2 t0 t8 t9 (AS (t10+1))))))else none)
 (some ((decide ((t0.2.2.2.2.2.2.2.1.length:Int)≤1),()),()))
def FO:Nat→NR
 |0=>fun _ _ _ _=>none
 |n+1=>Kr (FO n)
def Pr(R2:NR)(p0:AA2):Option Kc:=
 R2 p0 p0.2.2.2.2.2.2.2.1 (p0.2.2.2.2.2.2.2.1.length:Int) 0
def MT(p0:AA2):Option Kc:=Pr (FO AY) p0
abbrev mI:Type:=AA1×Unit
def UM(p0:AB6):Option mI:=
 (Ay p0.1 1 31).bind fun u1=>
 cond (u1.1.1)
  ((Ay p0.2.1 1 61).bind fun u2=>
  cond (u2.1.1)
   (some ((decide ((p0.2.2.1.length:Int)≤120),()),()))
  (some ((false,()),())))
 (some ((false,()),()))
abbrev Ib:Type:=AA1×Unit
abbrev Lq:Type:=AA2→AAn→Int→Int→Option Ib
def JK(R2:Lq)(t0:AA2)(t8:AAn)(t9 t10:Int):Option Ib:=
 cond (decide (t10<t9))
  (if(0:Int)≤t10∧t10<(t8.length:Int)then(
  (UM ((t8.getD (t10.toNat) (0,0,[],())).1,(t8.getD (t10.toNat) (0,0,[],())).2.1,(t8.getD (t10.toNat) (0,0,[],())).2.2.1,())).bind fun u2=>
  cond (!u2.1.1)
   (some ((false,()),()))
  (R2 t0 t8 t9 (AS (t10+1))))else none)
 (some (((t0.2.2.2.2.2.2.2.2.1.length:Int)==2,()),()))
def ES:Nat→Lq
 |0=>fun _ _ _ _=>none
 |n+1=>JK (ES n)
def Og(R2:Lq)(p0:AA2):Option Ib:=
 R2 p0 p0.2.2.2.2.2.2.2.2.1 (p0.2.2.2.2.2.2.2.2.1.length:Int) 0
def KU(p0:AA2):Option Ib:=Og (ES AY) p0
abbrev LA:Type:=AA1×Unit
abbrev OL:Type:=AA2→AAS→Int→Int→Option LA
def L1(R2:OL)(t0:AA2)(t8:AAS)(t9 t10:Int):Option LA:=
 cond (decide (t10<t9))
  (if(0:Int)≤t10∧t10<(t8.length:Int)then(
  (E4 ((t8.getD (t10.toNat) (0,[],false,())).1)).bind fun u3=>
  (Jk t0 u3.1.1).bind fun u4=>
  cond (!u4.1.1)
   (some ((false,()),()))
  ((F4 ((t8.getD (t10.toNat) (0,[],false,())).2.1)).bind fun u6=>
  cond (!u6.1.1)
   (some ((false,()),()))
  (cond (decide (t10>0))
   (if(0:Int)≤AS (t10-1)∧AS (t10-1)<(t0.2.2.2.2.2.2.2.2.2.1.length:Int)then(
   cond (decide (((t0.2.2.2.2.2.2.2.2.2.1.getD ((AS (t10-1)).toNat) (0,[],false,())).1)≥((t8.getD (t10.toNat) (0,[],false,())).1)))
    (some ((false,()),()))
   (R2 t0 t8 t9 (AS (t10+1))))else none)
  (R2 t0 t8 t9 (AS (t10+1))))))else none)
 (some ((decide ((t0.2.2.2.2.2.2.2.2.2.1.length:Int)≤120),()),()))
def GA:Nat→OL
 |0=>fun _ _ _ _=>none
 |n+1=>L1 (GA n)
def Qw(R2:OL)(p0:AA2):Option LA:=
 R2 p0 p0.2.2.2.2.2.2.2.2.2.1 (p0.2.2.2.2.2.2.2.2.2.1.length:Int) 0
def Nh(p0:AA2):Option LA:=Qw (GA AY) p0
abbrev pJ:Type:=AA1×Unit
def SL(p0:AA2):Option pJ:=
 (Es (p0.1,p0.2.1,())).bind fun u1=>
 cond (u1.1.1)
  ((LI (p0.1,p0.2.1,p0.2.2.1,p0.2.2.2.1,p0.2.2.2.2.1,p0.2.2.2.2.2.1,p0.2.2.2.2.2.2.1,p0.2.2.2.2.2.2.2.1,p0.2.2.2.2.2.2.2.2.1,p0.2.2.2.2.2.2.2.2.2.1,p0.2.2.2.2.2.2.2.2.2.2.1,())).bind fun u2=>
  cond (u2.1.1)
   ((Ks (p0.1,p0.2.1,()) (p0.2.2.2.2.1,p0.2.2.2.2.2.1,())).bind fun u3=>
   cond (u3.1.1)
    ((KJ (p0.1,p0.2.1,p0.2.2.1,p0.2.2.2.1,p0.2.2.2.2.1,p0.2.2.2.2.2.1,p0.2.2.2.2.2.2.1,p0.2.2.2.2.2.2.2.1,p0.2.2.2.2.2.2.2.2.1,p0.2.2.2.2.2.2.2.2.2.1,p0.2.2.2.2.2.2.2.2.2.2.1,())).bind fun u4=>
    cond (u4.1.1)
     ((MT (p0.1,p0.2.1,p0.2.2.1,p0.2.2.2.1,p0.2.2.2.2.1,p0.2.2.2.2.2.1,p0.2.2.2.2.2.2.1,p0.2.2.2.2.2.2.2.1,p0.2.2.2.2.2.2.2.2.1,p0.2.2.2.2.2.2.2.2.2.1,p0.2.2.2.2.2.2.2.2.2.2.1,())).bind fun u5=>
     cond (u5.1.1)
      ((KU (p0.1,p0.2.1,p0.2.2.1,p0.2.2.2.1,p0.2.2.2.2.1,p0.2.2.2.2.2.1,p0.2.2.2.2.2.2.1,p0.2.2.2.2.2.2.2.1,p0.2.2.2.2.2.2.2.2.1,p0.2.2.2.2.2.2.2.2.2.1,p0.2.2.2.2.2.2.2.2.2.2.1,())).bind fun u6=>
      cond (u6.1.1)
       ((Nh (p0.1,p0.2.1,p0.2.2.1,p0.2.2.2.1,p0.2.2.2.2.1,p0.2.2.2.2.2.1,p0.2.2.2.2.2.2.1,p0.2.2.2.2.2.2.2.1,p0.2.2.2.2.2.2.2.2.1,p0.2.2.2.2.2.2.2.2.2.1,p0.2.2.2.2.2.2.2.2.2.2.1,())).bind fun u7=>
       some ((u7.1.1,()),()))
      (some ((false,()),())))
     (some ((false,()),())))
    (some ((false,()),())))
   (some ((false,()),())))
  (some ((false,()),())))
 (some ((false,()),()))
abbrev ve:Type:=AA1×Unit
def B8(p0 p1 p2:Int):Option ve:=
 cond (decide (p0≥p1))
  (some ((decide (p0≤p2),()),()))
 (some ((false,()),()))
abbrev Pz:Type:=AA1×Unit
abbrev TU:Type:=Int→List Int→Int→Option Pz
def Vm(R4:TU)(t3:Int)(AL:AAM)(AE:Int):Option Pz:=
 cond ((decide (t3<(AL.length:Int))))
  (if(0:Int)≤t3∧t3<(AL.length:Int)then(
  (B8 (AL.getD (t3.toNat) 0) 0 7).bind fun u5=>
  cond (!u5.1.1)
   (some ((false,()),()))
  (R4 (AS (t3+1)) AL AE))else none)
 (some ((true,()),()))
def Lv:Nat→TU
 |0=>fun _ _ _=>none
 |n+1=>Vm (Lv n)
def Vn(R4:TU)(p0:AAq):Option Pz:=
 (B8 (p0.1.length:Int) 1 8).bind fun u1=>
 cond (!u1.1.1)
  (some ((false,()),()))
 ((B8 p0.2.1 1 4).bind fun u2=>
 cond (!u2.1.1)
  (some ((false,()),()))
 (R4 0 p0.1 p0.2.1))
def GP(p0:AAq):Option Pz:=Vn (Lv AY) p0
abbrev ot:Type:=AGJ×Unit
def af(p0:Int):Option ot:=
 cond (p0==8)
  (some (([],()),()))
 (cond (p0==10)
  (some (([],()),()))
 (cond (p0==12)
  (some (([],()),()))
 (cond (p0==2)
  (some (([65,84],()),()))
 (cond (p0==3)
  (some (([65,66,67],()),()))
 (cond (p0==5)
  (some (([65,66],()),()))
 (cond (p0==14)
  (some (([65,66],()),()))
 (cond (p0==11)
  (some (([66,67],()),()))
 (cond (p0==13)
  (some (([80],()),()))
 (some (([65],()),()))))))))))
abbrev Pp:Type:=AA1×Unit
abbrev XY:Type:=Int→Int→Int→Int→Int→Int→List UInt8→Int→Int→Int→Int→List UInt8→List Int→Option Pp
def DL(R4:XY)(t12 t13 AL AE Ab DI:Int)(EJ:AA7)(BB Ap DE Gq:Int)(Mi:AA7)(b2:AAM):Option Pp:=
 cond (decide (t13<t12))
  (if(0:Int)≤t13∧t13<(b2.length:Int)then(
  let x3:Int:=(b2.getD (t13.toNat) 0)
  cond (x3==65)
   (R4 t12 (AS (t13+1)) AL AE Ab DI EJ BB 0 DE Gq Mi b2)
  (cond (x3==80)
   (R4 t12 (AS (t13+1)) AL AE Ab DI EJ BB 0 DE Gq Mi b2)
  (cond (x3==66)
   (R4 t12 (AS (t13+1)) AL AE Ab DI EJ BB Ap 0 Gq Mi b2)
  (cond (x3==67)
   (R4 t12 (AS (t13+1)) AL AE Ab DI EJ BB Ap DE 0 Mi b2)
  (cond (x3==84)
   (R4 t12 (AS (t13+1)) AL AE Ab DI EJ BB Ap DE Gq [] b2)
  (R4 t12 (AS (t13+1)) AL AE Ab DI EJ BB Ap DE Gq Mi b2))))))else none)
 ((Ay AL 1 16).bind fun u4=>
 cond (u4.1.1)
  (cond (((BB==0)&&((Ap==0)&&((DE==0)&&((Gq==0)&&((Mi==[])&&true))))))
   ((F4 EJ).bind fun u6=>
   some ((u6.1.1,()),()))
  (some ((false,()),())))
 (some ((false,()),())))
def Db:Nat→XY
 |0=>fun _ _ _ _ _ _ _ _ _ _ _ _ _=>none
 |n+1=>DL (Db n)
def Yg(R4:XY)(p0:ABA):Option Pp:=
 (af p0.1).bind fun u1=>
 if u1.1.1.length≤DA then(
 let x2:AAM:=(u1.1.1.map fun c=>(c.toNat:Int))
 R4 (x2.length:Int) 0 p0.1 p0.2.1 p0.2.2.1 p0.2.2.2.1 p0.2.2.2.2.1 0 p0.2.1 p0.2.2.1 p0.2.2.2.1 p0.2.2.2.2.1 x2)else none
def YV(p0:ABA):Option Pp:=Yg (Db AY) p0
abbrev IW:Type:=ACt×ADV
abbrev OZ:Type:=AAN→Int→Int→Int→AAN→Int→AAN→Option IW
def RM(R3:OZ)(t10:AAN)(t11 t12 AE:Int)(b1:AAN)(Kw:Int)(b3:AAN):Option IW:=
 cond (decide (t12<t11))
  (if(0:Int)≤t12∧t12<(t10.length:Int)then(
  (DB ((t10.getD (t12.toNat) ([],false,0,())).1)).bind fun u1=>
  if b3.length+1≤DA then(
  R3 t10 t11 (AS (t12+1)) AE b1 Kw (b3++[(u1.2.1,(t10.getD (t12.toNat) ([],false,0,())).2.1,(t10.getD (t12.toNat) ([],false,0,())).2.2.1,())]))else none)else none)
 (some ((((),Kw,()),()),(b3,())))
def Hg:Nat→OZ
 |0=>fun _ _ _ _ _ _ _=>none
 |n+1=>RM (Hg n)
def RD(R3:OZ)(p0:AA5):Option IW:=
 R3 p0.1 (p0.1.length:Int) 0 0 [] p0.2.1 []
def EN(p0:AA5):Option IW:=RD (Hg AY) p0
abbrev gd:Type:=AA9×ADw
def JC(p0:AAR):Option gd:=
 if 0+p0.length≤DA then(
 some (((),()),(p0,())))else none
abbrev ka:Type:=ADu×ACu
def C8(p0:AA6):Option ka:=
 (JC p0.1).bind fun u1=>
 (JC p0.2.1).bind fun u2=>
 some ((((),(),p0.2.2.1,()),()),(u1.2.1,u2.2.1,()))
abbrev Kb:Type:=ADx×ADr
abbrev QU:Type:=AA4→Int→Int→Int→AA4→Int→AA4→Option Kb
def TH(R3:QU)(t10:AA4)(t11 t12 AL:Int)(b1:AA4)(Im:Int)(b3:AA4):Option Kb:=
 cond (decide (t12<t11))
  (if(0:Int)≤t12∧t12<(t10.length:Int)then(
  (DB ((t10.getD (t12.toNat) ([],[],false,())).2.1)).bind fun u2=>
  if b3.length+1≤DA then(
  R3 t10 t11 (AS (t12+1)) AL b1 Im (b3++[((t10.getD (t12.toNat) ([],[],false,())).1,u2.2.1,(t10.getD (t12.toNat) ([],[],false,())).2.2.1,())]))else none)else none)
 (some (((Im,(),()),()),(b3,())))
def JP:Nat→QU
 |0=>fun _ _ _ _ _ _ _=>none
 |n+1=>TH (JP n)
def S9(R3:QU)(p0:AA8):Option Kb:=
 R3 p0.2.1 (p0.2.1.length:Int) 0 0 [] p0.1 []
def Fe(p0:AA8):Option Kb:=S9 (JP AY) p0
abbrev QB:Type:=ADs×ACw
abbrev Tz:Type:=List AAM→Int→Int→Int→Int→Bool→List Int→AAR→List AAM→Int→Int→Bool→List Int→AAR→List AAM→Option QB
def Va(R4:Tz)(t17:List AAM)(t18 t19 AL AE:Int)(EJ:Bool)(b1:AAM)(b2:AAR)(b3:List AAM)(ie fA:Int)(ur:Bool)(b5:AAM)(b6:AAR)(b7:List AAM):Option QB:=
 cond (decide (t19<t18))
  (if(0:Int)≤t19∧t19<(t17.length:Int)then(
  (DB (t17.getD (t19.toNat) [])).bind fun u4=>
  if b7.length+1≤DA then(
  R4 t17 t18 (AS (t19+1)) AL AE EJ b1 b2 b3 ie fA ur b5 b6 (b7++[u4.2.1]))else none)else none)
 (some (((ie,fA,(),(),ur,(),()),()),(b5,b6,b7,())))
def Lg:Nat→Tz
 |0=>fun _ _ _ _ _ _ _ _ _ _ _ _ _ _ _=>none
 |n+1=>Va (Lg n)
def Vv(R4:Tz)(p0:AAy):Option QB:=
 (DB p0.2.2.1).bind fun u1=>
 (JC p0.2.2.2.1).bind fun u2=>
 R4 p0.2.2.2.2.2.1 (p0.2.2.2.2.2.1.length:Int) 0 0 0 false [] [] [] p0.1 p0.2.1 p0.2.2.2.2.1 u1.2.1 u2.2.1 []
def GM(p0:AAy):Option QB:=Vv (Lg AY) p0
abbrev gx:Type:=ADy×ADz
def Mo(p0:AB6):Option gx:=
 if 0+p0.2.2.1.length≤DA then(
 some (((p0.1,p0.2.1,(),()),()),(p0.2.2.1,())))else none
abbrev EB:Type:=AD0×ACZ
abbrev H5:Type:=AAO→Int→Int→List Int→Int→AAO→List Int→AAN→Int→AAc→AAi→AAn→AAS→Bool→Int→Int→Bool→List Int→AAO→List Int→AAN→AAc→AAi→AAn→AAS→Int→Int→Bool→List Int→AAO→List Int→AAN→AAc→AAi→AAn→AAS→Option EB
abbrev IB:Type:=AAc→Int→Int→List Int→Int→AAO→List Int→AAN→Int→AAc→AAi→AAn→AAS→Bool→Int→Int→Bool→List Int→AAO→List Int→AAN→AAc→AAi→AAn→AAS→Int→Int→Bool→List Int→AAO→List Int→AAN→AAc→AAi→AAn→AAS→Option EB
abbrev HU:Type:=AAi→Int→Int→List Int→Int→AAO→List Int→AAN→Int→AAc→AAi→AAn→AAS→Bool→Int→Int→Bool→List Int→AAO→List Int→AAN→AAc→AAi→AAn→AAS→Int→Int→Bool→List Int→AAO→List Int→AAN→AAc→AAi→AAn→AAS→Option EB
abbrev HJ:Type:=AAn→Int→Int→List Int→Int→AAO→List Int→AAN→Int→AAc→AAi→AAn→AAS→Bool→Int→Int→Bool→List Int→AAO→List Int→AAN→AAc→AAi→AAn→AAS→Int→Int→Bool→List Int→AAO→List Int→AAN→AAc→AAi→AAn→AAS→Option EB
def Uz(R3:H5)(R8:IB)(R13:HU)(R18:HJ)(t25:AAO)(t26 t27:Int)(AL:AAM)(AE:Int)(Ab:AAO)(DI:AAM)(EJ:AAN)(AZ:Int)(EE:AAc)(D3:AAi)(Fv:AAn)(GJ:AAS)(AM:Bool)(Ap D2:Int)(Ew:Bool)(b2:AAM)(b3:AAO)(b4:AAM)(b5:AAN)(b6:AAc)(b7:AAi)(b8:AAn)(b9:AAS)(Dd EV:Int)(Cy:Bool)(Fc:AAM)(DX:AAO)(GI:AAM)(GH:AAN)(Dy:AAc)(EP:AAi)(FD:AAn)(VA:AAS):Option EB:=
 cond (decide (t27<t26))
  (if(0:Int)≤t27∧t27<(t25.length:Int)then(
  (C8 ((t25.getD (t27.toNat) ([],[],0,())).1,(t25.getD (t27.toNat) ([],[],0,())).2.1,(t25.getD (t27.toNat) ([],[],0,())).2.2.1,())).bind fun tY=>
  if DX.length+1≤DA then(
  R3 t25 t26 (AS (t27+1)) AL AE Ab DI EJ AZ EE D3 Fv GJ AM Ap D2 Ew b2 b3 b4 b5 b6 b7 b8 b9 Dd EV Cy Fc (DX++[(tY.2.1,tY.2.2.1,tY.1.1.2.2.1,())]) GI GH Dy EP FD VA)else none)else none)
 (R8 EE (EE.length:Int) 0 AL AE Ab DI EJ AZ EE D3 Fv GJ AM Ap D2 Ew b2 b3 b4 b5 b6 b7 b8 b9 Dd EV Cy Fc DX GI GH Dy EP FD VA)
def Ua(R3:H5)(R8:IB)(R13:HU)(R18:HJ)(t40:AAc)(t41 t42:Int)(AL:AAM)(AE:Int)(Ab:AAO)(DI:AAM)(EJ:AAN)(AZ:Int)(EE:AAc)(D3:AAi)(Fv:AAn)(GJ:AAS)(AM:Bool)(Ap D2:Int)(Ew:Bool)(b2:AAM)(b3:AAO)(b4:AAM)(b5:AAN)(b6:AAc)(b7:AAi)(b8:AAn)(b9:AAS)(Dd EV:Int)(Cy:Bool)(Fc:AAM)(DX:AAO)(GI:AAM)(GH:AAN)(Dy:AAc)(EP:AAi)(FD:AAn)(VA:AAS):Option EB:=
 cond (decide (t42<t41))
  (if(0:Int)≤t42∧t42<(t40.length:Int)then(
  (Fe ((t40.getD (t42.toNat) (0,[],())).1,(t40.getD (t42.toNat) (0,[],())).2.1,())).bind fun L9=>
  if Dy.length+1≤DA then(
  R8 t40 t41 (AS (t42+1)) AL AE Ab DI EJ AZ EE D3 Fv GJ AM Ap D2 Ew b2 b3 b4 b5 b6 b7 b8 b9 Dd EV Cy Fc DX GI GH (Dy++[(L9.1.1.1,L9.2.1,())]) EP FD VA)else none)else none)
 (R13 D3 (D3.length:Int) 0 AL AE Ab DI EJ AZ EE D3 Fv GJ AM Ap D2 Ew b2 b3 b4 b5 b6 b7 b8 b9 Dd EV Cy Fc DX GI GH Dy EP FD VA)
def TE(R3:H5)(R8:IB)(R13:HU)(R18:HJ)(t55:AAi)(t56 t57:Int)(AL:AAM)(AE:Int)(Ab:AAO)(DI:AAM)(EJ:AAN)(AZ:Int)(EE:AAc)(D3:AAi)(Fv:AAn)(GJ:AAS)(AM:Bool)(Ap D2:Int)(Ew:Bool)(b2:AAM)(b3:AAO)(b4:AAM)(b5:AAN)(b6:AAc)(b7:AAi)(b8:AAn)(b9:AAS)(Dd EV:Int)(Cy:Bool)(Fc:AAM)(DX:AAO)(GI:AAM)(GH:AAN)(Dy:AAc)(EP:AAi)(FD:AAn)(VA:AAS):Option EB:=
 cond (decide (t57<t56))
  (if(0:Int)≤t57∧t57<(t55.length:Int)then(
  (GM ((t55.getD (t57.toNat) (0,0,[],[],false,[],())).1,(t55.getD (t57.toNat) (0,0,[],[],false,[],())).2.1,(t55.getD (t57.toNat) (0,0,[],[],false,[],())).2.2.1,(t55.getD (t57.toNat) (0,0,[],[],false,[],())).2.2.2.1,(t55.getD (t57.toNat) (0,0,[],[],false,[],())).2.2.2.2.1,(t55.getD (t57.toNat) (0,0,[],[],false,[],())).2.2.2.2.2.1,())).bind fun aR=>
  if EP.length+1≤DA then(
  R13 t55 t56 (AS (t57+1)) AL AE Ab DI EJ AZ EE D3 Fv GJ AM Ap D2 Ew b2 b3 b4 b5 b6 b7 b8 b9 Dd EV Cy Fc DX GI GH Dy (EP++[(aR.1.1.1,aR.1.1.2.1,aR.2.1,aR.2.2.1,aR.1.1.2.2.2.2.1,aR.2.2.2.1,())]) FD VA)else none)else none)
 (R18 Fv (Fv.length:Int) 0 AL AE Ab DI EJ AZ EE D3 Fv GJ AM Ap D2 Ew b2 b3 b4 b5 b6 b7 b8 b9 Dd EV Cy Fc DX GI GH Dy EP FD VA)
def S2(R3:H5)(R8:IB)(R13:HU)(R18:HJ)(t70:AAn)(t71 t72:Int)(AL:AAM)(AE:Int)(Ab:AAO)(DI:AAM)(EJ:AAN)(AZ:Int)(EE:AAc)(D3:AAi)(Fv:AAn)(GJ:AAS)(AM:Bool)(Ap D2:Int)(Ew:Bool)(b2:AAM)(b3:AAO)(b4:AAM)(b5:AAN)(b6:AAc)(b7:AAi)(b8:AAn)(b9:AAS)(Dd EV:Int)(Cy:Bool)(Fc:AAM)(DX:AAO)(GI:AAM)(GH:AAN)(Dy:AAc)(EP:AAi)(FD:AAn)(VA:AAS):Option EB:=
 cond (decide (t72<t71))
  (if(0:Int)≤t72∧t72<(t70.length:Int)then(
  (Mo ((t70.getD (t72.toNat) (0,0,[],())).1,(t70.getD (t72.toNat) (0,0,[],())).2.1,(t70.getD (t72.toNat) (0,0,[],())).2.2.1,())).bind fun lu=>
  if FD.length+1≤DA then(
  R18 t70 t71 (AS (t72+1)) AL AE Ab DI EJ AZ EE D3 Fv GJ AM Ap D2 Ew b2 b3 b4 b5 b6 b7 b8 b9 Dd EV Cy Fc DX GI GH Dy EP (FD++[(lu.1.1.1,lu.1.1.2.1,lu.2.1,())]) VA)else none)else none)
 (if 0+GJ.length≤DA then(
 some ((((),Dd,(),(),(),EV,(),(),(),(),Cy,()),()),(Fc,DX,GI,GH,Dy,EP,FD,GJ,())))else none)
mutual
def FK:Nat→H5
 |0=>fun _ _ _ _ _ _ _ _ _ _ _ _ _ _ _ _ _ _ _ _ _ _ _ _ _ _ _ _ _ _ _ _ _ _ _ _=>none
 |n+1=>Uz (FK n) (FJ n) (Ee n) (Er n)
def FJ:Nat→IB
 |0=>fun _ _ _ _ _ _ _ _ _ _ _ _ _ _ _ _ _ _ _ _ _ _ _ _ _ _ _ _ _ _ _ _ _ _ _ _=>none
 |n+1=>Ua (FK n) (FJ n) (Ee n) (Er n)
def Ee:Nat→HU
 |0=>fun _ _ _ _ _ _ _ _ _ _ _ _ _ _ _ _ _ _ _ _ _ _ _ _ _ _ _ _ _ _ _ _ _ _ _ _=>none
 |n+1=>TE (FK n) (FJ n) (Ee n) (Er n)
def Er:Nat→HJ
 |0=>fun _ _ _ _ _ _ _ _ _ _ _ _ _ _ _ _ _ _ _ _ _ _ _ _ _ _ _ _ _ _ _ _ _ _ _ _=>none
 |n+1=>S2 (FK n) (FJ n) (Ee n) (Er n)
end
def U8(R3:H5)(R8:IB)(R13:HU)(R18:HJ)(p0:AA2):Option EB:=
 (QK (p0.1,p0.2.1,())).bind fun u2=>
 (DB p0.2.2.2.1).bind fun u3=>
 (EN (p0.2.2.2.2.1,p0.2.2.2.2.2.1,())).bind fun u4=>
 R3 p0.2.2.1 (p0.2.2.1.length:Int) 0 p0.1 p0.2.1 p0.2.2.1 p0.2.2.2.1 p0.2.2.2.2.1 p0.2.2.2.2.2.1 p0.2.2.2.2.2.2.1 p0.2.2.2.2.2.2.2.1 p0.2.2.2.2.2.2.2.2.1 p0.2.2.2.2.2.2.2.2.2.1 p0.2.2.2.2.2.2.2.2.2.2.1 0 0 false [] [] [] [] [] [] [] [] u2.1.1.2.1 u4.1.1.2.1 p0.2.2.2.2.2.2.2.2.2.2.1 u2.2.1 [] u3.2.1 u4.2.1 [] [] [] []
def Lb(p0:AA2):Option EB:=U8 (FK AY) (FJ AY) (Ee AY) (Er AY) p0
abbrev Lj:Type:=ADv×Unit
def Dg(p0 p1:Int):Option Lj:=
 (HZ p0).bind fun u1=>
 cond (!u1.1.1)
  (some (((0,false,()),()),()))
 ((Wg p1).bind fun u2=>
 cond (!u2.1.1)
  (some (((0,false,()),()),()))
 (some (((AS ((AS (4294967296*p0))+p1),true,()),()),())))
abbrev HT:Type:=AA9×AA_
abbrev Rw:Type:=Int→Int→List Int→Option HT
def U7(R5:Rw)(t0 t10:Int)(b0:AAM):Option HT:=
 cond (decide (t10<8))
  (if t10<0 then none else(
  cond (((cQ .i64 (t0.fdiv (2^(min t10.toNat 64))) 1)==1))
   (if b0.length+1≤DA then(
   R5 t0 (AS (t10+1)) (b0++[t10]))else none)
  (R5 t0 (AS (t10+1)) b0)))
 (some (((),()),(b0,())))
def KX:Nat→Rw
 |0=>fun _ _ _=>none
 |n+1=>U7 (KX n)
def U0(R5:Rw)(p0:Int):Option HT:=
 (Ay p0 0 255).bind fun u1=>
 cond (!u1.1.1)
  (some (((),()),([],())))
 (R5 p0 0 [])
def Hl(p0:Int):Option HT:=U0 (KX AY) p0
abbrev jt:Type:=AA3×Unit
def RZ(p0:ABk)(p1:Int):Option jt:=
 cond (decide (p0.1<p1))
  (some (((-1),()),()))
 (cond (decide (p0.1>p1))
  (some ((1,()),()))
 (some ((0,()),())))
abbrev BN:Type:=ADv×Unit
abbrev Bp:Type:=AAR→Int→Int→Int→Int→Option BN
def Cn(R3:Bp)(t0:AAR)(t1 t8 t9 t10:Int):Option BN:=
 cond (decide (t9<t10))
  (let x2:Int:=AS ((IntKind.wrap .u64 (AS (t9+t10))).fdiv (2^1))
  if(0:Int)≤x2∧x2<(t0.length:Int)then(
  (RZ ((t0.getD (x2.toNat) (0,0,false,[],())).1,(t0.getD (x2.toNat) (0,0,false,[],())).2.1,(t0.getD (x2.toNat) (0,0,false,[],())).2.2.1,(t0.getD (x2.toNat) (0,0,false,[],())).2.2.2.1,()) t1).bind fun u3=>
  cond (decide (u3.1.1<0))
   (R3 t0 t1 t8 (AS (x2+1)) t10)
  (R3 t0 t1 t8 t9 x2))else none)
 (cond (decide (t9<t8))
  (if(0:Int)≤t9∧t9<(t0.length:Int)then(
  (RZ ((t0.getD (t9.toNat) (0,0,false,[],())).1,(t0.getD (t9.toNat) (0,0,false,[],())).2.1,(t0.getD (t9.toNat) (0,0,false,[],())).2.2.1,(t0.getD (t9.toNat) (0,0,false,[],())).2.2.2.1,()) t1).bind fun u4=>
  some (((t9,u4.1.1==0,()),()),()))else none)
 (some (((t9,false,()),()),())))
def Av:Nat→Bp
 |0=>fun _ _ _ _ _=>none
 |n+1=>Cn (Av n)
def Cm(R3:Bp)(p0:AAR)(p1:Int):Option BN:=
 R3 p0 p1 (p0.length:Int) 0 (p0.length:Int)
def B3(p0:AAR)(p1:Int):Option BN:=Cm (Av AY) p0 p1
abbrev nz:Type:=ADv×Unit
def Rv(p0:AAR)(p1:Int):Option nz:=
 (B3 p0 p1).bind fun u1=>
 some (((u1.1.1.1,u1.1.1.2.1,()),()),())
abbrev My:Type:=AD1×Unit
def GL(p0:AA6)(p1:Int):Option My:=
 (E7 (p0.1,p0.2.1,p0.2.2.1,())).bind fun u1=>
 cond (!u1.1.1)
  (some ((((0,0,false,[],()),false,()),()),()))
 ((Rv p0.1 p1).bind fun u2=>
 cond (!u2.1.1.2.1)
  (some ((((0,0,false,[],()),false,()),()),()))
 (if(0:Int)≤u2.1.1.1∧u2.1.1.1<(p0.1.length:Int)then(
 some (((((p0.1.getD (u2.1.1.1.toNat) (0,0,false,[],())).1,(p0.1.getD (u2.1.1.1.toNat) (0,0,false,[],())).2.1,(p0.1.getD (u2.1.1.1.toNat) (0,0,false,[],())).2.2.1,(p0.1.getD (u2.1.1.1.toNat) (0,0,false,[],())).2.2.2.1,()),true,()),()),()))else none))
abbrev Nu:Type:=AA3×Unit
abbrev QR:Type:=AA4→Int→Int→Int→AA4→Option Nu
def S5(R2:QR)(t6:AA4)(t7 t8 AL:Int)(AE:AA4):Option Nu:=
 cond (decide (t8<t7))
  (if(0:Int)≤t8∧t8<(t6.length:Int)then(
  cond (!((t6.getD (t8.toNat) ([],[],false,())).2.2.1))
   (some ((t8,()),()))
  (R2 t6 t7 (AS (t8+1)) AL AE))else none)
 (some (((AE.length:Int),()),()))
def Jd:Nat→QR
 |0=>fun _ _ _ _ _=>none
 |n+1=>S5 (Jd n)
def S3(R2:QR)(p0:AA8):Option Nu:=
 R2 p0.2.1 (p0.2.1.length:Int) 0 p0.1 p0.2.1
def P5(p0:AA8):Option Nu:=S3 (Jd AY) p0
abbrev NI:Type:=AA3×Unit
abbrev Xn:Type:=Int→AAc→Int→Int→Option NI
def YB(R2:Xn)(t1:Int)(t8:AAc)(t9 t10:Int):Option NI:=
 cond (decide (t10<t9))
  (if(0:Int)≤t10∧t10<(t8.length:Int)then(
  cond (((t8.getD (t10.toNat) (0,[],())).1)==t1)
   ((P5 ((t8.getD (t10.toNat) (0,[],())).1,(t8.getD (t10.toNat) (0,[],())).2.1,())).bind fun u3=>
   some ((u3.1.1,()),()))
  (R2 t1 t8 t9 (AS (t10+1))))else none)
 (some ((0,()),()))
def N9:Nat→Xn
 |0=>fun _ _ _ _=>none
 |n+1=>YB (N9 n)
def Yi(R2:Xn)(p0:AA2)(p1:Int):Option NI:=
 R2 p1 p0.2.2.2.2.2.2.1 (p0.2.2.2.2.2.2.1.length:Int) 0
def Qv(p0:AA2)(p1:Int):Option NI:=Yi (N9 AY) p0 p1
abbrev Sp:Type:=AA9×AA_
abbrev VK:Type:=ABB→Int→Int→List Int→Option Sp
def Wh(R3:VK)(t7:ABB)(t8 t9:Int)(b0:AAM):Option Sp:=
 cond (decide (t9<t8))
  (if(0:Int)≤t9∧t9<(t7.length:Int)then(
  if b0.length+1≤DA then(
  R3 t7 t8 (AS (t9+1)) (b0++[((t7.getD (t9.toNat) (0,false,0,0,false,[],())).1)]))else none)else none)
 (some (((),()),(b0,())))
def Mq:Nat→VK
 |0=>fun _ _ _ _=>none
 |n+1=>Wh (Mq n)
def Wv(R3:VK)(p0:ABB):Option Sp:=
 R3 p0 (p0.length:Int) 0 []
def O7(p0:ABB):Option Sp:=Wv (Mq AY) p0
abbrev pP:Type:=AA1×Unit
def WV(p0:Int)(p1:AB6):Option pP:=
 (E4 p0).bind fun u1=>
 cond ((decide (u1.1.1<p1.1)))
  (some ((true,()),()))
 (cond (u1.1.1==p1.1)
  ((Th p0).bind fun u3=>
  some (((decide (u3.1.1<p1.2.1)),()),()))
 (some ((false,()),())))
abbrev gT:Type:=AA9×AJM
def E6(p1:AD2)(AL AE:Int)(b1:ACn):Option gT:=
 if b1.length+1≤DA then(
 some (((()),()),((AL,AE,(),()),(),(b1++[(p1.1,p1.2.1,p1.2.2.1,())]),())))else none
abbrev YN:Type:=AA9×AA_
abbrev aV:Type:=List Int→List Int→Int→Int→List Int→Option YN
def cA(R5:aV)(t2 t22:AAM)(t23 t24:Int)(b0:AAM):Option YN:=
 cond (decide (t24<t23))
  (if(0:Int)≤t24∧t24<(t22.length:Int)then(
  let x3:Int:=(t22.getD (t24.toNat) 0)
  (Bg t2 x3).bind fun u4=>
  cond (!u4.1.1)
   (if b0.length+1≤DA then(
   R5 t2 t22 t23 (AS (t24+1)) (b0++[x3]))else none)
  (R5 t2 t22 t23 (AS (t24+1)) b0))else none)
 (some (((),()),(b0,())))
def RY:Nat→aV
 |0=>fun _ _ _ _ _=>none
 |n+1=>cA (RY n)
def bm(R5:aV)(p0:AAq)(p1 p2:AAM):Option YN:=
 (Du (p0.1,p0.2.1,()) p1).bind fun u1=>
 cond (!u1.1.1)
  (some (((),()),([],())))
 ((Du (p0.1,p0.2.1,()) p2).bind fun u2=>
 cond (!u2.1.1)
  (some (((),()),([],())))
 (R5 p2 p1 (p1.length:Int) 0 []))
def eM(p0:AAq)(p1 p2:AAM):Option YN:=bm (RY AY) p0 p1 p2
abbrev qt:Type:=AA1×Unit
def G1(p0:AAq)(p1 p2:AAM):Option qt:=
 (Du (p0.1,p0.2.1,()) p2).bind fun u1=>
 cond (!u1.1.1)
  (some ((false,()),()))
 ((GW (p0.1,p0.2.1,()) p1).bind fun u2=>
 cond (!u2.1.1)
  (some ((false,()),()))
 ((M7 p2 p1).bind fun u3=>
 cond (((u3.2.1.length:Int) !=(p2.length:Int)))
  (some ((false,()),()))
 ((eM (p0.1,p0.2.1,()) p1 p2).bind fun u6=>
 (GW (p0.1,p0.2.1,()) u6.2.1).bind fun u7=>
 some ((!u7.1.1,()),()))))
abbrev qn:Type:=AFH×Unit
def Q8(p0 p1:ABk):Option qn:=
 cond ((decide (p1.2.1>p0.2.1)))
  (some (((p1.1,p1.2.1,p1.2.2.1,p1.2.2.2.1,()),()),()))
 (some (((p0.1,p0.2.1,p0.2.2.1,p0.2.2.2.1,()),()),()))
abbrev UC:Type:=AD1×Unit
abbrev Xl:Type:=List Int→Int→Bool→ABB→Int→Int→Int→Int→Bool→List UInt8→Int→Int→Bool→List UInt8→Option UC
def Yb(R3:Xl)(t1:AAM)(t2:Int)(t9:Bool)(t13:ABB)(t14 t15 AL AE:Int)(Ab:Bool)(DI:AA7)(BB Ap:Int)(DE:Bool)(Gq:AA7):Option UC:=
 cond (decide (t15<t14))
  (if(0:Int)≤t15∧t15<(t13.length:Int)then(
  cond (!((t13.getD (t15.toNat) (0,false,0,0,false,[],())).2.1))
   (R3 t1 t2 t9 t13 t14 (AS (t15+1)) AL AE Ab DI BB Ap DE Gq)
  ((Bg t1 ((t13.getD (t15.toNat) (0,false,0,0,false,[],())).1)).bind fun u3=>
  cond (!u3.1.1)
   (R3 t1 t2 t9 t13 t14 (AS (t15+1)) AL AE Ab DI BB Ap DE Gq)
  ((Mh ((t13.getD (t15.toNat) (0,false,0,0,false,[],())).2.2.1,(t13.getD (t15.toNat) (0,false,0,0,false,[],())).2.2.2.1,(t13.getD (t15.toNat) (0,false,0,0,false,[],())).2.2.2.2.1,(t13.getD (t15.toNat) (0,false,0,0,false,[],())).2.2.2.2.2.1,())).bind fun u4=>
  cond (!u4.1.1)
   (R3 t1 t2 t9 t13 t14 (AS (t15+1)) AL AE Ab DI BB Ap DE Gq)
  (cond (((t13.getD (t15.toNat) (0,false,0,0,false,[],())).2.2.1) !=t2)
   (R3 t1 t2 t9 t13 t14 (AS (t15+1)) AL AE Ab DI BB Ap DE Gq)
  (cond (!t9)
   ((Q8 ((t13.getD (t15.toNat) (0,false,0,0,false,[],())).2.2.1,(t13.getD (t15.toNat) (0,false,0,0,false,[],())).2.2.2.1,(t13.getD (t15.toNat) (0,false,0,0,false,[],())).2.2.2.2.1,(t13.getD (t15.toNat) (0,false,0,0,false,[],())).2.2.2.2.2.1,()) ((t13.getD (t15.toNat) (0,false,0,0,false,[],())).2.2.1,(t13.getD (t15.toNat) (0,false,0,0,false,[],())).2.2.2.1,(t13.getD (t15.toNat) (0,false,0,0,false,[],())).2.2.2.2.1,(t13.getD (t15.toNat) (0,false,0,0,false,[],())).2.2.2.2.2.1,())).bind fun u6=>
   R3 t1 t2 true t13 t14 (AS (t15+1)) AL AE Ab DI u6.1.1.1 u6.1.1.2.1 u6.1.1.2.2.1 u6.1.1.2.2.2.1)
  ((Q8 (BB,Ap,DE,Gq,()) ((t13.getD (t15.toNat) (0,false,0,0,false,[],())).2.2.1,(t13.getD (t15.toNat) (0,false,0,0,false,[],())).2.2.2.1,(t13.getD (t15.toNat) (0,false,0,0,false,[],())).2.2.2.2.1,(t13.getD (t15.toNat) (0,false,0,0,false,[],())).2.2.2.2.2.1,())).bind fun u7=>
  R3 t1 t2 true t13 t14 (AS (t15+1)) AL AE Ab DI u7.1.1.1 u7.1.1.2.1 u7.1.1.2.2.1 u7.1.1.2.2.2.1))))))else none)
 (some ((((BB,Ap,DE,Gq,()),t9,()),()),()))
def OX:Nat→Xl
 |0=>fun _ _ _ _ _ _ _ _ _ _ _ _ _ _=>none
 |n+1=>Yb (OX n)
def Yh(R3:Xl)(p0:ABB)(p1:AAM)(p2:Int):Option UC:=
 R3 p1 p2 false p0 (p0.length:Int) 0 0 0 false [] 0 0 false []
def Yo(p0:ABB)(p1:AAM)(p2:Int):Option UC:=Yh (OX AY) p0 p1 p2
abbrev et:Type:=AA9×AJM
def C1(p1:ABB)(p2:AAM)(AL AE:Int)(b1:ACn):Option et:=
 (Dg AL AE).bind fun u1=>
 (Yo p1 p2 u1.1.1.1).bind fun u2=>
 cond (!u2.1.1.2.1)
  ((E6 (3,u1.1.1.1,[],()) AL AE b1).bind fun u3=>
  some (((()),()),((u3.2.1.1,AS (u3.2.1.2.1+1),(),()),(),u3.2.2.2.1,())))
 (cond (u2.1.1.1.2.2.1)
  ((E6 (2,u1.1.1.1,[],()) AL AE b1).bind fun u4=>
  some (((()),()),((u4.2.1.1,AS (u4.2.1.2.1+1),(),()),(),u4.2.2.2.1,())))
 ((E6 (1,u1.1.1.1,u2.1.1.1.2.2.2.1,()) AL AE b1).bind fun u5=>
 some (((()),()),((u5.2.1.1,AS (u5.2.1.2.1+1),(),()),(),u5.2.2.2.1,()))))
abbrev Ke:Type:=(AJO×Unit)×ADz
def J1(p0:AAq)(p1:AA5)(p2:Int)(p3:AB6)(p4:ABB):Option Ke:=
 (Ks (p0.1,p0.2.1,()) (p1.1,p1.2.1,())).bind fun u1=>
 cond (!u1.1.1)
  (some ((((0,0,(),()),1,()),()),([],())))
 ((UM (p3.1,p3.2.1,p3.2.2.1,())).bind fun u2=>
 cond (!u2.1.1)
  (some ((((0,0,(),()),1,()),()),([],())))
 ((O7 p4).bind fun u3=>
 (Du (p0.1,p0.2.1,()) u3.2.1).bind fun u4=>
 cond (!u4.1.1)
  (some ((((0,0,(),()),1,()),()),([],())))
 ((Mo (p3.1,p3.2.1,p3.2.2.1,())).bind fun u5=>
 cond ((decide (p3.1>(p1.1.length:Int))))
  (some ((((u5.1.1.1,u5.1.1.2.1,(),()),2,()),()),(u5.2.1,())))
 (cond ((p3.2.2.1.length:Int)==120)
  (some ((((u5.1.1.1,u5.1.1.2.1,(),()),2,()),()),(u5.2.1,())))
 (cond (decide (p1.2.1>0))
  ((WV p1.2.1 (p3.1,p3.2.1,p3.2.2.1,())).bind fun u8=>
  cond (!u8.1.1)
   ((E6 (5,p1.2.1,[],()) u5.1.1.1 u5.1.1.2.1 u5.2.1).bind fun u9=>
   (E4 p1.2.1).bind fun D1=>
   (Th p1.2.1).bind fun MO=>
   some ((((D1.1.1,AS (MO.1.1+1),(),()),0,()),()),(u9.2.2.2.1,())))
  (if(0:Int)≤AS (p3.1-1)∧AS (p3.1-1)<(p1.1.length:Int)then(
  (O7 p4).bind fun Dz=>
  (M7 Dz.2.1 ((p1.1.getD ((AS (p3.1-1)).toNat) ([],false,0,())).1)).bind fun MK=>
  cond (((p1.1.getD ((AS (p3.1-1)).toNat) ([],false,0,())).2.1))
   (cond ((decide (p3.2.1>((p1.1.getD ((AS (p3.1-1)).toNat) ([],false,0,())).2.2.1))))
    ((E6 (4,AS (p3.1+1),[],()) u5.1.1.1 u5.1.1.2.1 u5.2.1).bind fun Xv=>
    some ((((AS (p3.1+1),1,(),()),0,()),()),(Xv.2.2.2.1,())))
   (cond (!((p1.1.getD ((AS (p3.1-1)).toNat) ([],false,0,())).2.1))
    (cond (decide (p3.2.1>p2))
     (some ((((u5.1.1.1,u5.1.1.2.1,(),()),2,()),()),(u5.2.1,())))
    (cond (decide (p3.2.1>60))
     (some ((((u5.1.1.1,u5.1.1.2.1,(),()),2,()),()),(u5.2.1,())))
    ((G1 (p0.1,p0.2.1,()) ((p1.1.getD ((AS (p3.1-1)).toNat) ([],false,0,())).1) MK.2.1).bind fun fB=>
    cond (!fB.1.1)
     (some ((((u5.1.1.1,u5.1.1.2.1,(),()),3,()),()),(u5.2.1,())))
    ((C1 p4 MK.2.1 u5.1.1.1 u5.1.1.2.1 u5.2.1).bind fun L9=>
    some ((((L9.2.1.1,L9.2.1.2.1,(),()),0,()),()),(L9.2.2.2.1,()))))))
   (cond (decide (p3.2.1>60))
    (some ((((u5.1.1.1,u5.1.1.2.1,(),()),2,()),()),(u5.2.1,())))
   ((G1 (p0.1,p0.2.1,()) ((p1.1.getD ((AS (p3.1-1)).toNat) ([],false,0,())).1) MK.2.1).bind fun lA=>
   cond (!lA.1.1)
    (some ((((u5.1.1.1,u5.1.1.2.1,(),()),3,()),()),(u5.2.1,())))
   ((C1 p4 MK.2.1 u5.1.1.1 u5.1.1.2.1 u5.2.1).bind fun yp=>
   some ((((yp.2.1.1,yp.2.1.2.1,(),()),0,()),()),(yp.2.2.2.1,())))))))
  (cond (!((p1.1.getD ((AS (p3.1-1)).toNat) ([],false,0,())).2.1))
   (cond (decide (p3.2.1>p2))
    (some ((((u5.1.1.1,u5.1.1.2.1,(),()),2,()),()),(u5.2.1,())))
   (cond (decide (p3.2.1>60))
    (some ((((u5.1.1.1,u5.1.1.2.1,(),()),2,()),()),(u5.2.1,())))
   ((G1 (p0.1,p0.2.1,()) ((p1.1.getD ((AS (p3.1-1)).toNat) ([],false,0,())).1) MK.2.1).bind fun IZ=>
   cond (!IZ.1.1)
    (some ((((u5.1.1.1,u5.1.1.2.1,(),()),3,()),()),(u5.2.1,())))
   ((C1 p4 MK.2.1 u5.1.1.1 u5.1.1.2.1 u5.2.1).bind fun aR=>
   some ((((aR.2.1.1,aR.2.1.2.1,(),()),0,()),()),(aR.2.2.2.1,()))))))
  (cond (decide (p3.2.1>60))
   (some ((((u5.1.1.1,u5.1.1.2.1,(),()),2,()),()),(u5.2.1,())))
  ((G1 (p0.1,p0.2.1,()) ((p1.1.getD ((AS (p3.1-1)).toNat) ([],false,0,())).1) MK.2.1).bind fun fU=>
  cond (!fU.1.1)
   (some ((((u5.1.1.1,u5.1.1.2.1,(),()),3,()),()),(u5.2.1,())))
  ((C1 p4 MK.2.1 u5.1.1.1 u5.1.1.2.1 u5.2.1).bind fun fE=>
  some ((((fE.2.1.1,fE.2.1.2.1,(),()),0,()),()),(fE.2.2.2.1,())))))))else none))
 (if(0:Int)≤AS (p3.1-1)∧AS (p3.1-1)<(p1.1.length:Int)then(
 (O7 p4).bind fun Om=>
 (M7 Om.2.1 ((p1.1.getD ((AS (p3.1-1)).toNat) ([],false,0,())).1)).bind fun YH=>
 cond (((p1.1.getD ((AS (p3.1-1)).toNat) ([],false,0,())).2.1))
  (cond ((decide (p3.2.1>((p1.1.getD ((AS (p3.1-1)).toNat) ([],false,0,())).2.2.1))))
   ((E6 (4,AS (p3.1+1),[],()) u5.1.1.1 u5.1.1.2.1 u5.2.1).bind fun aN=>
   some ((((AS (p3.1+1),1,(),()),0,()),()),(aN.2.2.2.1,())))
  (cond (!((p1.1.getD ((AS (p3.1-1)).toNat) ([],false,0,())).2.1))
   (cond (decide (p3.2.1>p2))
    (some ((((u5.1.1.1,u5.1.1.2.1,(),()),2,()),()),(u5.2.1,())))
   (cond (decide (p3.2.1>60))
    (some ((((u5.1.1.1,u5.1.1.2.1,(),()),2,()),()),(u5.2.1,())))
   ((G1 (p0.1,p0.2.1,()) ((p1.1.getD ((AS (p3.1-1)).toNat) ([],false,0,())).1) YH.2.1).bind fun u35=>
   cond (!u35.1.1)
    (some ((((u5.1.1.1,u5.1.1.2.1,(),()),3,()),()),(u5.2.1,())))
   ((C1 p4 YH.2.1 u5.1.1.1 u5.1.1.2.1 u5.2.1).bind fun u36=>
   some ((((u36.2.1.1,u36.2.1.2.1,(),()),0,()),()),(u36.2.2.2.1,()))))))
  (cond (decide (p3.2.1>60))
   (some ((((u5.1.1.1,u5.1.1.2.1,(),()),2,()),()),(u5.2.1,())))
  ((G1 (p0.1,p0.2.1,()) ((p1.1.getD ((AS (p3.1-1)).toNat) ([],false,0,())).1) YH.2.1).bind fun lX=>
  cond (!lX.1.1)
   (some ((((u5.1.1.1,u5.1.1.2.1,(),()),3,()),()),(u5.2.1,())))
  ((C1 p4 YH.2.1 u5.1.1.1 u5.1.1.2.1 u5.2.1).bind fun u38=>
  some ((((u38.2.1.1,u38.2.1.2.1,(),()),0,()),()),(u38.2.2.2.1,())))))))
 (cond (!((p1.1.getD ((AS (p3.1-1)).toNat) ([],false,0,())).2.1))
  (cond (decide (p3.2.1>p2))
   (some ((((u5.1.1.1,u5.1.1.2.1,(),()),2,()),()),(u5.2.1,())))
  (cond (decide (p3.2.1>60))
   (some ((((u5.1.1.1,u5.1.1.2.1,(),()),2,()),()),(u5.2.1,())))
  ((G1 (p0.1,p0.2.1,()) ((p1.1.getD ((AS (p3.1-1)).toNat) ([],false,0,())).1) YH.2.1).bind fun u40=>
  cond (!u40.1.1)
   (some ((((u5.1.1.1,u5.1.1.2.1,(),()),3,()),()),(u5.2.1,())))
  ((C1 p4 YH.2.1 u5.1.1.1 u5.1.1.2.1 u5.2.1).bind fun u41=>
  some ((((u41.2.1.1,u41.2.1.2.1,(),()),0,()),()),(u41.2.2.2.1,()))))))
 (cond (decide (p3.2.1>60))
  (some ((((u5.1.1.1,u5.1.1.2.1,(),()),2,()),()),(u5.2.1,())))
 ((G1 (p0.1,p0.2.1,()) ((p1.1.getD ((AS (p3.1-1)).toNat) ([],false,0,())).1) YH.2.1).bind fun u42=>
 cond (!u42.1.1)
  (some ((((u5.1.1.1,u5.1.1.2.1,(),()),3,()),()),(u5.2.1,())))
 ((C1 p4 YH.2.1 u5.1.1.1 u5.1.1.2.1 u5.2.1).bind fun u43=>
 some ((((u43.2.1.1,u43.2.1.2.1,(),()),0,()),()),(u43.2.2.2.1,())))))))else none))))))
abbrev KY:Type:=AA3×ADU
abbrev QZ:Type:=Int→Int→Int→Int→Int→Int→Bool→List Int→AAO→List Int→AAN→AAc→AAi→AAn→AAS→Int→Int→ACn→ABB→List Int→Option KY
def Nb(R7:QZ)(t1 t8 t44 t45 AE AZ:Int)(AM:Bool)(b1:AAM)(b2:AAO)(b3:AAM)(b4:AAN)(b5:AAc)(b6:AAi)(b7:AAn)(b8:AAS)(hO Dj:Int)(dr:ACn)(MC:ABB)(Fc:AAM):Option KY:=
 cond (decide (t45<t44))
  (if(0:Int)≤t45∧t45<(Fc.length:Int)then(
  let x8:Int:=(Fc.getD (t45.toNat) 0)
  cond ((decide (x8<(b2.length:Int))))
   ((Cz (b1,AE,b2,b3,b4,AZ,b5,b6,b7,b8,AM,()) x8).bind fun D1=>
   cond (!D1.1.1)
    (if(0:Int)≤x8∧x8<(b2.length:Int)then(
    (GL ((b2.getD (x8.toNat) ([],[],0,())).1,(b2.getD (x8.toNat) ([],[],0,())).2.1,(b2.getD (x8.toNat) ([],[],0,())).2.2.1,()) t8).bind fun MO=>
    if MC.length+1≤DA then(
    R7 t1 t8 t44 (AS (t45+1)) AE AZ AM b1 b2 b3 b4 b5 b6 b7 b8 hO Dj dr (MC++[(x8,MO.1.1.2.1,MO.1.1.1.1,MO.1.1.1.2.1,MO.1.1.1.2.2.1,MO.1.1.1.2.2.2.1,())]) Fc)else none)else none)
   (R7 t1 t8 t44 (AS (t45+1)) AE AZ AM b1 b2 b3 b4 b5 b6 b7 b8 hO Dj dr MC Fc))
  (R7 t1 t8 t44 (AS (t45+1)) AE AZ AM b1 b2 b3 b4 b5 b6 b7 b8 hO Dj dr MC Fc))else none)
 ((Qv (b1,AE,b2,b3,b4,AZ,b5,b6,b7,b8,AM,()) hO).bind fun MK=>
 (J1 (b1,AE,()) (b4,AZ,()) MK.1.1 (hO,Dj,dr,()) MC).bind fun KP=>
 cond (KP.1.1.2.1 !=0)
  (some ((5,()),(((),AE,(),(),(),AZ,(),(),(),(),AM,()),b1,b2,b3,b4,b5,b6,b7,b8,())))
 (if(0:Int)≤t1∧t1<(b7.length:Int)then(
 some ((0,()),(((),AE,(),(),(),AZ,(),(),(),(),AM,()),b1,b2,b3,b4,b5,b6,(b7.set (t1.toNat) (KP.1.1.1.1,KP.1.1.1.2.1,KP.2.1,())),b8,())))else none))
def C6:Nat→QZ
 |0=>fun _ _ _ _ _ _ _ _ _ _ _ _ _ _ _ _ _ _ _ _=>none
 |n+1=>Nb (C6 n)
def NX(R7:QZ)(p1 p2 AE AZ:Int)(AM:Bool)(b1:AAM)(b2:AAO)(b3:AAM)(b4:AAN)(b5:AAc)(b6:AAi)(b7:AAn)(b8:AAS):Option KY:=
 (Ay p1 0 (AS ((b7.length:Int)-1))).bind fun u2=>
 cond (!u2.1.1)
  (some ((2,()),(((),AE,(),(),(),AZ,(),(),(),(),AM,()),b1,b2,b3,b4,b5,b6,b7,b8,())))
 (if(0:Int)≤p1∧p1<(b7.length:Int)then(
 (Dg ((b7.getD (p1.toNat) (0,0,[],())).1) ((b7.getD (p1.toNat) (0,0,[],())).2.1)).bind fun u5=>
 (Hl p2).bind fun u6=>
 R7 p1 u5.1.1.1 (u6.2.1.length:Int) 0 AE AZ AM b1 b2 b3 b4 b5 b6 b7 b8 ((b7.getD (p1.toNat) (0,0,[],())).1) ((b7.getD (p1.toNat) (0,0,[],())).2.1) ((b7.getD (p1.toNat) (0,0,[],())).2.2.1) [] u6.2.1)else none)
def Mt(p1 p2 AE AZ:Int)(AM:Bool)(b1:AAM)(b2:AAO)(b3:AAM)(b4:AAN)(b5:AAc)(b6:AAi)(b7:AAn)(b8:AAS):Option KY:=NX (C6 AY) p1 p2 AE AZ AM b1 b2 b3 b4 b5 b6 b7 b8
abbrev ZF:Type:=AA3×Unit
def U4(p0:AAM)(p1 p2:Int):Option ZF:=
 let x1:Int:=AS ((p0.length:Int).tdiv 4)
 cond ((decide ((AS (p1+x1))>p2)))
  (some ((p2,()),()))
 (some ((AS (p1+x1),()),()))
abbrev WT:Type:=AA1×Unit
abbrev ZJ:Type:=List Int→Int→Int→Int→Option WT
def TV(R2:ZJ)(t0:AAM)(t1 t2 t7:Int):Option WT:=
 cond ((decide (t7<(t0.length:Int))))
  (if(0:Int)≤t7∧t7<(t0.length:Int)then(
  (B8 (t0.getD (t7.toNat) 0) t1 t2).bind fun u3=>
  cond (!u3.1.1)
   (some ((false,()),()))
  (cond (decide (t7>0))
   (if(0:Int)≤AS (t7-1)∧AS (t7-1)<(t0.length:Int)then(
   if(0:Int)≤t7∧t7<(t0.length:Int)then(
   cond (decide ((t0.getD ((AS (t7-1)).toNat) 0)≥(t0.getD (t7.toNat) 0)))
    (some ((false,()),()))
   (R2 t0 t1 t2 (AS (t7+1))))else none)else none)
  (R2 t0 t1 t2 (AS (t7+1)))))else none)
 (some ((true,()),()))
def NG:Nat→ZJ
 |0=>fun _ _ _ _=>none
 |n+1=>TV (NG n)
def Zj(R2:ZJ)(p0:AAM)(p1 p2:Int):Option WT:=
 R2 p0 p1 p2 0
def Wo(p0:AAM)(p1 p2:Int):Option WT:=Zj (NG AY) p0 p1 p2
abbrev pX:Type:=AA1×Unit
def Gf(p0:AAq)(p1:AAM):Option pX:=
 (GP (p0.1,p0.2.1,())).bind fun u1=>
 cond (u1.1.1)
  ((Wo p1 0 (AS ((p0.1.length:Int)-1))).bind fun u3=>
  some ((u3.1.1,()),()))
 (some ((false,()),()))
abbrev T5:Type:=AA3×Unit
abbrev Wy:Type:=List Int→Int→Int→List Int→Int→List Bool→Option T5
def YZ(R4:Wy)(t1:AAM)(t6 t7:Int)(AL:AAM)(AE:Int)(b1:List Bool):Option T5:=
 cond ((decide (t7<(t1.length:Int))))
  (if(0:Int)≤t7∧t7<(t1.length:Int)then(
  let x3:Int:=(t1.getD (t7.toNat) 0)
  if(0:Int)≤x3∧x3<(AL.length:Int)then(
  let x4:Int:=(AL.getD (x3.toNat) 0)
  if(0:Int)≤x4∧x4<(b1.length:Int)then(
  cond (!(b1.getD (x4.toNat) false))
   (if(0:Int)≤x4∧x4<(b1.length:Int)then(
   R4 t1 (AS (t6+1)) (AS (t7+1)) AL AE (b1.set (x4.toNat) true))else none)
  (R4 t1 t6 (AS (t7+1)) AL AE b1))else none)else none)else none)
 (some ((t6,()),()))
def N_:Nat→Wy
 |0=>fun _ _ _ _ _ _=>none
 |n+1=>YZ (N_ n)
def X6(R4:Wy)(p0:AAq)(p1:AAM):Option T5:=
 R4 p1 0 0 p0.1 p0.2.1 (List.replicate 8 false)
def Uf(p0:AAq)(p1:AAM):Option T5:=X6 (N_ AY) p0 p1
abbrev iA:Type:=AA1×Unit
def Ei(p0:AAq)(p1:AAM):Option iA:=
 (Gf (p0.1,p0.2.1,()) p1).bind fun u1=>
 cond (u1.1.1)
  ((Uf (p0.1,p0.2.1,()) p1).bind fun u2=>
  some (((decide (u2.1.1≥p0.2.1)),()),()))
 (some ((false,()),()))
abbrev jc:Type:=ADy×ADz
def Wj:Option jc:=
 some (((1,1,(),()),()),([],()))
abbrev mM:Type:=((ADR×Bool×Unit)×Unit)×ACZ
def Hc(p0:AAq):Option mM:=
 (GP (p0.1,p0.2.1,())).bind fun u1=>
 cond (!u1.1.1)
  (some (((((),0,(),(),(),0,(),(),(),(),false,()),false,()),()),([],[],[],[],[],[],[],[],())))
 (if 0+p0.1.length≤DA then(
 if(0:Int)≤(p0.1.length:Int)∧(p0.1.length:Int)≤(p0.1.length:Int)∧(p0.1.length:Int)≤(DA:Int)then(
 (Wj).bind fun u3=>
 (Wj).bind fun u4=>
 some (((((),p0.2.1,(),(),(),0,(),(),(),(),false,()),true,()),()),(p0.1,(List.replicate ((p0.1.length:Int).toNat) ([],[],0,())),[],[],[],[],[(u3.1.1.1,u3.1.1.2.1,u3.2.1,()),(u4.1.1.1,u4.1.1.2.1,u4.2.1,())],[],())))else none)else none)
abbrev PD:Type:=AA3×Unit
def FF(p0 p1:Int):Option PD:=
 cond (decide (p0>p1))
  (some ((p0,()),()))
 (some ((p1,()),()))
abbrev Gg:Type:=AA1×Unit
abbrev ZK:Type:=List Int→Int→Int→Option Gg
def Tu(R2:ZK)(t0:AAM)(t1 t5:Int):Option Gg:=
 cond ((decide (t5<(t0.length:Int))))
  (if(0:Int)≤t5∧t5<(t0.length:Int)then(
  cond ((t0.getD (t5.toNat) 0)==t1)
   (some ((true,()),()))
  (R2 t0 t1 (AS (t5+1))))else none)
 (some ((false,()),()))
def Kt:Nat→ZK
 |0=>fun _ _ _=>none
 |n+1=>Tu (Kt n)
def T3(R2:ZK)(p0:AAM)(p1:Int):Option Gg:=
 R2 p0 p1 0
def Cv(p0:AAM)(p1:Int):Option Gg:=T3 (Kt AY) p0 p1
abbrev V_:Type:=AA9×AA_
abbrev ZB:Type:=List Int→Int→Bool→Int→List Int→Option V_
def O6(R4:ZB)(t0:AAM)(t1:Int)(t6:Bool)(t7:Int)(b0:AAM):Option V_:=
 cond ((decide (t7<(t0.length:Int))))
  (cond (!t6)
   (if(0:Int)≤t7∧t7<(t0.length:Int)then(
   cond (decide ((t0.getD (t7.toNat) 0)>t1))
    (if b0.length+1≤DA then(
    if(0:Int)≤t7∧t7<(t0.length:Int)then(
    if(b0++[t1]).length+1≤DA then(
    R4 t0 t1 true (AS (t7+1)) ((b0++[t1])++[(t0.getD (t7.toNat) 0)]))else none)else none)else none)
   (if(0:Int)≤t7∧t7<(t0.length:Int)then(
   if b0.length+1≤DA then(
   R4 t0 t1 t6 (AS (t7+1)) (b0++[(t0.getD (t7.toNat) 0)]))else none)else none))else none)
  (if(0:Int)≤t7∧t7<(t0.length:Int)then(
  if b0.length+1≤DA then(
  R4 t0 t1 t6 (AS (t7+1)) (b0++[(t0.getD (t7.toNat) 0)]))else none)else none))
 (cond (!t6)
  (if b0.length+1≤DA then(
  some (((),()),(b0++[t1],())))else none)
 (some (((),()),(b0,()))))
def HW:Nat→ZB
 |0=>fun _ _ _ _ _=>none
 |n+1=>O6 (HW n)
def Tj(R4:ZB)(p0:AAM)(p1:Int):Option V_:=
 (Cv p0 p1).bind fun u1=>
 R4 p0 p1 u1.1.1 0 []
def IG(p0:AAM)(p1:Int):Option V_:=Tj (HW AY) p0 p1
abbrev HP:Type:=AA9×AEf
abbrev Pb:Type:=Int→Int→List Int→Int→Int→List Int→Int→List Int→Option HP
def Rf(R4:Pb)(t6 t7:Int)(AL:AAM)(AE Ab:Int)(BB:AAM)(Ap:Int)(b2:AAM):Option HP:=
 cond (decide (t7<t6))
  ((FF (BB.length:Int) 1).bind fun u3=>
  (AJ u3.1.1 AL AE Ab).bind fun u4=>
  (IG b2 u4.1.1).bind fun u5=>
  R4 t6 (AS (t7+1)) u4.2.1.1 u4.2.1.2.1 u4.2.1.2.2.1 BB Ap u5.2.1)
 ((A9 20 AL AE Ab).bind fun u6=>
 cond (u6.1.1)
  ((CI [(-1),0,(BB.length:Int)] u6.2.1.1 u6.2.1.2.1 u6.2.1.2.2.1).bind fun u7=>
  if b2.length+1≤DA then(
  some (((),()),((u7.2.1.1,u7.2.1.2.1,u7.2.1.2.2.1,()),b2++[u7.1.1],())))else none)
 (some (((),()),((u6.2.1.1,u6.2.1.2.1,u6.2.1.2.2.1,()),b2,()))))
def IQ:Nat→Pb
 |0=>fun _ _ _ _ _ _ _ _=>none
 |n+1=>Rf (IQ n)
def SE(R4:Pb)(p1:AAq)(AL:AAM)(AE Ab:Int):Option HP:=
 (AJ (AS ((p1.1.length:Int)+2)) AL AE Ab).bind fun u2=>
 R4 u2.1.1 0 u2.2.1.1 u2.2.1.2.1 u2.2.1.2.2.1 p1.1 p1.2.1 []
def E8(p1:AAq)(AL:AAM)(AE Ab:Int):Option HP:=SE (IQ AY) p1 AL AE Ab
abbrev O4:Type:=AA9×AEf
abbrev Sn:Type:=Int→List Int→Int→Int→List Int→Int→List Int→Option O4
def Uc(R3:Sn)(t6:Int)(AL:AAM)(AE Ab:Int)(BB:AAM)(Ap:Int)(b2:AAM):Option O4:=
 cond ((decide (t6<(BB.length:Int))))
  ((Ei (BB,Ap,()) b2).bind fun u3=>
  cond (!u3.1.1)
   ((IG b2 t6).bind fun u4=>
   R3 (AS (t6+1)) AL AE Ab BB Ap u4.2.1)
  (some (((),()),((AL,AE,Ab,()),b2,()))))
 (some (((),()),((AL,AE,Ab,()),b2,())))
def Km:Nat→Sn
 |0=>fun _ _ _ _ _ _ _=>none
 |n+1=>Uc (Km n)
def UX(R3:Sn)(p1:AAq)(AL:AAM)(AE Ab:Int):Option O4:=
 (E8 (p1.1,p1.2.1,()) AL AE Ab).bind fun u1=>
 R3 0 u1.2.1.1 u1.2.1.2.1 u1.2.1.2.2.1 p1.1 p1.2.1 u1.2.2.1
def Hv(p1:AAq)(AL:AAM)(AE Ab:Int):Option O4:=UX (Km AY) p1 AL AE Ab
abbrev PG:Type:=AA3×Unit
abbrev Rs:Type:=List Int→Int→Int→Option PG
def Um(R5:Rs)(t0:AAM)(t3 t4:Int):Option PG:=
 cond ((decide (t4<(t0.length:Int))))
  (if(0:Int)≤t4∧t4<(t0.length:Int)then(
  let x3:Int:=(t0.getD (t4.toNat) 0)
  if x3<0 then none else(
  R5 t0 (bOr .i64 t3 (AS (1*2^(min x3.toNat 64)))) (AS (t4+1))))else none)
 (some ((t3,()),()))
def Kl:Nat→Rs
 |0=>fun _ _ _=>none
 |n+1=>Um (Kl n)
def UY(R5:Rs)(p0:AAM):Option PG:=
 (Wo p0 0 7).bind fun u1=>
 cond (!u1.1.1)
  (some (((-1),()),()))
 (R5 p0 0 0)
def LN(p0:AAM):Option PG:=UY (Kl AY) p0
abbrev Oq:Type:=AA3×Unit
abbrev Sq:Type:=Int→AAN→Int→Option Oq
def OU(R2:Sq)(t3:Int)(AL:AAN)(AE:Int):Option Oq:=
 cond ((decide (t3<(AL.length:Int))))
  (if(0:Int)≤t3∧t3<(AL.length:Int)then(
  cond (!((AL.getD (t3.toNat) ([],false,0,())).2.1))
   (some ((AS (t3+1),()),()))
  (R2 (AS (t3+1)) AL AE))else none)
 (some ((0,()),()))
def H4:Nat→Sq
 |0=>fun _ _ _=>none
 |n+1=>OU (H4 n)
def U5(R2:Sq)(p0:AA5):Option Oq:=
 R2 0 p0.1 p0.2.1
def JZ(p0:AA5):Option Oq:=U5 (H4 AY) p0
abbrev Gu:Type:=AA9×AA_
def CU(p0:AA5)(p1:Int):Option Gu:=
 (B8 p1 1 (p0.1.length:Int)).bind fun u1=>
 cond (!u1.1.1)
  (some (((),()),([],())))
 (if(0:Int)≤AS (p1-1)∧AS (p1-1)<(p0.1.length:Int)then(
 if 0+((p0.1.getD ((AS (p1-1)).toNat) ([],false,0,())).1).length≤DA then(
 some (((),()),(((p0.1.getD ((AS (p1-1)).toNat) ([],false,0,())).1),())))else none)else none)
abbrev Ma:Type:=AFc×ADB
abbrev OD:Type:=Int→Int→Int→List Int→Int→Int→List Int→Int→AAO→List Int→AAN→Int→AAc→AAi→AAn→AAS→Bool→Int→Int→Int→Int→List UInt8→Int→Int→List Int→AAR→Bool→List AAM→Option Ma
def RE(R16:OD)(t7 t8 t9:Int)(AL:AAM)(AE Ab:Int)(BB:AAM)(Ap:Int)(DE:AAO)(Gq:AAM)(Mi:AAN)(D2:Int)(AOy:AAc)(ANU:AAi)(AMC:AAn)(APz:AAS)(Ew:Bool)(Im Kw AM1 AO3:Int)(Pd:AA7)(ga dw:Int)(ANA:AAM)(ANt:AAR)(ANx:Bool)(AAT:List AAM):Option Ma:=
 cond ((decide (t9<(AAT.length:Int))))
  (if(0:Int)≤t9∧t9<(AAT.length:Int)then(
  (Ei (BB,Ap,()) (AAT.getD (t9.toNat) [])).bind fun yp=>
  cond (!yp.1.1)
   ((A9 3 AL AE Ab).bind fun ZX=>
   cond (!ZX.1.1)
    (R16 t7 (AS (t9+1)) (AS (t9+1)) ZX.2.1.1 ZX.2.1.2.1 ZX.2.1.2.2.1 BB Ap DE Gq Mi D2 AOy ANU AMC APz Ew Im Kw AM1 AO3 Pd ga dw ANA ANt ANx AAT)
   (R16 t7 t8 (AS (t9+1)) ZX.2.1.1 ZX.2.1.2.1 ZX.2.1.2.2.1 BB Ap DE Gq Mi D2 AOy ANU AMC APz Ew Im Kw AM1 AO3 Pd ga dw ANA ANt ANx AAT))
  (R16 t7 t8 (AS (t9+1)) AL AE Ab BB Ap DE Gq Mi D2 AOy ANU AMC APz Ew Im Kw AM1 AO3 Pd ga dw ANA ANt ANx AAT))else none)
 (some (((11,0,t8,t7,[],()),()),((AL,AE,Ab,()),())))
def Fy:Nat→OD
 |0=>fun _ _ _ _ _ _ _ _ _ _ _ _ _ _ _ _ _ _ _ _ _ _ _ _ _ _ _ _=>none
 |n+1=>RE (Fy n)
def Sa(R16:OD)(p1:AA2)(AL:AAM)(AE Ab:Int):Option Ma:=
 cond ((p1.2.2.2.2.2.2.2.1.length:Int)==0)
  (some (((8,0,0,0,[],()),()),((AL,AE,Ab,()),())))
 (if(0:Int)≤(0:Int)∧(0:Int)<(p1.2.2.2.2.2.2.2.1.length:Int)then(
 (CU (p1.2.2.2.2.1,p1.2.2.2.2.2.1,()) ((p1.2.2.2.2.2.2.2.1.getD 0 (0,0,[],[],false,[],())).2.1)).bind fun u3=>
 (AJ (u3.2.1.length:Int) AL AE Ab).bind fun u5=>
 if(0:Int)≤u5.1.1∧u5.1.1<(u3.2.1.length:Int)then(
 let x6:Int:=(u3.2.1.getD (u5.1.1.toNat) 0)
 cond (!((p1.2.2.2.2.2.2.2.1.getD 0 (0,0,[],[],false,[],())).2.2.2.2.1))
  ((A9 4 u5.2.1.1 u5.2.1.2.1 u5.2.1.2.2.1).bind fun u8=>
  cond (u8.1.1)
   (some (((10,0,0,0,[],()),()),((u8.2.1.1,u8.2.1.2.1,u8.2.1.2.2.1,()),())))
  (cond (!((p1.2.2.2.2.2.2.2.1.getD 0 (0,0,[],[],false,[],())).2.2.2.2.1))
   (some (((9,x6,0,0,[],()),()),((u8.2.1.1,u8.2.1.2.1,u8.2.1.2.2.1,()),())))
  ((A9 6 u8.2.1.1 u8.2.1.2.1 u8.2.1.2.2.1).bind fun D1=>
  cond (D1.1.1)
   (some (((12,0,0,0,[],()),()),((D1.2.1.1,D1.2.1.2.1,D1.2.1.2.2.1,()),())))
  ((A9 3 D1.2.1.1 D1.2.1.2.1 D1.2.1.2.2.1).bind fun MO=>
  cond (MO.1.1)
   (some (((4,x6,0,0,[],()),()),((MO.2.1.1,MO.2.1.2.1,MO.2.1.2.2.1,()),())))
  ((FF (((p1.2.2.2.2.2.2.2.1.getD 0 (0,0,[],[],false,[],())).2.2.2.2.2.1).length:Int) 1).bind fun MK=>
  (AJ MK.1.1 MO.2.1.1 MO.2.1.2.1 MO.2.1.2.2.1).bind fun KP=>
  R16 x6 (AS (1+KP.1.1)) 0 KP.2.1.1 KP.2.1.2.1 KP.2.1.2.2.1 p1.1 p1.2.1 p1.2.2.1 p1.2.2.2.1 p1.2.2.2.2.1 p1.2.2.2.2.2.1 p1.2.2.2.2.2.2.1 p1.2.2.2.2.2.2.2.1 p1.2.2.2.2.2.2.2.2.1 p1.2.2.2.2.2.2.2.2.2.1 p1.2.2.2.2.2.2.2.2.2.2.1 0 0 0 0 [] ((p1.2.2.2.2.2.2.2.1.getD 0 (0,0,[],[],false,[],())).1) ((p1.2.2.2.2.2.2.2.1.getD 0 (0,0,[],[],false,[],())).2.1) ((p1.2.2.2.2.2.2.2.1.getD 0 (0,0,[],[],false,[],())).2.2.1) ((p1.2.2.2.2.2.2.2.1.getD 0 (0,0,[],[],false,[],())).2.2.2.1) ((p1.2.2.2.2.2.2.2.1.getD 0 (0,0,[],[],false,[],())).2.2.2.2.1) ((p1.2.2.2.2.2.2.2.1.getD 0 (0,0,[],[],false,[],())).2.2.2.2.2.1))))))
 (cond (!((p1.2.2.2.2.2.2.2.1.getD 0 (0,0,[],[],false,[],())).2.2.2.2.1))
  (some (((9,x6,0,0,[],()),()),((u5.2.1.1,u5.2.1.2.1,u5.2.1.2.2.1,()),())))
 ((A9 6 u5.2.1.1 u5.2.1.2.1 u5.2.1.2.2.1).bind fun u16=>
 cond (u16.1.1)
  (some (((12,0,0,0,[],()),()),((u16.2.1.1,u16.2.1.2.1,u16.2.1.2.2.1,()),())))
 ((A9 3 u16.2.1.1 u16.2.1.2.1 u16.2.1.2.2.1).bind fun Xv=>
 cond (Xv.1.1)
  (some (((4,x6,0,0,[],()),()),((Xv.2.1.1,Xv.2.1.2.1,Xv.2.1.2.2.1,()),())))
 ((FF (((p1.2.2.2.2.2.2.2.1.getD 0 (0,0,[],[],false,[],())).2.2.2.2.2.1).length:Int) 1).bind fun fB=>
 (AJ fB.1.1 Xv.2.1.1 Xv.2.1.2.1 Xv.2.1.2.2.1).bind fun L9=>
 R16 x6 (AS (1+L9.1.1)) 0 L9.2.1.1 L9.2.1.2.1 L9.2.1.2.2.1 p1.1 p1.2.1 p1.2.2.1 p1.2.2.2.1 p1.2.2.2.2.1 p1.2.2.2.2.2.1 p1.2.2.2.2.2.2.1 p1.2.2.2.2.2.2.2.1 p1.2.2.2.2.2.2.2.2.1 p1.2.2.2.2.2.2.2.2.2.1 p1.2.2.2.2.2.2.2.2.2.2.1 0 0 0 0 [] ((p1.2.2.2.2.2.2.2.1.getD 0 (0,0,[],[],false,[],())).1) ((p1.2.2.2.2.2.2.2.1.getD 0 (0,0,[],[],false,[],())).2.1) ((p1.2.2.2.2.2.2.2.1.getD 0 (0,0,[],[],false,[],())).2.2.1) ((p1.2.2.2.2.2.2.2.1.getD 0 (0,0,[],[],false,[],())).2.2.2.1) ((p1.2.2.2.2.2.2.2.1.getD 0 (0,0,[],[],false,[],())).2.2.2.2.1) ((p1.2.2.2.2.2.2.2.1.getD 0 (0,0,[],[],false,[],())).2.2.2.2.2.1))))))else none)else none)
def LM(p1:AA2)(AL:AAM)(AE Ab:Int):Option Ma:=Sa (Fy AY) p1 AL AE Ab
abbrev qf:Type:=AGJ×ADB
def Gz(p1:List AA7)(AL:AAM)(AE Ab:Int):Option qf:=
 (AJ (p1.length:Int) AL AE Ab).bind fun u1=>
 if(0:Int)≤u1.1.1∧u1.1.1<(p1.length:Int)then(
 some (((p1.getD (u1.1.1.toNat) []),()),((u1.2.1.1,u1.2.1.2.1,u1.2.1.2.2.1,()),())))else none
abbrev tV:Type:=AA3×Unit
def Ts(p0 p1:Int):Option tV:=
 cond (decide (p0<p1))
  (some ((p0,()),()))
 (some ((p1,()),()))
abbrev ea:Type:=AFc×ADB
def Ga(p1:AA2)(AL:AAM)(AE Ab:Int):Option ea:=
 (AJ (p1.2.2.2.2.2.2.1.length:Int) AL AE Ab).bind fun u2=>
 (A9 3 u2.2.1.1 u2.2.1.2.1 u2.2.1.2.2.1).bind fun u3=>
 cond (!u3.1.1)
  (let x4:Int:=(p1.2.2.2.2.2.2.1.length:Int)
  if(0:Int)≤AS (x4-1)∧AS (x4-1)<(p1.2.2.2.2.2.2.1.length:Int)then(
  (CU (p1.2.2.2.2.1,p1.2.2.2.2.2.1,()) ((p1.2.2.2.2.2.2.1.getD ((AS (x4-1)).toNat) (0,[],())).1)).bind fun u6=>
  (AJ (u6.2.1.length:Int) u3.2.1.1 u3.2.1.2.1 u3.2.1.2.2.1).bind fun u8=>
  if(0:Int)≤u8.1.1∧u8.1.1<(u6.2.1.length:Int)then(
  let x9:Int:=(u6.2.1.getD (u8.1.1.toNat) 0)
  let Yv:Int:=(((p1.2.2.2.2.2.2.1.getD ((AS (x4-1)).toNat) (0,[],())).2.1).length:Int)
  cond (Yv==0)
   ((Gz [[],[97],[98,99],[100]] u8.2.1.1 u8.2.1.2.1 u8.2.1.2.2.1).bind fun MO=>
   some (((2,AS (x4-1),0,0,MO.1.1,()),()),((MO.2.1.1,MO.2.1.2.1,MO.2.1.2.2.1,()),())))
  ((A9 7 u8.2.1.1 u8.2.1.2.1 u8.2.1.2.2.1).bind fun Dz=>
  cond (Dz.1.1)
   ((Gz [[],[97],[98,99],[100]] Dz.2.1.1 Dz.2.1.2.1 Dz.2.1.2.2.1).bind fun MK=>
   some (((2,AS (x4-1),0,0,MK.1.1,()),()),((MK.2.1.1,MK.2.1.2.1,MK.2.1.2.2.1,()),())))
  ((A9 3 Dz.2.1.1 Dz.2.1.2.1 Dz.2.1.2.2.1).bind fun KP=>
  cond (KP.1.1)
   (some (((4,x9,0,0,[],()),()),((KP.2.1.1,KP.2.1.2.1,KP.2.1.2.2.1,()),())))
  ((Ts Yv 3).bind fun tY=>
  (AJ tY.1.1 KP.2.1.1 KP.2.1.2.1 KP.2.1.2.2.1).bind fun u16=>
  some (((3,AS (x4-1),AS (Yv-u16.1.1),x9,[],()),()),((u16.2.1.1,u16.2.1.2.1,u16.2.1.2.2.1,()),()))))))else none)else none)
 (if(0:Int)≤u2.1.1∧u2.1.1<(p1.2.2.2.2.2.2.1.length:Int)then(
 (CU (p1.2.2.2.2.1,p1.2.2.2.2.2.1,()) ((p1.2.2.2.2.2.2.1.getD (u2.1.1.toNat) (0,[],())).1)).bind fun Vq=>
 (AJ (Vq.2.1.length:Int) u3.2.1.1 u3.2.1.2.1 u3.2.1.2.2.1).bind fun L9=>
 if(0:Int)≤L9.1.1∧L9.1.1<(Vq.2.1.length:Int)then(
 let x21:Int:=(Vq.2.1.getD (L9.1.1.toNat) 0)
 let x22:Int:=(((p1.2.2.2.2.2.2.1.getD (u2.1.1.toNat) (0,[],())).2.1).length:Int)
 cond (x22==0)
  ((Gz [[],[97],[98,99],[100]] L9.2.1.1 L9.2.1.2.1 L9.2.1.2.2.1).bind fun ZX=>
  some (((2,u2.1.1,0,0,ZX.1.1,()),()),((ZX.2.1.1,ZX.2.1.2.1,ZX.2.1.2.2.1,()),())))
 ((A9 7 L9.2.1.1 L9.2.1.2.1 L9.2.1.2.2.1).bind fun IZ=>
 cond (IZ.1.1)
  ((Gz [[],[97],[98,99],[100]] IZ.2.1.1 IZ.2.1.2.1 IZ.2.1.2.2.1).bind fun aR=>
  some (((2,u2.1.1,0,0,aR.1.1,()),()),((aR.2.1.1,aR.2.1.2.1,aR.2.1.2.2.1,()),())))
 ((A9 3 IZ.2.1.1 IZ.2.1.2.1 IZ.2.1.2.2.1).bind fun fU=>
 cond (fU.1.1)
  (some (((4,x21,0,0,[],()),()),((fU.2.1.1,fU.2.1.2.1,fU.2.1.2.2.1,()),())))
 ((Ts x22 3).bind fun fE=>
 (AJ fE.1.1 fU.2.1.1 fU.2.1.2.1 fU.2.1.2.2.1).bind fun Om=>
 some (((3,u2.1.1,AS (x22-Om.1.1),x21,[],()),()),((Om.2.1.1,Om.2.1.2.1,Om.2.1.2.2.1,()),()))))))else none)else none)
abbrev gA:Type:=AFc×ADB
def PC(p1:AA2)(AL:AAM)(AE Ab:Int):Option gA:=
 cond ((p1.2.2.2.2.2.2.1.length:Int)==0)
  ((Hv (p1.1,p1.2.1,()) AL AE Ab).bind fun u3=>
  (LN u3.2.2.1).bind fun u4=>
  some (((1,u4.1.1,0,0,[],()),()),((u3.2.1.1,u3.2.1.2.1,u3.2.1.2.2.1,()),())))
 ((A9 30 AL AE Ab).bind fun u5=>
 cond (u5.1.1)
  ((Hv (p1.1,p1.2.1,()) u5.2.1.1 u5.2.1.2.1 u5.2.1.2.2.1).bind fun u6=>
  (LN u6.2.2.1).bind fun u7=>
  some (((1,u7.1.1,0,0,[],()),()),((u6.2.1.1,u6.2.1.2.1,u6.2.1.2.2.1,()),())))
 ((AJ (p1.2.2.1.length:Int) u5.2.1.1 u5.2.1.2.1 u5.2.1.2.2.1).bind fun u8=>
 (AJ 44 u8.2.1.1 u8.2.1.2.1 u8.2.1.2.2.1).bind fun u9=>
 cond (u9.1.1==0)
  ((AJ 16 u9.2.1.1 u9.2.1.2.1 u9.2.1.2.2.1).bind fun D1=>
  some (((5,u8.1.1,D1.1.1,0,[],()),()),((D1.2.1.1,D1.2.1.2.1,D1.2.1.2.2.1,()),())))
 (cond (u9.1.1==1)
  (cond ((p1.2.2.2.1.length:Int)==0)
   (some (((6,u8.1.1,0,0,[],()),()),((u9.2.1.1,u9.2.1.2.1,u9.2.1.2.2.1,()),())))
  ((A9 12 u9.2.1.1 u9.2.1.2.1 u9.2.1.2.2.1).bind fun Dz=>
  cond (Dz.1.1)
   (some (((6,u8.1.1,0,0,[],()),()),((Dz.2.1.1,Dz.2.1.2.1,Dz.2.1.2.2.1,()),())))
  (if(0:Int)≤(0:Int)∧(0:Int)<(p1.2.2.2.1.length:Int)then(
  some (((7,(p1.2.2.2.1.getD 0 0),0,0,[],()),()),((Dz.2.1.1,Dz.2.1.2.1,Dz.2.1.2.2.1,()),())))else none)))
 (cond (u9.1.1==2)
  ((AJ (p1.2.2.2.2.2.2.1.length:Int) u9.2.1.1 u9.2.1.2.1 u9.2.1.2.2.1).bind fun tY=>
  some (((15,tY.1.1,0,0,[],()),()),((tY.2.1.1,tY.2.1.2.1,tY.2.1.2.2.1,()),())))
 (cond (u9.1.1==3)
  ((A9 3 u9.2.1.1 u9.2.1.2.1 u9.2.1.2.2.1).bind fun u16=>
  cond (u16.1.1)
   (cond (decide ((p1.2.2.2.2.2.2.2.2.2.1.length:Int)>0))
    ((AJ (p1.2.2.2.2.2.2.2.2.2.1.length:Int) u16.2.1.1 u16.2.1.2.1 u16.2.1.2.2.1).bind fun fB=>
    if(0:Int)≤fB.1.1∧fB.1.1<(p1.2.2.2.2.2.2.2.2.2.1.length:Int)then(
    some (((13,((p1.2.2.2.2.2.2.2.2.2.1.getD (fB.1.1.toNat) (0,[],false,())).1),0,0,[],()),()),((fB.2.1.1,fB.2.1.2.1,fB.2.1.2.2.1,()),())))else none)
   (some (((16,u8.1.1,0,0,[],()),()),((u16.2.1.1,u16.2.1.2.1,u16.2.1.2.2.1,()),()))))
  (some (((16,u8.1.1,0,0,[],()),()),((u16.2.1.1,u16.2.1.2.1,u16.2.1.2.2.1,()),()))))
 (cond (u9.1.1==4)
  ((A9 2 u9.2.1.1 u9.2.1.2.1 u9.2.1.2.2.1).bind fun lA=>
  cond (lA.1.1)
   ((AJ 256 lA.2.1.1 lA.2.1.2.1 lA.2.1.2.2.1).bind fun yp=>
   (AJ 2 yp.2.1.1 yp.2.1.2.1 yp.2.1.2.2.1).bind fun ZX=>
   some (((14,ZX.1.1,yp.1.1,0,[],()),()),((ZX.2.1.1,ZX.2.1.2.1,ZX.2.1.2.2.1,()),())))
  ((AJ 2 lA.2.1.1 lA.2.1.2.1 lA.2.1.2.2.1).bind fun IZ=>
  some (((14,IZ.1.1,255,0,[],()),()),((IZ.2.1.1,IZ.2.1.2.1,IZ.2.1.2.2.1,()),()))))
 (cond (u9.1.1==5)
  ((A9 2 u9.2.1.1 u9.2.1.2.1 u9.2.1.2.2.1).bind fun aR=>
  cond (aR.1.1)
   ((AJ 256 aR.2.1.1 aR.2.1.2.1 aR.2.1.2.2.1).bind fun fU=>
   (AJ 2 fU.2.1.1 fU.2.1.2.1 fU.2.1.2.2.1).bind fun fE=>
   some (((14,fE.1.1,fU.1.1,0,[],()),()),((fE.2.1.1,fE.2.1.2.1,fE.2.1.2.2.1,()),())))
  ((AJ 2 aR.2.1.1 aR.2.1.2.1 aR.2.1.2.2.1).bind fun Om=>
  some (((14,Om.1.1,255,0,[],()),()),((Om.2.1.1,Om.2.1.2.1,Om.2.1.2.2.1,()),()))))
 (cond (u9.1.1==6)
  ((A9 2 u9.2.1.1 u9.2.1.2.1 u9.2.1.2.2.1).bind fun YH=>
  cond (YH.1.1)
   ((AJ 256 YH.2.1.1 YH.2.1.2.1 YH.2.1.2.2.1).bind fun lu=>
   (AJ 2 lu.2.1.1 lu.2.1.2.1 lu.2.1.2.2.1).bind fun cG=>
   some (((14,cG.1.1,lu.1.1,0,[],()),()),((cG.2.1.1,cG.2.1.2.1,cG.2.1.2.2.1,()),())))
  ((AJ 2 YH.2.1.1 YH.2.1.2.1 YH.2.1.2.2.1).bind fun u32=>
  some (((14,u32.1.1,255,0,[],()),()),((u32.2.1.1,u32.2.1.2.1,u32.2.1.2.2.1,()),()))))
 (cond (u9.1.1==7)
  ((A9 2 u9.2.1.1 u9.2.1.2.1 u9.2.1.2.2.1).bind fun aN=>
  cond (aN.1.1)
   ((AJ 256 aN.2.1.1 aN.2.1.2.1 aN.2.1.2.2.1).bind fun so=>
   (AJ 2 so.2.1.1 so.2.1.2.1 so.2.1.2.2.1).bind fun u35=>
   some (((14,u35.1.1,so.1.1,0,[],()),()),((u35.2.1.1,u35.2.1.2.1,u35.2.1.2.2.1,()),())))
  ((AJ 2 aN.2.1.1 aN.2.1.2.1 aN.2.1.2.2.1).bind fun u36=>
  some (((14,u36.1.1,255,0,[],()),()),((u36.2.1.1,u36.2.1.2.1,u36.2.1.2.2.1,()),()))))
 (cond (u9.1.1==8)
  ((A9 2 u9.2.1.1 u9.2.1.2.1 u9.2.1.2.2.1).bind fun lX=>
  cond (lX.1.1)
   ((AJ 256 lX.2.1.1 lX.2.1.2.1 lX.2.1.2.2.1).bind fun u38=>
   (AJ 2 u38.2.1.1 u38.2.1.2.1 u38.2.1.2.2.1).bind fun lY=>
   some (((14,lY.1.1,u38.1.1,0,[],()),()),((lY.2.1.1,lY.2.1.2.1,lY.2.1.2.2.1,()),())))
  ((AJ 2 lX.2.1.1 lX.2.1.2.1 lX.2.1.2.2.1).bind fun u40=>
  some (((14,u40.1.1,255,0,[],()),()),((u40.2.1.1,u40.2.1.2.1,u40.2.1.2.2.1,()),()))))
 (cond (decide ((p1.2.2.2.2.1.length:Int)>1))
  ((JZ (p1.2.2.2.2.1,p1.2.2.2.2.2.1,())).bind fun u43=>
  cond ((decide (u43.1.1<(p1.2.2.2.2.1.length:Int))))
   ((A9 3 u9.2.1.1 u9.2.1.2.1 u9.2.1.2.2.1).bind fun u45=>
   cond (!u45.1.1)
    ((LM (p1.1,p1.2.1,p1.2.2.1,p1.2.2.2.1,p1.2.2.2.2.1,p1.2.2.2.2.2.1,p1.2.2.2.2.2.2.1,p1.2.2.2.2.2.2.2.1,p1.2.2.2.2.2.2.2.2.1,p1.2.2.2.2.2.2.2.2.2.1,p1.2.2.2.2.2.2.2.2.2.2.1,()) u45.2.1.1 u45.2.1.2.1 u45.2.1.2.2.1).bind fun ql=>
    some (((ql.1.1.1,ql.1.1.2.1,ql.1.1.2.2.1,ql.1.1.2.2.2.1,ql.1.1.2.2.2.2.1,()),()),((ql.2.1.1,ql.2.1.2.1,ql.2.1.2.2.1,()),())))
   ((Ga (p1.1,p1.2.1,p1.2.2.1,p1.2.2.2.1,p1.2.2.2.2.1,p1.2.2.2.2.2.1,p1.2.2.2.2.2.2.1,p1.2.2.2.2.2.2.2.1,p1.2.2.2.2.2.2.2.2.1,p1.2.2.2.2.2.2.2.2.2.1,p1.2.2.2.2.2.2.2.2.2.2.1,()) u45.2.1.1 u45.2.1.2.1 u45.2.1.2.2.1).bind fun lN=>
   some (((lN.1.1.1,lN.1.1.2.1,lN.1.1.2.2.1,lN.1.1.2.2.2.1,lN.1.1.2.2.2.2.1,()),()),((lN.2.1.1,lN.2.1.2.1,lN.2.1.2.2.1,()),()))))
  ((Ga (p1.1,p1.2.1,p1.2.2.1,p1.2.2.2.1,p1.2.2.2.2.1,p1.2.2.2.2.2.1,p1.2.2.2.2.2.2.1,p1.2.2.2.2.2.2.2.1,p1.2.2.2.2.2.2.2.2.1,p1.2.2.2.2.2.2.2.2.2.1,p1.2.2.2.2.2.2.2.2.2.2.1,()) u9.2.1.1 u9.2.1.2.1 u9.2.1.2.2.1).bind fun u48=>
  some (((u48.1.1.1,u48.1.1.2.1,u48.1.1.2.2.1,u48.1.1.2.2.2.1,u48.1.1.2.2.2.2.1,()),()),((u48.2.1.1,u48.2.1.2.1,u48.2.1.2.2.1,()),()))))
 ((Ga (p1.1,p1.2.1,p1.2.2.1,p1.2.2.2.1,p1.2.2.2.2.1,p1.2.2.2.2.2.1,p1.2.2.2.2.2.2.1,p1.2.2.2.2.2.2.2.1,p1.2.2.2.2.2.2.2.2.1,p1.2.2.2.2.2.2.2.2.2.1,p1.2.2.2.2.2.2.2.2.2.2.1,()) u9.2.1.1 u9.2.1.2.1 u9.2.1.2.2.1).bind fun qp=>
 some (((qp.1.1.1,qp.1.1.2.1,qp.1.1.2.2.1,qp.1.1.2.2.2.1,qp.1.1.2.2.2.2.1,()),()),((qp.2.1.1,qp.2.1.2.1,qp.2.1.2.2.1,()),()))))))))))))))
abbrev np:Type:=AA1×Unit
def Hb(p0:Int):Option np:=
 cond (decide (p0>0))
  ((B8 (AS (p0.tdiv 4294967296)) 1 30).bind fun u2=>
  cond (u2.1.1)
   ((B8 (p0.tmod 4294967296) 1 60).bind fun u3=>
   some ((u3.1.1,()),()))
  (some ((false,()),())))
 (some ((false,()),()))
abbrev Hr:Type:=AA3×Unit
def Cf(p0:Int):Option Hr:=
 (Hb p0).bind fun u1=>
 cond (!u1.1.1)
  (some ((0,()),()))
 (some (((AS (p0.tdiv 4294967296)),()),()))
abbrev o6:Type:=AA1×Unit
def MW(p0:ABk):Option o6:=
 (Hb p0.1).bind fun u1=>
 cond (!u1.1.1)
  (some ((false,()),()))
 ((B8 p0.2.1 0 30).bind fun u2=>
 cond (!u2.1.1)
  (some ((false,()),()))
 (cond (decide (p0.2.1>0))
  ((Cf p0.1).bind fun u3=>
  cond ((decide (p0.2.1≤u3.1.1)))
   (some ((false,()),()))
  (cond (decide ((p0.2.2.2.1.length:Int)>40))
   (some ((false,()),()))
  (cond (!p0.2.2.1)
   (some ((true,()),()))
  (cond (decide (p0.2.1>0))
   (some ((p0.2.2.2.1==[],()),()))
  (some ((false,()),()))))))
 (cond (decide ((p0.2.2.2.1.length:Int)>40))
  (some ((false,()),()))
 (cond (!p0.2.2.1)
  (some ((true,()),()))
 (cond (decide (p0.2.1>0))
  (some ((p0.2.2.2.1==[],()),()))
 (some ((false,()),())))))))
abbrev T8:Type:=AA1×Unit
abbrev Wq:Type:=AAR→Int→Option T8
def Sw(R4:Wq)(t0:AAR)(t5:Int):Option T8:=
 cond ((decide (t5<(t0.length:Int))))
  (if(0:Int)≤t5∧t5<(t0.length:Int)then(
  (MW ((t0.getD (t5.toNat) (0,0,false,[],())).1,(t0.getD (t5.toNat) (0,0,false,[],())).2.1,(t0.getD (t5.toNat) (0,0,false,[],())).2.2.1,(t0.getD (t5.toNat) (0,0,false,[],())).2.2.2.1,())).bind fun u3=>
  cond (!u3.1.1)
   (some ((false,()),()))
  (R4 t0 (AS (t5+1))))else none)
 (some ((true,()),()))
def Lf:Nat→Wq
 |0=>fun _ _=>none
 |n+1=>Sw (Lf n)
def YC(R4:Wq)(p0:AAR)(p1:Int):Option T8:=
 cond ((decide ((p0.length:Int)>p1)))
  (some ((false,()),()))
 (R4 p0 0)
def Uo(p0:AAR)(p1:Int):Option T8:=YC (Lf AY) p0 p1
abbrev WB:Type:=AA1×Unit
abbrev ZG:Type:=AAR→Int→Option WB
def PB(R2:ZG)(t0:AAR)(t3:Int):Option WB:=
 cond ((decide (t3<(t0.length:Int))))
  (if(0:Int)≤AS (t3-1)∧AS (t3-1)<(t0.length:Int)then(
  if(0:Int)≤t3∧t3<(t0.length:Int)then(
  cond (decide (((t0.getD ((AS (t3-1)).toNat) (0,0,false,[],())).1)≥((t0.getD (t3.toNat) (0,0,false,[],())).1)))
   (some ((false,()),()))
  (R2 t0 (AS (t3+1))))else none)else none)
 (some ((true,()),()))
def GQ:Nat→ZG
 |0=>fun _ _=>none
 |n+1=>PB (GQ n)
def Z6(R2:ZG)(p0:AAR):Option WB:=
 R2 p0 1
def W6(p0:AAR):Option WB:=Z6 (GQ AY) p0
abbrev nf:Type:=AA1×Unit
def GU(p0:AA6):Option nf:=
 (Uo p0.1 200).bind fun u1=>
 cond (u1.1.1)
  ((Uo p0.2.1 20).bind fun u2=>
  cond (u2.1.1)
   ((W6 p0.1).bind fun u3=>
   cond (u3.1.1)
    ((B8 p0.2.2.1 0 30).bind fun u4=>
    some ((u4.1.1,()),()))
   (some ((false,()),())))
  (some ((false,()),())))
 (some ((false,()),()))
abbrev pH:Type:=AA1×Unit
def al(p0:AA6):Option pH:=
 cond (((p0.1.length:Int)==0))
  (cond ((p0.2.1.length:Int)==0)
   (some ((p0.2.2.1==0,()),()))
  (some ((false,()),())))
 (some ((false,()),()))
abbrev P2:Type:=AA1×Unit
abbrev TZ:Type:=Int→List Int→Int→AAO→List Int→AAN→Int→AAc→AAi→AAn→AAS→Bool→Option P2
def PS(R4:TZ)(t3:Int)(AL:AAM)(AE:Int)(Ab:AAO)(DI:AAM)(EJ:AAN)(AZ:Int)(EE:AAc)(D3:AAi)(Fv:AAn)(GJ:AAS)(AM:Bool):Option P2:=
 cond ((decide (t3<(Ab.length:Int))))
  (if(0:Int)≤t3∧t3<(Ab.length:Int)then(
  (GU ((Ab.getD (t3.toNat) ([],[],0,())).1,(Ab.getD (t3.toNat) ([],[],0,())).2.1,(Ab.getD (t3.toNat) ([],[],0,())).2.2.1,())).bind fun u8=>
  cond (!u8.1.1)
   (some ((false,()),()))
  ((Cv DI t3).bind fun u9=>
  cond (u9.1.1)
   (if(0:Int)≤t3∧t3<(Ab.length:Int)then(
   (al ((Ab.getD (t3.toNat) ([],[],0,())).1,(Ab.getD (t3.toNat) ([],[],0,())).2.1,(Ab.getD (t3.toNat) ([],[],0,())).2.2.1,())).bind fun D1=>
   cond (!D1.1.1)
    (some ((false,()),()))
   (R4 (AS (t3+1)) AL AE Ab DI EJ AZ EE D3 Fv GJ AM))else none)
  (R4 (AS (t3+1)) AL AE Ab DI EJ AZ EE D3 Fv GJ AM)))else none)
 (some ((true,()),()))
def JA:Nat→TZ
 |0=>fun _ _ _ _ _ _ _ _ _ _ _ _=>none
 |n+1=>PS (JA n)
def Vl(R4:TZ)(p0:AA2):Option P2:=
 (GP (p0.1,p0.2.1,())).bind fun u1=>
 cond (!u1.1.1)
  (some ((false,()),()))
 (cond (((p0.2.2.1.length:Int) !=(p0.1.length:Int)))
  (some ((false,()),()))
 ((Gf (p0.1,p0.2.1,()) p0.2.2.2.1).bind fun u4=>
 cond (!u4.1.1)
  (some ((false,()),()))
 ((Ei (p0.1,p0.2.1,()) p0.2.2.2.1).bind fun u5=>
 cond (u5.1.1)
  (cond (!p0.2.2.2.2.2.2.2.2.2.2.1)
   (some ((false,()),()))
  (R4 0 p0.1 p0.2.1 p0.2.2.1 p0.2.2.2.1 p0.2.2.2.2.1 p0.2.2.2.2.2.1 p0.2.2.2.2.2.2.1 p0.2.2.2.2.2.2.2.1 p0.2.2.2.2.2.2.2.2.1 p0.2.2.2.2.2.2.2.2.2.1 p0.2.2.2.2.2.2.2.2.2.2.1))
 (R4 0 p0.1 p0.2.1 p0.2.2.1 p0.2.2.2.1 p0.2.2.2.2.1 p0.2.2.2.2.2.1 p0.2.2.2.2.2.2.1 p0.2.2.2.2.2.2.2.1 p0.2.2.2.2.2.2.2.2.1 p0.2.2.2.2.2.2.2.2.2.1 p0.2.2.2.2.2.2.2.2.2.2.1))))
def UK(p0:AA2):Option P2:=Vl (JA AY) p0
abbrev Ry:Type:=AA1×Unit
abbrev ZU:Type:=Int→Int→List Int→Int→AAN→Int→Option Ry
def Td(R5:ZU)(t5 t6:Int)(AL:AAM)(AE:Int)(BB:AAN)(Ap:Int):Option Ry:=
 cond (decide (t6<t5))
  (if(0:Int)≤t6∧t6<(BB.length:Int)then(
  (Ei (AL,AE,()) ((BB.getD (t6.toNat) ([],false,0,())).1)).bind fun u6=>
  cond (!u6.1.1)
   (some ((false,()),()))
  ((B8 ((BB.getD (t6.toNat) ([],false,0,())).2.2.1) 0 60).bind fun u8=>
  cond (!u8.1.1)
   (some ((false,()),()))
  (cond (!((BB.getD (t6.toNat) ([],false,0,())).2.1))
   (cond (((BB.getD (t6.toNat) ([],false,0,())).2.2.1) !=0)
    (some ((false,()),()))
   (cond (((BB.getD (t6.toNat) ([],false,0,())).2.1))
    (cond (t6==(AS (t5-1)))
     (some ((false,()),()))
    (cond (decide (t6>0))
     (if(0:Int)≤AS (t6-1)∧AS (t6-1)<(BB.length:Int)then(
     cond (!((BB.getD ((AS (t6-1)).toNat) ([],false,0,())).2.1))
      (some ((false,()),()))
     (R5 t5 (AS (t6+1)) AL AE BB Ap))else none)
    (R5 t5 (AS (t6+1)) AL AE BB Ap)))
   (R5 t5 (AS (t6+1)) AL AE BB Ap)))
  (cond (((BB.getD (t6.toNat) ([],false,0,())).2.1))
   (cond (t6==(AS (t5-1)))
    (some ((false,()),()))
   (cond (decide (t6>0))
    (if(0:Int)≤AS (t6-1)∧AS (t6-1)<(BB.length:Int)then(
    cond (!((BB.getD ((AS (t6-1)).toNat) ([],false,0,())).2.1))
     (some ((false,()),()))
    (R5 t5 (AS (t6+1)) AL AE BB Ap))else none)
   (R5 t5 (AS (t6+1)) AL AE BB Ap)))
  (R5 t5 (AS (t6+1)) AL AE BB Ap)))))else none)
 (some ((true,()),()))
def Ky:Nat→ZU
 |0=>fun _ _ _ _ _ _=>none
 |n+1=>Td (Ky n)
def Z1(R5:ZU)(p0:AAq)(p1:AA5):Option Ry:=
 (GP (p0.1,p0.2.1,())).bind fun u1=>
 cond (!u1.1.1)
  (some ((false,()),()))
 (cond ((decide ((p1.1.length:Int)>30)))
  (some ((false,()),()))
 (cond (p1.2.1 !=0)
  ((Hb p1.2.1).bind fun u3=>
  cond (!u3.1.1)
   (some ((false,()),()))
  ((Cf p1.2.1).bind fun u4=>
  cond ((decide (u4.1.1>(p1.1.length:Int))))
   (some ((false,()),()))
  (R5 (p1.1.length:Int) 0 p0.1 p0.2.1 p1.1 p1.2.1)))
 (R5 (p1.1.length:Int) 0 p0.1 p0.2.1 p1.1 p1.2.1)))
def Mj(p0:AAq)(p1:AA5):Option Ry:=Z1 (Ky AY) p0 p1
abbrev Mx:Type:=AA1×Unit
abbrev Tt:Type:=Int→Int→List Int→Int→Int→AA4→Option Mx
def Ve(R5:Tt)(t5 t6:Int)(AL:AAM)(AE BB:Int)(Ap:AA4):Option Mx:=
 cond ((decide (t6<(Ap.length:Int))))
  (if(0:Int)≤t6∧t6<(Ap.length:Int)then(
  cond ((decide ((((Ap.getD (t6.toNat) ([],[],false,())).1).length:Int)>40)))
   (some ((false,()),()))
  ((Gf (AL,AE,()) ((Ap.getD (t6.toNat) ([],[],false,())).2.1)).bind fun u7=>
  cond (!u7.1.1)
   (some ((false,()),()))
  ((Ei (AL,AE,()) ((Ap.getD (t6.toNat) ([],[],false,())).2.1)).bind fun u9=>
  cond (u9.1.1 !=((Ap.getD (t6.toNat) ([],[],false,())).2.2.1))
   (some ((false,()),()))
  (cond (!((Ap.getD (t6.toNat) ([],[],false,())).2.2.1))
   (R5 (AS (t5+1)) (AS (t6+1)) AL AE BB Ap)
  (R5 t5 (AS (t6+1)) AL AE BB Ap)))))else none)
 (some ((decide (t5≤6),()),()))
def LX:Nat→Tt
 |0=>fun _ _ _ _ _ _=>none
 |n+1=>Ve (LX n)
def Vj(R5:Tt)(p0:AAq)(p1:AA8):Option Mx:=
 (GP (p0.1,p0.2.1,())).bind fun u1=>
 cond (!u1.1.1)
  (some ((false,()),()))
 ((B8 p1.1 1 30).bind fun u2=>
 cond (!u2.1.1)
  (some ((false,()),()))
 (cond (decide ((p1.2.1.length:Int)>60))
  (some ((false,()),()))
 (R5 0 0 p0.1 p0.2.1 p1.1 p1.2.1)))
def Hd(p0:AAq)(p1:AA8):Option Mx:=Vj (LX AY) p0 p1
abbrev KZ:Type:=AA3×Unit
def HN(p0:Int):Option KZ:=
 (Hb p0).bind fun u1=>
 cond (!u1.1.1)
  (some ((0,()),()))
 (some ((p0.tmod 4294967296,()),()))
abbrev qo:Type:=AA3×Unit
def Q5(p0:AAy):Option qo:=
 cond ((p0.2.2.2.1.length:Int)==0)
  (some ((0,()),()))
 (let x2:Int:=(p0.2.2.2.1.length:Int)
 if(0:Int)≤AS (x2-1)∧AS (x2-1)<(p0.2.2.2.1.length:Int)then(
 (HN ((p0.2.2.2.1.getD ((AS (x2-1)).toNat) (0,0,false,[],())).1)).bind fun u4=>
 some ((u4.1.1,()),()))else none)
abbrev M6:Type:=AA1×Unit
abbrev Rm:Type:=Int→List Int→Int→Int→Int→List Int→AAR→Bool→List AAM→Option M6
abbrev SD:Type:=Int→List Int→Int→Int→Int→List Int→AAR→Bool→List AAM→Option M6
def RR(R4:Rm)(R9:SD)(t5:Int)(AL:AAM)(AE BB Ap:Int)(DE:AAM)(Gq:AAR)(Mi:Bool)(D2:List AAM):Option M6:=
 cond ((decide (t5<(Gq.length:Int))))
  (if(0:Int)≤t5∧t5<(Gq.length:Int)then(
  (MW ((Gq.getD (t5.toNat) (0,0,false,[],())).1,(Gq.getD (t5.toNat) (0,0,false,[],())).2.1,(Gq.getD (t5.toNat) (0,0,false,[],())).2.2.1,(Gq.getD (t5.toNat) (0,0,false,[],())).2.2.2.1,())).bind fun u7=>
  cond (!u7.1.1)
   (some ((false,()),()))
  (if(0:Int)≤t5∧t5<(Gq.length:Int)then(
  (Cf ((Gq.getD (t5.toNat) (0,0,false,[],())).1)).bind fun u9=>
  cond (u9.1.1 !=Ap)
   (some ((false,()),()))
  (if(0:Int)≤t5∧t5<(Gq.length:Int)then(
  cond (decide (((Gq.getD (t5.toNat) (0,0,false,[],())).2.1)≥BB))
   (some ((false,()),()))
  (R4 (AS (t5+1)) AL AE BB Ap DE Gq Mi D2))else none))else none))else none)
 (R9 0 AL AE BB Ap DE Gq Mi D2)
def Sc(R4:Rm)(R9:SD)(t6:Int)(AL:AAM)(AE BB Ap:Int)(DE:AAM)(Gq:AAR)(Mi:Bool)(D2:List AAM):Option M6:=
 cond ((decide (t6<(D2.length:Int))))
  (if(0:Int)≤t6∧t6<(D2.length:Int)then(
  (Gf (AL,AE,()) (D2.getD (t6.toNat) [])).bind fun Dz=>
  cond (!Dz.1.1)
   (some ((false,()),()))
  (R9 (AS (t6+1)) AL AE BB Ap DE Gq Mi D2))else none)
 (cond (!Mi)
  (some ((((D2.length:Int)==0),()),()))
 ((Q5 (BB,Ap,DE,Gq,Mi,D2,())).bind fun KP=>
 some ((((D2.length:Int)==KP.1.1),()),())))
mutual
def JQ:Nat→Rm
 |0=>fun _ _ _ _ _ _ _ _ _=>none
 |n+1=>RR (JQ n) (Hi n)
def Hi:Nat→SD
 |0=>fun _ _ _ _ _ _ _ _ _=>none
 |n+1=>Sc (JQ n) (Hi n)
end
def X3(R4:Rm)(R9:SD)(p0:AAq)(p1:AAy):Option M6:=
 (GP (p0.1,p0.2.1,())).bind fun u1=>
 cond (!u1.1.1)
  (some ((false,()),()))
 ((B8 p1.2.1 1 30).bind fun u2=>
 cond (!u2.1.1)
  (some ((false,()),()))
 ((B8 p1.1 (AS (p1.2.1+1)) 30).bind fun u3=>
 cond (!u3.1.1)
  (some ((false,()),()))
 ((Gf (p0.1,p0.2.1,()) p1.2.2.1).bind fun u4=>
 cond (!u4.1.1)
  (some ((false,()),()))
 ((W6 p1.2.2.2.1).bind fun u5=>
 cond (!u5.1.1)
  (some ((false,()),()))
 (R4 0 p0.1 p0.2.1 p1.1 p1.2.1 p1.2.2.1 p1.2.2.2.1 p1.2.2.2.2.1 p1.2.2.2.2.2.1)))))
def Is(p0:AAq)(p1:AAy):Option M6:=X3 (JQ AY) (Hi AY) p0 p1
abbrev I_:Type:=AA1×Unit
abbrev Nl:Type:=Int→Int→List Int→Int→AAO→List Int→AAN→Int→AAc→AAi→AAn→AAS→Bool→Option I_
abbrev MY:Type:=Int→Int→List Int→Int→AAO→List Int→AAN→Int→AAc→AAi→AAn→AAS→Bool→Option I_
def OI(R5:Nl)(R10:MY)(t3 t4:Int)(AL:AAM)(AE:Int)(Ab:AAO)(DI:AAM)(EJ:AAN)(AZ:Int)(EE:AAc)(D3:AAi)(Fv:AAn)(GJ:AAS)(AM:Bool):Option I_:=
 cond ((decide (t4<(EE.length:Int))))
  (if(0:Int)≤t4∧t4<(EE.length:Int)then(
  (Hd (AL,AE,()) ((EE.getD (t4.toNat) (0,[],())).1,(EE.getD (t4.toNat) (0,[],())).2.1,())).bind fun u6=>
  cond (!u6.1.1)
   (some ((false,()),()))
  (if(0:Int)≤t4∧t4<(EE.length:Int)then(
  cond (decide (((EE.getD (t4.toNat) (0,[],())).1)>t3))
   (some ((false,()),()))
  (cond (decide (t4>0))
   (if(0:Int)≤AS (t4-1)∧AS (t4-1)<(EE.length:Int)then(
   if(0:Int)≤t4∧t4<(EE.length:Int)then(
   cond (decide (((EE.getD ((AS (t4-1)).toNat) (0,[],())).1)≥((EE.getD (t4.toNat) (0,[],())).1)))
    (some ((false,()),()))
   (R5 t3 (AS (t4+1)) AL AE Ab DI EJ AZ EE D3 Fv GJ AM))else none)else none)
  (R5 t3 (AS (t4+1)) AL AE Ab DI EJ AZ EE D3 Fv GJ AM)))else none))else none)
 (R10 t3 0 AL AE Ab DI EJ AZ EE D3 Fv GJ AM)
def NZ(R5:Nl)(R10:MY)(t3 t5:Int)(AL:AAM)(AE:Int)(Ab:AAO)(DI:AAM)(EJ:AAN)(AZ:Int)(EE:AAc)(D3:AAi)(Fv:AAn)(GJ:AAS)(AM:Bool):Option I_:=
 cond ((decide (t5<(D3.length:Int))))
  (if(0:Int)≤t5∧t5<(D3.length:Int)then(
  (Is (AL,AE,()) ((D3.getD (t5.toNat) (0,0,[],[],false,[],())).1,(D3.getD (t5.toNat) (0,0,[],[],false,[],())).2.1,(D3.getD (t5.toNat) (0,0,[],[],false,[],())).2.2.1,(D3.getD (t5.toNat) (0,0,[],[],false,[],())).2.2.2.1,(D3.getD (t5.toNat) (0,0,[],[],false,[],())).2.2.2.2.1,(D3.getD (t5.toNat) (0,0,[],[],false,[],())).2.2.2.2.2.1,())).bind fun MO=>
  cond (!MO.1.1)
   (some ((false,()),()))
  (cond (((D3.getD (t5.toNat) (0,0,[],[],false,[],())).1) !=t3)
   (some ((false,()),()))
  ((JZ (EJ,AZ,())).bind fun KP=>
  cond (((D3.getD (t5.toNat) (0,0,[],[],false,[],())).2.1) !=KP.1.1)
   (some ((false,()),()))
  (R10 t3 (AS (t5+1)) AL AE Ab DI EJ AZ EE D3 Fv GJ AM))))else none)
 (some ((true,()),()))
mutual
def Gc:Nat→Nl
 |0=>fun _ _ _ _ _ _ _ _ _ _ _ _ _=>none
 |n+1=>OI (Gc n) (Ek n)
def Ek:Nat→MY
 |0=>fun _ _ _ _ _ _ _ _ _ _ _ _ _=>none
 |n+1=>NZ (Gc n) (Ek n)
end
def U6(R5:Nl)(R10:MY)(p0:AA2):Option I_:=
 (Mj (p0.1,p0.2.1,()) (p0.2.2.2.2.1,p0.2.2.2.2.2.1,())).bind fun u2=>
 cond (!u2.1.1)
  (some ((false,()),()))
 (cond (decide ((p0.2.2.2.2.2.2.1.length:Int)>4))
  (some ((false,()),()))
 (cond (decide ((p0.2.2.2.2.2.2.2.1.length:Int)>1))
  (some ((false,()),()))
 (R5 (p0.2.2.2.2.1.length:Int) 0 p0.1 p0.2.1 p0.2.2.1 p0.2.2.2.1 p0.2.2.2.2.1 p0.2.2.2.2.2.1 p0.2.2.2.2.2.2.1 p0.2.2.2.2.2.2.2.1 p0.2.2.2.2.2.2.2.2.1 p0.2.2.2.2.2.2.2.2.2.1 p0.2.2.2.2.2.2.2.2.2.2.1)))
def Ra(p0:AA2):Option I_:=U6 (Gc AY) (Ek AY) p0
abbrev mF:Type:=AA1×Unit
def M5(p0:AB6):Option mF:=
 (B8 p0.1 1 31).bind fun u1=>
 cond (u1.1.1)
  ((B8 p0.2.1 1 61).bind fun u2=>
  cond (u2.1.1)
   (some ((decide ((p0.2.2.1.length:Int)≤120),()),()))
  (some ((false,()),())))
 (some ((false,()),()))
abbrev Rg:Type:=AA1×Unit
abbrev VP:Type:=Int→List Int→Int→AAO→List Int→AAN→Int→AAc→AAi→AAn→AAS→Bool→Option Rg
def Qk(R4:VP)(t3:Int)(AL:AAM)(AE:Int)(Ab:AAO)(DI:AAM)(EJ:AAN)(AZ:Int)(EE:AAc)(D3:AAi)(Fv:AAn)(GJ:AAS)(AM:Bool):Option Rg:=
 cond ((decide (t3<(GJ.length:Int))))
  (if(0:Int)≤t3∧t3<(GJ.length:Int)then(
  (Hb ((GJ.getD (t3.toNat) (0,[],false,())).1)).bind fun u4=>
  cond (!u4.1.1)
   (some ((false,()),()))
  ((Cf ((GJ.getD (t3.toNat) (0,[],false,())).1)).bind fun u6=>
  cond ((decide (u6.1.1>(EJ.length:Int))))
   (some ((false,()),()))
  (cond ((decide ((((GJ.getD (t3.toNat) (0,[],false,())).2.1).length:Int)>40)))
   (some ((false,()),()))
  (cond (decide (t3>0))
   (if(0:Int)≤AS (t3-1)∧AS (t3-1)<(GJ.length:Int)then(
   cond (decide (((GJ.getD ((AS (t3-1)).toNat) (0,[],false,())).1)≥((GJ.getD (t3.toNat) (0,[],false,())).1)))
    (some ((false,()),()))
   (R4 (AS (t3+1)) AL AE Ab DI EJ AZ EE D3 Fv GJ AM))else none)
  (R4 (AS (t3+1)) AL AE Ab DI EJ AZ EE D3 Fv GJ AM)))))else none)
 (some ((true,()),()))
def J7:Nat→VP
 |0=>fun _ _ _ _ _ _ _ _ _ _ _ _=>none
 |n+1=>Qk (J7 n)
def Wl(R4:VP)(p0:AA2):Option Rg:=
 cond (decide ((p0.2.2.2.2.2.2.2.2.2.1.length:Int)>120))
  (some ((false,()),()))
 (R4 0 p0.1 p0.2.1 p0.2.2.1 p0.2.2.2.1 p0.2.2.2.2.1 p0.2.2.2.2.2.1 p0.2.2.2.2.2.2.1 p0.2.2.2.2.2.2.2.1 p0.2.2.2.2.2.2.2.2.1 p0.2.2.2.2.2.2.2.2.2.1 p0.2.2.2.2.2.2.2.2.2.2.1)
def WA(p0:AA2):Option Rg:=Wl (J7 AY) p0
abbrev nt:Type:=AA1×Unit
def PJ(p0:AA2):Option nt:=
 (UK (p0.1,p0.2.1,p0.2.2.1,p0.2.2.2.1,p0.2.2.2.2.1,p0.2.2.2.2.2.1,p0.2.2.2.2.2.2.1,p0.2.2.2.2.2.2.2.1,p0.2.2.2.2.2.2.2.2.1,p0.2.2.2.2.2.2.2.2.2.1,p0.2.2.2.2.2.2.2.2.2.2.1,())).bind fun u1=>
 cond (u1.1.1)
  ((Ra (p0.1,p0.2.1,p0.2.2.1,p0.2.2.2.1,p0.2.2.2.2.1,p0.2.2.2.2.2.1,p0.2.2.2.2.2.2.1,p0.2.2.2.2.2.2.2.1,p0.2.2.2.2.2.2.2.2.1,p0.2.2.2.2.2.2.2.2.2.1,p0.2.2.2.2.2.2.2.2.2.2.1,())).bind fun u2=>
  cond (u2.1.1)
   (cond ((p0.2.2.2.2.2.2.2.2.1.length:Int)==2)
    (if(0:Int)≤(0:Int)∧(0:Int)<(p0.2.2.2.2.2.2.2.2.1.length:Int)then(
    (M5 ((p0.2.2.2.2.2.2.2.2.1.getD 0 (0,0,[],())).1,(p0.2.2.2.2.2.2.2.2.1.getD 0 (0,0,[],())).2.1,(p0.2.2.2.2.2.2.2.2.1.getD 0 (0,0,[],())).2.2.1,())).bind fun u4=>
    cond (u4.1.1)
     (if(0:Int)≤(1:Int)∧(1:Int)<(p0.2.2.2.2.2.2.2.2.1.length:Int)then(
     (M5 ((p0.2.2.2.2.2.2.2.2.1.getD 1 (0,0,[],())).1,(p0.2.2.2.2.2.2.2.2.1.getD 1 (0,0,[],())).2.1,(p0.2.2.2.2.2.2.2.2.1.getD 1 (0,0,[],())).2.2.1,())).bind fun u5=>
     cond (u5.1.1)
      ((WA (p0.1,p0.2.1,p0.2.2.1,p0.2.2.2.1,p0.2.2.2.2.1,p0.2.2.2.2.2.1,p0.2.2.2.2.2.2.1,p0.2.2.2.2.2.2.2.1,p0.2.2.2.2.2.2.2.2.1,p0.2.2.2.2.2.2.2.2.2.1,p0.2.2.2.2.2.2.2.2.2.2.1,())).bind fun u6=>
      some ((u6.1.1,()),()))
     (some ((false,()),())))else none)
    (some ((false,()),())))else none)
   (some ((false,()),())))
  (some ((false,()),())))
 (some ((false,()),()))
abbrev l3:Type:=AFc×Unit
def ZW(p0:ABA):Option l3:=
 cond (p0.1==1)
  (some (((p0.1,p0.2.1,0,0,[],()),()),()))
 (cond (p0.1==4)
  (some (((p0.1,p0.2.1,0,0,[],()),()),()))
 (cond (p0.1==6)
  (some (((p0.1,p0.2.1,0,0,[],()),()),()))
 (cond (p0.1==7)
  (some (((p0.1,p0.2.1,0,0,[],()),()),()))
 (cond (p0.1==9)
  (some (((p0.1,p0.2.1,0,0,[],()),()),()))
 (cond (p0.1==13)
  (some (((p0.1,p0.2.1,0,0,[],()),()),()))
 (cond (p0.1==15)
  (some (((p0.1,p0.2.1,0,0,[],()),()),()))
 (cond (p0.1==16)
  (some (((p0.1,p0.2.1,0,0,[],()),()),()))
 (cond (p0.1==2)
  (some (((p0.1,p0.2.1,0,0,p0.2.2.2.2.1,()),()),()))
 (cond (p0.1==3)
  (some (((p0.1,p0.2.1,p0.2.2.1,p0.2.2.2.1,[],()),()),()))
 (cond (p0.1==5)
  (some (((p0.1,p0.2.1,p0.2.2.1,0,[],()),()),()))
 (cond (p0.1==14)
  (some (((p0.1,p0.2.1,p0.2.2.1,0,[],()),()),()))
 (cond (p0.1==11)
  (some (((p0.1,0,p0.2.2.1,p0.2.2.2.1,[],()),()),()))
 (some (((p0.1,0,0,0,[],()),()),()))))))))))))))
abbrev qq:Type:=AA1×Unit
def Yq(p0:ABA):Option qq:=
 (B8 p0.1 1 16).bind fun u1=>
 cond (u1.1.1)
  ((ZW (p0.1,p0.2.1,p0.2.2.1,p0.2.2.2.1,p0.2.2.2.2.1,())).bind fun u2=>
  cond (((p0.1==u2.1.1.1)&&((p0.2.1==u2.1.1.2.1)&&((p0.2.2.1==u2.1.1.2.2.1)&&((p0.2.2.2.1==u2.1.1.2.2.2.1)&&((p0.2.2.2.2.1==u2.1.1.2.2.2.2.1)&&true))))))
   (some ((decide ((p0.2.2.2.2.1.length:Int)≤40),()),()))
  (some ((false,()),())))
 (some ((false,()),()))
abbrev FW:Type:=ACt×ADV
abbrev XM:Type:=Int→AAN→Int→Int→AAN→Int→AAN→Option FW
def YI(R3:XM)(t4:Int)(AL:AAN)(AE Ap:Int)(b2:AAN)(dw:Int)(b4:AAN):Option FW:=
 cond ((decide (t4<(AL.length:Int))))
  (if(0:Int)≤t4∧t4<(AL.length:Int)then(
  if 0+((AL.getD (t4.toNat) ([],false,0,())).1).length≤DA then(
  if b4.length+1≤DA then(
  R3 (AS (t4+1)) AL AE Ap b2 dw (b4++[(((AL.getD (t4.toNat) ([],false,0,())).1),(AL.getD (t4.toNat) ([],false,0,())).2.1,(AL.getD (t4.toNat) ([],false,0,())).2.2.1,())]))else none)else none)else none)
 (some ((((),dw,()),()),(b4,())))
def OJ:Nat→XM
 |0=>fun _ _ _ _ _ _ _=>none
 |n+1=>YI (OJ n)
def Yx(R3:XM)(p0:AA5):Option FW:=
 R3 0 p0.1 p0.2.1 0 [] p0.2.1 []
def F8(p0:AA5):Option FW:=Yx (OJ AY) p0
abbrev Ko:Type:=ADu×ACu
def El(p0:AA6):Option Ko:=
 if 0+p0.1.length≤DA then(
 if 0+p0.2.1.length≤DA then(
 some ((((),(),p0.2.2.1,()),()),(p0.1,p0.2.1,())))else none)else none
abbrev FQ:Type:=ADx×ADr
abbrev XG:Type:=Int→Int→AA4→Int→AA4→Int→AA4→Option FQ
def Rj(R3:XG)(t4 AL:Int)(AE:AA4)(BB:Int)(b2:AA4)(ga:Int)(b4:AA4):Option FQ:=
 cond ((decide (t4<(AE.length:Int))))
  (if(0:Int)≤t4∧t4<(AE.length:Int)then(
  if 0+((AE.getD (t4.toNat) ([],[],false,())).2.1).length≤DA then(
  if b4.length+1≤DA then(
  R3 (AS (t4+1)) AL AE BB b2 ga (b4++[((AE.getD (t4.toNat) ([],[],false,())).1,((AE.getD (t4.toNat) ([],[],false,())).2.1),(AE.getD (t4.toNat) ([],[],false,())).2.2.1,())]))else none)else none)else none)
 (some (((ga,(),()),()),(b4,())))
def Jf:Nat→XG
 |0=>fun _ _ _ _ _ _ _=>none
 |n+1=>Rj (Jf n)
def Rn(R3:XG)(p0:AA8):Option FQ:=
 R3 0 p0.1 p0.2.1 0 [] p0.1 []
def EH(p0:AA8):Option FQ:=Rn (Jf AY) p0
abbrev GO:Type:=ADs×ACw
abbrev Xo:Type:=Int→Int→Int→List Int→AAR→Bool→List AAM→Int→Int→Bool→List Int→AAR→List AAM→Int→Int→Bool→List Int→AAR→List AAM→Option GO
def R0(R3:Xo)(t4 AL AE:Int)(Ab:AAM)(DI:AAR)(EJ:Bool)(AZ:List AAM)(BB Ap:Int)(Mi:Bool)(b2:AAM)(b3:AAR)(b4:List AAM)(ABr ABe:Int)(ACD:Bool)(b6:AAM)(b7:AAR)(b8:List AAM):Option GO:=
 cond ((decide (t4<(AZ.length:Int))))
  (if(0:Int)≤t4∧t4<(AZ.length:Int)then(
  if 0+(AZ.getD (t4.toNat) []).length≤DA then(
  if b8.length+1≤DA then(
  R3 (AS (t4+1)) AL AE Ab DI EJ AZ BB Ap Mi b2 b3 b4 ABr ABe ACD b6 b7 (b8++[(AZ.getD (t4.toNat) [])]))else none)else none)else none)
 (some (((ABr,ABe,(),(),ACD,(),()),()),(b6,b7,b8,())))
def Hh:Nat→Xo
 |0=>fun _ _ _ _ _ _ _ _ _ _ _ _ _ _ _ _ _ _ _=>none
 |n+1=>R0 (Hh n)
def Ni(R3:Xo)(p0:AAy):Option GO:=
 if 0+p0.2.2.1.length≤DA then(
 if 0+p0.2.2.2.1.length≤DA then(
 R3 0 p0.1 p0.2.1 p0.2.2.1 p0.2.2.2.1 p0.2.2.2.2.1 p0.2.2.2.2.2.1 0 0 false [] [] [] p0.1 p0.2.1 p0.2.2.2.2.1 p0.2.2.1 p0.2.2.2.1 [])else none)else none
def EI(p0:AAy):Option GO:=Ni (Hh AY) p0
abbrev JX:Type:=ADy×ADz
def CF(p0:AB6):Option JX:=
 if 0+p0.2.2.1.length≤DA then(
 some (((p0.1,p0.2.1,(),()),()),(p0.2.2.1,())))else none
abbrev FR:Type:=AD0×ACZ
abbrev J9:Type:=Int→List Int→Int→AAO→List Int→AAN→Int→AAc→AAi→AAn→AAS→Bool→Int→Int→Bool→List Int→AAO→List Int→AAN→AAc→AAi→AAn→AAS→Int→Int→Bool→List Int→AAO→List Int→AAN→AAc→AAi→AAn→AAS→Option FR
abbrev KG:Type:=Int→List Int→Int→AAO→List Int→AAN→Int→AAc→AAi→AAn→AAS→Bool→Int→Int→Bool→List Int→AAO→List Int→AAN→AAc→AAi→AAn→AAS→Int→Int→Bool→List Int→AAO→List Int→AAN→AAc→AAi→AAn→AAS→Option FR
abbrev I4:Type:=Int→List Int→Int→AAO→List Int→AAN→Int→AAc→AAi→AAn→AAS→Bool→Int→Int→Bool→List Int→AAO→List Int→AAN→AAc→AAi→AAn→AAS→Int→Int→Bool→List Int→AAO→List Int→AAN→AAc→AAi→AAn→AAS→Option FR
abbrev JF:Type:=Int→List Int→Int→AAO→List Int→AAN→Int→AAc→AAi→AAn→AAS→Bool→Int→Int→Bool→List Int→AAO→List Int→AAN→AAc→AAi→AAn→AAS→Int→Int→Bool→List Int→AAO→List Int→AAN→AAc→AAi→AAn→AAS→Option FR
def Qh(R3:J9)(R7:KG)(q_:I4)(gw:JF)(t4:Int)(AL:AAM)(AE:Int)(Ab:AAO)(DI:AAM)(EJ:AAN)(AZ:Int)(EE:AAc)(D3:AAi)(Fv:AAn)(GJ:AAS)(AM:Bool)(Ap D2:Int)(Ew:Bool)(b2:AAM)(b3:AAO)(b4:AAM)(b5:AAN)(b6:AAc)(b7:AAi)(b8:AAn)(b9:AAS)(Dd EV:Int)(Cy:Bool)(Fc:AAM)(DX:AAO)(GI:AAM)(GH:AAN)(Dy:AAc)(EP:AAi)(FD:AAn)(VA:AAS):Option FR:=
 cond ((decide (t4<(Ab.length:Int))))
  (if(0:Int)≤t4∧t4<(Ab.length:Int)then(
  (El ((Ab.getD (t4.toNat) ([],[],0,())).1,(Ab.getD (t4.toNat) ([],[],0,())).2.1,(Ab.getD (t4.toNat) ([],[],0,())).2.2.1,())).bind fun xH=>
  if DX.length+1≤DA then(
  R3 (AS (t4+1)) AL AE Ab DI EJ AZ EE D3 Fv GJ AM Ap D2 Ew b2 b3 b4 b5 b6 b7 b8 b9 Dd EV Cy Fc (DX++[(xH.2.1,xH.2.2.1,xH.1.1.2.2.1,())]) GI GH Dy EP FD VA)else none)else none)
 (R7 0 AL AE Ab DI EJ AZ EE D3 Fv GJ AM Ap D2 Ew b2 b3 b4 b5 b6 b7 b8 b9 Dd EV Cy Fc DX GI GH Dy EP FD VA)
def QO(R3:J9)(R7:KG)(q_:I4)(gw:JF)(t5:Int)(AL:AAM)(AE:Int)(Ab:AAO)(DI:AAM)(EJ:AAN)(AZ:Int)(EE:AAc)(D3:AAi)(Fv:AAn)(GJ:AAS)(AM:Bool)(Ap D2:Int)(Ew:Bool)(b2:AAM)(b3:AAO)(b4:AAM)(b5:AAN)(b6:AAc)(b7:AAi)(b8:AAn)(b9:AAS)(Dd EV:Int)(Cy:Bool)(Fc:AAM)(DX:AAO)(GI:AAM)(GH:AAN)(Dy:AAc)(EP:AAi)(FD:AAn)(VA:AAS):Option FR:=
 cond ((decide (t5<(EE.length:Int))))
  (if(0:Int)≤t5∧t5<(EE.length:Int)then(
  (EH ((EE.getD (t5.toNat) (0,[],())).1,(EE.getD (t5.toNat) (0,[],())).2.1,())).bind fun ACR=>
  if Dy.length+1≤DA then(
  R7 (AS (t5+1)) AL AE Ab DI EJ AZ EE D3 Fv GJ AM Ap D2 Ew b2 b3 b4 b5 b6 b7 b8 b9 Dd EV Cy Fc DX GI GH (Dy++[(ACR.1.1.1,ACR.2.1,())]) EP FD VA)else none)else none)
 (q_ 0 AL AE Ab DI EJ AZ EE D3 Fv GJ AM Ap D2 Ew b2 b3 b4 b5 b6 b7 b8 b9 Dd EV Cy Fc DX GI GH Dy EP FD VA)
def PU(R3:J9)(R7:KG)(q_:I4)(gw:JF)(t6:Int)(AL:AAM)(AE:Int)(Ab:AAO)(DI:AAM)(EJ:AAN)(AZ:Int)(EE:AAc)(D3:AAi)(Fv:AAn)(GJ:AAS)(AM:Bool)(Ap D2:Int)(Ew:Bool)(b2:AAM)(b3:AAO)(b4:AAM)(b5:AAN)(b6:AAc)(b7:AAi)(b8:AAn)(b9:AAS)(Dd EV:Int)(Cy:Bool)(Fc:AAM)(DX:AAO)(GI:AAM)(GH:AAN)(Dy:AAc)(EP:AAi)(FD:AAn)(VA:AAS):Option FR:=
 cond ((decide (t6<(D3.length:Int))))
  (if(0:Int)≤t6∧t6<(D3.length:Int)then(
  (EI ((D3.getD (t6.toNat) (0,0,[],[],false,[],())).1,(D3.getD (t6.toNat) (0,0,[],[],false,[],())).2.1,(D3.getD (t6.toNat) (0,0,[],[],false,[],())).2.2.1,(D3.getD (t6.toNat) (0,0,[],[],false,[],())).2.2.2.1,(D3.getD (t6.toNat) (0,0,[],[],false,[],())).2.2.2.2.1,(D3.getD (t6.toNat) (0,0,[],[],false,[],())).2.2.2.2.2.1,())).bind fun jr=>
  if EP.length+1≤DA then(
  q_ (AS (t6+1)) AL AE Ab DI EJ AZ EE D3 Fv GJ AM Ap D2 Ew b2 b3 b4 b5 b6 b7 b8 b9 Dd EV Cy Fc DX GI GH Dy (EP++[(jr.1.1.1,jr.1.1.2.1,jr.2.1,jr.2.2.1,jr.1.1.2.2.2.2.1,jr.2.2.2.1,())]) FD VA)else none)else none)
 (gw 0 AL AE Ab DI EJ AZ EE D3 Fv GJ AM Ap D2 Ew b2 b3 b4 b5 b6 b7 b8 b9 Dd EV Cy Fc DX GI GH Dy EP FD VA)
def PT(R3:J9)(R7:KG)(q_:I4)(gw:JF)(t7:Int)(AL:AAM)(AE:Int)(Ab:AAO)(DI:AAM)(EJ:AAN)(AZ:Int)(EE:AAc)(D3:AAi)(Fv:AAn)(GJ:AAS)(AM:Bool)(Ap D2:Int)(Ew:Bool)(b2:AAM)(b3:AAO)(b4:AAM)(b5:AAN)(b6:AAc)(b7:AAi)(b8:AAn)(b9:AAS)(Dd EV:Int)(Cy:Bool)(Fc:AAM)(DX:AAO)(GI:AAM)(GH:AAN)(Dy:AAc)(EP:AAi)(FD:AAn)(VA:AAS):Option FR:=
 cond ((decide (t7<(Fv.length:Int))))
  (if(0:Int)≤t7∧t7<(Fv.length:Int)then(
  (CF ((Fv.getD (t7.toNat) (0,0,[],())).1,(Fv.getD (t7.toNat) (0,0,[],())).2.1,(Fv.getD (t7.toNat) (0,0,[],())).2.2.1,())).bind fun wq=>
  if FD.length+1≤DA then(
  gw (AS (t7+1)) AL AE Ab DI EJ AZ EE D3 Fv GJ AM Ap D2 Ew b2 b3 b4 b5 b6 b7 b8 b9 Dd EV Cy Fc DX GI GH Dy EP (FD++[(wq.1.1.1,wq.1.1.2.1,wq.2.1,())]) VA)else none)else none)
 (some ((((),Dd,(),(),(),EV,(),(),(),(),Cy,()),()),(Fc,DX,GI,GH,Dy,EP,FD,VA,())))
mutual
def CT:Nat→J9
 |0=>fun _ _ _ _ _ _ _ _ _ _ _ _ _ _ _ _ _ _ _ _ _ _ _ _ _ _ _ _ _ _ _ _ _ _=>none
 |n+1=>Qh (CT n) (Cj n) (CP n) (CO n)
def Cj:Nat→KG
 |0=>fun _ _ _ _ _ _ _ _ _ _ _ _ _ _ _ _ _ _ _ _ _ _ _ _ _ _ _ _ _ _ _ _ _ _=>none
 |n+1=>QO (CT n) (Cj n) (CP n) (CO n)
def CP:Nat→I4
 |0=>fun _ _ _ _ _ _ _ _ _ _ _ _ _ _ _ _ _ _ _ _ _ _ _ _ _ _ _ _ _ _ _ _ _ _=>none
 |n+1=>PU (CT n) (Cj n) (CP n) (CO n)
def CO:Nat→JF
 |0=>fun _ _ _ _ _ _ _ _ _ _ _ _ _ _ _ _ _ _ _ _ _ _ _ _ _ _ _ _ _ _ _ _ _ _=>none
 |n+1=>PT (CT n) (Cj n) (CP n) (CO n)
end
def Ql(R3:J9)(R7:KG)(q_:I4)(gw:JF)(p0:AA2):Option FR:=
 if 0+p0.1.length≤DA then(
 if 0+p0.2.2.2.1.length≤DA then(
 (F8 (p0.2.2.2.2.1,p0.2.2.2.2.2.1,())).bind fun u2=>
 if 0+p0.2.2.2.2.2.2.2.2.2.1.length≤DA then(
 R3 0 p0.1 p0.2.1 p0.2.2.1 p0.2.2.2.1 p0.2.2.2.2.1 p0.2.2.2.2.2.1 p0.2.2.2.2.2.2.1 p0.2.2.2.2.2.2.2.1 p0.2.2.2.2.2.2.2.2.1 p0.2.2.2.2.2.2.2.2.2.1 p0.2.2.2.2.2.2.2.2.2.2.1 0 0 false [] [] [] [] [] [] [] [] p0.2.1 u2.1.1.2.1 p0.2.2.2.2.2.2.2.2.2.2.1 p0.1 [] p0.2.2.2.1 u2.2.1 [] [] [] p0.2.2.2.2.2.2.2.2.2.1)else none)else none)else none
def MG(p0:AA2):Option FR:=Ql (CT AY) (Cj AY) (CP AY) (CO AY) p0
abbrev O2:Type:=AA9×AA_
abbrev Sf:Type:=Int→Int→List Int→Option O2
def OB(R3:Sf)(t0 t4:Int)(b0:AAM):Option O2:=
 cond (decide (t4<8))
  ((B8 t0 0 255).bind fun u1=>
  cond (u1.1.1)
   (if t4<0 then none else(
   cond (((cQ .i64 (t0.fdiv (2^(min t4.toNat 64))) 1)==1))
    (if b0.length+1≤DA then(
    R3 t0 (AS (t4+1)) (b0++[t4]))else none)
   (R3 t0 (AS (t4+1)) b0)))
  (some (((),()),(b0,()))))
 (some (((),()),(b0,())))
def H9:Nat→Sf
 |0=>fun _ _ _=>none
 |n+1=>OB (H9 n)
def Ul(R3:Sf)(p0:Int):Option O2:=
 R3 p0 0 []
def N7(p0:Int):Option O2:=Ul (H9 AY) p0
abbrev nJ:Type:=(AJo×Unit)×ADV
def MS(p0:AAq)(p1:AA5)(p2:AAM):Option nJ:=
 (Mj (p0.1,p0.2.1,()) (p1.1,p1.2.1,())).bind fun u1=>
 cond (!u1.1.1)
  (some (((((),0,()),0,false,()),()),([],())))
 ((F8 (p1.1,p1.2.1,())).bind fun u2=>
 (Ei (p0.1,p0.2.1,()) p2).bind fun u3=>
 cond (!u3.1.1)
  (some (((((),u2.1.1.2.1,()),0,false,()),()),(u2.2.1,())))
 (cond (((p1.1.length:Int)==30))
  (some (((((),u2.1.1.2.1,()),0,false,()),()),(u2.2.1,())))
 (if 0+p2.length≤DA then(
 if u2.2.1.length+1≤DA then(
 let x5:AAN:=u2.2.1++[(p2,false,0,())]
 some (((((),u2.1.1.2.1,()),(x5.length:Int),true,()),()),(x5,())))else none)else none)))
abbrev dp:Type:=ACL×(List Int×AAO×List Int×Unit×Unit×Unit×AAn×AAS×AAN×AAc×AAi×Unit)
def V8(CC CE:Int)(BM:Bool)(p1:ABA)(b0:AAM)(b1:AAO)(b2:AAM)(b3:AAN)(b4:AAc)(b5:AAi)(b6:AAn)(b7:AAS):Option dp:=
 cond (((b4.length:Int)==4))
  (some (((((),CC,(),(),(),CE,(),(),(),(),BM,()),4,()),()),(b0,b1,b2,(),(),(),b6,b7,b3,b4,b5,())))
 ((N7 p1.2.1).bind fun u2=>
 (MS (b0,CC,()) (b3,CE,()) u2.2.1).bind fun u3=>
 cond (!u3.1.1.2.2.1)
  (some (((((),CC,(),(),(),CE,(),(),(),(),BM,()),4,()),()),(b0,b1,b2,(),(),(),b6,b7,b3,b4,b5,())))
 (if b4.length+1≤DA then(
 some (((((),CC,(),(),(),u3.1.1.1.2.1,(),(),(),(),BM,()),0,()),()),(b0,b1,b2,(),(),(),b6,b7,u3.2.1,(b4++[(u3.1.1.2.1,[],())]),[],())))else none))
abbrev j7:Type:=AA1×Unit
def Lc(p0:AA2)(p1:Int):Option j7:=
 (B8 p1 0 (AS ((p0.2.2.2.2.2.2.1.length:Int)-1))).bind fun u2=>
 some ((u2.1.1,()),())
abbrev kF:Type:=(AJ4×Unit)×ADr
def Gj(p0:AAq)(p1:AA8)(p2:AA7):Option kF:=
 (Hd (p0.1,p0.2.1,()) (p1.1,p1.2.1,())).bind fun u1=>
 cond (!u1.1.1)
  (some ((((0,(),()),0,false,()),()),([],())))
 ((EH (p1.1,p1.2.1,())).bind fun u2=>
 if u2.2.1.length+1≤DA then(
 let x3:AA4:=u2.2.1++[(p2,[],false,())]
 (Hd (p0.1,p0.2.1,()) (u2.1.1.1,x3,())).bind fun u4=>
 cond (!u4.1.1)
  ((EH (p1.1,p1.2.1,())).bind fun u5=>
  some ((((u5.1.1.1,(),()),0,false,()),()),(u5.2.1,())))
 (some ((((u2.1.1.1,(),()),(x3.length:Int),true,()),()),(x3,()))))else none)
abbrev Hn:Type:=AA3×Unit
def CW(p0 p1:Int):Option Hn:=
 some ((AS ((AS (4294967296*p0))+p1),()),())
abbrev Kq:Type:=ACL×(List Int×AAO×List Int×AAN×AAc×AAi×AAn×Unit×AAS×Unit)
abbrev SG:Type:=Int→List Int→AAO→List Int→AAN→AAc→AAi→AAn→AAS→Int→Int→Bool→Int→Int→Bool→List Int→AAO→List Int→AAN→AAc→AAi→AAn→AAS→Int→List UInt8→Bool→Option Kq
abbrev P3:Type:=Bool→Int→List Int→AAO→List Int→AAN→AAc→AAi→AAn→AAS→Int→Int→Bool→Int→Int→Bool→List Int→AAO→List Int→AAN→AAc→AAi→AAn→AAS→Int→List UInt8→Bool→AAS→Option Kq
def X5(R9:SG)(R16:P3)(t10:Int)(b0:AAM)(b1:AAO)(b2:AAM)(b3:AAN)(b4:AAc)(b5:AAi)(b6:AAn)(b7:AAS)(DV Dk:Int)(CA:Bool)(Dj FB:Int)(Cl:Bool)(MC:AAM)(Fc:AAO)(DX:AAM)(GI:AAN)(GH:AAc)(Dy:AAi)(EP:AAn)(FD:AAS)(CX:Int)(C0:AA7)(Ca:Bool):Option Kq:=
 cond ((decide (t10<(b7.length:Int))))
  (if(0:Int)≤t10∧t10<(b7.length:Int)then(
  cond (((b7.getD (t10.toNat) (0,[],false,())).1)==CX)
   (some (((((),DV,(),(),(),Dk,(),(),(),(),CA,()),4,()),()),(b0,b1,b2,b3,b4,b5,b6,(),b7,())))
  (R9 (AS (t10+1)) b0 b1 b2 b3 b4 b5 b6 b7 DV Dk CA Dj FB Cl MC Fc DX GI GH Dy EP FD CX C0 Ca))else none)
 (R16 false 0 b0 b1 b2 b3 b4 b5 b6 b7 DV Dk CA Dj FB Cl MC Fc DX GI GH Dy EP FD CX C0 Ca [])
def Xp(R9:SG)(R16:P3)(t12:Bool)(t13:Int)(b0:AAM)(b1:AAO)(b2:AAM)(b3:AAN)(b4:AAc)(b5:AAi)(b6:AAn)(b7:AAS)(DV Dk:Int)(CA:Bool)(Dj FB:Int)(Cl:Bool)(MC:AAM)(Fc:AAO)(DX:AAM)(GI:AAN)(GH:AAc)(Dy:AAi)(EP:AAn)(FD:AAS)(CX:Int)(C0:AA7)(Ca:Bool)(tD:AAS):Option Kq:=
 cond ((decide (t13<(b7.length:Int))))
  (cond (!t12)
   (if(0:Int)≤t13∧t13<(b7.length:Int)then(
   cond (decide (((b7.getD (t13.toNat) (0,[],false,())).1)>CX))
    (if tD.length+1≤DA then(
    let x18:AAS:=tD++[(CX,C0,Ca,())]
    if(0:Int)≤t13∧t13<(b7.length:Int)then(
    if x18.length+1≤DA then(
    R16 true (AS (t13+1)) b0 b1 b2 b3 b4 b5 b6 b7 DV Dk CA Dj FB Cl MC Fc DX GI GH Dy EP FD CX C0 Ca (x18++[((b7.getD (t13.toNat) (0,[],false,())).1,(b7.getD (t13.toNat) (0,[],false,())).2.1,(b7.getD (t13.toNat) (0,[],false,())).2.2.1,())]))else none)else none)else none)
   (if(0:Int)≤t13∧t13<(b7.length:Int)then(
   if tD.length+1≤DA then(
   R16 t12 (AS (t13+1)) b0 b1 b2 b3 b4 b5 b6 b7 DV Dk CA Dj FB Cl MC Fc DX GI GH Dy EP FD CX C0 Ca (tD++[((b7.getD (t13.toNat) (0,[],false,())).1,(b7.getD (t13.toNat) (0,[],false,())).2.1,(b7.getD (t13.toNat) (0,[],false,())).2.2.1,())]))else none)else none))else none)
  (if(0:Int)≤t13∧t13<(b7.length:Int)then(
  if tD.length+1≤DA then(
  R16 t12 (AS (t13+1)) b0 b1 b2 b3 b4 b5 b6 b7 DV Dk CA Dj FB Cl MC Fc DX GI GH Dy EP FD CX C0 Ca (tD++[((b7.getD (t13.toNat) (0,[],false,())).1,(b7.getD (t13.toNat) (0,[],false,())).2.1,(b7.getD (t13.toNat) (0,[],false,())).2.2.1,())]))else none)else none))
 (cond (!t12)
  (if tD.length+1≤DA then(
  some (((((),DV,(),(),(),Dk,(),(),(),(),CA,()),0,()),()),(b0,b1,b2,b3,b4,b5,b6,(),(tD++[(CX,C0,Ca,())]),())))else none)
 (some (((((),DV,(),(),(),Dk,(),(),(),(),CA,()),0,()),()),(b0,b1,b2,b3,b4,b5,b6,(),tD,()))))
mutual
def L3:Nat→SG
 |0=>fun _ _ _ _ _ _ _ _ _ _ _ _ _ _ _ _ _ _ _ _ _ _ _ _ _ _=>none
 |n+1=>X5 (L3 n) (J8 n)
def J8:Nat→P3
 |0=>fun _ _ _ _ _ _ _ _ _ _ _ _ _ _ _ _ _ _ _ _ _ _ _ _ _ _ _ _=>none
 |n+1=>Xp (L3 n) (J8 n)
end
def YX(R9:SG)(R16:P3)(CC CE:Int)(BM:Bool)(p1:ABA)(b0:AAM)(b1:AAO)(b2:AAM)(b3:AAN)(b4:AAc)(b5:AAi)(b6:AAn)(b7:AAS):Option Kq:=
 (Lc (b0,CC,b1,b2,b3,CE,b4,b5,b6,b7,BM,()) p1.2.1).bind fun u1=>
 cond (!u1.1.1)
  (some (((((),CC,(),(),(),CE,(),(),(),(),BM,()),2,()),()),(b0,b1,b2,b3,b4,b5,b6,(),b7,())))
 (if(0:Int)≤p1.2.1∧p1.2.1<(b4.length:Int)then(
 (Gj (b0,CC,()) ((b4.getD (p1.2.1.toNat) (0,[],())).1,(b4.getD (p1.2.1.toNat) (0,[],())).2.1,()) p1.2.2.2.2.1).bind fun u2=>
 cond (!u2.1.1.2.2.1)
  (some (((((),CC,(),(),(),CE,(),(),(),(),BM,()),4,()),()),(b0,b1,b2,b3,b4,b5,b6,(),b7,())))
 (cond (((b7.length:Int)==120))
  (some (((((),CC,(),(),(),CE,(),(),(),(),BM,()),4,()),()),(b0,b1,b2,b3,b4,b5,b6,(),b7,())))
 (if(0:Int)≤p1.2.1∧p1.2.1<(b4.length:Int)then(
 (CW u2.1.1.1.1 u2.1.1.2.1).bind fun u5=>
 R9 0 b0 b1 b2 b3 (b4.set (p1.2.1.toNat) (u2.1.1.1.1,u2.2.1,())) b5 b6 b7 CC CE BM 0 0 false [] [] [] [] [] [] [] [] u5.1.1 p1.2.2.2.2.1 false)else none)))else none)
def Yp(CC CE:Int)(BM:Bool)(p1:ABA)(b0:AAM)(b1:AAO)(b2:AAM)(b3:AAN)(b4:AAc)(b5:AAi)(b6:AAn)(b7:AAS):Option Kq:=YX (L3 AY) (J8 AY) CC CE BM p1 b0 b1 b2 b3 b4 b5 b6 b7
abbrev og:Type:=AA3×Unit
def Ha(p0:AA2)(p1:Int):Option og:=
 (B8 p1 0 (AS ((p0.2.2.1.length:Int)-1))).bind fun u2=>
 cond (!u2.1.1)
  (some ((2,()),()))
 ((Cv p0.2.2.2.1 p1).bind fun u3=>
 cond (u3.1.1)
  (some ((3,()),()))
 (some ((0,()),())))
abbrev nZ:Type:=AA1×Unit
def WK(p0:AA6)(p1:ABk):Option nZ:=
 cond (p1.2.1==0)
  ((Cf p1.1).bind fun u1=>
  some (((decide (u1.1.1>p0.2.2.1)),()),()))
 (some (((decide (p1.2.1>p0.2.2.1)),()),()))
abbrev mc:Type:=AC4×ACu
def M4(p0:AA6)(p1:ABk):Option mc:=
 (GU (p0.1,p0.2.1,p0.2.2.1,())).bind fun u1=>
 cond (!u1.1.1)
  (some (((((),(),0,()),false,()),()),([],[],())))
 ((El (p0.1,p0.2.1,p0.2.2.1,())).bind fun u2=>
 (MW (p1.1,p1.2.1,p1.2.2.1,p1.2.2.2.1,())).bind fun u3=>
 cond (!u3.1.1)
  (some (((((),(),u2.1.1.2.2.1,()),false,()),()),(u2.2.1,u2.2.2.1,())))
 ((WK (p0.1,p0.2.1,p0.2.2.1,()) (p1.1,p1.2.1,p1.2.2.1,p1.2.2.2.1,())).bind fun u4=>
 cond (!u4.1.1)
  (some (((((),(),u2.1.1.2.2.1,()),false,()),()),(u2.2.1,u2.2.2.1,())))
 (cond ((p0.2.1.length:Int)==20)
  (some (((((),(),u2.1.1.2.2.1,()),false,()),()),(u2.2.1,u2.2.2.1,())))
 (if u2.2.2.1.length+1≤DA then(
 some (((((),(),u2.1.1.2.2.1,()),true,()),()),(u2.2.1,(u2.2.2.1++[(p1.1,p1.2.1,p1.2.2.1,p1.2.2.2.1,())]),())))else none))))
abbrev bZ:Type:=ACL×ACZ
def T_(CC CE:Int)(BM:Bool)(p1:ABA)(b0:AAM)(b1:AAO)(b2:AAM)(b3:AAN)(b4:AAc)(b5:AAi)(b6:AAn)(b7:AAS):Option bZ:=
 (Lc (b0,CC,b1,b2,b3,CE,b4,b5,b6,b7,BM,()) p1.2.1).bind fun u1=>
 cond (!u1.1.1)
  (some (((((),CC,(),(),(),CE,(),(),(),(),BM,()),2,()),()),(b0,b1,b2,b3,b4,b5,b6,b7,())))
 (if(0:Int)≤p1.2.1∧p1.2.1<(b4.length:Int)then(
 (B8 p1.2.2.1 1 (((b4.getD (p1.2.1.toNat) (0,[],())).2.1).length:Int)).bind fun u3=>
 cond (!u3.1.1)
  (some (((((),CC,(),(),(),CE,(),(),(),(),BM,()),2,()),()),(b0,b1,b2,b3,b4,b5,b6,b7,())))
 ((Ha (b0,CC,b1,b2,b3,CE,b4,b5,b6,b7,BM,()) p1.2.2.2.1).bind fun u4=>
 cond (u4.1.1 !=0)
  (some (((((),CC,(),(),(),CE,(),(),(),(),BM,()),u4.1.1,()),()),(b0,b1,b2,b3,b4,b5,b6,b7,())))
 ((CU (b3,CE,()) ((b4.getD (p1.2.1.toNat) (0,[],())).1)).bind fun u6=>
 (Cv u6.2.1 p1.2.2.2.1).bind fun u7=>
 cond (!u7.1.1)
  (some (((((),CC,(),(),(),CE,(),(),(),(),BM,()),2,()),()),(b0,b1,b2,b3,b4,b5,b6,b7,())))
 (if(0:Int)≤p1.2.2.2.1∧p1.2.2.2.1<(b1.length:Int)then(
 if(0:Int)≤AS (p1.2.2.1-1)∧AS (p1.2.2.1-1)<(((b4.getD (p1.2.1.toNat) (0,[],())).2.1).length:Int)then(
 (CW ((b4.getD (p1.2.1.toNat) (0,[],())).1) p1.2.2.1).bind fun D1=>
 (M4 ((b1.getD (p1.2.2.2.1.toNat) ([],[],0,())).1,(b1.getD (p1.2.2.2.1.toNat) ([],[],0,())).2.1,(b1.getD (p1.2.2.2.1.toNat) ([],[],0,())).2.2.1,()) (D1.1.1,0,false,((((b4.getD (p1.2.1.toNat) (0,[],())).2.1).getD ((AS (p1.2.2.1-1)).toNat) ([],[],false,())).1),())).bind fun MO=>
 cond (!MO.1.1.2.1)
  (some (((((),CC,(),(),(),CE,(),(),(),(),BM,()),4,()),()),(b0,b1,b2,b3,b4,b5,b6,b7,())))
 (if(0:Int)≤p1.2.2.2.1∧p1.2.2.2.1<(b1.length:Int)then(
 some (((((),CC,(),(),(),CE,(),(),(),(),BM,()),0,()),()),(b0,(b1.set (p1.2.2.2.1.toNat) (MO.2.1,MO.2.2.1,MO.1.1.1.2.2.1,())),b2,b3,b4,b5,b6,b7,())))else none))else none)else none))))else none)
abbrev qk:Type:=AFH×Unit
def Q2(p0 p1:ABk):Option qk:=
 cond ((decide (p1.2.1>p0.2.1)))
  (some (((p1.1,p1.2.1,p1.2.2.1,p1.2.2.2.1,()),()),()))
 (some (((p0.1,p0.2.1,p0.2.2.1,p0.2.2.2.1,()),()),()))
abbrev UG:Type:=AA9×ADw
abbrev XI:Type:=AAR→Bool→Int→Int→Int→Bool→List UInt8→AAR→Option UG
def SX(R4:XI)(t0:AAR)(t6:Bool)(t7 AL AE:Int)(Ab:Bool)(DI:AA7)(b1:AAR):Option UG:=
 cond ((decide (t7<(t0.length:Int))))
  (cond (!t6)
   (if(0:Int)≤t7∧t7<(t0.length:Int)then(
   cond (((t0.getD (t7.toNat) (0,0,false,[],())).1)==AL)
    (if(0:Int)≤t7∧t7<(t0.length:Int)then(
    (Q2 ((t0.getD (t7.toNat) (0,0,false,[],())).1,(t0.getD (t7.toNat) (0,0,false,[],())).2.1,(t0.getD (t7.toNat) (0,0,false,[],())).2.2.1,(t0.getD (t7.toNat) (0,0,false,[],())).2.2.2.1,()) (AL,AE,Ab,DI,())).bind fun u3=>
    if b1.length+1≤DA then(
    R4 t0 true (AS (t7+1)) AL AE Ab DI (b1++[(u3.1.1.1,u3.1.1.2.1,u3.1.1.2.2.1,u3.1.1.2.2.2.1,())]))else none)else none)
   (cond (!t6)
    (if(0:Int)≤t7∧t7<(t0.length:Int)then(
    cond (decide (((t0.getD (t7.toNat) (0,0,false,[],())).1)>AL))
     (if b1.length+1≤DA then(
     let x6:AAR:=b1++[(AL,AE,Ab,DI,())]
     if(0:Int)≤t7∧t7<(t0.length:Int)then(
     if x6.length+1≤DA then(
     R4 t0 true (AS (t7+1)) AL AE Ab DI (x6++[((t0.getD (t7.toNat) (0,0,false,[],())).1,(t0.getD (t7.toNat) (0,0,false,[],())).2.1,(t0.getD (t7.toNat) (0,0,false,[],())).2.2.1,(t0.getD (t7.toNat) (0,0,false,[],())).2.2.2.1,())]))else none)else none)else none)
    (if(0:Int)≤t7∧t7<(t0.length:Int)then(
    if b1.length+1≤DA then(
    R4 t0 t6 (AS (t7+1)) AL AE Ab DI (b1++[((t0.getD (t7.toNat) (0,0,false,[],())).1,(t0.getD (t7.toNat) (0,0,false,[],())).2.1,(t0.getD (t7.toNat) (0,0,false,[],())).2.2.1,(t0.getD (t7.toNat) (0,0,false,[],())).2.2.2.1,())]))else none)else none))else none)
   (if(0:Int)≤t7∧t7<(t0.length:Int)then(
   if b1.length+1≤DA then(
   R4 t0 t6 (AS (t7+1)) AL AE Ab DI (b1++[((t0.getD (t7.toNat) (0,0,false,[],())).1,(t0.getD (t7.toNat) (0,0,false,[],())).2.1,(t0.getD (t7.toNat) (0,0,false,[],())).2.2.1,(t0.getD (t7.toNat) (0,0,false,[],())).2.2.2.1,())]))else none)else none)))else none)
  (cond (!t6)
   (if(0:Int)≤t7∧t7<(t0.length:Int)then(
   cond (decide (((t0.getD (t7.toNat) (0,0,false,[],())).1)>AL))
    (if b1.length+1≤DA then(
    let cL:AAR:=b1++[(AL,AE,Ab,DI,())]
    if(0:Int)≤t7∧t7<(t0.length:Int)then(
    if cL.length+1≤DA then(
    R4 t0 true (AS (t7+1)) AL AE Ab DI (cL++[((t0.getD (t7.toNat) (0,0,false,[],())).1,(t0.getD (t7.toNat) (0,0,false,[],())).2.1,(t0.getD (t7.toNat) (0,0,false,[],())).2.2.1,(t0.getD (t7.toNat) (0,0,false,[],())).2.2.2.1,())]))else none)else none)else none)
   (if(0:Int)≤t7∧t7<(t0.length:Int)then(
   if b1.length+1≤DA then(
   R4 t0 t6 (AS (t7+1)) AL AE Ab DI (b1++[((t0.getD (t7.toNat) (0,0,false,[],())).1,(t0.getD (t7.toNat) (0,0,false,[],())).2.1,(t0.getD (t7.toNat) (0,0,false,[],())).2.2.1,(t0.getD (t7.toNat) (0,0,false,[],())).2.2.2.1,())]))else none)else none))else none)
  (if(0:Int)≤t7∧t7<(t0.length:Int)then(
  if b1.length+1≤DA then(
  R4 t0 t6 (AS (t7+1)) AL AE Ab DI (b1++[((t0.getD (t7.toNat) (0,0,false,[],())).1,(t0.getD (t7.toNat) (0,0,false,[],())).2.1,(t0.getD (t7.toNat) (0,0,false,[],())).2.2.1,(t0.getD (t7.toNat) (0,0,false,[],())).2.2.2.1,())]))else none)else none)))
 (cond (!t6)
  (if b1.length+1≤DA then(
  some (((),()),((b1++[(AL,AE,Ab,DI,())]),())))else none)
 (some (((),()),(b1,()))))
def JW:Nat→XI
 |0=>fun _ _ _ _ _ _ _ _=>none
 |n+1=>SX (JW n)
def X2(R4:XI)(p0:AAR)(p1:ABk):Option UG:=
 R4 p0 false 0 p1.1 p1.2.1 p1.2.2.1 p1.2.2.2.1 []
def Qz(p0:AAR)(p1:ABk):Option UG:=X2 (JW AY) p0 p1
abbrev Nj:Type:=AC4×ACu
abbrev QQ:Type:=Int→Int→AAR→AAR→Int→Int→AAR→AAR→Int→AAR→AAR→Option Nj
def S4(R5:QQ)(t1 t7:Int)(AL AE:AAR)(Ab DE:Int)(b2 b3:AAR)(Mk:Int)(b5 b6:AAR):Option Nj:=
 cond ((decide (t7<(AE.length:Int))))
  (if t7<0 then none else(
  cond (((cQ .i64 (t1.fdiv (2^(min t7.toNat 64))) 1)==1))
   (if(0:Int)≤t7∧t7<(AE.length:Int)then(
   (Qz b5 ((AE.getD (t7.toNat) (0,0,false,[],())).1,(AE.getD (t7.toNat) (0,0,false,[],())).2.1,(AE.getD (t7.toNat) (0,0,false,[],())).2.2.1,(AE.getD (t7.toNat) (0,0,false,[],())).2.2.2.1,())).bind fun u5=>
   R5 t1 (AS (t7+1)) AL AE Ab DE b2 b3 Mk u5.2.1 b6)else none)
  (R5 t1 (AS (t7+1)) AL AE Ab DE b2 b3 Mk b5 b6)))
 ((B8 t1 0 1048575).bind fun u6=>
 cond (!u6.1.1)
  ((El (AL,AE,Ab,())).bind fun u7=>
  some (((((),(),u7.1.1.2.2.1,()),false,()),()),(u7.2.1,u7.2.2.1,())))
 (cond ((decide ((b5.length:Int)>200)))
  ((El (AL,AE,Ab,())).bind fun u9=>
  some (((((),(),u9.1.1.2.2.1,()),false,()),()),(u9.2.1,u9.2.2.1,())))
 (some (((((),(),Mk,()),true,()),()),(b5,b6,())))))
def Ji:Nat→QQ
 |0=>fun _ _ _ _ _ _ _ _ _ _ _=>none
 |n+1=>S4 (Ji n)
def S7(R5:QQ)(p0:AA6)(p1:Int):Option Nj:=
 (GU (p0.1,p0.2.1,p0.2.2.1,())).bind fun u1=>
 cond (!u1.1.1)
  (some (((((),(),0,()),false,()),()),([],[],())))
 (if 0+p0.1.length≤DA then(
 R5 p1 0 p0.1 p0.2.1 p0.2.2.1 0 [] [] p0.2.2.1 p0.1 [])else none)
def Ml(p0:AA6)(p1:Int):Option Nj:=S7 (Ji AY) p0 p1
abbrev j8:Type:=AC4×ACu
def JS(p0:AA6):Option j8:=
 (Ml (p0.1,p0.2.1,p0.2.2.1,()) 1048575).bind fun u1=>
 some (((((),(),u1.1.1.1.2.2.1,()),u1.1.1.2.1,()),()),(u1.2.1,u1.2.2.1,()))
abbrev GV:Type:=AD1×Unit
abbrev ZZ:Type:=AAR→Int→Int→Int→Int→Bool→List UInt8→Option GV
def aI(R2:ZZ)(t0:AAR)(t1 t6 AL AE:Int)(Ab:Bool)(DI:AA7):Option GV:=
 cond ((decide (t6<(t0.length:Int))))
  (if(0:Int)≤t6∧t6<(t0.length:Int)then(
  cond (((t0.getD (t6.toNat) (0,0,false,[],())).1)==t1)
   (if(0:Int)≤t6∧t6<(t0.length:Int)then(
   some (((((t0.getD (t6.toNat) (0,0,false,[],())).1,(t0.getD (t6.toNat) (0,0,false,[],())).2.1,(t0.getD (t6.toNat) (0,0,false,[],())).2.2.1,(t0.getD (t6.toNat) (0,0,false,[],())).2.2.2.1,()),true,()),()),()))else none)
  (R2 t0 t1 (AS (t6+1)) AL AE Ab DI))else none)
 (some ((((0,0,false,[],()),false,()),()),()))
def Pv:Nat→ZZ
 |0=>fun _ _ _ _ _ _ _=>none
 |n+1=>aI (Pv n)
def aG(R2:ZZ)(p0:AAR)(p1:Int):Option GV:=
 R2 p0 p1 0 0 0 false []
def HD(p0:AAR)(p1:Int):Option GV:=aG (Pv AY) p0 p1
abbrev Ft:Type:=AEC×ADr
def Dh(p0:AAq)(p1:AA8)(p2 p3:Int):Option Ft:=
 (Hd (p0.1,p0.2.1,()) (p1.1,p1.2.1,())).bind fun u1=>
 cond (!u1.1.1)
  (some ((((0,(),()),false,()),()),([],())))
 ((EH (p1.1,p1.2.1,())).bind fun u2=>
 (B8 p2 1 (p1.2.1.length:Int)).bind fun u4=>
 cond (!u4.1.1)
  (some ((((u2.1.1.1,(),()),false,()),()),(u2.2.1,())))
 ((B8 p3 0 (AS ((p0.1.length:Int)-1))).bind fun u6=>
 cond (!u6.1.1)
  (some ((((u2.1.1.1,(),()),false,()),()),(u2.2.1,())))
 (if(0:Int)≤AS (p2-1)∧AS (p2-1)<(p1.2.1.length:Int)then(
 cond (((p1.2.1.getD ((AS (p2-1)).toNat) ([],[],false,())).2.2.1))
  (some ((((u2.1.1.1,(),()),false,()),()),(u2.2.1,())))
 (if(0:Int)≤AS (p2-1)∧AS (p2-1)<(u2.2.1.length:Int)then(
 (IG ((u2.2.1.getD ((AS (p2-1)).toNat) ([],[],false,())).2.1) p3).bind fun u8=>
 if(0:Int)≤AS (p2-1)∧AS (p2-1)<(u2.2.1.length:Int)then(
 let x9:AA4:=(u2.2.1.set ((AS (p2-1)).toNat) ((u2.2.1.getD ((AS (p2-1)).toNat) ([],[],false,())).1,u8.2.1,(u2.2.1.getD ((AS (p2-1)).toNat) ([],[],false,())).2.2.1,()))
 if(0:Int)≤AS (p2-1)∧AS (p2-1)<(x9.length:Int)then(
 (Ei (p0.1,p0.2.1,()) ((x9.getD ((AS (p2-1)).toNat) ([],[],false,())).2.1)).bind fun D1=>
 if(0:Int)≤AS (p2-1)∧AS (p2-1)<(x9.length:Int)then(
 some ((((u2.1.1.1,(),()),true,()),()),((x9.set ((AS (p2-1)).toNat) ((x9.getD ((AS (p2-1)).toNat) ([],[],false,())).1,(x9.getD ((AS (p2-1)).toNat) ([],[],false,())).2.1,D1.1.1,())),())))else none)else none)else none)else none))else none)))
abbrev ki:Type:=ADv×Unit
def Rl(p0 p1:Int):Option ki:=
 (B8 p0 1 30).bind fun u1=>
 cond (!u1.1.1)
  (some (((0,false,()),()),()))
 ((B8 p1 1 60).bind fun u2=>
 cond (!u2.1.1)
  (some (((0,false,()),()),()))
 (some (((AS ((AS (4294967296*p0))+p1),true,()),()),())))
abbrev F9:Type:=AD1×Unit
def Ec(p0:AAy)(p1:Int):Option F9:=
 (Rl p0.2.1 p1).bind fun u1=>
 cond (!p0.2.2.2.2.1)
  (some ((((0,0,false,[],()),false,()),()),()))
 (cond (!u1.1.1.2.1)
  (some ((((0,0,false,[],()),false,()),()),()))
 (cond (decide (p1>(p0.2.2.2.2.2.1.length:Int)))
  (some ((((0,0,false,[],()),false,()),()),()))
 ((HD p0.2.2.2.1 u1.1.1.1).bind fun u3=>
 cond (u3.1.1.2.1)
  (some ((((u1.1.1.1,p0.1,u3.1.1.1.2.2.1,u3.1.1.1.2.2.2.1,()),true,()),()),()))
 (some ((((u1.1.1.1,p0.1,true,[],()),true,()),()),())))))
abbrev Df:Type:=ADt×ACw
def EM(p0:AAq)(p1:AAy)(p2 p3:Int):Option Df:=
 (Is (p0.1,p0.2.1,()) (p1.1,p1.2.1,p1.2.2.1,p1.2.2.2.1,p1.2.2.2.2.1,p1.2.2.2.2.2.1,())).bind fun u1=>
 cond (!u1.1.1)
  (some ((((0,0,(),(),false,(),()),false,()),()),([],[],[],())))
 ((EI (p1.1,p1.2.1,p1.2.2.1,p1.2.2.2.1,p1.2.2.2.2.1,p1.2.2.2.2.2.1,())).bind fun u2=>
 (B8 p2 1 (p1.2.2.2.2.2.1.length:Int)).bind fun u4=>
 cond (!u4.1.1)
  (some ((((u2.1.1.1,u2.1.1.2.1,(),(),u2.1.1.2.2.2.2.1,(),()),false,()),()),(u2.2.1,u2.2.2.1,u2.2.2.2.1,())))
 ((B8 p3 0 (AS ((p0.1.length:Int)-1))).bind fun u6=>
 cond (!u6.1.1)
  (some ((((u2.1.1.1,u2.1.1.2.1,(),(),u2.1.1.2.2.2.2.1,(),()),false,()),()),(u2.2.1,u2.2.2.1,u2.2.2.2.1,())))
 (if(0:Int)≤AS (p2-1)∧AS (p2-1)<(u2.2.2.2.1.length:Int)then(
 (IG (u2.2.2.2.1.getD ((AS (p2-1)).toNat) []) p3).bind fun u7=>
 if(0:Int)≤AS (p2-1)∧AS (p2-1)<(u2.2.2.2.1.length:Int)then(
 some ((((u2.1.1.1,u2.1.1.2.1,(),(),u2.1.1.2.2.2.2.1,(),()),true,()),()),(u2.2.1,u2.2.2.1,(u2.2.2.2.1.set ((AS (p2-1)).toNat) u7.2.1),())))else none)else none)))
abbrev Bn:Type:=AD0×ACZ
abbrev IK:Type:=Int→Int→List Int→AAO→List Int→AAN→AAc→AAi→AAn→AAS→Int→Int→Bool→Int→Int→Bool→List Int→AAO→List Int→AAN→AAc→AAi→AAn→AAS→AAR→AAR→Int→Option Bn
abbrev IJ:Type:=Int→Int→Int→Int→Int→Bool→List Int→AAO→List Int→AAN→AAc→AAi→AAn→AAS→Int→Int→Bool→Int→Int→Bool→List Int→AAO→List Int→AAN→AAc→AAi→AAn→AAS→AAR→AAR→Int→Int→AA4→Option Bn
abbrev HH:Type:=Int→Int→Int→Int→Int→Bool→List Int→AAO→List Int→AAN→AAc→AAi→AAn→AAS→Int→Int→Bool→Int→Int→Bool→List Int→AAO→List Int→AAN→AAc→AAi→AAn→AAS→AAR→AAR→Int→Int→AA4→Option Bn
abbrev HI:Type:=Int→Int→List Int→AAO→List Int→AAN→AAc→AAi→AAn→AAS→Int→Int→Bool→Int→Int→Bool→List Int→AAO→List Int→AAN→AAc→AAi→AAn→AAS→AAR→AAR→Int→Option Bn
abbrev HM:Type:=Int→Int→Int→List Int→AAO→List Int→AAN→AAc→AAi→AAn→AAS→Int→Int→Bool→Int→Int→Bool→List Int→AAO→List Int→AAN→AAc→AAi→AAn→AAS→AAR→AAR→Int→Int→Int→List Int→AAR→Bool→List AAM→Option Bn
def Md(R3:IK)(R8:IJ)(gw:HH)(R21:HI)(R25:HM)(t1 t6:Int)(b0:AAM)(b1:AAO)(b2:AAM)(b3:AAN)(b4:AAc)(b5:AAi)(b6:AAn)(b7:AAS)(DV Dk:Int)(CA:Bool)(Dj FB:Int)(Cl:Bool)(MC:AAM)(Fc:AAO)(DX:AAM)(GI:AAN)(GH:AAc)(Dy:AAi)(EP:AAn)(FD:AAS)(CX C0:AAR)(Ca:Int):Option Bn:=
 cond ((decide (t6<(b4.length:Int))))
  (if(0:Int)≤t6∧t6<(b4.length:Int)then(
  (CU (b3,Dk,()) ((b4.getD (t6.toNat) (0,[],())).1)).bind fun u3=>
  (Cv u3.2.1 t1).bind fun u4=>
  cond (!u4.1.1)
   (R3 t1 (AS (t6+1)) b0 b1 b2 b3 b4 b5 b6 b7 DV Dk CA Dj FB Cl MC Fc DX GI GH Dy EP FD CX C0 Ca)
  (let x5:Int:=(b4.getD (t6.toNat) (0,[],())).1
  cond (decide (Ca≥x5))
   (R3 t1 (AS (t6+1)) b0 b1 b2 b3 b4 b5 b6 b7 DV Dk CA Dj FB Cl MC Fc DX GI GH Dy EP FD CX C0 Ca)
  (R8 t1 t6 1 Ca x5 (decide (Ca≥x5)) b0 b1 b2 b3 b4 b5 b6 b7 DV Dk CA Dj FB Cl MC Fc DX GI GH Dy EP FD CX C0 Ca ((b4.getD (t6.toNat) (0,[],())).1) ((b4.getD (t6.toNat) (0,[],())).2.1))))else none)
 (R21 t1 0 b0 b1 b2 b3 b4 b5 b6 b7 DV Dk CA Dj FB Cl MC Fc DX GI GH Dy EP FD CX C0 Ca)
def ML(R3:IK)(R8:IJ)(gw:HH)(R21:HI)(R25:HM)(t1 t6 t8 t47 t49:Int)(t50:Bool)(b0:AAM)(b1:AAO)(b2:AAM)(b3:AAN)(b4:AAc)(b5:AAi)(b6:AAn)(b7:AAS)(DV Dk:Int)(CA:Bool)(Dj FB:Int)(Cl:Bool)(MC:AAM)(Fc:AAO)(DX:AAM)(GI:AAN)(GH:AAc)(Dy:AAi)(EP:AAn)(FD:AAS)(CX C0:AAR)(Ca EL:Int)(CL:AA4):Option Bn:=
 cond ((decide (t8≤(CL.length:Int))))
  ((CW EL t8).bind fun u7=>
  (HD CX u7.1.1).bind fun u8=>
  cond (!u8.1.1.2.1)
   (R8 t1 t6 (AS (t8+1)) t47 t49 t50 b0 b1 b2 b3 b4 b5 b6 b7 DV Dk CA Dj FB Cl MC Fc DX GI GH Dy EP FD CX C0 Ca EL CL)
  (cond (u8.1.1.1.2.1 !=0)
   (R8 t1 t6 (AS (t8+1)) t47 t49 t50 b0 b1 b2 b3 b4 b5 b6 b7 DV Dk CA Dj FB Cl MC Fc DX GI GH Dy EP FD CX C0 Ca EL CL)
  (if(0:Int)≤AS (t8-1)∧AS (t8-1)<(CL.length:Int)then(
  cond (((CL.getD ((AS (t8-1)).toNat) ([],[],false,())).2.2.1))
   (R8 t1 t6 (AS (t8+1)) t47 t49 t50 b0 b1 b2 b3 b4 b5 b6 b7 DV Dk CA Dj FB Cl MC Fc DX GI GH Dy EP FD CX C0 Ca EL CL)
  ((Dh (b0,DV,()) (EL,CL,()) t8 t1).bind fun D1=>
  R8 t1 t6 (AS (t8+1)) t47 t49 t50 b0 b1 b2 b3 b4 b5 b6 b7 DV Dk CA Dj FB Cl MC Fc DX GI GH Dy EP FD CX C0 Ca D1.1.1.1.1 D1.2.1))else none)))
 (if(0:Int)≤t6∧t6<(b4.length:Int)then(
 gw t1 t6 0 t47 t49 t50 b0 b1 b2 b3 (b4.set (t6.toNat) (EL,CL,())) b5 b6 b7 DV Dk CA Dj FB Cl MC Fc DX GI GH Dy EP FD CX C0 Ca EL CL)else none)
def K_(R3:IK)(R8:IJ)(gw:HH)(R21:HI)(R25:HM)(t1 t6 t11 t47 t49:Int)(t50:Bool)(b0:AAM)(b1:AAO)(b2:AAM)(b3:AAN)(b4:AAc)(b5:AAi)(b6:AAn)(b7:AAS)(DV Dk:Int)(CA:Bool)(Dj FB:Int)(Cl:Bool)(MC:AAM)(Fc:AAO)(DX:AAM)(GI:AAN)(GH:AAc)(Dy:AAi)(EP:AAn)(FD:AAS)(CX C0:AAR)(Ca EL:Int)(CL:AA4):Option Bn:=
 cond ((decide (t11<(b7.length:Int))))
  (if(0:Int)≤t11∧t11<(b7.length:Int)then(
  let x65:Int:=(b7.getD (t11.toNat) (0,[],false,())).1
  (Cf x65).bind fun u66=>
  cond (u66.1.1==EL)
   ((HN x65).bind fun u67=>
   cond ((decide (u67.1.1≤(CL.length:Int))))
    ((HN x65).bind fun u69=>
    if(0:Int)≤AS (u69.1.1-1)∧AS (u69.1.1-1)<(CL.length:Int)then(
    cond (((CL.getD ((AS (u69.1.1-1)).toNat) ([],[],false,())).2.2.1))
     (if(0:Int)≤t11∧t11<(b7.length:Int)then(
     gw t1 t6 (AS (t11+1)) t47 t49 t50 b0 b1 b2 b3 b4 b5 b6 (b7.set (t11.toNat) ((b7.getD (t11.toNat) (0,[],false,())).1,(b7.getD (t11.toNat) (0,[],false,())).2.1,true,())) DV Dk CA Dj FB Cl MC Fc DX GI GH Dy EP FD CX C0 Ca EL CL)else none)
    (gw t1 t6 (AS (t11+1)) t47 t49 t50 b0 b1 b2 b3 b4 b5 b6 b7 DV Dk CA Dj FB Cl MC Fc DX GI GH Dy EP FD CX C0 Ca EL CL))else none)
   (gw t1 t6 (AS (t11+1)) t47 t49 t50 b0 b1 b2 b3 b4 b5 b6 b7 DV Dk CA Dj FB Cl MC Fc DX GI GH Dy EP FD CX C0 Ca EL CL))
  (gw t1 t6 (AS (t11+1)) t47 t49 t50 b0 b1 b2 b3 b4 b5 b6 b7 DV Dk CA Dj FB Cl MC Fc DX GI GH Dy EP FD CX C0 Ca EL CL))else none)
 (R3 t1 (AS (t6+1)) b0 b1 b2 b3 b4 b5 b6 b7 DV Dk CA Dj FB Cl MC Fc DX GI GH Dy EP FD CX C0 Ca)
def LB(R3:IK)(R8:IJ)(gw:HH)(R21:HI)(R25:HM)(t1 t13:Int)(b0:AAM)(b1:AAO)(b2:AAM)(b3:AAN)(b4:AAc)(b5:AAi)(b6:AAn)(b7:AAS)(DV Dk:Int)(CA:Bool)(Dj FB:Int)(Cl:Bool)(MC:AAM)(Fc:AAO)(DX:AAM)(GI:AAN)(GH:AAc)(Dy:AAi)(EP:AAn)(FD:AAS)(CX C0:AAR)(Ca:Int):Option Bn:=
 cond ((decide (t13<(b5.length:Int))))
  (if(0:Int)≤t13∧t13<(b5.length:Int)then(
  R25 t1 t13 1 b0 b1 b2 b3 b4 b5 b6 b7 DV Dk CA Dj FB Cl MC Fc DX GI GH Dy EP FD CX C0 Ca ((b5.getD (t13.toNat) (0,0,[],[],false,[],())).1) ((b5.getD (t13.toNat) (0,0,[],[],false,[],())).2.1) ((b5.getD (t13.toNat) (0,0,[],[],false,[],())).2.2.1) ((b5.getD (t13.toNat) (0,0,[],[],false,[],())).2.2.2.1) ((b5.getD (t13.toNat) (0,0,[],[],false,[],())).2.2.2.2.1) ((b5.getD (t13.toNat) (0,0,[],[],false,[],())).2.2.2.2.2.1))else none)
 (some ((((),DV,(),(),(),Dk,(),(),(),(),CA,()),()),(b0,b1,b2,b3,b4,b5,b6,b7,())))
def IU(R3:IK)(R8:IJ)(gw:HH)(R21:HI)(R25:HM)(t1 t13 t15:Int)(b0:AAM)(b1:AAO)(b2:AAM)(b3:AAN)(b4:AAc)(b5:AAi)(b6:AAn)(b7:AAS)(DV Dk:Int)(CA:Bool)(Dj FB:Int)(Cl:Bool)(MC:AAM)(Fc:AAO)(DX:AAM)(GI:AAN)(GH:AAc)(Dy:AAi)(EP:AAn)(FD:AAS)(CX C0:AAR)(Ca EL CL:Int)(Zi:AAM)(Z_:AAR)(aC:Bool)(Uk:List AAM):Option Bn:=
 if(0:Int)≤t13∧t13<(b5.length:Int)then(
 cond (decide (t15≤(((b5.getD (t13.toNat) (0,0,[],[],false,[],())).2.2.2.2.2.1).length:Int)))
  ((CU (b3,Dk,()) CL).bind fun u74=>
  (Cv u74.2.1 t1).bind fun u75=>
  cond (u75.1.1)
   ((Ec (EL,CL,Zi,Z_,aC,Uk,()) t15).bind fun u76=>
   (HD CX u76.1.1.1.1).bind fun u77=>
   cond (u77.1.1.2.1)
    (cond (((u77.1.1.1.1==u76.1.1.1.1)&&((u77.1.1.1.2.1==u76.1.1.1.2.1)&&((u77.1.1.1.2.2.1==u76.1.1.1.2.2.1)&&((u77.1.1.1.2.2.2.1==u76.1.1.1.2.2.2.1)&&true)))))
     ((EM (b0,DV,()) (EL,CL,Zi,Z_,aC,Uk,()) t15 t1).bind fun zp=>
     R25 t1 t13 (AS (t15+1)) b0 b1 b2 b3 b4 b5 b6 b7 DV Dk CA Dj FB Cl MC Fc DX GI GH Dy EP FD CX C0 Ca zp.1.1.1.1 zp.1.1.1.2.1 zp.2.1 zp.2.2.1 zp.1.1.1.2.2.2.2.1 zp.2.2.2.1)
    (R25 t1 t13 (AS (t15+1)) b0 b1 b2 b3 b4 b5 b6 b7 DV Dk CA Dj FB Cl MC Fc DX GI GH Dy EP FD CX C0 Ca EL CL Zi Z_ aC Uk))
   (R25 t1 t13 (AS (t15+1)) b0 b1 b2 b3 b4 b5 b6 b7 DV Dk CA Dj FB Cl MC Fc DX GI GH Dy EP FD CX C0 Ca EL CL Zi Z_ aC Uk))
  (if(0:Int)≤t13∧t13<(b5.length:Int)then(
  R21 t1 (AS (t13+1)) b0 b1 b2 b3 b4 (b5.set (t13.toNat) (EL,CL,Zi,Z_,aC,Uk,())) b6 b7 DV Dk CA Dj FB Cl MC Fc DX GI GH Dy EP FD CX C0 Ca)else none))
 (if(0:Int)≤t13∧t13<(b5.length:Int)then(
 R21 t1 (AS (t13+1)) b0 b1 b2 b3 b4 (b5.set (t13.toNat) (EL,CL,Zi,Z_,aC,Uk,())) b6 b7 DV Dk CA Dj FB Cl MC Fc DX GI GH Dy EP FD CX C0 Ca)else none))else none
mutual
def BV:Nat→IK
 |0=>fun _ _ _ _ _ _ _ _ _ _ _ _ _ _ _ _ _ _ _ _ _ _ _ _ _ _ _=>none
 |n+1=>Md (BV n) (A3 n) (A4 n) (BX n) (BS n)
def A3:Nat→IJ
 |0=>fun _ _ _ _ _ _ _ _ _ _ _ _ _ _ _ _ _ _ _ _ _ _ _ _ _ _ _ _ _ _ _ _ _=>none
 |n+1=>ML (BV n) (A3 n) (A4 n) (BX n) (BS n)
def A4:Nat→HH
 |0=>fun _ _ _ _ _ _ _ _ _ _ _ _ _ _ _ _ _ _ _ _ _ _ _ _ _ _ _ _ _ _ _ _ _=>none
 |n+1=>K_ (BV n) (A3 n) (A4 n) (BX n) (BS n)
def BX:Nat→HI
 |0=>fun _ _ _ _ _ _ _ _ _ _ _ _ _ _ _ _ _ _ _ _ _ _ _ _ _ _ _=>none
 |n+1=>LB (BV n) (A3 n) (A4 n) (BX n) (BS n)
def BS:Nat→HM
 |0=>fun _ _ _ _ _ _ _ _ _ _ _ _ _ _ _ _ _ _ _ _ _ _ _ _ _ _ _ _ _ _ _ _ _ _=>none
 |n+1=>IU (BV n) (A3 n) (A4 n) (BX n) (BS n)
end
def QL(R3:IK)(R8:IJ)(gw:HH)(R21:HI)(R25:HM)(CC CE:Int)(BM:Bool)(p1:Int)(b0:AAM)(b1:AAO)(b2:AAM)(b3:AAN)(b4:AAc)(b5:AAi)(b6:AAn)(b7:AAS):Option Bn:=
 if(0:Int)≤p1∧p1<(b1.length:Int)then(
 R3 p1 0 b0 b1 b2 b3 b4 b5 b6 b7 CC CE BM 0 0 false [] [] [] [] [] [] [] [] ((b1.getD (p1.toNat) ([],[],0,())).1) ((b1.getD (p1.toNat) ([],[],0,())).2.1) ((b1.getD (p1.toNat) ([],[],0,())).2.2.1))else none
def V6(CC CE:Int)(BM:Bool)(p1:Int)(b0:AAM)(b1:AAO)(b2:AAM)(b3:AAN)(b4:AAc)(b5:AAi)(b6:AAn)(b7:AAS):Option Bn:=QL (BV AY) (A3 AY) (A4 AY) (BX AY) (BS AY) CC CE BM p1 b0 b1 b2 b3 b4 b5 b6 b7
abbrev o_:Type:=ACL×ACZ
def WJ(CC CE:Int)(BM:Bool)(p1:ABA)(b0:AAM)(b1:AAO)(b2:AAM)(b3:AAN)(b4:AAc)(b5:AAi)(b6:AAn)(b7:AAS):Option o_:=
 (Ha (b0,CC,b1,b2,b3,CE,b4,b5,b6,b7,BM,()) p1.2.1).bind fun u1=>
 cond (u1.1.1 !=0)
  (some (((((),CC,(),(),(),CE,(),(),(),(),BM,()),u1.1.1,()),()),(b0,b1,b2,b3,b4,b5,b6,b7,())))
 (if(0:Int)≤p1.2.1∧p1.2.1<(b1.length:Int)then(
 (JS ((b1.getD (p1.2.1.toNat) ([],[],0,())).1,(b1.getD (p1.2.1.toNat) ([],[],0,())).2.1,(b1.getD (p1.2.1.toNat) ([],[],0,())).2.2.1,())).bind fun u2=>
 cond (!u2.1.1.2.1)
  (some (((((),CC,(),(),(),CE,(),(),(),(),BM,()),4,()),()),(b0,b1,b2,b3,b4,b5,b6,b7,())))
 (if(0:Int)≤p1.2.1∧p1.2.1<(b1.length:Int)then(
 (V6 CC CE BM p1.2.1 b0 (b1.set (p1.2.1.toNat) (u2.2.1,u2.2.2.1,u2.1.1.1.2.2.1,())) b2 b3 b4 b5 b6 b7).bind fun u4=>
 some (((((),u4.1.1.2.1,(),(),(),u4.1.1.2.2.2.2.2.1,(),(),(),(),u4.1.1.2.2.2.2.2.2.2.2.2.2.1,()),0,()),()),(u4.2.1,u4.2.2.1,u4.2.2.2.1,u4.2.2.2.2.1,u4.2.2.2.2.2.1,u4.2.2.2.2.2.2.1,u4.2.2.2.2.2.2.2.1,u4.2.2.2.2.2.2.2.2.1,())))else none))else none)
abbrev UQ:Type:=AA9×AA_
abbrev XX:Type:=List Int→List Int→Int→List Int→Option UQ
def X_(R3:XX)(t0 t1:AAM)(t6:Int)(b0:AAM):Option UQ:=
 cond ((decide (t6<(t0.length:Int))))
  (if(0:Int)≤t6∧t6<(t0.length:Int)then(
  (Cv t1 (t0.getD (t6.toNat) 0)).bind fun u3=>
  cond (!u3.1.1)
   (if(0:Int)≤t6∧t6<(t0.length:Int)then(
   if b0.length+1≤DA then(
   R3 t0 t1 (AS (t6+1)) (b0++[(t0.getD (t6.toNat) 0)]))else none)else none)
  (R3 t0 t1 (AS (t6+1)) b0))else none)
 (some (((),()),(b0,())))
def Of:Nat→XX
 |0=>fun _ _ _ _=>none
 |n+1=>X_ (Of n)
def YT(R3:XX)(p0 p1:AAM):Option UQ:=
 R3 p0 p1 0 []
def Iq(p0 p1:AAM):Option UQ:=YT (Of AY) p0 p1
abbrev LC:Type:=AEC×ADr
abbrev OV:Type:=Int→Int→Int→AA4→Int→AA4→Option LC
def RI(R5:OV)(t2 t9 AL:Int)(b1:AA4)(Im:Int)(b3:AA4):Option LC:=
 cond ((decide (t9<(b3.length:Int))))
  (if(0:Int)≤t9∧t9<(b3.length:Int)then(
  cond (!((b3.getD (t9.toNat) ([],[],false,())).2.2.1))
   (if(0:Int)≤t9∧t9<(b3.length:Int)then(
   (Iq ((b3.getD (t9.toNat) ([],[],false,())).2.1) [t2]).bind fun u5=>
   if(0:Int)≤t9∧t9<(b3.length:Int)then(
   R5 t2 (AS (t9+1)) AL b1 Im (b3.set (t9.toNat) ((b3.getD (t9.toNat) ([],[],false,())).1,u5.2.1,(b3.getD (t9.toNat) ([],[],false,())).2.2.1,())))else none)else none)
  (R5 t2 (AS (t9+1)) AL b1 Im b3))else none)
 (some ((((Im,(),()),true,()),()),(b3,())))
def Hj:Nat→OV
 |0=>fun _ _ _ _ _ _=>none
 |n+1=>RI (Hj n)
def Q1(R5:OV)(p0:AAq)(p1:AA8)(p2:Int):Option LC:=
 (Hd (p0.1,p0.2.1,()) (p1.1,p1.2.1,())).bind fun u1=>
 cond (!u1.1.1)
  (some ((((0,(),()),false,()),()),([],())))
 ((EH (p1.1,p1.2.1,())).bind fun u2=>
 R5 p2 0 0 [] u2.1.1.1 u2.2.1)
def Nn(p0:AAq)(p1:AA8)(p2:Int):Option LC:=Q1 (Hj AY) p0 p1 p2
abbrev Nc:Type:=ADt×ACw
abbrev Qg:Type:=Int→Int→Int→Int→Bool→List Int→AAR→List AAM→Int→Int→Bool→List Int→AAR→List AAM→Option Nc
def TA(R5:Qg)(t2 t9 AL AE:Int)(EJ:Bool)(b1:AAM)(b2:AAR)(b3:List AAM)(ie fA:Int)(ur:Bool)(b5:AAM)(b6:AAR)(b7:List AAM):Option Nc:=
 cond ((decide (t9<(b7.length:Int))))
  (if(0:Int)≤t9∧t9<(b7.length:Int)then(
  (Iq (b7.getD (t9.toNat) []) [t2]).bind fun u4=>
  if(0:Int)≤t9∧t9<(b7.length:Int)then(
  R5 t2 (AS (t9+1)) AL AE EJ b1 b2 b3 ie fA ur b5 b6 (b7.set (t9.toNat) u4.2.1))else none)else none)
 (some ((((ie,fA,(),(),ur,(),()),true,()),()),(b5,b6,b7,())))
def JM:Nat→Qg
 |0=>fun _ _ _ _ _ _ _ _ _ _ _ _ _ _=>none
 |n+1=>TA (JM n)
def TP(R5:Qg)(p0:AAq)(p1:AAy)(p2:Int):Option Nc:=
 (Is (p0.1,p0.2.1,()) (p1.1,p1.2.1,p1.2.2.1,p1.2.2.2.1,p1.2.2.2.2.1,p1.2.2.2.2.2.1,())).bind fun u1=>
 cond (!u1.1.1)
  (some ((((0,0,(),(),false,(),()),false,()),()),([],[],[],())))
 ((EI (p1.1,p1.2.1,p1.2.2.1,p1.2.2.2.1,p1.2.2.2.2.1,p1.2.2.2.2.2.1,())).bind fun u2=>
 R5 p2 0 0 0 false [] [] [] u2.1.1.1 u2.1.1.2.1 u2.1.1.2.2.2.2.1 u2.2.1 u2.2.2.1 u2.2.2.2.1)
def QJ(p0:AAq)(p1:AAy)(p2:Int):Option Nc:=TP (JM AY) p0 p1 p2
abbrev JJ:Type:=ACL×AJ9
abbrev P9:Type:=Int→List Int→AAO→List Int→AAN→AAc→AAi→AAn→AAS→Int→Int→Bool→List Int→Int→Int→Int→Int→List UInt8→Int→Int→Bool→List Int→AAO→List Int→AAN→AAc→AAi→AAn→AAS→Option JJ
abbrev PA:Type:=Int→List Int→AAO→List Int→AAN→AAc→AAi→AAn→AAS→Int→Int→Bool→List Int→Int→Int→Int→Int→List UInt8→Int→Int→Bool→List Int→AAO→List Int→AAN→AAc→AAi→AAn→AAS→Option JJ
def Wm(R7:P9)(q_:PA)(t7:Int)(b0:AAM)(b1:AAO)(b2:AAM)(b3:AAN)(b4:AAc)(b5:AAi)(b6:AAn)(b7:AAS)(DV Dk:Int)(CA:Bool)(b9:AAM)(yM Dd y7 yy:Int)(ya:AA7)(yC yZ:Int)(tc:Bool)(DX:AAM)(GI:AAO)(GH:AAM)(Dy:AAN)(EP:AAc)(FD:AAi)(VA:AAn)(tD:AAS):Option JJ:=
 cond ((decide (t7<(b4.length:Int))))
  (if(0:Int)≤t7∧t7<(b4.length:Int)then(
  (Nn (b0,DV,()) ((b4.getD (t7.toNat) (0,[],())).1,(b4.getD (t7.toNat) (0,[],())).2.1,()) Dd).bind fun u5=>
  if(0:Int)≤t7∧t7<(b4.length:Int)then(
  R7 (AS (t7+1)) b0 b1 b2 b3 (b4.set (t7.toNat) (u5.1.1.1.1,u5.2.1,())) b5 b6 b7 DV Dk CA b9 yM Dd y7 yy ya yC yZ tc DX GI GH Dy EP FD VA tD)else none)else none)
 (q_ 0 b0 b1 b2 b3 b4 b5 b6 b7 DV Dk CA b9 yM Dd y7 yy ya yC yZ tc DX GI GH Dy EP FD VA tD)
def VZ(R7:P9)(q_:PA)(t8:Int)(b0:AAM)(b1:AAO)(b2:AAM)(b3:AAN)(b4:AAc)(b5:AAi)(b6:AAn)(b7:AAS)(DV Dk:Int)(CA:Bool)(b9:AAM)(yM Dd y7 yy:Int)(ya:AA7)(yC yZ:Int)(tc:Bool)(DX:AAM)(GI:AAO)(GH:AAM)(Dy:AAN)(EP:AAc)(FD:AAi)(VA:AAn)(tD:AAS):Option JJ:=
 cond ((decide (t8<(b5.length:Int))))
  (if(0:Int)≤t8∧t8<(b5.length:Int)then(
  (QJ (b0,DV,()) ((b5.getD (t8.toNat) (0,0,[],[],false,[],())).1,(b5.getD (t8.toNat) (0,0,[],[],false,[],())).2.1,(b5.getD (t8.toNat) (0,0,[],[],false,[],())).2.2.1,(b5.getD (t8.toNat) (0,0,[],[],false,[],())).2.2.2.1,(b5.getD (t8.toNat) (0,0,[],[],false,[],())).2.2.2.2.1,(b5.getD (t8.toNat) (0,0,[],[],false,[],())).2.2.2.2.2.1,()) Dd).bind fun u8=>
  if(0:Int)≤t8∧t8<(b5.length:Int)then(
  q_ (AS (t8+1)) b0 b1 b2 b3 b4 (b5.set (t8.toNat) (u8.1.1.1.1,u8.1.1.1.2.1,u8.2.1,u8.2.2.1,u8.1.1.1.2.2.2.2.1,u8.2.2.2.1,())) b6 b7 DV Dk CA b9 yM Dd y7 yy ya yC yZ tc DX GI GH Dy EP FD VA tD)else none)else none)
 (cond (CA)
  (some (((((),DV,(),(),(),Dk,(),(),(),(),true,()),0,()),()),(b0,b1,(),b3,b4,b5,b6,b7,b9,())))
 ((Ei (b0,DV,()) b9).bind fun D1=>
 some (((((),DV,(),(),(),Dk,(),(),(),(),D1.1.1,()),0,()),()),(b0,b1,(),b3,b4,b5,b6,b7,b9,()))))
mutual
def KC:Nat→P9
 |0=>fun _ _ _ _ _ _ _ _ _ _ _ _ _ _ _ _ _ _ _ _ _ _ _ _ _ _ _ _ _=>none
 |n+1=>Wm (KC n) (JB n)
def JB:Nat→PA
 |0=>fun _ _ _ _ _ _ _ _ _ _ _ _ _ _ _ _ _ _ _ _ _ _ _ _ _ _ _ _ _=>none
 |n+1=>VZ (KC n) (JB n)
end
def XQ(R7:P9)(q_:PA)(CC CE:Int)(BM:Bool)(p1:ABA)(b0:AAM)(b1:AAO)(b2:AAM)(b3:AAN)(b4:AAc)(b5:AAi)(b6:AAn)(b7:AAS):Option JJ:=
 (Ha (b0,CC,b1,b2,b3,CE,b4,b5,b6,b7,BM,()) p1.2.1).bind fun u1=>
 cond (u1.1.1 !=0)
  (some (((((),CC,(),(),(),CE,(),(),(),(),BM,()),u1.1.1,()),()),(b0,b1,(),b3,b4,b5,b6,b7,b2,())))
 (if(0:Int)≤p1.2.1∧p1.2.1<(b1.length:Int)then(
 (IG b2 p1.2.1).bind fun u3=>
 R7 0 b0 (b1.set (p1.2.1.toNat) ([],[],0,())) b2 b3 b4 b5 b6 b7 CC CE BM u3.2.1 p1.1 p1.2.1 p1.2.2.1 p1.2.2.2.1 p1.2.2.2.2.1 0 0 false [] [] [] [] [] [] [] [])else none)
def V0(CC CE:Int)(BM:Bool)(p1:ABA)(b0:AAM)(b1:AAO)(b2:AAM)(b3:AAN)(b4:AAc)(b5:AAi)(b6:AAn)(b7:AAS):Option JJ:=XQ (KC AY) (JB AY) CC CE BM p1 b0 b1 b2 b3 b4 b5 b6 b7
abbrev qa:Type:=AA1×Unit
def X9(p0:AAq)(p1:AAM):Option qa:=
 (Gf (p0.1,p0.2.1,()) p1).bind fun u1=>
 cond (u1.1.1)
  ((Ei (p0.1,p0.2.1,()) p1).bind fun u2=>
  some ((!u2.1.1,()),()))
 (some ((false,()),()))
abbrev J_:Type:=AA9×ADw
abbrev O8:Type:=AAO→Int→AAR→Option J_
abbrev PI:Type:=AAO→Int→Int→AAR→Option J_
def Vh(R3:O8)(R6:PI)(t0:AAO)(t4:Int)(b0:AAR):Option J_:=
 cond ((decide (t4<(t0.length:Int))))
  (R6 t0 t4 0 b0)
 (some (((),()),(b0,())))
def VX(R3:O8)(R6:PI)(t0:AAO)(t4 t5:Int)(b0:AAR):Option J_:=
 if(0:Int)≤t4∧t4<(t0.length:Int)then(
 cond (decide (t5<(((t0.getD (t4.toNat) ([],[],0,())).1).length:Int)))
  (if(0:Int)≤t4∧t4<(t0.length:Int)then(
  if(0:Int)≤t5∧t5<(((t0.getD (t4.toNat) ([],[],0,())).1).length:Int)then(
  (Qz b0 ((((t0.getD (t4.toNat) ([],[],0,())).1).getD (t5.toNat) (0,0,false,[],())).1,(((t0.getD (t4.toNat) ([],[],0,())).1).getD (t5.toNat) (0,0,false,[],())).2.1,(((t0.getD (t4.toNat) ([],[],0,())).1).getD (t5.toNat) (0,0,false,[],())).2.2.1,(((t0.getD (t4.toNat) ([],[],0,())).1).getD (t5.toNat) (0,0,false,[],())).2.2.2.1,())).bind fun u3=>
  R6 t0 t4 (AS (t5+1)) u3.2.1)else none)else none)
 (R3 t0 (AS (t4+1)) b0))else none
mutual
def JG:Nat→O8
 |0=>fun _ _ _=>none
 |n+1=>Vh (JG n) (I3 n)
def I3:Nat→PI
 |0=>fun _ _ _ _=>none
 |n+1=>VX (JG n) (I3 n)
end
def ez(R3:O8)(R6:PI)(p0:AAO):Option J_:=
 R3 p0 0 []
def ZV(p0:AAO):Option J_:=ez (JG AY) (I3 AY) p0
abbrev Oe:Type:=AC4×AJ_
abbrev WH:Type:=List Int→Int→Int→AAO→Int→AAR→AAR→Int→AAR→AAR→AAO→Option Oe
abbrev T6:Type:=Int→Int→AAO→Int→AAR→AAR→Int→AAR→AAR→AAO→Option Oe
def bc(R6:WH)(q_:T6)(t2:AAM)(t4 t14:Int)(b0:AAO)(DE:Int)(b2 b3:AAR)(Mk:Int)(b5 b6:AAR)(b7:AAO):Option Oe:=
 cond ((decide (t14<(b0.length:Int))))
  ((Cv t2 t14).bind fun u6=>
  cond (!u6.1.1)
   (if(0:Int)≤t14∧t14<(b0.length:Int)then(
   if b7.length+1≤DA then(
   R6 t2 t4 (AS (t14+1)) b0 DE b2 b3 Mk b5 b6 (b7++[((b0.getD (t14.toNat) ([],[],0,())).1,(b0.getD (t14.toNat) ([],[],0,())).2.1,(b0.getD (t14.toNat) ([],[],0,())).2.2.1,())]))else none)else none)
  (R6 t2 t4 (AS (t14+1)) b0 DE b2 b3 Mk b5 b6 b7))
 (q_ t4 0 b0 DE b2 b3 Mk b5 b6 b7)
def aD(R6:WH)(q_:T6)(t4 t15:Int)(b0:AAO)(DE:Int)(b2 b3:AAR)(Mk:Int)(b5 b6:AAR)(b7:AAO):Option Oe:=
 cond ((decide (t15<(b7.length:Int))))
  (if(0:Int)≤t15∧t15<(b7.length:Int)then(
  (GU ((b7.getD (t15.toNat) ([],[],0,())).1,(b7.getD (t15.toNat) ([],[],0,())).2.1,(b7.getD (t15.toNat) ([],[],0,())).2.2.1,())).bind fun u9=>
  cond (!u9.1.1)
   (some (((((),(),Mk,()),false,()),()),(b0,b5,b6,())))
  (q_ t4 (AS (t15+1)) b0 DE b2 b3 Mk b5 b6 b7))else none)
 ((ZV b7).bind fun D1=>
 (GU (D1.2.1,[],t4,())).bind fun MO=>
 cond (!MO.1.1)
  (some (((((),(),Mk,()),false,()),()),(b0,b5,b6,())))
 (some (((((),(),t4,()),true,()),()),(b0,D1.2.1,[],()))))
mutual
def O0:Nat→WH
 |0=>fun _ _ _ _ _ _ _ _ _ _ _=>none
 |n+1=>bc (O0 n) (ND n)
def ND:Nat→T6
 |0=>fun _ _ _ _ _ _ _ _ _ _=>none
 |n+1=>aD (O0 n) (ND n)
end
def bd(R6:WH)(q_:T6)(p0:AAq)(p2:AAM)(p3 p4:Int)(b0:AAO):Option Oe:=
 (GP (p0.1,p0.2.1,())).bind fun u1=>
 cond (!u1.1.1)
  (some (((((),(),0,()),false,()),()),(b0,[],[],())))
 (cond (((b0.length:Int) !=(p0.1.length:Int)))
  (some (((((),(),0,()),false,()),()),(b0,[],[],())))
 ((X9 (p0.1,p0.2.1,()) p2).bind fun u3=>
 cond (!u3.1.1)
  (some (((((),(),0,()),false,()),()),(b0,[],[],())))
 ((Cv p2 p3).bind fun u4=>
 cond (!u4.1.1)
  (some (((((),(),0,()),false,()),()),(b0,[],[],())))
 (R6 p2 p4 0 b0 0 [] [] 0 [] [] []))))
def eW(p0:AAq)(p2:AAM)(p3 p4:Int)(b0:AAO):Option Oe:=bd (O0 AY) (ND AY) p0 p2 p3 p4 b0
abbrev oI:Type:=ACL×AJ9
def WN(CC CE:Int)(BM:Bool)(p1:ABA)(b0:AAM)(b1:AAO)(b2:AAM)(b3:AAN)(b4:AAc)(b5:AAi)(b6:AAn)(b7:AAS):Option oI:=
 (Cv b2 p1.2.1).bind fun u1=>
 cond (!u1.1.1)
  (some (((((),CC,(),(),(),CE,(),(),(),(),BM,()),2,()),()),(b0,b1,(),b3,b4,b5,b6,b7,b2,())))
 ((FF (AS ((b3.length:Int)-1)) 0).bind fun u3=>
 (eW (b0,CC,()) b2 p1.2.1 u3.1.1 b1).bind fun u4=>
 cond (!u4.1.1.2.1)
  (some (((((),CC,(),(),(),CE,(),(),(),(),BM,()),4,()),()),(b0,u4.2.1,(),b3,b4,b5,b6,b7,b2,())))
 (if(0:Int)≤p1.2.1∧p1.2.1<(u4.2.1.length:Int)then(
 (Iq b2 [p1.2.1]).bind fun u6=>
 some (((((),CC,(),(),(),CE,(),(),(),(),BM,()),0,()),()),(b0,(u4.2.1.set (p1.2.1.toNat) (u4.2.2.1,u4.2.2.2.1,u4.1.1.1.2.2.1,())),(),b3,b4,b5,b6,b7,u6.2.1,())))else none))
abbrev LV:Type:=ADs×ACw
def Mf(p0 p1:Int):Option LV:=
 some (((p1,p0,(),(),false,(),()),()),([],[],[],()))
abbrev dZ:Type:=ACL×(List Int×AAO×List Int×AAN×AAc×Unit×AAn×AAS×AAi×Unit)
def WO(CC CE:Int)(BM:Bool)(b0:AAM)(b1:AAO)(b2:AAM)(b3:AAN)(b4:AAc)(b5:AAi)(b6:AAn)(b7:AAS):Option dZ:=
 (JZ (b3,CE,())).bind fun u1=>
 cond ((decide ((b3.length:Int)<2)))
  (some (((((),CC,(),(),(),CE,(),(),(),(),BM,()),2,()),()),(b0,b1,b2,b3,b4,(),b6,b7,b5,())))
 (cond ((u1.1.1==(b3.length:Int)))
  (some (((((),CC,(),(),(),CE,(),(),(),(),BM,()),2,()),()),(b0,b1,b2,b3,b4,(),b6,b7,b5,())))
 (cond ((decide ((b5.length:Int)>0)))
  (some (((((),CC,(),(),(),CE,(),(),(),(),BM,()),4,()),()),(b0,b1,b2,b3,b4,(),b6,b7,b5,())))
 ((Mf u1.1.1 (b3.length:Int)).bind fun u5=>
 some (((((),CC,(),(),(),CE,(),(),(),(),BM,()),0,()),()),(b0,b1,b2,b3,b4,(),b6,b7,[(u5.1.1.1,u5.1.1.2.1,u5.2.1,u5.2.2.1,u5.1.1.2.2.2.2.1,u5.2.2.2.1,())],())))))
abbrev kv:Type:=AC4×ACu
def Oa(p0:AA6)(p1:Int):Option kv:=
 (GU (p0.1,p0.2.1,p0.2.2.1,())).bind fun u1=>
 cond (!u1.1.1)
  (some (((((),(),0,()),false,()),()),([],[],())))
 ((JS (p0.1,p0.2.1,p0.2.2.1,())).bind fun u2=>
 cond (!u2.1.1.2.1)
  ((El (p0.1,p0.2.1,p0.2.2.1,())).bind fun u3=>
  some (((((),(),u3.1.1.2.2.1,()),false,()),()),(u3.2.1,u3.2.2.1,())))
 ((B8 p1 0 30).bind fun u4=>
 cond (!u4.1.1)
  ((El (p0.1,p0.2.1,p0.2.2.1,())).bind fun u5=>
  some (((((),(),u5.1.1.2.2.1,()),false,()),()),(u5.2.1,u5.2.2.1,())))
 ((FF u2.1.1.1.2.2.1 p1).bind fun u6=>
 some (((((),(),u6.1.1,()),true,()),()),(u2.2.1,u2.2.2.1,())))))
abbrev FY:Type:=AA9×ADw
abbrev Tx:Type:=Int→Int→AAR→AAR→Int→AAR→Option FY
def PR(R3:Tx)(t1 t6:Int)(AL AE:AAR)(Ab:Int)(b1:AAR):Option FY:=
 cond ((decide (t6<(AL.length:Int))))
  ((GU (AL,AE,Ab,())).bind fun u2=>
  cond (u2.1.1)
   (if(0:Int)≤t6∧t6<(AL.length:Int)then(
   (Cf ((AL.getD (t6.toNat) (0,0,false,[],())).1)).bind fun u4=>
   cond (u4.1.1==t1)
    (if(0:Int)≤t6∧t6<(AL.length:Int)then(
    if b1.length+1≤DA then(
    R3 t1 (AS (t6+1)) AL AE Ab (b1++[((AL.getD (t6.toNat) (0,0,false,[],())).1,(AL.getD (t6.toNat) (0,0,false,[],())).2.1,(AL.getD (t6.toNat) (0,0,false,[],())).2.2.1,(AL.getD (t6.toNat) (0,0,false,[],())).2.2.2.1,())]))else none)else none)
   (R3 t1 (AS (t6+1)) AL AE Ab b1))else none)
  (some (((),()),(b1,()))))
 (some (((),()),(b1,())))
def JD:Nat→Tx
 |0=>fun _ _ _ _ _ _=>none
 |n+1=>PR (JD n)
def Vy(R3:Tx)(p0:AA6)(p1:Int):Option FY:=
 R3 p1 0 p0.1 p0.2.1 p0.2.2.1 []
def I1(p0:AA6)(p1:Int):Option FY:=Vy (JD AY) p0 p1
abbrev Fh:Type:=ADt×ACw
abbrev Ta:Type:=AAR→Int→List Int→Int→Int→Int→List Int→AAR→Bool→List AAM→Int→Int→Bool→List Int→AAR→List AAM→Int→Int→Bool→List Int→AAR→List AAM→Option Fh
def Vz(R6:Ta)(t3:AAR)(t11:Int)(AL:AAM)(AE BB Ap:Int)(DE:AAM)(Gq:AAR)(Mi:Bool)(D2:List AAM)(Im Kw:Int)(Pd:Bool)(b3:AAM)(b4:AAR)(b5:List AAM)(K4 Jw:Int)(K0:Bool)(b7:AAM)(b8:AAR)(b9:List AAM):Option Fh:=
 cond ((decide (t11<(t3.length:Int))))
  (if(0:Int)≤t11∧t11<(t3.length:Int)then(
  (Cf ((t3.getD (t11.toNat) (0,0,false,[],())).1)).bind fun u6=>
  cond (u6.1.1==Ap)
   (if(0:Int)≤t11∧t11<(t3.length:Int)then(
   (Qz b8 ((t3.getD (t11.toNat) (0,0,false,[],())).1,(t3.getD (t11.toNat) (0,0,false,[],())).2.1,(t3.getD (t11.toNat) (0,0,false,[],())).2.2.1,(t3.getD (t11.toNat) (0,0,false,[],())).2.2.2.1,())).bind fun u7=>
   R6 t3 (AS (t11+1)) AL AE BB Ap DE Gq Mi D2 Im Kw Pd b3 b4 b5 K4 Jw K0 b7 u7.2.1 b9)else none)
  (R6 t3 (AS (t11+1)) AL AE BB Ap DE Gq Mi D2 Im Kw Pd b3 b4 b5 K4 Jw K0 b7 b8 b9))else none)
 (cond (Mi)
  ((EI (BB,Ap,DE,Gq,Mi,D2,())).bind fun u8=>
  some ((((u8.1.1.1,u8.1.1.2.1,(),(),u8.1.1.2.2.2.2.1,(),()),false,()),()),(u8.2.1,u8.2.2.1,u8.2.2.2.1,())))
 ((Is (AL,AE,()) (K4,Jw,b7,b8,K0,b9,())).bind fun u9=>
 cond (!u9.1.1)
  ((EI (BB,Ap,DE,Gq,Mi,D2,())).bind fun D1=>
  some ((((D1.1.1.1,D1.1.1.2.1,(),(),D1.1.1.2.2.2.2.1,(),()),false,()),()),(D1.2.1,D1.2.2.1,D1.2.2.2.1,())))
 (some ((((K4,Jw,(),(),K0,(),()),true,()),()),(b7,b8,b9,())))))
def Lo:Nat→Ta
 |0=>fun _ _ _ _ _ _ _ _ _ _ _ _ _ _ _ _ _ _ _ _ _ _=>none
 |n+1=>Vz (Lo n)
def Vu(R6:Ta)(p0:AAq)(p1:AAy)(p2:Int)(p3:AAR):Option Fh:=
 (Is (p0.1,p0.2.1,()) (p1.1,p1.2.1,p1.2.2.1,p1.2.2.2.1,p1.2.2.2.2.1,p1.2.2.2.2.2.1,())).bind fun u1=>
 cond (!u1.1.1)
  (some ((((0,0,(),(),false,(),()),false,()),()),([],[],[],())))
 ((EI (p1.1,p1.2.1,p1.2.2.1,p1.2.2.2.1,p1.2.2.2.2.1,p1.2.2.2.2.2.1,())).bind fun u2=>
 (IG u2.2.1 p2).bind fun u3=>
 R6 p3 0 p0.1 p0.2.1 p1.1 p1.2.1 p1.2.2.1 p1.2.2.2.1 p1.2.2.2.2.1 p1.2.2.2.2.2.1 0 0 false [] [] [] u2.1.1.1 u2.1.1.2.1 u2.1.1.2.2.2.2.1 u3.2.1 u2.2.2.1 u2.2.2.2.1)
def I0(p0:AAq)(p1:AAy)(p2:Int)(p3:AAR):Option Fh:=Vu (Lo AY) p0 p1 p2 p3
abbrev ov:Type:=ACL×ACZ
def WS(CC CE:Int)(BM:Bool)(p1:ABA)(b0:AAM)(b1:AAO)(b2:AAM)(b3:AAN)(b4:AAc)(b5:AAi)(b6:AAn)(b7:AAS):Option ov:=
 cond (((b5.length:Int)==0))
  (some (((((),CC,(),(),(),CE,(),(),(),(),BM,()),2,()),()),(b0,b1,b2,b3,b4,b5,b6,b7,())))
 (if(0:Int)≤(0:Int)∧(0:Int)<(b5.length:Int)then(
 (Ha (b0,CC,b1,b2,b3,CE,b4,b5,b6,b7,BM,()) p1.2.1).bind fun u2=>
 cond (u2.1.1 !=0)
  (some (((((),CC,(),(),(),CE,(),(),(),(),BM,()),u2.1.1,()),()),(b0,b1,b2,b3,b4,b5,b6,b7,())))
 ((CU (b3,CE,()) ((b5.getD 0 (0,0,[],[],false,[],())).2.1)).bind fun u4=>
 (Cv u4.2.1 p1.2.1).bind fun u5=>
 cond (!u5.1.1)
  (some (((((),CC,(),(),(),CE,(),(),(),(),BM,()),2,()),()),(b0,b1,b2,b3,b4,b5,b6,b7,())))
 (if(0:Int)≤p1.2.1∧p1.2.1<(b1.length:Int)then(
 (Oa ((b1.getD (p1.2.1.toNat) ([],[],0,())).1,(b1.getD (p1.2.1.toNat) ([],[],0,())).2.1,(b1.getD (p1.2.1.toNat) ([],[],0,())).2.2.1,()) (AS (((b5.getD 0 (0,0,[],[],false,[],())).1)-1))).bind fun u7=>
 (I1 (u7.2.1,u7.2.2.1,u7.1.1.1.2.2.1,()) ((b5.getD 0 (0,0,[],[],false,[],())).2.1)).bind fun u9=>
 (I0 (b0,CC,()) ((b5.getD 0 (0,0,[],[],false,[],())).1,(b5.getD 0 (0,0,[],[],false,[],())).2.1,(b5.getD 0 (0,0,[],[],false,[],())).2.2.1,(b5.getD 0 (0,0,[],[],false,[],())).2.2.2.1,(b5.getD 0 (0,0,[],[],false,[],())).2.2.2.2.1,(b5.getD 0 (0,0,[],[],false,[],())).2.2.2.2.2.1,()) p1.2.1 u9.2.1).bind fun D1=>
 cond (!u7.1.1.2.1)
  (some (((((),CC,(),(),(),CE,(),(),(),(),BM,()),4,()),()),(b0,b1,b2,b3,b4,b5,b6,b7,())))
 (cond (!D1.1.1.2.1)
  (some (((((),CC,(),(),(),CE,(),(),(),(),BM,()),4,()),()),(b0,b1,b2,b3,b4,b5,b6,b7,())))
 (if(0:Int)≤p1.2.1∧p1.2.1<(b1.length:Int)then(
 if(0:Int)≤(0:Int)∧(0:Int)<(b5.length:Int)then(
 some (((((),CC,(),(),(),CE,(),(),(),(),BM,()),0,()),()),(b0,(b1.set (p1.2.1.toNat) (u7.2.1,u7.2.2.1,u7.1.1.1.2.2.1,())),b2,b3,b4,(b5.set 0 (D1.1.1.1.1,D1.1.1.1.2.1,D1.2.1,D1.2.2.1,D1.1.1.1.2.2.2.2.1,D1.2.2.2.1,())),b6,b7,())))else none)else none)))else none)))else none)
abbrev qP:Type:=AA9×AA_
def KM(p0 p1:AAM):Option qP:=
 (Iq p0 p1).bind fun u1=>
 (Iq p0 u1.2.1).bind fun u2=>
 some (((),()),(u2.2.1,()))
abbrev qb:Type:=AA1×Unit
def Kf(p0:AAq)(p1 p2:AAM):Option qb:=
 (Ei (p0.1,p0.2.1,()) p1).bind fun u1=>
 cond (!u1.1.1)
  (some ((false,()),()))
 ((Gf (p0.1,p0.2.1,()) p2).bind fun u2=>
 cond (!u2.1.1)
  (some ((false,()),()))
 ((Iq p2 p1).bind fun u3=>
 cond (decide ((u3.2.1.length:Int)>0))
  (some ((false,()),()))
 ((Iq p1 p2).bind fun u5=>
 (Uf (p0.1,p0.2.1,()) u5.2.1).bind fun u6=>
 some (((decide (u6.1.1<p0.2.1)),()),()))))
abbrev Fg:Type:=ADt×ACw
abbrev Tp:Type:=Int→Int→Int→List Int→AAR→Bool→List AAM→Int→Int→Bool→List Int→AAR→List AAM→Int→Int→Bool→List Int→AAR→List AAM→Option Fg
def Vc(R8:Tp)(t9 AL AE:Int)(Ab:AAM)(DI:AAR)(EJ:Bool)(AZ:List AAM)(BB Ap:Int)(Mi:Bool)(b2:AAM)(b3:AAR)(b4:List AAM)(ABr ABe:Int)(ACD:Bool)(b6:AAM)(b7:AAR)(b8:List AAM):Option Fg:=
 (Q5 (AL,AE,Ab,DI,EJ,AZ,())).bind fun u5=>
 cond (decide (t9<u5.1.1))
  (if b8.length+1≤DA then(
  R8 (AS (t9+1)) AL AE Ab DI EJ AZ BB Ap Mi b2 b3 b4 ABr ABe ACD b6 b7 (b8++[[]]))else none)
 (some ((((ABr,ABe,(),(),ACD,(),()),true,()),()),(b6,b7,b8,())))
def Lt:Nat→Tp
 |0=>fun _ _ _ _ _ _ _ _ _ _ _ _ _ _ _ _ _ _ _=>none
 |n+1=>Vc (Lt n)
def VV(R8:Tp)(p0:AAq)(p1:AAy)(p2:AAM):Option Fg:=
 (Is (p0.1,p0.2.1,()) (p1.1,p1.2.1,p1.2.2.1,p1.2.2.2.1,p1.2.2.2.2.1,p1.2.2.2.2.2.1,())).bind fun u1=>
 cond (!u1.1.1)
  (some ((((0,0,(),(),false,(),()),false,()),()),([],[],[],())))
 ((EI (p1.1,p1.2.1,p1.2.2.1,p1.2.2.2.1,p1.2.2.2.2.1,p1.2.2.2.2.2.1,())).bind fun u2=>
 cond (p1.2.2.2.2.1)
  (some ((((u2.1.1.1,u2.1.1.2.1,(),(),u2.1.1.2.2.2.2.1,(),()),false,()),()),(u2.2.1,u2.2.2.1,u2.2.2.2.1,())))
 ((KM p1.2.2.1 p2).bind fun u3=>
 (Kf (p0.1,p0.2.1,()) p2 u3.2.1).bind fun u4=>
 cond (!u4.1.1)
  (some ((((u2.1.1.1,u2.1.1.2.1,(),(),u2.1.1.2.2.2.2.1,(),()),false,()),()),(u2.2.1,u2.2.2.1,u2.2.2.2.1,())))
 (R8 0 p1.1 p1.2.1 p1.2.2.1 p1.2.2.2.1 p1.2.2.2.2.1 p1.2.2.2.2.2.1 0 0 false [] [] [] u2.1.1.1 u2.1.1.2.1 true u2.2.1 u2.2.2.1 u2.2.2.2.1)))
def It(p0:AAq)(p1:AAy)(p2:AAM):Option Fg:=VV (Lt AY) p0 p1 p2
abbrev nS:Type:=ACL×ACZ
def V5(CC CE:Int)(BM:Bool)(b0:AAM)(b1:AAO)(b2:AAM)(b3:AAN)(b4:AAc)(b5:AAi)(b6:AAn)(b7:AAS):Option nS:=
 cond (((b5.length:Int)==0))
  (some (((((),CC,(),(),(),CE,(),(),(),(),BM,()),2,()),()),(b0,b1,b2,b3,b4,b5,b6,b7,())))
 (if(0:Int)≤(0:Int)∧(0:Int)<(b5.length:Int)then(
 if(0:Int)≤(0:Int)∧(0:Int)<(b5.length:Int)then(
 (CU (b3,CE,()) ((b5.getD 0 (0,0,[],[],false,[],())).2.1)).bind fun u3=>
 (It (b0,CC,()) ((b5.getD 0 (0,0,[],[],false,[],())).1,(b5.getD 0 (0,0,[],[],false,[],())).2.1,(b5.getD 0 (0,0,[],[],false,[],())).2.2.1,(b5.getD 0 (0,0,[],[],false,[],())).2.2.2.1,(b5.getD 0 (0,0,[],[],false,[],())).2.2.2.2.1,(b5.getD 0 (0,0,[],[],false,[],())).2.2.2.2.2.1,()) u3.2.1).bind fun u4=>
 cond (!u4.1.1.2.1)
  (some (((((),CC,(),(),(),CE,(),(),(),(),BM,()),4,()),()),(b0,b1,b2,b3,b4,b5,b6,b7,())))
 (if(0:Int)≤(0:Int)∧(0:Int)<(b5.length:Int)then(
 some (((((),CC,(),(),(),CE,(),(),(),(),BM,()),0,()),()),(b0,b1,b2,b3,b4,(b5.set 0 (u4.1.1.1.1,u4.1.1.1.2.1,u4.2.1,u4.2.2.1,u4.1.1.1.2.2.2.2.1,u4.2.2.2.1,())),b6,b7,())))else none))else none)else none)
abbrev qU:Type:=ACL×ACZ
def Ya(CC CE:Int)(BM:Bool)(p1:ABA)(b0:AAM)(b1:AAO)(b2:AAM)(b3:AAN)(b4:AAc)(b5:AAi)(b6:AAn)(b7:AAS):Option qU:=
 cond (((b5.length:Int)==0))
  (some (((((),CC,(),(),(),CE,(),(),(),(),BM,()),2,()),()),(b0,b1,b2,b3,b4,b5,b6,b7,())))
 (if(0:Int)≤(0:Int)∧(0:Int)<(b5.length:Int)then(
 (Ec ((b5.getD 0 (0,0,[],[],false,[],())).1,(b5.getD 0 (0,0,[],[],false,[],())).2.1,(b5.getD 0 (0,0,[],[],false,[],())).2.2.1,(b5.getD 0 (0,0,[],[],false,[],())).2.2.2.1,(b5.getD 0 (0,0,[],[],false,[],())).2.2.2.2.1,(b5.getD 0 (0,0,[],[],false,[],())).2.2.2.2.2.1,()) p1.2.2.1).bind fun u2=>
 cond (!u2.1.1.2.1)
  (some (((((),CC,(),(),(),CE,(),(),(),(),BM,()),2,()),()),(b0,b1,b2,b3,b4,b5,b6,b7,())))
 ((Ha (b0,CC,b1,b2,b3,CE,b4,b5,b6,b7,BM,()) p1.2.2.2.1).bind fun u3=>
 cond (u3.1.1 !=0)
  (some (((((),CC,(),(),(),CE,(),(),(),(),BM,()),u3.1.1,()),()),(b0,b1,b2,b3,b4,b5,b6,b7,())))
 (if(0:Int)≤(0:Int)∧(0:Int)<(b5.length:Int)then(
 (CU (b3,CE,()) ((b5.getD 0 (0,0,[],[],false,[],())).2.1)).bind fun u5=>
 (Cv u5.2.1 p1.2.2.2.1).bind fun u6=>
 cond (!u6.1.1)
  (some (((((),CC,(),(),(),CE,(),(),(),(),BM,()),2,()),()),(b0,b1,b2,b3,b4,b5,b6,b7,())))
 (if(0:Int)≤p1.2.2.2.1∧p1.2.2.2.1<(b1.length:Int)then(
 (M4 ((b1.getD (p1.2.2.2.1.toNat) ([],[],0,())).1,(b1.getD (p1.2.2.2.1.toNat) ([],[],0,())).2.1,(b1.getD (p1.2.2.2.1.toNat) ([],[],0,())).2.2.1,()) (u2.1.1.1.1,u2.1.1.1.2.1,u2.1.1.1.2.2.1,u2.1.1.1.2.2.2.1,())).bind fun u7=>
 cond (!u7.1.1.2.1)
  (some (((((),CC,(),(),(),CE,(),(),(),(),BM,()),4,()),()),(b0,b1,b2,b3,b4,b5,b6,b7,())))
 (if(0:Int)≤p1.2.2.2.1∧p1.2.2.2.1<(b1.length:Int)then(
 some (((((),CC,(),(),(),CE,(),(),(),(),BM,()),0,()),()),(b0,(b1.set (p1.2.2.2.1.toNat) (u7.2.1,u7.2.2.1,u7.1.1.1.2.2.1,())),b2,b3,b4,b5,b6,b7,())))else none))else none))else none)))else none)
abbrev O9:Type:=AA1×Unit
abbrev Rc:Type:=Int→List Int→Int→Int→Int→List Int→AAR→Bool→List AAM→Option O9
def Uh(R4:Rc)(t5:Int)(AL:AAM)(AE BB Ap:Int)(DE:AAM)(Gq:AAR)(Mi:Bool)(D2:List AAM):Option O9:=
 cond ((decide (t5<(D2.length:Int))))
  (if(0:Int)≤t5∧t5<(D2.length:Int)then(
  (Ei (AL,AE,()) (D2.getD (t5.toNat) [])).bind fun u3=>
  cond (!u3.1.1)
   (some ((false,()),()))
  (R4 (AS (t5+1)) AL AE BB Ap DE Gq Mi D2))else none)
 (some ((true,()),()))
def KT:Nat→Rc
 |0=>fun _ _ _ _ _ _ _ _ _=>none
 |n+1=>Uh (KT n)
def Uq(R4:Rc)(p0:AAq)(p1:AAy):Option O9:=
 (Is (p0.1,p0.2.1,()) (p1.1,p1.2.1,p1.2.2.1,p1.2.2.2.1,p1.2.2.2.2.1,p1.2.2.2.2.2.1,())).bind fun u1=>
 cond (!u1.1.1)
  (some ((false,()),()))
 (cond (!p1.2.2.2.2.1)
  (some ((false,()),()))
 (R4 0 p0.1 p0.2.1 p1.1 p1.2.1 p1.2.2.1 p1.2.2.2.1 p1.2.2.2.2.1 p1.2.2.2.2.2.1))
def R_(p0:AAq)(p1:AAy):Option O9:=Uq (KT AY) p0 p1
abbrev mZ:Type:=AEH×ADV
def Po(p0:AAq)(p1:AA5)(p2 p3:Int):Option mZ:=
 (Mj (p0.1,p0.2.1,()) (p1.1,p1.2.1,())).bind fun u1=>
 cond (!u1.1.1)
  (some (((((),0,()),false,()),()),([],())))
 ((F8 (p1.1,p1.2.1,())).bind fun u2=>
 (JZ (p1.1,p1.2.1,())).bind fun u3=>
 cond ((p2 !=(p1.1.length:Int)))
  (some (((((),u2.1.1.2.1,()),false,()),()),(u2.2.1,())))
 (cond (u3.1.1==0)
  (some (((((),u2.1.1.2.1,()),false,()),()),(u2.2.1,())))
 (cond (p2==u3.1.1)
  (some (((((),u2.1.1.2.1,()),false,()),()),(u2.2.1,())))
 ((B8 p3 0 60).bind fun u5=>
 cond (!u5.1.1)
  (some (((((),u2.1.1.2.1,()),false,()),()),(u2.2.1,())))
 (if(0:Int)≤AS (u3.1.1-1)∧AS (u3.1.1-1)<(u2.2.1.length:Int)then(
 let x6:AAN:=(u2.2.1.set ((AS (u3.1.1-1)).toNat) ((u2.2.1.getD ((AS (u3.1.1-1)).toNat) ([],false,0,())).1,true,(u2.2.1.getD ((AS (u3.1.1-1)).toNat) ([],false,0,())).2.2.1,()))
 if(0:Int)≤AS (u3.1.1-1)∧AS (u3.1.1-1)<(x6.length:Int)then(
 some (((((),u2.1.1.2.1,()),true,()),()),((x6.set ((AS (u3.1.1-1)).toNat) ((x6.getD ((AS (u3.1.1-1)).toNat) ([],false,0,())).1,(x6.getD ((AS (u3.1.1-1)).toNat) ([],false,0,())).2.1,p3,())),())))else none)else none)))))
abbrev bj:Type:=ACL×(List Int×AAO×List Int×Unit×AAc×Unit×AAn×AAS×AAN×AAi×Unit)
def UL(CC CE:Int)(BM:Bool)(b0:AAM)(b1:AAO)(b2:AAM)(b3:AAN)(b4:AAc)(b5:AAi)(b6:AAn)(b7:AAS):Option bj:=
 cond (((b5.length:Int)==0))
  (some (((((),CC,(),(),(),CE,(),(),(),(),BM,()),2,()),()),(b0,b1,b2,(),b4,(),b6,b7,b3,b5,())))
 (if(0:Int)≤(0:Int)∧(0:Int)<(b5.length:Int)then(
 (R_ (b0,CC,()) ((b5.getD 0 (0,0,[],[],false,[],())).1,(b5.getD 0 (0,0,[],[],false,[],())).2.1,(b5.getD 0 (0,0,[],[],false,[],())).2.2.1,(b5.getD 0 (0,0,[],[],false,[],())).2.2.2.1,(b5.getD 0 (0,0,[],[],false,[],())).2.2.2.2.1,(b5.getD 0 (0,0,[],[],false,[],())).2.2.2.2.2.1,())).bind fun u2=>
 cond (!u2.1.1)
  (some (((((),CC,(),(),(),CE,(),(),(),(),BM,()),5,()),()),(b0,b1,b2,(),b4,(),b6,b7,b3,b5,())))
 (if(0:Int)≤(0:Int)∧(0:Int)<(b5.length:Int)then(
 if(0:Int)≤(0:Int)∧(0:Int)<(b5.length:Int)then(
 (Po (b0,CC,()) (b3,CE,()) ((b5.getD 0 (0,0,[],[],false,[],())).1) (((b5.getD 0 (0,0,[],[],false,[],())).2.2.2.2.2.1).length:Int)).bind fun u5=>
 cond (!u5.1.1.2.1)
  (some (((((),CC,(),(),(),CE,(),(),(),(),BM,()),4,()),()),(b0,b1,b2,(),b4,(),b6,b7,b3,b5,())))
 (some (((((),CC,(),(),(),u5.1.1.1.2.1,(),(),(),(),BM,()),0,()),()),(b0,b1,b2,(),b4,(),b6,b7,u5.2.1,[],()))))else none)else none))else none)
abbrev pW:Type:=AEH×ADV
def SH(p0:AAq)(p1:AA5)(p2:Int):Option pW:=
 (Mj (p0.1,p0.2.1,()) (p1.1,p1.2.1,())).bind fun u1=>
 cond (!u1.1.1)
  (some (((((),0,()),false,()),()),([],())))
 ((F8 (p1.1,p1.2.1,())).bind fun u2=>
 (Hb p2).bind fun u3=>
 cond (!u3.1.1)
  (some (((((),u2.1.1.2.1,()),false,()),()),(u2.2.1,())))
 ((Cf p2).bind fun u4=>
 cond ((decide (u4.1.1>(p1.1.length:Int))))
  (some (((((),u2.1.1.2.1,()),false,()),()),(u2.2.1,())))
 ((FF u2.1.1.2.1 p2).bind fun u6=>
 some (((((),u6.1.1,()),true,()),()),(u2.2.1,())))))
abbrev Nz:Type:=AA3×Unit
abbrev Qn:Type:=Int→Int→AA4→Option Nz
def S6(R2:Qn)(t3 AL:Int)(AE:AA4):Option Nz:=
 cond ((decide (t3<(AE.length:Int))))
  (if(0:Int)≤t3∧t3<(AE.length:Int)then(
  cond (((AE.getD (t3.toNat) ([],[],false,())).2.2.1))
   (R2 (AS (t3+1)) AL AE)
  (some ((t3,()),())))else none)
 (some ((t3,()),()))
def Ja:Nat→Qn
 |0=>fun _ _ _=>none
 |n+1=>S6 (Ja n)
def cT(R2:Qn)(p0:AA8):Option Nz:=
 R2 0 p0.1 p0.2.1
def VM(p0:AA8):Option Nz:=cT (Ja AY) p0
abbrev UJ:Type:=AA3×Unit
abbrev XD:Type:=Int→Int→List Int→Int→AAO→List Int→AAN→Int→AAc→AAi→AAn→AAS→Bool→Option UJ
def Yd(R2:XD)(t1 t5:Int)(AL:AAM)(AE:Int)(Ab:AAO)(DI:AAM)(EJ:AAN)(AZ:Int)(EE:AAc)(D3:AAi)(Fv:AAn)(GJ:AAS)(AM:Bool):Option UJ:=
 cond ((decide (t5<(EE.length:Int))))
  (if(0:Int)≤t5∧t5<(EE.length:Int)then(
  cond (((EE.getD (t5.toNat) (0,[],())).1)==t1)
   (if(0:Int)≤t5∧t5<(EE.length:Int)then(
   (VM ((EE.getD (t5.toNat) (0,[],())).1,(EE.getD (t5.toNat) (0,[],())).2.1,())).bind fun u3=>
   some ((u3.1.1,()),()))else none)
  (R2 t1 (AS (t5+1)) AL AE Ab DI EJ AZ EE D3 Fv GJ AM))else none)
 (some ((0,()),()))
def OM:Nat→XD
 |0=>fun _ _ _ _ _ _ _ _ _ _ _ _ _=>none
 |n+1=>Yd (OM n)
def iQ(R2:XD)(p0:AA2)(p1:Int):Option UJ:=
 R2 p1 0 p0.1 p0.2.1 p0.2.2.1 p0.2.2.2.1 p0.2.2.2.2.1 p0.2.2.2.2.2.1 p0.2.2.2.2.2.2.1 p0.2.2.2.2.2.2.2.1 p0.2.2.2.2.2.2.2.2.1 p0.2.2.2.2.2.2.2.2.2.1 p0.2.2.2.2.2.2.2.2.2.2.1
def dL(p0:AA2)(p1:Int):Option UJ:=iQ (OM AY) p0 p1
abbrev Nx:Type:=AA9×(ABB×Unit)
abbrev Qf:Type:=Int→List Int→Int→AAO→List Int→AAN→Int→AAc→AAi→AAn→AAS→Bool→Int→Int→ACn→ABB→List Int→Option Nx
def TL(R4:Qf)(t9:Int)(AL:AAM)(AE:Int)(Ab:AAO)(DI:AAM)(EJ:AAN)(AZ:Int)(EE:AAc)(D3:AAi)(Fv:AAn)(GJ:AAS)(AM:Bool)(BB Ap:Int)(DE:ACn)(b2:ABB)(b3:AAM):Option Nx:=
 cond ((decide (t9<(b3.length:Int))))
  (if(0:Int)≤t9∧t9<(b3.length:Int)then(
  (Ha (AL,AE,Ab,DI,EJ,AZ,EE,D3,Fv,GJ,AM,()) (b3.getD (t9.toNat) 0)).bind fun u4=>
  cond (u4.1.1 !=0)
   (R4 (AS (t9+1)) AL AE Ab DI EJ AZ EE D3 Fv GJ AM BB Ap DE b2 b3)
  (if(0:Int)≤t9∧t9<(b3.length:Int)then(
  let x5:Int:=(b3.getD (t9.toNat) 0)
  if(0:Int)≤x5∧x5<(Ab.length:Int)then(
  (CW BB Ap).bind fun u6=>
  (HD ((Ab.getD (x5.toNat) ([],[],0,())).1) u6.1.1).bind fun u7=>
  if(0:Int)≤t9∧t9<(b3.length:Int)then(
  if b2.length+1≤DA then(
  R4 (AS (t9+1)) AL AE Ab DI EJ AZ EE D3 Fv GJ AM BB Ap DE (b2++[((b3.getD (t9.toNat) 0),u7.1.1.2.1,u7.1.1.1.1,u7.1.1.1.2.1,u7.1.1.1.2.2.1,u7.1.1.1.2.2.2.1,())]) b3)else none)else none)else none)else none))else none)
 (some (((),()),(b2,())))
def JN:Nat→Qf
 |0=>fun _ _ _ _ _ _ _ _ _ _ _ _ _ _ _ _ _=>none
 |n+1=>TL (JN n)
def S8(R4:Qf)(p0:AA2)(p1:AB6)(p2:Int):Option Nx:=
 (N7 p2).bind fun u1=>
 R4 0 p0.1 p0.2.1 p0.2.2.1 p0.2.2.2.1 p0.2.2.2.2.1 p0.2.2.2.2.2.1 p0.2.2.2.2.2.2.1 p0.2.2.2.2.2.2.2.1 p0.2.2.2.2.2.2.2.2.1 p0.2.2.2.2.2.2.2.2.2.1 p0.2.2.2.2.2.2.2.2.2.2.1 p1.1 p1.2.1 p1.2.2.1 [] u1.2.1
def P8(p0:AA2)(p1:AB6)(p2:Int):Option Nx:=S8 (JN AY) p0 p1 p2
abbrev QF:Type:=((Unit×Bool×Unit)×Unit)×AA_
abbrev Tf:Type:=ABB→Int→List Int→Int→List Int→Option QF
def Vf(R3:Tf)(t1:ABB)(t7:Int)(AL:AAM)(AE:Int)(b1:AAM):Option QF:=
 cond ((decide (t7<(t1.length:Int))))
  (if(0:Int)≤t7∧t7<(t1.length:Int)then(
  if b1.length+1≤DA then(
  R3 t1 (AS (t7+1)) AL AE (b1++[((t1.getD (t7.toNat) (0,false,0,0,false,[],())).1)]))else none)else none)
 ((Gf (AL,AE,()) b1).bind fun u3=>
 some ((((),u3.1.1,()),()),(b1,())))
def Lu:Nat→Tf
 |0=>fun _ _ _ _ _=>none
 |n+1=>Vf (Lu n)
def eY(R3:Tf)(p0:AAq)(p1:ABB):Option QF:=
 R3 p1 0 p0.1 p0.2.1 []
def ZT(p0:AAq)(p1:ABB):Option QF:=eY (Lu AY) p0 p1
abbrev oH:Type:=ADy×ADz
def Ip(p0:AB6)(p1:AD2)(p2 p3:Int):Option oH:=
 (CF (p0.1,p0.2.1,p0.2.2.1,())).bind fun u1=>
 if u1.2.1.length+1≤DA then(
 some (((p2,p3,(),()),()),((u1.2.1++[(p1.1,p1.2.1,p1.2.2.1,())]),())))else none
abbrev Sv:Type:=(AD2×Unit)×Unit
abbrev VT:Type:=List Int→Int→ABB→Bool→Int→Int→Int→List UInt8→Int→Int→Bool→List UInt8→Option Sv
def Wi(R4:VT)(t0:AAM)(t1:Int)(t2:ABB)(t8:Bool)(t9 AL AE:Int)(Ab:AA7)(BB Ap:Int)(DE:Bool)(Gq:AA7):Option Sv:=
 cond ((decide (t9<(t2.length:Int))))
  (if(0:Int)≤t9∧t9<(t2.length:Int)then(
  cond (!((t2.getD (t9.toNat) (0,false,0,0,false,[],())).2.1))
   (R4 t0 t1 t2 t8 (AS (t9+1)) AL AE Ab BB Ap DE Gq)
  ((Cv t0 ((t2.getD (t9.toNat) (0,false,0,0,false,[],())).1)).bind fun u4=>
  cond (!u4.1.1)
   (R4 t0 t1 t2 t8 (AS (t9+1)) AL AE Ab BB Ap DE Gq)
  ((MW ((t2.getD (t9.toNat) (0,false,0,0,false,[],())).2.2.1,(t2.getD (t9.toNat) (0,false,0,0,false,[],())).2.2.2.1,(t2.getD (t9.toNat) (0,false,0,0,false,[],())).2.2.2.2.1,(t2.getD (t9.toNat) (0,false,0,0,false,[],())).2.2.2.2.2.1,())).bind fun u5=>
  cond (!u5.1.1)
   (R4 t0 t1 t2 t8 (AS (t9+1)) AL AE Ab BB Ap DE Gq)
  (cond (((t2.getD (t9.toNat) (0,false,0,0,false,[],())).2.2.1) !=t1)
   (R4 t0 t1 t2 t8 (AS (t9+1)) AL AE Ab BB Ap DE Gq)
  (cond (!t8)
   ((Q2 ((t2.getD (t9.toNat) (0,false,0,0,false,[],())).2.2.1,(t2.getD (t9.toNat) (0,false,0,0,false,[],())).2.2.2.1,(t2.getD (t9.toNat) (0,false,0,0,false,[],())).2.2.2.2.1,(t2.getD (t9.toNat) (0,false,0,0,false,[],())).2.2.2.2.2.1,()) ((t2.getD (t9.toNat) (0,false,0,0,false,[],())).2.2.1,(t2.getD (t9.toNat) (0,false,0,0,false,[],())).2.2.2.1,(t2.getD (t9.toNat) (0,false,0,0,false,[],())).2.2.2.2.1,(t2.getD (t9.toNat) (0,false,0,0,false,[],())).2.2.2.2.2.1,())).bind fun u7=>
   R4 t0 t1 t2 true (AS (t9+1)) AL AE Ab u7.1.1.1 u7.1.1.2.1 u7.1.1.2.2.1 u7.1.1.2.2.2.1)
  ((Q2 (BB,Ap,DE,Gq,()) ((t2.getD (t9.toNat) (0,false,0,0,false,[],())).2.2.1,(t2.getD (t9.toNat) (0,false,0,0,false,[],())).2.2.2.1,(t2.getD (t9.toNat) (0,false,0,0,false,[],())).2.2.2.2.1,(t2.getD (t9.toNat) (0,false,0,0,false,[],())).2.2.2.2.2.1,())).bind fun u8=>
  R4 t0 t1 t2 true (AS (t9+1)) AL AE Ab u8.1.1.1 u8.1.1.2.1 u8.1.1.2.2.1 u8.1.1.2.2.2.1))))))else none)
 (cond (!t8)
  (some (((3,t1,[],()),()),()))
 (cond (DE)
  (some (((2,t1,[],()),()),()))
 (some (((1,t1,Gq,()),()),()))))
def Mv:Nat→VT
 |0=>fun _ _ _ _ _ _ _ _ _ _ _ _=>none
 |n+1=>Wi (Mv n)
def gE(R4:VT)(p0:AAM)(p1:Int)(p2:ABB):Option Sv:=
 R4 p0 p1 p2 false 0 0 0 [] 0 0 false []
def Mg(p0:AAM)(p1:Int)(p2:ABB):Option Sv:=gE (Mv AY) p0 p1 p2
abbrev X4:Type:=(AJO×Unit)×ADz
def QG(p0:AAq)(p1:AA5)(p2:Int)(p3:AB6)(p4:ABB):Option X4:=
 (ZT (p0.1,p0.2.1,()) p4).bind fun u1=>
 (Mj (p0.1,p0.2.1,()) (p1.1,p1.2.1,())).bind fun u2=>
 cond (!u2.1.1)
  (some ((((0,0,(),()),1,()),()),([],())))
 ((M5 (p3.1,p3.2.1,p3.2.2.1,())).bind fun u3=>
 cond (!u3.1.1)
  (some ((((0,0,(),()),1,()),()),([],())))
 (cond (!u1.1.1.2.1)
  (some ((((0,0,(),()),1,()),()),([],())))
 (cond ((decide (p3.1>(p1.1.length:Int))))
  ((CF (p3.1,p3.2.1,p3.2.2.1,())).bind fun u5=>
  some ((((u5.1.1.1,u5.1.1.2.1,(),()),2,()),()),(u5.2.1,())))
 (cond ((p3.2.2.1.length:Int)==120)
  ((CF (p3.1,p3.2.1,p3.2.2.1,())).bind fun u7=>
  some ((((u7.1.1.1,u7.1.1.2.1,(),()),2,()),()),(u7.2.1,())))
 (if(0:Int)≤AS (p3.1-1)∧AS (p3.1-1)<(p1.1.length:Int)then(
 (CW p3.1 p3.2.1).bind fun u8=>
 cond ((decide (p1.2.1≥u8.1.1)))
  ((Cf p1.2.1).bind fun D1=>
  (HN p1.2.1).bind fun MO=>
  (Ip (p3.1,p3.2.1,p3.2.2.1,()) (5,p1.2.1,[],()) D1.1.1 (AS (MO.1.1+1))).bind fun Dz=>
  some ((((Dz.1.1.1,Dz.1.1.2.1,(),()),0,()),()),(Dz.2.1,())))
 (cond (((p1.1.getD ((AS (p3.1-1)).toNat) ([],false,0,())).2.1))
  (cond ((decide (p3.2.1>((p1.1.getD ((AS (p3.1-1)).toNat) ([],false,0,())).2.2.1))))
   ((Ip (p3.1,p3.2.1,p3.2.2.1,()) (4,AS (p3.1+1),[],()) (AS (p3.1+1)) 1).bind fun u16=>
   some ((((u16.1.1.1,u16.1.1.2.1,(),()),0,()),()),(u16.2.1,())))
  (cond (!((p1.1.getD ((AS (p3.1-1)).toNat) ([],false,0,())).2.1))
   (cond (decide (p3.2.1>p2))
    ((CF (p3.1,p3.2.1,p3.2.2.1,())).bind fun Vq=>
    some ((((Vq.1.1.1,Vq.1.1.2.1,(),()),2,()),()),(Vq.2.1,())))
   (cond (decide (p3.2.1>60))
    ((CF (p3.1,p3.2.1,p3.2.2.1,())).bind fun fB=>
    some ((((fB.1.1.1,fB.1.1.2.1,(),()),2,()),()),(fB.2.1,())))
   ((KM u1.2.1 ((p1.1.getD ((AS (p3.1-1)).toNat) ([],false,0,())).1)).bind fun L9=>
   (Kf (p0.1,p0.2.1,()) ((p1.1.getD ((AS (p3.1-1)).toNat) ([],false,0,())).1) L9.2.1).bind fun lA=>
   cond (!lA.1.1)
    ((CF (p3.1,p3.2.1,p3.2.2.1,())).bind fun yp=>
    some ((((yp.1.1.1,yp.1.1.2.1,(),()),3,()),()),(yp.2.1,())))
   ((Mg ((p1.1.getD ((AS (p3.1-1)).toNat) ([],false,0,())).1) u8.1.1 p4).bind fun ZX=>
   (Ip (p3.1,p3.2.1,p3.2.2.1,()) (ZX.1.1.1,ZX.1.1.2.1,ZX.1.1.2.2.1,()) p3.1 (AS (p3.2.1+1))).bind fun IZ=>
   some ((((IZ.1.1.1,IZ.1.1.2.1,(),()),0,()),()),(IZ.2.1,()))))))
  (cond (decide (p3.2.1>60))
   ((CF (p3.1,p3.2.1,p3.2.2.1,())).bind fun aR=>
   some ((((aR.1.1.1,aR.1.1.2.1,(),()),2,()),()),(aR.2.1,())))
  ((KM u1.2.1 ((p1.1.getD ((AS (p3.1-1)).toNat) ([],false,0,())).1)).bind fun fU=>
  (Kf (p0.1,p0.2.1,()) ((p1.1.getD ((AS (p3.1-1)).toNat) ([],false,0,())).1) fU.2.1).bind fun fE=>
  cond (!fE.1.1)
   ((CF (p3.1,p3.2.1,p3.2.2.1,())).bind fun Om=>
   some ((((Om.1.1.1,Om.1.1.2.1,(),()),3,()),()),(Om.2.1,())))
  ((Mg ((p1.1.getD ((AS (p3.1-1)).toNat) ([],false,0,())).1) u8.1.1 p4).bind fun YH=>
  (Ip (p3.1,p3.2.1,p3.2.2.1,()) (YH.1.1.1,YH.1.1.2.1,YH.1.1.2.2.1,()) p3.1 (AS (p3.2.1+1))).bind fun lu=>
  some ((((lu.1.1.1,lu.1.1.2.1,(),()),0,()),()),(lu.2.1,())))))))
 (cond (!((p1.1.getD ((AS (p3.1-1)).toNat) ([],false,0,())).2.1))
  (cond (decide (p3.2.1>p2))
   ((CF (p3.1,p3.2.1,p3.2.2.1,())).bind fun u32=>
   some ((((u32.1.1.1,u32.1.1.2.1,(),()),2,()),()),(u32.2.1,())))
  (cond (decide (p3.2.1>60))
   ((CF (p3.1,p3.2.1,p3.2.2.1,())).bind fun aN=>
   some ((((aN.1.1.1,aN.1.1.2.1,(),()),2,()),()),(aN.2.1,())))
  ((KM u1.2.1 ((p1.1.getD ((AS (p3.1-1)).toNat) ([],false,0,())).1)).bind fun so=>
  (Kf (p0.1,p0.2.1,()) ((p1.1.getD ((AS (p3.1-1)).toNat) ([],false,0,())).1) so.2.1).bind fun u35=>
  cond (!u35.1.1)
   ((CF (p3.1,p3.2.1,p3.2.2.1,())).bind fun u36=>
   some ((((u36.1.1.1,u36.1.1.2.1,(),()),3,()),()),(u36.2.1,())))
  ((Mg ((p1.1.getD ((AS (p3.1-1)).toNat) ([],false,0,())).1) u8.1.1 p4).bind fun lX=>
  (Ip (p3.1,p3.2.1,p3.2.2.1,()) (lX.1.1.1,lX.1.1.2.1,lX.1.1.2.2.1,()) p3.1 (AS (p3.2.1+1))).bind fun u38=>
  some ((((u38.1.1.1,u38.1.1.2.1,(),()),0,()),()),(u38.2.1,()))))))
 (cond (decide (p3.2.1>60))
  ((CF (p3.1,p3.2.1,p3.2.2.1,())).bind fun lY=>
  some ((((lY.1.1.1,lY.1.1.2.1,(),()),2,()),()),(lY.2.1,())))
 ((KM u1.2.1 ((p1.1.getD ((AS (p3.1-1)).toNat) ([],false,0,())).1)).bind fun u40=>
 (Kf (p0.1,p0.2.1,()) ((p1.1.getD ((AS (p3.1-1)).toNat) ([],false,0,())).1) u40.2.1).bind fun u41=>
 cond (!u41.1.1)
  ((CF (p3.1,p3.2.1,p3.2.2.1,())).bind fun u42=>
  some ((((u42.1.1.1,u42.1.1.2.1,(),()),3,()),()),(u42.2.1,())))
 ((Mg ((p1.1.getD ((AS (p3.1-1)).toNat) ([],false,0,())).1) u8.1.1 p4).bind fun u43=>
 (Ip (p3.1,p3.2.1,p3.2.2.1,()) (u43.1.1.1,u43.1.1.2.1,u43.1.1.2.2.1,()) p3.1 (AS (p3.2.1+1))).bind fun u44=>
 some ((((u44.1.1.1,u44.1.1.2.1,(),()),0,()),()),(u44.2.1,()))))))))else none)))))
abbrev nY:Type:=ACL×ACZ
def WR(CC CE:Int)(BM:Bool)(p1:ABA)(b0:AAM)(b1:AAO)(b2:AAM)(b3:AAN)(b4:AAc)(b5:AAi)(b6:AAn)(b7:AAS):Option nY:=
 (B8 p1.2.1 0 1).bind fun u1=>
 cond (!u1.1.1)
  (some (((((),CC,(),(),(),CE,(),(),(),(),BM,()),2,()),()),(b0,b1,b2,b3,b4,b5,b6,b7,())))
 (if(0:Int)≤p1.2.1∧p1.2.1<(b6.length:Int)then(
 if(0:Int)≤p1.2.1∧p1.2.1<(b6.length:Int)then(
 if(0:Int)≤p1.2.1∧p1.2.1<(b6.length:Int)then(
 (dL (b0,CC,b1,b2,b3,CE,b4,b5,b6,b7,BM,()) ((b6.getD (p1.2.1.toNat) (0,0,[],())).1)).bind fun u3=>
 (P8 (b0,CC,b1,b2,b3,CE,b4,b5,b6,b7,BM,()) ((b6.getD (p1.2.1.toNat) (0,0,[],())).1,(b6.getD (p1.2.1.toNat) (0,0,[],())).2.1,(b6.getD (p1.2.1.toNat) (0,0,[],())).2.2.1,()) p1.2.2.1).bind fun u4=>
 (QG (b0,CC,()) (b3,CE,()) u3.1.1 ((b6.getD (p1.2.1.toNat) (0,0,[],())).1,(b6.getD (p1.2.1.toNat) (0,0,[],())).2.1,(b6.getD (p1.2.1.toNat) (0,0,[],())).2.2.1,()) u4.2.1).bind fun u5=>
 cond (u5.1.1.2.1 !=0)
  (some (((((),CC,(),(),(),CE,(),(),(),(),BM,()),5,()),()),(b0,b1,b2,b3,b4,b5,b6,b7,())))
 (if(0:Int)≤p1.2.1∧p1.2.1<(b6.length:Int)then(
 some (((((),CC,(),(),(),CE,(),(),(),(),BM,()),0,()),()),(b0,b1,b2,b3,b4,b5,(b6.set (p1.2.1.toNat) (u5.1.1.1.1,u5.1.1.1.2.1,u5.2.1,())),b7,())))else none))else none)else none)else none)
abbrev OW:Type:=ACL×(List Int×AAO×List Int×AAN×Unit×AAi×AAn×AAS×AAc×Unit)
abbrev VD:Type:=Int→List Int→AAO→List Int→AAN→AAc→AAi→AAn→AAS→Int→Int→Bool→Int→Int→Int→Int→List UInt8→Int→Int→Bool→List Int→AAO→List Int→AAN→AAc→AAi→AAn→AAS→AAc→Option OW
def XB(R5:VD)(t7:Int)(b0:AAM)(b1:AAO)(b2:AAM)(b3:AAN)(b4:AAc)(b5:AAi)(b6:AAn)(b7:AAS)(DV Dk:Int)(CA:Bool)(hO Dj dr AUi:Int)(AUt:AA7)(Dd EV:Int)(Cy:Bool)(Fc:AAM)(DX:AAO)(GI:AAM)(GH:AAN)(Dy:AAc)(EP:AAi)(FD:AAn)(VA:AAS)(tD:AAc):Option OW:=
 cond ((decide (t7<(b4.length:Int))))
  (cond (t7 !=Dj)
   (if(0:Int)≤t7∧t7<(b4.length:Int)then(
   if tD.length+1≤DA then(
   R5 (AS (t7+1)) b0 b1 b2 b3 b4 b5 b6 b7 DV Dk CA hO Dj dr AUi AUt Dd EV Cy Fc DX GI GH Dy EP FD VA (tD++[((b4.getD (t7.toNat) (0,[],())).1,(b4.getD (t7.toNat) (0,[],())).2.1,())]))else none)else none)
  (R5 (AS (t7+1)) b0 b1 b2 b3 b4 b5 b6 b7 DV Dk CA hO Dj dr AUi AUt Dd EV Cy Fc DX GI GH Dy EP FD VA tD))
 (some (((((),DV,(),(),(),Dk,(),(),(),(),CA,()),0,()),()),(b0,b1,b2,b3,(),b5,b6,b7,tD,())))
def M0:Nat→VD
 |0=>fun _ _ _ _ _ _ _ _ _ _ _ _ _ _ _ _ _ _ _ _ _ _ _ _ _ _ _ _ _=>none
 |n+1=>XB (M0 n)
def Xk(R5:VD)(CC CE:Int)(BM:Bool)(p1:ABA)(b0:AAM)(b1:AAO)(b2:AAM)(b3:AAN)(b4:AAc)(b5:AAi)(b6:AAn)(b7:AAS):Option OW:=
 (Lc (b0,CC,b1,b2,b3,CE,b4,b5,b6,b7,BM,()) p1.2.1).bind fun u1=>
 cond (!u1.1.1)
  (some (((((),CC,(),(),(),CE,(),(),(),(),BM,()),2,()),()),(b0,b1,b2,b3,(),b5,b6,b7,b4,())))
 (R5 0 b0 b1 b2 b3 b4 b5 b6 b7 CC CE BM p1.1 p1.2.1 p1.2.2.1 p1.2.2.2.1 p1.2.2.2.2.1 0 0 false [] [] [] [] [] [] [] [] [])
def WX(CC CE:Int)(BM:Bool)(p1:ABA)(b0:AAM)(b1:AAO)(b2:AAM)(b3:AAN)(b4:AAc)(b5:AAi)(b6:AAn)(b7:AAS):Option OW:=Xk (M0 AY) CC CE BM p1 b0 b1 b2 b3 b4 b5 b6 b7
abbrev PL:Type:=AC4×ACu
abbrev Rp:Type:=Int→Int→AAR→AAR→Int→Int→AAR→AAR→Int→AAR→AAR→Option PL
def Uw(R8:Rp)(t1 t7:Int)(AL AE:AAR)(Ab DE:Int)(b2 b3:AAR)(Mk:Int)(b5 b6:AAR):Option PL:=
 cond ((decide (t7<(AL.length:Int))))
  (if(0:Int)≤t7∧t7<(AL.length:Int)then(
  cond (decide (((AL.getD (t7.toNat) (0,0,false,[],())).1)>t1))
   (if(0:Int)≤t7∧t7<(AL.length:Int)then(
   if b5.length+1≤DA then(
   R8 t1 (AS (t7+1)) AL AE Ab DE b2 b3 Mk (b5++[((AL.getD (t7.toNat) (0,0,false,[],())).1,(AL.getD (t7.toNat) (0,0,false,[],())).2.1,(AL.getD (t7.toNat) (0,0,false,[],())).2.2.1,(AL.getD (t7.toNat) (0,0,false,[],())).2.2.2.1,())]) b6)else none)else none)
  (R8 t1 (AS (t7+1)) AL AE Ab DE b2 b3 Mk b5 b6))else none)
 (some (((((),(),Mk,()),true,()),()),(b5,b6,())))
def KV:Nat→Rp
 |0=>fun _ _ _ _ _ _ _ _ _ _ _=>none
 |n+1=>Uw (KV n)
def Ut(R8:Rp)(p0:AA6)(p1:Int):Option PL:=
 (GU (p0.1,p0.2.1,p0.2.2.1,())).bind fun u1=>
 cond (!u1.1.1)
  (some (((((),(),0,()),false,()),()),([],[],())))
 ((El (p0.1,p0.2.1,p0.2.2.1,())).bind fun u2=>
 (Hb p1).bind fun u3=>
 cond (!u3.1.1)
  (some (((((),(),u2.1.1.2.2.1,()),false,()),()),(u2.2.1,u2.2.2.1,())))
 (R8 p1 0 p0.1 p0.2.1 p0.2.2.1 0 [] [] u2.1.1.2.2.1 [] u2.2.2.1))
def Re(p0:AA6)(p1:Int):Option PL:=Ut (KV AY) p0 p1
abbrev mH:Type:=ACL×ACZ
def UN(CC CE:Int)(BM:Bool)(p1:ABA)(b0:AAM)(b1:AAO)(b2:AAM)(b3:AAN)(b4:AAc)(b5:AAi)(b6:AAn)(b7:AAS):Option mH:=
 (Ha (b0,CC,b1,b2,b3,CE,b4,b5,b6,b7,BM,()) p1.2.1).bind fun u1=>
 cond (u1.1.1 !=0)
  (some (((((),CC,(),(),(),CE,(),(),(),(),BM,()),u1.1.1,()),()),(b0,b1,b2,b3,b4,b5,b6,b7,())))
 (if(0:Int)≤p1.2.1∧p1.2.1<(b1.length:Int)then(
 (Ml ((b1.getD (p1.2.1.toNat) ([],[],0,())).1,(b1.getD (p1.2.1.toNat) ([],[],0,())).2.1,(b1.getD (p1.2.1.toNat) ([],[],0,())).2.2.1,()) p1.2.2.1).bind fun u2=>
 cond (p1.1==16)
  (if(0:Int)≤p1.2.1∧p1.2.1<(b1.length:Int)then(
  (Re ((b1.getD (p1.2.1.toNat) ([],[],0,())).1,(b1.getD (p1.2.1.toNat) ([],[],0,())).2.1,(b1.getD (p1.2.1.toNat) ([],[],0,())).2.2.1,()) CE).bind fun u3=>
  cond (!u3.1.1.2.1)
   (some (((((),CC,(),(),(),CE,(),(),(),(),BM,()),4,()),()),(b0,b1,b2,b3,b4,b5,b6,b7,())))
  (if(0:Int)≤p1.2.1∧p1.2.1<(b1.length:Int)then(
  some (((((),CC,(),(),(),CE,(),(),(),(),BM,()),0,()),()),(b0,(b1.set (p1.2.1.toNat) (u3.2.1,u3.2.2.1,u3.1.1.1.2.2.1,())),b2,b3,b4,b5,b6,b7,())))else none))else none)
 (cond (!u2.1.1.2.1)
  (some (((((),CC,(),(),(),CE,(),(),(),(),BM,()),4,()),()),(b0,b1,b2,b3,b4,b5,b6,b7,())))
 (if(0:Int)≤p1.2.1∧p1.2.1<(b1.length:Int)then(
 some (((((),CC,(),(),(),CE,(),(),(),(),BM,()),0,()),()),(b0,(b1.set (p1.2.1.toNat) (u2.2.1,u2.2.2.1,u2.1.1.1.2.2.1,())),b2,b3,b4,b5,b6,b7,())))else none)))else none)
abbrev im:Type:=ACL×(List Int×AAO×Unit×Unit×Unit×Unit×AAn×Unit×List Int×AAN×AAc×AAi×AAS×Unit)
def ai(CC CE:Int)(BM:Bool)(p1:ABA)(b0:AAM)(b1:AAO)(b2:AAM)(b3:AAN)(b4:AAc)(b5:AAi)(b6:AAn)(b7:AAS):Option im:=
 cond (p1.1==1)
  ((V8 CC CE BM (p1.1,p1.2.1,p1.2.2.1,p1.2.2.2.1,p1.2.2.2.2.1,()) b0 b1 b2 b3 b4 b5 b6 b7).bind fun u1=>
  some (((((),u1.1.1.1.2.1,(),(),(),u1.1.1.1.2.2.2.2.2.1,(),(),(),(),u1.1.1.1.2.2.2.2.2.2.2.2.2.2.1,()),u1.1.1.2.1,()),()),(u1.2.1,u1.2.2.1,(),(),(),(),u1.2.2.2.2.2.2.2.1,(),u1.2.2.2.1,u1.2.2.2.2.2.2.2.2.2.1,u1.2.2.2.2.2.2.2.2.2.2.1,u1.2.2.2.2.2.2.2.2.2.2.2.1,u1.2.2.2.2.2.2.2.2.1,())))
 (cond (p1.1==2)
  ((Yp CC CE BM (p1.1,p1.2.1,p1.2.2.1,p1.2.2.2.1,p1.2.2.2.2.1,()) b0 b1 b2 b3 b4 b5 b6 b7).bind fun u5=>
  some (((((),u5.1.1.1.2.1,(),(),(),u5.1.1.1.2.2.2.2.2.1,(),(),(),(),u5.1.1.1.2.2.2.2.2.2.2.2.2.2.1,()),u5.1.1.2.1,()),()),(u5.2.1,u5.2.2.1,(),(),(),(),u5.2.2.2.2.2.2.2.1,(),u5.2.2.2.1,u5.2.2.2.2.1,u5.2.2.2.2.2.1,u5.2.2.2.2.2.2.1,u5.2.2.2.2.2.2.2.2.2.1,())))
 (cond (p1.1==3)
  ((T_ CC CE BM (p1.1,p1.2.1,p1.2.2.1,p1.2.2.2.1,p1.2.2.2.2.1,()) b0 b1 b2 b3 b4 b5 b6 b7).bind fun u7=>
  some (((((),u7.1.1.1.2.1,(),(),(),u7.1.1.1.2.2.2.2.2.1,(),(),(),(),u7.1.1.1.2.2.2.2.2.2.2.2.2.2.1,()),u7.1.1.2.1,()),()),(u7.2.1,u7.2.2.1,(),(),(),(),u7.2.2.2.2.2.2.2.1,(),u7.2.2.2.1,u7.2.2.2.2.1,u7.2.2.2.2.2.1,u7.2.2.2.2.2.2.1,u7.2.2.2.2.2.2.2.2.1,())))
 (cond (p1.1==4)
  ((WJ CC CE BM (p1.1,p1.2.1,p1.2.2.1,p1.2.2.2.1,p1.2.2.2.2.1,()) b0 b1 b2 b3 b4 b5 b6 b7).bind fun u8=>
  some (((((),u8.1.1.1.2.1,(),(),(),u8.1.1.1.2.2.2.2.2.1,(),(),(),(),u8.1.1.1.2.2.2.2.2.2.2.2.2.2.1,()),u8.1.1.2.1,()),()),(u8.2.1,u8.2.2.1,(),(),(),(),u8.2.2.2.2.2.2.2.1,(),u8.2.2.2.1,u8.2.2.2.2.1,u8.2.2.2.2.2.1,u8.2.2.2.2.2.2.1,u8.2.2.2.2.2.2.2.2.1,())))
 (cond (p1.1==6)
  ((V0 CC CE BM (p1.1,p1.2.1,p1.2.2.1,p1.2.2.2.1,p1.2.2.2.2.1,()) b0 b1 b2 b3 b4 b5 b6 b7).bind fun u9=>
  some (((((),u9.1.1.1.2.1,(),(),(),u9.1.1.1.2.2.2.2.2.1,(),(),(),(),u9.1.1.1.2.2.2.2.2.2.2.2.2.2.1,()),u9.1.1.2.1,()),()),(u9.2.1,u9.2.2.1,(),(),(),(),u9.2.2.2.2.2.2.2.1,(),u9.2.2.2.2.2.2.2.2.2.1,u9.2.2.2.2.1,u9.2.2.2.2.2.1,u9.2.2.2.2.2.2.1,u9.2.2.2.2.2.2.2.2.1,())))
 (cond (p1.1==7)
  ((WN CC CE BM (p1.1,p1.2.1,p1.2.2.1,p1.2.2.2.1,p1.2.2.2.2.1,()) b0 b1 b2 b3 b4 b5 b6 b7).bind fun MO=>
  some (((((),MO.1.1.1.2.1,(),(),(),MO.1.1.1.2.2.2.2.2.1,(),(),(),(),MO.1.1.1.2.2.2.2.2.2.2.2.2.2.1,()),MO.1.1.2.1,()),()),(MO.2.1,MO.2.2.1,(),(),(),(),MO.2.2.2.2.2.2.2.1,(),MO.2.2.2.2.2.2.2.2.2.1,MO.2.2.2.2.1,MO.2.2.2.2.2.1,MO.2.2.2.2.2.2.1,MO.2.2.2.2.2.2.2.2.1,())))
 (cond (p1.1==8)
  ((WO CC CE BM b0 b1 b2 b3 b4 b5 b6 b7).bind fun KP=>
  some (((((),KP.1.1.1.2.1,(),(),(),KP.1.1.1.2.2.2.2.2.1,(),(),(),(),KP.1.1.1.2.2.2.2.2.2.2.2.2.2.1,()),KP.1.1.2.1,()),()),(KP.2.1,KP.2.2.1,(),(),(),(),KP.2.2.2.2.2.2.2.1,(),KP.2.2.2.1,KP.2.2.2.2.1,KP.2.2.2.2.2.1,KP.2.2.2.2.2.2.2.2.2.1,KP.2.2.2.2.2.2.2.2.1,())))
 (cond (p1.1==9)
  ((WS CC CE BM (p1.1,p1.2.1,p1.2.2.1,p1.2.2.2.1,p1.2.2.2.2.1,()) b0 b1 b2 b3 b4 b5 b6 b7).bind fun Xv=>
  some (((((),Xv.1.1.1.2.1,(),(),(),Xv.1.1.1.2.2.2.2.2.1,(),(),(),(),Xv.1.1.1.2.2.2.2.2.2.2.2.2.2.1,()),Xv.1.1.2.1,()),()),(Xv.2.1,Xv.2.2.1,(),(),(),(),Xv.2.2.2.2.2.2.2.1,(),Xv.2.2.2.1,Xv.2.2.2.2.1,Xv.2.2.2.2.2.1,Xv.2.2.2.2.2.2.1,Xv.2.2.2.2.2.2.2.2.1,())))
 (cond (p1.1==10)
  ((V5 CC CE BM b0 b1 b2 b3 b4 b5 b6 b7).bind fun fB=>
  some (((((),fB.1.1.1.2.1,(),(),(),fB.1.1.1.2.2.2.2.2.1,(),(),(),(),fB.1.1.1.2.2.2.2.2.2.2.2.2.2.1,()),fB.1.1.2.1,()),()),(fB.2.1,fB.2.2.1,(),(),(),(),fB.2.2.2.2.2.2.2.1,(),fB.2.2.2.1,fB.2.2.2.2.1,fB.2.2.2.2.2.1,fB.2.2.2.2.2.2.1,fB.2.2.2.2.2.2.2.2.1,())))
 (cond (p1.1==11)
  ((Ya CC CE BM (p1.1,p1.2.1,p1.2.2.1,p1.2.2.2.1,p1.2.2.2.2.1,()) b0 b1 b2 b3 b4 b5 b6 b7).bind fun lA=>
  some (((((),lA.1.1.1.2.1,(),(),(),lA.1.1.1.2.2.2.2.2.1,(),(),(),(),lA.1.1.1.2.2.2.2.2.2.2.2.2.2.1,()),lA.1.1.2.1,()),()),(lA.2.1,lA.2.2.1,(),(),(),(),lA.2.2.2.2.2.2.2.1,(),lA.2.2.2.1,lA.2.2.2.2.1,lA.2.2.2.2.2.1,lA.2.2.2.2.2.2.1,lA.2.2.2.2.2.2.2.2.1,())))
 (cond (p1.1==12)
  ((UL CC CE BM b0 b1 b2 b3 b4 b5 b6 b7).bind fun ZX=>
  some (((((),ZX.1.1.1.2.1,(),(),(),ZX.1.1.1.2.2.2.2.2.1,(),(),(),(),ZX.1.1.1.2.2.2.2.2.2.2.2.2.2.1,()),ZX.1.1.2.1,()),()),(ZX.2.1,ZX.2.2.1,(),(),(),(),ZX.2.2.2.2.2.2.2.1,(),ZX.2.2.2.1,ZX.2.2.2.2.2.2.2.2.2.1,ZX.2.2.2.2.2.1,ZX.2.2.2.2.2.2.2.2.2.2.1,ZX.2.2.2.2.2.2.2.2.1,())))
 (cond (p1.1==13)
  ((SH (b0,CC,()) (b3,CE,()) p1.2.1).bind fun fE=>
  cond (!fE.1.1.2.1)
   (some (((((),CC,(),(),(),CE,(),(),(),(),BM,()),4,()),()),(b0,b1,(),(),(),(),b6,(),b2,b3,b4,b5,b7,())))
  (some (((((),CC,(),(),(),fE.1.1.1.2.1,(),(),(),(),BM,()),0,()),()),(b0,b1,(),(),(),(),b6,(),b2,fE.2.1,b4,b5,b7,()))))
 (cond (p1.1==14)
  ((WR CC CE BM (p1.1,p1.2.1,p1.2.2.1,p1.2.2.2.1,p1.2.2.2.2.1,()) b0 b1 b2 b3 b4 b5 b6 b7).bind fun Om=>
  some (((((),Om.1.1.1.2.1,(),(),(),Om.1.1.1.2.2.2.2.2.1,(),(),(),(),Om.1.1.1.2.2.2.2.2.2.2.2.2.2.1,()),Om.1.1.2.1,()),()),(Om.2.1,Om.2.2.1,(),(),(),(),Om.2.2.2.2.2.2.2.1,(),Om.2.2.2.1,Om.2.2.2.2.1,Om.2.2.2.2.2.1,Om.2.2.2.2.2.2.1,Om.2.2.2.2.2.2.2.2.1,())))
 (cond (p1.1==15)
  ((WX CC CE BM (p1.1,p1.2.1,p1.2.2.1,p1.2.2.2.1,p1.2.2.2.2.1,()) b0 b1 b2 b3 b4 b5 b6 b7).bind fun lu=>
  some (((((),lu.1.1.1.2.1,(),(),(),lu.1.1.1.2.2.2.2.2.1,(),(),(),(),lu.1.1.1.2.2.2.2.2.2.2.2.2.2.1,()),lu.1.1.2.1,()),()),(lu.2.1,lu.2.2.1,(),(),(),(),lu.2.2.2.2.2.2.2.1,(),lu.2.2.2.1,lu.2.2.2.2.1,lu.2.2.2.2.2.2.2.2.2.1,lu.2.2.2.2.2.2.1,lu.2.2.2.2.2.2.2.2.1,())))
 ((UN CC CE BM (p1.1,p1.2.1,p1.2.2.1,p1.2.2.2.1,p1.2.2.2.2.1,()) b0 b1 b2 b3 b4 b5 b6 b7).bind fun aN=>
 some (((((),aN.1.1.1.2.1,(),(),(),aN.1.1.1.2.2.2.2.2.1,(),(),(),(),aN.1.1.1.2.2.2.2.2.2.2.2.2.2.1,()),aN.1.1.2.1,()),()),(aN.2.1,aN.2.2.1,(),(),(),(),aN.2.2.2.2.2.2.2.1,(),aN.2.2.2.1,aN.2.2.2.2.1,aN.2.2.2.2.2.1,aN.2.2.2.2.2.2.1,aN.2.2.2.2.2.2.2.2.1,()))))))))))))))))
abbrev ni:Type:=ACL×ACZ
def Sb(p0:AA2)(p1:ABA):Option ni:=
 (PJ (p0.1,p0.2.1,p0.2.2.1,p0.2.2.2.1,p0.2.2.2.2.1,p0.2.2.2.2.2.1,p0.2.2.2.2.2.2.1,p0.2.2.2.2.2.2.2.1,p0.2.2.2.2.2.2.2.2.1,p0.2.2.2.2.2.2.2.2.2.1,p0.2.2.2.2.2.2.2.2.2.2.1,())).bind fun u1=>
 cond (!u1.1.1)
  (some (((((),0,(),(),(),0,(),(),(),(),false,()),1,()),()),([],[],[],[],[],[],[],[],())))
 ((Yq (p1.1,p1.2.1,p1.2.2.1,p1.2.2.2.1,p1.2.2.2.2.1,())).bind fun u2=>
 cond (!u2.1.1)
  (some (((((),0,(),(),(),0,(),(),(),(),false,()),1,()),()),([],[],[],[],[],[],[],[],())))
 ((MG (p0.1,p0.2.1,p0.2.2.1,p0.2.2.2.1,p0.2.2.2.2.1,p0.2.2.2.2.2.1,p0.2.2.2.2.2.2.1,p0.2.2.2.2.2.2.2.1,p0.2.2.2.2.2.2.2.2.1,p0.2.2.2.2.2.2.2.2.2.1,p0.2.2.2.2.2.2.2.2.2.2.1,())).bind fun u3=>
 (ai u3.1.1.2.1 u3.1.1.2.2.2.2.2.1 u3.1.1.2.2.2.2.2.2.2.2.2.2.1 (p1.1,p1.2.1,p1.2.2.1,p1.2.2.2.1,p1.2.2.2.2.1,()) u3.2.1 u3.2.2.1 u3.2.2.2.1 u3.2.2.2.2.1 u3.2.2.2.2.2.1 u3.2.2.2.2.2.2.1 u3.2.2.2.2.2.2.2.1 u3.2.2.2.2.2.2.2.2.1).bind fun u4=>
 cond (u4.1.1.2.1 !=0)
  ((MG (p0.1,p0.2.1,p0.2.2.1,p0.2.2.2.1,p0.2.2.2.2.1,p0.2.2.2.2.2.1,p0.2.2.2.2.2.2.1,p0.2.2.2.2.2.2.2.1,p0.2.2.2.2.2.2.2.2.1,p0.2.2.2.2.2.2.2.2.2.1,p0.2.2.2.2.2.2.2.2.2.2.1,())).bind fun D1=>
  some (((((),D1.1.1.2.1,(),(),(),D1.1.1.2.2.2.2.2.1,(),(),(),(),D1.1.1.2.2.2.2.2.2.2.2.2.2.1,()),u4.1.1.2.1,()),()),(D1.2.1,D1.2.2.1,D1.2.2.2.1,D1.2.2.2.2.1,D1.2.2.2.2.2.1,D1.2.2.2.2.2.2.1,D1.2.2.2.2.2.2.2.1,D1.2.2.2.2.2.2.2.2.1,())))
 (some (((((),u4.1.1.1.2.1,(),(),(),u4.1.1.1.2.2.2.2.2.1,(),(),(),(),u4.1.1.1.2.2.2.2.2.2.2.2.2.2.1,()),u4.1.1.2.1,()),()),(u4.2.1,u4.2.2.1,u4.2.2.2.2.2.2.2.2.2.1,u4.2.2.2.2.2.2.2.2.2.2.1,u4.2.2.2.2.2.2.2.2.2.2.2.1,u4.2.2.2.2.2.2.2.2.2.2.2.2.1,u4.2.2.2.2.2.2.2.1,u4.2.2.2.2.2.2.2.2.2.2.2.2.2.1,())))))
abbrev DC:Type:=(AKD×Unit)×(ACP×Unit×Unit×Unit×Unit×Unit×Unit×Unit×Unit×(List ABA)×List Int×AAO×List Int×AAN×AAc×AAi×AAn×AAS×Unit)
abbrev Ht:Type:=Int→Int→List Int→Int→Int→Int→Int→Bool→List Int→AAO→List Int→AAN→AAc→AAi→AAn→AAS→Int→Int→Bool→List Int→AAO→List Int→AAN→AAc→AAi→AAn→AAS→Int→List Int→List Int→Option DC
abbrev Ho:Type:=Int→List Int→Int→Int→Int→Int→Bool→List Int→AAO→List Int→AAN→AAc→AAi→AAn→AAS→Int→Int→Bool→List Int→AAO→List Int→AAN→AAc→AAi→AAn→AAS→Int→List Int→List Int→Option DC
abbrev HA:Type:=Int→Int→List Int→Int→Int→Int→Int→Bool→List Int→AAO→List Int→AAN→AAc→AAi→AAn→AAS→Int→Int→Bool→List Int→AAO→List Int→AAN→AAc→AAi→AAn→AAS→Int→Int→Bool→Int→Int→Bool→List Int→AAO→List Int→AAN→AAc→AAi→AAn→AAS→(List ABA)→Option DC
def Qu(R4:Ht)(R7:Ho)(R14:HA)(t1 t9:Int)(AL:AAM)(AE Ab Ap D2:Int)(Ew:Bool)(b2:AAM)(b3:AAO)(b4:AAM)(b5:AAN)(b6:AAc)(b7:AAi)(b8:AAn)(b9:AAS)(Dd EV:Int)(Cy:Bool)(Fc:AAM)(DX:AAO)(GI:AAM)(GH:AAN)(Dy:AAc)(EP:AAi)(FD:AAn)(VA:AAS)(CL:Int)(b20 b21:AAM):Option DC:=
 cond ((decide (t9<(b20.length:Int))))
  (if b21.length+1≤DA then(
  R4 t1 (AS (t9+1)) AL AE Ab Ap D2 Ew b2 b3 b4 b5 b6 b7 b8 b9 Dd EV Cy Fc DX GI GH Dy EP FD VA CL b20 (b21++[t9]))else none)
 (R7 t1 AL AE Ab Ap D2 Ew b2 b3 b4 b5 b6 b7 b8 b9 Dd EV Cy Fc DX GI GH Dy EP FD VA CL b20 b21)
def Q9(R4:Ht)(R7:Ho)(R14:HA)(t1:Int)(AL:AAM)(AE Ab Ap D2:Int)(Ew:Bool)(b2:AAM)(b3:AAO)(b4:AAM)(b5:AAN)(b6:AAc)(b7:AAi)(b8:AAn)(b9:AAS)(Dd EV:Int)(Cy:Bool)(Fc:AAM)(DX:AAO)(GI:AAM)(GH:AAN)(Dy:AAc)(EP:AAi)(FD:AAn)(VA:AAS)(CL:Int)(b20 b21:AAM):Option DC:=
 cond (decide (CL>1))
  ((Ei (b20,CL,()) b21).bind fun u3=>
  cond (!u3.1.1)
   (R7 t1 AL AE Ab Ap D2 Ew b2 b3 b4 b5 b6 b7 b8 b9 Dd EV Cy Fc DX GI GH Dy EP FD VA (AS (CL-1)) b20 b21)
  ((Hc (b20,CL,())).bind fun u4=>
  (AJ (AS (t1+1)) AL AE Ab).bind fun u5=>
  R14 u5.1.1 0 u5.2.1.1 u5.2.1.2.1 u5.2.1.2.2.1 Ap D2 Ew b2 b3 b4 b5 b6 b7 b8 b9 Dd EV Cy Fc DX GI GH Dy EP FD VA u4.1.1.1.2.1 u4.1.1.1.2.2.2.2.2.1 u4.1.1.1.2.2.2.2.2.2.2.2.2.2.1 u4.1.1.1.2.1 u4.1.1.1.2.2.2.2.2.1 u4.1.1.1.2.2.2.2.2.2.2.2.2.2.1 u4.2.1 u4.2.2.1 u4.2.2.2.1 u4.2.2.2.2.1 u4.2.2.2.2.2.1 u4.2.2.2.2.2.2.1 u4.2.2.2.2.2.2.2.1 u4.2.2.2.2.2.2.2.2.1 []))
 ((Hc (b20,CL,())).bind fun u6=>
 (AJ (AS (t1+1)) AL AE Ab).bind fun u7=>
 R14 u7.1.1 0 u7.2.1.1 u7.2.1.2.1 u7.2.1.2.2.1 Ap D2 Ew b2 b3 b4 b5 b6 b7 b8 b9 Dd EV Cy Fc DX GI GH Dy EP FD VA u6.1.1.1.2.1 u6.1.1.1.2.2.2.2.2.1 u6.1.1.1.2.2.2.2.2.2.2.2.2.2.1 u6.1.1.1.2.1 u6.1.1.1.2.2.2.2.2.1 u6.1.1.1.2.2.2.2.2.2.2.2.2.2.1 u6.2.1 u6.2.2.1 u6.2.2.2.1 u6.2.2.2.2.1 u6.2.2.2.2.2.1 u6.2.2.2.2.2.2.1 u6.2.2.2.2.2.2.2.1 u6.2.2.2.2.2.2.2.2.1 [])
def Ps(R4:Ht)(R7:Ho)(R14:HA)(t14 t15:Int)(AL:AAM)(AE Ab Ap D2:Int)(Ew:Bool)(b2:AAM)(b3:AAO)(b4:AAM)(b5:AAN)(b6:AAc)(b7:AAi)(b8:AAn)(b9:AAS)(Dd EV:Int)(Cy:Bool)(Fc:AAM)(DX:AAO)(GI:AAM)(GH:AAN)(Dy:AAc)(EP:AAi)(FD:AAn)(VA:AAS)(CL Uk:Int)(wY:Bool)(yx yg:Int)(sf:Bool)(b29:AAM)(b30:AAO)(b31:AAM)(b32:AAN)(b33:AAc)(b34:AAi)(b35:AAn)(b36:AAS)(b37:List ABA):Option DC:=
 cond (decide (t15<t14))
  ((PC (b29,yx,b30,b31,b32,yg,b33,b34,b35,b36,sf,()) AL AE Ab).bind fun u8=>
  if b37.length+1≤DA then(
  let x9:List ABA:=b37++[(u8.1.1.1,u8.1.1.2.1,u8.1.1.2.2.1,u8.1.1.2.2.2.1,u8.1.1.2.2.2.2.1,())]
  (Sb (b29,yx,b30,b31,b32,yg,b33,b34,b35,b36,sf,()) (u8.1.1.1,u8.1.1.2.1,u8.1.1.2.2.1,u8.1.1.2.2.2.1,u8.1.1.2.2.2.2.1,())).bind fun D1=>
  cond (D1.1.1.2.1==0)
   (R14 t14 (AS (t15+1)) u8.2.1.1 u8.2.1.2.1 u8.2.1.2.2.1 Ap D2 Ew b2 b3 b4 b5 b6 b7 b8 b9 Dd EV Cy Fc DX GI GH Dy EP FD VA CL Uk wY D1.1.1.1.2.1 D1.1.1.1.2.2.2.2.2.1 D1.1.1.1.2.2.2.2.2.2.2.2.2.2.1 D1.2.1 D1.2.2.1 D1.2.2.2.1 D1.2.2.2.2.1 D1.2.2.2.2.2.1 D1.2.2.2.2.2.2.1 D1.2.2.2.2.2.2.2.1 D1.2.2.2.2.2.2.2.2.1 x9)
  (R14 t14 (AS (t15+1)) u8.2.1.1 u8.2.1.2.1 u8.2.1.2.2.1 Ap D2 Ew b2 b3 b4 b5 b6 b7 b8 b9 Dd EV Cy Fc DX GI GH Dy EP FD VA CL Uk wY yx yg sf b29 b30 b31 b32 b33 b34 b35 b36 x9))else none)
 (some (((((),CL,(),(),(),Uk,(),(),(),(),wY,()),(),((),yx,(),(),(),yg,(),(),(),(),sf,()),()),()),((AL,AE,Ab,()),(),(),(),(),(),(),(),(),b37,b29,b30,b31,b32,b33,b34,b35,b36,())))
mutual
def EZ:Nat→Ht
 |0=>fun _ _ _ _ _ _ _ _ _ _ _ _ _ _ _ _ _ _ _ _ _ _ _ _ _ _ _ _ _ _=>none
 |n+1=>Qu (EZ n) (Eh n) (DY n)
def Eh:Nat→Ho
 |0=>fun _ _ _ _ _ _ _ _ _ _ _ _ _ _ _ _ _ _ _ _ _ _ _ _ _ _ _ _ _=>none
 |n+1=>Q9 (EZ n) (Eh n) (DY n)
def DY:Nat→HA
 |0=>fun _ _ _ _ _ _ _ _ _ _ _ _ _ _ _ _ _ _ _ _ _ _ _ _ _ _ _ _ _ _ _ _ _ _ _ _ _ _ _ _ _ _=>none
 |n+1=>Ps (EZ n) (Eh n) (DY n)
end
def Qt(R4:Ht)(R7:Ho)(R14:HA)(p1:Int)(AL:AAM)(AE Ab:Int):Option DC:=
 (L0 AL AE Ab).bind fun u1=>
 R4 p1 0 u1.2.1.1 u1.2.1.2.1 u1.2.1.2.2.1 0 0 false [] [] [] [] [] [] [] [] 0 0 false [] [] [] [] [] [] [] [] u1.1.1.2.1 u1.2.2.1 []
def KH(p1:Int)(AL:AAM)(AE Ab:Int):Option DC:=Qt (EZ AY) (Eh AY) (DY AY) p1 AL AE Ab
abbrev gn:Type:=AFH×ADB
def L5(AL:AAM)(AE Ab:Int):Option gn:=
 (AJ 3 AL AE Ab).bind fun u1=>
 (AJ 6 u1.2.1.1 u1.2.1.2.1 u1.2.1.2.2.1).bind fun u2=>
 (CW (AS (1+u1.1.1)) (AS (1+u2.1.1))).bind fun u3=>
 (Gz [[],[97],[98,99],[0],[119,111,114,100]] u2.2.1.1 u2.2.1.2.1 u2.2.1.2.2.1).bind fun u4=>
 (A9 3 u4.2.1.1 u4.2.1.2.1 u4.2.1.2.2.1).bind fun u5=>
 cond (u5.1.1)
  ((Cf u3.1.1).bind fun u6=>
  (AJ 3 u5.2.1.1 u5.2.1.2.1 u5.2.1.2.2.1).bind fun u7=>
  let x8:Int:=AS ((AS (u6.1.1+1))+u7.1.1)
  (A9 2 u7.2.1.1 u7.2.1.2.1 u7.2.1.2.2.1).bind fun u9=>
  cond (u9.1.1)
   (some (((u3.1.1,x8,true,[],()),()),((u9.2.1.1,u9.2.1.2.1,u9.2.1.2.2.1,()),())))
  (some (((u3.1.1,x8,false,u4.1.1,()),()),((u9.2.1.1,u9.2.1.2.1,u9.2.1.2.2.1,()),()))))
 (some (((u3.1.1,0,false,u4.1.1,()),()),((u5.2.1.1,u5.2.1.2.1,u5.2.1.2.2.1,()),())))
abbrev CN:Type:=ADu×AKJ
abbrev IY:Type:=Int→Int→List Int→Int→Int→Int→AAR→AAR→Int→AAR→AAR→Option CN
abbrev Hs:Type:=Int→List Int→Int→Int→Int→AAR→AAR→Int→AAR→AAR→Option CN
abbrev Hp:Type:=Int→Int→List Int→Int→Int→Int→AAR→AAR→Int→AAR→AAR→Option CN
def SM(R4:IY)(R20:Hs)(R23:Hp)(t4 t5:Int)(AL:AAM)(AE Ab DE:Int)(b2 b3:AAR)(Mk:Int)(b5 b6:AAR):Option CN:=
 cond (decide (t5<t4))
  ((L5 AL AE Ab).bind fun u2=>
  (M4 (b5,b6,Mk,()) (u2.1.1.1,u2.1.1.2.1,u2.1.1.2.2.1,u2.1.1.2.2.2.1,())).bind fun u3=>
  (AJ 6 u2.2.1.1 u2.2.1.2.1 u2.2.1.2.2.1).bind fun u4=>
  cond (u4.1.1==0)
   ((JS (b5,b6,Mk,())).bind fun u5=>
   cond (u5.1.1.2.1)
    (R4 t4 (AS (t5+1)) u4.2.1.1 u4.2.1.2.1 u4.2.1.2.2.1 DE b2 b3 u5.1.1.1.2.2.1 u5.2.1 u5.2.2.1)
   (R4 t4 (AS (t5+1)) u4.2.1.1 u4.2.1.2.1 u4.2.1.2.2.1 DE b2 b3 Mk b5 b6))
  (cond (u4.1.1==1)
   ((JS (u3.2.1,u3.2.2.1,u3.1.1.1.2.2.1,())).bind fun u6=>
   cond (u6.1.1.2.1)
    (R4 t4 (AS (t5+1)) u4.2.1.1 u4.2.1.2.1 u4.2.1.2.2.1 DE b2 b3 u6.1.1.1.2.2.1 u6.2.1 u6.2.2.1)
   (R4 t4 (AS (t5+1)) u4.2.1.1 u4.2.1.2.1 u4.2.1.2.2.1 DE b2 b3 Mk b5 b6))
  (cond (u4.1.1==2)
   ((A9 3 u4.2.1.1 u4.2.1.2.1 u4.2.1.2.2.1).bind fun u7=>
   cond (u7.1.1)
    ((AJ 4 u7.2.1.1 u7.2.1.2.1 u7.2.1.2.2.1).bind fun u8=>
    (Oa (b5,b6,Mk,()) u8.1.1).bind fun u9=>
    cond (u9.1.1.2.1)
     (R4 t4 (AS (t5+1)) u8.2.1.1 u8.2.1.2.1 u8.2.1.2.2.1 DE b2 b3 u9.1.1.1.2.2.1 u9.2.1 u9.2.2.1)
    (R4 t4 (AS (t5+1)) u8.2.1.1 u8.2.1.2.1 u8.2.1.2.2.1 DE b2 b3 Mk b5 b6))
   (cond (u3.1.1.2.1)
    (R4 t4 (AS (t5+1)) u7.2.1.1 u7.2.1.2.1 u7.2.1.2.2.1 DE b2 b3 u3.1.1.1.2.2.1 u3.2.1 u3.2.2.1)
   (R4 t4 (AS (t5+1)) u7.2.1.1 u7.2.1.2.1 u7.2.1.2.2.1 DE b2 b3 Mk b5 b6)))
  (cond (u3.1.1.2.1)
   (R4 t4 (AS (t5+1)) u4.2.1.1 u4.2.1.2.1 u4.2.1.2.2.1 DE b2 b3 u3.1.1.1.2.2.1 u3.2.1 u3.2.2.1)
  (R4 t4 (AS (t5+1)) u4.2.1.1 u4.2.1.2.1 u4.2.1.2.2.1 DE b2 b3 Mk b5 b6)))))
 ((A9 40 AL AE Ab).bind fun aR=>
 cond (aR.1.1)
  (R20 1 aR.2.1.1 aR.2.1.2.1 aR.2.1.2.2.1 DE b2 b3 Mk [] b6)
 (some ((((),(),Mk,()),()),((aR.2.1.1,aR.2.1.2.1,aR.2.1.2.2.1,()),b5,b6,()))))
def RN(R4:IY)(R20:Hs)(R23:Hp)(t8:Int)(AL:AAM)(AE Ab DE:Int)(b2 b3:AAR)(Mk:Int)(b5 b6:AAR):Option CN:=
 cond (decide (t8≤4))
  (R23 t8 1 AL AE Ab DE b2 b3 Mk b5 b6)
 (some ((((),(),Mk,()),()),((AL,AE,Ab,()),b5,b6,())))
def Q0(R4:IY)(R20:Hs)(R23:Hp)(t8 t9:Int)(AL:AAM)(AE Ab DE:Int)(b2 b3:AAR)(Mk:Int)(b5 b6:AAR):Option CN:=
 cond (decide (t9≤50))
  ((CW t8 t9).bind fun fU=>
  if b5.length+1≤DA then(
  R23 t8 (AS (t9+1)) AL AE Ab DE b2 b3 Mk (b5++[(fU.1.1,0,false,[],())]) b6)else none)
 (R20 (AS (t8+1)) AL AE Ab DE b2 b3 Mk b5 b6)
mutual
def EG:Nat→IY
 |0=>fun _ _ _ _ _ _ _ _ _ _ _=>none
 |n+1=>SM (EG n) (Ed n) (Eo n)
def Ed:Nat→Hs
 |0=>fun _ _ _ _ _ _ _ _ _ _=>none
 |n+1=>RN (EG n) (Ed n) (Eo n)
def Eo:Nat→Hp
 |0=>fun _ _ _ _ _ _ _ _ _ _ _=>none
 |n+1=>Q0 (EG n) (Ed n) (Eo n)
end
def SB(R4:IY)(R20:Hs)(R23:Hp)(AL:AAM)(AE Ab:Int):Option CN:=
 (AJ 8 AL AE Ab).bind fun u1=>
 R4 u1.1.1 0 u1.2.1.1 u1.2.1.2.1 u1.2.1.2.2.1 0 [] [] 0 [] []
def GB(AL:AAM)(AE Ab:Int):Option CN:=SB (EG AY) (Ed AY) (Eo AY) AL AE Ab
abbrev QS:Type:=AA3×ADB
def E_(AL:AAM)(AE Ab:Int):Option QS:=
 (AJ 3 AL AE Ab).bind fun u1=>
 (AJ 6 u1.2.1.1 u1.2.1.2.1 u1.2.1.2.2.1).bind fun u2=>
 (CW (AS (1+u1.1.1)) (AS (1+u2.1.1))).bind fun u3=>
 (AJ 15 u2.2.1.1 u2.2.1.2.1 u2.2.1.2.2.1).bind fun u4=>
 cond (u4.1.1==0)
  ((CI [0,(-1),4294967296,4294967297,9223372036854775807,(-9223372036854775808)] u4.2.1.1 u4.2.1.2.1 u4.2.1.2.2.1).bind fun u5=>
  some ((u5.1.1,()),((u5.2.1.1,u5.2.1.2.1,u5.2.1.2.2.1,()),())))
 (cond (u4.1.1==1)
  ((CI [0,30,31] u4.2.1.1 u4.2.1.2.1 u4.2.1.2.2.1).bind fun u6=>
  (CI [0,60,61] u6.2.1.1 u6.2.1.2.1 u6.2.1.2.2.1).bind fun u7=>
  (CW u6.1.1 u7.1.1).bind fun u8=>
  some ((u8.1.1,()),((u7.2.1.1,u7.2.1.2.1,u7.2.1.2.2.1,()),())))
 (some ((u3.1.1,()),((u4.2.1.1,u4.2.1.2.1,u4.2.1.2.2.1,()),()))))
abbrev qI:Type:=AFH×ADB
def Qr(AL:AAM)(AE Ab:Int):Option qI:=
 (L5 AL AE Ab).bind fun u1=>
 (AJ 15 u1.2.1.1 u1.2.1.2.1 u1.2.1.2.2.1).bind fun u2=>
 cond (u2.1.1==0)
  ((E_ u2.2.1.1 u2.2.1.2.1 u2.2.1.2.2.1).bind fun u3=>
  some (((u3.1.1,u1.1.1.2.1,u1.1.1.2.2.1,u1.1.1.2.2.2.1,()),()),((u3.2.1.1,u3.2.1.2.1,u3.2.1.2.2.1,()),())))
 (cond (u2.1.1==1)
  ((CI [(-1),1,30,31] u2.2.1.1 u2.2.1.2.1 u2.2.1.2.2.1).bind fun u4=>
  some (((u1.1.1.1,u4.1.1,u1.1.1.2.2.1,u1.1.1.2.2.2.1,()),()),((u4.2.1.1,u4.2.1.2.1,u4.2.1.2.2.1,()),())))
 (cond (u2.1.1==2)
  (some (((u1.1.1.1,u1.1.1.2.1,true,u1.1.1.2.2.2.1,()),()),((u2.2.1.1,u2.2.1.2.1,u2.2.1.2.2.1,()),())))
 (cond (u2.1.1==3)
  ((AJ 2 u2.2.1.1 u2.2.1.2.1 u2.2.1.2.2.1).bind fun u5=>
  if(0:Int)≤(AS (40+u5.1.1))∧(AS (40+u5.1.1))≤(AS (40+u5.1.1))∧(AS (40+u5.1.1))≤(DA:Int)then(
  some (((u1.1.1.1,u1.1.1.2.1,u1.1.1.2.2.1,((List.replicate ((AS (40+u5.1.1)).toNat) 0).map fun n:Int=>UInt8.ofNat n.toNat),()),()),((u5.2.1.1,u5.2.1.2.1,u5.2.1.2.2.1,()),())))else none)
 (some (((u1.1.1.1,u1.1.1.2.1,u1.1.1.2.2.1,u1.1.1.2.2.2.1,()),()),((u2.2.1.1,u2.2.1.2.1,u2.2.1.2.2.1,()),()))))))
abbrev NK:Type:=ADu×AKJ
abbrev VC:Type:=List Int→Int→Int→Int→AAR→AAR→Int→AAR→AAR→Option NK
def XW(R10:VC)(AL:AAM)(AE Ab DE:Int)(b2 b3:AAR)(Mk:Int)(b5 b6:AAR):Option NK:=
 (AJ 2 AL AE Ab).bind fun KP=>
 cond ((decide ((b6.length:Int)<(AS (20+KP.1.1)))))
  ((CW 5 1).bind fun u16=>
  if b6.length+1≤DA then(
  R10 KP.2.1.1 KP.2.1.2.1 KP.2.1.2.2.1 DE b2 b3 Mk b5 (b6++[(u16.1.1,0,false,[],())]))else none)
 (some ((((),(),Mk,()),()),((KP.2.1.1,KP.2.1.2.1,KP.2.1.2.2.1,()),b5,b6,())))
def M1:Nat→VC
 |0=>fun _ _ _ _ _ _ _ _ _=>none
 |n+1=>XW (M1 n)
def Yc(R10:VC)(AL:AAM)(AE Ab:Int):Option NK:=
 (GB AL AE Ab).bind fun u1=>
 (AJ 25 u1.2.1.1 u1.2.1.2.1 u1.2.1.2.2.1).bind fun u2=>
 cond (u2.1.1==0)
  ((CI [(-1),30,31] u2.2.1.1 u2.2.1.2.1 u2.2.1.2.2.1).bind fun u3=>
  some ((((),(),u3.1.1,()),()),((u3.2.1.1,u3.2.1.2.1,u3.2.1.2.2.1,()),u1.2.2.1,u1.2.2.2.1,())))
 (cond (u2.1.1==1)
  ((Qr u2.2.1.1 u2.2.1.2.1 u2.2.1.2.2.1).bind fun u4=>
  if u1.2.2.1.length+1≤DA then(
  some ((((),(),u1.1.1.2.2.1,()),()),((u4.2.1.1,u4.2.1.2.1,u4.2.1.2.2.1,()),(u1.2.2.1++[(u4.1.1.1,u4.1.1.2.1,u4.1.1.2.2.1,u4.1.1.2.2.2.1,())]),u1.2.2.2.1,())))else none)
 (cond (u2.1.1==2)
  ((Qr u2.2.1.1 u2.2.1.2.1 u2.2.1.2.2.1).bind fun u9=>
  if u1.2.2.2.1.length+1≤DA then(
  some ((((),(),u1.1.1.2.2.1,()),()),((u9.2.1.1,u9.2.1.2.1,u9.2.1.2.2.1,()),u1.2.2.1,(u1.2.2.2.1++[(u9.1.1.1,u9.1.1.2.1,u9.1.1.2.2.1,u9.1.1.2.2.2.1,())]),())))else none)
 (cond (u2.1.1==3)
  (R10 u2.2.1.1 u2.2.1.2.1 u2.2.1.2.2.1 0 [] [] u1.1.1.2.2.1 u1.2.2.1 u1.2.2.2.1)
 (some ((((),(),u1.1.1.2.2.1,()),()),((u2.2.1.1,u2.2.1.2.1,u2.2.1.2.2.1,()),u1.2.2.1,u1.2.2.2.1,()))))))
def US(AL:AAM)(AE Ab:Int):Option NK:=Yc (M1 AY) AL AE Ab
abbrev MF:Type:=ACt×AKN
abbrev PY:Type:=Int→List Int→Int→Int→List Int→Int→Int→AAN→Int→AAN→Option MF
def Si(R3:PY)(t6:Int)(AL:AAM)(AE Ab:Int)(BB:AAM)(Ap Kw:Int)(b3:AAN)(fA:Int)(b5:AAN):Option MF:=
 (AJ 7 AL AE Ab).bind fun u1=>
 cond (decide (t6<u1.1.1))
  ((Hv (BB,Ap,()) u1.2.1.1 u1.2.1.2.1 u1.2.1.2.2.1).bind fun u2=>
  (MS (BB,Ap,()) (b5,fA,()) u2.2.2.1).bind fun u3=>
  (AJ 4 u2.2.1.1 u2.2.1.2.1 u2.2.1.2.2.1).bind fun u4=>
  cond (u4.1.1==0)
   ((AJ 5 u4.2.1.1 u4.2.1.2.1 u4.2.1.2.2.1).bind fun u5=>
   (Po (BB,Ap,()) (b5,fA,()) (b5.length:Int) u5.1.1).bind fun u6=>
   cond (u6.1.1.2.1)
    (R3 (AS (t6+1)) u5.2.1.1 u5.2.1.2.1 u5.2.1.2.2.1 BB Ap Kw b3 u6.1.1.1.2.1 u6.2.1)
   (R3 (AS (t6+1)) u5.2.1.1 u5.2.1.2.1 u5.2.1.2.2.1 BB Ap Kw b3 fA b5))
  (cond (u4.1.1==1)
   ((AJ 2 u4.2.1.1 u4.2.1.2.1 u4.2.1.2.2.1).bind fun u7=>
   (AJ 4 u7.2.1.1 u7.2.1.2.1 u7.2.1.2.2.1).bind fun u8=>
   (CW (AS (1+u7.1.1)) (AS (1+u8.1.1))).bind fun u9=>
   (SH (BB,Ap,()) (b5,fA,()) u9.1.1).bind fun D1=>
   cond (D1.1.1.2.1)
    (R3 (AS (t6+1)) u8.2.1.1 u8.2.1.2.1 u8.2.1.2.2.1 BB Ap Kw b3 D1.1.1.1.2.1 D1.2.1)
   (R3 (AS (t6+1)) u8.2.1.1 u8.2.1.2.1 u8.2.1.2.2.1 BB Ap Kw b3 fA b5))
  (cond (u3.1.1.2.2.1)
   (R3 (AS (t6+1)) u4.2.1.1 u4.2.1.2.1 u4.2.1.2.2.1 BB Ap Kw b3 u3.1.1.1.2.1 u3.2.1)
  (R3 (AS (t6+1)) u4.2.1.1 u4.2.1.2.1 u4.2.1.2.2.1 BB Ap Kw b3 fA b5))))
 (some ((((),fA,()),()),((u1.2.1.1,u1.2.1.2.1,u1.2.1.2.2.1,()),b5,())))
def Gk:Nat→PY
 |0=>fun _ _ _ _ _ _ _ _ _ _=>none
 |n+1=>Si (Gk n)
def Rz(R3:PY)(p1:AAq)(AL:AAM)(AE Ab:Int):Option MF:=
 R3 0 AL AE Ab p1.1 p1.2.1 0 [] 0 []
def Ou(p1:AAq)(AL:AAM)(AE Ab:Int):Option MF:=Rz (Gk AY) p1 AL AE Ab
abbrev M_:Type:=ACt×AKN
abbrev VF:Type:=List Int→List Int→Int→Int→Int→AAN→Int→AAN→Option M_
def XL(R17:VF)(t7 AL:AAM)(AE Ab Ap:Int)(b2:AAN)(dw:Int)(b4:AAN):Option M_:=
 (AJ 2 AL AE Ab).bind fun MO=>
 cond ((decide ((b4.length:Int)<(AS (30+MO.1.1)))))
  (if b4.length+1≤DA then(
  R17 t7 MO.2.1.1 MO.2.1.2.1 MO.2.1.2.2.1 Ap b2 dw (b4++[(t7,false,0,())]))else none)
 (some ((((),dw,()),()),((MO.2.1.1,MO.2.1.2.1,MO.2.1.2.2.1,()),b4,())))
def Mn:Nat→VF
 |0=>fun _ _ _ _ _ _ _ _=>none
 |n+1=>XL (Mn n)
def YL(R17:VF)(p1:AAq)(AL:AAM)(AE Ab:Int):Option M_:=
 (Ou (p1.1,p1.2.1,()) AL AE Ab).bind fun u1=>
 let x2:Int:=(u1.2.2.1.length:Int)
 (AJ 25 u1.2.1.1 u1.2.1.2.1 u1.2.1.2.2.1).bind fun u3=>
 cond (u3.1.1==0)
  ((E_ u3.2.1.1 u3.2.1.2.1 u3.2.1.2.2.1).bind fun u4=>
  some ((((),u4.1.1,()),()),((u4.2.1.1,u4.2.1.2.1,u4.2.1.2.2.1,()),u1.2.2.1,())))
 (cond (u3.1.1==1)
  (cond (decide (x2>0))
   (if(0:Int)≤AS (x2-1)∧AS (x2-1)<(u1.2.2.1.length:Int)then(
   some ((((),u1.1.1.2.1,()),()),((u3.2.1.1,u3.2.1.2.1,u3.2.1.2.2.1,()),(u1.2.2.1.set ((AS (x2-1)).toNat) ((u1.2.2.1.getD ((AS (x2-1)).toNat) ([],false,0,())).1,true,(u1.2.2.1.getD ((AS (x2-1)).toNat) ([],false,0,())).2.2.1,())),())))else none)
  (some ((((),u1.1.1.2.1,()),()),((u3.2.1.1,u3.2.1.2.1,u3.2.1.2.2.1,()),u1.2.2.1,()))))
 (cond (u3.1.1==2)
  (cond (decide (x2>0))
   ((CI [(-1),1,60,61] u3.2.1.1 u3.2.1.2.1 u3.2.1.2.2.1).bind fun u6=>
   if(0:Int)≤(0:Int)∧(0:Int)<(u1.2.2.1.length:Int)then(
   some ((((),u1.1.1.2.1,()),()),((u6.2.1.1,u6.2.1.2.1,u6.2.1.2.2.1,()),(u1.2.2.1.set 0 ((u1.2.2.1.getD 0 ([],false,0,())).1,(u1.2.2.1.getD 0 ([],false,0,())).2.1,u6.1.1,())),())))else none)
  (some ((((),u1.1.1.2.1,()),()),((u3.2.1.1,u3.2.1.2.1,u3.2.1.2.2.1,()),u1.2.2.1,()))))
 (cond (u3.1.1==3)
  (cond (decide (x2>0))
   ((E8 (p1.1,p1.2.1,()) u3.2.1.1 u3.2.1.2.1 u3.2.1.2.2.1).bind fun u8=>
   if(0:Int)≤(0:Int)∧(0:Int)<(u1.2.2.1.length:Int)then(
   some ((((),u1.1.1.2.1,()),()),((u8.2.1.1,u8.2.1.2.1,u8.2.1.2.2.1,()),(u1.2.2.1.set 0 (u8.2.2.1,(u1.2.2.1.getD 0 ([],false,0,())).2.1,(u1.2.2.1.getD 0 ([],false,0,())).2.2.1,())),())))else none)
  (some ((((),u1.1.1.2.1,()),()),((u3.2.1.1,u3.2.1.2.1,u3.2.1.2.2.1,()),u1.2.2.1,()))))
 (cond (u3.1.1==4)
  ((Hv (p1.1,p1.2.1,()) u3.2.1.1 u3.2.1.2.1 u3.2.1.2.2.1).bind fun D1=>
  R17 D1.2.2.1 D1.2.1.1 D1.2.1.2.1 D1.2.1.2.2.1 0 [] u1.1.1.2.1 u1.2.2.1)
 (some ((((),u1.1.1.2.1,()),()),((u3.2.1.1,u3.2.1.2.1,u3.2.1.2.2.1,()),u1.2.2.1,())))))))
def Us(p1:AAq)(AL:AAM)(AE Ab:Int):Option M_:=YL (Mn AY) p1 AL AE Ab
abbrev MN:Type:=ADx×AKW
abbrev PV:Type:=Int→List Int→Int→Int→List Int→Int→Int→AA4→Int→AA4→Option MN
def Sh(R3:PV)(t6:Int)(AL:AAM)(AE Ab:Int)(BB:AAM)(Ap Im:Int)(b3:AA4)(ie:Int)(b5:AA4):Option MN:=
 (AJ 14 AL AE Ab).bind fun u2=>
 cond (decide (t6<u2.1.1))
  ((Gz [[],[97],[98,99]] u2.2.1.1 u2.2.1.2.1 u2.2.1.2.2.1).bind fun u3=>
  (Gj (BB,Ap,()) (ie,b5,()) u3.1.1).bind fun u4=>
  (A9 2 u3.2.1.1 u3.2.1.2.1 u3.2.1.2.2.1).bind fun u5=>
  cond (u5.1.1)
   ((FF (b5.length:Int) 1).bind fun u6=>
   (AJ u6.1.1 u5.2.1.1 u5.2.1.2.1 u5.2.1.2.2.1).bind fun u7=>
   (AJ (BB.length:Int) u7.2.1.1 u7.2.1.2.1 u7.2.1.2.2.1).bind fun u8=>
   (Dh (BB,Ap,()) (ie,b5,()) (AS (1+u7.1.1)) u8.1.1).bind fun u9=>
   cond (u9.1.1.2.1)
    (R3 (AS (t6+1)) u8.2.1.1 u8.2.1.2.1 u8.2.1.2.2.1 BB Ap Im b3 u9.1.1.1.1 u9.2.1)
   (R3 (AS (t6+1)) u8.2.1.1 u8.2.1.2.1 u8.2.1.2.2.1 BB Ap Im b3 ie b5))
  (cond (u4.1.1.2.2.1)
   (R3 (AS (t6+1)) u5.2.1.1 u5.2.1.2.1 u5.2.1.2.2.1 BB Ap Im b3 u4.1.1.1.1 u4.2.1)
  (R3 (AS (t6+1)) u5.2.1.1 u5.2.1.2.1 u5.2.1.2.2.1 BB Ap Im b3 ie b5)))
 (some (((ie,(),()),()),((u2.2.1.1,u2.2.1.2.1,u2.2.1.2.2.1,()),b5,())))
def IV:Nat→PV
 |0=>fun _ _ _ _ _ _ _ _ _ _=>none
 |n+1=>Sh (IV n)
def Se(R3:PV)(p1:AAq)(AL:AAM)(AE Ab:Int):Option MN:=
 (AJ 4 AL AE Ab).bind fun u1=>
 R3 0 u1.2.1.1 u1.2.1.2.1 u1.2.1.2.2.1 p1.1 p1.2.1 0 [] (AS (1+u1.1.1)) []
def PM(p1:AAq)(AL:AAM)(AE Ab:Int):Option MN:=Se (IV AY) p1 AL AE Ab
abbrev NB:Type:=ADx×AKW
abbrev VQ:Type:=List Int→Int→Int→Int→AA4→Int→AA4→Option NB
def QP(q_:VQ)(AL:AAM)(AE Ab BB:Int)(b2:AA4)(ga:Int)(b4:AA4):Option NB:=
 cond ((decide ((b4.length:Int)<60)))
  (cond ((decide ((b4.length:Int)>0)))
   (if(0:Int)≤(0:Int)∧(0:Int)<(b4.length:Int)then(
   if b4.length+1≤DA then(
   q_ AL AE Ab BB b2 ga (b4++[((b4.getD 0 ([],[],false,())).1,(b4.getD 0 ([],[],false,())).2.1,(b4.getD 0 ([],[],false,())).2.2.1,())]))else none)else none)
  (some (((ga,(),()),()),((AL,AE,Ab,()),b4,()))))
 (some (((ga,(),()),()),((AL,AE,Ab,()),b4,())))
def Gv:Nat→VQ
 |0=>fun _ _ _ _ _ _ _=>none
 |n+1=>QP (Gv n)
def Nf(q_:VQ)(p1:AAq)(AL:AAM)(AE Ab:Int):Option NB:=
 (PM (p1.1,p1.2.1,()) AL AE Ab).bind fun u1=>
 (AJ 25 u1.2.1.1 u1.2.1.2.1 u1.2.1.2.2.1).bind fun u2=>
 cond (u2.1.1==0)
  ((CI [0,30,31] u2.2.1.1 u2.2.1.2.1 u2.2.1.2.2.1).bind fun u3=>
  some (((u3.1.1,(),()),()),((u3.2.1.1,u3.2.1.2.1,u3.2.1.2.2.1,()),u1.2.2.1,())))
 (cond (u2.1.1==1)
  (cond (decide ((u1.2.2.1.length:Int)>0))
   (if(0:Int)≤(0:Int)∧(0:Int)<(u1.2.2.1.length:Int)then(
   if(0:Int)≤(0:Int)∧(0:Int)<(u1.2.2.1.length:Int)then(
   some (((u1.1.1.1,(),()),()),((u2.2.1.1,u2.2.1.2.1,u2.2.1.2.2.1,()),(u1.2.2.1.set 0 ((u1.2.2.1.getD 0 ([],[],false,())).1,(u1.2.2.1.getD 0 ([],[],false,())).2.1,!((u1.2.2.1.getD 0 ([],[],false,())).2.2.1),())),())))else none)else none)
  (some (((u1.1.1.1,(),()),()),((u2.2.1.1,u2.2.1.2.1,u2.2.1.2.2.1,()),u1.2.2.1,()))))
 (cond (u2.1.1==2)
  ((AJ 2 u2.2.1.1 u2.2.1.2.1 u2.2.1.2.2.1).bind fun u7=>
  if(0:Int)≤(AS (40+u7.1.1))∧(AS (40+u7.1.1))≤(AS (40+u7.1.1))∧(AS (40+u7.1.1))≤(DA:Int)then(
  if u1.2.2.1.length+1≤DA then(
  some (((u1.1.1.1,(),()),()),((u7.2.1.1,u7.2.1.2.1,u7.2.1.2.2.1,()),(u1.2.2.1++[(((List.replicate ((AS (40+u7.1.1)).toNat) 0).map fun n:Int=>UInt8.ofNat n.toNat),[],false,())]),())))else none)else none)
 (cond (u2.1.1==3)
  (q_ u2.2.1.1 u2.2.1.2.1 u2.2.1.2.2.1 0 [] u1.1.1.1 u1.2.2.1)
 (some (((u1.1.1.1,(),()),()),((u2.2.1.1,u2.2.1.2.1,u2.2.1.2.2.1,()),u1.2.2.1,()))))))
def OA(p1:AAq)(AL:AAM)(AE Ab:Int):Option NB:=Nf (Gv AY) p1 AL AE Ab
abbrev GR:Type:=AA9×AA_
abbrev VL:Type:=Int→List Int→Int→List Int→Option GR
def Wx(R3:VL)(t6:Int)(AL:AAM)(AE:Int)(b1:AAM):Option GR:=
 cond ((decide (t6<(AL.length:Int))))
  ((Ei (AL,AE,()) b1).bind fun u2=>
  cond (!u2.1.1)
   ((IG b1 t6).bind fun u3=>
   R3 (AS (t6+1)) AL AE u3.2.1)
  (some (((),()),(b1,()))))
 (some (((),()),(b1,())))
def M3:Nat→VL
 |0=>fun _ _ _ _=>none
 |n+1=>Wx (M3 n)
def Wp(R3:VL)(p0:AAq)(p1:AAy):Option GR:=
 if 0+p1.2.2.1.length≤DA then(
 R3 0 p0.1 p0.2.1 p1.2.2.1)else none
def MR(p0:AAq)(p1:AAy):Option GR:=Wp (M3 AY) p0 p1
abbrev HO:Type:=ADs×AKX
abbrev K6:Type:=Int→Int→List Int→Int→Int→List Int→Int→Int→Int→Bool→List Int→AAR→List AAM→Int→Int→Bool→List Int→AAR→List AAM→Option HO
abbrev KR:Type:=Int→List Int→Int→Int→List Int→Int→Int→Int→Bool→List Int→AAR→List AAM→Int→Int→Bool→List Int→AAR→List AAM→Option HO
def Mb(R4:K6)(gw:KR)(t6 t7:Int)(AL:AAM)(AE Ab:Int)(BB:AAM)(Ap Im Kw:Int)(Pd:Bool)(b3:AAM)(b4:AAR)(b5:List AAM)(K4 Jw:Int)(K0:Bool)(b7:AAM)(b8:AAR)(b9:List AAM):Option HO:=
 cond (decide (t7<t6))
  ((AJ (BB.length:Int) AL AE Ab).bind fun u4=>
  (GB u4.2.1.1 u4.2.1.2.1 u4.2.1.2.2.1).bind fun u5=>
  (I1 (u5.2.2.1,u5.2.2.2.1,u5.1.1.2.2.1,()) Jw).bind fun u6=>
  (I0 (BB,Ap,()) (K4,Jw,b7,b8,K0,b9,()) u4.1.1 u6.2.1).bind fun u7=>
  cond (u7.1.1.2.1)
   (R4 t6 (AS (t7+1)) u5.2.1.1 u5.2.1.2.1 u5.2.1.2.2.1 BB Ap Im Kw Pd b3 b4 b5 u7.1.1.1.1 u7.1.1.1.2.1 u7.1.1.1.2.2.2.2.1 u7.2.1 u7.2.2.1 u7.2.2.2.1)
  (R4 t6 (AS (t7+1)) u5.2.1.1 u5.2.1.2.1 u5.2.1.2.2.1 BB Ap Im Kw Pd b3 b4 b5 K4 Jw K0 b7 b8 b9))
 ((A9 3 AL AE Ab).bind fun Vq=>
 cond (Vq.1.1)
  (some (((K4,Jw,(),(),K0,(),()),()),((Vq.2.1.1,Vq.2.1.2.1,Vq.2.1.2.2.1,()),b7,b8,b9,())))
 ((MR (BB,Ap,()) (K4,Jw,b7,b8,K0,b9,())).bind fun fB=>
 (It (BB,Ap,()) (K4,Jw,b7,b8,K0,b9,()) fB.2.1).bind fun L9=>
 cond (L9.1.1.2.1)
  (gw 0 Vq.2.1.1 Vq.2.1.2.1 Vq.2.1.2.2.1 BB Ap Im Kw Pd b3 b4 b5 L9.1.1.1.1 L9.1.1.1.2.1 L9.1.1.1.2.2.2.2.1 L9.2.1 L9.2.2.1 L9.2.2.2.1)
 (gw 0 Vq.2.1.1 Vq.2.1.2.1 Vq.2.1.2.2.1 BB Ap Im Kw Pd b3 b4 b5 K4 Jw K0 b7 b8 b9)))
def LO(R4:K6)(gw:KR)(t12:Int)(AL:AAM)(AE Ab:Int)(BB:AAM)(Ap Im Kw:Int)(Pd:Bool)(b3:AAM)(b4:AAR)(b5:List AAM)(K4 Jw:Int)(K0:Bool)(b7:AAM)(b8:AAR)(b9:List AAM):Option HO:=
 (AJ 9 AL AE Ab).bind fun IZ=>
 cond ((decide (t12<IZ.1.1)))
  ((FF (b9.length:Int) 1).bind fun fU=>
  (AJ fU.1.1 IZ.2.1.1 IZ.2.1.2.1 IZ.2.1.2.2.1).bind fun fE=>
  (AJ (BB.length:Int) fE.2.1.1 fE.2.1.2.1 fE.2.1.2.2.1).bind fun Om=>
  (EM (BB,Ap,()) (K4,Jw,b7,b8,K0,b9,()) (AS (1+fE.1.1)) Om.1.1).bind fun YH=>
  cond (YH.1.1.2.1)
   (gw (AS (t12+1)) Om.2.1.1 Om.2.1.2.1 Om.2.1.2.2.1 BB Ap Im Kw Pd b3 b4 b5 YH.1.1.1.1 YH.1.1.1.2.1 YH.1.1.1.2.2.2.2.1 YH.2.1 YH.2.2.1 YH.2.2.2.1)
  (gw (AS (t12+1)) Om.2.1.1 Om.2.1.2.1 Om.2.1.2.2.1 BB Ap Im Kw Pd b3 b4 b5 K4 Jw K0 b7 b8 b9))
 (some (((K4,Jw,(),(),K0,(),()),()),((IZ.2.1.1,IZ.2.1.2.1,IZ.2.1.2.2.1,()),b7,b8,b9,())))
mutual
def Bt:Nat→K6
 |0=>fun _ _ _ _ _ _ _ _ _ _ _ _ _ _ _ _ _ _ _=>none
 |n+1=>Mb (Bt n) (BL n)
def BL:Nat→KR
 |0=>fun _ _ _ _ _ _ _ _ _ _ _ _ _ _ _ _ _ _=>none
 |n+1=>LO (Bt n) (BL n)
end
def MX(R4:K6)(gw:KR)(p1:AAq)(AL:AAM)(AE Ab:Int):Option HO:=
 (AJ 2 AL AE Ab).bind fun u1=>
 (Mf (AS (1+u1.1.1)) 4).bind fun u2=>
 (AJ 5 u1.2.1.1 u1.2.1.2.1 u1.2.1.2.2.1).bind fun u3=>
 R4 u3.1.1 0 u3.2.1.1 u3.2.1.2.1 u3.2.1.2.2.1 p1.1 p1.2.1 0 0 false [] [] [] u2.1.1.1 u2.1.1.2.1 u2.1.1.2.2.2.2.1 u2.2.1 u2.2.2.1 u2.2.2.2.1
def Lh(p1:AAq)(AL:AAM)(AE Ab:Int):Option HO:=MX (Bt AY) (BL AY) p1 AL AE Ab
abbrev ZQ:Type:=ADs×AKX
def Ub(p1:AAq)(AL:AAM)(AE Ab:Int):Option ZQ:=
 (Lh (p1.1,p1.2.1,()) AL AE Ab).bind fun u1=>
 (AJ 25 u1.2.1.1 u1.2.1.2.1 u1.2.1.2.2.1).bind fun u2=>
 cond (u2.1.1==0)
  ((CI [u1.1.1.2.1,30,31] u2.2.1.1 u2.2.1.2.1 u2.2.1.2.2.1).bind fun u3=>
  some (((u3.1.1,u1.1.1.2.1,(),(),u1.1.1.2.2.2.2.1,(),()),()),((u3.2.1.1,u3.2.1.2.1,u3.2.1.2.2.1,()),u1.2.2.1,u1.2.2.2.1,u1.2.2.2.2.1,())))
 (cond (u2.1.1==1)
  (some (((u1.1.1.1,u1.1.1.2.1,(),(),!u1.1.1.2.2.2.2.1,(),()),()),((u2.2.1.1,u2.2.1.2.1,u2.2.1.2.2.1,()),u1.2.2.1,u1.2.2.2.1,u1.2.2.2.2.1,())))
 (cond (u2.1.1==2)
  ((E8 (p1.1,p1.2.1,()) u2.2.1.1 u2.2.1.2.1 u2.2.1.2.2.1).bind fun u4=>
  if u1.2.2.2.2.1.length+1≤DA then(
  some (((u1.1.1.1,u1.1.1.2.1,(),(),u1.1.1.2.2.2.2.1,(),()),()),((u4.2.1.1,u4.2.1.2.1,u4.2.1.2.2.1,()),u1.2.2.1,u1.2.2.2.1,(u1.2.2.2.2.1++[u4.2.2.1]),())))else none)
 (cond (u2.1.1==3)
  ((Qr u2.2.1.1 u2.2.1.2.1 u2.2.1.2.2.1).bind fun u9=>
  if u1.2.2.2.1.length+1≤DA then(
  some (((u1.1.1.1,u1.1.1.2.1,(),(),u1.1.1.2.2.2.2.1,(),()),()),((u9.2.1.1,u9.2.1.2.1,u9.2.1.2.2.1,()),u1.2.2.1,(u1.2.2.2.1++[(u9.1.1.1,u9.1.1.2.1,u9.1.1.2.2.1,u9.1.1.2.2.2.1,())]),u1.2.2.2.2.1,())))else none)
 (cond (u2.1.1==4)
  ((E8 (p1.1,p1.2.1,()) u2.2.1.1 u2.2.1.2.1 u2.2.1.2.2.1).bind fun KP=>
  some (((u1.1.1.1,u1.1.1.2.1,(),(),u1.1.1.2.2.2.2.1,(),()),()),((KP.2.1.1,KP.2.1.2.1,KP.2.1.2.2.1,()),KP.2.2.1,u1.2.2.2.1,u1.2.2.2.2.1,())))
 (some (((u1.1.1.1,u1.1.1.2.1,(),(),u1.1.1.2.2.2.2.1,(),()),()),((u2.2.1.1,u2.2.1.2.1,u2.2.1.2.2.1,()),u1.2.2.1,u1.2.2.2.1,u1.2.2.2.2.1,())))))))
abbrev F7:Type:=ADy×(ACP×ACn×Unit)
abbrev Na:Type:=Int→List Int→Int→Int→Int→Int→ACn→Int→Int→ACn→Option F7
def Py(R3:Na)(t4:Int)(AL:AAM)(AE Ab BB Ap:Int)(b2:ACn)(ga dw:Int)(b4:ACn):Option F7:=
 (AJ 4 AL AE Ab).bind fun u3=>
 cond (decide (t4<u3.1.1))
  ((AJ 5 u3.2.1.1 u3.2.1.2.1 u3.2.1.2.2.1).bind fun u4=>
  (E_ u4.2.1.1 u4.2.1.2.1 u4.2.1.2.2.1).bind fun u5=>
  if b4.length+1≤DA then(
  R3 (AS (t4+1)) u5.2.1.1 u5.2.1.2.1 u5.2.1.2.2.1 BB Ap b2 ga dw (b4++[(AS (1+u4.1.1),u5.1.1,[],())]))else none)
 ((AJ 25 u3.2.1.1 u3.2.1.2.1 u3.2.1.2.2.1).bind fun MK=>
 cond (MK.1.1==0)
  ((CI [0,31,32] MK.2.1.1 MK.2.1.2.1 MK.2.1.2.2.1).bind fun KP=>
  some (((KP.1.1,dw,(),()),()),((KP.2.1.1,KP.2.1.2.1,KP.2.1.2.2.1,()),b4,())))
 (cond (MK.1.1==1)
  ((CI [0,60,61,62] MK.2.1.1 MK.2.1.2.1 MK.2.1.2.2.1).bind fun tY=>
  some (((ga,tY.1.1,(),()),()),((tY.2.1.1,tY.2.1.2.1,tY.2.1.2.2.1,()),b4,())))
 (cond (MK.1.1==2)
  ((AJ 2 MK.2.1.1 MK.2.1.2.1 MK.2.1.2.2.1).bind fun u16=>
  if(0:Int)≤(AS (120+u16.1.1))∧(AS (120+u16.1.1))≤(AS (120+u16.1.1))∧(AS (120+u16.1.1))≤(DA:Int)then(
  some (((ga,dw,(),()),()),((u16.2.1.1,u16.2.1.2.1,u16.2.1.2.2.1,()),(List.replicate ((AS (120+u16.1.1)).toNat) (0,0,[],())),())))else none)
 (some (((ga,dw,(),()),()),((MK.2.1.1,MK.2.1.2.1,MK.2.1.2.2.1,()),b4,()))))))
def G_:Nat→Na
 |0=>fun _ _ _ _ _ _ _ _ _ _=>none
 |n+1=>Py (G_ n)
def Pu(R3:Na)(AL:AAM)(AE Ab:Int):Option F7:=
 (AJ 3 AL AE Ab).bind fun u1=>
 (AJ 5 u1.2.1.1 u1.2.1.2.1 u1.2.1.2.2.1).bind fun u2=>
 R3 0 u2.2.1.1 u2.2.1.2.1 u2.2.1.2.2.1 0 0 [] (AS (1+u1.1.1)) (AS (1+u2.1.1)) []
def JU(AL:AAM)(AE Ab:Int):Option F7:=Pu (G_ AY) AL AE Ab
abbrev e_:Type:=AD0×(ACP×List Int×AAO×List Int×AAN×AAc×AAi×AAn×AAS×Unit)
def H6(p1 AL:AAM)(AE Ab:Int):Option e_:=
 (U4 p1 40 90).bind fun u1=>
 (KH u1.1.1 AL AE Ab).bind fun u2=>
 let x4:AAM:=u2.2.2.2.2.2.2.2.2.2.2.2.1
 let x5:AAO:=u2.2.2.2.2.2.2.2.2.2.2.2.2.1
 let x6:AAM:=u2.2.2.2.2.2.2.2.2.2.2.2.2.2.1
 let x7:AAN:=u2.2.2.2.2.2.2.2.2.2.2.2.2.2.2.1
 let x8:AAc:=u2.2.2.2.2.2.2.2.2.2.2.2.2.2.2.2.1
 let x9:AAi:=u2.2.2.2.2.2.2.2.2.2.2.2.2.2.2.2.2.1
 let Yv:AAn:=u2.2.2.2.2.2.2.2.2.2.2.2.2.2.2.2.2.2.1
 let cL:AAS:=u2.2.2.2.2.2.2.2.2.2.2.2.2.2.2.2.2.2.2.1
 (AJ 40 u2.2.1.1 u2.2.1.2.1 u2.2.1.2.2.1).bind fun Dz=>
 cond (Dz.1.1==0)
  ((E8 (x4,u2.1.1.2.2.1.2.1,()) Dz.2.1.1 Dz.2.1.2.1 Dz.2.1.2.2.1).bind fun MK=>
  some ((((),u2.1.1.2.2.1.2.1,(),(),(),u2.1.1.2.2.1.2.2.2.2.2.1,(),(),(),(),u2.1.1.2.2.1.2.2.2.2.2.2.2.2.2.2.1,()),()),((MK.2.1.1,MK.2.1.2.1,MK.2.1.2.2.1,()),x4,x5,MK.2.2.1,x7,x8,x9,Yv,cL,())))
 (cond (Dz.1.1==1)
  ((US Dz.2.1.1 Dz.2.1.2.1 Dz.2.1.2.2.1).bind fun KP=>
  if(0:Int)≤(0:Int)∧(0:Int)<(x5.length:Int)then(
  some ((((),u2.1.1.2.2.1.2.1,(),(),(),u2.1.1.2.2.1.2.2.2.2.2.1,(),(),(),(),u2.1.1.2.2.1.2.2.2.2.2.2.2.2.2.2.1,()),()),((KP.2.1.1,KP.2.1.2.1,KP.2.1.2.2.1,()),x4,(x5.set 0 (KP.2.2.1,KP.2.2.2.1,KP.1.1.2.2.1,())),x6,x7,x8,x9,Yv,cL,())))else none)
 (cond (Dz.1.1==2)
  ((Us (x4,u2.1.1.2.2.1.2.1,()) Dz.2.1.1 Dz.2.1.2.1 Dz.2.1.2.2.1).bind fun u16=>
  some ((((),u2.1.1.2.2.1.2.1,(),(),(),u16.1.1.2.1,(),(),(),(),u2.1.1.2.2.1.2.2.2.2.2.2.2.2.2.2.1,()),()),((u16.2.1.1,u16.2.1.2.1,u16.2.1.2.2.1,()),x4,x5,x6,u16.2.2.1,x8,x9,Yv,cL,())))
 (cond (Dz.1.1==3)
  ((OA (x4,u2.1.1.2.2.1.2.1,()) Dz.2.1.1 Dz.2.1.2.1 Dz.2.1.2.2.1).bind fun Xv=>
  if x8.length+1≤DA then(
  some ((((),u2.1.1.2.2.1.2.1,(),(),(),u2.1.1.2.2.1.2.2.2.2.2.1,(),(),(),(),u2.1.1.2.2.1.2.2.2.2.2.2.2.2.2.2.1,()),()),((Xv.2.1.1,Xv.2.1.2.1,Xv.2.1.2.2.1,()),x4,x5,x6,x7,(x8++[(Xv.1.1.1,Xv.2.2.1,())]),x9,Yv,cL,())))else none)
 (cond (Dz.1.1==4)
  ((Ub (x4,u2.1.1.2.2.1.2.1,()) Dz.2.1.1 Dz.2.1.2.1 Dz.2.1.2.2.1).bind fun IZ=>
  if x9.length+1≤DA then(
  some ((((),u2.1.1.2.2.1.2.1,(),(),(),u2.1.1.2.2.1.2.2.2.2.2.1,(),(),(),(),u2.1.1.2.2.1.2.2.2.2.2.2.2.2.2.2.1,()),()),((IZ.2.1.1,IZ.2.1.2.1,IZ.2.1.2.2.1,()),x4,x5,x6,x7,x8,(x9++[(IZ.1.1.1,IZ.1.1.2.1,IZ.2.2.1,IZ.2.2.2.1,IZ.1.1.2.2.2.2.1,IZ.2.2.2.2.1,())]),Yv,cL,())))else none)
 (cond (Dz.1.1==5)
  ((JU Dz.2.1.1 Dz.2.1.2.1 Dz.2.1.2.2.1).bind fun cG=>
  if(0:Int)≤(0:Int)∧(0:Int)<(Yv.length:Int)then(
  some ((((),u2.1.1.2.2.1.2.1,(),(),(),u2.1.1.2.2.1.2.2.2.2.2.1,(),(),(),(),u2.1.1.2.2.1.2.2.2.2.2.2.2.2.2.2.1,()),()),((cG.2.1.1,cG.2.1.2.1,cG.2.1.2.2.1,()),x4,x5,x6,x7,x8,x9,(Yv.set 0 (cG.1.1.1,cG.1.1.2.1,cG.2.2.1,())),cL,())))else none)
 (cond (Dz.1.1==6)
  ((E_ Dz.2.1.1 Dz.2.1.2.1 Dz.2.1.2.2.1).bind fun aN=>
  if cL.length+1≤DA then(
  some ((((),u2.1.1.2.2.1.2.1,(),(),(),u2.1.1.2.2.1.2.2.2.2.2.1,(),(),(),(),u2.1.1.2.2.1.2.2.2.2.2.2.2.2.2.2.1,()),()),((aN.2.1.1,aN.2.1.2.1,aN.2.1.2.2.1,()),x4,x5,x6,x7,x8,x9,Yv,(cL++[(aN.1.1,[],false,())]),())))else none)
 (cond (Dz.1.1==7)
  (some ((((),u2.1.1.2.2.1.2.1,(),(),(),u2.1.1.2.2.1.2.2.2.2.2.1,(),(),(),(),!u2.1.1.2.2.1.2.2.2.2.2.2.2.2.2.2.1,()),()),((Dz.2.1.1,Dz.2.1.2.1,Dz.2.1.2.2.1,()),x4,x5,x6,x7,x8,x9,Yv,cL,())))
 (cond (Dz.1.1==8)
  ((RC Dz.2.1.1 Dz.2.1.2.1 Dz.2.1.2.2.1).bind fun lY=>
  some ((((),lY.1.1.2.1,(),(),(),u2.1.1.2.2.1.2.2.2.2.2.1,(),(),(),(),u2.1.1.2.2.1.2.2.2.2.2.2.2.2.2.2.1,()),()),((lY.2.1.1,lY.2.1.2.1,lY.2.1.2.2.1,()),lY.2.2.1,x5,x6,x7,x8,x9,Yv,cL,())))
 (some ((((),u2.1.1.2.2.1.2.1,(),(),(),u2.1.1.2.2.1.2.2.2.2.2.1,(),(),(),(),u2.1.1.2.2.1.2.2.2.2.2.2.2.2.2.2.1,()),()),((Dz.2.1.1,Dz.2.1.2.1,Dz.2.1.2.2.1,()),x4,x5,x6,x7,x8,x9,Yv,cL,())))))))))))
abbrev Oj:Type:=AD0×ACZ
abbrev cC:Type:=ACt×ADV
def ED(p0:AAq)(p1:AA5):Option cC:=
 (Ks (p0.1,p0.2.1,()) (p1.1,p1.2.1,())).bind fun u1=>
 cond (!u1.1.1)
  (some ((((),0,()),()),([],())))
 ((EN (p1.1,p1.2.1,())).bind fun u2=>
 some ((((),u2.1.1.2.1,()),()),(u2.2.1,())))
abbrev ck:Type:=(AJo×Unit)×ADV
def ME(p0:AAq)(p1:AA5)(p2:AAM):Option ck:=
 (Ks (p0.1,p0.2.1,()) (p1.1,p1.2.1,())).bind fun u1=>
 cond (!u1.1.1)
  ((ED (p0.1,p0.2.1,()) (p1.1,p1.2.1,())).bind fun u2=>
  some (((((),u2.1.1.2.1,()),0,false,()),()),(u2.2.1,())))
 ((GW (p0.1,p0.2.1,()) p2).bind fun u3=>
 cond (!u3.1.1)
  ((ED (p0.1,p0.2.1,()) (p1.1,p1.2.1,())).bind fun u4=>
  some (((((),u4.1.1.2.1,()),0,false,()),()),(u4.2.1,())))
 (cond (((p1.1.length:Int)==30))
  ((ED (p0.1,p0.2.1,()) (p1.1,p1.2.1,())).bind fun u6=>
  some (((((),u6.1.1.2.1,()),0,false,()),()),(u6.2.1,())))
 ((EN (p1.1,p1.2.1,())).bind fun u7=>
 (DB p2).bind fun u8=>
 if u7.2.1.length+1≤DA then(
 let x9:AAN:=u7.2.1++[(u8.2.1,false,0,())]
 some (((((),u7.1.1.2.1,()),(x9.length:Int),true,()),()),(x9,())))else none)))
abbrev YA:Type:=AA3×(ADR×List Int×AAO×List Int×Unit×Unit×Unit×AAn×AAS×AAN×AAc×AAi×Unit)
def J2(p1 AE AZ:Int)(AM:Bool)(b1:AAM)(b2:AAO)(b3:AAM)(b4:AAN)(b5:AAc)(b6:AAi)(b7:AAn)(b8:AAS):Option YA:=
 cond (((b5.length:Int)==4))
  (some ((4,()),(((),AE,(),(),(),AZ,(),(),(),(),AM,()),b1,b2,b3,(),(),(),b7,b8,b4,b5,b6,())))
 ((Hl p1).bind fun u2=>
 (ME (b1,AE,()) (b4,AZ,()) u2.2.1).bind fun u3=>
 cond (!u3.1.1.2.2.1)
  (some ((4,()),(((),AE,(),(),(),AZ,(),(),(),(),AM,()),b1,b2,b3,(),(),(),b7,b8,b4,b5,b6,())))
 (if b5.length+1≤DA then(
 some ((0,()),(((),AE,(),(),(),u3.1.1.1.2.1,(),(),(),(),AM,()),b1,b2,b3,(),(),(),b7,b8,u3.2.1,(b5++[(u3.1.1.2.1,[],())]),[],())))else none))
abbrev XC:Type:=ADx×ADr
def EC(p0:AAq)(p1:AA8):Option XC:=
 (GN (p0.1,p0.2.1,()) (p1.1,p1.2.1,())).bind fun u1=>
 cond (!u1.1.1)
  (some (((0,(),()),()),([],())))
 ((Fe (p1.1,p1.2.1,())).bind fun u2=>
 some (((u2.1.1.1,(),()),()),(u2.2.1,())))
abbrev Zs:Type:=(AJ4×Unit)×ADr
def JT(p0:AAq)(p1:AA8)(p2:AA7):Option Zs:=
 (Fe (p1.1,p1.2.1,())).bind fun u1=>
 if u1.2.1.length+1≤DA then(
 let x2:AA4:=u1.2.1++[(p2,[],false,())]
 (GN (p0.1,p0.2.1,()) (p1.1,p1.2.1,())).bind fun u3=>
 cond (!u3.1.1)
  ((EC (p0.1,p0.2.1,()) (p1.1,p1.2.1,())).bind fun u4=>
  some ((((u4.1.1.1,(),()),0,false,()),()),(u4.2.1,())))
 ((GN (p0.1,p0.2.1,()) (u1.1.1.1,x2,())).bind fun u5=>
 cond (!u5.1.1)
  ((EC (p0.1,p0.2.1,()) (p1.1,p1.2.1,())).bind fun u6=>
  some ((((u6.1.1.1,(),()),0,false,()),()),(u6.2.1,())))
 (some ((((u1.1.1.1,(),()),(x2.length:Int),true,()),()),(x2,())))))else none
abbrev cU:Type:=AA3×Unit
def K9(p0:AGW)(p1:Int):Option cU:=
 some ((AS (p0.1-p1),()),())
abbrev BE:Type:=ADv×Unit
abbrev Bh:Type:=AAS→Int→Int→Int→Int→Option BE
def Cc(R3:Bh)(t0:AAS)(t1 t8 t9 t10:Int):Option BE:=
 cond (decide (t9<t10))
  (let x2:Int:=AS ((IntKind.wrap .u64 (AS (t9+t10))).fdiv (2^1))
  if(0:Int)≤x2∧x2<(t0.length:Int)then(
  (K9 ((t0.getD (x2.toNat) (0,[],false,())).1,(t0.getD (x2.toNat) (0,[],false,())).2.1,(t0.getD (x2.toNat) (0,[],false,())).2.2.1,()) t1).bind fun u3=>
  cond (decide (u3.1.1<0))
   (R3 t0 t1 t8 (AS (x2+1)) t10)
  (R3 t0 t1 t8 t9 x2))else none)
 (cond (decide (t9<t8))
  (if(0:Int)≤t9∧t9<(t0.length:Int)then(
  (K9 ((t0.getD (t9.toNat) (0,[],false,())).1,(t0.getD (t9.toNat) (0,[],false,())).2.1,(t0.getD (t9.toNat) (0,[],false,())).2.2.1,()) t1).bind fun u4=>
  some (((t9,u4.1.1==0,()),()),()))else none)
 (some (((t9,false,()),()),())))
def Ao:Nat→Bh
 |0=>fun _ _ _ _ _=>none
 |n+1=>Cc (Ao n)
def Cb(R3:Bh)(p0:AAS)(p1:Int):Option BE:=
 R3 p0 p1 (p0.length:Int) 0 (p0.length:Int)
def BJ(p0:AAS)(p1:Int):Option BE:=Cb (Ao AY) p0 p1
abbrev Vo:Type:=ADv×Unit
def IA(p0:AA2)(p1:Int):Option Vo:=
 (BJ p0.2.2.2.2.2.2.2.2.2.1 p1).bind fun u1=>
 some (((u1.1.1.1,u1.1.1.2.1,()),()),())
abbrev Iu:Type:=AA9×(Unit×AAS×Unit)
def D_(p1:Int)(p2 b0:AAS):Option Iu:=(v7 p1 p2 b0).map fun l=>(((),()),((),l,()))
abbrev Zn:Type:=AA3×(ADR×List Int×AAO×List Int×AAN×AAc×AAi×AAn×Unit×AAS×Unit)
def LU(p1:Int)(p2:AA7)(AE AZ:Int)(AM:Bool)(b1:AAM)(b2:AAO)(b3:AAM)(b4:AAN)(b5:AAc)(b6:AAi)(b7:AAn)(b8:AAS):Option Zn:=
 (Ay p1 0 (AS ((b5.length:Int)-1))).bind fun u2=>
 cond (!u2.1.1)
  (some ((2,()),(((),AE,(),(),(),AZ,(),(),(),(),AM,()),b1,b2,b3,b4,b5,b6,b7,(),b8,())))
 (if(0:Int)≤p1∧p1<(b5.length:Int)then(
 (JT (b1,AE,()) ((b5.getD (p1.toNat) (0,[],())).1,(b5.getD (p1.toNat) (0,[],())).2.1,()) p2).bind fun u3=>
 (Dg u3.1.1.1.1 u3.1.1.2.1).bind fun u4=>
 (IA (b1,AE,b2,b3,b4,AZ,b5,b6,b7,b8,AM,()) u4.1.1.1).bind fun u5=>
 cond (!u3.1.1.2.2.1)
  (some ((4,()),(((),AE,(),(),(),AZ,(),(),(),(),AM,()),b1,b2,b3,b4,b5,b6,b7,(),b8,())))
 (cond (((b8.length:Int)==120))
  (some ((4,()),(((),AE,(),(),(),AZ,(),(),(),(),AM,()),b1,b2,b3,b4,b5,b6,b7,(),b8,())))
 (cond (u5.1.1.2.1)
  (some ((4,()),(((),AE,(),(),(),AZ,(),(),(),(),AM,()),b1,b2,b3,b4,b5,b6,b7,(),b8,())))
 (if(0:Int)≤p1∧p1<(b5.length:Int)then(
 (D_ u5.1.1.1 [(u4.1.1.1,p2,false,())] b8).bind fun u8=>
 some ((0,()),(((),AE,(),(),(),AZ,(),(),(),(),AM,()),b1,b2,b3,b4,(b5.set (p1.toNat) (u3.1.1.1.1,u3.2.1,())),b6,b7,(),u8.2.2.1,())))else none))))else none)
abbrev cV:Type:=AA3×Unit
def EF(p0:AA2)(p1:Int):Option cV:=
 (Ay p1 0 (AS ((p0.2.2.1.length:Int)-1))).bind fun u2=>
 cond (!u2.1.1)
  (some ((2,()),()))
 ((Cz p0 p1).bind fun u3=>
 cond (u3.1.1)
  (some ((3,()),()))
 (some ((0,()),())))
abbrev bq:Type:=AA9×AA_
def Iz(p0:AA5)(p1:Int):Option bq:=
 (Ay p1 1 (p0.1.length:Int)).bind fun u1=>
 cond (!u1.1.1)
  (some (((),()),([],())))
 (if(0:Int)≤AS (p1-1)∧AS (p1-1)<(p0.1.length:Int)then(
 (DB ((p0.1.getD ((AS (p1-1)).toNat) ([],false,0,())).1)).bind fun u2=>
 some (((),()),(u2.2.1,())))else none)
abbrev H3:Type:=AA3×Unit
def DW(p0:AA2)(p1 p2:Int):Option H3:=
 (EF p0 p1).bind fun u1=>
 cond (u1.1.1==0)
  ((Iz (p0.2.2.2.2.1,p0.2.2.2.2.2.1,()) p2).bind fun u2=>
  (Bg u2.2.1 p1).bind fun u3=>
  cond (!u3.1.1)
   (some ((2,()),()))
  (some ((u1.1.1,()),())))
 (some ((u1.1.1,()),()))
abbrev il:Type:=ADu×ACu
def Da(p0:AA6):Option il:=
 (E7 (p0.1,p0.2.1,p0.2.2.1,())).bind fun u1=>
 cond (!u1.1.1)
  (some ((((),(),0,()),()),([],[],())))
 ((C8 (p0.1,p0.2.1,p0.2.2.1,())).bind fun u2=>
 some ((((),(),u2.1.1.2.2.1,()),()),(u2.2.1,u2.2.2.1,())))
abbrev l_:Type:=AC4×ACu
def T9(p0:AA6)(p1:ABk):Option l_:=
 (E7 (p0.1,p0.2.1,p0.2.2.1,())).bind fun u1=>
 cond (!u1.1.1)
  ((Da (p0.1,p0.2.1,p0.2.2.1,())).bind fun u2=>
  some (((((),(),u2.1.1.2.2.1,()),false,()),()),(u2.2.1,u2.2.2.1,())))
 ((Mh (p1.1,p1.2.1,p1.2.2.1,p1.2.2.2.1,())).bind fun u3=>
 cond (!u3.1.1)
  ((Da (p0.1,p0.2.1,p0.2.2.1,())).bind fun u4=>
  some (((((),(),u4.1.1.2.2.1,()),false,()),()),(u4.2.1,u4.2.2.1,())))
 (cond ((p0.2.1.length:Int)==20)
  ((Da (p0.1,p0.2.1,p0.2.2.1,())).bind fun u6=>
  some (((((),(),u6.1.1.2.2.1,()),false,()),()),(u6.2.1,u6.2.2.1,())))
 (cond (p1.2.1==0)
  ((E4 p1.1).bind fun u7=>
  cond ((decide (u7.1.1≤p0.2.2.1)))
   ((C8 (p0.1,p0.2.1,p0.2.2.1,())).bind fun u9=>
   some (((((),(),u9.1.1.2.2.1,()),false,()),()),(u9.2.1,u9.2.2.1,())))
  (cond (decide (p1.2.1>0))
   (cond ((decide (p1.2.1≤p0.2.2.1)))
    ((C8 (p0.1,p0.2.1,p0.2.2.1,())).bind fun MO=>
    some (((((),(),MO.1.1.2.2.1,()),false,()),()),(MO.2.1,MO.2.2.1,())))
   ((C8 (p0.1,p0.2.1,p0.2.2.1,())).bind fun Dz=>
   if Dz.2.2.1.length+1≤DA then(
   some (((((),(),Dz.1.1.2.2.1,()),true,()),()),(Dz.2.1,(Dz.2.2.1++[(p1.1,p1.2.1,p1.2.2.1,p1.2.2.2.1,())]),())))else none))
  ((C8 (p0.1,p0.2.1,p0.2.2.1,())).bind fun KP=>
  if KP.2.2.1.length+1≤DA then(
  some (((((),(),KP.1.1.2.2.1,()),true,()),()),(KP.2.1,(KP.2.2.1++[(p1.1,p1.2.1,p1.2.2.1,p1.2.2.2.1,())]),())))else none)))
 (cond (decide (p1.2.1>0))
  (cond ((decide (p1.2.1≤p0.2.2.1)))
   ((C8 (p0.1,p0.2.1,p0.2.2.1,())).bind fun Xv=>
   some (((((),(),Xv.1.1.2.2.1,()),false,()),()),(Xv.2.1,Xv.2.2.1,())))
  ((C8 (p0.1,p0.2.1,p0.2.2.1,())).bind fun Vq=>
  if Vq.2.2.1.length+1≤DA then(
  some (((((),(),Vq.1.1.2.2.1,()),true,()),()),(Vq.2.1,(Vq.2.2.1++[(p1.1,p1.2.1,p1.2.2.1,p1.2.2.2.1,())]),())))else none))
 ((C8 (p0.1,p0.2.1,p0.2.2.1,())).bind fun L9=>
 if L9.2.2.1.length+1≤DA then(
 some (((((),(),L9.1.1.2.2.1,()),true,()),()),(L9.2.1,(L9.2.2.1++[(p1.1,p1.2.1,p1.2.2.1,p1.2.2.2.1,())]),())))else none)))))
abbrev cr:Type:=AA3×Unit
def KF(p0:Bool):Option cr:=
 cond (p0)
  (some ((0,()),()))
 (some ((4,()),()))
abbrev aM:Type:=AA3×ADU
def LR(p1:Int)(p2:ABk)(AE AZ:Int)(AM:Bool)(b1:AAM)(b2:AAO)(b3:AAM)(b4:AAN)(b5:AAc)(b6:AAi)(b7:AAn)(b8:AAS):Option aM:=
 if(0:Int)≤p1∧p1<(b2.length:Int)then(
 (T9 ((b2.getD (p1.toNat) ([],[],0,())).1,(b2.getD (p1.toNat) ([],[],0,())).2.1,(b2.getD (p1.toNat) ([],[],0,())).2.2.1,()) (p2.1,p2.2.1,p2.2.2.1,p2.2.2.2.1,())).bind fun u1=>
 cond (u1.1.1.2.1)
  (if(0:Int)≤p1∧p1<(b2.length:Int)then(
  (KF u1.1.1.2.1).bind fun u3=>
  some ((u3.1.1,()),(((),AE,(),(),(),AZ,(),(),(),(),AM,()),b1,(b2.set (p1.toNat) (u1.2.1,u1.2.2.1,u1.1.1.1.2.2.1,())),b3,b4,b5,b6,b7,b8,())))else none)
 ((KF u1.1.1.2.1).bind fun u4=>
 some ((u4.1.1,()),(((),AE,(),(),(),AZ,(),(),(),(),AM,()),b1,b2,b3,b4,b5,b6,b7,b8,()))))else none
abbrev gm:Type:=AA3×ADU
def I5(p1:ABA)(AE AZ:Int)(AM:Bool)(b1:AAM)(b2:AAO)(b3:AAM)(b4:AAN)(b5:AAc)(b6:AAi)(b7:AAn)(b8:AAS):Option gm:=
 (Ay p1.2.1 0 (AS ((b5.length:Int)-1))).bind fun u2=>
 cond (!u2.1.1)
  (some ((2,()),(((),AE,(),(),(),AZ,(),(),(),(),AM,()),b1,b2,b3,b4,b5,b6,b7,b8,())))
 (if(0:Int)≤p1.2.1∧p1.2.1<(b5.length:Int)then(
 (Ay p1.2.2.1 1 (((b5.getD (p1.2.1.toNat) (0,[],())).2.1).length:Int)).bind fun u4=>
 cond (!u4.1.1)
  (some ((2,()),(((),AE,(),(),(),AZ,(),(),(),(),AM,()),b1,b2,b3,b4,b5,b6,b7,b8,())))
 ((DW (b1,AE,b2,b3,b4,AZ,b5,b6,b7,b8,AM,()) p1.2.2.2.1 ((b5.getD (p1.2.1.toNat) (0,[],())).1)).bind fun u6=>
 cond (u6.1.1 !=0)
  (some ((u6.1.1,()),(((),AE,(),(),(),AZ,(),(),(),(),AM,()),b1,b2,b3,b4,b5,b6,b7,b8,())))
 ((Dg ((b5.getD (p1.2.1.toNat) (0,[],())).1) p1.2.2.1).bind fun u8=>
 if(0:Int)≤AS (p1.2.2.1-1)∧AS (p1.2.2.1-1)<(((b5.getD (p1.2.1.toNat) (0,[],())).2.1).length:Int)then(
 (LR p1.2.2.2.1 (u8.1.1.1,0,false,((((b5.getD (p1.2.1.toNat) (0,[],())).2.1).getD ((AS (p1.2.2.1-1)).toNat) ([],[],false,())).1),()) AE AZ AM b1 b2 b3 b4 b5 b6 b7 b8).bind fun D1=>
 some ((D1.1.1,()),(((),D1.2.1.2.1,(),(),(),D1.2.1.2.2.2.2.2.1,(),(),(),(),D1.2.1.2.2.2.2.2.2.2.2.2.2.1,()),D1.2.2.1,D1.2.2.2.1,D1.2.2.2.2.1,D1.2.2.2.2.2.1,D1.2.2.2.2.2.2.1,D1.2.2.2.2.2.2.2.1,D1.2.2.2.2.2.2.2.2.1,D1.2.2.2.2.2.2.2.2.2.1,())))else none)))else none)
abbrev Oz:Type:=AA9×AHC
def Dl(p1:Int)(p2 b0:AAR):Option Oz:=(v7 p1 p2 b0).map fun l=>(((),()),((),l,()))
abbrev uQ:Type:=AA9×AHC
def WY(p1:ABk)(b0:AAR):Option uQ:=
 (Rv b0 p1.1).bind fun u1=>
 cond (!u1.1.1.2.1)
  ((Dl u1.1.1.1 [(p1.1,p1.2.1,p1.2.2.1,p1.2.2.2.1,())] b0).bind fun u2=>
  some (((),()),((),u2.2.2.1,())))
 (if(0:Int)≤u1.1.1.1∧u1.1.1.1<(b0.length:Int)then(
 (Q8 ((b0.getD (u1.1.1.1.toNat) (0,0,false,[],())).1,(b0.getD (u1.1.1.1.toNat) (0,0,false,[],())).2.1,(b0.getD (u1.1.1.1.toNat) (0,0,false,[],())).2.2.1,(b0.getD (u1.1.1.1.toNat) (0,0,false,[],())).2.2.2.1,()) (p1.1,p1.2.1,p1.2.2.1,p1.2.2.2.1,())).bind fun u3=>
 if(0:Int)≤u1.1.1.1∧u1.1.1.1<(b0.length:Int)then(
 some (((),()),((),(b0.set (u1.1.1.1.toNat) (u3.1.1.1,u3.1.1.2.1,u3.1.1.2.2.1,u3.1.1.2.2.2.1,())),())))else none)else none)
abbrev Nd:Type:=AC4×ACu
abbrev QX:Type:=Int→AAR→Int→Int→AAR→AAR→Int→Int→AAR→AAR→Int→AAR→AAR→Option Nd
def TT(R6:QX)(t1:Int)(t23:AAR)(t24 t25:Int)(AL AE:AAR)(Ab DE:Int)(b2 b3:AAR)(Mk:Int)(b5 b6:AAR):Option Nd:=
 cond (decide (t25<t24))
  (if(0:Int)≤t25∧t25<(t23.length:Int)then(
  if t25<0 then none else(
  cond (((cQ .i64 (t1.fdiv (2^(min t25.toNat 64))) 1)==1))
   ((WY ((t23.getD (t25.toNat) (0,0,false,[],())).1,(t23.getD (t25.toNat) (0,0,false,[],())).2.1,(t23.getD (t25.toNat) (0,0,false,[],())).2.2.1,(t23.getD (t25.toNat) (0,0,false,[],())).2.2.2.1,()) b5).bind fun u9=>
   R6 t1 t23 t24 (AS (t25+1)) AL AE Ab DE b2 b3 Mk u9.2.2.1 b6)
  (R6 t1 t23 t24 (AS (t25+1)) AL AE Ab DE b2 b3 Mk b5 b6)))else none)
 (cond ((decide ((b5.length:Int)>200)))
  ((C8 (AL,AE,Ab,())).bind fun MO=>
  some (((((),(),MO.1.1.2.2.1,()),false,()),()),(MO.2.1,MO.2.2.1,())))
 (some (((((),(),Mk,()),true,()),()),(b5,b6,()))))
def Jb:Nat→QX
 |0=>fun _ _ _ _ _ _ _ _ _ _ _ _ _=>none
 |n+1=>TT (Jb n)
def TK(R6:QX)(p0:AA6)(p1:Int):Option Nd:=
 (E7 (p0.1,p0.2.1,p0.2.2.1,())).bind fun u1=>
 cond (!u1.1.1)
  ((Da (p0.1,p0.2.1,p0.2.2.1,())).bind fun u2=>
  some (((((),(),u2.1.1.2.2.1,()),false,()),()),(u2.2.1,u2.2.2.1,())))
 ((Ay p1 0 1048575).bind fun u3=>
 cond (!u3.1.1)
  ((Da (p0.1,p0.2.1,p0.2.2.1,())).bind fun u4=>
  some (((((),(),u4.1.1.2.2.1,()),false,()),()),(u4.2.1,u4.2.2.1,())))
 ((C8 (p0.1,p0.2.1,p0.2.2.1,())).bind fun u5=>
 R6 p1 p0.2.1 (p0.2.1.length:Int) 0 p0.1 p0.2.1 p0.2.2.1 0 [] [] u5.1.1.2.2.1 u5.2.1 []))
def Mz(p0:AA6)(p1:Int):Option Nd:=TK (Jb AY) p0 p1
abbrev jv:Type:=AC4×ACu
def ON(p0:AA6):Option jv:=
 (Mz (p0.1,p0.2.1,p0.2.2.1,()) 1048575).bind fun u1=>
 some (((((),(),u1.1.1.1.2.2.1,()),u1.1.1.2.1,()),()),(u1.2.1,u1.2.2.1,()))
abbrev mP:Type:=AA1×Unit
def cmp_isNaN_int(p0:Int):Option mP:=
 some ((p0 !=p0,()),())
abbrev ou:Type:=AA1×Unit
def cmp_Less_int(p0 p1:Int):Option ou:=
 (cmp_isNaN_int p0).bind fun u1=>
 cond (u1.1.1)
  ((cmp_isNaN_int p1).bind fun u2=>
  cond (!u2.1.1)
   (some ((true,()),()))
  (some ((decide (p0<p1),()),())))
 (some ((decide (p0<p1),()),()))
abbrev ft:Type:=AA1×Unit
def O5(p0:Int):Option ft:=
 some ((p0 !=p0,()),())
abbrev FL:Type:=ADv×Unit
abbrev HK:Type:=List Int→Int→Int→Int→Int→Option FL
def Jv(R3:HK)(t0:AAM)(t1 t6 t7 t8:Int):Option FL:=
 cond (decide (t7<t8))
  (let x2:Int:=AS ((IntKind.wrap .u64 (AS (t7+t8))).fdiv (2^1))
  if(0:Int)≤x2∧x2<(t0.length:Int)then(
  (cmp_Less_int (t0.getD (x2.toNat) 0) t1).bind fun u4=>
  cond (u4.1.1)
   (R3 t0 t1 t6 (AS (x2+1)) t8)
  (R3 t0 t1 t6 t7 x2))else none)
 (cond (decide (t7<t6))
  (if(0:Int)≤t7∧t7<(t0.length:Int)then(
  cond ((t0.getD (t7.toNat) 0)==t1)
   (some (((t7,true,()),()),()))
  (if(0:Int)≤t7∧t7<(t0.length:Int)then(
  (O5 (t0.getD (t7.toNat) 0)).bind fun u7=>
  cond (u7.1.1)
   ((O5 t1).bind fun u8=>
   some (((t7,u8.1.1,()),()),()))
  (some (((t7,false,()),()),())))else none))else none)
 (some (((t7,false,()),()),())))
def Dc:Nat→HK
 |0=>fun _ _ _ _ _=>none
 |n+1=>Jv (Dc n)
def Ju(R3:HK)(p0:AAM)(p1:Int):Option FL:=
 R3 p0 p1 (p0.length:Int) 0 (p0.length:Int)
def GC(p0:AAM)(p1:Int):Option FL:=Ju (Dc AY) p0 p1
abbrev aH:Type:=AA9×AF_
def Jp(p1:Int)(p2 b0:AAM):Option aH:=(v7 p1 p2 b0).map fun l=>(((),()),((),l,()))
abbrev mB:Type:=AA9×AA_
def Kv(p0:AAM)(p1:Int):Option mB:=
 (DB p0).bind fun u1=>
 (GC u1.2.1 p1).bind fun u2=>
 cond (!u2.1.1.2.1)
  ((Jp u2.1.1.1 [p1] u1.2.1).bind fun u3=>
  some (((),()),(u3.2.2.1,())))
 (some (((),()),(u1.2.1,())))
abbrev jw:Type:=AEC×ADr
def Sg(p0:AAq)(p1:AA8)(p2 p3:Int):Option jw:=
 (GN (p0.1,p0.2.1,()) (p1.1,p1.2.1,())).bind fun u1=>
 cond (!u1.1.1)
  ((EC (p0.1,p0.2.1,()) (p1.1,p1.2.1,())).bind fun u2=>
  some ((((u2.1.1.1,(),()),false,()),()),(u2.2.1,())))
 ((Ay p2 1 (p1.2.1.length:Int)).bind fun u4=>
 cond (!u4.1.1)
  ((EC (p0.1,p0.2.1,()) (p1.1,p1.2.1,())).bind fun u5=>
  some ((((u5.1.1.1,(),()),false,()),()),(u5.2.1,())))
 (if(0:Int)≤AS (p2-1)∧AS (p2-1)<(p1.2.1.length:Int)then(
 cond (((p1.2.1.getD ((AS (p2-1)).toNat) ([],[],false,())).2.2.1))
  ((EC (p0.1,p0.2.1,()) (p1.1,p1.2.1,())).bind fun u7=>
  some ((((u7.1.1.1,(),()),false,()),()),(u7.2.1,())))
 ((Ay p3 0 (AS ((p0.1.length:Int)-1))).bind fun u9=>
 cond (!u9.1.1)
  ((EC (p0.1,p0.2.1,()) (p1.1,p1.2.1,())).bind fun D1=>
  some ((((D1.1.1.1,(),()),false,()),()),(D1.2.1,())))
 ((Fe (p1.1,p1.2.1,())).bind fun MO=>
 if(0:Int)≤AS (p2-1)∧AS (p2-1)<(MO.2.1.length:Int)then(
 (Kv ((MO.2.1.getD ((AS (p2-1)).toNat) ([],[],false,())).2.1) p3).bind fun Dz=>
 let x13:AA4:=(MO.2.1.set ((AS (p2-1)).toNat) ((MO.2.1.getD ((AS (p2-1)).toNat) ([],[],false,())).1,Dz.2.1,(MO.2.1.getD ((AS (p2-1)).toNat) ([],[],false,())).2.2.1,()))
 (GW (p0.1,p0.2.1,()) ((x13.getD ((AS (p2-1)).toNat) ([],[],false,())).2.1)).bind fun KP=>
 some ((((MO.1.1.1,(),()),true,()),()),((x13.set ((AS (p2-1)).toNat) ((x13.getD ((AS (p2-1)).toNat) ([],[],false,())).1,(x13.getD ((AS (p2-1)).toNat) ([],[],false,())).2.1,KP.1.1,())),())))else none)))else none))
abbrev Fz:Type:=AA9×ADU
abbrev Kx:Type:=Int→Int→Int→Int→Int→Bool→List Int→AAO→List Int→AAN→AAc→AAi→AAn→AAS→Option Fz
def Ii(R1:Kx)(t1 t2 t6 AE AZ:Int)(AM:Bool)(b1:AAM)(b2:AAO)(b3:AAM)(b4:AAN)(b5:AAc)(b6:AAi)(b7:AAn)(b8:AAS):Option Fz:=
 if(0:Int)≤t1∧t1<(b5.length:Int)then(
 cond (decide (t6≤(((b5.getD (t1.toNat) (0,[],())).2.1).length:Int)))
  (if(0:Int)≤t1∧t1<(b5.length:Int)then(
  (Dg ((b5.getD (t1.toNat) (0,[],())).1) t6).bind fun u3=>
  if(0:Int)≤t2∧t2<(b2.length:Int)then(
  (GL ((b2.getD (t2.toNat) ([],[],0,())).1,(b2.getD (t2.toNat) ([],[],0,())).2.1,(b2.getD (t2.toNat) ([],[],0,())).2.2.1,()) u3.1.1.1).bind fun u4=>
  if(0:Int)≤t1∧t1<(b5.length:Int)then(
  if(0:Int)≤AS (t6-1)∧AS (t6-1)<(((b5.getD (t1.toNat) (0,[],())).2.1).length:Int)then(
  cond (((((b5.getD (t1.toNat) (0,[],())).2.1).getD ((AS (t6-1)).toNat) ([],[],false,())).2.2.1))
   (R1 t1 t2 (AS (t6+1)) AE AZ AM b1 b2 b3 b4 b5 b6 b7 b8)
  (cond (!u4.1.1.2.1)
   (R1 t1 t2 (AS (t6+1)) AE AZ AM b1 b2 b3 b4 b5 b6 b7 b8)
  (cond (u4.1.1.1.2.1 !=0)
   (R1 t1 t2 (AS (t6+1)) AE AZ AM b1 b2 b3 b4 b5 b6 b7 b8)
  (if(0:Int)≤t1∧t1<(b5.length:Int)then(
  (Sg (b1,AE,()) ((b5.getD (t1.toNat) (0,[],())).1,(b5.getD (t1.toNat) (0,[],())).2.1,()) t6 t2).bind fun u6=>
  if(0:Int)≤t1∧t1<(b5.length:Int)then(
  let x7:AAc:=(b5.set (t1.toNat) (u6.1.1.1.1,u6.2.1,()))
  (IA (b1,AE,b2,b3,b4,AZ,x7,b6,b7,b8,AM,()) u3.1.1.1).bind fun u8=>
  cond (u8.1.1.2.1)
   (if(0:Int)≤t1∧t1<(x7.length:Int)then(
   if(0:Int)≤AS (t6-1)∧AS (t6-1)<(((x7.getD (t1.toNat) (0,[],())).2.1).length:Int)then(
   cond (((((x7.getD (t1.toNat) (0,[],())).2.1).getD ((AS (t6-1)).toNat) ([],[],false,())).2.2.1))
    (if(0:Int)≤u8.1.1.1∧u8.1.1.1<(b8.length:Int)then(
    R1 t1 t2 (AS (t6+1)) AE AZ AM b1 b2 b3 b4 x7 b6 b7 (b8.set (u8.1.1.1.toNat) ((b8.getD (u8.1.1.1.toNat) (0,[],false,())).1,(b8.getD (u8.1.1.1.toNat) (0,[],false,())).2.1,true,())))else none)
   (R1 t1 t2 (AS (t6+1)) AE AZ AM b1 b2 b3 b4 x7 b6 b7 b8))else none)else none)
  (R1 t1 t2 (AS (t6+1)) AE AZ AM b1 b2 b3 b4 x7 b6 b7 b8))else none)else none))))else none)else none)else none)else none)
 (some (((()),()),(((),AE,(),(),(),AZ,(),(),(),(),AM,()),b1,b2,b3,b4,b5,b6,b7,b8,()))))else none
def Cw:Nat→Kx
 |0=>fun _ _ _ _ _ _ _ _ _ _ _ _ _ _=>none
 |n+1=>Ii (Cw n)
def Nt(R1:Kx)(p1 p2 AE AZ:Int)(AM:Bool)(b1:AAM)(b2:AAO)(b3:AAM)(b4:AAN)(b5:AAc)(b6:AAi)(b7:AAn)(b8:AAS):Option Fz:=
 R1 p1 p2 1 AE AZ AM b1 b2 b3 b4 b5 b6 b7 b8
def NO(p1 p2 AE AZ:Int)(AM:Bool)(b1:AAM)(b2:AAO)(b3:AAM)(b4:AAN)(b5:AAc)(b6:AAi)(b7:AAn)(b8:AAS):Option Fz:=Nt (Cw AY) p1 p2 AE AZ AM b1 b2 b3 b4 b5 b6 b7 b8
abbrev I9:Type:=AD1×Unit
abbrev Rq:Type:=Int→AAR→Int→Int→Int→Int→List Int→AAR→Bool→List AAM→Int→Int→Bool→List UInt8→Option I9
def Ux(R5:Rq)(t6:Int)(t33:AAR)(t34 t35 AL AE:Int)(Ab:AAM)(DI:AAR)(EJ:Bool)(AZ:List AAM)(BB Ap:Int)(DE:Bool)(Gq:AA7):Option I9:=
 cond (decide (t35<t34))
  (if(0:Int)≤t35∧t35<(t33.length:Int)then(
  cond (((t33.getD (t35.toNat) (0,0,false,[],())).1)==t6)
   (some ((((t6,AL,((t33.getD (t35.toNat) (0,0,false,[],())).2.2.1),((t33.getD (t35.toNat) (0,0,false,[],())).2.2.2.1),()),true,()),()),()))
  (R5 t6 t33 t34 (AS (t35+1)) AL AE Ab DI EJ AZ BB Ap DE Gq))else none)
 (some ((((t6,AL,true,[],()),true,()),()),()))
def KL:Nat→Rq
 |0=>fun _ _ _ _ _ _ _ _ _ _ _ _ _ _=>none
 |n+1=>Ux (KL n)
def UU(R5:Rq)(p0:AAy)(p1:Int):Option I9:=
 (Dg p0.2.1 p1).bind fun u1=>
 cond (!u1.1.1.2.1)
  (some ((((0,0,false,[],()),false,()),()),()))
 (cond (!p0.2.2.2.2.1)
  (some ((((0,0,false,[],()),false,()),()),()))
 (cond (decide (p1>(p0.2.2.2.2.2.1.length:Int)))
  (some ((((0,0,false,[],()),false,()),()),()))
 (R5 u1.1.1.1 p0.2.2.2.1 (p0.2.2.2.1.length:Int) 0 p0.1 p0.2.1 p0.2.2.1 p0.2.2.2.1 p0.2.2.2.2.1 p0.2.2.2.2.2.1 0 0 false [])))
def Jj(p0:AAy)(p1:Int):Option I9:=UU (KL AY) p0 p1
abbrev kC:Type:=ADs×ACw
def Ef(p0:AAq)(p1:AAy):Option kC:=
 (Hu (p0.1,p0.2.1,()) (p1.1,p1.2.1,p1.2.2.1,p1.2.2.2.1,p1.2.2.2.2.1,p1.2.2.2.2.2.1,())).bind fun u1=>
 cond (!u1.1.1)
  (some (((0,0,(),(),false,(),()),()),([],[],[],())))
 ((GM (p1.1,p1.2.1,p1.2.2.1,p1.2.2.2.1,p1.2.2.2.2.1,p1.2.2.2.2.2.1,())).bind fun u2=>
 some (((u2.1.1.1,u2.1.1.2.1,(),(),u2.1.1.2.2.2.2.1,(),()),()),(u2.2.1,u2.2.2.1,u2.2.2.2.1,())))
abbrev W8:Type:=ADt×ACw
def O1(p0:AAq)(p1:AAy)(p2 p3:Int):Option W8:=
 (Hu (p0.1,p0.2.1,()) (p1.1,p1.2.1,p1.2.2.1,p1.2.2.2.1,p1.2.2.2.2.1,p1.2.2.2.2.2.1,())).bind fun u1=>
 cond (!u1.1.1)
  ((Ef (p0.1,p0.2.1,()) (p1.1,p1.2.1,p1.2.2.1,p1.2.2.2.1,p1.2.2.2.2.1,p1.2.2.2.2.2.1,())).bind fun u2=>
  some ((((u2.1.1.1,u2.1.1.2.1,(),(),u2.1.1.2.2.2.2.1,(),()),false,()),()),(u2.2.1,u2.2.2.1,u2.2.2.2.1,())))
 ((Ay p2 1 (p1.2.2.2.2.2.1.length:Int)).bind fun u4=>
 cond (!u4.1.1)
  ((Ef (p0.1,p0.2.1,()) (p1.1,p1.2.1,p1.2.2.1,p1.2.2.2.1,p1.2.2.2.2.1,p1.2.2.2.2.2.1,())).bind fun u5=>
  some ((((u5.1.1.1,u5.1.1.2.1,(),(),u5.1.1.2.2.2.2.1,(),()),false,()),()),(u5.2.1,u5.2.2.1,u5.2.2.2.1,())))
 ((Ay p3 0 (AS ((p0.1.length:Int)-1))).bind fun u7=>
 cond (!u7.1.1)
  ((Ef (p0.1,p0.2.1,()) (p1.1,p1.2.1,p1.2.2.1,p1.2.2.2.1,p1.2.2.2.2.1,p1.2.2.2.2.2.1,())).bind fun u8=>
  some ((((u8.1.1.1,u8.1.1.2.1,(),(),u8.1.1.2.2.2.2.1,(),()),false,()),()),(u8.2.1,u8.2.2.1,u8.2.2.2.1,())))
 ((GM (p1.1,p1.2.1,p1.2.2.1,p1.2.2.2.1,p1.2.2.2.2.1,p1.2.2.2.2.2.1,())).bind fun u9=>
 if(0:Int)≤AS (p2-1)∧AS (p2-1)<(u9.2.2.2.1.length:Int)then(
 (Kv (u9.2.2.2.1.getD ((AS (p2-1)).toNat) []) p3).bind fun D1=>
 if(0:Int)≤AS (p2-1)∧AS (p2-1)<(u9.2.2.2.1.length:Int)then(
 some ((((u9.1.1.1,u9.1.1.2.1,(),(),u9.1.1.2.2.2.2.1,(),()),true,()),()),(u9.2.1,u9.2.2.1,(u9.2.2.2.1.set ((AS (p2-1)).toNat) D1.2.1),())))else none)else none)))
abbrev Jl:Type:=AA9×ADU
abbrev MZ:Type:=Int→Int→Int→Int→Int→Bool→List Int→AAO→List Int→AAN→AAc→AAi→AAn→AAS→Option Jl
def G4(R1:MZ)(t1 t2 t6 AE AZ:Int)(AM:Bool)(b1:AAM)(b2:AAO)(b3:AAM)(b4:AAN)(b5:AAc)(b6:AAi)(b7:AAn)(b8:AAS):Option Jl:=
 if(0:Int)≤t1∧t1<(b6.length:Int)then(
 cond (decide (t6≤(((b6.getD (t1.toNat) (0,0,[],[],false,[],())).2.2.2.2.2.1).length:Int)))
  (if(0:Int)≤t1∧t1<(b6.length:Int)then(
  (Jj ((b6.getD (t1.toNat) (0,0,[],[],false,[],())).1,(b6.getD (t1.toNat) (0,0,[],[],false,[],())).2.1,(b6.getD (t1.toNat) (0,0,[],[],false,[],())).2.2.1,(b6.getD (t1.toNat) (0,0,[],[],false,[],())).2.2.2.1,(b6.getD (t1.toNat) (0,0,[],[],false,[],())).2.2.2.2.1,(b6.getD (t1.toNat) (0,0,[],[],false,[],())).2.2.2.2.2.1,()) t6).bind fun u2=>
  if(0:Int)≤t2∧t2<(b2.length:Int)then(
  (GL ((b2.getD (t2.toNat) ([],[],0,())).1,(b2.getD (t2.toNat) ([],[],0,())).2.1,(b2.getD (t2.toNat) ([],[],0,())).2.2.1,()) u2.1.1.1.1).bind fun u3=>
  cond (u2.1.1.2.1)
   (cond (u3.1.1.2.1)
    (cond (((u3.1.1.1.1==u2.1.1.1.1)&&((u3.1.1.1.2.1==u2.1.1.1.2.1)&&((u3.1.1.1.2.2.1==u2.1.1.1.2.2.1)&&((u3.1.1.1.2.2.2.1==u2.1.1.1.2.2.2.1)&&true)))))
     (if(0:Int)≤t1∧t1<(b6.length:Int)then(
     (O1 (b1,AE,()) ((b6.getD (t1.toNat) (0,0,[],[],false,[],())).1,(b6.getD (t1.toNat) (0,0,[],[],false,[],())).2.1,(b6.getD (t1.toNat) (0,0,[],[],false,[],())).2.2.1,(b6.getD (t1.toNat) (0,0,[],[],false,[],())).2.2.2.1,(b6.getD (t1.toNat) (0,0,[],[],false,[],())).2.2.2.2.1,(b6.getD (t1.toNat) (0,0,[],[],false,[],())).2.2.2.2.2.1,()) t6 t2).bind fun u5=>
     if(0:Int)≤t1∧t1<(b6.length:Int)then(
     R1 t1 t2 (AS (t6+1)) AE AZ AM b1 b2 b3 b4 b5 (b6.set (t1.toNat) (u5.1.1.1.1,u5.1.1.1.2.1,u5.2.1,u5.2.2.1,u5.1.1.1.2.2.2.2.1,u5.2.2.2.1,())) b7 b8)else none)else none)
    (R1 t1 t2 (AS (t6+1)) AE AZ AM b1 b2 b3 b4 b5 b6 b7 b8))
   (R1 t1 t2 (AS (t6+1)) AE AZ AM b1 b2 b3 b4 b5 b6 b7 b8))
  (R1 t1 t2 (AS (t6+1)) AE AZ AM b1 b2 b3 b4 b5 b6 b7 b8))else none)else none)
 (some (((()),()),(((),AE,(),(),(),AZ,(),(),(),(),AM,()),b1,b2,b3,b4,b5,b6,b7,b8,()))))else none
def BO:Nat→MZ
 |0=>fun _ _ _ _ _ _ _ _ _ _ _ _ _ _=>none
 |n+1=>G4 (BO n)
def Jy(R1:MZ)(p1 p2 AE AZ:Int)(AM:Bool)(b1:AAM)(b2:AAO)(b3:AAM)(b4:AAN)(b5:AAc)(b6:AAi)(b7:AAn)(b8:AAS):Option Jl:=
 R1 p1 p2 1 AE AZ AM b1 b2 b3 b4 b5 b6 b7 b8
def LG(p1 p2 AE AZ:Int)(AM:Bool)(b1:AAM)(b2:AAO)(b3:AAM)(b4:AAN)(b5:AAc)(b6:AAi)(b7:AAn)(b8:AAS):Option Jl:=Jy (BO AY) p1 p2 AE AZ AM b1 b2 b3 b4 b5 b6 b7 b8
abbrev H_:Type:=AA3×ADU
abbrev MU:Type:=Int→Int→Int→Int→Int→Bool→List Int→AAO→List Int→AAN→AAc→AAi→AAn→AAS→Int→Option H_
abbrev LD:Type:=Int→Int→Int→Int→Int→Bool→List Int→AAO→List Int→AAN→AAc→AAi→AAn→AAS→Option H_
def NS(R9:MU)(gw:LD)(t1 t42 t43 AE AZ:Int)(AM:Bool)(b1:AAM)(b2:AAO)(b3:AAM)(b4:AAN)(b5:AAc)(b6:AAi)(b7:AAn)(b8:AAS)(dr:Int):Option H_:=
 cond (decide (t43<t42))
  (if(0:Int)≤t43∧t43<(b5.length:Int)then(
  cond (decide (((b5.getD (t43.toNat) (0,[],())).1)>dr))
   ((Iz (b4,AZ,()) ((b5.getD (t43.toNat) (0,[],())).1)).bind fun u6=>
   (Bg u6.2.1 t1).bind fun u7=>
   cond (u7.1.1)
    ((NO t43 t1 AE AZ AM b1 b2 b3 b4 b5 b6 b7 b8).bind fun u8=>
    R9 t1 t42 (AS (t43+1)) u8.2.1.2.1 u8.2.1.2.2.2.2.2.1 u8.2.1.2.2.2.2.2.2.2.2.2.2.1 u8.2.2.1 u8.2.2.2.1 u8.2.2.2.2.1 u8.2.2.2.2.2.1 u8.2.2.2.2.2.2.1 u8.2.2.2.2.2.2.2.1 u8.2.2.2.2.2.2.2.2.1 u8.2.2.2.2.2.2.2.2.2.1 dr)
   (R9 t1 t42 (AS (t43+1)) AE AZ AM b1 b2 b3 b4 b5 b6 b7 b8 dr))
  (R9 t1 t42 (AS (t43+1)) AE AZ AM b1 b2 b3 b4 b5 b6 b7 b8 dr))else none)
 (gw t1 (b6.length:Int) 0 AE AZ AM b1 b2 b3 b4 b5 b6 b7 b8)
def MQ(R9:MU)(gw:LD)(t1 t73 t74 AE AZ:Int)(AM:Bool)(b1:AAM)(b2:AAO)(b3:AAM)(b4:AAN)(b5:AAc)(b6:AAi)(b7:AAn)(b8:AAS):Option H_:=
 cond (decide (t74<t73))
  (if(0:Int)≤t74∧t74<(b6.length:Int)then(
  (Iz (b4,AZ,()) ((b6.getD (t74.toNat) (0,0,[],[],false,[],())).2.1)).bind fun MO=>
  (Bg MO.2.1 t1).bind fun Dz=>
  cond (Dz.1.1)
   ((LG t74 t1 AE AZ AM b1 b2 b3 b4 b5 b6 b7 b8).bind fun MK=>
   gw t1 t73 (AS (t74+1)) MK.2.1.2.1 MK.2.1.2.2.2.2.2.1 MK.2.1.2.2.2.2.2.2.2.2.2.2.1 MK.2.2.1 MK.2.2.2.1 MK.2.2.2.2.1 MK.2.2.2.2.2.1 MK.2.2.2.2.2.2.1 MK.2.2.2.2.2.2.2.1 MK.2.2.2.2.2.2.2.2.1 MK.2.2.2.2.2.2.2.2.2.1)
  (gw t1 t73 (AS (t74+1)) AE AZ AM b1 b2 b3 b4 b5 b6 b7 b8))else none)
 (some ((0,()),(((),AE,(),(),(),AZ,(),(),(),(),AM,()),b1,b2,b3,b4,b5,b6,b7,b8,())))
mutual
def Eb:Nat→MU
 |0=>fun _ _ _ _ _ _ _ _ _ _ _ _ _ _ _=>none
 |n+1=>NS (Eb n) (FH n)
def FH:Nat→LD
 |0=>fun _ _ _ _ _ _ _ _ _ _ _ _ _ _=>none
 |n+1=>MQ (Eb n) (FH n)
end
def TJ(R9:MU)(gw:LD)(p1 AE AZ:Int)(AM:Bool)(b1:AAM)(b2:AAO)(b3:AAM)(b4:AAN)(b5:AAc)(b6:AAi)(b7:AAn)(b8:AAS):Option H_:=
 (EF (b1,AE,b2,b3,b4,AZ,b5,b6,b7,b8,AM,()) p1).bind fun u1=>
 cond (u1.1.1 !=0)
  (some ((u1.1.1,()),(((),AE,(),(),(),AZ,(),(),(),(),AM,()),b1,b2,b3,b4,b5,b6,b7,b8,())))
 (if(0:Int)≤p1∧p1<(b2.length:Int)then(
 (ON ((b2.getD (p1.toNat) ([],[],0,())).1,(b2.getD (p1.toNat) ([],[],0,())).2.1,(b2.getD (p1.toNat) ([],[],0,())).2.2.1,())).bind fun u2=>
 cond (!u2.1.1.2.1)
  (some ((4,()),(((),AE,(),(),(),AZ,(),(),(),(),AM,()),b1,b2,b3,b4,b5,b6,b7,b8,())))
 (if(0:Int)≤p1∧p1<(b2.length:Int)then(
 R9 p1 (b5.length:Int) 0 AE AZ AM b1 (b2.set (p1.toNat) (u2.2.1,u2.2.2.1,u2.1.1.1.2.2.1,())) b3 b4 b5 b6 b7 b8 u2.1.1.1.2.2.1)else none))else none)
def P1(p1 AE AZ:Int)(AM:Bool)(b1:AAM)(b2:AAO)(b3:AAM)(b4:AAN)(b5:AAc)(b6:AAi)(b7:AAn)(b8:AAS):Option H_:=TJ (Eb AY) (FH AY) p1 AE AZ AM b1 b2 b3 b4 b5 b6 b7 b8
abbrev fa:Type:=AA3×ADU
def Ox(p1 p2 AE AZ:Int)(AM:Bool)(b1:AAM)(b2:AAO)(b3:AAM)(b4:AAN)(b5:AAc)(b6:AAi)(b7:AAn)(b8:AAS):Option fa:=
 (EF (b1,AE,b2,b3,b4,AZ,b5,b6,b7,b8,AM,()) p1).bind fun u1=>
 cond (u1.1.1 !=0)
  (some ((u1.1.1,()),(((),AE,(),(),(),AZ,(),(),(),(),AM,()),b1,b2,b3,b4,b5,b6,b7,b8,())))
 (if(0:Int)≤p1∧p1<(b2.length:Int)then(
 (Mz ((b2.getD (p1.toNat) ([],[],0,())).1,(b2.getD (p1.toNat) ([],[],0,())).2.1,(b2.getD (p1.toNat) ([],[],0,())).2.2.1,()) p2).bind fun u2=>
 if(0:Int)≤p1∧p1<(b2.length:Int)then(
 (KF u2.1.1.2.1).bind fun u4=>
 some ((u4.1.1,()),(((),AE,(),(),(),AZ,(),(),(),(),AM,()),b1,(b2.set (p1.toNat) (u2.2.1,u2.2.2.1,u2.1.1.1.2.2.1,())),b3,b4,b5,b6,b7,b8,())))else none)else none)
abbrev dC:Type:=AA1×Unit
def Mc(p0:Int)(p1:AA3):Option dC:=
 some ((p0==p1.1,()),())
abbrev CZ:Type:=AA3×Unit
abbrev DQ:Type:=List Int→ACY→Int→Int→Option CZ
def Ex(R2:DQ)(t0:AAM)(t1:ACY)(t7 t8:Int):Option CZ:=
 cond (decide (t8<t7))
  (if(0:Int)≤t8∧t8<(t0.length:Int)then(
  (Mc (t0.getD (t8.toNat) 0) t1.1).bind fun u2=>
  cond (u2.1.1)
   (some ((t8,()),()))
  (R2 t0 (t1.1,()) t7 (AS (t8+1))))else none)
 (some (((-1),()),()))
def Bm:Nat→DQ
 |0=>fun _ _ _ _=>none
 |n+1=>Ex (Bm n)
def Ey(R2:DQ)(p0:AAM)(p1:ACY):Option CZ:=
 R2 p0 (p1.1,()) (p0.length:Int) 0
def Dn(p0:AAM)(p1:ACY):Option CZ:=Ey (Bm AY) p0 p1
abbrev CV:Type:=AA9×AF_
abbrev DK:Type:=ACY→Int→Int→List Int→Option CV
def Ea(R5:DK)(t1:ACY)(t5 t6:Int)(b0:AAM):Option CV:=
 cond ((decide (t6<(b0.length:Int))))
  (if(0:Int)≤t6∧t6<(b0.length:Int)then(
  let x3:Int:=(b0.getD (t6.toNat) 0)
  (Mc x3 t1.1).bind fun u4=>
  cond (!u4.1.1)
   (if(0:Int)≤t5∧t5<(b0.length:Int)then(
   R5 (t1.1,()) (AS (t5+1)) (AS (t6+1)) (b0.set (t5.toNat) x3))else none)
  (R5 (t1.1,()) t5 (AS (t6+1)) b0))else none)
 (if(0:Int)≤t5∧t5≤(b0.length:Int)∧(b0.length:Int)≤(b0.length:Int)then(
 let x6:AAM:=(b0.take (t5.toNat)++List.replicate (((b0.length:Int).toNat)-(t5.toNat)) 0++b0.drop ((t5.toNat)+(((b0.length:Int).toNat)-(t5.toNat))))
 if(0:Int)≤(0:Int)∧(0:Int)≤t5∧t5≤(x6.length:Int)then(
 some (((),()),((),((x6.drop 0).take ((t5.toNat)-0)),())))else none)else none)
def Bi:Nat→DK
 |0=>fun _ _ _ _=>none
 |n+1=>Ea (Bi n)
def Eg(R5:DK)(p1:ACY)(b0:AAM):Option CV:=
 (Dn b0 (p1.1,())).bind fun u1=>
 cond (u1.1.1==(-1))
  (some (((),()),((),b0,())))
 (R5 (p1.1,()) u1.1.1 (AS (u1.1.1+1)) b0)
def Ch(p1:ACY)(b0:AAM):Option CV:=Eg (Bi AY) p1 b0
abbrev Xs:Type:=AA9×AA_
def HL(p0:AAM)(p1:Int):Option Xs:=
 (DB p0).bind fun u1=>
 (Ch ((p1,()),()) u1.2.1).bind fun u2=>
 some (((),()),(u2.2.2.1,()))
abbrev LJ:Type:=AEC×ADr
abbrev OE:Type:=Int→AA4→Int→Int→Int→AA4→Int→AA4→Option LJ
def Q_(R5:OE)(t2:Int)(t19:AA4)(t20 t21 AL:Int)(b1:AA4)(Im:Int)(b3:AA4):Option LJ:=
 cond (decide (t21<t20))
  (if(0:Int)≤t21∧t21<(t19.length:Int)then(
  cond (!((t19.getD (t21.toNat) ([],[],false,())).2.2.1))
   ((HL ((t19.getD (t21.toNat) ([],[],false,())).2.1) t2).bind fun u5=>
   if(0:Int)≤t21∧t21<(b3.length:Int)then(
   R5 t2 t19 t20 (AS (t21+1)) AL b1 Im (b3.set (t21.toNat) ((b3.getD (t21.toNat) ([],[],false,())).1,u5.2.1,(b3.getD (t21.toNat) ([],[],false,())).2.2.1,())))else none)
  (R5 t2 t19 t20 (AS (t21+1)) AL b1 Im b3))else none)
 (some ((((Im,(),()),true,()),()),(b3,())))
def He:Nat→OE
 |0=>fun _ _ _ _ _ _ _ _=>none
 |n+1=>Q_ (He n)
def Qy(R5:OE)(p0:AAq)(p1:AA8)(p2:Int):Option LJ:=
 (GN (p0.1,p0.2.1,()) (p1.1,p1.2.1,())).bind fun u1=>
 cond (!u1.1.1)
  (some ((((0,(),()),false,()),()),([],())))
 ((Fe (p1.1,p1.2.1,())).bind fun u2=>
 R5 p2 p1.2.1 (p1.2.1.length:Int) 0 0 [] u2.1.1.1 u2.2.1)
def Nr(p0:AAq)(p1:AA8)(p2:Int):Option LJ:=Qy (He AY) p0 p1 p2
abbrev Nw:Type:=ADt×ACw
abbrev QM:Type:=Int→List AAM→Int→Int→Int→Int→Bool→List Int→AAR→List AAM→Int→Int→Bool→List Int→AAR→List AAM→Option Nw
def TF(R5:QM)(t2:Int)(t19:List AAM)(t20 t21 AL AE:Int)(EJ:Bool)(b1:AAM)(b2:AAR)(b3:List AAM)(ie fA:Int)(ur:Bool)(b5:AAM)(b6:AAR)(b7:List AAM):Option Nw:=
 cond (decide (t21<t20))
  (if(0:Int)≤t21∧t21<(t19.length:Int)then(
  (HL (t19.getD (t21.toNat) []) t2).bind fun u4=>
  if(0:Int)≤t21∧t21<(b7.length:Int)then(
  R5 t2 t19 t20 (AS (t21+1)) AL AE EJ b1 b2 b3 ie fA ur b5 b6 (b7.set (t21.toNat) u4.2.1))else none)else none)
 (some ((((ie,fA,(),(),ur,(),()),true,()),()),(b5,b6,b7,())))
def JY:Nat→QM
 |0=>fun _ _ _ _ _ _ _ _ _ _ _ _ _ _ _ _=>none
 |n+1=>TF (JY n)
def TM(R5:QM)(p0:AAq)(p1:AAy)(p2:Int):Option Nw:=
 (Hu (p0.1,p0.2.1,()) (p1.1,p1.2.1,p1.2.2.1,p1.2.2.2.1,p1.2.2.2.2.1,p1.2.2.2.2.2.1,())).bind fun u1=>
 cond (!u1.1.1)
  (some ((((0,0,(),(),false,(),()),false,()),()),([],[],[],())))
 ((GM (p1.1,p1.2.1,p1.2.2.1,p1.2.2.2.1,p1.2.2.2.2.1,p1.2.2.2.2.2.1,())).bind fun u2=>
 R5 p2 p1.2.2.2.2.2.1 (p1.2.2.2.2.2.1.length:Int) 0 0 0 false [] [] [] u2.1.1.1 u2.1.1.2.1 u2.1.1.2.2.2.2.1 u2.2.1 u2.2.2.1 u2.2.2.2.1)
def QH(p0:AAq)(p1:AAy)(p2:Int):Option Nw:=TM (JY AY) p0 p1 p2
abbrev GZ:Type:=AA3×AKb
abbrev MH:Type:=Int→Int→Int→Int→Int→Bool→List Int→AAO→List Int→AAN→AAc→AAi→AAn→AAS→List Int→Option GZ
abbrev K7:Type:=Int→Int→Int→Int→Int→Bool→List Int→AAO→List Int→AAN→AAc→AAi→AAn→AAS→List Int→Option GZ
def TB(R7:MH)(R12:K7)(t1 t36 t37 AE AZ:Int)(AM:Bool)(b1:AAM)(b2:AAO)(b3:AAM)(b4:AAN)(b5:AAc)(b6:AAi)(b7:AAn)(b8:AAS)(b9:AAM):Option GZ:=
 cond (decide (t37<t36))
  (if(0:Int)≤t37∧t37<(b5.length:Int)then(
  (Nr (b1,AE,()) ((b5.getD (t37.toNat) (0,[],())).1,(b5.getD (t37.toNat) (0,[],())).2.1,()) t1).bind fun u4=>
  if(0:Int)≤t37∧t37<(b5.length:Int)then(
  R7 t1 t36 (AS (t37+1)) AE AZ AM b1 b2 b3 b4 (b5.set (t37.toNat) (u4.1.1.1.1,u4.2.1,())) b6 b7 b8 b9)else none)else none)
 (R12 t1 (b6.length:Int) 0 AE AZ AM b1 b2 b3 b4 b5 b6 b7 b8 b9)
def Rt(R7:MH)(R12:K7)(t1 t63 t64 AE AZ:Int)(AM:Bool)(b1:AAM)(b2:AAO)(b3:AAM)(b4:AAN)(b5:AAc)(b6:AAi)(b7:AAn)(b8:AAS)(b9:AAM):Option GZ:=
 cond (decide (t64<t63))
  (if(0:Int)≤t64∧t64<(b6.length:Int)then(
  (QH (b1,AE,()) ((b6.getD (t64.toNat) (0,0,[],[],false,[],())).1,(b6.getD (t64.toNat) (0,0,[],[],false,[],())).2.1,(b6.getD (t64.toNat) (0,0,[],[],false,[],())).2.2.1,(b6.getD (t64.toNat) (0,0,[],[],false,[],())).2.2.2.1,(b6.getD (t64.toNat) (0,0,[],[],false,[],())).2.2.2.2.1,(b6.getD (t64.toNat) (0,0,[],[],false,[],())).2.2.2.2.2.1,()) t1).bind fun u6=>
  if(0:Int)≤t64∧t64<(b6.length:Int)then(
  R12 t1 t63 (AS (t64+1)) AE AZ AM b1 b2 b3 b4 b5 (b6.set (t64.toNat) (u6.1.1.1.1,u6.1.1.1.2.1,u6.2.1,u6.2.2.1,u6.1.1.1.2.2.2.2.1,u6.2.2.2.1,())) b7 b8 b9)else none)else none)
 (cond (AM)
  (some ((0,()),(((),AE,(),(),(),AZ,(),(),(),(),true,()),b1,b2,(),b4,b5,b6,b7,b8,b9,())))
 ((GW (b1,AE,()) b9).bind fun u8=>
 some ((0,()),(((),AE,(),(),(),AZ,(),(),(),(),u8.1.1,()),b1,b2,(),b4,b5,b6,b7,b8,b9,()))))
mutual
def HC:Nat→MH
 |0=>fun _ _ _ _ _ _ _ _ _ _ _ _ _ _ _=>none
 |n+1=>TB (HC n) (Gn n)
def Gn:Nat→K7
 |0=>fun _ _ _ _ _ _ _ _ _ _ _ _ _ _ _=>none
 |n+1=>Rt (HC n) (Gn n)
end
def TN(R7:MH)(R12:K7)(p1 AE AZ:Int)(AM:Bool)(b1:AAM)(b2:AAO)(b3:AAM)(b4:AAN)(b5:AAc)(b6:AAi)(b7:AAn)(b8:AAS):Option GZ:=
 (EF (b1,AE,b2,b3,b4,AZ,b5,b6,b7,b8,AM,()) p1).bind fun u1=>
 cond (u1.1.1 !=0)
  (some ((u1.1.1,()),(((),AE,(),(),(),AZ,(),(),(),(),AM,()),b1,b2,(),b4,b5,b6,b7,b8,b3,())))
 (if(0:Int)≤p1∧p1<(b2.length:Int)then(
 (Kv b3 p1).bind fun u3=>
 R7 p1 (b5.length:Int) 0 AE AZ AM b1 (b2.set (p1.toNat) ([],[],0,())) b3 b4 b5 b6 b7 b8 u3.2.1)else none)
def QC(p1 AE AZ:Int)(AM:Bool)(b1:AAM)(b2:AAO)(b3:AAM)(b4:AAN)(b5:AAc)(b6:AAi)(b7:AAn)(b8:AAS):Option GZ:=TN (HC AY) (Gn AY) p1 AE AZ AM b1 b2 b3 b4 b5 b6 b7 b8
abbrev qT:Type:=AA1×Unit
def YK(p0:AAq)(p1:AAM):Option qT:=
 (Du (p0.1,p0.2.1,()) p1).bind fun u1=>
 cond (u1.1.1)
  ((GW (p0.1,p0.2.1,()) p1).bind fun u2=>
  some ((!u2.1.1,()),()))
 (some ((false,()),()))
abbrev PK:Type:=AA9×ADw
abbrev UP:Type:=AAO→Int→Int→AAR→Option PK
abbrev UA:Type:=AAO→Int→Int→AAR→Int→Int→AAR→Option PK
def Z0(R3:UP)(R8:UA)(t9:AAO)(t10 t11:Int)(b0:AAR):Option PK:=
 cond (decide (t11<t10))
  (if(0:Int)≤t11∧t11<(t9.length:Int)then(
  (E7 ((t9.getD (t11.toNat) ([],[],0,())).1,(t9.getD (t11.toNat) ([],[],0,())).2.1,(t9.getD (t11.toNat) ([],[],0,())).2.2.1,())).bind fun u1=>
  cond (!u1.1.1)
   (some (((),()),([],())))
  (R8 t9 t10 t11 ((t9.getD (t11.toNat) ([],[],0,())).1) (((t9.getD (t11.toNat) ([],[],0,())).1).length:Int) 0 b0))else none)
 (some (((),()),(b0,())))
def aB(R3:UP)(R8:UA)(t9:AAO)(t10 t11:Int)(t19:AAR)(t20 t21:Int)(b0:AAR):Option PK:=
 cond (decide (t21<t20))
  (if(0:Int)≤t21∧t21<(t19.length:Int)then(
  (WY ((t19.getD (t21.toNat) (0,0,false,[],())).1,(t19.getD (t21.toNat) (0,0,false,[],())).2.1,(t19.getD (t21.toNat) (0,0,false,[],())).2.2.1,(t19.getD (t21.toNat) (0,0,false,[],())).2.2.2.1,()) b0).bind fun u3=>
  R8 t9 t10 t11 t19 t20 (AS (t21+1)) u3.2.2.1)else none)
 (R3 t9 t10 (AS (t11+1)) b0)
mutual
def NJ:Nat→UP
 |0=>fun _ _ _ _=>none
 |n+1=>Z0 (NJ n) (M9 n)
def M9:Nat→UA
 |0=>fun _ _ _ _ _ _ _=>none
 |n+1=>aB (NJ n) (M9 n)
end
def kc(R3:UP)(R8:UA)(p0:AAO):Option PK:=
 R3 p0 (p0.length:Int) 0 []
def gC(p0:AAO):Option PK:=kc (NJ AY) (M9 AY) p0
abbrev Ur:Type:=AC4×AJ_
abbrev aq:Type:=List Int→Int→Int→Int→AAO→Int→AAR→AAR→AAO→Option Ur
def cK(R5:aq)(t2:AAM)(t4 t37 t38:Int)(b0:AAO)(DE:Int)(b2 b3:AAR)(b4:AAO):Option Ur:=
 cond (decide (t38<t37))
  (if(0:Int)≤t38∧t38<(b0.length:Int)then(
  (Bg t2 t38).bind fun u4=>
  cond (u4.1.1)
   (R5 t2 t4 t37 (AS (t38+1)) b0 DE b2 b3 b4)
  ((E7 ((b0.getD (t38.toNat) ([],[],0,())).1,(b0.getD (t38.toNat) ([],[],0,())).2.1,(b0.getD (t38.toNat) ([],[],0,())).2.2.1,())).bind fun u5=>
  cond (!u5.1.1)
   (some (((((),(),0,()),false,()),()),(b0,[],[],())))
  (if b4.length+1≤DA then(
  R5 t2 t4 t37 (AS (t38+1)) b0 DE b2 b3 (b4++[((b0.getD (t38.toNat) ([],[],0,())).1,(b0.getD (t38.toNat) ([],[],0,())).2.1,(b0.getD (t38.toNat) ([],[],0,())).2.2.1,())]))else none)))else none)
 ((gC b4).bind fun u7=>
 (E7 (u7.2.1,[],t4,())).bind fun u8=>
 cond (!u8.1.1)
  (some (((((),(),0,()),false,()),()),(b0,[],[],())))
 (some (((((),(),t4,()),true,()),()),(b0,u7.2.1,[],()))))
def RT:Nat→aq
 |0=>fun _ _ _ _ _ _ _ _ _=>none
 |n+1=>cK (RT n)
def br(R5:aq)(p0:AAq)(p2:AAM)(p3 p4:Int)(b0:AAO):Option Ur:=
 cond (((b0.length:Int) !=(p0.1.length:Int)))
  (some (((((),(),0,()),false,()),()),(b0,[],[],())))
 ((YK (p0.1,p0.2.1,()) p2).bind fun u2=>
 cond (!u2.1.1)
  (some (((((),(),0,()),false,()),()),(b0,[],[],())))
 ((Bg p2 p3).bind fun u3=>
 cond (!u3.1.1)
  (some (((((),(),0,()),false,()),()),(b0,[],[],())))
 (R5 p2 p4 (b0.length:Int) 0 b0 0 [] [] [])))
def Z8(p0:AAq)(p2:AAM)(p3 p4:Int)(b0:AAO):Option Ur:=br (RT AY) p0 p2 p3 p4 b0
abbrev iv:Type:=AA3×AKb
def KA(p1 AE AZ:Int)(AM:Bool)(b1:AAM)(b2:AAO)(b3:AAM)(b4:AAN)(b5:AAc)(b6:AAi)(b7:AAn)(b8:AAS):Option iv:=
 (Ay p1 0 (AS ((b2.length:Int)-1))).bind fun u2=>
 cond (!u2.1.1)
  (some ((2,()),(((),AE,(),(),(),AZ,(),(),(),(),AM,()),b1,b2,(),b4,b5,b6,b7,b8,b3,())))
 ((Cz (b1,AE,b2,b3,b4,AZ,b5,b6,b7,b8,AM,()) p1).bind fun u3=>
 cond (!u3.1.1)
  (some ((2,()),(((),AE,(),(),(),AZ,(),(),(),(),AM,()),b1,b2,(),b4,b5,b6,b7,b8,b3,())))
 (let x4:Int:=AS ((b4.length:Int)-1)
 (Z8 (b1,AE,()) b3 p1 (if 0>x4 then 0 else x4) b2).bind fun u6=>
 cond (!u6.1.1.2.1)
  (some ((4,()),(((),AE,(),(),(),AZ,(),(),(),(),AM,()),b1,u6.2.1,(),b4,b5,b6,b7,b8,b3,())))
 (if(0:Int)≤p1∧p1<(u6.2.1.length:Int)then(
 (HL b3 p1).bind fun u8=>
 some ((0,()),(((),AE,(),(),(),AZ,(),(),(),(),AM,()),b1,(u6.2.1.set (p1.toNat) (u6.2.2.1,u6.2.2.2.1,u6.1.1.1.2.2.1,())),(),b4,b5,b6,b7,b8,u8.2.1,())))else none)))
abbrev oS:Type:=ADs×ACw
def iw(p0 p1:Int):Option oS:=
 some (((p1,p0,(),(),false,(),()),()),([],[],[],()))
abbrev YD:Type:=AA3×(ADR×List Int×AAO×List Int×AAN×AAc×Unit×AAn×AAS×AAi×Unit)
def P6(AE AZ:Int)(AM:Bool)(b1:AAM)(b2:AAO)(b3:AAM)(b4:AAN)(b5:AAc)(b6:AAi)(b7:AAn)(b8:AAS):Option YD:=
 (LP (b4,AZ,())).bind fun u1=>
 cond ((decide ((b4.length:Int)<2)))
  (some ((2,()),(((),AE,(),(),(),AZ,(),(),(),(),AM,()),b1,b2,b3,b4,b5,(),b7,b8,b6,())))
 (cond ((u1.1.1==(b4.length:Int)))
  (some ((2,()),(((),AE,(),(),(),AZ,(),(),(),(),AM,()),b1,b2,b3,b4,b5,(),b7,b8,b6,())))
 (cond ((decide ((b6.length:Int)>0)))
  (some ((4,()),(((),AE,(),(),(),AZ,(),(),(),(),AM,()),b1,b2,b3,b4,b5,(),b7,b8,b6,())))
 ((iw u1.1.1 (b4.length:Int)).bind fun u5=>
 some ((0,()),(((),AE,(),(),(),AZ,(),(),(),(),AM,()),b1,b2,b3,b4,b5,(),b7,b8,[(u5.1.1.1,u5.1.1.2.1,u5.2.1,u5.2.2.1,u5.1.1.2.2.2.2.1,u5.2.2.2.1,())],())))))
abbrev Tk:Type:=AC4×ACu
def Oh(p0:AA6)(p1:Int):Option Tk:=
 (ON (p0.1,p0.2.1,p0.2.2.1,())).bind fun u1=>
 cond (!u1.1.1.2.1)
  ((Da (p0.1,p0.2.1,p0.2.2.1,())).bind fun u2=>
  some (((((),(),u2.1.1.2.2.1,()),false,()),()),(u2.2.1,u2.2.2.1,())))
 ((Ay p1 0 30).bind fun u3=>
 cond (!u3.1.1)
  ((Da (p0.1,p0.2.1,p0.2.2.1,())).bind fun u4=>
  some (((((),(),u4.1.1.2.2.1,()),false,()),()),(u4.2.1,u4.2.2.1,())))
 (some (((((),(),(if p1>u1.1.1.1.2.2.1 then p1 else u1.1.1.1.2.2.1),()),true,()),()),(u1.2.1,u1.2.2.1,()))))
abbrev J6:Type:=AA9×ADw
abbrev Tl:Type:=Int→AAR→Int→Int→AAR→Option J6
def Vg(R5:Tl)(t1:Int)(t14:AAR)(t15 t16:Int)(b0:AAR):Option J6:=
 cond (decide (t16<t15))
  (if(0:Int)≤t16∧t16<(t14.length:Int)then(
  (E4 ((t14.getD (t16.toNat) (0,0,false,[],())).1)).bind fun u3=>
  cond (u3.1.1==t1)
   (if b0.length+1≤DA then(
   R5 t1 t14 t15 (AS (t16+1)) (b0++[((t14.getD (t16.toNat) (0,0,false,[],())).1,(t14.getD (t16.toNat) (0,0,false,[],())).2.1,(t14.getD (t16.toNat) (0,0,false,[],())).2.2.1,(t14.getD (t16.toNat) (0,0,false,[],())).2.2.2.1,())]))else none)
  (R5 t1 t14 t15 (AS (t16+1)) b0))else none)
 (some (((),()),(b0,())))
def Lw:Nat→Tl
 |0=>fun _ _ _ _ _=>none
 |n+1=>Vg (Lw n)
def Vw(R5:Tl)(p0:AA6)(p1:Int):Option J6:=
 (E7 (p0.1,p0.2.1,p0.2.2.1,())).bind fun u1=>
 cond (!u1.1.1)
  (some (((),()),([],())))
 (R5 p1 p0.1 (p0.1.length:Int) 0 [])
def Pl(p0:AA6)(p1:Int):Option J6:=Vw (Lw AY) p0 p1
abbrev J4:Type:=ADt×ACw
abbrev T0:Type:=AAR→Int→Int→List Int→Int→Int→Int→List Int→AAR→Bool→List AAM→Int→Int→Bool→List Int→AAR→List AAM→Int→Int→Bool→List Int→AAR→List AAM→Option J4
def Vr(R6:T0)(t31:AAR)(t32 t33:Int)(AL:AAM)(AE BB Ap:Int)(DE:AAM)(Gq:AAR)(Mi:Bool)(D2:List AAM)(Im Kw:Int)(Pd:Bool)(b3:AAM)(b4:AAR)(b5:List AAM)(K4 Jw:Int)(K0:Bool)(b7:AAM)(b8:AAR)(b9:List AAM):Option J4:=
 cond (decide (t33<t32))
  (if(0:Int)≤t33∧t33<(t31.length:Int)then(
  (E4 ((t31.getD (t33.toNat) (0,0,false,[],())).1)).bind fun u7=>
  cond (u7.1.1==Ap)
   ((WY ((t31.getD (t33.toNat) (0,0,false,[],())).1,(t31.getD (t33.toNat) (0,0,false,[],())).2.1,(t31.getD (t33.toNat) (0,0,false,[],())).2.2.1,(t31.getD (t33.toNat) (0,0,false,[],())).2.2.2.1,()) b8).bind fun u8=>
   R6 t31 t32 (AS (t33+1)) AL AE BB Ap DE Gq Mi D2 Im Kw Pd b3 b4 b5 K4 Jw K0 b7 u8.2.2.1 b9)
  (R6 t31 t32 (AS (t33+1)) AL AE BB Ap DE Gq Mi D2 Im Kw Pd b3 b4 b5 K4 Jw K0 b7 b8 b9))else none)
 ((Hu (AL,AE,()) (K4,Jw,b7,b8,K0,b9,())).bind fun u9=>
 cond (!u9.1.1)
  ((GM (BB,Ap,DE,Gq,Mi,D2,())).bind fun D1=>
  some ((((D1.1.1.1,D1.1.1.2.1,(),(),D1.1.1.2.2.2.2.1,(),()),false,()),()),(D1.2.1,D1.2.2.1,D1.2.2.2.1,())))
 (some ((((K4,Jw,(),(),K0,(),()),true,()),()),(b7,b8,b9,()))))
def La:Nat→T0
 |0=>fun _ _ _ _ _ _ _ _ _ _ _ _ _ _ _ _ _ _ _ _ _ _ _=>none
 |n+1=>Vr (La n)
def Vs(R6:T0)(p0:AAq)(p1:AAy)(p2:Int)(p3:AAR):Option J4:=
 (Hu (p0.1,p0.2.1,()) (p1.1,p1.2.1,p1.2.2.1,p1.2.2.2.1,p1.2.2.2.2.1,p1.2.2.2.2.2.1,())).bind fun u1=>
 cond (!u1.1.1)
  ((Ef (p0.1,p0.2.1,()) (p1.1,p1.2.1,p1.2.2.1,p1.2.2.2.1,p1.2.2.2.2.1,p1.2.2.2.2.2.1,())).bind fun u2=>
  some ((((u2.1.1.1,u2.1.1.2.1,(),(),u2.1.1.2.2.2.2.1,(),()),false,()),()),(u2.2.1,u2.2.2.1,u2.2.2.2.1,())))
 (cond (p1.2.2.2.2.1)
  ((Ef (p0.1,p0.2.1,()) (p1.1,p1.2.1,p1.2.2.1,p1.2.2.2.1,p1.2.2.2.2.1,p1.2.2.2.2.2.1,())).bind fun u3=>
  some ((((u3.1.1.1,u3.1.1.2.1,(),(),u3.1.1.2.2.2.2.1,(),()),false,()),()),(u3.2.1,u3.2.2.1,u3.2.2.2.1,())))
 ((GM (p1.1,p1.2.1,p1.2.2.1,p1.2.2.2.1,p1.2.2.2.2.1,p1.2.2.2.2.2.1,())).bind fun u4=>
 (Kv u4.2.1 p2).bind fun u5=>
 R6 p3 (p3.length:Int) 0 p0.1 p0.2.1 p1.1 p1.2.1 p1.2.2.1 p1.2.2.2.1 p1.2.2.2.2.1 p1.2.2.2.2.2.1 0 0 false [] [] [] u4.1.1.1 u4.1.1.2.1 u4.1.1.2.2.2.2.1 u5.2.1 u4.2.2.1 u4.2.2.2.1))
def Pq(p0:AAq)(p1:AAy)(p2:Int)(p3:AAR):Option J4:=Vs (La AY) p0 p1 p2 p3
abbrev jD:Type:=AA3×ADU
def KB(p1 AE AZ:Int)(AM:Bool)(b1:AAM)(b2:AAO)(b3:AAM)(b4:AAN)(b5:AAc)(b6:AAi)(b7:AAn)(b8:AAS):Option jD:=
 cond (((b6.length:Int)==0))
  (some ((2,()),(((),AE,(),(),(),AZ,(),(),(),(),AM,()),b1,b2,b3,b4,b5,b6,b7,b8,())))
 (if(0:Int)≤(0:Int)∧(0:Int)<(b6.length:Int)then(
 (DW (b1,AE,b2,b3,b4,AZ,b5,b6,b7,b8,AM,()) p1 ((b6.getD 0 (0,0,[],[],false,[],())).2.1)).bind fun u3=>
 cond (u3.1.1 !=0)
  (some ((u3.1.1,()),(((),AE,(),(),(),AZ,(),(),(),(),AM,()),b1,b2,b3,b4,b5,b6,b7,b8,())))
 (if(0:Int)≤p1∧p1<(b2.length:Int)then(
 (Oh ((b2.getD (p1.toNat) ([],[],0,())).1,(b2.getD (p1.toNat) ([],[],0,())).2.1,(b2.getD (p1.toNat) ([],[],0,())).2.2.1,()) (AS (((b6.getD 0 (0,0,[],[],false,[],())).1)-1))).bind fun u5=>
 (Pl (u5.2.1,u5.2.2.1,u5.1.1.1.2.2.1,()) ((b6.getD 0 (0,0,[],[],false,[],())).2.1)).bind fun u7=>
 (Pq (b1,AE,()) ((b6.getD 0 (0,0,[],[],false,[],())).1,(b6.getD 0 (0,0,[],[],false,[],())).2.1,(b6.getD 0 (0,0,[],[],false,[],())).2.2.1,(b6.getD 0 (0,0,[],[],false,[],())).2.2.2.1,(b6.getD 0 (0,0,[],[],false,[],())).2.2.2.2.1,(b6.getD 0 (0,0,[],[],false,[],())).2.2.2.2.2.1,()) p1 u7.2.1).bind fun u8=>
 cond (!u5.1.1.2.1)
  (some ((4,()),(((),AE,(),(),(),AZ,(),(),(),(),AM,()),b1,b2,b3,b4,b5,b6,b7,b8,())))
 (cond (!u8.1.1.2.1)
  (some ((4,()),(((),AE,(),(),(),AZ,(),(),(),(),AM,()),b1,b2,b3,b4,b5,b6,b7,b8,())))
 (if(0:Int)≤p1∧p1<(b2.length:Int)then(
 if(0:Int)≤(0:Int)∧(0:Int)<(b6.length:Int)then(
 some ((0,()),(((),AE,(),(),(),AZ,(),(),(),(),AM,()),b1,(b2.set (p1.toNat) (u5.2.1,u5.2.2.1,u5.1.1.1.2.2.1,())),b3,b4,b5,(b6.set 0 (u8.1.1.1.1,u8.1.1.1.2.1,u8.2.1,u8.2.2.1,u8.1.1.1.2.2.2.2.1,u8.2.2.2.1,())),b7,b8,())))else none)else none)))else none))else none)
abbrev bt:Type:=ADt×ACw
def Pg(p0:AAq)(p1:AAy)(p2:AAM):Option bt:=
 (Hu (p0.1,p0.2.1,()) (p1.1,p1.2.1,p1.2.2.1,p1.2.2.2.1,p1.2.2.2.2.1,p1.2.2.2.2.2.1,())).bind fun u1=>
 cond (!u1.1.1)
  ((Ef (p0.1,p0.2.1,()) (p1.1,p1.2.1,p1.2.2.1,p1.2.2.2.1,p1.2.2.2.2.1,p1.2.2.2.2.2.1,())).bind fun u2=>
  some ((((u2.1.1.1,u2.1.1.2.1,(),(),u2.1.1.2.2.2.2.1,(),()),false,()),()),(u2.2.1,u2.2.2.1,u2.2.2.2.1,())))
 (cond (p1.2.2.2.2.1)
  ((Ef (p0.1,p0.2.1,()) (p1.1,p1.2.1,p1.2.2.1,p1.2.2.2.1,p1.2.2.2.2.1,p1.2.2.2.2.2.1,())).bind fun u3=>
  some ((((u3.1.1.1,u3.1.1.2.1,(),(),u3.1.1.2.2.2.2.1,(),()),false,()),()),(u3.2.1,u3.2.2.1,u3.2.2.2.1,())))
 ((M7 p1.2.2.1 p2).bind fun u4=>
 (G1 (p0.1,p0.2.1,()) p2 u4.2.1).bind fun u5=>
 cond (!u5.1.1)
  ((Ef (p0.1,p0.2.1,()) (p1.1,p1.2.1,p1.2.2.1,p1.2.2.2.1,p1.2.2.2.2.1,p1.2.2.2.2.2.1,())).bind fun u6=>
  some ((((u6.1.1.1,u6.1.1.2.1,(),(),u6.1.1.2.2.2.2.1,(),()),false,()),()),(u6.2.1,u6.2.2.1,u6.2.2.2.1,())))
 ((GM (p1.1,p1.2.1,p1.2.2.1,p1.2.2.2.1,p1.2.2.2.2.1,p1.2.2.2.2.2.1,())).bind fun u7=>
 (SI (p1.1,p1.2.1,p1.2.2.1,p1.2.2.2.1,p1.2.2.2.2.1,p1.2.2.2.2.2.1,())).bind fun u8=>
 if(0:Int)≤u8.1.1∧u8.1.1≤u8.1.1∧u8.1.1≤(DA:Int)then(
 some ((((u7.1.1.1,u7.1.1.2.1,(),(),true,(),()),true,()),()),(u7.2.1,u7.2.2.1,(List.replicate (u8.1.1.toNat) []),())))else none)))
abbrev iC:Type:=AA3×ADU
def KD(AE AZ:Int)(AM:Bool)(b1:AAM)(b2:AAO)(b3:AAM)(b4:AAN)(b5:AAc)(b6:AAi)(b7:AAn)(b8:AAS):Option iC:=
 cond (((b6.length:Int)==0))
  (some ((2,()),(((),AE,(),(),(),AZ,(),(),(),(),AM,()),b1,b2,b3,b4,b5,b6,b7,b8,())))
 (if(0:Int)≤(0:Int)∧(0:Int)<(b6.length:Int)then(
 if(0:Int)≤(0:Int)∧(0:Int)<(b6.length:Int)then(
 (Iz (b4,AZ,()) ((b6.getD 0 (0,0,[],[],false,[],())).2.1)).bind fun u3=>
 (Pg (b1,AE,()) ((b6.getD 0 (0,0,[],[],false,[],())).1,(b6.getD 0 (0,0,[],[],false,[],())).2.1,(b6.getD 0 (0,0,[],[],false,[],())).2.2.1,(b6.getD 0 (0,0,[],[],false,[],())).2.2.2.1,(b6.getD 0 (0,0,[],[],false,[],())).2.2.2.2.1,(b6.getD 0 (0,0,[],[],false,[],())).2.2.2.2.2.1,()) u3.2.1).bind fun u4=>
 if(0:Int)≤(0:Int)∧(0:Int)<(b6.length:Int)then(
 (KF u4.1.1.2.1).bind fun u6=>
 some ((u6.1.1,()),(((),AE,(),(),(),AZ,(),(),(),(),AM,()),b1,b2,b3,b4,b5,(b6.set 0 (u4.1.1.1.1,u4.1.1.1.2.1,u4.2.1,u4.2.2.1,u4.1.1.1.2.2.2.2.1,u4.2.2.2.1,())),b7,b8,())))else none)else none)else none)
abbrev kI:Type:=AA3×ADU
def SR(p1 p2 AE AZ:Int)(AM:Bool)(b1:AAM)(b2:AAO)(b3:AAM)(b4:AAN)(b5:AAc)(b6:AAi)(b7:AAn)(b8:AAS):Option kI:=
 cond (((b6.length:Int)==0))
  (some ((2,()),(((),AE,(),(),(),AZ,(),(),(),(),AM,()),b1,b2,b3,b4,b5,b6,b7,b8,())))
 (if(0:Int)≤(0:Int)∧(0:Int)<(b6.length:Int)then(
 (Jj ((b6.getD 0 (0,0,[],[],false,[],())).1,(b6.getD 0 (0,0,[],[],false,[],())).2.1,(b6.getD 0 (0,0,[],[],false,[],())).2.2.1,(b6.getD 0 (0,0,[],[],false,[],())).2.2.2.1,(b6.getD 0 (0,0,[],[],false,[],())).2.2.2.2.1,(b6.getD 0 (0,0,[],[],false,[],())).2.2.2.2.2.1,()) p1).bind fun u2=>
 cond (!u2.1.1.2.1)
  (some ((2,()),(((),AE,(),(),(),AZ,(),(),(),(),AM,()),b1,b2,b3,b4,b5,b6,b7,b8,())))
 (if(0:Int)≤(0:Int)∧(0:Int)<(b6.length:Int)then(
 (DW (b1,AE,b2,b3,b4,AZ,b5,b6,b7,b8,AM,()) p2 ((b6.getD 0 (0,0,[],[],false,[],())).2.1)).bind fun u4=>
 cond (u4.1.1 !=0)
  (some ((u4.1.1,()),(((),AE,(),(),(),AZ,(),(),(),(),AM,()),b1,b2,b3,b4,b5,b6,b7,b8,())))
 ((LR p2 (u2.1.1.1.1,u2.1.1.1.2.1,u2.1.1.1.2.2.1,u2.1.1.1.2.2.2.1,()) AE AZ AM b1 b2 b3 b4 b5 b6 b7 b8).bind fun u5=>
 some ((u5.1.1,()),(((),u5.2.1.2.1,(),(),(),u5.2.1.2.2.2.2.2.1,(),(),(),(),u5.2.1.2.2.2.2.2.2.2.2.2.2.1,()),u5.2.2.1,u5.2.2.2.1,u5.2.2.2.2.1,u5.2.2.2.2.2.1,u5.2.2.2.2.2.2.1,u5.2.2.2.2.2.2.2.1,u5.2.2.2.2.2.2.2.2.1,u5.2.2.2.2.2.2.2.2.2.1,()))))else none))else none)
abbrev L8:Type:=AA1×Unit
abbrev RU:Type:=List AAM→Int→Int→List Int→Int→Option L8
def Ug(R4:RU)(t17:List AAM)(t18 t19:Int)(AL:AAM)(AE:Int):Option L8:=
 cond (decide (t19<t18))
  (if(0:Int)≤t19∧t19<(t17.length:Int)then(
  (GW (AL,AE,()) (t17.getD (t19.toNat) [])).bind fun u3=>
  cond (!u3.1.1)
   (some ((false,()),()))
  (R4 t17 t18 (AS (t19+1)) AL AE))else none)
 (some ((true,()),()))
def Kj:Nat→RU
 |0=>fun _ _ _ _ _=>none
 |n+1=>Ug (Kj n)
def Uu(R4:RU)(p0:AAq)(p1:AAy):Option L8:=
 (Hu (p0.1,p0.2.1,()) (p1.1,p1.2.1,p1.2.2.1,p1.2.2.2.1,p1.2.2.2.2.1,p1.2.2.2.2.2.1,())).bind fun u1=>
 cond (!u1.1.1)
  (some ((false,()),()))
 (cond (!p1.2.2.2.2.1)
  (some ((false,()),()))
 (R4 p1.2.2.2.2.2.1 (p1.2.2.2.2.2.1.length:Int) 0 p0.1 p0.2.1))
def Ob(p0:AAq)(p1:AAy):Option L8:=Uu (Kj AY) p0 p1
abbrev bV:Type:=AEH×ADV
def Pm(p0:AAq)(p1:AA5)(p2 p3:Int):Option bV:=
 (LP (p1.1,p1.2.1,())).bind fun u1=>
 (Ks (p0.1,p0.2.1,()) (p1.1,p1.2.1,())).bind fun u2=>
 cond (!u2.1.1)
  ((ED (p0.1,p0.2.1,()) (p1.1,p1.2.1,())).bind fun u3=>
  some (((((),u3.1.1.2.1,()),false,()),()),(u3.2.1,())))
 (cond ((p2 !=(p1.1.length:Int)))
  ((ED (p0.1,p0.2.1,()) (p1.1,p1.2.1,())).bind fun u5=>
  some (((((),u5.1.1.2.1,()),false,()),()),(u5.2.1,())))
 (cond (u1.1.1==p2)
  ((ED (p0.1,p0.2.1,()) (p1.1,p1.2.1,())).bind fun u6=>
  some (((((),u6.1.1.2.1,()),false,()),()),(u6.2.1,())))
 ((Ay p3 0 60).bind fun u7=>
 cond (!u7.1.1)
  ((ED (p0.1,p0.2.1,()) (p1.1,p1.2.1,())).bind fun u8=>
  some (((((),u8.1.1.2.1,()),false,()),()),(u8.2.1,())))
 ((EN (p1.1,p1.2.1,())).bind fun u9=>
 if(0:Int)≤AS (u1.1.1-1)∧AS (u1.1.1-1)<(u9.2.1.length:Int)then(
 let Yv:AAN:=(u9.2.1.set ((AS (u1.1.1-1)).toNat) ((u9.2.1.getD ((AS (u1.1.1-1)).toNat) ([],false,0,())).1,true,(u9.2.1.getD ((AS (u1.1.1-1)).toNat) ([],false,0,())).2.2.1,()))
 if(0:Int)≤AS (u1.1.1-1)∧AS (u1.1.1-1)<(Yv.length:Int)then(
 some (((((),u9.1.1.2.1,()),true,()),()),((Yv.set ((AS (u1.1.1-1)).toNat) ((Yv.getD ((AS (u1.1.1-1)).toNat) ([],false,0,())).1,(Yv.getD ((AS (u1.1.1-1)).toNat) ([],false,0,())).2.1,p3,())),())))else none)else none))))
abbrev Wf:Type:=AA3×(ADR×List Int×AAO×List Int×Unit×AAc×Unit×AAn×AAS×AAN×AAi×Unit)
def I6(AE AZ:Int)(AM:Bool)(b1:AAM)(b2:AAO)(b3:AAM)(b4:AAN)(b5:AAc)(b6:AAi)(b7:AAn)(b8:AAS):Option Wf:=
 cond (((b6.length:Int)==0))
  (some ((2,()),(((),AE,(),(),(),AZ,(),(),(),(),AM,()),b1,b2,b3,(),b5,(),b7,b8,b4,b6,())))
 (if(0:Int)≤(0:Int)∧(0:Int)<(b6.length:Int)then(
 (Ob (b1,AE,()) ((b6.getD 0 (0,0,[],[],false,[],())).1,(b6.getD 0 (0,0,[],[],false,[],())).2.1,(b6.getD 0 (0,0,[],[],false,[],())).2.2.1,(b6.getD 0 (0,0,[],[],false,[],())).2.2.2.1,(b6.getD 0 (0,0,[],[],false,[],())).2.2.2.2.1,(b6.getD 0 (0,0,[],[],false,[],())).2.2.2.2.2.1,())).bind fun u2=>
 cond (!u2.1.1)
  (some ((5,()),(((),AE,(),(),(),AZ,(),(),(),(),AM,()),b1,b2,b3,(),b5,(),b7,b8,b4,b6,())))
 (if(0:Int)≤(0:Int)∧(0:Int)<(b6.length:Int)then(
 if(0:Int)≤(0:Int)∧(0:Int)<(b6.length:Int)then(
 (Pm (b1,AE,()) (b4,AZ,()) ((b6.getD 0 (0,0,[],[],false,[],())).1) (((b6.getD 0 (0,0,[],[],false,[],())).2.2.2.2.2.1).length:Int)).bind fun u5=>
 cond (u5.1.1.2.1)
  ((KF u5.1.1.2.1).bind fun u6=>
  some ((u6.1.1,()),(((),AE,(),(),(),u5.1.1.1.2.1,(),(),(),(),AM,()),b1,b2,b3,(),b5,(),b7,b8,u5.2.1,[],())))
 ((KF u5.1.1.2.1).bind fun u7=>
 some ((u7.1.1,()),(((),AE,(),(),(),AZ,(),(),(),(),AM,()),b1,b2,b3,(),b5,(),b7,b8,b4,b6,()))))else none)else none))else none)
abbrev nj:Type:=AEH×ADV
def V4(p0:AAq)(p1:AA5)(p2:Int):Option nj:=
 (Ks (p0.1,p0.2.1,()) (p1.1,p1.2.1,())).bind fun u1=>
 cond (!u1.1.1)
  ((ED (p0.1,p0.2.1,()) (p1.1,p1.2.1,())).bind fun u2=>
  some (((((),u2.1.1.2.1,()),false,()),()),(u2.2.1,())))
 ((E4 p2).bind fun u3=>
 (Ay u3.1.1 1 (p1.1.length:Int)).bind fun u4=>
 cond (!u4.1.1)
  ((ED (p0.1,p0.2.1,()) (p1.1,p1.2.1,())).bind fun u5=>
  some (((((),u5.1.1.2.1,()),false,()),()),(u5.2.1,())))
 ((EN (p1.1,p1.2.1,())).bind fun u6=>
 some (((((),(if p2>u6.1.1.2.1 then p2 else u6.1.1.2.1),()),true,()),()),(u6.2.1,()))))
abbrev fb:Type:=AA1×Unit
def PH(p0:ABk)(p1:AA3):Option fb:=
 some ((decide (p0.1≤p1.1),()),())
abbrev Bf:Type:=AA3×Unit
abbrev CQ:Type:=AAR→ACY→Int→Int→Option Bf
def DO(R2:CQ)(t0:AAR)(t1:ACY)(t7 t8:Int):Option Bf:=
 cond (decide (t8<t7))
  (if(0:Int)≤t8∧t8<(t0.length:Int)then(
  (PH ((t0.getD (t8.toNat) (0,0,false,[],())).1,(t0.getD (t8.toNat) (0,0,false,[],())).2.1,(t0.getD (t8.toNat) (0,0,false,[],())).2.2.1,(t0.getD (t8.toNat) (0,0,false,[],())).2.2.2.1,()) t1.1).bind fun u1=>
  cond (u1.1.1)
   (some ((t8,()),()))
  (R2 t0 (t1.1,()) t7 (AS (t8+1))))else none)
 (some (((-1),()),()))
def BD:Nat→CQ
 |0=>fun _ _ _ _=>none
 |n+1=>DO (BD n)
def DP(R2:CQ)(p0:AAR)(p1:ACY):Option Bf:=
 R2 p0 (p1.1,()) (p0.length:Int) 0
def Cd(p0:AAR)(p1:ACY):Option Bf:=DP (BD AY) p0 p1
abbrev Be:Type:=AA9×AHC
abbrev CH:Type:=ACY→Int→Int→AAR→Option Be
def DH(R5:CH)(t1:ACY)(t5 t6:Int)(b0:AAR):Option Be:=
 cond ((decide (t6<(b0.length:Int))))
  (if(0:Int)≤t6∧t6<(b0.length:Int)then(
  (PH ((b0.getD (t6.toNat) (0,0,false,[],())).1,(b0.getD (t6.toNat) (0,0,false,[],())).2.1,(b0.getD (t6.toNat) (0,0,false,[],())).2.2.1,(b0.getD (t6.toNat) (0,0,false,[],())).2.2.2.1,()) t1.1).bind fun u3=>
  cond (!u3.1.1)
   (if(0:Int)≤t5∧t5<(b0.length:Int)then(
   R5 (t1.1,()) (AS (t5+1)) (AS (t6+1)) (b0.set (t5.toNat) ((b0.getD (t6.toNat) (0,0,false,[],())).1,(b0.getD (t6.toNat) (0,0,false,[],())).2.1,(b0.getD (t6.toNat) (0,0,false,[],())).2.2.1,(b0.getD (t6.toNat) (0,0,false,[],())).2.2.2.1,())))else none)
  (R5 (t1.1,()) t5 (AS (t6+1)) b0))else none)
 (if(0:Int)≤t5∧t5≤(b0.length:Int)∧(b0.length:Int)≤(b0.length:Int)then(
 let x5:AAR:=(b0.take (t5.toNat)++List.replicate (((b0.length:Int).toNat)-(t5.toNat)) (0,0,false,[],())++b0.drop ((t5.toNat)+(((b0.length:Int).toNat)-(t5.toNat))))
 if(0:Int)≤(0:Int)∧(0:Int)≤t5∧t5≤(x5.length:Int)then(
 some (((),()),((),((x5.drop 0).take ((t5.toNat)-0)),())))else none)else none)
def A_:Nat→CH
 |0=>fun _ _ _ _=>none
 |n+1=>DH (A_ n)
def DJ(R5:CH)(p1:ACY)(b0:AAR):Option Be:=
 (Cd b0 (p1.1,())).bind fun u1=>
 cond (u1.1.1==(-1))
  (some (((),()),((),b0,())))
 (R5 (p1.1,()) u1.1.1 (AS (u1.1.1+1)) b0)
def Bj(p1:ACY)(b0:AAR):Option Be:=DJ (A_ AY) p1 b0
abbrev kZ:Type:=AC4×ACu
def Rh(p0:AA6)(p1:Int):Option kZ:=
 (E7 (p0.1,p0.2.1,p0.2.2.1,())).bind fun u1=>
 cond (!u1.1.1)
  ((Da (p0.1,p0.2.1,p0.2.2.1,())).bind fun u2=>
  some (((((),(),u2.1.1.2.2.1,()),false,()),()),(u2.2.1,u2.2.2.1,())))
 ((Ds p1).bind fun u3=>
 cond (!u3.1.1)
  ((Da (p0.1,p0.2.1,p0.2.2.1,())).bind fun u4=>
  some (((((),(),u4.1.1.2.2.1,()),false,()),()),(u4.2.1,u4.2.2.1,())))
 ((C8 (p0.1,p0.2.1,p0.2.2.1,())).bind fun u5=>
 (Bj ((p1,()),()) u5.2.1).bind fun u6=>
 some (((((),(),u5.1.1.2.2.1,()),true,()),()),(u6.2.2.1,u5.2.2.1,()))))
abbrev gg:Type:=AA3×ADU
def Ot(p1 AE AZ:Int)(AM:Bool)(b1:AAM)(b2:AAO)(b3:AAM)(b4:AAN)(b5:AAc)(b6:AAi)(b7:AAn)(b8:AAS):Option gg:=
 (EF (b1,AE,b2,b3,b4,AZ,b5,b6,b7,b8,AM,()) p1).bind fun u1=>
 cond (u1.1.1 !=0)
  (some ((u1.1.1,()),(((),AE,(),(),(),AZ,(),(),(),(),AM,()),b1,b2,b3,b4,b5,b6,b7,b8,())))
 (if(0:Int)≤p1∧p1<(b2.length:Int)then(
 (Rh ((b2.getD (p1.toNat) ([],[],0,())).1,(b2.getD (p1.toNat) ([],[],0,())).2.1,(b2.getD (p1.toNat) ([],[],0,())).2.2.1,()) AZ).bind fun u2=>
 if(0:Int)≤p1∧p1<(b2.length:Int)then(
 (KF u2.1.1.2.1).bind fun u4=>
 some ((u4.1.1,()),(((),AE,(),(),(),AZ,(),(),(),(),AM,()),b1,(b2.set (p1.toNat) (u2.2.1,u2.2.2.1,u2.1.1.1.2.2.1,())),b3,b4,b5,b6,b7,b8,())))else none)else none)
abbrev N2:Type:=AA9×(Unit×AAc×Unit)
def FA(p1 p2:Int)(b0:AAc):Option N2:=(ABK p1 p2 b0).map fun l=>(((),()),((),l,()))
abbrev cD:Type:=AA3×(ADR×List Int×AAO×Unit×Unit×Unit×Unit×AAn×Unit×List Int×AAN×AAc×AAi×AAS×Unit)
def UB(p1:ABA)(AE AZ:Int)(AM:Bool)(b1:AAM)(b2:AAO)(b3:AAM)(b4:AAN)(b5:AAc)(b6:AAi)(b7:AAn)(b8:AAS):Option cD:=
 cond (p1.1==1)
  ((J2 p1.2.1 AE AZ AM b1 b2 b3 b4 b5 b6 b7 b8).bind fun u1=>
  some ((u1.1.1,()),(((),u1.2.1.2.1,(),(),(),u1.2.1.2.2.2.2.2.1,(),(),(),(),u1.2.1.2.2.2.2.2.2.2.2.2.2.1,()),u1.2.2.1,u1.2.2.2.1,(),(),(),(),u1.2.2.2.2.2.2.2.2.1,(),u1.2.2.2.2.1,u1.2.2.2.2.2.2.2.2.2.2.1,u1.2.2.2.2.2.2.2.2.2.2.2.1,u1.2.2.2.2.2.2.2.2.2.2.2.2.1,u1.2.2.2.2.2.2.2.2.2.1,())))
 (cond (p1.1==2)
  ((LU p1.2.1 p1.2.2.2.2.1 AE AZ AM b1 b2 b3 b4 b5 b6 b7 b8).bind fun u6=>
  some ((u6.1.1,()),(((),u6.2.1.2.1,(),(),(),u6.2.1.2.2.2.2.2.1,(),(),(),(),u6.2.1.2.2.2.2.2.2.2.2.2.2.1,()),u6.2.2.1,u6.2.2.2.1,(),(),(),(),u6.2.2.2.2.2.2.2.2.1,(),u6.2.2.2.2.1,u6.2.2.2.2.2.1,u6.2.2.2.2.2.2.1,u6.2.2.2.2.2.2.2.1,u6.2.2.2.2.2.2.2.2.2.2.1,())))
 (cond (p1.1==3)
  ((I5 (p1.1,p1.2.1,p1.2.2.1,p1.2.2.2.1,p1.2.2.2.2.1,()) AE AZ AM b1 b2 b3 b4 b5 b6 b7 b8).bind fun u8=>
  some ((u8.1.1,()),(((),u8.2.1.2.1,(),(),(),u8.2.1.2.2.2.2.2.1,(),(),(),(),u8.2.1.2.2.2.2.2.2.2.2.2.2.1,()),u8.2.2.1,u8.2.2.2.1,(),(),(),(),u8.2.2.2.2.2.2.2.2.1,(),u8.2.2.2.2.1,u8.2.2.2.2.2.1,u8.2.2.2.2.2.2.1,u8.2.2.2.2.2.2.2.1,u8.2.2.2.2.2.2.2.2.2.1,())))
 (cond (p1.1==4)
  ((P1 p1.2.1 AE AZ AM b1 b2 b3 b4 b5 b6 b7 b8).bind fun D1=>
  some ((D1.1.1,()),(((),D1.2.1.2.1,(),(),(),D1.2.1.2.2.2.2.2.1,(),(),(),(),D1.2.1.2.2.2.2.2.2.2.2.2.2.1,()),D1.2.2.1,D1.2.2.2.1,(),(),(),(),D1.2.2.2.2.2.2.2.2.1,(),D1.2.2.2.2.1,D1.2.2.2.2.2.1,D1.2.2.2.2.2.2.1,D1.2.2.2.2.2.2.2.1,D1.2.2.2.2.2.2.2.2.2.1,())))
 (cond (p1.1==5)
  ((Ox p1.2.1 p1.2.2.1 AE AZ AM b1 b2 b3 b4 b5 b6 b7 b8).bind fun MK=>
  some ((MK.1.1,()),(((),MK.2.1.2.1,(),(),(),MK.2.1.2.2.2.2.2.1,(),(),(),(),MK.2.1.2.2.2.2.2.2.2.2.2.2.1,()),MK.2.2.1,MK.2.2.2.1,(),(),(),(),MK.2.2.2.2.2.2.2.2.1,(),MK.2.2.2.2.1,MK.2.2.2.2.2.1,MK.2.2.2.2.2.2.1,MK.2.2.2.2.2.2.2.1,MK.2.2.2.2.2.2.2.2.2.1,())))
 (cond (p1.1==6)
  ((QC p1.2.1 AE AZ AM b1 b2 b3 b4 b5 b6 b7 b8).bind fun u16=>
  some ((u16.1.1,()),(((),u16.2.1.2.1,(),(),(),u16.2.1.2.2.2.2.2.1,(),(),(),(),u16.2.1.2.2.2.2.2.2.2.2.2.2.1,()),u16.2.2.1,u16.2.2.2.1,(),(),(),(),u16.2.2.2.2.2.2.2.2.1,(),u16.2.2.2.2.2.2.2.2.2.2.1,u16.2.2.2.2.2.1,u16.2.2.2.2.2.2.1,u16.2.2.2.2.2.2.2.1,u16.2.2.2.2.2.2.2.2.2.1,())))
 (cond (p1.1==7)
  ((KA p1.2.1 AE AZ AM b1 b2 b3 b4 b5 b6 b7 b8).bind fun L9=>
  some ((L9.1.1,()),(((),L9.2.1.2.1,(),(),(),L9.2.1.2.2.2.2.2.1,(),(),(),(),L9.2.1.2.2.2.2.2.2.2.2.2.2.1,()),L9.2.2.1,L9.2.2.2.1,(),(),(),(),L9.2.2.2.2.2.2.2.2.1,(),L9.2.2.2.2.2.2.2.2.2.2.1,L9.2.2.2.2.2.1,L9.2.2.2.2.2.2.1,L9.2.2.2.2.2.2.2.1,L9.2.2.2.2.2.2.2.2.2.1,())))
 (cond (p1.1==8)
  ((P6 AE AZ AM b1 b2 b3 b4 b5 b6 b7 b8).bind fun IZ=>
  some ((IZ.1.1,()),(((),IZ.2.1.2.1,(),(),(),IZ.2.1.2.2.2.2.2.1,(),(),(),(),IZ.2.1.2.2.2.2.2.2.2.2.2.2.1,()),IZ.2.2.1,IZ.2.2.2.1,(),(),(),(),IZ.2.2.2.2.2.2.2.2.1,(),IZ.2.2.2.2.1,IZ.2.2.2.2.2.1,IZ.2.2.2.2.2.2.1,IZ.2.2.2.2.2.2.2.2.2.2.1,IZ.2.2.2.2.2.2.2.2.2.1,())))
 (cond (p1.1==9)
  ((KB p1.2.1 AE AZ AM b1 b2 b3 b4 b5 b6 b7 b8).bind fun Om=>
  some ((Om.1.1,()),(((),Om.2.1.2.1,(),(),(),Om.2.1.2.2.2.2.2.1,(),(),(),(),Om.2.1.2.2.2.2.2.2.2.2.2.2.1,()),Om.2.2.1,Om.2.2.2.1,(),(),(),(),Om.2.2.2.2.2.2.2.2.1,(),Om.2.2.2.2.1,Om.2.2.2.2.2.1,Om.2.2.2.2.2.2.1,Om.2.2.2.2.2.2.2.1,Om.2.2.2.2.2.2.2.2.2.1,())))
 (cond (p1.1==10)
  ((KD AE AZ AM b1 b2 b3 b4 b5 b6 b7 b8).bind fun cG=>
  some ((cG.1.1,()),(((),cG.2.1.2.1,(),(),(),cG.2.1.2.2.2.2.2.1,(),(),(),(),cG.2.1.2.2.2.2.2.2.2.2.2.2.1,()),cG.2.2.1,cG.2.2.2.1,(),(),(),(),cG.2.2.2.2.2.2.2.2.1,(),cG.2.2.2.2.1,cG.2.2.2.2.2.1,cG.2.2.2.2.2.2.1,cG.2.2.2.2.2.2.2.1,cG.2.2.2.2.2.2.2.2.2.1,())))
 (cond (p1.1==11)
  ((SR p1.2.2.1 p1.2.2.2.1 AE AZ AM b1 b2 b3 b4 b5 b6 b7 b8).bind fun so=>
  some ((so.1.1,()),(((),so.2.1.2.1,(),(),(),so.2.1.2.2.2.2.2.1,(),(),(),(),so.2.1.2.2.2.2.2.2.2.2.2.2.1,()),so.2.2.1,so.2.2.2.1,(),(),(),(),so.2.2.2.2.2.2.2.2.1,(),so.2.2.2.2.1,so.2.2.2.2.2.1,so.2.2.2.2.2.2.1,so.2.2.2.2.2.2.2.1,so.2.2.2.2.2.2.2.2.2.1,())))
 (cond (p1.1==12)
  ((I6 AE AZ AM b1 b2 b3 b4 b5 b6 b7 b8).bind fun lX=>
  some ((lX.1.1,()),(((),lX.2.1.2.1,(),(),(),lX.2.1.2.2.2.2.2.1,(),(),(),(),lX.2.1.2.2.2.2.2.2.2.2.2.2.1,()),lX.2.2.1,lX.2.2.2.1,(),(),(),(),lX.2.2.2.2.2.2.2.2.1,(),lX.2.2.2.2.1,lX.2.2.2.2.2.2.2.2.2.2.1,lX.2.2.2.2.2.2.1,lX.2.2.2.2.2.2.2.2.2.2.2.1,lX.2.2.2.2.2.2.2.2.2.1,())))
 (cond (p1.1==13)
  ((V4 (b1,AE,()) (b4,AZ,()) p1.2.1).bind fun u42=>
  (KF u42.1.1.2.1).bind fun u43=>
  some ((u43.1.1,()),(((),AE,(),(),(),u42.1.1.1.2.1,(),(),(),(),AM,()),b1,b2,(),(),(),(),b7,(),b3,u42.2.1,b5,b6,b8,())))
 (cond (p1.1==14)
  ((Mt p1.2.1 p1.2.2.1 AE AZ AM b1 b2 b3 b4 b5 b6 b7 b8).bind fun ql=>
  some ((ql.1.1,()),(((),ql.2.1.2.1,(),(),(),ql.2.1.2.2.2.2.2.1,(),(),(),(),ql.2.1.2.2.2.2.2.2.2.2.2.2.1,()),ql.2.2.1,ql.2.2.2.1,(),(),(),(),ql.2.2.2.2.2.2.2.2.1,(),ql.2.2.2.2.1,ql.2.2.2.2.2.1,ql.2.2.2.2.2.2.1,ql.2.2.2.2.2.2.2.1,ql.2.2.2.2.2.2.2.2.2.1,())))
 (cond (p1.1==16)
  ((Ot p1.2.1 AE AZ AM b1 b2 b3 b4 b5 b6 b7 b8).bind fun qp=>
  some ((qp.1.1,()),(((),qp.2.1.2.1,(),(),(),qp.2.1.2.2.2.2.2.1,(),(),(),(),qp.2.1.2.2.2.2.2.2.2.2.2.2.1,()),qp.2.2.1,qp.2.2.2.1,(),(),(),(),qp.2.2.2.2.2.2.2.2.1,(),qp.2.2.2.2.1,qp.2.2.2.2.2.1,qp.2.2.2.2.2.2.1,qp.2.2.2.2.2.2.2.1,qp.2.2.2.2.2.2.2.2.2.1,())))
 ((Ay p1.2.1 0 (AS ((b5.length:Int)-1))).bind fun u53=>
 cond (!u53.1.1)
  (some ((2,()),(((),AE,(),(),(),AZ,(),(),(),(),AM,()),b1,b2,(),(),(),(),b7,(),b3,b4,b5,b6,b8,())))
 ((FA p1.2.1 (AS (p1.2.1+1)) b5).bind fun u54=>
 some ((0,()),(((),AE,(),(),(),AZ,(),(),(),(),AM,()),b1,b2,(),(),(),(),b7,(),b3,b4,u54.2.2.1,b6,b8,()))))))))))))))))))
end
end Go.M
