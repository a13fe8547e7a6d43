/- What each function computes, printed by a program out of the translation; what is printed is checked in the equations. -/
import Derived.Test.YtbjkhapllnkhfaaGreatDoorAF1
set_option linter.unusedVariables false
set_option linter.unusedSimpArgs false
set_option linter.unusedSectionVars false
set_option synthInstance.maxSize 4000
set_option synthInstance.maxHeartbeats 400000
namespace Go.M
open Go.Fw
noncomputable section
abbrev AFg:Type:=ABw×Unit
def xg(p0:AAO):Option AFg:=
 some (((decide ((p0.length:Int)>1048576)),()),())
abbrev iQ:Type:=ADC×AD_
abbrev eu:Type:=List Int->Int->Int->Option iQ
def fh(R3:eu)(t0:AAO)(t3 t4:Int):Option iQ:=
 cond ((decide (t4<(t0.length:Int))))
  (cond (decide (t4<4000))
   (if(0:Int)<=t4/\t4<(t0.length:Int)then(
   R3 t0 (jq .i64 (AQ ((AQ ((AQ (t3*131))+(AQ ((t0.getD (t4.toNat) 0)))))+7)) 1073741823) (AQ (t4+1)))else none)
  (some (((),()),((t0,0,t3,()),()))))
 (some (((),()),((t0,0,t3,()),())))
def SH:Nat->eu
 |0=>default
 |n+1=>fh (SH n)
def gb(R3:eu)(p0:AAO):Option iQ:=
 R3 p0 (AQ (17817+(p0.length:Int))) 0
def iM:=gb (SH AU)
abbrev yW:Type:=ACJ×AD_
def NP(AG:AAO)(AF AW:Int):Option yW:=
 let x2:Int:=AQ ((AQ (AW*6364136223846793005))+1442695040888963407)
 let x3:Int:=ARv .i64 (x2.fdiv (2^33)) (x2.fdiv (2^45))
 cond ((decide (AF<(AG.length:Int))))
  (if(0:Int)<=AF/\AF<(AG.length:Int)then(
  some ((jq .i64 (AQ ((jq .i64 x3 255)+(AQ ((AG.getD (AF.toNat) 0))))) 255,()),((AG,AQ (AF+1),x2,()),())))else none)
 (some ((jq .i64 x3 255,()),((AG,AF,x2,()),())))
abbrev HO:Type:=ACJ×AD_
def AJ(p1:Int)(AG:AAO)(AF AW:Int):Option HO:=
 cond (decide (p1<=0))
  (some ((0,()),((AG,AF,AW,()),())))
 (cond (decide (p1<=256))
  ((NP AG AF AW).bind fun u1=>
  if p1=0 then none else(
  some ((u1.1.1.tmod p1,()),((u1.2.1.1,u1.2.1.2.1,u1.2.1.2.2.1,()),()))))
 ((NP AG AF AW).bind fun u2=>
 (NP u2.2.1.1 u2.2.1.2.1 u2.2.1.2.2.1).bind fun u3=>
 (NP u3.2.1.1 u3.2.1.2.1 u3.2.1.2.2.1).bind fun u4=>
 (NP u4.2.1.1 u4.2.1.2.1 u4.2.1.2.2.1).bind fun u5=>
 if p1=0 then none else(
 some ((((AQ ((AQ ((AQ ((AQ (u2.1.1*16777216))+(AQ (u3.1.1*65536))))+(AQ (u4.1.1*256))))+u5.1.1)).tmod p1),()),((u5.2.1.1,u5.2.1.2.1,u5.2.1.2.2.1,()),())))))
abbrev Ly:Type:=ABw×AD_
def Av(p1:Int)(AG:AAO)(AF AW:Int):Option Ly:=
 (AJ p1 AG AF AW).bind fun u1=>
 some ((u1.1.1==0,()),((u1.2.1.1,u1.2.1.2.1,u1.2.1.2.2.1,()),()))
abbrev S1:Type:=AEA×AH4
abbrev Ro:Type:=Int->Int->List Int->Int->Int->Int->List Int->Int->List Int->Option S1
def Ut(R4:Ro)(t4 t5:Int)(AG:AAO)(AF AW A_:Int)(b2:AAO)(kF:Int)(b4:AAO):Option S1:=
 cond (decide (t5<t4))
  ((AJ 5 AG AF AW).bind fun u3=>
  if b4.length+1<=C7 then(
  R4 t4 (AQ (t5+1)) u3.2.1.1 u3.2.1.2.1 u3.2.1.2.2.1 A_ b2 kF (b4++[u3.1.1]))else none)
 ((Av 2 AG AF AW).bind fun u5=>
 cond (u5.1.1)
  (some ((((),2,()),()),((u5.2.1.1,u5.2.1.2.1,u5.2.1.2.2.1,()),b4,())))
 (some ((((),kF,()),()),((u5.2.1.1,u5.2.1.2.1,u5.2.1.2.2.1,()),b4,()))))
def JV:Nat->Ro
 |0=>default
 |n+1=>Ut (JV n)
def UR(R4:Ro)(AG:AAO)(AF AW:Int):Option S1:=
 (AJ 3 AG AF AW).bind fun u1=>
 (AJ 5 u1.2.1.1 u1.2.1.2.1 u1.2.1.2.2.1).bind fun u2=>
 R4 (AQ (3+u2.1.1)) 0 u2.2.1.1 u2.2.1.2.1 u2.2.1.2.2.1 0 [] (AQ (1+u1.1.1)) []
def Mj:=UR (JV AU)
abbrev q6:Type:=ACJ×AD_
def Ch(p1 AG:AAO)(AF AW:Int):Option q6:=
 (AJ (p1.length:Int) AG AF AW).bind fun u1=>
 if(0:Int)<=u1.1.1/\u1.1.1<(p1.length:Int)then(
 some (((p1.getD (u1.1.1.toNat) 0),()),((u1.2.1.1,u1.2.1.2.1,u1.2.1.2.2.1,()),())))else none
abbrev fP:Type:=AEA×AH4
def Tu(AG:AAO)(AF AW:Int):Option fP:=
 (Mj AG AF AW).bind fun u1=>
 (AJ 20 u1.2.1.1 u1.2.1.2.1 u1.2.1.2.2.1).bind fun u2=>
 cond (u2.1.1==0)
  ((Ch [0,4,5] u2.2.1.1 u2.2.1.2.1 u2.2.1.2.2.1).bind fun u3=>
  some ((((),u3.1.1,()),()),((u3.2.1.1,u3.2.1.2.1,u3.2.1.2.2.1,()),u1.2.2.1,())))
 (cond (u2.1.1==1)
  ((Ch [(-1),7,8] u2.2.1.1 u2.2.1.2.1 u2.2.1.2.2.1).bind fun u4=>
  if(0:Int)<=(0:Int)/\(0:Int)<(u1.2.2.1.length:Int)then(
  some ((((),u1.1.1.2.1,()),()),((u4.2.1.1,u4.2.1.2.1,u4.2.1.2.2.1,()),(u1.2.2.1.set 0 u4.1.1),())))else none)
 (cond (u2.1.1==2)
  ((Ch [0,8,9] u2.2.1.1 u2.2.1.2.1 u2.2.1.2.2.1).bind fun u6=>
  if(0:Int)<=u6.1.1/\u6.1.1<=u6.1.1/\u6.1.1<=(C7:Int)then(
  some ((((),u1.1.1.2.1,()),()),((u6.2.1.1,u6.2.1.2.1,u6.2.1.2.2.1,()),(List.replicate (u6.1.1.toNat) 0),())))else none)
 (some ((((),u1.1.1.2.1,()),()),((u2.2.1.1,u2.2.1.2.1,u2.2.1.2.2.1,()),u1.2.2.1,())))))
abbrev ZX:Type:=ADC×ADn
def DV(p0:AAO):Option ZX:=
 if 0+p0.length<=C7 then(
 some (((),()),(p0,())))else none
abbrev pt:Type:=AEA×ADn
def SY(p0:ABt):Option pt:=
 (DV p0.1).bind fun u1=>
 some ((((),p0.2.1,()),()),(u1.2.1,()))
abbrev GK:Type:=ABw×Unit
def BE(p0 p1 p2:Int):Option GK:=
 cond (decide (p0>=p1))
  (some ((decide (p0<=p2),()),()))
 (some ((false,()),()))
abbrev Y_:Type:=ABw×Unit
abbrev XE:Type:=List Int->Int->Int->List Int->Int->Option Y_
def Zw(R2:XE)(t6:AAO)(t7 t8:Int)(AG:AAO)(AF:Int):Option Y_:=
 cond (decide (t8<t7))
  (if(0:Int)<=t8/\t8<(t6.length:Int)then(
  (BE (t6.getD (t8.toNat) 0) 0 7).bind fun u2=>
  cond (!u2.1.1)
   (some ((false,()),()))
  (R2 t6 t7 (AQ (t8+1)) AG AF))else none)
 ((BE (AG.length:Int) 1 8).bind fun u3=>
 cond (u3.1.1)
  ((BE AF 1 4).bind fun u4=>
  some ((u4.1.1,()),()))
 (some ((false,()),())))
def Mb:Nat->XE
 |0=>default
 |n+1=>Zw (Mb n)
def Z5(R2:XE)(p0:ABt):Option Y_:=
 R2 p0.1 (p0.1.length:Int) 0 p0.1 p0.2.1
def FT:=Z5 (Mb AU)
abbrev cL:Type:=ABw×Unit
abbrev ZS:Type:=List Int->Int->List Int->Int->Int->Option cL
def S7(R2:ZS)(t0:AAO)(t1:Int)(t7:AAO)(t8 t9:Int):Option cL:=
 cond (decide (t9<t8))
  (if(0:Int)<=t9/\t9<(t7.length:Int)then(
  let x1:Int:=(t7.getD (t9.toNat) 0)
  (BE x1 0 t1).bind fun u2=>
  cond (!u2.1.1)
   (some ((false,()),()))
  (cond (decide (t9>0))
   (if(0:Int)<=AQ (t9-1)/\AQ (t9-1)<(t0.length:Int)then(
   cond (decide ((t0.getD ((AQ (t9-1)).toNat) 0)>=x1))
    (some ((false,()),()))
   (R2 t0 t1 t7 t8 (AQ (t9+1))))else none)
  (R2 t0 t1 t7 t8 (AQ (t9+1)))))else none)
 (some ((true,()),()))
def K_:Nat->ZS
 |0=>default
 |n+1=>S7 (K_ n)
def bZ(R2:ZS)(p0:AAO)(p1:Int):Option cL:=
 R2 p0 p1 p0 (p0.length:Int) 0
def ak:=bZ (K_ AU)
abbrev wU:Type:=ABw×Unit
def EP(p0:ABt)(p1:AAO):Option wU:=
 (FT (p0.1,p0.2.1,())).bind fun u1=>
 cond (u1.1.1)
  ((ak p1 (AQ ((p0.1.length:Int)-1))).bind fun u3=>
  some ((u3.1.1,()),()))
 (some ((false,()),()))
abbrev wM:Type:=ABw×Unit
def IP(p0:Int):Option wM:=
 (BE p0 1 30).bind fun u1=>
 some ((u1.1.1,()),())
abbrev AAy:Type:=ABw×Unit
def bj(p0:Int):Option AAy:=
 (BE p0 1 60).bind fun u1=>
 some ((u1.1.1,()),())
abbrev wy:Type:=ABw×Unit
def DO(p0:Int):Option wy:=
 (IP (AQ (p0.tdiv 4294967296))).bind fun u2=>
 cond (u2.1.1)
  ((bj (p0.tmod 4294967296)).bind fun u3=>
  some ((u3.1.1,()),()))
 (some ((false,()),()))
abbrev yg:Type:=ABw×Unit
def G1(p0:ABG):Option yg:=
 some (((decide ((p0.length:Int)<=40)),()),())
abbrev vx:Type:=ACJ×Unit
def Es(p0:Int):Option vx:=
 (DO p0).bind fun u1=>
 cond (!u1.1.1)
  (some ((0,()),()))
 (some (((AQ (p0.tdiv 4294967296)),()),()))
abbrev xC:Type:=ABw×Unit
def NW(p0:AD4):Option xC:=
 (BE p0.2.1 0 30).bind fun u1=>
 cond (u1.1.1)
  (cond (p0.2.1==0)
   (cond (!p0.2.2.1)
    ((DO p0.1).bind fun u2=>
    cond (u2.1.1)
     ((G1 p0.2.2.2.1).bind fun u3=>
     some ((u3.1.1,()),()))
    (some ((false,()),())))
   (cond (decide (p0.2.1>0))
    ((DO p0.1).bind fun u4=>
    cond (u4.1.1)
     (cond (p0.2.2.2.1==[])
      ((G1 p0.2.2.2.1).bind fun u5=>
      some ((u5.1.1,()),()))
     (some ((false,()),())))
    (some ((false,()),())))
   ((DO p0.1).bind fun u6=>
   cond (u6.1.1)
    (some ((false,()),()))
   (some ((false,()),())))))
  ((Es p0.1).bind fun u7=>
  let x8:Bool:=decide (p0.2.1>u7.1.1)
  cond (!p0.2.2.1)
   ((DO p0.1).bind fun u9=>
   cond (u9.1.1)
    (cond (x8)
     ((G1 p0.2.2.2.1).bind fun EJ=>
     some ((EJ.1.1,()),()))
    (some ((false,()),())))
   (some ((false,()),())))
  (cond (decide (p0.2.1>0))
   ((DO p0.1).bind fun FY=>
   cond (FY.1.1)
    (cond (x8)
     (cond (p0.2.2.2.1==[])
      ((G1 p0.2.2.2.1).bind fun Jq=>
      some ((Jq.1.1,()),()))
     (some ((false,()),())))
    (some ((false,()),())))
   (some ((false,()),())))
  ((DO p0.1).bind fun L0=>
  cond (L0.1.1)
   (cond (x8)
    (some ((false,()),()))
   (some ((false,()),())))
  (some ((false,()),()))))))
 (cond (!p0.2.2.1)
  ((DO p0.1).bind fun Oq=>
  cond (Oq.1.1)
   (some ((false,()),()))
  (some ((false,()),())))
 (cond (decide (p0.2.1>0))
  ((DO p0.1).bind fun jR=>
  cond (jR.1.1)
   (some ((false,()),()))
  (some ((false,()),())))
 ((DO p0.1).bind fun u16=>
 cond (u16.1.1)
  (some ((false,()),()))
 (some ((false,()),())))))
abbrev XK:Type:=ABw×Unit
abbrev Vt:Type:=AAj->Int->Int->Option XK
def P8(R2:Vt)(t5:AAj)(t6 t7:Int):Option XK:=
 cond (decide (t7<t6))
  (if(0:Int)<=t7/\t7<(t5.length:Int)then(
  (NW ((t5.getD (t7.toNat) (0,0,false,[],())).1,(t5.getD (t7.toNat) (0,0,false,[],())).2.1,(t5.getD (t7.toNat) (0,0,false,[],())).2.2.1,(t5.getD (t7.toNat) (0,0,false,[],())).2.2.2.1,())).bind fun u1=>
  cond (!u1.1.1)
   (some ((false,()),()))
  (R2 t5 t6 (AQ (t7+1))))else none)
 (some ((true,()),()))
def JB:Nat->Vt
 |0=>default
 |n+1=>P8 (JB n)
def YH(R2:Vt)(p0:AAj):Option XK:=
 R2 p0 (p0.length:Int) 0
def P_:=YH (JB AU)
abbrev Ri:Type:=ABw×Unit
abbrev QI:Type:=AAj->AAj->Int->Int->Option Ri
def M3(R2:QI)(t0 t5:AAj)(t6 t7:Int):Option Ri:=
 cond (decide (t7<t6))
  (if(0:Int)<=t7/\t7<(t5.length:Int)then(
  cond (decide (t7>0))
   (if(0:Int)<=AQ (t7-1)/\AQ (t7-1)<(t0.length:Int)then(
   cond (decide (((t0.getD ((AQ (t7-1)).toNat) (0,0,false,[],())).1)>=((t5.getD (t7.toNat) (0,0,false,[],())).1)))
    (some ((false,()),()))
   (R2 t0 t5 t6 (AQ (t7+1))))else none)
  (R2 t0 t5 t6 (AQ (t7+1))))else none)
 (some ((true,()),()))
def Gr:Nat->QI
 |0=>default
 |n+1=>M3 (Gr n)
def Tq(R2:QI)(p0:AAj):Option Ri:=
 R2 p0 p0 (p0.length:Int) 0
def Ll:=Tq (Gr AU)
abbrev yI:Type:=ABw×Unit
def Fq(p0:ACo):Option yI:=
 cond ((decide ((p0.1.length:Int)>200)))
  (some ((false,()),()))
 (cond (decide ((p0.2.1.length:Int)>20))
  (some ((false,()),()))
 ((P_ p0.1).bind fun u3=>
 cond (u3.1.1)
  ((P_ p0.2.1).bind fun u4=>
  cond (u4.1.1)
   ((Ll p0.1).bind fun u5=>
   cond (u5.1.1)
    ((BE p0.2.2.1 0 30).bind fun u6=>
    some ((u6.1.1,()),()))
   (some ((false,()),())))
  (some ((false,()),())))
 (some ((false,()),()))))
abbrev Nl:Type:=ACJ×Unit
abbrev MT:Type:=List Int->Int->Int->Int->Option Nl
def Qc(R2:MT)(t0:AAO)(t1 t7 t8:Int):Option Nl:=
 cond (decide (t8<t7))
  (if(0:Int)<=t8/\t8<(t0.length:Int)then(
  cond (t1==(t0.getD (t8.toNat) 0))
   (some ((t8,()),()))
  (R2 t0 t1 t7 (AQ (t8+1))))else none)
 (some (((-1),()),()))
def Gw:Nat->MT
 |0=>default
 |n+1=>Qc (Gw n)
def Qi(R2:MT)(p0:AAO)(p1:Int):Option Nl:=
 R2 p0 p1 (p0.length:Int) 0
def Qd:=Qi (Gw AU)
abbrev dE:Type:=ABw×Unit
def Bt(p0:AAO)(p1:Int):Option dE:=
 (Qd p0 p1).bind fun u1=>
 some ((decide (u1.1.1>=0),()),())
abbrev zM:Type:=ABw×Unit
def UA(p0:Int)(p1:ADn):Option zM:=
 (Bt p1.1 p0).bind fun u1=>
 some ((!u1.1.1,()),())
abbrev FC:Type:=ACJ×Unit
abbrev Ew:Type:=List Int->(ADn×Unit)->Int->Int->Option FC
def ES(R2:Ew)(t0:AAO)(t1:ADn×Unit)(t7 t8:Int):Option FC:=
 cond (decide (t8<t7))
  (if(0:Int)<=t8/\t8<(t0.length:Int)then(
  (UA (t0.getD (t8.toNat) 0) t1.1).bind fun u2=>
  cond (u2.1.1)
   (some ((t8,()),()))
  (R2 t0 (t1.1,()) t7 (AQ (t8+1))))else none)
 (some (((-1),()),()))
def CI:Nat->Ew
 |0=>default
 |n+1=>ES (CI n)
def EO(R2:Ew)(p0:AAO)(p1:ADn×Unit):Option FC:=
 R2 p0 (p1.1,()) (p0.length:Int) 0
def D1:=EO (CI AU)
abbrev Eu:Type:=ADC×AIb
abbrev El:Type:=(ADn×Unit)->Int->Int->List Int->Option Eu
def EI(R5:El)(t1:ADn×Unit)(t5 t6:Int)(b0:AAO):Option Eu:=
 cond ((decide (t6<(b0.length:Int))))
  (if(0:Int)<=t6/\t6<(b0.length:Int)then(
  let x3:Int:=(b0.getD (t6.toNat) 0)
  (UA x3 t1.1).bind fun u4=>
  cond (!u4.1.1)
   (if(0:Int)<=t5/\t5<(b0.length:Int)then(
   R5 (t1.1,()) (AQ (t5+1)) (AQ (t6+1)) (b0.set (t5.toNat) x3))else none)
  (R5 (t1.1,()) t5 (AQ (t6+1)) b0))else none)
 (if(0:Int)<=t5/\t5<=(b0.length:Int)/\(b0.length:Int)<=(b0.length:Int)then(
 let x6:AAO:=(b0.take (t5.toNat)++List.replicate (((b0.length:Int).toNat)-(t5.toNat)) 0++b0.drop ((t5.toNat)+(((b0.length:Int).toNat)-(t5.toNat))))
 if(0:Int)<=(0:Int)/\(0:Int)<=t5/\t5<=(x6.length:Int)then(
 some (((),()),((),((x6.drop 0).take ((t5.toNat)-0)),())))else none)else none)
def B9:Nat->El
 |0=>default
 |n+1=>EI (B9 n)
def EH(R5:El)(p1:ADn×Unit)(b0:AAO):Option Eu:=
 (D1 b0 (p1.1,())).bind fun u1=>
 cond (u1.1.1==(-1))
  (some (((),()),((),b0,())))
 (R5 (p1.1,()) u1.1.1 (AQ (u1.1.1+1)) b0)
def C3:=EH (B9 AU)
abbrev ACI:Type:=ADC×ADn
def Oj(p0 p1:AAO):Option ACI:=
 (DV p0).bind fun u1=>
 (C3 ((p1,()),()) u1.2.1).bind fun u2=>
 some (((),()),(u2.2.2.1,()))
abbrev F9:Type:=ABw×Unit
def C4(p0:ABx)(p1:Int):Option F9:=
 (Oj [p1] p0.2.2.2.1).bind fun u1=>
 some ((decide ((u1.2.1.length:Int)>0),()),())
abbrev fE:Type:=ACJ×Unit
abbrev bp:Type:=List Int->Int->Int->List Int->Int->List Int->Option fE
def eI(R5:bp)(t13:AAO)(t14 t15:Int)(AG:AAO)(AF:Int)(b1:AAO):Option fE:=
 cond (decide (t15<t14))
  (if(0:Int)<=t15/\t15<(t13.length:Int)then(
  let x2:Int:=(t13.getD (t15.toNat) 0)
  if(0:Int)<=x2/\x2<(AG.length:Int)then(
  (Bt b1 (AG.getD (x2.toNat) 0)).bind fun u4=>
  cond (!u4.1.1)
   (if(0:Int)<=x2/\x2<(AG.length:Int)then(
   if b1.length+1<=C7 then(
   R5 t13 t14 (AQ (t15+1)) AG AF (b1++[(AG.getD (x2.toNat) 0)]))else none)else none)
  (R5 t13 t14 (AQ (t15+1)) AG AF b1))else none)else none)
 (some (((b1.length:Int),()),()))
def Qa:Nat->bp
 |0=>default
 |n+1=>eI (Qa n)
def dG(R5:bp)(p0:ABt)(p1:AAO):Option fE:=
 (EP (p0.1,p0.2.1,()) p1).bind fun u1=>
 cond (!u1.1.1)
  (some (((-1),()),()))
 (R5 p1 (p1.length:Int) 0 p0.1 p0.2.1 [])
def dI:=dG (Qa AU)
abbrev gq:Type:=ABw×Unit
def HP(p0:ABt)(p1:AAO):Option gq:=
 (EP (p0.1,p0.2.1,()) p1).bind fun u1=>
 cond (u1.1.1)
  ((dI (p0.1,p0.2.1,()) p1).bind fun u2=>
  some (((decide (u2.1.1>=p0.2.1)),()),()))
 (some ((false,()),()))
abbrev O9:Type:=ABw×Unit
abbrev NX:Type:=ABx->AAZ->Int->Int->Option O9
def K6(R4:NX)(t0:ABx)(t32:AAZ)(t33 t34:Int):Option O9:=
 cond (decide (t34<t33))
  (if(0:Int)<=t34/\t34<(t32.length:Int)then(
  (Fq ((t32.getD (t34.toNat) ([],[],0,())).1,(t32.getD (t34.toNat) ([],[],0,())).2.1,(t32.getD (t34.toNat) ([],[],0,())).2.2.1,())).bind fun u5=>
  cond (!u5.1.1)
   (some ((false,()),()))
  ((C4 t0 t34).bind fun u6=>
  cond (u6.1.1)
   (cond (decide ((AQ ((AQ ((((t32.getD (t34.toNat) ([],[],0,())).1).length:Int)+(((t32.getD (t34.toNat) ([],[],0,())).2.1).length:Int)))+((t32.getD (t34.toNat) ([],[],0,())).2.2.1)))>0))
    (some ((false,()),()))
   (R4 t0 t32 t33 (AQ (t34+1))))
  (R4 t0 t32 t33 (AQ (t34+1)))))else none)
 (cond (t0.2.2.2.2.2.2.2.2.2.2.1)
  (some ((true,()),()))
 ((HP (t0.1,t0.2.1,()) t0.2.2.2.1).bind fun Jq=>
 some ((!Jq.1.1,()),())))
def Fg:Nat->NX
 |0=>default
 |n+1=>K6 (Fg n)
def RT(R4:NX)(p0:ABx):Option O9:=
 cond (((p0.2.2.1.length:Int) !=(p0.1.length:Int)))
  (some ((false,()),()))
 ((EP (p0.1,p0.2.1,()) p0.2.2.2.1).bind fun u3=>
 cond (!u3.1.1)
  (some ((false,()),()))
 (R4 p0 p0.2.2.1 (p0.2.2.1.length:Int) 0))
def MI:=RT (Fg AU)
abbrev ABS:Type:=ABw×Unit
def ik(p0:ABt)(p1:AIH):Option ABS:=
 (HP (p0.1,p0.2.1,()) p1.1).bind fun u1=>
 cond (u1.1.1)
  ((BE p1.2.2.1 0 60).bind fun u2=>
  cond (u2.1.1)
   (cond (p1.2.1)
    (some ((true,()),()))
   (some ((p1.2.2.1==0,()),())))
  (some ((false,()),())))
 (some ((false,()),()))
abbrev RP:Type:=ABw×Unit
abbrev fF:Type:=AAP->Int->Int->List Int->Int->AAP->Int->Option RP
def Wn(R2:fF)(t9:AAP)(t10 t11:Int)(AG:AAO)(AF:Int)(BM:AAP)(A_:Int):Option RP:=
 cond (decide (t11<t10))
  (if(0:Int)<=t11/\t11<(t9.length:Int)then(
  (ik (AG,AF,()) ((t9.getD (t11.toNat) ([],false,0,())).1,(t9.getD (t11.toNat) ([],false,0,())).2.1,(t9.getD (t11.toNat) ([],false,0,())).2.2.1,())).bind fun u1=>
  cond (!u1.1.1)
   (some ((false,()),()))
  (cond (((t9.getD (t11.toNat) ([],false,0,())).2.1))
   (cond (t11==(AQ ((BM.length:Int)-1)))
    (some ((false,()),()))
   (cond (decide (t11>0))
    (if(0:Int)<=AQ (t11-1)/\AQ (t11-1)<(BM.length:Int)then(
    cond (!((BM.getD ((AQ (t11-1)).toNat) ([],false,0,())).2.1))
     (some ((false,()),()))
    (R2 t9 t10 (AQ (t11+1)) AG AF BM A_))else none)
   (R2 t9 t10 (AQ (t11+1)) AG AF BM A_)))
  (R2 t9 t10 (AQ (t11+1)) AG AF BM A_)))else none)
 (cond (A_==0)
  ((FT (AG,AF,())).bind fun u5=>
  cond (u5.1.1)
   (cond ((decide ((BM.length:Int)<=30)))
    (some ((true,()),()))
   (some ((false,()),())))
  (some ((false,()),())))
 ((Es A_).bind fun u7=>
 (BE u7.1.1 1 (BM.length:Int)).bind fun u8=>
 (FT (AG,AF,())).bind fun u9=>
 cond (u9.1.1)
  (cond ((decide ((BM.length:Int)<=30)))
   (some ((u8.1.1,()),()))
  (some ((false,()),())))
 (some ((false,()),()))))
def Lw:Nat->fF
 |0=>default
 |n+1=>Wn (Lw n)
def fZ(R2:fF)(p0:ABt)(p1:AB_):Option RP:=
 R2 p1.1 (p1.1.length:Int) 0 p0.1 p0.2.1 p1.1 p1.2.1
def L3(p0:ABt)(p1:AB_):Option RP:=fZ (Lw AU) p0 p1
abbrev xR:Type:=ACJ×Unit
def gu(p0:Bool):Option xR:=
 cond (p0)
  (some ((1,()),()))
 (some ((0,()),()))
abbrev OP:Type:=ABw×Unit
abbrev XL:Type:=Int->ACa->Int->Int->List Int->Int->Int->ACa->Option OP
def Z3(R3:XL)(t5:Int)(t9:ACa)(t10 t11:Int)(AG:AAO)(AF BM:Int)(A_:ACa):Option OP:=
 cond (decide (t11<t10))
  (if(0:Int)<=t11/\t11<(t9.length:Int)then(
  (G1 ((t9.getD (t11.toNat) ([],[],false,())).1)).bind fun u3=>
  cond (!u3.1.1)
   (some ((false,()),()))
  ((EP (AG,AF,()) ((t9.getD (t11.toNat) ([],[],false,())).2.1)).bind fun u4=>
  cond (!u4.1.1)
   (some ((false,()),()))
  ((HP (AG,AF,()) ((t9.getD (t11.toNat) ([],[],false,())).2.1)).bind fun u6=>
  cond (((t9.getD (t11.toNat) ([],[],false,())).2.2.1) !=u6.1.1)
   (some ((false,()),()))
  ((gu (!((t9.getD (t11.toNat) ([],[],false,())).2.2.1))).bind fun u8=>
  R3 (AQ (t5+u8.1.1)) t9 t10 (AQ (t11+1)) AG AF BM A_))))else none)
 ((FT (AG,AF,())).bind fun u9=>
 cond (u9.1.1)
  ((IP BM).bind fun EJ=>
  cond (EJ.1.1)
   (cond ((decide ((A_.length:Int)<=60)))
    (some ((decide (t5<=6),()),()))
   (some ((false,()),())))
  (some ((false,()),())))
 (some ((false,()),())))
def NH:Nat->XL
 |0=>default
 |n+1=>Z3 (NH n)
def Zx(R3:XL)(p0:ABt)(p1:ACj):Option OP:=
 R3 0 p1.2.1 (p1.2.1.length:Int) 0 p0.1 p0.2.1 p1.1 p1.2.1
def IM:=Zx (NH AU)
abbrev kt:Type:=ABw×Unit
def KM(p0:ABx)(p1:Int):Option kt:=
 (BE p1 1 (p0.2.2.2.2.1.length:Int)).bind fun u2=>
 some ((u2.1.1,()),())
abbrev Jn:Type:=ABw×Unit
abbrev MR:Type:=ABx->AAw->Int->Int->Option Jn
def Ko(R2:MR)(t0:ABx)(t8:AAw)(t9 t10:Int):Option Jn:=
 cond (decide (t10<t9))
  (if(0:Int)<=t10/\t10<(t8.length:Int)then(
  (IM (t0.1,t0.2.1,()) ((t8.getD (t10.toNat) (0,[],())).1,(t8.getD (t10.toNat) (0,[],())).2.1,())).bind fun u2=>
  cond (!u2.1.1)
   (some ((false,()),()))
  ((KM t0 ((t8.getD (t10.toNat) (0,[],())).1)).bind fun u4=>
  cond (!u4.1.1)
   (some ((false,()),()))
  (cond (decide (t10>0))
   (if(0:Int)<=AQ (t10-1)/\AQ (t10-1)<(t0.2.2.2.2.2.2.1.length:Int)then(
   cond (decide (((t0.2.2.2.2.2.2.1.getD ((AQ (t10-1)).toNat) (0,[],())).1)>=((t8.getD (t10.toNat) (0,[],())).1)))
    (some ((false,()),()))
   (R2 t0 t8 t9 (AQ (t10+1))))else none)
  (R2 t0 t8 t9 (AQ (t10+1))))))else none)
 (some ((decide ((t0.2.2.2.2.2.2.1.length:Int)<=4),()),()))
def Ez:Nat->MR
 |0=>default
 |n+1=>Ko (Ez n)
def Qs(R2:MR)(p0:ABx):Option Jn:=
 R2 p0 p0.2.2.2.2.2.2.1 (p0.2.2.2.2.2.2.1.length:Int) 0
def LV(p0:ABx):Option Jn:=Qs (Ez AU) p0
abbrev AAX:Type:=ACJ×Unit
def TU(p0:Int):Option AAX:=
 (DO p0).bind fun u1=>
 cond (!u1.1.1)
  (some ((0,()),()))
 (some ((p0.tmod 4294967296,()),()))
abbrev wI:Type:=ACJ×Unit
def U5(p0:ABv):Option wI:=
 cond ((p0.2.2.2.1.length:Int)==0)
  (some ((0,()),()))
 (let x2:Int:=(p0.2.2.2.1.length:Int)
 if(0:Int)<=AQ (x2-1)/\AQ (x2-1)<(p0.2.2.2.1.length:Int)then(
 (TU ((p0.2.2.2.1.getD ((AQ (x2-1)).toNat) (0,0,false,[],())).1)).bind fun u4=>
 some ((u4.1.1,()),()))else none)
abbrev ey:Type:=ABw×Unit
abbrev cH:Type:=AAj->Int->Int->Int->Int->List Int->AAj->Bool->List AAO->Option ey
def Vk(R2:cH)(t6:AAj)(t7 t8 AG AF:Int)(AW:AAO)(BT:AAj)(Be:Bool)(Ai:List AAO):Option ey:=
 cond (decide (t8<t7))
  (if(0:Int)<=t8/\t8<(t6.length:Int)then(
  (NW ((t6.getD (t8.toNat) (0,0,false,[],())).1,(t6.getD (t8.toNat) (0,0,false,[],())).2.1,(t6.getD (t8.toNat) (0,0,false,[],())).2.2.1,(t6.getD (t8.toNat) (0,0,false,[],())).2.2.2.1,())).bind fun u2=>
  cond (!u2.1.1)
   (some ((false,()),()))
  ((Es ((t6.getD (t8.toNat) (0,0,false,[],())).1)).bind fun u4=>
  cond (u4.1.1 !=AF)
   (some ((false,()),()))
  (cond (decide (((t6.getD (t8.toNat) (0,0,false,[],())).2.1)>=AG))
   (some ((false,()),()))
  (R2 t6 t7 (AQ (t8+1)) AG AF AW BT Be Ai))))else none)
 ((Ll BT).bind fun u6=>
 some ((u6.1.1,()),()))
def Mv:Nat->cH
 |0=>default
 |n+1=>Vk (Mv n)
def dW(R2:cH)(p0:ABv):Option ey:=
 R2 p0.2.2.2.1 (p0.2.2.2.1.length:Int) 0 p0.1 p0.2.1 p0.2.2.1 p0.2.2.2.1 p0.2.2.2.2.1 p0.2.2.2.2.2.1
def X6:=dW (Mv AU)
abbrev ed:Type:=ABw×Unit
abbrev bI:Type:=List AAO->Int->Int->List Int->Int->Int->Int->List Int->AAj->Bool->List AAO->Option ed
def U3(R2:bI)(t10:List AAO)(t11 t12:Int)(AG:AAO)(AF BM A_:Int)(Bq:AAO)(Ed:AAj)(Ho:Bool)(F6:List AAO):Option ed:=
 cond (decide (t12<t11))
  (if(0:Int)<=t12/\t12<(t10.length:Int)then(
  (EP (AG,AF,()) (t10.getD (t12.toNat) [])).bind fun u2=>
  cond (!u2.1.1)
   (some ((false,()),()))
  (R2 t10 t11 (AQ (t12+1)) AG AF BM A_ Bq Ed Ho F6))else none)
 (cond (Ho)
  ((U5 (BM,A_,Bq,Ed,Ho,F6,())).bind fun u3=>
  (IP A_).bind fun u4=>
  cond (u4.1.1)
   ((BE BM (AQ (A_+1)) 30).bind fun u5=>
   (FT (AG,AF,())).bind fun u6=>
   cond (u6.1.1)
    (cond (u5.1.1)
     ((EP (AG,AF,()) Bq).bind fun u7=>
     cond (u7.1.1)
      ((X6 (BM,A_,Bq,Ed,Ho,F6,())).bind fun u8=>
      cond (u8.1.1)
       (some ((((F6.length:Int)==u3.1.1),()),()))
      (some ((false,()),())))
     (some ((false,()),())))
    (some ((false,()),())))
   (some ((false,()),())))
  ((FT (AG,AF,())).bind fun EJ=>
  cond (EJ.1.1)
   (some ((false,()),()))
  (some ((false,()),()))))
 ((IP A_).bind fun FY=>
 cond (FY.1.1)
  ((BE BM (AQ (A_+1)) 30).bind fun Jq=>
  (FT (AG,AF,())).bind fun L0=>
  cond (L0.1.1)
   (cond (Jq.1.1)
    ((EP (AG,AF,()) Bq).bind fun Oq=>
    cond (Oq.1.1)
     ((X6 (BM,A_,Bq,Ed,Ho,F6,())).bind fun jR=>
     cond (jR.1.1)
      (some ((((F6.length:Int)==0),()),()))
     (some ((false,()),())))
    (some ((false,()),())))
   (some ((false,()),())))
  (some ((false,()),())))
 ((FT (AG,AF,())).bind fun hO=>
 cond (hO.1.1)
  (some ((false,()),()))
 (some ((false,()),())))))
def M8:Nat->bI
 |0=>default
 |n+1=>U3 (M8 n)
def dx(R2:bI)(p0:ABt)(p1:ABv):Option ed:=
 R2 p1.2.2.2.2.2.1 (p1.2.2.2.2.2.1.length:Int) 0 p0.1 p0.2.1 p1.1 p1.2.1 p1.2.2.1 p1.2.2.2.1 p1.2.2.2.2.1 p1.2.2.2.2.2.1
def Im:=dx (M8 AU)
abbrev Qy:Type:=ACJ×Unit
abbrev UY:Type:=AAP->Int->Int->Option Qy
def QK(R2:UY)(t6:AAP)(t7 t8:Int):Option Qy:=
 cond (decide (t8<t7))
  (if(0:Int)<=t8/\t8<(t6.length:Int)then(
  cond (!((t6.getD (t8.toNat) ([],false,0,())).2.1))
   (some ((AQ (t8+1),()),()))
  (R2 t6 t7 (AQ (t8+1))))else none)
 (some ((0,()),()))
def I2:Nat->UY
 |0=>default
 |n+1=>QK (I2 n)
def X9(R2:UY)(p0:AB_):Option Qy:=
 R2 p0.1 (p0.1.length:Int) 0
def Mk(p0:AB_):Option Qy:=X9 (I2 AU) p0
abbrev Ln:Type:=ABw×Unit
abbrev PA:Type:=ABx->AAx->Int->Int->Option Ln
def L2(R2:PA)(t0:ABx)(t8:AAx)(t9 t10:Int):Option Ln:=
 cond (decide (t10<t9))
  (if(0:Int)<=t10/\t10<(t8.length:Int)then(
  (Im (t0.1,t0.2.1,()) ((t8.getD (t10.toNat) (0,0,[],[],false,[],())).1,(t8.getD (t10.toNat) (0,0,[],[],false,[],())).2.1,(t8.getD (t10.toNat) (0,0,[],[],false,[],())).2.2.1,(t8.getD (t10.toNat) (0,0,[],[],false,[],())).2.2.2.1,(t8.getD (t10.toNat) (0,0,[],[],false,[],())).2.2.2.2.1,(t8.getD (t10.toNat) (0,0,[],[],false,[],())).2.2.2.2.2.1,())).bind fun u2=>
  cond (!u2.1.1)
   (some ((false,()),()))
  (cond (((t8.getD (t10.toNat) (0,0,[],[],false,[],())).1) !=(t0.2.2.2.2.1.length:Int))
   (some ((false,()),()))
  ((Mk (t0.2.2.2.2.1,t0.2.2.2.2.2.1,())).bind fun u6=>
  cond (((t8.getD (t10.toNat) (0,0,[],[],false,[],())).2.1) !=u6.1.1)
   (some ((false,()),()))
  (R2 t0 t8 t9 (AQ (t10+1))))))else none)
 (some ((decide ((t0.2.2.2.2.2.2.2.1.length:Int)<=1),()),()))
def GH:Nat->PA
 |0=>default
 |n+1=>L2 (GH n)
def SC(R2:PA)(p0:ABx):Option Ln:=
 R2 p0 p0.2.2.2.2.2.2.2.1 (p0.2.2.2.2.2.2.2.1.length:Int) 0
def Nn(p0:ABx):Option Ln:=SC (GH AU) p0
abbrev ud:Type:=ABw×Unit
def XW(p0:ADk):Option ud:=
 (BE p0.1 1 31).bind fun u1=>
 cond (u1.1.1)
  ((BE p0.2.1 1 61).bind fun u2=>
  cond (u2.1.1)
   (some ((decide ((p0.2.2.1.length:Int)<=120),()),()))
  (some ((false,()),())))
 (some ((false,()),()))
abbrev N_:Type:=ABw×Unit
abbrev MK:Type:=ABx->AAp->Int->Int->Option N_
def Kl(R2:MK)(t0:ABx)(t8:AAp)(t9 t10:Int):Option N_:=
 cond (decide (t10<t9))
  (if(0:Int)<=t10/\t10<(t8.length:Int)then(
  (XW ((t8.getD (t10.toNat) (0,0,[],())).1,(t8.getD (t10.toNat) (0,0,[],())).2.1,(t8.getD (t10.toNat) (0,0,[],())).2.2.1,())).bind fun u2=>
  cond (!u2.1.1)
   (some ((false,()),()))
  (R2 t0 t8 t9 (AQ (t10+1))))else none)
 (some (((t0.2.2.2.2.2.2.2.2.1.length:Int)==2,()),()))
def Ey:Nat->MK
 |0=>default
 |n+1=>Kl (Ey n)
def QJ(R2:MK)(p0:ABx):Option N_:=
 R2 p0 p0.2.2.2.2.2.2.2.2.1 (p0.2.2.2.2.2.2.2.2.1.length:Int) 0
def La:=QJ (Ey AU)
abbrev MD:Type:=ABw×Unit
abbrev P5:Type:=ABx->AAr->Int->Int->Option MD
def NG(R2:P5)(t0:ABx)(t8:AAr)(t9 t10:Int):Option MD:=
 cond (decide (t10<t9))
  (if(0:Int)<=t10/\t10<(t8.length:Int)then(
  (Es ((t8.getD (t10.toNat) (0,[],false,())).1)).bind fun u3=>
  (KM t0 u3.1.1).bind fun u4=>
  cond (!u4.1.1)
   (some ((false,()),()))
  ((G1 ((t8.getD (t10.toNat) (0,[],false,())).2.1)).bind fun u6=>
  cond (!u6.1.1)
   (some ((false,()),()))
  (cond (decide (t10>0))
   (if(0:Int)<=AQ (t10-1)/\AQ (t10-1)<(t0.2.2.2.2.2.2.2.2.2.1.length:Int)then(
   cond (decide (((t0.2.2.2.2.2.2.2.2.2.1.getD ((AQ (t10-1)).toNat) (0,[],false,())).1)>=((t8.getD (t10.toNat) (0,[],false,())).1)))
    (some ((false,()),()))
   (R2 t0 t8 t9 (AQ (t10+1))))else none)
  (R2 t0 t8 t9 (AQ (t10+1))))))else none)
 (some ((decide ((t0.2.2.2.2.2.2.2.2.2.1.length:Int)<=120),()),()))
def Gv:Nat->P5
 |0=>default
 |n+1=>NG (Gv n)
def Tf(R2:P5)(p0:ABx):Option MD:=
 R2 p0 p0.2.2.2.2.2.2.2.2.2.1 (p0.2.2.2.2.2.2.2.2.2.1.length:Int) 0
def Pr(p0:ABx):Option MD:=Tf (Gv AU) p0
abbrev xp:Type:=ABw×Unit
def D3(p0:ABx):Option xp:=
 (FT (p0.1,p0.2.1,())).bind fun u1=>
 cond (u1.1.1)
  ((MI (p0.1,p0.2.1,p0.2.2.1,p0.2.2.2.1,p0.2.2.2.2.1,p0.2.2.2.2.2.1,p0.2.2.2.2.2.2.1,p0.2.2.2.2.2.2.2.1,p0.2.2.2.2.2.2.2.2.1,p0.2.2.2.2.2.2.2.2.2.1,p0.2.2.2.2.2.2.2.2.2.2.1,())).bind fun u2=>
  cond (u2.1.1)
   ((L3 (p0.1,p0.2.1,()) (p0.2.2.2.2.1,p0.2.2.2.2.2.1,())).bind fun u3=>
   cond (u3.1.1)
    ((LV (p0.1,p0.2.1,p0.2.2.1,p0.2.2.2.1,p0.2.2.2.2.1,p0.2.2.2.2.2.1,p0.2.2.2.2.2.2.1,p0.2.2.2.2.2.2.2.1,p0.2.2.2.2.2.2.2.2.1,p0.2.2.2.2.2.2.2.2.2.1,p0.2.2.2.2.2.2.2.2.2.2.1,())).bind fun u4=>
    cond (u4.1.1)
     ((Nn (p0.1,p0.2.1,p0.2.2.1,p0.2.2.2.1,p0.2.2.2.2.1,p0.2.2.2.2.2.1,p0.2.2.2.2.2.2.1,p0.2.2.2.2.2.2.2.1,p0.2.2.2.2.2.2.2.2.1,p0.2.2.2.2.2.2.2.2.2.1,p0.2.2.2.2.2.2.2.2.2.2.1,())).bind fun u5=>
     cond (u5.1.1)
      ((La (p0.1,p0.2.1,p0.2.2.1,p0.2.2.2.1,p0.2.2.2.2.1,p0.2.2.2.2.2.1,p0.2.2.2.2.2.2.1,p0.2.2.2.2.2.2.2.1,p0.2.2.2.2.2.2.2.2.1,p0.2.2.2.2.2.2.2.2.2.1,p0.2.2.2.2.2.2.2.2.2.2.1,())).bind fun u6=>
      cond (u6.1.1)
       ((Pr (p0.1,p0.2.1,p0.2.2.1,p0.2.2.2.1,p0.2.2.2.2.1,p0.2.2.2.2.2.1,p0.2.2.2.2.2.2.1,p0.2.2.2.2.2.2.2.1,p0.2.2.2.2.2.2.2.2.1,p0.2.2.2.2.2.2.2.2.2.1,p0.2.2.2.2.2.2.2.2.2.2.1,())).bind fun u7=>
       some ((u7.1.1,()),()))
      (some ((false,()),())))
     (some ((false,()),())))
    (some ((false,()),())))
   (some ((false,()),())))
  (some ((false,()),())))
 (some ((false,()),()))
abbrev ADY:Type:=ABw×Unit
def CR(p0 p1 p2:Int):Option ADY:=
 cond (decide (p0>=p1))
  (some ((decide (p0<=p2),()),()))
 (some ((false,()),()))
abbrev ZY:Type:=ABw×Unit
abbrev W3:Type:=Int->List Int->Int->Option ZY
def aD(R4:W3)(t3:Int)(AG:AAO)(AF:Int):Option ZY:=
 cond ((decide (t3<(AG.length:Int))))
  (if(0:Int)<=t3/\t3<(AG.length:Int)then(
  (CR (AG.getD (t3.toNat) 0) 0 7).bind fun u5=>
  cond (!u5.1.1)
   (some ((false,()),()))
  (R4 (AQ (t3+1)) AG AF))else none)
 (some ((true,()),()))
def NF:Nat->W3
 |0=>default
 |n+1=>aD (NF n)
def Zo(R4:W3)(p0:ABt):Option ZY:=
 (CR (p0.1.length:Int) 1 8).bind fun u1=>
 cond (!u1.1.1)
  (some ((false,()),()))
 ((CR p0.2.1 1 4).bind fun u2=>
 cond (!u2.1.1)
  (some ((false,()),()))
 (R4 0 p0.1 p0.2.1))
def G8:=Zo (NF AU)
abbrev vV:Type:=AD5×Unit
def Q0(p0:Int):Option vV:=
 cond (p0==8)
  (some (([],()),()))
 (cond (p0==10)
  (some (([],()),()))
 (cond (p0==12)
  (some (([],()),()))
 (cond (p0==2)
  (some (([65,84],()),()))
 (cond (p0==3)
  (some (([65,66,67],()),()))
 (cond (p0==5)
  (some (([65,66],()),()))
 (cond (p0==14)
  (some (([65,66],()),()))
 (cond (p0==11)
  (some (([66,67],()),()))
 (cond (p0==13)
  (some (([80],()),()))
 (some (([65],()),()))))))))))
abbrev Xk:Type:=ABw×Unit
abbrev bO:Type:=Int->Int->Int->Int->Int->Int->List UInt8->Int->Int->Int->Int->List UInt8->List Int->Option Xk
def DZ(R4:bO)(t12 t13 AG AF AW BT:Int)(Be:ABG)(BM A_ Bq Ed:Int)(Ho:ABG)(b2:AAO):Option Xk:=
 cond (decide (t13<t12))
  (if(0:Int)<=t13/\t13<(b2.length:Int)then(
  let x3:Int:=(b2.getD (t13.toNat) 0)
  cond (x3==65)
   (R4 t12 (AQ (t13+1)) AG AF AW BT Be BM 0 Bq Ed Ho b2)
  (cond (x3==80)
   (R4 t12 (AQ (t13+1)) AG AF AW BT Be BM 0 Bq Ed Ho b2)
  (cond (x3==66)
   (R4 t12 (AQ (t13+1)) AG AF AW BT Be BM A_ 0 Ed Ho b2)
  (cond (x3==67)
   (R4 t12 (AQ (t13+1)) AG AF AW BT Be BM A_ Bq 0 Ho b2)
  (cond (x3==84)
   (R4 t12 (AQ (t13+1)) AG AF AW BT Be BM A_ Bq Ed [] b2)
  (R4 t12 (AQ (t13+1)) AG AF AW BT Be BM A_ Bq Ed Ho b2))))))else none)
 ((BE AG 1 16).bind fun u4=>
 cond (u4.1.1)
  (cond (((BM==0)&&((A_==0)&&((Bq==0)&&((Ed==0)&&((Ho==[])&&true))))))
   ((G1 Be).bind fun u6=>
   some ((u6.1.1,()),()))
  (some ((false,()),())))
 (some ((false,()),())))
def D8:Nat->bO
 |0=>default
 |n+1=>DZ (D8 n)
def dr(R4:bO)(p0:ADq):Option Xk:=
 (Q0 p0.1).bind fun u1=>
 if u1.1.1.length<=C7 then(
 let x2:AAO:=(u1.1.1.map fun c=>(c.toNat:Int))
 R4 (x2.length:Int) 0 p0.1 p0.2.1 p0.2.2.1 p0.2.2.2.1 p0.2.2.2.2.1 0 p0.2.1 p0.2.2.1 p0.2.2.2.1 p0.2.2.2.2.1 x2)else none
def Yn:=dr (D8 AU)
abbrev Hc:Type:=AEA×AF7
abbrev QX:Type:=AAP->Int->Int->Int->AAP->Int->AAP->Option Hc
def T6(R3:QX)(t10:AAP)(t11 t12 AF:Int)(b1:AAP)(Pv:Int)(b3:AAP):Option Hc:=
 cond (decide (t12<t11))
  (if(0:Int)<=t12/\t12<(t10.length:Int)then(
  (DV ((t10.getD (t12.toNat) ([],false,0,())).1)).bind fun u1=>
  if b3.length+1<=C7 then(
  R3 t10 t11 (AQ (t12+1)) AF b1 Pv (b3++[(u1.2.1,(t10.getD (t12.toNat) ([],false,0,())).2.1,(t10.getD (t12.toNat) ([],false,0,())).2.2.1,())]))else none)else none)
 (some ((((),Pv,()),()),(b3,())))
def Ii:Nat->QX
 |0=>default
 |n+1=>T6 (Ii n)
def Te(R3:QX)(p0:AB_):Option Hc:=
 R3 p0.1 (p0.1.length:Int) 0 0 [] p0.2.1 []
def Ep(p0:AB_):Option Hc:=Te (Ii AU) p0
abbrev oB:Type:=ADC×AGg
def KC(p0:AAj):Option oB:=
 if 0+p0.length<=C7 then(
 some (((),()),(p0,())))else none
abbrev qk:Type:=AGa×AEC
def DN(p0:ACo):Option qk:=
 (KC p0.1).bind fun u1=>
 (KC p0.2.1).bind fun u2=>
 some ((((),(),p0.2.2.1,()),()),(u1.2.1,u2.2.1,()))
abbrev I7:Type:=AGv×AGF
abbrev S8:Type:=ACa->Int->Int->Int->ACa->Int->ACa->Option I7
def WQ(R3:S8)(t10:ACa)(t11 t12 AG:Int)(b1:ACa)(L9:Int)(b3:ACa):Option I7:=
 cond (decide (t12<t11))
  (if(0:Int)<=t12/\t12<(t10.length:Int)then(
  (DV ((t10.getD (t12.toNat) ([],[],false,())).2.1)).bind fun u2=>
  if b3.length+1<=C7 then(
  R3 t10 t11 (AQ (t12+1)) AG b1 L9 (b3++[((t10.getD (t12.toNat) ([],[],false,())).1,u2.2.1,(t10.getD (t12.toNat) ([],[],false,())).2.2.1,())]))else none)else none)
 (some (((L9,(),()),()),(b3,())))
def Kp:Nat->S8
 |0=>default
 |n+1=>WQ (Kp n)
def V9(R3:S8)(p0:ACj):Option I7:=
 R3 p0.2.1 (p0.2.1.length:Int) 0 0 [] p0.1 []
def GX(p0:ACj):Option I7:=V9 (Kp AU) p0
abbrev SZ:Type:=AGK×AE2
abbrev Wq:Type:=List AAO->Int->Int->Int->Int->Bool->List Int->AAj->List AAO->Int->Int->Bool->List Int->AAj->List AAO->Option SZ
def Zt(R4:Wq)(t17:List AAO)(t18 t19 AG AF:Int)(Be:Bool)(b1:AAO)(b2:AAj)(b3:List AAO)(p9 mG:Int)(AC2:Bool)(b5:AAO)(b6:AAj)(b7:List AAO):Option SZ:=
 cond (decide (t19<t18))
  (if(0:Int)<=t19/\t19<(t17.length:Int)then(
  (DV (t17.getD (t19.toNat) [])).bind fun u4=>
  if b7.length+1<=C7 then(
  R4 t17 t18 (AQ (t19+1)) AG AF Be b1 b2 b3 p9 mG AC2 b5 b6 (b7++[u4.2.1]))else none)else none)
 (some (((p9,mG,(),(),AC2,(),()),()),(b5,b6,b7,())))
def Mc:Nat->Wq
 |0=>default
 |n+1=>Zt (Mc n)
def Z4(R4:Wq)(p0:ABv):Option SZ:=
 (DV p0.2.2.1).bind fun u1=>
 (KC p0.2.2.2.1).bind fun u2=>
 R4 p0.2.2.2.2.2.1 (p0.2.2.2.2.2.1.length:Int) 0 0 0 false [] [] [] p0.1 p0.2.1 p0.2.2.2.2.1 u1.2.1 u2.2.1 []
def G_(p0:ABv):Option SZ:=Z4 (Mc AU) p0
abbrev ov:Type:=AG7×AHC
def OW(p0:ADk):Option ov:=
 if 0+p0.2.2.1.length<=C7 then(
 some (((p0.1,p0.2.1,(),()),()),(p0.2.2.1,())))else none
abbrev Fl:Type:=AHp×AD8
abbrev I4:Type:=AAZ->Int->Int->List Int->Int->AAZ->List Int->AAP->Int->AAw->AAx->AAp->AAr->Bool->Int->Int->Bool->List Int->AAZ->List Int->AAP->AAw->AAx->AAp->AAr->Int->Int->Bool->List Int->AAZ->List Int->AAP->AAw->AAx->AAp->AAr->Option Fl
abbrev JD:Type:=AAw->Int->Int->List Int->Int->AAZ->List Int->AAP->Int->AAw->AAx->AAp->AAr->Bool->Int->Int->Bool->List Int->AAZ->List Int->AAP->AAw->AAx->AAp->AAr->Int->Int->Bool->List Int->AAZ->List Int->AAP->AAw->AAx->AAp->AAr->Option Fl
abbrev IG:Type:=AAx->Int->Int->List Int->Int->AAZ->List Int->AAP->Int->AAw->AAx->AAp->AAr->Bool->Int->Int->Bool->List Int->AAZ->List Int->AAP->AAw->AAx->AAp->AAr->Int->Int->Bool->List Int->AAZ->List Int->AAP->AAw->AAx->AAp->AAr->Option Fl
abbrev IE:Type:=AAp->Int->Int->List Int->Int->AAZ->List Int->AAP->Int->AAw->AAx->AAp->AAr->Bool->Int->Int->Bool->List Int->AAZ->List Int->AAP->AAw->AAx->AAp->AAr->Int->Int->Bool->List Int->AAZ->List Int->AAP->AAw->AAx->AAp->AAr->Option Fl
def YA(R3:I4)(R8:JD)(R13:IG)(R18:IE)(t25:AAZ)(t26 t27:Int)(AG:AAO)(AF:Int)(AW:AAZ)(BT:AAO)(Be:AAP)(Ai:Int)(CH:AAw)(CL:AAx)(Bl:AAp)(CE:AAr)(AN:Bool)(A_ F6:Int)(Ib:Bool)(b2:AAO)(b3:AAZ)(b4:AAO)(b5:AAP)(b6:AAw)(b7:AAx)(b8:AAp)(b9:AAr)(GR IK:Int)(Et:Bool)(PX:AAO)(Hi:AAZ)(Pw:AAO)(Pu:AAP)(Iy:AAw)(KK:AAx)(L8:AAp)(gf:AAr):Option Fl:=
 cond (decide (t27<t26))
  (if(0:Int)<=t27/\t27<(t25.length:Int)then(
  (DN ((t25.getD (t27.toNat) ([],[],0,())).1,(t25.getD (t27.toNat) ([],[],0,())).2.1,(t25.getD (t27.toNat) ([],[],0,())).2.2.1,())).bind fun jR=>
  if Hi.length+1<=C7 then(
  R3 t25 t26 (AQ (t27+1)) AG AF AW BT Be Ai CH CL Bl CE AN A_ F6 Ib b2 b3 b4 b5 b6 b7 b8 b9 GR IK Et PX (Hi++[(jR.2.1,jR.2.2.1,jR.1.1.2.2.1,())]) Pw Pu Iy KK L8 gf)else none)else none)
 (R8 CH (CH.length:Int) 0 AG AF AW BT Be Ai CH CL Bl CE AN A_ F6 Ib b2 b3 b4 b5 b6 b7 b8 b9 GR IK Et PX Hi Pw Pu Iy KK L8 gf)
def Yc(R3:I4)(R8:JD)(R13:IG)(R18:IE)(t40:AAw)(t41 t42:Int)(AG:AAO)(AF:Int)(AW:AAZ)(BT:AAO)(Be:AAP)(Ai:Int)(CH:AAw)(CL:AAx)(Bl:AAp)(CE:AAr)(AN:Bool)(A_ F6:Int)(Ib:Bool)(b2:AAO)(b3:AAZ)(b4:AAO)(b5:AAP)(b6:AAw)(b7:AAx)(b8:AAp)(b9:AAr)(GR IK:Int)(Et:Bool)(PX:AAO)(Hi:AAZ)(Pw:AAO)(Pu:AAP)(Iy:AAw)(KK:AAx)(L8:AAp)(gf:AAr):Option Fl:=
 cond (decide (t42<t41))
  (if(0:Int)<=t42/\t42<(t40.length:Int)then(
  (GX ((t40.getD (t42.toNat) (0,[],())).1,(t40.getD (t42.toNat) (0,[],())).2.1,())).bind fun Ru=>
  if Iy.length+1<=C7 then(
  R8 t40 t41 (AQ (t42+1)) AG AF AW BT Be Ai CH CL Bl CE AN A_ F6 Ib b2 b3 b4 b5 b6 b7 b8 b9 GR IK Et PX Hi Pw Pu (Iy++[(Ru.1.1.1,Ru.2.1,())]) KK L8 gf)else none)else none)
 (R13 CL (CL.length:Int) 0 AG AF AW BT Be Ai CH CL Bl CE AN A_ F6 Ib b2 b3 b4 b5 b6 b7 b8 b9 GR IK Et PX Hi Pw Pu Iy KK L8 gf)
def WU(R3:I4)(R8:JD)(R13:IG)(R18:IE)(t55:AAx)(t56 t57:Int)(AG:AAO)(AF:Int)(AW:AAZ)(BT:AAO)(Be:AAP)(Ai:Int)(CH:AAw)(CL:AAx)(Bl:AAp)(CE:AAr)(AN:Bool)(A_ F6:Int)(Ib:Bool)(b2:AAO)(b3:AAZ)(b4:AAO)(b5:AAP)(b6:AAw)(b7:AAx)(b8:AAp)(b9:AAr)(GR IK:Int)(Et:Bool)(PX:AAO)(Hi:AAZ)(Pw:AAO)(Pu:AAP)(Iy:AAw)(KK:AAx)(L8:AAp)(gf:AAr):Option Fl:=
 cond (decide (t57<t56))
  (if(0:Int)<=t57/\t57<(t55.length:Int)then(
  (G_ ((t55.getD (t57.toNat) (0,0,[],[],false,[],())).1,(t55.getD (t57.toNat) (0,0,[],[],false,[],())).2.1,(t55.getD (t57.toNat) (0,0,[],[],false,[],())).2.2.1,(t55.getD (t57.toNat) (0,0,[],[],false,[],())).2.2.2.1,(t55.getD (t57.toNat) (0,0,[],[],false,[],())).2.2.2.2.1,(t55.getD (t57.toNat) (0,0,[],[],false,[],())).2.2.2.2.2.1,())).bind fun bA=>
  if KK.length+1<=C7 then(
  R13 t55 t56 (AQ (t57+1)) AG AF AW BT Be Ai CH CL Bl CE AN A_ F6 Ib b2 b3 b4 b5 b6 b7 b8 b9 GR IK Et PX Hi Pw Pu Iy (KK++[(bA.1.1.1,bA.1.1.2.1,bA.2.1,bA.2.2.1,bA.1.1.2.2.2.2.1,bA.2.2.2.1,())]) L8 gf)else none)else none)
 (R18 Bl (Bl.length:Int) 0 AG AF AW BT Be Ai CH CL Bl CE AN A_ F6 Ib b2 b3 b4 b5 b6 b7 b8 b9 GR IK Et PX Hi Pw Pu Iy KK L8 gf)
def WD(R3:I4)(R8:JD)(R13:IG)(R18:IE)(t70:AAp)(t71 t72:Int)(AG:AAO)(AF:Int)(AW:AAZ)(BT:AAO)(Be:AAP)(Ai:Int)(CH:AAw)(CL:AAx)(Bl:AAp)(CE:AAr)(AN:Bool)(A_ F6:Int)(Ib:Bool)(b2:AAO)(b3:AAZ)(b4:AAO)(b5:AAP)(b6:AAw)(b7:AAx)(b8:AAp)(b9:AAr)(GR IK:Int)(Et:Bool)(PX:AAO)(Hi:AAZ)(Pw:AAO)(Pu:AAP)(Iy:AAw)(KK:AAx)(L8:AAp)(gf:AAr):Option Fl:=
 cond (decide (t72<t71))
  (if(0:Int)<=t72/\t72<(t70.length:Int)then(
  (OW ((t70.getD (t72.toNat) (0,0,[],())).1,(t70.getD (t72.toNat) (0,0,[],())).2.1,(t70.getD (t72.toNat) (0,0,[],())).2.2.1,())).bind fun uy=>
  if L8.length+1<=C7 then(
  R18 t70 t71 (AQ (t72+1)) AG AF AW BT Be Ai CH CL Bl CE AN A_ F6 Ib b2 b3 b4 b5 b6 b7 b8 b9 GR IK Et PX Hi Pw Pu Iy KK (L8++[(uy.1.1.1,uy.1.1.2.1,uy.2.1,())]) gf)else none)else none)
 (if 0+CE.length<=C7 then(
 some ((((),GR,(),(),(),IK,(),(),(),(),Et,()),()),(PX,Hi,Pw,Pu,Iy,KK,L8,CE,())))else none)
mutual
def GC:Nat->I4
 |0=>default
 |n+1=>YA (GC n) (GD n) (FE n) (FQ n)
def GD:Nat->JD
 |0=>default
 |n+1=>Yc (GC n) (GD n) (FE n) (FQ n)
def FE:Nat->IG
 |0=>default
 |n+1=>WU (GC n) (GD n) (FE n) (FQ n)
def FQ:Nat->IE
 |0=>default
 |n+1=>WD (GC n) (GD n) (FE n) (FQ n)
end
def X2(R3:I4)(R8:JD)(R13:IG)(R18:IE)(p0:ABx):Option Fl:=
 (SY (p0.1,p0.2.1,())).bind fun u2=>
 (DV p0.2.2.2.1).bind fun u3=>
 (Ep (p0.2.2.2.2.1,p0.2.2.2.2.2.1,())).bind fun u4=>
 R3 p0.2.2.1 (p0.2.2.1.length:Int) 0 p0.1 p0.2.1 p0.2.2.1 p0.2.2.2.1 p0.2.2.2.2.1 p0.2.2.2.2.2.1 p0.2.2.2.2.2.2.1 p0.2.2.2.2.2.2.2.1 p0.2.2.2.2.2.2.2.2.1 p0.2.2.2.2.2.2.2.2.2.1 p0.2.2.2.2.2.2.2.2.2.2.1 0 0 false [] [] [] [] [] [] [] [] u2.1.1.2.1 u4.1.1.2.1 p0.2.2.2.2.2.2.2.2.2.2.1 u2.2.1 [] u3.2.1 u4.2.1 [] [] [] []
def EC:=X2 (GC AU) (GD AU) (FE AU) (FQ AU)
abbrev Fv:Type:=AF1×Unit
def DL(p0 p1:Int):Option Fv:=
 (IP p0).bind fun u1=>
 cond (!u1.1.1)
  (some (((0,false,()),()),()))
 ((bj p1).bind fun u2=>
 cond (!u2.1.1)
  (some (((0,false,()),()),()))
 (some (((AQ ((AQ (4294967296*p0))+p1),true,()),()),())))
abbrev Fm:Type:=ADC×ADn
abbrev U9:Type:=Int->Int->List Int->Option Fm
def YM(R5:U9)(t0 t10:Int)(b0:AAO):Option Fm:=
 cond (decide (t10<8))
  (if t10<0 then none else(
  cond (((jq .i64 (t0.fdiv (2^(min t10.toNat 64))) 1)==1))
   (if b0.length+1<=C7 then(
   R5 t0 (AQ (t10+1)) (b0++[t10]))else none)
  (R5 t0 (AQ (t10+1)) b0)))
 (some (((),()),(b0,())))
def Lg:Nat->U9
 |0=>default
 |n+1=>YM (Lg n)
def YE(R5:U9)(p0:Int):Option Fm:=
 (BE p0 0 255).bind fun u1=>
 cond (!u1.1.1)
  (some (((),()),([],())))
 (R5 p0 0 [])
def HG:=YE (Lg AU)
abbrev r7:Type:=ACJ×Unit
def Uc(p0:AD4)(p1:Int):Option r7:=
 cond (decide (p0.1<p1))
  (some (((-1),()),()))
 (cond (decide (p0.1>p1))
  (some ((1,()),()))
 (some ((0,()),())))
abbrev CM:Type:=AF1×Unit
abbrev CG:Type:=AAj->Int->Int->Int->Int->Option CM
def C8(R3:CG)(t0:AAj)(t1 t8 t9 t10:Int):Option CM:=
 cond (decide (t9<t10))
  (let x2:Int:=AQ ((IntKind.wrap .u64 (AQ (t9+t10))).fdiv (2^1))
  if(0:Int)<=x2/\x2<(t0.length:Int)then(
  (Uc ((t0.getD (x2.toNat) (0,0,false,[],())).1,(t0.getD (x2.toNat) (0,0,false,[],())).2.1,(t0.getD (x2.toNat) (0,0,false,[],())).2.2.1,(t0.getD (x2.toNat) (0,0,false,[],())).2.2.2.1,()) t1).bind fun u3=>
  cond (decide (u3.1.1<0))
   (R3 t0 t1 t8 (AQ (x2+1)) t10)
  (R3 t0 t1 t8 t9 x2))else none)
 (cond (decide (t9<t8))
  (if(0:Int)<=t9/\t9<(t0.length:Int)then(
  (Uc ((t0.getD (t9.toNat) (0,0,false,[],())).1,(t0.getD (t9.toNat) (0,0,false,[],())).2.1,(t0.getD (t9.toNat) (0,0,false,[],())).2.2.1,(t0.getD (t9.toNat) (0,0,false,[],())).2.2.2.1,()) t1).bind fun u4=>
  some (((t9,u4.1.1==0,()),()),()))else none)
 (some (((t9,false,()),()),())))
def BC:Nat->CG
 |0=>default
 |n+1=>C8 (BC n)
def C_(R3:CG)(p0:AAj)(p1:Int):Option CM:=
 R3 p0 p1 (p0.length:Int) 0 (p0.length:Int)
def CT:=C_ (BC AU)
abbrev xq:Type:=AF1×Unit
def VD(p0:AAj)(p1:Int):Option xq:=
 (CT p0 p1).bind fun u1=>
 some (((u1.1.1.1,u1.1.1.2.1,()),()),())
abbrev Ge:Type:=AHv×Unit
def FU(p0:ACo)(p1:Int):Option Ge:=
 (Fq (p0.1,p0.2.1,p0.2.2.1,())).bind fun u1=>
 cond (!u1.1.1)
  (some ((((0,0,false,[],()),false,()),()),()))
 ((VD p0.1 p1).bind fun u2=>
 cond (!u2.1.1.2.1)
  (some ((((0,0,false,[],()),false,()),()),()))
 (if(0:Int)<=u2.1.1.1/\u2.1.1.1<(p0.1.length:Int)then(
 some (((((p0.1.getD (u2.1.1.1.toNat) (0,0,false,[],())).1,(p0.1.getD (u2.1.1.1.toNat) (0,0,false,[],())).2.1,(p0.1.getD (u2.1.1.1.toNat) (0,0,false,[],())).2.2.1,(p0.1.getD (u2.1.1.1.toNat) (0,0,false,[],())).2.2.2.1,()),true,()),()),()))else none))
abbrev Pn:Type:=ACJ×Unit
abbrev TQ:Type:=ACa->Int->Int->Int->ACa->Option Pn
def WS(R2:TQ)(t6:ACa)(t7 t8 AG:Int)(AF:ACa):Option Pn:=
 cond (decide (t8<t7))
  (if(0:Int)<=t8/\t8<(t6.length:Int)then(
  cond (!((t6.getD (t8.toNat) ([],[],false,())).2.2.1))
   (some ((t8,()),()))
  (R2 t6 t7 (AQ (t8+1)) AG AF))else none)
 (some (((AF.length:Int),()),()))
def Kg:Nat->TQ
 |0=>default
 |n+1=>WS (Kg n)
def WN(R2:TQ)(p0:ACj):Option Pn:=
 R2 p0.2.1 (p0.2.1.length:Int) 0 p0.1 p0.2.1
def Sl(p0:ACj):Option Pn:=WN (Kg AU) p0
abbrev Js:Type:=ACJ×Unit
abbrev bL:Type:=Int->AAw->Int->Int->Option Js
def dq(R2:bL)(t1:Int)(t8:AAw)(t9 t10:Int):Option Js:=
 cond (decide (t10<t9))
  (if(0:Int)<=t10/\t10<(t8.length:Int)then(
  cond (((t8.getD (t10.toNat) (0,[],())).1)==t1)
   ((Sl ((t8.getD (t10.toNat) (0,[],())).1,(t8.getD (t10.toNat) (0,[],())).2.1,())).bind fun u3=>
   some ((u3.1.1,()),()))
  (R2 t1 t8 t9 (AQ (t10+1))))else none)
 (some ((0,()),()))
def P7:Nat->bL
 |0=>default
 |n+1=>dq (P7 n)
def dO(R2:bL)(p0:ABx)(p1:Int):Option Js:=
 R2 p1 p0.2.2.2.2.2.2.1 (p0.2.2.2.2.2.2.1.length:Int) 0
def QW(p0:ABx)(p1:Int):Option Js:=dO (P7 AU) p0 p1
abbrev bX:Type:=ADC×ADn
abbrev Yu:Type:=AD2->Int->Int->List Int->Option bX
def bq(R3:Yu)(t7:AD2)(t8 t9:Int)(b0:AAO):Option bX:=
 cond (decide (t9<t8))
  (if(0:Int)<=t9/\t9<(t7.length:Int)then(
  if b0.length+1<=C7 then(
  R3 t7 t8 (AQ (t9+1)) (b0++[((t7.getD (t9.toNat) (0,false,0,0,false,[],())).1)]))else none)else none)
 (some (((),()),(b0,())))
def OS:Nat->Yu
 |0=>default
 |n+1=>bq (OS n)
def cG(R3:Yu)(p0:AD2):Option bX:=
 R3 p0 (p0.length:Int) 0 []
def Q_:=cG (OS AU)
abbrev wz:Type:=ABw×Unit
def Jk(p0:Int)(p1:ADk):Option wz:=
 (Es p0).bind fun u1=>
 cond ((decide (u1.1.1<p1.1)))
  (some ((true,()),()))
 (cond (u1.1.1==p1.1)
  ((TU p0).bind fun u3=>
  some (((decide (u3.1.1<p1.2.1)),()),()))
 (some ((false,()),())))
abbrev nf:Type:=ADC×AIj
def Fu(p1:AF2)(AG AF:Int)(b1:ADi):Option nf:=
 if b1.length+1<=C7 then(
 some (((()),()),((AG,AF,(),()),(),(b1++[(p1.1,p1.2.1,p1.2.2.1,())]),())))else none
abbrev lC:Type:=ADC×ADn
abbrev gw:Type:=List Int->List Int->Int->Int->List Int->Option lC
def jU(R5:gw)(t2 t22:AAO)(t23 t24:Int)(b0:AAO):Option lC:=
 cond (decide (t24<t23))
  (if(0:Int)<=t24/\t24<(t22.length:Int)then(
  let x3:Int:=(t22.getD (t24.toNat) 0)
  (Bt t2 x3).bind fun u4=>
  cond (!u4.1.1)
   (if b0.length+1<=C7 then(
   R5 t2 t22 t23 (AQ (t24+1)) (b0++[x3]))else none)
  (R5 t2 t22 t23 (AQ (t24+1)) b0))else none)
 (some (((),()),(b0,())))
def Vu:Nat->gw
 |0=>default
 |n+1=>jU (Vu n)
def jA(R5:gw)(p0:ABt)(p1 p2:AAO):Option lC:=
 (EP (p0.1,p0.2.1,()) p1).bind fun u1=>
 cond (!u1.1.1)
  (some (((),()),([],())))
 ((EP (p0.1,p0.2.1,()) p2).bind fun u2=>
 cond (!u2.1.1)
  (some (((),()),([],())))
 (R5 p2 p1 (p1.length:Int) 0 []))
def lX:=jA (Vu AU)
abbrev yV:Type:=ABw×Unit
def Hh(p0:ABt)(p1 p2:AAO):Option yV:=
 (EP (p0.1,p0.2.1,()) p2).bind fun u1=>
 cond (!u1.1.1)
  (some ((false,()),()))
 ((HP (p0.1,p0.2.1,()) p1).bind fun u2=>
 cond (!u2.1.1)
  (some ((false,()),()))
 ((Oj p2 p1).bind fun u3=>
 cond (((u3.2.1.length:Int) !=(p2.length:Int)))
  (some ((false,()),()))
 ((lX (p0.1,p0.2.1,()) p1 p2).bind fun u6=>
 (HP (p0.1,p0.2.1,()) u6.2.1).bind fun u7=>
 some ((!u7.1.1,()),()))))
abbrev zC:Type:=AIW×Unit
def T5(p0 p1:AD4):Option zC:=
 cond ((decide (p1.2.1>p0.2.1)))
  (some (((p1.1,p1.2.1,p1.2.2.1,p1.2.2.2.1,()),()),()))
 (some (((p0.1,p0.2.1,p0.2.2.1,p0.2.2.2.1,()),()),()))
abbrev fR:Type:=AHv×Unit
abbrev cQ:Type:=List Int->Int->Bool->AD2->Int->Int->Int->Int->Bool->List UInt8->Int->Int->Bool->List UInt8->Option fR
def dv(R3:cQ)(t1:AAO)(t2:Int)(t9:Bool)(t13:AD2)(t14 t15 AG AF:Int)(AW:Bool)(BT:ABG)(BM A_:Int)(Bq:Bool)(Ed:ABG):Option fR:=
 cond (decide (t15<t14))
  (if(0:Int)<=t15/\t15<(t13.length:Int)then(
  cond (!((t13.getD (t15.toNat) (0,false,0,0,false,[],())).2.1))
   (R3 t1 t2 t9 t13 t14 (AQ (t15+1)) AG AF AW BT BM A_ Bq Ed)
  ((Bt t1 ((t13.getD (t15.toNat) (0,false,0,0,false,[],())).1)).bind fun u3=>
  cond (!u3.1.1)
   (R3 t1 t2 t9 t13 t14 (AQ (t15+1)) AG AF AW BT BM A_ Bq Ed)
  ((NW ((t13.getD (t15.toNat) (0,false,0,0,false,[],())).2.2.1,(t13.getD (t15.toNat) (0,false,0,0,false,[],())).2.2.2.1,(t13.getD (t15.toNat) (0,false,0,0,false,[],())).2.2.2.2.1,(t13.getD (t15.toNat) (0,false,0,0,false,[],())).2.2.2.2.2.1,())).bind fun u4=>
  cond (!u4.1.1)
   (R3 t1 t2 t9 t13 t14 (AQ (t15+1)) AG AF AW BT BM A_ Bq Ed)
  (cond (((t13.getD (t15.toNat) (0,false,0,0,false,[],())).2.2.1) !=t2)
   (R3 t1 t2 t9 t13 t14 (AQ (t15+1)) AG AF AW BT BM A_ Bq Ed)
  (cond (!t9)
   ((T5 ((t13.getD (t15.toNat) (0,false,0,0,false,[],())).2.2.1,(t13.getD (t15.toNat) (0,false,0,0,false,[],())).2.2.2.1,(t13.getD (t15.toNat) (0,false,0,0,false,[],())).2.2.2.2.1,(t13.getD (t15.toNat) (0,false,0,0,false,[],())).2.2.2.2.2.1,()) ((t13.getD (t15.toNat) (0,false,0,0,false,[],())).2.2.1,(t13.getD (t15.toNat) (0,false,0,0,false,[],())).2.2.2.1,(t13.getD (t15.toNat) (0,false,0,0,false,[],())).2.2.2.2.1,(t13.getD (t15.toNat) (0,false,0,0,false,[],())).2.2.2.2.2.1,())).bind fun u6=>
   R3 t1 t2 true t13 t14 (AQ (t15+1)) AG AF AW BT u6.1.1.1 u6.1.1.2.1 u6.1.1.2.2.1 u6.1.1.2.2.2.1)
  ((T5 (BM,A_,Bq,Ed,()) ((t13.getD (t15.toNat) (0,false,0,0,false,[],())).2.2.1,(t13.getD (t15.toNat) (0,false,0,0,false,[],())).2.2.2.1,(t13.getD (t15.toNat) (0,false,0,0,false,[],())).2.2.2.2.1,(t13.getD (t15.toNat) (0,false,0,0,false,[],())).2.2.2.2.2.1,())).bind fun u7=>
  R3 t1 t2 true t13 t14 (AQ (t15+1)) AG AF AW BT u7.1.1.1 u7.1.1.2.1 u7.1.1.2.2.1 u7.1.1.2.2.2.1))))))else none)
 (some ((((BM,A_,Bq,Ed,()),t9,()),()),()))
def Qg:Nat->cQ
 |0=>default
 |n+1=>dv (Qg n)
def eM(R3:cQ)(p0:AD2)(p1:AAO)(p2:Int):Option fR:=
 R3 p1 p2 false p0 (p0.length:Int) 0 0 0 false [] 0 0 false []
def d_:=eM (Qg AU)
abbrev l4:Type:=ADC×AIj
def DK(p1:AD2)(p2:AAO)(AG AF:Int)(b1:ADi):Option l4:=
 (DL AG AF).bind fun u1=>
 (d_ p1 p2 u1.1.1.1).bind fun u2=>
 cond (!u2.1.1.2.1)
  ((Fu (3,u1.1.1.1,[],()) AG AF b1).bind fun u3=>
  some (((()),()),((u3.2.1.1,AQ (u3.2.1.2.1+1),(),()),(),u3.2.2.2.1,())))
 (cond (u2.1.1.1.2.2.1)
  ((Fu (2,u1.1.1.1,[],()) AG AF b1).bind fun u4=>
  some (((()),()),((u4.2.1.1,AQ (u4.2.1.2.1+1),(),()),(),u4.2.2.2.1,())))
 ((Fu (1,u1.1.1.1,u2.1.1.1.2.2.2.1,()) AG AF b1).bind fun u5=>
 some (((()),()),((u5.2.1.1,AQ (u5.2.1.2.1+1),(),()),(),u5.2.2.2.1,()))))
abbrev HS:Type:=(AIk×Unit)×AHC
def JJ(p0:ABt)(p1:AB_)(p2:Int)(p3:ADk)(p4:AD2):Option HS:=
 (L3 (p0.1,p0.2.1,()) (p1.1,p1.2.1,())).bind fun u1=>
 cond (!u1.1.1)
  (some ((((0,0,(),()),1,()),()),([],())))
 ((XW (p3.1,p3.2.1,p3.2.2.1,())).bind fun u2=>
 cond (!u2.1.1)
  (some ((((0,0,(),()),1,()),()),([],())))
 ((Q_ p4).bind fun u3=>
 (EP (p0.1,p0.2.1,()) u3.2.1).bind fun u4=>
 cond (!u4.1.1)
  (some ((((0,0,(),()),1,()),()),([],())))
 ((OW (p3.1,p3.2.1,p3.2.2.1,())).bind fun u5=>
 cond ((decide (p3.1>(p1.1.length:Int))))
  (some ((((u5.1.1.1,u5.1.1.2.1,(),()),2,()),()),(u5.2.1,())))
 (cond ((p3.2.2.1.length:Int)==120)
  (some ((((u5.1.1.1,u5.1.1.2.1,(),()),2,()),()),(u5.2.1,())))
 (cond (decide (p1.2.1>0))
  ((Jk p1.2.1 (p3.1,p3.2.1,p3.2.2.1,())).bind fun u8=>
  cond (!u8.1.1)
   ((Fu (5,p1.2.1,[],()) u5.1.1.1 u5.1.1.2.1 u5.2.1).bind fun u9=>
   (Es p1.2.1).bind fun EJ=>
   (TU p1.2.1).bind fun FY=>
   some ((((EJ.1.1,AQ (FY.1.1+1),(),()),0,()),()),(u9.2.2.2.1,())))
  (if(0:Int)<=AQ (p3.1-1)/\AQ (p3.1-1)<(p1.1.length:Int)then(
  (Q_ p4).bind fun Jq=>
  (Oj Jq.2.1 ((p1.1.getD ((AQ (p3.1-1)).toNat) ([],false,0,())).1)).bind fun L0=>
  cond (((p1.1.getD ((AQ (p3.1-1)).toNat) ([],false,0,())).2.1))
   (cond ((decide (p3.2.1>((p1.1.getD ((AQ (p3.1-1)).toNat) ([],false,0,())).2.2.1))))
    ((Fu (4,AQ (p3.1+1),[],()) u5.1.1.1 u5.1.1.2.1 u5.2.1).bind fun hO=>
    some ((((AQ (p3.1+1),1,(),()),0,()),()),(hO.2.2.2.1,())))
   (cond (!((p1.1.getD ((AQ (p3.1-1)).toNat) ([],false,0,())).2.1))
    (cond (decide (p3.2.1>p2))
     (some ((((u5.1.1.1,u5.1.1.2.1,(),()),2,()),()),(u5.2.1,())))
    (cond (decide (p3.2.1>60))
     (some ((((u5.1.1.1,u5.1.1.2.1,(),()),2,()),()),(u5.2.1,())))
    ((Hh (p0.1,p0.2.1,()) ((p1.1.getD ((AQ (p3.1-1)).toNat) ([],false,0,())).1) L0.2.1).bind fun cz=>
    cond (!cz.1.1)
     (some ((((u5.1.1.1,u5.1.1.2.1,(),()),3,()),()),(u5.2.1,())))
    ((DK p4 L0.2.1 u5.1.1.1 u5.1.1.2.1 u5.2.1).bind fun Ru=>
    some ((((Ru.2.1.1,Ru.2.1.2.1,(),()),0,()),()),(Ru.2.2.2.1,()))))))
   (cond (decide (p3.2.1>60))
    (some ((((u5.1.1.1,u5.1.1.2.1,(),()),2,()),()),(u5.2.1,())))
   ((Hh (p0.1,p0.2.1,()) ((p1.1.getD ((AQ (p3.1-1)).toNat) ([],false,0,())).1) L0.2.1).bind fun et=>
   cond (!et.1.1)
    (some ((((u5.1.1.1,u5.1.1.2.1,(),()),3,()),()),(u5.2.1,())))
   ((DK p4 L0.2.1 u5.1.1.1 u5.1.1.2.1 u5.2.1).bind fun u22=>
   some ((((u22.2.1.1,u22.2.1.2.1,(),()),0,()),()),(u22.2.2.2.1,())))))))
  (cond (!((p1.1.getD ((AQ (p3.1-1)).toNat) ([],false,0,())).2.1))
   (cond (decide (p3.2.1>p2))
    (some ((((u5.1.1.1,u5.1.1.2.1,(),()),2,()),()),(u5.2.1,())))
   (cond (decide (p3.2.1>60))
    (some ((((u5.1.1.1,u5.1.1.2.1,(),()),2,()),()),(u5.2.1,())))
   ((Hh (p0.1,p0.2.1,()) ((p1.1.getD ((AQ (p3.1-1)).toNat) ([],false,0,())).1) L0.2.1).bind fun Sc=>
   cond (!Sc.1.1)
    (some ((((u5.1.1.1,u5.1.1.2.1,(),()),3,()),()),(u5.2.1,())))
   ((DK p4 L0.2.1 u5.1.1.1 u5.1.1.2.1 u5.2.1).bind fun bA=>
   some ((((bA.2.1.1,bA.2.1.2.1,(),()),0,()),()),(bA.2.2.2.1,()))))))
  (cond (decide (p3.2.1>60))
   (some ((((u5.1.1.1,u5.1.1.2.1,(),()),2,()),()),(u5.2.1,())))
  ((Hh (p0.1,p0.2.1,()) ((p1.1.getD ((AQ (p3.1-1)).toNat) ([],false,0,())).1) L0.2.1).bind fun qJ=>
  cond (!qJ.1.1)
   (some ((((u5.1.1.1,u5.1.1.2.1,(),()),3,()),()),(u5.2.1,())))
  ((DK p4 L0.2.1 u5.1.1.1 u5.1.1.2.1 u5.2.1).bind fun qO=>
  some ((((qO.2.1.1,qO.2.1.2.1,(),()),0,()),()),(qO.2.2.2.1,())))))))else none))
 (if(0:Int)<=AQ (p3.1-1)/\AQ (p3.1-1)<(p1.1.length:Int)then(
 (Q_ p4).bind fun XZ=>
 (Oj XZ.2.1 ((p1.1.getD ((AQ (p3.1-1)).toNat) ([],false,0,())).1)).bind fun qL=>
 cond (((p1.1.getD ((AQ (p3.1-1)).toNat) ([],false,0,())).2.1))
  (cond ((decide (p3.2.1>((p1.1.getD ((AQ (p3.1-1)).toNat) ([],false,0,())).2.2.1))))
   ((Fu (4,AQ (p3.1+1),[],()) u5.1.1.1 u5.1.1.2.1 u5.2.1).bind fun ks=>
   some ((((AQ (p3.1+1),1,(),()),0,()),()),(ks.2.2.2.1,())))
  (cond (!((p1.1.getD ((AQ (p3.1-1)).toNat) ([],false,0,())).2.1))
   (cond (decide (p3.2.1>p2))
    (some ((((u5.1.1.1,u5.1.1.2.1,(),()),2,()),()),(u5.2.1,())))
   (cond (decide (p3.2.1>60))
    (some ((((u5.1.1.1,u5.1.1.2.1,(),()),2,()),()),(u5.2.1,())))
   ((Hh (p0.1,p0.2.1,()) ((p1.1.getD ((AQ (p3.1-1)).toNat) ([],false,0,())).1) qL.2.1).bind fun u35=>
   cond (!u35.1.1)
    (some ((((u5.1.1.1,u5.1.1.2.1,(),()),3,()),()),(u5.2.1,())))
   ((DK p4 qL.2.1 u5.1.1.1 u5.1.1.2.1 u5.2.1).bind fun u36=>
   some ((((u36.2.1.1,u36.2.1.2.1,(),()),0,()),()),(u36.2.2.2.1,()))))))
  (cond (decide (p3.2.1>60))
   (some ((((u5.1.1.1,u5.1.1.2.1,(),()),2,()),()),(u5.2.1,())))
  ((Hh (p0.1,p0.2.1,()) ((p1.1.getD ((AQ (p3.1-1)).toNat) ([],false,0,())).1) qL.2.1).bind fun tb=>
  cond (!tb.1.1)
   (some ((((u5.1.1.1,u5.1.1.2.1,(),()),3,()),()),(u5.2.1,())))
  ((DK p4 qL.2.1 u5.1.1.1 u5.1.1.2.1 u5.2.1).bind fun u38=>
  some ((((u38.2.1.1,u38.2.1.2.1,(),()),0,()),()),(u38.2.2.2.1,())))))))
 (cond (!((p1.1.getD ((AQ (p3.1-1)).toNat) ([],false,0,())).2.1))
  (cond (decide (p3.2.1>p2))
   (some ((((u5.1.1.1,u5.1.1.2.1,(),()),2,()),()),(u5.2.1,())))
  (cond (decide (p3.2.1>60))
   (some ((((u5.1.1.1,u5.1.1.2.1,(),()),2,()),()),(u5.2.1,())))
  ((Hh (p0.1,p0.2.1,()) ((p1.1.getD ((AQ (p3.1-1)).toNat) ([],false,0,())).1) qL.2.1).bind fun u40=>
  cond (!u40.1.1)
   (some ((((u5.1.1.1,u5.1.1.2.1,(),()),3,()),()),(u5.2.1,())))
  ((DK p4 qL.2.1 u5.1.1.1 u5.1.1.2.1 u5.2.1).bind fun u41=>
  some ((((u41.2.1.1,u41.2.1.2.1,(),()),0,()),()),(u41.2.2.2.1,()))))))
 (cond (decide (p3.2.1>60))
  (some ((((u5.1.1.1,u5.1.1.2.1,(),()),2,()),()),(u5.2.1,())))
 ((Hh (p0.1,p0.2.1,()) ((p1.1.getD ((AQ (p3.1-1)).toNat) ([],false,0,())).1) qL.2.1).bind fun u42=>
 cond (!u42.1.1)
  (some ((((u5.1.1.1,u5.1.1.2.1,(),()),3,()),()),(u5.2.1,())))
 ((DK p4 qL.2.1 u5.1.1.1 u5.1.1.2.1 u5.2.1).bind fun u43=>
 some ((((u43.2.1.1,u43.2.1.2.1,(),()),0,()),()),(u43.2.2.2.1,())))))))else none))))))
abbrev PO:Type:=ACJ×AFh
abbrev TB:Type:=Int->Int->Int->Int->Int->Int->Bool->List Int->AAZ->List Int->AAP->AAw->AAx->AAp->AAr->Int->Int->ADi->AD2->List Int->Option PO
def TG(aL:Int->Int->Int->Option GK)(sG:ABx->Int->Option F9)(jl:Int->Int->Option Fv)(ri:Int->Option Fm)(lB:ACo->Int->Option Ge)(ACZ:ABt->AB_->Int->ADk->AD2->Option HS)(AC_:ABx->Int->Option Js)(R7:TB)(t1 t8 t44 t45 AF Ai:Int)(AN:Bool)(b1:AAO)(b2:AAZ)(b3:AAO)(b4:AAP)(b5:AAw)(b6:AAx)(b7:AAp)(b8:AAr)(ACe NO:Int)(uz:ADi)(jo:AD2)(PX:AAO):Option PO:=
 cond (decide (t45<t44))
  (if(0:Int)<=t45/\t45<(PX.length:Int)then(
  let x8:Int:=(PX.getD (t45.toNat) 0)
  cond ((decide (x8<(b2.length:Int))))
   ((sG (b1,AF,b2,b3,b4,Ai,b5,b6,b7,b8,AN,()) x8).bind fun EJ=>
   cond (!EJ.1.1)
    (if(0:Int)<=x8/\x8<(b2.length:Int)then(
    (lB ((b2.getD (x8.toNat) ([],[],0,())).1,(b2.getD (x8.toNat) ([],[],0,())).2.1,(b2.getD (x8.toNat) ([],[],0,())).2.2.1,()) t8).bind fun FY=>
    if jo.length+1<=C7 then(
    R7 t1 t8 t44 (AQ (t45+1)) AF Ai AN b1 b2 b3 b4 b5 b6 b7 b8 ACe NO uz (jo++[(x8,FY.1.1.2.1,FY.1.1.1.1,FY.1.1.1.2.1,FY.1.1.1.2.2.1,FY.1.1.1.2.2.2.1,())]) PX)else none)else none)
   (R7 t1 t8 t44 (AQ (t45+1)) AF Ai AN b1 b2 b3 b4 b5 b6 b7 b8 ACe NO uz jo PX))
  (R7 t1 t8 t44 (AQ (t45+1)) AF Ai AN b1 b2 b3 b4 b5 b6 b7 b8 ACe NO uz jo PX))else none)
 ((AC_ (b1,AF,b2,b3,b4,Ai,b5,b6,b7,b8,AN,()) ACe).bind fun L0=>
 (ACZ (b1,AF,()) (b4,Ai,()) L0.1.1 (ACe,NO,uz,()) jo).bind fun Oq=>
 cond (Oq.1.1.2.1 !=0)
  (some ((5,()),(((),AF,(),(),(),Ai,(),(),(),(),AN,()),b1,b2,b3,b4,b5,b6,b7,b8,())))
 (if(0:Int)<=t1/\t1<(b7.length:Int)then(
 some ((0,()),(((),AF,(),(),(),Ai,(),(),(),(),AN,()),b1,b2,b3,b4,b5,b6,(b7.set (t1.toNat) (Oq.1.1.1.1,Oq.1.1.1.2.1,Oq.2.1,())),b8,())))else none))
def O5:=TG BE C4 DL HG FU JJ QW
def ER:Nat->TB
 |0=>default
 |n+1=>O5 (ER n)
def TS(aL:Int->Int->Int->Option GK)(sG:ABx->Int->Option F9)(jl:Int->Int->Option Fv)(ri:Int->Option Fm)(lB:ACo->Int->Option Ge)(ACZ:ABt->AB_->Int->ADk->AD2->Option HS)(AC_:ABx->Int->Option Js)(R7:TB)(p1 p2 AF Ai:Int)(AN:Bool)(b1:AAO)(b2:AAZ)(b3:AAO)(b4:AAP)(b5:AAw)(b6:AAx)(b7:AAp)(b8:AAr):Option PO:=
 (aL p1 0 (AQ ((b7.length:Int)-1))).bind fun u2=>
 cond (!u2.1.1)
  (some ((2,()),(((),AF,(),(),(),Ai,(),(),(),(),AN,()),b1,b2,b3,b4,b5,b6,b7,b8,())))
 (if(0:Int)<=p1/\p1<(b7.length:Int)then(
 (jl ((b7.getD (p1.toNat) (0,0,[],())).1) ((b7.getD (p1.toNat) (0,0,[],())).2.1)).bind fun u5=>
 (ri p2).bind fun u6=>
 R7 p1 u5.1.1.1 (u6.2.1.length:Int) 0 AF Ai AN b1 b2 b3 b4 b5 b6 b7 b8 ((b7.getD (p1.toNat) (0,0,[],())).1) ((b7.getD (p1.toNat) (0,0,[],())).2.1) ((b7.getD (p1.toNat) (0,0,[],())).2.2.1) [] u6.2.1)else none)
def PE:=TS BE C4 DL HG FU JJ QW
def OL:=PE (ER AU)
abbrev ub:Type:=ABw×Unit
def Xf(p0:AF2):Option ub:=
 cond (p0.1==1)
  (some ((true,()),()))
 (cond (p0.1==2)
  (some ((true,()),()))
 (some ((p0.1==3,()),())))
abbrev Lb:Type:=ABw×Unit
abbrev Nr:Type:=AAp->Int->Int->List Int->Int->AAZ->List Int->AAP->Int->AAw->AAx->AAp->AAr->Bool->Option Lb
abbrev Nd:Type:=Int->Bool->AAp->Int->Int->ADi->Int->Int->List Int->Int->AAZ->List Int->AAP->Int->AAw->AAx->AAp->AAr->Bool->Option Lb
def PB(R2:Nr)(R6:Nd)(t10:AAp)(t11 t12:Int)(AG:AAO)(AF:Int)(AW:AAZ)(BT:AAO)(Be:AAP)(Ai:Int)(CH:AAw)(CL:AAx)(Bl:AAp)(CE:AAr)(AN:Bool):Option Lb:=
 cond (decide (t12<t11))
  (if(0:Int)<=t12/\t12<(t10.length:Int)then(
  R6 0 false t10 t11 t12 ((t10.getD (t12.toNat) (0,0,[],())).2.2.1) (((t10.getD (t12.toNat) (0,0,[],())).2.2.1).length:Int) 0 AG AF AW BT Be Ai CH CL Bl CE AN)else none)
 ((D3 (AG,AF,AW,BT,Be,Ai,CH,CL,Bl,CE,AN,())).bind fun u3=>
 some ((u3.1.1,()),()))
def V_(R2:Nr)(R6:Nd)(t5:Int)(t6:Bool)(t10:AAp)(t11 t12:Int)(t17:ADi)(t18 t19:Int)(AG:AAO)(AF:Int)(AW:AAZ)(BT:AAO)(Be:AAP)(Ai:Int)(CH:AAw)(CL:AAx)(Bl:AAp)(CE:AAr)(AN:Bool):Option Lb:=
 cond (decide (t19<t18))
  (if(0:Int)<=t19/\t19<(t17.length:Int)then(
  (Xf ((t17.getD (t19.toNat) (0,0,[],())).1,(t17.getD (t19.toNat) (0,0,[],())).2.1,(t17.getD (t19.toNat) (0,0,[],())).2.2.1,())).bind fun u4=>
  cond (!u4.1.1)
   (R6 t5 t6 t10 t11 t12 t17 t18 (AQ (t19+1)) AG AF AW BT Be Ai CH CL Bl CE AN)
  (cond (t6)
   (cond (decide (((t17.getD (t19.toNat) (0,0,[],())).2.1)<=t5))
    (some ((false,()),()))
   (R6 ((t17.getD (t19.toNat) (0,0,[],())).2.1) true t10 t11 t12 t17 t18 (AQ (t19+1)) AG AF AW BT Be Ai CH CL Bl CE AN))
  (R6 ((t17.getD (t19.toNat) (0,0,[],())).2.1) true t10 t11 t12 t17 t18 (AQ (t19+1)) AG AF AW BT Be Ai CH CL Bl CE AN)))else none)
 (R2 t10 t11 (AQ (t12+1)) AG AF AW BT Be Ai CH CL Bl CE AN)
mutual
def E4:Nat->Nr
 |0=>default
 |n+1=>PB (E4 n) (IC n)
def IC:Nat->Nd
 |0=>default
 |n+1=>V_ (E4 n) (IC n)
end
def WB(R2:Nr)(R6:Nd)(p0:ABx):Option Lb:=
 R2 p0.2.2.2.2.2.2.2.2.1 (p0.2.2.2.2.2.2.2.2.1.length:Int) 0 p0.1 p0.2.1 p0.2.2.1 p0.2.2.2.1 p0.2.2.2.2.1 p0.2.2.2.2.2.1 p0.2.2.2.2.2.2.1 p0.2.2.2.2.2.2.2.1 p0.2.2.2.2.2.2.2.2.1 p0.2.2.2.2.2.2.2.2.2.1 p0.2.2.2.2.2.2.2.2.2.2.1
def Sk:=WB (E4 AU) (IC AU)
abbrev fC:Type:=AHk×Unit
abbrev bn:Type:=Int->AAr->Int->Int->Option fC
def eC(R2:bn)(t1:Int)(t9:AAr)(t10 t11:Int):Option fC:=
 cond (decide (t11<t10))
  (if(0:Int)<=t11/\t11<(t9.length:Int)then(
  cond (((t9.getD (t11.toNat) (0,[],false,())).1)==t1)
   (some (((((t9.getD (t11.toNat) (0,[],false,())).2.1),true,()),()),()))
  (R2 t1 t9 t10 (AQ (t11+1))))else none)
 (some ((([],false,()),()),()))
def QB:Nat->bn
 |0=>default
 |n+1=>eC (QB n)
def dm(R2:bn)(p0:ABx)(p1:Int):Option fC:=
 R2 p1 p0.2.2.2.2.2.2.2.2.2.1 (p0.2.2.2.2.2.2.2.2.2.1.length:Int) 0
def dV:=dm (QB AU)
abbrev Ml:Type:=ABw×Unit
abbrev PQ:Type:=AAp->Int->Int->List Int->Int->AAZ->List Int->AAP->Int->AAw->AAx->AAp->AAr->Bool->Option Ml
abbrev PT:Type:=AAp->Int->Int->ADi->Int->Int->List Int->Int->AAZ->List Int->AAP->Int->AAw->AAx->AAp->AAr->Bool->Option Ml
def P2(R2:PQ)(R5:PT)(t10:AAp)(t11 t12:Int)(AG:AAO)(AF:Int)(AW:AAZ)(BT:AAO)(Be:AAP)(Ai:Int)(CH:AAw)(CL:AAx)(Bl:AAp)(CE:AAr)(AN:Bool):Option Ml:=
 cond (decide (t12<t11))
  (if(0:Int)<=t12/\t12<(t10.length:Int)then(
  R5 t10 t11 t12 ((t10.getD (t12.toNat) (0,0,[],())).2.2.1) (((t10.getD (t12.toNat) (0,0,[],())).2.2.1).length:Int) 0 AG AF AW BT Be Ai CH CL Bl CE AN)else none)
 ((D3 (AG,AF,AW,BT,Be,Ai,CH,CL,Bl,CE,AN,())).bind fun u3=>
 some ((u3.1.1,()),()))
def Qe(R2:PQ)(R5:PT)(t10:AAp)(t11 t12:Int)(t17:ADi)(t18 t19:Int)(AG:AAO)(AF:Int)(AW:AAZ)(BT:AAO)(Be:AAP)(Ai:Int)(CH:AAw)(CL:AAx)(Bl:AAp)(CE:AAr)(AN:Bool):Option Ml:=
 cond (decide (t19<t18))
  (if(0:Int)<=t19/\t19<(t17.length:Int)then(
  (dV (AG,AF,AW,BT,Be,Ai,CH,CL,Bl,CE,AN,()) ((t17.getD (t19.toNat) (0,0,[],())).2.1)).bind fun u5=>
  cond (((t17.getD (t19.toNat) (0,0,[],())).1)==1)
   (cond (!u5.1.1.2.1)
    (some ((false,()),()))
   (cond (!(u5.1.1.1==((t17.getD (t19.toNat) (0,0,[],())).2.2.1)))
    (some ((false,()),()))
   (R5 t10 t11 t12 t17 t18 (AQ (t19+1)) AG AF AW BT Be Ai CH CL Bl CE AN)))
  (R5 t10 t11 t12 t17 t18 (AQ (t19+1)) AG AF AW BT Be Ai CH CL Bl CE AN))else none)
 (R2 t10 t11 (AQ (t12+1)) AG AF AW BT Be Ai CH CL Bl CE AN)
mutual
def GF:Nat->PQ
 |0=>default
 |n+1=>P2 (GF n) (HE n)
def HE:Nat->PT
 |0=>default
 |n+1=>Qe (GF n) (HE n)
end
def X0(R2:PQ)(R5:PT)(p0:ABx):Option Ml:=
 R2 p0.2.2.2.2.2.2.2.2.1 (p0.2.2.2.2.2.2.2.2.1.length:Int) 0 p0.1 p0.2.1 p0.2.2.1 p0.2.2.2.1 p0.2.2.2.2.1 p0.2.2.2.2.2.1 p0.2.2.2.2.2.2.1 p0.2.2.2.2.2.2.2.1 p0.2.2.2.2.2.2.2.2.1 p0.2.2.2.2.2.2.2.2.2.1 p0.2.2.2.2.2.2.2.2.2.2.1
def Uu:=X0 (GF AU) (HE AU)
abbrev kR:Type:=AHk×Unit
abbrev ig:Type:=Int->ADi->Int->Int->Option kR
def ja(R2:ig)(t1:Int)(t9:ADi)(t10 t11:Int):Option kR:=
 cond (decide (t11<t10))
  (if(0:Int)<=t11/\t11<(t9.length:Int)then(
  cond (((t9.getD (t11.toNat) (0,0,[],())).1)==1)
   (cond (((t9.getD (t11.toNat) (0,0,[],())).2.1)==t1)
    (some (((((t9.getD (t11.toNat) (0,0,[],())).2.2.1),true,()),()),()))
   (R2 t1 t9 t10 (AQ (t11+1))))
  (R2 t1 t9 t10 (AQ (t11+1))))else none)
 (some ((([],false,()),()),()))
def UM:Nat->ig
 |0=>default
 |n+1=>ja (UM n)
def jQ(R2:ig)(p0:ADk)(p1:Int):Option kR:=
 R2 p1 p0.2.2.1 (p0.2.2.1.length:Int) 0
def W9:=jQ (UM AU)
abbrev NA:Type:=ABw×Unit
abbrev Pc:Type:=AAp->Int->Int->List Int->Int->AAZ->List Int->AAP->Int->AAw->AAx->AAp->AAr->Bool->Option NA
abbrev PU:Type:=AAp->Int->Int->AAr->Int->Int->List Int->Int->AAZ->List Int->AAP->Int->AAw->AAx->AAp->AAr->Bool->Int->Int->ADi->Option NA
def P4(R4:Pc)(R7:PU)(t19:AAp)(t20 t21:Int)(AG:AAO)(AF:Int)(AW:AAZ)(BT:AAO)(Be:AAP)(Ai:Int)(CH:AAw)(CL:AAx)(Bl:AAp)(CE:AAr)(AN:Bool):Option NA:=
 cond (decide (t21<t20))
  (if(0:Int)<=t21/\t21<(t19.length:Int)then(
  R7 t19 t20 t21 CE (CE.length:Int) 0 AG AF AW BT Be Ai CH CL Bl CE AN ((t19.getD (t21.toNat) (0,0,[],())).1) ((t19.getD (t21.toNat) (0,0,[],())).2.1) ((t19.getD (t21.toNat) (0,0,[],())).2.2.1))else none)
 (some ((true,()),()))
def QZ(R4:Pc)(R7:PU)(t19:AAp)(t20 t21:Int)(t26:AAr)(t27 t28:Int)(AG:AAO)(AF:Int)(AW:AAZ)(BT:AAO)(Be:AAP)(Ai:Int)(CH:AAw)(CL:AAx)(Bl:AAp)(CE:AAr)(AN:Bool)(BM A_:Int)(Bq:ADi):Option NA:=
 cond (decide (t28<t27))
  (if(0:Int)<=t28/\t28<(t26.length:Int)then(
  (W9 (BM,A_,Bq,()) ((t26.getD (t28.toNat) (0,[],false,())).1)).bind fun u7=>
  cond (((t26.getD (t28.toNat) (0,[],false,())).2.2.1))
   (cond (decide (((t26.getD (t28.toNat) (0,[],false,())).1)>Ai))
    ((Jk ((t26.getD (t28.toNat) (0,[],false,())).1) (BM,A_,Bq,())).bind fun FY=>
    cond (FY.1.1)
     (cond (!u7.1.1.2.1)
      (some ((false,()),()))
     (R7 t19 t20 t21 t26 t27 (AQ (t28+1)) AG AF AW BT Be Ai CH CL Bl CE AN BM A_ Bq))
    (R7 t19 t20 t21 t26 t27 (AQ (t28+1)) AG AF AW BT Be Ai CH CL Bl CE AN BM A_ Bq))
   (R7 t19 t20 t21 t26 t27 (AQ (t28+1)) AG AF AW BT Be Ai CH CL Bl CE AN BM A_ Bq))
  (R7 t19 t20 t21 t26 t27 (AQ (t28+1)) AG AF AW BT Be Ai CH CL Bl CE AN BM A_ Bq))else none)
 (R4 t19 t20 (AQ (t21+1)) AG AF AW BT Be Ai CH CL Bl CE AN)
mutual
def GB:Nat->Pc
 |0=>default
 |n+1=>P4 (GB n) (HQ n)
def HQ:Nat->PU
 |0=>default
 |n+1=>QZ (GB n) (HQ n)
end
def Xv(R4:Pc)(R7:PU)(p0:ABx):Option NA:=
 (D3 (p0.1,p0.2.1,p0.2.2.1,p0.2.2.2.1,p0.2.2.2.2.1,p0.2.2.2.2.2.1,p0.2.2.2.2.2.2.1,p0.2.2.2.2.2.2.2.1,p0.2.2.2.2.2.2.2.2.1,p0.2.2.2.2.2.2.2.2.2.1,p0.2.2.2.2.2.2.2.2.2.2.1,())).bind fun u1=>
 cond (!u1.1.1)
  ((D3 (p0.1,p0.2.1,p0.2.2.1,p0.2.2.2.1,p0.2.2.2.2.1,p0.2.2.2.2.2.1,p0.2.2.2.2.2.2.1,p0.2.2.2.2.2.2.2.1,p0.2.2.2.2.2.2.2.2.1,p0.2.2.2.2.2.2.2.2.2.1,p0.2.2.2.2.2.2.2.2.2.2.1,())).bind fun u2=>
  some ((u2.1.1,()),()))
 (cond (p0.2.2.2.2.2.2.2.2.2.2.1)
  ((D3 (p0.1,p0.2.1,p0.2.2.1,p0.2.2.2.1,p0.2.2.2.2.1,p0.2.2.2.2.2.1,p0.2.2.2.2.2.2.1,p0.2.2.2.2.2.2.2.1,p0.2.2.2.2.2.2.2.2.1,p0.2.2.2.2.2.2.2.2.2.1,p0.2.2.2.2.2.2.2.2.2.2.1,())).bind fun u4=>
  some ((u4.1.1,()),()))
 (R4 p0.2.2.2.2.2.2.2.2.1 (p0.2.2.2.2.2.2.2.2.1.length:Int) 0 p0.1 p0.2.1 p0.2.2.1 p0.2.2.2.1 p0.2.2.2.2.1 p0.2.2.2.2.2.1 p0.2.2.2.2.2.2.1 p0.2.2.2.2.2.2.2.1 p0.2.2.2.2.2.2.2.2.1 p0.2.2.2.2.2.2.2.2.2.1 p0.2.2.2.2.2.2.2.2.2.2.1))
def Vm:=Xv (GB AU) (HQ AU)
abbrev Lr:Type:=ABw×Unit
abbrev OD:Type:=AAp->Int->Int->Option Lr
abbrev Nv:Type:=AAp->Int->Int->ADi->Int->Int->Option Lr
def O4(R4:OD)(R7:Nv)(t17:AAp)(t18 t19:Int):Option Lr:=
 cond (decide (t19<t18))
  (if(0:Int)<=t19/\t19<(t17.length:Int)then(
  R7 t17 t18 t19 ((t17.getD (t19.toNat) (0,0,[],())).2.2.1) (((t17.getD (t19.toNat) (0,0,[],())).2.2.1).length:Int) 0)else none)
 (some ((true,()),()))
def PC(R4:OD)(R7:Nv)(t17:AAp)(t18 t19:Int)(t24:ADi)(t25 t26:Int):Option Lr:=
 cond (decide (t26<t25))
  (if(0:Int)<=t26/\t26<(t24.length:Int)then(
  cond (((t24.getD (t26.toNat) (0,0,[],())).1)==3)
   (some ((false,()),()))
  (R7 t17 t18 t19 t24 t25 (AQ (t26+1))))else none)
 (R4 t17 t18 (AQ (t19+1)))
mutual
def Dk:Nat->OD
 |0=>default
 |n+1=>O4 (Dk n) (Gp n)
def Gp:Nat->Nv
 |0=>default
 |n+1=>PC (Dk n) (Gp n)
end
def V4(R4:OD)(R7:Nv)(p0:ABx):Option Lr:=
 (D3 (p0.1,p0.2.1,p0.2.2.1,p0.2.2.2.1,p0.2.2.2.2.1,p0.2.2.2.2.2.1,p0.2.2.2.2.2.2.1,p0.2.2.2.2.2.2.2.1,p0.2.2.2.2.2.2.2.2.1,p0.2.2.2.2.2.2.2.2.2.1,p0.2.2.2.2.2.2.2.2.2.2.1,())).bind fun u1=>
 cond (!u1.1.1)
  ((D3 (p0.1,p0.2.1,p0.2.2.1,p0.2.2.2.1,p0.2.2.2.2.1,p0.2.2.2.2.2.1,p0.2.2.2.2.2.2.1,p0.2.2.2.2.2.2.2.1,p0.2.2.2.2.2.2.2.2.1,p0.2.2.2.2.2.2.2.2.2.1,p0.2.2.2.2.2.2.2.2.2.2.1,())).bind fun u2=>
  some ((u2.1.1,()),()))
 (cond (p0.2.2.2.2.2.2.2.2.2.2.1)
  ((D3 (p0.1,p0.2.1,p0.2.2.1,p0.2.2.2.1,p0.2.2.2.2.1,p0.2.2.2.2.2.1,p0.2.2.2.2.2.2.1,p0.2.2.2.2.2.2.2.1,p0.2.2.2.2.2.2.2.2.1,p0.2.2.2.2.2.2.2.2.2.1,p0.2.2.2.2.2.2.2.2.2.2.1,())).bind fun u4=>
  some ((u4.1.1,()),()))
 (R4 p0.2.2.2.2.2.2.2.2.1 (p0.2.2.2.2.2.2.2.2.1.length:Int) 0))
def Sh:=V4 (Dk AU) (Gp AU)
abbrev Mh:Type:=ABw×Unit
abbrev Pf:Type:=AAp->Int->Int->List Int->Int->AAZ->List Int->AAP->Int->AAw->AAx->AAp->AAr->Bool->Option Mh
abbrev Pl:Type:=AAp->Int->Int->ADi->Int->Int->List Int->Int->AAZ->List Int->AAP->Int->AAw->AAx->AAp->AAr->Bool->Option Mh
def QY(R4:Pf)(R7:Pl)(t22:AAp)(t23 t24:Int)(AG:AAO)(AF:Int)(AW:AAZ)(BT:AAO)(Be:AAP)(Ai:Int)(CH:AAw)(CL:AAx)(Bl:AAp)(CE:AAr)(AN:Bool):Option Mh:=
 cond (decide (t24<t23))
  (if(0:Int)<=t24/\t24<(t22.length:Int)then(
  R7 t22 t23 t24 ((t22.getD (t24.toNat) (0,0,[],())).2.2.1) (((t22.getD (t24.toNat) (0,0,[],())).2.2.1).length:Int) 0 AG AF AW BT Be Ai CH CL Bl CE AN)else none)
 (some ((true,()),()))
def QR(R4:Pf)(R7:Pl)(t22:AAp)(t23 t24:Int)(t29:ADi)(t30 t31:Int)(AG:AAO)(AF:Int)(AW:AAZ)(BT:AAO)(Be:AAP)(Ai:Int)(CH:AAw)(CL:AAx)(Bl:AAp)(CE:AAr)(AN:Bool):Option Mh:=
 cond (decide (t31<t30))
  (if(0:Int)<=t31/\t31<(t29.length:Int)then(
  (DO ((t29.getD (t31.toNat) (0,0,[],())).2.1)).bind fun u8=>
  cond (u8.1.1)
   (if(0:Int)<=(0:Int)/\(0:Int)<(Bl.length:Int)then(
   (Jk ((t29.getD (t31.toNat) (0,0,[],())).2.1) ((Bl.getD 0 (0,0,[],())).1,(Bl.getD 0 (0,0,[],())).2.1,(Bl.getD 0 (0,0,[],())).2.2.1,())).bind fun EJ=>
   cond (EJ.1.1)
    (if(0:Int)<=(1:Int)/\(1:Int)<(Bl.length:Int)then(
    (Jk ((t29.getD (t31.toNat) (0,0,[],())).2.1) ((Bl.getD 1 (0,0,[],())).1,(Bl.getD 1 (0,0,[],())).2.1,(Bl.getD 1 (0,0,[],())).2.2.1,())).bind fun Jq=>
    cond (((t29.getD (t31.toNat) (0,0,[],())).1) !=1)
     (R7 t22 t23 t24 t29 t30 (AQ (t31+1)) AG AF AW BT Be Ai CH CL Bl CE AN)
    (cond (decide (((t29.getD (t31.toNat) (0,0,[],())).2.1)<=Ai))
     (R7 t22 t23 t24 t29 t30 (AQ (t31+1)) AG AF AW BT Be Ai CH CL Bl CE AN)
    (cond (!Jq.1.1)
     (R7 t22 t23 t24 t29 t30 (AQ (t31+1)) AG AF AW BT Be Ai CH CL Bl CE AN)
    (if(0:Int)<=(0:Int)/\(0:Int)<(Bl.length:Int)then(
    (W9 ((Bl.getD 0 (0,0,[],())).1,(Bl.getD 0 (0,0,[],())).2.1,(Bl.getD 0 (0,0,[],())).2.2.1,()) ((t29.getD (t31.toNat) (0,0,[],())).2.1)).bind fun u16=>
    if(0:Int)<=(1:Int)/\(1:Int)<(Bl.length:Int)then(
    (W9 ((Bl.getD 1 (0,0,[],())).1,(Bl.getD 1 (0,0,[],())).2.1,(Bl.getD 1 (0,0,[],())).2.2.1,()) ((t29.getD (t31.toNat) (0,0,[],())).2.1)).bind fun en=>
    cond ((u16.1.1.2.1 !=en.1.1.2.1))
     (some ((false,()),()))
    (cond ((!(u16.1.1.1==en.1.1.1)))
     (some ((false,()),()))
    (R7 t22 t23 t24 t29 t30 (AQ (t31+1)) AG AF AW BT Be Ai CH CL Bl CE AN)))else none)else none))))else none)
   (cond (((t29.getD (t31.toNat) (0,0,[],())).1) !=1)
    (R7 t22 t23 t24 t29 t30 (AQ (t31+1)) AG AF AW BT Be Ai CH CL Bl CE AN)
   (cond (decide (((t29.getD (t31.toNat) (0,0,[],())).2.1)<=Ai))
    (R7 t22 t23 t24 t29 t30 (AQ (t31+1)) AG AF AW BT Be Ai CH CL Bl CE AN)
   (R7 t22 t23 t24 t29 t30 (AQ (t31+1)) AG AF AW BT Be Ai CH CL Bl CE AN))))else none)
  (cond (((t29.getD (t31.toNat) (0,0,[],())).1) !=1)
   (R7 t22 t23 t24 t29 t30 (AQ (t31+1)) AG AF AW BT Be Ai CH CL Bl CE AN)
  (cond (decide (((t29.getD (t31.toNat) (0,0,[],())).2.1)<=Ai))
   (R7 t22 t23 t24 t29 t30 (AQ (t31+1)) AG AF AW BT Be Ai CH CL Bl CE AN)
  (R7 t22 t23 t24 t29 t30 (AQ (t31+1)) AG AF AW BT Be Ai CH CL Bl CE AN))))else none)
 (R4 t22 t23 (AQ (t24+1)) AG AF AW BT Be Ai CH CL Bl CE AN)
mutual
def GA:Nat->Pf
 |0=>default
 |n+1=>QY (GA n) (HZ n)
def HZ:Nat->Pl
 |0=>default
 |n+1=>QR (GA n) (HZ n)
end
def X5(R4:Pf)(R7:Pl)(p0:ABx):Option Mh:=
 (D3 (p0.1,p0.2.1,p0.2.2.1,p0.2.2.2.1,p0.2.2.2.2.1,p0.2.2.2.2.2.1,p0.2.2.2.2.2.2.1,p0.2.2.2.2.2.2.2.1,p0.2.2.2.2.2.2.2.2.1,p0.2.2.2.2.2.2.2.2.2.1,p0.2.2.2.2.2.2.2.2.2.2.1,())).bind fun u1=>
 cond (!u1.1.1)
  ((D3 (p0.1,p0.2.1,p0.2.2.1,p0.2.2.2.1,p0.2.2.2.2.1,p0.2.2.2.2.2.1,p0.2.2.2.2.2.2.1,p0.2.2.2.2.2.2.2.1,p0.2.2.2.2.2.2.2.2.1,p0.2.2.2.2.2.2.2.2.2.1,p0.2.2.2.2.2.2.2.2.2.2.1,())).bind fun u2=>
  some ((u2.1.1,()),()))
 (cond (p0.2.2.2.2.2.2.2.2.2.2.1)
  ((D3 (p0.1,p0.2.1,p0.2.2.1,p0.2.2.2.1,p0.2.2.2.2.1,p0.2.2.2.2.2.1,p0.2.2.2.2.2.2.1,p0.2.2.2.2.2.2.2.1,p0.2.2.2.2.2.2.2.2.1,p0.2.2.2.2.2.2.2.2.2.1,p0.2.2.2.2.2.2.2.2.2.2.1,())).bind fun u4=>
  some ((u4.1.1,()),()))
 (R4 p0.2.2.2.2.2.2.2.2.1 (p0.2.2.2.2.2.2.2.2.1.length:Int) 0 p0.1 p0.2.1 p0.2.2.1 p0.2.2.2.1 p0.2.2.2.2.1 p0.2.2.2.2.2.1 p0.2.2.2.2.2.2.1 p0.2.2.2.2.2.2.2.1 p0.2.2.2.2.2.2.2.2.1 p0.2.2.2.2.2.2.2.2.2.1 p0.2.2.2.2.2.2.2.2.2.2.1))
def Ua:=X5 (GA AU) (HZ AU)
abbrev uv:Type:=ABw×Unit
def L5(p0:ABx):Option uv:=
 (Sk (p0.1,p0.2.1,p0.2.2.1,p0.2.2.2.1,p0.2.2.2.2.1,p0.2.2.2.2.2.1,p0.2.2.2.2.2.2.1,p0.2.2.2.2.2.2.2.1,p0.2.2.2.2.2.2.2.2.1,p0.2.2.2.2.2.2.2.2.2.1,p0.2.2.2.2.2.2.2.2.2.2.1,())).bind fun u1=>
 cond (u1.1.1)
  ((Uu (p0.1,p0.2.1,p0.2.2.1,p0.2.2.2.1,p0.2.2.2.2.1,p0.2.2.2.2.2.1,p0.2.2.2.2.2.2.1,p0.2.2.2.2.2.2.2.1,p0.2.2.2.2.2.2.2.2.1,p0.2.2.2.2.2.2.2.2.2.1,p0.2.2.2.2.2.2.2.2.2.2.1,())).bind fun u2=>
  cond (u2.1.1)
   ((Vm (p0.1,p0.2.1,p0.2.2.1,p0.2.2.2.1,p0.2.2.2.2.1,p0.2.2.2.2.2.1,p0.2.2.2.2.2.2.1,p0.2.2.2.2.2.2.2.1,p0.2.2.2.2.2.2.2.2.1,p0.2.2.2.2.2.2.2.2.2.1,p0.2.2.2.2.2.2.2.2.2.2.1,())).bind fun u3=>
   cond (u3.1.1)
    ((Sh (p0.1,p0.2.1,p0.2.2.1,p0.2.2.2.1,p0.2.2.2.2.1,p0.2.2.2.2.2.1,p0.2.2.2.2.2.2.1,p0.2.2.2.2.2.2.2.1,p0.2.2.2.2.2.2.2.2.1,p0.2.2.2.2.2.2.2.2.2.1,p0.2.2.2.2.2.2.2.2.2.2.1,())).bind fun u4=>
    cond (u4.1.1)
     ((Ua (p0.1,p0.2.1,p0.2.2.1,p0.2.2.2.1,p0.2.2.2.2.1,p0.2.2.2.2.2.1,p0.2.2.2.2.2.2.1,p0.2.2.2.2.2.2.2.1,p0.2.2.2.2.2.2.2.2.1,p0.2.2.2.2.2.2.2.2.2.1,p0.2.2.2.2.2.2.2.2.2.2.1,())).bind fun u5=>
     some ((u5.1.1,()),()))
    (some ((false,()),())))
   (some ((false,()),())))
  (some ((false,()),())))
 (some ((false,()),()))
abbrev eW:Type:=ACJ×Unit
def X7(p0:AAO)(p1 p2:Int):Option eW:=
 let x1:Int:=AQ ((p0.length:Int).tdiv 4)
 cond ((decide ((AQ (p1+x1))>p2)))
  (some ((p2,()),()))
 (some ((AQ (p1+x1),()),()))
abbrev gl:Type:=ABw×Unit
abbrev eY:Type:=List Int->Int->Int->Int->Option gl
def Wx(R2:eY)(t0:AAO)(t1 t2 t7:Int):Option gl:=
 cond ((decide (t7<(t0.length:Int))))
  (if(0:Int)<=t7/\t7<(t0.length:Int)then(
  (CR (t0.getD (t7.toNat) 0) t1 t2).bind fun u3=>
  cond (!u3.1.1)
   (some ((false,()),()))
  (cond (decide (t7>0))
   (if(0:Int)<=AQ (t7-1)/\AQ (t7-1)<(t0.length:Int)then(
   if(0:Int)<=t7/\t7<(t0.length:Int)then(
   cond (decide ((t0.getD ((AQ (t7-1)).toNat) 0)>=(t0.getD (t7.toNat) 0)))
    (some ((false,()),()))
   (R2 t0 t1 t2 (AQ (t7+1))))else none)else none)
  (R2 t0 t1 t2 (AQ (t7+1)))))else none)
 (some ((true,()),()))
def Oh:Nat->eY
 |0=>default
 |n+1=>Wx (Oh n)
def fp(R2:eY)(p0:AAO)(p1 p2:Int):Option gl:=
 R2 p0 p1 p2 0
def cE:=fp (Oh AU)
abbrev vZ:Type:=ABw×Unit
def HW(p0:ABt)(p1:AAO):Option vZ:=
 (G8 (p0.1,p0.2.1,())).bind fun u1=>
 cond (u1.1.1)
  ((cE p1 0 (AQ ((p0.1.length:Int)-1))).bind fun u3=>
  some ((u3.1.1,()),()))
 (some ((false,()),()))
abbrev fG:Type:=ACJ×Unit
abbrev bJ:Type:=List Int->Int->Int->List Int->Int->List Bool->Option fG
def eS(R4:bJ)(t1:AAO)(t6 t7:Int)(AG:AAO)(AF:Int)(b1:List Bool):Option fG:=
 cond ((decide (t7<(t1.length:Int))))
  (if(0:Int)<=t7/\t7<(t1.length:Int)then(
  let x3:Int:=(t1.getD (t7.toNat) 0)
  if(0:Int)<=x3/\x3<(AG.length:Int)then(
  let x4:Int:=(AG.getD (x3.toNat) 0)
  if(0:Int)<=x4/\x4<(b1.length:Int)then(
  cond (!(b1.getD (x4.toNat) false))
   (if(0:Int)<=x4/\x4<(b1.length:Int)then(
   R4 t1 (AQ (t6+1)) (AQ (t7+1)) AG AF (b1.set (x4.toNat) true))else none)
  (R4 t1 t6 (AQ (t7+1)) AG AF b1))else none)else none)else none)
 (some ((t6,()),()))
def Qk:Nat->bJ
 |0=>default
 |n+1=>eS (Qk n)
def dS(R4:bJ)(p0:ABt)(p1:AAO):Option fG:=
 R4 p1 0 0 p0.1 p0.2.1 (List.replicate 8 false)
def YS:=dS (Qk AU)
abbrev gp:Type:=ABw×Unit
def FP(p0:ABt)(p1:AAO):Option gp:=
 (HW (p0.1,p0.2.1,()) p1).bind fun u1=>
 cond (u1.1.1)
  ((YS (p0.1,p0.2.1,()) p1).bind fun u2=>
  some (((decide (u2.1.1>=p0.2.1)),()),()))
 (some ((false,()),()))
abbrev rK:Type:=AG7×AHC
def bt:Option rK:=
 some (((1,1,(),()),()),([],()))
abbrev uV:Type:=((AFB×Bool×Unit)×Unit)×AD8
def IL(p0:ABt):Option uV:=
 (G8 (p0.1,p0.2.1,())).bind fun u1=>
 cond (!u1.1.1)
  (some (((((),0,(),(),(),0,(),(),(),(),false,()),false,()),()),([],[],[],[],[],[],[],[],())))
 (if 0+p0.1.length<=C7 then(
 if(0:Int)<=(p0.1.length:Int)/\(p0.1.length:Int)<=(p0.1.length:Int)/\(p0.1.length:Int)<=(C7:Int)then(
 (bt).bind fun u3=>
 (bt).bind fun u4=>
 some (((((),p0.2.1,(),(),(),0,(),(),(),(),false,()),true,()),()),(p0.1,(List.replicate ((p0.1.length:Int).toNat) ([],[],0,())),[],[],[],[],[(u3.1.1.1,u3.1.1.2.1,u3.2.1,()),(u4.1.1.1,u4.1.1.2.1,u4.2.1,())],[],())))else none)else none)
abbrev Ni:Type:=ACJ×Unit
def En(p0 p1:Int):Option Ni:=
 cond (decide (p0>p1))
  (some ((p0,()),()))
 (some ((p1,()),()))
abbrev D2:Type:=ABw×Unit
abbrev fD:Type:=List Int->Int->Int->Option D2
def XG(R2:fD)(t0:AAO)(t1 t5:Int):Option D2:=
 cond ((decide (t5<(t0.length:Int))))
  (if(0:Int)<=t5/\t5<(t0.length:Int)then(
  cond ((t0.getD (t5.toNat) 0)==t1)
   (some ((true,()),()))
  (R2 t0 t1 (AQ (t5+1))))else none)
 (some ((false,()),()))
def Lu:Nat->fD
 |0=>default
 |n+1=>XG (Lu n)
def W5(R2:fD)(p0:AAO)(p1:Int):Option D2:=
 R2 p0 p1 0
def Cf(p0:AAO)(p1:Int):Option D2:=W5 (Lu AU) p0 p1
abbrev iu:Type:=ADC×ADn
abbrev e_:Type:=List Int->Int->Bool->Int->List Int->Option iu
def RI(R4:e_)(t0:AAO)(t1:Int)(t6:Bool)(t7:Int)(b0:AAO):Option iu:=
 cond ((decide (t7<(t0.length:Int))))
  (cond (!t6)
   (if(0:Int)<=t7/\t7<(t0.length:Int)then(
   cond (decide ((t0.getD (t7.toNat) 0)>t1))
    (if b0.length+1<=C7 then(
    if(0:Int)<=t7/\t7<(t0.length:Int)then(
    if(b0++[t1]).length+1<=C7 then(
    R4 t0 t1 true (AQ (t7+1)) ((b0++[t1])++[(t0.getD (t7.toNat) 0)]))else none)else none)else none)
   (if(0:Int)<=t7/\t7<(t0.length:Int)then(
   if b0.length+1<=C7 then(
   R4 t0 t1 t6 (AQ (t7+1)) (b0++[(t0.getD (t7.toNat) 0)]))else none)else none))else none)
  (if(0:Int)<=t7/\t7<(t0.length:Int)then(
  if b0.length+1<=C7 then(
  R4 t0 t1 t6 (AQ (t7+1)) (b0++[(t0.getD (t7.toNat) 0)]))else none)else none))
 (cond (!t6)
  (if b0.length+1<=C7 then(
  some (((),()),(b0++[t1],())))else none)
 (some (((),()),(b0,()))))
def IU:Nat->e_
 |0=>default
 |n+1=>RI (IU n)
def XA(R4:e_)(p0:AAO)(p1:Int):Option iu:=
 (Cf p0 p1).bind fun u1=>
 R4 p0 p1 u1.1.1 0 []
def JH:=XA (IU AU)
abbrev KU:Type:=ADC×AH4
abbrev Rm:Type:=Int->Int->List Int->Int->Int->List Int->Int->List Int->Option KU
def Uy(R4:Rm)(t6 t7:Int)(AG:AAO)(AF AW:Int)(BM:AAO)(A_:Int)(b2:AAO):Option KU:=
 cond (decide (t7<t6))
  ((En (BM.length:Int) 1).bind fun u3=>
  (AJ u3.1.1 AG AF AW).bind fun u4=>
  (JH b2 u4.1.1).bind fun u5=>
  R4 t6 (AQ (t7+1)) u4.2.1.1 u4.2.1.2.1 u4.2.1.2.2.1 BM A_ u5.2.1)
 ((Av 20 AG AF AW).bind fun u6=>
 cond (u6.1.1)
  ((Ch [(-1),0,(BM.length:Int)] u6.2.1.1 u6.2.1.2.1 u6.2.1.2.2.1).bind fun u7=>
  if b2.length+1<=C7 then(
  some (((),()),((u7.2.1.1,u7.2.1.2.1,u7.2.1.2.2.1,()),b2++[u7.1.1],())))else none)
 (some (((),()),((u6.2.1.1,u6.2.1.2.1,u6.2.1.2.2.1,()),b2,()))))
def JY:Nat->Rm
 |0=>default
 |n+1=>Uy (JY n)
def Vn(R4:Rm)(p1:ABt)(AG:AAO)(AF AW:Int):Option KU:=
 (AJ (AQ ((p1.1.length:Int)+2)) AG AF AW).bind fun u2=>
 R4 u2.1.1 0 u2.2.1.1 u2.2.1.2.1 u2.2.1.2.2.1 p1.1 p1.2.1 []
def Ff:=Vn (JY AU)
abbrev Wp:Type:=ADC×AH4
abbrev VS:Type:=Int->List Int->Int->Int->List Int->Int->List Int->Option Wp
def Xx(R3:VS)(t6:Int)(AG:AAO)(AF AW:Int)(BM:AAO)(A_:Int)(b2:AAO):Option Wp:=
 cond ((decide (t6<(BM.length:Int))))
  ((FP (BM,A_,()) b2).bind fun u3=>
  cond (!u3.1.1)
   ((JH b2 t6).bind fun u4=>
   R3 (AQ (t6+1)) AG AF AW BM A_ u4.2.1)
  (some (((),()),((AG,AF,AW,()),b2,()))))
 (some (((),()),((AG,AF,AW,()),b2,())))
def LP:Nat->VS
 |0=>default
 |n+1=>Xx (LP n)
def YR(R3:VS)(p1:ABt)(AG:AAO)(AF AW:Int):Option Wp:=
 (Ff (p1.1,p1.2.1,()) AG AF AW).bind fun u1=>
 R3 0 u1.2.1.1 u1.2.1.2.1 u1.2.1.2.2.1 p1.1 p1.2.1 u1.2.2.1
def Io:=YR (LP AU)
abbrev We:Type:=ACJ×Unit
abbrev Vs:Type:=List Int->Int->Int->Option We
def Xy(R5:Vs)(t0:AAO)(t3 t4:Int):Option We:=
 cond ((decide (t4<(t0.length:Int))))
  (if(0:Int)<=t4/\t4<(t0.length:Int)then(
  let x3:Int:=(t0.getD (t4.toNat) 0)
  if x3<0 then none else(
  R5 t0 (bOr .i64 t3 (AQ (1*2^(min x3.toNat 64)))) (AQ (t4+1))))else none)
 (some ((t3,()),()))
def Lj:Nat->Vs
 |0=>default
 |n+1=>Xy (Lj n)
def Yf(R5:Vs)(p0:AAO):Option We:=
 (cE p0 0 7).bind fun u1=>
 cond (!u1.1.1)
  (some (((-1),()),()))
 (R5 p0 0 0)
def ML:=Yf (Lj AU)
abbrev RN:Type:=ACJ×Unit
abbrev UJ:Type:=Int->AAP->Int->Option RN
def Qj(R2:UJ)(t3:Int)(AG:AAP)(AF:Int):Option RN:=
 cond ((decide (t3<(AG.length:Int))))
  (if(0:Int)<=t3/\t3<(AG.length:Int)then(
  cond (!((AG.getD (t3.toNat) ([],false,0,())).2.1))
   (some ((AQ (t3+1),()),()))
  (R2 (AQ (t3+1)) AG AF))else none)
 (some ((0,()),()))
def I3:Nat->UJ
 |0=>default
 |n+1=>Qj (I3 n)
def YX(R2:UJ)(p0:AB_):Option RN:=
 R2 0 p0.1 p0.2.1
def KQ(p0:AB_):Option RN:=YX (I3 AU) p0
abbrev DY:Type:=ADC×ADn
def CA(p0:AB_)(p1:Int):Option DY:=
 (CR p1 1 (p0.1.length:Int)).bind fun u1=>
 cond (!u1.1.1)
  (some (((),()),([],())))
 (if(0:Int)<=AQ (p1-1)/\AQ (p1-1)<(p0.1.length:Int)then(
 if 0+((p0.1.getD ((AQ (p1-1)).toNat) ([],false,0,())).1).length<=C7 then(
 some (((),()),(((p0.1.getD ((AQ (p1-1)).toNat) ([],false,0,())).1),())))else none)else none)
abbrev TT:Type:=AHn×AD_
abbrev QM:Type:=Int->Int->Int->List Int->Int->Int->List Int->Int->AAZ->List Int->AAP->Int->AAw->AAx->AAp->AAr->Bool->Int->Int->Int->Int->List UInt8->Int->Int->List Int->AAj->Bool->List AAO->Option TT
def Tg(R16:QM)(t7 t8 t9:Int)(AG:AAO)(AF AW:Int)(BM:AAO)(A_:Int)(Bq:AAZ)(Ed:AAO)(Ho:AAP)(F6:Int)(AP2:AAw)(AQW:AAx)(ASJ:AAp)(ARp:AAr)(Ib:Bool)(L9 Pv tz AR9:Int)(kO:ABG)(oC kF:Int)(AQt:AAO)(AQu:AAj)(ARA:Bool)(AII:List AAO):Option TT:=
 cond ((decide (t9<(AII.length:Int))))
  (if(0:Int)<=t9/\t9<(AII.length:Int)then(
  (FP (BM,A_,()) (AII.getD (t9.toNat) [])).bind fun u22=>
  cond (!u22.1.1)
   ((Av 3 AG AF AW).bind fun dD=>
   cond (!dD.1.1)
    (R16 t7 (AQ (t9+1)) (AQ (t9+1)) dD.2.1.1 dD.2.1.2.1 dD.2.1.2.2.1 BM A_ Bq Ed Ho F6 AP2 AQW ASJ ARp Ib L9 Pv tz AR9 kO oC kF AQt AQu ARA AII)
   (R16 t7 t8 (AQ (t9+1)) dD.2.1.1 dD.2.1.2.1 dD.2.1.2.2.1 BM A_ Bq Ed Ho F6 AP2 AQW ASJ ARp Ib L9 Pv tz AR9 kO oC kF AQt AQu ARA AII))
  (R16 t7 t8 (AQ (t9+1)) AG AF AW BM A_ Bq Ed Ho F6 AP2 AQW ASJ ARp Ib L9 Pv tz AR9 kO oC kF AQt AQu ARA AII))else none)
 (some (((11,0,t8,t7,[],()),()),((AG,AF,AW,()),())))
def Gx:Nat->QM
 |0=>default
 |n+1=>Tg (Gx n)
def Ud(R16:QM)(p1:ABx)(AG:AAO)(AF AW:Int):Option TT:=
 cond ((p1.2.2.2.2.2.2.2.1.length:Int)==0)
  (some (((8,0,0,0,[],()),()),((AG,AF,AW,()),())))
 (if(0:Int)<=(0:Int)/\(0:Int)<(p1.2.2.2.2.2.2.2.1.length:Int)then(
 (CA (p1.2.2.2.2.1,p1.2.2.2.2.2.1,()) ((p1.2.2.2.2.2.2.2.1.getD 0 (0,0,[],[],false,[],())).2.1)).bind fun u3=>
 (AJ (u3.2.1.length:Int) AG AF AW).bind fun u5=>
 if(0:Int)<=u5.1.1/\u5.1.1<(u3.2.1.length:Int)then(
 let x6:Int:=(u3.2.1.getD (u5.1.1.toNat) 0)
 cond (!((p1.2.2.2.2.2.2.2.1.getD 0 (0,0,[],[],false,[],())).2.2.2.2.1))
  ((Av 4 u5.2.1.1 u5.2.1.2.1 u5.2.1.2.2.1).bind fun u8=>
  cond (u8.1.1)
   (some (((10,0,0,0,[],()),()),((u8.2.1.1,u8.2.1.2.1,u8.2.1.2.2.1,()),())))
  (cond (!((p1.2.2.2.2.2.2.2.1.getD 0 (0,0,[],[],false,[],())).2.2.2.2.1))
   (some (((9,x6,0,0,[],()),()),((u8.2.1.1,u8.2.1.2.1,u8.2.1.2.2.1,()),())))
  ((Av 6 u8.2.1.1 u8.2.1.2.1 u8.2.1.2.2.1).bind fun EJ=>
  cond (EJ.1.1)
   (some (((12,0,0,0,[],()),()),((EJ.2.1.1,EJ.2.1.2.1,EJ.2.1.2.2.1,()),())))
  ((Av 3 EJ.2.1.1 EJ.2.1.2.1 EJ.2.1.2.2.1).bind fun FY=>
  cond (FY.1.1)
   (some (((4,x6,0,0,[],()),()),((FY.2.1.1,FY.2.1.2.1,FY.2.1.2.2.1,()),())))
  ((En (((p1.2.2.2.2.2.2.2.1.getD 0 (0,0,[],[],false,[],())).2.2.2.2.2.1).length:Int) 1).bind fun L0=>
  (AJ L0.1.1 FY.2.1.1 FY.2.1.2.1 FY.2.1.2.2.1).bind fun Oq=>
  R16 x6 (AQ (1+Oq.1.1)) 0 Oq.2.1.1 Oq.2.1.2.1 Oq.2.1.2.2.1 p1.1 p1.2.1 p1.2.2.1 p1.2.2.2.1 p1.2.2.2.2.1 p1.2.2.2.2.2.1 p1.2.2.2.2.2.2.1 p1.2.2.2.2.2.2.2.1 p1.2.2.2.2.2.2.2.2.1 p1.2.2.2.2.2.2.2.2.2.1 p1.2.2.2.2.2.2.2.2.2.2.1 0 0 0 0 [] ((p1.2.2.2.2.2.2.2.1.getD 0 (0,0,[],[],false,[],())).1) ((p1.2.2.2.2.2.2.2.1.getD 0 (0,0,[],[],false,[],())).2.1) ((p1.2.2.2.2.2.2.2.1.getD 0 (0,0,[],[],false,[],())).2.2.1) ((p1.2.2.2.2.2.2.2.1.getD 0 (0,0,[],[],false,[],())).2.2.2.1) ((p1.2.2.2.2.2.2.2.1.getD 0 (0,0,[],[],false,[],())).2.2.2.2.1) ((p1.2.2.2.2.2.2.2.1.getD 0 (0,0,[],[],false,[],())).2.2.2.2.2.1))))))
 (cond (!((p1.2.2.2.2.2.2.2.1.getD 0 (0,0,[],[],false,[],())).2.2.2.2.1))
  (some (((9,x6,0,0,[],()),()),((u5.2.1.1,u5.2.1.2.1,u5.2.1.2.2.1,()),())))
 ((Av 6 u5.2.1.1 u5.2.1.2.1 u5.2.1.2.2.1).bind fun u16=>
 cond (u16.1.1)
  (some (((12,0,0,0,[],()),()),((u16.2.1.1,u16.2.1.2.1,u16.2.1.2.2.1,()),())))
 ((Av 3 u16.2.1.1 u16.2.1.2.1 u16.2.1.2.2.1).bind fun hO=>
 cond (hO.1.1)
  (some (((4,x6,0,0,[],()),()),((hO.2.1.1,hO.2.1.2.1,hO.2.1.2.2.1,()),())))
 ((En (((p1.2.2.2.2.2.2.2.1.getD 0 (0,0,[],[],false,[],())).2.2.2.2.2.1).length:Int) 1).bind fun cz=>
 (AJ cz.1.1 hO.2.1.1 hO.2.1.2.1 hO.2.1.2.2.1).bind fun Ru=>
 R16 x6 (AQ (1+Ru.1.1)) 0 Ru.2.1.1 Ru.2.1.2.1 Ru.2.1.2.2.1 p1.1 p1.2.1 p1.2.2.1 p1.2.2.2.1 p1.2.2.2.2.1 p1.2.2.2.2.2.1 p1.2.2.2.2.2.2.1 p1.2.2.2.2.2.2.2.1 p1.2.2.2.2.2.2.2.2.1 p1.2.2.2.2.2.2.2.2.2.1 p1.2.2.2.2.2.2.2.2.2.2.1 0 0 0 0 [] ((p1.2.2.2.2.2.2.2.1.getD 0 (0,0,[],[],false,[],())).1) ((p1.2.2.2.2.2.2.2.1.getD 0 (0,0,[],[],false,[],())).2.1) ((p1.2.2.2.2.2.2.2.1.getD 0 (0,0,[],[],false,[],())).2.2.1) ((p1.2.2.2.2.2.2.2.1.getD 0 (0,0,[],[],false,[],())).2.2.2.1) ((p1.2.2.2.2.2.2.2.1.getD 0 (0,0,[],[],false,[],())).2.2.2.2.1) ((p1.2.2.2.2.2.2.2.1.getD 0 (0,0,[],[],false,[],())).2.2.2.2.2.1))))))else none)else none)
def NK:=Ud (Gx AU)
abbrev yT:Type:=AD5×AD_
def Ei(p1:List ABG)(AG:AAO)(AF AW:Int):Option yT:=
 (AJ (p1.length:Int) AG AF AW).bind fun u1=>
 if(0:Int)<=u1.1.1/\u1.1.1<(p1.length:Int)then(
 some (((p1.getD (u1.1.1.toNat) []),()),((u1.2.1.1,u1.2.1.2.1,u1.2.1.2.2.1,()),())))else none
abbrev AAo:Type:=ACJ×Unit
def N1(p0 p1:Int):Option AAo:=
 cond (decide (p0<p1))
  (some ((p0,()),()))
 (some ((p1,()),()))
abbrev l9:Type:=AHn×AD_
def HH(p1:ABx)(AG:AAO)(AF AW:Int):Option l9:=
 (AJ (p1.2.2.2.2.2.2.1.length:Int) AG AF AW).bind fun u2=>
 (Av 3 u2.2.1.1 u2.2.1.2.1 u2.2.1.2.2.1).bind fun u3=>
 cond (!u3.1.1)
  (let x4:Int:=(p1.2.2.2.2.2.2.1.length:Int)
  if(0:Int)<=AQ (x4-1)/\AQ (x4-1)<(p1.2.2.2.2.2.2.1.length:Int)then(
  (CA (p1.2.2.2.2.1,p1.2.2.2.2.2.1,()) ((p1.2.2.2.2.2.2.1.getD ((AQ (x4-1)).toNat) (0,[],())).1)).bind fun u6=>
  (AJ (u6.2.1.length:Int) u3.2.1.1 u3.2.1.2.1 u3.2.1.2.2.1).bind fun u8=>
  if(0:Int)<=u8.1.1/\u8.1.1<(u6.2.1.length:Int)then(
  let x9:Int:=(u6.2.1.getD (u8.1.1.toNat) 0)
  let wx:Int:=(((p1.2.2.2.2.2.2.1.getD ((AQ (x4-1)).toNat) (0,[],())).2.1).length:Int)
  cond (wx==0)
   ((Ei [[],[97],[98,99],[100]] u8.2.1.1 u8.2.1.2.1 u8.2.1.2.2.1).bind fun FY=>
   some (((2,AQ (x4-1),0,0,FY.1.1,()),()),((FY.2.1.1,FY.2.1.2.1,FY.2.1.2.2.1,()),())))
  ((Av 7 u8.2.1.1 u8.2.1.2.1 u8.2.1.2.2.1).bind fun Jq=>
  cond (Jq.1.1)
   ((Ei [[],[97],[98,99],[100]] Jq.2.1.1 Jq.2.1.2.1 Jq.2.1.2.2.1).bind fun L0=>
   some (((2,AQ (x4-1),0,0,L0.1.1,()),()),((L0.2.1.1,L0.2.1.2.1,L0.2.1.2.2.1,()),())))
  ((Av 3 Jq.2.1.1 Jq.2.1.2.1 Jq.2.1.2.2.1).bind fun Oq=>
  cond (Oq.1.1)
   (some (((4,x9,0,0,[],()),()),((Oq.2.1.1,Oq.2.1.2.1,Oq.2.1.2.2.1,()),())))
  ((N1 wx 3).bind fun jR=>
  (AJ jR.1.1 Oq.2.1.1 Oq.2.1.2.1 Oq.2.1.2.2.1).bind fun u16=>
  some (((3,AQ (x4-1),AQ (wx-u16.1.1),x9,[],()),()),((u16.2.1.1,u16.2.1.2.1,u16.2.1.2.2.1,()),()))))))else none)else none)
 (if(0:Int)<=u2.1.1/\u2.1.1<(p1.2.2.2.2.2.2.1.length:Int)then(
 (CA (p1.2.2.2.2.1,p1.2.2.2.2.2.1,()) ((p1.2.2.2.2.2.2.1.getD (u2.1.1.toNat) (0,[],())).1)).bind fun en=>
 (AJ (en.2.1.length:Int) u3.2.1.1 u3.2.1.2.1 u3.2.1.2.2.1).bind fun Ru=>
 if(0:Int)<=Ru.1.1/\Ru.1.1<(en.2.1.length:Int)then(
 let x21:Int:=(en.2.1.getD (Ru.1.1.toNat) 0)
 let x22:Int:=(((p1.2.2.2.2.2.2.1.getD (u2.1.1.toNat) (0,[],())).2.1).length:Int)
 cond (x22==0)
  ((Ei [[],[97],[98,99],[100]] Ru.2.1.1 Ru.2.1.2.1 Ru.2.1.2.2.1).bind fun dD=>
  some (((2,u2.1.1,0,0,dD.1.1,()),()),((dD.2.1.1,dD.2.1.2.1,dD.2.1.2.2.1,()),())))
 ((Av 7 Ru.2.1.1 Ru.2.1.2.1 Ru.2.1.2.2.1).bind fun Sc=>
 cond (Sc.1.1)
  ((Ei [[],[97],[98,99],[100]] Sc.2.1.1 Sc.2.1.2.1 Sc.2.1.2.2.1).bind fun bA=>
  some (((2,u2.1.1,0,0,bA.1.1,()),()),((bA.2.1.1,bA.2.1.2.1,bA.2.1.2.2.1,()),())))
 ((Av 3 Sc.2.1.1 Sc.2.1.2.1 Sc.2.1.2.2.1).bind fun qJ=>
 cond (qJ.1.1)
  (some (((4,x21,0,0,[],()),()),((qJ.2.1.1,qJ.2.1.2.1,qJ.2.1.2.2.1,()),())))
 ((N1 x22 3).bind fun qO=>
 (AJ qO.1.1 qJ.2.1.1 qJ.2.1.2.1 qJ.2.1.2.2.1).bind fun XZ=>
 some (((3,u2.1.1,AQ (x22-XZ.1.1),x21,[],()),()),((XZ.2.1.1,XZ.2.1.2.1,XZ.2.1.2.2.1,()),()))))))else none)else none)
abbrev nj:Type:=AHn×AD_
def Mw(p1:ABx)(AG:AAO)(AF AW:Int):Option nj:=
 cond ((p1.2.2.2.2.2.2.1.length:Int)==0)
  ((Io (p1.1,p1.2.1,()) AG AF AW).bind fun u3=>
  (ML u3.2.2.1).bind fun u4=>
  some (((1,u4.1.1,0,0,[],()),()),((u3.2.1.1,u3.2.1.2.1,u3.2.1.2.2.1,()),())))
 ((Av 30 AG AF AW).bind fun u5=>
 cond (u5.1.1)
  ((Io (p1.1,p1.2.1,()) u5.2.1.1 u5.2.1.2.1 u5.2.1.2.2.1).bind fun u6=>
  (ML u6.2.2.1).bind fun u7=>
  some (((1,u7.1.1,0,0,[],()),()),((u6.2.1.1,u6.2.1.2.1,u6.2.1.2.2.1,()),())))
 ((AJ (p1.2.2.1.length:Int) u5.2.1.1 u5.2.1.2.1 u5.2.1.2.2.1).bind fun u8=>
 (AJ 44 u8.2.1.1 u8.2.1.2.1 u8.2.1.2.2.1).bind fun u9=>
 cond (u9.1.1==0)
  ((AJ 16 u9.2.1.1 u9.2.1.2.1 u9.2.1.2.2.1).bind fun EJ=>
  some (((5,u8.1.1,EJ.1.1,0,[],()),()),((EJ.2.1.1,EJ.2.1.2.1,EJ.2.1.2.2.1,()),())))
 (cond (u9.1.1==1)
  (cond ((p1.2.2.2.1.length:Int)==0)
   (some (((6,u8.1.1,0,0,[],()),()),((u9.2.1.1,u9.2.1.2.1,u9.2.1.2.2.1,()),())))
  ((Av 12 u9.2.1.1 u9.2.1.2.1 u9.2.1.2.2.1).bind fun Jq=>
  cond (Jq.1.1)
   (some (((6,u8.1.1,0,0,[],()),()),((Jq.2.1.1,Jq.2.1.2.1,Jq.2.1.2.2.1,()),())))
  (if(0:Int)<=(0:Int)/\(0:Int)<(p1.2.2.2.1.length:Int)then(
  some (((7,(p1.2.2.2.1.getD 0 0),0,0,[],()),()),((Jq.2.1.1,Jq.2.1.2.1,Jq.2.1.2.2.1,()),())))else none)))
 (cond (u9.1.1==2)
  ((AJ (p1.2.2.2.2.2.2.1.length:Int) u9.2.1.1 u9.2.1.2.1 u9.2.1.2.2.1).bind fun jR=>
  some (((15,jR.1.1,0,0,[],()),()),((jR.2.1.1,jR.2.1.2.1,jR.2.1.2.2.1,()),())))
 (cond (u9.1.1==3)
  ((Av 3 u9.2.1.1 u9.2.1.2.1 u9.2.1.2.2.1).bind fun u16=>
  cond (u16.1.1)
   (cond (decide ((p1.2.2.2.2.2.2.2.2.2.1.length:Int)>0))
    ((AJ (p1.2.2.2.2.2.2.2.2.2.1.length:Int) u16.2.1.1 u16.2.1.2.1 u16.2.1.2.2.1).bind fun cz=>
    if(0:Int)<=cz.1.1/\cz.1.1<(p1.2.2.2.2.2.2.2.2.2.1.length:Int)then(
    some (((13,((p1.2.2.2.2.2.2.2.2.2.1.getD (cz.1.1.toNat) (0,[],false,())).1),0,0,[],()),()),((cz.2.1.1,cz.2.1.2.1,cz.2.1.2.2.1,()),())))else none)
   (some (((16,u8.1.1,0,0,[],()),()),((u16.2.1.1,u16.2.1.2.1,u16.2.1.2.2.1,()),()))))
  (some (((16,u8.1.1,0,0,[],()),()),((u16.2.1.1,u16.2.1.2.1,u16.2.1.2.2.1,()),()))))
 (cond (u9.1.1==4)
  ((Av 2 u9.2.1.1 u9.2.1.2.1 u9.2.1.2.2.1).bind fun et=>
  cond (et.1.1)
   ((AJ 256 et.2.1.1 et.2.1.2.1 et.2.1.2.2.1).bind fun u22=>
   (AJ 2 u22.2.1.1 u22.2.1.2.1 u22.2.1.2.2.1).bind fun dD=>
   some (((14,dD.1.1,u22.1.1,0,[],()),()),((dD.2.1.1,dD.2.1.2.1,dD.2.1.2.2.1,()),())))
  ((AJ 2 et.2.1.1 et.2.1.2.1 et.2.1.2.2.1).bind fun Sc=>
  some (((14,Sc.1.1,255,0,[],()),()),((Sc.2.1.1,Sc.2.1.2.1,Sc.2.1.2.2.1,()),()))))
 (cond (u9.1.1==5)
  ((Av 2 u9.2.1.1 u9.2.1.2.1 u9.2.1.2.2.1).bind fun bA=>
  cond (bA.1.1)
   ((AJ 256 bA.2.1.1 bA.2.1.2.1 bA.2.1.2.2.1).bind fun qJ=>
   (AJ 2 qJ.2.1.1 qJ.2.1.2.1 qJ.2.1.2.2.1).bind fun qO=>
   some (((14,qO.1.1,qJ.1.1,0,[],()),()),((qO.2.1.1,qO.2.1.2.1,qO.2.1.2.2.1,()),())))
  ((AJ 2 bA.2.1.1 bA.2.1.2.1 bA.2.1.2.2.1).bind fun XZ=>
  some (((14,XZ.1.1,255,0,[],()),()),((XZ.2.1.1,XZ.2.1.2.1,XZ.2.1.2.2.1,()),()))))
 (cond (u9.1.1==6)
  ((Av 2 u9.2.1.1 u9.2.1.2.1 u9.2.1.2.2.1).bind fun qL=>
  cond (qL.1.1)
   ((AJ 256 qL.2.1.1 qL.2.1.2.1 qL.2.1.2.2.1).bind fun uy=>
   (AJ 2 uy.2.1.1 uy.2.1.2.1 uy.2.1.2.2.1).bind fun qI=>
   some (((14,qI.1.1,uy.1.1,0,[],()),()),((qI.2.1.1,qI.2.1.2.1,qI.2.1.2.2.1,()),())))
  ((AJ 2 qL.2.1.1 qL.2.1.2.1 qL.2.1.2.2.1).bind fun u32=>
  some (((14,u32.1.1,255,0,[],()),()),((u32.2.1.1,u32.2.1.2.1,u32.2.1.2.2.1,()),()))))
 (cond (u9.1.1==7)
  ((Av 2 u9.2.1.1 u9.2.1.2.1 u9.2.1.2.2.1).bind fun ks=>
  cond (ks.1.1)
   ((AJ 256 ks.2.1.1 ks.2.1.2.1 ks.2.1.2.2.1).bind fun u34=>
   (AJ 2 u34.2.1.1 u34.2.1.2.1 u34.2.1.2.2.1).bind fun u35=>
   some (((14,u35.1.1,u34.1.1,0,[],()),()),((u35.2.1.1,u35.2.1.2.1,u35.2.1.2.2.1,()),())))
  ((AJ 2 ks.2.1.1 ks.2.1.2.1 ks.2.1.2.2.1).bind fun u36=>
  some (((14,u36.1.1,255,0,[],()),()),((u36.2.1.1,u36.2.1.2.1,u36.2.1.2.2.1,()),()))))
 (cond (u9.1.1==8)
  ((Av 2 u9.2.1.1 u9.2.1.2.1 u9.2.1.2.2.1).bind fun tb=>
  cond (tb.1.1)
   ((AJ 256 tb.2.1.1 tb.2.1.2.1 tb.2.1.2.2.1).bind fun u38=>
   (AJ 2 u38.2.1.1 u38.2.1.2.1 u38.2.1.2.2.1).bind fun u39=>
   some (((14,u39.1.1,u38.1.1,0,[],()),()),((u39.2.1.1,u39.2.1.2.1,u39.2.1.2.2.1,()),())))
  ((AJ 2 tb.2.1.1 tb.2.1.2.1 tb.2.1.2.2.1).bind fun u40=>
  some (((14,u40.1.1,255,0,[],()),()),((u40.2.1.1,u40.2.1.2.1,u40.2.1.2.2.1,()),()))))
 (cond (decide ((p1.2.2.2.2.1.length:Int)>1))
  ((KQ (p1.2.2.2.2.1,p1.2.2.2.2.2.1,())).bind fun u43=>
  cond ((decide (u43.1.1<(p1.2.2.2.2.1.length:Int))))
   ((Av 3 u9.2.1.1 u9.2.1.2.1 u9.2.1.2.2.1).bind fun u45=>
   cond (!u45.1.1)
    ((NK (p1.1,p1.2.1,p1.2.2.1,p1.2.2.2.1,p1.2.2.2.2.1,p1.2.2.2.2.2.1,p1.2.2.2.2.2.2.1,p1.2.2.2.2.2.2.2.1,p1.2.2.2.2.2.2.2.2.1,p1.2.2.2.2.2.2.2.2.2.1,p1.2.2.2.2.2.2.2.2.2.2.1,()) u45.2.1.1 u45.2.1.2.1 u45.2.1.2.2.1).bind fun yv=>
    some (((yv.1.1.1,yv.1.1.2.1,yv.1.1.2.2.1,yv.1.1.2.2.2.1,yv.1.1.2.2.2.2.1,()),()),((yv.2.1.1,yv.2.1.2.1,yv.2.1.2.2.1,()),())))
   ((HH (p1.1,p1.2.1,p1.2.2.1,p1.2.2.2.1,p1.2.2.2.2.1,p1.2.2.2.2.2.1,p1.2.2.2.2.2.2.1,p1.2.2.2.2.2.2.2.1,p1.2.2.2.2.2.2.2.2.1,p1.2.2.2.2.2.2.2.2.2.1,p1.2.2.2.2.2.2.2.2.2.2.1,()) u45.2.1.1 u45.2.1.2.1 u45.2.1.2.2.1).bind fun tD=>
   some (((tD.1.1.1,tD.1.1.2.1,tD.1.1.2.2.1,tD.1.1.2.2.2.1,tD.1.1.2.2.2.2.1,()),()),((tD.2.1.1,tD.2.1.2.1,tD.2.1.2.2.1,()),()))))
  ((HH (p1.1,p1.2.1,p1.2.2.1,p1.2.2.2.1,p1.2.2.2.2.1,p1.2.2.2.2.2.1,p1.2.2.2.2.2.2.1,p1.2.2.2.2.2.2.2.1,p1.2.2.2.2.2.2.2.2.1,p1.2.2.2.2.2.2.2.2.2.1,p1.2.2.2.2.2.2.2.2.2.2.1,()) u9.2.1.1 u9.2.1.2.1 u9.2.1.2.2.1).bind fun u48=>
  some (((u48.1.1.1,u48.1.1.2.1,u48.1.1.2.2.1,u48.1.1.2.2.2.1,u48.1.1.2.2.2.2.1,()),()),((u48.2.1.1,u48.2.1.2.1,u48.2.1.2.2.1,()),()))))
 ((HH (p1.1,p1.2.1,p1.2.2.1,p1.2.2.2.1,p1.2.2.2.2.1,p1.2.2.2.2.2.1,p1.2.2.2.2.2.2.1,p1.2.2.2.2.2.2.2.1,p1.2.2.2.2.2.2.2.2.1,p1.2.2.2.2.2.2.2.2.2.1,p1.2.2.2.2.2.2.2.2.2.2.1,()) u9.2.1.1 u9.2.1.2.1 u9.2.1.2.2.1).bind fun yz=>
 some (((yz.1.1.1,yz.1.1.2.1,yz.1.1.2.2.1,yz.1.1.2.2.2.1,yz.1.1.2.2.2.2.1,()),()),((yz.2.1.1,yz.2.1.2.1,yz.2.1.2.2.1,()),()))))))))))))))
abbrev wt:Type:=ABw×Unit
def Ft(p0:Int):Option wt:=
 cond (decide (p0>0))
  ((CR (AQ (p0.tdiv 4294967296)) 1 30).bind fun u2=>
  cond (u2.1.1)
   ((CR (p0.tmod 4294967296) 1 60).bind fun u3=>
   some ((u3.1.1,()),()))
  (some ((false,()),())))
 (some ((false,()),()))
abbrev D7:Type:=ACJ×Unit
def B3(p0:Int):Option D7:=
 (Ft p0).bind fun u1=>
 cond (!u1.1.1)
  (some ((0,()),()))
 (some (((AQ (p0.tdiv 4294967296)),()),()))
abbrev wZ:Type:=ABw×Unit
def NZ(p0:AD4):Option wZ:=
 (Ft p0.1).bind fun u1=>
 cond (!u1.1.1)
  (some ((false,()),()))
 ((CR p0.2.1 0 30).bind fun u2=>
 cond (!u2.1.1)
  (some ((false,()),()))
 (cond (decide (p0.2.1>0))
  ((B3 p0.1).bind fun u3=>
  cond ((decide (p0.2.1<=u3.1.1)))
   (some ((false,()),()))
  (cond (decide ((p0.2.2.2.1.length:Int)>40))
   (some ((false,()),()))
  (cond (!p0.2.2.1)
   (some ((true,()),()))
  (cond (decide (p0.2.1>0))
   (some ((p0.2.2.2.1==[],()),()))
  (some ((false,()),()))))))
 (cond (decide ((p0.2.2.2.1.length:Int)>40))
  (some ((false,()),()))
 (cond (!p0.2.2.1)
  (some ((true,()),()))
 (cond (decide (p0.2.1>0))
  (some ((p0.2.2.2.1==[],()),()))
 (some ((false,()),())))))))
abbrev eU:Type:=ABw×Unit
abbrev bl:Type:=AAj->Int->Option eU
def VL(R4:bl)(t0:AAj)(t5:Int):Option eU:=
 cond ((decide (t5<(t0.length:Int))))
  (if(0:Int)<=t5/\t5<(t0.length:Int)then(
  (NZ ((t0.getD (t5.toNat) (0,0,false,[],())).1,(t0.getD (t5.toNat) (0,0,false,[],())).2.1,(t0.getD (t5.toNat) (0,0,false,[],())).2.2.1,(t0.getD (t5.toNat) (0,0,false,[],())).2.2.2.1,())).bind fun u3=>
  cond (!u3.1.1)
   (some ((false,()),()))
  (R4 t0 (AQ (t5+1))))else none)
 (some ((true,()),()))
def Mi:Nat->bl
 |0=>default
 |n+1=>VL (Mi n)
def eF(R4:bl)(p0:AAj)(p1:Int):Option eU:=
 cond ((decide ((p0.length:Int)>p1)))
  (some ((false,()),()))
 (R4 p0 0)
def YW:=eF (Mi AU)
abbrev iB:Type:=ABw×Unit
abbrev fA:Type:=AAj->Int->Option iB
def Q4(R2:fA)(t0:AAj)(t3:Int):Option iB:=
 cond ((decide (t3<(t0.length:Int))))
  (if(0:Int)<=AQ (t3-1)/\AQ (t3-1)<(t0.length:Int)then(
  if(0:Int)<=t3/\t3<(t0.length:Int)then(
  cond (decide (((t0.getD ((AQ (t3-1)).toNat) (0,0,false,[],())).1)>=((t0.getD (t3.toNat) (0,0,false,[],())).1)))
   (some ((false,()),()))
  (R2 t0 (AQ (t3+1))))else none)else none)
 (some ((true,()),()))
def HB:Nat->fA
 |0=>default
 |n+1=>Q4 (HB n)
def gN(R2:fA)(p0:AAj):Option iB:=
 R2 p0 1
def bM:=gN (HB AU)
abbrev yG:Type:=ABw×Unit
def HR(p0:ACo):Option yG:=
 (YW p0.1 200).bind fun u1=>
 cond (u1.1.1)
  ((YW p0.2.1 20).bind fun u2=>
  cond (u2.1.1)
   ((bM p0.1).bind fun u3=>
   cond (u3.1.1)
    ((CR p0.2.2.1 0 30).bind fun u4=>
    some ((u4.1.1,()),()))
   (some ((false,()),())))
  (some ((false,()),())))
 (some ((false,()),()))
abbrev wb:Type:=ABw×Unit
def iY(p0:ACo):Option wb:=
 cond (((p0.1.length:Int)==0))
  (cond ((p0.2.1.length:Int)==0)
   (some ((p0.2.2.1==0,()),()))
  (some ((false,()),())))
 (some ((false,()),()))
abbrev ZD:Type:=ABw×Unit
abbrev XF:Type:=Int->List Int->Int->AAZ->List Int->AAP->Int->AAw->AAx->AAp->AAr->Bool->Option ZD
def Rp(R4:XF)(t3:Int)(AG:AAO)(AF:Int)(AW:AAZ)(BT:AAO)(Be:AAP)(Ai:Int)(CH:AAw)(CL:AAx)(Bl:AAp)(CE:AAr)(AN:Bool):Option ZD:=
 cond ((decide (t3<(AW.length:Int))))
  (if(0:Int)<=t3/\t3<(AW.length:Int)then(
  (HR ((AW.getD (t3.toNat) ([],[],0,())).1,(AW.getD (t3.toNat) ([],[],0,())).2.1,(AW.getD (t3.toNat) ([],[],0,())).2.2.1,())).bind fun u8=>
  cond (!u8.1.1)
   (some ((false,()),()))
  ((Cf BT t3).bind fun u9=>
  cond (u9.1.1)
   (if(0:Int)<=t3/\t3<(AW.length:Int)then(
   (iY ((AW.getD (t3.toNat) ([],[],0,())).1,(AW.getD (t3.toNat) ([],[],0,())).2.1,(AW.getD (t3.toNat) ([],[],0,())).2.2.1,())).bind fun EJ=>
   cond (!EJ.1.1)
    (some ((false,()),()))
   (R4 (AQ (t3+1)) AG AF AW BT Be Ai CH CL Bl CE AN))else none)
  (R4 (AQ (t3+1)) AG AF AW BT Be Ai CH CL Bl CE AN)))else none)
 (some ((true,()),()))
def J3:Nat->XF
 |0=>default
 |n+1=>Rp (J3 n)
def Zl(R4:XF)(p0:ABx):Option ZD:=
 (G8 (p0.1,p0.2.1,())).bind fun u1=>
 cond (!u1.1.1)
  (some ((false,()),()))
 (cond (((p0.2.2.1.length:Int) !=(p0.1.length:Int)))
  (some ((false,()),()))
 ((HW (p0.1,p0.2.1,()) p0.2.2.2.1).bind fun u4=>
 cond (!u4.1.1)
  (some ((false,()),()))
 ((FP (p0.1,p0.2.1,()) p0.2.2.2.1).bind fun u5=>
 cond (u5.1.1)
  (cond (!p0.2.2.2.2.2.2.2.2.2.2.1)
   (some ((false,()),()))
  (R4 0 p0.1 p0.2.1 p0.2.2.1 p0.2.2.2.1 p0.2.2.2.2.1 p0.2.2.2.2.2.1 p0.2.2.2.2.2.2.1 p0.2.2.2.2.2.2.2.1 p0.2.2.2.2.2.2.2.2.1 p0.2.2.2.2.2.2.2.2.2.1 p0.2.2.2.2.2.2.2.2.2.2.1))
 (R4 0 p0.1 p0.2.1 p0.2.2.1 p0.2.2.2.1 p0.2.2.2.2.1 p0.2.2.2.2.2.1 p0.2.2.2.2.2.2.1 p0.2.2.2.2.2.2.2.1 p0.2.2.2.2.2.2.2.2.1 p0.2.2.2.2.2.2.2.2.2.1 p0.2.2.2.2.2.2.2.2.2.2.1))))
def Xh:=Zl (J3 AU)
abbrev VX:Type:=ABw×Unit
abbrev fB:Type:=Int->Int->List Int->Int->AAP->Int->Option VX
def XM(R5:fB)(t5 t6:Int)(AG:AAO)(AF:Int)(BM:AAP)(A_:Int):Option VX:=
 cond (decide (t6<t5))
  (if(0:Int)<=t6/\t6<(BM.length:Int)then(
  (FP (AG,AF,()) ((BM.getD (t6.toNat) ([],false,0,())).1)).bind fun u6=>
  cond (!u6.1.1)
   (some ((false,()),()))
  ((CR ((BM.getD (t6.toNat) ([],false,0,())).2.2.1) 0 60).bind fun u8=>
  cond (!u8.1.1)
   (some ((false,()),()))
  (cond (!((BM.getD (t6.toNat) ([],false,0,())).2.1))
   (cond (((BM.getD (t6.toNat) ([],false,0,())).2.2.1) !=0)
    (some ((false,()),()))
   (cond (((BM.getD (t6.toNat) ([],false,0,())).2.1))
    (cond (t6==(AQ (t5-1)))
     (some ((false,()),()))
    (cond (decide (t6>0))
     (if(0:Int)<=AQ (t6-1)/\AQ (t6-1)<(BM.length:Int)then(
     cond (!((BM.getD ((AQ (t6-1)).toNat) ([],false,0,())).2.1))
      (some ((false,()),()))
     (R5 t5 (AQ (t6+1)) AG AF BM A_))else none)
    (R5 t5 (AQ (t6+1)) AG AF BM A_)))
   (R5 t5 (AQ (t6+1)) AG AF BM A_)))
  (cond (((BM.getD (t6.toNat) ([],false,0,())).2.1))
   (cond (t6==(AQ (t5-1)))
    (some ((false,()),()))
   (cond (decide (t6>0))
    (if(0:Int)<=AQ (t6-1)/\AQ (t6-1)<(BM.length:Int)then(
    cond (!((BM.getD ((AQ (t6-1)).toNat) ([],false,0,())).2.1))
     (some ((false,()),()))
    (R5 t5 (AQ (t6+1)) AG AF BM A_))else none)
   (R5 t5 (AQ (t6+1)) AG AF BM A_)))
  (R5 t5 (AQ (t6+1)) AG AF BM A_)))))else none)
 (some ((true,()),()))
def L7:Nat->fB
 |0=>default
 |n+1=>XM (L7 n)
def gC(R5:fB)(p0:ABt)(p1:AB_):Option VX:=
 (G8 (p0.1,p0.2.1,())).bind fun u1=>
 cond (!u1.1.1)
  (some ((false,()),()))
 (cond ((decide ((p1.1.length:Int)>30)))
  (some ((false,()),()))
 (cond (p1.2.1 !=0)
  ((Ft p1.2.1).bind fun u3=>
  cond (!u3.1.1)
   (some ((false,()),()))
  ((B3 p1.2.1).bind fun u4=>
  cond ((decide (u4.1.1>(p1.1.length:Int))))
   (some ((false,()),()))
  (R5 (p1.1.length:Int) 0 p0.1 p0.2.1 p1.1 p1.2.1)))
 (R5 (p1.1.length:Int) 0 p0.1 p0.2.1 p1.1 p1.2.1)))
def Nx:=gC (L7 AU)
abbrev OY:Type:=ABw×Unit
abbrev Wf:Type:=Int->Int->List Int->Int->Int->ACa->Option OY
def Zn(R5:Wf)(t5 t6:Int)(AG:AAO)(AF BM:Int)(A_:ACa):Option OY:=
 cond ((decide (t6<(A_.length:Int))))
  (if(0:Int)<=t6/\t6<(A_.length:Int)then(
  cond ((decide ((((A_.getD (t6.toNat) ([],[],false,())).1).length:Int)>40)))
   (some ((false,()),()))
  ((HW (AG,AF,()) ((A_.getD (t6.toNat) ([],[],false,())).2.1)).bind fun u7=>
  cond (!u7.1.1)
   (some ((false,()),()))
  ((FP (AG,AF,()) ((A_.getD (t6.toNat) ([],[],false,())).2.1)).bind fun u9=>
  cond (u9.1.1 !=((A_.getD (t6.toNat) ([],[],false,())).2.2.1))
   (some ((false,()),()))
  (cond (!((A_.getD (t6.toNat) ([],[],false,())).2.2.1))
   (R5 (AQ (t5+1)) (AQ (t6+1)) AG AF BM A_)
  (R5 t5 (AQ (t6+1)) AG AF BM A_)))))else none)
 (some ((decide (t5<=6),()),()))
def M9:Nat->Wf
 |0=>default
 |n+1=>Zn (M9 n)
def Z8(R5:Wf)(p0:ABt)(p1:ACj):Option OY:=
 (G8 (p0.1,p0.2.1,())).bind fun u1=>
 cond (!u1.1.1)
  (some ((false,()),()))
 ((CR p1.1 1 30).bind fun u2=>
 cond (!u2.1.1)
  (some ((false,()),()))
 (cond (decide ((p1.2.1.length:Int)>60))
  (some ((false,()),()))
 (R5 0 0 p0.1 p0.2.1 p1.1 p1.2.1)))
def Jo:=Z8 (M9 AU)
abbrev Fp:Type:=ACJ×Unit
def Ek(p0:Int):Option Fp:=
 (Ft p0).bind fun u1=>
 cond (!u1.1.1)
  (some ((0,()),()))
 (some ((p0.tmod 4294967296,()),()))
abbrev yt:Type:=ACJ×Unit
def Tv(p0:ABv):Option yt:=
 cond ((p0.2.2.2.1.length:Int)==0)
  (some ((0,()),()))
 (let x2:Int:=(p0.2.2.2.1.length:Int)
 if(0:Int)<=AQ (x2-1)/\AQ (x2-1)<(p0.2.2.2.1.length:Int)then(
 (Ek ((p0.2.2.2.1.getD ((AQ (x2-1)).toNat) (0,0,false,[],())).1)).bind fun u4=>
 some ((u4.1.1,()),()))else none)
abbrev Rz:Type:=ABw×Unit
abbrev UH:Type:=Int->List Int->Int->Int->Int->List Int->AAj->Bool->List AAO->Option Rz
abbrev Vh:Type:=Int->List Int->Int->Int->Int->List Int->AAj->Bool->List AAO->Option Rz
def U0(R4:UH)(R9:Vh)(t5:Int)(AG:AAO)(AF BM A_:Int)(Bq:AAO)(Ed:AAj)(Ho:Bool)(F6:List AAO):Option Rz:=
 cond ((decide (t5<(Ed.length:Int))))
  (if(0:Int)<=t5/\t5<(Ed.length:Int)then(
  (NZ ((Ed.getD (t5.toNat) (0,0,false,[],())).1,(Ed.getD (t5.toNat) (0,0,false,[],())).2.1,(Ed.getD (t5.toNat) (0,0,false,[],())).2.2.1,(Ed.getD (t5.toNat) (0,0,false,[],())).2.2.2.1,())).bind fun u7=>
  cond (!u7.1.1)
   (some ((false,()),()))
  (if(0:Int)<=t5/\t5<(Ed.length:Int)then(
  (B3 ((Ed.getD (t5.toNat) (0,0,false,[],())).1)).bind fun u9=>
  cond (u9.1.1 !=A_)
   (some ((false,()),()))
  (if(0:Int)<=t5/\t5<(Ed.length:Int)then(
  cond (decide (((Ed.getD (t5.toNat) (0,0,false,[],())).2.1)>=BM))
   (some ((false,()),()))
  (R4 (AQ (t5+1)) AG AF BM A_ Bq Ed Ho F6))else none))else none))else none)
 (R9 0 AG AF BM A_ Bq Ed Ho F6)
def Vo(R4:UH)(R9:Vh)(t6:Int)(AG:AAO)(AF BM A_:Int)(Bq:AAO)(Ed:AAj)(Ho:Bool)(F6:List AAO):Option Rz:=
 cond ((decide (t6<(F6.length:Int))))
  (if(0:Int)<=t6/\t6<(F6.length:Int)then(
  (HW (AG,AF,()) (F6.getD (t6.toNat) [])).bind fun Jq=>
  cond (!Jq.1.1)
   (some ((false,()),()))
  (R9 (AQ (t6+1)) AG AF BM A_ Bq Ed Ho F6))else none)
 (cond (!Ho)
  (some ((((F6.length:Int)==0),()),()))
 ((Tv (BM,A_,Bq,Ed,Ho,F6,())).bind fun Oq=>
 some ((((F6.length:Int)==Oq.1.1),()),())))
mutual
def KS:Nat->UH
 |0=>default
 |n+1=>U0 (KS n) (Ir n)
def Ir:Nat->Vh
 |0=>default
 |n+1=>Vo (KS n) (Ir n)
end
def dz(R4:UH)(R9:Vh)(p0:ABt)(p1:ABv):Option Rz:=
 (G8 (p0.1,p0.2.1,())).bind fun u1=>
 cond (!u1.1.1)
  (some ((false,()),()))
 ((CR p1.2.1 1 30).bind fun u2=>
 cond (!u2.1.1)
  (some ((false,()),()))
 ((CR p1.1 (AQ (p1.2.1+1)) 30).bind fun u3=>
 cond (!u3.1.1)
  (some ((false,()),()))
 ((HW (p0.1,p0.2.1,()) p1.2.2.1).bind fun u4=>
 cond (!u4.1.1)
  (some ((false,()),()))
 ((bM p1.2.2.2.1).bind fun u5=>
 cond (!u5.1.1)
  (some ((false,()),()))
 (R4 0 p0.1 p0.2.1 p1.1 p1.2.1 p1.2.2.1 p1.2.2.2.1 p1.2.2.2.2.1 p1.2.2.2.2.2.1)))))
def Jv:=dz (KS AU) (Ir AU)
abbrev M7:Type:=ABw×Unit
abbrev Pq:Type:=Int->Int->List Int->Int->AAZ->List Int->AAP->Int->AAw->AAx->AAp->AAr->Bool->Option M7
abbrev Ng:Type:=Int->Int->List Int->Int->AAZ->List Int->AAP->Int->AAw->AAx->AAp->AAr->Bool->Option M7
def QV(R5:Pq)(R10:Ng)(t3 t4:Int)(AG:AAO)(AF:Int)(AW:AAZ)(BT:AAO)(Be:AAP)(Ai:Int)(CH:AAw)(CL:AAx)(Bl:AAp)(CE:AAr)(AN:Bool):Option M7:=
 cond ((decide (t4<(CH.length:Int))))
  (if(0:Int)<=t4/\t4<(CH.length:Int)then(
  (Jo (AG,AF,()) ((CH.getD (t4.toNat) (0,[],())).1,(CH.getD (t4.toNat) (0,[],())).2.1,())).bind fun u6=>
  cond (!u6.1.1)
   (some ((false,()),()))
  (if(0:Int)<=t4/\t4<(CH.length:Int)then(
  cond (decide (((CH.getD (t4.toNat) (0,[],())).1)>t3))
   (some ((false,()),()))
  (cond (decide (t4>0))
   (if(0:Int)<=AQ (t4-1)/\AQ (t4-1)<(CH.length:Int)then(
   if(0:Int)<=t4/\t4<(CH.length:Int)then(
   cond (decide (((CH.getD ((AQ (t4-1)).toNat) (0,[],())).1)>=((CH.getD (t4.toNat) (0,[],())).1)))
    (some ((false,()),()))
   (R5 t3 (AQ (t4+1)) AG AF AW BT Be Ai CH CL Bl CE AN))else none)else none)
  (R5 t3 (AQ (t4+1)) AG AF AW BT Be Ai CH CL Bl CE AN)))else none))else none)
 (R10 t3 0 AG AF AW BT Be Ai CH CL Bl CE AN)
def O0(R5:Pq)(R10:Ng)(t3 t5:Int)(AG:AAO)(AF:Int)(AW:AAZ)(BT:AAO)(Be:AAP)(Ai:Int)(CH:AAw)(CL:AAx)(Bl:AAp)(CE:AAr)(AN:Bool):Option M7:=
 cond ((decide (t5<(CL.length:Int))))
  (if(0:Int)<=t5/\t5<(CL.length:Int)then(
  (Jv (AG,AF,()) ((CL.getD (t5.toNat) (0,0,[],[],false,[],())).1,(CL.getD (t5.toNat) (0,0,[],[],false,[],())).2.1,(CL.getD (t5.toNat) (0,0,[],[],false,[],())).2.2.1,(CL.getD (t5.toNat) (0,0,[],[],false,[],())).2.2.2.1,(CL.getD (t5.toNat) (0,0,[],[],false,[],())).2.2.2.2.1,(CL.getD (t5.toNat) (0,0,[],[],false,[],())).2.2.2.2.2.1,())).bind fun FY=>
  cond (!FY.1.1)
   (some ((false,()),()))
  (cond (((CL.getD (t5.toNat) (0,0,[],[],false,[],())).1) !=t3)
   (some ((false,()),()))
  ((KQ (Be,Ai,())).bind fun Oq=>
  cond (((CL.getD (t5.toNat) (0,0,[],[],false,[],())).2.1) !=Oq.1.1)
   (some ((false,()),()))
  (R10 t3 (AQ (t5+1)) AG AF AW BT Be Ai CH CL Bl CE AN))))else none)
 (some ((true,()),()))
mutual
def HD:Nat->Pq
 |0=>default
 |n+1=>QV (HD n) (FN n)
def FN:Nat->Ng
 |0=>default
 |n+1=>O0 (HD n) (FN n)
end
def YJ(R5:Pq)(R10:Ng)(p0:ABx):Option M7:=
 (Nx (p0.1,p0.2.1,()) (p0.2.2.2.2.1,p0.2.2.2.2.2.1,())).bind fun u2=>
 cond (!u2.1.1)
  (some ((false,()),()))
 (cond (decide ((p0.2.2.2.2.2.2.1.length:Int)>4))
  (some ((false,()),()))
 (cond (decide ((p0.2.2.2.2.2.2.2.1.length:Int)>1))
  (some ((false,()),()))
 (R5 (p0.2.2.2.2.1.length:Int) 0 p0.1 p0.2.1 p0.2.2.1 p0.2.2.2.1 p0.2.2.2.2.1 p0.2.2.2.2.2.1 p0.2.2.2.2.2.2.1 p0.2.2.2.2.2.2.2.1 p0.2.2.2.2.2.2.2.2.1 p0.2.2.2.2.2.2.2.2.2.1 p0.2.2.2.2.2.2.2.2.2.2.1)))
def Vq:=YJ (HD AU) (FN AU)
abbrev uc:Type:=ABw×Unit
def Ou(p0:ADk):Option uc:=
 (CR p0.1 1 31).bind fun u1=>
 cond (u1.1.1)
  ((CR p0.2.1 1 61).bind fun u2=>
  cond (u2.1.1)
   (some ((decide ((p0.2.2.1.length:Int)<=120),()),()))
  (some ((false,()),())))
 (some ((false,()),()))
abbrev cW:Type:=ABw×Unit
abbrev Yw:Type:=Int->List Int->Int->AAZ->List Int->AAP->Int->AAw->AAx->AAp->AAr->Bool->Option cW
def Ta(R4:Yw)(t3:Int)(AG:AAO)(AF:Int)(AW:AAZ)(BT:AAO)(Be:AAP)(Ai:Int)(CH:AAw)(CL:AAx)(Bl:AAp)(CE:AAr)(AN:Bool):Option cW:=
 cond ((decide (t3<(CE.length:Int))))
  (if(0:Int)<=t3/\t3<(CE.length:Int)then(
  (Ft ((CE.getD (t3.toNat) (0,[],false,())).1)).bind fun u4=>
  cond (!u4.1.1)
   (some ((false,()),()))
  ((B3 ((CE.getD (t3.toNat) (0,[],false,())).1)).bind fun u6=>
  cond ((decide (u6.1.1>(Be.length:Int))))
   (some ((false,()),()))
  (cond ((decide ((((CE.getD (t3.toNat) (0,[],false,())).2.1).length:Int)>40)))
   (some ((false,()),()))
  (cond (decide (t3>0))
   (if(0:Int)<=AQ (t3-1)/\AQ (t3-1)<(CE.length:Int)then(
   cond (decide (((CE.getD ((AQ (t3-1)).toNat) (0,[],false,())).1)>=((CE.getD (t3.toNat) (0,[],false,())).1)))
    (some ((false,()),()))
   (R4 (AQ (t3+1)) AG AF AW BT Be Ai CH CL Bl CE AN))else none)
  (R4 (AQ (t3+1)) AG AF AW BT Be Ai CH CL Bl CE AN)))))else none)
 (some ((true,()),()))
def LJ:Nat->Yw
 |0=>default
 |n+1=>Ta (LJ n)
def bd(R4:Yw)(p0:ABx):Option cW:=
 cond (decide ((p0.2.2.2.2.2.2.2.2.2.1.length:Int)>120))
  (some ((false,()),()))
 (R4 0 p0.1 p0.2.1 p0.2.2.1 p0.2.2.2.1 p0.2.2.2.2.1 p0.2.2.2.2.2.1 p0.2.2.2.2.2.2.1 p0.2.2.2.2.2.2.2.1 p0.2.2.2.2.2.2.2.2.1 p0.2.2.2.2.2.2.2.2.2.1 p0.2.2.2.2.2.2.2.2.2.2.1)
def aM:=bd (LJ AU)
abbrev wi:Type:=ABw×Unit
def GZ(p0:ABx):Option wi:=
 (Xh (p0.1,p0.2.1,p0.2.2.1,p0.2.2.2.1,p0.2.2.2.2.1,p0.2.2.2.2.2.1,p0.2.2.2.2.2.2.1,p0.2.2.2.2.2.2.2.1,p0.2.2.2.2.2.2.2.2.1,p0.2.2.2.2.2.2.2.2.2.1,p0.2.2.2.2.2.2.2.2.2.2.1,())).bind fun u1=>
 cond (u1.1.1)
  ((Vq (p0.1,p0.2.1,p0.2.2.1,p0.2.2.2.1,p0.2.2.2.2.1,p0.2.2.2.2.2.1,p0.2.2.2.2.2.2.1,p0.2.2.2.2.2.2.2.1,p0.2.2.2.2.2.2.2.2.1,p0.2.2.2.2.2.2.2.2.2.1,p0.2.2.2.2.2.2.2.2.2.2.1,())).bind fun u2=>
  cond (u2.1.1)
   (cond ((p0.2.2.2.2.2.2.2.2.1.length:Int)==2)
    (if(0:Int)<=(0:Int)/\(0:Int)<(p0.2.2.2.2.2.2.2.2.1.length:Int)then(
    (Ou ((p0.2.2.2.2.2.2.2.2.1.getD 0 (0,0,[],())).1,(p0.2.2.2.2.2.2.2.2.1.getD 0 (0,0,[],())).2.1,(p0.2.2.2.2.2.2.2.2.1.getD 0 (0,0,[],())).2.2.1,())).bind fun u4=>
    cond (u4.1.1)
     (if(0:Int)<=(1:Int)/\(1:Int)<(p0.2.2.2.2.2.2.2.2.1.length:Int)then(
     (Ou ((p0.2.2.2.2.2.2.2.2.1.getD 1 (0,0,[],())).1,(p0.2.2.2.2.2.2.2.2.1.getD 1 (0,0,[],())).2.1,(p0.2.2.2.2.2.2.2.2.1.getD 1 (0,0,[],())).2.2.1,())).bind fun u5=>
     cond (u5.1.1)
      ((aM (p0.1,p0.2.1,p0.2.2.1,p0.2.2.2.1,p0.2.2.2.2.1,p0.2.2.2.2.2.1,p0.2.2.2.2.2.2.1,p0.2.2.2.2.2.2.2.1,p0.2.2.2.2.2.2.2.2.1,p0.2.2.2.2.2.2.2.2.2.1,p0.2.2.2.2.2.2.2.2.2.2.1,())).bind fun u6=>
      some ((u6.1.1,()),()))
     (some ((false,()),())))else none)
    (some ((false,()),())))else none)
   (some ((false,()),())))
  (some ((false,()),())))
 (some ((false,()),()))
abbrev ur:Type:=AHn×Unit
def fW(p0:ADq):Option ur:=
 cond (p0.1==1)
  (some (((p0.1,p0.2.1,0,0,[],()),()),()))
 (cond (p0.1==4)
  (some (((p0.1,p0.2.1,0,0,[],()),()),()))
 (cond (p0.1==6)
  (some (((p0.1,p0.2.1,0,0,[],()),()),()))
 (cond (p0.1==7)
  (some (((p0.1,p0.2.1,0,0,[],()),()),()))
 (cond (p0.1==9)
  (some (((p0.1,p0.2.1,0,0,[],()),()),()))
 (cond (p0.1==13)
  (some (((p0.1,p0.2.1,0,0,[],()),()),()))
 (cond (p0.1==15)
  (some (((p0.1,p0.2.1,0,0,[],()),()),()))
 (cond (p0.1==16)
  (some (((p0.1,p0.2.1,0,0,[],()),()),()))
 (cond (p0.1==2)
  (some (((p0.1,p0.2.1,0,0,p0.2.2.2.2.1,()),()),()))
 (cond (p0.1==3)
  (some (((p0.1,p0.2.1,p0.2.2.1,p0.2.2.2.1,[],()),()),()))
 (cond (p0.1==5)
  (some (((p0.1,p0.2.1,p0.2.2.1,0,[],()),()),()))
 (cond (p0.1==14)
  (some (((p0.1,p0.2.1,p0.2.2.1,0,[],()),()),()))
 (cond (p0.1==11)
  (some (((p0.1,0,p0.2.2.1,p0.2.2.2.1,[],()),()),()))
 (some (((p0.1,0,0,0,[],()),()),()))))))))))))))
abbrev yq:Type:=ABw×Unit
def YP(p0:ADq):Option yq:=
 (CR p0.1 1 16).bind fun u1=>
 cond (u1.1.1)
  ((fW (p0.1,p0.2.1,p0.2.2.1,p0.2.2.2.1,p0.2.2.2.2.1,())).bind fun u2=>
  cond (((p0.1==u2.1.1.1)&&((p0.2.1==u2.1.1.2.1)&&((p0.2.2.1==u2.1.1.2.2.1)&&((p0.2.2.2.1==u2.1.1.2.2.2.1)&&((p0.2.2.2.2.1==u2.1.1.2.2.2.2.1)&&true))))))
   (some ((decide ((p0.2.2.2.2.1.length:Int)<=40),()),()))
  (some ((false,()),())))
 (some ((false,()),()))
abbrev DU:Type:=AEA×AF7
abbrev bW:Type:=Int->AAP->Int->Int->AAP->Int->AAP->Option DU
def eD(R3:bW)(t4:Int)(AG:AAP)(AF A_:Int)(b2:AAP)(kF:Int)(b4:AAP):Option DU:=
 cond ((decide (t4<(AG.length:Int))))
  (if(0:Int)<=t4/\t4<(AG.length:Int)then(
  if 0+((AG.getD (t4.toNat) ([],false,0,())).1).length<=C7 then(
  if b4.length+1<=C7 then(
  R3 (AQ (t4+1)) AG AF A_ b2 kF (b4++[(((AG.getD (t4.toNat) ([],false,0,())).1),(AG.getD (t4.toNat) ([],false,0,())).2.1,(AG.getD (t4.toNat) ([],false,0,())).2.2.1,())]))else none)else none)else none)
 (some ((((),kF,()),()),(b4,())))
def P3:Nat->bW
 |0=>default
 |n+1=>eD (P3 n)
def eQ(R3:bW)(p0:AB_):Option DU:=
 R3 0 p0.1 p0.2.1 0 [] p0.2.1 []
def EL(p0:AB_):Option DU:=eQ (P3 AU) p0
abbrev GJ:Type:=AGa×AEC
def Dh(p0:ACo):Option GJ:=
 if 0+p0.1.length<=C7 then(
 if 0+p0.2.1.length<=C7 then(
 some ((((),(),p0.2.2.1,()),()),(p0.1,p0.2.1,())))else none)else none
abbrev DT:Type:=AGv×AGF
abbrev bc:Type:=Int->Int->ACa->Int->ACa->Int->ACa->Option DT
def Vw(R3:bc)(t4 AG:Int)(AF:ACa)(BM:Int)(b2:ACa)(oC:Int)(b4:ACa):Option DT:=
 cond ((decide (t4<(AF.length:Int))))
  (if(0:Int)<=t4/\t4<(AF.length:Int)then(
  if 0+((AF.getD (t4.toNat) ([],[],false,())).2.1).length<=C7 then(
  if b4.length+1<=C7 then(
  R3 (AQ (t4+1)) AG AF BM b2 oC (b4++[((AF.getD (t4.toNat) ([],[],false,())).1,((AF.getD (t4.toNat) ([],[],false,())).2.1),(AF.getD (t4.toNat) ([],[],false,())).2.2.1,())]))else none)else none)else none)
 (some (((oC,(),()),()),(b4,())))
def KP:Nat->bc
 |0=>default
 |n+1=>Vw (KP n)
def U6(R3:bc)(p0:ACj):Option DT:=
 R3 0 p0.1 p0.2.1 0 [] p0.1 []
def Dg(p0:ACj):Option DT:=U6 (KP AU) p0
abbrev Ef:Type:=AGK×AE2
abbrev bD:Type:=Int->Int->Int->List Int->AAj->Bool->List AAO->Int->Int->Bool->List Int->AAj->List AAO->Int->Int->Bool->List Int->AAj->List AAO->Option Ef
def Vx(R3:bD)(t4 AG AF:Int)(AW:AAO)(BT:AAj)(Be:Bool)(Ai:List AAO)(BM A_:Int)(Ho:Bool)(b2:AAO)(b3:AAj)(b4:List AAO)(AKp AJy:Int)(AKy:Bool)(b6:AAO)(b7:AAj)(b8:List AAO):Option Ef:=
 cond ((decide (t4<(Ai.length:Int))))
  (if(0:Int)<=t4/\t4<(Ai.length:Int)then(
  if 0+(Ai.getD (t4.toNat) []).length<=C7 then(
  if b8.length+1<=C7 then(
  R3 (AQ (t4+1)) AG AF AW BT Be Ai BM A_ Ho b2 b3 b4 AKp AJy AKy b6 b7 (b8++[(Ai.getD (t4.toNat) [])]))else none)else none)else none)
 (some (((AKp,AJy,(),(),AKy,(),()),()),(b6,b7,b8,())))
def Ig:Nat->bD
 |0=>default
 |n+1=>Vx (Ig n)
def Pd(R3:bD)(p0:ABv):Option Ef:=
 if 0+p0.2.2.1.length<=C7 then(
 if 0+p0.2.2.2.1.length<=C7 then(
 R3 0 p0.1 p0.2.1 p0.2.2.1 p0.2.2.2.1 p0.2.2.2.2.1 p0.2.2.2.2.2.1 0 0 false [] [] [] p0.1 p0.2.1 p0.2.2.2.2.1 p0.2.2.1 p0.2.2.2.1 [])else none)else none
def DP:=Pd (Ig AU)
abbrev E5:Type:=AG7×AHC
def Bz(p0:ADk):Option E5:=
 if 0+p0.2.2.1.length<=C7 then(
 some (((p0.1,p0.2.1,(),()),()),(p0.2.2.1,())))else none
abbrev Hb:Type:=AHp×AD8
abbrev LB:Type:=Int->List Int->Int->AAZ->List Int->AAP->Int->AAw->AAx->AAp->AAr->Bool->Int->Int->Bool->List Int->AAZ->List Int->AAP->AAw->AAx->AAp->AAr->Int->Int->Bool->List Int->AAZ->List Int->AAP->AAw->AAx->AAp->AAr->Option Hb
abbrev K9:Type:=Int->List Int->Int->AAZ->List Int->AAP->Int->AAw->AAx->AAp->AAr->Bool->Int->Int->Bool->List Int->AAZ->List Int->AAP->AAw->AAx->AAp->AAr->Int->Int->Bool->List Int->AAZ->List Int->AAP->AAw->AAx->AAp->AAr->Option Hb
abbrev J7:Type:=Int->List Int->Int->AAZ->List Int->AAP->Int->AAw->AAx->AAp->AAr->Bool->Int->Int->Bool->List Int->AAZ->List Int->AAP->AAw->AAx->AAp->AAr->Int->Int->Bool->List Int->AAZ->List Int->AAP->AAw->AAx->AAp->AAr->Option Hb
abbrev KB:Type:=Int->List Int->Int->AAZ->List Int->AAP->Int->AAw->AAx->AAp->AAr->Bool->Int->Int->Bool->List Int->AAZ->List Int->AAP->AAw->AAx->AAp->AAr->Int->Int->Bool->List Int->AAZ->List Int->AAP->AAw->AAx->AAp->AAr->Option Hb
def Yy(uI:AB_->Option DU)(zm:ACo->Option GJ)(ta:ACj->Option DT)(zz:ABv->Option Ef)(zn:ADk->Option E5)(R3:LB)(R7:K9)(oI:J7)(oJ:KB)(t4:Int)(AG:AAO)(AF:Int)(AW:AAZ)(BT:AAO)(Be:AAP)(Ai:Int)(CH:AAw)(CL:AAx)(Bl:AAp)(CE:AAr)(AN:Bool)(A_ F6:Int)(Ib:Bool)(b2:AAO)(b3:AAZ)(b4:AAO)(b5:AAP)(b6:AAw)(b7:AAx)(b8:AAp)(b9:AAr)(GR IK:Int)(Et:Bool)(PX:AAO)(Hi:AAZ)(Pw:AAO)(Pu:AAP)(Iy:AAw)(KK:AAx)(L8:AAp)(gf:AAr):Option Hb:=
 cond ((decide (t4<(AW.length:Int))))
  (if(0:Int)<=t4/\t4<(AW.length:Int)then(
  (zm ((AW.getD (t4.toNat) ([],[],0,())).1,(AW.getD (t4.toNat) ([],[],0,())).2.1,(AW.getD (t4.toNat) ([],[],0,())).2.2.1,())).bind fun APp=>
  if Hi.length+1<=C7 then(
  R3 (AQ (t4+1)) AG AF AW BT Be Ai CH CL Bl CE AN A_ F6 Ib b2 b3 b4 b5 b6 b7 b8 b9 GR IK Et PX (Hi++[(APp.2.1,APp.2.2.1,APp.1.1.2.2.1,())]) Pw Pu Iy KK L8 gf)else none)else none)
 (R7 0 AG AF AW BT Be Ai CH CL Bl CE AN A_ F6 Ib b2 b3 b4 b5 b6 b7 b8 b9 GR IK Et PX Hi Pw Pu Iy KK L8 gf)
def S6:=Yy EL Dh Dg DP Bz
def ZJ(uI:AB_->Option DU)(zm:ACo->Option GJ)(ta:ACj->Option DT)(zz:ABv->Option Ef)(zn:ADk->Option E5)(R3:LB)(R7:K9)(oI:J7)(oJ:KB)(t5:Int)(AG:AAO)(AF:Int)(AW:AAZ)(BT:AAO)(Be:AAP)(Ai:Int)(CH:AAw)(CL:AAx)(Bl:AAp)(CE:AAr)(AN:Bool)(A_ F6:Int)(Ib:Bool)(b2:AAO)(b3:AAZ)(b4:AAO)(b5:AAP)(b6:AAw)(b7:AAx)(b8:AAp)(b9:AAr)(GR IK:Int)(Et:Bool)(PX:AAO)(Hi:AAZ)(Pw:AAO)(Pu:AAP)(Iy:AAw)(KK:AAx)(L8:AAp)(gf:AAr):Option Hb:=
 cond ((decide (t5<(CH.length:Int))))
  (if(0:Int)<=t5/\t5<(CH.length:Int)then(
  (ta ((CH.getD (t5.toNat) (0,[],())).1,(CH.getD (t5.toNat) (0,[],())).2.1,())).bind fun AV7=>
  if Iy.length+1<=C7 then(
  R7 (AQ (t5+1)) AG AF AW BT Be Ai CH CL Bl CE AN A_ F6 Ib b2 b3 b4 b5 b6 b7 b8 b9 GR IK Et PX Hi Pw Pu (Iy++[(AV7.1.1.1,AV7.2.1,())]) KK L8 gf)else none)else none)
 (oI 0 AG AF AW BT Be Ai CH CL Bl CE AN A_ F6 Ib b2 b3 b4 b5 b6 b7 b8 b9 GR IK Et PX Hi Pw Pu Iy KK L8 gf)
def TV:=ZJ EL Dh Dg DP Bz
def XJ(uI:AB_->Option DU)(zm:ACo->Option GJ)(ta:ACj->Option DT)(zz:ABv->Option Ef)(zn:ADk->Option E5)(R3:LB)(R7:K9)(oI:J7)(oJ:KB)(t6:Int)(AG:AAO)(AF:Int)(AW:AAZ)(BT:AAO)(Be:AAP)(Ai:Int)(CH:AAw)(CL:AAx)(Bl:AAp)(CE:AAr)(AN:Bool)(A_ F6:Int)(Ib:Bool)(b2:AAO)(b3:AAZ)(b4:AAO)(b5:AAP)(b6:AAw)(b7:AAx)(b8:AAp)(b9:AAr)(GR IK:Int)(Et:Bool)(PX:AAO)(Hi:AAZ)(Pw:AAO)(Pu:AAP)(Iy:AAw)(KK:AAx)(L8:AAp)(gf:AAr):Option Hb:=
 cond ((decide (t6<(CL.length:Int))))
  (if(0:Int)<=t6/\t6<(CL.length:Int)then(
  (zz ((CL.getD (t6.toNat) (0,0,[],[],false,[],())).1,(CL.getD (t6.toNat) (0,0,[],[],false,[],())).2.1,(CL.getD (t6.toNat) (0,0,[],[],false,[],())).2.2.1,(CL.getD (t6.toNat) (0,0,[],[],false,[],())).2.2.2.1,(CL.getD (t6.toNat) (0,0,[],[],false,[],())).2.2.2.2.1,(CL.getD (t6.toNat) (0,0,[],[],false,[],())).2.2.2.2.2.1,())).bind fun AH0=>
  if KK.length+1<=C7 then(
  oI (AQ (t6+1)) AG AF AW BT Be Ai CH CL Bl CE AN A_ F6 Ib b2 b3 b4 b5 b6 b7 b8 b9 GR IK Et PX Hi Pw Pu Iy (KK++[(AH0.1.1.1,AH0.1.1.2.1,AH0.2.1,AH0.2.2.1,AH0.1.1.2.2.2.2.1,AH0.2.2.2.1,())]) L8 gf)else none)else none)
 (oJ 0 AG AF AW BT Be Ai CH CL Bl CE AN A_ F6 Ib b2 b3 b4 b5 b6 b7 b8 b9 GR IK Et PX Hi Pw Pu Iy KK L8 gf)
def RV:=XJ EL Dh Dg DP Bz
def XN(uI:AB_->Option DU)(zm:ACo->Option GJ)(ta:ACj->Option DT)(zz:ABv->Option Ef)(zn:ADk->Option E5)(R3:LB)(R7:K9)(oI:J7)(oJ:KB)(t7:Int)(AG:AAO)(AF:Int)(AW:AAZ)(BT:AAO)(Be:AAP)(Ai:Int)(CH:AAw)(CL:AAx)(Bl:AAp)(CE:AAr)(AN:Bool)(A_ F6:Int)(Ib:Bool)(b2:AAO)(b3:AAZ)(b4:AAO)(b5:AAP)(b6:AAw)(b7:AAx)(b8:AAp)(b9:AAr)(GR IK:Int)(Et:Bool)(PX:AAO)(Hi:AAZ)(Pw:AAO)(Pu:AAP)(Iy:AAw)(KK:AAx)(L8:AAp)(gf:AAr):Option Hb:=
 cond ((decide (t7<(Bl.length:Int))))
  (if(0:Int)<=t7/\t7<(Bl.length:Int)then(
  (zn ((Bl.getD (t7.toNat) (0,0,[],())).1,(Bl.getD (t7.toNat) (0,0,[],())).2.1,(Bl.getD (t7.toNat) (0,0,[],())).2.2.1,())).bind fun AQj=>
  if L8.length+1<=C7 then(
  oJ (AQ (t7+1)) AG AF AW BT Be Ai CH CL Bl CE AN A_ F6 Ib b2 b3 b4 b5 b6 b7 b8 b9 GR IK Et PX Hi Pw Pu Iy KK (L8++[(AQj.1.1.1,AQj.1.1.2.1,AQj.2.1,())]) gf)else none)else none)
 (some ((((),GR,(),(),(),IK,(),(),(),(),Et,()),()),(PX,Hi,Pw,Pu,Iy,KK,L8,gf,())))
def Rb:=XN EL Dh Dg DP Bz
mutual
def CV:Nat->LB
 |0=>default
 |n+1=>S6 (CV n) (CW n) (B8 n) (B7 n)
def CW:Nat->K9
 |0=>default
 |n+1=>TV (CV n) (CW n) (B8 n) (B7 n)
def B8:Nat->J7
 |0=>default
 |n+1=>RV (CV n) (CW n) (B8 n) (B7 n)
def B7:Nat->KB
 |0=>default
 |n+1=>Rb (CV n) (CW n) (B8 n) (B7 n)
end
def ZV(uI:AB_->Option DU)(zm:ACo->Option GJ)(ta:ACj->Option DT)(zz:ABv->Option Ef)(zn:ADk->Option E5)(R3:LB)(R7:K9)(oI:J7)(oJ:KB)(p0:ABx):Option Hb:=
 if 0+p0.1.length<=C7 then(
 if 0+p0.2.2.2.1.length<=C7 then(
 (uI (p0.2.2.2.2.1,p0.2.2.2.2.2.1,())).bind fun u2=>
 if 0+p0.2.2.2.2.2.2.2.2.2.1.length<=C7 then(
 R3 0 p0.1 p0.2.1 p0.2.2.1 p0.2.2.2.1 p0.2.2.2.2.1 p0.2.2.2.2.2.1 p0.2.2.2.2.2.2.1 p0.2.2.2.2.2.2.2.1 p0.2.2.2.2.2.2.2.2.1 p0.2.2.2.2.2.2.2.2.2.1 p0.2.2.2.2.2.2.2.2.2.2.1 0 0 false [] [] [] [] [] [] [] [] p0.2.1 u2.1.1.2.1 p0.2.2.2.2.2.2.2.2.2.2.1 p0.1 [] p0.2.2.2.1 u2.2.1 [] [] [] p0.2.2.2.2.2.2.2.2.2.1)else none)else none)else none
def TY:=ZV EL Dh Dg DP Bz
def NU:=TY (CV AU) (CW AU) (B8 AU) (B7 AU)
abbrev Wg:Type:=ADC×ADn
abbrev U2:Type:=Int->Int->List Int->Option Wg
def Ql(R3:U2)(t0 t4:Int)(b0:AAO):Option Wg:=
 cond (decide (t4<8))
  ((CR t0 0 255).bind fun u1=>
  cond (u1.1.1)
   (if t4<0 then none else(
   cond (((jq .i64 (t0.fdiv (2^(min t4.toNat 64))) 1)==1))
    (if b0.length+1<=C7 then(
    R3 t0 (AQ (t4+1)) (b0++[t4]))else none)
   (R3 t0 (AQ (t4+1)) b0)))
  (some (((),()),(b0,()))))
 (some (((),()),(b0,())))
def I6:Nat->U2
 |0=>default
 |n+1=>Ql (I6 n)
def Yh(R3:U2)(p0:Int):Option Wg:=
 R3 p0 0 []
def QH:=Yh (I6 AU)
abbrev xU:Type:=(AIz×Unit)×AF7
def bE(uI:AB_->Option DU)(ALy:ABt->List Int->Option gp)(ALx:ABt->AB_->Option VX)(p0:ABt)(p1:AB_)(p2:AAO):Option xU:=
 (ALx (p0.1,p0.2.1,()) (p1.1,p1.2.1,())).bind fun u1=>
 cond (!u1.1.1)
  (some (((((),0,()),0,false,()),()),([],())))
 ((uI (p1.1,p1.2.1,())).bind fun u2=>
 (ALy (p0.1,p0.2.1,()) p2).bind fun u3=>
 cond (!u3.1.1)
  (some (((((),u2.1.1.2.1,()),0,false,()),()),(u2.2.1,())))
 (cond (((p1.1.length:Int)==30))
  (some (((((),u2.1.1.2.1,()),0,false,()),()),(u2.2.1,())))
 (if 0+p2.length<=C7 then(
 if u2.2.1.length+1<=C7 then(
 let x5:AAP:=u2.2.1++[(p2,false,0,())]
 some (((((),u2.1.1.2.1,()),(x5.length:Int),true,()),()),(x5,())))else none)else none)))
def Nw:=bE EL FP Nx
abbrev kG:Type:=AD7×(List Int×AAZ×List Int×Unit×Unit×Unit×AAp×AAr×AAP×AAw×AAx×Unit)
def aa(Cy C6:Int)(Bn:Bool)(p1:ADq)(b0:AAO)(b1:AAZ)(b2:AAO)(b3:AAP)(b4:AAw)(b5:AAx)(b6:AAp)(b7:AAr):Option kG:=
 cond (((b4.length:Int)==4))
  (some (((((),Cy,(),(),(),C6,(),(),(),(),Bn,()),4,()),()),(b0,b1,b2,(),(),(),b6,b7,b3,b4,b5,())))
 ((QH p1.2.1).bind fun u2=>
 (Nw (b0,Cy,()) (b3,C6,()) u2.2.1).bind fun u3=>
 cond (!u3.1.1.2.2.1)
  (some (((((),Cy,(),(),(),C6,(),(),(),(),Bn,()),4,()),()),(b0,b1,b2,(),(),(),b6,b7,b3,b4,b5,())))
 (if b4.length+1<=C7 then(
 some (((((),Cy,(),(),(),u3.1.1.1.2.1,(),(),(),(),Bn,()),0,()),()),(b0,b1,b2,(),(),(),b6,b7,u3.2.1,(b4++[(u3.1.1.2.1,[],())]),[],())))else none))
abbrev rV:Type:=ABw×Unit
def Ms(p0:ABx)(p1:Int):Option rV:=
 (CR p1 0 (AQ ((p0.2.2.2.2.2.2.1.length:Int)-1))).bind fun u2=>
 some ((u2.1.1,()),())
abbrev sQ:Type:=(AJO×Unit)×AGF
def Q9(ta:ACj->Option DT)(AKf:ABt->ACj->Option OY)(p0:ABt)(p1:ACj)(p2:ABG):Option sQ:=
 (AKf (p0.1,p0.2.1,()) (p1.1,p1.2.1,())).bind fun u1=>
 cond (!u1.1.1)
  (some ((((0,(),()),0,false,()),()),([],())))
 ((ta (p1.1,p1.2.1,())).bind fun u2=>
 if u2.2.1.length+1<=C7 then(
 let x3:ACa:=u2.2.1++[(p2,[],false,())]
 (AKf (p0.1,p0.2.1,()) (u2.1.1.1,x3,())).bind fun u4=>
 cond (!u4.1.1)
  ((ta (p1.1,p1.2.1,())).bind fun u5=>
  some ((((u5.1.1.1,(),()),0,false,()),()),(u5.2.1,())))
 (some ((((u2.1.1.1,(),()),(x3.length:Int),true,()),()),(x3,()))))else none)
def HM:=Q9 Dg Jo
abbrev EA:Type:=ACJ×Unit
def Bo(p0 p1:Int):Option EA:=
 some ((AQ ((AQ (4294967296*p0))+p1),()),())
abbrev Oo:Type:=AD7×(List Int×AAZ×List Int×AAP×AAw×AAx×AAp×Unit×AAr×Unit)
abbrev VM:Type:=Int->List Int->AAZ->List Int->AAP->AAw->AAx->AAp->AAr->Int->Int->Bool->Int->Int->Bool->List Int->AAZ->List Int->AAP->AAw->AAx->AAp->AAr->Int->List UInt8->Bool->Option Oo
abbrev Ss:Type:=Bool->Int->List Int->AAZ->List Int->AAP->AAw->AAx->AAp->AAr->Int->Int->Bool->Int->Int->Bool->List Int->AAZ->List Int->AAP->AAw->AAx->AAp->AAr->Int->List UInt8->Bool->AAr->Option Oo
def eK(R9:VM)(R16:Ss)(t10:Int)(b0:AAO)(b1:AAZ)(b2:AAO)(b3:AAP)(b4:AAw)(b5:AAx)(b6:AAp)(b7:AAr)(JK KF:Int)(F4:Bool)(NO TZ:Int)(Kr:Bool)(jo:AAO)(PX:AAZ)(Hi:AAO)(Pw:AAP)(Pu:AAw)(Iy:AAx)(KK:AAp)(L8:AAr)(H3:Int)(JP:ABG)(IJ:Bool):Option Oo:=
 cond ((decide (t10<(b7.length:Int))))
  (if(0:Int)<=t10/\t10<(b7.length:Int)then(
  cond (((b7.getD (t10.toNat) (0,[],false,())).1)==H3)
   (some (((((),JK,(),(),(),KF,(),(),(),(),F4,()),4,()),()),(b0,b1,b2,b3,b4,b5,b6,(),b7,())))
  (R9 (AQ (t10+1)) b0 b1 b2 b3 b4 b5 b6 b7 JK KF F4 NO TZ Kr jo PX Hi Pw Pu Iy KK L8 H3 JP IJ))else none)
 (R16 false 0 b0 b1 b2 b3 b4 b5 b6 b7 JK KF F4 NO TZ Kr jo PX Hi Pw Pu Iy KK L8 H3 JP IJ [])
def bg(R9:VM)(R16:Ss)(t12:Bool)(t13:Int)(b0:AAO)(b1:AAZ)(b2:AAO)(b3:AAP)(b4:AAw)(b5:AAx)(b6:AAp)(b7:AAr)(JK KF:Int)(F4:Bool)(NO TZ:Int)(Kr:Bool)(jo:AAO)(PX:AAZ)(Hi:AAO)(Pw:AAP)(Pu:AAw)(Iy:AAx)(KK:AAp)(L8:AAr)(H3:Int)(JP:ABG)(IJ:Bool)(b19:AAr):Option Oo:=
 cond ((decide (t13<(b7.length:Int))))
  (cond (!t12)
   (if(0:Int)<=t13/\t13<(b7.length:Int)then(
   cond (decide (((b7.getD (t13.toNat) (0,[],false,())).1)>H3))
    (if b19.length+1<=C7 then(
    let x18:AAr:=b19++[(H3,JP,IJ,())]
    if(0:Int)<=t13/\t13<(b7.length:Int)then(
    if x18.length+1<=C7 then(
    R16 true (AQ (t13+1)) b0 b1 b2 b3 b4 b5 b6 b7 JK KF F4 NO TZ Kr jo PX Hi Pw Pu Iy KK L8 H3 JP IJ (x18++[((b7.getD (t13.toNat) (0,[],false,())).1,(b7.getD (t13.toNat) (0,[],false,())).2.1,(b7.getD (t13.toNat) (0,[],false,())).2.2.1,())]))else none)else none)else none)
   (if(0:Int)<=t13/\t13<(b7.length:Int)then(
   if b19.length+1<=C7 then(
   R16 t12 (AQ (t13+1)) b0 b1 b2 b3 b4 b5 b6 b7 JK KF F4 NO TZ Kr jo PX Hi Pw Pu Iy KK L8 H3 JP IJ (b19++[((b7.getD (t13.toNat) (0,[],false,())).1,(b7.getD (t13.toNat) (0,[],false,())).2.1,(b7.getD (t13.toNat) (0,[],false,())).2.2.1,())]))else none)else none))else none)
  (if(0:Int)<=t13/\t13<(b7.length:Int)then(
  if b19.length+1<=C7 then(
  R16 t12 (AQ (t13+1)) b0 b1 b2 b3 b4 b5 b6 b7 JK KF F4 NO TZ Kr jo PX Hi Pw Pu Iy KK L8 H3 JP IJ (b19++[((b7.getD (t13.toNat) (0,[],false,())).1,(b7.getD (t13.toNat) (0,[],false,())).2.1,(b7.getD (t13.toNat) (0,[],false,())).2.2.1,())]))else none)else none))
 (cond (!t12)
  (if b19.length+1<=C7 then(
  some (((((),JK,(),(),(),KF,(),(),(),(),F4,()),0,()),()),(b0,b1,b2,b3,b4,b5,b6,(),(b19++[(H3,JP,IJ,())]),())))else none)
 (some (((((),JK,(),(),(),KF,(),(),(),(),F4,()),0,()),()),(b0,b1,b2,b3,b4,b5,b6,(),b19,()))))
mutual
def Mm:Nat->VM
 |0=>default
 |n+1=>eK (Mm n) (LD n)
def LD:Nat->Ss
 |0=>default
 |n+1=>bg (Mm n) (LD n)
end
def eO(R9:VM)(R16:Ss)(Cy C6:Int)(Bn:Bool)(p1:ADq)(b0:AAO)(b1:AAZ)(b2:AAO)(b3:AAP)(b4:AAw)(b5:AAx)(b6:AAp)(b7:AAr):Option Oo:=
 (Ms (b0,Cy,b1,b2,b3,C6,b4,b5,b6,b7,Bn,()) p1.2.1).bind fun u1=>
 cond (!u1.1.1)
  (some (((((),Cy,(),(),(),C6,(),(),(),(),Bn,()),2,()),()),(b0,b1,b2,b3,b4,b5,b6,(),b7,())))
 (if(0:Int)<=p1.2.1/\p1.2.1<(b4.length:Int)then(
 (HM (b0,Cy,()) ((b4.getD (p1.2.1.toNat) (0,[],())).1,(b4.getD (p1.2.1.toNat) (0,[],())).2.1,()) p1.2.2.2.2.1).bind fun u2=>
 cond (!u2.1.1.2.2.1)
  (some (((((),Cy,(),(),(),C6,(),(),(),(),Bn,()),4,()),()),(b0,b1,b2,b3,b4,b5,b6,(),b7,())))
 (cond (((b7.length:Int)==120))
  (some (((((),Cy,(),(),(),C6,(),(),(),(),Bn,()),4,()),()),(b0,b1,b2,b3,b4,b5,b6,(),b7,())))
 (if(0:Int)<=p1.2.1/\p1.2.1<(b4.length:Int)then(
 (Bo u2.1.1.1.1 u2.1.1.2.1).bind fun u5=>
 R9 0 b0 b1 b2 b3 (b4.set (p1.2.1.toNat) (u2.1.1.1.1,u2.2.1,())) b5 b6 b7 Cy C6 Bn 0 0 false [] [] [] [] [] [] [] [] u5.1.1 p1.2.2.2.2.1 false)else none)))else none)
def dH:=eO (Mm AU) (LD AU)
abbrev yC:Type:=ACJ×Unit
def IQ(p0:ABx)(p1:Int):Option yC:=
 (CR p1 0 (AQ ((p0.2.2.1.length:Int)-1))).bind fun u2=>
 cond (!u2.1.1)
  (some ((2,()),()))
 ((Cf p0.2.2.2.1 p1).bind fun u3=>
 cond (u3.1.1)
  (some ((3,()),()))
 (some ((0,()),())))
abbrev wL:Type:=ABw×Unit
def al(p0:ACo)(p1:AD4):Option wL:=
 cond (p1.2.1==0)
  ((B3 p1.1).bind fun u1=>
  some (((decide (u1.1.1>p0.2.2.1)),()),()))
 (some (((decide (p1.2.1>p0.2.2.1)),()),()))
abbrev uq:Type:=AFG×AEC
def Oi(p0:ACo)(p1:AD4):Option uq:=
 (HR (p0.1,p0.2.1,p0.2.2.1,())).bind fun u1=>
 cond (!u1.1.1)
  (some (((((),(),0,()),false,()),()),([],[],())))
 ((Dh (p0.1,p0.2.1,p0.2.2.1,())).bind fun u2=>
 (NZ (p1.1,p1.2.1,p1.2.2.1,p1.2.2.2.1,())).bind fun u3=>
 cond (!u3.1.1)
  (some (((((),(),u2.1.1.2.2.1,()),false,()),()),(u2.2.1,u2.2.2.1,())))
 ((al (p0.1,p0.2.1,p0.2.2.1,()) (p1.1,p1.2.1,p1.2.2.1,p1.2.2.2.1,())).bind fun u4=>
 cond (!u4.1.1)
  (some (((((),(),u2.1.1.2.2.1,()),false,()),()),(u2.2.1,u2.2.2.1,())))
 (cond ((p0.2.1.length:Int)==20)
  (some (((((),(),u2.1.1.2.2.1,()),false,()),()),(u2.2.1,u2.2.2.1,())))
 (if u2.2.2.1.length+1<=C7 then(
 some (((((),(),u2.1.1.2.2.1,()),true,()),()),(u2.2.1,(u2.2.2.1++[(p1.1,p1.2.1,p1.2.2.1,p1.2.2.2.1,())]),())))else none))))
abbrev jB:Type:=AD7×AD8
def Xb(Cy C6:Int)(Bn:Bool)(p1:ADq)(b0:AAO)(b1:AAZ)(b2:AAO)(b3:AAP)(b4:AAw)(b5:AAx)(b6:AAp)(b7:AAr):Option jB:=
 (Ms (b0,Cy,b1,b2,b3,C6,b4,b5,b6,b7,Bn,()) p1.2.1).bind fun u1=>
 cond (!u1.1.1)
  (some (((((),Cy,(),(),(),C6,(),(),(),(),Bn,()),2,()),()),(b0,b1,b2,b3,b4,b5,b6,b7,())))
 (if(0:Int)<=p1.2.1/\p1.2.1<(b4.length:Int)then(
 (CR p1.2.2.1 1 (((b4.getD (p1.2.1.toNat) (0,[],())).2.1).length:Int)).bind fun u3=>
 cond (!u3.1.1)
  (some (((((),Cy,(),(),(),C6,(),(),(),(),Bn,()),2,()),()),(b0,b1,b2,b3,b4,b5,b6,b7,())))
 ((IQ (b0,Cy,b1,b2,b3,C6,b4,b5,b6,b7,Bn,()) p1.2.2.2.1).bind fun u4=>
 cond (u4.1.1 !=0)
  (some (((((),Cy,(),(),(),C6,(),(),(),(),Bn,()),u4.1.1,()),()),(b0,b1,b2,b3,b4,b5,b6,b7,())))
 ((CA (b3,C6,()) ((b4.getD (p1.2.1.toNat) (0,[],())).1)).bind fun u6=>
 (Cf u6.2.1 p1.2.2.2.1).bind fun u7=>
 cond (!u7.1.1)
  (some (((((),Cy,(),(),(),C6,(),(),(),(),Bn,()),2,()),()),(b0,b1,b2,b3,b4,b5,b6,b7,())))
 (if(0:Int)<=p1.2.2.2.1/\p1.2.2.2.1<(b1.length:Int)then(
 if(0:Int)<=AQ (p1.2.2.1-1)/\AQ (p1.2.2.1-1)<(((b4.getD (p1.2.1.toNat) (0,[],())).2.1).length:Int)then(
 (Bo ((b4.getD (p1.2.1.toNat) (0,[],())).1) p1.2.2.1).bind fun EJ=>
 (Oi ((b1.getD (p1.2.2.2.1.toNat) ([],[],0,())).1,(b1.getD (p1.2.2.2.1.toNat) ([],[],0,())).2.1,(b1.getD (p1.2.2.2.1.toNat) ([],[],0,())).2.2.1,()) (EJ.1.1,0,false,((((b4.getD (p1.2.1.toNat) (0,[],())).2.1).getD ((AQ (p1.2.2.1-1)).toNat) ([],[],false,())).1),())).bind fun FY=>
 cond (!FY.1.1.2.1)
  (some (((((),Cy,(),(),(),C6,(),(),(),(),Bn,()),4,()),()),(b0,b1,b2,b3,b4,b5,b6,b7,())))
 (if(0:Int)<=p1.2.2.2.1/\p1.2.2.2.1<(b1.length:Int)then(
 some (((((),Cy,(),(),(),C6,(),(),(),(),Bn,()),0,()),()),(b0,(b1.set (p1.2.2.2.1.toNat) (FY.2.1,FY.2.2.1,FY.1.1.1.2.2.1,())),b2,b3,b4,b5,b6,b7,())))else none))else none)else none))))else none)
abbrev yk:Type:=AIW×Unit
def T1(p0 p1:AD4):Option yk:=
 cond ((decide (p1.2.1>p0.2.1)))
  (some (((p1.1,p1.2.1,p1.2.2.1,p1.2.2.2.1,()),()),()))
 (some (((p0.1,p0.2.1,p0.2.2.1,p0.2.2.2.1,()),()),()))
abbrev Xq:Type:=ADC×AGg
abbrev bm:Type:=AAj->Bool->Int->Int->Int->Bool->List UInt8->AAj->Option Xq
def Vf(R4:bm)(t0:AAj)(t6:Bool)(t7 AG AF:Int)(AW:Bool)(BT:ABG)(b1:AAj):Option Xq:=
 cond ((decide (t7<(t0.length:Int))))
  (cond (!t6)
   (if(0:Int)<=t7/\t7<(t0.length:Int)then(
   cond (((t0.getD (t7.toNat) (0,0,false,[],())).1)==AG)
    (if(0:Int)<=t7/\t7<(t0.length:Int)then(
    (T1 ((t0.getD (t7.toNat) (0,0,false,[],())).1,(t0.getD (t7.toNat) (0,0,false,[],())).2.1,(t0.getD (t7.toNat) (0,0,false,[],())).2.2.1,(t0.getD (t7.toNat) (0,0,false,[],())).2.2.2.1,()) (AG,AF,AW,BT,())).bind fun u3=>
    if b1.length+1<=C7 then(
    R4 t0 true (AQ (t7+1)) AG AF AW BT (b1++[(u3.1.1.1,u3.1.1.2.1,u3.1.1.2.2.1,u3.1.1.2.2.2.1,())]))else none)else none)
   (cond (!t6)
    (if(0:Int)<=t7/\t7<(t0.length:Int)then(
    cond (decide (((t0.getD (t7.toNat) (0,0,false,[],())).1)>AG))
     (if b1.length+1<=C7 then(
     let x6:AAj:=b1++[(AG,AF,AW,BT,())]
     if(0:Int)<=t7/\t7<(t0.length:Int)then(
     if x6.length+1<=C7 then(
     R4 t0 true (AQ (t7+1)) AG AF AW BT (x6++[((t0.getD (t7.toNat) (0,0,false,[],())).1,(t0.getD (t7.toNat) (0,0,false,[],())).2.1,(t0.getD (t7.toNat) (0,0,false,[],())).2.2.1,(t0.getD (t7.toNat) (0,0,false,[],())).2.2.2.1,())]))else none)else none)else none)
    (if(0:Int)<=t7/\t7<(t0.length:Int)then(
    if b1.length+1<=C7 then(
    R4 t0 t6 (AQ (t7+1)) AG AF AW BT (b1++[((t0.getD (t7.toNat) (0,0,false,[],())).1,(t0.getD (t7.toNat) (0,0,false,[],())).2.1,(t0.getD (t7.toNat) (0,0,false,[],())).2.2.1,(t0.getD (t7.toNat) (0,0,false,[],())).2.2.2.1,())]))else none)else none))else none)
   (if(0:Int)<=t7/\t7<(t0.length:Int)then(
   if b1.length+1<=C7 then(
   R4 t0 t6 (AQ (t7+1)) AG AF AW BT (b1++[((t0.getD (t7.toNat) (0,0,false,[],())).1,(t0.getD (t7.toNat) (0,0,false,[],())).2.1,(t0.getD (t7.toNat) (0,0,false,[],())).2.2.1,(t0.getD (t7.toNat) (0,0,false,[],())).2.2.2.1,())]))else none)else none)))else none)
  (cond (!t6)
   (if(0:Int)<=t7/\t7<(t0.length:Int)then(
   cond (decide (((t0.getD (t7.toNat) (0,0,false,[],())).1)>AG))
    (if b1.length+1<=C7 then(
    let x11:AAj:=b1++[(AG,AF,AW,BT,())]
    if(0:Int)<=t7/\t7<(t0.length:Int)then(
    if x11.length+1<=C7 then(
    R4 t0 true (AQ (t7+1)) AG AF AW BT (x11++[((t0.getD (t7.toNat) (0,0,false,[],())).1,(t0.getD (t7.toNat) (0,0,false,[],())).2.1,(t0.getD (t7.toNat) (0,0,false,[],())).2.2.1,(t0.getD (t7.toNat) (0,0,false,[],())).2.2.2.1,())]))else none)else none)else none)
   (if(0:Int)<=t7/\t7<(t0.length:Int)then(
   if b1.length+1<=C7 then(
   R4 t0 t6 (AQ (t7+1)) AG AF AW BT (b1++[((t0.getD (t7.toNat) (0,0,false,[],())).1,(t0.getD (t7.toNat) (0,0,false,[],())).2.1,(t0.getD (t7.toNat) (0,0,false,[],())).2.2.1,(t0.getD (t7.toNat) (0,0,false,[],())).2.2.2.1,())]))else none)else none))else none)
  (if(0:Int)<=t7/\t7<(t0.length:Int)then(
  if b1.length+1<=C7 then(
  R4 t0 t6 (AQ (t7+1)) AG AF AW BT (b1++[((t0.getD (t7.toNat) (0,0,false,[],())).1,(t0.getD (t7.toNat) (0,0,false,[],())).2.1,(t0.getD (t7.toNat) (0,0,false,[],())).2.2.1,(t0.getD (t7.toNat) (0,0,false,[],())).2.2.2.1,())]))else none)else none)))
 (cond (!t6)
  (if b1.length+1<=C7 then(
  some (((),()),((b1++[(AG,AF,AW,BT,())]),())))else none)
 (some (((),()),(b1,()))))
def Ks:Nat->bm
 |0=>default
 |n+1=>Vf (Ks n)
def dd(R4:bm)(p0:AAj)(p1:AD4):Option Xq:=
 R4 p0 false 0 p1.1 p1.2.1 p1.2.2.1 p1.2.2.2.1 []
def T7(p0:AAj)(p1:AD4):Option Xq:=dd (Ks AU) p0 p1
abbrev Uj:Type:=AFG×AEC
abbrev Tb:Type:=Int->Int->AAj->AAj->Int->Int->AAj->AAj->Int->AAj->AAj->Option Uj
def V5(R5:Tb)(t1 t7:Int)(AG AF:AAj)(AW Bq:Int)(b2 b3:AAj)(Nt:Int)(b5 b6:AAj):Option Uj:=
 cond ((decide (t7<(AF.length:Int))))
  (if t7<0 then none else(
  cond (((jq .i64 (t1.fdiv (2^(min t7.toNat 64))) 1)==1))
   (if(0:Int)<=t7/\t7<(AF.length:Int)then(
   (T7 b5 ((AF.getD (t7.toNat) (0,0,false,[],())).1,(AF.getD (t7.toNat) (0,0,false,[],())).2.1,(AF.getD (t7.toNat) (0,0,false,[],())).2.2.1,(AF.getD (t7.toNat) (0,0,false,[],())).2.2.2.1,())).bind fun u5=>
   R5 t1 (AQ (t7+1)) AG AF AW Bq b2 b3 Nt u5.2.1 b6)else none)
  (R5 t1 (AQ (t7+1)) AG AF AW Bq b2 b3 Nt b5 b6)))
 ((CR t1 0 1048575).bind fun u6=>
 cond (!u6.1.1)
  ((Dh (AG,AF,AW,())).bind fun u7=>
  some (((((),(),u7.1.1.2.2.1,()),false,()),()),(u7.2.1,u7.2.2.1,())))
 (cond ((decide ((b5.length:Int)>200)))
  ((Dh (AG,AF,AW,())).bind fun u9=>
  some (((((),(),u9.1.1.2.2.1,()),false,()),()),(u9.2.1,u9.2.2.1,())))
 (some (((((),(),Nt,()),true,()),()),(b5,b6,())))))
def Kt:Nat->Tb
 |0=>default
 |n+1=>V5 (Kt n)
def WH(R5:Tb)(p0:ACo)(p1:Int):Option Uj:=
 (HR (p0.1,p0.2.1,p0.2.2.1,())).bind fun u1=>
 cond (!u1.1.1)
  (some (((((),(),0,()),false,()),()),([],[],())))
 (if 0+p0.1.length<=C7 then(
 R5 p1 0 p0.1 p0.2.1 p0.2.2.1 0 [] [] p0.2.2.1 p0.1 [])else none)
def Oa:=WH (Kt AU)
abbrev qR:Type:=AFG×AEC
def Kj(p0:ACo):Option qR:=
 (Oa (p0.1,p0.2.1,p0.2.2.1,()) 1048575).bind fun u1=>
 some (((((),(),u1.1.1.1.2.2.1,()),u1.1.1.2.1,()),()),(u1.2.1,u1.2.2.1,()))
abbrev Dy:Type:=AHv×Unit
abbrev ez:Type:=AAj->Int->Int->Int->Int->Bool->List UInt8->Option Dy
def fa(R2:ez)(t0:AAj)(t1 t6 AG AF:Int)(AW:Bool)(BT:ABG):Option Dy:=
 cond ((decide (t6<(t0.length:Int))))
  (if(0:Int)<=t6/\t6<(t0.length:Int)then(
  cond (((t0.getD (t6.toNat) (0,0,false,[],())).1)==t1)
   (if(0:Int)<=t6/\t6<(t0.length:Int)then(
   some (((((t0.getD (t6.toNat) (0,0,false,[],())).1,(t0.getD (t6.toNat) (0,0,false,[],())).2.1,(t0.getD (t6.toNat) (0,0,false,[],())).2.2.1,(t0.getD (t6.toNat) (0,0,false,[],())).2.2.2.1,()),true,()),()),()))else none)
  (R2 t0 t1 (AQ (t6+1)) AG AF AW BT))else none)
 (some ((((0,0,false,[],()),false,()),()),()))
def Rv:Nat->ez
 |0=>default
 |n+1=>fa (Rv n)
def gD(R2:ez)(p0:AAj)(p1:Int):Option Dy:=
 R2 p0 p1 0 0 0 false []
def FM(p0:AAj)(p1:Int):Option Dy:=gD (Rv AU) p0 p1
abbrev DI:Type:=AHz×AGF
def Cj(p0:ABt)(p1:ACj)(p2 p3:Int):Option DI:=
 (Jo (p0.1,p0.2.1,()) (p1.1,p1.2.1,())).bind fun u1=>
 cond (!u1.1.1)
  (some ((((0,(),()),false,()),()),([],())))
 ((Dg (p1.1,p1.2.1,())).bind fun u2=>
 (CR p2 1 (p1.2.1.length:Int)).bind fun u4=>
 cond (!u4.1.1)
  (some ((((u2.1.1.1,(),()),false,()),()),(u2.2.1,())))
 ((CR p3 0 (AQ ((p0.1.length:Int)-1))).bind fun u6=>
 cond (!u6.1.1)
  (some ((((u2.1.1.1,(),()),false,()),()),(u2.2.1,())))
 (if(0:Int)<=AQ (p2-1)/\AQ (p2-1)<(p1.2.1.length:Int)then(
 cond (((p1.2.1.getD ((AQ (p2-1)).toNat) ([],[],false,())).2.2.1))
  (some ((((u2.1.1.1,(),()),false,()),()),(u2.2.1,())))
 (if(0:Int)<=AQ (p2-1)/\AQ (p2-1)<(u2.2.1.length:Int)then(
 (JH ((u2.2.1.getD ((AQ (p2-1)).toNat) ([],[],false,())).2.1) p3).bind fun u8=>
 if(0:Int)<=AQ (p2-1)/\AQ (p2-1)<(u2.2.1.length:Int)then(
 let x9:ACa:=(u2.2.1.set ((AQ (p2-1)).toNat) ((u2.2.1.getD ((AQ (p2-1)).toNat) ([],[],false,())).1,u8.2.1,(u2.2.1.getD ((AQ (p2-1)).toNat) ([],[],false,())).2.2.1,()))
 if(0:Int)<=AQ (p2-1)/\AQ (p2-1)<(x9.length:Int)then(
 (FP (p0.1,p0.2.1,()) ((x9.getD ((AQ (p2-1)).toNat) ([],[],false,())).2.1)).bind fun EJ=>
 if(0:Int)<=AQ (p2-1)/\AQ (p2-1)<(x9.length:Int)then(
 some ((((u2.1.1.1,(),()),true,()),()),((x9.set ((AQ (p2-1)).toNat) ((x9.getD ((AQ (p2-1)).toNat) ([],[],false,())).1,(x9.getD ((AQ (p2-1)).toNat) ([],[],false,())).2.1,EJ.1.1,())),())))else none)else none)else none)else none))else none)))
abbrev sN:Type:=AF1×Unit
def Qr(p0 p1:Int):Option sN:=
 (CR p0 1 30).bind fun u1=>
 cond (!u1.1.1)
  (some (((0,false,()),()),()))
 ((CR p1 1 60).bind fun u2=>
 cond (!u2.1.1)
  (some (((0,false,()),()),()))
 (some (((AQ ((AQ (4294967296*p0))+p1),true,()),()),())))
abbrev DH:Type:=AHv×Unit
def DA(p0:ABv)(p1:Int):Option DH:=
 (Qr p0.2.1 p1).bind fun u1=>
 cond (!p0.2.2.2.2.1)
  (some ((((0,0,false,[],()),false,()),()),()))
 (cond (!u1.1.1.2.1)
  (some ((((0,0,false,[],()),false,()),()),()))
 (cond (decide (p1>(p0.2.2.2.2.2.1.length:Int)))
  (some ((((0,0,false,[],()),false,()),()),()))
 ((FM p0.2.2.2.1 u1.1.1.1).bind fun u3=>
 cond (u3.1.1.2.1)
  (some ((((u1.1.1.1,p0.1,u3.1.1.1.2.2.1,u3.1.1.1.2.2.2.1,()),true,()),()),()))
 (some ((((u1.1.1.1,p0.1,true,[],()),true,()),()),())))))
abbrev CY:Type:=AGM×AE2
def Cv(p0:ABt)(p1:ABv)(p2 p3:Int):Option CY:=
 (Jv (p0.1,p0.2.1,()) (p1.1,p1.2.1,p1.2.2.1,p1.2.2.2.1,p1.2.2.2.2.1,p1.2.2.2.2.2.1,())).bind fun u1=>
 cond (!u1.1.1)
  (some ((((0,0,(),(),false,(),()),false,()),()),([],[],[],())))
 ((DP (p1.1,p1.2.1,p1.2.2.1,p1.2.2.2.1,p1.2.2.2.2.1,p1.2.2.2.2.2.1,())).bind fun u2=>
 (CR p2 1 (p1.2.2.2.2.2.1.length:Int)).bind fun u4=>
 cond (!u4.1.1)
  (some ((((u2.1.1.1,u2.1.1.2.1,(),(),u2.1.1.2.2.2.2.1,(),()),false,()),()),(u2.2.1,u2.2.2.1,u2.2.2.2.1,())))
 ((CR p3 0 (AQ ((p0.1.length:Int)-1))).bind fun u6=>
 cond (!u6.1.1)
  (some ((((u2.1.1.1,u2.1.1.2.1,(),(),u2.1.1.2.2.2.2.1,(),()),false,()),()),(u2.2.1,u2.2.2.1,u2.2.2.2.1,())))
 (if(0:Int)<=AQ (p2-1)/\AQ (p2-1)<(u2.2.2.2.1.length:Int)then(
 (JH (u2.2.2.2.1.getD ((AQ (p2-1)).toNat) []) p3).bind fun u7=>
 if(0:Int)<=AQ (p2-1)/\AQ (p2-1)<(u2.2.2.2.1.length:Int)then(
 some ((((u2.1.1.1,u2.1.1.2.1,(),(),u2.1.1.2.2.2.2.1,(),()),true,()),()),(u2.2.1,u2.2.2.1,(u2.2.2.2.1.set ((AQ (p2-1)).toNat) u7.2.1),())))else none)else none)))
abbrev CP:Type:=AHp×AD8
abbrev JL:Type:=Int->Int->List Int->AAZ->List Int->AAP->AAw->AAx->AAp->AAr->Int->Int->Bool->Int->Int->Bool->List Int->AAZ->List Int->AAP->AAw->AAx->AAp->AAr->AAj->AAj->Int->Option CP
abbrev JI:Type:=Int->Int->Int->Int->Int->Bool->List Int->AAZ->List Int->AAP->AAw->AAx->AAp->AAr->Int->Int->Bool->Int->Int->Bool->List Int->AAZ->List Int->AAP->AAw->AAx->AAp->AAr->AAj->AAj->Int->Int->ACa->Option CP
abbrev ID:Type:=Int->Int->Int->Int->Int->Bool->List Int->AAZ->List Int->AAP->AAw->AAx->AAp->AAr->Int->Int->Bool->Int->Int->Bool->List Int->AAZ->List Int->AAP->AAw->AAx->AAp->AAr->AAj->AAj->Int->Int->ACa->Option CP
abbrev H_:Type:=Int->Int->List Int->AAZ->List Int->AAP->AAw->AAx->AAp->AAr->Int->Int->Bool->Int->Int->Bool->List Int->AAZ->List Int->AAP->AAw->AAx->AAp->AAr->AAj->AAj->Int->Option CP
abbrev IH:Type:=Int->Int->Int->List Int->AAZ->List Int->AAP->AAw->AAx->AAp->AAr->Int->Int->Bool->Int->Int->Bool->List Int->AAZ->List Int->AAP->AAw->AAx->AAp->AAr->AAj->AAj->Int->Int->Int->List Int->AAj->Bool->List AAO->Option CP
def Sn(ZC:List Int->Int->Option D2)(ah:Int->Option D7)(aG:Int->Int->Option EA)(ZK:Int->Option Fp)(ZQ:AB_->Int->Option DY)(aw:ABt->ACj->Int->Int->Option DI)(Oz:ABt->ABv->Int->Int->Option CY)(aK:ABv->Int->Option DH)(Yq:AAj->Int->Option Dy)(R3:JL)(R8:JI)(oJ:ID)(R21:H_)(R25:IH)(t1 t6:Int)(b0:AAO)(b1:AAZ)(b2:AAO)(b3:AAP)(b4:AAw)(b5:AAx)(b6:AAp)(b7:AAr)(JK KF:Int)(F4:Bool)(NO TZ:Int)(Kr:Bool)(jo:AAO)(PX:AAZ)(Hi:AAO)(Pw:AAP)(Pu:AAw)(Iy:AAx)(KK:AAp)(L8:AAr)(H3 JP:AAj)(IJ:Int):Option CP:=
 cond ((decide (t6<(b4.length:Int))))
  (if(0:Int)<=t6/\t6<(b4.length:Int)then(
  (ZQ (b3,KF,()) ((b4.getD (t6.toNat) (0,[],())).1)).bind fun u3=>
  (ZC u3.2.1 t1).bind fun u4=>
  cond (!u4.1.1)
   (R3 t1 (AQ (t6+1)) b0 b1 b2 b3 b4 b5 b6 b7 JK KF F4 NO TZ Kr jo PX Hi Pw Pu Iy KK L8 H3 JP IJ)
  (let x5:Int:=(b4.getD (t6.toNat) (0,[],())).1
  cond (decide (IJ>=x5))
   (R3 t1 (AQ (t6+1)) b0 b1 b2 b3 b4 b5 b6 b7 JK KF F4 NO TZ Kr jo PX Hi Pw Pu Iy KK L8 H3 JP IJ)
  (R8 t1 t6 1 IJ x5 (decide (IJ>=x5)) b0 b1 b2 b3 b4 b5 b6 b7 JK KF F4 NO TZ Kr jo PX Hi Pw Pu Iy KK L8 H3 JP IJ ((b4.getD (t6.toNat) (0,[],())).1) ((b4.getD (t6.toNat) (0,[],())).2.1))))else none)
 (R21 t1 0 b0 b1 b2 b3 b4 b5 b6 b7 JK KF F4 NO TZ Kr jo PX Hi Pw Pu Iy KK L8 H3 JP IJ)
def Na:=Sn Cf B3 Bo Ek CA Cj Cv DA FM
def Sm(ZC:List Int->Int->Option D2)(ah:Int->Option D7)(aG:Int->Int->Option EA)(ZK:Int->Option Fp)(ZQ:AB_->Int->Option DY)(aw:ABt->ACj->Int->Int->Option DI)(Oz:ABt->ABv->Int->Int->Option CY)(aK:ABv->Int->Option DH)(Yq:AAj->Int->Option Dy)(R3:JL)(R8:JI)(oJ:ID)(R21:H_)(R25:IH)(t1 t6 t8 t47 t49:Int)(t50:Bool)(b0:AAO)(b1:AAZ)(b2:AAO)(b3:AAP)(b4:AAw)(b5:AAx)(b6:AAp)(b7:AAr)(JK KF:Int)(F4:Bool)(NO TZ:Int)(Kr:Bool)(jo:AAO)(PX:AAZ)(Hi:AAO)(Pw:AAP)(Pu:AAw)(Iy:AAx)(KK:AAp)(L8:AAr)(H3 JP:AAj)(IJ To:Int)(Hl:ACa):Option CP:=
 cond ((decide (t8<=(Hl.length:Int))))
  ((aG To t8).bind fun u7=>
  (Yq H3 u7.1.1).bind fun u8=>
  cond (!u8.1.1.2.1)
   (R8 t1 t6 (AQ (t8+1)) t47 t49 t50 b0 b1 b2 b3 b4 b5 b6 b7 JK KF F4 NO TZ Kr jo PX Hi Pw Pu Iy KK L8 H3 JP IJ To Hl)
  (cond (u8.1.1.1.2.1 !=0)
   (R8 t1 t6 (AQ (t8+1)) t47 t49 t50 b0 b1 b2 b3 b4 b5 b6 b7 JK KF F4 NO TZ Kr jo PX Hi Pw Pu Iy KK L8 H3 JP IJ To Hl)
  (if(0:Int)<=AQ (t8-1)/\AQ (t8-1)<(Hl.length:Int)then(
  cond (((Hl.getD ((AQ (t8-1)).toNat) ([],[],false,())).2.2.1))
   (R8 t1 t6 (AQ (t8+1)) t47 t49 t50 b0 b1 b2 b3 b4 b5 b6 b7 JK KF F4 NO TZ Kr jo PX Hi Pw Pu Iy KK L8 H3 JP IJ To Hl)
  ((aw (b0,JK,()) (To,Hl,()) t8 t1).bind fun EJ=>
  R8 t1 t6 (AQ (t8+1)) t47 t49 t50 b0 b1 b2 b3 b4 b5 b6 b7 JK KF F4 NO TZ Kr jo PX Hi Pw Pu Iy KK L8 H3 JP IJ EJ.1.1.1.1 EJ.2.1))else none)))
 (if(0:Int)<=t6/\t6<(b4.length:Int)then(
 oJ t1 t6 0 t47 t49 t50 b0 b1 b2 b3 (b4.set (t6.toNat) (To,Hl,())) b5 b6 b7 JK KF F4 NO TZ Kr jo PX Hi Pw Pu Iy KK L8 H3 JP IJ To Hl)else none)
def OB:=Sm Cf B3 Bo Ek CA Cj Cv DA FM
def RO(ZC:List Int->Int->Option D2)(ah:Int->Option D7)(aG:Int->Int->Option EA)(ZK:Int->Option Fp)(ZQ:AB_->Int->Option DY)(aw:ABt->ACj->Int->Int->Option DI)(Oz:ABt->ABv->Int->Int->Option CY)(aK:ABv->Int->Option DH)(Yq:AAj->Int->Option Dy)(R3:JL)(R8:JI)(oJ:ID)(R21:H_)(R25:IH)(t1 t6 t11 t47 t49:Int)(t50:Bool)(b0:AAO)(b1:AAZ)(b2:AAO)(b3:AAP)(b4:AAw)(b5:AAx)(b6:AAp)(b7:AAr)(JK KF:Int)(F4:Bool)(NO TZ:Int)(Kr:Bool)(jo:AAO)(PX:AAZ)(Hi:AAO)(Pw:AAP)(Pu:AAw)(Iy:AAx)(KK:AAp)(L8:AAr)(H3 JP:AAj)(IJ To:Int)(Hl:ACa):Option CP:=
 cond ((decide (t11<(b7.length:Int))))
  (if(0:Int)<=t11/\t11<(b7.length:Int)then(
  let x65:Int:=(b7.getD (t11.toNat) (0,[],false,())).1
  (ah x65).bind fun u66=>
  cond (u66.1.1==To)
   ((ZK x65).bind fun u67=>
   cond ((decide (u67.1.1<=(Hl.length:Int))))
    ((ZK x65).bind fun u69=>
    if(0:Int)<=AQ (u69.1.1-1)/\AQ (u69.1.1-1)<(Hl.length:Int)then(
    cond (((Hl.getD ((AQ (u69.1.1-1)).toNat) ([],[],false,())).2.2.1))
     (if(0:Int)<=t11/\t11<(b7.length:Int)then(
     oJ t1 t6 (AQ (t11+1)) t47 t49 t50 b0 b1 b2 b3 b4 b5 b6 (b7.set (t11.toNat) ((b7.getD (t11.toNat) (0,[],false,())).1,(b7.getD (t11.toNat) (0,[],false,())).2.1,true,())) JK KF F4 NO TZ Kr jo PX Hi Pw Pu Iy KK L8 H3 JP IJ To Hl)else none)
    (oJ t1 t6 (AQ (t11+1)) t47 t49 t50 b0 b1 b2 b3 b4 b5 b6 b7 JK KF F4 NO TZ Kr jo PX Hi Pw Pu Iy KK L8 H3 JP IJ To Hl))else none)
   (oJ t1 t6 (AQ (t11+1)) t47 t49 t50 b0 b1 b2 b3 b4 b5 b6 b7 JK KF F4 NO TZ Kr jo PX Hi Pw Pu Iy KK L8 H3 JP IJ To Hl))
  (oJ t1 t6 (AQ (t11+1)) t47 t49 t50 b0 b1 b2 b3 b4 b5 b6 b7 JK KF F4 NO TZ Kr jo PX Hi Pw Pu Iy KK L8 H3 JP IJ To Hl))else none)
 (R3 t1 (AQ (t6+1)) b0 b1 b2 b3 b4 b5 b6 b7 JK KF F4 NO TZ Kr jo PX Hi Pw Pu Iy KK L8 H3 JP IJ)
def MG:=RO Cf B3 Bo Ek CA Cj Cv DA FM
def RG(ZC:List Int->Int->Option D2)(ah:Int->Option D7)(aG:Int->Int->Option EA)(ZK:Int->Option Fp)(ZQ:AB_->Int->Option DY)(aw:ABt->ACj->Int->Int->Option DI)(Oz:ABt->ABv->Int->Int->Option CY)(aK:ABv->Int->Option DH)(Yq:AAj->Int->Option Dy)(R3:JL)(R8:JI)(oJ:ID)(R21:H_)(R25:IH)(t1 t13:Int)(b0:AAO)(b1:AAZ)(b2:AAO)(b3:AAP)(b4:AAw)(b5:AAx)(b6:AAp)(b7:AAr)(JK KF:Int)(F4:Bool)(NO TZ:Int)(Kr:Bool)(jo:AAO)(PX:AAZ)(Hi:AAO)(Pw:AAP)(Pu:AAw)(Iy:AAx)(KK:AAp)(L8:AAr)(H3 JP:AAj)(IJ:Int):Option CP:=
 cond ((decide (t13<(b5.length:Int))))
  (if(0:Int)<=t13/\t13<(b5.length:Int)then(
  R25 t1 t13 1 b0 b1 b2 b3 b4 b5 b6 b7 JK KF F4 NO TZ Kr jo PX Hi Pw Pu Iy KK L8 H3 JP IJ ((b5.getD (t13.toNat) (0,0,[],[],false,[],())).1) ((b5.getD (t13.toNat) (0,0,[],[],false,[],())).2.1) ((b5.getD (t13.toNat) (0,0,[],[],false,[],())).2.2.1) ((b5.getD (t13.toNat) (0,0,[],[],false,[],())).2.2.2.1) ((b5.getD (t13.toNat) (0,0,[],[],false,[],())).2.2.2.2.1) ((b5.getD (t13.toNat) (0,0,[],[],false,[],())).2.2.2.2.2.1))else none)
 (some ((((),JK,(),(),(),KF,(),(),(),(),F4,()),()),(b0,b1,b2,b3,b4,b5,b6,b7,())))
def MB:=RG Cf B3 Bo Ek CA Cj Cv DA FM
def MW(ZC:List Int->Int->Option D2)(ah:Int->Option D7)(aG:Int->Int->Option EA)(ZK:Int->Option Fp)(ZQ:AB_->Int->Option DY)(aw:ABt->ACj->Int->Int->Option DI)(Oz:ABt->ABv->Int->Int->Option CY)(aK:ABv->Int->Option DH)(Yq:AAj->Int->Option Dy)(R3:JL)(R8:JI)(oJ:ID)(R21:H_)(R25:IH)(t1 t13 t15:Int)(b0:AAO)(b1:AAZ)(b2:AAO)(b3:AAP)(b4:AAw)(b5:AAx)(b6:AAp)(b7:AAr)(JK KF:Int)(F4:Bool)(NO TZ:Int)(Kr:Bool)(jo:AAO)(PX:AAZ)(Hi:AAO)(Pw:AAP)(Pu:AAw)(Iy:AAx)(KK:AAp)(L8:AAr)(H3 JP:AAj)(IJ To Hl:Int)(zR:AAO)(AAC:AAj)(AAM:Bool)(mf:List AAO):Option CP:=
 if(0:Int)<=t13/\t13<(b5.length:Int)then(
 cond (decide (t15<=(((b5.getD (t13.toNat) (0,0,[],[],false,[],())).2.2.2.2.2.1).length:Int)))
  ((ZQ (b3,KF,()) Hl).bind fun u74=>
  (ZC u74.2.1 t1).bind fun u75=>
  cond (u75.1.1)
   ((aK (To,Hl,zR,AAC,AAM,mf,()) t15).bind fun u76=>
   (Yq H3 u76.1.1.1.1).bind fun u77=>
   cond (u77.1.1.2.1)
    (cond (((u77.1.1.1.1==u76.1.1.1.1)&&((u77.1.1.1.2.1==u76.1.1.1.2.1)&&((u77.1.1.1.2.2.1==u76.1.1.1.2.2.1)&&((u77.1.1.1.2.2.2.1==u76.1.1.1.2.2.2.1)&&true)))))
     ((Oz (b0,JK,()) (To,Hl,zR,AAC,AAM,mf,()) t15 t1).bind fun u79=>
     R25 t1 t13 (AQ (t15+1)) b0 b1 b2 b3 b4 b5 b6 b7 JK KF F4 NO TZ Kr jo PX Hi Pw Pu Iy KK L8 H3 JP IJ u79.1.1.1.1 u79.1.1.1.2.1 u79.2.1 u79.2.2.1 u79.1.1.1.2.2.2.2.1 u79.2.2.2.1)
    (R25 t1 t13 (AQ (t15+1)) b0 b1 b2 b3 b4 b5 b6 b7 JK KF F4 NO TZ Kr jo PX Hi Pw Pu Iy KK L8 H3 JP IJ To Hl zR AAC AAM mf))
   (R25 t1 t13 (AQ (t15+1)) b0 b1 b2 b3 b4 b5 b6 b7 JK KF F4 NO TZ Kr jo PX Hi Pw Pu Iy KK L8 H3 JP IJ To Hl zR AAC AAM mf))
  (if(0:Int)<=t13/\t13<(b5.length:Int)then(
  R21 t1 (AQ (t13+1)) b0 b1 b2 b3 b4 (b5.set (t13.toNat) (To,Hl,zR,AAC,AAM,mf,())) b6 b7 JK KF F4 NO TZ Kr jo PX Hi Pw Pu Iy KK L8 H3 JP IJ)else none))
 (if(0:Int)<=t13/\t13<(b5.length:Int)then(
 R21 t1 (AQ (t13+1)) b0 b1 b2 b3 b4 (b5.set (t13.toNat) (To,Hl,zR,AAC,AAM,mf,())) b6 b7 JK KF F4 NO TZ Kr jo PX Hi Pw Pu Iy KK L8 H3 JP IJ)else none))else none
def JX:=MW Cf B3 Bo Ek CA Cj Cv DA FM
mutual
def Bb:Nat->JL
 |0=>default
 |n+1=>Na (Bb n) (Bh n) (BO n) (BZ n) (BV n)
def Bh:Nat->JI
 |0=>default
 |n+1=>OB (Bb n) (Bh n) (BO n) (BZ n) (BV n)
def BO:Nat->ID
 |0=>default
 |n+1=>MG (Bb n) (Bh n) (BO n) (BZ n) (BV n)
def BZ:Nat->H_
 |0=>default
 |n+1=>MB (Bb n) (Bh n) (BO n) (BZ n) (BV n)
def BV:Nat->IH
 |0=>default
 |n+1=>JX (Bb n) (Bh n) (BO n) (BZ n) (BV n)
end
def Za(ZC:List Int->Int->Option D2)(ah:Int->Option D7)(aG:Int->Int->Option EA)(ZK:Int->Option Fp)(ZQ:AB_->Int->Option DY)(aw:ABt->ACj->Int->Int->Option DI)(Oz:ABt->ABv->Int->Int->Option CY)(aK:ABv->Int->Option DH)(Yq:AAj->Int->Option Dy)(R3:JL)(R8:JI)(oJ:ID)(R21:H_)(R25:IH)(Cy C6:Int)(Bn:Bool)(p1:Int)(b0:AAO)(b1:AAZ)(b2:AAO)(b3:AAP)(b4:AAw)(b5:AAx)(b6:AAp)(b7:AAr):Option CP:=
 if(0:Int)<=p1/\p1<(b1.length:Int)then(
 R3 p1 0 b0 b1 b2 b3 b4 b5 b6 b7 Cy C6 Bn 0 0 false [] [] [] [] [] [] [] [] ((b1.getD (p1.toNat) ([],[],0,())).1) ((b1.getD (p1.toNat) ([],[],0,())).2.1) ((b1.getD (p1.toNat) ([],[],0,())).2.2.1))else none
def S_:=Za Cf B3 Bo Ek CA Cj Cv DA FM
def af:=S_ (Bb AU) (Bh AU) (BO AU) (BZ AU) (BV AU)
abbrev wv:Type:=AD7×AD8
def aT(Cy C6:Int)(Bn:Bool)(p1:ADq)(b0:AAO)(b1:AAZ)(b2:AAO)(b3:AAP)(b4:AAw)(b5:AAx)(b6:AAp)(b7:AAr):Option wv:=
 (IQ (b0,Cy,b1,b2,b3,C6,b4,b5,b6,b7,Bn,()) p1.2.1).bind fun u1=>
 cond (u1.1.1 !=0)
  (some (((((),Cy,(),(),(),C6,(),(),(),(),Bn,()),u1.1.1,()),()),(b0,b1,b2,b3,b4,b5,b6,b7,())))
 (if(0:Int)<=p1.2.1/\p1.2.1<(b1.length:Int)then(
 (Kj ((b1.getD (p1.2.1.toNat) ([],[],0,())).1,(b1.getD (p1.2.1.toNat) ([],[],0,())).2.1,(b1.getD (p1.2.1.toNat) ([],[],0,())).2.2.1,())).bind fun u2=>
 cond (!u2.1.1.2.1)
  (some (((((),Cy,(),(),(),C6,(),(),(),(),Bn,()),4,()),()),(b0,b1,b2,b3,b4,b5,b6,b7,())))
 (if(0:Int)<=p1.2.1/\p1.2.1<(b1.length:Int)then(
 (af Cy C6 Bn p1.2.1 b0 (b1.set (p1.2.1.toNat) (u2.2.1,u2.2.2.1,u2.1.1.1.2.2.1,())) b2 b3 b4 b5 b6 b7).bind fun u4=>
 some (((((),u4.1.1.2.1,(),(),(),u4.1.1.2.2.2.2.2.1,(),(),(),(),u4.1.1.2.2.2.2.2.2.2.2.2.2.1,()),0,()),()),(u4.2.1,u4.2.2.1,u4.2.2.2.1,u4.2.2.2.2.1,u4.2.2.2.2.2.1,u4.2.2.2.2.2.2.1,u4.2.2.2.2.2.2.2.1,u4.2.2.2.2.2.2.2.2.1,())))else none))else none)
abbrev Xo:Type:=ADC×ADn
abbrev cw:Type:=List Int->List Int->Int->List Int->Option Xo
def dL(R3:cw)(t0 t1:AAO)(t6:Int)(b0:AAO):Option Xo:=
 cond ((decide (t6<(t0.length:Int))))
  (if(0:Int)<=t6/\t6<(t0.length:Int)then(
  (Cf t1 (t0.getD (t6.toNat) 0)).bind fun u3=>
  cond (!u3.1.1)
   (if(0:Int)<=t6/\t6<(t0.length:Int)then(
   if b0.length+1<=C7 then(
   R3 t0 t1 (AQ (t6+1)) (b0++[(t0.getD (t6.toNat) 0)]))else none)else none)
  (R3 t0 t1 (AQ (t6+1)) b0))else none)
 (some (((),()),(b0,())))
def Qh:Nat->cw
 |0=>default
 |n+1=>dL (Qh n)
def dt(R3:cw)(p0 p1:AAO):Option Xo:=
 R3 p0 p1 0 []
def Jy(p0 p1:AAO):Option Xo:=dt (Qh AU) p0 p1
abbrev Rr:Type:=AHz×AGF
abbrev QN:Type:=Int->Int->Int->ACa->Int->ACa->Option Rr
def T2(R5:QN)(t2 t9 AG:Int)(b1:ACa)(L9:Int)(b3:ACa):Option Rr:=
 cond ((decide (t9<(b3.length:Int))))
  (if(0:Int)<=t9/\t9<(b3.length:Int)then(
  cond (!((b3.getD (t9.toNat) ([],[],false,())).2.2.1))
   (if(0:Int)<=t9/\t9<(b3.length:Int)then(
   (Jy ((b3.getD (t9.toNat) ([],[],false,())).2.1) [t2]).bind fun u5=>
   if(0:Int)<=t9/\t9<(b3.length:Int)then(
   R5 t2 (AQ (t9+1)) AG b1 L9 (b3.set (t9.toNat) ((b3.getD (t9.toNat) ([],[],false,())).1,u5.2.1,(b3.getD (t9.toNat) ([],[],false,())).2.2.1,())))else none)else none)
  (R5 t2 (AQ (t9+1)) AG b1 L9 b3))else none)
 (some ((((L9,(),()),true,()),()),(b3,())))
def IY:Nat->QN
 |0=>default
 |n+1=>T2 (IY n)
def Th(R5:QN)(p0:ABt)(p1:ACj)(p2:Int):Option Rr:=
 (Jo (p0.1,p0.2.1,()) (p1.1,p1.2.1,())).bind fun u1=>
 cond (!u1.1.1)
  (some ((((0,(),()),false,()),()),([],())))
 ((Dg (p1.1,p1.2.1,())).bind fun u2=>
 R5 p2 0 0 [] u2.1.1.1 u2.2.1)
def Pe:=Th (IY AU)
abbrev Uv:Type:=AGM×AE2
abbrev TF:Type:=Int->Int->Int->Int->Bool->List Int->AAj->List AAO->Int->Int->Bool->List Int->AAj->List AAO->Option Uv
def WC(R5:TF)(t2 t9 AG AF:Int)(Be:Bool)(b1:AAO)(b2:AAj)(b3:List AAO)(p9 mG:Int)(AC2:Bool)(b5:AAO)(b6:AAj)(b7:List AAO):Option Uv:=
 cond ((decide (t9<(b7.length:Int))))
  (if(0:Int)<=t9/\t9<(b7.length:Int)then(
  (Jy (b7.getD (t9.toNat) []) [t2]).bind fun u4=>
  if(0:Int)<=t9/\t9<(b7.length:Int)then(
  R5 t2 (AQ (t9+1)) AG AF Be b1 b2 b3 p9 mG AC2 b5 b6 (b7.set (t9.toNat) u4.2.1))else none)else none)
 (some ((((p9,mG,(),(),AC2,(),()),true,()),()),(b5,b6,b7,())))
def Ki:Nat->TF
 |0=>default
 |n+1=>WC (Ki n)
def V8(R5:TF)(p0:ABt)(p1:ABv)(p2:Int):Option Uv:=
 (Jv (p0.1,p0.2.1,()) (p1.1,p1.2.1,p1.2.2.1,p1.2.2.2.1,p1.2.2.2.2.1,p1.2.2.2.2.2.1,())).bind fun u1=>
 cond (!u1.1.1)
  (some ((((0,0,(),(),false,(),()),false,()),()),([],[],[],())))
 ((DP (p1.1,p1.2.1,p1.2.2.1,p1.2.2.2.1,p1.2.2.2.2.1,p1.2.2.2.2.2.1,())).bind fun u2=>
 R5 p2 0 0 0 false [] [] [] u2.1.1.1 u2.1.1.2.1 u2.1.1.2.2.2.2.1 u2.2.1 u2.2.2.1 u2.2.2.2.1)
def Su:=V8 (Ki AU)
abbrev Mo:Type:=AD7×AJQ
abbrev Sb:Type:=Int->List Int->AAZ->List Int->AAP->AAw->AAx->AAp->AAr->Int->Int->Bool->List Int->Int->Int->Int->Int->List UInt8->Int->Int->Bool->List Int->AAZ->List Int->AAP->AAw->AAx->AAp->AAr->Option Mo
abbrev RC:Type:=Int->List Int->AAZ->List Int->AAP->AAw->AAx->AAp->AAr->Int->Int->Bool->List Int->Int->Int->Int->Int->List UInt8->Int->Int->Bool->List Int->AAZ->List Int->AAP->AAw->AAx->AAp->AAr->Option Mo
def ct(R7:Sb)(oI:RC)(t7:Int)(b0:AAO)(b1:AAZ)(b2:AAO)(b3:AAP)(b4:AAw)(b5:AAx)(b6:AAp)(b7:AAr)(JK KF:Int)(F4:Bool)(b9:AAO)(AG6 GR AGY AGT:Int)(AGV:ABG)(AGr AGj:Int)(ABO:Bool)(Hi:AAO)(Pw:AAZ)(Pu:AAO)(Iy:AAP)(KK:AAw)(L8:AAx)(gf:AAp)(b19:AAr):Option Mo:=
 cond ((decide (t7<(b4.length:Int))))
  (if(0:Int)<=t7/\t7<(b4.length:Int)then(
  (Pe (b0,JK,()) ((b4.getD (t7.toNat) (0,[],())).1,(b4.getD (t7.toNat) (0,[],())).2.1,()) GR).bind fun u5=>
  if(0:Int)<=t7/\t7<(b4.length:Int)then(
  R7 (AQ (t7+1)) b0 b1 b2 b3 (b4.set (t7.toNat) (u5.1.1.1.1,u5.2.1,())) b5 b6 b7 JK KF F4 b9 AG6 GR AGY AGT AGV AGr AGj ABO Hi Pw Pu Iy KK L8 gf b19)else none)else none)
 (oI 0 b0 b1 b2 b3 b4 b5 b6 b7 JK KF F4 b9 AG6 GR AGY AGT AGV AGr AGj ABO Hi Pw Pu Iy KK L8 gf b19)
def Zm(R7:Sb)(oI:RC)(t8:Int)(b0:AAO)(b1:AAZ)(b2:AAO)(b3:AAP)(b4:AAw)(b5:AAx)(b6:AAp)(b7:AAr)(JK KF:Int)(F4:Bool)(b9:AAO)(AG6 GR AGY AGT:Int)(AGV:ABG)(AGr AGj:Int)(ABO:Bool)(Hi:AAO)(Pw:AAZ)(Pu:AAO)(Iy:AAP)(KK:AAw)(L8:AAx)(gf:AAp)(b19:AAr):Option Mo:=
 cond ((decide (t8<(b5.length:Int))))
  (if(0:Int)<=t8/\t8<(b5.length:Int)then(
  (Su (b0,JK,()) ((b5.getD (t8.toNat) (0,0,[],[],false,[],())).1,(b5.getD (t8.toNat) (0,0,[],[],false,[],())).2.1,(b5.getD (t8.toNat) (0,0,[],[],false,[],())).2.2.1,(b5.getD (t8.toNat) (0,0,[],[],false,[],())).2.2.2.1,(b5.getD (t8.toNat) (0,0,[],[],false,[],())).2.2.2.2.1,(b5.getD (t8.toNat) (0,0,[],[],false,[],())).2.2.2.2.2.1,()) GR).bind fun u8=>
  if(0:Int)<=t8/\t8<(b5.length:Int)then(
  oI (AQ (t8+1)) b0 b1 b2 b3 b4 (b5.set (t8.toNat) (u8.1.1.1.1,u8.1.1.1.2.1,u8.2.1,u8.2.2.1,u8.1.1.1.2.2.2.2.1,u8.2.2.2.1,())) b6 b7 JK KF F4 b9 AG6 GR AGY AGT AGV AGr AGj ABO Hi Pw Pu Iy KK L8 gf b19)else none)else none)
 (cond (F4)
  (some (((((),JK,(),(),(),KF,(),(),(),(),true,()),0,()),()),(b0,b1,(),b3,b4,b5,b6,b7,b9,())))
 ((FP (b0,JK,()) b9).bind fun EJ=>
 some (((((),JK,(),(),(),KF,(),(),(),(),EJ.1.1,()),0,()),()),(b0,b1,(),b3,b4,b5,b6,b7,b9,()))))
mutual
def LK:Nat->Sb
 |0=>default
 |n+1=>ct (LK n) (J_ n)
def J_:Nat->RC
 |0=>default
 |n+1=>Zm (LK n) (J_ n)
end
def cu(R7:Sb)(oI:RC)(Cy C6:Int)(Bn:Bool)(p1:ADq)(b0:AAO)(b1:AAZ)(b2:AAO)(b3:AAP)(b4:AAw)(b5:AAx)(b6:AAp)(b7:AAr):Option Mo:=
 (IQ (b0,Cy,b1,b2,b3,C6,b4,b5,b6,b7,Bn,()) p1.2.1).bind fun u1=>
 cond (u1.1.1 !=0)
  (some (((((),Cy,(),(),(),C6,(),(),(),(),Bn,()),u1.1.1,()),()),(b0,b1,(),b3,b4,b5,b6,b7,b2,())))
 (if(0:Int)<=p1.2.1/\p1.2.1<(b1.length:Int)then(
 (JH b2 p1.2.1).bind fun u3=>
 R7 0 b0 (b1.set (p1.2.1.toNat) ([],[],0,())) b2 b3 b4 b5 b6 b7 Cy C6 Bn u3.2.1 p1.1 p1.2.1 p1.2.2.1 p1.2.2.2.1 p1.2.2.2.2.1 0 0 false [] [] [] [] [] [] [] [])else none)
def aE:=cu (LK AU) (J_ AU)
abbrev ym:Type:=ABw×Unit
def eE(p0:ABt)(p1:AAO):Option ym:=
 (HW (p0.1,p0.2.1,()) p1).bind fun u1=>
 cond (u1.1.1)
  ((FP (p0.1,p0.2.1,()) p1).bind fun u2=>
  some ((!u2.1.1,()),()))
 (some ((false,()),()))
abbrev OE:Type:=ADC×AGg
abbrev Qz:Type:=AAZ->Int->AAj->Option OE
abbrev RF:Type:=AAZ->Int->Int->AAj->Option OE
def aC(R3:Qz)(R6:RF)(t0:AAZ)(t4:Int)(b0:AAj):Option OE:=
 cond ((decide (t4<(t0.length:Int))))
  (R6 t0 t4 0 b0)
 (some (((),()),(b0,())))
def Zy(R3:Qz)(R6:RF)(t0:AAZ)(t4 t5:Int)(b0:AAj):Option OE:=
 if(0:Int)<=t4/\t4<(t0.length:Int)then(
 cond (decide (t5<(((t0.getD (t4.toNat) ([],[],0,())).1).length:Int)))
  (if(0:Int)<=t4/\t4<(t0.length:Int)then(
  if(0:Int)<=t5/\t5<(((t0.getD (t4.toNat) ([],[],0,())).1).length:Int)then(
  (T7 b0 ((((t0.getD (t4.toNat) ([],[],0,())).1).getD (t5.toNat) (0,0,false,[],())).1,(((t0.getD (t4.toNat) ([],[],0,())).1).getD (t5.toNat) (0,0,false,[],())).2.1,(((t0.getD (t4.toNat) ([],[],0,())).1).getD (t5.toNat) (0,0,false,[],())).2.2.1,(((t0.getD (t4.toNat) ([],[],0,())).1).getD (t5.toNat) (0,0,false,[],())).2.2.2.1,())).bind fun u3=>
  R6 t0 t4 (AQ (t5+1)) u3.2.1)else none)else none)
 (R3 t0 (AQ (t4+1)) b0))else none
mutual
def KH:Nat->Qz
 |0=>default
 |n+1=>aC (KH n) (KD n)
def KD:Nat->RF
 |0=>default
 |n+1=>Zy (KH n) (KD n)
end
def mA(R3:Qz)(R6:RF)(p0:AAZ):Option OE:=
 R3 p0 0 []
def fK:=mA (KH AU) (KD AU)
abbrev Tp:Type:=AFG×AJc
abbrev ae:Type:=List Int->Int->Int->AAZ->Int->AAj->AAj->Int->AAj->AAj->AAZ->Option Tp
abbrev Xp:Type:=Int->Int->AAZ->Int->AAj->AAj->Int->AAj->AAj->AAZ->Option Tp
def jL(R6:ae)(oI:Xp)(t2:AAO)(t4 t14:Int)(b0:AAZ)(Bq:Int)(b2 b3:AAj)(Nt:Int)(b5 b6:AAj)(b7:AAZ):Option Tp:=
 cond ((decide (t14<(b0.length:Int))))
  ((Cf t2 t14).bind fun u6=>
  cond (!u6.1.1)
   (if(0:Int)<=t14/\t14<(b0.length:Int)then(
   if b7.length+1<=C7 then(
   R6 t2 t4 (AQ (t14+1)) b0 Bq b2 b3 Nt b5 b6 (b7++[((b0.getD (t14.toNat) ([],[],0,())).1,(b0.getD (t14.toNat) ([],[],0,())).2.1,(b0.getD (t14.toNat) ([],[],0,())).2.2.1,())]))else none)else none)
  (R6 t2 t4 (AQ (t14+1)) b0 Bq b2 b3 Nt b5 b6 b7))
 (oI t4 0 b0 Bq b2 b3 Nt b5 b6 b7)
def ga(R6:ae)(oI:Xp)(t4 t15:Int)(b0:AAZ)(Bq:Int)(b2 b3:AAj)(Nt:Int)(b5 b6:AAj)(b7:AAZ):Option Tp:=
 cond ((decide (t15<(b7.length:Int))))
  (if(0:Int)<=t15/\t15<(b7.length:Int)then(
  (HR ((b7.getD (t15.toNat) ([],[],0,())).1,(b7.getD (t15.toNat) ([],[],0,())).2.1,(b7.getD (t15.toNat) ([],[],0,())).2.2.1,())).bind fun u9=>
  cond (!u9.1.1)
   (some (((((),(),Nt,()),false,()),()),(b0,b5,b6,())))
  (oI t4 (AQ (t15+1)) b0 Bq b2 b3 Nt b5 b6 b7))else none)
 ((fK b7).bind fun EJ=>
 (HR (EJ.2.1,[],t4,())).bind fun FY=>
 cond (!FY.1.1)
  (some (((((),(),Nt,()),false,()),()),(b0,b5,b6,())))
 (some (((((),(),t4,()),true,()),()),(b0,EJ.2.1,[],()))))
mutual
def Qw:Nat->ae
 |0=>default
 |n+1=>jL (Qw n) (Ol n)
def Ol:Nat->Xp
 |0=>default
 |n+1=>ga (Qw n) (Ol n)
end
def jK(R6:ae)(oI:Xp)(p0:ABt)(p2:AAO)(p3 p4:Int)(b0:AAZ):Option Tp:=
 (G8 (p0.1,p0.2.1,())).bind fun u1=>
 cond (!u1.1.1)
  (some (((((),(),0,()),false,()),()),(b0,[],[],())))
 (cond (((b0.length:Int) !=(p0.1.length:Int)))
  (some (((((),(),0,()),false,()),()),(b0,[],[],())))
 ((eE (p0.1,p0.2.1,()) p2).bind fun u3=>
 cond (!u3.1.1)
  (some (((((),(),0,()),false,()),()),(b0,[],[],())))
 ((Cf p2 p3).bind fun u4=>
 cond (!u4.1.1)
  (some (((((),(),0,()),false,()),()),(b0,[],[],())))
 (R6 p2 p4 0 b0 0 [] [] 0 [] [] []))))
def lr:=jK (Qw AU) (Ol AU)
abbrev yN:Type:=AD7×AJQ
def an(Cy C6:Int)(Bn:Bool)(p1:ADq)(b0:AAO)(b1:AAZ)(b2:AAO)(b3:AAP)(b4:AAw)(b5:AAx)(b6:AAp)(b7:AAr):Option yN:=
 (Cf b2 p1.2.1).bind fun u1=>
 cond (!u1.1.1)
  (some (((((),Cy,(),(),(),C6,(),(),(),(),Bn,()),2,()),()),(b0,b1,(),b3,b4,b5,b6,b7,b2,())))
 ((En (AQ ((b3.length:Int)-1)) 0).bind fun u3=>
 (lr (b0,Cy,()) b2 p1.2.1 u3.1.1 b1).bind fun u4=>
 cond (!u4.1.1.2.1)
  (some (((((),Cy,(),(),(),C6,(),(),(),(),Bn,()),4,()),()),(b0,u4.2.1,(),b3,b4,b5,b6,b7,b2,())))
 (if(0:Int)<=p1.2.1/\p1.2.1<(u4.2.1.length:Int)then(
 (Jy b2 [p1.2.1]).bind fun u6=>
 some (((((),Cy,(),(),(),C6,(),(),(),(),Bn,()),0,()),()),(b0,(u4.2.1.set (p1.2.1.toNat) (u4.2.2.1,u4.2.2.2.1,u4.1.1.1.2.2.1,())),(),b3,b4,b5,b6,b7,u6.2.1,())))else none))
abbrev KW:Type:=AGK×AE2
def Jd(p0 p1:Int):Option KW:=
 some (((p1,p0,(),(),false,(),()),()),([],[],[],()))
abbrev lO:Type:=AD7×(List Int×AAZ×List Int×AAP×AAw×Unit×AAp×AAr×AAx×Unit)
def aX(Cy C6:Int)(Bn:Bool)(b0:AAO)(b1:AAZ)(b2:AAO)(b3:AAP)(b4:AAw)(b5:AAx)(b6:AAp)(b7:AAr):Option lO:=
 (KQ (b3,C6,())).bind fun u1=>
 cond ((decide ((b3.length:Int)<2)))
  (some (((((),Cy,(),(),(),C6,(),(),(),(),Bn,()),2,()),()),(b0,b1,b2,b3,b4,(),b6,b7,b5,())))
 (cond ((u1.1.1==(b3.length:Int)))
  (some (((((),Cy,(),(),(),C6,(),(),(),(),Bn,()),2,()),()),(b0,b1,b2,b3,b4,(),b6,b7,b5,())))
 (cond ((decide ((b5.length:Int)>0)))
  (some (((((),Cy,(),(),(),C6,(),(),(),(),Bn,()),4,()),()),(b0,b1,b2,b3,b4,(),b6,b7,b5,())))
 ((Jd u1.1.1 (b3.length:Int)).bind fun u5=>
 some (((((),Cy,(),(),(),C6,(),(),(),(),Bn,()),0,()),()),(b0,b1,b2,b3,b4,(),b6,b7,[(u5.1.1.1,u5.1.1.2.1,u5.2.1,u5.2.2.1,u5.1.1.2.2.2.2.1,u5.2.2.2.1,())],())))))
abbrev q8:Type:=AFG×AEC
def P0(p0:ACo)(p1:Int):Option q8:=
 (HR (p0.1,p0.2.1,p0.2.2.1,())).bind fun u1=>
 cond (!u1.1.1)
  (some (((((),(),0,()),false,()),()),([],[],())))
 ((Kj (p0.1,p0.2.1,p0.2.2.1,())).bind fun u2=>
 cond (!u2.1.1.2.1)
  ((Dh (p0.1,p0.2.1,p0.2.2.1,())).bind fun u3=>
  some (((((),(),u3.1.1.2.2.1,()),false,()),()),(u3.2.1,u3.2.2.1,())))
 ((CR p1 0 30).bind fun u4=>
 cond (!u4.1.1)
  ((Dh (p0.1,p0.2.1,p0.2.2.1,())).bind fun u5=>
  some (((((),(),u5.1.1.2.2.1,()),false,()),()),(u5.2.1,u5.2.2.1,())))
 ((En u2.1.1.1.2.2.1 p1).bind fun u6=>
 some (((((),(),u6.1.1,()),true,()),()),(u2.2.1,u2.2.2.1,())))))
abbrev GY:Type:=ADC×AGg
abbrev W4:Type:=Int->Int->AAj->AAj->Int->AAj->Option GY
def Rc(R3:W4)(t1 t6:Int)(AG AF:AAj)(AW:Int)(b1:AAj):Option GY:=
 cond ((decide (t6<(AG.length:Int))))
  ((HR (AG,AF,AW,())).bind fun u2=>
  cond (u2.1.1)
   (if(0:Int)<=t6/\t6<(AG.length:Int)then(
   (B3 ((AG.getD (t6.toNat) (0,0,false,[],())).1)).bind fun u4=>
   cond (u4.1.1==t1)
    (if(0:Int)<=t6/\t6<(AG.length:Int)then(
    if b1.length+1<=C7 then(
    R3 t1 (AQ (t6+1)) AG AF AW (b1++[((AG.getD (t6.toNat) (0,0,false,[],())).1,(AG.getD (t6.toNat) (0,0,false,[],())).2.1,(AG.getD (t6.toNat) (0,0,false,[],())).2.2.1,(AG.getD (t6.toNat) (0,0,false,[],())).2.2.2.1,())]))else none)else none)
   (R3 t1 (AQ (t6+1)) AG AF AW b1))else none)
  (some (((),()),(b1,()))))
 (some (((),()),(b1,())))
def J8:Nat->W4
 |0=>default
 |n+1=>Rc (J8 n)
def Zf(R3:W4)(p0:ACo)(p1:Int):Option GY:=
 R3 p1 0 p0.1 p0.2.1 p0.2.2.1 []
def G9:=Zf (J8 AU)
abbrev GV:Type:=AGM×AE2
abbrev W7:Type:=AAj->Int->List Int->Int->Int->Int->List Int->AAj->Bool->List AAO->Int->Int->Bool->List Int->AAj->List AAO->Int->Int->Bool->List Int->AAj->List AAO->Option GV
def Zk(R6:W7)(t3:AAj)(t11:Int)(AG:AAO)(AF BM A_:Int)(Bq:AAO)(Ed:AAj)(Ho:Bool)(F6:List AAO)(L9 Pv:Int)(kO:Bool)(b3:AAO)(b4:AAj)(b5:List AAO)(gM fO:Int)(gI:Bool)(b7:AAO)(b8:AAj)(b9:List AAO):Option GV:=
 cond ((decide (t11<(t3.length:Int))))
  (if(0:Int)<=t11/\t11<(t3.length:Int)then(
  (B3 ((t3.getD (t11.toNat) (0,0,false,[],())).1)).bind fun u6=>
  cond (u6.1.1==A_)
   (if(0:Int)<=t11/\t11<(t3.length:Int)then(
   (T7 b8 ((t3.getD (t11.toNat) (0,0,false,[],())).1,(t3.getD (t11.toNat) (0,0,false,[],())).2.1,(t3.getD (t11.toNat) (0,0,false,[],())).2.2.1,(t3.getD (t11.toNat) (0,0,false,[],())).2.2.2.1,())).bind fun u7=>
   R6 t3 (AQ (t11+1)) AG AF BM A_ Bq Ed Ho F6 L9 Pv kO b3 b4 b5 gM fO gI b7 u7.2.1 b9)else none)
  (R6 t3 (AQ (t11+1)) AG AF BM A_ Bq Ed Ho F6 L9 Pv kO b3 b4 b5 gM fO gI b7 b8 b9))else none)
 (cond (Ho)
  ((DP (BM,A_,Bq,Ed,Ho,F6,())).bind fun u8=>
  some ((((u8.1.1.1,u8.1.1.2.1,(),(),u8.1.1.2.2.2.2.1,(),()),false,()),()),(u8.2.1,u8.2.2.1,u8.2.2.2.1,())))
 ((Jv (AG,AF,()) (gM,fO,b7,b8,gI,b9,())).bind fun u9=>
 cond (!u9.1.1)
  ((DP (BM,A_,Bq,Ed,Ho,F6,())).bind fun EJ=>
  some ((((EJ.1.1.1,EJ.1.1.2.1,(),(),EJ.1.1.2.2.2.2.1,(),()),false,()),()),(EJ.2.1,EJ.2.2.1,EJ.2.2.2.1,())))
 (some ((((gM,fO,(),(),gI,(),()),true,()),()),(b7,b8,b9,())))))
def Mu:Nat->W7
 |0=>default
 |n+1=>Zk (Mu n)
def Z_(R6:W7)(p0:ABt)(p1:ABv)(p2:Int)(p3:AAj):Option GV:=
 (Jv (p0.1,p0.2.1,()) (p1.1,p1.2.1,p1.2.2.1,p1.2.2.2.1,p1.2.2.2.2.1,p1.2.2.2.2.2.1,())).bind fun u1=>
 cond (!u1.1.1)
  (some ((((0,0,(),(),false,(),()),false,()),()),([],[],[],())))
 ((DP (p1.1,p1.2.1,p1.2.2.1,p1.2.2.2.1,p1.2.2.2.2.1,p1.2.2.2.2.2.1,())).bind fun u2=>
 (JH u2.2.1 p2).bind fun u3=>
 R6 p3 0 p0.1 p0.2.1 p1.1 p1.2.1 p1.2.2.1 p1.2.2.2.1 p1.2.2.2.2.1 p1.2.2.2.2.2.1 0 0 false [] [] [] u2.1.1.1 u2.1.1.2.1 u2.1.1.2.2.2.2.1 u3.2.1 u2.2.2.1 u2.2.2.2.1)
def HA:=Z_ (Mu AU)
abbrev w6:Type:=AD7×AD8
def aY(Cy C6:Int)(Bn:Bool)(p1:ADq)(b0:AAO)(b1:AAZ)(b2:AAO)(b3:AAP)(b4:AAw)(b5:AAx)(b6:AAp)(b7:AAr):Option w6:=
 cond (((b5.length:Int)==0))
  (some (((((),Cy,(),(),(),C6,(),(),(),(),Bn,()),2,()),()),(b0,b1,b2,b3,b4,b5,b6,b7,())))
 (if(0:Int)<=(0:Int)/\(0:Int)<(b5.length:Int)then(
 (IQ (b0,Cy,b1,b2,b3,C6,b4,b5,b6,b7,Bn,()) p1.2.1).bind fun u2=>
 cond (u2.1.1 !=0)
  (some (((((),Cy,(),(),(),C6,(),(),(),(),Bn,()),u2.1.1,()),()),(b0,b1,b2,b3,b4,b5,b6,b7,())))
 ((CA (b3,C6,()) ((b5.getD 0 (0,0,[],[],false,[],())).2.1)).bind fun u4=>
 (Cf u4.2.1 p1.2.1).bind fun u5=>
 cond (!u5.1.1)
  (some (((((),Cy,(),(),(),C6,(),(),(),(),Bn,()),2,()),()),(b0,b1,b2,b3,b4,b5,b6,b7,())))
 (if(0:Int)<=p1.2.1/\p1.2.1<(b1.length:Int)then(
 (P0 ((b1.getD (p1.2.1.toNat) ([],[],0,())).1,(b1.getD (p1.2.1.toNat) ([],[],0,())).2.1,(b1.getD (p1.2.1.toNat) ([],[],0,())).2.2.1,()) (AQ (((b5.getD 0 (0,0,[],[],false,[],())).1)-1))).bind fun u7=>
 (G9 (u7.2.1,u7.2.2.1,u7.1.1.1.2.2.1,()) ((b5.getD 0 (0,0,[],[],false,[],())).2.1)).bind fun u9=>
 (HA (b0,Cy,()) ((b5.getD 0 (0,0,[],[],false,[],())).1,(b5.getD 0 (0,0,[],[],false,[],())).2.1,(b5.getD 0 (0,0,[],[],false,[],())).2.2.1,(b5.getD 0 (0,0,[],[],false,[],())).2.2.2.1,(b5.getD 0 (0,0,[],[],false,[],())).2.2.2.2.1,(b5.getD 0 (0,0,[],[],false,[],())).2.2.2.2.2.1,()) p1.2.1 u9.2.1).bind fun EJ=>
 cond (!u7.1.1.2.1)
  (some (((((),Cy,(),(),(),C6,(),(),(),(),Bn,()),4,()),()),(b0,b1,b2,b3,b4,b5,b6,b7,())))
 (cond (!EJ.1.1.2.1)
  (some (((((),Cy,(),(),(),C6,(),(),(),(),Bn,()),4,()),()),(b0,b1,b2,b3,b4,b5,b6,b7,())))
 (if(0:Int)<=p1.2.1/\p1.2.1<(b1.length:Int)then(
 if(0:Int)<=(0:Int)/\(0:Int)<(b5.length:Int)then(
 some (((((),Cy,(),(),(),C6,(),(),(),(),Bn,()),0,()),()),(b0,(b1.set (p1.2.1.toNat) (u7.2.1,u7.2.2.1,u7.1.1.1.2.2.1,())),b2,b3,b4,(b5.set 0 (EJ.1.1.1.1,EJ.1.1.1.2.1,EJ.2.1,EJ.2.2.1,EJ.1.1.1.2.2.2.2.1,EJ.2.2.2.1,())),b6,b7,())))else none)else none)))else none)))else none)
abbrev yy:Type:=ADC×ADn
def LS(p0 p1:AAO):Option yy:=
 (Jy p0 p1).bind fun u1=>
 (Jy p0 u1.2.1).bind fun u2=>
 some (((),()),(u2.2.1,()))
abbrev y9:Type:=ABw×Unit
def LO(p0:ABt)(p1 p2:AAO):Option y9:=
 (FP (p0.1,p0.2.1,()) p1).bind fun u1=>
 cond (!u1.1.1)
  (some ((false,()),()))
 ((HW (p0.1,p0.2.1,()) p2).bind fun u2=>
 cond (!u2.1.1)
  (some ((false,()),()))
 ((Jy p2 p1).bind fun u3=>
 cond (decide ((u3.2.1.length:Int)>0))
  (some ((false,()),()))
 ((Jy p1 p2).bind fun u5=>
 (YS (p0.1,p0.2.1,()) u5.2.1).bind fun u6=>
 some (((decide (u6.1.1<p0.2.1)),()),()))))
abbrev Gg:Type:=AGM×AE2
abbrev Wu:Type:=Int->Int->Int->List Int->AAj->Bool->List AAO->Int->Int->Bool->List Int->AAj->List AAO->Int->Int->Bool->List Int->AAj->List AAO->Option Gg
def Zr(R8:Wu)(t9 AG AF:Int)(AW:AAO)(BT:AAj)(Be:Bool)(Ai:List AAO)(BM A_:Int)(Ho:Bool)(b2:AAO)(b3:AAj)(b4:List AAO)(AKp AJy:Int)(AKy:Bool)(b6:AAO)(b7:AAj)(b8:List AAO):Option Gg:=
 (Tv (AG,AF,AW,BT,Be,Ai,())).bind fun u5=>
 cond (decide (t9<u5.1.1))
  (if b8.length+1<=C7 then(
  R8 (AQ (t9+1)) AG AF AW BT Be Ai BM A_ Ho b2 b3 b4 AKp AJy AKy b6 b7 (b8++[[]]))else none)
 (some ((((AKp,AJy,(),(),AKy,(),()),true,()),()),(b6,b7,b8,())))
def ND:Nat->Wu
 |0=>default
 |n+1=>Zr (ND n)
def Zh(R8:Wu)(p0:ABt)(p1:ABv)(p2:AAO):Option Gg:=
 (Jv (p0.1,p0.2.1,()) (p1.1,p1.2.1,p1.2.2.1,p1.2.2.2.1,p1.2.2.2.2.1,p1.2.2.2.2.2.1,())).bind fun u1=>
 cond (!u1.1.1)
  (some ((((0,0,(),(),false,(),()),false,()),()),([],[],[],())))
 ((DP (p1.1,p1.2.1,p1.2.2.1,p1.2.2.2.1,p1.2.2.2.2.1,p1.2.2.2.2.2.1,())).bind fun u2=>
 cond (p1.2.2.2.2.1)
  (some ((((u2.1.1.1,u2.1.1.2.1,(),(),u2.1.1.2.2.2.2.1,(),()),false,()),()),(u2.2.1,u2.2.2.1,u2.2.2.2.1,())))
 ((LS p1.2.2.1 p2).bind fun u3=>
 (LO (p0.1,p0.2.1,()) p2 u3.2.1).bind fun u4=>
 cond (!u4.1.1)
  (some ((((u2.1.1.1,u2.1.1.2.1,(),(),u2.1.1.2.2.2.2.1,(),()),false,()),()),(u2.2.1,u2.2.2.1,u2.2.2.2.1,())))
 (R8 0 p1.1 p1.2.1 p1.2.2.1 p1.2.2.2.1 p1.2.2.2.2.1 p1.2.2.2.2.2.1 0 0 false [] [] [] u2.1.1.1 u2.1.1.2.1 true u2.2.1 u2.2.2.1 u2.2.2.2.1)))
def G7:=Zh (ND AU)
abbrev xk:Type:=AD7×AD8
def aQ(Cy C6:Int)(Bn:Bool)(b0:AAO)(b1:AAZ)(b2:AAO)(b3:AAP)(b4:AAw)(b5:AAx)(b6:AAp)(b7:AAr):Option xk:=
 cond (((b5.length:Int)==0))
  (some (((((),Cy,(),(),(),C6,(),(),(),(),Bn,()),2,()),()),(b0,b1,b2,b3,b4,b5,b6,b7,())))
 (if(0:Int)<=(0:Int)/\(0:Int)<(b5.length:Int)then(
 if(0:Int)<=(0:Int)/\(0:Int)<(b5.length:Int)then(
 (CA (b3,C6,()) ((b5.getD 0 (0,0,[],[],false,[],())).2.1)).bind fun u3=>
 (G7 (b0,Cy,()) ((b5.getD 0 (0,0,[],[],false,[],())).1,(b5.getD 0 (0,0,[],[],false,[],())).2.1,(b5.getD 0 (0,0,[],[],false,[],())).2.2.1,(b5.getD 0 (0,0,[],[],false,[],())).2.2.2.1,(b5.getD 0 (0,0,[],[],false,[],())).2.2.2.2.1,(b5.getD 0 (0,0,[],[],false,[],())).2.2.2.2.2.1,()) u3.2.1).bind fun u4=>
 cond (!u4.1.1.2.1)
  (some (((((),Cy,(),(),(),C6,(),(),(),(),Bn,()),4,()),()),(b0,b1,b2,b3,b4,b5,b6,b7,())))
 (if(0:Int)<=(0:Int)/\(0:Int)<(b5.length:Int)then(
 some (((((),Cy,(),(),(),C6,(),(),(),(),Bn,()),0,()),()),(b0,b1,b2,b3,b4,(b5.set 0 (u4.1.1.1.1,u4.1.1.1.2.1,u4.2.1,u4.2.2.1,u4.1.1.1.2.2.2.2.1,u4.2.2.2.1,())),b6,b7,())))else none))else none)else none)
abbrev zE:Type:=AD7×AD8
def eR(Cy C6:Int)(Bn:Bool)(p1:ADq)(b0:AAO)(b1:AAZ)(b2:AAO)(b3:AAP)(b4:AAw)(b5:AAx)(b6:AAp)(b7:AAr):Option zE:=
 cond (((b5.length:Int)==0))
  (some (((((),Cy,(),(),(),C6,(),(),(),(),Bn,()),2,()),()),(b0,b1,b2,b3,b4,b5,b6,b7,())))
 (if(0:Int)<=(0:Int)/\(0:Int)<(b5.length:Int)then(
 (DA ((b5.getD 0 (0,0,[],[],false,[],())).1,(b5.getD 0 (0,0,[],[],false,[],())).2.1,(b5.getD 0 (0,0,[],[],false,[],())).2.2.1,(b5.getD 0 (0,0,[],[],false,[],())).2.2.2.1,(b5.getD 0 (0,0,[],[],false,[],())).2.2.2.2.1,(b5.getD 0 (0,0,[],[],false,[],())).2.2.2.2.2.1,()) p1.2.2.1).bind fun u2=>
 cond (!u2.1.1.2.1)
  (some (((((),Cy,(),(),(),C6,(),(),(),(),Bn,()),2,()),()),(b0,b1,b2,b3,b4,b5,b6,b7,())))
 ((IQ (b0,Cy,b1,b2,b3,C6,b4,b5,b6,b7,Bn,()) p1.2.2.2.1).bind fun u3=>
 cond (u3.1.1 !=0)
  (some (((((),Cy,(),(),(),C6,(),(),(),(),Bn,()),u3.1.1,()),()),(b0,b1,b2,b3,b4,b5,b6,b7,())))
 (if(0:Int)<=(0:Int)/\(0:Int)<(b5.length:Int)then(
 (CA (b3,C6,()) ((b5.getD 0 (0,0,[],[],false,[],())).2.1)).bind fun u5=>
 (Cf u5.2.1 p1.2.2.2.1).bind fun u6=>
 cond (!u6.1.1)
  (some (((((),Cy,(),(),(),C6,(),(),(),(),Bn,()),2,()),()),(b0,b1,b2,b3,b4,b5,b6,b7,())))
 (if(0:Int)<=p1.2.2.2.1/\p1.2.2.2.1<(b1.length:Int)then(
 (Oi ((b1.getD (p1.2.2.2.1.toNat) ([],[],0,())).1,(b1.getD (p1.2.2.2.1.toNat) ([],[],0,())).2.1,(b1.getD (p1.2.2.2.1.toNat) ([],[],0,())).2.2.1,()) (u2.1.1.1.1,u2.1.1.1.2.1,u2.1.1.1.2.2.1,u2.1.1.1.2.2.2.1,())).bind fun u7=>
 cond (!u7.1.1.2.1)
  (some (((((),Cy,(),(),(),C6,(),(),(),(),Bn,()),4,()),()),(b0,b1,b2,b3,b4,b5,b6,b7,())))
 (if(0:Int)<=p1.2.2.2.1/\p1.2.2.2.1<(b1.length:Int)then(
 some (((((),Cy,(),(),(),C6,(),(),(),(),Bn,()),0,()),()),(b0,(b1.set (p1.2.2.2.1.toNat) (u7.2.1,u7.2.2.1,u7.1.1.1.2.2.1,())),b2,b3,b4,b5,b6,b7,())))else none))else none))else none)))else none)
abbrev W0:Type:=ABw×Unit
abbrev Uf:Type:=Int->List Int->Int->Int->Int->List Int->AAj->Bool->List AAO->Option W0
def Yg(R4:Uf)(t5:Int)(AG:AAO)(AF BM A_:Int)(Bq:AAO)(Ed:AAj)(Ho:Bool)(F6:List AAO):Option W0:=
 cond ((decide (t5<(F6.length:Int))))
  (if(0:Int)<=t5/\t5<(F6.length:Int)then(
  (FP (AG,AF,()) (F6.getD (t5.toNat) [])).bind fun u3=>
  cond (!u3.1.1)
   (some ((false,()),()))
  (R4 (AQ (t5+1)) AG AF BM A_ Bq Ed Ho F6))else none)
 (some ((true,()),()))
def LQ:Nat->Uf
 |0=>default
 |n+1=>Yg (LQ n)
def YC(R4:Uf)(p0:ABt)(p1:ABv):Option W0:=
 (Jv (p0.1,p0.2.1,()) (p1.1,p1.2.1,p1.2.2.1,p1.2.2.2.1,p1.2.2.2.2.1,p1.2.2.2.2.2.1,())).bind fun u1=>
 cond (!u1.1.1)
  (some ((false,()),()))
 (cond (!p1.2.2.2.2.1)
  (some ((false,()),()))
 (R4 0 p0.1 p0.2.1 p1.1 p1.2.1 p1.2.2.1 p1.2.2.2.1 p1.2.2.2.2.1 p1.2.2.2.2.2.1))
def VE:=YC (LQ AU)
abbrev uD:Type:=AH2×AF7
def SV(p0:ABt)(p1:AB_)(p2 p3:Int):Option uD:=
 (Nx (p0.1,p0.2.1,()) (p1.1,p1.2.1,())).bind fun u1=>
 cond (!u1.1.1)
  (some (((((),0,()),false,()),()),([],())))
 ((EL (p1.1,p1.2.1,())).bind fun u2=>
 (KQ (p1.1,p1.2.1,())).bind fun u3=>
 cond ((p2 !=(p1.1.length:Int)))
  (some (((((),u2.1.1.2.1,()),false,()),()),(u2.2.1,())))
 (cond (u3.1.1==0)
  (some (((((),u2.1.1.2.1,()),false,()),()),(u2.2.1,())))
 (cond (p2==u3.1.1)
  (some (((((),u2.1.1.2.1,()),false,()),()),(u2.2.1,())))
 ((CR p3 0 60).bind fun u5=>
 cond (!u5.1.1)
  (some (((((),u2.1.1.2.1,()),false,()),()),(u2.2.1,())))
 (if(0:Int)<=AQ (u3.1.1-1)/\AQ (u3.1.1-1)<(u2.2.1.length:Int)then(
 let x6:AAP:=(u2.2.1.set ((AQ (u3.1.1-1)).toNat) ((u2.2.1.getD ((AQ (u3.1.1-1)).toNat) ([],false,0,())).1,true,(u2.2.1.getD ((AQ (u3.1.1-1)).toNat) ([],false,0,())).2.2.1,()))
 if(0:Int)<=AQ (u3.1.1-1)/\AQ (u3.1.1-1)<(x6.length:Int)then(
 some (((((),u2.1.1.2.1,()),true,()),()),((x6.set ((AQ (u3.1.1-1)).toNat) ((x6.getD ((AQ (u3.1.1-1)).toNat) ([],false,0,())).1,(x6.getD ((AQ (u3.1.1-1)).toNat) ([],false,0,())).2.1,p3,())),())))else none)else none)))))
abbrev jC:Type:=AD7×(List Int×AAZ×List Int×Unit×AAw×Unit×AAp×AAr×AAP×AAx×Unit)
def Xc(Cy C6:Int)(Bn:Bool)(b0:AAO)(b1:AAZ)(b2:AAO)(b3:AAP)(b4:AAw)(b5:AAx)(b6:AAp)(b7:AAr):Option jC:=
 cond (((b5.length:Int)==0))
  (some (((((),Cy,(),(),(),C6,(),(),(),(),Bn,()),2,()),()),(b0,b1,b2,(),b4,(),b6,b7,b3,b5,())))
 (if(0:Int)<=(0:Int)/\(0:Int)<(b5.length:Int)then(
 (VE (b0,Cy,()) ((b5.getD 0 (0,0,[],[],false,[],())).1,(b5.getD 0 (0,0,[],[],false,[],())).2.1,(b5.getD 0 (0,0,[],[],false,[],())).2.2.1,(b5.getD 0 (0,0,[],[],false,[],())).2.2.2.1,(b5.getD 0 (0,0,[],[],false,[],())).2.2.2.2.1,(b5.getD 0 (0,0,[],[],false,[],())).2.2.2.2.2.1,())).bind fun u2=>
 cond (!u2.1.1)
  (some (((((),Cy,(),(),(),C6,(),(),(),(),Bn,()),5,()),()),(b0,b1,b2,(),b4,(),b6,b7,b3,b5,())))
 (if(0:Int)<=(0:Int)/\(0:Int)<(b5.length:Int)then(
 if(0:Int)<=(0:Int)/\(0:Int)<(b5.length:Int)then(
 (SV (b0,Cy,()) (b3,C6,()) ((b5.getD 0 (0,0,[],[],false,[],())).1) (((b5.getD 0 (0,0,[],[],false,[],())).2.2.2.2.2.1).length:Int)).bind fun u5=>
 cond (!u5.1.1.2.1)
  (some (((((),Cy,(),(),(),C6,(),(),(),(),Bn,()),4,()),()),(b0,b1,b2,(),b4,(),b6,b7,b3,b5,())))
 (some (((((),Cy,(),(),(),u5.1.1.1.2.1,(),(),(),(),Bn,()),0,()),()),(b0,b1,b2,(),b4,(),b6,b7,u5.2.1,[],()))))else none)else none))else none)
abbrev wq:Type:=AH2×AF7
def Ue(p0:ABt)(p1:AB_)(p2:Int):Option wq:=
 (Nx (p0.1,p0.2.1,()) (p1.1,p1.2.1,())).bind fun u1=>
 cond (!u1.1.1)
  (some (((((),0,()),false,()),()),([],())))
 ((EL (p1.1,p1.2.1,())).bind fun u2=>
 (Ft p2).bind fun u3=>
 cond (!u3.1.1)
  (some (((((),u2.1.1.2.1,()),false,()),()),(u2.2.1,())))
 ((B3 p2).bind fun u4=>
 cond ((decide (u4.1.1>(p1.1.length:Int))))
  (some (((((),u2.1.1.2.1,()),false,()),()),(u2.2.1,())))
 ((En u2.1.1.2.1 p2).bind fun u6=>
 some (((((),u6.1.1,()),true,()),()),(u2.2.1,())))))
abbrev UT:Type:=ACJ×Unit
abbrev TA:Type:=Int->Int->ACa->Option UT
def V7(R2:TA)(t3 AG:Int)(AF:ACa):Option UT:=
 cond ((decide (t3<(AF.length:Int))))
  (if(0:Int)<=t3/\t3<(AF.length:Int)then(
  cond (((AF.getD (t3.toNat) ([],[],false,())).2.2.1))
   (R2 (AQ (t3+1)) AG AF)
  (some ((t3,()),())))else none)
 (some ((t3,()),()))
def KX:Nat->TA
 |0=>default
 |n+1=>V7 (KX n)
def jm(R2:TA)(p0:ACj):Option UT:=
 R2 0 p0.1 p0.2.1
def ZP:=jm (KX AU)
abbrev eg:Type:=ACJ×Unit
abbrev bo:Type:=Int->Int->List Int->Int->AAZ->List Int->AAP->Int->AAw->AAx->AAp->AAr->Bool->Option eg
def eJ(R2:bo)(t1 t5:Int)(AG:AAO)(AF:Int)(AW:AAZ)(BT:AAO)(Be:AAP)(Ai:Int)(CH:AAw)(CL:AAx)(Bl:AAp)(CE:AAr)(AN:Bool):Option eg:=
 cond ((decide (t5<(CH.length:Int))))
  (if(0:Int)<=t5/\t5<(CH.length:Int)then(
  cond (((CH.getD (t5.toNat) (0,[],())).1)==t1)
   (if(0:Int)<=t5/\t5<(CH.length:Int)then(
   (ZP ((CH.getD (t5.toNat) (0,[],())).1,(CH.getD (t5.toNat) (0,[],())).2.1,())).bind fun u3=>
   some ((u3.1.1,()),()))else none)
  (R2 t1 (AQ (t5+1)) AG AF AW BT Be Ai CH CL Bl CE AN))else none)
 (some ((0,()),()))
def P9:Nat->bo
 |0=>default
 |n+1=>eJ (P9 n)
def pJ(R2:bo)(p0:ABx)(p1:Int):Option eg:=
 R2 p1 0 p0.1 p0.2.1 p0.2.2.1 p0.2.2.2.1 p0.2.2.2.2.1 p0.2.2.2.2.2.1 p0.2.2.2.2.2.2.1 p0.2.2.2.2.2.2.2.1 p0.2.2.2.2.2.2.2.2.1 p0.2.2.2.2.2.2.2.2.2.1 p0.2.2.2.2.2.2.2.2.2.2.1
def ko:=pJ (P9 AU)
abbrev Pg:Type:=ADC×(AD2×Unit)
abbrev S3:Type:=Int->List Int->Int->AAZ->List Int->AAP->Int->AAw->AAx->AAp->AAr->Bool->Int->Int->ADi->AD2->List Int->Option Pg
def WW(R4:S3)(t9:Int)(AG:AAO)(AF:Int)(AW:AAZ)(BT:AAO)(Be:AAP)(Ai:Int)(CH:AAw)(CL:AAx)(Bl:AAp)(CE:AAr)(AN:Bool)(BM A_:Int)(Bq:ADi)(b2:AD2)(b3:AAO):Option Pg:=
 cond ((decide (t9<(b3.length:Int))))
  (if(0:Int)<=t9/\t9<(b3.length:Int)then(
  (IQ (AG,AF,AW,BT,Be,Ai,CH,CL,Bl,CE,AN,()) (b3.getD (t9.toNat) 0)).bind fun u4=>
  cond (u4.1.1 !=0)
   (R4 (AQ (t9+1)) AG AF AW BT Be Ai CH CL Bl CE AN BM A_ Bq b2 b3)
  (if(0:Int)<=t9/\t9<(b3.length:Int)then(
  let x5:Int:=(b3.getD (t9.toNat) 0)
  if(0:Int)<=x5/\x5<(AW.length:Int)then(
  (Bo BM A_).bind fun u6=>
  (FM ((AW.getD (x5.toNat) ([],[],0,())).1) u6.1.1).bind fun u7=>
  if(0:Int)<=t9/\t9<(b3.length:Int)then(
  if b2.length+1<=C7 then(
  R4 (AQ (t9+1)) AG AF AW BT Be Ai CH CL Bl CE AN BM A_ Bq (b2++[((b3.getD (t9.toNat) 0),u7.1.1.2.1,u7.1.1.1.1,u7.1.1.1.2.1,u7.1.1.1.2.2.1,u7.1.1.1.2.2.2.1,())]) b3)else none)else none)else none)else none))else none)
 (some (((),()),(b2,())))
def KZ:Nat->S3
 |0=>default
 |n+1=>WW (KZ n)
def WE(R4:S3)(p0:ABx)(p1:ADk)(p2:Int):Option Pg:=
 (QH p2).bind fun u1=>
 R4 0 p0.1 p0.2.1 p0.2.2.1 p0.2.2.2.1 p0.2.2.2.2.1 p0.2.2.2.2.2.1 p0.2.2.2.2.2.2.1 p0.2.2.2.2.2.2.2.1 p0.2.2.2.2.2.2.2.2.1 p0.2.2.2.2.2.2.2.2.2.1 p0.2.2.2.2.2.2.2.2.2.2.1 p1.1 p1.2.1 p1.2.2.1 [] u1.2.1
def Sv(p0:ABx)(p1:ADk)(p2:Int):Option Pg:=WE (KZ AU) p0 p1 p2
abbrev ZB:Type:=((Unit×Bool×Unit)×Unit)×ADn
abbrev Wd:Type:=AD2->Int->List Int->Int->List Int->Option ZB
def Z9(R3:Wd)(t1:AD2)(t7:Int)(AG:AAO)(AF:Int)(b1:AAO):Option ZB:=
 cond ((decide (t7<(t1.length:Int))))
  (if(0:Int)<=t7/\t7<(t1.length:Int)then(
  if b1.length+1<=C7 then(
  R3 t1 (AQ (t7+1)) AG AF (b1++[((t1.getD (t7.toNat) (0,false,0,0,false,[],())).1)]))else none)else none)
 ((HW (AG,AF,()) b1).bind fun u3=>
 some ((((),u3.1.1,()),()),(b1,())))
def Mp:Nat->Wd
 |0=>default
 |n+1=>Z9 (Mp n)
def mD(R3:Wd)(p0:ABt)(p1:AD2):Option ZB:=
 R3 p1 0 p0.1 p0.2.1 []
def eX:=mD (Mp AU)
abbrev wu:Type:=AG7×AHC
def Jc(p0:ADk)(p1:AF2)(p2 p3:Int):Option wu:=
 (Bz (p0.1,p0.2.1,p0.2.2.1,())).bind fun u1=>
 if u1.2.1.length+1<=C7 then(
 some (((p2,p3,(),()),()),((u1.2.1++[(p1.1,p1.2.1,p1.2.2.1,())]),())))else none
abbrev cF:Type:=(AF2×Unit)×Unit
abbrev ZG:Type:=List Int->Int->AD2->Bool->Int->Int->Int->List UInt8->Int->Int->Bool->List UInt8->Option cF
def cT(R4:ZG)(t0:AAO)(t1:Int)(t2:AD2)(t8:Bool)(t9 AG AF:Int)(AW:ABG)(BM A_:Int)(Bq:Bool)(Ed:ABG):Option cF:=
 cond ((decide (t9<(t2.length:Int))))
  (if(0:Int)<=t9/\t9<(t2.length:Int)then(
  cond (!((t2.getD (t9.toNat) (0,false,0,0,false,[],())).2.1))
   (R4 t0 t1 t2 t8 (AQ (t9+1)) AG AF AW BM A_ Bq Ed)
  ((Cf t0 ((t2.getD (t9.toNat) (0,false,0,0,false,[],())).1)).bind fun u4=>
  cond (!u4.1.1)
   (R4 t0 t1 t2 t8 (AQ (t9+1)) AG AF AW BM A_ Bq Ed)
  ((NZ ((t2.getD (t9.toNat) (0,false,0,0,false,[],())).2.2.1,(t2.getD (t9.toNat) (0,false,0,0,false,[],())).2.2.2.1,(t2.getD (t9.toNat) (0,false,0,0,false,[],())).2.2.2.2.1,(t2.getD (t9.toNat) (0,false,0,0,false,[],())).2.2.2.2.2.1,())).bind fun u5=>
  cond (!u5.1.1)
   (R4 t0 t1 t2 t8 (AQ (t9+1)) AG AF AW BM A_ Bq Ed)
  (cond (((t2.getD (t9.toNat) (0,false,0,0,false,[],())).2.2.1) !=t1)
   (R4 t0 t1 t2 t8 (AQ (t9+1)) AG AF AW BM A_ Bq Ed)
  (cond (!t8)
   ((T1 ((t2.getD (t9.toNat) (0,false,0,0,false,[],())).2.2.1,(t2.getD (t9.toNat) (0,false,0,0,false,[],())).2.2.2.1,(t2.getD (t9.toNat) (0,false,0,0,false,[],())).2.2.2.2.1,(t2.getD (t9.toNat) (0,false,0,0,false,[],())).2.2.2.2.2.1,()) ((t2.getD (t9.toNat) (0,false,0,0,false,[],())).2.2.1,(t2.getD (t9.toNat) (0,false,0,0,false,[],())).2.2.2.1,(t2.getD (t9.toNat) (0,false,0,0,false,[],())).2.2.2.2.1,(t2.getD (t9.toNat) (0,false,0,0,false,[],())).2.2.2.2.2.1,())).bind fun u7=>
   R4 t0 t1 t2 true (AQ (t9+1)) AG AF AW u7.1.1.1 u7.1.1.2.1 u7.1.1.2.2.1 u7.1.1.2.2.2.1)
  ((T1 (BM,A_,Bq,Ed,()) ((t2.getD (t9.toNat) (0,false,0,0,false,[],())).2.2.1,(t2.getD (t9.toNat) (0,false,0,0,false,[],())).2.2.2.1,(t2.getD (t9.toNat) (0,false,0,0,false,[],())).2.2.2.2.1,(t2.getD (t9.toNat) (0,false,0,0,false,[],())).2.2.2.2.2.1,())).bind fun u8=>
  R4 t0 t1 t2 true (AQ (t9+1)) AG AF AW u8.1.1.1 u8.1.1.2.1 u8.1.1.2.2.1 u8.1.1.2.2.2.1))))))else none)
 (cond (!t8)
  (some (((3,t1,[],()),()),()))
 (cond (Bq)
  (some (((2,t1,[],()),()),()))
 (some (((1,t1,Ed,()),()),()))))
def ON:Nat->ZG
 |0=>default
 |n+1=>cT (ON n)
def nn(R4:ZG)(p0:AAO)(p1:Int)(p2:AD2):Option cF:=
 R4 p0 p1 p2 false 0 0 0 [] 0 0 false []
def OA:=nn (ON AU)
abbrev dF:Type:=(AIk×Unit)×AHC
def Sj(p0:ABt)(p1:AB_)(p2:Int)(p3:ADk)(p4:AD2):Option dF:=
 (eX (p0.1,p0.2.1,()) p4).bind fun u1=>
 (Nx (p0.1,p0.2.1,()) (p1.1,p1.2.1,())).bind fun u2=>
 cond (!u2.1.1)
  (some ((((0,0,(),()),1,()),()),([],())))
 ((Ou (p3.1,p3.2.1,p3.2.2.1,())).bind fun u3=>
 cond (!u3.1.1)
  (some ((((0,0,(),()),1,()),()),([],())))
 (cond (!u1.1.1.2.1)
  (some ((((0,0,(),()),1,()),()),([],())))
 (cond ((decide (p3.1>(p1.1.length:Int))))
  ((Bz (p3.1,p3.2.1,p3.2.2.1,())).bind fun u5=>
  some ((((u5.1.1.1,u5.1.1.2.1,(),()),2,()),()),(u5.2.1,())))
 (cond ((p3.2.2.1.length:Int)==120)
  ((Bz (p3.1,p3.2.1,p3.2.2.1,())).bind fun u7=>
  some ((((u7.1.1.1,u7.1.1.2.1,(),()),2,()),()),(u7.2.1,())))
 (if(0:Int)<=AQ (p3.1-1)/\AQ (p3.1-1)<(p1.1.length:Int)then(
 (Bo p3.1 p3.2.1).bind fun u8=>
 cond ((decide (p1.2.1>=u8.1.1)))
  ((B3 p1.2.1).bind fun EJ=>
  (Ek p1.2.1).bind fun FY=>
  (Jc (p3.1,p3.2.1,p3.2.2.1,()) (5,p1.2.1,[],()) EJ.1.1 (AQ (FY.1.1+1))).bind fun Jq=>
  some ((((Jq.1.1.1,Jq.1.1.2.1,(),()),0,()),()),(Jq.2.1,())))
 (cond (((p1.1.getD ((AQ (p3.1-1)).toNat) ([],false,0,())).2.1))
  (cond ((decide (p3.2.1>((p1.1.getD ((AQ (p3.1-1)).toNat) ([],false,0,())).2.2.1))))
   ((Jc (p3.1,p3.2.1,p3.2.2.1,()) (4,AQ (p3.1+1),[],()) (AQ (p3.1+1)) 1).bind fun u16=>
   some ((((u16.1.1.1,u16.1.1.2.1,(),()),0,()),()),(u16.2.1,())))
  (cond (!((p1.1.getD ((AQ (p3.1-1)).toNat) ([],false,0,())).2.1))
   (cond (decide (p3.2.1>p2))
    ((Bz (p3.1,p3.2.1,p3.2.2.1,())).bind fun en=>
    some ((((en.1.1.1,en.1.1.2.1,(),()),2,()),()),(en.2.1,())))
   (cond (decide (p3.2.1>60))
    ((Bz (p3.1,p3.2.1,p3.2.2.1,())).bind fun cz=>
    some ((((cz.1.1.1,cz.1.1.2.1,(),()),2,()),()),(cz.2.1,())))
   ((LS u1.2.1 ((p1.1.getD ((AQ (p3.1-1)).toNat) ([],false,0,())).1)).bind fun Ru=>
   (LO (p0.1,p0.2.1,()) ((p1.1.getD ((AQ (p3.1-1)).toNat) ([],false,0,())).1) Ru.2.1).bind fun et=>
   cond (!et.1.1)
    ((Bz (p3.1,p3.2.1,p3.2.2.1,())).bind fun u22=>
    some ((((u22.1.1.1,u22.1.1.2.1,(),()),3,()),()),(u22.2.1,())))
   ((OA ((p1.1.getD ((AQ (p3.1-1)).toNat) ([],false,0,())).1) u8.1.1 p4).bind fun dD=>
   (Jc (p3.1,p3.2.1,p3.2.2.1,()) (dD.1.1.1,dD.1.1.2.1,dD.1.1.2.2.1,()) p3.1 (AQ (p3.2.1+1))).bind fun Sc=>
   some ((((Sc.1.1.1,Sc.1.1.2.1,(),()),0,()),()),(Sc.2.1,()))))))
  (cond (decide (p3.2.1>60))
   ((Bz (p3.1,p3.2.1,p3.2.2.1,())).bind fun bA=>
   some ((((bA.1.1.1,bA.1.1.2.1,(),()),2,()),()),(bA.2.1,())))
  ((LS u1.2.1 ((p1.1.getD ((AQ (p3.1-1)).toNat) ([],false,0,())).1)).bind fun qJ=>
  (LO (p0.1,p0.2.1,()) ((p1.1.getD ((AQ (p3.1-1)).toNat) ([],false,0,())).1) qJ.2.1).bind fun qO=>
  cond (!qO.1.1)
   ((Bz (p3.1,p3.2.1,p3.2.2.1,())).bind fun XZ=>
   some ((((XZ.1.1.1,XZ.1.1.2.1,(),()),3,()),()),(XZ.2.1,())))
  ((OA ((p1.1.getD ((AQ (p3.1-1)).toNat) ([],false,0,())).1) u8.1.1 p4).bind fun qL=>
  (Jc (p3.1,p3.2.1,p3.2.2.1,()) (qL.1.1.1,qL.1.1.2.1,qL.1.1.2.2.1,()) p3.1 (AQ (p3.2.1+1))).bind fun uy=>
  some ((((uy.1.1.1,uy.1.1.2.1,(),()),0,()),()),(uy.2.1,())))))))
 (cond (!((p1.1.getD ((AQ (p3.1-1)).toNat) ([],false,0,())).2.1))
  (cond (decide (p3.2.1>p2))
   ((Bz (p3.1,p3.2.1,p3.2.2.1,())).bind fun u32=>
   some ((((u32.1.1.1,u32.1.1.2.1,(),()),2,()),()),(u32.2.1,())))
  (cond (decide (p3.2.1>60))
   ((Bz (p3.1,p3.2.1,p3.2.2.1,())).bind fun ks=>
   some ((((ks.1.1.1,ks.1.1.2.1,(),()),2,()),()),(ks.2.1,())))
  ((LS u1.2.1 ((p1.1.getD ((AQ (p3.1-1)).toNat) ([],false,0,())).1)).bind fun u34=>
  (LO (p0.1,p0.2.1,()) ((p1.1.getD ((AQ (p3.1-1)).toNat) ([],false,0,())).1) u34.2.1).bind fun u35=>
  cond (!u35.1.1)
   ((Bz (p3.1,p3.2.1,p3.2.2.1,())).bind fun u36=>
   some ((((u36.1.1.1,u36.1.1.2.1,(),()),3,()),()),(u36.2.1,())))
  ((OA ((p1.1.getD ((AQ (p3.1-1)).toNat) ([],false,0,())).1) u8.1.1 p4).bind fun tb=>
  (Jc (p3.1,p3.2.1,p3.2.2.1,()) (tb.1.1.1,tb.1.1.2.1,tb.1.1.2.2.1,()) p3.1 (AQ (p3.2.1+1))).bind fun u38=>
  some ((((u38.1.1.1,u38.1.1.2.1,(),()),0,()),()),(u38.2.1,()))))))
 (cond (decide (p3.2.1>60))
  ((Bz (p3.1,p3.2.1,p3.2.2.1,())).bind fun u39=>
  some ((((u39.1.1.1,u39.1.1.2.1,(),()),2,()),()),(u39.2.1,())))
 ((LS u1.2.1 ((p1.1.getD ((AQ (p3.1-1)).toNat) ([],false,0,())).1)).bind fun u40=>
 (LO (p0.1,p0.2.1,()) ((p1.1.getD ((AQ (p3.1-1)).toNat) ([],false,0,())).1) u40.2.1).bind fun u41=>
 cond (!u41.1.1)
  ((Bz (p3.1,p3.2.1,p3.2.2.1,())).bind fun u42=>
  some ((((u42.1.1.1,u42.1.1.2.1,(),()),3,()),()),(u42.2.1,())))
 ((OA ((p1.1.getD ((AQ (p3.1-1)).toNat) ([],false,0,())).1) u8.1.1 p4).bind fun u43=>
 (Jc (p3.1,p3.2.1,p3.2.2.1,()) (u43.1.1.1,u43.1.1.2.1,u43.1.1.2.2.1,()) p3.1 (AQ (p3.2.1+1))).bind fun u44=>
 some ((((u44.1.1.1,u44.1.1.2.1,(),()),0,()),()),(u44.2.1,()))))))))else none)))))
abbrev xZ:Type:=AD7×AD8
def aW(Cy C6:Int)(Bn:Bool)(p1:ADq)(b0:AAO)(b1:AAZ)(b2:AAO)(b3:AAP)(b4:AAw)(b5:AAx)(b6:AAp)(b7:AAr):Option xZ:=
 (CR p1.2.1 0 1).bind fun u1=>
 cond (!u1.1.1)
  (some (((((),Cy,(),(),(),C6,(),(),(),(),Bn,()),2,()),()),(b0,b1,b2,b3,b4,b5,b6,b7,())))
 (if(0:Int)<=p1.2.1/\p1.2.1<(b6.length:Int)then(
 if(0:Int)<=p1.2.1/\p1.2.1<(b6.length:Int)then(
 if(0:Int)<=p1.2.1/\p1.2.1<(b6.length:Int)then(
 (ko (b0,Cy,b1,b2,b3,C6,b4,b5,b6,b7,Bn,()) ((b6.getD (p1.2.1.toNat) (0,0,[],())).1)).bind fun u3=>
 (Sv (b0,Cy,b1,b2,b3,C6,b4,b5,b6,b7,Bn,()) ((b6.getD (p1.2.1.toNat) (0,0,[],())).1,(b6.getD (p1.2.1.toNat) (0,0,[],())).2.1,(b6.getD (p1.2.1.toNat) (0,0,[],())).2.2.1,()) p1.2.2.1).bind fun u4=>
 (Sj (b0,Cy,()) (b3,C6,()) u3.1.1 ((b6.getD (p1.2.1.toNat) (0,0,[],())).1,(b6.getD (p1.2.1.toNat) (0,0,[],())).2.1,(b6.getD (p1.2.1.toNat) (0,0,[],())).2.2.1,()) u4.2.1).bind fun u5=>
 cond (u5.1.1.2.1 !=0)
  (some (((((),Cy,(),(),(),C6,(),(),(),(),Bn,()),5,()),()),(b0,b1,b2,b3,b4,b5,b6,b7,())))
 (if(0:Int)<=p1.2.1/\p1.2.1<(b6.length:Int)then(
 some (((((),Cy,(),(),(),C6,(),(),(),(),Bn,()),0,()),()),(b0,b1,b2,b3,b4,b5,(b6.set (p1.2.1.toNat) (u5.1.1.1.1,u5.1.1.1.2.1,u5.2.1,())),b7,())))else none))else none)else none)else none)
abbrev Uo:Type:=AD7×(List Int×AAZ×List Int×AAP×Unit×AAx×AAp×AAr×AAw×Unit)
abbrev Yr:Type:=Int->List Int->AAZ->List Int->AAP->AAw->AAx->AAp->AAr->Int->Int->Bool->Int->Int->Int->Int->List UInt8->Int->Int->Bool->List Int->AAZ->List Int->AAP->AAw->AAx->AAp->AAr->AAw->Option Uo
def bR(R5:Yr)(t7:Int)(b0:AAO)(b1:AAZ)(b2:AAO)(b3:AAP)(b4:AAw)(b5:AAx)(b6:AAp)(b7:AAr)(JK KF:Int)(F4:Bool)(ACe NO uz AT5:Int)(AWR:ABG)(GR IK:Int)(Et:Bool)(PX:AAO)(Hi:AAZ)(Pw:AAO)(Pu:AAP)(Iy:AAw)(KK:AAx)(L8:AAp)(gf:AAr)(b19:AAw):Option Uo:=
 cond ((decide (t7<(b4.length:Int))))
  (cond (t7 !=NO)
   (if(0:Int)<=t7/\t7<(b4.length:Int)then(
   if b19.length+1<=C7 then(
   R5 (AQ (t7+1)) b0 b1 b2 b3 b4 b5 b6 b7 JK KF F4 ACe NO uz AT5 AWR GR IK Et PX Hi Pw Pu Iy KK L8 gf (b19++[((b4.getD (t7.toNat) (0,[],())).1,(b4.getD (t7.toNat) (0,[],())).2.1,())]))else none)else none)
  (R5 (AQ (t7+1)) b0 b1 b2 b3 b4 b5 b6 b7 JK KF F4 ACe NO uz AT5 AWR GR IK Et PX Hi Pw Pu Iy KK L8 gf b19))
 (some (((((),JK,(),(),(),KF,(),(),(),(),F4,()),0,()),()),(b0,b1,b2,b3,(),b5,b6,b7,b19,())))
def OQ:Nat->Yr
 |0=>default
 |n+1=>bR (OQ n)
def cM(R5:Yr)(Cy C6:Int)(Bn:Bool)(p1:ADq)(b0:AAO)(b1:AAZ)(b2:AAO)(b3:AAP)(b4:AAw)(b5:AAx)(b6:AAp)(b7:AAr):Option Uo:=
 (Ms (b0,Cy,b1,b2,b3,C6,b4,b5,b6,b7,Bn,()) p1.2.1).bind fun u1=>
 cond (!u1.1.1)
  (some (((((),Cy,(),(),(),C6,(),(),(),(),Bn,()),2,()),()),(b0,b1,b2,b3,(),b5,b6,b7,b4,())))
 (R5 0 b0 b1 b2 b3 b4 b5 b6 b7 Cy C6 Bn p1.1 p1.2.1 p1.2.2.1 p1.2.2.2.1 p1.2.2.2.2.1 0 0 false [] [] [] [] [] [] [] [] [])
def au:=cM (OQ AU)
abbrev Wr:Type:=AFG×AEC
abbrev UK:Type:=Int->Int->AAj->AAj->Int->Int->AAj->AAj->Int->AAj->AAj->Option Wr
def YO(R8:UK)(t1 t7:Int)(AG AF:AAj)(AW Bq:Int)(b2 b3:AAj)(Nt:Int)(b5 b6:AAj):Option Wr:=
 cond ((decide (t7<(AG.length:Int))))
  (if(0:Int)<=t7/\t7<(AG.length:Int)then(
  cond (decide (((AG.getD (t7.toNat) (0,0,false,[],())).1)>t1))
   (if(0:Int)<=t7/\t7<(AG.length:Int)then(
   if b5.length+1<=C7 then(
   R8 t1 (AQ (t7+1)) AG AF AW Bq b2 b3 Nt (b5++[((AG.getD (t7.toNat) (0,0,false,[],())).1,(AG.getD (t7.toNat) (0,0,false,[],())).2.1,(AG.getD (t7.toNat) (0,0,false,[],())).2.2.1,(AG.getD (t7.toNat) (0,0,false,[],())).2.2.2.1,())]) b6)else none)else none)
  (R8 t1 (AQ (t7+1)) AG AF AW Bq b2 b3 Nt b5 b6))else none)
 (some (((((),(),Nt,()),true,()),()),(b5,b6,())))
def Lm:Nat->UK
 |0=>default
 |n+1=>YO (Lm n)
def YL(R8:UK)(p0:ACo)(p1:Int):Option Wr:=
 (HR (p0.1,p0.2.1,p0.2.2.1,())).bind fun u1=>
 cond (!u1.1.1)
  (some (((((),(),0,()),false,()),()),([],[],())))
 ((Dh (p0.1,p0.2.1,p0.2.2.1,())).bind fun u2=>
 (Ft p1).bind fun u3=>
 cond (!u3.1.1)
  (some (((((),(),u2.1.1.2.2.1,()),false,()),()),(u2.2.1,u2.2.2.1,())))
 (R8 p1 0 p0.1 p0.2.1 p0.2.2.1 0 [] [] u2.1.1.2.2.1 [] u2.2.2.1))
def Vj:=YL (Lm AU)
abbrev uk:Type:=AD7×AD8
def XX(Cy C6:Int)(Bn:Bool)(p1:ADq)(b0:AAO)(b1:AAZ)(b2:AAO)(b3:AAP)(b4:AAw)(b5:AAx)(b6:AAp)(b7:AAr):Option uk:=
 (IQ (b0,Cy,b1,b2,b3,C6,b4,b5,b6,b7,Bn,()) p1.2.1).bind fun u1=>
 cond (u1.1.1 !=0)
  (some (((((),Cy,(),(),(),C6,(),(),(),(),Bn,()),u1.1.1,()),()),(b0,b1,b2,b3,b4,b5,b6,b7,())))
 (if(0:Int)<=p1.2.1/\p1.2.1<(b1.length:Int)then(
 (Oa ((b1.getD (p1.2.1.toNat) ([],[],0,())).1,(b1.getD (p1.2.1.toNat) ([],[],0,())).2.1,(b1.getD (p1.2.1.toNat) ([],[],0,())).2.2.1,()) p1.2.2.1).bind fun u2=>
 cond (p1.1==16)
  (if(0:Int)<=p1.2.1/\p1.2.1<(b1.length:Int)then(
  (Vj ((b1.getD (p1.2.1.toNat) ([],[],0,())).1,(b1.getD (p1.2.1.toNat) ([],[],0,())).2.1,(b1.getD (p1.2.1.toNat) ([],[],0,())).2.2.1,()) C6).bind fun u3=>
  cond (!u3.1.1.2.1)
   (some (((((),Cy,(),(),(),C6,(),(),(),(),Bn,()),4,()),()),(b0,b1,b2,b3,b4,b5,b6,b7,())))
  (if(0:Int)<=p1.2.1/\p1.2.1<(b1.length:Int)then(
  some (((((),Cy,(),(),(),C6,(),(),(),(),Bn,()),0,()),()),(b0,(b1.set (p1.2.1.toNat) (u3.2.1,u3.2.2.1,u3.1.1.1.2.2.1,())),b2,b3,b4,b5,b6,b7,())))else none))else none)
 (cond (!u2.1.1.2.1)
  (some (((((),Cy,(),(),(),C6,(),(),(),(),Bn,()),4,()),()),(b0,b1,b2,b3,b4,b5,b6,b7,())))
 (if(0:Int)<=p1.2.1/\p1.2.1<(b1.length:Int)then(
 some (((((),Cy,(),(),(),C6,(),(),(),(),Bn,()),0,()),()),(b0,(b1.set (p1.2.1.toNat) (u2.2.1,u2.2.2.1,u2.1.1.1.2.2.1,())),b2,b3,b4,b5,b6,b7,())))else none)))else none)
abbrev qF:Type:=AD7×(List Int×AAZ×Unit×Unit×Unit×Unit×AAp×Unit×List Int×AAP×AAw×AAx×AAr×Unit)
def iD(Cy C6:Int)(Bn:Bool)(p1:ADq)(b0:AAO)(b1:AAZ)(b2:AAO)(b3:AAP)(b4:AAw)(b5:AAx)(b6:AAp)(b7:AAr):Option qF:=
 cond (p1.1==1)
  ((aa Cy C6 Bn (p1.1,p1.2.1,p1.2.2.1,p1.2.2.2.1,p1.2.2.2.2.1,()) b0 b1 b2 b3 b4 b5 b6 b7).bind fun u1=>
  some (((((),u1.1.1.1.2.1,(),(),(),u1.1.1.1.2.2.2.2.2.1,(),(),(),(),u1.1.1.1.2.2.2.2.2.2.2.2.2.2.1,()),u1.1.1.2.1,()),()),(u1.2.1,u1.2.2.1,(),(),(),(),u1.2.2.2.2.2.2.2.1,(),u1.2.2.2.1,u1.2.2.2.2.2.2.2.2.2.1,u1.2.2.2.2.2.2.2.2.2.2.1,u1.2.2.2.2.2.2.2.2.2.2.2.1,u1.2.2.2.2.2.2.2.2.1,())))
 (cond (p1.1==2)
  ((dH Cy C6 Bn (p1.1,p1.2.1,p1.2.2.1,p1.2.2.2.1,p1.2.2.2.2.1,()) b0 b1 b2 b3 b4 b5 b6 b7).bind fun u5=>
  some (((((),u5.1.1.1.2.1,(),(),(),u5.1.1.1.2.2.2.2.2.1,(),(),(),(),u5.1.1.1.2.2.2.2.2.2.2.2.2.2.1,()),u5.1.1.2.1,()),()),(u5.2.1,u5.2.2.1,(),(),(),(),u5.2.2.2.2.2.2.2.1,(),u5.2.2.2.1,u5.2.2.2.2.1,u5.2.2.2.2.2.1,u5.2.2.2.2.2.2.1,u5.2.2.2.2.2.2.2.2.2.1,())))
 (cond (p1.1==3)
  ((Xb Cy C6 Bn (p1.1,p1.2.1,p1.2.2.1,p1.2.2.2.1,p1.2.2.2.2.1,()) b0 b1 b2 b3 b4 b5 b6 b7).bind fun u7=>
  some (((((),u7.1.1.1.2.1,(),(),(),u7.1.1.1.2.2.2.2.2.1,(),(),(),(),u7.1.1.1.2.2.2.2.2.2.2.2.2.2.1,()),u7.1.1.2.1,()),()),(u7.2.1,u7.2.2.1,(),(),(),(),u7.2.2.2.2.2.2.2.1,(),u7.2.2.2.1,u7.2.2.2.2.1,u7.2.2.2.2.2.1,u7.2.2.2.2.2.2.1,u7.2.2.2.2.2.2.2.2.1,())))
 (cond (p1.1==4)
  ((aT Cy C6 Bn (p1.1,p1.2.1,p1.2.2.1,p1.2.2.2.1,p1.2.2.2.2.1,()) b0 b1 b2 b3 b4 b5 b6 b7).bind fun u8=>
  some (((((),u8.1.1.1.2.1,(),(),(),u8.1.1.1.2.2.2.2.2.1,(),(),(),(),u8.1.1.1.2.2.2.2.2.2.2.2.2.2.1,()),u8.1.1.2.1,()),()),(u8.2.1,u8.2.2.1,(),(),(),(),u8.2.2.2.2.2.2.2.1,(),u8.2.2.2.1,u8.2.2.2.2.1,u8.2.2.2.2.2.1,u8.2.2.2.2.2.2.1,u8.2.2.2.2.2.2.2.2.1,())))
 (cond (p1.1==6)
  ((aE Cy C6 Bn (p1.1,p1.2.1,p1.2.2.1,p1.2.2.2.1,p1.2.2.2.2.1,()) b0 b1 b2 b3 b4 b5 b6 b7).bind fun u9=>
  some (((((),u9.1.1.1.2.1,(),(),(),u9.1.1.1.2.2.2.2.2.1,(),(),(),(),u9.1.1.1.2.2.2.2.2.2.2.2.2.2.1,()),u9.1.1.2.1,()),()),(u9.2.1,u9.2.2.1,(),(),(),(),u9.2.2.2.2.2.2.2.1,(),u9.2.2.2.2.2.2.2.2.2.1,u9.2.2.2.2.1,u9.2.2.2.2.2.1,u9.2.2.2.2.2.2.1,u9.2.2.2.2.2.2.2.2.1,())))
 (cond (p1.1==7)
  ((an Cy C6 Bn (p1.1,p1.2.1,p1.2.2.1,p1.2.2.2.1,p1.2.2.2.2.1,()) b0 b1 b2 b3 b4 b5 b6 b7).bind fun FY=>
  some (((((),FY.1.1.1.2.1,(),(),(),FY.1.1.1.2.2.2.2.2.1,(),(),(),(),FY.1.1.1.2.2.2.2.2.2.2.2.2.2.1,()),FY.1.1.2.1,()),()),(FY.2.1,FY.2.2.1,(),(),(),(),FY.2.2.2.2.2.2.2.1,(),FY.2.2.2.2.2.2.2.2.2.1,FY.2.2.2.2.1,FY.2.2.2.2.2.1,FY.2.2.2.2.2.2.1,FY.2.2.2.2.2.2.2.2.1,())))
 (cond (p1.1==8)
  ((aX Cy C6 Bn b0 b1 b2 b3 b4 b5 b6 b7).bind fun Oq=>
  some (((((),Oq.1.1.1.2.1,(),(),(),Oq.1.1.1.2.2.2.2.2.1,(),(),(),(),Oq.1.1.1.2.2.2.2.2.2.2.2.2.2.1,()),Oq.1.1.2.1,()),()),(Oq.2.1,Oq.2.2.1,(),(),(),(),Oq.2.2.2.2.2.2.2.1,(),Oq.2.2.2.1,Oq.2.2.2.2.1,Oq.2.2.2.2.2.1,Oq.2.2.2.2.2.2.2.2.2.1,Oq.2.2.2.2.2.2.2.2.1,())))
 (cond (p1.1==9)
  ((aY Cy C6 Bn (p1.1,p1.2.1,p1.2.2.1,p1.2.2.2.1,p1.2.2.2.2.1,()) b0 b1 b2 b3 b4 b5 b6 b7).bind fun hO=>
  some (((((),hO.1.1.1.2.1,(),(),(),hO.1.1.1.2.2.2.2.2.1,(),(),(),(),hO.1.1.1.2.2.2.2.2.2.2.2.2.2.1,()),hO.1.1.2.1,()),()),(hO.2.1,hO.2.2.1,(),(),(),(),hO.2.2.2.2.2.2.2.1,(),hO.2.2.2.1,hO.2.2.2.2.1,hO.2.2.2.2.2.1,hO.2.2.2.2.2.2.1,hO.2.2.2.2.2.2.2.2.1,())))
 (cond (p1.1==10)
  ((aQ Cy C6 Bn b0 b1 b2 b3 b4 b5 b6 b7).bind fun cz=>
  some (((((),cz.1.1.1.2.1,(),(),(),cz.1.1.1.2.2.2.2.2.1,(),(),(),(),cz.1.1.1.2.2.2.2.2.2.2.2.2.2.1,()),cz.1.1.2.1,()),()),(cz.2.1,cz.2.2.1,(),(),(),(),cz.2.2.2.2.2.2.2.1,(),cz.2.2.2.1,cz.2.2.2.2.1,cz.2.2.2.2.2.1,cz.2.2.2.2.2.2.1,cz.2.2.2.2.2.2.2.2.1,())))
 (cond (p1.1==11)
  ((eR Cy C6 Bn (p1.1,p1.2.1,p1.2.2.1,p1.2.2.2.1,p1.2.2.2.2.1,()) b0 b1 b2 b3 b4 b5 b6 b7).bind fun et=>
  some (((((),et.1.1.1.2.1,(),(),(),et.1.1.1.2.2.2.2.2.1,(),(),(),(),et.1.1.1.2.2.2.2.2.2.2.2.2.2.1,()),et.1.1.2.1,()),()),(et.2.1,et.2.2.1,(),(),(),(),et.2.2.2.2.2.2.2.1,(),et.2.2.2.1,et.2.2.2.2.1,et.2.2.2.2.2.1,et.2.2.2.2.2.2.1,et.2.2.2.2.2.2.2.2.1,())))
 (cond (p1.1==12)
  ((Xc Cy C6 Bn b0 b1 b2 b3 b4 b5 b6 b7).bind fun dD=>
  some (((((),dD.1.1.1.2.1,(),(),(),dD.1.1.1.2.2.2.2.2.1,(),(),(),(),dD.1.1.1.2.2.2.2.2.2.2.2.2.2.1,()),dD.1.1.2.1,()),()),(dD.2.1,dD.2.2.1,(),(),(),(),dD.2.2.2.2.2.2.2.1,(),dD.2.2.2.1,dD.2.2.2.2.2.2.2.2.2.1,dD.2.2.2.2.2.1,dD.2.2.2.2.2.2.2.2.2.2.1,dD.2.2.2.2.2.2.2.2.1,())))
 (cond (p1.1==13)
  ((Ue (b0,Cy,()) (b3,C6,()) p1.2.1).bind fun qO=>
  cond (!qO.1.1.2.1)
   (some (((((),Cy,(),(),(),C6,(),(),(),(),Bn,()),4,()),()),(b0,b1,(),(),(),(),b6,(),b2,b3,b4,b5,b7,())))
  (some (((((),Cy,(),(),(),qO.1.1.1.2.1,(),(),(),(),Bn,()),0,()),()),(b0,b1,(),(),(),(),b6,(),b2,qO.2.1,b4,b5,b7,()))))
 (cond (p1.1==14)
  ((aW Cy C6 Bn (p1.1,p1.2.1,p1.2.2.1,p1.2.2.2.1,p1.2.2.2.2.1,()) b0 b1 b2 b3 b4 b5 b6 b7).bind fun XZ=>
  some (((((),XZ.1.1.1.2.1,(),(),(),XZ.1.1.1.2.2.2.2.2.1,(),(),(),(),XZ.1.1.1.2.2.2.2.2.2.2.2.2.2.1,()),XZ.1.1.2.1,()),()),(XZ.2.1,XZ.2.2.1,(),(),(),(),XZ.2.2.2.2.2.2.2.1,(),XZ.2.2.2.1,XZ.2.2.2.2.1,XZ.2.2.2.2.2.1,XZ.2.2.2.2.2.2.1,XZ.2.2.2.2.2.2.2.2.1,())))
 (cond (p1.1==15)
  ((au Cy C6 Bn (p1.1,p1.2.1,p1.2.2.1,p1.2.2.2.1,p1.2.2.2.2.1,()) b0 b1 b2 b3 b4 b5 b6 b7).bind fun uy=>
  some (((((),uy.1.1.1.2.1,(),(),(),uy.1.1.1.2.2.2.2.2.1,(),(),(),(),uy.1.1.1.2.2.2.2.2.2.2.2.2.2.1,()),uy.1.1.2.1,()),()),(uy.2.1,uy.2.2.1,(),(),(),(),uy.2.2.2.2.2.2.2.1,(),uy.2.2.2.1,uy.2.2.2.2.1,uy.2.2.2.2.2.2.2.2.2.1,uy.2.2.2.2.2.2.1,uy.2.2.2.2.2.2.2.2.1,())))
 ((XX Cy C6 Bn (p1.1,p1.2.1,p1.2.2.1,p1.2.2.2.1,p1.2.2.2.2.1,()) b0 b1 b2 b3 b4 b5 b6 b7).bind fun ks=>
 some (((((),ks.1.1.1.2.1,(),(),(),ks.1.1.1.2.2.2.2.2.1,(),(),(),(),ks.1.1.1.2.2.2.2.2.2.2.2.2.2.1,()),ks.1.1.2.1,()),()),(ks.2.1,ks.2.2.1,(),(),(),(),ks.2.2.2.2.2.2.2.1,(),ks.2.2.2.1,ks.2.2.2.2.1,ks.2.2.2.2.2.1,ks.2.2.2.2.2.2.1,ks.2.2.2.2.2.2.2.2.1,()))))))))))))))))
abbrev wB:Type:=AD7×AD8
def Q1(p0:ABx)(p1:ADq):Option wB:=
 (GZ (p0.1,p0.2.1,p0.2.2.1,p0.2.2.2.1,p0.2.2.2.2.1,p0.2.2.2.2.2.1,p0.2.2.2.2.2.2.1,p0.2.2.2.2.2.2.2.1,p0.2.2.2.2.2.2.2.2.1,p0.2.2.2.2.2.2.2.2.2.1,p0.2.2.2.2.2.2.2.2.2.2.1,())).bind fun u1=>
 cond (!u1.1.1)
  (some (((((),0,(),(),(),0,(),(),(),(),false,()),1,()),()),([],[],[],[],[],[],[],[],())))
 ((YP (p1.1,p1.2.1,p1.2.2.1,p1.2.2.2.1,p1.2.2.2.2.1,())).bind fun u2=>
 cond (!u2.1.1)
  (some (((((),0,(),(),(),0,(),(),(),(),false,()),1,()),()),([],[],[],[],[],[],[],[],())))
 ((NU (p0.1,p0.2.1,p0.2.2.1,p0.2.2.2.1,p0.2.2.2.2.1,p0.2.2.2.2.2.1,p0.2.2.2.2.2.2.1,p0.2.2.2.2.2.2.2.1,p0.2.2.2.2.2.2.2.2.1,p0.2.2.2.2.2.2.2.2.2.1,p0.2.2.2.2.2.2.2.2.2.2.1,())).bind fun u3=>
 (iD u3.1.1.2.1 u3.1.1.2.2.2.2.2.1 u3.1.1.2.2.2.2.2.2.2.2.2.2.1 (p1.1,p1.2.1,p1.2.2.1,p1.2.2.2.1,p1.2.2.2.2.1,()) u3.2.1 u3.2.2.1 u3.2.2.2.1 u3.2.2.2.2.1 u3.2.2.2.2.2.1 u3.2.2.2.2.2.2.1 u3.2.2.2.2.2.2.2.1 u3.2.2.2.2.2.2.2.2.1).bind fun u4=>
 cond (u4.1.1.2.1 !=0)
  ((NU (p0.1,p0.2.1,p0.2.2.1,p0.2.2.2.1,p0.2.2.2.2.1,p0.2.2.2.2.2.1,p0.2.2.2.2.2.2.1,p0.2.2.2.2.2.2.2.1,p0.2.2.2.2.2.2.2.2.1,p0.2.2.2.2.2.2.2.2.2.1,p0.2.2.2.2.2.2.2.2.2.2.1,())).bind fun EJ=>
  some (((((),EJ.1.1.2.1,(),(),(),EJ.1.1.2.2.2.2.2.1,(),(),(),(),EJ.1.1.2.2.2.2.2.2.2.2.2.2.1,()),u4.1.1.2.1,()),()),(EJ.2.1,EJ.2.2.1,EJ.2.2.2.1,EJ.2.2.2.2.1,EJ.2.2.2.2.2.1,EJ.2.2.2.2.2.2.1,EJ.2.2.2.2.2.2.2.1,EJ.2.2.2.2.2.2.2.2.1,())))
 (some (((((),u4.1.1.1.2.1,(),(),(),u4.1.1.1.2.2.2.2.2.1,(),(),(),(),u4.1.1.1.2.2.2.2.2.2.2.2.2.2.1,()),u4.1.1.2.1,()),()),(u4.2.1,u4.2.2.1,u4.2.2.2.2.2.2.2.2.2.1,u4.2.2.2.2.2.2.2.2.2.2.1,u4.2.2.2.2.2.2.2.2.2.2.2.1,u4.2.2.2.2.2.2.2.2.2.2.2.2.1,u4.2.2.2.2.2.2.2.1,u4.2.2.2.2.2.2.2.2.2.2.2.2.2.1,())))))
abbrev Dz:Type:=(AJs×Unit)×(AD6×Unit×Unit×Unit×Unit×Unit×Unit×Unit×Unit×(List ADq)×List Int×AAZ×List Int×AAP×AAw×AAx×AAp×AAr×Unit)
abbrev Iu:Type:=Int->Int->List Int->Int->Int->Int->Int->Bool->List Int->AAZ->List Int->AAP->AAw->AAx->AAp->AAr->Int->Int->Bool->List Int->AAZ->List Int->AAP->AAw->AAx->AAp->AAr->Int->List Int->List Int->Option Dz
abbrev Ik:Type:=Int->List Int->Int->Int->Int->Int->Bool->List Int->AAZ->List Int->AAP->AAw->AAx->AAp->AAr->Int->Int->Bool->List Int->AAZ->List Int->AAP->AAw->AAx->AAp->AAr->Int->List Int->List Int->Option Dz
abbrev Hv:Type:=Int->Int->List Int->Int->Int->Int->Int->Bool->List Int->AAZ->List Int->AAP->AAw->AAx->AAp->AAr->Int->Int->Bool->List Int->AAZ->List Int->AAP->AAw->AAx->AAp->AAr->Int->Int->Bool->Int->Int->Bool->List Int->AAZ->List Int->AAP->AAw->AAx->AAp->AAr->(List ADq)->Option Dz
def T_(R4:Iu)(R7:Ik)(R14:Hv)(t1 t9:Int)(AG:AAO)(AF AW A_ F6:Int)(Ib:Bool)(b2:AAO)(b3:AAZ)(b4:AAO)(b5:AAP)(b6:AAw)(b7:AAx)(b8:AAp)(b9:AAr)(GR IK:Int)(Et:Bool)(PX:AAO)(Hi:AAZ)(Pw:AAO)(Pu:AAP)(Iy:AAw)(KK:AAx)(L8:AAp)(gf:AAr)(Hl:Int)(b20 b21:AAO):Option Dz:=
 cond ((decide (t9<(b20.length:Int))))
  (if b21.length+1<=C7 then(
  R4 t1 (AQ (t9+1)) AG AF AW A_ F6 Ib b2 b3 b4 b5 b6 b7 b8 b9 GR IK Et PX Hi Pw Pu Iy KK L8 gf Hl b20 (b21++[t9]))else none)
 (R7 t1 AG AF AW A_ F6 Ib b2 b3 b4 b5 b6 b7 b8 b9 GR IK Et PX Hi Pw Pu Iy KK L8 gf Hl b20 b21)
def T8(R4:Iu)(R7:Ik)(R14:Hv)(t1:Int)(AG:AAO)(AF AW A_ F6:Int)(Ib:Bool)(b2:AAO)(b3:AAZ)(b4:AAO)(b5:AAP)(b6:AAw)(b7:AAx)(b8:AAp)(b9:AAr)(GR IK:Int)(Et:Bool)(PX:AAO)(Hi:AAZ)(Pw:AAO)(Pu:AAP)(Iy:AAw)(KK:AAx)(L8:AAp)(gf:AAr)(Hl:Int)(b20 b21:AAO):Option Dz:=
 cond (decide (Hl>1))
  ((FP (b20,Hl,()) b21).bind fun u3=>
  cond (!u3.1.1)
   (R7 t1 AG AF AW A_ F6 Ib b2 b3 b4 b5 b6 b7 b8 b9 GR IK Et PX Hi Pw Pu Iy KK L8 gf (AQ (Hl-1)) b20 b21)
  ((IL (b20,Hl,())).bind fun u4=>
  (AJ (AQ (t1+1)) AG AF AW).bind fun u5=>
  R14 u5.1.1 0 u5.2.1.1 u5.2.1.2.1 u5.2.1.2.2.1 A_ F6 Ib b2 b3 b4 b5 b6 b7 b8 b9 GR IK Et PX Hi Pw Pu Iy KK L8 gf u4.1.1.1.2.1 u4.1.1.1.2.2.2.2.2.1 u4.1.1.1.2.2.2.2.2.2.2.2.2.2.1 u4.1.1.1.2.1 u4.1.1.1.2.2.2.2.2.1 u4.1.1.1.2.2.2.2.2.2.2.2.2.2.1 u4.2.1 u4.2.2.1 u4.2.2.2.1 u4.2.2.2.2.1 u4.2.2.2.2.2.1 u4.2.2.2.2.2.2.1 u4.2.2.2.2.2.2.2.1 u4.2.2.2.2.2.2.2.2.1 []))
 ((IL (b20,Hl,())).bind fun u6=>
 (AJ (AQ (t1+1)) AG AF AW).bind fun u7=>
 R14 u7.1.1 0 u7.2.1.1 u7.2.1.2.1 u7.2.1.2.2.1 A_ F6 Ib b2 b3 b4 b5 b6 b7 b8 b9 GR IK Et PX Hi Pw Pu Iy KK L8 gf u6.1.1.1.2.1 u6.1.1.1.2.2.2.2.2.1 u6.1.1.1.2.2.2.2.2.2.2.2.2.2.1 u6.1.1.1.2.1 u6.1.1.1.2.2.2.2.2.1 u6.1.1.1.2.2.2.2.2.2.2.2.2.2.1 u6.2.1 u6.2.2.1 u6.2.2.2.1 u6.2.2.2.2.1 u6.2.2.2.2.2.1 u6.2.2.2.2.2.2.1 u6.2.2.2.2.2.2.2.1 u6.2.2.2.2.2.2.2.2.1 [])
def SD(R4:Iu)(R7:Ik)(R14:Hv)(t14 t15:Int)(AG:AAO)(AF AW A_ F6:Int)(Ib:Bool)(b2:AAO)(b3:AAZ)(b4:AAO)(b5:AAP)(b6:AAw)(b7:AAx)(b8:AAp)(b9:AAr)(GR IK:Int)(Et:Bool)(PX:AAO)(Hi:AAZ)(Pw:AAO)(Pu:AAP)(Iy:AAw)(KK:AAx)(L8:AAp)(gf:AAr)(Hl mf:Int)(AFt:Bool)(AG_ AF6:Int)(ABH:Bool)(b29:AAO)(b30:AAZ)(b31:AAO)(b32:AAP)(b33:AAw)(b34:AAx)(b35:AAp)(b36:AAr)(b37:List ADq):Option Dz:=
 cond (decide (t15<t14))
  ((Mw (b29,AG_,b30,b31,b32,AF6,b33,b34,b35,b36,ABH,()) AG AF AW).bind fun u8=>
  if b37.length+1<=C7 then(
  let x9:List ADq:=b37++[(u8.1.1.1,u8.1.1.2.1,u8.1.1.2.2.1,u8.1.1.2.2.2.1,u8.1.1.2.2.2.2.1,())]
  (Q1 (b29,AG_,b30,b31,b32,AF6,b33,b34,b35,b36,ABH,()) (u8.1.1.1,u8.1.1.2.1,u8.1.1.2.2.1,u8.1.1.2.2.2.1,u8.1.1.2.2.2.2.1,())).bind fun EJ=>
  cond (EJ.1.1.2.1==0)
   (R14 t14 (AQ (t15+1)) u8.2.1.1 u8.2.1.2.1 u8.2.1.2.2.1 A_ F6 Ib b2 b3 b4 b5 b6 b7 b8 b9 GR IK Et PX Hi Pw Pu Iy KK L8 gf Hl mf AFt EJ.1.1.1.2.1 EJ.1.1.1.2.2.2.2.2.1 EJ.1.1.1.2.2.2.2.2.2.2.2.2.2.1 EJ.2.1 EJ.2.2.1 EJ.2.2.2.1 EJ.2.2.2.2.1 EJ.2.2.2.2.2.1 EJ.2.2.2.2.2.2.1 EJ.2.2.2.2.2.2.2.1 EJ.2.2.2.2.2.2.2.2.1 x9)
  (R14 t14 (AQ (t15+1)) u8.2.1.1 u8.2.1.2.1 u8.2.1.2.2.1 A_ F6 Ib b2 b3 b4 b5 b6 b7 b8 b9 GR IK Et PX Hi Pw Pu Iy KK L8 gf Hl mf AFt AG_ AF6 ABH b29 b30 b31 b32 b33 b34 b35 b36 x9))else none)
 (some (((((),Hl,(),(),(),mf,(),(),(),(),AFt,()),(),((),AG_,(),(),(),AF6,(),(),(),(),ABH,()),()),()),((AG,AF,AW,()),(),(),(),(),(),(),(),(),b37,b29,b30,b31,b32,b33,b34,b35,b36,())))
mutual
def E6:Nat->Iu
 |0=>default
 |n+1=>T_ (E6 n) (E8 n) (Dw n)
def E8:Nat->Ik
 |0=>default
 |n+1=>T8 (E6 n) (E8 n) (Dw n)
def Dw:Nat->Hv
 |0=>default
 |n+1=>SD (E6 n) (E8 n) (Dw n)
end
def T0(R4:Iu)(R7:Ik)(R14:Hv)(p1:Int)(AG:AAO)(AF AW:Int):Option Dz:=
 (Mj AG AF AW).bind fun u1=>
 R4 p1 0 u1.2.1.1 u1.2.1.2.1 u1.2.1.2.2.1 0 0 false [] [] [] [] [] [] [] [] 0 0 false [] [] [] [] [] [] [] [] u1.1.1.2.1 u1.2.2.1 []
def LN:=T0 (E6 AU) (E8 AU) (Dw AU)
abbrev ng:Type:=AIW×AD_
def M5(AG:AAO)(AF AW:Int):Option ng:=
 (AJ 3 AG AF AW).bind fun u1=>
 (AJ 6 u1.2.1.1 u1.2.1.2.1 u1.2.1.2.2.1).bind fun u2=>
 (Bo (AQ (1+u1.1.1)) (AQ (1+u2.1.1))).bind fun u3=>
 (Ei [[],[97],[98,99],[0],[119,111,114,100]] u2.2.1.1 u2.2.1.2.1 u2.2.1.2.2.1).bind fun u4=>
 (Av 3 u4.2.1.1 u4.2.1.2.1 u4.2.1.2.2.1).bind fun u5=>
 cond (u5.1.1)
  ((B3 u3.1.1).bind fun u6=>
  (AJ 3 u5.2.1.1 u5.2.1.2.1 u5.2.1.2.2.1).bind fun u7=>
  let x8:Int:=AQ ((AQ (u6.1.1+1))+u7.1.1)
  (Av 2 u7.2.1.1 u7.2.1.2.1 u7.2.1.2.2.1).bind fun u9=>
  cond (u9.1.1)
   (some (((u3.1.1,x8,true,[],()),()),((u9.2.1.1,u9.2.1.2.1,u9.2.1.2.2.1,()),())))
  (some (((u3.1.1,x8,false,u4.1.1,()),()),((u9.2.1.1,u9.2.1.2.1,u9.2.1.2.2.1,()),()))))
 (some (((u3.1.1,0,false,u4.1.1,()),()),((u5.2.1.1,u5.2.1.2.1,u5.2.1.2.2.1,()),())))
abbrev Co:Type:=AGa×AJu
abbrev JQ:Type:=Int->Int->List Int->Int->Int->Int->AAj->AAj->Int->AAj->AAj->Option Co
abbrev Is:Type:=Int->List Int->Int->Int->Int->AAj->AAj->Int->AAj->AAj->Option Co
abbrev Iw:Type:=Int->Int->List Int->Int->Int->Int->AAj->AAj->Int->AAj->AAj->Option Co
def Ve(R4:JQ)(R20:Is)(R23:Iw)(t4 t5:Int)(AG:AAO)(AF AW Bq:Int)(b2 b3:AAj)(Nt:Int)(b5 b6:AAj):Option Co:=
 cond (decide (t5<t4))
  ((M5 AG AF AW).bind fun u2=>
  (Oi (b5,b6,Nt,()) (u2.1.1.1,u2.1.1.2.1,u2.1.1.2.2.1,u2.1.1.2.2.2.1,())).bind fun u3=>
  (AJ 6 u2.2.1.1 u2.2.1.2.1 u2.2.1.2.2.1).bind fun u4=>
  cond (u4.1.1==0)
   ((Kj (b5,b6,Nt,())).bind fun u5=>
   cond (u5.1.1.2.1)
    (R4 t4 (AQ (t5+1)) u4.2.1.1 u4.2.1.2.1 u4.2.1.2.2.1 Bq b2 b3 u5.1.1.1.2.2.1 u5.2.1 u5.2.2.1)
   (R4 t4 (AQ (t5+1)) u4.2.1.1 u4.2.1.2.1 u4.2.1.2.2.1 Bq b2 b3 Nt b5 b6))
  (cond (u4.1.1==1)
   ((Kj (u3.2.1,u3.2.2.1,u3.1.1.1.2.2.1,())).bind fun u6=>
   cond (u6.1.1.2.1)
    (R4 t4 (AQ (t5+1)) u4.2.1.1 u4.2.1.2.1 u4.2.1.2.2.1 Bq b2 b3 u6.1.1.1.2.2.1 u6.2.1 u6.2.2.1)
   (R4 t4 (AQ (t5+1)) u4.2.1.1 u4.2.1.2.1 u4.2.1.2.2.1 Bq b2 b3 Nt b5 b6))
  (cond (u4.1.1==2)
   ((Av 3 u4.2.1.1 u4.2.1.2.1 u4.2.1.2.2.1).bind fun u7=>
   cond (u7.1.1)
    ((AJ 4 u7.2.1.1 u7.2.1.2.1 u7.2.1.2.2.1).bind fun u8=>
    (P0 (b5,b6,Nt,()) u8.1.1).bind fun u9=>
    cond (u9.1.1.2.1)
     (R4 t4 (AQ (t5+1)) u8.2.1.1 u8.2.1.2.1 u8.2.1.2.2.1 Bq b2 b3 u9.1.1.1.2.2.1 u9.2.1 u9.2.2.1)
    (R4 t4 (AQ (t5+1)) u8.2.1.1 u8.2.1.2.1 u8.2.1.2.2.1 Bq b2 b3 Nt b5 b6))
   (cond (u3.1.1.2.1)
    (R4 t4 (AQ (t5+1)) u7.2.1.1 u7.2.1.2.1 u7.2.1.2.2.1 Bq b2 b3 u3.1.1.1.2.2.1 u3.2.1 u3.2.2.1)
   (R4 t4 (AQ (t5+1)) u7.2.1.1 u7.2.1.2.1 u7.2.1.2.2.1 Bq b2 b3 Nt b5 b6)))
  (cond (u3.1.1.2.1)
   (R4 t4 (AQ (t5+1)) u4.2.1.1 u4.2.1.2.1 u4.2.1.2.2.1 Bq b2 b3 u3.1.1.1.2.2.1 u3.2.1 u3.2.2.1)
  (R4 t4 (AQ (t5+1)) u4.2.1.1 u4.2.1.2.1 u4.2.1.2.2.1 Bq b2 b3 Nt b5 b6)))))
 ((Av 40 AG AF AW).bind fun bA=>
 cond (bA.1.1)
  (R20 1 bA.2.1.1 bA.2.1.2.1 bA.2.1.2.2.1 Bq b2 b3 Nt [] b6)
 (some ((((),(),Nt,()),()),((bA.2.1.1,bA.2.1.2.1,bA.2.1.2.2.1,()),b5,b6,()))))
def Td(R4:JQ)(R20:Is)(R23:Iw)(t8:Int)(AG:AAO)(AF AW Bq:Int)(b2 b3:AAj)(Nt:Int)(b5 b6:AAj):Option Co:=
 cond (decide (t8<=4))
  (R23 t8 1 AG AF AW Bq b2 b3 Nt b5 b6)
 (some ((((),(),Nt,()),()),((AG,AF,AW,()),b5,b6,())))
def Ti(R4:JQ)(R20:Is)(R23:Iw)(t8 t9:Int)(AG:AAO)(AF AW Bq:Int)(b2 b3:AAj)(Nt:Int)(b5 b6:AAj):Option Co:=
 cond (decide (t9<=50))
  ((Bo t8 t9).bind fun qJ=>
  if b5.length+1<=C7 then(
  R23 t8 (AQ (t9+1)) AG AF AW Bq b2 b3 Nt (b5++[(qJ.1.1,0,false,[],())]) b6)else none)
 (R20 (AQ (t8+1)) AG AF AW Bq b2 b3 Nt b5 b6)
mutual
def Ej:Nat->JQ
 |0=>default
 |n+1=>Ve (Ej n) (E9 n) (FA n)
def E9:Nat->Is
 |0=>default
 |n+1=>Td (Ej n) (E9 n) (FA n)
def FA:Nat->Iw
 |0=>default
 |n+1=>Ti (Ej n) (E9 n) (FA n)
end
def VA(R4:JQ)(R20:Is)(R23:Iw)(AG:AAO)(AF AW:Int):Option Co:=
 (AJ 8 AG AF AW).bind fun u1=>
 R4 u1.1.1 0 u1.2.1.1 u1.2.1.2.1 u1.2.1.2.2.1 0 [] [] 0 [] []
def Eg:=VA (Ej AU) (E9 AU) (FA AU)
abbrev Sz:Type:=ACJ×AD_
def Fe(AG:AAO)(AF AW:Int):Option Sz:=
 (AJ 3 AG AF AW).bind fun u1=>
 (AJ 6 u1.2.1.1 u1.2.1.2.1 u1.2.1.2.2.1).bind fun u2=>
 (Bo (AQ (1+u1.1.1)) (AQ (1+u2.1.1))).bind fun u3=>
 (AJ 15 u2.2.1.1 u2.2.1.2.1 u2.2.1.2.2.1).bind fun u4=>
 cond (u4.1.1==0)
  ((Ch [0,(-1),4294967296,4294967297,9223372036854775807,(-9223372036854775808)] u4.2.1.1 u4.2.1.2.1 u4.2.1.2.2.1).bind fun u5=>
  some ((u5.1.1,()),((u5.2.1.1,u5.2.1.2.1,u5.2.1.2.2.1,()),())))
 (cond (u4.1.1==1)
  ((Ch [0,30,31] u4.2.1.1 u4.2.1.2.1 u4.2.1.2.2.1).bind fun u6=>
  (Ch [0,60,61] u6.2.1.1 u6.2.1.2.1 u6.2.1.2.2.1).bind fun u7=>
  (Bo u6.1.1 u7.1.1).bind fun u8=>
  some ((u8.1.1,()),((u7.2.1.1,u7.2.1.2.1,u7.2.1.2.2.1,()),())))
 (some ((u3.1.1,()),((u4.2.1.1,u4.2.1.2.1,u4.2.1.2.2.1,()),()))))
abbrev zH:Type:=AIW×AD_
def Tm(AG:AAO)(AF AW:Int):Option zH:=
 (M5 AG AF AW).bind fun u1=>
 (AJ 15 u1.2.1.1 u1.2.1.2.1 u1.2.1.2.2.1).bind fun u2=>
 cond (u2.1.1==0)
  ((Fe u2.2.1.1 u2.2.1.2.1 u2.2.1.2.2.1).bind fun u3=>
  some (((u3.1.1,u1.1.1.2.1,u1.1.1.2.2.1,u1.1.1.2.2.2.1,()),()),((u3.2.1.1,u3.2.1.2.1,u3.2.1.2.2.1,()),())))
 (cond (u2.1.1==1)
  ((Ch [(-1),1,30,31] u2.2.1.1 u2.2.1.2.1 u2.2.1.2.2.1).bind fun u4=>
  some (((u1.1.1.1,u4.1.1,u1.1.1.2.2.1,u1.1.1.2.2.2.1,()),()),((u4.2.1.1,u4.2.1.2.1,u4.2.1.2.2.1,()),())))
 (cond (u2.1.1==2)
  (some (((u1.1.1.1,u1.1.1.2.1,true,u1.1.1.2.2.2.1,()),()),((u2.2.1.1,u2.2.1.2.1,u2.2.1.2.2.1,()),())))
 (cond (u2.1.1==3)
  ((AJ 2 u2.2.1.1 u2.2.1.2.1 u2.2.1.2.2.1).bind fun u5=>
  if(0:Int)<=(AQ (40+u5.1.1))/\(AQ (40+u5.1.1))<=(AQ (40+u5.1.1))/\(AQ (40+u5.1.1))<=(C7:Int)then(
  some (((u1.1.1.1,u1.1.1.2.1,u1.1.1.2.2.1,((List.replicate ((AQ (40+u5.1.1)).toNat) 0).map fun n:Int=>UInt8.ofNat n.toNat),()),()),((u5.2.1.1,u5.2.1.2.1,u5.2.1.2.2.1,()),())))else none)
 (some (((u1.1.1.1,u1.1.1.2.1,u1.1.1.2.2.1,u1.1.1.2.2.2.1,()),()),((u2.2.1.1,u2.2.1.2.1,u2.2.1.2.2.1,()),()))))))
abbrev SF:Type:=AGa×AJu
abbrev Yz:Type:=List Int->Int->Int->Int->AAj->AAj->Int->AAj->AAj->Option SF
def ba(R10:Yz)(AG:AAO)(AF AW Bq:Int)(b2 b3:AAj)(Nt:Int)(b5 b6:AAj):Option SF:=
 (AJ 2 AG AF AW).bind fun Oq=>
 cond ((decide ((b6.length:Int)<(AQ (20+Oq.1.1)))))
  ((Bo 5 1).bind fun u16=>
  if b6.length+1<=C7 then(
  R10 Oq.2.1.1 Oq.2.1.2.1 Oq.2.1.2.2.1 Bq b2 b3 Nt b5 (b6++[(u16.1.1,0,false,[],())]))else none)
 (some ((((),(),Nt,()),()),((Oq.2.1.1,Oq.2.1.2.1,Oq.2.1.2.2.1,()),b5,b6,())))
def OI:Nat->Yz
 |0=>default
 |n+1=>ba (OI n)
def dP(R10:Yz)(AG:AAO)(AF AW:Int):Option SF:=
 (Eg AG AF AW).bind fun u1=>
 (AJ 25 u1.2.1.1 u1.2.1.2.1 u1.2.1.2.2.1).bind fun u2=>
 cond (u2.1.1==0)
  ((Ch [(-1),30,31] u2.2.1.1 u2.2.1.2.1 u2.2.1.2.2.1).bind fun u3=>
  some ((((),(),u3.1.1,()),()),((u3.2.1.1,u3.2.1.2.1,u3.2.1.2.2.1,()),u1.2.2.1,u1.2.2.2.1,())))
 (cond (u2.1.1==1)
  ((Tm u2.2.1.1 u2.2.1.2.1 u2.2.1.2.2.1).bind fun u4=>
  if u1.2.2.1.length+1<=C7 then(
  some ((((),(),u1.1.1.2.2.1,()),()),((u4.2.1.1,u4.2.1.2.1,u4.2.1.2.2.1,()),(u1.2.2.1++[(u4.1.1.1,u4.1.1.2.1,u4.1.1.2.2.1,u4.1.1.2.2.2.1,())]),u1.2.2.2.1,())))else none)
 (cond (u2.1.1==2)
  ((Tm u2.2.1.1 u2.2.1.2.1 u2.2.1.2.2.1).bind fun u9=>
  if u1.2.2.2.1.length+1<=C7 then(
  some ((((),(),u1.1.1.2.2.1,()),()),((u9.2.1.1,u9.2.1.2.1,u9.2.1.2.2.1,()),u1.2.2.1,(u1.2.2.2.1++[(u9.1.1.1,u9.1.1.2.1,u9.1.1.2.2.1,u9.1.1.2.2.2.1,())]),())))else none)
 (cond (u2.1.1==3)
  (R10 u2.2.1.1 u2.2.1.2.1 u2.2.1.2.2.1 0 [] [] u1.1.1.2.2.1 u1.2.2.1 u1.2.2.2.1)
 (some ((((),(),u1.1.1.2.2.1,()),()),((u2.2.1.1,u2.2.1.2.1,u2.2.1.2.2.1,()),u1.2.2.1,u1.2.2.2.1,()))))))
def YU:=dP (OI AU)
abbrev Sx:Type:=AEA×AJz
abbrev RX:Type:=Int->List Int->Int->Int->List Int->Int->Int->AAP->Int->AAP->Option Sx
def VP(R3:RX)(t6:Int)(AG:AAO)(AF AW:Int)(BM:AAO)(A_ Pv:Int)(b3:AAP)(mG:Int)(b5:AAP):Option Sx:=
 (AJ 7 AG AF AW).bind fun u1=>
 cond (decide (t6<u1.1.1))
  ((Io (BM,A_,()) u1.2.1.1 u1.2.1.2.1 u1.2.1.2.2.1).bind fun u2=>
  (Nw (BM,A_,()) (b5,mG,()) u2.2.2.1).bind fun u3=>
  (AJ 4 u2.2.1.1 u2.2.1.2.1 u2.2.1.2.2.1).bind fun u4=>
  cond (u4.1.1==0)
   ((AJ 5 u4.2.1.1 u4.2.1.2.1 u4.2.1.2.2.1).bind fun u5=>
   (SV (BM,A_,()) (b5,mG,()) (b5.length:Int) u5.1.1).bind fun u6=>
   cond (u6.1.1.2.1)
    (R3 (AQ (t6+1)) u5.2.1.1 u5.2.1.2.1 u5.2.1.2.2.1 BM A_ Pv b3 u6.1.1.1.2.1 u6.2.1)
   (R3 (AQ (t6+1)) u5.2.1.1 u5.2.1.2.1 u5.2.1.2.2.1 BM A_ Pv b3 mG b5))
  (cond (u4.1.1==1)
   ((AJ 2 u4.2.1.1 u4.2.1.2.1 u4.2.1.2.2.1).bind fun u7=>
   (AJ 4 u7.2.1.1 u7.2.1.2.1 u7.2.1.2.2.1).bind fun u8=>
   (Bo (AQ (1+u7.1.1)) (AQ (1+u8.1.1))).bind fun u9=>
   (Ue (BM,A_,()) (b5,mG,()) u9.1.1).bind fun EJ=>
   cond (EJ.1.1.2.1)
    (R3 (AQ (t6+1)) u8.2.1.1 u8.2.1.2.1 u8.2.1.2.2.1 BM A_ Pv b3 EJ.1.1.1.2.1 EJ.2.1)
   (R3 (AQ (t6+1)) u8.2.1.1 u8.2.1.2.1 u8.2.1.2.2.1 BM A_ Pv b3 mG b5))
  (cond (u3.1.1.2.2.1)
   (R3 (AQ (t6+1)) u4.2.1.1 u4.2.1.2.1 u4.2.1.2.2.1 BM A_ Pv b3 u3.1.1.1.2.1 u3.2.1)
  (R3 (AQ (t6+1)) u4.2.1.1 u4.2.1.2.1 u4.2.1.2.2.1 BM A_ Pv b3 mG b5))))
 (some ((((),mG,()),()),((u1.2.1.1,u1.2.1.2.1,u1.2.1.2.2.1,()),b5,())))
def Hf:Nat->RX
 |0=>default
 |n+1=>VP (Hf n)
def Vi(R3:RX)(p1:ABt)(AG:AAO)(AF AW:Int):Option Sx:=
 R3 0 AG AF AW p1.1 p1.2.1 0 [] 0 []
def Q7:=Vi (Hf AU)
abbrev SX:Type:=AEA×AJz
abbrev ZA:Type:=List Int->List Int->Int->Int->Int->AAP->Int->AAP->Option SX
def cV(R17:ZA)(t7 AG:AAO)(AF AW A_:Int)(b2:AAP)(kF:Int)(b4:AAP):Option SX:=
 (AJ 2 AG AF AW).bind fun FY=>
 cond ((decide ((b4.length:Int)<(AQ (30+FY.1.1)))))
  (if b4.length+1<=C7 then(
  R17 t7 FY.2.1.1 FY.2.1.2.1 FY.2.1.2.2.1 A_ b2 kF (b4++[(t7,false,0,())]))else none)
 (some ((((),kF,()),()),((FY.2.1.1,FY.2.1.2.1,FY.2.1.2.2.1,()),b4,())))
def OX:Nat->ZA
 |0=>default
 |n+1=>cV (OX n)
def eG(R17:ZA)(p1:ABt)(AG:AAO)(AF AW:Int):Option SX:=
 (Q7 (p1.1,p1.2.1,()) AG AF AW).bind fun u1=>
 let x2:Int:=(u1.2.2.1.length:Int)
 (AJ 25 u1.2.1.1 u1.2.1.2.1 u1.2.1.2.2.1).bind fun u3=>
 cond (u3.1.1==0)
  ((Fe u3.2.1.1 u3.2.1.2.1 u3.2.1.2.2.1).bind fun u4=>
  some ((((),u4.1.1,()),()),((u4.2.1.1,u4.2.1.2.1,u4.2.1.2.2.1,()),u1.2.2.1,())))
 (cond (u3.1.1==1)
  (cond (decide (x2>0))
   (if(0:Int)<=AQ (x2-1)/\AQ (x2-1)<(u1.2.2.1.length:Int)then(
   some ((((),u1.1.1.2.1,()),()),((u3.2.1.1,u3.2.1.2.1,u3.2.1.2.2.1,()),(u1.2.2.1.set ((AQ (x2-1)).toNat) ((u1.2.2.1.getD ((AQ (x2-1)).toNat) ([],false,0,())).1,true,(u1.2.2.1.getD ((AQ (x2-1)).toNat) ([],false,0,())).2.2.1,())),())))else none)
  (some ((((),u1.1.1.2.1,()),()),((u3.2.1.1,u3.2.1.2.1,u3.2.1.2.2.1,()),u1.2.2.1,()))))
 (cond (u3.1.1==2)
  (cond (decide (x2>0))
   ((Ch [(-1),1,60,61] u3.2.1.1 u3.2.1.2.1 u3.2.1.2.2.1).bind fun u6=>
   if(0:Int)<=(0:Int)/\(0:Int)<(u1.2.2.1.length:Int)then(
   some ((((),u1.1.1.2.1,()),()),((u6.2.1.1,u6.2.1.2.1,u6.2.1.2.2.1,()),(u1.2.2.1.set 0 ((u1.2.2.1.getD 0 ([],false,0,())).1,(u1.2.2.1.getD 0 ([],false,0,())).2.1,u6.1.1,())),())))else none)
  (some ((((),u1.1.1.2.1,()),()),((u3.2.1.1,u3.2.1.2.1,u3.2.1.2.2.1,()),u1.2.2.1,()))))
 (cond (u3.1.1==3)
  (cond (decide (x2>0))
   ((Ff (p1.1,p1.2.1,()) u3.2.1.1 u3.2.1.2.1 u3.2.1.2.2.1).bind fun u8=>
   if(0:Int)<=(0:Int)/\(0:Int)<(u1.2.2.1.length:Int)then(
   some ((((),u1.1.1.2.1,()),()),((u8.2.1.1,u8.2.1.2.1,u8.2.1.2.2.1,()),(u1.2.2.1.set 0 (u8.2.2.1,(u1.2.2.1.getD 0 ([],false,0,())).2.1,(u1.2.2.1.getD 0 ([],false,0,())).2.2.1,())),())))else none)
  (some ((((),u1.1.1.2.1,()),()),((u3.2.1.1,u3.2.1.2.1,u3.2.1.2.2.1,()),u1.2.2.1,()))))
 (cond (u3.1.1==4)
  ((Io (p1.1,p1.2.1,()) u3.2.1.1 u3.2.1.2.1 u3.2.1.2.2.1).bind fun EJ=>
  R17 EJ.2.2.1 EJ.2.1.1 EJ.2.1.2.1 EJ.2.1.2.2.1 0 [] u1.1.1.2.1 u1.2.2.1)
 (some ((((),u1.1.1.2.1,()),()),((u3.2.1.1,u3.2.1.2.1,u3.2.1.2.2.1,()),u1.2.2.1,())))))))
def YK:=eG (OX AU)
abbrev TM:Type:=AGv×AJ0
abbrev Rl:Type:=Int->List Int->Int->Int->List Int->Int->Int->ACa->Int->ACa->Option TM
def VQ(R3:Rl)(t6:Int)(AG:AAO)(AF AW:Int)(BM:AAO)(A_ L9:Int)(b3:ACa)(p9:Int)(b5:ACa):Option TM:=
 (AJ 14 AG AF AW).bind fun u2=>
 cond (decide (t6<u2.1.1))
  ((Ei [[],[97],[98,99]] u2.2.1.1 u2.2.1.2.1 u2.2.1.2.2.1).bind fun u3=>
  (HM (BM,A_,()) (p9,b5,()) u3.1.1).bind fun u4=>
  (Av 2 u3.2.1.1 u3.2.1.2.1 u3.2.1.2.2.1).bind fun u5=>
  cond (u5.1.1)
   ((En (b5.length:Int) 1).bind fun u6=>
   (AJ u6.1.1 u5.2.1.1 u5.2.1.2.1 u5.2.1.2.2.1).bind fun u7=>
   (AJ (BM.length:Int) u7.2.1.1 u7.2.1.2.1 u7.2.1.2.2.1).bind fun u8=>
   (Cj (BM,A_,()) (p9,b5,()) (AQ (1+u7.1.1)) u8.1.1).bind fun u9=>
   cond (u9.1.1.2.1)
    (R3 (AQ (t6+1)) u8.2.1.1 u8.2.1.2.1 u8.2.1.2.2.1 BM A_ L9 b3 u9.1.1.1.1 u9.2.1)
   (R3 (AQ (t6+1)) u8.2.1.1 u8.2.1.2.1 u8.2.1.2.2.1 BM A_ L9 b3 p9 b5))
  (cond (u4.1.1.2.2.1)
   (R3 (AQ (t6+1)) u5.2.1.1 u5.2.1.2.1 u5.2.1.2.2.1 BM A_ L9 b3 u4.1.1.1.1 u4.2.1)
  (R3 (AQ (t6+1)) u5.2.1.1 u5.2.1.2.1 u5.2.1.2.2.1 BM A_ L9 b3 p9 b5)))
 (some (((p9,(),()),()),((u2.2.1.1,u2.2.1.2.1,u2.2.1.2.2.1,()),b5,())))
def JT:Nat->Rl
 |0=>default
 |n+1=>VQ (JT n)
def Ur(R3:Rl)(p1:ABt)(AG:AAO)(AF AW:Int):Option TM:=
 (AJ 4 AG AF AW).bind fun u1=>
 R3 0 u1.2.1.1 u1.2.1.2.1 u1.2.1.2.2.1 p1.1 p1.2.1 0 [] (AQ (1+u1.1.1)) []
def RD:=Ur (JT AU)
abbrev SR:Type:=AGv×AJ0
abbrev Yv:Type:=List Int->Int->Int->Int->ACa->Int->ACa->Option SR
def Tc(oI:Yv)(AG:AAO)(AF AW BM:Int)(b2:ACa)(oC:Int)(b4:ACa):Option SR:=
 cond ((decide ((b4.length:Int)<60)))
  (cond ((decide ((b4.length:Int)>0)))
   (if(0:Int)<=(0:Int)/\(0:Int)<(b4.length:Int)then(
   if b4.length+1<=C7 then(
   oI AG AF AW BM b2 oC (b4++[((b4.getD 0 ([],[],false,())).1,(b4.getD 0 ([],[],false,())).2.1,(b4.getD 0 ([],[],false,())).2.2.1,())]))else none)else none)
  (some (((oC,(),()),()),((AG,AF,AW,()),b4,()))))
 (some (((oC,(),()),()),((AG,AF,AW,()),b4,())))
def Hm:Nat->Yv
 |0=>default
 |n+1=>Tc (Hm n)
def Pb(oI:Yv)(p1:ABt)(AG:AAO)(AF AW:Int):Option SR:=
 (RD (p1.1,p1.2.1,()) AG AF AW).bind fun u1=>
 (AJ 25 u1.2.1.1 u1.2.1.2.1 u1.2.1.2.2.1).bind fun u2=>
 cond (u2.1.1==0)
  ((Ch [0,30,31] u2.2.1.1 u2.2.1.2.1 u2.2.1.2.2.1).bind fun u3=>
  some (((u3.1.1,(),()),()),((u3.2.1.1,u3.2.1.2.1,u3.2.1.2.2.1,()),u1.2.2.1,())))
 (cond (u2.1.1==1)
  (cond (decide ((u1.2.2.1.length:Int)>0))
   (if(0:Int)<=(0:Int)/\(0:Int)<(u1.2.2.1.length:Int)then(
   if(0:Int)<=(0:Int)/\(0:Int)<(u1.2.2.1.length:Int)then(
   some (((u1.1.1.1,(),()),()),((u2.2.1.1,u2.2.1.2.1,u2.2.1.2.2.1,()),(u1.2.2.1.set 0 ((u1.2.2.1.getD 0 ([],[],false,())).1,(u1.2.2.1.getD 0 ([],[],false,())).2.1,!((u1.2.2.1.getD 0 ([],[],false,())).2.2.1),())),())))else none)else none)
  (some (((u1.1.1.1,(),()),()),((u2.2.1.1,u2.2.1.2.1,u2.2.1.2.2.1,()),u1.2.2.1,()))))
 (cond (u2.1.1==2)
  ((AJ 2 u2.2.1.1 u2.2.1.2.1 u2.2.1.2.2.1).bind fun u7=>
  if(0:Int)<=(AQ (40+u7.1.1))/\(AQ (40+u7.1.1))<=(AQ (40+u7.1.1))/\(AQ (40+u7.1.1))<=(C7:Int)then(
  if u1.2.2.1.length+1<=C7 then(
  some (((u1.1.1.1,(),()),()),((u7.2.1.1,u7.2.1.2.1,u7.2.1.2.2.1,()),(u1.2.2.1++[(((List.replicate ((AQ (40+u7.1.1)).toNat) 0).map fun n:Int=>UInt8.ofNat n.toNat),[],false,())]),())))else none)else none)
 (cond (u2.1.1==3)
  (oI u2.2.1.1 u2.2.1.2.1 u2.2.1.2.2.1 0 [] u1.1.1.1 u1.2.2.1)
 (some (((u1.1.1.1,(),()),()),((u2.2.1.1,u2.2.1.2.1,u2.2.1.2.2.1,()),u1.2.2.1,()))))))
def Qo:=Pb (Hm AU)
abbrev HT:Type:=ADC×ADn
abbrev ZZ:Type:=Int->List Int->Int->List Int->Option HT
def bN(R3:ZZ)(t6:Int)(AG:AAO)(AF:Int)(b1:AAO):Option HT:=
 cond ((decide (t6<(AG.length:Int))))
  ((FP (AG,AF,()) b1).bind fun u2=>
  cond (!u2.1.1)
   ((JH b1 t6).bind fun u3=>
   R3 (AQ (t6+1)) AG AF u3.2.1)
  (some (((),()),(b1,()))))
 (some (((),()),(b1,())))
def OV:Nat->ZZ
 |0=>default
 |n+1=>bN (OV n)
def ck(R3:ZZ)(p0:ABt)(p1:ABv):Option HT:=
 if 0+p1.2.2.1.length<=C7 then(
 R3 0 p0.1 p0.2.1 p1.2.2.1)else none
def Jl:=ck (OV AU)
abbrev Kq:Type:=AGK×AJ2
abbrev ME:Type:=Int->Int->List Int->Int->Int->List Int->Int->Int->Int->Bool->List Int->AAj->List AAO->Int->Int->Bool->List Int->AAj->List AAO->Option Kq
abbrev LY:Type:=Int->List Int->Int->Int->List Int->Int->Int->Int->Bool->List Int->AAj->List AAO->Int->Int->Bool->List Int->AAj->List AAO->Option Kq
def Rs(g29:Int->List Int->Int->Int->Option Ly)(yQ:Int->List Int->Int->Int->Option HO)(uL:Int->Int->Option Ni)(tv:List Int->Int->Int->Option Co)(ua:Int->Int->Option KW)(uA:ABt->ABv->Int->AAj->Option GV)(ui:ACo->Int->Option GY)(uK:ABt->ABv->List Int->Option Gg)(uM:ABt->ABv->Option HT)(Oz:ABt->ABv->Int->Int->Option CY)(R4:ME)(oJ:LY)(t6 t7:Int)(AG:AAO)(AF AW:Int)(BM:AAO)(A_ L9 Pv:Int)(kO:Bool)(b3:AAO)(b4:AAj)(b5:List AAO)(gM fO:Int)(gI:Bool)(b7:AAO)(b8:AAj)(b9:List AAO):Option Kq:=
 cond (decide (t7<t6))
  ((yQ (BM.length:Int) AG AF AW).bind fun u4=>
  (tv u4.2.1.1 u4.2.1.2.1 u4.2.1.2.2.1).bind fun u5=>
  (ui (u5.2.2.1,u5.2.2.2.1,u5.1.1.2.2.1,()) fO).bind fun u6=>
  (uA (BM,A_,()) (gM,fO,b7,b8,gI,b9,()) u4.1.1 u6.2.1).bind fun u7=>
  cond (u7.1.1.2.1)
   (R4 t6 (AQ (t7+1)) u5.2.1.1 u5.2.1.2.1 u5.2.1.2.2.1 BM A_ L9 Pv kO b3 b4 b5 u7.1.1.1.1 u7.1.1.1.2.1 u7.1.1.1.2.2.2.2.1 u7.2.1 u7.2.2.1 u7.2.2.2.1)
  (R4 t6 (AQ (t7+1)) u5.2.1.1 u5.2.1.2.1 u5.2.1.2.2.1 BM A_ L9 Pv kO b3 b4 b5 gM fO gI b7 b8 b9))
 ((g29 3 AG AF AW).bind fun en=>
 cond (en.1.1)
  (some (((gM,fO,(),(),gI,(),()),()),((en.2.1.1,en.2.1.2.1,en.2.1.2.2.1,()),b7,b8,b9,())))
 ((uM (BM,A_,()) (gM,fO,b7,b8,gI,b9,())).bind fun cz=>
 (uK (BM,A_,()) (gM,fO,b7,b8,gI,b9,()) cz.2.1).bind fun Ru=>
 cond (Ru.1.1.2.1)
  (oJ 0 en.2.1.1 en.2.1.2.1 en.2.1.2.2.1 BM A_ L9 Pv kO b3 b4 b5 Ru.1.1.1.1 Ru.1.1.1.2.1 Ru.1.1.1.2.2.2.2.1 Ru.2.1 Ru.2.2.1 Ru.2.2.2.1)
 (oJ 0 en.2.1.1 en.2.1.2.1 en.2.1.2.2.1 BM A_ L9 Pv kO b3 b4 b5 gM fO gI b7 b8 b9)))
def OC:=Rs Av AJ En Eg Jd HA G9 G7 Jl Cv
def P1(g29:Int->List Int->Int->Int->Option Ly)(yQ:Int->List Int->Int->Int->Option HO)(uL:Int->Int->Option Ni)(tv:List Int->Int->Int->Option Co)(ua:Int->Int->Option KW)(uA:ABt->ABv->Int->AAj->Option GV)(ui:ACo->Int->Option GY)(uK:ABt->ABv->List Int->Option Gg)(uM:ABt->ABv->Option HT)(Oz:ABt->ABv->Int->Int->Option CY)(R4:ME)(oJ:LY)(t12:Int)(AG:AAO)(AF AW:Int)(BM:AAO)(A_ L9 Pv:Int)(kO:Bool)(b3:AAO)(b4:AAj)(b5:List AAO)(gM fO:Int)(gI:Bool)(b7:AAO)(b8:AAj)(b9:List AAO):Option Kq:=
 (yQ 9 AG AF AW).bind fun Sc=>
 cond ((decide (t12<Sc.1.1)))
  ((uL (b9.length:Int) 1).bind fun qJ=>
  (yQ qJ.1.1 Sc.2.1.1 Sc.2.1.2.1 Sc.2.1.2.2.1).bind fun qO=>
  (yQ (BM.length:Int) qO.2.1.1 qO.2.1.2.1 qO.2.1.2.2.1).bind fun XZ=>
  (Oz (BM,A_,()) (gM,fO,b7,b8,gI,b9,()) (AQ (1+qO.1.1)) XZ.1.1).bind fun qL=>
  cond (qL.1.1.2.1)
   (oJ (AQ (t12+1)) XZ.2.1.1 XZ.2.1.2.1 XZ.2.1.2.2.1 BM A_ L9 Pv kO b3 b4 b5 qL.1.1.1.1 qL.1.1.1.2.1 qL.1.1.1.2.2.2.2.1 qL.2.1 qL.2.2.1 qL.2.2.2.1)
  (oJ (AQ (t12+1)) XZ.2.1.1 XZ.2.1.2.1 XZ.2.1.2.2.1 BM A_ L9 Pv kO b3 b4 b5 gM fO gI b7 b8 b9))
 (some (((gM,fO,(),(),gI,(),()),()),((Sc.2.1.1,Sc.2.1.2.1,Sc.2.1.2.2.1,()),b7,b8,b9,())))
def Mn:=P1 Av AJ En Eg Jd HA G9 G7 Jl Cv
mutual
def Cs:Nat->ME
 |0=>default
 |n+1=>OC (Cs n) (Cd n)
def Cd:Nat->LY
 |0=>default
 |n+1=>Mn (Cs n) (Cd n)
end
def Rq(g29:Int->List Int->Int->Int->Option Ly)(yQ:Int->List Int->Int->Int->Option HO)(uL:Int->Int->Option Ni)(tv:List Int->Int->Int->Option Co)(ua:Int->Int->Option KW)(uA:ABt->ABv->Int->AAj->Option GV)(ui:ACo->Int->Option GY)(uK:ABt->ABv->List Int->Option Gg)(uM:ABt->ABv->Option HT)(Oz:ABt->ABv->Int->Int->Option CY)(R4:ME)(oJ:LY)(p1:ABt)(AG:AAO)(AF AW:Int):Option Kq:=
 (yQ 2 AG AF AW).bind fun u1=>
 (ua (AQ (1+u1.1.1)) 4).bind fun u2=>
 (yQ 5 u1.2.1.1 u1.2.1.2.1 u1.2.1.2.2.1).bind fun u3=>
 R4 u3.1.1 0 u3.2.1.1 u3.2.1.2.1 u3.2.1.2.2.1 p1.1 p1.2.1 0 0 false [] [] [] u2.1.1.1 u2.1.1.2.1 u2.1.1.2.2.2.2.1 u2.2.1 u2.2.2.1 u2.2.2.2.1
def Nh:=Rq Av AJ En Eg Jd HA G9 G7 Jl Cv
def Mf:=Nh (Cs AU) (Cd AU)
abbrev eo:Type:=AGK×AJ2
def Ye(p1:ABt)(AG:AAO)(AF AW:Int):Option eo:=
 (Mf (p1.1,p1.2.1,()) AG AF AW).bind fun u1=>
 (AJ 25 u1.2.1.1 u1.2.1.2.1 u1.2.1.2.2.1).bind fun u2=>
 cond (u2.1.1==0)
  ((Ch [u1.1.1.2.1,30,31] u2.2.1.1 u2.2.1.2.1 u2.2.1.2.2.1).bind fun u3=>
  some (((u3.1.1,u1.1.1.2.1,(),(),u1.1.1.2.2.2.2.1,(),()),()),((u3.2.1.1,u3.2.1.2.1,u3.2.1.2.2.1,()),u1.2.2.1,u1.2.2.2.1,u1.2.2.2.2.1,())))
 (cond (u2.1.1==1)
  (some (((u1.1.1.1,u1.1.1.2.1,(),(),!u1.1.1.2.2.2.2.1,(),()),()),((u2.2.1.1,u2.2.1.2.1,u2.2.1.2.2.1,()),u1.2.2.1,u1.2.2.2.1,u1.2.2.2.2.1,())))
 (cond (u2.1.1==2)
  ((Ff (p1.1,p1.2.1,()) u2.2.1.1 u2.2.1.2.1 u2.2.1.2.2.1).bind fun u4=>
  if u1.2.2.2.2.1.length+1<=C7 then(
  some (((u1.1.1.1,u1.1.1.2.1,(),(),u1.1.1.2.2.2.2.1,(),()),()),((u4.2.1.1,u4.2.1.2.1,u4.2.1.2.2.1,()),u1.2.2.1,u1.2.2.2.1,(u1.2.2.2.2.1++[u4.2.2.1]),())))else none)
 (cond (u2.1.1==3)
  ((Tm u2.2.1.1 u2.2.1.2.1 u2.2.1.2.2.1).bind fun u9=>
  if u1.2.2.2.1.length+1<=C7 then(
  some (((u1.1.1.1,u1.1.1.2.1,(),(),u1.1.1.2.2.2.2.1,(),()),()),((u9.2.1.1,u9.2.1.2.1,u9.2.1.2.2.1,()),u1.2.2.1,(u1.2.2.2.1++[(u9.1.1.1,u9.1.1.2.1,u9.1.1.2.2.1,u9.1.1.2.2.2.1,())]),u1.2.2.2.2.1,())))else none)
 (cond (u2.1.1==4)
  ((Ff (p1.1,p1.2.1,()) u2.2.1.1 u2.2.1.2.1 u2.2.1.2.2.1).bind fun Oq=>
  some (((u1.1.1.1,u1.1.1.2.1,(),(),u1.1.1.2.2.2.2.1,(),()),()),((Oq.2.1.1,Oq.2.1.2.1,Oq.2.1.2.2.1,()),Oq.2.2.1,u1.2.2.2.1,u1.2.2.2.2.1,())))
 (some (((u1.1.1.1,u1.1.1.2.1,(),(),u1.1.1.2.2.2.2.1,(),()),()),((u2.2.1.1,u2.2.1.2.1,u2.2.1.2.2.1,()),u1.2.2.1,u1.2.2.2.1,u1.2.2.2.2.1,())))))))
abbrev Ia:Type:=AG7×(AD6×ADi×Unit)
abbrev PD:Type:=Int->List Int->Int->Int->Int->Int->ADi->Int->Int->ADi->Option Ia
def SK(R3:PD)(t4:Int)(AG:AAO)(AF AW BM A_:Int)(b2:ADi)(oC kF:Int)(b4:ADi):Option Ia:=
 (AJ 4 AG AF AW).bind fun u3=>
 cond (decide (t4<u3.1.1))
  ((AJ 5 u3.2.1.1 u3.2.1.2.1 u3.2.1.2.2.1).bind fun u4=>
  (Fe u4.2.1.1 u4.2.1.2.1 u4.2.1.2.2.1).bind fun u5=>
  if b4.length+1<=C7 then(
  R3 (AQ (t4+1)) u5.2.1.1 u5.2.1.2.1 u5.2.1.2.2.1 BM A_ b2 oC kF (b4++[(AQ (1+u4.1.1),u5.1.1,[],())]))else none)
 ((AJ 25 u3.2.1.1 u3.2.1.2.1 u3.2.1.2.2.1).bind fun L0=>
 cond (L0.1.1==0)
  ((Ch [0,31,32] L0.2.1.1 L0.2.1.2.1 L0.2.1.2.2.1).bind fun Oq=>
  some (((Oq.1.1,kF,(),()),()),((Oq.2.1.1,Oq.2.1.2.1,Oq.2.1.2.2.1,()),b4,())))
 (cond (L0.1.1==1)
  ((Ch [0,60,61,62] L0.2.1.1 L0.2.1.2.1 L0.2.1.2.2.1).bind fun jR=>
  some (((oC,jR.1.1,(),()),()),((jR.2.1.1,jR.2.1.2.1,jR.2.1.2.2.1,()),b4,())))
 (cond (L0.1.1==2)
  ((AJ 2 L0.2.1.1 L0.2.1.2.1 L0.2.1.2.2.1).bind fun u16=>
  if(0:Int)<=(AQ (120+u16.1.1))/\(AQ (120+u16.1.1))<=(AQ (120+u16.1.1))/\(AQ (120+u16.1.1))<=(C7:Int)then(
  some (((oC,kF,(),()),()),((u16.2.1.1,u16.2.1.2.1,u16.2.1.2.2.1,()),(List.replicate ((AQ (120+u16.1.1)).toNat) (0,0,[],())),())))else none)
 (some (((oC,kF,(),()),()),((L0.2.1.1,L0.2.1.2.1,L0.2.1.2.2.1,()),b4,()))))))
def Hz:Nat->PD
 |0=>default
 |n+1=>SK (Hz n)
def Ry(R3:PD)(AG:AAO)(AF AW:Int):Option Ia:=
 (AJ 3 AG AF AW).bind fun u1=>
 (AJ 5 u1.2.1.1 u1.2.1.2.1 u1.2.1.2.2.1).bind fun u2=>
 R3 0 u2.2.1.1 u2.2.1.2.1 u2.2.1.2.2.1 0 0 [] (AQ (1+u1.1.1)) (AQ (1+u2.1.1)) []
def KR:=Ry (Hz AU)
abbrev mE:Type:=AHp×(AD6×List Int×AAZ×List Int×AAP×AAw×AAx×AAp×AAr×Unit)
def Ra(g30:List Int->Int->Int->Option fP)(yQ:Int->List Int->Int->Int->Option HO)(g32:List Int->Int->Int->Option eW)(g87:Int->List Int->Int->Int->Option Dz)(g88:ABt->List Int->Int->Int->Option KU)(g89:List Int->Int->Int->Option SF)(g90:ABt->List Int->Int->Int->Option SX)(g91:ABt->List Int->Int->Int->Option SR)(g92:ABt->List Int->Int->Int->Option eo)(g93:List Int->Int->Int->Option Ia)(g94:List Int->Int->Int->Option Sz)(p1 AG:AAO)(AF AW:Int):Option mE:=
 (g32 p1 40 90).bind fun u1=>
 (g87 u1.1.1 AG AF AW).bind fun u2=>
 let x4:AAO:=u2.2.2.2.2.2.2.2.2.2.2.2.1
 let x5:AAZ:=u2.2.2.2.2.2.2.2.2.2.2.2.2.1
 let x6:AAO:=u2.2.2.2.2.2.2.2.2.2.2.2.2.2.1
 let x7:AAP:=u2.2.2.2.2.2.2.2.2.2.2.2.2.2.2.1
 let x8:AAw:=u2.2.2.2.2.2.2.2.2.2.2.2.2.2.2.2.1
 let x9:AAx:=u2.2.2.2.2.2.2.2.2.2.2.2.2.2.2.2.2.1
 let wx:AAp:=u2.2.2.2.2.2.2.2.2.2.2.2.2.2.2.2.2.2.1
 let x11:AAr:=u2.2.2.2.2.2.2.2.2.2.2.2.2.2.2.2.2.2.2.1
 (yQ 40 u2.2.1.1 u2.2.1.2.1 u2.2.1.2.2.1).bind fun Jq=>
 cond (Jq.1.1==0)
  ((g88 (x4,u2.1.1.2.2.1.2.1,()) Jq.2.1.1 Jq.2.1.2.1 Jq.2.1.2.2.1).bind fun L0=>
  some ((((),u2.1.1.2.2.1.2.1,(),(),(),u2.1.1.2.2.1.2.2.2.2.2.1,(),(),(),(),u2.1.1.2.2.1.2.2.2.2.2.2.2.2.2.2.1,()),()),((L0.2.1.1,L0.2.1.2.1,L0.2.1.2.2.1,()),x4,x5,L0.2.2.1,x7,x8,x9,wx,x11,())))
 (cond (Jq.1.1==1)
  ((g89 Jq.2.1.1 Jq.2.1.2.1 Jq.2.1.2.2.1).bind fun Oq=>
  if(0:Int)<=(0:Int)/\(0:Int)<(x5.length:Int)then(
  some ((((),u2.1.1.2.2.1.2.1,(),(),(),u2.1.1.2.2.1.2.2.2.2.2.1,(),(),(),(),u2.1.1.2.2.1.2.2.2.2.2.2.2.2.2.2.1,()),()),((Oq.2.1.1,Oq.2.1.2.1,Oq.2.1.2.2.1,()),x4,(x5.set 0 (Oq.2.2.1,Oq.2.2.2.1,Oq.1.1.2.2.1,())),x6,x7,x8,x9,wx,x11,())))else none)
 (cond (Jq.1.1==2)
  ((g90 (x4,u2.1.1.2.2.1.2.1,()) Jq.2.1.1 Jq.2.1.2.1 Jq.2.1.2.2.1).bind fun u16=>
  some ((((),u2.1.1.2.2.1.2.1,(),(),(),u16.1.1.2.1,(),(),(),(),u2.1.1.2.2.1.2.2.2.2.2.2.2.2.2.2.1,()),()),((u16.2.1.1,u16.2.1.2.1,u16.2.1.2.2.1,()),x4,x5,x6,u16.2.2.1,x8,x9,wx,x11,())))
 (cond (Jq.1.1==3)
  ((g91 (x4,u2.1.1.2.2.1.2.1,()) Jq.2.1.1 Jq.2.1.2.1 Jq.2.1.2.2.1).bind fun hO=>
  if x8.length+1<=C7 then(
  some ((((),u2.1.1.2.2.1.2.1,(),(),(),u2.1.1.2.2.1.2.2.2.2.2.1,(),(),(),(),u2.1.1.2.2.1.2.2.2.2.2.2.2.2.2.2.1,()),()),((hO.2.1.1,hO.2.1.2.1,hO.2.1.2.2.1,()),x4,x5,x6,x7,(x8++[(hO.1.1.1,hO.2.2.1,())]),x9,wx,x11,())))else none)
 (cond (Jq.1.1==4)
  ((g92 (x4,u2.1.1.2.2.1.2.1,()) Jq.2.1.1 Jq.2.1.2.1 Jq.2.1.2.2.1).bind fun Sc=>
  if x9.length+1<=C7 then(
  some ((((),u2.1.1.2.2.1.2.1,(),(),(),u2.1.1.2.2.1.2.2.2.2.2.1,(),(),(),(),u2.1.1.2.2.1.2.2.2.2.2.2.2.2.2.2.1,()),()),((Sc.2.1.1,Sc.2.1.2.1,Sc.2.1.2.2.1,()),x4,x5,x6,x7,x8,(x9++[(Sc.1.1.1,Sc.1.1.2.1,Sc.2.2.1,Sc.2.2.2.1,Sc.1.1.2.2.2.2.1,Sc.2.2.2.2.1,())]),wx,x11,())))else none)
 (cond (Jq.1.1==5)
  ((g93 Jq.2.1.1 Jq.2.1.2.1 Jq.2.1.2.2.1).bind fun qI=>
  if(0:Int)<=(0:Int)/\(0:Int)<(wx.length:Int)then(
  some ((((),u2.1.1.2.2.1.2.1,(),(),(),u2.1.1.2.2.1.2.2.2.2.2.1,(),(),(),(),u2.1.1.2.2.1.2.2.2.2.2.2.2.2.2.2.1,()),()),((qI.2.1.1,qI.2.1.2.1,qI.2.1.2.2.1,()),x4,x5,x6,x7,x8,x9,(wx.set 0 (qI.1.1.1,qI.1.1.2.1,qI.2.2.1,())),x11,())))else none)
 (cond (Jq.1.1==6)
  ((g94 Jq.2.1.1 Jq.2.1.2.1 Jq.2.1.2.2.1).bind fun ks=>
  if x11.length+1<=C7 then(
  some ((((),u2.1.1.2.2.1.2.1,(),(),(),u2.1.1.2.2.1.2.2.2.2.2.1,(),(),(),(),u2.1.1.2.2.1.2.2.2.2.2.2.2.2.2.2.1,()),()),((ks.2.1.1,ks.2.1.2.1,ks.2.1.2.2.1,()),x4,x5,x6,x7,x8,x9,wx,(x11++[(ks.1.1,[],false,())]),())))else none)
 (cond (Jq.1.1==7)
  (some ((((),u2.1.1.2.2.1.2.1,(),(),(),u2.1.1.2.2.1.2.2.2.2.2.1,(),(),(),(),!u2.1.1.2.2.1.2.2.2.2.2.2.2.2.2.2.1,()),()),((Jq.2.1.1,Jq.2.1.2.1,Jq.2.1.2.2.1,()),x4,x5,x6,x7,x8,x9,wx,x11,())))
 (cond (Jq.1.1==8)
  ((g30 Jq.2.1.1 Jq.2.1.2.1 Jq.2.1.2.2.1).bind fun u39=>
  some ((((),u39.1.1.2.1,(),(),(),u2.1.1.2.2.1.2.2.2.2.2.1,(),(),(),(),u2.1.1.2.2.1.2.2.2.2.2.2.2.2.2.2.1,()),()),((u39.2.1.1,u39.2.1.2.1,u39.2.1.2.2.1,()),u39.2.2.1,x5,x6,x7,x8,x9,wx,x11,())))
 (some ((((),u2.1.1.2.2.1.2.1,(),(),(),u2.1.1.2.2.1.2.2.2.2.2.1,(),(),(),(),u2.1.1.2.2.1.2.2.2.2.2.2.2.2.2.2.1,()),()),((Jq.2.1.1,Jq.2.1.2.1,Jq.2.1.2.2.1,()),x4,x5,x6,x7,x8,x9,wx,x11,())))))))))))
def I9:=Ra Tu AJ X7 LN Ff YU YK Qo Ye KR Fe
abbrev qS:Type:=ABw×Unit
def bf(p0:AF2):Option qS:=
 (CR p0.1 1 3).bind fun u1=>
 some ((u1.1.1,()),())
abbrev ZH:Type:=ABw×Unit
abbrev XO:Type:=Int->Int->Int->Int->ADi->Option ZH
def Zj(R3:XO)(t3 t4 AG AF:Int)(AW:ADi):Option ZH:=
 cond ((decide (t4<(AW.length:Int))))
  (if(0:Int)<=t4/\t4<(AW.length:Int)then(
  (bf ((AW.getD (t4.toNat) (0,0,[],())).1,(AW.getD (t4.toNat) (0,0,[],())).2.1,(AW.getD (t4.toNat) (0,0,[],())).2.2.1,())).bind fun u2=>
  cond (!u2.1.1)
   (R3 t3 (AQ (t4+1)) AG AF AW)
  (cond (decide (t3>=0))
   (if(0:Int)<=t3/\t3<(AW.length:Int)then(
   if(0:Int)<=t4/\t4<(AW.length:Int)then(
   cond (decide (((AW.getD (t3.toNat) (0,0,[],())).2.1)>=((AW.getD (t4.toNat) (0,0,[],())).2.1)))
    (some ((false,()),()))
   (R3 t4 (AQ (t4+1)) AG AF AW))else none)else none)
  (R3 t4 (AQ (t4+1)) AG AF AW)))else none)
 (some ((true,()),()))
def MY:Nat->XO
 |0=>default
 |n+1=>Zj (MY n)
def Z2(R3:XO)(p0:ADk):Option ZH:=
 R3 (-1) 0 p0.1 p0.2.1 p0.2.2.1
def R0:=Z2 (MY AU)
abbrev oV:Type:=ABw×Unit
def Sa(p0:ABx):Option oV:=
 (GZ (p0.1,p0.2.1,p0.2.2.1,p0.2.2.2.1,p0.2.2.2.2.1,p0.2.2.2.2.2.1,p0.2.2.2.2.2.2.1,p0.2.2.2.2.2.2.2.1,p0.2.2.2.2.2.2.2.2.1,p0.2.2.2.2.2.2.2.2.2.1,p0.2.2.2.2.2.2.2.2.2.2.1,())).bind fun u1=>
 cond (u1.1.1)
  (if(0:Int)<=(0:Int)/\(0:Int)<(p0.2.2.2.2.2.2.2.2.1.length:Int)then(
  (R0 ((p0.2.2.2.2.2.2.2.2.1.getD 0 (0,0,[],())).1,(p0.2.2.2.2.2.2.2.2.1.getD 0 (0,0,[],())).2.1,(p0.2.2.2.2.2.2.2.2.1.getD 0 (0,0,[],())).2.2.1,())).bind fun u2=>
  cond (u2.1.1)
   (if(0:Int)<=(1:Int)/\(1:Int)<(p0.2.2.2.2.2.2.2.2.1.length:Int)then(
   (R0 ((p0.2.2.2.2.2.2.2.2.1.getD 1 (0,0,[],())).1,(p0.2.2.2.2.2.2.2.2.1.getD 1 (0,0,[],())).2.1,(p0.2.2.2.2.2.2.2.2.1.getD 1 (0,0,[],())).2.2.1,())).bind fun u3=>
   some ((u3.1.1,()),()))else none)
  (some ((false,()),())))else none)
 (some ((false,()),()))
abbrev cS:Type:=ABw×Unit
abbrev Yp:Type:=Int->List Int->Int->AAZ->List Int->AAP->Int->AAw->AAx->AAp->AAr->Bool->Int->Int->List UInt8->Option cS
def cX(R2:Yp)(t5:Int)(AG:AAO)(AF:Int)(AW:AAZ)(BT:AAO)(Be:AAP)(Ai:Int)(CH:AAw)(CL:AAx)(Bl:AAp)(CE:AAr)(AN:Bool)(BM A_:Int)(Bq:ABG):Option cS:=
 cond ((decide (t5<(CE.length:Int))))
  (if(0:Int)<=t5/\t5<(CE.length:Int)then(
  cond (((CE.getD (t5.toNat) (0,[],false,())).1)==A_)
   (if(0:Int)<=t5/\t5<(CE.length:Int)then(
   cond (((CE.getD (t5.toNat) (0,[],false,())).2.1)==Bq)
    (some ((true,()),()))
   (R2 (AQ (t5+1)) AG AF AW BT Be Ai CH CL Bl CE AN BM A_ Bq))else none)
  (R2 (AQ (t5+1)) AG AF AW BT Be Ai CH CL Bl CE AN BM A_ Bq))else none)
 (some ((false,()),()))
def OU:Nat->Yp
 |0=>default
 |n+1=>cX (OU n)
def bu(R2:Yp)(p0:ABx)(p1:AF2):Option cS:=
 R2 0 p0.1 p0.2.1 p0.2.2.1 p0.2.2.2.1 p0.2.2.2.2.1 p0.2.2.2.2.2.1 p0.2.2.2.2.2.2.1 p0.2.2.2.2.2.2.2.1 p0.2.2.2.2.2.2.2.2.1 p0.2.2.2.2.2.2.2.2.2.1 p0.2.2.2.2.2.2.2.2.2.2.1 p1.1 p1.2.1 p1.2.2.1
def aI:=bu (OU AU)
abbrev MV:Type:=ABw×Unit
abbrev PS:Type:=Int->List Int->Int->AAZ->List Int->AAP->Int->AAw->AAx->AAp->AAr->Bool->Option MV
abbrev Po:Type:=Int->Int->List Int->Int->AAZ->List Int->AAP->Int->AAw->AAx->AAp->AAr->Bool->Option MV
def YD(R4:PS)(R7:Po)(t3:Int)(AG:AAO)(AF:Int)(AW:AAZ)(BT:AAO)(Be:AAP)(Ai:Int)(CH:AAw)(CL:AAx)(Bl:AAp)(CE:AAr)(AN:Bool):Option MV:=
 cond (decide (t3<2))
  (R7 t3 0 AG AF AW BT Be Ai CH CL Bl CE AN)
 (some ((true,()),()))
def QS(R4:PS)(R7:Po)(t3 t4:Int)(AG:AAO)(AF:Int)(AW:AAZ)(BT:AAO)(Be:AAP)(Ai:Int)(CH:AAw)(CL:AAx)(Bl:AAp)(CE:AAr)(AN:Bool):Option MV:=
 if(0:Int)<=t3/\t3<(Bl.length:Int)then(
 cond (decide (t4<(((Bl.getD (t3.toNat) (0,0,[],())).2.2.1).length:Int)))
  (if(0:Int)<=t3/\t3<(Bl.length:Int)then(
  if(0:Int)<=t4/\t4<(((Bl.getD (t3.toNat) (0,0,[],())).2.2.1).length:Int)then(
  cond (((((Bl.getD (t3.toNat) (0,0,[],())).2.2.1).getD (t4.toNat) (0,0,[],())).1)==1)
   ((aI (AG,AF,AW,BT,Be,Ai,CH,CL,Bl,CE,AN,()) ((((Bl.getD (t3.toNat) (0,0,[],())).2.2.1).getD (t4.toNat) (0,0,[],())).1,(((Bl.getD (t3.toNat) (0,0,[],())).2.2.1).getD (t4.toNat) (0,0,[],())).2.1,(((Bl.getD (t3.toNat) (0,0,[],())).2.2.1).getD (t4.toNat) (0,0,[],())).2.2.1,())).bind fun u4=>
   cond (!u4.1.1)
    (some ((false,()),()))
   (R7 t3 (AQ (t4+1)) AG AF AW BT Be Ai CH CL Bl CE AN))
  (R7 t3 (AQ (t4+1)) AG AF AW BT Be Ai CH CL Bl CE AN))else none)else none)
 (R4 (AQ (t3+1)) AG AF AW BT Be Ai CH CL Bl CE AN))else none
mutual
def HX:Nat->PS
 |0=>default
 |n+1=>YD (HX n) (HF n)
def HF:Nat->Po
 |0=>default
 |n+1=>QS (HX n) (HF n)
end
def YT(R4:PS)(R7:Po)(p0:ABx):Option MV:=
 (GZ (p0.1,p0.2.1,p0.2.2.1,p0.2.2.2.1,p0.2.2.2.2.1,p0.2.2.2.2.2.1,p0.2.2.2.2.2.2.1,p0.2.2.2.2.2.2.2.1,p0.2.2.2.2.2.2.2.2.1,p0.2.2.2.2.2.2.2.2.2.1,p0.2.2.2.2.2.2.2.2.2.2.1,())).bind fun u1=>
 cond (!u1.1.1)
  (some ((false,()),()))
 (R4 0 p0.1 p0.2.1 p0.2.2.1 p0.2.2.2.1 p0.2.2.2.2.1 p0.2.2.2.2.2.1 p0.2.2.2.2.2.2.1 p0.2.2.2.2.2.2.2.1 p0.2.2.2.2.2.2.2.2.1 p0.2.2.2.2.2.2.2.2.2.1 p0.2.2.2.2.2.2.2.2.2.2.1)
def Uz:=YT (HX AU) (HF AU)
abbrev cO:Type:=AHk×Unit
abbrev Yo:Type:=Int->Int->Int->Int->ADi->Option cO
def bP(R2:Yo)(t1 t6 AG AF:Int)(AW:ADi):Option cO:=
 cond ((decide (t6<(AW.length:Int))))
  (if(0:Int)<=t6/\t6<(AW.length:Int)then(
  cond (((AW.getD (t6.toNat) (0,0,[],())).1)==1)
   (if(0:Int)<=t6/\t6<(AW.length:Int)then(
   cond (((AW.getD (t6.toNat) (0,0,[],())).2.1)==t1)
    (if(0:Int)<=t6/\t6<(AW.length:Int)then(
    some (((((AW.getD (t6.toNat) (0,0,[],())).2.2.1),true,()),()),()))else none)
   (R2 t1 (AQ (t6+1)) AG AF AW))else none)
  (R2 t1 (AQ (t6+1)) AG AF AW))else none)
 (some ((([],false,()),()),()))
def OM:Nat->Yo
 |0=>default
 |n+1=>bP (OM n)
def cl(R2:Yo)(p0:ADk)(p1:Int):Option cO:=
 R2 p1 0 p0.1 p0.2.1 p0.2.2.1
def NS:=cl (OM AU)
abbrev rD:Type:=ABw×Unit
def Ie(p0:ADk)(p1:Int):Option rD:=
 (Bo p0.1 p0.2.1).bind fun u1=>
 some ((decide (u1.1.1>p1),()),())
abbrev MP:Type:=ABw×Unit
abbrev Ps:Type:=Int->List Int->Int->AAZ->List Int->AAP->Int->AAw->AAx->AAp->AAr->Bool->Option MP
abbrev Ph:Type:=Int->Int->Bool->Bool->List Int->Int->AAZ->List Int->AAP->Int->AAw->AAx->AAp->AAr->Bool->Option MP
def Yl(R4:Ps)(R7:Ph)(t3:Int)(AG:AAO)(AF:Int)(AW:AAZ)(BT:AAO)(Be:AAP)(Ai:Int)(CH:AAw)(CL:AAx)(Bl:AAp)(CE:AAr)(AN:Bool):Option MP:=
 cond (decide (t3<2))
  (cond (!AN)
   (R7 t3 0 AN (!AN) AG AF AW BT Be Ai CH CL Bl CE AN)
  (some ((true,()),())))
 (some ((true,()),()))
def QF(R4:Ps)(R7:Ph)(t3 t4:Int)(t15 t16:Bool)(AG:AAO)(AF:Int)(AW:AAZ)(BT:AAO)(Be:AAP)(Ai:Int)(CH:AAw)(CL:AAx)(Bl:AAp)(CE:AAr)(AN:Bool):Option MP:=
 cond ((decide (t4<(CE.length:Int))))
  (if(0:Int)<=t4/\t4<(CE.length:Int)then(
  if(0:Int)<=t3/\t3<(Bl.length:Int)then(
  (NS ((Bl.getD (t3.toNat) (0,0,[],())).1,(Bl.getD (t3.toNat) (0,0,[],())).2.1,(Bl.getD (t3.toNat) (0,0,[],())).2.2.1,()) ((CE.getD (t4.toNat) (0,[],false,())).1)).bind fun u4=>
  cond (((CE.getD (t4.toNat) (0,[],false,())).2.2.1))
   (cond (decide (((CE.getD (t4.toNat) (0,[],false,())).1)>Ai))
    (if(0:Int)<=t3/\t3<(Bl.length:Int)then(
    (Ie ((Bl.getD (t3.toNat) (0,0,[],())).1,(Bl.getD (t3.toNat) (0,0,[],())).2.1,(Bl.getD (t3.toNat) (0,0,[],())).2.2.1,()) ((CE.getD (t4.toNat) (0,[],false,())).1)).bind fun u8=>
    cond (u8.1.1)
     (cond (!u4.1.1.2.1)
      (some ((false,()),()))
     (R7 t3 (AQ (t4+1)) t15 t16 AG AF AW BT Be Ai CH CL Bl CE AN))
    (R7 t3 (AQ (t4+1)) t15 t16 AG AF AW BT Be Ai CH CL Bl CE AN))else none)
   (R7 t3 (AQ (t4+1)) t15 t16 AG AF AW BT Be Ai CH CL Bl CE AN))
  (R7 t3 (AQ (t4+1)) t15 t16 AG AF AW BT Be Ai CH CL Bl CE AN))else none)else none)
 (R4 (AQ (t3+1)) AG AF AW BT Be Ai CH CL Bl CE AN)
mutual
def Ha:Nat->Ps
 |0=>default
 |n+1=>Yl (Ha n) (HK n)
def HK:Nat->Ph
 |0=>default
 |n+1=>QF (Ha n) (HK n)
end
def X8(R4:Ps)(R7:Ph)(p0:ABx):Option MP:=
 (GZ (p0.1,p0.2.1,p0.2.2.1,p0.2.2.2.1,p0.2.2.2.2.1,p0.2.2.2.2.2.1,p0.2.2.2.2.2.2.1,p0.2.2.2.2.2.2.2.1,p0.2.2.2.2.2.2.2.2.1,p0.2.2.2.2.2.2.2.2.2.1,p0.2.2.2.2.2.2.2.2.2.2.1,())).bind fun u1=>
 cond (!u1.1.1)
  (some ((false,()),()))
 (R4 0 p0.1 p0.2.1 p0.2.2.1 p0.2.2.2.1 p0.2.2.2.2.1 p0.2.2.2.2.2.1 p0.2.2.2.2.2.2.1 p0.2.2.2.2.2.2.2.1 p0.2.2.2.2.2.2.2.2.1 p0.2.2.2.2.2.2.2.2.2.1 p0.2.2.2.2.2.2.2.2.2.2.1)
def VY:=X8 (Ha AU) (HK AU)
abbrev Lf:Type:=ABw×Unit
abbrev N4:Type:=Int->List Int->Int->AAZ->List Int->AAP->Int->AAw->AAx->AAp->AAr->Bool->Option Lf
abbrev NY:Type:=Int->Int->Bool->Bool->List Int->Int->AAZ->List Int->AAP->Int->AAw->AAx->AAp->AAr->Bool->Option Lf
def WR(R4:N4)(R7:NY)(t3:Int)(AG:AAO)(AF:Int)(AW:AAZ)(BT:AAO)(Be:AAP)(Ai:Int)(CH:AAw)(CL:AAx)(Bl:AAp)(CE:AAr)(AN:Bool):Option Lf:=
 cond (decide (t3<2))
  (cond (!AN)
   (R7 t3 0 AN (!AN) AG AF AW BT Be Ai CH CL Bl CE AN)
  (some ((true,()),())))
 (some ((true,()),()))
def O1(R4:N4)(R7:NY)(t3 t4:Int)(t12 t13:Bool)(AG:AAO)(AF:Int)(AW:AAZ)(BT:AAO)(Be:AAP)(Ai:Int)(CH:AAw)(CL:AAx)(Bl:AAp)(CE:AAr)(AN:Bool):Option Lf:=
 if(0:Int)<=t3/\t3<(Bl.length:Int)then(
 cond (decide (t4<(((Bl.getD (t3.toNat) (0,0,[],())).2.2.1).length:Int)))
  (if(0:Int)<=t3/\t3<(Bl.length:Int)then(
  if(0:Int)<=t4/\t4<(((Bl.getD (t3.toNat) (0,0,[],())).2.2.1).length:Int)then(
  cond (((((Bl.getD (t3.toNat) (0,0,[],())).2.2.1).getD (t4.toNat) (0,0,[],())).1)==3)
   (some ((false,()),()))
  (R7 t3 (AQ (t4+1)) t12 t13 AG AF AW BT Be Ai CH CL Bl CE AN))else none)else none)
 (R4 (AQ (t3+1)) AG AF AW BT Be Ai CH CL Bl CE AN))else none
mutual
def EM:Nat->N4
 |0=>default
 |n+1=>WR (EM n) (Gm n)
def Gm:Nat->NY
 |0=>default
 |n+1=>O1 (EM n) (Gm n)
end
def WT(R4:N4)(R7:NY)(p0:ABx):Option Lf:=
 (GZ (p0.1,p0.2.1,p0.2.2.1,p0.2.2.2.1,p0.2.2.2.2.1,p0.2.2.2.2.2.1,p0.2.2.2.2.2.2.1,p0.2.2.2.2.2.2.2.1,p0.2.2.2.2.2.2.2.2.1,p0.2.2.2.2.2.2.2.2.2.1,p0.2.2.2.2.2.2.2.2.2.2.1,())).bind fun u1=>
 cond (!u1.1.1)
  (some ((false,()),()))
 (R4 0 p0.1 p0.2.1 p0.2.2.1 p0.2.2.2.1 p0.2.2.2.2.1 p0.2.2.2.2.2.1 p0.2.2.2.2.2.2.1 p0.2.2.2.2.2.2.2.1 p0.2.2.2.2.2.2.2.2.1 p0.2.2.2.2.2.2.2.2.2.1 p0.2.2.2.2.2.2.2.2.2.2.1)
def Sr:=WT (EM AU) (Gm AU)
abbrev Ys:Type:=ABw×Unit
abbrev WX:Type:=Int->List Int->Int->AAZ->List Int->AAP->Int->AAw->AAx->AAp->AAr->Bool->Int->Int->ADi->Int->Int->ADi->Option Ys
def RY(R2:WX)(t7:Int)(AG:AAO)(AF:Int)(AW:AAZ)(BT:AAO)(Be:AAP)(Ai:Int)(CH:AAw)(CL:AAx)(Bl:AAp)(CE:AAr)(AN:Bool)(BM A_:Int)(Bq:ADi)(L9 Pv:Int)(tz:ADi):Option Ys:=
 cond ((decide (t7<(Bq.length:Int))))
  (if(0:Int)<=t7/\t7<(Bq.length:Int)then(
  cond (((Bq.getD (t7.toNat) (0,0,[],())).1) !=1)
   (R2 (AQ (t7+1)) AG AF AW BT Be Ai CH CL Bl CE AN BM A_ Bq L9 Pv tz)
  ((Ft ((Bq.getD (t7.toNat) (0,0,[],())).2.1)).bind fun u4=>
  cond (!u4.1.1)
   (R2 (AQ (t7+1)) AG AF AW BT Be Ai CH CL Bl CE AN BM A_ Bq L9 Pv tz)
  (cond (decide (((Bq.getD (t7.toNat) (0,0,[],())).2.1)<=Ai))
   (R2 (AQ (t7+1)) AG AF AW BT Be Ai CH CL Bl CE AN BM A_ Bq L9 Pv tz)
  ((Ie (BM,A_,Bq,()) ((Bq.getD (t7.toNat) (0,0,[],())).2.1)).bind fun u7=>
  cond (!u7.1.1)
   (R2 (AQ (t7+1)) AG AF AW BT Be Ai CH CL Bl CE AN BM A_ Bq L9 Pv tz)
  ((Ie (L9,Pv,tz,()) ((Bq.getD (t7.toNat) (0,0,[],())).2.1)).bind fun u9=>
  cond (!u9.1.1)
   (R2 (AQ (t7+1)) AG AF AW BT Be Ai CH CL Bl CE AN BM A_ Bq L9 Pv tz)
  ((NS (BM,A_,Bq,()) ((Bq.getD (t7.toNat) (0,0,[],())).2.1)).bind fun FY=>
  (NS (L9,Pv,tz,()) ((Bq.getD (t7.toNat) (0,0,[],())).2.1)).bind fun L0=>
  cond (!L0.1.1.2.1)
   (some ((false,()),()))
  (cond ((!(L0.1.1.1==FY.1.1.1)))
   (some ((false,()),()))
  (R2 (AQ (t7+1)) AG AF AW BT Be Ai CH CL Bl CE AN BM A_ Bq L9 Pv tz))))))))else none)
 (some ((true,()),()))
def KE:Nat->WX
 |0=>default
 |n+1=>RY (KE n)
def aB(R2:WX)(p0:ABx)(p1 p2:ADk):Option Ys:=
 R2 0 p0.1 p0.2.1 p0.2.2.1 p0.2.2.2.1 p0.2.2.2.2.1 p0.2.2.2.2.2.1 p0.2.2.2.2.2.2.1 p0.2.2.2.2.2.2.2.1 p0.2.2.2.2.2.2.2.2.1 p0.2.2.2.2.2.2.2.2.2.1 p0.2.2.2.2.2.2.2.2.2.2.1 p1.1 p1.2.1 p1.2.2.1 p2.1 p2.2.1 p2.2.2.1
def SE:=aB (KE AU)
abbrev qi:Type:=ABw×Unit
def VJ(p0:ABx):Option qi:=
 (GZ (p0.1,p0.2.1,p0.2.2.1,p0.2.2.2.1,p0.2.2.2.2.1,p0.2.2.2.2.2.1,p0.2.2.2.2.2.2.1,p0.2.2.2.2.2.2.2.1,p0.2.2.2.2.2.2.2.2.1,p0.2.2.2.2.2.2.2.2.2.1,p0.2.2.2.2.2.2.2.2.2.2.1,())).bind fun u1=>
 cond (!u1.1.1)
  (some ((false,()),()))
 (cond (p0.2.2.2.2.2.2.2.2.2.2.1)
  (some ((true,()),()))
 (if(0:Int)<=(0:Int)/\(0:Int)<(p0.2.2.2.2.2.2.2.2.1.length:Int)then(
 if(0:Int)<=(1:Int)/\(1:Int)<(p0.2.2.2.2.2.2.2.2.1.length:Int)then(
 (SE (p0.1,p0.2.1,p0.2.2.1,p0.2.2.2.1,p0.2.2.2.2.1,p0.2.2.2.2.2.1,p0.2.2.2.2.2.2.1,p0.2.2.2.2.2.2.2.1,p0.2.2.2.2.2.2.2.2.1,p0.2.2.2.2.2.2.2.2.2.1,p0.2.2.2.2.2.2.2.2.2.2.1,()) ((p0.2.2.2.2.2.2.2.2.1.getD 0 (0,0,[],())).1,(p0.2.2.2.2.2.2.2.2.1.getD 0 (0,0,[],())).2.1,(p0.2.2.2.2.2.2.2.2.1.getD 0 (0,0,[],())).2.2.1,()) ((p0.2.2.2.2.2.2.2.2.1.getD 1 (0,0,[],())).1,(p0.2.2.2.2.2.2.2.2.1.getD 1 (0,0,[],())).2.1,(p0.2.2.2.2.2.2.2.2.1.getD 1 (0,0,[],())).2.2.1,())).bind fun u3=>
 cond (u3.1.1)
  (if(0:Int)<=(1:Int)/\(1:Int)<(p0.2.2.2.2.2.2.2.2.1.length:Int)then(
  if(0:Int)<=(0:Int)/\(0:Int)<(p0.2.2.2.2.2.2.2.2.1.length:Int)then(
  (SE (p0.1,p0.2.1,p0.2.2.1,p0.2.2.2.1,p0.2.2.2.2.1,p0.2.2.2.2.2.1,p0.2.2.2.2.2.2.1,p0.2.2.2.2.2.2.2.1,p0.2.2.2.2.2.2.2.2.1,p0.2.2.2.2.2.2.2.2.2.1,p0.2.2.2.2.2.2.2.2.2.2.1,()) ((p0.2.2.2.2.2.2.2.2.1.getD 1 (0,0,[],())).1,(p0.2.2.2.2.2.2.2.2.1.getD 1 (0,0,[],())).2.1,(p0.2.2.2.2.2.2.2.2.1.getD 1 (0,0,[],())).2.2.1,()) ((p0.2.2.2.2.2.2.2.2.1.getD 0 (0,0,[],())).1,(p0.2.2.2.2.2.2.2.2.1.getD 0 (0,0,[],())).2.1,(p0.2.2.2.2.2.2.2.2.1.getD 0 (0,0,[],())).2.2.1,())).bind fun u4=>
  some ((u4.1.1,()),()))else none)else none)
 (some ((false,()),())))else none)else none))
abbrev Yt:Type:=AEA×AF7
def GN(p0:ABt)(p1:AB_):Option Yt:=
 (L3 (p0.1,p0.2.1,()) (p1.1,p1.2.1,())).bind fun u1=>
 cond (!u1.1.1)
  (some ((((),0,()),()),([],())))
 ((Ep (p1.1,p1.2.1,())).bind fun u2=>
 some ((((),u2.1.1.2.1,()),()),(u2.2.1,())))
abbrev cK:Type:=(AIz×Unit)×AF7
def cJ(g66:List Int->Option ZX)(g69:ABt->AB_->Option RP)(g74:AB_->Option Hc)(ANc:ABt->List Int->Option gq)(AHs:ABt->AB_->Option Yt)(p0:ABt)(p1:AB_)(p2:AAO):Option cK:=
 (g69 (p0.1,p0.2.1,()) (p1.1,p1.2.1,())).bind fun u1=>
 cond (!u1.1.1)
  ((AHs (p0.1,p0.2.1,()) (p1.1,p1.2.1,())).bind fun u2=>
  some (((((),u2.1.1.2.1,()),0,false,()),()),(u2.2.1,())))
 ((ANc (p0.1,p0.2.1,()) p2).bind fun u3=>
 cond (!u3.1.1)
  ((AHs (p0.1,p0.2.1,()) (p1.1,p1.2.1,())).bind fun u4=>
  some (((((),u4.1.1.2.1,()),0,false,()),()),(u4.2.1,())))
 (cond (((p1.1.length:Int)==30))
  ((AHs (p0.1,p0.2.1,()) (p1.1,p1.2.1,())).bind fun u6=>
  some (((((),u6.1.1.2.1,()),0,false,()),()),(u6.2.1,())))
 ((g74 (p1.1,p1.2.1,())).bind fun u7=>
 (g66 p2).bind fun u8=>
 if u7.2.1.length+1<=C7 then(
 let x9:AAP:=u7.2.1++[(u8.2.1,false,0,())]
 some (((((),u7.1.1.2.1,()),(x9.length:Int),true,()),()),(x9,())))else none)))
def Nb:=cJ DV L3 Ep HP GN
abbrev eP:Type:=ACJ×(AFB×List Int×AAZ×List Int×Unit×Unit×Unit×AAp×AAr×AAP×AAw×AAx×Unit)
def UZ(AMP:ABt->AB_->List Int->Option cK)(ri:Int->Option Fm)(p1 AF Ai:Int)(AN:Bool)(b1:AAO)(b2:AAZ)(b3:AAO)(b4:AAP)(b5:AAw)(b6:AAx)(b7:AAp)(b8:AAr):Option eP:=
 cond (((b5.length:Int)==4))
  (some ((4,()),(((),AF,(),(),(),Ai,(),(),(),(),AN,()),b1,b2,b3,(),(),(),b7,b8,b4,b5,b6,())))
 ((ri p1).bind fun u2=>
 (AMP (b1,AF,()) (b4,Ai,()) u2.2.1).bind fun u3=>
 cond (!u3.1.1.2.2.1)
  (some ((4,()),(((),AF,(),(),(),Ai,(),(),(),(),AN,()),b1,b2,b3,(),(),(),b7,b8,b4,b5,b6,())))
 (if b5.length+1<=C7 then(
 some ((0,()),(((),AF,(),(),(),u3.1.1.1.2.1,(),(),(),(),AN,()),b1,b2,b3,(),(),(),b7,b8,u3.2.1,(b5++[(u3.1.1.2.1,[],())]),[],())))else none))
def LA:=UZ Nb HG
abbrev TO:Type:=AGv×AGF
def Fc(p0:ABt)(p1:ACj):Option TO:=
 (IM (p0.1,p0.2.1,()) (p1.1,p1.2.1,())).bind fun u1=>
 cond (!u1.1.1)
  (some (((0,(),()),()),([],())))
 ((GX (p1.1,p1.2.1,())).bind fun u2=>
 some (((u2.1.1.1,(),()),()),(u2.2.1,())))
abbrev Wb:Type:=(AJO×Unit)×AGF
def W8(g76:ACj->Option I7)(AKd:ABt->ACj->Option OP)(AJf:ABt->ACj->Option TO)(p0:ABt)(p1:ACj)(p2:ABG):Option Wb:=
 (g76 (p1.1,p1.2.1,())).bind fun u1=>
 if u1.2.1.length+1<=C7 then(
 let x2:ACa:=u1.2.1++[(p2,[],false,())]
 (AKd (p0.1,p0.2.1,()) (p1.1,p1.2.1,())).bind fun u3=>
 cond (!u3.1.1)
  ((AJf (p0.1,p0.2.1,()) (p1.1,p1.2.1,())).bind fun u4=>
  some ((((u4.1.1.1,(),()),0,false,()),()),(u4.2.1,())))
 ((AKd (p0.1,p0.2.1,()) (u1.1.1.1,x2,())).bind fun u5=>
 cond (!u5.1.1)
  ((AJf (p0.1,p0.2.1,()) (p1.1,p1.2.1,())).bind fun u6=>
  some ((((u6.1.1.1,(),()),0,false,()),()),(u6.2.1,())))
 (some ((((u1.1.1.1,(),()),(x2.length:Int),true,()),()),(x2,())))))else none
def KY:=W8 GX IM Fc
abbrev jv:Type:=ACJ×Unit
def MA(p0:AIc)(p1:Int):Option jv:=
 some ((AQ (p0.1-p1),()),())
abbrev B5:Type:=AF1×Unit
abbrev Bu:Type:=AAr->Int->Int->Int->Int->Option B5
def C0(R3:Bu)(t0:AAr)(t1 t8 t9 t10:Int):Option B5:=
 cond (decide (t9<t10))
  (let x2:Int:=AQ ((IntKind.wrap .u64 (AQ (t9+t10))).fdiv (2^1))
  if(0:Int)<=x2/\x2<(t0.length:Int)then(
  (MA ((t0.getD (x2.toNat) (0,[],false,())).1,(t0.getD (x2.toNat) (0,[],false,())).2.1,(t0.getD (x2.toNat) (0,[],false,())).2.2.1,()) t1).bind fun u3=>
  cond (decide (u3.1.1<0))
   (R3 t0 t1 t8 (AQ (x2+1)) t10)
  (R3 t0 t1 t8 t9 x2))else none)
 (cond (decide (t9<t8))
  (if(0:Int)<=t9/\t9<(t0.length:Int)then(
  (MA ((t0.getD (t9.toNat) (0,[],false,())).1,(t0.getD (t9.toNat) (0,[],false,())).2.1,(t0.getD (t9.toNat) (0,[],false,())).2.2.1,()) t1).bind fun u4=>
  some (((t9,u4.1.1==0,()),()),()))else none)
 (some (((t9,false,()),()),())))
def Ax:Nat->Bu
 |0=>default
 |n+1=>C0 (Ax n)
def Cz(R3:Bu)(p0:AAr)(p1:Int):Option B5:=
 R3 p0 p1 (p0.length:Int) 0 (p0.length:Int)
def Bc:=Cz (Ax AU)
abbrev Rh:Type:=AF1×Unit
def JA(p0:ABx)(p1:Int):Option Rh:=
 (Bc p0.2.2.2.2.2.2.2.2.2.1 p1).bind fun u1=>
 some (((u1.1.1.1,u1.1.1.2.1,()),()),())
abbrev GL:Type:=ADC×(Unit×AAr×Unit)
def Eb(p1:Int)(p2 b0:AAr):Option GL:=(AB1 p1 p2 b0).map fun l=>(((),()),((),l,()))
abbrev gF:Type:=ACJ×(AFB×List Int×AAZ×List Int×AAP×AAw×AAx×AAp×Unit×AAr×Unit)
def Ww(aL:Int->Int->Int->Option GK)(jl:Int->Int->Option Fv)(AN2:ABt->ACj->List UInt8->Option Wb)(AMd:ABx->Int->Option Rh)(ALu:Int->AAr->AAr->Option GL)(p1:Int)(p2:ABG)(AF Ai:Int)(AN:Bool)(b1:AAO)(b2:AAZ)(b3:AAO)(b4:AAP)(b5:AAw)(b6:AAx)(b7:AAp)(b8:AAr):Option gF:=
 (aL p1 0 (AQ ((b5.length:Int)-1))).bind fun u2=>
 cond (!u2.1.1)
  (some ((2,()),(((),AF,(),(),(),Ai,(),(),(),(),AN,()),b1,b2,b3,b4,b5,b6,b7,(),b8,())))
 (if(0:Int)<=p1/\p1<(b5.length:Int)then(
 (AN2 (b1,AF,()) ((b5.getD (p1.toNat) (0,[],())).1,(b5.getD (p1.toNat) (0,[],())).2.1,()) p2).bind fun u3=>
 (jl u3.1.1.1.1 u3.1.1.2.1).bind fun u4=>
 (AMd (b1,AF,b2,b3,b4,Ai,b5,b6,b7,b8,AN,()) u4.1.1.1).bind fun u5=>
 cond (!u3.1.1.2.2.1)
  (some ((4,()),(((),AF,(),(),(),Ai,(),(),(),(),AN,()),b1,b2,b3,b4,b5,b6,b7,(),b8,())))
 (cond (((b8.length:Int)==120))
  (some ((4,()),(((),AF,(),(),(),Ai,(),(),(),(),AN,()),b1,b2,b3,b4,b5,b6,b7,(),b8,())))
 (cond (u5.1.1.2.1)
  (some ((4,()),(((),AF,(),(),(),Ai,(),(),(),(),AN,()),b1,b2,b3,b4,b5,b6,b7,(),b8,())))
 (if(0:Int)<=p1/\p1<(b5.length:Int)then(
 (ALu u5.1.1.1 [(u4.1.1.1,p2,false,())] b8).bind fun u8=>
 some ((0,()),(((),AF,(),(),(),Ai,(),(),(),(),AN,()),b1,b2,b3,b4,(b5.set (p1.toNat) (u3.1.1.1.1,u3.2.1,())),b6,b7,(),u8.2.2.1,())))else none))))else none)
def MS:=Ww BE DL KY JA Eb
abbrev ju:Type:=ACJ×Unit
def Eh(p0:ABx)(p1:Int):Option ju:=
 (BE p1 0 (AQ ((p0.2.2.1.length:Int)-1))).bind fun u2=>
 cond (!u2.1.1)
  (some ((2,()),()))
 ((C4 p0 p1).bind fun u3=>
 cond (u3.1.1)
  (some ((3,()),()))
 (some ((0,()),())))
abbrev Yx:Type:=ADC×ADn
def Jt(p0:AB_)(p1:Int):Option Yx:=
 (BE p1 1 (p0.1.length:Int)).bind fun u1=>
 cond (!u1.1.1)
  (some (((),()),([],())))
 (if(0:Int)<=AQ (p1-1)/\AQ (p1-1)<(p0.1.length:Int)then(
 (DV ((p0.1.getD ((AQ (p1-1)).toNat) ([],false,0,())).1)).bind fun u2=>
 some (((),()),(u2.2.1,())))else none)
abbrev Gy:Type:=ACJ×Unit
def Dx(p0:ABx)(p1 p2:Int):Option Gy:=
 (Eh p0 p1).bind fun u1=>
 cond (u1.1.1==0)
  ((Jt (p0.2.2.2.2.1,p0.2.2.2.2.2.1,()) p2).bind fun u2=>
  (Bt u2.2.1 p1).bind fun u3=>
  cond (!u3.1.1)
   (some ((2,()),()))
  (some ((u1.1.1,()),())))
 (some ((u1.1.1,()),()))
abbrev p7:Type:=AGa×AEC
def D4(p0:ACo):Option p7:=
 (Fq (p0.1,p0.2.1,p0.2.2.1,())).bind fun u1=>
 cond (!u1.1.1)
  (some ((((),(),0,()),()),([],[],())))
 ((DN (p0.1,p0.2.1,p0.2.2.1,())).bind fun u2=>
 some ((((),(),u2.1.1.2.2.1,()),()),(u2.2.1,u2.2.2.1,())))
abbrev uX:Type:=AFG×AEC
def Xr(p0:ACo)(p1:AD4):Option uX:=
 (Fq (p0.1,p0.2.1,p0.2.2.1,())).bind fun u1=>
 cond (!u1.1.1)
  ((D4 (p0.1,p0.2.1,p0.2.2.1,())).bind fun u2=>
  some (((((),(),u2.1.1.2.2.1,()),false,()),()),(u2.2.1,u2.2.2.1,())))
 ((NW (p1.1,p1.2.1,p1.2.2.1,p1.2.2.2.1,())).bind fun u3=>
 cond (!u3.1.1)
  ((D4 (p0.1,p0.2.1,p0.2.2.1,())).bind fun u4=>
  some (((((),(),u4.1.1.2.2.1,()),false,()),()),(u4.2.1,u4.2.2.1,())))
 (cond ((p0.2.1.length:Int)==20)
  ((D4 (p0.1,p0.2.1,p0.2.2.1,())).bind fun u6=>
  some (((((),(),u6.1.1.2.2.1,()),false,()),()),(u6.2.1,u6.2.2.1,())))
 (cond (p1.2.1==0)
  ((Es p1.1).bind fun u7=>
  cond ((decide (u7.1.1<=p0.2.2.1)))
   ((DN (p0.1,p0.2.1,p0.2.2.1,())).bind fun u9=>
   some (((((),(),u9.1.1.2.2.1,()),false,()),()),(u9.2.1,u9.2.2.1,())))
  (cond (decide (p1.2.1>0))
   (cond ((decide (p1.2.1<=p0.2.2.1)))
    ((DN (p0.1,p0.2.1,p0.2.2.1,())).bind fun FY=>
    some (((((),(),FY.1.1.2.2.1,()),false,()),()),(FY.2.1,FY.2.2.1,())))
   ((DN (p0.1,p0.2.1,p0.2.2.1,())).bind fun Jq=>
   if Jq.2.2.1.length+1<=C7 then(
   some (((((),(),Jq.1.1.2.2.1,()),true,()),()),(Jq.2.1,(Jq.2.2.1++[(p1.1,p1.2.1,p1.2.2.1,p1.2.2.2.1,())]),())))else none))
  ((DN (p0.1,p0.2.1,p0.2.2.1,())).bind fun Oq=>
  if Oq.2.2.1.length+1<=C7 then(
  some (((((),(),Oq.1.1.2.2.1,()),true,()),()),(Oq.2.1,(Oq.2.2.1++[(p1.1,p1.2.1,p1.2.2.1,p1.2.2.2.1,())]),())))else none)))
 (cond (decide (p1.2.1>0))
  (cond ((decide (p1.2.1<=p0.2.2.1)))
   ((DN (p0.1,p0.2.1,p0.2.2.1,())).bind fun hO=>
   some (((((),(),hO.1.1.2.2.1,()),false,()),()),(hO.2.1,hO.2.2.1,())))
  ((DN (p0.1,p0.2.1,p0.2.2.1,())).bind fun en=>
  if en.2.2.1.length+1<=C7 then(
  some (((((),(),en.1.1.2.2.1,()),true,()),()),(en.2.1,(en.2.2.1++[(p1.1,p1.2.1,p1.2.2.1,p1.2.2.2.1,())]),())))else none))
 ((DN (p0.1,p0.2.1,p0.2.2.1,())).bind fun Ru=>
 if Ru.2.2.1.length+1<=C7 then(
 some (((((),(),Ru.1.1.2.2.1,()),true,()),()),(Ru.2.1,(Ru.2.2.1++[(p1.1,p1.2.1,p1.2.2.1,p1.2.2.2.1,())]),())))else none)))))
abbrev YG:Type:=ACJ×Unit
def Mt(p0:Bool):Option YG:=
 cond (p0)
  (some ((0,()),()))
 (some ((4,()),()))
abbrev XD:Type:=ACJ×AFh
def NJ(p1:Int)(p2:AD4)(AF Ai:Int)(AN:Bool)(b1:AAO)(b2:AAZ)(b3:AAO)(b4:AAP)(b5:AAw)(b6:AAx)(b7:AAp)(b8:AAr):Option XD:=
 if(0:Int)<=p1/\p1<(b2.length:Int)then(
 (Xr ((b2.getD (p1.toNat) ([],[],0,())).1,(b2.getD (p1.toNat) ([],[],0,())).2.1,(b2.getD (p1.toNat) ([],[],0,())).2.2.1,()) (p2.1,p2.2.1,p2.2.2.1,p2.2.2.2.1,())).bind fun u1=>
 cond (u1.1.1.2.1)
  (if(0:Int)<=p1/\p1<(b2.length:Int)then(
  (Mt u1.1.1.2.1).bind fun u3=>
  some ((u3.1.1,()),(((),AF,(),(),(),Ai,(),(),(),(),AN,()),b1,(b2.set (p1.toNat) (u1.2.1,u1.2.2.1,u1.1.1.1.2.2.1,())),b3,b4,b5,b6,b7,b8,())))else none)
 ((Mt u1.1.1.2.1).bind fun u4=>
 some ((u4.1.1,()),(((),AF,(),(),(),Ai,(),(),(),(),AN,()),b1,b2,b3,b4,b5,b6,b7,b8,()))))else none
abbrev nY:Type:=ACJ×AFh
def Sy(aL:Int->Int->Int->Option GK)(jl:Int->Int->Option Fv)(ABT:ABx->Int->Int->Option Gy)(AMq:Int->AD4->Int->Int->Bool->List Int->AAZ->List Int->AAP->AAw->AAx->AAp->AAr->Option XD)(p1:ADq)(AF Ai:Int)(AN:Bool)(b1:AAO)(b2:AAZ)(b3:AAO)(b4:AAP)(b5:AAw)(b6:AAx)(b7:AAp)(b8:AAr):Option nY:=
 (aL p1.2.1 0 (AQ ((b5.length:Int)-1))).bind fun u2=>
 cond (!u2.1.1)
  (some ((2,()),(((),AF,(),(),(),Ai,(),(),(),(),AN,()),b1,b2,b3,b4,b5,b6,b7,b8,())))
 (if(0:Int)<=p1.2.1/\p1.2.1<(b5.length:Int)then(
 (aL p1.2.2.1 1 (((b5.getD (p1.2.1.toNat) (0,[],())).2.1).length:Int)).bind fun u4=>
 cond (!u4.1.1)
  (some ((2,()),(((),AF,(),(),(),Ai,(),(),(),(),AN,()),b1,b2,b3,b4,b5,b6,b7,b8,())))
 ((ABT (b1,AF,b2,b3,b4,Ai,b5,b6,b7,b8,AN,()) p1.2.2.2.1 ((b5.getD (p1.2.1.toNat) (0,[],())).1)).bind fun u6=>
 cond (u6.1.1 !=0)
  (some ((u6.1.1,()),(((),AF,(),(),(),Ai,(),(),(),(),AN,()),b1,b2,b3,b4,b5,b6,b7,b8,())))
 ((jl ((b5.getD (p1.2.1.toNat) (0,[],())).1) p1.2.2.1).bind fun u8=>
 if(0:Int)<=AQ (p1.2.2.1-1)/\AQ (p1.2.2.1-1)<(((b5.getD (p1.2.1.toNat) (0,[],())).2.1).length:Int)then(
 (AMq p1.2.2.2.1 (u8.1.1.1,0,false,((((b5.getD (p1.2.1.toNat) (0,[],())).2.1).getD ((AQ (p1.2.2.1-1)).toNat) ([],[],false,())).1),()) AF Ai AN b1 b2 b3 b4 b5 b6 b7 b8).bind fun EJ=>
 some ((EJ.1.1,()),(((),EJ.2.1.2.1,(),(),(),EJ.2.1.2.2.2.2.2.1,(),(),(),(),EJ.2.1.2.2.2.2.2.2.2.2.2.2.1,()),EJ.2.2.1,EJ.2.2.2.1,EJ.2.2.2.2.1,EJ.2.2.2.2.2.1,EJ.2.2.2.2.2.2.1,EJ.2.2.2.2.2.2.2.1,EJ.2.2.2.2.2.2.2.2.1,EJ.2.2.2.2.2.2.2.2.2.1,())))else none)))else none)
def KG:=Sy BE DL Dx NJ
abbrev Q3:Type:=ADC×AId
def EE(p1:Int)(p2 b0:AAj):Option Q3:=(AB1 p1 p2 b0).map fun l=>(((),()),((),l,()))
abbrev ADJ:Type:=ADC×AId
def az(p1:AD4)(b0:AAj):Option ADJ:=
 (VD b0 p1.1).bind fun u1=>
 cond (!u1.1.1.2.1)
  ((EE u1.1.1.1 [(p1.1,p1.2.1,p1.2.2.1,p1.2.2.2.1,())] b0).bind fun u2=>
  some (((),()),((),u2.2.2.1,())))
 (if(0:Int)<=u1.1.1.1/\u1.1.1.1<(b0.length:Int)then(
 (T5 ((b0.getD (u1.1.1.1.toNat) (0,0,false,[],())).1,(b0.getD (u1.1.1.1.toNat) (0,0,false,[],())).2.1,(b0.getD (u1.1.1.1.toNat) (0,0,false,[],())).2.2.1,(b0.getD (u1.1.1.1.toNat) (0,0,false,[],())).2.2.2.1,()) (p1.1,p1.2.1,p1.2.2.1,p1.2.2.2.1,())).bind fun u3=>
 if(0:Int)<=u1.1.1.1/\u1.1.1.1<(b0.length:Int)then(
 some (((),()),((),(b0.set (u1.1.1.1.toNat) (u3.1.1.1,u3.1.1.2.1,u3.1.1.2.2.1,u3.1.1.2.2.2.1,())),())))else none)else none)
abbrev VZ:Type:=AFG×AEC
abbrev TH:Type:=Int->AAj->Int->Int->AAj->AAj->Int->Int->AAj->AAj->Int->AAj->AAj->Option VZ
def WO(R6:TH)(t1:Int)(t23:AAj)(t24 t25:Int)(AG AF:AAj)(AW Bq:Int)(b2 b3:AAj)(Nt:Int)(b5 b6:AAj):Option VZ:=
 cond (decide (t25<t24))
  (if(0:Int)<=t25/\t25<(t23.length:Int)then(
  if t25<0 then none else(
  cond (((jq .i64 (t1.fdiv (2^(min t25.toNat 64))) 1)==1))
   ((az ((t23.getD (t25.toNat) (0,0,false,[],())).1,(t23.getD (t25.toNat) (0,0,false,[],())).2.1,(t23.getD (t25.toNat) (0,0,false,[],())).2.2.1,(t23.getD (t25.toNat) (0,0,false,[],())).2.2.2.1,()) b5).bind fun u9=>
   R6 t1 t23 t24 (AQ (t25+1)) AG AF AW Bq b2 b3 Nt u9.2.2.1 b6)
  (R6 t1 t23 t24 (AQ (t25+1)) AG AF AW Bq b2 b3 Nt b5 b6)))else none)
 (cond ((decide ((b5.length:Int)>200)))
  ((DN (AG,AF,AW,())).bind fun FY=>
  some (((((),(),FY.1.1.2.2.1,()),false,()),()),(FY.2.1,FY.2.2.1,())))
 (some (((((),(),Nt,()),true,()),()),(b5,b6,()))))
def KO:Nat->TH
 |0=>default
 |n+1=>WO (KO n)
def WJ(R6:TH)(p0:ACo)(p1:Int):Option VZ:=
 (Fq (p0.1,p0.2.1,p0.2.2.1,())).bind fun u1=>
 cond (!u1.1.1)
  ((D4 (p0.1,p0.2.1,p0.2.2.1,())).bind fun u2=>
  some (((((),(),u2.1.1.2.2.1,()),false,()),()),(u2.2.1,u2.2.2.1,())))
 ((BE p1 0 1048575).bind fun u3=>
 cond (!u3.1.1)
  ((D4 (p0.1,p0.2.1,p0.2.2.1,())).bind fun u4=>
  some (((((),(),u4.1.1.2.2.1,()),false,()),()),(u4.2.1,u4.2.2.1,())))
 ((DN (p0.1,p0.2.1,p0.2.2.1,())).bind fun u5=>
 R6 p1 p0.2.1 (p0.2.1.length:Int) 0 p0.1 p0.2.1 p0.2.2.1 0 [] [] u5.1.1.2.2.1 u5.2.1 []))
def Ob:=WJ (KO AU)
abbrev sR:Type:=AFG×AEC
def Qf(p0:ACo):Option sR:=
 (Ob (p0.1,p0.2.1,p0.2.2.1,()) 1048575).bind fun u1=>
 some (((((),(),u1.1.1.1.2.2.1,()),u1.1.1.2.1,()),()),(u1.2.1,u1.2.2.1,()))
abbrev tw:Type:=ABw×Unit
def cmp_isNaN_int(p0:Int):Option tw:=
 some ((p0 !=p0,()),())
abbrev yB:Type:=ABw×Unit
def cmp_Less_int(p0 p1:Int):Option yB:=
 (cmp_isNaN_int p0).bind fun u1=>
 cond (u1.1.1)
  ((cmp_isNaN_int p1).bind fun u2=>
  cond (!u2.1.1)
   (some ((true,()),()))
  (some ((decide (p0<p1),()),())))
 (some ((decide (p0<p1),()),()))
abbrev nD:Type:=ABw×Unit
def RH(p0:Int):Option nD:=
 some ((p0 !=p0,()),())
abbrev Ij:Type:=AF1×Unit
abbrev IB:Type:=List Int->Int->Int->Int->Int->Option Ij
def K4(R3:IB)(t0:AAO)(t1 t6 t7 t8:Int):Option Ij:=
 cond (decide (t7<t8))
  (let x2:Int:=AQ ((IntKind.wrap .u64 (AQ (t7+t8))).fdiv (2^1))
  if(0:Int)<=x2/\x2<(t0.length:Int)then(
  (cmp_Less_int (t0.getD (x2.toNat) 0) t1).bind fun u4=>
  cond (u4.1.1)
   (R3 t0 t1 t6 (AQ (x2+1)) t8)
  (R3 t0 t1 t6 t7 x2))else none)
 (cond (decide (t7<t6))
  (if(0:Int)<=t7/\t7<(t0.length:Int)then(
  cond ((t0.getD (t7.toNat) 0)==t1)
   (some (((t7,true,()),()),()))
  (if(0:Int)<=t7/\t7<(t0.length:Int)then(
  (RH (t0.getD (t7.toNat) 0)).bind fun u7=>
  cond (u7.1.1)
   ((RH t1).bind fun u8=>
   some (((t7,u8.1.1,()),()),()))
  (some (((t7,false,()),()),())))else none))else none)
 (some (((t7,false,()),()),())))
def D9:Nat->IB
 |0=>default
 |n+1=>K4 (D9 n)
def K5(R3:IB)(p0:AAO)(p1:Int):Option Ij:=
 R3 p0 p1 (p0.length:Int) 0 (p0.length:Int)
def G2:=K5 (D9 AU)
abbrev fb:Type:=ADC×AIb
def Kx(p1:Int)(p2 b0:AAO):Option fb:=(AB1 p1 p2 b0).map fun l=>(((),()),((),l,()))
abbrev vA:Type:=ADC×ADn
def Lx(p0:AAO)(p1:Int):Option vA:=
 (DV p0).bind fun u1=>
 (G2 u1.2.1 p1).bind fun u2=>
 cond (!u2.1.1.2.1)
  ((Kx u2.1.1.1 [p1] u1.2.1).bind fun u3=>
  some (((),()),(u3.2.2.1,())))
 (some (((),()),(u1.2.1,())))
abbrev qb:Type:=AHz×AGF
def U8(p0:ABt)(p1:ACj)(p2 p3:Int):Option qb:=
 (IM (p0.1,p0.2.1,()) (p1.1,p1.2.1,())).bind fun u1=>
 cond (!u1.1.1)
  ((Fc (p0.1,p0.2.1,()) (p1.1,p1.2.1,())).bind fun u2=>
  some ((((u2.1.1.1,(),()),false,()),()),(u2.2.1,())))
 ((BE p2 1 (p1.2.1.length:Int)).bind fun u4=>
 cond (!u4.1.1)
  ((Fc (p0.1,p0.2.1,()) (p1.1,p1.2.1,())).bind fun u5=>
  some ((((u5.1.1.1,(),()),false,()),()),(u5.2.1,())))
 (if(0:Int)<=AQ (p2-1)/\AQ (p2-1)<(p1.2.1.length:Int)then(
 cond (((p1.2.1.getD ((AQ (p2-1)).toNat) ([],[],false,())).2.2.1))
  ((Fc (p0.1,p0.2.1,()) (p1.1,p1.2.1,())).bind fun u7=>
  some ((((u7.1.1.1,(),()),false,()),()),(u7.2.1,())))
 ((BE p3 0 (AQ ((p0.1.length:Int)-1))).bind fun u9=>
 cond (!u9.1.1)
  ((Fc (p0.1,p0.2.1,()) (p1.1,p1.2.1,())).bind fun EJ=>
  some ((((EJ.1.1.1,(),()),false,()),()),(EJ.2.1,())))
 ((GX (p1.1,p1.2.1,())).bind fun FY=>
 if(0:Int)<=AQ (p2-1)/\AQ (p2-1)<(FY.2.1.length:Int)then(
 (Lx ((FY.2.1.getD ((AQ (p2-1)).toNat) ([],[],false,())).2.1) p3).bind fun Jq=>
 let x13:ACa:=(FY.2.1.set ((AQ (p2-1)).toNat) ((FY.2.1.getD ((AQ (p2-1)).toNat) ([],[],false,())).1,Jq.2.1,(FY.2.1.getD ((AQ (p2-1)).toNat) ([],[],false,())).2.2.1,()))
 (HP (p0.1,p0.2.1,()) ((x13.getD ((AQ (p2-1)).toNat) ([],[],false,())).2.1)).bind fun Oq=>
 some ((((FY.1.1.1,(),()),true,()),()),((x13.set ((AQ (p2-1)).toNat) ((x13.getD ((AQ (p2-1)).toNat) ([],[],false,())).1,(x13.getD ((AQ (p2-1)).toNat) ([],[],false,())).2.1,Oq.1.1,())),())))else none)))else none))
abbrev JC:Type:=ADC×AFh
abbrev L6:Type:=Int->Int->Int->Int->Int->Bool->List Int->AAZ->List Int->AAP->AAw->AAx->AAp->AAr->Option JC
def Jh(R1:L6)(t1 t2 t6 AF Ai:Int)(AN:Bool)(b1:AAO)(b2:AAZ)(b3:AAO)(b4:AAP)(b5:AAw)(b6:AAx)(b7:AAp)(b8:AAr):Option JC:=
 if(0:Int)<=t1/\t1<(b5.length:Int)then(
 cond (decide (t6<=(((b5.getD (t1.toNat) (0,[],())).2.1).length:Int)))
  (if(0:Int)<=t1/\t1<(b5.length:Int)then(
  (DL ((b5.getD (t1.toNat) (0,[],())).1) t6).bind fun u3=>
  if(0:Int)<=t2/\t2<(b2.length:Int)then(
  (FU ((b2.getD (t2.toNat) ([],[],0,())).1,(b2.getD (t2.toNat) ([],[],0,())).2.1,(b2.getD (t2.toNat) ([],[],0,())).2.2.1,()) u3.1.1.1).bind fun u4=>
  if(0:Int)<=t1/\t1<(b5.length:Int)then(
  if(0:Int)<=AQ (t6-1)/\AQ (t6-1)<(((b5.getD (t1.toNat) (0,[],())).2.1).length:Int)then(
  cond (((((b5.getD (t1.toNat) (0,[],())).2.1).getD ((AQ (t6-1)).toNat) ([],[],false,())).2.2.1))
   (R1 t1 t2 (AQ (t6+1)) AF Ai AN b1 b2 b3 b4 b5 b6 b7 b8)
  (cond (!u4.1.1.2.1)
   (R1 t1 t2 (AQ (t6+1)) AF Ai AN b1 b2 b3 b4 b5 b6 b7 b8)
  (cond (u4.1.1.1.2.1 !=0)
   (R1 t1 t2 (AQ (t6+1)) AF Ai AN b1 b2 b3 b4 b5 b6 b7 b8)
  (if(0:Int)<=t1/\t1<(b5.length:Int)then(
  (U8 (b1,AF,()) ((b5.getD (t1.toNat) (0,[],())).1,(b5.getD (t1.toNat) (0,[],())).2.1,()) t6 t2).bind fun u6=>
  if(0:Int)<=t1/\t1<(b5.length:Int)then(
  let x7:AAw:=(b5.set (t1.toNat) (u6.1.1.1.1,u6.2.1,()))
  (JA (b1,AF,b2,b3,b4,Ai,x7,b6,b7,b8,AN,()) u3.1.1.1).bind fun u8=>
  cond (u8.1.1.2.1)
   (if(0:Int)<=t1/\t1<(x7.length:Int)then(
   if(0:Int)<=AQ (t6-1)/\AQ (t6-1)<(((x7.getD (t1.toNat) (0,[],())).2.1).length:Int)then(
   cond (((((x7.getD (t1.toNat) (0,[],())).2.1).getD ((AQ (t6-1)).toNat) ([],[],false,())).2.2.1))
    (if(0:Int)<=u8.1.1.1/\u8.1.1.1<(b8.length:Int)then(
    R1 t1 t2 (AQ (t6+1)) AF Ai AN b1 b2 b3 b4 x7 b6 b7 (b8.set (u8.1.1.1.toNat) ((b8.getD (u8.1.1.1.toNat) (0,[],false,())).1,(b8.getD (u8.1.1.1.toNat) (0,[],false,())).2.1,true,())))else none)
   (R1 t1 t2 (AQ (t6+1)) AF Ai AN b1 b2 b3 b4 x7 b6 b7 b8))else none)else none)
  (R1 t1 t2 (AQ (t6+1)) AF Ai AN b1 b2 b3 b4 x7 b6 b7 b8))else none)else none))))else none)else none)else none)else none)
 (some (((()),()),(((),AF,(),(),(),Ai,(),(),(),(),AN,()),b1,b2,b3,b4,b5,b6,b7,b8,()))))else none
def DF:Nat->L6
 |0=>default
 |n+1=>Jh (DF n)
def Pk(R1:L6)(p1 p2 AF Ai:Int)(AN:Bool)(b1:AAO)(b2:AAZ)(b3:AAO)(b4:AAP)(b5:AAw)(b6:AAx)(b7:AAp)(b8:AAr):Option JC:=
 R1 p1 p2 1 AF Ai AN b1 b2 b3 b4 b5 b6 b7 b8
def O2:=Pk (DF AU)
abbrev IA:Type:=AHv×Unit
abbrev UG:Type:=Int->AAj->Int->Int->Int->Int->List Int->AAj->Bool->List AAO->Int->Int->Bool->List UInt8->Option IA
def YN(R5:UG)(t6:Int)(t33:AAj)(t34 t35 AG AF:Int)(AW:AAO)(BT:AAj)(Be:Bool)(Ai:List AAO)(BM A_:Int)(Bq:Bool)(Ed:ABG):Option IA:=
 cond (decide (t35<t34))
  (if(0:Int)<=t35/\t35<(t33.length:Int)then(
  cond (((t33.getD (t35.toNat) (0,0,false,[],())).1)==t6)
   (some ((((t6,AG,((t33.getD (t35.toNat) (0,0,false,[],())).2.2.1),((t33.getD (t35.toNat) (0,0,false,[],())).2.2.2.1),()),true,()),()),()))
  (R5 t6 t33 t34 (AQ (t35+1)) AG AF AW BT Be Ai BM A_ Bq Ed))else none)
 (some ((((t6,AG,true,[],()),true,()),()),()))
def Li:Nat->UG
 |0=>default
 |n+1=>YN (Li n)
def Yk(R5:UG)(p0:ABv)(p1:Int):Option IA:=
 (DL p0.2.1 p1).bind fun u1=>
 cond (!u1.1.1.2.1)
  (some ((((0,0,false,[],()),false,()),()),()))
 (cond (!p0.2.2.2.2.1)
  (some ((((0,0,false,[],()),false,()),()),()))
 (cond (decide (p1>(p0.2.2.2.2.2.1.length:Int)))
  (some ((((0,0,false,[],()),false,()),()),()))
 (R5 u1.1.1.1 p0.2.2.2.1 (p0.2.2.2.1.length:Int) 0 p0.1 p0.2.1 p0.2.2.1 p0.2.2.2.1 p0.2.2.2.2.1 p0.2.2.2.2.2.1 0 0 false [])))
def IZ:=Yk (Li AU)
abbrev qv:Type:=AGK×AE2
def FJ(p0:ABt)(p1:ABv):Option qv:=
 (Im (p0.1,p0.2.1,()) (p1.1,p1.2.1,p1.2.2.1,p1.2.2.2.1,p1.2.2.2.2.1,p1.2.2.2.2.2.1,())).bind fun u1=>
 cond (!u1.1.1)
  (some (((0,0,(),(),false,(),()),()),([],[],[],())))
 ((G_ (p1.1,p1.2.1,p1.2.2.1,p1.2.2.2.1,p1.2.2.2.2.1,p1.2.2.2.2.2.1,())).bind fun u2=>
 some (((u2.1.1.1,u2.1.1.2.1,(),(),u2.1.1.2.2.2.2.1,(),()),()),(u2.2.1,u2.2.2.1,u2.2.2.2.1,())))
abbrev QD:Type:=AGM×AE2
def NV(p0:ABt)(p1:ABv)(p2 p3:Int):Option QD:=
 (Im (p0.1,p0.2.1,()) (p1.1,p1.2.1,p1.2.2.1,p1.2.2.2.1,p1.2.2.2.2.1,p1.2.2.2.2.2.1,())).bind fun u1=>
 cond (!u1.1.1)
  ((FJ (p0.1,p0.2.1,()) (p1.1,p1.2.1,p1.2.2.1,p1.2.2.2.1,p1.2.2.2.2.1,p1.2.2.2.2.2.1,())).bind fun u2=>
  some ((((u2.1.1.1,u2.1.1.2.1,(),(),u2.1.1.2.2.2.2.1,(),()),false,()),()),(u2.2.1,u2.2.2.1,u2.2.2.2.1,())))
 ((BE p2 1 (p1.2.2.2.2.2.1.length:Int)).bind fun u4=>
 cond (!u4.1.1)
  ((FJ (p0.1,p0.2.1,()) (p1.1,p1.2.1,p1.2.2.1,p1.2.2.2.1,p1.2.2.2.2.1,p1.2.2.2.2.2.1,())).bind fun u5=>
  some ((((u5.1.1.1,u5.1.1.2.1,(),(),u5.1.1.2.2.2.2.1,(),()),false,()),()),(u5.2.1,u5.2.2.1,u5.2.2.2.1,())))
 ((BE p3 0 (AQ ((p0.1.length:Int)-1))).bind fun u7=>
 cond (!u7.1.1)
  ((FJ (p0.1,p0.2.1,()) (p1.1,p1.2.1,p1.2.2.1,p1.2.2.2.1,p1.2.2.2.2.1,p1.2.2.2.2.2.1,())).bind fun u8=>
  some ((((u8.1.1.1,u8.1.1.2.1,(),(),u8.1.1.2.2.2.2.1,(),()),false,()),()),(u8.2.1,u8.2.2.1,u8.2.2.2.1,())))
 ((G_ (p1.1,p1.2.1,p1.2.2.1,p1.2.2.2.1,p1.2.2.2.2.1,p1.2.2.2.2.2.1,())).bind fun u9=>
 if(0:Int)<=AQ (p2-1)/\AQ (p2-1)<(u9.2.2.2.1.length:Int)then(
 (Lx (u9.2.2.2.1.getD ((AQ (p2-1)).toNat) []) p3).bind fun EJ=>
 if(0:Int)<=AQ (p2-1)/\AQ (p2-1)<(u9.2.2.2.1.length:Int)then(
 some ((((u9.1.1.1,u9.1.1.2.1,(),(),u9.1.1.2.2.2.2.1,(),()),true,()),()),(u9.2.1,u9.2.2.1,(u9.2.2.2.1.set ((AQ (p2-1)).toNat) EJ.2.1),())))else none)else none)))
abbrev O7:Type:=ADC×AFh
abbrev Ns:Type:=Int->Int->Int->Int->Int->Bool->List Int->AAZ->List Int->AAP->AAw->AAx->AAp->AAr->Option O7
def Jf(ACt:ABv->Int->Option IA)(lB:ACo->Int->Option Ge)(AB3:ABt->ABv->Int->Int->Option QD)(R1:Ns)(t1 t2 t6 AF Ai:Int)(AN:Bool)(b1:AAO)(b2:AAZ)(b3:AAO)(b4:AAP)(b5:AAw)(b6:AAx)(b7:AAp)(b8:AAr):Option O7:=
 if(0:Int)<=t1/\t1<(b6.length:Int)then(
 cond (decide (t6<=(((b6.getD (t1.toNat) (0,0,[],[],false,[],())).2.2.2.2.2.1).length:Int)))
  (if(0:Int)<=t1/\t1<(b6.length:Int)then(
  (ACt ((b6.getD (t1.toNat) (0,0,[],[],false,[],())).1,(b6.getD (t1.toNat) (0,0,[],[],false,[],())).2.1,(b6.getD (t1.toNat) (0,0,[],[],false,[],())).2.2.1,(b6.getD (t1.toNat) (0,0,[],[],false,[],())).2.2.2.1,(b6.getD (t1.toNat) (0,0,[],[],false,[],())).2.2.2.2.1,(b6.getD (t1.toNat) (0,0,[],[],false,[],())).2.2.2.2.2.1,()) t6).bind fun u2=>
  if(0:Int)<=t2/\t2<(b2.length:Int)then(
  (lB ((b2.getD (t2.toNat) ([],[],0,())).1,(b2.getD (t2.toNat) ([],[],0,())).2.1,(b2.getD (t2.toNat) ([],[],0,())).2.2.1,()) u2.1.1.1.1).bind fun u3=>
  cond (u2.1.1.2.1)
   (cond (u3.1.1.2.1)
    (cond (((u3.1.1.1.1==u2.1.1.1.1)&&((u3.1.1.1.2.1==u2.1.1.1.2.1)&&((u3.1.1.1.2.2.1==u2.1.1.1.2.2.1)&&((u3.1.1.1.2.2.2.1==u2.1.1.1.2.2.2.1)&&true)))))
     (if(0:Int)<=t1/\t1<(b6.length:Int)then(
     (AB3 (b1,AF,()) ((b6.getD (t1.toNat) (0,0,[],[],false,[],())).1,(b6.getD (t1.toNat) (0,0,[],[],false,[],())).2.1,(b6.getD (t1.toNat) (0,0,[],[],false,[],())).2.2.1,(b6.getD (t1.toNat) (0,0,[],[],false,[],())).2.2.2.1,(b6.getD (t1.toNat) (0,0,[],[],false,[],())).2.2.2.2.1,(b6.getD (t1.toNat) (0,0,[],[],false,[],())).2.2.2.2.2.1,()) t6 t2).bind fun u5=>
     if(0:Int)<=t1/\t1<(b6.length:Int)then(
     R1 t1 t2 (AQ (t6+1)) AF Ai AN b1 b2 b3 b4 b5 (b6.set (t1.toNat) (u5.1.1.1.1,u5.1.1.1.2.1,u5.2.1,u5.2.2.1,u5.1.1.1.2.2.2.2.1,u5.2.2.2.1,())) b7 b8)else none)else none)
    (R1 t1 t2 (AQ (t6+1)) AF Ai AN b1 b2 b3 b4 b5 b6 b7 b8))
   (R1 t1 t2 (AQ (t6+1)) AF Ai AN b1 b2 b3 b4 b5 b6 b7 b8))
  (R1 t1 t2 (AQ (t6+1)) AF Ai AN b1 b2 b3 b4 b5 b6 b7 b8))else none)else none)
 (some (((()),()),(((),AF,(),(),(),Ai,(),(),(),(),AN,()),b1,b2,b3,b4,b5,b6,b7,b8,()))))else none
def Hq:=Jf IZ FU NV
def CF:Nat->Ns
 |0=>default
 |n+1=>Hq (CF n)
def Nk(ACt:ABv->Int->Option IA)(lB:ACo->Int->Option Ge)(AB3:ABt->ABv->Int->Int->Option QD)(R1:Ns)(p1 p2 AF Ai:Int)(AN:Bool)(b1:AAO)(b2:AAZ)(b3:AAO)(b4:AAP)(b5:AAw)(b6:AAx)(b7:AAp)(b8:AAr):Option O7:=
 R1 p1 p2 1 AF Ai AN b1 b2 b3 b4 b5 b6 b7 b8
def K7:=Nk IZ FU NV
def MF:=K7 (CF AU)
abbrev Lh:Type:=ACJ×AFh
abbrev Nc:Type:=Int->Int->Int->Int->Int->Bool->List Int->AAZ->List Int->AAP->AAw->AAx->AAp->AAr->Int->Option Lh
abbrev MC:Type:=Int->Int->Int->Int->Int->Bool->List Int->AAZ->List Int->AAP->AAw->AAx->AAp->AAr->Option Lh
def PH(R9:Nc)(oJ:MC)(t1 t42 t43 AF Ai:Int)(AN:Bool)(b1:AAO)(b2:AAZ)(b3:AAO)(b4:AAP)(b5:AAw)(b6:AAx)(b7:AAp)(b8:AAr)(uz:Int):Option Lh:=
 cond (decide (t43<t42))
  (if(0:Int)<=t43/\t43<(b5.length:Int)then(
  cond (decide (((b5.getD (t43.toNat) (0,[],())).1)>uz))
   ((Jt (b4,Ai,()) ((b5.getD (t43.toNat) (0,[],())).1)).bind fun u6=>
   (Bt u6.2.1 t1).bind fun u7=>
   cond (u7.1.1)
    ((O2 t43 t1 AF Ai AN b1 b2 b3 b4 b5 b6 b7 b8).bind fun u8=>
    R9 t1 t42 (AQ (t43+1)) u8.2.1.2.1 u8.2.1.2.2.2.2.2.1 u8.2.1.2.2.2.2.2.2.2.2.2.2.1 u8.2.2.1 u8.2.2.2.1 u8.2.2.2.2.1 u8.2.2.2.2.2.1 u8.2.2.2.2.2.2.1 u8.2.2.2.2.2.2.2.1 u8.2.2.2.2.2.2.2.2.1 u8.2.2.2.2.2.2.2.2.2.1 uz)
   (R9 t1 t42 (AQ (t43+1)) AF Ai AN b1 b2 b3 b4 b5 b6 b7 b8 uz))
  (R9 t1 t42 (AQ (t43+1)) AF Ai AN b1 b2 b3 b4 b5 b6 b7 b8 uz))else none)
 (oJ t1 (b6.length:Int) 0 AF Ai AN b1 b2 b3 b4 b5 b6 b7 b8)
def Nu(R9:Nc)(oJ:MC)(t1 t73 t74 AF Ai:Int)(AN:Bool)(b1:AAO)(b2:AAZ)(b3:AAO)(b4:AAP)(b5:AAw)(b6:AAx)(b7:AAp)(b8:AAr):Option Lh:=
 cond (decide (t74<t73))
  (if(0:Int)<=t74/\t74<(b6.length:Int)then(
  (Jt (b4,Ai,()) ((b6.getD (t74.toNat) (0,0,[],[],false,[],())).2.1)).bind fun FY=>
  (Bt FY.2.1 t1).bind fun Jq=>
  cond (Jq.1.1)
   ((MF t74 t1 AF Ai AN b1 b2 b3 b4 b5 b6 b7 b8).bind fun L0=>
   oJ t1 t73 (AQ (t74+1)) L0.2.1.2.1 L0.2.1.2.2.2.2.2.1 L0.2.1.2.2.2.2.2.2.2.2.2.2.1 L0.2.2.1 L0.2.2.2.1 L0.2.2.2.2.1 L0.2.2.2.2.2.1 L0.2.2.2.2.2.2.1 L0.2.2.2.2.2.2.2.1 L0.2.2.2.2.2.2.2.2.1 L0.2.2.2.2.2.2.2.2.2.1)
  (oJ t1 t73 (AQ (t74+1)) AF Ai AN b1 b2 b3 b4 b5 b6 b7 b8))else none)
 (some ((0,()),(((),AF,(),(),(),Ai,(),(),(),(),AN,()),b1,b2,b3,b4,b5,b6,b7,b8,())))
mutual
def FK:Nat->Nc
 |0=>default
 |n+1=>PH (FK n) (F5 n)
def F5:Nat->MC
 |0=>default
 |n+1=>Nu (FK n) (F5 n)
end
def V2(R9:Nc)(oJ:MC)(p1 AF Ai:Int)(AN:Bool)(b1:AAO)(b2:AAZ)(b3:AAO)(b4:AAP)(b5:AAw)(b6:AAx)(b7:AAp)(b8:AAr):Option Lh:=
 (Eh (b1,AF,b2,b3,b4,Ai,b5,b6,b7,b8,AN,()) p1).bind fun u1=>
 cond (u1.1.1 !=0)
  (some ((u1.1.1,()),(((),AF,(),(),(),Ai,(),(),(),(),AN,()),b1,b2,b3,b4,b5,b6,b7,b8,())))
 (if(0:Int)<=p1/\p1<(b2.length:Int)then(
 (Qf ((b2.getD (p1.toNat) ([],[],0,())).1,(b2.getD (p1.toNat) ([],[],0,())).2.1,(b2.getD (p1.toNat) ([],[],0,())).2.2.1,())).bind fun u2=>
 cond (!u2.1.1.2.1)
  (some ((4,()),(((),AF,(),(),(),Ai,(),(),(),(),AN,()),b1,b2,b3,b4,b5,b6,b7,b8,())))
 (if(0:Int)<=p1/\p1<(b2.length:Int)then(
 R9 p1 (b5.length:Int) 0 AF Ai AN b1 (b2.set (p1.toNat) (u2.2.1,u2.2.2.1,u2.1.1.1.2.2.1,())) b3 b4 b5 b6 b7 b8 u2.1.1.1.2.2.1)else none))else none)
def Se:=V2 (FK AU) (F5 AU)
abbrev nu:Type:=ACJ×AFh
def RL(p1 p2 AF Ai:Int)(AN:Bool)(b1:AAO)(b2:AAZ)(b3:AAO)(b4:AAP)(b5:AAw)(b6:AAx)(b7:AAp)(b8:AAr):Option nu:=
 (Eh (b1,AF,b2,b3,b4,Ai,b5,b6,b7,b8,AN,()) p1).bind fun u1=>
 cond (u1.1.1 !=0)
  (some ((u1.1.1,()),(((),AF,(),(),(),Ai,(),(),(),(),AN,()),b1,b2,b3,b4,b5,b6,b7,b8,())))
 (if(0:Int)<=p1/\p1<(b2.length:Int)then(
 (Ob ((b2.getD (p1.toNat) ([],[],0,())).1,(b2.getD (p1.toNat) ([],[],0,())).2.1,(b2.getD (p1.toNat) ([],[],0,())).2.2.1,()) p2).bind fun u2=>
 if(0:Int)<=p1/\p1<(b2.length:Int)then(
 (Mt u2.1.1.2.1).bind fun u4=>
 some ((u4.1.1,()),(((),AF,(),(),(),Ai,(),(),(),(),AN,()),b1,(b2.set (p1.toNat) (u2.2.1,u2.2.2.1,u2.1.1.1.2.2.1,())),b3,b4,b5,b6,b7,b8,())))else none)else none)
abbrev lJ:Type:=ABw×Unit
def NT(p0:Int)(p1:ACJ):Option lJ:=
 some ((p0==p1.1,()),())
abbrev Dv:Type:=ACJ×Unit
abbrev Dl:Type:=List Int->AD9->Int->Int->Option Dv
def FZ(R2:Dl)(t0:AAO)(t1:AD9)(t7 t8:Int):Option Dv:=
 cond (decide (t8<t7))
  (if(0:Int)<=t8/\t8<(t0.length:Int)then(
  (NT (t0.getD (t8.toNat) 0) t1.1).bind fun u2=>
  cond (u2.1.1)
   (some ((t8,()),()))
  (R2 t0 (t1.1,()) t7 (AQ (t8+1))))else none)
 (some (((-1),()),()))
def CD:Nat->Dl
 |0=>default
 |n+1=>FZ (CD n)
def Fb(R2:Dl)(p0:AAO)(p1:AD9):Option Dv:=
 R2 p0 (p1.1,()) (p0.length:Int) 0
def EG:=Fb (CD AU)
abbrev Dr:Type:=ADC×AIb
abbrev Df:Type:=AD9->Int->Int->List Int->Option Dr
def FB(R5:Df)(t1:AD9)(t5 t6:Int)(b0:AAO):Option Dr:=
 cond ((decide (t6<(b0.length:Int))))
  (if(0:Int)<=t6/\t6<(b0.length:Int)then(
  let x3:Int:=(b0.getD (t6.toNat) 0)
  (NT x3 t1.1).bind fun u4=>
  cond (!u4.1.1)
   (if(0:Int)<=t5/\t5<(b0.length:Int)then(
   R5 (t1.1,()) (AQ (t5+1)) (AQ (t6+1)) (b0.set (t5.toNat) x3))else none)
  (R5 (t1.1,()) t5 (AQ (t6+1)) b0))else none)
 (if(0:Int)<=t5/\t5<=(b0.length:Int)/\(b0.length:Int)<=(b0.length:Int)then(
 let x6:AAO:=(b0.take (t5.toNat)++List.replicate (((b0.length:Int).toNat)-(t5.toNat)) 0++b0.drop ((t5.toNat)+(((b0.length:Int).toNat)-(t5.toNat))))
 if(0:Int)<=(0:Int)/\(0:Int)<=t5/\t5<=(x6.length:Int)then(
 some (((),()),((),((x6.drop 0).take ((t5.toNat)-0)),())))else none)else none)
def B4:Nat->Df
 |0=>default
 |n+1=>FB (B4 n)
def FG(R5:Df)(p1:AD9)(b0:AAO):Option Dr:=
 (EG b0 (p1.1,())).bind fun u1=>
 cond (u1.1.1==(-1))
  (some (((),()),((),b0,())))
 (R5 (p1.1,()) u1.1.1 (AQ (u1.1.1+1)) b0)
def C2:=FG (B4 AU)
abbrev TN:Type:=ADC×ADn
def H7(p0:AAO)(p1:Int):Option TN:=
 (DV p0).bind fun u1=>
 (C2 ((p1,()),()) u1.2.1).bind fun u2=>
 some (((),()),(u2.2.2.1,()))
abbrev Rj:Type:=AHz×AGF
abbrev Qp:Type:=Int->ACa->Int->Int->Int->ACa->Int->ACa->Option Rj
def Tj(R5:Qp)(t2:Int)(t19:ACa)(t20 t21 AG:Int)(b1:ACa)(L9:Int)(b3:ACa):Option Rj:=
 cond (decide (t21<t20))
  (if(0:Int)<=t21/\t21<(t19.length:Int)then(
  cond (!((t19.getD (t21.toNat) ([],[],false,())).2.2.1))
   ((H7 ((t19.getD (t21.toNat) ([],[],false,())).2.1) t2).bind fun u5=>
   if(0:Int)<=t21/\t21<(b3.length:Int)then(
   R5 t2 t19 t20 (AQ (t21+1)) AG b1 L9 (b3.set (t21.toNat) ((b3.getD (t21.toNat) ([],[],false,())).1,u5.2.1,(b3.getD (t21.toNat) ([],[],false,())).2.2.1,())))else none)
  (R5 t2 t19 t20 (AQ (t21+1)) AG b1 L9 b3))else none)
 (some ((((L9,(),()),true,()),()),(b3,())))
def Iv:Nat->Qp
 |0=>default
 |n+1=>Tj (Iv n)
def Tn(R5:Qp)(p0:ABt)(p1:ACj)(p2:Int):Option Rj:=
 (IM (p0.1,p0.2.1,()) (p1.1,p1.2.1,())).bind fun u1=>
 cond (!u1.1.1)
  (some ((((0,(),()),false,()),()),([],())))
 ((GX (p1.1,p1.2.1,())).bind fun u2=>
 R5 p2 p1.2.1 (p1.2.1.length:Int) 0 0 [] u2.1.1.1 u2.2.1)
def Pm:=Tn (Iv AU)
abbrev VG:Type:=AGM×AE2
abbrev TJ:Type:=Int->List AAO->Int->Int->Int->Int->Bool->List Int->AAj->List AAO->Int->Int->Bool->List Int->AAj->List AAO->Option VG
def V3(R5:TJ)(t2:Int)(t19:List AAO)(t20 t21 AG AF:Int)(Be:Bool)(b1:AAO)(b2:AAj)(b3:List AAO)(p9 mG:Int)(AC2:Bool)(b5:AAO)(b6:AAj)(b7:List AAO):Option VG:=
 cond (decide (t21<t20))
  (if(0:Int)<=t21/\t21<(t19.length:Int)then(
  (H7 (t19.getD (t21.toNat) []) t2).bind fun u4=>
  if(0:Int)<=t21/\t21<(b7.length:Int)then(
  R5 t2 t19 t20 (AQ (t21+1)) AG AF Be b1 b2 b3 p9 mG AC2 b5 b6 (b7.set (t21.toNat) u4.2.1))else none)else none)
 (some ((((p9,mG,(),(),AC2,(),()),true,()),()),(b5,b6,b7,())))
def Ka:Nat->TJ
 |0=>default
 |n+1=>V3 (Ka n)
def V6(R5:TJ)(p0:ABt)(p1:ABv)(p2:Int):Option VG:=
 (Im (p0.1,p0.2.1,()) (p1.1,p1.2.1,p1.2.2.1,p1.2.2.2.1,p1.2.2.2.2.1,p1.2.2.2.2.2.1,())).bind fun u1=>
 cond (!u1.1.1)
  (some ((((0,0,(),(),false,(),()),false,()),()),([],[],[],())))
 ((G_ (p1.1,p1.2.1,p1.2.2.1,p1.2.2.2.1,p1.2.2.2.2.1,p1.2.2.2.2.2.1,())).bind fun u2=>
 R5 p2 p1.2.2.2.2.2.1 (p1.2.2.2.2.2.1.length:Int) 0 0 0 false [] [] [] u2.1.1.1 u2.1.1.2.1 u2.1.1.2.2.2.2.1 u2.2.1 u2.2.2.1 u2.2.2.2.1)
def Sg:=V6 (Ka AU)
abbrev I8:Type:=ACJ×AKG
abbrev N6:Type:=Int->Int->Int->Int->Int->Bool->List Int->AAZ->List Int->AAP->AAw->AAx->AAp->AAr->List Int->Option I8
abbrev L_:Type:=Int->Int->Int->Int->Int->Bool->List Int->AAZ->List Int->AAP->AAw->AAx->AAp->AAr->List Int->Option I8
def WK(R7:N6)(R12:L_)(t1 t36 t37 AF Ai:Int)(AN:Bool)(b1:AAO)(b2:AAZ)(b3:AAO)(b4:AAP)(b5:AAw)(b6:AAx)(b7:AAp)(b8:AAr)(b9:AAO):Option I8:=
 cond (decide (t37<t36))
  (if(0:Int)<=t37/\t37<(b5.length:Int)then(
  (Pm (b1,AF,()) ((b5.getD (t37.toNat) (0,[],())).1,(b5.getD (t37.toNat) (0,[],())).2.1,()) t1).bind fun u4=>
  if(0:Int)<=t37/\t37<(b5.length:Int)then(
  R7 t1 t36 (AQ (t37+1)) AF Ai AN b1 b2 b3 b4 (b5.set (t37.toNat) (u4.1.1.1.1,u4.2.1,())) b6 b7 b8 b9)else none)else none)
 (R12 t1 (b6.length:Int) 0 AF Ai AN b1 b2 b3 b4 b5 b6 b7 b8 b9)
def UI(R7:N6)(R12:L_)(t1 t63 t64 AF Ai:Int)(AN:Bool)(b1:AAO)(b2:AAZ)(b3:AAO)(b4:AAP)(b5:AAw)(b6:AAx)(b7:AAp)(b8:AAr)(b9:AAO):Option I8:=
 cond (decide (t64<t63))
  (if(0:Int)<=t64/\t64<(b6.length:Int)then(
  (Sg (b1,AF,()) ((b6.getD (t64.toNat) (0,0,[],[],false,[],())).1,(b6.getD (t64.toNat) (0,0,[],[],false,[],())).2.1,(b6.getD (t64.toNat) (0,0,[],[],false,[],())).2.2.1,(b6.getD (t64.toNat) (0,0,[],[],false,[],())).2.2.2.1,(b6.getD (t64.toNat) (0,0,[],[],false,[],())).2.2.2.2.1,(b6.getD (t64.toNat) (0,0,[],[],false,[],())).2.2.2.2.2.1,()) t1).bind fun u6=>
  if(0:Int)<=t64/\t64<(b6.length:Int)then(
  R12 t1 t63 (AQ (t64+1)) AF Ai AN b1 b2 b3 b4 b5 (b6.set (t64.toNat) (u6.1.1.1.1,u6.1.1.1.2.1,u6.2.1,u6.2.2.1,u6.1.1.1.2.2.2.2.1,u6.2.2.2.1,())) b7 b8 b9)else none)else none)
 (cond (AN)
  (some ((0,()),(((),AF,(),(),(),Ai,(),(),(),(),true,()),b1,b2,(),b4,b5,b6,b7,b8,b9,())))
 ((HP (b1,AF,()) b9).bind fun u8=>
 some ((0,()),(((),AF,(),(),(),Ai,(),(),(),(),u8.1.1,()),b1,b2,(),b4,b5,b6,b7,b8,b9,()))))
mutual
def IF:Nat->N6
 |0=>default
 |n+1=>WK (IF n) (Hd n)
def Hd:Nat->L_
 |0=>default
 |n+1=>UI (IF n) (Hd n)
end
def WM(R7:N6)(R12:L_)(p1 AF Ai:Int)(AN:Bool)(b1:AAO)(b2:AAZ)(b3:AAO)(b4:AAP)(b5:AAw)(b6:AAx)(b7:AAp)(b8:AAr):Option I8:=
 (Eh (b1,AF,b2,b3,b4,Ai,b5,b6,b7,b8,AN,()) p1).bind fun u1=>
 cond (u1.1.1 !=0)
  (some ((u1.1.1,()),(((),AF,(),(),(),Ai,(),(),(),(),AN,()),b1,b2,(),b4,b5,b6,b7,b8,b3,())))
 (if(0:Int)<=p1/\p1<(b2.length:Int)then(
 (Lx b3 p1).bind fun u3=>
 R7 p1 (b5.length:Int) 0 AF Ai AN b1 (b2.set (p1.toNat) ([],[],0,())) b3 b4 b5 b6 b7 b8 u3.2.1)else none)
def Sd:=WM (IF AU) (Hd AU)
abbrev yl:Type:=ABw×Unit
def dj(p0:ABt)(p1:AAO):Option yl:=
 (EP (p0.1,p0.2.1,()) p1).bind fun u1=>
 cond (u1.1.1)
  ((HP (p0.1,p0.2.1,()) p1).bind fun u2=>
  some ((!u2.1.1,()),()))
 (some ((false,()),()))
abbrev VI:Type:=ADC×AGg
abbrev Xi:Type:=AAZ->Int->Int->AAj->Option VI
abbrev Xm:Type:=AAZ->Int->Int->AAj->Int->Int->AAj->Option VI
def gR(R3:Xi)(R8:Xm)(t9:AAZ)(t10 t11:Int)(b0:AAj):Option VI:=
 cond (decide (t11<t10))
  (if(0:Int)<=t11/\t11<(t9.length:Int)then(
  (Fq ((t9.getD (t11.toNat) ([],[],0,())).1,(t9.getD (t11.toNat) ([],[],0,())).2.1,(t9.getD (t11.toNat) ([],[],0,())).2.2.1,())).bind fun u1=>
  cond (!u1.1.1)
   (some (((),()),([],())))
  (R8 t9 t10 t11 ((t9.getD (t11.toNat) ([],[],0,())).1) (((t9.getD (t11.toNat) ([],[],0,())).1).length:Int) 0 b0))else none)
 (some (((),()),(b0,())))
def fy(R3:Xi)(R8:Xm)(t9:AAZ)(t10 t11:Int)(t19:AAj)(t20 t21:Int)(b0:AAj):Option VI:=
 cond (decide (t21<t20))
  (if(0:Int)<=t21/\t21<(t19.length:Int)then(
  (az ((t19.getD (t21.toNat) (0,0,false,[],())).1,(t19.getD (t21.toNat) (0,0,false,[],())).2.1,(t19.getD (t21.toNat) (0,0,false,[],())).2.2.1,(t19.getD (t21.toNat) (0,0,false,[],())).2.2.2.1,()) b0).bind fun u3=>
  R8 t9 t10 t11 t19 t20 (AQ (t21+1)) u3.2.2.1)else none)
 (R3 t9 t10 (AQ (t11+1)) b0)
mutual
def Om:Nat->Xi
 |0=>default
 |n+1=>gR (Om n) (Ot n)
def Ot:Nat->Xm
 |0=>default
 |n+1=>fy (Om n) (Ot n)
end
def qg(R3:Xi)(R8:Xm)(p0:AAZ):Option VI:=
 R3 p0 (p0.length:Int) 0 []
def nw:=qg (Om AU) (Ot AU)
abbrev YQ:Type:=AFG×AJc
abbrev gv:Type:=List Int->Int->Int->Int->AAZ->Int->AAj->AAj->AAZ->Option YQ
def jP(R5:gv)(t2:AAO)(t4 t37 t38:Int)(b0:AAZ)(Bq:Int)(b2 b3:AAj)(b4:AAZ):Option YQ:=
 cond (decide (t38<t37))
  (if(0:Int)<=t38/\t38<(b0.length:Int)then(
  (Bt t2 t38).bind fun u4=>
  cond (u4.1.1)
   (R5 t2 t4 t37 (AQ (t38+1)) b0 Bq b2 b3 b4)
  ((Fq ((b0.getD (t38.toNat) ([],[],0,())).1,(b0.getD (t38.toNat) ([],[],0,())).2.1,(b0.getD (t38.toNat) ([],[],0,())).2.2.1,())).bind fun u5=>
  cond (!u5.1.1)
   (some (((((),(),0,()),false,()),()),(b0,[],[],())))
  (if b4.length+1<=C7 then(
  R5 t2 t4 t37 (AQ (t38+1)) b0 Bq b2 b3 (b4++[((b0.getD (t38.toNat) ([],[],0,())).1,(b0.getD (t38.toNat) ([],[],0,())).2.1,(b0.getD (t38.toNat) ([],[],0,())).2.2.1,())]))else none)))else none)
 ((nw b4).bind fun u7=>
 (Fq (u7.2.1,[],t4,())).bind fun u8=>
 cond (!u8.1.1)
  (some (((((),(),0,()),false,()),()),(b0,[],[],())))
 (some (((((),(),t4,()),true,()),()),(b0,u7.2.1,[],()))))
def Vc:Nat->gv
 |0=>default
 |n+1=>jP (Vc n)
def jI(R5:gv)(p0:ABt)(p2:AAO)(p3 p4:Int)(b0:AAZ):Option YQ:=
 cond (((b0.length:Int) !=(p0.1.length:Int)))
  (some (((((),(),0,()),false,()),()),(b0,[],[],())))
 ((dj (p0.1,p0.2.1,()) p2).bind fun u2=>
 cond (!u2.1.1)
  (some (((((),(),0,()),false,()),()),(b0,[],[],())))
 ((Bt p2 p3).bind fun u3=>
 cond (!u3.1.1)
  (some (((((),(),0,()),false,()),()),(b0,[],[],())))
 (R5 p2 p4 (b0.length:Int) 0 b0 0 [] [] [])))
def fo:=jI (Vc AU)
abbrev pH:Type:=ACJ×AKG
def Uw(aL:Int->Int->Int->Option GK)(sG:ABx->Int->Option F9)(AMI:ABt->List Int->Int->Int->AAZ->Option YQ)(ALq:List Int->Int->Option TN)(p1 AF Ai:Int)(AN:Bool)(b1:AAO)(b2:AAZ)(b3:AAO)(b4:AAP)(b5:AAw)(b6:AAx)(b7:AAp)(b8:AAr):Option pH:=
 (aL p1 0 (AQ ((b2.length:Int)-1))).bind fun u2=>
 cond (!u2.1.1)
  (some ((2,()),(((),AF,(),(),(),Ai,(),(),(),(),AN,()),b1,b2,(),b4,b5,b6,b7,b8,b3,())))
 ((sG (b1,AF,b2,b3,b4,Ai,b5,b6,b7,b8,AN,()) p1).bind fun u3=>
 cond (!u3.1.1)
  (some ((2,()),(((),AF,(),(),(),Ai,(),(),(),(),AN,()),b1,b2,(),b4,b5,b6,b7,b8,b3,())))
 (let x4:Int:=AQ ((b4.length:Int)-1)
 (AMI (b1,AF,()) b3 p1 (if 0>x4 then 0 else x4) b2).bind fun u6=>
 cond (!u6.1.1.2.1)
  (some ((4,()),(((),AF,(),(),(),Ai,(),(),(),(),AN,()),b1,u6.2.1,(),b4,b5,b6,b7,b8,b3,())))
 (if(0:Int)<=p1/\p1<(u6.2.1.length:Int)then(
 (ALq b3 p1).bind fun u8=>
 some ((0,()),(((),AF,(),(),(),Ai,(),(),(),(),AN,()),b1,(u6.2.1.set (p1.toNat) (u6.2.2.1,u6.2.2.2.1,u6.1.1.1.2.2.1,())),(),b4,b5,b6,b7,b8,u8.2.1,())))else none)))
def LH:=Uw BE C4 fo H7
end
end Go.M
