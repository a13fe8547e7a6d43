/- What each function computes, printed by a program out of the translation; what is printed is checked in the equations. -/
import Derived.Test.YtbjkhapllnkhfaaGreatDoorSF1
set_option linter.unusedVariables false
set_option linter.unusedSimpArgs false
set_option linter.unusedSectionVars false
namespace Go.M
open Go.Fw
noncomputable section
abbrev ADf:Type:=ABz×Unit
def tP(p0:AAA):Option ADf:=
 some (((decide ((p0.length:Int)>1048576)),()),())
abbrev YM:Type:=ACL×AFK
abbrev cD:Type:=List Int->Int->Int->Option YM
def dA(R3:cD)(t0:AAA)(t3 t4:Int):Option YM:=
 cond ((decide (t4<(t0.length:Int))))
  (cond (decide (t4<4000))
   (if(0:Int)<=t4/\t4<(t0.length:Int)then(
   R3 t0 (gU .i64 (AQ ((AQ ((AQ (t3*131))+(AQ ((t0.getD (t4.toNat) 0)))))+7)) 1073741823) (AQ (t4+1)))else none)
  (some (((),()),((t0,0,t3,()),()))))
 (some (((),()),((t0,0,t3,()),())))
def Q_:Nat->cD
 |0=>fun _ _ _=>none
 |n+1=>dA (Q_ n)
def dV(R3:cD)(p0:AAA):Option YM:=
 R3 p0 (AQ (17817+(p0.length:Int))) 0
def eg(p0:AAA):Option YM:=dV (Q_ AW) p0
abbrev vl:Type:=AB2×AFK
def Mi(AK:AAA)(AF AZ:Int):Option vl:=
 let x2:Int:=AQ ((AQ (AZ*6364136223846793005))+1442695040888963407)
 let x3:Int:=APT .i64 (x2.fdiv (2^33)) (x2.fdiv (2^45))
 cond ((decide (AF<(AK.length:Int))))
  (if(0:Int)<=AF/\AF<(AK.length:Int)then(
  some ((gU .i64 (AQ ((gU .i64 x3 255)+(AQ ((AK.getD (AF.toNat) 0))))) 255,()),((AK,AQ (AF+1),x2,()),())))else none)
 (some ((gU .i64 x3 255,()),((AK,AF,x2,()),())))
abbrev th:Type:=AB2×AFK
def Ag(p1:Int)(AK:AAA)(AF AZ:Int):Option th:=
 cond (decide (p1<=0))
  (some ((0,()),((AK,AF,AZ,()),())))
 (cond (decide (p1<=256))
  ((Mi AK AF AZ).bind fun u1=>
  if p1=0 then none else(
  some ((u1.1.1.tmod p1,()),((u1.2.1.1,u1.2.1.2.1,u1.2.1.2.2.1,()),()))))
 ((Mi AK AF AZ).bind fun u2=>
 (Mi u2.2.1.1 u2.2.1.2.1 u2.2.1.2.2.1).bind fun u3=>
 (Mi u3.2.1.1 u3.2.1.2.1 u3.2.1.2.2.1).bind fun u4=>
 (Mi u4.2.1.1 u4.2.1.2.1 u4.2.1.2.2.1).bind fun u5=>
 if p1=0 then none else(
 some ((((AQ ((AQ ((AQ ((AQ (u2.1.1*16777216))+(AQ (u3.1.1*65536))))+(AQ (u4.1.1*256))))+u5.1.1)).tmod p1),()),((u5.2.1.1,u5.2.1.2.1,u5.2.1.2.2.1,()),())))))
abbrev vh:Type:=ABz×AFK
def BW(p1:Int)(AK:AAA)(AF AZ:Int):Option vh:=
 (Ag p1 AK AF AZ).bind fun u1=>
 some ((u1.1.1==0,()),((u1.2.1.1,u1.2.1.2.1,u1.2.1.2.2.1,()),()))
abbrev M0:Type:=AF8×AHJ
abbrev Qq:Type:=Int->Int->List Int->Int->Int->Int->List Int->Int->List Int->Option M0
def UG(R4:Qq)(t4 t5:Int)(AK:AAA)(AF AZ BL:Int)(b2:AAA)(cQ:Int)(b4:AAA):Option M0:=
 cond (decide (t5<t4))
  ((Ag 5 AK AF AZ).bind fun u3=>
  if b4.length+1<=CN then(
  R4 t4 (AQ (t5+1)) u3.2.1.1 u3.2.1.2.1 u3.2.1.2.2.1 BL b2 cQ (b4++[u3.1.1]))else none)
 ((BW 2 AK AF AZ).bind fun u5=>
 cond (u5.1.1)
  (some ((((),2,()),()),((u5.2.1.1,u5.2.1.2.1,u5.2.1.2.2.1,()),b4,())))
 (some ((((),cQ,()),()),((u5.2.1.1,u5.2.1.2.1,u5.2.1.2.2.1,()),b4,()))))
def Ip:Nat->Qq
 |0=>fun _ _ _ _ _ _ _ _ _=>none
 |n+1=>UG (Ip n)
def UI(R4:Qq)(AK:AAA)(AF AZ:Int):Option M0:=
 (Ag 3 AK AF AZ).bind fun u1=>
 (Ag 5 u1.2.1.1 u1.2.1.2.1 u1.2.1.2.2.1).bind fun u2=>
 R4 (AQ (3+u2.1.1)) 0 u2.2.1.1 u2.2.1.2.1 u2.2.1.2.2.1 0 [] (AQ (1+u1.1.1)) []
def MN(AK:AAA)(AF AZ:Int):Option M0:=UI (Ip AW) AK AF AZ
abbrev pH:Type:=AB2×AFK
def Hw(p1 AK:AAA)(AF AZ:Int):Option pH:=
 (Ag (p1.length:Int) AK AF AZ).bind fun u1=>
 if(0:Int)<=u1.1.1/\u1.1.1<(p1.length:Int)then(
 some (((p1.getD (u1.1.1.toNat) 0),()),((u1.2.1.1,u1.2.1.2.1,u1.2.1.2.2.1,()),())))else none
abbrev vg:Type:=AF8×AHJ
def ay(AK:AAA)(AF AZ:Int):Option vg:=
 (MN AK AF AZ).bind fun u1=>
 (Ag 20 u1.2.1.1 u1.2.1.2.1 u1.2.1.2.2.1).bind fun u2=>
 cond (u2.1.1==0)
  ((Hw [0,4,5] u2.2.1.1 u2.2.1.2.1 u2.2.1.2.2.1).bind fun u3=>
  some ((((),u3.1.1,()),()),((u3.2.1.1,u3.2.1.2.1,u3.2.1.2.2.1,()),u1.2.2.1,())))
 (cond (u2.1.1==1)
  ((Hw [(-1),7,8] u2.2.1.1 u2.2.1.2.1 u2.2.1.2.2.1).bind fun u4=>
  if(0:Int)<=(0:Int)/\(0:Int)<(u1.2.2.1.length:Int)then(
  some ((((),u1.1.1.2.1,()),()),((u4.2.1.1,u4.2.1.2.1,u4.2.1.2.2.1,()),(u1.2.2.1.set 0 u4.1.1),())))else none)
 (cond (u2.1.1==2)
  ((Hw [0,8,9] u2.2.1.1 u2.2.1.2.1 u2.2.1.2.2.1).bind fun u6=>
  if(0:Int)<=u6.1.1/\u6.1.1<=u6.1.1/\u6.1.1<=(CN:Int)then(
  some ((((),u1.1.1.2.1,()),()),((u6.2.1.1,u6.2.1.2.1,u6.2.1.2.2.1,()),(List.replicate (u6.1.1.toNat) 0),())))else none)
 (some ((((),u1.1.1.2.1,()),()),((u2.2.1.1,u2.2.1.2.1,u2.2.1.2.2.1,()),u1.2.2.1,())))))
abbrev fp:Type:=ACL×ADH
def DD(p0:AAA):Option fp:=
 if 0+p0.length<=CN then(
 some (((),()),(p0,())))else none
abbrev ln:Type:=AF8×ADH
def Ie(p0:ABx):Option ln:=
 (DD p0.1).bind fun u1=>
 some ((((),p0.2.1,()),()),(u1.2.1,()))
abbrev nS:Type:=AGB×AF1
def KB:Option nS:=
 some (((1,1,(),()),()),([],()))
abbrev N2:Type:=ABz×Unit
def A_(p0 p1 p2:Int):Option N2:=
 cond (decide (p0>=p1))
  (some ((decide (p0<=p2),()),()))
 (some ((false,()),()))
abbrev Rn:Type:=ABz×Unit
abbrev Vc:Type:=List Int->Int->Int->List Int->Int->Option Rn
def X_(R2:Vc)(t6:AAA)(t7 t8:Int)(AK:AAA)(AF:Int):Option Rn:=
 cond (decide (t8<t7))
  (if(0:Int)<=t8/\t8<(t6.length:Int)then(
  (A_ (t6.getD (t8.toNat) 0) 0 7).bind fun u2=>
  cond (!u2.1.1)
   (some ((false,()),()))
  (R2 t6 t7 (AQ (t8+1)) AK AF))else none)
 ((A_ (AK.length:Int) 1 8).bind fun u3=>
 cond (u3.1.1)
  ((A_ AF 1 4).bind fun u4=>
  some ((u4.1.1,()),()))
 (some ((false,()),())))
def Ln:Nat->Vc
 |0=>fun _ _ _ _ _=>none
 |n+1=>X_ (Ln n)
def Xr(R2:Vc)(p0:ABx):Option Rn:=
 R2 p0.1 (p0.1.length:Int) 0 p0.1 p0.2.1
def E6(p0:ABx):Option Rn:=Xr (Ln AW) p0
abbrev Tv:Type:=ABz×Unit
abbrev Xj:Type:=List Int->Int->List Int->Int->Int->Option Tv
def SN(R2:Xj)(t0:AAA)(t1:Int)(t7:AAA)(t8 t9:Int):Option Tv:=
 cond (decide (t9<t8))
  (if(0:Int)<=t9/\t9<(t7.length:Int)then(
  let x1:Int:=(t7.getD (t9.toNat) 0)
  (A_ x1 0 t1).bind fun u2=>
  cond (!u2.1.1)
   (some ((false,()),()))
  (cond (decide (t9>0))
   (if(0:Int)<=AQ (t9-1)/\AQ (t9-1)<(t0.length:Int)then(
   cond (decide ((t0.getD ((AQ (t9-1)).toNat) 0)>=x1))
    (some ((false,()),()))
   (R2 t0 t1 t7 t8 (AQ (t9+1))))else none)
  (R2 t0 t1 t7 t8 (AQ (t9+1)))))else none)
 (some ((true,()),()))
def Kb:Nat->Xj
 |0=>fun _ _ _ _ _=>none
 |n+1=>SN (Kb n)
def aD(R2:Xj)(p0:AAA)(p1:Int):Option Tv:=
 R2 p0 p1 p0 (p0.length:Int) 0
def Yg(p0:AAA)(p1:Int):Option Tv:=aD (Kb AW) p0 p1
abbrev ua:Type:=ABz×Unit
def D2(p0:ABx)(p1:AAA):Option ua:=
 (E6 (p0.1,p0.2.1,())).bind fun u1=>
 cond (u1.1.1)
  ((Yg p1 (AQ ((p0.1.length:Int)-1))).bind fun u3=>
  some ((u3.1.1,()),()))
 (some ((false,()),()))
abbrev tY:Type:=ABz×Unit
def Hl(p0:Int):Option tY:=
 (A_ p0 1 30).bind fun u1=>
 some ((u1.1.1,()),())
abbrev y6:Type:=ABz×Unit
def Zu(p0:Int):Option y6:=
 (A_ p0 1 60).bind fun u1=>
 some ((u1.1.1,()),())
abbrev uH:Type:=ABz×Unit
def DB(p0:Int):Option uH:=
 (Hl (AQ (p0.tdiv 4294967296))).bind fun u2=>
 cond (u2.1.1)
  ((Zu (p0.tmod 4294967296)).bind fun u3=>
  some ((u3.1.1,()),()))
 (some ((false,()),()))
abbrev vj:Type:=ABz×Unit
def GF(p0:ABF):Option vj:=
 some (((decide ((p0.length:Int)<=40)),()),())
abbrev ta:Type:=AB2×Unit
def EU(p0:Int):Option ta:=
 (DB p0).bind fun u1=>
 cond (!u1.1.1)
  (some ((0,()),()))
 (some (((AQ (p0.tdiv 4294967296)),()),()))
abbrev uL:Type:=ABz×Unit
def NF(p0:AEe):Option uL:=
 (A_ p0.2.1 0 30).bind fun u1=>
 cond (u1.1.1)
  (cond (p0.2.1==0)
   (cond (!p0.2.2.1)
    ((DB p0.1).bind fun u2=>
    cond (u2.1.1)
     ((GF p0.2.2.2.1).bind fun u3=>
     some ((u3.1.1,()),()))
    (some ((false,()),())))
   (cond (decide (p0.2.1>0))
    ((DB p0.1).bind fun u4=>
    cond (u4.1.1)
     (cond (p0.2.2.2.1==[])
      ((GF p0.2.2.2.1).bind fun u5=>
      some ((u5.1.1,()),()))
     (some ((false,()),())))
    (some ((false,()),())))
   ((DB p0.1).bind fun u6=>
   cond (u6.1.1)
    (some ((false,()),()))
   (some ((false,()),())))))
  ((EU p0.1).bind fun u7=>
  let x8:Bool:=decide (p0.2.1>u7.1.1)
  cond (!p0.2.2.1)
   ((DB p0.1).bind fun u9=>
   cond (u9.1.1)
    (cond (x8)
     ((GF p0.2.2.2.1).bind fun Dk=>
     some ((Dk.1.1,()),()))
    (some ((false,()),())))
   (some ((false,()),())))
  (cond (decide (p0.2.1>0))
   ((DB p0.1).bind fun Ed=>
   cond (Ed.1.1)
    (cond (x8)
     (cond (p0.2.2.2.1==[])
      ((GF p0.2.2.2.1).bind fun Md=>
      some ((Md.1.1,()),()))
     (some ((false,()),())))
    (some ((false,()),())))
   (some ((false,()),())))
  ((DB p0.1).bind fun Nr=>
  cond (Nr.1.1)
   (cond (x8)
    (some ((false,()),()))
   (some ((false,()),())))
  (some ((false,()),()))))))
 (cond (!p0.2.2.1)
  ((DB p0.1).bind fun Mc=>
  cond (Mc.1.1)
   (some ((false,()),()))
  (some ((false,()),())))
 (cond (decide (p0.2.1>0))
  ((DB p0.1).bind fun K9=>
  cond (K9.1.1)
   (some ((false,()),()))
  (some ((false,()),())))
 ((DB p0.1).bind fun u16=>
 cond (u16.1.1)
  (some ((false,()),()))
 (some ((false,()),())))))
abbrev Qb:Type:=ABz×Unit
abbrev TG:Type:=ABd->Int->Int->Option Qb
def PK(R2:TG)(t5:ABd)(t6 t7:Int):Option Qb:=
 cond (decide (t7<t6))
  (if(0:Int)<=t7/\t7<(t5.length:Int)then(
  (NF ((t5.getD (t7.toNat) (0,0,false,[],())).1,(t5.getD (t7.toNat) (0,0,false,[],())).2.1,(t5.getD (t7.toNat) (0,0,false,[],())).2.2.1,(t5.getD (t7.toNat) (0,0,false,[],())).2.2.2.1,())).bind fun u1=>
  cond (!u1.1.1)
   (some ((false,()),()))
  (R2 t5 t6 (AQ (t7+1))))else none)
 (some ((true,()),()))
def IL:Nat->TG
 |0=>fun _ _ _=>none
 |n+1=>PK (IL n)
def Ww(R2:TG)(p0:ABd):Option Qb:=
 R2 p0 (p0.length:Int) 0
def O9(p0:ABd):Option Qb:=Ww (IL AW) p0
abbrev LQ:Type:=ABz×Unit
abbrev Pp:Type:=ABd->ABd->Int->Int->Option LQ
def L2(R2:Pp)(t0 t5:ABd)(t6 t7:Int):Option LQ:=
 cond (decide (t7<t6))
  (if(0:Int)<=t7/\t7<(t5.length:Int)then(
  cond (decide (t7>0))
   (if(0:Int)<=AQ (t7-1)/\AQ (t7-1)<(t0.length:Int)then(
   cond (decide (((t0.getD ((AQ (t7-1)).toNat) (0,0,false,[],())).1)>=((t5.getD (t7.toNat) (0,0,false,[],())).1)))
    (some ((false,()),()))
   (R2 t0 t5 t6 (AQ (t7+1))))else none)
  (R2 t0 t5 t6 (AQ (t7+1))))else none)
 (some ((true,()),()))
def GG:Nat->Pp
 |0=>fun _ _ _ _=>none
 |n+1=>L2 (GG n)
def Sm(R2:Pp)(p0:ABd):Option LQ:=
 R2 p0 p0 (p0.length:Int) 0
def Ks(p0:ABd):Option LQ:=Sm (GG AW) p0
abbrev uX:Type:=ABz×Unit
def FA(p0:ADA):Option uX:=
 cond ((decide ((p0.1.length:Int)>200)))
  (some ((false,()),()))
 (cond (decide ((p0.2.1.length:Int)>20))
  (some ((false,()),()))
 ((O9 p0.1).bind fun u3=>
 cond (u3.1.1)
  ((O9 p0.2.1).bind fun u4=>
  cond (u4.1.1)
   ((Ks p0.1).bind fun u5=>
   cond (u5.1.1)
    ((A_ p0.2.2.1 0 30).bind fun u6=>
    some ((u6.1.1,()),()))
   (some ((false,()),())))
  (some ((false,()),())))
 (some ((false,()),()))))
abbrev I0:Type:=AB2×Unit
abbrev MH:Type:=List Int->Int->Int->Int->Option I0
def Py(R2:MH)(t0:AAA)(t1 t7 t8:Int):Option I0:=
 cond (decide (t8<t7))
  (if(0:Int)<=t8/\t8<(t0.length:Int)then(
  cond (t1==(t0.getD (t8.toNat) 0))
   (some ((t8,()),()))
  (R2 t0 t1 t7 (AQ (t8+1))))else none)
 (some (((-1),()),()))
def GJ:Nat->MH
 |0=>fun _ _ _ _=>none
 |n+1=>Py (GJ n)
def O2(R2:MH)(p0:AAA)(p1:Int):Option I0:=
 R2 p0 p1 (p0.length:Int) 0
def PY(p0:AAA)(p1:Int):Option I0:=O2 (GJ AW) p0 p1
abbrev aP:Type:=ABz×Unit
def Bv(p0:AAA)(p1:Int):Option aP:=
 (PY p0 p1).bind fun u1=>
 some ((decide (u1.1.1>=0),()),())
abbrev wb:Type:=ABz×Unit
def Sj(p0:Int)(p1:ADH):Option wb:=
 (Bv p1.1 p0).bind fun u1=>
 some ((!u1.1.1,()),())
abbrev DQ:Type:=AB2×Unit
abbrev EX:Type:=List Int->(ADH×Unit)->Int->Int->Option DQ
def D7(R2:EX)(t0:AAA)(t1:ADH×Unit)(t7 t8:Int):Option DQ:=
 cond (decide (t8<t7))
  (if(0:Int)<=t8/\t8<(t0.length:Int)then(
  (Sj (t0.getD (t8.toNat) 0) t1.1).bind fun u2=>
  cond (u2.1.1)
   (some ((t8,()),()))
  (R2 t0 (t1.1,()) t7 (AQ (t8+1))))else none)
 (some (((-1),()),()))
def CD:Nat->EX
 |0=>fun _ _ _ _=>none
 |n+1=>D7 (CD n)
def D9(R2:EX)(p0:AAA)(p1:ADH×Unit):Option DQ:=
 R2 p0 (p1.1,()) (p0.length:Int) 0
def Di(p0:AAA)(p1:ADH×Unit):Option DQ:=D9 (CD AW) p0 p1
abbrev DF:Type:=ACL×AHi
abbrev ER:Type:=(ADH×Unit)->Int->Int->List Int->Option DF
def Dx(R5:ER)(t1:ADH×Unit)(t5 t6:Int)(b0:AAA):Option DF:=
 cond ((decide (t6<(b0.length:Int))))
  (if(0:Int)<=t6/\t6<(b0.length:Int)then(
  let x3:Int:=(b0.getD (t6.toNat) 0)
  (Sj x3 t1.1).bind fun u4=>
  cond (!u4.1.1)
   (if(0:Int)<=t5/\t5<(b0.length:Int)then(
   R5 (t1.1,()) (AQ (t5+1)) (AQ (t6+1)) (b0.set (t5.toNat) x3))else none)
  (R5 (t1.1,()) t5 (AQ (t6+1)) b0))else none)
 (if(0:Int)<=t5/\t5<=(b0.length:Int)/\(b0.length:Int)<=(b0.length:Int)then(
 let x6:AAA:=(b0.take (t5.toNat)++List.replicate (((b0.length:Int).toNat)-(t5.toNat)) 0++b0.drop ((t5.toNat)+(((b0.length:Int).toNat)-(t5.toNat))))
 if(0:Int)<=(0:Int)/\(0:Int)<=t5/\t5<=(x6.length:Int)then(
 some (((),()),((),((x6.drop 0).take ((t5.toNat)-0)),())))else none)else none)
def B6:Nat->ER
 |0=>fun _ _ _ _=>none
 |n+1=>Dx (B6 n)
def Dy(R5:ER)(p1:ADH×Unit)(b0:AAA):Option DF:=
 (Di b0 (p1.1,())).bind fun u1=>
 cond (u1.1.1==(-1))
  (some (((),()),((),b0,())))
 (R5 (p1.1,()) u1.1.1 (AQ (u1.1.1+1)) b0)
def Cm(p1:ADH×Unit)(b0:AAA):Option DF:=Dy (B6 AW) p1 b0
abbrev zp:Type:=ACL×ADH
def Ny(p0 p1:AAA):Option zp:=
 (DD p0).bind fun u1=>
 (Cm ((p1,()),()) u1.2.1).bind fun u2=>
 some (((),()),(u2.2.2.1,()))
abbrev La:Type:=ABz×Unit
def C7(p0:AB0)(p1:Int):Option La:=
 (Ny [p1] p0.2.2.2.1).bind fun u1=>
 some ((decide ((u1.2.1.length:Int)>0),()),())
abbrev WT:Type:=AB2×Unit
abbrev Zm:Type:=List Int->Int->Int->List Int->Int->List Int->Option WT
def a_(R5:Zm)(t13:AAA)(t14 t15:Int)(AK:AAA)(AF:Int)(b1:AAA):Option WT:=
 cond (decide (t15<t14))
  (if(0:Int)<=t15/\t15<(t13.length:Int)then(
  let x2:Int:=(t13.getD (t15.toNat) 0)
  if(0:Int)<=x2/\x2<(AK.length:Int)then(
  (Bv b1 (AK.getD (x2.toNat) 0)).bind fun u4=>
  cond (!u4.1.1)
   (if(0:Int)<=x2/\x2<(AK.length:Int)then(
   if b1.length+1<=CN then(
   R5 t13 t14 (AQ (t15+1)) AK AF (b1++[(AK.getD (x2.toNat) 0)]))else none)else none)
  (R5 t13 t14 (AQ (t15+1)) AK AF b1))else none)else none)
 (some (((b1.length:Int),()),()))
def PO:Nat->Zm
 |0=>fun _ _ _ _ _ _=>none
 |n+1=>a_ (PO n)
def af(R5:Zm)(p0:ABx)(p1:AAA):Option WT:=
 (D2 (p0.1,p0.2.1,()) p1).bind fun u1=>
 cond (!u1.1.1)
  (some (((-1),()),()))
 (R5 p1 (p1.length:Int) 0 p0.1 p0.2.1 [])
def bl(p0:ABx)(p1:AAA):Option WT:=af (PO AW) p0 p1
abbrev lq:Type:=ABz×Unit
def Gr(p0:ABx)(p1:AAA):Option lq:=
 (D2 (p0.1,p0.2.1,()) p1).bind fun u1=>
 cond (u1.1.1)
  ((bl (p0.1,p0.2.1,()) p1).bind fun u2=>
  some (((decide (u2.1.1>=p0.2.1)),()),()))
 (some ((false,()),()))
abbrev KK:Type:=ABz×Unit
abbrev M4:Type:=AB0->AAd->Int->Int->Option KK
def KS(R4:M4)(t0:AB0)(t32:AAd)(t33 t34:Int):Option KK:=
 cond (decide (t34<t33))
  (if(0:Int)<=t34/\t34<(t32.length:Int)then(
  (FA ((t32.getD (t34.toNat) ([],[],0,())).1,(t32.getD (t34.toNat) ([],[],0,())).2.1,(t32.getD (t34.toNat) ([],[],0,())).2.2.1,())).bind fun u5=>
  cond (!u5.1.1)
   (some ((false,()),()))
  ((C7 t0 t34).bind fun u6=>
  cond (u6.1.1)
   (cond (decide ((AQ ((AQ ((((t32.getD (t34.toNat) ([],[],0,())).1).length:Int)+(((t32.getD (t34.toNat) ([],[],0,())).2.1).length:Int)))+((t32.getD (t34.toNat) ([],[],0,())).2.2.1)))>0))
    (some ((false,()),()))
   (R4 t0 t32 t33 (AQ (t34+1))))
  (R4 t0 t32 t33 (AQ (t34+1)))))else none)
 (cond (t0.2.2.2.2.2.2.2.2.2.2.1)
  (some ((true,()),()))
 ((Gr (t0.1,t0.2.1,()) t0.2.2.2.1).bind fun Md=>
 some ((!Md.1.1,()),())))
def FD:Nat->M4
 |0=>fun _ _ _ _=>none
 |n+1=>KS (FD n)
def Qe(R4:M4)(p0:AB0):Option KK:=
 cond (((p0.2.2.1.length:Int) !=(p0.1.length:Int)))
  (some ((false,()),()))
 ((D2 (p0.1,p0.2.1,()) p0.2.2.2.1).bind fun u3=>
 cond (!u3.1.1)
  (some ((false,()),()))
 (R4 p0 p0.2.2.1 (p0.2.2.1.length:Int) 0))
def LW(p0:AB0):Option KK:=Qe (FD AW) p0
abbrev zN:Type:=ABz×Unit
def eI(p0:ABx)(p1:AHW):Option zN:=
 (Gr (p0.1,p0.2.1,()) p1.1).bind fun u1=>
 cond (u1.1.1)
  ((A_ p1.2.2.1 0 60).bind fun u2=>
  cond (u2.1.1)
   (cond (p1.2.1)
    (some ((true,()),()))
   (some ((p1.2.2.1==0,()),())))
  (some ((false,()),())))
 (some ((false,()),()))
abbrev Td:Type:=ABz×Unit
abbrev cZ:Type:=AAf->Int->Int->List Int->Int->AAf->Int->Option Td
def VJ(R2:cZ)(t9:AAf)(t10 t11:Int)(AK:AAA)(AF:Int)(Bn:AAf)(BL:Int):Option Td:=
 cond (decide (t11<t10))
  (if(0:Int)<=t11/\t11<(t9.length:Int)then(
  (eI (AK,AF,()) ((t9.getD (t11.toNat) ([],false,0,())).1,(t9.getD (t11.toNat) ([],false,0,())).2.1,(t9.getD (t11.toNat) ([],false,0,())).2.2.1,())).bind fun u1=>
  cond (!u1.1.1)
   (some ((false,()),()))
  (cond (((t9.getD (t11.toNat) ([],false,0,())).2.1))
   (cond (t11==(AQ ((Bn.length:Int)-1)))
    (some ((false,()),()))
   (cond (decide (t11>0))
    (if(0:Int)<=AQ (t11-1)/\AQ (t11-1)<(Bn.length:Int)then(
    cond (!((Bn.getD ((AQ (t11-1)).toNat) ([],false,0,())).2.1))
     (some ((false,()),()))
    (R2 t9 t10 (AQ (t11+1)) AK AF Bn BL))else none)
   (R2 t9 t10 (AQ (t11+1)) AK AF Bn BL)))
  (R2 t9 t10 (AQ (t11+1)) AK AF Bn BL)))else none)
 (cond (BL==0)
  ((E6 (AK,AF,())).bind fun u5=>
  cond (u5.1.1)
   (cond ((decide ((Bn.length:Int)<=30)))
    (some ((true,()),()))
   (some ((false,()),())))
  (some ((false,()),())))
 ((EU BL).bind fun u7=>
 (A_ u7.1.1 1 (Bn.length:Int)).bind fun u8=>
 (E6 (AK,AF,())).bind fun u9=>
 cond (u9.1.1)
  (cond ((decide ((Bn.length:Int)<=30)))
   (some ((u8.1.1,()),()))
  (some ((false,()),())))
 (some ((false,()),()))))
def LH:Nat->cZ
 |0=>fun _ _ _ _ _ _ _=>none
 |n+1=>VJ (LH n)
def dP(R2:cZ)(p0:ABx)(p1:AB4):Option Td:=
 R2 p1.1 (p1.1.length:Int) 0 p0.1 p0.2.1 p1.1 p1.2.1
def LL(p0:ABx)(p1:AB4):Option Td:=dP (LH AW) p0 p1
abbrev tK:Type:=AB2×Unit
def ew(p0:Bool):Option tK:=
 cond (p0)
  (some ((1,()),()))
 (some ((0,()),()))
abbrev Nh:Type:=ABz×Unit
abbrev Vn:Type:=Int->AB3->Int->Int->List Int->Int->Int->AB3->Option Nh
def X8(R3:Vn)(t5:Int)(t9:AB3)(t10 t11:Int)(AK:AAA)(AF Bn:Int)(BL:AB3):Option Nh:=
 cond (decide (t11<t10))
  (if(0:Int)<=t11/\t11<(t9.length:Int)then(
  (GF ((t9.getD (t11.toNat) ([],[],false,())).1)).bind fun u3=>
  cond (!u3.1.1)
   (some ((false,()),()))
  ((D2 (AK,AF,()) ((t9.getD (t11.toNat) ([],[],false,())).2.1)).bind fun u4=>
  cond (!u4.1.1)
   (some ((false,()),()))
  ((Gr (AK,AF,()) ((t9.getD (t11.toNat) ([],[],false,())).2.1)).bind fun u6=>
  cond (((t9.getD (t11.toNat) ([],[],false,())).2.2.1) !=u6.1.1)
   (some ((false,()),()))
  ((ew (!((t9.getD (t11.toNat) ([],[],false,())).2.2.1))).bind fun u8=>
  R3 (AQ (t5+u8.1.1)) t9 t10 (AQ (t11+1)) AK AF Bn BL))))else none)
 ((E6 (AK,AF,())).bind fun u9=>
 cond (u9.1.1)
  ((Hl Bn).bind fun Dk=>
  cond (Dk.1.1)
   (cond ((decide ((BL.length:Int)<=60)))
    (some ((decide (t5<=6),()),()))
   (some ((false,()),())))
  (some ((false,()),())))
 (some ((false,()),())))
def MY:Nat->Vn
 |0=>fun _ _ _ _ _ _ _ _=>none
 |n+1=>X8 (MY n)
def YG(R3:Vn)(p0:ABx)(p1:AB5):Option Nh:=
 R3 0 p1.2.1 (p1.2.1.length:Int) 0 p0.1 p0.2.1 p1.1 p1.2.1
def GW(p0:ABx)(p1:AB5):Option Nh:=YG (MY AW) p0 p1
abbrev gk:Type:=ABz×Unit
def Jt(p0:AB0)(p1:Int):Option gk:=
 (A_ p1 1 (p0.2.2.2.2.1.length:Int)).bind fun u2=>
 some ((u2.1.1,()),())
abbrev I2:Type:=ABz×Unit
abbrev L9:Type:=AB0->ABE->Int->Int->Option I2
def Jn(R2:L9)(t0:AB0)(t8:ABE)(t9 t10:Int):Option I2:=
 cond (decide (t10<t9))
  (if(0:Int)<=t10/\t10<(t8.length:Int)then(
  (GW (t0.1,t0.2.1,()) ((t8.getD (t10.toNat) (0,[],())).1,(t8.getD (t10.toNat) (0,[],())).2.1,())).bind fun u2=>
  cond (!u2.1.1)
   (some ((false,()),()))
  ((Jt t0 ((t8.getD (t10.toNat) (0,[],())).1)).bind fun u4=>
  cond (!u4.1.1)
   (some ((false,()),()))
  (cond (decide (t10>0))
   (if(0:Int)<=AQ (t10-1)/\AQ (t10-1)<(t0.2.2.2.2.2.2.1.length:Int)then(
   cond (decide (((t0.2.2.2.2.2.2.1.getD ((AQ (t10-1)).toNat) (0,[],())).1)>=((t8.getD (t10.toNat) (0,[],())).1)))
    (some ((false,()),()))
   (R2 t0 t8 t9 (AQ (t10+1))))else none)
  (R2 t0 t8 t9 (AQ (t10+1))))))else none)
 (some ((decide ((t0.2.2.2.2.2.2.1.length:Int)<=4),()),()))
def Ec:Nat->L9
 |0=>fun _ _ _ _=>none
 |n+1=>Jn (Ec n)
def Pb(R2:L9)(p0:AB0):Option I2:=
 R2 p0 p0.2.2.2.2.2.2.1 (p0.2.2.2.2.2.2.1.length:Int) 0
def Kp(p0:AB0):Option I2:=Pb (Ec AW) p0
abbrev zG:Type:=AB2×Unit
def SU(p0:Int):Option zG:=
 (DB p0).bind fun u1=>
 cond (!u1.1.1)
  (some ((0,()),()))
 (some ((p0.tmod 4294967296,()),()))
abbrev uC:Type:=AB2×Unit
def Th(p0:AB1):Option uC:=
 cond ((p0.2.2.2.1.length:Int)==0)
  (some ((0,()),()))
 (let x2:Int:=(p0.2.2.2.1.length:Int)
 if(0:Int)<=AQ (x2-1)/\AQ (x2-1)<(p0.2.2.2.1.length:Int)then(
 (SU ((p0.2.2.2.1.getD ((AQ (x2-1)).toNat) (0,0,false,[],())).1)).bind fun u4=>
 some ((u4.1.1,()),()))else none)
abbrev V1:Type:=ABz×Unit
abbrev Z1:Type:=ABd->Int->Int->Int->Int->List Int->ABd->Bool->List AAA->Option V1
def Tj(R2:Z1)(t6:ABd)(t7 t8 AK AF:Int)(AZ:AAA)(BD:ABd)(BI:Bool)(AO:List AAA):Option V1:=
 cond (decide (t8<t7))
  (if(0:Int)<=t8/\t8<(t6.length:Int)then(
  (NF ((t6.getD (t8.toNat) (0,0,false,[],())).1,(t6.getD (t8.toNat) (0,0,false,[],())).2.1,(t6.getD (t8.toNat) (0,0,false,[],())).2.2.1,(t6.getD (t8.toNat) (0,0,false,[],())).2.2.2.1,())).bind fun u2=>
  cond (!u2.1.1)
   (some ((false,()),()))
  ((EU ((t6.getD (t8.toNat) (0,0,false,[],())).1)).bind fun u4=>
  cond (u4.1.1 !=AF)
   (some ((false,()),()))
  (cond (decide (((t6.getD (t8.toNat) (0,0,false,[],())).2.1)>=AK))
   (some ((false,()),()))
  (R2 t6 t7 (AQ (t8+1)) AK AF AZ BD BI AO))))else none)
 ((Ks BD).bind fun u6=>
 some ((u6.1.1,()),()))
def ML:Nat->Z1
 |0=>fun _ _ _ _ _ _ _ _ _=>none
 |n+1=>Tj (ML n)
def ba(R2:Z1)(p0:AB1):Option V1:=
 R2 p0.2.2.2.1 (p0.2.2.2.1.length:Int) 0 p0.1 p0.2.1 p0.2.2.1 p0.2.2.2.1 p0.2.2.2.2.1 p0.2.2.2.2.2.1
def Wy(p0:AB1):Option V1:=ba (ML AW) p0
abbrev V9:Type:=ABz×Unit
abbrev aJ:Type:=List AAA->Int->Int->List Int->Int->Int->Int->List Int->ABd->Bool->List AAA->Option V9
def Uf(R2:aJ)(t10:List AAA)(t11 t12:Int)(AK:AAA)(AF Bn BL:Int)(CM:AAA)(EG:ABd)(HF:Bool)(FI:List AAA):Option V9:=
 cond (decide (t12<t11))
  (if(0:Int)<=t12/\t12<(t10.length:Int)then(
  (D2 (AK,AF,()) (t10.getD (t12.toNat) [])).bind fun u2=>
  cond (!u2.1.1)
   (some ((false,()),()))
  (R2 t10 t11 (AQ (t12+1)) AK AF Bn BL CM EG HF FI))else none)
 (cond (HF)
  ((Th (Bn,BL,CM,EG,HF,FI,())).bind fun u3=>
  (Hl BL).bind fun u4=>
  cond (u4.1.1)
   ((A_ Bn (AQ (BL+1)) 30).bind fun u5=>
   (E6 (AK,AF,())).bind fun u6=>
   cond (u6.1.1)
    (cond (u5.1.1)
     ((D2 (AK,AF,()) CM).bind fun u7=>
     cond (u7.1.1)
      ((Wy (Bn,BL,CM,EG,HF,FI,())).bind fun u8=>
      cond (u8.1.1)
       (some ((((FI.length:Int)==u3.1.1),()),()))
      (some ((false,()),())))
     (some ((false,()),())))
    (some ((false,()),())))
   (some ((false,()),())))
  ((E6 (AK,AF,())).bind fun Dk=>
  cond (Dk.1.1)
   (some ((false,()),()))
  (some ((false,()),()))))
 ((Hl BL).bind fun Ed=>
 cond (Ed.1.1)
  ((A_ Bn (AQ (BL+1)) 30).bind fun Md=>
  (E6 (AK,AF,())).bind fun Nr=>
  cond (Nr.1.1)
   (cond (Md.1.1)
    ((D2 (AK,AF,()) CM).bind fun Mc=>
    cond (Mc.1.1)
     ((Wy (Bn,BL,CM,EG,HF,FI,())).bind fun K9=>
     cond (K9.1.1)
      (some ((((FI.length:Int)==0),()),()))
     (some ((false,()),())))
    (some ((false,()),())))
   (some ((false,()),())))
  (some ((false,()),())))
 ((E6 (AK,AF,())).bind fun jV=>
 cond (jV.1.1)
  (some ((false,()),()))
 (some ((false,()),())))))
def L4:Nat->aJ
 |0=>fun _ _ _ _ _ _ _ _ _ _ _=>none
 |n+1=>Uf (L4 n)
def bZ(R2:aJ)(p0:ABx)(p1:AB1):Option V9:=
 R2 p1.2.2.2.2.2.1 (p1.2.2.2.2.2.1.length:Int) 0 p0.1 p0.2.1 p1.1 p1.2.1 p1.2.2.1 p1.2.2.2.1 p1.2.2.2.2.1 p1.2.2.2.2.2.1
def Ht(p0:ABx)(p1:AB1):Option V9:=bZ (L4 AW) p0 p1
abbrev QW:Type:=AB2×Unit
abbrev UP:Type:=AAf->Int->Int->Option QW
def P0(R2:UP)(t6:AAf)(t7 t8:Int):Option QW:=
 cond (decide (t8<t7))
  (if(0:Int)<=t8/\t8<(t6.length:Int)then(
  cond (!((t6.getD (t8.toNat) ([],false,0,())).2.1))
   (some ((AQ (t8+1),()),()))
  (R2 t6 t7 (AQ (t8+1))))else none)
 (some ((0,()),()))
def IU:Nat->UP
 |0=>fun _ _ _=>none
 |n+1=>P0 (IU n)
def XH(R2:UP)(p0:AB4):Option QW:=
 R2 p0.1 (p0.1.length:Int) 0
def L3(p0:AB4):Option QW:=XH (IU AW) p0
abbrev Ko:Type:=ABz×Unit
abbrev N9:Type:=AB0->ABI->Int->Int->Option Ko
def LA(R2:N9)(t0:AB0)(t8:ABI)(t9 t10:Int):Option Ko:=
 cond (decide (t10<t9))
  (if(0:Int)<=t10/\t10<(t8.length:Int)then(
  (Ht (t0.1,t0.2.1,()) ((t8.getD (t10.toNat) (0,0,[],[],false,[],())).1,(t8.getD (t10.toNat) (0,0,[],[],false,[],())).2.1,(t8.getD (t10.toNat) (0,0,[],[],false,[],())).2.2.1,(t8.getD (t10.toNat) (0,0,[],[],false,[],())).2.2.2.1,(t8.getD (t10.toNat) (0,0,[],[],false,[],())).2.2.2.2.1,(t8.getD (t10.toNat) (0,0,[],[],false,[],())).2.2.2.2.2.1,())).bind fun u2=>
  cond (!u2.1.1)
   (some ((false,()),()))
  (cond (((t8.getD (t10.toNat) (0,0,[],[],false,[],())).1) !=(t0.2.2.2.2.1.length:Int))
   (some ((false,()),()))
  ((L3 (t0.2.2.2.2.1,t0.2.2.2.2.2.1,())).bind fun u6=>
  cond (((t8.getD (t10.toNat) (0,0,[],[],false,[],())).2.1) !=u6.1.1)
   (some ((false,()),()))
  (R2 t0 t8 t9 (AQ (t10+1))))))else none)
 (some ((decide ((t0.2.2.2.2.2.2.2.1.length:Int)<=1),()),()))
def Fc:Nat->N9
 |0=>fun _ _ _ _=>none
 |n+1=>LA (Fc n)
def RD(R2:N9)(p0:AB0):Option Ko:=
 R2 p0 p0.2.2.2.2.2.2.2.1 (p0.2.2.2.2.2.2.2.1.length:Int) 0
def Mv(p0:AB0):Option Ko:=RD (Fc AW) p0
abbrev ql:Type:=ABz×Unit
def WS(p0:ADU):Option ql:=
 (A_ p0.1 1 31).bind fun u1=>
 cond (u1.1.1)
  ((A_ p0.2.1 1 61).bind fun u2=>
  cond (u2.1.1)
   (some ((decide ((p0.2.2.1.length:Int)<=120),()),()))
  (some ((false,()),())))
 (some ((false,()),()))
abbrev I8:Type:=ABz×Unit
abbrev Lv:Type:=AB0->AAs->Int->Int->Option I8
def J4(R2:Lv)(t0:AB0)(t8:AAs)(t9 t10:Int):Option I8:=
 cond (decide (t10<t9))
  (if(0:Int)<=t10/\t10<(t8.length:Int)then(
  (WS ((t8.getD (t10.toNat) (0,0,[],())).1,(t8.getD (t10.toNat) (0,0,[],())).2.1,(t8.getD (t10.toNat) (0,0,[],())).2.2.1,())).bind fun u2=>
  cond (!u2.1.1)
   (some ((false,()),()))
  (R2 t0 t8 t9 (AQ (t10+1))))else none)
 (some (((t0.2.2.2.2.2.2.2.2.1.length:Int)==2,()),()))
def EY:Nat->Lv
 |0=>fun _ _ _ _=>none
 |n+1=>J4 (EY n)
def PT(R2:Lv)(p0:AB0):Option I8:=
 R2 p0 p0.2.2.2.2.2.2.2.2.1 (p0.2.2.2.2.2.2.2.2.1.length:Int) 0
def K7(p0:AB0):Option I8:=PT (EY AW) p0
abbrev LY:Type:=ABz×Unit
abbrev PQ:Type:=AB0->AA8->Int->Int->Option LY
def Ll(R2:PQ)(t0:AB0)(t8:AA8)(t9 t10:Int):Option LY:=
 cond (decide (t10<t9))
  (if(0:Int)<=t10/\t10<(t8.length:Int)then(
  (EU ((t8.getD (t10.toNat) (0,[],false,())).1)).bind fun u3=>
  (Jt t0 u3.1.1).bind fun u4=>
  cond (!u4.1.1)
   (some ((false,()),()))
  ((GF ((t8.getD (t10.toNat) (0,[],false,())).2.1)).bind fun u6=>
  cond (!u6.1.1)
   (some ((false,()),()))
  (cond (decide (t10>0))
   (if(0:Int)<=AQ (t10-1)/\AQ (t10-1)<(t0.2.2.2.2.2.2.2.2.2.1.length:Int)then(
   cond (decide (((t0.2.2.2.2.2.2.2.2.2.1.getD ((AQ (t10-1)).toNat) (0,[],false,())).1)>=((t8.getD (t10.toNat) (0,[],false,())).1)))
    (some ((false,()),()))
   (R2 t0 t8 t9 (AQ (t10+1))))else none)
  (R2 t0 t8 t9 (AQ (t10+1))))))else none)
 (some ((decide ((t0.2.2.2.2.2.2.2.2.2.1.length:Int)<=120),()),()))
def GK:Nat->PQ
 |0=>fun _ _ _ _=>none
 |n+1=>Ll (GK n)
def Sf(R2:PQ)(p0:AB0):Option LY:=
 R2 p0 p0.2.2.2.2.2.2.2.2.2.1 (p0.2.2.2.2.2.2.2.2.2.1.length:Int) 0
def Ot(p0:AB0):Option LY:=Sf (GK AW) p0
abbrev tH:Type:=ABz×Unit
def Cz(p0:AB0):Option tH:=
 (E6 (p0.1,p0.2.1,())).bind fun u1=>
 cond (u1.1.1)
  ((LW (p0.1,p0.2.1,p0.2.2.1,p0.2.2.2.1,p0.2.2.2.2.1,p0.2.2.2.2.2.1,p0.2.2.2.2.2.2.1,p0.2.2.2.2.2.2.2.1,p0.2.2.2.2.2.2.2.2.1,p0.2.2.2.2.2.2.2.2.2.1,p0.2.2.2.2.2.2.2.2.2.2.1,())).bind fun u2=>
  cond (u2.1.1)
   ((LL (p0.1,p0.2.1,()) (p0.2.2.2.2.1,p0.2.2.2.2.2.1,())).bind fun u3=>
   cond (u3.1.1)
    ((Kp (p0.1,p0.2.1,p0.2.2.1,p0.2.2.2.1,p0.2.2.2.2.1,p0.2.2.2.2.2.1,p0.2.2.2.2.2.2.1,p0.2.2.2.2.2.2.2.1,p0.2.2.2.2.2.2.2.2.1,p0.2.2.2.2.2.2.2.2.2.1,p0.2.2.2.2.2.2.2.2.2.2.1,())).bind fun u4=>
    cond (u4.1.1)
     ((Mv (p0.1,p0.2.1,p0.2.2.1,p0.2.2.2.1,p0.2.2.2.2.1,p0.2.2.2.2.2.1,p0.2.2.2.2.2.2.1,p0.2.2.2.2.2.2.2.1,p0.2.2.2.2.2.2.2.2.1,p0.2.2.2.2.2.2.2.2.2.1,p0.2.2.2.2.2.2.2.2.2.2.1,())).bind fun u5=>
     cond (u5.1.1)
      ((K7 (p0.1,p0.2.1,p0.2.2.1,p0.2.2.2.1,p0.2.2.2.2.1,p0.2.2.2.2.2.1,p0.2.2.2.2.2.2.1,p0.2.2.2.2.2.2.2.1,p0.2.2.2.2.2.2.2.2.1,p0.2.2.2.2.2.2.2.2.2.1,p0.2.2.2.2.2.2.2.2.2.2.1,())).bind fun u6=>
      cond (u6.1.1)
       ((Ot (p0.1,p0.2.1,p0.2.2.1,p0.2.2.2.1,p0.2.2.2.2.1,p0.2.2.2.2.2.1,p0.2.2.2.2.2.2.1,p0.2.2.2.2.2.2.2.1,p0.2.2.2.2.2.2.2.2.1,p0.2.2.2.2.2.2.2.2.2.1,p0.2.2.2.2.2.2.2.2.2.2.1,())).bind fun u7=>
       some ((u7.1.1,()),()))
      (some ((false,()),())))
     (some ((false,()),())))
    (some ((false,()),())))
   (some ((false,()),())))
  (some ((false,()),())))
 (some ((false,()),()))
abbrev fS:Type:=(AIH×Unit)×AEw
def Du(p0:ABx):Option fS:=
 (Ie (p0.1,p0.2.1,())).bind fun u1=>
 if(0:Int)<=(p0.1.length:Int)/\(p0.1.length:Int)<=(p0.1.length:Int)/\(p0.1.length:Int)<=(CN:Int)then(
 let x2:AAd:=(List.replicate ((p0.1.length:Int).toNat) ([],[],0,()))
 (KB).bind fun u3=>
 (KB).bind fun u4=>
 (Cz (u1.2.1,u1.1.1.2.1,x2,[],[],0,[],[],[(u3.1.1.1,u3.1.1.2.1,u3.2.1,()),(u4.1.1.1,u4.1.1.2.1,u4.2.1,())],[],false,())).bind fun u5=>
 cond (!u5.1.1)
  (some (((((),0,(),(),(),0,(),(),(),(),false,()),false,()),()),([],[],[],[],[],[],[],[],())))
 (some (((((),u1.1.1.2.1,(),(),(),0,(),(),(),(),false,()),true,()),()),(u1.2.1,x2,[],[],[],[],[(u3.1.1.1,u3.1.1.2.1,u3.2.1,()),(u4.1.1.1,u4.1.1.2.1,u4.2.1,())],[],()))))else none
abbrev AAu:Type:=ABz×Unit
def CF(p0 p1 p2:Int):Option AAu:=
 cond (decide (p0>=p1))
  (some ((decide (p0<=p2),()),()))
 (some ((false,()),()))
abbrev RN:Type:=ABz×Unit
abbrev Vu:Type:=Int->List Int->Int->Option RN
def X7(R4:Vu)(t3:Int)(AK:AAA)(AF:Int):Option RN:=
 cond ((decide (t3<(AK.length:Int))))
  (if(0:Int)<=t3/\t3<(AK.length:Int)then(
  (CF (AK.getD (t3.toNat) 0) 0 7).bind fun u5=>
  cond (!u5.1.1)
   (some ((false,()),()))
  (R4 (AQ (t3+1)) AK AF))else none)
 (some ((true,()),()))
def Li:Nat->Vu
 |0=>fun _ _ _=>none
 |n+1=>X7 (Li n)
def YC(R4:Vu)(p0:ABx):Option RN:=
 (CF (p0.1.length:Int) 1 8).bind fun u1=>
 cond (!u1.1.1)
  (some ((false,()),()))
 ((CF p0.2.1 1 4).bind fun u2=>
 cond (!u2.1.1)
  (some ((false,()),()))
 (R4 0 p0.1 p0.2.1))
def Ge(p0:ABx):Option RN:=YC (Li AW) p0
abbrev uf:Type:=AEg×Unit
def QE(p0:Int):Option uf:=
 cond (p0==8)
  (some (([],()),()))
 (cond (p0==10)
  (some (([],()),()))
 (cond (p0==12)
  (some (([],()),()))
 (cond (p0==2)
  (some (([65,84],()),()))
 (cond (p0==3)
  (some (([65,66,67],()),()))
 (cond (p0==5)
  (some (([65,66],()),()))
 (cond (p0==14)
  (some (([65,66],()),()))
 (cond (p0==11)
  (some (([66,67],()),()))
 (cond (p0==13)
  (some (([80],()),()))
 (some (([65],()),()))))))))))
abbrev RG:Type:=ABz×Unit
abbrev Yz:Type:=Int->Int->Int->Int->Int->Int->List UInt8->Int->Int->Int->Int->List UInt8->List Int->Option RG
def DM(R4:Yz)(t12 t13 AK AF AZ BD:Int)(BI:ABF)(Bn BL CM EG:Int)(HF:ABF)(b2:AAA):Option RG:=
 cond (decide (t13<t12))
  (if(0:Int)<=t13/\t13<(b2.length:Int)then(
  let x3:Int:=(b2.getD (t13.toNat) 0)
  cond (x3==65)
   (R4 t12 (AQ (t13+1)) AK AF AZ BD BI Bn 0 CM EG HF b2)
  (cond (x3==80)
   (R4 t12 (AQ (t13+1)) AK AF AZ BD BI Bn 0 CM EG HF b2)
  (cond (x3==66)
   (R4 t12 (AQ (t13+1)) AK AF AZ BD BI Bn BL 0 EG HF b2)
  (cond (x3==67)
   (R4 t12 (AQ (t13+1)) AK AF AZ BD BI Bn BL CM 0 HF b2)
  (cond (x3==84)
   (R4 t12 (AQ (t13+1)) AK AF AZ BD BI Bn BL CM EG [] b2)
  (R4 t12 (AQ (t13+1)) AK AF AZ BD BI Bn BL CM EG HF b2))))))else none)
 ((A_ AK 1 16).bind fun u4=>
 cond (u4.1.1)
  (cond (((Bn==0)&&((BL==0)&&((CM==0)&&((EG==0)&&((HF==[])&&true))))))
   ((GF BI).bind fun u6=>
   some ((u6.1.1,()),()))
  (some ((false,()),())))
 (some ((false,()),())))
def Dr:Nat->Yz
 |0=>fun _ _ _ _ _ _ _ _ _ _ _ _ _=>none
 |n+1=>DM (Dr n)
def ar(R4:Yz)(p0:ADJ):Option RG:=
 (QE p0.1).bind fun u1=>
 if u1.1.1.length<=CN then(
 let x2:AAA:=(u1.1.1.map fun c=>(c.toNat:Int))
 R4 (x2.length:Int) 0 p0.1 p0.2.1 p0.2.2.1 p0.2.2.2.1 p0.2.2.2.2.1 0 p0.2.1 p0.2.2.1 p0.2.2.2.1 p0.2.2.2.2.1 x2)else none
def XD(p0:ADJ):Option RG:=ar (Dr AW) p0
abbrev Iq:Type:=AF8×AFi
abbrev Ph:Type:=AAf->Int->Int->Int->AAf->Int->AAf->Option Iq
def Sb(R3:Ph)(t10:AAf)(t11 t12 AF:Int)(b1:AAf)(SC:Int)(b3:AAf):Option Iq:=
 cond (decide (t12<t11))
  (if(0:Int)<=t12/\t12<(t10.length:Int)then(
  (DD ((t10.getD (t12.toNat) ([],false,0,())).1)).bind fun u1=>
  if b3.length+1<=CN then(
  R3 t10 t11 (AQ (t12+1)) AF b1 SC (b3++[(u1.2.1,(t10.getD (t12.toNat) ([],false,0,())).2.1,(t10.getD (t12.toNat) ([],false,0,())).2.2.1,())]))else none)else none)
 (some ((((),SC,()),()),(b3,())))
def H3:Nat->Ph
 |0=>fun _ _ _ _ _ _ _=>none
 |n+1=>Sb (H3 n)
def Sc(R3:Ph)(p0:AB4):Option Iq:=
 R3 p0.1 (p0.1.length:Int) 0 0 [] p0.2.1 []
def ES(p0:AB4):Option Iq:=Sc (H3 AW) p0
abbrev jv:Type:=ACL×AF9
def Ja(p0:ABd):Option jv:=
 if 0+p0.length<=CN then(
 some (((),()),(p0,())))else none
abbrev ng:Type:=AHj×AEz
def C_(p0:ADA):Option ng:=
 (Ja p0.1).bind fun u1=>
 (Ja p0.2.1).bind fun u2=>
 some ((((),(),p0.2.2.1,()),()),(u1.2.1,u2.2.1,()))
abbrev Kk:Type:=AHm×AFk
abbrev SZ:Type:=AB3->Int->Int->Int->AB3->Int->AB3->Option Kk
def Uv(R3:SZ)(t10:AB3)(t11 t12 AK:Int)(b1:AB3)(Qm:Int)(b3:AB3):Option Kk:=
 cond (decide (t12<t11))
  (if(0:Int)<=t12/\t12<(t10.length:Int)then(
  (DD ((t10.getD (t12.toNat) ([],[],false,())).2.1)).bind fun u2=>
  if b3.length+1<=CN then(
  R3 t10 t11 (AQ (t12+1)) AK b1 Qm (b3++[((t10.getD (t12.toNat) ([],[],false,())).1,u2.2.1,(t10.getD (t12.toNat) ([],[],false,())).2.2.1,())]))else none)else none)
 (some (((Qm,(),()),()),(b3,())))
def J3:Nat->SZ
 |0=>fun _ _ _ _ _ _ _=>none
 |n+1=>Uv (J3 n)
def Uy(R3:SZ)(p0:AB5):Option Kk:=
 R3 p0.2.1 (p0.2.1.length:Int) 0 0 [] p0.1 []
def Fv(p0:AB5):Option Kk:=Uy (J3 AW) p0
abbrev RR:Type:=AGC×AFA
abbrev VV:Type:=List AAA->Int->Int->Int->Int->Bool->List Int->ABd->List AAA->Int->Int->Bool->List Int->ABd->List AAA->Option RR
def Xq(R4:VV)(t17:List AAA)(t18 t19 AK AF:Int)(BI:Bool)(b1:AAA)(b2:ABd)(b3:List AAA)(ABO AAO:Int)(ABC:Bool)(b5:AAA)(b6:ABd)(b7:List AAA):Option RR:=
 cond (decide (t19<t18))
  (if(0:Int)<=t19/\t19<(t17.length:Int)then(
  (DD (t17.getD (t19.toNat) [])).bind fun u4=>
  if b7.length+1<=CN then(
  R4 t17 t18 (AQ (t19+1)) AK AF BI b1 b2 b3 ABO AAO ABC b5 b6 (b7++[u4.2.1]))else none)else none)
 (some (((ABO,AAO,(),(),ABC,(),()),()),(b5,b6,b7,())))
def Lt:Nat->VV
 |0=>fun _ _ _ _ _ _ _ _ _ _ _ _ _ _ _=>none
 |n+1=>Xq (Lt n)
def X6(R4:VV)(p0:AB1):Option RR:=
 (DD p0.2.2.1).bind fun u1=>
 (Ja p0.2.2.2.1).bind fun u2=>
 R4 p0.2.2.2.2.2.1 (p0.2.2.2.2.2.1.length:Int) 0 0 0 false [] [] [] p0.1 p0.2.1 p0.2.2.2.2.1 u1.2.1 u2.2.1 []
def Gd(p0:AB1):Option RR:=X6 (Lt AW) p0
abbrev nB:Type:=AGB×AF1
def NQ(p0:ADU):Option nB:=
 if 0+p0.2.2.1.length<=CN then(
 some (((p0.1,p0.2.1,(),()),()),(p0.2.2.1,())))else none
abbrev EI:Type:=AHr×AEw
abbrev IV:Type:=AAd->Int->Int->List Int->Int->AAd->List Int->AAf->Int->ABE->ABI->AAs->AA8->Bool->Int->Int->Bool->List Int->AAd->List Int->AAf->ABE->ABI->AAs->AA8->Int->Int->Bool->List Int->AAd->List Int->AAf->ABE->ABI->AAs->AA8->Option EI
abbrev IW:Type:=ABE->Int->Int->List Int->Int->AAd->List Int->AAf->Int->ABE->ABI->AAs->AA8->Bool->Int->Int->Bool->List Int->AAd->List Int->AAf->ABE->ABI->AAs->AA8->Int->Int->Bool->List Int->AAd->List Int->AAf->ABE->ABI->AAs->AA8->Option EI
abbrev Hb:Type:=ABI->Int->Int->List Int->Int->AAd->List Int->AAf->Int->ABE->ABI->AAs->AA8->Bool->Int->Int->Bool->List Int->AAd->List Int->AAf->ABE->ABI->AAs->AA8->Int->Int->Bool->List Int->AAd->List Int->AAf->ABE->ABI->AAs->AA8->Option EI
abbrev HQ:Type:=AAs->Int->Int->List Int->Int->AAd->List Int->AAf->Int->ABE->ABI->AAs->AA8->Bool->Int->Int->Bool->List Int->AAd->List Int->AAf->ABE->ABI->AAs->AA8->Int->Int->Bool->List Int->AAd->List Int->AAf->ABE->ABI->AAs->AA8->Option EI
def W9(R3:IV)(R8:IW)(R13:Hb)(R18:HQ)(t25:AAd)(t26 t27:Int)(AK:AAA)(AF:Int)(AZ:AAd)(BD:AAA)(BI:AAf)(AO:Int)(Bl:ABE)(Bk:ABI)(BN:AAs)(Bo:AA8)(AH:Bool)(BL FI:Int)(Hi:Bool)(b2:AAA)(b3:AAd)(b4:AAA)(b5:AAf)(b6:ABE)(b7:ABI)(b8:AAs)(b9:AA8)(FJ HD:Int)(ED:Bool)(Hh:AAA)(EW:AAd)(Ii:AAA)(Iy:AAf)(FU:ABE)(GR:ABI)(HH:AAs)(cg:AA8):Option EI:=
 cond (decide (t27<t26))
  (if(0:Int)<=t27/\t27<(t25.length:Int)then(
  (C_ ((t25.getD (t27.toNat) ([],[],0,())).1,(t25.getD (t27.toNat) ([],[],0,())).2.1,(t25.getD (t27.toNat) ([],[],0,())).2.2.1,())).bind fun K9=>
  if EW.length+1<=CN then(
  R3 t25 t26 (AQ (t27+1)) AK AF AZ BD BI AO Bl Bk BN Bo AH BL FI Hi b2 b3 b4 b5 b6 b7 b8 b9 FJ HD ED Hh (EW++[(K9.2.1,K9.2.2.1,K9.1.1.2.2.1,())]) Ii Iy FU GR HH cg)else none)else none)
 (R8 Bl (Bl.length:Int) 0 AK AF AZ BD BI AO Bl Bk BN Bo AH BL FI Hi b2 b3 b4 b5 b6 b7 b8 b9 FJ HD ED Hh EW Ii Iy FU GR HH cg)
def W5(R3:IV)(R8:IW)(R13:Hb)(R18:HQ)(t40:ABE)(t41 t42:Int)(AK:AAA)(AF:Int)(AZ:AAd)(BD:AAA)(BI:AAf)(AO:Int)(Bl:ABE)(Bk:ABI)(BN:AAs)(Bo:AA8)(AH:Bool)(BL FI:Int)(Hi:Bool)(b2:AAA)(b3:AAd)(b4:AAA)(b5:AAf)(b6:ABE)(b7:ABI)(b8:AAs)(b9:AA8)(FJ HD:Int)(ED:Bool)(Hh:AAA)(EW:AAd)(Ii:AAA)(Iy:AAf)(FU:ABE)(GR:ABI)(HH:AAs)(cg:AA8):Option EI:=
 cond (decide (t42<t41))
  (if(0:Int)<=t42/\t42<(t40.length:Int)then(
  (Fv ((t40.getD (t42.toNat) (0,[],())).1,(t40.getD (t42.toNat) (0,[],())).2.1,())).bind fun Uj=>
  if FU.length+1<=CN then(
  R8 t40 t41 (AQ (t42+1)) AK AF AZ BD BI AO Bl Bk BN Bo AH BL FI Hi b2 b3 b4 b5 b6 b7 b8 b9 FJ HD ED Hh EW Ii Iy (FU++[(Uj.1.1.1,Uj.2.1,())]) GR HH cg)else none)else none)
 (R13 Bk (Bk.length:Int) 0 AK AF AZ BD BI AO Bl Bk BN Bo AH BL FI Hi b2 b3 b4 b5 b6 b7 b8 b9 FJ HD ED Hh EW Ii Iy FU GR HH cg)
def U9(R3:IV)(R8:IW)(R13:Hb)(R18:HQ)(t55:ABI)(t56 t57:Int)(AK:AAA)(AF:Int)(AZ:AAd)(BD:AAA)(BI:AAf)(AO:Int)(Bl:ABE)(Bk:ABI)(BN:AAs)(Bo:AA8)(AH:Bool)(BL FI:Int)(Hi:Bool)(b2:AAA)(b3:AAd)(b4:AAA)(b5:AAf)(b6:ABE)(b7:ABI)(b8:AAs)(b9:AA8)(FJ HD:Int)(ED:Bool)(Hh:AAA)(EW:AAd)(Ii:AAA)(Iy:AAf)(FU:ABE)(GR:ABI)(HH:AAs)(cg:AA8):Option EI:=
 cond (decide (t57<t56))
  (if(0:Int)<=t57/\t57<(t55.length:Int)then(
  (Gd ((t55.getD (t57.toNat) (0,0,[],[],false,[],())).1,(t55.getD (t57.toNat) (0,0,[],[],false,[],())).2.1,(t55.getD (t57.toNat) (0,0,[],[],false,[],())).2.2.1,(t55.getD (t57.toNat) (0,0,[],[],false,[],())).2.2.2.1,(t55.getD (t57.toNat) (0,0,[],[],false,[],())).2.2.2.2.1,(t55.getD (t57.toNat) (0,0,[],[],false,[],())).2.2.2.2.2.1,())).bind fun jZ=>
  if GR.length+1<=CN then(
  R13 t55 t56 (AQ (t57+1)) AK AF AZ BD BI AO Bl Bk BN Bo AH BL FI Hi b2 b3 b4 b5 b6 b7 b8 b9 FJ HD ED Hh EW Ii Iy FU (GR++[(jZ.1.1.1,jZ.1.1.2.1,jZ.2.1,jZ.2.2.1,jZ.1.1.2.2.2.2.1,jZ.2.2.2.1,())]) HH cg)else none)else none)
 (R18 BN (BN.length:Int) 0 AK AF AZ BD BI AO Bl Bk BN Bo AH BL FI Hi b2 b3 b4 b5 b6 b7 b8 b9 FJ HD ED Hh EW Ii Iy FU GR HH cg)
def Ux(R3:IV)(R8:IW)(R13:Hb)(R18:HQ)(t70:AAs)(t71 t72:Int)(AK:AAA)(AF:Int)(AZ:AAd)(BD:AAA)(BI:AAf)(AO:Int)(Bl:ABE)(Bk:ABI)(BN:AAs)(Bo:AA8)(AH:Bool)(BL FI:Int)(Hi:Bool)(b2:AAA)(b3:AAd)(b4:AAA)(b5:AAf)(b6:ABE)(b7:ABI)(b8:AAs)(b9:AA8)(FJ HD:Int)(ED:Bool)(Hh:AAA)(EW:AAd)(Ii:AAA)(Iy:AAf)(FU:ABE)(GR:ABI)(HH:AAs)(cg:AA8):Option EI:=
 cond (decide (t72<t71))
  (if(0:Int)<=t72/\t72<(t70.length:Int)then(
  (NQ ((t70.getD (t72.toNat) (0,0,[],())).1,(t70.getD (t72.toNat) (0,0,[],())).2.1,(t70.getD (t72.toNat) (0,0,[],())).2.2.1,())).bind fun rK=>
  if HH.length+1<=CN then(
  R18 t70 t71 (AQ (t72+1)) AK AF AZ BD BI AO Bl Bk BN Bo AH BL FI Hi b2 b3 b4 b5 b6 b7 b8 b9 FJ HD ED Hh EW Ii Iy FU GR (HH++[(rK.1.1.1,rK.1.1.2.1,rK.2.1,())]) cg)else none)else none)
 (if 0+Bo.length<=CN then(
 some ((((),FJ,(),(),(),HD,(),(),(),(),ED,()),()),(Hh,EW,Ii,Iy,FU,GR,HH,Bo,())))else none)
mutual
def FR:Nat->IV
 |0=>fun _ _ _ _ _ _ _ _ _ _ _ _ _ _ _ _ _ _ _ _ _ _ _ _ _ _ _ _ _ _ _ _ _ _ _ _=>none
 |n+1=>W9 (FR n) (FP n) (Er n) (En n)
def FP:Nat->IW
 |0=>fun _ _ _ _ _ _ _ _ _ _ _ _ _ _ _ _ _ _ _ _ _ _ _ _ _ _ _ _ _ _ _ _ _ _ _ _=>none
 |n+1=>W5 (FR n) (FP n) (Er n) (En n)
def Er:Nat->Hb
 |0=>fun _ _ _ _ _ _ _ _ _ _ _ _ _ _ _ _ _ _ _ _ _ _ _ _ _ _ _ _ _ _ _ _ _ _ _ _=>none
 |n+1=>U9 (FR n) (FP n) (Er n) (En n)
def En:Nat->HQ
 |0=>fun _ _ _ _ _ _ _ _ _ _ _ _ _ _ _ _ _ _ _ _ _ _ _ _ _ _ _ _ _ _ _ _ _ _ _ _=>none
 |n+1=>Ux (FR n) (FP n) (Er n) (En n)
end
def XF(R3:IV)(R8:IW)(R13:Hb)(R18:HQ)(p0:AB0):Option EI:=
 (Ie (p0.1,p0.2.1,())).bind fun u2=>
 (DD p0.2.2.2.1).bind fun u3=>
 (ES (p0.2.2.2.2.1,p0.2.2.2.2.2.1,())).bind fun u4=>
 R3 p0.2.2.1 (p0.2.2.1.length:Int) 0 p0.1 p0.2.1 p0.2.2.1 p0.2.2.2.1 p0.2.2.2.2.1 p0.2.2.2.2.2.1 p0.2.2.2.2.2.2.1 p0.2.2.2.2.2.2.2.1 p0.2.2.2.2.2.2.2.2.1 p0.2.2.2.2.2.2.2.2.2.1 p0.2.2.2.2.2.2.2.2.2.2.1 0 0 false [] [] [] [] [] [] [] [] u2.1.1.2.1 u4.1.1.2.1 p0.2.2.2.2.2.2.2.2.2.2.1 u2.2.1 [] u3.2.1 u4.2.1 [] [] [] []
def Dm(p0:AB0):Option EI:=XF (FR AW) (FP AW) (Er AW) (En AW) p0
abbrev Lx:Type:=AFf×Unit
def DR(p0 p1:Int):Option Lx:=
 (Hl p0).bind fun u1=>
 cond (!u1.1.1)
  (some (((0,false,()),()),()))
 ((Zu p1).bind fun u2=>
 cond (!u2.1.1)
  (some (((0,false,()),()),()))
 (some (((AQ ((AQ (4294967296*p0))+p1),true,()),()),())))
abbrev HY:Type:=ACL×ADH
abbrev US:Type:=Int->Int->List Int->Option HY
def XK(R5:US)(t0 t10:Int)(b0:AAA):Option HY:=
 cond (decide (t10<8))
  (if t10<0 then none else(
  cond (((gU .i64 (t0.fdiv (2^(min t10.toNat 64))) 1)==1))
   (if b0.length+1<=CN then(
   R5 t0 (AQ (t10+1)) (b0++[t10]))else none)
  (R5 t0 (AQ (t10+1)) b0)))
 (some (((),()),(b0,())))
def K8:Nat->US
 |0=>fun _ _ _=>none
 |n+1=>XK (K8 n)
def XQ(R5:US)(p0:Int):Option HY:=
 (A_ p0 0 255).bind fun u1=>
 cond (!u1.1.1)
  (some (((),()),([],())))
 (R5 p0 0 [])
def IB(p0:Int):Option HY:=XQ (K8 AW) p0
abbrev nr:Type:=AB2×Unit
def To(p0:AEe)(p1:Int):Option nr:=
 cond (decide (p0.1<p1))
  (some (((-1),()),()))
 (cond (decide (p0.1>p1))
  (some ((1,()),()))
 (some ((0,()),())))
abbrev BZ:Type:=AFf×Unit
abbrev CB:Type:=ABd->Int->Int->Int->Int->Option BZ
def Cs(R3:CB)(t0:ABd)(t1 t8 t9 t10:Int):Option BZ:=
 cond (decide (t9<t10))
  (let x2:Int:=AQ ((IntKind.wrap .u64 (AQ (t9+t10))).fdiv (2^1))
  if(0:Int)<=x2/\x2<(t0.length:Int)then(
  (To ((t0.getD (x2.toNat) (0,0,false,[],())).1,(t0.getD (x2.toNat) (0,0,false,[],())).2.1,(t0.getD (x2.toNat) (0,0,false,[],())).2.2.1,(t0.getD (x2.toNat) (0,0,false,[],())).2.2.2.1,()) t1).bind fun u3=>
  cond (decide (u3.1.1<0))
   (R3 t0 t1 t8 (AQ (x2+1)) t10)
  (R3 t0 t1 t8 t9 x2))else none)
 (cond (decide (t9<t8))
  (if(0:Int)<=t9/\t9<(t0.length:Int)then(
  (To ((t0.getD (t9.toNat) (0,0,false,[],())).1,(t0.getD (t9.toNat) (0,0,false,[],())).2.1,(t0.getD (t9.toNat) (0,0,false,[],())).2.2.1,(t0.getD (t9.toNat) (0,0,false,[],())).2.2.2.1,()) t1).bind fun u4=>
  some (((t9,u4.1.1==0,()),()),()))else none)
 (some (((t9,false,()),()),())))
def Ay:Nat->CB
 |0=>fun _ _ _ _ _=>none
 |n+1=>Cs (Ay n)
def Cr(R3:CB)(p0:ABd)(p1:Int):Option BZ:=
 R3 p0 p1 (p0.length:Int) 0 (p0.length:Int)
def CJ(p0:ABd)(p1:Int):Option BZ:=Cr (Ay AW) p0 p1
abbrev uh:Type:=AFf×Unit
def UK(p0:ABd)(p1:Int):Option uh:=
 (CJ p0 p1).bind fun u1=>
 some (((u1.1.1.1,u1.1.1.2.1,()),()),())
abbrev NV:Type:=AGD×Unit
def GZ(p0:ADA)(p1:Int):Option NV:=
 (FA (p0.1,p0.2.1,p0.2.2.1,())).bind fun u1=>
 cond (!u1.1.1)
  (some ((((0,0,false,[],()),false,()),()),()))
 ((UK p0.1 p1).bind fun u2=>
 cond (!u2.1.1.2.1)
  (some ((((0,0,false,[],()),false,()),()),()))
 (if(0:Int)<=u2.1.1.1/\u2.1.1.1<(p0.1.length:Int)then(
 some (((((p0.1.getD (u2.1.1.1.toNat) (0,0,false,[],())).1,(p0.1.getD (u2.1.1.1.toNat) (0,0,false,[],())).2.1,(p0.1.getD (u2.1.1.1.toNat) (0,0,false,[],())).2.2.1,(p0.1.getD (u2.1.1.1.toNat) (0,0,false,[],())).2.2.2.1,()),true,()),()),()))else none))
abbrev OW:Type:=AB2×Unit
abbrev SR:Type:=AB3->Int->Int->Int->AB3->Option OW
def VC(R2:SR)(t6:AB3)(t7 t8 AK:Int)(AF:AB3):Option OW:=
 cond (decide (t8<t7))
  (if(0:Int)<=t8/\t8<(t6.length:Int)then(
  cond (!((t6.getD (t8.toNat) ([],[],false,())).2.2.1))
   (some ((t8,()),()))
  (R2 t6 t7 (AQ (t8+1)) AK AF))else none)
 (some (((AF.length:Int),()),()))
def J8:Nat->SR
 |0=>fun _ _ _ _ _=>none
 |n+1=>VC (J8 n)
def U4(R2:SR)(p0:AB5):Option OW:=
 R2 p0.2.1 (p0.2.1.length:Int) 0 p0.1 p0.2.1
def Ri(p0:AB5):Option OW:=U4 (J8 AW) p0
abbrev Nq:Type:=AB2×Unit
abbrev Z0:Type:=Int->ABE->Int->Int->Option Nq
def bL(R2:Z0)(t1:Int)(t8:ABE)(t9 t10:Int):Option Nq:=
 cond (decide (t10<t9))
  (if(0:Int)<=t10/\t10<(t8.length:Int)then(
  cond (((t8.getD (t10.toNat) (0,[],())).1)==t1)
   ((Ri ((t8.getD (t10.toNat) (0,[],())).1,(t8.getD (t10.toNat) (0,[],())).2.1,())).bind fun u3=>
   some ((u3.1.1,()),()))
  (R2 t1 t8 t9 (AQ (t10+1))))else none)
 (some ((0,()),()))
def Pu:Nat->Z0
 |0=>fun _ _ _ _=>none
 |n+1=>bL (Pu n)
def bB(R2:Z0)(p0:AB0)(p1:Int):Option Nq:=
 R2 p1 p0.2.2.2.2.2.2.1 (p0.2.2.2.2.2.2.1.length:Int) 0
def Sq(p0:AB0)(p1:Int):Option Nq:=bB (Pu AW) p0 p1
abbrev TQ:Type:=ACL×ADH
abbrev Xk:Type:=AD_->Int->Int->List Int->Option TQ
def Zv(R3:Xk)(t7:AD_)(t8 t9:Int)(b0:AAA):Option TQ:=
 cond (decide (t9<t8))
  (if(0:Int)<=t9/\t9<(t7.length:Int)then(
  if b0.length+1<=CN then(
  R3 t7 t8 (AQ (t9+1)) (b0++[((t7.getD (t9.toNat) (0,false,0,0,false,[],())).1)]))else none)else none)
 (some (((),()),(b0,())))
def NZ:Nat->Xk
 |0=>fun _ _ _ _=>none
 |n+1=>Zv (NZ n)
def Z7(R3:Xk)(p0:AD_):Option TQ:=
 R3 p0 (p0.length:Int) 0 []
def Qa(p0:AD_):Option TQ:=Z7 (NZ AW) p0
abbrev sb:Type:=ABz×Unit
def I_(p0:Int)(p1:ADU):Option sb:=
 (EU p0).bind fun u1=>
 cond ((decide (u1.1.1<p1.1)))
  (some ((true,()),()))
 (cond (u1.1.1==p1.1)
  ((SU p0).bind fun u3=>
  some (((decide (u3.1.1<p1.2.1)),()),()))
 (some ((false,()),())))
abbrev kY:Type:=ACL×AII
def FG(p1:AFL)(AK AF:Int)(b1:ADY):Option kY:=
 if b1.length+1<=CN then(
 some (((()),()),((AK,AF,(),()),(),(b1++[(p1.1,p1.2.1,p1.2.2.1,())]),())))else none
abbrev ae:Type:=ACL×ADH
abbrev eM:Type:=List Int->List Int->Int->Int->List Int->Option ae
def fV(R5:eM)(t2 t22:AAA)(t23 t24:Int)(b0:AAA):Option ae:=
 cond (decide (t24<t23))
  (if(0:Int)<=t24/\t24<(t22.length:Int)then(
  let x3:Int:=(t22.getD (t24.toNat) 0)
  (Bv t2 x3).bind fun u4=>
  cond (!u4.1.1)
   (if b0.length+1<=CN then(
   R5 t2 t22 t23 (AQ (t24+1)) (b0++[x3]))else none)
  (R5 t2 t22 t23 (AQ (t24+1)) b0))else none)
 (some (((),()),(b0,())))
def UF:Nat->eM
 |0=>fun _ _ _ _ _=>none
 |n+1=>fV (UF n)
def fZ(R5:eM)(p0:ABx)(p1 p2:AAA):Option ae:=
 (D2 (p0.1,p0.2.1,()) p1).bind fun u1=>
 cond (!u1.1.1)
  (some (((),()),([],())))
 ((D2 (p0.1,p0.2.1,()) p2).bind fun u2=>
 cond (!u2.1.1)
  (some (((),()),([],())))
 (R5 p2 p1 (p1.length:Int) 0 []))
def jH(p0:ABx)(p1 p2:AAA):Option ae:=fZ (UF AW) p0 p1 p2
abbrev wh:Type:=ABz×Unit
def HC(p0:ABx)(p1 p2:AAA):Option wh:=
 (D2 (p0.1,p0.2.1,()) p2).bind fun u1=>
 cond (!u1.1.1)
  (some ((false,()),()))
 ((Gr (p0.1,p0.2.1,()) p1).bind fun u2=>
 cond (!u2.1.1)
  (some ((false,()),()))
 ((Ny p2 p1).bind fun u3=>
 cond (((u3.2.1.length:Int) !=(p2.length:Int)))
  (some ((false,()),()))
 ((jH (p0.1,p0.2.1,()) p1 p2).bind fun u6=>
 (Gr (p0.1,p0.2.1,()) u6.2.1).bind fun u7=>
 some ((!u7.1.1,()),()))))
abbrev v8:Type:=(AEe×Unit)×Unit
def Sd(p0 p1:AEe):Option v8:=
 cond ((decide (p1.2.1>p0.2.1)))
  (some (((p1.1,p1.2.1,p1.2.2.1,p1.2.2.2.1,()),()),()))
 (some (((p0.1,p0.2.1,p0.2.2.1,p0.2.2.2.1,()),()),()))
abbrev WB:Type:=AGD×Unit
abbrev Zd:Type:=List Int->Int->Bool->AD_->Int->Int->Int->Int->Bool->List UInt8->Int->Int->Bool->List UInt8->Option WB
def bY(R3:Zd)(t1:AAA)(t2:Int)(t9:Bool)(t13:AD_)(t14 t15 AK AF:Int)(AZ:Bool)(BD:ABF)(Bn BL:Int)(CM:Bool)(EG:ABF):Option WB:=
 cond (decide (t15<t14))
  (if(0:Int)<=t15/\t15<(t13.length:Int)then(
  cond (!((t13.getD (t15.toNat) (0,false,0,0,false,[],())).2.1))
   (R3 t1 t2 t9 t13 t14 (AQ (t15+1)) AK AF AZ BD Bn BL CM EG)
  ((Bv t1 ((t13.getD (t15.toNat) (0,false,0,0,false,[],())).1)).bind fun u3=>
  cond (!u3.1.1)
   (R3 t1 t2 t9 t13 t14 (AQ (t15+1)) AK AF AZ BD Bn BL CM EG)
  ((NF ((t13.getD (t15.toNat) (0,false,0,0,false,[],())).2.2.1,(t13.getD (t15.toNat) (0,false,0,0,false,[],())).2.2.2.1,(t13.getD (t15.toNat) (0,false,0,0,false,[],())).2.2.2.2.1,(t13.getD (t15.toNat) (0,false,0,0,false,[],())).2.2.2.2.2.1,())).bind fun u4=>
  cond (!u4.1.1)
   (R3 t1 t2 t9 t13 t14 (AQ (t15+1)) AK AF AZ BD Bn BL CM EG)
  (cond (((t13.getD (t15.toNat) (0,false,0,0,false,[],())).2.2.1) !=t2)
   (R3 t1 t2 t9 t13 t14 (AQ (t15+1)) AK AF AZ BD Bn BL CM EG)
  (cond (!t9)
   ((Sd ((t13.getD (t15.toNat) (0,false,0,0,false,[],())).2.2.1,(t13.getD (t15.toNat) (0,false,0,0,false,[],())).2.2.2.1,(t13.getD (t15.toNat) (0,false,0,0,false,[],())).2.2.2.2.1,(t13.getD (t15.toNat) (0,false,0,0,false,[],())).2.2.2.2.2.1,()) ((t13.getD (t15.toNat) (0,false,0,0,false,[],())).2.2.1,(t13.getD (t15.toNat) (0,false,0,0,false,[],())).2.2.2.1,(t13.getD (t15.toNat) (0,false,0,0,false,[],())).2.2.2.2.1,(t13.getD (t15.toNat) (0,false,0,0,false,[],())).2.2.2.2.2.1,())).bind fun u6=>
   R3 t1 t2 true t13 t14 (AQ (t15+1)) AK AF AZ BD u6.1.1.1 u6.1.1.2.1 u6.1.1.2.2.1 u6.1.1.2.2.2.1)
  ((Sd (Bn,BL,CM,EG,()) ((t13.getD (t15.toNat) (0,false,0,0,false,[],())).2.2.1,(t13.getD (t15.toNat) (0,false,0,0,false,[],())).2.2.2.1,(t13.getD (t15.toNat) (0,false,0,0,false,[],())).2.2.2.2.1,(t13.getD (t15.toNat) (0,false,0,0,false,[],())).2.2.2.2.2.1,())).bind fun u7=>
  R3 t1 t2 true t13 t14 (AQ (t15+1)) AK AF AZ BD u7.1.1.1 u7.1.1.2.1 u7.1.1.2.2.1 u7.1.1.2.2.2.1))))))else none)
 (some ((((Bn,BL,CM,EG,()),t9,()),()),()))
def PW:Nat->Zd
 |0=>fun _ _ _ _ _ _ _ _ _ _ _ _ _ _=>none
 |n+1=>bY (PW n)
def av(R3:Zd)(p0:AD_)(p1:AAA)(p2:Int):Option WB:=
 R3 p1 p2 false p0 (p0.length:Int) 0 0 0 false [] 0 0 false []
def bc(p0:AD_)(p1:AAA)(p2:Int):Option WB:=av (PW AW) p0 p1 p2
abbrev jJ:Type:=ACL×AII
def C4(p1:AD_)(p2:AAA)(AK AF:Int)(b1:ADY):Option jJ:=
 (DR AK AF).bind fun u1=>
 (bc p1 p2 u1.1.1.1).bind fun u2=>
 cond (!u2.1.1.2.1)
  ((FG (3,u1.1.1.1,[],()) AK AF b1).bind fun u3=>
  some (((()),()),((u3.2.1.1,AQ (u3.2.1.2.1+1),(),()),(),u3.2.2.2.1,())))
 (cond (u2.1.1.1.2.2.1)
  ((FG (2,u1.1.1.1,[],()) AK AF b1).bind fun u4=>
  some (((()),()),((u4.2.1.1,AQ (u4.2.1.2.1+1),(),()),(),u4.2.2.2.1,())))
 ((FG (1,u1.1.1.1,u2.1.1.1.2.2.2.1,()) AK AF b1).bind fun u5=>
 some (((()),()),((u5.2.1.1,AQ (u5.2.1.2.1+1),(),()),(),u5.2.2.2.1,()))))
abbrev Kn:Type:=(AIK×Unit)×AF1
def Ka(p0:ABx)(p1:AB4)(p2:Int)(p3:ADU)(p4:AD_):Option Kn:=
 (LL (p0.1,p0.2.1,()) (p1.1,p1.2.1,())).bind fun u1=>
 cond (!u1.1.1)
  (some ((((0,0,(),()),1,()),()),([],())))
 ((WS (p3.1,p3.2.1,p3.2.2.1,())).bind fun u2=>
 cond (!u2.1.1)
  (some ((((0,0,(),()),1,()),()),([],())))
 ((Qa p4).bind fun u3=>
 (D2 (p0.1,p0.2.1,()) u3.2.1).bind fun u4=>
 cond (!u4.1.1)
  (some ((((0,0,(),()),1,()),()),([],())))
 ((NQ (p3.1,p3.2.1,p3.2.2.1,())).bind fun u5=>
 cond ((decide (p3.1>(p1.1.length:Int))))
  (some ((((u5.1.1.1,u5.1.1.2.1,(),()),2,()),()),(u5.2.1,())))
 (cond ((p3.2.2.1.length:Int)==120)
  (some ((((u5.1.1.1,u5.1.1.2.1,(),()),2,()),()),(u5.2.1,())))
 (cond (decide (p1.2.1>0))
  ((I_ p1.2.1 (p3.1,p3.2.1,p3.2.2.1,())).bind fun u8=>
  cond (!u8.1.1)
   ((FG (5,p1.2.1,[],()) u5.1.1.1 u5.1.1.2.1 u5.2.1).bind fun u9=>
   (EU p1.2.1).bind fun Dk=>
   (SU p1.2.1).bind fun Ed=>
   some ((((Dk.1.1,AQ (Ed.1.1+1),(),()),0,()),()),(u9.2.2.2.1,())))
  (if(0:Int)<=AQ (p3.1-1)/\AQ (p3.1-1)<(p1.1.length:Int)then(
  (Qa p4).bind fun Md=>
  (Ny Md.2.1 ((p1.1.getD ((AQ (p3.1-1)).toNat) ([],false,0,())).1)).bind fun Nr=>
  cond (((p1.1.getD ((AQ (p3.1-1)).toNat) ([],false,0,())).2.1))
   (cond ((decide (p3.2.1>((p1.1.getD ((AQ (p3.1-1)).toNat) ([],false,0,())).2.2.1))))
    ((FG (4,AQ (p3.1+1),[],()) u5.1.1.1 u5.1.1.2.1 u5.2.1).bind fun jV=>
    some ((((AQ (p3.1+1),1,(),()),0,()),()),(jV.2.2.2.1,())))
   (cond (!((p1.1.getD ((AQ (p3.1-1)).toNat) ([],false,0,())).2.1))
    (cond (decide (p3.2.1>p2))
     (some ((((u5.1.1.1,u5.1.1.2.1,(),()),2,()),()),(u5.2.1,())))
    (cond (decide (p3.2.1>60))
     (some ((((u5.1.1.1,u5.1.1.2.1,(),()),2,()),()),(u5.2.1,())))
    ((HC (p0.1,p0.2.1,()) ((p1.1.getD ((AQ (p3.1-1)).toNat) ([],false,0,())).1) Nr.2.1).bind fun cj=>
    cond (!cj.1.1)
     (some ((((u5.1.1.1,u5.1.1.2.1,(),()),3,()),()),(u5.2.1,())))
    ((C4 p4 Nr.2.1 u5.1.1.1 u5.1.1.2.1 u5.2.1).bind fun Uj=>
    some ((((Uj.2.1.1,Uj.2.1.2.1,(),()),0,()),()),(Uj.2.2.2.1,()))))))
   (cond (decide (p3.2.1>60))
    (some ((((u5.1.1.1,u5.1.1.2.1,(),()),2,()),()),(u5.2.1,())))
   ((HC (p0.1,p0.2.1,()) ((p1.1.getD ((AQ (p3.1-1)).toNat) ([],false,0,())).1) Nr.2.1).bind fun di=>
   cond (!di.1.1)
    (some ((((u5.1.1.1,u5.1.1.2.1,(),()),3,()),()),(u5.2.1,())))
   ((C4 p4 Nr.2.1 u5.1.1.1 u5.1.1.2.1 u5.2.1).bind fun eE=>
   some ((((eE.2.1.1,eE.2.1.2.1,(),()),0,()),()),(eE.2.2.2.1,())))))))
  (cond (!((p1.1.getD ((AQ (p3.1-1)).toNat) ([],false,0,())).2.1))
   (cond (decide (p3.2.1>p2))
    (some ((((u5.1.1.1,u5.1.1.2.1,(),()),2,()),()),(u5.2.1,())))
   (cond (decide (p3.2.1>60))
    (some ((((u5.1.1.1,u5.1.1.2.1,(),()),2,()),()),(u5.2.1,())))
   ((HC (p0.1,p0.2.1,()) ((p1.1.getD ((AQ (p3.1-1)).toNat) ([],false,0,())).1) Nr.2.1).bind fun aL=>
   cond (!aL.1.1)
    (some ((((u5.1.1.1,u5.1.1.2.1,(),()),3,()),()),(u5.2.1,())))
   ((C4 p4 Nr.2.1 u5.1.1.1 u5.1.1.2.1 u5.2.1).bind fun jZ=>
   some ((((jZ.2.1.1,jZ.2.1.2.1,(),()),0,()),()),(jZ.2.2.2.1,()))))))
  (cond (decide (p3.2.1>60))
   (some ((((u5.1.1.1,u5.1.1.2.1,(),()),2,()),()),(u5.2.1,())))
  ((HC (p0.1,p0.2.1,()) ((p1.1.getD ((AQ (p3.1-1)).toNat) ([],false,0,())).1) Nr.2.1).bind fun sD=>
  cond (!sD.1.1)
   (some ((((u5.1.1.1,u5.1.1.2.1,(),()),3,()),()),(u5.2.1,())))
  ((C4 p4 Nr.2.1 u5.1.1.1 u5.1.1.2.1 u5.2.1).bind fun zf=>
  some ((((zf.2.1.1,zf.2.1.2.1,(),()),0,()),()),(zf.2.2.2.1,())))))))else none))
 (if(0:Int)<=AQ (p3.1-1)/\AQ (p3.1-1)<(p1.1.length:Int)then(
 (Qa p4).bind fun aN=>
 (Ny aN.2.1 ((p1.1.getD ((AQ (p3.1-1)).toNat) ([],false,0,())).1)).bind fun xc=>
 cond (((p1.1.getD ((AQ (p3.1-1)).toNat) ([],false,0,())).2.1))
  (cond ((decide (p3.2.1>((p1.1.getD ((AQ (p3.1-1)).toNat) ([],false,0,())).2.2.1))))
   ((FG (4,AQ (p3.1+1),[],()) u5.1.1.1 u5.1.1.2.1 u5.2.1).bind fun qV=>
   some ((((AQ (p3.1+1),1,(),()),0,()),()),(qV.2.2.2.1,())))
  (cond (!((p1.1.getD ((AQ (p3.1-1)).toNat) ([],false,0,())).2.1))
   (cond (decide (p3.2.1>p2))
    (some ((((u5.1.1.1,u5.1.1.2.1,(),()),2,()),()),(u5.2.1,())))
   (cond (decide (p3.2.1>60))
    (some ((((u5.1.1.1,u5.1.1.2.1,(),()),2,()),()),(u5.2.1,())))
   ((HC (p0.1,p0.2.1,()) ((p1.1.getD ((AQ (p3.1-1)).toNat) ([],false,0,())).1) xc.2.1).bind fun u35=>
   cond (!u35.1.1)
    (some ((((u5.1.1.1,u5.1.1.2.1,(),()),3,()),()),(u5.2.1,())))
   ((C4 p4 xc.2.1 u5.1.1.1 u5.1.1.2.1 u5.2.1).bind fun u36=>
   some ((((u36.2.1.1,u36.2.1.2.1,(),()),0,()),()),(u36.2.2.2.1,()))))))
  (cond (decide (p3.2.1>60))
   (some ((((u5.1.1.1,u5.1.1.2.1,(),()),2,()),()),(u5.2.1,())))
  ((HC (p0.1,p0.2.1,()) ((p1.1.getD ((AQ (p3.1-1)).toNat) ([],false,0,())).1) xc.2.1).bind fun pr=>
  cond (!pr.1.1)
   (some ((((u5.1.1.1,u5.1.1.2.1,(),()),3,()),()),(u5.2.1,())))
  ((C4 p4 xc.2.1 u5.1.1.1 u5.1.1.2.1 u5.2.1).bind fun fT=>
  some ((((fT.2.1.1,fT.2.1.2.1,(),()),0,()),()),(fT.2.2.2.1,())))))))
 (cond (!((p1.1.getD ((AQ (p3.1-1)).toNat) ([],false,0,())).2.1))
  (cond (decide (p3.2.1>p2))
   (some ((((u5.1.1.1,u5.1.1.2.1,(),()),2,()),()),(u5.2.1,())))
  (cond (decide (p3.2.1>60))
   (some ((((u5.1.1.1,u5.1.1.2.1,(),()),2,()),()),(u5.2.1,())))
  ((HC (p0.1,p0.2.1,()) ((p1.1.getD ((AQ (p3.1-1)).toNat) ([],false,0,())).1) xc.2.1).bind fun u40=>
  cond (!u40.1.1)
   (some ((((u5.1.1.1,u5.1.1.2.1,(),()),3,()),()),(u5.2.1,())))
  ((C4 p4 xc.2.1 u5.1.1.1 u5.1.1.2.1 u5.2.1).bind fun u41=>
  some ((((u41.2.1.1,u41.2.1.2.1,(),()),0,()),()),(u41.2.2.2.1,()))))))
 (cond (decide (p3.2.1>60))
  (some ((((u5.1.1.1,u5.1.1.2.1,(),()),2,()),()),(u5.2.1,())))
 ((HC (p0.1,p0.2.1,()) ((p1.1.getD ((AQ (p3.1-1)).toNat) ([],false,0,())).1) xc.2.1).bind fun u42=>
 cond (!u42.1.1)
  (some ((((u5.1.1.1,u5.1.1.2.1,(),()),3,()),()),(u5.2.1,())))
 ((C4 p4 xc.2.1 u5.1.1.1 u5.1.1.2.1 u5.2.1).bind fun u43=>
 some ((((u43.2.1.1,u43.2.1.2.1,(),()),0,()),()),(u43.2.2.2.1,())))))))else none))))))
abbrev Kt:Type:=AB2×AFO
abbrev SM:Type:=Int->Int->Int->Int->Int->Int->Bool->List Int->AAd->List Int->AAf->ABE->ABI->AAs->AA8->Int->Int->ADY->AD_->List Int->Option Kt
def OG(R7:SM)(t1 t8 t44 t45 AF AO:Int)(AH:Bool)(b1:AAA)(b2:AAd)(b3:AAA)(b4:AAf)(b5:ABE)(b6:ABI)(b7:AAs)(b8:AA8)(lf E7:Int)(gz:ADY)(PX:AD_)(Hh:AAA):Option Kt:=
 cond (decide (t45<t44))
  (if(0:Int)<=t45/\t45<(Hh.length:Int)then(
  let x8:Int:=(Hh.getD (t45.toNat) 0)
  cond ((decide (x8<(b2.length:Int))))
   ((C7 (b1,AF,b2,b3,b4,AO,b5,b6,b7,b8,AH,()) x8).bind fun Dk=>
   cond (!Dk.1.1)
    (if(0:Int)<=x8/\x8<(b2.length:Int)then(
    (GZ ((b2.getD (x8.toNat) ([],[],0,())).1,(b2.getD (x8.toNat) ([],[],0,())).2.1,(b2.getD (x8.toNat) ([],[],0,())).2.2.1,()) t8).bind fun Ed=>
    if PX.length+1<=CN then(
    R7 t1 t8 t44 (AQ (t45+1)) AF AO AH b1 b2 b3 b4 b5 b6 b7 b8 lf E7 gz (PX++[(x8,Ed.1.1.2.1,Ed.1.1.1.1,Ed.1.1.1.2.1,Ed.1.1.1.2.2.1,Ed.1.1.1.2.2.2.1,())]) Hh)else none)else none)
   (R7 t1 t8 t44 (AQ (t45+1)) AF AO AH b1 b2 b3 b4 b5 b6 b7 b8 lf E7 gz PX Hh))
  (R7 t1 t8 t44 (AQ (t45+1)) AF AO AH b1 b2 b3 b4 b5 b6 b7 b8 lf E7 gz PX Hh))else none)
 ((Sq (b1,AF,b2,b3,b4,AO,b5,b6,b7,b8,AH,()) lf).bind fun Nr=>
 (Ka (b1,AF,()) (b4,AO,()) Nr.1.1 (lf,E7,gz,()) PX).bind fun Mc=>
 cond (Mc.1.1.2.1 !=0)
  (some ((5,()),(((),AF,(),(),(),AO,(),(),(),(),AH,()),b1,b2,b3,b4,b5,b6,b7,b8,())))
 (if(0:Int)<=t1/\t1<(b7.length:Int)then(
 some ((0,()),(((),AF,(),(),(),AO,(),(),(),(),AH,()),b1,b2,b3,b4,b5,b6,(b7.set (t1.toNat) (Mc.1.1.1.1,Mc.1.1.1.2.1,Mc.2.1,())),b8,())))else none))
def C9:Nat->SM
 |0=>fun _ _ _ _ _ _ _ _ _ _ _ _ _ _ _ _ _ _ _ _=>none
 |n+1=>OG (C9 n)
def N3(R7:SM)(p1 p2 AF AO:Int)(AH:Bool)(b1:AAA)(b2:AAd)(b3:AAA)(b4:AAf)(b5:ABE)(b6:ABI)(b7:AAs)(b8:AA8):Option Kt:=
 (A_ p1 0 (AQ ((b7.length:Int)-1))).bind fun u2=>
 cond (!u2.1.1)
  (some ((2,()),(((),AF,(),(),(),AO,(),(),(),(),AH,()),b1,b2,b3,b4,b5,b6,b7,b8,())))
 (if(0:Int)<=p1/\p1<(b7.length:Int)then(
 (DR ((b7.getD (p1.toNat) (0,0,[],())).1) ((b7.getD (p1.toNat) (0,0,[],())).2.1)).bind fun u5=>
 (IB p2).bind fun u6=>
 R7 p1 u5.1.1.1 (u6.2.1.length:Int) 0 AF AO AH b1 b2 b3 b4 b5 b6 b7 b8 ((b7.getD (p1.toNat) (0,0,[],())).1) ((b7.getD (p1.toNat) (0,0,[],())).2.1) ((b7.getD (p1.toNat) (0,0,[],())).2.2.1) [] u6.2.1)else none)
def NU(p1 p2 AF AO:Int)(AH:Bool)(b1:AAA)(b2:AAd)(b3:AAA)(b4:AAf)(b5:ABE)(b6:ABI)(b7:AAs)(b8:AA8):Option Kt:=N3 (C9 AW) p1 p2 AF AO AH b1 b2 b3 b4 b5 b6 b7 b8
abbrev rT:Type:=ABz×Unit
def WE(p0:AFL):Option rT:=
 cond (p0.1==1)
  (some ((true,()),()))
 (cond (p0.1==2)
  (some ((true,()),()))
 (some ((p0.1==3,()),())))
abbrev IQ:Type:=ABz×Unit
abbrev NB:Type:=AAs->Int->Int->List Int->Int->AAd->List Int->AAf->Int->ABE->ABI->AAs->AA8->Bool->Option IQ
abbrev M6:Type:=Int->Bool->AAs->Int->Int->ADY->Int->Int->List Int->Int->AAd->List Int->AAf->Int->ABE->ABI->AAs->AA8->Bool->Option IQ
def OB(R2:NB)(R6:M6)(t10:AAs)(t11 t12:Int)(AK:AAA)(AF:Int)(AZ:AAd)(BD:AAA)(BI:AAf)(AO:Int)(Bl:ABE)(Bk:ABI)(BN:AAs)(Bo:AA8)(AH:Bool):Option IQ:=
 cond (decide (t12<t11))
  (if(0:Int)<=t12/\t12<(t10.length:Int)then(
  R6 0 false t10 t11 t12 ((t10.getD (t12.toNat) (0,0,[],())).2.2.1) (((t10.getD (t12.toNat) (0,0,[],())).2.2.1).length:Int) 0 AK AF AZ BD BI AO Bl Bk BN Bo AH)else none)
 ((Cz (AK,AF,AZ,BD,BI,AO,Bl,Bk,BN,Bo,AH,())).bind fun u3=>
 some ((u3.1.1,()),()))
def U3(R2:NB)(R6:M6)(t5:Int)(t6:Bool)(t10:AAs)(t11 t12:Int)(t17:ADY)(t18 t19:Int)(AK:AAA)(AF:Int)(AZ:AAd)(BD:AAA)(BI:AAf)(AO:Int)(Bl:ABE)(Bk:ABI)(BN:AAs)(Bo:AA8)(AH:Bool):Option IQ:=
 cond (decide (t19<t18))
  (if(0:Int)<=t19/\t19<(t17.length:Int)then(
  (WE ((t17.getD (t19.toNat) (0,0,[],())).1,(t17.getD (t19.toNat) (0,0,[],())).2.1,(t17.getD (t19.toNat) (0,0,[],())).2.2.1,())).bind fun u4=>
  cond (!u4.1.1)
   (R6 t5 t6 t10 t11 t12 t17 t18 (AQ (t19+1)) AK AF AZ BD BI AO Bl Bk BN Bo AH)
  (cond (t6)
   (cond (decide (((t17.getD (t19.toNat) (0,0,[],())).2.1)<=t5))
    (some ((false,()),()))
   (R6 ((t17.getD (t19.toNat) (0,0,[],())).2.1) true t10 t11 t12 t17 t18 (AQ (t19+1)) AK AF AZ BD BI AO Bl Bk BN Bo AH))
  (R6 ((t17.getD (t19.toNat) (0,0,[],())).2.1) true t10 t11 t12 t17 t18 (AQ (t19+1)) AK AF AZ BD BI AO Bl Bk BN Bo AH)))else none)
 (R2 t10 t11 (AQ (t12+1)) AK AF AZ BD BI AO Bl Bk BN Bo AH)
mutual
def Ej:Nat->NB
 |0=>fun _ _ _ _ _ _ _ _ _ _ _ _ _ _=>none
 |n+1=>OB (Ej n) (HW n)
def HW:Nat->M6
 |0=>fun _ _ _ _ _ _ _ _ _ _ _ _ _ _ _ _ _ _ _=>none
 |n+1=>U3 (Ej n) (HW n)
end
def Ut(R2:NB)(R6:M6)(p0:AB0):Option IQ:=
 R2 p0.2.2.2.2.2.2.2.2.1 (p0.2.2.2.2.2.2.2.2.1.length:Int) 0 p0.1 p0.2.1 p0.2.2.1 p0.2.2.2.1 p0.2.2.2.2.1 p0.2.2.2.2.2.1 p0.2.2.2.2.2.2.1 p0.2.2.2.2.2.2.2.1 p0.2.2.2.2.2.2.2.2.1 p0.2.2.2.2.2.2.2.2.2.1 p0.2.2.2.2.2.2.2.2.2.2.1
def RT(p0:AB0):Option IQ:=Ut (Ej AW) (HW AW) p0
abbrev V3:Type:=AF_×Unit
abbrev ZU:Type:=Int->AA8->Int->Int->Option V3
def au(R2:ZU)(t1:Int)(t9:AA8)(t10 t11:Int):Option V3:=
 cond (decide (t11<t10))
  (if(0:Int)<=t11/\t11<(t9.length:Int)then(
  cond (((t9.getD (t11.toNat) (0,[],false,())).1)==t1)
   (some (((((t9.getD (t11.toNat) (0,[],false,())).2.1),true,()),()),()))
  (R2 t1 t9 t10 (AQ (t11+1))))else none)
 (some ((([],false,()),()),()))
def Pe:Nat->ZU
 |0=>fun _ _ _ _=>none
 |n+1=>au (Pe n)
def ax(R2:ZU)(p0:AB0)(p1:Int):Option V3:=
 R2 p1 p0.2.2.2.2.2.2.2.2.2.1 (p0.2.2.2.2.2.2.2.2.2.1.length:Int) 0
def ai(p0:AB0)(p1:Int):Option V3:=ax (Pe AW) p0 p1
abbrev JZ:Type:=ABz×Unit
abbrev OI:Type:=AAs->Int->Int->List Int->Int->AAd->List Int->AAf->Int->ABE->ABI->AAs->AA8->Bool->Option JZ
abbrev OO:Type:=AAs->Int->Int->ADY->Int->Int->List Int->Int->AAd->List Int->AAf->Int->ABE->ABI->AAs->AA8->Bool->Option JZ
def Px(R2:OI)(R5:OO)(t10:AAs)(t11 t12:Int)(AK:AAA)(AF:Int)(AZ:AAd)(BD:AAA)(BI:AAf)(AO:Int)(Bl:ABE)(Bk:ABI)(BN:AAs)(Bo:AA8)(AH:Bool):Option JZ:=
 cond (decide (t12<t11))
  (if(0:Int)<=t12/\t12<(t10.length:Int)then(
  R5 t10 t11 t12 ((t10.getD (t12.toNat) (0,0,[],())).2.2.1) (((t10.getD (t12.toNat) (0,0,[],())).2.2.1).length:Int) 0 AK AF AZ BD BI AO Bl Bk BN Bo AH)else none)
 ((Cz (AK,AF,AZ,BD,BI,AO,Bl,Bk,BN,Bo,AH,())).bind fun u3=>
 some ((u3.1.1,()),()))
def Pq(R2:OI)(R5:OO)(t10:AAs)(t11 t12:Int)(t17:ADY)(t18 t19:Int)(AK:AAA)(AF:Int)(AZ:AAd)(BD:AAA)(BI:AAf)(AO:Int)(Bl:ABE)(Bk:ABI)(BN:AAs)(Bo:AA8)(AH:Bool):Option JZ:=
 cond (decide (t19<t18))
  (if(0:Int)<=t19/\t19<(t17.length:Int)then(
  (ai (AK,AF,AZ,BD,BI,AO,Bl,Bk,BN,Bo,AH,()) ((t17.getD (t19.toNat) (0,0,[],())).2.1)).bind fun u5=>
  cond (((t17.getD (t19.toNat) (0,0,[],())).1)==1)
   (cond (!u5.1.1.2.1)
    (some ((false,()),()))
   (cond (!(u5.1.1.1==((t17.getD (t19.toNat) (0,0,[],())).2.2.1)))
    (some ((false,()),()))
   (R5 t10 t11 t12 t17 t18 (AQ (t19+1)) AK AF AZ BD BI AO Bl Bk BN Bo AH)))
  (R5 t10 t11 t12 t17 t18 (AQ (t19+1)) AK AF AZ BD BI AO Bl Bk BN Bo AH))else none)
 (R2 t10 t11 (AQ (t12+1)) AK AF AZ BD BI AO Bl Bk BN Bo AH)
mutual
def FY:Nat->OI
 |0=>fun _ _ _ _ _ _ _ _ _ _ _ _ _ _=>none
 |n+1=>Px (FY n) (Gg n)
def Gg:Nat->OO
 |0=>fun _ _ _ _ _ _ _ _ _ _ _ _ _ _ _ _ _=>none
 |n+1=>Pq (FY n) (Gg n)
end
def W3(R2:OI)(R5:OO)(p0:AB0):Option JZ:=
 R2 p0.2.2.2.2.2.2.2.2.1 (p0.2.2.2.2.2.2.2.2.1.length:Int) 0 p0.1 p0.2.1 p0.2.2.1 p0.2.2.2.1 p0.2.2.2.2.1 p0.2.2.2.2.2.1 p0.2.2.2.2.2.2.1 p0.2.2.2.2.2.2.2.1 p0.2.2.2.2.2.2.2.2.1 p0.2.2.2.2.2.2.2.2.2.1 p0.2.2.2.2.2.2.2.2.2.2.1
def TB(p0:AB0):Option JZ:=W3 (FY AW) (Gg AW) p0
abbrev ak:Type:=AF_×Unit
abbrev fQ:Type:=Int->ADY->Int->Int->Option ak
def fx(R2:fQ)(t1:Int)(t9:ADY)(t10 t11:Int):Option ak:=
 cond (decide (t11<t10))
  (if(0:Int)<=t11/\t11<(t9.length:Int)then(
  cond (((t9.getD (t11.toNat) (0,0,[],())).1)==1)
   (cond (((t9.getD (t11.toNat) (0,0,[],())).2.1)==t1)
    (some (((((t9.getD (t11.toNat) (0,0,[],())).2.2.1),true,()),()),()))
   (R2 t1 t9 t10 (AQ (t11+1))))
  (R2 t1 t9 t10 (AQ (t11+1))))else none)
 (some ((([],false,()),()),()))
def T5:Nat->fQ
 |0=>fun _ _ _ _=>none
 |n+1=>fx (T5 n)
def gB(R2:fQ)(p0:ADU)(p1:Int):Option ak:=
 R2 p1 p0.2.2.1 (p0.2.2.1.length:Int) 0
def Vk(p0:ADU)(p1:Int):Option ak:=gB (T5 AW) p0 p1
abbrev JS:Type:=ABz×Unit
abbrev OZ:Type:=AAs->Int->Int->List Int->Int->AAd->List Int->AAf->Int->ABE->ABI->AAs->AA8->Bool->Option JS
abbrev OV:Type:=AAs->Int->Int->AA8->Int->Int->List Int->Int->AAd->List Int->AAf->Int->ABE->ABI->AAs->AA8->Bool->Int->Int->ADY->Option JS
def O4(R4:OZ)(R7:OV)(t19:AAs)(t20 t21:Int)(AK:AAA)(AF:Int)(AZ:AAd)(BD:AAA)(BI:AAf)(AO:Int)(Bl:ABE)(Bk:ABI)(BN:AAs)(Bo:AA8)(AH:Bool):Option JS:=
 cond (decide (t21<t20))
  (if(0:Int)<=t21/\t21<(t19.length:Int)then(
  R7 t19 t20 t21 Bo (Bo.length:Int) 0 AK AF AZ BD BI AO Bl Bk BN Bo AH ((t19.getD (t21.toNat) (0,0,[],())).1) ((t19.getD (t21.toNat) (0,0,[],())).2.1) ((t19.getD (t21.toNat) (0,0,[],())).2.2.1))else none)
 (some ((true,()),()))
def PC(R4:OZ)(R7:OV)(t19:AAs)(t20 t21:Int)(t26:AA8)(t27 t28:Int)(AK:AAA)(AF:Int)(AZ:AAd)(BD:AAA)(BI:AAf)(AO:Int)(Bl:ABE)(Bk:ABI)(BN:AAs)(Bo:AA8)(AH:Bool)(Bn BL:Int)(CM:ADY):Option JS:=
 cond (decide (t28<t27))
  (if(0:Int)<=t28/\t28<(t26.length:Int)then(
  (Vk (Bn,BL,CM,()) ((t26.getD (t28.toNat) (0,[],false,())).1)).bind fun u7=>
  cond (((t26.getD (t28.toNat) (0,[],false,())).2.2.1))
   (cond (decide (((t26.getD (t28.toNat) (0,[],false,())).1)>AO))
    ((I_ ((t26.getD (t28.toNat) (0,[],false,())).1) (Bn,BL,CM,())).bind fun Ed=>
    cond (Ed.1.1)
     (cond (!u7.1.1.2.1)
      (some ((false,()),()))
     (R7 t19 t20 t21 t26 t27 (AQ (t28+1)) AK AF AZ BD BI AO Bl Bk BN Bo AH Bn BL CM))
    (R7 t19 t20 t21 t26 t27 (AQ (t28+1)) AK AF AZ BD BI AO Bl Bk BN Bo AH Bn BL CM))
   (R7 t19 t20 t21 t26 t27 (AQ (t28+1)) AK AF AZ BD BI AO Bl Bk BN Bo AH Bn BL CM))
  (R7 t19 t20 t21 t26 t27 (AQ (t28+1)) AK AF AZ BD BI AO Bl Bk BN Bo AH Bn BL CM))else none)
 (R4 t19 t20 (AQ (t21+1)) AK AF AZ BD BI AO Bl Bk BN Bo AH)
mutual
def FQ:Nat->OZ
 |0=>fun _ _ _ _ _ _ _ _ _ _ _ _ _ _=>none
 |n+1=>O4 (FQ n) (Gi n)
def Gi:Nat->OV
 |0=>fun _ _ _ _ _ _ _ _ _ _ _ _ _ _ _ _ _ _ _ _=>none
 |n+1=>PC (FQ n) (Gi n)
end
def WZ(R4:OZ)(R7:OV)(p0:AB0):Option JS:=
 (Cz (p0.1,p0.2.1,p0.2.2.1,p0.2.2.2.1,p0.2.2.2.2.1,p0.2.2.2.2.2.1,p0.2.2.2.2.2.2.1,p0.2.2.2.2.2.2.2.1,p0.2.2.2.2.2.2.2.2.1,p0.2.2.2.2.2.2.2.2.2.1,p0.2.2.2.2.2.2.2.2.2.2.1,())).bind fun u1=>
 cond (!u1.1.1)
  ((Cz (p0.1,p0.2.1,p0.2.2.1,p0.2.2.2.1,p0.2.2.2.2.1,p0.2.2.2.2.2.1,p0.2.2.2.2.2.2.1,p0.2.2.2.2.2.2.2.1,p0.2.2.2.2.2.2.2.2.1,p0.2.2.2.2.2.2.2.2.2.1,p0.2.2.2.2.2.2.2.2.2.2.1,())).bind fun u2=>
  some ((u2.1.1,()),()))
 (cond (p0.2.2.2.2.2.2.2.2.2.2.1)
  ((Cz (p0.1,p0.2.1,p0.2.2.1,p0.2.2.2.1,p0.2.2.2.2.1,p0.2.2.2.2.2.1,p0.2.2.2.2.2.2.1,p0.2.2.2.2.2.2.2.1,p0.2.2.2.2.2.2.2.2.1,p0.2.2.2.2.2.2.2.2.2.1,p0.2.2.2.2.2.2.2.2.2.2.1,())).bind fun u4=>
  some ((u4.1.1,()),()))
 (R4 p0.2.2.2.2.2.2.2.2.1 (p0.2.2.2.2.2.2.2.2.1.length:Int) 0 p0.1 p0.2.1 p0.2.2.1 p0.2.2.2.1 p0.2.2.2.2.1 p0.2.2.2.2.2.1 p0.2.2.2.2.2.2.1 p0.2.2.2.2.2.2.2.1 p0.2.2.2.2.2.2.2.2.1 p0.2.2.2.2.2.2.2.2.2.1 p0.2.2.2.2.2.2.2.2.2.2.1))
def Tf(p0:AB0):Option JS:=WZ (FQ AW) (Gi AW) p0
abbrev IK:Type:=ABz×Unit
abbrev NG:Type:=AAs->Int->Int->Option IK
abbrev NA:Type:=AAs->Int->Int->ADY->Int->Int->Option IK
def N8(R4:NG)(R7:NA)(t17:AAs)(t18 t19:Int):Option IK:=
 cond (decide (t19<t18))
  (if(0:Int)<=t19/\t19<(t17.length:Int)then(
  R7 t17 t18 t19 ((t17.getD (t19.toNat) (0,0,[],())).2.2.1) (((t17.getD (t19.toNat) (0,0,[],())).2.2.1).length:Int) 0)else none)
 (some ((true,()),()))
def N4(R4:NG)(R7:NA)(t17:AAs)(t18 t19:Int)(t24:ADY)(t25 t26:Int):Option IK:=
 cond (decide (t26<t25))
  (if(0:Int)<=t26/\t26<(t24.length:Int)then(
  cond (((t24.getD (t26.toNat) (0,0,[],())).1)==3)
   (some ((false,()),()))
  (R7 t17 t18 t19 t24 t25 (AQ (t26+1))))else none)
 (R4 t17 t18 (AQ (t19+1)))
mutual
def DZ:Nat->NG
 |0=>fun _ _ _=>none
 |n+1=>N8 (DZ n) (F5 n)
def F5:Nat->NA
 |0=>fun _ _ _ _ _ _=>none
 |n+1=>N4 (DZ n) (F5 n)
end
def Uo(R4:NG)(R7:NA)(p0:AB0):Option IK:=
 (Cz (p0.1,p0.2.1,p0.2.2.1,p0.2.2.2.1,p0.2.2.2.2.1,p0.2.2.2.2.2.1,p0.2.2.2.2.2.2.1,p0.2.2.2.2.2.2.2.1,p0.2.2.2.2.2.2.2.2.1,p0.2.2.2.2.2.2.2.2.2.1,p0.2.2.2.2.2.2.2.2.2.2.1,())).bind fun u1=>
 cond (!u1.1.1)
  ((Cz (p0.1,p0.2.1,p0.2.2.1,p0.2.2.2.1,p0.2.2.2.2.1,p0.2.2.2.2.2.1,p0.2.2.2.2.2.2.1,p0.2.2.2.2.2.2.2.1,p0.2.2.2.2.2.2.2.2.1,p0.2.2.2.2.2.2.2.2.2.1,p0.2.2.2.2.2.2.2.2.2.2.1,())).bind fun u2=>
  some ((u2.1.1,()),()))
 (cond (p0.2.2.2.2.2.2.2.2.2.2.1)
  ((Cz (p0.1,p0.2.1,p0.2.2.1,p0.2.2.2.1,p0.2.2.2.2.1,p0.2.2.2.2.2.1,p0.2.2.2.2.2.2.1,p0.2.2.2.2.2.2.2.1,p0.2.2.2.2.2.2.2.2.1,p0.2.2.2.2.2.2.2.2.2.1,p0.2.2.2.2.2.2.2.2.2.2.1,())).bind fun u4=>
  some ((u4.1.1,()),()))
 (R4 p0.2.2.2.2.2.2.2.2.1 (p0.2.2.2.2.2.2.2.2.1.length:Int) 0))
def RZ(p0:AB0):Option IK:=Uo (DZ AW) (F5 AW) p0
abbrev JR:Type:=ABz×Unit
abbrev On:Type:=AAs->Int->Int->List Int->Int->AAd->List Int->AAf->Int->ABE->ABI->AAs->AA8->Bool->Option JR
abbrev Oc:Type:=AAs->Int->Int->ADY->Int->Int->List Int->Int->AAd->List Int->AAf->Int->ABE->ABI->AAs->AA8->Bool->Option JR
def O6(R4:On)(R7:Oc)(t22:AAs)(t23 t24:Int)(AK:AAA)(AF:Int)(AZ:AAd)(BD:AAA)(BI:AAf)(AO:Int)(Bl:ABE)(Bk:ABI)(BN:AAs)(Bo:AA8)(AH:Bool):Option JR:=
 cond (decide (t24<t23))
  (if(0:Int)<=t24/\t24<(t22.length:Int)then(
  R7 t22 t23 t24 ((t22.getD (t24.toNat) (0,0,[],())).2.2.1) (((t22.getD (t24.toNat) (0,0,[],())).2.2.1).length:Int) 0 AK AF AZ BD BI AO Bl Bk BN Bo AH)else none)
 (some ((true,()),()))
def PI(R4:On)(R7:Oc)(t22:AAs)(t23 t24:Int)(t29:ADY)(t30 t31:Int)(AK:AAA)(AF:Int)(AZ:AAd)(BD:AAA)(BI:AAf)(AO:Int)(Bl:ABE)(Bk:ABI)(BN:AAs)(Bo:AA8)(AH:Bool):Option JR:=
 cond (decide (t31<t30))
  (if(0:Int)<=t31/\t31<(t29.length:Int)then(
  (DB ((t29.getD (t31.toNat) (0,0,[],())).2.1)).bind fun u8=>
  cond (u8.1.1)
   (if(0:Int)<=(0:Int)/\(0:Int)<(BN.length:Int)then(
   (I_ ((t29.getD (t31.toNat) (0,0,[],())).2.1) ((BN.getD 0 (0,0,[],())).1,(BN.getD 0 (0,0,[],())).2.1,(BN.getD 0 (0,0,[],())).2.2.1,())).bind fun Dk=>
   cond (Dk.1.1)
    (if(0:Int)<=(1:Int)/\(1:Int)<(BN.length:Int)then(
    (I_ ((t29.getD (t31.toNat) (0,0,[],())).2.1) ((BN.getD 1 (0,0,[],())).1,(BN.getD 1 (0,0,[],())).2.1,(BN.getD 1 (0,0,[],())).2.2.1,())).bind fun Md=>
    cond (((t29.getD (t31.toNat) (0,0,[],())).1) !=1)
     (R7 t22 t23 t24 t29 t30 (AQ (t31+1)) AK AF AZ BD BI AO Bl Bk BN Bo AH)
    (cond (decide (((t29.getD (t31.toNat) (0,0,[],())).2.1)<=AO))
     (R7 t22 t23 t24 t29 t30 (AQ (t31+1)) AK AF AZ BD BI AO Bl Bk BN Bo AH)
    (cond (!Md.1.1)
     (R7 t22 t23 t24 t29 t30 (AQ (t31+1)) AK AF AZ BD BI AO Bl Bk BN Bo AH)
    (if(0:Int)<=(0:Int)/\(0:Int)<(BN.length:Int)then(
    (Vk ((BN.getD 0 (0,0,[],())).1,(BN.getD 0 (0,0,[],())).2.1,(BN.getD 0 (0,0,[],())).2.2.1,()) ((t29.getD (t31.toNat) (0,0,[],())).2.1)).bind fun u16=>
    if(0:Int)<=(1:Int)/\(1:Int)<(BN.length:Int)then(
    (Vk ((BN.getD 1 (0,0,[],())).1,(BN.getD 1 (0,0,[],())).2.1,(BN.getD 1 (0,0,[],())).2.2.1,()) ((t29.getD (t31.toNat) (0,0,[],())).2.1)).bind fun cf=>
    cond ((u16.1.1.2.1 !=cf.1.1.2.1))
     (some ((false,()),()))
    (cond ((!(u16.1.1.1==cf.1.1.1)))
     (some ((false,()),()))
    (R7 t22 t23 t24 t29 t30 (AQ (t31+1)) AK AF AZ BD BI AO Bl Bk BN Bo AH)))else none)else none))))else none)
   (cond (((t29.getD (t31.toNat) (0,0,[],())).1) !=1)
    (R7 t22 t23 t24 t29 t30 (AQ (t31+1)) AK AF AZ BD BI AO Bl Bk BN Bo AH)
   (cond (decide (((t29.getD (t31.toNat) (0,0,[],())).2.1)<=AO))
    (R7 t22 t23 t24 t29 t30 (AQ (t31+1)) AK AF AZ BD BI AO Bl Bk BN Bo AH)
   (R7 t22 t23 t24 t29 t30 (AQ (t31+1)) AK AF AZ BD BI AO Bl Bk BN Bo AH))))else none)
  (cond (((t29.getD (t31.toNat) (0,0,[],())).1) !=1)
   (R7 t22 t23 t24 t29 t30 (AQ (t31+1)) AK AF AZ BD BI AO Bl Bk BN Bo AH)
  (cond (decide (((t29.getD (t31.toNat) (0,0,[],())).2.1)<=AO))
   (R7 t22 t23 t24 t29 t30 (AQ (t31+1)) AK AF AZ BD BI AO Bl Bk BN Bo AH)
  (R7 t22 t23 t24 t29 t30 (AQ (t31+1)) AK AF AZ BD BI AO Bl Bk BN Bo AH))))else none)
 (R4 t22 t23 (AQ (t24+1)) AK AF AZ BD BI AO Bl Bk BN Bo AH)
mutual
def FW:Nat->On
 |0=>fun _ _ _ _ _ _ _ _ _ _ _ _ _ _=>none
 |n+1=>O6 (FW n) (Gu n)
def Gu:Nat->Oc
 |0=>fun _ _ _ _ _ _ _ _ _ _ _ _ _ _ _ _ _=>none
 |n+1=>PI (FW n) (Gu n)
end
def Wj(R4:On)(R7:Oc)(p0:AB0):Option JR:=
 (Cz (p0.1,p0.2.1,p0.2.2.1,p0.2.2.2.1,p0.2.2.2.2.1,p0.2.2.2.2.2.1,p0.2.2.2.2.2.2.1,p0.2.2.2.2.2.2.2.1,p0.2.2.2.2.2.2.2.2.1,p0.2.2.2.2.2.2.2.2.2.1,p0.2.2.2.2.2.2.2.2.2.2.1,())).bind fun u1=>
 cond (!u1.1.1)
  ((Cz (p0.1,p0.2.1,p0.2.2.1,p0.2.2.2.1,p0.2.2.2.2.1,p0.2.2.2.2.2.1,p0.2.2.2.2.2.2.1,p0.2.2.2.2.2.2.2.1,p0.2.2.2.2.2.2.2.2.1,p0.2.2.2.2.2.2.2.2.2.1,p0.2.2.2.2.2.2.2.2.2.2.1,())).bind fun u2=>
  some ((u2.1.1,()),()))
 (cond (p0.2.2.2.2.2.2.2.2.2.2.1)
  ((Cz (p0.1,p0.2.1,p0.2.2.1,p0.2.2.2.1,p0.2.2.2.2.1,p0.2.2.2.2.2.1,p0.2.2.2.2.2.2.1,p0.2.2.2.2.2.2.2.1,p0.2.2.2.2.2.2.2.2.1,p0.2.2.2.2.2.2.2.2.2.1,p0.2.2.2.2.2.2.2.2.2.2.1,())).bind fun u4=>
  some ((u4.1.1,()),()))
 (R4 p0.2.2.2.2.2.2.2.2.1 (p0.2.2.2.2.2.2.2.2.1.length:Int) 0 p0.1 p0.2.1 p0.2.2.1 p0.2.2.2.1 p0.2.2.2.2.1 p0.2.2.2.2.2.1 p0.2.2.2.2.2.2.1 p0.2.2.2.2.2.2.2.1 p0.2.2.2.2.2.2.2.2.1 p0.2.2.2.2.2.2.2.2.2.1 p0.2.2.2.2.2.2.2.2.2.2.1))
def T4(p0:AB0):Option JR:=Wj (FW AW) (Gu AW) p0
abbrev rk:Type:=ABz×Unit
def V6(p0:AB0):Option rk:=
 (RT (p0.1,p0.2.1,p0.2.2.1,p0.2.2.2.1,p0.2.2.2.2.1,p0.2.2.2.2.2.1,p0.2.2.2.2.2.2.1,p0.2.2.2.2.2.2.2.1,p0.2.2.2.2.2.2.2.2.1,p0.2.2.2.2.2.2.2.2.2.1,p0.2.2.2.2.2.2.2.2.2.2.1,())).bind fun u1=>
 cond (u1.1.1)
  ((TB (p0.1,p0.2.1,p0.2.2.1,p0.2.2.2.1,p0.2.2.2.2.1,p0.2.2.2.2.2.1,p0.2.2.2.2.2.2.1,p0.2.2.2.2.2.2.2.1,p0.2.2.2.2.2.2.2.2.1,p0.2.2.2.2.2.2.2.2.2.1,p0.2.2.2.2.2.2.2.2.2.2.1,())).bind fun u2=>
  cond (u2.1.1)
   ((Tf (p0.1,p0.2.1,p0.2.2.1,p0.2.2.2.1,p0.2.2.2.2.1,p0.2.2.2.2.2.1,p0.2.2.2.2.2.2.1,p0.2.2.2.2.2.2.2.1,p0.2.2.2.2.2.2.2.2.1,p0.2.2.2.2.2.2.2.2.2.1,p0.2.2.2.2.2.2.2.2.2.2.1,())).bind fun u3=>
   cond (u3.1.1)
    ((RZ (p0.1,p0.2.1,p0.2.2.1,p0.2.2.2.1,p0.2.2.2.2.1,p0.2.2.2.2.2.1,p0.2.2.2.2.2.2.1,p0.2.2.2.2.2.2.2.1,p0.2.2.2.2.2.2.2.2.1,p0.2.2.2.2.2.2.2.2.2.1,p0.2.2.2.2.2.2.2.2.2.2.1,())).bind fun u4=>
    cond (u4.1.1)
     ((T4 (p0.1,p0.2.1,p0.2.2.1,p0.2.2.2.1,p0.2.2.2.2.1,p0.2.2.2.2.2.1,p0.2.2.2.2.2.2.1,p0.2.2.2.2.2.2.2.1,p0.2.2.2.2.2.2.2.2.1,p0.2.2.2.2.2.2.2.2.2.1,p0.2.2.2.2.2.2.2.2.2.2.1,())).bind fun u5=>
     some ((u5.1.1,()),()))
    (some ((false,()),())))
   (some ((false,()),())))
  (some ((false,()),())))
 (some ((false,()),()))
abbrev v_:Type:=AB2×Unit
def Sv(p0:AAA)(p1 p2:Int):Option v_:=
 let x1:Int:=AQ ((p0.length:Int).tdiv 4)
 cond ((decide ((AQ (p1+x1))>p2)))
  (some ((p2,()),()))
 (some ((AQ (p1+x1),()),()))
abbrev Yd:Type:=ABz×Unit
abbrev cS:Type:=List Int->Int->Int->Int->Option Yd
def VT(R2:cS)(t0:AAA)(t1 t2 t7:Int):Option Yd:=
 cond ((decide (t7<(t0.length:Int))))
  (if(0:Int)<=t7/\t7<(t0.length:Int)then(
  (CF (t0.getD (t7.toNat) 0) t1 t2).bind fun u3=>
  cond (!u3.1.1)
   (some ((false,()),()))
  (cond (decide (t7>0))
   (if(0:Int)<=AQ (t7-1)/\AQ (t7-1)<(t0.length:Int)then(
   if(0:Int)<=t7/\t7<(t0.length:Int)then(
   cond (decide ((t0.getD ((AQ (t7-1)).toNat) 0)>=(t0.getD (t7.toNat) 0)))
    (some ((false,()),()))
   (R2 t0 t1 t2 (AQ (t7+1))))else none)else none)
  (R2 t0 t1 t2 (AQ (t7+1)))))else none)
 (some ((true,()),()))
def Nt:Nat->cS
 |0=>fun _ _ _ _=>none
 |n+1=>VT (Nt n)
def dB(R2:cS)(p0:AAA)(p1 p2:Int):Option Yd:=
 R2 p0 p1 p2 0
def Zh(p0:AAA)(p1 p2:Int):Option Yd:=dB (Nt AW) p0 p1 p2
abbrev uo:Type:=ABz×Unit
def Gz(p0:ABx)(p1:AAA):Option uo:=
 (Ge (p0.1,p0.2.1,())).bind fun u1=>
 cond (u1.1.1)
  ((Zh p1 0 (AQ ((p0.1.length:Int)-1))).bind fun u3=>
  some ((u3.1.1,()),()))
 (some ((false,()),()))
abbrev WL:Type:=AB2×Unit
abbrev Zy:Type:=List Int->Int->Int->List Int->Int->List Bool->Option WL
def bI(R4:Zy)(t1:AAA)(t6 t7:Int)(AK:AAA)(AF:Int)(b1:List Bool):Option WL:=
 cond ((decide (t7<(t1.length:Int))))
  (if(0:Int)<=t7/\t7<(t1.length:Int)then(
  let x3:Int:=(t1.getD (t7.toNat) 0)
  if(0:Int)<=x3/\x3<(AK.length:Int)then(
  let x4:Int:=(AK.getD (x3.toNat) 0)
  if(0:Int)<=x4/\x4<(b1.length:Int)then(
  cond (!(b1.getD (x4.toNat) false))
   (if(0:Int)<=x4/\x4<(b1.length:Int)then(
   R4 t1 (AQ (t6+1)) (AQ (t7+1)) AK AF (b1.set (x4.toNat) true))else none)
  (R4 t1 t6 (AQ (t7+1)) AK AF b1))else none)else none)else none)
 (some ((t6,()),()))
def Pc:Nat->Zy
 |0=>fun _ _ _ _ _ _=>none
 |n+1=>bI (Pc n)
def bF(R4:Zy)(p0:ABx)(p1:AAA):Option WL:=
 R4 p1 0 0 p0.1 p0.2.1 (List.replicate 8 false)
def Wo(p0:ABx)(p1:AAA):Option WL:=bF (Pc AW) p0 p1
abbrev lN:Type:=ABz×Unit
def F4(p0:ABx)(p1:AAA):Option lN:=
 (Gz (p0.1,p0.2.1,()) p1).bind fun u1=>
 cond (u1.1.1)
  ((Wo (p0.1,p0.2.1,()) p1).bind fun u2=>
  some (((decide (u2.1.1>=p0.2.1)),()),()))
 (some ((false,()),()))
abbrev nh:Type:=AGB×AF1
def ZC:Option nh:=
 some (((1,1,(),()),()),([],()))
abbrev rM:Type:=(AIH×Unit)×AEw
def Ey(p0:ABx):Option rM:=
 (Ge (p0.1,p0.2.1,())).bind fun u1=>
 cond (!u1.1.1)
  (some (((((),0,(),(),(),0,(),(),(),(),false,()),false,()),()),([],[],[],[],[],[],[],[],())))
 (if 0+p0.1.length<=CN then(
 if(0:Int)<=(p0.1.length:Int)/\(p0.1.length:Int)<=(p0.1.length:Int)/\(p0.1.length:Int)<=(CN:Int)then(
 (ZC).bind fun u3=>
 (ZC).bind fun u4=>
 some (((((),p0.2.1,(),(),(),0,(),(),(),(),false,()),true,()),()),(p0.1,(List.replicate ((p0.1.length:Int).toNat) ([],[],0,())),[],[],[],[],[(u3.1.1.1,u3.1.1.2.1,u3.2.1,()),(u4.1.1.1,u4.1.1.2.1,u4.2.1,())],[],())))else none)else none)
abbrev ym:Type:=AB2×Unit
def Mm(p0 p1:Int):Option ym:=
 cond (decide (p0>p1))
  (some ((p0,()),()))
 (some ((p1,()),()))
abbrev Hj:Type:=ABz×Unit
abbrev cC:Type:=List Int->Int->Int->Option Hj
def dN(R2:cC)(t0:AAA)(t1 t5:Int):Option Hj:=
 cond ((decide (t5<(t0.length:Int))))
  (if(0:Int)<=t5/\t5<(t0.length:Int)then(
  cond ((t0.getD (t5.toNat) 0)==t1)
   (some ((true,()),()))
  (R2 t0 t1 (AQ (t5+1))))else none)
 (some ((false,()),()))
def RH:Nat->cC
 |0=>fun _ _ _=>none
 |n+1=>dN (RH n)
def cl(R2:cC)(p0:AAA)(p1:Int):Option Hj:=
 R2 p0 p1 0
def DI(p0:AAA)(p1:Int):Option Hj:=cl (RH AW) p0 p1
abbrev YL:Type:=ACL×ADH
abbrev b_:Type:=List Int->Int->Bool->Int->List Int->Option YL
def Vt(R4:b_)(t0:AAA)(t1:Int)(t6:Bool)(t7:Int)(b0:AAA):Option YL:=
 cond ((decide (t7<(t0.length:Int))))
  (cond (!t6)
   (if(0:Int)<=t7/\t7<(t0.length:Int)then(
   cond (decide ((t0.getD (t7.toNat) 0)>t1))
    (if b0.length+1<=CN then(
    if(0:Int)<=t7/\t7<(t0.length:Int)then(
    if(b0++[t1]).length+1<=CN then(
    R4 t0 t1 true (AQ (t7+1)) ((b0++[t1])++[(t0.getD (t7.toNat) 0)]))else none)else none)else none)
   (if(0:Int)<=t7/\t7<(t0.length:Int)then(
   if b0.length+1<=CN then(
   R4 t0 t1 t6 (AQ (t7+1)) (b0++[(t0.getD (t7.toNat) 0)]))else none)else none))else none)
  (if(0:Int)<=t7/\t7<(t0.length:Int)then(
  if b0.length+1<=CN then(
  R4 t0 t1 t6 (AQ (t7+1)) (b0++[(t0.getD (t7.toNat) 0)]))else none)else none))
 (cond (!t6)
  (if b0.length+1<=CN then(
  some (((),()),(b0++[t1],())))else none)
 (some (((),()),(b0,()))))
def LF:Nat->b_
 |0=>fun _ _ _ _ _=>none
 |n+1=>Vt (LF n)
def ct(R4:b_)(p0:AAA)(p1:Int):Option YL:=
 (DI p0 p1).bind fun u1=>
 R4 p0 p1 u1.1.1 0 []
def Mq(p0:AAA)(p1:Int):Option YL:=ct (LF AW) p0 p1
abbrev M3:Type:=ACL×AHJ
abbrev Qs:Type:=Int->Int->List Int->Int->Int->List Int->Int->List Int->Option M3
def UZ(R4:Qs)(t6 t7:Int)(AK:AAA)(AF AZ:Int)(Bn:AAA)(BL:Int)(b2:AAA):Option M3:=
 cond (decide (t7<t6))
  ((Mm (Bn.length:Int) 1).bind fun u3=>
  (Ag u3.1.1 AK AF AZ).bind fun u4=>
  (Mq b2 u4.1.1).bind fun u5=>
  R4 t6 (AQ (t7+1)) u4.2.1.1 u4.2.1.2.1 u4.2.1.2.2.1 Bn BL u5.2.1)
 ((BW 20 AK AF AZ).bind fun u6=>
 cond (u6.1.1)
  ((Hw [(-1),0,(Bn.length:Int)] u6.2.1.1 u6.2.1.2.1 u6.2.1.2.2.1).bind fun u7=>
  if b2.length+1<=CN then(
  some (((),()),((u7.2.1.1,u7.2.1.2.1,u7.2.1.2.2.1,()),b2++[u7.1.1],())))else none)
 (some (((),()),((u6.2.1.1,u6.2.1.2.1,u6.2.1.2.2.1,()),b2,()))))
def Iw:Nat->Qs
 |0=>fun _ _ _ _ _ _ _ _=>none
 |n+1=>UZ (Iw n)
def UD(R4:Qs)(p1:ABx)(AK:AAA)(AF AZ:Int):Option M3:=
 (Ag (AQ ((p1.1.length:Int)+2)) AK AF AZ).bind fun u2=>
 R4 u2.1.1 0 u2.2.1.1 u2.2.1.2.1 u2.2.1.2.2.1 p1.1 p1.2.1 []
def QM(p1:ABx)(AK:AAA)(AF AZ:Int):Option M3:=UD (Iw AW) p1 AK AF AZ
abbrev P8:Type:=ACL×AHJ
abbrev Tw:Type:=Int->List Int->Int->Int->List Int->Int->List Int->Option P8
def XC(R3:Tw)(t6:Int)(AK:AAA)(AF AZ:Int)(Bn:AAA)(BL:Int)(b2:AAA):Option P8:=
 cond ((decide (t6<(Bn.length:Int))))
  ((F4 (Bn,BL,()) b2).bind fun u3=>
  cond (!u3.1.1)
   ((Mq b2 t6).bind fun u4=>
   R3 (AQ (t6+1)) AK AF AZ Bn BL u4.2.1)
  (some (((),()),((AK,AF,AZ,()),b2,()))))
 (some (((),()),((AK,AF,AZ,()),b2,())))
def Km:Nat->Tw
 |0=>fun _ _ _ _ _ _ _=>none
 |n+1=>XC (Km n)
def XO(R3:Tw)(p1:ABx)(AK:AAA)(AF AZ:Int):Option P8:=
 (QM (p1.1,p1.2.1,()) AK AF AZ).bind fun u1=>
 R3 0 u1.2.1.1 u1.2.1.2.1 u1.2.1.2.2.1 p1.1 p1.2.1 u1.2.2.1
def ME(p1:ABx)(AK:AAA)(AF AZ:Int):Option P8:=XO (Km AW) p1 AK AF AZ
abbrev P1:Type:=AB2×Unit
abbrev UE:Type:=List Int->Int->Int->Option P1
def XS(R5:UE)(t0:AAA)(t3 t4:Int):Option P1:=
 cond ((decide (t4<(t0.length:Int))))
  (if(0:Int)<=t4/\t4<(t0.length:Int)then(
  let x3:Int:=(t0.getD (t4.toNat) 0)
  if x3<0 then none else(
  R5 t0 (bOr .i64 t3 (AQ (1*2^(min x3.toNat 64)))) (AQ (t4+1))))else none)
 (some ((t3,()),()))
def Kl:Nat->UE
 |0=>fun _ _ _=>none
 |n+1=>XS (Kl n)
def XE(R5:UE)(p0:AAA):Option P1:=
 (Zh p0 0 7).bind fun u1=>
 cond (!u1.1.1)
  (some (((-1),()),()))
 (R5 p0 0 0)
def MF(p0:AAA):Option P1:=XE (Kl AW) p0
abbrev P3:Type:=AB2×Unit
abbrev UX:Type:=Int->AAf->Int->Option P3
def PB(R2:UX)(t3:Int)(AK:AAf)(AF:Int):Option P3:=
 cond ((decide (t3<(AK.length:Int))))
  (if(0:Int)<=t3/\t3<(AK.length:Int)then(
  cond (!((AK.getD (t3.toNat) ([],false,0,())).2.1))
   (some ((AQ (t3+1),()),()))
  (R2 (AQ (t3+1)) AK AF))else none)
 (some ((0,()),()))
def II:Nat->UX
 |0=>fun _ _ _=>none
 |n+1=>PB (II n)
def Wf(R2:UX)(p0:AB4):Option P3:=
 R2 0 p0.1 p0.2.1
def Jq(p0:AB4):Option P3:=Wf (II AW) p0
abbrev Ig:Type:=ACL×ADH
def Ce(p0:AB4)(p1:Int):Option Ig:=
 (CF p1 1 (p0.1.length:Int)).bind fun u1=>
 cond (!u1.1.1)
  (some (((),()),([],())))
 (if(0:Int)<=AQ (p1-1)/\AQ (p1-1)<(p0.1.length:Int)then(
 if 0+((p0.1.getD ((AQ (p1-1)).toNat) ([],false,0,())).1).length<=CN then(
 some (((),()),(((p0.1.getD ((AQ (p1-1)).toNat) ([],false,0,())).1),())))else none)else none)
abbrev ND:Type:=AGA×AFK
abbrev PD:Type:=Int->Int->Int->List Int->Int->Int->List Int->Int->AAd->List Int->AAf->Int->ABE->ABI->AAs->AA8->Bool->Int->Int->Int->Int->List UInt8->Int->Int->List Int->ABd->Bool->List AAA->Option ND
def Sh(R16:PD)(t7 t8 t9:Int)(AK:AAA)(AF AZ:Int)(Bn:AAA)(BL:Int)(CM:AAd)(EG:AAA)(HF:AAf)(FI:Int)(AQI:ABE)(AON:ABI)(ANW:AAs)(ANx:AA8)(Hi:Bool)(Qm SC jK AOE:Int)(ya:ABF)(AFX cQ:Int)(APx:AAA)(AM7:ABd)(APX:Bool)(AE9:List AAA):Option ND:=
 cond ((decide (t9<(AE9.length:Int))))
  (if(0:Int)<=t9/\t9<(AE9.length:Int)then(
  (F4 (Bn,BL,()) (AE9.getD (t9.toNat) [])).bind fun eE=>
  cond (!eE.1.1)
   ((BW 3 AK AF AZ).bind fun cK=>
   cond (!cK.1.1)
    (R16 t7 (AQ (t9+1)) (AQ (t9+1)) cK.2.1.1 cK.2.1.2.1 cK.2.1.2.2.1 Bn BL CM EG HF FI AQI AON ANW ANx Hi Qm SC jK AOE ya AFX cQ APx AM7 APX AE9)
   (R16 t7 t8 (AQ (t9+1)) cK.2.1.1 cK.2.1.2.1 cK.2.1.2.2.1 Bn BL CM EG HF FI AQI AON ANW ANx Hi Qm SC jK AOE ya AFX cQ APx AM7 APX AE9))
  (R16 t7 t8 (AQ (t9+1)) AK AF AZ Bn BL CM EG HF FI AQI AON ANW ANx Hi Qm SC jK AOE ya AFX cQ APx AM7 APX AE9))else none)
 (some (((11,0,t8,t7,[],()),()),((AK,AF,AZ,()),())))
def GO:Nat->PD
 |0=>fun _ _ _ _ _ _ _ _ _ _ _ _ _ _ _ _ _ _ _ _ _ _ _ _ _ _ _ _=>none
 |n+1=>Sh (GO n)
def Ta(R16:PD)(p1:AB0)(AK:AAA)(AF AZ:Int):Option ND:=
 cond ((p1.2.2.2.2.2.2.2.1.length:Int)==0)
  (some (((8,0,0,0,[],()),()),((AK,AF,AZ,()),())))
 (if(0:Int)<=(0:Int)/\(0:Int)<(p1.2.2.2.2.2.2.2.1.length:Int)then(
 (Ce (p1.2.2.2.2.1,p1.2.2.2.2.2.1,()) ((p1.2.2.2.2.2.2.2.1.getD 0 (0,0,[],[],false,[],())).2.1)).bind fun u3=>
 (Ag (u3.2.1.length:Int) AK AF AZ).bind fun u5=>
 if(0:Int)<=u5.1.1/\u5.1.1<(u3.2.1.length:Int)then(
 let x6:Int:=(u3.2.1.getD (u5.1.1.toNat) 0)
 cond (!((p1.2.2.2.2.2.2.2.1.getD 0 (0,0,[],[],false,[],())).2.2.2.2.1))
  ((BW 4 u5.2.1.1 u5.2.1.2.1 u5.2.1.2.2.1).bind fun u8=>
  cond (u8.1.1)
   (some (((10,0,0,0,[],()),()),((u8.2.1.1,u8.2.1.2.1,u8.2.1.2.2.1,()),())))
  (cond (!((p1.2.2.2.2.2.2.2.1.getD 0 (0,0,[],[],false,[],())).2.2.2.2.1))
   (some (((9,x6,0,0,[],()),()),((u8.2.1.1,u8.2.1.2.1,u8.2.1.2.2.1,()),())))
  ((BW 6 u8.2.1.1 u8.2.1.2.1 u8.2.1.2.2.1).bind fun Dk=>
  cond (Dk.1.1)
   (some (((12,0,0,0,[],()),()),((Dk.2.1.1,Dk.2.1.2.1,Dk.2.1.2.2.1,()),())))
  ((BW 3 Dk.2.1.1 Dk.2.1.2.1 Dk.2.1.2.2.1).bind fun Ed=>
  cond (Ed.1.1)
   (some (((4,x6,0,0,[],()),()),((Ed.2.1.1,Ed.2.1.2.1,Ed.2.1.2.2.1,()),())))
  ((Mm (((p1.2.2.2.2.2.2.2.1.getD 0 (0,0,[],[],false,[],())).2.2.2.2.2.1).length:Int) 1).bind fun Nr=>
  (Ag Nr.1.1 Ed.2.1.1 Ed.2.1.2.1 Ed.2.1.2.2.1).bind fun Mc=>
  R16 x6 (AQ (1+Mc.1.1)) 0 Mc.2.1.1 Mc.2.1.2.1 Mc.2.1.2.2.1 p1.1 p1.2.1 p1.2.2.1 p1.2.2.2.1 p1.2.2.2.2.1 p1.2.2.2.2.2.1 p1.2.2.2.2.2.2.1 p1.2.2.2.2.2.2.2.1 p1.2.2.2.2.2.2.2.2.1 p1.2.2.2.2.2.2.2.2.2.1 p1.2.2.2.2.2.2.2.2.2.2.1 0 0 0 0 [] ((p1.2.2.2.2.2.2.2.1.getD 0 (0,0,[],[],false,[],())).1) ((p1.2.2.2.2.2.2.2.1.getD 0 (0,0,[],[],false,[],())).2.1) ((p1.2.2.2.2.2.2.2.1.getD 0 (0,0,[],[],false,[],())).2.2.1) ((p1.2.2.2.2.2.2.2.1.getD 0 (0,0,[],[],false,[],())).2.2.2.1) ((p1.2.2.2.2.2.2.2.1.getD 0 (0,0,[],[],false,[],())).2.2.2.2.1) ((p1.2.2.2.2.2.2.2.1.getD 0 (0,0,[],[],false,[],())).2.2.2.2.2.1))))))
 (cond (!((p1.2.2.2.2.2.2.2.1.getD 0 (0,0,[],[],false,[],())).2.2.2.2.1))
  (some (((9,x6,0,0,[],()),()),((u5.2.1.1,u5.2.1.2.1,u5.2.1.2.2.1,()),())))
 ((BW 6 u5.2.1.1 u5.2.1.2.1 u5.2.1.2.2.1).bind fun u16=>
 cond (u16.1.1)
  (some (((12,0,0,0,[],()),()),((u16.2.1.1,u16.2.1.2.1,u16.2.1.2.2.1,()),())))
 ((BW 3 u16.2.1.1 u16.2.1.2.1 u16.2.1.2.2.1).bind fun jV=>
 cond (jV.1.1)
  (some (((4,x6,0,0,[],()),()),((jV.2.1.1,jV.2.1.2.1,jV.2.1.2.2.1,()),())))
 ((Mm (((p1.2.2.2.2.2.2.2.1.getD 0 (0,0,[],[],false,[],())).2.2.2.2.2.1).length:Int) 1).bind fun cj=>
 (Ag cj.1.1 jV.2.1.1 jV.2.1.2.1 jV.2.1.2.2.1).bind fun Uj=>
 R16 x6 (AQ (1+Uj.1.1)) 0 Uj.2.1.1 Uj.2.1.2.1 Uj.2.1.2.2.1 p1.1 p1.2.1 p1.2.2.1 p1.2.2.2.1 p1.2.2.2.2.1 p1.2.2.2.2.2.1 p1.2.2.2.2.2.2.1 p1.2.2.2.2.2.2.2.1 p1.2.2.2.2.2.2.2.2.1 p1.2.2.2.2.2.2.2.2.2.1 p1.2.2.2.2.2.2.2.2.2.2.1 0 0 0 0 [] ((p1.2.2.2.2.2.2.2.1.getD 0 (0,0,[],[],false,[],())).1) ((p1.2.2.2.2.2.2.2.1.getD 0 (0,0,[],[],false,[],())).2.1) ((p1.2.2.2.2.2.2.2.1.getD 0 (0,0,[],[],false,[],())).2.2.1) ((p1.2.2.2.2.2.2.2.1.getD 0 (0,0,[],[],false,[],())).2.2.2.1) ((p1.2.2.2.2.2.2.2.1.getD 0 (0,0,[],[],false,[],())).2.2.2.2.1) ((p1.2.2.2.2.2.2.2.1.getD 0 (0,0,[],[],false,[],())).2.2.2.2.2.1))))))else none)else none)
def MT(p1:AB0)(AK:AAA)(AF AZ:Int):Option ND:=Ta (GO AW) p1 AK AF AZ
abbrev wg:Type:=AEg×AFK
def FX(p1:List ABF)(AK:AAA)(AF AZ:Int):Option wg:=
 (Ag (p1.length:Int) AK AF AZ).bind fun u1=>
 if(0:Int)<=u1.1.1/\u1.1.1<(p1.length:Int)then(
 some (((p1.getD (u1.1.1.toNat) []),()),((u1.2.1.1,u1.2.1.2.1,u1.2.1.2.2.1,()),())))else none
abbrev zU:Type:=AB2×Unit
def NO(p0 p1:Int):Option zU:=
 cond (decide (p0<p1))
  (some ((p0,()),()))
 (some ((p1,()),()))
abbrev jP:Type:=AGA×AFK
def Gj(p1:AB0)(AK:AAA)(AF AZ:Int):Option jP:=
 (Ag (p1.2.2.2.2.2.2.1.length:Int) AK AF AZ).bind fun u2=>
 (BW 3 u2.2.1.1 u2.2.1.2.1 u2.2.1.2.2.1).bind fun u3=>
 cond (!u3.1.1)
  (let x4:Int:=(p1.2.2.2.2.2.2.1.length:Int)
  if(0:Int)<=AQ (x4-1)/\AQ (x4-1)<(p1.2.2.2.2.2.2.1.length:Int)then(
  (Ce (p1.2.2.2.2.1,p1.2.2.2.2.2.1,()) ((p1.2.2.2.2.2.2.1.getD ((AQ (x4-1)).toNat) (0,[],())).1)).bind fun u6=>
  (Ag (u6.2.1.length:Int) u3.2.1.1 u3.2.1.2.1 u3.2.1.2.2.1).bind fun u8=>
  if(0:Int)<=u8.1.1/\u8.1.1<(u6.2.1.length:Int)then(
  let x9:Int:=(u6.2.1.getD (u8.1.1.toNat) 0)
  let x10:Int:=(((p1.2.2.2.2.2.2.1.getD ((AQ (x4-1)).toNat) (0,[],())).2.1).length:Int)
  cond (x10==0)
   ((FX [[],[97],[98,99],[100]] u8.2.1.1 u8.2.1.2.1 u8.2.1.2.2.1).bind fun Ed=>
   some (((2,AQ (x4-1),0,0,Ed.1.1,()),()),((Ed.2.1.1,Ed.2.1.2.1,Ed.2.1.2.2.1,()),())))
  ((BW 7 u8.2.1.1 u8.2.1.2.1 u8.2.1.2.2.1).bind fun Md=>
  cond (Md.1.1)
   ((FX [[],[97],[98,99],[100]] Md.2.1.1 Md.2.1.2.1 Md.2.1.2.2.1).bind fun Nr=>
   some (((2,AQ (x4-1),0,0,Nr.1.1,()),()),((Nr.2.1.1,Nr.2.1.2.1,Nr.2.1.2.2.1,()),())))
  ((BW 3 Md.2.1.1 Md.2.1.2.1 Md.2.1.2.2.1).bind fun Mc=>
  cond (Mc.1.1)
   (some (((4,x9,0,0,[],()),()),((Mc.2.1.1,Mc.2.1.2.1,Mc.2.1.2.2.1,()),())))
  ((NO x10 3).bind fun K9=>
  (Ag K9.1.1 Mc.2.1.1 Mc.2.1.2.1 Mc.2.1.2.2.1).bind fun u16=>
  some (((3,AQ (x4-1),AQ (x10-u16.1.1),x9,[],()),()),((u16.2.1.1,u16.2.1.2.1,u16.2.1.2.2.1,()),()))))))else none)else none)
 (if(0:Int)<=u2.1.1/\u2.1.1<(p1.2.2.2.2.2.2.1.length:Int)then(
 (Ce (p1.2.2.2.2.1,p1.2.2.2.2.2.1,()) ((p1.2.2.2.2.2.2.1.getD (u2.1.1.toNat) (0,[],())).1)).bind fun cf=>
 (Ag (cf.2.1.length:Int) u3.2.1.1 u3.2.1.2.1 u3.2.1.2.2.1).bind fun Uj=>
 if(0:Int)<=Uj.1.1/\Uj.1.1<(cf.2.1.length:Int)then(
 let x21:Int:=(cf.2.1.getD (Uj.1.1.toNat) 0)
 let x22:Int:=(((p1.2.2.2.2.2.2.1.getD (u2.1.1.toNat) (0,[],())).2.1).length:Int)
 cond (x22==0)
  ((FX [[],[97],[98,99],[100]] Uj.2.1.1 Uj.2.1.2.1 Uj.2.1.2.2.1).bind fun cK=>
  some (((2,u2.1.1,0,0,cK.1.1,()),()),((cK.2.1.1,cK.2.1.2.1,cK.2.1.2.2.1,()),())))
 ((BW 7 Uj.2.1.1 Uj.2.1.2.1 Uj.2.1.2.2.1).bind fun aL=>
 cond (aL.1.1)
  ((FX [[],[97],[98,99],[100]] aL.2.1.1 aL.2.1.2.1 aL.2.1.2.2.1).bind fun jZ=>
  some (((2,u2.1.1,0,0,jZ.1.1,()),()),((jZ.2.1.1,jZ.2.1.2.1,jZ.2.1.2.2.1,()),())))
 ((BW 3 aL.2.1.1 aL.2.1.2.1 aL.2.1.2.2.1).bind fun sD=>
 cond (sD.1.1)
  (some (((4,x21,0,0,[],()),()),((sD.2.1.1,sD.2.1.2.1,sD.2.1.2.2.1,()),())))
 ((NO x22 3).bind fun zf=>
 (Ag zf.1.1 sD.2.1.1 sD.2.1.2.1 sD.2.1.2.2.1).bind fun aN=>
 some (((3,u2.1.1,AQ (x22-aN.1.1),x21,[],()),()),((aN.2.1.1,aN.2.1.2.1,aN.2.1.2.2.1,()),()))))))else none)else none)
abbrev lC:Type:=AGA×AFK
def QL(p1:AB0)(AK:AAA)(AF AZ:Int):Option lC:=
 cond ((p1.2.2.2.2.2.2.1.length:Int)==0)
  ((ME (p1.1,p1.2.1,()) AK AF AZ).bind fun u3=>
  (MF u3.2.2.1).bind fun u4=>
  some (((1,u4.1.1,0,0,[],()),()),((u3.2.1.1,u3.2.1.2.1,u3.2.1.2.2.1,()),())))
 ((BW 30 AK AF AZ).bind fun u5=>
 cond (u5.1.1)
  ((ME (p1.1,p1.2.1,()) u5.2.1.1 u5.2.1.2.1 u5.2.1.2.2.1).bind fun u6=>
  (MF u6.2.2.1).bind fun u7=>
  some (((1,u7.1.1,0,0,[],()),()),((u6.2.1.1,u6.2.1.2.1,u6.2.1.2.2.1,()),())))
 ((Ag (p1.2.2.1.length:Int) u5.2.1.1 u5.2.1.2.1 u5.2.1.2.2.1).bind fun u8=>
 (Ag 44 u8.2.1.1 u8.2.1.2.1 u8.2.1.2.2.1).bind fun u9=>
 cond (u9.1.1==0)
  ((Ag 16 u9.2.1.1 u9.2.1.2.1 u9.2.1.2.2.1).bind fun Dk=>
  some (((5,u8.1.1,Dk.1.1,0,[],()),()),((Dk.2.1.1,Dk.2.1.2.1,Dk.2.1.2.2.1,()),())))
 (cond (u9.1.1==1)
  (cond ((p1.2.2.2.1.length:Int)==0)
   (some (((6,u8.1.1,0,0,[],()),()),((u9.2.1.1,u9.2.1.2.1,u9.2.1.2.2.1,()),())))
  ((BW 12 u9.2.1.1 u9.2.1.2.1 u9.2.1.2.2.1).bind fun Md=>
  cond (Md.1.1)
   (some (((6,u8.1.1,0,0,[],()),()),((Md.2.1.1,Md.2.1.2.1,Md.2.1.2.2.1,()),())))
  (if(0:Int)<=(0:Int)/\(0:Int)<(p1.2.2.2.1.length:Int)then(
  some (((7,(p1.2.2.2.1.getD 0 0),0,0,[],()),()),((Md.2.1.1,Md.2.1.2.1,Md.2.1.2.2.1,()),())))else none)))
 (cond (u9.1.1==2)
  ((Ag (p1.2.2.2.2.2.2.1.length:Int) u9.2.1.1 u9.2.1.2.1 u9.2.1.2.2.1).bind fun K9=>
  some (((15,K9.1.1,0,0,[],()),()),((K9.2.1.1,K9.2.1.2.1,K9.2.1.2.2.1,()),())))
 (cond (u9.1.1==3)
  ((BW 3 u9.2.1.1 u9.2.1.2.1 u9.2.1.2.2.1).bind fun u16=>
  cond (u16.1.1)
   (cond (decide ((p1.2.2.2.2.2.2.2.2.2.1.length:Int)>0))
    ((Ag (p1.2.2.2.2.2.2.2.2.2.1.length:Int) u16.2.1.1 u16.2.1.2.1 u16.2.1.2.2.1).bind fun cj=>
    if(0:Int)<=cj.1.1/\cj.1.1<(p1.2.2.2.2.2.2.2.2.2.1.length:Int)then(
    some (((13,((p1.2.2.2.2.2.2.2.2.2.1.getD (cj.1.1.toNat) (0,[],false,())).1),0,0,[],()),()),((cj.2.1.1,cj.2.1.2.1,cj.2.1.2.2.1,()),())))else none)
   (some (((16,u8.1.1,0,0,[],()),()),((u16.2.1.1,u16.2.1.2.1,u16.2.1.2.2.1,()),()))))
  (some (((16,u8.1.1,0,0,[],()),()),((u16.2.1.1,u16.2.1.2.1,u16.2.1.2.2.1,()),()))))
 (cond (u9.1.1==4)
  ((BW 2 u9.2.1.1 u9.2.1.2.1 u9.2.1.2.2.1).bind fun di=>
  cond (di.1.1)
   ((Ag 256 di.2.1.1 di.2.1.2.1 di.2.1.2.2.1).bind fun eE=>
   (Ag 2 eE.2.1.1 eE.2.1.2.1 eE.2.1.2.2.1).bind fun cK=>
   some (((14,cK.1.1,eE.1.1,0,[],()),()),((cK.2.1.1,cK.2.1.2.1,cK.2.1.2.2.1,()),())))
  ((Ag 2 di.2.1.1 di.2.1.2.1 di.2.1.2.2.1).bind fun aL=>
  some (((14,aL.1.1,255,0,[],()),()),((aL.2.1.1,aL.2.1.2.1,aL.2.1.2.2.1,()),()))))
 (cond (u9.1.1==5)
  ((BW 2 u9.2.1.1 u9.2.1.2.1 u9.2.1.2.2.1).bind fun jZ=>
  cond (jZ.1.1)
   ((Ag 256 jZ.2.1.1 jZ.2.1.2.1 jZ.2.1.2.2.1).bind fun sD=>
   (Ag 2 sD.2.1.1 sD.2.1.2.1 sD.2.1.2.2.1).bind fun zf=>
   some (((14,zf.1.1,sD.1.1,0,[],()),()),((zf.2.1.1,zf.2.1.2.1,zf.2.1.2.2.1,()),())))
  ((Ag 2 jZ.2.1.1 jZ.2.1.2.1 jZ.2.1.2.2.1).bind fun aN=>
  some (((14,aN.1.1,255,0,[],()),()),((aN.2.1.1,aN.2.1.2.1,aN.2.1.2.2.1,()),()))))
 (cond (u9.1.1==6)
  ((BW 2 u9.2.1.1 u9.2.1.2.1 u9.2.1.2.2.1).bind fun xc=>
  cond (xc.1.1)
   ((Ag 256 xc.2.1.1 xc.2.1.2.1 xc.2.1.2.2.1).bind fun rK=>
   (Ag 2 rK.2.1.1 rK.2.1.2.1 rK.2.1.2.2.1).bind fun cP=>
   some (((14,cP.1.1,rK.1.1,0,[],()),()),((cP.2.1.1,cP.2.1.2.1,cP.2.1.2.2.1,()),())))
  ((Ag 2 xc.2.1.1 xc.2.1.2.1 xc.2.1.2.2.1).bind fun u32=>
  some (((14,u32.1.1,255,0,[],()),()),((u32.2.1.1,u32.2.1.2.1,u32.2.1.2.2.1,()),()))))
 (cond (u9.1.1==7)
  ((BW 2 u9.2.1.1 u9.2.1.2.1 u9.2.1.2.2.1).bind fun qV=>
  cond (qV.1.1)
   ((Ag 256 qV.2.1.1 qV.2.1.2.1 qV.2.1.2.2.1).bind fun yT=>
   (Ag 2 yT.2.1.1 yT.2.1.2.1 yT.2.1.2.2.1).bind fun u35=>
   some (((14,u35.1.1,yT.1.1,0,[],()),()),((u35.2.1.1,u35.2.1.2.1,u35.2.1.2.2.1,()),())))
  ((Ag 2 qV.2.1.1 qV.2.1.2.1 qV.2.1.2.2.1).bind fun u36=>
  some (((14,u36.1.1,255,0,[],()),()),((u36.2.1.1,u36.2.1.2.1,u36.2.1.2.2.1,()),()))))
 (cond (u9.1.1==8)
  ((BW 2 u9.2.1.1 u9.2.1.2.1 u9.2.1.2.2.1).bind fun pr=>
  cond (pr.1.1)
   ((Ag 256 pr.2.1.1 pr.2.1.2.1 pr.2.1.2.2.1).bind fun fT=>
   (Ag 2 fT.2.1.1 fT.2.1.2.1 fT.2.1.2.2.1).bind fun u39=>
   some (((14,u39.1.1,fT.1.1,0,[],()),()),((u39.2.1.1,u39.2.1.2.1,u39.2.1.2.2.1,()),())))
  ((Ag 2 pr.2.1.1 pr.2.1.2.1 pr.2.1.2.2.1).bind fun u40=>
  some (((14,u40.1.1,255,0,[],()),()),((u40.2.1.1,u40.2.1.2.1,u40.2.1.2.2.1,()),()))))
 (cond (decide ((p1.2.2.2.2.1.length:Int)>1))
  ((Jq (p1.2.2.2.2.1,p1.2.2.2.2.2.1,())).bind fun u43=>
  cond ((decide (u43.1.1<(p1.2.2.2.2.1.length:Int))))
   ((BW 3 u9.2.1.1 u9.2.1.2.1 u9.2.1.2.2.1).bind fun u45=>
   cond (!u45.1.1)
    ((MT (p1.1,p1.2.1,p1.2.2.1,p1.2.2.2.1,p1.2.2.2.2.1,p1.2.2.2.2.2.1,p1.2.2.2.2.2.2.1,p1.2.2.2.2.2.2.2.1,p1.2.2.2.2.2.2.2.2.1,p1.2.2.2.2.2.2.2.2.2.1,p1.2.2.2.2.2.2.2.2.2.2.1,()) u45.2.1.1 u45.2.1.2.1 u45.2.1.2.2.1).bind fun wT=>
    some (((wT.1.1.1,wT.1.1.2.1,wT.1.1.2.2.1,wT.1.1.2.2.2.1,wT.1.1.2.2.2.2.1,()),()),((wT.2.1.1,wT.2.1.2.1,wT.2.1.2.2.1,()),())))
   ((Gj (p1.1,p1.2.1,p1.2.2.1,p1.2.2.2.1,p1.2.2.2.2.1,p1.2.2.2.2.2.1,p1.2.2.2.2.2.2.1,p1.2.2.2.2.2.2.2.1,p1.2.2.2.2.2.2.2.2.1,p1.2.2.2.2.2.2.2.2.2.1,p1.2.2.2.2.2.2.2.2.2.2.1,()) u45.2.1.1 u45.2.1.2.1 u45.2.1.2.2.1).bind fun p9=>
   some (((p9.1.1.1,p9.1.1.2.1,p9.1.1.2.2.1,p9.1.1.2.2.2.1,p9.1.1.2.2.2.2.1,()),()),((p9.2.1.1,p9.2.1.2.1,p9.2.1.2.2.1,()),()))))
  ((Gj (p1.1,p1.2.1,p1.2.2.1,p1.2.2.2.1,p1.2.2.2.2.1,p1.2.2.2.2.2.1,p1.2.2.2.2.2.2.1,p1.2.2.2.2.2.2.2.1,p1.2.2.2.2.2.2.2.2.1,p1.2.2.2.2.2.2.2.2.2.1,p1.2.2.2.2.2.2.2.2.2.2.1,()) u9.2.1.1 u9.2.1.2.1 u9.2.1.2.2.1).bind fun u48=>
  some (((u48.1.1.1,u48.1.1.2.1,u48.1.1.2.2.1,u48.1.1.2.2.2.1,u48.1.1.2.2.2.2.1,()),()),((u48.2.1.1,u48.2.1.2.1,u48.2.1.2.2.1,()),()))))
 ((Gj (p1.1,p1.2.1,p1.2.2.1,p1.2.2.2.1,p1.2.2.2.2.1,p1.2.2.2.2.2.1,p1.2.2.2.2.2.2.1,p1.2.2.2.2.2.2.2.1,p1.2.2.2.2.2.2.2.2.1,p1.2.2.2.2.2.2.2.2.2.1,p1.2.2.2.2.2.2.2.2.2.2.1,()) u9.2.1.1 u9.2.1.2.1 u9.2.1.2.2.1).bind fun vt=>
 some (((vt.1.1.1,vt.1.1.2.1,vt.1.1.2.2.1,vt.1.1.2.2.2.1,vt.1.1.2.2.2.2.1,()),()),((vt.2.1.1,vt.2.1.2.1,vt.2.1.2.2.1,()),()))))))))))))))
abbrev sU:Type:=ABz×Unit
def FE(p0:Int):Option sU:=
 cond (decide (p0>0))
  ((CF (AQ (p0.tdiv 4294967296)) 1 30).bind fun u2=>
  cond (u2.1.1)
   ((CF (p0.tmod 4294967296) 1 60).bind fun u3=>
   some ((u3.1.1,()),()))
  (some ((false,()),())))
 (some ((false,()),()))
abbrev KE:Type:=AB2×Unit
def Cn(p0:Int):Option KE:=
 (FE p0).bind fun u1=>
 cond (!u1.1.1)
  (some ((0,()),()))
 (some (((AQ (p0.tdiv 4294967296)),()),()))
abbrev vM:Type:=ABz×Unit
def Ml(p0:AEe):Option vM:=
 (FE p0.1).bind fun u1=>
 cond (!u1.1.1)
  (some ((false,()),()))
 ((CF p0.2.1 0 30).bind fun u2=>
 cond (!u2.1.1)
  (some ((false,()),()))
 (cond (decide (p0.2.1>0))
  ((Cn p0.1).bind fun u3=>
  cond ((decide (p0.2.1<=u3.1.1)))
   (some ((false,()),()))
  (cond (decide ((p0.2.2.2.1.length:Int)>40))
   (some ((false,()),()))
  (cond (!p0.2.2.1)
   (some ((true,()),()))
  (cond (decide (p0.2.1>0))
   (some ((p0.2.2.2.1==[],()),()))
  (some ((false,()),()))))))
 (cond (decide ((p0.2.2.2.1.length:Int)>40))
  (some ((false,()),()))
 (cond (!p0.2.2.1)
  (some ((true,()),()))
 (cond (decide (p0.2.1>0))
  (some ((p0.2.2.2.1==[],()),()))
 (some ((false,()),())))))))
abbrev WQ:Type:=ABz×Unit
abbrev ZZ:Type:=ABd->Int->Option WQ
def TA(R4:ZZ)(t0:ABd)(t5:Int):Option WQ:=
 cond ((decide (t5<(t0.length:Int))))
  (if(0:Int)<=t5/\t5<(t0.length:Int)then(
  (Ml ((t0.getD (t5.toNat) (0,0,false,[],())).1,(t0.getD (t5.toNat) (0,0,false,[],())).2.1,(t0.getD (t5.toNat) (0,0,false,[],())).2.2.1,(t0.getD (t5.toNat) (0,0,false,[],())).2.2.2.1,())).bind fun u3=>
  cond (!u3.1.1)
   (some ((false,()),()))
  (R4 t0 (AQ (t5+1))))else none)
 (some ((true,()),()))
def MI:Nat->ZZ
 |0=>fun _ _=>none
 |n+1=>TA (MI n)
def aY(R4:ZZ)(p0:ABd)(p1:Int):Option WQ:=
 cond ((decide ((p0.length:Int)>p1)))
  (some ((false,()),()))
 (R4 p0 0)
def WW(p0:ABd)(p1:Int):Option WQ:=aY (MI AW) p0 p1
abbrev YP:Type:=ABz×Unit
abbrev cO:Type:=ABd->Int->Option YP
def QV(R2:cO)(t0:ABd)(t3:Int):Option YP:=
 cond ((decide (t3<(t0.length:Int))))
  (if(0:Int)<=AQ (t3-1)/\AQ (t3-1)<(t0.length:Int)then(
  if(0:Int)<=t3/\t3<(t0.length:Int)then(
  cond (decide (((t0.getD ((AQ (t3-1)).toNat) (0,0,false,[],())).1)>=((t0.getD (t3.toNat) (0,0,false,[],())).1)))
   (some ((false,()),()))
  (R2 t0 (AQ (t3+1))))else none)else none)
 (some ((true,()),()))
def GY:Nat->cO
 |0=>fun _ _=>none
 |n+1=>QV (GY n)
def dW(R2:cO)(p0:ABd):Option YP:=
 R2 p0 1
def Z9(p0:ABd):Option YP:=dW (GY AW) p0
abbrev vP:Type:=ABz×Unit
def Gf(p0:ADA):Option vP:=
 (WW p0.1 200).bind fun u1=>
 cond (u1.1.1)
  ((WW p0.2.1 20).bind fun u2=>
  cond (u2.1.1)
   ((Z9 p0.1).bind fun u3=>
   cond (u3.1.1)
    ((CF p0.2.2.1 0 30).bind fun u4=>
    some ((u4.1.1,()),()))
   (some ((false,()),())))
  (some ((false,()),())))
 (some ((false,()),()))
abbrev tv:Type:=ABz×Unit
def fE(p0:ADA):Option tv:=
 cond (((p0.1.length:Int)==0))
  (cond ((p0.2.1.length:Int)==0)
   (some ((p0.2.2.1==0,()),()))
  (some ((false,()),())))
 (some ((false,()),()))
abbrev Rs:Type:=ABz×Unit
abbrev VL:Type:=Int->List Int->Int->AAd->List Int->AAf->Int->ABE->ABI->AAs->AA8->Bool->Option Rs
def Qp(R4:VL)(t3:Int)(AK:AAA)(AF:Int)(AZ:AAd)(BD:AAA)(BI:AAf)(AO:Int)(Bl:ABE)(Bk:ABI)(BN:AAs)(Bo:AA8)(AH:Bool):Option Rs:=
 cond ((decide (t3<(AZ.length:Int))))
  (if(0:Int)<=t3/\t3<(AZ.length:Int)then(
  (Gf ((AZ.getD (t3.toNat) ([],[],0,())).1,(AZ.getD (t3.toNat) ([],[],0,())).2.1,(AZ.getD (t3.toNat) ([],[],0,())).2.2.1,())).bind fun u8=>
  cond (!u8.1.1)
   (some ((false,()),()))
  ((DI BD t3).bind fun u9=>
  cond (u9.1.1)
   (if(0:Int)<=t3/\t3<(AZ.length:Int)then(
   (fE ((AZ.getD (t3.toNat) ([],[],0,())).1,(AZ.getD (t3.toNat) ([],[],0,())).2.1,(AZ.getD (t3.toNat) ([],[],0,())).2.2.1,())).bind fun Dk=>
   cond (!Dk.1.1)
    (some ((false,()),()))
   (R4 (AQ (t3+1)) AK AF AZ BD BI AO Bl Bk BN Bo AH))else none)
  (R4 (AQ (t3+1)) AK AF AZ BD BI AO Bl Bk BN Bo AH)))else none)
 (some ((true,()),()))
def Jm:Nat->VL
 |0=>fun _ _ _ _ _ _ _ _ _ _ _ _=>none
 |n+1=>Qp (Jm n)
def Xu(R4:VL)(p0:AB0):Option Rs:=
 (Ge (p0.1,p0.2.1,())).bind fun u1=>
 cond (!u1.1.1)
  (some ((false,()),()))
 (cond (((p0.2.2.1.length:Int) !=(p0.1.length:Int)))
  (some ((false,()),()))
 ((Gz (p0.1,p0.2.1,()) p0.2.2.2.1).bind fun u4=>
 cond (!u4.1.1)
  (some ((false,()),()))
 ((F4 (p0.1,p0.2.1,()) p0.2.2.2.1).bind fun u5=>
 cond (u5.1.1)
  (cond (!p0.2.2.2.2.2.2.2.2.2.2.1)
   (some ((false,()),()))
  (R4 0 p0.1 p0.2.1 p0.2.2.1 p0.2.2.2.1 p0.2.2.2.2.1 p0.2.2.2.2.2.1 p0.2.2.2.2.2.2.1 p0.2.2.2.2.2.2.2.1 p0.2.2.2.2.2.2.2.2.1 p0.2.2.2.2.2.2.2.2.2.1 p0.2.2.2.2.2.2.2.2.2.2.1))
 (R4 0 p0.1 p0.2.1 p0.2.2.1 p0.2.2.2.1 p0.2.2.2.2.1 p0.2.2.2.2.2.1 p0.2.2.2.2.2.2.1 p0.2.2.2.2.2.2.2.1 p0.2.2.2.2.2.2.2.2.1 p0.2.2.2.2.2.2.2.2.2.1 p0.2.2.2.2.2.2.2.2.2.2.1))))
def WH(p0:AB0):Option Rs:=Xu (Jm AW) p0
abbrev UL:Type:=ABz×Unit
abbrev cJ:Type:=Int->Int->List Int->Int->AAf->Int->Option UL
def VP(R5:cJ)(t5 t6:Int)(AK:AAA)(AF:Int)(Bn:AAf)(BL:Int):Option UL:=
 cond (decide (t6<t5))
  (if(0:Int)<=t6/\t6<(Bn.length:Int)then(
  (F4 (AK,AF,()) ((Bn.getD (t6.toNat) ([],false,0,())).1)).bind fun u6=>
  cond (!u6.1.1)
   (some ((false,()),()))
  ((CF ((Bn.getD (t6.toNat) ([],false,0,())).2.2.1) 0 60).bind fun u8=>
  cond (!u8.1.1)
   (some ((false,()),()))
  (cond (!((Bn.getD (t6.toNat) ([],false,0,())).2.1))
   (cond (((Bn.getD (t6.toNat) ([],false,0,())).2.2.1) !=0)
    (some ((false,()),()))
   (cond (((Bn.getD (t6.toNat) ([],false,0,())).2.1))
    (cond (t6==(AQ (t5-1)))
     (some ((false,()),()))
    (cond (decide (t6>0))
     (if(0:Int)<=AQ (t6-1)/\AQ (t6-1)<(Bn.length:Int)then(
     cond (!((Bn.getD ((AQ (t6-1)).toNat) ([],false,0,())).2.1))
      (some ((false,()),()))
     (R5 t5 (AQ (t6+1)) AK AF Bn BL))else none)
    (R5 t5 (AQ (t6+1)) AK AF Bn BL)))
   (R5 t5 (AQ (t6+1)) AK AF Bn BL)))
  (cond (((Bn.getD (t6.toNat) ([],false,0,())).2.1))
   (cond (t6==(AQ (t5-1)))
    (some ((false,()),()))
   (cond (decide (t6>0))
    (if(0:Int)<=AQ (t6-1)/\AQ (t6-1)<(Bn.length:Int)then(
    cond (!((Bn.getD ((AQ (t6-1)).toNat) ([],false,0,())).2.1))
     (some ((false,()),()))
    (R5 t5 (AQ (t6+1)) AK AF Bn BL))else none)
   (R5 t5 (AQ (t6+1)) AK AF Bn BL)))
  (R5 t5 (AQ (t6+1)) AK AF Bn BL)))))else none)
 (some ((true,()),()))
def LG:Nat->cJ
 |0=>fun _ _ _ _ _ _=>none
 |n+1=>VP (LG n)
def cw(R5:cJ)(p0:ABx)(p1:AB4):Option UL:=
 (Ge (p0.1,p0.2.1,())).bind fun u1=>
 cond (!u1.1.1)
  (some ((false,()),()))
 (cond ((decide ((p1.1.length:Int)>30)))
  (some ((false,()),()))
 (cond (p1.2.1 !=0)
  ((FE p1.2.1).bind fun u3=>
  cond (!u3.1.1)
   (some ((false,()),()))
  ((Cn p1.2.1).bind fun u4=>
  cond ((decide (u4.1.1>(p1.1.length:Int))))
   (some ((false,()),()))
  (R5 (p1.1.length:Int) 0 p0.1 p0.2.1 p1.1 p1.2.1)))
 (R5 (p1.1.length:Int) 0 p0.1 p0.2.1 p1.1 p1.2.1)))
def M5(p0:ABx)(p1:AB4):Option UL:=cw (LG AW) p0 p1
abbrev Ni:Type:=ABz×Unit
abbrev Vi:Type:=Int->Int->List Int->Int->Int->AB3->Option Ni
def Xo(R5:Vi)(t5 t6:Int)(AK:AAA)(AF Bn:Int)(BL:AB3):Option Ni:=
 cond ((decide (t6<(BL.length:Int))))
  (if(0:Int)<=t6/\t6<(BL.length:Int)then(
  cond ((decide ((((BL.getD (t6.toNat) ([],[],false,())).1).length:Int)>40)))
   (some ((false,()),()))
  ((Gz (AK,AF,()) ((BL.getD (t6.toNat) ([],[],false,())).2.1)).bind fun u7=>
  cond (!u7.1.1)
   (some ((false,()),()))
  ((F4 (AK,AF,()) ((BL.getD (t6.toNat) ([],[],false,())).2.1)).bind fun u9=>
  cond (u9.1.1 !=((BL.getD (t6.toNat) ([],[],false,())).2.2.1))
   (some ((false,()),()))
  (cond (!((BL.getD (t6.toNat) ([],[],false,())).2.2.1))
   (R5 (AQ (t5+1)) (AQ (t6+1)) AK AF Bn BL)
  (R5 t5 (AQ (t6+1)) AK AF Bn BL)))))else none)
 (some ((decide (t5<=6),()),()))
def MJ:Nat->Vi
 |0=>fun _ _ _ _ _ _=>none
 |n+1=>Xo (MJ n)
def YH(R5:Vi)(p0:ABx)(p1:AB5):Option Ni:=
 (Ge (p0.1,p0.2.1,())).bind fun u1=>
 cond (!u1.1.1)
  (some ((false,()),()))
 ((CF p1.1 1 30).bind fun u2=>
 cond (!u2.1.1)
  (some ((false,()),()))
 (cond (decide ((p1.2.1.length:Int)>60))
  (some ((false,()),()))
 (R5 0 0 p0.1 p0.2.1 p1.1 p1.2.1)))
def Hr(p0:ABx)(p1:AB5):Option Ni:=YH (MJ AW) p0 p1
abbrev M8:Type:=AB2×Unit
def Gl(p0:Int):Option M8:=
 (FE p0).bind fun u1=>
 cond (!u1.1.1)
  (some ((0,()),()))
 (some ((p0.tmod 4294967296,()),()))
abbrev vx:Type:=AB2×Unit
def Sx(p0:AB1):Option vx:=
 cond ((p0.2.2.2.1.length:Int)==0)
  (some ((0,()),()))
 (let x2:Int:=(p0.2.2.2.1.length:Int)
 if(0:Int)<=AQ (x2-1)/\AQ (x2-1)<(p0.2.2.2.1.length:Int)then(
 (Gl ((p0.2.2.2.1.getD ((AQ (x2-1)).toNat) (0,0,false,[],())).1)).bind fun u4=>
 some ((u4.1.1,()),()))else none)
abbrev Nw:Type:=ABz×Unit
abbrev UN:Type:=Int->List Int->Int->Int->Int->List Int->ABd->Bool->List AAA->Option Nw
abbrev UQ:Type:=Int->List Int->Int->Int->Int->List Int->ABd->Bool->List AAA->Option Nw
def UM(R4:UN)(R9:UQ)(t5:Int)(AK:AAA)(AF Bn BL:Int)(CM:AAA)(EG:ABd)(HF:Bool)(FI:List AAA):Option Nw:=
 cond ((decide (t5<(EG.length:Int))))
  (if(0:Int)<=t5/\t5<(EG.length:Int)then(
  (Ml ((EG.getD (t5.toNat) (0,0,false,[],())).1,(EG.getD (t5.toNat) (0,0,false,[],())).2.1,(EG.getD (t5.toNat) (0,0,false,[],())).2.2.1,(EG.getD (t5.toNat) (0,0,false,[],())).2.2.2.1,())).bind fun u7=>
  cond (!u7.1.1)
   (some ((false,()),()))
  (if(0:Int)<=t5/\t5<(EG.length:Int)then(
  (Cn ((EG.getD (t5.toNat) (0,0,false,[],())).1)).bind fun u9=>
  cond (u9.1.1 !=BL)
   (some ((false,()),()))
  (if(0:Int)<=t5/\t5<(EG.length:Int)then(
  cond (decide (((EG.getD (t5.toNat) (0,0,false,[],())).2.1)>=Bn))
   (some ((false,()),()))
  (R4 (AQ (t5+1)) AK AF Bn BL CM EG HF FI))else none))else none))else none)
 (R9 0 AK AF Bn BL CM EG HF FI)
def TZ(R4:UN)(R9:UQ)(t6:Int)(AK:AAA)(AF Bn BL:Int)(CM:AAA)(EG:ABd)(HF:Bool)(FI:List AAA):Option Nw:=
 cond ((decide (t6<(FI.length:Int))))
  (if(0:Int)<=t6/\t6<(FI.length:Int)then(
  (Gz (AK,AF,()) (FI.getD (t6.toNat) [])).bind fun Md=>
  cond (!Md.1.1)
   (some ((false,()),()))
  (R9 (AQ (t6+1)) AK AF Bn BL CM EG HF FI))else none)
 (cond (!HF)
  (some ((((FI.length:Int)==0),()),()))
 ((Sx (Bn,BL,CM,EG,HF,FI,())).bind fun Mc=>
 some ((((FI.length:Int)==Mc.1.1),()),())))
mutual
def Jo:Nat->UN
 |0=>fun _ _ _ _ _ _ _ _ _=>none
 |n+1=>UM (Jo n) (ID n)
def ID:Nat->UQ
 |0=>fun _ _ _ _ _ _ _ _ _=>none
 |n+1=>TZ (Jo n) (ID n)
end
def az(R4:UN)(R9:UQ)(p0:ABx)(p1:AB1):Option Nw:=
 (Ge (p0.1,p0.2.1,())).bind fun u1=>
 cond (!u1.1.1)
  (some ((false,()),()))
 ((CF p1.2.1 1 30).bind fun u2=>
 cond (!u2.1.1)
  (some ((false,()),()))
 ((CF p1.1 (AQ (p1.2.1+1)) 30).bind fun u3=>
 cond (!u3.1.1)
  (some ((false,()),()))
 ((Gz (p0.1,p0.2.1,()) p1.2.2.1).bind fun u4=>
 cond (!u4.1.1)
  (some ((false,()),()))
 ((Z9 p1.2.2.2.1).bind fun u5=>
 cond (!u5.1.1)
  (some ((false,()),()))
 (R4 0 p0.1 p0.2.1 p1.1 p1.2.1 p1.2.2.1 p1.2.2.2.1 p1.2.2.2.2.1 p1.2.2.2.2.2.1)))))
def JK(p0:ABx)(p1:AB1):Option Nw:=az (Jo AW) (ID AW) p0 p1
abbrev JT:Type:=ABz×Unit
abbrev Oq:Type:=Int->Int->List Int->Int->AAd->List Int->AAf->Int->ABE->ABI->AAs->AA8->Bool->Option JT
abbrev M9:Type:=Int->Int->List Int->Int->AAd->List Int->AAf->Int->ABE->ABI->AAs->AA8->Bool->Option JT
def PN(R5:Oq)(R10:M9)(t3 t4:Int)(AK:AAA)(AF:Int)(AZ:AAd)(BD:AAA)(BI:AAf)(AO:Int)(Bl:ABE)(Bk:ABI)(BN:AAs)(Bo:AA8)(AH:Bool):Option JT:=
 cond ((decide (t4<(Bl.length:Int))))
  (if(0:Int)<=t4/\t4<(Bl.length:Int)then(
  (Hr (AK,AF,()) ((Bl.getD (t4.toNat) (0,[],())).1,(Bl.getD (t4.toNat) (0,[],())).2.1,())).bind fun u6=>
  cond (!u6.1.1)
   (some ((false,()),()))
  (if(0:Int)<=t4/\t4<(Bl.length:Int)then(
  cond (decide (((Bl.getD (t4.toNat) (0,[],())).1)>t3))
   (some ((false,()),()))
  (cond (decide (t4>0))
   (if(0:Int)<=AQ (t4-1)/\AQ (t4-1)<(Bl.length:Int)then(
   if(0:Int)<=t4/\t4<(Bl.length:Int)then(
   cond (decide (((Bl.getD ((AQ (t4-1)).toNat) (0,[],())).1)>=((Bl.getD (t4.toNat) (0,[],())).1)))
    (some ((false,()),()))
   (R5 t3 (AQ (t4+1)) AK AF AZ BD BI AO Bl Bk BN Bo AH))else none)else none)
  (R5 t3 (AQ (t4+1)) AK AF AZ BD BI AO Bl Bk BN Bo AH)))else none))else none)
 (R10 t3 0 AK AF AZ BD BI AO Bl Bk BN Bo AH)
def OA(R5:Oq)(R10:M9)(t3 t5:Int)(AK:AAA)(AF:Int)(AZ:AAd)(BD:AAA)(BI:AAf)(AO:Int)(Bl:ABE)(Bk:ABI)(BN:AAs)(Bo:AA8)(AH:Bool):Option JT:=
 cond ((decide (t5<(Bk.length:Int))))
  (if(0:Int)<=t5/\t5<(Bk.length:Int)then(
  (JK (AK,AF,()) ((Bk.getD (t5.toNat) (0,0,[],[],false,[],())).1,(Bk.getD (t5.toNat) (0,0,[],[],false,[],())).2.1,(Bk.getD (t5.toNat) (0,0,[],[],false,[],())).2.2.1,(Bk.getD (t5.toNat) (0,0,[],[],false,[],())).2.2.2.1,(Bk.getD (t5.toNat) (0,0,[],[],false,[],())).2.2.2.2.1,(Bk.getD (t5.toNat) (0,0,[],[],false,[],())).2.2.2.2.2.1,())).bind fun Ed=>
  cond (!Ed.1.1)
   (some ((false,()),()))
  (cond (((Bk.getD (t5.toNat) (0,0,[],[],false,[],())).1) !=t3)
   (some ((false,()),()))
  ((Jq (BI,AO,())).bind fun Mc=>
  cond (((Bk.getD (t5.toNat) (0,0,[],[],false,[],())).2.1) !=Mc.1.1)
   (some ((false,()),()))
  (R10 t3 (AQ (t5+1)) AK AF AZ BD BI AO Bl Bk BN Bo AH))))else none)
 (some ((true,()),()))
mutual
def G4:Nat->Oq
 |0=>fun _ _ _ _ _ _ _ _ _ _ _ _ _=>none
 |n+1=>PN (G4 n) (Ex n)
def Ex:Nat->M9
 |0=>fun _ _ _ _ _ _ _ _ _ _ _ _ _=>none
 |n+1=>OA (G4 n) (Ex n)
end
def W7(R5:Oq)(R10:M9)(p0:AB0):Option JT:=
 (M5 (p0.1,p0.2.1,()) (p0.2.2.2.2.1,p0.2.2.2.2.2.1,())).bind fun u2=>
 cond (!u2.1.1)
  (some ((false,()),()))
 (cond (decide ((p0.2.2.2.2.2.2.1.length:Int)>4))
  (some ((false,()),()))
 (cond (decide ((p0.2.2.2.2.2.2.2.1.length:Int)>1))
  (some ((false,()),()))
 (R5 (p0.2.2.2.2.1.length:Int) 0 p0.1 p0.2.1 p0.2.2.1 p0.2.2.2.1 p0.2.2.2.2.1 p0.2.2.2.2.2.1 p0.2.2.2.2.2.2.1 p0.2.2.2.2.2.2.2.1 p0.2.2.2.2.2.2.2.2.1 p0.2.2.2.2.2.2.2.2.2.1 p0.2.2.2.2.2.2.2.2.2.2.1)))
def TJ(p0:AB0):Option JT:=W7 (G4 AW) (Ex AW) p0
abbrev qi:Type:=ABz×Unit
def Nn(p0:ADU):Option qi:=
 (CF p0.1 1 31).bind fun u1=>
 cond (u1.1.1)
  ((CF p0.2.1 1 61).bind fun u2=>
  cond (u2.1.1)
   (some ((decide ((p0.2.2.1.length:Int)<=120),()),()))
  (some ((false,()),())))
 (some ((false,()),()))
abbrev Tq:Type:=ABz×Unit
abbrev Xc:Type:=Int->List Int->Int->AAd->List Int->AAf->Int->ABE->ABI->AAs->AA8->Bool->Option Tq
def Rv(R4:Xc)(t3:Int)(AK:AAA)(AF:Int)(AZ:AAd)(BD:AAA)(BI:AAf)(AO:Int)(Bl:ABE)(Bk:ABI)(BN:AAs)(Bo:AA8)(AH:Bool):Option Tq:=
 cond ((decide (t3<(Bo.length:Int))))
  (if(0:Int)<=t3/\t3<(Bo.length:Int)then(
  (FE ((Bo.getD (t3.toNat) (0,[],false,())).1)).bind fun u4=>
  cond (!u4.1.1)
   (some ((false,()),()))
  ((Cn ((Bo.getD (t3.toNat) (0,[],false,())).1)).bind fun u6=>
  cond ((decide (u6.1.1>(BI.length:Int))))
   (some ((false,()),()))
  (cond ((decide ((((Bo.getD (t3.toNat) (0,[],false,())).2.1).length:Int)>40)))
   (some ((false,()),()))
  (cond (decide (t3>0))
   (if(0:Int)<=AQ (t3-1)/\AQ (t3-1)<(Bo.length:Int)then(
   cond (decide (((Bo.getD ((AQ (t3-1)).toNat) (0,[],false,())).1)>=((Bo.getD (t3.toNat) (0,[],false,())).1)))
    (some ((false,()),()))
   (R4 (AQ (t3+1)) AK AF AZ BD BI AO Bl Bk BN Bo AH))else none)
  (R4 (AQ (t3+1)) AK AF AZ BD BI AO Bl Bk BN Bo AH)))))else none)
 (some ((true,()),()))
def KW:Nat->Xc
 |0=>fun _ _ _ _ _ _ _ _ _ _ _ _=>none
 |n+1=>Rv (KW n)
def Z5(R4:Xc)(p0:AB0):Option Tq:=
 cond (decide ((p0.2.2.2.2.2.2.2.2.2.1.length:Int)>120))
  (some ((false,()),()))
 (R4 0 p0.1 p0.2.1 p0.2.2.1 p0.2.2.2.1 p0.2.2.2.2.1 p0.2.2.2.2.2.1 p0.2.2.2.2.2.2.1 p0.2.2.2.2.2.2.2.1 p0.2.2.2.2.2.2.2.2.1 p0.2.2.2.2.2.2.2.2.2.1 p0.2.2.2.2.2.2.2.2.2.2.1)
def Ya(p0:AB0):Option Tq:=Z5 (KW AW) p0
abbrev sK:Type:=ABz×Unit
def Gq(p0:AB0):Option sK:=
 (WH (p0.1,p0.2.1,p0.2.2.1,p0.2.2.2.1,p0.2.2.2.2.1,p0.2.2.2.2.2.1,p0.2.2.2.2.2.2.1,p0.2.2.2.2.2.2.2.1,p0.2.2.2.2.2.2.2.2.1,p0.2.2.2.2.2.2.2.2.2.1,p0.2.2.2.2.2.2.2.2.2.2.1,())).bind fun u1=>
 cond (u1.1.1)
  ((TJ (p0.1,p0.2.1,p0.2.2.1,p0.2.2.2.1,p0.2.2.2.2.1,p0.2.2.2.2.2.1,p0.2.2.2.2.2.2.1,p0.2.2.2.2.2.2.2.1,p0.2.2.2.2.2.2.2.2.1,p0.2.2.2.2.2.2.2.2.2.1,p0.2.2.2.2.2.2.2.2.2.2.1,())).bind fun u2=>
  cond (u2.1.1)
   (cond ((p0.2.2.2.2.2.2.2.2.1.length:Int)==2)
    (if(0:Int)<=(0:Int)/\(0:Int)<(p0.2.2.2.2.2.2.2.2.1.length:Int)then(
    (Nn ((p0.2.2.2.2.2.2.2.2.1.getD 0 (0,0,[],())).1,(p0.2.2.2.2.2.2.2.2.1.getD 0 (0,0,[],())).2.1,(p0.2.2.2.2.2.2.2.2.1.getD 0 (0,0,[],())).2.2.1,())).bind fun u4=>
    cond (u4.1.1)
     (if(0:Int)<=(1:Int)/\(1:Int)<(p0.2.2.2.2.2.2.2.2.1.length:Int)then(
     (Nn ((p0.2.2.2.2.2.2.2.2.1.getD 1 (0,0,[],())).1,(p0.2.2.2.2.2.2.2.2.1.getD 1 (0,0,[],())).2.1,(p0.2.2.2.2.2.2.2.2.1.getD 1 (0,0,[],())).2.2.1,())).bind fun u5=>
     cond (u5.1.1)
      ((Ya (p0.1,p0.2.1,p0.2.2.1,p0.2.2.2.1,p0.2.2.2.2.1,p0.2.2.2.2.2.1,p0.2.2.2.2.2.2.1,p0.2.2.2.2.2.2.2.1,p0.2.2.2.2.2.2.2.2.1,p0.2.2.2.2.2.2.2.2.2.1,p0.2.2.2.2.2.2.2.2.2.2.1,())).bind fun u6=>
      some ((u6.1.1,()),()))
     (some ((false,()),())))else none)
    (some ((false,()),())))else none)
   (some ((false,()),())))
  (some ((false,()),())))
 (some ((false,()),()))
abbrev rh:Type:=AGA×Unit
def cT(p0:ADJ):Option rh:=
 cond (p0.1==1)
  (some (((p0.1,p0.2.1,0,0,[],()),()),()))
 (cond (p0.1==4)
  (some (((p0.1,p0.2.1,0,0,[],()),()),()))
 (cond (p0.1==6)
  (some (((p0.1,p0.2.1,0,0,[],()),()),()))
 (cond (p0.1==7)
  (some (((p0.1,p0.2.1,0,0,[],()),()),()))
 (cond (p0.1==9)
  (some (((p0.1,p0.2.1,0,0,[],()),()),()))
 (cond (p0.1==13)
  (some (((p0.1,p0.2.1,0,0,[],()),()),()))
 (cond (p0.1==15)
  (some (((p0.1,p0.2.1,0,0,[],()),()),()))
 (cond (p0.1==16)
  (some (((p0.1,p0.2.1,0,0,[],()),()),()))
 (cond (p0.1==2)
  (some (((p0.1,p0.2.1,0,0,p0.2.2.2.2.1,()),()),()))
 (cond (p0.1==3)
  (some (((p0.1,p0.2.1,p0.2.2.1,p0.2.2.2.1,[],()),()),()))
 (cond (p0.1==5)
  (some (((p0.1,p0.2.1,p0.2.2.1,0,[],()),()),()))
 (cond (p0.1==14)
  (some (((p0.1,p0.2.1,p0.2.2.1,0,[],()),()),()))
 (cond (p0.1==11)
  (some (((p0.1,0,p0.2.2.1,p0.2.2.2.1,[],()),()),()))
 (some (((p0.1,0,0,0,[],()),()),()))))))))))))))
abbrev vi:Type:=ABz×Unit
def W0(p0:ADJ):Option vi:=
 (CF p0.1 1 16).bind fun u1=>
 cond (u1.1.1)
  ((cT (p0.1,p0.2.1,p0.2.2.1,p0.2.2.2.1,p0.2.2.2.2.1,())).bind fun u2=>
  cond (((p0.1==u2.1.1.1)&&((p0.2.1==u2.1.1.2.1)&&((p0.2.2.1==u2.1.1.2.2.1)&&((p0.2.2.2.1==u2.1.1.2.2.2.1)&&((p0.2.2.2.2.1==u2.1.1.2.2.2.2.1)&&true))))))
   (some ((decide ((p0.2.2.2.2.1.length:Int)<=40),()),()))
  (some ((false,()),())))
 (some ((false,()),()))
abbrev Ga:Type:=AF8×AFi
abbrev ZO:Type:=Int->AAf->Int->Int->AAf->Int->AAf->Option Ga
def bQ(R3:ZO)(t4:Int)(AK:AAf)(AF BL:Int)(b2:AAf)(cQ:Int)(b4:AAf):Option Ga:=
 cond ((decide (t4<(AK.length:Int))))
  (if(0:Int)<=t4/\t4<(AK.length:Int)then(
  if 0+((AK.getD (t4.toNat) ([],false,0,())).1).length<=CN then(
  if b4.length+1<=CN then(
  R3 (AQ (t4+1)) AK AF BL b2 cQ (b4++[(((AK.getD (t4.toNat) ([],false,0,())).1),(AK.getD (t4.toNat) ([],false,0,())).2.1,(AK.getD (t4.toNat) ([],false,0,())).2.2.1,())]))else none)else none)else none)
 (some ((((),cQ,()),()),(b4,())))
def PV:Nat->ZO
 |0=>fun _ _ _ _ _ _ _=>none
 |n+1=>bQ (PV n)
def bA(R3:ZO)(p0:AB4):Option Ga:=
 R3 0 p0.1 p0.2.1 0 [] p0.2.1 []
def GN(p0:AB4):Option Ga:=bA (PV AW) p0
abbrev Np:Type:=AHj×AEz
def Eg(p0:ADA):Option Np:=
 if 0+p0.1.length<=CN then(
 if 0+p0.2.1.length<=CN then(
 some ((((),(),p0.2.2.1,()),()),(p0.1,p0.2.1,())))else none)else none
abbrev GX:Type:=AHm×AFk
abbrev ZT:Type:=Int->Int->AB3->Int->AB3->Int->AB3->Option GX
def bp(R3:ZT)(t4 AK:Int)(AF:AB3)(Bn:Int)(b2:AB3)(AFX:Int)(b4:AB3):Option GX:=
 cond ((decide (t4<(AF.length:Int))))
  (if(0:Int)<=t4/\t4<(AF.length:Int)then(
  if 0+((AF.getD (t4.toNat) ([],[],false,())).2.1).length<=CN then(
  if b4.length+1<=CN then(
  R3 (AQ (t4+1)) AK AF Bn b2 AFX (b4++[((AF.getD (t4.toNat) ([],[],false,())).1,((AF.getD (t4.toNat) ([],[],false,())).2.1),(AF.getD (t4.toNat) ([],[],false,())).2.2.1,())]))else none)else none)else none)
 (some (((AFX,(),()),()),(b4,())))
def Pk:Nat->ZT
 |0=>fun _ _ _ _ _ _ _=>none
 |n+1=>bp (Pk n)
def an(R3:ZT)(p0:AB5):Option GX:=
 R3 0 p0.1 p0.2.1 0 [] p0.1 []
def FT(p0:AB5):Option GX:=an (Pk AW) p0
abbrev Hq:Type:=AGC×AFA
abbrev ZQ:Type:=Int->Int->Int->List Int->ABd->Bool->List AAA->Int->Int->Bool->List Int->ABd->List AAA->Int->Int->Bool->List Int->ABd->List AAA->Option Hq
def Tm(R3:ZQ)(t4 AK AF:Int)(AZ:AAA)(BD:ABd)(BI:Bool)(AO:List AAA)(Bn BL:Int)(HF:Bool)(b2:AAA)(b3:ABd)(b4:List AAA)(AIM ABq:Int)(AGF:Bool)(b6:AAA)(b7:ABd)(b8:List AAA):Option Hq:=
 cond ((decide (t4<(AO.length:Int))))
  (if(0:Int)<=t4/\t4<(AO.length:Int)then(
  if 0+(AO.getD (t4.toNat) []).length<=CN then(
  if b8.length+1<=CN then(
  R3 (AQ (t4+1)) AK AF AZ BD BI AO Bn BL HF b2 b3 b4 AIM ABq AGF b6 b7 (b8++[(AO.getD (t4.toNat) [])]))else none)else none)else none)
 (some (((AIM,ABq,(),(),AGF,(),()),()),(b6,b7,b8,())))
def H7:Nat->ZQ
 |0=>fun _ _ _ _ _ _ _ _ _ _ _ _ _ _ _ _ _ _ _=>none
 |n+1=>Tm (H7 n)
def OM(R3:ZQ)(p0:AB1):Option Hq:=
 if 0+p0.2.2.1.length<=CN then(
 if 0+p0.2.2.2.1.length<=CN then(
 R3 0 p0.1 p0.2.1 p0.2.2.1 p0.2.2.2.1 p0.2.2.2.2.1 p0.2.2.2.2.2.1 0 0 false [] [] [] p0.1 p0.2.1 p0.2.2.2.2.1 p0.2.2.1 p0.2.2.2.1 [])else none)else none
def EO(p0:AB1):Option Hq:=OM (H7 AW) p0
abbrev MG:Type:=AGB×AF1
def CU(p0:ADU):Option MG:=
 if 0+p0.2.2.1.length<=CN then(
 some (((p0.1,p0.2.1,(),()),()),(p0.2.2.1,())))else none
abbrev Fg:Type:=AHr×AEw
abbrev KZ:Type:=Int->List Int->Int->AAd->List Int->AAf->Int->ABE->ABI->AAs->AA8->Bool->Int->Int->Bool->List Int->AAd->List Int->AAf->ABE->ABI->AAs->AA8->Int->Int->Bool->List Int->AAd->List Int->AAf->ABE->ABI->AAs->AA8->Option Fg
abbrev Kd:Type:=Int->List Int->Int->AAd->List Int->AAf->Int->ABE->ABI->AAs->AA8->Bool->Int->Int->Bool->List Int->AAd->List Int->AAf->ABE->ABI->AAs->AA8->Int->Int->Bool->List Int->AAd->List Int->AAf->ABE->ABI->AAs->AA8->Option Fg
abbrev Ji:Type:=Int->List Int->Int->AAd->List Int->AAf->Int->ABE->ABI->AAs->AA8->Bool->Int->Int->Bool->List Int->AAd->List Int->AAf->ABE->ABI->AAs->AA8->Int->Int->Bool->List Int->AAd->List Int->AAf->ABE->ABI->AAs->AA8->Option Fg
abbrev JN:Type:=Int->List Int->Int->AAd->List Int->AAf->Int->ABE->ABI->AAs->AA8->Bool->Int->Int->Bool->List Int->AAd->List Int->AAf->ABE->ABI->AAs->AA8->Int->Int->Bool->List Int->AAd->List Int->AAf->ABE->ABI->AAs->AA8->Option Fg
def SV(R3:KZ)(R7:Kd)(ja:Ji)(gQ:JN)(t4:Int)(AK:AAA)(AF:Int)(AZ:AAd)(BD:AAA)(BI:AAf)(AO:Int)(Bl:ABE)(Bk:ABI)(BN:AAs)(Bo:AA8)(AH:Bool)(BL FI:Int)(Hi:Bool)(b2:AAA)(b3:AAd)(b4:AAA)(b5:AAf)(b6:ABE)(b7:ABI)(b8:AAs)(b9:AA8)(FJ HD:Int)(ED:Bool)(Hh:AAA)(EW:AAd)(Ii:AAA)(Iy:AAf)(FU:ABE)(GR:ABI)(HH:AAs)(cg:AA8):Option Fg:=
 cond ((decide (t4<(AZ.length:Int))))
  (if(0:Int)<=t4/\t4<(AZ.length:Int)then(
  (Eg ((AZ.getD (t4.toNat) ([],[],0,())).1,(AZ.getD (t4.toNat) ([],[],0,())).2.1,(AZ.getD (t4.toNat) ([],[],0,())).2.2.1,())).bind fun AC2=>
  if EW.length+1<=CN then(
  R3 (AQ (t4+1)) AK AF AZ BD BI AO Bl Bk BN Bo AH BL FI Hi b2 b3 b4 b5 b6 b7 b8 b9 FJ HD ED Hh (EW++[(AC2.2.1,AC2.2.2.1,AC2.1.1.2.2.1,())]) Ii Iy FU GR HH cg)else none)else none)
 (R7 0 AK AF AZ BD BI AO Bl Bk BN Bo AH BL FI Hi b2 b3 b4 b5 b6 b7 b8 b9 FJ HD ED Hh EW Ii Iy FU GR HH cg)
def SX(R3:KZ)(R7:Kd)(ja:Ji)(gQ:JN)(t5:Int)(AK:AAA)(AF:Int)(AZ:AAd)(BD:AAA)(BI:AAf)(AO:Int)(Bl:ABE)(Bk:ABI)(BN:AAs)(Bo:AA8)(AH:Bool)(BL FI:Int)(Hi:Bool)(b2:AAA)(b3:AAd)(b4:AAA)(b5:AAf)(b6:ABE)(b7:ABI)(b8:AAs)(b9:AA8)(FJ HD:Int)(ED:Bool)(Hh:AAA)(EW:AAd)(Ii:AAA)(Iy:AAf)(FU:ABE)(GR:ABI)(HH:AAs)(cg:AA8):Option Fg:=
 cond ((decide (t5<(Bl.length:Int))))
  (if(0:Int)<=t5/\t5<(Bl.length:Int)then(
  (FT ((Bl.getD (t5.toNat) (0,[],())).1,(Bl.getD (t5.toNat) (0,[],())).2.1,())).bind fun AHv=>
  if FU.length+1<=CN then(
  R7 (AQ (t5+1)) AK AF AZ BD BI AO Bl Bk BN Bo AH BL FI Hi b2 b3 b4 b5 b6 b7 b8 b9 FJ HD ED Hh EW Ii Iy (FU++[(AHv.1.1.1,AHv.2.1,())]) GR HH cg)else none)else none)
 (ja 0 AK AF AZ BD BI AO Bl Bk BN Bo AH BL FI Hi b2 b3 b4 b5 b6 b7 b8 b9 FJ HD ED Hh EW Ii Iy FU GR HH cg)
def Qg(R3:KZ)(R7:Kd)(ja:Ji)(gQ:JN)(t6:Int)(AK:AAA)(AF:Int)(AZ:AAd)(BD:AAA)(BI:AAf)(AO:Int)(Bl:ABE)(Bk:ABI)(BN:AAs)(Bo:AA8)(AH:Bool)(BL FI:Int)(Hi:Bool)(b2:AAA)(b3:AAd)(b4:AAA)(b5:AAf)(b6:ABE)(b7:ABI)(b8:AAs)(b9:AA8)(FJ HD:Int)(ED:Bool)(Hh:AAA)(EW:AAd)(Ii:AAA)(Iy:AAf)(FU:ABE)(GR:ABI)(HH:AAs)(cg:AA8):Option Fg:=
 cond ((decide (t6<(Bk.length:Int))))
  (if(0:Int)<=t6/\t6<(Bk.length:Int)then(
  (EO ((Bk.getD (t6.toNat) (0,0,[],[],false,[],())).1,(Bk.getD (t6.toNat) (0,0,[],[],false,[],())).2.1,(Bk.getD (t6.toNat) (0,0,[],[],false,[],())).2.2.1,(Bk.getD (t6.toNat) (0,0,[],[],false,[],())).2.2.2.1,(Bk.getD (t6.toNat) (0,0,[],[],false,[],())).2.2.2.2.1,(Bk.getD (t6.toNat) (0,0,[],[],false,[],())).2.2.2.2.2.1,())).bind fun ni=>
  if GR.length+1<=CN then(
  ja (AQ (t6+1)) AK AF AZ BD BI AO Bl Bk BN Bo AH BL FI Hi b2 b3 b4 b5 b6 b7 b8 b9 FJ HD ED Hh EW Ii Iy FU (GR++[(ni.1.1.1,ni.1.1.2.1,ni.2.1,ni.2.2.1,ni.1.1.2.2.2.2.1,ni.2.2.2.1,())]) HH cg)else none)else none)
 (gQ 0 AK AF AZ BD BI AO Bl Bk BN Bo AH BL FI Hi b2 b3 b4 b5 b6 b7 b8 b9 FJ HD ED Hh EW Ii Iy FU GR HH cg)
def Qh(R3:KZ)(R7:Kd)(ja:Ji)(gQ:JN)(t7:Int)(AK:AAA)(AF:Int)(AZ:AAd)(BD:AAA)(BI:AAf)(AO:Int)(Bl:ABE)(Bk:ABI)(BN:AAs)(Bo:AA8)(AH:Bool)(BL FI:Int)(Hi:Bool)(b2:AAA)(b3:AAd)(b4:AAA)(b5:AAf)(b6:ABE)(b7:ABI)(b8:AAs)(b9:AA8)(FJ HD:Int)(ED:Bool)(Hh:AAA)(EW:AAd)(Ii:AAA)(Iy:AAf)(FU:ABE)(GR:ABI)(HH:AAs)(cg:AA8):Option Fg:=
 cond ((decide (t7<(BN.length:Int))))
  (if(0:Int)<=t7/\t7<(BN.length:Int)then(
  (CU ((BN.getD (t7.toNat) (0,0,[],())).1,(BN.getD (t7.toNat) (0,0,[],())).2.1,(BN.getD (t7.toNat) (0,0,[],())).2.2.1,())).bind fun ACe=>
  if HH.length+1<=CN then(
  gQ (AQ (t7+1)) AK AF AZ BD BI AO Bl Bk BN Bo AH BL FI Hi b2 b3 b4 b5 b6 b7 b8 b9 FJ HD ED Hh EW Ii Iy FU GR (HH++[(ACe.1.1.1,ACe.1.1.2.1,ACe.2.1,())]) cg)else none)else none)
 (some ((((),FJ,(),(),(),HD,(),(),(),(),ED,()),()),(Hh,EW,Ii,Iy,FU,GR,HH,cg,())))
mutual
def Cq:Nat->KZ
 |0=>fun _ _ _ _ _ _ _ _ _ _ _ _ _ _ _ _ _ _ _ _ _ _ _ _ _ _ _ _ _ _ _ _ _ _=>none
 |n+1=>SV (Cq n) (Cp n) (CZ n) (Cb n)
def Cp:Nat->Kd
 |0=>fun _ _ _ _ _ _ _ _ _ _ _ _ _ _ _ _ _ _ _ _ _ _ _ _ _ _ _ _ _ _ _ _ _ _=>none
 |n+1=>SX (Cq n) (Cp n) (CZ n) (Cb n)
def CZ:Nat->Ji
 |0=>fun _ _ _ _ _ _ _ _ _ _ _ _ _ _ _ _ _ _ _ _ _ _ _ _ _ _ _ _ _ _ _ _ _ _=>none
 |n+1=>Qg (Cq n) (Cp n) (CZ n) (Cb n)
def Cb:Nat->JN
 |0=>fun _ _ _ _ _ _ _ _ _ _ _ _ _ _ _ _ _ _ _ _ _ _ _ _ _ _ _ _ _ _ _ _ _ _=>none
 |n+1=>Qh (Cq n) (Cp n) (CZ n) (Cb n)
end
def SH(R3:KZ)(R7:Kd)(ja:Ji)(gQ:JN)(p0:AB0):Option Fg:=
 if 0+p0.1.length<=CN then(
 if 0+p0.2.2.2.1.length<=CN then(
 (GN (p0.2.2.2.2.1,p0.2.2.2.2.2.1,())).bind fun u2=>
 if 0+p0.2.2.2.2.2.2.2.2.2.1.length<=CN then(
 R3 0 p0.1 p0.2.1 p0.2.2.1 p0.2.2.2.1 p0.2.2.2.2.1 p0.2.2.2.2.2.1 p0.2.2.2.2.2.2.1 p0.2.2.2.2.2.2.2.1 p0.2.2.2.2.2.2.2.2.1 p0.2.2.2.2.2.2.2.2.2.1 p0.2.2.2.2.2.2.2.2.2.2.1 0 0 false [] [] [] [] [] [] [] [] p0.2.1 u2.1.1.2.1 p0.2.2.2.2.2.2.2.2.2.2.1 p0.1 [] p0.2.2.2.1 u2.2.1 [] [] [] p0.2.2.2.2.2.2.2.2.2.1)else none)else none)else none
def Mz(p0:AB0):Option Fg:=SH (Cq AW) (Cp AW) (CZ AW) (Cb AW) p0
abbrev QN:Type:=ACL×ADH
abbrev T_:Type:=Int->Int->List Int->Option QN
def PR(R3:T_)(t0 t4:Int)(b0:AAA):Option QN:=
 cond (decide (t4<8))
  ((CF t0 0 255).bind fun u1=>
  cond (u1.1.1)
   (if t4<0 then none else(
   cond (((gU .i64 (t0.fdiv (2^(min t4.toNat 64))) 1)==1))
    (if b0.length+1<=CN then(
    R3 t0 (AQ (t4+1)) (b0++[t4]))else none)
   (R3 t0 (AQ (t4+1)) b0)))
  (some (((),()),(b0,()))))
 (some (((),()),(b0,())))
def Ia:Nat->T_
 |0=>fun _ _ _=>none
 |n+1=>PR (Ia n)
def Wm(R3:T_)(p0:Int):Option QN:=
 R3 p0 0 []
def PU(p0:Int):Option QN:=Wm (Ia AW) p0
abbrev uc:Type:=(AIX×Unit)×AFi
def P6(p0:ABx)(p1:AB4)(p2:AAA):Option uc:=
 (M5 (p0.1,p0.2.1,()) (p1.1,p1.2.1,())).bind fun u1=>
 cond (!u1.1.1)
  (some (((((),0,()),0,false,()),()),([],())))
 ((GN (p1.1,p1.2.1,())).bind fun u2=>
 (F4 (p0.1,p0.2.1,()) p2).bind fun u3=>
 cond (!u3.1.1)
  (some (((((),u2.1.1.2.1,()),0,false,()),()),(u2.2.1,())))
 (cond (((p1.1.length:Int)==30))
  (some (((((),u2.1.1.2.1,()),0,false,()),()),(u2.2.1,())))
 (if 0+p2.length<=CN then(
 if u2.2.1.length+1<=CN then(
 let x5:AAf:=u2.2.1++[(p2,false,0,())]
 some (((((),u2.1.1.2.1,()),(x5.length:Int),true,()),()),(x5,())))else none)else none)))
abbrev gg:Type:=AEq×(List Int×AAd×List Int×Unit×Unit×Unit×AAs×AA8×AAf×ABE×ABI×Unit)
def Ys(CP CV:Int)(BX:Bool)(p1:ADJ)(b0:AAA)(b1:AAd)(b2:AAA)(b3:AAf)(b4:ABE)(b5:ABI)(b6:AAs)(b7:AA8):Option gg:=
 cond (((b4.length:Int)==4))
  (some (((((),CP,(),(),(),CV,(),(),(),(),BX,()),4,()),()),(b0,b1,b2,(),(),(),b6,b7,b3,b4,b5,())))
 ((PU p1.2.1).bind fun u2=>
 (P6 (b0,CP,()) (b3,CV,()) u2.2.1).bind fun u3=>
 cond (!u3.1.1.2.2.1)
  (some (((((),CP,(),(),(),CV,(),(),(),(),BX,()),4,()),()),(b0,b1,b2,(),(),(),b6,b7,b3,b4,b5,())))
 (if b4.length+1<=CN then(
 some (((((),CP,(),(),(),u3.1.1.1.2.1,(),(),(),(),BX,()),0,()),()),(b0,b1,b2,(),(),(),b6,b7,u3.2.1,(b4++[(u3.1.1.2.1,[],())]),[],())))else none))
abbrev o5:Type:=ABz×Unit
def Lq(p0:AB0)(p1:Int):Option o5:=
 (CF p1 0 (AQ ((p0.2.2.2.2.2.2.1.length:Int)-1))).bind fun u2=>
 some ((u2.1.1,()),())
abbrev nL:Type:=(AIa×Unit)×AFk
def Lj(p0:ABx)(p1:AB5)(p2:ABF):Option nL:=
 (Hr (p0.1,p0.2.1,()) (p1.1,p1.2.1,())).bind fun u1=>
 cond (!u1.1.1)
  (some ((((0,(),()),0,false,()),()),([],())))
 ((FT (p1.1,p1.2.1,())).bind fun u2=>
 if u2.2.1.length+1<=CN then(
 let x3:AB3:=u2.2.1++[(p2,[],false,())]
 (Hr (p0.1,p0.2.1,()) (u2.1.1.1,x3,())).bind fun u4=>
 cond (!u4.1.1)
  ((FT (p1.1,p1.2.1,())).bind fun u5=>
  some ((((u5.1.1.1,(),()),0,false,()),()),(u5.2.1,())))
 (some ((((u2.1.1.1,(),()),(x3.length:Int),true,()),()),(x3,()))))else none)
abbrev KD:Type:=AB2×Unit
def Dh(p0 p1:Int):Option KD:=
 some ((AQ ((AQ (4294967296*p0))+p1),()),())
abbrev LB:Type:=AEq×(List Int×AAd×List Int×AAf×ABE×ABI×AAs×Unit×AA8×Unit)
abbrev Ue:Type:=Int->List Int->AAd->List Int->AAf->ABE->ABI->AAs->AA8->Int->Int->Bool->Int->Int->Bool->List Int->AAd->List Int->AAf->ABE->ABI->AAs->AA8->Int->List UInt8->Bool->Option LB
abbrev Rj:Type:=Bool->Int->List Int->AAd->List Int->AAf->ABE->ABI->AAs->AA8->Int->Int->Bool->Int->Int->Bool->List Int->AAd->List Int->AAf->ABE->ABI->AAs->AA8->Int->List UInt8->Bool->AA8->Option LB
def br(R9:Ue)(R16:Rj)(t10:Int)(b0:AAA)(b1:AAd)(b2:AAA)(b3:AAf)(b4:ABE)(b5:ABI)(b6:AAs)(b7:AA8)(D4 EJ:Int)(Cf:Bool)(E7 HM:Int)(De:Bool)(PX:AAA)(Hh:AAd)(EW:AAA)(Ii:AAf)(Iy:ABE)(FU:ABI)(GR:AAs)(HH:AA8)(C5:Int)(DX:ABF)(C6:Bool):Option LB:=
 cond ((decide (t10<(b7.length:Int))))
  (if(0:Int)<=t10/\t10<(b7.length:Int)then(
  cond (((b7.getD (t10.toNat) (0,[],false,())).1)==C5)
   (some (((((),D4,(),(),(),EJ,(),(),(),(),Cf,()),4,()),()),(b0,b1,b2,b3,b4,b5,b6,(),b7,())))
  (R9 (AQ (t10+1)) b0 b1 b2 b3 b4 b5 b6 b7 D4 EJ Cf E7 HM De PX Hh EW Ii Iy FU GR HH C5 DX C6))else none)
 (R16 false 0 b0 b1 b2 b3 b4 b5 b6 b7 D4 EJ Cf E7 HM De PX Hh EW Ii Iy FU GR HH C5 DX C6 [])
def Z3(R9:Ue)(R16:Rj)(t12:Bool)(t13:Int)(b0:AAA)(b1:AAd)(b2:AAA)(b3:AAf)(b4:ABE)(b5:ABI)(b6:AAs)(b7:AA8)(D4 EJ:Int)(Cf:Bool)(E7 HM:Int)(De:Bool)(PX:AAA)(Hh:AAd)(EW:AAA)(Ii:AAf)(Iy:ABE)(FU:ABI)(GR:AAs)(HH:AA8)(C5:Int)(DX:ABF)(C6:Bool)(y9:AA8):Option LB:=
 cond ((decide (t13<(b7.length:Int))))
  (cond (!t12)
   (if(0:Int)<=t13/\t13<(b7.length:Int)then(
   cond (decide (((b7.getD (t13.toNat) (0,[],false,())).1)>C5))
    (if y9.length+1<=CN then(
    let x18:AA8:=y9++[(C5,DX,C6,())]
    if(0:Int)<=t13/\t13<(b7.length:Int)then(
    if x18.length+1<=CN then(
    R16 true (AQ (t13+1)) b0 b1 b2 b3 b4 b5 b6 b7 D4 EJ Cf E7 HM De PX Hh EW Ii Iy FU GR HH C5 DX C6 (x18++[((b7.getD (t13.toNat) (0,[],false,())).1,(b7.getD (t13.toNat) (0,[],false,())).2.1,(b7.getD (t13.toNat) (0,[],false,())).2.2.1,())]))else none)else none)else none)
   (if(0:Int)<=t13/\t13<(b7.length:Int)then(
   if y9.length+1<=CN then(
   R16 t12 (AQ (t13+1)) b0 b1 b2 b3 b4 b5 b6 b7 D4 EJ Cf E7 HM De PX Hh EW Ii Iy FU GR HH C5 DX C6 (y9++[((b7.getD (t13.toNat) (0,[],false,())).1,(b7.getD (t13.toNat) (0,[],false,())).2.1,(b7.getD (t13.toNat) (0,[],false,())).2.2.1,())]))else none)else none))else none)
  (if(0:Int)<=t13/\t13<(b7.length:Int)then(
  if y9.length+1<=CN then(
  R16 t12 (AQ (t13+1)) b0 b1 b2 b3 b4 b5 b6 b7 D4 EJ Cf E7 HM De PX Hh EW Ii Iy FU GR HH C5 DX C6 (y9++[((b7.getD (t13.toNat) (0,[],false,())).1,(b7.getD (t13.toNat) (0,[],false,())).2.1,(b7.getD (t13.toNat) (0,[],false,())).2.2.1,())]))else none)else none))
 (cond (!t12)
  (if y9.length+1<=CN then(
  some (((((),D4,(),(),(),EJ,(),(),(),(),Cf,()),0,()),()),(b0,b1,b2,b3,b4,b5,b6,(),(y9++[(C5,DX,C6,())]),())))else none)
 (some (((((),D4,(),(),(),EJ,(),(),(),(),Cf,()),0,()),()),(b0,b1,b2,b3,b4,b5,b6,(),y9,()))))
mutual
def Lu:Nat->Ue
 |0=>fun _ _ _ _ _ _ _ _ _ _ _ _ _ _ _ _ _ _ _ _ _ _ _ _ _ _=>none
 |n+1=>br (Lu n) (Kh n)
def Kh:Nat->Rj
 |0=>fun _ _ _ _ _ _ _ _ _ _ _ _ _ _ _ _ _ _ _ _ _ _ _ _ _ _ _ _=>none
 |n+1=>Z3 (Lu n) (Kh n)
end
def aZ(R9:Ue)(R16:Rj)(CP CV:Int)(BX:Bool)(p1:ADJ)(b0:AAA)(b1:AAd)(b2:AAA)(b3:AAf)(b4:ABE)(b5:ABI)(b6:AAs)(b7:AA8):Option LB:=
 (Lq (b0,CP,b1,b2,b3,CV,b4,b5,b6,b7,BX,()) p1.2.1).bind fun u1=>
 cond (!u1.1.1)
  (some (((((),CP,(),(),(),CV,(),(),(),(),BX,()),2,()),()),(b0,b1,b2,b3,b4,b5,b6,(),b7,())))
 (if(0:Int)<=p1.2.1/\p1.2.1<(b4.length:Int)then(
 (Lj (b0,CP,()) ((b4.getD (p1.2.1.toNat) (0,[],())).1,(b4.getD (p1.2.1.toNat) (0,[],())).2.1,()) p1.2.2.2.2.1).bind fun u2=>
 cond (!u2.1.1.2.2.1)
  (some (((((),CP,(),(),(),CV,(),(),(),(),BX,()),4,()),()),(b0,b1,b2,b3,b4,b5,b6,(),b7,())))
 (cond (((b7.length:Int)==120))
  (some (((((),CP,(),(),(),CV,(),(),(),(),BX,()),4,()),()),(b0,b1,b2,b3,b4,b5,b6,(),b7,())))
 (if(0:Int)<=p1.2.1/\p1.2.1<(b4.length:Int)then(
 (Dh u2.1.1.1.1 u2.1.1.2.1).bind fun u5=>
 R9 0 b0 b1 b2 b3 (b4.set (p1.2.1.toNat) (u2.1.1.1.1,u2.2.1,())) b5 b6 b7 CP CV BX 0 0 false [] [] [] [] [] [] [] [] u5.1.1 p1.2.2.2.2.1 false)else none)))else none)
def aX(CP CV:Int)(BX:Bool)(p1:ADJ)(b0:AAA)(b1:AAd)(b2:AAA)(b3:AAf)(b4:ABE)(b5:ABI)(b6:AAs)(b7:AA8):Option LB:=aZ (Lu AW) (Kh AW) CP CV BX p1 b0 b1 b2 b3 b4 b5 b6 b7
abbrev tq:Type:=AB2×Unit
def Hk(p0:AB0)(p1:Int):Option tq:=
 (CF p1 0 (AQ ((p0.2.2.1.length:Int)-1))).bind fun u2=>
 cond (!u2.1.1)
  (some ((2,()),()))
 ((DI p0.2.2.2.1 p1).bind fun u3=>
 cond (u3.1.1)
  (some ((3,()),()))
 (some ((0,()),())))
abbrev uZ:Type:=ABz×Unit
def Yi(p0:ADA)(p1:AEe):Option uZ:=
 cond (p1.2.1==0)
  ((Cn p1.1).bind fun u1=>
  some (((decide (u1.1.1>p0.2.2.1)),()),()))
 (some (((decide (p1.2.1>p0.2.2.1)),()),()))
abbrev rS:Type:=AFH×AEz
def Q8(p0:ADA)(p1:AEe):Option rS:=
 (Gf (p0.1,p0.2.1,p0.2.2.1,())).bind fun u1=>
 cond (!u1.1.1)
  (some (((((),(),0,()),false,()),()),([],[],())))
 ((Eg (p0.1,p0.2.1,p0.2.2.1,())).bind fun u2=>
 (Ml (p1.1,p1.2.1,p1.2.2.1,p1.2.2.2.1,())).bind fun u3=>
 cond (!u3.1.1)
  (some (((((),(),u2.1.1.2.2.1,()),false,()),()),(u2.2.1,u2.2.2.1,())))
 ((Yi (p0.1,p0.2.1,p0.2.2.1,()) (p1.1,p1.2.1,p1.2.2.1,p1.2.2.2.1,())).bind fun u4=>
 cond (!u4.1.1)
  (some (((((),(),u2.1.1.2.2.1,()),false,()),()),(u2.2.1,u2.2.2.1,())))
 (cond ((p0.2.1.length:Int)==20)
  (some (((((),(),u2.1.1.2.2.1,()),false,()),()),(u2.2.1,u2.2.2.1,())))
 (if u2.2.2.1.length+1<=CN then(
 some (((((),(),u2.1.1.2.2.1,()),true,()),()),(u2.2.1,(u2.2.2.1++[(p1.1,p1.2.1,p1.2.2.1,p1.2.2.2.1,())]),())))else none))))
abbrev fo:Type:=AEq×AEw
def WA(CP CV:Int)(BX:Bool)(p1:ADJ)(b0:AAA)(b1:AAd)(b2:AAA)(b3:AAf)(b4:ABE)(b5:ABI)(b6:AAs)(b7:AA8):Option fo:=
 (Lq (b0,CP,b1,b2,b3,CV,b4,b5,b6,b7,BX,()) p1.2.1).bind fun u1=>
 cond (!u1.1.1)
  (some (((((),CP,(),(),(),CV,(),(),(),(),BX,()),2,()),()),(b0,b1,b2,b3,b4,b5,b6,b7,())))
 (if(0:Int)<=p1.2.1/\p1.2.1<(b4.length:Int)then(
 (CF p1.2.2.1 1 (((b4.getD (p1.2.1.toNat) (0,[],())).2.1).length:Int)).bind fun u3=>
 cond (!u3.1.1)
  (some (((((),CP,(),(),(),CV,(),(),(),(),BX,()),2,()),()),(b0,b1,b2,b3,b4,b5,b6,b7,())))
 ((Hk (b0,CP,b1,b2,b3,CV,b4,b5,b6,b7,BX,()) p1.2.2.2.1).bind fun u4=>
 cond (u4.1.1 !=0)
  (some (((((),CP,(),(),(),CV,(),(),(),(),BX,()),u4.1.1,()),()),(b0,b1,b2,b3,b4,b5,b6,b7,())))
 ((Ce (b3,CV,()) ((b4.getD (p1.2.1.toNat) (0,[],())).1)).bind fun u6=>
 (DI u6.2.1 p1.2.2.2.1).bind fun u7=>
 cond (!u7.1.1)
  (some (((((),CP,(),(),(),CV,(),(),(),(),BX,()),2,()),()),(b0,b1,b2,b3,b4,b5,b6,b7,())))
 (if(0:Int)<=p1.2.2.2.1/\p1.2.2.2.1<(b1.length:Int)then(
 if(0:Int)<=AQ (p1.2.2.1-1)/\AQ (p1.2.2.1-1)<(((b4.getD (p1.2.1.toNat) (0,[],())).2.1).length:Int)then(
 (Dh ((b4.getD (p1.2.1.toNat) (0,[],())).1) p1.2.2.1).bind fun Dk=>
 (Q8 ((b1.getD (p1.2.2.2.1.toNat) ([],[],0,())).1,(b1.getD (p1.2.2.2.1.toNat) ([],[],0,())).2.1,(b1.getD (p1.2.2.2.1.toNat) ([],[],0,())).2.2.1,()) (Dk.1.1,0,false,((((b4.getD (p1.2.1.toNat) (0,[],())).2.1).getD ((AQ (p1.2.2.1-1)).toNat) ([],[],false,())).1),())).bind fun Ed=>
 cond (!Ed.1.1.2.1)
  (some (((((),CP,(),(),(),CV,(),(),(),(),BX,()),4,()),()),(b0,b1,b2,b3,b4,b5,b6,b7,())))
 (if(0:Int)<=p1.2.2.2.1/\p1.2.2.2.1<(b1.length:Int)then(
 some (((((),CP,(),(),(),CV,(),(),(),(),BX,()),0,()),()),(b0,(b1.set (p1.2.2.2.1.toNat) (Ed.2.1,Ed.2.2.1,Ed.1.1.1.2.2.1,())),b2,b3,b4,b5,b6,b7,())))else none))else none)else none))))else none)
abbrev wM:Type:=(AEe×Unit)×Unit
def Se(p0 p1:AEe):Option wM:=
 cond ((decide (p1.2.1>p0.2.1)))
  (some (((p1.1,p1.2.1,p1.2.2.1,p1.2.2.2.1,()),()),()))
 (some (((p0.1,p0.2.1,p0.2.2.1,p0.2.2.2.1,()),()),()))
abbrev WJ:Type:=ACL×AF9
abbrev Ze:Type:=ABd->Bool->Int->Int->Int->Bool->List UInt8->ABd->Option WJ
def Tc(R4:Ze)(t0:ABd)(t6:Bool)(t7 AK AF:Int)(AZ:Bool)(BD:ABF)(b1:ABd):Option WJ:=
 cond ((decide (t7<(t0.length:Int))))
  (cond (!t6)
   (if(0:Int)<=t7/\t7<(t0.length:Int)then(
   cond (((t0.getD (t7.toNat) (0,0,false,[],())).1)==AK)
    (if(0:Int)<=t7/\t7<(t0.length:Int)then(
    (Se ((t0.getD (t7.toNat) (0,0,false,[],())).1,(t0.getD (t7.toNat) (0,0,false,[],())).2.1,(t0.getD (t7.toNat) (0,0,false,[],())).2.2.1,(t0.getD (t7.toNat) (0,0,false,[],())).2.2.2.1,()) (AK,AF,AZ,BD,())).bind fun u3=>
    if b1.length+1<=CN then(
    R4 t0 true (AQ (t7+1)) AK AF AZ BD (b1++[(u3.1.1.1,u3.1.1.2.1,u3.1.1.2.2.1,u3.1.1.2.2.2.1,())]))else none)else none)
   (cond (!t6)
    (if(0:Int)<=t7/\t7<(t0.length:Int)then(
    cond (decide (((t0.getD (t7.toNat) (0,0,false,[],())).1)>AK))
     (if b1.length+1<=CN then(
     let x6:ABd:=b1++[(AK,AF,AZ,BD,())]
     if(0:Int)<=t7/\t7<(t0.length:Int)then(
     if x6.length+1<=CN then(
     R4 t0 true (AQ (t7+1)) AK AF AZ BD (x6++[((t0.getD (t7.toNat) (0,0,false,[],())).1,(t0.getD (t7.toNat) (0,0,false,[],())).2.1,(t0.getD (t7.toNat) (0,0,false,[],())).2.2.1,(t0.getD (t7.toNat) (0,0,false,[],())).2.2.2.1,())]))else none)else none)else none)
    (if(0:Int)<=t7/\t7<(t0.length:Int)then(
    if b1.length+1<=CN then(
    R4 t0 t6 (AQ (t7+1)) AK AF AZ BD (b1++[((t0.getD (t7.toNat) (0,0,false,[],())).1,(t0.getD (t7.toNat) (0,0,false,[],())).2.1,(t0.getD (t7.toNat) (0,0,false,[],())).2.2.1,(t0.getD (t7.toNat) (0,0,false,[],())).2.2.2.1,())]))else none)else none))else none)
   (if(0:Int)<=t7/\t7<(t0.length:Int)then(
   if b1.length+1<=CN then(
   R4 t0 t6 (AQ (t7+1)) AK AF AZ BD (b1++[((t0.getD (t7.toNat) (0,0,false,[],())).1,(t0.getD (t7.toNat) (0,0,false,[],())).2.1,(t0.getD (t7.toNat) (0,0,false,[],())).2.2.1,(t0.getD (t7.toNat) (0,0,false,[],())).2.2.2.1,())]))else none)else none)))else none)
  (cond (!t6)
   (if(0:Int)<=t7/\t7<(t0.length:Int)then(
   cond (decide (((t0.getD (t7.toNat) (0,0,false,[],())).1)>AK))
    (if b1.length+1<=CN then(
    let x11:ABd:=b1++[(AK,AF,AZ,BD,())]
    if(0:Int)<=t7/\t7<(t0.length:Int)then(
    if x11.length+1<=CN then(
    R4 t0 true (AQ (t7+1)) AK AF AZ BD (x11++[((t0.getD (t7.toNat) (0,0,false,[],())).1,(t0.getD (t7.toNat) (0,0,false,[],())).2.1,(t0.getD (t7.toNat) (0,0,false,[],())).2.2.1,(t0.getD (t7.toNat) (0,0,false,[],())).2.2.2.1,())]))else none)else none)else none)
   (if(0:Int)<=t7/\t7<(t0.length:Int)then(
   if b1.length+1<=CN then(
   R4 t0 t6 (AQ (t7+1)) AK AF AZ BD (b1++[((t0.getD (t7.toNat) (0,0,false,[],())).1,(t0.getD (t7.toNat) (0,0,false,[],())).2.1,(t0.getD (t7.toNat) (0,0,false,[],())).2.2.1,(t0.getD (t7.toNat) (0,0,false,[],())).2.2.2.1,())]))else none)else none))else none)
  (if(0:Int)<=t7/\t7<(t0.length:Int)then(
  if b1.length+1<=CN then(
  R4 t0 t6 (AQ (t7+1)) AK AF AZ BD (b1++[((t0.getD (t7.toNat) (0,0,false,[],())).1,(t0.getD (t7.toNat) (0,0,false,[],())).2.1,(t0.getD (t7.toNat) (0,0,false,[],())).2.2.1,(t0.getD (t7.toNat) (0,0,false,[],())).2.2.2.1,())]))else none)else none)))
 (cond (!t6)
  (if b1.length+1<=CN then(
  some (((),()),((b1++[(AK,AF,AZ,BD,())]),())))else none)
 (some (((),()),(b1,()))))
def J7:Nat->Ze
 |0=>fun _ _ _ _ _ _ _ _=>none
 |n+1=>Tc (J7 n)
def bH(R4:Ze)(p0:ABd)(p1:AEe):Option WJ:=
 R4 p0 false 0 p1.1 p1.2.1 p1.2.2.1 p1.2.2.2.1 []
def S3(p0:ABd)(p1:AEe):Option WJ:=bH (J7 AW) p0 p1
abbrev Ol:Type:=AFH×AEz
abbrev Rt:Type:=Int->Int->ABd->ABd->Int->Int->ABd->ABd->Int->ABd->ABd->Option Ol
def U2(R5:Rt)(t1 t7:Int)(AK AF:ABd)(AZ CM:Int)(b2 b3:ABd)(fR:Int)(b5 b6:ABd):Option Ol:=
 cond ((decide (t7<(AF.length:Int))))
  (if t7<0 then none else(
  cond (((gU .i64 (t1.fdiv (2^(min t7.toNat 64))) 1)==1))
   (if(0:Int)<=t7/\t7<(AF.length:Int)then(
   (S3 b5 ((AF.getD (t7.toNat) (0,0,false,[],())).1,(AF.getD (t7.toNat) (0,0,false,[],())).2.1,(AF.getD (t7.toNat) (0,0,false,[],())).2.2.1,(AF.getD (t7.toNat) (0,0,false,[],())).2.2.2.1,())).bind fun u5=>
   R5 t1 (AQ (t7+1)) AK AF AZ CM b2 b3 fR u5.2.1 b6)else none)
  (R5 t1 (AQ (t7+1)) AK AF AZ CM b2 b3 fR b5 b6)))
 ((CF t1 0 1048575).bind fun u6=>
 cond (!u6.1.1)
  ((Eg (AK,AF,AZ,())).bind fun u7=>
  some (((((),(),u7.1.1.2.2.1,()),false,()),()),(u7.2.1,u7.2.2.1,())))
 (cond ((decide ((b5.length:Int)>200)))
  ((Eg (AK,AF,AZ,())).bind fun u9=>
  some (((((),(),u9.1.1.2.2.1,()),false,()),()),(u9.2.1,u9.2.2.1,())))
 (some (((((),(),fR,()),true,()),()),(b5,b6,())))))
def Jw:Nat->Rt
 |0=>fun _ _ _ _ _ _ _ _ _ _ _=>none
 |n+1=>U2 (Jw n)
def VA(R5:Rt)(p0:ADA)(p1:Int):Option Ol:=
 (Gf (p0.1,p0.2.1,p0.2.2.1,())).bind fun u1=>
 cond (!u1.1.1)
  (some (((((),(),0,()),false,()),()),([],[],())))
 (if 0+p0.1.length<=CN then(
 R5 p1 0 p0.1 p0.2.1 p0.2.2.1 0 [] [] p0.2.2.1 p0.1 [])else none)
def NT(p0:ADA)(p1:Int):Option Ol:=VA (Jw AW) p0 p1
abbrev nY:Type:=AFH×AEz
def Pn(p0:ADA):Option nY:=
 (NT (p0.1,p0.2.1,p0.2.2.1,()) 1048575).bind fun u1=>
 some (((((),(),u1.1.1.1.2.2.1,()),u1.1.1.2.1,()),()),(u1.2.1,u1.2.2.1,()))
abbrev Hn:Type:=AGD×Unit
abbrev cU:Type:=ABd->Int->Int->Int->Int->Bool->List UInt8->Option Hn
def dK(R2:cU)(t0:ABd)(t1 t6 AK AF:Int)(AZ:Bool)(BD:ABF):Option Hn:=
 cond ((decide (t6<(t0.length:Int))))
  (if(0:Int)<=t6/\t6<(t0.length:Int)then(
  cond (((t0.getD (t6.toNat) (0,0,false,[],())).1)==t1)
   (if(0:Int)<=t6/\t6<(t0.length:Int)then(
   some (((((t0.getD (t6.toNat) (0,0,false,[],())).1,(t0.getD (t6.toNat) (0,0,false,[],())).2.1,(t0.getD (t6.toNat) (0,0,false,[],())).2.2.1,(t0.getD (t6.toNat) (0,0,false,[],())).2.2.2.1,()),true,()),()),()))else none)
  (R2 t0 t1 (AQ (t6+1)) AK AF AZ BD))else none)
 (some ((((0,0,false,[],()),false,()),()),()))
def RI:Nat->cU
 |0=>fun _ _ _ _ _ _ _=>none
 |n+1=>dK (RI n)
def dq(R2:cU)(p0:ABd)(p1:Int):Option Hn:=
 R2 p0 p1 0 0 0 false []
def Hd(p0:ABd)(p1:Int):Option Hn:=dq (RI AW) p0 p1
abbrev Hg:Type:=AGV×AFk
def Fj(p0:ABx)(p1:AB5)(p2 p3:Int):Option Hg:=
 (Hr (p0.1,p0.2.1,()) (p1.1,p1.2.1,())).bind fun u1=>
 cond (!u1.1.1)
  (some ((((0,(),()),false,()),()),([],())))
 ((FT (p1.1,p1.2.1,())).bind fun u2=>
 (CF p2 1 (p1.2.1.length:Int)).bind fun u4=>
 cond (!u4.1.1)
  (some ((((u2.1.1.1,(),()),false,()),()),(u2.2.1,())))
 ((CF p3 0 (AQ ((p0.1.length:Int)-1))).bind fun u6=>
 cond (!u6.1.1)
  (some ((((u2.1.1.1,(),()),false,()),()),(u2.2.1,())))
 (if(0:Int)<=AQ (p2-1)/\AQ (p2-1)<(p1.2.1.length:Int)then(
 cond (((p1.2.1.getD ((AQ (p2-1)).toNat) ([],[],false,())).2.2.1))
  (some ((((u2.1.1.1,(),()),false,()),()),(u2.2.1,())))
 (if(0:Int)<=AQ (p2-1)/\AQ (p2-1)<(u2.2.1.length:Int)then(
 (Mq ((u2.2.1.getD ((AQ (p2-1)).toNat) ([],[],false,())).2.1) p3).bind fun u8=>
 if(0:Int)<=AQ (p2-1)/\AQ (p2-1)<(u2.2.1.length:Int)then(
 let x9:AB3:=(u2.2.1.set ((AQ (p2-1)).toNat) ((u2.2.1.getD ((AQ (p2-1)).toNat) ([],[],false,())).1,u8.2.1,(u2.2.1.getD ((AQ (p2-1)).toNat) ([],[],false,())).2.2.1,()))
 if(0:Int)<=AQ (p2-1)/\AQ (p2-1)<(x9.length:Int)then(
 (F4 (p0.1,p0.2.1,()) ((x9.getD ((AQ (p2-1)).toNat) ([],[],false,())).2.1)).bind fun Dk=>
 if(0:Int)<=AQ (p2-1)/\AQ (p2-1)<(x9.length:Int)then(
 some ((((u2.1.1.1,(),()),true,()),()),((x9.set ((AQ (p2-1)).toNat) ((x9.getD ((AQ (p2-1)).toNat) ([],[],false,())).1,(x9.getD ((AQ (p2-1)).toNat) ([],[],false,())).2.1,Dk.1.1,())),())))else none)else none)else none)else none))else none)))
abbrev nZ:Type:=AFf×Unit
def Ps(p0 p1:Int):Option nZ:=
 (CF p0 1 30).bind fun u1=>
 cond (!u1.1.1)
  (some (((0,false,()),()),()))
 ((CF p1 1 60).bind fun u2=>
 cond (!u2.1.1)
  (some (((0,false,()),()),()))
 (some (((AQ ((AQ (4294967296*p0))+p1),true,()),()),())))
abbrev Ha:Type:=AGD×Unit
def Eh(p0:AB1)(p1:Int):Option Ha:=
 (Ps p0.2.1 p1).bind fun u1=>
 cond (!p0.2.2.2.2.1)
  (some ((((0,0,false,[],()),false,()),()),()))
 (cond (!u1.1.1.2.1)
  (some ((((0,0,false,[],()),false,()),()),()))
 (cond (decide (p1>(p0.2.2.2.2.2.1.length:Int)))
  (some ((((0,0,false,[],()),false,()),()),()))
 ((Hd p0.2.2.2.1 u1.1.1.1).bind fun u3=>
 cond (u3.1.1.2.1)
  (some ((((u1.1.1.1,p0.1,u3.1.1.1.2.2.1,u3.1.1.1.2.2.2.1,()),true,()),()),()))
 (some ((((u1.1.1.1,p0.1,true,[],()),true,()),()),())))))
abbrev KG:Type:=AFl×AFA
def Hm(p0:ABx)(p1:AB1)(p2 p3:Int):Option KG:=
 (JK (p0.1,p0.2.1,()) (p1.1,p1.2.1,p1.2.2.1,p1.2.2.2.1,p1.2.2.2.2.1,p1.2.2.2.2.2.1,())).bind fun u1=>
 cond (!u1.1.1)
  (some ((((0,0,(),(),false,(),()),false,()),()),([],[],[],())))
 ((EO (p1.1,p1.2.1,p1.2.2.1,p1.2.2.2.1,p1.2.2.2.2.1,p1.2.2.2.2.2.1,())).bind fun u2=>
 (CF p2 1 (p1.2.2.2.2.2.1.length:Int)).bind fun u4=>
 cond (!u4.1.1)
  (some ((((u2.1.1.1,u2.1.1.2.1,(),(),u2.1.1.2.2.2.2.1,(),()),false,()),()),(u2.2.1,u2.2.2.1,u2.2.2.2.1,())))
 ((CF p3 0 (AQ ((p0.1.length:Int)-1))).bind fun u6=>
 cond (!u6.1.1)
  (some ((((u2.1.1.1,u2.1.1.2.1,(),(),u2.1.1.2.2.2.2.1,(),()),false,()),()),(u2.2.1,u2.2.2.1,u2.2.2.2.1,())))
 (if(0:Int)<=AQ (p2-1)/\AQ (p2-1)<(u2.2.2.2.1.length:Int)then(
 (Mq (u2.2.2.2.1.getD ((AQ (p2-1)).toNat) []) p3).bind fun u7=>
 if(0:Int)<=AQ (p2-1)/\AQ (p2-1)<(u2.2.2.2.1.length:Int)then(
 some ((((u2.1.1.1,u2.1.1.2.1,(),(),u2.1.1.2.2.2.2.1,(),()),true,()),()),(u2.2.1,u2.2.2.1,(u2.2.2.2.1.set ((AQ (p2-1)).toNat) u7.2.1),())))else none)else none)))
abbrev B9:Type:=AHr×AEw
abbrev Ih:Type:=Int->Int->List Int->AAd->List Int->AAf->ABE->ABI->AAs->AA8->Int->Int->Bool->Int->Int->Bool->List Int->AAd->List Int->AAf->ABE->ABI->AAs->AA8->ABd->ABd->Int->Option B9
abbrev Ic:Type:=Int->Int->Int->Int->Int->Bool->List Int->AAd->List Int->AAf->ABE->ABI->AAs->AA8->Int->Int->Bool->Int->Int->Bool->List Int->AAd->List Int->AAf->ABE->ABI->AAs->AA8->ABd->ABd->Int->Int->AB3->Option B9
abbrev HT:Type:=Int->Int->Int->Int->Int->Bool->List Int->AAd->List Int->AAf->ABE->ABI->AAs->AA8->Int->Int->Bool->Int->Int->Bool->List Int->AAd->List Int->AAf->ABE->ABI->AAs->AA8->ABd->ABd->Int->Int->AB3->Option B9
abbrev Hf:Type:=Int->Int->List Int->AAd->List Int->AAf->ABE->ABI->AAs->AA8->Int->Int->Bool->Int->Int->Bool->List Int->AAd->List Int->AAf->ABE->ABI->AAs->AA8->ABd->ABd->Int->Option B9
abbrev HR:Type:=Int->Int->Int->List Int->AAd->List Int->AAf->ABE->ABI->AAs->AA8->Int->Int->Bool->Int->Int->Bool->List Int->AAd->List Int->AAf->ABE->ABI->AAs->AA8->ABd->ABd->Int->Int->Int->List Int->ABd->Bool->List AAA->Option B9
def NM(R3:Ih)(R8:Ic)(gQ:HT)(R21:Hf)(R25:HR)(t1 t6:Int)(b0:AAA)(b1:AAd)(b2:AAA)(b3:AAf)(b4:ABE)(b5:ABI)(b6:AAs)(b7:AA8)(D4 EJ:Int)(Cf:Bool)(E7 HM:Int)(De:Bool)(PX:AAA)(Hh:AAd)(EW:AAA)(Ii:AAf)(Iy:ABE)(FU:ABI)(GR:AAs)(HH:AA8)(C5 DX:ABd)(C6:Int):Option B9:=
 cond ((decide (t6<(b4.length:Int))))
  (if(0:Int)<=t6/\t6<(b4.length:Int)then(
  (Ce (b3,EJ,()) ((b4.getD (t6.toNat) (0,[],())).1)).bind fun u3=>
  (DI u3.2.1 t1).bind fun u4=>
  cond (!u4.1.1)
   (R3 t1 (AQ (t6+1)) b0 b1 b2 b3 b4 b5 b6 b7 D4 EJ Cf E7 HM De PX Hh EW Ii Iy FU GR HH C5 DX C6)
  (let x5:Int:=(b4.getD (t6.toNat) (0,[],())).1
  cond (decide (C6>=x5))
   (R3 t1 (AQ (t6+1)) b0 b1 b2 b3 b4 b5 b6 b7 D4 EJ Cf E7 HM De PX Hh EW Ii Iy FU GR HH C5 DX C6)
  (R8 t1 t6 1 C6 x5 (decide (C6>=x5)) b0 b1 b2 b3 b4 b5 b6 b7 D4 EJ Cf E7 HM De PX Hh EW Ii Iy FU GR HH C5 DX C6 ((b4.getD (t6.toNat) (0,[],())).1) ((b4.getD (t6.toNat) (0,[],())).2.1))))else none)
 (R21 t1 0 b0 b1 b2 b3 b4 b5 b6 b7 D4 EJ Cf E7 HM De PX Hh EW Ii Iy FU GR HH C5 DX C6)
def Ms(R3:Ih)(R8:Ic)(gQ:HT)(R21:Hf)(R25:HR)(t1 t6 t8 t47 t49:Int)(t50:Bool)(b0:AAA)(b1:AAd)(b2:AAA)(b3:AAf)(b4:ABE)(b5:ABI)(b6:AAs)(b7:AA8)(D4 EJ:Int)(Cf:Bool)(E7 HM:Int)(De:Bool)(PX:AAA)(Hh:AAd)(EW:AAA)(Ii:AAf)(Iy:ABE)(FU:ABI)(GR:AAs)(HH:AA8)(C5 DX:ABd)(C6 GD:Int)(EB:AB3):Option B9:=
 cond ((decide (t8<=(EB.length:Int))))
  ((Dh GD t8).bind fun u7=>
  (Hd C5 u7.1.1).bind fun u8=>
  cond (!u8.1.1.2.1)
   (R8 t1 t6 (AQ (t8+1)) t47 t49 t50 b0 b1 b2 b3 b4 b5 b6 b7 D4 EJ Cf E7 HM De PX Hh EW Ii Iy FU GR HH C5 DX C6 GD EB)
  (cond (u8.1.1.1.2.1 !=0)
   (R8 t1 t6 (AQ (t8+1)) t47 t49 t50 b0 b1 b2 b3 b4 b5 b6 b7 D4 EJ Cf E7 HM De PX Hh EW Ii Iy FU GR HH C5 DX C6 GD EB)
  (if(0:Int)<=AQ (t8-1)/\AQ (t8-1)<(EB.length:Int)then(
  cond (((EB.getD ((AQ (t8-1)).toNat) ([],[],false,())).2.2.1))
   (R8 t1 t6 (AQ (t8+1)) t47 t49 t50 b0 b1 b2 b3 b4 b5 b6 b7 D4 EJ Cf E7 HM De PX Hh EW Ii Iy FU GR HH C5 DX C6 GD EB)
  ((Fj (b0,D4,()) (GD,EB,()) t8 t1).bind fun Dk=>
  R8 t1 t6 (AQ (t8+1)) t47 t49 t50 b0 b1 b2 b3 b4 b5 b6 b7 D4 EJ Cf E7 HM De PX Hh EW Ii Iy FU GR HH C5 DX C6 Dk.1.1.1.1 Dk.2.1))else none)))
 (if(0:Int)<=t6/\t6<(b4.length:Int)then(
 gQ t1 t6 0 t47 t49 t50 b0 b1 b2 b3 (b4.set (t6.toNat) (GD,EB,())) b5 b6 b7 D4 EJ Cf E7 HM De PX Hh EW Ii Iy FU GR HH C5 DX C6 GD EB)else none)
def LS(R3:Ih)(R8:Ic)(gQ:HT)(R21:Hf)(R25:HR)(t1 t6 t11 t47 t49:Int)(t50:Bool)(b0:AAA)(b1:AAd)(b2:AAA)(b3:AAf)(b4:ABE)(b5:ABI)(b6:AAs)(b7:AA8)(D4 EJ:Int)(Cf:Bool)(E7 HM:Int)(De:Bool)(PX:AAA)(Hh:AAd)(EW:AAA)(Ii:AAf)(Iy:ABE)(FU:ABI)(GR:AAs)(HH:AA8)(C5 DX:ABd)(C6 GD:Int)(EB:AB3):Option B9:=
 cond ((decide (t11<(b7.length:Int))))
  (if(0:Int)<=t11/\t11<(b7.length:Int)then(
  let x65:Int:=(b7.getD (t11.toNat) (0,[],false,())).1
  (Cn x65).bind fun u66=>
  cond (u66.1.1==GD)
   ((Gl x65).bind fun u67=>
   cond ((decide (u67.1.1<=(EB.length:Int))))
    ((Gl x65).bind fun u69=>
    if(0:Int)<=AQ (u69.1.1-1)/\AQ (u69.1.1-1)<(EB.length:Int)then(
    cond (((EB.getD ((AQ (u69.1.1-1)).toNat) ([],[],false,())).2.2.1))
     (if(0:Int)<=t11/\t11<(b7.length:Int)then(
     gQ t1 t6 (AQ (t11+1)) t47 t49 t50 b0 b1 b2 b3 b4 b5 b6 (b7.set (t11.toNat) ((b7.getD (t11.toNat) (0,[],false,())).1,(b7.getD (t11.toNat) (0,[],false,())).2.1,true,())) D4 EJ Cf E7 HM De PX Hh EW Ii Iy FU GR HH C5 DX C6 GD EB)else none)
    (gQ t1 t6 (AQ (t11+1)) t47 t49 t50 b0 b1 b2 b3 b4 b5 b6 b7 D4 EJ Cf E7 HM De PX Hh EW Ii Iy FU GR HH C5 DX C6 GD EB))else none)
   (gQ t1 t6 (AQ (t11+1)) t47 t49 t50 b0 b1 b2 b3 b4 b5 b6 b7 D4 EJ Cf E7 HM De PX Hh EW Ii Iy FU GR HH C5 DX C6 GD EB))
  (gQ t1 t6 (AQ (t11+1)) t47 t49 t50 b0 b1 b2 b3 b4 b5 b6 b7 D4 EJ Cf E7 HM De PX Hh EW Ii Iy FU GR HH C5 DX C6 GD EB))else none)
 (R3 t1 (AQ (t6+1)) b0 b1 b2 b3 b4 b5 b6 b7 D4 EJ Cf E7 HM De PX Hh EW Ii Iy FU GR HH C5 DX C6)
def Lf(R3:Ih)(R8:Ic)(gQ:HT)(R21:Hf)(R25:HR)(t1 t13:Int)(b0:AAA)(b1:AAd)(b2:AAA)(b3:AAf)(b4:ABE)(b5:ABI)(b6:AAs)(b7:AA8)(D4 EJ:Int)(Cf:Bool)(E7 HM:Int)(De:Bool)(PX:AAA)(Hh:AAd)(EW:AAA)(Ii:AAf)(Iy:ABE)(FU:ABI)(GR:AAs)(HH:AA8)(C5 DX:ABd)(C6:Int):Option B9:=
 cond ((decide (t13<(b5.length:Int))))
  (if(0:Int)<=t13/\t13<(b5.length:Int)then(
  R25 t1 t13 1 b0 b1 b2 b3 b4 b5 b6 b7 D4 EJ Cf E7 HM De PX Hh EW Ii Iy FU GR HH C5 DX C6 ((b5.getD (t13.toNat) (0,0,[],[],false,[],())).1) ((b5.getD (t13.toNat) (0,0,[],[],false,[],())).2.1) ((b5.getD (t13.toNat) (0,0,[],[],false,[],())).2.2.1) ((b5.getD (t13.toNat) (0,0,[],[],false,[],())).2.2.2.1) ((b5.getD (t13.toNat) (0,0,[],[],false,[],())).2.2.2.2.1) ((b5.getD (t13.toNat) (0,0,[],[],false,[],())).2.2.2.2.2.1))else none)
 (some ((((),D4,(),(),(),EJ,(),(),(),(),Cf,()),()),(b0,b1,b2,b3,b4,b5,b6,b7,())))
def Iv(R3:Ih)(R8:Ic)(gQ:HT)(R21:Hf)(R25:HR)(t1 t13 t15:Int)(b0:AAA)(b1:AAd)(b2:AAA)(b3:AAf)(b4:ABE)(b5:ABI)(b6:AAs)(b7:AA8)(D4 EJ:Int)(Cf:Bool)(E7 HM:Int)(De:Bool)(PX:AAA)(Hh:AAd)(EW:AAA)(Ii:AAf)(Iy:ABE)(FU:ABI)(GR:AAs)(HH:AA8)(C5 DX:ABd)(C6 GD EB:Int)(dx:AAA)(dI:ABd)(dk:Bool)(cm:List AAA):Option B9:=
 if(0:Int)<=t13/\t13<(b5.length:Int)then(
 cond (decide (t15<=(((b5.getD (t13.toNat) (0,0,[],[],false,[],())).2.2.2.2.2.1).length:Int)))
  ((Ce (b3,EJ,()) EB).bind fun u74=>
  (DI u74.2.1 t1).bind fun u75=>
  cond (u75.1.1)
   ((Eh (GD,EB,dx,dI,dk,cm,()) t15).bind fun u76=>
   (Hd C5 u76.1.1.1.1).bind fun u77=>
   cond (u77.1.1.2.1)
    (cond (((u77.1.1.1.1==u76.1.1.1.1)&&((u77.1.1.1.2.1==u76.1.1.1.2.1)&&((u77.1.1.1.2.2.1==u76.1.1.1.2.2.1)&&((u77.1.1.1.2.2.2.1==u76.1.1.1.2.2.2.1)&&true)))))
     ((Hm (b0,D4,()) (GD,EB,dx,dI,dk,cm,()) t15 t1).bind fun u79=>
     R25 t1 t13 (AQ (t15+1)) b0 b1 b2 b3 b4 b5 b6 b7 D4 EJ Cf E7 HM De PX Hh EW Ii Iy FU GR HH C5 DX C6 u79.1.1.1.1 u79.1.1.1.2.1 u79.2.1 u79.2.2.1 u79.1.1.1.2.2.2.2.1 u79.2.2.2.1)
    (R25 t1 t13 (AQ (t15+1)) b0 b1 b2 b3 b4 b5 b6 b7 D4 EJ Cf E7 HM De PX Hh EW Ii Iy FU GR HH C5 DX C6 GD EB dx dI dk cm))
   (R25 t1 t13 (AQ (t15+1)) b0 b1 b2 b3 b4 b5 b6 b7 D4 EJ Cf E7 HM De PX Hh EW Ii Iy FU GR HH C5 DX C6 GD EB dx dI dk cm))
  (if(0:Int)<=t13/\t13<(b5.length:Int)then(
  R21 t1 (AQ (t13+1)) b0 b1 b2 b3 b4 (b5.set (t13.toNat) (GD,EB,dx,dI,dk,cm,())) b6 b7 D4 EJ Cf E7 HM De PX Hh EW Ii Iy FU GR HH C5 DX C6)else none))
 (if(0:Int)<=t13/\t13<(b5.length:Int)then(
 R21 t1 (AQ (t13+1)) b0 b1 b2 b3 b4 (b5.set (t13.toNat) (GD,EB,dx,dI,dk,cm,())) b6 b7 D4 EJ Cf E7 HM De PX Hh EW Ii Iy FU GR HH C5 DX C6)else none))else none
mutual
def Bi:Nat->Ih
 |0=>fun _ _ _ _ _ _ _ _ _ _ _ _ _ _ _ _ _ _ _ _ _ _ _ _ _ _ _=>none
 |n+1=>NM (Bi n) (Bh n) (BO n) (Bj n) (Bf n)
def Bh:Nat->Ic
 |0=>fun _ _ _ _ _ _ _ _ _ _ _ _ _ _ _ _ _ _ _ _ _ _ _ _ _ _ _ _ _ _ _ _ _=>none
 |n+1=>Ms (Bi n) (Bh n) (BO n) (Bj n) (Bf n)
def BO:Nat->HT
 |0=>fun _ _ _ _ _ _ _ _ _ _ _ _ _ _ _ _ _ _ _ _ _ _ _ _ _ _ _ _ _ _ _ _ _=>none
 |n+1=>LS (Bi n) (Bh n) (BO n) (Bj n) (Bf n)
def Bj:Nat->Hf
 |0=>fun _ _ _ _ _ _ _ _ _ _ _ _ _ _ _ _ _ _ _ _ _ _ _ _ _ _ _=>none
 |n+1=>Lf (Bi n) (Bh n) (BO n) (Bj n) (Bf n)
def Bf:Nat->HR
 |0=>fun _ _ _ _ _ _ _ _ _ _ _ _ _ _ _ _ _ _ _ _ _ _ _ _ _ _ _ _ _ _ _ _ _ _=>none
 |n+1=>Iv (Bi n) (Bh n) (BO n) (Bj n) (Bf n)
end
def SA(R3:Ih)(R8:Ic)(gQ:HT)(R21:Hf)(R25:HR)(CP CV:Int)(BX:Bool)(p1:Int)(b0:AAA)(b1:AAd)(b2:AAA)(b3:AAf)(b4:ABE)(b5:ABI)(b6:AAs)(b7:AA8):Option B9:=
 if(0:Int)<=p1/\p1<(b1.length:Int)then(
 R3 p1 0 b0 b1 b2 b3 b4 b5 b6 b7 CP CV BX 0 0 false [] [] [] [] [] [] [] [] ((b1.getD (p1.toNat) ([],[],0,())).1) ((b1.getD (p1.toNat) ([],[],0,())).2.1) ((b1.getD (p1.toNat) ([],[],0,())).2.2.1))else none
def Yj(CP CV:Int)(BX:Bool)(p1:Int)(b0:AAA)(b1:AAd)(b2:AAA)(b3:AAf)(b4:ABE)(b5:ABI)(b6:AAs)(b7:AA8):Option B9:=SA (Bi AW) (Bh AW) (BO AW) (Bj AW) (Bf AW) CP CV BX p1 b0 b1 b2 b3 b4 b5 b6 b7
abbrev s5:Type:=AEq×AEw
def Yq(CP CV:Int)(BX:Bool)(p1:ADJ)(b0:AAA)(b1:AAd)(b2:AAA)(b3:AAf)(b4:ABE)(b5:ABI)(b6:AAs)(b7:AA8):Option s5:=
 (Hk (b0,CP,b1,b2,b3,CV,b4,b5,b6,b7,BX,()) p1.2.1).bind fun u1=>
 cond (u1.1.1 !=0)
  (some (((((),CP,(),(),(),CV,(),(),(),(),BX,()),u1.1.1,()),()),(b0,b1,b2,b3,b4,b5,b6,b7,())))
 (if(0:Int)<=p1.2.1/\p1.2.1<(b1.length:Int)then(
 (Pn ((b1.getD (p1.2.1.toNat) ([],[],0,())).1,(b1.getD (p1.2.1.toNat) ([],[],0,())).2.1,(b1.getD (p1.2.1.toNat) ([],[],0,())).2.2.1,())).bind fun u2=>
 cond (!u2.1.1.2.1)
  (some (((((),CP,(),(),(),CV,(),(),(),(),BX,()),4,()),()),(b0,b1,b2,b3,b4,b5,b6,b7,())))
 (if(0:Int)<=p1.2.1/\p1.2.1<(b1.length:Int)then(
 (Yj CP CV BX p1.2.1 b0 (b1.set (p1.2.1.toNat) (u2.2.1,u2.2.2.1,u2.1.1.1.2.2.1,())) b2 b3 b4 b5 b6 b7).bind fun u4=>
 some (((((),u4.1.1.2.1,(),(),(),u4.1.1.2.2.2.2.2.1,(),(),(),(),u4.1.1.2.2.2.2.2.2.2.2.2.2.1,()),0,()),()),(u4.2.1,u4.2.2.1,u4.2.2.2.1,u4.2.2.2.2.1,u4.2.2.2.2.2.1,u4.2.2.2.2.2.2.1,u4.2.2.2.2.2.2.2.1,u4.2.2.2.2.2.2.2.2.1,())))else none))else none)
abbrev WC:Type:=ACL×ADH
abbrev aC:Type:=List Int->List Int->Int->List Int->Option WC
def aW(R3:aC)(t0 t1:AAA)(t6:Int)(b0:AAA):Option WC:=
 cond ((decide (t6<(t0.length:Int))))
  (if(0:Int)<=t6/\t6<(t0.length:Int)then(
  (DI t1 (t0.getD (t6.toNat) 0)).bind fun u3=>
  cond (!u3.1.1)
   (if(0:Int)<=t6/\t6<(t0.length:Int)then(
   if b0.length+1<=CN then(
   R3 t0 t1 (AQ (t6+1)) (b0++[(t0.getD (t6.toNat) 0)]))else none)else none)
  (R3 t0 t1 (AQ (t6+1)) b0))else none)
 (some (((),()),(b0,())))
def PL:Nat->aC
 |0=>fun _ _ _ _=>none
 |n+1=>aW (PL n)
def aw(R3:aC)(p0 p1:AAA):Option WC:=
 R3 p0 p1 0 []
def JF(p0 p1:AAA):Option WC:=aw (PL AW) p0 p1
abbrev Ld:Type:=AGV×AFk
abbrev O_:Type:=Int->Int->Int->AB3->Int->AB3->Option Ld
def Sz(R5:O_)(t2 t9 AK:Int)(b1:AB3)(Qm:Int)(b3:AB3):Option Ld:=
 cond ((decide (t9<(b3.length:Int))))
  (if(0:Int)<=t9/\t9<(b3.length:Int)then(
  cond (!((b3.getD (t9.toNat) ([],[],false,())).2.2.1))
   (if(0:Int)<=t9/\t9<(b3.length:Int)then(
   (JF ((b3.getD (t9.toNat) ([],[],false,())).2.1) [t2]).bind fun u5=>
   if(0:Int)<=t9/\t9<(b3.length:Int)then(
   R5 t2 (AQ (t9+1)) AK b1 Qm (b3.set (t9.toNat) ((b3.getD (t9.toNat) ([],[],false,())).1,u5.2.1,(b3.getD (t9.toNat) ([],[],false,())).2.2.1,())))else none)else none)
  (R5 t2 (AQ (t9+1)) AK b1 Qm b3))else none)
 (some ((((Qm,(),()),true,()),()),(b3,())))
def Hy:Nat->O_
 |0=>fun _ _ _ _ _ _=>none
 |n+1=>Sz (Hy n)
def S1(R5:O_)(p0:ABx)(p1:AB5)(p2:Int):Option Ld:=
 (Hr (p0.1,p0.2.1,()) (p1.1,p1.2.1,())).bind fun u1=>
 cond (!u1.1.1)
  (some ((((0,(),()),false,()),()),([],())))
 ((FT (p1.1,p1.2.1,())).bind fun u2=>
 R5 p2 0 0 [] u2.1.1.1 u2.2.1)
def OH(p0:ABx)(p1:AB5)(p2:Int):Option Ld:=S1 (Hy AW) p0 p1 p2
abbrev Oo:Type:=AFl×AFA
abbrev Rx:Type:=Int->Int->Int->Int->Bool->List Int->ABd->List AAA->Int->Int->Bool->List Int->ABd->List AAA->Option Oo
def U0(R5:Rx)(t2 t9 AK AF:Int)(BI:Bool)(b1:AAA)(b2:ABd)(b3:List AAA)(ABO AAO:Int)(ABC:Bool)(b5:AAA)(b6:ABd)(b7:List AAA):Option Oo:=
 cond ((decide (t9<(b7.length:Int))))
  (if(0:Int)<=t9/\t9<(b7.length:Int)then(
  (JF (b7.getD (t9.toNat) []) [t2]).bind fun u4=>
  if(0:Int)<=t9/\t9<(b7.length:Int)then(
  R5 t2 (AQ (t9+1)) AK AF BI b1 b2 b3 ABO AAO ABC b5 b6 (b7.set (t9.toNat) u4.2.1))else none)else none)
 (some ((((ABO,AAO,(),(),ABC,(),()),true,()),()),(b5,b6,b7,())))
def KC:Nat->Rx
 |0=>fun _ _ _ _ _ _ _ _ _ _ _ _ _ _=>none
 |n+1=>U0 (KC n)
def U1(R5:Rx)(p0:ABx)(p1:AB1)(p2:Int):Option Oo:=
 (JK (p0.1,p0.2.1,()) (p1.1,p1.2.1,p1.2.2.1,p1.2.2.2.1,p1.2.2.2.2.1,p1.2.2.2.2.2.1,())).bind fun u1=>
 cond (!u1.1.1)
  (some ((((0,0,(),(),false,(),()),false,()),()),([],[],[],())))
 ((EO (p1.1,p1.2.1,p1.2.2.1,p1.2.2.2.1,p1.2.2.2.2.1,p1.2.2.2.2.2.1,())).bind fun u2=>
 R5 p2 0 0 0 false [] [] [] u2.1.1.1 u2.1.1.2.1 u2.1.1.2.2.2.2.1 u2.2.1 u2.2.2.1 u2.2.2.2.1)
def Rb(p0:ABx)(p1:AB1)(p2:Int):Option Oo:=U1 (KC AW) p0 p1 p2
abbrev J1:Type:=AEq×AIi
abbrev RS:Type:=Int->List Int->AAd->List Int->AAf->ABE->ABI->AAs->AA8->Int->Int->Bool->List Int->Int->Int->Int->Int->List UInt8->Int->Int->Bool->List Int->AAd->List Int->AAf->ABE->ABI->AAs->AA8->Option J1
abbrev QO:Type:=Int->List Int->AAd->List Int->AAf->ABE->ABI->AAs->AA8->Int->Int->Bool->List Int->Int->Int->Int->Int->List UInt8->Int->Int->Bool->List Int->AAd->List Int->AAf->ABE->ABI->AAs->AA8->Option J1
def aH(R7:RS)(ja:QO)(t7:Int)(b0:AAA)(b1:AAd)(b2:AAA)(b3:AAf)(b4:ABE)(b5:ABI)(b6:AAs)(b7:AA8)(D4 EJ:Int)(Cf:Bool)(b9:AAA)(AEb FJ ADw AEB:Int)(AEA:ABF)(AEZ AEk:Int)(yx:Bool)(EW:AAA)(Ii:AAd)(Iy:AAA)(FU:AAf)(GR:ABE)(HH:ABI)(cg:AAs)(y9:AA8):Option J1:=
 cond ((decide (t7<(b4.length:Int))))
  (if(0:Int)<=t7/\t7<(b4.length:Int)then(
  (OH (b0,D4,()) ((b4.getD (t7.toNat) (0,[],())).1,(b4.getD (t7.toNat) (0,[],())).2.1,()) FJ).bind fun u5=>
  if(0:Int)<=t7/\t7<(b4.length:Int)then(
  R7 (AQ (t7+1)) b0 b1 b2 b3 (b4.set (t7.toNat) (u5.1.1.1.1,u5.2.1,())) b5 b6 b7 D4 EJ Cf b9 AEb FJ ADw AEB AEA AEZ AEk yx EW Ii Iy FU GR HH cg y9)else none)else none)
 (ja 0 b0 b1 b2 b3 b4 b5 b6 b7 D4 EJ Cf b9 AEb FJ ADw AEB AEA AEZ AEk yx EW Ii Iy FU GR HH cg y9)
def Xx(R7:RS)(ja:QO)(t8:Int)(b0:AAA)(b1:AAd)(b2:AAA)(b3:AAf)(b4:ABE)(b5:ABI)(b6:AAs)(b7:AA8)(D4 EJ:Int)(Cf:Bool)(b9:AAA)(AEb FJ ADw AEB:Int)(AEA:ABF)(AEZ AEk:Int)(yx:Bool)(EW:AAA)(Ii:AAd)(Iy:AAA)(FU:AAf)(GR:ABE)(HH:ABI)(cg:AAs)(y9:AA8):Option J1:=
 cond ((decide (t8<(b5.length:Int))))
  (if(0:Int)<=t8/\t8<(b5.length:Int)then(
  (Rb (b0,D4,()) ((b5.getD (t8.toNat) (0,0,[],[],false,[],())).1,(b5.getD (t8.toNat) (0,0,[],[],false,[],())).2.1,(b5.getD (t8.toNat) (0,0,[],[],false,[],())).2.2.1,(b5.getD (t8.toNat) (0,0,[],[],false,[],())).2.2.2.1,(b5.getD (t8.toNat) (0,0,[],[],false,[],())).2.2.2.2.1,(b5.getD (t8.toNat) (0,0,[],[],false,[],())).2.2.2.2.2.1,()) FJ).bind fun u8=>
  if(0:Int)<=t8/\t8<(b5.length:Int)then(
  ja (AQ (t8+1)) b0 b1 b2 b3 b4 (b5.set (t8.toNat) (u8.1.1.1.1,u8.1.1.1.2.1,u8.2.1,u8.2.2.1,u8.1.1.1.2.2.2.2.1,u8.2.2.2.1,())) b6 b7 D4 EJ Cf b9 AEb FJ ADw AEB AEA AEZ AEk yx EW Ii Iy FU GR HH cg y9)else none)else none)
 (cond (Cf)
  (some (((((),D4,(),(),(),EJ,(),(),(),(),true,()),0,()),()),(b0,b1,(),b3,b4,b5,b6,b7,b9,())))
 ((F4 (b0,D4,()) b9).bind fun Dk=>
 some (((((),D4,(),(),(),EJ,(),(),(),(),Dk.1.1,()),0,()),()),(b0,b1,(),b3,b4,b5,b6,b7,b9,()))))
mutual
def KT:Nat->RS
 |0=>fun _ _ _ _ _ _ _ _ _ _ _ _ _ _ _ _ _ _ _ _ _ _ _ _ _ _ _ _ _=>none
 |n+1=>aH (KT n) (Jc n)
def Jc:Nat->QO
 |0=>fun _ _ _ _ _ _ _ _ _ _ _ _ _ _ _ _ _ _ _ _ _ _ _ _ _ _ _ _ _=>none
 |n+1=>Xx (KT n) (Jc n)
end
def ZR(R7:RS)(ja:QO)(CP CV:Int)(BX:Bool)(p1:ADJ)(b0:AAA)(b1:AAd)(b2:AAA)(b3:AAf)(b4:ABE)(b5:ABI)(b6:AAs)(b7:AA8):Option J1:=
 (Hk (b0,CP,b1,b2,b3,CV,b4,b5,b6,b7,BX,()) p1.2.1).bind fun u1=>
 cond (u1.1.1 !=0)
  (some (((((),CP,(),(),(),CV,(),(),(),(),BX,()),u1.1.1,()),()),(b0,b1,(),b3,b4,b5,b6,b7,b2,())))
 (if(0:Int)<=p1.2.1/\p1.2.1<(b1.length:Int)then(
 (Mq b2 p1.2.1).bind fun u3=>
 R7 0 b0 (b1.set (p1.2.1.toNat) ([],[],0,())) b2 b3 b4 b5 b6 b7 CP CV BX u3.2.1 p1.1 p1.2.1 p1.2.2.1 p1.2.2.2.1 p1.2.2.2.2.1 0 0 false [] [] [] [] [] [] [] [])else none)
def YO(CP CV:Int)(BX:Bool)(p1:ADJ)(b0:AAA)(b1:AAd)(b2:AAA)(b3:AAf)(b4:ABE)(b5:ABI)(b6:AAs)(b7:AA8):Option J1:=ZR (KT AW) (Jc AW) CP CV BX p1 b0 b1 b2 b3 b4 b5 b6 b7
abbrev vm:Type:=ABz×Unit
def bh(p0:ABx)(p1:AAA):Option vm:=
 (Gz (p0.1,p0.2.1,()) p1).bind fun u1=>
 cond (u1.1.1)
  ((F4 (p0.1,p0.2.1,()) p1).bind fun u2=>
  some ((!u2.1.1,()),()))
 (some ((false,()),()))
abbrev KV:Type:=ACL×AF9
abbrev P7:Type:=AAd->Int->ABd->Option KV
abbrev QQ:Type:=AAd->Int->Int->ABd->Option KV
def Xw(R3:P7)(R6:QQ)(t0:AAd)(t4:Int)(b0:ABd):Option KV:=
 cond ((decide (t4<(t0.length:Int))))
  (R6 t0 t4 0 b0)
 (some (((),()),(b0,())))
def YF(R3:P7)(R6:QQ)(t0:AAd)(t4 t5:Int)(b0:ABd):Option KV:=
 if(0:Int)<=t4/\t4<(t0.length:Int)then(
 cond (decide (t5<(((t0.getD (t4.toNat) ([],[],0,())).1).length:Int)))
  (if(0:Int)<=t4/\t4<(t0.length:Int)then(
  if(0:Int)<=t5/\t5<(((t0.getD (t4.toNat) ([],[],0,())).1).length:Int)then(
  (S3 b0 ((((t0.getD (t4.toNat) ([],[],0,())).1).getD (t5.toNat) (0,0,false,[],())).1,(((t0.getD (t4.toNat) ([],[],0,())).1).getD (t5.toNat) (0,0,false,[],())).2.1,(((t0.getD (t4.toNat) ([],[],0,())).1).getD (t5.toNat) (0,0,false,[],())).2.2.1,(((t0.getD (t4.toNat) ([],[],0,())).1).getD (t5.toNat) (0,0,false,[],())).2.2.2.1,())).bind fun u3=>
  R6 t0 t4 (AQ (t5+1)) u3.2.1)else none)else none)
 (R3 t0 (AQ (t4+1)) b0))else none
mutual
def Jl:Nat->P7
 |0=>fun _ _ _=>none
 |n+1=>Xw (Jl n) (JV n)
def JV:Nat->QQ
 |0=>fun _ _ _ _=>none
 |n+1=>YF (Jl n) (JV n)
end
def jS(R3:P7)(R6:QQ)(p0:AAd):Option KV:=
 R3 p0 0 []
def cV(p0:AAd):Option KV:=jS (Jl AW) (JV AW) p0
abbrev PF:Type:=AFH×AIm
abbrev YY:Type:=List Int->Int->Int->AAd->Int->ABd->ABd->Int->ABd->ABd->AAd->Option PF
abbrev WM:Type:=Int->Int->AAd->Int->ABd->ABd->Int->ABd->ABd->AAd->Option PF
def fu(R6:YY)(ja:WM)(t2:AAA)(t4 t14:Int)(b0:AAd)(CM:Int)(b2 b3:ABd)(fR:Int)(b5 b6:ABd)(b7:AAd):Option PF:=
 cond ((decide (t14<(b0.length:Int))))
  ((DI t2 t14).bind fun u6=>
  cond (!u6.1.1)
   (if(0:Int)<=t14/\t14<(b0.length:Int)then(
   if b7.length+1<=CN then(
   R6 t2 t4 (AQ (t14+1)) b0 CM b2 b3 fR b5 b6 (b7++[((b0.getD (t14.toNat) ([],[],0,())).1,(b0.getD (t14.toNat) ([],[],0,())).2.1,(b0.getD (t14.toNat) ([],[],0,())).2.2.1,())]))else none)else none)
  (R6 t2 t4 (AQ (t14+1)) b0 CM b2 b3 fR b5 b6 b7))
 (ja t4 0 b0 CM b2 b3 fR b5 b6 b7)
def cr(R6:YY)(ja:WM)(t4 t15:Int)(b0:AAd)(CM:Int)(b2 b3:ABd)(fR:Int)(b5 b6:ABd)(b7:AAd):Option PF:=
 cond ((decide (t15<(b7.length:Int))))
  (if(0:Int)<=t15/\t15<(b7.length:Int)then(
  (Gf ((b7.getD (t15.toNat) ([],[],0,())).1,(b7.getD (t15.toNat) ([],[],0,())).2.1,(b7.getD (t15.toNat) ([],[],0,())).2.2.1,())).bind fun u9=>
  cond (!u9.1.1)
   (some (((((),(),fR,()),false,()),()),(b0,b5,b6,())))
  (ja t4 (AQ (t15+1)) b0 CM b2 b3 fR b5 b6 b7))else none)
 ((cV b7).bind fun Dk=>
 (Gf (Dk.2.1,[],t4,())).bind fun Ed=>
 cond (!Ed.1.1)
  (some (((((),(),fR,()),false,()),()),(b0,b5,b6,())))
 (some (((((),(),t4,()),true,()),()),(b0,Dk.2.1,[],()))))
mutual
def QH:Nat->YY
 |0=>fun _ _ _ _ _ _ _ _ _ _ _=>none
 |n+1=>fu (QH n) (Nj n)
def Nj:Nat->WM
 |0=>fun _ _ _ _ _ _ _ _ _ _=>none
 |n+1=>cr (QH n) (Nj n)
end
def gK(R6:YY)(ja:WM)(p0:ABx)(p2:AAA)(p3 p4:Int)(b0:AAd):Option PF:=
 (Ge (p0.1,p0.2.1,())).bind fun u1=>
 cond (!u1.1.1)
  (some (((((),(),0,()),false,()),()),(b0,[],[],())))
 (cond (((b0.length:Int) !=(p0.1.length:Int)))
  (some (((((),(),0,()),false,()),()),(b0,[],[],())))
 ((bh (p0.1,p0.2.1,()) p2).bind fun u3=>
 cond (!u3.1.1)
  (some (((((),(),0,()),false,()),()),(b0,[],[],())))
 ((DI p2 p3).bind fun u4=>
 cond (!u4.1.1)
  (some (((((),(),0,()),false,()),()),(b0,[],[],())))
 (R6 p2 p4 0 b0 0 [] [] 0 [] [] []))))
def ix(p0:ABx)(p2:AAA)(p3 p4:Int)(b0:AAd):Option PF:=gK (QH AW) (Nj AW) p0 p2 p3 p4 b0
abbrev sx:Type:=AEq×AIi
def Yr(CP CV:Int)(BX:Bool)(p1:ADJ)(b0:AAA)(b1:AAd)(b2:AAA)(b3:AAf)(b4:ABE)(b5:ABI)(b6:AAs)(b7:AA8):Option sx:=
 (DI b2 p1.2.1).bind fun u1=>
 cond (!u1.1.1)
  (some (((((),CP,(),(),(),CV,(),(),(),(),BX,()),2,()),()),(b0,b1,(),b3,b4,b5,b6,b7,b2,())))
 ((Mm (AQ ((b3.length:Int)-1)) 0).bind fun u3=>
 (ix (b0,CP,()) b2 p1.2.1 u3.1.1 b1).bind fun u4=>
 cond (!u4.1.1.2.1)
  (some (((((),CP,(),(),(),CV,(),(),(),(),BX,()),4,()),()),(b0,u4.2.1,(),b3,b4,b5,b6,b7,b2,())))
 (if(0:Int)<=p1.2.1/\p1.2.1<(u4.2.1.length:Int)then(
 (JF b2 [p1.2.1]).bind fun u6=>
 some (((((),CP,(),(),(),CV,(),(),(),(),BX,()),0,()),()),(b0,(u4.2.1.set (p1.2.1.toNat) (u4.2.2.1,u4.2.2.2.1,u4.1.1.1.2.2.1,())),(),b3,b4,b5,b6,b7,u6.2.1,())))else none))
abbrev vH:Type:=AGC×AFA
def mq(p0 p1:Int):Option vH:=
 some (((p1,p0,(),(),false,(),()),()),([],[],[],()))
abbrev iS:Type:=AEq×(List Int×AAd×List Int×AAf×ABE×Unit×AAs×AA8×ABI×Unit)
def Yp(CP CV:Int)(BX:Bool)(b0:AAA)(b1:AAd)(b2:AAA)(b3:AAf)(b4:ABE)(b5:ABI)(b6:AAs)(b7:AA8):Option iS:=
 (Jq (b3,CV,())).bind fun u1=>
 cond ((decide ((b3.length:Int)<2)))
  (some (((((),CP,(),(),(),CV,(),(),(),(),BX,()),2,()),()),(b0,b1,b2,b3,b4,(),b6,b7,b5,())))
 (cond ((u1.1.1==(b3.length:Int)))
  (some (((((),CP,(),(),(),CV,(),(),(),(),BX,()),2,()),()),(b0,b1,b2,b3,b4,(),b6,b7,b5,())))
 (cond ((decide ((b5.length:Int)>0)))
  (some (((((),CP,(),(),(),CV,(),(),(),(),BX,()),4,()),()),(b0,b1,b2,b3,b4,(),b6,b7,b5,())))
 ((mq u1.1.1 (b3.length:Int)).bind fun u5=>
 some (((((),CP,(),(),(),CV,(),(),(),(),BX,()),0,()),()),(b0,b1,b2,b3,b4,(),b6,b7,[(u5.1.1.1,u5.1.1.2.1,u5.2.1,u5.2.2.1,u5.1.1.2.2.2.2.1,u5.2.2.2.1,())],())))))
abbrev nO:Type:=AFH×AEz
def Tk(p0:ADA)(p1:Int):Option nO:=
 (Gf (p0.1,p0.2.1,p0.2.2.1,())).bind fun u1=>
 cond (!u1.1.1)
  (some (((((),(),0,()),false,()),()),([],[],())))
 ((Pn (p0.1,p0.2.1,p0.2.2.1,())).bind fun u2=>
 cond (!u2.1.1.2.1)
  ((Eg (p0.1,p0.2.1,p0.2.2.1,())).bind fun u3=>
  some (((((),(),u3.1.1.2.2.1,()),false,()),()),(u3.2.1,u3.2.2.1,())))
 ((CF p1 0 30).bind fun u4=>
 cond (!u4.1.1)
  ((Eg (p0.1,p0.2.1,p0.2.2.1,())).bind fun u5=>
  some (((((),(),u5.1.1.2.2.1,()),false,()),()),(u5.2.1,u5.2.2.1,())))
 ((Mm u2.1.1.1.2.2.1 p1).bind fun u6=>
 some (((((),(),u6.1.1,()),true,()),()),(u2.2.1,u2.2.2.1,())))))
abbrev RW:Type:=ACL×AF9
abbrev VH:Type:=Int->Int->ABd->ABd->Int->ABd->Option RW
def Qn(R3:VH)(t1 t6:Int)(AK AF:ABd)(AZ:Int)(b1:ABd):Option RW:=
 cond ((decide (t6<(AK.length:Int))))
  ((Gf (AK,AF,AZ,())).bind fun u2=>
  cond (u2.1.1)
   (if(0:Int)<=t6/\t6<(AK.length:Int)then(
   (Cn ((AK.getD (t6.toNat) (0,0,false,[],())).1)).bind fun u4=>
   cond (u4.1.1==t1)
    (if(0:Int)<=t6/\t6<(AK.length:Int)then(
    if b1.length+1<=CN then(
    R3 t1 (AQ (t6+1)) AK AF AZ (b1++[((AK.getD (t6.toNat) (0,0,false,[],())).1,(AK.getD (t6.toNat) (0,0,false,[],())).2.1,(AK.getD (t6.toNat) (0,0,false,[],())).2.2.1,(AK.getD (t6.toNat) (0,0,false,[],())).2.2.2.1,())]))else none)else none)
   (R3 t1 (AQ (t6+1)) AK AF AZ b1))else none)
  (some (((),()),(b1,()))))
 (some (((),()),(b1,())))
def JW:Nat->VH
 |0=>fun _ _ _ _ _ _=>none
 |n+1=>Qn (JW n)
def YD(R3:VH)(p0:ADA)(p1:Int):Option RW:=
 R3 p1 0 p0.1 p0.2.1 p0.2.2.1 []
def WU(p0:ADA)(p1:Int):Option RW:=YD (JW AW) p0 p1
abbrev Rc:Type:=AFl×AFA
abbrev Vl:Type:=ABd->Int->List Int->Int->Int->Int->List Int->ABd->Bool->List AAA->Int->Int->Bool->List Int->ABd->List AAA->Int->Int->Bool->List Int->ABd->List AAA->Option Rc
def Xm(R6:Vl)(t3:ABd)(t11:Int)(AK:AAA)(AF Bn BL:Int)(CM:AAA)(EG:ABd)(HF:Bool)(FI:List AAA)(Qm SC:Int)(ya:Bool)(b3:AAA)(b4:ABd)(b5:List AAA)(yr yX:Int)(zI:Bool)(b7:AAA)(b8:ABd)(b9:List AAA):Option Rc:=
 cond ((decide (t11<(t3.length:Int))))
  (if(0:Int)<=t11/\t11<(t3.length:Int)then(
  (Cn ((t3.getD (t11.toNat) (0,0,false,[],())).1)).bind fun u6=>
  cond (u6.1.1==BL)
   (if(0:Int)<=t11/\t11<(t3.length:Int)then(
   (S3 b8 ((t3.getD (t11.toNat) (0,0,false,[],())).1,(t3.getD (t11.toNat) (0,0,false,[],())).2.1,(t3.getD (t11.toNat) (0,0,false,[],())).2.2.1,(t3.getD (t11.toNat) (0,0,false,[],())).2.2.2.1,())).bind fun u7=>
   R6 t3 (AQ (t11+1)) AK AF Bn BL CM EG HF FI Qm SC ya b3 b4 b5 yr yX zI b7 u7.2.1 b9)else none)
  (R6 t3 (AQ (t11+1)) AK AF Bn BL CM EG HF FI Qm SC ya b3 b4 b5 yr yX zI b7 b8 b9))else none)
 (cond (HF)
  ((EO (Bn,BL,CM,EG,HF,FI,())).bind fun u8=>
  some ((((u8.1.1.1,u8.1.1.2.1,(),(),u8.1.1.2.2.2.2.1,(),()),false,()),()),(u8.2.1,u8.2.2.1,u8.2.2.2.1,())))
 ((JK (AK,AF,()) (yr,yX,b7,b8,zI,b9,())).bind fun u9=>
 cond (!u9.1.1)
  ((EO (Bn,BL,CM,EG,HF,FI,())).bind fun Dk=>
  some ((((Dk.1.1.1,Dk.1.1.2.1,(),(),Dk.1.1.2.2.2.2.1,(),()),false,()),()),(Dk.2.1,Dk.2.2.1,Dk.2.2.2.1,())))
 (some ((((yr,yX,(),(),zI,(),()),true,()),()),(b7,b8,b9,())))))
def Lh:Nat->Vl
 |0=>fun _ _ _ _ _ _ _ _ _ _ _ _ _ _ _ _ _ _ _ _ _ _=>none
 |n+1=>Xm (Lh n)
def Xp(R6:Vl)(p0:ABx)(p1:AB1)(p2:Int)(p3:ABd):Option Rc:=
 (JK (p0.1,p0.2.1,()) (p1.1,p1.2.1,p1.2.2.1,p1.2.2.2.1,p1.2.2.2.2.1,p1.2.2.2.2.2.1,())).bind fun u1=>
 cond (!u1.1.1)
  (some ((((0,0,(),(),false,(),()),false,()),()),([],[],[],())))
 ((EO (p1.1,p1.2.1,p1.2.2.1,p1.2.2.2.1,p1.2.2.2.2.1,p1.2.2.2.2.2.1,())).bind fun u2=>
 (Mq u2.2.1 p2).bind fun u3=>
 R6 p3 0 p0.1 p0.2.1 p1.1 p1.2.1 p1.2.2.1 p1.2.2.2.1 p1.2.2.2.2.1 p1.2.2.2.2.2.1 0 0 false [] [] [] u2.1.1.1 u2.1.1.2.1 u2.1.1.2.2.2.2.1 u3.2.1 u2.2.2.1 u2.2.2.2.1)
def Vv(p0:ABx)(p1:AB1)(p2:Int)(p3:ABd):Option Rc:=Xp (Lh AW) p0 p1 p2 p3
abbrev tw:Type:=AEq×AEw
def YR(CP CV:Int)(BX:Bool)(p1:ADJ)(b0:AAA)(b1:AAd)(b2:AAA)(b3:AAf)(b4:ABE)(b5:ABI)(b6:AAs)(b7:AA8):Option tw:=
 cond (((b5.length:Int)==0))
  (some (((((),CP,(),(),(),CV,(),(),(),(),BX,()),2,()),()),(b0,b1,b2,b3,b4,b5,b6,b7,())))
 (if(0:Int)<=(0:Int)/\(0:Int)<(b5.length:Int)then(
 (Hk (b0,CP,b1,b2,b3,CV,b4,b5,b6,b7,BX,()) p1.2.1).bind fun u2=>
 cond (u2.1.1 !=0)
  (some (((((),CP,(),(),(),CV,(),(),(),(),BX,()),u2.1.1,()),()),(b0,b1,b2,b3,b4,b5,b6,b7,())))
 ((Ce (b3,CV,()) ((b5.getD 0 (0,0,[],[],false,[],())).2.1)).bind fun u4=>
 (DI u4.2.1 p1.2.1).bind fun u5=>
 cond (!u5.1.1)
  (some (((((),CP,(),(),(),CV,(),(),(),(),BX,()),2,()),()),(b0,b1,b2,b3,b4,b5,b6,b7,())))
 (if(0:Int)<=p1.2.1/\p1.2.1<(b1.length:Int)then(
 (Tk ((b1.getD (p1.2.1.toNat) ([],[],0,())).1,(b1.getD (p1.2.1.toNat) ([],[],0,())).2.1,(b1.getD (p1.2.1.toNat) ([],[],0,())).2.2.1,()) (AQ (((b5.getD 0 (0,0,[],[],false,[],())).1)-1))).bind fun u7=>
 (WU (u7.2.1,u7.2.2.1,u7.1.1.1.2.2.1,()) ((b5.getD 0 (0,0,[],[],false,[],())).2.1)).bind fun u9=>
 (Vv (b0,CP,()) ((b5.getD 0 (0,0,[],[],false,[],())).1,(b5.getD 0 (0,0,[],[],false,[],())).2.1,(b5.getD 0 (0,0,[],[],false,[],())).2.2.1,(b5.getD 0 (0,0,[],[],false,[],())).2.2.2.1,(b5.getD 0 (0,0,[],[],false,[],())).2.2.2.2.1,(b5.getD 0 (0,0,[],[],false,[],())).2.2.2.2.2.1,()) p1.2.1 u9.2.1).bind fun Dk=>
 cond (!u7.1.1.2.1)
  (some (((((),CP,(),(),(),CV,(),(),(),(),BX,()),4,()),()),(b0,b1,b2,b3,b4,b5,b6,b7,())))
 (cond (!Dk.1.1.2.1)
  (some (((((),CP,(),(),(),CV,(),(),(),(),BX,()),4,()),()),(b0,b1,b2,b3,b4,b5,b6,b7,())))
 (if(0:Int)<=p1.2.1/\p1.2.1<(b1.length:Int)then(
 if(0:Int)<=(0:Int)/\(0:Int)<(b5.length:Int)then(
 some (((((),CP,(),(),(),CV,(),(),(),(),BX,()),0,()),()),(b0,(b1.set (p1.2.1.toNat) (u7.2.1,u7.2.2.1,u7.1.1.1.2.2.1,())),b2,b3,b4,(b5.set 0 (Dk.1.1.1.1,Dk.1.1.1.2.1,Dk.2.1,Dk.2.2.1,Dk.1.1.1.2.2.2.2.1,Dk.2.2.2.1,())),b6,b7,())))else none)else none)))else none)))else none)
abbrev vu:Type:=ACL×ADH
def Kw(p0 p1:AAA):Option vu:=
 (JF p0 p1).bind fun u1=>
 (JF p0 u1.2.1).bind fun u2=>
 some (((),()),(u2.2.1,()))
abbrev wI:Type:=ABz×Unit
def Ky(p0:ABx)(p1 p2:AAA):Option wI:=
 (F4 (p0.1,p0.2.1,()) p1).bind fun u1=>
 cond (!u1.1.1)
  (some ((false,()),()))
 ((Gz (p0.1,p0.2.1,()) p2).bind fun u2=>
 cond (!u2.1.1)
  (some ((false,()),()))
 ((JF p2 p1).bind fun u3=>
 cond (decide ((u3.2.1.length:Int)>0))
  (some ((false,()),()))
 ((JF p1 p2).bind fun u5=>
 (Wo (p0.1,p0.2.1,()) u5.2.1).bind fun u6=>
 some (((decide (u6.1.1<p0.2.1)),()),()))))
abbrev Rk:Type:=AFl×AFA
abbrev Ve:Type:=Int->Int->Int->List Int->ABd->Bool->List AAA->Int->Int->Bool->List Int->ABd->List AAA->Int->Int->Bool->List Int->ABd->List AAA->Option Rk
def X4(R8:Ve)(t9 AK AF:Int)(AZ:AAA)(BD:ABd)(BI:Bool)(AO:List AAA)(Bn BL:Int)(HF:Bool)(b2:AAA)(b3:ABd)(b4:List AAA)(AIM ABq:Int)(AGF:Bool)(b6:AAA)(b7:ABd)(b8:List AAA):Option Rk:=
 (Sx (AK,AF,AZ,BD,BI,AO,())).bind fun u5=>
 cond (decide (t9<u5.1.1))
  (if b8.length+1<=CN then(
  R8 (AQ (t9+1)) AK AF AZ BD BI AO Bn BL HF b2 b3 b4 AIM ABq AGF b6 b7 (b8++[[]]))else none)
 (some ((((AIM,ABq,(),(),AGF,(),()),true,()),()),(b6,b7,b8,())))
def Ma:Nat->Ve
 |0=>fun _ _ _ _ _ _ _ _ _ _ _ _ _ _ _ _ _ _ _=>none
 |n+1=>X4 (Ma n)
def Xn(R8:Ve)(p0:ABx)(p1:AB1)(p2:AAA):Option Rk:=
 (JK (p0.1,p0.2.1,()) (p1.1,p1.2.1,p1.2.2.1,p1.2.2.2.1,p1.2.2.2.2.1,p1.2.2.2.2.2.1,())).bind fun u1=>
 cond (!u1.1.1)
  (some ((((0,0,(),(),false,(),()),false,()),()),([],[],[],())))
 ((EO (p1.1,p1.2.1,p1.2.2.1,p1.2.2.2.1,p1.2.2.2.2.1,p1.2.2.2.2.2.1,())).bind fun u2=>
 cond (p1.2.2.2.2.1)
  (some ((((u2.1.1.1,u2.1.1.2.1,(),(),u2.1.1.2.2.2.2.1,(),()),false,()),()),(u2.2.1,u2.2.2.1,u2.2.2.2.1,())))
 ((Kw p1.2.2.1 p2).bind fun u3=>
 (Ky (p0.1,p0.2.1,()) p2 u3.2.1).bind fun u4=>
 cond (!u4.1.1)
  (some ((((u2.1.1.1,u2.1.1.2.1,(),(),u2.1.1.2.2.2.2.1,(),()),false,()),()),(u2.2.1,u2.2.2.1,u2.2.2.2.1,())))
 (R8 0 p1.1 p1.2.1 p1.2.2.1 p1.2.2.2.1 p1.2.2.2.2.1 p1.2.2.2.2.2.1 0 0 false [] [] [] u2.1.1.1 u2.1.1.2.1 true u2.2.1 u2.2.2.1 u2.2.2.2.1)))
def V7(p0:ABx)(p1:AB1)(p2:AAA):Option Rk:=Xn (Ma AW) p0 p1 p2
abbrev tW:Type:=AEq×AEw
def YQ(CP CV:Int)(BX:Bool)(b0:AAA)(b1:AAd)(b2:AAA)(b3:AAf)(b4:ABE)(b5:ABI)(b6:AAs)(b7:AA8):Option tW:=
 cond (((b5.length:Int)==0))
  (some (((((),CP,(),(),(),CV,(),(),(),(),BX,()),2,()),()),(b0,b1,b2,b3,b4,b5,b6,b7,())))
 (if(0:Int)<=(0:Int)/\(0:Int)<(b5.length:Int)then(
 if(0:Int)<=(0:Int)/\(0:Int)<(b5.length:Int)then(
 (Ce (b3,CV,()) ((b5.getD 0 (0,0,[],[],false,[],())).2.1)).bind fun u3=>
 (V7 (b0,CP,()) ((b5.getD 0 (0,0,[],[],false,[],())).1,(b5.getD 0 (0,0,[],[],false,[],())).2.1,(b5.getD 0 (0,0,[],[],false,[],())).2.2.1,(b5.getD 0 (0,0,[],[],false,[],())).2.2.2.1,(b5.getD 0 (0,0,[],[],false,[],())).2.2.2.2.1,(b5.getD 0 (0,0,[],[],false,[],())).2.2.2.2.2.1,()) u3.2.1).bind fun u4=>
 cond (!u4.1.1.2.1)
  (some (((((),CP,(),(),(),CV,(),(),(),(),BX,()),4,()),()),(b0,b1,b2,b3,b4,b5,b6,b7,())))
 (if(0:Int)<=(0:Int)/\(0:Int)<(b5.length:Int)then(
 some (((((),CP,(),(),(),CV,(),(),(),(),BX,()),0,()),()),(b0,b1,b2,b3,b4,(b5.set 0 (u4.1.1.1.1,u4.1.1.1.2.1,u4.2.1,u4.2.2.1,u4.1.1.1.2.2.2.2.1,u4.2.2.2.1,())),b6,b7,())))else none))else none)else none)
abbrev wA:Type:=AEq×AEw
def bn(CP CV:Int)(BX:Bool)(p1:ADJ)(b0:AAA)(b1:AAd)(b2:AAA)(b3:AAf)(b4:ABE)(b5:ABI)(b6:AAs)(b7:AA8):Option wA:=
 cond (((b5.length:Int)==0))
  (some (((((),CP,(),(),(),CV,(),(),(),(),BX,()),2,()),()),(b0,b1,b2,b3,b4,b5,b6,b7,())))
 (if(0:Int)<=(0:Int)/\(0:Int)<(b5.length:Int)then(
 (Eh ((b5.getD 0 (0,0,[],[],false,[],())).1,(b5.getD 0 (0,0,[],[],false,[],())).2.1,(b5.getD 0 (0,0,[],[],false,[],())).2.2.1,(b5.getD 0 (0,0,[],[],false,[],())).2.2.2.1,(b5.getD 0 (0,0,[],[],false,[],())).2.2.2.2.1,(b5.getD 0 (0,0,[],[],false,[],())).2.2.2.2.2.1,()) p1.2.2.1).bind fun u2=>
 cond (!u2.1.1.2.1)
  (some (((((),CP,(),(),(),CV,(),(),(),(),BX,()),2,()),()),(b0,b1,b2,b3,b4,b5,b6,b7,())))
 ((Hk (b0,CP,b1,b2,b3,CV,b4,b5,b6,b7,BX,()) p1.2.2.2.1).bind fun u3=>
 cond (u3.1.1 !=0)
  (some (((((),CP,(),(),(),CV,(),(),(),(),BX,()),u3.1.1,()),()),(b0,b1,b2,b3,b4,b5,b6,b7,())))
 (if(0:Int)<=(0:Int)/\(0:Int)<(b5.length:Int)then(
 (Ce (b3,CV,()) ((b5.getD 0 (0,0,[],[],false,[],())).2.1)).bind fun u5=>
 (DI u5.2.1 p1.2.2.2.1).bind fun u6=>
 cond (!u6.1.1)
  (some (((((),CP,(),(),(),CV,(),(),(),(),BX,()),2,()),()),(b0,b1,b2,b3,b4,b5,b6,b7,())))
 (if(0:Int)<=p1.2.2.2.1/\p1.2.2.2.1<(b1.length:Int)then(
 (Q8 ((b1.getD (p1.2.2.2.1.toNat) ([],[],0,())).1,(b1.getD (p1.2.2.2.1.toNat) ([],[],0,())).2.1,(b1.getD (p1.2.2.2.1.toNat) ([],[],0,())).2.2.1,()) (u2.1.1.1.1,u2.1.1.1.2.1,u2.1.1.1.2.2.1,u2.1.1.1.2.2.2.1,())).bind fun u7=>
 cond (!u7.1.1.2.1)
  (some (((((),CP,(),(),(),CV,(),(),(),(),BX,()),4,()),()),(b0,b1,b2,b3,b4,b5,b6,b7,())))
 (if(0:Int)<=p1.2.2.2.1/\p1.2.2.2.1<(b1.length:Int)then(
 some (((((),CP,(),(),(),CV,(),(),(),(),BX,()),0,()),()),(b0,(b1.set (p1.2.2.2.1.toNat) (u7.2.1,u7.2.2.1,u7.1.1.1.2.2.1,())),b2,b3,b4,b5,b6,b7,())))else none))else none))else none)))else none)
abbrev P2:Type:=ABz×Unit
abbrev TU:Type:=Int->List Int->Int->Int->Int->List Int->ABd->Bool->List AAA->Option P2
def XN(R4:TU)(t5:Int)(AK:AAA)(AF Bn BL:Int)(CM:AAA)(EG:ABd)(HF:Bool)(FI:List AAA):Option P2:=
 cond ((decide (t5<(FI.length:Int))))
  (if(0:Int)<=t5/\t5<(FI.length:Int)then(
  (F4 (AK,AF,()) (FI.getD (t5.toNat) [])).bind fun u3=>
  cond (!u3.1.1)
   (some ((false,()),()))
  (R4 (AQ (t5+1)) AK AF Bn BL CM EG HF FI))else none)
 (some ((true,()),()))
def K6:Nat->TU
 |0=>fun _ _ _ _ _ _ _ _ _=>none
 |n+1=>XN (K6 n)
def Wd(R4:TU)(p0:ABx)(p1:AB1):Option P2:=
 (JK (p0.1,p0.2.1,()) (p1.1,p1.2.1,p1.2.2.1,p1.2.2.2.1,p1.2.2.2.2.1,p1.2.2.2.2.2.1,())).bind fun u1=>
 cond (!u1.1.1)
  (some ((false,()),()))
 (cond (!p1.2.2.2.2.1)
  (some ((false,()),()))
 (R4 0 p0.1 p0.2.1 p1.1 p1.2.1 p1.2.2.1 p1.2.2.2.1 p1.2.2.2.2.1 p1.2.2.2.2.2.1))
def T9(p0:ABx)(p1:AB1):Option P2:=Wd (K6 AW) p0 p1
abbrev qk:Type:=AG3×AFi
def Vy(p0:ABx)(p1:AB4)(p2 p3:Int):Option qk:=
 (M5 (p0.1,p0.2.1,()) (p1.1,p1.2.1,())).bind fun u1=>
 cond (!u1.1.1)
  (some (((((),0,()),false,()),()),([],())))
 ((GN (p1.1,p1.2.1,())).bind fun u2=>
 (Jq (p1.1,p1.2.1,())).bind fun u3=>
 cond ((p2 !=(p1.1.length:Int)))
  (some (((((),u2.1.1.2.1,()),false,()),()),(u2.2.1,())))
 (cond (u3.1.1==0)
  (some (((((),u2.1.1.2.1,()),false,()),()),(u2.2.1,())))
 (cond (p2==u3.1.1)
  (some (((((),u2.1.1.2.1,()),false,()),()),(u2.2.1,())))
 ((CF p3 0 60).bind fun u5=>
 cond (!u5.1.1)
  (some (((((),u2.1.1.2.1,()),false,()),()),(u2.2.1,())))
 (if(0:Int)<=AQ (u3.1.1-1)/\AQ (u3.1.1-1)<(u2.2.1.length:Int)then(
 let x6:AAf:=(u2.2.1.set ((AQ (u3.1.1-1)).toNat) ((u2.2.1.getD ((AQ (u3.1.1-1)).toNat) ([],false,0,())).1,true,(u2.2.1.getD ((AQ (u3.1.1-1)).toNat) ([],false,0,())).2.2.1,()))
 if(0:Int)<=AQ (u3.1.1-1)/\AQ (u3.1.1-1)<(x6.length:Int)then(
 some (((((),u2.1.1.2.1,()),true,()),()),((x6.set ((AQ (u3.1.1-1)).toNat) ((x6.getD ((AQ (u3.1.1-1)).toNat) ([],false,0,())).1,(x6.getD ((AQ (u3.1.1-1)).toNat) ([],false,0,())).2.1,p3,())),())))else none)else none)))))
abbrev gA:Type:=AEq×(List Int×AAd×List Int×Unit×ABE×Unit×AAs×AA8×AAf×ABI×Unit)
def Vz(CP CV:Int)(BX:Bool)(b0:AAA)(b1:AAd)(b2:AAA)(b3:AAf)(b4:ABE)(b5:ABI)(b6:AAs)(b7:AA8):Option gA:=
 cond (((b5.length:Int)==0))
  (some (((((),CP,(),(),(),CV,(),(),(),(),BX,()),2,()),()),(b0,b1,b2,(),b4,(),b6,b7,b3,b5,())))
 (if(0:Int)<=(0:Int)/\(0:Int)<(b5.length:Int)then(
 (T9 (b0,CP,()) ((b5.getD 0 (0,0,[],[],false,[],())).1,(b5.getD 0 (0,0,[],[],false,[],())).2.1,(b5.getD 0 (0,0,[],[],false,[],())).2.2.1,(b5.getD 0 (0,0,[],[],false,[],())).2.2.2.1,(b5.getD 0 (0,0,[],[],false,[],())).2.2.2.2.1,(b5.getD 0 (0,0,[],[],false,[],())).2.2.2.2.2.1,())).bind fun u2=>
 cond (!u2.1.1)
  (some (((((),CP,(),(),(),CV,(),(),(),(),BX,()),5,()),()),(b0,b1,b2,(),b4,(),b6,b7,b3,b5,())))
 (if(0:Int)<=(0:Int)/\(0:Int)<(b5.length:Int)then(
 if(0:Int)<=(0:Int)/\(0:Int)<(b5.length:Int)then(
 (Vy (b0,CP,()) (b3,CV,()) ((b5.getD 0 (0,0,[],[],false,[],())).1) (((b5.getD 0 (0,0,[],[],false,[],())).2.2.2.2.2.1).length:Int)).bind fun u5=>
 cond (!u5.1.1.2.1)
  (some (((((),CP,(),(),(),CV,(),(),(),(),BX,()),4,()),()),(b0,b1,b2,(),b4,(),b6,b7,b3,b5,())))
 (some (((((),CP,(),(),(),u5.1.1.1.2.1,(),(),(),(),BX,()),0,()),()),(b0,b1,b2,(),b4,(),b6,b7,u5.2.1,[],()))))else none)else none))else none)
abbrev uE:Type:=AG3×AFi
def YW(p0:ABx)(p1:AB4)(p2:Int):Option uE:=
 (M5 (p0.1,p0.2.1,()) (p1.1,p1.2.1,())).bind fun u1=>
 cond (!u1.1.1)
  (some (((((),0,()),false,()),()),([],())))
 ((GN (p1.1,p1.2.1,())).bind fun u2=>
 (FE p2).bind fun u3=>
 cond (!u3.1.1)
  (some (((((),u2.1.1.2.1,()),false,()),()),(u2.2.1,())))
 ((Cn p2).bind fun u4=>
 cond ((decide (u4.1.1>(p1.1.length:Int))))
  (some (((((),u2.1.1.2.1,()),false,()),()),(u2.2.1,())))
 ((Mm u2.1.1.2.1 p2).bind fun u6=>
 some (((((),u6.1.1,()),true,()),()),(u2.2.1,())))))
abbrev OQ:Type:=AB2×Unit
abbrev Rz:Type:=Int->Int->AB3->Option OQ
def Us(R2:Rz)(t3 AK:Int)(AF:AB3):Option OQ:=
 cond ((decide (t3<(AF.length:Int))))
  (if(0:Int)<=t3/\t3<(AF.length:Int)then(
  cond (((AF.getD (t3.toNat) ([],[],false,())).2.2.1))
   (R2 (AQ (t3+1)) AK AF)
  (some ((t3,()),())))else none)
 (some ((t3,()),()))
def J9:Nat->Rz
 |0=>fun _ _ _=>none
 |n+1=>Us (J9 n)
def gR(R2:Rz)(p0:AB5):Option OQ:=
 R2 0 p0.1 p0.2.1
def Xf(p0:AB5):Option OQ:=gR (J9 AW) p0
abbrev WN:Type:=AB2×Unit
abbrev ZV:Type:=Int->Int->List Int->Int->AAd->List Int->AAf->Int->ABE->ABI->AAs->AA8->Bool->Option WN
def bo(R2:ZV)(t1 t5:Int)(AK:AAA)(AF:Int)(AZ:AAd)(BD:AAA)(BI:AAf)(AO:Int)(Bl:ABE)(Bk:ABI)(BN:AAs)(Bo:AA8)(AH:Bool):Option WN:=
 cond ((decide (t5<(Bl.length:Int))))
  (if(0:Int)<=t5/\t5<(Bl.length:Int)then(
  cond (((Bl.getD (t5.toNat) (0,[],())).1)==t1)
   (if(0:Int)<=t5/\t5<(Bl.length:Int)then(
   (Xf ((Bl.getD (t5.toNat) (0,[],())).1,(Bl.getD (t5.toNat) (0,[],())).2.1,())).bind fun u3=>
   some ((u3.1.1,()),()))else none)
  (R2 t1 (AQ (t5+1)) AK AF AZ BD BI AO Bl Bk BN Bo AH))else none)
 (some ((0,()),()))
def O3:Nat->ZV
 |0=>fun _ _ _ _ _ _ _ _ _ _ _ _ _=>none
 |n+1=>bo (O3 n)
def lp(R2:ZV)(p0:AB0)(p1:Int):Option WN:=
 R2 p1 0 p0.1 p0.2.1 p0.2.2.1 p0.2.2.2.1 p0.2.2.2.2.1 p0.2.2.2.2.2.1 p0.2.2.2.2.2.2.1 p0.2.2.2.2.2.2.2.1 p0.2.2.2.2.2.2.2.2.1 p0.2.2.2.2.2.2.2.2.2.1 p0.2.2.2.2.2.2.2.2.2.2.1
def ie(p0:AB0)(p1:Int):Option WN:=lp (O3 AW) p0 p1
abbrev Om:Type:=ACL×(AD_×Unit)
abbrev SO:Type:=Int->List Int->Int->AAd->List Int->AAf->Int->ABE->ABI->AAs->AA8->Bool->Int->Int->ADY->AD_->List Int->Option Om
def Ur(R4:SO)(t9:Int)(AK:AAA)(AF:Int)(AZ:AAd)(BD:AAA)(BI:AAf)(AO:Int)(Bl:ABE)(Bk:ABI)(BN:AAs)(Bo:AA8)(AH:Bool)(Bn BL:Int)(CM:ADY)(b2:AD_)(b3:AAA):Option Om:=
 cond ((decide (t9<(b3.length:Int))))
  (if(0:Int)<=t9/\t9<(b3.length:Int)then(
  (Hk (AK,AF,AZ,BD,BI,AO,Bl,Bk,BN,Bo,AH,()) (b3.getD (t9.toNat) 0)).bind fun u4=>
  cond (u4.1.1 !=0)
   (R4 (AQ (t9+1)) AK AF AZ BD BI AO Bl Bk BN Bo AH Bn BL CM b2 b3)
  (if(0:Int)<=t9/\t9<(b3.length:Int)then(
  let x5:Int:=(b3.getD (t9.toNat) 0)
  if(0:Int)<=x5/\x5<(AZ.length:Int)then(
  (Dh Bn BL).bind fun u6=>
  (Hd ((AZ.getD (x5.toNat) ([],[],0,())).1) u6.1.1).bind fun u7=>
  if(0:Int)<=t9/\t9<(b3.length:Int)then(
  if b2.length+1<=CN then(
  R4 (AQ (t9+1)) AK AF AZ BD BI AO Bl Bk BN Bo AH Bn BL CM (b2++[((b3.getD (t9.toNat) 0),u7.1.1.2.1,u7.1.1.1.1,u7.1.1.1.2.1,u7.1.1.1.2.2.1,u7.1.1.1.2.2.2.1,())]) b3)else none)else none)else none)else none))else none)
 (some (((),()),(b2,())))
def Jz:Nat->SO
 |0=>fun _ _ _ _ _ _ _ _ _ _ _ _ _ _ _ _ _=>none
 |n+1=>Ur (Jz n)
def Uz(R4:SO)(p0:AB0)(p1:ADU)(p2:Int):Option Om:=
 (PU p2).bind fun u1=>
 R4 0 p0.1 p0.2.1 p0.2.2.1 p0.2.2.2.1 p0.2.2.2.2.1 p0.2.2.2.2.2.1 p0.2.2.2.2.2.2.1 p0.2.2.2.2.2.2.2.1 p0.2.2.2.2.2.2.2.2.1 p0.2.2.2.2.2.2.2.2.2.1 p0.2.2.2.2.2.2.2.2.2.2.1 p1.1 p1.2.1 p1.2.2.1 [] u1.2.1
def Ro(p0:AB0)(p1:ADU)(p2:Int):Option Om:=Uz (Jz AW) p0 p1 p2
abbrev Rl:Type:=((Unit×Bool×Unit)×Unit)×ADH
abbrev Vg:Type:=AD_->Int->List Int->Int->List Int->Option Rl
def X1(R3:Vg)(t1:AD_)(t7:Int)(AK:AAA)(AF:Int)(b1:AAA):Option Rl:=
 cond ((decide (t7<(t1.length:Int))))
  (if(0:Int)<=t7/\t7<(t1.length:Int)then(
  if b1.length+1<=CN then(
  R3 t1 (AQ (t7+1)) AK AF (b1++[((t1.getD (t7.toNat) (0,false,0,0,false,[],())).1)]))else none)else none)
 ((Gz (AK,AF,()) b1).bind fun u3=>
 some ((((),u3.1.1,()),()),(b1,())))
def MZ:Nat->Vg
 |0=>fun _ _ _ _ _=>none
 |n+1=>X1 (MZ n)
def jO(R3:Vg)(p0:ABx)(p1:AD_):Option Rl:=
 R3 p1 0 p0.1 p0.2.1 []
def cN(p0:ABx)(p1:AD_):Option Rl:=jO (MZ AW) p0 p1
abbrev vK:Type:=AGB×AF1
def I7(p0:ADU)(p1:AFL)(p2 p3:Int):Option vK:=
 (CU (p0.1,p0.2.1,p0.2.2.1,())).bind fun u1=>
 if u1.2.1.length+1<=CN then(
 some (((p2,p3,(),()),()),((u1.2.1++[(p1.1,p1.2.1,p1.2.2.1,())]),())))else none
abbrev UW:Type:=(AFL×Unit)×Unit
abbrev XU:Type:=List Int->Int->AD_->Bool->Int->Int->Int->List UInt8->Int->Int->Bool->List UInt8->Option UW
def Zt(R4:XU)(t0:AAA)(t1:Int)(t2:AD_)(t8:Bool)(t9 AK AF:Int)(AZ:ABF)(Bn BL:Int)(CM:Bool)(EG:ABF):Option UW:=
 cond ((decide (t9<(t2.length:Int))))
  (if(0:Int)<=t9/\t9<(t2.length:Int)then(
  cond (!((t2.getD (t9.toNat) (0,false,0,0,false,[],())).2.1))
   (R4 t0 t1 t2 t8 (AQ (t9+1)) AK AF AZ Bn BL CM EG)
  ((DI t0 ((t2.getD (t9.toNat) (0,false,0,0,false,[],())).1)).bind fun u4=>
  cond (!u4.1.1)
   (R4 t0 t1 t2 t8 (AQ (t9+1)) AK AF AZ Bn BL CM EG)
  ((Ml ((t2.getD (t9.toNat) (0,false,0,0,false,[],())).2.2.1,(t2.getD (t9.toNat) (0,false,0,0,false,[],())).2.2.2.1,(t2.getD (t9.toNat) (0,false,0,0,false,[],())).2.2.2.2.1,(t2.getD (t9.toNat) (0,false,0,0,false,[],())).2.2.2.2.2.1,())).bind fun u5=>
  cond (!u5.1.1)
   (R4 t0 t1 t2 t8 (AQ (t9+1)) AK AF AZ Bn BL CM EG)
  (cond (((t2.getD (t9.toNat) (0,false,0,0,false,[],())).2.2.1) !=t1)
   (R4 t0 t1 t2 t8 (AQ (t9+1)) AK AF AZ Bn BL CM EG)
  (cond (!t8)
   ((Se ((t2.getD (t9.toNat) (0,false,0,0,false,[],())).2.2.1,(t2.getD (t9.toNat) (0,false,0,0,false,[],())).2.2.2.1,(t2.getD (t9.toNat) (0,false,0,0,false,[],())).2.2.2.2.1,(t2.getD (t9.toNat) (0,false,0,0,false,[],())).2.2.2.2.2.1,()) ((t2.getD (t9.toNat) (0,false,0,0,false,[],())).2.2.1,(t2.getD (t9.toNat) (0,false,0,0,false,[],())).2.2.2.1,(t2.getD (t9.toNat) (0,false,0,0,false,[],())).2.2.2.2.1,(t2.getD (t9.toNat) (0,false,0,0,false,[],())).2.2.2.2.2.1,())).bind fun u7=>
   R4 t0 t1 t2 true (AQ (t9+1)) AK AF AZ u7.1.1.1 u7.1.1.2.1 u7.1.1.2.2.1 u7.1.1.2.2.2.1)
  ((Se (Bn,BL,CM,EG,()) ((t2.getD (t9.toNat) (0,false,0,0,false,[],())).2.2.1,(t2.getD (t9.toNat) (0,false,0,0,false,[],())).2.2.2.1,(t2.getD (t9.toNat) (0,false,0,0,false,[],())).2.2.2.2.1,(t2.getD (t9.toNat) (0,false,0,0,false,[],())).2.2.2.2.2.1,())).bind fun u8=>
  R4 t0 t1 t2 true (AQ (t9+1)) AK AF AZ u8.1.1.1 u8.1.1.2.1 u8.1.1.2.2.1 u8.1.1.2.2.2.1))))))else none)
 (cond (!t8)
  (some (((3,t1,[],()),()),()))
 (cond (CM)
  (some (((2,t1,[],()),()),()))
 (some (((1,t1,EG,()),()),()))))
def NY:Nat->XU
 |0=>fun _ _ _ _ _ _ _ _ _ _ _ _=>none
 |n+1=>Zt (NY n)
def kP(R4:XU)(p0:AAA)(p1:Int)(p2:AD_):Option UW:=
 R4 p0 p1 p2 false 0 0 0 [] 0 0 false []
def My(p0:AAA)(p1:Int)(p2:AD_):Option UW:=kP (NY AW) p0 p1 p2
abbrev bJ:Type:=(AIK×Unit)×AF1
def Rp(p0:ABx)(p1:AB4)(p2:Int)(p3:ADU)(p4:AD_):Option bJ:=
 (cN (p0.1,p0.2.1,()) p4).bind fun u1=>
 (M5 (p0.1,p0.2.1,()) (p1.1,p1.2.1,())).bind fun u2=>
 cond (!u2.1.1)
  (some ((((0,0,(),()),1,()),()),([],())))
 ((Nn (p3.1,p3.2.1,p3.2.2.1,())).bind fun u3=>
 cond (!u3.1.1)
  (some ((((0,0,(),()),1,()),()),([],())))
 (cond (!u1.1.1.2.1)
  (some ((((0,0,(),()),1,()),()),([],())))
 (cond ((decide (p3.1>(p1.1.length:Int))))
  ((CU (p3.1,p3.2.1,p3.2.2.1,())).bind fun u5=>
  some ((((u5.1.1.1,u5.1.1.2.1,(),()),2,()),()),(u5.2.1,())))
 (cond ((p3.2.2.1.length:Int)==120)
  ((CU (p3.1,p3.2.1,p3.2.2.1,())).bind fun u7=>
  some ((((u7.1.1.1,u7.1.1.2.1,(),()),2,()),()),(u7.2.1,())))
 (if(0:Int)<=AQ (p3.1-1)/\AQ (p3.1-1)<(p1.1.length:Int)then(
 (Dh p3.1 p3.2.1).bind fun u8=>
 cond ((decide (p1.2.1>=u8.1.1)))
  ((Cn p1.2.1).bind fun Dk=>
  (Gl p1.2.1).bind fun Ed=>
  (I7 (p3.1,p3.2.1,p3.2.2.1,()) (5,p1.2.1,[],()) Dk.1.1 (AQ (Ed.1.1+1))).bind fun Md=>
  some ((((Md.1.1.1,Md.1.1.2.1,(),()),0,()),()),(Md.2.1,())))
 (cond (((p1.1.getD ((AQ (p3.1-1)).toNat) ([],false,0,())).2.1))
  (cond ((decide (p3.2.1>((p1.1.getD ((AQ (p3.1-1)).toNat) ([],false,0,())).2.2.1))))
   ((I7 (p3.1,p3.2.1,p3.2.2.1,()) (4,AQ (p3.1+1),[],()) (AQ (p3.1+1)) 1).bind fun u16=>
   some ((((u16.1.1.1,u16.1.1.2.1,(),()),0,()),()),(u16.2.1,())))
  (cond (!((p1.1.getD ((AQ (p3.1-1)).toNat) ([],false,0,())).2.1))
   (cond (decide (p3.2.1>p2))
    ((CU (p3.1,p3.2.1,p3.2.2.1,())).bind fun cf=>
    some ((((cf.1.1.1,cf.1.1.2.1,(),()),2,()),()),(cf.2.1,())))
   (cond (decide (p3.2.1>60))
    ((CU (p3.1,p3.2.1,p3.2.2.1,())).bind fun cj=>
    some ((((cj.1.1.1,cj.1.1.2.1,(),()),2,()),()),(cj.2.1,())))
   ((Kw u1.2.1 ((p1.1.getD ((AQ (p3.1-1)).toNat) ([],false,0,())).1)).bind fun Uj=>
   (Ky (p0.1,p0.2.1,()) ((p1.1.getD ((AQ (p3.1-1)).toNat) ([],false,0,())).1) Uj.2.1).bind fun di=>
   cond (!di.1.1)
    ((CU (p3.1,p3.2.1,p3.2.2.1,())).bind fun eE=>
    some ((((eE.1.1.1,eE.1.1.2.1,(),()),3,()),()),(eE.2.1,())))
   ((My ((p1.1.getD ((AQ (p3.1-1)).toNat) ([],false,0,())).1) u8.1.1 p4).bind fun cK=>
   (I7 (p3.1,p3.2.1,p3.2.2.1,()) (cK.1.1.1,cK.1.1.2.1,cK.1.1.2.2.1,()) p3.1 (AQ (p3.2.1+1))).bind fun aL=>
   some ((((aL.1.1.1,aL.1.1.2.1,(),()),0,()),()),(aL.2.1,()))))))
  (cond (decide (p3.2.1>60))
   ((CU (p3.1,p3.2.1,p3.2.2.1,())).bind fun jZ=>
   some ((((jZ.1.1.1,jZ.1.1.2.1,(),()),2,()),()),(jZ.2.1,())))
  ((Kw u1.2.1 ((p1.1.getD ((AQ (p3.1-1)).toNat) ([],false,0,())).1)).bind fun sD=>
  (Ky (p0.1,p0.2.1,()) ((p1.1.getD ((AQ (p3.1-1)).toNat) ([],false,0,())).1) sD.2.1).bind fun zf=>
  cond (!zf.1.1)
   ((CU (p3.1,p3.2.1,p3.2.2.1,())).bind fun aN=>
   some ((((aN.1.1.1,aN.1.1.2.1,(),()),3,()),()),(aN.2.1,())))
  ((My ((p1.1.getD ((AQ (p3.1-1)).toNat) ([],false,0,())).1) u8.1.1 p4).bind fun xc=>
  (I7 (p3.1,p3.2.1,p3.2.2.1,()) (xc.1.1.1,xc.1.1.2.1,xc.1.1.2.2.1,()) p3.1 (AQ (p3.2.1+1))).bind fun rK=>
  some ((((rK.1.1.1,rK.1.1.2.1,(),()),0,()),()),(rK.2.1,())))))))
 (cond (!((p1.1.getD ((AQ (p3.1-1)).toNat) ([],false,0,())).2.1))
  (cond (decide (p3.2.1>p2))
   ((CU (p3.1,p3.2.1,p3.2.2.1,())).bind fun u32=>
   some ((((u32.1.1.1,u32.1.1.2.1,(),()),2,()),()),(u32.2.1,())))
  (cond (decide (p3.2.1>60))
   ((CU (p3.1,p3.2.1,p3.2.2.1,())).bind fun qV=>
   some ((((qV.1.1.1,qV.1.1.2.1,(),()),2,()),()),(qV.2.1,())))
  ((Kw u1.2.1 ((p1.1.getD ((AQ (p3.1-1)).toNat) ([],false,0,())).1)).bind fun yT=>
  (Ky (p0.1,p0.2.1,()) ((p1.1.getD ((AQ (p3.1-1)).toNat) ([],false,0,())).1) yT.2.1).bind fun u35=>
  cond (!u35.1.1)
   ((CU (p3.1,p3.2.1,p3.2.2.1,())).bind fun u36=>
   some ((((u36.1.1.1,u36.1.1.2.1,(),()),3,()),()),(u36.2.1,())))
  ((My ((p1.1.getD ((AQ (p3.1-1)).toNat) ([],false,0,())).1) u8.1.1 p4).bind fun pr=>
  (I7 (p3.1,p3.2.1,p3.2.2.1,()) (pr.1.1.1,pr.1.1.2.1,pr.1.1.2.2.1,()) p3.1 (AQ (p3.2.1+1))).bind fun fT=>
  some ((((fT.1.1.1,fT.1.1.2.1,(),()),0,()),()),(fT.2.1,()))))))
 (cond (decide (p3.2.1>60))
  ((CU (p3.1,p3.2.1,p3.2.2.1,())).bind fun u39=>
  some ((((u39.1.1.1,u39.1.1.2.1,(),()),2,()),()),(u39.2.1,())))
 ((Kw u1.2.1 ((p1.1.getD ((AQ (p3.1-1)).toNat) ([],false,0,())).1)).bind fun u40=>
 (Ky (p0.1,p0.2.1,()) ((p1.1.getD ((AQ (p3.1-1)).toNat) ([],false,0,())).1) u40.2.1).bind fun u41=>
 cond (!u41.1.1)
  ((CU (p3.1,p3.2.1,p3.2.2.1,())).bind fun u42=>
  some ((((u42.1.1.1,u42.1.1.2.1,(),()),3,()),()),(u42.2.1,())))
 ((My ((p1.1.getD ((AQ (p3.1-1)).toNat) ([],false,0,())).1) u8.1.1 p4).bind fun u43=>
 (I7 (p3.1,p3.2.1,p3.2.2.1,()) (u43.1.1.1,u43.1.1.2.1,u43.1.1.2.2.1,()) p3.1 (AQ (p3.2.1+1))).bind fun u44=>
 some ((((u44.1.1.1,u44.1.1.2.1,(),()),0,()),()),(u44.2.1,()))))))))else none)))))
abbrev vJ:Type:=AEq×AEw
def YT(CP CV:Int)(BX:Bool)(p1:ADJ)(b0:AAA)(b1:AAd)(b2:AAA)(b3:AAf)(b4:ABE)(b5:ABI)(b6:AAs)(b7:AA8):Option vJ:=
 (CF p1.2.1 0 1).bind fun u1=>
 cond (!u1.1.1)
  (some (((((),CP,(),(),(),CV,(),(),(),(),BX,()),2,()),()),(b0,b1,b2,b3,b4,b5,b6,b7,())))
 (if(0:Int)<=p1.2.1/\p1.2.1<(b6.length:Int)then(
 if(0:Int)<=p1.2.1/\p1.2.1<(b6.length:Int)then(
 if(0:Int)<=p1.2.1/\p1.2.1<(b6.length:Int)then(
 (ie (b0,CP,b1,b2,b3,CV,b4,b5,b6,b7,BX,()) ((b6.getD (p1.2.1.toNat) (0,0,[],())).1)).bind fun u3=>
 (Ro (b0,CP,b1,b2,b3,CV,b4,b5,b6,b7,BX,()) ((b6.getD (p1.2.1.toNat) (0,0,[],())).1,(b6.getD (p1.2.1.toNat) (0,0,[],())).2.1,(b6.getD (p1.2.1.toNat) (0,0,[],())).2.2.1,()) p1.2.2.1).bind fun u4=>
 (Rp (b0,CP,()) (b3,CV,()) u3.1.1 ((b6.getD (p1.2.1.toNat) (0,0,[],())).1,(b6.getD (p1.2.1.toNat) (0,0,[],())).2.1,(b6.getD (p1.2.1.toNat) (0,0,[],())).2.2.1,()) u4.2.1).bind fun u5=>
 cond (u5.1.1.2.1 !=0)
  (some (((((),CP,(),(),(),CV,(),(),(),(),BX,()),5,()),()),(b0,b1,b2,b3,b4,b5,b6,b7,())))
 (if(0:Int)<=p1.2.1/\p1.2.1<(b6.length:Int)then(
 some (((((),CP,(),(),(),CV,(),(),(),(),BX,()),0,()),()),(b0,b1,b2,b3,b4,b5,(b6.set (p1.2.1.toNat) (u5.1.1.1.1,u5.1.1.1.2.1,u5.2.1,())),b7,())))else none))else none)else none)else none)
abbrev PA:Type:=AEq×(List Int×AAd×List Int×AAf×Unit×ABI×AAs×AA8×ABE×Unit)
abbrev XX:Type:=Int->List Int->AAd->List Int->AAf->ABE->ABI->AAs->AA8->Int->Int->Bool->Int->Int->Int->Int->List UInt8->Int->Int->Bool->List Int->AAd->List Int->AAf->ABE->ABI->AAs->AA8->ABE->Option PA
def ZX(R5:XX)(t7:Int)(b0:AAA)(b1:AAd)(b2:AAA)(b3:AAf)(b4:ABE)(b5:ABI)(b6:AAs)(b7:AA8)(D4 EJ:Int)(Cf:Bool)(lf E7 gz ASX:Int)(ARc:ABF)(FJ HD:Int)(ED:Bool)(Hh:AAA)(EW:AAd)(Ii:AAA)(Iy:AAf)(FU:ABE)(GR:ABI)(HH:AAs)(cg:AA8)(y9:ABE):Option PA:=
 cond ((decide (t7<(b4.length:Int))))
  (cond (t7 !=E7)
   (if(0:Int)<=t7/\t7<(b4.length:Int)then(
   if y9.length+1<=CN then(
   R5 (AQ (t7+1)) b0 b1 b2 b3 b4 b5 b6 b7 D4 EJ Cf lf E7 gz ASX ARc FJ HD ED Hh EW Ii Iy FU GR HH cg (y9++[((b4.getD (t7.toNat) (0,[],())).1,(b4.getD (t7.toNat) (0,[],())).2.1,())]))else none)else none)
  (R5 (AQ (t7+1)) b0 b1 b2 b3 b4 b5 b6 b7 D4 EJ Cf lf E7 gz ASX ARc FJ HD ED Hh EW Ii Iy FU GR HH cg y9))
 (some (((((),D4,(),(),(),EJ,(),(),(),(),Cf,()),0,()),()),(b0,b1,b2,b3,(),b5,b6,b7,y9,())))
def NR:Nat->XX
 |0=>fun _ _ _ _ _ _ _ _ _ _ _ _ _ _ _ _ _ _ _ _ _ _ _ _ _ _ _ _ _=>none
 |n+1=>ZX (NR n)
def Zl(R5:XX)(CP CV:Int)(BX:Bool)(p1:ADJ)(b0:AAA)(b1:AAd)(b2:AAA)(b3:AAf)(b4:ABE)(b5:ABI)(b6:AAs)(b7:AA8):Option PA:=
 (Lq (b0,CP,b1,b2,b3,CV,b4,b5,b6,b7,BX,()) p1.2.1).bind fun u1=>
 cond (!u1.1.1)
  (some (((((),CP,(),(),(),CV,(),(),(),(),BX,()),2,()),()),(b0,b1,b2,b3,(),b5,b6,b7,b4,())))
 (R5 0 b0 b1 b2 b3 b4 b5 b6 b7 CP CV BX p1.1 p1.2.1 p1.2.2.1 p1.2.2.2.1 p1.2.2.2.2.1 0 0 false [] [] [] [] [] [] [] [] [])
def YZ(CP CV:Int)(BX:Bool)(p1:ADJ)(b0:AAA)(b1:AAd)(b2:AAA)(b3:AAf)(b4:ABE)(b5:ABI)(b6:AAs)(b7:AA8):Option PA:=Zl (NR AW) CP CV BX p1 b0 b1 b2 b3 b4 b5 b6 b7
abbrev P9:Type:=AFH×AEz
abbrev Ud:Type:=Int->Int->ABd->ABd->Int->Int->ABd->ABd->Int->ABd->ABd->Option P9
def Wl(R8:Ud)(t1 t7:Int)(AK AF:ABd)(AZ CM:Int)(b2 b3:ABd)(fR:Int)(b5 b6:ABd):Option P9:=
 cond ((decide (t7<(AK.length:Int))))
  (if(0:Int)<=t7/\t7<(AK.length:Int)then(
  cond (decide (((AK.getD (t7.toNat) (0,0,false,[],())).1)>t1))
   (if(0:Int)<=t7/\t7<(AK.length:Int)then(
   if b5.length+1<=CN then(
   R8 t1 (AQ (t7+1)) AK AF AZ CM b2 b3 fR (b5++[((AK.getD (t7.toNat) (0,0,false,[],())).1,(AK.getD (t7.toNat) (0,0,false,[],())).2.1,(AK.getD (t7.toNat) (0,0,false,[],())).2.2.1,(AK.getD (t7.toNat) (0,0,false,[],())).2.2.2.1,())]) b6)else none)else none)
  (R8 t1 (AQ (t7+1)) AK AF AZ CM b2 b3 fR b5 b6))else none)
 (some (((((),(),fR,()),true,()),()),(b5,b6,())))
def Kr:Nat->Ud
 |0=>fun _ _ _ _ _ _ _ _ _ _ _=>none
 |n+1=>Wl (Kr n)
def WX(R8:Ud)(p0:ADA)(p1:Int):Option P9:=
 (Gf (p0.1,p0.2.1,p0.2.2.1,())).bind fun u1=>
 cond (!u1.1.1)
  (some (((((),(),0,()),false,()),()),([],[],())))
 ((Eg (p0.1,p0.2.1,p0.2.2.1,())).bind fun u2=>
 (FE p1).bind fun u3=>
 cond (!u3.1.1)
  (some (((((),(),u2.1.1.2.2.1,()),false,()),()),(u2.2.1,u2.2.2.1,())))
 (R8 p1 0 p0.1 p0.2.1 p0.2.2.1 0 [] [] u2.1.1.2.2.1 [] u2.2.2.1))
def Tn(p0:ADA)(p1:Int):Option P9:=WX (Kr AW) p0 p1
abbrev qt:Type:=AEq×AEw
def V8(CP CV:Int)(BX:Bool)(p1:ADJ)(b0:AAA)(b1:AAd)(b2:AAA)(b3:AAf)(b4:ABE)(b5:ABI)(b6:AAs)(b7:AA8):Option qt:=
 (Hk (b0,CP,b1,b2,b3,CV,b4,b5,b6,b7,BX,()) p1.2.1).bind fun u1=>
 cond (u1.1.1 !=0)
  (some (((((),CP,(),(),(),CV,(),(),(),(),BX,()),u1.1.1,()),()),(b0,b1,b2,b3,b4,b5,b6,b7,())))
 (if(0:Int)<=p1.2.1/\p1.2.1<(b1.length:Int)then(
 (NT ((b1.getD (p1.2.1.toNat) ([],[],0,())).1,(b1.getD (p1.2.1.toNat) ([],[],0,())).2.1,(b1.getD (p1.2.1.toNat) ([],[],0,())).2.2.1,()) p1.2.2.1).bind fun u2=>
 cond (p1.1==16)
  (if(0:Int)<=p1.2.1/\p1.2.1<(b1.length:Int)then(
  (Tn ((b1.getD (p1.2.1.toNat) ([],[],0,())).1,(b1.getD (p1.2.1.toNat) ([],[],0,())).2.1,(b1.getD (p1.2.1.toNat) ([],[],0,())).2.2.1,()) CV).bind fun u3=>
  cond (!u3.1.1.2.1)
   (some (((((),CP,(),(),(),CV,(),(),(),(),BX,()),4,()),()),(b0,b1,b2,b3,b4,b5,b6,b7,())))
  (if(0:Int)<=p1.2.1/\p1.2.1<(b1.length:Int)then(
  some (((((),CP,(),(),(),CV,(),(),(),(),BX,()),0,()),()),(b0,(b1.set (p1.2.1.toNat) (u3.2.1,u3.2.2.1,u3.1.1.1.2.2.1,())),b2,b3,b4,b5,b6,b7,())))else none))else none)
 (cond (!u2.1.1.2.1)
  (some (((((),CP,(),(),(),CV,(),(),(),(),BX,()),4,()),()),(b0,b1,b2,b3,b4,b5,b6,b7,())))
 (if(0:Int)<=p1.2.1/\p1.2.1<(b1.length:Int)then(
 some (((((),CP,(),(),(),CV,(),(),(),(),BX,()),0,()),()),(b0,(b1.set (p1.2.1.toNat) (u2.2.1,u2.2.2.1,u2.1.1.1.2.2.1,())),b2,b3,b4,b5,b6,b7,())))else none)))else none)
abbrev lU:Type:=AEq×(List Int×AAd×Unit×Unit×Unit×Unit×AAs×Unit×List Int×AAf×ABE×ABI×AA8×Unit)
def ei(CP CV:Int)(BX:Bool)(p1:ADJ)(b0:AAA)(b1:AAd)(b2:AAA)(b3:AAf)(b4:ABE)(b5:ABI)(b6:AAs)(b7:AA8):Option lU:=
 cond (p1.1==1)
  ((Ys CP CV BX (p1.1,p1.2.1,p1.2.2.1,p1.2.2.2.1,p1.2.2.2.2.1,()) b0 b1 b2 b3 b4 b5 b6 b7).bind fun u1=>
  some (((((),u1.1.1.1.2.1,(),(),(),u1.1.1.1.2.2.2.2.2.1,(),(),(),(),u1.1.1.1.2.2.2.2.2.2.2.2.2.2.1,()),u1.1.1.2.1,()),()),(u1.2.1,u1.2.2.1,(),(),(),(),u1.2.2.2.2.2.2.2.1,(),u1.2.2.2.1,u1.2.2.2.2.2.2.2.2.2.1,u1.2.2.2.2.2.2.2.2.2.2.1,u1.2.2.2.2.2.2.2.2.2.2.2.1,u1.2.2.2.2.2.2.2.2.1,())))
 (cond (p1.1==2)
  ((aX CP CV BX (p1.1,p1.2.1,p1.2.2.1,p1.2.2.2.1,p1.2.2.2.2.1,()) b0 b1 b2 b3 b4 b5 b6 b7).bind fun u5=>
  some (((((),u5.1.1.1.2.1,(),(),(),u5.1.1.1.2.2.2.2.2.1,(),(),(),(),u5.1.1.1.2.2.2.2.2.2.2.2.2.2.1,()),u5.1.1.2.1,()),()),(u5.2.1,u5.2.2.1,(),(),(),(),u5.2.2.2.2.2.2.2.1,(),u5.2.2.2.1,u5.2.2.2.2.1,u5.2.2.2.2.2.1,u5.2.2.2.2.2.2.1,u5.2.2.2.2.2.2.2.2.2.1,())))
 (cond (p1.1==3)
  ((WA CP CV BX (p1.1,p1.2.1,p1.2.2.1,p1.2.2.2.1,p1.2.2.2.2.1,()) b0 b1 b2 b3 b4 b5 b6 b7).bind fun u7=>
  some (((((),u7.1.1.1.2.1,(),(),(),u7.1.1.1.2.2.2.2.2.1,(),(),(),(),u7.1.1.1.2.2.2.2.2.2.2.2.2.2.1,()),u7.1.1.2.1,()),()),(u7.2.1,u7.2.2.1,(),(),(),(),u7.2.2.2.2.2.2.2.1,(),u7.2.2.2.1,u7.2.2.2.2.1,u7.2.2.2.2.2.1,u7.2.2.2.2.2.2.1,u7.2.2.2.2.2.2.2.2.1,())))
 (cond (p1.1==4)
  ((Yq CP CV BX (p1.1,p1.2.1,p1.2.2.1,p1.2.2.2.1,p1.2.2.2.2.1,()) b0 b1 b2 b3 b4 b5 b6 b7).bind fun u8=>
  some (((((),u8.1.1.1.2.1,(),(),(),u8.1.1.1.2.2.2.2.2.1,(),(),(),(),u8.1.1.1.2.2.2.2.2.2.2.2.2.2.1,()),u8.1.1.2.1,()),()),(u8.2.1,u8.2.2.1,(),(),(),(),u8.2.2.2.2.2.2.2.1,(),u8.2.2.2.1,u8.2.2.2.2.1,u8.2.2.2.2.2.1,u8.2.2.2.2.2.2.1,u8.2.2.2.2.2.2.2.2.1,())))
 (cond (p1.1==6)
  ((YO CP CV BX (p1.1,p1.2.1,p1.2.2.1,p1.2.2.2.1,p1.2.2.2.2.1,()) b0 b1 b2 b3 b4 b5 b6 b7).bind fun u9=>
  some (((((),u9.1.1.1.2.1,(),(),(),u9.1.1.1.2.2.2.2.2.1,(),(),(),(),u9.1.1.1.2.2.2.2.2.2.2.2.2.2.1,()),u9.1.1.2.1,()),()),(u9.2.1,u9.2.2.1,(),(),(),(),u9.2.2.2.2.2.2.2.1,(),u9.2.2.2.2.2.2.2.2.2.1,u9.2.2.2.2.1,u9.2.2.2.2.2.1,u9.2.2.2.2.2.2.1,u9.2.2.2.2.2.2.2.2.1,())))
 (cond (p1.1==7)
  ((Yr CP CV BX (p1.1,p1.2.1,p1.2.2.1,p1.2.2.2.1,p1.2.2.2.2.1,()) b0 b1 b2 b3 b4 b5 b6 b7).bind fun Ed=>
  some (((((),Ed.1.1.1.2.1,(),(),(),Ed.1.1.1.2.2.2.2.2.1,(),(),(),(),Ed.1.1.1.2.2.2.2.2.2.2.2.2.2.1,()),Ed.1.1.2.1,()),()),(Ed.2.1,Ed.2.2.1,(),(),(),(),Ed.2.2.2.2.2.2.2.1,(),Ed.2.2.2.2.2.2.2.2.2.1,Ed.2.2.2.2.1,Ed.2.2.2.2.2.1,Ed.2.2.2.2.2.2.1,Ed.2.2.2.2.2.2.2.2.1,())))
 (cond (p1.1==8)
  ((Yp CP CV BX b0 b1 b2 b3 b4 b5 b6 b7).bind fun Mc=>
  some (((((),Mc.1.1.1.2.1,(),(),(),Mc.1.1.1.2.2.2.2.2.1,(),(),(),(),Mc.1.1.1.2.2.2.2.2.2.2.2.2.2.1,()),Mc.1.1.2.1,()),()),(Mc.2.1,Mc.2.2.1,(),(),(),(),Mc.2.2.2.2.2.2.2.1,(),Mc.2.2.2.1,Mc.2.2.2.2.1,Mc.2.2.2.2.2.1,Mc.2.2.2.2.2.2.2.2.2.1,Mc.2.2.2.2.2.2.2.2.1,())))
 (cond (p1.1==9)
  ((YR CP CV BX (p1.1,p1.2.1,p1.2.2.1,p1.2.2.2.1,p1.2.2.2.2.1,()) b0 b1 b2 b3 b4 b5 b6 b7).bind fun jV=>
  some (((((),jV.1.1.1.2.1,(),(),(),jV.1.1.1.2.2.2.2.2.1,(),(),(),(),jV.1.1.1.2.2.2.2.2.2.2.2.2.2.1,()),jV.1.1.2.1,()),()),(jV.2.1,jV.2.2.1,(),(),(),(),jV.2.2.2.2.2.2.2.1,(),jV.2.2.2.1,jV.2.2.2.2.1,jV.2.2.2.2.2.1,jV.2.2.2.2.2.2.1,jV.2.2.2.2.2.2.2.2.1,())))
 (cond (p1.1==10)
  ((YQ CP CV BX b0 b1 b2 b3 b4 b5 b6 b7).bind fun cj=>
  some (((((),cj.1.1.1.2.1,(),(),(),cj.1.1.1.2.2.2.2.2.1,(),(),(),(),cj.1.1.1.2.2.2.2.2.2.2.2.2.2.1,()),cj.1.1.2.1,()),()),(cj.2.1,cj.2.2.1,(),(),(),(),cj.2.2.2.2.2.2.2.1,(),cj.2.2.2.1,cj.2.2.2.2.1,cj.2.2.2.2.2.1,cj.2.2.2.2.2.2.1,cj.2.2.2.2.2.2.2.2.1,())))
 (cond (p1.1==11)
  ((bn CP CV BX (p1.1,p1.2.1,p1.2.2.1,p1.2.2.2.1,p1.2.2.2.2.1,()) b0 b1 b2 b3 b4 b5 b6 b7).bind fun di=>
  some (((((),di.1.1.1.2.1,(),(),(),di.1.1.1.2.2.2.2.2.1,(),(),(),(),di.1.1.1.2.2.2.2.2.2.2.2.2.2.1,()),di.1.1.2.1,()),()),(di.2.1,di.2.2.1,(),(),(),(),di.2.2.2.2.2.2.2.1,(),di.2.2.2.1,di.2.2.2.2.1,di.2.2.2.2.2.1,di.2.2.2.2.2.2.1,di.2.2.2.2.2.2.2.2.1,())))
 (cond (p1.1==12)
  ((Vz CP CV BX b0 b1 b2 b3 b4 b5 b6 b7).bind fun cK=>
  some (((((),cK.1.1.1.2.1,(),(),(),cK.1.1.1.2.2.2.2.2.1,(),(),(),(),cK.1.1.1.2.2.2.2.2.2.2.2.2.2.1,()),cK.1.1.2.1,()),()),(cK.2.1,cK.2.2.1,(),(),(),(),cK.2.2.2.2.2.2.2.1,(),cK.2.2.2.1,cK.2.2.2.2.2.2.2.2.2.1,cK.2.2.2.2.2.1,cK.2.2.2.2.2.2.2.2.2.2.1,cK.2.2.2.2.2.2.2.2.1,())))
 (cond (p1.1==13)
  ((YW (b0,CP,()) (b3,CV,()) p1.2.1).bind fun zf=>
  cond (!zf.1.1.2.1)
   (some (((((),CP,(),(),(),CV,(),(),(),(),BX,()),4,()),()),(b0,b1,(),(),(),(),b6,(),b2,b3,b4,b5,b7,())))
  (some (((((),CP,(),(),(),zf.1.1.1.2.1,(),(),(),(),BX,()),0,()),()),(b0,b1,(),(),(),(),b6,(),b2,zf.2.1,b4,b5,b7,()))))
 (cond (p1.1==14)
  ((YT CP CV BX (p1.1,p1.2.1,p1.2.2.1,p1.2.2.2.1,p1.2.2.2.2.1,()) b0 b1 b2 b3 b4 b5 b6 b7).bind fun aN=>
  some (((((),aN.1.1.1.2.1,(),(),(),aN.1.1.1.2.2.2.2.2.1,(),(),(),(),aN.1.1.1.2.2.2.2.2.2.2.2.2.2.1,()),aN.1.1.2.1,()),()),(aN.2.1,aN.2.2.1,(),(),(),(),aN.2.2.2.2.2.2.2.1,(),aN.2.2.2.1,aN.2.2.2.2.1,aN.2.2.2.2.2.1,aN.2.2.2.2.2.2.1,aN.2.2.2.2.2.2.2.2.1,())))
 (cond (p1.1==15)
  ((YZ CP CV BX (p1.1,p1.2.1,p1.2.2.1,p1.2.2.2.1,p1.2.2.2.2.1,()) b0 b1 b2 b3 b4 b5 b6 b7).bind fun rK=>
  some (((((),rK.1.1.1.2.1,(),(),(),rK.1.1.1.2.2.2.2.2.1,(),(),(),(),rK.1.1.1.2.2.2.2.2.2.2.2.2.2.1,()),rK.1.1.2.1,()),()),(rK.2.1,rK.2.2.1,(),(),(),(),rK.2.2.2.2.2.2.2.1,(),rK.2.2.2.1,rK.2.2.2.2.1,rK.2.2.2.2.2.2.2.2.2.1,rK.2.2.2.2.2.2.1,rK.2.2.2.2.2.2.2.2.1,())))
 ((V8 CP CV BX (p1.1,p1.2.1,p1.2.2.1,p1.2.2.2.1,p1.2.2.2.2.1,()) b0 b1 b2 b3 b4 b5 b6 b7).bind fun qV=>
 some (((((),qV.1.1.1.2.1,(),(),(),qV.1.1.1.2.2.2.2.2.1,(),(),(),(),qV.1.1.1.2.2.2.2.2.2.2.2.2.2.1,()),qV.1.1.2.1,()),()),(qV.2.1,qV.2.2.1,(),(),(),(),qV.2.2.2.2.2.2.2.1,(),qV.2.2.2.1,qV.2.2.2.2.1,qV.2.2.2.2.2.1,qV.2.2.2.2.2.2.1,qV.2.2.2.2.2.2.2.2.1,()))))))))))))))))
abbrev tz:Type:=AEq×AEw
def TE(p0:AB0)(p1:ADJ):Option tz:=
 (Gq (p0.1,p0.2.1,p0.2.2.1,p0.2.2.2.1,p0.2.2.2.2.1,p0.2.2.2.2.2.1,p0.2.2.2.2.2.2.1,p0.2.2.2.2.2.2.2.1,p0.2.2.2.2.2.2.2.2.1,p0.2.2.2.2.2.2.2.2.2.1,p0.2.2.2.2.2.2.2.2.2.2.1,())).bind fun u1=>
 cond (!u1.1.1)
  (some (((((),0,(),(),(),0,(),(),(),(),false,()),1,()),()),([],[],[],[],[],[],[],[],())))
 ((W0 (p1.1,p1.2.1,p1.2.2.1,p1.2.2.2.1,p1.2.2.2.2.1,())).bind fun u2=>
 cond (!u2.1.1)
  (some (((((),0,(),(),(),0,(),(),(),(),false,()),1,()),()),([],[],[],[],[],[],[],[],())))
 ((Mz (p0.1,p0.2.1,p0.2.2.1,p0.2.2.2.1,p0.2.2.2.2.1,p0.2.2.2.2.2.1,p0.2.2.2.2.2.2.1,p0.2.2.2.2.2.2.2.1,p0.2.2.2.2.2.2.2.2.1,p0.2.2.2.2.2.2.2.2.2.1,p0.2.2.2.2.2.2.2.2.2.2.1,())).bind fun u3=>
 (ei u3.1.1.2.1 u3.1.1.2.2.2.2.2.1 u3.1.1.2.2.2.2.2.2.2.2.2.2.1 (p1.1,p1.2.1,p1.2.2.1,p1.2.2.2.1,p1.2.2.2.2.1,()) u3.2.1 u3.2.2.1 u3.2.2.2.1 u3.2.2.2.2.1 u3.2.2.2.2.2.1 u3.2.2.2.2.2.2.1 u3.2.2.2.2.2.2.2.1 u3.2.2.2.2.2.2.2.2.1).bind fun u4=>
 cond (u4.1.1.2.1 !=0)
  ((Mz (p0.1,p0.2.1,p0.2.2.1,p0.2.2.2.1,p0.2.2.2.2.1,p0.2.2.2.2.2.1,p0.2.2.2.2.2.2.1,p0.2.2.2.2.2.2.2.1,p0.2.2.2.2.2.2.2.2.1,p0.2.2.2.2.2.2.2.2.2.1,p0.2.2.2.2.2.2.2.2.2.2.1,())).bind fun Dk=>
  some (((((),Dk.1.1.2.1,(),(),(),Dk.1.1.2.2.2.2.2.1,(),(),(),(),Dk.1.1.2.2.2.2.2.2.2.2.2.2.1,()),u4.1.1.2.1,()),()),(Dk.2.1,Dk.2.2.1,Dk.2.2.2.1,Dk.2.2.2.2.1,Dk.2.2.2.2.2.1,Dk.2.2.2.2.2.2.1,Dk.2.2.2.2.2.2.2.1,Dk.2.2.2.2.2.2.2.2.1,())))
 (some (((((),u4.1.1.1.2.1,(),(),(),u4.1.1.1.2.2.2.2.2.1,(),(),(),(),u4.1.1.1.2.2.2.2.2.2.2.2.2.2.1,()),u4.1.1.2.1,()),()),(u4.2.1,u4.2.2.1,u4.2.2.2.2.2.2.2.2.2.1,u4.2.2.2.2.2.2.2.2.2.2.1,u4.2.2.2.2.2.2.2.2.2.2.2.1,u4.2.2.2.2.2.2.2.2.2.2.2.2.1,u4.2.2.2.2.2.2.2.1,u4.2.2.2.2.2.2.2.2.2.2.2.2.2.1,())))))
abbrev pW:Type:=ABz×Unit
def Zj(p0:AFL):Option pW:=
 (CF p0.1 1 3).bind fun u1=>
 some ((u1.1.1,()),())
abbrev RY:Type:=ABz×Unit
abbrev Vb:Type:=Int->Int->Int->Int->ADY->Option RY
def Xt(R3:Vb)(t3 t4 AK AF:Int)(AZ:ADY):Option RY:=
 cond ((decide (t4<(AZ.length:Int))))
  (if(0:Int)<=t4/\t4<(AZ.length:Int)then(
  (Zj ((AZ.getD (t4.toNat) (0,0,[],())).1,(AZ.getD (t4.toNat) (0,0,[],())).2.1,(AZ.getD (t4.toNat) (0,0,[],())).2.2.1,())).bind fun u2=>
  cond (!u2.1.1)
   (R3 t3 (AQ (t4+1)) AK AF AZ)
  (cond (decide (t3>=0))
   (if(0:Int)<=t3/\t3<(AZ.length:Int)then(
   if(0:Int)<=t4/\t4<(AZ.length:Int)then(
   cond (decide (((AZ.getD (t3.toNat) (0,0,[],())).2.1)>=((AZ.getD (t4.toNat) (0,0,[],())).2.1)))
    (some ((false,()),()))
   (R3 t4 (AQ (t4+1)) AK AF AZ))else none)else none)
  (R3 t4 (AQ (t4+1)) AK AF AZ)))else none)
 (some ((true,()),()))
def Lw:Nat->Vb
 |0=>fun _ _ _ _ _=>none
 |n+1=>Xt (Lw n)
def Xs(R3:Vb)(p0:ADU):Option RY:=
 R3 (-1) 0 p0.1 p0.2.1 p0.2.2.1
def Qx(p0:ADU):Option RY:=Xs (Lw AW) p0
abbrev lR:Type:=ABz×Unit
def RP(p0:AB0):Option lR:=
 (Gq (p0.1,p0.2.1,p0.2.2.1,p0.2.2.2.1,p0.2.2.2.2.1,p0.2.2.2.2.2.1,p0.2.2.2.2.2.2.1,p0.2.2.2.2.2.2.2.1,p0.2.2.2.2.2.2.2.2.1,p0.2.2.2.2.2.2.2.2.2.1,p0.2.2.2.2.2.2.2.2.2.2.1,())).bind fun u1=>
 cond (u1.1.1)
  (if(0:Int)<=(0:Int)/\(0:Int)<(p0.2.2.2.2.2.2.2.2.1.length:Int)then(
  (Qx ((p0.2.2.2.2.2.2.2.2.1.getD 0 (0,0,[],())).1,(p0.2.2.2.2.2.2.2.2.1.getD 0 (0,0,[],())).2.1,(p0.2.2.2.2.2.2.2.2.1.getD 0 (0,0,[],())).2.2.1,())).bind fun u2=>
  cond (u2.1.1)
   (if(0:Int)<=(1:Int)/\(1:Int)<(p0.2.2.2.2.2.2.2.2.1.length:Int)then(
   (Qx ((p0.2.2.2.2.2.2.2.2.1.getD 1 (0,0,[],())).1,(p0.2.2.2.2.2.2.2.2.1.getD 1 (0,0,[],())).2.1,(p0.2.2.2.2.2.2.2.2.1.getD 1 (0,0,[],())).2.2.1,())).bind fun u3=>
   some ((u3.1.1,()),()))else none)
  (some ((false,()),())))else none)
 (some ((false,()),()))
abbrev TY:Type:=ABz×Unit
abbrev XW:Type:=Int->List Int->Int->AAd->List Int->AAf->Int->ABE->ABI->AAs->AA8->Bool->Int->Int->List UInt8->Option TY
def ZD(R2:XW)(t5:Int)(AK:AAA)(AF:Int)(AZ:AAd)(BD:AAA)(BI:AAf)(AO:Int)(Bl:ABE)(Bk:ABI)(BN:AAs)(Bo:AA8)(AH:Bool)(Bn BL:Int)(CM:ABF):Option TY:=
 cond ((decide (t5<(Bo.length:Int))))
  (if(0:Int)<=t5/\t5<(Bo.length:Int)then(
  cond (((Bo.getD (t5.toNat) (0,[],false,())).1)==BL)
   (if(0:Int)<=t5/\t5<(Bo.length:Int)then(
   cond (((Bo.getD (t5.toNat) (0,[],false,())).2.1)==CM)
    (some ((true,()),()))
   (R2 (AQ (t5+1)) AK AF AZ BD BI AO Bl Bk BN Bo AH Bn BL CM))else none)
  (R2 (AQ (t5+1)) AK AF AZ BD BI AO Bl Bk BN Bo AH Bn BL CM))else none)
 (some ((false,()),()))
def Nd:Nat->XW
 |0=>fun _ _ _ _ _ _ _ _ _ _ _ _ _ _ _=>none
 |n+1=>ZD (Nd n)
def Zf(R2:XW)(p0:AB0)(p1:AFL):Option TY:=
 R2 0 p0.1 p0.2.1 p0.2.2.1 p0.2.2.2.1 p0.2.2.2.2.1 p0.2.2.2.2.2.1 p0.2.2.2.2.2.2.1 p0.2.2.2.2.2.2.2.1 p0.2.2.2.2.2.2.2.2.1 p0.2.2.2.2.2.2.2.2.2.1 p0.2.2.2.2.2.2.2.2.2.2.1 p1.1 p1.2.1 p1.2.2.1
def YJ(p0:AB0)(p1:AFL):Option TY:=Zf (Nd AW) p0 p1
abbrev JX:Type:=ABz×Unit
abbrev ON:Type:=Int->List Int->Int->AAd->List Int->AAf->Int->ABE->ABI->AAs->AA8->Bool->Option JX
abbrev OJ:Type:=Int->Int->List Int->Int->AAd->List Int->AAf->Int->ABE->ABI->AAs->AA8->Bool->Option JX
def W4(R4:ON)(R7:OJ)(t3:Int)(AK:AAA)(AF:Int)(AZ:AAd)(BD:AAA)(BI:AAf)(AO:Int)(Bl:ABE)(Bk:ABI)(BN:AAs)(Bo:AA8)(AH:Bool):Option JX:=
 cond (decide (t3<2))
  (R7 t3 0 AK AF AZ BD BI AO Bl Bk BN Bo AH)
 (some ((true,()),()))
def PE(R4:ON)(R7:OJ)(t3 t4:Int)(AK:AAA)(AF:Int)(AZ:AAd)(BD:AAA)(BI:AAf)(AO:Int)(Bl:ABE)(Bk:ABI)(BN:AAs)(Bo:AA8)(AH:Bool):Option JX:=
 if(0:Int)<=t3/\t3<(BN.length:Int)then(
 cond (decide (t4<(((BN.getD (t3.toNat) (0,0,[],())).2.2.1).length:Int)))
  (if(0:Int)<=t3/\t3<(BN.length:Int)then(
  if(0:Int)<=t4/\t4<(((BN.getD (t3.toNat) (0,0,[],())).2.2.1).length:Int)then(
  cond (((((BN.getD (t3.toNat) (0,0,[],())).2.2.1).getD (t4.toNat) (0,0,[],())).1)==1)
   ((YJ (AK,AF,AZ,BD,BI,AO,Bl,Bk,BN,Bo,AH,()) ((((BN.getD (t3.toNat) (0,0,[],())).2.2.1).getD (t4.toNat) (0,0,[],())).1,(((BN.getD (t3.toNat) (0,0,[],())).2.2.1).getD (t4.toNat) (0,0,[],())).2.1,(((BN.getD (t3.toNat) (0,0,[],())).2.2.1).getD (t4.toNat) (0,0,[],())).2.2.1,())).bind fun u4=>
   cond (!u4.1.1)
    (some ((false,()),()))
   (R7 t3 (AQ (t4+1)) AK AF AZ BD BI AO Bl Bk BN Bo AH))
  (R7 t3 (AQ (t4+1)) AK AF AZ BD BI AO Bl Bk BN Bo AH))else none)else none)
 (R4 (AQ (t3+1)) AK AF AZ BD BI AO Bl Bk BN Bo AH))else none
mutual
def Gv:Nat->ON
 |0=>fun _ _ _ _ _ _ _ _ _ _ _ _=>none
 |n+1=>W4 (Gv n) (Gx n)
def Gx:Nat->OJ
 |0=>fun _ _ _ _ _ _ _ _ _ _ _ _ _=>none
 |n+1=>PE (Gv n) (Gx n)
end
def Wx(R4:ON)(R7:OJ)(p0:AB0):Option JX:=
 (Gq (p0.1,p0.2.1,p0.2.2.1,p0.2.2.2.1,p0.2.2.2.2.1,p0.2.2.2.2.2.1,p0.2.2.2.2.2.2.1,p0.2.2.2.2.2.2.2.1,p0.2.2.2.2.2.2.2.2.1,p0.2.2.2.2.2.2.2.2.2.1,p0.2.2.2.2.2.2.2.2.2.2.1,())).bind fun u1=>
 cond (!u1.1.1)
  (some ((false,()),()))
 (R4 0 p0.1 p0.2.1 p0.2.2.1 p0.2.2.2.1 p0.2.2.2.2.1 p0.2.2.2.2.2.1 p0.2.2.2.2.2.2.1 p0.2.2.2.2.2.2.2.1 p0.2.2.2.2.2.2.2.2.1 p0.2.2.2.2.2.2.2.2.2.1 p0.2.2.2.2.2.2.2.2.2.2.1)
def UA(p0:AB0):Option JX:=Wx (Gv AW) (Gx AW) p0
abbrev Tp:Type:=AF_×Unit
abbrev Xd:Type:=Int->Int->Int->Int->ADY->Option Tp
def ZE(R2:Xd)(t1 t6 AK AF:Int)(AZ:ADY):Option Tp:=
 cond ((decide (t6<(AZ.length:Int))))
  (if(0:Int)<=t6/\t6<(AZ.length:Int)then(
  cond (((AZ.getD (t6.toNat) (0,0,[],())).1)==1)
   (if(0:Int)<=t6/\t6<(AZ.length:Int)then(
   cond (((AZ.getD (t6.toNat) (0,0,[],())).2.1)==t1)
    (if(0:Int)<=t6/\t6<(AZ.length:Int)then(
    some (((((AZ.getD (t6.toNat) (0,0,[],())).2.2.1),true,()),()),()))else none)
   (R2 t1 (AQ (t6+1)) AK AF AZ))else none)
  (R2 t1 (AQ (t6+1)) AK AF AZ))else none)
 (some ((([],false,()),()),()))
def Nc:Nat->Xd
 |0=>fun _ _ _ _ _=>none
 |n+1=>ZE (Nc n)
def Z4(R2:Xd)(p0:ADU)(p1:Int):Option Tp:=
 R2 p1 0 p0.1 p0.2.1 p0.2.2.1
def M1(p0:ADU)(p1:Int):Option Tp:=Z4 (Nc AW) p0 p1
abbrev nN:Type:=ABz×Unit
def H9(p0:ADU)(p1:Int):Option nN:=
 (Dh p0.1 p0.2.1).bind fun u1=>
 some ((decide (u1.1.1>p1),()),())
abbrev Jb:Type:=ABz×Unit
abbrev Oa:Type:=Int->List Int->Int->AAd->List Int->AAf->Int->ABE->ABI->AAs->AA8->Bool->Option Jb
abbrev Od:Type:=Int->Int->Bool->Bool->List Int->Int->AAd->List Int->AAf->Int->ABE->ABI->AAs->AA8->Bool->Option Jb
def XB(R4:Oa)(R7:Od)(t3:Int)(AK:AAA)(AF:Int)(AZ:AAd)(BD:AAA)(BI:AAf)(AO:Int)(Bl:ABE)(Bk:ABI)(BN:AAs)(Bo:AA8)(AH:Bool):Option Jb:=
 cond (decide (t3<2))
  (cond (!AH)
   (R7 t3 0 AH (!AH) AK AF AZ BD BI AO Bl Bk BN Bo AH)
  (some ((true,()),())))
 (some ((true,()),()))
def O1(R4:Oa)(R7:Od)(t3 t4:Int)(t15 t16:Bool)(AK:AAA)(AF:Int)(AZ:AAd)(BD:AAA)(BI:AAf)(AO:Int)(Bl:ABE)(Bk:ABI)(BN:AAs)(Bo:AA8)(AH:Bool):Option Jb:=
 cond ((decide (t4<(Bo.length:Int))))
  (if(0:Int)<=t4/\t4<(Bo.length:Int)then(
  if(0:Int)<=t3/\t3<(BN.length:Int)then(
  (M1 ((BN.getD (t3.toNat) (0,0,[],())).1,(BN.getD (t3.toNat) (0,0,[],())).2.1,(BN.getD (t3.toNat) (0,0,[],())).2.2.1,()) ((Bo.getD (t4.toNat) (0,[],false,())).1)).bind fun u4=>
  cond (((Bo.getD (t4.toNat) (0,[],false,())).2.2.1))
   (cond (decide (((Bo.getD (t4.toNat) (0,[],false,())).1)>AO))
    (if(0:Int)<=t3/\t3<(BN.length:Int)then(
    (H9 ((BN.getD (t3.toNat) (0,0,[],())).1,(BN.getD (t3.toNat) (0,0,[],())).2.1,(BN.getD (t3.toNat) (0,0,[],())).2.2.1,()) ((Bo.getD (t4.toNat) (0,[],false,())).1)).bind fun u8=>
    cond (u8.1.1)
     (cond (!u4.1.1.2.1)
      (some ((false,()),()))
     (R7 t3 (AQ (t4+1)) t15 t16 AK AF AZ BD BI AO Bl Bk BN Bo AH))
    (R7 t3 (AQ (t4+1)) t15 t16 AK AF AZ BD BI AO Bl Bk BN Bo AH))else none)
   (R7 t3 (AQ (t4+1)) t15 t16 AK AF AZ BD BI AO Bl Bk BN Bo AH))
  (R7 t3 (AQ (t4+1)) t15 t16 AK AF AZ BD BI AO Bl Bk BN Bo AH))else none)else none)
 (R4 (AQ (t3+1)) AK AF AZ BD BI AO Bl Bk BN Bo AH)
mutual
def G2:Nat->Oa
 |0=>fun _ _ _ _ _ _ _ _ _ _ _ _=>none
 |n+1=>XB (G2 n) (G3 n)
def G3:Nat->Od
 |0=>fun _ _ _ _ _ _ _ _ _ _ _ _ _ _ _=>none
 |n+1=>O1 (G2 n) (G3 n)
end
def XL(R4:Oa)(R7:Od)(p0:AB0):Option Jb:=
 (Gq (p0.1,p0.2.1,p0.2.2.1,p0.2.2.2.1,p0.2.2.2.2.1,p0.2.2.2.2.2.1,p0.2.2.2.2.2.2.1,p0.2.2.2.2.2.2.2.1,p0.2.2.2.2.2.2.2.2.1,p0.2.2.2.2.2.2.2.2.2.1,p0.2.2.2.2.2.2.2.2.2.2.1,())).bind fun u1=>
 cond (!u1.1.1)
  (some ((false,()),()))
 (R4 0 p0.1 p0.2.1 p0.2.2.1 p0.2.2.2.1 p0.2.2.2.2.1 p0.2.2.2.2.2.1 p0.2.2.2.2.2.2.1 p0.2.2.2.2.2.2.2.1 p0.2.2.2.2.2.2.2.2.1 p0.2.2.2.2.2.2.2.2.2.1 p0.2.2.2.2.2.2.2.2.2.2.1)
def T6(p0:AB0):Option Jb:=XL (G2 AW) (G3 AW) p0
abbrev IX:Type:=ABz×Unit
abbrev NC:Type:=Int->List Int->Int->AAd->List Int->AAf->Int->ABE->ABI->AAs->AA8->Bool->Option IX
abbrev NL:Type:=Int->Int->Bool->Bool->List Int->Int->AAd->List Int->AAf->Int->ABE->ABI->AAs->AA8->Bool->Option IX
def U_(R4:NC)(R7:NL)(t3:Int)(AK:AAA)(AF:Int)(AZ:AAd)(BD:AAA)(BI:AAf)(AO:Int)(Bl:ABE)(Bk:ABI)(BN:AAs)(Bo:AA8)(AH:Bool):Option IX:=
 cond (decide (t3<2))
  (cond (!AH)
   (R7 t3 0 AH (!AH) AK AF AZ BD BI AO Bl Bk BN Bo AH)
  (some ((true,()),())))
 (some ((true,()),()))
def N_(R4:NC)(R7:NL)(t3 t4:Int)(t12 t13:Bool)(AK:AAA)(AF:Int)(AZ:AAd)(BD:AAA)(BI:AAf)(AO:Int)(Bl:ABE)(Bk:ABI)(BN:AAs)(Bo:AA8)(AH:Bool):Option IX:=
 if(0:Int)<=t3/\t3<(BN.length:Int)then(
 cond (decide (t4<(((BN.getD (t3.toNat) (0,0,[],())).2.2.1).length:Int)))
  (if(0:Int)<=t3/\t3<(BN.length:Int)then(
  if(0:Int)<=t4/\t4<(((BN.getD (t3.toNat) (0,0,[],())).2.2.1).length:Int)then(
  cond (((((BN.getD (t3.toNat) (0,0,[],())).2.2.1).getD (t4.toNat) (0,0,[],())).1)==3)
   (some ((false,()),()))
  (R7 t3 (AQ (t4+1)) t12 t13 AK AF AZ BD BI AO Bl Bk BN Bo AH))else none)else none)
 (R4 (AQ (t3+1)) AK AF AZ BD BI AO Bl Bk BN Bo AH))else none
mutual
def D3:Nat->NC
 |0=>fun _ _ _ _ _ _ _ _ _ _ _ _=>none
 |n+1=>U_ (D3 n) (F6 n)
def F6:Nat->NL
 |0=>fun _ _ _ _ _ _ _ _ _ _ _ _ _ _ _=>none
 |n+1=>N_ (D3 n) (F6 n)
end
def U8(R4:NC)(R7:NL)(p0:AB0):Option IX:=
 (Gq (p0.1,p0.2.1,p0.2.2.1,p0.2.2.2.1,p0.2.2.2.2.1,p0.2.2.2.2.2.1,p0.2.2.2.2.2.2.1,p0.2.2.2.2.2.2.2.1,p0.2.2.2.2.2.2.2.2.1,p0.2.2.2.2.2.2.2.2.2.1,p0.2.2.2.2.2.2.2.2.2.2.1,())).bind fun u1=>
 cond (!u1.1.1)
  (some ((false,()),()))
 (R4 0 p0.1 p0.2.1 p0.2.2.1 p0.2.2.2.1 p0.2.2.2.2.1 p0.2.2.2.2.2.1 p0.2.2.2.2.2.2.1 p0.2.2.2.2.2.2.2.1 p0.2.2.2.2.2.2.2.2.1 p0.2.2.2.2.2.2.2.2.2.1 p0.2.2.2.2.2.2.2.2.2.2.1)
def Rh(p0:AB0):Option IX:=U8 (D3 AW) (F6 AW) p0
abbrev RO:Type:=ABz×Unit
abbrev VS:Type:=Int->List Int->Int->AAd->List Int->AAf->Int->ABE->ABI->AAs->AA8->Bool->Int->Int->ADY->Int->Int->ADY->Option RO
def Ql(R2:VS)(t7:Int)(AK:AAA)(AF:Int)(AZ:AAd)(BD:AAA)(BI:AAf)(AO:Int)(Bl:ABE)(Bk:ABI)(BN:AAs)(Bo:AA8)(AH:Bool)(Bn BL:Int)(CM:ADY)(Qm SC:Int)(jK:ADY):Option RO:=
 cond ((decide (t7<(CM.length:Int))))
  (if(0:Int)<=t7/\t7<(CM.length:Int)then(
  cond (((CM.getD (t7.toNat) (0,0,[],())).1) !=1)
   (R2 (AQ (t7+1)) AK AF AZ BD BI AO Bl Bk BN Bo AH Bn BL CM Qm SC jK)
  ((FE ((CM.getD (t7.toNat) (0,0,[],())).2.1)).bind fun u4=>
  cond (!u4.1.1)
   (R2 (AQ (t7+1)) AK AF AZ BD BI AO Bl Bk BN Bo AH Bn BL CM Qm SC jK)
  (cond (decide (((CM.getD (t7.toNat) (0,0,[],())).2.1)<=AO))
   (R2 (AQ (t7+1)) AK AF AZ BD BI AO Bl Bk BN Bo AH Bn BL CM Qm SC jK)
  ((H9 (Bn,BL,CM,()) ((CM.getD (t7.toNat) (0,0,[],())).2.1)).bind fun u7=>
  cond (!u7.1.1)
   (R2 (AQ (t7+1)) AK AF AZ BD BI AO Bl Bk BN Bo AH Bn BL CM Qm SC jK)
  ((H9 (Qm,SC,jK,()) ((CM.getD (t7.toNat) (0,0,[],())).2.1)).bind fun u9=>
  cond (!u9.1.1)
   (R2 (AQ (t7+1)) AK AF AZ BD BI AO Bl Bk BN Bo AH Bn BL CM Qm SC jK)
  ((M1 (Bn,BL,CM,()) ((CM.getD (t7.toNat) (0,0,[],())).2.1)).bind fun Ed=>
  (M1 (Qm,SC,jK,()) ((CM.getD (t7.toNat) (0,0,[],())).2.1)).bind fun Nr=>
  cond (!Nr.1.1.2.1)
   (some ((false,()),()))
  (cond ((!(Nr.1.1.1==Ed.1.1.1)))
   (some ((false,()),()))
  (R2 (AQ (t7+1)) AK AF AZ BD BI AO Bl Bk BN Bo AH Bn BL CM Qm SC jK))))))))else none)
 (some ((true,()),()))
def JU:Nat->VS
 |0=>fun _ _ _ _ _ _ _ _ _ _ _ _ _ _ _ _ _ _=>none
 |n+1=>Ql (JU n)
def X3(R2:VS)(p0:AB0)(p1 p2:ADU):Option RO:=
 R2 0 p0.1 p0.2.1 p0.2.2.1 p0.2.2.2.1 p0.2.2.2.2.1 p0.2.2.2.2.2.1 p0.2.2.2.2.2.2.1 p0.2.2.2.2.2.2.2.1 p0.2.2.2.2.2.2.2.2.1 p0.2.2.2.2.2.2.2.2.2.1 p0.2.2.2.2.2.2.2.2.2.2.1 p1.1 p1.2.1 p1.2.2.1 p2.1 p2.2.1 p2.2.2.1
def Q6(p0:AB0)(p1 p2:ADU):Option RO:=X3 (JU AW) p0 p1 p2
abbrev nc:Type:=ABz×Unit
def TT(p0:AB0):Option nc:=
 (Gq (p0.1,p0.2.1,p0.2.2.1,p0.2.2.2.1,p0.2.2.2.2.1,p0.2.2.2.2.2.1,p0.2.2.2.2.2.2.1,p0.2.2.2.2.2.2.2.1,p0.2.2.2.2.2.2.2.2.1,p0.2.2.2.2.2.2.2.2.2.1,p0.2.2.2.2.2.2.2.2.2.2.1,())).bind fun u1=>
 cond (!u1.1.1)
  (some ((false,()),()))
 (cond (p0.2.2.2.2.2.2.2.2.2.2.1)
  (some ((true,()),()))
 (if(0:Int)<=(0:Int)/\(0:Int)<(p0.2.2.2.2.2.2.2.2.1.length:Int)then(
 if(0:Int)<=(1:Int)/\(1:Int)<(p0.2.2.2.2.2.2.2.2.1.length:Int)then(
 (Q6 (p0.1,p0.2.1,p0.2.2.1,p0.2.2.2.1,p0.2.2.2.2.1,p0.2.2.2.2.2.1,p0.2.2.2.2.2.2.1,p0.2.2.2.2.2.2.2.1,p0.2.2.2.2.2.2.2.2.1,p0.2.2.2.2.2.2.2.2.2.1,p0.2.2.2.2.2.2.2.2.2.2.1,()) ((p0.2.2.2.2.2.2.2.2.1.getD 0 (0,0,[],())).1,(p0.2.2.2.2.2.2.2.2.1.getD 0 (0,0,[],())).2.1,(p0.2.2.2.2.2.2.2.2.1.getD 0 (0,0,[],())).2.2.1,()) ((p0.2.2.2.2.2.2.2.2.1.getD 1 (0,0,[],())).1,(p0.2.2.2.2.2.2.2.2.1.getD 1 (0,0,[],())).2.1,(p0.2.2.2.2.2.2.2.2.1.getD 1 (0,0,[],())).2.2.1,())).bind fun u3=>
 cond (u3.1.1)
  (if(0:Int)<=(1:Int)/\(1:Int)<(p0.2.2.2.2.2.2.2.2.1.length:Int)then(
  if(0:Int)<=(0:Int)/\(0:Int)<(p0.2.2.2.2.2.2.2.2.1.length:Int)then(
  (Q6 (p0.1,p0.2.1,p0.2.2.1,p0.2.2.2.1,p0.2.2.2.2.1,p0.2.2.2.2.2.1,p0.2.2.2.2.2.2.1,p0.2.2.2.2.2.2.2.1,p0.2.2.2.2.2.2.2.2.1,p0.2.2.2.2.2.2.2.2.2.1,p0.2.2.2.2.2.2.2.2.2.2.1,()) ((p0.2.2.2.2.2.2.2.2.1.getD 1 (0,0,[],())).1,(p0.2.2.2.2.2.2.2.2.1.getD 1 (0,0,[],())).2.1,(p0.2.2.2.2.2.2.2.2.1.getD 1 (0,0,[],())).2.2.1,()) ((p0.2.2.2.2.2.2.2.2.1.getD 0 (0,0,[],())).1,(p0.2.2.2.2.2.2.2.2.1.getD 0 (0,0,[],())).2.1,(p0.2.2.2.2.2.2.2.2.1.getD 0 (0,0,[],())).2.2.1,())).bind fun u4=>
  some ((u4.1.1,()),()))else none)else none)
 (some ((false,()),())))else none)else none))
abbrev fi:Type:=AF8×AFi
def EL(p0:ABx)(p1:AB4):Option fi:=
 (LL (p0.1,p0.2.1,()) (p1.1,p1.2.1,())).bind fun u1=>
 cond (!u1.1.1)
  (some ((((),0,()),()),([],())))
 ((ES (p1.1,p1.2.1,())).bind fun u2=>
 some ((((),u2.1.1.2.1,()),()),(u2.2.1,())))
abbrev gw:Type:=(AIX×Unit)×AFi
def Mj(p0:ABx)(p1:AB4)(p2:AAA):Option gw:=
 (LL (p0.1,p0.2.1,()) (p1.1,p1.2.1,())).bind fun u1=>
 cond (!u1.1.1)
  ((EL (p0.1,p0.2.1,()) (p1.1,p1.2.1,())).bind fun u2=>
  some (((((),u2.1.1.2.1,()),0,false,()),()),(u2.2.1,())))
 ((Gr (p0.1,p0.2.1,()) p2).bind fun u3=>
 cond (!u3.1.1)
  ((EL (p0.1,p0.2.1,()) (p1.1,p1.2.1,())).bind fun u4=>
  some (((((),u4.1.1.2.1,()),0,false,()),()),(u4.2.1,())))
 (cond (((p1.1.length:Int)==30))
  ((EL (p0.1,p0.2.1,()) (p1.1,p1.2.1,())).bind fun u6=>
  some (((((),u6.1.1.2.1,()),0,false,()),()),(u6.2.1,())))
 ((ES (p1.1,p1.2.1,())).bind fun u7=>
 (DD p2).bind fun u8=>
 if u7.2.1.length+1<=CN then(
 let x9:AAf:=u7.2.1++[(u8.2.1,false,0,())]
 some (((((),u7.1.1.2.1,()),(x9.length:Int),true,()),()),(x9,())))else none)))
abbrev a8:Type:=AB2×(AFd×List Int×AAd×List Int×Unit×Unit×Unit×AAs×AA8×AAf×ABE×ABI×Unit)
def Kc(p1 AF AO:Int)(AH:Bool)(b1:AAA)(b2:AAd)(b3:AAA)(b4:AAf)(b5:ABE)(b6:ABI)(b7:AAs)(b8:AA8):Option a8:=
 cond (((b5.length:Int)==4))
  (some ((4,()),(((),AF,(),(),(),AO,(),(),(),(),AH,()),b1,b2,b3,(),(),(),b7,b8,b4,b5,b6,())))
 ((IB p1).bind fun u2=>
 (Mj (b1,AF,()) (b4,AO,()) u2.2.1).bind fun u3=>
 cond (!u3.1.1.2.2.1)
  (some ((4,()),(((),AF,(),(),(),AO,(),(),(),(),AH,()),b1,b2,b3,(),(),(),b7,b8,b4,b5,b6,())))
 (if b5.length+1<=CN then(
 some ((0,()),(((),AF,(),(),(),u3.1.1.1.2.1,(),(),(),(),AH,()),b1,b2,b3,(),(),(),b7,b8,u3.2.1,(b5++[(u3.1.1.2.1,[],())]),[],())))else none))
abbrev aA:Type:=AHm×AFk
def EH(p0:ABx)(p1:AB5):Option aA:=
 (GW (p0.1,p0.2.1,()) (p1.1,p1.2.1,())).bind fun u1=>
 cond (!u1.1.1)
  (some (((0,(),()),()),([],())))
 ((Fv (p1.1,p1.2.1,())).bind fun u2=>
 some (((u2.1.1.1,(),()),()),(u2.2.1,())))
abbrev da:Type:=(AIa×Unit)×AFk
def J2(p0:ABx)(p1:AB5)(p2:ABF):Option da:=
 (Fv (p1.1,p1.2.1,())).bind fun u1=>
 if u1.2.1.length+1<=CN then(
 let x2:AB3:=u1.2.1++[(p2,[],false,())]
 (GW (p0.1,p0.2.1,()) (p1.1,p1.2.1,())).bind fun u3=>
 cond (!u3.1.1)
  ((EH (p0.1,p0.2.1,()) (p1.1,p1.2.1,())).bind fun u4=>
  some ((((u4.1.1.1,(),()),0,false,()),()),(u4.2.1,())))
 ((GW (p0.1,p0.2.1,()) (u1.1.1.1,x2,())).bind fun u5=>
 cond (!u5.1.1)
  ((EH (p0.1,p0.2.1,()) (p1.1,p1.2.1,())).bind fun u6=>
  some ((((u6.1.1.1,(),()),0,false,()),()),(u6.2.1,())))
 (some ((((u1.1.1.1,(),()),(x2.length:Int),true,()),()),(x2,())))))else none
abbrev gT:Type:=AB2×Unit
def LV(p0:AHy)(p1:Int):Option gT:=
 some ((AQ (p0.1-p1),()),())
abbrev BT:Type:=AFf×Unit
abbrev Bw:Type:=AA8->Int->Int->Int->Int->Option BT
def Ci(R3:Bw)(t0:AA8)(t1 t8 t9 t10:Int):Option BT:=
 cond (decide (t9<t10))
  (let x2:Int:=AQ ((IntKind.wrap .u64 (AQ (t9+t10))).fdiv (2^1))
  if(0:Int)<=x2/\x2<(t0.length:Int)then(
  (LV ((t0.getD (x2.toNat) (0,[],false,())).1,(t0.getD (x2.toNat) (0,[],false,())).2.1,(t0.getD (x2.toNat) (0,[],false,())).2.2.1,()) t1).bind fun u3=>
  cond (decide (u3.1.1<0))
   (R3 t0 t1 t8 (AQ (x2+1)) t10)
  (R3 t0 t1 t8 t9 x2))else none)
 (cond (decide (t9<t8))
  (if(0:Int)<=t9/\t9<(t0.length:Int)then(
  (LV ((t0.getD (t9.toNat) (0,[],false,())).1,(t0.getD (t9.toNat) (0,[],false,())).2.1,(t0.getD (t9.toNat) (0,[],false,())).2.2.1,()) t1).bind fun u4=>
  some (((t9,u4.1.1==0,()),()),()))else none)
 (some (((t9,false,()),()),())))
def As:Nat->Bw
 |0=>fun _ _ _ _ _=>none
 |n+1=>Ci (As n)
def Ch(R3:Bw)(p0:AA8)(p1:Int):Option BT:=
 R3 p0 p1 (p0.length:Int) 0 (p0.length:Int)
def BU(p0:AA8)(p1:Int):Option BT:=Ch (As AW) p0 p1
abbrev Xy:Type:=AFf×Unit
def IZ(p0:AB0)(p1:Int):Option Xy:=
 (BU p0.2.2.2.2.2.2.2.2.2.1 p1).bind fun u1=>
 some (((u1.1.1.1,u1.1.1.2.1,()),()),())
abbrev JD:Type:=ACL×(Unit×AA8×Unit)
def EE(p1:Int)(p2 b0:AA8):Option JD:=(ABA p1 p2 b0).map fun l=>(((),()),((),l,()))
abbrev cv:Type:=AB2×(AFd×List Int×AAd×List Int×AAf×ABE×ABI×AAs×Unit×AA8×Unit)
def L5(p1:Int)(p2:ABF)(AF AO:Int)(AH:Bool)(b1:AAA)(b2:AAd)(b3:AAA)(b4:AAf)(b5:ABE)(b6:ABI)(b7:AAs)(b8:AA8):Option cv:=
 (A_ p1 0 (AQ ((b5.length:Int)-1))).bind fun u2=>
 cond (!u2.1.1)
  (some ((2,()),(((),AF,(),(),(),AO,(),(),(),(),AH,()),b1,b2,b3,b4,b5,b6,b7,(),b8,())))
 (if(0:Int)<=p1/\p1<(b5.length:Int)then(
 (J2 (b1,AF,()) ((b5.getD (p1.toNat) (0,[],())).1,(b5.getD (p1.toNat) (0,[],())).2.1,()) p2).bind fun u3=>
 (DR u3.1.1.1.1 u3.1.1.2.1).bind fun u4=>
 (IZ (b1,AF,b2,b3,b4,AO,b5,b6,b7,b8,AH,()) u4.1.1.1).bind fun u5=>
 cond (!u3.1.1.2.2.1)
  (some ((4,()),(((),AF,(),(),(),AO,(),(),(),(),AH,()),b1,b2,b3,b4,b5,b6,b7,(),b8,())))
 (cond (((b8.length:Int)==120))
  (some ((4,()),(((),AF,(),(),(),AO,(),(),(),(),AH,()),b1,b2,b3,b4,b5,b6,b7,(),b8,())))
 (cond (u5.1.1.2.1)
  (some ((4,()),(((),AF,(),(),(),AO,(),(),(),(),AH,()),b1,b2,b3,b4,b5,b6,b7,(),b8,())))
 (if(0:Int)<=p1/\p1<(b5.length:Int)then(
 (EE u5.1.1.1 [(u4.1.1.1,p2,false,())] b8).bind fun u8=>
 some ((0,()),(((),AF,(),(),(),AO,(),(),(),(),AH,()),b1,b2,b3,b4,(b5.set (p1.toNat) (u3.1.1.1.1,u3.2.1,())),b6,b7,(),u8.2.2.1,())))else none))))else none)
abbrev gV:Type:=AB2×Unit
def EP(p0:AB0)(p1:Int):Option gV:=
 (A_ p1 0 (AQ ((p0.2.2.1.length:Int)-1))).bind fun u2=>
 cond (!u2.1.1)
  (some ((2,()),()))
 ((C7 p0 p1).bind fun u3=>
 cond (u3.1.1)
  (some ((3,()),()))
 (some ((0,()),())))
abbrev gG:Type:=ACL×ADH
def JJ(p0:AB4)(p1:Int):Option gG:=
 (A_ p1 1 (p0.1.length:Int)).bind fun u1=>
 cond (!u1.1.1)
  (some (((),()),([],())))
 (if(0:Int)<=AQ (p1-1)/\AQ (p1-1)<(p0.1.length:Int)then(
 (DD ((p0.1.getD ((AQ (p1-1)).toNat) ([],false,0,())).1)).bind fun u2=>
 some (((),()),(u2.2.1,())))else none)
abbrev MS:Type:=AB2×Unit
def Df(p0:AB0)(p1 p2:Int):Option MS:=
 (EP p0 p1).bind fun u1=>
 cond (u1.1.1==0)
  ((JJ (p0.2.2.2.2.1,p0.2.2.2.2.2.1,()) p2).bind fun u2=>
  (Bv u2.2.1 p1).bind fun u3=>
  cond (!u3.1.1)
   (some ((2,()),()))
  (some ((u1.1.1,()),())))
 (some ((u1.1.1,()),()))
abbrev mD:Type:=AHj×AEz
def Dj(p0:ADA):Option mD:=
 (FA (p0.1,p0.2.1,p0.2.2.1,())).bind fun u1=>
 cond (!u1.1.1)
  (some ((((),(),0,()),()),([],[],())))
 ((C_ (p0.1,p0.2.1,p0.2.2.1,())).bind fun u2=>
 some ((((),(),u2.1.1.2.2.1,()),()),(u2.2.1,u2.2.2.1,())))
abbrev qp:Type:=AFH×AEz
def WD(p0:ADA)(p1:AEe):Option qp:=
 (FA (p0.1,p0.2.1,p0.2.2.1,())).bind fun u1=>
 cond (!u1.1.1)
  ((Dj (p0.1,p0.2.1,p0.2.2.1,())).bind fun u2=>
  some (((((),(),u2.1.1.2.2.1,()),false,()),()),(u2.2.1,u2.2.2.1,())))
 ((NF (p1.1,p1.2.1,p1.2.2.1,p1.2.2.2.1,())).bind fun u3=>
 cond (!u3.1.1)
  ((Dj (p0.1,p0.2.1,p0.2.2.1,())).bind fun u4=>
  some (((((),(),u4.1.1.2.2.1,()),false,()),()),(u4.2.1,u4.2.2.1,())))
 (cond ((p0.2.1.length:Int)==20)
  ((Dj (p0.1,p0.2.1,p0.2.2.1,())).bind fun u6=>
  some (((((),(),u6.1.1.2.2.1,()),false,()),()),(u6.2.1,u6.2.2.1,())))
 (cond (p1.2.1==0)
  ((EU p1.1).bind fun u7=>
  cond ((decide (u7.1.1<=p0.2.2.1)))
   ((C_ (p0.1,p0.2.1,p0.2.2.1,())).bind fun u9=>
   some (((((),(),u9.1.1.2.2.1,()),false,()),()),(u9.2.1,u9.2.2.1,())))
  (cond (decide (p1.2.1>0))
   (cond ((decide (p1.2.1<=p0.2.2.1)))
    ((C_ (p0.1,p0.2.1,p0.2.2.1,())).bind fun Ed=>
    some (((((),(),Ed.1.1.2.2.1,()),false,()),()),(Ed.2.1,Ed.2.2.1,())))
   ((C_ (p0.1,p0.2.1,p0.2.2.1,())).bind fun Md=>
   if Md.2.2.1.length+1<=CN then(
   some (((((),(),Md.1.1.2.2.1,()),true,()),()),(Md.2.1,(Md.2.2.1++[(p1.1,p1.2.1,p1.2.2.1,p1.2.2.2.1,())]),())))else none))
  ((C_ (p0.1,p0.2.1,p0.2.2.1,())).bind fun Mc=>
  if Mc.2.2.1.length+1<=CN then(
  some (((((),(),Mc.1.1.2.2.1,()),true,()),()),(Mc.2.1,(Mc.2.2.1++[(p1.1,p1.2.1,p1.2.2.1,p1.2.2.2.1,())]),())))else none)))
 (cond (decide (p1.2.1>0))
  (cond ((decide (p1.2.1<=p0.2.2.1)))
   ((C_ (p0.1,p0.2.1,p0.2.2.1,())).bind fun jV=>
   some (((((),(),jV.1.1.2.2.1,()),false,()),()),(jV.2.1,jV.2.2.1,())))
  ((C_ (p0.1,p0.2.1,p0.2.2.1,())).bind fun cf=>
  if cf.2.2.1.length+1<=CN then(
  some (((((),(),cf.1.1.2.2.1,()),true,()),()),(cf.2.1,(cf.2.2.1++[(p1.1,p1.2.1,p1.2.2.1,p1.2.2.2.1,())]),())))else none))
 ((C_ (p0.1,p0.2.1,p0.2.2.1,())).bind fun Uj=>
 if Uj.2.2.1.length+1<=CN then(
 some (((((),(),Uj.1.1.2.2.1,()),true,()),()),(Uj.2.1,(Uj.2.2.1++[(p1.1,p1.2.1,p1.2.2.1,p1.2.2.2.1,())]),())))else none)))))
abbrev ic:Type:=AB2×Unit
def KX(p0:Bool):Option ic:=
 cond (p0)
  (some ((0,()),()))
 (some ((4,()),()))
abbrev dE:Type:=AB2×AFO
def L0(p1:Int)(p2:AEe)(AF AO:Int)(AH:Bool)(b1:AAA)(b2:AAd)(b3:AAA)(b4:AAf)(b5:ABE)(b6:ABI)(b7:AAs)(b8:AA8):Option dE:=
 if(0:Int)<=p1/\p1<(b2.length:Int)then(
 (WD ((b2.getD (p1.toNat) ([],[],0,())).1,(b2.getD (p1.toNat) ([],[],0,())).2.1,(b2.getD (p1.toNat) ([],[],0,())).2.2.1,()) (p2.1,p2.2.1,p2.2.2.1,p2.2.2.2.1,())).bind fun u1=>
 cond (u1.1.1.2.1)
  (if(0:Int)<=p1/\p1<(b2.length:Int)then(
  (KX u1.1.1.2.1).bind fun u3=>
  some ((u3.1.1,()),(((),AF,(),(),(),AO,(),(),(),(),AH,()),b1,(b2.set (p1.toNat) (u1.2.1,u1.2.2.1,u1.1.1.1.2.2.1,())),b3,b4,b5,b6,b7,b8,())))else none)
 ((KX u1.1.1.2.1).bind fun u4=>
 some ((u4.1.1,()),(((),AF,(),(),(),AO,(),(),(),(),AH,()),b1,b2,b3,b4,b5,b6,b7,b8,()))))else none
abbrev j8:Type:=AB2×AFO
def Jf(p1:ADJ)(AF AO:Int)(AH:Bool)(b1:AAA)(b2:AAd)(b3:AAA)(b4:AAf)(b5:ABE)(b6:ABI)(b7:AAs)(b8:AA8):Option j8:=
 (A_ p1.2.1 0 (AQ ((b5.length:Int)-1))).bind fun u2=>
 cond (!u2.1.1)
  (some ((2,()),(((),AF,(),(),(),AO,(),(),(),(),AH,()),b1,b2,b3,b4,b5,b6,b7,b8,())))
 (if(0:Int)<=p1.2.1/\p1.2.1<(b5.length:Int)then(
 (A_ p1.2.2.1 1 (((b5.getD (p1.2.1.toNat) (0,[],())).2.1).length:Int)).bind fun u4=>
 cond (!u4.1.1)
  (some ((2,()),(((),AF,(),(),(),AO,(),(),(),(),AH,()),b1,b2,b3,b4,b5,b6,b7,b8,())))
 ((Df (b1,AF,b2,b3,b4,AO,b5,b6,b7,b8,AH,()) p1.2.2.2.1 ((b5.getD (p1.2.1.toNat) (0,[],())).1)).bind fun u6=>
 cond (u6.1.1 !=0)
  (some ((u6.1.1,()),(((),AF,(),(),(),AO,(),(),(),(),AH,()),b1,b2,b3,b4,b5,b6,b7,b8,())))
 ((DR ((b5.getD (p1.2.1.toNat) (0,[],())).1) p1.2.2.1).bind fun u8=>
 if(0:Int)<=AQ (p1.2.2.1-1)/\AQ (p1.2.2.1-1)<(((b5.getD (p1.2.1.toNat) (0,[],())).2.1).length:Int)then(
 (L0 p1.2.2.2.1 (u8.1.1.1,0,false,((((b5.getD (p1.2.1.toNat) (0,[],())).2.1).getD ((AQ (p1.2.2.1-1)).toNat) ([],[],false,())).1),()) AF AO AH b1 b2 b3 b4 b5 b6 b7 b8).bind fun Dk=>
 some ((Dk.1.1,()),(((),Dk.2.1.2.1,(),(),(),Dk.2.1.2.2.2.2.2.1,(),(),(),(),Dk.2.1.2.2.2.2.2.2.2.2.2.2.1,()),Dk.2.2.1,Dk.2.2.2.1,Dk.2.2.2.2.1,Dk.2.2.2.2.2.1,Dk.2.2.2.2.2.2.1,Dk.2.2.2.2.2.2.2.1,Dk.2.2.2.2.2.2.2.2.1,Dk.2.2.2.2.2.2.2.2.2.1,())))else none)))else none)
abbrev QK:Type:=ACL×AH2
def Dv(p1:Int)(p2 b0:ABd):Option QK:=(ABA p1 p2 b0).map fun l=>(((),()),((),l,()))
abbrev ABe:Type:=ACL×AH2
def Yy(p1:AEe)(b0:ABd):Option ABe:=
 (UK b0 p1.1).bind fun u1=>
 cond (!u1.1.1.2.1)
  ((Dv u1.1.1.1 [(p1.1,p1.2.1,p1.2.2.1,p1.2.2.2.1,())] b0).bind fun u2=>
  some (((),()),((),u2.2.2.1,())))
 (if(0:Int)<=u1.1.1.1/\u1.1.1.1<(b0.length:Int)then(
 (Sd ((b0.getD (u1.1.1.1.toNat) (0,0,false,[],())).1,(b0.getD (u1.1.1.1.toNat) (0,0,false,[],())).2.1,(b0.getD (u1.1.1.1.toNat) (0,0,false,[],())).2.2.1,(b0.getD (u1.1.1.1.toNat) (0,0,false,[],())).2.2.2.1,()) (p1.1,p1.2.1,p1.2.2.1,p1.2.2.2.1,())).bind fun u3=>
 if(0:Int)<=u1.1.1.1/\u1.1.1.1<(b0.length:Int)then(
 some (((),()),((),(b0.set (u1.1.1.1.toNat) (u3.1.1.1,u3.1.1.2.1,u3.1.1.2.2.1,u3.1.1.2.2.2.1,())),())))else none)else none)
abbrev OU:Type:=AFH×AEz
abbrev SE:Type:=Int->ABd->Int->Int->ABd->ABd->Int->Int->ABd->ABd->Int->ABd->ABd->Option OU
def Un(R6:SE)(t1:Int)(t23:ABd)(t24 t25:Int)(AK AF:ABd)(AZ CM:Int)(b2 b3:ABd)(fR:Int)(b5 b6:ABd):Option OU:=
 cond (decide (t25<t24))
  (if(0:Int)<=t25/\t25<(t23.length:Int)then(
  if t25<0 then none else(
  cond (((gU .i64 (t1.fdiv (2^(min t25.toNat 64))) 1)==1))
   ((Yy ((t23.getD (t25.toNat) (0,0,false,[],())).1,(t23.getD (t25.toNat) (0,0,false,[],())).2.1,(t23.getD (t25.toNat) (0,0,false,[],())).2.2.1,(t23.getD (t25.toNat) (0,0,false,[],())).2.2.2.1,()) b5).bind fun u9=>
   R6 t1 t23 t24 (AQ (t25+1)) AK AF AZ CM b2 b3 fR u9.2.2.1 b6)
  (R6 t1 t23 t24 (AQ (t25+1)) AK AF AZ CM b2 b3 fR b5 b6)))else none)
 (cond ((decide ((b5.length:Int)>200)))
  ((C_ (AK,AF,AZ,())).bind fun Ed=>
  some (((((),(),Ed.1.1.2.2.1,()),false,()),()),(Ed.2.1,Ed.2.2.1,())))
 (some (((((),(),fR,()),true,()),()),(b5,b6,()))))
def J_:Nat->SE
 |0=>fun _ _ _ _ _ _ _ _ _ _ _ _ _=>none
 |n+1=>Un (J_ n)
def VB(R6:SE)(p0:ADA)(p1:Int):Option OU:=
 (FA (p0.1,p0.2.1,p0.2.2.1,())).bind fun u1=>
 cond (!u1.1.1)
  ((Dj (p0.1,p0.2.1,p0.2.2.1,())).bind fun u2=>
  some (((((),(),u2.1.1.2.2.1,()),false,()),()),(u2.2.1,u2.2.2.1,())))
 ((A_ p1 0 1048575).bind fun u3=>
 cond (!u3.1.1)
  ((Dj (p0.1,p0.2.1,p0.2.2.1,())).bind fun u4=>
  some (((((),(),u4.1.1.2.2.1,()),false,()),()),(u4.2.1,u4.2.2.1,())))
 ((C_ (p0.1,p0.2.1,p0.2.2.1,())).bind fun u5=>
 R6 p1 p0.2.1 (p0.2.1.length:Int) 0 p0.1 p0.2.1 p0.2.2.1 0 [] [] u5.1.1.2.2.1 u5.2.1 []))
def NP(p0:ADA)(p1:Int):Option OU:=VB (J_ AW) p0 p1
abbrev om:Type:=AFH×AEz
def Pz(p0:ADA):Option om:=
 (NP (p0.1,p0.2.1,p0.2.2.1,()) 1048575).bind fun u1=>
 some (((((),(),u1.1.1.1.2.2.1,()),u1.1.1.2.1,()),()),(u1.2.1,u1.2.2.1,()))
abbrev qo:Type:=ABz×Unit
def cmp_isNaN_int(p0:Int):Option qo:=
 some ((p0 !=p0,()),())
abbrev sV:Type:=ABz×Unit
def cmp_Less_int(p0 p1:Int):Option sV:=
 (cmp_isNaN_int p0).bind fun u1=>
 cond (u1.1.1)
  ((cmp_isNaN_int p1).bind fun u2=>
  cond (!u2.1.1)
   (some ((true,()),()))
  (some ((decide (p0<p1),()),())))
 (some ((decide (p0<p1),()),()))
abbrev j4:Type:=ABz×Unit
def QI(p0:Int):Option j4:=
 some ((p0 !=p0,()),())
abbrev FZ:Type:=AFf×Unit
abbrev HZ:Type:=List Int->Int->Int->Int->Int->Option FZ
def KP(R3:HZ)(t0:AAA)(t1 t6 t7 t8:Int):Option FZ:=
 cond (decide (t7<t8))
  (let x2:Int:=AQ ((IntKind.wrap .u64 (AQ (t7+t8))).fdiv (2^1))
  if(0:Int)<=x2/\x2<(t0.length:Int)then(
  (cmp_Less_int (t0.getD (x2.toNat) 0) t1).bind fun u4=>
  cond (u4.1.1)
   (R3 t0 t1 t6 (AQ (x2+1)) t8)
  (R3 t0 t1 t6 t7 x2))else none)
 (cond (decide (t7<t6))
  (if(0:Int)<=t7/\t7<(t0.length:Int)then(
  cond ((t0.getD (t7.toNat) 0)==t1)
   (some (((t7,true,()),()),()))
  (if(0:Int)<=t7/\t7<(t0.length:Int)then(
  (QI (t0.getD (t7.toNat) 0)).bind fun u7=>
  cond (u7.1.1)
   ((QI t1).bind fun u8=>
   some (((t7,u8.1.1,()),()),()))
  (some (((t7,false,()),()),())))else none))else none)
 (some (((t7,false,()),()),())))
def Ds:Nat->HZ
 |0=>fun _ _ _ _ _=>none
 |n+1=>KP (Ds n)
def KQ(R3:HZ)(p0:AAA)(p1:Int):Option FZ:=
 R3 p0 p1 (p0.length:Int) 0 (p0.length:Int)
def GP(p0:AAA)(p1:Int):Option FZ:=KQ (Ds AW) p0 p1
abbrev dv:Type:=ACL×AHi
def KJ(p1:Int)(p2 b0:AAA):Option dv:=(ABA p1 p2 b0).map fun l=>(((),()),((),l,()))
abbrev qn:Type:=ACL×ADH
def K_(p0:AAA)(p1:Int):Option qn:=
 (DD p0).bind fun u1=>
 (GP u1.2.1 p1).bind fun u2=>
 cond (!u2.1.1.2.1)
  ((KJ u2.1.1.1 [p1] u1.2.1).bind fun u3=>
  some (((),()),(u3.2.2.1,())))
 (some (((),()),(u1.2.1,())))
abbrev nH:Type:=AGV×AFk
def UY(p0:ABx)(p1:AB5)(p2 p3:Int):Option nH:=
 (GW (p0.1,p0.2.1,()) (p1.1,p1.2.1,())).bind fun u1=>
 cond (!u1.1.1)
  ((EH (p0.1,p0.2.1,()) (p1.1,p1.2.1,())).bind fun u2=>
  some ((((u2.1.1.1,(),()),false,()),()),(u2.2.1,())))
 ((A_ p2 1 (p1.2.1.length:Int)).bind fun u4=>
 cond (!u4.1.1)
  ((EH (p0.1,p0.2.1,()) (p1.1,p1.2.1,())).bind fun u5=>
  some ((((u5.1.1.1,(),()),false,()),()),(u5.2.1,())))
 (if(0:Int)<=AQ (p2-1)/\AQ (p2-1)<(p1.2.1.length:Int)then(
 cond (((p1.2.1.getD ((AQ (p2-1)).toNat) ([],[],false,())).2.2.1))
  ((EH (p0.1,p0.2.1,()) (p1.1,p1.2.1,())).bind fun u7=>
  some ((((u7.1.1.1,(),()),false,()),()),(u7.2.1,())))
 ((A_ p3 0 (AQ ((p0.1.length:Int)-1))).bind fun u9=>
 cond (!u9.1.1)
  ((EH (p0.1,p0.2.1,()) (p1.1,p1.2.1,())).bind fun Dk=>
  some ((((Dk.1.1.1,(),()),false,()),()),(Dk.2.1,())))
 ((Fv (p1.1,p1.2.1,())).bind fun Ed=>
 if(0:Int)<=AQ (p2-1)/\AQ (p2-1)<(Ed.2.1.length:Int)then(
 (K_ ((Ed.2.1.getD ((AQ (p2-1)).toNat) ([],[],false,())).2.1) p3).bind fun Md=>
 let x13:AB3:=(Ed.2.1.set ((AQ (p2-1)).toNat) ((Ed.2.1.getD ((AQ (p2-1)).toNat) ([],[],false,())).1,Md.2.1,(Ed.2.1.getD ((AQ (p2-1)).toNat) ([],[],false,())).2.2.1,()))
 (Gr (p0.1,p0.2.1,()) ((x13.getD ((AQ (p2-1)).toNat) ([],[],false,())).2.1)).bind fun Mc=>
 some ((((Ed.1.1.1,(),()),true,()),()),((x13.set ((AQ (p2-1)).toNat) ((x13.getD ((AQ (p2-1)).toNat) ([],[],false,())).1,(x13.getD ((AQ (p2-1)).toNat) ([],[],false,())).2.1,Mc.1.1,())),())))else none)))else none))
abbrev GH:Type:=ACL×AFO
abbrev LI:Type:=Int->Int->Int->Int->Int->Bool->List Int->AAd->List Int->AAf->ABE->ABI->AAs->AA8->Option GH
def I3(R1:LI)(t1 t2 t6 AF AO:Int)(AH:Bool)(b1:AAA)(b2:AAd)(b3:AAA)(b4:AAf)(b5:ABE)(b6:ABI)(b7:AAs)(b8:AA8):Option GH:=
 if(0:Int)<=t1/\t1<(b5.length:Int)then(
 cond (decide (t6<=(((b5.getD (t1.toNat) (0,[],())).2.1).length:Int)))
  (if(0:Int)<=t1/\t1<(b5.length:Int)then(
  (DR ((b5.getD (t1.toNat) (0,[],())).1) t6).bind fun u3=>
  if(0:Int)<=t2/\t2<(b2.length:Int)then(
  (GZ ((b2.getD (t2.toNat) ([],[],0,())).1,(b2.getD (t2.toNat) ([],[],0,())).2.1,(b2.getD (t2.toNat) ([],[],0,())).2.2.1,()) u3.1.1.1).bind fun u4=>
  if(0:Int)<=t1/\t1<(b5.length:Int)then(
  if(0:Int)<=AQ (t6-1)/\AQ (t6-1)<(((b5.getD (t1.toNat) (0,[],())).2.1).length:Int)then(
  cond (((((b5.getD (t1.toNat) (0,[],())).2.1).getD ((AQ (t6-1)).toNat) ([],[],false,())).2.2.1))
   (R1 t1 t2 (AQ (t6+1)) AF AO AH b1 b2 b3 b4 b5 b6 b7 b8)
  (cond (!u4.1.1.2.1)
   (R1 t1 t2 (AQ (t6+1)) AF AO AH b1 b2 b3 b4 b5 b6 b7 b8)
  (cond (u4.1.1.1.2.1 !=0)
   (R1 t1 t2 (AQ (t6+1)) AF AO AH b1 b2 b3 b4 b5 b6 b7 b8)
  (if(0:Int)<=t1/\t1<(b5.length:Int)then(
  (UY (b1,AF,()) ((b5.getD (t1.toNat) (0,[],())).1,(b5.getD (t1.toNat) (0,[],())).2.1,()) t6 t2).bind fun u6=>
  if(0:Int)<=t1/\t1<(b5.length:Int)then(
  let x7:ABE:=(b5.set (t1.toNat) (u6.1.1.1.1,u6.2.1,()))
  (IZ (b1,AF,b2,b3,b4,AO,x7,b6,b7,b8,AH,()) u3.1.1.1).bind fun u8=>
  cond (u8.1.1.2.1)
   (if(0:Int)<=t1/\t1<(x7.length:Int)then(
   if(0:Int)<=AQ (t6-1)/\AQ (t6-1)<(((x7.getD (t1.toNat) (0,[],())).2.1).length:Int)then(
   cond (((((x7.getD (t1.toNat) (0,[],())).2.1).getD ((AQ (t6-1)).toNat) ([],[],false,())).2.2.1))
    (if(0:Int)<=u8.1.1.1/\u8.1.1.1<(b8.length:Int)then(
    R1 t1 t2 (AQ (t6+1)) AF AO AH b1 b2 b3 b4 x7 b6 b7 (b8.set (u8.1.1.1.toNat) ((b8.getD (u8.1.1.1.toNat) (0,[],false,())).1,(b8.getD (u8.1.1.1.toNat) (0,[],false,())).2.1,true,())))else none)
   (R1 t1 t2 (AQ (t6+1)) AF AO AH b1 b2 b3 b4 x7 b6 b7 b8))else none)else none)
  (R1 t1 t2 (AQ (t6+1)) AF AO AH b1 b2 b3 b4 x7 b6 b7 b8))else none)else none))))else none)else none)else none)else none)
 (some (((()),()),(((),AF,(),(),(),AO,(),(),(),(),AH,()),b1,b2,b3,b4,b5,b6,b7,b8,()))))else none
def C3:Nat->LI
 |0=>fun _ _ _ _ _ _ _ _ _ _ _ _ _ _=>none
 |n+1=>I3 (C3 n)
def Of(R1:LI)(p1 p2 AF AO:Int)(AH:Bool)(b1:AAA)(b2:AAd)(b3:AAA)(b4:AAf)(b5:ABE)(b6:ABI)(b7:AAs)(b8:AA8):Option GH:=
 R1 p1 p2 1 AF AO AH b1 b2 b3 b4 b5 b6 b7 b8
def OE(p1 p2 AF AO:Int)(AH:Bool)(b1:AAA)(b2:AAd)(b3:AAA)(b4:AAf)(b5:ABE)(b6:ABI)(b7:AAs)(b8:AA8):Option GH:=Of (C3 AW) p1 p2 AF AO AH b1 b2 b3 b4 b5 b6 b7 b8
abbrev Jj:Type:=AGD×Unit
abbrev Ts:Type:=Int->ABd->Int->Int->Int->Int->List Int->ABd->Bool->List AAA->Int->Int->Bool->List UInt8->Option Jj
def Wu(R5:Ts)(t6:Int)(t33:ABd)(t34 t35 AK AF:Int)(AZ:AAA)(BD:ABd)(BI:Bool)(AO:List AAA)(Bn BL:Int)(CM:Bool)(EG:ABF):Option Jj:=
 cond (decide (t35<t34))
  (if(0:Int)<=t35/\t35<(t33.length:Int)then(
  cond (((t33.getD (t35.toNat) (0,0,false,[],())).1)==t6)
   (some ((((t6,AK,((t33.getD (t35.toNat) (0,0,false,[],())).2.2.1),((t33.getD (t35.toNat) (0,0,false,[],())).2.2.2.1),()),true,()),()),()))
  (R5 t6 t33 t34 (AQ (t35+1)) AK AF AZ BD BI AO Bn BL CM EG))else none)
 (some ((((t6,AK,true,[],()),true,()),()),()))
def K3:Nat->Ts
 |0=>fun _ _ _ _ _ _ _ _ _ _ _ _ _ _=>none
 |n+1=>Wu (K3 n)
def Wi(R5:Ts)(p0:AB1)(p1:Int):Option Jj:=
 (DR p0.2.1 p1).bind fun u1=>
 cond (!u1.1.1.2.1)
  (some ((((0,0,false,[],()),false,()),()),()))
 (cond (!p0.2.2.2.2.1)
  (some ((((0,0,false,[],()),false,()),()),()))
 (cond (decide (p1>(p0.2.2.2.2.2.1.length:Int)))
  (some ((((0,0,false,[],()),false,()),()),()))
 (R5 u1.1.1.1 p0.2.2.2.1 (p0.2.2.2.1.length:Int) 0 p0.1 p0.2.1 p0.2.2.1 p0.2.2.2.1 p0.2.2.2.2.1 p0.2.2.2.2.2.1 0 0 false [])))
def J0(p0:AB1)(p1:Int):Option Jj:=Wi (K3 AW) p0 p1
abbrev oU:Type:=AGC×AFA
def Em(p0:ABx)(p1:AB1):Option oU:=
 (Ht (p0.1,p0.2.1,()) (p1.1,p1.2.1,p1.2.2.1,p1.2.2.2.1,p1.2.2.2.2.1,p1.2.2.2.2.2.1,())).bind fun u1=>
 cond (!u1.1.1)
  (some (((0,0,(),(),false,(),()),()),([],[],[],())))
 ((Gd (p1.1,p1.2.1,p1.2.2.1,p1.2.2.2.1,p1.2.2.2.2.1,p1.2.2.2.2.2.1,())).bind fun u2=>
 some (((u2.1.1.1,u2.1.1.2.1,(),(),u2.1.1.2.2.2.2.1,(),()),()),(u2.2.1,u2.2.2.1,u2.2.2.2.1,())))
abbrev ZK:Type:=AFl×AFA
def QZ(p0:ABx)(p1:AB1)(p2 p3:Int):Option ZK:=
 (Ht (p0.1,p0.2.1,()) (p1.1,p1.2.1,p1.2.2.1,p1.2.2.2.1,p1.2.2.2.2.1,p1.2.2.2.2.2.1,())).bind fun u1=>
 cond (!u1.1.1)
  ((Em (p0.1,p0.2.1,()) (p1.1,p1.2.1,p1.2.2.1,p1.2.2.2.1,p1.2.2.2.2.1,p1.2.2.2.2.2.1,())).bind fun u2=>
  some ((((u2.1.1.1,u2.1.1.2.1,(),(),u2.1.1.2.2.2.2.1,(),()),false,()),()),(u2.2.1,u2.2.2.1,u2.2.2.2.1,())))
 ((A_ p2 1 (p1.2.2.2.2.2.1.length:Int)).bind fun u4=>
 cond (!u4.1.1)
  ((Em (p0.1,p0.2.1,()) (p1.1,p1.2.1,p1.2.2.1,p1.2.2.2.1,p1.2.2.2.2.1,p1.2.2.2.2.2.1,())).bind fun u5=>
  some ((((u5.1.1.1,u5.1.1.2.1,(),(),u5.1.1.2.2.2.2.1,(),()),false,()),()),(u5.2.1,u5.2.2.1,u5.2.2.2.1,())))
 ((A_ p3 0 (AQ ((p0.1.length:Int)-1))).bind fun u7=>
 cond (!u7.1.1)
  ((Em (p0.1,p0.2.1,()) (p1.1,p1.2.1,p1.2.2.1,p1.2.2.2.1,p1.2.2.2.2.1,p1.2.2.2.2.2.1,())).bind fun u8=>
  some ((((u8.1.1.1,u8.1.1.2.1,(),(),u8.1.1.2.2.2.2.1,(),()),false,()),()),(u8.2.1,u8.2.2.1,u8.2.2.2.1,())))
 ((Gd (p1.1,p1.2.1,p1.2.2.1,p1.2.2.2.1,p1.2.2.2.2.1,p1.2.2.2.2.2.1,())).bind fun u9=>
 if(0:Int)<=AQ (p2-1)/\AQ (p2-1)<(u9.2.2.2.1.length:Int)then(
 (K_ (u9.2.2.2.1.getD ((AQ (p2-1)).toNat) []) p3).bind fun Dk=>
 if(0:Int)<=AQ (p2-1)/\AQ (p2-1)<(u9.2.2.2.1.length:Int)then(
 some ((((u9.1.1.1,u9.1.1.2.1,(),(),u9.1.1.2.2.2.2.1,(),()),true,()),()),(u9.2.1,u9.2.2.1,(u9.2.2.2.1.set ((AQ (p2-1)).toNat) Dk.2.1),())))else none)else none)))
abbrev KM:Type:=ACL×AFO
abbrev Mw:Type:=Int->Int->Int->Int->Int->Bool->List Int->AAd->List Int->AAf->ABE->ABI->AAs->AA8->Option KM
def HI(R1:Mw)(t1 t2 t6 AF AO:Int)(AH:Bool)(b1:AAA)(b2:AAd)(b3:AAA)(b4:AAf)(b5:ABE)(b6:ABI)(b7:AAs)(b8:AA8):Option KM:=
 if(0:Int)<=t1/\t1<(b6.length:Int)then(
 cond (decide (t6<=(((b6.getD (t1.toNat) (0,0,[],[],false,[],())).2.2.2.2.2.1).length:Int)))
  (if(0:Int)<=t1/\t1<(b6.length:Int)then(
  (J0 ((b6.getD (t1.toNat) (0,0,[],[],false,[],())).1,(b6.getD (t1.toNat) (0,0,[],[],false,[],())).2.1,(b6.getD (t1.toNat) (0,0,[],[],false,[],())).2.2.1,(b6.getD (t1.toNat) (0,0,[],[],false,[],())).2.2.2.1,(b6.getD (t1.toNat) (0,0,[],[],false,[],())).2.2.2.2.1,(b6.getD (t1.toNat) (0,0,[],[],false,[],())).2.2.2.2.2.1,()) t6).bind fun u2=>
  if(0:Int)<=t2/\t2<(b2.length:Int)then(
  (GZ ((b2.getD (t2.toNat) ([],[],0,())).1,(b2.getD (t2.toNat) ([],[],0,())).2.1,(b2.getD (t2.toNat) ([],[],0,())).2.2.1,()) u2.1.1.1.1).bind fun u3=>
  cond (u2.1.1.2.1)
   (cond (u3.1.1.2.1)
    (cond (((u3.1.1.1.1==u2.1.1.1.1)&&((u3.1.1.1.2.1==u2.1.1.1.2.1)&&((u3.1.1.1.2.2.1==u2.1.1.1.2.2.1)&&((u3.1.1.1.2.2.2.1==u2.1.1.1.2.2.2.1)&&true)))))
     (if(0:Int)<=t1/\t1<(b6.length:Int)then(
     (QZ (b1,AF,()) ((b6.getD (t1.toNat) (0,0,[],[],false,[],())).1,(b6.getD (t1.toNat) (0,0,[],[],false,[],())).2.1,(b6.getD (t1.toNat) (0,0,[],[],false,[],())).2.2.1,(b6.getD (t1.toNat) (0,0,[],[],false,[],())).2.2.2.1,(b6.getD (t1.toNat) (0,0,[],[],false,[],())).2.2.2.2.1,(b6.getD (t1.toNat) (0,0,[],[],false,[],())).2.2.2.2.2.1,()) t6 t2).bind fun u5=>
     if(0:Int)<=t1/\t1<(b6.length:Int)then(
     R1 t1 t2 (AQ (t6+1)) AF AO AH b1 b2 b3 b4 b5 (b6.set (t1.toNat) (u5.1.1.1.1,u5.1.1.1.2.1,u5.2.1,u5.2.2.1,u5.1.1.1.2.2.2.2.1,u5.2.2.2.1,())) b7 b8)else none)else none)
    (R1 t1 t2 (AQ (t6+1)) AF AO AH b1 b2 b3 b4 b5 b6 b7 b8))
   (R1 t1 t2 (AQ (t6+1)) AF AO AH b1 b2 b3 b4 b5 b6 b7 b8))
  (R1 t1 t2 (AQ (t6+1)) AF AO AH b1 b2 b3 b4 b5 b6 b7 b8))else none)else none)
 (some (((()),()),(((),AF,(),(),(),AO,(),(),(),(),AH,()),b1,b2,b3,b4,b5,b6,b7,b8,()))))else none
def Ba:Nat->Mw
 |0=>fun _ _ _ _ _ _ _ _ _ _ _ _ _ _=>none
 |n+1=>HI (Ba n)
def KR(R1:Mw)(p1 p2 AF AO:Int)(AH:Bool)(b1:AAA)(b2:AAd)(b3:AAA)(b4:AAf)(b5:ABE)(b6:ABI)(b7:AAs)(b8:AA8):Option KM:=
 R1 p1 p2 1 AF AO AH b1 b2 b3 b4 b5 b6 b7 b8
def LU(p1 p2 AF AO:Int)(AH:Bool)(b1:AAA)(b2:AAd)(b3:AAA)(b4:AAf)(b5:ABE)(b6:ABI)(b7:AAs)(b8:AA8):Option KM:=KR (Ba AW) p1 p2 AF AO AH b1 b2 b3 b4 b5 b6 b7 b8
abbrev IY:Type:=AB2×AFO
abbrev M_:Type:=Int->Int->Int->Int->Int->Bool->List Int->AAd->List Int->AAf->ABE->ABI->AAs->AA8->Int->Option IY
abbrev LZ:Type:=Int->Int->Int->Int->Int->Bool->List Int->AAd->List Int->AAf->ABE->ABI->AAs->AA8->Option IY
def OC(R9:M_)(gQ:LZ)(t1 t42 t43 AF AO:Int)(AH:Bool)(b1:AAA)(b2:AAd)(b3:AAA)(b4:AAf)(b5:ABE)(b6:ABI)(b7:AAs)(b8:AA8)(gz:Int):Option IY:=
 cond (decide (t43<t42))
  (if(0:Int)<=t43/\t43<(b5.length:Int)then(
  cond (decide (((b5.getD (t43.toNat) (0,[],())).1)>gz))
   ((JJ (b4,AO,()) ((b5.getD (t43.toNat) (0,[],())).1)).bind fun u6=>
   (Bv u6.2.1 t1).bind fun u7=>
   cond (u7.1.1)
    ((OE t43 t1 AF AO AH b1 b2 b3 b4 b5 b6 b7 b8).bind fun u8=>
    R9 t1 t42 (AQ (t43+1)) u8.2.1.2.1 u8.2.1.2.2.2.2.2.1 u8.2.1.2.2.2.2.2.2.2.2.2.2.1 u8.2.2.1 u8.2.2.2.1 u8.2.2.2.2.1 u8.2.2.2.2.2.1 u8.2.2.2.2.2.2.1 u8.2.2.2.2.2.2.2.1 u8.2.2.2.2.2.2.2.2.1 u8.2.2.2.2.2.2.2.2.2.1 gz)
   (R9 t1 t42 (AQ (t43+1)) AF AO AH b1 b2 b3 b4 b5 b6 b7 b8 gz))
  (R9 t1 t42 (AQ (t43+1)) AF AO AH b1 b2 b3 b4 b5 b6 b7 b8 gz))else none)
 (gQ t1 (b6.length:Int) 0 AF AO AH b1 b2 b3 b4 b5 b6 b7 b8)
def NJ(R9:M_)(gQ:LZ)(t1 t73 t74 AF AO:Int)(AH:Bool)(b1:AAA)(b2:AAd)(b3:AAA)(b4:AAf)(b5:ABE)(b6:ABI)(b7:AAs)(b8:AA8):Option IY:=
 cond (decide (t74<t73))
  (if(0:Int)<=t74/\t74<(b6.length:Int)then(
  (JJ (b4,AO,()) ((b6.getD (t74.toNat) (0,0,[],[],false,[],())).2.1)).bind fun Ed=>
  (Bv Ed.2.1 t1).bind fun Md=>
  cond (Md.1.1)
   ((LU t74 t1 AF AO AH b1 b2 b3 b4 b5 b6 b7 b8).bind fun Nr=>
   gQ t1 t73 (AQ (t74+1)) Nr.2.1.2.1 Nr.2.1.2.2.2.2.2.1 Nr.2.1.2.2.2.2.2.2.2.2.2.2.1 Nr.2.2.1 Nr.2.2.2.1 Nr.2.2.2.2.1 Nr.2.2.2.2.2.1 Nr.2.2.2.2.2.2.1 Nr.2.2.2.2.2.2.2.1 Nr.2.2.2.2.2.2.2.2.1 Nr.2.2.2.2.2.2.2.2.2.1)
  (gQ t1 t73 (AQ (t74+1)) AF AO AH b1 b2 b3 b4 b5 b6 b7 b8))else none)
 (some ((0,()),(((),AF,(),(),(),AO,(),(),(),(),AH,()),b1,b2,b3,b4,b5,b6,b7,b8,())))
mutual
def Ew:Nat->M_
 |0=>fun _ _ _ _ _ _ _ _ _ _ _ _ _ _ _=>none
 |n+1=>OC (Ew n) (FN n)
def FN:Nat->LZ
 |0=>fun _ _ _ _ _ _ _ _ _ _ _ _ _ _=>none
 |n+1=>NJ (Ew n) (FN n)
end
def Uu(R9:M_)(gQ:LZ)(p1 AF AO:Int)(AH:Bool)(b1:AAA)(b2:AAd)(b3:AAA)(b4:AAf)(b5:ABE)(b6:ABI)(b7:AAs)(b8:AA8):Option IY:=
 (EP (b1,AF,b2,b3,b4,AO,b5,b6,b7,b8,AH,()) p1).bind fun u1=>
 cond (u1.1.1 !=0)
  (some ((u1.1.1,()),(((),AF,(),(),(),AO,(),(),(),(),AH,()),b1,b2,b3,b4,b5,b6,b7,b8,())))
 (if(0:Int)<=p1/\p1<(b2.length:Int)then(
 (Pz ((b2.getD (p1.toNat) ([],[],0,())).1,(b2.getD (p1.toNat) ([],[],0,())).2.1,(b2.getD (p1.toNat) ([],[],0,())).2.2.1,())).bind fun u2=>
 cond (!u2.1.1.2.1)
  (some ((4,()),(((),AF,(),(),(),AO,(),(),(),(),AH,()),b1,b2,b3,b4,b5,b6,b7,b8,())))
 (if(0:Int)<=p1/\p1<(b2.length:Int)then(
 R9 p1 (b5.length:Int) 0 AF AO AH b1 (b2.set (p1.toNat) (u2.2.1,u2.2.2.1,u2.1.1.1.2.2.1,())) b3 b4 b5 b6 b7 b8 u2.1.1.1.2.2.1)else none))else none)
def RM(p1 AF AO:Int)(AH:Bool)(b1:AAA)(b2:AAd)(b3:AAA)(b4:AAf)(b5:ABE)(b6:ABI)(b7:AAs)(b8:AA8):Option IY:=Uu (Ew AW) (FN AW) p1 AF AO AH b1 b2 b3 b4 b5 b6 b7 b8
abbrev kM:Type:=AB2×AFO
def QP(p1 p2 AF AO:Int)(AH:Bool)(b1:AAA)(b2:AAd)(b3:AAA)(b4:AAf)(b5:ABE)(b6:ABI)(b7:AAs)(b8:AA8):Option kM:=
 (EP (b1,AF,b2,b3,b4,AO,b5,b6,b7,b8,AH,()) p1).bind fun u1=>
 cond (u1.1.1 !=0)
  (some ((u1.1.1,()),(((),AF,(),(),(),AO,(),(),(),(),AH,()),b1,b2,b3,b4,b5,b6,b7,b8,())))
 (if(0:Int)<=p1/\p1<(b2.length:Int)then(
 (NP ((b2.getD (p1.toNat) ([],[],0,())).1,(b2.getD (p1.toNat) ([],[],0,())).2.1,(b2.getD (p1.toNat) ([],[],0,())).2.2.1,()) p2).bind fun u2=>
 if(0:Int)<=p1/\p1<(b2.length:Int)then(
 (KX u2.1.1.2.1).bind fun u4=>
 some ((u4.1.1,()),(((),AF,(),(),(),AO,(),(),(),(),AH,()),b1,(b2.set (p1.toNat) (u2.2.1,u2.2.2.1,u2.1.1.1.2.2.1,())),b3,b4,b5,b6,b7,b8,())))else none)else none)
abbrev iG:Type:=ABz×Unit
def Mu(p0:Int)(p1:AB2):Option iG:=
 some ((p0==p1.1,()),())
abbrev Cg:Type:=AB2×Unit
abbrev Da:Type:=List Int->AEn->Int->Int->Option Cg
def E8(R2:Da)(t0:AAA)(t1:AEn)(t7 t8:Int):Option Cg:=
 cond (decide (t8<t7))
  (if(0:Int)<=t8/\t8<(t0.length:Int)then(
  (Mu (t0.getD (t8.toNat) 0) t1.1).bind fun u2=>
  cond (u2.1.1)
   (some ((t8,()),()))
  (R2 t0 (t1.1,()) t7 (AQ (t8+1))))else none)
 (some (((-1),()),()))
def B7:Nat->Da
 |0=>fun _ _ _ _=>none
 |n+1=>E8 (B7 n)
def E9(R2:Da)(p0:AAA)(p1:AEn):Option Cg:=
 R2 p0 (p1.1,()) (p0.length:Int) 0
def Dz(p0:AAA)(p1:AEn):Option Cg:=E9 (B7 AW) p0 p1
abbrev Cd:Type:=ACL×AHi
abbrev DN:Type:=AEn->Int->Int->List Int->Option Cd
def Ef(R5:DN)(t1:AEn)(t5 t6:Int)(b0:AAA):Option Cd:=
 cond ((decide (t6<(b0.length:Int))))
  (if(0:Int)<=t6/\t6<(b0.length:Int)then(
  let x3:Int:=(b0.getD (t6.toNat) 0)
  (Mu x3 t1.1).bind fun u4=>
  cond (!u4.1.1)
   (if(0:Int)<=t5/\t5<(b0.length:Int)then(
   R5 (t1.1,()) (AQ (t5+1)) (AQ (t6+1)) (b0.set (t5.toNat) x3))else none)
  (R5 (t1.1,()) t5 (AQ (t6+1)) b0))else none)
 (if(0:Int)<=t5/\t5<=(b0.length:Int)/\(b0.length:Int)<=(b0.length:Int)then(
 let x6:AAA:=(b0.take (t5.toNat)++List.replicate (((b0.length:Int).toNat)-(t5.toNat)) 0++b0.drop ((t5.toNat)+(((b0.length:Int).toNat)-(t5.toNat))))
 if(0:Int)<=(0:Int)/\(0:Int)<=t5/\t5<=(x6.length:Int)then(
 some (((),()),((),((x6.drop 0).take ((t5.toNat)-0)),())))else none)else none)
def Bz:Nat->DN
 |0=>fun _ _ _ _=>none
 |n+1=>Ef (Bz n)
def Es(R5:DN)(p1:AEn)(b0:AAA):Option Cd:=
 (Dz b0 (p1.1,())).bind fun u1=>
 cond (u1.1.1==(-1))
  (some (((),()),((),b0,())))
 (R5 (p1.1,()) u1.1.1 (AQ (u1.1.1+1)) b0)
def Co(p1:AEn)(b0:AAA):Option Cd:=Es (Bz AW) p1 b0
abbrev ZA:Type:=ACL×ADH
def HV(p0:AAA)(p1:Int):Option ZA:=
 (DD p0).bind fun u1=>
 (Co ((p1,()),()) u1.2.1).bind fun u2=>
 some (((),()),(u2.2.2.1,()))
abbrev LX:Type:=AGV×AFk
abbrev O8:Type:=Int->AB3->Int->Int->Int->AB3->Int->AB3->Option LX
def S4(R5:O8)(t2:Int)(t19:AB3)(t20 t21 AK:Int)(b1:AB3)(Qm:Int)(b3:AB3):Option LX:=
 cond (decide (t21<t20))
  (if(0:Int)<=t21/\t21<(t19.length:Int)then(
  cond (!((t19.getD (t21.toNat) ([],[],false,())).2.2.1))
   ((HV ((t19.getD (t21.toNat) ([],[],false,())).2.1) t2).bind fun u5=>
   if(0:Int)<=t21/\t21<(b3.length:Int)then(
   R5 t2 t19 t20 (AQ (t21+1)) AK b1 Qm (b3.set (t21.toNat) ((b3.getD (t21.toNat) ([],[],false,())).1,u5.2.1,(b3.getD (t21.toNat) ([],[],false,())).2.2.1,())))else none)
  (R5 t2 t19 t20 (AQ (t21+1)) AK b1 Qm b3))else none)
 (some ((((Qm,(),()),true,()),()),(b3,())))
def Hu:Nat->O8
 |0=>fun _ _ _ _ _ _ _ _=>none
 |n+1=>S4 (Hu n)
def Sk(R5:O8)(p0:ABx)(p1:AB5)(p2:Int):Option LX:=
 (GW (p0.1,p0.2.1,()) (p1.1,p1.2.1,())).bind fun u1=>
 cond (!u1.1.1)
  (some ((((0,(),()),false,()),()),([],())))
 ((Fv (p1.1,p1.2.1,())).bind fun u2=>
 R5 p2 p1.2.1 (p1.2.1.length:Int) 0 0 [] u2.1.1.1 u2.2.1)
def Oe(p0:ABx)(p1:AB5)(p2:Int):Option LX:=Sk (Hu AW) p0 p1 p2
abbrev OY:Type:=AFl×AFA
abbrev Ru:Type:=Int->List AAA->Int->Int->Int->Int->Bool->List Int->ABd->List AAA->Int->Int->Bool->List Int->ABd->List AAA->Option OY
def Uq(R5:Ru)(t2:Int)(t19:List AAA)(t20 t21 AK AF:Int)(BI:Bool)(b1:AAA)(b2:ABd)(b3:List AAA)(ABO AAO:Int)(ABC:Bool)(b5:AAA)(b6:ABd)(b7:List AAA):Option OY:=
 cond (decide (t21<t20))
  (if(0:Int)<=t21/\t21<(t19.length:Int)then(
  (HV (t19.getD (t21.toNat) []) t2).bind fun u4=>
  if(0:Int)<=t21/\t21<(b7.length:Int)then(
  R5 t2 t19 t20 (AQ (t21+1)) AK AF BI b1 b2 b3 ABO AAO ABC b5 b6 (b7.set (t21.toNat) u4.2.1))else none)else none)
 (some ((((ABO,AAO,(),(),ABC,(),()),true,()),()),(b5,b6,b7,())))
def Jx:Nat->Ru
 |0=>fun _ _ _ _ _ _ _ _ _ _ _ _ _ _ _ _=>none
 |n+1=>Uq (Jx n)
def U6(R5:Ru)(p0:ABx)(p1:AB1)(p2:Int):Option OY:=
 (Ht (p0.1,p0.2.1,()) (p1.1,p1.2.1,p1.2.2.1,p1.2.2.2.1,p1.2.2.2.2.1,p1.2.2.2.2.2.1,())).bind fun u1=>
 cond (!u1.1.1)
  (some ((((0,0,(),(),false,(),()),false,()),()),([],[],[],())))
 ((Gd (p1.1,p1.2.1,p1.2.2.1,p1.2.2.2.1,p1.2.2.2.2.1,p1.2.2.2.2.2.1,())).bind fun u2=>
 R5 p2 p1.2.2.2.2.2.1 (p1.2.2.2.2.2.1.length:Int) 0 0 0 false [] [] [] u2.1.1.1 u2.1.1.2.1 u2.1.1.2.2.2.2.1 u2.2.1 u2.2.2.1 u2.2.2.2.1)
def RQ(p0:ABx)(p1:AB1)(p2:Int):Option OY:=U6 (Jx AW) p0 p1 p2
abbrev Gm:Type:=AB2×AI7
abbrev NI:Type:=Int->Int->Int->Int->Int->Bool->List Int->AAd->List Int->AAf->ABE->ABI->AAs->AA8->List Int->Option Gm
abbrev Lb:Type:=Int->Int->Int->Int->Int->Bool->List Int->AAd->List Int->AAf->ABE->ABI->AAs->AA8->List Int->Option Gm
def Uw(R7:NI)(R12:Lb)(t1 t36 t37 AF AO:Int)(AH:Bool)(b1:AAA)(b2:AAd)(b3:AAA)(b4:AAf)(b5:ABE)(b6:ABI)(b7:AAs)(b8:AA8)(b9:AAA):Option Gm:=
 cond (decide (t37<t36))
  (if(0:Int)<=t37/\t37<(b5.length:Int)then(
  (Oe (b1,AF,()) ((b5.getD (t37.toNat) (0,[],())).1,(b5.getD (t37.toNat) (0,[],())).2.1,()) t1).bind fun u4=>
  if(0:Int)<=t37/\t37<(b5.length:Int)then(
  R7 t1 t36 (AQ (t37+1)) AF AO AH b1 b2 b3 b4 (b5.set (t37.toNat) (u4.1.1.1.1,u4.2.1,())) b6 b7 b8 b9)else none)else none)
 (R12 t1 (b6.length:Int) 0 AF AO AH b1 b2 b3 b4 b5 b6 b7 b8 b9)
def Tl(R7:NI)(R12:Lb)(t1 t63 t64 AF AO:Int)(AH:Bool)(b1:AAA)(b2:AAd)(b3:AAA)(b4:AAf)(b5:ABE)(b6:ABI)(b7:AAs)(b8:AA8)(b9:AAA):Option Gm:=
 cond (decide (t64<t63))
  (if(0:Int)<=t64/\t64<(b6.length:Int)then(
  (RQ (b1,AF,()) ((b6.getD (t64.toNat) (0,0,[],[],false,[],())).1,(b6.getD (t64.toNat) (0,0,[],[],false,[],())).2.1,(b6.getD (t64.toNat) (0,0,[],[],false,[],())).2.2.1,(b6.getD (t64.toNat) (0,0,[],[],false,[],())).2.2.2.1,(b6.getD (t64.toNat) (0,0,[],[],false,[],())).2.2.2.2.1,(b6.getD (t64.toNat) (0,0,[],[],false,[],())).2.2.2.2.2.1,()) t1).bind fun u6=>
  if(0:Int)<=t64/\t64<(b6.length:Int)then(
  R12 t1 t63 (AQ (t64+1)) AF AO AH b1 b2 b3 b4 b5 (b6.set (t64.toNat) (u6.1.1.1.1,u6.1.1.1.2.1,u6.2.1,u6.2.2.1,u6.1.1.1.2.2.2.2.1,u6.2.2.2.1,())) b7 b8 b9)else none)else none)
 (cond (AH)
  (some ((0,()),(((),AF,(),(),(),AO,(),(),(),(),true,()),b1,b2,(),b4,b5,b6,b7,b8,b9,())))
 ((Gr (b1,AF,()) b9).bind fun u8=>
 some ((0,()),(((),AF,(),(),(),AO,(),(),(),(),u8.1.1,()),b1,b2,(),b4,b5,b6,b7,b8,b9,()))))
mutual
def HU:Nat->NI
 |0=>fun _ _ _ _ _ _ _ _ _ _ _ _ _ _ _=>none
 |n+1=>Uw (HU n) (G7 n)
def G7:Nat->Lb
 |0=>fun _ _ _ _ _ _ _ _ _ _ _ _ _ _ _=>none
 |n+1=>Tl (HU n) (G7 n)
end
def U5(R7:NI)(R12:Lb)(p1 AF AO:Int)(AH:Bool)(b1:AAA)(b2:AAd)(b3:AAA)(b4:AAf)(b5:ABE)(b6:ABI)(b7:AAs)(b8:AA8):Option Gm:=
 (EP (b1,AF,b2,b3,b4,AO,b5,b6,b7,b8,AH,()) p1).bind fun u1=>
 cond (u1.1.1 !=0)
  (some ((u1.1.1,()),(((),AF,(),(),(),AO,(),(),(),(),AH,()),b1,b2,(),b4,b5,b6,b7,b8,b3,())))
 (if(0:Int)<=p1/\p1<(b2.length:Int)then(
 (K_ b3 p1).bind fun u3=>
 R7 p1 (b5.length:Int) 0 AF AO AH b1 (b2.set (p1.toNat) ([],[],0,())) b3 b4 b5 b6 b7 b8 u3.2.1)else none)
def Ra(p1 AF AO:Int)(AH:Bool)(b1:AAA)(b2:AAd)(b3:AAA)(b4:AAf)(b5:ABE)(b6:ABI)(b7:AAs)(b8:AA8):Option Gm:=U5 (HU AW) (G7 AW) p1 AF AO AH b1 b2 b3 b4 b5 b6 b7 b8
abbrev wE:Type:=ABz×Unit
def bC(p0:ABx)(p1:AAA):Option wE:=
 (D2 (p0.1,p0.2.1,()) p1).bind fun u1=>
 cond (u1.1.1)
  ((Gr (p0.1,p0.2.1,()) p1).bind fun u2=>
  some ((!u2.1.1,()),()))
 (some ((false,()),()))
abbrev QA:Type:=ACL×AF9
abbrev V2:Type:=AAd->Int->Int->ABd->Option QA
abbrev Vx:Type:=AAd->Int->Int->ABd->Int->Int->ABd->Option QA
def dG(R3:V2)(R8:Vx)(t9:AAd)(t10 t11:Int)(b0:ABd):Option QA:=
 cond (decide (t11<t10))
  (if(0:Int)<=t11/\t11<(t9.length:Int)then(
  (FA ((t9.getD (t11.toNat) ([],[],0,())).1,(t9.getD (t11.toNat) ([],[],0,())).2.1,(t9.getD (t11.toNat) ([],[],0,())).2.2.1,())).bind fun u1=>
  cond (!u1.1.1)
   (some (((),()),([],())))
  (R8 t9 t10 t11 ((t9.getD (t11.toNat) ([],[],0,())).1) (((t9.getD (t11.toNat) ([],[],0,())).1).length:Int) 0 b0))else none)
 (some (((),()),(b0,())))
def dy(R3:V2)(R8:Vx)(t9:AAd)(t10 t11:Int)(t19:ABd)(t20 t21:Int)(b0:ABd):Option QA:=
 cond (decide (t21<t20))
  (if(0:Int)<=t21/\t21<(t19.length:Int)then(
  (Yy ((t19.getD (t21.toNat) (0,0,false,[],())).1,(t19.getD (t21.toNat) (0,0,false,[],())).2.1,(t19.getD (t21.toNat) (0,0,false,[],())).2.2.1,(t19.getD (t21.toNat) (0,0,false,[],())).2.2.2.1,()) b0).bind fun u3=>
  R8 t9 t10 t11 t19 t20 (AQ (t21+1)) u3.2.2.1)else none)
 (R3 t9 t10 (AQ (t11+1)) b0)
mutual
def Nz:Nat->V2
 |0=>fun _ _ _ _=>none
 |n+1=>dG (Nz n) (Nx n)
def Nx:Nat->Vx
 |0=>fun _ _ _ _ _ _ _=>none
 |n+1=>dy (Nz n) (Nx n)
end
def nJ(R3:V2)(R8:Vx)(p0:AAd):Option QA:=
 R3 p0 (p0.length:Int) 0 []
def j6(p0:AAd):Option QA:=nJ (Nz AW) (Nx AW) p0
abbrev Wt:Type:=AFH×AIm
abbrev et:Type:=List Int->Int->Int->Int->AAd->Int->ABd->ABd->AAd->Option Wt
def gD(R5:et)(t2:AAA)(t4 t37 t38:Int)(b0:AAd)(CM:Int)(b2 b3:ABd)(b4:AAd):Option Wt:=
 cond (decide (t38<t37))
  (if(0:Int)<=t38/\t38<(b0.length:Int)then(
  (Bv t2 t38).bind fun u4=>
  cond (u4.1.1)
   (R5 t2 t4 t37 (AQ (t38+1)) b0 CM b2 b3 b4)
  ((FA ((b0.getD (t38.toNat) ([],[],0,())).1,(b0.getD (t38.toNat) ([],[],0,())).2.1,(b0.getD (t38.toNat) ([],[],0,())).2.2.1,())).bind fun u5=>
  cond (!u5.1.1)
   (some (((((),(),0,()),false,()),()),(b0,[],[],())))
  (if b4.length+1<=CN then(
  R5 t2 t4 t37 (AQ (t38+1)) b0 CM b2 b3 (b4++[((b0.getD (t38.toNat) ([],[],0,())).1,(b0.getD (t38.toNat) ([],[],0,())).2.1,(b0.getD (t38.toNat) ([],[],0,())).2.2.1,())]))else none)))else none)
 ((j6 b4).bind fun u7=>
 (FA (u7.2.1,[],t4,())).bind fun u8=>
 cond (!u8.1.1)
  (some (((((),(),0,()),false,()),()),(b0,[],[],())))
 (some (((((),(),t4,()),true,()),()),(b0,u7.2.1,[],()))))
def Ug:Nat->et
 |0=>fun _ _ _ _ _ _ _ _ _=>none
 |n+1=>gD (Ug n)
def fX(R5:et)(p0:ABx)(p2:AAA)(p3 p4:Int)(b0:AAd):Option Wt:=
 cond (((b0.length:Int) !=(p0.1.length:Int)))
  (some (((((),(),0,()),false,()),()),(b0,[],[],())))
 ((bC (p0.1,p0.2.1,()) p2).bind fun u2=>
 cond (!u2.1.1)
  (some (((((),(),0,()),false,()),()),(b0,[],[],())))
 ((Bv p2 p3).bind fun u3=>
 cond (!u3.1.1)
  (some (((((),(),0,()),false,()),()),(b0,[],[],())))
 (R5 p2 p4 (b0.length:Int) 0 b0 0 [] [] [])))
def dr(p0:ABx)(p2:AAA)(p3 p4:Int)(b0:AAd):Option Wt:=fX (Ug AW) p0 p2 p3 p4 b0
abbrev lz:Type:=AB2×AI7
def KY(p1 AF AO:Int)(AH:Bool)(b1:AAA)(b2:AAd)(b3:AAA)(b4:AAf)(b5:ABE)(b6:ABI)(b7:AAs)(b8:AA8):Option lz:=
 (A_ p1 0 (AQ ((b2.length:Int)-1))).bind fun u2=>
 cond (!u2.1.1)
  (some ((2,()),(((),AF,(),(),(),AO,(),(),(),(),AH,()),b1,b2,(),b4,b5,b6,b7,b8,b3,())))
 ((C7 (b1,AF,b2,b3,b4,AO,b5,b6,b7,b8,AH,()) p1).bind fun u3=>
 cond (!u3.1.1)
  (some ((2,()),(((),AF,(),(),(),AO,(),(),(),(),AH,()),b1,b2,(),b4,b5,b6,b7,b8,b3,())))
 (let x4:Int:=AQ ((b4.length:Int)-1)
 (dr (b1,AF,()) b3 p1 (if 0>x4 then 0 else x4) b2).bind fun u6=>
 cond (!u6.1.1.2.1)
  (some ((4,()),(((),AF,(),(),(),AO,(),(),(),(),AH,()),b1,u6.2.1,(),b4,b5,b6,b7,b8,b3,())))
 (if(0:Int)<=p1/\p1<(u6.2.1.length:Int)then(
 (HV b3 p1).bind fun u8=>
 some ((0,()),(((),AF,(),(),(),AO,(),(),(),(),AH,()),b1,(u6.2.1.set (p1.toNat) (u6.2.2.1,u6.2.2.2.1,u6.1.1.1.2.2.1,())),(),b4,b5,b6,b7,b8,u8.2.1,())))else none)))
abbrev tu:Type:=AGC×AFA
def lM(p0 p1:Int):Option tu:=
 some (((p1,p0,(),(),false,(),()),()),([],[],[],()))
abbrev bV:Type:=AB2×(AFd×List Int×AAd×List Int×AAf×ABE×Unit×AAs×AA8×ABI×Unit)
def RJ(AF AO:Int)(AH:Bool)(b1:AAA)(b2:AAd)(b3:AAA)(b4:AAf)(b5:ABE)(b6:ABI)(b7:AAs)(b8:AA8):Option bV:=
 (L3 (b4,AO,())).bind fun u1=>
 cond ((decide ((b4.length:Int)<2)))
  (some ((2,()),(((),AF,(),(),(),AO,(),(),(),(),AH,()),b1,b2,b3,b4,b5,(),b7,b8,b6,())))
 (cond ((u1.1.1==(b4.length:Int)))
  (some ((2,()),(((),AF,(),(),(),AO,(),(),(),(),AH,()),b1,b2,b3,b4,b5,(),b7,b8,b6,())))
 (cond ((decide ((b6.length:Int)>0)))
  (some ((4,()),(((),AF,(),(),(),AO,(),(),(),(),AH,()),b1,b2,b3,b4,b5,(),b7,b8,b6,())))
 ((lM u1.1.1 (b4.length:Int)).bind fun u5=>
 some ((0,()),(((),AF,(),(),(),AO,(),(),(),(),AH,()),b1,b2,b3,b4,b5,(),b7,b8,[(u5.1.1.1,u5.1.1.2.1,u5.2.1,u5.2.2.1,u5.1.1.2.2.2.2.1,u5.2.2.2.1,())],())))))
abbrev dM:Type:=AFH×AEz
def Pr(p0:ADA)(p1:Int):Option dM:=
 (Pz (p0.1,p0.2.1,p0.2.2.1,())).bind fun u1=>
 cond (!u1.1.1.2.1)
  ((Dj (p0.1,p0.2.1,p0.2.2.1,())).bind fun u2=>
  some (((((),(),u2.1.1.2.2.1,()),false,()),()),(u2.2.1,u2.2.2.1,())))
 ((A_ p1 0 30).bind fun u3=>
 cond (!u3.1.1)
  ((Dj (p0.1,p0.2.1,p0.2.2.1,())).bind fun u4=>
  some (((((),(),u4.1.1.2.2.1,()),false,()),()),(u4.2.1,u4.2.2.1,())))
 (some (((((),(),(if p1>u1.1.1.1.2.2.1 then p1 else u1.1.1.1.2.2.1),()),true,()),()),(u1.2.1,u1.2.2.1,()))))
abbrev NW:Type:=ACL×AF9
abbrev Vq:Type:=Int->ABd->Int->Int->ABd->Option NW
def YE(R5:Vq)(t1:Int)(t14:ABd)(t15 t16:Int)(b0:ABd):Option NW:=
 cond (decide (t16<t15))
  (if(0:Int)<=t16/\t16<(t14.length:Int)then(
  (EU ((t14.getD (t16.toNat) (0,0,false,[],())).1)).bind fun u3=>
  cond (u3.1.1==t1)
   (if b0.length+1<=CN then(
   R5 t1 t14 t15 (AQ (t16+1)) (b0++[((t14.getD (t16.toNat) (0,0,false,[],())).1,(t14.getD (t16.toNat) (0,0,false,[],())).2.1,(t14.getD (t16.toNat) (0,0,false,[],())).2.2.1,(t14.getD (t16.toNat) (0,0,false,[],())).2.2.2.1,())]))else none)
  (R5 t1 t14 t15 (AQ (t16+1)) b0))else none)
 (some (((),()),(b0,())))
def Lm:Nat->Vq
 |0=>fun _ _ _ _ _=>none
 |n+1=>YE (Lm n)
def YB(R5:Vq)(p0:ADA)(p1:Int):Option NW:=
 (FA (p0.1,p0.2.1,p0.2.2.1,())).bind fun u1=>
 cond (!u1.1.1)
  (some (((),()),([],())))
 (R5 p1 p0.1 (p0.1.length:Int) 0 [])
def Q1(p0:ADA)(p1:Int):Option NW:=YB (Lm AW) p0 p1
abbrev NS:Type:=AFl×AFA
abbrev Va:Type:=ABd->Int->Int->List Int->Int->Int->Int->List Int->ABd->Bool->List AAA->Int->Int->Bool->List Int->ABd->List AAA->Int->Int->Bool->List Int->ABd->List AAA->Option NS
def Xz(R6:Va)(t31:ABd)(t32 t33:Int)(AK:AAA)(AF Bn BL:Int)(CM:AAA)(EG:ABd)(HF:Bool)(FI:List AAA)(Qm SC:Int)(ya:Bool)(b3:AAA)(b4:ABd)(b5:List AAA)(yr yX:Int)(zI:Bool)(b7:AAA)(b8:ABd)(b9:List AAA):Option NS:=
 cond (decide (t33<t32))
  (if(0:Int)<=t33/\t33<(t31.length:Int)then(
  (EU ((t31.getD (t33.toNat) (0,0,false,[],())).1)).bind fun u7=>
  cond (u7.1.1==BL)
   ((Yy ((t31.getD (t33.toNat) (0,0,false,[],())).1,(t31.getD (t33.toNat) (0,0,false,[],())).2.1,(t31.getD (t33.toNat) (0,0,false,[],())).2.2.1,(t31.getD (t33.toNat) (0,0,false,[],())).2.2.2.1,()) b8).bind fun u8=>
   R6 t31 t32 (AQ (t33+1)) AK AF Bn BL CM EG HF FI Qm SC ya b3 b4 b5 yr yX zI b7 u8.2.2.1 b9)
  (R6 t31 t32 (AQ (t33+1)) AK AF Bn BL CM EG HF FI Qm SC ya b3 b4 b5 yr yX zI b7 b8 b9))else none)
 ((Ht (AK,AF,()) (yr,yX,b7,b8,zI,b9,())).bind fun u9=>
 cond (!u9.1.1)
  ((Gd (Bn,BL,CM,EG,HF,FI,())).bind fun Dk=>
  some ((((Dk.1.1.1,Dk.1.1.2.1,(),(),Dk.1.1.2.2.2.2.1,(),()),false,()),()),(Dk.2.1,Dk.2.2.1,Dk.2.2.2.1,())))
 (some ((((yr,yX,(),(),zI,(),()),true,()),()),(b7,b8,b9,()))))
def MK:Nat->Va
 |0=>fun _ _ _ _ _ _ _ _ _ _ _ _ _ _ _ _ _ _ _ _ _ _ _=>none
 |n+1=>Xz (MK n)
def YA(R6:Va)(p0:ABx)(p1:AB1)(p2:Int)(p3:ABd):Option NS:=
 (Ht (p0.1,p0.2.1,()) (p1.1,p1.2.1,p1.2.2.1,p1.2.2.2.1,p1.2.2.2.2.1,p1.2.2.2.2.2.1,())).bind fun u1=>
 cond (!u1.1.1)
  ((Em (p0.1,p0.2.1,()) (p1.1,p1.2.1,p1.2.2.1,p1.2.2.2.1,p1.2.2.2.2.1,p1.2.2.2.2.2.1,())).bind fun u2=>
  some ((((u2.1.1.1,u2.1.1.2.1,(),(),u2.1.1.2.2.2.2.1,(),()),false,()),()),(u2.2.1,u2.2.2.1,u2.2.2.2.1,())))
 (cond (p1.2.2.2.2.1)
  ((Em (p0.1,p0.2.1,()) (p1.1,p1.2.1,p1.2.2.1,p1.2.2.2.1,p1.2.2.2.2.1,p1.2.2.2.2.2.1,())).bind fun u3=>
  some ((((u3.1.1.1,u3.1.1.2.1,(),(),u3.1.1.2.2.2.2.1,(),()),false,()),()),(u3.2.1,u3.2.2.1,u3.2.2.2.1,())))
 ((Gd (p1.1,p1.2.1,p1.2.2.1,p1.2.2.2.1,p1.2.2.2.2.1,p1.2.2.2.2.2.1,())).bind fun u4=>
 (K_ u4.2.1 p2).bind fun u5=>
 R6 p3 (p3.length:Int) 0 p0.1 p0.2.1 p1.1 p1.2.1 p1.2.2.1 p1.2.2.2.1 p1.2.2.2.2.1 p1.2.2.2.2.2.1 0 0 false [] [] [] u4.1.1.1 u4.1.1.2.1 u4.1.1.2.2.2.2.1 u5.2.1 u4.2.2.1 u4.2.2.2.1))
def Q3(p0:ABx)(p1:AB1)(p2:Int)(p3:ABd):Option NS:=YA (MK AW) p0 p1 p2 p3
abbrev lI:Type:=AB2×AFO
def Ki(p1 AF AO:Int)(AH:Bool)(b1:AAA)(b2:AAd)(b3:AAA)(b4:AAf)(b5:ABE)(b6:ABI)(b7:AAs)(b8:AA8):Option lI:=
 cond (((b6.length:Int)==0))
  (some ((2,()),(((),AF,(),(),(),AO,(),(),(),(),AH,()),b1,b2,b3,b4,b5,b6,b7,b8,())))
 (if(0:Int)<=(0:Int)/\(0:Int)<(b6.length:Int)then(
 (Df (b1,AF,b2,b3,b4,AO,b5,b6,b7,b8,AH,()) p1 ((b6.getD 0 (0,0,[],[],false,[],())).2.1)).bind fun u3=>
 cond (u3.1.1 !=0)
  (some ((u3.1.1,()),(((),AF,(),(),(),AO,(),(),(),(),AH,()),b1,b2,b3,b4,b5,b6,b7,b8,())))
 (if(0:Int)<=p1/\p1<(b2.length:Int)then(
 (Pr ((b2.getD (p1.toNat) ([],[],0,())).1,(b2.getD (p1.toNat) ([],[],0,())).2.1,(b2.getD (p1.toNat) ([],[],0,())).2.2.1,()) (AQ (((b6.getD 0 (0,0,[],[],false,[],())).1)-1))).bind fun u5=>
 (Q1 (u5.2.1,u5.2.2.1,u5.1.1.1.2.2.1,()) ((b6.getD 0 (0,0,[],[],false,[],())).2.1)).bind fun u7=>
 (Q3 (b1,AF,()) ((b6.getD 0 (0,0,[],[],false,[],())).1,(b6.getD 0 (0,0,[],[],false,[],())).2.1,(b6.getD 0 (0,0,[],[],false,[],())).2.2.1,(b6.getD 0 (0,0,[],[],false,[],())).2.2.2.1,(b6.getD 0 (0,0,[],[],false,[],())).2.2.2.2.1,(b6.getD 0 (0,0,[],[],false,[],())).2.2.2.2.2.1,()) p1 u7.2.1).bind fun u8=>
 cond (!u5.1.1.2.1)
  (some ((4,()),(((),AF,(),(),(),AO,(),(),(),(),AH,()),b1,b2,b3,b4,b5,b6,b7,b8,())))
 (cond (!u8.1.1.2.1)
  (some ((4,()),(((),AF,(),(),(),AO,(),(),(),(),AH,()),b1,b2,b3,b4,b5,b6,b7,b8,())))
 (if(0:Int)<=p1/\p1<(b2.length:Int)then(
 if(0:Int)<=(0:Int)/\(0:Int)<(b6.length:Int)then(
 some ((0,()),(((),AF,(),(),(),AO,(),(),(),(),AH,()),b1,(b2.set (p1.toNat) (u5.2.1,u5.2.2.1,u5.1.1.1.2.2.1,())),b3,b4,b5,(b6.set 0 (u8.1.1.1.1,u8.1.1.1.2.1,u8.2.1,u8.2.2.1,u8.1.1.1.2.2.2.2.1,u8.2.2.2.1,())),b7,b8,())))else none)else none)))else none))else none)
abbrev fb:Type:=AFl×AFA
def Q7(p0:ABx)(p1:AB1)(p2:AAA):Option fb:=
 (Ht (p0.1,p0.2.1,()) (p1.1,p1.2.1,p1.2.2.1,p1.2.2.2.1,p1.2.2.2.2.1,p1.2.2.2.2.2.1,())).bind fun u1=>
 cond (!u1.1.1)
  ((Em (p0.1,p0.2.1,()) (p1.1,p1.2.1,p1.2.2.1,p1.2.2.2.1,p1.2.2.2.2.1,p1.2.2.2.2.2.1,())).bind fun u2=>
  some ((((u2.1.1.1,u2.1.1.2.1,(),(),u2.1.1.2.2.2.2.1,(),()),false,()),()),(u2.2.1,u2.2.2.1,u2.2.2.2.1,())))
 (cond (p1.2.2.2.2.1)
  ((Em (p0.1,p0.2.1,()) (p1.1,p1.2.1,p1.2.2.1,p1.2.2.2.1,p1.2.2.2.2.1,p1.2.2.2.2.2.1,())).bind fun u3=>
  some ((((u3.1.1.1,u3.1.1.2.1,(),(),u3.1.1.2.2.2.2.1,(),()),false,()),()),(u3.2.1,u3.2.2.1,u3.2.2.2.1,())))
 ((Ny p1.2.2.1 p2).bind fun u4=>
 (HC (p0.1,p0.2.1,()) p2 u4.2.1).bind fun u5=>
 cond (!u5.1.1)
  ((Em (p0.1,p0.2.1,()) (p1.1,p1.2.1,p1.2.2.1,p1.2.2.2.1,p1.2.2.2.2.1,p1.2.2.2.2.2.1,())).bind fun u6=>
  some ((((u6.1.1.1,u6.1.1.2.1,(),(),u6.1.1.2.2.2.2.1,(),()),false,()),()),(u6.2.1,u6.2.2.1,u6.2.2.2.1,())))
 ((Gd (p1.1,p1.2.1,p1.2.2.1,p1.2.2.2.1,p1.2.2.2.2.1,p1.2.2.2.2.2.1,())).bind fun u7=>
 (Th (p1.1,p1.2.1,p1.2.2.1,p1.2.2.2.1,p1.2.2.2.2.1,p1.2.2.2.2.2.1,())).bind fun u8=>
 if(0:Int)<=u8.1.1/\u8.1.1<=u8.1.1/\u8.1.1<=(CN:Int)then(
 some ((((u7.1.1.1,u7.1.1.2.1,(),(),true,(),()),true,()),()),(u7.2.1,u7.2.2.1,(List.replicate (u8.1.1.toNat) []),())))else none)))
abbrev nC:Type:=AB2×AFO
def Ke(AF AO:Int)(AH:Bool)(b1:AAA)(b2:AAd)(b3:AAA)(b4:AAf)(b5:ABE)(b6:ABI)(b7:AAs)(b8:AA8):Option nC:=
 cond (((b6.length:Int)==0))
  (some ((2,()),(((),AF,(),(),(),AO,(),(),(),(),AH,()),b1,b2,b3,b4,b5,b6,b7,b8,())))
 (if(0:Int)<=(0:Int)/\(0:Int)<(b6.length:Int)then(
 if(0:Int)<=(0:Int)/\(0:Int)<(b6.length:Int)then(
 (JJ (b4,AO,()) ((b6.getD 0 (0,0,[],[],false,[],())).2.1)).bind fun u3=>
 (Q7 (b1,AF,()) ((b6.getD 0 (0,0,[],[],false,[],())).1,(b6.getD 0 (0,0,[],[],false,[],())).2.1,(b6.getD 0 (0,0,[],[],false,[],())).2.2.1,(b6.getD 0 (0,0,[],[],false,[],())).2.2.2.1,(b6.getD 0 (0,0,[],[],false,[],())).2.2.2.2.1,(b6.getD 0 (0,0,[],[],false,[],())).2.2.2.2.2.1,()) u3.2.1).bind fun u4=>
 if(0:Int)<=(0:Int)/\(0:Int)<(b6.length:Int)then(
 (KX u4.1.1.2.1).bind fun u6=>
 some ((u6.1.1,()),(((),AF,(),(),(),AO,(),(),(),(),AH,()),b1,b2,b3,b4,b5,(b6.set 0 (u4.1.1.1.1,u4.1.1.1.2.1,u4.2.1,u4.2.2.1,u4.1.1.1.2.2.2.2.1,u4.2.2.2.1,())),b7,b8,())))else none)else none)else none)
abbrev nu:Type:=AB2×AFO
def TX(p1 p2 AF AO:Int)(AH:Bool)(b1:AAA)(b2:AAd)(b3:AAA)(b4:AAf)(b5:ABE)(b6:ABI)(b7:AAs)(b8:AA8):Option nu:=
 cond (((b6.length:Int)==0))
  (some ((2,()),(((),AF,(),(),(),AO,(),(),(),(),AH,()),b1,b2,b3,b4,b5,b6,b7,b8,())))
 (if(0:Int)<=(0:Int)/\(0:Int)<(b6.length:Int)then(
 (J0 ((b6.getD 0 (0,0,[],[],false,[],())).1,(b6.getD 0 (0,0,[],[],false,[],())).2.1,(b6.getD 0 (0,0,[],[],false,[],())).2.2.1,(b6.getD 0 (0,0,[],[],false,[],())).2.2.2.1,(b6.getD 0 (0,0,[],[],false,[],())).2.2.2.2.1,(b6.getD 0 (0,0,[],[],false,[],())).2.2.2.2.2.1,()) p1).bind fun u2=>
 cond (!u2.1.1.2.1)
  (some ((2,()),(((),AF,(),(),(),AO,(),(),(),(),AH,()),b1,b2,b3,b4,b5,b6,b7,b8,())))
 (if(0:Int)<=(0:Int)/\(0:Int)<(b6.length:Int)then(
 (Df (b1,AF,b2,b3,b4,AO,b5,b6,b7,b8,AH,()) p2 ((b6.getD 0 (0,0,[],[],false,[],())).2.1)).bind fun u4=>
 cond (u4.1.1 !=0)
  (some ((u4.1.1,()),(((),AF,(),(),(),AO,(),(),(),(),AH,()),b1,b2,b3,b4,b5,b6,b7,b8,())))
 ((L0 p2 (u2.1.1.1.1,u2.1.1.1.2.1,u2.1.1.1.2.2.1,u2.1.1.1.2.2.2.1,()) AF AO AH b1 b2 b3 b4 b5 b6 b7 b8).bind fun u5=>
 some ((u5.1.1,()),(((),u5.2.1.2.1,(),(),(),u5.2.1.2.2.2.2.2.1,(),(),(),(),u5.2.1.2.2.2.2.2.2.2.2.2.2.1,()),u5.2.2.1,u5.2.2.2.1,u5.2.2.2.2.1,u5.2.2.2.2.2.1,u5.2.2.2.2.2.2.1,u5.2.2.2.2.2.2.2.1,u5.2.2.2.2.2.2.2.2.1,u5.2.2.2.2.2.2.2.2.2.1,()))))else none))else none)
abbrev Lg:Type:=ABz×Unit
abbrev Tr:Type:=List AAA->Int->Int->List Int->Int->Option Lg
def XJ(R4:Tr)(t17:List AAA)(t18 t19:Int)(AK:AAA)(AF:Int):Option Lg:=
 cond (decide (t19<t18))
  (if(0:Int)<=t19/\t19<(t17.length:Int)then(
  (Gr (AK,AF,()) (t17.getD (t19.toNat) [])).bind fun u3=>
  cond (!u3.1.1)
   (some ((false,()),()))
  (R4 t17 t18 (AQ (t19+1)) AK AF))else none)
 (some ((true,()),()))
def Kq:Nat->Tr
 |0=>fun _ _ _ _ _=>none
 |n+1=>XJ (Kq n)
def XM(R4:Tr)(p0:ABx)(p1:AB1):Option Lg:=
 (Ht (p0.1,p0.2.1,()) (p1.1,p1.2.1,p1.2.2.1,p1.2.2.2.1,p1.2.2.2.2.1,p1.2.2.2.2.2.1,())).bind fun u1=>
 cond (!u1.1.1)
  (some ((false,()),()))
 (cond (!p1.2.2.2.2.1)
  (some ((false,()),()))
 (R4 p1.2.2.2.2.2.1 (p1.2.2.2.2.2.1.length:Int) 0 p0.1 p0.2.1))
def PH(p0:ABx)(p1:AB1):Option Lg:=XM (Kq AW) p0 p1
abbrev fU:Type:=AG3×AFi
def Qw(p0:ABx)(p1:AB4)(p2 p3:Int):Option fU:=
 (L3 (p1.1,p1.2.1,())).bind fun u1=>
 (LL (p0.1,p0.2.1,()) (p1.1,p1.2.1,())).bind fun u2=>
 cond (!u2.1.1)
  ((EL (p0.1,p0.2.1,()) (p1.1,p1.2.1,())).bind fun u3=>
  some (((((),u3.1.1.2.1,()),false,()),()),(u3.2.1,())))
 (cond ((p2 !=(p1.1.length:Int)))
  ((EL (p0.1,p0.2.1,()) (p1.1,p1.2.1,())).bind fun u5=>
  some (((((),u5.1.1.2.1,()),false,()),()),(u5.2.1,())))
 (cond (u1.1.1==p2)
  ((EL (p0.1,p0.2.1,()) (p1.1,p1.2.1,())).bind fun u6=>
  some (((((),u6.1.1.2.1,()),false,()),()),(u6.2.1,())))
 ((A_ p3 0 60).bind fun u7=>
 cond (!u7.1.1)
  ((EL (p0.1,p0.2.1,()) (p1.1,p1.2.1,())).bind fun u8=>
  some (((((),u8.1.1.2.1,()),false,()),()),(u8.2.1,())))
 ((ES (p1.1,p1.2.1,())).bind fun u9=>
 if(0:Int)<=AQ (u1.1.1-1)/\AQ (u1.1.1-1)<(u9.2.1.length:Int)then(
 let x10:AAf:=(u9.2.1.set ((AQ (u1.1.1-1)).toNat) ((u9.2.1.getD ((AQ (u1.1.1-1)).toNat) ([],false,0,())).1,true,(u9.2.1.getD ((AQ (u1.1.1-1)).toNat) ([],false,0,())).2.2.1,()))
 if(0:Int)<=AQ (u1.1.1-1)/\AQ (u1.1.1-1)<(x10.length:Int)then(
 some (((((),u9.1.1.2.1,()),true,()),()),((x10.set ((AQ (u1.1.1-1)).toNat) ((x10.getD ((AQ (u1.1.1-1)).toNat) ([],false,0,())).1,(x10.getD ((AQ (u1.1.1-1)).toNat) ([],false,0,())).2.1,p3,())),())))else none)else none))))
abbrev aI:Type:=AB2×(AFd×List Int×AAd×List Int×Unit×ABE×Unit×AAs×AA8×AAf×ABI×Unit)
def Jk(AF AO:Int)(AH:Bool)(b1:AAA)(b2:AAd)(b3:AAA)(b4:AAf)(b5:ABE)(b6:ABI)(b7:AAs)(b8:AA8):Option aI:=
 cond (((b6.length:Int)==0))
  (some ((2,()),(((),AF,(),(),(),AO,(),(),(),(),AH,()),b1,b2,b3,(),b5,(),b7,b8,b4,b6,())))
 (if(0:Int)<=(0:Int)/\(0:Int)<(b6.length:Int)then(
 (PH (b1,AF,()) ((b6.getD 0 (0,0,[],[],false,[],())).1,(b6.getD 0 (0,0,[],[],false,[],())).2.1,(b6.getD 0 (0,0,[],[],false,[],())).2.2.1,(b6.getD 0 (0,0,[],[],false,[],())).2.2.2.1,(b6.getD 0 (0,0,[],[],false,[],())).2.2.2.2.1,(b6.getD 0 (0,0,[],[],false,[],())).2.2.2.2.2.1,())).bind fun u2=>
 cond (!u2.1.1)
  (some ((5,()),(((),AF,(),(),(),AO,(),(),(),(),AH,()),b1,b2,b3,(),b5,(),b7,b8,b4,b6,())))
 (if(0:Int)<=(0:Int)/\(0:Int)<(b6.length:Int)then(
 if(0:Int)<=(0:Int)/\(0:Int)<(b6.length:Int)then(
 (Qw (b1,AF,()) (b4,AO,()) ((b6.getD 0 (0,0,[],[],false,[],())).1) (((b6.getD 0 (0,0,[],[],false,[],())).2.2.2.2.2.1).length:Int)).bind fun u5=>
 cond (u5.1.1.2.1)
  ((KX u5.1.1.2.1).bind fun u6=>
  some ((u6.1.1,()),(((),AF,(),(),(),u5.1.1.1.2.1,(),(),(),(),AH,()),b1,b2,b3,(),b5,(),b7,b8,u5.2.1,[],())))
 ((KX u5.1.1.2.1).bind fun u7=>
 some ((u7.1.1,()),(((),AF,(),(),(),AO,(),(),(),(),AH,()),b1,b2,b3,(),b5,(),b7,b8,b4,b6,()))))else none)else none))else none)
abbrev uS:Type:=AG3×AFi
def YS(p0:ABx)(p1:AB4)(p2:Int):Option uS:=
 (LL (p0.1,p0.2.1,()) (p1.1,p1.2.1,())).bind fun u1=>
 cond (!u1.1.1)
  ((EL (p0.1,p0.2.1,()) (p1.1,p1.2.1,())).bind fun u2=>
  some (((((),u2.1.1.2.1,()),false,()),()),(u2.2.1,())))
 ((EU p2).bind fun u3=>
 (A_ u3.1.1 1 (p1.1.length:Int)).bind fun u4=>
 cond (!u4.1.1)
  ((EL (p0.1,p0.2.1,()) (p1.1,p1.2.1,())).bind fun u5=>
  some (((((),u5.1.1.2.1,()),false,()),()),(u5.2.1,())))
 ((ES (p1.1,p1.2.1,())).bind fun u6=>
 some (((((),(if p2>u6.1.1.2.1 then p2 else u6.1.1.2.1),()),true,()),()),(u6.2.1,()))))
abbrev kQ:Type:=ABz×Unit
def P_(p0:AEe)(p1:AB2):Option kQ:=
 some ((decide (p0.1<=p1.1),()),())
abbrev Bu:Type:=AB2×Unit
abbrev Ca:Type:=ABd->AEn->Int->Int->Option Bu
def DW(R2:Ca)(t0:ABd)(t1:AEn)(t7 t8:Int):Option Bu:=
 cond (decide (t8<t7))
  (if(0:Int)<=t8/\t8<(t0.length:Int)then(
  (P_ ((t0.getD (t8.toNat) (0,0,false,[],())).1,(t0.getD (t8.toNat) (0,0,false,[],())).2.1,(t0.getD (t8.toNat) (0,0,false,[],())).2.2.1,(t0.getD (t8.toNat) (0,0,false,[],())).2.2.2.1,()) t1.1).bind fun u1=>
  cond (u1.1.1)
   (some ((t8,()),()))
  (R2 t0 (t1.1,()) t7 (AQ (t8+1))))else none)
 (some (((-1),()),()))
def BS:Nat->Ca
 |0=>fun _ _ _ _=>none
 |n+1=>DW (BS n)
def DU(R2:Ca)(p0:ABd)(p1:AEn):Option Bu:=
 R2 p0 (p1.1,()) (p0.length:Int) 0
def Ck(p0:ABd)(p1:AEn):Option Bu:=DU (BS AW) p0 p1
abbrev Bq:Type:=ACL×AH2
abbrev CW:Type:=AEn->Int->Int->ABd->Option Bq
def DP(R5:CW)(t1:AEn)(t5 t6:Int)(b0:ABd):Option Bq:=
 cond ((decide (t6<(b0.length:Int))))
  (if(0:Int)<=t6/\t6<(b0.length:Int)then(
  (P_ ((b0.getD (t6.toNat) (0,0,false,[],())).1,(b0.getD (t6.toNat) (0,0,false,[],())).2.1,(b0.getD (t6.toNat) (0,0,false,[],())).2.2.1,(b0.getD (t6.toNat) (0,0,false,[],())).2.2.2.1,()) t1.1).bind fun u3=>
  cond (!u3.1.1)
   (if(0:Int)<=t5/\t5<(b0.length:Int)then(
   R5 (t1.1,()) (AQ (t5+1)) (AQ (t6+1)) (b0.set (t5.toNat) ((b0.getD (t6.toNat) (0,0,false,[],())).1,(b0.getD (t6.toNat) (0,0,false,[],())).2.1,(b0.getD (t6.toNat) (0,0,false,[],())).2.2.1,(b0.getD (t6.toNat) (0,0,false,[],())).2.2.2.1,())))else none)
  (R5 (t1.1,()) t5 (AQ (t6+1)) b0))else none)
 (if(0:Int)<=t5/\t5<=(b0.length:Int)/\(b0.length:Int)<=(b0.length:Int)then(
 let x5:ABd:=(b0.take (t5.toNat)++List.replicate (((b0.length:Int).toNat)-(t5.toNat)) (0,0,false,[],())++b0.drop ((t5.toNat)+(((b0.length:Int).toNat)-(t5.toNat))))
 if(0:Int)<=(0:Int)/\(0:Int)<=t5/\t5<=(x5.length:Int)then(
 some (((),()),((),((x5.drop 0).take ((t5.toNat)-0)),())))else none)else none)
def BK:Nat->CW
 |0=>fun _ _ _ _=>none
 |n+1=>DP (BK n)
def DJ(R5:CW)(p1:AEn)(b0:ABd):Option Bq:=
 (Ck b0 (p1.1,())).bind fun u1=>
 cond (u1.1.1==(-1))
  (some (((),()),((),b0,())))
 (R5 (p1.1,()) u1.1.1 (AQ (u1.1.1+1)) b0)
def B3(p1:AEn)(b0:ABd):Option Bq:=DJ (BK AW) p1 b0
abbrev pc:Type:=AFH×AEz
def UU(p0:ADA)(p1:Int):Option pc:=
 (FA (p0.1,p0.2.1,p0.2.2.1,())).bind fun u1=>
 cond (!u1.1.1)
  ((Dj (p0.1,p0.2.1,p0.2.2.1,())).bind fun u2=>
  some (((((),(),u2.1.1.2.2.1,()),false,()),()),(u2.2.1,u2.2.2.1,())))
 ((DB p1).bind fun u3=>
 cond (!u3.1.1)
  ((Dj (p0.1,p0.2.1,p0.2.2.1,())).bind fun u4=>
  some (((((),(),u4.1.1.2.2.1,()),false,()),()),(u4.2.1,u4.2.2.1,())))
 ((C_ (p0.1,p0.2.1,p0.2.2.1,())).bind fun u5=>
 (B3 ((p1,()),()) u5.2.1).bind fun u6=>
 some (((((),(),u5.1.1.2.2.1,()),true,()),()),(u6.2.2.1,u5.2.2.1,()))))
abbrev kX:Type:=AB2×AFO
def P4(p1 AF AO:Int)(AH:Bool)(b1:AAA)(b2:AAd)(b3:AAA)(b4:AAf)(b5:ABE)(b6:ABI)(b7:AAs)(b8:AA8):Option kX:=
 (EP (b1,AF,b2,b3,b4,AO,b5,b6,b7,b8,AH,()) p1).bind fun u1=>
 cond (u1.1.1 !=0)
  (some ((u1.1.1,()),(((),AF,(),(),(),AO,(),(),(),(),AH,()),b1,b2,b3,b4,b5,b6,b7,b8,())))
 (if(0:Int)<=p1/\p1<(b2.length:Int)then(
 (UU ((b2.getD (p1.toNat) ([],[],0,())).1,(b2.getD (p1.toNat) ([],[],0,())).2.1,(b2.getD (p1.toNat) ([],[],0,())).2.2.1,()) AO).bind fun u2=>
 if(0:Int)<=p1/\p1<(b2.length:Int)then(
 (KX u2.1.1.2.1).bind fun u4=>
 some ((u4.1.1,()),(((),AF,(),(),(),AO,(),(),(),(),AH,()),b1,(b2.set (p1.toNat) (u2.2.1,u2.2.2.1,u2.1.1.1.2.2.1,())),b3,b4,b5,b6,b7,b8,())))else none)else none)
abbrev Ov:Type:=ACL×(Unit×ABE×Unit)
def FF(p1 p2:Int)(b0:ABE):Option Ov:=(AHA p1 p2 b0).map fun l=>(((),()),((),l,()))
abbrev gE:Type:=AB2×(AFd×List Int×AAd×Unit×Unit×Unit×Unit×AAs×Unit×List Int×AAf×ABE×ABI×AA8×Unit)
def V0(p1:ADJ)(AF AO:Int)(AH:Bool)(b1:AAA)(b2:AAd)(b3:AAA)(b4:AAf)(b5:ABE)(b6:ABI)(b7:AAs)(b8:AA8):Option gE:=
 cond (p1.1==1)
  ((Kc p1.2.1 AF AO AH b1 b2 b3 b4 b5 b6 b7 b8).bind fun u1=>
  some ((u1.1.1,()),(((),u1.2.1.2.1,(),(),(),u1.2.1.2.2.2.2.2.1,(),(),(),(),u1.2.1.2.2.2.2.2.2.2.2.2.2.1,()),u1.2.2.1,u1.2.2.2.1,(),(),(),(),u1.2.2.2.2.2.2.2.2.1,(),u1.2.2.2.2.1,u1.2.2.2.2.2.2.2.2.2.2.1,u1.2.2.2.2.2.2.2.2.2.2.2.1,u1.2.2.2.2.2.2.2.2.2.2.2.2.1,u1.2.2.2.2.2.2.2.2.2.1,())))
 (cond (p1.1==2)
  ((L5 p1.2.1 p1.2.2.2.2.1 AF AO AH b1 b2 b3 b4 b5 b6 b7 b8).bind fun u6=>
  some ((u6.1.1,()),(((),u6.2.1.2.1,(),(),(),u6.2.1.2.2.2.2.2.1,(),(),(),(),u6.2.1.2.2.2.2.2.2.2.2.2.2.1,()),u6.2.2.1,u6.2.2.2.1,(),(),(),(),u6.2.2.2.2.2.2.2.2.1,(),u6.2.2.2.2.1,u6.2.2.2.2.2.1,u6.2.2.2.2.2.2.1,u6.2.2.2.2.2.2.2.1,u6.2.2.2.2.2.2.2.2.2.2.1,())))
 (cond (p1.1==3)
  ((Jf (p1.1,p1.2.1,p1.2.2.1,p1.2.2.2.1,p1.2.2.2.2.1,()) AF AO AH b1 b2 b3 b4 b5 b6 b7 b8).bind fun u8=>
  some ((u8.1.1,()),(((),u8.2.1.2.1,(),(),(),u8.2.1.2.2.2.2.2.1,(),(),(),(),u8.2.1.2.2.2.2.2.2.2.2.2.2.1,()),u8.2.2.1,u8.2.2.2.1,(),(),(),(),u8.2.2.2.2.2.2.2.2.1,(),u8.2.2.2.2.1,u8.2.2.2.2.2.1,u8.2.2.2.2.2.2.1,u8.2.2.2.2.2.2.2.1,u8.2.2.2.2.2.2.2.2.2.1,())))
 (cond (p1.1==4)
  ((RM p1.2.1 AF AO AH b1 b2 b3 b4 b5 b6 b7 b8).bind fun Dk=>
  some ((Dk.1.1,()),(((),Dk.2.1.2.1,(),(),(),Dk.2.1.2.2.2.2.2.1,(),(),(),(),Dk.2.1.2.2.2.2.2.2.2.2.2.2.1,()),Dk.2.2.1,Dk.2.2.2.1,(),(),(),(),Dk.2.2.2.2.2.2.2.2.1,(),Dk.2.2.2.2.1,Dk.2.2.2.2.2.1,Dk.2.2.2.2.2.2.1,Dk.2.2.2.2.2.2.2.1,Dk.2.2.2.2.2.2.2.2.2.1,())))
 (cond (p1.1==5)
  ((QP p1.2.1 p1.2.2.1 AF AO AH b1 b2 b3 b4 b5 b6 b7 b8).bind fun Nr=>
  some ((Nr.1.1,()),(((),Nr.2.1.2.1,(),(),(),Nr.2.1.2.2.2.2.2.1,(),(),(),(),Nr.2.1.2.2.2.2.2.2.2.2.2.2.1,()),Nr.2.2.1,Nr.2.2.2.1,(),(),(),(),Nr.2.2.2.2.2.2.2.2.1,(),Nr.2.2.2.2.1,Nr.2.2.2.2.2.1,Nr.2.2.2.2.2.2.1,Nr.2.2.2.2.2.2.2.1,Nr.2.2.2.2.2.2.2.2.2.1,())))
 (cond (p1.1==6)
  ((Ra p1.2.1 AF AO AH b1 b2 b3 b4 b5 b6 b7 b8).bind fun u16=>
  some ((u16.1.1,()),(((),u16.2.1.2.1,(),(),(),u16.2.1.2.2.2.2.2.1,(),(),(),(),u16.2.1.2.2.2.2.2.2.2.2.2.2.1,()),u16.2.2.1,u16.2.2.2.1,(),(),(),(),u16.2.2.2.2.2.2.2.2.1,(),u16.2.2.2.2.2.2.2.2.2.2.1,u16.2.2.2.2.2.1,u16.2.2.2.2.2.2.1,u16.2.2.2.2.2.2.2.1,u16.2.2.2.2.2.2.2.2.2.1,())))
 (cond (p1.1==7)
  ((KY p1.2.1 AF AO AH b1 b2 b3 b4 b5 b6 b7 b8).bind fun Uj=>
  some ((Uj.1.1,()),(((),Uj.2.1.2.1,(),(),(),Uj.2.1.2.2.2.2.2.1,(),(),(),(),Uj.2.1.2.2.2.2.2.2.2.2.2.2.1,()),Uj.2.2.1,Uj.2.2.2.1,(),(),(),(),Uj.2.2.2.2.2.2.2.2.1,(),Uj.2.2.2.2.2.2.2.2.2.2.1,Uj.2.2.2.2.2.1,Uj.2.2.2.2.2.2.1,Uj.2.2.2.2.2.2.2.1,Uj.2.2.2.2.2.2.2.2.2.1,())))
 (cond (p1.1==8)
  ((RJ AF AO AH b1 b2 b3 b4 b5 b6 b7 b8).bind fun aL=>
  some ((aL.1.1,()),(((),aL.2.1.2.1,(),(),(),aL.2.1.2.2.2.2.2.1,(),(),(),(),aL.2.1.2.2.2.2.2.2.2.2.2.2.1,()),aL.2.2.1,aL.2.2.2.1,(),(),(),(),aL.2.2.2.2.2.2.2.2.1,(),aL.2.2.2.2.1,aL.2.2.2.2.2.1,aL.2.2.2.2.2.2.1,aL.2.2.2.2.2.2.2.2.2.2.1,aL.2.2.2.2.2.2.2.2.2.1,())))
 (cond (p1.1==9)
  ((Ki p1.2.1 AF AO AH b1 b2 b3 b4 b5 b6 b7 b8).bind fun aN=>
  some ((aN.1.1,()),(((),aN.2.1.2.1,(),(),(),aN.2.1.2.2.2.2.2.1,(),(),(),(),aN.2.1.2.2.2.2.2.2.2.2.2.2.1,()),aN.2.2.1,aN.2.2.2.1,(),(),(),(),aN.2.2.2.2.2.2.2.2.1,(),aN.2.2.2.2.1,aN.2.2.2.2.2.1,aN.2.2.2.2.2.2.1,aN.2.2.2.2.2.2.2.1,aN.2.2.2.2.2.2.2.2.2.1,())))
 (cond (p1.1==10)
  ((Ke AF AO AH b1 b2 b3 b4 b5 b6 b7 b8).bind fun cP=>
  some ((cP.1.1,()),(((),cP.2.1.2.1,(),(),(),cP.2.1.2.2.2.2.2.1,(),(),(),(),cP.2.1.2.2.2.2.2.2.2.2.2.2.1,()),cP.2.2.1,cP.2.2.2.1,(),(),(),(),cP.2.2.2.2.2.2.2.2.1,(),cP.2.2.2.2.1,cP.2.2.2.2.2.1,cP.2.2.2.2.2.2.1,cP.2.2.2.2.2.2.2.1,cP.2.2.2.2.2.2.2.2.2.1,())))
 (cond (p1.1==11)
  ((TX p1.2.2.1 p1.2.2.2.1 AF AO AH b1 b2 b3 b4 b5 b6 b7 b8).bind fun yT=>
  some ((yT.1.1,()),(((),yT.2.1.2.1,(),(),(),yT.2.1.2.2.2.2.2.1,(),(),(),(),yT.2.1.2.2.2.2.2.2.2.2.2.2.1,()),yT.2.2.1,yT.2.2.2.1,(),(),(),(),yT.2.2.2.2.2.2.2.2.1,(),yT.2.2.2.2.1,yT.2.2.2.2.2.1,yT.2.2.2.2.2.2.1,yT.2.2.2.2.2.2.2.1,yT.2.2.2.2.2.2.2.2.2.1,())))
 (cond (p1.1==12)
  ((Jk AF AO AH b1 b2 b3 b4 b5 b6 b7 b8).bind fun pr=>
  some ((pr.1.1,()),(((),pr.2.1.2.1,(),(),(),pr.2.1.2.2.2.2.2.1,(),(),(),(),pr.2.1.2.2.2.2.2.2.2.2.2.2.1,()),pr.2.2.1,pr.2.2.2.1,(),(),(),(),pr.2.2.2.2.2.2.2.2.1,(),pr.2.2.2.2.1,pr.2.2.2.2.2.2.2.2.2.2.1,pr.2.2.2.2.2.2.1,pr.2.2.2.2.2.2.2.2.2.2.2.1,pr.2.2.2.2.2.2.2.2.2.1,())))
 (cond (p1.1==13)
  ((YS (b1,AF,()) (b4,AO,()) p1.2.1).bind fun u42=>
  (KX u42.1.1.2.1).bind fun u43=>
  some ((u43.1.1,()),(((),AF,(),(),(),u42.1.1.1.2.1,(),(),(),(),AH,()),b1,b2,(),(),(),(),b7,(),b3,u42.2.1,b5,b6,b8,())))
 (cond (p1.1==14)
  ((NU p1.2.1 p1.2.2.1 AF AO AH b1 b2 b3 b4 b5 b6 b7 b8).bind fun wT=>
  some ((wT.1.1,()),(((),wT.2.1.2.1,(),(),(),wT.2.1.2.2.2.2.2.1,(),(),(),(),wT.2.1.2.2.2.2.2.2.2.2.2.2.1,()),wT.2.2.1,wT.2.2.2.1,(),(),(),(),wT.2.2.2.2.2.2.2.2.1,(),wT.2.2.2.2.1,wT.2.2.2.2.2.1,wT.2.2.2.2.2.2.1,wT.2.2.2.2.2.2.2.1,wT.2.2.2.2.2.2.2.2.2.1,())))
 (cond (p1.1==16)
  ((P4 p1.2.1 AF AO AH b1 b2 b3 b4 b5 b6 b7 b8).bind fun vt=>
  some ((vt.1.1,()),(((),vt.2.1.2.1,(),(),(),vt.2.1.2.2.2.2.2.1,(),(),(),(),vt.2.1.2.2.2.2.2.2.2.2.2.2.1,()),vt.2.2.1,vt.2.2.2.1,(),(),(),(),vt.2.2.2.2.2.2.2.2.1,(),vt.2.2.2.2.1,vt.2.2.2.2.2.1,vt.2.2.2.2.2.2.1,vt.2.2.2.2.2.2.2.1,vt.2.2.2.2.2.2.2.2.2.1,())))
 ((A_ p1.2.1 0 (AQ ((b5.length:Int)-1))).bind fun u53=>
 cond (!u53.1.1)
  (some ((2,()),(((),AF,(),(),(),AO,(),(),(),(),AH,()),b1,b2,(),(),(),(),b7,(),b3,b4,b5,b6,b8,())))
 ((FF p1.2.1 (AQ (p1.2.1+1)) b5).bind fun u54=>
 some ((0,()),(((),AF,(),(),(),AO,(),(),(),(),AH,()),b1,b2,(),(),(),(),b7,(),b3,b4,u54.2.2.1,b6,b8,()))))))))))))))))))
abbrev uk:Type:=AEq×AEw
def Mk(p0:AB0)(p1:ADJ):Option uk:=
 (Cz (p0.1,p0.2.1,p0.2.2.1,p0.2.2.2.1,p0.2.2.2.2.1,p0.2.2.2.2.2.1,p0.2.2.2.2.2.2.1,p0.2.2.2.2.2.2.2.1,p0.2.2.2.2.2.2.2.2.1,p0.2.2.2.2.2.2.2.2.2.1,p0.2.2.2.2.2.2.2.2.2.2.1,())).bind fun u1=>
 cond (!u1.1.1)
  (some (((((),0,(),(),(),0,(),(),(),(),false,()),1,()),()),([],[],[],[],[],[],[],[],())))
 ((XD (p1.1,p1.2.1,p1.2.2.1,p1.2.2.2.1,p1.2.2.2.2.1,())).bind fun u2=>
 cond (!u2.1.1)
  (some (((((),0,(),(),(),0,(),(),(),(),false,()),1,()),()),([],[],[],[],[],[],[],[],())))
 ((Dm (p0.1,p0.2.1,p0.2.2.1,p0.2.2.2.1,p0.2.2.2.2.1,p0.2.2.2.2.2.1,p0.2.2.2.2.2.2.1,p0.2.2.2.2.2.2.2.1,p0.2.2.2.2.2.2.2.2.1,p0.2.2.2.2.2.2.2.2.2.1,p0.2.2.2.2.2.2.2.2.2.2.1,())).bind fun u3=>
 (V0 (p1.1,p1.2.1,p1.2.2.1,p1.2.2.2.1,p1.2.2.2.2.1,()) u3.1.1.2.1 u3.1.1.2.2.2.2.2.1 u3.1.1.2.2.2.2.2.2.2.2.2.2.1 u3.2.1 u3.2.2.1 u3.2.2.2.1 u3.2.2.2.2.1 u3.2.2.2.2.2.1 u3.2.2.2.2.2.2.1 u3.2.2.2.2.2.2.2.1 u3.2.2.2.2.2.2.2.2.1).bind fun u4=>
 cond (u4.1.1 !=0)
  ((Dm (p0.1,p0.2.1,p0.2.2.1,p0.2.2.2.1,p0.2.2.2.2.1,p0.2.2.2.2.2.1,p0.2.2.2.2.2.2.1,p0.2.2.2.2.2.2.2.1,p0.2.2.2.2.2.2.2.2.1,p0.2.2.2.2.2.2.2.2.2.1,p0.2.2.2.2.2.2.2.2.2.2.1,())).bind fun Dk=>
  some (((((),Dk.1.1.2.1,(),(),(),Dk.1.1.2.2.2.2.2.1,(),(),(),(),Dk.1.1.2.2.2.2.2.2.2.2.2.2.1,()),u4.1.1,()),()),(Dk.2.1,Dk.2.2.1,Dk.2.2.2.1,Dk.2.2.2.2.1,Dk.2.2.2.2.2.1,Dk.2.2.2.2.2.2.1,Dk.2.2.2.2.2.2.2.1,Dk.2.2.2.2.2.2.2.2.1,())))
 (some (((((),u4.2.1.2.1,(),(),(),u4.2.1.2.2.2.2.2.1,(),(),(),(),u4.2.1.2.2.2.2.2.2.2.2.2.2.1,()),0,()),()),(u4.2.2.1,u4.2.2.2.1,u4.2.2.2.2.2.2.2.2.2.2.1,u4.2.2.2.2.2.2.2.2.2.2.2.1,u4.2.2.2.2.2.2.2.2.2.2.2.2.1,u4.2.2.2.2.2.2.2.2.2.2.2.2.2.1,u4.2.2.2.2.2.2.2.2.1,u4.2.2.2.2.2.2.2.2.2.2.2.2.2.2.1,())))))
abbrev qd:Type:=ABz×Unit
def V4(p0:AB0):Option qd:=
 (RP (p0.1,p0.2.1,p0.2.2.1,p0.2.2.2.1,p0.2.2.2.2.1,p0.2.2.2.2.2.1,p0.2.2.2.2.2.2.1,p0.2.2.2.2.2.2.2.1,p0.2.2.2.2.2.2.2.2.1,p0.2.2.2.2.2.2.2.2.2.1,p0.2.2.2.2.2.2.2.2.2.2.1,())).bind fun u1=>
 cond (u1.1.1)
  ((UA (p0.1,p0.2.1,p0.2.2.1,p0.2.2.2.1,p0.2.2.2.2.1,p0.2.2.2.2.2.1,p0.2.2.2.2.2.2.1,p0.2.2.2.2.2.2.2.1,p0.2.2.2.2.2.2.2.2.1,p0.2.2.2.2.2.2.2.2.2.1,p0.2.2.2.2.2.2.2.2.2.2.1,())).bind fun u2=>
  cond (u2.1.1)
   ((T6 (p0.1,p0.2.1,p0.2.2.1,p0.2.2.2.1,p0.2.2.2.2.1,p0.2.2.2.2.2.1,p0.2.2.2.2.2.2.1,p0.2.2.2.2.2.2.2.1,p0.2.2.2.2.2.2.2.2.1,p0.2.2.2.2.2.2.2.2.2.1,p0.2.2.2.2.2.2.2.2.2.2.1,())).bind fun u3=>
   cond (u3.1.1)
    ((Rh (p0.1,p0.2.1,p0.2.2.1,p0.2.2.2.1,p0.2.2.2.2.1,p0.2.2.2.2.2.1,p0.2.2.2.2.2.2.1,p0.2.2.2.2.2.2.2.1,p0.2.2.2.2.2.2.2.2.1,p0.2.2.2.2.2.2.2.2.2.1,p0.2.2.2.2.2.2.2.2.2.2.1,())).bind fun u4=>
    cond (u4.1.1)
     ((TT (p0.1,p0.2.1,p0.2.2.1,p0.2.2.2.1,p0.2.2.2.2.1,p0.2.2.2.2.2.1,p0.2.2.2.2.2.2.1,p0.2.2.2.2.2.2.2.1,p0.2.2.2.2.2.2.2.2.1,p0.2.2.2.2.2.2.2.2.2.1,p0.2.2.2.2.2.2.2.2.2.2.1,())).bind fun u5=>
     some ((u5.1.1,()),()))
    (some ((false,()),())))
   (some ((false,()),())))
  (some ((false,()),())))
 (some ((false,()),()))
abbrev Yo:Type:=AEg×Unit
abbrev cc:Type:=Int->List UInt8->Option Yo
def Vo(R4:cc)(t0:Int)(t3:ABF):Option Yo:=
 cond (decide (t0>0))
  (let x2:ABF:=([w8 ((AQ (48+(t0.tmod 10))))].map fun n:Int=>UInt8.ofNat n.toNat)
  if x2.length+t3.length<=CN then(
  R4 (AQ (t0.tdiv 10)) (x2++t3))else none)
 (some ((t3,()),()))
def Q9:Nat->cc
 |0=>fun _ _=>none
 |n+1=>Vo (Q9 n)
def dL(R4:cc)(p0:Int):Option Yo:=
 cond (decide (p0<=0))
  (some (([48],()),()))
 (R4 p0 [])
def Pl(p0:Int):Option Yo:=dL (Q9 AW) p0
end
end Go.M
