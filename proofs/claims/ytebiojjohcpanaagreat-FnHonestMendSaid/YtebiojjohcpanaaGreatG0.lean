/- What each function computes, printed by a program out of the translation; what is printed is checked in the equations. -/
import Derived.Test.YtebiojjohcpanaaGreatF1
set_option linter.unusedVariables false
set_option linter.unusedSimpArgs false
set_option linter.unusedSectionVars false
namespace Go.M
noncomputable section
abbrev zf:Type:=ABi×Unit
def sX(p0:AAB):Option zf:=
 some (((decide ((p0.length:Int)>1048576)),()),())
abbrev Xk:Type:=ADI×AEX
abbrev aT:Type:=List Int->Int->Int->Option Xk
def bw(R3:aT)(t0:AAB)(t3 t4:Int):Option Xk:=
 cond ((decide (t4<(t0.length:Int))))
  (cond (decide (t4<4000))
   (if(0:Int)<=t4/\t4<(t0.length:Int)then(
   R3 t0 (eP .i64 (AW ((AW ((AW (t3*131))+(AW ((t0.getD (t4.toNat) 0)))))+7)) 1073741823) (AW (t4+1)))else none)
  (some (((),()),((t0,0,t3,()),()))))
 (some (((),()),((t0,0,t3,()),())))
def Q3:Nat->aT
 |0=>fun _ _ _=>none
 |n+1=>bw (Q3 n)
def bg(R3:aT)(p0:AAB):Option Xk:=
 R3 p0 (AW (17817+(p0.length:Int))) 0
def cx(p0:AAB):Option Xk:=bg (Q3 AZ) p0
abbrev sv:Type:=ABq×AEX
def Mw(AL:AAB)(AF Aa:Int):Option sv:=
 let x2:Int:=AW ((AW (Aa*6364136223846793005))+1442695040888963407)
 let x3:Int:=ARb .i64 (x2.fdiv (2^33)) (x2.fdiv (2^45))
 cond ((decide (AF<(AL.length:Int))))
  (if(0:Int)<=AF/\AF<(AL.length:Int)then(
  some ((eP .i64 (AW ((eP .i64 x3 255)+(AW ((AL.getD (AF.toNat) 0))))) 255,()),((AL,AW (AF+1),x2,()),())))else none)
 (some ((eP .i64 x3 255,()),((AL,AF,x2,()),())))
abbrev IU:Type:=ABq×AEX
def AK(p1:Int)(AL:AAB)(AF Aa:Int):Option IU:=
 cond (decide (p1<=0))
  (some ((0,()),((AL,AF,Aa,()),())))
 (cond (decide (p1<=256))
  ((Mw AL AF Aa).bind fun u1=>
  if p1=0 then none else(
  some ((u1.1.1.tmod p1,()),((u1.2.1.1,u1.2.1.2.1,u1.2.1.2.2.1,()),()))))
 ((Mw AL AF Aa).bind fun u2=>
 (Mw u2.2.1.1 u2.2.1.2.1 u2.2.1.2.2.1).bind fun u3=>
 (Mw u3.2.1.1 u3.2.1.2.1 u3.2.1.2.2.1).bind fun u4=>
 (Mw u4.2.1.1 u4.2.1.2.1 u4.2.1.2.2.1).bind fun u5=>
 if p1=0 then none else(
 some ((((AW ((AW ((AW ((AW (u2.1.1*16777216))+(AW (u3.1.1*65536))))+(AW (u4.1.1*256))))+u5.1.1)).tmod p1),()),((u5.2.1.1,u5.2.1.2.1,u5.2.1.2.2.1,()),())))))
abbrev N_:Type:=ABi×AEX
def BL(p1:Int)(AL:AAB)(AF Aa:Int):Option N_:=
 (AK p1 AL AF Aa).bind fun u1=>
 some ((u1.1.1==0,()),((u1.2.1.1,u1.2.1.2.1,u1.2.1.2.2.1,()),()))
abbrev NB:Type:=AEJ×AHl
abbrev Qj:Type:=Int->Int->List Int->Int->Int->Int->List Int->Int->List Int->Option NB
def T4(R4:Qj)(t4 t5:Int)(AL:AAB)(AF Aa Au:Int)(b2:AAB)(fq:Int)(b4:AAB):Option NB:=
 cond (decide (t5<t4))
  ((AK 5 AL AF Aa).bind fun u3=>
  if b4.length+1<=C_ then(
  R4 t4 (AW (t5+1)) u3.2.1.1 u3.2.1.2.1 u3.2.1.2.2.1 Au b2 fq (b4++[u3.1.1]))else none)
 ((BL 2 AL AF Aa).bind fun u5=>
 cond (u5.1.1)
  (some ((((),2,()),()),((u5.2.1.1,u5.2.1.2.1,u5.2.1.2.2.1,()),b4,())))
 (some ((((),fq,()),()),((u5.2.1.1,u5.2.1.2.1,u5.2.1.2.2.1,()),b4,()))))
def I9:Nat->Qj
 |0=>fun _ _ _ _ _ _ _ _ _=>none
 |n+1=>T4 (I9 n)
def TB(R4:Qj)(AL:AAB)(AF Aa:Int):Option NB:=
 (AK 3 AL AF Aa).bind fun u1=>
 (AK 5 u1.2.1.1 u1.2.1.2.1 u1.2.1.2.2.1).bind fun u2=>
 R4 (AW (3+u2.1.1)) 0 u2.2.1.1 u2.2.1.2.1 u2.2.1.2.2.1 0 [] (AW (1+u1.1.1)) []
def Mn(AL:AAB)(AF Aa:Int):Option NB:=TB (I9 AZ) AL AF Aa
abbrev mr:Type:=ABq×AEX
def CZ(p1 AL:AAB)(AF Aa:Int):Option mr:=
 (AK (p1.length:Int) AL AF Aa).bind fun u1=>
 if(0:Int)<=u1.1.1/\u1.1.1<(p1.length:Int)then(
 some (((p1.getD (u1.1.1.toNat) 0),()),((u1.2.1.1,u1.2.1.2.1,u1.2.1.2.2.1,()),())))else none
abbrev ax:Type:=AEJ×AHl
def Sa(AL:AAB)(AF Aa:Int):Option ax:=
 (Mn AL AF Aa).bind fun u1=>
 (AK 20 u1.2.1.1 u1.2.1.2.1 u1.2.1.2.2.1).bind fun u2=>
 cond (u2.1.1==0)
  ((CZ [0,4,5] u2.2.1.1 u2.2.1.2.1 u2.2.1.2.2.1).bind fun u3=>
  some ((((),u3.1.1,()),()),((u3.2.1.1,u3.2.1.2.1,u3.2.1.2.2.1,()),u1.2.2.1,())))
 (cond (u2.1.1==1)
  ((CZ [(-1),7,8] u2.2.1.1 u2.2.1.2.1 u2.2.1.2.2.1).bind fun u4=>
  if(0:Int)<=(0:Int)/\(0:Int)<(u1.2.2.1.length:Int)then(
  some ((((),u1.1.1.2.1,()),()),((u4.2.1.1,u4.2.1.2.1,u4.2.1.2.2.1,()),(u1.2.2.1.set 0 u4.1.1),())))else none)
 (cond (u2.1.1==2)
  ((CZ [0,8,9] u2.2.1.1 u2.2.1.2.1 u2.2.1.2.2.1).bind fun u6=>
  if(0:Int)<=u6.1.1/\u6.1.1<=u6.1.1/\u6.1.1<=(C_:Int)then(
  some ((((),u1.1.1.2.1,()),()),((u6.2.1.1,u6.2.1.2.1,u6.2.1.2.2.1,()),(List.replicate (u6.1.1.toNat) 0),())))else none)
 (some ((((),u1.1.1.2.1,()),()),((u2.2.1.1,u2.2.1.2.1,u2.2.1.2.2.1,()),u1.2.2.1,())))))
abbrev di:Type:=ADI×ADM
def DU(p0:AAB):Option di:=
 if 0+p0.length<=C_ then(
 some (((),()),(p0,())))else none
abbrev ko:Type:=AEJ×ADM
def RS(p0:ABS):Option ko:=
 (DU p0.1).bind fun u1=>
 some ((((),p0.2.1,()),()),(u1.2.1,()))
abbrev Nz:Type:=ABi×Unit
def BE(p0 p1 p2:Int):Option Nz:=
 cond (decide (p0>=p1))
  (some ((decide (p0<=p2),()),()))
 (some ((false,()),()))
abbrev RJ:Type:=ABi×Unit
abbrev Uu:Type:=List Int->Int->Int->List Int->Int->Option RJ
def Wm(R2:Uu)(t6:AAB)(t7 t8:Int)(AL:AAB)(AF:Int):Option RJ:=
 cond (decide (t8<t7))
  (if(0:Int)<=t8/\t8<(t6.length:Int)then(
  (BE (t6.getD (t8.toNat) 0) 0 7).bind fun u2=>
  cond (!u2.1.1)
   (some ((false,()),()))
  (R2 t6 t7 (AW (t8+1)) AL AF))else none)
 ((BE (AL.length:Int) 1 8).bind fun u3=>
 cond (u3.1.1)
  ((BE AF 1 4).bind fun u4=>
  some ((u4.1.1,()),()))
 (some ((false,()),())))
def MD:Nat->Uu
 |0=>fun _ _ _ _ _=>none
 |n+1=>Wm (MD n)
def Wq(R2:Uu)(p0:ABS):Option RJ:=
 R2 p0.1 (p0.1.length:Int) 0 p0.1 p0.2.1
def FO(p0:ABS):Option RJ:=Wq (MD AZ) p0
abbrev Tp:Type:=ABi×Unit
abbrev WH:Type:=List Int->Int->List Int->Int->Int->Option Tp
def Rr(R2:WH)(t0:AAB)(t1:Int)(t7:AAB)(t8 t9:Int):Option Tp:=
 cond (decide (t9<t8))
  (if(0:Int)<=t9/\t9<(t7.length:Int)then(
  let x1:Int:=(t7.getD (t9.toNat) 0)
  (BE x1 0 t1).bind fun u2=>
  cond (!u2.1.1)
   (some ((false,()),()))
  (cond (decide (t9>0))
   (if(0:Int)<=AW (t9-1)/\AW (t9-1)<(t0.length:Int)then(
   cond (decide ((t0.getD ((AW (t9-1)).toNat) 0)>=x1))
    (some ((false,()),()))
   (R2 t0 t1 t7 t8 (AW (t9+1))))else none)
  (R2 t0 t1 t7 t8 (AW (t9+1)))))else none)
 (some ((true,()),()))
def Kd:Nat->WH
 |0=>fun _ _ _ _ _=>none
 |n+1=>Rr (Kd n)
def X9(R2:WH)(p0:AAB)(p1:Int):Option Tp:=
 R2 p0 p1 p0 (p0.length:Int) 0
def Xg(p0:AAB)(p1:Int):Option Tp:=X9 (Kd AZ) p0 p1
abbrev qv:Type:=ABi×Unit
def EM(p0:ABS)(p1:AAB):Option qv:=
 (FO (p0.1,p0.2.1,())).bind fun u1=>
 cond (u1.1.1)
  ((Xg p1 (AW ((p0.1.length:Int)-1))).bind fun u3=>
  some ((u3.1.1,()),()))
 (some ((false,()),()))
abbrev r9:Type:=ABi×Unit
def H0(p0:Int):Option r9:=
 (BE p0 1 30).bind fun u1=>
 some ((u1.1.1,()),())
abbrev vY:Type:=ABi×Unit
def X1(p0:Int):Option vY:=
 (BE p0 1 60).bind fun u1=>
 some ((u1.1.1,()),())
abbrev rL:Type:=ABi×Unit
def EJ(p0:Int):Option rL:=
 (H0 (AW (p0.tdiv 4294967296))).bind fun u2=>
 cond (u2.1.1)
  ((X1 (p0.tmod 4294967296)).bind fun u3=>
  some ((u3.1.1,()),()))
 (some ((false,()),()))
abbrev tb:Type:=ABi×Unit
def GR(p0:ACH):Option tb:=
 some (((decide ((p0.length:Int)<=40)),()),())
abbrev sG:Type:=ABq×Unit
def FW(p0:Int):Option sG:=
 (EJ p0).bind fun u1=>
 cond (!u1.1.1)
  (some ((0,()),()))
 (some (((AW (p0.tdiv 4294967296)),()),()))
abbrev qa:Type:=ABi×Unit
def NU(p0:AD_):Option qa:=
 (BE p0.2.1 0 30).bind fun u1=>
 cond (u1.1.1)
  (cond (p0.2.1==0)
   (cond (!p0.2.2.1)
    ((EJ p0.1).bind fun u2=>
    cond (u2.1.1)
     ((GR p0.2.2.2.1).bind fun u3=>
     some ((u3.1.1,()),()))
    (some ((false,()),())))
   (cond (decide (p0.2.1>0))
    ((EJ p0.1).bind fun u4=>
    cond (u4.1.1)
     (cond (p0.2.2.2.1==[])
      ((GR p0.2.2.2.1).bind fun u5=>
      some ((u5.1.1,()),()))
     (some ((false,()),())))
    (some ((false,()),())))
   ((EJ p0.1).bind fun u6=>
   cond (u6.1.1)
    (some ((false,()),()))
   (some ((false,()),())))))
  ((FW p0.1).bind fun u7=>
  let x8:Bool:=decide (p0.2.1>u7.1.1)
  cond (!p0.2.2.1)
   ((EJ p0.1).bind fun u9=>
   cond (u9.1.1)
    (cond (x8)
     ((GR p0.2.2.2.1).bind fun EI=>
     some ((EI.1.1,()),()))
    (some ((false,()),())))
   (some ((false,()),())))
  (cond (decide (p0.2.1>0))
   ((EJ p0.1).bind fun Mv=>
   cond (Mv.1.1)
    (cond (x8)
     (cond (p0.2.2.2.1==[])
      ((GR p0.2.2.2.1).bind fun Dw=>
      some ((Dw.1.1,()),()))
     (some ((false,()),())))
    (some ((false,()),())))
   (some ((false,()),())))
  ((EJ p0.1).bind fun M6=>
  cond (M6.1.1)
   (cond (x8)
    (some ((false,()),()))
   (some ((false,()),())))
  (some ((false,()),()))))))
 (cond (!p0.2.2.1)
  ((EJ p0.1).bind fun KV=>
  cond (KV.1.1)
   (some ((false,()),()))
  (some ((false,()),())))
 (cond (decide (p0.2.1>0))
  ((EJ p0.1).bind fun Zn=>
  cond (Zn.1.1)
   (some ((false,()),()))
  (some ((false,()),())))
 ((EJ p0.1).bind fun u16=>
 cond (u16.1.1)
  (some ((false,()),()))
 (some ((false,()),())))))
abbrev Px:Type:=ABi×Unit
abbrev Tm:Type:=ABJ->Int->Int->Option Px
def PE(R2:Tm)(t5:ABJ)(t6 t7:Int):Option Px:=
 cond (decide (t7<t6))
  (if(0:Int)<=t7/\t7<(t5.length:Int)then(
  (NU ((t5.getD (t7.toNat) (0,0,false,[],())).1,(t5.getD (t7.toNat) (0,0,false,[],())).2.1,(t5.getD (t7.toNat) (0,0,false,[],())).2.2.1,(t5.getD (t7.toNat) (0,0,false,[],())).2.2.2.1,())).bind fun u1=>
  cond (!u1.1.1)
   (some ((false,()),()))
  (R2 t5 t6 (AW (t7+1))))else none)
 (some ((true,()),()))
def Is:Nat->Tm
 |0=>fun _ _ _=>none
 |n+1=>PE (Is n)
def WC(R2:Tm)(p0:ABJ):Option Px:=
 R2 p0 (p0.length:Int) 0
def PG(p0:ABJ):Option Px:=WC (Is AZ) p0
abbrev L0:Type:=ABi×Unit
abbrev Pc:Type:=ABJ->ABJ->Int->Int->Option L0
def MP(R2:Pc)(t0 t5:ABJ)(t6 t7:Int):Option L0:=
 cond (decide (t7<t6))
  (if(0:Int)<=t7/\t7<(t5.length:Int)then(
  cond (decide (t7>0))
   (if(0:Int)<=AW (t7-1)/\AW (t7-1)<(t0.length:Int)then(
   cond (decide (((t0.getD ((AW (t7-1)).toNat) (0,0,false,[],())).1)>=((t5.getD (t7.toNat) (0,0,false,[],())).1)))
    (some ((false,()),()))
   (R2 t0 t5 t6 (AW (t7+1))))else none)
  (R2 t0 t5 t6 (AW (t7+1))))else none)
 (some ((true,()),()))
def GY:Nat->Pc
 |0=>fun _ _ _ _=>none
 |n+1=>MP (GY n)
def Sd(R2:Pc)(p0:ABJ):Option L0:=
 R2 p0 p0 (p0.length:Int) 0
def LQ(p0:ABJ):Option L0:=Sd (GY AZ) p0
abbrev qE:Type:=ABi×Unit
def FU(p0:ACd):Option qE:=
 cond ((decide ((p0.1.length:Int)>200)))
  (some ((false,()),()))
 (cond (decide ((p0.2.1.length:Int)>20))
  (some ((false,()),()))
 ((PG p0.1).bind fun u3=>
 cond (u3.1.1)
  ((PG p0.2.1).bind fun u4=>
  cond (u4.1.1)
   ((LQ p0.1).bind fun u5=>
   cond (u5.1.1)
    ((BE p0.2.2.1 0 30).bind fun u6=>
    some ((u6.1.1,()),()))
   (some ((false,()),())))
  (some ((false,()),())))
 (some ((false,()),()))))
abbrev JD:Type:=ABq×Unit
abbrev ML:Type:=List Int->Int->Int->Int->Option JD
def PA(R2:ML)(t0:AAB)(t1 t7 t8:Int):Option JD:=
 cond (decide (t8<t7))
  (if(0:Int)<=t8/\t8<(t0.length:Int)then(
  cond (t1==(t0.getD (t8.toNat) 0))
   (some ((t8,()),()))
  (R2 t0 t1 t7 (AW (t8+1))))else none)
 (some (((-1),()),()))
def Gf:Nat->ML
 |0=>fun _ _ _ _=>none
 |n+1=>PA (Gf n)
def O5(R2:ML)(p0:AAB)(p1:Int):Option JD:=
 R2 p0 p1 (p0.length:Int) 0
def PC(p0:AAB)(p1:Int):Option JD:=O5 (Gf AZ) p0 p1
abbrev ZL:Type:=ABi×Unit
def Bv(p0:AAB)(p1:Int):Option ZL:=
 (PC p0 p1).bind fun u1=>
 some ((decide (u1.1.1>=0),()),())
abbrev ta:Type:=ABi×Unit
def SR(p0:Int)(p1:ADM):Option ta:=
 (Bv p1.1 p0).bind fun u1=>
 some ((!u1.1.1,()),())
abbrev Dg:Type:=ABq×Unit
abbrev Eu:Type:=List Int->(ADM×Unit)->Int->Int->Option Dg
def EO(R2:Eu)(t0:AAB)(t1:ADM×Unit)(t7 t8:Int):Option Dg:=
 cond (decide (t8<t7))
  (if(0:Int)<=t8/\t8<(t0.length:Int)then(
  (SR (t0.getD (t8.toNat) 0) t1.1).bind fun u2=>
  cond (u2.1.1)
   (some ((t8,()),()))
  (R2 t0 (t1.1,()) t7 (AW (t8+1))))else none)
 (some (((-1),()),()))
def CC:Nat->Eu
 |0=>fun _ _ _ _=>none
 |n+1=>EO (CC n)
def EL(R2:Eu)(p0:AAB)(p1:ADM×Unit):Option Dg:=
 R2 p0 (p1.1,()) (p0.length:Int) 0
def Dx(p0:AAB)(p1:ADM×Unit):Option Dg:=EL (CC AZ) p0 p1
abbrev DW:Type:=ADI×AHr
abbrev El:Type:=(ADM×Unit)->Int->Int->List Int->Option DW
def EF(R5:El)(t1:ADM×Unit)(t5 t6:Int)(b0:AAB):Option DW:=
 cond ((decide (t6<(b0.length:Int))))
  (if(0:Int)<=t6/\t6<(b0.length:Int)then(
  let x3:Int:=(b0.getD (t6.toNat) 0)
  (SR x3 t1.1).bind fun u4=>
  cond (!u4.1.1)
   (if(0:Int)<=t5/\t5<(b0.length:Int)then(
   R5 (t1.1,()) (AW (t5+1)) (AW (t6+1)) (b0.set (t5.toNat) x3))else none)
  (R5 (t1.1,()) t5 (AW (t6+1)) b0))else none)
 (if(0:Int)<=t5/\t5<=(b0.length:Int)/\(b0.length:Int)<=(b0.length:Int)then(
 let x6:AAB:=(b0.take (t5.toNat)++List.replicate (((b0.length:Int).toNat)-(t5.toNat)) 0++b0.drop ((t5.toNat)+(((b0.length:Int).toNat)-(t5.toNat))))
 if(0:Int)<=(0:Int)/\(0:Int)<=t5/\t5<=(x6.length:Int)then(
 some (((),()),((),((x6.drop 0).take ((t5.toNat)-0)),())))else none)else none)
def B7:Nat->El
 |0=>fun _ _ _ _=>none
 |n+1=>EF (B7 n)
def EE(R5:El)(p1:ADM×Unit)(b0:AAB):Option DW:=
 (Dx b0 (p1.1,())).bind fun u1=>
 cond (u1.1.1==(-1))
  (some (((),()),((),b0,())))
 (R5 (p1.1,()) u1.1.1 (AW (u1.1.1+1)) b0)
def Cx(p1:ADM×Unit)(b0:AAB):Option DW:=EE (B7 AZ) p1 b0
abbrev w7:Type:=ADI×ADM
def Nw(p0 p1:AAB):Option w7:=
 (DU p0).bind fun u1=>
 (Cx ((p1,()),()) u1.2.1).bind fun u2=>
 some (((),()),(u2.2.2.1,()))
abbrev L3:Type:=ABi×Unit
def DH(p0:ABl)(p1:Int):Option L3:=
 (Nw [p1] p0.2.2.2.1).bind fun u1=>
 some ((decide ((u1.2.1.length:Int)>0),()),())
abbrev VQ:Type:=ABq×Unit
abbrev ZD:Type:=List Int->Int->Int->List Int->Int->List Int->Option VQ
def Zc(R5:ZD)(t13:AAB)(t14 t15:Int)(AL:AAB)(AF:Int)(b1:AAB):Option VQ:=
 cond (decide (t15<t14))
  (if(0:Int)<=t15/\t15<(t13.length:Int)then(
  let x2:Int:=(t13.getD (t15.toNat) 0)
  if(0:Int)<=x2/\x2<(AL.length:Int)then(
  (Bv b1 (AL.getD (x2.toNat) 0)).bind fun u4=>
  cond (!u4.1.1)
   (if(0:Int)<=x2/\x2<(AL.length:Int)then(
   if b1.length+1<=C_ then(
   R5 t13 t14 (AW (t15+1)) AL AF (b1++[(AL.getD (x2.toNat) 0)]))else none)else none)
  (R5 t13 t14 (AW (t15+1)) AL AF b1))else none)else none)
 (some (((b1.length:Int),()),()))
def O6:Nat->ZD
 |0=>fun _ _ _ _ _ _=>none
 |n+1=>Zc (O6 n)
def Za(R5:ZD)(p0:ABS)(p1:AAB):Option VQ:=
 (EM (p0.1,p0.2.1,()) p1).bind fun u1=>
 cond (!u1.1.1)
  (some (((-1),()),()))
 (R5 p1 (p1.length:Int) 0 p0.1 p0.2.1 [])
def Zk(p0:ABS)(p1:AAB):Option VQ:=Za (O6 AZ) p0 p1
abbrev kD:Type:=ABi×Unit
def Gz(p0:ABS)(p1:AAB):Option kD:=
 (EM (p0.1,p0.2.1,()) p1).bind fun u1=>
 cond (u1.1.1)
  ((Zk (p0.1,p0.2.1,()) p1).bind fun u2=>
  some (((decide (u2.1.1>=p0.2.1)),()),()))
 (some ((false,()),()))
abbrev KL:Type:=ABi×Unit
abbrev M0:Type:=ABl->AAQ->Int->Int->Option KL
def Kb(R4:M0)(t0:ABl)(t32:AAQ)(t33 t34:Int):Option KL:=
 cond (decide (t34<t33))
  (if(0:Int)<=t34/\t34<(t32.length:Int)then(
  (FU ((t32.getD (t34.toNat) ([],[],0,())).1,(t32.getD (t34.toNat) ([],[],0,())).2.1,(t32.getD (t34.toNat) ([],[],0,())).2.2.1,())).bind fun u5=>
  cond (!u5.1.1)
   (some ((false,()),()))
  ((DH t0 t34).bind fun u6=>
  cond (u6.1.1)
   (cond (decide ((AW ((AW ((((t32.getD (t34.toNat) ([],[],0,())).1).length:Int)+(((t32.getD (t34.toNat) ([],[],0,())).2.1).length:Int)))+((t32.getD (t34.toNat) ([],[],0,())).2.2.1)))>0))
    (some ((false,()),()))
   (R4 t0 t32 t33 (AW (t34+1))))
  (R4 t0 t32 t33 (AW (t34+1)))))else none)
 (cond (t0.2.2.2.2.2.2.2.2.2.2.1)
  (some ((true,()),()))
 ((Gz (t0.1,t0.2.1,()) t0.2.2.2.1).bind fun Dw=>
 some ((!Dw.1.1,()),())))
def FY:Nat->M0
 |0=>fun _ _ _ _=>none
 |n+1=>Kb (FY n)
def QY(R4:M0)(p0:ABl):Option KL:=
 cond (((p0.2.2.1.length:Int) !=(p0.1.length:Int)))
  (some ((false,()),()))
 ((EM (p0.1,p0.2.1,()) p0.2.2.2.1).bind fun u3=>
 cond (!u3.1.1)
  (some ((false,()),()))
 (R4 p0 p0.2.2.1 (p0.2.2.1.length:Int) 0))
def L2(p0:ABl):Option KL:=QY (FY AZ) p0
abbrev vJ:Type:=ABi×Unit
def cz(p0:ABS)(p1:AHm):Option vJ:=
 (Gz (p0.1,p0.2.1,()) p1.1).bind fun u1=>
 cond (u1.1.1)
  ((BE p1.2.2.1 0 60).bind fun u2=>
  cond (u2.1.1)
   (cond (p1.2.1)
    (some ((true,()),()))
   (some ((p1.2.2.1==0,()),())))
  (some ((false,()),())))
 (some ((false,()),()))
abbrev Tc:Type:=ABi×Unit
abbrev aM:Type:=AAH->Int->Int->List Int->Int->AAH->Int->Option Tc
def U4(R2:aM)(t9:AAH)(t10 t11:Int)(AL:AAB)(AF:Int)(BT:AAH)(Au:Int):Option Tc:=
 cond (decide (t11<t10))
  (if(0:Int)<=t11/\t11<(t9.length:Int)then(
  (cz (AL,AF,()) ((t9.getD (t11.toNat) ([],false,0,())).1,(t9.getD (t11.toNat) ([],false,0,())).2.1,(t9.getD (t11.toNat) ([],false,0,())).2.2.1,())).bind fun u1=>
  cond (!u1.1.1)
   (some ((false,()),()))
  (cond (((t9.getD (t11.toNat) ([],false,0,())).2.1))
   (cond (t11==(AW ((BT.length:Int)-1)))
    (some ((false,()),()))
   (cond (decide (t11>0))
    (if(0:Int)<=AW (t11-1)/\AW (t11-1)<(BT.length:Int)then(
    cond (!((BT.getD ((AW (t11-1)).toNat) ([],false,0,())).2.1))
     (some ((false,()),()))
    (R2 t9 t10 (AW (t11+1)) AL AF BT Au))else none)
   (R2 t9 t10 (AW (t11+1)) AL AF BT Au)))
  (R2 t9 t10 (AW (t11+1)) AL AF BT Au)))else none)
 (cond (Au==0)
  ((FO (AL,AF,())).bind fun u5=>
  cond (u5.1.1)
   (cond ((decide ((BT.length:Int)<=30)))
    (some ((true,()),()))
   (some ((false,()),())))
  (some ((false,()),())))
 ((FW Au).bind fun u7=>
 (BE u7.1.1 1 (BT.length:Int)).bind fun u8=>
 (FO (AL,AF,())).bind fun u9=>
 cond (u9.1.1)
  (cond ((decide ((BT.length:Int)<=30)))
   (some ((u8.1.1,()),()))
  (some ((false,()),())))
 (some ((false,()),()))))
def Lg:Nat->aM
 |0=>fun _ _ _ _ _ _ _=>none
 |n+1=>U4 (Lg n)
def bm(R2:aM)(p0:ABS)(p1:ACc):Option Tc:=
 R2 p1.1 (p1.1.length:Int) 0 p0.1 p0.2.1 p1.1 p1.2.1
def Ll(p0:ABS)(p1:ACc):Option Tc:=bm (Lg AZ) p0 p1
abbrev rD:Type:=ABq×Unit
def cW(p0:Bool):Option rD:=
 cond (p0)
  (some ((1,()),()))
 (some ((0,()),()))
abbrev Nl:Type:=ABi×Unit
abbrev Ux:Type:=Int->ACG->Int->Int->List Int->Int->Int->ACG->Option Nl
def W6(R3:Ux)(t5:Int)(t9:ACG)(t10 t11:Int)(AL:AAB)(AF BT:Int)(Au:ACG):Option Nl:=
 cond (decide (t11<t10))
  (if(0:Int)<=t11/\t11<(t9.length:Int)then(
  (GR ((t9.getD (t11.toNat) ([],[],false,())).1)).bind fun u3=>
  cond (!u3.1.1)
   (some ((false,()),()))
  ((EM (AL,AF,()) ((t9.getD (t11.toNat) ([],[],false,())).2.1)).bind fun u4=>
  cond (!u4.1.1)
   (some ((false,()),()))
  ((Gz (AL,AF,()) ((t9.getD (t11.toNat) ([],[],false,())).2.1)).bind fun u6=>
  cond (((t9.getD (t11.toNat) ([],[],false,())).2.2.1) !=u6.1.1)
   (some ((false,()),()))
  ((cW (!((t9.getD (t11.toNat) ([],[],false,())).2.2.1))).bind fun u8=>
  R3 (AW (t5+u8.1.1)) t9 t10 (AW (t11+1)) AL AF BT Au))))else none)
 ((FO (AL,AF,())).bind fun u9=>
 cond (u9.1.1)
  ((H0 BT).bind fun EI=>
  cond (EI.1.1)
   (cond ((decide ((Au.length:Int)<=60)))
    (some ((decide (t5<=6),()),()))
   (some ((false,()),())))
  (some ((false,()),())))
 (some ((false,()),())))
def MW:Nat->Ux
 |0=>fun _ _ _ _ _ _ _ _=>none
 |n+1=>W6 (MW n)
def W_(R3:Ux)(p0:ABS)(p1:ACi):Option Nl:=
 R3 0 p1.2.1 (p1.2.1.length:Int) 0 p0.1 p0.2.1 p1.1 p1.2.1
def Gv(p0:ABS)(p1:ACi):Option Nl:=W_ (MW AZ) p0 p1
abbrev ez:Type:=ABi×Unit
def J1(p0:ABl)(p1:Int):Option ez:=
 (BE p1 1 (p0.2.2.2.2.1.length:Int)).bind fun u2=>
 some ((u2.1.1,()),())
abbrev JK:Type:=ABi×Unit
abbrev MK:Type:=ABl->AAj->Int->Int->Option JK
def J8(R2:MK)(t0:ABl)(t8:AAj)(t9 t10:Int):Option JK:=
 cond (decide (t10<t9))
  (if(0:Int)<=t10/\t10<(t8.length:Int)then(
  (Gv (t0.1,t0.2.1,()) ((t8.getD (t10.toNat) (0,[],())).1,(t8.getD (t10.toNat) (0,[],())).2.1,())).bind fun u2=>
  cond (!u2.1.1)
   (some ((false,()),()))
  ((J1 t0 ((t8.getD (t10.toNat) (0,[],())).1)).bind fun u4=>
  cond (!u4.1.1)
   (some ((false,()),()))
  (cond (decide (t10>0))
   (if(0:Int)<=AW (t10-1)/\AW (t10-1)<(t0.2.2.2.2.2.2.1.length:Int)then(
   cond (decide (((t0.2.2.2.2.2.2.1.getD ((AW (t10-1)).toNat) (0,[],())).1)>=((t8.getD (t10.toNat) (0,[],())).1)))
    (some ((false,()),()))
   (R2 t0 t8 t9 (AW (t10+1))))else none)
  (R2 t0 t8 t9 (AW (t10+1))))))else none)
 (some ((decide ((t0.2.2.2.2.2.2.1.length:Int)<=4),()),()))
def Ew:Nat->MK
 |0=>fun _ _ _ _=>none
 |n+1=>J8 (Ew n)
def PO(R2:MK)(p0:ABl):Option JK:=
 R2 p0 p0.2.2.2.2.2.2.1 (p0.2.2.2.2.2.2.1.length:Int) 0
def LB(p0:ABl):Option JK:=PO (Ew AZ) p0
abbrev vh:Type:=ABq×Unit
def Ud(p0:Int):Option vh:=
 (EJ p0).bind fun u1=>
 cond (!u1.1.1)
  (some ((0,()),()))
 (some ((p0.tmod 4294967296,()),()))
abbrev sN:Type:=ABq×Unit
def Th(p0:ABY):Option sN:=
 cond ((p0.2.2.2.1.length:Int)==0)
  (some ((0,()),()))
 (let x2:Int:=(p0.2.2.2.1.length:Int)
 if(0:Int)<=AW (x2-1)/\AW (x2-1)<(p0.2.2.2.1.length:Int)then(
 (Ud ((p0.2.2.2.1.getD ((AW (x2-1)).toNat) (0,0,false,[],())).1)).bind fun u4=>
 some ((u4.1.1,()),()))else none)
abbrev VB:Type:=ABi×Unit
abbrev YM:Type:=ABJ->Int->Int->Int->Int->List Int->ABJ->Bool->List AAB->Option VB
def TO(R2:YM)(t6:ABJ)(t7 t8 AL AF:Int)(Aa:AAB)(Ck:ABJ)(DO:Bool)(Ab:List AAB):Option VB:=
 cond (decide (t8<t7))
  (if(0:Int)<=t8/\t8<(t6.length:Int)then(
  (NU ((t6.getD (t8.toNat) (0,0,false,[],())).1,(t6.getD (t8.toNat) (0,0,false,[],())).2.1,(t6.getD (t8.toNat) (0,0,false,[],())).2.2.1,(t6.getD (t8.toNat) (0,0,false,[],())).2.2.2.1,())).bind fun u2=>
  cond (!u2.1.1)
   (some ((false,()),()))
  ((FW ((t6.getD (t8.toNat) (0,0,false,[],())).1)).bind fun u4=>
  cond (u4.1.1 !=AF)
   (some ((false,()),()))
  (cond (decide (((t6.getD (t8.toNat) (0,0,false,[],())).2.1)>=AL))
   (some ((false,()),()))
  (R2 t6 t7 (AW (t8+1)) AL AF Aa Ck DO Ab))))else none)
 ((LQ Ck).bind fun u6=>
 some ((u6.1.1,()),()))
def Mp:Nat->YM
 |0=>fun _ _ _ _ _ _ _ _ _=>none
 |n+1=>TO (Mp n)
def aB(R2:YM)(p0:ABY):Option VB:=
 R2 p0.2.2.2.1 (p0.2.2.2.1.length:Int) 0 p0.1 p0.2.1 p0.2.2.1 p0.2.2.2.1 p0.2.2.2.2.1 p0.2.2.2.2.2.1
def Vg(p0:ABY):Option VB:=aB (Mp AZ) p0
abbrev VU:Type:=ABi×Unit
abbrev YF:Type:=List AAB->Int->Int->List Int->Int->Int->Int->List Int->ABJ->Bool->List AAB->Option VU
def TF(R2:YF)(t10:List AAB)(t11 t12:Int)(AL:AAB)(AF BT Au:Int)(Da:AAB)(HP:ABJ)(ND:Bool)(DZ:List AAB):Option VU:=
 cond (decide (t12<t11))
  (if(0:Int)<=t12/\t12<(t10.length:Int)then(
  (EM (AL,AF,()) (t10.getD (t12.toNat) [])).bind fun u2=>
  cond (!u2.1.1)
   (some ((false,()),()))
  (R2 t10 t11 (AW (t12+1)) AL AF BT Au Da HP ND DZ))else none)
 (cond (ND)
  ((Th (BT,Au,Da,HP,ND,DZ,())).bind fun u3=>
  (H0 Au).bind fun u4=>
  cond (u4.1.1)
   ((BE BT (AW (Au+1)) 30).bind fun u5=>
   (FO (AL,AF,())).bind fun u6=>
   cond (u6.1.1)
    (cond (u5.1.1)
     ((EM (AL,AF,()) Da).bind fun u7=>
     cond (u7.1.1)
      ((Vg (BT,Au,Da,HP,ND,DZ,())).bind fun u8=>
      cond (u8.1.1)
       (some ((((DZ.length:Int)==u3.1.1),()),()))
      (some ((false,()),())))
     (some ((false,()),())))
    (some ((false,()),())))
   (some ((false,()),())))
  ((FO (AL,AF,())).bind fun EI=>
  cond (EI.1.1)
   (some ((false,()),()))
  (some ((false,()),()))))
 ((H0 Au).bind fun Mv=>
 cond (Mv.1.1)
  ((BE BT (AW (Au+1)) 30).bind fun Dw=>
  (FO (AL,AF,())).bind fun M6=>
  cond (M6.1.1)
   (cond (Dw.1.1)
    ((EM (AL,AF,()) Da).bind fun KV=>
    cond (KV.1.1)
     ((Vg (BT,Au,Da,HP,ND,DZ,())).bind fun Zn=>
     cond (Zn.1.1)
      (some ((((DZ.length:Int)==0),()),()))
     (some ((false,()),())))
    (some ((false,()),())))
   (some ((false,()),())))
  (some ((false,()),())))
 ((FO (AL,AF,())).bind fun ZK=>
 cond (ZK.1.1)
  (some ((false,()),()))
 (some ((false,()),())))))
def MZ:Nat->YF
 |0=>fun _ _ _ _ _ _ _ _ _ _ _=>none
 |n+1=>TF (MZ n)
def Z6(R2:YF)(p0:ABS)(p1:ABY):Option VU:=
 R2 p1.2.2.2.2.2.1 (p1.2.2.2.2.2.1.length:Int) 0 p0.1 p0.2.1 p1.1 p1.2.1 p1.2.2.1 p1.2.2.2.1 p1.2.2.2.2.1 p1.2.2.2.2.2.1
def IF(p0:ABS)(p1:ABY):Option VU:=Z6 (MZ AZ) p0 p1
abbrev P0:Type:=ABq×Unit
abbrev T0:Type:=AAH->Int->Int->Option P0
def Pm(R2:T0)(t6:AAH)(t7 t8:Int):Option P0:=
 cond (decide (t8<t7))
  (if(0:Int)<=t8/\t8<(t6.length:Int)then(
  cond (!((t6.getD (t8.toNat) ([],false,0,())).2.1))
   (some ((AW (t8+1),()),()))
  (R2 t6 t7 (AW (t8+1))))else none)
 (some ((0,()),()))
def It:Nat->T0
 |0=>fun _ _ _=>none
 |n+1=>Pm (It n)
def Vt(R2:T0)(p0:ACc):Option P0:=
 R2 p0.1 (p0.1.length:Int) 0
def IB(p0:ACc):Option P0:=Vt (It AZ) p0
abbrev LA:Type:=ABi×Unit
abbrev OB:Type:=ABl->AA6->Int->Int->Option LA
def LY(R2:OB)(t0:ABl)(t8:AA6)(t9 t10:Int):Option LA:=
 cond (decide (t10<t9))
  (if(0:Int)<=t10/\t10<(t8.length:Int)then(
  (IF (t0.1,t0.2.1,()) ((t8.getD (t10.toNat) (0,0,[],[],false,[],())).1,(t8.getD (t10.toNat) (0,0,[],[],false,[],())).2.1,(t8.getD (t10.toNat) (0,0,[],[],false,[],())).2.2.1,(t8.getD (t10.toNat) (0,0,[],[],false,[],())).2.2.2.1,(t8.getD (t10.toNat) (0,0,[],[],false,[],())).2.2.2.2.1,(t8.getD (t10.toNat) (0,0,[],[],false,[],())).2.2.2.2.2.1,())).bind fun u2=>
  cond (!u2.1.1)
   (some ((false,()),()))
  (cond (((t8.getD (t10.toNat) (0,0,[],[],false,[],())).1) !=(t0.2.2.2.2.1.length:Int))
   (some ((false,()),()))
  ((IB (t0.2.2.2.2.1,t0.2.2.2.2.2.1,())).bind fun u6=>
  cond (((t8.getD (t10.toNat) (0,0,[],[],false,[],())).2.1) !=u6.1.1)
   (some ((false,()),()))
  (R2 t0 t8 t9 (AW (t10+1))))))else none)
 (some ((decide ((t0.2.2.2.2.2.2.2.1.length:Int)<=1),()),()))
def Ft:Nat->OB
 |0=>fun _ _ _ _=>none
 |n+1=>LY (Ft n)
def Q5(R2:OB)(p0:ABl):Option LA:=
 R2 p0 p0.2.2.2.2.2.2.2.1 (p0.2.2.2.2.2.2.2.1.length:Int) 0
def NH(p0:ABl):Option LA:=Q5 (Ft AZ) p0
abbrev o3:Type:=ABi×Unit
def VK(p0:AEA):Option o3:=
 (BE p0.1 1 31).bind fun u1=>
 cond (u1.1.1)
  ((BE p0.2.1 1 61).bind fun u2=>
  cond (u2.1.1)
   (some ((decide ((p0.2.2.1.length:Int)<=120),()),()))
  (some ((false,()),())))
 (some ((false,()),()))
abbrev JE:Type:=ABi×Unit
abbrev Mq:Type:=ABl->ABA->Int->Int->Option JE
def J2(R2:Mq)(t0:ABl)(t8:ABA)(t9 t10:Int):Option JE:=
 cond (decide (t10<t9))
  (if(0:Int)<=t10/\t10<(t8.length:Int)then(
  (VK ((t8.getD (t10.toNat) (0,0,[],())).1,(t8.getD (t10.toNat) (0,0,[],())).2.1,(t8.getD (t10.toNat) (0,0,[],())).2.2.1,())).bind fun u2=>
  cond (!u2.1.1)
   (some ((false,()),()))
  (R2 t0 t8 t9 (AW (t10+1))))else none)
 (some (((t0.2.2.2.2.2.2.2.2.1.length:Int)==2,()),()))
def Ex:Nat->Mq
 |0=>fun _ _ _ _=>none
 |n+1=>J2 (Ex n)
def PN(R2:Mq)(p0:ABl):Option JE:=
 R2 p0 p0.2.2.2.2.2.2.2.2.1 (p0.2.2.2.2.2.2.2.2.1.length:Int) 0
def LC(p0:ABl):Option JE:=PN (Ex AZ) p0
abbrev L9:Type:=ABi×Unit
abbrev O3:Type:=ABl->AAT->Int->Int->Option L9
def MT(R2:O3)(t0:ABl)(t8:AAT)(t9 t10:Int):Option L9:=
 cond (decide (t10<t9))
  (if(0:Int)<=t10/\t10<(t8.length:Int)then(
  (FW ((t8.getD (t10.toNat) (0,[],false,())).1)).bind fun u3=>
  (J1 t0 u3.1.1).bind fun u4=>
  cond (!u4.1.1)
   (some ((false,()),()))
  ((GR ((t8.getD (t10.toNat) (0,[],false,())).2.1)).bind fun u6=>
  cond (!u6.1.1)
   (some ((false,()),()))
  (cond (decide (t10>0))
   (if(0:Int)<=AW (t10-1)/\AW (t10-1)<(t0.2.2.2.2.2.2.2.2.2.1.length:Int)then(
   cond (decide (((t0.2.2.2.2.2.2.2.2.2.1.getD ((AW (t10-1)).toNat) (0,[],false,())).1)>=((t8.getD (t10.toNat) (0,[],false,())).1)))
    (some ((false,()),()))
   (R2 t0 t8 t9 (AW (t10+1))))else none)
  (R2 t0 t8 t9 (AW (t10+1))))))else none)
 (some ((decide ((t0.2.2.2.2.2.2.2.2.2.1.length:Int)<=120),()),()))
def Ga:Nat->O3
 |0=>fun _ _ _ _=>none
 |n+1=>MT (Ga n)
def SH(R2:O3)(p0:ABl):Option L9:=
 R2 p0 p0.2.2.2.2.2.2.2.2.2.1 (p0.2.2.2.2.2.2.2.2.2.1.length:Int) 0
def Ob(p0:ABl):Option L9:=SH (Ga AZ) p0
abbrev rX:Type:=ABi×Unit
def Kz(p0:ABl):Option rX:=
 (FO (p0.1,p0.2.1,())).bind fun u1=>
 cond (u1.1.1)
  ((L2 (p0.1,p0.2.1,p0.2.2.1,p0.2.2.2.1,p0.2.2.2.2.1,p0.2.2.2.2.2.1,p0.2.2.2.2.2.2.1,p0.2.2.2.2.2.2.2.1,p0.2.2.2.2.2.2.2.2.1,p0.2.2.2.2.2.2.2.2.2.1,p0.2.2.2.2.2.2.2.2.2.2.1,())).bind fun u2=>
  cond (u2.1.1)
   ((Ll (p0.1,p0.2.1,()) (p0.2.2.2.2.1,p0.2.2.2.2.2.1,())).bind fun u3=>
   cond (u3.1.1)
    ((LB (p0.1,p0.2.1,p0.2.2.1,p0.2.2.2.1,p0.2.2.2.2.1,p0.2.2.2.2.2.1,p0.2.2.2.2.2.2.1,p0.2.2.2.2.2.2.2.1,p0.2.2.2.2.2.2.2.2.1,p0.2.2.2.2.2.2.2.2.2.1,p0.2.2.2.2.2.2.2.2.2.2.1,())).bind fun u4=>
    cond (u4.1.1)
     ((NH (p0.1,p0.2.1,p0.2.2.1,p0.2.2.2.1,p0.2.2.2.2.1,p0.2.2.2.2.2.1,p0.2.2.2.2.2.2.1,p0.2.2.2.2.2.2.2.1,p0.2.2.2.2.2.2.2.2.1,p0.2.2.2.2.2.2.2.2.2.1,p0.2.2.2.2.2.2.2.2.2.2.1,())).bind fun u5=>
     cond (u5.1.1)
      ((LC (p0.1,p0.2.1,p0.2.2.1,p0.2.2.2.1,p0.2.2.2.2.1,p0.2.2.2.2.2.1,p0.2.2.2.2.2.2.1,p0.2.2.2.2.2.2.2.1,p0.2.2.2.2.2.2.2.2.1,p0.2.2.2.2.2.2.2.2.2.1,p0.2.2.2.2.2.2.2.2.2.2.1,())).bind fun u6=>
      cond (u6.1.1)
       ((Ob (p0.1,p0.2.1,p0.2.2.1,p0.2.2.2.1,p0.2.2.2.2.1,p0.2.2.2.2.2.1,p0.2.2.2.2.2.2.1,p0.2.2.2.2.2.2.2.1,p0.2.2.2.2.2.2.2.2.1,p0.2.2.2.2.2.2.2.2.2.1,p0.2.2.2.2.2.2.2.2.2.2.1,())).bind fun u7=>
       some ((u7.1.1,()),()))
      (some ((false,()),())))
     (some ((false,()),())))
    (some ((false,()),())))
   (some ((false,()),())))
  (some ((false,()),())))
 (some ((false,()),()))
abbrev yo:Type:=ABi×Unit
def CU(p0 p1 p2:Int):Option yo:=
 cond (decide (p0>=p1))
  (some ((decide (p0<=p2),()),()))
 (some ((false,()),()))
abbrev RT:Type:=ABi×Unit
abbrev Ub:Type:=Int->List Int->Int->Option RT
def Wv(R4:Ub)(t3:Int)(AL:AAB)(AF:Int):Option RT:=
 cond ((decide (t3<(AL.length:Int))))
  (if(0:Int)<=t3/\t3<(AL.length:Int)then(
  (CU (AL.getD (t3.toNat) 0) 0 7).bind fun u5=>
  cond (!u5.1.1)
   (some ((false,()),()))
  (R4 (AW (t3+1)) AL AF))else none)
 (some ((true,()),()))
def Mf:Nat->Ub
 |0=>fun _ _ _=>none
 |n+1=>Wv (Mf n)
def W4(R4:Ub)(p0:ABS):Option RT:=
 (CU (p0.1.length:Int) 1 8).bind fun u1=>
 cond (!u1.1.1)
  (some ((false,()),()))
 ((CU p0.2.1 1 4).bind fun u2=>
 cond (!u2.1.1)
  (some ((false,()),()))
 (R4 0 p0.1 p0.2.1))
def Gp(p0:ABS):Option RT:=W4 (Mf AZ) p0
abbrev rq:Type:=AHs×Unit
def dQ(p0:Int):Option rq:=
 cond (p0==8)
  (some (([],()),()))
 (cond (p0==10)
  (some (([],()),()))
 (cond (p0==12)
  (some (([],()),()))
 (cond (p0==2)
  (some (([65,84],()),()))
 (cond (p0==3)
  (some (([65,66,67],()),()))
 (cond (p0==5)
  (some (([65,66],()),()))
 (cond (p0==14)
  (some (([65,66],()),()))
 (cond (p0==11)
  (some (([66,67],()),()))
 (cond (p0==13)
  (some (([80],()),()))
 (some (([65],()),()))))))))))
abbrev Qw:Type:=ABi×Unit
abbrev ZG:Type:=Int->Int->Int->Int->Int->Int->List UInt8->Int->Int->Int->Int->List UInt8->List Int->Option Qw
def Di(R4:ZG)(t12 t13 AL AF Aa Ck:Int)(DO:ACH)(BT Au Da HP:Int)(ND:ACH)(b2:AAB):Option Qw:=
 cond (decide (t13<t12))
  (if(0:Int)<=t13/\t13<(b2.length:Int)then(
  let x3:Int:=(b2.getD (t13.toNat) 0)
  cond (x3==65)
   (R4 t12 (AW (t13+1)) AL AF Aa Ck DO BT 0 Da HP ND b2)
  (cond (x3==80)
   (R4 t12 (AW (t13+1)) AL AF Aa Ck DO BT 0 Da HP ND b2)
  (cond (x3==66)
   (R4 t12 (AW (t13+1)) AL AF Aa Ck DO BT Au 0 HP ND b2)
  (cond (x3==67)
   (R4 t12 (AW (t13+1)) AL AF Aa Ck DO BT Au Da 0 ND b2)
  (cond (x3==84)
   (R4 t12 (AW (t13+1)) AL AF Aa Ck DO BT Au Da HP [] b2)
  (R4 t12 (AW (t13+1)) AL AF Aa Ck DO BT Au Da HP ND b2))))))else none)
 ((BE AL 1 16).bind fun u4=>
 cond (u4.1.1)
  (cond (((BT==0)&&((Au==0)&&((Da==0)&&((HP==0)&&((ND==[])&&true))))))
   ((GR DO).bind fun u6=>
   some ((u6.1.1,()),()))
  (some ((false,()),())))
 (some ((false,()),())))
def Dz:Nat->ZG
 |0=>fun _ _ _ _ _ _ _ _ _ _ _ _ _=>none
 |n+1=>Di (Dz n)
def Zg(R4:ZG)(p0:ADe):Option Qw:=
 (dQ p0.1).bind fun u1=>
 if u1.1.1.length<=C_ then(
 let x2:AAB:=(u1.1.1.map fun c=>(c.toNat:Int))
 R4 (x2.length:Int) 0 p0.1 p0.2.1 p0.2.2.1 p0.2.2.2.1 p0.2.2.2.2.1 0 p0.2.1 p0.2.2.1 p0.2.2.2.1 p0.2.2.2.2.1 x2)else none
def ZW(p0:ADe):Option Qw:=Zg (Dz AZ) p0
abbrev I7:Type:=AEJ×AE2
abbrev Pq:Type:=AAH->Int->Int->Int->AAH->Int->AAH->Option I7
def SM(R3:Pq)(t10:AAH)(t11 t12 AF:Int)(b1:AAH)(LZ:Int)(b3:AAH):Option I7:=
 cond (decide (t12<t11))
  (if(0:Int)<=t12/\t12<(t10.length:Int)then(
  (DU ((t10.getD (t12.toNat) ([],false,0,())).1)).bind fun u1=>
  if b3.length+1<=C_ then(
  R3 t10 t11 (AW (t12+1)) AF b1 LZ (b3++[(u1.2.1,(t10.getD (t12.toNat) ([],false,0,())).2.1,(t10.getD (t12.toNat) ([],false,0,())).2.2.1,())]))else none)else none)
 (some ((((),LZ,()),()),(b3,())))
def IW:Nat->Pq
 |0=>fun _ _ _ _ _ _ _=>none
 |n+1=>SM (IW n)
def SA(R3:Pq)(p0:ACc):Option I7:=
 R3 p0.1 (p0.1.length:Int) 0 0 [] p0.2.1 []
def Eo(p0:ACc):Option I7:=SA (IW AZ) p0
abbrev iV:Type:=ADI×AGF
def Je(p0:ABJ):Option iV:=
 if 0+p0.length<=C_ then(
 some (((),()),(p0,())))else none
abbrev nf:Type:=AFW×AEK
def DJ(p0:ACd):Option nf:=
 (Je p0.1).bind fun u1=>
 (Je p0.2.1).bind fun u2=>
 some ((((),(),p0.2.2.1,()),()),(u1.2.1,u2.2.1,()))
abbrev K3:Type:=AGU×AE5
abbrev Rb:Type:=ACG->Int->Int->Int->ACG->Int->ACG->Option K3
def UI(R3:Rb)(t10:ACG)(t11 t12 AL:Int)(b1:ACG)(JN:Int)(b3:ACG):Option K3:=
 cond (decide (t12<t11))
  (if(0:Int)<=t12/\t12<(t10.length:Int)then(
  (DU ((t10.getD (t12.toNat) ([],[],false,())).2.1)).bind fun u2=>
  if b3.length+1<=C_ then(
  R3 t10 t11 (AW (t12+1)) AL b1 JN (b3++[((t10.getD (t12.toNat) ([],[],false,())).1,u2.2.1,(t10.getD (t12.toNat) ([],[],false,())).2.2.1,())]))else none)else none)
 (some (((JN,(),()),()),(b3,())))
def KG:Nat->Rb
 |0=>fun _ _ _ _ _ _ _=>none
 |n+1=>UI (KG n)
def UL(R3:Rb)(p0:ACi):Option K3:=
 R3 p0.2.1 (p0.2.1.length:Int) 0 0 [] p0.1 []
def GF(p0:ACi):Option K3:=UL (KG AZ) p0
abbrev RH:Type:=AFE×AEQ
abbrev Uo:Type:=List AAB->Int->Int->Int->Int->Bool->List Int->ABJ->List AAB->Int->Int->Bool->List Int->ABJ->List AAB->Option RH
def W9(R4:Uo)(t17:List AAB)(t18 t19 AL AF:Int)(DO:Bool)(b1:AAB)(b2:ABJ)(b3:List AAB)(lP gq:Int)(yh:Bool)(b5:AAB)(b6:ABJ)(b7:List AAB):Option RH:=
 cond (decide (t19<t18))
  (if(0:Int)<=t19/\t19<(t17.length:Int)then(
  (DU (t17.getD (t19.toNat) [])).bind fun u4=>
  if b7.length+1<=C_ then(
  R4 t17 t18 (AW (t19+1)) AL AF DO b1 b2 b3 lP gq yh b5 b6 (b7++[u4.2.1]))else none)else none)
 (some (((lP,gq,(),(),yh,(),()),()),(b5,b6,b7,())))
def Mm:Nat->Uo
 |0=>fun _ _ _ _ _ _ _ _ _ _ _ _ _ _ _=>none
 |n+1=>W9 (Mm n)
def W8(R4:Uo)(p0:ABY):Option RH:=
 (DU p0.2.2.1).bind fun u1=>
 (Je p0.2.2.2.1).bind fun u2=>
 R4 p0.2.2.2.2.2.1 (p0.2.2.2.2.2.1.length:Int) 0 0 0 false [] [] [] p0.1 p0.2.1 p0.2.2.2.2.1 u1.2.1 u2.2.1 []
def Gn(p0:ABY):Option RH:=W8 (Mm AZ) p0
abbrev kV:Type:=AGn×AGt
def Nf(p0:AEA):Option kV:=
 if 0+p0.2.2.1.length<=C_ then(
 some (((p0.1,p0.2.1,(),()),()),(p0.2.2.1,())))else none
abbrev Ee:Type:=AG7×AEE
abbrev Ip:Type:=AAQ->Int->Int->List Int->Int->AAQ->List Int->AAH->Int->AAj->AA6->ABA->AAT->Bool->Int->Int->Bool->List Int->AAQ->List Int->AAH->AAj->AA6->ABA->AAT->Int->Int->Bool->List Int->AAQ->List Int->AAH->AAj->AA6->ABA->AAT->Option Ee
abbrev Ii:Type:=AAj->Int->Int->List Int->Int->AAQ->List Int->AAH->Int->AAj->AA6->ABA->AAT->Bool->Int->Int->Bool->List Int->AAQ->List Int->AAH->AAj->AA6->ABA->AAT->Int->Int->Bool->List Int->AAQ->List Int->AAH->AAj->AA6->ABA->AAT->Option Ee
abbrev Hz:Type:=AA6->Int->Int->List Int->Int->AAQ->List Int->AAH->Int->AAj->AA6->ABA->AAT->Bool->Int->Int->Bool->List Int->AAQ->List Int->AAH->AAj->AA6->ABA->AAT->Int->Int->Bool->List Int->AAQ->List Int->AAH->AAj->AA6->ABA->AAT->Option Ee
abbrev Ht:Type:=ABA->Int->Int->List Int->Int->AAQ->List Int->AAH->Int->AAj->AA6->ABA->AAT->Bool->Int->Int->Bool->List Int->AAQ->List Int->AAH->AAj->AA6->ABA->AAT->Int->Int->Bool->List Int->AAQ->List Int->AAH->AAj->AA6->ABA->AAT->Option Ee
def Vv(R3:Ip)(R8:Ii)(R13:Hz)(R18:Ht)(t25:AAQ)(t26 t27:Int)(AL:AAB)(AF:Int)(Aa:AAQ)(Ck:AAB)(DO:AAH)(Ab:Int)(DI:AAj)(DC:AA6)(D_:ABA)(EG:AAT)(AM:Bool)(Au DZ:Int)(Dl:Bool)(b2:AAB)(b3:AAQ)(b4:AAB)(b5:AAH)(b6:AAj)(b7:AA6)(b8:ABA)(b9:AAT)(Cr DK:Int)(CE:Bool)(Ez:AAB)(DY:AAQ)(Gm:AAB)(Gl:AAH)(ES:AAj)(Ey:AA6)(Fq:ABA)(T6:AAT):Option Ee:=
 cond (decide (t27<t26))
  (if(0:Int)<=t27/\t27<(t25.length:Int)then(
  (DJ ((t25.getD (t27.toNat) ([],[],0,())).1,(t25.getD (t27.toNat) ([],[],0,())).2.1,(t25.getD (t27.toNat) ([],[],0,())).2.2.1,())).bind fun Zn=>
  if DY.length+1<=C_ then(
  R3 t25 t26 (AW (t27+1)) AL AF Aa Ck DO Ab DI DC D_ EG AM Au DZ Dl b2 b3 b4 b5 b6 b7 b8 b9 Cr DK CE Ez (DY++[(Zn.2.1,Zn.2.2.1,Zn.1.1.2.2.1,())]) Gm Gl ES Ey Fq T6)else none)else none)
 (R8 DI (DI.length:Int) 0 AL AF Aa Ck DO Ab DI DC D_ EG AM Au DZ Dl b2 b3 b4 b5 b6 b7 b8 b9 Cr DK CE Ez DY Gm Gl ES Ey Fq T6)
def V6(R3:Ip)(R8:Ii)(R13:Hz)(R18:Ht)(t40:AAj)(t41 t42:Int)(AL:AAB)(AF:Int)(Aa:AAQ)(Ck:AAB)(DO:AAH)(Ab:Int)(DI:AAj)(DC:AA6)(D_:ABA)(EG:AAT)(AM:Bool)(Au DZ:Int)(Dl:Bool)(b2:AAB)(b3:AAQ)(b4:AAB)(b5:AAH)(b6:AAj)(b7:AA6)(b8:ABA)(b9:AAT)(Cr DK:Int)(CE:Bool)(Ez:AAB)(DY:AAQ)(Gm:AAB)(Gl:AAH)(ES:AAj)(Ey:AA6)(Fq:ABA)(T6:AAT):Option Ee:=
 cond (decide (t42<t41))
  (if(0:Int)<=t42/\t42<(t40.length:Int)then(
  (GF ((t40.getD (t42.toNat) (0,[],())).1,(t40.getD (t42.toNat) (0,[],())).2.1,())).bind fun Lt=>
  if ES.length+1<=C_ then(
  R8 t40 t41 (AW (t42+1)) AL AF Aa Ck DO Ab DI DC D_ EG AM Au DZ Dl b2 b3 b4 b5 b6 b7 b8 b9 Cr DK CE Ez DY Gm Gl (ES++[(Lt.1.1.1,Lt.2.1,())]) Ey Fq T6)else none)else none)
 (R13 DC (DC.length:Int) 0 AL AF Aa Ck DO Ab DI DC D_ EG AM Au DZ Dl b2 b3 b4 b5 b6 b7 b8 b9 Cr DK CE Ez DY Gm Gl ES Ey Fq T6)
def UT(R3:Ip)(R8:Ii)(R13:Hz)(R18:Ht)(t55:AA6)(t56 t57:Int)(AL:AAB)(AF:Int)(Aa:AAQ)(Ck:AAB)(DO:AAH)(Ab:Int)(DI:AAj)(DC:AA6)(D_:ABA)(EG:AAT)(AM:Bool)(Au DZ:Int)(Dl:Bool)(b2:AAB)(b3:AAQ)(b4:AAB)(b5:AAH)(b6:AAj)(b7:AA6)(b8:ABA)(b9:AAT)(Cr DK:Int)(CE:Bool)(Ez:AAB)(DY:AAQ)(Gm:AAB)(Gl:AAH)(ES:AAj)(Ey:AA6)(Fq:ABA)(T6:AAT):Option Ee:=
 cond (decide (t57<t56))
  (if(0:Int)<=t57/\t57<(t55.length:Int)then(
  (Gn ((t55.getD (t57.toNat) (0,0,[],[],false,[],())).1,(t55.getD (t57.toNat) (0,0,[],[],false,[],())).2.1,(t55.getD (t57.toNat) (0,0,[],[],false,[],())).2.2.1,(t55.getD (t57.toNat) (0,0,[],[],false,[],())).2.2.2.1,(t55.getD (t57.toNat) (0,0,[],[],false,[],())).2.2.2.2.1,(t55.getD (t57.toNat) (0,0,[],[],false,[],())).2.2.2.2.2.1,())).bind fun WG=>
  if Ey.length+1<=C_ then(
  R13 t55 t56 (AW (t57+1)) AL AF Aa Ck DO Ab DI DC D_ EG AM Au DZ Dl b2 b3 b4 b5 b6 b7 b8 b9 Cr DK CE Ez DY Gm Gl ES (Ey++[(WG.1.1.1,WG.1.1.2.1,WG.2.1,WG.2.2.1,WG.1.1.2.2.2.2.1,WG.2.2.2.1,())]) Fq T6)else none)else none)
 (R18 D_ (D_.length:Int) 0 AL AF Aa Ck DO Ab DI DC D_ EG AM Au DZ Dl b2 b3 b4 b5 b6 b7 b8 b9 Cr DK CE Ez DY Gm Gl ES Ey Fq T6)
def UO(R3:Ip)(R8:Ii)(R13:Hz)(R18:Ht)(t70:ABA)(t71 t72:Int)(AL:AAB)(AF:Int)(Aa:AAQ)(Ck:AAB)(DO:AAH)(Ab:Int)(DI:AAj)(DC:AA6)(D_:ABA)(EG:AAT)(AM:Bool)(Au DZ:Int)(Dl:Bool)(b2:AAB)(b3:AAQ)(b4:AAB)(b5:AAH)(b6:AAj)(b7:AA6)(b8:ABA)(b9:AAT)(Cr DK:Int)(CE:Bool)(Ez:AAB)(DY:AAQ)(Gm:AAB)(Gl:AAH)(ES:AAj)(Ey:AA6)(Fq:ABA)(T6:AAT):Option Ee:=
 cond (decide (t72<t71))
  (if(0:Int)<=t72/\t72<(t70.length:Int)then(
  (Nf ((t70.getD (t72.toNat) (0,0,[],())).1,(t70.getD (t72.toNat) (0,0,[],())).2.1,(t70.getD (t72.toNat) (0,0,[],())).2.2.1,())).bind fun pB=>
  if Fq.length+1<=C_ then(
  R18 t70 t71 (AW (t72+1)) AL AF Aa Ck DO Ab DI DC D_ EG AM Au DZ Dl b2 b3 b4 b5 b6 b7 b8 b9 Cr DK CE Ez DY Gm Gl ES Ey (Fq++[(pB.1.1.1,pB.1.1.2.1,pB.2.1,())]) T6)else none)else none)
 (if 0+EG.length<=C_ then(
 some ((((),Cr,(),(),(),DK,(),(),(),(),CE,()),()),(Ez,DY,Gm,Gl,ES,Ey,Fq,EG,())))else none)
mutual
def Fm:Nat->Ip
 |0=>fun _ _ _ _ _ _ _ _ _ _ _ _ _ _ _ _ _ _ _ _ _ _ _ _ _ _ _ _ _ _ _ _ _ _ _ _=>none
 |n+1=>Vv (Fm n) (Fo n) (FG n) (FC n)
def Fo:Nat->Ii
 |0=>fun _ _ _ _ _ _ _ _ _ _ _ _ _ _ _ _ _ _ _ _ _ _ _ _ _ _ _ _ _ _ _ _ _ _ _ _=>none
 |n+1=>V6 (Fm n) (Fo n) (FG n) (FC n)
def FG:Nat->Hz
 |0=>fun _ _ _ _ _ _ _ _ _ _ _ _ _ _ _ _ _ _ _ _ _ _ _ _ _ _ _ _ _ _ _ _ _ _ _ _=>none
 |n+1=>UT (Fm n) (Fo n) (FG n) (FC n)
def FC:Nat->Ht
 |0=>fun _ _ _ _ _ _ _ _ _ _ _ _ _ _ _ _ _ _ _ _ _ _ _ _ _ _ _ _ _ _ _ _ _ _ _ _=>none
 |n+1=>UO (Fm n) (Fo n) (FG n) (FC n)
end
def Vc(R3:Ip)(R8:Ii)(R13:Hz)(R18:Ht)(p0:ABl):Option Ee:=
 (RS (p0.1,p0.2.1,())).bind fun u2=>
 (DU p0.2.2.2.1).bind fun u3=>
 (Eo (p0.2.2.2.2.1,p0.2.2.2.2.2.1,())).bind fun u4=>
 R3 p0.2.2.1 (p0.2.2.1.length:Int) 0 p0.1 p0.2.1 p0.2.2.1 p0.2.2.2.1 p0.2.2.2.2.1 p0.2.2.2.2.2.1 p0.2.2.2.2.2.2.1 p0.2.2.2.2.2.2.2.1 p0.2.2.2.2.2.2.2.2.1 p0.2.2.2.2.2.2.2.2.2.1 p0.2.2.2.2.2.2.2.2.2.2.1 0 0 false [] [] [] [] [] [] [] [] u2.1.1.2.1 u4.1.1.2.1 p0.2.2.2.2.2.2.2.2.2.2.1 u2.2.1 [] u3.2.1 u4.2.1 [] [] [] []
def HA(p0:ABl):Option Ee:=Vc (Fm AZ) (Fo AZ) (FG AZ) (FC AZ) p0
abbrev Mh:Type:=AFk×Unit
def D2(p0 p1:Int):Option Mh:=
 (H0 p0).bind fun u1=>
 cond (!u1.1.1)
  (some (((0,false,()),()),()))
 ((X1 p1).bind fun u2=>
 cond (!u2.1.1)
  (some (((0,false,()),()),()))
 (some (((AW ((AW (4294967296*p0))+p1),true,()),()),())))
abbrev Hs:Type:=ADI×ADM
abbrev Tr:Type:=Int->Int->List Int->Option Hs
def Vq(R5:Tr)(t0 t10:Int)(b0:AAB):Option Hs:=
 cond (decide (t10<8))
  (if t10<0 then none else(
  cond (((eP .i64 (t0.fdiv (2^(min t10.toNat 64))) 1)==1))
   (if b0.length+1<=C_ then(
   R5 t0 (AW (t10+1)) (b0++[t10]))else none)
  (R5 t0 (AW (t10+1)) b0)))
 (some (((),()),(b0,())))
def LM:Nat->Tr
 |0=>fun _ _ _=>none
 |n+1=>Vq (LM n)
def VZ(R5:Tr)(p0:Int):Option Hs:=
 (BE p0 0 255).bind fun u1=>
 cond (!u1.1.1)
  (some (((),()),([],())))
 (R5 p0 0 [])
def IE(p0:Int):Option Hs:=VZ (LM AZ) p0
abbrev np:Type:=ABq×Unit
def TL(p0:AD_)(p1:Int):Option np:=
 cond (decide (p0.1<p1))
  (some (((-1),()),()))
 (cond (decide (p0.1>p1))
  (some ((1,()),()))
 (some ((0,()),())))
abbrev Bg:Type:=AFk×Unit
abbrev CA:Type:=ABJ->Int->Int->Int->Int->Option Bg
def C5(R3:CA)(t0:ABJ)(t1 t8 t9 t10:Int):Option Bg:=
 cond (decide (t9<t10))
  (let x2:Int:=AW ((IntKind.wrap .u64 (AW (t9+t10))).fdiv (2^1))
  if(0:Int)<=x2/\x2<(t0.length:Int)then(
  (TL ((t0.getD (x2.toNat) (0,0,false,[],())).1,(t0.getD (x2.toNat) (0,0,false,[],())).2.1,(t0.getD (x2.toNat) (0,0,false,[],())).2.2.1,(t0.getD (x2.toNat) (0,0,false,[],())).2.2.2.1,()) t1).bind fun u3=>
  cond (decide (u3.1.1<0))
   (R3 t0 t1 t8 (AW (x2+1)) t10)
  (R3 t0 t1 t8 t9 x2))else none)
 (cond (decide (t9<t8))
  (if(0:Int)<=t9/\t9<(t0.length:Int)then(
  (TL ((t0.getD (t9.toNat) (0,0,false,[],())).1,(t0.getD (t9.toNat) (0,0,false,[],())).2.1,(t0.getD (t9.toNat) (0,0,false,[],())).2.2.1,(t0.getD (t9.toNat) (0,0,false,[],())).2.2.2.1,()) t1).bind fun u4=>
  some (((t9,u4.1.1==0,()),()),()))else none)
 (some (((t9,false,()),()),())))
def BC:Nat->CA
 |0=>fun _ _ _ _ _=>none
 |n+1=>C5 (BC n)
def C7(R3:CA)(p0:ABJ)(p1:Int):Option Bg:=
 R3 p0 p1 (p0.length:Int) 0 (p0.length:Int)
def CP(p0:ABJ)(p1:Int):Option Bg:=C7 (BC AZ) p0 p1
abbrev rG:Type:=AFk×Unit
def S9(p0:ABJ)(p1:Int):Option rG:=
 (CP p0 p1).bind fun u1=>
 some (((u1.1.1.1,u1.1.1.2.1,()),()),())
abbrev NX:Type:=AHU×Unit
def Gt(p0:ACd)(p1:Int):Option NX:=
 (FU (p0.1,p0.2.1,p0.2.2.1,())).bind fun u1=>
 cond (!u1.1.1)
  (some ((((0,0,false,[],()),false,()),()),()))
 ((S9 p0.1 p1).bind fun u2=>
 cond (!u2.1.1.2.1)
  (some ((((0,0,false,[],()),false,()),()),()))
 (if(0:Int)<=u2.1.1.1/\u2.1.1.1<(p0.1.length:Int)then(
 some (((((p0.1.getD (u2.1.1.1.toNat) (0,0,false,[],())).1,(p0.1.getD (u2.1.1.1.toNat) (0,0,false,[],())).2.1,(p0.1.getD (u2.1.1.1.toNat) (0,0,false,[],())).2.2.1,(p0.1.getD (u2.1.1.1.toNat) (0,0,false,[],())).2.2.2.1,()),true,()),()),()))else none))
abbrev Oa:Type:=ABq×Unit
abbrev Rp:Type:=ACG->Int->Int->Int->ACG->Option Oa
def UM(R2:Rp)(t6:ACG)(t7 t8 AL:Int)(AF:ACG):Option Oa:=
 cond (decide (t8<t7))
  (if(0:Int)<=t8/\t8<(t6.length:Int)then(
  cond (!((t6.getD (t8.toNat) ([],[],false,())).2.2.1))
   (some ((t8,()),()))
  (R2 t6 t7 (AW (t8+1)) AL AF))else none)
 (some (((AF.length:Int),()),()))
def Jw:Nat->Rp
 |0=>fun _ _ _ _ _=>none
 |n+1=>UM (Jw n)
def UF(R2:Rp)(p0:ACi):Option Oa:=
 R2 p0.2.1 (p0.2.1.length:Int) 0 p0.1 p0.2.1
def RG(p0:ACi):Option Oa:=UF (Jw AZ) p0
abbrev N7:Type:=ABq×Unit
abbrev YD:Type:=Int->AAj->Int->Int->Option N7
def aH(R2:YD)(t1:Int)(t8:AAj)(t9 t10:Int):Option N7:=
 cond (decide (t10<t9))
  (if(0:Int)<=t10/\t10<(t8.length:Int)then(
  cond (((t8.getD (t10.toNat) (0,[],())).1)==t1)
   ((RG ((t8.getD (t10.toNat) (0,[],())).1,(t8.getD (t10.toNat) (0,[],())).2.1,())).bind fun u3=>
   some ((u3.1.1,()),()))
  (R2 t1 t8 t9 (AW (t10+1))))else none)
 (some ((0,()),()))
def PJ:Nat->YD
 |0=>fun _ _ _ _=>none
 |n+1=>aH (PJ n)
def aE(R2:YD)(p0:ABl)(p1:Int):Option N7:=
 R2 p1 p0.2.2.2.2.2.2.1 (p0.2.2.2.2.2.2.1.length:Int) 0
def Sb(p0:ABl)(p1:Int):Option N7:=aE (PJ AZ) p0 p1
abbrev TW:Type:=ADI×ADM
abbrev WR:Type:=ADT->Int->Int->List Int->Option TW
def Yz(R3:WR)(t7:ADT)(t8 t9:Int)(b0:AAB):Option TW:=
 cond (decide (t9<t8))
  (if(0:Int)<=t9/\t9<(t7.length:Int)then(
  if b0.length+1<=C_ then(
  R3 t7 t8 (AW (t9+1)) (b0++[((t7.getD (t9.toNat) (0,false,0,0,false,[],())).1)]))else none)else none)
 (some (((),()),(b0,())))
def Na:Nat->WR
 |0=>fun _ _ _ _=>none
 |n+1=>Yz (Na n)
def YN(R3:WR)(p0:ADT):Option TW:=
 R3 p0 (p0.length:Int) 0 []
def Pz(p0:ADT):Option TW:=YN (Na AZ) p0
abbrev sE:Type:=ABi×Unit
def Xn(p0:Int)(p1:AEA):Option sE:=
 (FW p0).bind fun u1=>
 cond ((decide (u1.1.1<p1.1)))
  (some ((true,()),()))
 (cond (u1.1.1==p1.1)
  ((Ud p0).bind fun u3=>
  some (((decide (u3.1.1<p1.2.1)),()),()))
 (some ((false,()),())))
abbrev iW:Type:=ADI×AJ6
def FX(p1:AHi)(AL AF:Int)(b1:AEF):Option iW:=
 if b1.length+1<=C_ then(
 some (((()),()),((AL,AF,(),()),(),(b1++[(p1.1,p1.2.1,p1.2.2.1,())]),())))else none
abbrev ZS:Type:=ADI×ADM
abbrev cq:Type:=List Int->List Int->Int->Int->List Int->Option ZS
def dW(R5:cq)(t2 t22:AAB)(t23 t24:Int)(b0:AAB):Option ZS:=
 cond (decide (t24<t23))
  (if(0:Int)<=t24/\t24<(t22.length:Int)then(
  let x3:Int:=(t22.getD (t24.toNat) 0)
  (Bv t2 x3).bind fun u4=>
  cond (!u4.1.1)
   (if b0.length+1<=C_ then(
   R5 t2 t22 t23 (AW (t24+1)) (b0++[x3]))else none)
  (R5 t2 t22 t23 (AW (t24+1)) b0))else none)
 (some (((),()),(b0,())))
def TU:Nat->cq
 |0=>fun _ _ _ _ _=>none
 |n+1=>dW (TU n)
def dS(R5:cq)(p0:ABS)(p1 p2:AAB):Option ZS:=
 (EM (p0.1,p0.2.1,()) p1).bind fun u1=>
 cond (!u1.1.1)
  (some (((),()),([],())))
 ((EM (p0.1,p0.2.1,()) p2).bind fun u2=>
 cond (!u2.1.1)
  (some (((),()),([],())))
 (R5 p2 p1 (p1.length:Int) 0 []))
def gI(p0:ABS)(p1 p2:AAB):Option ZS:=dS (TU AZ) p0 p1 p2
abbrev tX:Type:=ABi×Unit
def HT(p0:ABS)(p1 p2:AAB):Option tX:=
 (EM (p0.1,p0.2.1,()) p2).bind fun u1=>
 cond (!u1.1.1)
  (some ((false,()),()))
 ((Gz (p0.1,p0.2.1,()) p1).bind fun u2=>
 cond (!u2.1.1)
  (some ((false,()),()))
 ((Nw p2 p1).bind fun u3=>
 cond (((u3.2.1.length:Int) !=(p2.length:Int)))
  (some ((false,()),()))
 ((gI (p0.1,p0.2.1,()) p1 p2).bind fun u6=>
 (Gz (p0.1,p0.2.1,()) u6.2.1).bind fun u7=>
 some ((!u7.1.1,()),()))))
abbrev tJ:Type:=AHn×Unit
def SE(p0 p1:AD_):Option tJ:=
 cond ((decide (p1.2.1>p0.2.1)))
  (some (((p1.1,p1.2.1,p1.2.2.1,p1.2.2.2.1,()),()),()))
 (some (((p0.1,p0.2.1,p0.2.2.1,p0.2.2.2.1,()),()),()))
abbrev VI:Type:=AHU×Unit
abbrev X7:Type:=List Int->Int->Bool->ADT->Int->Int->Int->Int->Bool->List UInt8->Int->Int->Bool->List UInt8->Option VI
def Zp(R3:X7)(t1:AAB)(t2:Int)(t9:Bool)(t13:ADT)(t14 t15 AL AF:Int)(Aa:Bool)(Ck:ACH)(BT Au:Int)(Da:Bool)(HP:ACH):Option VI:=
 cond (decide (t15<t14))
  (if(0:Int)<=t15/\t15<(t13.length:Int)then(
  cond (!((t13.getD (t15.toNat) (0,false,0,0,false,[],())).2.1))
   (R3 t1 t2 t9 t13 t14 (AW (t15+1)) AL AF Aa Ck BT Au Da HP)
  ((Bv t1 ((t13.getD (t15.toNat) (0,false,0,0,false,[],())).1)).bind fun u3=>
  cond (!u3.1.1)
   (R3 t1 t2 t9 t13 t14 (AW (t15+1)) AL AF Aa Ck BT Au Da HP)
  ((NU ((t13.getD (t15.toNat) (0,false,0,0,false,[],())).2.2.1,(t13.getD (t15.toNat) (0,false,0,0,false,[],())).2.2.2.1,(t13.getD (t15.toNat) (0,false,0,0,false,[],())).2.2.2.2.1,(t13.getD (t15.toNat) (0,false,0,0,false,[],())).2.2.2.2.2.1,())).bind fun u4=>
  cond (!u4.1.1)
   (R3 t1 t2 t9 t13 t14 (AW (t15+1)) AL AF Aa Ck BT Au Da HP)
  (cond (((t13.getD (t15.toNat) (0,false,0,0,false,[],())).2.2.1) !=t2)
   (R3 t1 t2 t9 t13 t14 (AW (t15+1)) AL AF Aa Ck BT Au Da HP)
  (cond (!t9)
   ((SE ((t13.getD (t15.toNat) (0,false,0,0,false,[],())).2.2.1,(t13.getD (t15.toNat) (0,false,0,0,false,[],())).2.2.2.1,(t13.getD (t15.toNat) (0,false,0,0,false,[],())).2.2.2.2.1,(t13.getD (t15.toNat) (0,false,0,0,false,[],())).2.2.2.2.2.1,()) ((t13.getD (t15.toNat) (0,false,0,0,false,[],())).2.2.1,(t13.getD (t15.toNat) (0,false,0,0,false,[],())).2.2.2.1,(t13.getD (t15.toNat) (0,false,0,0,false,[],())).2.2.2.2.1,(t13.getD (t15.toNat) (0,false,0,0,false,[],())).2.2.2.2.2.1,())).bind fun u6=>
   R3 t1 t2 true t13 t14 (AW (t15+1)) AL AF Aa Ck u6.1.1.1 u6.1.1.2.1 u6.1.1.2.2.1 u6.1.1.2.2.2.1)
  ((SE (BT,Au,Da,HP,()) ((t13.getD (t15.toNat) (0,false,0,0,false,[],())).2.2.1,(t13.getD (t15.toNat) (0,false,0,0,false,[],())).2.2.2.1,(t13.getD (t15.toNat) (0,false,0,0,false,[],())).2.2.2.2.1,(t13.getD (t15.toNat) (0,false,0,0,false,[],())).2.2.2.2.2.1,())).bind fun u7=>
  R3 t1 t2 true t13 t14 (AW (t15+1)) AL AF Aa Ck u7.1.1.1 u7.1.1.2.1 u7.1.1.2.2.1 u7.1.1.2.2.2.1))))))else none)
 (some ((((BT,Au,Da,HP,()),t9,()),()),()))
def Pg:Nat->X7
 |0=>fun _ _ _ _ _ _ _ _ _ _ _ _ _ _=>none
 |n+1=>Zp (Pg n)
def aC(R3:X7)(p0:ADT)(p1:AAB)(p2:Int):Option VI:=
 R3 p1 p2 false p0 (p0.length:Int) 0 0 0 false [] 0 0 false []
def Z5(p0:ADT)(p1:AAB)(p2:Int):Option VI:=aC (Pg AZ) p0 p1 p2
abbrev gi:Type:=ADI×AJ6
def DG(p1:ADT)(p2:AAB)(AL AF:Int)(b1:AEF):Option gi:=
 (D2 AL AF).bind fun u1=>
 (Z5 p1 p2 u1.1.1.1).bind fun u2=>
 cond (!u2.1.1.2.1)
  ((FX (3,u1.1.1.1,[],()) AL AF b1).bind fun u3=>
  some (((()),()),((u3.2.1.1,AW (u3.2.1.2.1+1),(),()),(),u3.2.2.2.1,())))
 (cond (u2.1.1.1.2.2.1)
  ((FX (2,u1.1.1.1,[],()) AL AF b1).bind fun u4=>
  some (((()),()),((u4.2.1.1,AW (u4.2.1.2.1+1),(),()),(),u4.2.2.2.1,())))
 ((FX (1,u1.1.1.1,u2.1.1.1.2.2.2.1,()) AL AF b1).bind fun u5=>
 some (((()),()),((u5.2.1.1,AW (u5.2.1.2.1+1),(),()),(),u5.2.2.2.1,()))))
abbrev LH:Type:=(AKZ×Unit)×AGt
def Kr(p0:ABS)(p1:ACc)(p2:Int)(p3:AEA)(p4:ADT):Option LH:=
 (Ll (p0.1,p0.2.1,()) (p1.1,p1.2.1,())).bind fun u1=>
 cond (!u1.1.1)
  (some ((((0,0,(),()),1,()),()),([],())))
 ((VK (p3.1,p3.2.1,p3.2.2.1,())).bind fun u2=>
 cond (!u2.1.1)
  (some ((((0,0,(),()),1,()),()),([],())))
 ((Pz p4).bind fun u3=>
 (EM (p0.1,p0.2.1,()) u3.2.1).bind fun u4=>
 cond (!u4.1.1)
  (some ((((0,0,(),()),1,()),()),([],())))
 ((Nf (p3.1,p3.2.1,p3.2.2.1,())).bind fun u5=>
 cond ((decide (p3.1>(p1.1.length:Int))))
  (some ((((u5.1.1.1,u5.1.1.2.1,(),()),2,()),()),(u5.2.1,())))
 (cond ((p3.2.2.1.length:Int)==120)
  (some ((((u5.1.1.1,u5.1.1.2.1,(),()),2,()),()),(u5.2.1,())))
 (cond (decide (p1.2.1>0))
  ((Xn p1.2.1 (p3.1,p3.2.1,p3.2.2.1,())).bind fun u8=>
  cond (!u8.1.1)
   ((FX (5,p1.2.1,[],()) u5.1.1.1 u5.1.1.2.1 u5.2.1).bind fun u9=>
   (FW p1.2.1).bind fun EI=>
   (Ud p1.2.1).bind fun Mv=>
   some ((((EI.1.1,AW (Mv.1.1+1),(),()),0,()),()),(u9.2.2.2.1,())))
  (if(0:Int)<=AW (p3.1-1)/\AW (p3.1-1)<(p1.1.length:Int)then(
  (Pz p4).bind fun Dw=>
  (Nw Dw.2.1 ((p1.1.getD ((AW (p3.1-1)).toNat) ([],false,0,())).1)).bind fun M6=>
  cond (((p1.1.getD ((AW (p3.1-1)).toNat) ([],false,0,())).2.1))
   (cond ((decide (p3.2.1>((p1.1.getD ((AW (p3.1-1)).toNat) ([],false,0,())).2.2.1))))
    ((FX (4,AW (p3.1+1),[],()) u5.1.1.1 u5.1.1.2.1 u5.2.1).bind fun ZK=>
    some ((((AW (p3.1+1),1,(),()),0,()),()),(ZK.2.2.2.1,())))
   (cond (!((p1.1.getD ((AW (p3.1-1)).toNat) ([],false,0,())).2.1))
    (cond (decide (p3.2.1>p2))
     (some ((((u5.1.1.1,u5.1.1.2.1,(),()),2,()),()),(u5.2.1,())))
    (cond (decide (p3.2.1>60))
     (some ((((u5.1.1.1,u5.1.1.2.1,(),()),2,()),()),(u5.2.1,())))
    ((HT (p0.1,p0.2.1,()) ((p1.1.getD ((AW (p3.1-1)).toNat) ([],false,0,())).1) M6.2.1).bind fun ZP=>
    cond (!ZP.1.1)
     (some ((((u5.1.1.1,u5.1.1.2.1,(),()),3,()),()),(u5.2.1,())))
    ((DG p4 M6.2.1 u5.1.1.1 u5.1.1.2.1 u5.2.1).bind fun Lt=>
    some ((((Lt.2.1.1,Lt.2.1.2.1,(),()),0,()),()),(Lt.2.2.2.1,()))))))
   (cond (decide (p3.2.1>60))
    (some ((((u5.1.1.1,u5.1.1.2.1,(),()),2,()),()),(u5.2.1,())))
   ((HT (p0.1,p0.2.1,()) ((p1.1.getD ((AW (p3.1-1)).toNat) ([],false,0,())).1) M6.2.1).bind fun Wo=>
   cond (!Wo.1.1)
    (some ((((u5.1.1.1,u5.1.1.2.1,(),()),3,()),()),(u5.2.1,())))
   ((DG p4 M6.2.1 u5.1.1.1 u5.1.1.2.1 u5.2.1).bind fun u22=>
   some ((((u22.2.1.1,u22.2.1.2.1,(),()),0,()),()),(u22.2.2.2.1,())))))))
  (cond (!((p1.1.getD ((AW (p3.1-1)).toNat) ([],false,0,())).2.1))
   (cond (decide (p3.2.1>p2))
    (some ((((u5.1.1.1,u5.1.1.2.1,(),()),2,()),()),(u5.2.1,())))
   (cond (decide (p3.2.1>60))
    (some ((((u5.1.1.1,u5.1.1.2.1,(),()),2,()),()),(u5.2.1,())))
   ((HT (p0.1,p0.2.1,()) ((p1.1.getD ((AW (p3.1-1)).toNat) ([],false,0,())).1) M6.2.1).bind fun HS=>
   cond (!HS.1.1)
    (some ((((u5.1.1.1,u5.1.1.2.1,(),()),3,()),()),(u5.2.1,())))
   ((DG p4 M6.2.1 u5.1.1.1 u5.1.1.2.1 u5.2.1).bind fun WG=>
   some ((((WG.2.1.1,WG.2.1.2.1,(),()),0,()),()),(WG.2.2.2.1,()))))))
  (cond (decide (p3.2.1>60))
   (some ((((u5.1.1.1,u5.1.1.2.1,(),()),2,()),()),(u5.2.1,())))
  ((HT (p0.1,p0.2.1,()) ((p1.1.getD ((AW (p3.1-1)).toNat) ([],false,0,())).1) M6.2.1).bind fun iF=>
  cond (!iF.1.1)
   (some ((((u5.1.1.1,u5.1.1.2.1,(),()),3,()),()),(u5.2.1,())))
  ((DG p4 M6.2.1 u5.1.1.1 u5.1.1.2.1 u5.2.1).bind fun QK=>
  some ((((QK.2.1.1,QK.2.1.2.1,(),()),0,()),()),(QK.2.2.2.1,())))))))else none))
 (if(0:Int)<=AW (p3.1-1)/\AW (p3.1-1)<(p1.1.length:Int)then(
 (Pz p4).bind fun Pr=>
 (Nw Pr.2.1 ((p1.1.getD ((AW (p3.1-1)).toNat) ([],false,0,())).1)).bind fun T_=>
 cond (((p1.1.getD ((AW (p3.1-1)).toNat) ([],false,0,())).2.1))
  (cond ((decide (p3.2.1>((p1.1.getD ((AW (p3.1-1)).toNat) ([],false,0,())).2.2.1))))
   ((FX (4,AW (p3.1+1),[],()) u5.1.1.1 u5.1.1.2.1 u5.2.1).bind fun bV=>
   some ((((AW (p3.1+1),1,(),()),0,()),()),(bV.2.2.2.1,())))
  (cond (!((p1.1.getD ((AW (p3.1-1)).toNat) ([],false,0,())).2.1))
   (cond (decide (p3.2.1>p2))
    (some ((((u5.1.1.1,u5.1.1.2.1,(),()),2,()),()),(u5.2.1,())))
   (cond (decide (p3.2.1>60))
    (some ((((u5.1.1.1,u5.1.1.2.1,(),()),2,()),()),(u5.2.1,())))
   ((HT (p0.1,p0.2.1,()) ((p1.1.getD ((AW (p3.1-1)).toNat) ([],false,0,())).1) T_.2.1).bind fun u35=>
   cond (!u35.1.1)
    (some ((((u5.1.1.1,u5.1.1.2.1,(),()),3,()),()),(u5.2.1,())))
   ((DG p4 T_.2.1 u5.1.1.1 u5.1.1.2.1 u5.2.1).bind fun u36=>
   some ((((u36.2.1.1,u36.2.1.2.1,(),()),0,()),()),(u36.2.2.2.1,()))))))
  (cond (decide (p3.2.1>60))
   (some ((((u5.1.1.1,u5.1.1.2.1,(),()),2,()),()),(u5.2.1,())))
  ((HT (p0.1,p0.2.1,()) ((p1.1.getD ((AW (p3.1-1)).toNat) ([],false,0,())).1) T_.2.1).bind fun oF=>
  cond (!oF.1.1)
   (some ((((u5.1.1.1,u5.1.1.2.1,(),()),3,()),()),(u5.2.1,())))
  ((DG p4 T_.2.1 u5.1.1.1 u5.1.1.2.1 u5.2.1).bind fun p7=>
  some ((((p7.2.1.1,p7.2.1.2.1,(),()),0,()),()),(p7.2.2.2.1,())))))))
 (cond (!((p1.1.getD ((AW (p3.1-1)).toNat) ([],false,0,())).2.1))
  (cond (decide (p3.2.1>p2))
   (some ((((u5.1.1.1,u5.1.1.2.1,(),()),2,()),()),(u5.2.1,())))
  (cond (decide (p3.2.1>60))
   (some ((((u5.1.1.1,u5.1.1.2.1,(),()),2,()),()),(u5.2.1,())))
  ((HT (p0.1,p0.2.1,()) ((p1.1.getD ((AW (p3.1-1)).toNat) ([],false,0,())).1) T_.2.1).bind fun u40=>
  cond (!u40.1.1)
   (some ((((u5.1.1.1,u5.1.1.2.1,(),()),3,()),()),(u5.2.1,())))
  ((DG p4 T_.2.1 u5.1.1.1 u5.1.1.2.1 u5.2.1).bind fun u41=>
  some ((((u41.2.1.1,u41.2.1.2.1,(),()),0,()),()),(u41.2.2.2.1,()))))))
 (cond (decide (p3.2.1>60))
  (some ((((u5.1.1.1,u5.1.1.2.1,(),()),2,()),()),(u5.2.1,())))
 ((HT (p0.1,p0.2.1,()) ((p1.1.getD ((AW (p3.1-1)).toNat) ([],false,0,())).1) T_.2.1).bind fun sj=>
 cond (!sj.1.1)
  (some ((((u5.1.1.1,u5.1.1.2.1,(),()),3,()),()),(u5.2.1,())))
 ((DG p4 T_.2.1 u5.1.1.1 u5.1.1.2.1 u5.2.1).bind fun u43=>
 some ((((u43.2.1.1,u43.2.1.2.1,(),()),0,()),()),(u43.2.2.2.1,())))))))else none))))))
abbrev LD:Type:=ABq×AE0
abbrev Rm:Type:=Int->Int->Int->Int->Int->Int->Bool->List Int->AAQ->List Int->AAH->AAj->AA6->ABA->AAT->Int->Int->AEF->ADT->List Int->Option LD
def OJ(R7:Rm)(t1 t8 t44 t45 AF Ab:Int)(AM:Bool)(b1:AAB)(b2:AAQ)(b3:AAB)(b4:AAH)(b5:AAj)(b6:AA6)(b7:ABA)(b8:AAT)(kG Eb:Int)(fT:AEF)(NY:ADT)(Ez:AAB):Option LD:=
 cond (decide (t45<t44))
  (if(0:Int)<=t45/\t45<(Ez.length:Int)then(
  let x8:Int:=(Ez.getD (t45.toNat) 0)
  cond ((decide (x8<(b2.length:Int))))
   ((DH (b1,AF,b2,b3,b4,Ab,b5,b6,b7,b8,AM,()) x8).bind fun EI=>
   cond (!EI.1.1)
    (if(0:Int)<=x8/\x8<(b2.length:Int)then(
    (Gt ((b2.getD (x8.toNat) ([],[],0,())).1,(b2.getD (x8.toNat) ([],[],0,())).2.1,(b2.getD (x8.toNat) ([],[],0,())).2.2.1,()) t8).bind fun Mv=>
    if NY.length+1<=C_ then(
    R7 t1 t8 t44 (AW (t45+1)) AF Ab AM b1 b2 b3 b4 b5 b6 b7 b8 kG Eb fT (NY++[(x8,Mv.1.1.2.1,Mv.1.1.1.1,Mv.1.1.1.2.1,Mv.1.1.1.2.2.1,Mv.1.1.1.2.2.2.1,())]) Ez)else none)else none)
   (R7 t1 t8 t44 (AW (t45+1)) AF Ab AM b1 b2 b3 b4 b5 b6 b7 b8 kG Eb fT NY Ez))
  (R7 t1 t8 t44 (AW (t45+1)) AF Ab AM b1 b2 b3 b4 b5 b6 b7 b8 kG Eb fT NY Ez))else none)
 ((Sb (b1,AF,b2,b3,b4,Ab,b5,b6,b7,b8,AM,()) kG).bind fun M6=>
 (Kr (b1,AF,()) (b4,Ab,()) M6.1.1 (kG,Eb,fT,()) NY).bind fun KV=>
 cond (KV.1.1.2.1 !=0)
  (some ((5,()),(((),AF,(),(),(),Ab,(),(),(),(),AM,()),b1,b2,b3,b4,b5,b6,b7,b8,())))
 (if(0:Int)<=t1/\t1<(b7.length:Int)then(
 some ((0,()),(((),AF,(),(),(),Ab,(),(),(),(),AM,()),b1,b2,b3,b4,b5,b6,(b7.set (t1.toNat) (KV.1.1.1.1,KV.1.1.1.2.1,KV.2.1,())),b8,())))else none))
def DP:Nat->Rm
 |0=>fun _ _ _ _ _ _ _ _ _ _ _ _ _ _ _ _ _ _ _ _=>none
 |n+1=>OJ (DP n)
def OS(R7:Rm)(p1 p2 AF Ab:Int)(AM:Bool)(b1:AAB)(b2:AAQ)(b3:AAB)(b4:AAH)(b5:AAj)(b6:AA6)(b7:ABA)(b8:AAT):Option LD:=
 (BE p1 0 (AW ((b7.length:Int)-1))).bind fun u2=>
 cond (!u2.1.1)
  (some ((2,()),(((),AF,(),(),(),Ab,(),(),(),(),AM,()),b1,b2,b3,b4,b5,b6,b7,b8,())))
 (if(0:Int)<=p1/\p1<(b7.length:Int)then(
 (D2 ((b7.getD (p1.toNat) (0,0,[],())).1) ((b7.getD (p1.toNat) (0,0,[],())).2.1)).bind fun u5=>
 (IE p2).bind fun u6=>
 R7 p1 u5.1.1.1 (u6.2.1.length:Int) 0 AF Ab AM b1 b2 b3 b4 b5 b6 b7 b8 ((b7.getD (p1.toNat) (0,0,[],())).1) ((b7.getD (p1.toNat) (0,0,[],())).2.1) ((b7.getD (p1.toNat) (0,0,[],())).2.2.1) [] u6.2.1)else none)
def Np(p1 p2 AF Ab:Int)(AM:Bool)(b1:AAB)(b2:AAQ)(b3:AAB)(b4:AAH)(b5:AAj)(b6:AA6)(b7:ABA)(b8:AAT):Option LD:=OS (DP AZ) p1 p2 AF Ab AM b1 b2 b3 b4 b5 b6 b7 b8
abbrev aO:Type:=ABq×Unit
def Vk(p0:AAB)(p1 p2:Int):Option aO:=
 let x1:Int:=AW ((p0.length:Int).tdiv 4)
 cond ((decide ((AW (p1+x1))>p2)))
  (some ((p2,()),()))
 (some ((AW (p1+x1),()),()))
abbrev XJ:Type:=ABi×Unit
abbrev aU:Type:=List Int->Int->Int->Int->Option XJ
def Ue(R2:aU)(t0:AAB)(t1 t2 t7:Int):Option XJ:=
 cond ((decide (t7<(t0.length:Int))))
  (if(0:Int)<=t7/\t7<(t0.length:Int)then(
  (CU (t0.getD (t7.toNat) 0) t1 t2).bind fun u3=>
  cond (!u3.1.1)
   (some ((false,()),()))
  (cond (decide (t7>0))
   (if(0:Int)<=AW (t7-1)/\AW (t7-1)<(t0.length:Int)then(
   if(0:Int)<=t7/\t7<(t0.length:Int)then(
   cond (decide ((t0.getD ((AW (t7-1)).toNat) 0)>=(t0.getD (t7.toNat) 0)))
    (some ((false,()),()))
   (R2 t0 t1 t2 (AW (t7+1))))else none)else none)
  (R2 t0 t1 t2 (AW (t7+1)))))else none)
 (some ((true,()),()))
def N8:Nat->aU
 |0=>fun _ _ _ _=>none
 |n+1=>Ue (N8 n)
def bP(R2:aU)(p0:AAB)(p1 p2:Int):Option XJ:=
 R2 p0 p1 p2 0
def X2(p0:AAB)(p1 p2:Int):Option XJ:=bP (N8 AZ) p0 p1 p2
abbrev qK:Type:=ABi×Unit
def G4(p0:ABS)(p1:AAB):Option qK:=
 (Gp (p0.1,p0.2.1,())).bind fun u1=>
 cond (u1.1.1)
  ((X2 p1 0 (AW ((p0.1.length:Int)-1))).bind fun u3=>
  some ((u3.1.1,()),()))
 (some ((false,()),()))
abbrev U_:Type:=ABq×Unit
abbrev Yu:Type:=List Int->Int->Int->List Int->Int->List Bool->Option U_
def aF(R4:Yu)(t1:AAB)(t6 t7:Int)(AL:AAB)(AF:Int)(b1:List Bool):Option U_:=
 cond ((decide (t7<(t1.length:Int))))
  (if(0:Int)<=t7/\t7<(t1.length:Int)then(
  let x3:Int:=(t1.getD (t7.toNat) 0)
  if(0:Int)<=x3/\x3<(AL.length:Int)then(
  let x4:Int:=(AL.getD (x3.toNat) 0)
  if(0:Int)<=x4/\x4<(b1.length:Int)then(
  cond (!(b1.getD (x4.toNat) false))
   (if(0:Int)<=x4/\x4<(b1.length:Int)then(
   R4 t1 (AW (t6+1)) (AW (t7+1)) AL AF (b1.set (x4.toNat) true))else none)
  (R4 t1 t6 (AW (t7+1)) AL AF b1))else none)else none)else none)
 (some ((t6,()),()))
def O_:Nat->Yu
 |0=>fun _ _ _ _ _ _=>none
 |n+1=>aF (O_ n)
def Zd(R4:Yu)(p0:ABS)(p1:AAB):Option U_:=
 R4 p1 0 0 p0.1 p0.2.1 (List.replicate 8 false)
def V5(p0:ABS)(p1:AAB):Option U_:=Zd (O_ AZ) p0 p1
abbrev ka:Type:=ABi×Unit
def FD(p0:ABS)(p1:AAB):Option ka:=
 (G4 (p0.1,p0.2.1,()) p1).bind fun u1=>
 cond (u1.1.1)
  ((V5 (p0.1,p0.2.1,()) p1).bind fun u2=>
  some (((decide (u2.1.1>=p0.2.1)),()),()))
 (some ((false,()),()))
abbrev mO:Type:=AGn×AGt
def YO:Option mO:=
 some (((1,1,(),()),()),([],()))
abbrev o_:Type:=AHo×AEE
def H3(p0:ABS):Option o_:=
 (Gp (p0.1,p0.2.1,())).bind fun u1=>
 cond (!u1.1.1)
  (some (((((),0,(),(),(),0,(),(),(),(),false,()),false,()),()),([],[],[],[],[],[],[],[],())))
 (if 0+p0.1.length<=C_ then(
 if(0:Int)<=(p0.1.length:Int)/\(p0.1.length:Int)<=(p0.1.length:Int)/\(p0.1.length:Int)<=(C_:Int)then(
 (YO).bind fun u3=>
 (YO).bind fun u4=>
 some (((((),p0.2.1,(),(),(),0,(),(),(),(),false,()),true,()),()),(p0.1,(List.replicate ((p0.1.length:Int).toNat) ([],[],0,())),[],[],[],[],[(u3.1.1.1,u3.1.1.2.1,u3.2.1,()),(u4.1.1.1,u4.1.1.2.1,u4.2.1,())],[],())))else none)else none)
abbrev Pt:Type:=ABq×Unit
def Fe(p0 p1:Int):Option Pt:=
 cond (decide (p0>p1))
  (some ((p0,()),()))
 (some ((p1,()),()))
abbrev HD:Type:=ABi×Unit
abbrev aX:Type:=List Int->Int->Int->Option HD
def Ul(R2:aX)(t0:AAB)(t1 t5:Int):Option HD:=
 cond ((decide (t5<(t0.length:Int))))
  (if(0:Int)<=t5/\t5<(t0.length:Int)then(
  cond ((t0.getD (t5.toNat) 0)==t1)
   (some ((true,()),()))
  (R2 t0 t1 (AW (t5+1))))else none)
 (some ((false,()),()))
def Lk:Nat->aX
 |0=>fun _ _ _=>none
 |n+1=>Ul (Lk n)
def Ug(R2:aX)(p0:AAB)(p1:Int):Option HD:=
 R2 p0 p1 0
def DA(p0:AAB)(p1:Int):Option HD:=Ug (Lk AZ) p0 p1
abbrev Xb:Type:=ADI×ADM
abbrev aZ:Type:=List Int->Int->Bool->Int->List Int->Option Xb
def QE(R4:aZ)(t0:AAB)(t1:Int)(t6:Bool)(t7:Int)(b0:AAB):Option Xb:=
 cond ((decide (t7<(t0.length:Int))))
  (cond (!t6)
   (if(0:Int)<=t7/\t7<(t0.length:Int)then(
   cond (decide ((t0.getD (t7.toNat) 0)>t1))
    (if b0.length+1<=C_ then(
    if(0:Int)<=t7/\t7<(t0.length:Int)then(
    if(b0++[t1]).length+1<=C_ then(
    R4 t0 t1 true (AW (t7+1)) ((b0++[t1])++[(t0.getD (t7.toNat) 0)]))else none)else none)else none)
   (if(0:Int)<=t7/\t7<(t0.length:Int)then(
   if b0.length+1<=C_ then(
   R4 t0 t1 t6 (AW (t7+1)) (b0++[(t0.getD (t7.toNat) 0)]))else none)else none))else none)
  (if(0:Int)<=t7/\t7<(t0.length:Int)then(
  if b0.length+1<=C_ then(
  R4 t0 t1 t6 (AW (t7+1)) (b0++[(t0.getD (t7.toNat) 0)]))else none)else none))
 (cond (!t6)
  (if b0.length+1<=C_ then(
  some (((),()),(b0++[t1],())))else none)
 (some (((),()),(b0,()))))
def H5:Nat->aZ
 |0=>fun _ _ _ _ _=>none
 |n+1=>QE (H5 n)
def Uj(R4:aZ)(p0:AAB)(p1:Int):Option Xb:=
 (DA p0 p1).bind fun u1=>
 R4 p0 p1 u1.1.1 0 []
def Iv(p0:AAB)(p1:Int):Option Xb:=Uj (H5 AZ) p0 p1
abbrev Hy:Type:=ADI×AHl
abbrev Qa:Type:=Int->Int->List Int->Int->Int->List Int->Int->List Int->Option Hy
def Tv(R4:Qa)(t6 t7:Int)(AL:AAB)(AF Aa:Int)(BT:AAB)(Au:Int)(b2:AAB):Option Hy:=
 cond (decide (t7<t6))
  ((Fe (BT.length:Int) 1).bind fun u3=>
  (AK u3.1.1 AL AF Aa).bind fun u4=>
  (Iv b2 u4.1.1).bind fun u5=>
  R4 t6 (AW (t7+1)) u4.2.1.1 u4.2.1.2.1 u4.2.1.2.2.1 BT Au u5.2.1)
 ((BL 20 AL AF Aa).bind fun u6=>
 cond (u6.1.1)
  ((CZ [(-1),0,(BT.length:Int)] u6.2.1.1 u6.2.1.2.1 u6.2.1.2.2.1).bind fun u7=>
  if b2.length+1<=C_ then(
  some (((),()),((u7.2.1.1,u7.2.1.2.1,u7.2.1.2.2.1,()),b2++[u7.1.1],())))else none)
 (some (((),()),((u6.2.1.1,u6.2.1.2.1,u6.2.1.2.2.1,()),b2,()))))
def I5:Nat->Qa
 |0=>fun _ _ _ _ _ _ _ _=>none
 |n+1=>Tv (I5 n)
def TC(R4:Qa)(p1:ABS)(AL:AAB)(AF Aa:Int):Option Hy:=
 (AK (AW ((p1.1.length:Int)+2)) AL AF Aa).bind fun u2=>
 R4 u2.1.1 0 u2.2.1.1 u2.2.1.2.1 u2.2.1.2.2.1 p1.1 p1.2.1 []
def FZ(p1:ABS)(AL:AAB)(AF Aa:Int):Option Hy:=TC (I5 AZ) p1 AL AF Aa
abbrev Py:Type:=ADI×AHl
abbrev S1:Type:=Int->List Int->Int->Int->List Int->Int->List Int->Option Py
def Vy(R3:S1)(t6:Int)(AL:AAB)(AF Aa:Int)(BT:AAB)(Au:Int)(b2:AAB):Option Py:=
 cond ((decide (t6<(BT.length:Int))))
  ((FD (BT,Au,()) b2).bind fun u3=>
  cond (!u3.1.1)
   ((Iv b2 t6).bind fun u4=>
   R3 (AW (t6+1)) AL AF Aa BT Au u4.2.1)
  (some (((),()),((AL,AF,Aa,()),b2,()))))
 (some (((),()),((AL,AF,Aa,()),b2,())))
def LL:Nat->S1
 |0=>fun _ _ _ _ _ _ _=>none
 |n+1=>Vy (LL n)
def Vm(R3:S1)(p1:ABS)(AL:AAB)(AF Aa:Int):Option Py:=
 (FZ (p1.1,p1.2.1,()) AL AF Aa).bind fun u1=>
 R3 0 u1.2.1.1 u1.2.1.2.1 u1.2.1.2.2.1 p1.1 p1.2.1 u1.2.2.1
def G_(p1:ABS)(AL:AAB)(AF Aa:Int):Option Py:=Vm (LL AZ) p1 AL AF Aa
abbrev QT:Type:=ABq×Unit
abbrev Sr:Type:=List Int->Int->Int->Option QT
def Ve(R5:Sr)(t0:AAB)(t3 t4:Int):Option QT:=
 cond ((decide (t4<(t0.length:Int))))
  (if(0:Int)<=t4/\t4<(t0.length:Int)then(
  let x3:Int:=(t0.getD (t4.toNat) 0)
  if x3<0 then none else(
  R5 t0 (bOr .i64 t3 (AW (1*2^(min x3.toNat 64)))) (AW (t4+1))))else none)
 (some ((t3,()),()))
def K0:Nat->Sr
 |0=>fun _ _ _=>none
 |n+1=>Ve (K0 n)
def Vl(R5:Sr)(p0:AAB):Option QT:=
 (X2 p0 0 7).bind fun u1=>
 cond (!u1.1.1)
  (some (((-1),()),()))
 (R5 p0 0 0)
def J7(p0:AAB):Option QT:=Vl (K0 AZ) p0
abbrev QF:Type:=ABq×Unit
abbrev S2:Type:=Int->AAH->Int->Option QF
def O9(R2:S2)(t3:Int)(AL:AAH)(AF:Int):Option QF:=
 cond ((decide (t3<(AL.length:Int))))
  (if(0:Int)<=t3/\t3<(AL.length:Int)then(
  cond (!((AL.getD (t3.toNat) ([],false,0,())).2.1))
   (some ((AW (t3+1),()),()))
  (R2 (AW (t3+1)) AL AF))else none)
 (some ((0,()),()))
def Io:Nat->S2
 |0=>fun _ _ _=>none
 |n+1=>O9 (Io n)
def V7(R2:S2)(p0:ACc):Option QF:=
 R2 0 p0.1 p0.2.1
def Jy(p0:ACc):Option QF:=V7 (Io AZ) p0
abbrev HV:Type:=ADI×ADM
def CS(p0:ACc)(p1:Int):Option HV:=
 (CU p1 1 (p0.1.length:Int)).bind fun u1=>
 cond (!u1.1.1)
  (some (((),()),([],())))
 (if(0:Int)<=AW (p1-1)/\AW (p1-1)<(p0.1.length:Int)then(
 if 0+((p0.1.getD ((AW (p1-1)).toNat) ([],false,0,())).1).length<=C_ then(
 some (((),()),(((p0.1.getD ((AW (p1-1)).toNat) ([],false,0,())).1),())))else none)else none)
abbrev NK:Type:=AHp×AEX
abbrev PQ:Type:=Int->Int->Int->List Int->Int->Int->List Int->Int->AAQ->List Int->AAH->Int->AAj->AA6->ABA->AAT->Bool->Int->Int->Int->Int->List UInt8->Int->Int->List Int->ABJ->Bool->List AAB->Option NK
def SN(R16:PQ)(t7 t8 t9:Int)(AL:AAB)(AF Aa:Int)(BT:AAB)(Au:Int)(Da:AAQ)(HP:AAB)(ND:AAH)(DZ:Int)(APe:AAj)(AQS:AA6)(ATM:ABA)(APy:AAT)(Dl:Bool)(JN LZ AU3 ARt:Int)(Qd:ACH)(jb fq:Int)(AQC:AAB)(AUC:ABJ)(ATp:Bool)(ADS:List AAB):Option NK:=
 cond ((decide (t9<(ADS.length:Int))))
  (if(0:Int)<=t9/\t9<(ADS.length:Int)then(
  (FD (BT,Au,()) (ADS.getD (t9.toNat) [])).bind fun u22=>
  cond (!u22.1.1)
   ((BL 3 AL AF Aa).bind fun aq=>
   cond (!aq.1.1)
    (R16 t7 (AW (t9+1)) (AW (t9+1)) aq.2.1.1 aq.2.1.2.1 aq.2.1.2.2.1 BT Au Da HP ND DZ APe AQS ATM APy Dl JN LZ AU3 ARt Qd jb fq AQC AUC ATp ADS)
   (R16 t7 t8 (AW (t9+1)) aq.2.1.1 aq.2.1.2.1 aq.2.1.2.2.1 BT Au Da HP ND DZ APe AQS ATM APy Dl JN LZ AU3 ARt Qd jb fq AQC AUC ATp ADS))
  (R16 t7 t8 (AW (t9+1)) AL AF Aa BT Au Da HP ND DZ APe AQS ATM APy Dl JN LZ AU3 ARt Qd jb fq AQC AUC ATp ADS))else none)
 (some (((11,0,t8,t7,[],()),()),((AL,AF,Aa,()),())))
def GX:Nat->PQ
 |0=>fun _ _ _ _ _ _ _ _ _ _ _ _ _ _ _ _ _ _ _ _ _ _ _ _ _ _ _ _=>none
 |n+1=>SN (GX n)
def Tn(R16:PQ)(p1:ABl)(AL:AAB)(AF Aa:Int):Option NK:=
 cond ((p1.2.2.2.2.2.2.2.1.length:Int)==0)
  (some (((8,0,0,0,[],()),()),((AL,AF,Aa,()),())))
 (if(0:Int)<=(0:Int)/\(0:Int)<(p1.2.2.2.2.2.2.2.1.length:Int)then(
 (CS (p1.2.2.2.2.1,p1.2.2.2.2.2.1,()) ((p1.2.2.2.2.2.2.2.1.getD 0 (0,0,[],[],false,[],())).2.1)).bind fun u3=>
 (AK (u3.2.1.length:Int) AL AF Aa).bind fun u5=>
 if(0:Int)<=u5.1.1/\u5.1.1<(u3.2.1.length:Int)then(
 let x6:Int:=(u3.2.1.getD (u5.1.1.toNat) 0)
 cond (!((p1.2.2.2.2.2.2.2.1.getD 0 (0,0,[],[],false,[],())).2.2.2.2.1))
  ((BL 4 u5.2.1.1 u5.2.1.2.1 u5.2.1.2.2.1).bind fun u8=>
  cond (u8.1.1)
   (some (((10,0,0,0,[],()),()),((u8.2.1.1,u8.2.1.2.1,u8.2.1.2.2.1,()),())))
  (cond (!((p1.2.2.2.2.2.2.2.1.getD 0 (0,0,[],[],false,[],())).2.2.2.2.1))
   (some (((9,x6,0,0,[],()),()),((u8.2.1.1,u8.2.1.2.1,u8.2.1.2.2.1,()),())))
  ((BL 6 u8.2.1.1 u8.2.1.2.1 u8.2.1.2.2.1).bind fun EI=>
  cond (EI.1.1)
   (some (((12,0,0,0,[],()),()),((EI.2.1.1,EI.2.1.2.1,EI.2.1.2.2.1,()),())))
  ((BL 3 EI.2.1.1 EI.2.1.2.1 EI.2.1.2.2.1).bind fun Mv=>
  cond (Mv.1.1)
   (some (((4,x6,0,0,[],()),()),((Mv.2.1.1,Mv.2.1.2.1,Mv.2.1.2.2.1,()),())))
  ((Fe (((p1.2.2.2.2.2.2.2.1.getD 0 (0,0,[],[],false,[],())).2.2.2.2.2.1).length:Int) 1).bind fun M6=>
  (AK M6.1.1 Mv.2.1.1 Mv.2.1.2.1 Mv.2.1.2.2.1).bind fun KV=>
  R16 x6 (AW (1+KV.1.1)) 0 KV.2.1.1 KV.2.1.2.1 KV.2.1.2.2.1 p1.1 p1.2.1 p1.2.2.1 p1.2.2.2.1 p1.2.2.2.2.1 p1.2.2.2.2.2.1 p1.2.2.2.2.2.2.1 p1.2.2.2.2.2.2.2.1 p1.2.2.2.2.2.2.2.2.1 p1.2.2.2.2.2.2.2.2.2.1 p1.2.2.2.2.2.2.2.2.2.2.1 0 0 0 0 [] ((p1.2.2.2.2.2.2.2.1.getD 0 (0,0,[],[],false,[],())).1) ((p1.2.2.2.2.2.2.2.1.getD 0 (0,0,[],[],false,[],())).2.1) ((p1.2.2.2.2.2.2.2.1.getD 0 (0,0,[],[],false,[],())).2.2.1) ((p1.2.2.2.2.2.2.2.1.getD 0 (0,0,[],[],false,[],())).2.2.2.1) ((p1.2.2.2.2.2.2.2.1.getD 0 (0,0,[],[],false,[],())).2.2.2.2.1) ((p1.2.2.2.2.2.2.2.1.getD 0 (0,0,[],[],false,[],())).2.2.2.2.2.1))))))
 (cond (!((p1.2.2.2.2.2.2.2.1.getD 0 (0,0,[],[],false,[],())).2.2.2.2.1))
  (some (((9,x6,0,0,[],()),()),((u5.2.1.1,u5.2.1.2.1,u5.2.1.2.2.1,()),())))
 ((BL 6 u5.2.1.1 u5.2.1.2.1 u5.2.1.2.2.1).bind fun u16=>
 cond (u16.1.1)
  (some (((12,0,0,0,[],()),()),((u16.2.1.1,u16.2.1.2.1,u16.2.1.2.2.1,()),())))
 ((BL 3 u16.2.1.1 u16.2.1.2.1 u16.2.1.2.2.1).bind fun ZK=>
 cond (ZK.1.1)
  (some (((4,x6,0,0,[],()),()),((ZK.2.1.1,ZK.2.1.2.1,ZK.2.1.2.2.1,()),())))
 ((Fe (((p1.2.2.2.2.2.2.2.1.getD 0 (0,0,[],[],false,[],())).2.2.2.2.2.1).length:Int) 1).bind fun ZP=>
 (AK ZP.1.1 ZK.2.1.1 ZK.2.1.2.1 ZK.2.1.2.2.1).bind fun Lt=>
 R16 x6 (AW (1+Lt.1.1)) 0 Lt.2.1.1 Lt.2.1.2.1 Lt.2.1.2.2.1 p1.1 p1.2.1 p1.2.2.1 p1.2.2.2.1 p1.2.2.2.2.1 p1.2.2.2.2.2.1 p1.2.2.2.2.2.2.1 p1.2.2.2.2.2.2.2.1 p1.2.2.2.2.2.2.2.2.1 p1.2.2.2.2.2.2.2.2.2.1 p1.2.2.2.2.2.2.2.2.2.2.1 0 0 0 0 [] ((p1.2.2.2.2.2.2.2.1.getD 0 (0,0,[],[],false,[],())).1) ((p1.2.2.2.2.2.2.2.1.getD 0 (0,0,[],[],false,[],())).2.1) ((p1.2.2.2.2.2.2.2.1.getD 0 (0,0,[],[],false,[],())).2.2.1) ((p1.2.2.2.2.2.2.2.1.getD 0 (0,0,[],[],false,[],())).2.2.2.1) ((p1.2.2.2.2.2.2.2.1.getD 0 (0,0,[],[],false,[],())).2.2.2.2.1) ((p1.2.2.2.2.2.2.2.1.getD 0 (0,0,[],[],false,[],())).2.2.2.2.2.1))))))else none)else none)
def Mj(p1:ABl)(AL:AAB)(AF Aa:Int):Option NK:=Tn (GX AZ) p1 AL AF Aa
abbrev tE:Type:=AHs×AEX
def HR(p1:List ACH)(AL:AAB)(AF Aa:Int):Option tE:=
 (AK (p1.length:Int) AL AF Aa).bind fun u1=>
 if(0:Int)<=u1.1.1/\u1.1.1<(p1.length:Int)then(
 some (((p1.getD (u1.1.1.toNat) []),()),((u1.2.1.1,u1.2.1.2.1,u1.2.1.2.2.1,()),())))else none
abbrev vH:Type:=ABq×Unit
def Uk(p0 p1:Int):Option vH:=
 cond (decide (p0<p1))
  (some ((p0,()),()))
 (some ((p1,()),()))
abbrev gk:Type:=AHp×AEX
def G2(p1:ABl)(AL:AAB)(AF Aa:Int):Option gk:=
 (AK (p1.2.2.2.2.2.2.1.length:Int) AL AF Aa).bind fun u2=>
 (BL 3 u2.2.1.1 u2.2.1.2.1 u2.2.1.2.2.1).bind fun u3=>
 cond (!u3.1.1)
  (let x4:Int:=(p1.2.2.2.2.2.2.1.length:Int)
  if(0:Int)<=AW (x4-1)/\AW (x4-1)<(p1.2.2.2.2.2.2.1.length:Int)then(
  (CS (p1.2.2.2.2.1,p1.2.2.2.2.2.1,()) ((p1.2.2.2.2.2.2.1.getD ((AW (x4-1)).toNat) (0,[],())).1)).bind fun u6=>
  (AK (u6.2.1.length:Int) u3.2.1.1 u3.2.1.2.1 u3.2.1.2.2.1).bind fun u8=>
  if(0:Int)<=u8.1.1/\u8.1.1<(u6.2.1.length:Int)then(
  let x9:Int:=(u6.2.1.getD (u8.1.1.toNat) 0)
  let Xv:Int:=(((p1.2.2.2.2.2.2.1.getD ((AW (x4-1)).toNat) (0,[],())).2.1).length:Int)
  cond (Xv==0)
   ((HR [[],[97],[98,99],[100]] u8.2.1.1 u8.2.1.2.1 u8.2.1.2.2.1).bind fun Mv=>
   some (((2,AW (x4-1),0,0,Mv.1.1,()),()),((Mv.2.1.1,Mv.2.1.2.1,Mv.2.1.2.2.1,()),())))
  ((BL 7 u8.2.1.1 u8.2.1.2.1 u8.2.1.2.2.1).bind fun Dw=>
  cond (Dw.1.1)
   ((HR [[],[97],[98,99],[100]] Dw.2.1.1 Dw.2.1.2.1 Dw.2.1.2.2.1).bind fun M6=>
   some (((2,AW (x4-1),0,0,M6.1.1,()),()),((M6.2.1.1,M6.2.1.2.1,M6.2.1.2.2.1,()),())))
  ((BL 3 Dw.2.1.1 Dw.2.1.2.1 Dw.2.1.2.2.1).bind fun KV=>
  cond (KV.1.1)
   (some (((4,x9,0,0,[],()),()),((KV.2.1.1,KV.2.1.2.1,KV.2.1.2.2.1,()),())))
  ((Uk Xv 3).bind fun Zn=>
  (AK Zn.1.1 KV.2.1.1 KV.2.1.2.1 KV.2.1.2.2.1).bind fun u16=>
  some (((3,AW (x4-1),AW (Xv-u16.1.1),x9,[],()),()),((u16.2.1.1,u16.2.1.2.1,u16.2.1.2.2.1,()),()))))))else none)else none)
 (if(0:Int)<=u2.1.1/\u2.1.1<(p1.2.2.2.2.2.2.1.length:Int)then(
 (CS (p1.2.2.2.2.1,p1.2.2.2.2.2.1,()) ((p1.2.2.2.2.2.2.1.getD (u2.1.1.toNat) (0,[],())).1)).bind fun QR=>
 (AK (QR.2.1.length:Int) u3.2.1.1 u3.2.1.2.1 u3.2.1.2.2.1).bind fun Lt=>
 if(0:Int)<=Lt.1.1/\Lt.1.1<(QR.2.1.length:Int)then(
 let x21:Int:=(QR.2.1.getD (Lt.1.1.toNat) 0)
 let x22:Int:=(((p1.2.2.2.2.2.2.1.getD (u2.1.1.toNat) (0,[],())).2.1).length:Int)
 cond (x22==0)
  ((HR [[],[97],[98,99],[100]] Lt.2.1.1 Lt.2.1.2.1 Lt.2.1.2.2.1).bind fun aq=>
  some (((2,u2.1.1,0,0,aq.1.1,()),()),((aq.2.1.1,aq.2.1.2.1,aq.2.1.2.2.1,()),())))
 ((BL 7 Lt.2.1.1 Lt.2.1.2.1 Lt.2.1.2.2.1).bind fun HS=>
 cond (HS.1.1)
  ((HR [[],[97],[98,99],[100]] HS.2.1.1 HS.2.1.2.1 HS.2.1.2.2.1).bind fun WG=>
  some (((2,u2.1.1,0,0,WG.1.1,()),()),((WG.2.1.1,WG.2.1.2.1,WG.2.1.2.2.1,()),())))
 ((BL 3 HS.2.1.1 HS.2.1.2.1 HS.2.1.2.2.1).bind fun iF=>
 cond (iF.1.1)
  (some (((4,x21,0,0,[],()),()),((iF.2.1.1,iF.2.1.2.1,iF.2.1.2.2.1,()),())))
 ((Uk x22 3).bind fun QK=>
 (AK QK.1.1 iF.2.1.1 iF.2.1.2.1 iF.2.1.2.2.1).bind fun Pr=>
 some (((3,u2.1.1,AW (x22-Pr.1.1),x21,[],()),()),((Pr.2.1.1,Pr.2.1.2.1,Pr.2.1.2.2.1,()),()))))))else none)else none)
abbrev ia:Type:=AHp×AEX
def QI(p1:ABl)(AL:AAB)(AF Aa:Int):Option ia:=
 cond ((p1.2.2.2.2.2.2.1.length:Int)==0)
  ((G_ (p1.1,p1.2.1,()) AL AF Aa).bind fun u3=>
  (J7 u3.2.2.1).bind fun u4=>
  some (((1,u4.1.1,0,0,[],()),()),((u3.2.1.1,u3.2.1.2.1,u3.2.1.2.2.1,()),())))
 ((BL 30 AL AF Aa).bind fun u5=>
 cond (u5.1.1)
  ((G_ (p1.1,p1.2.1,()) u5.2.1.1 u5.2.1.2.1 u5.2.1.2.2.1).bind fun u6=>
  (J7 u6.2.2.1).bind fun u7=>
  some (((1,u7.1.1,0,0,[],()),()),((u6.2.1.1,u6.2.1.2.1,u6.2.1.2.2.1,()),())))
 ((AK (p1.2.2.1.length:Int) u5.2.1.1 u5.2.1.2.1 u5.2.1.2.2.1).bind fun u8=>
 (AK 44 u8.2.1.1 u8.2.1.2.1 u8.2.1.2.2.1).bind fun u9=>
 cond (u9.1.1==0)
  ((AK 16 u9.2.1.1 u9.2.1.2.1 u9.2.1.2.2.1).bind fun EI=>
  some (((5,u8.1.1,EI.1.1,0,[],()),()),((EI.2.1.1,EI.2.1.2.1,EI.2.1.2.2.1,()),())))
 (cond (u9.1.1==1)
  (cond ((p1.2.2.2.1.length:Int)==0)
   (some (((6,u8.1.1,0,0,[],()),()),((u9.2.1.1,u9.2.1.2.1,u9.2.1.2.2.1,()),())))
  ((BL 12 u9.2.1.1 u9.2.1.2.1 u9.2.1.2.2.1).bind fun Dw=>
  cond (Dw.1.1)
   (some (((6,u8.1.1,0,0,[],()),()),((Dw.2.1.1,Dw.2.1.2.1,Dw.2.1.2.2.1,()),())))
  (if(0:Int)<=(0:Int)/\(0:Int)<(p1.2.2.2.1.length:Int)then(
  some (((7,(p1.2.2.2.1.getD 0 0),0,0,[],()),()),((Dw.2.1.1,Dw.2.1.2.1,Dw.2.1.2.2.1,()),())))else none)))
 (cond (u9.1.1==2)
  ((AK (p1.2.2.2.2.2.2.1.length:Int) u9.2.1.1 u9.2.1.2.1 u9.2.1.2.2.1).bind fun Zn=>
  some (((15,Zn.1.1,0,0,[],()),()),((Zn.2.1.1,Zn.2.1.2.1,Zn.2.1.2.2.1,()),())))
 (cond (u9.1.1==3)
  ((BL 3 u9.2.1.1 u9.2.1.2.1 u9.2.1.2.2.1).bind fun u16=>
  cond (u16.1.1)
   (cond (decide ((p1.2.2.2.2.2.2.2.2.2.1.length:Int)>0))
    ((AK (p1.2.2.2.2.2.2.2.2.2.1.length:Int) u16.2.1.1 u16.2.1.2.1 u16.2.1.2.2.1).bind fun ZP=>
    if(0:Int)<=ZP.1.1/\ZP.1.1<(p1.2.2.2.2.2.2.2.2.2.1.length:Int)then(
    some (((13,((p1.2.2.2.2.2.2.2.2.2.1.getD (ZP.1.1.toNat) (0,[],false,())).1),0,0,[],()),()),((ZP.2.1.1,ZP.2.1.2.1,ZP.2.1.2.2.1,()),())))else none)
   (some (((16,u8.1.1,0,0,[],()),()),((u16.2.1.1,u16.2.1.2.1,u16.2.1.2.2.1,()),()))))
  (some (((16,u8.1.1,0,0,[],()),()),((u16.2.1.1,u16.2.1.2.1,u16.2.1.2.2.1,()),()))))
 (cond (u9.1.1==4)
  ((BL 2 u9.2.1.1 u9.2.1.2.1 u9.2.1.2.2.1).bind fun Wo=>
  cond (Wo.1.1)
   ((AK 256 Wo.2.1.1 Wo.2.1.2.1 Wo.2.1.2.2.1).bind fun u22=>
   (AK 2 u22.2.1.1 u22.2.1.2.1 u22.2.1.2.2.1).bind fun aq=>
   some (((14,aq.1.1,u22.1.1,0,[],()),()),((aq.2.1.1,aq.2.1.2.1,aq.2.1.2.2.1,()),())))
  ((AK 2 Wo.2.1.1 Wo.2.1.2.1 Wo.2.1.2.2.1).bind fun HS=>
  some (((14,HS.1.1,255,0,[],()),()),((HS.2.1.1,HS.2.1.2.1,HS.2.1.2.2.1,()),()))))
 (cond (u9.1.1==5)
  ((BL 2 u9.2.1.1 u9.2.1.2.1 u9.2.1.2.2.1).bind fun WG=>
  cond (WG.1.1)
   ((AK 256 WG.2.1.1 WG.2.1.2.1 WG.2.1.2.2.1).bind fun iF=>
   (AK 2 iF.2.1.1 iF.2.1.2.1 iF.2.1.2.2.1).bind fun QK=>
   some (((14,QK.1.1,iF.1.1,0,[],()),()),((QK.2.1.1,QK.2.1.2.1,QK.2.1.2.2.1,()),())))
  ((AK 2 WG.2.1.1 WG.2.1.2.1 WG.2.1.2.2.1).bind fun Pr=>
  some (((14,Pr.1.1,255,0,[],()),()),((Pr.2.1.1,Pr.2.1.2.1,Pr.2.1.2.2.1,()),()))))
 (cond (u9.1.1==6)
  ((BL 2 u9.2.1.1 u9.2.1.2.1 u9.2.1.2.2.1).bind fun T_=>
  cond (T_.1.1)
   ((AK 256 T_.2.1.1 T_.2.1.2.1 T_.2.1.2.2.1).bind fun pB=>
   (AK 2 pB.2.1.1 pB.2.1.2.1 pB.2.1.2.2.1).bind fun eF=>
   some (((14,eF.1.1,pB.1.1,0,[],()),()),((eF.2.1.1,eF.2.1.2.1,eF.2.1.2.2.1,()),())))
  ((AK 2 T_.2.1.1 T_.2.1.2.1 T_.2.1.2.2.1).bind fun u32=>
  some (((14,u32.1.1,255,0,[],()),()),((u32.2.1.1,u32.2.1.2.1,u32.2.1.2.2.1,()),()))))
 (cond (u9.1.1==7)
  ((BL 2 u9.2.1.1 u9.2.1.2.1 u9.2.1.2.2.1).bind fun bV=>
  cond (bV.1.1)
   ((AK 256 bV.2.1.1 bV.2.1.2.1 bV.2.1.2.2.1).bind fun vU=>
   (AK 2 vU.2.1.1 vU.2.1.2.1 vU.2.1.2.2.1).bind fun u35=>
   some (((14,u35.1.1,vU.1.1,0,[],()),()),((u35.2.1.1,u35.2.1.2.1,u35.2.1.2.2.1,()),())))
  ((AK 2 bV.2.1.1 bV.2.1.2.1 bV.2.1.2.2.1).bind fun u36=>
  some (((14,u36.1.1,255,0,[],()),()),((u36.2.1.1,u36.2.1.2.1,u36.2.1.2.2.1,()),()))))
 (cond (u9.1.1==8)
  ((BL 2 u9.2.1.1 u9.2.1.2.1 u9.2.1.2.2.1).bind fun oF=>
  cond (oF.1.1)
   ((AK 256 oF.2.1.1 oF.2.1.2.1 oF.2.1.2.2.1).bind fun p7=>
   (AK 2 p7.2.1.1 p7.2.1.2.1 p7.2.1.2.2.1).bind fun n_=>
   some (((14,n_.1.1,p7.1.1,0,[],()),()),((n_.2.1.1,n_.2.1.2.1,n_.2.1.2.2.1,()),())))
  ((AK 2 oF.2.1.1 oF.2.1.2.1 oF.2.1.2.2.1).bind fun u40=>
  some (((14,u40.1.1,255,0,[],()),()),((u40.2.1.1,u40.2.1.2.1,u40.2.1.2.2.1,()),()))))
 (cond (decide ((p1.2.2.2.2.1.length:Int)>1))
  ((Jy (p1.2.2.2.2.1,p1.2.2.2.2.2.1,())).bind fun u43=>
  cond ((decide (u43.1.1<(p1.2.2.2.2.1.length:Int))))
   ((BL 3 u9.2.1.1 u9.2.1.2.1 u9.2.1.2.2.1).bind fun u45=>
   cond (!u45.1.1)
    ((Mj (p1.1,p1.2.1,p1.2.2.1,p1.2.2.2.1,p1.2.2.2.2.1,p1.2.2.2.2.2.1,p1.2.2.2.2.2.2.1,p1.2.2.2.2.2.2.2.1,p1.2.2.2.2.2.2.2.2.1,p1.2.2.2.2.2.2.2.2.2.1,p1.2.2.2.2.2.2.2.2.2.2.1,()) u45.2.1.1 u45.2.1.2.1 u45.2.1.2.2.1).bind fun tW=>
    some (((tW.1.1.1,tW.1.1.2.1,tW.1.1.2.2.1,tW.1.1.2.2.2.1,tW.1.1.2.2.2.2.1,()),()),((tW.2.1.1,tW.2.1.2.1,tW.2.1.2.2.1,()),())))
   ((G2 (p1.1,p1.2.1,p1.2.2.1,p1.2.2.2.1,p1.2.2.2.2.1,p1.2.2.2.2.2.1,p1.2.2.2.2.2.2.1,p1.2.2.2.2.2.2.2.1,p1.2.2.2.2.2.2.2.2.1,p1.2.2.2.2.2.2.2.2.2.1,p1.2.2.2.2.2.2.2.2.2.2.1,()) u45.2.1.1 u45.2.1.2.1 u45.2.1.2.2.1).bind fun oc=>
   some (((oc.1.1.1,oc.1.1.2.1,oc.1.1.2.2.1,oc.1.1.2.2.2.1,oc.1.1.2.2.2.2.1,()),()),((oc.2.1.1,oc.2.1.2.1,oc.2.1.2.2.1,()),()))))
  ((G2 (p1.1,p1.2.1,p1.2.2.1,p1.2.2.2.1,p1.2.2.2.2.1,p1.2.2.2.2.2.1,p1.2.2.2.2.2.2.1,p1.2.2.2.2.2.2.2.1,p1.2.2.2.2.2.2.2.2.1,p1.2.2.2.2.2.2.2.2.2.1,p1.2.2.2.2.2.2.2.2.2.2.1,()) u9.2.1.1 u9.2.1.2.1 u9.2.1.2.2.1).bind fun u48=>
  some (((u48.1.1.1,u48.1.1.2.1,u48.1.1.2.2.1,u48.1.1.2.2.2.1,u48.1.1.2.2.2.2.1,()),()),((u48.2.1.1,u48.2.1.2.1,u48.2.1.2.2.1,()),()))))
 ((G2 (p1.1,p1.2.1,p1.2.2.1,p1.2.2.2.1,p1.2.2.2.2.1,p1.2.2.2.2.2.1,p1.2.2.2.2.2.2.1,p1.2.2.2.2.2.2.2.1,p1.2.2.2.2.2.2.2.2.1,p1.2.2.2.2.2.2.2.2.2.1,p1.2.2.2.2.2.2.2.2.2.2.1,()) u9.2.1.1 u9.2.1.2.1 u9.2.1.2.2.1).bind fun tZ=>
 some (((tZ.1.1.1,tZ.1.1.2.1,tZ.1.1.2.2.1,tZ.1.1.2.2.2.1,tZ.1.1.2.2.2.2.1,()),()),((tZ.2.1.1,tZ.2.1.2.1,tZ.2.1.2.2.1,()),()))))))))))))))
abbrev sM:Type:=ABi×Unit
def H4(p0:Int):Option sM:=
 cond (decide (p0>0))
  ((CU (AW (p0.tdiv 4294967296)) 1 30).bind fun u2=>
  cond (u2.1.1)
   ((CU (p0.tmod 4294967296) 1 60).bind fun u3=>
   some ((u3.1.1,()),()))
  (some ((false,()),())))
 (some ((false,()),()))
abbrev IG:Type:=ABq×Unit
def C1(p0:Int):Option IG:=
 (H4 p0).bind fun u1=>
 cond (!u1.1.1)
  (some ((0,()),()))
 (some (((AW (p0.tdiv 4294967296)),()),()))
abbrev q8:Type:=ABi×Unit
def Mz(p0:AD_):Option q8:=
 (H4 p0.1).bind fun u1=>
 cond (!u1.1.1)
  (some ((false,()),()))
 ((CU p0.2.1 0 30).bind fun u2=>
 cond (!u2.1.1)
  (some ((false,()),()))
 (cond (decide (p0.2.1>0))
  ((C1 p0.1).bind fun u3=>
  cond ((decide (p0.2.1<=u3.1.1)))
   (some ((false,()),()))
  (cond (decide ((p0.2.2.2.1.length:Int)>40))
   (some ((false,()),()))
  (cond (!p0.2.2.1)
   (some ((true,()),()))
  (cond (decide (p0.2.1>0))
   (some ((p0.2.2.2.1==[],()),()))
  (some ((false,()),()))))))
 (cond (decide ((p0.2.2.2.1.length:Int)>40))
  (some ((false,()),()))
 (cond (!p0.2.2.1)
  (some ((true,()),()))
 (cond (decide (p0.2.1>0))
  (some ((p0.2.2.2.1==[],()),()))
 (some ((false,()),())))))))
abbrev VG:Type:=ABi×Unit
abbrev X0:Type:=ABJ->Int->Option VG
def Tb(R4:X0)(t0:ABJ)(t5:Int):Option VG:=
 cond ((decide (t5<(t0.length:Int))))
  (if(0:Int)<=t5/\t5<(t0.length:Int)then(
  (Mz ((t0.getD (t5.toNat) (0,0,false,[],())).1,(t0.getD (t5.toNat) (0,0,false,[],())).2.1,(t0.getD (t5.toNat) (0,0,false,[],())).2.2.1,(t0.getD (t5.toNat) (0,0,false,[],())).2.2.2.1,())).bind fun u3=>
  cond (!u3.1.1)
   (some ((false,()),()))
  (R4 t0 (AW (t5+1))))else none)
 (some ((true,()),()))
def MH:Nat->X0
 |0=>fun _ _=>none
 |n+1=>Tb (MH n)
def Z4(R4:X0)(p0:ABJ)(p1:Int):Option VG:=
 cond ((decide ((p0.length:Int)>p1)))
  (some ((false,()),()))
 (R4 p0 0)
def VY(p0:ABJ)(p1:Int):Option VG:=Z4 (MH AZ) p0 p1
abbrev XQ:Type:=ABi×Unit
abbrev ag:Type:=ABJ->Int->Option XQ
def QO(R2:ag)(t0:ABJ)(t3:Int):Option XQ:=
 cond ((decide (t3<(t0.length:Int))))
  (if(0:Int)<=AW (t3-1)/\AW (t3-1)<(t0.length:Int)then(
  if(0:Int)<=t3/\t3<(t0.length:Int)then(
  cond (decide (((t0.getD ((AW (t3-1)).toNat) (0,0,false,[],())).1)>=((t0.getD (t3.toNat) (0,0,false,[],())).1)))
   (some ((false,()),()))
  (R2 t0 (AW (t3+1))))else none)else none)
 (some ((true,()),()))
def Gr:Nat->ag
 |0=>fun _ _=>none
 |n+1=>QO (Gr n)
def bX(R2:ag)(p0:ABJ):Option XQ:=
 R2 p0 1
def YA(p0:ABJ):Option XQ:=bX (Gr AZ) p0
abbrev qq:Type:=ABi×Unit
def Gy(p0:ACd):Option qq:=
 (VY p0.1 200).bind fun u1=>
 cond (u1.1.1)
  ((VY p0.2.1 20).bind fun u2=>
  cond (u2.1.1)
   ((YA p0.1).bind fun u3=>
   cond (u3.1.1)
    ((CU p0.2.2.1 0 30).bind fun u4=>
    some ((u4.1.1,()),()))
   (some ((false,()),())))
  (some ((false,()),())))
 (some ((false,()),()))
abbrev qn:Type:=ABi×Unit
def dA(p0:ACd):Option qn:=
 cond (((p0.1.length:Int)==0))
  (cond ((p0.2.1.length:Int)==0)
   (some ((p0.2.2.1==0,()),()))
  (some ((false,()),())))
 (some ((false,()),()))
abbrev RR:Type:=ABi×Unit
abbrev Us:Type:=Int->List Int->Int->AAQ->List Int->AAH->Int->AAj->AA6->ABA->AAT->Bool->Option RR
def Qc(R4:Us)(t3:Int)(AL:AAB)(AF:Int)(Aa:AAQ)(Ck:AAB)(DO:AAH)(Ab:Int)(DI:AAj)(DC:AA6)(D_:ABA)(EG:AAT)(AM:Bool):Option RR:=
 cond ((decide (t3<(Aa.length:Int))))
  (if(0:Int)<=t3/\t3<(Aa.length:Int)then(
  (Gy ((Aa.getD (t3.toNat) ([],[],0,())).1,(Aa.getD (t3.toNat) ([],[],0,())).2.1,(Aa.getD (t3.toNat) ([],[],0,())).2.2.1,())).bind fun u8=>
  cond (!u8.1.1)
   (some ((false,()),()))
  ((DA Ck t3).bind fun u9=>
  cond (u9.1.1)
   (if(0:Int)<=t3/\t3<(Aa.length:Int)then(
   (dA ((Aa.getD (t3.toNat) ([],[],0,())).1,(Aa.getD (t3.toNat) ([],[],0,())).2.1,(Aa.getD (t3.toNat) ([],[],0,())).2.2.1,())).bind fun EI=>
   cond (!EI.1.1)
    (some ((false,()),()))
   (R4 (AW (t3+1)) AL AF Aa Ck DO Ab DI DC D_ EG AM))else none)
  (R4 (AW (t3+1)) AL AF Aa Ck DO Ab DI DC D_ EG AM)))else none)
 (some ((true,()),()))
def Jj:Nat->Us
 |0=>fun _ _ _ _ _ _ _ _ _ _ _ _=>none
 |n+1=>Qc (Jj n)
def Wx(R4:Us)(p0:ABl):Option RR:=
 (Gp (p0.1,p0.2.1,())).bind fun u1=>
 cond (!u1.1.1)
  (some ((false,()),()))
 (cond (((p0.2.2.1.length:Int) !=(p0.1.length:Int)))
  (some ((false,()),()))
 ((G4 (p0.1,p0.2.1,()) p0.2.2.2.1).bind fun u4=>
 cond (!u4.1.1)
  (some ((false,()),()))
 ((FD (p0.1,p0.2.1,()) p0.2.2.2.1).bind fun u5=>
 cond (u5.1.1)
  (cond (!p0.2.2.2.2.2.2.2.2.2.2.1)
   (some ((false,()),()))
  (R4 0 p0.1 p0.2.1 p0.2.2.1 p0.2.2.2.1 p0.2.2.2.2.1 p0.2.2.2.2.2.1 p0.2.2.2.2.2.2.1 p0.2.2.2.2.2.2.2.1 p0.2.2.2.2.2.2.2.2.1 p0.2.2.2.2.2.2.2.2.2.1 p0.2.2.2.2.2.2.2.2.2.2.1))
 (R4 0 p0.1 p0.2.1 p0.2.2.1 p0.2.2.2.1 p0.2.2.2.2.1 p0.2.2.2.2.2.1 p0.2.2.2.2.2.2.1 p0.2.2.2.2.2.2.2.1 p0.2.2.2.2.2.2.2.2.1 p0.2.2.2.2.2.2.2.2.2.1 p0.2.2.2.2.2.2.2.2.2.2.1))))
def VM(p0:ABl):Option RR:=Wx (Jj AZ) p0
abbrev TZ:Type:=ABi×Unit
abbrev bD:Type:=Int->Int->List Int->Int->AAH->Int->Option TZ
def U3(R5:bD)(t5 t6:Int)(AL:AAB)(AF:Int)(BT:AAH)(Au:Int):Option TZ:=
 cond (decide (t6<t5))
  (if(0:Int)<=t6/\t6<(BT.length:Int)then(
  (FD (AL,AF,()) ((BT.getD (t6.toNat) ([],false,0,())).1)).bind fun u6=>
  cond (!u6.1.1)
   (some ((false,()),()))
  ((CU ((BT.getD (t6.toNat) ([],false,0,())).2.2.1) 0 60).bind fun u8=>
  cond (!u8.1.1)
   (some ((false,()),()))
  (cond (!((BT.getD (t6.toNat) ([],false,0,())).2.1))
   (cond (((BT.getD (t6.toNat) ([],false,0,())).2.2.1) !=0)
    (some ((false,()),()))
   (cond (((BT.getD (t6.toNat) ([],false,0,())).2.1))
    (cond (t6==(AW (t5-1)))
     (some ((false,()),()))
    (cond (decide (t6>0))
     (if(0:Int)<=AW (t6-1)/\AW (t6-1)<(BT.length:Int)then(
     cond (!((BT.getD ((AW (t6-1)).toNat) ([],false,0,())).2.1))
      (some ((false,()),()))
     (R5 t5 (AW (t6+1)) AL AF BT Au))else none)
    (R5 t5 (AW (t6+1)) AL AF BT Au)))
   (R5 t5 (AW (t6+1)) AL AF BT Au)))
  (cond (((BT.getD (t6.toNat) ([],false,0,())).2.1))
   (cond (t6==(AW (t5-1)))
    (some ((false,()),()))
   (cond (decide (t6>0))
    (if(0:Int)<=AW (t6-1)/\AW (t6-1)<(BT.length:Int)then(
    cond (!((BT.getD ((AW (t6-1)).toNat) ([],false,0,())).2.1))
     (some ((false,()),()))
    (R5 t5 (AW (t6+1)) AL AF BT Au))else none)
   (R5 t5 (AW (t6+1)) AL AF BT Au)))
  (R5 t5 (AW (t6+1)) AL AF BT Au)))))else none)
 (some ((true,()),()))
def Lb:Nat->bD
 |0=>fun _ _ _ _ _ _=>none
 |n+1=>U3 (Lb n)
def cA(R5:bD)(p0:ABS)(p1:ACc):Option TZ:=
 (Gp (p0.1,p0.2.1,())).bind fun u1=>
 cond (!u1.1.1)
  (some ((false,()),()))
 (cond ((decide ((p1.1.length:Int)>30)))
  (some ((false,()),()))
 (cond (p1.2.1 !=0)
  ((H4 p1.2.1).bind fun u3=>
  cond (!u3.1.1)
   (some ((false,()),()))
  ((C1 p1.2.1).bind fun u4=>
  cond ((decide (u4.1.1>(p1.1.length:Int))))
   (some ((false,()),()))
  (R5 (p1.1.length:Int) 0 p0.1 p0.2.1 p1.1 p1.2.1)))
 (R5 (p1.1.length:Int) 0 p0.1 p0.2.1 p1.1 p1.2.1)))
def NS(p0:ABS)(p1:ACc):Option TZ:=cA (Lb AZ) p0 p1
abbrev Nh:Type:=ABi×Unit
abbrev Uq:Type:=Int->Int->List Int->Int->Int->ACG->Option Nh
def XC(R5:Uq)(t5 t6:Int)(AL:AAB)(AF BT:Int)(Au:ACG):Option Nh:=
 cond ((decide (t6<(Au.length:Int))))
  (if(0:Int)<=t6/\t6<(Au.length:Int)then(
  cond ((decide ((((Au.getD (t6.toNat) ([],[],false,())).1).length:Int)>40)))
   (some ((false,()),()))
  ((G4 (AL,AF,()) ((Au.getD (t6.toNat) ([],[],false,())).2.1)).bind fun u7=>
  cond (!u7.1.1)
   (some ((false,()),()))
  ((FD (AL,AF,()) ((Au.getD (t6.toNat) ([],[],false,())).2.1)).bind fun u9=>
  cond (u9.1.1 !=((Au.getD (t6.toNat) ([],[],false,())).2.2.1))
   (some ((false,()),()))
  (cond (!((Au.getD (t6.toNat) ([],[],false,())).2.2.1))
   (R5 (AW (t5+1)) (AW (t6+1)) AL AF BT Au)
  (R5 t5 (AW (t6+1)) AL AF BT Au)))))else none)
 (some ((decide (t5<=6),()),()))
def L_:Nat->Uq
 |0=>fun _ _ _ _ _ _=>none
 |n+1=>XC (L_ n)
def Wb(R5:Uq)(p0:ABS)(p1:ACi):Option Nh:=
 (Gp (p0.1,p0.2.1,())).bind fun u1=>
 cond (!u1.1.1)
  (some ((false,()),()))
 ((CU p1.1 1 30).bind fun u2=>
 cond (!u2.1.1)
  (some ((false,()),()))
 (cond (decide ((p1.2.1.length:Int)>60))
  (some ((false,()),()))
 (R5 0 0 p0.1 p0.2.1 p1.1 p1.2.1)))
def H6(p0:ABS)(p1:ACi):Option Nh:=Wb (L_ AZ) p0 p1
abbrev LR:Type:=ABq×Unit
def Hp(p0:Int):Option LR:=
 (H4 p0).bind fun u1=>
 cond (!u1.1.1)
  (some ((0,()),()))
 (some ((p0.tmod 4294967296,()),()))
abbrev tF:Type:=ABq×Unit
def SX(p0:ABY):Option tF:=
 cond ((p0.2.2.2.1.length:Int)==0)
  (some ((0,()),()))
 (let x2:Int:=(p0.2.2.2.1.length:Int)
 if(0:Int)<=AW (x2-1)/\AW (x2-1)<(p0.2.2.2.1.length:Int)then(
 (Hp ((p0.2.2.2.1.getD ((AW (x2-1)).toNat) (0,0,false,[],())).1)).bind fun u4=>
 some ((u4.1.1,()),()))else none)
abbrev Nu:Type:=ABi×Unit
abbrev S6:Type:=Int->List Int->Int->Int->Int->List Int->ABJ->Bool->List AAB->Option Nu
abbrev Sy:Type:=Int->List Int->Int->Int->Int->List Int->ABJ->Bool->List AAB->Option Nu
def TH(R4:S6)(R9:Sy)(t5:Int)(AL:AAB)(AF BT Au:Int)(Da:AAB)(HP:ABJ)(ND:Bool)(DZ:List AAB):Option Nu:=
 cond ((decide (t5<(HP.length:Int))))
  (if(0:Int)<=t5/\t5<(HP.length:Int)then(
  (Mz ((HP.getD (t5.toNat) (0,0,false,[],())).1,(HP.getD (t5.toNat) (0,0,false,[],())).2.1,(HP.getD (t5.toNat) (0,0,false,[],())).2.2.1,(HP.getD (t5.toNat) (0,0,false,[],())).2.2.2.1,())).bind fun u7=>
  cond (!u7.1.1)
   (some ((false,()),()))
  (if(0:Int)<=t5/\t5<(HP.length:Int)then(
  (C1 ((HP.getD (t5.toNat) (0,0,false,[],())).1)).bind fun u9=>
  cond (u9.1.1 !=Au)
   (some ((false,()),()))
  (if(0:Int)<=t5/\t5<(HP.length:Int)then(
  cond (decide (((HP.getD (t5.toNat) (0,0,false,[],())).2.1)>=BT))
   (some ((false,()),()))
  (R4 (AW (t5+1)) AL AF BT Au Da HP ND DZ))else none))else none))else none)
 (R9 0 AL AF BT Au Da HP ND DZ)
def TX(R4:S6)(R9:Sy)(t6:Int)(AL:AAB)(AF BT Au:Int)(Da:AAB)(HP:ABJ)(ND:Bool)(DZ:List AAB):Option Nu:=
 cond ((decide (t6<(DZ.length:Int))))
  (if(0:Int)<=t6/\t6<(DZ.length:Int)then(
  (G4 (AL,AF,()) (DZ.getD (t6.toNat) [])).bind fun Dw=>
  cond (!Dw.1.1)
   (some ((false,()),()))
  (R9 (AW (t6+1)) AL AF BT Au Da HP ND DZ))else none)
 (cond (!ND)
  (some ((((DZ.length:Int)==0),()),()))
 ((SX (BT,Au,Da,HP,ND,DZ,())).bind fun KV=>
 some ((((DZ.length:Int)==KV.1.1),()),())))
mutual
def J3:Nat->S6
 |0=>fun _ _ _ _ _ _ _ _ _=>none
 |n+1=>TH (J3 n) (H9 n)
def H9:Nat->Sy
 |0=>fun _ _ _ _ _ _ _ _ _=>none
 |n+1=>TX (J3 n) (H9 n)
end
def aJ(R4:S6)(R9:Sy)(p0:ABS)(p1:ABY):Option Nu:=
 (Gp (p0.1,p0.2.1,())).bind fun u1=>
 cond (!u1.1.1)
  (some ((false,()),()))
 ((CU p1.2.1 1 30).bind fun u2=>
 cond (!u2.1.1)
  (some ((false,()),()))
 ((CU p1.1 (AW (p1.2.1+1)) 30).bind fun u3=>
 cond (!u3.1.1)
  (some ((false,()),()))
 ((G4 (p0.1,p0.2.1,()) p1.2.2.1).bind fun u4=>
 cond (!u4.1.1)
  (some ((false,()),()))
 ((YA p1.2.2.2.1).bind fun u5=>
 cond (!u5.1.1)
  (some ((false,()),()))
 (R4 0 p0.1 p0.2.1 p1.1 p1.2.1 p1.2.2.1 p1.2.2.2.1 p1.2.2.2.2.1 p1.2.2.2.2.2.1)))))
def JO(p0:ABS)(p1:ABY):Option Nu:=aJ (J3 AZ) (H9 AZ) p0 p1
abbrev Jd:Type:=ABi×Unit
abbrev Oe:Type:=Int->Int->List Int->Int->AAQ->List Int->AAH->Int->AAj->AA6->ABA->AAT->Bool->Option Jd
abbrev NL:Type:=Int->Int->List Int->Int->AAQ->List Int->AAH->Int->AAj->AA6->ABA->AAT->Bool->Option Jd
def PK(R5:Oe)(R10:NL)(t3 t4:Int)(AL:AAB)(AF:Int)(Aa:AAQ)(Ck:AAB)(DO:AAH)(Ab:Int)(DI:AAj)(DC:AA6)(D_:ABA)(EG:AAT)(AM:Bool):Option Jd:=
 cond ((decide (t4<(DI.length:Int))))
  (if(0:Int)<=t4/\t4<(DI.length:Int)then(
  (H6 (AL,AF,()) ((DI.getD (t4.toNat) (0,[],())).1,(DI.getD (t4.toNat) (0,[],())).2.1,())).bind fun u6=>
  cond (!u6.1.1)
   (some ((false,()),()))
  (if(0:Int)<=t4/\t4<(DI.length:Int)then(
  cond (decide (((DI.getD (t4.toNat) (0,[],())).1)>t3))
   (some ((false,()),()))
  (cond (decide (t4>0))
   (if(0:Int)<=AW (t4-1)/\AW (t4-1)<(DI.length:Int)then(
   if(0:Int)<=t4/\t4<(DI.length:Int)then(
   cond (decide (((DI.getD ((AW (t4-1)).toNat) (0,[],())).1)>=((DI.getD (t4.toNat) (0,[],())).1)))
    (some ((false,()),()))
   (R5 t3 (AW (t4+1)) AL AF Aa Ck DO Ab DI DC D_ EG AM))else none)else none)
  (R5 t3 (AW (t4+1)) AL AF Aa Ck DO Ab DI DC D_ EG AM)))else none))else none)
 (R10 t3 0 AL AF Aa Ck DO Ab DI DC D_ EG AM)
def OM(R5:Oe)(R10:NL)(t3 t5:Int)(AL:AAB)(AF:Int)(Aa:AAQ)(Ck:AAB)(DO:AAH)(Ab:Int)(DI:AAj)(DC:AA6)(D_:ABA)(EG:AAT)(AM:Bool):Option Jd:=
 cond ((decide (t5<(DC.length:Int))))
  (if(0:Int)<=t5/\t5<(DC.length:Int)then(
  (JO (AL,AF,()) ((DC.getD (t5.toNat) (0,0,[],[],false,[],())).1,(DC.getD (t5.toNat) (0,0,[],[],false,[],())).2.1,(DC.getD (t5.toNat) (0,0,[],[],false,[],())).2.2.1,(DC.getD (t5.toNat) (0,0,[],[],false,[],())).2.2.2.1,(DC.getD (t5.toNat) (0,0,[],[],false,[],())).2.2.2.2.1,(DC.getD (t5.toNat) (0,0,[],[],false,[],())).2.2.2.2.2.1,())).bind fun Mv=>
  cond (!Mv.1.1)
   (some ((false,()),()))
  (cond (((DC.getD (t5.toNat) (0,0,[],[],false,[],())).1) !=t3)
   (some ((false,()),()))
  ((Jy (DO,Ab,())).bind fun KV=>
  cond (((DC.getD (t5.toNat) (0,0,[],[],false,[],())).2.1) !=KV.1.1)
   (some ((false,()),()))
  (R10 t3 (AW (t5+1)) AL AF Aa Ck DO Ab DI DC D_ EG AM))))else none)
 (some ((true,()),()))
mutual
def HB:Nat->Oe
 |0=>fun _ _ _ _ _ _ _ _ _ _ _ _ _=>none
 |n+1=>PK (HB n) (E7 n)
def E7:Nat->NL
 |0=>fun _ _ _ _ _ _ _ _ _ _ _ _ _=>none
 |n+1=>OM (HB n) (E7 n)
end
def V8(R5:Oe)(R10:NL)(p0:ABl):Option Jd:=
 (NS (p0.1,p0.2.1,()) (p0.2.2.2.2.1,p0.2.2.2.2.2.1,())).bind fun u2=>
 cond (!u2.1.1)
  (some ((false,()),()))
 (cond (decide ((p0.2.2.2.2.2.2.1.length:Int)>4))
  (some ((false,()),()))
 (cond (decide ((p0.2.2.2.2.2.2.2.1.length:Int)>1))
  (some ((false,()),()))
 (R5 (p0.2.2.2.2.1.length:Int) 0 p0.1 p0.2.1 p0.2.2.1 p0.2.2.2.1 p0.2.2.2.2.1 p0.2.2.2.2.2.1 p0.2.2.2.2.2.2.1 p0.2.2.2.2.2.2.2.1 p0.2.2.2.2.2.2.2.2.1 p0.2.2.2.2.2.2.2.2.2.1 p0.2.2.2.2.2.2.2.2.2.2.1)))
def To(p0:ABl):Option Jd:=V8 (HB AZ) (E7 AZ) p0
abbrev ou:Type:=ABi×Unit
def Nx(p0:AEA):Option ou:=
 (CU p0.1 1 31).bind fun u1=>
 cond (u1.1.1)
  ((CU p0.2.1 1 61).bind fun u2=>
  cond (u2.1.1)
   (some ((decide ((p0.2.2.1.length:Int)<=120),()),()))
  (some ((false,()),())))
 (some ((false,()),()))
abbrev Ta:Type:=ABi×Unit
abbrev WW:Type:=Int->List Int->Int->AAQ->List Int->AAH->Int->AAj->AA6->ABA->AAT->Bool->Option Ta
def Rq(R4:WW)(t3:Int)(AL:AAB)(AF:Int)(Aa:AAQ)(Ck:AAB)(DO:AAH)(Ab:Int)(DI:AAj)(DC:AA6)(D_:ABA)(EG:AAT)(AM:Bool):Option Ta:=
 cond ((decide (t3<(EG.length:Int))))
  (if(0:Int)<=t3/\t3<(EG.length:Int)then(
  (H4 ((EG.getD (t3.toNat) (0,[],false,())).1)).bind fun u4=>
  cond (!u4.1.1)
   (some ((false,()),()))
  ((C1 ((EG.getD (t3.toNat) (0,[],false,())).1)).bind fun u6=>
  cond ((decide (u6.1.1>(DO.length:Int))))
   (some ((false,()),()))
  (cond ((decide ((((EG.getD (t3.toNat) (0,[],false,())).2.1).length:Int)>40)))
   (some ((false,()),()))
  (cond (decide (t3>0))
   (if(0:Int)<=AW (t3-1)/\AW (t3-1)<(EG.length:Int)then(
   cond (decide (((EG.getD ((AW (t3-1)).toNat) (0,[],false,())).1)>=((EG.getD (t3.toNat) (0,[],false,())).1)))
    (some ((false,()),()))
   (R4 (AW (t3+1)) AL AF Aa Ck DO Ab DI DC D_ EG AM))else none)
  (R4 (AW (t3+1)) AL AF Aa Ck DO Ab DI DC D_ EG AM)))))else none)
 (some ((true,()),()))
def Ku:Nat->WW
 |0=>fun _ _ _ _ _ _ _ _ _ _ _ _=>none
 |n+1=>Rq (Ku n)
def Yj(R4:WW)(p0:ABl):Option Ta:=
 cond (decide ((p0.2.2.2.2.2.2.2.2.2.1.length:Int)>120))
  (some ((false,()),()))
 (R4 0 p0.1 p0.2.1 p0.2.2.1 p0.2.2.2.1 p0.2.2.2.2.1 p0.2.2.2.2.2.1 p0.2.2.2.2.2.2.1 p0.2.2.2.2.2.2.2.1 p0.2.2.2.2.2.2.2.2.1 p0.2.2.2.2.2.2.2.2.2.1 p0.2.2.2.2.2.2.2.2.2.2.1)
def Xm(p0:ABl):Option Ta:=Yj (Ku AZ) p0
abbrev rW:Type:=ABi×Unit
def QQ(p0:ABl):Option rW:=
 (VM (p0.1,p0.2.1,p0.2.2.1,p0.2.2.2.1,p0.2.2.2.2.1,p0.2.2.2.2.2.1,p0.2.2.2.2.2.2.1,p0.2.2.2.2.2.2.2.1,p0.2.2.2.2.2.2.2.2.1,p0.2.2.2.2.2.2.2.2.2.1,p0.2.2.2.2.2.2.2.2.2.2.1,())).bind fun u1=>
 cond (u1.1.1)
  ((To (p0.1,p0.2.1,p0.2.2.1,p0.2.2.2.1,p0.2.2.2.2.1,p0.2.2.2.2.2.1,p0.2.2.2.2.2.2.1,p0.2.2.2.2.2.2.2.1,p0.2.2.2.2.2.2.2.2.1,p0.2.2.2.2.2.2.2.2.2.1,p0.2.2.2.2.2.2.2.2.2.2.1,())).bind fun u2=>
  cond (u2.1.1)
   (cond ((p0.2.2.2.2.2.2.2.2.1.length:Int)==2)
    (if(0:Int)<=(0:Int)/\(0:Int)<(p0.2.2.2.2.2.2.2.2.1.length:Int)then(
    (Nx ((p0.2.2.2.2.2.2.2.2.1.getD 0 (0,0,[],())).1,(p0.2.2.2.2.2.2.2.2.1.getD 0 (0,0,[],())).2.1,(p0.2.2.2.2.2.2.2.2.1.getD 0 (0,0,[],())).2.2.1,())).bind fun u4=>
    cond (u4.1.1)
     (if(0:Int)<=(1:Int)/\(1:Int)<(p0.2.2.2.2.2.2.2.2.1.length:Int)then(
     (Nx ((p0.2.2.2.2.2.2.2.2.1.getD 1 (0,0,[],())).1,(p0.2.2.2.2.2.2.2.2.1.getD 1 (0,0,[],())).2.1,(p0.2.2.2.2.2.2.2.2.1.getD 1 (0,0,[],())).2.2.1,())).bind fun u5=>
     cond (u5.1.1)
      ((Xm (p0.1,p0.2.1,p0.2.2.1,p0.2.2.2.1,p0.2.2.2.2.1,p0.2.2.2.2.2.1,p0.2.2.2.2.2.2.1,p0.2.2.2.2.2.2.2.1,p0.2.2.2.2.2.2.2.2.1,p0.2.2.2.2.2.2.2.2.2.1,p0.2.2.2.2.2.2.2.2.2.2.1,())).bind fun u6=>
      some ((u6.1.1,()),()))
     (some ((false,()),())))else none)
    (some ((false,()),())))else none)
   (some ((false,()),())))
  (some ((false,()),())))
 (some ((false,()),()))
abbrev pJ:Type:=AHp×Unit
def bB(p0:ADe):Option pJ:=
 cond (p0.1==1)
  (some (((p0.1,p0.2.1,0,0,[],()),()),()))
 (cond (p0.1==4)
  (some (((p0.1,p0.2.1,0,0,[],()),()),()))
 (cond (p0.1==6)
  (some (((p0.1,p0.2.1,0,0,[],()),()),()))
 (cond (p0.1==7)
  (some (((p0.1,p0.2.1,0,0,[],()),()),()))
 (cond (p0.1==9)
  (some (((p0.1,p0.2.1,0,0,[],()),()),()))
 (cond (p0.1==13)
  (some (((p0.1,p0.2.1,0,0,[],()),()),()))
 (cond (p0.1==15)
  (some (((p0.1,p0.2.1,0,0,[],()),()),()))
 (cond (p0.1==16)
  (some (((p0.1,p0.2.1,0,0,[],()),()),()))
 (cond (p0.1==2)
  (some (((p0.1,p0.2.1,0,0,p0.2.2.2.2.1,()),()),()))
 (cond (p0.1==3)
  (some (((p0.1,p0.2.1,p0.2.2.1,p0.2.2.2.1,[],()),()),()))
 (cond (p0.1==5)
  (some (((p0.1,p0.2.1,p0.2.2.1,0,[],()),()),()))
 (cond (p0.1==14)
  (some (((p0.1,p0.2.1,p0.2.2.1,0,[],()),()),()))
 (cond (p0.1==11)
  (some (((p0.1,0,p0.2.2.1,p0.2.2.2.1,[],()),()),()))
 (some (((p0.1,0,0,0,[],()),()),()))))))))))))))
abbrev sr:Type:=ABi×Unit
def Zu(p0:ADe):Option sr:=
 (CU p0.1 1 16).bind fun u1=>
 cond (u1.1.1)
  ((bB (p0.1,p0.2.1,p0.2.2.1,p0.2.2.2.1,p0.2.2.2.2.1,())).bind fun u2=>
  cond (((p0.1==u2.1.1.1)&&((p0.2.1==u2.1.1.2.1)&&((p0.2.2.1==u2.1.1.2.2.1)&&((p0.2.2.2.1==u2.1.1.2.2.2.1)&&((p0.2.2.2.2.1==u2.1.1.2.2.2.2.1)&&true))))))
   (some ((decide ((p0.2.2.2.2.1.length:Int)<=40),()),()))
  (some ((false,()),())))
 (some ((false,()),()))
abbrev Fz:Type:=AEJ×AE2
abbrev X3:Type:=Int->AAH->Int->Int->AAH->Int->AAH->Option Fz
def Zv(R3:X3)(t4:Int)(AL:AAH)(AF Au:Int)(b2:AAH)(fq:Int)(b4:AAH):Option Fz:=
 cond ((decide (t4<(AL.length:Int))))
  (if(0:Int)<=t4/\t4<(AL.length:Int)then(
  if 0+((AL.getD (t4.toNat) ([],false,0,())).1).length<=C_ then(
  if b4.length+1<=C_ then(
  R3 (AW (t4+1)) AL AF Au b2 fq (b4++[(((AL.getD (t4.toNat) ([],false,0,())).1),(AL.getD (t4.toNat) ([],false,0,())).2.1,(AL.getD (t4.toNat) ([],false,0,())).2.2.1,())]))else none)else none)else none)
 (some ((((),fq,()),()),(b4,())))
def Pd:Nat->X3
 |0=>fun _ _ _ _ _ _ _=>none
 |n+1=>Zv (Pd n)
def Zt(R3:X3)(p0:ACc):Option Fz:=
 R3 0 p0.1 p0.2.1 0 [] p0.2.1 []
def GU(p0:ACc):Option Fz:=Zt (Pd AZ) p0
abbrev Lc:Type:=AFW×AEK
def FH(p0:ACd):Option Lc:=
 if 0+p0.1.length<=C_ then(
 if 0+p0.2.1.length<=C_ then(
 some ((((),(),p0.2.2.1,()),()),(p0.1,p0.2.1,())))else none)else none
abbrev F7:Type:=AGU×AE5
abbrev X5:Type:=Int->Int->ACG->Int->ACG->Int->ACG->Option F7
def TP(R3:X5)(t4 AL:Int)(AF:ACG)(BT:Int)(b2:ACG)(jb:Int)(b4:ACG):Option F7:=
 cond ((decide (t4<(AF.length:Int))))
  (if(0:Int)<=t4/\t4<(AF.length:Int)then(
  if 0+((AF.getD (t4.toNat) ([],[],false,())).2.1).length<=C_ then(
  if b4.length+1<=C_ then(
  R3 (AW (t4+1)) AL AF BT b2 jb (b4++[((AF.getD (t4.toNat) ([],[],false,())).1,((AF.getD (t4.toNat) ([],[],false,())).2.1),(AF.getD (t4.toNat) ([],[],false,())).2.2.1,())]))else none)else none)else none)
 (some (((jb,(),()),()),(b4,())))
def KJ:Nat->X5
 |0=>fun _ _ _ _ _ _ _=>none
 |n+1=>TP (KJ n)
def Sp(R3:X5)(p0:ACi):Option F7:=
 R3 0 p0.1 p0.2.1 0 [] p0.1 []
def Eg(p0:ACi):Option F7:=Sp (KJ AZ) p0
abbrev Gu:Type:=AFE×AEQ
abbrev ZC:Type:=Int->Int->Int->List Int->ABJ->Bool->List AAB->Int->Int->Bool->List Int->ABJ->List AAB->Int->Int->Bool->List Int->ABJ->List AAB->Option Gu
def S8(R3:ZC)(t4 AL AF:Int)(Aa:AAB)(Ck:ABJ)(DO:Bool)(Ab:List AAB)(BT Au:Int)(ND:Bool)(b2:AAB)(b3:ABJ)(b4:List AAB)(AGm AFV:Int)(AGh:Bool)(b6:AAB)(b7:ABJ)(b8:List AAB):Option Gu:=
 cond ((decide (t4<(Ab.length:Int))))
  (if(0:Int)<=t4/\t4<(Ab.length:Int)then(
  if 0+(Ab.getD (t4.toNat) []).length<=C_ then(
  if b8.length+1<=C_ then(
  R3 (AW (t4+1)) AL AF Aa Ck DO Ab BT Au ND b2 b3 b4 AGm AFV AGh b6 b7 (b8++[(Ab.getD (t4.toNat) [])]))else none)else none)else none)
 (some (((AGm,AFV,(),(),AGh,(),()),()),(b6,b7,b8,())))
def IH:Nat->ZC
 |0=>fun _ _ _ _ _ _ _ _ _ _ _ _ _ _ _ _ _ _ _=>none
 |n+1=>S8 (IH n)
def OY(R3:ZC)(p0:ABY):Option Gu:=
 if 0+p0.2.2.1.length<=C_ then(
 if 0+p0.2.2.2.1.length<=C_ then(
 R3 0 p0.1 p0.2.1 p0.2.2.1 p0.2.2.2.1 p0.2.2.2.2.1 p0.2.2.2.2.2.1 0 0 false [] [] [] p0.1 p0.2.1 p0.2.2.2.2.1 p0.2.2.1 p0.2.2.2.1 [])else none)else none
def Ef(p0:ABY):Option Gu:=OY (IH AZ) p0
abbrev KB:Type:=AGn×AGt
def CX(p0:AEA):Option KB:=
 if 0+p0.2.2.1.length<=C_ then(
 some (((p0.1,p0.2.1,(),()),()),(p0.2.2.1,())))else none
abbrev Fv:Type:=AG7×AEE
abbrev Kp:Type:=Int->List Int->Int->AAQ->List Int->AAH->Int->AAj->AA6->ABA->AAT->Bool->Int->Int->Bool->List Int->AAQ->List Int->AAH->AAj->AA6->ABA->AAT->Int->Int->Bool->List Int->AAQ->List Int->AAH->AAj->AA6->ABA->AAT->Option Fv
abbrev Ks:Type:=Int->List Int->Int->AAQ->List Int->AAH->Int->AAj->AA6->ABA->AAT->Bool->Int->Int->Bool->List Int->AAQ->List Int->AAH->AAj->AA6->ABA->AAT->Int->Int->Bool->List Int->AAQ->List Int->AAH->AAj->AA6->ABA->AAT->Option Fv
abbrev Jf:Type:=Int->List Int->Int->AAQ->List Int->AAH->Int->AAj->AA6->ABA->AAT->Bool->Int->Int->Bool->List Int->AAQ->List Int->AAH->AAj->AA6->ABA->AAT->Int->Int->Bool->List Int->AAQ->List Int->AAH->AAj->AA6->ABA->AAT->Option Fv
abbrev Jo:Type:=Int->List Int->Int->AAQ->List Int->AAH->Int->AAj->AA6->ABA->AAT->Bool->Int->Int->Bool->List Int->AAQ->List Int->AAH->AAj->AA6->ABA->AAT->Int->Int->Bool->List Int->AAQ->List Int->AAH->AAj->AA6->ABA->AAT->Option Fv
def Rh(R3:Kp)(R7:Ks)(uW:Jf)(ju:Jo)(t4:Int)(AL:AAB)(AF:Int)(Aa:AAQ)(Ck:AAB)(DO:AAH)(Ab:Int)(DI:AAj)(DC:AA6)(D_:ABA)(EG:AAT)(AM:Bool)(Au DZ:Int)(Dl:Bool)(b2:AAB)(b3:AAQ)(b4:AAB)(b5:AAH)(b6:AAj)(b7:AA6)(b8:ABA)(b9:AAT)(Cr DK:Int)(CE:Bool)(Ez:AAB)(DY:AAQ)(Gm:AAB)(Gl:AAH)(ES:AAj)(Ey:AA6)(Fq:ABA)(T6:AAT):Option Fv:=
 cond ((decide (t4<(Aa.length:Int))))
  (if(0:Int)<=t4/\t4<(Aa.length:Int)then(
  (FH ((Aa.getD (t4.toNat) ([],[],0,())).1,(Aa.getD (t4.toNat) ([],[],0,())).2.1,(Aa.getD (t4.toNat) ([],[],0,())).2.2.1,())).bind fun zt=>
  if DY.length+1<=C_ then(
  R3 (AW (t4+1)) AL AF Aa Ck DO Ab DI DC D_ EG AM Au DZ Dl b2 b3 b4 b5 b6 b7 b8 b9 Cr DK CE Ez (DY++[(zt.2.1,zt.2.2.1,zt.1.1.2.2.1,())]) Gm Gl ES Ey Fq T6)else none)else none)
 (R7 0 AL AF Aa Ck DO Ab DI DC D_ EG AM Au DZ Dl b2 b3 b4 b5 b6 b7 b8 b9 Cr DK CE Ez DY Gm Gl ES Ey Fq T6)
def Rf(R3:Kp)(R7:Ks)(uW:Jf)(ju:Jo)(t5:Int)(AL:AAB)(AF:Int)(Aa:AAQ)(Ck:AAB)(DO:AAH)(Ab:Int)(DI:AAj)(DC:AA6)(D_:ABA)(EG:AAT)(AM:Bool)(Au DZ:Int)(Dl:Bool)(b2:AAB)(b3:AAQ)(b4:AAB)(b5:AAH)(b6:AAj)(b7:AA6)(b8:ABA)(b9:AAT)(Cr DK:Int)(CE:Bool)(Ez:AAB)(DY:AAQ)(Gm:AAB)(Gl:AAH)(ES:AAj)(Ey:AA6)(Fq:ABA)(T6:AAT):Option Fv:=
 cond ((decide (t5<(DI.length:Int))))
  (if(0:Int)<=t5/\t5<(DI.length:Int)then(
  (Eg ((DI.getD (t5.toNat) (0,[],())).1,(DI.getD (t5.toNat) (0,[],())).2.1,())).bind fun AHE=>
  if ES.length+1<=C_ then(
  R7 (AW (t5+1)) AL AF Aa Ck DO Ab DI DC D_ EG AM Au DZ Dl b2 b3 b4 b5 b6 b7 b8 b9 Cr DK CE Ez DY Gm Gl (ES++[(AHE.1.1.1,AHE.2.1,())]) Ey Fq T6)else none)else none)
 (uW 0 AL AF Aa Ck DO Ab DI DC D_ EG AM Au DZ Dl b2 b3 b4 b5 b6 b7 b8 b9 Cr DK CE Ez DY Gm Gl ES Ey Fq T6)
def Qg(R3:Kp)(R7:Ks)(uW:Jf)(ju:Jo)(t6:Int)(AL:AAB)(AF:Int)(Aa:AAQ)(Ck:AAB)(DO:AAH)(Ab:Int)(DI:AAj)(DC:AA6)(D_:ABA)(EG:AAT)(AM:Bool)(Au DZ:Int)(Dl:Bool)(b2:AAB)(b3:AAQ)(b4:AAB)(b5:AAH)(b6:AAj)(b7:AA6)(b8:ABA)(b9:AAT)(Cr DK:Int)(CE:Bool)(Ez:AAB)(DY:AAQ)(Gm:AAB)(Gl:AAH)(ES:AAj)(Ey:AA6)(Fq:ABA)(T6:AAT):Option Fv:=
 cond ((decide (t6<(DC.length:Int))))
  (if(0:Int)<=t6/\t6<(DC.length:Int)then(
  (Ef ((DC.getD (t6.toNat) (0,0,[],[],false,[],())).1,(DC.getD (t6.toNat) (0,0,[],[],false,[],())).2.1,(DC.getD (t6.toNat) (0,0,[],[],false,[],())).2.2.1,(DC.getD (t6.toNat) (0,0,[],[],false,[],())).2.2.2.1,(DC.getD (t6.toNat) (0,0,[],[],false,[],())).2.2.2.2.1,(DC.getD (t6.toNat) (0,0,[],[],false,[],())).2.2.2.2.2.1,())).bind fun nW=>
  if Ey.length+1<=C_ then(
  uW (AW (t6+1)) AL AF Aa Ck DO Ab DI DC D_ EG AM Au DZ Dl b2 b3 b4 b5 b6 b7 b8 b9 Cr DK CE Ez DY Gm Gl ES (Ey++[(nW.1.1.1,nW.1.1.2.1,nW.2.1,nW.2.2.1,nW.1.1.2.2.2.2.1,nW.2.2.2.1,())]) Fq T6)else none)else none)
 (ju 0 AL AF Aa Ck DO Ab DI DC D_ EG AM Au DZ Dl b2 b3 b4 b5 b6 b7 b8 b9 Cr DK CE Ez DY Gm Gl ES Ey Fq T6)
def Qe(R3:Kp)(R7:Ks)(uW:Jf)(ju:Jo)(t7:Int)(AL:AAB)(AF:Int)(Aa:AAQ)(Ck:AAB)(DO:AAH)(Ab:Int)(DI:AAj)(DC:AA6)(D_:ABA)(EG:AAT)(AM:Bool)(Au DZ:Int)(Dl:Bool)(b2:AAB)(b3:AAQ)(b4:AAB)(b5:AAH)(b6:AAj)(b7:AA6)(b8:ABA)(b9:AAT)(Cr DK:Int)(CE:Bool)(Ez:AAB)(DY:AAQ)(Gm:AAB)(Gl:AAH)(ES:AAj)(Ey:AA6)(Fq:ABA)(T6:AAT):Option Fv:=
 cond ((decide (t7<(D_.length:Int))))
  (if(0:Int)<=t7/\t7<(D_.length:Int)then(
  (CX ((D_.getD (t7.toNat) (0,0,[],())).1,(D_.getD (t7.toNat) (0,0,[],())).2.1,(D_.getD (t7.toNat) (0,0,[],())).2.2.1,())).bind fun zg=>
  if Fq.length+1<=C_ then(
  ju (AW (t7+1)) AL AF Aa Ck DO Ab DI DC D_ EG AM Au DZ Dl b2 b3 b4 b5 b6 b7 b8 b9 Cr DK CE Ez DY Gm Gl ES Ey (Fq++[(zg.1.1.1,zg.1.1.2.1,zg.2.1,())]) T6)else none)else none)
 (some ((((),Cr,(),(),(),DK,(),(),(),(),CE,()),()),(Ez,DY,Gm,Gl,ES,Ey,Fq,T6,())))
mutual
def Ch:Nat->Kp
 |0=>fun _ _ _ _ _ _ _ _ _ _ _ _ _ _ _ _ _ _ _ _ _ _ _ _ _ _ _ _ _ _ _ _ _ _=>none
 |n+1=>Rh (Ch n) (C3 n) (Cd n) (Ce n)
def C3:Nat->Ks
 |0=>fun _ _ _ _ _ _ _ _ _ _ _ _ _ _ _ _ _ _ _ _ _ _ _ _ _ _ _ _ _ _ _ _ _ _=>none
 |n+1=>Rf (Ch n) (C3 n) (Cd n) (Ce n)
def Cd:Nat->Jf
 |0=>fun _ _ _ _ _ _ _ _ _ _ _ _ _ _ _ _ _ _ _ _ _ _ _ _ _ _ _ _ _ _ _ _ _ _=>none
 |n+1=>Qg (Ch n) (C3 n) (Cd n) (Ce n)
def Ce:Nat->Jo
 |0=>fun _ _ _ _ _ _ _ _ _ _ _ _ _ _ _ _ _ _ _ _ _ _ _ _ _ _ _ _ _ _ _ _ _ _=>none
 |n+1=>Qe (Ch n) (C3 n) (Cd n) (Ce n)
end
def Re(R3:Kp)(R7:Ks)(uW:Jf)(ju:Jo)(p0:ABl):Option Fv:=
 if 0+p0.1.length<=C_ then(
 if 0+p0.2.2.2.1.length<=C_ then(
 (GU (p0.2.2.2.2.1,p0.2.2.2.2.2.1,())).bind fun u2=>
 if 0+p0.2.2.2.2.2.2.2.2.2.1.length<=C_ then(
 R3 0 p0.1 p0.2.1 p0.2.2.1 p0.2.2.2.1 p0.2.2.2.2.1 p0.2.2.2.2.2.1 p0.2.2.2.2.2.2.1 p0.2.2.2.2.2.2.2.1 p0.2.2.2.2.2.2.2.2.1 p0.2.2.2.2.2.2.2.2.2.1 p0.2.2.2.2.2.2.2.2.2.2.1 0 0 false [] [] [] [] [] [] [] [] p0.2.1 u2.1.1.2.1 p0.2.2.2.2.2.2.2.2.2.2.1 p0.1 [] p0.2.2.2.1 u2.2.1 [] [] [] p0.2.2.2.2.2.2.2.2.2.1)else none)else none)else none
def Fa(p0:ABl):Option Fv:=Re (Ch AZ) (C3 AZ) (Cd AZ) (Ce AZ) p0
abbrev P3:Type:=ADI×ADM
abbrev TE:Type:=Int->Int->List Int->Option P3
def PM(R3:TE)(t0 t4:Int)(b0:AAB):Option P3:=
 cond (decide (t4<8))
  ((CU t0 0 255).bind fun u1=>
  cond (u1.1.1)
   (if t4<0 then none else(
   cond (((eP .i64 (t0.fdiv (2^(min t4.toNat 64))) 1)==1))
    (if b0.length+1<=C_ then(
    R3 t0 (AW (t4+1)) (b0++[t4]))else none)
   (R3 t0 (AW (t4+1)) b0)))
  (some (((),()),(b0,()))))
 (some (((),()),(b0,())))
def Ic:Nat->TE
 |0=>fun _ _ _=>none
 |n+1=>PM (Ic n)
def Vx(R3:TE)(p0:Int):Option P3:=
 R3 p0 0 []
def PZ(p0:Int):Option P3:=Vx (Ic AZ) p0
abbrev sb:Type:=(AKm×Unit)×AE2
def My(p0:ABS)(p1:ACc)(p2:AAB):Option sb:=
 (NS (p0.1,p0.2.1,()) (p1.1,p1.2.1,())).bind fun u1=>
 cond (!u1.1.1)
  (some (((((),0,()),0,false,()),()),([],())))
 ((GU (p1.1,p1.2.1,())).bind fun u2=>
 (FD (p0.1,p0.2.1,()) p2).bind fun u3=>
 cond (!u3.1.1)
  (some (((((),u2.1.1.2.1,()),0,false,()),()),(u2.2.1,())))
 (cond (((p1.1.length:Int)==30))
  (some (((((),u2.1.1.2.1,()),0,false,()),()),(u2.2.1,())))
 (if 0+p2.length<=C_ then(
 if u2.2.1.length+1<=C_ then(
 let x5:AAH:=u2.2.1++[(p2,false,0,())]
 some (((((),u2.1.1.2.1,()),(x5.length:Int),true,()),()),(x5,())))else none)else none)))
abbrev fL:Type:=AED×(List Int×AAQ×List Int×Unit×Unit×Unit×ABA×AAT×AAH×AAj×AA6×Unit)
def Xh(Bz B6:Int)(BG:Bool)(p1:ADe)(b0:AAB)(b1:AAQ)(b2:AAB)(b3:AAH)(b4:AAj)(b5:AA6)(b6:ABA)(b7:AAT):Option fL:=
 cond (((b4.length:Int)==4))
  (some (((((),Bz,(),(),(),B6,(),(),(),(),BG,()),4,()),()),(b0,b1,b2,(),(),(),b6,b7,b3,b4,b5,())))
 ((PZ p1.2.1).bind fun u2=>
 (My (b0,Bz,()) (b3,B6,()) u2.2.1).bind fun u3=>
 cond (!u3.1.1.2.2.1)
  (some (((((),Bz,(),(),(),B6,(),(),(),(),BG,()),4,()),()),(b0,b1,b2,(),(),(),b6,b7,b3,b4,b5,())))
 (if b4.length+1<=C_ then(
 some (((((),Bz,(),(),(),u3.1.1.1.2.1,(),(),(),(),BG,()),0,()),()),(b0,b1,b2,(),(),(),b6,b7,u3.2.1,(b4++[(u3.1.1.2.1,[],())]),[],())))else none))
abbrev l8:Type:=ABi×Unit
def Mu(p0:ABl)(p1:Int):Option l8:=
 (CU p1 0 (AW ((p0.2.2.2.2.2.2.1.length:Int)-1))).bind fun u2=>
 some ((u2.1.1,()),())
abbrev nR:Type:=(AKo×Unit)×AE5
def G3(p0:ABS)(p1:ACi)(p2:ACH):Option nR:=
 (H6 (p0.1,p0.2.1,()) (p1.1,p1.2.1,())).bind fun u1=>
 cond (!u1.1.1)
  (some ((((0,(),()),0,false,()),()),([],())))
 ((Eg (p1.1,p1.2.1,())).bind fun u2=>
 if u2.2.1.length+1<=C_ then(
 let x3:ACG:=u2.2.1++[(p2,[],false,())]
 (H6 (p0.1,p0.2.1,()) (u2.1.1.1,x3,())).bind fun u4=>
 cond (!u4.1.1)
  ((Eg (p1.1,p1.2.1,())).bind fun u5=>
  some ((((u5.1.1.1,(),()),0,false,()),()),(u5.2.1,())))
 (some ((((u2.1.1.1,(),()),(x3.length:Int),true,()),()),(x3,()))))else none)
abbrev IV:Type:=ABq×Unit
def Ci(p0 p1:Int):Option IV:=
 some ((AW ((AW (4294967296*p0))+p1),()),())
abbrev Lj:Type:=AED×(List Int×AAQ×List Int×AAH×AAj×AA6×ABA×Unit×AAT×Unit)
abbrev Sq:Type:=Int->List Int->AAQ->List Int->AAH->AAj->AA6->ABA->AAT->Int->Int->Bool->Int->Int->Bool->List Int->AAQ->List Int->AAH->AAj->AA6->ABA->AAT->Int->List UInt8->Bool->Option Lj
abbrev RE:Type:=Bool->Int->List Int->AAQ->List Int->AAH->AAj->AA6->ABA->AAT->Int->Int->Bool->Int->Int->Bool->List Int->AAQ->List Int->AAH->AAj->AA6->ABA->AAT->Int->List UInt8->Bool->AAT->Option Lj
def Zj(R9:Sq)(R16:RE)(t10:Int)(b0:AAB)(b1:AAQ)(b2:AAB)(b3:AAH)(b4:AAj)(b5:AA6)(b6:ABA)(b7:AAT)(Db Ds:Int)(CR:Bool)(Eb Gd:Int)(DR:Bool)(NY:AAB)(Ez:AAQ)(DY:AAB)(Gm:AAH)(Gl:AAj)(ES:AA6)(Ey:ABA)(Fq:AAT)(Cm:Int)(DF:ACH)(Cv:Bool):Option Lj:=
 cond ((decide (t10<(b7.length:Int))))
  (if(0:Int)<=t10/\t10<(b7.length:Int)then(
  cond (((b7.getD (t10.toNat) (0,[],false,())).1)==Cm)
   (some (((((),Db,(),(),(),Ds,(),(),(),(),CR,()),4,()),()),(b0,b1,b2,b3,b4,b5,b6,(),b7,())))
  (R9 (AW (t10+1)) b0 b1 b2 b3 b4 b5 b6 b7 Db Ds CR Eb Gd DR NY Ez DY Gm Gl ES Ey Fq Cm DF Cv))else none)
 (R16 false 0 b0 b1 b2 b3 b4 b5 b6 b7 Db Ds CR Eb Gd DR NY Ez DY Gm Gl ES Ey Fq Cm DF Cv [])
def Yv(R9:Sq)(R16:RE)(t12:Bool)(t13:Int)(b0:AAB)(b1:AAQ)(b2:AAB)(b3:AAH)(b4:AAj)(b5:AA6)(b6:ABA)(b7:AAT)(Db Ds:Int)(CR:Bool)(Eb Gd:Int)(DR:Bool)(NY:AAB)(Ez:AAQ)(DY:AAB)(Gm:AAH)(Gl:AAj)(ES:AA6)(Ey:ABA)(Fq:AAT)(Cm:Int)(DF:ACH)(Cv:Bool)(oQ:AAT):Option Lj:=
 cond ((decide (t13<(b7.length:Int))))
  (cond (!t12)
   (if(0:Int)<=t13/\t13<(b7.length:Int)then(
   cond (decide (((b7.getD (t13.toNat) (0,[],false,())).1)>Cm))
    (if oQ.length+1<=C_ then(
    let x18:AAT:=oQ++[(Cm,DF,Cv,())]
    if(0:Int)<=t13/\t13<(b7.length:Int)then(
    if x18.length+1<=C_ then(
    R16 true (AW (t13+1)) b0 b1 b2 b3 b4 b5 b6 b7 Db Ds CR Eb Gd DR NY Ez DY Gm Gl ES Ey Fq Cm DF Cv (x18++[((b7.getD (t13.toNat) (0,[],false,())).1,(b7.getD (t13.toNat) (0,[],false,())).2.1,(b7.getD (t13.toNat) (0,[],false,())).2.2.1,())]))else none)else none)else none)
   (if(0:Int)<=t13/\t13<(b7.length:Int)then(
   if oQ.length+1<=C_ then(
   R16 t12 (AW (t13+1)) b0 b1 b2 b3 b4 b5 b6 b7 Db Ds CR Eb Gd DR NY Ez DY Gm Gl ES Ey Fq Cm DF Cv (oQ++[((b7.getD (t13.toNat) (0,[],false,())).1,(b7.getD (t13.toNat) (0,[],false,())).2.1,(b7.getD (t13.toNat) (0,[],false,())).2.2.1,())]))else none)else none))else none)
  (if(0:Int)<=t13/\t13<(b7.length:Int)then(
  if oQ.length+1<=C_ then(
  R16 t12 (AW (t13+1)) b0 b1 b2 b3 b4 b5 b6 b7 Db Ds CR Eb Gd DR NY Ez DY Gm Gl ES Ey Fq Cm DF Cv (oQ++[((b7.getD (t13.toNat) (0,[],false,())).1,(b7.getD (t13.toNat) (0,[],false,())).2.1,(b7.getD (t13.toNat) (0,[],false,())).2.2.1,())]))else none)else none))
 (cond (!t12)
  (if oQ.length+1<=C_ then(
  some (((((),Db,(),(),(),Ds,(),(),(),(),CR,()),0,()),()),(b0,b1,b2,b3,b4,b5,b6,(),(oQ++[(Cm,DF,Cv,())]),())))else none)
 (some (((((),Db,(),(),(),Ds,(),(),(),(),CR,()),0,()),()),(b0,b1,b2,b3,b4,b5,b6,(),oQ,()))))
mutual
def MI:Nat->Sq
 |0=>fun _ _ _ _ _ _ _ _ _ _ _ _ _ _ _ _ _ _ _ _ _ _ _ _ _ _=>none
 |n+1=>Zj (MI n) (Kn n)
def Kn:Nat->RE
 |0=>fun _ _ _ _ _ _ _ _ _ _ _ _ _ _ _ _ _ _ _ _ _ _ _ _ _ _ _ _=>none
 |n+1=>Yv (MI n) (Kn n)
end
def ZR(R9:Sq)(R16:RE)(Bz B6:Int)(BG:Bool)(p1:ADe)(b0:AAB)(b1:AAQ)(b2:AAB)(b3:AAH)(b4:AAj)(b5:AA6)(b6:ABA)(b7:AAT):Option Lj:=
 (Mu (b0,Bz,b1,b2,b3,B6,b4,b5,b6,b7,BG,()) p1.2.1).bind fun u1=>
 cond (!u1.1.1)
  (some (((((),Bz,(),(),(),B6,(),(),(),(),BG,()),2,()),()),(b0,b1,b2,b3,b4,b5,b6,(),b7,())))
 (if(0:Int)<=p1.2.1/\p1.2.1<(b4.length:Int)then(
 (G3 (b0,Bz,()) ((b4.getD (p1.2.1.toNat) (0,[],())).1,(b4.getD (p1.2.1.toNat) (0,[],())).2.1,()) p1.2.2.2.2.1).bind fun u2=>
 cond (!u2.1.1.2.2.1)
  (some (((((),Bz,(),(),(),B6,(),(),(),(),BG,()),4,()),()),(b0,b1,b2,b3,b4,b5,b6,(),b7,())))
 (cond (((b7.length:Int)==120))
  (some (((((),Bz,(),(),(),B6,(),(),(),(),BG,()),4,()),()),(b0,b1,b2,b3,b4,b5,b6,(),b7,())))
 (if(0:Int)<=p1.2.1/\p1.2.1<(b4.length:Int)then(
 (Ci u2.1.1.1.1 u2.1.1.2.1).bind fun u5=>
 R9 0 b0 b1 b2 b3 (b4.set (p1.2.1.toNat) (u2.1.1.1.1,u2.2.1,())) b5 b6 b7 Bz B6 BG 0 0 false [] [] [] [] [] [] [] [] u5.1.1 p1.2.2.2.2.1 false)else none)))else none)
def ZV(Bz B6:Int)(BG:Bool)(p1:ADe)(b0:AAB)(b1:AAQ)(b2:AAB)(b3:AAH)(b4:AAj)(b5:AA6)(b6:ABA)(b7:AAT):Option Lj:=ZR (MI AZ) (Kn AZ) Bz B6 BG p1 b0 b1 b2 b3 b4 b5 b6 b7
abbrev qu:Type:=ABq×Unit
def H7(p0:ABl)(p1:Int):Option qu:=
 (CU p1 0 (AW ((p0.2.2.1.length:Int)-1))).bind fun u2=>
 cond (!u2.1.1)
  (some ((2,()),()))
 ((DA p0.2.2.2.1 p1).bind fun u3=>
 cond (u3.1.1)
  (some ((3,()),()))
 (some ((0,()),())))
abbrev rS:Type:=ABi×Unit
def XU(p0:ACd)(p1:AD_):Option rS:=
 cond (p1.2.1==0)
  ((C1 p1.1).bind fun u1=>
  some (((decide (u1.1.1>p0.2.2.1)),()),()))
 (some (((decide (p1.2.1>p0.2.2.1)),()),()))
abbrev pL:Type:=AEV×AEK
def N5(p0:ACd)(p1:AD_):Option pL:=
 (Gy (p0.1,p0.2.1,p0.2.2.1,())).bind fun u1=>
 cond (!u1.1.1)
  (some (((((),(),0,()),false,()),()),([],[],())))
 ((FH (p0.1,p0.2.1,p0.2.2.1,())).bind fun u2=>
 (Mz (p1.1,p1.2.1,p1.2.2.1,p1.2.2.2.1,())).bind fun u3=>
 cond (!u3.1.1)
  (some (((((),(),u2.1.1.2.2.1,()),false,()),()),(u2.2.1,u2.2.2.1,())))
 ((XU (p0.1,p0.2.1,p0.2.2.1,()) (p1.1,p1.2.1,p1.2.2.1,p1.2.2.2.1,())).bind fun u4=>
 cond (!u4.1.1)
  (some (((((),(),u2.1.1.2.2.1,()),false,()),()),(u2.2.1,u2.2.2.1,())))
 (cond ((p0.2.1.length:Int)==20)
  (some (((((),(),u2.1.1.2.2.1,()),false,()),()),(u2.2.1,u2.2.2.1,())))
 (if u2.2.2.1.length+1<=C_ then(
 some (((((),(),u2.1.1.2.2.1,()),true,()),()),(u2.2.1,(u2.2.2.1++[(p1.1,p1.2.1,p1.2.2.1,p1.2.2.2.1,())]),())))else none))))
abbrev eH:Type:=AED×AEE
def U9(Bz B6:Int)(BG:Bool)(p1:ADe)(b0:AAB)(b1:AAQ)(b2:AAB)(b3:AAH)(b4:AAj)(b5:AA6)(b6:ABA)(b7:AAT):Option eH:=
 (Mu (b0,Bz,b1,b2,b3,B6,b4,b5,b6,b7,BG,()) p1.2.1).bind fun u1=>
 cond (!u1.1.1)
  (some (((((),Bz,(),(),(),B6,(),(),(),(),BG,()),2,()),()),(b0,b1,b2,b3,b4,b5,b6,b7,())))
 (if(0:Int)<=p1.2.1/\p1.2.1<(b4.length:Int)then(
 (CU p1.2.2.1 1 (((b4.getD (p1.2.1.toNat) (0,[],())).2.1).length:Int)).bind fun u3=>
 cond (!u3.1.1)
  (some (((((),Bz,(),(),(),B6,(),(),(),(),BG,()),2,()),()),(b0,b1,b2,b3,b4,b5,b6,b7,())))
 ((H7 (b0,Bz,b1,b2,b3,B6,b4,b5,b6,b7,BG,()) p1.2.2.2.1).bind fun u4=>
 cond (u4.1.1 !=0)
  (some (((((),Bz,(),(),(),B6,(),(),(),(),BG,()),u4.1.1,()),()),(b0,b1,b2,b3,b4,b5,b6,b7,())))
 ((CS (b3,B6,()) ((b4.getD (p1.2.1.toNat) (0,[],())).1)).bind fun u6=>
 (DA u6.2.1 p1.2.2.2.1).bind fun u7=>
 cond (!u7.1.1)
  (some (((((),Bz,(),(),(),B6,(),(),(),(),BG,()),2,()),()),(b0,b1,b2,b3,b4,b5,b6,b7,())))
 (if(0:Int)<=p1.2.2.2.1/\p1.2.2.2.1<(b1.length:Int)then(
 if(0:Int)<=AW (p1.2.2.1-1)/\AW (p1.2.2.1-1)<(((b4.getD (p1.2.1.toNat) (0,[],())).2.1).length:Int)then(
 (Ci ((b4.getD (p1.2.1.toNat) (0,[],())).1) p1.2.2.1).bind fun EI=>
 (N5 ((b1.getD (p1.2.2.2.1.toNat) ([],[],0,())).1,(b1.getD (p1.2.2.2.1.toNat) ([],[],0,())).2.1,(b1.getD (p1.2.2.2.1.toNat) ([],[],0,())).2.2.1,()) (EI.1.1,0,false,((((b4.getD (p1.2.1.toNat) (0,[],())).2.1).getD ((AW (p1.2.2.1-1)).toNat) ([],[],false,())).1),())).bind fun Mv=>
 cond (!Mv.1.1.2.1)
  (some (((((),Bz,(),(),(),B6,(),(),(),(),BG,()),4,()),()),(b0,b1,b2,b3,b4,b5,b6,b7,())))
 (if(0:Int)<=p1.2.2.2.1/\p1.2.2.2.1<(b1.length:Int)then(
 some (((((),Bz,(),(),(),B6,(),(),(),(),BG,()),0,()),()),(b0,(b1.set (p1.2.2.2.1.toNat) (Mv.2.1,Mv.2.2.1,Mv.1.1.1.2.2.1,())),b2,b3,b4,b5,b6,b7,())))else none))else none)else none))))else none)
abbrev tg:Type:=AHn×Unit
def Sc(p0 p1:AD_):Option tg:=
 cond ((decide (p1.2.1>p0.2.1)))
  (some (((p1.1,p1.2.1,p1.2.2.1,p1.2.2.2.1,()),()),()))
 (some (((p0.1,p0.2.1,p0.2.2.1,p0.2.2.2.1,()),()),()))
abbrev VV:Type:=ADI×AGF
abbrev Yf:Type:=ABJ->Bool->Int->Int->Int->Bool->List UInt8->ABJ->Option VV
def Tk(R4:Yf)(t0:ABJ)(t6:Bool)(t7 AL AF:Int)(Aa:Bool)(Ck:ACH)(b1:ABJ):Option VV:=
 cond ((decide (t7<(t0.length:Int))))
  (cond (!t6)
   (if(0:Int)<=t7/\t7<(t0.length:Int)then(
   cond (((t0.getD (t7.toNat) (0,0,false,[],())).1)==AL)
    (if(0:Int)<=t7/\t7<(t0.length:Int)then(
    (Sc ((t0.getD (t7.toNat) (0,0,false,[],())).1,(t0.getD (t7.toNat) (0,0,false,[],())).2.1,(t0.getD (t7.toNat) (0,0,false,[],())).2.2.1,(t0.getD (t7.toNat) (0,0,false,[],())).2.2.2.1,()) (AL,AF,Aa,Ck,())).bind fun u3=>
    if b1.length+1<=C_ then(
    R4 t0 true (AW (t7+1)) AL AF Aa Ck (b1++[(u3.1.1.1,u3.1.1.2.1,u3.1.1.2.2.1,u3.1.1.2.2.2.1,())]))else none)else none)
   (cond (!t6)
    (if(0:Int)<=t7/\t7<(t0.length:Int)then(
    cond (decide (((t0.getD (t7.toNat) (0,0,false,[],())).1)>AL))
     (if b1.length+1<=C_ then(
     let x6:ABJ:=b1++[(AL,AF,Aa,Ck,())]
     if(0:Int)<=t7/\t7<(t0.length:Int)then(
     if x6.length+1<=C_ then(
     R4 t0 true (AW (t7+1)) AL AF Aa Ck (x6++[((t0.getD (t7.toNat) (0,0,false,[],())).1,(t0.getD (t7.toNat) (0,0,false,[],())).2.1,(t0.getD (t7.toNat) (0,0,false,[],())).2.2.1,(t0.getD (t7.toNat) (0,0,false,[],())).2.2.2.1,())]))else none)else none)else none)
    (if(0:Int)<=t7/\t7<(t0.length:Int)then(
    if b1.length+1<=C_ then(
    R4 t0 t6 (AW (t7+1)) AL AF Aa Ck (b1++[((t0.getD (t7.toNat) (0,0,false,[],())).1,(t0.getD (t7.toNat) (0,0,false,[],())).2.1,(t0.getD (t7.toNat) (0,0,false,[],())).2.2.1,(t0.getD (t7.toNat) (0,0,false,[],())).2.2.2.1,())]))else none)else none))else none)
   (if(0:Int)<=t7/\t7<(t0.length:Int)then(
   if b1.length+1<=C_ then(
   R4 t0 t6 (AW (t7+1)) AL AF Aa Ck (b1++[((t0.getD (t7.toNat) (0,0,false,[],())).1,(t0.getD (t7.toNat) (0,0,false,[],())).2.1,(t0.getD (t7.toNat) (0,0,false,[],())).2.2.1,(t0.getD (t7.toNat) (0,0,false,[],())).2.2.2.1,())]))else none)else none)))else none)
  (cond (!t6)
   (if(0:Int)<=t7/\t7<(t0.length:Int)then(
   cond (decide (((t0.getD (t7.toNat) (0,0,false,[],())).1)>AL))
    (if b1.length+1<=C_ then(
    let bG:ABJ:=b1++[(AL,AF,Aa,Ck,())]
    if(0:Int)<=t7/\t7<(t0.length:Int)then(
    if bG.length+1<=C_ then(
    R4 t0 true (AW (t7+1)) AL AF Aa Ck (bG++[((t0.getD (t7.toNat) (0,0,false,[],())).1,(t0.getD (t7.toNat) (0,0,false,[],())).2.1,(t0.getD (t7.toNat) (0,0,false,[],())).2.2.1,(t0.getD (t7.toNat) (0,0,false,[],())).2.2.2.1,())]))else none)else none)else none)
   (if(0:Int)<=t7/\t7<(t0.length:Int)then(
   if b1.length+1<=C_ then(
   R4 t0 t6 (AW (t7+1)) AL AF Aa Ck (b1++[((t0.getD (t7.toNat) (0,0,false,[],())).1,(t0.getD (t7.toNat) (0,0,false,[],())).2.1,(t0.getD (t7.toNat) (0,0,false,[],())).2.2.1,(t0.getD (t7.toNat) (0,0,false,[],())).2.2.2.1,())]))else none)else none))else none)
  (if(0:Int)<=t7/\t7<(t0.length:Int)then(
  if b1.length+1<=C_ then(
  R4 t0 t6 (AW (t7+1)) AL AF Aa Ck (b1++[((t0.getD (t7.toNat) (0,0,false,[],())).1,(t0.getD (t7.toNat) (0,0,false,[],())).2.1,(t0.getD (t7.toNat) (0,0,false,[],())).2.2.1,(t0.getD (t7.toNat) (0,0,false,[],())).2.2.2.1,())]))else none)else none)))
 (cond (!t6)
  (if b1.length+1<=C_ then(
  some (((),()),((b1++[(AL,AF,Aa,Ck,())]),())))else none)
 (some (((),()),(b1,()))))
def J6:Nat->Yf
 |0=>fun _ _ _ _ _ _ _ _=>none
 |n+1=>Tk (J6 n)
def ZX(R4:Yf)(p0:ABJ)(p1:AD_):Option VV:=
 R4 p0 false 0 p1.1 p1.2.1 p1.2.2.1 p1.2.2.2.1 []
def Rz(p0:ABJ)(p1:AD_):Option VV:=ZX (J6 AZ) p0 p1
abbrev Ov:Type:=AEV×AEK
abbrev Ro:Type:=Int->Int->ABJ->ABJ->Int->Int->ABJ->ABJ->Int->ABJ->ABJ->Option Ov
def UH(R5:Ro)(t1 t7:Int)(AL AF:ABJ)(Aa Da:Int)(b2 b3:ABJ)(M_:Int)(b5 b6:ABJ):Option Ov:=
 cond ((decide (t7<(AF.length:Int))))
  (if t7<0 then none else(
  cond (((eP .i64 (t1.fdiv (2^(min t7.toNat 64))) 1)==1))
   (if(0:Int)<=t7/\t7<(AF.length:Int)then(
   (Rz b5 ((AF.getD (t7.toNat) (0,0,false,[],())).1,(AF.getD (t7.toNat) (0,0,false,[],())).2.1,(AF.getD (t7.toNat) (0,0,false,[],())).2.2.1,(AF.getD (t7.toNat) (0,0,false,[],())).2.2.2.1,())).bind fun u5=>
   R5 t1 (AW (t7+1)) AL AF Aa Da b2 b3 M_ u5.2.1 b6)else none)
  (R5 t1 (AW (t7+1)) AL AF Aa Da b2 b3 M_ b5 b6)))
 ((CU t1 0 1048575).bind fun u6=>
 cond (!u6.1.1)
  ((FH (AL,AF,Aa,())).bind fun u7=>
  some (((((),(),u7.1.1.2.2.1,()),false,()),()),(u7.2.1,u7.2.2.1,())))
 (cond ((decide ((b5.length:Int)>200)))
  ((FH (AL,AF,Aa,())).bind fun u9=>
  some (((((),(),u9.1.1.2.2.1,()),false,()),()),(u9.2.1,u9.2.2.1,())))
 (some (((((),(),M_,()),true,()),()),(b5,b6,())))))
def Jv:Nat->Ro
 |0=>fun _ _ _ _ _ _ _ _ _ _ _=>none
 |n+1=>UH (Jv n)
def UR(R5:Ro)(p0:ACd)(p1:Int):Option Ov:=
 (Gy (p0.1,p0.2.1,p0.2.2.1,())).bind fun u1=>
 cond (!u1.1.1)
  (some (((((),(),0,()),false,()),()),([],[],())))
 (if 0+p0.1.length<=C_ then(
 R5 p1 0 p0.1 p0.2.1 p0.2.2.1 0 [] [] p0.2.2.1 p0.1 [])else none)
def Nd(p0:ACd)(p1:Int):Option Ov:=UR (Jv AZ) p0 p1
abbrev nn:Type:=AEV×AEK
def Jz(p0:ACd):Option nn:=
 (Nd (p0.1,p0.2.1,p0.2.2.1,()) 1048575).bind fun u1=>
 some (((((),(),u1.1.1.1.2.2.1,()),u1.1.1.2.1,()),()),(u1.2.1,u1.2.2.1,()))
abbrev G5:Type:=AHU×Unit
abbrev az:Type:=ABJ->Int->Int->Int->Int->Bool->List UInt8->Option G5
def bj(R2:az)(t0:ABJ)(t1 t6 AL AF:Int)(Aa:Bool)(Ck:ACH):Option G5:=
 cond ((decide (t6<(t0.length:Int))))
  (if(0:Int)<=t6/\t6<(t0.length:Int)then(
  cond (((t0.getD (t6.toNat) (0,0,false,[],())).1)==t1)
   (if(0:Int)<=t6/\t6<(t0.length:Int)then(
   some (((((t0.getD (t6.toNat) (0,0,false,[],())).1,(t0.getD (t6.toNat) (0,0,false,[],())).2.1,(t0.getD (t6.toNat) (0,0,false,[],())).2.2.1,(t0.getD (t6.toNat) (0,0,false,[],())).2.2.2.1,()),true,()),()),()))else none)
  (R2 t0 t1 (AW (t6+1)) AL AF Aa Ck))else none)
 (some ((((0,0,false,[],()),false,()),()),()))
def Q4:Nat->az
 |0=>fun _ _ _ _ _ _ _=>none
 |n+1=>bj (Q4 n)
def bn(R2:az)(p0:ABJ)(p1:Int):Option G5:=
 R2 p0 p1 0 0 0 false []
def Hm(p0:ABJ)(p1:Int):Option G5:=bn (Q4 AZ) p0 p1
abbrev Gc:Type:=AHj×AE5
def D3(p0:ABS)(p1:ACi)(p2 p3:Int):Option Gc:=
 (H6 (p0.1,p0.2.1,()) (p1.1,p1.2.1,())).bind fun u1=>
 cond (!u1.1.1)
  (some ((((0,(),()),false,()),()),([],())))
 ((Eg (p1.1,p1.2.1,())).bind fun u2=>
 (CU p2 1 (p1.2.1.length:Int)).bind fun u4=>
 cond (!u4.1.1)
  (some ((((u2.1.1.1,(),()),false,()),()),(u2.2.1,())))
 ((CU p3 0 (AW ((p0.1.length:Int)-1))).bind fun u6=>
 cond (!u6.1.1)
  (some ((((u2.1.1.1,(),()),false,()),()),(u2.2.1,())))
 (if(0:Int)<=AW (p2-1)/\AW (p2-1)<(p1.2.1.length:Int)then(
 cond (((p1.2.1.getD ((AW (p2-1)).toNat) ([],[],false,())).2.2.1))
  (some ((((u2.1.1.1,(),()),false,()),()),(u2.2.1,())))
 (if(0:Int)<=AW (p2-1)/\AW (p2-1)<(u2.2.1.length:Int)then(
 (Iv ((u2.2.1.getD ((AW (p2-1)).toNat) ([],[],false,())).2.1) p3).bind fun u8=>
 if(0:Int)<=AW (p2-1)/\AW (p2-1)<(u2.2.1.length:Int)then(
 let x9:ACG:=(u2.2.1.set ((AW (p2-1)).toNat) ((u2.2.1.getD ((AW (p2-1)).toNat) ([],[],false,())).1,u8.2.1,(u2.2.1.getD ((AW (p2-1)).toNat) ([],[],false,())).2.2.1,()))
 if(0:Int)<=AW (p2-1)/\AW (p2-1)<(x9.length:Int)then(
 (FD (p0.1,p0.2.1,()) ((x9.getD ((AW (p2-1)).toNat) ([],[],false,())).2.1)).bind fun EI=>
 if(0:Int)<=AW (p2-1)/\AW (p2-1)<(x9.length:Int)then(
 some ((((u2.1.1.1,(),()),true,()),()),((x9.set ((AW (p2-1)).toNat) ((x9.getD ((AW (p2-1)).toNat) ([],[],false,())).1,(x9.getD ((AW (p2-1)).toNat) ([],[],false,())).2.1,EI.1.1,())),())))else none)else none)else none)else none))else none)))
abbrev l4:Type:=AFk×Unit
def Ss(p0 p1:Int):Option l4:=
 (CU p0 1 30).bind fun u1=>
 cond (!u1.1.1)
  (some (((0,false,()),()),()))
 ((CU p1 1 60).bind fun u2=>
 cond (!u2.1.1)
  (some (((0,false,()),()),()))
 (some (((AW ((AW (4294967296*p0))+p1),true,()),()),())))
abbrev GQ:Type:=AHU×Unit
def E_(p0:ABY)(p1:Int):Option GQ:=
 (Ss p0.2.1 p1).bind fun u1=>
 cond (!p0.2.2.2.2.1)
  (some ((((0,0,false,[],()),false,()),()),()))
 (cond (!u1.1.1.2.1)
  (some ((((0,0,false,[],()),false,()),()),()))
 (cond (decide (p1>(p0.2.2.2.2.2.1.length:Int)))
  (some ((((0,0,false,[],()),false,()),()),()))
 ((Hm p0.2.2.2.1 u1.1.1.1).bind fun u3=>
 cond (u3.1.1.2.1)
  (some ((((u1.1.1.1,p0.1,u3.1.1.1.2.2.1,u3.1.1.1.2.2.2.1,()),true,()),()),()))
 (some ((((u1.1.1.1,p0.1,true,[],()),true,()),()),())))))
abbrev D7:Type:=AFN×AEQ
def Em(p0:ABS)(p1:ABY)(p2 p3:Int):Option D7:=
 (JO (p0.1,p0.2.1,()) (p1.1,p1.2.1,p1.2.2.1,p1.2.2.2.1,p1.2.2.2.2.1,p1.2.2.2.2.2.1,())).bind fun u1=>
 cond (!u1.1.1)
  (some ((((0,0,(),(),false,(),()),false,()),()),([],[],[],())))
 ((Ef (p1.1,p1.2.1,p1.2.2.1,p1.2.2.2.1,p1.2.2.2.2.1,p1.2.2.2.2.2.1,())).bind fun u2=>
 (CU p2 1 (p1.2.2.2.2.2.1.length:Int)).bind fun u4=>
 cond (!u4.1.1)
  (some ((((u2.1.1.1,u2.1.1.2.1,(),(),u2.1.1.2.2.2.2.1,(),()),false,()),()),(u2.2.1,u2.2.2.1,u2.2.2.2.1,())))
 ((CU p3 0 (AW ((p0.1.length:Int)-1))).bind fun u6=>
 cond (!u6.1.1)
  (some ((((u2.1.1.1,u2.1.1.2.1,(),(),u2.1.1.2.2.2.2.1,(),()),false,()),()),(u2.2.1,u2.2.2.1,u2.2.2.2.1,())))
 (if(0:Int)<=AW (p2-1)/\AW (p2-1)<(u2.2.2.2.1.length:Int)then(
 (Iv (u2.2.2.2.1.getD ((AW (p2-1)).toNat) []) p3).bind fun u7=>
 if(0:Int)<=AW (p2-1)/\AW (p2-1)<(u2.2.2.2.1.length:Int)then(
 some ((((u2.1.1.1,u2.1.1.2.1,(),(),u2.1.1.2.2.2.2.1,(),()),true,()),()),(u2.2.1,u2.2.2.1,(u2.2.2.2.1.set ((AW (p2-1)).toNat) u7.2.1),())))else none)else none)))
abbrev B_:Type:=AG7×AEE
abbrev Iz:Type:=Int->Int->List Int->AAQ->List Int->AAH->AAj->AA6->ABA->AAT->Int->Int->Bool->Int->Int->Bool->List Int->AAQ->List Int->AAH->AAj->AA6->ABA->AAT->ABJ->ABJ->Int->Option B_
abbrev Iu:Type:=Int->Int->Int->Int->Int->Bool->List Int->AAQ->List Int->AAH->AAj->AA6->ABA->AAT->Int->Int->Bool->Int->Int->Bool->List Int->AAQ->List Int->AAH->AAj->AA6->ABA->AAT->ABJ->ABJ->Int->Int->ACG->Option B_
abbrev Hu:Type:=Int->Int->Int->Int->Int->Bool->List Int->AAQ->List Int->AAH->AAj->AA6->ABA->AAT->Int->Int->Bool->Int->Int->Bool->List Int->AAQ->List Int->AAH->AAj->AA6->ABA->AAT->ABJ->ABJ->Int->Int->ACG->Option B_
abbrev Hk:Type:=Int->Int->List Int->AAQ->List Int->AAH->AAj->AA6->ABA->AAT->Int->Int->Bool->Int->Int->Bool->List Int->AAQ->List Int->AAH->AAj->AA6->ABA->AAT->ABJ->ABJ->Int->Option B_
abbrev Ho:Type:=Int->Int->Int->List Int->AAQ->List Int->AAH->AAj->AA6->ABA->AAT->Int->Int->Bool->Int->Int->Bool->List Int->AAQ->List Int->AAH->AAj->AA6->ABA->AAT->ABJ->ABJ->Int->Int->Int->List Int->ABJ->Bool->List AAB->Option B_
def M4(R3:Iz)(R8:Iu)(ju:Hu)(R21:Hk)(R25:Ho)(t1 t6:Int)(b0:AAB)(b1:AAQ)(b2:AAB)(b3:AAH)(b4:AAj)(b5:AA6)(b6:ABA)(b7:AAT)(Db Ds:Int)(CR:Bool)(Eb Gd:Int)(DR:Bool)(NY:AAB)(Ez:AAQ)(DY:AAB)(Gm:AAH)(Gl:AAj)(ES:AA6)(Ey:ABA)(Fq:AAT)(Cm DF:ABJ)(Cv:Int):Option B_:=
 cond ((decide (t6<(b4.length:Int))))
  (if(0:Int)<=t6/\t6<(b4.length:Int)then(
  (CS (b3,Ds,()) ((b4.getD (t6.toNat) (0,[],())).1)).bind fun u3=>
  (DA u3.2.1 t1).bind fun u4=>
  cond (!u4.1.1)
   (R3 t1 (AW (t6+1)) b0 b1 b2 b3 b4 b5 b6 b7 Db Ds CR Eb Gd DR NY Ez DY Gm Gl ES Ey Fq Cm DF Cv)
  (let x5:Int:=(b4.getD (t6.toNat) (0,[],())).1
  cond (decide (Cv>=x5))
   (R3 t1 (AW (t6+1)) b0 b1 b2 b3 b4 b5 b6 b7 Db Ds CR Eb Gd DR NY Ez DY Gm Gl ES Ey Fq Cm DF Cv)
  (R8 t1 t6 1 Cv x5 (decide (Cv>=x5)) b0 b1 b2 b3 b4 b5 b6 b7 Db Ds CR Eb Gd DR NY Ez DY Gm Gl ES Ey Fq Cm DF Cv ((b4.getD (t6.toNat) (0,[],())).1) ((b4.getD (t6.toNat) (0,[],())).2.1))))else none)
 (R21 t1 0 b0 b1 b2 b3 b4 b5 b6 b7 Db Ds CR Eb Gd DR NY Ez DY Gm Gl ES Ey Fq Cm DF Cv)
def NO(R3:Iz)(R8:Iu)(ju:Hu)(R21:Hk)(R25:Ho)(t1 t6 t8 t47 t49:Int)(t50:Bool)(b0:AAB)(b1:AAQ)(b2:AAB)(b3:AAH)(b4:AAj)(b5:AA6)(b6:ABA)(b7:AAT)(Db Ds:Int)(CR:Bool)(Eb Gd:Int)(DR:Bool)(NY:AAB)(Ez:AAQ)(DY:AAB)(Gm:AAH)(Gl:AAj)(ES:AA6)(Ey:ABA)(Fq:AAT)(Cm DF:ABJ)(Cv Es:Int)(Cb:ACG):Option B_:=
 cond ((decide (t8<=(Cb.length:Int))))
  ((Ci Es t8).bind fun u7=>
  (Hm Cm u7.1.1).bind fun u8=>
  cond (!u8.1.1.2.1)
   (R8 t1 t6 (AW (t8+1)) t47 t49 t50 b0 b1 b2 b3 b4 b5 b6 b7 Db Ds CR Eb Gd DR NY Ez DY Gm Gl ES Ey Fq Cm DF Cv Es Cb)
  (cond (u8.1.1.1.2.1 !=0)
   (R8 t1 t6 (AW (t8+1)) t47 t49 t50 b0 b1 b2 b3 b4 b5 b6 b7 Db Ds CR Eb Gd DR NY Ez DY Gm Gl ES Ey Fq Cm DF Cv Es Cb)
  (if(0:Int)<=AW (t8-1)/\AW (t8-1)<(Cb.length:Int)then(
  cond (((Cb.getD ((AW (t8-1)).toNat) ([],[],false,())).2.2.1))
   (R8 t1 t6 (AW (t8+1)) t47 t49 t50 b0 b1 b2 b3 b4 b5 b6 b7 Db Ds CR Eb Gd DR NY Ez DY Gm Gl ES Ey Fq Cm DF Cv Es Cb)
  ((D3 (b0,Db,()) (Es,Cb,()) t8 t1).bind fun EI=>
  R8 t1 t6 (AW (t8+1)) t47 t49 t50 b0 b1 b2 b3 b4 b5 b6 b7 Db Ds CR Eb Gd DR NY Ez DY Gm Gl ES Ey Fq Cm DF Cv EI.1.1.1.1 EI.2.1))else none)))
 (if(0:Int)<=t6/\t6<(b4.length:Int)then(
 ju t1 t6 0 t47 t49 t50 b0 b1 b2 b3 (b4.set (t6.toNat) (Es,Cb,())) b5 b6 b7 Db Ds CR Eb Gd DR NY Ez DY Gm Gl ES Ey Fq Cm DF Cv Es Cb)else none)
def L7(R3:Iz)(R8:Iu)(ju:Hu)(R21:Hk)(R25:Ho)(t1 t6 t11 t47 t49:Int)(t50:Bool)(b0:AAB)(b1:AAQ)(b2:AAB)(b3:AAH)(b4:AAj)(b5:AA6)(b6:ABA)(b7:AAT)(Db Ds:Int)(CR:Bool)(Eb Gd:Int)(DR:Bool)(NY:AAB)(Ez:AAQ)(DY:AAB)(Gm:AAH)(Gl:AAj)(ES:AA6)(Ey:ABA)(Fq:AAT)(Cm DF:ABJ)(Cv Es:Int)(Cb:ACG):Option B_:=
 cond ((decide (t11<(b7.length:Int))))
  (if(0:Int)<=t11/\t11<(b7.length:Int)then(
  let x65:Int:=(b7.getD (t11.toNat) (0,[],false,())).1
  (C1 x65).bind fun u66=>
  cond (u66.1.1==Es)
   ((Hp x65).bind fun u67=>
   cond ((decide (u67.1.1<=(Cb.length:Int))))
    ((Hp x65).bind fun u69=>
    if(0:Int)<=AW (u69.1.1-1)/\AW (u69.1.1-1)<(Cb.length:Int)then(
    cond (((Cb.getD ((AW (u69.1.1-1)).toNat) ([],[],false,())).2.2.1))
     (if(0:Int)<=t11/\t11<(b7.length:Int)then(
     ju t1 t6 (AW (t11+1)) t47 t49 t50 b0 b1 b2 b3 b4 b5 b6 (b7.set (t11.toNat) ((b7.getD (t11.toNat) (0,[],false,())).1,(b7.getD (t11.toNat) (0,[],false,())).2.1,true,())) Db Ds CR Eb Gd DR NY Ez DY Gm Gl ES Ey Fq Cm DF Cv Es Cb)else none)
    (ju t1 t6 (AW (t11+1)) t47 t49 t50 b0 b1 b2 b3 b4 b5 b6 b7 Db Ds CR Eb Gd DR NY Ez DY Gm Gl ES Ey Fq Cm DF Cv Es Cb))else none)
   (ju t1 t6 (AW (t11+1)) t47 t49 t50 b0 b1 b2 b3 b4 b5 b6 b7 Db Ds CR Eb Gd DR NY Ez DY Gm Gl ES Ey Fq Cm DF Cv Es Cb))
  (ju t1 t6 (AW (t11+1)) t47 t49 t50 b0 b1 b2 b3 b4 b5 b6 b7 Db Ds CR Eb Gd DR NY Ez DY Gm Gl ES Ey Fq Cm DF Cv Es Cb))else none)
 (R3 t1 (AW (t6+1)) b0 b1 b2 b3 b4 b5 b6 b7 Db Ds CR Eb Gd DR NY Ez DY Gm Gl ES Ey Fq Cm DF Cv)
def Lu(R3:Iz)(R8:Iu)(ju:Hu)(R21:Hk)(R25:Ho)(t1 t13:Int)(b0:AAB)(b1:AAQ)(b2:AAB)(b3:AAH)(b4:AAj)(b5:AA6)(b6:ABA)(b7:AAT)(Db Ds:Int)(CR:Bool)(Eb Gd:Int)(DR:Bool)(NY:AAB)(Ez:AAQ)(DY:AAB)(Gm:AAH)(Gl:AAj)(ES:AA6)(Ey:ABA)(Fq:AAT)(Cm DF:ABJ)(Cv:Int):Option B_:=
 cond ((decide (t13<(b5.length:Int))))
  (if(0:Int)<=t13/\t13<(b5.length:Int)then(
  R25 t1 t13 1 b0 b1 b2 b3 b4 b5 b6 b7 Db Ds CR Eb Gd DR NY Ez DY Gm Gl ES Ey Fq Cm DF Cv ((b5.getD (t13.toNat) (0,0,[],[],false,[],())).1) ((b5.getD (t13.toNat) (0,0,[],[],false,[],())).2.1) ((b5.getD (t13.toNat) (0,0,[],[],false,[],())).2.2.1) ((b5.getD (t13.toNat) (0,0,[],[],false,[],())).2.2.2.1) ((b5.getD (t13.toNat) (0,0,[],[],false,[],())).2.2.2.2.1) ((b5.getD (t13.toNat) (0,0,[],[],false,[],())).2.2.2.2.2.1))else none)
 (some ((((),Db,(),(),(),Ds,(),(),(),(),CR,()),()),(b0,b1,b2,b3,b4,b5,b6,b7,())))
def I8(R3:Iz)(R8:Iu)(ju:Hu)(R21:Hk)(R25:Ho)(t1 t13 t15:Int)(b0:AAB)(b1:AAQ)(b2:AAB)(b3:AAH)(b4:AAj)(b5:AA6)(b6:ABA)(b7:AAT)(Db Ds:Int)(CR:Bool)(Eb Gd:Int)(DR:Bool)(NY:AAB)(Ez:AAQ)(DY:AAB)(Gm:AAH)(Gl:AAj)(ES:AA6)(Ey:ABA)(Fq:AAT)(Cm DF:ABJ)(Cv Es Cb:Int)(br:AAB)(bH:ABJ)(bU:Bool)(VW:List AAB):Option B_:=
 if(0:Int)<=t13/\t13<(b5.length:Int)then(
 cond (decide (t15<=(((b5.getD (t13.toNat) (0,0,[],[],false,[],())).2.2.2.2.2.1).length:Int)))
  ((CS (b3,Ds,()) Cb).bind fun u74=>
  (DA u74.2.1 t1).bind fun u75=>
  cond (u75.1.1)
   ((E_ (Es,Cb,br,bH,bU,VW,()) t15).bind fun u76=>
   (Hm Cm u76.1.1.1.1).bind fun u77=>
   cond (u77.1.1.2.1)
    (cond (((u77.1.1.1.1==u76.1.1.1.1)&&((u77.1.1.1.2.1==u76.1.1.1.2.1)&&((u77.1.1.1.2.2.1==u76.1.1.1.2.2.1)&&((u77.1.1.1.2.2.2.1==u76.1.1.1.2.2.2.1)&&true)))))
     ((Em (b0,Db,()) (Es,Cb,br,bH,bU,VW,()) t15 t1).bind fun u79=>
     R25 t1 t13 (AW (t15+1)) b0 b1 b2 b3 b4 b5 b6 b7 Db Ds CR Eb Gd DR NY Ez DY Gm Gl ES Ey Fq Cm DF Cv u79.1.1.1.1 u79.1.1.1.2.1 u79.2.1 u79.2.2.1 u79.1.1.1.2.2.2.2.1 u79.2.2.2.1)
    (R25 t1 t13 (AW (t15+1)) b0 b1 b2 b3 b4 b5 b6 b7 Db Ds CR Eb Gd DR NY Ez DY Gm Gl ES Ey Fq Cm DF Cv Es Cb br bH bU VW))
   (R25 t1 t13 (AW (t15+1)) b0 b1 b2 b3 b4 b5 b6 b7 Db Ds CR Eb Gd DR NY Ez DY Gm Gl ES Ey Fq Cm DF Cv Es Cb br bH bU VW))
  (if(0:Int)<=t13/\t13<(b5.length:Int)then(
  R21 t1 (AW (t13+1)) b0 b1 b2 b3 b4 (b5.set (t13.toNat) (Es,Cb,br,bH,bU,VW,())) b6 b7 Db Ds CR Eb Gd DR NY Ez DY Gm Gl ES Ey Fq Cm DF Cv)else none))
 (if(0:Int)<=t13/\t13<(b5.length:Int)then(
 R21 t1 (AW (t13+1)) b0 b1 b2 b3 b4 (b5.set (t13.toNat) (Es,Cb,br,bH,bU,VW,())) b6 b7 Db Ds CR Eb Gd DR NY Ez DY Gm Gl ES Ey Fq Cm DF Cv)else none))else none
mutual
def Bn:Nat->Iz
 |0=>fun _ _ _ _ _ _ _ _ _ _ _ _ _ _ _ _ _ _ _ _ _ _ _ _ _ _ _=>none
 |n+1=>M4 (Bn n) (BM n) (BO n) (Bq n) (Bi n)
def BM:Nat->Iu
 |0=>fun _ _ _ _ _ _ _ _ _ _ _ _ _ _ _ _ _ _ _ _ _ _ _ _ _ _ _ _ _ _ _ _ _=>none
 |n+1=>NO (Bn n) (BM n) (BO n) (Bq n) (Bi n)
def BO:Nat->Hu
 |0=>fun _ _ _ _ _ _ _ _ _ _ _ _ _ _ _ _ _ _ _ _ _ _ _ _ _ _ _ _ _ _ _ _ _=>none
 |n+1=>L7 (Bn n) (BM n) (BO n) (Bq n) (Bi n)
def Bq:Nat->Hk
 |0=>fun _ _ _ _ _ _ _ _ _ _ _ _ _ _ _ _ _ _ _ _ _ _ _ _ _ _ _=>none
 |n+1=>Lu (Bn n) (BM n) (BO n) (Bq n) (Bi n)
def Bi:Nat->Ho
 |0=>fun _ _ _ _ _ _ _ _ _ _ _ _ _ _ _ _ _ _ _ _ _ _ _ _ _ _ _ _ _ _ _ _ _ _=>none
 |n+1=>I8 (Bn n) (BM n) (BO n) (Bq n) (Bi n)
end
def Ri(R3:Iz)(R8:Iu)(ju:Hu)(R21:Hk)(R25:Ho)(Bz B6:Int)(BG:Bool)(p1:Int)(b0:AAB)(b1:AAQ)(b2:AAB)(b3:AAH)(b4:AAj)(b5:AA6)(b6:ABA)(b7:AAT):Option B_:=
 if(0:Int)<=p1/\p1<(b1.length:Int)then(
 R3 p1 0 b0 b1 b2 b3 b4 b5 b6 b7 Bz B6 BG 0 0 false [] [] [] [] [] [] [] [] ((b1.getD (p1.toNat) ([],[],0,())).1) ((b1.getD (p1.toNat) ([],[],0,())).2.1) ((b1.getD (p1.toNat) ([],[],0,())).2.2.1))else none
def XS(Bz B6:Int)(BG:Bool)(p1:Int)(b0:AAB)(b1:AAQ)(b2:AAB)(b3:AAH)(b4:AAj)(b5:AA6)(b6:ABA)(b7:AAT):Option B_:=Ri (Bn AZ) (BM AZ) (BO AZ) (Bq AZ) (Bi AZ) Bz B6 BG p1 b0 b1 b2 b3 b4 b5 b6 b7
abbrev rM:Type:=AED×AEE
def Xf(Bz B6:Int)(BG:Bool)(p1:ADe)(b0:AAB)(b1:AAQ)(b2:AAB)(b3:AAH)(b4:AAj)(b5:AA6)(b6:ABA)(b7:AAT):Option rM:=
 (H7 (b0,Bz,b1,b2,b3,B6,b4,b5,b6,b7,BG,()) p1.2.1).bind fun u1=>
 cond (u1.1.1 !=0)
  (some (((((),Bz,(),(),(),B6,(),(),(),(),BG,()),u1.1.1,()),()),(b0,b1,b2,b3,b4,b5,b6,b7,())))
 (if(0:Int)<=p1.2.1/\p1.2.1<(b1.length:Int)then(
 (Jz ((b1.getD (p1.2.1.toNat) ([],[],0,())).1,(b1.getD (p1.2.1.toNat) ([],[],0,())).2.1,(b1.getD (p1.2.1.toNat) ([],[],0,())).2.2.1,())).bind fun u2=>
 cond (!u2.1.1.2.1)
  (some (((((),Bz,(),(),(),B6,(),(),(),(),BG,()),4,()),()),(b0,b1,b2,b3,b4,b5,b6,b7,())))
 (if(0:Int)<=p1.2.1/\p1.2.1<(b1.length:Int)then(
 (XS Bz B6 BG p1.2.1 b0 (b1.set (p1.2.1.toNat) (u2.2.1,u2.2.2.1,u2.1.1.1.2.2.1,())) b2 b3 b4 b5 b6 b7).bind fun u4=>
 some (((((),u4.1.1.2.1,(),(),(),u4.1.1.2.2.2.2.2.1,(),(),(),(),u4.1.1.2.2.2.2.2.2.2.2.2.2.1,()),0,()),()),(u4.2.1,u4.2.2.1,u4.2.2.2.1,u4.2.2.2.2.1,u4.2.2.2.2.2.1,u4.2.2.2.2.2.2.1,u4.2.2.2.2.2.2.2.1,u4.2.2.2.2.2.2.2.2.1,())))else none))else none)
abbrev VT:Type:=ADI×ADM
abbrev X4:Type:=List Int->List Int->Int->List Int->Option VT
def aG(R3:X4)(t0 t1:AAB)(t6:Int)(b0:AAB):Option VT:=
 cond ((decide (t6<(t0.length:Int))))
  (if(0:Int)<=t6/\t6<(t0.length:Int)then(
  (DA t1 (t0.getD (t6.toNat) 0)).bind fun u3=>
  cond (!u3.1.1)
   (if(0:Int)<=t6/\t6<(t0.length:Int)then(
   if b0.length+1<=C_ then(
   R3 t0 t1 (AW (t6+1)) (b0++[(t0.getD (t6.toNat) 0)]))else none)else none)
  (R3 t0 t1 (AW (t6+1)) b0))else none)
 (some (((),()),(b0,())))
def PV:Nat->X4
 |0=>fun _ _ _ _=>none
 |n+1=>aG (PV n)
def Z0(R3:X4)(p0 p1:AAB):Option VT:=
 R3 p0 p1 0 []
def IQ(p0 p1:AAB):Option VT:=Z0 (PV AZ) p0 p1
abbrev Ly:Type:=AHj×AE5
abbrev PI:Type:=Int->Int->Int->ACG->Int->ACG->Option Ly
def Se(R5:PI)(t2 t9 AL:Int)(b1:ACG)(JN:Int)(b3:ACG):Option Ly:=
 cond ((decide (t9<(b3.length:Int))))
  (if(0:Int)<=t9/\t9<(b3.length:Int)then(
  cond (!((b3.getD (t9.toNat) ([],[],false,())).2.2.1))
   (if(0:Int)<=t9/\t9<(b3.length:Int)then(
   (IQ ((b3.getD (t9.toNat) ([],[],false,())).2.1) [t2]).bind fun u5=>
   if(0:Int)<=t9/\t9<(b3.length:Int)then(
   R5 t2 (AW (t9+1)) AL b1 JN (b3.set (t9.toNat) ((b3.getD (t9.toNat) ([],[],false,())).1,u5.2.1,(b3.getD (t9.toNat) ([],[],false,())).2.2.1,())))else none)else none)
  (R5 t2 (AW (t9+1)) AL b1 JN b3))else none)
 (some ((((JN,(),()),true,()),()),(b3,())))
def IL:Nat->PI
 |0=>fun _ _ _ _ _ _=>none
 |n+1=>Se (IL n)
def Sh(R5:PI)(p0:ABS)(p1:ACi)(p2:Int):Option Ly:=
 (H6 (p0.1,p0.2.1,()) (p1.1,p1.2.1,())).bind fun u1=>
 cond (!u1.1.1)
  (some ((((0,(),()),false,()),()),([],())))
 ((Eg (p1.1,p1.2.1,())).bind fun u2=>
 R5 p2 0 0 [] u2.1.1.1 u2.2.1)
def Oo(p0:ABS)(p1:ACi)(p2:Int):Option Ly:=Sh (IL AZ) p0 p1 p2
abbrev Ot:Type:=AFN×AEQ
abbrev Rv:Type:=Int->Int->Int->Int->Bool->List Int->ABJ->List AAB->Int->Int->Bool->List Int->ABJ->List AAB->Option Ot
def UG(R5:Rv)(t2 t9 AL AF:Int)(DO:Bool)(b1:AAB)(b2:ABJ)(b3:List AAB)(lP gq:Int)(yh:Bool)(b5:AAB)(b6:ABJ)(b7:List AAB):Option Ot:=
 cond ((decide (t9<(b7.length:Int))))
  (if(0:Int)<=t9/\t9<(b7.length:Int)then(
  (IQ (b7.getD (t9.toNat) []) [t2]).bind fun u4=>
  if(0:Int)<=t9/\t9<(b7.length:Int)then(
  R5 t2 (AW (t9+1)) AL AF DO b1 b2 b3 lP gq yh b5 b6 (b7.set (t9.toNat) u4.2.1))else none)else none)
 (some ((((lP,gq,(),(),yh,(),()),true,()),()),(b5,b6,b7,())))
def KH:Nat->Rv
 |0=>fun _ _ _ _ _ _ _ _ _ _ _ _ _ _=>none
 |n+1=>UG (KH n)
def UD(R5:Rv)(p0:ABS)(p1:ABY)(p2:Int):Option Ot:=
 (JO (p0.1,p0.2.1,()) (p1.1,p1.2.1,p1.2.2.1,p1.2.2.2.1,p1.2.2.2.2.1,p1.2.2.2.2.2.1,())).bind fun u1=>
 cond (!u1.1.1)
  (some ((((0,0,(),(),false,(),()),false,()),()),([],[],[],())))
 ((Ef (p1.1,p1.2.1,p1.2.2.1,p1.2.2.2.1,p1.2.2.2.2.1,p1.2.2.2.2.2.1,())).bind fun u2=>
 R5 p2 0 0 0 false [] [] [] u2.1.1.1 u2.1.1.2.1 u2.1.1.2.2.2.2.1 u2.2.1 u2.2.2.1 u2.2.2.2.1)
def RL(p0:ABS)(p1:ABY)(p2:Int):Option Ot:=UD (KH AZ) p0 p1 p2
abbrev KF:Type:=AED×AKy
abbrev Q8:Type:=Int->List Int->AAQ->List Int->AAH->AAj->AA6->ABA->AAT->Int->Int->Bool->List Int->Int->Int->Int->Int->List UInt8->Int->Int->Bool->List Int->AAQ->List Int->AAH->AAj->AA6->ABA->AAT->Option KF
abbrev P8:Type:=Int->List Int->AAQ->List Int->AAH->AAj->AA6->ABA->AAT->Int->Int->Bool->List Int->Int->Int->Int->Int->List UInt8->Int->Int->Bool->List Int->AAQ->List Int->AAH->AAj->AA6->ABA->AAT->Option KF
def YS(R7:Q8)(uW:P8)(t7:Int)(b0:AAB)(b1:AAQ)(b2:AAB)(b3:AAH)(b4:AAj)(b5:AA6)(b6:ABA)(b7:AAT)(Db Ds:Int)(CR:Bool)(b9:AAB)(Wp Cr We Wt:Int)(XD:ACH)(ABI ABW:Int)(wD:Bool)(DY:AAB)(Gm:AAQ)(Gl:AAB)(ES:AAH)(Ey:AAj)(Fq:AA6)(T6:ABA)(oQ:AAT):Option KF:=
 cond ((decide (t7<(b4.length:Int))))
  (if(0:Int)<=t7/\t7<(b4.length:Int)then(
  (Oo (b0,Db,()) ((b4.getD (t7.toNat) (0,[],())).1,(b4.getD (t7.toNat) (0,[],())).2.1,()) Cr).bind fun u5=>
  if(0:Int)<=t7/\t7<(b4.length:Int)then(
  R7 (AW (t7+1)) b0 b1 b2 b3 (b4.set (t7.toNat) (u5.1.1.1.1,u5.2.1,())) b5 b6 b7 Db Ds CR b9 Wp Cr We Wt XD ABI ABW wD DY Gm Gl ES Ey Fq T6 oQ)else none)else none)
 (uW 0 b0 b1 b2 b3 b4 b5 b6 b7 Db Ds CR b9 Wp Cr We Wt XD ABI ABW wD DY Gm Gl ES Ey Fq T6 oQ)
def Wi(R7:Q8)(uW:P8)(t8:Int)(b0:AAB)(b1:AAQ)(b2:AAB)(b3:AAH)(b4:AAj)(b5:AA6)(b6:ABA)(b7:AAT)(Db Ds:Int)(CR:Bool)(b9:AAB)(Wp Cr We Wt:Int)(XD:ACH)(ABI ABW:Int)(wD:Bool)(DY:AAB)(Gm:AAQ)(Gl:AAB)(ES:AAH)(Ey:AAj)(Fq:AA6)(T6:ABA)(oQ:AAT):Option KF:=
 cond ((decide (t8<(b5.length:Int))))
  (if(0:Int)<=t8/\t8<(b5.length:Int)then(
  (RL (b0,Db,()) ((b5.getD (t8.toNat) (0,0,[],[],false,[],())).1,(b5.getD (t8.toNat) (0,0,[],[],false,[],())).2.1,(b5.getD (t8.toNat) (0,0,[],[],false,[],())).2.2.1,(b5.getD (t8.toNat) (0,0,[],[],false,[],())).2.2.2.1,(b5.getD (t8.toNat) (0,0,[],[],false,[],())).2.2.2.2.1,(b5.getD (t8.toNat) (0,0,[],[],false,[],())).2.2.2.2.2.1,()) Cr).bind fun u8=>
  if(0:Int)<=t8/\t8<(b5.length:Int)then(
  uW (AW (t8+1)) b0 b1 b2 b3 b4 (b5.set (t8.toNat) (u8.1.1.1.1,u8.1.1.1.2.1,u8.2.1,u8.2.2.1,u8.1.1.1.2.2.2.2.1,u8.2.2.2.1,())) b6 b7 Db Ds CR b9 Wp Cr We Wt XD ABI ABW wD DY Gm Gl ES Ey Fq T6 oQ)else none)else none)
 (cond (CR)
  (some (((((),Db,(),(),(),Ds,(),(),(),(),true,()),0,()),()),(b0,b1,(),b3,b4,b5,b6,b7,b9,())))
 ((FD (b0,Db,()) b9).bind fun EI=>
 some (((((),Db,(),(),(),Ds,(),(),(),(),EI.1.1,()),0,()),()),(b0,b1,(),b3,b4,b5,b6,b7,b9,()))))
mutual
def Kf:Nat->Q8
 |0=>fun _ _ _ _ _ _ _ _ _ _ _ _ _ _ _ _ _ _ _ _ _ _ _ _ _ _ _ _ _=>none
 |n+1=>YS (Kf n) (Jb n)
def Jb:Nat->P8
 |0=>fun _ _ _ _ _ _ _ _ _ _ _ _ _ _ _ _ _ _ _ _ _ _ _ _ _ _ _ _ _=>none
 |n+1=>Wi (Kf n) (Jb n)
end
def YT(R7:Q8)(uW:P8)(Bz B6:Int)(BG:Bool)(p1:ADe)(b0:AAB)(b1:AAQ)(b2:AAB)(b3:AAH)(b4:AAj)(b5:AA6)(b6:ABA)(b7:AAT):Option KF:=
 (H7 (b0,Bz,b1,b2,b3,B6,b4,b5,b6,b7,BG,()) p1.2.1).bind fun u1=>
 cond (u1.1.1 !=0)
  (some (((((),Bz,(),(),(),B6,(),(),(),(),BG,()),u1.1.1,()),()),(b0,b1,(),b3,b4,b5,b6,b7,b2,())))
 (if(0:Int)<=p1.2.1/\p1.2.1<(b1.length:Int)then(
 (Iv b2 p1.2.1).bind fun u3=>
 R7 0 b0 (b1.set (p1.2.1.toNat) ([],[],0,())) b2 b3 b4 b5 b6 b7 Bz B6 BG u3.2.1 p1.1 p1.2.1 p1.2.2.1 p1.2.2.2.1 p1.2.2.2.2.1 0 0 false [] [] [] [] [] [] [] [])else none)
def XH(Bz B6:Int)(BG:Bool)(p1:ADe)(b0:AAB)(b1:AAQ)(b2:AAB)(b3:AAH)(b4:AAj)(b5:AA6)(b6:ABA)(b7:AAT):Option KF:=YT (Kf AZ) (Jb AZ) Bz B6 BG p1 b0 b1 b2 b3 b4 b5 b6 b7
abbrev tc:Type:=ABi×Unit
def Z1(p0:ABS)(p1:AAB):Option tc:=
 (G4 (p0.1,p0.2.1,()) p1).bind fun u1=>
 cond (u1.1.1)
  ((FD (p0.1,p0.2.1,()) p1).bind fun u2=>
  some ((!u2.1.1,()),()))
 (some ((false,()),()))
abbrev Kg:Type:=ADI×AGF
abbrev QS:Type:=AAQ->Int->ABJ->Option Kg
abbrev QL:Type:=AAQ->Int->Int->ABJ->Option Kg
def Wr(R3:QS)(R6:QL)(t0:AAQ)(t4:Int)(b0:ABJ):Option Kg:=
 cond ((decide (t4<(t0.length:Int))))
  (R6 t0 t4 0 b0)
 (some (((),()),(b0,())))
def Wc(R3:QS)(R6:QL)(t0:AAQ)(t4 t5:Int)(b0:ABJ):Option Kg:=
 if(0:Int)<=t4/\t4<(t0.length:Int)then(
 cond (decide (t5<(((t0.getD (t4.toNat) ([],[],0,())).1).length:Int)))
  (if(0:Int)<=t4/\t4<(t0.length:Int)then(
  if(0:Int)<=t5/\t5<(((t0.getD (t4.toNat) ([],[],0,())).1).length:Int)then(
  (Rz b0 ((((t0.getD (t4.toNat) ([],[],0,())).1).getD (t5.toNat) (0,0,false,[],())).1,(((t0.getD (t4.toNat) ([],[],0,())).1).getD (t5.toNat) (0,0,false,[],())).2.1,(((t0.getD (t4.toNat) ([],[],0,())).1).getD (t5.toNat) (0,0,false,[],())).2.2.1,(((t0.getD (t4.toNat) ([],[],0,())).1).getD (t5.toNat) (0,0,false,[],())).2.2.2.1,())).bind fun u3=>
  R6 t0 t4 (AW (t5+1)) u3.2.1)else none)else none)
 (R3 t0 (AW (t4+1)) b0))else none
mutual
def JZ:Nat->QS
 |0=>fun _ _ _=>none
 |n+1=>Wr (JZ n) (Jg n)
def Jg:Nat->QL
 |0=>fun _ _ _ _=>none
 |n+1=>Wc (JZ n) (Jg n)
end
def gv(R3:QS)(R6:QL)(p0:AAQ):Option Kg:=
 R3 p0 0 []
def au(p0:AAQ):Option Kg:=gv (JZ AZ) (Jg AZ) p0
abbrev PY:Type:=AEV×AK1
abbrev Xi:Type:=List Int->Int->Int->AAQ->Int->ABJ->ABJ->Int->ABJ->ABJ->AAQ->Option PY
abbrev VJ:Type:=Int->Int->AAQ->Int->ABJ->ABJ->Int->ABJ->ABJ->AAQ->Option PY
def dk(R6:Xi)(uW:VJ)(t2:AAB)(t4 t14:Int)(b0:AAQ)(Da:Int)(b2 b3:ABJ)(M_:Int)(b5 b6:ABJ)(b7:AAQ):Option PY:=
 cond ((decide (t14<(b0.length:Int))))
  ((DA t2 t14).bind fun u6=>
  cond (!u6.1.1)
   (if(0:Int)<=t14/\t14<(b0.length:Int)then(
   if b7.length+1<=C_ then(
   R6 t2 t4 (AW (t14+1)) b0 Da b2 b3 M_ b5 b6 (b7++[((b0.getD (t14.toNat) ([],[],0,())).1,(b0.getD (t14.toNat) ([],[],0,())).2.1,(b0.getD (t14.toNat) ([],[],0,())).2.2.1,())]))else none)else none)
  (R6 t2 t4 (AW (t14+1)) b0 Da b2 b3 M_ b5 b6 b7))
 (uW t4 0 b0 Da b2 b3 M_ b5 b6 b7)
def bS(R6:Xi)(uW:VJ)(t4 t15:Int)(b0:AAQ)(Da:Int)(b2 b3:ABJ)(M_:Int)(b5 b6:ABJ)(b7:AAQ):Option PY:=
 cond ((decide (t15<(b7.length:Int))))
  (if(0:Int)<=t15/\t15<(b7.length:Int)then(
  (Gy ((b7.getD (t15.toNat) ([],[],0,())).1,(b7.getD (t15.toNat) ([],[],0,())).2.1,(b7.getD (t15.toNat) ([],[],0,())).2.2.1,())).bind fun u9=>
  cond (!u9.1.1)
   (some (((((),(),M_,()),false,()),()),(b0,b5,b6,())))
  (uW t4 (AW (t15+1)) b0 Da b2 b3 M_ b5 b6 b7))else none)
 ((au b7).bind fun EI=>
 (Gy (EI.2.1,[],t4,())).bind fun Mv=>
 cond (!Mv.1.1)
  (some (((((),(),M_,()),false,()),()),(b0,b5,b6,())))
 (some (((((),(),t4,()),true,()),()),(b0,EI.2.1,[],()))))
mutual
def Ps:Nat->Xi
 |0=>fun _ _ _ _ _ _ _ _ _ _ _=>none
 |n+1=>dk (Ps n) (OA n)
def OA:Nat->VJ
 |0=>fun _ _ _ _ _ _ _ _ _ _=>none
 |n+1=>bS (Ps n) (OA n)
end
def dv(R6:Xi)(uW:VJ)(p0:ABS)(p2:AAB)(p3 p4:Int)(b0:AAQ):Option PY:=
 (Gp (p0.1,p0.2.1,())).bind fun u1=>
 cond (!u1.1.1)
  (some (((((),(),0,()),false,()),()),(b0,[],[],())))
 (cond (((b0.length:Int) !=(p0.1.length:Int)))
  (some (((((),(),0,()),false,()),()),(b0,[],[],())))
 ((Z1 (p0.1,p0.2.1,()) p2).bind fun u3=>
 cond (!u3.1.1)
  (some (((((),(),0,()),false,()),()),(b0,[],[],())))
 ((DA p2 p3).bind fun u4=>
 cond (!u4.1.1)
  (some (((((),(),0,()),false,()),()),(b0,[],[],())))
 (R6 p2 p4 0 b0 0 [] [] 0 [] [] []))))
def gD(p0:ABS)(p2:AAB)(p3 p4:Int)(b0:AAQ):Option PY:=dv (Ps AZ) (OA AZ) p0 p2 p3 p4 b0
abbrev qm:Type:=AED×AKy
def XK(Bz B6:Int)(BG:Bool)(p1:ADe)(b0:AAB)(b1:AAQ)(b2:AAB)(b3:AAH)(b4:AAj)(b5:AA6)(b6:ABA)(b7:AAT):Option qm:=
 (DA b2 p1.2.1).bind fun u1=>
 cond (!u1.1.1)
  (some (((((),Bz,(),(),(),B6,(),(),(),(),BG,()),2,()),()),(b0,b1,(),b3,b4,b5,b6,b7,b2,())))
 ((Fe (AW ((b3.length:Int)-1)) 0).bind fun u3=>
 (gD (b0,Bz,()) b2 p1.2.1 u3.1.1 b1).bind fun u4=>
 cond (!u4.1.1.2.1)
  (some (((((),Bz,(),(),(),B6,(),(),(),(),BG,()),4,()),()),(b0,u4.2.1,(),b3,b4,b5,b6,b7,b2,())))
 (if(0:Int)<=p1.2.1/\p1.2.1<(u4.2.1.length:Int)then(
 (IQ b2 [p1.2.1]).bind fun u6=>
 some (((((),Bz,(),(),(),B6,(),(),(),(),BG,()),0,()),()),(b0,(u4.2.1.set (p1.2.1.toNat) (u4.2.2.1,u4.2.2.2.1,u4.1.1.1.2.2.1,())),(),b3,b4,b5,b6,b7,u6.2.1,())))else none))
abbrev MO:Type:=AFE×AEQ
def NM(p0 p1:Int):Option MO:=
 some (((p1,p0,(),(),false,(),()),()),([],[],[],()))
abbrev e_:Type:=AED×(List Int×AAQ×List Int×AAH×AAj×Unit×ABA×AAT×AA6×Unit)
def XT(Bz B6:Int)(BG:Bool)(b0:AAB)(b1:AAQ)(b2:AAB)(b3:AAH)(b4:AAj)(b5:AA6)(b6:ABA)(b7:AAT):Option e_:=
 (Jy (b3,B6,())).bind fun u1=>
 cond ((decide ((b3.length:Int)<2)))
  (some (((((),Bz,(),(),(),B6,(),(),(),(),BG,()),2,()),()),(b0,b1,b2,b3,b4,(),b6,b7,b5,())))
 (cond ((u1.1.1==(b3.length:Int)))
  (some (((((),Bz,(),(),(),B6,(),(),(),(),BG,()),2,()),()),(b0,b1,b2,b3,b4,(),b6,b7,b5,())))
 (cond ((decide ((b5.length:Int)>0)))
  (some (((((),Bz,(),(),(),B6,(),(),(),(),BG,()),4,()),()),(b0,b1,b2,b3,b4,(),b6,b7,b5,())))
 ((NM u1.1.1 (b3.length:Int)).bind fun u5=>
 some (((((),Bz,(),(),(),B6,(),(),(),(),BG,()),0,()),()),(b0,b1,b2,b3,b4,(),b6,b7,[(u5.1.1.1,u5.1.1.2.1,u5.2.1,u5.2.2.1,u5.1.1.2.2.2.2.1,u5.2.2.2.1,())],())))))
abbrev nv:Type:=AEV×AEK
def PT(p0:ACd)(p1:Int):Option nv:=
 (Gy (p0.1,p0.2.1,p0.2.2.1,())).bind fun u1=>
 cond (!u1.1.1)
  (some (((((),(),0,()),false,()),()),([],[],())))
 ((Jz (p0.1,p0.2.1,p0.2.2.1,())).bind fun u2=>
 cond (!u2.1.1.2.1)
  ((FH (p0.1,p0.2.1,p0.2.2.1,())).bind fun u3=>
  some (((((),(),u3.1.1.2.2.1,()),false,()),()),(u3.2.1,u3.2.2.1,())))
 ((CU p1 0 30).bind fun u4=>
 cond (!u4.1.1)
  ((FH (p0.1,p0.2.1,p0.2.2.1,())).bind fun u5=>
  some (((((),(),u5.1.1.2.2.1,()),false,()),()),(u5.2.1,u5.2.2.1,())))
 ((Fe u2.1.1.1.2.2.1 p1).bind fun u6=>
 some (((((),(),u6.1.1,()),true,()),()),(u2.2.1,u2.2.2.1,())))))
abbrev GC:Type:=ADI×AGF
abbrev U0:Type:=Int->Int->ABJ->ABJ->Int->ABJ->Option GC
def Qf(R3:U0)(t1 t6:Int)(AL AF:ABJ)(Aa:Int)(b1:ABJ):Option GC:=
 cond ((decide (t6<(AL.length:Int))))
  ((Gy (AL,AF,Aa,())).bind fun u2=>
  cond (u2.1.1)
   (if(0:Int)<=t6/\t6<(AL.length:Int)then(
   (C1 ((AL.getD (t6.toNat) (0,0,false,[],())).1)).bind fun u4=>
   cond (u4.1.1==t1)
    (if(0:Int)<=t6/\t6<(AL.length:Int)then(
    if b1.length+1<=C_ then(
    R3 t1 (AW (t6+1)) AL AF Aa (b1++[((AL.getD (t6.toNat) (0,0,false,[],())).1,(AL.getD (t6.toNat) (0,0,false,[],())).2.1,(AL.getD (t6.toNat) (0,0,false,[],())).2.2.1,(AL.getD (t6.toNat) (0,0,false,[],())).2.2.2.1,())]))else none)else none)
   (R3 t1 (AW (t6+1)) AL AF Aa b1))else none)
  (some (((),()),(b1,()))))
 (some (((),()),(b1,())))
def Ji:Nat->U0
 |0=>fun _ _ _ _ _ _=>none
 |n+1=>Qf (Ji n)
def W3(R3:U0)(p0:ACd)(p1:Int):Option GC:=
 R3 p1 0 p0.1 p0.2.1 p0.2.2.1 []
def JW(p0:ACd)(p1:Int):Option GC:=W3 (Ji AZ) p0 p1
abbrev F9:Type:=AFN×AEQ
abbrev U7:Type:=ABJ->Int->List Int->Int->Int->Int->List Int->ABJ->Bool->List AAB->Int->Int->Bool->List Int->ABJ->List AAB->Int->Int->Bool->List Int->ABJ->List AAB->Option F9
def Wh(R6:U7)(t3:ABJ)(t11:Int)(AL:AAB)(AF BT Au:Int)(Da:AAB)(HP:ABJ)(ND:Bool)(DZ:List AAB)(JN LZ:Int)(Qd:Bool)(b3:AAB)(b4:ABJ)(b5:List AAB)(Lr Ka:Int)(Ls:Bool)(b7:AAB)(b8:ABJ)(b9:List AAB):Option F9:=
 cond ((decide (t11<(t3.length:Int))))
  (if(0:Int)<=t11/\t11<(t3.length:Int)then(
  (C1 ((t3.getD (t11.toNat) (0,0,false,[],())).1)).bind fun u6=>
  cond (u6.1.1==Au)
   (if(0:Int)<=t11/\t11<(t3.length:Int)then(
   (Rz b8 ((t3.getD (t11.toNat) (0,0,false,[],())).1,(t3.getD (t11.toNat) (0,0,false,[],())).2.1,(t3.getD (t11.toNat) (0,0,false,[],())).2.2.1,(t3.getD (t11.toNat) (0,0,false,[],())).2.2.2.1,())).bind fun u7=>
   R6 t3 (AW (t11+1)) AL AF BT Au Da HP ND DZ JN LZ Qd b3 b4 b5 Lr Ka Ls b7 u7.2.1 b9)else none)
  (R6 t3 (AW (t11+1)) AL AF BT Au Da HP ND DZ JN LZ Qd b3 b4 b5 Lr Ka Ls b7 b8 b9))else none)
 (cond (ND)
  ((Ef (BT,Au,Da,HP,ND,DZ,())).bind fun u8=>
  some ((((u8.1.1.1,u8.1.1.2.1,(),(),u8.1.1.2.2.2.2.1,(),()),false,()),()),(u8.2.1,u8.2.2.1,u8.2.2.2.1,())))
 ((JO (AL,AF,()) (Lr,Ka,b7,b8,Ls,b9,())).bind fun u9=>
 cond (!u9.1.1)
  ((Ef (BT,Au,Da,HP,ND,DZ,())).bind fun EI=>
  some ((((EI.1.1.1,EI.1.1.2.1,(),(),EI.1.1.2.2.2.2.1,(),()),false,()),()),(EI.2.1,EI.2.2.1,EI.2.2.2.1,())))
 (some ((((Lr,Ka,(),(),Ls,(),()),true,()),()),(b7,b8,b9,())))))
def MX:Nat->U7
 |0=>fun _ _ _ _ _ _ _ _ _ _ _ _ _ _ _ _ _ _ _ _ _ _=>none
 |n+1=>Wh (MX n)
def Wj(R6:U7)(p0:ABS)(p1:ABY)(p2:Int)(p3:ABJ):Option F9:=
 (JO (p0.1,p0.2.1,()) (p1.1,p1.2.1,p1.2.2.1,p1.2.2.2.1,p1.2.2.2.2.1,p1.2.2.2.2.2.1,())).bind fun u1=>
 cond (!u1.1.1)
  (some ((((0,0,(),(),false,(),()),false,()),()),([],[],[],())))
 ((Ef (p1.1,p1.2.1,p1.2.2.1,p1.2.2.2.1,p1.2.2.2.2.1,p1.2.2.2.2.2.1,())).bind fun u2=>
 (Iv u2.2.1 p2).bind fun u3=>
 R6 p3 0 p0.1 p0.2.1 p1.1 p1.2.1 p1.2.2.1 p1.2.2.2.1 p1.2.2.2.2.1 p1.2.2.2.2.2.1 0 0 false [] [] [] u2.1.1.1 u2.1.1.2.1 u2.1.1.2.2.2.2.1 u3.2.1 u2.2.2.1 u2.2.2.2.1)
def JY(p0:ABS)(p1:ABY)(p2:Int)(p3:ABJ):Option F9:=Wj (MX AZ) p0 p1 p2 p3
abbrev qw:Type:=AED×AEE
def XE(Bz B6:Int)(BG:Bool)(p1:ADe)(b0:AAB)(b1:AAQ)(b2:AAB)(b3:AAH)(b4:AAj)(b5:AA6)(b6:ABA)(b7:AAT):Option qw:=
 cond (((b5.length:Int)==0))
  (some (((((),Bz,(),(),(),B6,(),(),(),(),BG,()),2,()),()),(b0,b1,b2,b3,b4,b5,b6,b7,())))
 (if(0:Int)<=(0:Int)/\(0:Int)<(b5.length:Int)then(
 (H7 (b0,Bz,b1,b2,b3,B6,b4,b5,b6,b7,BG,()) p1.2.1).bind fun u2=>
 cond (u2.1.1 !=0)
  (some (((((),Bz,(),(),(),B6,(),(),(),(),BG,()),u2.1.1,()),()),(b0,b1,b2,b3,b4,b5,b6,b7,())))
 ((CS (b3,B6,()) ((b5.getD 0 (0,0,[],[],false,[],())).2.1)).bind fun u4=>
 (DA u4.2.1 p1.2.1).bind fun u5=>
 cond (!u5.1.1)
  (some (((((),Bz,(),(),(),B6,(),(),(),(),BG,()),2,()),()),(b0,b1,b2,b3,b4,b5,b6,b7,())))
 (if(0:Int)<=p1.2.1/\p1.2.1<(b1.length:Int)then(
 (PT ((b1.getD (p1.2.1.toNat) ([],[],0,())).1,(b1.getD (p1.2.1.toNat) ([],[],0,())).2.1,(b1.getD (p1.2.1.toNat) ([],[],0,())).2.2.1,()) (AW (((b5.getD 0 (0,0,[],[],false,[],())).1)-1))).bind fun u7=>
 (JW (u7.2.1,u7.2.2.1,u7.1.1.1.2.2.1,()) ((b5.getD 0 (0,0,[],[],false,[],())).2.1)).bind fun u9=>
 (JY (b0,Bz,()) ((b5.getD 0 (0,0,[],[],false,[],())).1,(b5.getD 0 (0,0,[],[],false,[],())).2.1,(b5.getD 0 (0,0,[],[],false,[],())).2.2.1,(b5.getD 0 (0,0,[],[],false,[],())).2.2.2.1,(b5.getD 0 (0,0,[],[],false,[],())).2.2.2.2.1,(b5.getD 0 (0,0,[],[],false,[],())).2.2.2.2.2.1,()) p1.2.1 u9.2.1).bind fun EI=>
 cond (!u7.1.1.2.1)
  (some (((((),Bz,(),(),(),B6,(),(),(),(),BG,()),4,()),()),(b0,b1,b2,b3,b4,b5,b6,b7,())))
 (cond (!EI.1.1.2.1)
  (some (((((),Bz,(),(),(),B6,(),(),(),(),BG,()),4,()),()),(b0,b1,b2,b3,b4,b5,b6,b7,())))
 (if(0:Int)<=p1.2.1/\p1.2.1<(b1.length:Int)then(
 if(0:Int)<=(0:Int)/\(0:Int)<(b5.length:Int)then(
 some (((((),Bz,(),(),(),B6,(),(),(),(),BG,()),0,()),()),(b0,(b1.set (p1.2.1.toNat) (u7.2.1,u7.2.2.1,u7.1.1.1.2.2.1,())),b2,b3,b4,(b5.set 0 (EI.1.1.1.1,EI.1.1.1.2.1,EI.2.1,EI.2.2.1,EI.1.1.1.2.2.2.2.1,EI.2.2.2.1,())),b6,b7,())))else none)else none)))else none)))else none)
abbrev tP:Type:=ADI×ADM
def LI(p0 p1:AAB):Option tP:=
 (IQ p0 p1).bind fun u1=>
 (IQ p0 u1.2.1).bind fun u2=>
 some (((),()),(u2.2.1,()))
abbrev tC:Type:=ABi×Unit
def K6(p0:ABS)(p1 p2:AAB):Option tC:=
 (FD (p0.1,p0.2.1,()) p1).bind fun u1=>
 cond (!u1.1.1)
  (some ((false,()),()))
 ((G4 (p0.1,p0.2.1,()) p2).bind fun u2=>
 cond (!u2.1.1)
  (some ((false,()),()))
 ((IQ p2 p1).bind fun u3=>
 cond (decide ((u3.2.1.length:Int)>0))
  (some ((false,()),()))
 ((IQ p1 p2).bind fun u5=>
 (V5 (p0.1,p0.2.1,()) u5.2.1).bind fun u6=>
 some (((decide (u6.1.1<p0.2.1)),()),()))))
abbrev F_:Type:=AFN×AEQ
abbrev Uz:Type:=Int->Int->Int->List Int->ABJ->Bool->List AAB->Int->Int->Bool->List Int->ABJ->List AAB->Int->Int->Bool->List Int->ABJ->List AAB->Option F_
def W0(R8:Uz)(t9 AL AF:Int)(Aa:AAB)(Ck:ABJ)(DO:Bool)(Ab:List AAB)(BT Au:Int)(ND:Bool)(b2:AAB)(b3:ABJ)(b4:List AAB)(AGm AFV:Int)(AGh:Bool)(b6:AAB)(b7:ABJ)(b8:List AAB):Option F_:=
 (SX (AL,AF,Aa,Ck,DO,Ab,())).bind fun u5=>
 cond (decide (t9<u5.1.1))
  (if b8.length+1<=C_ then(
  R8 (AW (t9+1)) AL AF Aa Ck DO Ab BT Au ND b2 b3 b4 AGm AFV AGh b6 b7 (b8++[[]]))else none)
 (some ((((AGm,AFV,(),(),AGh,(),()),true,()),()),(b6,b7,b8,())))
def Ms:Nat->Uz
 |0=>fun _ _ _ _ _ _ _ _ _ _ _ _ _ _ _ _ _ _ _=>none
 |n+1=>W0 (Ms n)
def Ww(R8:Uz)(p0:ABS)(p1:ABY)(p2:AAB):Option F_:=
 (JO (p0.1,p0.2.1,()) (p1.1,p1.2.1,p1.2.2.1,p1.2.2.2.1,p1.2.2.2.2.1,p1.2.2.2.2.2.1,())).bind fun u1=>
 cond (!u1.1.1)
  (some ((((0,0,(),(),false,(),()),false,()),()),([],[],[],())))
 ((Ef (p1.1,p1.2.1,p1.2.2.1,p1.2.2.2.1,p1.2.2.2.2.1,p1.2.2.2.2.2.1,())).bind fun u2=>
 cond (p1.2.2.2.2.1)
  (some ((((u2.1.1.1,u2.1.1.2.1,(),(),u2.1.1.2.2.2.2.1,(),()),false,()),()),(u2.2.1,u2.2.2.1,u2.2.2.2.1,())))
 ((LI p1.2.2.1 p2).bind fun u3=>
 (K6 (p0.1,p0.2.1,()) p2 u3.2.1).bind fun u4=>
 cond (!u4.1.1)
  (some ((((u2.1.1.1,u2.1.1.2.1,(),(),u2.1.1.2.2.2.2.1,(),()),false,()),()),(u2.2.1,u2.2.2.1,u2.2.2.2.1,())))
 (R8 0 p1.1 p1.2.1 p1.2.2.1 p1.2.2.2.1 p1.2.2.2.2.1 p1.2.2.2.2.2.1 0 0 false [] [] [] u2.1.1.1 u2.1.1.2.1 true u2.2.1 u2.2.2.1 u2.2.2.2.1)))
def JS(p0:ABS)(p1:ABY)(p2:AAB):Option F_:=Ww (Ms AZ) p0 p1 p2
abbrev rT:Type:=AED×AEE
def XM(Bz B6:Int)(BG:Bool)(b0:AAB)(b1:AAQ)(b2:AAB)(b3:AAH)(b4:AAj)(b5:AA6)(b6:ABA)(b7:AAT):Option rT:=
 cond (((b5.length:Int)==0))
  (some (((((),Bz,(),(),(),B6,(),(),(),(),BG,()),2,()),()),(b0,b1,b2,b3,b4,b5,b6,b7,())))
 (if(0:Int)<=(0:Int)/\(0:Int)<(b5.length:Int)then(
 if(0:Int)<=(0:Int)/\(0:Int)<(b5.length:Int)then(
 (CS (b3,B6,()) ((b5.getD 0 (0,0,[],[],false,[],())).2.1)).bind fun u3=>
 (JS (b0,Bz,()) ((b5.getD 0 (0,0,[],[],false,[],())).1,(b5.getD 0 (0,0,[],[],false,[],())).2.1,(b5.getD 0 (0,0,[],[],false,[],())).2.2.1,(b5.getD 0 (0,0,[],[],false,[],())).2.2.2.1,(b5.getD 0 (0,0,[],[],false,[],())).2.2.2.2.1,(b5.getD 0 (0,0,[],[],false,[],())).2.2.2.2.2.1,()) u3.2.1).bind fun u4=>
 cond (!u4.1.1.2.1)
  (some (((((),Bz,(),(),(),B6,(),(),(),(),BG,()),4,()),()),(b0,b1,b2,b3,b4,b5,b6,b7,())))
 (if(0:Int)<=(0:Int)/\(0:Int)<(b5.length:Int)then(
 some (((((),Bz,(),(),(),B6,(),(),(),(),BG,()),0,()),()),(b0,b1,b2,b3,b4,(b5.set 0 (u4.1.1.1.1,u4.1.1.1.2.1,u4.2.1,u4.2.2.1,u4.1.1.1.2.2.2.2.1,u4.2.2.2.1,())),b6,b7,())))else none))else none)else none)
abbrev sx:Type:=AED×AEE
def Z8(Bz B6:Int)(BG:Bool)(p1:ADe)(b0:AAB)(b1:AAQ)(b2:AAB)(b3:AAH)(b4:AAj)(b5:AA6)(b6:ABA)(b7:AAT):Option sx:=
 cond (((b5.length:Int)==0))
  (some (((((),Bz,(),(),(),B6,(),(),(),(),BG,()),2,()),()),(b0,b1,b2,b3,b4,b5,b6,b7,())))
 (if(0:Int)<=(0:Int)/\(0:Int)<(b5.length:Int)then(
 (E_ ((b5.getD 0 (0,0,[],[],false,[],())).1,(b5.getD 0 (0,0,[],[],false,[],())).2.1,(b5.getD 0 (0,0,[],[],false,[],())).2.2.1,(b5.getD 0 (0,0,[],[],false,[],())).2.2.2.1,(b5.getD 0 (0,0,[],[],false,[],())).2.2.2.2.1,(b5.getD 0 (0,0,[],[],false,[],())).2.2.2.2.2.1,()) p1.2.2.1).bind fun u2=>
 cond (!u2.1.1.2.1)
  (some (((((),Bz,(),(),(),B6,(),(),(),(),BG,()),2,()),()),(b0,b1,b2,b3,b4,b5,b6,b7,())))
 ((H7 (b0,Bz,b1,b2,b3,B6,b4,b5,b6,b7,BG,()) p1.2.2.2.1).bind fun u3=>
 cond (u3.1.1 !=0)
  (some (((((),Bz,(),(),(),B6,(),(),(),(),BG,()),u3.1.1,()),()),(b0,b1,b2,b3,b4,b5,b6,b7,())))
 (if(0:Int)<=(0:Int)/\(0:Int)<(b5.length:Int)then(
 (CS (b3,B6,()) ((b5.getD 0 (0,0,[],[],false,[],())).2.1)).bind fun u5=>
 (DA u5.2.1 p1.2.2.2.1).bind fun u6=>
 cond (!u6.1.1)
  (some (((((),Bz,(),(),(),B6,(),(),(),(),BG,()),2,()),()),(b0,b1,b2,b3,b4,b5,b6,b7,())))
 (if(0:Int)<=p1.2.2.2.1/\p1.2.2.2.1<(b1.length:Int)then(
 (N5 ((b1.getD (p1.2.2.2.1.toNat) ([],[],0,())).1,(b1.getD (p1.2.2.2.1.toNat) ([],[],0,())).2.1,(b1.getD (p1.2.2.2.1.toNat) ([],[],0,())).2.2.1,()) (u2.1.1.1.1,u2.1.1.1.2.1,u2.1.1.1.2.2.1,u2.1.1.1.2.2.2.1,())).bind fun u7=>
 cond (!u7.1.1.2.1)
  (some (((((),Bz,(),(),(),B6,(),(),(),(),BG,()),4,()),()),(b0,b1,b2,b3,b4,b5,b6,b7,())))
 (if(0:Int)<=p1.2.2.2.1/\p1.2.2.2.1<(b1.length:Int)then(
 some (((((),Bz,(),(),(),B6,(),(),(),(),BG,()),0,()),()),(b0,(b1.set (p1.2.2.2.1.toNat) (u7.2.1,u7.2.2.1,u7.1.1.1.2.2.1,())),b2,b3,b4,b5,b6,b7,())))else none))else none))else none)))else none)
abbrev QC:Type:=ABi×Unit
abbrev T1:Type:=Int->List Int->Int->Int->Int->List Int->ABJ->Bool->List AAB->Option QC
def Vs(R4:T1)(t5:Int)(AL:AAB)(AF BT Au:Int)(Da:AAB)(HP:ABJ)(ND:Bool)(DZ:List AAB):Option QC:=
 cond ((decide (t5<(DZ.length:Int))))
  (if(0:Int)<=t5/\t5<(DZ.length:Int)then(
  (FD (AL,AF,()) (DZ.getD (t5.toNat) [])).bind fun u3=>
  cond (!u3.1.1)
   (some ((false,()),()))
  (R4 (AW (t5+1)) AL AF BT Au Da HP ND DZ))else none)
 (some ((true,()),()))
def K_:Nat->T1
 |0=>fun _ _ _ _ _ _ _ _ _=>none
 |n+1=>Vs (K_ n)
def WB(R4:T1)(p0:ABS)(p1:ABY):Option QC:=
 (JO (p0.1,p0.2.1,()) (p1.1,p1.2.1,p1.2.2.1,p1.2.2.2.1,p1.2.2.2.2.1,p1.2.2.2.2.2.1,())).bind fun u1=>
 cond (!u1.1.1)
  (some ((false,()),()))
 (cond (!p1.2.2.2.2.1)
  (some ((false,()),()))
 (R4 0 p0.1 p0.2.1 p1.1 p1.2.1 p1.2.2.1 p1.2.2.2.1 p1.2.2.2.2.1 p1.2.2.2.2.2.1))
def TA(p0:ABS)(p1:ABY):Option QC:=WB (K_ AZ) p0 p1
abbrev pC:Type:=AHk×AE2
def Q6(p0:ABS)(p1:ACc)(p2 p3:Int):Option pC:=
 (NS (p0.1,p0.2.1,()) (p1.1,p1.2.1,())).bind fun u1=>
 cond (!u1.1.1)
  (some (((((),0,()),false,()),()),([],())))
 ((GU (p1.1,p1.2.1,())).bind fun u2=>
 (Jy (p1.1,p1.2.1,())).bind fun u3=>
 cond ((p2 !=(p1.1.length:Int)))
  (some (((((),u2.1.1.2.1,()),false,()),()),(u2.2.1,())))
 (cond (u3.1.1==0)
  (some (((((),u2.1.1.2.1,()),false,()),()),(u2.2.1,())))
 (cond (p2==u3.1.1)
  (some (((((),u2.1.1.2.1,()),false,()),()),(u2.2.1,())))
 ((CU p3 0 60).bind fun u5=>
 cond (!u5.1.1)
  (some (((((),u2.1.1.2.1,()),false,()),()),(u2.2.1,())))
 (if(0:Int)<=AW (u3.1.1-1)/\AW (u3.1.1-1)<(u2.2.1.length:Int)then(
 let x6:AAH:=(u2.2.1.set ((AW (u3.1.1-1)).toNat) ((u2.2.1.getD ((AW (u3.1.1-1)).toNat) ([],false,0,())).1,true,(u2.2.1.getD ((AW (u3.1.1-1)).toNat) ([],false,0,())).2.2.1,()))
 if(0:Int)<=AW (u3.1.1-1)/\AW (u3.1.1-1)<(x6.length:Int)then(
 some (((((),u2.1.1.2.1,()),true,()),()),((x6.set ((AW (u3.1.1-1)).toNat) ((x6.getD ((AW (u3.1.1-1)).toNat) ([],false,0,())).1,(x6.getD ((AW (u3.1.1-1)).toNat) ([],false,0,())).2.1,p3,())),())))else none)else none)))))
abbrev de:Type:=AED×(List Int×AAQ×List Int×Unit×AAj×Unit×ABA×AAT×AAH×AA6×Unit)
def VF(Bz B6:Int)(BG:Bool)(b0:AAB)(b1:AAQ)(b2:AAB)(b3:AAH)(b4:AAj)(b5:AA6)(b6:ABA)(b7:AAT):Option de:=
 cond (((b5.length:Int)==0))
  (some (((((),Bz,(),(),(),B6,(),(),(),(),BG,()),2,()),()),(b0,b1,b2,(),b4,(),b6,b7,b3,b5,())))
 (if(0:Int)<=(0:Int)/\(0:Int)<(b5.length:Int)then(
 (TA (b0,Bz,()) ((b5.getD 0 (0,0,[],[],false,[],())).1,(b5.getD 0 (0,0,[],[],false,[],())).2.1,(b5.getD 0 (0,0,[],[],false,[],())).2.2.1,(b5.getD 0 (0,0,[],[],false,[],())).2.2.2.1,(b5.getD 0 (0,0,[],[],false,[],())).2.2.2.2.1,(b5.getD 0 (0,0,[],[],false,[],())).2.2.2.2.2.1,())).bind fun u2=>
 cond (!u2.1.1)
  (some (((((),Bz,(),(),(),B6,(),(),(),(),BG,()),5,()),()),(b0,b1,b2,(),b4,(),b6,b7,b3,b5,())))
 (if(0:Int)<=(0:Int)/\(0:Int)<(b5.length:Int)then(
 if(0:Int)<=(0:Int)/\(0:Int)<(b5.length:Int)then(
 (Q6 (b0,Bz,()) (b3,B6,()) ((b5.getD 0 (0,0,[],[],false,[],())).1) (((b5.getD 0 (0,0,[],[],false,[],())).2.2.2.2.2.1).length:Int)).bind fun u5=>
 cond (!u5.1.1.2.1)
  (some (((((),Bz,(),(),(),B6,(),(),(),(),BG,()),4,()),()),(b0,b1,b2,(),b4,(),b6,b7,b3,b5,())))
 (some (((((),Bz,(),(),(),u5.1.1.1.2.1,(),(),(),(),BG,()),0,()),()),(b0,b1,b2,(),b4,(),b6,b7,u5.2.1,[],()))))else none)else none))else none)
abbrev sI:Type:=AHk×AE2
def TQ(p0:ABS)(p1:ACc)(p2:Int):Option sI:=
 (NS (p0.1,p0.2.1,()) (p1.1,p1.2.1,())).bind fun u1=>
 cond (!u1.1.1)
  (some (((((),0,()),false,()),()),([],())))
 ((GU (p1.1,p1.2.1,())).bind fun u2=>
 (H4 p2).bind fun u3=>
 cond (!u3.1.1)
  (some (((((),u2.1.1.2.1,()),false,()),()),(u2.2.1,())))
 ((C1 p2).bind fun u4=>
 cond ((decide (u4.1.1>(p1.1.length:Int))))
  (some (((((),u2.1.1.2.1,()),false,()),()),(u2.2.1,())))
 ((Fe u2.1.1.2.1 p2).bind fun u6=>
 some (((((),u6.1.1,()),true,()),()),(u2.2.1,())))))
abbrev Oy:Type:=ABq×Unit
abbrev Rk:Type:=Int->Int->ACG->Option Oy
def UE(R2:Rk)(t3 AL:Int)(AF:ACG):Option Oy:=
 cond ((decide (t3<(AF.length:Int))))
  (if(0:Int)<=t3/\t3<(AF.length:Int)then(
  cond (((AF.getD (t3.toNat) ([],[],false,())).2.2.1))
   (R2 (AW (t3+1)) AL AF)
  (some ((t3,()),())))else none)
 (some ((t3,()),()))
def J5:Nat->Rk
 |0=>fun _ _ _=>none
 |n+1=>UE (J5 n)
def eO(R2:Rk)(p0:ACi):Option Oy:=
 R2 0 p0.1 p0.2.1
def Wa(p0:ACi):Option Oy:=eO (J5 AZ) p0
abbrev VE:Type:=ABq×Unit
abbrev Y_:Type:=Int->Int->List Int->Int->AAQ->List Int->AAH->Int->AAj->AA6->ABA->AAT->Bool->Option VE
def Zl(R2:Y_)(t1 t5:Int)(AL:AAB)(AF:Int)(Aa:AAQ)(Ck:AAB)(DO:AAH)(Ab:Int)(DI:AAj)(DC:AA6)(D_:ABA)(EG:AAT)(AM:Bool):Option VE:=
 cond ((decide (t5<(DI.length:Int))))
  (if(0:Int)<=t5/\t5<(DI.length:Int)then(
  cond (((DI.getD (t5.toNat) (0,[],())).1)==t1)
   (if(0:Int)<=t5/\t5<(DI.length:Int)then(
   (Wa ((DI.getD (t5.toNat) (0,[],())).1,(DI.getD (t5.toNat) (0,[],())).2.1,())).bind fun u3=>
   some ((u3.1.1,()),()))else none)
  (R2 t1 (AW (t5+1)) AL AF Aa Ck DO Ab DI DC D_ EG AM))else none)
 (some ((0,()),()))
def Pk:Nat->Y_
 |0=>fun _ _ _ _ _ _ _ _ _ _ _ _ _=>none
 |n+1=>Zl (Pk n)
def lE(R2:Y_)(p0:ABl)(p1:Int):Option VE:=
 R2 p1 0 p0.1 p0.2.1 p0.2.2.1 p0.2.2.2.1 p0.2.2.2.2.1 p0.2.2.2.2.2.1 p0.2.2.2.2.2.2.1 p0.2.2.2.2.2.2.2.1 p0.2.2.2.2.2.2.2.2.1 p0.2.2.2.2.2.2.2.2.2.1 p0.2.2.2.2.2.2.2.2.2.2.1
def fk(p0:ABl)(p1:Int):Option VE:=lE (Pk AZ) p0 p1
abbrev Oz:Type:=ADI×(ADT×Unit)
abbrev RY:Type:=Int->List Int->Int->AAQ->List Int->AAH->Int->AAj->AA6->ABA->AAT->Bool->Int->Int->AEF->ADT->List Int->Option Oz
def UP(R4:RY)(t9:Int)(AL:AAB)(AF:Int)(Aa:AAQ)(Ck:AAB)(DO:AAH)(Ab:Int)(DI:AAj)(DC:AA6)(D_:ABA)(EG:AAT)(AM:Bool)(BT Au:Int)(Da:AEF)(b2:ADT)(b3:AAB):Option Oz:=
 cond ((decide (t9<(b3.length:Int))))
  (if(0:Int)<=t9/\t9<(b3.length:Int)then(
  (H7 (AL,AF,Aa,Ck,DO,Ab,DI,DC,D_,EG,AM,()) (b3.getD (t9.toNat) 0)).bind fun u4=>
  cond (u4.1.1 !=0)
   (R4 (AW (t9+1)) AL AF Aa Ck DO Ab DI DC D_ EG AM BT Au Da b2 b3)
  (if(0:Int)<=t9/\t9<(b3.length:Int)then(
  let x5:Int:=(b3.getD (t9.toNat) 0)
  if(0:Int)<=x5/\x5<(Aa.length:Int)then(
  (Ci BT Au).bind fun u6=>
  (Hm ((Aa.getD (x5.toNat) ([],[],0,())).1) u6.1.1).bind fun u7=>
  if(0:Int)<=t9/\t9<(b3.length:Int)then(
  if b2.length+1<=C_ then(
  R4 (AW (t9+1)) AL AF Aa Ck DO Ab DI DC D_ EG AM BT Au Da (b2++[((b3.getD (t9.toNat) 0),u7.1.1.2.1,u7.1.1.1.1,u7.1.1.1.2.1,u7.1.1.1.2.2.1,u7.1.1.1.2.2.2.1,())]) b3)else none)else none)else none)else none))else none)
 (some (((),()),(b2,())))
def J4:Nat->RY
 |0=>fun _ _ _ _ _ _ _ _ _ _ _ _ _ _ _ _ _=>none
 |n+1=>UP (J4 n)
def UJ(R4:RY)(p0:ABl)(p1:AEA)(p2:Int):Option Oz:=
 (PZ p2).bind fun u1=>
 R4 0 p0.1 p0.2.1 p0.2.2.1 p0.2.2.2.1 p0.2.2.2.2.1 p0.2.2.2.2.2.1 p0.2.2.2.2.2.2.1 p0.2.2.2.2.2.2.2.1 p0.2.2.2.2.2.2.2.2.1 p0.2.2.2.2.2.2.2.2.2.1 p0.2.2.2.2.2.2.2.2.2.2.1 p1.1 p1.2.1 p1.2.2.1 [] u1.2.1
def RQ(p0:ABl)(p1:AEA)(p2:Int):Option Oz:=UJ (J4 AZ) p0 p1 p2
abbrev RO:Type:=((Unit×Bool×Unit)×Unit)×ADM
abbrev U6:Type:=ADT->Int->List Int->Int->List Int->Option RO
def Wz(R3:U6)(t1:ADT)(t7:Int)(AL:AAB)(AF:Int)(b1:AAB):Option RO:=
 cond ((decide (t7<(t1.length:Int))))
  (if(0:Int)<=t7/\t7<(t1.length:Int)then(
  if b1.length+1<=C_ then(
  R3 t1 (AW (t7+1)) AL AF (b1++[((t1.getD (t7.toNat) (0,false,0,0,false,[],())).1)]))else none)else none)
 ((G4 (AL,AF,()) b1).bind fun u3=>
 some ((((),u3.1.1,()),()),(b1,())))
def Mc:Nat->U6
 |0=>fun _ _ _ _ _=>none
 |n+1=>Wz (Mc n)
def gn(R3:U6)(p0:ABS)(p1:ADT):Option RO:=
 R3 p1 0 p0.1 p0.2.1 []
def aL(p0:ABS)(p1:ADT):Option RO:=gn (Mc AZ) p0 p1
abbrev sC:Type:=AGn×AGt
def JJ(p0:AEA)(p1:AHi)(p2 p3:Int):Option sC:=
 (CX (p0.1,p0.2.1,p0.2.2.1,())).bind fun u1=>
 if u1.2.1.length+1<=C_ then(
 some (((p2,p3,(),()),()),((u1.2.1++[(p1.1,p1.2.1,p1.2.2.1,())]),())))else none
abbrev TT:Type:=(AHi×Unit)×Unit
abbrev WN:Type:=List Int->Int->ADT->Bool->Int->Int->Int->List UInt8->Int->Int->Bool->List UInt8->Option TT
def ZA(R4:WN)(t0:AAB)(t1:Int)(t2:ADT)(t8:Bool)(t9 AL AF:Int)(Aa:ACH)(BT Au:Int)(Da:Bool)(HP:ACH):Option TT:=
 cond ((decide (t9<(t2.length:Int))))
  (if(0:Int)<=t9/\t9<(t2.length:Int)then(
  cond (!((t2.getD (t9.toNat) (0,false,0,0,false,[],())).2.1))
   (R4 t0 t1 t2 t8 (AW (t9+1)) AL AF Aa BT Au Da HP)
  ((DA t0 ((t2.getD (t9.toNat) (0,false,0,0,false,[],())).1)).bind fun u4=>
  cond (!u4.1.1)
   (R4 t0 t1 t2 t8 (AW (t9+1)) AL AF Aa BT Au Da HP)
  ((Mz ((t2.getD (t9.toNat) (0,false,0,0,false,[],())).2.2.1,(t2.getD (t9.toNat) (0,false,0,0,false,[],())).2.2.2.1,(t2.getD (t9.toNat) (0,false,0,0,false,[],())).2.2.2.2.1,(t2.getD (t9.toNat) (0,false,0,0,false,[],())).2.2.2.2.2.1,())).bind fun u5=>
  cond (!u5.1.1)
   (R4 t0 t1 t2 t8 (AW (t9+1)) AL AF Aa BT Au Da HP)
  (cond (((t2.getD (t9.toNat) (0,false,0,0,false,[],())).2.2.1) !=t1)
   (R4 t0 t1 t2 t8 (AW (t9+1)) AL AF Aa BT Au Da HP)
  (cond (!t8)
   ((Sc ((t2.getD (t9.toNat) (0,false,0,0,false,[],())).2.2.1,(t2.getD (t9.toNat) (0,false,0,0,false,[],())).2.2.2.1,(t2.getD (t9.toNat) (0,false,0,0,false,[],())).2.2.2.2.1,(t2.getD (t9.toNat) (0,false,0,0,false,[],())).2.2.2.2.2.1,()) ((t2.getD (t9.toNat) (0,false,0,0,false,[],())).2.2.1,(t2.getD (t9.toNat) (0,false,0,0,false,[],())).2.2.2.1,(t2.getD (t9.toNat) (0,false,0,0,false,[],())).2.2.2.2.1,(t2.getD (t9.toNat) (0,false,0,0,false,[],())).2.2.2.2.2.1,())).bind fun u7=>
   R4 t0 t1 t2 true (AW (t9+1)) AL AF Aa u7.1.1.1 u7.1.1.2.1 u7.1.1.2.2.1 u7.1.1.2.2.2.1)
  ((Sc (BT,Au,Da,HP,()) ((t2.getD (t9.toNat) (0,false,0,0,false,[],())).2.2.1,(t2.getD (t9.toNat) (0,false,0,0,false,[],())).2.2.2.1,(t2.getD (t9.toNat) (0,false,0,0,false,[],())).2.2.2.2.1,(t2.getD (t9.toNat) (0,false,0,0,false,[],())).2.2.2.2.2.1,())).bind fun u8=>
  R4 t0 t1 t2 true (AW (t9+1)) AL AF Aa u8.1.1.1 u8.1.1.2.1 u8.1.1.2.2.1 u8.1.1.2.2.2.1))))))else none)
 (cond (!t8)
  (some (((3,t1,[],()),()),()))
 (cond (Da)
  (some (((2,t1,[],()),()),()))
 (some (((1,t1,HP,()),()),()))))
def Nb:Nat->WN
 |0=>fun _ _ _ _ _ _ _ _ _ _ _ _=>none
 |n+1=>ZA (Nb n)
def jD(R4:WN)(p0:AAB)(p1:Int)(p2:ADT):Option TT:=
 R4 p0 p1 p2 false 0 0 0 [] 0 0 false []
def Mx(p0:AAB)(p1:Int)(p2:ADT):Option TT:=jD (Nb AZ) p0 p1 p2
abbrev Zq:Type:=(AKZ×Unit)×AGt
def RD(p0:ABS)(p1:ACc)(p2:Int)(p3:AEA)(p4:ADT):Option Zq:=
 (aL (p0.1,p0.2.1,()) p4).bind fun u1=>
 (NS (p0.1,p0.2.1,()) (p1.1,p1.2.1,())).bind fun u2=>
 cond (!u2.1.1)
  (some ((((0,0,(),()),1,()),()),([],())))
 ((Nx (p3.1,p3.2.1,p3.2.2.1,())).bind fun u3=>
 cond (!u3.1.1)
  (some ((((0,0,(),()),1,()),()),([],())))
 (cond (!u1.1.1.2.1)
  (some ((((0,0,(),()),1,()),()),([],())))
 (cond ((decide (p3.1>(p1.1.length:Int))))
  ((CX (p3.1,p3.2.1,p3.2.2.1,())).bind fun u5=>
  some ((((u5.1.1.1,u5.1.1.2.1,(),()),2,()),()),(u5.2.1,())))
 (cond ((p3.2.2.1.length:Int)==120)
  ((CX (p3.1,p3.2.1,p3.2.2.1,())).bind fun u7=>
  some ((((u7.1.1.1,u7.1.1.2.1,(),()),2,()),()),(u7.2.1,())))
 (if(0:Int)<=AW (p3.1-1)/\AW (p3.1-1)<(p1.1.length:Int)then(
 (Ci p3.1 p3.2.1).bind fun u8=>
 cond ((decide (p1.2.1>=u8.1.1)))
  ((C1 p1.2.1).bind fun EI=>
  (Hp p1.2.1).bind fun Mv=>
  (JJ (p3.1,p3.2.1,p3.2.2.1,()) (5,p1.2.1,[],()) EI.1.1 (AW (Mv.1.1+1))).bind fun Dw=>
  some ((((Dw.1.1.1,Dw.1.1.2.1,(),()),0,()),()),(Dw.2.1,())))
 (cond (((p1.1.getD ((AW (p3.1-1)).toNat) ([],false,0,())).2.1))
  (cond ((decide (p3.2.1>((p1.1.getD ((AW (p3.1-1)).toNat) ([],false,0,())).2.2.1))))
   ((JJ (p3.1,p3.2.1,p3.2.2.1,()) (4,AW (p3.1+1),[],()) (AW (p3.1+1)) 1).bind fun u16=>
   some ((((u16.1.1.1,u16.1.1.2.1,(),()),0,()),()),(u16.2.1,())))
  (cond (!((p1.1.getD ((AW (p3.1-1)).toNat) ([],false,0,())).2.1))
   (cond (decide (p3.2.1>p2))
    ((CX (p3.1,p3.2.1,p3.2.2.1,())).bind fun QR=>
    some ((((QR.1.1.1,QR.1.1.2.1,(),()),2,()),()),(QR.2.1,())))
   (cond (decide (p3.2.1>60))
    ((CX (p3.1,p3.2.1,p3.2.2.1,())).bind fun ZP=>
    some ((((ZP.1.1.1,ZP.1.1.2.1,(),()),2,()),()),(ZP.2.1,())))
   ((LI u1.2.1 ((p1.1.getD ((AW (p3.1-1)).toNat) ([],false,0,())).1)).bind fun Lt=>
   (K6 (p0.1,p0.2.1,()) ((p1.1.getD ((AW (p3.1-1)).toNat) ([],false,0,())).1) Lt.2.1).bind fun Wo=>
   cond (!Wo.1.1)
    ((CX (p3.1,p3.2.1,p3.2.2.1,())).bind fun u22=>
    some ((((u22.1.1.1,u22.1.1.2.1,(),()),3,()),()),(u22.2.1,())))
   ((Mx ((p1.1.getD ((AW (p3.1-1)).toNat) ([],false,0,())).1) u8.1.1 p4).bind fun aq=>
   (JJ (p3.1,p3.2.1,p3.2.2.1,()) (aq.1.1.1,aq.1.1.2.1,aq.1.1.2.2.1,()) p3.1 (AW (p3.2.1+1))).bind fun HS=>
   some ((((HS.1.1.1,HS.1.1.2.1,(),()),0,()),()),(HS.2.1,()))))))
  (cond (decide (p3.2.1>60))
   ((CX (p3.1,p3.2.1,p3.2.2.1,())).bind fun WG=>
   some ((((WG.1.1.1,WG.1.1.2.1,(),()),2,()),()),(WG.2.1,())))
  ((LI u1.2.1 ((p1.1.getD ((AW (p3.1-1)).toNat) ([],false,0,())).1)).bind fun iF=>
  (K6 (p0.1,p0.2.1,()) ((p1.1.getD ((AW (p3.1-1)).toNat) ([],false,0,())).1) iF.2.1).bind fun QK=>
  cond (!QK.1.1)
   ((CX (p3.1,p3.2.1,p3.2.2.1,())).bind fun Pr=>
   some ((((Pr.1.1.1,Pr.1.1.2.1,(),()),3,()),()),(Pr.2.1,())))
  ((Mx ((p1.1.getD ((AW (p3.1-1)).toNat) ([],false,0,())).1) u8.1.1 p4).bind fun T_=>
  (JJ (p3.1,p3.2.1,p3.2.2.1,()) (T_.1.1.1,T_.1.1.2.1,T_.1.1.2.2.1,()) p3.1 (AW (p3.2.1+1))).bind fun pB=>
  some ((((pB.1.1.1,pB.1.1.2.1,(),()),0,()),()),(pB.2.1,())))))))
 (cond (!((p1.1.getD ((AW (p3.1-1)).toNat) ([],false,0,())).2.1))
  (cond (decide (p3.2.1>p2))
   ((CX (p3.1,p3.2.1,p3.2.2.1,())).bind fun u32=>
   some ((((u32.1.1.1,u32.1.1.2.1,(),()),2,()),()),(u32.2.1,())))
  (cond (decide (p3.2.1>60))
   ((CX (p3.1,p3.2.1,p3.2.2.1,())).bind fun bV=>
   some ((((bV.1.1.1,bV.1.1.2.1,(),()),2,()),()),(bV.2.1,())))
  ((LI u1.2.1 ((p1.1.getD ((AW (p3.1-1)).toNat) ([],false,0,())).1)).bind fun vU=>
  (K6 (p0.1,p0.2.1,()) ((p1.1.getD ((AW (p3.1-1)).toNat) ([],false,0,())).1) vU.2.1).bind fun u35=>
  cond (!u35.1.1)
   ((CX (p3.1,p3.2.1,p3.2.2.1,())).bind fun u36=>
   some ((((u36.1.1.1,u36.1.1.2.1,(),()),3,()),()),(u36.2.1,())))
  ((Mx ((p1.1.getD ((AW (p3.1-1)).toNat) ([],false,0,())).1) u8.1.1 p4).bind fun oF=>
  (JJ (p3.1,p3.2.1,p3.2.2.1,()) (oF.1.1.1,oF.1.1.2.1,oF.1.1.2.2.1,()) p3.1 (AW (p3.2.1+1))).bind fun p7=>
  some ((((p7.1.1.1,p7.1.1.2.1,(),()),0,()),()),(p7.2.1,()))))))
 (cond (decide (p3.2.1>60))
  ((CX (p3.1,p3.2.1,p3.2.2.1,())).bind fun n_=>
  some ((((n_.1.1.1,n_.1.1.2.1,(),()),2,()),()),(n_.2.1,())))
 ((LI u1.2.1 ((p1.1.getD ((AW (p3.1-1)).toNat) ([],false,0,())).1)).bind fun u40=>
 (K6 (p0.1,p0.2.1,()) ((p1.1.getD ((AW (p3.1-1)).toNat) ([],false,0,())).1) u40.2.1).bind fun u41=>
 cond (!u41.1.1)
  ((CX (p3.1,p3.2.1,p3.2.2.1,())).bind fun sj=>
  some ((((sj.1.1.1,sj.1.1.2.1,(),()),3,()),()),(sj.2.1,())))
 ((Mx ((p1.1.getD ((AW (p3.1-1)).toNat) ([],false,0,())).1) u8.1.1 p4).bind fun u43=>
 (JJ (p3.1,p3.2.1,p3.2.2.1,()) (u43.1.1.1,u43.1.1.2.1,u43.1.1.2.2.1,()) p3.1 (AW (p3.2.1+1))).bind fun u44=>
 some ((((u44.1.1.1,u44.1.1.2.1,(),()),0,()),()),(u44.2.1,()))))))))else none)))))
abbrev sD:Type:=AED×AEE
def XO(Bz B6:Int)(BG:Bool)(p1:ADe)(b0:AAB)(b1:AAQ)(b2:AAB)(b3:AAH)(b4:AAj)(b5:AA6)(b6:ABA)(b7:AAT):Option sD:=
 (CU p1.2.1 0 1).bind fun u1=>
 cond (!u1.1.1)
  (some (((((),Bz,(),(),(),B6,(),(),(),(),BG,()),2,()),()),(b0,b1,b2,b3,b4,b5,b6,b7,())))
 (if(0:Int)<=p1.2.1/\p1.2.1<(b6.length:Int)then(
 if(0:Int)<=p1.2.1/\p1.2.1<(b6.length:Int)then(
 if(0:Int)<=p1.2.1/\p1.2.1<(b6.length:Int)then(
 (fk (b0,Bz,b1,b2,b3,B6,b4,b5,b6,b7,BG,()) ((b6.getD (p1.2.1.toNat) (0,0,[],())).1)).bind fun u3=>
 (RQ (b0,Bz,b1,b2,b3,B6,b4,b5,b6,b7,BG,()) ((b6.getD (p1.2.1.toNat) (0,0,[],())).1,(b6.getD (p1.2.1.toNat) (0,0,[],())).2.1,(b6.getD (p1.2.1.toNat) (0,0,[],())).2.2.1,()) p1.2.2.1).bind fun u4=>
 (RD (b0,Bz,()) (b3,B6,()) u3.1.1 ((b6.getD (p1.2.1.toNat) (0,0,[],())).1,(b6.getD (p1.2.1.toNat) (0,0,[],())).2.1,(b6.getD (p1.2.1.toNat) (0,0,[],())).2.2.1,()) u4.2.1).bind fun u5=>
 cond (u5.1.1.2.1 !=0)
  (some (((((),Bz,(),(),(),B6,(),(),(),(),BG,()),5,()),()),(b0,b1,b2,b3,b4,b5,b6,b7,())))
 (if(0:Int)<=p1.2.1/\p1.2.1<(b6.length:Int)then(
 some (((((),Bz,(),(),(),B6,(),(),(),(),BG,()),0,()),()),(b0,b1,b2,b3,b4,b5,(b6.set (p1.2.1.toNat) (u5.1.1.1.1,u5.1.1.1.2.1,u5.2.1,())),b7,())))else none))else none)else none)else none)
abbrev Pb:Type:=AED×(List Int×AAQ×List Int×AAH×Unit×AA6×ABA×AAT×AAj×Unit)
abbrev WL:Type:=Int->List Int->AAQ->List Int->AAH->AAj->AA6->ABA->AAT->Int->Int->Bool->Int->Int->Int->Int->List UInt8->Int->Int->Bool->List Int->AAQ->List Int->AAH->AAj->AA6->ABA->AAT->AAj->Option Pb
def YJ(R5:WL)(t7:Int)(b0:AAB)(b1:AAQ)(b2:AAB)(b3:AAH)(b4:AAj)(b5:AA6)(b6:ABA)(b7:AAT)(Db Ds:Int)(CR:Bool)(kG Eb fT AWL:Int)(AXu:ACH)(Cr DK:Int)(CE:Bool)(Ez:AAB)(DY:AAQ)(Gm:AAB)(Gl:AAH)(ES:AAj)(Ey:AA6)(Fq:ABA)(T6:AAT)(oQ:AAj):Option Pb:=
 cond ((decide (t7<(b4.length:Int))))
  (cond (t7 !=Eb)
   (if(0:Int)<=t7/\t7<(b4.length:Int)then(
   if oQ.length+1<=C_ then(
   R5 (AW (t7+1)) b0 b1 b2 b3 b4 b5 b6 b7 Db Ds CR kG Eb fT AWL AXu Cr DK CE Ez DY Gm Gl ES Ey Fq T6 (oQ++[((b4.getD (t7.toNat) (0,[],())).1,(b4.getD (t7.toNat) (0,[],())).2.1,())]))else none)else none)
  (R5 (AW (t7+1)) b0 b1 b2 b3 b4 b5 b6 b7 Db Ds CR kG Eb fT AWL AXu Cr DK CE Ez DY Gm Gl ES Ey Fq T6 oQ))
 (some (((((),Db,(),(),(),Ds,(),(),(),(),CR,()),0,()),()),(b0,b1,b2,b3,(),b5,b6,b7,oQ,())))
def Nc:Nat->WL
 |0=>fun _ _ _ _ _ _ _ _ _ _ _ _ _ _ _ _ _ _ _ _ _ _ _ _ _ _ _ _ _=>none
 |n+1=>YJ (Nc n)
def ZB(R5:WL)(Bz B6:Int)(BG:Bool)(p1:ADe)(b0:AAB)(b1:AAQ)(b2:AAB)(b3:AAH)(b4:AAj)(b5:AA6)(b6:ABA)(b7:AAT):Option Pb:=
 (Mu (b0,Bz,b1,b2,b3,B6,b4,b5,b6,b7,BG,()) p1.2.1).bind fun u1=>
 cond (!u1.1.1)
  (some (((((),Bz,(),(),(),B6,(),(),(),(),BG,()),2,()),()),(b0,b1,b2,b3,(),b5,b6,b7,b4,())))
 (R5 0 b0 b1 b2 b3 b4 b5 b6 b7 Bz B6 BG p1.1 p1.2.1 p1.2.2.1 p1.2.2.2.1 p1.2.2.2.2.1 0 0 false [] [] [] [] [] [] [] [] [])
def Xd(Bz B6:Int)(BG:Bool)(p1:ADe)(b0:AAB)(b1:AAQ)(b2:AAB)(b3:AAH)(b4:AAj)(b5:AA6)(b6:ABA)(b7:AAT):Option Pb:=ZB (Nc AZ) Bz B6 BG p1 b0 b1 b2 b3 b4 b5 b6 b7
abbrev Pw:Type:=AEV×AEK
abbrev TK:Type:=Int->Int->ABJ->ABJ->Int->Int->ABJ->ABJ->Int->ABJ->ABJ->Option Pw
def Vi(R8:TK)(t1 t7:Int)(AL AF:ABJ)(Aa Da:Int)(b2 b3:ABJ)(M_:Int)(b5 b6:ABJ):Option Pw:=
 cond ((decide (t7<(AL.length:Int))))
  (if(0:Int)<=t7/\t7<(AL.length:Int)then(
  cond (decide (((AL.getD (t7.toNat) (0,0,false,[],())).1)>t1))
   (if(0:Int)<=t7/\t7<(AL.length:Int)then(
   if b5.length+1<=C_ then(
   R8 t1 (AW (t7+1)) AL AF Aa Da b2 b3 M_ (b5++[((AL.getD (t7.toNat) (0,0,false,[],())).1,(AL.getD (t7.toNat) (0,0,false,[],())).2.1,(AL.getD (t7.toNat) (0,0,false,[],())).2.2.1,(AL.getD (t7.toNat) (0,0,false,[],())).2.2.2.1,())]) b6)else none)else none)
  (R8 t1 (AW (t7+1)) AL AF Aa Da b2 b3 M_ b5 b6))else none)
 (some (((((),(),M_,()),true,()),()),(b5,b6,())))
def LN:Nat->TK
 |0=>fun _ _ _ _ _ _ _ _ _ _ _=>none
 |n+1=>Vi (LN n)
def Vf(R8:TK)(p0:ACd)(p1:Int):Option Pw:=
 (Gy (p0.1,p0.2.1,p0.2.2.1,())).bind fun u1=>
 cond (!u1.1.1)
  (some (((((),(),0,()),false,()),()),([],[],())))
 ((FH (p0.1,p0.2.1,p0.2.2.1,())).bind fun u2=>
 (H4 p1).bind fun u3=>
 cond (!u3.1.1)
  (some (((((),(),u2.1.1.2.2.1,()),false,()),()),(u2.2.1,u2.2.2.1,())))
 (R8 p1 0 p0.1 p0.2.1 p0.2.2.1 0 [] [] u2.1.1.2.2.1 [] u2.2.2.1))
def Tq(p0:ACd)(p1:Int):Option Pw:=Vf (LN AZ) p0 p1
abbrev o5:Type:=AED×AEE
def VD(Bz B6:Int)(BG:Bool)(p1:ADe)(b0:AAB)(b1:AAQ)(b2:AAB)(b3:AAH)(b4:AAj)(b5:AA6)(b6:ABA)(b7:AAT):Option o5:=
 (H7 (b0,Bz,b1,b2,b3,B6,b4,b5,b6,b7,BG,()) p1.2.1).bind fun u1=>
 cond (u1.1.1 !=0)
  (some (((((),Bz,(),(),(),B6,(),(),(),(),BG,()),u1.1.1,()),()),(b0,b1,b2,b3,b4,b5,b6,b7,())))
 (if(0:Int)<=p1.2.1/\p1.2.1<(b1.length:Int)then(
 (Nd ((b1.getD (p1.2.1.toNat) ([],[],0,())).1,(b1.getD (p1.2.1.toNat) ([],[],0,())).2.1,(b1.getD (p1.2.1.toNat) ([],[],0,())).2.2.1,()) p1.2.2.1).bind fun u2=>
 cond (p1.1==16)
  (if(0:Int)<=p1.2.1/\p1.2.1<(b1.length:Int)then(
  (Tq ((b1.getD (p1.2.1.toNat) ([],[],0,())).1,(b1.getD (p1.2.1.toNat) ([],[],0,())).2.1,(b1.getD (p1.2.1.toNat) ([],[],0,())).2.2.1,()) B6).bind fun u3=>
  cond (!u3.1.1.2.1)
   (some (((((),Bz,(),(),(),B6,(),(),(),(),BG,()),4,()),()),(b0,b1,b2,b3,b4,b5,b6,b7,())))
  (if(0:Int)<=p1.2.1/\p1.2.1<(b1.length:Int)then(
  some (((((),Bz,(),(),(),B6,(),(),(),(),BG,()),0,()),()),(b0,(b1.set (p1.2.1.toNat) (u3.2.1,u3.2.2.1,u3.1.1.1.2.2.1,())),b2,b3,b4,b5,b6,b7,())))else none))else none)
 (cond (!u2.1.1.2.1)
  (some (((((),Bz,(),(),(),B6,(),(),(),(),BG,()),4,()),()),(b0,b1,b2,b3,b4,b5,b6,b7,())))
 (if(0:Int)<=p1.2.1/\p1.2.1<(b1.length:Int)then(
 some (((((),Bz,(),(),(),B6,(),(),(),(),BG,()),0,()),()),(b0,(b1.set (p1.2.1.toNat) (u2.2.1,u2.2.2.1,u2.1.1.1.2.2.1,())),b2,b3,b4,b5,b6,b7,())))else none)))else none)
abbrev kf:Type:=AED×(List Int×AAQ×Unit×Unit×Unit×Unit×ABA×Unit×List Int×AAH×AAj×AA6×AAT×Unit)
def cN(Bz B6:Int)(BG:Bool)(p1:ADe)(b0:AAB)(b1:AAQ)(b2:AAB)(b3:AAH)(b4:AAj)(b5:AA6)(b6:ABA)(b7:AAT):Option kf:=
 cond (p1.1==1)
  ((Xh Bz B6 BG (p1.1,p1.2.1,p1.2.2.1,p1.2.2.2.1,p1.2.2.2.2.1,()) b0 b1 b2 b3 b4 b5 b6 b7).bind fun u1=>
  some (((((),u1.1.1.1.2.1,(),(),(),u1.1.1.1.2.2.2.2.2.1,(),(),(),(),u1.1.1.1.2.2.2.2.2.2.2.2.2.2.1,()),u1.1.1.2.1,()),()),(u1.2.1,u1.2.2.1,(),(),(),(),u1.2.2.2.2.2.2.2.1,(),u1.2.2.2.1,u1.2.2.2.2.2.2.2.2.2.1,u1.2.2.2.2.2.2.2.2.2.2.1,u1.2.2.2.2.2.2.2.2.2.2.2.1,u1.2.2.2.2.2.2.2.2.1,())))
 (cond (p1.1==2)
  ((ZV Bz B6 BG (p1.1,p1.2.1,p1.2.2.1,p1.2.2.2.1,p1.2.2.2.2.1,()) b0 b1 b2 b3 b4 b5 b6 b7).bind fun u5=>
  some (((((),u5.1.1.1.2.1,(),(),(),u5.1.1.1.2.2.2.2.2.1,(),(),(),(),u5.1.1.1.2.2.2.2.2.2.2.2.2.2.1,()),u5.1.1.2.1,()),()),(u5.2.1,u5.2.2.1,(),(),(),(),u5.2.2.2.2.2.2.2.1,(),u5.2.2.2.1,u5.2.2.2.2.1,u5.2.2.2.2.2.1,u5.2.2.2.2.2.2.1,u5.2.2.2.2.2.2.2.2.2.1,())))
 (cond (p1.1==3)
  ((U9 Bz B6 BG (p1.1,p1.2.1,p1.2.2.1,p1.2.2.2.1,p1.2.2.2.2.1,()) b0 b1 b2 b3 b4 b5 b6 b7).bind fun u7=>
  some (((((),u7.1.1.1.2.1,(),(),(),u7.1.1.1.2.2.2.2.2.1,(),(),(),(),u7.1.1.1.2.2.2.2.2.2.2.2.2.2.1,()),u7.1.1.2.1,()),()),(u7.2.1,u7.2.2.1,(),(),(),(),u7.2.2.2.2.2.2.2.1,(),u7.2.2.2.1,u7.2.2.2.2.1,u7.2.2.2.2.2.1,u7.2.2.2.2.2.2.1,u7.2.2.2.2.2.2.2.2.1,())))
 (cond (p1.1==4)
  ((Xf Bz B6 BG (p1.1,p1.2.1,p1.2.2.1,p1.2.2.2.1,p1.2.2.2.2.1,()) b0 b1 b2 b3 b4 b5 b6 b7).bind fun u8=>
  some (((((),u8.1.1.1.2.1,(),(),(),u8.1.1.1.2.2.2.2.2.1,(),(),(),(),u8.1.1.1.2.2.2.2.2.2.2.2.2.2.1,()),u8.1.1.2.1,()),()),(u8.2.1,u8.2.2.1,(),(),(),(),u8.2.2.2.2.2.2.2.1,(),u8.2.2.2.1,u8.2.2.2.2.1,u8.2.2.2.2.2.1,u8.2.2.2.2.2.2.1,u8.2.2.2.2.2.2.2.2.1,())))
 (cond (p1.1==6)
  ((XH Bz B6 BG (p1.1,p1.2.1,p1.2.2.1,p1.2.2.2.1,p1.2.2.2.2.1,()) b0 b1 b2 b3 b4 b5 b6 b7).bind fun u9=>
  some (((((),u9.1.1.1.2.1,(),(),(),u9.1.1.1.2.2.2.2.2.1,(),(),(),(),u9.1.1.1.2.2.2.2.2.2.2.2.2.2.1,()),u9.1.1.2.1,()),()),(u9.2.1,u9.2.2.1,(),(),(),(),u9.2.2.2.2.2.2.2.1,(),u9.2.2.2.2.2.2.2.2.2.1,u9.2.2.2.2.1,u9.2.2.2.2.2.1,u9.2.2.2.2.2.2.1,u9.2.2.2.2.2.2.2.2.1,())))
 (cond (p1.1==7)
  ((XK Bz B6 BG (p1.1,p1.2.1,p1.2.2.1,p1.2.2.2.1,p1.2.2.2.2.1,()) b0 b1 b2 b3 b4 b5 b6 b7).bind fun Mv=>
  some (((((),Mv.1.1.1.2.1,(),(),(),Mv.1.1.1.2.2.2.2.2.1,(),(),(),(),Mv.1.1.1.2.2.2.2.2.2.2.2.2.2.1,()),Mv.1.1.2.1,()),()),(Mv.2.1,Mv.2.2.1,(),(),(),(),Mv.2.2.2.2.2.2.2.1,(),Mv.2.2.2.2.2.2.2.2.2.1,Mv.2.2.2.2.1,Mv.2.2.2.2.2.1,Mv.2.2.2.2.2.2.1,Mv.2.2.2.2.2.2.2.2.1,())))
 (cond (p1.1==8)
  ((XT Bz B6 BG b0 b1 b2 b3 b4 b5 b6 b7).bind fun KV=>
  some (((((),KV.1.1.1.2.1,(),(),(),KV.1.1.1.2.2.2.2.2.1,(),(),(),(),KV.1.1.1.2.2.2.2.2.2.2.2.2.2.1,()),KV.1.1.2.1,()),()),(KV.2.1,KV.2.2.1,(),(),(),(),KV.2.2.2.2.2.2.2.1,(),KV.2.2.2.1,KV.2.2.2.2.1,KV.2.2.2.2.2.1,KV.2.2.2.2.2.2.2.2.2.1,KV.2.2.2.2.2.2.2.2.1,())))
 (cond (p1.1==9)
  ((XE Bz B6 BG (p1.1,p1.2.1,p1.2.2.1,p1.2.2.2.1,p1.2.2.2.2.1,()) b0 b1 b2 b3 b4 b5 b6 b7).bind fun ZK=>
  some (((((),ZK.1.1.1.2.1,(),(),(),ZK.1.1.1.2.2.2.2.2.1,(),(),(),(),ZK.1.1.1.2.2.2.2.2.2.2.2.2.2.1,()),ZK.1.1.2.1,()),()),(ZK.2.1,ZK.2.2.1,(),(),(),(),ZK.2.2.2.2.2.2.2.1,(),ZK.2.2.2.1,ZK.2.2.2.2.1,ZK.2.2.2.2.2.1,ZK.2.2.2.2.2.2.1,ZK.2.2.2.2.2.2.2.2.1,())))
 (cond (p1.1==10)
  ((XM Bz B6 BG b0 b1 b2 b3 b4 b5 b6 b7).bind fun ZP=>
  some (((((),ZP.1.1.1.2.1,(),(),(),ZP.1.1.1.2.2.2.2.2.1,(),(),(),(),ZP.1.1.1.2.2.2.2.2.2.2.2.2.2.1,()),ZP.1.1.2.1,()),()),(ZP.2.1,ZP.2.2.1,(),(),(),(),ZP.2.2.2.2.2.2.2.1,(),ZP.2.2.2.1,ZP.2.2.2.2.1,ZP.2.2.2.2.2.1,ZP.2.2.2.2.2.2.1,ZP.2.2.2.2.2.2.2.2.1,())))
 (cond (p1.1==11)
  ((Z8 Bz B6 BG (p1.1,p1.2.1,p1.2.2.1,p1.2.2.2.1,p1.2.2.2.2.1,()) b0 b1 b2 b3 b4 b5 b6 b7).bind fun Wo=>
  some (((((),Wo.1.1.1.2.1,(),(),(),Wo.1.1.1.2.2.2.2.2.1,(),(),(),(),Wo.1.1.1.2.2.2.2.2.2.2.2.2.2.1,()),Wo.1.1.2.1,()),()),(Wo.2.1,Wo.2.2.1,(),(),(),(),Wo.2.2.2.2.2.2.2.1,(),Wo.2.2.2.1,Wo.2.2.2.2.1,Wo.2.2.2.2.2.1,Wo.2.2.2.2.2.2.1,Wo.2.2.2.2.2.2.2.2.1,())))
 (cond (p1.1==12)
  ((VF Bz B6 BG b0 b1 b2 b3 b4 b5 b6 b7).bind fun aq=>
  some (((((),aq.1.1.1.2.1,(),(),(),aq.1.1.1.2.2.2.2.2.1,(),(),(),(),aq.1.1.1.2.2.2.2.2.2.2.2.2.2.1,()),aq.1.1.2.1,()),()),(aq.2.1,aq.2.2.1,(),(),(),(),aq.2.2.2.2.2.2.2.1,(),aq.2.2.2.1,aq.2.2.2.2.2.2.2.2.2.1,aq.2.2.2.2.2.1,aq.2.2.2.2.2.2.2.2.2.2.1,aq.2.2.2.2.2.2.2.2.1,())))
 (cond (p1.1==13)
  ((TQ (b0,Bz,()) (b3,B6,()) p1.2.1).bind fun QK=>
  cond (!QK.1.1.2.1)
   (some (((((),Bz,(),(),(),B6,(),(),(),(),BG,()),4,()),()),(b0,b1,(),(),(),(),b6,(),b2,b3,b4,b5,b7,())))
  (some (((((),Bz,(),(),(),QK.1.1.1.2.1,(),(),(),(),BG,()),0,()),()),(b0,b1,(),(),(),(),b6,(),b2,QK.2.1,b4,b5,b7,()))))
 (cond (p1.1==14)
  ((XO Bz B6 BG (p1.1,p1.2.1,p1.2.2.1,p1.2.2.2.1,p1.2.2.2.2.1,()) b0 b1 b2 b3 b4 b5 b6 b7).bind fun Pr=>
  some (((((),Pr.1.1.1.2.1,(),(),(),Pr.1.1.1.2.2.2.2.2.1,(),(),(),(),Pr.1.1.1.2.2.2.2.2.2.2.2.2.2.1,()),Pr.1.1.2.1,()),()),(Pr.2.1,Pr.2.2.1,(),(),(),(),Pr.2.2.2.2.2.2.2.1,(),Pr.2.2.2.1,Pr.2.2.2.2.1,Pr.2.2.2.2.2.1,Pr.2.2.2.2.2.2.1,Pr.2.2.2.2.2.2.2.2.1,())))
 (cond (p1.1==15)
  ((Xd Bz B6 BG (p1.1,p1.2.1,p1.2.2.1,p1.2.2.2.1,p1.2.2.2.2.1,()) b0 b1 b2 b3 b4 b5 b6 b7).bind fun pB=>
  some (((((),pB.1.1.1.2.1,(),(),(),pB.1.1.1.2.2.2.2.2.1,(),(),(),(),pB.1.1.1.2.2.2.2.2.2.2.2.2.2.1,()),pB.1.1.2.1,()),()),(pB.2.1,pB.2.2.1,(),(),(),(),pB.2.2.2.2.2.2.2.1,(),pB.2.2.2.1,pB.2.2.2.2.1,pB.2.2.2.2.2.2.2.2.2.1,pB.2.2.2.2.2.2.1,pB.2.2.2.2.2.2.2.2.1,())))
 ((VD Bz B6 BG (p1.1,p1.2.1,p1.2.2.1,p1.2.2.2.1,p1.2.2.2.2.1,()) b0 b1 b2 b3 b4 b5 b6 b7).bind fun bV=>
 some (((((),bV.1.1.1.2.1,(),(),(),bV.1.1.1.2.2.2.2.2.1,(),(),(),(),bV.1.1.1.2.2.2.2.2.2.2.2.2.2.1,()),bV.1.1.2.1,()),()),(bV.2.1,bV.2.2.1,(),(),(),(),bV.2.2.2.2.2.2.2.1,(),bV.2.2.2.1,bV.2.2.2.2.1,bV.2.2.2.2.2.1,bV.2.2.2.2.2.2.1,bV.2.2.2.2.2.2.2.2.1,()))))))))))))))))
abbrev rY:Type:=AED×AEE
def NP(p0:ABl)(p1:ADe):Option rY:=
 (QQ (p0.1,p0.2.1,p0.2.2.1,p0.2.2.2.1,p0.2.2.2.2.1,p0.2.2.2.2.2.1,p0.2.2.2.2.2.2.1,p0.2.2.2.2.2.2.2.1,p0.2.2.2.2.2.2.2.2.1,p0.2.2.2.2.2.2.2.2.2.1,p0.2.2.2.2.2.2.2.2.2.2.1,())).bind fun u1=>
 cond (!u1.1.1)
  (some (((((),0,(),(),(),0,(),(),(),(),false,()),1,()),()),([],[],[],[],[],[],[],[],())))
 ((Zu (p1.1,p1.2.1,p1.2.2.1,p1.2.2.2.1,p1.2.2.2.2.1,())).bind fun u2=>
 cond (!u2.1.1)
  (some (((((),0,(),(),(),0,(),(),(),(),false,()),1,()),()),([],[],[],[],[],[],[],[],())))
 ((Fa (p0.1,p0.2.1,p0.2.2.1,p0.2.2.2.1,p0.2.2.2.2.1,p0.2.2.2.2.2.1,p0.2.2.2.2.2.2.1,p0.2.2.2.2.2.2.2.1,p0.2.2.2.2.2.2.2.2.1,p0.2.2.2.2.2.2.2.2.2.1,p0.2.2.2.2.2.2.2.2.2.2.1,())).bind fun u3=>
 (cN u3.1.1.2.1 u3.1.1.2.2.2.2.2.1 u3.1.1.2.2.2.2.2.2.2.2.2.2.1 (p1.1,p1.2.1,p1.2.2.1,p1.2.2.2.1,p1.2.2.2.2.1,()) u3.2.1 u3.2.2.1 u3.2.2.2.1 u3.2.2.2.2.1 u3.2.2.2.2.2.1 u3.2.2.2.2.2.2.1 u3.2.2.2.2.2.2.2.1 u3.2.2.2.2.2.2.2.2.1).bind fun u4=>
 cond (u4.1.1.2.1 !=0)
  ((Fa (p0.1,p0.2.1,p0.2.2.1,p0.2.2.2.1,p0.2.2.2.2.1,p0.2.2.2.2.2.1,p0.2.2.2.2.2.2.1,p0.2.2.2.2.2.2.2.1,p0.2.2.2.2.2.2.2.2.1,p0.2.2.2.2.2.2.2.2.2.1,p0.2.2.2.2.2.2.2.2.2.2.1,())).bind fun EI=>
  some (((((),EI.1.1.2.1,(),(),(),EI.1.1.2.2.2.2.2.1,(),(),(),(),EI.1.1.2.2.2.2.2.2.2.2.2.2.1,()),u4.1.1.2.1,()),()),(EI.2.1,EI.2.2.1,EI.2.2.2.1,EI.2.2.2.2.1,EI.2.2.2.2.2.1,EI.2.2.2.2.2.2.1,EI.2.2.2.2.2.2.2.1,EI.2.2.2.2.2.2.2.2.1,())))
 (some (((((),u4.1.1.1.2.1,(),(),(),u4.1.1.1.2.2.2.2.2.1,(),(),(),(),u4.1.1.1.2.2.2.2.2.2.2.2.2.2.1,()),u4.1.1.2.1,()),()),(u4.2.1,u4.2.2.1,u4.2.2.2.2.2.2.2.2.2.1,u4.2.2.2.2.2.2.2.2.2.2.1,u4.2.2.2.2.2.2.2.2.2.2.2.1,u4.2.2.2.2.2.2.2.2.2.2.2.2.1,u4.2.2.2.2.2.2.2.1,u4.2.2.2.2.2.2.2.2.2.2.2.2.2.1,())))))
abbrev DV:Type:=(ALc×Unit)×(AEC×Unit×Unit×Unit×Unit×Unit×Unit×Unit×Unit×AD7×List Int×AAQ×List Int×AAH×AAj×AA6×ABA×AAT×Unit)
abbrev IP:Type:=Int->Int->List Int->Int->Int->Int->Int->Bool->List Int->AAQ->List Int->AAH->AAj->AA6->ABA->AAT->Int->Int->Bool->List Int->AAQ->List Int->AAH->AAj->AA6->ABA->AAT->Int->List Int->List Int->Option DV
abbrev IM:Type:=Int->List Int->Int->Int->Int->Int->Bool->List Int->AAQ->List Int->AAH->AAj->AA6->ABA->AAT->Int->Int->Bool->List Int->AAQ->List Int->AAH->AAj->AA6->ABA->AAT->Int->List Int->List Int->Option DV
abbrev Hc:Type:=Int->Int->List Int->Int->Int->Int->Int->Bool->List Int->AAQ->List Int->AAH->AAj->AA6->ABA->AAT->Int->Int->Bool->List Int->AAQ->List Int->AAH->AAj->AA6->ABA->AAT->Int->Int->Bool->Int->Int->Bool->List Int->AAQ->List Int->AAH->AAj->AA6->ABA->AAT->AD7->Option DV
def R0(R4:IP)(R7:IM)(R14:Hc)(t1 t9:Int)(AL:AAB)(AF Aa Au DZ:Int)(Dl:Bool)(b2:AAB)(b3:AAQ)(b4:AAB)(b5:AAH)(b6:AAj)(b7:AA6)(b8:ABA)(b9:AAT)(Cr DK:Int)(CE:Bool)(Ez:AAB)(DY:AAQ)(Gm:AAB)(Gl:AAH)(ES:AAj)(Ey:AA6)(Fq:ABA)(T6:AAT)(Cb:Int)(zR b21:AAB):Option DV:=
 cond ((decide (t9<(zR.length:Int))))
  (if b21.length+1<=C_ then(
  R4 t1 (AW (t9+1)) AL AF Aa Au DZ Dl b2 b3 b4 b5 b6 b7 b8 b9 Cr DK CE Ez DY Gm Gl ES Ey Fq T6 Cb zR (b21++[t9]))else none)
 (R7 t1 AL AF Aa Au DZ Dl b2 b3 b4 b5 b6 b7 b8 b9 Cr DK CE Ez DY Gm Gl ES Ey Fq T6 Cb zR b21)
def Sg(R4:IP)(R7:IM)(R14:Hc)(t1:Int)(AL:AAB)(AF Aa Au DZ:Int)(Dl:Bool)(b2:AAB)(b3:AAQ)(b4:AAB)(b5:AAH)(b6:AAj)(b7:AA6)(b8:ABA)(b9:AAT)(Cr DK:Int)(CE:Bool)(Ez:AAB)(DY:AAQ)(Gm:AAB)(Gl:AAH)(ES:AAj)(Ey:AA6)(Fq:ABA)(T6:AAT)(Cb:Int)(zR b21:AAB):Option DV:=
 cond (decide (Cb>1))
  ((FD (zR,Cb,()) b21).bind fun u3=>
  cond (!u3.1.1)
   (R7 t1 AL AF Aa Au DZ Dl b2 b3 b4 b5 b6 b7 b8 b9 Cr DK CE Ez DY Gm Gl ES Ey Fq T6 (AW (Cb-1)) zR b21)
  ((H3 (zR,Cb,())).bind fun u4=>
  (AK (AW (t1+1)) AL AF Aa).bind fun u5=>
  R14 u5.1.1 0 u5.2.1.1 u5.2.1.2.1 u5.2.1.2.2.1 Au DZ Dl b2 b3 b4 b5 b6 b7 b8 b9 Cr DK CE Ez DY Gm Gl ES Ey Fq T6 u4.1.1.1.2.1 u4.1.1.1.2.2.2.2.2.1 u4.1.1.1.2.2.2.2.2.2.2.2.2.2.1 u4.1.1.1.2.1 u4.1.1.1.2.2.2.2.2.1 u4.1.1.1.2.2.2.2.2.2.2.2.2.2.1 u4.2.1 u4.2.2.1 u4.2.2.2.1 u4.2.2.2.2.1 u4.2.2.2.2.2.1 u4.2.2.2.2.2.2.1 u4.2.2.2.2.2.2.2.1 u4.2.2.2.2.2.2.2.2.1 []))
 ((H3 (zR,Cb,())).bind fun u6=>
 (AK (AW (t1+1)) AL AF Aa).bind fun u7=>
 R14 u7.1.1 0 u7.2.1.1 u7.2.1.2.1 u7.2.1.2.2.1 Au DZ Dl b2 b3 b4 b5 b6 b7 b8 b9 Cr DK CE Ez DY Gm Gl ES Ey Fq T6 u6.1.1.1.2.1 u6.1.1.1.2.2.2.2.2.1 u6.1.1.1.2.2.2.2.2.2.2.2.2.2.1 u6.1.1.1.2.1 u6.1.1.1.2.2.2.2.2.1 u6.1.1.1.2.2.2.2.2.2.2.2.2.2.1 u6.2.1 u6.2.2.1 u6.2.2.2.1 u6.2.2.2.2.1 u6.2.2.2.2.2.1 u6.2.2.2.2.2.2.1 u6.2.2.2.2.2.2.2.1 u6.2.2.2.2.2.2.2.2.1 [])
def Q0(R4:IP)(R7:IM)(R14:Hc)(t14 t15:Int)(AL:AAB)(AF Aa Au DZ:Int)(Dl:Bool)(b2:AAB)(b3:AAQ)(b4:AAB)(b5:AAH)(b6:AAj)(b7:AA6)(b8:ABA)(b9:AAT)(Cr DK:Int)(CE:Bool)(Ez:AAB)(DY:AAQ)(Gm:AAB)(Gl:AAH)(ES:AAj)(Ey:AA6)(Fq:ABA)(T6:AAT)(Cb VW:Int)(za:Bool)(ABR ABH:Int)(vM:Bool)(b29:AAB)(b30:AAQ)(b31:AAB)(b32:AAH)(b33:AAj)(b34:AA6)(b35:ABA)(b36:AAT)(b37:AD7):Option DV:=
 cond (decide (t15<t14))
  ((QI (b29,ABR,b30,b31,b32,ABH,b33,b34,b35,b36,vM,()) AL AF Aa).bind fun u8=>
  if b37.length+1<=C_ then(
  let x9:AD7:=b37++[(u8.1.1.1,u8.1.1.2.1,u8.1.1.2.2.1,u8.1.1.2.2.2.1,u8.1.1.2.2.2.2.1,())]
  (NP (b29,ABR,b30,b31,b32,ABH,b33,b34,b35,b36,vM,()) (u8.1.1.1,u8.1.1.2.1,u8.1.1.2.2.1,u8.1.1.2.2.2.1,u8.1.1.2.2.2.2.1,())).bind fun EI=>
  cond (EI.1.1.2.1==0)
   (R14 t14 (AW (t15+1)) u8.2.1.1 u8.2.1.2.1 u8.2.1.2.2.1 Au DZ Dl b2 b3 b4 b5 b6 b7 b8 b9 Cr DK CE Ez DY Gm Gl ES Ey Fq T6 Cb VW za EI.1.1.1.2.1 EI.1.1.1.2.2.2.2.2.1 EI.1.1.1.2.2.2.2.2.2.2.2.2.2.1 EI.2.1 EI.2.2.1 EI.2.2.2.1 EI.2.2.2.2.1 EI.2.2.2.2.2.1 EI.2.2.2.2.2.2.1 EI.2.2.2.2.2.2.2.1 EI.2.2.2.2.2.2.2.2.1 x9)
  (R14 t14 (AW (t15+1)) u8.2.1.1 u8.2.1.2.1 u8.2.1.2.2.1 Au DZ Dl b2 b3 b4 b5 b6 b7 b8 b9 Cr DK CE Ez DY Gm Gl ES Ey Fq T6 Cb VW za ABR ABH vM b29 b30 b31 b32 b33 b34 b35 b36 x9))else none)
 (some (((((),Cb,(),(),(),VW,(),(),(),(),za,()),(),((),ABR,(),(),(),ABH,(),(),(),(),vM,()),()),()),((AL,AF,Aa,()),(),(),(),(),(),(),(),(),b37,b29,b30,b31,b32,b33,b34,b35,b36,())))
mutual
def E9:Nat->IP
 |0=>fun _ _ _ _ _ _ _ _ _ _ _ _ _ _ _ _ _ _ _ _ _ _ _ _ _ _ _ _ _ _=>none
 |n+1=>R0 (E9 n) (FK n) (Dv n)
def FK:Nat->IM
 |0=>fun _ _ _ _ _ _ _ _ _ _ _ _ _ _ _ _ _ _ _ _ _ _ _ _ _ _ _ _ _=>none
 |n+1=>Sg (E9 n) (FK n) (Dv n)
def Dv:Nat->Hc
 |0=>fun _ _ _ _ _ _ _ _ _ _ _ _ _ _ _ _ _ _ _ _ _ _ _ _ _ _ _ _ _ _ _ _ _ _ _ _ _ _ _ _ _ _=>none
 |n+1=>Q0 (E9 n) (FK n) (Dv n)
end
def SJ(R4:IP)(R7:IM)(R14:Hc)(p1:Int)(AL:AAB)(AF Aa:Int):Option DV:=
 (Mn AL AF Aa).bind fun u1=>
 R4 p1 0 u1.2.1.1 u1.2.1.2.1 u1.2.1.2.2.1 0 0 false [] [] [] [] [] [] [] [] 0 0 false [] [] [] [] [] [] [] [] u1.1.1.2.1 u1.2.2.1 []
def LK(p1:Int)(AL:AAB)(AF Aa:Int):Option DV:=SJ (E9 AZ) (FK AZ) (Dv AZ) p1 AL AF Aa
abbrev jj:Type:=AHn×AEX
def Me(AL:AAB)(AF Aa:Int):Option jj:=
 (AK 3 AL AF Aa).bind fun u1=>
 (AK 6 u1.2.1.1 u1.2.1.2.1 u1.2.1.2.2.1).bind fun u2=>
 (Ci (AW (1+u1.1.1)) (AW (1+u2.1.1))).bind fun u3=>
 (HR [[],[97],[98,99],[0],[119,111,114,100]] u2.2.1.1 u2.2.1.2.1 u2.2.1.2.2.1).bind fun u4=>
 (BL 3 u4.2.1.1 u4.2.1.2.1 u4.2.1.2.2.1).bind fun u5=>
 cond (u5.1.1)
  ((C1 u3.1.1).bind fun u6=>
  (AK 3 u5.2.1.1 u5.2.1.2.1 u5.2.1.2.2.1).bind fun u7=>
  let x8:Int:=AW ((AW (u6.1.1+1))+u7.1.1)
  (BL 2 u7.2.1.1 u7.2.1.2.1 u7.2.1.2.2.1).bind fun u9=>
  cond (u9.1.1)
   (some (((u3.1.1,x8,true,[],()),()),((u9.2.1.1,u9.2.1.2.1,u9.2.1.2.2.1,()),())))
  (some (((u3.1.1,x8,false,u4.1.1,()),()),((u9.2.1.1,u9.2.1.2.1,u9.2.1.2.2.1,()),()))))
 (some (((u3.1.1,0,false,u4.1.1,()),()),((u5.2.1.1,u5.2.1.2.1,u5.2.1.2.2.1,()),())))
abbrev Cf:Type:=AFW×AL5
abbrev I_:Type:=Int->Int->List Int->Int->Int->Int->ABJ->ABJ->Int->ABJ->ABJ->Option Cf
abbrev IC:Type:=Int->List Int->Int->Int->Int->ABJ->ABJ->Int->ABJ->ABJ->Option Cf
abbrev IK:Type:=Int->Int->List Int->Int->Int->Int->ABJ->ABJ->Int->ABJ->ABJ->Option Cf
def Sv(R4:I_)(R20:IC)(R23:IK)(t4 t5:Int)(AL:AAB)(AF Aa Da:Int)(b2 b3:ABJ)(M_:Int)(b5 b6:ABJ):Option Cf:=
 cond (decide (t5<t4))
  ((Me AL AF Aa).bind fun u2=>
  (N5 (b5,b6,M_,()) (u2.1.1.1,u2.1.1.2.1,u2.1.1.2.2.1,u2.1.1.2.2.2.1,())).bind fun u3=>
  (AK 6 u2.2.1.1 u2.2.1.2.1 u2.2.1.2.2.1).bind fun u4=>
  cond (u4.1.1==0)
   ((Jz (b5,b6,M_,())).bind fun u5=>
   cond (u5.1.1.2.1)
    (R4 t4 (AW (t5+1)) u4.2.1.1 u4.2.1.2.1 u4.2.1.2.2.1 Da b2 b3 u5.1.1.1.2.2.1 u5.2.1 u5.2.2.1)
   (R4 t4 (AW (t5+1)) u4.2.1.1 u4.2.1.2.1 u4.2.1.2.2.1 Da b2 b3 M_ b5 b6))
  (cond (u4.1.1==1)
   ((Jz (u3.2.1,u3.2.2.1,u3.1.1.1.2.2.1,())).bind fun u6=>
   cond (u6.1.1.2.1)
    (R4 t4 (AW (t5+1)) u4.2.1.1 u4.2.1.2.1 u4.2.1.2.2.1 Da b2 b3 u6.1.1.1.2.2.1 u6.2.1 u6.2.2.1)
   (R4 t4 (AW (t5+1)) u4.2.1.1 u4.2.1.2.1 u4.2.1.2.2.1 Da b2 b3 M_ b5 b6))
  (cond (u4.1.1==2)
   ((BL 3 u4.2.1.1 u4.2.1.2.1 u4.2.1.2.2.1).bind fun u7=>
   cond (u7.1.1)
    ((AK 4 u7.2.1.1 u7.2.1.2.1 u7.2.1.2.2.1).bind fun u8=>
    (PT (b5,b6,M_,()) u8.1.1).bind fun u9=>
    cond (u9.1.1.2.1)
     (R4 t4 (AW (t5+1)) u8.2.1.1 u8.2.1.2.1 u8.2.1.2.2.1 Da b2 b3 u9.1.1.1.2.2.1 u9.2.1 u9.2.2.1)
    (R4 t4 (AW (t5+1)) u8.2.1.1 u8.2.1.2.1 u8.2.1.2.2.1 Da b2 b3 M_ b5 b6))
   (cond (u3.1.1.2.1)
    (R4 t4 (AW (t5+1)) u7.2.1.1 u7.2.1.2.1 u7.2.1.2.2.1 Da b2 b3 u3.1.1.1.2.2.1 u3.2.1 u3.2.2.1)
   (R4 t4 (AW (t5+1)) u7.2.1.1 u7.2.1.2.1 u7.2.1.2.2.1 Da b2 b3 M_ b5 b6)))
  (cond (u3.1.1.2.1)
   (R4 t4 (AW (t5+1)) u4.2.1.1 u4.2.1.2.1 u4.2.1.2.2.1 Da b2 b3 u3.1.1.1.2.2.1 u3.2.1 u3.2.2.1)
  (R4 t4 (AW (t5+1)) u4.2.1.1 u4.2.1.2.1 u4.2.1.2.2.1 Da b2 b3 M_ b5 b6)))))
 ((BL 40 AL AF Aa).bind fun WG=>
 cond (WG.1.1)
  (R20 1 WG.2.1.1 WG.2.1.2.1 WG.2.1.2.2.1 Da b2 b3 M_ [] b6)
 (some ((((),(),M_,()),()),((WG.2.1.1,WG.2.1.2.1,WG.2.1.2.2.1,()),b5,b6,()))))
def R_(R4:I_)(R20:IC)(R23:IK)(t8:Int)(AL:AAB)(AF Aa Da:Int)(b2 b3:ABJ)(M_:Int)(b5 b6:ABJ):Option Cf:=
 cond (decide (t8<=4))
  (R23 t8 1 AL AF Aa Da b2 b3 M_ b5 b6)
 (some ((((),(),M_,()),()),((AL,AF,Aa,()),b5,b6,())))
def Si(R4:I_)(R20:IC)(R23:IK)(t8 t9:Int)(AL:AAB)(AF Aa Da:Int)(b2 b3:ABJ)(M_:Int)(b5 b6:ABJ):Option Cf:=
 cond (decide (t9<=50))
  ((Ci t8 t9).bind fun iF=>
  if b5.length+1<=C_ then(
  R23 t8 (AW (t9+1)) AL AF Aa Da b2 b3 M_ (b5++[(iF.1.1,0,false,[],())]) b6)else none)
 (R20 (AW (t8+1)) AL AF Aa Da b2 b3 M_ b5 b6)
mutual
def Eh:Nat->I_
 |0=>fun _ _ _ _ _ _ _ _ _ _ _=>none
 |n+1=>Sv (Eh n) (FJ n) (FF n)
def FJ:Nat->IC
 |0=>fun _ _ _ _ _ _ _ _ _ _=>none
 |n+1=>R_ (Eh n) (FJ n) (FF n)
def FF:Nat->IK
 |0=>fun _ _ _ _ _ _ _ _ _ _ _=>none
 |n+1=>Si (Eh n) (FJ n) (FF n)
end
def S3(R4:I_)(R20:IC)(R23:IK)(AL:AAB)(AF Aa:Int):Option Cf:=
 (AK 8 AL AF Aa).bind fun u1=>
 R4 u1.1.1 0 u1.2.1.1 u1.2.1.2.1 u1.2.1.2.2.1 0 [] [] 0 [] []
def GW(AL:AAB)(AF Aa:Int):Option Cf:=S3 (Eh AZ) (FJ AZ) (FF AZ) AL AF Aa
abbrev RZ:Type:=ABq×AEX
def FV(AL:AAB)(AF Aa:Int):Option RZ:=
 (AK 3 AL AF Aa).bind fun u1=>
 (AK 6 u1.2.1.1 u1.2.1.2.1 u1.2.1.2.2.1).bind fun u2=>
 (Ci (AW (1+u1.1.1)) (AW (1+u2.1.1))).bind fun u3=>
 (AK 15 u2.2.1.1 u2.2.1.2.1 u2.2.1.2.2.1).bind fun u4=>
 cond (u4.1.1==0)
  ((CZ [0,(-1),4294967296,4294967297,9223372036854775807,(-9223372036854775808)] u4.2.1.1 u4.2.1.2.1 u4.2.1.2.2.1).bind fun u5=>
  some ((u5.1.1,()),((u5.2.1.1,u5.2.1.2.1,u5.2.1.2.2.1,()),())))
 (cond (u4.1.1==1)
  ((CZ [0,30,31] u4.2.1.1 u4.2.1.2.1 u4.2.1.2.2.1).bind fun u6=>
  (CZ [0,60,61] u6.2.1.1 u6.2.1.2.1 u6.2.1.2.2.1).bind fun u7=>
  (Ci u6.1.1 u7.1.1).bind fun u8=>
  some ((u8.1.1,()),((u7.2.1.1,u7.2.1.2.1,u7.2.1.2.2.1,()),())))
 (some ((u3.1.1,()),((u4.2.1.1,u4.2.1.2.1,u4.2.1.2.2.1,()),()))))
abbrev te:Type:=AHn×AEX
def SD(AL:AAB)(AF Aa:Int):Option te:=
 (Me AL AF Aa).bind fun u1=>
 (AK 15 u1.2.1.1 u1.2.1.2.1 u1.2.1.2.2.1).bind fun u2=>
 cond (u2.1.1==0)
  ((FV u2.2.1.1 u2.2.1.2.1 u2.2.1.2.2.1).bind fun u3=>
  some (((u3.1.1,u1.1.1.2.1,u1.1.1.2.2.1,u1.1.1.2.2.2.1,()),()),((u3.2.1.1,u3.2.1.2.1,u3.2.1.2.2.1,()),())))
 (cond (u2.1.1==1)
  ((CZ [(-1),1,30,31] u2.2.1.1 u2.2.1.2.1 u2.2.1.2.2.1).bind fun u4=>
  some (((u1.1.1.1,u4.1.1,u1.1.1.2.2.1,u1.1.1.2.2.2.1,()),()),((u4.2.1.1,u4.2.1.2.1,u4.2.1.2.2.1,()),())))
 (cond (u2.1.1==2)
  (some (((u1.1.1.1,u1.1.1.2.1,true,u1.1.1.2.2.2.1,()),()),((u2.2.1.1,u2.2.1.2.1,u2.2.1.2.2.1,()),())))
 (cond (u2.1.1==3)
  ((AK 2 u2.2.1.1 u2.2.1.2.1 u2.2.1.2.2.1).bind fun u5=>
  if(0:Int)<=(AW (40+u5.1.1))/\(AW (40+u5.1.1))<=(AW (40+u5.1.1))/\(AW (40+u5.1.1))<=(C_:Int)then(
  some (((u1.1.1.1,u1.1.1.2.1,u1.1.1.2.2.1,((List.replicate ((AW (40+u5.1.1)).toNat) 0).map fun n:Int=>UInt8.ofNat n.toNat),()),()),((u5.2.1.1,u5.2.1.2.1,u5.2.1.2.2.1,()),())))else none)
 (some (((u1.1.1.1,u1.1.1.2.1,u1.1.1.2.2.1,u1.1.1.2.2.2.1,()),()),((u2.2.1.1,u2.2.1.2.1,u2.2.1.2.2.1,()),()))))))
abbrev N9:Type:=AFW×AL5
abbrev WT:Type:=List Int->Int->Int->Int->ABJ->ABJ->Int->ABJ->ABJ->Option N9
def Yk(R10:WT)(AL:AAB)(AF Aa Da:Int)(b2 b3:ABJ)(M_:Int)(b5 b6:ABJ):Option N9:=
 (AK 2 AL AF Aa).bind fun KV=>
 cond ((decide ((b6.length:Int)<(AW (20+KV.1.1)))))
  ((Ci 5 1).bind fun u16=>
  if b6.length+1<=C_ then(
  R10 KV.2.1.1 KV.2.1.2.1 KV.2.1.2.2.1 Da b2 b3 M_ b5 (b6++[(u16.1.1,0,false,[],())]))else none)
 (some ((((),(),M_,()),()),((KV.2.1.1,KV.2.1.2.1,KV.2.1.2.2.1,()),b5,b6,())))
def NZ:Nat->WT
 |0=>fun _ _ _ _ _ _ _ _ _=>none
 |n+1=>Yk (NZ n)
def aD(R10:WT)(AL:AAB)(AF Aa:Int):Option N9:=
 (GW AL AF Aa).bind fun u1=>
 (AK 25 u1.2.1.1 u1.2.1.2.1 u1.2.1.2.2.1).bind fun u2=>
 cond (u2.1.1==0)
  ((CZ [(-1),30,31] u2.2.1.1 u2.2.1.2.1 u2.2.1.2.2.1).bind fun u3=>
  some ((((),(),u3.1.1,()),()),((u3.2.1.1,u3.2.1.2.1,u3.2.1.2.2.1,()),u1.2.2.1,u1.2.2.2.1,())))
 (cond (u2.1.1==1)
  ((SD u2.2.1.1 u2.2.1.2.1 u2.2.1.2.2.1).bind fun u4=>
  if u1.2.2.1.length+1<=C_ then(
  some ((((),(),u1.1.1.2.2.1,()),()),((u4.2.1.1,u4.2.1.2.1,u4.2.1.2.2.1,()),(u1.2.2.1++[(u4.1.1.1,u4.1.1.2.1,u4.1.1.2.2.1,u4.1.1.2.2.2.1,())]),u1.2.2.2.1,())))else none)
 (cond (u2.1.1==2)
  ((SD u2.2.1.1 u2.2.1.2.1 u2.2.1.2.2.1).bind fun u9=>
  if u1.2.2.2.1.length+1<=C_ then(
  some ((((),(),u1.1.1.2.2.1,()),()),((u9.2.1.1,u9.2.1.2.1,u9.2.1.2.2.1,()),u1.2.2.1,(u1.2.2.2.1++[(u9.1.1.1,u9.1.1.2.1,u9.1.1.2.2.1,u9.1.1.2.2.2.1,())]),())))else none)
 (cond (u2.1.1==3)
  (R10 u2.2.1.1 u2.2.1.2.1 u2.2.1.2.2.1 0 [] [] u1.1.1.2.2.1 u1.2.2.1 u1.2.2.2.1)
 (some ((((),(),u1.1.1.2.2.1,()),()),((u2.2.1.1,u2.2.1.2.1,u2.2.1.2.2.1,()),u1.2.2.1,u1.2.2.2.1,()))))))
def V9(AL:AAB)(AF Aa:Int):Option N9:=aD (NZ AZ) AL AF Aa
abbrev NQ:Type:=AEJ×AMI
abbrev Qh:Type:=Int->List Int->Int->Int->List Int->Int->Int->AAH->Int->AAH->Option NQ
def Ti(R3:Qh)(t6:Int)(AL:AAB)(AF Aa:Int)(BT:AAB)(Au LZ:Int)(b3:AAH)(gq:Int)(b5:AAH):Option NQ:=
 (AK 7 AL AF Aa).bind fun u1=>
 cond (decide (t6<u1.1.1))
  ((G_ (BT,Au,()) u1.2.1.1 u1.2.1.2.1 u1.2.1.2.2.1).bind fun u2=>
  (My (BT,Au,()) (b5,gq,()) u2.2.2.1).bind fun u3=>
  (AK 4 u2.2.1.1 u2.2.1.2.1 u2.2.1.2.2.1).bind fun u4=>
  cond (u4.1.1==0)
   ((AK 5 u4.2.1.1 u4.2.1.2.1 u4.2.1.2.2.1).bind fun u5=>
   (Q6 (BT,Au,()) (b5,gq,()) (b5.length:Int) u5.1.1).bind fun u6=>
   cond (u6.1.1.2.1)
    (R3 (AW (t6+1)) u5.2.1.1 u5.2.1.2.1 u5.2.1.2.2.1 BT Au LZ b3 u6.1.1.1.2.1 u6.2.1)
   (R3 (AW (t6+1)) u5.2.1.1 u5.2.1.2.1 u5.2.1.2.2.1 BT Au LZ b3 gq b5))
  (cond (u4.1.1==1)
   ((AK 2 u4.2.1.1 u4.2.1.2.1 u4.2.1.2.2.1).bind fun u7=>
   (AK 4 u7.2.1.1 u7.2.1.2.1 u7.2.1.2.2.1).bind fun u8=>
   (Ci (AW (1+u7.1.1)) (AW (1+u8.1.1))).bind fun u9=>
   (TQ (BT,Au,()) (b5,gq,()) u9.1.1).bind fun EI=>
   cond (EI.1.1.2.1)
    (R3 (AW (t6+1)) u8.2.1.1 u8.2.1.2.1 u8.2.1.2.2.1 BT Au LZ b3 EI.1.1.1.2.1 EI.2.1)
   (R3 (AW (t6+1)) u8.2.1.1 u8.2.1.2.1 u8.2.1.2.2.1 BT Au LZ b3 gq b5))
  (cond (u3.1.1.2.2.1)
   (R3 (AW (t6+1)) u4.2.1.1 u4.2.1.2.1 u4.2.1.2.2.1 BT Au LZ b3 u3.1.1.1.2.1 u3.2.1)
  (R3 (AW (t6+1)) u4.2.1.1 u4.2.1.2.1 u4.2.1.2.2.1 BT Au LZ b3 gq b5))))
 (some ((((),gq,()),()),((u1.2.1.1,u1.2.1.2.1,u1.2.1.2.2.1,()),b5,())))
def HL:Nat->Qh
 |0=>fun _ _ _ _ _ _ _ _ _ _=>none
 |n+1=>Ti (HL n)
def T2(R3:Qh)(p1:ABS)(AL:AAB)(AF Aa:Int):Option NQ:=
 R3 0 AL AF Aa p1.1 p1.2.1 0 [] 0 []
def Pv(p1:ABS)(AL:AAB)(AF Aa:Int):Option NQ:=T2 (HL AZ) p1 AL AF Aa
abbrev N1:Type:=AEJ×AMI
abbrev WZ:Type:=List Int->List Int->Int->Int->Int->AAH->Int->AAH->Option N1
def ZE(R17:WZ)(t7 AL:AAB)(AF Aa Au:Int)(b2:AAH)(fq:Int)(b4:AAH):Option N1:=
 (AK 2 AL AF Aa).bind fun Mv=>
 cond ((decide ((b4.length:Int)<(AW (30+Mv.1.1)))))
  (if b4.length+1<=C_ then(
  R17 t7 Mv.2.1.1 Mv.2.1.2.1 Mv.2.1.2.2.1 Au b2 fq (b4++[(t7,false,0,())]))else none)
 (some ((((),fq,()),()),((Mv.2.1.1,Mv.2.1.2.1,Mv.2.1.2.2.1,()),b4,())))
def Ng:Nat->WZ
 |0=>fun _ _ _ _ _ _ _ _=>none
 |n+1=>ZE (Ng n)
def Zw(R17:WZ)(p1:ABS)(AL:AAB)(AF Aa:Int):Option N1:=
 (Pv (p1.1,p1.2.1,()) AL AF Aa).bind fun u1=>
 let x2:Int:=(u1.2.2.1.length:Int)
 (AK 25 u1.2.1.1 u1.2.1.2.1 u1.2.1.2.2.1).bind fun u3=>
 cond (u3.1.1==0)
  ((FV u3.2.1.1 u3.2.1.2.1 u3.2.1.2.2.1).bind fun u4=>
  some ((((),u4.1.1,()),()),((u4.2.1.1,u4.2.1.2.1,u4.2.1.2.2.1,()),u1.2.2.1,())))
 (cond (u3.1.1==1)
  (cond (decide (x2>0))
   (if(0:Int)<=AW (x2-1)/\AW (x2-1)<(u1.2.2.1.length:Int)then(
   some ((((),u1.1.1.2.1,()),()),((u3.2.1.1,u3.2.1.2.1,u3.2.1.2.2.1,()),(u1.2.2.1.set ((AW (x2-1)).toNat) ((u1.2.2.1.getD ((AW (x2-1)).toNat) ([],false,0,())).1,true,(u1.2.2.1.getD ((AW (x2-1)).toNat) ([],false,0,())).2.2.1,())),())))else none)
  (some ((((),u1.1.1.2.1,()),()),((u3.2.1.1,u3.2.1.2.1,u3.2.1.2.2.1,()),u1.2.2.1,()))))
 (cond (u3.1.1==2)
  (cond (decide (x2>0))
   ((CZ [(-1),1,60,61] u3.2.1.1 u3.2.1.2.1 u3.2.1.2.2.1).bind fun u6=>
   if(0:Int)<=(0:Int)/\(0:Int)<(u1.2.2.1.length:Int)then(
   some ((((),u1.1.1.2.1,()),()),((u6.2.1.1,u6.2.1.2.1,u6.2.1.2.2.1,()),(u1.2.2.1.set 0 ((u1.2.2.1.getD 0 ([],false,0,())).1,(u1.2.2.1.getD 0 ([],false,0,())).2.1,u6.1.1,())),())))else none)
  (some ((((),u1.1.1.2.1,()),()),((u3.2.1.1,u3.2.1.2.1,u3.2.1.2.2.1,()),u1.2.2.1,()))))
 (cond (u3.1.1==3)
  (cond (decide (x2>0))
   ((FZ (p1.1,p1.2.1,()) u3.2.1.1 u3.2.1.2.1 u3.2.1.2.2.1).bind fun u8=>
   if(0:Int)<=(0:Int)/\(0:Int)<(u1.2.2.1.length:Int)then(
   some ((((),u1.1.1.2.1,()),()),((u8.2.1.1,u8.2.1.2.1,u8.2.1.2.2.1,()),(u1.2.2.1.set 0 (u8.2.2.1,(u1.2.2.1.getD 0 ([],false,0,())).2.1,(u1.2.2.1.getD 0 ([],false,0,())).2.2.1,())),())))else none)
  (some ((((),u1.1.1.2.1,()),()),((u3.2.1.1,u3.2.1.2.1,u3.2.1.2.2.1,()),u1.2.2.1,()))))
 (cond (u3.1.1==4)
  ((G_ (p1.1,p1.2.1,()) u3.2.1.1 u3.2.1.2.1 u3.2.1.2.2.1).bind fun EI=>
  R17 EI.2.2.1 EI.2.1.1 EI.2.1.2.1 EI.2.1.2.2.1 0 [] u1.1.1.2.1 u1.2.2.1)
 (some ((((),u1.1.1.2.1,()),()),((u3.2.1.1,u3.2.1.2.1,u3.2.1.2.2.1,()),u1.2.2.1,())))))))
def Vp(p1:ABS)(AL:AAB)(AF Aa:Int):Option N1:=Zw (Ng AZ) p1 AL AF Aa
abbrev NC:Type:=AGU×AMQ
abbrev Ql:Type:=Int->List Int->Int->Int->List Int->Int->Int->ACG->Int->ACG->Option NC
def S5(R3:Ql)(t6:Int)(AL:AAB)(AF Aa:Int)(BT:AAB)(Au JN:Int)(b3:ACG)(lP:Int)(b5:ACG):Option NC:=
 (AK 14 AL AF Aa).bind fun u2=>
 cond (decide (t6<u2.1.1))
  ((HR [[],[97],[98,99]] u2.2.1.1 u2.2.1.2.1 u2.2.1.2.2.1).bind fun u3=>
  (G3 (BT,Au,()) (lP,b5,()) u3.1.1).bind fun u4=>
  (BL 2 u3.2.1.1 u3.2.1.2.1 u3.2.1.2.2.1).bind fun u5=>
  cond (u5.1.1)
   ((Fe (b5.length:Int) 1).bind fun u6=>
   (AK u6.1.1 u5.2.1.1 u5.2.1.2.1 u5.2.1.2.2.1).bind fun u7=>
   (AK (BT.length:Int) u7.2.1.1 u7.2.1.2.1 u7.2.1.2.2.1).bind fun u8=>
   (D3 (BT,Au,()) (lP,b5,()) (AW (1+u7.1.1)) u8.1.1).bind fun u9=>
   cond (u9.1.1.2.1)
    (R3 (AW (t6+1)) u8.2.1.1 u8.2.1.2.1 u8.2.1.2.2.1 BT Au JN b3 u9.1.1.1.1 u9.2.1)
   (R3 (AW (t6+1)) u8.2.1.1 u8.2.1.2.1 u8.2.1.2.2.1 BT Au JN b3 lP b5))
  (cond (u4.1.1.2.2.1)
   (R3 (AW (t6+1)) u5.2.1.1 u5.2.1.2.1 u5.2.1.2.2.1 BT Au JN b3 u4.1.1.1.1 u4.2.1)
  (R3 (AW (t6+1)) u5.2.1.1 u5.2.1.2.1 u5.2.1.2.2.1 BT Au JN b3 lP b5)))
 (some (((lP,(),()),()),((u2.2.1.1,u2.2.1.2.1,u2.2.1.2.2.1,()),b5,())))
def I6:Nat->Ql
 |0=>fun _ _ _ _ _ _ _ _ _ _=>none
 |n+1=>S5 (I6 n)
def Sn(R3:Ql)(p1:ABS)(AL:AAB)(AF Aa:Int):Option NC:=
 (AK 4 AL AF Aa).bind fun u1=>
 R3 0 u1.2.1.1 u1.2.1.2.1 u1.2.1.2.2.1 p1.1 p1.2.1 0 [] (AW (1+u1.1.1)) []
def P_(p1:ABS)(AL:AAB)(AF Aa:Int):Option NC:=Sn (I6 AZ) p1 AL AF Aa
abbrev Nv:Type:=AGU×AMQ
abbrev WV:Type:=List Int->Int->Int->Int->ACG->Int->ACG->Option Nv
def Rn(uW:WV)(AL:AAB)(AF Aa BT:Int)(b2:ACG)(jb:Int)(b4:ACG):Option Nv:=
 cond ((decide ((b4.length:Int)<60)))
  (cond ((decide ((b4.length:Int)>0)))
   (if(0:Int)<=(0:Int)/\(0:Int)<(b4.length:Int)then(
   if b4.length+1<=C_ then(
   uW AL AF Aa BT b2 jb (b4++[((b4.getD 0 ([],[],false,())).1,(b4.getD 0 ([],[],false,())).2.1,(b4.getD 0 ([],[],false,())).2.2.1,())]))else none)else none)
  (some (((jb,(),()),()),((AL,AF,Aa,()),b4,()))))
 (some (((jb,(),()),()),((AL,AF,Aa,()),b4,())))
def HY:Nat->WV
 |0=>fun _ _ _ _ _ _ _=>none
 |n+1=>Rn (HY n)
def Om(uW:WV)(p1:ABS)(AL:AAB)(AF Aa:Int):Option Nv:=
 (P_ (p1.1,p1.2.1,()) AL AF Aa).bind fun u1=>
 (AK 25 u1.2.1.1 u1.2.1.2.1 u1.2.1.2.2.1).bind fun u2=>
 cond (u2.1.1==0)
  ((CZ [0,30,31] u2.2.1.1 u2.2.1.2.1 u2.2.1.2.2.1).bind fun u3=>
  some (((u3.1.1,(),()),()),((u3.2.1.1,u3.2.1.2.1,u3.2.1.2.2.1,()),u1.2.2.1,())))
 (cond (u2.1.1==1)
  (cond (decide ((u1.2.2.1.length:Int)>0))
   (if(0:Int)<=(0:Int)/\(0:Int)<(u1.2.2.1.length:Int)then(
   if(0:Int)<=(0:Int)/\(0:Int)<(u1.2.2.1.length:Int)then(
   some (((u1.1.1.1,(),()),()),((u2.2.1.1,u2.2.1.2.1,u2.2.1.2.2.1,()),(u1.2.2.1.set 0 ((u1.2.2.1.getD 0 ([],[],false,())).1,(u1.2.2.1.getD 0 ([],[],false,())).2.1,!((u1.2.2.1.getD 0 ([],[],false,())).2.2.1),())),())))else none)else none)
  (some (((u1.1.1.1,(),()),()),((u2.2.1.1,u2.2.1.2.1,u2.2.1.2.2.1,()),u1.2.2.1,()))))
 (cond (u2.1.1==2)
  ((AK 2 u2.2.1.1 u2.2.1.2.1 u2.2.1.2.2.1).bind fun u7=>
  if(0:Int)<=(AW (40+u7.1.1))/\(AW (40+u7.1.1))<=(AW (40+u7.1.1))/\(AW (40+u7.1.1))<=(C_:Int)then(
  if u1.2.2.1.length+1<=C_ then(
  some (((u1.1.1.1,(),()),()),((u7.2.1.1,u7.2.1.2.1,u7.2.1.2.2.1,()),(u1.2.2.1++[(((List.replicate ((AW (40+u7.1.1)).toNat) 0).map fun n:Int=>UInt8.ofNat n.toNat),[],false,())]),())))else none)else none)
 (cond (u2.1.1==3)
  (uW u2.2.1.1 u2.2.1.2.1 u2.2.1.2.2.1 0 [] u1.1.1.1 u1.2.2.1)
 (some (((u1.1.1.1,(),()),()),((u2.2.1.1,u2.2.1.2.1,u2.2.1.2.2.1,()),u1.2.2.1,()))))))
def Pe(p1:ABS)(AL:AAB)(AF Aa:Int):Option Nv:=Om (HY AZ) p1 AL AF Aa
abbrev G1:Type:=ADI×ADM
abbrev WX:Type:=Int->List Int->Int->List Int->Option G1
def Yb(R3:WX)(t6:Int)(AL:AAB)(AF:Int)(b1:AAB):Option G1:=
 cond ((decide (t6<(AL.length:Int))))
  ((FD (AL,AF,()) b1).bind fun u2=>
  cond (!u2.1.1)
   ((Iv b1 t6).bind fun u3=>
   R3 (AW (t6+1)) AL AF u3.2.1)
  (some (((),()),(b1,()))))
 (some (((),()),(b1,())))
def Ni:Nat->WX
 |0=>fun _ _ _ _=>none
 |n+1=>Yb (Ni n)
def YR(R3:WX)(p0:ABS)(p1:ABY):Option G1:=
 if 0+p1.2.2.1.length<=C_ then(
 R3 0 p0.1 p0.2.1 p1.2.2.1)else none
def NJ(p0:ABS)(p1:ABY):Option G1:=YR (Ni AZ) p0 p1
abbrev Hj:Type:=AFE×AMg
abbrev Lw:Type:=Int->Int->List Int->Int->Int->List Int->Int->Int->Int->Bool->List Int->ABJ->List AAB->Int->Int->Bool->List Int->ABJ->List AAB->Option Hj
abbrev K4:Type:=Int->List Int->Int->Int->List Int->Int->Int->Int->Bool->List Int->ABJ->List AAB->Int->Int->Bool->List Int->ABJ->List AAB->Option Hj
def NI(R4:Lw)(ju:K4)(t6 t7:Int)(AL:AAB)(AF Aa:Int)(BT:AAB)(Au JN LZ:Int)(Qd:Bool)(b3:AAB)(b4:ABJ)(b5:List AAB)(Lr Ka:Int)(Ls:Bool)(b7:AAB)(b8:ABJ)(b9:List AAB):Option Hj:=
 cond (decide (t7<t6))
  ((AK (BT.length:Int) AL AF Aa).bind fun u4=>
  (GW u4.2.1.1 u4.2.1.2.1 u4.2.1.2.2.1).bind fun u5=>
  (JW (u5.2.2.1,u5.2.2.2.1,u5.1.1.2.2.1,()) Ka).bind fun u6=>
  (JY (BT,Au,()) (Lr,Ka,b7,b8,Ls,b9,()) u4.1.1 u6.2.1).bind fun u7=>
  cond (u7.1.1.2.1)
   (R4 t6 (AW (t7+1)) u5.2.1.1 u5.2.1.2.1 u5.2.1.2.2.1 BT Au JN LZ Qd b3 b4 b5 u7.1.1.1.1 u7.1.1.1.2.1 u7.1.1.1.2.2.2.2.1 u7.2.1 u7.2.2.1 u7.2.2.2.1)
  (R4 t6 (AW (t7+1)) u5.2.1.1 u5.2.1.2.1 u5.2.1.2.2.1 BT Au JN LZ Qd b3 b4 b5 Lr Ka Ls b7 b8 b9))
 ((BL 3 AL AF Aa).bind fun QR=>
 cond (QR.1.1)
  (some (((Lr,Ka,(),(),Ls,(),()),()),((QR.2.1.1,QR.2.1.2.1,QR.2.1.2.2.1,()),b7,b8,b9,())))
 ((NJ (BT,Au,()) (Lr,Ka,b7,b8,Ls,b9,())).bind fun ZP=>
 (JS (BT,Au,()) (Lr,Ka,b7,b8,Ls,b9,()) ZP.2.1).bind fun Lt=>
 cond (Lt.1.1.2.1)
  (ju 0 QR.2.1.1 QR.2.1.2.1 QR.2.1.2.2.1 BT Au JN LZ Qd b3 b4 b5 Lt.1.1.1.1 Lt.1.1.1.2.1 Lt.1.1.1.2.2.2.2.1 Lt.2.1 Lt.2.2.1 Lt.2.2.2.1)
 (ju 0 QR.2.1.1 QR.2.1.2.1 QR.2.1.2.2.1 BT Au JN LZ Qd b3 b4 b5 Lr Ka Ls b7 b8 b9)))
def Ml(R4:Lw)(ju:K4)(t12:Int)(AL:AAB)(AF Aa:Int)(BT:AAB)(Au JN LZ:Int)(Qd:Bool)(b3:AAB)(b4:ABJ)(b5:List AAB)(Lr Ka:Int)(Ls:Bool)(b7:AAB)(b8:ABJ)(b9:List AAB):Option Hj:=
 (AK 9 AL AF Aa).bind fun HS=>
 cond ((decide (t12<HS.1.1)))
  ((Fe (b9.length:Int) 1).bind fun iF=>
  (AK iF.1.1 HS.2.1.1 HS.2.1.2.1 HS.2.1.2.2.1).bind fun QK=>
  (AK (BT.length:Int) QK.2.1.1 QK.2.1.2.1 QK.2.1.2.2.1).bind fun Pr=>
  (Em (BT,Au,()) (Lr,Ka,b7,b8,Ls,b9,()) (AW (1+QK.1.1)) Pr.1.1).bind fun T_=>
  cond (T_.1.1.2.1)
   (ju (AW (t12+1)) Pr.2.1.1 Pr.2.1.2.1 Pr.2.1.2.2.1 BT Au JN LZ Qd b3 b4 b5 T_.1.1.1.1 T_.1.1.1.2.1 T_.1.1.1.2.2.2.2.1 T_.2.1 T_.2.2.1 T_.2.2.2.1)
  (ju (AW (t12+1)) Pr.2.1.1 Pr.2.1.2.1 Pr.2.1.2.2.1 BT Au JN LZ Qd b3 b4 b5 Lr Ka Ls b7 b8 b9))
 (some (((Lr,Ka,(),(),Ls,(),()),()),((HS.2.1.1,HS.2.1.2.1,HS.2.1.2.2.1,()),b7,b8,b9,())))
mutual
def CF:Nat->Lw
 |0=>fun _ _ _ _ _ _ _ _ _ _ _ _ _ _ _ _ _ _ _=>none
 |n+1=>NI (CF n) (Bc n)
def Bc:Nat->K4
 |0=>fun _ _ _ _ _ _ _ _ _ _ _ _ _ _ _ _ _ _=>none
 |n+1=>Ml (CF n) (Bc n)
end
def M7(R4:Lw)(ju:K4)(p1:ABS)(AL:AAB)(AF Aa:Int):Option Hj:=
 (AK 2 AL AF Aa).bind fun u1=>
 (NM (AW (1+u1.1.1)) 4).bind fun u2=>
 (AK 5 u1.2.1.1 u1.2.1.2.1 u1.2.1.2.2.1).bind fun u3=>
 R4 u3.1.1 0 u3.2.1.1 u3.2.1.2.1 u3.2.1.2.2.1 p1.1 p1.2.1 0 0 false [] [] [] u2.1.1.1 u2.1.1.2.1 u2.1.1.2.2.2.2.1 u2.2.1 u2.2.2.1 u2.2.2.2.1
def MM(p1:ABS)(AL:AAB)(AF Aa:Int):Option Hj:=M7 (CF AZ) (Bc AZ) p1 AL AF Aa
abbrev ah:Type:=AFE×AMg
def V2(p1:ABS)(AL:AAB)(AF Aa:Int):Option ah:=
 (MM (p1.1,p1.2.1,()) AL AF Aa).bind fun u1=>
 (AK 25 u1.2.1.1 u1.2.1.2.1 u1.2.1.2.2.1).bind fun u2=>
 cond (u2.1.1==0)
  ((CZ [u1.1.1.2.1,30,31] u2.2.1.1 u2.2.1.2.1 u2.2.1.2.2.1).bind fun u3=>
  some (((u3.1.1,u1.1.1.2.1,(),(),u1.1.1.2.2.2.2.1,(),()),()),((u3.2.1.1,u3.2.1.2.1,u3.2.1.2.2.1,()),u1.2.2.1,u1.2.2.2.1,u1.2.2.2.2.1,())))
 (cond (u2.1.1==1)
  (some (((u1.1.1.1,u1.1.1.2.1,(),(),!u1.1.1.2.2.2.2.1,(),()),()),((u2.2.1.1,u2.2.1.2.1,u2.2.1.2.2.1,()),u1.2.2.1,u1.2.2.2.1,u1.2.2.2.2.1,())))
 (cond (u2.1.1==2)
  ((FZ (p1.1,p1.2.1,()) u2.2.1.1 u2.2.1.2.1 u2.2.1.2.2.1).bind fun u4=>
  if u1.2.2.2.2.1.length+1<=C_ then(
  some (((u1.1.1.1,u1.1.1.2.1,(),(),u1.1.1.2.2.2.2.1,(),()),()),((u4.2.1.1,u4.2.1.2.1,u4.2.1.2.2.1,()),u1.2.2.1,u1.2.2.2.1,(u1.2.2.2.2.1++[u4.2.2.1]),())))else none)
 (cond (u2.1.1==3)
  ((SD u2.2.1.1 u2.2.1.2.1 u2.2.1.2.2.1).bind fun u9=>
  if u1.2.2.2.1.length+1<=C_ then(
  some (((u1.1.1.1,u1.1.1.2.1,(),(),u1.1.1.2.2.2.2.1,(),()),()),((u9.2.1.1,u9.2.1.2.1,u9.2.1.2.2.1,()),u1.2.2.1,(u1.2.2.2.1++[(u9.1.1.1,u9.1.1.2.1,u9.1.1.2.2.1,u9.1.1.2.2.2.1,())]),u1.2.2.2.2.1,())))else none)
 (cond (u2.1.1==4)
  ((FZ (p1.1,p1.2.1,()) u2.2.1.1 u2.2.1.2.1 u2.2.1.2.2.1).bind fun KV=>
  some (((u1.1.1.1,u1.1.1.2.1,(),(),u1.1.1.2.2.2.2.1,(),()),()),((KV.2.1.1,KV.2.1.2.1,KV.2.1.2.2.1,()),KV.2.2.1,u1.2.2.2.1,u1.2.2.2.2.1,())))
 (some (((u1.1.1.1,u1.1.1.2.1,(),(),u1.1.1.2.2.2.2.1,(),()),()),((u2.2.1.1,u2.2.1.2.1,u2.2.1.2.2.1,()),u1.2.2.1,u1.2.2.2.1,u1.2.2.2.2.1,())))))))
abbrev GS:Type:=AGn×(AEC×AEF×Unit)
abbrev OV:Type:=Int->List Int->Int->Int->Int->Int->AEF->Int->Int->AEF->Option GS
def Qp(R3:OV)(t4:Int)(AL:AAB)(AF Aa BT Au:Int)(b2:AEF)(jb fq:Int)(b4:AEF):Option GS:=
 (AK 4 AL AF Aa).bind fun u3=>
 cond (decide (t4<u3.1.1))
  ((AK 5 u3.2.1.1 u3.2.1.2.1 u3.2.1.2.2.1).bind fun u4=>
  (FV u4.2.1.1 u4.2.1.2.1 u4.2.1.2.2.1).bind fun u5=>
  if b4.length+1<=C_ then(
  R3 (AW (t4+1)) u5.2.1.1 u5.2.1.2.1 u5.2.1.2.2.1 BT Au b2 jb fq (b4++[(AW (1+u4.1.1),u5.1.1,[],())]))else none)
 ((AK 25 u3.2.1.1 u3.2.1.2.1 u3.2.1.2.2.1).bind fun M6=>
 cond (M6.1.1==0)
  ((CZ [0,31,32] M6.2.1.1 M6.2.1.2.1 M6.2.1.2.2.1).bind fun KV=>
  some (((KV.1.1,fq,(),()),()),((KV.2.1.1,KV.2.1.2.1,KV.2.1.2.2.1,()),b4,())))
 (cond (M6.1.1==1)
  ((CZ [0,60,61,62] M6.2.1.1 M6.2.1.2.1 M6.2.1.2.2.1).bind fun Zn=>
  some (((jb,Zn.1.1,(),()),()),((Zn.2.1.1,Zn.2.1.2.1,Zn.2.1.2.2.1,()),b4,())))
 (cond (M6.1.1==2)
  ((AK 2 M6.2.1.1 M6.2.1.2.1 M6.2.1.2.2.1).bind fun u16=>
  if(0:Int)<=(AW (120+u16.1.1))/\(AW (120+u16.1.1))<=(AW (120+u16.1.1))/\(AW (120+u16.1.1))<=(C_:Int)then(
  some (((jb,fq,(),()),()),((u16.2.1.1,u16.2.1.2.1,u16.2.1.2.2.1,()),(List.replicate ((AW (120+u16.1.1)).toNat) (0,0,[],())),())))else none)
 (some (((jb,fq,(),()),()),((M6.2.1.1,M6.2.1.2.1,M6.2.1.2.2.1,()),b4,()))))))
def Hh:Nat->OV
 |0=>fun _ _ _ _ _ _ _ _ _ _=>none
 |n+1=>Qp (Hh n)
def Qz(R3:OV)(AL:AAB)(AF Aa:Int):Option GS:=
 (AK 3 AL AF Aa).bind fun u1=>
 (AK 5 u1.2.1.1 u1.2.1.2.1 u1.2.1.2.2.1).bind fun u2=>
 R3 0 u2.2.1.1 u2.2.1.2.1 u2.2.1.2.2.1 0 0 [] (AW (1+u1.1.1)) (AW (1+u2.1.1)) []
def KI(AL:AAB)(AF Aa:Int):Option GS:=Qz (Hh AZ) AL AF Aa
abbrev hD:Type:=AG7×(AEC×List Int×AAQ×List Int×AAH×AAj×AA6×ABA×AAT×Unit)
def Ik(p1 AL:AAB)(AF Aa:Int):Option hD:=
 (Vk p1 40 90).bind fun u1=>
 (LK u1.1.1 AL AF Aa).bind fun u2=>
 let x4:AAB:=u2.2.2.2.2.2.2.2.2.2.2.2.1
 let x5:AAQ:=u2.2.2.2.2.2.2.2.2.2.2.2.2.1
 let x6:AAB:=u2.2.2.2.2.2.2.2.2.2.2.2.2.2.1
 let x7:AAH:=u2.2.2.2.2.2.2.2.2.2.2.2.2.2.2.1
 let x8:AAj:=u2.2.2.2.2.2.2.2.2.2.2.2.2.2.2.2.1
 let x9:AA6:=u2.2.2.2.2.2.2.2.2.2.2.2.2.2.2.2.2.1
 let Xv:ABA:=u2.2.2.2.2.2.2.2.2.2.2.2.2.2.2.2.2.2.1
 let bG:AAT:=u2.2.2.2.2.2.2.2.2.2.2.2.2.2.2.2.2.2.2.1
 (AK 40 u2.2.1.1 u2.2.1.2.1 u2.2.1.2.2.1).bind fun Dw=>
 cond (Dw.1.1==0)
  ((FZ (x4,u2.1.1.2.2.1.2.1,()) Dw.2.1.1 Dw.2.1.2.1 Dw.2.1.2.2.1).bind fun M6=>
  some ((((),u2.1.1.2.2.1.2.1,(),(),(),u2.1.1.2.2.1.2.2.2.2.2.1,(),(),(),(),u2.1.1.2.2.1.2.2.2.2.2.2.2.2.2.2.1,()),()),((M6.2.1.1,M6.2.1.2.1,M6.2.1.2.2.1,()),x4,x5,M6.2.2.1,x7,x8,x9,Xv,bG,())))
 (cond (Dw.1.1==1)
  ((V9 Dw.2.1.1 Dw.2.1.2.1 Dw.2.1.2.2.1).bind fun KV=>
  if(0:Int)<=(0:Int)/\(0:Int)<(x5.length:Int)then(
  some ((((),u2.1.1.2.2.1.2.1,(),(),(),u2.1.1.2.2.1.2.2.2.2.2.1,(),(),(),(),u2.1.1.2.2.1.2.2.2.2.2.2.2.2.2.2.1,()),()),((KV.2.1.1,KV.2.1.2.1,KV.2.1.2.2.1,()),x4,(x5.set 0 (KV.2.2.1,KV.2.2.2.1,KV.1.1.2.2.1,())),x6,x7,x8,x9,Xv,bG,())))else none)
 (cond (Dw.1.1==2)
  ((Vp (x4,u2.1.1.2.2.1.2.1,()) Dw.2.1.1 Dw.2.1.2.1 Dw.2.1.2.2.1).bind fun u16=>
  some ((((),u2.1.1.2.2.1.2.1,(),(),(),u16.1.1.2.1,(),(),(),(),u2.1.1.2.2.1.2.2.2.2.2.2.2.2.2.2.1,()),()),((u16.2.1.1,u16.2.1.2.1,u16.2.1.2.2.1,()),x4,x5,x6,u16.2.2.1,x8,x9,Xv,bG,())))
 (cond (Dw.1.1==3)
  ((Pe (x4,u2.1.1.2.2.1.2.1,()) Dw.2.1.1 Dw.2.1.2.1 Dw.2.1.2.2.1).bind fun ZK=>
  if x8.length+1<=C_ then(
  some ((((),u2.1.1.2.2.1.2.1,(),(),(),u2.1.1.2.2.1.2.2.2.2.2.1,(),(),(),(),u2.1.1.2.2.1.2.2.2.2.2.2.2.2.2.2.1,()),()),((ZK.2.1.1,ZK.2.1.2.1,ZK.2.1.2.2.1,()),x4,x5,x6,x7,(x8++[(ZK.1.1.1,ZK.2.2.1,())]),x9,Xv,bG,())))else none)
 (cond (Dw.1.1==4)
  ((V2 (x4,u2.1.1.2.2.1.2.1,()) Dw.2.1.1 Dw.2.1.2.1 Dw.2.1.2.2.1).bind fun HS=>
  if x9.length+1<=C_ then(
  some ((((),u2.1.1.2.2.1.2.1,(),(),(),u2.1.1.2.2.1.2.2.2.2.2.1,(),(),(),(),u2.1.1.2.2.1.2.2.2.2.2.2.2.2.2.2.1,()),()),((HS.2.1.1,HS.2.1.2.1,HS.2.1.2.2.1,()),x4,x5,x6,x7,x8,(x9++[(HS.1.1.1,HS.1.1.2.1,HS.2.2.1,HS.2.2.2.1,HS.1.1.2.2.2.2.1,HS.2.2.2.2.1,())]),Xv,bG,())))else none)
 (cond (Dw.1.1==5)
  ((KI Dw.2.1.1 Dw.2.1.2.1 Dw.2.1.2.2.1).bind fun eF=>
  if(0:Int)<=(0:Int)/\(0:Int)<(Xv.length:Int)then(
  some ((((),u2.1.1.2.2.1.2.1,(),(),(),u2.1.1.2.2.1.2.2.2.2.2.1,(),(),(),(),u2.1.1.2.2.1.2.2.2.2.2.2.2.2.2.2.1,()),()),((eF.2.1.1,eF.2.1.2.1,eF.2.1.2.2.1,()),x4,x5,x6,x7,x8,x9,(Xv.set 0 (eF.1.1.1,eF.1.1.2.1,eF.2.2.1,())),bG,())))else none)
 (cond (Dw.1.1==6)
  ((FV Dw.2.1.1 Dw.2.1.2.1 Dw.2.1.2.2.1).bind fun bV=>
  if bG.length+1<=C_ then(
  some ((((),u2.1.1.2.2.1.2.1,(),(),(),u2.1.1.2.2.1.2.2.2.2.2.1,(),(),(),(),u2.1.1.2.2.1.2.2.2.2.2.2.2.2.2.2.1,()),()),((bV.2.1.1,bV.2.1.2.1,bV.2.1.2.2.1,()),x4,x5,x6,x7,x8,x9,Xv,(bG++[(bV.1.1,[],false,())]),())))else none)
 (cond (Dw.1.1==7)
  (some ((((),u2.1.1.2.2.1.2.1,(),(),(),u2.1.1.2.2.1.2.2.2.2.2.1,(),(),(),(),!u2.1.1.2.2.1.2.2.2.2.2.2.2.2.2.2.1,()),()),((Dw.2.1.1,Dw.2.1.2.1,Dw.2.1.2.2.1,()),x4,x5,x6,x7,x8,x9,Xv,bG,())))
 (cond (Dw.1.1==8)
  ((Sa Dw.2.1.1 Dw.2.1.2.1 Dw.2.1.2.2.1).bind fun n_=>
  some ((((),n_.1.1.2.1,(),(),(),u2.1.1.2.2.1.2.2.2.2.2.1,(),(),(),(),u2.1.1.2.2.1.2.2.2.2.2.2.2.2.2.2.1,()),()),((n_.2.1.1,n_.2.1.2.1,n_.2.1.2.2.1,()),n_.2.2.1,x5,x6,x7,x8,x9,Xv,bG,())))
 (some ((((),u2.1.1.2.2.1.2.1,(),(),(),u2.1.1.2.2.1.2.2.2.2.2.1,(),(),(),(),u2.1.1.2.2.1.2.2.2.2.2.2.2.2.2.2.1,()),()),((Dw.2.1.1,Dw.2.1.2.1,Dw.2.1.2.2.1,()),x4,x5,x6,x7,x8,x9,Xv,bG,())))))))))))
abbrev dm:Type:=AEJ×AE2
def Ed(p0:ABS)(p1:ACc):Option dm:=
 (Ll (p0.1,p0.2.1,()) (p1.1,p1.2.1,())).bind fun u1=>
 cond (!u1.1.1)
  (some ((((),0,()),()),([],())))
 ((Eo (p1.1,p1.2.1,())).bind fun u2=>
 some ((((),u2.1.1.2.1,()),()),(u2.2.1,())))
abbrev fK:Type:=(AKm×Unit)×AE2
def M3(p0:ABS)(p1:ACc)(p2:AAB):Option fK:=
 (Ll (p0.1,p0.2.1,()) (p1.1,p1.2.1,())).bind fun u1=>
 cond (!u1.1.1)
  ((Ed (p0.1,p0.2.1,()) (p1.1,p1.2.1,())).bind fun u2=>
  some (((((),u2.1.1.2.1,()),0,false,()),()),(u2.2.1,())))
 ((Gz (p0.1,p0.2.1,()) p2).bind fun u3=>
 cond (!u3.1.1)
  ((Ed (p0.1,p0.2.1,()) (p1.1,p1.2.1,())).bind fun u4=>
  some (((((),u4.1.1.2.1,()),0,false,()),()),(u4.2.1,())))
 (cond (((p1.1.length:Int)==30))
  ((Ed (p0.1,p0.2.1,()) (p1.1,p1.2.1,())).bind fun u6=>
  some (((((),u6.1.1.2.1,()),0,false,()),()),(u6.2.1,())))
 ((Eo (p1.1,p1.2.1,())).bind fun u7=>
 (DU p2).bind fun u8=>
 if u7.2.1.length+1<=C_ then(
 let x9:AAH:=u7.2.1++[(u8.2.1,false,0,())]
 some (((((),u7.1.1.2.1,()),(x9.length:Int),true,()),()),(x9,())))else none)))
abbrev Zo:Type:=ABq×(AEp×List Int×AAQ×List Int×Unit×Unit×Unit×ABA×AAT×AAH×AAj×AA6×Unit)
def Km(p1 AF Ab:Int)(AM:Bool)(b1:AAB)(b2:AAQ)(b3:AAB)(b4:AAH)(b5:AAj)(b6:AA6)(b7:ABA)(b8:AAT):Option Zo:=
 cond (((b5.length:Int)==4))
  (some ((4,()),(((),AF,(),(),(),Ab,(),(),(),(),AM,()),b1,b2,b3,(),(),(),b7,b8,b4,b5,b6,())))
 ((IE p1).bind fun u2=>
 (M3 (b1,AF,()) (b4,Ab,()) u2.2.1).bind fun u3=>
 cond (!u3.1.1.2.2.1)
  (some ((4,()),(((),AF,(),(),(),Ab,(),(),(),(),AM,()),b1,b2,b3,(),(),(),b7,b8,b4,b5,b6,())))
 (if b5.length+1<=C_ then(
 some ((0,()),(((),AF,(),(),(),u3.1.1.1.2.1,(),(),(),(),AM,()),b1,b2,b3,(),(),(),b7,b8,u3.2.1,(b5++[(u3.1.1.2.1,[],())]),[],())))else none))
abbrev YE:Type:=AGU×AE5
def Ea(p0:ABS)(p1:ACi):Option YE:=
 (Gv (p0.1,p0.2.1,()) (p1.1,p1.2.1,())).bind fun u1=>
 cond (!u1.1.1)
  (some (((0,(),()),()),([],())))
 ((GF (p1.1,p1.2.1,())).bind fun u2=>
 some (((u2.1.1.1,(),()),()),(u2.2.1,())))
abbrev bl:Type:=(AKo×Unit)×AE5
def KC(p0:ABS)(p1:ACi)(p2:ACH):Option bl:=
 (GF (p1.1,p1.2.1,())).bind fun u1=>
 if u1.2.1.length+1<=C_ then(
 let x2:ACG:=u1.2.1++[(p2,[],false,())]
 (Gv (p0.1,p0.2.1,()) (p1.1,p1.2.1,())).bind fun u3=>
 cond (!u3.1.1)
  ((Ea (p0.1,p0.2.1,()) (p1.1,p1.2.1,())).bind fun u4=>
  some ((((u4.1.1.1,(),()),0,false,()),()),(u4.2.1,())))
 ((Gv (p0.1,p0.2.1,()) (u1.1.1.1,x2,())).bind fun u5=>
 cond (!u5.1.1)
  ((Ea (p0.1,p0.2.1,()) (p1.1,p1.2.1,())).bind fun u6=>
  some ((((u6.1.1.1,(),()),0,false,()),()),(u6.2.1,())))
 (some ((((u1.1.1.1,(),()),(x2.length:Int),true,()),()),(x2,())))))else none
abbrev eQ:Type:=ABq×Unit
def L5(p0:AHt)(p1:Int):Option eQ:=
 some ((AW (p0.1-p1),()),())
abbrev BW:Type:=AFk×Unit
abbrev Bw:Type:=AAT->Int->Int->Int->Int->Option BW
def Cs(R3:Bw)(t0:AAT)(t1 t8 t9 t10:Int):Option BW:=
 cond (decide (t9<t10))
  (let x2:Int:=AW ((IntKind.wrap .u64 (AW (t9+t10))).fdiv (2^1))
  if(0:Int)<=x2/\x2<(t0.length:Int)then(
  (L5 ((t0.getD (x2.toNat) (0,[],false,())).1,(t0.getD (x2.toNat) (0,[],false,())).2.1,(t0.getD (x2.toNat) (0,[],false,())).2.2.1,()) t1).bind fun u3=>
  cond (decide (u3.1.1<0))
   (R3 t0 t1 t8 (AW (x2+1)) t10)
  (R3 t0 t1 t8 t9 x2))else none)
 (cond (decide (t9<t8))
  (if(0:Int)<=t9/\t9<(t0.length:Int)then(
  (L5 ((t0.getD (t9.toNat) (0,[],false,())).1,(t0.getD (t9.toNat) (0,[],false,())).2.1,(t0.getD (t9.toNat) (0,[],false,())).2.2.1,()) t1).bind fun u4=>
  some (((t9,u4.1.1==0,()),()),()))else none)
 (some (((t9,false,()),()),())))
def Aw:Nat->Bw
 |0=>fun _ _ _ _ _=>none
 |n+1=>Cs (Aw n)
def Ct(R3:Bw)(p0:AAT)(p1:Int):Option BW:=
 R3 p0 p1 (p0.length:Int) 0 (p0.length:Int)
def Bb(p0:AAT)(p1:Int):Option BW:=Ct (Aw AZ) p0 p1
abbrev Wu:Type:=AFk×Unit
def Ir(p0:ABl)(p1:Int):Option Wu:=
 (Bb p0.2.2.2.2.2.2.2.2.2.1 p1).bind fun u1=>
 some (((u1.1.1.1,u1.1.1.2.1,()),()),())
abbrev JQ:Type:=ADI×(Unit×AAT×Unit)
def EZ(p1:Int)(p2 b0:AAT):Option JQ:=(xq p1 p2 b0).map fun l=>(((),()),((),l,()))
abbrev bI:Type:=ABq×(AEp×List Int×AAQ×List Int×AAH×AAj×AA6×ABA×Unit×AAT×Unit)
def ME(p1:Int)(p2:ACH)(AF Ab:Int)(AM:Bool)(b1:AAB)(b2:AAQ)(b3:AAB)(b4:AAH)(b5:AAj)(b6:AA6)(b7:ABA)(b8:AAT):Option bI:=
 (BE p1 0 (AW ((b5.length:Int)-1))).bind fun u2=>
 cond (!u2.1.1)
  (some ((2,()),(((),AF,(),(),(),Ab,(),(),(),(),AM,()),b1,b2,b3,b4,b5,b6,b7,(),b8,())))
 (if(0:Int)<=p1/\p1<(b5.length:Int)then(
 (KC (b1,AF,()) ((b5.getD (p1.toNat) (0,[],())).1,(b5.getD (p1.toNat) (0,[],())).2.1,()) p2).bind fun u3=>
 (D2 u3.1.1.1.1 u3.1.1.2.1).bind fun u4=>
 (Ir (b1,AF,b2,b3,b4,Ab,b5,b6,b7,b8,AM,()) u4.1.1.1).bind fun u5=>
 cond (!u3.1.1.2.2.1)
  (some ((4,()),(((),AF,(),(),(),Ab,(),(),(),(),AM,()),b1,b2,b3,b4,b5,b6,b7,(),b8,())))
 (cond (((b8.length:Int)==120))
  (some ((4,()),(((),AF,(),(),(),Ab,(),(),(),(),AM,()),b1,b2,b3,b4,b5,b6,b7,(),b8,())))
 (cond (u5.1.1.2.1)
  (some ((4,()),(((),AF,(),(),(),Ab,(),(),(),(),AM,()),b1,b2,b3,b4,b5,b6,b7,(),b8,())))
 (if(0:Int)<=p1/\p1<(b5.length:Int)then(
 (EZ u5.1.1.1 [(u4.1.1.1,p2,false,())] b8).bind fun u8=>
 some ((0,()),(((),AF,(),(),(),Ab,(),(),(),(),AM,()),b1,b2,b3,b4,(b5.set (p1.toNat) (u3.1.1.1.1,u3.2.1,())),b6,b7,(),u8.2.2.1,())))else none))))else none)
abbrev eN:Type:=ABq×Unit
def Ej(p0:ABl)(p1:Int):Option eN:=
 (BE p1 0 (AW ((p0.2.2.1.length:Int)-1))).bind fun u2=>
 cond (!u2.1.1)
  (some ((2,()),()))
 ((DH p0 p1).bind fun u3=>
 cond (u3.1.1)
  (some ((3,()),()))
 (some ((0,()),())))
abbrev eC:Type:=ADI×ADM
def H8(p0:ACc)(p1:Int):Option eC:=
 (BE p1 1 (p0.1.length:Int)).bind fun u1=>
 cond (!u1.1.1)
  (some (((),()),([],())))
 (if(0:Int)<=AW (p1-1)/\AW (p1-1)<(p0.1.length:Int)then(
 (DU ((p0.1.getD ((AW (p1-1)).toNat) ([],false,0,())).1)).bind fun u2=>
 some (((),()),(u2.2.1,())))else none)
abbrev Ib:Type:=ABq×Unit
def Dt(p0:ABl)(p1 p2:Int):Option Ib:=
 (Ej p0 p1).bind fun u1=>
 cond (u1.1.1==0)
  ((H8 (p0.2.2.2.2.1,p0.2.2.2.2.2.1,()) p2).bind fun u2=>
  (Bv u2.2.1 p1).bind fun u3=>
  cond (!u3.1.1)
   (some ((2,()),()))
  (some ((u1.1.1,()),())))
 (some ((u1.1.1,()),()))
abbrev lT:Type:=AFW×AEK
def Dy(p0:ACd):Option lT:=
 (FU (p0.1,p0.2.1,p0.2.2.1,())).bind fun u1=>
 cond (!u1.1.1)
  (some ((((),(),0,()),()),([],[],())))
 ((DJ (p0.1,p0.2.1,p0.2.2.1,())).bind fun u2=>
 some ((((),(),u2.1.1.2.2.1,()),()),(u2.2.1,u2.2.2.1,())))
abbrev pX:Type:=AEV×AEK
def VC(p0:ACd)(p1:AD_):Option pX:=
 (FU (p0.1,p0.2.1,p0.2.2.1,())).bind fun u1=>
 cond (!u1.1.1)
  ((Dy (p0.1,p0.2.1,p0.2.2.1,())).bind fun u2=>
  some (((((),(),u2.1.1.2.2.1,()),false,()),()),(u2.2.1,u2.2.2.1,())))
 ((NU (p1.1,p1.2.1,p1.2.2.1,p1.2.2.2.1,())).bind fun u3=>
 cond (!u3.1.1)
  ((Dy (p0.1,p0.2.1,p0.2.2.1,())).bind fun u4=>
  some (((((),(),u4.1.1.2.2.1,()),false,()),()),(u4.2.1,u4.2.2.1,())))
 (cond ((p0.2.1.length:Int)==20)
  ((Dy (p0.1,p0.2.1,p0.2.2.1,())).bind fun u6=>
  some (((((),(),u6.1.1.2.2.1,()),false,()),()),(u6.2.1,u6.2.2.1,())))
 (cond (p1.2.1==0)
  ((FW p1.1).bind fun u7=>
  cond ((decide (u7.1.1<=p0.2.2.1)))
   ((DJ (p0.1,p0.2.1,p0.2.2.1,())).bind fun u9=>
   some (((((),(),u9.1.1.2.2.1,()),false,()),()),(u9.2.1,u9.2.2.1,())))
  (cond (decide (p1.2.1>0))
   (cond ((decide (p1.2.1<=p0.2.2.1)))
    ((DJ (p0.1,p0.2.1,p0.2.2.1,())).bind fun Mv=>
    some (((((),(),Mv.1.1.2.2.1,()),false,()),()),(Mv.2.1,Mv.2.2.1,())))
   ((DJ (p0.1,p0.2.1,p0.2.2.1,())).bind fun Dw=>
   if Dw.2.2.1.length+1<=C_ then(
   some (((((),(),Dw.1.1.2.2.1,()),true,()),()),(Dw.2.1,(Dw.2.2.1++[(p1.1,p1.2.1,p1.2.2.1,p1.2.2.2.1,())]),())))else none))
  ((DJ (p0.1,p0.2.1,p0.2.2.1,())).bind fun KV=>
  if KV.2.2.1.length+1<=C_ then(
  some (((((),(),KV.1.1.2.2.1,()),true,()),()),(KV.2.1,(KV.2.2.1++[(p1.1,p1.2.1,p1.2.2.1,p1.2.2.2.1,())]),())))else none)))
 (cond (decide (p1.2.1>0))
  (cond ((decide (p1.2.1<=p0.2.2.1)))
   ((DJ (p0.1,p0.2.1,p0.2.2.1,())).bind fun ZK=>
   some (((((),(),ZK.1.1.2.2.1,()),false,()),()),(ZK.2.1,ZK.2.2.1,())))
  ((DJ (p0.1,p0.2.1,p0.2.2.1,())).bind fun QR=>
  if QR.2.2.1.length+1<=C_ then(
  some (((((),(),QR.1.1.2.2.1,()),true,()),()),(QR.2.1,(QR.2.2.1++[(p1.1,p1.2.1,p1.2.2.1,p1.2.2.2.1,())]),())))else none))
 ((DJ (p0.1,p0.2.1,p0.2.2.1,())).bind fun Lt=>
 if Lt.2.2.1.length+1<=C_ then(
 some (((((),(),Lt.1.1.2.2.1,()),true,()),()),(Lt.2.1,(Lt.2.2.1++[(p1.1,p1.2.1,p1.2.2.1,p1.2.2.2.1,())]),())))else none)))))
abbrev fc:Type:=ABq×Unit
def Kt(p0:Bool):Option fc:=
 cond (p0)
  (some ((0,()),()))
 (some ((4,()),()))
abbrev bd:Type:=ABq×AE0
def MC(p1:Int)(p2:AD_)(AF Ab:Int)(AM:Bool)(b1:AAB)(b2:AAQ)(b3:AAB)(b4:AAH)(b5:AAj)(b6:AA6)(b7:ABA)(b8:AAT):Option bd:=
 if(0:Int)<=p1/\p1<(b2.length:Int)then(
 (VC ((b2.getD (p1.toNat) ([],[],0,())).1,(b2.getD (p1.toNat) ([],[],0,())).2.1,(b2.getD (p1.toNat) ([],[],0,())).2.2.1,()) (p2.1,p2.2.1,p2.2.2.1,p2.2.2.2.1,())).bind fun u1=>
 cond (u1.1.1.2.1)
  (if(0:Int)<=p1/\p1<(b2.length:Int)then(
  (Kt u1.1.1.2.1).bind fun u3=>
  some ((u3.1.1,()),(((),AF,(),(),(),Ab,(),(),(),(),AM,()),b1,(b2.set (p1.toNat) (u1.2.1,u1.2.2.1,u1.1.1.1.2.2.1,())),b3,b4,b5,b6,b7,b8,())))else none)
 ((Kt u1.1.1.2.1).bind fun u4=>
 some ((u4.1.1,()),(((),AF,(),(),(),Ab,(),(),(),(),AM,()),b1,b2,b3,b4,b5,b6,b7,b8,()))))else none
abbrev jA:Type:=ABq×AE0
def Jl(p1:ADe)(AF Ab:Int)(AM:Bool)(b1:AAB)(b2:AAQ)(b3:AAB)(b4:AAH)(b5:AAj)(b6:AA6)(b7:ABA)(b8:AAT):Option jA:=
 (BE p1.2.1 0 (AW ((b5.length:Int)-1))).bind fun u2=>
 cond (!u2.1.1)
  (some ((2,()),(((),AF,(),(),(),Ab,(),(),(),(),AM,()),b1,b2,b3,b4,b5,b6,b7,b8,())))
 (if(0:Int)<=p1.2.1/\p1.2.1<(b5.length:Int)then(
 (BE p1.2.2.1 1 (((b5.getD (p1.2.1.toNat) (0,[],())).2.1).length:Int)).bind fun u4=>
 cond (!u4.1.1)
  (some ((2,()),(((),AF,(),(),(),Ab,(),(),(),(),AM,()),b1,b2,b3,b4,b5,b6,b7,b8,())))
 ((Dt (b1,AF,b2,b3,b4,Ab,b5,b6,b7,b8,AM,()) p1.2.2.2.1 ((b5.getD (p1.2.1.toNat) (0,[],())).1)).bind fun u6=>
 cond (u6.1.1 !=0)
  (some ((u6.1.1,()),(((),AF,(),(),(),Ab,(),(),(),(),AM,()),b1,b2,b3,b4,b5,b6,b7,b8,())))
 ((D2 ((b5.getD (p1.2.1.toNat) (0,[],())).1) p1.2.2.1).bind fun u8=>
 if(0:Int)<=AW (p1.2.2.1-1)/\AW (p1.2.2.1-1)<(((b5.getD (p1.2.1.toNat) (0,[],())).2.1).length:Int)then(
 (MC p1.2.2.2.1 (u8.1.1.1,0,false,((((b5.getD (p1.2.1.toNat) (0,[],())).2.1).getD ((AW (p1.2.2.1-1)).toNat) ([],[],false,())).1),()) AF Ab AM b1 b2 b3 b4 b5 b6 b7 b8).bind fun EI=>
 some ((EI.1.1,()),(((),EI.2.1.2.1,(),(),(),EI.2.1.2.2.2.2.2.1,(),(),(),(),EI.2.1.2.2.2.2.2.2.2.2.2.2.1,()),EI.2.2.1,EI.2.2.2.1,EI.2.2.2.2.1,EI.2.2.2.2.2.1,EI.2.2.2.2.2.2.1,EI.2.2.2.2.2.2.2.1,EI.2.2.2.2.2.2.2.2.1,EI.2.2.2.2.2.2.2.2.2.1,())))else none)))else none)
abbrev QB:Type:=ADI×AHu
def EB(p1:Int)(p2 b0:ABJ):Option QB:=(xq p1 p2 b0).map fun l=>(((),()),((),l,()))
abbrev yl:Type:=ADI×AHu
def Xs(p1:AD_)(b0:ABJ):Option yl:=
 (S9 b0 p1.1).bind fun u1=>
 cond (!u1.1.1.2.1)
  ((EB u1.1.1.1 [(p1.1,p1.2.1,p1.2.2.1,p1.2.2.2.1,())] b0).bind fun u2=>
  some (((),()),((),u2.2.2.1,())))
 (if(0:Int)<=u1.1.1.1/\u1.1.1.1<(b0.length:Int)then(
 (SE ((b0.getD (u1.1.1.1.toNat) (0,0,false,[],())).1,(b0.getD (u1.1.1.1.toNat) (0,0,false,[],())).2.1,(b0.getD (u1.1.1.1.toNat) (0,0,false,[],())).2.2.1,(b0.getD (u1.1.1.1.toNat) (0,0,false,[],())).2.2.2.1,()) (p1.1,p1.2.1,p1.2.2.1,p1.2.2.2.1,())).bind fun u3=>
 if(0:Int)<=u1.1.1.1/\u1.1.1.1<(b0.length:Int)then(
 some (((),()),((),(b0.set (u1.1.1.1.toNat) (u3.1.1.1,u3.1.1.2.1,u3.1.1.2.2.1,u3.1.1.2.2.2.1,())),())))else none)else none)
abbrev OZ:Type:=AEV×AEK
abbrev Ry:Type:=Int->ABJ->Int->Int->ABJ->ABJ->Int->Int->ABJ->ABJ->Int->ABJ->ABJ->Option OZ
def UU(R6:Ry)(t1:Int)(t23:ABJ)(t24 t25:Int)(AL AF:ABJ)(Aa Da:Int)(b2 b3:ABJ)(M_:Int)(b5 b6:ABJ):Option OZ:=
 cond (decide (t25<t24))
  (if(0:Int)<=t25/\t25<(t23.length:Int)then(
  if t25<0 then none else(
  cond (((eP .i64 (t1.fdiv (2^(min t25.toNat 64))) 1)==1))
   ((Xs ((t23.getD (t25.toNat) (0,0,false,[],())).1,(t23.getD (t25.toNat) (0,0,false,[],())).2.1,(t23.getD (t25.toNat) (0,0,false,[],())).2.2.1,(t23.getD (t25.toNat) (0,0,false,[],())).2.2.2.1,()) b5).bind fun u9=>
   R6 t1 t23 t24 (AW (t25+1)) AL AF Aa Da b2 b3 M_ u9.2.2.1 b6)
  (R6 t1 t23 t24 (AW (t25+1)) AL AF Aa Da b2 b3 M_ b5 b6)))else none)
 (cond ((decide ((b5.length:Int)>200)))
  ((DJ (AL,AF,Aa,())).bind fun Mv=>
  some (((((),(),Mv.1.1.2.2.1,()),false,()),()),(Mv.2.1,Mv.2.2.1,())))
 (some (((((),(),M_,()),true,()),()),(b5,b6,()))))
def J_:Nat->Ry
 |0=>fun _ _ _ _ _ _ _ _ _ _ _ _ _=>none
 |n+1=>UU (J_ n)
def UX(R6:Ry)(p0:ACd)(p1:Int):Option OZ:=
 (FU (p0.1,p0.2.1,p0.2.2.1,())).bind fun u1=>
 cond (!u1.1.1)
  ((Dy (p0.1,p0.2.1,p0.2.2.1,())).bind fun u2=>
  some (((((),(),u2.1.1.2.2.1,()),false,()),()),(u2.2.1,u2.2.2.1,())))
 ((BE p1 0 1048575).bind fun u3=>
 cond (!u3.1.1)
  ((Dy (p0.1,p0.2.1,p0.2.2.1,())).bind fun u4=>
  some (((((),(),u4.1.1.2.2.1,()),false,()),()),(u4.2.1,u4.2.2.1,())))
 ((DJ (p0.1,p0.2.1,p0.2.2.1,())).bind fun u5=>
 R6 p1 p0.2.1 (p0.2.1.length:Int) 0 p0.1 p0.2.1 p0.2.2.1 0 [] [] u5.1.1.2.2.1 u5.2.1 []))
def Nj(p0:ACd)(p1:Int):Option OZ:=UX (J_ AZ) p0 p1
abbrev mm:Type:=AEV×AEK
def O4(p0:ACd):Option mm:=
 (Nj (p0.1,p0.2.1,p0.2.2.1,()) 1048575).bind fun u1=>
 some (((((),(),u1.1.1.1.2.2.1,()),u1.1.1.2.1,()),()),(u1.2.1,u1.2.2.1,()))
abbrev o6:Type:=ABi×Unit
def cmp_isNaN_int(p0:Int):Option o6:=
 some ((p0 !=p0,()),())
abbrev qc:Type:=ABi×Unit
def cmp_Less_int(p0 p1:Int):Option qc:=
 (cmp_isNaN_int p0).bind fun u1=>
 cond (u1.1.1)
  ((cmp_isNaN_int p1).bind fun u2=>
  cond (!u2.1.1)
   (some ((true,()),()))
  (some ((decide (p0<p1),()),())))
 (some ((decide (p0<p1),()),()))
abbrev jq:Type:=ABi×Unit
def P7(p0:Int):Option jq:=
 some ((p0 !=p0,()),())
abbrev Fi:Type:=AFk×Unit
abbrev Hn:Type:=List Int->Int->Int->Int->Int->Option Fi
def KW(R3:Hn)(t0:AAB)(t1 t6 t7 t8:Int):Option Fi:=
 cond (decide (t7<t8))
  (let x2:Int:=AW ((IntKind.wrap .u64 (AW (t7+t8))).fdiv (2^1))
  if(0:Int)<=x2/\x2<(t0.length:Int)then(
  (cmp_Less_int (t0.getD (x2.toNat) 0) t1).bind fun u4=>
  cond (u4.1.1)
   (R3 t0 t1 t6 (AW (x2+1)) t8)
  (R3 t0 t1 t6 t7 x2))else none)
 (cond (decide (t7<t6))
  (if(0:Int)<=t7/\t7<(t0.length:Int)then(
  cond ((t0.getD (t7.toNat) 0)==t1)
   (some (((t7,true,()),()),()))
  (if(0:Int)<=t7/\t7<(t0.length:Int)then(
  (P7 (t0.getD (t7.toNat) 0)).bind fun u7=>
  cond (u7.1.1)
   ((P7 t1).bind fun u8=>
   some (((t7,u8.1.1,()),()),()))
  (some (((t7,false,()),()),())))else none))else none)
 (some (((t7,false,()),()),())))
def D1:Nat->Hn
 |0=>fun _ _ _ _ _=>none
 |n+1=>KW (D1 n)
def KX(R3:Hn)(p0:AAB)(p1:Int):Option Fi:=
 R3 p0 p1 (p0.length:Int) 0 (p0.length:Int)
def Gh(p0:AAB)(p1:Int):Option Fi:=KX (D1 AZ) p0 p1
abbrev bc:Type:=ADI×AHr
def KP(p1:Int)(p2 b0:AAB):Option bc:=(xq p1 p2 b0).map fun l=>(((),()),((),l,()))
abbrev pr:Type:=ADI×ADM
def Lh(p0:AAB)(p1:Int):Option pr:=
 (DU p0).bind fun u1=>
 (Gh u1.2.1 p1).bind fun u2=>
 cond (!u2.1.1.2.1)
  ((KP u2.1.1.1 [p1] u1.2.1).bind fun u3=>
  some (((),()),(u3.2.2.1,())))
 (some (((),()),(u1.2.1,())))
abbrev mK:Type:=AHj×AE5
def Tt(p0:ABS)(p1:ACi)(p2 p3:Int):Option mK:=
 (Gv (p0.1,p0.2.1,()) (p1.1,p1.2.1,())).bind fun u1=>
 cond (!u1.1.1)
  ((Ea (p0.1,p0.2.1,()) (p1.1,p1.2.1,())).bind fun u2=>
  some ((((u2.1.1.1,(),()),false,()),()),(u2.2.1,())))
 ((BE p2 1 (p1.2.1.length:Int)).bind fun u4=>
 cond (!u4.1.1)
  ((Ea (p0.1,p0.2.1,()) (p1.1,p1.2.1,())).bind fun u5=>
  some ((((u5.1.1.1,(),()),false,()),()),(u5.2.1,())))
 (if(0:Int)<=AW (p2-1)/\AW (p2-1)<(p1.2.1.length:Int)then(
 cond (((p1.2.1.getD ((AW (p2-1)).toNat) ([],[],false,())).2.2.1))
  ((Ea (p0.1,p0.2.1,()) (p1.1,p1.2.1,())).bind fun u7=>
  some ((((u7.1.1.1,(),()),false,()),()),(u7.2.1,())))
 ((BE p3 0 (AW ((p0.1.length:Int)-1))).bind fun u9=>
 cond (!u9.1.1)
  ((Ea (p0.1,p0.2.1,()) (p1.1,p1.2.1,())).bind fun EI=>
  some ((((EI.1.1.1,(),()),false,()),()),(EI.2.1,())))
 ((GF (p1.1,p1.2.1,())).bind fun Mv=>
 if(0:Int)<=AW (p2-1)/\AW (p2-1)<(Mv.2.1.length:Int)then(
 (Lh ((Mv.2.1.getD ((AW (p2-1)).toNat) ([],[],false,())).2.1) p3).bind fun Dw=>
 let x13:ACG:=(Mv.2.1.set ((AW (p2-1)).toNat) ((Mv.2.1.getD ((AW (p2-1)).toNat) ([],[],false,())).1,Dw.2.1,(Mv.2.1.getD ((AW (p2-1)).toNat) ([],[],false,())).2.2.1,()))
 (Gz (p0.1,p0.2.1,()) ((x13.getD ((AW (p2-1)).toNat) ([],[],false,())).2.1)).bind fun KV=>
 some ((((Mv.1.1.1,(),()),true,()),()),((x13.set ((AW (p2-1)).toNat) ((x13.getD ((AW (p2-1)).toNat) ([],[],false,())).1,(x13.getD ((AW (p2-1)).toNat) ([],[],false,())).2.1,KV.1.1,())),())))else none)))else none))
abbrev Ge:Type:=ADI×AE0
abbrev Li:Type:=Int->Int->Int->Int->Int->Bool->List Int->AAQ->List Int->AAH->AAj->AA6->ABA->AAT->Option Ge
def JH(R1:Li)(t1 t2 t6 AF Ab:Int)(AM:Bool)(b1:AAB)(b2:AAQ)(b3:AAB)(b4:AAH)(b5:AAj)(b6:AA6)(b7:ABA)(b8:AAT):Option Ge:=
 if(0:Int)<=t1/\t1<(b5.length:Int)then(
 cond (decide (t6<=(((b5.getD (t1.toNat) (0,[],())).2.1).length:Int)))
  (if(0:Int)<=t1/\t1<(b5.length:Int)then(
  (D2 ((b5.getD (t1.toNat) (0,[],())).1) t6).bind fun u3=>
  if(0:Int)<=t2/\t2<(b2.length:Int)then(
  (Gt ((b2.getD (t2.toNat) ([],[],0,())).1,(b2.getD (t2.toNat) ([],[],0,())).2.1,(b2.getD (t2.toNat) ([],[],0,())).2.2.1,()) u3.1.1.1).bind fun u4=>
  if(0:Int)<=t1/\t1<(b5.length:Int)then(
  if(0:Int)<=AW (t6-1)/\AW (t6-1)<(((b5.getD (t1.toNat) (0,[],())).2.1).length:Int)then(
  cond (((((b5.getD (t1.toNat) (0,[],())).2.1).getD ((AW (t6-1)).toNat) ([],[],false,())).2.2.1))
   (R1 t1 t2 (AW (t6+1)) AF Ab AM b1 b2 b3 b4 b5 b6 b7 b8)
  (cond (!u4.1.1.2.1)
   (R1 t1 t2 (AW (t6+1)) AF Ab AM b1 b2 b3 b4 b5 b6 b7 b8)
  (cond (u4.1.1.1.2.1 !=0)
   (R1 t1 t2 (AW (t6+1)) AF Ab AM b1 b2 b3 b4 b5 b6 b7 b8)
  (if(0:Int)<=t1/\t1<(b5.length:Int)then(
  (Tt (b1,AF,()) ((b5.getD (t1.toNat) (0,[],())).1,(b5.getD (t1.toNat) (0,[],())).2.1,()) t6 t2).bind fun u6=>
  if(0:Int)<=t1/\t1<(b5.length:Int)then(
  let x7:AAj:=(b5.set (t1.toNat) (u6.1.1.1.1,u6.2.1,()))
  (Ir (b1,AF,b2,b3,b4,Ab,x7,b6,b7,b8,AM,()) u3.1.1.1).bind fun u8=>
  cond (u8.1.1.2.1)
   (if(0:Int)<=t1/\t1<(x7.length:Int)then(
   if(0:Int)<=AW (t6-1)/\AW (t6-1)<(((x7.getD (t1.toNat) (0,[],())).2.1).length:Int)then(
   cond (((((x7.getD (t1.toNat) (0,[],())).2.1).getD ((AW (t6-1)).toNat) ([],[],false,())).2.2.1))
    (if(0:Int)<=u8.1.1.1/\u8.1.1.1<(b8.length:Int)then(
    R1 t1 t2 (AW (t6+1)) AF Ab AM b1 b2 b3 b4 x7 b6 b7 (b8.set (u8.1.1.1.toNat) ((b8.getD (u8.1.1.1.toNat) (0,[],false,())).1,(b8.getD (u8.1.1.1.toNat) (0,[],false,())).2.1,true,())))else none)
   (R1 t1 t2 (AW (t6+1)) AF Ab AM b1 b2 b3 b4 x7 b6 b7 b8))else none)else none)
  (R1 t1 t2 (AW (t6+1)) AF Ab AM b1 b2 b3 b4 x7 b6 b7 b8))else none)else none))))else none)else none)else none)else none)
 (some (((()),()),(((),AF,(),(),(),Ab,(),(),(),(),AM,()),b1,b2,b3,b4,b5,b6,b7,b8,()))))else none
def DD:Nat->Li
 |0=>fun _ _ _ _ _ _ _ _ _ _ _ _ _ _=>none
 |n+1=>JH (DD n)
def Oi(R1:Li)(p1 p2 AF Ab:Int)(AM:Bool)(b1:AAB)(b2:AAQ)(b3:AAB)(b4:AAH)(b5:AAj)(b6:AA6)(b7:ABA)(b8:AAT):Option Ge:=
 R1 p1 p2 1 AF Ab AM b1 b2 b3 b4 b5 b6 b7 b8
def OI(p1 p2 AF Ab:Int)(AM:Bool)(b1:AAB)(b2:AAQ)(b3:AAB)(b4:AAH)(b5:AAj)(b6:AA6)(b7:ABA)(b8:AAT):Option Ge:=Oi (DD AZ) p1 p2 AF Ab AM b1 b2 b3 b4 b5 b6 b7 b8
abbrev Jp:Type:=AHU×Unit
abbrev TJ:Type:=Int->ABJ->Int->Int->Int->Int->List Int->ABJ->Bool->List AAB->Int->Int->Bool->List UInt8->Option Jp
def V0(R5:TJ)(t6:Int)(t33:ABJ)(t34 t35 AL AF:Int)(Aa:AAB)(Ck:ABJ)(DO:Bool)(Ab:List AAB)(BT Au:Int)(Da:Bool)(HP:ACH):Option Jp:=
 cond (decide (t35<t34))
  (if(0:Int)<=t35/\t35<(t33.length:Int)then(
  cond (((t33.getD (t35.toNat) (0,0,false,[],())).1)==t6)
   (some ((((t6,AL,((t33.getD (t35.toNat) (0,0,false,[],())).2.2.1),((t33.getD (t35.toNat) (0,0,false,[],())).2.2.2.1),()),true,()),()),()))
  (R5 t6 t33 t34 (AW (t35+1)) AL AF Aa Ck DO Ab BT Au Da HP))else none)
 (some ((((t6,AL,true,[],()),true,()),()),()))
def Kw:Nat->TJ
 |0=>fun _ _ _ _ _ _ _ _ _ _ _ _ _ _=>none
 |n+1=>V0 (Kw n)
def Vh(R5:TJ)(p0:ABY)(p1:Int):Option Jp:=
 (D2 p0.2.1 p1).bind fun u1=>
 cond (!u1.1.1.2.1)
  (some ((((0,0,false,[],()),false,()),()),()))
 (cond (!p0.2.2.2.2.1)
  (some ((((0,0,false,[],()),false,()),()),()))
 (cond (decide (p1>(p0.2.2.2.2.2.1.length:Int)))
  (some ((((0,0,false,[],()),false,()),()),()))
 (R5 u1.1.1.1 p0.2.2.2.1 (p0.2.2.2.1.length:Int) 0 p0.1 p0.2.1 p0.2.2.1 p0.2.2.2.1 p0.2.2.2.2.1 p0.2.2.2.2.2.1 0 0 false [])))
def KA(p0:ABY)(p1:Int):Option Jp:=Vh (Kw AZ) p0 p1
abbrev mj:Type:=AFE×AEQ
def FI(p0:ABS)(p1:ABY):Option mj:=
 (IF (p0.1,p0.2.1,()) (p1.1,p1.2.1,p1.2.2.1,p1.2.2.2.1,p1.2.2.2.2.1,p1.2.2.2.2.2.1,())).bind fun u1=>
 cond (!u1.1.1)
  (some (((0,0,(),(),false,(),()),()),([],[],[],())))
 ((Gn (p1.1,p1.2.1,p1.2.2.1,p1.2.2.2.1,p1.2.2.2.2.1,p1.2.2.2.2.2.1,())).bind fun u2=>
 some (((u2.1.1.1,u2.1.1.2.1,(),(),u2.1.1.2.2.2.2.1,(),()),()),(u2.2.1,u2.2.2.1,u2.2.2.2.1,())))
abbrev Yo:Type:=AFN×AEQ
def QU(p0:ABS)(p1:ABY)(p2 p3:Int):Option Yo:=
 (IF (p0.1,p0.2.1,()) (p1.1,p1.2.1,p1.2.2.1,p1.2.2.2.1,p1.2.2.2.2.1,p1.2.2.2.2.2.1,())).bind fun u1=>
 cond (!u1.1.1)
  ((FI (p0.1,p0.2.1,()) (p1.1,p1.2.1,p1.2.2.1,p1.2.2.2.1,p1.2.2.2.2.1,p1.2.2.2.2.2.1,())).bind fun u2=>
  some ((((u2.1.1.1,u2.1.1.2.1,(),(),u2.1.1.2.2.2.2.1,(),()),false,()),()),(u2.2.1,u2.2.2.1,u2.2.2.2.1,())))
 ((BE p2 1 (p1.2.2.2.2.2.1.length:Int)).bind fun u4=>
 cond (!u4.1.1)
  ((FI (p0.1,p0.2.1,()) (p1.1,p1.2.1,p1.2.2.1,p1.2.2.2.1,p1.2.2.2.2.1,p1.2.2.2.2.2.1,())).bind fun u5=>
  some ((((u5.1.1.1,u5.1.1.2.1,(),(),u5.1.1.2.2.2.2.1,(),()),false,()),()),(u5.2.1,u5.2.2.1,u5.2.2.2.1,())))
 ((BE p3 0 (AW ((p0.1.length:Int)-1))).bind fun u7=>
 cond (!u7.1.1)
  ((FI (p0.1,p0.2.1,()) (p1.1,p1.2.1,p1.2.2.1,p1.2.2.2.1,p1.2.2.2.2.1,p1.2.2.2.2.2.1,())).bind fun u8=>
  some ((((u8.1.1.1,u8.1.1.2.1,(),(),u8.1.1.2.2.2.2.1,(),()),false,()),()),(u8.2.1,u8.2.2.1,u8.2.2.2.1,())))
 ((Gn (p1.1,p1.2.1,p1.2.2.1,p1.2.2.2.1,p1.2.2.2.2.1,p1.2.2.2.2.2.1,())).bind fun u9=>
 if(0:Int)<=AW (p2-1)/\AW (p2-1)<(u9.2.2.2.1.length:Int)then(
 (Lh (u9.2.2.2.1.getD ((AW (p2-1)).toNat) []) p3).bind fun EI=>
 if(0:Int)<=AW (p2-1)/\AW (p2-1)<(u9.2.2.2.1.length:Int)then(
 some ((((u9.1.1.1,u9.1.1.2.1,(),(),u9.1.1.2.2.2.2.1,(),()),true,()),()),(u9.2.1,u9.2.2.1,(u9.2.2.2.1.set ((AW (p2-1)).toNat) EI.2.1),())))else none)else none)))
abbrev KR:Type:=ADI×AE0
abbrev NG:Type:=Int->Int->Int->Int->Int->Bool->List Int->AAQ->List Int->AAH->AAj->AA6->ABA->AAT->Option KR
def Hb(R1:NG)(t1 t2 t6 AF Ab:Int)(AM:Bool)(b1:AAB)(b2:AAQ)(b3:AAB)(b4:AAH)(b5:AAj)(b6:AA6)(b7:ABA)(b8:AAT):Option KR:=
 if(0:Int)<=t1/\t1<(b6.length:Int)then(
 cond (decide (t6<=(((b6.getD (t1.toNat) (0,0,[],[],false,[],())).2.2.2.2.2.1).length:Int)))
  (if(0:Int)<=t1/\t1<(b6.length:Int)then(
  (KA ((b6.getD (t1.toNat) (0,0,[],[],false,[],())).1,(b6.getD (t1.toNat) (0,0,[],[],false,[],())).2.1,(b6.getD (t1.toNat) (0,0,[],[],false,[],())).2.2.1,(b6.getD (t1.toNat) (0,0,[],[],false,[],())).2.2.2.1,(b6.getD (t1.toNat) (0,0,[],[],false,[],())).2.2.2.2.1,(b6.getD (t1.toNat) (0,0,[],[],false,[],())).2.2.2.2.2.1,()) t6).bind fun u2=>
  if(0:Int)<=t2/\t2<(b2.length:Int)then(
  (Gt ((b2.getD (t2.toNat) ([],[],0,())).1,(b2.getD (t2.toNat) ([],[],0,())).2.1,(b2.getD (t2.toNat) ([],[],0,())).2.2.1,()) u2.1.1.1.1).bind fun u3=>
  cond (u2.1.1.2.1)
   (cond (u3.1.1.2.1)
    (cond (((u3.1.1.1.1==u2.1.1.1.1)&&((u3.1.1.1.2.1==u2.1.1.1.2.1)&&((u3.1.1.1.2.2.1==u2.1.1.1.2.2.1)&&((u3.1.1.1.2.2.2.1==u2.1.1.1.2.2.2.1)&&true)))))
     (if(0:Int)<=t1/\t1<(b6.length:Int)then(
     (QU (b1,AF,()) ((b6.getD (t1.toNat) (0,0,[],[],false,[],())).1,(b6.getD (t1.toNat) (0,0,[],[],false,[],())).2.1,(b6.getD (t1.toNat) (0,0,[],[],false,[],())).2.2.1,(b6.getD (t1.toNat) (0,0,[],[],false,[],())).2.2.2.1,(b6.getD (t1.toNat) (0,0,[],[],false,[],())).2.2.2.2.1,(b6.getD (t1.toNat) (0,0,[],[],false,[],())).2.2.2.2.2.1,()) t6 t2).bind fun u5=>
     if(0:Int)<=t1/\t1<(b6.length:Int)then(
     R1 t1 t2 (AW (t6+1)) AF Ab AM b1 b2 b3 b4 b5 (b6.set (t1.toNat) (u5.1.1.1.1,u5.1.1.1.2.1,u5.2.1,u5.2.2.1,u5.1.1.1.2.2.2.2.1,u5.2.2.2.1,())) b7 b8)else none)else none)
    (R1 t1 t2 (AW (t6+1)) AF Ab AM b1 b2 b3 b4 b5 b6 b7 b8))
   (R1 t1 t2 (AW (t6+1)) AF Ab AM b1 b2 b3 b4 b5 b6 b7 b8))
  (R1 t1 t2 (AW (t6+1)) AF Ab AM b1 b2 b3 b4 b5 b6 b7 b8))else none)else none)
 (some (((()),()),(((),AF,(),(),(),Ab,(),(),(),(),AM,()),b1,b2,b3,b4,b5,b6,b7,b8,()))))else none
def Bf:Nat->NG
 |0=>fun _ _ _ _ _ _ _ _ _ _ _ _ _ _=>none
 |n+1=>Hb (Bf n)
def KZ(R1:NG)(p1 p2 AF Ab:Int)(AM:Bool)(b1:AAB)(b2:AAQ)(b3:AAB)(b4:AAH)(b5:AAj)(b6:AA6)(b7:ABA)(b8:AAT):Option KR:=
 R1 p1 p2 1 AF Ab AM b1 b2 b3 b4 b5 b6 b7 b8
def Lx(p1 p2 AF Ab:Int)(AM:Bool)(b1:AAB)(b2:AAQ)(b3:AAB)(b4:AAH)(b5:AAj)(b6:AA6)(b7:ABA)(b8:AAT):Option KR:=KZ (Bf AZ) p1 p2 AF Ab AM b1 b2 b3 b4 b5 b6 b7 b8
abbrev Ih:Type:=ABq×AE0
abbrev M1:Type:=Int->Int->Int->Int->Int->Bool->List Int->AAQ->List Int->AAH->AAj->AA6->ABA->AAT->Int->Option Ih
abbrev L1:Type:=Int->Int->Int->Int->Int->Bool->List Int->AAQ->List Int->AAH->AAj->AA6->ABA->AAT->Option Ih
def OT(R9:M1)(ju:L1)(t1 t42 t43 AF Ab:Int)(AM:Bool)(b1:AAB)(b2:AAQ)(b3:AAB)(b4:AAH)(b5:AAj)(b6:AA6)(b7:ABA)(b8:AAT)(fT:Int):Option Ih:=
 cond (decide (t43<t42))
  (if(0:Int)<=t43/\t43<(b5.length:Int)then(
  cond (decide (((b5.getD (t43.toNat) (0,[],())).1)>fT))
   ((H8 (b4,Ab,()) ((b5.getD (t43.toNat) (0,[],())).1)).bind fun u6=>
   (Bv u6.2.1 t1).bind fun u7=>
   cond (u7.1.1)
    ((OI t43 t1 AF Ab AM b1 b2 b3 b4 b5 b6 b7 b8).bind fun u8=>
    R9 t1 t42 (AW (t43+1)) u8.2.1.2.1 u8.2.1.2.2.2.2.2.1 u8.2.1.2.2.2.2.2.2.2.2.2.2.1 u8.2.2.1 u8.2.2.2.1 u8.2.2.2.2.1 u8.2.2.2.2.2.1 u8.2.2.2.2.2.2.1 u8.2.2.2.2.2.2.2.1 u8.2.2.2.2.2.2.2.2.1 u8.2.2.2.2.2.2.2.2.2.1 fT)
   (R9 t1 t42 (AW (t43+1)) AF Ab AM b1 b2 b3 b4 b5 b6 b7 b8 fT))
  (R9 t1 t42 (AW (t43+1)) AF Ab AM b1 b2 b3 b4 b5 b6 b7 b8 fT))else none)
 (ju t1 (b6.length:Int) 0 AF Ab AM b1 b2 b3 b4 b5 b6 b7 b8)
def NF(R9:M1)(ju:L1)(t1 t73 t74 AF Ab:Int)(AM:Bool)(b1:AAB)(b2:AAQ)(b3:AAB)(b4:AAH)(b5:AAj)(b6:AA6)(b7:ABA)(b8:AAT):Option Ih:=
 cond (decide (t74<t73))
  (if(0:Int)<=t74/\t74<(b6.length:Int)then(
  (H8 (b4,Ab,()) ((b6.getD (t74.toNat) (0,0,[],[],false,[],())).2.1)).bind fun Mv=>
  (Bv Mv.2.1 t1).bind fun Dw=>
  cond (Dw.1.1)
   ((Lx t74 t1 AF Ab AM b1 b2 b3 b4 b5 b6 b7 b8).bind fun M6=>
   ju t1 t73 (AW (t74+1)) M6.2.1.2.1 M6.2.1.2.2.2.2.2.1 M6.2.1.2.2.2.2.2.2.2.2.2.2.1 M6.2.2.1 M6.2.2.2.1 M6.2.2.2.2.1 M6.2.2.2.2.2.1 M6.2.2.2.2.2.2.1 M6.2.2.2.2.2.2.2.1 M6.2.2.2.2.2.2.2.2.1 M6.2.2.2.2.2.2.2.2.2.1)
  (ju t1 t73 (AW (t74+1)) AF Ab AM b1 b2 b3 b4 b5 b6 b7 b8))else none)
 (some ((0,()),(((),AF,(),(),(),Ab,(),(),(),(),AM,()),b1,b2,b3,b4,b5,b6,b7,b8,())))
mutual
def FM:Nat->M1
 |0=>fun _ _ _ _ _ _ _ _ _ _ _ _ _ _ _=>none
 |n+1=>OT (FM n) (Fh n)
def Fh:Nat->L1
 |0=>fun _ _ _ _ _ _ _ _ _ _ _ _ _ _=>none
 |n+1=>NF (FM n) (Fh n)
end
def UA(R9:M1)(ju:L1)(p1 AF Ab:Int)(AM:Bool)(b1:AAB)(b2:AAQ)(b3:AAB)(b4:AAH)(b5:AAj)(b6:AA6)(b7:ABA)(b8:AAT):Option Ih:=
 (Ej (b1,AF,b2,b3,b4,Ab,b5,b6,b7,b8,AM,()) p1).bind fun u1=>
 cond (u1.1.1 !=0)
  (some ((u1.1.1,()),(((),AF,(),(),(),Ab,(),(),(),(),AM,()),b1,b2,b3,b4,b5,b6,b7,b8,())))
 (if(0:Int)<=p1/\p1<(b2.length:Int)then(
 (O4 ((b2.getD (p1.toNat) ([],[],0,())).1,(b2.getD (p1.toNat) ([],[],0,())).2.1,(b2.getD (p1.toNat) ([],[],0,())).2.2.1,())).bind fun u2=>
 cond (!u2.1.1.2.1)
  (some ((4,()),(((),AF,(),(),(),Ab,(),(),(),(),AM,()),b1,b2,b3,b4,b5,b6,b7,b8,())))
 (if(0:Int)<=p1/\p1<(b2.length:Int)then(
 R9 p1 (b5.length:Int) 0 AF Ab AM b1 (b2.set (p1.toNat) (u2.2.1,u2.2.2.1,u2.1.1.1.2.2.1,())) b3 b4 b5 b6 b7 b8 u2.1.1.1.2.2.1)else none))else none)
def RI(p1 AF Ab:Int)(AM:Bool)(b1:AAB)(b2:AAQ)(b3:AAB)(b4:AAH)(b5:AAj)(b6:AA6)(b7:ABA)(b8:AAT):Option Ih:=UA (FM AZ) (Fh AZ) p1 AF Ab AM b1 b2 b3 b4 b5 b6 b7 b8
abbrev jR:Type:=ABq×AE0
def QA(p1 p2 AF Ab:Int)(AM:Bool)(b1:AAB)(b2:AAQ)(b3:AAB)(b4:AAH)(b5:AAj)(b6:AA6)(b7:ABA)(b8:AAT):Option jR:=
 (Ej (b1,AF,b2,b3,b4,Ab,b5,b6,b7,b8,AM,()) p1).bind fun u1=>
 cond (u1.1.1 !=0)
  (some ((u1.1.1,()),(((),AF,(),(),(),Ab,(),(),(),(),AM,()),b1,b2,b3,b4,b5,b6,b7,b8,())))
 (if(0:Int)<=p1/\p1<(b2.length:Int)then(
 (Nj ((b2.getD (p1.toNat) ([],[],0,())).1,(b2.getD (p1.toNat) ([],[],0,())).2.1,(b2.getD (p1.toNat) ([],[],0,())).2.2.1,()) p2).bind fun u2=>
 if(0:Int)<=p1/\p1<(b2.length:Int)then(
 (Kt u2.1.1.2.1).bind fun u4=>
 some ((u4.1.1,()),(((),AF,(),(),(),Ab,(),(),(),(),AM,()),b1,(b2.set (p1.toNat) (u2.2.1,u2.2.2.1,u2.1.1.1.2.2.1,())),b3,b4,b5,b6,b7,b8,())))else none)else none)
abbrev fM:Type:=ABi×Unit
def NV(p0:Int)(p1:ABq):Option fM:=
 some ((p0==p1.1,()),())
abbrev Cp:Type:=ABq×Unit
abbrev Dp:Type:=List Int->AEB->Int->Int->Option Cp
def FQ(R2:Dp)(t0:AAB)(t1:AEB)(t7 t8:Int):Option Cp:=
 cond (decide (t8<t7))
  (if(0:Int)<=t8/\t8<(t0.length:Int)then(
  (NV (t0.getD (t8.toNat) 0) t1.1).bind fun u2=>
  cond (u2.1.1)
   (some ((t8,()),()))
  (R2 t0 (t1.1,()) t7 (AW (t8+1))))else none)
 (some (((-1),()),()))
def B9:Nat->Dp
 |0=>fun _ _ _ _=>none
 |n+1=>FQ (B9 n)
def FR(R2:Dp)(p0:AAB)(p1:AEB):Option Cp:=
 R2 p0 (p1.1,()) (p0.length:Int) 0
def ED(p0:AAB)(p1:AEB):Option Cp:=FR (B9 AZ) p0 p1
abbrev Cj:Type:=ADI×AHr
abbrev Df:Type:=AEB->Int->Int->List Int->Option Cj
def E6(R5:Df)(t1:AEB)(t5 t6:Int)(b0:AAB):Option Cj:=
 cond ((decide (t6<(b0.length:Int))))
  (if(0:Int)<=t6/\t6<(b0.length:Int)then(
  let x3:Int:=(b0.getD (t6.toNat) 0)
  (NV x3 t1.1).bind fun u4=>
  cond (!u4.1.1)
   (if(0:Int)<=t5/\t5<(b0.length:Int)then(
   R5 (t1.1,()) (AW (t5+1)) (AW (t6+1)) (b0.set (t5.toNat) x3))else none)
  (R5 (t1.1,()) t5 (AW (t6+1)) b0))else none)
 (if(0:Int)<=t5/\t5<=(b0.length:Int)/\(b0.length:Int)<=(b0.length:Int)then(
 let x6:AAB:=(b0.take (t5.toNat)++List.replicate (((b0.length:Int).toNat)-(t5.toNat)) 0++b0.drop ((t5.toNat)+(((b0.length:Int).toNat)-(t5.toNat))))
 if(0:Int)<=(0:Int)/\(0:Int)<=t5/\t5<=(x6.length:Int)then(
 some (((),()),((),((x6.drop 0).take ((t5.toNat)-0)),())))else none)else none)
def B4:Nat->Df
 |0=>fun _ _ _ _=>none
 |n+1=>E6 (B4 n)
def FB(R5:Df)(p1:AEB)(b0:AAB):Option Cj:=
 (ED b0 (p1.1,())).bind fun u1=>
 cond (u1.1.1==(-1))
  (some (((),()),((),b0,())))
 (R5 (p1.1,()) u1.1.1 (AW (u1.1.1+1)) b0)
def C0(p1:AEB)(b0:AAB):Option Cj:=FB (B4 AZ) p1 b0
abbrev YW:Type:=ADI×ADM
def GV(p0:AAB)(p1:Int):Option YW:=
 (DU p0).bind fun u1=>
 (C0 ((p1,()),()) u1.2.1).bind fun u2=>
 some (((),()),(u2.2.2.1,()))
abbrev L4:Type:=AHj×AE5
abbrev PX:Type:=Int->ACG->Int->Int->Int->ACG->Int->ACG->Option L4
def SG(R5:PX)(t2:Int)(t19:ACG)(t20 t21 AL:Int)(b1:ACG)(JN:Int)(b3:ACG):Option L4:=
 cond (decide (t21<t20))
  (if(0:Int)<=t21/\t21<(t19.length:Int)then(
  cond (!((t19.getD (t21.toNat) ([],[],false,())).2.2.1))
   ((GV ((t19.getD (t21.toNat) ([],[],false,())).2.1) t2).bind fun u5=>
   if(0:Int)<=t21/\t21<(b3.length:Int)then(
   R5 t2 t19 t20 (AW (t21+1)) AL b1 JN (b3.set (t21.toNat) ((b3.getD (t21.toNat) ([],[],false,())).1,u5.2.1,(b3.getD (t21.toNat) ([],[],false,())).2.2.1,())))else none)
  (R5 t2 t19 t20 (AW (t21+1)) AL b1 JN b3))else none)
 (some ((((JN,(),()),true,()),()),(b3,())))
def II:Nat->PX
 |0=>fun _ _ _ _ _ _ _ _=>none
 |n+1=>SG (II n)
def SW(R5:PX)(p0:ABS)(p1:ACi)(p2:Int):Option L4:=
 (Gv (p0.1,p0.2.1,()) (p1.1,p1.2.1,())).bind fun u1=>
 cond (!u1.1.1)
  (some ((((0,(),()),false,()),()),([],())))
 ((GF (p1.1,p1.2.1,())).bind fun u2=>
 R5 p2 p1.2.1 (p1.2.1.length:Int) 0 0 [] u2.1.1.1 u2.2.1)
def O0(p0:ABS)(p1:ACi)(p2:Int):Option L4:=SW (II AZ) p0 p1 p2
abbrev Ox:Type:=AFN×AEQ
abbrev Rw:Type:=Int->List AAB->Int->Int->Int->Int->Bool->List Int->ABJ->List AAB->Int->Int->Bool->List Int->ABJ->List AAB->Option Ox
def UY(R5:Rw)(t2:Int)(t19:List AAB)(t20 t21 AL AF:Int)(DO:Bool)(b1:AAB)(b2:ABJ)(b3:List AAB)(lP gq:Int)(yh:Bool)(b5:AAB)(b6:ABJ)(b7:List AAB):Option Ox:=
 cond (decide (t21<t20))
  (if(0:Int)<=t21/\t21<(t19.length:Int)then(
  (GV (t19.getD (t21.toNat) []) t2).bind fun u4=>
  if(0:Int)<=t21/\t21<(b7.length:Int)then(
  R5 t2 t19 t20 (AW (t21+1)) AL AF DO b1 b2 b3 lP gq yh b5 b6 (b7.set (t21.toNat) u4.2.1))else none)else none)
 (some ((((lP,gq,(),(),yh,(),()),true,()),()),(b5,b6,b7,())))
def KE:Nat->Rw
 |0=>fun _ _ _ _ _ _ _ _ _ _ _ _ _ _ _ _=>none
 |n+1=>UY (KE n)
def US(R5:Rw)(p0:ABS)(p1:ABY)(p2:Int):Option Ox:=
 (IF (p0.1,p0.2.1,()) (p1.1,p1.2.1,p1.2.2.1,p1.2.2.2.1,p1.2.2.2.2.1,p1.2.2.2.2.2.1,())).bind fun u1=>
 cond (!u1.1.1)
  (some ((((0,0,(),(),false,(),()),false,()),()),([],[],[],())))
 ((Gn (p1.1,p1.2.1,p1.2.2.1,p1.2.2.2.1,p1.2.2.2.2.1,p1.2.2.2.2.2.1,())).bind fun u2=>
 R5 p2 p1.2.2.2.2.2.1 (p1.2.2.2.2.2.1.length:Int) 0 0 0 false [] [] [] u2.1.1.1 u2.1.1.2.1 u2.1.1.2.2.2.2.1 u2.2.1 u2.2.2.1 u2.2.2.2.1)
def RP(p0:ABS)(p1:ABY)(p2:Int):Option Ox:=US (KE AZ) p0 p1 p2
abbrev G7:Type:=ABq×AMi
abbrev NA:Type:=Int->Int->Int->Int->Int->Bool->List Int->AAQ->List Int->AAH->AAj->AA6->ABA->AAT->List Int->Option G7
abbrev L6:Type:=Int->Int->Int->Int->Int->Bool->List Int->AAQ->List Int->AAH->AAj->AA6->ABA->AAT->List Int->Option G7
def UW(R7:NA)(R12:L6)(t1 t36 t37 AF Ab:Int)(AM:Bool)(b1:AAB)(b2:AAQ)(b3:AAB)(b4:AAH)(b5:AAj)(b6:AA6)(b7:ABA)(b8:AAT)(b9:AAB):Option G7:=
 cond (decide (t37<t36))
  (if(0:Int)<=t37/\t37<(b5.length:Int)then(
  (O0 (b1,AF,()) ((b5.getD (t37.toNat) (0,[],())).1,(b5.getD (t37.toNat) (0,[],())).2.1,()) t1).bind fun u4=>
  if(0:Int)<=t37/\t37<(b5.length:Int)then(
  R7 t1 t36 (AW (t37+1)) AF Ab AM b1 b2 b3 b4 (b5.set (t37.toNat) (u4.1.1.1.1,u4.2.1,())) b6 b7 b8 b9)else none)else none)
 (R12 t1 (b6.length:Int) 0 AF Ab AM b1 b2 b3 b4 b5 b6 b7 b8 b9)
def T3(R7:NA)(R12:L6)(t1 t63 t64 AF Ab:Int)(AM:Bool)(b1:AAB)(b2:AAQ)(b3:AAB)(b4:AAH)(b5:AAj)(b6:AA6)(b7:ABA)(b8:AAT)(b9:AAB):Option G7:=
 cond (decide (t64<t63))
  (if(0:Int)<=t64/\t64<(b6.length:Int)then(
  (RP (b1,AF,()) ((b6.getD (t64.toNat) (0,0,[],[],false,[],())).1,(b6.getD (t64.toNat) (0,0,[],[],false,[],())).2.1,(b6.getD (t64.toNat) (0,0,[],[],false,[],())).2.2.1,(b6.getD (t64.toNat) (0,0,[],[],false,[],())).2.2.2.1,(b6.getD (t64.toNat) (0,0,[],[],false,[],())).2.2.2.2.1,(b6.getD (t64.toNat) (0,0,[],[],false,[],())).2.2.2.2.2.1,()) t1).bind fun u6=>
  if(0:Int)<=t64/\t64<(b6.length:Int)then(
  R12 t1 t63 (AW (t64+1)) AF Ab AM b1 b2 b3 b4 b5 (b6.set (t64.toNat) (u6.1.1.1.1,u6.1.1.1.2.1,u6.2.1,u6.2.2.1,u6.1.1.1.2.2.2.2.1,u6.2.2.2.1,())) b7 b8 b9)else none)else none)
 (cond (AM)
  (some ((0,()),(((),AF,(),(),(),Ab,(),(),(),(),true,()),b1,b2,(),b4,b5,b6,b7,b8,b9,())))
 ((Gz (b1,AF,()) b9).bind fun u8=>
 some ((0,()),(((),AF,(),(),(),Ab,(),(),(),(),u8.1.1,()),b1,b2,(),b4,b5,b6,b7,b8,b9,()))))
mutual
def Hl:Nat->NA
 |0=>fun _ _ _ _ _ _ _ _ _ _ _ _ _ _ _=>none
 |n+1=>UW (Hl n) (HI n)
def HI:Nat->L6
 |0=>fun _ _ _ _ _ _ _ _ _ _ _ _ _ _ _=>none
 |n+1=>T3 (Hl n) (HI n)
end
def UB(R7:NA)(R12:L6)(p1 AF Ab:Int)(AM:Bool)(b1:AAB)(b2:AAQ)(b3:AAB)(b4:AAH)(b5:AAj)(b6:AA6)(b7:ABA)(b8:AAT):Option G7:=
 (Ej (b1,AF,b2,b3,b4,Ab,b5,b6,b7,b8,AM,()) p1).bind fun u1=>
 cond (u1.1.1 !=0)
  (some ((u1.1.1,()),(((),AF,(),(),(),Ab,(),(),(),(),AM,()),b1,b2,(),b4,b5,b6,b7,b8,b3,())))
 (if(0:Int)<=p1/\p1<(b2.length:Int)then(
 (Lh b3 p1).bind fun u3=>
 R7 p1 (b5.length:Int) 0 AF Ab AM b1 (b2.set (p1.toNat) ([],[],0,())) b3 b4 b5 b6 b7 b8 u3.2.1)else none)
def RF(p1 AF Ab:Int)(AM:Bool)(b1:AAB)(b2:AAQ)(b3:AAB)(b4:AAH)(b5:AAj)(b6:AA6)(b7:ABA)(b8:AAT):Option G7:=UB (Hl AZ) (HI AZ) p1 AF Ab AM b1 b2 b3 b4 b5 b6 b7 b8
abbrev td:Type:=ABi×Unit
def Zy(p0:ABS)(p1:AAB):Option td:=
 (EM (p0.1,p0.2.1,()) p1).bind fun u1=>
 cond (u1.1.1)
  ((Gz (p0.1,p0.2.1,()) p1).bind fun u2=>
  some ((!u2.1.1,()),()))
 (some ((false,()),()))
abbrev P6:Type:=ADI×AGF
abbrev VS:Type:=AAQ->Int->Int->ABJ->Option P6
abbrev VL:Type:=AAQ->Int->Int->ABJ->Int->Int->ABJ->Option P6
def bK(R3:VS)(R8:VL)(t9:AAQ)(t10 t11:Int)(b0:ABJ):Option P6:=
 cond (decide (t11<t10))
  (if(0:Int)<=t11/\t11<(t9.length:Int)then(
  (FU ((t9.getD (t11.toNat) ([],[],0,())).1,(t9.getD (t11.toNat) ([],[],0,())).2.1,(t9.getD (t11.toNat) ([],[],0,())).2.2.1,())).bind fun u1=>
  cond (!u1.1.1)
   (some (((),()),([],())))
  (R8 t9 t10 t11 ((t9.getD (t11.toNat) ([],[],0,())).1) (((t9.getD (t11.toNat) ([],[],0,())).1).length:Int) 0 b0))else none)
 (some (((),()),(b0,())))
def bM(R3:VS)(R8:VL)(t9:AAQ)(t10 t11:Int)(t19:ABJ)(t20 t21:Int)(b0:ABJ):Option P6:=
 cond (decide (t21<t20))
  (if(0:Int)<=t21/\t21<(t19.length:Int)then(
  (Xs ((t19.getD (t21.toNat) (0,0,false,[],())).1,(t19.getD (t21.toNat) (0,0,false,[],())).2.1,(t19.getD (t21.toNat) (0,0,false,[],())).2.2.1,(t19.getD (t21.toNat) (0,0,false,[],())).2.2.2.1,()) b0).bind fun u3=>
  R8 t9 t10 t11 t19 t20 (AW (t21+1)) u3.2.2.1)else none)
 (R3 t9 t10 (AW (t11+1)) b0)
mutual
def N3:Nat->VS
 |0=>fun _ _ _ _=>none
 |n+1=>bK (N3 n) (Nt n)
def Nt:Nat->VL
 |0=>fun _ _ _ _ _ _ _=>none
 |n+1=>bM (N3 n) (Nt n)
end
def lz(R3:VS)(R8:VL)(p0:AAQ):Option P6:=
 R3 p0 (p0.length:Int) 0 []
def i7(p0:AAQ):Option P6:=lz (N3 AZ) (Nt AZ) p0
abbrev Vn:Type:=AEV×AK1
abbrev c_:Type:=List Int->Int->Int->Int->AAQ->Int->ABJ->ABJ->AAQ->Option Vn
def eI(R5:c_)(t2:AAB)(t4 t37 t38:Int)(b0:AAQ)(Da:Int)(b2 b3:ABJ)(b4:AAQ):Option Vn:=
 cond (decide (t38<t37))
  (if(0:Int)<=t38/\t38<(b0.length:Int)then(
  (Bv t2 t38).bind fun u4=>
  cond (u4.1.1)
   (R5 t2 t4 t37 (AW (t38+1)) b0 Da b2 b3 b4)
  ((FU ((b0.getD (t38.toNat) ([],[],0,())).1,(b0.getD (t38.toNat) ([],[],0,())).2.1,(b0.getD (t38.toNat) ([],[],0,())).2.2.1,())).bind fun u5=>
  cond (!u5.1.1)
   (some (((((),(),0,()),false,()),()),(b0,[],[],())))
  (if b4.length+1<=C_ then(
  R5 t2 t4 t37 (AW (t38+1)) b0 Da b2 b3 (b4++[((b0.getD (t38.toNat) ([],[],0,())).1,(b0.getD (t38.toNat) ([],[],0,())).2.1,(b0.getD (t38.toNat) ([],[],0,())).2.2.1,())]))else none)))else none)
 ((i7 b4).bind fun u7=>
 (FU (u7.2.1,[],t4,())).bind fun u8=>
 cond (!u8.1.1)
  (some (((((),(),0,()),false,()),()),(b0,[],[],())))
 (some (((((),(),t4,()),true,()),()),(b0,u7.2.1,[],()))))
def Ts:Nat->c_
 |0=>fun _ _ _ _ _ _ _ _ _=>none
 |n+1=>eI (Ts n)
def dw(R5:c_)(p0:ABS)(p2:AAB)(p3 p4:Int)(b0:AAQ):Option Vn:=
 cond (((b0.length:Int) !=(p0.1.length:Int)))
  (some (((((),(),0,()),false,()),()),(b0,[],[],())))
 ((Zy (p0.1,p0.2.1,()) p2).bind fun u2=>
 cond (!u2.1.1)
  (some (((((),(),0,()),false,()),()),(b0,[],[],())))
 ((Bv p2 p3).bind fun u3=>
 cond (!u3.1.1)
  (some (((((),(),0,()),false,()),()),(b0,[],[],())))
 (R5 p2 p4 (b0.length:Int) 0 b0 0 [] [] [])))
def bT(p0:ABS)(p2:AAB)(p3 p4:Int)(b0:AAQ):Option Vn:=dw (Ts AZ) p0 p2 p3 p4 b0
abbrev lS:Type:=ABq×AMi
def Ko(p1 AF Ab:Int)(AM:Bool)(b1:AAB)(b2:AAQ)(b3:AAB)(b4:AAH)(b5:AAj)(b6:AA6)(b7:ABA)(b8:AAT):Option lS:=
 (BE p1 0 (AW ((b2.length:Int)-1))).bind fun u2=>
 cond (!u2.1.1)
  (some ((2,()),(((),AF,(),(),(),Ab,(),(),(),(),AM,()),b1,b2,(),b4,b5,b6,b7,b8,b3,())))
 ((DH (b1,AF,b2,b3,b4,Ab,b5,b6,b7,b8,AM,()) p1).bind fun u3=>
 cond (!u3.1.1)
  (some ((2,()),(((),AF,(),(),(),Ab,(),(),(),(),AM,()),b1,b2,(),b4,b5,b6,b7,b8,b3,())))
 (let x4:Int:=AW ((b4.length:Int)-1)
 (bT (b1,AF,()) b3 p1 (if 0>x4 then 0 else x4) b2).bind fun u6=>
 cond (!u6.1.1.2.1)
  (some ((4,()),(((),AF,(),(),(),Ab,(),(),(),(),AM,()),b1,u6.2.1,(),b4,b5,b6,b7,b8,b3,())))
 (if(0:Int)<=p1/\p1<(u6.2.1.length:Int)then(
 (GV b3 p1).bind fun u8=>
 some ((0,()),(((),AF,(),(),(),Ab,(),(),(),(),AM,()),b1,(u6.2.1.set (p1.toNat) (u6.2.2.1,u6.2.2.2.1,u6.1.1.1.2.2.1,())),(),b4,b5,b6,b7,b8,u8.2.1,())))else none)))
abbrev sR:Type:=AFE×AEQ
def kL(p0 p1:Int):Option sR:=
 some (((p1,p0,(),(),false,(),()),()),([],[],[],()))
abbrev Z2:Type:=ABq×(AEp×List Int×AAQ×List Int×AAH×AAj×Unit×ABA×AAT×AA6×Unit)
def RM(AF Ab:Int)(AM:Bool)(b1:AAB)(b2:AAQ)(b3:AAB)(b4:AAH)(b5:AAj)(b6:AA6)(b7:ABA)(b8:AAT):Option Z2:=
 (IB (b4,Ab,())).bind fun u1=>
 cond ((decide ((b4.length:Int)<2)))
  (some ((2,()),(((),AF,(),(),(),Ab,(),(),(),(),AM,()),b1,b2,b3,b4,b5,(),b7,b8,b6,())))
 (cond ((u1.1.1==(b4.length:Int)))
  (some ((2,()),(((),AF,(),(),(),Ab,(),(),(),(),AM,()),b1,b2,b3,b4,b5,(),b7,b8,b6,())))
 (cond ((decide ((b6.length:Int)>0)))
  (some ((4,()),(((),AF,(),(),(),Ab,(),(),(),(),AM,()),b1,b2,b3,b4,b5,(),b7,b8,b6,())))
 ((kL u1.1.1 (b4.length:Int)).bind fun u5=>
 some ((0,()),(((),AF,(),(),(),Ab,(),(),(),(),AM,()),b1,b2,b3,b4,b5,(),b7,b8,[(u5.1.1.1,u5.1.1.2.1,u5.2.1,u5.2.2.1,u5.1.1.2.2.2.2.1,u5.2.2.2.1,())],())))))
abbrev U2:Type:=AEV×AEK
def Po(p0:ACd)(p1:Int):Option U2:=
 (O4 (p0.1,p0.2.1,p0.2.2.1,())).bind fun u1=>
 cond (!u1.1.1.2.1)
  ((Dy (p0.1,p0.2.1,p0.2.2.1,())).bind fun u2=>
  some (((((),(),u2.1.1.2.2.1,()),false,()),()),(u2.2.1,u2.2.2.1,())))
 ((BE p1 0 30).bind fun u3=>
 cond (!u3.1.1)
  ((Dy (p0.1,p0.2.1,p0.2.2.1,())).bind fun u4=>
  some (((((),(),u4.1.1.2.2.1,()),false,()),()),(u4.2.1,u4.2.2.1,())))
 (some (((((),(),(if p1>u1.1.1.1.2.2.1 then p1 else u1.1.1.1.2.2.1),()),true,()),()),(u1.2.1,u1.2.2.1,()))))
abbrev Kh:Type:=ADI×AGF
abbrev Uv:Type:=Int->ABJ->Int->Int->ABJ->Option Kh
def Wg(R5:Uv)(t1:Int)(t14:ABJ)(t15 t16:Int)(b0:ABJ):Option Kh:=
 cond (decide (t16<t15))
  (if(0:Int)<=t16/\t16<(t14.length:Int)then(
  (FW ((t14.getD (t16.toNat) (0,0,false,[],())).1)).bind fun u3=>
  cond (u3.1.1==t1)
   (if b0.length+1<=C_ then(
   R5 t1 t14 t15 (AW (t16+1)) (b0++[((t14.getD (t16.toNat) (0,0,false,[],())).1,(t14.getD (t16.toNat) (0,0,false,[],())).2.1,(t14.getD (t16.toNat) (0,0,false,[],())).2.2.1,(t14.getD (t16.toNat) (0,0,false,[],())).2.2.2.1,())]))else none)
  (R5 t1 t14 t15 (AW (t16+1)) b0))else none)
 (some (((),()),(b0,())))
def Mo:Nat->Uv
 |0=>fun _ _ _ _ _=>none
 |n+1=>Wg (Mo n)
def XA(R5:Uv)(p0:ACd)(p1:Int):Option Kh:=
 (FU (p0.1,p0.2.1,p0.2.2.1,())).bind fun u1=>
 cond (!u1.1.1)
  (some (((),()),([],())))
 (R5 p1 p0.1 (p0.1.length:Int) 0 [])
def Q1(p0:ACd)(p1:Int):Option Kh:=XA (Mo AZ) p0 p1
abbrev Kj:Type:=AFN×AEQ
abbrev Uw:Type:=ABJ->Int->Int->List Int->Int->Int->Int->List Int->ABJ->Bool->List AAB->Int->Int->Bool->List Int->ABJ->List AAB->Int->Int->Bool->List Int->ABJ->List AAB->Option Kj
def Wl(R6:Uw)(t31:ABJ)(t32 t33:Int)(AL:AAB)(AF BT Au:Int)(Da:AAB)(HP:ABJ)(ND:Bool)(DZ:List AAB)(JN LZ:Int)(Qd:Bool)(b3:AAB)(b4:ABJ)(b5:List AAB)(Lr Ka:Int)(Ls:Bool)(b7:AAB)(b8:ABJ)(b9:List AAB):Option Kj:=
 cond (decide (t33<t32))
  (if(0:Int)<=t33/\t33<(t31.length:Int)then(
  (FW ((t31.getD (t33.toNat) (0,0,false,[],())).1)).bind fun u7=>
  cond (u7.1.1==Au)
   ((Xs ((t31.getD (t33.toNat) (0,0,false,[],())).1,(t31.getD (t33.toNat) (0,0,false,[],())).2.1,(t31.getD (t33.toNat) (0,0,false,[],())).2.2.1,(t31.getD (t33.toNat) (0,0,false,[],())).2.2.2.1,()) b8).bind fun u8=>
   R6 t31 t32 (AW (t33+1)) AL AF BT Au Da HP ND DZ JN LZ Qd b3 b4 b5 Lr Ka Ls b7 u8.2.2.1 b9)
  (R6 t31 t32 (AW (t33+1)) AL AF BT Au Da HP ND DZ JN LZ Qd b3 b4 b5 Lr Ka Ls b7 b8 b9))else none)
 ((IF (AL,AF,()) (Lr,Ka,b7,b8,Ls,b9,())).bind fun u9=>
 cond (!u9.1.1)
  ((Gn (BT,Au,Da,HP,ND,DZ,())).bind fun EI=>
  some ((((EI.1.1.1,EI.1.1.2.1,(),(),EI.1.1.2.2.2.2.1,(),()),false,()),()),(EI.2.1,EI.2.2.1,EI.2.2.2.1,())))
 (some ((((Lr,Ka,(),(),Ls,(),()),true,()),()),(b7,b8,b9,()))))
def Mg:Nat->Uw
 |0=>fun _ _ _ _ _ _ _ _ _ _ _ _ _ _ _ _ _ _ _ _ _ _ _=>none
 |n+1=>Wl (Mg n)
def W5(R6:Uw)(p0:ABS)(p1:ABY)(p2:Int)(p3:ABJ):Option Kj:=
 (IF (p0.1,p0.2.1,()) (p1.1,p1.2.1,p1.2.2.1,p1.2.2.2.1,p1.2.2.2.2.1,p1.2.2.2.2.2.1,())).bind fun u1=>
 cond (!u1.1.1)
  ((FI (p0.1,p0.2.1,()) (p1.1,p1.2.1,p1.2.2.1,p1.2.2.2.1,p1.2.2.2.2.1,p1.2.2.2.2.2.1,())).bind fun u2=>
  some ((((u2.1.1.1,u2.1.1.2.1,(),(),u2.1.1.2.2.2.2.1,(),()),false,()),()),(u2.2.1,u2.2.2.1,u2.2.2.2.1,())))
 (cond (p1.2.2.2.2.1)
  ((FI (p0.1,p0.2.1,()) (p1.1,p1.2.1,p1.2.2.1,p1.2.2.2.1,p1.2.2.2.2.1,p1.2.2.2.2.2.1,())).bind fun u3=>
  some ((((u3.1.1.1,u3.1.1.2.1,(),(),u3.1.1.2.2.2.2.1,(),()),false,()),()),(u3.2.1,u3.2.2.1,u3.2.2.2.1,())))
 ((Gn (p1.1,p1.2.1,p1.2.2.1,p1.2.2.2.1,p1.2.2.2.2.1,p1.2.2.2.2.2.1,())).bind fun u4=>
 (Lh u4.2.1 p2).bind fun u5=>
 R6 p3 (p3.length:Int) 0 p0.1 p0.2.1 p1.1 p1.2.1 p1.2.2.1 p1.2.2.2.1 p1.2.2.2.2.1 p1.2.2.2.2.2.1 0 0 false [] [] [] u4.1.1.1 u4.1.1.2.1 u4.1.1.2.2.2.2.1 u5.2.1 u4.2.2.1 u4.2.2.2.1))
def Qs(p0:ABS)(p1:ABY)(p2:Int)(p3:ABJ):Option Kj:=W5 (Mg AZ) p0 p1 p2 p3
abbrev kY:Type:=ABq×AE0
def Kc(p1 AF Ab:Int)(AM:Bool)(b1:AAB)(b2:AAQ)(b3:AAB)(b4:AAH)(b5:AAj)(b6:AA6)(b7:ABA)(b8:AAT):Option kY:=
 cond (((b6.length:Int)==0))
  (some ((2,()),(((),AF,(),(),(),Ab,(),(),(),(),AM,()),b1,b2,b3,b4,b5,b6,b7,b8,())))
 (if(0:Int)<=(0:Int)/\(0:Int)<(b6.length:Int)then(
 (Dt (b1,AF,b2,b3,b4,Ab,b5,b6,b7,b8,AM,()) p1 ((b6.getD 0 (0,0,[],[],false,[],())).2.1)).bind fun u3=>
 cond (u3.1.1 !=0)
  (some ((u3.1.1,()),(((),AF,(),(),(),Ab,(),(),(),(),AM,()),b1,b2,b3,b4,b5,b6,b7,b8,())))
 (if(0:Int)<=p1/\p1<(b2.length:Int)then(
 (Po ((b2.getD (p1.toNat) ([],[],0,())).1,(b2.getD (p1.toNat) ([],[],0,())).2.1,(b2.getD (p1.toNat) ([],[],0,())).2.2.1,()) (AW (((b6.getD 0 (0,0,[],[],false,[],())).1)-1))).bind fun u5=>
 (Q1 (u5.2.1,u5.2.2.1,u5.1.1.1.2.2.1,()) ((b6.getD 0 (0,0,[],[],false,[],())).2.1)).bind fun u7=>
 (Qs (b1,AF,()) ((b6.getD 0 (0,0,[],[],false,[],())).1,(b6.getD 0 (0,0,[],[],false,[],())).2.1,(b6.getD 0 (0,0,[],[],false,[],())).2.2.1,(b6.getD 0 (0,0,[],[],false,[],())).2.2.2.1,(b6.getD 0 (0,0,[],[],false,[],())).2.2.2.2.1,(b6.getD 0 (0,0,[],[],false,[],())).2.2.2.2.2.1,()) p1 u7.2.1).bind fun u8=>
 cond (!u5.1.1.2.1)
  (some ((4,()),(((),AF,(),(),(),Ab,(),(),(),(),AM,()),b1,b2,b3,b4,b5,b6,b7,b8,())))
 (cond (!u8.1.1.2.1)
  (some ((4,()),(((),AF,(),(),(),Ab,(),(),(),(),AM,()),b1,b2,b3,b4,b5,b6,b7,b8,())))
 (if(0:Int)<=p1/\p1<(b2.length:Int)then(
 if(0:Int)<=(0:Int)/\(0:Int)<(b6.length:Int)then(
 some ((0,()),(((),AF,(),(),(),Ab,(),(),(),(),AM,()),b1,(b2.set (p1.toNat) (u5.2.1,u5.2.2.1,u5.1.1.1.2.2.1,())),b3,b4,b5,(b6.set 0 (u8.1.1.1.1,u8.1.1.1.2.1,u8.2.1,u8.2.2.1,u8.1.1.1.2.2.2.2.1,u8.2.2.2.1,())),b7,b8,())))else none)else none)))else none))else none)
abbrev du:Type:=AFN×AEQ
def Qx(p0:ABS)(p1:ABY)(p2:AAB):Option du:=
 (IF (p0.1,p0.2.1,()) (p1.1,p1.2.1,p1.2.2.1,p1.2.2.2.1,p1.2.2.2.2.1,p1.2.2.2.2.2.1,())).bind fun u1=>
 cond (!u1.1.1)
  ((FI (p0.1,p0.2.1,()) (p1.1,p1.2.1,p1.2.2.1,p1.2.2.2.1,p1.2.2.2.2.1,p1.2.2.2.2.2.1,())).bind fun u2=>
  some ((((u2.1.1.1,u2.1.1.2.1,(),(),u2.1.1.2.2.2.2.1,(),()),false,()),()),(u2.2.1,u2.2.2.1,u2.2.2.2.1,())))
 (cond (p1.2.2.2.2.1)
  ((FI (p0.1,p0.2.1,()) (p1.1,p1.2.1,p1.2.2.1,p1.2.2.2.1,p1.2.2.2.2.1,p1.2.2.2.2.2.1,())).bind fun u3=>
  some ((((u3.1.1.1,u3.1.1.2.1,(),(),u3.1.1.2.2.2.2.1,(),()),false,()),()),(u3.2.1,u3.2.2.1,u3.2.2.2.1,())))
 ((Nw p1.2.2.1 p2).bind fun u4=>
 (HT (p0.1,p0.2.1,()) p2 u4.2.1).bind fun u5=>
 cond (!u5.1.1)
  ((FI (p0.1,p0.2.1,()) (p1.1,p1.2.1,p1.2.2.1,p1.2.2.2.1,p1.2.2.2.2.1,p1.2.2.2.2.2.1,())).bind fun u6=>
  some ((((u6.1.1.1,u6.1.1.2.1,(),(),u6.1.1.2.2.2.2.1,(),()),false,()),()),(u6.2.1,u6.2.2.1,u6.2.2.2.1,())))
 ((Gn (p1.1,p1.2.1,p1.2.2.1,p1.2.2.2.1,p1.2.2.2.2.1,p1.2.2.2.2.2.1,())).bind fun u7=>
 (Th (p1.1,p1.2.1,p1.2.2.1,p1.2.2.2.1,p1.2.2.2.2.1,p1.2.2.2.2.2.1,())).bind fun u8=>
 if(0:Int)<=u8.1.1/\u8.1.1<=u8.1.1/\u8.1.1<=(C_:Int)then(
 some ((((u7.1.1.1,u7.1.1.2.1,(),(),true,(),()),true,()),()),(u7.2.1,u7.2.2.1,(List.replicate (u8.1.1.toNat) []),())))else none)))
abbrev lI:Type:=ABq×AE0
def Kl(AF Ab:Int)(AM:Bool)(b1:AAB)(b2:AAQ)(b3:AAB)(b4:AAH)(b5:AAj)(b6:AA6)(b7:ABA)(b8:AAT):Option lI:=
 cond (((b6.length:Int)==0))
  (some ((2,()),(((),AF,(),(),(),Ab,(),(),(),(),AM,()),b1,b2,b3,b4,b5,b6,b7,b8,())))
 (if(0:Int)<=(0:Int)/\(0:Int)<(b6.length:Int)then(
 if(0:Int)<=(0:Int)/\(0:Int)<(b6.length:Int)then(
 (H8 (b4,Ab,()) ((b6.getD 0 (0,0,[],[],false,[],())).2.1)).bind fun u3=>
 (Qx (b1,AF,()) ((b6.getD 0 (0,0,[],[],false,[],())).1,(b6.getD 0 (0,0,[],[],false,[],())).2.1,(b6.getD 0 (0,0,[],[],false,[],())).2.2.1,(b6.getD 0 (0,0,[],[],false,[],())).2.2.2.1,(b6.getD 0 (0,0,[],[],false,[],())).2.2.2.2.1,(b6.getD 0 (0,0,[],[],false,[],())).2.2.2.2.2.1,()) u3.2.1).bind fun u4=>
 if(0:Int)<=(0:Int)/\(0:Int)<(b6.length:Int)then(
 (Kt u4.1.1.2.1).bind fun u6=>
 some ((u6.1.1,()),(((),AF,(),(),(),Ab,(),(),(),(),AM,()),b1,b2,b3,b4,b5,(b6.set 0 (u4.1.1.1.1,u4.1.1.1.2.1,u4.2.1,u4.2.2.1,u4.1.1.1.2.2.2.2.1,u4.2.2.2.1,())),b7,b8,())))else none)else none)else none)
abbrev mN:Type:=ABq×AE0
def TM(p1 p2 AF Ab:Int)(AM:Bool)(b1:AAB)(b2:AAQ)(b3:AAB)(b4:AAH)(b5:AAj)(b6:AA6)(b7:ABA)(b8:AAT):Option mN:=
 cond (((b6.length:Int)==0))
  (some ((2,()),(((),AF,(),(),(),Ab,(),(),(),(),AM,()),b1,b2,b3,b4,b5,b6,b7,b8,())))
 (if(0:Int)<=(0:Int)/\(0:Int)<(b6.length:Int)then(
 (KA ((b6.getD 0 (0,0,[],[],false,[],())).1,(b6.getD 0 (0,0,[],[],false,[],())).2.1,(b6.getD 0 (0,0,[],[],false,[],())).2.2.1,(b6.getD 0 (0,0,[],[],false,[],())).2.2.2.1,(b6.getD 0 (0,0,[],[],false,[],())).2.2.2.2.1,(b6.getD 0 (0,0,[],[],false,[],())).2.2.2.2.2.1,()) p1).bind fun u2=>
 cond (!u2.1.1.2.1)
  (some ((2,()),(((),AF,(),(),(),Ab,(),(),(),(),AM,()),b1,b2,b3,b4,b5,b6,b7,b8,())))
 (if(0:Int)<=(0:Int)/\(0:Int)<(b6.length:Int)then(
 (Dt (b1,AF,b2,b3,b4,Ab,b5,b6,b7,b8,AM,()) p2 ((b6.getD 0 (0,0,[],[],false,[],())).2.1)).bind fun u4=>
 cond (u4.1.1 !=0)
  (some ((u4.1.1,()),(((),AF,(),(),(),Ab,(),(),(),(),AM,()),b1,b2,b3,b4,b5,b6,b7,b8,())))
 ((MC p2 (u2.1.1.1.1,u2.1.1.1.2.1,u2.1.1.1.2.2.1,u2.1.1.1.2.2.2.1,()) AF Ab AM b1 b2 b3 b4 b5 b6 b7 b8).bind fun u5=>
 some ((u5.1.1,()),(((),u5.2.1.2.1,(),(),(),u5.2.1.2.2.2.2.2.1,(),(),(),(),u5.2.1.2.2.2.2.2.2.2.2.2.2.1,()),u5.2.2.1,u5.2.2.2.1,u5.2.2.2.2.1,u5.2.2.2.2.2.1,u5.2.2.2.2.2.2.1,u5.2.2.2.2.2.2.2.1,u5.2.2.2.2.2.2.2.2.1,u5.2.2.2.2.2.2.2.2.2.1,()))))else none))else none)
abbrev Mk:Type:=ABi×Unit
abbrev Sz:Type:=List AAB->Int->Int->List Int->Int->Option Mk
def Vu(R4:Sz)(t17:List AAB)(t18 t19:Int)(AL:AAB)(AF:Int):Option Mk:=
 cond (decide (t19<t18))
  (if(0:Int)<=t19/\t19<(t17.length:Int)then(
  (Gz (AL,AF,()) (t17.getD (t19.toNat) [])).bind fun u3=>
  cond (!u3.1.1)
   (some ((false,()),()))
  (R4 t17 t18 (AW (t19+1)) AL AF))else none)
 (some ((true,()),()))
def K8:Nat->Sz
 |0=>fun _ _ _ _ _=>none
 |n+1=>Vu (K8 n)
def V3(R4:Sz)(p0:ABS)(p1:ABY):Option Mk:=
 (IF (p0.1,p0.2.1,()) (p1.1,p1.2.1,p1.2.2.1,p1.2.2.2.1,p1.2.2.2.2.1,p1.2.2.2.2.2.1,())).bind fun u1=>
 cond (!u1.1.1)
  (some ((false,()),()))
 (cond (!p1.2.2.2.2.1)
  (some ((false,()),()))
 (R4 p1.2.2.2.2.2.1 (p1.2.2.2.2.2.1.length:Int) 0 p0.1 p0.2.1))
def Pn(p0:ABS)(p1:ABY):Option Mk:=V3 (K8 AZ) p0 p1
abbrev dd:Type:=AHk×AE2
def Qu(p0:ABS)(p1:ACc)(p2 p3:Int):Option dd:=
 (IB (p1.1,p1.2.1,())).bind fun u1=>
 (Ll (p0.1,p0.2.1,()) (p1.1,p1.2.1,())).bind fun u2=>
 cond (!u2.1.1)
  ((Ed (p0.1,p0.2.1,()) (p1.1,p1.2.1,())).bind fun u3=>
  some (((((),u3.1.1.2.1,()),false,()),()),(u3.2.1,())))
 (cond ((p2 !=(p1.1.length:Int)))
  ((Ed (p0.1,p0.2.1,()) (p1.1,p1.2.1,())).bind fun u5=>
  some (((((),u5.1.1.2.1,()),false,()),()),(u5.2.1,())))
 (cond (u1.1.1==p2)
  ((Ed (p0.1,p0.2.1,()) (p1.1,p1.2.1,())).bind fun u6=>
  some (((((),u6.1.1.2.1,()),false,()),()),(u6.2.1,())))
 ((BE p3 0 60).bind fun u7=>
 cond (!u7.1.1)
  ((Ed (p0.1,p0.2.1,()) (p1.1,p1.2.1,())).bind fun u8=>
  some (((((),u8.1.1.2.1,()),false,()),()),(u8.2.1,())))
 ((Eo (p1.1,p1.2.1,())).bind fun u9=>
 if(0:Int)<=AW (u1.1.1-1)/\AW (u1.1.1-1)<(u9.2.1.length:Int)then(
 let Xv:AAH:=(u9.2.1.set ((AW (u1.1.1-1)).toNat) ((u9.2.1.getD ((AW (u1.1.1-1)).toNat) ([],false,0,())).1,true,(u9.2.1.getD ((AW (u1.1.1-1)).toNat) ([],false,0,())).2.2.1,()))
 if(0:Int)<=AW (u1.1.1-1)/\AW (u1.1.1-1)<(Xv.length:Int)then(
 some (((((),u9.1.1.2.1,()),true,()),()),((Xv.set ((AW (u1.1.1-1)).toNat) ((Xv.getD ((AW (u1.1.1-1)).toNat) ([],false,0,())).1,(Xv.getD ((AW (u1.1.1-1)).toNat) ([],false,0,())).2.1,p3,())),())))else none)else none))))
abbrev YV:Type:=ABq×(AEp×List Int×AAQ×List Int×Unit×AAj×Unit×ABA×AAT×AAH×AA6×Unit)
def Ja(AF Ab:Int)(AM:Bool)(b1:AAB)(b2:AAQ)(b3:AAB)(b4:AAH)(b5:AAj)(b6:AA6)(b7:ABA)(b8:AAT):Option YV:=
 cond (((b6.length:Int)==0))
  (some ((2,()),(((),AF,(),(),(),Ab,(),(),(),(),AM,()),b1,b2,b3,(),b5,(),b7,b8,b4,b6,())))
 (if(0:Int)<=(0:Int)/\(0:Int)<(b6.length:Int)then(
 (Pn (b1,AF,()) ((b6.getD 0 (0,0,[],[],false,[],())).1,(b6.getD 0 (0,0,[],[],false,[],())).2.1,(b6.getD 0 (0,0,[],[],false,[],())).2.2.1,(b6.getD 0 (0,0,[],[],false,[],())).2.2.2.1,(b6.getD 0 (0,0,[],[],false,[],())).2.2.2.2.1,(b6.getD 0 (0,0,[],[],false,[],())).2.2.2.2.2.1,())).bind fun u2=>
 cond (!u2.1.1)
  (some ((5,()),(((),AF,(),(),(),Ab,(),(),(),(),AM,()),b1,b2,b3,(),b5,(),b7,b8,b4,b6,())))
 (if(0:Int)<=(0:Int)/\(0:Int)<(b6.length:Int)then(
 if(0:Int)<=(0:Int)/\(0:Int)<(b6.length:Int)then(
 (Qu (b1,AF,()) (b4,Ab,()) ((b6.getD 0 (0,0,[],[],false,[],())).1) (((b6.getD 0 (0,0,[],[],false,[],())).2.2.2.2.2.1).length:Int)).bind fun u5=>
 cond (u5.1.1.2.1)
  ((Kt u5.1.1.2.1).bind fun u6=>
  some ((u6.1.1,()),(((),AF,(),(),(),u5.1.1.1.2.1,(),(),(),(),AM,()),b1,b2,b3,(),b5,(),b7,b8,u5.2.1,[],())))
 ((Kt u5.1.1.2.1).bind fun u7=>
 some ((u7.1.1,()),(((),AF,(),(),(),Ab,(),(),(),(),AM,()),b1,b2,b3,(),b5,(),b7,b8,b4,b6,()))))else none)else none))else none)
abbrev qG:Type:=AHk×AE2
def Xa(p0:ABS)(p1:ACc)(p2:Int):Option qG:=
 (Ll (p0.1,p0.2.1,()) (p1.1,p1.2.1,())).bind fun u1=>
 cond (!u1.1.1)
  ((Ed (p0.1,p0.2.1,()) (p1.1,p1.2.1,())).bind fun u2=>
  some (((((),u2.1.1.2.1,()),false,()),()),(u2.2.1,())))
 ((FW p2).bind fun u3=>
 (BE u3.1.1 1 (p1.1.length:Int)).bind fun u4=>
 cond (!u4.1.1)
  ((Ed (p0.1,p0.2.1,()) (p1.1,p1.2.1,())).bind fun u5=>
  some (((((),u5.1.1.2.1,()),false,()),()),(u5.2.1,())))
 ((Eo (p1.1,p1.2.1,())).bind fun u6=>
 some (((((),(if p2>u6.1.1.2.1 then p2 else u6.1.1.2.1),()),true,()),()),(u6.2.1,()))))
abbrev ig:Type:=ABi×Unit
def QP(p0:AD_)(p1:ABq):Option ig:=
 some ((decide (p0.1<=p1.1),()),())
abbrev Bt:Type:=ABq×Unit
abbrev Cc:Type:=ABJ->AEB->Int->Int->Option Bt
def Dm(R2:Cc)(t0:ABJ)(t1:AEB)(t7 t8:Int):Option Bt:=
 cond (decide (t8<t7))
  (if(0:Int)<=t8/\t8<(t0.length:Int)then(
  (QP ((t0.getD (t8.toNat) (0,0,false,[],())).1,(t0.getD (t8.toNat) (0,0,false,[],())).2.1,(t0.getD (t8.toNat) (0,0,false,[],())).2.2.1,(t0.getD (t8.toNat) (0,0,false,[],())).2.2.2.1,()) t1.1).bind fun u1=>
  cond (u1.1.1)
   (some ((t8,()),()))
  (R2 t0 (t1.1,()) t7 (AW (t8+1))))else none)
 (some (((-1),()),()))
def BV:Nat->Cc
 |0=>fun _ _ _ _=>none
 |n+1=>Dm (BV n)
def Dk(R2:Cc)(p0:ABJ)(p1:AEB):Option Bt:=
 R2 p0 (p1.1,()) (p0.length:Int) 0
def Cw(p0:ABJ)(p1:AEB):Option Bt:=Dk (BV AZ) p0 p1
abbrev Br:Type:=ADI×AHu
abbrev CY:Type:=AEB->Int->Int->ABJ->Option Br
def Dc(R5:CY)(t1:AEB)(t5 t6:Int)(b0:ABJ):Option Br:=
 cond ((decide (t6<(b0.length:Int))))
  (if(0:Int)<=t6/\t6<(b0.length:Int)then(
  (QP ((b0.getD (t6.toNat) (0,0,false,[],())).1,(b0.getD (t6.toNat) (0,0,false,[],())).2.1,(b0.getD (t6.toNat) (0,0,false,[],())).2.2.1,(b0.getD (t6.toNat) (0,0,false,[],())).2.2.2.1,()) t1.1).bind fun u3=>
  cond (!u3.1.1)
   (if(0:Int)<=t5/\t5<(b0.length:Int)then(
   R5 (t1.1,()) (AW (t5+1)) (AW (t6+1)) (b0.set (t5.toNat) ((b0.getD (t6.toNat) (0,0,false,[],())).1,(b0.getD (t6.toNat) (0,0,false,[],())).2.1,(b0.getD (t6.toNat) (0,0,false,[],())).2.2.1,(b0.getD (t6.toNat) (0,0,false,[],())).2.2.2.1,())))else none)
  (R5 (t1.1,()) t5 (AW (t6+1)) b0))else none)
 (if(0:Int)<=t5/\t5<=(b0.length:Int)/\(b0.length:Int)<=(b0.length:Int)then(
 let x5:ABJ:=(b0.take (t5.toNat)++List.replicate (((b0.length:Int).toNat)-(t5.toNat)) (0,0,false,[],())++b0.drop ((t5.toNat)+(((b0.length:Int).toNat)-(t5.toNat))))
 if(0:Int)<=(0:Int)/\(0:Int)<=t5/\t5<=(x5.length:Int)then(
 some (((),()),((),((x5.drop 0).take ((t5.toNat)-0)),())))else none)else none)
def BR:Nat->CY
 |0=>fun _ _ _ _=>none
 |n+1=>Dc (BR n)
def Dj(R5:CY)(p1:AEB)(b0:ABJ):Option Br:=
 (Cw b0 (p1.1,())).bind fun u1=>
 cond (u1.1.1==(-1))
  (some (((),()),((),b0,())))
 (R5 (p1.1,()) u1.1.1 (AW (u1.1.1+1)) b0)
def B5(p1:AEB)(b0:ABJ):Option Br:=Dj (BR AZ) p1 b0
abbrev ni:Type:=AEV×AEK
def Su(p0:ACd)(p1:Int):Option ni:=
 (FU (p0.1,p0.2.1,p0.2.2.1,())).bind fun u1=>
 cond (!u1.1.1)
  ((Dy (p0.1,p0.2.1,p0.2.2.1,())).bind fun u2=>
  some (((((),(),u2.1.1.2.2.1,()),false,()),()),(u2.2.1,u2.2.2.1,())))
 ((EJ p1).bind fun u3=>
 cond (!u3.1.1)
  ((Dy (p0.1,p0.2.1,p0.2.2.1,())).bind fun u4=>
  some (((((),(),u4.1.1.2.2.1,()),false,()),()),(u4.2.1,u4.2.2.1,())))
 ((DJ (p0.1,p0.2.1,p0.2.2.1,())).bind fun u5=>
 (B5 ((p1,()),()) u5.2.1).bind fun u6=>
 some (((((),(),u5.1.1.2.2.1,()),true,()),()),(u6.2.2.1,u5.2.2.1,()))))
abbrev jO:Type:=ABq×AE0
def P4(p1 AF Ab:Int)(AM:Bool)(b1:AAB)(b2:AAQ)(b3:AAB)(b4:AAH)(b5:AAj)(b6:AA6)(b7:ABA)(b8:AAT):Option jO:=
 (Ej (b1,AF,b2,b3,b4,Ab,b5,b6,b7,b8,AM,()) p1).bind fun u1=>
 cond (u1.1.1 !=0)
  (some ((u1.1.1,()),(((),AF,(),(),(),Ab,(),(),(),(),AM,()),b1,b2,b3,b4,b5,b6,b7,b8,())))
 (if(0:Int)<=p1/\p1<(b2.length:Int)then(
 (Su ((b2.getD (p1.toNat) ([],[],0,())).1,(b2.getD (p1.toNat) ([],[],0,())).2.1,(b2.getD (p1.toNat) ([],[],0,())).2.2.1,()) Ab).bind fun u2=>
 if(0:Int)<=p1/\p1<(b2.length:Int)then(
 (Kt u2.1.1.2.1).bind fun u4=>
 some ((u4.1.1,()),(((),AF,(),(),(),Ab,(),(),(),(),AM,()),b1,(b2.set (p1.toNat) (u2.2.1,u2.2.2.1,u2.1.1.1.2.2.1,())),b3,b4,b5,b6,b7,b8,())))else none)else none)
abbrev O1:Type:=ADI×(Unit×AAj×Unit)
def FT(p1 p2:Int)(b0:AAj):Option O1:=(AG_ p1 p2 b0).map fun l=>(((),()),((),l,()))
abbrev eM:Type:=ABq×(AEp×List Int×AAQ×Unit×Unit×Unit×Unit×ABA×Unit×List Int×AAH×AAj×AA6×AAT×Unit)
def VH(p1:ADe)(AF Ab:Int)(AM:Bool)(b1:AAB)(b2:AAQ)(b3:AAB)(b4:AAH)(b5:AAj)(b6:AA6)(b7:ABA)(b8:AAT):Option eM:=
 cond (p1.1==1)
  ((Km p1.2.1 AF Ab AM b1 b2 b3 b4 b5 b6 b7 b8).bind fun u1=>
  some ((u1.1.1,()),(((),u1.2.1.2.1,(),(),(),u1.2.1.2.2.2.2.2.1,(),(),(),(),u1.2.1.2.2.2.2.2.2.2.2.2.2.1,()),u1.2.2.1,u1.2.2.2.1,(),(),(),(),u1.2.2.2.2.2.2.2.2.1,(),u1.2.2.2.2.1,u1.2.2.2.2.2.2.2.2.2.2.1,u1.2.2.2.2.2.2.2.2.2.2.2.1,u1.2.2.2.2.2.2.2.2.2.2.2.2.1,u1.2.2.2.2.2.2.2.2.2.1,())))
 (cond (p1.1==2)
  ((ME p1.2.1 p1.2.2.2.2.1 AF Ab AM b1 b2 b3 b4 b5 b6 b7 b8).bind fun u6=>
  some ((u6.1.1,()),(((),u6.2.1.2.1,(),(),(),u6.2.1.2.2.2.2.2.1,(),(),(),(),u6.2.1.2.2.2.2.2.2.2.2.2.2.1,()),u6.2.2.1,u6.2.2.2.1,(),(),(),(),u6.2.2.2.2.2.2.2.2.1,(),u6.2.2.2.2.1,u6.2.2.2.2.2.1,u6.2.2.2.2.2.2.1,u6.2.2.2.2.2.2.2.1,u6.2.2.2.2.2.2.2.2.2.2.1,())))
 (cond (p1.1==3)
  ((Jl (p1.1,p1.2.1,p1.2.2.1,p1.2.2.2.1,p1.2.2.2.2.1,()) AF Ab AM b1 b2 b3 b4 b5 b6 b7 b8).bind fun u8=>
  some ((u8.1.1,()),(((),u8.2.1.2.1,(),(),(),u8.2.1.2.2.2.2.2.1,(),(),(),(),u8.2.1.2.2.2.2.2.2.2.2.2.2.1,()),u8.2.2.1,u8.2.2.2.1,(),(),(),(),u8.2.2.2.2.2.2.2.2.1,(),u8.2.2.2.2.1,u8.2.2.2.2.2.1,u8.2.2.2.2.2.2.1,u8.2.2.2.2.2.2.2.1,u8.2.2.2.2.2.2.2.2.2.1,())))
 (cond (p1.1==4)
  ((RI p1.2.1 AF Ab AM b1 b2 b3 b4 b5 b6 b7 b8).bind fun EI=>
  some ((EI.1.1,()),(((),EI.2.1.2.1,(),(),(),EI.2.1.2.2.2.2.2.1,(),(),(),(),EI.2.1.2.2.2.2.2.2.2.2.2.2.1,()),EI.2.2.1,EI.2.2.2.1,(),(),(),(),EI.2.2.2.2.2.2.2.2.1,(),EI.2.2.2.2.1,EI.2.2.2.2.2.1,EI.2.2.2.2.2.2.1,EI.2.2.2.2.2.2.2.1,EI.2.2.2.2.2.2.2.2.2.1,())))
 (cond (p1.1==5)
  ((QA p1.2.1 p1.2.2.1 AF Ab AM b1 b2 b3 b4 b5 b6 b7 b8).bind fun M6=>
  some ((M6.1.1,()),(((),M6.2.1.2.1,(),(),(),M6.2.1.2.2.2.2.2.1,(),(),(),(),M6.2.1.2.2.2.2.2.2.2.2.2.2.1,()),M6.2.2.1,M6.2.2.2.1,(),(),(),(),M6.2.2.2.2.2.2.2.2.1,(),M6.2.2.2.2.1,M6.2.2.2.2.2.1,M6.2.2.2.2.2.2.1,M6.2.2.2.2.2.2.2.1,M6.2.2.2.2.2.2.2.2.2.1,())))
 (cond (p1.1==6)
  ((RF p1.2.1 AF Ab AM b1 b2 b3 b4 b5 b6 b7 b8).bind fun u16=>
  some ((u16.1.1,()),(((),u16.2.1.2.1,(),(),(),u16.2.1.2.2.2.2.2.1,(),(),(),(),u16.2.1.2.2.2.2.2.2.2.2.2.2.1,()),u16.2.2.1,u16.2.2.2.1,(),(),(),(),u16.2.2.2.2.2.2.2.2.1,(),u16.2.2.2.2.2.2.2.2.2.2.1,u16.2.2.2.2.2.1,u16.2.2.2.2.2.2.1,u16.2.2.2.2.2.2.2.1,u16.2.2.2.2.2.2.2.2.2.1,())))
 (cond (p1.1==7)
  ((Ko p1.2.1 AF Ab AM b1 b2 b3 b4 b5 b6 b7 b8).bind fun Lt=>
  some ((Lt.1.1,()),(((),Lt.2.1.2.1,(),(),(),Lt.2.1.2.2.2.2.2.1,(),(),(),(),Lt.2.1.2.2.2.2.2.2.2.2.2.2.1,()),Lt.2.2.1,Lt.2.2.2.1,(),(),(),(),Lt.2.2.2.2.2.2.2.2.1,(),Lt.2.2.2.2.2.2.2.2.2.2.1,Lt.2.2.2.2.2.1,Lt.2.2.2.2.2.2.1,Lt.2.2.2.2.2.2.2.1,Lt.2.2.2.2.2.2.2.2.2.1,())))
 (cond (p1.1==8)
  ((RM AF Ab AM b1 b2 b3 b4 b5 b6 b7 b8).bind fun HS=>
  some ((HS.1.1,()),(((),HS.2.1.2.1,(),(),(),HS.2.1.2.2.2.2.2.1,(),(),(),(),HS.2.1.2.2.2.2.2.2.2.2.2.2.1,()),HS.2.2.1,HS.2.2.2.1,(),(),(),(),HS.2.2.2.2.2.2.2.2.1,(),HS.2.2.2.2.1,HS.2.2.2.2.2.1,HS.2.2.2.2.2.2.1,HS.2.2.2.2.2.2.2.2.2.2.1,HS.2.2.2.2.2.2.2.2.2.1,())))
 (cond (p1.1==9)
  ((Kc p1.2.1 AF Ab AM b1 b2 b3 b4 b5 b6 b7 b8).bind fun Pr=>
  some ((Pr.1.1,()),(((),Pr.2.1.2.1,(),(),(),Pr.2.1.2.2.2.2.2.1,(),(),(),(),Pr.2.1.2.2.2.2.2.2.2.2.2.2.1,()),Pr.2.2.1,Pr.2.2.2.1,(),(),(),(),Pr.2.2.2.2.2.2.2.2.1,(),Pr.2.2.2.2.1,Pr.2.2.2.2.2.1,Pr.2.2.2.2.2.2.1,Pr.2.2.2.2.2.2.2.1,Pr.2.2.2.2.2.2.2.2.2.1,())))
 (cond (p1.1==10)
  ((Kl AF Ab AM b1 b2 b3 b4 b5 b6 b7 b8).bind fun eF=>
  some ((eF.1.1,()),(((),eF.2.1.2.1,(),(),(),eF.2.1.2.2.2.2.2.1,(),(),(),(),eF.2.1.2.2.2.2.2.2.2.2.2.2.1,()),eF.2.2.1,eF.2.2.2.1,(),(),(),(),eF.2.2.2.2.2.2.2.2.1,(),eF.2.2.2.2.1,eF.2.2.2.2.2.1,eF.2.2.2.2.2.2.1,eF.2.2.2.2.2.2.2.1,eF.2.2.2.2.2.2.2.2.2.1,())))
 (cond (p1.1==11)
  ((TM p1.2.2.1 p1.2.2.2.1 AF Ab AM b1 b2 b3 b4 b5 b6 b7 b8).bind fun vU=>
  some ((vU.1.1,()),(((),vU.2.1.2.1,(),(),(),vU.2.1.2.2.2.2.2.1,(),(),(),(),vU.2.1.2.2.2.2.2.2.2.2.2.2.1,()),vU.2.2.1,vU.2.2.2.1,(),(),(),(),vU.2.2.2.2.2.2.2.2.1,(),vU.2.2.2.2.1,vU.2.2.2.2.2.1,vU.2.2.2.2.2.2.1,vU.2.2.2.2.2.2.2.1,vU.2.2.2.2.2.2.2.2.2.1,())))
 (cond (p1.1==12)
  ((Ja AF Ab AM b1 b2 b3 b4 b5 b6 b7 b8).bind fun oF=>
  some ((oF.1.1,()),(((),oF.2.1.2.1,(),(),(),oF.2.1.2.2.2.2.2.1,(),(),(),(),oF.2.1.2.2.2.2.2.2.2.2.2.2.1,()),oF.2.2.1,oF.2.2.2.1,(),(),(),(),oF.2.2.2.2.2.2.2.2.1,(),oF.2.2.2.2.1,oF.2.2.2.2.2.2.2.2.2.2.1,oF.2.2.2.2.2.2.1,oF.2.2.2.2.2.2.2.2.2.2.2.1,oF.2.2.2.2.2.2.2.2.2.1,())))
 (cond (p1.1==13)
  ((Xa (b1,AF,()) (b4,Ab,()) p1.2.1).bind fun sj=>
  (Kt sj.1.1.2.1).bind fun u43=>
  some ((u43.1.1,()),(((),AF,(),(),(),sj.1.1.1.2.1,(),(),(),(),AM,()),b1,b2,(),(),(),(),b7,(),b3,sj.2.1,b5,b6,b8,())))
 (cond (p1.1==14)
  ((Np p1.2.1 p1.2.2.1 AF Ab AM b1 b2 b3 b4 b5 b6 b7 b8).bind fun tW=>
  some ((tW.1.1,()),(((),tW.2.1.2.1,(),(),(),tW.2.1.2.2.2.2.2.1,(),(),(),(),tW.2.1.2.2.2.2.2.2.2.2.2.2.1,()),tW.2.2.1,tW.2.2.2.1,(),(),(),(),tW.2.2.2.2.2.2.2.2.1,(),tW.2.2.2.2.1,tW.2.2.2.2.2.1,tW.2.2.2.2.2.2.1,tW.2.2.2.2.2.2.2.1,tW.2.2.2.2.2.2.2.2.2.1,())))
 (cond (p1.1==16)
  ((P4 p1.2.1 AF Ab AM b1 b2 b3 b4 b5 b6 b7 b8).bind fun tZ=>
  some ((tZ.1.1,()),(((),tZ.2.1.2.1,(),(),(),tZ.2.1.2.2.2.2.2.1,(),(),(),(),tZ.2.1.2.2.2.2.2.2.2.2.2.2.1,()),tZ.2.2.1,tZ.2.2.2.1,(),(),(),(),tZ.2.2.2.2.2.2.2.2.1,(),tZ.2.2.2.2.1,tZ.2.2.2.2.2.1,tZ.2.2.2.2.2.2.1,tZ.2.2.2.2.2.2.2.1,tZ.2.2.2.2.2.2.2.2.2.1,())))
 ((BE p1.2.1 0 (AW ((b5.length:Int)-1))).bind fun u53=>
 cond (!u53.1.1)
  (some ((2,()),(((),AF,(),(),(),Ab,(),(),(),(),AM,()),b1,b2,(),(),(),(),b7,(),b3,b4,b5,b6,b8,())))
 ((FT p1.2.1 (AW (p1.2.1+1)) b5).bind fun u54=>
 some ((0,()),(((),AF,(),(),(),Ab,(),(),(),(),AM,()),b1,b2,(),(),(),(),b7,(),b3,b4,u54.2.2.1,b6,b8,()))))))))))))))))))
abbrev rf:Type:=AED×AEE
def QG(p0:ABl)(p1:ADe):Option rf:=
 (Kz (p0.1,p0.2.1,p0.2.2.1,p0.2.2.2.1,p0.2.2.2.2.1,p0.2.2.2.2.2.1,p0.2.2.2.2.2.2.1,p0.2.2.2.2.2.2.2.1,p0.2.2.2.2.2.2.2.2.1,p0.2.2.2.2.2.2.2.2.2.1,p0.2.2.2.2.2.2.2.2.2.2.1,())).bind fun u1=>
 cond (!u1.1.1)
  (some (((((),0,(),(),(),0,(),(),(),(),false,()),1,()),()),([],[],[],[],[],[],[],[],())))
 ((ZW (p1.1,p1.2.1,p1.2.2.1,p1.2.2.2.1,p1.2.2.2.2.1,())).bind fun u2=>
 cond (!u2.1.1)
  (some (((((),0,(),(),(),0,(),(),(),(),false,()),1,()),()),([],[],[],[],[],[],[],[],())))
 ((HA (p0.1,p0.2.1,p0.2.2.1,p0.2.2.2.1,p0.2.2.2.2.1,p0.2.2.2.2.2.1,p0.2.2.2.2.2.2.1,p0.2.2.2.2.2.2.2.1,p0.2.2.2.2.2.2.2.2.1,p0.2.2.2.2.2.2.2.2.2.1,p0.2.2.2.2.2.2.2.2.2.2.1,())).bind fun u3=>
 (VH (p1.1,p1.2.1,p1.2.2.1,p1.2.2.2.1,p1.2.2.2.2.1,()) u3.1.1.2.1 u3.1.1.2.2.2.2.2.1 u3.1.1.2.2.2.2.2.2.2.2.2.2.1 u3.2.1 u3.2.2.1 u3.2.2.2.1 u3.2.2.2.2.1 u3.2.2.2.2.2.1 u3.2.2.2.2.2.2.1 u3.2.2.2.2.2.2.2.1 u3.2.2.2.2.2.2.2.2.1).bind fun u4=>
 cond (u4.1.1 !=0)
  ((HA (p0.1,p0.2.1,p0.2.2.1,p0.2.2.2.1,p0.2.2.2.2.1,p0.2.2.2.2.2.1,p0.2.2.2.2.2.2.1,p0.2.2.2.2.2.2.2.1,p0.2.2.2.2.2.2.2.2.1,p0.2.2.2.2.2.2.2.2.2.1,p0.2.2.2.2.2.2.2.2.2.2.1,())).bind fun EI=>
  some (((((),EI.1.1.2.1,(),(),(),EI.1.1.2.2.2.2.2.1,(),(),(),(),EI.1.1.2.2.2.2.2.2.2.2.2.2.1,()),u4.1.1,()),()),(EI.2.1,EI.2.2.1,EI.2.2.2.1,EI.2.2.2.2.1,EI.2.2.2.2.2.1,EI.2.2.2.2.2.2.1,EI.2.2.2.2.2.2.2.1,EI.2.2.2.2.2.2.2.2.1,())))
 (some (((((),u4.2.1.2.1,(),(),(),u4.2.1.2.2.2.2.2.1,(),(),(),(),u4.2.1.2.2.2.2.2.2.2.2.2.2.1,()),0,()),()),(u4.2.2.1,u4.2.2.2.1,u4.2.2.2.2.2.2.2.2.2.2.1,u4.2.2.2.2.2.2.2.2.2.2.2.1,u4.2.2.2.2.2.2.2.2.2.2.2.2.1,u4.2.2.2.2.2.2.2.2.2.2.2.2.2.1,u4.2.2.2.2.2.2.2.2.1,u4.2.2.2.2.2.2.2.2.2.2.2.2.2.2.1,())))))
abbrev lF:Type:=AG7×AEE
def Kk(p0:ABl):Option lF:=
 (Kz (p0.1,p0.2.1,p0.2.2.1,p0.2.2.2.1,p0.2.2.2.2.1,p0.2.2.2.2.2.1,p0.2.2.2.2.2.2.1,p0.2.2.2.2.2.2.2.1,p0.2.2.2.2.2.2.2.2.1,p0.2.2.2.2.2.2.2.2.2.1,p0.2.2.2.2.2.2.2.2.2.2.1,())).bind fun u1=>
 cond (!u1.1.1)
  (some ((((),0,(),(),(),0,(),(),(),(),false,()),()),([],[],[],[],[],[],[],[],())))
 ((HA (p0.1,p0.2.1,p0.2.2.1,p0.2.2.2.1,p0.2.2.2.2.1,p0.2.2.2.2.2.1,p0.2.2.2.2.2.2.1,p0.2.2.2.2.2.2.2.1,p0.2.2.2.2.2.2.2.2.1,p0.2.2.2.2.2.2.2.2.2.1,p0.2.2.2.2.2.2.2.2.2.2.1,())).bind fun u2=>
 some ((((),u2.1.1.2.1,(),(),(),u2.1.1.2.2.2.2.2.1,(),(),(),(),u2.1.1.2.2.2.2.2.2.2.2.2.2.1,()),()),(u2.2.1,u2.2.2.1,u2.2.2.2.1,u2.2.2.2.2.1,u2.2.2.2.2.2.1,u2.2.2.2.2.2.2.1,u2.2.2.2.2.2.2.2.1,u2.2.2.2.2.2.2.2.2.1,())))
abbrev Og:Type:=ADI×ADM
abbrev Rl:Type:=List Int->Int->Int->List Int->Option Og
def OE(R3:Rl)(t13:AAB)(t14 t15:Int)(b0:AAB):Option Og:=
 cond (decide (t15<t14))
  (if(0:Int)<=t15/\t15<(t13.length:Int)then(
  (GV b0 (t13.getD (t15.toNat) 0)).bind fun u4=>
  R3 t13 t14 (AW (t15+1)) u4.2.1)else none)
 (some (((),()),(b0,())))
def Hv:Nat->Rl
 |0=>fun _ _ _ _=>none
 |n+1=>OE (Hv n)
def UN(R3:Rl)(p0:ABl)(p1:Int):Option Og:=
 (H8 (p0.2.2.2.2.1,p0.2.2.2.2.2.1,()) p1).bind fun u1=>
 R3 p0.2.2.2.1 (p0.2.2.2.1.length:Int) 0 u1.2.1
def Nq(p0:ABl)(p1:Int):Option Og:=UN (Hv AZ) p0 p1
abbrev mZ:Type:=AHo×AEE
abbrev pU:Type:=ADI×ADM
def Qr(p0:ABl)(p1:AAB):Option pU:=
 (IQ p1 p0.2.2.2.1).bind fun u1=>
 some (((),()),(u1.2.1,()))
end
end Go.M
