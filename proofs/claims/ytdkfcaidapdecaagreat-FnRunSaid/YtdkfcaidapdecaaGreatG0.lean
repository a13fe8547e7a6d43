/- What each function computes, printed by a program out of the translation; what is printed is checked in the equations. -/
import Derived.Test.YtdkfcaidapdecaaGreatF1
set_option linter.unusedVariables false
set_option linter.unusedSimpArgs false
set_option linter.unusedSectionVars false
namespace Go.M
noncomputable section
abbrev gx:Type:=ABV×Unit
def jY(p0:AAD):Option gx:=
 some (((decide ((p0.length:Int)>1048576)),()),())
abbrev W3:Type:=ACP×ADZ
abbrev aI:Type:=List Int→Int→Int→Option W3
def bA(R3:aI)(t0:AAD)(t3 t4:Int):Option W3:=
 cond ((decide (t4<(t0.length:Int))))
  (cond (decide (t4<4000))
   (if(0:Int)≤t4∧t4<(t0.length:Int)then(
   R3 t0 (dS .i64 (AS ((AS ((AS (t3*131))+(AS ((t0.getD (t4.toNat) 0)))))+7)) 1073741823) (AS (t4+1)))else none)
  (some (((),()),((t0,0,t3,()),()))))
 (some (((),()),((t0,0,t3,()),())))
def QX:Nat→aI
 |0=>fun _ _ _=>none
 |n+1=>bA (QX n)
def az(R3:aI)(p0:AAD):Option W3:=
 R3 p0 (AS (17817+(p0.length:Int))) 0
def bt(p0:AAD):Option W3:=az (QX AX) p0
abbrev rG:Type:=ABw×ADZ
def MZ(AL:AAD)(AE AY:Int):Option rG:=
 let x2:Int:=AS ((AS (AY*6364136223846793005))+1442695040888963407)
 let x3:Int:=AOU .i64 (x2.fdiv (2^33)) (x2.fdiv (2^45))
 cond ((decide (AE<(AL.length:Int))))
  (if(0:Int)≤AE∧AE<(AL.length:Int)then(
  some ((dS .i64 (AS ((dS .i64 x3 255)+(AS ((AL.getD (AE.toNat) 0))))) 255,()),((AL,AS (AE+1),x2,()),())))else none)
 (some ((dS .i64 x3 255,()),((AL,AE,x2,()),())))
abbrev H7:Type:=ABw×ADZ
def AJ(p1:Int)(AL:AAD)(AE AY:Int):Option H7:=
 cond (decide (p1≤0))
  (some ((0,()),((AL,AE,AY,()),())))
 (cond (decide (p1≤256))
  ((MZ AL AE AY).bind fun u1=>
  if p1=0 then none else(
  some ((u1.1.1.tmod p1,()),((u1.2.1.1,u1.2.1.2.1,u1.2.1.2.2.1,()),()))))
 ((MZ AL AE AY).bind fun u2=>
 (MZ u2.2.1.1 u2.2.1.2.1 u2.2.1.2.2.1).bind fun u3=>
 (MZ u3.2.1.1 u3.2.1.2.1 u3.2.1.2.2.1).bind fun u4=>
 (MZ u4.2.1.1 u4.2.1.2.1 u4.2.1.2.2.1).bind fun u5=>
 if p1=0 then none else(
 some ((((AS ((AS ((AS ((AS (u2.1.1*16777216))+(AS (u3.1.1*65536))))+(AS (u4.1.1*256))))+u5.1.1)).tmod p1),()),((u5.2.1.1,u5.2.1.2.1,u5.2.1.2.2.1,()),())))))
abbrev Nd:Type:=ABV×ADZ
def A5(p1:Int)(AL:AAD)(AE AY:Int):Option Nd:=
 (AJ p1 AL AE AY).bind fun u1=>
 some ((u1.1.1==0,()),((u1.2.1.1,u1.2.1.2.1,u1.2.1.2.2.1,()),()))
abbrev Mu:Type:=ACc×AFg
abbrev P_:Type:=Int→Int→List Int→Int→Int→Int→List Int→Int→List Int→Option Mu
def TP(R4:P_)(t4 t5:Int)(AL:AAD)(AE AY Ap:Int)(b2:AAD)(eW:Int)(b4:AAD):Option Mu:=
 cond (decide (t5<t4))
  ((AJ 5 AL AE AY).bind fun u3=>
  if b4.length+1≤C7 then(
  R4 t4 (AS (t5+1)) u3.2.1.1 u3.2.1.2.1 u3.2.1.2.2.1 Ap b2 eW (b4++[u3.1.1]))else none)
 ((A5 2 AL AE AY).bind fun u5=>
 cond (u5.1.1)
  (some ((((),2,()),()),((u5.2.1.1,u5.2.1.2.1,u5.2.1.2.2.1,()),b4,())))
 (some ((((),eW,()),()),((u5.2.1.1,u5.2.1.2.1,u5.2.1.2.2.1,()),b4,()))))
def Ip:Nat→P_
 |0=>fun _ _ _ _ _ _ _ _ _=>none
 |n+1=>TP (Ip n)
def TM(R4:P_)(AL:AAD)(AE AY:Int):Option Mu:=
 (AJ 3 AL AE AY).bind fun u1=>
 (AJ 5 u1.2.1.1 u1.2.1.2.1 u1.2.1.2.2.1).bind fun u2=>
 R4 (AS (3+u2.1.1)) 0 u2.2.1.1 u2.2.1.2.1 u2.2.1.2.2.1 0 [] (AS (1+u1.1.1)) []
def JX(AL:AAD)(AE AY:Int):Option Mu:=TM (Ip AX) AL AE AY
abbrev lQ:Type:=ABw×ADZ
def CP(p1 AL:AAD)(AE AY:Int):Option lQ:=
 (AJ (p1.length:Int) AL AE AY).bind fun u1=>
 if(0:Int)≤u1.1.1∧u1.1.1<(p1.length:Int)then(
 some (((p1.getD (u1.1.1.toNat) 0),()),((u1.2.1.1,u1.2.1.2.1,u1.2.1.2.2.1,()),())))else none
abbrev aO:Type:=ACc×AFg
def Ro(AL:AAD)(AE AY:Int):Option aO:=
 (JX AL AE AY).bind fun u1=>
 (AJ 20 u1.2.1.1 u1.2.1.2.1 u1.2.1.2.2.1).bind fun u2=>
 cond (u2.1.1==0)
  ((CP [0,4,5] u2.2.1.1 u2.2.1.2.1 u2.2.1.2.2.1).bind fun u3=>
  some ((((),u3.1.1,()),()),((u3.2.1.1,u3.2.1.2.1,u3.2.1.2.2.1,()),u1.2.2.1,())))
 (cond (u2.1.1==1)
  ((CP [(-1),7,8] u2.2.1.1 u2.2.1.2.1 u2.2.1.2.2.1).bind fun u4=>
  if(0:Int)≤(0:Int)∧(0:Int)<(u1.2.2.1.length:Int)then(
  some ((((),u1.1.1.2.1,()),()),((u4.2.1.1,u4.2.1.2.1,u4.2.1.2.2.1,()),(u1.2.2.1.set 0 u4.1.1),())))else none)
 (cond (u2.1.1==2)
  ((CP [0,8,9] u2.2.1.1 u2.2.1.2.1 u2.2.1.2.2.1).bind fun u6=>
  if(0:Int)≤u6.1.1∧u6.1.1≤u6.1.1∧u6.1.1≤(C7:Int)then(
  some ((((),u1.1.1.2.1,()),()),((u6.2.1.1,u6.2.1.2.1,u6.2.1.2.2.1,()),(List.replicate (u6.1.1.toNat) 0),())))else none)
 (some ((((),u1.1.1.2.1,()),()),((u2.2.1.1,u2.2.1.2.1,u2.2.1.2.2.1,()),u1.2.2.1,())))))
abbrev dC:Type:=ACP×ACQ
def DF(p0:AAD):Option dC:=
 if 0+p0.length≤C7 then(
 some (((),()),(p0,())))else none
abbrev jh:Type:=ACc×ACQ
def Qt(p0:ABD):Option jh:=
 (DF p0.1).bind fun u1=>
 some ((((),p0.2.1,()),()),(u1.2.1,()))
abbrev Nq:Type:=ABV×Unit
def A3(p0 p1 p2:Int):Option Nq:=
 cond (decide (p0≥p1))
  (some ((decide (p0≤p2),()),()))
 (some ((false,()),()))
abbrev Qo:Type:=ABV×Unit
abbrev T8:Type:=List Int→Int→Int→List Int→Int→Option Qo
def Wa(R2:T8)(t6:AAD)(t7 t8:Int)(AL:AAD)(AE:Int):Option Qo:=
 cond (decide (t8<t7))
  (if(0:Int)≤t8∧t8<(t6.length:Int)then(
  (A3 (t6.getD (t8.toNat) 0) 0 7).bind fun u2=>
  cond (!u2.1.1)
   (some ((false,()),()))
  (R2 t6 t7 (AS (t8+1)) AL AE))else none)
 ((A3 (AL.length:Int) 1 8).bind fun u3=>
 cond (u3.1.1)
  ((A3 AE 1 4).bind fun u4=>
  some ((u4.1.1,()),()))
 (some ((false,()),())))
def MD:Nat→T8
 |0=>fun _ _ _ _ _=>none
 |n+1=>Wa (MD n)
def Wg(R2:T8)(p0:ABD):Option Qo:=
 R2 p0.1 (p0.1.length:Int) 0 p0.1 p0.2.1
def E8(p0:ABD):Option Qo:=Wg (MD AX) p0
abbrev Sb:Type:=ABV×Unit
abbrev V3:Type:=List Int→Int→List Int→Int→Int→Option Sb
def RN(R2:V3)(t0:AAD)(t1:Int)(t7:AAD)(t8 t9:Int):Option Sb:=
 cond (decide (t9<t8))
  (if(0:Int)≤t9∧t9<(t7.length:Int)then(
  let x1:Int:=(t7.getD (t9.toNat) 0)
  (A3 x1 0 t1).bind fun u2=>
  cond (!u2.1.1)
   (some ((false,()),()))
  (cond (decide (t9>0))
   (if(0:Int)≤AS (t9-1)∧AS (t9-1)<(t0.length:Int)then(
   cond (decide ((t0.getD ((AS (t9-1)).toNat) 0)≥x1))
    (some ((false,()),()))
   (R2 t0 t1 t7 t8 (AS (t9+1))))else none)
  (R2 t0 t1 t7 t8 (AS (t9+1)))))else none)
 (some ((true,()),()))
def KW:Nat→V3
 |0=>fun _ _ _ _ _=>none
 |n+1=>RN (KW n)
def Xm(R2:V3)(p0:AAD)(p1:Int):Option Sb:=
 R2 p0 p1 p0 (p0.length:Int) 0
def XQ(p0:AAD)(p1:Int):Option Sb:=Xm (KW AX) p0 p1
abbrev oX:Type:=ABV×Unit
def D6(p0:ABD)(p1:AAD):Option oX:=
 (E8 (p0.1,p0.2.1,())).bind fun u1=>
 cond (u1.1.1)
  ((XQ p1 (AS ((p0.1.length:Int)-1))).bind fun u3=>
  some ((u3.1.1,()),()))
 (some ((false,()),()))
abbrev pJ:Type:=ABV×Unit
def Hl(p0:Int):Option pJ:=
 (A3 p0 1 30).bind fun u1=>
 some ((u1.1.1,()),())
abbrev te:Type:=ABV×Unit
def Xt(p0:Int):Option te:=
 (A3 p0 1 60).bind fun u1=>
 some ((u1.1.1,()),())
abbrev o8:Type:=ABV×Unit
def D8(p0:Int):Option o8:=
 (Hl (AS (p0.tdiv 4294967296))).bind fun u2=>
 cond (u2.1.1)
  ((Xt (p0.tmod 4294967296)).bind fun u3=>
  some ((u3.1.1,()),()))
 (some ((false,()),()))
abbrev rL:Type:=ABV×Unit
def GK(p0:AB_):Option rL:=
 some (((decide ((p0.length:Int)≤40)),()),())
abbrev pg:Type:=ABw×Unit
def FI(p0:Int):Option pg:=
 (D8 p0).bind fun u1=>
 cond (!u1.1.1)
  (some ((0,()),()))
 (some (((AS (p0.tdiv 4294967296)),()),()))
abbrev qh:Type:=ABV×Unit
def Mx(p0:ACX):Option qh:=
 (A3 p0.2.1 0 30).bind fun u1=>
 cond (u1.1.1)
  (cond (p0.2.1==0)
   (cond (!p0.2.2.1)
    ((D8 p0.1).bind fun u2=>
    cond (u2.1.1)
     ((GK p0.2.2.2.1).bind fun u3=>
     some ((u3.1.1,()),()))
    (some ((false,()),())))
   (cond (decide (p0.2.1>0))
    ((D8 p0.1).bind fun u4=>
    cond (u4.1.1)
     (cond (p0.2.2.2.1==[])
      ((GK p0.2.2.2.1).bind fun u5=>
      some ((u5.1.1,()),()))
     (some ((false,()),())))
    (some ((false,()),())))
   ((D8 p0.1).bind fun u6=>
   cond (u6.1.1)
    (some ((false,()),()))
   (some ((false,()),())))))
  ((FI p0.1).bind fun u7=>
  let x8:Bool:=decide (p0.2.1>u7.1.1)
  cond (!p0.2.2.1)
   ((D8 p0.1).bind fun u9=>
   cond (u9.1.1)
    (cond (x8)
     ((GK p0.2.2.2.1).bind fun Dd=>
     some ((Dd.1.1,()),()))
    (some ((false,()),())))
   (some ((false,()),())))
  (cond (decide (p0.2.1>0))
   ((D8 p0.1).bind fun LR=>
   cond (LR.1.1)
    (cond (x8)
     (cond (p0.2.2.2.1==[])
      ((GK p0.2.2.2.1).bind fun D_=>
      some ((D_.1.1,()),()))
     (some ((false,()),())))
    (some ((false,()),())))
   (some ((false,()),())))
  ((D8 p0.1).bind fun Mh=>
  cond (Mh.1.1)
   (cond (x8)
    (some ((false,()),()))
   (some ((false,()),())))
  (some ((false,()),()))))))
 (cond (!p0.2.2.1)
  ((D8 p0.1).bind fun F5=>
  cond (F5.1.1)
   (some ((false,()),()))
  (some ((false,()),())))
 (cond (decide (p0.2.1>0))
  ((D8 p0.1).bind fun uM=>
  cond (uM.1.1)
   (some ((false,()),()))
  (some ((false,()),())))
 ((D8 p0.1).bind fun u16=>
 cond (u16.1.1)
  (some ((false,()),()))
 (some ((false,()),())))))
abbrev Pu:Type:=ABV×Unit
abbrev TO:Type:=AAs→Int→Int→Option Pu
def PI(R2:TO)(t5:AAs)(t6 t7:Int):Option Pu:=
 cond (decide (t7<t6))
  (if(0:Int)≤t7∧t7<(t5.length:Int)then(
  (Mx ((t5.getD (t7.toNat) (0,0,false,[],())).1,(t5.getD (t7.toNat) (0,0,false,[],())).2.1,(t5.getD (t7.toNat) (0,0,false,[],())).2.2.1,(t5.getD (t7.toNat) (0,0,false,[],())).2.2.2.1,())).bind fun u1=>
  cond (!u1.1.1)
   (some ((false,()),()))
  (R2 t5 t6 (AS (t7+1))))else none)
 (some ((true,()),()))
def IV:Nat→TO
 |0=>fun _ _ _=>none
 |n+1=>PI (IV n)
def Vp(R2:TO)(p0:AAs):Option Pu:=
 R2 p0 (p0.length:Int) 0
def PR(p0:AAs):Option Pu:=Vp (IV AX) p0
abbrev Lh:Type:=ABV×Unit
abbrev O8:Type:=AAs→AAs→Int→Int→Option Lh
def Lr(R2:O8)(t0 t5:AAs)(t6 t7:Int):Option Lh:=
 cond (decide (t7<t6))
  (if(0:Int)≤t7∧t7<(t5.length:Int)then(
  cond (decide (t7>0))
   (if(0:Int)≤AS (t7-1)∧AS (t7-1)<(t0.length:Int)then(
   cond (decide (((t0.getD ((AS (t7-1)).toNat) (0,0,false,[],())).1)≥((t5.getD (t7.toNat) (0,0,false,[],())).1)))
    (some ((false,()),()))
   (R2 t0 t5 t6 (AS (t7+1))))else none)
  (R2 t0 t5 t6 (AS (t7+1))))else none)
 (some ((true,()),()))
def GD:Nat→O8
 |0=>fun _ _ _ _=>none
 |n+1=>Lr (GD n)
def RW(R2:O8)(p0:AAs):Option Lh:=
 R2 p0 p0 (p0.length:Int) 0
def Kr(p0:AAs):Option Lh:=RW (GD AX) p0
abbrev qK:Type:=ABV×Unit
def FL(p0:ACD):Option qK:=
 cond ((decide ((p0.1.length:Int)>200)))
  (some ((false,()),()))
 (cond (decide ((p0.2.1.length:Int)>20))
  (some ((false,()),()))
 ((PR p0.1).bind fun u3=>
 cond (u3.1.1)
  ((PR p0.2.1).bind fun u4=>
  cond (u4.1.1)
   ((Kr p0.1).bind fun u5=>
   cond (u5.1.1)
    ((A3 p0.2.2.1 0 30).bind fun u6=>
    some ((u6.1.1,()),()))
   (some ((false,()),())))
  (some ((false,()),())))
 (some ((false,()),()))))
abbrev I8:Type:=ABw×Unit
abbrev MK:Type:=List Int→Int→Int→Int→Option I8
def Ot(R2:MK)(t0:AAD)(t1 t7 t8:Int):Option I8:=
 cond (decide (t8<t7))
  (if(0:Int)≤t8∧t8<(t0.length:Int)then(
  cond (t1==(t0.getD (t8.toNat) 0))
   (some ((t8,()),()))
  (R2 t0 t1 t7 (AS (t8+1))))else none)
 (some (((-1),()),()))
def GP:Nat→MK
 |0=>fun _ _ _ _=>none
 |n+1=>Ot (GP n)
def PE(R2:MK)(p0:AAD)(p1:Int):Option I8:=
 R2 p0 p1 (p0.length:Int) 0
def O5(p0:AAD)(p1:Int):Option I8:=PE (GP AX) p0 p1
abbrev Yo:Type:=ABV×Unit
def Bk(p0:AAD)(p1:Int):Option Yo:=
 (O5 p0 p1).bind fun u1=>
 some ((decide (u1.1.1≥0),()),())
abbrev rm:Type:=ABV×Unit
def Ru(p0:Int)(p1:ACQ):Option rm:=
 (Bk p1.1 p0).bind fun u1=>
 some ((!u1.1.1,()),())
abbrev DM:Type:=ABw×Unit
abbrev Ec:Type:=List Int→(ACQ×Unit)→Int→Int→Option DM
def D9(R2:Ec)(t0:AAD)(t1:ACQ×Unit)(t7 t8:Int):Option DM:=
 cond (decide (t8<t7))
  (if(0:Int)≤t8∧t8<(t0.length:Int)then(
  (Ru (t0.getD (t8.toNat) 0) t1.1).bind fun u2=>
  cond (u2.1.1)
   (some ((t8,()),()))
  (R2 t0 (t1.1,()) t7 (AS (t8+1))))else none)
 (some (((-1),()),()))
def B5:Nat→Ec
 |0=>fun _ _ _ _=>none
 |n+1=>D9 (B5 n)
def D7(R2:Ec)(p0:AAD)(p1:ACQ×Unit):Option DM:=
 R2 p0 (p1.1,()) (p0.length:Int) 0
def Dj(p0:AAD)(p1:ACQ×Unit):Option DM:=D7 (B5 AX) p0 p1
abbrev DH:Type:=ACP×AFl
abbrev EW:Type:=(ACQ×Unit)→Int→Int→List Int→Option DH
def Dy(R5:EW)(t1:ACQ×Unit)(t5 t6:Int)(b0:AAD):Option DH:=
 cond ((decide (t6<(b0.length:Int))))
  (if(0:Int)≤t6∧t6<(b0.length:Int)then(
  let x3:Int:=(b0.getD (t6.toNat) 0)
  (Ru x3 t1.1).bind fun u4=>
  cond (!u4.1.1)
   (if(0:Int)≤t5∧t5<(b0.length:Int)then(
   R5 (t1.1,()) (AS (t5+1)) (AS (t6+1)) (b0.set (t5.toNat) x3))else none)
  (R5 (t1.1,()) t5 (AS (t6+1)) b0))else none)
 (if(0:Int)≤t5∧t5≤(b0.length:Int)∧(b0.length:Int)≤(b0.length:Int)then(
 let x6:AAD:=(b0.take (t5.toNat)++List.replicate (((b0.length:Int).toNat)-(t5.toNat)) 0++b0.drop ((t5.toNat)+(((b0.length:Int).toNat)-(t5.toNat))))
 if(0:Int)≤(0:Int)∧(0:Int)≤t5∧t5≤(x6.length:Int)then(
 some (((),()),((),((x6.drop 0).take ((t5.toNat)-0)),())))else none)else none)
def Bp:Nat→EW
 |0=>fun _ _ _ _=>none
 |n+1=>Dy (Bp n)
def D1(R5:EW)(p1:ACQ×Unit)(b0:AAD):Option DH:=
 (Dj b0 (p1.1,())).bind fun u1=>
 cond (u1.1.1==(-1))
  (some (((),()),((),b0,())))
 (R5 (p1.1,()) u1.1.1 (AS (u1.1.1+1)) b0)
def Ck(p1:ACQ×Unit)(b0:AAD):Option DH:=D1 (Bp AX) p1 b0
abbrev vY:Type:=ACP×ACQ
def Np(p0 p1:AAD):Option vY:=
 (DF p0).bind fun u1=>
 (Ck ((p1,()),()) u1.2.1).bind fun u2=>
 some (((),()),(u2.2.2.1,()))
abbrev Lg:Type:=ABV×Unit
def C4(p0:ABi)(p1:Int):Option Lg:=
 (Np [p1] p0.2.2.2.1).bind fun u1=>
 some ((decide ((u1.2.1.length:Int)>0),()),())
abbrev Uv:Type:=ABw×Unit
abbrev YB:Type:=List Int→Int→Int→List Int→Int→List Int→Option Uv
def Zo(R5:YB)(t13:AAD)(t14 t15:Int)(AL:AAD)(AE:Int)(b1:AAD):Option Uv:=
 cond (decide (t15<t14))
  (if(0:Int)≤t15∧t15<(t13.length:Int)then(
  let x2:Int:=(t13.getD (t15.toNat) 0)
  if(0:Int)≤x2∧x2<(AL.length:Int)then(
  (Bk b1 (AL.getD (x2.toNat) 0)).bind fun u4=>
  cond (!u4.1.1)
   (if(0:Int)≤x2∧x2<(AL.length:Int)then(
   if b1.length+1≤C7 then(
   R5 t13 t14 (AS (t15+1)) AL AE (b1++[(AL.getD (x2.toNat) 0)]))else none)else none)
  (R5 t13 t14 (AS (t15+1)) AL AE b1))else none)else none)
 (some (((b1.length:Int),()),()))
def PA:Nat→YB
 |0=>fun _ _ _ _ _ _=>none
 |n+1=>Zo (PA n)
def ZW(R5:YB)(p0:ABD)(p1:AAD):Option Uv:=
 (D6 (p0.1,p0.2.1,()) p1).bind fun u1=>
 cond (!u1.1.1)
  (some (((-1),()),()))
 (R5 p1 (p1.length:Int) 0 p0.1 p0.2.1 [])
def ZV(p0:ABD)(p1:AAD):Option Uv:=ZW (PA AX) p0 p1
abbrev jH:Type:=ABV×Unit
def Gx(p0:ABD)(p1:AAD):Option jH:=
 (D6 (p0.1,p0.2.1,()) p1).bind fun u1=>
 cond (u1.1.1)
  ((ZV (p0.1,p0.2.1,()) p1).bind fun u2=>
  some (((decide (u2.1.1≥p0.2.1)),()),()))
 (some ((false,()),()))
abbrev J7:Type:=ABV×Unit
abbrev Mt:Type:=ABi→AAh→Int→Int→Option J7
def KH(R4:Mt)(t0:ABi)(t32:AAh)(t33 t34:Int):Option J7:=
 cond (decide (t34<t33))
  (if(0:Int)≤t34∧t34<(t32.length:Int)then(
  (FL ((t32.getD (t34.toNat) ([],[],0,())).1,(t32.getD (t34.toNat) ([],[],0,())).2.1,(t32.getD (t34.toNat) ([],[],0,())).2.2.1,())).bind fun u5=>
  cond (!u5.1.1)
   (some ((false,()),()))
  ((C4 t0 t34).bind fun u6=>
  cond (u6.1.1)
   (cond (decide ((AS ((AS ((((t32.getD (t34.toNat) ([],[],0,())).1).length:Int)+(((t32.getD (t34.toNat) ([],[],0,())).2.1).length:Int)))+((t32.getD (t34.toNat) ([],[],0,())).2.2.1)))>0))
    (some ((false,()),()))
   (R4 t0 t32 t33 (AS (t34+1))))
  (R4 t0 t32 t33 (AS (t34+1)))))else none)
 (cond (t0.2.2.2.2.2.2.2.2.2.2.1)
  (some ((true,()),()))
 ((Gx (t0.1,t0.2.1,()) t0.2.2.2.1).bind fun D_=>
 some ((!D_.1.1,()),())))
def FG:Nat→Mt
 |0=>fun _ _ _ _=>none
 |n+1=>KH (FG n)
def P3(R4:Mt)(p0:ABi):Option J7:=
 cond (((p0.2.2.1.length:Int) !=(p0.1.length:Int)))
  (some ((false,()),()))
 ((D6 (p0.1,p0.2.1,()) p0.2.2.2.1).bind fun u3=>
 cond (!u3.1.1)
  (some ((false,()),()))
 (R4 p0 p0.2.2.1 (p0.2.2.1.length:Int) 0))
def LW(p0:ABi):Option J7:=P3 (FG AX) p0
abbrev uA:Type:=ABV×Unit
def bp(p0:ABD)(p1:AFh):Option uA:=
 (Gx (p0.1,p0.2.1,()) p1.1).bind fun u1=>
 cond (u1.1.1)
  ((A3 p1.2.2.1 0 60).bind fun u2=>
  cond (u2.1.1)
   (cond (p1.2.1)
    (some ((true,()),()))
   (some ((p1.2.2.1==0,()),())))
  (some ((false,()),())))
 (some ((false,()),()))
abbrev S1:Type:=ABV×Unit
abbrev aG:Type:=AAg→Int→Int→List Int→Int→AAg→Int→Option S1
def Ua(R2:aG)(t9:AAg)(t10 t11:Int)(AL:AAD)(AE:Int)(BD:AAg)(Ap:Int):Option S1:=
 cond (decide (t11<t10))
  (if(0:Int)≤t11∧t11<(t9.length:Int)then(
  (bp (AL,AE,()) ((t9.getD (t11.toNat) ([],false,0,())).1,(t9.getD (t11.toNat) ([],false,0,())).2.1,(t9.getD (t11.toNat) ([],false,0,())).2.2.1,())).bind fun u1=>
  cond (!u1.1.1)
   (some ((false,()),()))
  (cond (((t9.getD (t11.toNat) ([],false,0,())).2.1))
   (cond (t11==(AS ((BD.length:Int)-1)))
    (some ((false,()),()))
   (cond (decide (t11>0))
    (if(0:Int)≤AS (t11-1)∧AS (t11-1)<(BD.length:Int)then(
    cond (!((BD.getD ((AS (t11-1)).toNat) ([],false,0,())).2.1))
     (some ((false,()),()))
    (R2 t9 t10 (AS (t11+1)) AL AE BD Ap))else none)
   (R2 t9 t10 (AS (t11+1)) AL AE BD Ap)))
  (R2 t9 t10 (AS (t11+1)) AL AE BD Ap)))else none)
 (cond (Ap==0)
  ((E8 (AL,AE,())).bind fun u5=>
  cond (u5.1.1)
   (cond ((decide ((BD.length:Int)≤30)))
    (some ((true,()),()))
   (some ((false,()),())))
  (some ((false,()),())))
 ((FI Ap).bind fun u7=>
 (A3 u7.1.1 1 (BD.length:Int)).bind fun u8=>
 (E8 (AL,AE,())).bind fun u9=>
 cond (u9.1.1)
  (cond ((decide ((BD.length:Int)≤30)))
   (some ((u8.1.1,()),()))
  (some ((false,()),())))
 (some ((false,()),()))))
def LA:Nat→aG
 |0=>fun _ _ _ _ _ _ _=>none
 |n+1=>Ua (LA n)
def bC(R2:aG)(p0:ABD)(p1:ACC):Option S1:=
 R2 p1.1 (p1.1.length:Int) 0 p0.1 p0.2.1 p1.1 p1.2.1
def LI(p0:ABD)(p1:ACC):Option S1:=bC (LA AX) p0 p1
abbrev pz:Type:=ABw×Unit
def cN(p0:Bool):Option pz:=
 cond (p0)
  (some ((1,()),()))
 (some ((0,()),()))
abbrev NR:Type:=ABV×Unit
abbrev UJ:Type:=Int→AB3→Int→Int→List Int→Int→Int→AB3→Option NR
def Wm(R3:UJ)(t5:Int)(t9:AB3)(t10 t11:Int)(AL:AAD)(AE BD:Int)(Ap:AB3):Option NR:=
 cond (decide (t11<t10))
  (if(0:Int)≤t11∧t11<(t9.length:Int)then(
  (GK ((t9.getD (t11.toNat) ([],[],false,())).1)).bind fun u3=>
  cond (!u3.1.1)
   (some ((false,()),()))
  ((D6 (AL,AE,()) ((t9.getD (t11.toNat) ([],[],false,())).2.1)).bind fun u4=>
  cond (!u4.1.1)
   (some ((false,()),()))
  ((Gx (AL,AE,()) ((t9.getD (t11.toNat) ([],[],false,())).2.1)).bind fun u6=>
  cond (((t9.getD (t11.toNat) ([],[],false,())).2.2.1) !=u6.1.1)
   (some ((false,()),()))
  ((cN (!((t9.getD (t11.toNat) ([],[],false,())).2.2.1))).bind fun u8=>
  R3 (AS (t5+u8.1.1)) t9 t10 (AS (t11+1)) AL AE BD Ap))))else none)
 ((E8 (AL,AE,())).bind fun u9=>
 cond (u9.1.1)
  ((Hl BD).bind fun Dd=>
  cond (Dd.1.1)
   (cond ((decide ((Ap.length:Int)≤60)))
    (some ((decide (t5≤6),()),()))
   (some ((false,()),())))
  (some ((false,()),())))
 (some ((false,()),())))
def ML:Nat→UJ
 |0=>fun _ _ _ _ _ _ _ _=>none
 |n+1=>Wm (ML n)
def Wv(R3:UJ)(p0:ABD)(p1:ACE):Option NR:=
 R3 0 p1.2.1 (p1.2.1.length:Int) 0 p0.1 p0.2.1 p1.1 p1.2.1
def GY(p0:ABD)(p1:ACE):Option NR:=Wv (ML AX) p0 p1
abbrev eO:Type:=ABV×Unit
def J5(p0:ABi)(p1:Int):Option eO:=
 (A3 p1 1 (p0.2.2.2.2.1.length:Int)).bind fun u2=>
 some ((u2.1.1,()),())
abbrev I5:Type:=ABV×Unit
abbrev MI:Type:=ABi→AAq→Int→Int→Option I5
def Ju(R2:MI)(t0:ABi)(t8:AAq)(t9 t10:Int):Option I5:=
 cond (decide (t10<t9))
  (if(0:Int)≤t10∧t10<(t8.length:Int)then(
  (GY (t0.1,t0.2.1,()) ((t8.getD (t10.toNat) (0,[],())).1,(t8.getD (t10.toNat) (0,[],())).2.1,())).bind fun u2=>
  cond (!u2.1.1)
   (some ((false,()),()))
  ((J5 t0 ((t8.getD (t10.toNat) (0,[],())).1)).bind fun u4=>
  cond (!u4.1.1)
   (some ((false,()),()))
  (cond (decide (t10>0))
   (if(0:Int)≤AS (t10-1)∧AS (t10-1)<(t0.2.2.2.2.2.2.1.length:Int)then(
   cond (decide (((t0.2.2.2.2.2.2.1.getD ((AS (t10-1)).toNat) (0,[],())).1)≥((t8.getD (t10.toNat) (0,[],())).1)))
    (some ((false,()),()))
   (R2 t0 t8 t9 (AS (t10+1))))else none)
  (R2 t0 t8 t9 (AS (t10+1))))))else none)
 (some ((decide ((t0.2.2.2.2.2.2.1.length:Int)≤4),()),()))
def Ee:Nat→MI
 |0=>fun _ _ _ _=>none
 |n+1=>Ju (Ee n)
def Om(R2:MI)(p0:ABi):Option I5:=
 R2 p0 p0.2.2.2.2.2.2.1 (p0.2.2.2.2.2.2.1.length:Int) 0
def Kw(p0:ABi):Option I5:=Om (Ee AX) p0
abbrev uX:Type:=ABw×Unit
def T9(p0:Int):Option uX:=
 (D8 p0).bind fun u1=>
 cond (!u1.1.1)
  (some ((0,()),()))
 (some ((p0.tmod 4294967296,()),()))
abbrev ov:Type:=ABw×Unit
def SY(p0:ABU):Option ov:=
 cond ((p0.2.2.2.1.length:Int)==0)
  (some ((0,()),()))
 (let x2:Int:=(p0.2.2.2.1.length:Int)
 if(0:Int)≤AS (x2-1)∧AS (x2-1)<(p0.2.2.2.1.length:Int)then(
 (T9 ((p0.2.2.2.1.getD ((AS (x2-1)).toNat) (0,0,false,[],())).1)).bind fun u4=>
 some ((u4.1.1,()),()))else none)
abbrev Ul:Type:=ABV×Unit
abbrev X2:Type:=AAs→Int→Int→Int→Int→List Int→AAs→Bool→List AAD→Option Ul
def Sc(R2:X2)(t6:AAs)(t7 t8 AL AE:Int)(AY:AAD)(DN:AAs)(EV:Bool)(Aa:List AAD):Option Ul:=
 cond (decide (t8<t7))
  (if(0:Int)≤t8∧t8<(t6.length:Int)then(
  (Mx ((t6.getD (t8.toNat) (0,0,false,[],())).1,(t6.getD (t8.toNat) (0,0,false,[],())).2.1,(t6.getD (t8.toNat) (0,0,false,[],())).2.2.1,(t6.getD (t8.toNat) (0,0,false,[],())).2.2.2.1,())).bind fun u2=>
  cond (!u2.1.1)
   (some ((false,()),()))
  ((FI ((t6.getD (t8.toNat) (0,0,false,[],())).1)).bind fun u4=>
  cond (u4.1.1 !=AE)
   (some ((false,()),()))
  (cond (decide (((t6.getD (t8.toNat) (0,0,false,[],())).2.1)≥AL))
   (some ((false,()),()))
  (R2 t6 t7 (AS (t8+1)) AL AE AY DN EV Aa))))else none)
 ((Kr DN).bind fun u6=>
 some ((u6.1.1,()),()))
def Ly:Nat→X2
 |0=>fun _ _ _ _ _ _ _ _ _=>none
 |n+1=>Sc (Ly n)
def Y_(R2:X2)(p0:ABU):Option Ul:=
 R2 p0.2.2.2.1 (p0.2.2.2.1.length:Int) 0 p0.1 p0.2.1 p0.2.2.1 p0.2.2.2.1 p0.2.2.2.2.1 p0.2.2.2.2.2.1
def Vc(p0:ABU):Option Ul:=Y_ (Ly AX) p0
abbrev Uw:Type:=ABV×Unit
abbrev YP:Type:=List AAD→Int→Int→List Int→Int→Int→Int→List Int→AAs→Bool→List AAD→Option Uw
def SZ(R2:YP)(t10:List AAD)(t11 t12:Int)(AL:AAD)(AE BD Ap:Int)(DJ:AAD)(G7:AAs)(NF:Bool)(DT:List AAD):Option Uw:=
 cond (decide (t12<t11))
  (if(0:Int)≤t12∧t12<(t10.length:Int)then(
  (D6 (AL,AE,()) (t10.getD (t12.toNat) [])).bind fun u2=>
  cond (!u2.1.1)
   (some ((false,()),()))
  (R2 t10 t11 (AS (t12+1)) AL AE BD Ap DJ G7 NF DT))else none)
 (cond (NF)
  ((SY (BD,Ap,DJ,G7,NF,DT,())).bind fun u3=>
  (Hl Ap).bind fun u4=>
  cond (u4.1.1)
   ((A3 BD (AS (Ap+1)) 30).bind fun u5=>
   (E8 (AL,AE,())).bind fun u6=>
   cond (u6.1.1)
    (cond (u5.1.1)
     ((D6 (AL,AE,()) DJ).bind fun u7=>
     cond (u7.1.1)
      ((Vc (BD,Ap,DJ,G7,NF,DT,())).bind fun u8=>
      cond (u8.1.1)
       (some ((((DT.length:Int)==u3.1.1),()),()))
      (some ((false,()),())))
     (some ((false,()),())))
    (some ((false,()),())))
   (some ((false,()),())))
  ((E8 (AL,AE,())).bind fun Dd=>
  cond (Dd.1.1)
   (some ((false,()),()))
  (some ((false,()),()))))
 ((Hl Ap).bind fun LR=>
 cond (LR.1.1)
  ((A3 BD (AS (Ap+1)) 30).bind fun D_=>
  (E8 (AL,AE,())).bind fun Mh=>
  cond (Mh.1.1)
   (cond (D_.1.1)
    ((D6 (AL,AE,()) DJ).bind fun F5=>
    cond (F5.1.1)
     ((Vc (BD,Ap,DJ,G7,NF,DT,())).bind fun uM=>
     cond (uM.1.1)
      (some ((((DT.length:Int)==0),()),()))
     (some ((false,()),())))
    (some ((false,()),())))
   (some ((false,()),())))
  (some ((false,()),())))
 ((E8 (AL,AE,())).bind fun PS=>
 cond (PS.1.1)
  (some ((false,()),()))
 (some ((false,()),())))))
def Lo:Nat→YP
 |0=>fun _ _ _ _ _ _ _ _ _ _ _=>none
 |n+1=>SZ (Lo n)
def Zt(R2:YP)(p0:ABD)(p1:ABU):Option Uw:=
 R2 p1.2.2.2.2.2.1 (p1.2.2.2.2.2.1.length:Int) 0 p0.1 p0.2.1 p1.1 p1.2.1 p1.2.2.1 p1.2.2.2.1 p1.2.2.2.2.1 p1.2.2.2.2.2.1
def Hr(p0:ABD)(p1:ABU):Option Uw:=Zt (Lo AX) p0 p1
abbrev Pl:Type:=ABw×Unit
abbrev SG:Type:=AAg→Int→Int→Option Pl
def Of(R2:SG)(t6:AAg)(t7 t8:Int):Option Pl:=
 cond (decide (t8<t7))
  (if(0:Int)≤t8∧t8<(t6.length:Int)then(
  cond (!((t6.getD (t8.toNat) ([],false,0,())).2.1))
   (some ((AS (t8+1),()),()))
  (R2 t6 t7 (AS (t8+1))))else none)
 (some ((0,()),()))
def IQ:Nat→SG
 |0=>fun _ _ _=>none
 |n+1=>Of (IQ n)
def VX(R2:SG)(p0:ACC):Option Pl:=
 R2 p0.1 (p0.1.length:Int) 0
def Lt(p0:ACC):Option Pl:=VX (IQ AX) p0
abbrev Ko:Type:=ABV×Unit
abbrev N7:Type:=ABi→AA2→Int→Int→Option Ko
def LO(R2:N7)(t0:ABi)(t8:AA2)(t9 t10:Int):Option Ko:=
 cond (decide (t10<t9))
  (if(0:Int)≤t10∧t10<(t8.length:Int)then(
  (Hr (t0.1,t0.2.1,()) ((t8.getD (t10.toNat) (0,0,[],[],false,[],())).1,(t8.getD (t10.toNat) (0,0,[],[],false,[],())).2.1,(t8.getD (t10.toNat) (0,0,[],[],false,[],())).2.2.1,(t8.getD (t10.toNat) (0,0,[],[],false,[],())).2.2.2.1,(t8.getD (t10.toNat) (0,0,[],[],false,[],())).2.2.2.2.1,(t8.getD (t10.toNat) (0,0,[],[],false,[],())).2.2.2.2.2.1,())).bind fun u2=>
  cond (!u2.1.1)
   (some ((false,()),()))
  (cond (((t8.getD (t10.toNat) (0,0,[],[],false,[],())).1) !=(t0.2.2.2.2.1.length:Int))
   (some ((false,()),()))
  ((Lt (t0.2.2.2.2.1,t0.2.2.2.2.2.1,())).bind fun u6=>
  cond (((t8.getD (t10.toNat) (0,0,[],[],false,[],())).2.1) !=u6.1.1)
   (some ((false,()),()))
  (R2 t0 t8 t9 (AS (t10+1))))))else none)
 (some ((decide ((t0.2.2.2.2.2.2.2.1.length:Int)≤1),()),()))
def Fe:Nat→N7
 |0=>fun _ _ _ _=>none
 |n+1=>LO (Fe n)
def Qc(R2:N7)(p0:ABi):Option Ko:=
 R2 p0 p0.2.2.2.2.2.2.2.1 (p0.2.2.2.2.2.2.2.1.length:Int) 0
def Ms(p0:ABi):Option Ko:=Qc (Fe AX) p0
abbrev nZ:Type:=ABV×Unit
def U6(p0:ACY):Option nZ:=
 (A3 p0.1 1 31).bind fun u1=>
 cond (u1.1.1)
  ((A3 p0.2.1 1 61).bind fun u2=>
  cond (u2.1.1)
   (some ((decide ((p0.2.2.1.length:Int)≤120),()),()))
  (some ((false,()),())))
 (some ((false,()),()))
abbrev Iz:Type:=ABV×Unit
abbrev Lu:Type:=ABi→AA3→Int→Int→Option Iz
def Jj(R2:Lu)(t0:ABi)(t8:AA3)(t9 t10:Int):Option Iz:=
 cond (decide (t10<t9))
  (if(0:Int)≤t10∧t10<(t8.length:Int)then(
  (U6 ((t8.getD (t10.toNat) (0,0,[],())).1,(t8.getD (t10.toNat) (0,0,[],())).2.1,(t8.getD (t10.toNat) (0,0,[],())).2.2.1,())).bind fun u2=>
  cond (!u2.1.1)
   (some ((false,()),()))
  (R2 t0 t8 t9 (AS (t10+1))))else none)
 (some (((t0.2.2.2.2.2.2.2.2.1.length:Int)==2,()),()))
def Ed:Nat→Lu
 |0=>fun _ _ _ _=>none
 |n+1=>Jj (Ed n)
def Oq(R2:Lu)(p0:ABi):Option Iz:=
 R2 p0 p0.2.2.2.2.2.2.2.2.1 (p0.2.2.2.2.2.2.2.2.1.length:Int) 0
def Kh(p0:ABi):Option Iz:=Oq (Ed AX) p0
abbrev Li:Type:=ABV×Unit
abbrev PH:Type:=ABi→AAo→Int→Int→Option Li
def MP(R2:PH)(t0:ABi)(t8:AAo)(t9 t10:Int):Option Li:=
 cond (decide (t10<t9))
  (if(0:Int)≤t10∧t10<(t8.length:Int)then(
  (FI ((t8.getD (t10.toNat) (0,[],false,())).1)).bind fun u3=>
  (J5 t0 u3.1.1).bind fun u4=>
  cond (!u4.1.1)
   (some ((false,()),()))
  ((GK ((t8.getD (t10.toNat) (0,[],false,())).2.1)).bind fun u6=>
  cond (!u6.1.1)
   (some ((false,()),()))
  (cond (decide (t10>0))
   (if(0:Int)≤AS (t10-1)∧AS (t10-1)<(t0.2.2.2.2.2.2.2.2.2.1.length:Int)then(
   cond (decide (((t0.2.2.2.2.2.2.2.2.2.1.getD ((AS (t10-1)).toNat) (0,[],false,())).1)≥((t8.getD (t10.toNat) (0,[],false,())).1)))
    (some ((false,()),()))
   (R2 t0 t8 t9 (AS (t10+1))))else none)
  (R2 t0 t8 t9 (AS (t10+1))))))else none)
 (some ((decide ((t0.2.2.2.2.2.2.2.2.2.1.length:Int)≤120),()),()))
def GL:Nat→PH
 |0=>fun _ _ _ _=>none
 |n+1=>MP (GL n)
def Rm(R2:PH)(p0:ABi):Option Li:=
 R2 p0 p0.2.2.2.2.2.2.2.2.2.1 (p0.2.2.2.2.2.2.2.2.2.1.length:Int) 0
def OG(p0:ABi):Option Li:=Rm (GL AX) p0
abbrev qc:Type:=ABV×Unit
def Su(p0:ABi):Option qc:=
 (E8 (p0.1,p0.2.1,())).bind fun u1=>
 cond (u1.1.1)
  ((LW (p0.1,p0.2.1,p0.2.2.1,p0.2.2.2.1,p0.2.2.2.2.1,p0.2.2.2.2.2.1,p0.2.2.2.2.2.2.1,p0.2.2.2.2.2.2.2.1,p0.2.2.2.2.2.2.2.2.1,p0.2.2.2.2.2.2.2.2.2.1,p0.2.2.2.2.2.2.2.2.2.2.1,())).bind fun u2=>
  cond (u2.1.1)
   ((LI (p0.1,p0.2.1,()) (p0.2.2.2.2.1,p0.2.2.2.2.2.1,())).bind fun u3=>
   cond (u3.1.1)
    ((Kw (p0.1,p0.2.1,p0.2.2.1,p0.2.2.2.1,p0.2.2.2.2.1,p0.2.2.2.2.2.1,p0.2.2.2.2.2.2.1,p0.2.2.2.2.2.2.2.1,p0.2.2.2.2.2.2.2.2.1,p0.2.2.2.2.2.2.2.2.2.1,p0.2.2.2.2.2.2.2.2.2.2.1,())).bind fun u4=>
    cond (u4.1.1)
     ((Ms (p0.1,p0.2.1,p0.2.2.1,p0.2.2.2.1,p0.2.2.2.2.1,p0.2.2.2.2.2.1,p0.2.2.2.2.2.2.1,p0.2.2.2.2.2.2.2.1,p0.2.2.2.2.2.2.2.2.1,p0.2.2.2.2.2.2.2.2.2.1,p0.2.2.2.2.2.2.2.2.2.2.1,())).bind fun u5=>
     cond (u5.1.1)
      ((Kh (p0.1,p0.2.1,p0.2.2.1,p0.2.2.2.1,p0.2.2.2.2.1,p0.2.2.2.2.2.1,p0.2.2.2.2.2.2.1,p0.2.2.2.2.2.2.2.1,p0.2.2.2.2.2.2.2.2.1,p0.2.2.2.2.2.2.2.2.2.1,p0.2.2.2.2.2.2.2.2.2.2.1,())).bind fun u6=>
      cond (u6.1.1)
       ((OG (p0.1,p0.2.1,p0.2.2.1,p0.2.2.2.1,p0.2.2.2.2.1,p0.2.2.2.2.2.1,p0.2.2.2.2.2.2.1,p0.2.2.2.2.2.2.2.1,p0.2.2.2.2.2.2.2.2.1,p0.2.2.2.2.2.2.2.2.2.1,p0.2.2.2.2.2.2.2.2.2.2.1,())).bind fun u7=>
       some ((u7.1.1,()),()))
      (some ((false,()),())))
     (some ((false,()),())))
    (some ((false,()),())))
   (some ((false,()),())))
  (some ((false,()),())))
 (some ((false,()),()))
abbrev wc:Type:=ABV×Unit
def CG(p0 p1 p2:Int):Option wc:=
 cond (decide (p0≥p1))
  (some ((decide (p0≤p2),()),()))
 (some ((false,()),()))
abbrev Qy:Type:=ABV×Unit
abbrev UO:Type:=Int→List Int→Int→Option Qy
def WM(R4:UO)(t3:Int)(AL:AAD)(AE:Int):Option Qy:=
 cond ((decide (t3<(AL.length:Int))))
  (if(0:Int)≤t3∧t3<(AL.length:Int)then(
  (CG (AL.getD (t3.toNat) 0) 0 7).bind fun u5=>
  cond (!u5.1.1)
   (some ((false,()),()))
  (R4 (AS (t3+1)) AL AE))else none)
 (some ((true,()),()))
def L0:Nat→UO
 |0=>fun _ _ _=>none
 |n+1=>WM (L0 n)
def WY(R4:UO)(p0:ABD):Option Qy:=
 (CG (p0.1.length:Int) 1 8).bind fun u1=>
 cond (!u1.1.1)
  (some ((false,()),()))
 ((CG p0.2.1 1 4).bind fun u2=>
 cond (!u2.1.1)
  (some ((false,()),()))
 (R4 0 p0.1 p0.2.1))
def Gd(p0:ABD):Option Qy:=WY (L0 AX) p0
abbrev kR:Type:=ABw×Unit
def jA(p0:AAD)(p1:Int):Option kR:=
 cond ((decide (p1<(p0.length:Int))))
  (if(0:Int)≤p1∧p1<(p0.length:Int)then(
  some ((AS ((p0.getD (p1.toNat) 0)),()),()))else none)
 (some (((AS ((AS (p1*7))+(p0.length:Int))).tmod 256,()),()))
abbrev pn:Type:=AFm×Unit
def cH(p0:Int):Option pn:=
 cond (p0==8)
  (some (([],()),()))
 (cond (p0==10)
  (some (([],()),()))
 (cond (p0==12)
  (some (([],()),()))
 (cond (p0==2)
  (some (([65,84],()),()))
 (cond (p0==3)
  (some (([65,66,67],()),()))
 (cond (p0==5)
  (some (([65,66],()),()))
 (cond (p0==14)
  (some (([65,66],()),()))
 (cond (p0==11)
  (some (([66,67],()),()))
 (cond (p0==13)
  (some (([80],()),()))
 (some (([65],()),()))))))))))
abbrev QQ:Type:=ABV×Unit
abbrev YM:Type:=Int→Int→Int→Int→Int→Int→List UInt8→Int→Int→Int→Int→List UInt8→List Int→Option QQ
def DQ(R4:YM)(t12 t13 AL AE AY DN:Int)(EV:AB_)(BD Ap DJ G7:Int)(NF:AB_)(b2:AAD):Option QQ:=
 cond (decide (t13<t12))
  (if(0:Int)≤t13∧t13<(b2.length:Int)then(
  let x3:Int:=(b2.getD (t13.toNat) 0)
  cond (x3==65)
   (R4 t12 (AS (t13+1)) AL AE AY DN EV BD 0 DJ G7 NF b2)
  (cond (x3==80)
   (R4 t12 (AS (t13+1)) AL AE AY DN EV BD 0 DJ G7 NF b2)
  (cond (x3==66)
   (R4 t12 (AS (t13+1)) AL AE AY DN EV BD Ap 0 G7 NF b2)
  (cond (x3==67)
   (R4 t12 (AS (t13+1)) AL AE AY DN EV BD Ap DJ 0 NF b2)
  (cond (x3==84)
   (R4 t12 (AS (t13+1)) AL AE AY DN EV BD Ap DJ G7 [] b2)
  (R4 t12 (AS (t13+1)) AL AE AY DN EV BD Ap DJ G7 NF b2))))))else none)
 ((A3 AL 1 16).bind fun u4=>
 cond (u4.1.1)
  (cond (((BD==0)&&((Ap==0)&&((DJ==0)&&((G7==0)&&((NF==[])&&true))))))
   ((GK EV).bind fun u6=>
   some ((u6.1.1,()),()))
  (some ((false,()),())))
 (some ((false,()),())))
def Ds:Nat→YM
 |0=>fun _ _ _ _ _ _ _ _ _ _ _ _ _=>none
 |n+1=>DQ (Ds n)
def ZY(R4:YM)(p0:ACS):Option QQ:=
 (cH p0.1).bind fun u1=>
 if u1.1.1.length≤C7 then(
 let x2:AAD:=(u1.1.1.map fun c=>(c.toNat:Int))
 R4 (x2.length:Int) 0 p0.1 p0.2.1 p0.2.2.1 p0.2.2.2.1 p0.2.2.2.2.1 0 p0.2.1 p0.2.2.1 p0.2.2.2.1 p0.2.2.2.2.1 x2)else none
def Yu(p0:ACS):Option QQ:=ZY (Ds AX) p0
abbrev Iq:Type:=ACc×ADw
abbrev PG:Type:=AAg→Int→Int→Int→AAg→Int→AAg→Option Iq
def Rl(R3:PG)(t10:AAg)(t11 t12 AE:Int)(b1:AAg)(LM:Int)(b3:AAg):Option Iq:=
 cond (decide (t12<t11))
  (if(0:Int)≤t12∧t12<(t10.length:Int)then(
  (DF ((t10.getD (t12.toNat) ([],false,0,())).1)).bind fun u1=>
  if b3.length+1≤C7 then(
  R3 t10 t11 (AS (t12+1)) AE b1 LM (b3++[(u1.2.1,(t10.getD (t12.toNat) ([],false,0,())).2.1,(t10.getD (t12.toNat) ([],false,0,())).2.2.1,())]))else none)else none)
 (some ((((),LM,()),()),(b3,())))
def IA:Nat→PG
 |0=>fun _ _ _ _ _ _ _=>none
 |n+1=>Rl (IA n)
def Rt(R3:PG)(p0:ACC):Option Iq:=
 R3 p0.1 (p0.1.length:Int) 0 0 [] p0.2.1 []
def EY(p0:ACC):Option Iq:=Rt (IA AX) p0
abbrev gg:Type:=ACP×AEa
def Ja(p0:AAs):Option gg:=
 if 0+p0.length≤C7 then(
 some (((),()),(p0,())))else none
abbrev kb:Type:=AES×ACr
def C9(p0:ACD):Option kb:=
 (Ja p0.1).bind fun u1=>
 (Ja p0.2.1).bind fun u2=>
 some ((((),(),p0.2.2.1,()),()),(u1.2.1,u2.2.1,()))
abbrev K9:Type:=AEd×AD1
abbrev RG:Type:=AB3→Int→Int→Int→AB3→Int→AB3→Option K9
def T0(R3:RG)(t10:AB3)(t11 t12 AL:Int)(b1:AB3)(I2:Int)(b3:AB3):Option K9:=
 cond (decide (t12<t11))
  (if(0:Int)≤t12∧t12<(t10.length:Int)then(
  (DF ((t10.getD (t12.toNat) ([],[],false,())).2.1)).bind fun u2=>
  if b3.length+1≤C7 then(
  R3 t10 t11 (AS (t12+1)) AL b1 I2 (b3++[((t10.getD (t12.toNat) ([],[],false,())).1,u2.2.1,(t10.getD (t12.toNat) ([],[],false,())).2.2.1,())]))else none)else none)
 (some (((I2,(),()),()),(b3,())))
def Jh:Nat→RG
 |0=>fun _ _ _ _ _ _ _=>none
 |n+1=>T0 (Jh n)
def Tn(R3:RG)(p0:ACE):Option K9:=
 R3 p0.2.1 (p0.2.1.length:Int) 0 0 [] p0.1 []
def Fz(p0:ACE):Option K9:=Tn (Jh AX) p0
abbrev Qs:Type:=AD4×ACu
abbrev UF:Type:=List AAD→Int→Int→Int→Int→Bool→List Int→AAs→List AAD→Int→Int→Bool→List Int→AAs→List AAD→Option Qs
def WX(R4:UF)(t17:List AAD)(t18 t19 AL AE:Int)(EV:Bool)(b1:AAD)(b2:AAs)(b3:List AAD)(kC fS:Int)(vG:Bool)(b5:AAD)(b6:AAs)(b7:List AAD):Option Qs:=
 cond (decide (t19<t18))
  (if(0:Int)≤t19∧t19<(t17.length:Int)then(
  (DF (t17.getD (t19.toNat) [])).bind fun u4=>
  if b7.length+1≤C7 then(
  R4 t17 t18 (AS (t19+1)) AL AE EV b1 b2 b3 kC fS vG b5 b6 (b7++[u4.2.1]))else none)else none)
 (some (((kC,fS,(),(),vG,(),()),()),(b5,b6,b7,())))
def MU:Nat→UF
 |0=>fun _ _ _ _ _ _ _ _ _ _ _ _ _ _ _=>none
 |n+1=>WX (MU n)
def Wb(R4:UF)(p0:ABU):Option Qs:=
 (DF p0.2.2.1).bind fun u1=>
 (Ja p0.2.2.2.1).bind fun u2=>
 R4 p0.2.2.2.2.2.1 (p0.2.2.2.2.2.1.length:Int) 0 0 0 false [] [] [] p0.1 p0.2.1 p0.2.2.2.2.1 u1.2.1 u2.2.1 []
def Gc(p0:ABU):Option Qs:=Wb (MU AX) p0
abbrev jC:Type:=AEg×AEx
def NT(p0:ACY):Option jC:=
 if 0+p0.2.2.1.length≤C7 then(
 some (((p0.1,p0.2.1,(),()),()),(p0.2.2.1,())))else none
abbrev EK:Type:=AE7×ACb
abbrev IZ:Type:=AAh→Int→Int→List Int→Int→AAh→List Int→AAg→Int→AAq→AA2→AA3→AAo→Bool→Int→Int→Bool→List Int→AAh→List Int→AAg→AAq→AA2→AA3→AAo→Int→Int→Bool→List Int→AAh→List Int→AAg→AAq→AA2→AA3→AAo→Option EK
abbrev IJ:Type:=AAq→Int→Int→List Int→Int→AAh→List Int→AAg→Int→AAq→AA2→AA3→AAo→Bool→Int→Int→Bool→List Int→AAh→List Int→AAg→AAq→AA2→AA3→AAo→Int→Int→Bool→List Int→AAh→List Int→AAg→AAq→AA2→AA3→AAo→Option EK
abbrev HU:Type:=AA2→Int→Int→List Int→Int→AAh→List Int→AAg→Int→AAq→AA2→AA3→AAo→Bool→Int→Int→Bool→List Int→AAh→List Int→AAg→AAq→AA2→AA3→AAo→Int→Int→Bool→List Int→AAh→List Int→AAg→AAq→AA2→AA3→AAo→Option EK
abbrev He:Type:=AA3→Int→Int→List Int→Int→AAh→List Int→AAg→Int→AAq→AA2→AA3→AAo→Bool→Int→Int→Bool→List Int→AAh→List Int→AAg→AAq→AA2→AA3→AAo→Int→Int→Bool→List Int→AAh→List Int→AAg→AAq→AA2→AA3→AAo→Option EK
def VT(R3:IZ)(R8:IJ)(R13:HU)(R18:He)(t25:AAh)(t26 t27:Int)(AL:AAD)(AE:Int)(AY:AAh)(DN:AAD)(EV:AAg)(Aa:Int)(EN:AAq)(EA:AA2)(GJ:AA3)(GW:AAo)(AM:Bool)(Ap DT:Int)(Dg:Bool)(b2:AAD)(b3:AAh)(b4:AAD)(b5:AAg)(b6:AAq)(b7:AA2)(b8:AA3)(b9:AAo)(Cb C1:Int)(Bu:Bool)(Ef:AAD)(DI:AAh)(FU:AAD)(FZ:AAg)(De:AAq)(D4:AA2)(Ea:AA3)(Od:AAo):Option EK:=
 cond (decide (t27<t26))
  (if(0:Int)≤t27∧t27<(t25.length:Int)then(
  (C9 ((t25.getD (t27.toNat) ([],[],0,())).1,(t25.getD (t27.toNat) ([],[],0,())).2.1,(t25.getD (t27.toNat) ([],[],0,())).2.2.1,())).bind fun uM=>
  if DI.length+1≤C7 then(
  R3 t25 t26 (AS (t27+1)) AL AE AY DN EV Aa EN EA GJ GW AM Ap DT Dg b2 b3 b4 b5 b6 b7 b8 b9 Cb C1 Bu Ef (DI++[(uM.2.1,uM.2.2.1,uM.1.1.2.2.1,())]) FU FZ De D4 Ea Od)else none)else none)
 (R8 EN (EN.length:Int) 0 AL AE AY DN EV Aa EN EA GJ GW AM Ap DT Dg b2 b3 b4 b5 b6 b7 b8 b9 Cb C1 Bu Ef DI FU FZ De D4 Ea Od)
def VG(R3:IZ)(R8:IJ)(R13:HU)(R18:He)(t40:AAq)(t41 t42:Int)(AL:AAD)(AE:Int)(AY:AAh)(DN:AAD)(EV:AAg)(Aa:Int)(EN:AAq)(EA:AA2)(GJ:AA3)(GW:AAo)(AM:Bool)(Ap DT:Int)(Dg:Bool)(b2:AAD)(b3:AAh)(b4:AAD)(b5:AAg)(b6:AAq)(b7:AA2)(b8:AA3)(b9:AAo)(Cb C1:Int)(Bu:Bool)(Ef:AAD)(DI:AAh)(FU:AAD)(FZ:AAg)(De:AAq)(D4:AA2)(Ea:AA3)(Od:AAo):Option EK:=
 cond (decide (t42<t41))
  (if(0:Int)≤t42∧t42<(t40.length:Int)then(
  (Fz ((t40.getD (t42.toNat) (0,[],())).1,(t40.getD (t42.toNat) (0,[],())).2.1,())).bind fun MY=>
  if De.length+1≤C7 then(
  R8 t40 t41 (AS (t42+1)) AL AE AY DN EV Aa EN EA GJ GW AM Ap DT Dg b2 b3 b4 b5 b6 b7 b8 b9 Cb C1 Bu Ef DI FU FZ (De++[(MY.1.1.1,MY.2.1,())]) D4 Ea Od)else none)else none)
 (R13 EA (EA.length:Int) 0 AL AE AY DN EV Aa EN EA GJ GW AM Ap DT Dg b2 b3 b4 b5 b6 b7 b8 b9 Cb C1 Bu Ef DI FU FZ De D4 Ea Od)
def To(R3:IZ)(R8:IJ)(R13:HU)(R18:He)(t55:AA2)(t56 t57:Int)(AL:AAD)(AE:Int)(AY:AAh)(DN:AAD)(EV:AAg)(Aa:Int)(EN:AAq)(EA:AA2)(GJ:AA3)(GW:AAo)(AM:Bool)(Ap DT:Int)(Dg:Bool)(b2:AAD)(b3:AAh)(b4:AAD)(b5:AAg)(b6:AAq)(b7:AA2)(b8:AA3)(b9:AAo)(Cb C1:Int)(Bu:Bool)(Ef:AAD)(DI:AAh)(FU:AAD)(FZ:AAg)(De:AAq)(D4:AA2)(Ea:AA3)(Od:AAo):Option EK:=
 cond (decide (t57<t56))
  (if(0:Int)≤t57∧t57<(t55.length:Int)then(
  (Gc ((t55.getD (t57.toNat) (0,0,[],[],false,[],())).1,(t55.getD (t57.toNat) (0,0,[],[],false,[],())).2.1,(t55.getD (t57.toNat) (0,0,[],[],false,[],())).2.2.1,(t55.getD (t57.toNat) (0,0,[],[],false,[],())).2.2.2.1,(t55.getD (t57.toNat) (0,0,[],[],false,[],())).2.2.2.2.1,(t55.getD (t57.toNat) (0,0,[],[],false,[],())).2.2.2.2.2.1,())).bind fun Yj=>
  if D4.length+1≤C7 then(
  R13 t55 t56 (AS (t57+1)) AL AE AY DN EV Aa EN EA GJ GW AM Ap DT Dg b2 b3 b4 b5 b6 b7 b8 b9 Cb C1 Bu Ef DI FU FZ De (D4++[(Yj.1.1.1,Yj.1.1.2.1,Yj.2.1,Yj.2.2.1,Yj.1.1.2.2.2.2.1,Yj.2.2.2.1,())]) Ea Od)else none)else none)
 (R18 GJ (GJ.length:Int) 0 AL AE AY DN EV Aa EN EA GJ GW AM Ap DT Dg b2 b3 b4 b5 b6 b7 b8 b9 Cb C1 Bu Ef DI FU FZ De D4 Ea Od)
def Tr(R3:IZ)(R8:IJ)(R13:HU)(R18:He)(t70:AA3)(t71 t72:Int)(AL:AAD)(AE:Int)(AY:AAh)(DN:AAD)(EV:AAg)(Aa:Int)(EN:AAq)(EA:AA2)(GJ:AA3)(GW:AAo)(AM:Bool)(Ap DT:Int)(Dg:Bool)(b2:AAD)(b3:AAh)(b4:AAD)(b5:AAg)(b6:AAq)(b7:AA2)(b8:AA3)(b9:AAo)(Cb C1:Int)(Bu:Bool)(Ef:AAD)(DI:AAh)(FU:AAD)(FZ:AAg)(De:AAq)(D4:AA2)(Ea:AA3)(Od:AAo):Option EK:=
 cond (decide (t72<t71))
  (if(0:Int)≤t72∧t72<(t70.length:Int)then(
  (NT ((t70.getD (t72.toNat) (0,0,[],())).1,(t70.getD (t72.toNat) (0,0,[],())).2.1,(t70.getD (t72.toNat) (0,0,[],())).2.2.1,())).bind fun nD=>
  if Ea.length+1≤C7 then(
  R18 t70 t71 (AS (t72+1)) AL AE AY DN EV Aa EN EA GJ GW AM Ap DT Dg b2 b3 b4 b5 b6 b7 b8 b9 Cb C1 Bu Ef DI FU FZ De D4 (Ea++[(nD.1.1.1,nD.1.1.2.1,nD.2.1,())]) Od)else none)else none)
 (if 0+GW.length≤C7 then(
 some ((((),Cb,(),(),(),C1,(),(),(),(),Bu,()),()),(Ef,DI,FU,FZ,De,D4,Ea,GW,())))else none)
mutual
def Fb:Nat→IZ
 |0=>fun _ _ _ _ _ _ _ _ _ _ _ _ _ _ _ _ _ _ _ _ _ _ _ _ _ _ _ _ _ _ _ _ _ _ _ _=>none
 |n+1=>VT (Fb n) (Fa n) (E6 n) (Es n)
def Fa:Nat→IJ
 |0=>fun _ _ _ _ _ _ _ _ _ _ _ _ _ _ _ _ _ _ _ _ _ _ _ _ _ _ _ _ _ _ _ _ _ _ _ _=>none
 |n+1=>VG (Fb n) (Fa n) (E6 n) (Es n)
def E6:Nat→HU
 |0=>fun _ _ _ _ _ _ _ _ _ _ _ _ _ _ _ _ _ _ _ _ _ _ _ _ _ _ _ _ _ _ _ _ _ _ _ _=>none
 |n+1=>To (Fb n) (Fa n) (E6 n) (Es n)
def Es:Nat→He
 |0=>fun _ _ _ _ _ _ _ _ _ _ _ _ _ _ _ _ _ _ _ _ _ _ _ _ _ _ _ _ _ _ _ _ _ _ _ _=>none
 |n+1=>Tr (Fb n) (Fa n) (E6 n) (Es n)
end
def VO(R3:IZ)(R8:IJ)(R13:HU)(R18:He)(p0:ABi):Option EK:=
 (Qt (p0.1,p0.2.1,())).bind fun u2=>
 (DF p0.2.2.2.1).bind fun u3=>
 (EY (p0.2.2.2.2.1,p0.2.2.2.2.2.1,())).bind fun u4=>
 R3 p0.2.2.1 (p0.2.2.1.length:Int) 0 p0.1 p0.2.1 p0.2.2.1 p0.2.2.2.1 p0.2.2.2.2.1 p0.2.2.2.2.2.1 p0.2.2.2.2.2.2.1 p0.2.2.2.2.2.2.2.1 p0.2.2.2.2.2.2.2.2.1 p0.2.2.2.2.2.2.2.2.2.1 p0.2.2.2.2.2.2.2.2.2.2.1 0 0 false [] [] [] [] [] [] [] [] u2.1.1.2.1 u4.1.1.2.1 p0.2.2.2.2.2.2.2.2.2.2.1 u2.2.1 [] u3.2.1 u4.2.1 [] [] [] []
def MC(p0:ABi):Option EK:=VO (Fb AX) (Fa AX) (E6 AX) (Es AX) p0
abbrev Lq:Type:=AEY×Unit
def Dm(p0 p1:Int):Option Lq:=
 (Hl p0).bind fun u1=>
 cond (!u1.1.1)
  (some (((0,false,()),()),()))
 ((Xt p1).bind fun u2=>
 cond (!u2.1.1)
  (some (((0,false,()),()),()))
 (some (((AS ((AS (4294967296*p0))+p1),true,()),()),())))
abbrev HQ:Type:=ACP×ACQ
abbrev Ta:Type:=Int→Int→List Int→Option HQ
def VY(R5:Ta)(t0 t10:Int)(b0:AAD):Option HQ:=
 cond (decide (t10<8))
  (if t10<0 then none else(
  cond (((dS .i64 (t0.fdiv (2^(min t10.toNat 64))) 1)==1))
   (if b0.length+1≤C7 then(
   R5 t0 (AS (t10+1)) (b0++[t10]))else none)
  (R5 t0 (AS (t10+1)) b0)))
 (some (((),()),(b0,())))
def Km:Nat→Ta
 |0=>fun _ _ _=>none
 |n+1=>VY (Km n)
def VB(R5:Ta)(p0:Int):Option HQ:=
 (A3 p0 0 255).bind fun u1=>
 cond (!u1.1.1)
  (some (((),()),([],())))
 (R5 p0 0 [])
def Hw(p0:Int):Option HQ:=VB (Km AX) p0
abbrev lH:Type:=ABw×Unit
def TV(p0:ACX)(p1:Int):Option lH:=
 cond (decide (p0.1<p1))
  (some (((-1),()),()))
 (cond (decide (p0.1>p1))
  (some ((1,()),()))
 (some ((0,()),())))
abbrev BS:Type:=AEY×Unit
abbrev B4:Type:=AAs→Int→Int→Int→Int→Option BS
def Cs(R3:B4)(t0:AAs)(t1 t8 t9 t10:Int):Option BS:=
 cond (decide (t9<t10))
  (let x2:Int:=AS ((IntKind.wrap .u64 (AS (t9+t10))).fdiv (2^1))
  if(0:Int)≤x2∧x2<(t0.length:Int)then(
  (TV ((t0.getD (x2.toNat) (0,0,false,[],())).1,(t0.getD (x2.toNat) (0,0,false,[],())).2.1,(t0.getD (x2.toNat) (0,0,false,[],())).2.2.1,(t0.getD (x2.toNat) (0,0,false,[],())).2.2.2.1,()) t1).bind fun u3=>
  cond (decide (u3.1.1<0))
   (R3 t0 t1 t8 (AS (x2+1)) t10)
  (R3 t0 t1 t8 t9 x2))else none)
 (cond (decide (t9<t8))
  (if(0:Int)≤t9∧t9<(t0.length:Int)then(
  (TV ((t0.getD (t9.toNat) (0,0,false,[],())).1,(t0.getD (t9.toNat) (0,0,false,[],())).2.1,(t0.getD (t9.toNat) (0,0,false,[],())).2.2.1,(t0.getD (t9.toNat) (0,0,false,[],())).2.2.2.1,()) t1).bind fun u4=>
  some (((t9,u4.1.1==0,()),()),()))else none)
 (some (((t9,false,()),()),())))
def Ay:Nat→B4
 |0=>fun _ _ _ _ _=>none
 |n+1=>Cs (Ay n)
def Cr(R3:B4)(p0:AAs)(p1:Int):Option BS:=
 R3 p0 p1 (p0.length:Int) 0 (p0.length:Int)
def B_(p0:AAs)(p1:Int):Option BS:=Cr (Ay AX) p0 p1
abbrev pS:Type:=AEY×Unit
def SJ(p0:AAs)(p1:Int):Option pS:=
 (B_ p0 p1).bind fun u1=>
 some (((u1.1.1.1,u1.1.1.2.1,()),()),())
abbrev NQ:Type:=AFB×Unit
def Ge(p0:ACD)(p1:Int):Option NQ:=
 (FL (p0.1,p0.2.1,p0.2.2.1,())).bind fun u1=>
 cond (!u1.1.1)
  (some ((((0,0,false,[],()),false,()),()),()))
 ((SJ p0.1 p1).bind fun u2=>
 cond (!u2.1.1.2.1)
  (some ((((0,0,false,[],()),false,()),()),()))
 (if(0:Int)≤u2.1.1.1∧u2.1.1.1<(p0.1.length:Int)then(
 some (((((p0.1.getD (u2.1.1.1.toNat) (0,0,false,[],())).1,(p0.1.getD (u2.1.1.1.toNat) (0,0,false,[],())).2.1,(p0.1.getD (u2.1.1.1.toNat) (0,0,false,[],())).2.2.1,(p0.1.getD (u2.1.1.1.toNat) (0,0,false,[],())).2.2.2.1,()),true,()),()),()))else none))
abbrev OZ:Type:=ABw×Unit
abbrev RE:Type:=AB3→Int→Int→Int→AB3→Option OZ
def Tz(R2:RE)(t6:AB3)(t7 t8 AL:Int)(AE:AB3):Option OZ:=
 cond (decide (t8<t7))
  (if(0:Int)≤t8∧t8<(t6.length:Int)then(
  cond (!((t6.getD (t8.toNat) ([],[],false,())).2.2.1))
   (some ((t8,()),()))
  (R2 t6 t7 (AS (t8+1)) AL AE))else none)
 (some (((AE.length:Int),()),()))
def Js:Nat→RE
 |0=>fun _ _ _ _ _=>none
 |n+1=>Tz (Js n)
def Tp(R2:RE)(p0:ACE):Option OZ:=
 R2 p0.2.1 (p0.2.1.length:Int) 0 p0.1 p0.2.1
def Qw(p0:ACE):Option OZ:=Tp (Js AX) p0
abbrev Nt:Type:=ABw×Unit
abbrev YX:Type:=Int→AAq→Int→Int→Option Nt
def ZC(R2:YX)(t1:Int)(t8:AAq)(t9 t10:Int):Option Nt:=
 cond (decide (t10<t9))
  (if(0:Int)≤t10∧t10<(t8.length:Int)then(
  cond (((t8.getD (t10.toNat) (0,[],())).1)==t1)
   ((Qw ((t8.getD (t10.toNat) (0,[],())).1,(t8.getD (t10.toNat) (0,[],())).2.1,())).bind fun u3=>
   some ((u3.1.1,()),()))
  (R2 t1 t8 t9 (AS (t10+1))))else none)
 (some ((0,()),()))
def PJ:Nat→YX
 |0=>fun _ _ _ _=>none
 |n+1=>ZC (PJ n)
def Zl(R2:YX)(p0:ABi)(p1:Int):Option Nt:=
 R2 p1 p0.2.2.2.2.2.2.1 (p0.2.2.2.2.2.2.1.length:Int) 0
def Rq(p0:ABi)(p1:Int):Option Nt:=Zl (PJ AX) p0 p1
abbrev SV:Type:=ACP×ACQ
abbrev Vx:Type:=ACR→Int→Int→List Int→Option SV
def YT(R3:Vx)(t7:ACR)(t8 t9:Int)(b0:AAD):Option SV:=
 cond (decide (t9<t8))
  (if(0:Int)≤t9∧t9<(t7.length:Int)then(
  if b0.length+1≤C7 then(
  R3 t7 t8 (AS (t9+1)) (b0++[((t7.getD (t9.toNat) (0,false,0,0,false,[],())).1)]))else none)else none)
 (some (((),()),(b0,())))
def NV:Nat→Vx
 |0=>fun _ _ _ _=>none
 |n+1=>YT (NV n)
def X8(R3:Vx)(p0:ACR):Option SV:=
 R3 p0 (p0.length:Int) 0 []
def Pp(p0:ACR):Option SV:=X8 (NV AX) p0
abbrev oh:Type:=ABV×Unit
def XX(p0:Int)(p1:ACY):Option oh:=
 (FI p0).bind fun u1=>
 cond ((decide (u1.1.1<p1.1)))
  (some ((true,()),()))
 (cond (u1.1.1==p1.1)
  ((T9 p0).bind fun u3=>
  some (((decide (u3.1.1<p1.2.1)),()),()))
 (some ((false,()),())))
abbrev iD:Type:=ACP×AJm
def FF(p1:AFd)(AL AE:Int)(b1:ACU):Option iD:=
 if b1.length+1≤C7 then(
 some (((()),()),((AL,AE,(),()),(),(b1++[(p1.1,p1.2.1,p1.2.2.1,())]),())))else none
abbrev Yx:Type:=ACP×ACQ
abbrev bV:Type:=List Int→List Int→Int→Int→List Int→Option Yx
def cg(R5:bV)(t2 t22:AAD)(t23 t24:Int)(b0:AAD):Option Yx:=
 cond (decide (t24<t23))
  (if(0:Int)≤t24∧t24<(t22.length:Int)then(
  let x3:Int:=(t22.getD (t24.toNat) 0)
  (Bk t2 x3).bind fun u4=>
  cond (!u4.1.1)
   (if b0.length+1≤C7 then(
   R5 t2 t22 t23 (AS (t24+1)) (b0++[x3]))else none)
  (R5 t2 t22 t23 (AS (t24+1)) b0))else none)
 (some (((),()),(b0,())))
def SF:Nat→bV
 |0=>fun _ _ _ _ _=>none
 |n+1=>cg (SF n)
def dG(R5:bV)(p0:ABD)(p1 p2:AAD):Option Yx:=
 (D6 (p0.1,p0.2.1,()) p1).bind fun u1=>
 cond (!u1.1.1)
  (some (((),()),([],())))
 ((D6 (p0.1,p0.2.1,()) p2).bind fun u2=>
 cond (!u2.1.1)
  (some (((),()),([],())))
 (R5 p2 p1 (p1.length:Int) 0 []))
def e_(p0:ABD)(p1 p2:AAD):Option Yx:=dG (SF AX) p0 p1 p2
abbrev rM:Type:=ABV×Unit
def HB(p0:ABD)(p1 p2:AAD):Option rM:=
 (D6 (p0.1,p0.2.1,()) p2).bind fun u1=>
 cond (!u1.1.1)
  (some ((false,()),()))
 ((Gx (p0.1,p0.2.1,()) p1).bind fun u2=>
 cond (!u2.1.1)
  (some ((false,()),()))
 ((Np p2 p1).bind fun u3=>
 cond (((u3.2.1.length:Int) !=(p2.length:Int)))
  (some ((false,()),()))
 ((e_ (p0.1,p0.2.1,()) p1 p2).bind fun u6=>
 (Gx (p0.1,p0.2.1,()) u6.2.1).bind fun u7=>
 some ((!u7.1.1,()),()))))
abbrev ri:Type:=AFi×Unit
def Rj(p0 p1:ACX):Option ri:=
 cond ((decide (p1.2.1>p0.2.1)))
  (some (((p1.1,p1.2.1,p1.2.2.1,p1.2.2.2.1,()),()),()))
 (some (((p0.1,p0.2.1,p0.2.2.1,p0.2.2.2.1,()),()),()))
abbrev U8:Type:=AFB×Unit
abbrev X6:Type:=List Int→Int→Bool→ACR→Int→Int→Int→Int→Bool→List UInt8→Int→Int→Bool→List UInt8→Option U8
def ZK(R3:X6)(t1:AAD)(t2:Int)(t9:Bool)(t13:ACR)(t14 t15 AL AE:Int)(AY:Bool)(DN:AB_)(BD Ap:Int)(DJ:Bool)(G7:AB_):Option U8:=
 cond (decide (t15<t14))
  (if(0:Int)≤t15∧t15<(t13.length:Int)then(
  cond (!((t13.getD (t15.toNat) (0,false,0,0,false,[],())).2.1))
   (R3 t1 t2 t9 t13 t14 (AS (t15+1)) AL AE AY DN BD Ap DJ G7)
  ((Bk t1 ((t13.getD (t15.toNat) (0,false,0,0,false,[],())).1)).bind fun u3=>
  cond (!u3.1.1)
   (R3 t1 t2 t9 t13 t14 (AS (t15+1)) AL AE AY DN BD Ap DJ G7)
  ((Mx ((t13.getD (t15.toNat) (0,false,0,0,false,[],())).2.2.1,(t13.getD (t15.toNat) (0,false,0,0,false,[],())).2.2.2.1,(t13.getD (t15.toNat) (0,false,0,0,false,[],())).2.2.2.2.1,(t13.getD (t15.toNat) (0,false,0,0,false,[],())).2.2.2.2.2.1,())).bind fun u4=>
  cond (!u4.1.1)
   (R3 t1 t2 t9 t13 t14 (AS (t15+1)) AL AE AY DN BD Ap DJ G7)
  (cond (((t13.getD (t15.toNat) (0,false,0,0,false,[],())).2.2.1) !=t2)
   (R3 t1 t2 t9 t13 t14 (AS (t15+1)) AL AE AY DN BD Ap DJ G7)
  (cond (!t9)
   ((Rj ((t13.getD (t15.toNat) (0,false,0,0,false,[],())).2.2.1,(t13.getD (t15.toNat) (0,false,0,0,false,[],())).2.2.2.1,(t13.getD (t15.toNat) (0,false,0,0,false,[],())).2.2.2.2.1,(t13.getD (t15.toNat) (0,false,0,0,false,[],())).2.2.2.2.2.1,()) ((t13.getD (t15.toNat) (0,false,0,0,false,[],())).2.2.1,(t13.getD (t15.toNat) (0,false,0,0,false,[],())).2.2.2.1,(t13.getD (t15.toNat) (0,false,0,0,false,[],())).2.2.2.2.1,(t13.getD (t15.toNat) (0,false,0,0,false,[],())).2.2.2.2.2.1,())).bind fun u6=>
   R3 t1 t2 true t13 t14 (AS (t15+1)) AL AE AY DN u6.1.1.1 u6.1.1.2.1 u6.1.1.2.2.1 u6.1.1.2.2.2.1)
  ((Rj (BD,Ap,DJ,G7,()) ((t13.getD (t15.toNat) (0,false,0,0,false,[],())).2.2.1,(t13.getD (t15.toNat) (0,false,0,0,false,[],())).2.2.2.1,(t13.getD (t15.toNat) (0,false,0,0,false,[],())).2.2.2.2.1,(t13.getD (t15.toNat) (0,false,0,0,false,[],())).2.2.2.2.2.1,())).bind fun u7=>
  R3 t1 t2 true t13 t14 (AS (t15+1)) AL AE AY DN u7.1.1.1 u7.1.1.2.1 u7.1.1.2.2.1 u7.1.1.2.2.2.1))))))else none)
 (some ((((BD,Ap,DJ,G7,()),t9,()),()),()))
def O1:Nat→X6
 |0=>fun _ _ _ _ _ _ _ _ _ _ _ _ _ _=>none
 |n+1=>ZK (O1 n)
def ZD(R3:X6)(p0:ACR)(p1:AAD)(p2:Int):Option U8:=
 R3 p1 p2 false p0 (p0.length:Int) 0 0 0 false [] 0 0 false []
def Yz(p0:ACR)(p1:AAD)(p2:Int):Option U8:=ZD (O1 AX) p0 p1 p2
abbrev fc:Type:=ACP×AJm
def C6(p1:ACR)(p2:AAD)(AL AE:Int)(b1:ACU):Option fc:=
 (Dm AL AE).bind fun u1=>
 (Yz p1 p2 u1.1.1.1).bind fun u2=>
 cond (!u2.1.1.2.1)
  ((FF (3,u1.1.1.1,[],()) AL AE b1).bind fun u3=>
  some (((()),()),((u3.2.1.1,AS (u3.2.1.2.1+1),(),()),(),u3.2.2.2.1,())))
 (cond (u2.1.1.1.2.2.1)
  ((FF (2,u1.1.1.1,[],()) AL AE b1).bind fun u4=>
  some (((()),()),((u4.2.1.1,AS (u4.2.1.2.1+1),(),()),(),u4.2.2.2.1,())))
 ((FF (1,u1.1.1.1,u2.1.1.1.2.2.2.1,()) AL AE b1).bind fun u5=>
 some (((()),()),((u5.2.1.1,AS (u5.2.1.2.1+1),(),()),(),u5.2.2.2.1,()))))
abbrev Kk:Type:=(AJ0×Unit)×AEx
def Ke(p0:ABD)(p1:ACC)(p2:Int)(p3:ACY)(p4:ACR):Option Kk:=
 (LI (p0.1,p0.2.1,()) (p1.1,p1.2.1,())).bind fun u1=>
 cond (!u1.1.1)
  (some ((((0,0,(),()),1,()),()),([],())))
 ((U6 (p3.1,p3.2.1,p3.2.2.1,())).bind fun u2=>
 cond (!u2.1.1)
  (some ((((0,0,(),()),1,()),()),([],())))
 ((Pp p4).bind fun u3=>
 (D6 (p0.1,p0.2.1,()) u3.2.1).bind fun u4=>
 cond (!u4.1.1)
  (some ((((0,0,(),()),1,()),()),([],())))
 ((NT (p3.1,p3.2.1,p3.2.2.1,())).bind fun u5=>
 cond ((decide (p3.1>(p1.1.length:Int))))
  (some ((((u5.1.1.1,u5.1.1.2.1,(),()),2,()),()),(u5.2.1,())))
 (cond ((p3.2.2.1.length:Int)==120)
  (some ((((u5.1.1.1,u5.1.1.2.1,(),()),2,()),()),(u5.2.1,())))
 (cond (decide (p1.2.1>0))
  ((XX p1.2.1 (p3.1,p3.2.1,p3.2.2.1,())).bind fun u8=>
  cond (!u8.1.1)
   ((FF (5,p1.2.1,[],()) u5.1.1.1 u5.1.1.2.1 u5.2.1).bind fun u9=>
   (FI p1.2.1).bind fun Dd=>
   (T9 p1.2.1).bind fun LR=>
   some ((((Dd.1.1,AS (LR.1.1+1),(),()),0,()),()),(u9.2.2.2.1,())))
  (if(0:Int)≤AS (p3.1-1)∧AS (p3.1-1)<(p1.1.length:Int)then(
  (Pp p4).bind fun D_=>
  (Np D_.2.1 ((p1.1.getD ((AS (p3.1-1)).toNat) ([],false,0,())).1)).bind fun Mh=>
  cond (((p1.1.getD ((AS (p3.1-1)).toNat) ([],false,0,())).2.1))
   (cond ((decide (p3.2.1>((p1.1.getD ((AS (p3.1-1)).toNat) ([],false,0,())).2.2.1))))
    ((FF (4,AS (p3.1+1),[],()) u5.1.1.1 u5.1.1.2.1 u5.2.1).bind fun PS=>
    some ((((AS (p3.1+1),1,(),()),0,()),()),(PS.2.2.2.1,())))
   (cond (!((p1.1.getD ((AS (p3.1-1)).toNat) ([],false,0,())).2.1))
    (cond (decide (p3.2.1>p2))
     (some ((((u5.1.1.1,u5.1.1.2.1,(),()),2,()),()),(u5.2.1,())))
    (cond (decide (p3.2.1>60))
     (some ((((u5.1.1.1,u5.1.1.2.1,(),()),2,()),()),(u5.2.1,())))
    ((HB (p0.1,p0.2.1,()) ((p1.1.getD ((AS (p3.1-1)).toNat) ([],false,0,())).1) Mh.2.1).bind fun fa=>
    cond (!fa.1.1)
     (some ((((u5.1.1.1,u5.1.1.2.1,(),()),3,()),()),(u5.2.1,())))
    ((C6 p4 Mh.2.1 u5.1.1.1 u5.1.1.2.1 u5.2.1).bind fun MY=>
    some ((((MY.2.1.1,MY.2.1.2.1,(),()),0,()),()),(MY.2.2.2.1,()))))))
   (cond (decide (p3.2.1>60))
    (some ((((u5.1.1.1,u5.1.1.2.1,(),()),2,()),()),(u5.2.1,())))
   ((HB (p0.1,p0.2.1,()) ((p1.1.getD ((AS (p3.1-1)).toNat) ([],false,0,())).1) Mh.2.1).bind fun mI=>
   cond (!mI.1.1)
    (some ((((u5.1.1.1,u5.1.1.2.1,(),()),3,()),()),(u5.2.1,())))
   ((C6 p4 Mh.2.1 u5.1.1.1 u5.1.1.2.1 u5.2.1).bind fun zp=>
   some ((((zp.2.1.1,zp.2.1.2.1,(),()),0,()),()),(zp.2.2.2.1,())))))))
  (cond (!((p1.1.getD ((AS (p3.1-1)).toNat) ([],false,0,())).2.1))
   (cond (decide (p3.2.1>p2))
    (some ((((u5.1.1.1,u5.1.1.2.1,(),()),2,()),()),(u5.2.1,())))
   (cond (decide (p3.2.1>60))
    (some ((((u5.1.1.1,u5.1.1.2.1,(),()),2,()),()),(u5.2.1,())))
   ((HB (p0.1,p0.2.1,()) ((p1.1.getD ((AS (p3.1-1)).toNat) ([],false,0,())).1) Mh.2.1).bind fun It=>
   cond (!It.1.1)
    (some ((((u5.1.1.1,u5.1.1.2.1,(),()),3,()),()),(u5.2.1,())))
   ((C6 p4 Mh.2.1 u5.1.1.1 u5.1.1.2.1 u5.2.1).bind fun Yj=>
   some ((((Yj.2.1.1,Yj.2.1.2.1,(),()),0,()),()),(Yj.2.2.2.1,()))))))
  (cond (decide (p3.2.1>60))
   (some ((((u5.1.1.1,u5.1.1.2.1,(),()),2,()),()),(u5.2.1,())))
  ((HB (p0.1,p0.2.1,()) ((p1.1.getD ((AS (p3.1-1)).toNat) ([],false,0,())).1) Mh.2.1).bind fun cw=>
  cond (!cw.1.1)
   (some ((((u5.1.1.1,u5.1.1.2.1,(),()),3,()),()),(u5.2.1,())))
  ((C6 p4 Mh.2.1 u5.1.1.1 u5.1.1.2.1 u5.2.1).bind fun bW=>
  some ((((bW.2.1.1,bW.2.1.2.1,(),()),0,()),()),(bW.2.2.2.1,())))))))else none))
 (if(0:Int)≤AS (p3.1-1)∧AS (p3.1-1)<(p1.1.length:Int)then(
 (Pp p4).bind fun PT=>
 (Np PT.2.1 ((p1.1.getD ((AS (p3.1-1)).toNat) ([],false,0,())).1)).bind fun ZZ=>
 cond (((p1.1.getD ((AS (p3.1-1)).toNat) ([],false,0,())).2.1))
  (cond ((decide (p3.2.1>((p1.1.getD ((AS (p3.1-1)).toNat) ([],false,0,())).2.2.1))))
   ((FF (4,AS (p3.1+1),[],()) u5.1.1.1 u5.1.1.2.1 u5.2.1).bind fun ak=>
   some ((((AS (p3.1+1),1,(),()),0,()),()),(ak.2.2.2.1,())))
  (cond (!((p1.1.getD ((AS (p3.1-1)).toNat) ([],false,0,())).2.1))
   (cond (decide (p3.2.1>p2))
    (some ((((u5.1.1.1,u5.1.1.2.1,(),()),2,()),()),(u5.2.1,())))
   (cond (decide (p3.2.1>60))
    (some ((((u5.1.1.1,u5.1.1.2.1,(),()),2,()),()),(u5.2.1,())))
   ((HB (p0.1,p0.2.1,()) ((p1.1.getD ((AS (p3.1-1)).toNat) ([],false,0,())).1) ZZ.2.1).bind fun u35=>
   cond (!u35.1.1)
    (some ((((u5.1.1.1,u5.1.1.2.1,(),()),3,()),()),(u5.2.1,())))
   ((C6 p4 ZZ.2.1 u5.1.1.1 u5.1.1.2.1 u5.2.1).bind fun u36=>
   some ((((u36.2.1.1,u36.2.1.2.1,(),()),0,()),()),(u36.2.2.2.1,()))))))
  (cond (decide (p3.2.1>60))
   (some ((((u5.1.1.1,u5.1.1.2.1,(),()),2,()),()),(u5.2.1,())))
  ((HB (p0.1,p0.2.1,()) ((p1.1.getD ((AS (p3.1-1)).toNat) ([],false,0,())).1) ZZ.2.1).bind fun mh=>
  cond (!mh.1.1)
   (some ((((u5.1.1.1,u5.1.1.2.1,(),()),3,()),()),(u5.2.1,())))
  ((C6 p4 ZZ.2.1 u5.1.1.1 u5.1.1.2.1 u5.2.1).bind fun u38=>
  some ((((u38.2.1.1,u38.2.1.2.1,(),()),0,()),()),(u38.2.2.2.1,())))))))
 (cond (!((p1.1.getD ((AS (p3.1-1)).toNat) ([],false,0,())).2.1))
  (cond (decide (p3.2.1>p2))
   (some ((((u5.1.1.1,u5.1.1.2.1,(),()),2,()),()),(u5.2.1,())))
  (cond (decide (p3.2.1>60))
   (some ((((u5.1.1.1,u5.1.1.2.1,(),()),2,()),()),(u5.2.1,())))
  ((HB (p0.1,p0.2.1,()) ((p1.1.getD ((AS (p3.1-1)).toNat) ([],false,0,())).1) ZZ.2.1).bind fun u40=>
  cond (!u40.1.1)
   (some ((((u5.1.1.1,u5.1.1.2.1,(),()),3,()),()),(u5.2.1,())))
  ((C6 p4 ZZ.2.1 u5.1.1.1 u5.1.1.2.1 u5.2.1).bind fun u41=>
  some ((((u41.2.1.1,u41.2.1.2.1,(),()),0,()),()),(u41.2.2.2.1,()))))))
 (cond (decide (p3.2.1>60))
  (some ((((u5.1.1.1,u5.1.1.2.1,(),()),2,()),()),(u5.2.1,())))
 ((HB (p0.1,p0.2.1,()) ((p1.1.getD ((AS (p3.1-1)).toNat) ([],false,0,())).1) ZZ.2.1).bind fun u42=>
 cond (!u42.1.1)
  (some ((((u5.1.1.1,u5.1.1.2.1,(),()),3,()),()),(u5.2.1,())))
 ((C6 p4 ZZ.2.1 u5.1.1.1 u5.1.1.2.1 u5.2.1).bind fun u43=>
 some ((((u43.2.1.1,u43.2.1.2.1,(),()),0,()),()),(u43.2.2.2.1,())))))))else none))))))
abbrev K8:Type:=ABw×ADp
abbrev RH:Type:=Int→Int→Int→Int→Int→Int→Bool→List Int→AAh→List Int→AAg→AAq→AA2→AA3→AAo→Int→Int→ACU→ACR→List Int→Option K8
def Nx(R7:RH)(t1 t8 t44 t45 AE Aa:Int)(AM:Bool)(b1:AAD)(b2:AAh)(b3:AAD)(b4:AAg)(b5:AAq)(b6:AA2)(b7:AA3)(b8:AAo)(fm Dw:Int)(cA:ACU)(NG:ACR)(Ef:AAD):Option K8:=
 cond (decide (t45<t44))
  (if(0:Int)≤t45∧t45<(Ef.length:Int)then(
  let x8:Int:=(Ef.getD (t45.toNat) 0)
  cond ((decide (x8<(b2.length:Int))))
   ((C4 (b1,AE,b2,b3,b4,Aa,b5,b6,b7,b8,AM,()) x8).bind fun Dd=>
   cond (!Dd.1.1)
    (if(0:Int)≤x8∧x8<(b2.length:Int)then(
    (Ge ((b2.getD (x8.toNat) ([],[],0,())).1,(b2.getD (x8.toNat) ([],[],0,())).2.1,(b2.getD (x8.toNat) ([],[],0,())).2.2.1,()) t8).bind fun LR=>
    if NG.length+1≤C7 then(
    R7 t1 t8 t44 (AS (t45+1)) AE Aa AM b1 b2 b3 b4 b5 b6 b7 b8 fm Dw cA (NG++[(x8,LR.1.1.2.1,LR.1.1.1.1,LR.1.1.1.2.1,LR.1.1.1.2.2.1,LR.1.1.1.2.2.2.1,())]) Ef)else none)else none)
   (R7 t1 t8 t44 (AS (t45+1)) AE Aa AM b1 b2 b3 b4 b5 b6 b7 b8 fm Dw cA NG Ef))
  (R7 t1 t8 t44 (AS (t45+1)) AE Aa AM b1 b2 b3 b4 b5 b6 b7 b8 fm Dw cA NG Ef))else none)
 ((Rq (b1,AE,b2,b3,b4,Aa,b5,b6,b7,b8,AM,()) fm).bind fun Mh=>
 (Ke (b1,AE,()) (b4,Aa,()) Mh.1.1 (fm,Dw,cA,()) NG).bind fun F5=>
 cond (F5.1.1.2.1 !=0)
  (some ((5,()),(((),AE,(),(),(),Aa,(),(),(),(),AM,()),b1,b2,b3,b4,b5,b6,b7,b8,())))
 (if(0:Int)≤t1∧t1<(b7.length:Int)then(
 some ((0,()),(((),AE,(),(),(),Aa,(),(),(),(),AM,()),b1,b2,b3,b4,b5,b6,(b7.set (t1.toNat) (F5.1.1.1.1,F5.1.1.1.2.1,F5.2.1,())),b8,())))else none))
def DD:Nat→RH
 |0=>fun _ _ _ _ _ _ _ _ _ _ _ _ _ _ _ _ _ _ _ _=>none
 |n+1=>Nx (DD n)
def N6(R7:RH)(p1 p2 AE Aa:Int)(AM:Bool)(b1:AAD)(b2:AAh)(b3:AAD)(b4:AAg)(b5:AAq)(b6:AA2)(b7:AA3)(b8:AAo):Option K8:=
 (A3 p1 0 (AS ((b7.length:Int)-1))).bind fun u2=>
 cond (!u2.1.1)
  (some ((2,()),(((),AE,(),(),(),Aa,(),(),(),(),AM,()),b1,b2,b3,b4,b5,b6,b7,b8,())))
 (if(0:Int)≤p1∧p1<(b7.length:Int)then(
 (Dm ((b7.getD (p1.toNat) (0,0,[],())).1) ((b7.getD (p1.toNat) (0,0,[],())).2.1)).bind fun u5=>
 (Hw p2).bind fun u6=>
 R7 p1 u5.1.1.1 (u6.2.1.length:Int) 0 AE Aa AM b1 b2 b3 b4 b5 b6 b7 b8 ((b7.getD (p1.toNat) (0,0,[],())).1) ((b7.getD (p1.toNat) (0,0,[],())).2.1) ((b7.getD (p1.toNat) (0,0,[],())).2.2.1) [] u6.2.1)else none)
def NM(p1 p2 AE Aa:Int)(AM:Bool)(b1:AAD)(b2:AAh)(b3:AAD)(b4:AAg)(b5:AAq)(b6:AA2)(b7:AA3)(b8:AAo):Option K8:=N6 (DD AX) p1 p2 AE Aa AM b1 b2 b3 b4 b5 b6 b7 b8
abbrev aK:Type:=ABw×Unit
def Mb(p0:AAD)(p1 p2:Int):Option aK:=
 let x1:Int:=AS ((p0.length:Int).tdiv 4)
 cond ((decide ((AS (p1+x1))>p2)))
  (some ((p2,()),()))
 (some ((AS (p1+x1),()),()))
abbrev XI:Type:=ABV×Unit
abbrev aQ:Type:=List Int→Int→Int→Int→Option XI
def UG(R2:aQ)(t0:AAD)(t1 t2 t7:Int):Option XI:=
 cond ((decide (t7<(t0.length:Int))))
  (if(0:Int)≤t7∧t7<(t0.length:Int)then(
  (CG (t0.getD (t7.toNat) 0) t1 t2).bind fun u3=>
  cond (!u3.1.1)
   (some ((false,()),()))
  (cond (decide (t7>0))
   (if(0:Int)≤AS (t7-1)∧AS (t7-1)<(t0.length:Int)then(
   if(0:Int)≤t7∧t7<(t0.length:Int)then(
   cond (decide ((t0.getD ((AS (t7-1)).toNat) 0)≥(t0.getD (t7.toNat) 0)))
    (some ((false,()),()))
   (R2 t0 t1 t2 (AS (t7+1))))else none)else none)
  (R2 t0 t1 t2 (AS (t7+1)))))else none)
 (some ((true,()),()))
def Nh:Nat→aQ
 |0=>fun _ _ _ _=>none
 |n+1=>UG (Nh n)
def ae(R2:aQ)(p0:AAD)(p1 p2:Int):Option XI:=
 R2 p0 p1 p2 0
def Ye(p0:AAD)(p1 p2:Int):Option XI:=ae (Nh AX) p0 p1 p2
abbrev pC:Type:=ABV×Unit
def Gi(p0:ABD)(p1:AAD):Option pC:=
 (Gd (p0.1,p0.2.1,())).bind fun u1=>
 cond (u1.1.1)
  ((Ye p1 0 (AS ((p0.1.length:Int)-1))).bind fun u3=>
  some ((u3.1.1,()),()))
 (some ((false,()),()))
abbrev Ur:Type:=ABw×Unit
abbrev Xr:Type:=List Int→Int→Int→List Int→Int→List Bool→Option Ur
def Ze(R4:Xr)(t1:AAD)(t6 t7:Int)(AL:AAD)(AE:Int)(b1:List Bool):Option Ur:=
 cond ((decide (t7<(t1.length:Int))))
  (if(0:Int)≤t7∧t7<(t1.length:Int)then(
  let x3:Int:=(t1.getD (t7.toNat) 0)
  if(0:Int)≤x3∧x3<(AL.length:Int)then(
  let x4:Int:=(AL.getD (x3.toNat) 0)
  if(0:Int)≤x4∧x4<(b1.length:Int)then(
  cond (!(b1.getD (x4.toNat) false))
   (if(0:Int)≤x4∧x4<(b1.length:Int)then(
   R4 t1 (AS (t6+1)) (AS (t7+1)) AL AE (b1.set (x4.toNat) true))else none)
  (R4 t1 t6 (AS (t7+1)) AL AE b1))else none)else none)else none)
 (some ((t6,()),()))
def PB:Nat→Xr
 |0=>fun _ _ _ _ _ _=>none
 |n+1=>Ze (PB n)
def ZB(R4:Xr)(p0:ABD)(p1:AAD):Option Ur:=
 R4 p1 0 0 p0.1 p0.2.1 (List.replicate 8 false)
def Vs(p0:ABD)(p1:AAD):Option Ur:=ZB (PB AX) p0 p1
abbrev j5:Type:=ABV×Unit
def EX(p0:ABD)(p1:AAD):Option j5:=
 (Gi (p0.1,p0.2.1,()) p1).bind fun u1=>
 cond (u1.1.1)
  ((Vs (p0.1,p0.2.1,()) p1).bind fun u2=>
  some (((decide (u2.1.1≥p0.2.1)),()),()))
 (some ((false,()),()))
abbrev kP:Type:=AEg×AEx
def YE:Option kP:=
 some (((1,1,(),()),()),([],()))
abbrev nX:Type:=((ACz×Bool×Unit)×Unit)×ACb
def E9(p0:ABD):Option nX:=
 (Gd (p0.1,p0.2.1,())).bind fun u1=>
 cond (!u1.1.1)
  (some (((((),0,(),(),(),0,(),(),(),(),false,()),false,()),()),([],[],[],[],[],[],[],[],())))
 (if 0+p0.1.length≤C7 then(
 if(0:Int)≤(p0.1.length:Int)∧(p0.1.length:Int)≤(p0.1.length:Int)∧(p0.1.length:Int)≤(C7:Int)then(
 (YE).bind fun u3=>
 (YE).bind fun u4=>
 some (((((),p0.2.1,(),(),(),0,(),(),(),(),false,()),true,()),()),(p0.1,(List.replicate ((p0.1.length:Int).toNat) ([],[],0,())),[],[],[],[],[(u3.1.1.1,u3.1.1.2.1,u3.2.1,()),(u4.1.1.1,u4.1.1.2.1,u4.2.1,())],[],())))else none)else none)
abbrev Px:Type:=ABw×Unit
def FQ(p0 p1:Int):Option Px:=
 cond (decide (p0>p1))
  (some ((p0,()),()))
 (some ((p1,()),()))
abbrev Gn:Type:=ABV×Unit
abbrev aB:Type:=List Int→Int→Int→Option Gn
def UR(R2:aB)(t0:AAD)(t1 t5:Int):Option Gn:=
 cond ((decide (t5<(t0.length:Int))))
  (if(0:Int)≤t5∧t5<(t0.length:Int)then(
  cond ((t0.getD (t5.toNat) 0)==t1)
   (some ((true,()),()))
  (R2 t0 t1 (AS (t5+1))))else none)
 (some ((false,()),()))
def LB:Nat→aB
 |0=>fun _ _ _=>none
 |n+1=>UR (LB n)
def Ub(R2:aB)(p0:AAD)(p1:Int):Option Gn:=
 R2 p0 p1 0
def Cw(p0:AAD)(p1:Int):Option Gn:=Ub (LB AX) p0 p1
abbrev W8:Type:=ACP×ACQ
abbrev Z0:Type:=List Int→Int→Bool→Int→List Int→Option W8
def Pt(R4:Z0)(t0:AAD)(t1:Int)(t6:Bool)(t7:Int)(b0:AAD):Option W8:=
 cond ((decide (t7<(t0.length:Int))))
  (cond (!t6)
   (if(0:Int)≤t7∧t7<(t0.length:Int)then(
   cond (decide ((t0.getD (t7.toNat) 0)>t1))
    (if b0.length+1≤C7 then(
    if(0:Int)≤t7∧t7<(t0.length:Int)then(
    if(b0++[t1]).length+1≤C7 then(
    R4 t0 t1 true (AS (t7+1)) ((b0++[t1])++[(t0.getD (t7.toNat) 0)]))else none)else none)else none)
   (if(0:Int)≤t7∧t7<(t0.length:Int)then(
   if b0.length+1≤C7 then(
   R4 t0 t1 t6 (AS (t7+1)) (b0++[(t0.getD (t7.toNat) 0)]))else none)else none))else none)
  (if(0:Int)≤t7∧t7<(t0.length:Int)then(
  if b0.length+1≤C7 then(
  R4 t0 t1 t6 (AS (t7+1)) (b0++[(t0.getD (t7.toNat) 0)]))else none)else none))
 (cond (!t6)
  (if b0.length+1≤C7 then(
  some (((),()),(b0++[t1],())))else none)
 (some (((),()),(b0,()))))
def Hp:Nat→Z0
 |0=>fun _ _ _ _ _=>none
 |n+1=>Pt (Hp n)
def Uk(R4:Z0)(p0:AAD)(p1:Int):Option W8:=
 (Cw p0 p1).bind fun u1=>
 R4 p0 p1 u1.1.1 0 []
def Ig(p0:AAD)(p1:Int):Option W8:=Uk (Hp AX) p0 p1
abbrev HX:Type:=ACP×AFg
abbrev QC:Type:=Int→Int→List Int→Int→Int→List Int→Int→List Int→Option HX
def S7(R4:QC)(t6 t7:Int)(AL:AAD)(AE AY:Int)(BD:AAD)(Ap:Int)(b2:AAD):Option HX:=
 cond (decide (t7<t6))
  ((FQ (BD.length:Int) 1).bind fun u3=>
  (AJ u3.1.1 AL AE AY).bind fun u4=>
  (Ig b2 u4.1.1).bind fun u5=>
  R4 t6 (AS (t7+1)) u4.2.1.1 u4.2.1.2.1 u4.2.1.2.2.1 BD Ap u5.2.1)
 ((A5 20 AL AE AY).bind fun u6=>
 cond (u6.1.1)
  ((CP [(-1),0,(BD.length:Int)] u6.2.1.1 u6.2.1.2.1 u6.2.1.2.2.1).bind fun u7=>
  if b2.length+1≤C7 then(
  some (((),()),((u7.2.1.1,u7.2.1.2.1,u7.2.1.2.2.1,()),b2++[u7.1.1],())))else none)
 (some (((),()),((u6.2.1.1,u6.2.1.2.1,u6.2.1.2.2.1,()),b2,()))))
def Io:Nat→QC
 |0=>fun _ _ _ _ _ _ _ _=>none
 |n+1=>S7 (Io n)
def Sx(R4:QC)(p1:ABD)(AL:AAD)(AE AY:Int):Option HX:=
 (AJ (AS ((p1.1.length:Int)+2)) AL AE AY).bind fun u2=>
 R4 u2.1.1 0 u2.2.1.1 u2.2.1.2.1 u2.2.1.2.2.1 p1.1 p1.2.1 []
def FK(p1:ABD)(AL:AAD)(AE AY:Int):Option HX:=Sx (Io AX) p1 AL AE AY
abbrev PV:Type:=ACP×AFg
abbrev TG:Type:=Int→List Int→Int→Int→List Int→Int→List Int→Option PV
def Vn(R3:TG)(t6:Int)(AL:AAD)(AE AY:Int)(BD:AAD)(Ap:Int)(b2:AAD):Option PV:=
 cond ((decide (t6<(BD.length:Int))))
  ((EX (BD,Ap,()) b2).bind fun u3=>
  cond (!u3.1.1)
   ((Ig b2 t6).bind fun u4=>
   R3 (AS (t6+1)) AL AE AY BD Ap u4.2.1)
  (some (((),()),((AL,AE,AY,()),b2,()))))
 (some (((),()),((AL,AE,AY,()),b2,())))
def Kf:Nat→TG
 |0=>fun _ _ _ _ _ _ _=>none
 |n+1=>Vn (Kf n)
def VP(R3:TG)(p1:ABD)(AL:AAD)(AE AY:Int):Option PV:=
 (FK (p1.1,p1.2.1,()) AL AE AY).bind fun u1=>
 R3 0 u1.2.1.1 u1.2.1.2.1 u1.2.1.2.2.1 p1.1 p1.2.1 u1.2.2.1
def Hv(p1:ABD)(AL:AAD)(AE AY:Int):Option PV:=VP (Kf AX) p1 AL AE AY
abbrev PZ:Type:=ABw×Unit
abbrev Sh:Type:=List Int→Int→Int→Option PZ
def VV(R5:Sh)(t0:AAD)(t3 t4:Int):Option PZ:=
 cond ((decide (t4<(t0.length:Int))))
  (if(0:Int)≤t4∧t4<(t0.length:Int)then(
  let x3:Int:=(t0.getD (t4.toNat) 0)
  if x3<0 then none else(
  R5 t0 (bOr .i64 t3 (AS (1*2^(min x3.toNat 64)))) (AS (t4+1))))else none)
 (some ((t3,()),()))
def K5:Nat→Sh
 |0=>fun _ _ _=>none
 |n+1=>VV (K5 n)
def Vt(R5:Sh)(p0:AAD):Option PZ:=
 (Ye p0 0 7).bind fun u1=>
 cond (!u1.1.1)
  (some (((-1),()),()))
 (R5 p0 0 0)
def L4(p0:AAD):Option PZ:=Vt (K5 AX) p0
abbrev PW:Type:=ABw×Unit
abbrev TZ:Type:=Int→AAg→Int→Option PW
def O6(R2:TZ)(t3:Int)(AL:AAg)(AE:Int):Option PW:=
 cond ((decide (t3<(AL.length:Int))))
  (if(0:Int)≤t3∧t3<(AL.length:Int)then(
  cond (!((AL.getD (t3.toNat) ([],false,0,())).2.1))
   (some ((AS (t3+1),()),()))
  (R2 (AS (t3+1)) AL AE))else none)
 (some ((0,()),()))
def II:Nat→TZ
 |0=>fun _ _ _=>none
 |n+1=>O6 (II n)
def Vf(R2:TZ)(p0:ACC):Option PW:=
 R2 0 p0.1 p0.2.1
def J4(p0:ACC):Option PW:=Vf (II AX) p0
abbrev G8:Type:=ACP×ACQ
def CZ(p0:ACC)(p1:Int):Option G8:=
 (CG p1 1 (p0.1.length:Int)).bind fun u1=>
 cond (!u1.1.1)
  (some (((),()),([],())))
 (if(0:Int)≤AS (p1-1)∧AS (p1-1)<(p0.1.length:Int)then(
 if 0+((p0.1.getD ((AS (p1-1)).toNat) ([],false,0,())).1).length≤C7 then(
 some (((),()),(((p0.1.getD ((AS (p1-1)).toNat) ([],false,0,())).1),())))else none)else none)
abbrev NC:Type:=AFj×ADZ
abbrev Ol:Type:=Int→Int→Int→List Int→Int→Int→List Int→Int→AAh→List Int→AAg→Int→AAq→AA2→AA3→AAo→Bool→Int→Int→Int→Int→List UInt8→Int→Int→List Int→AAs→Bool→List AAD→Option NC
def Rf(R16:Ol)(t7 t8 t9:Int)(AL:AAD)(AE AY:Int)(BD:AAD)(Ap:Int)(DJ:AAh)(G7:AAD)(NF:AAg)(DT:Int)(AOR:AAq)(ARe:AA2)(AOp:AA3)(AO_:AAo)(Dg:Bool)(I2 LM ANj AQO:Int)(QE:AB_)(gu eW:Int)(ANp:AAD)(APc:AAs)(AR4:Bool)(ABX:List AAD):Option NC:=
 cond ((decide (t9<(ABX.length:Int))))
  (if(0:Int)≤t9∧t9<(ABX.length:Int)then(
  (EX (BD,Ap,()) (ABX.getD (t9.toNat) [])).bind fun zp=>
  cond (!zp.1.1)
   ((A5 3 AL AE AY).bind fun Z3=>
   cond (!Z3.1.1)
    (R16 t7 (AS (t9+1)) (AS (t9+1)) Z3.2.1.1 Z3.2.1.2.1 Z3.2.1.2.2.1 BD Ap DJ G7 NF DT AOR ARe AOp AO_ Dg I2 LM ANj AQO QE gu eW ANp APc AR4 ABX)
   (R16 t7 t8 (AS (t9+1)) Z3.2.1.1 Z3.2.1.2.1 Z3.2.1.2.2.1 BD Ap DJ G7 NF DT AOR ARe AOp AO_ Dg I2 LM ANj AQO QE gu eW ANp APc AR4 ABX))
  (R16 t7 t8 (AS (t9+1)) AL AE AY BD Ap DJ G7 NF DT AOR ARe AOp AO_ Dg I2 LM ANj AQO QE gu eW ANp APc AR4 ABX))else none)
 (some (((11,0,t8,t7,[],()),()),((AL,AE,AY,()),())))
def GM:Nat→Ol
 |0=>fun _ _ _ _ _ _ _ _ _ _ _ _ _ _ _ _ _ _ _ _ _ _ _ _ _ _ _ _=>none
 |n+1=>Rf (GM n)
def Se(R16:Ol)(p1:ABi)(AL:AAD)(AE AY:Int):Option NC:=
 cond ((p1.2.2.2.2.2.2.2.1.length:Int)==0)
  (some (((8,0,0,0,[],()),()),((AL,AE,AY,()),())))
 (if(0:Int)≤(0:Int)∧(0:Int)<(p1.2.2.2.2.2.2.2.1.length:Int)then(
 (CZ (p1.2.2.2.2.1,p1.2.2.2.2.2.1,()) ((p1.2.2.2.2.2.2.2.1.getD 0 (0,0,[],[],false,[],())).2.1)).bind fun u3=>
 (AJ (u3.2.1.length:Int) AL AE AY).bind fun u5=>
 if(0:Int)≤u5.1.1∧u5.1.1<(u3.2.1.length:Int)then(
 let x6:Int:=(u3.2.1.getD (u5.1.1.toNat) 0)
 cond (!((p1.2.2.2.2.2.2.2.1.getD 0 (0,0,[],[],false,[],())).2.2.2.2.1))
  ((A5 4 u5.2.1.1 u5.2.1.2.1 u5.2.1.2.2.1).bind fun u8=>
  cond (u8.1.1)
   (some (((10,0,0,0,[],()),()),((u8.2.1.1,u8.2.1.2.1,u8.2.1.2.2.1,()),())))
  (cond (!((p1.2.2.2.2.2.2.2.1.getD 0 (0,0,[],[],false,[],())).2.2.2.2.1))
   (some (((9,x6,0,0,[],()),()),((u8.2.1.1,u8.2.1.2.1,u8.2.1.2.2.1,()),())))
  ((A5 6 u8.2.1.1 u8.2.1.2.1 u8.2.1.2.2.1).bind fun Dd=>
  cond (Dd.1.1)
   (some (((12,0,0,0,[],()),()),((Dd.2.1.1,Dd.2.1.2.1,Dd.2.1.2.2.1,()),())))
  ((A5 3 Dd.2.1.1 Dd.2.1.2.1 Dd.2.1.2.2.1).bind fun LR=>
  cond (LR.1.1)
   (some (((4,x6,0,0,[],()),()),((LR.2.1.1,LR.2.1.2.1,LR.2.1.2.2.1,()),())))
  ((FQ (((p1.2.2.2.2.2.2.2.1.getD 0 (0,0,[],[],false,[],())).2.2.2.2.2.1).length:Int) 1).bind fun Mh=>
  (AJ Mh.1.1 LR.2.1.1 LR.2.1.2.1 LR.2.1.2.2.1).bind fun F5=>
  R16 x6 (AS (1+F5.1.1)) 0 F5.2.1.1 F5.2.1.2.1 F5.2.1.2.2.1 p1.1 p1.2.1 p1.2.2.1 p1.2.2.2.1 p1.2.2.2.2.1 p1.2.2.2.2.2.1 p1.2.2.2.2.2.2.1 p1.2.2.2.2.2.2.2.1 p1.2.2.2.2.2.2.2.2.1 p1.2.2.2.2.2.2.2.2.2.1 p1.2.2.2.2.2.2.2.2.2.2.1 0 0 0 0 [] ((p1.2.2.2.2.2.2.2.1.getD 0 (0,0,[],[],false,[],())).1) ((p1.2.2.2.2.2.2.2.1.getD 0 (0,0,[],[],false,[],())).2.1) ((p1.2.2.2.2.2.2.2.1.getD 0 (0,0,[],[],false,[],())).2.2.1) ((p1.2.2.2.2.2.2.2.1.getD 0 (0,0,[],[],false,[],())).2.2.2.1) ((p1.2.2.2.2.2.2.2.1.getD 0 (0,0,[],[],false,[],())).2.2.2.2.1) ((p1.2.2.2.2.2.2.2.1.getD 0 (0,0,[],[],false,[],())).2.2.2.2.2.1))))))
 (cond (!((p1.2.2.2.2.2.2.2.1.getD 0 (0,0,[],[],false,[],())).2.2.2.2.1))
  (some (((9,x6,0,0,[],()),()),((u5.2.1.1,u5.2.1.2.1,u5.2.1.2.2.1,()),())))
 ((A5 6 u5.2.1.1 u5.2.1.2.1 u5.2.1.2.2.1).bind fun u16=>
 cond (u16.1.1)
  (some (((12,0,0,0,[],()),()),((u16.2.1.1,u16.2.1.2.1,u16.2.1.2.2.1,()),())))
 ((A5 3 u16.2.1.1 u16.2.1.2.1 u16.2.1.2.2.1).bind fun PS=>
 cond (PS.1.1)
  (some (((4,x6,0,0,[],()),()),((PS.2.1.1,PS.2.1.2.1,PS.2.1.2.2.1,()),())))
 ((FQ (((p1.2.2.2.2.2.2.2.1.getD 0 (0,0,[],[],false,[],())).2.2.2.2.2.1).length:Int) 1).bind fun fa=>
 (AJ fa.1.1 PS.2.1.1 PS.2.1.2.1 PS.2.1.2.2.1).bind fun MY=>
 R16 x6 (AS (1+MY.1.1)) 0 MY.2.1.1 MY.2.1.2.1 MY.2.1.2.2.1 p1.1 p1.2.1 p1.2.2.1 p1.2.2.2.1 p1.2.2.2.2.1 p1.2.2.2.2.2.1 p1.2.2.2.2.2.2.1 p1.2.2.2.2.2.2.2.1 p1.2.2.2.2.2.2.2.2.1 p1.2.2.2.2.2.2.2.2.2.1 p1.2.2.2.2.2.2.2.2.2.2.1 0 0 0 0 [] ((p1.2.2.2.2.2.2.2.1.getD 0 (0,0,[],[],false,[],())).1) ((p1.2.2.2.2.2.2.2.1.getD 0 (0,0,[],[],false,[],())).2.1) ((p1.2.2.2.2.2.2.2.1.getD 0 (0,0,[],[],false,[],())).2.2.1) ((p1.2.2.2.2.2.2.2.1.getD 0 (0,0,[],[],false,[],())).2.2.2.1) ((p1.2.2.2.2.2.2.2.1.getD 0 (0,0,[],[],false,[],())).2.2.2.2.1) ((p1.2.2.2.2.2.2.2.1.getD 0 (0,0,[],[],false,[],())).2.2.2.2.2.1))))))else none)else none)
def L1(p1:ABi)(AL:AAD)(AE AY:Int):Option NC:=Se (GM AX) p1 AL AE AY
abbrev rD:Type:=AFm×ADZ
def HA(p1:List AB_)(AL:AAD)(AE AY:Int):Option rD:=
 (AJ (p1.length:Int) AL AE AY).bind fun u1=>
 if(0:Int)≤u1.1.1∧u1.1.1<(p1.length:Int)then(
 some (((p1.getD (u1.1.1.toNat) []),()),((u1.2.1.1,u1.2.1.2.1,u1.2.1.2.2.1,()),())))else none
abbrev ui:Type:=ABw×Unit
def UC(p0 p1:Int):Option ui:=
 cond (decide (p0<p1))
  (some ((p0,()),()))
 (some ((p1,()),()))
abbrev fV:Type:=AFj×ADZ
def Gp(p1:ABi)(AL:AAD)(AE AY:Int):Option fV:=
 (AJ (p1.2.2.2.2.2.2.1.length:Int) AL AE AY).bind fun u2=>
 (A5 3 u2.2.1.1 u2.2.1.2.1 u2.2.1.2.2.1).bind fun u3=>
 cond (!u3.1.1)
  (let x4:Int:=(p1.2.2.2.2.2.2.1.length:Int)
  if(0:Int)≤AS (x4-1)∧AS (x4-1)<(p1.2.2.2.2.2.2.1.length:Int)then(
  (CZ (p1.2.2.2.2.1,p1.2.2.2.2.2.1,()) ((p1.2.2.2.2.2.2.1.getD ((AS (x4-1)).toNat) (0,[],())).1)).bind fun u6=>
  (AJ (u6.2.1.length:Int) u3.2.1.1 u3.2.1.2.1 u3.2.1.2.2.1).bind fun u8=>
  if(0:Int)≤u8.1.1∧u8.1.1<(u6.2.1.length:Int)then(
  let x9:Int:=(u6.2.1.getD (u8.1.1.toNat) 0)
  let ZQ:Int:=(((p1.2.2.2.2.2.2.1.getD ((AS (x4-1)).toNat) (0,[],())).2.1).length:Int)
  cond (ZQ==0)
   ((HA [[],[97],[98,99],[100]] u8.2.1.1 u8.2.1.2.1 u8.2.1.2.2.1).bind fun LR=>
   some (((2,AS (x4-1),0,0,LR.1.1,()),()),((LR.2.1.1,LR.2.1.2.1,LR.2.1.2.2.1,()),())))
  ((A5 7 u8.2.1.1 u8.2.1.2.1 u8.2.1.2.2.1).bind fun D_=>
  cond (D_.1.1)
   ((HA [[],[97],[98,99],[100]] D_.2.1.1 D_.2.1.2.1 D_.2.1.2.2.1).bind fun Mh=>
   some (((2,AS (x4-1),0,0,Mh.1.1,()),()),((Mh.2.1.1,Mh.2.1.2.1,Mh.2.1.2.2.1,()),())))
  ((A5 3 D_.2.1.1 D_.2.1.2.1 D_.2.1.2.2.1).bind fun F5=>
  cond (F5.1.1)
   (some (((4,x9,0,0,[],()),()),((F5.2.1.1,F5.2.1.2.1,F5.2.1.2.2.1,()),())))
  ((UC ZQ 3).bind fun uM=>
  (AJ uM.1.1 F5.2.1.1 F5.2.1.2.1 F5.2.1.2.2.1).bind fun u16=>
  some (((3,AS (x4-1),AS (ZQ-u16.1.1),x9,[],()),()),((u16.2.1.1,u16.2.1.2.1,u16.2.1.2.2.1,()),()))))))else none)else none)
 (if(0:Int)≤u2.1.1∧u2.1.1<(p1.2.2.2.2.2.2.1.length:Int)then(
 (CZ (p1.2.2.2.2.1,p1.2.2.2.2.2.1,()) ((p1.2.2.2.2.2.2.1.getD (u2.1.1.toNat) (0,[],())).1)).bind fun WL=>
 (AJ (WL.2.1.length:Int) u3.2.1.1 u3.2.1.2.1 u3.2.1.2.2.1).bind fun MY=>
 if(0:Int)≤MY.1.1∧MY.1.1<(WL.2.1.length:Int)then(
 let x21:Int:=(WL.2.1.getD (MY.1.1.toNat) 0)
 let x22:Int:=(((p1.2.2.2.2.2.2.1.getD (u2.1.1.toNat) (0,[],())).2.1).length:Int)
 cond (x22==0)
  ((HA [[],[97],[98,99],[100]] MY.2.1.1 MY.2.1.2.1 MY.2.1.2.2.1).bind fun Z3=>
  some (((2,u2.1.1,0,0,Z3.1.1,()),()),((Z3.2.1.1,Z3.2.1.2.1,Z3.2.1.2.2.1,()),())))
 ((A5 7 MY.2.1.1 MY.2.1.2.1 MY.2.1.2.2.1).bind fun It=>
 cond (It.1.1)
  ((HA [[],[97],[98,99],[100]] It.2.1.1 It.2.1.2.1 It.2.1.2.2.1).bind fun Yj=>
  some (((2,u2.1.1,0,0,Yj.1.1,()),()),((Yj.2.1.1,Yj.2.1.2.1,Yj.2.1.2.2.1,()),())))
 ((A5 3 It.2.1.1 It.2.1.2.1 It.2.1.2.2.1).bind fun cw=>
 cond (cw.1.1)
  (some (((4,x21,0,0,[],()),()),((cw.2.1.1,cw.2.1.2.1,cw.2.1.2.2.1,()),())))
 ((UC x22 3).bind fun bW=>
 (AJ bW.1.1 cw.2.1.1 cw.2.1.2.1 cw.2.1.2.2.1).bind fun PT=>
 some (((3,u2.1.1,AS (x22-PT.1.1),x21,[],()),()),((PT.2.1.1,PT.2.1.2.1,PT.2.1.2.2.1,()),()))))))else none)else none)
abbrev iX:Type:=AFj×ADZ
def Ls(p1:ABi)(AL:AAD)(AE AY:Int):Option iX:=
 cond ((p1.2.2.2.2.2.2.1.length:Int)==0)
  ((Hv (p1.1,p1.2.1,()) AL AE AY).bind fun u3=>
  (L4 u3.2.2.1).bind fun u4=>
  some (((1,u4.1.1,0,0,[],()),()),((u3.2.1.1,u3.2.1.2.1,u3.2.1.2.2.1,()),())))
 ((A5 30 AL AE AY).bind fun u5=>
 cond (u5.1.1)
  ((Hv (p1.1,p1.2.1,()) u5.2.1.1 u5.2.1.2.1 u5.2.1.2.2.1).bind fun u6=>
  (L4 u6.2.2.1).bind fun u7=>
  some (((1,u7.1.1,0,0,[],()),()),((u6.2.1.1,u6.2.1.2.1,u6.2.1.2.2.1,()),())))
 ((AJ (p1.2.2.1.length:Int) u5.2.1.1 u5.2.1.2.1 u5.2.1.2.2.1).bind fun u8=>
 (AJ 44 u8.2.1.1 u8.2.1.2.1 u8.2.1.2.2.1).bind fun u9=>
 cond (u9.1.1==0)
  ((AJ 16 u9.2.1.1 u9.2.1.2.1 u9.2.1.2.2.1).bind fun Dd=>
  some (((5,u8.1.1,Dd.1.1,0,[],()),()),((Dd.2.1.1,Dd.2.1.2.1,Dd.2.1.2.2.1,()),())))
 (cond (u9.1.1==1)
  (cond ((p1.2.2.2.1.length:Int)==0)
   (some (((6,u8.1.1,0,0,[],()),()),((u9.2.1.1,u9.2.1.2.1,u9.2.1.2.2.1,()),())))
  ((A5 12 u9.2.1.1 u9.2.1.2.1 u9.2.1.2.2.1).bind fun D_=>
  cond (D_.1.1)
   (some (((6,u8.1.1,0,0,[],()),()),((D_.2.1.1,D_.2.1.2.1,D_.2.1.2.2.1,()),())))
  (if(0:Int)≤(0:Int)∧(0:Int)<(p1.2.2.2.1.length:Int)then(
  some (((7,(p1.2.2.2.1.getD 0 0),0,0,[],()),()),((D_.2.1.1,D_.2.1.2.1,D_.2.1.2.2.1,()),())))else none)))
 (cond (u9.1.1==2)
  ((AJ (p1.2.2.2.2.2.2.1.length:Int) u9.2.1.1 u9.2.1.2.1 u9.2.1.2.2.1).bind fun uM=>
  some (((15,uM.1.1,0,0,[],()),()),((uM.2.1.1,uM.2.1.2.1,uM.2.1.2.2.1,()),())))
 (cond (u9.1.1==3)
  ((A5 3 u9.2.1.1 u9.2.1.2.1 u9.2.1.2.2.1).bind fun u16=>
  cond (u16.1.1)
   (cond (decide ((p1.2.2.2.2.2.2.2.2.2.1.length:Int)>0))
    ((AJ (p1.2.2.2.2.2.2.2.2.2.1.length:Int) u16.2.1.1 u16.2.1.2.1 u16.2.1.2.2.1).bind fun fa=>
    if(0:Int)≤fa.1.1∧fa.1.1<(p1.2.2.2.2.2.2.2.2.2.1.length:Int)then(
    some (((13,((p1.2.2.2.2.2.2.2.2.2.1.getD (fa.1.1.toNat) (0,[],false,())).1),0,0,[],()),()),((fa.2.1.1,fa.2.1.2.1,fa.2.1.2.2.1,()),())))else none)
   (some (((16,u8.1.1,0,0,[],()),()),((u16.2.1.1,u16.2.1.2.1,u16.2.1.2.2.1,()),()))))
  (some (((16,u8.1.1,0,0,[],()),()),((u16.2.1.1,u16.2.1.2.1,u16.2.1.2.2.1,()),()))))
 (cond (u9.1.1==4)
  ((A5 2 u9.2.1.1 u9.2.1.2.1 u9.2.1.2.2.1).bind fun mI=>
  cond (mI.1.1)
   ((AJ 256 mI.2.1.1 mI.2.1.2.1 mI.2.1.2.2.1).bind fun zp=>
   (AJ 2 zp.2.1.1 zp.2.1.2.1 zp.2.1.2.2.1).bind fun Z3=>
   some (((14,Z3.1.1,zp.1.1,0,[],()),()),((Z3.2.1.1,Z3.2.1.2.1,Z3.2.1.2.2.1,()),())))
  ((AJ 2 mI.2.1.1 mI.2.1.2.1 mI.2.1.2.2.1).bind fun It=>
  some (((14,It.1.1,255,0,[],()),()),((It.2.1.1,It.2.1.2.1,It.2.1.2.2.1,()),()))))
 (cond (u9.1.1==5)
  ((A5 2 u9.2.1.1 u9.2.1.2.1 u9.2.1.2.2.1).bind fun Yj=>
  cond (Yj.1.1)
   ((AJ 256 Yj.2.1.1 Yj.2.1.2.1 Yj.2.1.2.2.1).bind fun cw=>
   (AJ 2 cw.2.1.1 cw.2.1.2.1 cw.2.1.2.2.1).bind fun bW=>
   some (((14,bW.1.1,cw.1.1,0,[],()),()),((bW.2.1.1,bW.2.1.2.1,bW.2.1.2.2.1,()),())))
  ((AJ 2 Yj.2.1.1 Yj.2.1.2.1 Yj.2.1.2.2.1).bind fun PT=>
  some (((14,PT.1.1,255,0,[],()),()),((PT.2.1.1,PT.2.1.2.1,PT.2.1.2.2.1,()),()))))
 (cond (u9.1.1==6)
  ((A5 2 u9.2.1.1 u9.2.1.2.1 u9.2.1.2.2.1).bind fun ZZ=>
  cond (ZZ.1.1)
   ((AJ 256 ZZ.2.1.1 ZZ.2.1.2.1 ZZ.2.1.2.2.1).bind fun nD=>
   (AJ 2 nD.2.1.1 nD.2.1.2.1 nD.2.1.2.2.1).bind fun dF=>
   some (((14,dF.1.1,nD.1.1,0,[],()),()),((dF.2.1.1,dF.2.1.2.1,dF.2.1.2.2.1,()),())))
  ((AJ 2 ZZ.2.1.1 ZZ.2.1.2.1 ZZ.2.1.2.2.1).bind fun u32=>
  some (((14,u32.1.1,255,0,[],()),()),((u32.2.1.1,u32.2.1.2.1,u32.2.1.2.2.1,()),()))))
 (cond (u9.1.1==7)
  ((A5 2 u9.2.1.1 u9.2.1.2.1 u9.2.1.2.2.1).bind fun ak=>
  cond (ak.1.1)
   ((AJ 256 ak.2.1.1 ak.2.1.2.1 ak.2.1.2.2.1).bind fun uE=>
   (AJ 2 uE.2.1.1 uE.2.1.2.1 uE.2.1.2.2.1).bind fun u35=>
   some (((14,u35.1.1,uE.1.1,0,[],()),()),((u35.2.1.1,u35.2.1.2.1,u35.2.1.2.2.1,()),())))
  ((AJ 2 ak.2.1.1 ak.2.1.2.1 ak.2.1.2.2.1).bind fun u36=>
  some (((14,u36.1.1,255,0,[],()),()),((u36.2.1.1,u36.2.1.2.1,u36.2.1.2.2.1,()),()))))
 (cond (u9.1.1==8)
  ((A5 2 u9.2.1.1 u9.2.1.2.1 u9.2.1.2.2.1).bind fun mh=>
  cond (mh.1.1)
   ((AJ 256 mh.2.1.1 mh.2.1.2.1 mh.2.1.2.2.1).bind fun u38=>
   (AJ 2 u38.2.1.1 u38.2.1.2.1 u38.2.1.2.2.1).bind fun mN=>
   some (((14,mN.1.1,u38.1.1,0,[],()),()),((mN.2.1.1,mN.2.1.2.1,mN.2.1.2.2.1,()),())))
  ((AJ 2 mh.2.1.1 mh.2.1.2.1 mh.2.1.2.2.1).bind fun u40=>
  some (((14,u40.1.1,255,0,[],()),()),((u40.2.1.1,u40.2.1.2.1,u40.2.1.2.2.1,()),()))))
 (cond (decide ((p1.2.2.2.2.1.length:Int)>1))
  ((J4 (p1.2.2.2.2.1,p1.2.2.2.2.2.1,())).bind fun u43=>
  cond ((decide (u43.1.1<(p1.2.2.2.2.1.length:Int))))
   ((A5 3 u9.2.1.1 u9.2.1.2.1 u9.2.1.2.2.1).bind fun u45=>
   cond (!u45.1.1)
    ((L1 (p1.1,p1.2.1,p1.2.2.1,p1.2.2.2.1,p1.2.2.2.2.1,p1.2.2.2.2.2.1,p1.2.2.2.2.2.2.1,p1.2.2.2.2.2.2.2.1,p1.2.2.2.2.2.2.2.2.1,p1.2.2.2.2.2.2.2.2.2.1,p1.2.2.2.2.2.2.2.2.2.2.1,()) u45.2.1.1 u45.2.1.2.1 u45.2.1.2.2.1).bind fun rk=>
    some (((rk.1.1.1,rk.1.1.2.1,rk.1.1.2.2.1,rk.1.1.2.2.2.1,rk.1.1.2.2.2.2.1,()),()),((rk.2.1.1,rk.2.1.2.1,rk.2.1.2.2.1,()),())))
   ((Gp (p1.1,p1.2.1,p1.2.2.1,p1.2.2.2.1,p1.2.2.2.2.1,p1.2.2.2.2.2.1,p1.2.2.2.2.2.2.1,p1.2.2.2.2.2.2.2.1,p1.2.2.2.2.2.2.2.2.1,p1.2.2.2.2.2.2.2.2.2.1,p1.2.2.2.2.2.2.2.2.2.2.1,()) u45.2.1.1 u45.2.1.2.1 u45.2.1.2.2.1).bind fun mT=>
   some (((mT.1.1.1,mT.1.1.2.1,mT.1.1.2.2.1,mT.1.1.2.2.2.1,mT.1.1.2.2.2.2.1,()),()),((mT.2.1.1,mT.2.1.2.1,mT.2.1.2.2.1,()),()))))
  ((Gp (p1.1,p1.2.1,p1.2.2.1,p1.2.2.2.1,p1.2.2.2.2.1,p1.2.2.2.2.2.1,p1.2.2.2.2.2.2.1,p1.2.2.2.2.2.2.2.1,p1.2.2.2.2.2.2.2.2.1,p1.2.2.2.2.2.2.2.2.2.1,p1.2.2.2.2.2.2.2.2.2.2.1,()) u9.2.1.1 u9.2.1.2.1 u9.2.1.2.2.1).bind fun u48=>
  some (((u48.1.1.1,u48.1.1.2.1,u48.1.1.2.2.1,u48.1.1.2.2.2.1,u48.1.1.2.2.2.2.1,()),()),((u48.2.1.1,u48.2.1.2.1,u48.2.1.2.2.1,()),()))))
 ((Gp (p1.1,p1.2.1,p1.2.2.1,p1.2.2.2.1,p1.2.2.2.2.1,p1.2.2.2.2.2.1,p1.2.2.2.2.2.2.1,p1.2.2.2.2.2.2.2.1,p1.2.2.2.2.2.2.2.2.1,p1.2.2.2.2.2.2.2.2.2.1,p1.2.2.2.2.2.2.2.2.2.2.1,()) u9.2.1.1 u9.2.1.2.1 u9.2.1.2.2.1).bind fun r7=>
 some (((r7.1.1.1,r7.1.1.2.1,r7.1.1.2.2.1,r7.1.1.2.2.2.1,r7.1.1.2.2.2.2.1,()),()),((r7.2.1.1,r7.2.1.2.1,r7.2.1.2.2.1,()),()))))))))))))))
abbrev oY:Type:=ABV×Unit
def Ho(p0:Int):Option oY:=
 cond (decide (p0>0))
  ((CG (AS (p0.tdiv 4294967296)) 1 30).bind fun u2=>
  cond (u2.1.1)
   ((CG (p0.tmod 4294967296) 1 60).bind fun u3=>
   some ((u3.1.1,()),()))
  (some ((false,()),())))
 (some ((false,()),()))
abbrev ID:Type:=ABw×Unit
def Cm(p0:Int):Option ID:=
 (Ho p0).bind fun u1=>
 cond (!u1.1.1)
  (some ((0,()),()))
 (some (((AS (p0.tdiv 4294967296)),()),()))
abbrev qv:Type:=ABV×Unit
def Mz(p0:ACX):Option qv:=
 (Ho p0.1).bind fun u1=>
 cond (!u1.1.1)
  (some ((false,()),()))
 ((CG p0.2.1 0 30).bind fun u2=>
 cond (!u2.1.1)
  (some ((false,()),()))
 (cond (decide (p0.2.1>0))
  ((Cm p0.1).bind fun u3=>
  cond ((decide (p0.2.1≤u3.1.1)))
   (some ((false,()),()))
  (cond (decide ((p0.2.2.2.1.length:Int)>40))
   (some ((false,()),()))
  (cond (!p0.2.2.1)
   (some ((true,()),()))
  (cond (decide (p0.2.1>0))
   (some ((p0.2.2.2.1==[],()),()))
  (some ((false,()),()))))))
 (cond (decide ((p0.2.2.2.1.length:Int)>40))
  (some ((false,()),()))
 (cond (!p0.2.2.1)
  (some ((true,()),()))
 (cond (decide (p0.2.1>0))
  (some ((p0.2.2.2.1==[],()),()))
 (some ((false,()),())))))))
abbrev U7:Type:=ABV×Unit
abbrev YU:Type:=AAs→Int→Option U7
def TB(R4:YU)(t0:AAs)(t5:Int):Option U7:=
 cond ((decide (t5<(t0.length:Int))))
  (if(0:Int)≤t5∧t5<(t0.length:Int)then(
  (Mz ((t0.getD (t5.toNat) (0,0,false,[],())).1,(t0.getD (t5.toNat) (0,0,false,[],())).2.1,(t0.getD (t5.toNat) (0,0,false,[],())).2.2.1,(t0.getD (t5.toNat) (0,0,false,[],())).2.2.2.1,())).bind fun u3=>
  cond (!u3.1.1)
   (some ((false,()),()))
  (R4 t0 (AS (t5+1))))else none)
 (some ((true,()),()))
def MN:Nat→YU
 |0=>fun _ _=>none
 |n+1=>TB (MN n)
def ZJ(R4:YU)(p0:AAs)(p1:Int):Option U7:=
 cond ((decide ((p0.length:Int)>p1)))
  (some ((false,()),()))
 (R4 p0 0)
def VC(p0:AAs)(p1:Int):Option U7:=ZJ (MN AX) p0 p1
abbrev XK:Type:=ABV×Unit
abbrev aE:Type:=AAs→Int→Option XK
def Pc(R2:aE)(t0:AAs)(t3:Int):Option XK:=
 cond ((decide (t3<(t0.length:Int))))
  (if(0:Int)≤AS (t3-1)∧AS (t3-1)<(t0.length:Int)then(
  if(0:Int)≤t3∧t3<(t0.length:Int)then(
  cond (decide (((t0.getD ((AS (t3-1)).toNat) (0,0,false,[],())).1)≥((t0.getD (t3.toNat) (0,0,false,[],())).1)))
   (some ((false,()),()))
  (R2 t0 (AS (t3+1))))else none)else none)
 (some ((true,()),()))
def GZ:Nat→aE
 |0=>fun _ _=>none
 |n+1=>Pc (GZ n)
def aZ(R2:aE)(p0:AAs):Option XK:=
 R2 p0 1
def Yb(p0:AAs):Option XK:=aZ (GZ AX) p0
abbrev o4:Type:=ABV×Unit
def Gw(p0:ACD):Option o4:=
 (VC p0.1 200).bind fun u1=>
 cond (u1.1.1)
  ((VC p0.2.1 20).bind fun u2=>
  cond (u2.1.1)
   ((Yb p0.1).bind fun u3=>
   cond (u3.1.1)
    ((CG p0.2.2.1 0 30).bind fun u4=>
    some ((u4.1.1,()),()))
   (some ((false,()),())))
  (some ((false,()),())))
 (some ((false,()),()))
abbrev pq:Type:=ABV×Unit
def cO(p0:ACD):Option pq:=
 cond (((p0.1.length:Int)==0))
  (cond ((p0.2.1.length:Int)==0)
   (some ((p0.2.2.1==0,()),()))
  (some ((false,()),())))
 (some ((false,()),()))
abbrev Qh:Type:=ABV×Unit
abbrev UX:Type:=Int→List Int→Int→AAh→List Int→AAg→Int→AAq→AA2→AA3→AAo→Bool→Option Qh
def QI(R4:UX)(t3:Int)(AL:AAD)(AE:Int)(AY:AAh)(DN:AAD)(EV:AAg)(Aa:Int)(EN:AAq)(EA:AA2)(GJ:AA3)(GW:AAo)(AM:Bool):Option Qh:=
 cond ((decide (t3<(AY.length:Int))))
  (if(0:Int)≤t3∧t3<(AY.length:Int)then(
  (Gw ((AY.getD (t3.toNat) ([],[],0,())).1,(AY.getD (t3.toNat) ([],[],0,())).2.1,(AY.getD (t3.toNat) ([],[],0,())).2.2.1,())).bind fun u8=>
  cond (!u8.1.1)
   (some ((false,()),()))
  ((Cw DN t3).bind fun u9=>
  cond (u9.1.1)
   (if(0:Int)≤t3∧t3<(AY.length:Int)then(
   (cO ((AY.getD (t3.toNat) ([],[],0,())).1,(AY.getD (t3.toNat) ([],[],0,())).2.1,(AY.getD (t3.toNat) ([],[],0,())).2.2.1,())).bind fun Dd=>
   cond (!Dd.1.1)
    (some ((false,()),()))
   (R4 (AS (t3+1)) AL AE AY DN EV Aa EN EA GJ GW AM))else none)
  (R4 (AS (t3+1)) AL AE AY DN EV Aa EN EA GJ GW AM)))else none)
 (some ((true,()),()))
def Jb:Nat→UX
 |0=>fun _ _ _ _ _ _ _ _ _ _ _ _=>none
 |n+1=>QI (Jb n)
def Wq(R4:UX)(p0:ABi):Option Qh:=
 (Gd (p0.1,p0.2.1,())).bind fun u1=>
 cond (!u1.1.1)
  (some ((false,()),()))
 (cond (((p0.2.2.1.length:Int) !=(p0.1.length:Int)))
  (some ((false,()),()))
 ((Gi (p0.1,p0.2.1,()) p0.2.2.2.1).bind fun u4=>
 cond (!u4.1.1)
  (some ((false,()),()))
 ((EX (p0.1,p0.2.1,()) p0.2.2.2.1).bind fun u5=>
 cond (u5.1.1)
  (cond (!p0.2.2.2.2.2.2.2.2.2.2.1)
   (some ((false,()),()))
  (R4 0 p0.1 p0.2.1 p0.2.2.1 p0.2.2.2.1 p0.2.2.2.2.1 p0.2.2.2.2.2.1 p0.2.2.2.2.2.2.1 p0.2.2.2.2.2.2.2.1 p0.2.2.2.2.2.2.2.2.1 p0.2.2.2.2.2.2.2.2.2.1 p0.2.2.2.2.2.2.2.2.2.2.1))
 (R4 0 p0.1 p0.2.1 p0.2.2.1 p0.2.2.2.1 p0.2.2.2.2.1 p0.2.2.2.2.2.1 p0.2.2.2.2.2.2.1 p0.2.2.2.2.2.2.2.1 p0.2.2.2.2.2.2.2.2.1 p0.2.2.2.2.2.2.2.2.2.1 p0.2.2.2.2.2.2.2.2.2.2.1))))
def Uo(p0:ABi):Option Qh:=Wq (Jb AX) p0
abbrev Tc:Type:=ABV×Unit
abbrev aT:Type:=Int→Int→List Int→Int→AAg→Int→Option Tc
def UB(R5:aT)(t5 t6:Int)(AL:AAD)(AE:Int)(BD:AAg)(Ap:Int):Option Tc:=
 cond (decide (t6<t5))
  (if(0:Int)≤t6∧t6<(BD.length:Int)then(
  (EX (AL,AE,()) ((BD.getD (t6.toNat) ([],false,0,())).1)).bind fun u6=>
  cond (!u6.1.1)
   (some ((false,()),()))
  ((CG ((BD.getD (t6.toNat) ([],false,0,())).2.2.1) 0 60).bind fun u8=>
  cond (!u8.1.1)
   (some ((false,()),()))
  (cond (!((BD.getD (t6.toNat) ([],false,0,())).2.1))
   (cond (((BD.getD (t6.toNat) ([],false,0,())).2.2.1) !=0)
    (some ((false,()),()))
   (cond (((BD.getD (t6.toNat) ([],false,0,())).2.1))
    (cond (t6==(AS (t5-1)))
     (some ((false,()),()))
    (cond (decide (t6>0))
     (if(0:Int)≤AS (t6-1)∧AS (t6-1)<(BD.length:Int)then(
     cond (!((BD.getD ((AS (t6-1)).toNat) ([],false,0,())).2.1))
      (some ((false,()),()))
     (R5 t5 (AS (t6+1)) AL AE BD Ap))else none)
    (R5 t5 (AS (t6+1)) AL AE BD Ap)))
   (R5 t5 (AS (t6+1)) AL AE BD Ap)))
  (cond (((BD.getD (t6.toNat) ([],false,0,())).2.1))
   (cond (t6==(AS (t5-1)))
    (some ((false,()),()))
   (cond (decide (t6>0))
    (if(0:Int)≤AS (t6-1)∧AS (t6-1)<(BD.length:Int)then(
    cond (!((BD.getD ((AS (t6-1)).toNat) ([],false,0,())).2.1))
     (some ((false,()),()))
    (R5 t5 (AS (t6+1)) AL AE BD Ap))else none)
   (R5 t5 (AS (t6+1)) AL AE BD Ap)))
  (R5 t5 (AS (t6+1)) AL AE BD Ap)))))else none)
 (some ((true,()),()))
def LK:Nat→aT
 |0=>fun _ _ _ _ _ _=>none
 |n+1=>UB (LK n)
def bI(R5:aT)(p0:ABD)(p1:ACC):Option Tc:=
 (Gd (p0.1,p0.2.1,())).bind fun u1=>
 cond (!u1.1.1)
  (some ((false,()),()))
 (cond ((decide ((p1.1.length:Int)>30)))
  (some ((false,()),()))
 (cond (p1.2.1 !=0)
  ((Ho p1.2.1).bind fun u3=>
  cond (!u3.1.1)
   (some ((false,()),()))
  ((Cm p1.2.1).bind fun u4=>
  cond ((decide (u4.1.1>(p1.1.length:Int))))
   (some ((false,()),()))
  (R5 (p1.1.length:Int) 0 p0.1 p0.2.1 p1.1 p1.2.1)))
 (R5 (p1.1.length:Int) 0 p0.1 p0.2.1 p1.1 p1.2.1)))
def M7(p0:ABD)(p1:ACC):Option Tc:=bI (LK AX) p0 p1
abbrev NS:Type:=ABV×Unit
abbrev UI:Type:=Int→Int→List Int→Int→Int→AB3→Option NS
def Wi(R5:UI)(t5 t6:Int)(AL:AAD)(AE BD:Int)(Ap:AB3):Option NS:=
 cond ((decide (t6<(Ap.length:Int))))
  (if(0:Int)≤t6∧t6<(Ap.length:Int)then(
  cond ((decide ((((Ap.getD (t6.toNat) ([],[],false,())).1).length:Int)>40)))
   (some ((false,()),()))
  ((Gi (AL,AE,()) ((Ap.getD (t6.toNat) ([],[],false,())).2.1)).bind fun u7=>
  cond (!u7.1.1)
   (some ((false,()),()))
  ((EX (AL,AE,()) ((Ap.getD (t6.toNat) ([],[],false,())).2.1)).bind fun u9=>
  cond (u9.1.1 !=((Ap.getD (t6.toNat) ([],[],false,())).2.2.1))
   (some ((false,()),()))
  (cond (!((Ap.getD (t6.toNat) ([],[],false,())).2.2.1))
   (R5 (AS (t5+1)) (AS (t6+1)) AL AE BD Ap)
  (R5 t5 (AS (t6+1)) AL AE BD Ap)))))else none)
 (some ((decide (t5≤6),()),()))
def L2:Nat→UI
 |0=>fun _ _ _ _ _ _=>none
 |n+1=>Wi (L2 n)
def Wo(R5:UI)(p0:ABD)(p1:ACE):Option NS:=
 (Gd (p0.1,p0.2.1,())).bind fun u1=>
 cond (!u1.1.1)
  (some ((false,()),()))
 ((CG p1.1 1 30).bind fun u2=>
 cond (!u2.1.1)
  (some ((false,()),()))
 (cond (decide ((p1.2.1.length:Int)>60))
  (some ((false,()),()))
 (R5 0 0 p0.1 p0.2.1 p1.1 p1.2.1)))
def Hk(p0:ABD)(p1:ACE):Option NS:=Wo (L2 AX) p0 p1
abbrev Kx:Type:=ABw×Unit
def HS(p0:Int):Option Kx:=
 (Ho p0).bind fun u1=>
 cond (!u1.1.1)
  (some ((0,()),()))
 (some ((p0.tmod 4294967296,()),()))
abbrev rj:Type:=ABw×Unit
def Rb(p0:ABU):Option rj:=
 cond ((p0.2.2.2.1.length:Int)==0)
  (some ((0,()),()))
 (let x2:Int:=(p0.2.2.2.1.length:Int)
 if(0:Int)≤AS (x2-1)∧AS (x2-1)<(p0.2.2.2.1.length:Int)then(
 (HS ((p0.2.2.2.1.getD ((AS (x2-1)).toNat) (0,0,false,[],())).1)).bind fun u4=>
 some ((u4.1.1,()),()))else none)
abbrev Nl:Type:=ABV×Unit
abbrev Ss:Type:=Int→List Int→Int→Int→Int→List Int→AAs→Bool→List AAD→Option Nl
abbrev Sd:Type:=Int→List Int→Int→Int→Int→List Int→AAs→Bool→List AAD→Option Nl
def SO(R4:Ss)(R9:Sd)(t5:Int)(AL:AAD)(AE BD Ap:Int)(DJ:AAD)(G7:AAs)(NF:Bool)(DT:List AAD):Option Nl:=
 cond ((decide (t5<(G7.length:Int))))
  (if(0:Int)≤t5∧t5<(G7.length:Int)then(
  (Mz ((G7.getD (t5.toNat) (0,0,false,[],())).1,(G7.getD (t5.toNat) (0,0,false,[],())).2.1,(G7.getD (t5.toNat) (0,0,false,[],())).2.2.1,(G7.getD (t5.toNat) (0,0,false,[],())).2.2.2.1,())).bind fun u7=>
  cond (!u7.1.1)
   (some ((false,()),()))
  (if(0:Int)≤t5∧t5<(G7.length:Int)then(
  (Cm ((G7.getD (t5.toNat) (0,0,false,[],())).1)).bind fun u9=>
  cond (u9.1.1 !=Ap)
   (some ((false,()),()))
  (if(0:Int)≤t5∧t5<(G7.length:Int)then(
  cond (decide (((G7.getD (t5.toNat) (0,0,false,[],())).2.1)≥BD))
   (some ((false,()),()))
  (R4 (AS (t5+1)) AL AE BD Ap DJ G7 NF DT))else none))else none))else none)
 (R9 0 AL AE BD Ap DJ G7 NF DT)
def S4(R4:Ss)(R9:Sd)(t6:Int)(AL:AAD)(AE BD Ap:Int)(DJ:AAD)(G7:AAs)(NF:Bool)(DT:List AAD):Option Nl:=
 cond ((decide (t6<(DT.length:Int))))
  (if(0:Int)≤t6∧t6<(DT.length:Int)then(
  (Gi (AL,AE,()) (DT.getD (t6.toNat) [])).bind fun D_=>
  cond (!D_.1.1)
   (some ((false,()),()))
  (R9 (AS (t6+1)) AL AE BD Ap DJ G7 NF DT))else none)
 (cond (!NF)
  (some ((((DT.length:Int)==0),()),()))
 ((Rb (BD,Ap,DJ,G7,NF,DT,())).bind fun F5=>
 some ((((DT.length:Int)==F5.1.1),()),())))
mutual
def Jm:Nat→Ss
 |0=>fun _ _ _ _ _ _ _ _ _=>none
 |n+1=>SO (Jm n) (Hy n)
def Hy:Nat→Sd
 |0=>fun _ _ _ _ _ _ _ _ _=>none
 |n+1=>S4 (Jm n) (Hy n)
end
def ZO(R4:Ss)(R9:Sd)(p0:ABD)(p1:ABU):Option Nl:=
 (Gd (p0.1,p0.2.1,())).bind fun u1=>
 cond (!u1.1.1)
  (some ((false,()),()))
 ((CG p1.2.1 1 30).bind fun u2=>
 cond (!u2.1.1)
  (some ((false,()),()))
 ((CG p1.1 (AS (p1.2.1+1)) 30).bind fun u3=>
 cond (!u3.1.1)
  (some ((false,()),()))
 ((Gi (p0.1,p0.2.1,()) p1.2.2.1).bind fun u4=>
 cond (!u4.1.1)
  (some ((false,()),()))
 ((Yb p1.2.2.2.1).bind fun u5=>
 cond (!u5.1.1)
  (some ((false,()),()))
 (R4 0 p0.1 p0.2.1 p1.1 p1.2.1 p1.2.2.1 p1.2.2.2.1 p1.2.2.2.2.1 p1.2.2.2.2.2.1)))))
def JA(p0:ABD)(p1:ABU):Option Nl:=ZO (Jm AX) (Hy AX) p0 p1
abbrev JS:Type:=ABV×Unit
abbrev OD:Type:=Int→Int→List Int→Int→AAh→List Int→AAg→Int→AAq→AA2→AA3→AAo→Bool→Option JS
abbrev Mr:Type:=Int→Int→List Int→Int→AAh→List Int→AAg→Int→AAq→AA2→AA3→AAo→Bool→Option JS
def Oj(R5:OD)(R10:Mr)(t3 t4:Int)(AL:AAD)(AE:Int)(AY:AAh)(DN:AAD)(EV:AAg)(Aa:Int)(EN:AAq)(EA:AA2)(GJ:AA3)(GW:AAo)(AM:Bool):Option JS:=
 cond ((decide (t4<(EN.length:Int))))
  (if(0:Int)≤t4∧t4<(EN.length:Int)then(
  (Hk (AL,AE,()) ((EN.getD (t4.toNat) (0,[],())).1,(EN.getD (t4.toNat) (0,[],())).2.1,())).bind fun u6=>
  cond (!u6.1.1)
   (some ((false,()),()))
  (if(0:Int)≤t4∧t4<(EN.length:Int)then(
  cond (decide (((EN.getD (t4.toNat) (0,[],())).1)>t3))
   (some ((false,()),()))
  (cond (decide (t4>0))
   (if(0:Int)≤AS (t4-1)∧AS (t4-1)<(EN.length:Int)then(
   if(0:Int)≤t4∧t4<(EN.length:Int)then(
   cond (decide (((EN.getD ((AS (t4-1)).toNat) (0,[],())).1)≥((EN.getD (t4.toNat) (0,[],())).1)))
    (some ((false,()),()))
   (R5 t3 (AS (t4+1)) AL AE AY DN EV Aa EN EA GJ GW AM))else none)else none)
  (R5 t3 (AS (t4+1)) AL AE AY DN EV Aa EN EA GJ GW AM)))else none))else none)
 (R10 t3 0 AL AE AY DN EV Aa EN EA GJ GW AM)
def N2(R5:OD)(R10:Mr)(t3 t5:Int)(AL:AAD)(AE:Int)(AY:AAh)(DN:AAD)(EV:AAg)(Aa:Int)(EN:AAq)(EA:AA2)(GJ:AA3)(GW:AAo)(AM:Bool):Option JS:=
 cond ((decide (t5<(EA.length:Int))))
  (if(0:Int)≤t5∧t5<(EA.length:Int)then(
  (JA (AL,AE,()) ((EA.getD (t5.toNat) (0,0,[],[],false,[],())).1,(EA.getD (t5.toNat) (0,0,[],[],false,[],())).2.1,(EA.getD (t5.toNat) (0,0,[],[],false,[],())).2.2.1,(EA.getD (t5.toNat) (0,0,[],[],false,[],())).2.2.2.1,(EA.getD (t5.toNat) (0,0,[],[],false,[],())).2.2.2.2.1,(EA.getD (t5.toNat) (0,0,[],[],false,[],())).2.2.2.2.2.1,())).bind fun LR=>
  cond (!LR.1.1)
   (some ((false,()),()))
  (cond (((EA.getD (t5.toNat) (0,0,[],[],false,[],())).1) !=t3)
   (some ((false,()),()))
  ((J4 (EV,Aa,())).bind fun F5=>
  cond (((EA.getD (t5.toNat) (0,0,[],[],false,[],())).2.1) !=F5.1.1)
   (some ((false,()),()))
  (R10 t3 (AS (t5+1)) AL AE AY DN EV Aa EN EA GJ GW AM))))else none)
 (some ((true,()),()))
mutual
def Gk:Nat→OD
 |0=>fun _ _ _ _ _ _ _ _ _ _ _ _ _=>none
 |n+1=>Oj (Gk n) (E4 n)
def E4:Nat→Mr
 |0=>fun _ _ _ _ _ _ _ _ _ _ _ _ _=>none
 |n+1=>N2 (Gk n) (E4 n)
end
def VA(R5:OD)(R10:Mr)(p0:ABi):Option JS:=
 (M7 (p0.1,p0.2.1,()) (p0.2.2.2.2.1,p0.2.2.2.2.2.1,())).bind fun u2=>
 cond (!u2.1.1)
  (some ((false,()),()))
 (cond (decide ((p0.2.2.2.2.2.2.1.length:Int)>4))
  (some ((false,()),()))
 (cond (decide ((p0.2.2.2.2.2.2.2.1.length:Int)>1))
  (some ((false,()),()))
 (R5 (p0.2.2.2.2.1.length:Int) 0 p0.1 p0.2.1 p0.2.2.1 p0.2.2.2.1 p0.2.2.2.2.1 p0.2.2.2.2.2.1 p0.2.2.2.2.2.2.1 p0.2.2.2.2.2.2.2.1 p0.2.2.2.2.2.2.2.2.1 p0.2.2.2.2.2.2.2.2.2.1 p0.2.2.2.2.2.2.2.2.2.2.1)))
def TX(p0:ABi):Option JS:=VA (Gk AX) (E4 AX) p0
abbrev nS:Type:=ABV×Unit
def Nk(p0:ACY):Option nS:=
 (CG p0.1 1 31).bind fun u1=>
 cond (u1.1.1)
  ((CG p0.2.1 1 61).bind fun u2=>
  cond (u2.1.1)
   (some ((decide ((p0.2.2.1.length:Int)≤120),()),()))
  (some ((false,()),())))
 (some ((false,()),()))
abbrev Sr:Type:=ABV×Unit
abbrev WG:Type:=Int→List Int→Int→AAh→List Int→AAg→Int→AAq→AA2→AA3→AAo→Bool→Option Sr
def RC(R4:WG)(t3:Int)(AL:AAD)(AE:Int)(AY:AAh)(DN:AAD)(EV:AAg)(Aa:Int)(EN:AAq)(EA:AA2)(GJ:AA3)(GW:AAo)(AM:Bool):Option Sr:=
 cond ((decide (t3<(GW.length:Int))))
  (if(0:Int)≤t3∧t3<(GW.length:Int)then(
  (Ho ((GW.getD (t3.toNat) (0,[],false,())).1)).bind fun u4=>
  cond (!u4.1.1)
   (some ((false,()),()))
  ((Cm ((GW.getD (t3.toNat) (0,[],false,())).1)).bind fun u6=>
  cond ((decide (u6.1.1>(EV.length:Int))))
   (some ((false,()),()))
  (cond ((decide ((((GW.getD (t3.toNat) (0,[],false,())).2.1).length:Int)>40)))
   (some ((false,()),()))
  (cond (decide (t3>0))
   (if(0:Int)≤AS (t3-1)∧AS (t3-1)<(GW.length:Int)then(
   cond (decide (((GW.getD ((AS (t3-1)).toNat) (0,[],false,())).1)≥((GW.getD (t3.toNat) (0,[],false,())).1)))
    (some ((false,()),()))
   (R4 (AS (t3+1)) AL AE AY DN EV Aa EN EA GJ GW AM))else none)
  (R4 (AS (t3+1)) AL AE AY DN EV Aa EN EA GJ GW AM)))))else none)
 (some ((true,()),()))
def KT:Nat→WG
 |0=>fun _ _ _ _ _ _ _ _ _ _ _ _=>none
 |n+1=>RC (KT n)
def Xe(R4:WG)(p0:ABi):Option Sr:=
 cond (decide ((p0.2.2.2.2.2.2.2.2.2.1.length:Int)>120))
  (some ((false,()),()))
 (R4 0 p0.1 p0.2.1 p0.2.2.1 p0.2.2.2.1 p0.2.2.2.2.1 p0.2.2.2.2.2.1 p0.2.2.2.2.2.2.1 p0.2.2.2.2.2.2.2.1 p0.2.2.2.2.2.2.2.2.1 p0.2.2.2.2.2.2.2.2.2.1 p0.2.2.2.2.2.2.2.2.2.2.1)
def W0(p0:ABi):Option Sr:=Xe (KT AX) p0
abbrev pA:Type:=ABV×Unit
def Sn(p0:ABi):Option pA:=
 (Uo (p0.1,p0.2.1,p0.2.2.1,p0.2.2.2.1,p0.2.2.2.2.1,p0.2.2.2.2.2.1,p0.2.2.2.2.2.2.1,p0.2.2.2.2.2.2.2.1,p0.2.2.2.2.2.2.2.2.1,p0.2.2.2.2.2.2.2.2.2.1,p0.2.2.2.2.2.2.2.2.2.2.1,())).bind fun u1=>
 cond (u1.1.1)
  ((TX (p0.1,p0.2.1,p0.2.2.1,p0.2.2.2.1,p0.2.2.2.2.1,p0.2.2.2.2.2.1,p0.2.2.2.2.2.2.1,p0.2.2.2.2.2.2.2.1,p0.2.2.2.2.2.2.2.2.1,p0.2.2.2.2.2.2.2.2.2.1,p0.2.2.2.2.2.2.2.2.2.2.1,())).bind fun u2=>
  cond (u2.1.1)
   (cond ((p0.2.2.2.2.2.2.2.2.1.length:Int)==2)
    (if(0:Int)≤(0:Int)∧(0:Int)<(p0.2.2.2.2.2.2.2.2.1.length:Int)then(
    (Nk ((p0.2.2.2.2.2.2.2.2.1.getD 0 (0,0,[],())).1,(p0.2.2.2.2.2.2.2.2.1.getD 0 (0,0,[],())).2.1,(p0.2.2.2.2.2.2.2.2.1.getD 0 (0,0,[],())).2.2.1,())).bind fun u4=>
    cond (u4.1.1)
     (if(0:Int)≤(1:Int)∧(1:Int)<(p0.2.2.2.2.2.2.2.2.1.length:Int)then(
     (Nk ((p0.2.2.2.2.2.2.2.2.1.getD 1 (0,0,[],())).1,(p0.2.2.2.2.2.2.2.2.1.getD 1 (0,0,[],())).2.1,(p0.2.2.2.2.2.2.2.2.1.getD 1 (0,0,[],())).2.2.1,())).bind fun u5=>
     cond (u5.1.1)
      ((W0 (p0.1,p0.2.1,p0.2.2.1,p0.2.2.2.1,p0.2.2.2.2.1,p0.2.2.2.2.2.1,p0.2.2.2.2.2.2.1,p0.2.2.2.2.2.2.2.1,p0.2.2.2.2.2.2.2.2.1,p0.2.2.2.2.2.2.2.2.2.1,p0.2.2.2.2.2.2.2.2.2.2.1,())).bind fun u6=>
      some ((u6.1.1,()),()))
     (some ((false,()),())))else none)
    (some ((false,()),())))else none)
   (some ((false,()),())))
  (some ((false,()),())))
 (some ((false,()),()))
abbrev mo:Type:=AFj×Unit
def Z9(p0:ACS):Option mo:=
 cond (p0.1==1)
  (some (((p0.1,p0.2.1,0,0,[],()),()),()))
 (cond (p0.1==4)
  (some (((p0.1,p0.2.1,0,0,[],()),()),()))
 (cond (p0.1==6)
  (some (((p0.1,p0.2.1,0,0,[],()),()),()))
 (cond (p0.1==7)
  (some (((p0.1,p0.2.1,0,0,[],()),()),()))
 (cond (p0.1==9)
  (some (((p0.1,p0.2.1,0,0,[],()),()),()))
 (cond (p0.1==13)
  (some (((p0.1,p0.2.1,0,0,[],()),()),()))
 (cond (p0.1==15)
  (some (((p0.1,p0.2.1,0,0,[],()),()),()))
 (cond (p0.1==16)
  (some (((p0.1,p0.2.1,0,0,[],()),()),()))
 (cond (p0.1==2)
  (some (((p0.1,p0.2.1,0,0,p0.2.2.2.2.1,()),()),()))
 (cond (p0.1==3)
  (some (((p0.1,p0.2.1,p0.2.2.1,p0.2.2.2.1,[],()),()),()))
 (cond (p0.1==5)
  (some (((p0.1,p0.2.1,p0.2.2.1,0,[],()),()),()))
 (cond (p0.1==14)
  (some (((p0.1,p0.2.1,p0.2.2.1,0,[],()),()),()))
 (cond (p0.1==11)
  (some (((p0.1,0,p0.2.2.1,p0.2.2.2.1,[],()),()),()))
 (some (((p0.1,0,0,0,[],()),()),()))))))))))))))
abbrev rh:Type:=ABV×Unit
def Zr(p0:ACS):Option rh:=
 (CG p0.1 1 16).bind fun u1=>
 cond (u1.1.1)
  ((Z9 (p0.1,p0.2.1,p0.2.2.1,p0.2.2.2.1,p0.2.2.2.2.1,())).bind fun u2=>
  cond (((p0.1==u2.1.1.1)&&((p0.2.1==u2.1.1.2.1)&&((p0.2.2.1==u2.1.1.2.2.1)&&((p0.2.2.2.1==u2.1.1.2.2.2.1)&&((p0.2.2.2.2.1==u2.1.1.2.2.2.2.1)&&true))))))
   (some ((decide ((p0.2.2.2.2.1.length:Int)≤40),()),()))
  (some ((false,()),())))
 (some ((false,()),()))
abbrev Fg:Type:=ACc×ADw
abbrev Xq:Type:=Int→AAg→Int→Int→AAg→Int→AAg→Option Fg
def Zv(R3:Xq)(t4:Int)(AL:AAg)(AE Ap:Int)(b2:AAg)(eW:Int)(b4:AAg):Option Fg:=
 cond ((decide (t4<(AL.length:Int))))
  (if(0:Int)≤t4∧t4<(AL.length:Int)then(
  if 0+((AL.getD (t4.toNat) ([],false,0,())).1).length≤C7 then(
  if b4.length+1≤C7 then(
  R3 (AS (t4+1)) AL AE Ap b2 eW (b4++[(((AL.getD (t4.toNat) ([],false,0,())).1),(AL.getD (t4.toNat) ([],false,0,())).2.1,(AL.getD (t4.toNat) ([],false,0,())).2.2.1,())]))else none)else none)else none)
 (some ((((),eW,()),()),(b4,())))
def PN:Nat→Xq
 |0=>fun _ _ _ _ _ _ _=>none
 |n+1=>Zv (PN n)
def ZI(R3:Xq)(p0:ACC):Option Fg:=
 R3 0 p0.1 p0.2.1 0 [] p0.2.1 []
def GF(p0:ACC):Option Fg:=ZI (PN AX) p0
abbrev LD:Type:=AES×ACr
def Ek(p0:ACD):Option LD:=
 if 0+p0.1.length≤C7 then(
 if 0+p0.2.1.length≤C7 then(
 some ((((),(),p0.2.2.1,()),()),(p0.1,p0.2.1,())))else none)else none
abbrev Fj:Type:=AEd×AD1
abbrev YV:Type:=Int→Int→AB3→Int→AB3→Int→AB3→Option Fj
def SN(R3:YV)(t4 AL:Int)(AE:AB3)(BD:Int)(b2:AB3)(gu:Int)(b4:AB3):Option Fj:=
 cond ((decide (t4<(AE.length:Int))))
  (if(0:Int)≤t4∧t4<(AE.length:Int)then(
  if 0+((AE.getD (t4.toNat) ([],[],false,())).2.1).length≤C7 then(
  if b4.length+1≤C7 then(
  R3 (AS (t4+1)) AL AE BD b2 gu (b4++[((AE.getD (t4.toNat) ([],[],false,())).1,((AE.getD (t4.toNat) ([],[],false,())).2.1),(AE.getD (t4.toNat) ([],[],false,())).2.2.1,())]))else none)else none)else none)
 (some (((gu,(),()),()),(b4,())))
def Jy:Nat→YV
 |0=>fun _ _ _ _ _ _ _=>none
 |n+1=>SN (Jy n)
def Sv(R3:YV)(p0:ACE):Option Fj:=
 R3 0 p0.1 p0.2.1 0 [] p0.1 []
def EO(p0:ACE):Option Fj:=Sv (Jy AX) p0
abbrev Ga:Type:=AD4×ACu
abbrev Xs:Type:=Int→Int→Int→List Int→AAs→Bool→List AAD→Int→Int→Bool→List Int→AAs→List AAD→Int→Int→Bool→List Int→AAs→List AAD→Option Ga
def SW(R3:Xs)(t4 AL AE:Int)(AY:AAD)(DN:AAs)(EV:Bool)(Aa:List AAD)(BD Ap:Int)(NF:Bool)(b2:AAD)(b3:AAs)(b4:List AAD)(ADf ADY:Int)(ACs:Bool)(b6:AAD)(b7:AAs)(b8:List AAD):Option Ga:=
 cond ((decide (t4<(Aa.length:Int))))
  (if(0:Int)≤t4∧t4<(Aa.length:Int)then(
  if 0+(Aa.getD (t4.toNat) []).length≤C7 then(
  if b8.length+1≤C7 then(
  R3 (AS (t4+1)) AL AE AY DN EV Aa BD Ap NF b2 b3 b4 ADf ADY ACs b6 b7 (b8++[(Aa.getD (t4.toNat) [])]))else none)else none)else none)
 (some (((ADf,ADY,(),(),ACs,(),()),()),(b6,b7,b8,())))
def H0:Nat→Xs
 |0=>fun _ _ _ _ _ _ _ _ _ _ _ _ _ _ _ _ _ _ _=>none
 |n+1=>SW (H0 n)
def OQ(R3:Xs)(p0:ABU):Option Ga:=
 if 0+p0.2.2.1.length≤C7 then(
 if 0+p0.2.2.2.1.length≤C7 then(
 R3 0 p0.1 p0.2.1 p0.2.2.1 p0.2.2.2.1 p0.2.2.2.2.1 p0.2.2.2.2.2.1 0 0 false [] [] [] p0.1 p0.2.1 p0.2.2.2.2.1 p0.2.2.1 p0.2.2.2.1 [])else none)else none
def ES(p0:ABU):Option Ga:=OQ (H0 AX) p0
abbrev Jg:Type:=AEg×AEx
def CN(p0:ACY):Option Jg:=
 if 0+p0.2.2.1.length≤C7 then(
 some (((p0.1,p0.2.1,(),()),()),(p0.2.2.1,())))else none
abbrev Fi:Type:=AE7×ACb
abbrev KR:Type:=Int→List Int→Int→AAh→List Int→AAg→Int→AAq→AA2→AA3→AAo→Bool→Int→Int→Bool→List Int→AAh→List Int→AAg→AAq→AA2→AA3→AAo→Int→Int→Bool→List Int→AAh→List Int→AAg→AAq→AA2→AA3→AAo→Option Fi
abbrev KZ:Type:=Int→List Int→Int→AAh→List Int→AAg→Int→AAq→AA2→AA3→AAo→Bool→Int→Int→Bool→List Int→AAh→List Int→AAg→AAq→AA2→AA3→AAo→Int→Int→Bool→List Int→AAh→List Int→AAg→AAq→AA2→AA3→AAo→Option Fi
abbrev JN:Type:=Int→List Int→Int→AAh→List Int→AAg→Int→AAq→AA2→AA3→AAo→Bool→Int→Int→Bool→List Int→AAh→List Int→AAg→AAq→AA2→AA3→AAo→Int→Int→Bool→List Int→AAh→List Int→AAg→AAq→AA2→AA3→AAo→Option Fi
abbrev JQ:Type:=Int→List Int→Int→AAh→List Int→AAg→Int→AAq→AA2→AA3→AAo→Bool→Int→Int→Bool→List Int→AAh→List Int→AAg→AAq→AA2→AA3→AAo→Int→Int→Bool→List Int→AAh→List Int→AAg→AAq→AA2→AA3→AAo→Option Fi
def Q4(R3:KR)(R7:KZ)(sX:JN)(ic:JQ)(t4:Int)(AL:AAD)(AE:Int)(AY:AAh)(DN:AAD)(EV:AAg)(Aa:Int)(EN:AAq)(EA:AA2)(GJ:AA3)(GW:AAo)(AM:Bool)(Ap DT:Int)(Dg:Bool)(b2:AAD)(b3:AAh)(b4:AAD)(b5:AAg)(b6:AAq)(b7:AA2)(b8:AA3)(b9:AAo)(Cb C1:Int)(Bu:Bool)(Ef:AAD)(DI:AAh)(FU:AAD)(FZ:AAg)(De:AAq)(D4:AA2)(Ea:AA3)(Od:AAo):Option Fi:=
 cond ((decide (t4<(AY.length:Int))))
  (if(0:Int)≤t4∧t4<(AY.length:Int)then(
  (Ek ((AY.getD (t4.toNat) ([],[],0,())).1,(AY.getD (t4.toNat) ([],[],0,())).2.1,(AY.getD (t4.toNat) ([],[],0,())).2.2.1,())).bind fun yQ=>
  if DI.length+1≤C7 then(
  R3 (AS (t4+1)) AL AE AY DN EV Aa EN EA GJ GW AM Ap DT Dg b2 b3 b4 b5 b6 b7 b8 b9 Cb C1 Bu Ef (DI++[(yQ.2.1,yQ.2.2.1,yQ.1.1.2.2.1,())]) FU FZ De D4 Ea Od)else none)else none)
 (R7 0 AL AE AY DN EV Aa EN EA GJ GW AM Ap DT Dg b2 b3 b4 b5 b6 b7 b8 b9 Cb C1 Bu Ef DI FU FZ De D4 Ea Od)
def RQ(R3:KR)(R7:KZ)(sX:JN)(ic:JQ)(t5:Int)(AL:AAD)(AE:Int)(AY:AAh)(DN:AAD)(EV:AAg)(Aa:Int)(EN:AAq)(EA:AA2)(GJ:AA3)(GW:AAo)(AM:Bool)(Ap DT:Int)(Dg:Bool)(b2:AAD)(b3:AAh)(b4:AAD)(b5:AAg)(b6:AAq)(b7:AA2)(b8:AA3)(b9:AAo)(Cb C1:Int)(Bu:Bool)(Ef:AAD)(DI:AAh)(FU:AAD)(FZ:AAg)(De:AAq)(D4:AA2)(Ea:AA3)(Od:AAo):Option Fi:=
 cond ((decide (t5<(EN.length:Int))))
  (if(0:Int)≤t5∧t5<(EN.length:Int)then(
  (EO ((EN.getD (t5.toNat) (0,[],())).1,(EN.getD (t5.toNat) (0,[],())).2.1,())).bind fun AFM=>
  if De.length+1≤C7 then(
  R7 (AS (t5+1)) AL AE AY DN EV Aa EN EA GJ GW AM Ap DT Dg b2 b3 b4 b5 b6 b7 b8 b9 Cb C1 Bu Ef DI FU FZ (De++[(AFM.1.1.1,AFM.2.1,())]) D4 Ea Od)else none)else none)
 (sX 0 AL AE AY DN EV Aa EN EA GJ GW AM Ap DT Dg b2 b3 b4 b5 b6 b7 b8 b9 Cb C1 Bu Ef DI FU FZ De D4 Ea Od)
def P6(R3:KR)(R7:KZ)(sX:JN)(ic:JQ)(t6:Int)(AL:AAD)(AE:Int)(AY:AAh)(DN:AAD)(EV:AAg)(Aa:Int)(EN:AAq)(EA:AA2)(GJ:AA3)(GW:AAo)(AM:Bool)(Ap DT:Int)(Dg:Bool)(b2:AAD)(b3:AAh)(b4:AAD)(b5:AAg)(b6:AAq)(b7:AA2)(b8:AA3)(b9:AAo)(Cb C1:Int)(Bu:Bool)(Ef:AAD)(DI:AAh)(FU:AAD)(FZ:AAg)(De:AAq)(D4:AA2)(Ea:AA3)(Od:AAo):Option Fi:=
 cond ((decide (t6<(EA.length:Int))))
  (if(0:Int)≤t6∧t6<(EA.length:Int)then(
  (ES ((EA.getD (t6.toNat) (0,0,[],[],false,[],())).1,(EA.getD (t6.toNat) (0,0,[],[],false,[],())).2.1,(EA.getD (t6.toNat) (0,0,[],[],false,[],())).2.2.1,(EA.getD (t6.toNat) (0,0,[],[],false,[],())).2.2.2.1,(EA.getD (t6.toNat) (0,0,[],[],false,[],())).2.2.2.2.1,(EA.getD (t6.toNat) (0,0,[],[],false,[],())).2.2.2.2.2.1,())).bind fun lN=>
  if D4.length+1≤C7 then(
  sX (AS (t6+1)) AL AE AY DN EV Aa EN EA GJ GW AM Ap DT Dg b2 b3 b4 b5 b6 b7 b8 b9 Cb C1 Bu Ef DI FU FZ De (D4++[(lN.1.1.1,lN.1.1.2.1,lN.2.1,lN.2.2.1,lN.1.1.2.2.2.2.1,lN.2.2.2.1,())]) Ea Od)else none)else none)
 (ic 0 AL AE AY DN EV Aa EN EA GJ GW AM Ap DT Dg b2 b3 b4 b5 b6 b7 b8 b9 Cb C1 Bu Ef DI FU FZ De D4 Ea Od)
def P9(R3:KR)(R7:KZ)(sX:JN)(ic:JQ)(t7:Int)(AL:AAD)(AE:Int)(AY:AAh)(DN:AAD)(EV:AAg)(Aa:Int)(EN:AAq)(EA:AA2)(GJ:AA3)(GW:AAo)(AM:Bool)(Ap DT:Int)(Dg:Bool)(b2:AAD)(b3:AAh)(b4:AAD)(b5:AAg)(b6:AAq)(b7:AA2)(b8:AA3)(b9:AAo)(Cb C1:Int)(Bu:Bool)(Ef:AAD)(DI:AAh)(FU:AAD)(FZ:AAg)(De:AAq)(D4:AA2)(Ea:AA3)(Od:AAo):Option Fi:=
 cond ((decide (t7<(GJ.length:Int))))
  (if(0:Int)≤t7∧t7<(GJ.length:Int)then(
  (CN ((GJ.getD (t7.toNat) (0,0,[],())).1,(GJ.getD (t7.toNat) (0,0,[],())).2.1,(GJ.getD (t7.toNat) (0,0,[],())).2.2.1,())).bind fun yD=>
  if Ea.length+1≤C7 then(
  ic (AS (t7+1)) AL AE AY DN EV Aa EN EA GJ GW AM Ap DT Dg b2 b3 b4 b5 b6 b7 b8 b9 Cb C1 Bu Ef DI FU FZ De D4 (Ea++[(yD.1.1.1,yD.1.1.2.1,yD.2.1,())]) Od)else none)else none)
 (some ((((),Cb,(),(),(),C1,(),(),(),(),Bu,()),()),(Ef,DI,FU,FZ,De,D4,Ea,Od,())))
mutual
def CX:Nat→KR
 |0=>fun _ _ _ _ _ _ _ _ _ _ _ _ _ _ _ _ _ _ _ _ _ _ _ _ _ _ _ _ _ _ _ _ _ _=>none
 |n+1=>Q4 (CX n) (Cp n) (CS n) (CV n)
def Cp:Nat→KZ
 |0=>fun _ _ _ _ _ _ _ _ _ _ _ _ _ _ _ _ _ _ _ _ _ _ _ _ _ _ _ _ _ _ _ _ _ _=>none
 |n+1=>RQ (CX n) (Cp n) (CS n) (CV n)
def CS:Nat→JN
 |0=>fun _ _ _ _ _ _ _ _ _ _ _ _ _ _ _ _ _ _ _ _ _ _ _ _ _ _ _ _ _ _ _ _ _ _=>none
 |n+1=>P6 (CX n) (Cp n) (CS n) (CV n)
def CV:Nat→JQ
 |0=>fun _ _ _ _ _ _ _ _ _ _ _ _ _ _ _ _ _ _ _ _ _ _ _ _ _ _ _ _ _ _ _ _ _ _=>none
 |n+1=>P9 (CX n) (Cp n) (CS n) (CV n)
end
def RP(R3:KR)(R7:KZ)(sX:JN)(ic:JQ)(p0:ABi):Option Fi:=
 if 0+p0.1.length≤C7 then(
 if 0+p0.2.2.2.1.length≤C7 then(
 (GF (p0.2.2.2.2.1,p0.2.2.2.2.2.1,())).bind fun u2=>
 if 0+p0.2.2.2.2.2.2.2.2.2.1.length≤C7 then(
 R3 0 p0.1 p0.2.1 p0.2.2.1 p0.2.2.2.1 p0.2.2.2.2.1 p0.2.2.2.2.2.1 p0.2.2.2.2.2.2.1 p0.2.2.2.2.2.2.2.1 p0.2.2.2.2.2.2.2.2.1 p0.2.2.2.2.2.2.2.2.2.1 p0.2.2.2.2.2.2.2.2.2.2.1 0 0 false [] [] [] [] [] [] [] [] p0.2.1 u2.1.1.2.1 p0.2.2.2.2.2.2.2.2.2.2.1 p0.1 [] p0.2.2.2.1 u2.2.1 [] [] [] p0.2.2.2.2.2.2.2.2.2.1)else none)else none)else none
def Mc(p0:ABi):Option Fi:=RP (CX AX) (Cp AX) (CS AX) (CV AX) p0
abbrev PY:Type:=ACP×ACQ
abbrev TC:Type:=Int→Int→List Int→Option PY
def Og(R3:TC)(t0 t4:Int)(b0:AAD):Option PY:=
 cond (decide (t4<8))
  ((CG t0 0 255).bind fun u1=>
  cond (u1.1.1)
   (if t4<0 then none else(
   cond (((dS .i64 (t0.fdiv (2^(min t4.toNat 64))) 1)==1))
    (if b0.length+1≤C7 then(
    R3 t0 (AS (t4+1)) (b0++[t4]))else none)
   (R3 t0 (AS (t4+1)) b0)))
  (some (((),()),(b0,()))))
 (some (((),()),(b0,())))
def IP:Nat→TC
 |0=>fun _ _ _=>none
 |n+1=>Og (IP n)
def VM(R3:TC)(p0:Int):Option PY:=
 R3 p0 0 []
def PF(p0:Int):Option PY:=VM (IP AX) p0
abbrev qP:Type:=(AKB×Unit)×ADw
def Mj(p0:ABD)(p1:ACC)(p2:AAD):Option qP:=
 (M7 (p0.1,p0.2.1,()) (p1.1,p1.2.1,())).bind fun u1=>
 cond (!u1.1.1)
  (some (((((),0,()),0,false,()),()),([],())))
 ((GF (p1.1,p1.2.1,())).bind fun u2=>
 (EX (p0.1,p0.2.1,()) p2).bind fun u3=>
 cond (!u3.1.1)
  (some (((((),u2.1.1.2.1,()),0,false,()),()),(u2.2.1,())))
 (cond (((p1.1.length:Int)==30))
  (some (((((),u2.1.1.2.1,()),0,false,()),()),(u2.2.1,())))
 (if 0+p2.length≤C7 then(
 if u2.2.1.length+1≤C7 then(
 let x5:AAg:=u2.2.1++[(p2,false,0,())]
 some (((((),u2.1.1.2.1,()),(x5.length:Int),true,()),()),(x5,())))else none)else none)))
abbrev dp:Type:=ACa×(List Int×AAh×List Int×Unit×Unit×Unit×AA3×AAo×AAg×AAq×AA2×Unit)
def Wy(CK CM:Int)(BO:Bool)(p1:ACS)(b0:AAD)(b1:AAh)(b2:AAD)(b3:AAg)(b4:AAq)(b5:AA2)(b6:AA3)(b7:AAo):Option dp:=
 cond (((b4.length:Int)==4))
  (some (((((),CK,(),(),(),CM,(),(),(),(),BO,()),4,()),()),(b0,b1,b2,(),(),(),b6,b7,b3,b4,b5,())))
 ((PF p1.2.1).bind fun u2=>
 (Mj (b0,CK,()) (b3,CM,()) u2.2.1).bind fun u3=>
 cond (!u3.1.1.2.2.1)
  (some (((((),CK,(),(),(),CM,(),(),(),(),BO,()),4,()),()),(b0,b1,b2,(),(),(),b6,b7,b3,b4,b5,())))
 (if b4.length+1≤C7 then(
 some (((((),CK,(),(),(),u3.1.1.1.2.1,(),(),(),(),BO,()),0,()),()),(b0,b1,b2,(),(),(),b6,b7,u3.2.1,(b4++[(u3.1.1.2.1,[],())]),[],())))else none))
abbrev lR:Type:=ABV×Unit
def L9(p0:ABi)(p1:Int):Option lR:=
 (CG p1 0 (AS ((p0.2.2.2.2.2.2.1.length:Int)-1))).bind fun u2=>
 some ((u2.1.1,()),())
abbrev kO:Type:=(AKh×Unit)×AD1
def Gj(p0:ABD)(p1:ACE)(p2:AB_):Option kO:=
 (Hk (p0.1,p0.2.1,()) (p1.1,p1.2.1,())).bind fun u1=>
 cond (!u1.1.1)
  (some ((((0,(),()),0,false,()),()),([],())))
 ((EO (p1.1,p1.2.1,())).bind fun u2=>
 if u2.2.1.length+1≤C7 then(
 let x3:AB3:=u2.2.1++[(p2,[],false,())]
 (Hk (p0.1,p0.2.1,()) (u2.1.1.1,x3,())).bind fun u4=>
 cond (!u4.1.1)
  ((EO (p1.1,p1.2.1,())).bind fun u5=>
  some ((((u5.1.1.1,(),()),0,false,()),()),(u5.2.1,())))
 (some ((((u2.1.1.1,(),()),(x3.length:Int),true,()),()),(x3,()))))else none)
abbrev H8:Type:=ABw×Unit
def CY(p0 p1:Int):Option H8:=
 some ((AS ((AS (4294967296*p0))+p1),()),())
abbrev LC:Type:=ACa×(List Int×AAh×List Int×AAg×AAq×AA2×AA3×Unit×AAo×Unit)
abbrev TE:Type:=Int→List Int→AAh→List Int→AAg→AAq→AA2→AA3→AAo→Int→Int→Bool→Int→Int→Bool→List Int→AAh→List Int→AAg→AAq→AA2→AA3→AAo→Int→List UInt8→Bool→Option LC
abbrev Qm:Type:=Bool→Int→List Int→AAh→List Int→AAg→AAq→AA2→AA3→AAo→Int→Int→Bool→Int→Int→Bool→List Int→AAh→List Int→AAg→AAq→AA2→AA3→AAo→Int→List UInt8→Bool→AAo→Option LC
def Zq(R9:TE)(R16:Qm)(t10:Int)(b0:AAD)(b1:AAh)(b2:AAD)(b3:AAg)(b4:AAq)(b5:AA2)(b6:AA3)(b7:AAo)(Dc Dv:Int)(CJ:Bool)(Dw Fc:Int)(Cv:Bool)(NG:AAD)(Ef:AAh)(DI:AAD)(FU:AAg)(FZ:AAq)(De:AA2)(D4:AA3)(Ea:AAo)(Cc:Int)(C3:AB_)(Cf:Bool):Option LC:=
 cond ((decide (t10<(b7.length:Int))))
  (if(0:Int)≤t10∧t10<(b7.length:Int)then(
  cond (((b7.getD (t10.toNat) (0,[],false,())).1)==Cc)
   (some (((((),Dc,(),(),(),Dv,(),(),(),(),CJ,()),4,()),()),(b0,b1,b2,b3,b4,b5,b6,(),b7,())))
  (R9 (AS (t10+1)) b0 b1 b2 b3 b4 b5 b6 b7 Dc Dv CJ Dw Fc Cv NG Ef DI FU FZ De D4 Ea Cc C3 Cf))else none)
 (R16 false 0 b0 b1 b2 b3 b4 b5 b6 b7 Dc Dv CJ Dw Fc Cv NG Ef DI FU FZ De D4 Ea Cc C3 Cf [])
def YJ(R9:TE)(R16:Qm)(t12:Bool)(t13:Int)(b0:AAD)(b1:AAh)(b2:AAD)(b3:AAg)(b4:AAq)(b5:AA2)(b6:AA3)(b7:AAo)(Dc Dv:Int)(CJ:Bool)(Dw Fc:Int)(Cv:Bool)(NG:AAD)(Ef:AAh)(DI:AAD)(FU:AAg)(FZ:AAq)(De:AA2)(D4:AA3)(Ea:AAo)(Cc:Int)(C3:AB_)(Cf:Bool)(tp:AAo):Option LC:=
 cond ((decide (t13<(b7.length:Int))))
  (cond (!t12)
   (if(0:Int)≤t13∧t13<(b7.length:Int)then(
   cond (decide (((b7.getD (t13.toNat) (0,[],false,())).1)>Cc))
    (if tp.length+1≤C7 then(
    let x18:AAo:=tp++[(Cc,C3,Cf,())]
    if(0:Int)≤t13∧t13<(b7.length:Int)then(
    if x18.length+1≤C7 then(
    R16 true (AS (t13+1)) b0 b1 b2 b3 b4 b5 b6 b7 Dc Dv CJ Dw Fc Cv NG Ef DI FU FZ De D4 Ea Cc C3 Cf (x18++[((b7.getD (t13.toNat) (0,[],false,())).1,(b7.getD (t13.toNat) (0,[],false,())).2.1,(b7.getD (t13.toNat) (0,[],false,())).2.2.1,())]))else none)else none)else none)
   (if(0:Int)≤t13∧t13<(b7.length:Int)then(
   if tp.length+1≤C7 then(
   R16 t12 (AS (t13+1)) b0 b1 b2 b3 b4 b5 b6 b7 Dc Dv CJ Dw Fc Cv NG Ef DI FU FZ De D4 Ea Cc C3 Cf (tp++[((b7.getD (t13.toNat) (0,[],false,())).1,(b7.getD (t13.toNat) (0,[],false,())).2.1,(b7.getD (t13.toNat) (0,[],false,())).2.2.1,())]))else none)else none))else none)
  (if(0:Int)≤t13∧t13<(b7.length:Int)then(
  if tp.length+1≤C7 then(
  R16 t12 (AS (t13+1)) b0 b1 b2 b3 b4 b5 b6 b7 Dc Dv CJ Dw Fc Cv NG Ef DI FU FZ De D4 Ea Cc C3 Cf (tp++[((b7.getD (t13.toNat) (0,[],false,())).1,(b7.getD (t13.toNat) (0,[],false,())).2.1,(b7.getD (t13.toNat) (0,[],false,())).2.2.1,())]))else none)else none))
 (cond (!t12)
  (if tp.length+1≤C7 then(
  some (((((),Dc,(),(),(),Dv,(),(),(),(),CJ,()),0,()),()),(b0,b1,b2,b3,b4,b5,b6,(),(tp++[(Cc,C3,Cf,())]),())))else none)
 (some (((((),Dc,(),(),(),Dv,(),(),(),(),CJ,()),0,()),()),(b0,b1,b2,b3,b4,b5,b6,(),tp,()))))
mutual
def MJ:Nat→TE
 |0=>fun _ _ _ _ _ _ _ _ _ _ _ _ _ _ _ _ _ _ _ _ _ _ _ _ _ _=>none
 |n+1=>Zq (MJ n) (KM n)
def KM:Nat→Qm
 |0=>fun _ _ _ _ _ _ _ _ _ _ _ _ _ _ _ _ _ _ _ _ _ _ _ _ _ _ _ _=>none
 |n+1=>YJ (MJ n) (KM n)
end
def Zs(R9:TE)(R16:Qm)(CK CM:Int)(BO:Bool)(p1:ACS)(b0:AAD)(b1:AAh)(b2:AAD)(b3:AAg)(b4:AAq)(b5:AA2)(b6:AA3)(b7:AAo):Option LC:=
 (L9 (b0,CK,b1,b2,b3,CM,b4,b5,b6,b7,BO,()) p1.2.1).bind fun u1=>
 cond (!u1.1.1)
  (some (((((),CK,(),(),(),CM,(),(),(),(),BO,()),2,()),()),(b0,b1,b2,b3,b4,b5,b6,(),b7,())))
 (if(0:Int)≤p1.2.1∧p1.2.1<(b4.length:Int)then(
 (Gj (b0,CK,()) ((b4.getD (p1.2.1.toNat) (0,[],())).1,(b4.getD (p1.2.1.toNat) (0,[],())).2.1,()) p1.2.2.2.2.1).bind fun u2=>
 cond (!u2.1.1.2.2.1)
  (some (((((),CK,(),(),(),CM,(),(),(),(),BO,()),4,()),()),(b0,b1,b2,b3,b4,b5,b6,(),b7,())))
 (cond (((b7.length:Int)==120))
  (some (((((),CK,(),(),(),CM,(),(),(),(),BO,()),4,()),()),(b0,b1,b2,b3,b4,b5,b6,(),b7,())))
 (if(0:Int)≤p1.2.1∧p1.2.1<(b4.length:Int)then(
 (CY u2.1.1.1.1 u2.1.1.2.1).bind fun u5=>
 R9 0 b0 b1 b2 b3 (b4.set (p1.2.1.toNat) (u2.1.1.1.1,u2.2.1,())) b5 b6 b7 CK CM BO 0 0 false [] [] [] [] [] [] [] [] u5.1.1 p1.2.2.2.2.1 false)else none)))else none)
def ZR(CK CM:Int)(BO:Bool)(p1:ACS)(b0:AAD)(b1:AAh)(b2:AAD)(b3:AAg)(b4:AAq)(b5:AA2)(b6:AA3)(b7:AAo):Option LC:=Zs (MJ AX) (KM AX) CK CM BO p1 b0 b1 b2 b3 b4 b5 b6 b7
abbrev pV:Type:=ABw×Unit
def Hm(p0:ABi)(p1:Int):Option pV:=
 (CG p1 0 (AS ((p0.2.2.1.length:Int)-1))).bind fun u2=>
 cond (!u2.1.1)
  (some ((2,()),()))
 ((Cw p0.2.2.2.1 p1).bind fun u3=>
 cond (u3.1.1)
  (some ((3,()),()))
 (some ((0,()),())))
abbrev oT:Type:=ABV×Unit
def W6(p0:ACD)(p1:ACX):Option oT:=
 cond (p1.2.1==0)
  ((Cm p1.1).bind fun u1=>
  some (((decide (u1.1.1>p0.2.2.1)),()),()))
 (some (((decide (p1.2.1>p0.2.2.1)),()),()))
abbrev mz:Type:=ADN×ACr
def Ng(p0:ACD)(p1:ACX):Option mz:=
 (Gw (p0.1,p0.2.1,p0.2.2.1,())).bind fun u1=>
 cond (!u1.1.1)
  (some (((((),(),0,()),false,()),()),([],[],())))
 ((Ek (p0.1,p0.2.1,p0.2.2.1,())).bind fun u2=>
 (Mz (p1.1,p1.2.1,p1.2.2.1,p1.2.2.2.1,())).bind fun u3=>
 cond (!u3.1.1)
  (some (((((),(),u2.1.1.2.2.1,()),false,()),()),(u2.2.1,u2.2.2.1,())))
 ((W6 (p0.1,p0.2.1,p0.2.2.1,()) (p1.1,p1.2.1,p1.2.2.1,p1.2.2.2.1,())).bind fun u4=>
 cond (!u4.1.1)
  (some (((((),(),u2.1.1.2.2.1,()),false,()),()),(u2.2.1,u2.2.2.1,())))
 (cond ((p0.2.1.length:Int)==20)
  (some (((((),(),u2.1.1.2.2.1,()),false,()),()),(u2.2.1,u2.2.2.1,())))
 (if u2.2.2.1.length+1≤C7 then(
 some (((((),(),u2.1.1.2.2.1,()),true,()),()),(u2.2.1,(u2.2.2.1++[(p1.1,p1.2.1,p1.2.2.1,p1.2.2.2.1,())]),())))else none))))
abbrev cQ:Type:=ACa×ACb
def U2(CK CM:Int)(BO:Bool)(p1:ACS)(b0:AAD)(b1:AAh)(b2:AAD)(b3:AAg)(b4:AAq)(b5:AA2)(b6:AA3)(b7:AAo):Option cQ:=
 (L9 (b0,CK,b1,b2,b3,CM,b4,b5,b6,b7,BO,()) p1.2.1).bind fun u1=>
 cond (!u1.1.1)
  (some (((((),CK,(),(),(),CM,(),(),(),(),BO,()),2,()),()),(b0,b1,b2,b3,b4,b5,b6,b7,())))
 (if(0:Int)≤p1.2.1∧p1.2.1<(b4.length:Int)then(
 (CG p1.2.2.1 1 (((b4.getD (p1.2.1.toNat) (0,[],())).2.1).length:Int)).bind fun u3=>
 cond (!u3.1.1)
  (some (((((),CK,(),(),(),CM,(),(),(),(),BO,()),2,()),()),(b0,b1,b2,b3,b4,b5,b6,b7,())))
 ((Hm (b0,CK,b1,b2,b3,CM,b4,b5,b6,b7,BO,()) p1.2.2.2.1).bind fun u4=>
 cond (u4.1.1 !=0)
  (some (((((),CK,(),(),(),CM,(),(),(),(),BO,()),u4.1.1,()),()),(b0,b1,b2,b3,b4,b5,b6,b7,())))
 ((CZ (b3,CM,()) ((b4.getD (p1.2.1.toNat) (0,[],())).1)).bind fun u6=>
 (Cw u6.2.1 p1.2.2.2.1).bind fun u7=>
 cond (!u7.1.1)
  (some (((((),CK,(),(),(),CM,(),(),(),(),BO,()),2,()),()),(b0,b1,b2,b3,b4,b5,b6,b7,())))
 (if(0:Int)≤p1.2.2.2.1∧p1.2.2.2.1<(b1.length:Int)then(
 if(0:Int)≤AS (p1.2.2.1-1)∧AS (p1.2.2.1-1)<(((b4.getD (p1.2.1.toNat) (0,[],())).2.1).length:Int)then(
 (CY ((b4.getD (p1.2.1.toNat) (0,[],())).1) p1.2.2.1).bind fun Dd=>
 (Ng ((b1.getD (p1.2.2.2.1.toNat) ([],[],0,())).1,(b1.getD (p1.2.2.2.1.toNat) ([],[],0,())).2.1,(b1.getD (p1.2.2.2.1.toNat) ([],[],0,())).2.2.1,()) (Dd.1.1,0,false,((((b4.getD (p1.2.1.toNat) (0,[],())).2.1).getD ((AS (p1.2.2.1-1)).toNat) ([],[],false,())).1),())).bind fun LR=>
 cond (!LR.1.1.2.1)
  (some (((((),CK,(),(),(),CM,(),(),(),(),BO,()),4,()),()),(b0,b1,b2,b3,b4,b5,b6,b7,())))
 (if(0:Int)≤p1.2.2.2.1∧p1.2.2.2.1<(b1.length:Int)then(
 some (((((),CK,(),(),(),CM,(),(),(),(),BO,()),0,()),()),(b0,(b1.set (p1.2.2.2.1.toNat) (LR.2.1,LR.2.2.1,LR.1.1.1.2.2.1,())),b2,b3,b4,b5,b6,b7,())))else none))else none)else none))))else none)
abbrev rC:Type:=AFi×Unit
def Ry(p0 p1:ACX):Option rC:=
 cond ((decide (p1.2.1>p0.2.1)))
  (some (((p1.1,p1.2.1,p1.2.2.1,p1.2.2.2.1,()),()),()))
 (some (((p0.1,p0.2.1,p0.2.2.1,p0.2.2.2.1,()),()),()))
abbrev Un:Type:=ACP×AEa
abbrev Xi:Type:=AAs→Bool→Int→Int→Int→Bool→List UInt8→AAs→Option Un
def TW(R4:Xi)(t0:AAs)(t6:Bool)(t7 AL AE:Int)(AY:Bool)(DN:AB_)(b1:AAs):Option Un:=
 cond ((decide (t7<(t0.length:Int))))
  (cond (!t6)
   (if(0:Int)≤t7∧t7<(t0.length:Int)then(
   cond (((t0.getD (t7.toNat) (0,0,false,[],())).1)==AL)
    (if(0:Int)≤t7∧t7<(t0.length:Int)then(
    (Ry ((t0.getD (t7.toNat) (0,0,false,[],())).1,(t0.getD (t7.toNat) (0,0,false,[],())).2.1,(t0.getD (t7.toNat) (0,0,false,[],())).2.2.1,(t0.getD (t7.toNat) (0,0,false,[],())).2.2.2.1,()) (AL,AE,AY,DN,())).bind fun u3=>
    if b1.length+1≤C7 then(
    R4 t0 true (AS (t7+1)) AL AE AY DN (b1++[(u3.1.1.1,u3.1.1.2.1,u3.1.1.2.2.1,u3.1.1.2.2.2.1,())]))else none)else none)
   (cond (!t6)
    (if(0:Int)≤t7∧t7<(t0.length:Int)then(
    cond (decide (((t0.getD (t7.toNat) (0,0,false,[],())).1)>AL))
     (if b1.length+1≤C7 then(
     let x6:AAs:=b1++[(AL,AE,AY,DN,())]
     if(0:Int)≤t7∧t7<(t0.length:Int)then(
     if x6.length+1≤C7 then(
     R4 t0 true (AS (t7+1)) AL AE AY DN (x6++[((t0.getD (t7.toNat) (0,0,false,[],())).1,(t0.getD (t7.toNat) (0,0,false,[],())).2.1,(t0.getD (t7.toNat) (0,0,false,[],())).2.2.1,(t0.getD (t7.toNat) (0,0,false,[],())).2.2.2.1,())]))else none)else none)else none)
    (if(0:Int)≤t7∧t7<(t0.length:Int)then(
    if b1.length+1≤C7 then(
    R4 t0 t6 (AS (t7+1)) AL AE AY DN (b1++[((t0.getD (t7.toNat) (0,0,false,[],())).1,(t0.getD (t7.toNat) (0,0,false,[],())).2.1,(t0.getD (t7.toNat) (0,0,false,[],())).2.2.1,(t0.getD (t7.toNat) (0,0,false,[],())).2.2.2.1,())]))else none)else none))else none)
   (if(0:Int)≤t7∧t7<(t0.length:Int)then(
   if b1.length+1≤C7 then(
   R4 t0 t6 (AS (t7+1)) AL AE AY DN (b1++[((t0.getD (t7.toNat) (0,0,false,[],())).1,(t0.getD (t7.toNat) (0,0,false,[],())).2.1,(t0.getD (t7.toNat) (0,0,false,[],())).2.2.1,(t0.getD (t7.toNat) (0,0,false,[],())).2.2.2.1,())]))else none)else none)))else none)
  (cond (!t6)
   (if(0:Int)≤t7∧t7<(t0.length:Int)then(
   cond (decide (((t0.getD (t7.toNat) (0,0,false,[],())).1)>AL))
    (if b1.length+1≤C7 then(
    let cZ:AAs:=b1++[(AL,AE,AY,DN,())]
    if(0:Int)≤t7∧t7<(t0.length:Int)then(
    if cZ.length+1≤C7 then(
    R4 t0 true (AS (t7+1)) AL AE AY DN (cZ++[((t0.getD (t7.toNat) (0,0,false,[],())).1,(t0.getD (t7.toNat) (0,0,false,[],())).2.1,(t0.getD (t7.toNat) (0,0,false,[],())).2.2.1,(t0.getD (t7.toNat) (0,0,false,[],())).2.2.2.1,())]))else none)else none)else none)
   (if(0:Int)≤t7∧t7<(t0.length:Int)then(
   if b1.length+1≤C7 then(
   R4 t0 t6 (AS (t7+1)) AL AE AY DN (b1++[((t0.getD (t7.toNat) (0,0,false,[],())).1,(t0.getD (t7.toNat) (0,0,false,[],())).2.1,(t0.getD (t7.toNat) (0,0,false,[],())).2.2.1,(t0.getD (t7.toNat) (0,0,false,[],())).2.2.2.1,())]))else none)else none))else none)
  (if(0:Int)≤t7∧t7<(t0.length:Int)then(
  if b1.length+1≤C7 then(
  R4 t0 t6 (AS (t7+1)) AL AE AY DN (b1++[((t0.getD (t7.toNat) (0,0,false,[],())).1,(t0.getD (t7.toNat) (0,0,false,[],())).2.1,(t0.getD (t7.toNat) (0,0,false,[],())).2.2.1,(t0.getD (t7.toNat) (0,0,false,[],())).2.2.2.1,())]))else none)else none)))
 (cond (!t6)
  (if b1.length+1≤C7 then(
  some (((),()),((b1++[(AL,AE,AY,DN,())]),())))else none)
 (some (((),()),(b1,()))))
def Jc:Nat→Xi
 |0=>fun _ _ _ _ _ _ _ _=>none
 |n+1=>TW (Jc n)
def Zn(R4:Xi)(p0:AAs)(p1:ACX):Option Un:=
 R4 p0 false 0 p1.1 p1.2.1 p1.2.2.1 p1.2.2.2.1 []
def RT(p0:AAs)(p1:ACX):Option Un:=Zn (Jc AX) p0 p1
abbrev OS:Type:=ADN×ACr
abbrev Q6:Type:=Int→Int→AAs→AAs→Int→Int→AAs→AAs→Int→AAs→AAs→Option OS
def Tq(R5:Q6)(t1 t7:Int)(AL AE:AAs)(AY DJ:Int)(b2 b3:AAs)(Mw:Int)(b5 b6:AAs):Option OS:=
 cond ((decide (t7<(AE.length:Int))))
  (if t7<0 then none else(
  cond (((dS .i64 (t1.fdiv (2^(min t7.toNat 64))) 1)==1))
   (if(0:Int)≤t7∧t7<(AE.length:Int)then(
   (RT b5 ((AE.getD (t7.toNat) (0,0,false,[],())).1,(AE.getD (t7.toNat) (0,0,false,[],())).2.1,(AE.getD (t7.toNat) (0,0,false,[],())).2.2.1,(AE.getD (t7.toNat) (0,0,false,[],())).2.2.2.1,())).bind fun u5=>
   R5 t1 (AS (t7+1)) AL AE AY DJ b2 b3 Mw u5.2.1 b6)else none)
  (R5 t1 (AS (t7+1)) AL AE AY DJ b2 b3 Mw b5 b6)))
 ((CG t1 0 1048575).bind fun u6=>
 cond (!u6.1.1)
  ((Ek (AL,AE,AY,())).bind fun u7=>
  some (((((),(),u7.1.1.2.2.1,()),false,()),()),(u7.2.1,u7.2.2.1,())))
 (cond ((decide ((b5.length:Int)>200)))
  ((Ek (AL,AE,AY,())).bind fun u9=>
  some (((((),(),u9.1.1.2.2.1,()),false,()),()),(u9.2.1,u9.2.2.1,())))
 (some (((((),(),Mw,()),true,()),()),(b5,b6,())))))
def Jx:Nat→Q6
 |0=>fun _ _ _ _ _ _ _ _ _ _ _=>none
 |n+1=>Tq (Jx n)
def T7(R5:Q6)(p0:ACD)(p1:Int):Option OS:=
 (Gw (p0.1,p0.2.1,p0.2.2.1,())).bind fun u1=>
 cond (!u1.1.1)
  (some (((((),(),0,()),false,()),()),([],[],())))
 (if 0+p0.1.length≤C7 then(
 R5 p1 0 p0.1 p0.2.1 p0.2.2.1 0 [] [] p0.2.2.1 p0.1 [])else none)
def NH(p0:ACD)(p1:Int):Option OS:=T7 (Jx AX) p0 p1
abbrev kp:Type:=ADN×ACr
def Jr(p0:ACD):Option kp:=
 (NH (p0.1,p0.2.1,p0.2.2.1,()) 1048575).bind fun u1=>
 some (((((),(),u1.1.1.1.2.2.1,()),u1.1.1.2.1,()),()),(u1.2.1,u1.2.2.1,()))
abbrev Gm:Type:=AFB×Unit
abbrev Z6:Type:=AAs→Int→Int→Int→Int→Bool→List UInt8→Option Gm
def ay(R2:Z6)(t0:AAs)(t1 t6 AL AE:Int)(AY:Bool)(DN:AB_):Option Gm:=
 cond ((decide (t6<(t0.length:Int))))
  (if(0:Int)≤t6∧t6<(t0.length:Int)then(
  cond (((t0.getD (t6.toNat) (0,0,false,[],())).1)==t1)
   (if(0:Int)≤t6∧t6<(t0.length:Int)then(
   some (((((t0.getD (t6.toNat) (0,0,false,[],())).1,(t0.getD (t6.toNat) (0,0,false,[],())).2.1,(t0.getD (t6.toNat) (0,0,false,[],())).2.2.1,(t0.getD (t6.toNat) (0,0,false,[],())).2.2.2.1,()),true,()),()),()))else none)
  (R2 t0 t1 (AS (t6+1)) AL AE AY DN))else none)
 (some ((((0,0,false,[],()),false,()),()),()))
def QU:Nat→Z6
 |0=>fun _ _ _ _ _ _ _=>none
 |n+1=>ay (QU n)
def al(R2:Z6)(p0:AAs)(p1:Int):Option Gm:=
 R2 p0 p1 0 0 0 false []
def HZ(p0:AAs)(p1:Int):Option Gm:=al (QU AX) p0 p1
abbrev GH:Type:=AFe×AD1
def Dr(p0:ABD)(p1:ACE)(p2 p3:Int):Option GH:=
 (Hk (p0.1,p0.2.1,()) (p1.1,p1.2.1,())).bind fun u1=>
 cond (!u1.1.1)
  (some ((((0,(),()),false,()),()),([],())))
 ((EO (p1.1,p1.2.1,())).bind fun u2=>
 (CG p2 1 (p1.2.1.length:Int)).bind fun u4=>
 cond (!u4.1.1)
  (some ((((u2.1.1.1,(),()),false,()),()),(u2.2.1,())))
 ((CG p3 0 (AS ((p0.1.length:Int)-1))).bind fun u6=>
 cond (!u6.1.1)
  (some ((((u2.1.1.1,(),()),false,()),()),(u2.2.1,())))
 (if(0:Int)≤AS (p2-1)∧AS (p2-1)<(p1.2.1.length:Int)then(
 cond (((p1.2.1.getD ((AS (p2-1)).toNat) ([],[],false,())).2.2.1))
  (some ((((u2.1.1.1,(),()),false,()),()),(u2.2.1,())))
 (if(0:Int)≤AS (p2-1)∧AS (p2-1)<(u2.2.1.length:Int)then(
 (Ig ((u2.2.1.getD ((AS (p2-1)).toNat) ([],[],false,())).2.1) p3).bind fun u8=>
 if(0:Int)≤AS (p2-1)∧AS (p2-1)<(u2.2.1.length:Int)then(
 let x9:AB3:=(u2.2.1.set ((AS (p2-1)).toNat) ((u2.2.1.getD ((AS (p2-1)).toNat) ([],[],false,())).1,u8.2.1,(u2.2.1.getD ((AS (p2-1)).toNat) ([],[],false,())).2.2.1,()))
 if(0:Int)≤AS (p2-1)∧AS (p2-1)<(x9.length:Int)then(
 (EX (p0.1,p0.2.1,()) ((x9.getD ((AS (p2-1)).toNat) ([],[],false,())).2.1)).bind fun Dd=>
 if(0:Int)≤AS (p2-1)∧AS (p2-1)<(x9.length:Int)then(
 some ((((u2.1.1.1,(),()),true,()),()),((x9.set ((AS (p2-1)).toNat) ((x9.getD ((AS (p2-1)).toNat) ([],[],false,())).1,(x9.getD ((AS (p2-1)).toNat) ([],[],false,())).2.1,Dd.1.1,())),())))else none)else none)else none)else none))else none)))
abbrev lD:Type:=AEY×Unit
def S3(p0 p1:Int):Option lD:=
 (CG p0 1 30).bind fun u1=>
 cond (!u1.1.1)
  (some (((0,false,()),()),()))
 ((CG p1 1 60).bind fun u2=>
 cond (!u2.1.1)
  (some (((0,false,()),()),()))
 (some (((AS ((AS (4294967296*p0))+p1),true,()),()),())))
abbrev GG:Type:=AFB×Unit
def Em(p0:ABU)(p1:Int):Option GG:=
 (S3 p0.2.1 p1).bind fun u1=>
 cond (!p0.2.2.2.2.1)
  (some ((((0,0,false,[],()),false,()),()),()))
 (cond (!u1.1.1.2.1)
  (some ((((0,0,false,[],()),false,()),()),()))
 (cond (decide (p1>(p0.2.2.2.2.2.1.length:Int)))
  (some ((((0,0,false,[],()),false,()),()),()))
 ((HZ p0.2.2.2.1 u1.1.1.1).bind fun u3=>
 cond (u3.1.1.2.1)
  (some ((((u1.1.1.1,p0.1,u3.1.1.1.2.2.1,u3.1.1.1.2.2.2.1,()),true,()),()),()))
 (some ((((u1.1.1.1,p0.1,true,[],()),true,()),()),())))))
abbrev Dn:Type:=AEA×ACu
def EZ(p0:ABD)(p1:ABU)(p2 p3:Int):Option Dn:=
 (JA (p0.1,p0.2.1,()) (p1.1,p1.2.1,p1.2.2.1,p1.2.2.2.1,p1.2.2.2.2.1,p1.2.2.2.2.2.1,())).bind fun u1=>
 cond (!u1.1.1)
  (some ((((0,0,(),(),false,(),()),false,()),()),([],[],[],())))
 ((ES (p1.1,p1.2.1,p1.2.2.1,p1.2.2.2.1,p1.2.2.2.2.1,p1.2.2.2.2.2.1,())).bind fun u2=>
 (CG p2 1 (p1.2.2.2.2.2.1.length:Int)).bind fun u4=>
 cond (!u4.1.1)
  (some ((((u2.1.1.1,u2.1.1.2.1,(),(),u2.1.1.2.2.2.2.1,(),()),false,()),()),(u2.2.1,u2.2.2.1,u2.2.2.2.1,())))
 ((CG p3 0 (AS ((p0.1.length:Int)-1))).bind fun u6=>
 cond (!u6.1.1)
  (some ((((u2.1.1.1,u2.1.1.2.1,(),(),u2.1.1.2.2.2.2.1,(),()),false,()),()),(u2.2.1,u2.2.2.1,u2.2.2.2.1,())))
 (if(0:Int)≤AS (p2-1)∧AS (p2-1)<(u2.2.2.2.1.length:Int)then(
 (Ig (u2.2.2.2.1.getD ((AS (p2-1)).toNat) []) p3).bind fun u7=>
 if(0:Int)≤AS (p2-1)∧AS (p2-1)<(u2.2.2.2.1.length:Int)then(
 some ((((u2.1.1.1,u2.1.1.2.1,(),(),u2.1.1.2.2.2.2.1,(),()),true,()),()),(u2.2.1,u2.2.2.1,(u2.2.2.2.1.set ((AS (p2-1)).toNat) u7.2.1),())))else none)else none)))
abbrev Bv:Type:=AE7×ACb
abbrev Ih:Type:=Int→Int→List Int→AAh→List Int→AAg→AAq→AA2→AA3→AAo→Int→Int→Bool→Int→Int→Bool→List Int→AAh→List Int→AAg→AAq→AA2→AA3→AAo→AAs→AAs→Int→Option Bv
abbrev Ie:Type:=Int→Int→Int→Int→Int→Bool→List Int→AAh→List Int→AAg→AAq→AA2→AA3→AAo→Int→Int→Bool→Int→Int→Bool→List Int→AAh→List Int→AAg→AAq→AA2→AA3→AAo→AAs→AAs→Int→Int→AB3→Option Bv
abbrev HW:Type:=Int→Int→Int→Int→Int→Bool→List Int→AAh→List Int→AAg→AAq→AA2→AA3→AAo→Int→Int→Bool→Int→Int→Bool→List Int→AAh→List Int→AAg→AAq→AA2→AA3→AAo→AAs→AAs→Int→Int→AB3→Option Bv
abbrev HP:Type:=Int→Int→List Int→AAh→List Int→AAg→AAq→AA2→AA3→AAo→Int→Int→Bool→Int→Int→Bool→List Int→AAh→List Int→AAg→AAq→AA2→AA3→AAo→AAs→AAs→Int→Option Bv
abbrev HV:Type:=Int→Int→Int→List Int→AAh→List Int→AAg→AAq→AA2→AA3→AAo→Int→Int→Bool→Int→Int→Bool→List Int→AAh→List Int→AAg→AAq→AA2→AA3→AAo→AAs→AAs→Int→Int→Int→List Int→AAs→Bool→List AAD→Option Bv
def M0(R3:Ih)(R8:Ie)(ic:HW)(R21:HP)(R25:HV)(t1 t6:Int)(b0:AAD)(b1:AAh)(b2:AAD)(b3:AAg)(b4:AAq)(b5:AA2)(b6:AA3)(b7:AAo)(Dc Dv:Int)(CJ:Bool)(Dw Fc:Int)(Cv:Bool)(NG:AAD)(Ef:AAh)(DI:AAD)(FU:AAg)(FZ:AAq)(De:AA2)(D4:AA3)(Ea:AAo)(Cc C3:AAs)(Cf:Int):Option Bv:=
 cond ((decide (t6<(b4.length:Int))))
  (if(0:Int)≤t6∧t6<(b4.length:Int)then(
  (CZ (b3,Dv,()) ((b4.getD (t6.toNat) (0,[],())).1)).bind fun u3=>
  (Cw u3.2.1 t1).bind fun u4=>
  cond (!u4.1.1)
   (R3 t1 (AS (t6+1)) b0 b1 b2 b3 b4 b5 b6 b7 Dc Dv CJ Dw Fc Cv NG Ef DI FU FZ De D4 Ea Cc C3 Cf)
  (let x5:Int:=(b4.getD (t6.toNat) (0,[],())).1
  cond (decide (Cf≥x5))
   (R3 t1 (AS (t6+1)) b0 b1 b2 b3 b4 b5 b6 b7 Dc Dv CJ Dw Fc Cv NG Ef DI FU FZ De D4 Ea Cc C3 Cf)
  (R8 t1 t6 1 Cf x5 (decide (Cf≥x5)) b0 b1 b2 b3 b4 b5 b6 b7 Dc Dv CJ Dw Fc Cv NG Ef DI FU FZ De D4 Ea Cc C3 Cf ((b4.getD (t6.toNat) (0,[],())).1) ((b4.getD (t6.toNat) (0,[],())).2.1))))else none)
 (R21 t1 0 b0 b1 b2 b3 b4 b5 b6 b7 Dc Dv CJ Dw Fc Cv NG Ef DI FU FZ De D4 Ea Cc C3 Cf)
def Mq(R3:Ih)(R8:Ie)(ic:HW)(R21:HP)(R25:HV)(t1 t6 t8 t47 t49:Int)(t50:Bool)(b0:AAD)(b1:AAh)(b2:AAD)(b3:AAg)(b4:AAq)(b5:AA2)(b6:AA3)(b7:AAo)(Dc Dv:Int)(CJ:Bool)(Dw Fc:Int)(Cv:Bool)(NG:AAD)(Ef:AAh)(DI:AAD)(FU:AAg)(FZ:AAq)(De:AA2)(D4:AA3)(Ea:AAo)(Cc C3:AAs)(Cf DW:Int)(Bw:AB3):Option Bv:=
 cond ((decide (t8≤(Bw.length:Int))))
  ((CY DW t8).bind fun u7=>
  (HZ Cc u7.1.1).bind fun u8=>
  cond (!u8.1.1.2.1)
   (R8 t1 t6 (AS (t8+1)) t47 t49 t50 b0 b1 b2 b3 b4 b5 b6 b7 Dc Dv CJ Dw Fc Cv NG Ef DI FU FZ De D4 Ea Cc C3 Cf DW Bw)
  (cond (u8.1.1.1.2.1 !=0)
   (R8 t1 t6 (AS (t8+1)) t47 t49 t50 b0 b1 b2 b3 b4 b5 b6 b7 Dc Dv CJ Dw Fc Cv NG Ef DI FU FZ De D4 Ea Cc C3 Cf DW Bw)
  (if(0:Int)≤AS (t8-1)∧AS (t8-1)<(Bw.length:Int)then(
  cond (((Bw.getD ((AS (t8-1)).toNat) ([],[],false,())).2.2.1))
   (R8 t1 t6 (AS (t8+1)) t47 t49 t50 b0 b1 b2 b3 b4 b5 b6 b7 Dc Dv CJ Dw Fc Cv NG Ef DI FU FZ De D4 Ea Cc C3 Cf DW Bw)
  ((Dr (b0,Dc,()) (DW,Bw,()) t8 t1).bind fun Dd=>
  R8 t1 t6 (AS (t8+1)) t47 t49 t50 b0 b1 b2 b3 b4 b5 b6 b7 Dc Dv CJ Dw Fc Cv NG Ef DI FU FZ De D4 Ea Cc C3 Cf Dd.1.1.1.1 Dd.2.1))else none)))
 (if(0:Int)≤t6∧t6<(b4.length:Int)then(
 ic t1 t6 0 t47 t49 t50 b0 b1 b2 b3 (b4.set (t6.toNat) (DW,Bw,())) b5 b6 b7 Dc Dv CJ Dw Fc Cv NG Ef DI FU FZ De D4 Ea Cc C3 Cf DW Bw)else none)
def Ld(R3:Ih)(R8:Ie)(ic:HW)(R21:HP)(R25:HV)(t1 t6 t11 t47 t49:Int)(t50:Bool)(b0:AAD)(b1:AAh)(b2:AAD)(b3:AAg)(b4:AAq)(b5:AA2)(b6:AA3)(b7:AAo)(Dc Dv:Int)(CJ:Bool)(Dw Fc:Int)(Cv:Bool)(NG:AAD)(Ef:AAh)(DI:AAD)(FU:AAg)(FZ:AAq)(De:AA2)(D4:AA3)(Ea:AAo)(Cc C3:AAs)(Cf DW:Int)(Bw:AB3):Option Bv:=
 cond ((decide (t11<(b7.length:Int))))
  (if(0:Int)≤t11∧t11<(b7.length:Int)then(
  let x65:Int:=(b7.getD (t11.toNat) (0,[],false,())).1
  (Cm x65).bind fun u66=>
  cond (u66.1.1==DW)
   ((HS x65).bind fun u67=>
   cond ((decide (u67.1.1≤(Bw.length:Int))))
    ((HS x65).bind fun u69=>
    if(0:Int)≤AS (u69.1.1-1)∧AS (u69.1.1-1)<(Bw.length:Int)then(
    cond (((Bw.getD ((AS (u69.1.1-1)).toNat) ([],[],false,())).2.2.1))
     (if(0:Int)≤t11∧t11<(b7.length:Int)then(
     ic t1 t6 (AS (t11+1)) t47 t49 t50 b0 b1 b2 b3 b4 b5 b6 (b7.set (t11.toNat) ((b7.getD (t11.toNat) (0,[],false,())).1,(b7.getD (t11.toNat) (0,[],false,())).2.1,true,())) Dc Dv CJ Dw Fc Cv NG Ef DI FU FZ De D4 Ea Cc C3 Cf DW Bw)else none)
    (ic t1 t6 (AS (t11+1)) t47 t49 t50 b0 b1 b2 b3 b4 b5 b6 b7 Dc Dv CJ Dw Fc Cv NG Ef DI FU FZ De D4 Ea Cc C3 Cf DW Bw))else none)
   (ic t1 t6 (AS (t11+1)) t47 t49 t50 b0 b1 b2 b3 b4 b5 b6 b7 Dc Dv CJ Dw Fc Cv NG Ef DI FU FZ De D4 Ea Cc C3 Cf DW Bw))
  (ic t1 t6 (AS (t11+1)) t47 t49 t50 b0 b1 b2 b3 b4 b5 b6 b7 Dc Dv CJ Dw Fc Cv NG Ef DI FU FZ De D4 Ea Cc C3 Cf DW Bw))else none)
 (R3 t1 (AS (t6+1)) b0 b1 b2 b3 b4 b5 b6 b7 Dc Dv CJ Dw Fc Cv NG Ef DI FU FZ De D4 Ea Cc C3 Cf)
def LX(R3:Ih)(R8:Ie)(ic:HW)(R21:HP)(R25:HV)(t1 t13:Int)(b0:AAD)(b1:AAh)(b2:AAD)(b3:AAg)(b4:AAq)(b5:AA2)(b6:AA3)(b7:AAo)(Dc Dv:Int)(CJ:Bool)(Dw Fc:Int)(Cv:Bool)(NG:AAD)(Ef:AAh)(DI:AAD)(FU:AAg)(FZ:AAq)(De:AA2)(D4:AA3)(Ea:AAo)(Cc C3:AAs)(Cf:Int):Option Bv:=
 cond ((decide (t13<(b5.length:Int))))
  (if(0:Int)≤t13∧t13<(b5.length:Int)then(
  R25 t1 t13 1 b0 b1 b2 b3 b4 b5 b6 b7 Dc Dv CJ Dw Fc Cv NG Ef DI FU FZ De D4 Ea Cc C3 Cf ((b5.getD (t13.toNat) (0,0,[],[],false,[],())).1) ((b5.getD (t13.toNat) (0,0,[],[],false,[],())).2.1) ((b5.getD (t13.toNat) (0,0,[],[],false,[],())).2.2.1) ((b5.getD (t13.toNat) (0,0,[],[],false,[],())).2.2.2.1) ((b5.getD (t13.toNat) (0,0,[],[],false,[],())).2.2.2.2.1) ((b5.getD (t13.toNat) (0,0,[],[],false,[],())).2.2.2.2.2.1))else none)
 (some ((((),Dc,(),(),(),Dv,(),(),(),(),CJ,()),()),(b0,b1,b2,b3,b4,b5,b6,b7,())))
def Ir(R3:Ih)(R8:Ie)(ic:HW)(R21:HP)(R25:HV)(t1 t13 t15:Int)(b0:AAD)(b1:AAh)(b2:AAD)(b3:AAg)(b4:AAq)(b5:AA2)(b6:AA3)(b7:AAo)(Dc Dv:Int)(CJ:Bool)(Dw Fc:Int)(Cv:Bool)(NG:AAD)(Ef:AAh)(DI:AAD)(FU:AAg)(FZ:AAq)(De:AA2)(D4:AA3)(Ea:AAo)(Cc C3:AAs)(Cf DW Bw:Int)(Vo:AAD)(Ve:AAs)(VK:Bool)(QR:List AAD):Option Bv:=
 if(0:Int)≤t13∧t13<(b5.length:Int)then(
 cond (decide (t15≤(((b5.getD (t13.toNat) (0,0,[],[],false,[],())).2.2.2.2.2.1).length:Int)))
  ((CZ (b3,Dv,()) Bw).bind fun u74=>
  (Cw u74.2.1 t1).bind fun u75=>
  cond (u75.1.1)
   ((Em (DW,Bw,Vo,Ve,VK,QR,()) t15).bind fun u76=>
   (HZ Cc u76.1.1.1.1).bind fun u77=>
   cond (u77.1.1.2.1)
    (cond (((u77.1.1.1.1==u76.1.1.1.1)&&((u77.1.1.1.2.1==u76.1.1.1.2.1)&&((u77.1.1.1.2.2.1==u76.1.1.1.2.2.1)&&((u77.1.1.1.2.2.2.1==u76.1.1.1.2.2.2.1)&&true)))))
     ((EZ (b0,Dc,()) (DW,Bw,Vo,Ve,VK,QR,()) t15 t1).bind fun u79=>
     R25 t1 t13 (AS (t15+1)) b0 b1 b2 b3 b4 b5 b6 b7 Dc Dv CJ Dw Fc Cv NG Ef DI FU FZ De D4 Ea Cc C3 Cf u79.1.1.1.1 u79.1.1.1.2.1 u79.2.1 u79.2.2.1 u79.1.1.1.2.2.2.2.1 u79.2.2.2.1)
    (R25 t1 t13 (AS (t15+1)) b0 b1 b2 b3 b4 b5 b6 b7 Dc Dv CJ Dw Fc Cv NG Ef DI FU FZ De D4 Ea Cc C3 Cf DW Bw Vo Ve VK QR))
   (R25 t1 t13 (AS (t15+1)) b0 b1 b2 b3 b4 b5 b6 b7 Dc Dv CJ Dw Fc Cv NG Ef DI FU FZ De D4 Ea Cc C3 Cf DW Bw Vo Ve VK QR))
  (if(0:Int)≤t13∧t13<(b5.length:Int)then(
  R21 t1 (AS (t13+1)) b0 b1 b2 b3 b4 (b5.set (t13.toNat) (DW,Bw,Vo,Ve,VK,QR,())) b6 b7 Dc Dv CJ Dw Fc Cv NG Ef DI FU FZ De D4 Ea Cc C3 Cf)else none))
 (if(0:Int)≤t13∧t13<(b5.length:Int)then(
 R21 t1 (AS (t13+1)) b0 b1 b2 b3 b4 (b5.set (t13.toNat) (DW,Bw,Vo,Ve,VK,QR,())) b6 b7 Dc Dv CJ Dw Fc Cv NG Ef DI FU FZ De D4 Ea Cc C3 Cf)else none))else none
mutual
def Ba:Nat→Ih
 |0=>fun _ _ _ _ _ _ _ _ _ _ _ _ _ _ _ _ _ _ _ _ _ _ _ _ _ _ _=>none
 |n+1=>M0 (Ba n) (A7 n) (A_ n) (Bc n) (BW n)
def A7:Nat→Ie
 |0=>fun _ _ _ _ _ _ _ _ _ _ _ _ _ _ _ _ _ _ _ _ _ _ _ _ _ _ _ _ _ _ _ _ _=>none
 |n+1=>Mq (Ba n) (A7 n) (A_ n) (Bc n) (BW n)
def A_:Nat→HW
 |0=>fun _ _ _ _ _ _ _ _ _ _ _ _ _ _ _ _ _ _ _ _ _ _ _ _ _ _ _ _ _ _ _ _ _=>none
 |n+1=>Ld (Ba n) (A7 n) (A_ n) (Bc n) (BW n)
def Bc:Nat→HP
 |0=>fun _ _ _ _ _ _ _ _ _ _ _ _ _ _ _ _ _ _ _ _ _ _ _ _ _ _ _=>none
 |n+1=>LX (Ba n) (A7 n) (A_ n) (Bc n) (BW n)
def BW:Nat→HV
 |0=>fun _ _ _ _ _ _ _ _ _ _ _ _ _ _ _ _ _ _ _ _ _ _ _ _ _ _ _ _ _ _ _ _ _ _=>none
 |n+1=>Ir (Ba n) (A7 n) (A_ n) (Bc n) (BW n)
end
def Qz(R3:Ih)(R8:Ie)(ic:HW)(R21:HP)(R25:HV)(CK CM:Int)(BO:Bool)(p1:Int)(b0:AAD)(b1:AAh)(b2:AAD)(b3:AAg)(b4:AAq)(b5:AA2)(b6:AA3)(b7:AAo):Option Bv:=
 if(0:Int)≤p1∧p1<(b1.length:Int)then(
 R3 p1 0 b0 b1 b2 b3 b4 b5 b6 b7 CK CM BO 0 0 false [] [] [] [] [] [] [] [] ((b1.getD (p1.toNat) ([],[],0,())).1) ((b1.getD (p1.toNat) ([],[],0,())).2.1) ((b1.getD (p1.toNat) ([],[],0,())).2.2.1))else none
def XE(CK CM:Int)(BO:Bool)(p1:Int)(b0:AAD)(b1:AAh)(b2:AAD)(b3:AAg)(b4:AAq)(b5:AA2)(b6:AA3)(b7:AAo):Option Bv:=Qz (Ba AX) (A7 AX) (A_ AX) (Bc AX) (BW AX) CK CM BO p1 b0 b1 b2 b3 b4 b5 b6 b7
abbrev o0:Type:=ACa×ACb
def XG(CK CM:Int)(BO:Bool)(p1:ACS)(b0:AAD)(b1:AAh)(b2:AAD)(b3:AAg)(b4:AAq)(b5:AA2)(b6:AA3)(b7:AAo):Option o0:=
 (Hm (b0,CK,b1,b2,b3,CM,b4,b5,b6,b7,BO,()) p1.2.1).bind fun u1=>
 cond (u1.1.1 !=0)
  (some (((((),CK,(),(),(),CM,(),(),(),(),BO,()),u1.1.1,()),()),(b0,b1,b2,b3,b4,b5,b6,b7,())))
 (if(0:Int)≤p1.2.1∧p1.2.1<(b1.length:Int)then(
 (Jr ((b1.getD (p1.2.1.toNat) ([],[],0,())).1,(b1.getD (p1.2.1.toNat) ([],[],0,())).2.1,(b1.getD (p1.2.1.toNat) ([],[],0,())).2.2.1,())).bind fun u2=>
 cond (!u2.1.1.2.1)
  (some (((((),CK,(),(),(),CM,(),(),(),(),BO,()),4,()),()),(b0,b1,b2,b3,b4,b5,b6,b7,())))
 (if(0:Int)≤p1.2.1∧p1.2.1<(b1.length:Int)then(
 (XE CK CM BO p1.2.1 b0 (b1.set (p1.2.1.toNat) (u2.2.1,u2.2.2.1,u2.1.1.1.2.2.1,())) b2 b3 b4 b5 b6 b7).bind fun u4=>
 some (((((),u4.1.1.2.1,(),(),(),u4.1.1.2.2.2.2.2.1,(),(),(),(),u4.1.1.2.2.2.2.2.2.2.2.2.2.1,()),0,()),()),(u4.2.1,u4.2.2.1,u4.2.2.2.1,u4.2.2.2.2.1,u4.2.2.2.2.2.1,u4.2.2.2.2.2.2.1,u4.2.2.2.2.2.2.2.1,u4.2.2.2.2.2.2.2.2.1,())))else none))else none)
abbrev U1:Type:=ACP×ACQ
abbrev Xn:Type:=List Int→List Int→Int→List Int→Option U1
def ZM(R3:Xn)(t0 t1:AAD)(t6:Int)(b0:AAD):Option U1:=
 cond ((decide (t6<(t0.length:Int))))
  (if(0:Int)≤t6∧t6<(t0.length:Int)then(
  (Cw t1 (t0.getD (t6.toNat) 0)).bind fun u3=>
  cond (!u3.1.1)
   (if(0:Int)≤t6∧t6<(t0.length:Int)then(
   if b0.length+1≤C7 then(
   R3 t0 t1 (AS (t6+1)) (b0++[(t0.getD (t6.toNat) 0)]))else none)else none)
  (R3 t0 t1 (AS (t6+1)) b0))else none)
 (some (((),()),(b0,())))
def O9:Nat→Xn
 |0=>fun _ _ _ _=>none
 |n+1=>ZM (O9 n)
def Zd(R3:Xn)(p0 p1:AAD):Option U1:=
 R3 p0 p1 0 []
def JG(p0 p1:AAD):Option U1:=Zd (O9 AX) p0 p1
abbrev La:Type:=AFe×AD1
abbrev Oz:Type:=Int→Int→Int→AB3→Int→AB3→Option La
def SC(R5:Oz)(t2 t9 AL:Int)(b1:AB3)(I2:Int)(b3:AB3):Option La:=
 cond ((decide (t9<(b3.length:Int))))
  (if(0:Int)≤t9∧t9<(b3.length:Int)then(
  cond (!((b3.getD (t9.toNat) ([],[],false,())).2.2.1))
   (if(0:Int)≤t9∧t9<(b3.length:Int)then(
   (JG ((b3.getD (t9.toNat) ([],[],false,())).2.1) [t2]).bind fun u5=>
   if(0:Int)≤t9∧t9<(b3.length:Int)then(
   R5 t2 (AS (t9+1)) AL b1 I2 (b3.set (t9.toNat) ((b3.getD (t9.toNat) ([],[],false,())).1,u5.2.1,(b3.getD (t9.toNat) ([],[],false,())).2.2.1,())))else none)else none)
  (R5 t2 (AS (t9+1)) AL b1 I2 b3))else none)
 (some ((((I2,(),()),true,()),()),(b3,())))
def IB:Nat→Oz
 |0=>fun _ _ _ _ _ _=>none
 |n+1=>SC (IB n)
def Rw(R5:Oz)(p0:ABD)(p1:ACE)(p2:Int):Option La:=
 (Hk (p0.1,p0.2.1,()) (p1.1,p1.2.1,())).bind fun u1=>
 cond (!u1.1.1)
  (some ((((0,(),()),false,()),()),([],())))
 ((EO (p1.1,p1.2.1,())).bind fun u2=>
 R5 p2 0 0 [] u2.1.1.1 u2.2.1)
def OL(p0:ABD)(p1:ACE)(p2:Int):Option La:=Rw (IB AX) p0 p1 p2
abbrev OY:Type:=AEA×ACu
abbrev RF:Type:=Int→Int→Int→Int→Bool→List Int→AAs→List AAD→Int→Int→Bool→List Int→AAs→List AAD→Option OY
def T6(R5:RF)(t2 t9 AL AE:Int)(EV:Bool)(b1:AAD)(b2:AAs)(b3:List AAD)(kC fS:Int)(vG:Bool)(b5:AAD)(b6:AAs)(b7:List AAD):Option OY:=
 cond ((decide (t9<(b7.length:Int))))
  (if(0:Int)≤t9∧t9<(b7.length:Int)then(
  (JG (b7.getD (t9.toNat) []) [t2]).bind fun u4=>
  if(0:Int)≤t9∧t9<(b7.length:Int)then(
  R5 t2 (AS (t9+1)) AL AE EV b1 b2 b3 kC fS vG b5 b6 (b7.set (t9.toNat) u4.2.1))else none)else none)
 (some ((((kC,fS,(),(),vG,(),()),true,()),()),(b5,b6,b7,())))
def Jf:Nat→RF
 |0=>fun _ _ _ _ _ _ _ _ _ _ _ _ _ _=>none
 |n+1=>T6 (Jf n)
def Tw(R5:RF)(p0:ABD)(p1:ABU)(p2:Int):Option OY:=
 (JA (p0.1,p0.2.1,()) (p1.1,p1.2.1,p1.2.2.1,p1.2.2.2.1,p1.2.2.2.2.1,p1.2.2.2.2.2.1,())).bind fun u1=>
 cond (!u1.1.1)
  (some ((((0,0,(),(),false,(),()),false,()),()),([],[],[],())))
 ((ES (p1.1,p1.2.1,p1.2.2.1,p1.2.2.2.1,p1.2.2.2.2.1,p1.2.2.2.2.2.1,())).bind fun u2=>
 R5 p2 0 0 0 false [] [] [] u2.1.1.1 u2.1.1.2.1 u2.1.1.2.2.2.2.1 u2.2.1 u2.2.2.1 u2.2.2.2.1)
def Qq(p0:ABD)(p1:ABU)(p2:Int):Option OY:=Tw (Jf AX) p0 p1 p2
abbrev Jd:Type:=ACa×AK4
abbrev Qx:Type:=Int→List Int→AAh→List Int→AAg→AAq→AA2→AA3→AAo→Int→Int→Bool→List Int→Int→Int→Int→Int→List UInt8→Int→Int→Bool→List Int→AAh→List Int→AAg→AAq→AA2→AA3→AAo→Option Jd
abbrev Pd:Type:=Int→List Int→AAh→List Int→AAg→AAq→AA2→AA3→AAo→Int→Int→Bool→List Int→Int→Int→Int→Int→List UInt8→Int→Int→Bool→List Int→AAh→List Int→AAg→AAq→AA2→AA3→AAo→Option Jd
def YY(R7:Qx)(sX:Pd)(t7:Int)(b0:AAD)(b1:AAh)(b2:AAD)(b3:AAg)(b4:AAq)(b5:AA2)(b6:AA3)(b7:AAo)(Dc Dv:Int)(CJ:Bool)(b9:AAD)(pO Cb o3 qS:Int)(oN:AB_)(z7 AAK:Int)(uf:Bool)(DI:AAD)(FU:AAh)(FZ:AAD)(De:AAg)(D4:AAq)(Ea:AA2)(Od:AA3)(tp:AAo):Option Jd:=
 cond ((decide (t7<(b4.length:Int))))
  (if(0:Int)≤t7∧t7<(b4.length:Int)then(
  (OL (b0,Dc,()) ((b4.getD (t7.toNat) (0,[],())).1,(b4.getD (t7.toNat) (0,[],())).2.1,()) Cb).bind fun u5=>
  if(0:Int)≤t7∧t7<(b4.length:Int)then(
  R7 (AS (t7+1)) b0 b1 b2 b3 (b4.set (t7.toNat) (u5.1.1.1.1,u5.2.1,())) b5 b6 b7 Dc Dv CJ b9 pO Cb o3 qS oN z7 AAK uf DI FU FZ De D4 Ea Od tp)else none)else none)
 (sX 0 b0 b1 b2 b3 b4 b5 b6 b7 Dc Dv CJ b9 pO Cb o3 qS oN z7 AAK uf DI FU FZ De D4 Ea Od tp)
def WU(R7:Qx)(sX:Pd)(t8:Int)(b0:AAD)(b1:AAh)(b2:AAD)(b3:AAg)(b4:AAq)(b5:AA2)(b6:AA3)(b7:AAo)(Dc Dv:Int)(CJ:Bool)(b9:AAD)(pO Cb o3 qS:Int)(oN:AB_)(z7 AAK:Int)(uf:Bool)(DI:AAD)(FU:AAh)(FZ:AAD)(De:AAg)(D4:AAq)(Ea:AA2)(Od:AA3)(tp:AAo):Option Jd:=
 cond ((decide (t8<(b5.length:Int))))
  (if(0:Int)≤t8∧t8<(b5.length:Int)then(
  (Qq (b0,Dc,()) ((b5.getD (t8.toNat) (0,0,[],[],false,[],())).1,(b5.getD (t8.toNat) (0,0,[],[],false,[],())).2.1,(b5.getD (t8.toNat) (0,0,[],[],false,[],())).2.2.1,(b5.getD (t8.toNat) (0,0,[],[],false,[],())).2.2.2.1,(b5.getD (t8.toNat) (0,0,[],[],false,[],())).2.2.2.2.1,(b5.getD (t8.toNat) (0,0,[],[],false,[],())).2.2.2.2.2.1,()) Cb).bind fun u8=>
  if(0:Int)≤t8∧t8<(b5.length:Int)then(
  sX (AS (t8+1)) b0 b1 b2 b3 b4 (b5.set (t8.toNat) (u8.1.1.1.1,u8.1.1.1.2.1,u8.2.1,u8.2.2.1,u8.1.1.1.2.2.2.2.1,u8.2.2.2.1,())) b6 b7 Dc Dv CJ b9 pO Cb o3 qS oN z7 AAK uf DI FU FZ De D4 Ea Od tp)else none)else none)
 (cond (CJ)
  (some (((((),Dc,(),(),(),Dv,(),(),(),(),true,()),0,()),()),(b0,b1,(),b3,b4,b5,b6,b7,b9,())))
 ((EX (b0,Dc,()) b9).bind fun Dd=>
 some (((((),Dc,(),(),(),Dv,(),(),(),(),Dd.1.1,()),0,()),()),(b0,b1,(),b3,b4,b5,b6,b7,b9,()))))
mutual
def KP:Nat→Qx
 |0=>fun _ _ _ _ _ _ _ _ _ _ _ _ _ _ _ _ _ _ _ _ _ _ _ _ _ _ _ _ _=>none
 |n+1=>YY (KP n) (JZ n)
def JZ:Nat→Pd
 |0=>fun _ _ _ _ _ _ _ _ _ _ _ _ _ _ _ _ _ _ _ _ _ _ _ _ _ _ _ _ _=>none
 |n+1=>WU (KP n) (JZ n)
end
def YQ(R7:Qx)(sX:Pd)(CK CM:Int)(BO:Bool)(p1:ACS)(b0:AAD)(b1:AAh)(b2:AAD)(b3:AAg)(b4:AAq)(b5:AA2)(b6:AA3)(b7:AAo):Option Jd:=
 (Hm (b0,CK,b1,b2,b3,CM,b4,b5,b6,b7,BO,()) p1.2.1).bind fun u1=>
 cond (u1.1.1 !=0)
  (some (((((),CK,(),(),(),CM,(),(),(),(),BO,()),u1.1.1,()),()),(b0,b1,(),b3,b4,b5,b6,b7,b2,())))
 (if(0:Int)≤p1.2.1∧p1.2.1<(b1.length:Int)then(
 (Ig b2 p1.2.1).bind fun u3=>
 R7 0 b0 (b1.set (p1.2.1.toNat) ([],[],0,())) b2 b3 b4 b5 b6 b7 CK CM BO u3.2.1 p1.1 p1.2.1 p1.2.2.1 p1.2.2.2.1 p1.2.2.2.2.1 0 0 false [] [] [] [] [] [] [] [])else none)
def W7(CK CM:Int)(BO:Bool)(p1:ACS)(b0:AAD)(b1:AAh)(b2:AAD)(b3:AAg)(b4:AAq)(b5:AA2)(b6:AA3)(b7:AAo):Option Jd:=YQ (KP AX) (JZ AX) CK CM BO p1 b0 b1 b2 b3 b4 b5 b6 b7
abbrev rK:Type:=ABV×Unit
def Yr(p0:ABD)(p1:AAD):Option rK:=
 (Gi (p0.1,p0.2.1,()) p1).bind fun u1=>
 cond (u1.1.1)
  ((EX (p0.1,p0.2.1,()) p1).bind fun u2=>
  some ((!u2.1.1,()),()))
 (some ((false,()),()))
abbrev KS:Type:=ACP×AEa
abbrev Ph:Type:=AAh→Int→AAs→Option KS
abbrev P0:Type:=AAh→Int→Int→AAs→Option KS
def WW(R3:Ph)(R6:P0)(t0:AAh)(t4:Int)(b0:AAs):Option KS:=
 cond ((decide (t4<(t0.length:Int))))
  (R6 t0 t4 0 b0)
 (some (((),()),(b0,())))
def WS(R3:Ph)(R6:P0)(t0:AAh)(t4 t5:Int)(b0:AAs):Option KS:=
 if(0:Int)≤t4∧t4<(t0.length:Int)then(
 cond (decide (t5<(((t0.getD (t4.toNat) ([],[],0,())).1).length:Int)))
  (if(0:Int)≤t4∧t4<(t0.length:Int)then(
  if(0:Int)≤t5∧t5<(((t0.getD (t4.toNat) ([],[],0,())).1).length:Int)then(
  (RT b0 ((((t0.getD (t4.toNat) ([],[],0,())).1).getD (t5.toNat) (0,0,false,[],())).1,(((t0.getD (t4.toNat) ([],[],0,())).1).getD (t5.toNat) (0,0,false,[],())).2.1,(((t0.getD (t4.toNat) ([],[],0,())).1).getD (t5.toNat) (0,0,false,[],())).2.2.1,(((t0.getD (t4.toNat) ([],[],0,())).1).getD (t5.toNat) (0,0,false,[],())).2.2.2.1,())).bind fun u3=>
  R6 t0 t4 (AS (t5+1)) u3.2.1)else none)else none)
 (R3 t0 (AS (t4+1)) b0))else none
mutual
def JV:Nat→Ph
 |0=>fun _ _ _=>none
 |n+1=>WW (JV n) (JT n)
def JT:Nat→P0
 |0=>fun _ _ _ _=>none
 |n+1=>WS (JV n) (JT n)
end
def fb(R3:Ph)(R6:P0)(p0:AAh):Option KS:=
 R3 p0 0 []
def aC(p0:AAh):Option KS:=fb (JV AX) (JT AX) p0
abbrev On:Type:=ADN×ALH
abbrev XB:Type:=List Int→Int→Int→AAh→Int→AAs→AAs→Int→AAs→AAs→AAh→Option On
abbrev U3:Type:=Int→Int→AAh→Int→AAs→AAs→Int→AAs→AAs→AAh→Option On
def dA(R6:XB)(sX:U3)(t2:AAD)(t4 t14:Int)(b0:AAh)(DJ:Int)(b2 b3:AAs)(Mw:Int)(b5 b6:AAs)(b7:AAh):Option On:=
 cond ((decide (t14<(b0.length:Int))))
  ((Cw t2 t14).bind fun u6=>
  cond (!u6.1.1)
   (if(0:Int)≤t14∧t14<(b0.length:Int)then(
   if b7.length+1≤C7 then(
   R6 t2 t4 (AS (t14+1)) b0 DJ b2 b3 Mw b5 b6 (b7++[((b0.getD (t14.toNat) ([],[],0,())).1,(b0.getD (t14.toNat) ([],[],0,())).2.1,(b0.getD (t14.toNat) ([],[],0,())).2.2.1,())]))else none)else none)
  (R6 t2 t4 (AS (t14+1)) b0 DJ b2 b3 Mw b5 b6 b7))
 (sX t4 0 b0 DJ b2 b3 Mw b5 b6 b7)
def bK(R6:XB)(sX:U3)(t4 t15:Int)(b0:AAh)(DJ:Int)(b2 b3:AAs)(Mw:Int)(b5 b6:AAs)(b7:AAh):Option On:=
 cond ((decide (t15<(b7.length:Int))))
  (if(0:Int)≤t15∧t15<(b7.length:Int)then(
  (Gw ((b7.getD (t15.toNat) ([],[],0,())).1,(b7.getD (t15.toNat) ([],[],0,())).2.1,(b7.getD (t15.toNat) ([],[],0,())).2.2.1,())).bind fun u9=>
  cond (!u9.1.1)
   (some (((((),(),Mw,()),false,()),()),(b0,b5,b6,())))
  (sX t4 (AS (t15+1)) b0 DJ b2 b3 Mw b5 b6 b7))else none)
 ((aC b7).bind fun Dd=>
 (Gw (Dd.2.1,[],t4,())).bind fun LR=>
 cond (!LR.1.1)
  (some (((((),(),Mw,()),false,()),()),(b0,b5,b6,())))
 (some (((((),(),t4,()),true,()),()),(b0,Dd.2.1,[],()))))
mutual
def Pn:Nat→XB
 |0=>fun _ _ _ _ _ _ _ _ _ _ _=>none
 |n+1=>dA (Pn n) (Na n)
def Na:Nat→U3
 |0=>fun _ _ _ _ _ _ _ _ _ _=>none
 |n+1=>bK (Pn n) (Na n)
end
def cx(R6:XB)(sX:U3)(p0:ABD)(p2:AAD)(p3 p4:Int)(b0:AAh):Option On:=
 (Gd (p0.1,p0.2.1,())).bind fun u1=>
 cond (!u1.1.1)
  (some (((((),(),0,()),false,()),()),(b0,[],[],())))
 (cond (((b0.length:Int) !=(p0.1.length:Int)))
  (some (((((),(),0,()),false,()),()),(b0,[],[],())))
 ((Yr (p0.1,p0.2.1,()) p2).bind fun u3=>
 cond (!u3.1.1)
  (some (((((),(),0,()),false,()),()),(b0,[],[],())))
 ((Cw p2 p3).bind fun u4=>
 cond (!u4.1.1)
  (some (((((),(),0,()),false,()),()),(b0,[],[],())))
 (R6 p2 p4 0 b0 0 [] [] 0 [] [] []))))
def fH(p0:ABD)(p2:AAD)(p3 p4:Int)(b0:AAh):Option On:=cx (Pn AX) (Na AX) p0 p2 p3 p4 b0
abbrev oO:Type:=ACa×AK4
def XU(CK CM:Int)(BO:Bool)(p1:ACS)(b0:AAD)(b1:AAh)(b2:AAD)(b3:AAg)(b4:AAq)(b5:AA2)(b6:AA3)(b7:AAo):Option oO:=
 (Cw b2 p1.2.1).bind fun u1=>
 cond (!u1.1.1)
  (some (((((),CK,(),(),(),CM,(),(),(),(),BO,()),2,()),()),(b0,b1,(),b3,b4,b5,b6,b7,b2,())))
 ((FQ (AS ((b3.length:Int)-1)) 0).bind fun u3=>
 (fH (b0,CK,()) b2 p1.2.1 u3.1.1 b1).bind fun u4=>
 cond (!u4.1.1.2.1)
  (some (((((),CK,(),(),(),CM,(),(),(),(),BO,()),4,()),()),(b0,u4.2.1,(),b3,b4,b5,b6,b7,b2,())))
 (if(0:Int)≤p1.2.1∧p1.2.1<(u4.2.1.length:Int)then(
 (JG b2 [p1.2.1]).bind fun u6=>
 some (((((),CK,(),(),(),CM,(),(),(),(),BO,()),0,()),()),(b0,(u4.2.1.set (p1.2.1.toNat) (u4.2.2.1,u4.2.2.2.1,u4.1.1.1.2.2.1,())),(),b3,b4,b5,b6,b7,u6.2.1,())))else none))
abbrev L6:Type:=AD4×ACu
def ND(p0 p1:Int):Option L6:=
 some (((p1,p0,(),(),false,(),()),()),([],[],[],()))
abbrev eR:Type:=ACa×(List Int×AAh×List Int×AAg×AAq×Unit×AA3×AAo×AA2×Unit)
def XJ(CK CM:Int)(BO:Bool)(b0:AAD)(b1:AAh)(b2:AAD)(b3:AAg)(b4:AAq)(b5:AA2)(b6:AA3)(b7:AAo):Option eR:=
 (J4 (b3,CM,())).bind fun u1=>
 cond ((decide ((b3.length:Int)<2)))
  (some (((((),CK,(),(),(),CM,(),(),(),(),BO,()),2,()),()),(b0,b1,b2,b3,b4,(),b6,b7,b5,())))
 (cond ((u1.1.1==(b3.length:Int)))
  (some (((((),CK,(),(),(),CM,(),(),(),(),BO,()),2,()),()),(b0,b1,b2,b3,b4,(),b6,b7,b5,())))
 (cond ((decide ((b5.length:Int)>0)))
  (some (((((),CK,(),(),(),CM,(),(),(),(),BO,()),4,()),()),(b0,b1,b2,b3,b4,(),b6,b7,b5,())))
 ((ND u1.1.1 (b3.length:Int)).bind fun u5=>
 some (((((),CK,(),(),(),CM,(),(),(),(),BO,()),0,()),()),(b0,b1,b2,b3,b4,(),b6,b7,[(u5.1.1.1,u5.1.1.2.1,u5.2.1,u5.2.2.1,u5.1.1.2.2.2.2.1,u5.2.2.2.1,())],())))))
abbrev lU:Type:=ADN×ACr
def Oi(p0:ACD)(p1:Int):Option lU:=
 (Gw (p0.1,p0.2.1,p0.2.2.1,())).bind fun u1=>
 cond (!u1.1.1)
  (some (((((),(),0,()),false,()),()),([],[],())))
 ((Jr (p0.1,p0.2.1,p0.2.2.1,())).bind fun u2=>
 cond (!u2.1.1.2.1)
  ((Ek (p0.1,p0.2.1,p0.2.2.1,())).bind fun u3=>
  some (((((),(),u3.1.1.2.2.1,()),false,()),()),(u3.2.1,u3.2.2.1,())))
 ((CG p1 0 30).bind fun u4=>
 cond (!u4.1.1)
  ((Ek (p0.1,p0.2.1,p0.2.2.1,())).bind fun u5=>
  some (((((),(),u5.1.1.2.2.1,()),false,()),()),(u5.2.1,u5.2.2.1,())))
 ((FQ u2.1.1.1.2.2.1 p1).bind fun u6=>
 some (((((),(),u6.1.1,()),true,()),()),(u2.2.1,u2.2.2.1,())))))
abbrev Fp:Type:=ACP×AEa
abbrev UK:Type:=Int→Int→AAs→AAs→Int→AAs→Option Fp
def QH(R3:UK)(t1 t6:Int)(AL AE:AAs)(AY:Int)(b1:AAs):Option Fp:=
 cond ((decide (t6<(AL.length:Int))))
  ((Gw (AL,AE,AY,())).bind fun u2=>
  cond (u2.1.1)
   (if(0:Int)≤t6∧t6<(AL.length:Int)then(
   (Cm ((AL.getD (t6.toNat) (0,0,false,[],())).1)).bind fun u4=>
   cond (u4.1.1==t1)
    (if(0:Int)≤t6∧t6<(AL.length:Int)then(
    if b1.length+1≤C7 then(
    R3 t1 (AS (t6+1)) AL AE AY (b1++[((AL.getD (t6.toNat) (0,0,false,[],())).1,(AL.getD (t6.toNat) (0,0,false,[],())).2.1,(AL.getD (t6.toNat) (0,0,false,[],())).2.2.1,(AL.getD (t6.toNat) (0,0,false,[],())).2.2.2.1,())]))else none)else none)
   (R3 t1 (AS (t6+1)) AL AE AY b1))else none)
  (some (((),()),(b1,()))))
 (some (((),()),(b1,())))
def JP:Nat→UK
 |0=>fun _ _ _ _ _ _=>none
 |n+1=>QH (JP n)
def WK(R3:UK)(p0:ACD)(p1:Int):Option Fp:=
 R3 p1 0 p0.1 p0.2.1 p0.2.2.1 []
def JE(p0:ACD)(p1:Int):Option Fp:=WK (JP AX) p0 p1
abbrev Fo:Type:=AEA×ACu
abbrev Ud:Type:=AAs→Int→List Int→Int→Int→Int→List Int→AAs→Bool→List AAD→Int→Int→Bool→List Int→AAs→List AAD→Int→Int→Bool→List Int→AAs→List AAD→Option Fo
def WQ(R6:Ud)(t3:AAs)(t11:Int)(AL:AAD)(AE BD Ap:Int)(DJ:AAD)(G7:AAs)(NF:Bool)(DT:List AAD)(I2 LM:Int)(QE:Bool)(b3:AAD)(b4:AAs)(b5:List AAD)(LS KI:Int)(LP:Bool)(b7:AAD)(b8:AAs)(b9:List AAD):Option Fo:=
 cond ((decide (t11<(t3.length:Int))))
  (if(0:Int)≤t11∧t11<(t3.length:Int)then(
  (Cm ((t3.getD (t11.toNat) (0,0,false,[],())).1)).bind fun u6=>
  cond (u6.1.1==Ap)
   (if(0:Int)≤t11∧t11<(t3.length:Int)then(
   (RT b8 ((t3.getD (t11.toNat) (0,0,false,[],())).1,(t3.getD (t11.toNat) (0,0,false,[],())).2.1,(t3.getD (t11.toNat) (0,0,false,[],())).2.2.1,(t3.getD (t11.toNat) (0,0,false,[],())).2.2.2.1,())).bind fun u7=>
   R6 t3 (AS (t11+1)) AL AE BD Ap DJ G7 NF DT I2 LM QE b3 b4 b5 LS KI LP b7 u7.2.1 b9)else none)
  (R6 t3 (AS (t11+1)) AL AE BD Ap DJ G7 NF DT I2 LM QE b3 b4 b5 LS KI LP b7 b8 b9))else none)
 (cond (NF)
  ((ES (BD,Ap,DJ,G7,NF,DT,())).bind fun u8=>
  some ((((u8.1.1.1,u8.1.1.2.1,(),(),u8.1.1.2.2.2.2.1,(),()),false,()),()),(u8.2.1,u8.2.2.1,u8.2.2.2.1,())))
 ((JA (AL,AE,()) (LS,KI,b7,b8,LP,b9,())).bind fun u9=>
 cond (!u9.1.1)
  ((ES (BD,Ap,DJ,G7,NF,DT,())).bind fun Dd=>
  some ((((Dd.1.1.1,Dd.1.1.2.1,(),(),Dd.1.1.2.2.2.2.1,(),()),false,()),()),(Dd.2.1,Dd.2.2.1,Dd.2.2.2.1,())))
 (some ((((LS,KI,(),(),LP,(),()),true,()),()),(b7,b8,b9,())))))
def MW:Nat→Ud
 |0=>fun _ _ _ _ _ _ _ _ _ _ _ _ _ _ _ _ _ _ _ _ _ _=>none
 |n+1=>WQ (MW n)
def We(R6:Ud)(p0:ABD)(p1:ABU)(p2:Int)(p3:AAs):Option Fo:=
 (JA (p0.1,p0.2.1,()) (p1.1,p1.2.1,p1.2.2.1,p1.2.2.2.1,p1.2.2.2.2.1,p1.2.2.2.2.2.1,())).bind fun u1=>
 cond (!u1.1.1)
  (some ((((0,0,(),(),false,(),()),false,()),()),([],[],[],())))
 ((ES (p1.1,p1.2.1,p1.2.2.1,p1.2.2.2.1,p1.2.2.2.2.1,p1.2.2.2.2.2.1,())).bind fun u2=>
 (Ig u2.2.1 p2).bind fun u3=>
 R6 p3 0 p0.1 p0.2.1 p1.1 p1.2.1 p1.2.2.1 p1.2.2.2.1 p1.2.2.2.2.1 p1.2.2.2.2.2.1 0 0 false [] [] [] u2.1.1.1 u2.1.1.2.1 u2.1.1.2.2.2.2.1 u3.2.1 u2.2.2.1 u2.2.2.2.1)
def JL(p0:ABD)(p1:ABU)(p2:Int)(p3:AAs):Option Fo:=We (MW AX) p0 p1 p2 p3
abbrev o7:Type:=ACa×ACb
def XW(CK CM:Int)(BO:Bool)(p1:ACS)(b0:AAD)(b1:AAh)(b2:AAD)(b3:AAg)(b4:AAq)(b5:AA2)(b6:AA3)(b7:AAo):Option o7:=
 cond (((b5.length:Int)==0))
  (some (((((),CK,(),(),(),CM,(),(),(),(),BO,()),2,()),()),(b0,b1,b2,b3,b4,b5,b6,b7,())))
 (if(0:Int)≤(0:Int)∧(0:Int)<(b5.length:Int)then(
 (Hm (b0,CK,b1,b2,b3,CM,b4,b5,b6,b7,BO,()) p1.2.1).bind fun u2=>
 cond (u2.1.1 !=0)
  (some (((((),CK,(),(),(),CM,(),(),(),(),BO,()),u2.1.1,()),()),(b0,b1,b2,b3,b4,b5,b6,b7,())))
 ((CZ (b3,CM,()) ((b5.getD 0 (0,0,[],[],false,[],())).2.1)).bind fun u4=>
 (Cw u4.2.1 p1.2.1).bind fun u5=>
 cond (!u5.1.1)
  (some (((((),CK,(),(),(),CM,(),(),(),(),BO,()),2,()),()),(b0,b1,b2,b3,b4,b5,b6,b7,())))
 (if(0:Int)≤p1.2.1∧p1.2.1<(b1.length:Int)then(
 (Oi ((b1.getD (p1.2.1.toNat) ([],[],0,())).1,(b1.getD (p1.2.1.toNat) ([],[],0,())).2.1,(b1.getD (p1.2.1.toNat) ([],[],0,())).2.2.1,()) (AS (((b5.getD 0 (0,0,[],[],false,[],())).1)-1))).bind fun u7=>
 (JE (u7.2.1,u7.2.2.1,u7.1.1.1.2.2.1,()) ((b5.getD 0 (0,0,[],[],false,[],())).2.1)).bind fun u9=>
 (JL (b0,CK,()) ((b5.getD 0 (0,0,[],[],false,[],())).1,(b5.getD 0 (0,0,[],[],false,[],())).2.1,(b5.getD 0 (0,0,[],[],false,[],())).2.2.1,(b5.getD 0 (0,0,[],[],false,[],())).2.2.2.1,(b5.getD 0 (0,0,[],[],false,[],())).2.2.2.2.1,(b5.getD 0 (0,0,[],[],false,[],())).2.2.2.2.2.1,()) p1.2.1 u9.2.1).bind fun Dd=>
 cond (!u7.1.1.2.1)
  (some (((((),CK,(),(),(),CM,(),(),(),(),BO,()),4,()),()),(b0,b1,b2,b3,b4,b5,b6,b7,())))
 (cond (!Dd.1.1.2.1)
  (some (((((),CK,(),(),(),CM,(),(),(),(),BO,()),4,()),()),(b0,b1,b2,b3,b4,b5,b6,b7,())))
 (if(0:Int)≤p1.2.1∧p1.2.1<(b1.length:Int)then(
 if(0:Int)≤(0:Int)∧(0:Int)<(b5.length:Int)then(
 some (((((),CK,(),(),(),CM,(),(),(),(),BO,()),0,()),()),(b0,(b1.set (p1.2.1.toNat) (u7.2.1,u7.2.2.1,u7.1.1.1.2.2.1,())),b2,b3,b4,(b5.set 0 (Dd.1.1.1.1,Dd.1.1.1.2.1,Dd.2.1,Dd.2.2.1,Dd.1.1.1.2.2.2.2.1,Dd.2.2.2.1,())),b6,b7,())))else none)else none)))else none)))else none)
abbrev ra:Type:=ACP×ACQ
def Kq(p0 p1:AAD):Option ra:=
 (JG p0 p1).bind fun u1=>
 (JG p0 u1.2.1).bind fun u2=>
 some (((),()),(u2.2.1,()))
abbrev rI:Type:=ABV×Unit
def K0(p0:ABD)(p1 p2:AAD):Option rI:=
 (EX (p0.1,p0.2.1,()) p1).bind fun u1=>
 cond (!u1.1.1)
  (some ((false,()),()))
 ((Gi (p0.1,p0.2.1,()) p2).bind fun u2=>
 cond (!u2.1.1)
  (some ((false,()),()))
 ((JG p2 p1).bind fun u3=>
 cond (decide ((u3.2.1.length:Int)>0))
  (some ((false,()),()))
 ((JG p1 p2).bind fun u5=>
 (Vs (p0.1,p0.2.1,()) u5.2.1).bind fun u6=>
 some (((decide (u6.1.1<p0.2.1)),()),()))))
abbrev Fv:Type:=AEA×ACu
abbrev UY:Type:=Int→Int→Int→List Int→AAs→Bool→List AAD→Int→Int→Bool→List Int→AAs→List AAD→Int→Int→Bool→List Int→AAs→List AAD→Option Fv
def WO(R8:UY)(t9 AL AE:Int)(AY:AAD)(DN:AAs)(EV:Bool)(Aa:List AAD)(BD Ap:Int)(NF:Bool)(b2:AAD)(b3:AAs)(b4:List AAD)(ADf ADY:Int)(ACs:Bool)(b6:AAD)(b7:AAs)(b8:List AAD):Option Fv:=
 (Rb (AL,AE,AY,DN,EV,Aa,())).bind fun u5=>
 cond (decide (t9<u5.1.1))
  (if b8.length+1≤C7 then(
  R8 (AS (t9+1)) AL AE AY DN EV Aa BD Ap NF b2 b3 b4 ADf ADY ACs b6 b7 (b8++[[]]))else none)
 (some ((((ADf,ADY,(),(),ACs,(),()),true,()),()),(b6,b7,b8,())))
def L3:Nat→UY
 |0=>fun _ _ _ _ _ _ _ _ _ _ _ _ _ _ _ _ _ _ _=>none
 |n+1=>WO (L3 n)
def Wn(R8:UY)(p0:ABD)(p1:ABU)(p2:AAD):Option Fv:=
 (JA (p0.1,p0.2.1,()) (p1.1,p1.2.1,p1.2.2.1,p1.2.2.2.1,p1.2.2.2.2.1,p1.2.2.2.2.2.1,())).bind fun u1=>
 cond (!u1.1.1)
  (some ((((0,0,(),(),false,(),()),false,()),()),([],[],[],())))
 ((ES (p1.1,p1.2.1,p1.2.2.1,p1.2.2.2.1,p1.2.2.2.2.1,p1.2.2.2.2.2.1,())).bind fun u2=>
 cond (p1.2.2.2.2.1)
  (some ((((u2.1.1.1,u2.1.1.2.1,(),(),u2.1.1.2.2.2.2.1,(),()),false,()),()),(u2.2.1,u2.2.2.1,u2.2.2.2.1,())))
 ((Kq p1.2.2.1 p2).bind fun u3=>
 (K0 (p0.1,p0.2.1,()) p2 u3.2.1).bind fun u4=>
 cond (!u4.1.1)
  (some ((((u2.1.1.1,u2.1.1.2.1,(),(),u2.1.1.2.2.2.2.1,(),()),false,()),()),(u2.2.1,u2.2.2.1,u2.2.2.2.1,())))
 (R8 0 p1.1 p1.2.1 p1.2.2.1 p1.2.2.2.1 p1.2.2.2.2.1 p1.2.2.2.2.2.1 0 0 false [] [] [] u2.1.1.1 u2.1.1.2.1 true u2.2.1 u2.2.2.1 u2.2.2.2.1)))
def JB(p0:ABD)(p1:ABU)(p2:AAD):Option Fv:=Wn (L3 AX) p0 p1 p2
abbrev p_:Type:=ACa×ACb
def W5(CK CM:Int)(BO:Bool)(b0:AAD)(b1:AAh)(b2:AAD)(b3:AAg)(b4:AAq)(b5:AA2)(b6:AA3)(b7:AAo):Option p_:=
 cond (((b5.length:Int)==0))
  (some (((((),CK,(),(),(),CM,(),(),(),(),BO,()),2,()),()),(b0,b1,b2,b3,b4,b5,b6,b7,())))
 (if(0:Int)≤(0:Int)∧(0:Int)<(b5.length:Int)then(
 if(0:Int)≤(0:Int)∧(0:Int)<(b5.length:Int)then(
 (CZ (b3,CM,()) ((b5.getD 0 (0,0,[],[],false,[],())).2.1)).bind fun u3=>
 (JB (b0,CK,()) ((b5.getD 0 (0,0,[],[],false,[],())).1,(b5.getD 0 (0,0,[],[],false,[],())).2.1,(b5.getD 0 (0,0,[],[],false,[],())).2.2.1,(b5.getD 0 (0,0,[],[],false,[],())).2.2.2.1,(b5.getD 0 (0,0,[],[],false,[],())).2.2.2.2.1,(b5.getD 0 (0,0,[],[],false,[],())).2.2.2.2.2.1,()) u3.2.1).bind fun u4=>
 cond (!u4.1.1.2.1)
  (some (((((),CK,(),(),(),CM,(),(),(),(),BO,()),4,()),()),(b0,b1,b2,b3,b4,b5,b6,b7,())))
 (if(0:Int)≤(0:Int)∧(0:Int)<(b5.length:Int)then(
 some (((((),CK,(),(),(),CM,(),(),(),(),BO,()),0,()),()),(b0,b1,b2,b3,b4,(b5.set 0 (u4.1.1.1.1,u4.1.1.1.2.1,u4.2.1,u4.2.2.1,u4.1.1.1.2.2.2.2.1,u4.2.2.2.1,())),b6,b7,())))else none))else none)else none)
abbrev rv:Type:=ACa×ACb
def ZU(CK CM:Int)(BO:Bool)(p1:ACS)(b0:AAD)(b1:AAh)(b2:AAD)(b3:AAg)(b4:AAq)(b5:AA2)(b6:AA3)(b7:AAo):Option rv:=
 cond (((b5.length:Int)==0))
  (some (((((),CK,(),(),(),CM,(),(),(),(),BO,()),2,()),()),(b0,b1,b2,b3,b4,b5,b6,b7,())))
 (if(0:Int)≤(0:Int)∧(0:Int)<(b5.length:Int)then(
 (Em ((b5.getD 0 (0,0,[],[],false,[],())).1,(b5.getD 0 (0,0,[],[],false,[],())).2.1,(b5.getD 0 (0,0,[],[],false,[],())).2.2.1,(b5.getD 0 (0,0,[],[],false,[],())).2.2.2.1,(b5.getD 0 (0,0,[],[],false,[],())).2.2.2.2.1,(b5.getD 0 (0,0,[],[],false,[],())).2.2.2.2.2.1,()) p1.2.2.1).bind fun u2=>
 cond (!u2.1.1.2.1)
  (some (((((),CK,(),(),(),CM,(),(),(),(),BO,()),2,()),()),(b0,b1,b2,b3,b4,b5,b6,b7,())))
 ((Hm (b0,CK,b1,b2,b3,CM,b4,b5,b6,b7,BO,()) p1.2.2.2.1).bind fun u3=>
 cond (u3.1.1 !=0)
  (some (((((),CK,(),(),(),CM,(),(),(),(),BO,()),u3.1.1,()),()),(b0,b1,b2,b3,b4,b5,b6,b7,())))
 (if(0:Int)≤(0:Int)∧(0:Int)<(b5.length:Int)then(
 (CZ (b3,CM,()) ((b5.getD 0 (0,0,[],[],false,[],())).2.1)).bind fun u5=>
 (Cw u5.2.1 p1.2.2.2.1).bind fun u6=>
 cond (!u6.1.1)
  (some (((((),CK,(),(),(),CM,(),(),(),(),BO,()),2,()),()),(b0,b1,b2,b3,b4,b5,b6,b7,())))
 (if(0:Int)≤p1.2.2.2.1∧p1.2.2.2.1<(b1.length:Int)then(
 (Ng ((b1.getD (p1.2.2.2.1.toNat) ([],[],0,())).1,(b1.getD (p1.2.2.2.1.toNat) ([],[],0,())).2.1,(b1.getD (p1.2.2.2.1.toNat) ([],[],0,())).2.2.1,()) (u2.1.1.1.1,u2.1.1.1.2.1,u2.1.1.1.2.2.1,u2.1.1.1.2.2.2.1,())).bind fun u7=>
 cond (!u7.1.1.2.1)
  (some (((((),CK,(),(),(),CM,(),(),(),(),BO,()),4,()),()),(b0,b1,b2,b3,b4,b5,b6,b7,())))
 (if(0:Int)≤p1.2.2.2.1∧p1.2.2.2.1<(b1.length:Int)then(
 some (((((),CK,(),(),(),CM,(),(),(),(),BO,()),0,()),()),(b0,(b1.set (p1.2.2.2.1.toNat) (u7.2.1,u7.2.2.1,u7.1.1.1.2.2.1,())),b2,b3,b4,b5,b6,b7,())))else none))else none))else none)))else none)
abbrev Pv:Type:=ABV×Unit
abbrev TY:Type:=Int→List Int→Int→Int→Int→List Int→AAs→Bool→List AAD→Option Pv
def VS(R4:TY)(t5:Int)(AL:AAD)(AE BD Ap:Int)(DJ:AAD)(G7:AAs)(NF:Bool)(DT:List AAD):Option Pv:=
 cond ((decide (t5<(DT.length:Int))))
  (if(0:Int)≤t5∧t5<(DT.length:Int)then(
  (EX (AL,AE,()) (DT.getD (t5.toNat) [])).bind fun u3=>
  cond (!u3.1.1)
   (some ((false,()),()))
  (R4 (AS (t5+1)) AL AE BD Ap DJ G7 NF DT))else none)
 (some ((true,()),()))
def Kn:Nat→TY
 |0=>fun _ _ _ _ _ _ _ _ _=>none
 |n+1=>VS (Kn n)
def VD(R4:TY)(p0:ABD)(p1:ABU):Option Pv:=
 (JA (p0.1,p0.2.1,()) (p1.1,p1.2.1,p1.2.2.1,p1.2.2.2.1,p1.2.2.2.2.1,p1.2.2.2.2.2.1,())).bind fun u1=>
 cond (!u1.1.1)
  (some ((false,()),()))
 (cond (!p1.2.2.2.2.1)
  (some ((false,()),()))
 (R4 0 p0.1 p0.2.1 p1.1 p1.2.1 p1.2.2.1 p1.2.2.2.1 p1.2.2.2.2.1 p1.2.2.2.2.2.1))
def SL(p0:ABD)(p1:ABU):Option Pv:=VD (Kn AX) p0 p1
abbrev nA:Type:=AFf×ADw
def QV(p0:ABD)(p1:ACC)(p2 p3:Int):Option nA:=
 (M7 (p0.1,p0.2.1,()) (p1.1,p1.2.1,())).bind fun u1=>
 cond (!u1.1.1)
  (some (((((),0,()),false,()),()),([],())))
 ((GF (p1.1,p1.2.1,())).bind fun u2=>
 (J4 (p1.1,p1.2.1,())).bind fun u3=>
 cond ((p2 !=(p1.1.length:Int)))
  (some (((((),u2.1.1.2.1,()),false,()),()),(u2.2.1,())))
 (cond (u3.1.1==0)
  (some (((((),u2.1.1.2.1,()),false,()),()),(u2.2.1,())))
 (cond (p2==u3.1.1)
  (some (((((),u2.1.1.2.1,()),false,()),()),(u2.2.1,())))
 ((CG p3 0 60).bind fun u5=>
 cond (!u5.1.1)
  (some (((((),u2.1.1.2.1,()),false,()),()),(u2.2.1,())))
 (if(0:Int)≤AS (u3.1.1-1)∧AS (u3.1.1-1)<(u2.2.1.length:Int)then(
 let x6:AAg:=(u2.2.1.set ((AS (u3.1.1-1)).toNat) ((u2.2.1.getD ((AS (u3.1.1-1)).toNat) ([],false,0,())).1,true,(u2.2.1.getD ((AS (u3.1.1-1)).toNat) ([],false,0,())).2.2.1,()))
 if(0:Int)≤AS (u3.1.1-1)∧AS (u3.1.1-1)<(x6.length:Int)then(
 some (((((),u2.1.1.2.1,()),true,()),()),((x6.set ((AS (u3.1.1-1)).toNat) ((x6.getD ((AS (u3.1.1-1)).toNat) ([],false,0,())).1,(x6.getD ((AS (u3.1.1-1)).toNat) ([],false,0,())).2.1,p3,())),())))else none)else none)))))
abbrev dL:Type:=ACa×(List Int×AAh×List Int×Unit×AAq×Unit×AA3×AAo×AAg×AA2×Unit)
def U4(CK CM:Int)(BO:Bool)(b0:AAD)(b1:AAh)(b2:AAD)(b3:AAg)(b4:AAq)(b5:AA2)(b6:AA3)(b7:AAo):Option dL:=
 cond (((b5.length:Int)==0))
  (some (((((),CK,(),(),(),CM,(),(),(),(),BO,()),2,()),()),(b0,b1,b2,(),b4,(),b6,b7,b3,b5,())))
 (if(0:Int)≤(0:Int)∧(0:Int)<(b5.length:Int)then(
 (SL (b0,CK,()) ((b5.getD 0 (0,0,[],[],false,[],())).1,(b5.getD 0 (0,0,[],[],false,[],())).2.1,(b5.getD 0 (0,0,[],[],false,[],())).2.2.1,(b5.getD 0 (0,0,[],[],false,[],())).2.2.2.1,(b5.getD 0 (0,0,[],[],false,[],())).2.2.2.2.1,(b5.getD 0 (0,0,[],[],false,[],())).2.2.2.2.2.1,())).bind fun u2=>
 cond (!u2.1.1)
  (some (((((),CK,(),(),(),CM,(),(),(),(),BO,()),5,()),()),(b0,b1,b2,(),b4,(),b6,b7,b3,b5,())))
 (if(0:Int)≤(0:Int)∧(0:Int)<(b5.length:Int)then(
 if(0:Int)≤(0:Int)∧(0:Int)<(b5.length:Int)then(
 (QV (b0,CK,()) (b3,CM,()) ((b5.getD 0 (0,0,[],[],false,[],())).1) (((b5.getD 0 (0,0,[],[],false,[],())).2.2.2.2.2.1).length:Int)).bind fun u5=>
 cond (!u5.1.1.2.1)
  (some (((((),CK,(),(),(),CM,(),(),(),(),BO,()),4,()),()),(b0,b1,b2,(),b4,(),b6,b7,b3,b5,())))
 (some (((((),CK,(),(),(),u5.1.1.1.2.1,(),(),(),(),BO,()),0,()),()),(b0,b1,b2,(),b4,(),b6,b7,u5.2.1,[],()))))else none)else none))else none)
abbrev pe:Type:=AFf×ADw
def Sy(p0:ABD)(p1:ACC)(p2:Int):Option pe:=
 (M7 (p0.1,p0.2.1,()) (p1.1,p1.2.1,())).bind fun u1=>
 cond (!u1.1.1)
  (some (((((),0,()),false,()),()),([],())))
 ((GF (p1.1,p1.2.1,())).bind fun u2=>
 (Ho p2).bind fun u3=>
 cond (!u3.1.1)
  (some (((((),u2.1.1.2.1,()),false,()),()),(u2.2.1,())))
 ((Cm p2).bind fun u4=>
 cond ((decide (u4.1.1>(p1.1.length:Int))))
  (some (((((),u2.1.1.2.1,()),false,()),()),(u2.2.1,())))
 ((FQ u2.1.1.2.1 p2).bind fun u6=>
 some (((((),u6.1.1,()),true,()),()),(u2.2.1,())))))
abbrev OC:Type:=ABw×Unit
abbrev Q8:Type:=Int→Int→AB3→Option OC
def Tu(R2:Q8)(t3 AL:Int)(AE:AB3):Option OC:=
 cond ((decide (t3<(AE.length:Int))))
  (if(0:Int)≤t3∧t3<(AE.length:Int)then(
  cond (((AE.getD (t3.toNat) ([],[],false,())).2.2.1))
   (R2 (AS (t3+1)) AL AE)
  (some ((t3,()),())))else none)
 (some ((t3,()),()))
def J0:Nat→Q8
 |0=>fun _ _ _=>none
 |n+1=>Tu (J0 n)
def dU(R2:Q8)(p0:ACE):Option OC:=
 R2 0 p0.1 p0.2.1
def V9(p0:ACE):Option OC:=dU (J0 AX) p0
abbrev Uq:Type:=ABw×Unit
abbrev YI:Type:=Int→Int→List Int→Int→AAh→List Int→AAg→Int→AAq→AA2→AA3→AAo→Bool→Option Uq
def Zx(R2:YI)(t1 t5:Int)(AL:AAD)(AE:Int)(AY:AAh)(DN:AAD)(EV:AAg)(Aa:Int)(EN:AAq)(EA:AA2)(GJ:AA3)(GW:AAo)(AM:Bool):Option Uq:=
 cond ((decide (t5<(EN.length:Int))))
  (if(0:Int)≤t5∧t5<(EN.length:Int)then(
  cond (((EN.getD (t5.toNat) (0,[],())).1)==t1)
   (if(0:Int)≤t5∧t5<(EN.length:Int)then(
   (V9 ((EN.getD (t5.toNat) (0,[],())).1,(EN.getD (t5.toNat) (0,[],())).2.1,())).bind fun u3=>
   some ((u3.1.1,()),()))else none)
  (R2 t1 (AS (t5+1)) AL AE AY DN EV Aa EN EA GJ GW AM))else none)
 (some ((0,()),()))
def PO:Nat→YI
 |0=>fun _ _ _ _ _ _ _ _ _ _ _ _ _=>none
 |n+1=>Zx (PO n)
def jb(R2:YI)(p0:ABi)(p1:Int):Option Uq:=
 R2 p1 0 p0.1 p0.2.1 p0.2.2.1 p0.2.2.2.1 p0.2.2.2.2.1 p0.2.2.2.2.2.1 p0.2.2.2.2.2.2.1 p0.2.2.2.2.2.2.2.1 p0.2.2.2.2.2.2.2.2.1 p0.2.2.2.2.2.2.2.2.2.1 p0.2.2.2.2.2.2.2.2.2.2.1
def dd(p0:ABi)(p1:Int):Option Uq:=jb (PO AX) p0 p1
abbrev OH:Type:=ACP×(ACR×Unit)
abbrev RD:Type:=Int→List Int→Int→AAh→List Int→AAg→Int→AAq→AA2→AA3→AAo→Bool→Int→Int→ACU→ACR→List Int→Option OH
def T5(R4:RD)(t9:Int)(AL:AAD)(AE:Int)(AY:AAh)(DN:AAD)(EV:AAg)(Aa:Int)(EN:AAq)(EA:AA2)(GJ:AA3)(GW:AAo)(AM:Bool)(BD Ap:Int)(DJ:ACU)(b2:ACR)(b3:AAD):Option OH:=
 cond ((decide (t9<(b3.length:Int))))
  (if(0:Int)≤t9∧t9<(b3.length:Int)then(
  (Hm (AL,AE,AY,DN,EV,Aa,EN,EA,GJ,GW,AM,()) (b3.getD (t9.toNat) 0)).bind fun u4=>
  cond (u4.1.1 !=0)
   (R4 (AS (t9+1)) AL AE AY DN EV Aa EN EA GJ GW AM BD Ap DJ b2 b3)
  (if(0:Int)≤t9∧t9<(b3.length:Int)then(
  let x5:Int:=(b3.getD (t9.toNat) 0)
  if(0:Int)≤x5∧x5<(AY.length:Int)then(
  (CY BD Ap).bind fun u6=>
  (HZ ((AY.getD (x5.toNat) ([],[],0,())).1) u6.1.1).bind fun u7=>
  if(0:Int)≤t9∧t9<(b3.length:Int)then(
  if b2.length+1≤C7 then(
  R4 (AS (t9+1)) AL AE AY DN EV Aa EN EA GJ GW AM BD Ap DJ (b2++[((b3.getD (t9.toNat) 0),u7.1.1.2.1,u7.1.1.1.1,u7.1.1.1.2.1,u7.1.1.1.2.2.1,u7.1.1.1.2.2.2.1,())]) b3)else none)else none)else none)else none))else none)
 (some (((),()),(b2,())))
def Ji:Nat→RD
 |0=>fun _ _ _ _ _ _ _ _ _ _ _ _ _ _ _ _ _=>none
 |n+1=>T5 (Ji n)
def Tl(R4:RD)(p0:ABi)(p1:ACY)(p2:Int):Option OH:=
 (PF p2).bind fun u1=>
 R4 0 p0.1 p0.2.1 p0.2.2.1 p0.2.2.2.1 p0.2.2.2.2.1 p0.2.2.2.2.2.1 p0.2.2.2.2.2.2.1 p0.2.2.2.2.2.2.2.1 p0.2.2.2.2.2.2.2.2.1 p0.2.2.2.2.2.2.2.2.2.1 p0.2.2.2.2.2.2.2.2.2.2.1 p1.1 p1.2.1 p1.2.2.1 [] u1.2.1
def Qv(p0:ABi)(p1:ACY)(p2:Int):Option OH:=Tl (Ji AX) p0 p1 p2
abbrev Qr:Type:=((Unit×Bool×Unit)×Unit)×ACQ
abbrev Uc:Type:=ACR→Int→List Int→Int→List Int→Option Qr
def WR(R3:Uc)(t1:ACR)(t7:Int)(AL:AAD)(AE:Int)(b1:AAD):Option Qr:=
 cond ((decide (t7<(t1.length:Int))))
  (if(0:Int)≤t7∧t7<(t1.length:Int)then(
  if b1.length+1≤C7 then(
  R3 t1 (AS (t7+1)) AL AE (b1++[((t1.getD (t7.toNat) (0,false,0,0,false,[],())).1)]))else none)else none)
 ((Gi (AL,AE,()) b1).bind fun u3=>
 some ((((),u3.1.1,()),()),(b1,())))
def MF:Nat→Uc
 |0=>fun _ _ _ _ _=>none
 |n+1=>WR (MF n)
def fY(R3:Uc)(p0:ABD)(p1:ACR):Option Qr:=
 R3 p1 0 p0.1 p0.2.1 []
def aJ(p0:ABD)(p1:ACR):Option Qr:=fY (MF AX) p0 p1
abbrev oZ:Type:=AEg×AEx
def I7(p0:ACY)(p1:AFd)(p2 p3:Int):Option oZ:=
 (CN (p0.1,p0.2.1,p0.2.2.1,())).bind fun u1=>
 if u1.2.1.length+1≤C7 then(
 some (((p2,p3,(),()),()),((u1.2.1++[(p1.1,p1.2.1,p1.2.2.1,())]),())))else none
abbrev S8:Type:=(AFd×Unit)×Unit
abbrev WJ:Type:=List Int→Int→ACR→Bool→Int→Int→Int→List UInt8→Int→Int→Bool→List UInt8→Option S8
def Xp(R4:WJ)(t0:AAD)(t1:Int)(t2:ACR)(t8:Bool)(t9 AL AE:Int)(AY:AB_)(BD Ap:Int)(DJ:Bool)(G7:AB_):Option S8:=
 cond ((decide (t9<(t2.length:Int))))
  (if(0:Int)≤t9∧t9<(t2.length:Int)then(
  cond (!((t2.getD (t9.toNat) (0,false,0,0,false,[],())).2.1))
   (R4 t0 t1 t2 t8 (AS (t9+1)) AL AE AY BD Ap DJ G7)
  ((Cw t0 ((t2.getD (t9.toNat) (0,false,0,0,false,[],())).1)).bind fun u4=>
  cond (!u4.1.1)
   (R4 t0 t1 t2 t8 (AS (t9+1)) AL AE AY BD Ap DJ G7)
  ((Mz ((t2.getD (t9.toNat) (0,false,0,0,false,[],())).2.2.1,(t2.getD (t9.toNat) (0,false,0,0,false,[],())).2.2.2.1,(t2.getD (t9.toNat) (0,false,0,0,false,[],())).2.2.2.2.1,(t2.getD (t9.toNat) (0,false,0,0,false,[],())).2.2.2.2.2.1,())).bind fun u5=>
  cond (!u5.1.1)
   (R4 t0 t1 t2 t8 (AS (t9+1)) AL AE AY BD Ap DJ G7)
  (cond (((t2.getD (t9.toNat) (0,false,0,0,false,[],())).2.2.1) !=t1)
   (R4 t0 t1 t2 t8 (AS (t9+1)) AL AE AY BD Ap DJ G7)
  (cond (!t8)
   ((Ry ((t2.getD (t9.toNat) (0,false,0,0,false,[],())).2.2.1,(t2.getD (t9.toNat) (0,false,0,0,false,[],())).2.2.2.1,(t2.getD (t9.toNat) (0,false,0,0,false,[],())).2.2.2.2.1,(t2.getD (t9.toNat) (0,false,0,0,false,[],())).2.2.2.2.2.1,()) ((t2.getD (t9.toNat) (0,false,0,0,false,[],())).2.2.1,(t2.getD (t9.toNat) (0,false,0,0,false,[],())).2.2.2.1,(t2.getD (t9.toNat) (0,false,0,0,false,[],())).2.2.2.2.1,(t2.getD (t9.toNat) (0,false,0,0,false,[],())).2.2.2.2.2.1,())).bind fun u7=>
   R4 t0 t1 t2 true (AS (t9+1)) AL AE AY u7.1.1.1 u7.1.1.2.1 u7.1.1.2.2.1 u7.1.1.2.2.2.1)
  ((Ry (BD,Ap,DJ,G7,()) ((t2.getD (t9.toNat) (0,false,0,0,false,[],())).2.2.1,(t2.getD (t9.toNat) (0,false,0,0,false,[],())).2.2.2.1,(t2.getD (t9.toNat) (0,false,0,0,false,[],())).2.2.2.2.1,(t2.getD (t9.toNat) (0,false,0,0,false,[],())).2.2.2.2.2.1,())).bind fun u8=>
  R4 t0 t1 t2 true (AS (t9+1)) AL AE AY u8.1.1.1 u8.1.1.2.1 u8.1.1.2.2.1 u8.1.1.2.2.2.1))))))else none)
 (cond (!t8)
  (some (((3,t1,[],()),()),()))
 (cond (DJ)
  (some (((2,t1,[],()),()),()))
 (some (((1,t1,G7,()),()),()))))
def NO:Nat→WJ
 |0=>fun _ _ _ _ _ _ _ _ _ _ _ _=>none
 |n+1=>Xp (NO n)
def gX(R4:WJ)(p0:AAD)(p1:Int)(p2:ACR):Option S8:=
 R4 p0 p1 p2 false 0 0 0 [] 0 0 false []
def Mp(p0:AAD)(p1:Int)(p2:ACR):Option S8:=gX (NO AX) p0 p1 p2
abbrev Zc:Type:=(AJ0×Unit)×AEx
def Qk(p0:ABD)(p1:ACC)(p2:Int)(p3:ACY)(p4:ACR):Option Zc:=
 (aJ (p0.1,p0.2.1,()) p4).bind fun u1=>
 (M7 (p0.1,p0.2.1,()) (p1.1,p1.2.1,())).bind fun u2=>
 cond (!u2.1.1)
  (some ((((0,0,(),()),1,()),()),([],())))
 ((Nk (p3.1,p3.2.1,p3.2.2.1,())).bind fun u3=>
 cond (!u3.1.1)
  (some ((((0,0,(),()),1,()),()),([],())))
 (cond (!u1.1.1.2.1)
  (some ((((0,0,(),()),1,()),()),([],())))
 (cond ((decide (p3.1>(p1.1.length:Int))))
  ((CN (p3.1,p3.2.1,p3.2.2.1,())).bind fun u5=>
  some ((((u5.1.1.1,u5.1.1.2.1,(),()),2,()),()),(u5.2.1,())))
 (cond ((p3.2.2.1.length:Int)==120)
  ((CN (p3.1,p3.2.1,p3.2.2.1,())).bind fun u7=>
  some ((((u7.1.1.1,u7.1.1.2.1,(),()),2,()),()),(u7.2.1,())))
 (if(0:Int)≤AS (p3.1-1)∧AS (p3.1-1)<(p1.1.length:Int)then(
 (CY p3.1 p3.2.1).bind fun u8=>
 cond ((decide (p1.2.1≥u8.1.1)))
  ((Cm p1.2.1).bind fun Dd=>
  (HS p1.2.1).bind fun LR=>
  (I7 (p3.1,p3.2.1,p3.2.2.1,()) (5,p1.2.1,[],()) Dd.1.1 (AS (LR.1.1+1))).bind fun D_=>
  some ((((D_.1.1.1,D_.1.1.2.1,(),()),0,()),()),(D_.2.1,())))
 (cond (((p1.1.getD ((AS (p3.1-1)).toNat) ([],false,0,())).2.1))
  (cond ((decide (p3.2.1>((p1.1.getD ((AS (p3.1-1)).toNat) ([],false,0,())).2.2.1))))
   ((I7 (p3.1,p3.2.1,p3.2.2.1,()) (4,AS (p3.1+1),[],()) (AS (p3.1+1)) 1).bind fun u16=>
   some ((((u16.1.1.1,u16.1.1.2.1,(),()),0,()),()),(u16.2.1,())))
  (cond (!((p1.1.getD ((AS (p3.1-1)).toNat) ([],false,0,())).2.1))
   (cond (decide (p3.2.1>p2))
    ((CN (p3.1,p3.2.1,p3.2.2.1,())).bind fun WL=>
    some ((((WL.1.1.1,WL.1.1.2.1,(),()),2,()),()),(WL.2.1,())))
   (cond (decide (p3.2.1>60))
    ((CN (p3.1,p3.2.1,p3.2.2.1,())).bind fun fa=>
    some ((((fa.1.1.1,fa.1.1.2.1,(),()),2,()),()),(fa.2.1,())))
   ((Kq u1.2.1 ((p1.1.getD ((AS (p3.1-1)).toNat) ([],false,0,())).1)).bind fun MY=>
   (K0 (p0.1,p0.2.1,()) ((p1.1.getD ((AS (p3.1-1)).toNat) ([],false,0,())).1) MY.2.1).bind fun mI=>
   cond (!mI.1.1)
    ((CN (p3.1,p3.2.1,p3.2.2.1,())).bind fun zp=>
    some ((((zp.1.1.1,zp.1.1.2.1,(),()),3,()),()),(zp.2.1,())))
   ((Mp ((p1.1.getD ((AS (p3.1-1)).toNat) ([],false,0,())).1) u8.1.1 p4).bind fun Z3=>
   (I7 (p3.1,p3.2.1,p3.2.2.1,()) (Z3.1.1.1,Z3.1.1.2.1,Z3.1.1.2.2.1,()) p3.1 (AS (p3.2.1+1))).bind fun It=>
   some ((((It.1.1.1,It.1.1.2.1,(),()),0,()),()),(It.2.1,()))))))
  (cond (decide (p3.2.1>60))
   ((CN (p3.1,p3.2.1,p3.2.2.1,())).bind fun Yj=>
   some ((((Yj.1.1.1,Yj.1.1.2.1,(),()),2,()),()),(Yj.2.1,())))
  ((Kq u1.2.1 ((p1.1.getD ((AS (p3.1-1)).toNat) ([],false,0,())).1)).bind fun cw=>
  (K0 (p0.1,p0.2.1,()) ((p1.1.getD ((AS (p3.1-1)).toNat) ([],false,0,())).1) cw.2.1).bind fun bW=>
  cond (!bW.1.1)
   ((CN (p3.1,p3.2.1,p3.2.2.1,())).bind fun PT=>
   some ((((PT.1.1.1,PT.1.1.2.1,(),()),3,()),()),(PT.2.1,())))
  ((Mp ((p1.1.getD ((AS (p3.1-1)).toNat) ([],false,0,())).1) u8.1.1 p4).bind fun ZZ=>
  (I7 (p3.1,p3.2.1,p3.2.2.1,()) (ZZ.1.1.1,ZZ.1.1.2.1,ZZ.1.1.2.2.1,()) p3.1 (AS (p3.2.1+1))).bind fun nD=>
  some ((((nD.1.1.1,nD.1.1.2.1,(),()),0,()),()),(nD.2.1,())))))))
 (cond (!((p1.1.getD ((AS (p3.1-1)).toNat) ([],false,0,())).2.1))
  (cond (decide (p3.2.1>p2))
   ((CN (p3.1,p3.2.1,p3.2.2.1,())).bind fun u32=>
   some ((((u32.1.1.1,u32.1.1.2.1,(),()),2,()),()),(u32.2.1,())))
  (cond (decide (p3.2.1>60))
   ((CN (p3.1,p3.2.1,p3.2.2.1,())).bind fun ak=>
   some ((((ak.1.1.1,ak.1.1.2.1,(),()),2,()),()),(ak.2.1,())))
  ((Kq u1.2.1 ((p1.1.getD ((AS (p3.1-1)).toNat) ([],false,0,())).1)).bind fun uE=>
  (K0 (p0.1,p0.2.1,()) ((p1.1.getD ((AS (p3.1-1)).toNat) ([],false,0,())).1) uE.2.1).bind fun u35=>
  cond (!u35.1.1)
   ((CN (p3.1,p3.2.1,p3.2.2.1,())).bind fun u36=>
   some ((((u36.1.1.1,u36.1.1.2.1,(),()),3,()),()),(u36.2.1,())))
  ((Mp ((p1.1.getD ((AS (p3.1-1)).toNat) ([],false,0,())).1) u8.1.1 p4).bind fun mh=>
  (I7 (p3.1,p3.2.1,p3.2.2.1,()) (mh.1.1.1,mh.1.1.2.1,mh.1.1.2.2.1,()) p3.1 (AS (p3.2.1+1))).bind fun u38=>
  some ((((u38.1.1.1,u38.1.1.2.1,(),()),0,()),()),(u38.2.1,()))))))
 (cond (decide (p3.2.1>60))
  ((CN (p3.1,p3.2.1,p3.2.2.1,())).bind fun mN=>
  some ((((mN.1.1.1,mN.1.1.2.1,(),()),2,()),()),(mN.2.1,())))
 ((Kq u1.2.1 ((p1.1.getD ((AS (p3.1-1)).toNat) ([],false,0,())).1)).bind fun u40=>
 (K0 (p0.1,p0.2.1,()) ((p1.1.getD ((AS (p3.1-1)).toNat) ([],false,0,())).1) u40.2.1).bind fun u41=>
 cond (!u41.1.1)
  ((CN (p3.1,p3.2.1,p3.2.2.1,())).bind fun u42=>
  some ((((u42.1.1.1,u42.1.1.2.1,(),()),3,()),()),(u42.2.1,())))
 ((Mp ((p1.1.getD ((AS (p3.1-1)).toNat) ([],false,0,())).1) u8.1.1 p4).bind fun u43=>
 (I7 (p3.1,p3.2.1,p3.2.2.1,()) (u43.1.1.1,u43.1.1.2.1,u43.1.1.2.2.1,()) p3.1 (AS (p3.2.1+1))).bind fun u44=>
 some ((((u44.1.1.1,u44.1.1.2.1,(),()),0,()),()),(u44.2.1,()))))))))else none)))))
abbrev qG:Type:=ACa×ACb
def XC(CK CM:Int)(BO:Bool)(p1:ACS)(b0:AAD)(b1:AAh)(b2:AAD)(b3:AAg)(b4:AAq)(b5:AA2)(b6:AA3)(b7:AAo):Option qG:=
 (CG p1.2.1 0 1).bind fun u1=>
 cond (!u1.1.1)
  (some (((((),CK,(),(),(),CM,(),(),(),(),BO,()),2,()),()),(b0,b1,b2,b3,b4,b5,b6,b7,())))
 (if(0:Int)≤p1.2.1∧p1.2.1<(b6.length:Int)then(
 if(0:Int)≤p1.2.1∧p1.2.1<(b6.length:Int)then(
 if(0:Int)≤p1.2.1∧p1.2.1<(b6.length:Int)then(
 (dd (b0,CK,b1,b2,b3,CM,b4,b5,b6,b7,BO,()) ((b6.getD (p1.2.1.toNat) (0,0,[],())).1)).bind fun u3=>
 (Qv (b0,CK,b1,b2,b3,CM,b4,b5,b6,b7,BO,()) ((b6.getD (p1.2.1.toNat) (0,0,[],())).1,(b6.getD (p1.2.1.toNat) (0,0,[],())).2.1,(b6.getD (p1.2.1.toNat) (0,0,[],())).2.2.1,()) p1.2.2.1).bind fun u4=>
 (Qk (b0,CK,()) (b3,CM,()) u3.1.1 ((b6.getD (p1.2.1.toNat) (0,0,[],())).1,(b6.getD (p1.2.1.toNat) (0,0,[],())).2.1,(b6.getD (p1.2.1.toNat) (0,0,[],())).2.2.1,()) u4.2.1).bind fun u5=>
 cond (u5.1.1.2.1 !=0)
  (some (((((),CK,(),(),(),CM,(),(),(),(),BO,()),5,()),()),(b0,b1,b2,b3,b4,b5,b6,b7,())))
 (if(0:Int)≤p1.2.1∧p1.2.1<(b6.length:Int)then(
 some (((((),CK,(),(),(),CM,(),(),(),(),BO,()),0,()),()),(b0,b1,b2,b3,b4,b5,(b6.set (p1.2.1.toNat) (u5.1.1.1.1,u5.1.1.1.2.1,u5.2.1,())),b7,())))else none))else none)else none)else none)
abbrev PM:Type:=ACa×(List Int×AAh×List Int×AAg×Unit×AA2×AA3×AAo×AAq×Unit)
abbrev V7:Type:=Int→List Int→AAh→List Int→AAg→AAq→AA2→AA3→AAo→Int→Int→Bool→Int→Int→Int→Int→List UInt8→Int→Int→Bool→List Int→AAh→List Int→AAg→AAq→AA2→AA3→AAo→AAq→Option PM
def Xl(R5:V7)(t7:Int)(b0:AAD)(b1:AAh)(b2:AAD)(b3:AAg)(b4:AAq)(b5:AA2)(b6:AA3)(b7:AAo)(Dc Dv:Int)(CJ:Bool)(fm Dw cA AW1:Int)(AVG:AB_)(Cb C1:Int)(Bu:Bool)(Ef:AAD)(DI:AAh)(FU:AAD)(FZ:AAg)(De:AAq)(D4:AA2)(Ea:AA3)(Od:AAo)(tp:AAq):Option PM:=
 cond ((decide (t7<(b4.length:Int))))
  (cond (t7 !=Dw)
   (if(0:Int)≤t7∧t7<(b4.length:Int)then(
   if tp.length+1≤C7 then(
   R5 (AS (t7+1)) b0 b1 b2 b3 b4 b5 b6 b7 Dc Dv CJ fm Dw cA AW1 AVG Cb C1 Bu Ef DI FU FZ De D4 Ea Od (tp++[((b4.getD (t7.toNat) (0,[],())).1,(b4.getD (t7.toNat) (0,[],())).2.1,())]))else none)else none)
  (R5 (AS (t7+1)) b0 b1 b2 b3 b4 b5 b6 b7 Dc Dv CJ fm Dw cA AW1 AVG Cb C1 Bu Ef DI FU FZ De D4 Ea Od tp))
 (some (((((),Dc,(),(),(),Dv,(),(),(),(),CJ,()),0,()),()),(b0,b1,b2,b3,(),b5,b6,b7,tp,())))
def NP:Nat→V7
 |0=>fun _ _ _ _ _ _ _ _ _ _ _ _ _ _ _ _ _ _ _ _ _ _ _ _ _ _ _ _ _=>none
 |n+1=>Xl (NP n)
def YC(R5:V7)(CK CM:Int)(BO:Bool)(p1:ACS)(b0:AAD)(b1:AAh)(b2:AAD)(b3:AAg)(b4:AAq)(b5:AA2)(b6:AA3)(b7:AAo):Option PM:=
 (L9 (b0,CK,b1,b2,b3,CM,b4,b5,b6,b7,BO,()) p1.2.1).bind fun u1=>
 cond (!u1.1.1)
  (some (((((),CK,(),(),(),CM,(),(),(),(),BO,()),2,()),()),(b0,b1,b2,b3,(),b5,b6,b7,b4,())))
 (R5 0 b0 b1 b2 b3 b4 b5 b6 b7 CK CM BO p1.1 p1.2.1 p1.2.2.1 p1.2.2.2.1 p1.2.2.2.2.1 0 0 false [] [] [] [] [] [] [] [] [])
def XS(CK CM:Int)(BO:Bool)(p1:ACS)(b0:AAD)(b1:AAh)(b2:AAD)(b3:AAg)(b4:AAq)(b5:AA2)(b6:AA3)(b7:AAo):Option PM:=YC (NP AX) CK CM BO p1 b0 b1 b2 b3 b4 b5 b6 b7
abbrev Pj:Type:=ADN×ACr
abbrev SR:Type:=Int→Int→AAs→AAs→Int→Int→AAs→AAs→Int→AAs→AAs→Option Pj
def Vi(R8:SR)(t1 t7:Int)(AL AE:AAs)(AY DJ:Int)(b2 b3:AAs)(Mw:Int)(b5 b6:AAs):Option Pj:=
 cond ((decide (t7<(AL.length:Int))))
  (if(0:Int)≤t7∧t7<(AL.length:Int)then(
  cond (decide (((AL.getD (t7.toNat) (0,0,false,[],())).1)>t1))
   (if(0:Int)≤t7∧t7<(AL.length:Int)then(
   if b5.length+1≤C7 then(
   R8 t1 (AS (t7+1)) AL AE AY DJ b2 b3 Mw (b5++[((AL.getD (t7.toNat) (0,0,false,[],())).1,(AL.getD (t7.toNat) (0,0,false,[],())).2.1,(AL.getD (t7.toNat) (0,0,false,[],())).2.2.1,(AL.getD (t7.toNat) (0,0,false,[],())).2.2.2.1,())]) b6)else none)else none)
  (R8 t1 (AS (t7+1)) AL AE AY DJ b2 b3 Mw b5 b6))else none)
 (some (((((),(),Mw,()),true,()),()),(b5,b6,())))
def Kj:Nat→SR
 |0=>fun _ _ _ _ _ _ _ _ _ _ _=>none
 |n+1=>Vi (Kj n)
def VJ(R8:SR)(p0:ACD)(p1:Int):Option Pj:=
 (Gw (p0.1,p0.2.1,p0.2.2.1,())).bind fun u1=>
 cond (!u1.1.1)
  (some (((((),(),0,()),false,()),()),([],[],())))
 ((Ek (p0.1,p0.2.1,p0.2.2.1,())).bind fun u2=>
 (Ho p1).bind fun u3=>
 cond (!u3.1.1)
  (some (((((),(),u2.1.1.2.2.1,()),false,()),()),(u2.2.1,u2.2.2.1,())))
 (R8 p1 0 p0.1 p0.2.1 p0.2.2.1 0 [] [] u2.1.1.2.2.1 [] u2.2.2.1))
def TN(p0:ACD)(p1:Int):Option Pj:=VJ (Kj AX) p0 p1
abbrev nQ:Type:=ACa×ACb
def Uz(CK CM:Int)(BO:Bool)(p1:ACS)(b0:AAD)(b1:AAh)(b2:AAD)(b3:AAg)(b4:AAq)(b5:AA2)(b6:AA3)(b7:AAo):Option nQ:=
 (Hm (b0,CK,b1,b2,b3,CM,b4,b5,b6,b7,BO,()) p1.2.1).bind fun u1=>
 cond (u1.1.1 !=0)
  (some (((((),CK,(),(),(),CM,(),(),(),(),BO,()),u1.1.1,()),()),(b0,b1,b2,b3,b4,b5,b6,b7,())))
 (if(0:Int)≤p1.2.1∧p1.2.1<(b1.length:Int)then(
 (NH ((b1.getD (p1.2.1.toNat) ([],[],0,())).1,(b1.getD (p1.2.1.toNat) ([],[],0,())).2.1,(b1.getD (p1.2.1.toNat) ([],[],0,())).2.2.1,()) p1.2.2.1).bind fun u2=>
 cond (p1.1==16)
  (if(0:Int)≤p1.2.1∧p1.2.1<(b1.length:Int)then(
  (TN ((b1.getD (p1.2.1.toNat) ([],[],0,())).1,(b1.getD (p1.2.1.toNat) ([],[],0,())).2.1,(b1.getD (p1.2.1.toNat) ([],[],0,())).2.2.1,()) CM).bind fun u3=>
  cond (!u3.1.1.2.1)
   (some (((((),CK,(),(),(),CM,(),(),(),(),BO,()),4,()),()),(b0,b1,b2,b3,b4,b5,b6,b7,())))
  (if(0:Int)≤p1.2.1∧p1.2.1<(b1.length:Int)then(
  some (((((),CK,(),(),(),CM,(),(),(),(),BO,()),0,()),()),(b0,(b1.set (p1.2.1.toNat) (u3.2.1,u3.2.2.1,u3.1.1.1.2.2.1,())),b2,b3,b4,b5,b6,b7,())))else none))else none)
 (cond (!u2.1.1.2.1)
  (some (((((),CK,(),(),(),CM,(),(),(),(),BO,()),4,()),()),(b0,b1,b2,b3,b4,b5,b6,b7,())))
 (if(0:Int)≤p1.2.1∧p1.2.1<(b1.length:Int)then(
 some (((((),CK,(),(),(),CM,(),(),(),(),BO,()),0,()),()),(b0,(b1.set (p1.2.1.toNat) (u2.2.1,u2.2.2.1,u2.1.1.1.2.2.1,())),b2,b3,b4,b5,b6,b7,())))else none)))else none)
abbrev jm:Type:=ACa×(List Int×AAh×Unit×Unit×Unit×Unit×AA3×Unit×List Int×AAg×AAq×AA2×AAo×Unit)
def cG(CK CM:Int)(BO:Bool)(p1:ACS)(b0:AAD)(b1:AAh)(b2:AAD)(b3:AAg)(b4:AAq)(b5:AA2)(b6:AA3)(b7:AAo):Option jm:=
 cond (p1.1==1)
  ((Wy CK CM BO (p1.1,p1.2.1,p1.2.2.1,p1.2.2.2.1,p1.2.2.2.2.1,()) b0 b1 b2 b3 b4 b5 b6 b7).bind fun u1=>
  some (((((),u1.1.1.1.2.1,(),(),(),u1.1.1.1.2.2.2.2.2.1,(),(),(),(),u1.1.1.1.2.2.2.2.2.2.2.2.2.2.1,()),u1.1.1.2.1,()),()),(u1.2.1,u1.2.2.1,(),(),(),(),u1.2.2.2.2.2.2.2.1,(),u1.2.2.2.1,u1.2.2.2.2.2.2.2.2.2.1,u1.2.2.2.2.2.2.2.2.2.2.1,u1.2.2.2.2.2.2.2.2.2.2.2.1,u1.2.2.2.2.2.2.2.2.1,())))
 (cond (p1.1==2)
  ((ZR CK CM BO (p1.1,p1.2.1,p1.2.2.1,p1.2.2.2.1,p1.2.2.2.2.1,()) b0 b1 b2 b3 b4 b5 b6 b7).bind fun u5=>
  some (((((),u5.1.1.1.2.1,(),(),(),u5.1.1.1.2.2.2.2.2.1,(),(),(),(),u5.1.1.1.2.2.2.2.2.2.2.2.2.2.1,()),u5.1.1.2.1,()),()),(u5.2.1,u5.2.2.1,(),(),(),(),u5.2.2.2.2.2.2.2.1,(),u5.2.2.2.1,u5.2.2.2.2.1,u5.2.2.2.2.2.1,u5.2.2.2.2.2.2.1,u5.2.2.2.2.2.2.2.2.2.1,())))
 (cond (p1.1==3)
  ((U2 CK CM BO (p1.1,p1.2.1,p1.2.2.1,p1.2.2.2.1,p1.2.2.2.2.1,()) b0 b1 b2 b3 b4 b5 b6 b7).bind fun u7=>
  some (((((),u7.1.1.1.2.1,(),(),(),u7.1.1.1.2.2.2.2.2.1,(),(),(),(),u7.1.1.1.2.2.2.2.2.2.2.2.2.2.1,()),u7.1.1.2.1,()),()),(u7.2.1,u7.2.2.1,(),(),(),(),u7.2.2.2.2.2.2.2.1,(),u7.2.2.2.1,u7.2.2.2.2.1,u7.2.2.2.2.2.1,u7.2.2.2.2.2.2.1,u7.2.2.2.2.2.2.2.2.1,())))
 (cond (p1.1==4)
  ((XG CK CM BO (p1.1,p1.2.1,p1.2.2.1,p1.2.2.2.1,p1.2.2.2.2.1,()) b0 b1 b2 b3 b4 b5 b6 b7).bind fun u8=>
  some (((((),u8.1.1.1.2.1,(),(),(),u8.1.1.1.2.2.2.2.2.1,(),(),(),(),u8.1.1.1.2.2.2.2.2.2.2.2.2.2.1,()),u8.1.1.2.1,()),()),(u8.2.1,u8.2.2.1,(),(),(),(),u8.2.2.2.2.2.2.2.1,(),u8.2.2.2.1,u8.2.2.2.2.1,u8.2.2.2.2.2.1,u8.2.2.2.2.2.2.1,u8.2.2.2.2.2.2.2.2.1,())))
 (cond (p1.1==6)
  ((W7 CK CM BO (p1.1,p1.2.1,p1.2.2.1,p1.2.2.2.1,p1.2.2.2.2.1,()) b0 b1 b2 b3 b4 b5 b6 b7).bind fun u9=>
  some (((((),u9.1.1.1.2.1,(),(),(),u9.1.1.1.2.2.2.2.2.1,(),(),(),(),u9.1.1.1.2.2.2.2.2.2.2.2.2.2.1,()),u9.1.1.2.1,()),()),(u9.2.1,u9.2.2.1,(),(),(),(),u9.2.2.2.2.2.2.2.1,(),u9.2.2.2.2.2.2.2.2.2.1,u9.2.2.2.2.1,u9.2.2.2.2.2.1,u9.2.2.2.2.2.2.1,u9.2.2.2.2.2.2.2.2.1,())))
 (cond (p1.1==7)
  ((XU CK CM BO (p1.1,p1.2.1,p1.2.2.1,p1.2.2.2.1,p1.2.2.2.2.1,()) b0 b1 b2 b3 b4 b5 b6 b7).bind fun LR=>
  some (((((),LR.1.1.1.2.1,(),(),(),LR.1.1.1.2.2.2.2.2.1,(),(),(),(),LR.1.1.1.2.2.2.2.2.2.2.2.2.2.1,()),LR.1.1.2.1,()),()),(LR.2.1,LR.2.2.1,(),(),(),(),LR.2.2.2.2.2.2.2.1,(),LR.2.2.2.2.2.2.2.2.2.1,LR.2.2.2.2.1,LR.2.2.2.2.2.1,LR.2.2.2.2.2.2.1,LR.2.2.2.2.2.2.2.2.1,())))
 (cond (p1.1==8)
  ((XJ CK CM BO b0 b1 b2 b3 b4 b5 b6 b7).bind fun F5=>
  some (((((),F5.1.1.1.2.1,(),(),(),F5.1.1.1.2.2.2.2.2.1,(),(),(),(),F5.1.1.1.2.2.2.2.2.2.2.2.2.2.1,()),F5.1.1.2.1,()),()),(F5.2.1,F5.2.2.1,(),(),(),(),F5.2.2.2.2.2.2.2.1,(),F5.2.2.2.1,F5.2.2.2.2.1,F5.2.2.2.2.2.1,F5.2.2.2.2.2.2.2.2.2.1,F5.2.2.2.2.2.2.2.2.1,())))
 (cond (p1.1==9)
  ((XW CK CM BO (p1.1,p1.2.1,p1.2.2.1,p1.2.2.2.1,p1.2.2.2.2.1,()) b0 b1 b2 b3 b4 b5 b6 b7).bind fun PS=>
  some (((((),PS.1.1.1.2.1,(),(),(),PS.1.1.1.2.2.2.2.2.1,(),(),(),(),PS.1.1.1.2.2.2.2.2.2.2.2.2.2.1,()),PS.1.1.2.1,()),()),(PS.2.1,PS.2.2.1,(),(),(),(),PS.2.2.2.2.2.2.2.1,(),PS.2.2.2.1,PS.2.2.2.2.1,PS.2.2.2.2.2.1,PS.2.2.2.2.2.2.1,PS.2.2.2.2.2.2.2.2.1,())))
 (cond (p1.1==10)
  ((W5 CK CM BO b0 b1 b2 b3 b4 b5 b6 b7).bind fun fa=>
  some (((((),fa.1.1.1.2.1,(),(),(),fa.1.1.1.2.2.2.2.2.1,(),(),(),(),fa.1.1.1.2.2.2.2.2.2.2.2.2.2.1,()),fa.1.1.2.1,()),()),(fa.2.1,fa.2.2.1,(),(),(),(),fa.2.2.2.2.2.2.2.1,(),fa.2.2.2.1,fa.2.2.2.2.1,fa.2.2.2.2.2.1,fa.2.2.2.2.2.2.1,fa.2.2.2.2.2.2.2.2.1,())))
 (cond (p1.1==11)
  ((ZU CK CM BO (p1.1,p1.2.1,p1.2.2.1,p1.2.2.2.1,p1.2.2.2.2.1,()) b0 b1 b2 b3 b4 b5 b6 b7).bind fun mI=>
  some (((((),mI.1.1.1.2.1,(),(),(),mI.1.1.1.2.2.2.2.2.1,(),(),(),(),mI.1.1.1.2.2.2.2.2.2.2.2.2.2.1,()),mI.1.1.2.1,()),()),(mI.2.1,mI.2.2.1,(),(),(),(),mI.2.2.2.2.2.2.2.1,(),mI.2.2.2.1,mI.2.2.2.2.1,mI.2.2.2.2.2.1,mI.2.2.2.2.2.2.1,mI.2.2.2.2.2.2.2.2.1,())))
 (cond (p1.1==12)
  ((U4 CK CM BO b0 b1 b2 b3 b4 b5 b6 b7).bind fun Z3=>
  some (((((),Z3.1.1.1.2.1,(),(),(),Z3.1.1.1.2.2.2.2.2.1,(),(),(),(),Z3.1.1.1.2.2.2.2.2.2.2.2.2.2.1,()),Z3.1.1.2.1,()),()),(Z3.2.1,Z3.2.2.1,(),(),(),(),Z3.2.2.2.2.2.2.2.1,(),Z3.2.2.2.1,Z3.2.2.2.2.2.2.2.2.2.1,Z3.2.2.2.2.2.1,Z3.2.2.2.2.2.2.2.2.2.2.1,Z3.2.2.2.2.2.2.2.2.1,())))
 (cond (p1.1==13)
  ((Sy (b0,CK,()) (b3,CM,()) p1.2.1).bind fun bW=>
  cond (!bW.1.1.2.1)
   (some (((((),CK,(),(),(),CM,(),(),(),(),BO,()),4,()),()),(b0,b1,(),(),(),(),b6,(),b2,b3,b4,b5,b7,())))
  (some (((((),CK,(),(),(),bW.1.1.1.2.1,(),(),(),(),BO,()),0,()),()),(b0,b1,(),(),(),(),b6,(),b2,bW.2.1,b4,b5,b7,()))))
 (cond (p1.1==14)
  ((XC CK CM BO (p1.1,p1.2.1,p1.2.2.1,p1.2.2.2.1,p1.2.2.2.2.1,()) b0 b1 b2 b3 b4 b5 b6 b7).bind fun PT=>
  some (((((),PT.1.1.1.2.1,(),(),(),PT.1.1.1.2.2.2.2.2.1,(),(),(),(),PT.1.1.1.2.2.2.2.2.2.2.2.2.2.1,()),PT.1.1.2.1,()),()),(PT.2.1,PT.2.2.1,(),(),(),(),PT.2.2.2.2.2.2.2.1,(),PT.2.2.2.1,PT.2.2.2.2.1,PT.2.2.2.2.2.1,PT.2.2.2.2.2.2.1,PT.2.2.2.2.2.2.2.2.1,())))
 (cond (p1.1==15)
  ((XS CK CM BO (p1.1,p1.2.1,p1.2.2.1,p1.2.2.2.1,p1.2.2.2.2.1,()) b0 b1 b2 b3 b4 b5 b6 b7).bind fun nD=>
  some (((((),nD.1.1.1.2.1,(),(),(),nD.1.1.1.2.2.2.2.2.1,(),(),(),(),nD.1.1.1.2.2.2.2.2.2.2.2.2.2.1,()),nD.1.1.2.1,()),()),(nD.2.1,nD.2.2.1,(),(),(),(),nD.2.2.2.2.2.2.2.1,(),nD.2.2.2.1,nD.2.2.2.2.1,nD.2.2.2.2.2.2.2.2.2.1,nD.2.2.2.2.2.2.1,nD.2.2.2.2.2.2.2.2.1,())))
 ((Uz CK CM BO (p1.1,p1.2.1,p1.2.2.1,p1.2.2.2.1,p1.2.2.2.2.1,()) b0 b1 b2 b3 b4 b5 b6 b7).bind fun ak=>
 some (((((),ak.1.1.1.2.1,(),(),(),ak.1.1.1.2.2.2.2.2.1,(),(),(),(),ak.1.1.1.2.2.2.2.2.2.2.2.2.2.1,()),ak.1.1.2.1,()),()),(ak.2.1,ak.2.2.1,(),(),(),(),ak.2.2.2.2.2.2.2.1,(),ak.2.2.2.1,ak.2.2.2.2.1,ak.2.2.2.2.2.1,ak.2.2.2.2.2.2.1,ak.2.2.2.2.2.2.2.2.1,()))))))))))))))))
abbrev pk:Type:=ACa×ACb
def Pf(p0:ABi)(p1:ACS):Option pk:=
 (Sn (p0.1,p0.2.1,p0.2.2.1,p0.2.2.2.1,p0.2.2.2.2.1,p0.2.2.2.2.2.1,p0.2.2.2.2.2.2.1,p0.2.2.2.2.2.2.2.1,p0.2.2.2.2.2.2.2.2.1,p0.2.2.2.2.2.2.2.2.2.1,p0.2.2.2.2.2.2.2.2.2.2.1,())).bind fun u1=>
 cond (!u1.1.1)
  (some (((((),0,(),(),(),0,(),(),(),(),false,()),1,()),()),([],[],[],[],[],[],[],[],())))
 ((Zr (p1.1,p1.2.1,p1.2.2.1,p1.2.2.2.1,p1.2.2.2.2.1,())).bind fun u2=>
 cond (!u2.1.1)
  (some (((((),0,(),(),(),0,(),(),(),(),false,()),1,()),()),([],[],[],[],[],[],[],[],())))
 ((Mc (p0.1,p0.2.1,p0.2.2.1,p0.2.2.2.1,p0.2.2.2.2.1,p0.2.2.2.2.2.1,p0.2.2.2.2.2.2.1,p0.2.2.2.2.2.2.2.1,p0.2.2.2.2.2.2.2.2.1,p0.2.2.2.2.2.2.2.2.2.1,p0.2.2.2.2.2.2.2.2.2.2.1,())).bind fun u3=>
 (cG u3.1.1.2.1 u3.1.1.2.2.2.2.2.1 u3.1.1.2.2.2.2.2.2.2.2.2.2.1 (p1.1,p1.2.1,p1.2.2.1,p1.2.2.2.1,p1.2.2.2.2.1,()) u3.2.1 u3.2.2.1 u3.2.2.2.1 u3.2.2.2.2.1 u3.2.2.2.2.2.1 u3.2.2.2.2.2.2.1 u3.2.2.2.2.2.2.2.1 u3.2.2.2.2.2.2.2.2.1).bind fun u4=>
 cond (u4.1.1.2.1 !=0)
  ((Mc (p0.1,p0.2.1,p0.2.2.1,p0.2.2.2.1,p0.2.2.2.2.1,p0.2.2.2.2.2.1,p0.2.2.2.2.2.2.1,p0.2.2.2.2.2.2.2.1,p0.2.2.2.2.2.2.2.2.1,p0.2.2.2.2.2.2.2.2.2.1,p0.2.2.2.2.2.2.2.2.2.2.1,())).bind fun Dd=>
  some (((((),Dd.1.1.2.1,(),(),(),Dd.1.1.2.2.2.2.2.1,(),(),(),(),Dd.1.1.2.2.2.2.2.2.2.2.2.2.1,()),u4.1.1.2.1,()),()),(Dd.2.1,Dd.2.2.1,Dd.2.2.2.1,Dd.2.2.2.2.1,Dd.2.2.2.2.2.1,Dd.2.2.2.2.2.2.1,Dd.2.2.2.2.2.2.2.1,Dd.2.2.2.2.2.2.2.2.1,())))
 (some (((((),u4.1.1.1.2.1,(),(),(),u4.1.1.1.2.2.2.2.2.1,(),(),(),(),u4.1.1.1.2.2.2.2.2.2.2.2.2.2.1,()),u4.1.1.2.1,()),()),(u4.2.1,u4.2.2.1,u4.2.2.2.2.2.2.2.2.2.1,u4.2.2.2.2.2.2.2.2.2.2.1,u4.2.2.2.2.2.2.2.2.2.2.2.1,u4.2.2.2.2.2.2.2.2.2.2.2.2.1,u4.2.2.2.2.2.2.2.1,u4.2.2.2.2.2.2.2.2.2.2.2.2.2.1,())))))
abbrev DG:Type:=(ALP×Unit)×(ACW×Unit×Unit×Unit×Unit×Unit×Unit×Unit×Unit×ACV×List Int×AAh×List Int×AAg×AAq×AA2×AA3×AAo×Unit)
abbrev Hz:Type:=Int→Int→List Int→Int→Int→Int→Int→Bool→List Int→AAh→List Int→AAg→AAq→AA2→AA3→AAo→Int→Int→Bool→List Int→AAh→List Int→AAg→AAq→AA2→AA3→AAo→Int→List Int→List Int→Option DG
abbrev Hu:Type:=Int→List Int→Int→Int→Int→Int→Bool→List Int→AAh→List Int→AAg→AAq→AA2→AA3→AAo→Int→Int→Bool→List Int→AAh→List Int→AAg→AAq→AA2→AA3→AAo→Int→List Int→List Int→Option DG
abbrev HK:Type:=Int→Int→List Int→Int→Int→Int→Int→Bool→List Int→AAh→List Int→AAg→AAq→AA2→AA3→AAo→Int→Int→Bool→List Int→AAh→List Int→AAg→AAq→AA2→AA3→AAo→Int→Int→Bool→Int→Int→Bool→List Int→AAh→List Int→AAg→AAq→AA2→AA3→AAo→ACV→Option DG
def Rc(R4:Hz)(R7:Hu)(xz:HK)(t1 t9:Int)(AL:AAD)(AE AY Ap DT:Int)(Dg:Bool)(b2:AAD)(b3:AAh)(b4:AAD)(b5:AAg)(b6:AAq)(b7:AA2)(b8:AA3)(b9:AAo)(Cb C1:Int)(Bu:Bool)(Ef:AAD)(DI:AAh)(FU:AAD)(FZ:AAg)(De:AAq)(D4:AA2)(Ea:AA3)(Od:AAo)(Bw:Int)(b20 tC:AAD):Option DG:=
 cond ((decide (t9<(b20.length:Int))))
  (if tC.length+1≤C7 then(
  R4 t1 (AS (t9+1)) AL AE AY Ap DT Dg b2 b3 b4 b5 b6 b7 b8 b9 Cb C1 Bu Ef DI FU FZ De D4 Ea Od Bw b20 (tC++[t9]))else none)
 (R7 t1 AL AE AY Ap DT Dg b2 b3 b4 b5 b6 b7 b8 b9 Cb C1 Bu Ef DI FU FZ De D4 Ea Od Bw b20 tC)
def R_(R4:Hz)(R7:Hu)(xz:HK)(t1:Int)(AL:AAD)(AE AY Ap DT:Int)(Dg:Bool)(b2:AAD)(b3:AAh)(b4:AAD)(b5:AAg)(b6:AAq)(b7:AA2)(b8:AA3)(b9:AAo)(Cb C1:Int)(Bu:Bool)(Ef:AAD)(DI:AAh)(FU:AAD)(FZ:AAg)(De:AAq)(D4:AA2)(Ea:AA3)(Od:AAo)(Bw:Int)(b20 tC:AAD):Option DG:=
 cond (decide (Bw>1))
  ((EX (b20,Bw,()) tC).bind fun u3=>
  cond (!u3.1.1)
   (R7 t1 AL AE AY Ap DT Dg b2 b3 b4 b5 b6 b7 b8 b9 Cb C1 Bu Ef DI FU FZ De D4 Ea Od (AS (Bw-1)) b20 tC)
  ((E9 (b20,Bw,())).bind fun u4=>
  (AJ (AS (t1+1)) AL AE AY).bind fun u5=>
  xz u5.1.1 0 u5.2.1.1 u5.2.1.2.1 u5.2.1.2.2.1 Ap DT Dg b2 b3 b4 b5 b6 b7 b8 b9 Cb C1 Bu Ef DI FU FZ De D4 Ea Od u4.1.1.1.2.1 u4.1.1.1.2.2.2.2.2.1 u4.1.1.1.2.2.2.2.2.2.2.2.2.2.1 u4.1.1.1.2.1 u4.1.1.1.2.2.2.2.2.1 u4.1.1.1.2.2.2.2.2.2.2.2.2.2.1 u4.2.1 u4.2.2.1 u4.2.2.2.1 u4.2.2.2.2.1 u4.2.2.2.2.2.1 u4.2.2.2.2.2.2.1 u4.2.2.2.2.2.2.2.1 u4.2.2.2.2.2.2.2.2.1 []))
 ((E9 (b20,Bw,())).bind fun u6=>
 (AJ (AS (t1+1)) AL AE AY).bind fun u7=>
 xz u7.1.1 0 u7.2.1.1 u7.2.1.2.1 u7.2.1.2.2.1 Ap DT Dg b2 b3 b4 b5 b6 b7 b8 b9 Cb C1 Bu Ef DI FU FZ De D4 Ea Od u6.1.1.1.2.1 u6.1.1.1.2.2.2.2.2.1 u6.1.1.1.2.2.2.2.2.2.2.2.2.2.1 u6.1.1.1.2.1 u6.1.1.1.2.2.2.2.2.1 u6.1.1.1.2.2.2.2.2.2.2.2.2.2.1 u6.2.1 u6.2.2.1 u6.2.2.2.1 u6.2.2.2.2.1 u6.2.2.2.2.2.1 u6.2.2.2.2.2.2.1 u6.2.2.2.2.2.2.2.1 u6.2.2.2.2.2.2.2.2.1 [])
def Qd(R4:Hz)(R7:Hu)(xz:HK)(t14 t15:Int)(AL:AAD)(AE AY Ap DT:Int)(Dg:Bool)(b2:AAD)(b3:AAh)(b4:AAD)(b5:AAg)(b6:AAq)(b7:AA2)(b8:AA3)(b9:AAo)(Cb C1:Int)(Bu:Bool)(Ef:AAD)(DI:AAh)(FU:AAD)(FZ:AAg)(De:AAq)(D4:AA2)(Ea:AA3)(Od:AAo)(Bw QR:Int)(h_:Bool)(zq zc:Int)(th:Bool)(b29:AAD)(b30:AAh)(b31:AAD)(b32:AAg)(b33:AAq)(b34:AA2)(b35:AA3)(b36:AAo)(b37:ACV):Option DG:=
 cond (decide (t15<t14))
  ((Ls (b29,zq,b30,b31,b32,zc,b33,b34,b35,b36,th,()) AL AE AY).bind fun u8=>
  if b37.length+1≤C7 then(
  let x9:ACV:=b37++[(u8.1.1.1,u8.1.1.2.1,u8.1.1.2.2.1,u8.1.1.2.2.2.1,u8.1.1.2.2.2.2.1,())]
  (Pf (b29,zq,b30,b31,b32,zc,b33,b34,b35,b36,th,()) (u8.1.1.1,u8.1.1.2.1,u8.1.1.2.2.1,u8.1.1.2.2.2.1,u8.1.1.2.2.2.2.1,())).bind fun Dd=>
  cond (Dd.1.1.2.1==0)
   (xz t14 (AS (t15+1)) u8.2.1.1 u8.2.1.2.1 u8.2.1.2.2.1 Ap DT Dg b2 b3 b4 b5 b6 b7 b8 b9 Cb C1 Bu Ef DI FU FZ De D4 Ea Od Bw QR h_ Dd.1.1.1.2.1 Dd.1.1.1.2.2.2.2.2.1 Dd.1.1.1.2.2.2.2.2.2.2.2.2.2.1 Dd.2.1 Dd.2.2.1 Dd.2.2.2.1 Dd.2.2.2.2.1 Dd.2.2.2.2.2.1 Dd.2.2.2.2.2.2.1 Dd.2.2.2.2.2.2.2.1 Dd.2.2.2.2.2.2.2.2.1 x9)
  (xz t14 (AS (t15+1)) u8.2.1.1 u8.2.1.2.1 u8.2.1.2.2.1 Ap DT Dg b2 b3 b4 b5 b6 b7 b8 b9 Cb C1 Bu Ef DI FU FZ De D4 Ea Od Bw QR h_ zq zc th b29 b30 b31 b32 b33 b34 b35 b36 x9))else none)
 (some (((((),Bw,(),(),(),QR,(),(),(),(),h_,()),(),((),zq,(),(),(),zc,(),(),(),(),th,()),()),()),((AL,AE,AY,()),(),(),(),(),(),(),(),(),b37,b29,b30,b31,b32,b33,b34,b35,b36,())))
mutual
def Ep:Nat→Hz
 |0=>fun _ _ _ _ _ _ _ _ _ _ _ _ _ _ _ _ _ _ _ _ _ _ _ _ _ _ _ _ _ _=>none
 |n+1=>Rc (Ep n) (Eu n) (Dh n)
def Eu:Nat→Hu
 |0=>fun _ _ _ _ _ _ _ _ _ _ _ _ _ _ _ _ _ _ _ _ _ _ _ _ _ _ _ _ _=>none
 |n+1=>R_ (Ep n) (Eu n) (Dh n)
def Dh:Nat→HK
 |0=>fun _ _ _ _ _ _ _ _ _ _ _ _ _ _ _ _ _ _ _ _ _ _ _ _ _ _ _ _ _ _ _ _ _ _ _ _ _ _ _ _ _ _=>none
 |n+1=>Qd (Ep n) (Eu n) (Dh n)
end
def R0(R4:Hz)(R7:Hu)(xz:HK)(p1:Int)(AL:AAD)(AE AY:Int):Option DG:=
 (JX AL AE AY).bind fun u1=>
 R4 p1 0 u1.2.1.1 u1.2.1.2.1 u1.2.1.2.2.1 0 0 false [] [] [] [] [] [] [] [] 0 0 false [] [] [] [] [] [] [] [] u1.1.1.2.1 u1.2.2.1 []
def Kp(p1:Int)(AL:AAD)(AE AY:Int):Option DG:=R0 (Ep AX) (Eu AX) (Dh AX) p1 AL AE AY
abbrev gU:Type:=AFi×ADZ
def Ll(AL:AAD)(AE AY:Int):Option gU:=
 (AJ 3 AL AE AY).bind fun u1=>
 (AJ 6 u1.2.1.1 u1.2.1.2.1 u1.2.1.2.2.1).bind fun u2=>
 (CY (AS (1+u1.1.1)) (AS (1+u2.1.1))).bind fun u3=>
 (HA [[],[97],[98,99],[0],[119,111,114,100]] u2.2.1.1 u2.2.1.2.1 u2.2.1.2.2.1).bind fun u4=>
 (A5 3 u4.2.1.1 u4.2.1.2.1 u4.2.1.2.2.1).bind fun u5=>
 cond (u5.1.1)
  ((Cm u3.1.1).bind fun u6=>
  (AJ 3 u5.2.1.1 u5.2.1.2.1 u5.2.1.2.2.1).bind fun u7=>
  let x8:Int:=AS ((AS (u6.1.1+1))+u7.1.1)
  (A5 2 u7.2.1.1 u7.2.1.2.1 u7.2.1.2.2.1).bind fun u9=>
  cond (u9.1.1)
   (some (((u3.1.1,x8,true,[],()),()),((u9.2.1.1,u9.2.1.2.1,u9.2.1.2.2.1,()),())))
  (some (((u3.1.1,x8,false,u4.1.1,()),()),((u9.2.1.1,u9.2.1.2.1,u9.2.1.2.2.1,()),()))))
 (some (((u3.1.1,0,false,u4.1.1,()),()),((u5.2.1.1,u5.2.1.2.1,u5.2.1.2.2.1,()),())))
abbrev CT:Type:=AES×AL1
abbrev Il:Type:=Int→Int→List Int→Int→Int→Int→AAs→AAs→Int→AAs→AAs→Option CT
abbrev H5:Type:=Int→List Int→Int→Int→Int→AAs→AAs→Int→AAs→AAs→Option CT
abbrev Hs:Type:=Int→Int→List Int→Int→Int→Int→AAs→AAs→Int→AAs→AAs→Option CT
def Sg(R4:Il)(R20:H5)(R23:Hs)(t4 t5:Int)(AL:AAD)(AE AY DJ:Int)(b2 b3:AAs)(Mw:Int)(b5 b6:AAs):Option CT:=
 cond (decide (t5<t4))
  ((Ll AL AE AY).bind fun u2=>
  (Ng (b5,b6,Mw,()) (u2.1.1.1,u2.1.1.2.1,u2.1.1.2.2.1,u2.1.1.2.2.2.1,())).bind fun u3=>
  (AJ 6 u2.2.1.1 u2.2.1.2.1 u2.2.1.2.2.1).bind fun u4=>
  cond (u4.1.1==0)
   ((Jr (b5,b6,Mw,())).bind fun u5=>
   cond (u5.1.1.2.1)
    (R4 t4 (AS (t5+1)) u4.2.1.1 u4.2.1.2.1 u4.2.1.2.2.1 DJ b2 b3 u5.1.1.1.2.2.1 u5.2.1 u5.2.2.1)
   (R4 t4 (AS (t5+1)) u4.2.1.1 u4.2.1.2.1 u4.2.1.2.2.1 DJ b2 b3 Mw b5 b6))
  (cond (u4.1.1==1)
   ((Jr (u3.2.1,u3.2.2.1,u3.1.1.1.2.2.1,())).bind fun u6=>
   cond (u6.1.1.2.1)
    (R4 t4 (AS (t5+1)) u4.2.1.1 u4.2.1.2.1 u4.2.1.2.2.1 DJ b2 b3 u6.1.1.1.2.2.1 u6.2.1 u6.2.2.1)
   (R4 t4 (AS (t5+1)) u4.2.1.1 u4.2.1.2.1 u4.2.1.2.2.1 DJ b2 b3 Mw b5 b6))
  (cond (u4.1.1==2)
   ((A5 3 u4.2.1.1 u4.2.1.2.1 u4.2.1.2.2.1).bind fun u7=>
   cond (u7.1.1)
    ((AJ 4 u7.2.1.1 u7.2.1.2.1 u7.2.1.2.2.1).bind fun u8=>
    (Oi (b5,b6,Mw,()) u8.1.1).bind fun u9=>
    cond (u9.1.1.2.1)
     (R4 t4 (AS (t5+1)) u8.2.1.1 u8.2.1.2.1 u8.2.1.2.2.1 DJ b2 b3 u9.1.1.1.2.2.1 u9.2.1 u9.2.2.1)
    (R4 t4 (AS (t5+1)) u8.2.1.1 u8.2.1.2.1 u8.2.1.2.2.1 DJ b2 b3 Mw b5 b6))
   (cond (u3.1.1.2.1)
    (R4 t4 (AS (t5+1)) u7.2.1.1 u7.2.1.2.1 u7.2.1.2.2.1 DJ b2 b3 u3.1.1.1.2.2.1 u3.2.1 u3.2.2.1)
   (R4 t4 (AS (t5+1)) u7.2.1.1 u7.2.1.2.1 u7.2.1.2.2.1 DJ b2 b3 Mw b5 b6)))
  (cond (u3.1.1.2.1)
   (R4 t4 (AS (t5+1)) u4.2.1.1 u4.2.1.2.1 u4.2.1.2.2.1 DJ b2 b3 u3.1.1.1.2.2.1 u3.2.1 u3.2.2.1)
  (R4 t4 (AS (t5+1)) u4.2.1.1 u4.2.1.2.1 u4.2.1.2.2.1 DJ b2 b3 Mw b5 b6)))))
 ((A5 40 AL AE AY).bind fun Yj=>
 cond (Yj.1.1)
  (R20 1 Yj.2.1.1 Yj.2.1.2.1 Yj.2.1.2.2.1 DJ b2 b3 Mw [] b6)
 (some ((((),(),Mw,()),()),((Yj.2.1.1,Yj.2.1.2.1,Yj.2.1.2.2.1,()),b5,b6,()))))
def Re(R4:Il)(R20:H5)(R23:Hs)(t8:Int)(AL:AAD)(AE AY DJ:Int)(b2 b3:AAs)(Mw:Int)(b5 b6:AAs):Option CT:=
 cond (decide (t8≤4))
  (R23 t8 1 AL AE AY DJ b2 b3 Mw b5 b6)
 (some ((((),(),Mw,()),()),((AL,AE,AY,()),b5,b6,())))
def RU(R4:Il)(R20:H5)(R23:Hs)(t8 t9:Int)(AL:AAD)(AE AY DJ:Int)(b2 b3:AAs)(Mw:Int)(b5 b6:AAs):Option CT:=
 cond (decide (t9≤50))
  ((CY t8 t9).bind fun cw=>
  if b5.length+1≤C7 then(
  R23 t8 (AS (t9+1)) AL AE AY DJ b2 b3 Mw (b5++[(cw.1.1,0,false,[],())]) b6)else none)
 (R20 (AS (t8+1)) AL AE AY DJ b2 b3 Mw b5 b6)
mutual
def EP:Nat→Il
 |0=>fun _ _ _ _ _ _ _ _ _ _ _=>none
 |n+1=>Sg (EP n) (Er n) (Ex n)
def Er:Nat→H5
 |0=>fun _ _ _ _ _ _ _ _ _ _=>none
 |n+1=>Re (EP n) (Er n) (Ex n)
def Ex:Nat→Hs
 |0=>fun _ _ _ _ _ _ _ _ _ _ _=>none
 |n+1=>RU (EP n) (Er n) (Ex n)
end
def TU(R4:Il)(R20:H5)(R23:Hs)(AL:AAD)(AE AY:Int):Option CT:=
 (AJ 8 AL AE AY).bind fun u1=>
 R4 u1.1.1 0 u1.2.1.1 u1.2.1.2.1 u1.2.1.2.2.1 0 [] [] 0 [] []
def GO(AL:AAD)(AE AY:Int):Option CT:=TU (EP AX) (Er AX) (Ex AX) AL AE AY
abbrev Q7:Type:=ABw×ADZ
def FD(AL:AAD)(AE AY:Int):Option Q7:=
 (AJ 3 AL AE AY).bind fun u1=>
 (AJ 6 u1.2.1.1 u1.2.1.2.1 u1.2.1.2.2.1).bind fun u2=>
 (CY (AS (1+u1.1.1)) (AS (1+u2.1.1))).bind fun u3=>
 (AJ 15 u2.2.1.1 u2.2.1.2.1 u2.2.1.2.2.1).bind fun u4=>
 cond (u4.1.1==0)
  ((CP [0,(-1),4294967296,4294967297,9223372036854775807,(-9223372036854775808)] u4.2.1.1 u4.2.1.2.1 u4.2.1.2.2.1).bind fun u5=>
  some ((u5.1.1,()),((u5.2.1.1,u5.2.1.2.1,u5.2.1.2.2.1,()),())))
 (cond (u4.1.1==1)
  ((CP [0,30,31] u4.2.1.1 u4.2.1.2.1 u4.2.1.2.2.1).bind fun u6=>
  (CP [0,60,61] u6.2.1.1 u6.2.1.2.1 u6.2.1.2.2.1).bind fun u7=>
  (CY u6.1.1 u7.1.1).bind fun u8=>
  some ((u8.1.1,()),((u7.2.1.1,u7.2.1.2.1,u7.2.1.2.2.1,()),())))
 (some ((u3.1.1,()),((u4.2.1.1,u4.2.1.2.1,u4.2.1.2.2.1,()),()))))
abbrev rH:Type:=AFi×ADZ
def SA(AL:AAD)(AE AY:Int):Option rH:=
 (Ll AL AE AY).bind fun u1=>
 (AJ 15 u1.2.1.1 u1.2.1.2.1 u1.2.1.2.2.1).bind fun u2=>
 cond (u2.1.1==0)
  ((FD u2.2.1.1 u2.2.1.2.1 u2.2.1.2.2.1).bind fun u3=>
  some (((u3.1.1,u1.1.1.2.1,u1.1.1.2.2.1,u1.1.1.2.2.2.1,()),()),((u3.2.1.1,u3.2.1.2.1,u3.2.1.2.2.1,()),())))
 (cond (u2.1.1==1)
  ((CP [(-1),1,30,31] u2.2.1.1 u2.2.1.2.1 u2.2.1.2.2.1).bind fun u4=>
  some (((u1.1.1.1,u4.1.1,u1.1.1.2.2.1,u1.1.1.2.2.2.1,()),()),((u4.2.1.1,u4.2.1.2.1,u4.2.1.2.2.1,()),())))
 (cond (u2.1.1==2)
  (some (((u1.1.1.1,u1.1.1.2.1,true,u1.1.1.2.2.2.1,()),()),((u2.2.1.1,u2.2.1.2.1,u2.2.1.2.2.1,()),())))
 (cond (u2.1.1==3)
  ((AJ 2 u2.2.1.1 u2.2.1.2.1 u2.2.1.2.2.1).bind fun u5=>
  if(0:Int)≤(AS (40+u5.1.1))∧(AS (40+u5.1.1))≤(AS (40+u5.1.1))∧(AS (40+u5.1.1))≤(C7:Int)then(
  some (((u1.1.1.1,u1.1.1.2.1,u1.1.1.2.2.1,((List.replicate ((AS (40+u5.1.1)).toNat) 0).map fun n:Int=>UInt8.ofNat n.toNat),()),()),((u5.2.1.1,u5.2.1.2.1,u5.2.1.2.2.1,()),())))else none)
 (some (((u1.1.1.1,u1.1.1.2.1,u1.1.1.2.2.1,u1.1.1.2.2.2.1,()),()),((u2.2.1.1,u2.2.1.2.1,u2.2.1.2.2.1,()),()))))))
abbrev Nf:Type:=AES×AL1
abbrev V2:Type:=List Int→Int→Int→Int→AAs→AAs→Int→AAs→AAs→Option Nf
def YG(R10:V2)(AL:AAD)(AE AY DJ:Int)(b2 b3:AAs)(Mw:Int)(b5 b6:AAs):Option Nf:=
 (AJ 2 AL AE AY).bind fun F5=>
 cond ((decide ((b6.length:Int)<(AS (20+F5.1.1)))))
  ((CY 5 1).bind fun u16=>
  if b6.length+1≤C7 then(
  R10 F5.2.1.1 F5.2.1.2.1 F5.2.1.2.2.1 DJ b2 b3 Mw b5 (b6++[(u16.1.1,0,false,[],())]))else none)
 (some ((((),(),Mw,()),()),((F5.2.1.1,F5.2.1.2.1,F5.2.1.2.2.1,()),b5,b6,())))
def NK:Nat→V2
 |0=>fun _ _ _ _ _ _ _ _ _=>none
 |n+1=>YG (NK n)
def Yt(R10:V2)(AL:AAD)(AE AY:Int):Option Nf:=
 (GO AL AE AY).bind fun u1=>
 (AJ 25 u1.2.1.1 u1.2.1.2.1 u1.2.1.2.2.1).bind fun u2=>
 cond (u2.1.1==0)
  ((CP [(-1),30,31] u2.2.1.1 u2.2.1.2.1 u2.2.1.2.2.1).bind fun u3=>
  some ((((),(),u3.1.1,()),()),((u3.2.1.1,u3.2.1.2.1,u3.2.1.2.2.1,()),u1.2.2.1,u1.2.2.2.1,())))
 (cond (u2.1.1==1)
  ((SA u2.2.1.1 u2.2.1.2.1 u2.2.1.2.2.1).bind fun u4=>
  if u1.2.2.1.length+1≤C7 then(
  some ((((),(),u1.1.1.2.2.1,()),()),((u4.2.1.1,u4.2.1.2.1,u4.2.1.2.2.1,()),(u1.2.2.1++[(u4.1.1.1,u4.1.1.2.1,u4.1.1.2.2.1,u4.1.1.2.2.2.1,())]),u1.2.2.2.1,())))else none)
 (cond (u2.1.1==2)
  ((SA u2.2.1.1 u2.2.1.2.1 u2.2.1.2.2.1).bind fun u9=>
  if u1.2.2.2.1.length+1≤C7 then(
  some ((((),(),u1.1.1.2.2.1,()),()),((u9.2.1.1,u9.2.1.2.1,u9.2.1.2.2.1,()),u1.2.2.1,(u1.2.2.2.1++[(u9.1.1.1,u9.1.1.2.1,u9.1.1.2.2.1,u9.1.1.2.2.2.1,())]),())))else none)
 (cond (u2.1.1==3)
  (R10 u2.2.1.1 u2.2.1.2.1 u2.2.1.2.2.1 0 [] [] u1.1.1.2.2.1 u1.2.2.1 u1.2.2.2.1)
 (some ((((),(),u1.1.1.2.2.1,()),()),((u2.2.1.1,u2.2.1.2.1,u2.2.1.2.2.1,()),u1.2.2.1,u1.2.2.2.1,()))))))
def Vj(AL:AAD)(AE AY:Int):Option Nf:=Yt (NK AX) AL AE AY
abbrev M1:Type:=ACc×AL5
abbrev QD:Type:=Int→List Int→Int→Int→List Int→Int→Int→AAg→Int→AAg→Option M1
def SI(R3:QD)(t6:Int)(AL:AAD)(AE AY:Int)(BD:AAD)(Ap LM:Int)(b3:AAg)(fS:Int)(b5:AAg):Option M1:=
 (AJ 7 AL AE AY).bind fun u1=>
 cond (decide (t6<u1.1.1))
  ((Hv (BD,Ap,()) u1.2.1.1 u1.2.1.2.1 u1.2.1.2.2.1).bind fun u2=>
  (Mj (BD,Ap,()) (b5,fS,()) u2.2.2.1).bind fun u3=>
  (AJ 4 u2.2.1.1 u2.2.1.2.1 u2.2.1.2.2.1).bind fun u4=>
  cond (u4.1.1==0)
   ((AJ 5 u4.2.1.1 u4.2.1.2.1 u4.2.1.2.2.1).bind fun u5=>
   (QV (BD,Ap,()) (b5,fS,()) (b5.length:Int) u5.1.1).bind fun u6=>
   cond (u6.1.1.2.1)
    (R3 (AS (t6+1)) u5.2.1.1 u5.2.1.2.1 u5.2.1.2.2.1 BD Ap LM b3 u6.1.1.1.2.1 u6.2.1)
   (R3 (AS (t6+1)) u5.2.1.1 u5.2.1.2.1 u5.2.1.2.2.1 BD Ap LM b3 fS b5))
  (cond (u4.1.1==1)
   ((AJ 2 u4.2.1.1 u4.2.1.2.1 u4.2.1.2.2.1).bind fun u7=>
   (AJ 4 u7.2.1.1 u7.2.1.2.1 u7.2.1.2.2.1).bind fun u8=>
   (CY (AS (1+u7.1.1)) (AS (1+u8.1.1))).bind fun u9=>
   (Sy (BD,Ap,()) (b5,fS,()) u9.1.1).bind fun Dd=>
   cond (Dd.1.1.2.1)
    (R3 (AS (t6+1)) u8.2.1.1 u8.2.1.2.1 u8.2.1.2.2.1 BD Ap LM b3 Dd.1.1.1.2.1 Dd.2.1)
   (R3 (AS (t6+1)) u8.2.1.1 u8.2.1.2.1 u8.2.1.2.2.1 BD Ap LM b3 fS b5))
  (cond (u3.1.1.2.2.1)
   (R3 (AS (t6+1)) u4.2.1.1 u4.2.1.2.1 u4.2.1.2.2.1 BD Ap LM b3 u3.1.1.1.2.1 u3.2.1)
  (R3 (AS (t6+1)) u4.2.1.1 u4.2.1.2.1 u4.2.1.2.2.1 BD Ap LM b3 fS b5))))
 (some ((((),fS,()),()),((u1.2.1.1,u1.2.1.2.1,u1.2.1.2.2.1,()),b5,())))
def G1:Nat→QD
 |0=>fun _ _ _ _ _ _ _ _ _ _=>none
 |n+1=>SI (G1 n)
def Sq(R3:QD)(p1:ABD)(AL:AAD)(AE AY:Int):Option M1:=
 R3 0 AL AE AY p1.1 p1.2.1 0 [] 0 []
def Po(p1:ABD)(AL:AAD)(AE AY:Int):Option M1:=Sq (G1 AX) p1 AL AE AY
abbrev Nr:Type:=ACc×AL5
abbrev V8:Type:=List Int→List Int→Int→Int→Int→AAg→Int→AAg→Option Nr
def Xx(R17:V8)(t7 AL:AAD)(AE AY Ap:Int)(b2:AAg)(eW:Int)(b4:AAg):Option Nr:=
 (AJ 2 AL AE AY).bind fun LR=>
 cond ((decide ((b4.length:Int)<(AS (30+LR.1.1)))))
  (if b4.length+1≤C7 then(
  R17 t7 LR.2.1.1 LR.2.1.2.1 LR.2.1.2.2.1 Ap b2 eW (b4++[(t7,false,0,())]))else none)
 (some ((((),eW,()),()),((LR.2.1.1,LR.2.1.2.1,LR.2.1.2.2.1,()),b4,())))
def NY:Nat→V8
 |0=>fun _ _ _ _ _ _ _ _=>none
 |n+1=>Xx (NY n)
def ZF(R17:V8)(p1:ABD)(AL:AAD)(AE AY:Int):Option Nr:=
 (Po (p1.1,p1.2.1,()) AL AE AY).bind fun u1=>
 let x2:Int:=(u1.2.2.1.length:Int)
 (AJ 25 u1.2.1.1 u1.2.1.2.1 u1.2.1.2.2.1).bind fun u3=>
 cond (u3.1.1==0)
  ((FD u3.2.1.1 u3.2.1.2.1 u3.2.1.2.2.1).bind fun u4=>
  some ((((),u4.1.1,()),()),((u4.2.1.1,u4.2.1.2.1,u4.2.1.2.2.1,()),u1.2.2.1,())))
 (cond (u3.1.1==1)
  (cond (decide (x2>0))
   (if(0:Int)≤AS (x2-1)∧AS (x2-1)<(u1.2.2.1.length:Int)then(
   some ((((),u1.1.1.2.1,()),()),((u3.2.1.1,u3.2.1.2.1,u3.2.1.2.2.1,()),(u1.2.2.1.set ((AS (x2-1)).toNat) ((u1.2.2.1.getD ((AS (x2-1)).toNat) ([],false,0,())).1,true,(u1.2.2.1.getD ((AS (x2-1)).toNat) ([],false,0,())).2.2.1,())),())))else none)
  (some ((((),u1.1.1.2.1,()),()),((u3.2.1.1,u3.2.1.2.1,u3.2.1.2.2.1,()),u1.2.2.1,()))))
 (cond (u3.1.1==2)
  (cond (decide (x2>0))
   ((CP [(-1),1,60,61] u3.2.1.1 u3.2.1.2.1 u3.2.1.2.2.1).bind fun u6=>
   if(0:Int)≤(0:Int)∧(0:Int)<(u1.2.2.1.length:Int)then(
   some ((((),u1.1.1.2.1,()),()),((u6.2.1.1,u6.2.1.2.1,u6.2.1.2.2.1,()),(u1.2.2.1.set 0 ((u1.2.2.1.getD 0 ([],false,0,())).1,(u1.2.2.1.getD 0 ([],false,0,())).2.1,u6.1.1,())),())))else none)
  (some ((((),u1.1.1.2.1,()),()),((u3.2.1.1,u3.2.1.2.1,u3.2.1.2.2.1,()),u1.2.2.1,()))))
 (cond (u3.1.1==3)
  (cond (decide (x2>0))
   ((FK (p1.1,p1.2.1,()) u3.2.1.1 u3.2.1.2.1 u3.2.1.2.2.1).bind fun u8=>
   if(0:Int)≤(0:Int)∧(0:Int)<(u1.2.2.1.length:Int)then(
   some ((((),u1.1.1.2.1,()),()),((u8.2.1.1,u8.2.1.2.1,u8.2.1.2.2.1,()),(u1.2.2.1.set 0 (u8.2.2.1,(u1.2.2.1.getD 0 ([],false,0,())).2.1,(u1.2.2.1.getD 0 ([],false,0,())).2.2.1,())),())))else none)
  (some ((((),u1.1.1.2.1,()),()),((u3.2.1.1,u3.2.1.2.1,u3.2.1.2.2.1,()),u1.2.2.1,()))))
 (cond (u3.1.1==4)
  ((Hv (p1.1,p1.2.1,()) u3.2.1.1 u3.2.1.2.1 u3.2.1.2.2.1).bind fun Dd=>
  R17 Dd.2.2.1 Dd.2.1.1 Dd.2.1.2.1 Dd.2.1.2.2.1 0 [] u1.1.1.2.1 u1.2.2.1)
 (some ((((),u1.1.1.2.1,()),()),((u3.2.1.1,u3.2.1.2.1,u3.2.1.2.2.1,()),u1.2.2.1,())))))))
def VF(p1:ABD)(AL:AAD)(AE AY:Int):Option Nr:=ZF (NY AX) p1 AL AE AY
abbrev Md:Type:=AEd×AMA
abbrev P8:Type:=Int→List Int→Int→Int→List Int→Int→Int→AB3→Int→AB3→Option Md
def TF(R3:P8)(t6:Int)(AL:AAD)(AE AY:Int)(BD:AAD)(Ap I2:Int)(b3:AB3)(kC:Int)(b5:AB3):Option Md:=
 (AJ 14 AL AE AY).bind fun u2=>
 cond (decide (t6<u2.1.1))
  ((HA [[],[97],[98,99]] u2.2.1.1 u2.2.1.2.1 u2.2.1.2.2.1).bind fun u3=>
  (Gj (BD,Ap,()) (kC,b5,()) u3.1.1).bind fun u4=>
  (A5 2 u3.2.1.1 u3.2.1.2.1 u3.2.1.2.2.1).bind fun u5=>
  cond (u5.1.1)
   ((FQ (b5.length:Int) 1).bind fun u6=>
   (AJ u6.1.1 u5.2.1.1 u5.2.1.2.1 u5.2.1.2.2.1).bind fun u7=>
   (AJ (BD.length:Int) u7.2.1.1 u7.2.1.2.1 u7.2.1.2.2.1).bind fun u8=>
   (Dr (BD,Ap,()) (kC,b5,()) (AS (1+u7.1.1)) u8.1.1).bind fun u9=>
   cond (u9.1.1.2.1)
    (R3 (AS (t6+1)) u8.2.1.1 u8.2.1.2.1 u8.2.1.2.2.1 BD Ap I2 b3 u9.1.1.1.1 u9.2.1)
   (R3 (AS (t6+1)) u8.2.1.1 u8.2.1.2.1 u8.2.1.2.2.1 BD Ap I2 b3 kC b5))
  (cond (u4.1.1.2.2.1)
   (R3 (AS (t6+1)) u5.2.1.1 u5.2.1.2.1 u5.2.1.2.2.1 BD Ap I2 b3 u4.1.1.1.1 u4.2.1)
  (R3 (AS (t6+1)) u5.2.1.1 u5.2.1.2.1 u5.2.1.2.2.1 BD Ap I2 b3 kC b5)))
 (some (((kC,(),()),()),((u2.2.1.1,u2.2.1.2.1,u2.2.1.2.2.1,()),b5,())))
def Im:Nat→P8
 |0=>fun _ _ _ _ _ _ _ _ _ _=>none
 |n+1=>TF (Im n)
def Sl(R3:P8)(p1:ABD)(AL:AAD)(AE AY:Int):Option Md:=
 (AJ 4 AL AE AY).bind fun u1=>
 R3 0 u1.2.1.1 u1.2.1.2.1 u1.2.1.2.2.1 p1.1 p1.2.1 0 [] (AS (1+u1.1.1)) []
def Pm(p1:ABD)(AL:AAD)(AE AY:Int):Option Md:=Sl (Im AX) p1 AL AE AY
abbrev Nj:Type:=AEd×AMA
abbrev WD:Type:=List Int→Int→Int→Int→AB3→Int→AB3→Option Nj
def Q0(sX:WD)(AL:AAD)(AE AY BD:Int)(b2:AB3)(gu:Int)(b4:AB3):Option Nj:=
 cond ((decide ((b4.length:Int)<60)))
  (cond ((decide ((b4.length:Int)>0)))
   (if(0:Int)≤(0:Int)∧(0:Int)<(b4.length:Int)then(
   if b4.length+1≤C7 then(
   sX AL AE AY BD b2 gu (b4++[((b4.getD 0 ([],[],false,())).1,(b4.getD 0 ([],[],false,())).2.1,(b4.getD 0 ([],[],false,())).2.2.1,())]))else none)else none)
  (some (((gu,(),()),()),((AL,AE,AY,()),b4,()))))
 (some (((gu,(),()),()),((AL,AE,AY,()),b4,())))
def HC:Nat→WD
 |0=>fun _ _ _ _ _ _ _=>none
 |n+1=>Q0 (HC n)
def OV(sX:WD)(p1:ABD)(AL:AAD)(AE AY:Int):Option Nj:=
 (Pm (p1.1,p1.2.1,()) AL AE AY).bind fun u1=>
 (AJ 25 u1.2.1.1 u1.2.1.2.1 u1.2.1.2.2.1).bind fun u2=>
 cond (u2.1.1==0)
  ((CP [0,30,31] u2.2.1.1 u2.2.1.2.1 u2.2.1.2.2.1).bind fun u3=>
  some (((u3.1.1,(),()),()),((u3.2.1.1,u3.2.1.2.1,u3.2.1.2.2.1,()),u1.2.2.1,())))
 (cond (u2.1.1==1)
  (cond (decide ((u1.2.2.1.length:Int)>0))
   (if(0:Int)≤(0:Int)∧(0:Int)<(u1.2.2.1.length:Int)then(
   if(0:Int)≤(0:Int)∧(0:Int)<(u1.2.2.1.length:Int)then(
   some (((u1.1.1.1,(),()),()),((u2.2.1.1,u2.2.1.2.1,u2.2.1.2.2.1,()),(u1.2.2.1.set 0 ((u1.2.2.1.getD 0 ([],[],false,())).1,(u1.2.2.1.getD 0 ([],[],false,())).2.1,!((u1.2.2.1.getD 0 ([],[],false,())).2.2.1),())),())))else none)else none)
  (some (((u1.1.1.1,(),()),()),((u2.2.1.1,u2.2.1.2.1,u2.2.1.2.2.1,()),u1.2.2.1,()))))
 (cond (u2.1.1==2)
  ((AJ 2 u2.2.1.1 u2.2.1.2.1 u2.2.1.2.2.1).bind fun u7=>
  if(0:Int)≤(AS (40+u7.1.1))∧(AS (40+u7.1.1))≤(AS (40+u7.1.1))∧(AS (40+u7.1.1))≤(C7:Int)then(
  if u1.2.2.1.length+1≤C7 then(
  some (((u1.1.1.1,(),()),()),((u7.2.1.1,u7.2.1.2.1,u7.2.1.2.2.1,()),(u1.2.2.1++[(((List.replicate ((AS (40+u7.1.1)).toNat) 0).map fun n:Int=>UInt8.ofNat n.toNat),[],false,())]),())))else none)else none)
 (cond (u2.1.1==3)
  (sX u2.2.1.1 u2.2.1.2.1 u2.2.1.2.2.1 0 [] u1.1.1.1 u1.2.2.1)
 (some (((u1.1.1.1,(),()),()),((u2.2.1.1,u2.2.1.2.1,u2.2.1.2.2.1,()),u1.2.2.1,()))))))
def Oo(p1:ABD)(AL:AAD)(AE AY:Int):Option Nj:=OV (HC AX) p1 AL AE AY
abbrev Gu:Type:=ACP×ACQ
abbrev Vw:Type:=Int→List Int→Int→List Int→Option Gu
def X1(R3:Vw)(t6:Int)(AL:AAD)(AE:Int)(b1:AAD):Option Gu:=
 cond ((decide (t6<(AL.length:Int))))
  ((EX (AL,AE,()) b1).bind fun u2=>
  cond (!u2.1.1)
   ((Ig b1 t6).bind fun u3=>
   R3 (AS (t6+1)) AL AE u3.2.1)
  (some (((),()),(b1,()))))
 (some (((),()),(b1,())))
def NJ:Nat→Vw
 |0=>fun _ _ _ _=>none
 |n+1=>X1 (NJ n)
def Xj(R3:Vw)(p0:ABD)(p1:ABU):Option Gu:=
 if 0+p1.2.2.1.length≤C7 then(
 R3 0 p0.1 p0.2.1 p1.2.2.1)else none
def M6(p0:ABD)(p1:ABU):Option Gu:=Xj (NJ AX) p0 p1
abbrev Hg:Type:=AD4×AMF
abbrev Lc:Type:=Int→Int→List Int→Int→Int→List Int→Int→Int→Int→Bool→List Int→AAs→List AAD→Int→Int→Bool→List Int→AAs→List AAD→Option Hg
abbrev Ku:Type:=Int→List Int→Int→Int→List Int→Int→Int→Int→Bool→List Int→AAs→List AAD→Int→Int→Bool→List Int→AAs→List AAD→Option Hg
def M_(R4:Lc)(ic:Ku)(t6 t7:Int)(AL:AAD)(AE AY:Int)(BD:AAD)(Ap I2 LM:Int)(QE:Bool)(b3:AAD)(b4:AAs)(b5:List AAD)(LS KI:Int)(LP:Bool)(b7:AAD)(b8:AAs)(b9:List AAD):Option Hg:=
 cond (decide (t7<t6))
  ((AJ (BD.length:Int) AL AE AY).bind fun u4=>
  (GO u4.2.1.1 u4.2.1.2.1 u4.2.1.2.2.1).bind fun u5=>
  (JE (u5.2.2.1,u5.2.2.2.1,u5.1.1.2.2.1,()) KI).bind fun u6=>
  (JL (BD,Ap,()) (LS,KI,b7,b8,LP,b9,()) u4.1.1 u6.2.1).bind fun u7=>
  cond (u7.1.1.2.1)
   (R4 t6 (AS (t7+1)) u5.2.1.1 u5.2.1.2.1 u5.2.1.2.2.1 BD Ap I2 LM QE b3 b4 b5 u7.1.1.1.1 u7.1.1.1.2.1 u7.1.1.1.2.2.2.2.1 u7.2.1 u7.2.2.1 u7.2.2.2.1)
  (R4 t6 (AS (t7+1)) u5.2.1.1 u5.2.1.2.1 u5.2.1.2.2.1 BD Ap I2 LM QE b3 b4 b5 LS KI LP b7 b8 b9))
 ((A5 3 AL AE AY).bind fun WL=>
 cond (WL.1.1)
  (some (((LS,KI,(),(),LP,(),()),()),((WL.2.1.1,WL.2.1.2.1,WL.2.1.2.2.1,()),b7,b8,b9,())))
 ((M6 (BD,Ap,()) (LS,KI,b7,b8,LP,b9,())).bind fun fa=>
 (JB (BD,Ap,()) (LS,KI,b7,b8,LP,b9,()) fa.2.1).bind fun MY=>
 cond (MY.1.1.2.1)
  (ic 0 WL.2.1.1 WL.2.1.2.1 WL.2.1.2.2.1 BD Ap I2 LM QE b3 b4 b5 MY.1.1.1.1 MY.1.1.1.2.1 MY.1.1.1.2.2.2.2.1 MY.2.1 MY.2.2.1 MY.2.2.2.1)
 (ic 0 WL.2.1.1 WL.2.1.2.1 WL.2.1.2.2.1 BD Ap I2 LM QE b3 b4 b5 LS KI LP b7 b8 b9)))
def L7(R4:Lc)(ic:Ku)(t12:Int)(AL:AAD)(AE AY:Int)(BD:AAD)(Ap I2 LM:Int)(QE:Bool)(b3:AAD)(b4:AAs)(b5:List AAD)(LS KI:Int)(LP:Bool)(b7:AAD)(b8:AAs)(b9:List AAD):Option Hg:=
 (AJ 9 AL AE AY).bind fun It=>
 cond ((decide (t12<It.1.1)))
  ((FQ (b9.length:Int) 1).bind fun cw=>
  (AJ cw.1.1 It.2.1.1 It.2.1.2.1 It.2.1.2.2.1).bind fun bW=>
  (AJ (BD.length:Int) bW.2.1.1 bW.2.1.2.1 bW.2.1.2.2.1).bind fun PT=>
  (EZ (BD,Ap,()) (LS,KI,b7,b8,LP,b9,()) (AS (1+bW.1.1)) PT.1.1).bind fun ZZ=>
  cond (ZZ.1.1.2.1)
   (ic (AS (t12+1)) PT.2.1.1 PT.2.1.2.1 PT.2.1.2.2.1 BD Ap I2 LM QE b3 b4 b5 ZZ.1.1.1.1 ZZ.1.1.1.2.1 ZZ.1.1.1.2.2.2.2.1 ZZ.2.1 ZZ.2.2.1 ZZ.2.2.2.1)
  (ic (AS (t12+1)) PT.2.1.1 PT.2.1.2.1 PT.2.1.2.2.1 BD Ap I2 LM QE b3 b4 b5 LS KI LP b7 b8 b9))
 (some (((LS,KI,(),(),LP,(),()),()),((It.2.1.1,It.2.1.2.1,It.2.1.2.2.1,()),b7,b8,b9,())))
mutual
def B6:Nat→Lc
 |0=>fun _ _ _ _ _ _ _ _ _ _ _ _ _ _ _ _ _ _ _=>none
 |n+1=>M_ (B6 n) (BQ n)
def BQ:Nat→Ku
 |0=>fun _ _ _ _ _ _ _ _ _ _ _ _ _ _ _ _ _ _=>none
 |n+1=>L7 (B6 n) (BQ n)
end
def Ml(R4:Lc)(ic:Ku)(p1:ABD)(AL:AAD)(AE AY:Int):Option Hg:=
 (AJ 2 AL AE AY).bind fun u1=>
 (ND (AS (1+u1.1.1)) 4).bind fun u2=>
 (AJ 5 u1.2.1.1 u1.2.1.2.1 u1.2.1.2.2.1).bind fun u3=>
 R4 u3.1.1 0 u3.2.1.1 u3.2.1.2.1 u3.2.1.2.2.1 p1.1 p1.2.1 0 0 false [] [] [] u2.1.1.1 u2.1.1.2.1 u2.1.1.2.2.2.2.1 u2.2.1 u2.2.2.1 u2.2.2.2.1
def MT(p1:ABD)(AL:AAD)(AE AY:Int):Option Hg:=Ml (B6 AX) (BQ AX) p1 AL AE AY
abbrev aH:Type:=AD4×AMF
def Vu(p1:ABD)(AL:AAD)(AE AY:Int):Option aH:=
 (MT (p1.1,p1.2.1,()) AL AE AY).bind fun u1=>
 (AJ 25 u1.2.1.1 u1.2.1.2.1 u1.2.1.2.2.1).bind fun u2=>
 cond (u2.1.1==0)
  ((CP [u1.1.1.2.1,30,31] u2.2.1.1 u2.2.1.2.1 u2.2.1.2.2.1).bind fun u3=>
  some (((u3.1.1,u1.1.1.2.1,(),(),u1.1.1.2.2.2.2.1,(),()),()),((u3.2.1.1,u3.2.1.2.1,u3.2.1.2.2.1,()),u1.2.2.1,u1.2.2.2.1,u1.2.2.2.2.1,())))
 (cond (u2.1.1==1)
  (some (((u1.1.1.1,u1.1.1.2.1,(),(),!u1.1.1.2.2.2.2.1,(),()),()),((u2.2.1.1,u2.2.1.2.1,u2.2.1.2.2.1,()),u1.2.2.1,u1.2.2.2.1,u1.2.2.2.2.1,())))
 (cond (u2.1.1==2)
  ((FK (p1.1,p1.2.1,()) u2.2.1.1 u2.2.1.2.1 u2.2.1.2.2.1).bind fun u4=>
  if u1.2.2.2.2.1.length+1≤C7 then(
  some (((u1.1.1.1,u1.1.1.2.1,(),(),u1.1.1.2.2.2.2.1,(),()),()),((u4.2.1.1,u4.2.1.2.1,u4.2.1.2.2.1,()),u1.2.2.1,u1.2.2.2.1,(u1.2.2.2.2.1++[u4.2.2.1]),())))else none)
 (cond (u2.1.1==3)
  ((SA u2.2.1.1 u2.2.1.2.1 u2.2.1.2.2.1).bind fun u9=>
  if u1.2.2.2.1.length+1≤C7 then(
  some (((u1.1.1.1,u1.1.1.2.1,(),(),u1.1.1.2.2.2.2.1,(),()),()),((u9.2.1.1,u9.2.1.2.1,u9.2.1.2.2.1,()),u1.2.2.1,(u1.2.2.2.1++[(u9.1.1.1,u9.1.1.2.1,u9.1.1.2.2.1,u9.1.1.2.2.2.1,())]),u1.2.2.2.2.1,())))else none)
 (cond (u2.1.1==4)
  ((FK (p1.1,p1.2.1,()) u2.2.1.1 u2.2.1.2.1 u2.2.1.2.2.1).bind fun F5=>
  some (((u1.1.1.1,u1.1.1.2.1,(),(),u1.1.1.2.2.2.2.1,(),()),()),((F5.2.1.1,F5.2.1.2.1,F5.2.1.2.2.1,()),F5.2.2.1,u1.2.2.2.1,u1.2.2.2.2.1,())))
 (some (((u1.1.1.1,u1.1.1.2.1,(),(),u1.1.1.2.2.2.2.1,(),()),()),((u2.2.1.1,u2.2.1.2.1,u2.2.1.2.2.1,()),u1.2.2.1,u1.2.2.2.1,u1.2.2.2.2.1,())))))))
abbrev GQ:Type:=AEg×(ACW×ACU×Unit)
abbrev Nu:Type:=Int→List Int→Int→Int→Int→Int→ACU→Int→Int→ACU→Option GQ
def Qe(R3:Nu)(t4:Int)(AL:AAD)(AE AY BD Ap:Int)(b2:ACU)(gu eW:Int)(b4:ACU):Option GQ:=
 (AJ 4 AL AE AY).bind fun u3=>
 cond (decide (t4<u3.1.1))
  ((AJ 5 u3.2.1.1 u3.2.1.2.1 u3.2.1.2.2.1).bind fun u4=>
  (FD u4.2.1.1 u4.2.1.2.1 u4.2.1.2.2.1).bind fun u5=>
  if b4.length+1≤C7 then(
  R3 (AS (t4+1)) u5.2.1.1 u5.2.1.2.1 u5.2.1.2.2.1 BD Ap b2 gu eW (b4++[(AS (1+u4.1.1),u5.1.1,[],())]))else none)
 ((AJ 25 u3.2.1.1 u3.2.1.2.1 u3.2.1.2.2.1).bind fun Mh=>
 cond (Mh.1.1==0)
  ((CP [0,31,32] Mh.2.1.1 Mh.2.1.2.1 Mh.2.1.2.2.1).bind fun F5=>
  some (((F5.1.1,eW,(),()),()),((F5.2.1.1,F5.2.1.2.1,F5.2.1.2.2.1,()),b4,())))
 (cond (Mh.1.1==1)
  ((CP [0,60,61,62] Mh.2.1.1 Mh.2.1.2.1 Mh.2.1.2.2.1).bind fun uM=>
  some (((gu,uM.1.1,(),()),()),((uM.2.1.1,uM.2.1.2.1,uM.2.1.2.2.1,()),b4,())))
 (cond (Mh.1.1==2)
  ((AJ 2 Mh.2.1.1 Mh.2.1.2.1 Mh.2.1.2.2.1).bind fun u16=>
  if(0:Int)≤(AS (120+u16.1.1))∧(AS (120+u16.1.1))≤(AS (120+u16.1.1))∧(AS (120+u16.1.1))≤(C7:Int)then(
  some (((gu,eW,(),()),()),((u16.2.1.1,u16.2.1.2.1,u16.2.1.2.2.1,()),(List.replicate ((AS (120+u16.1.1)).toNat) (0,0,[],())),())))else none)
 (some (((gu,eW,(),()),()),((Mh.2.1.1,Mh.2.1.2.1,Mh.2.1.2.2.1,()),b4,()))))))
def HO:Nat→Nu
 |0=>fun _ _ _ _ _ _ _ _ _ _=>none
 |n+1=>Qe (HO n)
def QS(R3:Nu)(AL:AAD)(AE AY:Int):Option GQ:=
 (AJ 3 AL AE AY).bind fun u1=>
 (AJ 5 u1.2.1.1 u1.2.1.2.1 u1.2.1.2.2.1).bind fun u2=>
 R3 0 u2.2.1.1 u2.2.1.2.1 u2.2.1.2.2.1 0 0 [] (AS (1+u1.1.1)) (AS (1+u2.1.1)) []
def Jq(AL:AAD)(AE AY:Int):Option GQ:=QS (HO AX) AL AE AY
abbrev fp:Type:=AE7×(ACW×List Int×AAh×List Int×AAg×AAq×AA2×AA3×AAo×Unit)
def IY(p1 AL:AAD)(AE AY:Int):Option fp:=
 (Mb p1 40 90).bind fun u1=>
 (Kp u1.1.1 AL AE AY).bind fun u2=>
 let x4:AAD:=u2.2.2.2.2.2.2.2.2.2.2.2.1
 let x5:AAh:=u2.2.2.2.2.2.2.2.2.2.2.2.2.1
 let x6:AAD:=u2.2.2.2.2.2.2.2.2.2.2.2.2.2.1
 let x7:AAg:=u2.2.2.2.2.2.2.2.2.2.2.2.2.2.2.1
 let x8:AAq:=u2.2.2.2.2.2.2.2.2.2.2.2.2.2.2.2.1
 let x9:AA2:=u2.2.2.2.2.2.2.2.2.2.2.2.2.2.2.2.2.1
 let ZQ:AA3:=u2.2.2.2.2.2.2.2.2.2.2.2.2.2.2.2.2.2.1
 let cZ:AAo:=u2.2.2.2.2.2.2.2.2.2.2.2.2.2.2.2.2.2.2.1
 (AJ 40 u2.2.1.1 u2.2.1.2.1 u2.2.1.2.2.1).bind fun D_=>
 cond (D_.1.1==0)
  ((FK (x4,u2.1.1.2.2.1.2.1,()) D_.2.1.1 D_.2.1.2.1 D_.2.1.2.2.1).bind fun Mh=>
  some ((((),u2.1.1.2.2.1.2.1,(),(),(),u2.1.1.2.2.1.2.2.2.2.2.1,(),(),(),(),u2.1.1.2.2.1.2.2.2.2.2.2.2.2.2.2.1,()),()),((Mh.2.1.1,Mh.2.1.2.1,Mh.2.1.2.2.1,()),x4,x5,Mh.2.2.1,x7,x8,x9,ZQ,cZ,())))
 (cond (D_.1.1==1)
  ((Vj D_.2.1.1 D_.2.1.2.1 D_.2.1.2.2.1).bind fun F5=>
  if(0:Int)≤(0:Int)∧(0:Int)<(x5.length:Int)then(
  some ((((),u2.1.1.2.2.1.2.1,(),(),(),u2.1.1.2.2.1.2.2.2.2.2.1,(),(),(),(),u2.1.1.2.2.1.2.2.2.2.2.2.2.2.2.2.1,()),()),((F5.2.1.1,F5.2.1.2.1,F5.2.1.2.2.1,()),x4,(x5.set 0 (F5.2.2.1,F5.2.2.2.1,F5.1.1.2.2.1,())),x6,x7,x8,x9,ZQ,cZ,())))else none)
 (cond (D_.1.1==2)
  ((VF (x4,u2.1.1.2.2.1.2.1,()) D_.2.1.1 D_.2.1.2.1 D_.2.1.2.2.1).bind fun u16=>
  some ((((),u2.1.1.2.2.1.2.1,(),(),(),u16.1.1.2.1,(),(),(),(),u2.1.1.2.2.1.2.2.2.2.2.2.2.2.2.2.1,()),()),((u16.2.1.1,u16.2.1.2.1,u16.2.1.2.2.1,()),x4,x5,x6,u16.2.2.1,x8,x9,ZQ,cZ,())))
 (cond (D_.1.1==3)
  ((Oo (x4,u2.1.1.2.2.1.2.1,()) D_.2.1.1 D_.2.1.2.1 D_.2.1.2.2.1).bind fun PS=>
  if x8.length+1≤C7 then(
  some ((((),u2.1.1.2.2.1.2.1,(),(),(),u2.1.1.2.2.1.2.2.2.2.2.1,(),(),(),(),u2.1.1.2.2.1.2.2.2.2.2.2.2.2.2.2.1,()),()),((PS.2.1.1,PS.2.1.2.1,PS.2.1.2.2.1,()),x4,x5,x6,x7,(x8++[(PS.1.1.1,PS.2.2.1,())]),x9,ZQ,cZ,())))else none)
 (cond (D_.1.1==4)
  ((Vu (x4,u2.1.1.2.2.1.2.1,()) D_.2.1.1 D_.2.1.2.1 D_.2.1.2.2.1).bind fun It=>
  if x9.length+1≤C7 then(
  some ((((),u2.1.1.2.2.1.2.1,(),(),(),u2.1.1.2.2.1.2.2.2.2.2.1,(),(),(),(),u2.1.1.2.2.1.2.2.2.2.2.2.2.2.2.2.1,()),()),((It.2.1.1,It.2.1.2.1,It.2.1.2.2.1,()),x4,x5,x6,x7,x8,(x9++[(It.1.1.1,It.1.1.2.1,It.2.2.1,It.2.2.2.1,It.1.1.2.2.2.2.1,It.2.2.2.2.1,())]),ZQ,cZ,())))else none)
 (cond (D_.1.1==5)
  ((Jq D_.2.1.1 D_.2.1.2.1 D_.2.1.2.2.1).bind fun dF=>
  if(0:Int)≤(0:Int)∧(0:Int)<(ZQ.length:Int)then(
  some ((((),u2.1.1.2.2.1.2.1,(),(),(),u2.1.1.2.2.1.2.2.2.2.2.1,(),(),(),(),u2.1.1.2.2.1.2.2.2.2.2.2.2.2.2.2.1,()),()),((dF.2.1.1,dF.2.1.2.1,dF.2.1.2.2.1,()),x4,x5,x6,x7,x8,x9,(ZQ.set 0 (dF.1.1.1,dF.1.1.2.1,dF.2.2.1,())),cZ,())))else none)
 (cond (D_.1.1==6)
  ((FD D_.2.1.1 D_.2.1.2.1 D_.2.1.2.2.1).bind fun ak=>
  if cZ.length+1≤C7 then(
  some ((((),u2.1.1.2.2.1.2.1,(),(),(),u2.1.1.2.2.1.2.2.2.2.2.1,(),(),(),(),u2.1.1.2.2.1.2.2.2.2.2.2.2.2.2.2.1,()),()),((ak.2.1.1,ak.2.1.2.1,ak.2.1.2.2.1,()),x4,x5,x6,x7,x8,x9,ZQ,(cZ++[(ak.1.1,[],false,())]),())))else none)
 (cond (D_.1.1==7)
  (some ((((),u2.1.1.2.2.1.2.1,(),(),(),u2.1.1.2.2.1.2.2.2.2.2.1,(),(),(),(),!u2.1.1.2.2.1.2.2.2.2.2.2.2.2.2.2.1,()),()),((D_.2.1.1,D_.2.1.2.1,D_.2.1.2.2.1,()),x4,x5,x6,x7,x8,x9,ZQ,cZ,())))
 (cond (D_.1.1==8)
  ((Ro D_.2.1.1 D_.2.1.2.1 D_.2.1.2.2.1).bind fun mN=>
  some ((((),mN.1.1.2.1,(),(),(),u2.1.1.2.2.1.2.2.2.2.2.1,(),(),(),(),u2.1.1.2.2.1.2.2.2.2.2.2.2.2.2.2.1,()),()),((mN.2.1.1,mN.2.1.2.1,mN.2.1.2.2.1,()),mN.2.2.1,x5,x6,x7,x8,x9,ZQ,cZ,())))
 (some ((((),u2.1.1.2.2.1.2.1,(),(),(),u2.1.1.2.2.1.2.2.2.2.2.1,(),(),(),(),u2.1.1.2.2.1.2.2.2.2.2.2.2.2.2.2.1,()),()),((D_.2.1.1,D_.2.1.2.1,D_.2.1.2.2.1,()),x4,x5,x6,x7,x8,x9,ZQ,cZ,())))))))))))
abbrev PC:Type:=AE7×ACb
abbrev dD:Type:=ACc×ADw
def EM(p0:ABD)(p1:ACC):Option dD:=
 (LI (p0.1,p0.2.1,()) (p1.1,p1.2.1,())).bind fun u1=>
 cond (!u1.1.1)
  (some ((((),0,()),()),([],())))
 ((EY (p1.1,p1.2.1,())).bind fun u2=>
 some ((((),u2.1.1.2.1,()),()),(u2.2.1,())))
abbrev dq:Type:=(AKB×Unit)×ADw
def NA(p0:ABD)(p1:ACC)(p2:AAD):Option dq:=
 (LI (p0.1,p0.2.1,()) (p1.1,p1.2.1,())).bind fun u1=>
 cond (!u1.1.1)
  ((EM (p0.1,p0.2.1,()) (p1.1,p1.2.1,())).bind fun u2=>
  some (((((),u2.1.1.2.1,()),0,false,()),()),(u2.2.1,())))
 ((Gx (p0.1,p0.2.1,()) p2).bind fun u3=>
 cond (!u3.1.1)
  ((EM (p0.1,p0.2.1,()) (p1.1,p1.2.1,())).bind fun u4=>
  some (((((),u4.1.1.2.1,()),0,false,()),()),(u4.2.1,())))
 (cond (((p1.1.length:Int)==30))
  ((EM (p0.1,p0.2.1,()) (p1.1,p1.2.1,())).bind fun u6=>
  some (((((),u6.1.1.2.1,()),0,false,()),()),(u6.2.1,())))
 ((EY (p1.1,p1.2.1,())).bind fun u7=>
 (DF p2).bind fun u8=>
 if u7.2.1.length+1≤C7 then(
 let x9:AAg:=u7.2.1++[(u8.2.1,false,0,())]
 some (((((),u7.1.1.2.1,()),(x9.length:Int),true,()),()),(x9,())))else none)))
abbrev Zm:Type:=ABw×(ACz×List Int×AAh×List Int×Unit×Unit×Unit×AA3×AAo×AAg×AAq×AA2×Unit)
def Ka(p1 AE Aa:Int)(AM:Bool)(b1:AAD)(b2:AAh)(b3:AAD)(b4:AAg)(b5:AAq)(b6:AA2)(b7:AA3)(b8:AAo):Option Zm:=
 cond (((b5.length:Int)==4))
  (some ((4,()),(((),AE,(),(),(),Aa,(),(),(),(),AM,()),b1,b2,b3,(),(),(),b7,b8,b4,b5,b6,())))
 ((Hw p1).bind fun u2=>
 (NA (b1,AE,()) (b4,Aa,()) u2.2.1).bind fun u3=>
 cond (!u3.1.1.2.2.1)
  (some ((4,()),(((),AE,(),(),(),Aa,(),(),(),(),AM,()),b1,b2,b3,(),(),(),b7,b8,b4,b5,b6,())))
 (if b5.length+1≤C7 then(
 some ((0,()),(((),AE,(),(),(),u3.1.1.1.2.1,(),(),(),(),AM,()),b1,b2,b3,(),(),(),b7,b8,u3.2.1,(b5++[(u3.1.1.2.1,[],())]),[],())))else none))
abbrev Xf:Type:=AEd×AD1
def EJ(p0:ABD)(p1:ACE):Option Xf:=
 (GY (p0.1,p0.2.1,()) (p1.1,p1.2.1,())).bind fun u1=>
 cond (!u1.1.1)
  (some (((0,(),()),()),([],())))
 ((Fz (p1.1,p1.2.1,())).bind fun u2=>
 some (((u2.1.1.1,(),()),()),(u2.2.1,())))
abbrev au:Type:=(AKh×Unit)×AD1
def Jk(p0:ABD)(p1:ACE)(p2:AB_):Option au:=
 (Fz (p1.1,p1.2.1,())).bind fun u1=>
 if u1.2.1.length+1≤C7 then(
 let x2:AB3:=u1.2.1++[(p2,[],false,())]
 (GY (p0.1,p0.2.1,()) (p1.1,p1.2.1,())).bind fun u3=>
 cond (!u3.1.1)
  ((EJ (p0.1,p0.2.1,()) (p1.1,p1.2.1,())).bind fun u4=>
  some ((((u4.1.1.1,(),()),0,false,()),()),(u4.2.1,())))
 ((GY (p0.1,p0.2.1,()) (u1.1.1.1,x2,())).bind fun u5=>
 cond (!u5.1.1)
  ((EJ (p0.1,p0.2.1,()) (p1.1,p1.2.1,())).bind fun u6=>
  some ((((u6.1.1.1,(),()),0,false,()),()),(u6.2.1,())))
 (some ((((u1.1.1.1,(),()),(x2.length:Int),true,()),()),(x2,())))))else none
abbrev dO:Type:=ABw×Unit
def LY(p0:AF0)(p1:Int):Option dO:=
 some ((AS (p0.1-p1),()),())
abbrev BH:Type:=AEY×Unit
abbrev Bl:Type:=AAo→Int→Int→Int→Int→Option BH
def Ch(R3:Bl)(t0:AAo)(t1 t8 t9 t10:Int):Option BH:=
 cond (decide (t9<t10))
  (let x2:Int:=AS ((IntKind.wrap .u64 (AS (t9+t10))).fdiv (2^1))
  if(0:Int)≤x2∧x2<(t0.length:Int)then(
  (LY ((t0.getD (x2.toNat) (0,[],false,())).1,(t0.getD (x2.toNat) (0,[],false,())).2.1,(t0.getD (x2.toNat) (0,[],false,())).2.2.1,()) t1).bind fun u3=>
  cond (decide (u3.1.1<0))
   (R3 t0 t1 t8 (AS (x2+1)) t10)
  (R3 t0 t1 t8 t9 x2))else none)
 (cond (decide (t9<t8))
  (if(0:Int)≤t9∧t9<(t0.length:Int)then(
  (LY ((t0.getD (t9.toNat) (0,[],false,())).1,(t0.getD (t9.toNat) (0,[],false,())).2.1,(t0.getD (t9.toNat) (0,[],false,())).2.2.1,()) t1).bind fun u4=>
  some (((t9,u4.1.1==0,()),()),()))else none)
 (some (((t9,false,()),()),())))
def Ar:Nat→Bl
 |0=>fun _ _ _ _ _=>none
 |n+1=>Ch (Ar n)
def Cg(R3:Bl)(p0:AAo)(p1:Int):Option BH:=
 R3 p0 p1 (p0.length:Int) 0 (p0.length:Int)
def BM(p0:AAo)(p1:Int):Option BH:=Cg (Ar AX) p0 p1
abbrev Wt:Type:=AEY×Unit
def IW(p0:ABi)(p1:Int):Option Wt:=
 (BM p0.2.2.2.2.2.2.2.2.2.1 p1).bind fun u1=>
 some (((u1.1.1.1,u1.1.1.2.1,()),()),())
abbrev JD:Type:=ACP×(Unit×AAo×Unit)
def EI(p1:Int)(p2 b0:AAo):Option JD:=(vX p1 p2 b0).map fun l=>(((),()),((),l,()))
abbrev ai:Type:=ABw×(ACz×List Int×AAh×List Int×AAg×AAq×AA2×AA3×Unit×AAo×Unit)
def Lj(p1:Int)(p2:AB_)(AE Aa:Int)(AM:Bool)(b1:AAD)(b2:AAh)(b3:AAD)(b4:AAg)(b5:AAq)(b6:AA2)(b7:AA3)(b8:AAo):Option ai:=
 (A3 p1 0 (AS ((b5.length:Int)-1))).bind fun u2=>
 cond (!u2.1.1)
  (some ((2,()),(((),AE,(),(),(),Aa,(),(),(),(),AM,()),b1,b2,b3,b4,b5,b6,b7,(),b8,())))
 (if(0:Int)≤p1∧p1<(b5.length:Int)then(
 (Jk (b1,AE,()) ((b5.getD (p1.toNat) (0,[],())).1,(b5.getD (p1.toNat) (0,[],())).2.1,()) p2).bind fun u3=>
 (Dm u3.1.1.1.1 u3.1.1.2.1).bind fun u4=>
 (IW (b1,AE,b2,b3,b4,Aa,b5,b6,b7,b8,AM,()) u4.1.1.1).bind fun u5=>
 cond (!u3.1.1.2.2.1)
  (some ((4,()),(((),AE,(),(),(),Aa,(),(),(),(),AM,()),b1,b2,b3,b4,b5,b6,b7,(),b8,())))
 (cond (((b8.length:Int)==120))
  (some ((4,()),(((),AE,(),(),(),Aa,(),(),(),(),AM,()),b1,b2,b3,b4,b5,b6,b7,(),b8,())))
 (cond (u5.1.1.2.1)
  (some ((4,()),(((),AE,(),(),(),Aa,(),(),(),(),AM,()),b1,b2,b3,b4,b5,b6,b7,(),b8,())))
 (if(0:Int)≤p1∧p1<(b5.length:Int)then(
 (EI u5.1.1.1 [(u4.1.1.1,p2,false,())] b8).bind fun u8=>
 some ((0,()),(((),AE,(),(),(),Aa,(),(),(),(),AM,()),b1,b2,b3,b4,(b5.set (p1.toNat) (u3.1.1.1.1,u3.2.1,())),b6,b7,(),u8.2.2.1,())))else none))))else none)
abbrev dP:Type:=ABw×Unit
def ER(p0:ABi)(p1:Int):Option dP:=
 (A3 p1 0 (AS ((p0.2.2.1.length:Int)-1))).bind fun u2=>
 cond (!u2.1.1)
  (some ((2,()),()))
 ((C4 p0 p1).bind fun u3=>
 cond (u3.1.1)
  (some ((3,()),()))
 (some ((0,()),())))
abbrev cY:Type:=ACP×ACQ
def JK(p0:ACC)(p1:Int):Option cY:=
 (A3 p1 1 (p0.1.length:Int)).bind fun u1=>
 cond (!u1.1.1)
  (some (((),()),([],())))
 (if(0:Int)≤AS (p1-1)∧AS (p1-1)<(p0.1.length:Int)then(
 (DF ((p0.1.getD ((AS (p1-1)).toNat) ([],false,0,())).1)).bind fun u2=>
 some (((),()),(u2.2.1,())))else none)
abbrev IL:Type:=ABw×Unit
def Di(p0:ABi)(p1 p2:Int):Option IL:=
 (ER p0 p1).bind fun u1=>
 cond (u1.1.1==0)
  ((JK (p0.2.2.2.2.1,p0.2.2.2.2.2.1,()) p2).bind fun u2=>
  (Bk u2.2.1 p1).bind fun u3=>
  cond (!u3.1.1)
   (some ((2,()),()))
  (some ((u1.1.1,()),())))
 (some ((u1.1.1,()),()))
abbrev jz:Type:=AES×ACr
def Dk(p0:ACD):Option jz:=
 (FL (p0.1,p0.2.1,p0.2.2.1,())).bind fun u1=>
 cond (!u1.1.1)
  (some ((((),(),0,()),()),([],[],())))
 ((C9 (p0.1,p0.2.1,p0.2.2.1,())).bind fun u2=>
 some ((((),(),u2.1.1.2.2.1,()),()),(u2.2.1,u2.2.2.1,())))
abbrev nI:Type:=ADN×ACr
def Uy(p0:ACD)(p1:ACX):Option nI:=
 (FL (p0.1,p0.2.1,p0.2.2.1,())).bind fun u1=>
 cond (!u1.1.1)
  ((Dk (p0.1,p0.2.1,p0.2.2.1,())).bind fun u2=>
  some (((((),(),u2.1.1.2.2.1,()),false,()),()),(u2.2.1,u2.2.2.1,())))
 ((Mx (p1.1,p1.2.1,p1.2.2.1,p1.2.2.2.1,())).bind fun u3=>
 cond (!u3.1.1)
  ((Dk (p0.1,p0.2.1,p0.2.2.1,())).bind fun u4=>
  some (((((),(),u4.1.1.2.2.1,()),false,()),()),(u4.2.1,u4.2.2.1,())))
 (cond ((p0.2.1.length:Int)==20)
  ((Dk (p0.1,p0.2.1,p0.2.2.1,())).bind fun u6=>
  some (((((),(),u6.1.1.2.2.1,()),false,()),()),(u6.2.1,u6.2.2.1,())))
 (cond (p1.2.1==0)
  ((FI p1.1).bind fun u7=>
  cond ((decide (u7.1.1≤p0.2.2.1)))
   ((C9 (p0.1,p0.2.1,p0.2.2.1,())).bind fun u9=>
   some (((((),(),u9.1.1.2.2.1,()),false,()),()),(u9.2.1,u9.2.2.1,())))
  (cond (decide (p1.2.1>0))
   (cond ((decide (p1.2.1≤p0.2.2.1)))
    ((C9 (p0.1,p0.2.1,p0.2.2.1,())).bind fun LR=>
    some (((((),(),LR.1.1.2.2.1,()),false,()),()),(LR.2.1,LR.2.2.1,())))
   ((C9 (p0.1,p0.2.1,p0.2.2.1,())).bind fun D_=>
   if D_.2.2.1.length+1≤C7 then(
   some (((((),(),D_.1.1.2.2.1,()),true,()),()),(D_.2.1,(D_.2.2.1++[(p1.1,p1.2.1,p1.2.2.1,p1.2.2.2.1,())]),())))else none))
  ((C9 (p0.1,p0.2.1,p0.2.2.1,())).bind fun F5=>
  if F5.2.2.1.length+1≤C7 then(
  some (((((),(),F5.1.1.2.2.1,()),true,()),()),(F5.2.1,(F5.2.2.1++[(p1.1,p1.2.1,p1.2.2.1,p1.2.2.2.1,())]),())))else none)))
 (cond (decide (p1.2.1>0))
  (cond ((decide (p1.2.1≤p0.2.2.1)))
   ((C9 (p0.1,p0.2.1,p0.2.2.1,())).bind fun PS=>
   some (((((),(),PS.1.1.2.2.1,()),false,()),()),(PS.2.1,PS.2.2.1,())))
  ((C9 (p0.1,p0.2.1,p0.2.2.1,())).bind fun WL=>
  if WL.2.2.1.length+1≤C7 then(
  some (((((),(),WL.1.1.2.2.1,()),true,()),()),(WL.2.1,(WL.2.2.1++[(p1.1,p1.2.1,p1.2.2.1,p1.2.2.2.1,())]),())))else none))
 ((C9 (p0.1,p0.2.1,p0.2.2.1,())).bind fun MY=>
 if MY.2.2.1.length+1≤C7 then(
 some (((((),(),MY.1.1.2.2.1,()),true,()),()),(MY.2.1,(MY.2.2.1++[(p1.1,p1.2.1,p1.2.2.1,p1.2.2.2.1,())]),())))else none)))))
abbrev eK:Type:=ABw×Unit
def KV(p0:Bool):Option eK:=
 cond (p0)
  (some ((0,()),()))
 (some ((4,()),()))
abbrev bH:Type:=ABw×ADp
def Lm(p1:Int)(p2:ACX)(AE Aa:Int)(AM:Bool)(b1:AAD)(b2:AAh)(b3:AAD)(b4:AAg)(b5:AAq)(b6:AA2)(b7:AA3)(b8:AAo):Option bH:=
 if(0:Int)≤p1∧p1<(b2.length:Int)then(
 (Uy ((b2.getD (p1.toNat) ([],[],0,())).1,(b2.getD (p1.toNat) ([],[],0,())).2.1,(b2.getD (p1.toNat) ([],[],0,())).2.2.1,()) (p2.1,p2.2.1,p2.2.2.1,p2.2.2.2.1,())).bind fun u1=>
 cond (u1.1.1.2.1)
  (if(0:Int)≤p1∧p1<(b2.length:Int)then(
  (KV u1.1.1.2.1).bind fun u3=>
  some ((u3.1.1,()),(((),AE,(),(),(),Aa,(),(),(),(),AM,()),b1,(b2.set (p1.toNat) (u1.2.1,u1.2.2.1,u1.1.1.1.2.2.1,())),b3,b4,b5,b6,b7,b8,())))else none)
 ((KV u1.1.1.2.1).bind fun u4=>
 some ((u4.1.1,()),(((),AE,(),(),(),Aa,(),(),(),(),AM,()),b1,b2,b3,b4,b5,b6,b7,b8,()))))else none
abbrev gw:Type:=ABw×ADp
def JY(p1:ACS)(AE Aa:Int)(AM:Bool)(b1:AAD)(b2:AAh)(b3:AAD)(b4:AAg)(b5:AAq)(b6:AA2)(b7:AA3)(b8:AAo):Option gw:=
 (A3 p1.2.1 0 (AS ((b5.length:Int)-1))).bind fun u2=>
 cond (!u2.1.1)
  (some ((2,()),(((),AE,(),(),(),Aa,(),(),(),(),AM,()),b1,b2,b3,b4,b5,b6,b7,b8,())))
 (if(0:Int)≤p1.2.1∧p1.2.1<(b5.length:Int)then(
 (A3 p1.2.2.1 1 (((b5.getD (p1.2.1.toNat) (0,[],())).2.1).length:Int)).bind fun u4=>
 cond (!u4.1.1)
  (some ((2,()),(((),AE,(),(),(),Aa,(),(),(),(),AM,()),b1,b2,b3,b4,b5,b6,b7,b8,())))
 ((Di (b1,AE,b2,b3,b4,Aa,b5,b6,b7,b8,AM,()) p1.2.2.2.1 ((b5.getD (p1.2.1.toNat) (0,[],())).1)).bind fun u6=>
 cond (u6.1.1 !=0)
  (some ((u6.1.1,()),(((),AE,(),(),(),Aa,(),(),(),(),AM,()),b1,b2,b3,b4,b5,b6,b7,b8,())))
 ((Dm ((b5.getD (p1.2.1.toNat) (0,[],())).1) p1.2.2.1).bind fun u8=>
 if(0:Int)≤AS (p1.2.2.1-1)∧AS (p1.2.2.1-1)<(((b5.getD (p1.2.1.toNat) (0,[],())).2.1).length:Int)then(
 (Lm p1.2.2.2.1 (u8.1.1.1,0,false,((((b5.getD (p1.2.1.toNat) (0,[],())).2.1).getD ((AS (p1.2.2.1-1)).toNat) ([],[],false,())).1),()) AE Aa AM b1 b2 b3 b4 b5 b6 b7 b8).bind fun Dd=>
 some ((Dd.1.1,()),(((),Dd.2.1.2.1,(),(),(),Dd.2.1.2.2.2.2.2.1,(),(),(),(),Dd.2.1.2.2.2.2.2.2.2.2.2.2.1,()),Dd.2.2.1,Dd.2.2.2.1,Dd.2.2.2.2.1,Dd.2.2.2.2.2.1,Dd.2.2.2.2.2.2.1,Dd.2.2.2.2.2.2.2.1,Dd.2.2.2.2.2.2.2.2.1,Dd.2.2.2.2.2.2.2.2.2.1,())))else none)))else none)
abbrev Pq:Type:=ACP×AGO
def Dx(p1:Int)(p2 b0:AAs):Option Pq:=(vX p1 p2 b0).map fun l=>(((),()),((),l,()))
abbrev wu:Type:=ACP×AGO
def Xa(p1:ACX)(b0:AAs):Option wu:=
 (SJ b0 p1.1).bind fun u1=>
 cond (!u1.1.1.2.1)
  ((Dx u1.1.1.1 [(p1.1,p1.2.1,p1.2.2.1,p1.2.2.2.1,())] b0).bind fun u2=>
  some (((),()),((),u2.2.2.1,())))
 (if(0:Int)≤u1.1.1.1∧u1.1.1.1<(b0.length:Int)then(
 (Rj ((b0.getD (u1.1.1.1.toNat) (0,0,false,[],())).1,(b0.getD (u1.1.1.1.toNat) (0,0,false,[],())).2.1,(b0.getD (u1.1.1.1.toNat) (0,0,false,[],())).2.2.1,(b0.getD (u1.1.1.1.toNat) (0,0,false,[],())).2.2.2.1,()) (p1.1,p1.2.1,p1.2.2.1,p1.2.2.2.1,())).bind fun u3=>
 if(0:Int)≤u1.1.1.1∧u1.1.1.1<(b0.length:Int)then(
 some (((),()),((),(b0.set (u1.1.1.1.toNat) (u3.1.1.1,u3.1.1.2.1,u3.1.1.2.2.1,u3.1.1.2.2.2.1,())),())))else none)else none)
abbrev OJ:Type:=ADN×ACr
abbrev RJ:Type:=Int→AAs→Int→Int→AAs→AAs→Int→Int→AAs→AAs→Int→AAs→AAs→Option OJ
def Tv(R6:RJ)(t1:Int)(t23:AAs)(t24 t25:Int)(AL AE:AAs)(AY DJ:Int)(b2 b3:AAs)(Mw:Int)(b5 b6:AAs):Option OJ:=
 cond (decide (t25<t24))
  (if(0:Int)≤t25∧t25<(t23.length:Int)then(
  if t25<0 then none else(
  cond (((dS .i64 (t1.fdiv (2^(min t25.toNat 64))) 1)==1))
   ((Xa ((t23.getD (t25.toNat) (0,0,false,[],())).1,(t23.getD (t25.toNat) (0,0,false,[],())).2.1,(t23.getD (t25.toNat) (0,0,false,[],())).2.2.1,(t23.getD (t25.toNat) (0,0,false,[],())).2.2.2.1,()) b5).bind fun u9=>
   R6 t1 t23 t24 (AS (t25+1)) AL AE AY DJ b2 b3 Mw u9.2.2.1 b6)
  (R6 t1 t23 t24 (AS (t25+1)) AL AE AY DJ b2 b3 Mw b5 b6)))else none)
 (cond ((decide ((b5.length:Int)>200)))
  ((C9 (AL,AE,AY,())).bind fun LR=>
  some (((((),(),LR.1.1.2.2.1,()),false,()),()),(LR.2.1,LR.2.2.1,())))
 (some (((((),(),Mw,()),true,()),()),(b5,b6,()))))
def Jo:Nat→RJ
 |0=>fun _ _ _ _ _ _ _ _ _ _ _ _ _=>none
 |n+1=>Tv (Jo n)
def T4(R6:RJ)(p0:ACD)(p1:Int):Option OJ:=
 (FL (p0.1,p0.2.1,p0.2.2.1,())).bind fun u1=>
 cond (!u1.1.1)
  ((Dk (p0.1,p0.2.1,p0.2.2.1,())).bind fun u2=>
  some (((((),(),u2.1.1.2.2.1,()),false,()),()),(u2.2.1,u2.2.2.1,())))
 ((A3 p1 0 1048575).bind fun u3=>
 cond (!u3.1.1)
  ((Dk (p0.1,p0.2.1,p0.2.2.1,())).bind fun u4=>
  some (((((),(),u4.1.1.2.2.1,()),false,()),()),(u4.2.1,u4.2.2.1,())))
 ((C9 (p0.1,p0.2.1,p0.2.2.1,())).bind fun u5=>
 R6 p1 p0.2.1 (p0.2.1.length:Int) 0 p0.1 p0.2.1 p0.2.2.1 0 [] [] u5.1.1.2.2.1 u5.2.1 []))
def NU(p0:ACD)(p1:Int):Option OJ:=T4 (Jo AX) p0 p1
abbrev kM:Type:=ADN×ACr
def PD(p0:ACD):Option kM:=
 (NU (p0.1,p0.2.1,p0.2.2.1,()) 1048575).bind fun u1=>
 some (((((),(),u1.1.1.1.2.2.1,()),u1.1.1.2.1,()),()),(u1.2.1,u1.2.2.1,()))
abbrev nf:Type:=ABV×Unit
def cmp_isNaN_int(p0:Int):Option nf:=
 some ((p0 !=p0,()),())
abbrev qA:Type:=ABV×Unit
def cmp_Less_int(p0 p1:Int):Option qA:=
 (cmp_isNaN_int p0).bind fun u1=>
 cond (u1.1.1)
  ((cmp_isNaN_int p1).bind fun u2=>
  cond (!u2.1.1)
   (some ((true,()),()))
  (some ((decide (p0<p1),()),())))
 (some ((decide (p0<p1),()),()))
abbrev gy:Type:=ABV×Unit
def Py(p0:Int):Option gy:=
 some ((p0 !=p0,()),())
abbrev FX:Type:=AEY×Unit
abbrev Hc:Type:=List Int→Int→Int→Int→Int→Option FX
def KE(R3:Hc)(t0:AAD)(t1 t6 t7 t8:Int):Option FX:=
 cond (decide (t7<t8))
  (let x2:Int:=AS ((IntKind.wrap .u64 (AS (t7+t8))).fdiv (2^1))
  if(0:Int)≤x2∧x2<(t0.length:Int)then(
  (cmp_Less_int (t0.getD (x2.toNat) 0) t1).bind fun u4=>
  cond (u4.1.1)
   (R3 t0 t1 t6 (AS (x2+1)) t8)
  (R3 t0 t1 t6 t7 x2))else none)
 (cond (decide (t7<t6))
  (if(0:Int)≤t7∧t7<(t0.length:Int)then(
  cond ((t0.getD (t7.toNat) 0)==t1)
   (some (((t7,true,()),()),()))
  (if(0:Int)≤t7∧t7<(t0.length:Int)then(
  (Py (t0.getD (t7.toNat) 0)).bind fun u7=>
  cond (u7.1.1)
   ((Py t1).bind fun u8=>
   some (((t7,u8.1.1,()),()),()))
  (some (((t7,false,()),()),())))else none))else none)
 (some (((t7,false,()),()),())))
def Dq:Nat→Hc
 |0=>fun _ _ _ _ _=>none
 |n+1=>KE (Dq n)
def KG(R3:Hc)(p0:AAD)(p1:Int):Option FX:=
 R3 p0 p1 (p0.length:Int) 0 (p0.length:Int)
def GU(p0:AAD)(p1:Int):Option FX:=KG (Dq AX) p0 p1
abbrev a_:Type:=ACP×AFl
def KA(p1:Int)(p2 b0:AAD):Option a_:=(vX p1 p2 b0).map fun l=>(((),()),((),l,()))
abbrev nT:Type:=ACP×ACQ
def LL(p0:AAD)(p1:Int):Option nT:=
 (DF p0).bind fun u1=>
 (GU u1.2.1 p1).bind fun u2=>
 cond (!u2.1.1.2.1)
  ((KA u2.1.1.1 [p1] u1.2.1).bind fun u3=>
  some (((),()),(u3.2.2.1,())))
 (some (((),()),(u1.2.1,())))
abbrev kS:Type:=AFe×AD1
def S6(p0:ABD)(p1:ACE)(p2 p3:Int):Option kS:=
 (GY (p0.1,p0.2.1,()) (p1.1,p1.2.1,())).bind fun u1=>
 cond (!u1.1.1)
  ((EJ (p0.1,p0.2.1,()) (p1.1,p1.2.1,())).bind fun u2=>
  some ((((u2.1.1.1,(),()),false,()),()),(u2.2.1,())))
 ((A3 p2 1 (p1.2.1.length:Int)).bind fun u4=>
 cond (!u4.1.1)
  ((EJ (p0.1,p0.2.1,()) (p1.1,p1.2.1,())).bind fun u5=>
  some ((((u5.1.1.1,(),()),false,()),()),(u5.2.1,())))
 (if(0:Int)≤AS (p2-1)∧AS (p2-1)<(p1.2.1.length:Int)then(
 cond (((p1.2.1.getD ((AS (p2-1)).toNat) ([],[],false,())).2.2.1))
  ((EJ (p0.1,p0.2.1,()) (p1.1,p1.2.1,())).bind fun u7=>
  some ((((u7.1.1.1,(),()),false,()),()),(u7.2.1,())))
 ((A3 p3 0 (AS ((p0.1.length:Int)-1))).bind fun u9=>
 cond (!u9.1.1)
  ((EJ (p0.1,p0.2.1,()) (p1.1,p1.2.1,())).bind fun Dd=>
  some ((((Dd.1.1.1,(),()),false,()),()),(Dd.2.1,())))
 ((Fz (p1.1,p1.2.1,())).bind fun LR=>
 if(0:Int)≤AS (p2-1)∧AS (p2-1)<(LR.2.1.length:Int)then(
 (LL ((LR.2.1.getD ((AS (p2-1)).toNat) ([],[],false,())).2.1) p3).bind fun D_=>
 let gd:AB3:=(LR.2.1.set ((AS (p2-1)).toNat) ((LR.2.1.getD ((AS (p2-1)).toNat) ([],[],false,())).1,D_.2.1,(LR.2.1.getD ((AS (p2-1)).toNat) ([],[],false,())).2.2.1,()))
 (Gx (p0.1,p0.2.1,()) ((gd.getD ((AS (p2-1)).toNat) ([],[],false,())).2.1)).bind fun F5=>
 some ((((LR.1.1.1,(),()),true,()),()),((gd.set ((AS (p2-1)).toNat) ((gd.getD ((AS (p2-1)).toNat) ([],[],false,())).1,(gd.getD ((AS (p2-1)).toNat) ([],[],false,())).2.1,F5.1.1,())),())))else none)))else none))
abbrev GC:Type:=ACP×ADp
abbrev LH:Type:=Int→Int→Int→Int→Int→Bool→List Int→AAh→List Int→AAg→AAq→AA2→AA3→AAo→Option GC
def I3(R1:LH)(t1 t2 t6 AE Aa:Int)(AM:Bool)(b1:AAD)(b2:AAh)(b3:AAD)(b4:AAg)(b5:AAq)(b6:AA2)(b7:AA3)(b8:AAo):Option GC:=
 if(0:Int)≤t1∧t1<(b5.length:Int)then(
 cond (decide (t6≤(((b5.getD (t1.toNat) (0,[],())).2.1).length:Int)))
  (if(0:Int)≤t1∧t1<(b5.length:Int)then(
  (Dm ((b5.getD (t1.toNat) (0,[],())).1) t6).bind fun u3=>
  if(0:Int)≤t2∧t2<(b2.length:Int)then(
  (Ge ((b2.getD (t2.toNat) ([],[],0,())).1,(b2.getD (t2.toNat) ([],[],0,())).2.1,(b2.getD (t2.toNat) ([],[],0,())).2.2.1,()) u3.1.1.1).bind fun u4=>
  if(0:Int)≤t1∧t1<(b5.length:Int)then(
  if(0:Int)≤AS (t6-1)∧AS (t6-1)<(((b5.getD (t1.toNat) (0,[],())).2.1).length:Int)then(
  cond (((((b5.getD (t1.toNat) (0,[],())).2.1).getD ((AS (t6-1)).toNat) ([],[],false,())).2.2.1))
   (R1 t1 t2 (AS (t6+1)) AE Aa AM b1 b2 b3 b4 b5 b6 b7 b8)
  (cond (!u4.1.1.2.1)
   (R1 t1 t2 (AS (t6+1)) AE Aa AM b1 b2 b3 b4 b5 b6 b7 b8)
  (cond (u4.1.1.1.2.1 !=0)
   (R1 t1 t2 (AS (t6+1)) AE Aa AM b1 b2 b3 b4 b5 b6 b7 b8)
  (if(0:Int)≤t1∧t1<(b5.length:Int)then(
  (S6 (b1,AE,()) ((b5.getD (t1.toNat) (0,[],())).1,(b5.getD (t1.toNat) (0,[],())).2.1,()) t6 t2).bind fun u6=>
  if(0:Int)≤t1∧t1<(b5.length:Int)then(
  let x7:AAq:=(b5.set (t1.toNat) (u6.1.1.1.1,u6.2.1,()))
  (IW (b1,AE,b2,b3,b4,Aa,x7,b6,b7,b8,AM,()) u3.1.1.1).bind fun u8=>
  cond (u8.1.1.2.1)
   (if(0:Int)≤t1∧t1<(x7.length:Int)then(
   if(0:Int)≤AS (t6-1)∧AS (t6-1)<(((x7.getD (t1.toNat) (0,[],())).2.1).length:Int)then(
   cond (((((x7.getD (t1.toNat) (0,[],())).2.1).getD ((AS (t6-1)).toNat) ([],[],false,())).2.2.1))
    (if(0:Int)≤u8.1.1.1∧u8.1.1.1<(b8.length:Int)then(
    R1 t1 t2 (AS (t6+1)) AE Aa AM b1 b2 b3 b4 x7 b6 b7 (b8.set (u8.1.1.1.toNat) ((b8.getD (u8.1.1.1.toNat) (0,[],false,())).1,(b8.getD (u8.1.1.1.toNat) (0,[],false,())).2.1,true,())))else none)
   (R1 t1 t2 (AS (t6+1)) AE Aa AM b1 b2 b3 b4 x7 b6 b7 b8))else none)else none)
  (R1 t1 t2 (AS (t6+1)) AE Aa AM b1 b2 b3 b4 x7 b6 b7 b8))else none)else none))))else none)else none)else none)else none)
 (some (((()),()),(((),AE,(),(),(),Aa,(),(),(),(),AM,()),b1,b2,b3,b4,b5,b6,b7,b8,()))))else none
def Cz:Nat→LH
 |0=>fun _ _ _ _ _ _ _ _ _ _ _ _ _ _=>none
 |n+1=>I3 (Cz n)
def OU(R1:LH)(p1 p2 AE Aa:Int)(AM:Bool)(b1:AAD)(b2:AAh)(b3:AAD)(b4:AAg)(b5:AAq)(b6:AA2)(b7:AA3)(b8:AAo):Option GC:=
 R1 p1 p2 1 AE Aa AM b1 b2 b3 b4 b5 b6 b7 b8
def N8(p1 p2 AE Aa:Int)(AM:Bool)(b1:AAD)(b2:AAh)(b3:AAD)(b4:AAg)(b5:AAq)(b6:AA2)(b7:AA3)(b8:AAo):Option GC:=OU (Cz AX) p1 p2 AE Aa AM b1 b2 b3 b4 b5 b6 b7 b8
abbrev JR:Type:=AFB×Unit
abbrev Sz:Type:=Int→AAs→Int→Int→Int→Int→List Int→AAs→Bool→List AAD→Int→Int→Bool→List UInt8→Option JR
def U_(R5:Sz)(t6:Int)(t33:AAs)(t34 t35 AL AE:Int)(AY:AAD)(DN:AAs)(EV:Bool)(Aa:List AAD)(BD Ap:Int)(DJ:Bool)(G7:AB_):Option JR:=
 cond (decide (t35<t34))
  (if(0:Int)≤t35∧t35<(t33.length:Int)then(
  cond (((t33.getD (t35.toNat) (0,0,false,[],())).1)==t6)
   (some ((((t6,AL,((t33.getD (t35.toNat) (0,0,false,[],())).2.2.1),((t33.getD (t35.toNat) (0,0,false,[],())).2.2.2.1),()),true,()),()),()))
  (R5 t6 t33 t34 (AS (t35+1)) AL AE AY DN EV Aa BD Ap DJ G7))else none)
 (some ((((t6,AL,true,[],()),true,()),()),()))
def Ki:Nat→Sz
 |0=>fun _ _ _ _ _ _ _ _ _ _ _ _ _ _=>none
 |n+1=>U_ (Ki n)
def VI(R5:Sz)(p0:ABU)(p1:Int):Option JR:=
 (Dm p0.2.1 p1).bind fun u1=>
 cond (!u1.1.1.2.1)
  (some ((((0,0,false,[],()),false,()),()),()))
 (cond (!p0.2.2.2.2.1)
  (some ((((0,0,false,[],()),false,()),()),()))
 (cond (decide (p1>(p0.2.2.2.2.2.1.length:Int)))
  (some ((((0,0,false,[],()),false,()),()),()))
 (R5 u1.1.1.1 p0.2.2.2.1 (p0.2.2.2.1.length:Int) 0 p0.1 p0.2.1 p0.2.2.1 p0.2.2.2.1 p0.2.2.2.2.1 p0.2.2.2.2.2.1 0 0 false [])))
def Jz(p0:ABU)(p1:Int):Option JR:=VI (Ki AX) p0 p1
abbrev kK:Type:=AD4×ACu
def El(p0:ABD)(p1:ABU):Option kK:=
 (Hr (p0.1,p0.2.1,()) (p1.1,p1.2.1,p1.2.2.1,p1.2.2.2.1,p1.2.2.2.2.1,p1.2.2.2.2.2.1,())).bind fun u1=>
 cond (!u1.1.1)
  (some (((0,0,(),(),false,(),()),()),([],[],[],())))
 ((Gc (p1.1,p1.2.1,p1.2.2.1,p1.2.2.2.1,p1.2.2.2.2.1,p1.2.2.2.2.2.1,())).bind fun u2=>
 some (((u2.1.1.1,u2.1.1.2.1,(),(),u2.1.1.2.2.2.2.1,(),()),()),(u2.2.1,u2.2.2.1,u2.2.2.2.1,())))
abbrev Xg:Type:=AEA×ACu
def P1(p0:ABD)(p1:ABU)(p2 p3:Int):Option Xg:=
 (Hr (p0.1,p0.2.1,()) (p1.1,p1.2.1,p1.2.2.1,p1.2.2.2.1,p1.2.2.2.2.1,p1.2.2.2.2.2.1,())).bind fun u1=>
 cond (!u1.1.1)
  ((El (p0.1,p0.2.1,()) (p1.1,p1.2.1,p1.2.2.1,p1.2.2.2.1,p1.2.2.2.2.1,p1.2.2.2.2.2.1,())).bind fun u2=>
  some ((((u2.1.1.1,u2.1.1.2.1,(),(),u2.1.1.2.2.2.2.1,(),()),false,()),()),(u2.2.1,u2.2.2.1,u2.2.2.2.1,())))
 ((A3 p2 1 (p1.2.2.2.2.2.1.length:Int)).bind fun u4=>
 cond (!u4.1.1)
  ((El (p0.1,p0.2.1,()) (p1.1,p1.2.1,p1.2.2.1,p1.2.2.2.1,p1.2.2.2.2.1,p1.2.2.2.2.2.1,())).bind fun u5=>
  some ((((u5.1.1.1,u5.1.1.2.1,(),(),u5.1.1.2.2.2.2.1,(),()),false,()),()),(u5.2.1,u5.2.2.1,u5.2.2.2.1,())))
 ((A3 p3 0 (AS ((p0.1.length:Int)-1))).bind fun u7=>
 cond (!u7.1.1)
  ((El (p0.1,p0.2.1,()) (p1.1,p1.2.1,p1.2.2.1,p1.2.2.2.1,p1.2.2.2.2.1,p1.2.2.2.2.2.1,())).bind fun u8=>
  some ((((u8.1.1.1,u8.1.1.2.1,(),(),u8.1.1.2.2.2.2.1,(),()),false,()),()),(u8.2.1,u8.2.2.1,u8.2.2.2.1,())))
 ((Gc (p1.1,p1.2.1,p1.2.2.1,p1.2.2.2.1,p1.2.2.2.2.1,p1.2.2.2.2.2.1,())).bind fun u9=>
 if(0:Int)≤AS (p2-1)∧AS (p2-1)<(u9.2.2.2.1.length:Int)then(
 (LL (u9.2.2.2.1.getD ((AS (p2-1)).toNat) []) p3).bind fun Dd=>
 if(0:Int)≤AS (p2-1)∧AS (p2-1)<(u9.2.2.2.1.length:Int)then(
 some ((((u9.1.1.1,u9.1.1.2.1,(),(),u9.1.1.2.2.2.2.1,(),()),true,()),()),(u9.2.1,u9.2.2.1,(u9.2.2.2.1.set ((AS (p2-1)).toNat) Dd.2.1),())))else none)else none)))
abbrev KC:Type:=ACP×ADp
abbrev M5:Type:=Int→Int→Int→Int→Int→Bool→List Int→AAh→List Int→AAg→AAq→AA2→AA3→AAo→Option KC
def HG(R1:M5)(t1 t2 t6 AE Aa:Int)(AM:Bool)(b1:AAD)(b2:AAh)(b3:AAD)(b4:AAg)(b5:AAq)(b6:AA2)(b7:AA3)(b8:AAo):Option KC:=
 if(0:Int)≤t1∧t1<(b6.length:Int)then(
 cond (decide (t6≤(((b6.getD (t1.toNat) (0,0,[],[],false,[],())).2.2.2.2.2.1).length:Int)))
  (if(0:Int)≤t1∧t1<(b6.length:Int)then(
  (Jz ((b6.getD (t1.toNat) (0,0,[],[],false,[],())).1,(b6.getD (t1.toNat) (0,0,[],[],false,[],())).2.1,(b6.getD (t1.toNat) (0,0,[],[],false,[],())).2.2.1,(b6.getD (t1.toNat) (0,0,[],[],false,[],())).2.2.2.1,(b6.getD (t1.toNat) (0,0,[],[],false,[],())).2.2.2.2.1,(b6.getD (t1.toNat) (0,0,[],[],false,[],())).2.2.2.2.2.1,()) t6).bind fun u2=>
  if(0:Int)≤t2∧t2<(b2.length:Int)then(
  (Ge ((b2.getD (t2.toNat) ([],[],0,())).1,(b2.getD (t2.toNat) ([],[],0,())).2.1,(b2.getD (t2.toNat) ([],[],0,())).2.2.1,()) u2.1.1.1.1).bind fun u3=>
  cond (u2.1.1.2.1)
   (cond (u3.1.1.2.1)
    (cond (((u3.1.1.1.1==u2.1.1.1.1)&&((u3.1.1.1.2.1==u2.1.1.1.2.1)&&((u3.1.1.1.2.2.1==u2.1.1.1.2.2.1)&&((u3.1.1.1.2.2.2.1==u2.1.1.1.2.2.2.1)&&true)))))
     (if(0:Int)≤t1∧t1<(b6.length:Int)then(
     (P1 (b1,AE,()) ((b6.getD (t1.toNat) (0,0,[],[],false,[],())).1,(b6.getD (t1.toNat) (0,0,[],[],false,[],())).2.1,(b6.getD (t1.toNat) (0,0,[],[],false,[],())).2.2.1,(b6.getD (t1.toNat) (0,0,[],[],false,[],())).2.2.2.1,(b6.getD (t1.toNat) (0,0,[],[],false,[],())).2.2.2.2.1,(b6.getD (t1.toNat) (0,0,[],[],false,[],())).2.2.2.2.2.1,()) t6 t2).bind fun u5=>
     if(0:Int)≤t1∧t1<(b6.length:Int)then(
     R1 t1 t2 (AS (t6+1)) AE Aa AM b1 b2 b3 b4 b5 (b6.set (t1.toNat) (u5.1.1.1.1,u5.1.1.1.2.1,u5.2.1,u5.2.2.1,u5.1.1.1.2.2.2.2.1,u5.2.2.2.1,())) b7 b8)else none)else none)
    (R1 t1 t2 (AS (t6+1)) AE Aa AM b1 b2 b3 b4 b5 b6 b7 b8))
   (R1 t1 t2 (AS (t6+1)) AE Aa AM b1 b2 b3 b4 b5 b6 b7 b8))
  (R1 t1 t2 (AS (t6+1)) AE Aa AM b1 b2 b3 b4 b5 b6 b7 b8))else none)else none)
 (some (((()),()),(((),AE,(),(),(),Aa,(),(),(),(),AM,()),b1,b2,b3,b4,b5,b6,b7,b8,()))))else none
def BT:Nat→M5
 |0=>fun _ _ _ _ _ _ _ _ _ _ _ _ _ _=>none
 |n+1=>HG (BT n)
def KJ(R1:M5)(p1 p2 AE Aa:Int)(AM:Bool)(b1:AAD)(b2:AAh)(b3:AAD)(b4:AAg)(b5:AAq)(b6:AA2)(b7:AA3)(b8:AAo):Option KC:=
 R1 p1 p2 1 AE Aa AM b1 b2 b3 b4 b5 b6 b7 b8
def Lb(p1 p2 AE Aa:Int)(AM:Bool)(b1:AAD)(b2:AAh)(b3:AAD)(b4:AAg)(b5:AAq)(b6:AA2)(b7:AA3)(b8:AAo):Option KC:=KJ (BT AX) p1 p2 AE Aa AM b1 b2 b3 b4 b5 b6 b7 b8
abbrev IG:Type:=ABw×ADp
abbrev M9:Type:=Int→Int→Int→Int→Int→Bool→List Int→AAh→List Int→AAg→AAq→AA2→AA3→AAo→Int→Option IG
abbrev LZ:Type:=Int→Int→Int→Int→Int→Bool→List Int→AAh→List Int→AAg→AAq→AA2→AA3→AAo→Option IG
def Nz(R9:M9)(ic:LZ)(t1 t42 t43 AE Aa:Int)(AM:Bool)(b1:AAD)(b2:AAh)(b3:AAD)(b4:AAg)(b5:AAq)(b6:AA2)(b7:AA3)(b8:AAo)(cA:Int):Option IG:=
 cond (decide (t43<t42))
  (if(0:Int)≤t43∧t43<(b5.length:Int)then(
  cond (decide (((b5.getD (t43.toNat) (0,[],())).1)>cA))
   ((JK (b4,Aa,()) ((b5.getD (t43.toNat) (0,[],())).1)).bind fun u6=>
   (Bk u6.2.1 t1).bind fun u7=>
   cond (u7.1.1)
    ((N8 t43 t1 AE Aa AM b1 b2 b3 b4 b5 b6 b7 b8).bind fun u8=>
    R9 t1 t42 (AS (t43+1)) u8.2.1.2.1 u8.2.1.2.2.2.2.2.1 u8.2.1.2.2.2.2.2.2.2.2.2.2.1 u8.2.2.1 u8.2.2.2.1 u8.2.2.2.2.1 u8.2.2.2.2.2.1 u8.2.2.2.2.2.2.1 u8.2.2.2.2.2.2.2.1 u8.2.2.2.2.2.2.2.2.1 u8.2.2.2.2.2.2.2.2.2.1 cA)
   (R9 t1 t42 (AS (t43+1)) AE Aa AM b1 b2 b3 b4 b5 b6 b7 b8 cA))
  (R9 t1 t42 (AS (t43+1)) AE Aa AM b1 b2 b3 b4 b5 b6 b7 b8 cA))else none)
 (ic t1 (b6.length:Int) 0 AE Aa AM b1 b2 b3 b4 b5 b6 b7 b8)
def Mo(R9:M9)(ic:LZ)(t1 t73 t74 AE Aa:Int)(AM:Bool)(b1:AAD)(b2:AAh)(b3:AAD)(b4:AAg)(b5:AAq)(b6:AA2)(b7:AA3)(b8:AAo):Option IG:=
 cond (decide (t74<t73))
  (if(0:Int)≤t74∧t74<(b6.length:Int)then(
  (JK (b4,Aa,()) ((b6.getD (t74.toNat) (0,0,[],[],false,[],())).2.1)).bind fun LR=>
  (Bk LR.2.1 t1).bind fun D_=>
  cond (D_.1.1)
   ((Lb t74 t1 AE Aa AM b1 b2 b3 b4 b5 b6 b7 b8).bind fun Mh=>
   ic t1 t73 (AS (t74+1)) Mh.2.1.2.1 Mh.2.1.2.2.2.2.2.1 Mh.2.1.2.2.2.2.2.2.2.2.2.2.1 Mh.2.2.1 Mh.2.2.2.1 Mh.2.2.2.2.1 Mh.2.2.2.2.2.1 Mh.2.2.2.2.2.2.1 Mh.2.2.2.2.2.2.2.1 Mh.2.2.2.2.2.2.2.2.1 Mh.2.2.2.2.2.2.2.2.2.1)
  (ic t1 t73 (AS (t74+1)) AE Aa AM b1 b2 b3 b4 b5 b6 b7 b8))else none)
 (some ((0,()),(((),AE,(),(),(),Aa,(),(),(),(),AM,()),b1,b2,b3,b4,b5,b6,b7,b8,())))
mutual
def Ey:Nat→M9
 |0=>fun _ _ _ _ _ _ _ _ _ _ _ _ _ _ _=>none
 |n+1=>Nz (Ey n) (FR n)
def FR:Nat→LZ
 |0=>fun _ _ _ _ _ _ _ _ _ _ _ _ _ _=>none
 |n+1=>Mo (Ey n) (FR n)
end
def Tm(R9:M9)(ic:LZ)(p1 AE Aa:Int)(AM:Bool)(b1:AAD)(b2:AAh)(b3:AAD)(b4:AAg)(b5:AAq)(b6:AA2)(b7:AA3)(b8:AAo):Option IG:=
 (ER (b1,AE,b2,b3,b4,Aa,b5,b6,b7,b8,AM,()) p1).bind fun u1=>
 cond (u1.1.1 !=0)
  (some ((u1.1.1,()),(((),AE,(),(),(),Aa,(),(),(),(),AM,()),b1,b2,b3,b4,b5,b6,b7,b8,())))
 (if(0:Int)≤p1∧p1<(b2.length:Int)then(
 (PD ((b2.getD (p1.toNat) ([],[],0,())).1,(b2.getD (p1.toNat) ([],[],0,())).2.1,(b2.getD (p1.toNat) ([],[],0,())).2.2.1,())).bind fun u2=>
 cond (!u2.1.1.2.1)
  (some ((4,()),(((),AE,(),(),(),Aa,(),(),(),(),AM,()),b1,b2,b3,b4,b5,b6,b7,b8,())))
 (if(0:Int)≤p1∧p1<(b2.length:Int)then(
 R9 p1 (b5.length:Int) 0 AE Aa AM b1 (b2.set (p1.toNat) (u2.2.1,u2.2.2.1,u2.1.1.1.2.2.1,())) b3 b4 b5 b6 b7 b8 u2.1.1.1.2.2.1)else none))else none)
def Qi(p1 AE Aa:Int)(AM:Bool)(b1:AAD)(b2:AAh)(b3:AAD)(b4:AAg)(b5:AAq)(b6:AA2)(b7:AA3)(b8:AAo):Option IG:=Tm (Ey AX) (FR AX) p1 AE Aa AM b1 b2 b3 b4 b5 b6 b7 b8
abbrev iK:Type:=ABw×ADp
def Pb(p1 p2 AE Aa:Int)(AM:Bool)(b1:AAD)(b2:AAh)(b3:AAD)(b4:AAg)(b5:AAq)(b6:AA2)(b7:AA3)(b8:AAo):Option iK:=
 (ER (b1,AE,b2,b3,b4,Aa,b5,b6,b7,b8,AM,()) p1).bind fun u1=>
 cond (u1.1.1 !=0)
  (some ((u1.1.1,()),(((),AE,(),(),(),Aa,(),(),(),(),AM,()),b1,b2,b3,b4,b5,b6,b7,b8,())))
 (if(0:Int)≤p1∧p1<(b2.length:Int)then(
 (NU ((b2.getD (p1.toNat) ([],[],0,())).1,(b2.getD (p1.toNat) ([],[],0,())).2.1,(b2.getD (p1.toNat) ([],[],0,())).2.2.1,()) p2).bind fun u2=>
 if(0:Int)≤p1∧p1<(b2.length:Int)then(
 (KV u2.1.1.2.1).bind fun u4=>
 some ((u4.1.1,()),(((),AE,(),(),(),Aa,(),(),(),(),AM,()),b1,(b2.set (p1.toNat) (u2.2.1,u2.2.2.1,u2.1.1.1.2.2.1,())),b3,b4,b5,b6,b7,b8,())))else none)else none)
abbrev eg:Type:=ABV×Unit
def Mi(p0:Int)(p1:ABw):Option eg:=
 some ((p0==p1.1,()),())
abbrev Ce:Type:=ABw×Unit
abbrev DY:Type:=List Int→ACZ→Int→Int→Option Ce
def FA(R2:DY)(t0:AAD)(t1:ACZ)(t7 t8:Int):Option Ce:=
 cond (decide (t8<t7))
  (if(0:Int)≤t8∧t8<(t0.length:Int)then(
  (Mi (t0.getD (t8.toNat) 0) t1.1).bind fun u2=>
  cond (u2.1.1)
   (some ((t8,()),()))
  (R2 t0 (t1.1,()) t7 (AS (t8+1))))else none)
 (some (((-1),()),()))
def Bt:Nat→DY
 |0=>fun _ _ _ _=>none
 |n+1=>FA (Bt n)
def FB(R2:DY)(p0:AAD)(p1:ACZ):Option Ce:=
 R2 p0 (p1.1,()) (p0.length:Int) 0
def Dz(p0:AAD)(p1:ACZ):Option Ce:=FB (Bt AX) p0 p1
abbrev Ca:Type:=ACP×AFl
abbrev DK:Type:=ACZ→Int→Int→List Int→Option Ca
def Eh(R5:DK)(t1:ACZ)(t5 t6:Int)(b0:AAD):Option Ca:=
 cond ((decide (t6<(b0.length:Int))))
  (if(0:Int)≤t6∧t6<(b0.length:Int)then(
  let x3:Int:=(b0.getD (t6.toNat) 0)
  (Mi x3 t1.1).bind fun u4=>
  cond (!u4.1.1)
   (if(0:Int)≤t5∧t5<(b0.length:Int)then(
   R5 (t1.1,()) (AS (t5+1)) (AS (t6+1)) (b0.set (t5.toNat) x3))else none)
  (R5 (t1.1,()) t5 (AS (t6+1)) b0))else none)
 (if(0:Int)≤t5∧t5≤(b0.length:Int)∧(b0.length:Int)≤(b0.length:Int)then(
 let x6:AAD:=(b0.take (t5.toNat)++List.replicate (((b0.length:Int).toNat)-(t5.toNat)) 0++b0.drop ((t5.toNat)+(((b0.length:Int).toNat)-(t5.toNat))))
 if(0:Int)≤(0:Int)∧(0:Int)≤t5∧t5≤(x6.length:Int)then(
 some (((),()),((),((x6.drop 0).take ((t5.toNat)-0)),())))else none)else none)
def Bn:Nat→DK
 |0=>fun _ _ _ _=>none
 |n+1=>Eh (Bn n)
def E5(R5:DK)(p1:ACZ)(b0:AAD):Option Ca:=
 (Dz b0 (p1.1,())).bind fun u1=>
 cond (u1.1.1==(-1))
  (some (((),()),((),b0,())))
 (R5 (p1.1,()) u1.1.1 (AS (u1.1.1+1)) b0)
def Cl(p1:ACZ)(b0:AAD):Option Ca:=E5 (Bn AX) p1 b0
abbrev X3:Type:=ACP×ACQ
def HY(p0:AAD)(p1:Int):Option X3:=
 (DF p0).bind fun u1=>
 (Cl ((p1,()),()) u1.2.1).bind fun u2=>
 some (((),()),(u2.2.2.1,()))
abbrev LU:Type:=AFe×AD1
abbrev PQ:Type:=Int→AB3→Int→Int→Int→AB3→Int→AB3→Option LU
def RZ(R5:PQ)(t2:Int)(t19:AB3)(t20 t21 AL:Int)(b1:AB3)(I2:Int)(b3:AB3):Option LU:=
 cond (decide (t21<t20))
  (if(0:Int)≤t21∧t21<(t19.length:Int)then(
  cond (!((t19.getD (t21.toNat) ([],[],false,())).2.2.1))
   ((HY ((t19.getD (t21.toNat) ([],[],false,())).2.1) t2).bind fun u5=>
   if(0:Int)≤t21∧t21<(b3.length:Int)then(
   R5 t2 t19 t20 (AS (t21+1)) AL b1 I2 (b3.set (t21.toNat) ((b3.getD (t21.toNat) ([],[],false,())).1,u5.2.1,(b3.getD (t21.toNat) ([],[],false,())).2.2.1,())))else none)
  (R5 t2 t19 t20 (AS (t21+1)) AL b1 I2 b3))else none)
 (some ((((I2,(),()),true,()),()),(b3,())))
def H6:Nat→PQ
 |0=>fun _ _ _ _ _ _ _ _=>none
 |n+1=>RZ (H6 n)
def Rv(R5:PQ)(p0:ABD)(p1:ACE)(p2:Int):Option LU:=
 (GY (p0.1,p0.2.1,()) (p1.1,p1.2.1,())).bind fun u1=>
 cond (!u1.1.1)
  (some ((((0,(),()),false,()),()),([],())))
 ((Fz (p1.1,p1.2.1,())).bind fun u2=>
 R5 p2 p1.2.1 (p1.2.1.length:Int) 0 0 [] u2.1.1.1 u2.2.1)
def OM(p0:ABD)(p1:ACE)(p2:Int):Option LU:=Rv (H6 AX) p0 p1 p2
abbrev OX:Type:=AEA×ACu
abbrev Q2:Type:=Int→List AAD→Int→Int→Int→Int→Bool→List Int→AAs→List AAD→Int→Int→Bool→List Int→AAs→List AAD→Option OX
def Tt(R5:Q2)(t2:Int)(t19:List AAD)(t20 t21 AL AE:Int)(EV:Bool)(b1:AAD)(b2:AAs)(b3:List AAD)(kC fS:Int)(vG:Bool)(b5:AAD)(b6:AAs)(b7:List AAD):Option OX:=
 cond (decide (t21<t20))
  (if(0:Int)≤t21∧t21<(t19.length:Int)then(
  (HY (t19.getD (t21.toNat) []) t2).bind fun u4=>
  if(0:Int)≤t21∧t21<(b7.length:Int)then(
  R5 t2 t19 t20 (AS (t21+1)) AL AE EV b1 b2 b3 kC fS vG b5 b6 (b7.set (t21.toNat) u4.2.1))else none)else none)
 (some ((((kC,fS,(),(),vG,(),()),true,()),()),(b5,b6,b7,())))
def J2:Nat→Q2
 |0=>fun _ _ _ _ _ _ _ _ _ _ _ _ _ _ _ _=>none
 |n+1=>Tt (J2 n)
def Tx(R5:Q2)(p0:ABD)(p1:ABU)(p2:Int):Option OX:=
 (Hr (p0.1,p0.2.1,()) (p1.1,p1.2.1,p1.2.2.1,p1.2.2.2.1,p1.2.2.2.2.1,p1.2.2.2.2.2.1,())).bind fun u1=>
 cond (!u1.1.1)
  (some ((((0,0,(),(),false,(),()),false,()),()),([],[],[],())))
 ((Gc (p1.1,p1.2.1,p1.2.2.1,p1.2.2.2.1,p1.2.2.2.2.1,p1.2.2.2.2.2.1,())).bind fun u2=>
 R5 p2 p1.2.2.2.2.2.1 (p1.2.2.2.2.2.1.length:Int) 0 0 0 false [] [] [] u2.1.1.1 u2.1.1.2.1 u2.1.1.2.2.2.2.1 u2.2.1 u2.2.2.1 u2.2.2.2.1)
def Ql(p0:ABD)(p1:ABU)(p2:Int):Option OX:=Tx (J2 AX) p0 p1 p2
abbrev Gq:Type:=ABw×AMH
abbrev Mn:Type:=Int→Int→Int→Int→Int→Bool→List Int→AAh→List Int→AAg→AAq→AA2→AA3→AAo→List Int→Option Gq
abbrev Lf:Type:=Int→Int→Int→Int→Int→Bool→List Int→AAh→List Int→AAg→AAq→AA2→AA3→AAo→List Int→Option Gq
def T2(R7:Mn)(R12:Lf)(t1 t36 t37 AE Aa:Int)(AM:Bool)(b1:AAD)(b2:AAh)(b3:AAD)(b4:AAg)(b5:AAq)(b6:AA2)(b7:AA3)(b8:AAo)(b9:AAD):Option Gq:=
 cond (decide (t37<t36))
  (if(0:Int)≤t37∧t37<(b5.length:Int)then(
  (OM (b1,AE,()) ((b5.getD (t37.toNat) (0,[],())).1,(b5.getD (t37.toNat) (0,[],())).2.1,()) t1).bind fun u4=>
  if(0:Int)≤t37∧t37<(b5.length:Int)then(
  R7 t1 t36 (AS (t37+1)) AE Aa AM b1 b2 b3 b4 (b5.set (t37.toNat) (u4.1.1.1.1,u4.2.1,())) b6 b7 b8 b9)else none)else none)
 (R12 t1 (b6.length:Int) 0 AE Aa AM b1 b2 b3 b4 b5 b6 b7 b8 b9)
def Td(R7:Mn)(R12:Lf)(t1 t63 t64 AE Aa:Int)(AM:Bool)(b1:AAD)(b2:AAh)(b3:AAD)(b4:AAg)(b5:AAq)(b6:AA2)(b7:AA3)(b8:AAo)(b9:AAD):Option Gq:=
 cond (decide (t64<t63))
  (if(0:Int)≤t64∧t64<(b6.length:Int)then(
  (Ql (b1,AE,()) ((b6.getD (t64.toNat) (0,0,[],[],false,[],())).1,(b6.getD (t64.toNat) (0,0,[],[],false,[],())).2.1,(b6.getD (t64.toNat) (0,0,[],[],false,[],())).2.2.1,(b6.getD (t64.toNat) (0,0,[],[],false,[],())).2.2.2.1,(b6.getD (t64.toNat) (0,0,[],[],false,[],())).2.2.2.2.1,(b6.getD (t64.toNat) (0,0,[],[],false,[],())).2.2.2.2.2.1,()) t1).bind fun u6=>
  if(0:Int)≤t64∧t64<(b6.length:Int)then(
  R12 t1 t63 (AS (t64+1)) AE Aa AM b1 b2 b3 b4 b5 (b6.set (t64.toNat) (u6.1.1.1.1,u6.1.1.1.2.1,u6.2.1,u6.2.2.1,u6.1.1.1.2.2.2.2.1,u6.2.2.2.1,())) b7 b8 b9)else none)else none)
 (cond (AM)
  (some ((0,()),(((),AE,(),(),(),Aa,(),(),(),(),true,()),b1,b2,(),b4,b5,b6,b7,b8,b9,())))
 ((Gx (b1,AE,()) b9).bind fun u8=>
 some ((0,()),(((),AE,(),(),(),Aa,(),(),(),(),u8.1.1,()),b1,b2,(),b4,b5,b6,b7,b8,b9,()))))
mutual
def Hd:Nat→Mn
 |0=>fun _ _ _ _ _ _ _ _ _ _ _ _ _ _ _=>none
 |n+1=>T2 (Hd n) (Gz n)
def Gz:Nat→Lf
 |0=>fun _ _ _ _ _ _ _ _ _ _ _ _ _ _ _=>none
 |n+1=>Td (Hd n) (Gz n)
end
def T3(R7:Mn)(R12:Lf)(p1 AE Aa:Int)(AM:Bool)(b1:AAD)(b2:AAh)(b3:AAD)(b4:AAg)(b5:AAq)(b6:AA2)(b7:AA3)(b8:AAo):Option Gq:=
 (ER (b1,AE,b2,b3,b4,Aa,b5,b6,b7,b8,AM,()) p1).bind fun u1=>
 cond (u1.1.1 !=0)
  (some ((u1.1.1,()),(((),AE,(),(),(),Aa,(),(),(),(),AM,()),b1,b2,(),b4,b5,b6,b7,b8,b3,())))
 (if(0:Int)≤p1∧p1<(b2.length:Int)then(
 (LL b3 p1).bind fun u3=>
 R7 p1 (b5.length:Int) 0 AE Aa AM b1 (b2.set (p1.toNat) ([],[],0,())) b3 b4 b5 b6 b7 b8 u3.2.1)else none)
def Qf(p1 AE Aa:Int)(AM:Bool)(b1:AAD)(b2:AAh)(b3:AAD)(b4:AAg)(b5:AAq)(b6:AA2)(b7:AA3)(b8:AAo):Option Gq:=T3 (Hd AX) (Gz AX) p1 AE Aa AM b1 b2 b3 b4 b5 b6 b7 b8
abbrev rO:Type:=ABV×Unit
def Za(p0:ABD)(p1:AAD):Option rO:=
 (D6 (p0.1,p0.2.1,()) p1).bind fun u1=>
 cond (u1.1.1)
  ((Gx (p0.1,p0.2.1,()) p1).bind fun u2=>
  some ((!u2.1.1,()),()))
 (some ((false,()),()))
abbrev Pw:Type:=ACP×AEa
abbrev Uu:Type:=AAh→Int→Int→AAs→Option Pw
abbrev U5:Type:=AAh→Int→Int→AAs→Int→Int→AAs→Option Pw
def aY(R3:Uu)(R8:U5)(t9:AAh)(t10 t11:Int)(b0:AAs):Option Pw:=
 cond (decide (t11<t10))
  (if(0:Int)≤t11∧t11<(t9.length:Int)then(
  (FL ((t9.getD (t11.toNat) ([],[],0,())).1,(t9.getD (t11.toNat) ([],[],0,())).2.1,(t9.getD (t11.toNat) ([],[],0,())).2.2.1,())).bind fun u1=>
  cond (!u1.1.1)
   (some (((),()),([],())))
  (R8 t9 t10 t11 ((t9.getD (t11.toNat) ([],[],0,())).1) (((t9.getD (t11.toNat) ([],[],0,())).1).length:Int) 0 b0))else none)
 (some (((),()),(b0,())))
def bM(R3:Uu)(R8:U5)(t9:AAh)(t10 t11:Int)(t19:AAs)(t20 t21:Int)(b0:AAs):Option Pw:=
 cond (decide (t21<t20))
  (if(0:Int)≤t21∧t21<(t19.length:Int)then(
  (Xa ((t19.getD (t21.toNat) (0,0,false,[],())).1,(t19.getD (t21.toNat) (0,0,false,[],())).2.1,(t19.getD (t21.toNat) (0,0,false,[],())).2.2.1,(t19.getD (t21.toNat) (0,0,false,[],())).2.2.2.1,()) b0).bind fun u3=>
  R8 t9 t10 t11 t19 t20 (AS (t21+1)) u3.2.2.1)else none)
 (R3 t9 t10 (AS (t11+1)) b0)
mutual
def Nb:Nat→Uu
 |0=>fun _ _ _ _=>none
 |n+1=>aY (Nb n) (NZ n)
def NZ:Nat→U5
 |0=>fun _ _ _ _ _ _ _=>none
 |n+1=>bM (Nb n) (NZ n)
end
def lL(R3:Uu)(R8:U5)(p0:AAh):Option Pw:=
 R3 p0 (p0.length:Int) 0 []
def iP(p0:AAh):Option Pw:=lL (Nb AX) (NZ AX) p0
abbrev Vm:Type:=ADN×ALH
abbrev bz:Type:=List Int→Int→Int→Int→AAh→Int→AAs→AAs→AAh→Option Vm
def ct(R5:bz)(t2:AAD)(t4 t37 t38:Int)(b0:AAh)(DJ:Int)(b2 b3:AAs)(b4:AAh):Option Vm:=
 cond (decide (t38<t37))
  (if(0:Int)≤t38∧t38<(b0.length:Int)then(
  (Bk t2 t38).bind fun u4=>
  cond (u4.1.1)
   (R5 t2 t4 t37 (AS (t38+1)) b0 DJ b2 b3 b4)
  ((FL ((b0.getD (t38.toNat) ([],[],0,())).1,(b0.getD (t38.toNat) ([],[],0,())).2.1,(b0.getD (t38.toNat) ([],[],0,())).2.2.1,())).bind fun u5=>
  cond (!u5.1.1)
   (some (((((),(),0,()),false,()),()),(b0,[],[],())))
  (if b4.length+1≤C7 then(
  R5 t2 t4 t37 (AS (t38+1)) b0 DJ b2 b3 (b4++[((b0.getD (t38.toNat) ([],[],0,())).1,(b0.getD (t38.toNat) ([],[],0,())).2.1,(b0.getD (t38.toNat) ([],[],0,())).2.2.1,())]))else none)))else none)
 ((iP b4).bind fun u7=>
 (FL (u7.2.1,[],t4,())).bind fun u8=>
 cond (!u8.1.1)
  (some (((((),(),0,()),false,()),()),(b0,[],[],())))
 (some (((((),(),t4,()),true,()),()),(b0,u7.2.1,[],()))))
def Sp:Nat→bz
 |0=>fun _ _ _ _ _ _ _ _ _=>none
 |n+1=>ct (Sp n)
def cV(R5:bz)(p0:ABD)(p2:AAD)(p3 p4:Int)(b0:AAh):Option Vm:=
 cond (((b0.length:Int) !=(p0.1.length:Int)))
  (some (((((),(),0,()),false,()),()),(b0,[],[],())))
 ((Za (p0.1,p0.2.1,()) p2).bind fun u2=>
 cond (!u2.1.1)
  (some (((((),(),0,()),false,()),()),(b0,[],[],())))
 ((Bk p2 p3).bind fun u3=>
 cond (!u3.1.1)
  (some (((((),(),0,()),false,()),()),(b0,[],[],())))
 (R5 p2 p4 (b0.length:Int) 0 b0 0 [] [] [])))
def ax(p0:ABD)(p2:AAD)(p3 p4:Int)(b0:AAh):Option Vm:=cV (Sp AX) p0 p2 p3 p4 b0
abbrev kE:Type:=ABw×AMH
def Kb(p1 AE Aa:Int)(AM:Bool)(b1:AAD)(b2:AAh)(b3:AAD)(b4:AAg)(b5:AAq)(b6:AA2)(b7:AA3)(b8:AAo):Option kE:=
 (A3 p1 0 (AS ((b2.length:Int)-1))).bind fun u2=>
 cond (!u2.1.1)
  (some ((2,()),(((),AE,(),(),(),Aa,(),(),(),(),AM,()),b1,b2,(),b4,b5,b6,b7,b8,b3,())))
 ((C4 (b1,AE,b2,b3,b4,Aa,b5,b6,b7,b8,AM,()) p1).bind fun u3=>
 cond (!u3.1.1)
  (some ((2,()),(((),AE,(),(),(),Aa,(),(),(),(),AM,()),b1,b2,(),b4,b5,b6,b7,b8,b3,())))
 (let x4:Int:=AS ((b4.length:Int)-1)
 (ax (b1,AE,()) b3 p1 (if 0>x4 then 0 else x4) b2).bind fun u6=>
 cond (!u6.1.1.2.1)
  (some ((4,()),(((),AE,(),(),(),Aa,(),(),(),(),AM,()),b1,u6.2.1,(),b4,b5,b6,b7,b8,b3,())))
 (if(0:Int)≤p1∧p1<(u6.2.1.length:Int)then(
 (HY b3 p1).bind fun u8=>
 some ((0,()),(((),AE,(),(),(),Aa,(),(),(),(),AM,()),b1,(u6.2.1.set (p1.toNat) (u6.2.2.1,u6.2.2.2.1,u6.1.1.1.2.2.1,())),(),b4,b5,b6,b7,b8,u8.2.1,())))else none)))
abbrev pv:Type:=AD4×ACu
def jo(p0 p1:Int):Option pv:=
 some (((p1,p0,(),(),false,(),()),()),([],[],[],()))
abbrev Zh:Type:=ABw×(ACz×List Int×AAh×List Int×AAg×AAq×Unit×AA3×AAo×AA2×Unit)
def Qu(AE Aa:Int)(AM:Bool)(b1:AAD)(b2:AAh)(b3:AAD)(b4:AAg)(b5:AAq)(b6:AA2)(b7:AA3)(b8:AAo):Option Zh:=
 (Lt (b4,Aa,())).bind fun u1=>
 cond ((decide ((b4.length:Int)<2)))
  (some ((2,()),(((),AE,(),(),(),Aa,(),(),(),(),AM,()),b1,b2,b3,b4,b5,(),b7,b8,b6,())))
 (cond ((u1.1.1==(b4.length:Int)))
  (some ((2,()),(((),AE,(),(),(),Aa,(),(),(),(),AM,()),b1,b2,b3,b4,b5,(),b7,b8,b6,())))
 (cond ((decide ((b6.length:Int)>0)))
  (some ((4,()),(((),AE,(),(),(),Aa,(),(),(),(),AM,()),b1,b2,b3,b4,b5,(),b7,b8,b6,())))
 ((jo u1.1.1 (b4.length:Int)).bind fun u5=>
 some ((0,()),(((),AE,(),(),(),Aa,(),(),(),(),AM,()),b1,b2,b3,b4,b5,(),b7,b8,[(u5.1.1.1,u5.1.1.2.1,u5.2.1,u5.2.2.1,u5.1.1.2.2.2.2.1,u5.2.2.2.1,())],())))))
abbrev Ui:Type:=ADN×ACr
def O3(p0:ACD)(p1:Int):Option Ui:=
 (PD (p0.1,p0.2.1,p0.2.2.1,())).bind fun u1=>
 cond (!u1.1.1.2.1)
  ((Dk (p0.1,p0.2.1,p0.2.2.1,())).bind fun u2=>
  some (((((),(),u2.1.1.2.2.1,()),false,()),()),(u2.2.1,u2.2.2.1,())))
 ((A3 p1 0 30).bind fun u3=>
 cond (!u3.1.1)
  ((Dk (p0.1,p0.2.1,p0.2.2.1,())).bind fun u4=>
  some (((((),(),u4.1.1.2.2.1,()),false,()),()),(u4.2.1,u4.2.2.1,())))
 (some (((((),(),(if p1>u1.1.1.1.2.2.1 then p1 else u1.1.1.1.2.2.1),()),true,()),()),(u1.2.1,u1.2.2.1,()))))
abbrev KQ:Type:=ACP×AEa
abbrev Ug:Type:=Int→AAs→Int→Int→AAs→Option KQ
def Wr(R5:Ug)(t1:Int)(t14:AAs)(t15 t16:Int)(b0:AAs):Option KQ:=
 cond (decide (t16<t15))
  (if(0:Int)≤t16∧t16<(t14.length:Int)then(
  (FI ((t14.getD (t16.toNat) (0,0,false,[],())).1)).bind fun u3=>
  cond (u3.1.1==t1)
   (if b0.length+1≤C7 then(
   R5 t1 t14 t15 (AS (t16+1)) (b0++[((t14.getD (t16.toNat) (0,0,false,[],())).1,(t14.getD (t16.toNat) (0,0,false,[],())).2.1,(t14.getD (t16.toNat) (0,0,false,[],())).2.2.1,(t14.getD (t16.toNat) (0,0,false,[],())).2.2.2.1,())]))else none)
  (R5 t1 t14 t15 (AS (t16+1)) b0))else none)
 (some (((),()),(b0,())))
def Lv:Nat→Ug
 |0=>fun _ _ _ _ _=>none
 |n+1=>Wr (Lv n)
def Wu(R5:Ug)(p0:ACD)(p1:Int):Option KQ:=
 (FL (p0.1,p0.2.1,p0.2.2.1,())).bind fun u1=>
 cond (!u1.1.1)
  (some (((),()),([],())))
 (R5 p1 p0.1 (p0.1.length:Int) 0 [])
def QO(p0:ACD)(p1:Int):Option KQ:=Wu (Lv AX) p0 p1
abbrev KK:Type:=AEA×ACu
abbrev UM:Type:=AAs→Int→Int→List Int→Int→Int→Int→List Int→AAs→Bool→List AAD→Int→Int→Bool→List Int→AAs→List AAD→Int→Int→Bool→List Int→AAs→List AAD→Option KK
def WN(R6:UM)(t31:AAs)(t32 t33:Int)(AL:AAD)(AE BD Ap:Int)(DJ:AAD)(G7:AAs)(NF:Bool)(DT:List AAD)(I2 LM:Int)(QE:Bool)(b3:AAD)(b4:AAs)(b5:List AAD)(LS KI:Int)(LP:Bool)(b7:AAD)(b8:AAs)(b9:List AAD):Option KK:=
 cond (decide (t33<t32))
  (if(0:Int)≤t33∧t33<(t31.length:Int)then(
  (FI ((t31.getD (t33.toNat) (0,0,false,[],())).1)).bind fun u7=>
  cond (u7.1.1==Ap)
   ((Xa ((t31.getD (t33.toNat) (0,0,false,[],())).1,(t31.getD (t33.toNat) (0,0,false,[],())).2.1,(t31.getD (t33.toNat) (0,0,false,[],())).2.2.1,(t31.getD (t33.toNat) (0,0,false,[],())).2.2.2.1,()) b8).bind fun u8=>
   R6 t31 t32 (AS (t33+1)) AL AE BD Ap DJ G7 NF DT I2 LM QE b3 b4 b5 LS KI LP b7 u8.2.2.1 b9)
  (R6 t31 t32 (AS (t33+1)) AL AE BD Ap DJ G7 NF DT I2 LM QE b3 b4 b5 LS KI LP b7 b8 b9))else none)
 ((Hr (AL,AE,()) (LS,KI,b7,b8,LP,b9,())).bind fun u9=>
 cond (!u9.1.1)
  ((Gc (BD,Ap,DJ,G7,NF,DT,())).bind fun Dd=>
  some ((((Dd.1.1.1,Dd.1.1.2.1,(),(),Dd.1.1.2.2.2.2.1,(),()),false,()),()),(Dd.2.1,Dd.2.2.1,Dd.2.2.2.1,())))
 (some ((((LS,KI,(),(),LP,(),()),true,()),()),(b7,b8,b9,()))))
def MR:Nat→UM
 |0=>fun _ _ _ _ _ _ _ _ _ _ _ _ _ _ _ _ _ _ _ _ _ _ _=>none
 |n+1=>WN (MR n)
def Wj(R6:UM)(p0:ABD)(p1:ABU)(p2:Int)(p3:AAs):Option KK:=
 (Hr (p0.1,p0.2.1,()) (p1.1,p1.2.1,p1.2.2.1,p1.2.2.2.1,p1.2.2.2.2.1,p1.2.2.2.2.2.1,())).bind fun u1=>
 cond (!u1.1.1)
  ((El (p0.1,p0.2.1,()) (p1.1,p1.2.1,p1.2.2.1,p1.2.2.2.1,p1.2.2.2.2.1,p1.2.2.2.2.2.1,())).bind fun u2=>
  some ((((u2.1.1.1,u2.1.1.2.1,(),(),u2.1.1.2.2.2.2.1,(),()),false,()),()),(u2.2.1,u2.2.2.1,u2.2.2.2.1,())))
 (cond (p1.2.2.2.2.1)
  ((El (p0.1,p0.2.1,()) (p1.1,p1.2.1,p1.2.2.1,p1.2.2.2.1,p1.2.2.2.2.1,p1.2.2.2.2.2.1,())).bind fun u3=>
  some ((((u3.1.1.1,u3.1.1.2.1,(),(),u3.1.1.2.2.2.2.1,(),()),false,()),()),(u3.2.1,u3.2.2.1,u3.2.2.2.1,())))
 ((Gc (p1.1,p1.2.1,p1.2.2.1,p1.2.2.2.1,p1.2.2.2.2.1,p1.2.2.2.2.2.1,())).bind fun u4=>
 (LL u4.2.1 p2).bind fun u5=>
 R6 p3 (p3.length:Int) 0 p0.1 p0.2.1 p1.1 p1.2.1 p1.2.2.1 p1.2.2.2.1 p1.2.2.2.2.1 p1.2.2.2.2.2.1 0 0 false [] [] [] u4.1.1.1 u4.1.1.2.1 u4.1.1.2.2.2.2.1 u5.2.1 u4.2.2.1 u4.2.2.2.1))
def QT(p0:ABD)(p1:ABU)(p2:Int)(p3:AAs):Option KK:=Wj (MR AX) p0 p1 p2 p3
abbrev jB:Type:=ABw×ADp
def KU(p1 AE Aa:Int)(AM:Bool)(b1:AAD)(b2:AAh)(b3:AAD)(b4:AAg)(b5:AAq)(b6:AA2)(b7:AA3)(b8:AAo):Option jB:=
 cond (((b6.length:Int)==0))
  (some ((2,()),(((),AE,(),(),(),Aa,(),(),(),(),AM,()),b1,b2,b3,b4,b5,b6,b7,b8,())))
 (if(0:Int)≤(0:Int)∧(0:Int)<(b6.length:Int)then(
 (Di (b1,AE,b2,b3,b4,Aa,b5,b6,b7,b8,AM,()) p1 ((b6.getD 0 (0,0,[],[],false,[],())).2.1)).bind fun u3=>
 cond (u3.1.1 !=0)
  (some ((u3.1.1,()),(((),AE,(),(),(),Aa,(),(),(),(),AM,()),b1,b2,b3,b4,b5,b6,b7,b8,())))
 (if(0:Int)≤p1∧p1<(b2.length:Int)then(
 (O3 ((b2.getD (p1.toNat) ([],[],0,())).1,(b2.getD (p1.toNat) ([],[],0,())).2.1,(b2.getD (p1.toNat) ([],[],0,())).2.2.1,()) (AS (((b6.getD 0 (0,0,[],[],false,[],())).1)-1))).bind fun u5=>
 (QO (u5.2.1,u5.2.2.1,u5.1.1.1.2.2.1,()) ((b6.getD 0 (0,0,[],[],false,[],())).2.1)).bind fun u7=>
 (QT (b1,AE,()) ((b6.getD 0 (0,0,[],[],false,[],())).1,(b6.getD 0 (0,0,[],[],false,[],())).2.1,(b6.getD 0 (0,0,[],[],false,[],())).2.2.1,(b6.getD 0 (0,0,[],[],false,[],())).2.2.2.1,(b6.getD 0 (0,0,[],[],false,[],())).2.2.2.2.1,(b6.getD 0 (0,0,[],[],false,[],())).2.2.2.2.2.1,()) p1 u7.2.1).bind fun u8=>
 cond (!u5.1.1.2.1)
  (some ((4,()),(((),AE,(),(),(),Aa,(),(),(),(),AM,()),b1,b2,b3,b4,b5,b6,b7,b8,())))
 (cond (!u8.1.1.2.1)
  (some ((4,()),(((),AE,(),(),(),Aa,(),(),(),(),AM,()),b1,b2,b3,b4,b5,b6,b7,b8,())))
 (if(0:Int)≤p1∧p1<(b2.length:Int)then(
 if(0:Int)≤(0:Int)∧(0:Int)<(b6.length:Int)then(
 some ((0,()),(((),AE,(),(),(),Aa,(),(),(),(),AM,()),b1,(b2.set (p1.toNat) (u5.2.1,u5.2.2.1,u5.1.1.1.2.2.1,())),b3,b4,b5,(b6.set 0 (u8.1.1.1.1,u8.1.1.1.2.1,u8.2.1,u8.2.2.1,u8.1.1.1.2.2.2.2.1,u8.2.2.2.1,())),b7,b8,())))else none)else none)))else none))else none)
abbrev dK:Type:=AEA×ACu
def QW(p0:ABD)(p1:ABU)(p2:AAD):Option dK:=
 (Hr (p0.1,p0.2.1,()) (p1.1,p1.2.1,p1.2.2.1,p1.2.2.2.1,p1.2.2.2.2.1,p1.2.2.2.2.2.1,())).bind fun u1=>
 cond (!u1.1.1)
  ((El (p0.1,p0.2.1,()) (p1.1,p1.2.1,p1.2.2.1,p1.2.2.2.1,p1.2.2.2.2.1,p1.2.2.2.2.2.1,())).bind fun u2=>
  some ((((u2.1.1.1,u2.1.1.2.1,(),(),u2.1.1.2.2.2.2.1,(),()),false,()),()),(u2.2.1,u2.2.2.1,u2.2.2.2.1,())))
 (cond (p1.2.2.2.2.1)
  ((El (p0.1,p0.2.1,()) (p1.1,p1.2.1,p1.2.2.1,p1.2.2.2.1,p1.2.2.2.2.1,p1.2.2.2.2.2.1,())).bind fun u3=>
  some ((((u3.1.1.1,u3.1.1.2.1,(),(),u3.1.1.2.2.2.2.1,(),()),false,()),()),(u3.2.1,u3.2.2.1,u3.2.2.2.1,())))
 ((Np p1.2.2.1 p2).bind fun u4=>
 (HB (p0.1,p0.2.1,()) p2 u4.2.1).bind fun u5=>
 cond (!u5.1.1)
  ((El (p0.1,p0.2.1,()) (p1.1,p1.2.1,p1.2.2.1,p1.2.2.2.1,p1.2.2.2.2.1,p1.2.2.2.2.2.1,())).bind fun u6=>
  some ((((u6.1.1.1,u6.1.1.2.1,(),(),u6.1.1.2.2.2.2.1,(),()),false,()),()),(u6.2.1,u6.2.2.1,u6.2.2.2.1,())))
 ((Gc (p1.1,p1.2.1,p1.2.2.1,p1.2.2.2.1,p1.2.2.2.2.1,p1.2.2.2.2.2.1,())).bind fun u7=>
 (SY (p1.1,p1.2.1,p1.2.2.1,p1.2.2.2.1,p1.2.2.2.2.1,p1.2.2.2.2.2.1,())).bind fun u8=>
 if(0:Int)≤u8.1.1∧u8.1.1≤u8.1.1∧u8.1.1≤(C7:Int)then(
 some ((((u7.1.1.1,u7.1.1.2.1,(),(),true,(),()),true,()),()),(u7.2.1,u7.2.2.1,(List.replicate (u8.1.1.toNat) []),())))else none)))
abbrev jg:Type:=ABw×ADp
def Kd(AE Aa:Int)(AM:Bool)(b1:AAD)(b2:AAh)(b3:AAD)(b4:AAg)(b5:AAq)(b6:AA2)(b7:AA3)(b8:AAo):Option jg:=
 cond (((b6.length:Int)==0))
  (some ((2,()),(((),AE,(),(),(),Aa,(),(),(),(),AM,()),b1,b2,b3,b4,b5,b6,b7,b8,())))
 (if(0:Int)≤(0:Int)∧(0:Int)<(b6.length:Int)then(
 if(0:Int)≤(0:Int)∧(0:Int)<(b6.length:Int)then(
 (JK (b4,Aa,()) ((b6.getD 0 (0,0,[],[],false,[],())).2.1)).bind fun u3=>
 (QW (b1,AE,()) ((b6.getD 0 (0,0,[],[],false,[],())).1,(b6.getD 0 (0,0,[],[],false,[],())).2.1,(b6.getD 0 (0,0,[],[],false,[],())).2.2.1,(b6.getD 0 (0,0,[],[],false,[],())).2.2.2.1,(b6.getD 0 (0,0,[],[],false,[],())).2.2.2.2.1,(b6.getD 0 (0,0,[],[],false,[],())).2.2.2.2.2.1,()) u3.2.1).bind fun u4=>
 if(0:Int)≤(0:Int)∧(0:Int)<(b6.length:Int)then(
 (KV u4.1.1.2.1).bind fun u6=>
 some ((u6.1.1,()),(((),AE,(),(),(),Aa,(),(),(),(),AM,()),b1,b2,b3,b4,b5,(b6.set 0 (u4.1.1.1.1,u4.1.1.1.2.1,u4.2.1,u4.2.2.1,u4.1.1.1.2.2.2.2.1,u4.2.2.2.1,())),b7,b8,())))else none)else none)else none)
abbrev lX:Type:=ABw×ADp
def Sa(p1 p2 AE Aa:Int)(AM:Bool)(b1:AAD)(b2:AAh)(b3:AAD)(b4:AAg)(b5:AAq)(b6:AA2)(b7:AA3)(b8:AAo):Option lX:=
 cond (((b6.length:Int)==0))
  (some ((2,()),(((),AE,(),(),(),Aa,(),(),(),(),AM,()),b1,b2,b3,b4,b5,b6,b7,b8,())))
 (if(0:Int)≤(0:Int)∧(0:Int)<(b6.length:Int)then(
 (Jz ((b6.getD 0 (0,0,[],[],false,[],())).1,(b6.getD 0 (0,0,[],[],false,[],())).2.1,(b6.getD 0 (0,0,[],[],false,[],())).2.2.1,(b6.getD 0 (0,0,[],[],false,[],())).2.2.2.1,(b6.getD 0 (0,0,[],[],false,[],())).2.2.2.2.1,(b6.getD 0 (0,0,[],[],false,[],())).2.2.2.2.2.1,()) p1).bind fun u2=>
 cond (!u2.1.1.2.1)
  (some ((2,()),(((),AE,(),(),(),Aa,(),(),(),(),AM,()),b1,b2,b3,b4,b5,b6,b7,b8,())))
 (if(0:Int)≤(0:Int)∧(0:Int)<(b6.length:Int)then(
 (Di (b1,AE,b2,b3,b4,Aa,b5,b6,b7,b8,AM,()) p2 ((b6.getD 0 (0,0,[],[],false,[],())).2.1)).bind fun u4=>
 cond (u4.1.1 !=0)
  (some ((u4.1.1,()),(((),AE,(),(),(),Aa,(),(),(),(),AM,()),b1,b2,b3,b4,b5,b6,b7,b8,())))
 ((Lm p2 (u2.1.1.1.1,u2.1.1.1.2.1,u2.1.1.1.2.2.1,u2.1.1.1.2.2.2.1,()) AE Aa AM b1 b2 b3 b4 b5 b6 b7 b8).bind fun u5=>
 some ((u5.1.1,()),(((),u5.2.1.2.1,(),(),(),u5.2.1.2.2.2.2.2.1,(),(),(),(),u5.2.1.2.2.2.2.2.2.2.2.2.2.1,()),u5.2.2.1,u5.2.2.2.1,u5.2.2.2.2.1,u5.2.2.2.2.2.1,u5.2.2.2.2.2.2.1,u5.2.2.2.2.2.2.2.1,u5.2.2.2.2.2.2.2.2.1,u5.2.2.2.2.2.2.2.2.2.1,()))))else none))else none)
abbrev MV:Type:=ABV×Unit
abbrev SX:Type:=List AAD→Int→Int→List Int→Int→Option MV
def Vl(R4:SX)(t17:List AAD)(t18 t19:Int)(AL:AAD)(AE:Int):Option MV:=
 cond (decide (t19<t18))
  (if(0:Int)≤t19∧t19<(t17.length:Int)then(
  (Gx (AL,AE,()) (t17.getD (t19.toNat) [])).bind fun u3=>
  cond (!u3.1.1)
   (some ((false,()),()))
  (R4 t17 t18 (AS (t19+1)) AL AE))else none)
 (some ((true,()),()))
def K6:Nat→SX
 |0=>fun _ _ _ _ _=>none
 |n+1=>Vl (K6 n)
def Vh(R4:SX)(p0:ABD)(p1:ABU):Option MV:=
 (Hr (p0.1,p0.2.1,()) (p1.1,p1.2.1,p1.2.2.1,p1.2.2.2.1,p1.2.2.2.2.1,p1.2.2.2.2.2.1,())).bind fun u1=>
 cond (!u1.1.1)
  (some ((false,()),()))
 (cond (!p1.2.2.2.2.1)
  (some ((false,()),()))
 (R4 p1.2.2.2.2.2.1 (p1.2.2.2.2.2.1.length:Int) 0 p0.1 p0.2.1))
def O4(p0:ABD)(p1:ABU):Option MV:=Vh (K6 AX) p0 p1
abbrev cu:Type:=AFf×ADw
def QL(p0:ABD)(p1:ACC)(p2 p3:Int):Option cu:=
 (Lt (p1.1,p1.2.1,())).bind fun u1=>
 (LI (p0.1,p0.2.1,()) (p1.1,p1.2.1,())).bind fun u2=>
 cond (!u2.1.1)
  ((EM (p0.1,p0.2.1,()) (p1.1,p1.2.1,())).bind fun u3=>
  some (((((),u3.1.1.2.1,()),false,()),()),(u3.2.1,())))
 (cond ((p2 !=(p1.1.length:Int)))
  ((EM (p0.1,p0.2.1,()) (p1.1,p1.2.1,())).bind fun u5=>
  some (((((),u5.1.1.2.1,()),false,()),()),(u5.2.1,())))
 (cond (u1.1.1==p2)
  ((EM (p0.1,p0.2.1,()) (p1.1,p1.2.1,())).bind fun u6=>
  some (((((),u6.1.1.2.1,()),false,()),()),(u6.2.1,())))
 ((A3 p3 0 60).bind fun u7=>
 cond (!u7.1.1)
  ((EM (p0.1,p0.2.1,()) (p1.1,p1.2.1,())).bind fun u8=>
  some (((((),u8.1.1.2.1,()),false,()),()),(u8.2.1,())))
 ((EY (p1.1,p1.2.1,())).bind fun u9=>
 if(0:Int)≤AS (u1.1.1-1)∧AS (u1.1.1-1)<(u9.2.1.length:Int)then(
 let ZQ:AAg:=(u9.2.1.set ((AS (u1.1.1-1)).toNat) ((u9.2.1.getD ((AS (u1.1.1-1)).toNat) ([],false,0,())).1,true,(u9.2.1.getD ((AS (u1.1.1-1)).toNat) ([],false,0,())).2.2.1,()))
 if(0:Int)≤AS (u1.1.1-1)∧AS (u1.1.1-1)<(ZQ.length:Int)then(
 some (((((),u9.1.1.2.1,()),true,()),()),((ZQ.set ((AS (u1.1.1-1)).toNat) ((ZQ.getD ((AS (u1.1.1-1)).toNat) ([],false,0,())).1,(ZQ.getD ((AS (u1.1.1-1)).toNat) ([],false,0,())).2.1,p3,())),())))else none)else none))))
abbrev Yh:Type:=ABw×(ACz×List Int×AAh×List Int×Unit×AAq×Unit×AA3×AAo×AAg×AA2×Unit)
def JW(AE Aa:Int)(AM:Bool)(b1:AAD)(b2:AAh)(b3:AAD)(b4:AAg)(b5:AAq)(b6:AA2)(b7:AA3)(b8:AAo):Option Yh:=
 cond (((b6.length:Int)==0))
  (some ((2,()),(((),AE,(),(),(),Aa,(),(),(),(),AM,()),b1,b2,b3,(),b5,(),b7,b8,b4,b6,())))
 (if(0:Int)≤(0:Int)∧(0:Int)<(b6.length:Int)then(
 (O4 (b1,AE,()) ((b6.getD 0 (0,0,[],[],false,[],())).1,(b6.getD 0 (0,0,[],[],false,[],())).2.1,(b6.getD 0 (0,0,[],[],false,[],())).2.2.1,(b6.getD 0 (0,0,[],[],false,[],())).2.2.2.1,(b6.getD 0 (0,0,[],[],false,[],())).2.2.2.2.1,(b6.getD 0 (0,0,[],[],false,[],())).2.2.2.2.2.1,())).bind fun u2=>
 cond (!u2.1.1)
  (some ((5,()),(((),AE,(),(),(),Aa,(),(),(),(),AM,()),b1,b2,b3,(),b5,(),b7,b8,b4,b6,())))
 (if(0:Int)≤(0:Int)∧(0:Int)<(b6.length:Int)then(
 if(0:Int)≤(0:Int)∧(0:Int)<(b6.length:Int)then(
 (QL (b1,AE,()) (b4,Aa,()) ((b6.getD 0 (0,0,[],[],false,[],())).1) (((b6.getD 0 (0,0,[],[],false,[],())).2.2.2.2.2.1).length:Int)).bind fun u5=>
 cond (u5.1.1.2.1)
  ((KV u5.1.1.2.1).bind fun u6=>
  some ((u6.1.1,()),(((),AE,(),(),(),u5.1.1.1.2.1,(),(),(),(),AM,()),b1,b2,b3,(),b5,(),b7,b8,u5.2.1,[],())))
 ((KV u5.1.1.2.1).bind fun u7=>
 some ((u7.1.1,()),(((),AE,(),(),(),Aa,(),(),(),(),AM,()),b1,b2,b3,(),b5,(),b7,b8,b4,b6,()))))else none)else none))else none)
abbrev qp:Type:=AFf×ADw
def XT(p0:ABD)(p1:ACC)(p2:Int):Option qp:=
 (LI (p0.1,p0.2.1,()) (p1.1,p1.2.1,())).bind fun u1=>
 cond (!u1.1.1)
  ((EM (p0.1,p0.2.1,()) (p1.1,p1.2.1,())).bind fun u2=>
  some (((((),u2.1.1.2.1,()),false,()),()),(u2.2.1,())))
 ((FI p2).bind fun u3=>
 (A3 u3.1.1 1 (p1.1.length:Int)).bind fun u4=>
 cond (!u4.1.1)
  ((EM (p0.1,p0.2.1,()) (p1.1,p1.2.1,())).bind fun u5=>
  some (((((),u5.1.1.2.1,()),false,()),()),(u5.2.1,())))
 ((EY (p1.1,p1.2.1,())).bind fun u6=>
 some (((((),(if p2>u6.1.1.2.1 then p2 else u6.1.1.2.1),()),true,()),()),(u6.2.1,()))))
abbrev gz:Type:=ABV×Unit
def P2(p0:ACX)(p1:ABw):Option gz:=
 some ((decide (p0.1≤p1.1),()),())
abbrev Bj:Type:=ABw×Unit
abbrev CU:Type:=AAs→ACZ→Int→Int→Option Bj
def DV(R2:CU)(t0:AAs)(t1:ACZ)(t7 t8:Int):Option Bj:=
 cond (decide (t8<t7))
  (if(0:Int)≤t8∧t8<(t0.length:Int)then(
  (P2 ((t0.getD (t8.toNat) (0,0,false,[],())).1,(t0.getD (t8.toNat) (0,0,false,[],())).2.1,(t0.getD (t8.toNat) (0,0,false,[],())).2.2.1,(t0.getD (t8.toNat) (0,0,false,[],())).2.2.2.1,()) t1.1).bind fun u1=>
  cond (u1.1.1)
   (some ((t8,()),()))
  (R2 t0 (t1.1,()) t7 (AS (t8+1))))else none)
 (some (((-1),()),()))
def BF:Nat→CU
 |0=>fun _ _ _ _=>none
 |n+1=>DV (BF n)
def DU(R2:CU)(p0:AAs)(p1:ACZ):Option Bj:=
 R2 p0 (p1.1,()) (p0.length:Int) 0
def Cj(p0:AAs)(p1:ACZ):Option Bj:=DU (BF AX) p0 p1
abbrev Bi:Type:=ACP×AGO
abbrev CQ:Type:=ACZ→Int→Int→AAs→Option Bi
def DS(R5:CQ)(t1:ACZ)(t5 t6:Int)(b0:AAs):Option Bi:=
 cond ((decide (t6<(b0.length:Int))))
  (if(0:Int)≤t6∧t6<(b0.length:Int)then(
  (P2 ((b0.getD (t6.toNat) (0,0,false,[],())).1,(b0.getD (t6.toNat) (0,0,false,[],())).2.1,(b0.getD (t6.toNat) (0,0,false,[],())).2.2.1,(b0.getD (t6.toNat) (0,0,false,[],())).2.2.2.1,()) t1.1).bind fun u3=>
  cond (!u3.1.1)
   (if(0:Int)≤t5∧t5<(b0.length:Int)then(
   R5 (t1.1,()) (AS (t5+1)) (AS (t6+1)) (b0.set (t5.toNat) ((b0.getD (t6.toNat) (0,0,false,[],())).1,(b0.getD (t6.toNat) (0,0,false,[],())).2.1,(b0.getD (t6.toNat) (0,0,false,[],())).2.2.1,(b0.getD (t6.toNat) (0,0,false,[],())).2.2.2.1,())))else none)
  (R5 (t1.1,()) t5 (AS (t6+1)) b0))else none)
 (if(0:Int)≤t5∧t5≤(b0.length:Int)∧(b0.length:Int)≤(b0.length:Int)then(
 let x5:AAs:=(b0.take (t5.toNat)++List.replicate (((b0.length:Int).toNat)-(t5.toNat)) (0,0,false,[],())++b0.drop ((t5.toNat)+(((b0.length:Int).toNat)-(t5.toNat))))
 if(0:Int)≤(0:Int)∧(0:Int)≤t5∧t5≤(x5.length:Int)then(
 some (((),()),((),((x5.drop 0).take ((t5.toNat)-0)),())))else none)else none)
def BB:Nat→CQ
 |0=>fun _ _ _ _=>none
 |n+1=>DS (BB n)
def DP(R5:CQ)(p1:ACZ)(b0:AAs):Option Bi:=
 (Cj b0 (p1.1,())).bind fun u1=>
 cond (u1.1.1==(-1))
  (some (((),()),((),b0,())))
 (R5 (p1.1,()) u1.1.1 (AS (u1.1.1+1)) b0)
def Bm(p1:ACZ)(b0:AAs):Option Bi:=DP (BB AX) p1 b0
abbrev lV:Type:=ADN×ACr
def TA(p0:ACD)(p1:Int):Option lV:=
 (FL (p0.1,p0.2.1,p0.2.2.1,())).bind fun u1=>
 cond (!u1.1.1)
  ((Dk (p0.1,p0.2.1,p0.2.2.1,())).bind fun u2=>
  some (((((),(),u2.1.1.2.2.1,()),false,()),()),(u2.2.1,u2.2.2.1,())))
 ((D8 p1).bind fun u3=>
 cond (!u3.1.1)
  ((Dk (p0.1,p0.2.1,p0.2.2.1,())).bind fun u4=>
  some (((((),(),u4.1.1.2.2.1,()),false,()),()),(u4.2.1,u4.2.2.1,())))
 ((C9 (p0.1,p0.2.1,p0.2.2.1,())).bind fun u5=>
 (Bm ((p1,()),()) u5.2.1).bind fun u6=>
 some (((((),(),u5.1.1.2.2.1,()),true,()),()),(u6.2.2.1,u5.2.2.1,()))))
abbrev iI:Type:=ABw×ADp
def Pk(p1 AE Aa:Int)(AM:Bool)(b1:AAD)(b2:AAh)(b3:AAD)(b4:AAg)(b5:AAq)(b6:AA2)(b7:AA3)(b8:AAo):Option iI:=
 (ER (b1,AE,b2,b3,b4,Aa,b5,b6,b7,b8,AM,()) p1).bind fun u1=>
 cond (u1.1.1 !=0)
  (some ((u1.1.1,()),(((),AE,(),(),(),Aa,(),(),(),(),AM,()),b1,b2,b3,b4,b5,b6,b7,b8,())))
 (if(0:Int)≤p1∧p1<(b2.length:Int)then(
 (TA ((b2.getD (p1.toNat) ([],[],0,())).1,(b2.getD (p1.toNat) ([],[],0,())).2.1,(b2.getD (p1.toNat) ([],[],0,())).2.2.1,()) Aa).bind fun u2=>
 if(0:Int)≤p1∧p1<(b2.length:Int)then(
 (KV u2.1.1.2.1).bind fun u4=>
 some ((u4.1.1,()),(((),AE,(),(),(),Aa,(),(),(),(),AM,()),b1,(b2.set (p1.toNat) (u2.2.1,u2.2.2.1,u2.1.1.1.2.2.1,())),b3,b4,b5,b6,b7,b8,())))else none)else none)
abbrev Ob:Type:=ACP×(Unit×AAq×Unit)
def FC(p1 p2:Int)(b0:AAq):Option Ob:=(AFb p1 p2 b0).map fun l=>(((),()),((),l,()))
abbrev cR:Type:=ABw×(ACz×List Int×AAh×Unit×Unit×Unit×Unit×AA3×Unit×List Int×AAg×AAq×AA2×AAo×Unit)
def Ut(p1:ACS)(AE Aa:Int)(AM:Bool)(b1:AAD)(b2:AAh)(b3:AAD)(b4:AAg)(b5:AAq)(b6:AA2)(b7:AA3)(b8:AAo):Option cR:=
 cond (p1.1==1)
  ((Ka p1.2.1 AE Aa AM b1 b2 b3 b4 b5 b6 b7 b8).bind fun u1=>
  some ((u1.1.1,()),(((),u1.2.1.2.1,(),(),(),u1.2.1.2.2.2.2.2.1,(),(),(),(),u1.2.1.2.2.2.2.2.2.2.2.2.2.1,()),u1.2.2.1,u1.2.2.2.1,(),(),(),(),u1.2.2.2.2.2.2.2.2.1,(),u1.2.2.2.2.1,u1.2.2.2.2.2.2.2.2.2.2.1,u1.2.2.2.2.2.2.2.2.2.2.2.1,u1.2.2.2.2.2.2.2.2.2.2.2.2.1,u1.2.2.2.2.2.2.2.2.2.1,())))
 (cond (p1.1==2)
  ((Lj p1.2.1 p1.2.2.2.2.1 AE Aa AM b1 b2 b3 b4 b5 b6 b7 b8).bind fun u6=>
  some ((u6.1.1,()),(((),u6.2.1.2.1,(),(),(),u6.2.1.2.2.2.2.2.1,(),(),(),(),u6.2.1.2.2.2.2.2.2.2.2.2.2.1,()),u6.2.2.1,u6.2.2.2.1,(),(),(),(),u6.2.2.2.2.2.2.2.2.1,(),u6.2.2.2.2.1,u6.2.2.2.2.2.1,u6.2.2.2.2.2.2.1,u6.2.2.2.2.2.2.2.1,u6.2.2.2.2.2.2.2.2.2.2.1,())))
 (cond (p1.1==3)
  ((JY (p1.1,p1.2.1,p1.2.2.1,p1.2.2.2.1,p1.2.2.2.2.1,()) AE Aa AM b1 b2 b3 b4 b5 b6 b7 b8).bind fun u8=>
  some ((u8.1.1,()),(((),u8.2.1.2.1,(),(),(),u8.2.1.2.2.2.2.2.1,(),(),(),(),u8.2.1.2.2.2.2.2.2.2.2.2.2.1,()),u8.2.2.1,u8.2.2.2.1,(),(),(),(),u8.2.2.2.2.2.2.2.2.1,(),u8.2.2.2.2.1,u8.2.2.2.2.2.1,u8.2.2.2.2.2.2.1,u8.2.2.2.2.2.2.2.1,u8.2.2.2.2.2.2.2.2.2.1,())))
 (cond (p1.1==4)
  ((Qi p1.2.1 AE Aa AM b1 b2 b3 b4 b5 b6 b7 b8).bind fun Dd=>
  some ((Dd.1.1,()),(((),Dd.2.1.2.1,(),(),(),Dd.2.1.2.2.2.2.2.1,(),(),(),(),Dd.2.1.2.2.2.2.2.2.2.2.2.2.1,()),Dd.2.2.1,Dd.2.2.2.1,(),(),(),(),Dd.2.2.2.2.2.2.2.2.1,(),Dd.2.2.2.2.1,Dd.2.2.2.2.2.1,Dd.2.2.2.2.2.2.1,Dd.2.2.2.2.2.2.2.1,Dd.2.2.2.2.2.2.2.2.2.1,())))
 (cond (p1.1==5)
  ((Pb p1.2.1 p1.2.2.1 AE Aa AM b1 b2 b3 b4 b5 b6 b7 b8).bind fun Mh=>
  some ((Mh.1.1,()),(((),Mh.2.1.2.1,(),(),(),Mh.2.1.2.2.2.2.2.1,(),(),(),(),Mh.2.1.2.2.2.2.2.2.2.2.2.2.1,()),Mh.2.2.1,Mh.2.2.2.1,(),(),(),(),Mh.2.2.2.2.2.2.2.2.1,(),Mh.2.2.2.2.1,Mh.2.2.2.2.2.1,Mh.2.2.2.2.2.2.1,Mh.2.2.2.2.2.2.2.1,Mh.2.2.2.2.2.2.2.2.2.1,())))
 (cond (p1.1==6)
  ((Qf p1.2.1 AE Aa AM b1 b2 b3 b4 b5 b6 b7 b8).bind fun u16=>
  some ((u16.1.1,()),(((),u16.2.1.2.1,(),(),(),u16.2.1.2.2.2.2.2.1,(),(),(),(),u16.2.1.2.2.2.2.2.2.2.2.2.2.1,()),u16.2.2.1,u16.2.2.2.1,(),(),(),(),u16.2.2.2.2.2.2.2.2.1,(),u16.2.2.2.2.2.2.2.2.2.2.1,u16.2.2.2.2.2.1,u16.2.2.2.2.2.2.1,u16.2.2.2.2.2.2.2.1,u16.2.2.2.2.2.2.2.2.2.1,())))
 (cond (p1.1==7)
  ((Kb p1.2.1 AE Aa AM b1 b2 b3 b4 b5 b6 b7 b8).bind fun MY=>
  some ((MY.1.1,()),(((),MY.2.1.2.1,(),(),(),MY.2.1.2.2.2.2.2.1,(),(),(),(),MY.2.1.2.2.2.2.2.2.2.2.2.2.1,()),MY.2.2.1,MY.2.2.2.1,(),(),(),(),MY.2.2.2.2.2.2.2.2.1,(),MY.2.2.2.2.2.2.2.2.2.2.1,MY.2.2.2.2.2.1,MY.2.2.2.2.2.2.1,MY.2.2.2.2.2.2.2.1,MY.2.2.2.2.2.2.2.2.2.1,())))
 (cond (p1.1==8)
  ((Qu AE Aa AM b1 b2 b3 b4 b5 b6 b7 b8).bind fun It=>
  some ((It.1.1,()),(((),It.2.1.2.1,(),(),(),It.2.1.2.2.2.2.2.1,(),(),(),(),It.2.1.2.2.2.2.2.2.2.2.2.2.1,()),It.2.2.1,It.2.2.2.1,(),(),(),(),It.2.2.2.2.2.2.2.2.1,(),It.2.2.2.2.1,It.2.2.2.2.2.1,It.2.2.2.2.2.2.1,It.2.2.2.2.2.2.2.2.2.2.1,It.2.2.2.2.2.2.2.2.2.1,())))
 (cond (p1.1==9)
  ((KU p1.2.1 AE Aa AM b1 b2 b3 b4 b5 b6 b7 b8).bind fun PT=>
  some ((PT.1.1,()),(((),PT.2.1.2.1,(),(),(),PT.2.1.2.2.2.2.2.1,(),(),(),(),PT.2.1.2.2.2.2.2.2.2.2.2.2.1,()),PT.2.2.1,PT.2.2.2.1,(),(),(),(),PT.2.2.2.2.2.2.2.2.1,(),PT.2.2.2.2.1,PT.2.2.2.2.2.1,PT.2.2.2.2.2.2.1,PT.2.2.2.2.2.2.2.1,PT.2.2.2.2.2.2.2.2.2.1,())))
 (cond (p1.1==10)
  ((Kd AE Aa AM b1 b2 b3 b4 b5 b6 b7 b8).bind fun dF=>
  some ((dF.1.1,()),(((),dF.2.1.2.1,(),(),(),dF.2.1.2.2.2.2.2.1,(),(),(),(),dF.2.1.2.2.2.2.2.2.2.2.2.2.1,()),dF.2.2.1,dF.2.2.2.1,(),(),(),(),dF.2.2.2.2.2.2.2.2.1,(),dF.2.2.2.2.1,dF.2.2.2.2.2.1,dF.2.2.2.2.2.2.1,dF.2.2.2.2.2.2.2.1,dF.2.2.2.2.2.2.2.2.2.1,())))
 (cond (p1.1==11)
  ((Sa p1.2.2.1 p1.2.2.2.1 AE Aa AM b1 b2 b3 b4 b5 b6 b7 b8).bind fun uE=>
  some ((uE.1.1,()),(((),uE.2.1.2.1,(),(),(),uE.2.1.2.2.2.2.2.1,(),(),(),(),uE.2.1.2.2.2.2.2.2.2.2.2.2.1,()),uE.2.2.1,uE.2.2.2.1,(),(),(),(),uE.2.2.2.2.2.2.2.2.1,(),uE.2.2.2.2.1,uE.2.2.2.2.2.1,uE.2.2.2.2.2.2.1,uE.2.2.2.2.2.2.2.1,uE.2.2.2.2.2.2.2.2.2.1,())))
 (cond (p1.1==12)
  ((JW AE Aa AM b1 b2 b3 b4 b5 b6 b7 b8).bind fun mh=>
  some ((mh.1.1,()),(((),mh.2.1.2.1,(),(),(),mh.2.1.2.2.2.2.2.1,(),(),(),(),mh.2.1.2.2.2.2.2.2.2.2.2.2.1,()),mh.2.2.1,mh.2.2.2.1,(),(),(),(),mh.2.2.2.2.2.2.2.2.1,(),mh.2.2.2.2.1,mh.2.2.2.2.2.2.2.2.2.2.1,mh.2.2.2.2.2.2.1,mh.2.2.2.2.2.2.2.2.2.2.2.1,mh.2.2.2.2.2.2.2.2.2.1,())))
 (cond (p1.1==13)
  ((XT (b1,AE,()) (b4,Aa,()) p1.2.1).bind fun u42=>
  (KV u42.1.1.2.1).bind fun u43=>
  some ((u43.1.1,()),(((),AE,(),(),(),u42.1.1.1.2.1,(),(),(),(),AM,()),b1,b2,(),(),(),(),b7,(),b3,u42.2.1,b5,b6,b8,())))
 (cond (p1.1==14)
  ((NM p1.2.1 p1.2.2.1 AE Aa AM b1 b2 b3 b4 b5 b6 b7 b8).bind fun rk=>
  some ((rk.1.1,()),(((),rk.2.1.2.1,(),(),(),rk.2.1.2.2.2.2.2.1,(),(),(),(),rk.2.1.2.2.2.2.2.2.2.2.2.2.1,()),rk.2.2.1,rk.2.2.2.1,(),(),(),(),rk.2.2.2.2.2.2.2.2.1,(),rk.2.2.2.2.1,rk.2.2.2.2.2.1,rk.2.2.2.2.2.2.1,rk.2.2.2.2.2.2.2.1,rk.2.2.2.2.2.2.2.2.2.1,())))
 (cond (p1.1==16)
  ((Pk p1.2.1 AE Aa AM b1 b2 b3 b4 b5 b6 b7 b8).bind fun r7=>
  some ((r7.1.1,()),(((),r7.2.1.2.1,(),(),(),r7.2.1.2.2.2.2.2.1,(),(),(),(),r7.2.1.2.2.2.2.2.2.2.2.2.2.1,()),r7.2.2.1,r7.2.2.2.1,(),(),(),(),r7.2.2.2.2.2.2.2.2.1,(),r7.2.2.2.2.1,r7.2.2.2.2.2.1,r7.2.2.2.2.2.2.1,r7.2.2.2.2.2.2.2.1,r7.2.2.2.2.2.2.2.2.2.1,())))
 ((A3 p1.2.1 0 (AS ((b5.length:Int)-1))).bind fun u53=>
 cond (!u53.1.1)
  (some ((2,()),(((),AE,(),(),(),Aa,(),(),(),(),AM,()),b1,b2,(),(),(),(),b7,(),b3,b4,b5,b6,b8,())))
 ((FC p1.2.1 (AS (p1.2.1+1)) b5).bind fun u54=>
 some ((0,()),(((),AE,(),(),(),Aa,(),(),(),(),AM,()),b1,b2,(),(),(),(),b7,(),b3,b4,u54.2.2.1,b6,b8,()))))))))))))))))))
end
end Go.M
