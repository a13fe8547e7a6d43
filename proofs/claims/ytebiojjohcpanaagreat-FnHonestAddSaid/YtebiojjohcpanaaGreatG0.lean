/- What each function computes, printed by a program out of the translation; what is printed is checked in the equations. -/
import Derived.Test.YtebiojjohcpanaaGreatF1
set_option linter.unusedVariables false
set_option linter.unusedSimpArgs false
set_option linter.unusedSectionVars false
namespace Go.M
noncomputable section
abbrev zh:Type:=ABk×Unit
def rr(p0:AAG):Option zh:=
 some (((decide ((p0.length:Int)>1048576)),()),())
abbrev W4:Type:=ACx×ADu
abbrev aP:Type:=List Int→Int→Int→Option W4
def bZ(R3:aP)(t0:AAG)(t3 t4:Int):Option W4:=
 cond ((decide (t4<(t0.length:Int))))
  (cond (decide (t4<4000))
   (if(0:Int)≤t4∧t4<(t0.length:Int)then(
   R3 t0 (dk .i64 (AS ((AS ((AS (t3*131))+(AS ((t0.getD (t4.toNat) 0)))))+7)) 1073741823) (AS (t4+1)))else none)
  (some (((),()),((t0,0,t3,()),()))))
 (some (((),()),((t0,0,t3,()),())))
def QW:Nat→aP
 |0=>fun _ _ _=>none
 |n+1=>bZ (QW n)
def bN(R3:aP)(p0:AAG):Option W4:=
 R3 p0 (AS (17817+(p0.length:Int))) 0
def cE(p0:AAG):Option W4:=bN (QW Ac) p0
abbrev so:Type:=AB5×ADu
def Mg(AM:AAG)(AE Ab:Int):Option so:=
 let x2:Int:=AS ((AS (Ab*6364136223846793005))+1442695040888963407)
 let x3:Int:=ARh .i64 (x2.fdiv (2^33)) (x2.fdiv (2^45))
 cond ((decide (AE<(AM.length:Int))))
  (if(0:Int)≤AE∧AE<(AM.length:Int)then(
  some ((dk .i64 (AS ((dk .i64 x3 255)+(AS ((AM.getD (AE.toNat) 0))))) 255,()),((AM,AS (AE+1),x2,()),())))else none)
 (some ((dk .i64 x3 255,()),((AM,AE,x2,()),())))
abbrev Hz:Type:=AB5×ADu
def AL(p1:Int)(AM:AAG)(AE Ab:Int):Option Hz:=
 cond (decide (p1≤0))
  (some ((0,()),((AM,AE,Ab,()),())))
 (cond (decide (p1≤256))
  ((Mg AM AE Ab).bind fun u1=>
  if p1=0 then none else(
  some ((u1.1.1.tmod p1,()),((u1.2.1.1,u1.2.1.2.1,u1.2.1.2.2.1,()),()))))
 ((Mg AM AE Ab).bind fun u2=>
 (Mg u2.2.1.1 u2.2.1.2.1 u2.2.1.2.2.1).bind fun u3=>
 (Mg u3.2.1.1 u3.2.1.2.1 u3.2.1.2.2.1).bind fun u4=>
 (Mg u4.2.1.1 u4.2.1.2.1 u4.2.1.2.2.1).bind fun u5=>
 if p1=0 then none else(
 some ((((AS ((AS ((AS ((AS (u2.1.1*16777216))+(AS (u3.1.1*65536))))+(AS (u4.1.1*256))))+u5.1.1)).tmod p1),()),((u5.2.1.1,u5.2.1.2.1,u5.2.1.2.2.1,()),())))))
abbrev Nr:Type:=ABk×ADu
def BA(p1:Int)(AM:AAG)(AE Ab:Int):Option Nr:=
 (AL p1 AM AE Ab).bind fun u1=>
 some ((u1.1.1==0,()),((u1.2.1.1,u1.2.1.2.1,u1.2.1.2.2.1,()),()))
abbrev M5:Type:=ADg×AGi
abbrev QJ:Type:=Int→Int→List Int→Int→Int→Int→List Int→Int→List Int→Option M5
def TP(R4:QJ)(t4 t5:Int)(AM:AAG)(AE Ab Ar:Int)(b2:AAG)(dy:Int)(b4:AAG):Option M5:=
 cond (decide (t5<t4))
  ((AL 5 AM AE Ab).bind fun u3=>
  if b4.length+1≤DE then(
  R4 t4 (AS (t5+1)) u3.2.1.1 u3.2.1.2.1 u3.2.1.2.2.1 Ar b2 dy (b4++[u3.1.1]))else none)
 ((BA 2 AM AE Ab).bind fun u5=>
 cond (u5.1.1)
  (some ((((),2,()),()),((u5.2.1.1,u5.2.1.2.1,u5.2.1.2.2.1,()),b4,())))
 (some ((((),dy,()),()),((u5.2.1.1,u5.2.1.2.1,u5.2.1.2.2.1,()),b4,()))))
def Im:Nat→QJ
 |0=>fun _ _ _ _ _ _ _ _ _=>none
 |n+1=>TP (Im n)
def Tg(R4:QJ)(AM:AAG)(AE Ab:Int):Option M5:=
 (AL 3 AM AE Ab).bind fun u1=>
 (AL 5 u1.2.1.1 u1.2.1.2.1 u1.2.1.2.2.1).bind fun u2=>
 R4 (AS (3+u2.1.1)) 0 u2.2.1.1 u2.2.1.2.1 u2.2.1.2.2.1 0 [] (AS (1+u1.1.1)) []
def L_(AM:AAG)(AE Ab:Int):Option M5:=Tg (Im Ac) AM AE Ab
abbrev mG:Type:=AB5×ADu
def CQ(p1 AM:AAG)(AE Ab:Int):Option mG:=
 (AL (p1.length:Int) AM AE Ab).bind fun u1=>
 if(0:Int)≤u1.1.1∧u1.1.1<(p1.length:Int)then(
 some (((p1.getD (u1.1.1.toNat) 0),()),((u1.2.1.1,u1.2.1.2.1,u1.2.1.2.2.1,()),())))else none
abbrev aT:Type:=ADg×AGi
def Rl(AM:AAG)(AE Ab:Int):Option aT:=
 (L_ AM AE Ab).bind fun u1=>
 (AL 20 u1.2.1.1 u1.2.1.2.1 u1.2.1.2.2.1).bind fun u2=>
 cond (u2.1.1==0)
  ((CQ [0,4,5] u2.2.1.1 u2.2.1.2.1 u2.2.1.2.2.1).bind fun u3=>
  some ((((),u3.1.1,()),()),((u3.2.1.1,u3.2.1.2.1,u3.2.1.2.2.1,()),u1.2.2.1,())))
 (cond (u2.1.1==1)
  ((CQ [(-1),7,8] u2.2.1.1 u2.2.1.2.1 u2.2.1.2.2.1).bind fun u4=>
  if(0:Int)≤(0:Int)∧(0:Int)<(u1.2.2.1.length:Int)then(
  some ((((),u1.1.1.2.1,()),()),((u4.2.1.1,u4.2.1.2.1,u4.2.1.2.2.1,()),(u1.2.2.1.set 0 u4.1.1),())))else none)
 (cond (u2.1.1==2)
  ((CQ [0,8,9] u2.2.1.1 u2.2.1.2.1 u2.2.1.2.2.1).bind fun u6=>
  if(0:Int)≤u6.1.1∧u6.1.1≤u6.1.1∧u6.1.1≤(DE:Int)then(
  some ((((),u1.1.1.2.1,()),()),((u6.2.1.1,u6.2.1.2.1,u6.2.1.2.2.1,()),(List.replicate (u6.1.1.toNat) 0),())))else none)
 (some ((((),u1.1.1.2.1,()),()),((u2.2.1.1,u2.2.1.2.1,u2.2.1.2.2.1,()),u1.2.2.1,())))))
abbrev dX:Type:=ACx×ADA
def DF(p0:AAG):Option dX:=
 if 0+p0.length≤DE then(
 some (((),()),(p0,())))else none
abbrev jg:Type:=ADg×ADA
def Qw(p0:ABU):Option jg:=
 (DF p0.1).bind fun u1=>
 some ((((),p0.2.1,()),()),(u1.2.1,()))
abbrev Nj:Type:=ABk×Unit
def A7(p0 p1 p2:Int):Option Nj:=
 cond (decide (p0≥p1))
  (some ((decide (p0≤p2),()),()))
 (some ((false,()),()))
abbrev Qq:Type:=ABk×Unit
abbrev Uk:Type:=List Int→Int→Int→List Int→Int→Option Qq
def We(R2:Uk)(t6:AAG)(t7 t8:Int)(AM:AAG)(AE:Int):Option Qq:=
 cond (decide (t8<t7))
  (if(0:Int)≤t8∧t8<(t6.length:Int)then(
  (A7 (t6.getD (t8.toNat) 0) 0 7).bind fun u2=>
  cond (!u2.1.1)
   (some ((false,()),()))
  (R2 t6 t7 (AS (t8+1)) AM AE))else none)
 ((A7 (AM.length:Int) 1 8).bind fun u3=>
 cond (u3.1.1)
  ((A7 AE 1 4).bind fun u4=>
  some ((u4.1.1,()),()))
 (some ((false,()),())))
def L2:Nat→Uk
 |0=>fun _ _ _ _ _=>none
 |n+1=>We (L2 n)
def Wn(R2:Uk)(p0:ABU):Option Qq:=
 R2 p0.1 (p0.1.length:Int) 0 p0.1 p0.2.1
def FF(p0:ABU):Option Qq:=Wn (L2 Ac) p0
abbrev SO:Type:=ABk×Unit
abbrev WB:Type:=List Int→Int→List Int→Int→Int→Option SO
def RJ(R2:WB)(t0:AAG)(t1:Int)(t7:AAG)(t8 t9:Int):Option SO:=
 cond (decide (t9<t8))
  (if(0:Int)≤t9∧t9<(t7.length:Int)then(
  let x1:Int:=(t7.getD (t9.toNat) 0)
  (A7 x1 0 t1).bind fun u2=>
  cond (!u2.1.1)
   (some ((false,()),()))
  (cond (decide (t9>0))
   (if(0:Int)≤AS (t9-1)∧AS (t9-1)<(t0.length:Int)then(
   cond (decide ((t0.getD ((AS (t9-1)).toNat) 0)≥x1))
    (some ((false,()),()))
   (R2 t0 t1 t7 t8 (AS (t9+1))))else none)
  (R2 t0 t1 t7 t8 (AS (t9+1)))))else none)
 (some ((true,()),()))
def KF:Nat→WB
 |0=>fun _ _ _ _ _=>none
 |n+1=>RJ (KF n)
def YQ(R2:WB)(p0:AAG)(p1:Int):Option SO:=
 R2 p0 p1 p0 (p0.length:Int) 0
def XN(p0:AAG)(p1:Int):Option SO:=YQ (KF Ac) p0 p1
abbrev rG:Type:=ABk×Unit
def EF(p0:ABU)(p1:AAG):Option rG:=
 (FF (p0.1,p0.2.1,())).bind fun u1=>
 cond (u1.1.1)
  ((XN p1 (AS ((p0.1.length:Int)-1))).bind fun u3=>
  some ((u3.1.1,()),()))
 (some ((false,()),()))
abbrev qC:Type:=ABk×Unit
def Hp(p0:Int):Option qC:=
 (A7 p0 1 30).bind fun u1=>
 some ((u1.1.1,()),())
abbrev ud:Type:=ABk×Unit
def X3(p0:Int):Option ud:=
 (A7 p0 1 60).bind fun u1=>
 some ((u1.1.1,()),())
abbrev rl:Type:=ABk×Unit
def EA(p0:Int):Option rl:=
 (Hp (AS (p0.tdiv 4294967296))).bind fun u2=>
 cond (u2.1.1)
  ((X3 (p0.tmod 4294967296)).bind fun u3=>
  some ((u3.1.1,()),()))
 (some ((false,()),()))
abbrev sH:Type:=ABk×Unit
def GL(p0:ABp):Option sH:=
 some (((decide ((p0.length:Int)≤40)),()),())
abbrev qK:Type:=AB5×Unit
def FL(p0:Int):Option qK:=
 (EA p0).bind fun u1=>
 cond (!u1.1.1)
  (some ((0,()),()))
 (some (((AS (p0.tdiv 4294967296)),()),()))
abbrev rT:Type:=ABk×Unit
def Mu(p0:ADZ):Option rT:=
 (A7 p0.2.1 0 30).bind fun u1=>
 cond (u1.1.1)
  (cond (p0.2.1==0)
   (cond (!p0.2.2.1)
    ((EA p0.1).bind fun u2=>
    cond (u2.1.1)
     ((GL p0.2.2.2.1).bind fun u3=>
     some ((u3.1.1,()),()))
    (some ((false,()),())))
   (cond (decide (p0.2.1>0))
    ((EA p0.1).bind fun u4=>
    cond (u4.1.1)
     (cond (p0.2.2.2.1==[])
      ((GL p0.2.2.2.1).bind fun u5=>
      some ((u5.1.1,()),()))
     (some ((false,()),())))
    (some ((false,()),())))
   ((EA p0.1).bind fun u6=>
   cond (u6.1.1)
    (some ((false,()),()))
   (some ((false,()),())))))
  ((FL p0.1).bind fun u7=>
  let x8:Bool:=decide (p0.2.1>u7.1.1)
  cond (!p0.2.2.1)
   ((EA p0.1).bind fun u9=>
   cond (u9.1.1)
    (cond (x8)
     ((GL p0.2.2.2.1).bind fun D9=>
     some ((D9.1.1,()),()))
    (some ((false,()),())))
   (some ((false,()),())))
  (cond (decide (p0.2.1>0))
   ((EA p0.1).bind fun Kg=>
   cond (Kg.1.1)
    (cond (x8)
     (cond (p0.2.2.2.1==[])
      ((GL p0.2.2.2.1).bind fun Dj=>
      some ((Dj.1.1,()),()))
     (some ((false,()),())))
    (some ((false,()),())))
   (some ((false,()),())))
  ((EA p0.1).bind fun J9=>
  cond (J9.1.1)
   (cond (x8)
    (some ((false,()),()))
   (some ((false,()),())))
  (some ((false,()),()))))))
 (cond (!p0.2.2.1)
  ((EA p0.1).bind fun Kc=>
  cond (Kc.1.1)
   (some ((false,()),()))
  (some ((false,()),())))
 (cond (decide (p0.2.1>0))
  ((EA p0.1).bind fun Zb=>
  cond (Zb.1.1)
   (some ((false,()),()))
  (some ((false,()),())))
 ((EA p0.1).bind fun u16=>
 cond (u16.1.1)
  (some ((false,()),()))
 (some ((false,()),())))))
abbrev PX:Type:=ABk×Unit
abbrev Tf:Type:=AA2→Int→Int→Option PX
def Oy(R2:Tf)(t5:AA2)(t6 t7:Int):Option PX:=
 cond (decide (t7<t6))
  (if(0:Int)≤t7∧t7<(t5.length:Int)then(
  (Mu ((t5.getD (t7.toNat) (0,0,false,[],())).1,(t5.getD (t7.toNat) (0,0,false,[],())).2.1,(t5.getD (t7.toNat) (0,0,false,[],())).2.2.1,(t5.getD (t7.toNat) (0,0,false,[],())).2.2.2.1,())).bind fun u1=>
  cond (!u1.1.1)
   (some ((false,()),()))
  (R2 t5 t6 (AS (t7+1))))else none)
 (some ((true,()),()))
def IQ:Nat→Tf
 |0=>fun _ _ _=>none
 |n+1=>Oy (IQ n)
def Vm(R2:Tf)(p0:AA2):Option PX:=
 R2 p0 (p0.length:Int) 0
def O5(p0:AA2):Option PX:=Vm (IQ Ac) p0
abbrev Ld:Type:=ABk×Unit
abbrev Oo:Type:=AA2→AA2→Int→Int→Option Ld
def MX(R2:Oo)(t0 t5:AA2)(t6 t7:Int):Option Ld:=
 cond (decide (t7<t6))
  (if(0:Int)≤t7∧t7<(t5.length:Int)then(
  cond (decide (t7>0))
   (if(0:Int)≤AS (t7-1)∧AS (t7-1)<(t0.length:Int)then(
   cond (decide (((t0.getD ((AS (t7-1)).toNat) (0,0,false,[],())).1)≥((t5.getD (t7.toNat) (0,0,false,[],())).1)))
    (some ((false,()),()))
   (R2 t0 t5 t6 (AS (t7+1))))else none)
  (R2 t0 t5 t6 (AS (t7+1))))else none)
 (some ((true,()),()))
def GY:Nat→Oo
 |0=>fun _ _ _ _=>none
 |n+1=>MX (GY n)
def Rj(R2:Oo)(p0:AA2):Option Ld:=
 R2 p0 p0 (p0.length:Int) 0
def Kl(p0:AA2):Option Ld:=Rj (GY Ac) p0
abbrev pP:Type:=ABk×Unit
def FK(p0:ACn):Option pP:=
 cond ((decide ((p0.1.length:Int)>200)))
  (some ((false,()),()))
 (cond (decide ((p0.2.1.length:Int)>20))
  (some ((false,()),()))
 ((O5 p0.1).bind fun u3=>
 cond (u3.1.1)
  ((O5 p0.2.1).bind fun u4=>
  cond (u4.1.1)
   ((Kl p0.1).bind fun u5=>
   cond (u5.1.1)
    ((A7 p0.2.2.1 0 30).bind fun u6=>
    some ((u6.1.1,()),()))
   (some ((false,()),())))
  (some ((false,()),())))
 (some ((false,()),()))))
abbrev I1:Type:=AB5×Unit
abbrev Ls:Type:=List Int→Int→Int→Int→Option I1
def O3(R2:Ls)(t0:AAG)(t1 t7 t8:Int):Option I1:=
 cond (decide (t8<t7))
  (if(0:Int)≤t8∧t8<(t0.length:Int)then(
  cond (t1==(t0.getD (t8.toNat) 0))
   (some ((t8,()),()))
  (R2 t0 t1 t7 (AS (t8+1))))else none)
 (some (((-1),()),()))
def Ga:Nat→Ls
 |0=>fun _ _ _ _=>none
 |n+1=>O3 (Ga n)
def PL(R2:Ls)(p0:AAG)(p1:Int):Option I1:=
 R2 p0 p1 (p0.length:Int) 0
def Oq(p0:AAG)(p1:Int):Option I1:=PL (Ga Ac) p0 p1
abbrev Yn:Type:=ABk×Unit
def Bo(p0:AAG)(p1:Int):Option Yn:=
 (Oq p0 p1).bind fun u1=>
 some ((decide (u1.1.1≥0),()),())
abbrev sg:Type:=ABk×Unit
def Rb(p0:Int)(p1:ADA):Option sg:=
 (Bo p1.1 p0).bind fun u1=>
 some ((!u1.1.1,()),())
abbrev DM:Type:=AB5×Unit
abbrev Ej:Type:=List Int→(ADA×Unit)→Int→Int→Option DM
def EC(R2:Ej)(t0:AAG)(t1:ADA×Unit)(t7 t8:Int):Option DM:=
 cond (decide (t8<t7))
  (if(0:Int)≤t8∧t8<(t0.length:Int)then(
  (Rb (t0.getD (t8.toNat) 0) t1.1).bind fun u2=>
  cond (u2.1.1)
   (some ((t8,()),()))
  (R2 t0 (t1.1,()) t7 (AS (t8+1))))else none)
 (some (((-1),()),()))
def B4:Nat→Ej
 |0=>fun _ _ _ _=>none
 |n+1=>EC (B4 n)
def EG(R2:Ej)(p0:AAG)(p1:ADA×Unit):Option DM:=
 R2 p0 (p1.1,()) (p0.length:Int) 0
def Dp(p0:AAG)(p1:ADA×Unit):Option DM:=EG (B4 Ac) p0 p1
abbrev DH:Type:=ACx×AGn
abbrev Ea:Type:=(ADA×Unit)→Int→Int→List Int→Option DH
def D5(R5:Ea)(t1:ADA×Unit)(t5 t6:Int)(b0:AAG):Option DH:=
 cond ((decide (t6<(b0.length:Int))))
  (if(0:Int)≤t6∧t6<(b0.length:Int)then(
  let x3:Int:=(b0.getD (t6.toNat) 0)
  (Rb x3 t1.1).bind fun u4=>
  cond (!u4.1.1)
   (if(0:Int)≤t5∧t5<(b0.length:Int)then(
   R5 (t1.1,()) (AS (t5+1)) (AS (t6+1)) (b0.set (t5.toNat) x3))else none)
  (R5 (t1.1,()) t5 (AS (t6+1)) b0))else none)
 (if(0:Int)≤t5∧t5≤(b0.length:Int)∧(b0.length:Int)≤(b0.length:Int)then(
 let x6:AAG:=(b0.take (t5.toNat)++List.replicate (((b0.length:Int).toNat)-(t5.toNat)) 0++b0.drop ((t5.toNat)+(((b0.length:Int).toNat)-(t5.toNat))))
 if(0:Int)≤(0:Int)∧(0:Int)≤t5∧t5≤(x6.length:Int)then(
 some (((),()),((),((x6.drop 0).take ((t5.toNat)-0)),())))else none)else none)
def Bt:Nat→Ea
 |0=>fun _ _ _ _=>none
 |n+1=>D5 (Bt n)
def D6(R5:Ea)(p1:ADA×Unit)(b0:AAG):Option DH:=
 (Dp b0 (p1.1,())).bind fun u1=>
 cond (u1.1.1==(-1))
  (some (((),()),((),b0,())))
 (R5 (p1.1,()) u1.1.1 (AS (u1.1.1+1)) b0)
def Ck(p1:ADA×Unit)(b0:AAG):Option DH:=D6 (Bt Ac) p1 b0
abbrev xd:Type:=ACx×ADA
def Ng(p0 p1:AAG):Option xd:=
 (DF p0).bind fun u1=>
 (Ck ((p1,()),()) u1.2.1).bind fun u2=>
 some (((),()),(u2.2.2.1,()))
abbrev Ln:Type:=ABk×Unit
def C5(p0:ABf)(p1:Int):Option Ln:=
 (Ng [p1] p0.2.2.2.1).bind fun u1=>
 some ((decide ((u1.2.1.length:Int)>0),()),())
abbrev U0:Type:=AB5×Unit
abbrev YO:Type:=List Int→Int→Int→List Int→Int→List Int→Option U0
def ZJ(R5:YO)(t13:AAG)(t14 t15:Int)(AM:AAG)(AE:Int)(b1:AAG):Option U0:=
 cond (decide (t15<t14))
  (if(0:Int)≤t15∧t15<(t13.length:Int)then(
  let x2:Int:=(t13.getD (t15.toNat) 0)
  if(0:Int)≤x2∧x2<(AM.length:Int)then(
  (Bo b1 (AM.getD (x2.toNat) 0)).bind fun u4=>
  cond (!u4.1.1)
   (if(0:Int)≤x2∧x2<(AM.length:Int)then(
   if b1.length+1≤DE then(
   R5 t13 t14 (AS (t15+1)) AM AE (b1++[(AM.getD (x2.toNat) 0)]))else none)else none)
  (R5 t13 t14 (AS (t15+1)) AM AE b1))else none)else none)
 (some (((b1.length:Int),()),()))
def OZ:Nat→YO
 |0=>fun _ _ _ _ _ _=>none
 |n+1=>ZJ (OZ n)
def Zw(R5:YO)(p0:ABU)(p1:AAG):Option U0:=
 (EF (p0.1,p0.2.1,()) p1).bind fun u1=>
 cond (!u1.1.1)
  (some (((-1),()),()))
 (R5 p1 (p1.length:Int) 0 p0.1 p0.2.1 [])
def ZM(p0:ABU)(p1:AAG):Option U0:=Zw (OZ Ac) p0 p1
abbrev j9:Type:=ABk×Unit
def GF(p0:ABU)(p1:AAG):Option j9:=
 (EF (p0.1,p0.2.1,()) p1).bind fun u1=>
 cond (u1.1.1)
  ((ZM (p0.1,p0.2.1,()) p1).bind fun u2=>
  some (((decide (u2.1.1≥p0.2.1)),()),()))
 (some ((false,()),()))
abbrev J0:Type:=ABk×Unit
abbrev M_:Type:=ABf→AAa→Int→Int→Option J0
def J7(R4:M_)(t0:ABf)(t32:AAa)(t33 t34:Int):Option J0:=
 cond (decide (t34<t33))
  (if(0:Int)≤t34∧t34<(t32.length:Int)then(
  (FK ((t32.getD (t34.toNat) ([],[],0,())).1,(t32.getD (t34.toNat) ([],[],0,())).2.1,(t32.getD (t34.toNat) ([],[],0,())).2.2.1,())).bind fun u5=>
  cond (!u5.1.1)
   (some ((false,()),()))
  ((C5 t0 t34).bind fun u6=>
  cond (u6.1.1)
   (cond (decide ((AS ((AS ((((t32.getD (t34.toNat) ([],[],0,())).1).length:Int)+(((t32.getD (t34.toNat) ([],[],0,())).2.1).length:Int)))+((t32.getD (t34.toNat) ([],[],0,())).2.2.1)))>0))
    (some ((false,()),()))
   (R4 t0 t32 t33 (AS (t34+1))))
  (R4 t0 t32 t33 (AS (t34+1)))))else none)
 (cond (t0.2.2.2.2.2.2.2.2.2.2.1)
  (some ((true,()),()))
 ((GF (t0.1,t0.2.1,()) t0.2.2.2.1).bind fun Dj=>
 some ((!Dj.1.1,()),())))
def FN:Nat→M_
 |0=>fun _ _ _ _=>none
 |n+1=>J7 (FN n)
def P7(R4:M_)(p0:ABf):Option J0:=
 cond (((p0.2.2.1.length:Int) !=(p0.1.length:Int)))
  (some ((false,()),()))
 ((EF (p0.1,p0.2.1,()) p0.2.2.2.1).bind fun u3=>
 cond (!u3.1.1)
  (some ((false,()),()))
 (R4 p0 p0.2.2.1 (p0.2.2.1.length:Int) 0))
def La(p0:ABf):Option J0:=P7 (FN Ac) p0
abbrev vG:Type:=ABk×Unit
def cV(p0:ABU)(p1:AGj):Option vG:=
 (GF (p0.1,p0.2.1,()) p1.1).bind fun u1=>
 cond (u1.1.1)
  ((A7 p1.2.2.1 0 60).bind fun u2=>
  cond (u2.1.1)
   (cond (p1.2.1)
    (some ((true,()),()))
   (some ((p1.2.2.1==0,()),())))
  (some ((false,()),())))
 (some ((false,()),()))
abbrev Sp:Type:=ABk×Unit
abbrev aV:Type:=AAX→Int→Int→List Int→Int→AAX→Int→Option Sp
def UN(R2:aV)(t9:AAX)(t10 t11:Int)(AM:AAG)(AE:Int)(BJ:AAX)(Ar:Int):Option Sp:=
 cond (decide (t11<t10))
  (if(0:Int)≤t11∧t11<(t9.length:Int)then(
  (cV (AM,AE,()) ((t9.getD (t11.toNat) ([],false,0,())).1,(t9.getD (t11.toNat) ([],false,0,())).2.1,(t9.getD (t11.toNat) ([],false,0,())).2.2.1,())).bind fun u1=>
  cond (!u1.1.1)
   (some ((false,()),()))
  (cond (((t9.getD (t11.toNat) ([],false,0,())).2.1))
   (cond (t11==(AS ((BJ.length:Int)-1)))
    (some ((false,()),()))
   (cond (decide (t11>0))
    (if(0:Int)≤AS (t11-1)∧AS (t11-1)<(BJ.length:Int)then(
    cond (!((BJ.getD ((AS (t11-1)).toNat) ([],false,0,())).2.1))
     (some ((false,()),()))
    (R2 t9 t10 (AS (t11+1)) AM AE BJ Ar))else none)
   (R2 t9 t10 (AS (t11+1)) AM AE BJ Ar)))
  (R2 t9 t10 (AS (t11+1)) AM AE BJ Ar)))else none)
 (cond (Ar==0)
  ((FF (AM,AE,())).bind fun u5=>
  cond (u5.1.1)
   (cond ((decide ((BJ.length:Int)≤30)))
    (some ((true,()),()))
   (some ((false,()),())))
  (some ((false,()),())))
 ((FL Ar).bind fun u7=>
 (A7 u7.1.1 1 (BJ.length:Int)).bind fun u8=>
 (FF (AM,AE,())).bind fun u9=>
 cond (u9.1.1)
  (cond ((decide ((BJ.length:Int)≤30)))
   (some ((u8.1.1,()),()))
  (some ((false,()),())))
 (some ((false,()),()))))
def LJ:Nat→aV
 |0=>fun _ _ _ _ _ _ _=>none
 |n+1=>UN (LJ n)
def az(R2:aV)(p0:ABU)(p1:ACa):Option Sp:=
 R2 p1.1 (p1.1.length:Int) 0 p0.1 p0.2.1 p1.1 p1.2.1
def K7(p0:ABU)(p1:ACa):Option Sp:=az (LJ Ac) p0 p1
abbrev qo:Type:=AB5×Unit
def cS(p0:Bool):Option qo:=
 cond (p0)
  (some ((1,()),()))
 (some ((0,()),()))
abbrev NX:Type:=ABk×Unit
abbrev Ue:Type:=Int→AB4→Int→Int→List Int→Int→Int→AB4→Option NX
def WZ(R3:Ue)(t5:Int)(t9:AB4)(t10 t11:Int)(AM:AAG)(AE BJ:Int)(Ar:AB4):Option NX:=
 cond (decide (t11<t10))
  (if(0:Int)≤t11∧t11<(t9.length:Int)then(
  (GL ((t9.getD (t11.toNat) ([],[],false,())).1)).bind fun u3=>
  cond (!u3.1.1)
   (some ((false,()),()))
  ((EF (AM,AE,()) ((t9.getD (t11.toNat) ([],[],false,())).2.1)).bind fun u4=>
  cond (!u4.1.1)
   (some ((false,()),()))
  ((GF (AM,AE,()) ((t9.getD (t11.toNat) ([],[],false,())).2.1)).bind fun u6=>
  cond (((t9.getD (t11.toNat) ([],[],false,())).2.2.1) !=u6.1.1)
   (some ((false,()),()))
  ((cS (!((t9.getD (t11.toNat) ([],[],false,())).2.2.1))).bind fun u8=>
  R3 (AS (t5+u8.1.1)) t9 t10 (AS (t11+1)) AM AE BJ Ar))))else none)
 ((FF (AM,AE,())).bind fun u9=>
 cond (u9.1.1)
  ((Hp BJ).bind fun D9=>
  cond (D9.1.1)
   (cond ((decide ((Ar.length:Int)≤60)))
    (some ((decide (t5≤6),()),()))
   (some ((false,()),())))
  (some ((false,()),())))
 (some ((false,()),())))
def MU:Nat→Ue
 |0=>fun _ _ _ _ _ _ _ _=>none
 |n+1=>WZ (MU n)
def Wf(R3:Ue)(p0:ABU)(p1:ACt):Option NX:=
 R3 0 p1.2.1 (p1.2.1.length:Int) 0 p0.1 p0.2.1 p1.1 p1.2.1
def Gh(p0:ABU)(p1:ACt):Option NX:=Wf (MU Ac) p0 p1
abbrev eG:Type:=ABk×Unit
def Js(p0:ABf)(p1:Int):Option eG:=
 (A7 p1 1 (p0.2.2.2.2.1.length:Int)).bind fun u2=>
 some ((u2.1.1,()),())
abbrev Ix:Type:=ABk×Unit
abbrev MA:Type:=ABf→AAt→Int→Int→Option Ix
def Jr(R2:MA)(t0:ABf)(t8:AAt)(t9 t10:Int):Option Ix:=
 cond (decide (t10<t9))
  (if(0:Int)≤t10∧t10<(t8.length:Int)then(
  (Gh (t0.1,t0.2.1,()) ((t8.getD (t10.toNat) (0,[],())).1,(t8.getD (t10.toNat) (0,[],())).2.1,())).bind fun u2=>
  cond (!u2.1.1)
   (some ((false,()),()))
  ((Js t0 ((t8.getD (t10.toNat) (0,[],())).1)).bind fun u4=>
  cond (!u4.1.1)
   (some ((false,()),()))
  (cond (decide (t10>0))
   (if(0:Int)≤AS (t10-1)∧AS (t10-1)<(t0.2.2.2.2.2.2.1.length:Int)then(
   cond (decide (((t0.2.2.2.2.2.2.1.getD ((AS (t10-1)).toNat) (0,[],())).1)≥((t8.getD (t10.toNat) (0,[],())).1)))
    (some ((false,()),()))
   (R2 t0 t8 t9 (AS (t10+1))))else none)
  (R2 t0 t8 t9 (AS (t10+1))))))else none)
 (some ((decide ((t0.2.2.2.2.2.2.1.length:Int)≤4),()),()))
def Ek:Nat→MA
 |0=>fun _ _ _ _=>none
 |n+1=>Jr (Ek n)
def Oc(R2:MA)(p0:ABf):Option Ix:=
 R2 p0 p0.2.2.2.2.2.2.1 (p0.2.2.2.2.2.2.1.length:Int) 0
def Kw(p0:ABf):Option Ix:=Oc (Ek Ac) p0
abbrev uy:Type:=AB5×Unit
def UW(p0:Int):Option uy:=
 (EA p0).bind fun u1=>
 cond (!u1.1.1)
  (some ((0,()),()))
 (some ((p0.tmod 4294967296,()),()))
abbrev pZ:Type:=AB5×Unit
def SN(p0:ABe):Option pZ:=
 cond ((p0.2.2.2.1.length:Int)==0)
  (some ((0,()),()))
 (let x2:Int:=(p0.2.2.2.1.length:Int)
 if(0:Int)≤AS (x2-1)∧AS (x2-1)<(p0.2.2.2.1.length:Int)then(
 (UW ((p0.2.2.2.1.getD ((AS (x2-1)).toNat) (0,0,false,[],())).1)).bind fun u4=>
 some ((u4.1.1,()),()))else none)
abbrev Ut:Type:=ABk×Unit
abbrev YA:Type:=AA2→Int→Int→Int→Int→List Int→AA2→Bool→List AAG→Option Ut
def Sn(R2:YA)(t6:AA2)(t7 t8 AM AE:Int)(Ab:AAG)(Cq:AA2)(DW:Bool)(AZ:List AAG):Option Ut:=
 cond (decide (t8<t7))
  (if(0:Int)≤t8∧t8<(t6.length:Int)then(
  (Mu ((t6.getD (t8.toNat) (0,0,false,[],())).1,(t6.getD (t8.toNat) (0,0,false,[],())).2.1,(t6.getD (t8.toNat) (0,0,false,[],())).2.2.1,(t6.getD (t8.toNat) (0,0,false,[],())).2.2.2.1,())).bind fun u2=>
  cond (!u2.1.1)
   (some ((false,()),()))
  ((FL ((t6.getD (t8.toNat) (0,0,false,[],())).1)).bind fun u4=>
  cond (u4.1.1 !=AE)
   (some ((false,()),()))
  (cond (decide (((t6.getD (t8.toNat) (0,0,false,[],())).2.1)≥AM))
   (some ((false,()),()))
  (R2 t6 t7 (AS (t8+1)) AM AE Ab Cq DW AZ))))else none)
 ((Kl Cq).bind fun u6=>
 some ((u6.1.1,()),()))
def MF:Nat→YA
 |0=>fun _ _ _ _ _ _ _ _ _=>none
 |n+1=>Sn (MF n)
def Zc(R2:YA)(p0:ABe):Option Ut:=
 R2 p0.2.2.2.1 (p0.2.2.2.1.length:Int) 0 p0.1 p0.2.1 p0.2.2.1 p0.2.2.2.1 p0.2.2.2.2.1 p0.2.2.2.2.2.1
def VC(p0:ABe):Option Ut:=Zc (MF Ac) p0
abbrev U4:Type:=ABk×Unit
abbrev Xm:Type:=List AAG→Int→Int→List Int→Int→Int→Int→List Int→AA2→Bool→List AAG→Option U4
def SJ(R2:Xm)(t10:List AAG)(t11 t12:Int)(AM:AAG)(AE BJ Ar:Int)(DK:AAG)(G9:AA2)(M0:Bool)(Di:List AAG):Option U4:=
 cond (decide (t12<t11))
  (if(0:Int)≤t12∧t12<(t10.length:Int)then(
  (EF (AM,AE,()) (t10.getD (t12.toNat) [])).bind fun u2=>
  cond (!u2.1.1)
   (some ((false,()),()))
  (R2 t10 t11 (AS (t12+1)) AM AE BJ Ar DK G9 M0 Di))else none)
 (cond (M0)
  ((SN (BJ,Ar,DK,G9,M0,Di,())).bind fun u3=>
  (Hp Ar).bind fun u4=>
  cond (u4.1.1)
   ((A7 BJ (AS (Ar+1)) 30).bind fun u5=>
   (FF (AM,AE,())).bind fun u6=>
   cond (u6.1.1)
    (cond (u5.1.1)
     ((EF (AM,AE,()) DK).bind fun u7=>
     cond (u7.1.1)
      ((VC (BJ,Ar,DK,G9,M0,Di,())).bind fun u8=>
      cond (u8.1.1)
       (some ((((Di.length:Int)==u3.1.1),()),()))
      (some ((false,()),())))
     (some ((false,()),())))
    (some ((false,()),())))
   (some ((false,()),())))
  ((FF (AM,AE,())).bind fun D9=>
  cond (D9.1.1)
   (some ((false,()),()))
  (some ((false,()),()))))
 ((Hp Ar).bind fun Kg=>
 cond (Kg.1.1)
  ((A7 BJ (AS (Ar+1)) 30).bind fun Dj=>
  (FF (AM,AE,())).bind fun J9=>
  cond (J9.1.1)
   (cond (Dj.1.1)
    ((EF (AM,AE,()) DK).bind fun Kc=>
    cond (Kc.1.1)
     ((VC (BJ,Ar,DK,G9,M0,Di,())).bind fun Zb=>
     cond (Zb.1.1)
      (some ((((Di.length:Int)==0),()),()))
     (some ((false,()),())))
    (some ((false,()),())))
   (some ((false,()),())))
  (some ((false,()),())))
 ((FF (AM,AE,())).bind fun Xb=>
 cond (Xb.1.1)
  (some ((false,()),()))
 (some ((false,()),())))))
def MB:Nat→Xm
 |0=>fun _ _ _ _ _ _ _ _ _ _ _=>none
 |n+1=>SJ (MB n)
def Zm(R2:Xm)(p0:ABU)(p1:ABe):Option U4:=
 R2 p1.2.2.2.2.2.1 (p1.2.2.2.2.2.1.length:Int) 0 p0.1 p0.2.1 p1.1 p1.2.1 p1.2.2.1 p1.2.2.2.1 p1.2.2.2.2.1 p1.2.2.2.2.2.1
def H6(p0:ABU)(p1:ABe):Option U4:=Zm (MB Ac) p0 p1
abbrev Pe:Type:=AB5×Unit
abbrev Si:Type:=AAX→Int→Int→Option Pe
def PK(R2:Si)(t6:AAX)(t7 t8:Int):Option Pe:=
 cond (decide (t8<t7))
  (if(0:Int)≤t8∧t8<(t6.length:Int)then(
  cond (!((t6.getD (t8.toNat) ([],false,0,())).2.1))
   (some ((AS (t8+1),()),()))
  (R2 t6 t7 (AS (t8+1))))else none)
 (some ((0,()),()))
def IL:Nat→Si
 |0=>fun _ _ _=>none
 |n+1=>PK (IL n)
def Va(R2:Si)(p0:ACa):Option Pe:=
 R2 p0.1 (p0.1.length:Int) 0
def L7(p0:ACa):Option Pe:=Va (IL Ac) p0
abbrev Kh:Type:=ABk×Unit
abbrev Ny:Type:=ABf→AA9→Int→Int→Option Kh
def LM(R2:Ny)(t0:ABf)(t8:AA9)(t9 t10:Int):Option Kh:=
 cond (decide (t10<t9))
  (if(0:Int)≤t10∧t10<(t8.length:Int)then(
  (H6 (t0.1,t0.2.1,()) ((t8.getD (t10.toNat) (0,0,[],[],false,[],())).1,(t8.getD (t10.toNat) (0,0,[],[],false,[],())).2.1,(t8.getD (t10.toNat) (0,0,[],[],false,[],())).2.2.1,(t8.getD (t10.toNat) (0,0,[],[],false,[],())).2.2.2.1,(t8.getD (t10.toNat) (0,0,[],[],false,[],())).2.2.2.2.1,(t8.getD (t10.toNat) (0,0,[],[],false,[],())).2.2.2.2.2.1,())).bind fun u2=>
  cond (!u2.1.1)
   (some ((false,()),()))
  (cond (((t8.getD (t10.toNat) (0,0,[],[],false,[],())).1) !=(t0.2.2.2.2.1.length:Int))
   (some ((false,()),()))
  ((L7 (t0.2.2.2.2.1,t0.2.2.2.2.2.1,())).bind fun u6=>
  cond (((t8.getD (t10.toNat) (0,0,[],[],false,[],())).2.1) !=u6.1.1)
   (some ((false,()),()))
  (R2 t0 t8 t9 (AS (t10+1))))))else none)
 (some ((decide ((t0.2.2.2.2.2.2.2.1.length:Int)≤1),()),()))
def Fl:Nat→Ny
 |0=>fun _ _ _ _=>none
 |n+1=>LM (Fl n)
def Qc(R2:Ny)(p0:ABf):Option Kh:=
 R2 p0 p0.2.2.2.2.2.2.2.1 (p0.2.2.2.2.2.2.2.1.length:Int) 0
def Mk(p0:ABf):Option Kh:=Qc (Fl Ac) p0
abbrev oA:Type:=ABk×Unit
def U6(p0:ADa):Option oA:=
 (A7 p0.1 1 31).bind fun u1=>
 cond (u1.1.1)
  ((A7 p0.2.1 1 61).bind fun u2=>
  cond (u2.1.1)
   (some ((decide ((p0.2.2.1.length:Int)≤120),()),()))
  (some ((false,()),())))
 (some ((false,()),()))
abbrev I4:Type:=ABk×Unit
abbrev Lx:Type:=ABf→ABQ→Int→Int→Option I4
def Jp(R2:Lx)(t0:ABf)(t8:ABQ)(t9 t10:Int):Option I4:=
 cond (decide (t10<t9))
  (if(0:Int)≤t10∧t10<(t8.length:Int)then(
  (U6 ((t8.getD (t10.toNat) (0,0,[],())).1,(t8.getD (t10.toNat) (0,0,[],())).2.1,(t8.getD (t10.toNat) (0,0,[],())).2.2.1,())).bind fun u2=>
  cond (!u2.1.1)
   (some ((false,()),()))
  (R2 t0 t8 t9 (AS (t10+1))))else none)
 (some (((t0.2.2.2.2.2.2.2.2.1.length:Int)==2,()),()))
def El:Nat→Lx
 |0=>fun _ _ _ _=>none
 |n+1=>Jp (El n)
def Ob(R2:Lx)(p0:ABf):Option I4:=
 R2 p0 p0.2.2.2.2.2.2.2.2.1 (p0.2.2.2.2.2.2.2.2.1.length:Int) 0
def Kb(p0:ABf):Option I4:=Ob (El Ac) p0
abbrev Lf:Type:=ABk×Unit
abbrev Ou:Type:=ABf→AAl→Int→Int→Option Lf
def MK(R2:Ou)(t0:ABf)(t8:AAl)(t9 t10:Int):Option Lf:=
 cond (decide (t10<t9))
  (if(0:Int)≤t10∧t10<(t8.length:Int)then(
  (FL ((t8.getD (t10.toNat) (0,[],false,())).1)).bind fun u3=>
  (Js t0 u3.1.1).bind fun u4=>
  cond (!u4.1.1)
   (some ((false,()),()))
  ((GL ((t8.getD (t10.toNat) (0,[],false,())).2.1)).bind fun u6=>
  cond (!u6.1.1)
   (some ((false,()),()))
  (cond (decide (t10>0))
   (if(0:Int)≤AS (t10-1)∧AS (t10-1)<(t0.2.2.2.2.2.2.2.2.2.1.length:Int)then(
   cond (decide (((t0.2.2.2.2.2.2.2.2.2.1.getD ((AS (t10-1)).toNat) (0,[],false,())).1)≥((t8.getD (t10.toNat) (0,[],false,())).1)))
    (some ((false,()),()))
   (R2 t0 t8 t9 (AS (t10+1))))else none)
  (R2 t0 t8 t9 (AS (t10+1))))))else none)
 (some ((decide ((t0.2.2.2.2.2.2.2.2.2.1.length:Int)≤120),()),()))
def GQ:Nat→Ou
 |0=>fun _ _ _ _=>none
 |n+1=>MK (GQ n)
def Ru(R2:Ou)(p0:ABf):Option Lf:=
 R2 p0 p0.2.2.2.2.2.2.2.2.2.1 (p0.2.2.2.2.2.2.2.2.2.1.length:Int) 0
def OH(p0:ABf):Option Lf:=Ru (GQ Ac) p0
abbrev qq:Type:=ABk×Unit
def ND(p0:ABf):Option qq:=
 (FF (p0.1,p0.2.1,())).bind fun u1=>
 cond (u1.1.1)
  ((La (p0.1,p0.2.1,p0.2.2.1,p0.2.2.2.1,p0.2.2.2.2.1,p0.2.2.2.2.2.1,p0.2.2.2.2.2.2.1,p0.2.2.2.2.2.2.2.1,p0.2.2.2.2.2.2.2.2.1,p0.2.2.2.2.2.2.2.2.2.1,p0.2.2.2.2.2.2.2.2.2.2.1,())).bind fun u2=>
  cond (u2.1.1)
   ((K7 (p0.1,p0.2.1,()) (p0.2.2.2.2.1,p0.2.2.2.2.2.1,())).bind fun u3=>
   cond (u3.1.1)
    ((Kw (p0.1,p0.2.1,p0.2.2.1,p0.2.2.2.1,p0.2.2.2.2.1,p0.2.2.2.2.2.1,p0.2.2.2.2.2.2.1,p0.2.2.2.2.2.2.2.1,p0.2.2.2.2.2.2.2.2.1,p0.2.2.2.2.2.2.2.2.2.1,p0.2.2.2.2.2.2.2.2.2.2.1,())).bind fun u4=>
    cond (u4.1.1)
     ((Mk (p0.1,p0.2.1,p0.2.2.1,p0.2.2.2.1,p0.2.2.2.2.1,p0.2.2.2.2.2.1,p0.2.2.2.2.2.2.1,p0.2.2.2.2.2.2.2.1,p0.2.2.2.2.2.2.2.2.1,p0.2.2.2.2.2.2.2.2.2.1,p0.2.2.2.2.2.2.2.2.2.2.1,())).bind fun u5=>
     cond (u5.1.1)
      ((Kb (p0.1,p0.2.1,p0.2.2.1,p0.2.2.2.1,p0.2.2.2.2.1,p0.2.2.2.2.2.1,p0.2.2.2.2.2.2.1,p0.2.2.2.2.2.2.2.1,p0.2.2.2.2.2.2.2.2.1,p0.2.2.2.2.2.2.2.2.2.1,p0.2.2.2.2.2.2.2.2.2.2.1,())).bind fun u6=>
      cond (u6.1.1)
       ((OH (p0.1,p0.2.1,p0.2.2.1,p0.2.2.2.1,p0.2.2.2.2.1,p0.2.2.2.2.2.1,p0.2.2.2.2.2.2.1,p0.2.2.2.2.2.2.2.1,p0.2.2.2.2.2.2.2.2.1,p0.2.2.2.2.2.2.2.2.2.1,p0.2.2.2.2.2.2.2.2.2.2.1,())).bind fun u7=>
       some ((u7.1.1,()),()))
      (some ((false,()),())))
     (some ((false,()),())))
    (some ((false,()),())))
   (some ((false,()),())))
  (some ((false,()),())))
 (some ((false,()),()))
abbrev wU:Type:=ABk×Unit
def CG(p0 p1 p2:Int):Option wU:=
 cond (decide (p0≥p1))
  (some ((decide (p0≤p2),()),()))
 (some ((false,()),()))
abbrev Qs:Type:=ABk×Unit
abbrev UO:Type:=Int→List Int→Int→Option Qs
def WY(R4:UO)(t3:Int)(AM:AAG)(AE:Int):Option Qs:=
 cond ((decide (t3<(AM.length:Int))))
  (if(0:Int)≤t3∧t3<(AM.length:Int)then(
  (CG (AM.getD (t3.toNat) 0) 0 7).bind fun u5=>
  cond (!u5.1.1)
   (some ((false,()),()))
  (R4 (AS (t3+1)) AM AE))else none)
 (some ((true,()),()))
def Lv:Nat→UO
 |0=>fun _ _ _=>none
 |n+1=>WY (Lv n)
def Wq(R4:UO)(p0:ABU):Option Qs:=
 (CG (p0.1.length:Int) 1 8).bind fun u1=>
 cond (!u1.1.1)
  (some ((false,()),()))
 ((CG p0.2.1 1 4).bind fun u2=>
 cond (!u2.1.1)
  (some ((false,()),()))
 (R4 0 p0.1 p0.2.1))
def Gg(p0:ABU):Option Qs:=Wq (Lv Ac) p0
abbrev rM:Type:=AGo×Unit
def cX(p0:Int):Option rM:=
 cond (p0==8)
  (some (([],()),()))
 (cond (p0==10)
  (some (([],()),()))
 (cond (p0==12)
  (some (([],()),()))
 (cond (p0==2)
  (some (([65,84],()),()))
 (cond (p0==3)
  (some (([65,66,67],()),()))
 (cond (p0==5)
  (some (([65,66],()),()))
 (cond (p0==14)
  (some (([65,66],()),()))
 (cond (p0==11)
  (some (([66,67],()),()))
 (cond (p0==13)
  (some (([80],()),()))
 (some (([65],()),()))))))))))
abbrev Qb:Type:=ABk×Unit
abbrev YX:Type:=Int→Int→Int→Int→Int→Int→List UInt8→Int→Int→Int→Int→List UInt8→List Int→Option Qb
def DU(R4:YX)(t12 t13 AM AE Ab Cq:Int)(DW:ABp)(BJ Ar DK G9:Int)(M0:ABp)(b2:AAG):Option Qb:=
 cond (decide (t13<t12))
  (if(0:Int)≤t13∧t13<(b2.length:Int)then(
  let x3:Int:=(b2.getD (t13.toNat) 0)
  cond (x3==65)
   (R4 t12 (AS (t13+1)) AM AE Ab Cq DW BJ 0 DK G9 M0 b2)
  (cond (x3==80)
   (R4 t12 (AS (t13+1)) AM AE Ab Cq DW BJ 0 DK G9 M0 b2)
  (cond (x3==66)
   (R4 t12 (AS (t13+1)) AM AE Ab Cq DW BJ Ar 0 G9 M0 b2)
  (cond (x3==67)
   (R4 t12 (AS (t13+1)) AM AE Ab Cq DW BJ Ar DK 0 M0 b2)
  (cond (x3==84)
   (R4 t12 (AS (t13+1)) AM AE Ab Cq DW BJ Ar DK G9 [] b2)
  (R4 t12 (AS (t13+1)) AM AE Ab Cq DW BJ Ar DK G9 M0 b2))))))else none)
 ((A7 AM 1 16).bind fun u4=>
 cond (u4.1.1)
  (cond (((BJ==0)&&((Ar==0)&&((DK==0)&&((G9==0)&&((M0==[])&&true))))))
   ((GL DW).bind fun u6=>
   some ((u6.1.1,()),()))
  (some ((false,()),())))
 (some ((false,()),())))
def Dx:Nat→YX
 |0=>fun _ _ _ _ _ _ _ _ _ _ _ _ _=>none
 |n+1=>DU (Dx n)
def Yt(R4:YX)(p0:ADW):Option Qb:=
 (cX p0.1).bind fun u1=>
 if u1.1.1.length≤DE then(
 let x2:AAG:=(u1.1.1.map fun c=>(c.toNat:Int))
 R4 (x2.length:Int) 0 p0.1 p0.2.1 p0.2.2.1 p0.2.2.2.1 p0.2.2.2.2.1 0 p0.2.1 p0.2.2.1 p0.2.2.2.1 p0.2.2.2.2.1 x2)else none
def ZE(p0:ADW):Option Qb:=Yt (Dx Ac) p0
abbrev Ii:Type:=ADg×AD5
abbrev Od:Type:=AAX→Int→Int→Int→AAX→Int→AAX→Option Ii
def RX(R3:Od)(t10:AAX)(t11 t12 AE:Int)(b1:AAX)(LC:Int)(b3:AAX):Option Ii:=
 cond (decide (t12<t11))
  (if(0:Int)≤t12∧t12<(t10.length:Int)then(
  (DF ((t10.getD (t12.toNat) ([],false,0,())).1)).bind fun u1=>
  if b3.length+1≤DE then(
  R3 t10 t11 (AS (t12+1)) AE b1 LC (b3++[(u1.2.1,(t10.getD (t12.toNat) ([],false,0,())).2.1,(t10.getD (t12.toNat) ([],false,0,())).2.2.1,())]))else none)else none)
 (some ((((),LC,()),()),(b3,())))
def Hw:Nat→Od
 |0=>fun _ _ _ _ _ _ _=>none
 |n+1=>RX (Hw n)
def Ry(R3:Od)(p0:ACa):Option Ii:=
 R3 p0.1 (p0.1.length:Int) 0 0 [] p0.2.1 []
def Ef(p0:ACa):Option Ii:=Ry (Hw Ac) p0
abbrev iG:Type:=ACx×AE1
def JO(p0:AA2):Option iG:=
 if 0+p0.length≤DE then(
 some (((),()),(p0,())))else none
abbrev l3:Type:=AEp×ADh
def C_(p0:ACn):Option l3:=
 (JO p0.1).bind fun u1=>
 (JO p0.2.1).bind fun u2=>
 some ((((),(),p0.2.2.1,()),()),(u1.2.1,u2.2.1,()))
abbrev Ko:Type:=AE9×AD7
abbrev RQ:Type:=AB4→Int→Int→Int→AB4→Int→AB4→Option Ko
def Tz(R3:RQ)(t10:AB4)(t11 t12 AM:Int)(b1:AB4)(It:Int)(b3:AB4):Option Ko:=
 cond (decide (t12<t11))
  (if(0:Int)≤t12∧t12<(t10.length:Int)then(
  (DF ((t10.getD (t12.toNat) ([],[],false,())).2.1)).bind fun u2=>
  if b3.length+1≤DE then(
  R3 t10 t11 (AS (t12+1)) AM b1 It (b3++[((t10.getD (t12.toNat) ([],[],false,())).1,u2.2.1,(t10.getD (t12.toNat) ([],[],false,())).2.2.1,())]))else none)else none)
 (some (((It,(),()),()),(b3,())))
def JZ:Nat→RQ
 |0=>fun _ _ _ _ _ _ _=>none
 |n+1=>Tz (JZ n)
def Ts(R3:RQ)(p0:ACt):Option Ko:=
 R3 p0.2.1 (p0.2.1.length:Int) 0 0 [] p0.1 []
def F4(p0:ACt):Option Ko:=Ts (JZ Ac) p0
abbrev Qx:Type:=AEO×ADi
abbrev UP:Type:=List AAG→Int→Int→Int→Int→Bool→List Int→AA2→List AAG→Int→Int→Bool→List Int→AA2→List AAG→Option Qx
def WS(R4:UP)(t17:List AAG)(t18 t19 AM AE:Int)(DW:Bool)(b1:AAG)(b2:AA2)(b3:List AAG)(jx fu:Int)(xM:Bool)(b5:AAG)(b6:AA2)(b7:List AAG):Option Qx:=
 cond (decide (t19<t18))
  (if(0:Int)≤t19∧t19<(t17.length:Int)then(
  (DF (t17.getD (t19.toNat) [])).bind fun u4=>
  if b7.length+1≤DE then(
  R4 t17 t18 (AS (t19+1)) AM AE DW b1 b2 b3 jx fu xM b5 b6 (b7++[u4.2.1]))else none)else none)
 (some (((jx,fu,(),(),xM,(),()),()),(b5,b6,b7,())))
def L5:Nat→UP
 |0=>fun _ _ _ _ _ _ _ _ _ _ _ _ _ _ _=>none
 |n+1=>WS (L5 n)
def Wr(R4:UP)(p0:ABe):Option Qx:=
 (DF p0.2.2.1).bind fun u1=>
 (JO p0.2.2.2.1).bind fun u2=>
 R4 p0.2.2.2.2.2.1 (p0.2.2.2.2.2.1.length:Int) 0 0 0 false [] [] [] p0.1 p0.2.1 p0.2.2.2.2.1 u1.2.1 u2.2.1 []
def Gi(p0:ABe):Option Qx:=Wr (L5 Ac) p0
abbrev kZ:Type:=AFB×AFE
def NS(p0:ADa):Option kZ:=
 if 0+p0.2.2.1.length≤DE then(
 some (((p0.1,p0.2.1,(),()),()),(p0.2.2.1,())))else none
abbrev ER:Type:=AFn×ADd
abbrev IJ:Type:=AAa→Int→Int→List Int→Int→AAa→List Int→AAX→Int→AAt→AA9→ABQ→AAl→Bool→Int→Int→Bool→List Int→AAa→List Int→AAX→AAt→AA9→ABQ→AAl→Int→Int→Bool→List Int→AAa→List Int→AAX→AAt→AA9→ABQ→AAl→Option ER
abbrev II:Type:=AAt→Int→Int→List Int→Int→AAa→List Int→AAX→Int→AAt→AA9→ABQ→AAl→Bool→Int→Int→Bool→List Int→AAa→List Int→AAX→AAt→AA9→ABQ→AAl→Int→Int→Bool→List Int→AAa→List Int→AAX→AAt→AA9→ABQ→AAl→Option ER
abbrev HS:Type:=AA9→Int→Int→List Int→Int→AAa→List Int→AAX→Int→AAt→AA9→ABQ→AAl→Bool→Int→Int→Bool→List Int→AAa→List Int→AAX→AAt→AA9→ABQ→AAl→Int→Int→Bool→List Int→AAa→List Int→AAX→AAt→AA9→ABQ→AAl→Option ER
abbrev Hb:Type:=ABQ→Int→Int→List Int→Int→AAa→List Int→AAX→Int→AAt→AA9→ABQ→AAl→Bool→Int→Int→Bool→List Int→AAa→List Int→AAX→AAt→AA9→ABQ→AAl→Int→Int→Bool→List Int→AAa→List Int→AAX→AAt→AA9→ABQ→AAl→Option ER
def Vk(R3:IJ)(R8:II)(R13:HS)(R18:Hb)(t25:AAa)(t26 t27:Int)(AM:AAG)(AE:Int)(Ab:AAa)(Cq:AAG)(DW:AAX)(AZ:Int)(DT:AAt)(DI:AA9)(Eb:ABQ)(EI:AAl)(AN:Bool)(Ar Di:Int)(D4:Bool)(b2:AAG)(b3:AAa)(b4:AAG)(b5:AAX)(b6:AAt)(b7:AA9)(b8:ABQ)(b9:AAl)(Cr DJ:Int)(CB:Bool)(FC:AAG)(DR:AAa)(FV:AAG)(FU:AAX)(Dq:AAt)(EB:AA9)(EJ:ABQ)(QO:AAl):Option ER:=
 cond (decide (t27<t26))
  (if(0:Int)≤t27∧t27<(t25.length:Int)then(
  (C_ ((t25.getD (t27.toNat) ([],[],0,())).1,(t25.getD (t27.toNat) ([],[],0,())).2.1,(t25.getD (t27.toNat) ([],[],0,())).2.2.1,())).bind fun Zb=>
  if DR.length+1≤DE then(
  R3 t25 t26 (AS (t27+1)) AM AE Ab Cq DW AZ DT DI Eb EI AN Ar Di D4 b2 b3 b4 b5 b6 b7 b8 b9 Cr DJ CB FC (DR++[(Zb.2.1,Zb.2.2.1,Zb.1.1.2.2.1,())]) FV FU Dq EB EJ QO)else none)else none)
 (R8 DT (DT.length:Int) 0 AM AE Ab Cq DW AZ DT DI Eb EI AN Ar Di D4 b2 b3 b4 b5 b6 b7 b8 b9 Cr DJ CB FC DR FV FU Dq EB EJ QO)
def Vl(R3:IJ)(R8:II)(R13:HS)(R18:Hb)(t40:AAt)(t41 t42:Int)(AM:AAG)(AE:Int)(Ab:AAa)(Cq:AAG)(DW:AAX)(AZ:Int)(DT:AAt)(DI:AA9)(Eb:ABQ)(EI:AAl)(AN:Bool)(Ar Di:Int)(D4:Bool)(b2:AAG)(b3:AAa)(b4:AAG)(b5:AAX)(b6:AAt)(b7:AA9)(b8:ABQ)(b9:AAl)(Cr DJ:Int)(CB:Bool)(FC:AAG)(DR:AAa)(FV:AAG)(FU:AAX)(Dq:AAt)(EB:AA9)(EJ:ABQ)(QO:AAl):Option ER:=
 cond (decide (t42<t41))
  (if(0:Int)≤t42∧t42<(t40.length:Int)then(
  (F4 ((t40.getD (t42.toNat) (0,[],())).1,(t40.getD (t42.toNat) (0,[],())).2.1,())).bind fun Li=>
  if Dq.length+1≤DE then(
  R8 t40 t41 (AS (t42+1)) AM AE Ab Cq DW AZ DT DI Eb EI AN Ar Di D4 b2 b3 b4 b5 b6 b7 b8 b9 Cr DJ CB FC DR FV FU (Dq++[(Li.1.1.1,Li.2.1,())]) EB EJ QO)else none)else none)
 (R13 DI (DI.length:Int) 0 AM AE Ab Cq DW AZ DT DI Eb EI AN Ar Di D4 b2 b3 b4 b5 b6 b7 b8 b9 Cr DJ CB FC DR FV FU Dq EB EJ QO)
def UC(R3:IJ)(R8:II)(R13:HS)(R18:Hb)(t55:AA9)(t56 t57:Int)(AM:AAG)(AE:Int)(Ab:AAa)(Cq:AAG)(DW:AAX)(AZ:Int)(DT:AAt)(DI:AA9)(Eb:ABQ)(EI:AAl)(AN:Bool)(Ar Di:Int)(D4:Bool)(b2:AAG)(b3:AAa)(b4:AAG)(b5:AAX)(b6:AAt)(b7:AA9)(b8:ABQ)(b9:AAl)(Cr DJ:Int)(CB:Bool)(FC:AAG)(DR:AAa)(FV:AAG)(FU:AAX)(Dq:AAt)(EB:AA9)(EJ:ABQ)(QO:AAl):Option ER:=
 cond (decide (t57<t56))
  (if(0:Int)≤t57∧t57<(t55.length:Int)then(
  (Gi ((t55.getD (t57.toNat) (0,0,[],[],false,[],())).1,(t55.getD (t57.toNat) (0,0,[],[],false,[],())).2.1,(t55.getD (t57.toNat) (0,0,[],[],false,[],())).2.2.1,(t55.getD (t57.toNat) (0,0,[],[],false,[],())).2.2.2.1,(t55.getD (t57.toNat) (0,0,[],[],false,[],())).2.2.2.2.1,(t55.getD (t57.toNat) (0,0,[],[],false,[],())).2.2.2.2.2.1,())).bind fun bf=>
  if EB.length+1≤DE then(
  R13 t55 t56 (AS (t57+1)) AM AE Ab Cq DW AZ DT DI Eb EI AN Ar Di D4 b2 b3 b4 b5 b6 b7 b8 b9 Cr DJ CB FC DR FV FU Dq (EB++[(bf.1.1.1,bf.1.1.2.1,bf.2.1,bf.2.2.1,bf.1.1.2.2.2.2.1,bf.2.2.2.1,())]) EJ QO)else none)else none)
 (R18 Eb (Eb.length:Int) 0 AM AE Ab Cq DW AZ DT DI Eb EI AN Ar Di D4 b2 b3 b4 b5 b6 b7 b8 b9 Cr DJ CB FC DR FV FU Dq EB EJ QO)
def Tq(R3:IJ)(R8:II)(R13:HS)(R18:Hb)(t70:ABQ)(t71 t72:Int)(AM:AAG)(AE:Int)(Ab:AAa)(Cq:AAG)(DW:AAX)(AZ:Int)(DT:AAt)(DI:AA9)(Eb:ABQ)(EI:AAl)(AN:Bool)(Ar Di:Int)(D4:Bool)(b2:AAG)(b3:AAa)(b4:AAG)(b5:AAX)(b6:AAt)(b7:AA9)(b8:ABQ)(b9:AAl)(Cr DJ:Int)(CB:Bool)(FC:AAG)(DR:AAa)(FV:AAG)(FU:AAX)(Dq:AAt)(EB:AA9)(EJ:ABQ)(QO:AAl):Option ER:=
 cond (decide (t72<t71))
  (if(0:Int)≤t72∧t72<(t70.length:Int)then(
  (NS ((t70.getD (t72.toNat) (0,0,[],())).1,(t70.getD (t72.toNat) (0,0,[],())).2.1,(t70.getD (t72.toNat) (0,0,[],())).2.2.1,())).bind fun oJ=>
  if EJ.length+1≤DE then(
  R18 t70 t71 (AS (t72+1)) AM AE Ab Cq DW AZ DT DI Eb EI AN Ar Di D4 b2 b3 b4 b5 b6 b7 b8 b9 Cr DJ CB FC DR FV FU Dq EB (EJ++[(oJ.1.1.1,oJ.1.1.2.1,oJ.2.1,())]) QO)else none)else none)
 (if 0+EI.length≤DE then(
 some ((((),Cr,(),(),(),DJ,(),(),(),(),CB,()),()),(FC,DR,FV,FU,Dq,EB,EJ,EI,())))else none)
mutual
def Fb:Nat→IJ
 |0=>fun _ _ _ _ _ _ _ _ _ _ _ _ _ _ _ _ _ _ _ _ _ _ _ _ _ _ _ _ _ _ _ _ _ _ _ _=>none
 |n+1=>Vk (Fb n) (Fg n) (E8 n) (Ep n)
def Fg:Nat→II
 |0=>fun _ _ _ _ _ _ _ _ _ _ _ _ _ _ _ _ _ _ _ _ _ _ _ _ _ _ _ _ _ _ _ _ _ _ _ _=>none
 |n+1=>Vl (Fb n) (Fg n) (E8 n) (Ep n)
def E8:Nat→HS
 |0=>fun _ _ _ _ _ _ _ _ _ _ _ _ _ _ _ _ _ _ _ _ _ _ _ _ _ _ _ _ _ _ _ _ _ _ _ _=>none
 |n+1=>UC (Fb n) (Fg n) (E8 n) (Ep n)
def Ep:Nat→Hb
 |0=>fun _ _ _ _ _ _ _ _ _ _ _ _ _ _ _ _ _ _ _ _ _ _ _ _ _ _ _ _ _ _ _ _ _ _ _ _=>none
 |n+1=>Tq (Fb n) (Fg n) (E8 n) (Ep n)
end
def VH(R3:IJ)(R8:II)(R13:HS)(R18:Hb)(p0:ABf):Option ER:=
 (Qw (p0.1,p0.2.1,())).bind fun u2=>
 (DF p0.2.2.2.1).bind fun u3=>
 (Ef (p0.2.2.2.2.1,p0.2.2.2.2.2.1,())).bind fun u4=>
 R3 p0.2.2.1 (p0.2.2.1.length:Int) 0 p0.1 p0.2.1 p0.2.2.1 p0.2.2.2.1 p0.2.2.2.2.1 p0.2.2.2.2.2.1 p0.2.2.2.2.2.2.1 p0.2.2.2.2.2.2.2.1 p0.2.2.2.2.2.2.2.2.1 p0.2.2.2.2.2.2.2.2.2.1 p0.2.2.2.2.2.2.2.2.2.2.1 0 0 false [] [] [] [] [] [] [] [] u2.1.1.2.1 u4.1.1.2.1 p0.2.2.2.2.2.2.2.2.2.2.1 u2.2.1 [] u3.2.1 u4.2.1 [] [] [] []
def H8(p0:ABf):Option ER:=VH (Fb Ac) (Fg Ac) (E8 Ac) (Ep Ac) p0
abbrev Mc:Type:=AEy×Unit
def DA(p0 p1:Int):Option Mc:=
 (Hp p0).bind fun u1=>
 cond (!u1.1.1)
  (some (((0,false,()),()),()))
 ((X3 p1).bind fun u2=>
 cond (!u2.1.1)
  (some (((0,false,()),()),()))
 (some (((AS ((AS (4294967296*p0))+p1),true,()),()),())))
abbrev Hf:Type:=ACx×ADA
abbrev Sr:Type:=Int→Int→List Int→Option Hf
def VL(R5:Sr)(t0 t10:Int)(b0:AAG):Option Hf:=
 cond (decide (t10<8))
  (if t10<0 then none else(
  cond (((dk .i64 (t0.fdiv (2^(min t10.toNat 64))) 1)==1))
   (if b0.length+1≤DE then(
   R5 t0 (AS (t10+1)) (b0++[t10]))else none)
  (R5 t0 (AS (t10+1)) b0)))
 (some (((),()),(b0,())))
def Kp:Nat→Sr
 |0=>fun _ _ _=>none
 |n+1=>VL (Kp n)
def VT(R5:Sr)(p0:Int):Option Hf:=
 (A7 p0 0 255).bind fun u1=>
 cond (!u1.1.1)
  (some (((),()),([],())))
 (R5 p0 0 [])
def IB(p0:Int):Option Hf:=VT (Kp Ac) p0
abbrev mH:Type:=AB5×Unit
def SY(p0:ADZ)(p1:Int):Option mH:=
 cond (decide (p0.1<p1))
  (some (((-1),()),()))
 (cond (decide (p0.1>p1))
  (some ((1,()),()))
 (some ((0,()),())))
abbrev BW:Type:=AEy×Unit
abbrev B3:Type:=AA2→Int→Int→Int→Int→Option BW
def Ct(R3:B3)(t0:AA2)(t1 t8 t9 t10:Int):Option BW:=
 cond (decide (t9<t10))
  (let x2:Int:=AS ((IntKind.wrap .u64 (AS (t9+t10))).fdiv (2^1))
  if(0:Int)≤x2∧x2<(t0.length:Int)then(
  (SY ((t0.getD (x2.toNat) (0,0,false,[],())).1,(t0.getD (x2.toNat) (0,0,false,[],())).2.1,(t0.getD (x2.toNat) (0,0,false,[],())).2.2.1,(t0.getD (x2.toNat) (0,0,false,[],())).2.2.2.1,()) t1).bind fun u3=>
  cond (decide (u3.1.1<0))
   (R3 t0 t1 t8 (AS (x2+1)) t10)
  (R3 t0 t1 t8 t9 x2))else none)
 (cond (decide (t9<t8))
  (if(0:Int)≤t9∧t9<(t0.length:Int)then(
  (SY ((t0.getD (t9.toNat) (0,0,false,[],())).1,(t0.getD (t9.toNat) (0,0,false,[],())).2.1,(t0.getD (t9.toNat) (0,0,false,[],())).2.2.1,(t0.getD (t9.toNat) (0,0,false,[],())).2.2.2.1,()) t1).bind fun u4=>
  some (((t9,u4.1.1==0,()),()),()))else none)
 (some (((t9,false,()),()),())))
def A3:Nat→B3
 |0=>fun _ _ _ _ _=>none
 |n+1=>Ct (A3 n)
def Cw(R3:B3)(p0:AA2)(p1:Int):Option BW:=
 R3 p0 p1 (p0.length:Int) 0 (p0.length:Int)
def CA(p0:AA2)(p1:Int):Option BW:=Cw (A3 Ac) p0 p1
abbrev rK:Type:=AEy×Unit
def S9(p0:AA2)(p1:Int):Option rK:=
 (CA p0 p1).bind fun u1=>
 some (((u1.1.1.1,u1.1.1.2.1,()),()),())
abbrev NW:Type:=AF_×Unit
def Fq(p0:ACn)(p1:Int):Option NW:=
 (FK (p0.1,p0.2.1,p0.2.2.1,())).bind fun u1=>
 cond (!u1.1.1)
  (some ((((0,0,false,[],()),false,()),()),()))
 ((S9 p0.1 p1).bind fun u2=>
 cond (!u2.1.1.2.1)
  (some ((((0,0,false,[],()),false,()),()),()))
 (if(0:Int)≤u2.1.1.1∧u2.1.1.1<(p0.1.length:Int)then(
 some (((((p0.1.getD (u2.1.1.1.toNat) (0,0,false,[],())).1,(p0.1.getD (u2.1.1.1.toNat) (0,0,false,[],())).2.1,(p0.1.getD (u2.1.1.1.toNat) (0,0,false,[],())).2.2.1,(p0.1.getD (u2.1.1.1.toNat) (0,0,false,[],())).2.2.2.1,()),true,()),()),()))else none))
abbrev OL:Type:=AB5×Unit
abbrev RI:Type:=AB4→Int→Int→Int→AB4→Option OL
def T9(R2:RI)(t6:AB4)(t7 t8 AM:Int)(AE:AB4):Option OL:=
 cond (decide (t8<t7))
  (if(0:Int)≤t8∧t8<(t6.length:Int)then(
  cond (!((t6.getD (t8.toNat) ([],[],false,())).2.2.1))
   (some ((t8,()),()))
  (R2 t6 t7 (AS (t8+1)) AM AE))else none)
 (some (((AE.length:Int),()),()))
def Jh:Nat→RI
 |0=>fun _ _ _ _ _=>none
 |n+1=>T9 (Jh n)
def Tt(R2:RI)(p0:ACt):Option OL:=
 R2 p0.2.1 (p0.2.1.length:Int) 0 p0.1 p0.2.1
def Q0(p0:ACt):Option OL:=Tt (Jh Ac) p0
abbrev Ns:Type:=AB5×Unit
abbrev YS:Type:=Int→AAt→Int→Int→Option Ns
def Zn(R2:YS)(t1:Int)(t8:AAt)(t9 t10:Int):Option Ns:=
 cond (decide (t10<t9))
  (if(0:Int)≤t10∧t10<(t8.length:Int)then(
  cond (((t8.getD (t10.toNat) (0,[],())).1)==t1)
   ((Q0 ((t8.getD (t10.toNat) (0,[],())).1,(t8.getD (t10.toNat) (0,[],())).2.1,())).bind fun u3=>
   some ((u3.1.1,()),()))
  (R2 t1 t8 t9 (AS (t10+1))))else none)
 (some ((0,()),()))
def Oh:Nat→YS
 |0=>fun _ _ _ _=>none
 |n+1=>Zn (Oh n)
def ZN(R2:YS)(p0:ABf)(p1:Int):Option Ns:=
 R2 p1 p0.2.2.2.2.2.2.1 (p0.2.2.2.2.2.2.1.length:Int) 0
def R0(p0:ABf)(p1:Int):Option Ns:=ZN (Oh Ac) p0 p1
abbrev Sl:Type:=ACx×ADA
abbrev WH:Type:=ADJ→Int→Int→List Int→Option Sl
def Xp(R3:WH)(t7:ADJ)(t8 t9:Int)(b0:AAG):Option Sl:=
 cond (decide (t9<t8))
  (if(0:Int)≤t9∧t9<(t7.length:Int)then(
  if b0.length+1≤DE then(
  R3 t7 t8 (AS (t9+1)) (b0++[((t7.getD (t9.toNat) (0,false,0,0,false,[],())).1)]))else none)else none)
 (some (((),()),(b0,())))
def NR:Nat→WH
 |0=>fun _ _ _ _=>none
 |n+1=>Xp (NR n)
def YE(R3:WH)(p0:ADJ):Option Sl:=
 R3 p0 (p0.length:Int) 0 []
def Pv(p0:ADJ):Option Sl:=YE (NR Ac) p0
abbrev rU:Type:=ABk×Unit
def Ww(p0:Int)(p1:ADa):Option rU:=
 (FL p0).bind fun u1=>
 cond ((decide (u1.1.1<p1.1)))
  (some ((true,()),()))
 (cond (u1.1.1==p1.1)
  ((UW p0).bind fun u3=>
  some (((decide (u3.1.1<p1.2.1)),()),()))
 (some ((false,()),())))
abbrev iU:Type:=ACx×AHT
def FR(p1:AGM)(AM AE:Int)(b1:ADf):Option iU:=
 if b1.length+1≤DE then(
 some (((()),()),((AM,AE,(),()),(),(b1++[(p1.1,p1.2.1,p1.2.2.1,())]),())))else none
abbrev Za:Type:=ACx×ADA
abbrev cj:Type:=List Int→List Int→Int→Int→List Int→Option Za
def dJ(R5:cj)(t2 t22:AAG)(t23 t24:Int)(b0:AAG):Option Za:=
 cond (decide (t24<t23))
  (if(0:Int)≤t24∧t24<(t22.length:Int)then(
  let x3:Int:=(t22.getD (t24.toNat) 0)
  (Bo t2 x3).bind fun u4=>
  cond (!u4.1.1)
   (if b0.length+1≤DE then(
   R5 t2 t22 t23 (AS (t24+1)) (b0++[x3]))else none)
  (R5 t2 t22 t23 (AS (t24+1)) b0))else none)
 (some (((),()),(b0,())))
def SM:Nat→cj
 |0=>fun _ _ _ _ _=>none
 |n+1=>dJ (SM n)
def dV(R5:cj)(p0:ABU)(p1 p2:AAG):Option Za:=
 (EF (p0.1,p0.2.1,()) p1).bind fun u1=>
 cond (!u1.1.1)
  (some (((),()),([],())))
 ((EF (p0.1,p0.2.1,()) p2).bind fun u2=>
 cond (!u2.1.1)
  (some (((),()),([],())))
 (R5 p2 p1 (p1.length:Int) 0 []))
def fZ(p0:ABU)(p1 p2:AAG):Option Za:=dV (SM Ac) p0 p1 p2
abbrev sa:Type:=ABk×Unit
def HE(p0:ABU)(p1 p2:AAG):Option sa:=
 (EF (p0.1,p0.2.1,()) p2).bind fun u1=>
 cond (!u1.1.1)
  (some ((false,()),()))
 ((GF (p0.1,p0.2.1,()) p1).bind fun u2=>
 cond (!u2.1.1)
  (some ((false,()),()))
 ((Ng p2 p1).bind fun u3=>
 cond (((u3.2.1.length:Int) !=(p2.length:Int)))
  (some ((false,()),()))
 ((fZ (p0.1,p0.2.1,()) p1 p2).bind fun u6=>
 (GF (p0.1,p0.2.1,()) u6.2.1).bind fun u7=>
 some ((!u7.1.1,()),()))))
abbrev si:Type:=AGk×Unit
def Rv(p0 p1:ADZ):Option si:=
 cond ((decide (p1.2.1>p0.2.1)))
  (some (((p1.1,p1.2.1,p1.2.2.1,p1.2.2.2.1,()),()),()))
 (some (((p0.1,p0.2.1,p0.2.2.1,p0.2.2.2.1,()),()),()))
abbrev Uy:Type:=AF_×Unit
abbrev Xw:Type:=List Int→Int→Bool→ADJ→Int→Int→Int→Int→Bool→List UInt8→Int→Int→Bool→List UInt8→Option Uy
def ZR(R3:Xw)(t1:AAG)(t2:Int)(t9:Bool)(t13:ADJ)(t14 t15 AM AE:Int)(Ab:Bool)(Cq:ABp)(BJ Ar:Int)(DK:Bool)(G9:ABp):Option Uy:=
 cond (decide (t15<t14))
  (if(0:Int)≤t15∧t15<(t13.length:Int)then(
  cond (!((t13.getD (t15.toNat) (0,false,0,0,false,[],())).2.1))
   (R3 t1 t2 t9 t13 t14 (AS (t15+1)) AM AE Ab Cq BJ Ar DK G9)
  ((Bo t1 ((t13.getD (t15.toNat) (0,false,0,0,false,[],())).1)).bind fun u3=>
  cond (!u3.1.1)
   (R3 t1 t2 t9 t13 t14 (AS (t15+1)) AM AE Ab Cq BJ Ar DK G9)
  ((Mu ((t13.getD (t15.toNat) (0,false,0,0,false,[],())).2.2.1,(t13.getD (t15.toNat) (0,false,0,0,false,[],())).2.2.2.1,(t13.getD (t15.toNat) (0,false,0,0,false,[],())).2.2.2.2.1,(t13.getD (t15.toNat) (0,false,0,0,false,[],())).2.2.2.2.2.1,())).bind fun u4=>
  cond (!u4.1.1)
   (R3 t1 t2 t9 t13 t14 (AS (t15+1)) AM AE Ab Cq BJ Ar DK G9)
  (cond (((t13.getD (t15.toNat) (0,false,0,0,false,[],())).2.2.1) !=t2)
   (R3 t1 t2 t9 t13 t14 (AS (t15+1)) AM AE Ab Cq BJ Ar DK G9)
  (cond (!t9)
   ((Rv ((t13.getD (t15.toNat) (0,false,0,0,false,[],())).2.2.1,(t13.getD (t15.toNat) (0,false,0,0,false,[],())).2.2.2.1,(t13.getD (t15.toNat) (0,false,0,0,false,[],())).2.2.2.2.1,(t13.getD (t15.toNat) (0,false,0,0,false,[],())).2.2.2.2.2.1,()) ((t13.getD (t15.toNat) (0,false,0,0,false,[],())).2.2.1,(t13.getD (t15.toNat) (0,false,0,0,false,[],())).2.2.2.1,(t13.getD (t15.toNat) (0,false,0,0,false,[],())).2.2.2.2.1,(t13.getD (t15.toNat) (0,false,0,0,false,[],())).2.2.2.2.2.1,())).bind fun u6=>
   R3 t1 t2 true t13 t14 (AS (t15+1)) AM AE Ab Cq u6.1.1.1 u6.1.1.2.1 u6.1.1.2.2.1 u6.1.1.2.2.2.1)
  ((Rv (BJ,Ar,DK,G9,()) ((t13.getD (t15.toNat) (0,false,0,0,false,[],())).2.2.1,(t13.getD (t15.toNat) (0,false,0,0,false,[],())).2.2.2.1,(t13.getD (t15.toNat) (0,false,0,0,false,[],())).2.2.2.2.1,(t13.getD (t15.toNat) (0,false,0,0,false,[],())).2.2.2.2.2.1,())).bind fun u7=>
  R3 t1 t2 true t13 t14 (AS (t15+1)) AM AE Ab Cq u7.1.1.1 u7.1.1.2.1 u7.1.1.2.2.1 u7.1.1.2.2.2.1))))))else none)
 (some ((((BJ,Ar,DK,G9,()),t9,()),()),()))
def Of:Nat→Xw
 |0=>fun _ _ _ _ _ _ _ _ _ _ _ _ _ _=>none
 |n+1=>ZR (Of n)
def Zs(R3:Xw)(p0:ADJ)(p1:AAG)(p2:Int):Option Uy:=
 R3 p1 p2 false p0 (p0.length:Int) 0 0 0 false [] 0 0 false []
def ZV(p0:ADJ)(p1:AAG)(p2:Int):Option Uy:=Zs (Of Ac) p0 p1 p2
abbrev gJ:Type:=ACx×AHT
def C6(p1:ADJ)(p2:AAG)(AM AE:Int)(b1:ADf):Option gJ:=
 (DA AM AE).bind fun u1=>
 (ZV p1 p2 u1.1.1.1).bind fun u2=>
 cond (!u2.1.1.2.1)
  ((FR (3,u1.1.1.1,[],()) AM AE b1).bind fun u3=>
  some (((()),()),((u3.2.1.1,AS (u3.2.1.2.1+1),(),()),(),u3.2.2.2.1,())))
 (cond (u2.1.1.1.2.2.1)
  ((FR (2,u1.1.1.1,[],()) AM AE b1).bind fun u4=>
  some (((()),()),((u4.2.1.1,AS (u4.2.1.2.1+1),(),()),(),u4.2.2.2.1,())))
 ((FR (1,u1.1.1.1,u2.1.1.1.2.2.2.1,()) AM AE b1).bind fun u5=>
 some (((()),()),((u5.2.1.1,AS (u5.2.1.2.1+1),(),()),(),u5.2.2.2.1,()))))
abbrev Kv:Type:=(AHh×Unit)×AFE
def KL(p0:ABU)(p1:ACa)(p2:Int)(p3:ADa)(p4:ADJ):Option Kv:=
 (K7 (p0.1,p0.2.1,()) (p1.1,p1.2.1,())).bind fun u1=>
 cond (!u1.1.1)
  (some ((((0,0,(),()),1,()),()),([],())))
 ((U6 (p3.1,p3.2.1,p3.2.2.1,())).bind fun u2=>
 cond (!u2.1.1)
  (some ((((0,0,(),()),1,()),()),([],())))
 ((Pv p4).bind fun u3=>
 (EF (p0.1,p0.2.1,()) u3.2.1).bind fun u4=>
 cond (!u4.1.1)
  (some ((((0,0,(),()),1,()),()),([],())))
 ((NS (p3.1,p3.2.1,p3.2.2.1,())).bind fun u5=>
 cond ((decide (p3.1>(p1.1.length:Int))))
  (some ((((u5.1.1.1,u5.1.1.2.1,(),()),2,()),()),(u5.2.1,())))
 (cond ((p3.2.2.1.length:Int)==120)
  (some ((((u5.1.1.1,u5.1.1.2.1,(),()),2,()),()),(u5.2.1,())))
 (cond (decide (p1.2.1>0))
  ((Ww p1.2.1 (p3.1,p3.2.1,p3.2.2.1,())).bind fun u8=>
  cond (!u8.1.1)
   ((FR (5,p1.2.1,[],()) u5.1.1.1 u5.1.1.2.1 u5.2.1).bind fun u9=>
   (FL p1.2.1).bind fun D9=>
   (UW p1.2.1).bind fun Kg=>
   some ((((D9.1.1,AS (Kg.1.1+1),(),()),0,()),()),(u9.2.2.2.1,())))
  (if(0:Int)≤AS (p3.1-1)∧AS (p3.1-1)<(p1.1.length:Int)then(
  (Pv p4).bind fun Dj=>
  (Ng Dj.2.1 ((p1.1.getD ((AS (p3.1-1)).toNat) ([],false,0,())).1)).bind fun J9=>
  cond (((p1.1.getD ((AS (p3.1-1)).toNat) ([],false,0,())).2.1))
   (cond ((decide (p3.2.1>((p1.1.getD ((AS (p3.1-1)).toNat) ([],false,0,())).2.2.1))))
    ((FR (4,AS (p3.1+1),[],()) u5.1.1.1 u5.1.1.2.1 u5.2.1).bind fun Xb=>
    some ((((AS (p3.1+1),1,(),()),0,()),()),(Xb.2.2.2.1,())))
   (cond (!((p1.1.getD ((AS (p3.1-1)).toNat) ([],false,0,())).2.1))
    (cond (decide (p3.2.1>p2))
     (some ((((u5.1.1.1,u5.1.1.2.1,(),()),2,()),()),(u5.2.1,())))
    (cond (decide (p3.2.1>60))
     (some ((((u5.1.1.1,u5.1.1.2.1,(),()),2,()),()),(u5.2.1,())))
    ((HE (p0.1,p0.2.1,()) ((p1.1.getD ((AS (p3.1-1)).toNat) ([],false,0,())).1) J9.2.1).bind fun gD=>
    cond (!gD.1.1)
     (some ((((u5.1.1.1,u5.1.1.2.1,(),()),3,()),()),(u5.2.1,())))
    ((C6 p4 J9.2.1 u5.1.1.1 u5.1.1.2.1 u5.2.1).bind fun Li=>
    some ((((Li.2.1.1,Li.2.1.2.1,(),()),0,()),()),(Li.2.2.2.1,()))))))
   (cond (decide (p3.2.1>60))
    (some ((((u5.1.1.1,u5.1.1.2.1,(),()),2,()),()),(u5.2.1,())))
   ((HE (p0.1,p0.2.1,()) ((p1.1.getD ((AS (p3.1-1)).toNat) ([],false,0,())).1) J9.2.1).bind fun nM=>
   cond (!nM.1.1)
    (some ((((u5.1.1.1,u5.1.1.2.1,(),()),3,()),()),(u5.2.1,())))
   ((C6 p4 J9.2.1 u5.1.1.1 u5.1.1.2.1 u5.2.1).bind fun u22=>
   some ((((u22.2.1.1,u22.2.1.2.1,(),()),0,()),()),(u22.2.2.2.1,())))))))
  (cond (!((p1.1.getD ((AS (p3.1-1)).toNat) ([],false,0,())).2.1))
   (cond (decide (p3.2.1>p2))
    (some ((((u5.1.1.1,u5.1.1.2.1,(),()),2,()),()),(u5.2.1,())))
   (cond (decide (p3.2.1>60))
    (some ((((u5.1.1.1,u5.1.1.2.1,(),()),2,()),()),(u5.2.1,())))
   ((HE (p0.1,p0.2.1,()) ((p1.1.getD ((AS (p3.1-1)).toNat) ([],false,0,())).1) J9.2.1).bind fun Iq=>
   cond (!Iq.1.1)
    (some ((((u5.1.1.1,u5.1.1.2.1,(),()),3,()),()),(u5.2.1,())))
   ((C6 p4 J9.2.1 u5.1.1.1 u5.1.1.2.1 u5.2.1).bind fun bf=>
   some ((((bf.2.1.1,bf.2.1.2.1,(),()),0,()),()),(bf.2.2.2.1,()))))))
  (cond (decide (p3.2.1>60))
   (some ((((u5.1.1.1,u5.1.1.2.1,(),()),2,()),()),(u5.2.1,())))
  ((HE (p0.1,p0.2.1,()) ((p1.1.getD ((AS (p3.1-1)).toNat) ([],false,0,())).1) J9.2.1).bind fun gT=>
  cond (!gT.1.1)
   (some ((((u5.1.1.1,u5.1.1.2.1,(),()),3,()),()),(u5.2.1,())))
  ((C6 p4 J9.2.1 u5.1.1.1 u5.1.1.2.1 u5.2.1).bind fun gN=>
  some ((((gN.2.1.1,gN.2.1.2.1,(),()),0,()),()),(gN.2.2.2.1,())))))))else none))
 (if(0:Int)≤AS (p3.1-1)∧AS (p3.1-1)<(p1.1.length:Int)then(
 (Pv p4).bind fun PT=>
 (Ng PT.2.1 ((p1.1.getD ((AS (p3.1-1)).toNat) ([],false,0,())).1)).bind fun ZZ=>
 cond (((p1.1.getD ((AS (p3.1-1)).toNat) ([],false,0,())).2.1))
  (cond ((decide (p3.2.1>((p1.1.getD ((AS (p3.1-1)).toNat) ([],false,0,())).2.2.1))))
   ((FR (4,AS (p3.1+1),[],()) u5.1.1.1 u5.1.1.2.1 u5.2.1).bind fun ar=>
   some ((((AS (p3.1+1),1,(),()),0,()),()),(ar.2.2.2.1,())))
  (cond (!((p1.1.getD ((AS (p3.1-1)).toNat) ([],false,0,())).2.1))
   (cond (decide (p3.2.1>p2))
    (some ((((u5.1.1.1,u5.1.1.2.1,(),()),2,()),()),(u5.2.1,())))
   (cond (decide (p3.2.1>60))
    (some ((((u5.1.1.1,u5.1.1.2.1,(),()),2,()),()),(u5.2.1,())))
   ((HE (p0.1,p0.2.1,()) ((p1.1.getD ((AS (p3.1-1)).toNat) ([],false,0,())).1) ZZ.2.1).bind fun u35=>
   cond (!u35.1.1)
    (some ((((u5.1.1.1,u5.1.1.2.1,(),()),3,()),()),(u5.2.1,())))
   ((C6 p4 ZZ.2.1 u5.1.1.1 u5.1.1.2.1 u5.2.1).bind fun u36=>
   some ((((u36.2.1.1,u36.2.1.2.1,(),()),0,()),()),(u36.2.2.2.1,()))))))
  (cond (decide (p3.2.1>60))
   (some ((((u5.1.1.1,u5.1.1.2.1,(),()),2,()),()),(u5.2.1,())))
  ((HE (p0.1,p0.2.1,()) ((p1.1.getD ((AS (p3.1-1)).toNat) ([],false,0,())).1) ZZ.2.1).bind fun nr=>
  cond (!nr.1.1)
   (some ((((u5.1.1.1,u5.1.1.2.1,(),()),3,()),()),(u5.2.1,())))
  ((C6 p4 ZZ.2.1 u5.1.1.1 u5.1.1.2.1 u5.2.1).bind fun u38=>
  some ((((u38.2.1.1,u38.2.1.2.1,(),()),0,()),()),(u38.2.2.2.1,())))))))
 (cond (!((p1.1.getD ((AS (p3.1-1)).toNat) ([],false,0,())).2.1))
  (cond (decide (p3.2.1>p2))
   (some ((((u5.1.1.1,u5.1.1.2.1,(),()),2,()),()),(u5.2.1,())))
  (cond (decide (p3.2.1>60))
   (some ((((u5.1.1.1,u5.1.1.2.1,(),()),2,()),()),(u5.2.1,())))
  ((HE (p0.1,p0.2.1,()) ((p1.1.getD ((AS (p3.1-1)).toNat) ([],false,0,())).1) ZZ.2.1).bind fun u40=>
  cond (!u40.1.1)
   (some ((((u5.1.1.1,u5.1.1.2.1,(),()),3,()),()),(u5.2.1,())))
  ((C6 p4 ZZ.2.1 u5.1.1.1 u5.1.1.2.1 u5.2.1).bind fun u41=>
  some ((((u41.2.1.1,u41.2.1.2.1,(),()),0,()),()),(u41.2.2.2.1,()))))))
 (cond (decide (p3.2.1>60))
  (some ((((u5.1.1.1,u5.1.1.2.1,(),()),2,()),()),(u5.2.1,())))
 ((HE (p0.1,p0.2.1,()) ((p1.1.getD ((AS (p3.1-1)).toNat) ([],false,0,())).1) ZZ.2.1).bind fun u42=>
 cond (!u42.1.1)
  (some ((((u5.1.1.1,u5.1.1.2.1,(),()),3,()),()),(u5.2.1,())))
 ((C6 p4 ZZ.2.1 u5.1.1.1 u5.1.1.2.1 u5.2.1).bind fun u43=>
 some ((((u43.2.1.1,u43.2.1.2.1,(),()),0,()),()),(u43.2.2.2.1,())))))))else none))))))
abbrev KX:Type:=AB5×AD0
abbrev RV:Type:=Int→Int→Int→Int→Int→Int→Bool→List Int→AAa→List Int→AAX→AAt→AA9→ABQ→AAl→Int→Int→ADf→ADJ→List Int→Option KX
def Nv(R7:RV)(t1 t8 t44 t45 AE AZ:Int)(AN:Bool)(b1:AAG)(b2:AAa)(b3:AAG)(b4:AAX)(b5:AAt)(b6:AA9)(b7:ABQ)(b8:AAl)(kc Dr:Int)(fB:ADf)(Mf:ADJ)(FC:AAG):Option KX:=
 cond (decide (t45<t44))
  (if(0:Int)≤t45∧t45<(FC.length:Int)then(
  let x8:Int:=(FC.getD (t45.toNat) 0)
  cond ((decide (x8<(b2.length:Int))))
   ((C5 (b1,AE,b2,b3,b4,AZ,b5,b6,b7,b8,AN,()) x8).bind fun D9=>
   cond (!D9.1.1)
    (if(0:Int)≤x8∧x8<(b2.length:Int)then(
    (Fq ((b2.getD (x8.toNat) ([],[],0,())).1,(b2.getD (x8.toNat) ([],[],0,())).2.1,(b2.getD (x8.toNat) ([],[],0,())).2.2.1,()) t8).bind fun Kg=>
    if Mf.length+1≤DE then(
    R7 t1 t8 t44 (AS (t45+1)) AE AZ AN b1 b2 b3 b4 b5 b6 b7 b8 kc Dr fB (Mf++[(x8,Kg.1.1.2.1,Kg.1.1.1.1,Kg.1.1.1.2.1,Kg.1.1.1.2.2.1,Kg.1.1.1.2.2.2.1,())]) FC)else none)else none)
   (R7 t1 t8 t44 (AS (t45+1)) AE AZ AN b1 b2 b3 b4 b5 b6 b7 b8 kc Dr fB Mf FC))
  (R7 t1 t8 t44 (AS (t45+1)) AE AZ AN b1 b2 b3 b4 b5 b6 b7 b8 kc Dr fB Mf FC))else none)
 ((R0 (b1,AE,b2,b3,b4,AZ,b5,b6,b7,b8,AN,()) kc).bind fun J9=>
 (KL (b1,AE,()) (b4,AZ,()) J9.1.1 (kc,Dr,fB,()) Mf).bind fun Kc=>
 cond (Kc.1.1.2.1 !=0)
  (some ((5,()),(((),AE,(),(),(),AZ,(),(),(),(),AN,()),b1,b2,b3,b4,b5,b6,b7,b8,())))
 (if(0:Int)≤t1∧t1<(b7.length:Int)then(
 some ((0,()),(((),AE,(),(),(),AZ,(),(),(),(),AN,()),b1,b2,b3,b4,b5,b6,(b7.set (t1.toNat) (Kc.1.1.1.1,Kc.1.1.1.2.1,Kc.2.1,())),b8,())))else none))
def C9:Nat→RV
 |0=>fun _ _ _ _ _ _ _ _ _ _ _ _ _ _ _ _ _ _ _ _=>none
 |n+1=>Nv (C9 n)
def N9(R7:RV)(p1 p2 AE AZ:Int)(AN:Bool)(b1:AAG)(b2:AAa)(b3:AAG)(b4:AAX)(b5:AAt)(b6:AA9)(b7:ABQ)(b8:AAl):Option KX:=
 (A7 p1 0 (AS ((b7.length:Int)-1))).bind fun u2=>
 cond (!u2.1.1)
  (some ((2,()),(((),AE,(),(),(),AZ,(),(),(),(),AN,()),b1,b2,b3,b4,b5,b6,b7,b8,())))
 (if(0:Int)≤p1∧p1<(b7.length:Int)then(
 (DA ((b7.getD (p1.toNat) (0,0,[],())).1) ((b7.getD (p1.toNat) (0,0,[],())).2.1)).bind fun u5=>
 (IB p2).bind fun u6=>
 R7 p1 u5.1.1.1 (u6.2.1.length:Int) 0 AE AZ AN b1 b2 b3 b4 b5 b6 b7 b8 ((b7.getD (p1.toNat) (0,0,[],())).1) ((b7.getD (p1.toNat) (0,0,[],())).2.1) ((b7.getD (p1.toNat) (0,0,[],())).2.2.1) [] u6.2.1)else none)
def NK(p1 p2 AE AZ:Int)(AN:Bool)(b1:AAG)(b2:AAa)(b3:AAG)(b4:AAX)(b5:AAt)(b6:AA9)(b7:ABQ)(b8:AAl):Option KX:=N9 (C9 Ac) p1 p2 AE AZ AN b1 b2 b3 b4 b5 b6 b7 b8
abbrev aU:Type:=AB5×Unit
def Vh(p0:AAG)(p1 p2:Int):Option aU:=
 let x1:Int:=AS ((p0.length:Int).tdiv 4)
 cond ((decide ((AS (p1+x1))>p2)))
  (some ((p2,()),()))
 (some ((AS (p1+x1),()),()))
abbrev XU:Type:=ABk×Unit
abbrev Z8:Type:=List Int→Int→Int→Int→Option XU
def UK(R2:Z8)(t0:AAG)(t1 t2 t7:Int):Option XU:=
 cond ((decide (t7<(t0.length:Int))))
  (if(0:Int)≤t7∧t7<(t0.length:Int)then(
  (CG (t0.getD (t7.toNat) 0) t1 t2).bind fun u3=>
  cond (!u3.1.1)
   (some ((false,()),()))
  (cond (decide (t7>0))
   (if(0:Int)≤AS (t7-1)∧AS (t7-1)<(t0.length:Int)then(
   if(0:Int)≤t7∧t7<(t0.length:Int)then(
   cond (decide ((t0.getD ((AS (t7-1)).toNat) 0)≥(t0.getD (t7.toNat) 0)))
    (some ((false,()),()))
   (R2 t0 t1 t2 (AS (t7+1))))else none)else none)
  (R2 t0 t1 t2 (AS (t7+1)))))else none)
 (some ((true,()),()))
def Nk:Nat→Z8
 |0=>fun _ _ _ _=>none
 |n+1=>UK (Nk n)
def af(R2:Z8)(p0:AAG)(p1 p2:Int):Option XU:=
 R2 p0 p1 p2 0
def Yc(p0:AAG)(p1 p2:Int):Option XU:=af (Nk Ac) p0 p1 p2
abbrev pU:Type:=ABk×Unit
def Gx(p0:ABU)(p1:AAG):Option pU:=
 (Gg (p0.1,p0.2.1,())).bind fun u1=>
 cond (u1.1.1)
  ((Yc p1 0 (AS ((p0.1.length:Int)-1))).bind fun u3=>
  some ((u3.1.1,()),()))
 (some ((false,()),()))
abbrev Uo:Type:=AB5×Unit
abbrev X5:Type:=List Int→Int→Int→List Int→Int→List Bool→Option Uo
def ZO(R4:X5)(t1:AAG)(t6 t7:Int)(AM:AAG)(AE:Int)(b1:List Bool):Option Uo:=
 cond ((decide (t7<(t1.length:Int))))
  (if(0:Int)≤t7∧t7<(t1.length:Int)then(
  let x3:Int:=(t1.getD (t7.toNat) 0)
  if(0:Int)≤x3∧x3<(AM.length:Int)then(
  let x4:Int:=(AM.getD (x3.toNat) 0)
  if(0:Int)≤x4∧x4<(b1.length:Int)then(
  cond (!(b1.getD (x4.toNat) false))
   (if(0:Int)≤x4∧x4<(b1.length:Int)then(
   R4 t1 (AS (t6+1)) (AS (t7+1)) AM AE (b1.set (x4.toNat) true))else none)
  (R4 t1 t6 (AS (t7+1)) AM AE b1))else none)else none)else none)
 (some ((t6,()),()))
def Oe:Nat→X5
 |0=>fun _ _ _ _ _ _=>none
 |n+1=>ZO (Oe n)
def Zv(R4:X5)(p0:ABU)(p1:AAG):Option Uo:=
 R4 p1 0 0 p0.1 p0.2.1 (List.replicate 8 false)
def VD(p0:ABU)(p1:AAG):Option Uo:=Zv (Oe Ac) p0 p1
abbrev kR:Type:=ABk×Unit
def Ey(p0:ABU)(p1:AAG):Option kR:=
 (Gx (p0.1,p0.2.1,()) p1).bind fun u1=>
 cond (u1.1.1)
  ((VD (p0.1,p0.2.1,()) p1).bind fun u2=>
  some (((decide (u2.1.1≥p0.2.1)),()),()))
 (some ((false,()),()))
abbrev mL:Type:=AFB×AFE
def YH:Option mL:=
 some (((1,1,(),()),()),([],()))
abbrev ny:Type:=AGp×ADd
def Hi(p0:ABU):Option ny:=
 (Gg (p0.1,p0.2.1,())).bind fun u1=>
 cond (!u1.1.1)
  (some (((((),0,(),(),(),0,(),(),(),(),false,()),false,()),()),([],[],[],[],[],[],[],[],())))
 (if 0+p0.1.length≤DE then(
 if(0:Int)≤(p0.1.length:Int)∧(p0.1.length:Int)≤(p0.1.length:Int)∧(p0.1.length:Int)≤(DE:Int)then(
 (YH).bind fun u3=>
 (YH).bind fun u4=>
 some (((((),p0.2.1,(),(),(),0,(),(),(),(),false,()),true,()),()),(p0.1,(List.replicate ((p0.1.length:Int).toNat) ([],[],0,())),[],[],[],[],[(u3.1.1.1,u3.1.1.2.1,u3.2.1,()),(u4.1.1.1,u4.1.1.2.1,u4.2.1,())],[],())))else none)else none)
abbrev P2:Type:=AB5×Unit
def FY(p0 p1:Int):Option P2:=
 cond (decide (p0>p1))
  (some ((p0,()),()))
 (some ((p1,()),()))
abbrev Gw:Type:=ABk×Unit
abbrev aX:Type:=List Int→Int→Int→Option Gw
def UZ(R2:aX)(t0:AAG)(t1 t5:Int):Option Gw:=
 cond ((decide (t5<(t0.length:Int))))
  (if(0:Int)≤t5∧t5<(t0.length:Int)then(
  cond ((t0.getD (t5.toNat) 0)==t1)
   (some ((true,()),()))
  (R2 t0 t1 (AS (t5+1))))else none)
 (some ((false,()),()))
def LG:Nat→aX
 |0=>fun _ _ _=>none
 |n+1=>UZ (LG n)
def Ua(R2:aX)(p0:AAG)(p1:Int):Option Gw:=
 R2 p0 p1 0
def Cz(p0:AAG)(p1:Int):Option Gw:=Ua (LG Ac) p0 p1
abbrev W5:Type:=ACx×ADA
abbrev Zz:Type:=List Int→Int→Bool→Int→List Int→Option W5
def PY(R4:Zz)(t0:AAG)(t1:Int)(t6:Bool)(t7:Int)(b0:AAG):Option W5:=
 cond ((decide (t7<(t0.length:Int))))
  (cond (!t6)
   (if(0:Int)≤t7∧t7<(t0.length:Int)then(
   cond (decide ((t0.getD (t7.toNat) 0)>t1))
    (if b0.length+1≤DE then(
    if(0:Int)≤t7∧t7<(t0.length:Int)then(
    if(b0++[t1]).length+1≤DE then(
    R4 t0 t1 true (AS (t7+1)) ((b0++[t1])++[(t0.getD (t7.toNat) 0)]))else none)else none)else none)
   (if(0:Int)≤t7∧t7<(t0.length:Int)then(
   if b0.length+1≤DE then(
   R4 t0 t1 t6 (AS (t7+1)) (b0++[(t0.getD (t7.toNat) 0)]))else none)else none))else none)
  (if(0:Int)≤t7∧t7<(t0.length:Int)then(
  if b0.length+1≤DE then(
  R4 t0 t1 t6 (AS (t7+1)) (b0++[(t0.getD (t7.toNat) 0)]))else none)else none))
 (cond (!t6)
  (if b0.length+1≤DE then(
  some (((),()),(b0++[t1],())))else none)
 (some (((),()),(b0,()))))
def Hk:Nat→Zz
 |0=>fun _ _ _ _ _=>none
 |n+1=>PY (Hk n)
def Ul(R4:Zz)(p0:AAG)(p1:Int):Option W5:=
 (Cz p0 p1).bind fun u1=>
 R4 p0 p1 u1.1.1 0 []
def Ib(p0:AAG)(p1:Int):Option W5:=Ul (Hk Ac) p0 p1
abbrev HR:Type:=ACx×AGi
abbrev QF:Type:=Int→Int→List Int→Int→Int→List Int→Int→List Int→Option HR
def TG(R4:QF)(t6 t7:Int)(AM:AAG)(AE Ab:Int)(BJ:AAG)(Ar:Int)(b2:AAG):Option HR:=
 cond (decide (t7<t6))
  ((FY (BJ.length:Int) 1).bind fun u3=>
  (AL u3.1.1 AM AE Ab).bind fun u4=>
  (Ib b2 u4.1.1).bind fun u5=>
  R4 t6 (AS (t7+1)) u4.2.1.1 u4.2.1.2.1 u4.2.1.2.2.1 BJ Ar u5.2.1)
 ((BA 20 AM AE Ab).bind fun u6=>
 cond (u6.1.1)
  ((CQ [(-1),0,(BJ.length:Int)] u6.2.1.1 u6.2.1.2.1 u6.2.1.2.2.1).bind fun u7=>
  if b2.length+1≤DE then(
  some (((),()),((u7.2.1.1,u7.2.1.2.1,u7.2.1.2.2.1,()),b2++[u7.1.1],())))else none)
 (some (((),()),((u6.2.1.1,u6.2.1.2.1,u6.2.1.2.2.1,()),b2,()))))
def Io:Nat→QF
 |0=>fun _ _ _ _ _ _ _ _=>none
 |n+1=>TG (Io n)
def TT(R4:QF)(p1:ABU)(AM:AAG)(AE Ab:Int):Option HR:=
 (AL (AS ((p1.1.length:Int)+2)) AM AE Ab).bind fun u2=>
 R4 u2.1.1 0 u2.2.1.1 u2.2.1.2.1 u2.2.1.2.2.1 p1.1 p1.2.1 []
def FP(p1:ABU)(AM:AAG)(AE Ab:Int):Option HR:=TT (Io Ac) p1 AM AE Ab
abbrev Px:Type:=ACx×AGi
abbrev Tb:Type:=Int→List Int→Int→Int→List Int→Int→List Int→Option Px
def Vt(R3:Tb)(t6:Int)(AM:AAG)(AE Ab:Int)(BJ:AAG)(Ar:Int)(b2:AAG):Option Px:=
 cond ((decide (t6<(BJ.length:Int))))
  ((Ey (BJ,Ar,()) b2).bind fun u3=>
  cond (!u3.1.1)
   ((Ib b2 t6).bind fun u4=>
   R3 (AS (t6+1)) AM AE Ab BJ Ar u4.2.1)
  (some (((),()),((AM,AE,Ab,()),b2,()))))
 (some (((),()),((AM,AE,Ab,()),b2,())))
def Ky:Nat→Tb
 |0=>fun _ _ _ _ _ _ _=>none
 |n+1=>Vt (Ky n)
def Vx(R3:Tb)(p1:ABU)(AM:AAG)(AE Ab:Int):Option Px:=
 (FP (p1.1,p1.2.1,()) AM AE Ab).bind fun u1=>
 R3 0 u1.2.1.1 u1.2.1.2.1 u1.2.1.2.2.1 p1.1 p1.2.1 u1.2.2.1
def H5(p1:ABU)(AM:AAG)(AE Ab:Int):Option Px:=Vx (Ky Ac) p1 AM AE Ab
abbrev PV:Type:=AB5×Unit
abbrev SW:Type:=List Int→Int→Int→Option PV
def VB(R5:SW)(t0:AAG)(t3 t4:Int):Option PV:=
 cond ((decide (t4<(t0.length:Int))))
  (if(0:Int)≤t4∧t4<(t0.length:Int)then(
  let x3:Int:=(t0.getD (t4.toNat) 0)
  if x3<0 then none else(
  R5 t0 (bOr .i64 t3 (AS (1*2^(min x3.toNat 64)))) (AS (t4+1))))else none)
 (some ((t3,()),()))
def Kf:Nat→SW
 |0=>fun _ _ _=>none
 |n+1=>VB (Kf n)
def VF(R5:SW)(p0:AAG):Option PV:=
 (Yc p0 0 7).bind fun u1=>
 cond (!u1.1.1)
  (some (((-1),()),()))
 (R5 p0 0 0)
def L9(p0:AAG):Option PV:=VF (Kf Ac) p0
abbrev P4:Type:=AB5×Unit
abbrev SV:Type:=Int→AAX→Int→Option P4
def PB(R2:SV)(t3:Int)(AM:AAX)(AE:Int):Option P4:=
 cond ((decide (t3<(AM.length:Int))))
  (if(0:Int)≤t3∧t3<(AM.length:Int)then(
  cond (!((AM.getD (t3.toNat) ([],false,0,())).2.1))
   (some ((AS (t3+1),()),()))
  (R2 (AS (t3+1)) AM AE))else none)
 (some ((0,()),()))
def IV:Nat→SV
 |0=>fun _ _ _=>none
 |n+1=>PB (IV n)
def Vj(R2:SV)(p0:ACa):Option P4:=
 R2 0 p0.1 p0.2.1
def Jt(p0:ACa):Option P4:=Vj (IV Ac) p0
abbrev HB:Type:=ACx×ADA
def CK(p0:ACa)(p1:Int):Option HB:=
 (CG p1 1 (p0.1.length:Int)).bind fun u1=>
 cond (!u1.1.1)
  (some (((),()),([],())))
 (if(0:Int)≤AS (p1-1)∧AS (p1-1)<(p0.1.length:Int)then(
 if 0+((p0.1.getD ((AS (p1-1)).toNat) ([],false,0,())).1).length≤DE then(
 some (((),()),(((p0.1.getD ((AS (p1-1)).toNat) ([],false,0,())).1),())))else none)else none)
abbrev NB:Type:=AGl×ADu
abbrev PE:Type:=Int→Int→Int→List Int→Int→Int→List Int→Int→AAa→List Int→AAX→Int→AAt→AA9→ABQ→AAl→Bool→Int→Int→Int→Int→List UInt8→Int→Int→List Int→AA2→Bool→List AAG→Option NB
def Rq(R16:PE)(t7 t8 t9:Int)(AM:AAG)(AE Ab:Int)(BJ:AAG)(Ar:Int)(DK:AAa)(G9:AAG)(M0:AAX)(Di:Int)(ASk:AAt)(APd:AA9)(ARA:ABQ)(AQp:AAl)(D4:Bool)(It LC ARV ATz:Int)(QL:ABp)(ie dy:Int)(AS6:AAG)(ANv:AA2)(APx:Bool)(ADQ:List AAG):Option NB:=
 cond ((decide (t9<(ADQ.length:Int))))
  (if(0:Int)≤t9∧t9<(ADQ.length:Int)then(
  (Ey (BJ,Ar,()) (ADQ.getD (t9.toNat) [])).bind fun u22=>
  cond (!u22.1.1)
   ((BA 3 AM AE Ab).bind fun aQ=>
   cond (!aQ.1.1)
    (R16 t7 (AS (t9+1)) (AS (t9+1)) aQ.2.1.1 aQ.2.1.2.1 aQ.2.1.2.2.1 BJ Ar DK G9 M0 Di ASk APd ARA AQp D4 It LC ARV ATz QL ie dy AS6 ANv APx ADQ)
   (R16 t7 t8 (AS (t9+1)) aQ.2.1.1 aQ.2.1.2.1 aQ.2.1.2.2.1 BJ Ar DK G9 M0 Di ASk APd ARA AQp D4 It LC ARV ATz QL ie dy AS6 ANv APx ADQ))
  (R16 t7 t8 (AS (t9+1)) AM AE Ab BJ Ar DK G9 M0 Di ASk APd ARA AQp D4 It LC ARV ATz QL ie dy AS6 ANv APx ADQ))else none)
 (some (((11,0,t8,t7,[],()),()),((AM,AE,Ab,()),())))
def GO:Nat→PE
 |0=>fun _ _ _ _ _ _ _ _ _ _ _ _ _ _ _ _ _ _ _ _ _ _ _ _ _ _ _ _=>none
 |n+1=>Rq (GO n)
def Tc(R16:PE)(p1:ABf)(AM:AAG)(AE Ab:Int):Option NB:=
 cond ((p1.2.2.2.2.2.2.2.1.length:Int)==0)
  (some (((8,0,0,0,[],()),()),((AM,AE,Ab,()),())))
 (if(0:Int)≤(0:Int)∧(0:Int)<(p1.2.2.2.2.2.2.2.1.length:Int)then(
 (CK (p1.2.2.2.2.1,p1.2.2.2.2.2.1,()) ((p1.2.2.2.2.2.2.2.1.getD 0 (0,0,[],[],false,[],())).2.1)).bind fun u3=>
 (AL (u3.2.1.length:Int) AM AE Ab).bind fun u5=>
 if(0:Int)≤u5.1.1∧u5.1.1<(u3.2.1.length:Int)then(
 let x6:Int:=(u3.2.1.getD (u5.1.1.toNat) 0)
 cond (!((p1.2.2.2.2.2.2.2.1.getD 0 (0,0,[],[],false,[],())).2.2.2.2.1))
  ((BA 4 u5.2.1.1 u5.2.1.2.1 u5.2.1.2.2.1).bind fun u8=>
  cond (u8.1.1)
   (some (((10,0,0,0,[],()),()),((u8.2.1.1,u8.2.1.2.1,u8.2.1.2.2.1,()),())))
  (cond (!((p1.2.2.2.2.2.2.2.1.getD 0 (0,0,[],[],false,[],())).2.2.2.2.1))
   (some (((9,x6,0,0,[],()),()),((u8.2.1.1,u8.2.1.2.1,u8.2.1.2.2.1,()),())))
  ((BA 6 u8.2.1.1 u8.2.1.2.1 u8.2.1.2.2.1).bind fun D9=>
  cond (D9.1.1)
   (some (((12,0,0,0,[],()),()),((D9.2.1.1,D9.2.1.2.1,D9.2.1.2.2.1,()),())))
  ((BA 3 D9.2.1.1 D9.2.1.2.1 D9.2.1.2.2.1).bind fun Kg=>
  cond (Kg.1.1)
   (some (((4,x6,0,0,[],()),()),((Kg.2.1.1,Kg.2.1.2.1,Kg.2.1.2.2.1,()),())))
  ((FY (((p1.2.2.2.2.2.2.2.1.getD 0 (0,0,[],[],false,[],())).2.2.2.2.2.1).length:Int) 1).bind fun J9=>
  (AL J9.1.1 Kg.2.1.1 Kg.2.1.2.1 Kg.2.1.2.2.1).bind fun Kc=>
  R16 x6 (AS (1+Kc.1.1)) 0 Kc.2.1.1 Kc.2.1.2.1 Kc.2.1.2.2.1 p1.1 p1.2.1 p1.2.2.1 p1.2.2.2.1 p1.2.2.2.2.1 p1.2.2.2.2.2.1 p1.2.2.2.2.2.2.1 p1.2.2.2.2.2.2.2.1 p1.2.2.2.2.2.2.2.2.1 p1.2.2.2.2.2.2.2.2.2.1 p1.2.2.2.2.2.2.2.2.2.2.1 0 0 0 0 [] ((p1.2.2.2.2.2.2.2.1.getD 0 (0,0,[],[],false,[],())).1) ((p1.2.2.2.2.2.2.2.1.getD 0 (0,0,[],[],false,[],())).2.1) ((p1.2.2.2.2.2.2.2.1.getD 0 (0,0,[],[],false,[],())).2.2.1) ((p1.2.2.2.2.2.2.2.1.getD 0 (0,0,[],[],false,[],())).2.2.2.1) ((p1.2.2.2.2.2.2.2.1.getD 0 (0,0,[],[],false,[],())).2.2.2.2.1) ((p1.2.2.2.2.2.2.2.1.getD 0 (0,0,[],[],false,[],())).2.2.2.2.2.1))))))
 (cond (!((p1.2.2.2.2.2.2.2.1.getD 0 (0,0,[],[],false,[],())).2.2.2.2.1))
  (some (((9,x6,0,0,[],()),()),((u5.2.1.1,u5.2.1.2.1,u5.2.1.2.2.1,()),())))
 ((BA 6 u5.2.1.1 u5.2.1.2.1 u5.2.1.2.2.1).bind fun u16=>
 cond (u16.1.1)
  (some (((12,0,0,0,[],()),()),((u16.2.1.1,u16.2.1.2.1,u16.2.1.2.2.1,()),())))
 ((BA 3 u16.2.1.1 u16.2.1.2.1 u16.2.1.2.2.1).bind fun Xb=>
 cond (Xb.1.1)
  (some (((4,x6,0,0,[],()),()),((Xb.2.1.1,Xb.2.1.2.1,Xb.2.1.2.2.1,()),())))
 ((FY (((p1.2.2.2.2.2.2.2.1.getD 0 (0,0,[],[],false,[],())).2.2.2.2.2.1).length:Int) 1).bind fun gD=>
 (AL gD.1.1 Xb.2.1.1 Xb.2.1.2.1 Xb.2.1.2.2.1).bind fun Li=>
 R16 x6 (AS (1+Li.1.1)) 0 Li.2.1.1 Li.2.1.2.1 Li.2.1.2.2.1 p1.1 p1.2.1 p1.2.2.1 p1.2.2.2.1 p1.2.2.2.2.1 p1.2.2.2.2.2.1 p1.2.2.2.2.2.2.1 p1.2.2.2.2.2.2.2.1 p1.2.2.2.2.2.2.2.2.1 p1.2.2.2.2.2.2.2.2.2.1 p1.2.2.2.2.2.2.2.2.2.2.1 0 0 0 0 [] ((p1.2.2.2.2.2.2.2.1.getD 0 (0,0,[],[],false,[],())).1) ((p1.2.2.2.2.2.2.2.1.getD 0 (0,0,[],[],false,[],())).2.1) ((p1.2.2.2.2.2.2.2.1.getD 0 (0,0,[],[],false,[],())).2.2.1) ((p1.2.2.2.2.2.2.2.1.getD 0 (0,0,[],[],false,[],())).2.2.2.1) ((p1.2.2.2.2.2.2.2.1.getD 0 (0,0,[],[],false,[],())).2.2.2.2.1) ((p1.2.2.2.2.2.2.2.1.getD 0 (0,0,[],[],false,[],())).2.2.2.2.2.1))))))else none)else none)
def MW(p1:ABf)(AM:AAG)(AE Ab:Int):Option NB:=Tc (GO Ac) p1 AM AE Ab
abbrev sd:Type:=AGo×ADu
def Fh(p1:List ABp)(AM:AAG)(AE Ab:Int):Option sd:=
 (AL (p1.length:Int) AM AE Ab).bind fun u1=>
 if(0:Int)≤u1.1.1∧u1.1.1<(p1.length:Int)then(
 some (((p1.getD (u1.1.1.toNat) []),()),((u1.2.1.1,u1.2.1.2.1,u1.2.1.2.2.1,()),())))else none
abbrev vn:Type:=AB5×Unit
def Uh(p0 p1:Int):Option vn:=
 cond (decide (p0<p1))
  (some ((p0,()),()))
 (some ((p1,()),()))
abbrev gA:Type:=AGl×ADu
def Gu(p1:ABf)(AM:AAG)(AE Ab:Int):Option gA:=
 (AL (p1.2.2.2.2.2.2.1.length:Int) AM AE Ab).bind fun u2=>
 (BA 3 u2.2.1.1 u2.2.1.2.1 u2.2.1.2.2.1).bind fun u3=>
 cond (!u3.1.1)
  (let x4:Int:=(p1.2.2.2.2.2.2.1.length:Int)
  if(0:Int)≤AS (x4-1)∧AS (x4-1)<(p1.2.2.2.2.2.2.1.length:Int)then(
  (CK (p1.2.2.2.2.1,p1.2.2.2.2.2.1,()) ((p1.2.2.2.2.2.2.1.getD ((AS (x4-1)).toNat) (0,[],())).1)).bind fun u6=>
  (AL (u6.2.1.length:Int) u3.2.1.1 u3.2.1.2.1 u3.2.1.2.2.1).bind fun u8=>
  if(0:Int)≤u8.1.1∧u8.1.1<(u6.2.1.length:Int)then(
  let x9:Int:=(u6.2.1.getD (u8.1.1.toNat) 0)
  let Yz:Int:=(((p1.2.2.2.2.2.2.1.getD ((AS (x4-1)).toNat) (0,[],())).2.1).length:Int)
  cond (Yz==0)
   ((Fh [[],[97],[98,99],[100]] u8.2.1.1 u8.2.1.2.1 u8.2.1.2.2.1).bind fun Kg=>
   some (((2,AS (x4-1),0,0,Kg.1.1,()),()),((Kg.2.1.1,Kg.2.1.2.1,Kg.2.1.2.2.1,()),())))
  ((BA 7 u8.2.1.1 u8.2.1.2.1 u8.2.1.2.2.1).bind fun Dj=>
  cond (Dj.1.1)
   ((Fh [[],[97],[98,99],[100]] Dj.2.1.1 Dj.2.1.2.1 Dj.2.1.2.2.1).bind fun J9=>
   some (((2,AS (x4-1),0,0,J9.1.1,()),()),((J9.2.1.1,J9.2.1.2.1,J9.2.1.2.2.1,()),())))
  ((BA 3 Dj.2.1.1 Dj.2.1.2.1 Dj.2.1.2.2.1).bind fun Kc=>
  cond (Kc.1.1)
   (some (((4,x9,0,0,[],()),()),((Kc.2.1.1,Kc.2.1.2.1,Kc.2.1.2.2.1,()),())))
  ((Uh Yz 3).bind fun Zb=>
  (AL Zb.1.1 Kc.2.1.1 Kc.2.1.2.1 Kc.2.1.2.2.1).bind fun u16=>
  some (((3,AS (x4-1),AS (Yz-u16.1.1),x9,[],()),()),((u16.2.1.1,u16.2.1.2.1,u16.2.1.2.2.1,()),()))))))else none)else none)
 (if(0:Int)≤u2.1.1∧u2.1.1<(p1.2.2.2.2.2.2.1.length:Int)then(
 (CK (p1.2.2.2.2.1,p1.2.2.2.2.2.1,()) ((p1.2.2.2.2.2.2.1.getD (u2.1.1.toNat) (0,[],())).1)).bind fun WR=>
 (AL (WR.2.1.length:Int) u3.2.1.1 u3.2.1.2.1 u3.2.1.2.2.1).bind fun Li=>
 if(0:Int)≤Li.1.1∧Li.1.1<(WR.2.1.length:Int)then(
 let x21:Int:=(WR.2.1.getD (Li.1.1.toNat) 0)
 let x22:Int:=(((p1.2.2.2.2.2.2.1.getD (u2.1.1.toNat) (0,[],())).2.1).length:Int)
 cond (x22==0)
  ((Fh [[],[97],[98,99],[100]] Li.2.1.1 Li.2.1.2.1 Li.2.1.2.2.1).bind fun aQ=>
  some (((2,u2.1.1,0,0,aQ.1.1,()),()),((aQ.2.1.1,aQ.2.1.2.1,aQ.2.1.2.2.1,()),())))
 ((BA 7 Li.2.1.1 Li.2.1.2.1 Li.2.1.2.2.1).bind fun Iq=>
 cond (Iq.1.1)
  ((Fh [[],[97],[98,99],[100]] Iq.2.1.1 Iq.2.1.2.1 Iq.2.1.2.2.1).bind fun bf=>
  some (((2,u2.1.1,0,0,bf.1.1,()),()),((bf.2.1.1,bf.2.1.2.1,bf.2.1.2.2.1,()),())))
 ((BA 3 Iq.2.1.1 Iq.2.1.2.1 Iq.2.1.2.2.1).bind fun gT=>
 cond (gT.1.1)
  (some (((4,x21,0,0,[],()),()),((gT.2.1.1,gT.2.1.2.1,gT.2.1.2.2.1,()),())))
 ((Uh x22 3).bind fun gN=>
 (AL gN.1.1 gT.2.1.1 gT.2.1.2.1 gT.2.1.2.2.1).bind fun PT=>
 some (((3,u2.1.1,AS (x22-PT.1.1),x21,[],()),()),((PT.2.1.1,PT.2.1.2.1,PT.2.1.2.2.1,()),()))))))else none)else none)
abbrev gx:Type:=AGl×ADu
def P5(p1:ABf)(AM:AAG)(AE Ab:Int):Option gx:=
 cond ((p1.2.2.2.2.2.2.1.length:Int)==0)
  ((H5 (p1.1,p1.2.1,()) AM AE Ab).bind fun u3=>
  (L9 u3.2.2.1).bind fun u4=>
  some (((1,u4.1.1,0,0,[],()),()),((u3.2.1.1,u3.2.1.2.1,u3.2.1.2.2.1,()),())))
 ((BA 30 AM AE Ab).bind fun u5=>
 cond (u5.1.1)
  ((H5 (p1.1,p1.2.1,()) u5.2.1.1 u5.2.1.2.1 u5.2.1.2.2.1).bind fun u6=>
  (L9 u6.2.2.1).bind fun u7=>
  some (((1,u7.1.1,0,0,[],()),()),((u6.2.1.1,u6.2.1.2.1,u6.2.1.2.2.1,()),())))
 ((AL (p1.2.2.1.length:Int) u5.2.1.1 u5.2.1.2.1 u5.2.1.2.2.1).bind fun u8=>
 (AL 44 u8.2.1.1 u8.2.1.2.1 u8.2.1.2.2.1).bind fun u9=>
 cond (u9.1.1==0)
  ((AL 16 u9.2.1.1 u9.2.1.2.1 u9.2.1.2.2.1).bind fun D9=>
  some (((5,u8.1.1,D9.1.1,0,[],()),()),((D9.2.1.1,D9.2.1.2.1,D9.2.1.2.2.1,()),())))
 (cond (u9.1.1==1)
  (cond ((p1.2.2.2.1.length:Int)==0)
   (some (((6,u8.1.1,0,0,[],()),()),((u9.2.1.1,u9.2.1.2.1,u9.2.1.2.2.1,()),())))
  ((BA 12 u9.2.1.1 u9.2.1.2.1 u9.2.1.2.2.1).bind fun Dj=>
  cond (Dj.1.1)
   (some (((6,u8.1.1,0,0,[],()),()),((Dj.2.1.1,Dj.2.1.2.1,Dj.2.1.2.2.1,()),())))
  (if(0:Int)≤(0:Int)∧(0:Int)<(p1.2.2.2.1.length:Int)then(
  some (((7,(p1.2.2.2.1.getD 0 0),0,0,[],()),()),((Dj.2.1.1,Dj.2.1.2.1,Dj.2.1.2.2.1,()),())))else none)))
 (cond (u9.1.1==2)
  ((AL (p1.2.2.2.2.2.2.1.length:Int) u9.2.1.1 u9.2.1.2.1 u9.2.1.2.2.1).bind fun Zb=>
  some (((15,Zb.1.1,0,0,[],()),()),((Zb.2.1.1,Zb.2.1.2.1,Zb.2.1.2.2.1,()),())))
 (cond (u9.1.1==3)
  ((BA 3 u9.2.1.1 u9.2.1.2.1 u9.2.1.2.2.1).bind fun u16=>
  cond (u16.1.1)
   (cond (decide ((p1.2.2.2.2.2.2.2.2.2.1.length:Int)>0))
    ((AL (p1.2.2.2.2.2.2.2.2.2.1.length:Int) u16.2.1.1 u16.2.1.2.1 u16.2.1.2.2.1).bind fun gD=>
    if(0:Int)≤gD.1.1∧gD.1.1<(p1.2.2.2.2.2.2.2.2.2.1.length:Int)then(
    some (((13,((p1.2.2.2.2.2.2.2.2.2.1.getD (gD.1.1.toNat) (0,[],false,())).1),0,0,[],()),()),((gD.2.1.1,gD.2.1.2.1,gD.2.1.2.2.1,()),())))else none)
   (some (((16,u8.1.1,0,0,[],()),()),((u16.2.1.1,u16.2.1.2.1,u16.2.1.2.2.1,()),()))))
  (some (((16,u8.1.1,0,0,[],()),()),((u16.2.1.1,u16.2.1.2.1,u16.2.1.2.2.1,()),()))))
 (cond (u9.1.1==4)
  ((BA 2 u9.2.1.1 u9.2.1.2.1 u9.2.1.2.2.1).bind fun nM=>
  cond (nM.1.1)
   ((AL 256 nM.2.1.1 nM.2.1.2.1 nM.2.1.2.2.1).bind fun u22=>
   (AL 2 u22.2.1.1 u22.2.1.2.1 u22.2.1.2.2.1).bind fun aQ=>
   some (((14,aQ.1.1,u22.1.1,0,[],()),()),((aQ.2.1.1,aQ.2.1.2.1,aQ.2.1.2.2.1,()),())))
  ((AL 2 nM.2.1.1 nM.2.1.2.1 nM.2.1.2.2.1).bind fun Iq=>
  some (((14,Iq.1.1,255,0,[],()),()),((Iq.2.1.1,Iq.2.1.2.1,Iq.2.1.2.2.1,()),()))))
 (cond (u9.1.1==5)
  ((BA 2 u9.2.1.1 u9.2.1.2.1 u9.2.1.2.2.1).bind fun bf=>
  cond (bf.1.1)
   ((AL 256 bf.2.1.1 bf.2.1.2.1 bf.2.1.2.2.1).bind fun gT=>
   (AL 2 gT.2.1.1 gT.2.1.2.1 gT.2.1.2.2.1).bind fun gN=>
   some (((14,gN.1.1,gT.1.1,0,[],()),()),((gN.2.1.1,gN.2.1.2.1,gN.2.1.2.2.1,()),())))
  ((AL 2 bf.2.1.1 bf.2.1.2.1 bf.2.1.2.2.1).bind fun PT=>
  some (((14,PT.1.1,255,0,[],()),()),((PT.2.1.1,PT.2.1.2.1,PT.2.1.2.2.1,()),()))))
 (cond (u9.1.1==6)
  ((BA 2 u9.2.1.1 u9.2.1.2.1 u9.2.1.2.2.1).bind fun ZZ=>
  cond (ZZ.1.1)
   ((AL 256 ZZ.2.1.1 ZZ.2.1.2.1 ZZ.2.1.2.2.1).bind fun oJ=>
   (AL 2 oJ.2.1.1 oJ.2.1.2.1 oJ.2.1.2.2.1).bind fun dF=>
   some (((14,dF.1.1,oJ.1.1,0,[],()),()),((dF.2.1.1,dF.2.1.2.1,dF.2.1.2.2.1,()),())))
  ((AL 2 ZZ.2.1.1 ZZ.2.1.2.1 ZZ.2.1.2.2.1).bind fun u32=>
  some (((14,u32.1.1,255,0,[],()),()),((u32.2.1.1,u32.2.1.2.1,u32.2.1.2.2.1,()),()))))
 (cond (u9.1.1==7)
  ((BA 2 u9.2.1.1 u9.2.1.2.1 u9.2.1.2.2.1).bind fun ar=>
  cond (ar.1.1)
   ((AL 256 ar.2.1.1 ar.2.1.2.1 ar.2.1.2.2.1).bind fun vi=>
   (AL 2 vi.2.1.1 vi.2.1.2.1 vi.2.1.2.2.1).bind fun u35=>
   some (((14,u35.1.1,vi.1.1,0,[],()),()),((u35.2.1.1,u35.2.1.2.1,u35.2.1.2.2.1,()),())))
  ((AL 2 ar.2.1.1 ar.2.1.2.1 ar.2.1.2.2.1).bind fun u36=>
  some (((14,u36.1.1,255,0,[],()),()),((u36.2.1.1,u36.2.1.2.1,u36.2.1.2.2.1,()),()))))
 (cond (u9.1.1==8)
  ((BA 2 u9.2.1.1 u9.2.1.2.1 u9.2.1.2.2.1).bind fun nr=>
  cond (nr.1.1)
   ((AL 256 nr.2.1.1 nr.2.1.2.1 nr.2.1.2.2.1).bind fun u38=>
   (AL 2 u38.2.1.1 u38.2.1.2.1 u38.2.1.2.2.1).bind fun nP=>
   some (((14,nP.1.1,u38.1.1,0,[],()),()),((nP.2.1.1,nP.2.1.2.1,nP.2.1.2.2.1,()),())))
  ((AL 2 nr.2.1.1 nr.2.1.2.1 nr.2.1.2.2.1).bind fun u40=>
  some (((14,u40.1.1,255,0,[],()),()),((u40.2.1.1,u40.2.1.2.1,u40.2.1.2.2.1,()),()))))
 (cond (decide ((p1.2.2.2.2.1.length:Int)>1))
  ((Jt (p1.2.2.2.2.1,p1.2.2.2.2.2.1,())).bind fun u43=>
  cond ((decide (u43.1.1<(p1.2.2.2.2.1.length:Int))))
   ((BA 3 u9.2.1.1 u9.2.1.2.1 u9.2.1.2.2.1).bind fun u45=>
   cond (!u45.1.1)
    ((MW (p1.1,p1.2.1,p1.2.2.1,p1.2.2.2.1,p1.2.2.2.2.1,p1.2.2.2.2.2.1,p1.2.2.2.2.2.2.1,p1.2.2.2.2.2.2.2.1,p1.2.2.2.2.2.2.2.2.1,p1.2.2.2.2.2.2.2.2.2.1,p1.2.2.2.2.2.2.2.2.2.2.1,()) u45.2.1.1 u45.2.1.2.1 u45.2.1.2.2.1).bind fun sN=>
    some (((sN.1.1.1,sN.1.1.2.1,sN.1.1.2.2.1,sN.1.1.2.2.2.1,sN.1.1.2.2.2.2.1,()),()),((sN.2.1.1,sN.2.1.2.1,sN.2.1.2.2.1,()),())))
   ((Gu (p1.1,p1.2.1,p1.2.2.1,p1.2.2.2.1,p1.2.2.2.2.1,p1.2.2.2.2.2.1,p1.2.2.2.2.2.2.1,p1.2.2.2.2.2.2.2.1,p1.2.2.2.2.2.2.2.2.1,p1.2.2.2.2.2.2.2.2.2.1,p1.2.2.2.2.2.2.2.2.2.2.1,()) u45.2.1.1 u45.2.1.2.1 u45.2.1.2.2.1).bind fun ni=>
   some (((ni.1.1.1,ni.1.1.2.1,ni.1.1.2.2.1,ni.1.1.2.2.2.1,ni.1.1.2.2.2.2.1,()),()),((ni.2.1.1,ni.2.1.2.1,ni.2.1.2.2.1,()),()))))
  ((Gu (p1.1,p1.2.1,p1.2.2.1,p1.2.2.2.1,p1.2.2.2.2.1,p1.2.2.2.2.2.1,p1.2.2.2.2.2.2.1,p1.2.2.2.2.2.2.2.1,p1.2.2.2.2.2.2.2.2.1,p1.2.2.2.2.2.2.2.2.2.1,p1.2.2.2.2.2.2.2.2.2.2.1,()) u9.2.1.1 u9.2.1.2.1 u9.2.1.2.2.1).bind fun u48=>
  some (((u48.1.1.1,u48.1.1.2.1,u48.1.1.2.2.1,u48.1.1.2.2.2.1,u48.1.1.2.2.2.2.1,()),()),((u48.2.1.1,u48.2.1.2.1,u48.2.1.2.2.1,()),()))))
 ((Gu (p1.1,p1.2.1,p1.2.2.1,p1.2.2.2.1,p1.2.2.2.2.1,p1.2.2.2.2.2.1,p1.2.2.2.2.2.2.1,p1.2.2.2.2.2.2.2.1,p1.2.2.2.2.2.2.2.2.1,p1.2.2.2.2.2.2.2.2.2.1,p1.2.2.2.2.2.2.2.2.2.2.1,()) u9.2.1.1 u9.2.1.2.1 u9.2.1.2.2.1).bind fun sP=>
 some (((sP.1.1.1,sP.1.1.2.1,sP.1.1.2.2.1,sP.1.1.2.2.2.1,sP.1.1.2.2.2.2.1,()),()),((sP.2.1.1,sP.2.1.2.1,sP.2.1.2.2.1,()),()))))))))))))))
abbrev q6:Type:=ABk×Unit
def Hn(p0:Int):Option q6:=
 cond (decide (p0>0))
  ((CG (AS (p0.tdiv 4294967296)) 1 30).bind fun u2=>
  cond (u2.1.1)
   ((CG (p0.tmod 4294967296) 1 60).bind fun u3=>
   some ((u3.1.1,()),()))
  (some ((false,()),())))
 (some ((false,()),()))
abbrev H0:Type:=AB5×Unit
def Cn(p0:Int):Option H0:=
 (Hn p0).bind fun u1=>
 cond (!u1.1.1)
  (some ((0,()),()))
 (some (((AS (p0.tdiv 4294967296)),()),()))
abbrev pd:Type:=ABk×Unit
def Mz(p0:ADZ):Option pd:=
 (Hn p0.1).bind fun u1=>
 cond (!u1.1.1)
  (some ((false,()),()))
 ((CG p0.2.1 0 30).bind fun u2=>
 cond (!u2.1.1)
  (some ((false,()),()))
 (cond (decide (p0.2.1>0))
  ((Cn p0.1).bind fun u3=>
  cond ((decide (p0.2.1≤u3.1.1)))
   (some ((false,()),()))
  (cond (decide ((p0.2.2.2.1.length:Int)>40))
   (some ((false,()),()))
  (cond (!p0.2.2.1)
   (some ((true,()),()))
  (cond (decide (p0.2.1>0))
   (some ((p0.2.2.2.1==[],()),()))
  (some ((false,()),()))))))
 (cond (decide ((p0.2.2.2.1.length:Int)>40))
  (some ((false,()),()))
 (cond (!p0.2.2.1)
  (some ((true,()),()))
 (cond (decide (p0.2.1>0))
  (some ((p0.2.2.2.1==[],()),()))
 (some ((false,()),())))))))
abbrev U7:Type:=ABk×Unit
abbrev Xq:Type:=AA2→Int→Option U7
def S3(R4:Xq)(t0:AA2)(t5:Int):Option U7:=
 cond ((decide (t5<(t0.length:Int))))
  (if(0:Int)≤t5∧t5<(t0.length:Int)then(
  (Mz ((t0.getD (t5.toNat) (0,0,false,[],())).1,(t0.getD (t5.toNat) (0,0,false,[],())).2.1,(t0.getD (t5.toNat) (0,0,false,[],())).2.2.1,(t0.getD (t5.toNat) (0,0,false,[],())).2.2.2.1,())).bind fun u3=>
  cond (!u3.1.1)
   (some ((false,()),()))
  (R4 t0 (AS (t5+1))))else none)
 (some ((true,()),()))
def MP:Nat→Xq
 |0=>fun _ _=>none
 |n+1=>S3 (MP n)
def ZC(R4:Xq)(p0:AA2)(p1:Int):Option U7:=
 cond ((decide ((p0.length:Int)>p1)))
  (some ((false,()),()))
 (R4 p0 0)
def VY(p0:AA2)(p1:Int):Option U7:=ZC (MP Ac) p0 p1
abbrev W3:Type:=ABk×Unit
abbrev aO:Type:=AA2→Int→Option W3
def P1(R2:aO)(t0:AA2)(t3:Int):Option W3:=
 cond ((decide (t3<(t0.length:Int))))
  (if(0:Int)≤AS (t3-1)∧AS (t3-1)<(t0.length:Int)then(
  if(0:Int)≤t3∧t3<(t0.length:Int)then(
  cond (decide (((t0.getD ((AS (t3-1)).toNat) (0,0,false,[],())).1)≥((t0.getD (t3.toNat) (0,0,false,[],())).1)))
   (some ((false,()),()))
  (R2 t0 (AS (t3+1))))else none)else none)
 (some ((true,()),()))
def Gj:Nat→aO
 |0=>fun _ _=>none
 |n+1=>P1 (Gj n)
def bB(R2:aO)(p0:AA2):Option W3:=
 R2 p0 1
def YC(p0:AA2):Option W3:=bB (Gj Ac) p0
abbrev qR:Type:=ABk×Unit
def G4(p0:ACn):Option qR:=
 (VY p0.1 200).bind fun u1=>
 cond (u1.1.1)
  ((VY p0.2.1 20).bind fun u2=>
  cond (u2.1.1)
   ((YC p0.1).bind fun u3=>
   cond (u3.1.1)
    ((CG p0.2.2.1 0 30).bind fun u4=>
    some ((u4.1.1,()),()))
   (some ((false,()),())))
  (some ((false,()),())))
 (some ((false,()),()))
abbrev qS:Type:=ABk×Unit
def bl(p0:ACn):Option qS:=
 cond (((p0.1.length:Int)==0))
  (cond ((p0.2.1.length:Int)==0)
   (some ((p0.2.2.1==0,()),()))
  (some ((false,()),())))
 (some ((false,()),()))
abbrev Q2:Type:=ABk×Unit
abbrev UE:Type:=Int→List Int→Int→AAa→List Int→AAX→Int→AAt→AA9→ABQ→AAl→Bool→Option Q2
def QH(R4:UE)(t3:Int)(AM:AAG)(AE:Int)(Ab:AAa)(Cq:AAG)(DW:AAX)(AZ:Int)(DT:AAt)(DI:AA9)(Eb:ABQ)(EI:AAl)(AN:Bool):Option Q2:=
 cond ((decide (t3<(Ab.length:Int))))
  (if(0:Int)≤t3∧t3<(Ab.length:Int)then(
  (G4 ((Ab.getD (t3.toNat) ([],[],0,())).1,(Ab.getD (t3.toNat) ([],[],0,())).2.1,(Ab.getD (t3.toNat) ([],[],0,())).2.2.1,())).bind fun u8=>
  cond (!u8.1.1)
   (some ((false,()),()))
  ((Cz Cq t3).bind fun u9=>
  cond (u9.1.1)
   (if(0:Int)≤t3∧t3<(Ab.length:Int)then(
   (bl ((Ab.getD (t3.toNat) ([],[],0,())).1,(Ab.getD (t3.toNat) ([],[],0,())).2.1,(Ab.getD (t3.toNat) ([],[],0,())).2.2.1,())).bind fun D9=>
   cond (!D9.1.1)
    (some ((false,()),()))
   (R4 (AS (t3+1)) AM AE Ab Cq DW AZ DT DI Eb EI AN))else none)
  (R4 (AS (t3+1)) AM AE Ab Cq DW AZ DT DI Eb EI AN)))else none)
 (some ((true,()),()))
def JT:Nat→UE
 |0=>fun _ _ _ _ _ _ _ _ _ _ _ _=>none
 |n+1=>QH (JT n)
def WQ(R4:UE)(p0:ABf):Option Q2:=
 (Gg (p0.1,p0.2.1,())).bind fun u1=>
 cond (!u1.1.1)
  (some ((false,()),()))
 (cond (((p0.2.2.1.length:Int) !=(p0.1.length:Int)))
  (some ((false,()),()))
 ((Gx (p0.1,p0.2.1,()) p0.2.2.2.1).bind fun u4=>
 cond (!u4.1.1)
  (some ((false,()),()))
 ((Ey (p0.1,p0.2.1,()) p0.2.2.2.1).bind fun u5=>
 cond (u5.1.1)
  (cond (!p0.2.2.2.2.2.2.2.2.2.2.1)
   (some ((false,()),()))
  (R4 0 p0.1 p0.2.1 p0.2.2.1 p0.2.2.2.1 p0.2.2.2.2.1 p0.2.2.2.2.2.1 p0.2.2.2.2.2.2.1 p0.2.2.2.2.2.2.2.1 p0.2.2.2.2.2.2.2.2.1 p0.2.2.2.2.2.2.2.2.2.1 p0.2.2.2.2.2.2.2.2.2.2.1))
 (R4 0 p0.1 p0.2.1 p0.2.2.1 p0.2.2.2.1 p0.2.2.2.2.1 p0.2.2.2.2.2.1 p0.2.2.2.2.2.2.1 p0.2.2.2.2.2.2.2.1 p0.2.2.2.2.2.2.2.2.1 p0.2.2.2.2.2.2.2.2.2.1 p0.2.2.2.2.2.2.2.2.2.2.1))))
def Ur(p0:ABf):Option Q2:=WQ (JT Ac) p0
abbrev Sy:Type:=ABk×Unit
abbrev aE:Type:=Int→Int→List Int→Int→AAX→Int→Option Sy
def UL(R5:aE)(t5 t6:Int)(AM:AAG)(AE:Int)(BJ:AAX)(Ar:Int):Option Sy:=
 cond (decide (t6<t5))
  (if(0:Int)≤t6∧t6<(BJ.length:Int)then(
  (Ey (AM,AE,()) ((BJ.getD (t6.toNat) ([],false,0,())).1)).bind fun u6=>
  cond (!u6.1.1)
   (some ((false,()),()))
  ((CG ((BJ.getD (t6.toNat) ([],false,0,())).2.2.1) 0 60).bind fun u8=>
  cond (!u8.1.1)
   (some ((false,()),()))
  (cond (!((BJ.getD (t6.toNat) ([],false,0,())).2.1))
   (cond (((BJ.getD (t6.toNat) ([],false,0,())).2.2.1) !=0)
    (some ((false,()),()))
   (cond (((BJ.getD (t6.toNat) ([],false,0,())).2.1))
    (cond (t6==(AS (t5-1)))
     (some ((false,()),()))
    (cond (decide (t6>0))
     (if(0:Int)≤AS (t6-1)∧AS (t6-1)<(BJ.length:Int)then(
     cond (!((BJ.getD ((AS (t6-1)).toNat) ([],false,0,())).2.1))
      (some ((false,()),()))
     (R5 t5 (AS (t6+1)) AM AE BJ Ar))else none)
    (R5 t5 (AS (t6+1)) AM AE BJ Ar)))
   (R5 t5 (AS (t6+1)) AM AE BJ Ar)))
  (cond (((BJ.getD (t6.toNat) ([],false,0,())).2.1))
   (cond (t6==(AS (t5-1)))
    (some ((false,()),()))
   (cond (decide (t6>0))
    (if(0:Int)≤AS (t6-1)∧AS (t6-1)<(BJ.length:Int)then(
    cond (!((BJ.getD ((AS (t6-1)).toNat) ([],false,0,())).2.1))
     (some ((false,()),()))
    (R5 t5 (AS (t6+1)) AM AE BJ Ar))else none)
   (R5 t5 (AS (t6+1)) AM AE BJ Ar)))
  (R5 t5 (AS (t6+1)) AM AE BJ Ar)))))else none)
 (some ((true,()),()))
def LD:Nat→aE
 |0=>fun _ _ _ _ _ _=>none
 |n+1=>UL (LD n)
def au(R5:aE)(p0:ABU)(p1:ACa):Option Sy:=
 (Gg (p0.1,p0.2.1,())).bind fun u1=>
 cond (!u1.1.1)
  (some ((false,()),()))
 (cond ((decide ((p1.1.length:Int)>30)))
  (some ((false,()),()))
 (cond (p1.2.1 !=0)
  ((Hn p1.2.1).bind fun u3=>
  cond (!u3.1.1)
   (some ((false,()),()))
  ((Cn p1.2.1).bind fun u4=>
  cond ((decide (u4.1.1>(p1.1.length:Int))))
   (some ((false,()),()))
  (R5 (p1.1.length:Int) 0 p0.1 p0.2.1 p1.1 p1.2.1)))
 (R5 (p1.1.length:Int) 0 p0.1 p0.2.1 p1.1 p1.2.1)))
def NH(p0:ABU)(p1:ACa):Option Sy:=au (LD Ac) p0 p1
abbrev NP:Type:=ABk×Unit
abbrev UD:Type:=Int→Int→List Int→Int→Int→AB4→Option NP
def WT(R5:UD)(t5 t6:Int)(AM:AAG)(AE BJ:Int)(Ar:AB4):Option NP:=
 cond ((decide (t6<(Ar.length:Int))))
  (if(0:Int)≤t6∧t6<(Ar.length:Int)then(
  cond ((decide ((((Ar.getD (t6.toNat) ([],[],false,())).1).length:Int)>40)))
   (some ((false,()),()))
  ((Gx (AM,AE,()) ((Ar.getD (t6.toNat) ([],[],false,())).2.1)).bind fun u7=>
  cond (!u7.1.1)
   (some ((false,()),()))
  ((Ey (AM,AE,()) ((Ar.getD (t6.toNat) ([],[],false,())).2.1)).bind fun u9=>
  cond (u9.1.1 !=((Ar.getD (t6.toNat) ([],[],false,())).2.2.1))
   (some ((false,()),()))
  (cond (!((Ar.getD (t6.toNat) ([],[],false,())).2.2.1))
   (R5 (AS (t5+1)) (AS (t6+1)) AM AE BJ Ar)
  (R5 t5 (AS (t6+1)) AM AE BJ Ar)))))else none)
 (some ((decide (t5≤6),()),()))
def L1:Nat→UD
 |0=>fun _ _ _ _ _ _=>none
 |n+1=>WT (L1 n)
def Wb(R5:UD)(p0:ABU)(p1:ACt):Option NP:=
 (Gg (p0.1,p0.2.1,())).bind fun u1=>
 cond (!u1.1.1)
  (some ((false,()),()))
 ((CG p1.1 1 30).bind fun u2=>
 cond (!u2.1.1)
  (some ((false,()),()))
 (cond (decide ((p1.2.1.length:Int)>60))
  (some ((false,()),()))
 (R5 0 0 p0.1 p0.2.1 p1.1 p1.2.1)))
def Hm(p0:ABU)(p1:ACt):Option NP:=Wb (L1 Ac) p0 p1
abbrev Ks:Type:=AB5×Unit
def HU(p0:Int):Option Ks:=
 (Hn p0).bind fun u1=>
 cond (!u1.1.1)
  (some ((0,()),()))
 (some ((p0.tmod 4294967296,()),()))
abbrev sx:Type:=AB5×Unit
def Ro(p0:ABe):Option sx:=
 cond ((p0.2.2.2.1.length:Int)==0)
  (some ((0,()),()))
 (let x2:Int:=(p0.2.2.2.1.length:Int)
 if(0:Int)≤AS (x2-1)∧AS (x2-1)<(p0.2.2.2.1.length:Int)then(
 (HU ((p0.2.2.2.1.getD ((AS (x2-1)).toNat) (0,0,false,[],())).1)).bind fun u4=>
 some ((u4.1.1,()),()))else none)
abbrev Nh:Type:=ABk×Unit
abbrev TV:Type:=Int→List Int→Int→Int→Int→List Int→AA2→Bool→List AAG→Option Nh
abbrev Sq:Type:=Int→List Int→Int→Int→Int→List Int→AA2→Bool→List AAG→Option Nh
def TZ(R4:TV)(R9:Sq)(t5:Int)(AM:AAG)(AE BJ Ar:Int)(DK:AAG)(G9:AA2)(M0:Bool)(Di:List AAG):Option Nh:=
 cond ((decide (t5<(G9.length:Int))))
  (if(0:Int)≤t5∧t5<(G9.length:Int)then(
  (Mz ((G9.getD (t5.toNat) (0,0,false,[],())).1,(G9.getD (t5.toNat) (0,0,false,[],())).2.1,(G9.getD (t5.toNat) (0,0,false,[],())).2.2.1,(G9.getD (t5.toNat) (0,0,false,[],())).2.2.2.1,())).bind fun u7=>
  cond (!u7.1.1)
   (some ((false,()),()))
  (if(0:Int)≤t5∧t5<(G9.length:Int)then(
  (Cn ((G9.getD (t5.toNat) (0,0,false,[],())).1)).bind fun u9=>
  cond (u9.1.1 !=Ar)
   (some ((false,()),()))
  (if(0:Int)≤t5∧t5<(G9.length:Int)then(
  cond (decide (((G9.getD (t5.toNat) (0,0,false,[],())).2.1)≥BJ))
   (some ((false,()),()))
  (R4 (AS (t5+1)) AM AE BJ Ar DK G9 M0 Di))else none))else none))else none)
 (R9 0 AM AE BJ Ar DK G9 M0 Di)
def Sm(R4:TV)(R9:Sq)(t6:Int)(AM:AAG)(AE BJ Ar:Int)(DK:AAG)(G9:AA2)(M0:Bool)(Di:List AAG):Option Nh:=
 cond ((decide (t6<(Di.length:Int))))
  (if(0:Int)≤t6∧t6<(Di.length:Int)then(
  (Gx (AM,AE,()) (Di.getD (t6.toNat) [])).bind fun Dj=>
  cond (!Dj.1.1)
   (some ((false,()),()))
  (R9 (AS (t6+1)) AM AE BJ Ar DK G9 M0 Di))else none)
 (cond (!M0)
  (some ((((Di.length:Int)==0),()),()))
 ((Ro (BJ,Ar,DK,G9,M0,Di,())).bind fun Kc=>
 some ((((Di.length:Int)==Kc.1.1),()),())))
mutual
def Jl:Nat→TV
 |0=>fun _ _ _ _ _ _ _ _ _=>none
 |n+1=>TZ (Jl n) (H3 n)
def H3:Nat→Sq
 |0=>fun _ _ _ _ _ _ _ _ _=>none
 |n+1=>Sm (Jl n) (H3 n)
end
def ZF(R4:TV)(R9:Sq)(p0:ABU)(p1:ABe):Option Nh:=
 (Gg (p0.1,p0.2.1,())).bind fun u1=>
 cond (!u1.1.1)
  (some ((false,()),()))
 ((CG p1.2.1 1 30).bind fun u2=>
 cond (!u2.1.1)
  (some ((false,()),()))
 ((CG p1.1 (AS (p1.2.1+1)) 30).bind fun u3=>
 cond (!u3.1.1)
  (some ((false,()),()))
 ((Gx (p0.1,p0.2.1,()) p1.2.2.1).bind fun u4=>
 cond (!u4.1.1)
  (some ((false,()),()))
 ((YC p1.2.2.2.1).bind fun u5=>
 cond (!u5.1.1)
  (some ((false,()),()))
 (R4 0 p0.1 p0.2.1 p1.1 p1.2.1 p1.2.2.1 p1.2.2.2.1 p1.2.2.2.2.1 p1.2.2.2.2.2.1)))))
def JC(p0:ABU)(p1:ABe):Option Nh:=ZF (Jl Ac) (H3 Ac) p0 p1
abbrev JH:Type:=ABk×Unit
abbrev OP:Type:=Int→Int→List Int→Int→AAa→List Int→AAX→Int→AAt→AA9→ABQ→AAl→Bool→Option JH
abbrev M6:Type:=Int→Int→List Int→Int→AAa→List Int→AAX→Int→AAt→AA9→ABQ→AAl→Bool→Option JH
def PQ(R5:OP)(R10:M6)(t3 t4:Int)(AM:AAG)(AE:Int)(Ab:AAa)(Cq:AAG)(DW:AAX)(AZ:Int)(DT:AAt)(DI:AA9)(Eb:ABQ)(EI:AAl)(AN:Bool):Option JH:=
 cond ((decide (t4<(DT.length:Int))))
  (if(0:Int)≤t4∧t4<(DT.length:Int)then(
  (Hm (AM,AE,()) ((DT.getD (t4.toNat) (0,[],())).1,(DT.getD (t4.toNat) (0,[],())).2.1,())).bind fun u6=>
  cond (!u6.1.1)
   (some ((false,()),()))
  (if(0:Int)≤t4∧t4<(DT.length:Int)then(
  cond (decide (((DT.getD (t4.toNat) (0,[],())).1)>t3))
   (some ((false,()),()))
  (cond (decide (t4>0))
   (if(0:Int)≤AS (t4-1)∧AS (t4-1)<(DT.length:Int)then(
   if(0:Int)≤t4∧t4<(DT.length:Int)then(
   cond (decide (((DT.getD ((AS (t4-1)).toNat) (0,[],())).1)≥((DT.getD (t4.toNat) (0,[],())).1)))
    (some ((false,()),()))
   (R5 t3 (AS (t4+1)) AM AE Ab Cq DW AZ DT DI Eb EI AN))else none)else none)
  (R5 t3 (AS (t4+1)) AM AE Ab Cq DW AZ DT DI Eb EI AN)))else none))else none)
 (R10 t3 0 AM AE Ab Cq DW AZ DT DI Eb EI AN)
def N4(R5:OP)(R10:M6)(t3 t5:Int)(AM:AAG)(AE:Int)(Ab:AAa)(Cq:AAG)(DW:AAX)(AZ:Int)(DT:AAt)(DI:AA9)(Eb:ABQ)(EI:AAl)(AN:Bool):Option JH:=
 cond ((decide (t5<(DI.length:Int))))
  (if(0:Int)≤t5∧t5<(DI.length:Int)then(
  (JC (AM,AE,()) ((DI.getD (t5.toNat) (0,0,[],[],false,[],())).1,(DI.getD (t5.toNat) (0,0,[],[],false,[],())).2.1,(DI.getD (t5.toNat) (0,0,[],[],false,[],())).2.2.1,(DI.getD (t5.toNat) (0,0,[],[],false,[],())).2.2.2.1,(DI.getD (t5.toNat) (0,0,[],[],false,[],())).2.2.2.2.1,(DI.getD (t5.toNat) (0,0,[],[],false,[],())).2.2.2.2.2.1,())).bind fun Kg=>
  cond (!Kg.1.1)
   (some ((false,()),()))
  (cond (((DI.getD (t5.toNat) (0,0,[],[],false,[],())).1) !=t3)
   (some ((false,()),()))
  ((Jt (DW,AZ,())).bind fun Kc=>
  cond (((DI.getD (t5.toNat) (0,0,[],[],false,[],())).2.1) !=Kc.1.1)
   (some ((false,()),()))
  (R10 t3 (AS (t5+1)) AM AE Ab Cq DW AZ DT DI Eb EI AN))))else none)
 (some ((true,()),()))
mutual
def Gm:Nat→OP
 |0=>fun _ _ _ _ _ _ _ _ _ _ _ _ _=>none
 |n+1=>PQ (Gm n) (En n)
def En:Nat→M6
 |0=>fun _ _ _ _ _ _ _ _ _ _ _ _ _=>none
 |n+1=>N4 (Gm n) (En n)
end
def Vs(R5:OP)(R10:M6)(p0:ABf):Option JH:=
 (NH (p0.1,p0.2.1,()) (p0.2.2.2.2.1,p0.2.2.2.2.2.1,())).bind fun u2=>
 cond (!u2.1.1)
  (some ((false,()),()))
 (cond (decide ((p0.2.2.2.2.2.2.1.length:Int)>4))
  (some ((false,()),()))
 (cond (decide ((p0.2.2.2.2.2.2.2.1.length:Int)>1))
  (some ((false,()),()))
 (R5 (p0.2.2.2.2.1.length:Int) 0 p0.1 p0.2.1 p0.2.2.1 p0.2.2.2.1 p0.2.2.2.2.1 p0.2.2.2.2.2.1 p0.2.2.2.2.2.2.1 p0.2.2.2.2.2.2.2.1 p0.2.2.2.2.2.2.2.2.1 p0.2.2.2.2.2.2.2.2.2.1 p0.2.2.2.2.2.2.2.2.2.2.1)))
def Se(p0:ABf):Option JH:=Vs (Gm Ac) (En Ac) p0
abbrev om:Type:=ABk×Unit
def Nf(p0:ADa):Option om:=
 (CG p0.1 1 31).bind fun u1=>
 cond (u1.1.1)
  ((CG p0.2.1 1 61).bind fun u2=>
  cond (u2.1.1)
   (some ((decide ((p0.2.2.1.length:Int)≤120),()),()))
  (some ((false,()),())))
 (some ((false,()),()))
abbrev SE:Type:=ABk×Unit
abbrev WG:Type:=Int→List Int→Int→AAa→List Int→AAX→Int→AAt→AA9→ABQ→AAl→Bool→Option SE
def RF(R4:WG)(t3:Int)(AM:AAG)(AE:Int)(Ab:AAa)(Cq:AAG)(DW:AAX)(AZ:Int)(DT:AAt)(DI:AA9)(Eb:ABQ)(EI:AAl)(AN:Bool):Option SE:=
 cond ((decide (t3<(EI.length:Int))))
  (if(0:Int)≤t3∧t3<(EI.length:Int)then(
  (Hn ((EI.getD (t3.toNat) (0,[],false,())).1)).bind fun u4=>
  cond (!u4.1.1)
   (some ((false,()),()))
  ((Cn ((EI.getD (t3.toNat) (0,[],false,())).1)).bind fun u6=>
  cond ((decide (u6.1.1>(DW.length:Int))))
   (some ((false,()),()))
  (cond ((decide ((((EI.getD (t3.toNat) (0,[],false,())).2.1).length:Int)>40)))
   (some ((false,()),()))
  (cond (decide (t3>0))
   (if(0:Int)≤AS (t3-1)∧AS (t3-1)<(EI.length:Int)then(
   cond (decide (((EI.getD ((AS (t3-1)).toNat) (0,[],false,())).1)≥((EI.getD (t3.toNat) (0,[],false,())).1)))
    (some ((false,()),()))
   (R4 (AS (t3+1)) AM AE Ab Cq DW AZ DT DI Eb EI AN))else none)
  (R4 (AS (t3+1)) AM AE Ab Cq DW AZ DT DI Eb EI AN)))))else none)
 (some ((true,()),()))
def KO:Nat→WG
 |0=>fun _ _ _ _ _ _ _ _ _ _ _ _=>none
 |n+1=>RF (KO n)
def YM(R4:WG)(p0:ABf):Option SE:=
 cond (decide ((p0.2.2.2.2.2.2.2.2.2.1.length:Int)>120))
  (some ((false,()),()))
 (R4 0 p0.1 p0.2.1 p0.2.2.1 p0.2.2.2.1 p0.2.2.2.2.1 p0.2.2.2.2.2.1 p0.2.2.2.2.2.2.1 p0.2.2.2.2.2.2.2.1 p0.2.2.2.2.2.2.2.2.1 p0.2.2.2.2.2.2.2.2.2.1 p0.2.2.2.2.2.2.2.2.2.2.1)
def W7(p0:ABf):Option SE:=YM (KO Ac) p0
abbrev rR:Type:=ABk×Unit
def Sa(p0:ABf):Option rR:=
 (Ur (p0.1,p0.2.1,p0.2.2.1,p0.2.2.2.1,p0.2.2.2.2.1,p0.2.2.2.2.2.1,p0.2.2.2.2.2.2.1,p0.2.2.2.2.2.2.2.1,p0.2.2.2.2.2.2.2.2.1,p0.2.2.2.2.2.2.2.2.2.1,p0.2.2.2.2.2.2.2.2.2.2.1,())).bind fun u1=>
 cond (u1.1.1)
  ((Se (p0.1,p0.2.1,p0.2.2.1,p0.2.2.2.1,p0.2.2.2.2.1,p0.2.2.2.2.2.1,p0.2.2.2.2.2.2.1,p0.2.2.2.2.2.2.2.1,p0.2.2.2.2.2.2.2.2.1,p0.2.2.2.2.2.2.2.2.2.1,p0.2.2.2.2.2.2.2.2.2.2.1,())).bind fun u2=>
  cond (u2.1.1)
   (cond ((p0.2.2.2.2.2.2.2.2.1.length:Int)==2)
    (if(0:Int)≤(0:Int)∧(0:Int)<(p0.2.2.2.2.2.2.2.2.1.length:Int)then(
    (Nf ((p0.2.2.2.2.2.2.2.2.1.getD 0 (0,0,[],())).1,(p0.2.2.2.2.2.2.2.2.1.getD 0 (0,0,[],())).2.1,(p0.2.2.2.2.2.2.2.2.1.getD 0 (0,0,[],())).2.2.1,())).bind fun u4=>
    cond (u4.1.1)
     (if(0:Int)≤(1:Int)∧(1:Int)<(p0.2.2.2.2.2.2.2.2.1.length:Int)then(
     (Nf ((p0.2.2.2.2.2.2.2.2.1.getD 1 (0,0,[],())).1,(p0.2.2.2.2.2.2.2.2.1.getD 1 (0,0,[],())).2.1,(p0.2.2.2.2.2.2.2.2.1.getD 1 (0,0,[],())).2.2.1,())).bind fun u5=>
     cond (u5.1.1)
      ((W7 (p0.1,p0.2.1,p0.2.2.1,p0.2.2.2.1,p0.2.2.2.2.1,p0.2.2.2.2.2.1,p0.2.2.2.2.2.2.1,p0.2.2.2.2.2.2.2.1,p0.2.2.2.2.2.2.2.2.1,p0.2.2.2.2.2.2.2.2.2.1,p0.2.2.2.2.2.2.2.2.2.2.1,())).bind fun u6=>
      some ((u6.1.1,()),()))
     (some ((false,()),())))else none)
    (some ((false,()),())))else none)
   (some ((false,()),())))
  (some ((false,()),())))
 (some ((false,()),()))
abbrev oc:Type:=AGl×Unit
def Zy(p0:ADW):Option oc:=
 cond (p0.1==1)
  (some (((p0.1,p0.2.1,0,0,[],()),()),()))
 (cond (p0.1==4)
  (some (((p0.1,p0.2.1,0,0,[],()),()),()))
 (cond (p0.1==6)
  (some (((p0.1,p0.2.1,0,0,[],()),()),()))
 (cond (p0.1==7)
  (some (((p0.1,p0.2.1,0,0,[],()),()),()))
 (cond (p0.1==9)
  (some (((p0.1,p0.2.1,0,0,[],()),()),()))
 (cond (p0.1==13)
  (some (((p0.1,p0.2.1,0,0,[],()),()),()))
 (cond (p0.1==15)
  (some (((p0.1,p0.2.1,0,0,[],()),()),()))
 (cond (p0.1==16)
  (some (((p0.1,p0.2.1,0,0,[],()),()),()))
 (cond (p0.1==2)
  (some (((p0.1,p0.2.1,0,0,p0.2.2.2.2.1,()),()),()))
 (cond (p0.1==3)
  (some (((p0.1,p0.2.1,p0.2.2.1,p0.2.2.2.1,[],()),()),()))
 (cond (p0.1==5)
  (some (((p0.1,p0.2.1,p0.2.2.1,0,[],()),()),()))
 (cond (p0.1==14)
  (some (((p0.1,p0.2.1,p0.2.2.1,0,[],()),()),()))
 (cond (p0.1==11)
  (some (((p0.1,0,p0.2.2.1,p0.2.2.2.1,[],()),()),()))
 (some (((p0.1,0,0,0,[],()),()),()))))))))))))))
abbrev sL:Type:=ABk×Unit
def Zp(p0:ADW):Option sL:=
 (CG p0.1 1 16).bind fun u1=>
 cond (u1.1.1)
  ((Zy (p0.1,p0.2.1,p0.2.2.1,p0.2.2.2.1,p0.2.2.2.2.1,())).bind fun u2=>
  cond (((p0.1==u2.1.1.1)&&((p0.2.1==u2.1.1.2.1)&&((p0.2.2.1==u2.1.1.2.2.1)&&((p0.2.2.2.1==u2.1.1.2.2.2.1)&&((p0.2.2.2.2.1==u2.1.1.2.2.2.2.1)&&true))))))
   (some ((decide ((p0.2.2.2.2.1.length:Int)≤40),()),()))
  (some ((false,()),())))
 (some ((false,()),()))
abbrev Fu:Type:=ADg×AD5
abbrev Xo:Type:=Int→AAX→Int→Int→AAX→Int→AAX→Option Fu
def ZK(R3:Xo)(t4:Int)(AM:AAX)(AE Ar:Int)(b2:AAX)(dy:Int)(b4:AAX):Option Fu:=
 cond ((decide (t4<(AM.length:Int))))
  (if(0:Int)≤t4∧t4<(AM.length:Int)then(
  if 0+((AM.getD (t4.toNat) ([],false,0,())).1).length≤DE then(
  if b4.length+1≤DE then(
  R3 (AS (t4+1)) AM AE Ar b2 dy (b4++[(((AM.getD (t4.toNat) ([],false,0,())).1),(AM.getD (t4.toNat) ([],false,0,())).2.1,(AM.getD (t4.toNat) ([],false,0,())).2.2.1,())]))else none)else none)else none)
 (some ((((),dy,()),()),(b4,())))
def Oj:Nat→Xo
 |0=>fun _ _ _ _ _ _ _=>none
 |n+1=>ZK (Oj n)
def ZL(R3:Xo)(p0:ACa):Option Fu:=
 R3 0 p0.1 p0.2.1 0 [] p0.2.1 []
def GW(p0:ACa):Option Fu:=ZL (Oj Ac) p0
abbrev LN:Type:=AEp×ADh
def Es(p0:ACn):Option LN:=
 if 0+p0.1.length≤DE then(
 if 0+p0.2.1.length≤DE then(
 some ((((),(),p0.2.2.1,()),()),(p0.1,p0.2.1,())))else none)else none
abbrev Fv:Type:=AE9×AD7
abbrev Yf:Type:=Int→Int→AB4→Int→AB4→Int→AB4→Option Fv
def Sc(R3:Yf)(t4 AM:Int)(AE:AB4)(BJ:Int)(b2:AB4)(ie:Int)(b4:AB4):Option Fv:=
 cond ((decide (t4<(AE.length:Int))))
  (if(0:Int)≤t4∧t4<(AE.length:Int)then(
  if 0+((AE.getD (t4.toNat) ([],[],false,())).2.1).length≤DE then(
  if b4.length+1≤DE then(
  R3 (AS (t4+1)) AM AE BJ b2 ie (b4++[((AE.getD (t4.toNat) ([],[],false,())).1,((AE.getD (t4.toNat) ([],[],false,())).2.1),(AE.getD (t4.toNat) ([],[],false,())).2.2.1,())]))else none)else none)else none)
 (some (((ie,(),()),()),(b4,())))
def Jg:Nat→Yf
 |0=>fun _ _ _ _ _ _ _=>none
 |n+1=>Sc (Jg n)
def Tj(R3:Yf)(p0:ACt):Option Fv:=
 R3 0 p0.1 p0.2.1 0 [] p0.1 []
def EX(p0:ACt):Option Fv:=Tj (Jg Ac) p0
abbrev Gk:Type:=AEO×ADi
abbrev X8:Type:=Int→Int→Int→List Int→AA2→Bool→List AAG→Int→Int→Bool→List Int→AA2→List AAG→Int→Int→Bool→List Int→AA2→List AAG→Option Gk
def Sj(R3:X8)(t4 AM AE:Int)(Ab:AAG)(Cq:AA2)(DW:Bool)(AZ:List AAG)(BJ Ar:Int)(M0:Bool)(b2:AAG)(b3:AA2)(b4:List AAG)(AFl ADl:Int)(AEP:Bool)(b6:AAG)(b7:AA2)(b8:List AAG):Option Gk:=
 cond ((decide (t4<(AZ.length:Int))))
  (if(0:Int)≤t4∧t4<(AZ.length:Int)then(
  if 0+(AZ.getD (t4.toNat) []).length≤DE then(
  if b8.length+1≤DE then(
  R3 (AS (t4+1)) AM AE Ab Cq DW AZ BJ Ar M0 b2 b3 b4 AFl ADl AEP b6 b7 (b8++[(AZ.getD (t4.toNat) [])]))else none)else none)else none)
 (some (((AFl,ADl,(),(),AEP,(),()),()),(b6,b7,b8,())))
def H9:Nat→X8
 |0=>fun _ _ _ _ _ _ _ _ _ _ _ _ _ _ _ _ _ _ _=>none
 |n+1=>Sj (H9 n)
def N_(R3:X8)(p0:ABe):Option Gk:=
 if 0+p0.2.2.1.length≤DE then(
 if 0+p0.2.2.2.1.length≤DE then(
 R3 0 p0.1 p0.2.1 p0.2.2.1 p0.2.2.2.1 p0.2.2.2.2.1 p0.2.2.2.2.2.1 0 0 false [] [] [] p0.1 p0.2.1 p0.2.2.2.2.1 p0.2.2.1 p0.2.2.2.1 [])else none)else none
def EW(p0:ABe):Option Gk:=N_ (H9 Ac) p0
abbrev JV:Type:=AFB×AFE
def CL(p0:ADa):Option JV:=
 if 0+p0.2.2.1.length≤DE then(
 some (((p0.1,p0.2.1,(),()),()),(p0.2.2.1,())))else none
abbrev Fz:Type:=AFn×ADd
abbrev KQ:Type:=Int→List Int→Int→AAa→List Int→AAX→Int→AAt→AA9→ABQ→AAl→Bool→Int→Int→Bool→List Int→AAa→List Int→AAX→AAt→AA9→ABQ→AAl→Int→Int→Bool→List Int→AAa→List Int→AAX→AAt→AA9→ABQ→AAl→Option Fz
abbrev KM:Type:=Int→List Int→Int→AAa→List Int→AAX→Int→AAt→AA9→ABQ→AAl→Bool→Int→Int→Bool→List Int→AAa→List Int→AAX→AAt→AA9→ABQ→AAl→Int→Int→Bool→List Int→AAa→List Int→AAX→AAt→AA9→ABQ→AAl→Option Fz
abbrev JR:Type:=Int→List Int→Int→AAa→List Int→AAX→Int→AAt→AA9→ABQ→AAl→Bool→Int→Int→Bool→List Int→AAa→List Int→AAX→AAt→AA9→ABQ→AAl→Int→Int→Bool→List Int→AAa→List Int→AAX→AAt→AA9→ABQ→AAl→Option Fz
abbrev JL:Type:=Int→List Int→Int→AAa→List Int→AAX→Int→AAt→AA9→ABQ→AAl→Bool→Int→Int→Bool→List Int→AAa→List Int→AAX→AAt→AA9→ABQ→AAl→Int→Int→Bool→List Int→AAa→List Int→AAX→AAt→AA9→ABQ→AAl→Option Fz
def RR(R3:KQ)(R7:KM)(td:JR)(jK:JL)(t4:Int)(AM:AAG)(AE:Int)(Ab:AAa)(Cq:AAG)(DW:AAX)(AZ:Int)(DT:AAt)(DI:AA9)(Eb:ABQ)(EI:AAl)(AN:Bool)(Ar Di:Int)(D4:Bool)(b2:AAG)(b3:AAa)(b4:AAG)(b5:AAX)(b6:AAt)(b7:AA9)(b8:ABQ)(b9:AAl)(Cr DJ:Int)(CB:Bool)(FC:AAG)(DR:AAa)(FV:AAG)(FU:AAX)(Dq:AAt)(EB:AA9)(EJ:ABQ)(QO:AAl):Option Fz:=
 cond ((decide (t4<(Ab.length:Int))))
  (if(0:Int)≤t4∧t4<(Ab.length:Int)then(
  (Es ((Ab.getD (t4.toNat) ([],[],0,())).1,(Ab.getD (t4.toNat) ([],[],0,())).2.1,(Ab.getD (t4.toNat) ([],[],0,())).2.2.1,())).bind fun z7=>
  if DR.length+1≤DE then(
  R3 (AS (t4+1)) AM AE Ab Cq DW AZ DT DI Eb EI AN Ar Di D4 b2 b3 b4 b5 b6 b7 b8 b9 Cr DJ CB FC (DR++[(z7.2.1,z7.2.2.1,z7.1.1.2.2.1,())]) FV FU Dq EB EJ QO)else none)else none)
 (R7 0 AM AE Ab Cq DW AZ DT DI Eb EI AN Ar Di D4 b2 b3 b4 b5 b6 b7 b8 b9 Cr DJ CB FC DR FV FU Dq EB EJ QO)
def RU(R3:KQ)(R7:KM)(td:JR)(jK:JL)(t5:Int)(AM:AAG)(AE:Int)(Ab:AAa)(Cq:AAG)(DW:AAX)(AZ:Int)(DT:AAt)(DI:AA9)(Eb:ABQ)(EI:AAl)(AN:Bool)(Ar Di:Int)(D4:Bool)(b2:AAG)(b3:AAa)(b4:AAG)(b5:AAX)(b6:AAt)(b7:AA9)(b8:ABQ)(b9:AAl)(Cr DJ:Int)(CB:Bool)(FC:AAG)(DR:AAa)(FV:AAG)(FU:AAX)(Dq:AAt)(EB:AA9)(EJ:ABQ)(QO:AAl):Option Fz:=
 cond ((decide (t5<(DT.length:Int))))
  (if(0:Int)≤t5∧t5<(DT.length:Int)then(
  (EX ((DT.getD (t5.toNat) (0,[],())).1,(DT.getD (t5.toNat) (0,[],())).2.1,())).bind fun AD8=>
  if Dq.length+1≤DE then(
  R7 (AS (t5+1)) AM AE Ab Cq DW AZ DT DI Eb EI AN Ar Di D4 b2 b3 b4 b5 b6 b7 b8 b9 Cr DJ CB FC DR FV FU (Dq++[(AD8.1.1.1,AD8.2.1,())]) EB EJ QO)else none)else none)
 (td 0 AM AE Ab Cq DW AZ DT DI Eb EI AN Ar Di D4 b2 b3 b4 b5 b6 b7 b8 b9 Cr DJ CB FC DR FV FU Dq EB EJ QO)
def QM(R3:KQ)(R7:KM)(td:JR)(jK:JL)(t6:Int)(AM:AAG)(AE:Int)(Ab:AAa)(Cq:AAG)(DW:AAX)(AZ:Int)(DT:AAt)(DI:AA9)(Eb:ABQ)(EI:AAl)(AN:Bool)(Ar Di:Int)(D4:Bool)(b2:AAG)(b3:AAa)(b4:AAG)(b5:AAX)(b6:AAt)(b7:AA9)(b8:ABQ)(b9:AAl)(Cr DJ:Int)(CB:Bool)(FC:AAG)(DR:AAa)(FV:AAG)(FU:AAX)(Dq:AAt)(EB:AA9)(EJ:ABQ)(QO:AAl):Option Fz:=
 cond ((decide (t6<(DI.length:Int))))
  (if(0:Int)≤t6∧t6<(DI.length:Int)then(
  (EW ((DI.getD (t6.toNat) (0,0,[],[],false,[],())).1,(DI.getD (t6.toNat) (0,0,[],[],false,[],())).2.1,(DI.getD (t6.toNat) (0,0,[],[],false,[],())).2.2.1,(DI.getD (t6.toNat) (0,0,[],[],false,[],())).2.2.2.1,(DI.getD (t6.toNat) (0,0,[],[],false,[],())).2.2.2.2.1,(DI.getD (t6.toNat) (0,0,[],[],false,[],())).2.2.2.2.2.1,())).bind fun mK=>
  if EB.length+1≤DE then(
  td (AS (t6+1)) AM AE Ab Cq DW AZ DT DI Eb EI AN Ar Di D4 b2 b3 b4 b5 b6 b7 b8 b9 Cr DJ CB FC DR FV FU Dq (EB++[(mK.1.1.1,mK.1.1.2.1,mK.2.1,mK.2.2.1,mK.1.1.2.2.2.2.1,mK.2.2.2.1,())]) EJ QO)else none)else none)
 (jK 0 AM AE Ab Cq DW AZ DT DI Eb EI AN Ar Di D4 b2 b3 b4 b5 b6 b7 b8 b9 Cr DJ CB FC DR FV FU Dq EB EJ QO)
def QK(R3:KQ)(R7:KM)(td:JR)(jK:JL)(t7:Int)(AM:AAG)(AE:Int)(Ab:AAa)(Cq:AAG)(DW:AAX)(AZ:Int)(DT:AAt)(DI:AA9)(Eb:ABQ)(EI:AAl)(AN:Bool)(Ar Di:Int)(D4:Bool)(b2:AAG)(b3:AAa)(b4:AAG)(b5:AAX)(b6:AAt)(b7:AA9)(b8:ABQ)(b9:AAl)(Cr DJ:Int)(CB:Bool)(FC:AAG)(DR:AAa)(FV:AAG)(FU:AAX)(Dq:AAt)(EB:AA9)(EJ:ABQ)(QO:AAl):Option Fz:=
 cond ((decide (t7<(Eb.length:Int))))
  (if(0:Int)≤t7∧t7<(Eb.length:Int)then(
  (CL ((Eb.getD (t7.toNat) (0,0,[],())).1,(Eb.getD (t7.toNat) (0,0,[],())).2.1,(Eb.getD (t7.toNat) (0,0,[],())).2.2.1,())).bind fun ya=>
  if EJ.length+1≤DE then(
  jK (AS (t7+1)) AM AE Ab Cq DW AZ DT DI Eb EI AN Ar Di D4 b2 b3 b4 b5 b6 b7 b8 b9 Cr DJ CB FC DR FV FU Dq EB (EJ++[(ya.1.1.1,ya.1.1.2.1,ya.2.1,())]) QO)else none)else none)
 (some ((((),Cr,(),(),(),DJ,(),(),(),(),CB,()),()),(FC,DR,FV,FU,Dq,EB,EJ,QO,())))
mutual
def CZ:Nat→KQ
 |0=>fun _ _ _ _ _ _ _ _ _ _ _ _ _ _ _ _ _ _ _ _ _ _ _ _ _ _ _ _ _ _ _ _ _ _=>none
 |n+1=>RR (CZ n) (Co n) (CV n) (CU n)
def Co:Nat→KM
 |0=>fun _ _ _ _ _ _ _ _ _ _ _ _ _ _ _ _ _ _ _ _ _ _ _ _ _ _ _ _ _ _ _ _ _ _=>none
 |n+1=>RU (CZ n) (Co n) (CV n) (CU n)
def CV:Nat→JR
 |0=>fun _ _ _ _ _ _ _ _ _ _ _ _ _ _ _ _ _ _ _ _ _ _ _ _ _ _ _ _ _ _ _ _ _ _=>none
 |n+1=>QM (CZ n) (Co n) (CV n) (CU n)
def CU:Nat→JL
 |0=>fun _ _ _ _ _ _ _ _ _ _ _ _ _ _ _ _ _ _ _ _ _ _ _ _ _ _ _ _ _ _ _ _ _ _=>none
 |n+1=>QK (CZ n) (Co n) (CV n) (CU n)
end
def RW(R3:KQ)(R7:KM)(td:JR)(jK:JL)(p0:ABf):Option Fz:=
 if 0+p0.1.length≤DE then(
 if 0+p0.2.2.2.1.length≤DE then(
 (GW (p0.2.2.2.2.1,p0.2.2.2.2.2.1,())).bind fun u2=>
 if 0+p0.2.2.2.2.2.2.2.2.2.1.length≤DE then(
 R3 0 p0.1 p0.2.1 p0.2.2.1 p0.2.2.2.1 p0.2.2.2.2.1 p0.2.2.2.2.2.1 p0.2.2.2.2.2.2.1 p0.2.2.2.2.2.2.2.1 p0.2.2.2.2.2.2.2.2.1 p0.2.2.2.2.2.2.2.2.2.1 p0.2.2.2.2.2.2.2.2.2.2.1 0 0 false [] [] [] [] [] [] [] [] p0.2.1 u2.1.1.2.1 p0.2.2.2.2.2.2.2.2.2.2.1 p0.1 [] p0.2.2.2.1 u2.2.1 [] [] [] p0.2.2.2.2.2.2.2.2.2.1)else none)else none)else none
def Kn(p0:ABf):Option Fz:=RW (CZ Ac) (Co Ac) (CV Ac) (CU Ac) p0
abbrev Pd:Type:=ACx×ADA
abbrev Sz:Type:=Int→Int→List Int→Option Pd
def PG(R3:Sz)(t0 t4:Int)(b0:AAG):Option Pd:=
 cond (decide (t4<8))
  ((CG t0 0 255).bind fun u1=>
  cond (u1.1.1)
   (if t4<0 then none else(
   cond (((dk .i64 (t0.fdiv (2^(min t4.toNat 64))) 1)==1))
    (if b0.length+1≤DE then(
    R3 t0 (AS (t4+1)) (b0++[t4]))else none)
   (R3 t0 (AS (t4+1)) b0)))
  (some (((),()),(b0,()))))
 (some (((),()),(b0,())))
def IM:Nat→Sz
 |0=>fun _ _ _=>none
 |n+1=>PG (IM n)
def Vr(R3:Sz)(p0:Int):Option Pd:=
 R3 p0 0 []
def PS(p0:Int):Option Pd:=Vr (IM Ac) p0
abbrev rS:Type:=(AIY×Unit)×AD5
def Mr(p0:ABU)(p1:ACa)(p2:AAG):Option rS:=
 (NH (p0.1,p0.2.1,()) (p1.1,p1.2.1,())).bind fun u1=>
 cond (!u1.1.1)
  (some (((((),0,()),0,false,()),()),([],())))
 ((GW (p1.1,p1.2.1,())).bind fun u2=>
 (Ey (p0.1,p0.2.1,()) p2).bind fun u3=>
 cond (!u3.1.1)
  (some (((((),u2.1.1.2.1,()),0,false,()),()),(u2.2.1,())))
 (cond (((p1.1.length:Int)==30))
  (some (((((),u2.1.1.2.1,()),0,false,()),()),(u2.2.1,())))
 (if 0+p2.length≤DE then(
 if u2.2.1.length+1≤DE then(
 let x5:AAX:=u2.2.1++[(p2,false,0,())]
 some (((((),u2.1.1.2.1,()),(x5.length:Int),true,()),()),(x5,())))else none)else none)))
abbrev fJ:Type:=ADe×(List Int×AAa×List Int×Unit×Unit×Unit×ABQ×AAl×AAX×AAt×AA9×Unit)
def XS(CI CM:Int)(BS:Bool)(p1:ADW)(b0:AAG)(b1:AAa)(b2:AAG)(b3:AAX)(b4:AAt)(b5:AA9)(b6:ABQ)(b7:AAl):Option fJ:=
 cond (((b4.length:Int)==4))
  (some (((((),CI,(),(),(),CM,(),(),(),(),BS,()),4,()),()),(b0,b1,b2,(),(),(),b6,b7,b3,b4,b5,())))
 ((PS p1.2.1).bind fun u2=>
 (Mr (b0,CI,()) (b3,CM,()) u2.2.1).bind fun u3=>
 cond (!u3.1.1.2.2.1)
  (some (((((),CI,(),(),(),CM,(),(),(),(),BS,()),4,()),()),(b0,b1,b2,(),(),(),b6,b7,b3,b4,b5,())))
 (if b4.length+1≤DE then(
 some (((((),CI,(),(),(),u3.1.1.1.2.1,(),(),(),(),BS,()),0,()),()),(b0,b1,b2,(),(),(),b6,b7,u3.2.1,(b4++[(u3.1.1.2.1,[],())]),[],())))else none))
abbrev l4:Type:=ABk×Unit
def L4(p0:ABf)(p1:Int):Option l4:=
 (CG p1 0 (AS ((p0.2.2.2.2.2.2.1.length:Int)-1))).bind fun u2=>
 some ((u2.1.1,()),())
abbrev lH:Type:=(AIZ×Unit)×AD7
def G3(p0:ABU)(p1:ACt)(p2:ABp):Option lH:=
 (Hm (p0.1,p0.2.1,()) (p1.1,p1.2.1,())).bind fun u1=>
 cond (!u1.1.1)
  (some ((((0,(),()),0,false,()),()),([],())))
 ((EX (p1.1,p1.2.1,())).bind fun u2=>
 if u2.2.1.length+1≤DE then(
 let x3:AB4:=u2.2.1++[(p2,[],false,())]
 (Hm (p0.1,p0.2.1,()) (u2.1.1.1,x3,())).bind fun u4=>
 cond (!u4.1.1)
  ((EX (p1.1,p1.2.1,())).bind fun u5=>
  some ((((u5.1.1.1,(),()),0,false,()),()),(u5.2.1,())))
 (some ((((u2.1.1.1,(),()),(x3.length:Int),true,()),()),(x3,()))))else none)
abbrev H_:Type:=AB5×Unit
def CN(p0 p1:Int):Option H_:=
 some ((AS ((AS (4294967296*p0))+p1),()),())
abbrev LO:Type:=ADe×(List Int×AAa×List Int×AAX×AAt×AA9×ABQ×Unit×AAl×Unit)
abbrev TJ:Type:=Int→List Int→AAa→List Int→AAX→AAt→AA9→ABQ→AAl→Int→Int→Bool→Int→Int→Bool→List Int→AAa→List Int→AAX→AAt→AA9→ABQ→AAl→Int→List UInt8→Bool→Option LO
abbrev Qz:Type:=Bool→Int→List Int→AAa→List Int→AAX→AAt→AA9→ABQ→AAl→Int→Int→Bool→Int→Int→Bool→List Int→AAa→List Int→AAX→AAt→AA9→ABQ→AAl→Int→List UInt8→Bool→AAl→Option LO
def Zl(R9:TJ)(R16:Qz)(t10:Int)(b0:AAG)(b1:AAa)(b2:AAG)(b3:AAX)(b4:AAt)(b5:AA9)(b6:ABQ)(b7:AAl)(Dh Dz:Int)(CH:Bool)(Dr FM:Int)(Cl:Bool)(Mf:AAG)(FC:AAa)(DR:AAG)(FV:AAX)(FU:AAt)(Dq:AA9)(EB:ABQ)(EJ:AAl)(Cc:Int)(C4:ABp)(Ci:Bool):Option LO:=
 cond ((decide (t10<(b7.length:Int))))
  (if(0:Int)≤t10∧t10<(b7.length:Int)then(
  cond (((b7.getD (t10.toNat) (0,[],false,())).1)==Cc)
   (some (((((),Dh,(),(),(),Dz,(),(),(),(),CH,()),4,()),()),(b0,b1,b2,b3,b4,b5,b6,(),b7,())))
  (R9 (AS (t10+1)) b0 b1 b2 b3 b4 b5 b6 b7 Dh Dz CH Dr FM Cl Mf FC DR FV FU Dq EB EJ Cc C4 Ci))else none)
 (R16 false 0 b0 b1 b2 b3 b4 b5 b6 b7 Dh Dz CH Dr FM Cl Mf FC DR FV FU Dq EB EJ Cc C4 Ci [])
def YI(R9:TJ)(R16:Qz)(t12:Bool)(t13:Int)(b0:AAG)(b1:AAa)(b2:AAG)(b3:AAX)(b4:AAt)(b5:AA9)(b6:ABQ)(b7:AAl)(Dh Dz:Int)(CH:Bool)(Dr FM:Int)(Cl:Bool)(Mf:AAG)(FC:AAa)(DR:AAG)(FV:AAX)(FU:AAt)(Dq:AA9)(EB:ABQ)(EJ:AAl)(Cc:Int)(C4:ABp)(Ci:Bool)(uv:AAl):Option LO:=
 cond ((decide (t13<(b7.length:Int))))
  (cond (!t12)
   (if(0:Int)≤t13∧t13<(b7.length:Int)then(
   cond (decide (((b7.getD (t13.toNat) (0,[],false,())).1)>Cc))
    (if uv.length+1≤DE then(
    let x18:AAl:=uv++[(Cc,C4,Ci,())]
    if(0:Int)≤t13∧t13<(b7.length:Int)then(
    if x18.length+1≤DE then(
    R16 true (AS (t13+1)) b0 b1 b2 b3 b4 b5 b6 b7 Dh Dz CH Dr FM Cl Mf FC DR FV FU Dq EB EJ Cc C4 Ci (x18++[((b7.getD (t13.toNat) (0,[],false,())).1,(b7.getD (t13.toNat) (0,[],false,())).2.1,(b7.getD (t13.toNat) (0,[],false,())).2.2.1,())]))else none)else none)else none)
   (if(0:Int)≤t13∧t13<(b7.length:Int)then(
   if uv.length+1≤DE then(
   R16 t12 (AS (t13+1)) b0 b1 b2 b3 b4 b5 b6 b7 Dh Dz CH Dr FM Cl Mf FC DR FV FU Dq EB EJ Cc C4 Ci (uv++[((b7.getD (t13.toNat) (0,[],false,())).1,(b7.getD (t13.toNat) (0,[],false,())).2.1,(b7.getD (t13.toNat) (0,[],false,())).2.2.1,())]))else none)else none))else none)
  (if(0:Int)≤t13∧t13<(b7.length:Int)then(
  if uv.length+1≤DE then(
  R16 t12 (AS (t13+1)) b0 b1 b2 b3 b4 b5 b6 b7 Dh Dz CH Dr FM Cl Mf FC DR FV FU Dq EB EJ Cc C4 Ci (uv++[((b7.getD (t13.toNat) (0,[],false,())).1,(b7.getD (t13.toNat) (0,[],false,())).2.1,(b7.getD (t13.toNat) (0,[],false,())).2.2.1,())]))else none)else none))
 (cond (!t12)
  (if uv.length+1≤DE then(
  some (((((),Dh,(),(),(),Dz,(),(),(),(),CH,()),0,()),()),(b0,b1,b2,b3,b4,b5,b6,(),(uv++[(Cc,C4,Ci,())]),())))else none)
 (some (((((),Dh,(),(),(),Dz,(),(),(),(),CH,()),0,()),()),(b0,b1,b2,b3,b4,b5,b6,(),uv,()))))
mutual
def MY:Nat→TJ
 |0=>fun _ _ _ _ _ _ _ _ _ _ _ _ _ _ _ _ _ _ _ _ _ _ _ _ _ _=>none
 |n+1=>Zl (MY n) (KU n)
def KU:Nat→Qz
 |0=>fun _ _ _ _ _ _ _ _ _ _ _ _ _ _ _ _ _ _ _ _ _ _ _ _ _ _ _ _=>none
 |n+1=>YI (MY n) (KU n)
end
def ZT(R9:TJ)(R16:Qz)(CI CM:Int)(BS:Bool)(p1:ADW)(b0:AAG)(b1:AAa)(b2:AAG)(b3:AAX)(b4:AAt)(b5:AA9)(b6:ABQ)(b7:AAl):Option LO:=
 (L4 (b0,CI,b1,b2,b3,CM,b4,b5,b6,b7,BS,()) p1.2.1).bind fun u1=>
 cond (!u1.1.1)
  (some (((((),CI,(),(),(),CM,(),(),(),(),BS,()),2,()),()),(b0,b1,b2,b3,b4,b5,b6,(),b7,())))
 (if(0:Int)≤p1.2.1∧p1.2.1<(b4.length:Int)then(
 (G3 (b0,CI,()) ((b4.getD (p1.2.1.toNat) (0,[],())).1,(b4.getD (p1.2.1.toNat) (0,[],())).2.1,()) p1.2.2.2.2.1).bind fun u2=>
 cond (!u2.1.1.2.2.1)
  (some (((((),CI,(),(),(),CM,(),(),(),(),BS,()),4,()),()),(b0,b1,b2,b3,b4,b5,b6,(),b7,())))
 (cond (((b7.length:Int)==120))
  (some (((((),CI,(),(),(),CM,(),(),(),(),BS,()),4,()),()),(b0,b1,b2,b3,b4,b5,b6,(),b7,())))
 (if(0:Int)≤p1.2.1∧p1.2.1<(b4.length:Int)then(
 (CN u2.1.1.1.1 u2.1.1.2.1).bind fun u5=>
 R9 0 b0 b1 b2 b3 (b4.set (p1.2.1.toNat) (u2.1.1.1.1,u2.2.1,())) b5 b6 b7 CI CM BS 0 0 false [] [] [] [] [] [] [] [] u5.1.1 p1.2.2.2.2.1 false)else none)))else none)
def Zj(CI CM:Int)(BS:Bool)(p1:ADW)(b0:AAG)(b1:AAa)(b2:AAG)(b3:AAX)(b4:AAt)(b5:AA9)(b6:ABQ)(b7:AAl):Option LO:=ZT (MY Ac) (KU Ac) CI CM BS p1 b0 b1 b2 b3 b4 b5 b6 b7
abbrev pf:Type:=AB5×Unit
def Hj(p0:ABf)(p1:Int):Option pf:=
 (CG p1 0 (AS ((p0.2.2.1.length:Int)-1))).bind fun u2=>
 cond (!u2.1.1)
  (some ((2,()),()))
 ((Cz p0.2.2.2.1 p1).bind fun u3=>
 cond (u3.1.1)
  (some ((3,()),()))
 (some ((0,()),())))
abbrev r9:Type:=ABk×Unit
def W0(p0:ACn)(p1:ADZ):Option r9:=
 cond (p1.2.1==0)
  ((Cn p1.1).bind fun u1=>
  some (((decide (u1.1.1>p0.2.2.1)),()),()))
 (some (((decide (p1.2.1>p0.2.2.1)),()),()))
abbrev oR:Type:=ADj×ADh
def Nl(p0:ACn)(p1:ADZ):Option oR:=
 (G4 (p0.1,p0.2.1,p0.2.2.1,())).bind fun u1=>
 cond (!u1.1.1)
  (some (((((),(),0,()),false,()),()),([],[],())))
 ((Es (p0.1,p0.2.1,p0.2.2.1,())).bind fun u2=>
 (Mz (p1.1,p1.2.1,p1.2.2.1,p1.2.2.2.1,())).bind fun u3=>
 cond (!u3.1.1)
  (some (((((),(),u2.1.1.2.2.1,()),false,()),()),(u2.2.1,u2.2.2.1,())))
 ((W0 (p0.1,p0.2.1,p0.2.2.1,()) (p1.1,p1.2.1,p1.2.2.1,p1.2.2.2.1,())).bind fun u4=>
 cond (!u4.1.1)
  (some (((((),(),u2.1.1.2.2.1,()),false,()),()),(u2.2.1,u2.2.2.1,())))
 (cond ((p0.2.1.length:Int)==20)
  (some (((((),(),u2.1.1.2.2.1,()),false,()),()),(u2.2.1,u2.2.2.1,())))
 (if u2.2.2.1.length+1≤DE then(
 some (((((),(),u2.1.1.2.2.1,()),true,()),()),(u2.2.1,(u2.2.2.1++[(p1.1,p1.2.1,p1.2.2.1,p1.2.2.2.1,())]),())))else none))))
abbrev dW:Type:=ADe×ADd
def Uu(CI CM:Int)(BS:Bool)(p1:ADW)(b0:AAG)(b1:AAa)(b2:AAG)(b3:AAX)(b4:AAt)(b5:AA9)(b6:ABQ)(b7:AAl):Option dW:=
 (L4 (b0,CI,b1,b2,b3,CM,b4,b5,b6,b7,BS,()) p1.2.1).bind fun u1=>
 cond (!u1.1.1)
  (some (((((),CI,(),(),(),CM,(),(),(),(),BS,()),2,()),()),(b0,b1,b2,b3,b4,b5,b6,b7,())))
 (if(0:Int)≤p1.2.1∧p1.2.1<(b4.length:Int)then(
 (CG p1.2.2.1 1 (((b4.getD (p1.2.1.toNat) (0,[],())).2.1).length:Int)).bind fun u3=>
 cond (!u3.1.1)
  (some (((((),CI,(),(),(),CM,(),(),(),(),BS,()),2,()),()),(b0,b1,b2,b3,b4,b5,b6,b7,())))
 ((Hj (b0,CI,b1,b2,b3,CM,b4,b5,b6,b7,BS,()) p1.2.2.2.1).bind fun u4=>
 cond (u4.1.1 !=0)
  (some (((((),CI,(),(),(),CM,(),(),(),(),BS,()),u4.1.1,()),()),(b0,b1,b2,b3,b4,b5,b6,b7,())))
 ((CK (b3,CM,()) ((b4.getD (p1.2.1.toNat) (0,[],())).1)).bind fun u6=>
 (Cz u6.2.1 p1.2.2.2.1).bind fun u7=>
 cond (!u7.1.1)
  (some (((((),CI,(),(),(),CM,(),(),(),(),BS,()),2,()),()),(b0,b1,b2,b3,b4,b5,b6,b7,())))
 (if(0:Int)≤p1.2.2.2.1∧p1.2.2.2.1<(b1.length:Int)then(
 if(0:Int)≤AS (p1.2.2.1-1)∧AS (p1.2.2.1-1)<(((b4.getD (p1.2.1.toNat) (0,[],())).2.1).length:Int)then(
 (CN ((b4.getD (p1.2.1.toNat) (0,[],())).1) p1.2.2.1).bind fun D9=>
 (Nl ((b1.getD (p1.2.2.2.1.toNat) ([],[],0,())).1,(b1.getD (p1.2.2.2.1.toNat) ([],[],0,())).2.1,(b1.getD (p1.2.2.2.1.toNat) ([],[],0,())).2.2.1,()) (D9.1.1,0,false,((((b4.getD (p1.2.1.toNat) (0,[],())).2.1).getD ((AS (p1.2.2.1-1)).toNat) ([],[],false,())).1),())).bind fun Kg=>
 cond (!Kg.1.1.2.1)
  (some (((((),CI,(),(),(),CM,(),(),(),(),BS,()),4,()),()),(b0,b1,b2,b3,b4,b5,b6,b7,())))
 (if(0:Int)≤p1.2.2.2.1∧p1.2.2.2.1<(b1.length:Int)then(
 some (((((),CI,(),(),(),CM,(),(),(),(),BS,()),0,()),()),(b0,(b1.set (p1.2.2.2.1.toNat) (Kg.2.1,Kg.2.2.1,Kg.1.1.1.2.2.1,())),b2,b3,b4,b5,b6,b7,())))else none))else none)else none))))else none)
abbrev su:Type:=AGk×Unit
def SA(p0 p1:ADZ):Option su:=
 cond ((decide (p1.2.1>p0.2.1)))
  (some (((p1.1,p1.2.1,p1.2.2.1,p1.2.2.2.1,()),()),()))
 (some (((p0.1,p0.2.1,p0.2.2.1,p0.2.2.2.1,()),()),()))
abbrev Us:Type:=ACx×AE1
abbrev YP:Type:=AA2→Bool→Int→Int→Int→Bool→List UInt8→AA2→Option Us
def TM(R4:YP)(t0:AA2)(t6:Bool)(t7 AM AE:Int)(Ab:Bool)(Cq:ABp)(b1:AA2):Option Us:=
 cond ((decide (t7<(t0.length:Int))))
  (cond (!t6)
   (if(0:Int)≤t7∧t7<(t0.length:Int)then(
   cond (((t0.getD (t7.toNat) (0,0,false,[],())).1)==AM)
    (if(0:Int)≤t7∧t7<(t0.length:Int)then(
    (SA ((t0.getD (t7.toNat) (0,0,false,[],())).1,(t0.getD (t7.toNat) (0,0,false,[],())).2.1,(t0.getD (t7.toNat) (0,0,false,[],())).2.2.1,(t0.getD (t7.toNat) (0,0,false,[],())).2.2.2.1,()) (AM,AE,Ab,Cq,())).bind fun u3=>
    if b1.length+1≤DE then(
    R4 t0 true (AS (t7+1)) AM AE Ab Cq (b1++[(u3.1.1.1,u3.1.1.2.1,u3.1.1.2.2.1,u3.1.1.2.2.2.1,())]))else none)else none)
   (cond (!t6)
    (if(0:Int)≤t7∧t7<(t0.length:Int)then(
    cond (decide (((t0.getD (t7.toNat) (0,0,false,[],())).1)>AM))
     (if b1.length+1≤DE then(
     let x6:AA2:=b1++[(AM,AE,Ab,Cq,())]
     if(0:Int)≤t7∧t7<(t0.length:Int)then(
     if x6.length+1≤DE then(
     R4 t0 true (AS (t7+1)) AM AE Ab Cq (x6++[((t0.getD (t7.toNat) (0,0,false,[],())).1,(t0.getD (t7.toNat) (0,0,false,[],())).2.1,(t0.getD (t7.toNat) (0,0,false,[],())).2.2.1,(t0.getD (t7.toNat) (0,0,false,[],())).2.2.2.1,())]))else none)else none)else none)
    (if(0:Int)≤t7∧t7<(t0.length:Int)then(
    if b1.length+1≤DE then(
    R4 t0 t6 (AS (t7+1)) AM AE Ab Cq (b1++[((t0.getD (t7.toNat) (0,0,false,[],())).1,(t0.getD (t7.toNat) (0,0,false,[],())).2.1,(t0.getD (t7.toNat) (0,0,false,[],())).2.2.1,(t0.getD (t7.toNat) (0,0,false,[],())).2.2.2.1,())]))else none)else none))else none)
   (if(0:Int)≤t7∧t7<(t0.length:Int)then(
   if b1.length+1≤DE then(
   R4 t0 t6 (AS (t7+1)) AM AE Ab Cq (b1++[((t0.getD (t7.toNat) (0,0,false,[],())).1,(t0.getD (t7.toNat) (0,0,false,[],())).2.1,(t0.getD (t7.toNat) (0,0,false,[],())).2.2.1,(t0.getD (t7.toNat) (0,0,false,[],())).2.2.2.1,())]))else none)else none)))else none)
  (cond (!t6)
   (if(0:Int)≤t7∧t7<(t0.length:Int)then(
   cond (decide (((t0.getD (t7.toNat) (0,0,false,[],())).1)>AM))
    (if b1.length+1≤DE then(
    let cv:AA2:=b1++[(AM,AE,Ab,Cq,())]
    if(0:Int)≤t7∧t7<(t0.length:Int)then(
    if cv.length+1≤DE then(
    R4 t0 true (AS (t7+1)) AM AE Ab Cq (cv++[((t0.getD (t7.toNat) (0,0,false,[],())).1,(t0.getD (t7.toNat) (0,0,false,[],())).2.1,(t0.getD (t7.toNat) (0,0,false,[],())).2.2.1,(t0.getD (t7.toNat) (0,0,false,[],())).2.2.2.1,())]))else none)else none)else none)
   (if(0:Int)≤t7∧t7<(t0.length:Int)then(
   if b1.length+1≤DE then(
   R4 t0 t6 (AS (t7+1)) AM AE Ab Cq (b1++[((t0.getD (t7.toNat) (0,0,false,[],())).1,(t0.getD (t7.toNat) (0,0,false,[],())).2.1,(t0.getD (t7.toNat) (0,0,false,[],())).2.2.1,(t0.getD (t7.toNat) (0,0,false,[],())).2.2.2.1,())]))else none)else none))else none)
  (if(0:Int)≤t7∧t7<(t0.length:Int)then(
  if b1.length+1≤DE then(
  R4 t0 t6 (AS (t7+1)) AM AE Ab Cq (b1++[((t0.getD (t7.toNat) (0,0,false,[],())).1,(t0.getD (t7.toNat) (0,0,false,[],())).2.1,(t0.getD (t7.toNat) (0,0,false,[],())).2.2.1,(t0.getD (t7.toNat) (0,0,false,[],())).2.2.2.1,())]))else none)else none)))
 (cond (!t6)
  (if b1.length+1≤DE then(
  some (((),()),((b1++[(AM,AE,Ab,Cq,())]),())))else none)
 (some (((),()),(b1,()))))
def Jm:Nat→YP
 |0=>fun _ _ _ _ _ _ _ _=>none
 |n+1=>TM (Jm n)
def Yw(R4:YP)(p0:AA2)(p1:ADZ):Option Us:=
 R4 p0 false 0 p1.1 p1.2.1 p1.2.2.1 p1.2.2.2.1 []
def Rz(p0:AA2)(p1:ADZ):Option Us:=Yw (Jm Ac) p0 p1
abbrev OO:Type:=ADj×ADh
abbrev RE:Type:=Int→Int→AA2→AA2→Int→Int→AA2→AA2→Int→AA2→AA2→Option OO
def Tw(R5:RE)(t1 t7:Int)(AM AE:AA2)(Ab DK:Int)(b2 b3:AA2)(Ml:Int)(b5 b6:AA2):Option OO:=
 cond ((decide (t7<(AE.length:Int))))
  (if t7<0 then none else(
  cond (((dk .i64 (t1.fdiv (2^(min t7.toNat 64))) 1)==1))
   (if(0:Int)≤t7∧t7<(AE.length:Int)then(
   (Rz b5 ((AE.getD (t7.toNat) (0,0,false,[],())).1,(AE.getD (t7.toNat) (0,0,false,[],())).2.1,(AE.getD (t7.toNat) (0,0,false,[],())).2.2.1,(AE.getD (t7.toNat) (0,0,false,[],())).2.2.2.1,())).bind fun u5=>
   R5 t1 (AS (t7+1)) AM AE Ab DK b2 b3 Ml u5.2.1 b6)else none)
  (R5 t1 (AS (t7+1)) AM AE Ab DK b2 b3 Ml b5 b6)))
 ((CG t1 0 1048575).bind fun u6=>
 cond (!u6.1.1)
  ((Es (AM,AE,Ab,())).bind fun u7=>
  some (((((),(),u7.1.1.2.2.1,()),false,()),()),(u7.2.1,u7.2.2.1,())))
 (cond ((decide ((b5.length:Int)>200)))
  ((Es (AM,AE,Ab,())).bind fun u9=>
  some (((((),(),u9.1.1.2.2.1,()),false,()),()),(u9.2.1,u9.2.2.1,())))
 (some (((((),(),Ml,()),true,()),()),(b5,b6,())))))
def Jc:Nat→RE
 |0=>fun _ _ _ _ _ _ _ _ _ _ _=>none
 |n+1=>Tw (Jc n)
def T0(R5:RE)(p0:ACn)(p1:Int):Option OO:=
 (G4 (p0.1,p0.2.1,p0.2.2.1,())).bind fun u1=>
 cond (!u1.1.1)
  (some (((((),(),0,()),false,()),()),([],[],())))
 (if 0+p0.1.length≤DE then(
 R5 p1 0 p0.1 p0.2.1 p0.2.2.1 0 [] [] p0.2.2.1 p0.1 [])else none)
def NJ(p0:ACn)(p1:Int):Option OO:=T0 (Jc Ac) p0 p1
abbrev mi:Type:=ADj×ADh
def Jv(p0:ACn):Option mi:=
 (NJ (p0.1,p0.2.1,p0.2.2.1,()) 1048575).bind fun u1=>
 some (((((),(),u1.1.1.1.2.2.1,()),u1.1.1.2.1,()),()),(u1.2.1,u1.2.2.1,()))
abbrev Gp:Type:=AF_×Unit
abbrev Z0:Type:=AA2→Int→Int→Int→Int→Bool→List UInt8→Option Gp
def bY(R2:Z0)(t0:AA2)(t1 t6 AM AE:Int)(Ab:Bool)(Cq:ABp):Option Gp:=
 cond ((decide (t6<(t0.length:Int))))
  (if(0:Int)≤t6∧t6<(t0.length:Int)then(
  cond (((t0.getD (t6.toNat) (0,0,false,[],())).1)==t1)
   (if(0:Int)≤t6∧t6<(t0.length:Int)then(
   some (((((t0.getD (t6.toNat) (0,0,false,[],())).1,(t0.getD (t6.toNat) (0,0,false,[],())).2.1,(t0.getD (t6.toNat) (0,0,false,[],())).2.2.1,(t0.getD (t6.toNat) (0,0,false,[],())).2.2.2.1,()),true,()),()),()))else none)
  (R2 t0 t1 (AS (t6+1)) AM AE Ab Cq))else none)
 (some ((((0,0,false,[],()),false,()),()),()))
def Qd:Nat→Z0
 |0=>fun _ _ _ _ _ _ _=>none
 |n+1=>bY (Qd n)
def ba(R2:Z0)(p0:AA2)(p1:Int):Option Gp:=
 R2 p0 p1 0 0 0 false []
def He(p0:AA2)(p1:Int):Option Gp:=ba (Qd Ac) p0 p1
abbrev GK:Type:=AGg×AD7
def Dv(p0:ABU)(p1:ACt)(p2 p3:Int):Option GK:=
 (Hm (p0.1,p0.2.1,()) (p1.1,p1.2.1,())).bind fun u1=>
 cond (!u1.1.1)
  (some ((((0,(),()),false,()),()),([],())))
 ((EX (p1.1,p1.2.1,())).bind fun u2=>
 (CG p2 1 (p1.2.1.length:Int)).bind fun u4=>
 cond (!u4.1.1)
  (some ((((u2.1.1.1,(),()),false,()),()),(u2.2.1,())))
 ((CG p3 0 (AS ((p0.1.length:Int)-1))).bind fun u6=>
 cond (!u6.1.1)
  (some ((((u2.1.1.1,(),()),false,()),()),(u2.2.1,())))
 (if(0:Int)≤AS (p2-1)∧AS (p2-1)<(p1.2.1.length:Int)then(
 cond (((p1.2.1.getD ((AS (p2-1)).toNat) ([],[],false,())).2.2.1))
  (some ((((u2.1.1.1,(),()),false,()),()),(u2.2.1,())))
 (if(0:Int)≤AS (p2-1)∧AS (p2-1)<(u2.2.1.length:Int)then(
 (Ib ((u2.2.1.getD ((AS (p2-1)).toNat) ([],[],false,())).2.1) p3).bind fun u8=>
 if(0:Int)≤AS (p2-1)∧AS (p2-1)<(u2.2.1.length:Int)then(
 let x9:AB4:=(u2.2.1.set ((AS (p2-1)).toNat) ((u2.2.1.getD ((AS (p2-1)).toNat) ([],[],false,())).1,u8.2.1,(u2.2.1.getD ((AS (p2-1)).toNat) ([],[],false,())).2.2.1,()))
 if(0:Int)≤AS (p2-1)∧AS (p2-1)<(x9.length:Int)then(
 (Ey (p0.1,p0.2.1,()) ((x9.getD ((AS (p2-1)).toNat) ([],[],false,())).2.1)).bind fun D9=>
 if(0:Int)≤AS (p2-1)∧AS (p2-1)<(x9.length:Int)then(
 some ((((u2.1.1.1,(),()),true,()),()),((x9.set ((AS (p2-1)).toNat) ((x9.getD ((AS (p2-1)).toNat) ([],[],false,())).1,(x9.getD ((AS (p2-1)).toNat) ([],[],false,())).2.1,D9.1.1,())),())))else none)else none)else none)else none))else none)))
abbrev mF:Type:=AEy×Unit
def TU(p0 p1:Int):Option mF:=
 (CG p0 1 30).bind fun u1=>
 cond (!u1.1.1)
  (some (((0,false,()),()),()))
 ((CG p1 1 60).bind fun u2=>
 cond (!u2.1.1)
  (some (((0,false,()),()),()))
 (some (((AS ((AS (4294967296*p0))+p1),true,()),()),())))
abbrev GZ:Type:=AF_×Unit
def Eo(p0:ABe)(p1:Int):Option GZ:=
 (TU p0.2.1 p1).bind fun u1=>
 cond (!p0.2.2.2.2.1)
  (some ((((0,0,false,[],()),false,()),()),()))
 (cond (!u1.1.1.2.1)
  (some ((((0,0,false,[],()),false,()),()),()))
 (cond (decide (p1>(p0.2.2.2.2.2.1.length:Int)))
  (some ((((0,0,false,[],()),false,()),()),()))
 ((He p0.2.2.2.1 u1.1.1.1).bind fun u3=>
 cond (u3.1.1.2.1)
  (some ((((u1.1.1.1,p0.1,u3.1.1.1.2.2.1,u3.1.1.1.2.2.2.1,()),true,()),()),()))
 (some ((((u1.1.1.1,p0.1,true,[],()),true,()),()),())))))
abbrev Dt:Type:=AEj×ADi
def Eg(p0:ABU)(p1:ABe)(p2 p3:Int):Option Dt:=
 (JC (p0.1,p0.2.1,()) (p1.1,p1.2.1,p1.2.2.1,p1.2.2.2.1,p1.2.2.2.2.1,p1.2.2.2.2.2.1,())).bind fun u1=>
 cond (!u1.1.1)
  (some ((((0,0,(),(),false,(),()),false,()),()),([],[],[],())))
 ((EW (p1.1,p1.2.1,p1.2.2.1,p1.2.2.2.1,p1.2.2.2.2.1,p1.2.2.2.2.2.1,())).bind fun u2=>
 (CG p2 1 (p1.2.2.2.2.2.1.length:Int)).bind fun u4=>
 cond (!u4.1.1)
  (some ((((u2.1.1.1,u2.1.1.2.1,(),(),u2.1.1.2.2.2.2.1,(),()),false,()),()),(u2.2.1,u2.2.2.1,u2.2.2.2.1,())))
 ((CG p3 0 (AS ((p0.1.length:Int)-1))).bind fun u6=>
 cond (!u6.1.1)
  (some ((((u2.1.1.1,u2.1.1.2.1,(),(),u2.1.1.2.2.2.2.1,(),()),false,()),()),(u2.2.1,u2.2.2.1,u2.2.2.2.1,())))
 (if(0:Int)≤AS (p2-1)∧AS (p2-1)<(u2.2.2.2.1.length:Int)then(
 (Ib (u2.2.2.2.1.getD ((AS (p2-1)).toNat) []) p3).bind fun u7=>
 if(0:Int)≤AS (p2-1)∧AS (p2-1)<(u2.2.2.2.1.length:Int)then(
 some ((((u2.1.1.1,u2.1.1.2.1,(),(),u2.1.1.2.2.2.2.1,(),()),true,()),()),(u2.2.1,u2.2.2.1,(u2.2.2.2.1.set ((AS (p2-1)).toNat) u7.2.1),())))else none)else none)))
abbrev Bw:Type:=AFn×ADd
abbrev Ic:Type:=Int→Int→List Int→AAa→List Int→AAX→AAt→AA9→ABQ→AAl→Int→Int→Bool→Int→Int→Bool→List Int→AAa→List Int→AAX→AAt→AA9→ABQ→AAl→AA2→AA2→Int→Option Bw
abbrev Ia:Type:=Int→Int→Int→Int→Int→Bool→List Int→AAa→List Int→AAX→AAt→AA9→ABQ→AAl→Int→Int→Bool→Int→Int→Bool→List Int→AAa→List Int→AAX→AAt→AA9→ABQ→AAl→AA2→AA2→Int→Int→AB4→Option Bw
abbrev HY:Type:=Int→Int→Int→Int→Int→Bool→List Int→AAa→List Int→AAX→AAt→AA9→ABQ→AAl→Int→Int→Bool→Int→Int→Bool→List Int→AAa→List Int→AAX→AAt→AA9→ABQ→AAl→AA2→AA2→Int→Int→AB4→Option Bw
abbrev Ha:Type:=Int→Int→List Int→AAa→List Int→AAX→AAt→AA9→ABQ→AAl→Int→Int→Bool→Int→Int→Bool→List Int→AAa→List Int→AAX→AAt→AA9→ABQ→AAl→AA2→AA2→Int→Option Bw
abbrev HQ:Type:=Int→Int→Int→List Int→AAa→List Int→AAX→AAt→AA9→ABQ→AAl→Int→Int→Bool→Int→Int→Bool→List Int→AAa→List Int→AAX→AAt→AA9→ABQ→AAl→AA2→AA2→Int→Int→Int→List Int→AA2→Bool→List AAG→Option Bw
def Mv(R3:Ic)(R8:Ia)(jK:HY)(R21:Ha)(R25:HQ)(t1 t6:Int)(b0:AAG)(b1:AAa)(b2:AAG)(b3:AAX)(b4:AAt)(b5:AA9)(b6:ABQ)(b7:AAl)(Dh Dz:Int)(CH:Bool)(Dr FM:Int)(Cl:Bool)(Mf:AAG)(FC:AAa)(DR:AAG)(FV:AAX)(FU:AAt)(Dq:AA9)(EB:ABQ)(EJ:AAl)(Cc C4:AA2)(Ci:Int):Option Bw:=
 cond ((decide (t6<(b4.length:Int))))
  (if(0:Int)≤t6∧t6<(b4.length:Int)then(
  (CK (b3,Dz,()) ((b4.getD (t6.toNat) (0,[],())).1)).bind fun u3=>
  (Cz u3.2.1 t1).bind fun u4=>
  cond (!u4.1.1)
   (R3 t1 (AS (t6+1)) b0 b1 b2 b3 b4 b5 b6 b7 Dh Dz CH Dr FM Cl Mf FC DR FV FU Dq EB EJ Cc C4 Ci)
  (let x5:Int:=(b4.getD (t6.toNat) (0,[],())).1
  cond (decide (Ci≥x5))
   (R3 t1 (AS (t6+1)) b0 b1 b2 b3 b4 b5 b6 b7 Dh Dz CH Dr FM Cl Mf FC DR FV FU Dq EB EJ Cc C4 Ci)
  (R8 t1 t6 1 Ci x5 (decide (Ci≥x5)) b0 b1 b2 b3 b4 b5 b6 b7 Dh Dz CH Dr FM Cl Mf FC DR FV FU Dq EB EJ Cc C4 Ci ((b4.getD (t6.toNat) (0,[],())).1) ((b4.getD (t6.toNat) (0,[],())).2.1))))else none)
 (R21 t1 0 b0 b1 b2 b3 b4 b5 b6 b7 Dh Dz CH Dr FM Cl Mf FC DR FV FU Dq EB EJ Cc C4 Ci)
def Mw(R3:Ic)(R8:Ia)(jK:HY)(R21:Ha)(R25:HQ)(t1 t6 t8 t47 t49:Int)(t50:Bool)(b0:AAG)(b1:AAa)(b2:AAG)(b3:AAX)(b4:AAt)(b5:AA9)(b6:ABQ)(b7:AAl)(Dh Dz:Int)(CH:Bool)(Dr FM:Int)(Cl:Bool)(Mf:AAG)(FC:AAa)(DR:AAG)(FV:AAX)(FU:AAt)(Dq:AA9)(EB:ABQ)(EJ:AAl)(Cc C4:AA2)(Ci DQ:Int)(CC:AB4):Option Bw:=
 cond ((decide (t8≤(CC.length:Int))))
  ((CN DQ t8).bind fun u7=>
  (He Cc u7.1.1).bind fun u8=>
  cond (!u8.1.1.2.1)
   (R8 t1 t6 (AS (t8+1)) t47 t49 t50 b0 b1 b2 b3 b4 b5 b6 b7 Dh Dz CH Dr FM Cl Mf FC DR FV FU Dq EB EJ Cc C4 Ci DQ CC)
  (cond (u8.1.1.1.2.1 !=0)
   (R8 t1 t6 (AS (t8+1)) t47 t49 t50 b0 b1 b2 b3 b4 b5 b6 b7 Dh Dz CH Dr FM Cl Mf FC DR FV FU Dq EB EJ Cc C4 Ci DQ CC)
  (if(0:Int)≤AS (t8-1)∧AS (t8-1)<(CC.length:Int)then(
  cond (((CC.getD ((AS (t8-1)).toNat) ([],[],false,())).2.2.1))
   (R8 t1 t6 (AS (t8+1)) t47 t49 t50 b0 b1 b2 b3 b4 b5 b6 b7 Dh Dz CH Dr FM Cl Mf FC DR FV FU Dq EB EJ Cc C4 Ci DQ CC)
  ((Dv (b0,Dh,()) (DQ,CC,()) t8 t1).bind fun D9=>
  R8 t1 t6 (AS (t8+1)) t47 t49 t50 b0 b1 b2 b3 b4 b5 b6 b7 Dh Dz CH Dr FM Cl Mf FC DR FV FU Dq EB EJ Cc C4 Ci D9.1.1.1.1 D9.2.1))else none)))
 (if(0:Int)≤t6∧t6<(b4.length:Int)then(
 jK t1 t6 0 t47 t49 t50 b0 b1 b2 b3 (b4.set (t6.toNat) (DQ,CC,())) b5 b6 b7 Dh Dz CH Dr FM Cl Mf FC DR FV FU Dq EB EJ Cc C4 Ci DQ CC)else none)
def LX(R3:Ic)(R8:Ia)(jK:HY)(R21:Ha)(R25:HQ)(t1 t6 t11 t47 t49:Int)(t50:Bool)(b0:AAG)(b1:AAa)(b2:AAG)(b3:AAX)(b4:AAt)(b5:AA9)(b6:ABQ)(b7:AAl)(Dh Dz:Int)(CH:Bool)(Dr FM:Int)(Cl:Bool)(Mf:AAG)(FC:AAa)(DR:AAG)(FV:AAX)(FU:AAt)(Dq:AA9)(EB:ABQ)(EJ:AAl)(Cc C4:AA2)(Ci DQ:Int)(CC:AB4):Option Bw:=
 cond ((decide (t11<(b7.length:Int))))
  (if(0:Int)≤t11∧t11<(b7.length:Int)then(
  let x65:Int:=(b7.getD (t11.toNat) (0,[],false,())).1
  (Cn x65).bind fun u66=>
  cond (u66.1.1==DQ)
   ((HU x65).bind fun u67=>
   cond ((decide (u67.1.1≤(CC.length:Int))))
    ((HU x65).bind fun u69=>
    if(0:Int)≤AS (u69.1.1-1)∧AS (u69.1.1-1)<(CC.length:Int)then(
    cond (((CC.getD ((AS (u69.1.1-1)).toNat) ([],[],false,())).2.2.1))
     (if(0:Int)≤t11∧t11<(b7.length:Int)then(
     jK t1 t6 (AS (t11+1)) t47 t49 t50 b0 b1 b2 b3 b4 b5 b6 (b7.set (t11.toNat) ((b7.getD (t11.toNat) (0,[],false,())).1,(b7.getD (t11.toNat) (0,[],false,())).2.1,true,())) Dh Dz CH Dr FM Cl Mf FC DR FV FU Dq EB EJ Cc C4 Ci DQ CC)else none)
    (jK t1 t6 (AS (t11+1)) t47 t49 t50 b0 b1 b2 b3 b4 b5 b6 b7 Dh Dz CH Dr FM Cl Mf FC DR FV FU Dq EB EJ Cc C4 Ci DQ CC))else none)
   (jK t1 t6 (AS (t11+1)) t47 t49 t50 b0 b1 b2 b3 b4 b5 b6 b7 Dh Dz CH Dr FM Cl Mf FC DR FV FU Dq EB EJ Cc C4 Ci DQ CC))
  (jK t1 t6 (AS (t11+1)) t47 t49 t50 b0 b1 b2 b3 b4 b5 b6 b7 Dh Dz CH Dr FM Cl Mf FC DR FV FU Dq EB EJ Cc C4 Ci DQ CC))else none)
 (R3 t1 (AS (t6+1)) b0 b1 b2 b3 b4 b5 b6 b7 Dh Dz CH Dr FM Cl Mf FC DR FV FU Dq EB EJ Cc C4 Ci)
def Lj(R3:Ic)(R8:Ia)(jK:HY)(R21:Ha)(R25:HQ)(t1 t13:Int)(b0:AAG)(b1:AAa)(b2:AAG)(b3:AAX)(b4:AAt)(b5:AA9)(b6:ABQ)(b7:AAl)(Dh Dz:Int)(CH:Bool)(Dr FM:Int)(Cl:Bool)(Mf:AAG)(FC:AAa)(DR:AAG)(FV:AAX)(FU:AAt)(Dq:AA9)(EB:ABQ)(EJ:AAl)(Cc C4:AA2)(Ci:Int):Option Bw:=
 cond ((decide (t13<(b5.length:Int))))
  (if(0:Int)≤t13∧t13<(b5.length:Int)then(
  R25 t1 t13 1 b0 b1 b2 b3 b4 b5 b6 b7 Dh Dz CH Dr FM Cl Mf FC DR FV FU Dq EB EJ Cc C4 Ci ((b5.getD (t13.toNat) (0,0,[],[],false,[],())).1) ((b5.getD (t13.toNat) (0,0,[],[],false,[],())).2.1) ((b5.getD (t13.toNat) (0,0,[],[],false,[],())).2.2.1) ((b5.getD (t13.toNat) (0,0,[],[],false,[],())).2.2.2.1) ((b5.getD (t13.toNat) (0,0,[],[],false,[],())).2.2.2.2.1) ((b5.getD (t13.toNat) (0,0,[],[],false,[],())).2.2.2.2.2.1))else none)
 (some ((((),Dh,(),(),(),Dz,(),(),(),(),CH,()),()),(b0,b1,b2,b3,b4,b5,b6,b7,())))
def Il(R3:Ic)(R8:Ia)(jK:HY)(R21:Ha)(R25:HQ)(t1 t13 t15:Int)(b0:AAG)(b1:AAa)(b2:AAG)(b3:AAX)(b4:AAt)(b5:AA9)(b6:ABQ)(b7:AAl)(Dh Dz:Int)(CH:Bool)(Dr FM:Int)(Cl:Bool)(Mf:AAG)(FC:AAa)(DR:AAG)(FV:AAX)(FU:AAt)(Dq:AA9)(EB:ABQ)(EJ:AAl)(Cc C4:AA2)(Ci DQ CC:Int)(aq:AAG)(a_:AA2)(aj:Bool)(VJ:List AAG):Option Bw:=
 if(0:Int)≤t13∧t13<(b5.length:Int)then(
 cond (decide (t15≤(((b5.getD (t13.toNat) (0,0,[],[],false,[],())).2.2.2.2.2.1).length:Int)))
  ((CK (b3,Dz,()) CC).bind fun u74=>
  (Cz u74.2.1 t1).bind fun u75=>
  cond (u75.1.1)
   ((Eo (DQ,CC,aq,a_,aj,VJ,()) t15).bind fun u76=>
   (He Cc u76.1.1.1.1).bind fun u77=>
   cond (u77.1.1.2.1)
    (cond (((u77.1.1.1.1==u76.1.1.1.1)&&((u77.1.1.1.2.1==u76.1.1.1.2.1)&&((u77.1.1.1.2.2.1==u76.1.1.1.2.2.1)&&((u77.1.1.1.2.2.2.1==u76.1.1.1.2.2.2.1)&&true)))))
     ((Eg (b0,Dh,()) (DQ,CC,aq,a_,aj,VJ,()) t15 t1).bind fun u79=>
     R25 t1 t13 (AS (t15+1)) b0 b1 b2 b3 b4 b5 b6 b7 Dh Dz CH Dr FM Cl Mf FC DR FV FU Dq EB EJ Cc C4 Ci u79.1.1.1.1 u79.1.1.1.2.1 u79.2.1 u79.2.2.1 u79.1.1.1.2.2.2.2.1 u79.2.2.2.1)
    (R25 t1 t13 (AS (t15+1)) b0 b1 b2 b3 b4 b5 b6 b7 Dh Dz CH Dr FM Cl Mf FC DR FV FU Dq EB EJ Cc C4 Ci DQ CC aq a_ aj VJ))
   (R25 t1 t13 (AS (t15+1)) b0 b1 b2 b3 b4 b5 b6 b7 Dh Dz CH Dr FM Cl Mf FC DR FV FU Dq EB EJ Cc C4 Ci DQ CC aq a_ aj VJ))
  (if(0:Int)≤t13∧t13<(b5.length:Int)then(
  R21 t1 (AS (t13+1)) b0 b1 b2 b3 b4 (b5.set (t13.toNat) (DQ,CC,aq,a_,aj,VJ,())) b6 b7 Dh Dz CH Dr FM Cl Mf FC DR FV FU Dq EB EJ Cc C4 Ci)else none))
 (if(0:Int)≤t13∧t13<(b5.length:Int)then(
 R21 t1 (AS (t13+1)) b0 b1 b2 b3 b4 (b5.set (t13.toNat) (DQ,CC,aq,a_,aj,VJ,())) b6 b7 Dh Dz CH Dr FM Cl Mf FC DR FV FU Dq EB EJ Cc C4 Ci)else none))else none
mutual
def Be:Nat→Ic
 |0=>fun _ _ _ _ _ _ _ _ _ _ _ _ _ _ _ _ _ _ _ _ _ _ _ _ _ _ _=>none
 |n+1=>Mv (Be n) (BB n) (BD n) (Bi n) (Bc n)
def BB:Nat→Ia
 |0=>fun _ _ _ _ _ _ _ _ _ _ _ _ _ _ _ _ _ _ _ _ _ _ _ _ _ _ _ _ _ _ _ _ _=>none
 |n+1=>Mw (Be n) (BB n) (BD n) (Bi n) (Bc n)
def BD:Nat→HY
 |0=>fun _ _ _ _ _ _ _ _ _ _ _ _ _ _ _ _ _ _ _ _ _ _ _ _ _ _ _ _ _ _ _ _ _=>none
 |n+1=>LX (Be n) (BB n) (BD n) (Bi n) (Bc n)
def Bi:Nat→Ha
 |0=>fun _ _ _ _ _ _ _ _ _ _ _ _ _ _ _ _ _ _ _ _ _ _ _ _ _ _ _=>none
 |n+1=>Lj (Be n) (BB n) (BD n) (Bi n) (Bc n)
def Bc:Nat→HQ
 |0=>fun _ _ _ _ _ _ _ _ _ _ _ _ _ _ _ _ _ _ _ _ _ _ _ _ _ _ _ _ _ _ _ _ _ _=>none
 |n+1=>Il (Be n) (BB n) (BD n) (Bi n) (Bc n)
end
def Q5(R3:Ic)(R8:Ia)(jK:HY)(R21:Ha)(R25:HQ)(CI CM:Int)(BS:Bool)(p1:Int)(b0:AAG)(b1:AAa)(b2:AAG)(b3:AAX)(b4:AAt)(b5:AA9)(b6:ABQ)(b7:AAl):Option Bw:=
 if(0:Int)≤p1∧p1<(b1.length:Int)then(
 R3 p1 0 b0 b1 b2 b3 b4 b5 b6 b7 CI CM BS 0 0 false [] [] [] [] [] [] [] [] ((b1.getD (p1.toNat) ([],[],0,())).1) ((b1.getD (p1.toNat) ([],[],0,())).2.1) ((b1.getD (p1.toNat) ([],[],0,())).2.2.1))else none
def Wz(CI CM:Int)(BS:Bool)(p1:Int)(b0:AAG)(b1:AAa)(b2:AAG)(b3:AAX)(b4:AAt)(b5:AA9)(b6:ABQ)(b7:AAl):Option Bw:=Q5 (Be Ac) (BB Ac) (BD Ac) (Bi Ac) (Bc Ac) CI CM BS p1 b0 b1 b2 b3 b4 b5 b6 b7
abbrev qb:Type:=ADe×ADd
def XA(CI CM:Int)(BS:Bool)(p1:ADW)(b0:AAG)(b1:AAa)(b2:AAG)(b3:AAX)(b4:AAt)(b5:AA9)(b6:ABQ)(b7:AAl):Option qb:=
 (Hj (b0,CI,b1,b2,b3,CM,b4,b5,b6,b7,BS,()) p1.2.1).bind fun u1=>
 cond (u1.1.1 !=0)
  (some (((((),CI,(),(),(),CM,(),(),(),(),BS,()),u1.1.1,()),()),(b0,b1,b2,b3,b4,b5,b6,b7,())))
 (if(0:Int)≤p1.2.1∧p1.2.1<(b1.length:Int)then(
 (Jv ((b1.getD (p1.2.1.toNat) ([],[],0,())).1,(b1.getD (p1.2.1.toNat) ([],[],0,())).2.1,(b1.getD (p1.2.1.toNat) ([],[],0,())).2.2.1,())).bind fun u2=>
 cond (!u2.1.1.2.1)
  (some (((((),CI,(),(),(),CM,(),(),(),(),BS,()),4,()),()),(b0,b1,b2,b3,b4,b5,b6,b7,())))
 (if(0:Int)≤p1.2.1∧p1.2.1<(b1.length:Int)then(
 (Wz CI CM BS p1.2.1 b0 (b1.set (p1.2.1.toNat) (u2.2.1,u2.2.2.1,u2.1.1.1.2.2.1,())) b2 b3 b4 b5 b6 b7).bind fun u4=>
 some (((((),u4.1.1.2.1,(),(),(),u4.1.1.2.2.2.2.2.1,(),(),(),(),u4.1.1.2.2.2.2.2.2.2.2.2.2.1,()),0,()),()),(u4.2.1,u4.2.2.1,u4.2.2.2.1,u4.2.2.2.2.1,u4.2.2.2.2.2.1,u4.2.2.2.2.2.2.1,u4.2.2.2.2.2.2.2.1,u4.2.2.2.2.2.2.2.2.1,())))else none))else none)
abbrev U9:Type:=ACx×ADA
abbrev Xj:Type:=List Int→List Int→Int→List Int→Option U9
def ZH(R3:Xj)(t0 t1:AAG)(t6:Int)(b0:AAG):Option U9:=
 cond ((decide (t6<(t0.length:Int))))
  (if(0:Int)≤t6∧t6<(t0.length:Int)then(
  (Cz t1 (t0.getD (t6.toNat) 0)).bind fun u3=>
  cond (!u3.1.1)
   (if(0:Int)≤t6∧t6<(t0.length:Int)then(
   if b0.length+1≤DE then(
   R3 t0 t1 (AS (t6+1)) (b0++[(t0.getD (t6.toNat) 0)]))else none)else none)
  (R3 t0 t1 (AS (t6+1)) b0))else none)
 (some (((),()),(b0,())))
def Om:Nat→Xj
 |0=>fun _ _ _ _=>none
 |n+1=>ZH (Om n)
def ZP(R3:Xj)(p0 p1:AAG):Option U9:=
 R3 p0 p1 0 []
def H7(p0 p1:AAG):Option U9:=ZP (Om Ac) p0 p1
abbrev Lb:Type:=AGg×AD7
abbrev Og:Type:=Int→Int→Int→AB4→Int→AB4→Option Lb
def RY(R5:Og)(t2 t9 AM:Int)(b1:AB4)(It:Int)(b3:AB4):Option Lb:=
 cond ((decide (t9<(b3.length:Int))))
  (if(0:Int)≤t9∧t9<(b3.length:Int)then(
  cond (!((b3.getD (t9.toNat) ([],[],false,())).2.2.1))
   (if(0:Int)≤t9∧t9<(b3.length:Int)then(
   (H7 ((b3.getD (t9.toNat) ([],[],false,())).2.1) [t2]).bind fun u5=>
   if(0:Int)≤t9∧t9<(b3.length:Int)then(
   R5 t2 (AS (t9+1)) AM b1 It (b3.set (t9.toNat) ((b3.getD (t9.toNat) ([],[],false,())).1,u5.2.1,(b3.getD (t9.toNat) ([],[],false,())).2.2.1,())))else none)else none)
  (R5 t2 (AS (t9+1)) AM b1 It b3))else none)
 (some ((((It,(),()),true,()),()),(b3,())))
def Ht:Nat→Og
 |0=>fun _ _ _ _ _ _=>none
 |n+1=>RY (Ht n)
def RZ(R5:Og)(p0:ABU)(p1:ACt)(p2:Int):Option Lb:=
 (Hm (p0.1,p0.2.1,()) (p1.1,p1.2.1,())).bind fun u1=>
 cond (!u1.1.1)
  (some ((((0,(),()),false,()),()),([],())))
 ((EX (p1.1,p1.2.1,())).bind fun u2=>
 R5 p2 0 0 [] u2.1.1.1 u2.2.1)
def OG(p0:ABU)(p1:ACt)(p2:Int):Option Lb:=RZ (Ht Ac) p0 p1 p2
abbrev OC:Type:=AEj×ADi
abbrev RT:Type:=Int→Int→Int→Int→Bool→List Int→AA2→List AAG→Int→Int→Bool→List Int→AA2→List AAG→Option OC
def T6(R5:RT)(t2 t9 AM AE:Int)(DW:Bool)(b1:AAG)(b2:AA2)(b3:List AAG)(jx fu:Int)(xM:Bool)(b5:AAG)(b6:AA2)(b7:List AAG):Option OC:=
 cond ((decide (t9<(b7.length:Int))))
  (if(0:Int)≤t9∧t9<(b7.length:Int)then(
  (H7 (b7.getD (t9.toNat) []) [t2]).bind fun u4=>
  if(0:Int)≤t9∧t9<(b7.length:Int)then(
  R5 t2 (AS (t9+1)) AM AE DW b1 b2 b3 jx fu xM b5 b6 (b7.set (t9.toNat) u4.2.1))else none)else none)
 (some ((((jx,fu,(),(),xM,(),()),true,()),()),(b5,b6,b7,())))
def Ji:Nat→RT
 |0=>fun _ _ _ _ _ _ _ _ _ _ _ _ _ _=>none
 |n+1=>T6 (Ji n)
def Tr(R5:RT)(p0:ABU)(p1:ABe)(p2:Int):Option OC:=
 (JC (p0.1,p0.2.1,()) (p1.1,p1.2.1,p1.2.2.1,p1.2.2.2.1,p1.2.2.2.2.1,p1.2.2.2.2.2.1,())).bind fun u1=>
 cond (!u1.1.1)
  (some ((((0,0,(),(),false,(),()),false,()),()),([],[],[],())))
 ((EW (p1.1,p1.2.1,p1.2.2.1,p1.2.2.2.1,p1.2.2.2.2.1,p1.2.2.2.2.2.1,())).bind fun u2=>
 R5 p2 0 0 0 false [] [] [] u2.1.1.1 u2.1.1.2.1 u2.1.1.2.2.2.2.1 u2.2.1 u2.2.2.1 u2.2.2.2.1)
def Qp(p0:ABU)(p1:ABe)(p2:Int):Option OC:=Tr (Ji Ac) p0 p1 p2
abbrev JW:Type:=ADe×AJp
abbrev Qo:Type:=Int→List Int→AAa→List Int→AAX→AAt→AA9→ABQ→AAl→Int→Int→Bool→List Int→Int→Int→Int→Int→List UInt8→Int→Int→Bool→List Int→AAa→List Int→AAX→AAt→AA9→ABQ→AAl→Option JW
abbrev Py:Type:=Int→List Int→AAa→List Int→AAX→AAt→AA9→ABQ→AAl→Int→Int→Bool→List Int→Int→Int→Int→Int→List UInt8→Int→Int→Bool→List Int→AAa→List Int→AAX→AAt→AA9→ABQ→AAl→Option JW
def YW(R7:Qo)(td:Py)(t7:Int)(b0:AAG)(b1:AAa)(b2:AAG)(b3:AAX)(b4:AAt)(b5:AA9)(b6:ABQ)(b7:AAl)(Dh Dz:Int)(CH:Bool)(b9:AAG)(AA8 Cr AAe AAq:Int)(AAm:ABp)(ABB AAf:Int)(vt:Bool)(DR:AAG)(FV:AAa)(FU:AAG)(Dq:AAX)(EB:AAt)(EJ:AA9)(QO:ABQ)(uv:AAl):Option JW:=
 cond ((decide (t7<(b4.length:Int))))
  (if(0:Int)≤t7∧t7<(b4.length:Int)then(
  (OG (b0,Dh,()) ((b4.getD (t7.toNat) (0,[],())).1,(b4.getD (t7.toNat) (0,[],())).2.1,()) Cr).bind fun u5=>
  if(0:Int)≤t7∧t7<(b4.length:Int)then(
  R7 (AS (t7+1)) b0 b1 b2 b3 (b4.set (t7.toNat) (u5.1.1.1.1,u5.2.1,())) b5 b6 b7 Dh Dz CH b9 AA8 Cr AAe AAq AAm ABB AAf vt DR FV FU Dq EB EJ QO uv)else none)else none)
 (td 0 b0 b1 b2 b3 b4 b5 b6 b7 Dh Dz CH b9 AA8 Cr AAe AAq AAm ABB AAf vt DR FV FU Dq EB EJ QO uv)
def Wi(R7:Qo)(td:Py)(t8:Int)(b0:AAG)(b1:AAa)(b2:AAG)(b3:AAX)(b4:AAt)(b5:AA9)(b6:ABQ)(b7:AAl)(Dh Dz:Int)(CH:Bool)(b9:AAG)(AA8 Cr AAe AAq:Int)(AAm:ABp)(ABB AAf:Int)(vt:Bool)(DR:AAG)(FV:AAa)(FU:AAG)(Dq:AAX)(EB:AAt)(EJ:AA9)(QO:ABQ)(uv:AAl):Option JW:=
 cond ((decide (t8<(b5.length:Int))))
  (if(0:Int)≤t8∧t8<(b5.length:Int)then(
  (Qp (b0,Dh,()) ((b5.getD (t8.toNat) (0,0,[],[],false,[],())).1,(b5.getD (t8.toNat) (0,0,[],[],false,[],())).2.1,(b5.getD (t8.toNat) (0,0,[],[],false,[],())).2.2.1,(b5.getD (t8.toNat) (0,0,[],[],false,[],())).2.2.2.1,(b5.getD (t8.toNat) (0,0,[],[],false,[],())).2.2.2.2.1,(b5.getD (t8.toNat) (0,0,[],[],false,[],())).2.2.2.2.2.1,()) Cr).bind fun u8=>
  if(0:Int)≤t8∧t8<(b5.length:Int)then(
  td (AS (t8+1)) b0 b1 b2 b3 b4 (b5.set (t8.toNat) (u8.1.1.1.1,u8.1.1.1.2.1,u8.2.1,u8.2.2.1,u8.1.1.1.2.2.2.2.1,u8.2.2.2.1,())) b6 b7 Dh Dz CH b9 AA8 Cr AAe AAq AAm ABB AAf vt DR FV FU Dq EB EJ QO uv)else none)else none)
 (cond (CH)
  (some (((((),Dh,(),(),(),Dz,(),(),(),(),true,()),0,()),()),(b0,b1,(),b3,b4,b5,b6,b7,b9,())))
 ((Ey (b0,Dh,()) b9).bind fun D9=>
 some (((((),Dh,(),(),(),Dz,(),(),(),(),D9.1.1,()),0,()),()),(b0,b1,(),b3,b4,b5,b6,b7,b9,()))))
mutual
def KI:Nat→Qo
 |0=>fun _ _ _ _ _ _ _ _ _ _ _ _ _ _ _ _ _ _ _ _ _ _ _ _ _ _ _ _ _=>none
 |n+1=>YW (KI n) (JQ n)
def JQ:Nat→Py
 |0=>fun _ _ _ _ _ _ _ _ _ _ _ _ _ _ _ _ _ _ _ _ _ _ _ _ _ _ _ _ _=>none
 |n+1=>Wi (KI n) (JQ n)
end
def Xy(R7:Qo)(td:Py)(CI CM:Int)(BS:Bool)(p1:ADW)(b0:AAG)(b1:AAa)(b2:AAG)(b3:AAX)(b4:AAt)(b5:AA9)(b6:ABQ)(b7:AAl):Option JW:=
 (Hj (b0,CI,b1,b2,b3,CM,b4,b5,b6,b7,BS,()) p1.2.1).bind fun u1=>
 cond (u1.1.1 !=0)
  (some (((((),CI,(),(),(),CM,(),(),(),(),BS,()),u1.1.1,()),()),(b0,b1,(),b3,b4,b5,b6,b7,b2,())))
 (if(0:Int)≤p1.2.1∧p1.2.1<(b1.length:Int)then(
 (Ib b2 p1.2.1).bind fun u3=>
 R7 0 b0 (b1.set (p1.2.1.toNat) ([],[],0,())) b2 b3 b4 b5 b6 b7 CI CM BS u3.2.1 p1.1 p1.2.1 p1.2.2.1 p1.2.2.2.1 p1.2.2.2.2.1 0 0 false [] [] [] [] [] [] [] [])else none)
def XZ(CI CM:Int)(BS:Bool)(p1:ADW)(b0:AAG)(b1:AAa)(b2:AAG)(b3:AAX)(b4:AAt)(b5:AA9)(b6:ABQ)(b7:AAl):Option JW:=Xy (KI Ac) (JQ Ac) CI CM BS p1 b0 b1 b2 b3 b4 b5 b6 b7
abbrev sG:Type:=ABk×Unit
def Zu(p0:ABU)(p1:AAG):Option sG:=
 (Gx (p0.1,p0.2.1,()) p1).bind fun u1=>
 cond (u1.1.1)
  ((Ey (p0.1,p0.2.1,()) p1).bind fun u2=>
  some ((!u2.1.1,()),()))
 (some ((false,()),()))
abbrev KR:Type:=ACx×AE1
abbrev P6:Type:=AAa→Int→AA2→Option KR
abbrev Pu:Type:=AAa→Int→Int→AA2→Option KR
def Wu(R3:P6)(R6:Pu)(t0:AAa)(t4:Int)(b0:AA2):Option KR:=
 cond ((decide (t4<(t0.length:Int))))
  (R6 t0 t4 0 b0)
 (some (((),()),(b0,())))
def Wo(R3:P6)(R6:Pu)(t0:AAa)(t4 t5:Int)(b0:AA2):Option KR:=
 if(0:Int)≤t4∧t4<(t0.length:Int)then(
 cond (decide (t5<(((t0.getD (t4.toNat) ([],[],0,())).1).length:Int)))
  (if(0:Int)≤t4∧t4<(t0.length:Int)then(
  if(0:Int)≤t5∧t5<(((t0.getD (t4.toNat) ([],[],0,())).1).length:Int)then(
  (Rz b0 ((((t0.getD (t4.toNat) ([],[],0,())).1).getD (t5.toNat) (0,0,false,[],())).1,(((t0.getD (t4.toNat) ([],[],0,())).1).getD (t5.toNat) (0,0,false,[],())).2.1,(((t0.getD (t4.toNat) ([],[],0,())).1).getD (t5.toNat) (0,0,false,[],())).2.2.1,(((t0.getD (t4.toNat) ([],[],0,())).1).getD (t5.toNat) (0,0,false,[],())).2.2.2.1,())).bind fun u3=>
  R6 t0 t4 (AS (t5+1)) u3.2.1)else none)else none)
 (R3 t0 (AS (t4+1)) b0))else none
mutual
def JN:Nat→P6
 |0=>fun _ _ _=>none
 |n+1=>Wu (JN n) (JU n)
def JU:Nat→Pu
 |0=>fun _ _ _ _=>none
 |n+1=>Wo (JN n) (JU n)
end
def gK(R3:P6)(R6:Pu)(p0:AAa):Option KR:=
 R3 p0 0 []
def Z1(p0:AAa):Option KR:=gK (JN Ac) (JU Ac) p0
abbrev Ox:Type:=ADj×AJz
abbrev XC:Type:=List Int→Int→Int→AAa→Int→AA2→AA2→Int→AA2→AA2→AAa→Option Ox
abbrev Uv:Type:=Int→Int→AAa→Int→AA2→AA2→Int→AA2→AA2→AAa→Option Ox
def dD(R6:XC)(td:Uv)(t2:AAG)(t4 t14:Int)(b0:AAa)(DK:Int)(b2 b3:AA2)(Ml:Int)(b5 b6:AA2)(b7:AAa):Option Ox:=
 cond ((decide (t14<(b0.length:Int))))
  ((Cz t2 t14).bind fun u6=>
  cond (!u6.1.1)
   (if(0:Int)≤t14∧t14<(b0.length:Int)then(
   if b7.length+1≤DE then(
   R6 t2 t4 (AS (t14+1)) b0 DK b2 b3 Ml b5 b6 (b7++[((b0.getD (t14.toNat) ([],[],0,())).1,(b0.getD (t14.toNat) ([],[],0,())).2.1,(b0.getD (t14.toNat) ([],[],0,())).2.2.1,())]))else none)else none)
  (R6 t2 t4 (AS (t14+1)) b0 DK b2 b3 Ml b5 b6 b7))
 (td t4 0 b0 DK b2 b3 Ml b5 b6 b7)
def ag(R6:XC)(td:Uv)(t4 t15:Int)(b0:AAa)(DK:Int)(b2 b3:AA2)(Ml:Int)(b5 b6:AA2)(b7:AAa):Option Ox:=
 cond ((decide (t15<(b7.length:Int))))
  (if(0:Int)≤t15∧t15<(b7.length:Int)then(
  (G4 ((b7.getD (t15.toNat) ([],[],0,())).1,(b7.getD (t15.toNat) ([],[],0,())).2.1,(b7.getD (t15.toNat) ([],[],0,())).2.2.1,())).bind fun u9=>
  cond (!u9.1.1)
   (some (((((),(),Ml,()),false,()),()),(b0,b5,b6,())))
  (td t4 (AS (t15+1)) b0 DK b2 b3 Ml b5 b6 b7))else none)
 ((Z1 b7).bind fun D9=>
 (G4 (D9.2.1,[],t4,())).bind fun Kg=>
 cond (!Kg.1.1)
  (some (((((),(),Ml,()),false,()),()),(b0,b5,b6,())))
 (some (((((),(),t4,()),true,()),()),(b0,D9.2.1,[],()))))
mutual
def PZ:Nat→XC
 |0=>fun _ _ _ _ _ _ _ _ _ _ _=>none
 |n+1=>dD (PZ n) (Nn n)
def Nn:Nat→Uv
 |0=>fun _ _ _ _ _ _ _ _ _ _=>none
 |n+1=>ag (PZ n) (Nn n)
end
def dG(R6:XC)(td:Uv)(p0:ABU)(p2:AAG)(p3 p4:Int)(b0:AAa):Option Ox:=
 (Gg (p0.1,p0.2.1,())).bind fun u1=>
 cond (!u1.1.1)
  (some (((((),(),0,()),false,()),()),(b0,[],[],())))
 (cond (((b0.length:Int) !=(p0.1.length:Int)))
  (some (((((),(),0,()),false,()),()),(b0,[],[],())))
 ((Zu (p0.1,p0.2.1,()) p2).bind fun u3=>
 cond (!u3.1.1)
  (some (((((),(),0,()),false,()),()),(b0,[],[],())))
 ((Cz p2 p3).bind fun u4=>
 cond (!u4.1.1)
  (some (((((),(),0,()),false,()),()),(b0,[],[],())))
 (R6 p2 p4 0 b0 0 [] [] 0 [] [] []))))
def fl(p0:ABU)(p2:AAG)(p3 p4:Int)(b0:AAa):Option Ox:=dG (PZ Ac) (Nn Ac) p0 p2 p3 p4 b0
abbrev pR:Type:=ADe×AJp
def XY(CI CM:Int)(BS:Bool)(p1:ADW)(b0:AAG)(b1:AAa)(b2:AAG)(b3:AAX)(b4:AAt)(b5:AA9)(b6:ABQ)(b7:AAl):Option pR:=
 (Cz b2 p1.2.1).bind fun u1=>
 cond (!u1.1.1)
  (some (((((),CI,(),(),(),CM,(),(),(),(),BS,()),2,()),()),(b0,b1,(),b3,b4,b5,b6,b7,b2,())))
 ((FY (AS ((b3.length:Int)-1)) 0).bind fun u3=>
 (fl (b0,CI,()) b2 p1.2.1 u3.1.1 b1).bind fun u4=>
 cond (!u4.1.1.2.1)
  (some (((((),CI,(),(),(),CM,(),(),(),(),BS,()),4,()),()),(b0,u4.2.1,(),b3,b4,b5,b6,b7,b2,())))
 (if(0:Int)≤p1.2.1∧p1.2.1<(u4.2.1.length:Int)then(
 (H7 b2 [p1.2.1]).bind fun u6=>
 some (((((),CI,(),(),(),CM,(),(),(),(),BS,()),0,()),()),(b0,(u4.2.1.set (p1.2.1.toNat) (u4.2.2.1,u4.2.2.2.1,u4.1.1.1.2.2.1,())),(),b3,b4,b5,b6,b7,u6.2.1,())))else none))
abbrev L0:Type:=AEO×ADi
def My(p0 p1:Int):Option L0:=
 some (((p1,p0,(),(),false,(),()),()),([],[],[],()))
abbrev e_:Type:=ADe×(List Int×AAa×List Int×AAX×AAt×Unit×ABQ×AAl×AA9×Unit)
def XJ(CI CM:Int)(BS:Bool)(b0:AAG)(b1:AAa)(b2:AAG)(b3:AAX)(b4:AAt)(b5:AA9)(b6:ABQ)(b7:AAl):Option e_:=
 (Jt (b3,CM,())).bind fun u1=>
 cond ((decide ((b3.length:Int)<2)))
  (some (((((),CI,(),(),(),CM,(),(),(),(),BS,()),2,()),()),(b0,b1,b2,b3,b4,(),b6,b7,b5,())))
 (cond ((u1.1.1==(b3.length:Int)))
  (some (((((),CI,(),(),(),CM,(),(),(),(),BS,()),2,()),()),(b0,b1,b2,b3,b4,(),b6,b7,b5,())))
 (cond ((decide ((b5.length:Int)>0)))
  (some (((((),CI,(),(),(),CM,(),(),(),(),BS,()),4,()),()),(b0,b1,b2,b3,b4,(),b6,b7,b5,())))
 ((My u1.1.1 (b3.length:Int)).bind fun u5=>
 some (((((),CI,(),(),(),CM,(),(),(),(),BS,()),0,()),()),(b0,b1,b2,b3,b4,(),b6,b7,[(u5.1.1.1,u5.1.1.2.1,u5.2.1,u5.2.2.1,u5.1.1.2.2.2.2.1,u5.2.2.2.1,())],())))))
abbrev mP:Type:=ADj×ADh
def O2(p0:ACn)(p1:Int):Option mP:=
 (G4 (p0.1,p0.2.1,p0.2.2.1,())).bind fun u1=>
 cond (!u1.1.1)
  (some (((((),(),0,()),false,()),()),([],[],())))
 ((Jv (p0.1,p0.2.1,p0.2.2.1,())).bind fun u2=>
 cond (!u2.1.1.2.1)
  ((Es (p0.1,p0.2.1,p0.2.2.1,())).bind fun u3=>
  some (((((),(),u3.1.1.2.2.1,()),false,()),()),(u3.2.1,u3.2.2.1,())))
 ((CG p1 0 30).bind fun u4=>
 cond (!u4.1.1)
  ((Es (p0.1,p0.2.1,p0.2.2.1,())).bind fun u5=>
  some (((((),(),u5.1.1.2.2.1,()),false,()),()),(u5.2.1,u5.2.2.1,())))
 ((FY u2.1.1.1.2.2.1 p1).bind fun u6=>
 some (((((),(),u6.1.1,()),true,()),()),(u2.2.1,u2.2.2.1,())))))
abbrev F6:Type:=ACx×AE1
abbrev UI:Type:=Int→Int→AA2→AA2→Int→AA2→Option F6
def QD(R3:UI)(t1 t6:Int)(AM AE:AA2)(Ab:Int)(b1:AA2):Option F6:=
 cond ((decide (t6<(AM.length:Int))))
  ((G4 (AM,AE,Ab,())).bind fun u2=>
  cond (u2.1.1)
   (if(0:Int)≤t6∧t6<(AM.length:Int)then(
   (Cn ((AM.getD (t6.toNat) (0,0,false,[],())).1)).bind fun u4=>
   cond (u4.1.1==t1)
    (if(0:Int)≤t6∧t6<(AM.length:Int)then(
    if b1.length+1≤DE then(
    R3 t1 (AS (t6+1)) AM AE Ab (b1++[((AM.getD (t6.toNat) (0,0,false,[],())).1,(AM.getD (t6.toNat) (0,0,false,[],())).2.1,(AM.getD (t6.toNat) (0,0,false,[],())).2.2.1,(AM.getD (t6.toNat) (0,0,false,[],())).2.2.2.1,())]))else none)else none)
   (R3 t1 (AS (t6+1)) AM AE Ab b1))else none)
  (some (((),()),(b1,()))))
 (some (((),()),(b1,())))
def JK:Nat→UI
 |0=>fun _ _ _ _ _ _=>none
 |n+1=>QD (JK n)
def WX(R3:UI)(p0:ACn)(p1:Int):Option F6:=
 R3 p1 0 p0.1 p0.2.1 p0.2.2.1 []
def I6(p0:ACn)(p1:Int):Option F6:=WX (JK Ac) p0 p1
abbrev F5:Type:=AEj×ADi
abbrev Ub:Type:=AA2→Int→List Int→Int→Int→Int→List Int→AA2→Bool→List AAG→Int→Int→Bool→List Int→AA2→List AAG→Int→Int→Bool→List Int→AA2→List AAG→Option F5
def WU(R6:Ub)(t3:AA2)(t11:Int)(AM:AAG)(AE BJ Ar:Int)(DK:AAG)(G9:AA2)(M0:Bool)(Di:List AAG)(It LC:Int)(QL:Bool)(b3:AAG)(b4:AA2)(b5:List AAG)(LS KB:Int)(LV:Bool)(b7:AAG)(b8:AA2)(b9:List AAG):Option F5:=
 cond ((decide (t11<(t3.length:Int))))
  (if(0:Int)≤t11∧t11<(t3.length:Int)then(
  (Cn ((t3.getD (t11.toNat) (0,0,false,[],())).1)).bind fun u6=>
  cond (u6.1.1==Ar)
   (if(0:Int)≤t11∧t11<(t3.length:Int)then(
   (Rz b8 ((t3.getD (t11.toNat) (0,0,false,[],())).1,(t3.getD (t11.toNat) (0,0,false,[],())).2.1,(t3.getD (t11.toNat) (0,0,false,[],())).2.2.1,(t3.getD (t11.toNat) (0,0,false,[],())).2.2.2.1,())).bind fun u7=>
   R6 t3 (AS (t11+1)) AM AE BJ Ar DK G9 M0 Di It LC QL b3 b4 b5 LS KB LV b7 u7.2.1 b9)else none)
  (R6 t3 (AS (t11+1)) AM AE BJ Ar DK G9 M0 Di It LC QL b3 b4 b5 LS KB LV b7 b8 b9))else none)
 (cond (M0)
  ((EW (BJ,Ar,DK,G9,M0,Di,())).bind fun u8=>
  some ((((u8.1.1.1,u8.1.1.2.1,(),(),u8.1.1.2.2.2.2.1,(),()),false,()),()),(u8.2.1,u8.2.2.1,u8.2.2.2.1,())))
 ((JC (AM,AE,()) (LS,KB,b7,b8,LV,b9,())).bind fun u9=>
 cond (!u9.1.1)
  ((EW (BJ,Ar,DK,G9,M0,Di,())).bind fun D9=>
  some ((((D9.1.1.1,D9.1.1.2.1,(),(),D9.1.1.2.2.2.2.1,(),()),false,()),()),(D9.2.1,D9.2.2.1,D9.2.2.2.1,())))
 (some ((((LS,KB,(),(),LV,(),()),true,()),()),(b7,b8,b9,())))))
def Lq:Nat→Ub
 |0=>fun _ _ _ _ _ _ _ _ _ _ _ _ _ _ _ _ _ _ _ _ _ _=>none
 |n+1=>WU (Lq n)
def Wc(R6:Ub)(p0:ABU)(p1:ABe)(p2:Int)(p3:AA2):Option F5:=
 (JC (p0.1,p0.2.1,()) (p1.1,p1.2.1,p1.2.2.1,p1.2.2.2.1,p1.2.2.2.2.1,p1.2.2.2.2.2.1,())).bind fun u1=>
 cond (!u1.1.1)
  (some ((((0,0,(),(),false,(),()),false,()),()),([],[],[],())))
 ((EW (p1.1,p1.2.1,p1.2.2.1,p1.2.2.2.1,p1.2.2.2.2.1,p1.2.2.2.2.2.1,())).bind fun u2=>
 (Ib u2.2.1 p2).bind fun u3=>
 R6 p3 0 p0.1 p0.2.1 p1.1 p1.2.1 p1.2.2.1 p1.2.2.2.1 p1.2.2.2.2.1 p1.2.2.2.2.2.1 0 0 false [] [] [] u2.1.1.1 u2.1.1.2.1 u2.1.1.2.2.2.2.1 u3.2.1 u2.2.2.1 u2.2.2.2.1)
def I7(p0:ABU)(p1:ABe)(p2:Int)(p3:AA2):Option F5:=Wc (Lq Ac) p0 p1 p2 p3
abbrev qe:Type:=ADe×ADd
def XO(CI CM:Int)(BS:Bool)(p1:ADW)(b0:AAG)(b1:AAa)(b2:AAG)(b3:AAX)(b4:AAt)(b5:AA9)(b6:ABQ)(b7:AAl):Option qe:=
 cond (((b5.length:Int)==0))
  (some (((((),CI,(),(),(),CM,(),(),(),(),BS,()),2,()),()),(b0,b1,b2,b3,b4,b5,b6,b7,())))
 (if(0:Int)≤(0:Int)∧(0:Int)<(b5.length:Int)then(
 (Hj (b0,CI,b1,b2,b3,CM,b4,b5,b6,b7,BS,()) p1.2.1).bind fun u2=>
 cond (u2.1.1 !=0)
  (some (((((),CI,(),(),(),CM,(),(),(),(),BS,()),u2.1.1,()),()),(b0,b1,b2,b3,b4,b5,b6,b7,())))
 ((CK (b3,CM,()) ((b5.getD 0 (0,0,[],[],false,[],())).2.1)).bind fun u4=>
 (Cz u4.2.1 p1.2.1).bind fun u5=>
 cond (!u5.1.1)
  (some (((((),CI,(),(),(),CM,(),(),(),(),BS,()),2,()),()),(b0,b1,b2,b3,b4,b5,b6,b7,())))
 (if(0:Int)≤p1.2.1∧p1.2.1<(b1.length:Int)then(
 (O2 ((b1.getD (p1.2.1.toNat) ([],[],0,())).1,(b1.getD (p1.2.1.toNat) ([],[],0,())).2.1,(b1.getD (p1.2.1.toNat) ([],[],0,())).2.2.1,()) (AS (((b5.getD 0 (0,0,[],[],false,[],())).1)-1))).bind fun u7=>
 (I6 (u7.2.1,u7.2.2.1,u7.1.1.1.2.2.1,()) ((b5.getD 0 (0,0,[],[],false,[],())).2.1)).bind fun u9=>
 (I7 (b0,CI,()) ((b5.getD 0 (0,0,[],[],false,[],())).1,(b5.getD 0 (0,0,[],[],false,[],())).2.1,(b5.getD 0 (0,0,[],[],false,[],())).2.2.1,(b5.getD 0 (0,0,[],[],false,[],())).2.2.2.1,(b5.getD 0 (0,0,[],[],false,[],())).2.2.2.2.1,(b5.getD 0 (0,0,[],[],false,[],())).2.2.2.2.2.1,()) p1.2.1 u9.2.1).bind fun D9=>
 cond (!u7.1.1.2.1)
  (some (((((),CI,(),(),(),CM,(),(),(),(),BS,()),4,()),()),(b0,b1,b2,b3,b4,b5,b6,b7,())))
 (cond (!D9.1.1.2.1)
  (some (((((),CI,(),(),(),CM,(),(),(),(),BS,()),4,()),()),(b0,b1,b2,b3,b4,b5,b6,b7,())))
 (if(0:Int)≤p1.2.1∧p1.2.1<(b1.length:Int)then(
 if(0:Int)≤(0:Int)∧(0:Int)<(b5.length:Int)then(
 some (((((),CI,(),(),(),CM,(),(),(),(),BS,()),0,()),()),(b0,(b1.set (p1.2.1.toNat) (u7.2.1,u7.2.2.1,u7.1.1.1.2.2.1,())),b2,b3,b4,(b5.set 0 (D9.1.1.1.1,D9.1.1.1.2.1,D9.2.1,D9.2.2.1,D9.1.1.1.2.2.2.2.1,D9.2.2.2.1,())),b6,b7,())))else none)else none)))else none)))else none)
abbrev sR:Type:=ACx×ADA
def Ke(p0 p1:AAG):Option sR:=
 (H7 p0 p1).bind fun u1=>
 (H7 p0 u1.2.1).bind fun u2=>
 some (((),()),(u2.2.1,()))
abbrev s5:Type:=ABk×Unit
def Km(p0:ABU)(p1 p2:AAG):Option s5:=
 (Ey (p0.1,p0.2.1,()) p1).bind fun u1=>
 cond (!u1.1.1)
  (some ((false,()),()))
 ((Gx (p0.1,p0.2.1,()) p2).bind fun u2=>
 cond (!u2.1.1)
  (some ((false,()),()))
 ((H7 p2 p1).bind fun u3=>
 cond (decide ((u3.2.1.length:Int)>0))
  (some ((false,()),()))
 ((H7 p1 p2).bind fun u5=>
 (VD (p0.1,p0.2.1,()) u5.2.1).bind fun u6=>
 some (((decide (u6.1.1<p0.2.1)),()),()))))
abbrev GA:Type:=AEj×ADi
abbrev Ud:Type:=Int→Int→Int→List Int→AA2→Bool→List AAG→Int→Int→Bool→List Int→AA2→List AAG→Int→Int→Bool→List Int→AA2→List AAG→Option GA
def WW(R8:Ud)(t9 AM AE:Int)(Ab:AAG)(Cq:AA2)(DW:Bool)(AZ:List AAG)(BJ Ar:Int)(M0:Bool)(b2:AAG)(b3:AA2)(b4:List AAG)(AFl ADl:Int)(AEP:Bool)(b6:AAG)(b7:AA2)(b8:List AAG):Option GA:=
 (Ro (AM,AE,Ab,Cq,DW,AZ,())).bind fun u5=>
 cond (decide (t9<u5.1.1))
  (if b8.length+1≤DE then(
  R8 (AS (t9+1)) AM AE Ab Cq DW AZ BJ Ar M0 b2 b3 b4 AFl ADl AEP b6 b7 (b8++[[]]))else none)
 (some ((((AFl,ADl,(),(),AEP,(),()),true,()),()),(b6,b7,b8,())))
def L8:Nat→Ud
 |0=>fun _ _ _ _ _ _ _ _ _ _ _ _ _ _ _ _ _ _ _=>none
 |n+1=>WW (L8 n)
def Wv(R8:Ud)(p0:ABU)(p1:ABe)(p2:AAG):Option GA:=
 (JC (p0.1,p0.2.1,()) (p1.1,p1.2.1,p1.2.2.1,p1.2.2.2.1,p1.2.2.2.2.1,p1.2.2.2.2.2.1,())).bind fun u1=>
 cond (!u1.1.1)
  (some ((((0,0,(),(),false,(),()),false,()),()),([],[],[],())))
 ((EW (p1.1,p1.2.1,p1.2.2.1,p1.2.2.2.1,p1.2.2.2.2.1,p1.2.2.2.2.2.1,())).bind fun u2=>
 cond (p1.2.2.2.2.1)
  (some ((((u2.1.1.1,u2.1.1.2.1,(),(),u2.1.1.2.2.2.2.1,(),()),false,()),()),(u2.2.1,u2.2.2.1,u2.2.2.2.1,())))
 ((Ke p1.2.2.1 p2).bind fun u3=>
 (Km (p0.1,p0.2.1,()) p2 u3.2.1).bind fun u4=>
 cond (!u4.1.1)
  (some ((((u2.1.1.1,u2.1.1.2.1,(),(),u2.1.1.2.2.2.2.1,(),()),false,()),()),(u2.2.1,u2.2.2.1,u2.2.2.2.1,())))
 (R8 0 p1.1 p1.2.1 p1.2.2.1 p1.2.2.2.1 p1.2.2.2.2.1 p1.2.2.2.2.2.1 0 0 false [] [] [] u2.1.1.1 u2.1.1.2.1 true u2.2.1 u2.2.2.1 u2.2.2.2.1)))
def I5(p0:ABU)(p1:ABe)(p2:AAG):Option GA:=Wv (L8 Ac) p0 p1 p2
abbrev rL:Type:=ADe×ADd
def XM(CI CM:Int)(BS:Bool)(b0:AAG)(b1:AAa)(b2:AAG)(b3:AAX)(b4:AAt)(b5:AA9)(b6:ABQ)(b7:AAl):Option rL:=
 cond (((b5.length:Int)==0))
  (some (((((),CI,(),(),(),CM,(),(),(),(),BS,()),2,()),()),(b0,b1,b2,b3,b4,b5,b6,b7,())))
 (if(0:Int)≤(0:Int)∧(0:Int)<(b5.length:Int)then(
 if(0:Int)≤(0:Int)∧(0:Int)<(b5.length:Int)then(
 (CK (b3,CM,()) ((b5.getD 0 (0,0,[],[],false,[],())).2.1)).bind fun u3=>
 (I5 (b0,CI,()) ((b5.getD 0 (0,0,[],[],false,[],())).1,(b5.getD 0 (0,0,[],[],false,[],())).2.1,(b5.getD 0 (0,0,[],[],false,[],())).2.2.1,(b5.getD 0 (0,0,[],[],false,[],())).2.2.2.1,(b5.getD 0 (0,0,[],[],false,[],())).2.2.2.2.1,(b5.getD 0 (0,0,[],[],false,[],())).2.2.2.2.2.1,()) u3.2.1).bind fun u4=>
 cond (!u4.1.1.2.1)
  (some (((((),CI,(),(),(),CM,(),(),(),(),BS,()),4,()),()),(b0,b1,b2,b3,b4,b5,b6,b7,())))
 (if(0:Int)≤(0:Int)∧(0:Int)<(b5.length:Int)then(
 some (((((),CI,(),(),(),CM,(),(),(),(),BS,()),0,()),()),(b0,b1,b2,b3,b4,(b5.set 0 (u4.1.1.1.1,u4.1.1.1.2.1,u4.2.1,u4.2.2.1,u4.1.1.1.2.2.2.2.1,u4.2.2.2.1,())),b6,b7,())))else none))else none)else none)
abbrev sw:Type:=ADe×ADd
def Y_(CI CM:Int)(BS:Bool)(p1:ADW)(b0:AAG)(b1:AAa)(b2:AAG)(b3:AAX)(b4:AAt)(b5:AA9)(b6:ABQ)(b7:AAl):Option sw:=
 cond (((b5.length:Int)==0))
  (some (((((),CI,(),(),(),CM,(),(),(),(),BS,()),2,()),()),(b0,b1,b2,b3,b4,b5,b6,b7,())))
 (if(0:Int)≤(0:Int)∧(0:Int)<(b5.length:Int)then(
 (Eo ((b5.getD 0 (0,0,[],[],false,[],())).1,(b5.getD 0 (0,0,[],[],false,[],())).2.1,(b5.getD 0 (0,0,[],[],false,[],())).2.2.1,(b5.getD 0 (0,0,[],[],false,[],())).2.2.2.1,(b5.getD 0 (0,0,[],[],false,[],())).2.2.2.2.1,(b5.getD 0 (0,0,[],[],false,[],())).2.2.2.2.2.1,()) p1.2.2.1).bind fun u2=>
 cond (!u2.1.1.2.1)
  (some (((((),CI,(),(),(),CM,(),(),(),(),BS,()),2,()),()),(b0,b1,b2,b3,b4,b5,b6,b7,())))
 ((Hj (b0,CI,b1,b2,b3,CM,b4,b5,b6,b7,BS,()) p1.2.2.2.1).bind fun u3=>
 cond (u3.1.1 !=0)
  (some (((((),CI,(),(),(),CM,(),(),(),(),BS,()),u3.1.1,()),()),(b0,b1,b2,b3,b4,b5,b6,b7,())))
 (if(0:Int)≤(0:Int)∧(0:Int)<(b5.length:Int)then(
 (CK (b3,CM,()) ((b5.getD 0 (0,0,[],[],false,[],())).2.1)).bind fun u5=>
 (Cz u5.2.1 p1.2.2.2.1).bind fun u6=>
 cond (!u6.1.1)
  (some (((((),CI,(),(),(),CM,(),(),(),(),BS,()),2,()),()),(b0,b1,b2,b3,b4,b5,b6,b7,())))
 (if(0:Int)≤p1.2.2.2.1∧p1.2.2.2.1<(b1.length:Int)then(
 (Nl ((b1.getD (p1.2.2.2.1.toNat) ([],[],0,())).1,(b1.getD (p1.2.2.2.1.toNat) ([],[],0,())).2.1,(b1.getD (p1.2.2.2.1.toNat) ([],[],0,())).2.2.1,()) (u2.1.1.1.1,u2.1.1.1.2.1,u2.1.1.1.2.2.1,u2.1.1.1.2.2.2.1,())).bind fun u7=>
 cond (!u7.1.1.2.1)
  (some (((((),CI,(),(),(),CM,(),(),(),(),BS,()),4,()),()),(b0,b1,b2,b3,b4,b5,b6,b7,())))
 (if(0:Int)≤p1.2.2.2.1∧p1.2.2.2.1<(b1.length:Int)then(
 some (((((),CI,(),(),(),CM,(),(),(),(),BS,()),0,()),()),(b0,(b1.set (p1.2.2.2.1.toNat) (u7.2.1,u7.2.2.1,u7.1.1.1.2.2.1,())),b2,b3,b4,b5,b6,b7,())))else none))else none))else none)))else none)
abbrev Ph:Type:=ABk×Unit
abbrev Te:Type:=Int→List Int→Int→Int→Int→List Int→AA2→Bool→List AAG→Option Ph
def Vv(R4:Te)(t5:Int)(AM:AAG)(AE BJ Ar:Int)(DK:AAG)(G9:AA2)(M0:Bool)(Di:List AAG):Option Ph:=
 cond ((decide (t5<(Di.length:Int))))
  (if(0:Int)≤t5∧t5<(Di.length:Int)then(
  (Ey (AM,AE,()) (Di.getD (t5.toNat) [])).bind fun u3=>
  cond (!u3.1.1)
   (some ((false,()),()))
  (R4 (AS (t5+1)) AM AE BJ Ar DK G9 M0 Di))else none)
 (some ((true,()),()))
def Kk:Nat→Te
 |0=>fun _ _ _ _ _ _ _ _ _=>none
 |n+1=>Vv (Kk n)
def Vf(R4:Te)(p0:ABU)(p1:ABe):Option Ph:=
 (JC (p0.1,p0.2.1,()) (p1.1,p1.2.1,p1.2.2.1,p1.2.2.2.1,p1.2.2.2.2.1,p1.2.2.2.2.2.1,())).bind fun u1=>
 cond (!u1.1.1)
  (some ((false,()),()))
 (cond (!p1.2.2.2.2.1)
  (some ((false,()),()))
 (R4 0 p0.1 p0.2.1 p1.1 p1.2.1 p1.2.2.1 p1.2.2.2.1 p1.2.2.2.2.1 p1.2.2.2.2.2.1))
def Sb(p0:ABU)(p1:ABe):Option Ph:=Vf (Kk Ac) p0 p1
abbrev o0:Type:=AGh×AD5
def QZ(p0:ABU)(p1:ACa)(p2 p3:Int):Option o0:=
 (NH (p0.1,p0.2.1,()) (p1.1,p1.2.1,())).bind fun u1=>
 cond (!u1.1.1)
  (some (((((),0,()),false,()),()),([],())))
 ((GW (p1.1,p1.2.1,())).bind fun u2=>
 (Jt (p1.1,p1.2.1,())).bind fun u3=>
 cond ((p2 !=(p1.1.length:Int)))
  (some (((((),u2.1.1.2.1,()),false,()),()),(u2.2.1,())))
 (cond (u3.1.1==0)
  (some (((((),u2.1.1.2.1,()),false,()),()),(u2.2.1,())))
 (cond (p2==u3.1.1)
  (some (((((),u2.1.1.2.1,()),false,()),()),(u2.2.1,())))
 ((CG p3 0 60).bind fun u5=>
 cond (!u5.1.1)
  (some (((((),u2.1.1.2.1,()),false,()),()),(u2.2.1,())))
 (if(0:Int)≤AS (u3.1.1-1)∧AS (u3.1.1-1)<(u2.2.1.length:Int)then(
 let x6:AAX:=(u2.2.1.set ((AS (u3.1.1-1)).toNat) ((u2.2.1.getD ((AS (u3.1.1-1)).toNat) ([],false,0,())).1,true,(u2.2.1.getD ((AS (u3.1.1-1)).toNat) ([],false,0,())).2.2.1,()))
 if(0:Int)≤AS (u3.1.1-1)∧AS (u3.1.1-1)<(x6.length:Int)then(
 some (((((),u2.1.1.2.1,()),true,()),()),((x6.set ((AS (u3.1.1-1)).toNat) ((x6.getD ((AS (u3.1.1-1)).toNat) ([],false,0,())).1,(x6.getD ((AS (u3.1.1-1)).toNat) ([],false,0,())).2.1,p3,())),())))else none)else none)))))
abbrev dd:Type:=ADe×(List Int×AAa×List Int×Unit×AAt×Unit×ABQ×AAl×AAX×AA9×Unit)
def U_(CI CM:Int)(BS:Bool)(b0:AAG)(b1:AAa)(b2:AAG)(b3:AAX)(b4:AAt)(b5:AA9)(b6:ABQ)(b7:AAl):Option dd:=
 cond (((b5.length:Int)==0))
  (some (((((),CI,(),(),(),CM,(),(),(),(),BS,()),2,()),()),(b0,b1,b2,(),b4,(),b6,b7,b3,b5,())))
 (if(0:Int)≤(0:Int)∧(0:Int)<(b5.length:Int)then(
 (Sb (b0,CI,()) ((b5.getD 0 (0,0,[],[],false,[],())).1,(b5.getD 0 (0,0,[],[],false,[],())).2.1,(b5.getD 0 (0,0,[],[],false,[],())).2.2.1,(b5.getD 0 (0,0,[],[],false,[],())).2.2.2.1,(b5.getD 0 (0,0,[],[],false,[],())).2.2.2.2.1,(b5.getD 0 (0,0,[],[],false,[],())).2.2.2.2.2.1,())).bind fun u2=>
 cond (!u2.1.1)
  (some (((((),CI,(),(),(),CM,(),(),(),(),BS,()),5,()),()),(b0,b1,b2,(),b4,(),b6,b7,b3,b5,())))
 (if(0:Int)≤(0:Int)∧(0:Int)<(b5.length:Int)then(
 if(0:Int)≤(0:Int)∧(0:Int)<(b5.length:Int)then(
 (QZ (b0,CI,()) (b3,CM,()) ((b5.getD 0 (0,0,[],[],false,[],())).1) (((b5.getD 0 (0,0,[],[],false,[],())).2.2.2.2.2.1).length:Int)).bind fun u5=>
 cond (!u5.1.1.2.1)
  (some (((((),CI,(),(),(),CM,(),(),(),(),BS,()),4,()),()),(b0,b1,b2,(),b4,(),b6,b7,b3,b5,())))
 (some (((((),CI,(),(),(),u5.1.1.1.2.1,(),(),(),(),BS,()),0,()),()),(b0,b1,b2,(),b4,(),b6,b7,u5.2.1,[],()))))else none)else none))else none)
abbrev rZ:Type:=AGh×AD5
def SK(p0:ABU)(p1:ACa)(p2:Int):Option rZ:=
 (NH (p0.1,p0.2.1,()) (p1.1,p1.2.1,())).bind fun u1=>
 cond (!u1.1.1)
  (some (((((),0,()),false,()),()),([],())))
 ((GW (p1.1,p1.2.1,())).bind fun u2=>
 (Hn p2).bind fun u3=>
 cond (!u3.1.1)
  (some (((((),u2.1.1.2.1,()),false,()),()),(u2.2.1,())))
 ((Cn p2).bind fun u4=>
 cond ((decide (u4.1.1>(p1.1.length:Int))))
  (some (((((),u2.1.1.2.1,()),false,()),()),(u2.2.1,())))
 ((FY u2.1.1.2.1 p2).bind fun u6=>
 some (((((),u6.1.1,()),true,()),()),(u2.2.1,())))))
abbrev OB:Type:=AB5×Unit
abbrev RG:Type:=Int→Int→AB4→Option OB
def UB(R2:RG)(t3 AM:Int)(AE:AB4):Option OB:=
 cond ((decide (t3<(AE.length:Int))))
  (if(0:Int)≤t3∧t3<(AE.length:Int)then(
  cond (((AE.getD (t3.toNat) ([],[],false,())).2.2.1))
   (R2 (AS (t3+1)) AM AE)
  (some ((t3,()),())))else none)
 (some ((t3,()),()))
def Jq:Nat→RG
 |0=>fun _ _ _=>none
 |n+1=>UB (Jq n)
def dp(R2:RG)(p0:ACt):Option OB:=
 R2 0 p0.1 p0.2.1
def WN(p0:ACt):Option OB:=dp (Jq Ac) p0
abbrev U1:Type:=AB5×Unit
abbrev X2:Type:=Int→Int→List Int→Int→AAa→List Int→AAX→Int→AAt→AA9→ABQ→AAl→Bool→Option U1
def ZQ(R2:X2)(t1 t5:Int)(AM:AAG)(AE:Int)(Ab:AAa)(Cq:AAG)(DW:AAX)(AZ:Int)(DT:AAt)(DI:AA9)(Eb:ABQ)(EI:AAl)(AN:Bool):Option U1:=
 cond ((decide (t5<(DT.length:Int))))
  (if(0:Int)≤t5∧t5<(DT.length:Int)then(
  cond (((DT.getD (t5.toNat) (0,[],())).1)==t1)
   (if(0:Int)≤t5∧t5<(DT.length:Int)then(
   (WN ((DT.getD (t5.toNat) (0,[],())).1,(DT.getD (t5.toNat) (0,[],())).2.1,())).bind fun u3=>
   some ((u3.1.1,()),()))else none)
  (R2 t1 (AS (t5+1)) AM AE Ab Cq DW AZ DT DI Eb EI AN))else none)
 (some ((0,()),()))
def PF:Nat→X2
 |0=>fun _ _ _ _ _ _ _ _ _ _ _ _ _=>none
 |n+1=>ZQ (PF n)
def kE(R2:X2)(p0:ABf)(p1:Int):Option U1:=
 R2 p1 0 p0.1 p0.2.1 p0.2.2.1 p0.2.2.2.1 p0.2.2.2.2.1 p0.2.2.2.2.2.1 p0.2.2.2.2.2.2.1 p0.2.2.2.2.2.2.2.1 p0.2.2.2.2.2.2.2.2.1 p0.2.2.2.2.2.2.2.2.2.1 p0.2.2.2.2.2.2.2.2.2.2.1
def eW(p0:ABf)(p1:Int):Option U1:=kE (PF Ac) p0 p1
abbrev OQ:Type:=ACx×(ADJ×Unit)
abbrev RM:Type:=Int→List Int→Int→AAa→List Int→AAX→Int→AAt→AA9→ABQ→AAl→Bool→Int→Int→ADf→ADJ→List Int→Option OQ
def T4(R4:RM)(t9:Int)(AM:AAG)(AE:Int)(Ab:AAa)(Cq:AAG)(DW:AAX)(AZ:Int)(DT:AAt)(DI:AA9)(Eb:ABQ)(EI:AAl)(AN:Bool)(BJ Ar:Int)(DK:ADf)(b2:ADJ)(b3:AAG):Option OQ:=
 cond ((decide (t9<(b3.length:Int))))
  (if(0:Int)≤t9∧t9<(b3.length:Int)then(
  (Hj (AM,AE,Ab,Cq,DW,AZ,DT,DI,Eb,EI,AN,()) (b3.getD (t9.toNat) 0)).bind fun u4=>
  cond (u4.1.1 !=0)
   (R4 (AS (t9+1)) AM AE Ab Cq DW AZ DT DI Eb EI AN BJ Ar DK b2 b3)
  (if(0:Int)≤t9∧t9<(b3.length:Int)then(
  let x5:Int:=(b3.getD (t9.toNat) 0)
  if(0:Int)≤x5∧x5<(Ab.length:Int)then(
  (CN BJ Ar).bind fun u6=>
  (He ((Ab.getD (x5.toNat) ([],[],0,())).1) u6.1.1).bind fun u7=>
  if(0:Int)≤t9∧t9<(b3.length:Int)then(
  if b2.length+1≤DE then(
  R4 (AS (t9+1)) AM AE Ab Cq DW AZ DT DI Eb EI AN BJ Ar DK (b2++[((b3.getD (t9.toNat) 0),u7.1.1.2.1,u7.1.1.1.1,u7.1.1.1.2.1,u7.1.1.1.2.2.1,u7.1.1.1.2.2.2.1,())]) b3)else none)else none)else none)else none))else none)
 (some (((),()),(b2,())))
def Je:Nat→RM
 |0=>fun _ _ _ _ _ _ _ _ _ _ _ _ _ _ _ _ _=>none
 |n+1=>T4 (Je n)
def T7(R4:RM)(p0:ABf)(p1:ADa)(p2:Int):Option OQ:=
 (PS p2).bind fun u1=>
 R4 0 p0.1 p0.2.1 p0.2.2.1 p0.2.2.2.1 p0.2.2.2.2.1 p0.2.2.2.2.2.1 p0.2.2.2.2.2.2.1 p0.2.2.2.2.2.2.2.1 p0.2.2.2.2.2.2.2.2.1 p0.2.2.2.2.2.2.2.2.2.1 p0.2.2.2.2.2.2.2.2.2.2.1 p1.1 p1.2.1 p1.2.2.1 [] u1.2.1
def Ql(p0:ABf)(p1:ADa)(p2:Int):Option OQ:=T7 (Je Ac) p0 p1 p2
abbrev Qk:Type:=((Unit×Bool×Unit)×Unit)×ADA
abbrev UM:Type:=ADJ→Int→List Int→Int→List Int→Option Qk
def Wa(R3:UM)(t1:ADJ)(t7:Int)(AM:AAG)(AE:Int)(b1:AAG):Option Qk:=
 cond ((decide (t7<(t1.length:Int))))
  (if(0:Int)≤t7∧t7<(t1.length:Int)then(
  if b1.length+1≤DE then(
  R3 t1 (AS (t7+1)) AM AE (b1++[((t1.getD (t7.toNat) (0,false,0,0,false,[],())).1)]))else none)else none)
 ((Gx (AM,AE,()) b1).bind fun u3=>
 some ((((),u3.1.1,()),()),(b1,())))
def Lw:Nat→UM
 |0=>fun _ _ _ _ _=>none
 |n+1=>Wa (Lw n)
def gE(R3:UM)(p0:ABU)(p1:ADJ):Option Qk:=
 R3 p1 0 p0.1 p0.2.1 []
def Z3(p0:ABU)(p1:ADJ):Option Qk:=gE (Lw Ac) p0 p1
abbrev pT:Type:=AFB×AFE
def Is(p0:ADa)(p1:AGM)(p2 p3:Int):Option pT:=
 (CL (p0.1,p0.2.1,p0.2.2.1,())).bind fun u1=>
 if u1.2.1.length+1≤DE then(
 some (((p2,p3,(),()),()),((u1.2.1++[(p1.1,p1.2.1,p1.2.2.1,())]),())))else none
abbrev Su:Type:=(AGM×Unit)×Unit
abbrev WK:Type:=List Int→Int→ADJ→Bool→Int→Int→Int→List UInt8→Int→Int→Bool→List UInt8→Option Su
def YU(R4:WK)(t0:AAG)(t1:Int)(t2:ADJ)(t8:Bool)(t9 AM AE:Int)(Ab:ABp)(BJ Ar:Int)(DK:Bool)(G9:ABp):Option Su:=
 cond ((decide (t9<(t2.length:Int))))
  (if(0:Int)≤t9∧t9<(t2.length:Int)then(
  cond (!((t2.getD (t9.toNat) (0,false,0,0,false,[],())).2.1))
   (R4 t0 t1 t2 t8 (AS (t9+1)) AM AE Ab BJ Ar DK G9)
  ((Cz t0 ((t2.getD (t9.toNat) (0,false,0,0,false,[],())).1)).bind fun u4=>
  cond (!u4.1.1)
   (R4 t0 t1 t2 t8 (AS (t9+1)) AM AE Ab BJ Ar DK G9)
  ((Mz ((t2.getD (t9.toNat) (0,false,0,0,false,[],())).2.2.1,(t2.getD (t9.toNat) (0,false,0,0,false,[],())).2.2.2.1,(t2.getD (t9.toNat) (0,false,0,0,false,[],())).2.2.2.2.1,(t2.getD (t9.toNat) (0,false,0,0,false,[],())).2.2.2.2.2.1,())).bind fun u5=>
  cond (!u5.1.1)
   (R4 t0 t1 t2 t8 (AS (t9+1)) AM AE Ab BJ Ar DK G9)
  (cond (((t2.getD (t9.toNat) (0,false,0,0,false,[],())).2.2.1) !=t1)
   (R4 t0 t1 t2 t8 (AS (t9+1)) AM AE Ab BJ Ar DK G9)
  (cond (!t8)
   ((SA ((t2.getD (t9.toNat) (0,false,0,0,false,[],())).2.2.1,(t2.getD (t9.toNat) (0,false,0,0,false,[],())).2.2.2.1,(t2.getD (t9.toNat) (0,false,0,0,false,[],())).2.2.2.2.1,(t2.getD (t9.toNat) (0,false,0,0,false,[],())).2.2.2.2.2.1,()) ((t2.getD (t9.toNat) (0,false,0,0,false,[],())).2.2.1,(t2.getD (t9.toNat) (0,false,0,0,false,[],())).2.2.2.1,(t2.getD (t9.toNat) (0,false,0,0,false,[],())).2.2.2.2.1,(t2.getD (t9.toNat) (0,false,0,0,false,[],())).2.2.2.2.2.1,())).bind fun u7=>
   R4 t0 t1 t2 true (AS (t9+1)) AM AE Ab u7.1.1.1 u7.1.1.2.1 u7.1.1.2.2.1 u7.1.1.2.2.2.1)
  ((SA (BJ,Ar,DK,G9,()) ((t2.getD (t9.toNat) (0,false,0,0,false,[],())).2.2.1,(t2.getD (t9.toNat) (0,false,0,0,false,[],())).2.2.2.1,(t2.getD (t9.toNat) (0,false,0,0,false,[],())).2.2.2.2.1,(t2.getD (t9.toNat) (0,false,0,0,false,[],())).2.2.2.2.2.1,())).bind fun u8=>
  R4 t0 t1 t2 true (AS (t9+1)) AM AE Ab u8.1.1.1 u8.1.1.2.1 u8.1.1.2.2.1 u8.1.1.2.2.2.1))))))else none)
 (cond (!t8)
  (some (((3,t1,[],()),()),()))
 (cond (DK)
  (some (((2,t1,[],()),()),()))
 (some (((1,t1,G9,()),()),()))))
def Na:Nat→WK
 |0=>fun _ _ _ _ _ _ _ _ _ _ _ _=>none
 |n+1=>YU (Na n)
def ia(R4:WK)(p0:AAG)(p1:Int)(p2:ADJ):Option Su:=
 R4 p0 p1 p2 false 0 0 0 [] 0 0 false []
def Mx(p0:AAG)(p1:Int)(p2:ADJ):Option Su:=ia (Na Ac) p0 p1 p2
abbrev Zd:Type:=(AHh×Unit)×AFE
def Q1(p0:ABU)(p1:ACa)(p2:Int)(p3:ADa)(p4:ADJ):Option Zd:=
 (Z3 (p0.1,p0.2.1,()) p4).bind fun u1=>
 (NH (p0.1,p0.2.1,()) (p1.1,p1.2.1,())).bind fun u2=>
 cond (!u2.1.1)
  (some ((((0,0,(),()),1,()),()),([],())))
 ((Nf (p3.1,p3.2.1,p3.2.2.1,())).bind fun u3=>
 cond (!u3.1.1)
  (some ((((0,0,(),()),1,()),()),([],())))
 (cond (!u1.1.1.2.1)
  (some ((((0,0,(),()),1,()),()),([],())))
 (cond ((decide (p3.1>(p1.1.length:Int))))
  ((CL (p3.1,p3.2.1,p3.2.2.1,())).bind fun u5=>
  some ((((u5.1.1.1,u5.1.1.2.1,(),()),2,()),()),(u5.2.1,())))
 (cond ((p3.2.2.1.length:Int)==120)
  ((CL (p3.1,p3.2.1,p3.2.2.1,())).bind fun u7=>
  some ((((u7.1.1.1,u7.1.1.2.1,(),()),2,()),()),(u7.2.1,())))
 (if(0:Int)≤AS (p3.1-1)∧AS (p3.1-1)<(p1.1.length:Int)then(
 (CN p3.1 p3.2.1).bind fun u8=>
 cond ((decide (p1.2.1≥u8.1.1)))
  ((Cn p1.2.1).bind fun D9=>
  (HU p1.2.1).bind fun Kg=>
  (Is (p3.1,p3.2.1,p3.2.2.1,()) (5,p1.2.1,[],()) D9.1.1 (AS (Kg.1.1+1))).bind fun Dj=>
  some ((((Dj.1.1.1,Dj.1.1.2.1,(),()),0,()),()),(Dj.2.1,())))
 (cond (((p1.1.getD ((AS (p3.1-1)).toNat) ([],false,0,())).2.1))
  (cond ((decide (p3.2.1>((p1.1.getD ((AS (p3.1-1)).toNat) ([],false,0,())).2.2.1))))
   ((Is (p3.1,p3.2.1,p3.2.2.1,()) (4,AS (p3.1+1),[],()) (AS (p3.1+1)) 1).bind fun u16=>
   some ((((u16.1.1.1,u16.1.1.2.1,(),()),0,()),()),(u16.2.1,())))
  (cond (!((p1.1.getD ((AS (p3.1-1)).toNat) ([],false,0,())).2.1))
   (cond (decide (p3.2.1>p2))
    ((CL (p3.1,p3.2.1,p3.2.2.1,())).bind fun WR=>
    some ((((WR.1.1.1,WR.1.1.2.1,(),()),2,()),()),(WR.2.1,())))
   (cond (decide (p3.2.1>60))
    ((CL (p3.1,p3.2.1,p3.2.2.1,())).bind fun gD=>
    some ((((gD.1.1.1,gD.1.1.2.1,(),()),2,()),()),(gD.2.1,())))
   ((Ke u1.2.1 ((p1.1.getD ((AS (p3.1-1)).toNat) ([],false,0,())).1)).bind fun Li=>
   (Km (p0.1,p0.2.1,()) ((p1.1.getD ((AS (p3.1-1)).toNat) ([],false,0,())).1) Li.2.1).bind fun nM=>
   cond (!nM.1.1)
    ((CL (p3.1,p3.2.1,p3.2.2.1,())).bind fun u22=>
    some ((((u22.1.1.1,u22.1.1.2.1,(),()),3,()),()),(u22.2.1,())))
   ((Mx ((p1.1.getD ((AS (p3.1-1)).toNat) ([],false,0,())).1) u8.1.1 p4).bind fun aQ=>
   (Is (p3.1,p3.2.1,p3.2.2.1,()) (aQ.1.1.1,aQ.1.1.2.1,aQ.1.1.2.2.1,()) p3.1 (AS (p3.2.1+1))).bind fun Iq=>
   some ((((Iq.1.1.1,Iq.1.1.2.1,(),()),0,()),()),(Iq.2.1,()))))))
  (cond (decide (p3.2.1>60))
   ((CL (p3.1,p3.2.1,p3.2.2.1,())).bind fun bf=>
   some ((((bf.1.1.1,bf.1.1.2.1,(),()),2,()),()),(bf.2.1,())))
  ((Ke u1.2.1 ((p1.1.getD ((AS (p3.1-1)).toNat) ([],false,0,())).1)).bind fun gT=>
  (Km (p0.1,p0.2.1,()) ((p1.1.getD ((AS (p3.1-1)).toNat) ([],false,0,())).1) gT.2.1).bind fun gN=>
  cond (!gN.1.1)
   ((CL (p3.1,p3.2.1,p3.2.2.1,())).bind fun PT=>
   some ((((PT.1.1.1,PT.1.1.2.1,(),()),3,()),()),(PT.2.1,())))
  ((Mx ((p1.1.getD ((AS (p3.1-1)).toNat) ([],false,0,())).1) u8.1.1 p4).bind fun ZZ=>
  (Is (p3.1,p3.2.1,p3.2.2.1,()) (ZZ.1.1.1,ZZ.1.1.2.1,ZZ.1.1.2.2.1,()) p3.1 (AS (p3.2.1+1))).bind fun oJ=>
  some ((((oJ.1.1.1,oJ.1.1.2.1,(),()),0,()),()),(oJ.2.1,())))))))
 (cond (!((p1.1.getD ((AS (p3.1-1)).toNat) ([],false,0,())).2.1))
  (cond (decide (p3.2.1>p2))
   ((CL (p3.1,p3.2.1,p3.2.2.1,())).bind fun u32=>
   some ((((u32.1.1.1,u32.1.1.2.1,(),()),2,()),()),(u32.2.1,())))
  (cond (decide (p3.2.1>60))
   ((CL (p3.1,p3.2.1,p3.2.2.1,())).bind fun ar=>
   some ((((ar.1.1.1,ar.1.1.2.1,(),()),2,()),()),(ar.2.1,())))
  ((Ke u1.2.1 ((p1.1.getD ((AS (p3.1-1)).toNat) ([],false,0,())).1)).bind fun vi=>
  (Km (p0.1,p0.2.1,()) ((p1.1.getD ((AS (p3.1-1)).toNat) ([],false,0,())).1) vi.2.1).bind fun u35=>
  cond (!u35.1.1)
   ((CL (p3.1,p3.2.1,p3.2.2.1,())).bind fun u36=>
   some ((((u36.1.1.1,u36.1.1.2.1,(),()),3,()),()),(u36.2.1,())))
  ((Mx ((p1.1.getD ((AS (p3.1-1)).toNat) ([],false,0,())).1) u8.1.1 p4).bind fun nr=>
  (Is (p3.1,p3.2.1,p3.2.2.1,()) (nr.1.1.1,nr.1.1.2.1,nr.1.1.2.2.1,()) p3.1 (AS (p3.2.1+1))).bind fun u38=>
  some ((((u38.1.1.1,u38.1.1.2.1,(),()),0,()),()),(u38.2.1,()))))))
 (cond (decide (p3.2.1>60))
  ((CL (p3.1,p3.2.1,p3.2.2.1,())).bind fun nP=>
  some ((((nP.1.1.1,nP.1.1.2.1,(),()),2,()),()),(nP.2.1,())))
 ((Ke u1.2.1 ((p1.1.getD ((AS (p3.1-1)).toNat) ([],false,0,())).1)).bind fun u40=>
 (Km (p0.1,p0.2.1,()) ((p1.1.getD ((AS (p3.1-1)).toNat) ([],false,0,())).1) u40.2.1).bind fun u41=>
 cond (!u41.1.1)
  ((CL (p3.1,p3.2.1,p3.2.2.1,())).bind fun u42=>
  some ((((u42.1.1.1,u42.1.1.2.1,(),()),3,()),()),(u42.2.1,())))
 ((Mx ((p1.1.getD ((AS (p3.1-1)).toNat) ([],false,0,())).1) u8.1.1 p4).bind fun u43=>
 (Is (p3.1,p3.2.1,p3.2.2.1,()) (u43.1.1.1,u43.1.1.2.1,u43.1.1.2.2.1,()) p3.1 (AS (p3.2.1+1))).bind fun u44=>
 some ((((u44.1.1.1,u44.1.1.2.1,(),()),0,()),()),(u44.2.1,()))))))))else none)))))
abbrev rP:Type:=ADe×ADd
def XL(CI CM:Int)(BS:Bool)(p1:ADW)(b0:AAG)(b1:AAa)(b2:AAG)(b3:AAX)(b4:AAt)(b5:AA9)(b6:ABQ)(b7:AAl):Option rP:=
 (CG p1.2.1 0 1).bind fun u1=>
 cond (!u1.1.1)
  (some (((((),CI,(),(),(),CM,(),(),(),(),BS,()),2,()),()),(b0,b1,b2,b3,b4,b5,b6,b7,())))
 (if(0:Int)≤p1.2.1∧p1.2.1<(b6.length:Int)then(
 if(0:Int)≤p1.2.1∧p1.2.1<(b6.length:Int)then(
 if(0:Int)≤p1.2.1∧p1.2.1<(b6.length:Int)then(
 (eW (b0,CI,b1,b2,b3,CM,b4,b5,b6,b7,BS,()) ((b6.getD (p1.2.1.toNat) (0,0,[],())).1)).bind fun u3=>
 (Ql (b0,CI,b1,b2,b3,CM,b4,b5,b6,b7,BS,()) ((b6.getD (p1.2.1.toNat) (0,0,[],())).1,(b6.getD (p1.2.1.toNat) (0,0,[],())).2.1,(b6.getD (p1.2.1.toNat) (0,0,[],())).2.2.1,()) p1.2.2.1).bind fun u4=>
 (Q1 (b0,CI,()) (b3,CM,()) u3.1.1 ((b6.getD (p1.2.1.toNat) (0,0,[],())).1,(b6.getD (p1.2.1.toNat) (0,0,[],())).2.1,(b6.getD (p1.2.1.toNat) (0,0,[],())).2.2.1,()) u4.2.1).bind fun u5=>
 cond (u5.1.1.2.1 !=0)
  (some (((((),CI,(),(),(),CM,(),(),(),(),BS,()),5,()),()),(b0,b1,b2,b3,b4,b5,b6,b7,())))
 (if(0:Int)≤p1.2.1∧p1.2.1<(b6.length:Int)then(
 some (((((),CI,(),(),(),CM,(),(),(),(),BS,()),0,()),()),(b0,b1,b2,b3,b4,b5,(b6.set (p1.2.1.toNat) (u5.1.1.1.1,u5.1.1.1.2.1,u5.2.1,())),b7,())))else none))else none)else none)else none)
abbrev PN:Type:=ADe×(List Int×AAa×List Int×AAX×Unit×AA9×ABQ×AAl×AAt×Unit)
abbrev V3:Type:=Int→List Int→AAa→List Int→AAX→AAt→AA9→ABQ→AAl→Int→Int→Bool→Int→Int→Int→Int→List UInt8→Int→Int→Bool→List Int→AAa→List Int→AAX→AAt→AA9→ABQ→AAl→AAt→Option PN
def Xn(R5:V3)(t7:Int)(b0:AAG)(b1:AAa)(b2:AAG)(b3:AAX)(b4:AAt)(b5:AA9)(b6:ABQ)(b7:AAl)(Dh Dz:Int)(CH:Bool)(kc Dr fB AVR:Int)(AXc:ABp)(Cr DJ:Int)(CB:Bool)(FC:AAG)(DR:AAa)(FV:AAG)(FU:AAX)(Dq:AAt)(EB:AA9)(EJ:ABQ)(QO:AAl)(uv:AAt):Option PN:=
 cond ((decide (t7<(b4.length:Int))))
  (cond (t7 !=Dr)
   (if(0:Int)≤t7∧t7<(b4.length:Int)then(
   if uv.length+1≤DE then(
   R5 (AS (t7+1)) b0 b1 b2 b3 b4 b5 b6 b7 Dh Dz CH kc Dr fB AVR AXc Cr DJ CB FC DR FV FU Dq EB EJ QO (uv++[((b4.getD (t7.toNat) (0,[],())).1,(b4.getD (t7.toNat) (0,[],())).2.1,())]))else none)else none)
  (R5 (AS (t7+1)) b0 b1 b2 b3 b4 b5 b6 b7 Dh Dz CH kc Dr fB AVR AXc Cr DJ CB FC DR FV FU Dq EB EJ QO uv))
 (some (((((),Dh,(),(),(),Dz,(),(),(),(),CH,()),0,()),()),(b0,b1,b2,b3,(),b5,b6,b7,uv,())))
def NQ:Nat→V3
 |0=>fun _ _ _ _ _ _ _ _ _ _ _ _ _ _ _ _ _ _ _ _ _ _ _ _ _ _ _ _ _=>none
 |n+1=>Xn (NQ n)
def Xr(R5:V3)(CI CM:Int)(BS:Bool)(p1:ADW)(b0:AAG)(b1:AAa)(b2:AAG)(b3:AAX)(b4:AAt)(b5:AA9)(b6:ABQ)(b7:AAl):Option PN:=
 (L4 (b0,CI,b1,b2,b3,CM,b4,b5,b6,b7,BS,()) p1.2.1).bind fun u1=>
 cond (!u1.1.1)
  (some (((((),CI,(),(),(),CM,(),(),(),(),BS,()),2,()),()),(b0,b1,b2,b3,(),b5,b6,b7,b4,())))
 (R5 0 b0 b1 b2 b3 b4 b5 b6 b7 CI CM BS p1.1 p1.2.1 p1.2.2.1 p1.2.2.2.1 p1.2.2.2.2.1 0 0 false [] [] [] [] [] [] [] [] [])
def XE(CI CM:Int)(BS:Bool)(p1:ADW)(b0:AAG)(b1:AAa)(b2:AAG)(b3:AAX)(b4:AAt)(b5:AA9)(b6:ABQ)(b7:AAl):Option PN:=Xr (NQ Ac) CI CM BS p1 b0 b1 b2 b3 b4 b5 b6 b7
abbrev Pw:Type:=ADj×ADh
abbrev SU:Type:=Int→Int→AA2→AA2→Int→Int→AA2→AA2→Int→AA2→AA2→Option Pw
def VK(R8:SU)(t1 t7:Int)(AM AE:AA2)(Ab DK:Int)(b2 b3:AA2)(Ml:Int)(b5 b6:AA2):Option Pw:=
 cond ((decide (t7<(AM.length:Int))))
  (if(0:Int)≤t7∧t7<(AM.length:Int)then(
  cond (decide (((AM.getD (t7.toNat) (0,0,false,[],())).1)>t1))
   (if(0:Int)≤t7∧t7<(AM.length:Int)then(
   if b5.length+1≤DE then(
   R8 t1 (AS (t7+1)) AM AE Ab DK b2 b3 Ml (b5++[((AM.getD (t7.toNat) (0,0,false,[],())).1,(AM.getD (t7.toNat) (0,0,false,[],())).2.1,(AM.getD (t7.toNat) (0,0,false,[],())).2.2.1,(AM.getD (t7.toNat) (0,0,false,[],())).2.2.2.1,())]) b6)else none)else none)
  (R8 t1 (AS (t7+1)) AM AE Ab DK b2 b3 Ml b5 b6))else none)
 (some (((((),(),Ml,()),true,()),()),(b5,b6,())))
def KW:Nat→SU
 |0=>fun _ _ _ _ _ _ _ _ _ _ _=>none
 |n+1=>VK (KW n)
def V0(R8:SU)(p0:ACn)(p1:Int):Option Pw:=
 (G4 (p0.1,p0.2.1,p0.2.2.1,())).bind fun u1=>
 cond (!u1.1.1)
  (some (((((),(),0,()),false,()),()),([],[],())))
 ((Es (p0.1,p0.2.1,p0.2.2.1,())).bind fun u2=>
 (Hn p1).bind fun u3=>
 cond (!u3.1.1)
  (some (((((),(),u2.1.1.2.2.1,()),false,()),()),(u2.2.1,u2.2.2.1,())))
 (R8 p1 0 p0.1 p0.2.1 p0.2.2.1 0 [] [] u2.1.1.2.2.1 [] u2.2.2.1))
def S5(p0:ACn)(p1:Int):Option Pw:=V0 (KW Ac) p0 p1
abbrev oS:Type:=ADe×ADd
def Um(CI CM:Int)(BS:Bool)(p1:ADW)(b0:AAG)(b1:AAa)(b2:AAG)(b3:AAX)(b4:AAt)(b5:AA9)(b6:ABQ)(b7:AAl):Option oS:=
 (Hj (b0,CI,b1,b2,b3,CM,b4,b5,b6,b7,BS,()) p1.2.1).bind fun u1=>
 cond (u1.1.1 !=0)
  (some (((((),CI,(),(),(),CM,(),(),(),(),BS,()),u1.1.1,()),()),(b0,b1,b2,b3,b4,b5,b6,b7,())))
 (if(0:Int)≤p1.2.1∧p1.2.1<(b1.length:Int)then(
 (NJ ((b1.getD (p1.2.1.toNat) ([],[],0,())).1,(b1.getD (p1.2.1.toNat) ([],[],0,())).2.1,(b1.getD (p1.2.1.toNat) ([],[],0,())).2.2.1,()) p1.2.2.1).bind fun u2=>
 cond (p1.1==16)
  (if(0:Int)≤p1.2.1∧p1.2.1<(b1.length:Int)then(
  (S5 ((b1.getD (p1.2.1.toNat) ([],[],0,())).1,(b1.getD (p1.2.1.toNat) ([],[],0,())).2.1,(b1.getD (p1.2.1.toNat) ([],[],0,())).2.2.1,()) CM).bind fun u3=>
  cond (!u3.1.1.2.1)
   (some (((((),CI,(),(),(),CM,(),(),(),(),BS,()),4,()),()),(b0,b1,b2,b3,b4,b5,b6,b7,())))
  (if(0:Int)≤p1.2.1∧p1.2.1<(b1.length:Int)then(
  some (((((),CI,(),(),(),CM,(),(),(),(),BS,()),0,()),()),(b0,(b1.set (p1.2.1.toNat) (u3.2.1,u3.2.2.1,u3.1.1.1.2.2.1,())),b2,b3,b4,b5,b6,b7,())))else none))else none)
 (cond (!u2.1.1.2.1)
  (some (((((),CI,(),(),(),CM,(),(),(),(),BS,()),4,()),()),(b0,b1,b2,b3,b4,b5,b6,b7,())))
 (if(0:Int)≤p1.2.1∧p1.2.1<(b1.length:Int)then(
 some (((((),CI,(),(),(),CM,(),(),(),(),BS,()),0,()),()),(b0,(b1.set (p1.2.1.toNat) (u2.2.1,u2.2.2.1,u2.1.1.1.2.2.1,())),b2,b3,b4,b5,b6,b7,())))else none)))else none)
abbrev kD:Type:=ADe×(List Int×AAa×Unit×Unit×Unit×Unit×ABQ×Unit×List Int×AAX×AAt×AA9×AAl×Unit)
def cU(CI CM:Int)(BS:Bool)(p1:ADW)(b0:AAG)(b1:AAa)(b2:AAG)(b3:AAX)(b4:AAt)(b5:AA9)(b6:ABQ)(b7:AAl):Option kD:=
 cond (p1.1==1)
  ((XS CI CM BS (p1.1,p1.2.1,p1.2.2.1,p1.2.2.2.1,p1.2.2.2.2.1,()) b0 b1 b2 b3 b4 b5 b6 b7).bind fun u1=>
  some (((((),u1.1.1.1.2.1,(),(),(),u1.1.1.1.2.2.2.2.2.1,(),(),(),(),u1.1.1.1.2.2.2.2.2.2.2.2.2.2.1,()),u1.1.1.2.1,()),()),(u1.2.1,u1.2.2.1,(),(),(),(),u1.2.2.2.2.2.2.2.1,(),u1.2.2.2.1,u1.2.2.2.2.2.2.2.2.2.1,u1.2.2.2.2.2.2.2.2.2.2.1,u1.2.2.2.2.2.2.2.2.2.2.2.1,u1.2.2.2.2.2.2.2.2.1,())))
 (cond (p1.1==2)
  ((Zj CI CM BS (p1.1,p1.2.1,p1.2.2.1,p1.2.2.2.1,p1.2.2.2.2.1,()) b0 b1 b2 b3 b4 b5 b6 b7).bind fun u5=>
  some (((((),u5.1.1.1.2.1,(),(),(),u5.1.1.1.2.2.2.2.2.1,(),(),(),(),u5.1.1.1.2.2.2.2.2.2.2.2.2.2.1,()),u5.1.1.2.1,()),()),(u5.2.1,u5.2.2.1,(),(),(),(),u5.2.2.2.2.2.2.2.1,(),u5.2.2.2.1,u5.2.2.2.2.1,u5.2.2.2.2.2.1,u5.2.2.2.2.2.2.1,u5.2.2.2.2.2.2.2.2.2.1,())))
 (cond (p1.1==3)
  ((Uu CI CM BS (p1.1,p1.2.1,p1.2.2.1,p1.2.2.2.1,p1.2.2.2.2.1,()) b0 b1 b2 b3 b4 b5 b6 b7).bind fun u7=>
  some (((((),u7.1.1.1.2.1,(),(),(),u7.1.1.1.2.2.2.2.2.1,(),(),(),(),u7.1.1.1.2.2.2.2.2.2.2.2.2.2.1,()),u7.1.1.2.1,()),()),(u7.2.1,u7.2.2.1,(),(),(),(),u7.2.2.2.2.2.2.2.1,(),u7.2.2.2.1,u7.2.2.2.2.1,u7.2.2.2.2.2.1,u7.2.2.2.2.2.2.1,u7.2.2.2.2.2.2.2.2.1,())))
 (cond (p1.1==4)
  ((XA CI CM BS (p1.1,p1.2.1,p1.2.2.1,p1.2.2.2.1,p1.2.2.2.2.1,()) b0 b1 b2 b3 b4 b5 b6 b7).bind fun u8=>
  some (((((),u8.1.1.1.2.1,(),(),(),u8.1.1.1.2.2.2.2.2.1,(),(),(),(),u8.1.1.1.2.2.2.2.2.2.2.2.2.2.1,()),u8.1.1.2.1,()),()),(u8.2.1,u8.2.2.1,(),(),(),(),u8.2.2.2.2.2.2.2.1,(),u8.2.2.2.1,u8.2.2.2.2.1,u8.2.2.2.2.2.1,u8.2.2.2.2.2.2.1,u8.2.2.2.2.2.2.2.2.1,())))
 (cond (p1.1==6)
  ((XZ CI CM BS (p1.1,p1.2.1,p1.2.2.1,p1.2.2.2.1,p1.2.2.2.2.1,()) b0 b1 b2 b3 b4 b5 b6 b7).bind fun u9=>
  some (((((),u9.1.1.1.2.1,(),(),(),u9.1.1.1.2.2.2.2.2.1,(),(),(),(),u9.1.1.1.2.2.2.2.2.2.2.2.2.2.1,()),u9.1.1.2.1,()),()),(u9.2.1,u9.2.2.1,(),(),(),(),u9.2.2.2.2.2.2.2.1,(),u9.2.2.2.2.2.2.2.2.2.1,u9.2.2.2.2.1,u9.2.2.2.2.2.1,u9.2.2.2.2.2.2.1,u9.2.2.2.2.2.2.2.2.1,())))
 (cond (p1.1==7)
  ((XY CI CM BS (p1.1,p1.2.1,p1.2.2.1,p1.2.2.2.1,p1.2.2.2.2.1,()) b0 b1 b2 b3 b4 b5 b6 b7).bind fun Kg=>
  some (((((),Kg.1.1.1.2.1,(),(),(),Kg.1.1.1.2.2.2.2.2.1,(),(),(),(),Kg.1.1.1.2.2.2.2.2.2.2.2.2.2.1,()),Kg.1.1.2.1,()),()),(Kg.2.1,Kg.2.2.1,(),(),(),(),Kg.2.2.2.2.2.2.2.1,(),Kg.2.2.2.2.2.2.2.2.2.1,Kg.2.2.2.2.1,Kg.2.2.2.2.2.1,Kg.2.2.2.2.2.2.1,Kg.2.2.2.2.2.2.2.2.1,())))
 (cond (p1.1==8)
  ((XJ CI CM BS b0 b1 b2 b3 b4 b5 b6 b7).bind fun Kc=>
  some (((((),Kc.1.1.1.2.1,(),(),(),Kc.1.1.1.2.2.2.2.2.1,(),(),(),(),Kc.1.1.1.2.2.2.2.2.2.2.2.2.2.1,()),Kc.1.1.2.1,()),()),(Kc.2.1,Kc.2.2.1,(),(),(),(),Kc.2.2.2.2.2.2.2.1,(),Kc.2.2.2.1,Kc.2.2.2.2.1,Kc.2.2.2.2.2.1,Kc.2.2.2.2.2.2.2.2.2.1,Kc.2.2.2.2.2.2.2.2.1,())))
 (cond (p1.1==9)
  ((XO CI CM BS (p1.1,p1.2.1,p1.2.2.1,p1.2.2.2.1,p1.2.2.2.2.1,()) b0 b1 b2 b3 b4 b5 b6 b7).bind fun Xb=>
  some (((((),Xb.1.1.1.2.1,(),(),(),Xb.1.1.1.2.2.2.2.2.1,(),(),(),(),Xb.1.1.1.2.2.2.2.2.2.2.2.2.2.1,()),Xb.1.1.2.1,()),()),(Xb.2.1,Xb.2.2.1,(),(),(),(),Xb.2.2.2.2.2.2.2.1,(),Xb.2.2.2.1,Xb.2.2.2.2.1,Xb.2.2.2.2.2.1,Xb.2.2.2.2.2.2.1,Xb.2.2.2.2.2.2.2.2.1,())))
 (cond (p1.1==10)
  ((XM CI CM BS b0 b1 b2 b3 b4 b5 b6 b7).bind fun gD=>
  some (((((),gD.1.1.1.2.1,(),(),(),gD.1.1.1.2.2.2.2.2.1,(),(),(),(),gD.1.1.1.2.2.2.2.2.2.2.2.2.2.1,()),gD.1.1.2.1,()),()),(gD.2.1,gD.2.2.1,(),(),(),(),gD.2.2.2.2.2.2.2.1,(),gD.2.2.2.1,gD.2.2.2.2.1,gD.2.2.2.2.2.1,gD.2.2.2.2.2.2.1,gD.2.2.2.2.2.2.2.2.1,())))
 (cond (p1.1==11)
  ((Y_ CI CM BS (p1.1,p1.2.1,p1.2.2.1,p1.2.2.2.1,p1.2.2.2.2.1,()) b0 b1 b2 b3 b4 b5 b6 b7).bind fun nM=>
  some (((((),nM.1.1.1.2.1,(),(),(),nM.1.1.1.2.2.2.2.2.1,(),(),(),(),nM.1.1.1.2.2.2.2.2.2.2.2.2.2.1,()),nM.1.1.2.1,()),()),(nM.2.1,nM.2.2.1,(),(),(),(),nM.2.2.2.2.2.2.2.1,(),nM.2.2.2.1,nM.2.2.2.2.1,nM.2.2.2.2.2.1,nM.2.2.2.2.2.2.1,nM.2.2.2.2.2.2.2.2.1,())))
 (cond (p1.1==12)
  ((U_ CI CM BS b0 b1 b2 b3 b4 b5 b6 b7).bind fun aQ=>
  some (((((),aQ.1.1.1.2.1,(),(),(),aQ.1.1.1.2.2.2.2.2.1,(),(),(),(),aQ.1.1.1.2.2.2.2.2.2.2.2.2.2.1,()),aQ.1.1.2.1,()),()),(aQ.2.1,aQ.2.2.1,(),(),(),(),aQ.2.2.2.2.2.2.2.1,(),aQ.2.2.2.1,aQ.2.2.2.2.2.2.2.2.2.1,aQ.2.2.2.2.2.1,aQ.2.2.2.2.2.2.2.2.2.2.1,aQ.2.2.2.2.2.2.2.2.1,())))
 (cond (p1.1==13)
  ((SK (b0,CI,()) (b3,CM,()) p1.2.1).bind fun gN=>
  cond (!gN.1.1.2.1)
   (some (((((),CI,(),(),(),CM,(),(),(),(),BS,()),4,()),()),(b0,b1,(),(),(),(),b6,(),b2,b3,b4,b5,b7,())))
  (some (((((),CI,(),(),(),gN.1.1.1.2.1,(),(),(),(),BS,()),0,()),()),(b0,b1,(),(),(),(),b6,(),b2,gN.2.1,b4,b5,b7,()))))
 (cond (p1.1==14)
  ((XL CI CM BS (p1.1,p1.2.1,p1.2.2.1,p1.2.2.2.1,p1.2.2.2.2.1,()) b0 b1 b2 b3 b4 b5 b6 b7).bind fun PT=>
  some (((((),PT.1.1.1.2.1,(),(),(),PT.1.1.1.2.2.2.2.2.1,(),(),(),(),PT.1.1.1.2.2.2.2.2.2.2.2.2.2.1,()),PT.1.1.2.1,()),()),(PT.2.1,PT.2.2.1,(),(),(),(),PT.2.2.2.2.2.2.2.1,(),PT.2.2.2.1,PT.2.2.2.2.1,PT.2.2.2.2.2.1,PT.2.2.2.2.2.2.1,PT.2.2.2.2.2.2.2.2.1,())))
 (cond (p1.1==15)
  ((XE CI CM BS (p1.1,p1.2.1,p1.2.2.1,p1.2.2.2.1,p1.2.2.2.2.1,()) b0 b1 b2 b3 b4 b5 b6 b7).bind fun oJ=>
  some (((((),oJ.1.1.1.2.1,(),(),(),oJ.1.1.1.2.2.2.2.2.1,(),(),(),(),oJ.1.1.1.2.2.2.2.2.2.2.2.2.2.1,()),oJ.1.1.2.1,()),()),(oJ.2.1,oJ.2.2.1,(),(),(),(),oJ.2.2.2.2.2.2.2.1,(),oJ.2.2.2.1,oJ.2.2.2.2.1,oJ.2.2.2.2.2.2.2.2.2.1,oJ.2.2.2.2.2.2.1,oJ.2.2.2.2.2.2.2.2.1,())))
 ((Um CI CM BS (p1.1,p1.2.1,p1.2.2.1,p1.2.2.2.1,p1.2.2.2.2.1,()) b0 b1 b2 b3 b4 b5 b6 b7).bind fun ar=>
 some (((((),ar.1.1.1.2.1,(),(),(),ar.1.1.1.2.2.2.2.2.1,(),(),(),(),ar.1.1.1.2.2.2.2.2.2.2.2.2.2.1,()),ar.1.1.2.1,()),()),(ar.2.1,ar.2.2.1,(),(),(),(),ar.2.2.2.2.2.2.2.1,(),ar.2.2.2.1,ar.2.2.2.2.1,ar.2.2.2.2.2.1,ar.2.2.2.2.2.2.1,ar.2.2.2.2.2.2.2.2.1,()))))))))))))))))
abbrev ph:Type:=ADe×ADd
def P0(p0:ABf)(p1:ADW):Option ph:=
 (Sa (p0.1,p0.2.1,p0.2.2.1,p0.2.2.2.1,p0.2.2.2.2.1,p0.2.2.2.2.2.1,p0.2.2.2.2.2.2.1,p0.2.2.2.2.2.2.2.1,p0.2.2.2.2.2.2.2.2.1,p0.2.2.2.2.2.2.2.2.2.1,p0.2.2.2.2.2.2.2.2.2.2.1,())).bind fun u1=>
 cond (!u1.1.1)
  (some (((((),0,(),(),(),0,(),(),(),(),false,()),1,()),()),([],[],[],[],[],[],[],[],())))
 ((Zp (p1.1,p1.2.1,p1.2.2.1,p1.2.2.2.1,p1.2.2.2.2.1,())).bind fun u2=>
 cond (!u2.1.1)
  (some (((((),0,(),(),(),0,(),(),(),(),false,()),1,()),()),([],[],[],[],[],[],[],[],())))
 ((Kn (p0.1,p0.2.1,p0.2.2.1,p0.2.2.2.1,p0.2.2.2.2.1,p0.2.2.2.2.2.1,p0.2.2.2.2.2.2.1,p0.2.2.2.2.2.2.2.1,p0.2.2.2.2.2.2.2.2.1,p0.2.2.2.2.2.2.2.2.2.1,p0.2.2.2.2.2.2.2.2.2.2.1,())).bind fun u3=>
 (cU u3.1.1.2.1 u3.1.1.2.2.2.2.2.1 u3.1.1.2.2.2.2.2.2.2.2.2.2.1 (p1.1,p1.2.1,p1.2.2.1,p1.2.2.2.1,p1.2.2.2.2.1,()) u3.2.1 u3.2.2.1 u3.2.2.2.1 u3.2.2.2.2.1 u3.2.2.2.2.2.1 u3.2.2.2.2.2.2.1 u3.2.2.2.2.2.2.2.1 u3.2.2.2.2.2.2.2.2.1).bind fun u4=>
 cond (u4.1.1.2.1 !=0)
  ((Kn (p0.1,p0.2.1,p0.2.2.1,p0.2.2.2.1,p0.2.2.2.2.1,p0.2.2.2.2.2.1,p0.2.2.2.2.2.2.1,p0.2.2.2.2.2.2.2.1,p0.2.2.2.2.2.2.2.2.1,p0.2.2.2.2.2.2.2.2.2.1,p0.2.2.2.2.2.2.2.2.2.2.1,())).bind fun D9=>
  some (((((),D9.1.1.2.1,(),(),(),D9.1.1.2.2.2.2.2.1,(),(),(),(),D9.1.1.2.2.2.2.2.2.2.2.2.2.1,()),u4.1.1.2.1,()),()),(D9.2.1,D9.2.2.1,D9.2.2.2.1,D9.2.2.2.2.1,D9.2.2.2.2.2.1,D9.2.2.2.2.2.2.1,D9.2.2.2.2.2.2.2.1,D9.2.2.2.2.2.2.2.2.1,())))
 (some (((((),u4.1.1.1.2.1,(),(),(),u4.1.1.1.2.2.2.2.2.1,(),(),(),(),u4.1.1.1.2.2.2.2.2.2.2.2.2.2.1,()),u4.1.1.2.1,()),()),(u4.2.1,u4.2.2.1,u4.2.2.2.2.2.2.2.2.2.1,u4.2.2.2.2.2.2.2.2.2.2.1,u4.2.2.2.2.2.2.2.2.2.2.2.1,u4.2.2.2.2.2.2.2.2.2.2.2.2.1,u4.2.2.2.2.2.2.2.1,u4.2.2.2.2.2.2.2.2.2.2.2.2.2.1,())))))
abbrev DG:Type:=(AKX×Unit)×(ADc×Unit×Unit×Unit×Unit×Unit×Unit×Unit×Unit×AFt×List Int×AAa×List Int×AAX×AAt×AA9×ABQ×AAl×Unit)
abbrev Hv:Type:=Int→Int→List Int→Int→Int→Int→Int→Bool→List Int→AAa→List Int→AAX→AAt→AA9→ABQ→AAl→Int→Int→Bool→List Int→AAa→List Int→AAX→AAt→AA9→ABQ→AAl→Int→List Int→List Int→Option DG
abbrev IC:Type:=Int→List Int→Int→Int→Int→Int→Bool→List Int→AAa→List Int→AAX→AAt→AA9→ABQ→AAl→Int→Int→Bool→List Int→AAa→List Int→AAX→AAt→AA9→ABQ→AAl→Int→List Int→List Int→Option DG
abbrev HO:Type:=Int→Int→List Int→Int→Int→Int→Int→Bool→List Int→AAa→List Int→AAX→AAt→AA9→ABQ→AAl→Int→Int→Bool→List Int→AAa→List Int→AAX→AAt→AA9→ABQ→AAl→Int→Int→Bool→Int→Int→Bool→List Int→AAa→List Int→AAX→AAt→AA9→ABQ→AAl→AFt→Option DG
def Rf(R4:Hv)(R7:IC)(uI:HO)(t1 t9:Int)(AM:AAG)(AE Ab Ar Di:Int)(D4:Bool)(b2:AAG)(b3:AAa)(b4:AAG)(b5:AAX)(b6:AAt)(b7:AA9)(b8:ABQ)(b9:AAl)(Cr DJ:Int)(CB:Bool)(FC:AAG)(DR:AAa)(FV:AAG)(FU:AAX)(Dq:AAt)(EB:AA9)(EJ:ABQ)(QO:AAl)(CC:Int)(qz wE:AAG):Option DG:=
 cond ((decide (t9<(qz.length:Int))))
  (if wE.length+1≤DE then(
  R4 t1 (AS (t9+1)) AM AE Ab Ar Di D4 b2 b3 b4 b5 b6 b7 b8 b9 Cr DJ CB FC DR FV FU Dq EB EJ QO CC qz (wE++[t9]))else none)
 (R7 t1 AM AE Ab Ar Di D4 b2 b3 b4 b5 b6 b7 b8 b9 Cr DJ CB FC DR FV FU Dq EB EJ QO CC qz wE)
def Rw(R4:Hv)(R7:IC)(uI:HO)(t1:Int)(AM:AAG)(AE Ab Ar Di:Int)(D4:Bool)(b2:AAG)(b3:AAa)(b4:AAG)(b5:AAX)(b6:AAt)(b7:AA9)(b8:ABQ)(b9:AAl)(Cr DJ:Int)(CB:Bool)(FC:AAG)(DR:AAa)(FV:AAG)(FU:AAX)(Dq:AAt)(EB:AA9)(EJ:ABQ)(QO:AAl)(CC:Int)(qz wE:AAG):Option DG:=
 cond (decide (CC>1))
  ((Ey (qz,CC,()) wE).bind fun u3=>
  cond (!u3.1.1)
   (R7 t1 AM AE Ab Ar Di D4 b2 b3 b4 b5 b6 b7 b8 b9 Cr DJ CB FC DR FV FU Dq EB EJ QO (AS (CC-1)) qz wE)
  ((Hi (qz,CC,())).bind fun u4=>
  (AL (AS (t1+1)) AM AE Ab).bind fun u5=>
  uI u5.1.1 0 u5.2.1.1 u5.2.1.2.1 u5.2.1.2.2.1 Ar Di D4 b2 b3 b4 b5 b6 b7 b8 b9 Cr DJ CB FC DR FV FU Dq EB EJ QO u4.1.1.1.2.1 u4.1.1.1.2.2.2.2.2.1 u4.1.1.1.2.2.2.2.2.2.2.2.2.2.1 u4.1.1.1.2.1 u4.1.1.1.2.2.2.2.2.1 u4.1.1.1.2.2.2.2.2.2.2.2.2.2.1 u4.2.1 u4.2.2.1 u4.2.2.2.1 u4.2.2.2.2.1 u4.2.2.2.2.2.1 u4.2.2.2.2.2.2.1 u4.2.2.2.2.2.2.2.1 u4.2.2.2.2.2.2.2.2.1 []))
 ((Hi (qz,CC,())).bind fun u6=>
 (AL (AS (t1+1)) AM AE Ab).bind fun u7=>
 uI u7.1.1 0 u7.2.1.1 u7.2.1.2.1 u7.2.1.2.2.1 Ar Di D4 b2 b3 b4 b5 b6 b7 b8 b9 Cr DJ CB FC DR FV FU Dq EB EJ QO u6.1.1.1.2.1 u6.1.1.1.2.2.2.2.2.1 u6.1.1.1.2.2.2.2.2.2.2.2.2.2.1 u6.1.1.1.2.1 u6.1.1.1.2.2.2.2.2.1 u6.1.1.1.2.2.2.2.2.2.2.2.2.2.1 u6.2.1 u6.2.2.1 u6.2.2.2.1 u6.2.2.2.2.1 u6.2.2.2.2.2.1 u6.2.2.2.2.2.2.1 u6.2.2.2.2.2.2.2.1 u6.2.2.2.2.2.2.2.2.1 [])
def QX(R4:Hv)(R7:IC)(uI:HO)(t14 t15:Int)(AM:AAG)(AE Ab Ar Di:Int)(D4:Bool)(b2:AAG)(b3:AAa)(b4:AAG)(b5:AAX)(b6:AAt)(b7:AA9)(b8:ABQ)(b9:AAl)(Cr DJ:Int)(CB:Bool)(FC:AAG)(DR:AAa)(FV:AAG)(FU:AAX)(Dq:AAt)(EB:AA9)(EJ:ABQ)(QO:AAl)(CC VJ:Int)(AAR:Bool)(AAh AAy:Int)(vL:Bool)(b29:AAG)(b30:AAa)(b31:AAG)(b32:AAX)(b33:AAt)(b34:AA9)(b35:ABQ)(b36:AAl)(b37:AFt):Option DG:=
 cond (decide (t15<t14))
  ((P5 (b29,AAh,b30,b31,b32,AAy,b33,b34,b35,b36,vL,()) AM AE Ab).bind fun u8=>
  if b37.length+1≤DE then(
  let x9:AFt:=b37++[(u8.1.1.1,u8.1.1.2.1,u8.1.1.2.2.1,u8.1.1.2.2.2.1,u8.1.1.2.2.2.2.1,())]
  (P0 (b29,AAh,b30,b31,b32,AAy,b33,b34,b35,b36,vL,()) (u8.1.1.1,u8.1.1.2.1,u8.1.1.2.2.1,u8.1.1.2.2.2.1,u8.1.1.2.2.2.2.1,())).bind fun D9=>
  cond (D9.1.1.2.1==0)
   (uI t14 (AS (t15+1)) u8.2.1.1 u8.2.1.2.1 u8.2.1.2.2.1 Ar Di D4 b2 b3 b4 b5 b6 b7 b8 b9 Cr DJ CB FC DR FV FU Dq EB EJ QO CC VJ AAR D9.1.1.1.2.1 D9.1.1.1.2.2.2.2.2.1 D9.1.1.1.2.2.2.2.2.2.2.2.2.2.1 D9.2.1 D9.2.2.1 D9.2.2.2.1 D9.2.2.2.2.1 D9.2.2.2.2.2.1 D9.2.2.2.2.2.2.1 D9.2.2.2.2.2.2.2.1 D9.2.2.2.2.2.2.2.2.1 x9)
  (uI t14 (AS (t15+1)) u8.2.1.1 u8.2.1.2.1 u8.2.1.2.2.1 Ar Di D4 b2 b3 b4 b5 b6 b7 b8 b9 Cr DJ CB FC DR FV FU Dq EB EJ QO CC VJ AAR AAh AAy vL b29 b30 b31 b32 b33 b34 b35 b36 x9))else none)
 (some (((((),CC,(),(),(),VJ,(),(),(),(),AAR,()),(),((),AAh,(),(),(),AAy,(),(),(),(),vL,()),()),()),((AM,AE,Ab,()),(),(),(),(),(),(),(),(),b37,b29,b30,b31,b32,b33,b34,b35,b36,())))
mutual
def Ez:Nat→Hv
 |0=>fun _ _ _ _ _ _ _ _ _ _ _ _ _ _ _ _ _ _ _ _ _ _ _ _ _ _ _ _ _ _=>none
 |n+1=>Rf (Ez n) (E7 n) (Dl n)
def E7:Nat→IC
 |0=>fun _ _ _ _ _ _ _ _ _ _ _ _ _ _ _ _ _ _ _ _ _ _ _ _ _ _ _ _ _=>none
 |n+1=>Rw (Ez n) (E7 n) (Dl n)
def Dl:Nat→HO
 |0=>fun _ _ _ _ _ _ _ _ _ _ _ _ _ _ _ _ _ _ _ _ _ _ _ _ _ _ _ _ _ _ _ _ _ _ _ _ _ _ _ _ _ _=>none
 |n+1=>QX (Ez n) (E7 n) (Dl n)
end
def Ri(R4:Hv)(R7:IC)(uI:HO)(p1:Int)(AM:AAG)(AE Ab:Int):Option DG:=
 (L_ AM AE Ab).bind fun u1=>
 R4 p1 0 u1.2.1.1 u1.2.1.2.1 u1.2.1.2.2.1 0 0 false [] [] [] [] [] [] [] [] 0 0 false [] [] [] [] [] [] [] [] u1.1.1.2.1 u1.2.2.1 []
def Kq(p1:Int)(AM:AAG)(AE Ab:Int):Option DG:=Ri (Ez Ac) (E7 Ac) (Dl Ac) p1 AM AE Ab
abbrev im:Type:=AGk×ADu
def MZ(AM:AAG)(AE Ab:Int):Option im:=
 (AL 3 AM AE Ab).bind fun u1=>
 (AL 6 u1.2.1.1 u1.2.1.2.1 u1.2.1.2.2.1).bind fun u2=>
 (CN (AS (1+u1.1.1)) (AS (1+u2.1.1))).bind fun u3=>
 (Fh [[],[97],[98,99],[0],[119,111,114,100]] u2.2.1.1 u2.2.1.2.1 u2.2.1.2.2.1).bind fun u4=>
 (BA 3 u4.2.1.1 u4.2.1.2.1 u4.2.1.2.2.1).bind fun u5=>
 cond (u5.1.1)
  ((Cn u3.1.1).bind fun u6=>
  (AL 3 u5.2.1.1 u5.2.1.2.1 u5.2.1.2.2.1).bind fun u7=>
  let x8:Int:=AS ((AS (u6.1.1+1))+u7.1.1)
  (BA 2 u7.2.1.1 u7.2.1.2.1 u7.2.1.2.2.1).bind fun u9=>
  cond (u9.1.1)
   (some (((u3.1.1,x8,true,[],()),()),((u9.2.1.1,u9.2.1.2.1,u9.2.1.2.2.1,()),())))
  (some (((u3.1.1,x8,false,u4.1.1,()),()),((u9.2.1.1,u9.2.1.2.1,u9.2.1.2.2.1,()),()))))
 (some (((u3.1.1,0,false,u4.1.1,()),()),((u5.2.1.1,u5.2.1.2.1,u5.2.1.2.2.1,()),())))
abbrev CW:Type:=AEp×AKg
abbrev Ij:Type:=Int→Int→List Int→Int→Int→Int→AA2→AA2→Int→AA2→AA2→Option CW
abbrev Hs:Type:=Int→List Int→Int→Int→Int→AA2→AA2→Int→AA2→AA2→Option CW
abbrev Hu:Type:=Int→Int→List Int→Int→Int→Int→AA2→AA2→Int→AA2→AA2→Option CW
def S_(R4:Ij)(R20:Hs)(R23:Hu)(t4 t5:Int)(AM:AAG)(AE Ab DK:Int)(b2 b3:AA2)(Ml:Int)(b5 b6:AA2):Option CW:=
 cond (decide (t5<t4))
  ((MZ AM AE Ab).bind fun u2=>
  (Nl (b5,b6,Ml,()) (u2.1.1.1,u2.1.1.2.1,u2.1.1.2.2.1,u2.1.1.2.2.2.1,())).bind fun u3=>
  (AL 6 u2.2.1.1 u2.2.1.2.1 u2.2.1.2.2.1).bind fun u4=>
  cond (u4.1.1==0)
   ((Jv (b5,b6,Ml,())).bind fun u5=>
   cond (u5.1.1.2.1)
    (R4 t4 (AS (t5+1)) u4.2.1.1 u4.2.1.2.1 u4.2.1.2.2.1 DK b2 b3 u5.1.1.1.2.2.1 u5.2.1 u5.2.2.1)
   (R4 t4 (AS (t5+1)) u4.2.1.1 u4.2.1.2.1 u4.2.1.2.2.1 DK b2 b3 Ml b5 b6))
  (cond (u4.1.1==1)
   ((Jv (u3.2.1,u3.2.2.1,u3.1.1.1.2.2.1,())).bind fun u6=>
   cond (u6.1.1.2.1)
    (R4 t4 (AS (t5+1)) u4.2.1.1 u4.2.1.2.1 u4.2.1.2.2.1 DK b2 b3 u6.1.1.1.2.2.1 u6.2.1 u6.2.2.1)
   (R4 t4 (AS (t5+1)) u4.2.1.1 u4.2.1.2.1 u4.2.1.2.2.1 DK b2 b3 Ml b5 b6))
  (cond (u4.1.1==2)
   ((BA 3 u4.2.1.1 u4.2.1.2.1 u4.2.1.2.2.1).bind fun u7=>
   cond (u7.1.1)
    ((AL 4 u7.2.1.1 u7.2.1.2.1 u7.2.1.2.2.1).bind fun u8=>
    (O2 (b5,b6,Ml,()) u8.1.1).bind fun u9=>
    cond (u9.1.1.2.1)
     (R4 t4 (AS (t5+1)) u8.2.1.1 u8.2.1.2.1 u8.2.1.2.2.1 DK b2 b3 u9.1.1.1.2.2.1 u9.2.1 u9.2.2.1)
    (R4 t4 (AS (t5+1)) u8.2.1.1 u8.2.1.2.1 u8.2.1.2.2.1 DK b2 b3 Ml b5 b6))
   (cond (u3.1.1.2.1)
    (R4 t4 (AS (t5+1)) u7.2.1.1 u7.2.1.2.1 u7.2.1.2.2.1 DK b2 b3 u3.1.1.1.2.2.1 u3.2.1 u3.2.2.1)
   (R4 t4 (AS (t5+1)) u7.2.1.1 u7.2.1.2.1 u7.2.1.2.2.1 DK b2 b3 Ml b5 b6)))
  (cond (u3.1.1.2.1)
   (R4 t4 (AS (t5+1)) u4.2.1.1 u4.2.1.2.1 u4.2.1.2.2.1 DK b2 b3 u3.1.1.1.2.2.1 u3.2.1 u3.2.2.1)
  (R4 t4 (AS (t5+1)) u4.2.1.1 u4.2.1.2.1 u4.2.1.2.2.1 DK b2 b3 Ml b5 b6)))))
 ((BA 40 AM AE Ab).bind fun bf=>
 cond (bf.1.1)
  (R20 1 bf.2.1.1 bf.2.1.2.1 bf.2.1.2.2.1 DK b2 b3 Ml [] b6)
 (some ((((),(),Ml,()),()),((bf.2.1.1,bf.2.1.2.1,bf.2.1.2.2.1,()),b5,b6,()))))
def Rx(R4:Ij)(R20:Hs)(R23:Hu)(t8:Int)(AM:AAG)(AE Ab DK:Int)(b2 b3:AA2)(Ml:Int)(b5 b6:AA2):Option CW:=
 cond (decide (t8≤4))
  (R23 t8 1 AM AE Ab DK b2 b3 Ml b5 b6)
 (some ((((),(),Ml,()),()),((AM,AE,Ab,()),b5,b6,())))
def Rt(R4:Ij)(R20:Hs)(R23:Hu)(t8 t9:Int)(AM:AAG)(AE Ab DK:Int)(b2 b3:AA2)(Ml:Int)(b5 b6:AA2):Option CW:=
 cond (decide (t9≤50))
  ((CN t8 t9).bind fun gT=>
  if b5.length+1≤DE then(
  R23 t8 (AS (t9+1)) AM AE Ab DK b2 b3 Ml (b5++[(gT.1.1,0,false,[],())]) b6)else none)
 (R20 (AS (t8+1)) AM AE Ab DK b2 b3 Ml b5 b6)
mutual
def EY:Nat→Ij
 |0=>fun _ _ _ _ _ _ _ _ _ _ _=>none
 |n+1=>S_ (EY n) (Eu n) (Et n)
def Eu:Nat→Hs
 |0=>fun _ _ _ _ _ _ _ _ _ _=>none
 |n+1=>Rx (EY n) (Eu n) (Et n)
def Et:Nat→Hu
 |0=>fun _ _ _ _ _ _ _ _ _ _ _=>none
 |n+1=>Rt (EY n) (Eu n) (Et n)
end
def TK(R4:Ij)(R20:Hs)(R23:Hu)(AM:AAG)(AE Ab:Int):Option CW:=
 (AL 8 AM AE Ab).bind fun u1=>
 R4 u1.1.1 0 u1.2.1.1 u1.2.1.2.1 u1.2.1.2.2.1 0 [] [] 0 [] []
def GJ(AM:AAG)(AE Ab:Int):Option CW:=TK (EY Ac) (Eu Ac) (Et Ac) AM AE Ab
abbrev RH:Type:=AB5×ADu
def FJ(AM:AAG)(AE Ab:Int):Option RH:=
 (AL 3 AM AE Ab).bind fun u1=>
 (AL 6 u1.2.1.1 u1.2.1.2.1 u1.2.1.2.2.1).bind fun u2=>
 (CN (AS (1+u1.1.1)) (AS (1+u2.1.1))).bind fun u3=>
 (AL 15 u2.2.1.1 u2.2.1.2.1 u2.2.1.2.2.1).bind fun u4=>
 cond (u4.1.1==0)
  ((CQ [0,(-1),4294967296,4294967297,9223372036854775807,(-9223372036854775808)] u4.2.1.1 u4.2.1.2.1 u4.2.1.2.2.1).bind fun u5=>
  some ((u5.1.1,()),((u5.2.1.1,u5.2.1.2.1,u5.2.1.2.2.1,()),())))
 (cond (u4.1.1==1)
  ((CQ [0,30,31] u4.2.1.1 u4.2.1.2.1 u4.2.1.2.2.1).bind fun u6=>
  (CQ [0,60,61] u6.2.1.1 u6.2.1.2.1 u6.2.1.2.2.1).bind fun u7=>
  (CN u6.1.1 u7.1.1).bind fun u8=>
  some ((u8.1.1,()),((u7.2.1.1,u7.2.1.2.1,u7.2.1.2.2.1,()),())))
 (some ((u3.1.1,()),((u4.2.1.1,u4.2.1.2.1,u4.2.1.2.2.1,()),()))))
abbrev sj:Type:=AGk×ADu
def Re(AM:AAG)(AE Ab:Int):Option sj:=
 (MZ AM AE Ab).bind fun u1=>
 (AL 15 u1.2.1.1 u1.2.1.2.1 u1.2.1.2.2.1).bind fun u2=>
 cond (u2.1.1==0)
  ((FJ u2.2.1.1 u2.2.1.2.1 u2.2.1.2.2.1).bind fun u3=>
  some (((u3.1.1,u1.1.1.2.1,u1.1.1.2.2.1,u1.1.1.2.2.2.1,()),()),((u3.2.1.1,u3.2.1.2.1,u3.2.1.2.2.1,()),())))
 (cond (u2.1.1==1)
  ((CQ [(-1),1,30,31] u2.2.1.1 u2.2.1.2.1 u2.2.1.2.2.1).bind fun u4=>
  some (((u1.1.1.1,u4.1.1,u1.1.1.2.2.1,u1.1.1.2.2.2.1,()),()),((u4.2.1.1,u4.2.1.2.1,u4.2.1.2.2.1,()),())))
 (cond (u2.1.1==2)
  (some (((u1.1.1.1,u1.1.1.2.1,true,u1.1.1.2.2.2.1,()),()),((u2.2.1.1,u2.2.1.2.1,u2.2.1.2.2.1,()),())))
 (cond (u2.1.1==3)
  ((AL 2 u2.2.1.1 u2.2.1.2.1 u2.2.1.2.2.1).bind fun u5=>
  if(0:Int)≤(AS (40+u5.1.1))∧(AS (40+u5.1.1))≤(AS (40+u5.1.1))∧(AS (40+u5.1.1))≤(DE:Int)then(
  some (((u1.1.1.1,u1.1.1.2.1,u1.1.1.2.2.1,((List.replicate ((AS (40+u5.1.1)).toNat) 0).map fun n:Int=>UInt8.ofNat n.toNat),()),()),((u5.2.1.1,u5.2.1.2.1,u5.2.1.2.2.1,()),())))else none)
 (some (((u1.1.1.1,u1.1.1.2.1,u1.1.1.2.2.1,u1.1.1.2.2.2.1,()),()),((u2.2.1.1,u2.2.1.2.1,u2.2.1.2.2.1,()),()))))))
abbrev Nt:Type:=AEp×AKg
abbrev V9:Type:=List Int→Int→Int→Int→AA2→AA2→Int→AA2→AA2→Option Nt
def Yh(R10:V9)(AM:AAG)(AE Ab DK:Int)(b2 b3:AA2)(Ml:Int)(b5 b6:AA2):Option Nt:=
 (AL 2 AM AE Ab).bind fun Kc=>
 cond ((decide ((b6.length:Int)<(AS (20+Kc.1.1)))))
  ((CN 5 1).bind fun u16=>
  if b6.length+1≤DE then(
  R10 Kc.2.1.1 Kc.2.1.2.1 Kc.2.1.2.2.1 DK b2 b3 Ml b5 (b6++[(u16.1.1,0,false,[],())]))else none)
 (some ((((),(),Ml,()),()),((Kc.2.1.1,Kc.2.1.2.1,Kc.2.1.2.2.1,()),b5,b6,())))
def NL:Nat→V9
 |0=>fun _ _ _ _ _ _ _ _ _=>none
 |n+1=>Yh (NL n)
def ZI(R10:V9)(AM:AAG)(AE Ab:Int):Option Nt:=
 (GJ AM AE Ab).bind fun u1=>
 (AL 25 u1.2.1.1 u1.2.1.2.1 u1.2.1.2.2.1).bind fun u2=>
 cond (u2.1.1==0)
  ((CQ [(-1),30,31] u2.2.1.1 u2.2.1.2.1 u2.2.1.2.2.1).bind fun u3=>
  some ((((),(),u3.1.1,()),()),((u3.2.1.1,u3.2.1.2.1,u3.2.1.2.2.1,()),u1.2.2.1,u1.2.2.2.1,())))
 (cond (u2.1.1==1)
  ((Re u2.2.1.1 u2.2.1.2.1 u2.2.1.2.2.1).bind fun u4=>
  if u1.2.2.1.length+1≤DE then(
  some ((((),(),u1.1.1.2.2.1,()),()),((u4.2.1.1,u4.2.1.2.1,u4.2.1.2.2.1,()),(u1.2.2.1++[(u4.1.1.1,u4.1.1.2.1,u4.1.1.2.2.1,u4.1.1.2.2.2.1,())]),u1.2.2.2.1,())))else none)
 (cond (u2.1.1==2)
  ((Re u2.2.1.1 u2.2.1.2.1 u2.2.1.2.2.1).bind fun u9=>
  if u1.2.2.2.1.length+1≤DE then(
  some ((((),(),u1.1.1.2.2.1,()),()),((u9.2.1.1,u9.2.1.2.1,u9.2.1.2.2.1,()),u1.2.2.1,(u1.2.2.2.1++[(u9.1.1.1,u9.1.1.2.1,u9.1.1.2.2.1,u9.1.1.2.2.2.1,())]),())))else none)
 (cond (u2.1.1==3)
  (R10 u2.2.1.1 u2.2.1.2.1 u2.2.1.2.2.1 0 [] [] u1.1.1.2.2.1 u1.2.2.1 u1.2.2.2.1)
 (some ((((),(),u1.1.1.2.2.1,()),()),((u2.2.1.1,u2.2.1.2.1,u2.2.1.2.2.1,()),u1.2.2.1,u1.2.2.2.1,()))))))
def VX(AM:AAG)(AE Ab:Int):Option Nt:=ZI (NL Ac) AM AE Ab
abbrev Mt:Type:=ADg×AKj
abbrev QG:Type:=Int→List Int→Int→Int→List Int→Int→Int→AAX→Int→AAX→Option Mt
def TX(R3:QG)(t6:Int)(AM:AAG)(AE Ab:Int)(BJ:AAG)(Ar LC:Int)(b3:AAX)(fu:Int)(b5:AAX):Option Mt:=
 (AL 7 AM AE Ab).bind fun u1=>
 cond (decide (t6<u1.1.1))
  ((H5 (BJ,Ar,()) u1.2.1.1 u1.2.1.2.1 u1.2.1.2.2.1).bind fun u2=>
  (Mr (BJ,Ar,()) (b5,fu,()) u2.2.2.1).bind fun u3=>
  (AL 4 u2.2.1.1 u2.2.1.2.1 u2.2.1.2.2.1).bind fun u4=>
  cond (u4.1.1==0)
   ((AL 5 u4.2.1.1 u4.2.1.2.1 u4.2.1.2.2.1).bind fun u5=>
   (QZ (BJ,Ar,()) (b5,fu,()) (b5.length:Int) u5.1.1).bind fun u6=>
   cond (u6.1.1.2.1)
    (R3 (AS (t6+1)) u5.2.1.1 u5.2.1.2.1 u5.2.1.2.2.1 BJ Ar LC b3 u6.1.1.1.2.1 u6.2.1)
   (R3 (AS (t6+1)) u5.2.1.1 u5.2.1.2.1 u5.2.1.2.2.1 BJ Ar LC b3 fu b5))
  (cond (u4.1.1==1)
   ((AL 2 u4.2.1.1 u4.2.1.2.1 u4.2.1.2.2.1).bind fun u7=>
   (AL 4 u7.2.1.1 u7.2.1.2.1 u7.2.1.2.2.1).bind fun u8=>
   (CN (AS (1+u7.1.1)) (AS (1+u8.1.1))).bind fun u9=>
   (SK (BJ,Ar,()) (b5,fu,()) u9.1.1).bind fun D9=>
   cond (D9.1.1.2.1)
    (R3 (AS (t6+1)) u8.2.1.1 u8.2.1.2.1 u8.2.1.2.2.1 BJ Ar LC b3 D9.1.1.1.2.1 D9.2.1)
   (R3 (AS (t6+1)) u8.2.1.1 u8.2.1.2.1 u8.2.1.2.2.1 BJ Ar LC b3 fu b5))
  (cond (u3.1.1.2.2.1)
   (R3 (AS (t6+1)) u4.2.1.1 u4.2.1.2.1 u4.2.1.2.2.1 BJ Ar LC b3 u3.1.1.1.2.1 u3.2.1)
  (R3 (AS (t6+1)) u4.2.1.1 u4.2.1.2.1 u4.2.1.2.2.1 BJ Ar LC b3 fu b5))))
 (some ((((),fu,()),()),((u1.2.1.1,u1.2.1.2.1,u1.2.1.2.2.1,()),b5,())))
def G7:Nat→QG
 |0=>fun _ _ _ _ _ _ _ _ _ _=>none
 |n+1=>TX (G7 n)
def Ta(R3:QG)(p1:ABU)(AM:AAG)(AE Ab:Int):Option Mt:=
 R3 0 AM AE Ab p1.1 p1.2.1 0 [] 0 []
def Pf(p1:ABU)(AM:AAG)(AE Ab:Int):Option Mt:=Ta (G7 Ac) p1 AM AE Ab
abbrev Nc:Type:=ADg×AKj
abbrev WD:Type:=List Int→List Int→Int→Int→Int→AAX→Int→AAX→Option Nc
def YY(R17:WD)(t7 AM:AAG)(AE Ab Ar:Int)(b2:AAX)(dy:Int)(b4:AAX):Option Nc:=
 (AL 2 AM AE Ab).bind fun Kg=>
 cond ((decide ((b4.length:Int)<(AS (30+Kg.1.1)))))
  (if b4.length+1≤DE then(
  R17 t7 Kg.2.1.1 Kg.2.1.2.1 Kg.2.1.2.2.1 Ar b2 dy (b4++[(t7,false,0,())]))else none)
 (some ((((),dy,()),()),((Kg.2.1.1,Kg.2.1.2.1,Kg.2.1.2.2.1,()),b4,())))
def NT:Nat→WD
 |0=>fun _ _ _ _ _ _ _ _=>none
 |n+1=>YY (NT n)
def Zk(R17:WD)(p1:ABU)(AM:AAG)(AE Ab:Int):Option Nc:=
 (Pf (p1.1,p1.2.1,()) AM AE Ab).bind fun u1=>
 let x2:Int:=(u1.2.2.1.length:Int)
 (AL 25 u1.2.1.1 u1.2.1.2.1 u1.2.1.2.2.1).bind fun u3=>
 cond (u3.1.1==0)
  ((FJ u3.2.1.1 u3.2.1.2.1 u3.2.1.2.2.1).bind fun u4=>
  some ((((),u4.1.1,()),()),((u4.2.1.1,u4.2.1.2.1,u4.2.1.2.2.1,()),u1.2.2.1,())))
 (cond (u3.1.1==1)
  (cond (decide (x2>0))
   (if(0:Int)≤AS (x2-1)∧AS (x2-1)<(u1.2.2.1.length:Int)then(
   some ((((),u1.1.1.2.1,()),()),((u3.2.1.1,u3.2.1.2.1,u3.2.1.2.2.1,()),(u1.2.2.1.set ((AS (x2-1)).toNat) ((u1.2.2.1.getD ((AS (x2-1)).toNat) ([],false,0,())).1,true,(u1.2.2.1.getD ((AS (x2-1)).toNat) ([],false,0,())).2.2.1,())),())))else none)
  (some ((((),u1.1.1.2.1,()),()),((u3.2.1.1,u3.2.1.2.1,u3.2.1.2.2.1,()),u1.2.2.1,()))))
 (cond (u3.1.1==2)
  (cond (decide (x2>0))
   ((CQ [(-1),1,60,61] u3.2.1.1 u3.2.1.2.1 u3.2.1.2.2.1).bind fun u6=>
   if(0:Int)≤(0:Int)∧(0:Int)<(u1.2.2.1.length:Int)then(
   some ((((),u1.1.1.2.1,()),()),((u6.2.1.1,u6.2.1.2.1,u6.2.1.2.2.1,()),(u1.2.2.1.set 0 ((u1.2.2.1.getD 0 ([],false,0,())).1,(u1.2.2.1.getD 0 ([],false,0,())).2.1,u6.1.1,())),())))else none)
  (some ((((),u1.1.1.2.1,()),()),((u3.2.1.1,u3.2.1.2.1,u3.2.1.2.2.1,()),u1.2.2.1,()))))
 (cond (u3.1.1==3)
  (cond (decide (x2>0))
   ((FP (p1.1,p1.2.1,()) u3.2.1.1 u3.2.1.2.1 u3.2.1.2.2.1).bind fun u8=>
   if(0:Int)≤(0:Int)∧(0:Int)<(u1.2.2.1.length:Int)then(
   some ((((),u1.1.1.2.1,()),()),((u8.2.1.1,u8.2.1.2.1,u8.2.1.2.2.1,()),(u1.2.2.1.set 0 (u8.2.2.1,(u1.2.2.1.getD 0 ([],false,0,())).2.1,(u1.2.2.1.getD 0 ([],false,0,())).2.2.1,())),())))else none)
  (some ((((),u1.1.1.2.1,()),()),((u3.2.1.1,u3.2.1.2.1,u3.2.1.2.2.1,()),u1.2.2.1,()))))
 (cond (u3.1.1==4)
  ((H5 (p1.1,p1.2.1,()) u3.2.1.1 u3.2.1.2.1 u3.2.1.2.2.1).bind fun D9=>
  R17 D9.2.2.1 D9.2.1.1 D9.2.1.2.1 D9.2.1.2.2.1 0 [] u1.1.1.2.1 u1.2.2.1)
 (some ((((),u1.1.1.2.1,()),()),((u3.2.1.1,u3.2.1.2.1,u3.2.1.2.2.1,()),u1.2.2.1,())))))))
def VN(p1:ABU)(AM:AAG)(AE Ab:Int):Option Nc:=Zk (NT Ac) p1 AM AE Ab
abbrev NG:Type:=AE9×AKk
abbrev QA:Type:=Int→List Int→Int→Int→List Int→Int→Int→AB4→Int→AB4→Option NG
def Ss(R3:QA)(t6:Int)(AM:AAG)(AE Ab:Int)(BJ:AAG)(Ar It:Int)(b3:AB4)(jx:Int)(b5:AB4):Option NG:=
 (AL 14 AM AE Ab).bind fun u2=>
 cond (decide (t6<u2.1.1))
  ((Fh [[],[97],[98,99]] u2.2.1.1 u2.2.1.2.1 u2.2.1.2.2.1).bind fun u3=>
  (G3 (BJ,Ar,()) (jx,b5,()) u3.1.1).bind fun u4=>
  (BA 2 u3.2.1.1 u3.2.1.2.1 u3.2.1.2.2.1).bind fun u5=>
  cond (u5.1.1)
   ((FY (b5.length:Int) 1).bind fun u6=>
   (AL u6.1.1 u5.2.1.1 u5.2.1.2.1 u5.2.1.2.2.1).bind fun u7=>
   (AL (BJ.length:Int) u7.2.1.1 u7.2.1.2.1 u7.2.1.2.2.1).bind fun u8=>
   (Dv (BJ,Ar,()) (jx,b5,()) (AS (1+u7.1.1)) u8.1.1).bind fun u9=>
   cond (u9.1.1.2.1)
    (R3 (AS (t6+1)) u8.2.1.1 u8.2.1.2.1 u8.2.1.2.2.1 BJ Ar It b3 u9.1.1.1.1 u9.2.1)
   (R3 (AS (t6+1)) u8.2.1.1 u8.2.1.2.1 u8.2.1.2.2.1 BJ Ar It b3 jx b5))
  (cond (u4.1.1.2.2.1)
   (R3 (AS (t6+1)) u5.2.1.1 u5.2.1.2.1 u5.2.1.2.2.1 BJ Ar It b3 u4.1.1.1.1 u4.2.1)
  (R3 (AS (t6+1)) u5.2.1.1 u5.2.1.2.1 u5.2.1.2.2.1 BJ Ar It b3 jx b5)))
 (some (((jx,(),()),()),((u2.2.1.1,u2.2.1.2.1,u2.2.1.2.2.1,()),b5,())))
def Ik:Nat→QA
 |0=>fun _ _ _ _ _ _ _ _ _ _=>none
 |n+1=>Ss (Ik n)
def Sh(R3:QA)(p1:ABU)(AM:AAG)(AE Ab:Int):Option NG:=
 (AL 4 AM AE Ab).bind fun u1=>
 R3 0 u1.2.1.1 u1.2.1.2.1 u1.2.1.2.2.1 p1.1 p1.2.1 0 [] (AS (1+u1.1.1)) []
def Pc(p1:ABU)(AM:AAG)(AE Ab:Int):Option NG:=Sh (Ik Ac) p1 AM AE Ab
abbrev Ni:Type:=AE9×AKk
abbrev V6:Type:=List Int→Int→Int→Int→AB4→Int→AB4→Option Ni
def RC(td:V6)(AM:AAG)(AE Ab BJ:Int)(b2:AB4)(ie:Int)(b4:AB4):Option Ni:=
 cond ((decide ((b4.length:Int)<60)))
  (cond ((decide ((b4.length:Int)>0)))
   (if(0:Int)≤(0:Int)∧(0:Int)<(b4.length:Int)then(
   if b4.length+1≤DE then(
   td AM AE Ab BJ b2 ie (b4++[((b4.getD 0 ([],[],false,())).1,(b4.getD 0 ([],[],false,())).2.1,(b4.getD 0 ([],[],false,())).2.2.1,())]))else none)else none)
  (some (((ie,(),()),()),((AM,AE,Ab,()),b4,()))))
 (some (((ie,(),()),()),((AM,AE,Ab,()),b4,())))
def HC:Nat→V6
 |0=>fun _ _ _ _ _ _ _=>none
 |n+1=>RC (HC n)
def OW(td:V6)(p1:ABU)(AM:AAG)(AE Ab:Int):Option Ni:=
 (Pc (p1.1,p1.2.1,()) AM AE Ab).bind fun u1=>
 (AL 25 u1.2.1.1 u1.2.1.2.1 u1.2.1.2.2.1).bind fun u2=>
 cond (u2.1.1==0)
  ((CQ [0,30,31] u2.2.1.1 u2.2.1.2.1 u2.2.1.2.2.1).bind fun u3=>
  some (((u3.1.1,(),()),()),((u3.2.1.1,u3.2.1.2.1,u3.2.1.2.2.1,()),u1.2.2.1,())))
 (cond (u2.1.1==1)
  (cond (decide ((u1.2.2.1.length:Int)>0))
   (if(0:Int)≤(0:Int)∧(0:Int)<(u1.2.2.1.length:Int)then(
   if(0:Int)≤(0:Int)∧(0:Int)<(u1.2.2.1.length:Int)then(
   some (((u1.1.1.1,(),()),()),((u2.2.1.1,u2.2.1.2.1,u2.2.1.2.2.1,()),(u1.2.2.1.set 0 ((u1.2.2.1.getD 0 ([],[],false,())).1,(u1.2.2.1.getD 0 ([],[],false,())).2.1,!((u1.2.2.1.getD 0 ([],[],false,())).2.2.1),())),())))else none)else none)
  (some (((u1.1.1.1,(),()),()),((u2.2.1.1,u2.2.1.2.1,u2.2.1.2.2.1,()),u1.2.2.1,()))))
 (cond (u2.1.1==2)
  ((AL 2 u2.2.1.1 u2.2.1.2.1 u2.2.1.2.2.1).bind fun u7=>
  if(0:Int)≤(AS (40+u7.1.1))∧(AS (40+u7.1.1))≤(AS (40+u7.1.1))∧(AS (40+u7.1.1))≤(DE:Int)then(
  if u1.2.2.1.length+1≤DE then(
  some (((u1.1.1.1,(),()),()),((u7.2.1.1,u7.2.1.2.1,u7.2.1.2.2.1,()),(u1.2.2.1++[(((List.replicate ((AS (40+u7.1.1)).toNat) 0).map fun n:Int=>UInt8.ofNat n.toNat),[],false,())]),())))else none)else none)
 (cond (u2.1.1==3)
  (td u2.2.1.1 u2.2.1.2.1 u2.2.1.2.2.1 0 [] u1.1.1.1 u1.2.2.1)
 (some (((u1.1.1.1,(),()),()),((u2.2.1.1,u2.2.1.2.1,u2.2.1.2.2.1,()),u1.2.2.1,()))))))
def Oi(p1:ABU)(AM:AAG)(AE Ab:Int):Option Ni:=OW (HC Ac) p1 AM AE Ab
abbrev Gl:Type:=ACx×ADA
abbrev WA:Type:=Int→List Int→Int→List Int→Option Gl
def Xv(R3:WA)(t6:Int)(AM:AAG)(AE:Int)(b1:AAG):Option Gl:=
 cond ((decide (t6<(AM.length:Int))))
  ((Ey (AM,AE,()) b1).bind fun u2=>
  cond (!u2.1.1)
   ((Ib b1 t6).bind fun u3=>
   R3 (AS (t6+1)) AM AE u3.2.1)
  (some (((),()),(b1,()))))
 (some (((),()),(b1,())))
def NM:Nat→WA
 |0=>fun _ _ _ _=>none
 |n+1=>Xv (NM n)
def X6(R3:WA)(p0:ABU)(p1:ABe):Option Gl:=
 if 0+p1.2.2.1.length≤DE then(
 R3 0 p0.1 p0.2.1 p1.2.2.1)else none
def Mq(p0:ABU)(p1:ABe):Option Gl:=X6 (NM Ac) p0 p1
abbrev Hd:Type:=AEO×AKl
abbrev LY:Type:=Int→Int→List Int→Int→Int→List Int→Int→Int→Int→Bool→List Int→AA2→List AAG→Int→Int→Bool→List Int→AA2→List AAG→Option Hd
abbrev Kx:Type:=Int→List Int→Int→Int→List Int→Int→Int→Int→Bool→List Int→AA2→List AAG→Int→Int→Bool→List Int→AA2→List AAG→Option Hd
def Mo(R4:LY)(jK:Kx)(t6 t7:Int)(AM:AAG)(AE Ab:Int)(BJ:AAG)(Ar It LC:Int)(QL:Bool)(b3:AAG)(b4:AA2)(b5:List AAG)(LS KB:Int)(LV:Bool)(b7:AAG)(b8:AA2)(b9:List AAG):Option Hd:=
 cond (decide (t7<t6))
  ((AL (BJ.length:Int) AM AE Ab).bind fun u4=>
  (GJ u4.2.1.1 u4.2.1.2.1 u4.2.1.2.2.1).bind fun u5=>
  (I6 (u5.2.2.1,u5.2.2.2.1,u5.1.1.2.2.1,()) KB).bind fun u6=>
  (I7 (BJ,Ar,()) (LS,KB,b7,b8,LV,b9,()) u4.1.1 u6.2.1).bind fun u7=>
  cond (u7.1.1.2.1)
   (R4 t6 (AS (t7+1)) u5.2.1.1 u5.2.1.2.1 u5.2.1.2.2.1 BJ Ar It LC QL b3 b4 b5 u7.1.1.1.1 u7.1.1.1.2.1 u7.1.1.1.2.2.2.2.1 u7.2.1 u7.2.2.1 u7.2.2.2.1)
  (R4 t6 (AS (t7+1)) u5.2.1.1 u5.2.1.2.1 u5.2.1.2.2.1 BJ Ar It LC QL b3 b4 b5 LS KB LV b7 b8 b9))
 ((BA 3 AM AE Ab).bind fun WR=>
 cond (WR.1.1)
  (some (((LS,KB,(),(),LV,(),()),()),((WR.2.1.1,WR.2.1.2.1,WR.2.1.2.2.1,()),b7,b8,b9,())))
 ((Mq (BJ,Ar,()) (LS,KB,b7,b8,LV,b9,())).bind fun gD=>
 (I5 (BJ,Ar,()) (LS,KB,b7,b8,LV,b9,()) gD.2.1).bind fun Li=>
 cond (Li.1.1.2.1)
  (jK 0 WR.2.1.1 WR.2.1.2.1 WR.2.1.2.2.1 BJ Ar It LC QL b3 b4 b5 Li.1.1.1.1 Li.1.1.1.2.1 Li.1.1.1.2.2.2.2.1 Li.2.1 Li.2.2.1 Li.2.2.2.1)
 (jK 0 WR.2.1.1 WR.2.1.2.1 WR.2.1.2.2.1 BJ Ar It LC QL b3 b4 b5 LS KB LV b7 b8 b9)))
def Lo(R4:LY)(jK:Kx)(t12:Int)(AM:AAG)(AE Ab:Int)(BJ:AAG)(Ar It LC:Int)(QL:Bool)(b3:AAG)(b4:AA2)(b5:List AAG)(LS KB:Int)(LV:Bool)(b7:AAG)(b8:AA2)(b9:List AAG):Option Hd:=
 (AL 9 AM AE Ab).bind fun Iq=>
 cond ((decide (t12<Iq.1.1)))
  ((FY (b9.length:Int) 1).bind fun gT=>
  (AL gT.1.1 Iq.2.1.1 Iq.2.1.2.1 Iq.2.1.2.2.1).bind fun gN=>
  (AL (BJ.length:Int) gN.2.1.1 gN.2.1.2.1 gN.2.1.2.2.1).bind fun PT=>
  (Eg (BJ,Ar,()) (LS,KB,b7,b8,LV,b9,()) (AS (1+gN.1.1)) PT.1.1).bind fun ZZ=>
  cond (ZZ.1.1.2.1)
   (jK (AS (t12+1)) PT.2.1.1 PT.2.1.2.1 PT.2.1.2.2.1 BJ Ar It LC QL b3 b4 b5 ZZ.1.1.1.1 ZZ.1.1.1.2.1 ZZ.1.1.1.2.2.2.2.1 ZZ.2.1 ZZ.2.2.1 ZZ.2.2.2.1)
  (jK (AS (t12+1)) PT.2.1.1 PT.2.1.2.1 PT.2.1.2.2.1 BJ Ar It LC QL b3 b4 b5 LS KB LV b7 b8 b9))
 (some (((LS,KB,(),(),LV,(),()),()),((Iq.2.1.1,Iq.2.1.2.1,Iq.2.1.2.2.1,()),b7,b8,b9,())))
mutual
def B6:Nat→LY
 |0=>fun _ _ _ _ _ _ _ _ _ _ _ _ _ _ _ _ _ _ _=>none
 |n+1=>Mo (B6 n) (BT n)
def BT:Nat→Kx
 |0=>fun _ _ _ _ _ _ _ _ _ _ _ _ _ _ _ _ _ _=>none
 |n+1=>Lo (B6 n) (BT n)
end
def M7(R4:LY)(jK:Kx)(p1:ABU)(AM:AAG)(AE Ab:Int):Option Hd:=
 (AL 2 AM AE Ab).bind fun u1=>
 (My (AS (1+u1.1.1)) 4).bind fun u2=>
 (AL 5 u1.2.1.1 u1.2.1.2.1 u1.2.1.2.2.1).bind fun u3=>
 R4 u3.1.1 0 u3.2.1.1 u3.2.1.2.1 u3.2.1.2.2.1 p1.1 p1.2.1 0 0 false [] [] [] u2.1.1.1 u2.1.1.2.1 u2.1.1.2.2.2.2.1 u2.2.1 u2.2.2.1 u2.2.2.2.1
def Ma(p1:ABU)(AM:AAG)(AE Ab:Int):Option Hd:=M7 (B6 Ac) (BT Ac) p1 AM AE Ab
abbrev aK:Type:=AEO×AKl
def VP(p1:ABU)(AM:AAG)(AE Ab:Int):Option aK:=
 (Ma (p1.1,p1.2.1,()) AM AE Ab).bind fun u1=>
 (AL 25 u1.2.1.1 u1.2.1.2.1 u1.2.1.2.2.1).bind fun u2=>
 cond (u2.1.1==0)
  ((CQ [u1.1.1.2.1,30,31] u2.2.1.1 u2.2.1.2.1 u2.2.1.2.2.1).bind fun u3=>
  some (((u3.1.1,u1.1.1.2.1,(),(),u1.1.1.2.2.2.2.1,(),()),()),((u3.2.1.1,u3.2.1.2.1,u3.2.1.2.2.1,()),u1.2.2.1,u1.2.2.2.1,u1.2.2.2.2.1,())))
 (cond (u2.1.1==1)
  (some (((u1.1.1.1,u1.1.1.2.1,(),(),!u1.1.1.2.2.2.2.1,(),()),()),((u2.2.1.1,u2.2.1.2.1,u2.2.1.2.2.1,()),u1.2.2.1,u1.2.2.2.1,u1.2.2.2.2.1,())))
 (cond (u2.1.1==2)
  ((FP (p1.1,p1.2.1,()) u2.2.1.1 u2.2.1.2.1 u2.2.1.2.2.1).bind fun u4=>
  if u1.2.2.2.2.1.length+1≤DE then(
  some (((u1.1.1.1,u1.1.1.2.1,(),(),u1.1.1.2.2.2.2.1,(),()),()),((u4.2.1.1,u4.2.1.2.1,u4.2.1.2.2.1,()),u1.2.2.1,u1.2.2.2.1,(u1.2.2.2.2.1++[u4.2.2.1]),())))else none)
 (cond (u2.1.1==3)
  ((Re u2.2.1.1 u2.2.1.2.1 u2.2.1.2.2.1).bind fun u9=>
  if u1.2.2.2.1.length+1≤DE then(
  some (((u1.1.1.1,u1.1.1.2.1,(),(),u1.1.1.2.2.2.2.1,(),()),()),((u9.2.1.1,u9.2.1.2.1,u9.2.1.2.2.1,()),u1.2.2.1,(u1.2.2.2.1++[(u9.1.1.1,u9.1.1.2.1,u9.1.1.2.2.1,u9.1.1.2.2.2.1,())]),u1.2.2.2.2.1,())))else none)
 (cond (u2.1.1==4)
  ((FP (p1.1,p1.2.1,()) u2.2.1.1 u2.2.1.2.1 u2.2.1.2.2.1).bind fun Kc=>
  some (((u1.1.1.1,u1.1.1.2.1,(),(),u1.1.1.2.2.2.2.1,(),()),()),((Kc.2.1.1,Kc.2.1.2.1,Kc.2.1.2.2.1,()),Kc.2.2.1,u1.2.2.2.1,u1.2.2.2.2.1,())))
 (some (((u1.1.1.1,u1.1.1.2.1,(),(),u1.1.1.2.2.2.2.1,(),()),()),((u2.2.1.1,u2.2.1.2.1,u2.2.1.2.2.1,()),u1.2.2.1,u1.2.2.2.1,u1.2.2.2.2.1,())))))))
abbrev GX:Type:=AFB×(ADc×ADf×Unit)
abbrev Nz:Type:=Int→List Int→Int→Int→Int→Int→ADf→Int→Int→ADf→Option GX
def QR(R3:Nz)(t4:Int)(AM:AAG)(AE Ab BJ Ar:Int)(b2:ADf)(ie dy:Int)(b4:ADf):Option GX:=
 (AL 4 AM AE Ab).bind fun u3=>
 cond (decide (t4<u3.1.1))
  ((AL 5 u3.2.1.1 u3.2.1.2.1 u3.2.1.2.2.1).bind fun u4=>
  (FJ u4.2.1.1 u4.2.1.2.1 u4.2.1.2.2.1).bind fun u5=>
  if b4.length+1≤DE then(
  R3 (AS (t4+1)) u5.2.1.1 u5.2.1.2.1 u5.2.1.2.2.1 BJ Ar b2 ie dy (b4++[(AS (1+u4.1.1),u5.1.1,[],())]))else none)
 ((AL 25 u3.2.1.1 u3.2.1.2.1 u3.2.1.2.2.1).bind fun J9=>
 cond (J9.1.1==0)
  ((CQ [0,31,32] J9.2.1.1 J9.2.1.2.1 J9.2.1.2.2.1).bind fun Kc=>
  some (((Kc.1.1,dy,(),()),()),((Kc.2.1.1,Kc.2.1.2.1,Kc.2.1.2.2.1,()),b4,())))
 (cond (J9.1.1==1)
  ((CQ [0,60,61,62] J9.2.1.1 J9.2.1.2.1 J9.2.1.2.2.1).bind fun Zb=>
  some (((ie,Zb.1.1,(),()),()),((Zb.2.1.1,Zb.2.1.2.1,Zb.2.1.2.2.1,()),b4,())))
 (cond (J9.1.1==2)
  ((AL 2 J9.2.1.1 J9.2.1.2.1 J9.2.1.2.2.1).bind fun u16=>
  if(0:Int)≤(AS (120+u16.1.1))∧(AS (120+u16.1.1))≤(AS (120+u16.1.1))∧(AS (120+u16.1.1))≤(DE:Int)then(
  some (((ie,dy,(),()),()),((u16.2.1.1,u16.2.1.2.1,u16.2.1.2.2.1,()),(List.replicate ((AS (120+u16.1.1)).toNat) (0,0,[],())),())))else none)
 (some (((ie,dy,(),()),()),((J9.2.1.1,J9.2.1.2.1,J9.2.1.2.2.1,()),b4,()))))))
def HN:Nat→Nz
 |0=>fun _ _ _ _ _ _ _ _ _ _=>none
 |n+1=>QR (HN n)
def Qh(R3:Nz)(AM:AAG)(AE Ab:Int):Option GX:=
 (AL 3 AM AE Ab).bind fun u1=>
 (AL 5 u1.2.1.1 u1.2.1.2.1 u1.2.1.2.2.1).bind fun u2=>
 R3 0 u2.2.1.1 u2.2.1.2.1 u2.2.1.2.2.1 0 0 [] (AS (1+u1.1.1)) (AS (1+u2.1.1)) []
def Ja(AM:AAG)(AE Ab:Int):Option GX:=Qh (HN Ac) AM AE Ab
abbrev gG:Type:=AFn×(ADc×List Int×AAa×List Int×AAX×AAt×AA9×ABQ×AAl×Unit)
def IX(p1 AM:AAG)(AE Ab:Int):Option gG:=
 (Vh p1 40 90).bind fun u1=>
 (Kq u1.1.1 AM AE Ab).bind fun u2=>
 let x4:AAG:=u2.2.2.2.2.2.2.2.2.2.2.2.1
 let x5:AAa:=u2.2.2.2.2.2.2.2.2.2.2.2.2.1
 let x6:AAG:=u2.2.2.2.2.2.2.2.2.2.2.2.2.2.1
 let x7:AAX:=u2.2.2.2.2.2.2.2.2.2.2.2.2.2.2.1
 let x8:AAt:=u2.2.2.2.2.2.2.2.2.2.2.2.2.2.2.2.1
 let x9:AA9:=u2.2.2.2.2.2.2.2.2.2.2.2.2.2.2.2.2.1
 let Yz:ABQ:=u2.2.2.2.2.2.2.2.2.2.2.2.2.2.2.2.2.2.1
 let cv:AAl:=u2.2.2.2.2.2.2.2.2.2.2.2.2.2.2.2.2.2.2.1
 (AL 40 u2.2.1.1 u2.2.1.2.1 u2.2.1.2.2.1).bind fun Dj=>
 cond (Dj.1.1==0)
  ((FP (x4,u2.1.1.2.2.1.2.1,()) Dj.2.1.1 Dj.2.1.2.1 Dj.2.1.2.2.1).bind fun J9=>
  some ((((),u2.1.1.2.2.1.2.1,(),(),(),u2.1.1.2.2.1.2.2.2.2.2.1,(),(),(),(),u2.1.1.2.2.1.2.2.2.2.2.2.2.2.2.2.1,()),()),((J9.2.1.1,J9.2.1.2.1,J9.2.1.2.2.1,()),x4,x5,J9.2.2.1,x7,x8,x9,Yz,cv,())))
 (cond (Dj.1.1==1)
  ((VX Dj.2.1.1 Dj.2.1.2.1 Dj.2.1.2.2.1).bind fun Kc=>
  if(0:Int)≤(0:Int)∧(0:Int)<(x5.length:Int)then(
  some ((((),u2.1.1.2.2.1.2.1,(),(),(),u2.1.1.2.2.1.2.2.2.2.2.1,(),(),(),(),u2.1.1.2.2.1.2.2.2.2.2.2.2.2.2.2.1,()),()),((Kc.2.1.1,Kc.2.1.2.1,Kc.2.1.2.2.1,()),x4,(x5.set 0 (Kc.2.2.1,Kc.2.2.2.1,Kc.1.1.2.2.1,())),x6,x7,x8,x9,Yz,cv,())))else none)
 (cond (Dj.1.1==2)
  ((VN (x4,u2.1.1.2.2.1.2.1,()) Dj.2.1.1 Dj.2.1.2.1 Dj.2.1.2.2.1).bind fun u16=>
  some ((((),u2.1.1.2.2.1.2.1,(),(),(),u16.1.1.2.1,(),(),(),(),u2.1.1.2.2.1.2.2.2.2.2.2.2.2.2.2.1,()),()),((u16.2.1.1,u16.2.1.2.1,u16.2.1.2.2.1,()),x4,x5,x6,u16.2.2.1,x8,x9,Yz,cv,())))
 (cond (Dj.1.1==3)
  ((Oi (x4,u2.1.1.2.2.1.2.1,()) Dj.2.1.1 Dj.2.1.2.1 Dj.2.1.2.2.1).bind fun Xb=>
  if x8.length+1≤DE then(
  some ((((),u2.1.1.2.2.1.2.1,(),(),(),u2.1.1.2.2.1.2.2.2.2.2.1,(),(),(),(),u2.1.1.2.2.1.2.2.2.2.2.2.2.2.2.2.1,()),()),((Xb.2.1.1,Xb.2.1.2.1,Xb.2.1.2.2.1,()),x4,x5,x6,x7,(x8++[(Xb.1.1.1,Xb.2.2.1,())]),x9,Yz,cv,())))else none)
 (cond (Dj.1.1==4)
  ((VP (x4,u2.1.1.2.2.1.2.1,()) Dj.2.1.1 Dj.2.1.2.1 Dj.2.1.2.2.1).bind fun Iq=>
  if x9.length+1≤DE then(
  some ((((),u2.1.1.2.2.1.2.1,(),(),(),u2.1.1.2.2.1.2.2.2.2.2.1,(),(),(),(),u2.1.1.2.2.1.2.2.2.2.2.2.2.2.2.2.1,()),()),((Iq.2.1.1,Iq.2.1.2.1,Iq.2.1.2.2.1,()),x4,x5,x6,x7,x8,(x9++[(Iq.1.1.1,Iq.1.1.2.1,Iq.2.2.1,Iq.2.2.2.1,Iq.1.1.2.2.2.2.1,Iq.2.2.2.2.1,())]),Yz,cv,())))else none)
 (cond (Dj.1.1==5)
  ((Ja Dj.2.1.1 Dj.2.1.2.1 Dj.2.1.2.2.1).bind fun dF=>
  if(0:Int)≤(0:Int)∧(0:Int)<(Yz.length:Int)then(
  some ((((),u2.1.1.2.2.1.2.1,(),(),(),u2.1.1.2.2.1.2.2.2.2.2.1,(),(),(),(),u2.1.1.2.2.1.2.2.2.2.2.2.2.2.2.2.1,()),()),((dF.2.1.1,dF.2.1.2.1,dF.2.1.2.2.1,()),x4,x5,x6,x7,x8,x9,(Yz.set 0 (dF.1.1.1,dF.1.1.2.1,dF.2.2.1,())),cv,())))else none)
 (cond (Dj.1.1==6)
  ((FJ Dj.2.1.1 Dj.2.1.2.1 Dj.2.1.2.2.1).bind fun ar=>
  if cv.length+1≤DE then(
  some ((((),u2.1.1.2.2.1.2.1,(),(),(),u2.1.1.2.2.1.2.2.2.2.2.1,(),(),(),(),u2.1.1.2.2.1.2.2.2.2.2.2.2.2.2.2.1,()),()),((ar.2.1.1,ar.2.1.2.1,ar.2.1.2.2.1,()),x4,x5,x6,x7,x8,x9,Yz,(cv++[(ar.1.1,[],false,())]),())))else none)
 (cond (Dj.1.1==7)
  (some ((((),u2.1.1.2.2.1.2.1,(),(),(),u2.1.1.2.2.1.2.2.2.2.2.1,(),(),(),(),!u2.1.1.2.2.1.2.2.2.2.2.2.2.2.2.2.1,()),()),((Dj.2.1.1,Dj.2.1.2.1,Dj.2.1.2.2.1,()),x4,x5,x6,x7,x8,x9,Yz,cv,())))
 (cond (Dj.1.1==8)
  ((Rl Dj.2.1.1 Dj.2.1.2.1 Dj.2.1.2.2.1).bind fun nP=>
  some ((((),nP.1.1.2.1,(),(),(),u2.1.1.2.2.1.2.2.2.2.2.1,(),(),(),(),u2.1.1.2.2.1.2.2.2.2.2.2.2.2.2.2.1,()),()),((nP.2.1.1,nP.2.1.2.1,nP.2.1.2.2.1,()),nP.2.2.1,x5,x6,x7,x8,x9,Yz,cv,())))
 (some ((((),u2.1.1.2.2.1.2.1,(),(),(),u2.1.1.2.2.1.2.2.2.2.2.1,(),(),(),(),u2.1.1.2.2.1.2.2.2.2.2.2.2.2.2.2.1,()),()),((Dj.2.1.1,Dj.2.1.2.1,Dj.2.1.2.2.1,()),x4,x5,x6,x7,x8,x9,Yz,cv,())))))))))))
abbrev cz:Type:=ADg×AD5
def EP(p0:ABU)(p1:ACa):Option cz:=
 (K7 (p0.1,p0.2.1,()) (p1.1,p1.2.1,())).bind fun u1=>
 cond (!u1.1.1)
  (some ((((),0,()),()),([],())))
 ((Ef (p1.1,p1.2.1,())).bind fun u2=>
 some ((((),u2.1.1.2.1,()),()),(u2.2.1,())))
abbrev dz:Type:=(AIY×Unit)×AD5
def NA(p0:ABU)(p1:ACa)(p2:AAG):Option dz:=
 (K7 (p0.1,p0.2.1,()) (p1.1,p1.2.1,())).bind fun u1=>
 cond (!u1.1.1)
  ((EP (p0.1,p0.2.1,()) (p1.1,p1.2.1,())).bind fun u2=>
  some (((((),u2.1.1.2.1,()),0,false,()),()),(u2.2.1,())))
 ((GF (p0.1,p0.2.1,()) p2).bind fun u3=>
 cond (!u3.1.1)
  ((EP (p0.1,p0.2.1,()) (p1.1,p1.2.1,())).bind fun u4=>
  some (((((),u4.1.1.2.1,()),0,false,()),()),(u4.2.1,())))
 (cond (((p1.1.length:Int)==30))
  ((EP (p0.1,p0.2.1,()) (p1.1,p1.2.1,())).bind fun u6=>
  some (((((),u6.1.1.2.1,()),0,false,()),()),(u6.2.1,())))
 ((Ef (p1.1,p1.2.1,())).bind fun u7=>
 (DF p2).bind fun u8=>
 if u7.2.1.length+1≤DE then(
 let x9:AAX:=u7.2.1++[(u8.2.1,false,0,())]
 some (((((),u7.1.1.2.1,()),(x9.length:Int),true,()),()),(x9,())))else none)))
abbrev Yr:Type:=AB5×(ADs×List Int×AAa×List Int×Unit×Unit×Unit×ABQ×AAl×AAX×AAt×AA9×Unit)
def KD(p1 AE AZ:Int)(AN:Bool)(b1:AAG)(b2:AAa)(b3:AAG)(b4:AAX)(b5:AAt)(b6:AA9)(b7:ABQ)(b8:AAl):Option Yr:=
 cond (((b5.length:Int)==4))
  (some ((4,()),(((),AE,(),(),(),AZ,(),(),(),(),AN,()),b1,b2,b3,(),(),(),b7,b8,b4,b5,b6,())))
 ((IB p1).bind fun u2=>
 (NA (b1,AE,()) (b4,AZ,()) u2.2.1).bind fun u3=>
 cond (!u3.1.1.2.2.1)
  (some ((4,()),(((),AE,(),(),(),AZ,(),(),(),(),AN,()),b1,b2,b3,(),(),(),b7,b8,b4,b5,b6,())))
 (if b5.length+1≤DE then(
 some ((0,()),(((),AE,(),(),(),u3.1.1.1.2.1,(),(),(),(),AN,()),b1,b2,b3,(),(),(),b7,b8,u3.2.1,(b5++[(u3.1.1.2.1,[],())]),[],())))else none))
abbrev Ye:Type:=AE9×AD7
def EU(p0:ABU)(p1:ACt):Option Ye:=
 (Gh (p0.1,p0.2.1,()) (p1.1,p1.2.1,())).bind fun u1=>
 cond (!u1.1.1)
  (some (((0,(),()),()),([],())))
 ((F4 (p1.1,p1.2.1,())).bind fun u2=>
 some (((u2.1.1.1,(),()),()),(u2.2.1,())))
abbrev bP:Type:=(AIZ×Unit)×AD7
def Jb(p0:ABU)(p1:ACt)(p2:ABp):Option bP:=
 (F4 (p1.1,p1.2.1,())).bind fun u1=>
 if u1.2.1.length+1≤DE then(
 let x2:AB4:=u1.2.1++[(p2,[],false,())]
 (Gh (p0.1,p0.2.1,()) (p1.1,p1.2.1,())).bind fun u3=>
 cond (!u3.1.1)
  ((EU (p0.1,p0.2.1,()) (p1.1,p1.2.1,())).bind fun u4=>
  some ((((u4.1.1.1,(),()),0,false,()),()),(u4.2.1,())))
 ((Gh (p0.1,p0.2.1,()) (u1.1.1.1,x2,())).bind fun u5=>
 cond (!u5.1.1)
  ((EU (p0.1,p0.2.1,()) (p1.1,p1.2.1,())).bind fun u6=>
  some ((((u6.1.1.1,(),()),0,false,()),()),(u6.2.1,())))
 (some ((((u1.1.1.1,(),()),(x2.length:Int),true,()),()),(x2,())))))else none
abbrev dh:Type:=AB5×Unit
def Lk(p0:AGq)(p1:Int):Option dh:=
 some ((AS (p0.1-p1),()),())
abbrev BM:Type:=AEy×Unit
abbrev Bp:Type:=AAl→Int→Int→Int→Int→Option BM
def Ch(R3:Bp)(t0:AAl)(t1 t8 t9 t10:Int):Option BM:=
 cond (decide (t9<t10))
  (let x2:Int:=AS ((IntKind.wrap .u64 (AS (t9+t10))).fdiv (2^1))
  if(0:Int)≤x2∧x2<(t0.length:Int)then(
  (Lk ((t0.getD (x2.toNat) (0,[],false,())).1,(t0.getD (x2.toNat) (0,[],false,())).2.1,(t0.getD (x2.toNat) (0,[],false,())).2.2.1,()) t1).bind fun u3=>
  cond (decide (u3.1.1<0))
   (R3 t0 t1 t8 (AS (x2+1)) t10)
  (R3 t0 t1 t8 t9 x2))else none)
 (cond (decide (t9<t8))
  (if(0:Int)≤t9∧t9<(t0.length:Int)then(
  (Lk ((t0.getD (t9.toNat) (0,[],false,())).1,(t0.getD (t9.toNat) (0,[],false,())).2.1,(t0.getD (t9.toNat) (0,[],false,())).2.2.1,()) t1).bind fun u4=>
  some (((t9,u4.1.1==0,()),()),()))else none)
 (some (((t9,false,()),()),())))
def As:Nat→Bp
 |0=>fun _ _ _ _ _=>none
 |n+1=>Ch (As n)
def Cg(R3:Bp)(p0:AAl)(p1:Int):Option BM:=
 R3 p0 p1 (p0.length:Int) 0 (p0.length:Int)
def BO(p0:AAl)(p1:Int):Option BM:=Cg (As Ac) p0 p1
abbrev Wh:Type:=AEy×Unit
def Ed(p0:ABf)(p1:Int):Option Wh:=
 (BO p0.2.2.2.2.2.2.2.2.2.1 p1).bind fun u1=>
 some (((u1.1.1.1,u1.1.1.2.1,()),()),())
abbrev I9:Type:=ACx×(Unit×AAl×Unit)
def EO(p1:Int)(p2 b0:AAl):Option I9:=(yD p1 p2 b0).map fun l=>(((),()),((),l,()))
abbrev bK:Type:=AB5×(ADs×List Int×AAa×List Int×AAX×AAt×AA9×ABQ×Unit×AAl×Unit)
def L3(p1:Int)(p2:ABp)(AE AZ:Int)(AN:Bool)(b1:AAG)(b2:AAa)(b3:AAG)(b4:AAX)(b5:AAt)(b6:AA9)(b7:ABQ)(b8:AAl):Option bK:=
 (A7 p1 0 (AS ((b5.length:Int)-1))).bind fun u2=>
 cond (!u2.1.1)
  (some ((2,()),(((),AE,(),(),(),AZ,(),(),(),(),AN,()),b1,b2,b3,b4,b5,b6,b7,(),b8,())))
 (if(0:Int)≤p1∧p1<(b5.length:Int)then(
 (Jb (b1,AE,()) ((b5.getD (p1.toNat) (0,[],())).1,(b5.getD (p1.toNat) (0,[],())).2.1,()) p2).bind fun u3=>
 (DA u3.1.1.1.1 u3.1.1.2.1).bind fun u4=>
 (Ed (b1,AE,b2,b3,b4,AZ,b5,b6,b7,b8,AN,()) u4.1.1.1).bind fun u5=>
 cond (!u3.1.1.2.2.1)
  (some ((4,()),(((),AE,(),(),(),AZ,(),(),(),(),AN,()),b1,b2,b3,b4,b5,b6,b7,(),b8,())))
 (cond (((b8.length:Int)==120))
  (some ((4,()),(((),AE,(),(),(),AZ,(),(),(),(),AN,()),b1,b2,b3,b4,b5,b6,b7,(),b8,())))
 (cond (u5.1.1.2.1)
  (some ((4,()),(((),AE,(),(),(),AZ,(),(),(),(),AN,()),b1,b2,b3,b4,b5,b6,b7,(),b8,())))
 (if(0:Int)≤p1∧p1<(b5.length:Int)then(
 (EO u5.1.1.1 [(u4.1.1.1,p2,false,())] b8).bind fun u8=>
 some ((0,()),(((),AE,(),(),(),AZ,(),(),(),(),AN,()),b1,b2,b3,b4,(b5.set (p1.toNat) (u3.1.1.1.1,u3.2.1,())),b6,b7,(),u8.2.2.1,())))else none))))else none)
abbrev di:Type:=AB5×Unit
def EZ(p0:ABf)(p1:Int):Option di:=
 (A7 p1 0 (AS ((p0.2.2.1.length:Int)-1))).bind fun u2=>
 cond (!u2.1.1)
  (some ((2,()),()))
 ((C5 p0 p1).bind fun u3=>
 cond (u3.1.1)
  (some ((3,()),()))
 (some ((0,()),())))
abbrev dL:Type:=ACx×ADA
def Hl(p0:ACa)(p1:Int):Option dL:=
 (A7 p1 1 (p0.1.length:Int)).bind fun u1=>
 cond (!u1.1.1)
  (some (((),()),([],())))
 (if(0:Int)≤AS (p1-1)∧AS (p1-1)<(p0.1.length:Int)then(
 (DF ((p0.1.getD ((AS (p1-1)).toNat) ([],false,0,())).1)).bind fun u2=>
 some (((),()),(u2.2.1,())))else none)
abbrev IF:Type:=AB5×Unit
def Dm(p0:ABf)(p1 p2:Int):Option IF:=
 (EZ p0 p1).bind fun u1=>
 cond (u1.1.1==0)
  ((Hl (p0.2.2.2.2.1,p0.2.2.2.2.2.1,()) p2).bind fun u2=>
  (Bo u2.2.1 p1).bind fun u3=>
  cond (!u3.1.1)
   (some ((2,()),()))
  (some ((u1.1.1,()),())))
 (some ((u1.1.1,()),()))
abbrev js:Type:=AEp×ADh
def Ds(p0:ACn):Option js:=
 (FK (p0.1,p0.2.1,p0.2.2.1,())).bind fun u1=>
 cond (!u1.1.1)
  (some ((((),(),0,()),()),([],[],())))
 ((C_ (p0.1,p0.2.1,p0.2.2.1,())).bind fun u2=>
 some ((((),(),u2.1.1.2.2.1,()),()),(u2.2.1,u2.2.2.1,())))
abbrev ow:Type:=ADj×ADh
def Uw(p0:ACn)(p1:ADZ):Option ow:=
 (FK (p0.1,p0.2.1,p0.2.2.1,())).bind fun u1=>
 cond (!u1.1.1)
  ((Ds (p0.1,p0.2.1,p0.2.2.1,())).bind fun u2=>
  some (((((),(),u2.1.1.2.2.1,()),false,()),()),(u2.2.1,u2.2.2.1,())))
 ((Mu (p1.1,p1.2.1,p1.2.2.1,p1.2.2.2.1,())).bind fun u3=>
 cond (!u3.1.1)
  ((Ds (p0.1,p0.2.1,p0.2.2.1,())).bind fun u4=>
  some (((((),(),u4.1.1.2.2.1,()),false,()),()),(u4.2.1,u4.2.2.1,())))
 (cond ((p0.2.1.length:Int)==20)
  ((Ds (p0.1,p0.2.1,p0.2.2.1,())).bind fun u6=>
  some (((((),(),u6.1.1.2.2.1,()),false,()),()),(u6.2.1,u6.2.2.1,())))
 (cond (p1.2.1==0)
  ((FL p1.1).bind fun u7=>
  cond ((decide (u7.1.1≤p0.2.2.1)))
   ((C_ (p0.1,p0.2.1,p0.2.2.1,())).bind fun u9=>
   some (((((),(),u9.1.1.2.2.1,()),false,()),()),(u9.2.1,u9.2.2.1,())))
  (cond (decide (p1.2.1>0))
   (cond ((decide (p1.2.1≤p0.2.2.1)))
    ((C_ (p0.1,p0.2.1,p0.2.2.1,())).bind fun Kg=>
    some (((((),(),Kg.1.1.2.2.1,()),false,()),()),(Kg.2.1,Kg.2.2.1,())))
   ((C_ (p0.1,p0.2.1,p0.2.2.1,())).bind fun Dj=>
   if Dj.2.2.1.length+1≤DE then(
   some (((((),(),Dj.1.1.2.2.1,()),true,()),()),(Dj.2.1,(Dj.2.2.1++[(p1.1,p1.2.1,p1.2.2.1,p1.2.2.2.1,())]),())))else none))
  ((C_ (p0.1,p0.2.1,p0.2.2.1,())).bind fun Kc=>
  if Kc.2.2.1.length+1≤DE then(
  some (((((),(),Kc.1.1.2.2.1,()),true,()),()),(Kc.2.1,(Kc.2.2.1++[(p1.1,p1.2.1,p1.2.2.1,p1.2.2.2.1,())]),())))else none)))
 (cond (decide (p1.2.1>0))
  (cond ((decide (p1.2.1≤p0.2.2.1)))
   ((C_ (p0.1,p0.2.1,p0.2.2.1,())).bind fun Xb=>
   some (((((),(),Xb.1.1.2.2.1,()),false,()),()),(Xb.2.1,Xb.2.2.1,())))
  ((C_ (p0.1,p0.2.1,p0.2.2.1,())).bind fun WR=>
  if WR.2.2.1.length+1≤DE then(
  some (((((),(),WR.1.1.2.2.1,()),true,()),()),(WR.2.1,(WR.2.2.1++[(p1.1,p1.2.1,p1.2.2.1,p1.2.2.2.1,())]),())))else none))
 ((C_ (p0.1,p0.2.1,p0.2.2.1,())).bind fun Li=>
 if Li.2.2.1.length+1≤DE then(
 some (((((),(),Li.1.1.2.2.1,()),true,()),()),(Li.2.1,(Li.2.2.1++[(p1.1,p1.2.1,p1.2.2.1,p1.2.2.2.1,())]),())))else none)))))
abbrev eT:Type:=AB5×Unit
def KK(p0:Bool):Option eT:=
 cond (p0)
  (some ((0,()),()))
 (some ((4,()),()))
abbrev bT:Type:=AB5×AD0
def MD(p1:Int)(p2:ADZ)(AE AZ:Int)(AN:Bool)(b1:AAG)(b2:AAa)(b3:AAG)(b4:AAX)(b5:AAt)(b6:AA9)(b7:ABQ)(b8:AAl):Option bT:=
 if(0:Int)≤p1∧p1<(b2.length:Int)then(
 (Uw ((b2.getD (p1.toNat) ([],[],0,())).1,(b2.getD (p1.toNat) ([],[],0,())).2.1,(b2.getD (p1.toNat) ([],[],0,())).2.2.1,()) (p2.1,p2.2.1,p2.2.2.1,p2.2.2.2.1,())).bind fun u1=>
 cond (u1.1.1.2.1)
  (if(0:Int)≤p1∧p1<(b2.length:Int)then(
  (KK u1.1.1.2.1).bind fun u3=>
  some ((u3.1.1,()),(((),AE,(),(),(),AZ,(),(),(),(),AN,()),b1,(b2.set (p1.toNat) (u1.2.1,u1.2.2.1,u1.1.1.1.2.2.1,())),b3,b4,b5,b6,b7,b8,())))else none)
 ((KK u1.1.1.2.1).bind fun u4=>
 some ((u4.1.1,()),(((),AE,(),(),(),AZ,(),(),(),(),AN,()),b1,b2,b3,b4,b5,b6,b7,b8,()))))else none
abbrev iF:Type:=AB5×AD0
def JI(p1:ADW)(AE AZ:Int)(AN:Bool)(b1:AAG)(b2:AAa)(b3:AAG)(b4:AAX)(b5:AAt)(b6:AA9)(b7:ABQ)(b8:AAl):Option iF:=
 (A7 p1.2.1 0 (AS ((b5.length:Int)-1))).bind fun u2=>
 cond (!u2.1.1)
  (some ((2,()),(((),AE,(),(),(),AZ,(),(),(),(),AN,()),b1,b2,b3,b4,b5,b6,b7,b8,())))
 (if(0:Int)≤p1.2.1∧p1.2.1<(b5.length:Int)then(
 (A7 p1.2.2.1 1 (((b5.getD (p1.2.1.toNat) (0,[],())).2.1).length:Int)).bind fun u4=>
 cond (!u4.1.1)
  (some ((2,()),(((),AE,(),(),(),AZ,(),(),(),(),AN,()),b1,b2,b3,b4,b5,b6,b7,b8,())))
 ((Dm (b1,AE,b2,b3,b4,AZ,b5,b6,b7,b8,AN,()) p1.2.2.2.1 ((b5.getD (p1.2.1.toNat) (0,[],())).1)).bind fun u6=>
 cond (u6.1.1 !=0)
  (some ((u6.1.1,()),(((),AE,(),(),(),AZ,(),(),(),(),AN,()),b1,b2,b3,b4,b5,b6,b7,b8,())))
 ((DA ((b5.getD (p1.2.1.toNat) (0,[],())).1) p1.2.2.1).bind fun u8=>
 if(0:Int)≤AS (p1.2.2.1-1)∧AS (p1.2.2.1-1)<(((b5.getD (p1.2.1.toNat) (0,[],())).2.1).length:Int)then(
 (MD p1.2.2.2.1 (u8.1.1.1,0,false,((((b5.getD (p1.2.1.toNat) (0,[],())).2.1).getD ((AS (p1.2.2.1-1)).toNat) ([],[],false,())).1),()) AE AZ AN b1 b2 b3 b4 b5 b6 b7 b8).bind fun D9=>
 some ((D9.1.1,()),(((),D9.2.1.2.1,(),(),(),D9.2.1.2.2.2.2.2.1,(),(),(),(),D9.2.1.2.2.2.2.2.2.2.2.2.2.1,()),D9.2.2.1,D9.2.2.2.1,D9.2.2.2.2.1,D9.2.2.2.2.2.1,D9.2.2.2.2.2.2.1,D9.2.2.2.2.2.2.2.1,D9.2.2.2.2.2.2.2.2.1,D9.2.2.2.2.2.2.2.2.2.1,())))else none)))else none)
abbrev Pn:Type:=ACx×AGr
def D1(p1:Int)(p2 b0:AA2):Option Pn:=(yD p1 p2 b0).map fun l=>(((),()),((),l,()))
abbrev xX:Type:=ACx×AGr
def Xg(p1:ADZ)(b0:AA2):Option xX:=
 (S9 b0 p1.1).bind fun u1=>
 cond (!u1.1.1.2.1)
  ((D1 u1.1.1.1 [(p1.1,p1.2.1,p1.2.2.1,p1.2.2.2.1,())] b0).bind fun u2=>
  some (((),()),((),u2.2.2.1,())))
 (if(0:Int)≤u1.1.1.1∧u1.1.1.1<(b0.length:Int)then(
 (Rv ((b0.getD (u1.1.1.1.toNat) (0,0,false,[],())).1,(b0.getD (u1.1.1.1.toNat) (0,0,false,[],())).2.1,(b0.getD (u1.1.1.1.toNat) (0,0,false,[],())).2.2.1,(b0.getD (u1.1.1.1.toNat) (0,0,false,[],())).2.2.2.1,()) (p1.1,p1.2.1,p1.2.2.1,p1.2.2.2.1,())).bind fun u3=>
 if(0:Int)≤u1.1.1.1∧u1.1.1.1<(b0.length:Int)then(
 some (((),()),((),(b0.set (u1.1.1.1.toNat) (u3.1.1.1,u3.1.1.2.1,u3.1.1.2.2.1,u3.1.1.2.2.2.1,())),())))else none)else none)
abbrev OV:Type:=ADj×ADh
abbrev Q4:Type:=Int→AA2→Int→Int→AA2→AA2→Int→Int→AA2→AA2→Int→AA2→AA2→Option OV
def T_(R6:Q4)(t1:Int)(t23:AA2)(t24 t25:Int)(AM AE:AA2)(Ab DK:Int)(b2 b3:AA2)(Ml:Int)(b5 b6:AA2):Option OV:=
 cond (decide (t25<t24))
  (if(0:Int)≤t25∧t25<(t23.length:Int)then(
  if t25<0 then none else(
  cond (((dk .i64 (t1.fdiv (2^(min t25.toNat 64))) 1)==1))
   ((Xg ((t23.getD (t25.toNat) (0,0,false,[],())).1,(t23.getD (t25.toNat) (0,0,false,[],())).2.1,(t23.getD (t25.toNat) (0,0,false,[],())).2.2.1,(t23.getD (t25.toNat) (0,0,false,[],())).2.2.2.1,()) b5).bind fun u9=>
   R6 t1 t23 t24 (AS (t25+1)) AM AE Ab DK b2 b3 Ml u9.2.2.1 b6)
  (R6 t1 t23 t24 (AS (t25+1)) AM AE Ab DK b2 b3 Ml b5 b6)))else none)
 (cond ((decide ((b5.length:Int)>200)))
  ((C_ (AM,AE,Ab,())).bind fun Kg=>
  some (((((),(),Kg.1.1.2.2.1,()),false,()),()),(Kg.2.1,Kg.2.2.1,())))
 (some (((((),(),Ml,()),true,()),()),(b5,b6,()))))
def JY:Nat→Q4
 |0=>fun _ _ _ _ _ _ _ _ _ _ _ _ _=>none
 |n+1=>T_ (JY n)
def Tu(R6:Q4)(p0:ACn)(p1:Int):Option OV:=
 (FK (p0.1,p0.2.1,p0.2.2.1,())).bind fun u1=>
 cond (!u1.1.1)
  ((Ds (p0.1,p0.2.1,p0.2.2.1,())).bind fun u2=>
  some (((((),(),u2.1.1.2.2.1,()),false,()),()),(u2.2.1,u2.2.2.1,())))
 ((A7 p1 0 1048575).bind fun u3=>
 cond (!u3.1.1)
  ((Ds (p0.1,p0.2.1,p0.2.2.1,())).bind fun u4=>
  some (((((),(),u4.1.1.2.2.1,()),false,()),()),(u4.2.1,u4.2.2.1,())))
 ((C_ (p0.1,p0.2.1,p0.2.2.1,())).bind fun u5=>
 R6 p1 p0.2.1 (p0.2.1.length:Int) 0 p0.1 p0.2.1 p0.2.2.1 0 [] [] u5.1.1.2.2.1 u5.2.1 []))
def NI(p0:ACn)(p1:Int):Option OV:=Tu (JY Ac) p0 p1
abbrev mD:Type:=ADj×ADh
def PC(p0:ACn):Option mD:=
 (NI (p0.1,p0.2.1,p0.2.2.1,()) 1048575).bind fun u1=>
 some (((((),(),u1.1.1.1.2.2.1,()),u1.1.1.2.1,()),()),(u1.2.1,u1.2.2.1,()))
abbrev oQ:Type:=ABk×Unit
def cmp_isNaN_int(p0:Int):Option oQ:=
 some ((p0 !=p0,()),())
abbrev pq:Type:=ABk×Unit
def cmp_Less_int(p0 p1:Int):Option pq:=
 (cmp_isNaN_int p0).bind fun u1=>
 cond (u1.1.1)
  ((cmp_isNaN_int p1).bind fun u2=>
  cond (!u2.1.1)
   (some ((true,()),()))
  (some ((decide (p0<p1),()),())))
 (some ((decide (p0<p1),()),()))
abbrev ic:Type:=ABk×Unit
def Pm(p0:Int):Option ic:=
 some ((p0 !=p0,()),())
abbrev Fi:Type:=AEy×Unit
abbrev HW:Type:=List Int→Int→Int→Int→Int→Option Fi
def J4(R3:HW)(t0:AAG)(t1 t6 t7 t8:Int):Option Fi:=
 cond (decide (t7<t8))
  (let x2:Int:=AS ((IntKind.wrap .u64 (AS (t7+t8))).fdiv (2^1))
  if(0:Int)≤x2∧x2<(t0.length:Int)then(
  (cmp_Less_int (t0.getD (x2.toNat) 0) t1).bind fun u4=>
  cond (u4.1.1)
   (R3 t0 t1 t6 (AS (x2+1)) t8)
  (R3 t0 t1 t6 t7 x2))else none)
 (cond (decide (t7<t6))
  (if(0:Int)≤t7∧t7<(t0.length:Int)then(
  cond ((t0.getD (t7.toNat) 0)==t1)
   (some (((t7,true,()),()),()))
  (if(0:Int)≤t7∧t7<(t0.length:Int)then(
  (Pm (t0.getD (t7.toNat) 0)).bind fun u7=>
  cond (u7.1.1)
   ((Pm t1).bind fun u8=>
   some (((t7,u8.1.1,()),()),()))
  (some (((t7,false,()),()),())))else none))else none)
 (some (((t7,false,()),()),())))
def Du:Nat→HW
 |0=>fun _ _ _ _ _=>none
 |n+1=>J4 (Du n)
def J5(R3:HW)(p0:AAG)(p1:Int):Option Fi:=
 R3 p0 p1 (p0.length:Int) 0 (p0.length:Int)
def Gf(p0:AAG)(p1:Int):Option Fi:=J5 (Du Ac) p0 p1
abbrev bO:Type:=ACx×AGn
def J3(p1:Int)(p2 b0:AAG):Option bO:=(yD p1 p2 b0).map fun l=>(((),()),((),l,()))
abbrev o3:Type:=ACx×ADA
def LB(p0:AAG)(p1:Int):Option o3:=
 (DF p0).bind fun u1=>
 (Gf u1.2.1 p1).bind fun u2=>
 cond (!u2.1.1.2.1)
  ((J3 u2.1.1.1 [p1] u1.2.1).bind fun u3=>
  some (((),()),(u3.2.2.1,())))
 (some (((),()),(u1.2.1,())))
abbrev lI:Type:=AGg×AD7
def TW(p0:ABU)(p1:ACt)(p2 p3:Int):Option lI:=
 (Gh (p0.1,p0.2.1,()) (p1.1,p1.2.1,())).bind fun u1=>
 cond (!u1.1.1)
  ((EU (p0.1,p0.2.1,()) (p1.1,p1.2.1,())).bind fun u2=>
  some ((((u2.1.1.1,(),()),false,()),()),(u2.2.1,())))
 ((A7 p2 1 (p1.2.1.length:Int)).bind fun u4=>
 cond (!u4.1.1)
  ((EU (p0.1,p0.2.1,()) (p1.1,p1.2.1,())).bind fun u5=>
  some ((((u5.1.1.1,(),()),false,()),()),(u5.2.1,())))
 (if(0:Int)≤AS (p2-1)∧AS (p2-1)<(p1.2.1.length:Int)then(
 cond (((p1.2.1.getD ((AS (p2-1)).toNat) ([],[],false,())).2.2.1))
  ((EU (p0.1,p0.2.1,()) (p1.1,p1.2.1,())).bind fun u7=>
  some ((((u7.1.1.1,(),()),false,()),()),(u7.2.1,())))
 ((A7 p3 0 (AS ((p0.1.length:Int)-1))).bind fun u9=>
 cond (!u9.1.1)
  ((EU (p0.1,p0.2.1,()) (p1.1,p1.2.1,())).bind fun D9=>
  some ((((D9.1.1.1,(),()),false,()),()),(D9.2.1,())))
 ((F4 (p1.1,p1.2.1,())).bind fun Kg=>
 if(0:Int)≤AS (p2-1)∧AS (p2-1)<(Kg.2.1.length:Int)then(
 (LB ((Kg.2.1.getD ((AS (p2-1)).toNat) ([],[],false,())).2.1) p3).bind fun Dj=>
 let x13:AB4:=(Kg.2.1.set ((AS (p2-1)).toNat) ((Kg.2.1.getD ((AS (p2-1)).toNat) ([],[],false,())).1,Dj.2.1,(Kg.2.1.getD ((AS (p2-1)).toNat) ([],[],false,())).2.2.1,()))
 (GF (p0.1,p0.2.1,()) ((x13.getD ((AS (p2-1)).toNat) ([],[],false,())).2.1)).bind fun Kc=>
 some ((((Kg.1.1.1,(),()),true,()),()),((x13.set ((AS (p2-1)).toNat) ((x13.getD ((AS (p2-1)).toNat) ([],[],false,())).1,(x13.getD ((AS (p2-1)).toNat) ([],[],false,())).2.1,Kc.1.1,())),())))else none)))else none))
abbrev Gc:Type:=ACx×AD0
abbrev LF:Type:=Int→Int→Int→Int→Int→Bool→List Int→AAa→List Int→AAX→AAt→AA9→ABQ→AAl→Option Gc
def I3(R1:LF)(t1 t2 t6 AE AZ:Int)(AN:Bool)(b1:AAG)(b2:AAa)(b3:AAG)(b4:AAX)(b5:AAt)(b6:AA9)(b7:ABQ)(b8:AAl):Option Gc:=
 if(0:Int)≤t1∧t1<(b5.length:Int)then(
 cond (decide (t6≤(((b5.getD (t1.toNat) (0,[],())).2.1).length:Int)))
  (if(0:Int)≤t1∧t1<(b5.length:Int)then(
  (DA ((b5.getD (t1.toNat) (0,[],())).1) t6).bind fun u3=>
  if(0:Int)≤t2∧t2<(b2.length:Int)then(
  (Fq ((b2.getD (t2.toNat) ([],[],0,())).1,(b2.getD (t2.toNat) ([],[],0,())).2.1,(b2.getD (t2.toNat) ([],[],0,())).2.2.1,()) u3.1.1.1).bind fun u4=>
  if(0:Int)≤t1∧t1<(b5.length:Int)then(
  if(0:Int)≤AS (t6-1)∧AS (t6-1)<(((b5.getD (t1.toNat) (0,[],())).2.1).length:Int)then(
  cond (((((b5.getD (t1.toNat) (0,[],())).2.1).getD ((AS (t6-1)).toNat) ([],[],false,())).2.2.1))
   (R1 t1 t2 (AS (t6+1)) AE AZ AN b1 b2 b3 b4 b5 b6 b7 b8)
  (cond (!u4.1.1.2.1)
   (R1 t1 t2 (AS (t6+1)) AE AZ AN b1 b2 b3 b4 b5 b6 b7 b8)
  (cond (u4.1.1.1.2.1 !=0)
   (R1 t1 t2 (AS (t6+1)) AE AZ AN b1 b2 b3 b4 b5 b6 b7 b8)
  (if(0:Int)≤t1∧t1<(b5.length:Int)then(
  (TW (b1,AE,()) ((b5.getD (t1.toNat) (0,[],())).1,(b5.getD (t1.toNat) (0,[],())).2.1,()) t6 t2).bind fun u6=>
  if(0:Int)≤t1∧t1<(b5.length:Int)then(
  let x7:AAt:=(b5.set (t1.toNat) (u6.1.1.1.1,u6.2.1,()))
  (Ed (b1,AE,b2,b3,b4,AZ,x7,b6,b7,b8,AN,()) u3.1.1.1).bind fun u8=>
  cond (u8.1.1.2.1)
   (if(0:Int)≤t1∧t1<(x7.length:Int)then(
   if(0:Int)≤AS (t6-1)∧AS (t6-1)<(((x7.getD (t1.toNat) (0,[],())).2.1).length:Int)then(
   cond (((((x7.getD (t1.toNat) (0,[],())).2.1).getD ((AS (t6-1)).toNat) ([],[],false,())).2.2.1))
    (if(0:Int)≤u8.1.1.1∧u8.1.1.1<(b8.length:Int)then(
    R1 t1 t2 (AS (t6+1)) AE AZ AN b1 b2 b3 b4 x7 b6 b7 (b8.set (u8.1.1.1.toNat) ((b8.getD (u8.1.1.1.toNat) (0,[],false,())).1,(b8.getD (u8.1.1.1.toNat) (0,[],false,())).2.1,true,())))else none)
   (R1 t1 t2 (AS (t6+1)) AE AZ AN b1 b2 b3 b4 x7 b6 b7 b8))else none)else none)
  (R1 t1 t2 (AS (t6+1)) AE AZ AN b1 b2 b3 b4 x7 b6 b7 b8))else none)else none))))else none)else none)else none)else none)
 (some (((()),()),(((),AE,(),(),(),AZ,(),(),(),(),AN,()),b1,b2,b3,b4,b5,b6,b7,b8,()))))else none
def C1:Nat→LF
 |0=>fun _ _ _ _ _ _ _ _ _ _ _ _ _ _=>none
 |n+1=>I3 (C1 n)
def OU(R1:LF)(p1 p2 AE AZ:Int)(AN:Bool)(b1:AAG)(b2:AAa)(b3:AAG)(b4:AAX)(b5:AAt)(b6:AA9)(b7:ABQ)(b8:AAl):Option Gc:=
 R1 p1 p2 1 AE AZ AN b1 b2 b3 b4 b5 b6 b7 b8
def N1(p1 p2 AE AZ:Int)(AN:Bool)(b1:AAG)(b2:AAa)(b3:AAG)(b4:AAX)(b5:AAt)(b6:AA9)(b7:ABQ)(b8:AAl):Option Gc:=OU (C1 Ac) p1 p2 AE AZ AN b1 b2 b3 b4 b5 b6 b7 b8
abbrev JG:Type:=AF_×Unit
abbrev S2:Type:=Int→AA2→Int→Int→Int→Int→List Int→AA2→Bool→List AAG→Int→Int→Bool→List UInt8→Option JG
def Vc(R5:S2)(t6:Int)(t33:AA2)(t34 t35 AM AE:Int)(Ab:AAG)(Cq:AA2)(DW:Bool)(AZ:List AAG)(BJ Ar:Int)(DK:Bool)(G9:ABp):Option JG:=
 cond (decide (t35<t34))
  (if(0:Int)≤t35∧t35<(t33.length:Int)then(
  cond (((t33.getD (t35.toNat) (0,0,false,[],())).1)==t6)
   (some ((((t6,AM,((t33.getD (t35.toNat) (0,0,false,[],())).2.2.1),((t33.getD (t35.toNat) (0,0,false,[],())).2.2.2.1),()),true,()),()),()))
  (R5 t6 t33 t34 (AS (t35+1)) AM AE Ab Cq DW AZ BJ Ar DK G9))else none)
 (some ((((t6,AM,true,[],()),true,()),()),()))
def K5:Nat→S2
 |0=>fun _ _ _ _ _ _ _ _ _ _ _ _ _ _=>none
 |n+1=>Vc (K5 n)
def Vo(R5:S2)(p0:ABe)(p1:Int):Option JG:=
 (DA p0.2.1 p1).bind fun u1=>
 cond (!u1.1.1.2.1)
  (some ((((0,0,false,[],()),false,()),()),()))
 (cond (!p0.2.2.2.2.1)
  (some ((((0,0,false,[],()),false,()),()),()))
 (cond (decide (p1>(p0.2.2.2.2.2.1.length:Int)))
  (some ((((0,0,false,[],()),false,()),()),()))
 (R5 u1.1.1.1 p0.2.2.2.1 (p0.2.2.2.1.length:Int) 0 p0.1 p0.2.1 p0.2.2.1 p0.2.2.2.1 p0.2.2.2.2.1 p0.2.2.2.2.2.1 0 0 false [])))
def JX(p0:ABe)(p1:Int):Option JG:=Vo (K5 Ac) p0 p1
abbrev lW:Type:=AEO×ADi
def E_(p0:ABU)(p1:ABe):Option lW:=
 (H6 (p0.1,p0.2.1,()) (p1.1,p1.2.1,p1.2.2.1,p1.2.2.2.1,p1.2.2.2.2.1,p1.2.2.2.2.2.1,())).bind fun u1=>
 cond (!u1.1.1)
  (some (((0,0,(),(),false,(),()),()),([],[],[],())))
 ((Gi (p1.1,p1.2.1,p1.2.2.1,p1.2.2.2.1,p1.2.2.2.2.1,p1.2.2.2.2.2.1,())).bind fun u2=>
 some (((u2.1.1.1,u2.1.1.2.1,(),(),u2.1.1.2.2.2.2.1,(),()),()),(u2.2.1,u2.2.2.1,u2.2.2.2.1,())))
abbrev Xs:Type:=AEj×ADi
def PU(p0:ABU)(p1:ABe)(p2 p3:Int):Option Xs:=
 (H6 (p0.1,p0.2.1,()) (p1.1,p1.2.1,p1.2.2.1,p1.2.2.2.1,p1.2.2.2.2.1,p1.2.2.2.2.2.1,())).bind fun u1=>
 cond (!u1.1.1)
  ((E_ (p0.1,p0.2.1,()) (p1.1,p1.2.1,p1.2.2.1,p1.2.2.2.1,p1.2.2.2.2.1,p1.2.2.2.2.2.1,())).bind fun u2=>
  some ((((u2.1.1.1,u2.1.1.2.1,(),(),u2.1.1.2.2.2.2.1,(),()),false,()),()),(u2.2.1,u2.2.2.1,u2.2.2.2.1,())))
 ((A7 p2 1 (p1.2.2.2.2.2.1.length:Int)).bind fun u4=>
 cond (!u4.1.1)
  ((E_ (p0.1,p0.2.1,()) (p1.1,p1.2.1,p1.2.2.1,p1.2.2.2.1,p1.2.2.2.2.1,p1.2.2.2.2.2.1,())).bind fun u5=>
  some ((((u5.1.1.1,u5.1.1.2.1,(),(),u5.1.1.2.2.2.2.1,(),()),false,()),()),(u5.2.1,u5.2.2.1,u5.2.2.2.1,())))
 ((A7 p3 0 (AS ((p0.1.length:Int)-1))).bind fun u7=>
 cond (!u7.1.1)
  ((E_ (p0.1,p0.2.1,()) (p1.1,p1.2.1,p1.2.2.1,p1.2.2.2.1,p1.2.2.2.2.1,p1.2.2.2.2.2.1,())).bind fun u8=>
  some ((((u8.1.1.1,u8.1.1.2.1,(),(),u8.1.1.2.2.2.2.1,(),()),false,()),()),(u8.2.1,u8.2.2.1,u8.2.2.2.1,())))
 ((Gi (p1.1,p1.2.1,p1.2.2.1,p1.2.2.2.1,p1.2.2.2.2.1,p1.2.2.2.2.2.1,())).bind fun u9=>
 if(0:Int)≤AS (p2-1)∧AS (p2-1)<(u9.2.2.2.1.length:Int)then(
 (LB (u9.2.2.2.1.getD ((AS (p2-1)).toNat) []) p3).bind fun D9=>
 if(0:Int)≤AS (p2-1)∧AS (p2-1)<(u9.2.2.2.1.length:Int)then(
 some ((((u9.1.1.1,u9.1.1.2.1,(),(),u9.1.1.2.2.2.2.1,(),()),true,()),()),(u9.2.1,u9.2.2.1,(u9.2.2.2.1.set ((AS (p2-1)).toNat) D9.2.1),())))else none)else none)))
abbrev Jx:Type:=ACx×AD0
abbrev Mn:Type:=Int→Int→Int→Int→Int→Bool→List Int→AAa→List Int→AAX→AAt→AA9→ABQ→AAl→Option Jx
def HH(R1:Mn)(t1 t2 t6 AE AZ:Int)(AN:Bool)(b1:AAG)(b2:AAa)(b3:AAG)(b4:AAX)(b5:AAt)(b6:AA9)(b7:ABQ)(b8:AAl):Option Jx:=
 if(0:Int)≤t1∧t1<(b6.length:Int)then(
 cond (decide (t6≤(((b6.getD (t1.toNat) (0,0,[],[],false,[],())).2.2.2.2.2.1).length:Int)))
  (if(0:Int)≤t1∧t1<(b6.length:Int)then(
  (JX ((b6.getD (t1.toNat) (0,0,[],[],false,[],())).1,(b6.getD (t1.toNat) (0,0,[],[],false,[],())).2.1,(b6.getD (t1.toNat) (0,0,[],[],false,[],())).2.2.1,(b6.getD (t1.toNat) (0,0,[],[],false,[],())).2.2.2.1,(b6.getD (t1.toNat) (0,0,[],[],false,[],())).2.2.2.2.1,(b6.getD (t1.toNat) (0,0,[],[],false,[],())).2.2.2.2.2.1,()) t6).bind fun u2=>
  if(0:Int)≤t2∧t2<(b2.length:Int)then(
  (Fq ((b2.getD (t2.toNat) ([],[],0,())).1,(b2.getD (t2.toNat) ([],[],0,())).2.1,(b2.getD (t2.toNat) ([],[],0,())).2.2.1,()) u2.1.1.1.1).bind fun u3=>
  cond (u2.1.1.2.1)
   (cond (u3.1.1.2.1)
    (cond (((u3.1.1.1.1==u2.1.1.1.1)&&((u3.1.1.1.2.1==u2.1.1.1.2.1)&&((u3.1.1.1.2.2.1==u2.1.1.1.2.2.1)&&((u3.1.1.1.2.2.2.1==u2.1.1.1.2.2.2.1)&&true)))))
     (if(0:Int)≤t1∧t1<(b6.length:Int)then(
     (PU (b1,AE,()) ((b6.getD (t1.toNat) (0,0,[],[],false,[],())).1,(b6.getD (t1.toNat) (0,0,[],[],false,[],())).2.1,(b6.getD (t1.toNat) (0,0,[],[],false,[],())).2.2.1,(b6.getD (t1.toNat) (0,0,[],[],false,[],())).2.2.2.1,(b6.getD (t1.toNat) (0,0,[],[],false,[],())).2.2.2.2.1,(b6.getD (t1.toNat) (0,0,[],[],false,[],())).2.2.2.2.2.1,()) t6 t2).bind fun u5=>
     if(0:Int)≤t1∧t1<(b6.length:Int)then(
     R1 t1 t2 (AS (t6+1)) AE AZ AN b1 b2 b3 b4 b5 (b6.set (t1.toNat) (u5.1.1.1.1,u5.1.1.1.2.1,u5.2.1,u5.2.2.1,u5.1.1.1.2.2.2.2.1,u5.2.2.2.1,())) b7 b8)else none)else none)
    (R1 t1 t2 (AS (t6+1)) AE AZ AN b1 b2 b3 b4 b5 b6 b7 b8))
   (R1 t1 t2 (AS (t6+1)) AE AZ AN b1 b2 b3 b4 b5 b6 b7 b8))
  (R1 t1 t2 (AS (t6+1)) AE AZ AN b1 b2 b3 b4 b5 b6 b7 b8))else none)else none)
 (some (((()),()),(((),AE,(),(),(),AZ,(),(),(),(),AN,()),b1,b2,b3,b4,b5,b6,b7,b8,()))))else none
def BX:Nat→Mn
 |0=>fun _ _ _ _ _ _ _ _ _ _ _ _ _ _=>none
 |n+1=>HH (BX n)
def J8(R1:Mn)(p1 p2 AE AZ:Int)(AN:Bool)(b1:AAG)(b2:AAa)(b3:AAG)(b4:AAX)(b5:AAt)(b6:AA9)(b7:ABQ)(b8:AAl):Option Jx:=
 R1 p1 p2 1 AE AZ AN b1 b2 b3 b4 b5 b6 b7 b8
def LZ(p1 p2 AE AZ:Int)(AN:Bool)(b1:AAG)(b2:AAa)(b3:AAG)(b4:AAX)(b5:AAt)(b6:AA9)(b7:ABQ)(b8:AAl):Option Jx:=J8 (BX Ac) p1 p2 AE AZ AN b1 b2 b3 b4 b5 b6 b7 b8
abbrev IP:Type:=AB5×AD0
abbrev M1:Type:=Int→Int→Int→Int→Int→Bool→List Int→AAa→List Int→AAX→AAt→AA9→ABQ→AAl→Int→Option IP
abbrev Ll:Type:=Int→Int→Int→Int→Int→Bool→List Int→AAa→List Int→AAX→AAt→AA9→ABQ→AAl→Option IP
def N7(R9:M1)(jK:Ll)(t1 t42 t43 AE AZ:Int)(AN:Bool)(b1:AAG)(b2:AAa)(b3:AAG)(b4:AAX)(b5:AAt)(b6:AA9)(b7:ABQ)(b8:AAl)(fB:Int):Option IP:=
 cond (decide (t43<t42))
  (if(0:Int)≤t43∧t43<(b5.length:Int)then(
  cond (decide (((b5.getD (t43.toNat) (0,[],())).1)>fB))
   ((Hl (b4,AZ,()) ((b5.getD (t43.toNat) (0,[],())).1)).bind fun u6=>
   (Bo u6.2.1 t1).bind fun u7=>
   cond (u7.1.1)
    ((N1 t43 t1 AE AZ AN b1 b2 b3 b4 b5 b6 b7 b8).bind fun u8=>
    R9 t1 t42 (AS (t43+1)) u8.2.1.2.1 u8.2.1.2.2.2.2.2.1 u8.2.1.2.2.2.2.2.2.2.2.2.2.1 u8.2.2.1 u8.2.2.2.1 u8.2.2.2.2.1 u8.2.2.2.2.2.1 u8.2.2.2.2.2.2.1 u8.2.2.2.2.2.2.2.1 u8.2.2.2.2.2.2.2.2.1 u8.2.2.2.2.2.2.2.2.2.1 fB)
   (R9 t1 t42 (AS (t43+1)) AE AZ AN b1 b2 b3 b4 b5 b6 b7 b8 fB))
  (R9 t1 t42 (AS (t43+1)) AE AZ AN b1 b2 b3 b4 b5 b6 b7 b8 fB))else none)
 (jK t1 (b6.length:Int) 0 AE AZ AN b1 b2 b3 b4 b5 b6 b7 b8)
def M3(R9:M1)(jK:Ll)(t1 t73 t74 AE AZ:Int)(AN:Bool)(b1:AAG)(b2:AAa)(b3:AAG)(b4:AAX)(b5:AAt)(b6:AA9)(b7:ABQ)(b8:AAl):Option IP:=
 cond (decide (t74<t73))
  (if(0:Int)≤t74∧t74<(b6.length:Int)then(
  (Hl (b4,AZ,()) ((b6.getD (t74.toNat) (0,0,[],[],false,[],())).2.1)).bind fun Kg=>
  (Bo Kg.2.1 t1).bind fun Dj=>
  cond (Dj.1.1)
   ((LZ t74 t1 AE AZ AN b1 b2 b3 b4 b5 b6 b7 b8).bind fun J9=>
   jK t1 t73 (AS (t74+1)) J9.2.1.2.1 J9.2.1.2.2.2.2.2.1 J9.2.1.2.2.2.2.2.2.2.2.2.2.1 J9.2.2.1 J9.2.2.2.1 J9.2.2.2.2.1 J9.2.2.2.2.2.1 J9.2.2.2.2.2.2.1 J9.2.2.2.2.2.2.2.1 J9.2.2.2.2.2.2.2.2.1 J9.2.2.2.2.2.2.2.2.2.1)
  (jK t1 t73 (AS (t74+1)) AE AZ AN b1 b2 b3 b4 b5 b6 b7 b8))else none)
 (some ((0,()),(((),AE,(),(),(),AZ,(),(),(),(),AN,()),b1,b2,b3,b4,b5,b6,b7,b8,())))
mutual
def Ex:Nat→M1
 |0=>fun _ _ _ _ _ _ _ _ _ _ _ _ _ _ _=>none
 |n+1=>N7 (Ex n) (FW n)
def FW:Nat→Ll
 |0=>fun _ _ _ _ _ _ _ _ _ _ _ _ _ _=>none
 |n+1=>M3 (Ex n) (FW n)
end
def T8(R9:M1)(jK:Ll)(p1 AE AZ:Int)(AN:Bool)(b1:AAG)(b2:AAa)(b3:AAG)(b4:AAX)(b5:AAt)(b6:AA9)(b7:ABQ)(b8:AAl):Option IP:=
 (EZ (b1,AE,b2,b3,b4,AZ,b5,b6,b7,b8,AN,()) p1).bind fun u1=>
 cond (u1.1.1 !=0)
  (some ((u1.1.1,()),(((),AE,(),(),(),AZ,(),(),(),(),AN,()),b1,b2,b3,b4,b5,b6,b7,b8,())))
 (if(0:Int)≤p1∧p1<(b2.length:Int)then(
 (PC ((b2.getD (p1.toNat) ([],[],0,())).1,(b2.getD (p1.toNat) ([],[],0,())).2.1,(b2.getD (p1.toNat) ([],[],0,())).2.2.1,())).bind fun u2=>
 cond (!u2.1.1.2.1)
  (some ((4,()),(((),AE,(),(),(),AZ,(),(),(),(),AN,()),b1,b2,b3,b4,b5,b6,b7,b8,())))
 (if(0:Int)≤p1∧p1<(b2.length:Int)then(
 R9 p1 (b5.length:Int) 0 AE AZ AN b1 (b2.set (p1.toNat) (u2.2.1,u2.2.2.1,u2.1.1.1.2.2.1,())) b3 b4 b5 b6 b7 b8 u2.1.1.1.2.2.1)else none))else none)
def Qj(p1 AE AZ:Int)(AN:Bool)(b1:AAG)(b2:AAa)(b3:AAG)(b4:AAX)(b5:AAt)(b6:AA9)(b7:ABQ)(b8:AAl):Option IP:=T8 (Ex Ac) (FW Ac) p1 AE AZ AN b1 b2 b3 b4 b5 b6 b7 b8
abbrev iL:Type:=AB5×AD0
def Po(p1 p2 AE AZ:Int)(AN:Bool)(b1:AAG)(b2:AAa)(b3:AAG)(b4:AAX)(b5:AAt)(b6:AA9)(b7:ABQ)(b8:AAl):Option iL:=
 (EZ (b1,AE,b2,b3,b4,AZ,b5,b6,b7,b8,AN,()) p1).bind fun u1=>
 cond (u1.1.1 !=0)
  (some ((u1.1.1,()),(((),AE,(),(),(),AZ,(),(),(),(),AN,()),b1,b2,b3,b4,b5,b6,b7,b8,())))
 (if(0:Int)≤p1∧p1<(b2.length:Int)then(
 (NI ((b2.getD (p1.toNat) ([],[],0,())).1,(b2.getD (p1.toNat) ([],[],0,())).2.1,(b2.getD (p1.toNat) ([],[],0,())).2.2.1,()) p2).bind fun u2=>
 if(0:Int)≤p1∧p1<(b2.length:Int)then(
 (KK u2.1.1.2.1).bind fun u4=>
 some ((u4.1.1,()),(((),AE,(),(),(),AZ,(),(),(),(),AN,()),b1,(b2.set (p1.toNat) (u2.2.1,u2.2.2.1,u2.1.1.1.2.2.1,())),b3,b4,b5,b6,b7,b8,())))else none)else none)
abbrev ea:Type:=ABk×Unit
def Mi(p0:Int)(p1:AB5):Option ea:=
 some ((p0==p1.1,()),())
abbrev Ce:Type:=AB5×Unit
abbrev De:Type:=List Int→ADb→Int→Int→Option Ce
def FI(R2:De)(t0:AAG)(t1:ADb)(t7 t8:Int):Option Ce:=
 cond (decide (t8<t7))
  (if(0:Int)≤t8∧t8<(t0.length:Int)then(
  (Mi (t0.getD (t8.toNat) 0) t1.1).bind fun u2=>
  cond (u2.1.1)
   (some ((t8,()),()))
  (R2 t0 (t1.1,()) t7 (AS (t8+1))))else none)
 (some (((-1),()),()))
def Bv:Nat→De
 |0=>fun _ _ _ _=>none
 |n+1=>FI (Bv n)
def FH(R2:De)(p0:AAG)(p1:ADb):Option Ce:=
 R2 p0 (p1.1,()) (p0.length:Int) 0
def D7(p0:AAG)(p1:ADb):Option Ce:=FH (Bv Ac) p0 p1
abbrev Ca:Type:=ACx×AGn
abbrev DL:Type:=ADb→Int→Int→List Int→Option Ca
def Er(R5:DL)(t1:ADb)(t5 t6:Int)(b0:AAG):Option Ca:=
 cond ((decide (t6<(b0.length:Int))))
  (if(0:Int)≤t6∧t6<(b0.length:Int)then(
  let x3:Int:=(b0.getD (t6.toNat) 0)
  (Mi x3 t1.1).bind fun u4=>
  cond (!u4.1.1)
   (if(0:Int)≤t5∧t5<(b0.length:Int)then(
   R5 (t1.1,()) (AS (t5+1)) (AS (t6+1)) (b0.set (t5.toNat) x3))else none)
  (R5 (t1.1,()) t5 (AS (t6+1)) b0))else none)
 (if(0:Int)≤t5∧t5≤(b0.length:Int)∧(b0.length:Int)≤(b0.length:Int)then(
 let x6:AAG:=(b0.take (t5.toNat)++List.replicate (((b0.length:Int).toNat)-(t5.toNat)) 0++b0.drop ((t5.toNat)+(((b0.length:Int).toNat)-(t5.toNat))))
 if(0:Int)≤(0:Int)∧(0:Int)≤t5∧t5≤(x6.length:Int)then(
 some (((),()),((),((x6.drop 0).take ((t5.toNat)-0)),())))else none)else none)
def Br:Nat→DL
 |0=>fun _ _ _ _=>none
 |n+1=>Er (Br n)
def E6(R5:DL)(p1:ADb)(b0:AAG):Option Ca:=
 (D7 b0 (p1.1,())).bind fun u1=>
 cond (u1.1.1==(-1))
  (some (((),()),((),b0,())))
 (R5 (p1.1,()) u1.1.1 (AS (u1.1.1+1)) b0)
def Cm(p1:ADb)(b0:AAG):Option Ca:=E6 (Br Ac) p1 b0
abbrev YG:Type:=ACx×ADA
def GI(p0:AAG)(p1:Int):Option YG:=
 (DF p0).bind fun u1=>
 (Cm ((p1,()),()) u1.2.1).bind fun u2=>
 some (((),()),(u2.2.2.1,()))
abbrev Lg:Type:=AGg×AD7
abbrev O8:Type:=Int→AB4→Int→Int→Int→AB4→Int→AB4→Option Lg
def Rs(R5:O8)(t2:Int)(t19:AB4)(t20 t21 AM:Int)(b1:AB4)(It:Int)(b3:AB4):Option Lg:=
 cond (decide (t21<t20))
  (if(0:Int)≤t21∧t21<(t19.length:Int)then(
  cond (!((t19.getD (t21.toNat) ([],[],false,())).2.2.1))
   ((GI ((t19.getD (t21.toNat) ([],[],false,())).2.1) t2).bind fun u5=>
   if(0:Int)≤t21∧t21<(b3.length:Int)then(
   R5 t2 t19 t20 (AS (t21+1)) AM b1 It (b3.set (t21.toNat) ((b3.getD (t21.toNat) ([],[],false,())).1,u5.2.1,(b3.getD (t21.toNat) ([],[],false,())).2.2.1,())))else none)
  (R5 t2 t19 t20 (AS (t21+1)) AM b1 It b3))else none)
 (some ((((It,(),()),true,()),()),(b3,())))
def Hq:Nat→O8
 |0=>fun _ _ _ _ _ _ _ _=>none
 |n+1=>Rs (Hq n)
def Rr(R5:O8)(p0:ABU)(p1:ACt)(p2:Int):Option Lg:=
 (Gh (p0.1,p0.2.1,()) (p1.1,p1.2.1,())).bind fun u1=>
 cond (!u1.1.1)
  (some ((((0,(),()),false,()),()),([],())))
 ((F4 (p1.1,p1.2.1,())).bind fun u2=>
 R5 p2 p1.2.1 (p1.2.1.length:Int) 0 0 [] u2.1.1.1 u2.2.1)
def OI(p0:ABU)(p1:ACt)(p2:Int):Option Lg:=Rr (Hq Ac) p0 p1 p2
abbrev OD:Type:=AEj×ADi
abbrev RP:Type:=Int→List AAG→Int→Int→Int→Int→Bool→List Int→AA2→List AAG→Int→Int→Bool→List Int→AA2→List AAG→Option OD
def Tx(R5:RP)(t2:Int)(t19:List AAG)(t20 t21 AM AE:Int)(DW:Bool)(b1:AAG)(b2:AA2)(b3:List AAG)(jx fu:Int)(xM:Bool)(b5:AAG)(b6:AA2)(b7:List AAG):Option OD:=
 cond (decide (t21<t20))
  (if(0:Int)≤t21∧t21<(t19.length:Int)then(
  (GI (t19.getD (t21.toNat) []) t2).bind fun u4=>
  if(0:Int)≤t21∧t21<(b7.length:Int)then(
  R5 t2 t19 t20 (AS (t21+1)) AM AE DW b1 b2 b3 jx fu xM b5 b6 (b7.set (t21.toNat) u4.2.1))else none)else none)
 (some ((((jx,fu,(),(),xM,(),()),true,()),()),(b5,b6,b7,())))
def Jn:Nat→RP
 |0=>fun _ _ _ _ _ _ _ _ _ _ _ _ _ _ _ _=>none
 |n+1=>Tx (Jn n)
def T5(R5:RP)(p0:ABU)(p1:ABe)(p2:Int):Option OD:=
 (H6 (p0.1,p0.2.1,()) (p1.1,p1.2.1,p1.2.2.1,p1.2.2.2.1,p1.2.2.2.2.1,p1.2.2.2.2.2.1,())).bind fun u1=>
 cond (!u1.1.1)
  (some ((((0,0,(),(),false,(),()),false,()),()),([],[],[],())))
 ((Gi (p1.1,p1.2.1,p1.2.2.1,p1.2.2.2.1,p1.2.2.2.2.1,p1.2.2.2.2.2.1,())).bind fun u2=>
 R5 p2 p1.2.2.2.2.2.1 (p1.2.2.2.2.2.1.length:Int) 0 0 0 false [] [] [] u2.1.1.1 u2.1.1.2.1 u2.1.1.2.2.2.2.1 u2.2.1 u2.2.2.1 u2.2.2.2.1)
def Qi(p0:ABU)(p1:ABe)(p2:Int):Option OD:=T5 (Jn Ac) p0 p1 p2
abbrev Gy:Type:=AB5×AK3
abbrev Ms:Type:=Int→Int→Int→Int→Int→Bool→List Int→AAa→List Int→AAX→AAt→AA9→ABQ→AAl→List Int→Option Gy
abbrev Lh:Type:=Int→Int→Int→Int→Int→Bool→List Int→AAa→List Int→AAX→AAt→AA9→ABQ→AAl→List Int→Option Gy
def T2(R7:Ms)(R12:Lh)(t1 t36 t37 AE AZ:Int)(AN:Bool)(b1:AAG)(b2:AAa)(b3:AAG)(b4:AAX)(b5:AAt)(b6:AA9)(b7:ABQ)(b8:AAl)(b9:AAG):Option Gy:=
 cond (decide (t37<t36))
  (if(0:Int)≤t37∧t37<(b5.length:Int)then(
  (OI (b1,AE,()) ((b5.getD (t37.toNat) (0,[],())).1,(b5.getD (t37.toNat) (0,[],())).2.1,()) t1).bind fun u4=>
  if(0:Int)≤t37∧t37<(b5.length:Int)then(
  R7 t1 t36 (AS (t37+1)) AE AZ AN b1 b2 b3 b4 (b5.set (t37.toNat) (u4.1.1.1.1,u4.2.1,())) b6 b7 b8 b9)else none)else none)
 (R12 t1 (b6.length:Int) 0 AE AZ AN b1 b2 b3 b4 b5 b6 b7 b8 b9)
def S4(R7:Ms)(R12:Lh)(t1 t63 t64 AE AZ:Int)(AN:Bool)(b1:AAG)(b2:AAa)(b3:AAG)(b4:AAX)(b5:AAt)(b6:AA9)(b7:ABQ)(b8:AAl)(b9:AAG):Option Gy:=
 cond (decide (t64<t63))
  (if(0:Int)≤t64∧t64<(b6.length:Int)then(
  (Qi (b1,AE,()) ((b6.getD (t64.toNat) (0,0,[],[],false,[],())).1,(b6.getD (t64.toNat) (0,0,[],[],false,[],())).2.1,(b6.getD (t64.toNat) (0,0,[],[],false,[],())).2.2.1,(b6.getD (t64.toNat) (0,0,[],[],false,[],())).2.2.2.1,(b6.getD (t64.toNat) (0,0,[],[],false,[],())).2.2.2.2.1,(b6.getD (t64.toNat) (0,0,[],[],false,[],())).2.2.2.2.2.1,()) t1).bind fun u6=>
  if(0:Int)≤t64∧t64<(b6.length:Int)then(
  R12 t1 t63 (AS (t64+1)) AE AZ AN b1 b2 b3 b4 b5 (b6.set (t64.toNat) (u6.1.1.1.1,u6.1.1.1.2.1,u6.2.1,u6.2.2.1,u6.1.1.1.2.2.2.2.1,u6.2.2.2.1,())) b7 b8 b9)else none)else none)
 (cond (AN)
  (some ((0,()),(((),AE,(),(),(),AZ,(),(),(),(),true,()),b1,b2,(),b4,b5,b6,b7,b8,b9,())))
 ((GF (b1,AE,()) b9).bind fun u8=>
 some ((0,()),(((),AE,(),(),(),AZ,(),(),(),(),u8.1.1,()),b1,b2,(),b4,b5,b6,b7,b8,b9,()))))
mutual
def Hc:Nat→Ms
 |0=>fun _ _ _ _ _ _ _ _ _ _ _ _ _ _ _=>none
 |n+1=>T2 (Hc n) (G6 n)
def G6:Nat→Lh
 |0=>fun _ _ _ _ _ _ _ _ _ _ _ _ _ _ _=>none
 |n+1=>S4 (Hc n) (G6 n)
end
def Tv(R7:Ms)(R12:Lh)(p1 AE AZ:Int)(AN:Bool)(b1:AAG)(b2:AAa)(b3:AAG)(b4:AAX)(b5:AAt)(b6:AA9)(b7:ABQ)(b8:AAl):Option Gy:=
 (EZ (b1,AE,b2,b3,b4,AZ,b5,b6,b7,b8,AN,()) p1).bind fun u1=>
 cond (u1.1.1 !=0)
  (some ((u1.1.1,()),(((),AE,(),(),(),AZ,(),(),(),(),AN,()),b1,b2,(),b4,b5,b6,b7,b8,b3,())))
 (if(0:Int)≤p1∧p1<(b2.length:Int)then(
 (LB b3 p1).bind fun u3=>
 R7 p1 (b5.length:Int) 0 AE AZ AN b1 (b2.set (p1.toNat) ([],[],0,())) b3 b4 b5 b6 b7 b8 u3.2.1)else none)
def Q3(p1 AE AZ:Int)(AN:Bool)(b1:AAG)(b2:AAa)(b3:AAG)(b4:AAX)(b5:AAt)(b6:AA9)(b7:ABQ)(b8:AAl):Option Gy:=Tv (Hc Ac) (G6 Ac) p1 AE AZ AN b1 b2 b3 b4 b5 b6 b7 b8
abbrev sr:Type:=ABk×Unit
def Zi(p0:ABU)(p1:AAG):Option sr:=
 (EF (p0.1,p0.2.1,()) p1).bind fun u1=>
 cond (u1.1.1)
  ((GF (p0.1,p0.2.1,()) p1).bind fun u2=>
  some ((!u2.1.1,()),()))
 (some ((false,()),()))
abbrev Pz:Type:=ACx×AE1
abbrev Un:Type:=AAa→Int→Int→AA2→Option Pz
abbrev Uz:Type:=AAa→Int→Int→AA2→Int→Int→AA2→Option Pz
def bU(R3:Un)(R8:Uz)(t9:AAa)(t10 t11:Int)(b0:AA2):Option Pz:=
 cond (decide (t11<t10))
  (if(0:Int)≤t11∧t11<(t9.length:Int)then(
  (FK ((t9.getD (t11.toNat) ([],[],0,())).1,(t9.getD (t11.toNat) ([],[],0,())).2.1,(t9.getD (t11.toNat) ([],[],0,())).2.2.1,())).bind fun u1=>
  cond (!u1.1.1)
   (some (((),()),([],())))
  (R8 t9 t10 t11 ((t9.getD (t11.toNat) ([],[],0,())).1) (((t9.getD (t11.toNat) ([],[],0,())).1).length:Int) 0 b0))else none)
 (some (((),()),(b0,())))
def bG(R3:Un)(R8:Uz)(t9:AAa)(t10 t11:Int)(t19:AA2)(t20 t21:Int)(b0:AA2):Option Pz:=
 cond (decide (t21<t20))
  (if(0:Int)≤t21∧t21<(t19.length:Int)then(
  (Xg ((t19.getD (t21.toNat) (0,0,false,[],())).1,(t19.getD (t21.toNat) (0,0,false,[],())).2.1,(t19.getD (t21.toNat) (0,0,false,[],())).2.2.1,(t19.getD (t21.toNat) (0,0,false,[],())).2.2.2.1,()) b0).bind fun u3=>
  R8 t9 t10 t11 t19 t20 (AS (t21+1)) u3.2.2.1)else none)
 (R3 t9 t10 (AS (t11+1)) b0)
mutual
def Nd:Nat→Un
 |0=>fun _ _ _ _=>none
 |n+1=>bU (Nd n) (Nu n)
def Nu:Nat→Uz
 |0=>fun _ _ _ _ _ _ _=>none
 |n+1=>bG (Nd n) (Nu n)
end
def lZ(R3:Un)(R8:Uz)(p0:AAa):Option Pz:=
 R3 p0 (p0.length:Int) 0 []
def iv(p0:AAa):Option Pz:=lZ (Nd Ac) (Nu Ac) p0
abbrev Vy:Type:=ADj×AJz
abbrev cc:Type:=List Int→Int→Int→Int→AAa→Int→AA2→AA2→AAa→Option Vy
def dE(R5:cc)(t2:AAG)(t4 t37 t38:Int)(b0:AAa)(DK:Int)(b2 b3:AA2)(b4:AAa):Option Vy:=
 cond (decide (t38<t37))
  (if(0:Int)≤t38∧t38<(b0.length:Int)then(
  (Bo t2 t38).bind fun u4=>
  cond (u4.1.1)
   (R5 t2 t4 t37 (AS (t38+1)) b0 DK b2 b3 b4)
  ((FK ((b0.getD (t38.toNat) ([],[],0,())).1,(b0.getD (t38.toNat) ([],[],0,())).2.1,(b0.getD (t38.toNat) ([],[],0,())).2.2.1,())).bind fun u5=>
  cond (!u5.1.1)
   (some (((((),(),0,()),false,()),()),(b0,[],[],())))
  (if b4.length+1≤DE then(
  R5 t2 t4 t37 (AS (t38+1)) b0 DK b2 b3 (b4++[((b0.getD (t38.toNat) ([],[],0,())).1,(b0.getD (t38.toNat) ([],[],0,())).2.1,(b0.getD (t38.toNat) ([],[],0,())).2.2.1,())]))else none)))else none)
 ((iv b4).bind fun u7=>
 (FK (u7.2.1,[],t4,())).bind fun u8=>
 cond (!u8.1.1)
  (some (((((),(),0,()),false,()),()),(b0,[],[],())))
 (some (((((),(),t4,()),true,()),()),(b0,u7.2.1,[],()))))
def SF:Nat→cc
 |0=>fun _ _ _ _ _ _ _ _ _=>none
 |n+1=>dE (SF n)
def dY(R5:cc)(p0:ABU)(p2:AAG)(p3 p4:Int)(b0:AAa):Option Vy:=
 cond (((b0.length:Int) !=(p0.1.length:Int)))
  (some (((((),(),0,()),false,()),()),(b0,[],[],())))
 ((Zi (p0.1,p0.2.1,()) p2).bind fun u2=>
 cond (!u2.1.1)
  (some (((((),(),0,()),false,()),()),(b0,[],[],())))
 ((Bo p2 p3).bind fun u3=>
 cond (!u3.1.1)
  (some (((((),(),0,()),false,()),()),(b0,[],[],())))
 (R5 p2 p4 (b0.length:Int) 0 b0 0 [] [] [])))
def bW(p0:ABU)(p2:AAG)(p3 p4:Int)(b0:AAa):Option Vy:=dY (SF Ac) p0 p2 p3 p4 b0
abbrev jo:Type:=AB5×AK3
def KT(p1 AE AZ:Int)(AN:Bool)(b1:AAG)(b2:AAa)(b3:AAG)(b4:AAX)(b5:AAt)(b6:AA9)(b7:ABQ)(b8:AAl):Option jo:=
 (A7 p1 0 (AS ((b2.length:Int)-1))).bind fun u2=>
 cond (!u2.1.1)
  (some ((2,()),(((),AE,(),(),(),AZ,(),(),(),(),AN,()),b1,b2,(),b4,b5,b6,b7,b8,b3,())))
 ((C5 (b1,AE,b2,b3,b4,AZ,b5,b6,b7,b8,AN,()) p1).bind fun u3=>
 cond (!u3.1.1)
  (some ((2,()),(((),AE,(),(),(),AZ,(),(),(),(),AN,()),b1,b2,(),b4,b5,b6,b7,b8,b3,())))
 (let x4:Int:=AS ((b4.length:Int)-1)
 (bW (b1,AE,()) b3 p1 (if 0>x4 then 0 else x4) b2).bind fun u6=>
 cond (!u6.1.1.2.1)
  (some ((4,()),(((),AE,(),(),(),AZ,(),(),(),(),AN,()),b1,u6.2.1,(),b4,b5,b6,b7,b8,b3,())))
 (if(0:Int)≤p1∧p1<(u6.2.1.length:Int)then(
 (GI b3 p1).bind fun u8=>
 some ((0,()),(((),AE,(),(),(),AZ,(),(),(),(),AN,()),b1,(u6.2.1.set (p1.toNat) (u6.2.2.1,u6.2.2.2.1,u6.1.1.1.2.2.1,())),(),b4,b5,b6,b7,b8,u8.2.1,())))else none)))
abbrev qM:Type:=AEO×ADi
def jr(p0 p1:Int):Option qM:=
 some (((p1,p0,(),(),false,(),()),()),([],[],[],()))
abbrev Yy:Type:=AB5×(ADs×List Int×AAa×List Int×AAX×AAt×Unit×ABQ×AAl×AA9×Unit)
def Qm(AE AZ:Int)(AN:Bool)(b1:AAG)(b2:AAa)(b3:AAG)(b4:AAX)(b5:AAt)(b6:AA9)(b7:ABQ)(b8:AAl):Option Yy:=
 (L7 (b4,AZ,())).bind fun u1=>
 cond ((decide ((b4.length:Int)<2)))
  (some ((2,()),(((),AE,(),(),(),AZ,(),(),(),(),AN,()),b1,b2,b3,b4,b5,(),b7,b8,b6,())))
 (cond ((u1.1.1==(b4.length:Int)))
  (some ((2,()),(((),AE,(),(),(),AZ,(),(),(),(),AN,()),b1,b2,b3,b4,b5,(),b7,b8,b6,())))
 (cond ((decide ((b6.length:Int)>0)))
  (some ((4,()),(((),AE,(),(),(),AZ,(),(),(),(),AN,()),b1,b2,b3,b4,b5,(),b7,b8,b6,())))
 ((jr u1.1.1 (b4.length:Int)).bind fun u5=>
 some ((0,()),(((),AE,(),(),(),AZ,(),(),(),(),AN,()),b1,b2,b3,b4,b5,(),b7,b8,[(u5.1.1.1,u5.1.1.2.1,u5.2.1,u5.2.2.1,u5.1.1.2.2.2.2.1,u5.2.2.2.1,())],())))))
abbrev Ui:Type:=ADj×ADh
def O7(p0:ACn)(p1:Int):Option Ui:=
 (PC (p0.1,p0.2.1,p0.2.2.1,())).bind fun u1=>
 cond (!u1.1.1.2.1)
  ((Ds (p0.1,p0.2.1,p0.2.2.1,())).bind fun u2=>
  some (((((),(),u2.1.1.2.2.1,()),false,()),()),(u2.2.1,u2.2.2.1,())))
 ((A7 p1 0 30).bind fun u3=>
 cond (!u3.1.1)
  ((Ds (p0.1,p0.2.1,p0.2.2.1,())).bind fun u4=>
  some (((((),(),u4.1.1.2.2.1,()),false,()),()),(u4.2.1,u4.2.2.1,())))
 (some (((((),(),(if p1>u1.1.1.1.2.2.1 then p1 else u1.1.1.1.2.2.1),()),true,()),()),(u1.2.1,u1.2.2.1,()))))
abbrev KH:Type:=ACx×AE1
abbrev Uj:Type:=Int→AA2→Int→Int→AA2→Option KH
def Wj(R5:Uj)(t1:Int)(t14:AA2)(t15 t16:Int)(b0:AA2):Option KH:=
 cond (decide (t16<t15))
  (if(0:Int)≤t16∧t16<(t14.length:Int)then(
  (FL ((t14.getD (t16.toNat) (0,0,false,[],())).1)).bind fun u3=>
  cond (u3.1.1==t1)
   (if b0.length+1≤DE then(
   R5 t1 t14 t15 (AS (t16+1)) (b0++[((t14.getD (t16.toNat) (0,0,false,[],())).1,(t14.getD (t16.toNat) (0,0,false,[],())).2.1,(t14.getD (t16.toNat) (0,0,false,[],())).2.2.1,(t14.getD (t16.toNat) (0,0,false,[],())).2.2.2.1,())]))else none)
  (R5 t1 t14 t15 (AS (t16+1)) b0))else none)
 (some (((),()),(b0,())))
def MJ:Nat→Uj
 |0=>fun _ _ _ _ _=>none
 |n+1=>Wj (MJ n)
def Wm(R5:Uj)(p0:ACn)(p1:Int):Option KH:=
 (FK (p0.1,p0.2.1,p0.2.2.1,())).bind fun u1=>
 cond (!u1.1.1)
  (some (((),()),([],())))
 (R5 p1 p0.1 (p0.1.length:Int) 0 [])
def Qe(p0:ACn)(p1:Int):Option KH:=Wm (MJ Ac) p0 p1
abbrev KE:Type:=AEj×ADi
abbrev US:Type:=AA2→Int→Int→List Int→Int→Int→Int→List Int→AA2→Bool→List AAG→Int→Int→Bool→List Int→AA2→List AAG→Int→Int→Bool→List Int→AA2→List AAG→Option KE
def Wl(R6:US)(t31:AA2)(t32 t33:Int)(AM:AAG)(AE BJ Ar:Int)(DK:AAG)(G9:AA2)(M0:Bool)(Di:List AAG)(It LC:Int)(QL:Bool)(b3:AAG)(b4:AA2)(b5:List AAG)(LS KB:Int)(LV:Bool)(b7:AAG)(b8:AA2)(b9:List AAG):Option KE:=
 cond (decide (t33<t32))
  (if(0:Int)≤t33∧t33<(t31.length:Int)then(
  (FL ((t31.getD (t33.toNat) (0,0,false,[],())).1)).bind fun u7=>
  cond (u7.1.1==Ar)
   ((Xg ((t31.getD (t33.toNat) (0,0,false,[],())).1,(t31.getD (t33.toNat) (0,0,false,[],())).2.1,(t31.getD (t33.toNat) (0,0,false,[],())).2.2.1,(t31.getD (t33.toNat) (0,0,false,[],())).2.2.2.1,()) b8).bind fun u8=>
   R6 t31 t32 (AS (t33+1)) AM AE BJ Ar DK G9 M0 Di It LC QL b3 b4 b5 LS KB LV b7 u8.2.2.1 b9)
  (R6 t31 t32 (AS (t33+1)) AM AE BJ Ar DK G9 M0 Di It LC QL b3 b4 b5 LS KB LV b7 b8 b9))else none)
 ((H6 (AM,AE,()) (LS,KB,b7,b8,LV,b9,())).bind fun u9=>
 cond (!u9.1.1)
  ((Gi (BJ,Ar,DK,G9,M0,Di,())).bind fun D9=>
  some ((((D9.1.1.1,D9.1.1.2.1,(),(),D9.1.1.2.2.2.2.1,(),()),false,()),()),(D9.2.1,D9.2.2.1,D9.2.2.2.1,())))
 (some ((((LS,KB,(),(),LV,(),()),true,()),()),(b7,b8,b9,()))))
def Lu:Nat→US
 |0=>fun _ _ _ _ _ _ _ _ _ _ _ _ _ _ _ _ _ _ _ _ _ _ _=>none
 |n+1=>Wl (Lu n)
def WV(R6:US)(p0:ABU)(p1:ABe)(p2:Int)(p3:AA2):Option KE:=
 (H6 (p0.1,p0.2.1,()) (p1.1,p1.2.1,p1.2.2.1,p1.2.2.2.1,p1.2.2.2.2.1,p1.2.2.2.2.2.1,())).bind fun u1=>
 cond (!u1.1.1)
  ((E_ (p0.1,p0.2.1,()) (p1.1,p1.2.1,p1.2.2.1,p1.2.2.2.1,p1.2.2.2.2.1,p1.2.2.2.2.2.1,())).bind fun u2=>
  some ((((u2.1.1.1,u2.1.1.2.1,(),(),u2.1.1.2.2.2.2.1,(),()),false,()),()),(u2.2.1,u2.2.2.1,u2.2.2.2.1,())))
 (cond (p1.2.2.2.2.1)
  ((E_ (p0.1,p0.2.1,()) (p1.1,p1.2.1,p1.2.2.1,p1.2.2.2.1,p1.2.2.2.2.1,p1.2.2.2.2.2.1,())).bind fun u3=>
  some ((((u3.1.1.1,u3.1.1.2.1,(),(),u3.1.1.2.2.2.2.1,(),()),false,()),()),(u3.2.1,u3.2.2.1,u3.2.2.2.1,())))
 ((Gi (p1.1,p1.2.1,p1.2.2.1,p1.2.2.2.1,p1.2.2.2.2.1,p1.2.2.2.2.2.1,())).bind fun u4=>
 (LB u4.2.1 p2).bind fun u5=>
 R6 p3 (p3.length:Int) 0 p0.1 p0.2.1 p1.1 p1.2.1 p1.2.2.1 p1.2.2.2.1 p1.2.2.2.2.1 p1.2.2.2.2.2.1 0 0 false [] [] [] u4.1.1.1 u4.1.1.2.1 u4.1.1.2.2.2.2.1 u5.2.1 u4.2.2.1 u4.2.2.2.1))
def QV(p0:ABU)(p1:ABe)(p2:Int)(p3:AA2):Option KE:=WV (Lu Ac) p0 p1 p2 p3
abbrev kh:Type:=AB5×AD0
def KS(p1 AE AZ:Int)(AN:Bool)(b1:AAG)(b2:AAa)(b3:AAG)(b4:AAX)(b5:AAt)(b6:AA9)(b7:ABQ)(b8:AAl):Option kh:=
 cond (((b6.length:Int)==0))
  (some ((2,()),(((),AE,(),(),(),AZ,(),(),(),(),AN,()),b1,b2,b3,b4,b5,b6,b7,b8,())))
 (if(0:Int)≤(0:Int)∧(0:Int)<(b6.length:Int)then(
 (Dm (b1,AE,b2,b3,b4,AZ,b5,b6,b7,b8,AN,()) p1 ((b6.getD 0 (0,0,[],[],false,[],())).2.1)).bind fun u3=>
 cond (u3.1.1 !=0)
  (some ((u3.1.1,()),(((),AE,(),(),(),AZ,(),(),(),(),AN,()),b1,b2,b3,b4,b5,b6,b7,b8,())))
 (if(0:Int)≤p1∧p1<(b2.length:Int)then(
 (O7 ((b2.getD (p1.toNat) ([],[],0,())).1,(b2.getD (p1.toNat) ([],[],0,())).2.1,(b2.getD (p1.toNat) ([],[],0,())).2.2.1,()) (AS (((b6.getD 0 (0,0,[],[],false,[],())).1)-1))).bind fun u5=>
 (Qe (u5.2.1,u5.2.2.1,u5.1.1.1.2.2.1,()) ((b6.getD 0 (0,0,[],[],false,[],())).2.1)).bind fun u7=>
 (QV (b1,AE,()) ((b6.getD 0 (0,0,[],[],false,[],())).1,(b6.getD 0 (0,0,[],[],false,[],())).2.1,(b6.getD 0 (0,0,[],[],false,[],())).2.2.1,(b6.getD 0 (0,0,[],[],false,[],())).2.2.2.1,(b6.getD 0 (0,0,[],[],false,[],())).2.2.2.2.1,(b6.getD 0 (0,0,[],[],false,[],())).2.2.2.2.2.1,()) p1 u7.2.1).bind fun u8=>
 cond (!u5.1.1.2.1)
  (some ((4,()),(((),AE,(),(),(),AZ,(),(),(),(),AN,()),b1,b2,b3,b4,b5,b6,b7,b8,())))
 (cond (!u8.1.1.2.1)
  (some ((4,()),(((),AE,(),(),(),AZ,(),(),(),(),AN,()),b1,b2,b3,b4,b5,b6,b7,b8,())))
 (if(0:Int)≤p1∧p1<(b2.length:Int)then(
 if(0:Int)≤(0:Int)∧(0:Int)<(b6.length:Int)then(
 some ((0,()),(((),AE,(),(),(),AZ,(),(),(),(),AN,()),b1,(b2.set (p1.toNat) (u5.2.1,u5.2.2.1,u5.1.1.1.2.2.1,())),b3,b4,b5,(b6.set 0 (u8.1.1.1.1,u8.1.1.1.2.1,u8.2.1,u8.2.2.1,u8.1.1.1.2.2.2.2.1,u8.2.2.2.1,())),b7,b8,())))else none)else none)))else none))else none)
abbrev cw:Type:=AEj×ADi
def QP(p0:ABU)(p1:ABe)(p2:AAG):Option cw:=
 (H6 (p0.1,p0.2.1,()) (p1.1,p1.2.1,p1.2.2.1,p1.2.2.2.1,p1.2.2.2.2.1,p1.2.2.2.2.2.1,())).bind fun u1=>
 cond (!u1.1.1)
  ((E_ (p0.1,p0.2.1,()) (p1.1,p1.2.1,p1.2.2.1,p1.2.2.2.1,p1.2.2.2.2.1,p1.2.2.2.2.2.1,())).bind fun u2=>
  some ((((u2.1.1.1,u2.1.1.2.1,(),(),u2.1.1.2.2.2.2.1,(),()),false,()),()),(u2.2.1,u2.2.2.1,u2.2.2.2.1,())))
 (cond (p1.2.2.2.2.1)
  ((E_ (p0.1,p0.2.1,()) (p1.1,p1.2.1,p1.2.2.1,p1.2.2.2.1,p1.2.2.2.2.1,p1.2.2.2.2.2.1,())).bind fun u3=>
  some ((((u3.1.1.1,u3.1.1.2.1,(),(),u3.1.1.2.2.2.2.1,(),()),false,()),()),(u3.2.1,u3.2.2.1,u3.2.2.2.1,())))
 ((Ng p1.2.2.1 p2).bind fun u4=>
 (HE (p0.1,p0.2.1,()) p2 u4.2.1).bind fun u5=>
 cond (!u5.1.1)
  ((E_ (p0.1,p0.2.1,()) (p1.1,p1.2.1,p1.2.2.1,p1.2.2.2.1,p1.2.2.2.2.1,p1.2.2.2.2.2.1,())).bind fun u6=>
  some ((((u6.1.1.1,u6.1.1.2.1,(),(),u6.1.1.2.2.2.2.1,(),()),false,()),()),(u6.2.1,u6.2.2.1,u6.2.2.2.1,())))
 ((Gi (p1.1,p1.2.1,p1.2.2.1,p1.2.2.2.1,p1.2.2.2.2.1,p1.2.2.2.2.2.1,())).bind fun u7=>
 (SN (p1.1,p1.2.1,p1.2.2.1,p1.2.2.2.1,p1.2.2.2.2.1,p1.2.2.2.2.2.1,())).bind fun u8=>
 if(0:Int)≤u8.1.1∧u8.1.1≤u8.1.1∧u8.1.1≤(DE:Int)then(
 some ((((u7.1.1.1,u7.1.1.2.1,(),(),true,(),()),true,()),()),(u7.2.1,u7.2.2.1,(List.replicate (u8.1.1.toNat) []),())))else none)))
abbrev jk:Type:=AB5×AD0
def KJ(AE AZ:Int)(AN:Bool)(b1:AAG)(b2:AAa)(b3:AAG)(b4:AAX)(b5:AAt)(b6:AA9)(b7:ABQ)(b8:AAl):Option jk:=
 cond (((b6.length:Int)==0))
  (some ((2,()),(((),AE,(),(),(),AZ,(),(),(),(),AN,()),b1,b2,b3,b4,b5,b6,b7,b8,())))
 (if(0:Int)≤(0:Int)∧(0:Int)<(b6.length:Int)then(
 if(0:Int)≤(0:Int)∧(0:Int)<(b6.length:Int)then(
 (Hl (b4,AZ,()) ((b6.getD 0 (0,0,[],[],false,[],())).2.1)).bind fun u3=>
 (QP (b1,AE,()) ((b6.getD 0 (0,0,[],[],false,[],())).1,(b6.getD 0 (0,0,[],[],false,[],())).2.1,(b6.getD 0 (0,0,[],[],false,[],())).2.2.1,(b6.getD 0 (0,0,[],[],false,[],())).2.2.2.1,(b6.getD 0 (0,0,[],[],false,[],())).2.2.2.2.1,(b6.getD 0 (0,0,[],[],false,[],())).2.2.2.2.2.1,()) u3.2.1).bind fun u4=>
 if(0:Int)≤(0:Int)∧(0:Int)<(b6.length:Int)then(
 (KK u4.1.1.2.1).bind fun u6=>
 some ((u6.1.1,()),(((),AE,(),(),(),AZ,(),(),(),(),AN,()),b1,b2,b3,b4,b5,(b6.set 0 (u4.1.1.1.1,u4.1.1.1.2.1,u4.2.1,u4.2.2.1,u4.1.1.1.2.2.2.2.1,u4.2.2.2.1,())),b7,b8,())))else none)else none)else none)
abbrev lf:Type:=AB5×AD0
def SR(p1 p2 AE AZ:Int)(AN:Bool)(b1:AAG)(b2:AAa)(b3:AAG)(b4:AAX)(b5:AAt)(b6:AA9)(b7:ABQ)(b8:AAl):Option lf:=
 cond (((b6.length:Int)==0))
  (some ((2,()),(((),AE,(),(),(),AZ,(),(),(),(),AN,()),b1,b2,b3,b4,b5,b6,b7,b8,())))
 (if(0:Int)≤(0:Int)∧(0:Int)<(b6.length:Int)then(
 (JX ((b6.getD 0 (0,0,[],[],false,[],())).1,(b6.getD 0 (0,0,[],[],false,[],())).2.1,(b6.getD 0 (0,0,[],[],false,[],())).2.2.1,(b6.getD 0 (0,0,[],[],false,[],())).2.2.2.1,(b6.getD 0 (0,0,[],[],false,[],())).2.2.2.2.1,(b6.getD 0 (0,0,[],[],false,[],())).2.2.2.2.2.1,()) p1).bind fun u2=>
 cond (!u2.1.1.2.1)
  (some ((2,()),(((),AE,(),(),(),AZ,(),(),(),(),AN,()),b1,b2,b3,b4,b5,b6,b7,b8,())))
 (if(0:Int)≤(0:Int)∧(0:Int)<(b6.length:Int)then(
 (Dm (b1,AE,b2,b3,b4,AZ,b5,b6,b7,b8,AN,()) p2 ((b6.getD 0 (0,0,[],[],false,[],())).2.1)).bind fun u4=>
 cond (u4.1.1 !=0)
  (some ((u4.1.1,()),(((),AE,(),(),(),AZ,(),(),(),(),AN,()),b1,b2,b3,b4,b5,b6,b7,b8,())))
 ((MD p2 (u2.1.1.1.1,u2.1.1.1.2.1,u2.1.1.1.2.2.1,u2.1.1.1.2.2.2.1,()) AE AZ AN b1 b2 b3 b4 b5 b6 b7 b8).bind fun u5=>
 some ((u5.1.1,()),(((),u5.2.1.2.1,(),(),(),u5.2.1.2.2.2.2.2.1,(),(),(),(),u5.2.1.2.2.2.2.2.2.2.2.2.2.1,()),u5.2.2.1,u5.2.2.2.1,u5.2.2.2.2.1,u5.2.2.2.2.2.1,u5.2.2.2.2.2.2.1,u5.2.2.2.2.2.2.2.1,u5.2.2.2.2.2.2.2.2.1,u5.2.2.2.2.2.2.2.2.2.1,()))))else none))else none)
abbrev Lt:Type:=ABk×Unit
abbrev S6:Type:=List AAG→Int→Int→List Int→Int→Option Lt
def Vg(R4:S6)(t17:List AAG)(t18 t19:Int)(AM:AAG)(AE:Int):Option Lt:=
 cond (decide (t19<t18))
  (if(0:Int)≤t19∧t19<(t17.length:Int)then(
  (GF (AM,AE,()) (t17.getD (t19.toNat) [])).bind fun u3=>
  cond (!u3.1.1)
   (some ((false,()),()))
  (R4 t17 t18 (AS (t19+1)) AM AE))else none)
 (some ((true,()),()))
def KY:Nat→S6
 |0=>fun _ _ _ _ _=>none
 |n+1=>Vg (KY n)
def VM(R4:S6)(p0:ABU)(p1:ABe):Option Lt:=
 (H6 (p0.1,p0.2.1,()) (p1.1,p1.2.1,p1.2.2.1,p1.2.2.2.1,p1.2.2.2.2.1,p1.2.2.2.2.2.1,())).bind fun u1=>
 cond (!u1.1.1)
  (some ((false,()),()))
 (cond (!p1.2.2.2.2.1)
  (some ((false,()),()))
 (R4 p1.2.2.2.2.2.1 (p1.2.2.2.2.2.1.length:Int) 0 p0.1 p0.2.1))
def PM(p0:ABU)(p1:ABe):Option Lt:=VM (KY Ac) p0 p1
abbrev dR:Type:=AGh×AD5
def QY(p0:ABU)(p1:ACa)(p2 p3:Int):Option dR:=
 (L7 (p1.1,p1.2.1,())).bind fun u1=>
 (K7 (p0.1,p0.2.1,()) (p1.1,p1.2.1,())).bind fun u2=>
 cond (!u2.1.1)
  ((EP (p0.1,p0.2.1,()) (p1.1,p1.2.1,())).bind fun u3=>
  some (((((),u3.1.1.2.1,()),false,()),()),(u3.2.1,())))
 (cond ((p2 !=(p1.1.length:Int)))
  ((EP (p0.1,p0.2.1,()) (p1.1,p1.2.1,())).bind fun u5=>
  some (((((),u5.1.1.2.1,()),false,()),()),(u5.2.1,())))
 (cond (u1.1.1==p2)
  ((EP (p0.1,p0.2.1,()) (p1.1,p1.2.1,())).bind fun u6=>
  some (((((),u6.1.1.2.1,()),false,()),()),(u6.2.1,())))
 ((A7 p3 0 60).bind fun u7=>
 cond (!u7.1.1)
  ((EP (p0.1,p0.2.1,()) (p1.1,p1.2.1,())).bind fun u8=>
  some (((((),u8.1.1.2.1,()),false,()),()),(u8.2.1,())))
 ((Ef (p1.1,p1.2.1,())).bind fun u9=>
 if(0:Int)≤AS (u1.1.1-1)∧AS (u1.1.1-1)<(u9.2.1.length:Int)then(
 let Yz:AAX:=(u9.2.1.set ((AS (u1.1.1-1)).toNat) ((u9.2.1.getD ((AS (u1.1.1-1)).toNat) ([],false,0,())).1,true,(u9.2.1.getD ((AS (u1.1.1-1)).toNat) ([],false,0,())).2.2.1,()))
 if(0:Int)≤AS (u1.1.1-1)∧AS (u1.1.1-1)<(Yz.length:Int)then(
 some (((((),u9.1.1.2.1,()),true,()),()),((Yz.set ((AS (u1.1.1-1)).toNat) ((Yz.getD ((AS (u1.1.1-1)).toNat) ([],false,0,())).1,(Yz.getD ((AS (u1.1.1-1)).toNat) ([],false,0,())).2.1,p3,())),())))else none)else none))))
abbrev Xk:Type:=AB5×(ADs×List Int×AAa×List Int×Unit×AAt×Unit×ABQ×AAl×AAX×AA9×Unit)
def JJ(AE AZ:Int)(AN:Bool)(b1:AAG)(b2:AAa)(b3:AAG)(b4:AAX)(b5:AAt)(b6:AA9)(b7:ABQ)(b8:AAl):Option Xk:=
 cond (((b6.length:Int)==0))
  (some ((2,()),(((),AE,(),(),(),AZ,(),(),(),(),AN,()),b1,b2,b3,(),b5,(),b7,b8,b4,b6,())))
 (if(0:Int)≤(0:Int)∧(0:Int)<(b6.length:Int)then(
 (PM (b1,AE,()) ((b6.getD 0 (0,0,[],[],false,[],())).1,(b6.getD 0 (0,0,[],[],false,[],())).2.1,(b6.getD 0 (0,0,[],[],false,[],())).2.2.1,(b6.getD 0 (0,0,[],[],false,[],())).2.2.2.1,(b6.getD 0 (0,0,[],[],false,[],())).2.2.2.2.1,(b6.getD 0 (0,0,[],[],false,[],())).2.2.2.2.2.1,())).bind fun u2=>
 cond (!u2.1.1)
  (some ((5,()),(((),AE,(),(),(),AZ,(),(),(),(),AN,()),b1,b2,b3,(),b5,(),b7,b8,b4,b6,())))
 (if(0:Int)≤(0:Int)∧(0:Int)<(b6.length:Int)then(
 if(0:Int)≤(0:Int)∧(0:Int)<(b6.length:Int)then(
 (QY (b1,AE,()) (b4,AZ,()) ((b6.getD 0 (0,0,[],[],false,[],())).1) (((b6.getD 0 (0,0,[],[],false,[],())).2.2.2.2.2.1).length:Int)).bind fun u5=>
 cond (u5.1.1.2.1)
  ((KK u5.1.1.2.1).bind fun u6=>
  some ((u6.1.1,()),(((),AE,(),(),(),u5.1.1.1.2.1,(),(),(),(),AN,()),b1,b2,b3,(),b5,(),b7,b8,u5.2.1,[],())))
 ((KK u5.1.1.2.1).bind fun u7=>
 some ((u7.1.1,()),(((),AE,(),(),(),AZ,(),(),(),(),AN,()),b1,b2,b3,(),b5,(),b7,b8,b4,b6,()))))else none)else none))else none)
abbrev re:Type:=AGh×AD5
def W8(p0:ABU)(p1:ACa)(p2:Int):Option re:=
 (K7 (p0.1,p0.2.1,()) (p1.1,p1.2.1,())).bind fun u1=>
 cond (!u1.1.1)
  ((EP (p0.1,p0.2.1,()) (p1.1,p1.2.1,())).bind fun u2=>
  some (((((),u2.1.1.2.1,()),false,()),()),(u2.2.1,())))
 ((FL p2).bind fun u3=>
 (A7 u3.1.1 1 (p1.1.length:Int)).bind fun u4=>
 cond (!u4.1.1)
  ((EP (p0.1,p0.2.1,()) (p1.1,p1.2.1,())).bind fun u5=>
  some (((((),u5.1.1.2.1,()),false,()),()),(u5.2.1,())))
 ((Ef (p1.1,p1.2.1,())).bind fun u6=>
 some (((((),(if p2>u6.1.1.2.1 then p2 else u6.1.1.2.1),()),true,()),()),(u6.2.1,()))))
abbrev gm:Type:=ABk×Unit
def Pg(p0:ADZ)(p1:AB5):Option gm:=
 some ((decide (p0.1≤p1.1),()),())
abbrev Bm:Type:=AB5×Unit
abbrev CX:Type:=AA2→ADb→Int→Int→Option Bm
def DZ(R2:CX)(t0:AA2)(t1:ADb)(t7 t8:Int):Option Bm:=
 cond (decide (t8<t7))
  (if(0:Int)≤t8∧t8<(t0.length:Int)then(
  (Pg ((t0.getD (t8.toNat) (0,0,false,[],())).1,(t0.getD (t8.toNat) (0,0,false,[],())).2.1,(t0.getD (t8.toNat) (0,0,false,[],())).2.2.1,(t0.getD (t8.toNat) (0,0,false,[],())).2.2.2.1,()) t1.1).bind fun u1=>
  cond (u1.1.1)
   (some ((t8,()),()))
  (R2 t0 (t1.1,()) t7 (AS (t8+1))))else none)
 (some (((-1),()),()))
def BL:Nat→CX
 |0=>fun _ _ _ _=>none
 |n+1=>DZ (BL n)
def DY(R2:CX)(p0:AA2)(p1:ADb):Option Bm:=
 R2 p0 (p1.1,()) (p0.length:Int) 0
def Cj(p0:AA2)(p1:ADb):Option Bm:=DY (BL Ac) p0 p1
abbrev Bl:Type:=ACx×AGr
abbrev CS:Type:=ADb→Int→Int→AA2→Option Bl
def DV(R5:CS)(t1:ADb)(t5 t6:Int)(b0:AA2):Option Bl:=
 cond ((decide (t6<(b0.length:Int))))
  (if(0:Int)≤t6∧t6<(b0.length:Int)then(
  (Pg ((b0.getD (t6.toNat) (0,0,false,[],())).1,(b0.getD (t6.toNat) (0,0,false,[],())).2.1,(b0.getD (t6.toNat) (0,0,false,[],())).2.2.1,(b0.getD (t6.toNat) (0,0,false,[],())).2.2.2.1,()) t1.1).bind fun u3=>
  cond (!u3.1.1)
   (if(0:Int)≤t5∧t5<(b0.length:Int)then(
   R5 (t1.1,()) (AS (t5+1)) (AS (t6+1)) (b0.set (t5.toNat) ((b0.getD (t6.toNat) (0,0,false,[],())).1,(b0.getD (t6.toNat) (0,0,false,[],())).2.1,(b0.getD (t6.toNat) (0,0,false,[],())).2.2.1,(b0.getD (t6.toNat) (0,0,false,[],())).2.2.2.1,())))else none)
  (R5 (t1.1,()) t5 (AS (t6+1)) b0))else none)
 (if(0:Int)≤t5∧t5≤(b0.length:Int)∧(b0.length:Int)≤(b0.length:Int)then(
 let x5:AA2:=(b0.take (t5.toNat)++List.replicate (((b0.length:Int).toNat)-(t5.toNat)) (0,0,false,[],())++b0.drop ((t5.toNat)+(((b0.length:Int).toNat)-(t5.toNat))))
 if(0:Int)≤(0:Int)∧(0:Int)≤t5∧t5≤(x5.length:Int)then(
 some (((),()),((),((x5.drop 0).take ((t5.toNat)-0)),())))else none)else none)
def BG:Nat→CS
 |0=>fun _ _ _ _=>none
 |n+1=>DV (BG n)
def DN(R5:CS)(p1:ADb)(b0:AA2):Option Bl:=
 (Cj b0 (p1.1,())).bind fun u1=>
 cond (u1.1.1==(-1))
  (some (((),()),((),b0,())))
 (R5 (p1.1,()) u1.1.1 (AS (u1.1.1+1)) b0)
def Bq(p1:ADb)(b0:AA2):Option Bl:=DN (BG Ac) p1 b0
abbrev lS:Type:=ADj×ADh
def SZ(p0:ACn)(p1:Int):Option lS:=
 (FK (p0.1,p0.2.1,p0.2.2.1,())).bind fun u1=>
 cond (!u1.1.1)
  ((Ds (p0.1,p0.2.1,p0.2.2.1,())).bind fun u2=>
  some (((((),(),u2.1.1.2.2.1,()),false,()),()),(u2.2.1,u2.2.2.1,())))
 ((EA p1).bind fun u3=>
 cond (!u3.1.1)
  ((Ds (p0.1,p0.2.1,p0.2.2.1,())).bind fun u4=>
  some (((((),(),u4.1.1.2.2.1,()),false,()),()),(u4.2.1,u4.2.2.1,())))
 ((C_ (p0.1,p0.2.1,p0.2.2.1,())).bind fun u5=>
 (Bq ((p1,()),()) u5.2.1).bind fun u6=>
 some (((((),(),u5.1.1.2.2.1,()),true,()),()),(u6.2.2.1,u5.2.2.1,()))))
abbrev iM:Type:=AB5×AD0
def Pb(p1 AE AZ:Int)(AN:Bool)(b1:AAG)(b2:AAa)(b3:AAG)(b4:AAX)(b5:AAt)(b6:AA9)(b7:ABQ)(b8:AAl):Option iM:=
 (EZ (b1,AE,b2,b3,b4,AZ,b5,b6,b7,b8,AN,()) p1).bind fun u1=>
 cond (u1.1.1 !=0)
  (some ((u1.1.1,()),(((),AE,(),(),(),AZ,(),(),(),(),AN,()),b1,b2,b3,b4,b5,b6,b7,b8,())))
 (if(0:Int)≤p1∧p1<(b2.length:Int)then(
 (SZ ((b2.getD (p1.toNat) ([],[],0,())).1,(b2.getD (p1.toNat) ([],[],0,())).2.1,(b2.getD (p1.toNat) ([],[],0,())).2.2.1,()) AZ).bind fun u2=>
 if(0:Int)≤p1∧p1<(b2.length:Int)then(
 (KK u2.1.1.2.1).bind fun u4=>
 some ((u4.1.1,()),(((),AE,(),(),(),AZ,(),(),(),(),AN,()),b1,(b2.set (p1.toNat) (u2.2.1,u2.2.2.1,u2.1.1.1.2.2.1,())),b3,b4,b5,b6,b7,b8,())))else none)else none)
abbrev OX:Type:=ACx×(Unit×AAt×Unit)
def FQ(p1 p2:Int)(b0:AAt):Option OX:=(AEe p1 p2 b0).map fun l=>(((),()),((),l,()))
abbrev dI:Type:=AB5×(ADs×List Int×AAa×Unit×Unit×Unit×Unit×ABQ×Unit×List Int×AAX×AAt×AA9×AAl×Unit)
def Ux(p1:ADW)(AE AZ:Int)(AN:Bool)(b1:AAG)(b2:AAa)(b3:AAG)(b4:AAX)(b5:AAt)(b6:AA9)(b7:ABQ)(b8:AAl):Option dI:=
 cond (p1.1==1)
  ((KD p1.2.1 AE AZ AN b1 b2 b3 b4 b5 b6 b7 b8).bind fun u1=>
  some ((u1.1.1,()),(((),u1.2.1.2.1,(),(),(),u1.2.1.2.2.2.2.2.1,(),(),(),(),u1.2.1.2.2.2.2.2.2.2.2.2.2.1,()),u1.2.2.1,u1.2.2.2.1,(),(),(),(),u1.2.2.2.2.2.2.2.2.1,(),u1.2.2.2.2.1,u1.2.2.2.2.2.2.2.2.2.2.1,u1.2.2.2.2.2.2.2.2.2.2.2.1,u1.2.2.2.2.2.2.2.2.2.2.2.2.1,u1.2.2.2.2.2.2.2.2.2.1,())))
 (cond (p1.1==2)
  ((L3 p1.2.1 p1.2.2.2.2.1 AE AZ AN b1 b2 b3 b4 b5 b6 b7 b8).bind fun u6=>
  some ((u6.1.1,()),(((),u6.2.1.2.1,(),(),(),u6.2.1.2.2.2.2.2.1,(),(),(),(),u6.2.1.2.2.2.2.2.2.2.2.2.2.1,()),u6.2.2.1,u6.2.2.2.1,(),(),(),(),u6.2.2.2.2.2.2.2.2.1,(),u6.2.2.2.2.1,u6.2.2.2.2.2.1,u6.2.2.2.2.2.2.1,u6.2.2.2.2.2.2.2.1,u6.2.2.2.2.2.2.2.2.2.2.1,())))
 (cond (p1.1==3)
  ((JI (p1.1,p1.2.1,p1.2.2.1,p1.2.2.2.1,p1.2.2.2.2.1,()) AE AZ AN b1 b2 b3 b4 b5 b6 b7 b8).bind fun u8=>
  some ((u8.1.1,()),(((),u8.2.1.2.1,(),(),(),u8.2.1.2.2.2.2.2.1,(),(),(),(),u8.2.1.2.2.2.2.2.2.2.2.2.2.1,()),u8.2.2.1,u8.2.2.2.1,(),(),(),(),u8.2.2.2.2.2.2.2.2.1,(),u8.2.2.2.2.1,u8.2.2.2.2.2.1,u8.2.2.2.2.2.2.1,u8.2.2.2.2.2.2.2.1,u8.2.2.2.2.2.2.2.2.2.1,())))
 (cond (p1.1==4)
  ((Qj p1.2.1 AE AZ AN b1 b2 b3 b4 b5 b6 b7 b8).bind fun D9=>
  some ((D9.1.1,()),(((),D9.2.1.2.1,(),(),(),D9.2.1.2.2.2.2.2.1,(),(),(),(),D9.2.1.2.2.2.2.2.2.2.2.2.2.1,()),D9.2.2.1,D9.2.2.2.1,(),(),(),(),D9.2.2.2.2.2.2.2.2.1,(),D9.2.2.2.2.1,D9.2.2.2.2.2.1,D9.2.2.2.2.2.2.1,D9.2.2.2.2.2.2.2.1,D9.2.2.2.2.2.2.2.2.2.1,())))
 (cond (p1.1==5)
  ((Po p1.2.1 p1.2.2.1 AE AZ AN b1 b2 b3 b4 b5 b6 b7 b8).bind fun J9=>
  some ((J9.1.1,()),(((),J9.2.1.2.1,(),(),(),J9.2.1.2.2.2.2.2.1,(),(),(),(),J9.2.1.2.2.2.2.2.2.2.2.2.2.1,()),J9.2.2.1,J9.2.2.2.1,(),(),(),(),J9.2.2.2.2.2.2.2.2.1,(),J9.2.2.2.2.1,J9.2.2.2.2.2.1,J9.2.2.2.2.2.2.1,J9.2.2.2.2.2.2.2.1,J9.2.2.2.2.2.2.2.2.2.1,())))
 (cond (p1.1==6)
  ((Q3 p1.2.1 AE AZ AN b1 b2 b3 b4 b5 b6 b7 b8).bind fun u16=>
  some ((u16.1.1,()),(((),u16.2.1.2.1,(),(),(),u16.2.1.2.2.2.2.2.1,(),(),(),(),u16.2.1.2.2.2.2.2.2.2.2.2.2.1,()),u16.2.2.1,u16.2.2.2.1,(),(),(),(),u16.2.2.2.2.2.2.2.2.1,(),u16.2.2.2.2.2.2.2.2.2.2.1,u16.2.2.2.2.2.1,u16.2.2.2.2.2.2.1,u16.2.2.2.2.2.2.2.1,u16.2.2.2.2.2.2.2.2.2.1,())))
 (cond (p1.1==7)
  ((KT p1.2.1 AE AZ AN b1 b2 b3 b4 b5 b6 b7 b8).bind fun Li=>
  some ((Li.1.1,()),(((),Li.2.1.2.1,(),(),(),Li.2.1.2.2.2.2.2.1,(),(),(),(),Li.2.1.2.2.2.2.2.2.2.2.2.2.1,()),Li.2.2.1,Li.2.2.2.1,(),(),(),(),Li.2.2.2.2.2.2.2.2.1,(),Li.2.2.2.2.2.2.2.2.2.2.1,Li.2.2.2.2.2.1,Li.2.2.2.2.2.2.1,Li.2.2.2.2.2.2.2.1,Li.2.2.2.2.2.2.2.2.2.1,())))
 (cond (p1.1==8)
  ((Qm AE AZ AN b1 b2 b3 b4 b5 b6 b7 b8).bind fun Iq=>
  some ((Iq.1.1,()),(((),Iq.2.1.2.1,(),(),(),Iq.2.1.2.2.2.2.2.1,(),(),(),(),Iq.2.1.2.2.2.2.2.2.2.2.2.2.1,()),Iq.2.2.1,Iq.2.2.2.1,(),(),(),(),Iq.2.2.2.2.2.2.2.2.1,(),Iq.2.2.2.2.1,Iq.2.2.2.2.2.1,Iq.2.2.2.2.2.2.1,Iq.2.2.2.2.2.2.2.2.2.2.1,Iq.2.2.2.2.2.2.2.2.2.1,())))
 (cond (p1.1==9)
  ((KS p1.2.1 AE AZ AN b1 b2 b3 b4 b5 b6 b7 b8).bind fun PT=>
  some ((PT.1.1,()),(((),PT.2.1.2.1,(),(),(),PT.2.1.2.2.2.2.2.1,(),(),(),(),PT.2.1.2.2.2.2.2.2.2.2.2.2.1,()),PT.2.2.1,PT.2.2.2.1,(),(),(),(),PT.2.2.2.2.2.2.2.2.1,(),PT.2.2.2.2.1,PT.2.2.2.2.2.1,PT.2.2.2.2.2.2.1,PT.2.2.2.2.2.2.2.1,PT.2.2.2.2.2.2.2.2.2.1,())))
 (cond (p1.1==10)
  ((KJ AE AZ AN b1 b2 b3 b4 b5 b6 b7 b8).bind fun dF=>
  some ((dF.1.1,()),(((),dF.2.1.2.1,(),(),(),dF.2.1.2.2.2.2.2.1,(),(),(),(),dF.2.1.2.2.2.2.2.2.2.2.2.2.1,()),dF.2.2.1,dF.2.2.2.1,(),(),(),(),dF.2.2.2.2.2.2.2.2.1,(),dF.2.2.2.2.1,dF.2.2.2.2.2.1,dF.2.2.2.2.2.2.1,dF.2.2.2.2.2.2.2.1,dF.2.2.2.2.2.2.2.2.2.1,())))
 (cond (p1.1==11)
  ((SR p1.2.2.1 p1.2.2.2.1 AE AZ AN b1 b2 b3 b4 b5 b6 b7 b8).bind fun vi=>
  some ((vi.1.1,()),(((),vi.2.1.2.1,(),(),(),vi.2.1.2.2.2.2.2.1,(),(),(),(),vi.2.1.2.2.2.2.2.2.2.2.2.2.1,()),vi.2.2.1,vi.2.2.2.1,(),(),(),(),vi.2.2.2.2.2.2.2.2.1,(),vi.2.2.2.2.1,vi.2.2.2.2.2.1,vi.2.2.2.2.2.2.1,vi.2.2.2.2.2.2.2.1,vi.2.2.2.2.2.2.2.2.2.1,())))
 (cond (p1.1==12)
  ((JJ AE AZ AN b1 b2 b3 b4 b5 b6 b7 b8).bind fun nr=>
  some ((nr.1.1,()),(((),nr.2.1.2.1,(),(),(),nr.2.1.2.2.2.2.2.1,(),(),(),(),nr.2.1.2.2.2.2.2.2.2.2.2.2.1,()),nr.2.2.1,nr.2.2.2.1,(),(),(),(),nr.2.2.2.2.2.2.2.2.1,(),nr.2.2.2.2.1,nr.2.2.2.2.2.2.2.2.2.2.1,nr.2.2.2.2.2.2.1,nr.2.2.2.2.2.2.2.2.2.2.2.1,nr.2.2.2.2.2.2.2.2.2.1,())))
 (cond (p1.1==13)
  ((W8 (b1,AE,()) (b4,AZ,()) p1.2.1).bind fun u42=>
  (KK u42.1.1.2.1).bind fun u43=>
  some ((u43.1.1,()),(((),AE,(),(),(),u42.1.1.1.2.1,(),(),(),(),AN,()),b1,b2,(),(),(),(),b7,(),b3,u42.2.1,b5,b6,b8,())))
 (cond (p1.1==14)
  ((NK p1.2.1 p1.2.2.1 AE AZ AN b1 b2 b3 b4 b5 b6 b7 b8).bind fun sN=>
  some ((sN.1.1,()),(((),sN.2.1.2.1,(),(),(),sN.2.1.2.2.2.2.2.1,(),(),(),(),sN.2.1.2.2.2.2.2.2.2.2.2.2.1,()),sN.2.2.1,sN.2.2.2.1,(),(),(),(),sN.2.2.2.2.2.2.2.2.1,(),sN.2.2.2.2.1,sN.2.2.2.2.2.1,sN.2.2.2.2.2.2.1,sN.2.2.2.2.2.2.2.1,sN.2.2.2.2.2.2.2.2.2.1,())))
 (cond (p1.1==16)
  ((Pb p1.2.1 AE AZ AN b1 b2 b3 b4 b5 b6 b7 b8).bind fun sP=>
  some ((sP.1.1,()),(((),sP.2.1.2.1,(),(),(),sP.2.1.2.2.2.2.2.1,(),(),(),(),sP.2.1.2.2.2.2.2.2.2.2.2.2.1,()),sP.2.2.1,sP.2.2.2.1,(),(),(),(),sP.2.2.2.2.2.2.2.2.1,(),sP.2.2.2.2.1,sP.2.2.2.2.2.1,sP.2.2.2.2.2.2.1,sP.2.2.2.2.2.2.2.1,sP.2.2.2.2.2.2.2.2.2.1,())))
 ((A7 p1.2.1 0 (AS ((b5.length:Int)-1))).bind fun u53=>
 cond (!u53.1.1)
  (some ((2,()),(((),AE,(),(),(),AZ,(),(),(),(),AN,()),b1,b2,(),(),(),(),b7,(),b3,b4,b5,b6,b8,())))
 ((FQ p1.2.1 (AS (p1.2.1+1)) b5).bind fun u54=>
 some ((0,()),(((),AE,(),(),(),AZ,(),(),(),(),AN,()),b1,b2,(),(),(),(),b7,(),b3,b4,u54.2.2.1,b6,b8,()))))))))))))))))))
end
end Go.M
