/- What each function computes, printed by a program out of the translation; what is printed is checked in the equations. -/
import Derived.Test.YtebiojjohcpanaaGreatF1
set_option linter.unusedVariables false
set_option linter.unusedSimpArgs false
set_option linter.unusedSectionVars false
namespace Go.M
noncomputable section
abbrev ft:Type:=ABG×Unit
def de(p0:AAO):Option ft:=
 some (((decide ((p0.length:Int)>1048576)),()),())
abbrev V8:Type:=ACW×ADl
abbrev ZT:Type:=List Int→Int→Int→Option V8
def Zt(R3:ZT)(t0:AAO)(t3 t4:Int):Option V8:=
 cond ((decide (t4<(t0.length:Int))))
  (cond (decide (t4<4000))
   (if(0:Int)≤t4∧t4<(t0.length:Int)then(
   R3 t0 (cP .i64 (AZ ((AZ ((AZ (t3*131))+(AZ ((t0.getD (t4.toNat) 0)))))+7)) 1073741823) (AZ (t4+1)))else none)
  (some (((),()),((t0,0,t3,()),()))))
 (some (((),()),((t0,0,t3,()),())))
def Pj:Nat→ZT
 |0=>fun _ _ _=>none
 |n+1=>Zt (Pj n)
def aE(R3:ZT)(p0:AAO):Option V8:=
 R3 p0 (AZ (17817+(p0.length:Int))) 0
def bG(p0:AAO):Option V8:=aE (Pj Ae) p0
abbrev rL:Type:=ABN×ADl
def Lq(AU:AAO)(AG Aq:Int):Option rL:=
 let x2:Int:=AZ ((AZ (Aq*6364136223846793005))+1442695040888963407)
 let x3:Int:=AOD .i64 (x2.fdiv (2^33)) (x2.fdiv (2^45))
 cond ((decide (AG<(AU.length:Int))))
  (if(0:Int)≤AG∧AG<(AU.length:Int)then(
  some ((cP .i64 (AZ ((cP .i64 x3 255)+(AZ ((AU.getD (AG.toNat) 0))))) 255,()),((AU,AZ (AG+1),x2,()),())))else none)
 (some ((cP .i64 x3 255,()),((AU,AG,x2,()),())))
abbrev pc:Type:=ABN×ADl
def Ak(p1:Int)(AU:AAO)(AG Aq:Int):Option pc:=
 cond (decide (p1≤0))
  (some ((0,()),((AU,AG,Aq,()),())))
 (cond (decide (p1≤256))
  ((Lq AU AG Aq).bind fun u1=>
  if p1=0 then none else(
  some ((u1.1.1.tmod p1,()),((u1.2.1.1,u1.2.1.2.1,u1.2.1.2.2.1,()),()))))
 ((Lq AU AG Aq).bind fun u2=>
 (Lq u2.2.1.1 u2.2.1.2.1 u2.2.1.2.2.1).bind fun u3=>
 (Lq u3.2.1.1 u3.2.1.2.1 u3.2.1.2.2.1).bind fun u4=>
 (Lq u4.2.1.1 u4.2.1.2.1 u4.2.1.2.2.1).bind fun u5=>
 if p1=0 then none else(
 some ((((AZ ((AZ ((AZ ((AZ (u2.1.1*16777216))+(AZ (u3.1.1*65536))))+(AZ (u4.1.1*256))))+u5.1.1)).tmod p1),()),((u5.2.1.1,u5.2.1.2.1,u5.2.1.2.2.1,()),())))))
abbrev rS:Type:=ABG×ADl
def B4(p1:Int)(AU:AAO)(AG Aq:Int):Option rS:=
 (Ak p1 AU AG Aq).bind fun u1=>
 some ((u1.1.1==0,()),((u1.2.1.1,u1.2.1.2.1,u1.2.1.2.2.1,()),()))
abbrev L7:Type:=AFP×AF_
abbrev PO:Type:=Int→Int→List Int→Int→Int→Int→List Int→Int→List Int→Option L7
def Rp(R4:PO)(t4 t5:Int)(AU:AAO)(AG Aq Bj:Int)(b2:AAO)(ux:Int)(b4:AAO):Option L7:=
 cond (decide (t5<t4))
  ((Ak 5 AU AG Aq).bind fun u3=>
  if b4.length+1≤Dr then(
  R4 t4 (AZ (t5+1)) u3.2.1.1 u3.2.1.2.1 u3.2.1.2.2.1 Bj b2 ux (b4++[u3.1.1]))else none)
 ((B4 2 AU AG Aq).bind fun u5=>
 cond (u5.1.1)
  (some ((((),2,()),()),((u5.2.1.1,u5.2.1.2.1,u5.2.1.2.2.1,()),b4,())))
 (some ((((),ux,()),()),((u5.2.1.1,u5.2.1.2.1,u5.2.1.2.2.1,()),b4,()))))
def IB:Nat→PO
 |0=>fun _ _ _ _ _ _ _ _ _=>none
 |n+1=>Rp (IB n)
def Rq(R4:PO)(AU:AAO)(AG Aq:Int):Option L7:=
 (Ak 3 AU AG Aq).bind fun u1=>
 (Ak 5 u1.2.1.1 u1.2.1.2.1 u1.2.1.2.2.1).bind fun u2=>
 R4 (AZ (3+u2.1.1)) 0 u2.2.1.1 u2.2.1.2.1 u2.2.1.2.2.1 0 [] (AZ (1+u1.1.1)) []
def Oo(AU:AAO)(AG Aq:Int):Option L7:=Rq (IB Ae) AU AG Aq
abbrev lW:Type:=ABN×ADl
def OB(p1 AU:AAO)(AG Aq:Int):Option lW:=
 (Ak (p1.length:Int) AU AG Aq).bind fun u1=>
 if(0:Int)≤u1.1.1∧u1.1.1<(p1.length:Int)then(
 some (((p1.getD (u1.1.1.toNat) 0),()),((u1.2.1.1,u1.2.1.2.1,u1.2.1.2.2.1,()),())))else none
abbrev cI:Type:=ACW×ACj
def DB(p0:AAO):Option cI:=
 if 0+p0.length≤Dr then(
 some (((),()),(p0,())))else none
abbrev iy:Type:=AFP×ACj
def Po(p0:AA9):Option iy:=
 (DB p0.1).bind fun u1=>
 some ((((),p0.2.1,()),()),(u1.2.1,()))
abbrev Mw:Type:=ABG×Unit
def A5(p0 p1 p2:Int):Option Mw:=
 cond (decide (p0≥p1))
  (some ((decide (p0≤p2),()),()))
 (some ((false,()),()))
abbrev Pp:Type:=ABG×Unit
abbrev TM:Type:=List Int→Int→Int→List Int→Int→Option Pp
def VW(R2:TM)(t6:AAO)(t7 t8:Int)(AU:AAO)(AG:Int):Option Pp:=
 cond (decide (t8<t7))
  (if(0:Int)≤t8∧t8<(t6.length:Int)then(
  (A5 (t6.getD (t8.toNat) 0) 0 7).bind fun u2=>
  cond (!u2.1.1)
   (some ((false,()),()))
  (R2 t6 t7 (AZ (t8+1)) AU AG))else none)
 ((A5 (AU.length:Int) 1 8).bind fun u3=>
 cond (u3.1.1)
  ((A5 AG 1 4).bind fun u4=>
  some ((u4.1.1,()),()))
 (some ((false,()),())))
def LR:Nat→TM
 |0=>fun _ _ _ _ _=>none
 |n+1=>VW (LR n)
def VB(R2:TM)(p0:AA9):Option Pp:=
 R2 p0.1 (p0.1.length:Int) 0 p0.1 p0.2.1
def Ex(p0:AA9):Option Pp:=VB (LR Ae) p0
abbrev RT:Type:=ABG×Unit
abbrev U1:Type:=List Int→Int→List Int→Int→Int→Option RT
def QD(R2:U1)(t0:AAO)(t1:Int)(t7:AAO)(t8 t9:Int):Option RT:=
 cond (decide (t9<t8))
  (if(0:Int)≤t9∧t9<(t7.length:Int)then(
  let x1:Int:=(t7.getD (t9.toNat) 0)
  (A5 x1 0 t1).bind fun u2=>
  cond (!u2.1.1)
   (some ((false,()),()))
  (cond (decide (t9>0))
   (if(0:Int)≤AZ (t9-1)∧AZ (t9-1)<(t0.length:Int)then(
   cond (decide ((t0.getD ((AZ (t9-1)).toNat) 0)≥x1))
    (some ((false,()),()))
   (R2 t0 t1 t7 t8 (AZ (t9+1))))else none)
  (R2 t0 t1 t7 t8 (AZ (t9+1)))))else none)
 (some ((true,()),()))
def J2:Nat→U1
 |0=>fun _ _ _ _ _=>none
 |n+1=>QD (J2 n)
def W7(R2:U1)(p0:AAO)(p1:Int):Option RT:=
 R2 p0 p1 p0 (p0.length:Int) 0
def V0(p0:AAO)(p1:Int):Option RT:=W7 (J2 Ae) p0 p1
abbrev ny:Type:=ABG×Unit
def D3(p0:AA9)(p1:AAO):Option ny:=
 (Ex (p0.1,p0.2.1,())).bind fun u1=>
 cond (u1.1.1)
  ((V0 p1 (AZ ((p0.1.length:Int)-1))).bind fun u3=>
  some ((u3.1.1,()),()))
 (some ((false,()),()))
abbrev oQ:Type:=ABG×Unit
def HT(p0:Int):Option oQ:=
 (A5 p0 1 30).bind fun u1=>
 some ((u1.1.1,()),())
abbrev uk:Type:=ABG×Unit
def Wf(p0:Int):Option uk:=
 (A5 p0 1 60).bind fun u1=>
 some ((u1.1.1,()),())
abbrev qY:Type:=ABG×Unit
def Dh(p0:Int):Option qY:=
 (HT (AZ (p0.tdiv 4294967296))).bind fun u2=>
 cond (u2.1.1)
  ((Wf (p0.tmod 4294967296)).bind fun u3=>
  some ((u3.1.1,()),()))
 (some ((false,()),()))
abbrev q8:Type:=ABG×Unit
def F4(p0:ACC):Option q8:=
 some (((decide ((p0.length:Int)≤40)),()),())
abbrev pB:Type:=ABN×Unit
def E7(p0:Int):Option pB:=
 (Dh p0).bind fun u1=>
 cond (!u1.1.1)
  (some ((0,()),()))
 (some (((AZ (p0.tdiv 4294967296)),()),()))
abbrev oh:Type:=ABG×Unit
def Ly(p0:AC9):Option oh:=
 (A5 p0.2.1 0 30).bind fun u1=>
 cond (u1.1.1)
  (cond (p0.2.1==0)
   (cond (!p0.2.2.1)
    ((Dh p0.1).bind fun u2=>
    cond (u2.1.1)
     ((F4 p0.2.2.2.1).bind fun u3=>
     some ((u3.1.1,()),()))
    (some ((false,()),())))
   (cond (decide (p0.2.1>0))
    ((Dh p0.1).bind fun u4=>
    cond (u4.1.1)
     (cond (p0.2.2.2.1==[])
      ((F4 p0.2.2.2.1).bind fun u5=>
      some ((u5.1.1,()),()))
     (some ((false,()),())))
    (some ((false,()),())))
   ((Dh p0.1).bind fun u6=>
   cond (u6.1.1)
    (some ((false,()),()))
   (some ((false,()),())))))
  ((E7 p0.1).bind fun u7=>
  let x8:Bool:=decide (p0.2.1>u7.1.1)
  cond (!p0.2.2.1)
   ((Dh p0.1).bind fun u9=>
   cond (u9.1.1)
    (cond (x8)
     ((F4 p0.2.2.2.1).bind fun ED=>
     some ((ED.1.1,()),()))
    (some ((false,()),())))
   (some ((false,()),())))
  (cond (decide (p0.2.1>0))
   ((Dh p0.1).bind fun N9=>
   cond (N9.1.1)
    (cond (x8)
     (cond (p0.2.2.2.1==[])
      ((F4 p0.2.2.2.1).bind fun aL=>
      some ((aL.1.1,()),()))
     (some ((false,()),())))
    (some ((false,()),())))
   (some ((false,()),())))
  ((Dh p0.1).bind fun WL=>
  cond (WL.1.1)
   (cond (x8)
    (some ((false,()),()))
   (some ((false,()),())))
  (some ((false,()),()))))))
 (cond (!p0.2.2.1)
  ((Dh p0.1).bind fun VH=>
  cond (VH.1.1)
   (some ((false,()),()))
  (some ((false,()),())))
 (cond (decide (p0.2.1>0))
  ((Dh p0.1).bind fun u15=>
  cond (u15.1.1)
   (some ((false,()),()))
  (some ((false,()),())))
 ((Dh p0.1).bind fun u16=>
 cond (u16.1.1)
  (some ((false,()),()))
 (some ((false,()),())))))
abbrev Oz:Type:=ABG×Unit
abbrev Q6:Type:=AAw→Int→Int→Option Oz
def N3(R2:Q6)(t5:AAw)(t6 t7:Int):Option Oz:=
 cond (decide (t7<t6))
  (if(0:Int)≤t7∧t7<(t5.length:Int)then(
  (Ly ((t5.getD (t7.toNat) (0,0,false,[],())).1,(t5.getD (t7.toNat) (0,0,false,[],())).2.1,(t5.getD (t7.toNat) (0,0,false,[],())).2.2.1,(t5.getD (t7.toNat) (0,0,false,[],())).2.2.2.1,())).bind fun u1=>
  cond (!u1.1.1)
   (some ((false,()),()))
  (R2 t5 t6 (AZ (t7+1))))else none)
 (some ((true,()),()))
def H0:Nat→Q6
 |0=>fun _ _ _=>none
 |n+1=>N3 (H0 n)
def UZ(R2:Q6)(p0:AAw):Option Oz:=
 R2 p0 (p0.length:Int) 0
def OH(p0:AAw):Option Oz:=UZ (H0 Ae) p0
abbrev Ki:Type:=ABG×Unit
abbrev Nd:Type:=AAw→AAw→Int→Int→Option Ki
def LH(R2:Nd)(t0 t5:AAw)(t6 t7:Int):Option Ki:=
 cond (decide (t7<t6))
  (if(0:Int)≤t7∧t7<(t5.length:Int)then(
  cond (decide (t7>0))
   (if(0:Int)≤AZ (t7-1)∧AZ (t7-1)<(t0.length:Int)then(
   cond (decide (((t0.getD ((AZ (t7-1)).toNat) (0,0,false,[],())).1)≥((t5.getD (t7.toNat) (0,0,false,[],())).1)))
    (some ((false,()),()))
   (R2 t0 t5 t6 (AZ (t7+1))))else none)
  (R2 t0 t5 t6 (AZ (t7+1))))else none)
 (some ((true,()),()))
def GB:Nat→Nd
 |0=>fun _ _ _ _=>none
 |n+1=>LH (GB n)
def Qa(R2:Nd)(p0:AAw):Option Ki:=
 R2 p0 p0 (p0.length:Int) 0
def KH(p0:AAw):Option Ki:=Qa (GB Ae) p0
abbrev qB:Type:=ABG×Unit
def FC(p0:ACN):Option qB:=
 cond ((decide ((p0.1.length:Int)>200)))
  (some ((false,()),()))
 (cond (decide ((p0.2.1.length:Int)>20))
  (some ((false,()),()))
 ((OH p0.1).bind fun u3=>
 cond (u3.1.1)
  ((OH p0.2.1).bind fun u4=>
  cond (u4.1.1)
   ((KH p0.1).bind fun u5=>
   cond (u5.1.1)
    ((A5 p0.2.2.1 0 30).bind fun u6=>
    some ((u6.1.1,()),()))
   (some ((false,()),())))
  (some ((false,()),())))
 (some ((false,()),()))))
abbrev IK:Type:=ABN×Unit
abbrev LN:Type:=List Int→Int→Int→Int→Option IK
def Nz(R2:LN)(t0:AAO)(t1 t7 t8:Int):Option IK:=
 cond (decide (t8<t7))
  (if(0:Int)≤t8∧t8<(t0.length:Int)then(
  cond (t1==(t0.getD (t8.toNat) 0))
   (some ((t8,()),()))
  (R2 t0 t1 t7 (AZ (t8+1))))else none)
 (some (((-1),()),()))
def F9:Nat→LN
 |0=>fun _ _ _ _=>none
 |n+1=>Nz (F9 n)
def N8(R2:LN)(p0:AAO)(p1:Int):Option IK:=
 R2 p0 p1 (p0.length:Int) 0
def OX(p0:AAO)(p1:Int):Option IK:=N8 (F9 Ae) p0 p1
abbrev Xl:Type:=ABG×Unit
def Bn(p0:AAO)(p1:Int):Option Xl:=
 (OX p0 p1).bind fun u1=>
 some ((decide (u1.1.1≥0),()),())
abbrev ra:Type:=ABG×Unit
def Qo(p0:Int)(p1:ACj):Option ra:=
 (Bn p1.1 p0).bind fun u1=>
 some ((!u1.1.1,()),())
abbrev DQ:Type:=ABN×Unit
abbrev Ea:Type:=List Int→(ACj×Unit)→Int→Int→Option DQ
def D4(R2:Ea)(t0:AAO)(t1:ACj×Unit)(t7 t8:Int):Option DQ:=
 cond (decide (t8<t7))
  (if(0:Int)≤t8∧t8<(t0.length:Int)then(
  (Qo (t0.getD (t8.toNat) 0) t1.1).bind fun u2=>
  cond (u2.1.1)
   (some ((t8,()),()))
  (R2 t0 (t1.1,()) t7 (AZ (t8+1))))else none)
 (some (((-1),()),()))
def B6:Nat→Ea
 |0=>fun _ _ _ _=>none
 |n+1=>D4 (B6 n)
def D2(R2:Ea)(p0:AAO)(p1:ACj×Unit):Option DQ:=
 R2 p0 (p1.1,()) (p0.length:Int) 0
def Dg(p0:AAO)(p1:ACj×Unit):Option DQ:=D2 (B6 Ae) p0 p1
abbrev DF:Type:=ACW×AGA
abbrev EP:Type:=(ACj×Unit)→Int→Int→List Int→Option DF
def Du(R5:EP)(t1:ACj×Unit)(t5 t6:Int)(b0:AAO):Option DF:=
 cond ((decide (t6<(b0.length:Int))))
  (if(0:Int)≤t6∧t6<(b0.length:Int)then(
  let x3:Int:=(b0.getD (t6.toNat) 0)
  (Qo x3 t1.1).bind fun u4=>
  cond (!u4.1.1)
   (if(0:Int)≤t5∧t5<(b0.length:Int)then(
   R5 (t1.1,()) (AZ (t5+1)) (AZ (t6+1)) (b0.set (t5.toNat) x3))else none)
  (R5 (t1.1,()) t5 (AZ (t6+1)) b0))else none)
 (if(0:Int)≤t5∧t5≤(b0.length:Int)∧(b0.length:Int)≤(b0.length:Int)then(
 let x6:AAO:=(b0.take (t5.toNat)++List.replicate (((b0.length:Int).toNat)-(t5.toNat)) 0++b0.drop ((t5.toNat)+(((b0.length:Int).toNat)-(t5.toNat))))
 if(0:Int)≤(0:Int)∧(0:Int)≤t5∧t5≤(x6.length:Int)then(
 some (((),()),((),((x6.drop 0).take ((t5.toNat)-0)),())))else none)else none)
def Bt:Nat→EP
 |0=>fun _ _ _ _=>none
 |n+1=>Du (Bt n)
def Dw(R5:EP)(p1:ACj×Unit)(b0:AAO):Option DF:=
 (Dg b0 (p1.1,())).bind fun u1=>
 cond (u1.1.1==(-1))
  (some (((),()),((),b0,())))
 (R5 (p1.1,()) u1.1.1 (AZ (u1.1.1+1)) b0)
def Ch(p1:ACj×Unit)(b0:AAO):Option DF:=Dw (Bt Ae) p1 b0
abbrev xl:Type:=ACW×ACj
def Mp(p0 p1:AAO):Option xl:=
 (DB p0).bind fun u1=>
 (Ch ((p1,()),()) u1.2.1).bind fun u2=>
 some (((),()),(u2.2.2.1,()))
abbrev Kr:Type:=ABG×Unit
def C3(p0:ABF)(p1:Int):Option Kr:=
 (Mp [p1] p0.2.2.2.1).bind fun u1=>
 some ((decide ((u1.2.1.length:Int)>0),()),())
abbrev Te:Type:=ABN×Unit
abbrev Xa:Type:=List Int→Int→Int→List Int→Int→List Int→Option Te
def YK(R5:Xa)(t13:AAO)(t14 t15:Int)(AU:AAO)(AG:Int)(b1:AAO):Option Te:=
 cond (decide (t15<t14))
  (if(0:Int)≤t15∧t15<(t13.length:Int)then(
  let x2:Int:=(t13.getD (t15.toNat) 0)
  if(0:Int)≤x2∧x2<(AU.length:Int)then(
  (Bn b1 (AU.getD (x2.toNat) 0)).bind fun u4=>
  cond (!u4.1.1)
   (if(0:Int)≤x2∧x2<(AU.length:Int)then(
   if b1.length+1≤Dr then(
   R5 t13 t14 (AZ (t15+1)) AU AG (b1++[(AU.getD (x2.toNat) 0)]))else none)else none)
  (R5 t13 t14 (AZ (t15+1)) AU AG b1))else none)else none)
 (some (((b1.length:Int),()),()))
def Ng:Nat→Xa
 |0=>fun _ _ _ _ _ _=>none
 |n+1=>YK (Ng n)
def YQ(R5:Xa)(p0:AA9)(p1:AAO):Option Te:=
 (D3 (p0.1,p0.2.1,()) p1).bind fun u1=>
 cond (!u1.1.1)
  (some (((-1),()),()))
 (R5 p1 (p1.length:Int) 0 p0.1 p0.2.1 [])
def Yc(p0:AA9)(p1:AAO):Option Te:=YQ (Ng Ae) p0 p1
abbrev iJ:Type:=ABG×Unit
def Gh(p0:AA9)(p1:AAO):Option iJ:=
 (D3 (p0.1,p0.2.1,()) p1).bind fun u1=>
 cond (u1.1.1)
  ((Yc (p0.1,p0.2.1,()) p1).bind fun u2=>
  some (((decide (u2.1.1≥p0.2.1)),()),()))
 (some ((false,()),()))
abbrev Ja:Type:=ABG×Unit
abbrev MD:Type:=ABF→AAP→Int→Int→Option Ja
def Jg(R4:MD)(t0:ABF)(t32:AAP)(t33 t34:Int):Option Ja:=
 cond (decide (t34<t33))
  (if(0:Int)≤t34∧t34<(t32.length:Int)then(
  (FC ((t32.getD (t34.toNat) ([],[],0,())).1,(t32.getD (t34.toNat) ([],[],0,())).2.1,(t32.getD (t34.toNat) ([],[],0,())).2.2.1,())).bind fun u5=>
  cond (!u5.1.1)
   (some ((false,()),()))
  ((C3 t0 t34).bind fun u6=>
  cond (u6.1.1)
   (cond (decide ((AZ ((AZ ((((t32.getD (t34.toNat) ([],[],0,())).1).length:Int)+(((t32.getD (t34.toNat) ([],[],0,())).2.1).length:Int)))+((t32.getD (t34.toNat) ([],[],0,())).2.2.1)))>0))
    (some ((false,()),()))
   (R4 t0 t32 t33 (AZ (t34+1))))
  (R4 t0 t32 t33 (AZ (t34+1)))))else none)
 (cond (t0.2.2.2.2.2.2.2.2.2.2.1)
  (some ((true,()),()))
 ((Gh (t0.1,t0.2.1,()) t0.2.2.2.1).bind fun aL=>
 some ((!aL.1.1,()),())))
def E8:Nat→MD
 |0=>fun _ _ _ _=>none
 |n+1=>Jg (E8 n)
def PD(R4:MD)(p0:ABF):Option Ja:=
 cond (((p0.2.2.1.length:Int) !=(p0.1.length:Int)))
  (some ((false,()),()))
 ((D3 (p0.1,p0.2.1,()) p0.2.2.2.1).bind fun u3=>
 cond (!u3.1.1)
  (some ((false,()),()))
 (R4 p0 p0.2.2.1 (p0.2.2.1.length:Int) 0))
def Kn(p0:ABF):Option Ja:=PD (E8 Ae) p0
abbrev uy:Type:=ABG×Unit
def bL(p0:AA9)(p1:AF5):Option uy:=
 (Gh (p0.1,p0.2.1,()) p1.1).bind fun u1=>
 cond (u1.1.1)
  ((A5 p1.2.2.1 0 60).bind fun u2=>
  cond (u2.1.1)
   (cond (p1.2.1)
    (some ((true,()),()))
   (some ((p1.2.2.1==0,()),())))
  (some ((false,()),())))
 (some ((false,()),()))
abbrev RY:Type:=ABG×Unit
abbrev ZN:Type:=AAS→Int→Int→List Int→Int→AAS→Int→Option RY
def TZ(R2:ZN)(t9:AAS)(t10 t11:Int)(AU:AAO)(AG:Int)(Cj:AAS)(Bj:Int):Option RY:=
 cond (decide (t11<t10))
  (if(0:Int)≤t11∧t11<(t9.length:Int)then(
  (bL (AU,AG,()) ((t9.getD (t11.toNat) ([],false,0,())).1,(t9.getD (t11.toNat) ([],false,0,())).2.1,(t9.getD (t11.toNat) ([],false,0,())).2.2.1,())).bind fun u1=>
  cond (!u1.1.1)
   (some ((false,()),()))
  (cond (((t9.getD (t11.toNat) ([],false,0,())).2.1))
   (cond (t11==(AZ ((Cj.length:Int)-1)))
    (some ((false,()),()))
   (cond (decide (t11>0))
    (if(0:Int)≤AZ (t11-1)∧AZ (t11-1)<(Cj.length:Int)then(
    cond (!((Cj.getD ((AZ (t11-1)).toNat) ([],false,0,())).2.1))
     (some ((false,()),()))
    (R2 t9 t10 (AZ (t11+1)) AU AG Cj Bj))else none)
   (R2 t9 t10 (AZ (t11+1)) AU AG Cj Bj)))
  (R2 t9 t10 (AZ (t11+1)) AU AG Cj Bj)))else none)
 (cond (Bj==0)
  ((Ex (AU,AG,())).bind fun u5=>
  cond (u5.1.1)
   (cond ((decide ((Cj.length:Int)≤30)))
    (some ((true,()),()))
   (some ((false,()),())))
  (some ((false,()),())))
 ((E7 Bj).bind fun u7=>
 (A5 u7.1.1 1 (Cj.length:Int)).bind fun u8=>
 (Ex (AU,AG,())).bind fun u9=>
 cond (u9.1.1)
  (cond ((decide ((Cj.length:Int)≤30)))
   (some ((u8.1.1,()),()))
  (some ((false,()),())))
 (some ((false,()),()))))
def KY:Nat→ZN
 |0=>fun _ _ _ _ _ _ _=>none
 |n+1=>TZ (KY n)
def aG(R2:ZN)(p0:AA9)(p1:ABr):Option RY:=
 R2 p1.1 (p1.1.length:Int) 0 p0.1 p0.2.1 p1.1 p1.2.1
def Ke(p0:AA9)(p1:ABr):Option RY:=aG (KY Ae) p0 p1
abbrev qV:Type:=ABN×Unit
def bR(p0:Bool):Option qV:=
 cond (p0)
  (some ((1,()),()))
 (some ((0,()),()))
abbrev MS:Type:=ABG×Unit
abbrev TB:Type:=Int→ACA→Int→Int→List Int→Int→Int→ACA→Option MS
def Vf(R3:TB)(t5:Int)(t9:ACA)(t10 t11:Int)(AU:AAO)(AG Cj:Int)(Bj:ACA):Option MS:=
 cond (decide (t11<t10))
  (if(0:Int)≤t11∧t11<(t9.length:Int)then(
  (F4 ((t9.getD (t11.toNat) ([],[],false,())).1)).bind fun u3=>
  cond (!u3.1.1)
   (some ((false,()),()))
  ((D3 (AU,AG,()) ((t9.getD (t11.toNat) ([],[],false,())).2.1)).bind fun u4=>
  cond (!u4.1.1)
   (some ((false,()),()))
  ((Gh (AU,AG,()) ((t9.getD (t11.toNat) ([],[],false,())).2.1)).bind fun u6=>
  cond (((t9.getD (t11.toNat) ([],[],false,())).2.2.1) !=u6.1.1)
   (some ((false,()),()))
  ((bR (!((t9.getD (t11.toNat) ([],[],false,())).2.2.1))).bind fun u8=>
  R3 (AZ (t5+u8.1.1)) t9 t10 (AZ (t11+1)) AU AG Cj Bj))))else none)
 ((Ex (AU,AG,())).bind fun u9=>
 cond (u9.1.1)
  ((HT Cj).bind fun ED=>
  cond (ED.1.1)
   (cond ((decide ((Bj.length:Int)≤60)))
    (some ((decide (t5≤6),()),()))
   (some ((false,()),())))
  (some ((false,()),())))
 (some ((false,()),())))
def Ku:Nat→TB
 |0=>fun _ _ _ _ _ _ _ _=>none
 |n+1=>Vf (Ku n)
def Vb(R3:TB)(p0:AA9)(p1:ACF):Option MS:=
 R3 0 p1.2.1 (p1.2.1.length:Int) 0 p0.1 p0.2.1 p1.1 p1.2.1
def GP(p0:AA9)(p1:ACF):Option MS:=Vb (Ku Ae) p0 p1
abbrev da:Type:=ABG×Unit
def JN(p0:ABF)(p1:Int):Option da:=
 (A5 p1 1 (p0.2.2.2.2.1.length:Int)).bind fun u2=>
 some ((u2.1.1,()),())
abbrev IX:Type:=ABG×Unit
abbrev LW:Type:=ABF→AAr→Int→Int→Option IX
def JI(R2:LW)(t0:ABF)(t8:AAr)(t9 t10:Int):Option IX:=
 cond (decide (t10<t9))
  (if(0:Int)≤t10∧t10<(t8.length:Int)then(
  (GP (t0.1,t0.2.1,()) ((t8.getD (t10.toNat) (0,[],())).1,(t8.getD (t10.toNat) (0,[],())).2.1,())).bind fun u2=>
  cond (!u2.1.1)
   (some ((false,()),()))
  ((JN t0 ((t8.getD (t10.toNat) (0,[],())).1)).bind fun u4=>
  cond (!u4.1.1)
   (some ((false,()),()))
  (cond (decide (t10>0))
   (if(0:Int)≤AZ (t10-1)∧AZ (t10-1)<(t0.2.2.2.2.2.2.1.length:Int)then(
   cond (decide (((t0.2.2.2.2.2.2.1.getD ((AZ (t10-1)).toNat) (0,[],())).1)≥((t8.getD (t10.toNat) (0,[],())).1)))
    (some ((false,()),()))
   (R2 t0 t8 t9 (AZ (t10+1))))else none)
  (R2 t0 t8 t9 (AZ (t10+1))))))else none)
 (some ((decide ((t0.2.2.2.2.2.2.1.length:Int)≤4),()),()))
def Ec:Nat→LW
 |0=>fun _ _ _ _=>none
 |n+1=>JI (Ec n)
def OD(R2:LW)(p0:ABF):Option IX:=
 R2 p0 p0.2.2.2.2.2.2.1 (p0.2.2.2.2.2.2.1.length:Int) 0
def KP(p0:ABF):Option IX:=OD (Ec Ae) p0
abbrev vH:Type:=ABN×Unit
def TH(p0:Int):Option vH:=
 (Dh p0).bind fun u1=>
 cond (!u1.1.1)
  (some ((0,()),()))
 (some ((p0.tmod 4294967296,()),()))
abbrev ov:Type:=ABN×Unit
def SH(p0:ABH):Option ov:=
 cond ((p0.2.2.2.1.length:Int)==0)
  (some ((0,()),()))
 (let x2:Int:=(p0.2.2.2.1.length:Int)
 if(0:Int)≤AZ (x2-1)∧AZ (x2-1)<(p0.2.2.2.1.length:Int)then(
 (TH ((p0.2.2.2.1.getD ((AZ (x2-1)).toNat) (0,0,false,[],())).1)).bind fun u4=>
 some ((u4.1.1,()),()))else none)
abbrev Tu:Type:=ABG×Unit
abbrev Xb:Type:=AAw→Int→Int→Int→Int→List Int→AAw→Bool→List AAO→Option Tu
def Rb(R2:Xb)(t6:AAw)(t7 t8 AU AG:Int)(Aq:AAO)(Ck:AAw)(DJ:Bool)(AW:List AAO):Option Tu:=
 cond (decide (t8<t7))
  (if(0:Int)≤t8∧t8<(t6.length:Int)then(
  (Ly ((t6.getD (t8.toNat) (0,0,false,[],())).1,(t6.getD (t8.toNat) (0,0,false,[],())).2.1,(t6.getD (t8.toNat) (0,0,false,[],())).2.2.1,(t6.getD (t8.toNat) (0,0,false,[],())).2.2.2.1,())).bind fun u2=>
  cond (!u2.1.1)
   (some ((false,()),()))
  ((E7 ((t6.getD (t8.toNat) (0,0,false,[],())).1)).bind fun u4=>
  cond (u4.1.1 !=AG)
   (some ((false,()),()))
  (cond (decide (((t6.getD (t8.toNat) (0,0,false,[],())).2.1)≥AU))
   (some ((false,()),()))
  (R2 t6 t7 (AZ (t8+1)) AU AG Aq Ck DJ AW))))else none)
 ((KH Ck).bind fun u6=>
 some ((u6.1.1,()),()))
def LQ:Nat→Xb
 |0=>fun _ _ _ _ _ _ _ _ _=>none
 |n+1=>Rb (LQ n)
def Yr(R2:Xb)(p0:ABH):Option Tu:=
 R2 p0.2.2.2.1 (p0.2.2.2.1.length:Int) 0 p0.1 p0.2.1 p0.2.2.1 p0.2.2.2.1 p0.2.2.2.2.1 p0.2.2.2.2.2.1
def Uh(p0:ABH):Option Tu:=Yr (LQ Ae) p0
abbrev Tq:Type:=ABG×Unit
abbrev Wj:Type:=List AAO→Int→Int→List Int→Int→Int→Int→List Int→AAw→Bool→List AAO→Option Tq
def RX(R2:Wj)(t10:List AAO)(t11 t12:Int)(AU:AAO)(AG Cj Bj:Int)(El:AAO)(Gq:AAw)(MF:Bool)(D9:List AAO):Option Tq:=
 cond (decide (t12<t11))
  (if(0:Int)≤t12∧t12<(t10.length:Int)then(
  (D3 (AU,AG,()) (t10.getD (t12.toNat) [])).bind fun u2=>
  cond (!u2.1.1)
   (some ((false,()),()))
  (R2 t10 t11 (AZ (t12+1)) AU AG Cj Bj El Gq MF D9))else none)
 (cond (MF)
  ((SH (Cj,Bj,El,Gq,MF,D9,())).bind fun u3=>
  (HT Bj).bind fun u4=>
  cond (u4.1.1)
   ((A5 Cj (AZ (Bj+1)) 30).bind fun u5=>
   (Ex (AU,AG,())).bind fun u6=>
   cond (u6.1.1)
    (cond (u5.1.1)
     ((D3 (AU,AG,()) El).bind fun u7=>
     cond (u7.1.1)
      ((Uh (Cj,Bj,El,Gq,MF,D9,())).bind fun u8=>
      cond (u8.1.1)
       (some ((((D9.length:Int)==u3.1.1),()),()))
      (some ((false,()),())))
     (some ((false,()),())))
    (some ((false,()),())))
   (some ((false,()),())))
  ((Ex (AU,AG,())).bind fun ED=>
  cond (ED.1.1)
   (some ((false,()),()))
  (some ((false,()),()))))
 ((HT Bj).bind fun N9=>
 cond (N9.1.1)
  ((A5 Cj (AZ (Bj+1)) 30).bind fun aL=>
  (Ex (AU,AG,())).bind fun WL=>
  cond (WL.1.1)
   (cond (aL.1.1)
    ((D3 (AU,AG,()) El).bind fun VH=>
    cond (VH.1.1)
     ((Uh (Cj,Bj,El,Gq,MF,D9,())).bind fun u15=>
     cond (u15.1.1)
      (some ((((D9.length:Int)==0),()),()))
     (some ((false,()),())))
    (some ((false,()),())))
   (some ((false,()),())))
  (some ((false,()),())))
 ((Ex (AU,AG,())).bind fun jg=>
 cond (jg.1.1)
  (some ((false,()),()))
 (some ((false,()),())))))
def Kz:Nat→Wj
 |0=>fun _ _ _ _ _ _ _ _ _ _ _=>none
 |n+1=>RX (Kz n)
def YW(R2:Wj)(p0:AA9)(p1:ABH):Option Tq:=
 R2 p1.2.2.2.2.2.1 (p1.2.2.2.2.2.1.length:Int) 0 p0.1 p0.2.1 p1.1 p1.2.1 p1.2.2.1 p1.2.2.2.1 p1.2.2.2.2.1 p1.2.2.2.2.2.1
def Ha(p0:AA9)(p1:ABH):Option Tq:=YW (Kz Ae) p0 p1
abbrev Oa:Type:=ABN×Unit
abbrev SF:Type:=AAS→Int→Int→Option Oa
def OC(R2:SF)(t6:AAS)(t7 t8:Int):Option Oa:=
 cond (decide (t8<t7))
  (if(0:Int)≤t8∧t8<(t6.length:Int)then(
  cond (!((t6.getD (t8.toNat) ([],false,0,())).2.1))
   (some ((AZ (t8+1),()),()))
  (R2 t6 t7 (AZ (t8+1))))else none)
 (some ((0,()),()))
def Hu:Nat→SF
 |0=>fun _ _ _=>none
 |n+1=>OC (Hu n)
def Ul(R2:SF)(p0:ABr):Option Oa:=
 R2 p0.1 (p0.1.length:Int) 0
def LY(p0:ABr):Option Oa:=Ul (Hu Ae) p0
abbrev KE:Type:=ABG×Unit
abbrev M8:Type:=ABF→AAv→Int→Int→Option KE
def Kd(R2:M8)(t0:ABF)(t8:AAv)(t9 t10:Int):Option KE:=
 cond (decide (t10<t9))
  (if(0:Int)≤t10∧t10<(t8.length:Int)then(
  (Ha (t0.1,t0.2.1,()) ((t8.getD (t10.toNat) (0,0,[],[],false,[],())).1,(t8.getD (t10.toNat) (0,0,[],[],false,[],())).2.1,(t8.getD (t10.toNat) (0,0,[],[],false,[],())).2.2.1,(t8.getD (t10.toNat) (0,0,[],[],false,[],())).2.2.2.1,(t8.getD (t10.toNat) (0,0,[],[],false,[],())).2.2.2.2.1,(t8.getD (t10.toNat) (0,0,[],[],false,[],())).2.2.2.2.2.1,())).bind fun u2=>
  cond (!u2.1.1)
   (some ((false,()),()))
  (cond (((t8.getD (t10.toNat) (0,0,[],[],false,[],())).1) !=(t0.2.2.2.2.1.length:Int))
   (some ((false,()),()))
  ((LY (t0.2.2.2.2.1,t0.2.2.2.2.2.1,())).bind fun u6=>
  cond (((t8.getD (t10.toNat) (0,0,[],[],false,[],())).2.1) !=u6.1.1)
   (some ((false,()),()))
  (R2 t0 t8 t9 (AZ (t10+1))))))else none)
 (some ((decide ((t0.2.2.2.2.2.2.2.1.length:Int)≤1),()),()))
def FU:Nat→M8
 |0=>fun _ _ _ _=>none
 |n+1=>Kd (FU n)
def Ph(R2:M8)(p0:ABF):Option KE:=
 R2 p0 p0.2.2.2.2.2.2.2.1 (p0.2.2.2.2.2.2.2.1.length:Int) 0
def L2(p0:ABF):Option KE:=Ph (FU Ae) p0
abbrev mX:Type:=ABG×Unit
def Tk(p0:AC8):Option mX:=
 (A5 p0.1 1 31).bind fun u1=>
 cond (u1.1.1)
  ((A5 p0.2.1 1 61).bind fun u2=>
  cond (u2.1.1)
   (some ((decide ((p0.2.2.1.length:Int)≤120),()),()))
  (some ((false,()),())))
 (some ((false,()),()))
abbrev IU:Type:=ABG×Unit
abbrev LF:Type:=ABF→AAs→Int→Int→Option IU
def JU(R2:LF)(t0:ABF)(t8:AAs)(t9 t10:Int):Option IU:=
 cond (decide (t10<t9))
  (if(0:Int)≤t10∧t10<(t8.length:Int)then(
  (Tk ((t8.getD (t10.toNat) (0,0,[],())).1,(t8.getD (t10.toNat) (0,0,[],())).2.1,(t8.getD (t10.toNat) (0,0,[],())).2.2.1,())).bind fun u2=>
  cond (!u2.1.1)
   (some ((false,()),()))
  (R2 t0 t8 t9 (AZ (t10+1))))else none)
 (some (((t0.2.2.2.2.2.2.2.2.1.length:Int)==2,()),()))
def Eb:Nat→LF
 |0=>fun _ _ _ _=>none
 |n+1=>JU (Eb n)
def Nf(R2:LF)(p0:ABF):Option IU:=
 R2 p0 p0.2.2.2.2.2.2.2.2.1 (p0.2.2.2.2.2.2.2.2.1.length:Int) 0
def KK(p0:ABF):Option IU:=Nf (Eb Ae) p0
abbrev Kj:Type:=ABG×Unit
abbrev N2:Type:=ABF→AAk→Int→Int→Option Kj
def Lm(R2:N2)(t0:ABF)(t8:AAk)(t9 t10:Int):Option Kj:=
 cond (decide (t10<t9))
  (if(0:Int)≤t10∧t10<(t8.length:Int)then(
  (E7 ((t8.getD (t10.toNat) (0,[],false,())).1)).bind fun u3=>
  (JN t0 u3.1.1).bind fun u4=>
  cond (!u4.1.1)
   (some ((false,()),()))
  ((F4 ((t8.getD (t10.toNat) (0,[],false,())).2.1)).bind fun u6=>
  cond (!u6.1.1)
   (some ((false,()),()))
  (cond (decide (t10>0))
   (if(0:Int)≤AZ (t10-1)∧AZ (t10-1)<(t0.2.2.2.2.2.2.2.2.2.1.length:Int)then(
   cond (decide (((t0.2.2.2.2.2.2.2.2.2.1.getD ((AZ (t10-1)).toNat) (0,[],false,())).1)≥((t8.getD (t10.toNat) (0,[],false,())).1)))
    (some ((false,()),()))
   (R2 t0 t8 t9 (AZ (t10+1))))else none)
  (R2 t0 t8 t9 (AZ (t10+1))))))else none)
 (some ((decide ((t0.2.2.2.2.2.2.2.2.2.1.length:Int)≤120),()),()))
def Ft:Nat→N2
 |0=>fun _ _ _ _=>none
 |n+1=>Lm (Ft n)
def Qx(R2:N2)(p0:ABF):Option Kj:=
 R2 p0 p0.2.2.2.2.2.2.2.2.2.1 (p0.2.2.2.2.2.2.2.2.2.1.length:Int) 0
def NQ(p0:ABF):Option Kj:=Qx (Ft Ae) p0
abbrev qP:Type:=ABG×Unit
def IP(p0:ABF):Option qP:=
 (Ex (p0.1,p0.2.1,())).bind fun u1=>
 cond (u1.1.1)
  ((Kn (p0.1,p0.2.1,p0.2.2.1,p0.2.2.2.1,p0.2.2.2.2.1,p0.2.2.2.2.2.1,p0.2.2.2.2.2.2.1,p0.2.2.2.2.2.2.2.1,p0.2.2.2.2.2.2.2.2.1,p0.2.2.2.2.2.2.2.2.2.1,p0.2.2.2.2.2.2.2.2.2.2.1,())).bind fun u2=>
  cond (u2.1.1)
   ((Ke (p0.1,p0.2.1,()) (p0.2.2.2.2.1,p0.2.2.2.2.2.1,())).bind fun u3=>
   cond (u3.1.1)
    ((KP (p0.1,p0.2.1,p0.2.2.1,p0.2.2.2.1,p0.2.2.2.2.1,p0.2.2.2.2.2.1,p0.2.2.2.2.2.2.1,p0.2.2.2.2.2.2.2.1,p0.2.2.2.2.2.2.2.2.1,p0.2.2.2.2.2.2.2.2.2.1,p0.2.2.2.2.2.2.2.2.2.2.1,())).bind fun u4=>
    cond (u4.1.1)
     ((L2 (p0.1,p0.2.1,p0.2.2.1,p0.2.2.2.1,p0.2.2.2.2.1,p0.2.2.2.2.2.1,p0.2.2.2.2.2.2.1,p0.2.2.2.2.2.2.2.1,p0.2.2.2.2.2.2.2.2.1,p0.2.2.2.2.2.2.2.2.2.1,p0.2.2.2.2.2.2.2.2.2.2.1,())).bind fun u5=>
     cond (u5.1.1)
      ((KK (p0.1,p0.2.1,p0.2.2.1,p0.2.2.2.1,p0.2.2.2.2.1,p0.2.2.2.2.2.1,p0.2.2.2.2.2.2.1,p0.2.2.2.2.2.2.2.1,p0.2.2.2.2.2.2.2.2.1,p0.2.2.2.2.2.2.2.2.2.1,p0.2.2.2.2.2.2.2.2.2.2.1,())).bind fun u6=>
      cond (u6.1.1)
       ((NQ (p0.1,p0.2.1,p0.2.2.1,p0.2.2.2.1,p0.2.2.2.2.1,p0.2.2.2.2.2.1,p0.2.2.2.2.2.2.1,p0.2.2.2.2.2.2.2.1,p0.2.2.2.2.2.2.2.2.1,p0.2.2.2.2.2.2.2.2.2.1,p0.2.2.2.2.2.2.2.2.2.2.1,())).bind fun u7=>
       some ((u7.1.1,()),()))
      (some ((false,()),())))
     (some ((false,()),())))
    (some ((false,()),())))
   (some ((false,()),())))
  (some ((false,()),())))
 (some ((false,()),()))
abbrev xG:Type:=ABG×Unit
def CG(p0 p1 p2:Int):Option xG:=
 cond (decide (p0≥p1))
  (some ((decide (p0≤p2),()),()))
 (some ((false,()),()))
abbrev P2:Type:=ABG×Unit
abbrev TO:Type:=Int→List Int→Int→Option P2
def VO(R4:TO)(t3:Int)(AU:AAO)(AG:Int):Option P2:=
 cond ((decide (t3<(AU.length:Int))))
  (if(0:Int)≤t3∧t3<(AU.length:Int)then(
  (CG (AU.getD (t3.toNat) 0) 0 7).bind fun u5=>
  cond (!u5.1.1)
   (some ((false,()),()))
  (R4 (AZ (t3+1)) AU AG))else none)
 (some ((true,()),()))
def LO:Nat→TO
 |0=>fun _ _ _=>none
 |n+1=>VO (LO n)
def VL(R4:TO)(p0:AA9):Option P2:=
 (CG (p0.1.length:Int) 1 8).bind fun u1=>
 cond (!u1.1.1)
  (some ((false,()),()))
 ((CG p0.2.1 1 4).bind fun u2=>
 cond (!u2.1.1)
  (some ((false,()),()))
 (R4 0 p0.1 p0.2.1))
def GO(p0:AA9):Option P2:=VL (LO Ae) p0
abbrev oA:Type:=AGB×Unit
def bB(p0:Int):Option oA:=
 cond (p0==8)
  (some (([],()),()))
 (cond (p0==10)
  (some (([],()),()))
 (cond (p0==12)
  (some (([],()),()))
 (cond (p0==2)
  (some (([65,84],()),()))
 (cond (p0==3)
  (some (([65,66,67],()),()))
 (cond (p0==5)
  (some (([65,66],()),()))
 (cond (p0==14)
  (some (([65,66],()),()))
 (cond (p0==11)
  (some (([66,67],()),()))
 (cond (p0==13)
  (some (([80],()),()))
 (some (([65],()),()))))))))))
abbrev PX:Type:=ABG×Unit
abbrev Wm:Type:=Int→Int→Int→Int→Int→Int→List UInt8→Int→Int→Int→Int→List UInt8→List Int→Option PX
def DI(R4:Wm)(t12 t13 AU AG Aq Ck:Int)(DJ:ACC)(Cj Bj El Gq:Int)(MF:ACC)(b2:AAO):Option PX:=
 cond (decide (t13<t12))
  (if(0:Int)≤t13∧t13<(b2.length:Int)then(
  let x3:Int:=(b2.getD (t13.toNat) 0)
  cond (x3==65)
   (R4 t12 (AZ (t13+1)) AU AG Aq Ck DJ Cj 0 El Gq MF b2)
  (cond (x3==80)
   (R4 t12 (AZ (t13+1)) AU AG Aq Ck DJ Cj 0 El Gq MF b2)
  (cond (x3==66)
   (R4 t12 (AZ (t13+1)) AU AG Aq Ck DJ Cj Bj 0 Gq MF b2)
  (cond (x3==67)
   (R4 t12 (AZ (t13+1)) AU AG Aq Ck DJ Cj Bj El 0 MF b2)
  (cond (x3==84)
   (R4 t12 (AZ (t13+1)) AU AG Aq Ck DJ Cj Bj El Gq [] b2)
  (R4 t12 (AZ (t13+1)) AU AG Aq Ck DJ Cj Bj El Gq MF b2))))))else none)
 ((A5 AU 1 16).bind fun u4=>
 cond (u4.1.1)
  (cond (((Cj==0)&&((Bj==0)&&((El==0)&&((Gq==0)&&((MF==[])&&true))))))
   ((F4 DJ).bind fun u6=>
   some ((u6.1.1,()),()))
  (some ((false,()),())))
 (some ((false,()),())))
def Dk:Nat→Wm
 |0=>fun _ _ _ _ _ _ _ _ _ _ _ _ _=>none
 |n+1=>DI (Dk n)
def X0(R4:Wm)(p0:AC3):Option PX:=
 (bB p0.1).bind fun u1=>
 if u1.1.1.length≤Dr then(
 let x2:AAO:=(u1.1.1.map fun c=>(c.toNat:Int))
 R4 (x2.length:Int) 0 p0.1 p0.2.1 p0.2.2.1 p0.2.2.2.1 p0.2.2.2.2.1 0 p0.2.1 p0.2.2.1 p0.2.2.2.1 p0.2.2.2.2.1 x2)else none
def Yh(p0:AC3):Option PX:=X0 (Dk Ae) p0
abbrev IE:Type:=AFP×ADs
abbrev OM:Type:=AAS→Int→Int→Int→AAS→Int→AAS→Option IE
def Qe(R3:OM)(t10:AAS)(t11 t12 AG:Int)(b1:AAS)(mh:Int)(b3:AAS):Option IE:=
 cond (decide (t12<t11))
  (if(0:Int)≤t12∧t12<(t10.length:Int)then(
  (DB ((t10.getD (t12.toNat) ([],false,0,())).1)).bind fun u1=>
  if b3.length+1≤Dr then(
  R3 t10 t11 (AZ (t12+1)) AG b1 mh (b3++[(u1.2.1,(t10.getD (t12.toNat) ([],false,0,())).2.1,(t10.getD (t12.toNat) ([],false,0,())).2.2.1,())]))else none)else none)
 (some ((((),mh,()),()),(b3,())))
def Hj:Nat→OM
 |0=>fun _ _ _ _ _ _ _=>none
 |n+1=>Qe (Hj n)
def Qb(R3:OM)(p0:ABr):Option IE:=
 R3 p0.1 (p0.1.length:Int) 0 0 [] p0.2.1 []
def EW(p0:ABr):Option IE:=Qb (Hj Ae) p0
abbrev gm:Type:=ACW×AFH
def Iv(p0:AAw):Option gm:=
 if 0+p0.length≤Dr then(
 some (((),()),(p0,())))else none
abbrev kD:Type:=AGC×ADF
def C7(p0:ACN):Option kD:=
 (Iv p0.1).bind fun u1=>
 (Iv p0.2.1).bind fun u2=>
 some ((((),(),p0.2.2.1,()),()),(u1.2.1,u2.2.1,()))
abbrev J4:Type:=AGD×ADw
abbrev QT:Type:=ACA→Int→Int→Int→ACA→Int→ACA→Option J4
def Su(R3:QT)(t10:ACA)(t11 t12 AU:Int)(b1:ACA)(Zz:Int)(b3:ACA):Option J4:=
 cond (decide (t12<t11))
  (if(0:Int)≤t12∧t12<(t10.length:Int)then(
  (DB ((t10.getD (t12.toNat) ([],[],false,())).2.1)).bind fun u2=>
  if b3.length+1≤Dr then(
  R3 t10 t11 (AZ (t12+1)) AU b1 Zz (b3++[((t10.getD (t12.toNat) ([],[],false,())).1,u2.2.1,(t10.getD (t12.toNat) ([],[],false,())).2.2.1,())]))else none)else none)
 (some (((Zz,(),()),()),(b3,())))
def JK:Nat→QT
 |0=>fun _ _ _ _ _ _ _=>none
 |n+1=>Su (JK n)
def Sp(R3:QT)(p0:ACF):Option J4:=
 R3 p0.2.1 (p0.2.1.length:Int) 0 0 [] p0.1 []
def Fh(p0:ACF):Option J4:=Sp (JK Ae) p0
abbrev P4:Type:=AFW×ADG
abbrev S_:Type:=List AAO→Int→Int→Int→Int→Bool→List Int→AAw→List AAO→Int→Int→Bool→List Int→AAw→List AAO→Option P4
def Ve(R4:S_)(t17:List AAO)(t18 t19 AU AG:Int)(DJ:Bool)(b1:AAO)(b2:AAw)(b3:List AAO)(wB vf:Int)(xA:Bool)(b5:AAO)(b6:AAw)(b7:List AAO):Option P4:=
 cond (decide (t19<t18))
  (if(0:Int)≤t19∧t19<(t17.length:Int)then(
  (DB (t17.getD (t19.toNat) [])).bind fun u4=>
  if b7.length+1≤Dr then(
  R4 t17 t18 (AZ (t19+1)) AU AG DJ b1 b2 b3 wB vf xA b5 b6 (b7++[u4.2.1]))else none)else none)
 (some (((wB,vf,(),(),xA,(),()),()),(b5,b6,b7,())))
def Lc:Nat→S_
 |0=>fun _ _ _ _ _ _ _ _ _ _ _ _ _ _ _=>none
 |n+1=>Ve (Lc n)
def Vc(R4:S_)(p0:ABH):Option P4:=
 (DB p0.2.2.1).bind fun u1=>
 (Iv p0.2.2.2.1).bind fun u2=>
 R4 p0.2.2.2.2.2.1 (p0.2.2.2.2.2.1.length:Int) 0 0 0 false [] [] [] p0.1 p0.2.1 p0.2.2.2.2.1 u1.2.1 u2.2.1 []
def GN(p0:ABH):Option P4:=Vc (Lc Ae) p0
abbrev ig:Type:=AF6×AFJ
def MU(p0:AC8):Option ig:=
 if 0+p0.2.2.1.length≤Dr then(
 some (((p0.1,p0.2.1,(),()),()),(p0.2.2.1,())))else none
abbrev EI:Type:=AF7×ADD
abbrev Hv:Type:=AAP→Int→Int→List Int→Int→AAP→List Int→AAS→Int→AAr→AAv→AAs→AAk→Bool→Int→Int→Bool→List Int→AAP→List Int→AAS→AAr→AAv→AAs→AAk→Int→Int→Bool→List Int→AAP→List Int→AAS→AAr→AAv→AAs→AAk→Option EI
abbrev Hq:Type:=AAr→Int→Int→List Int→Int→AAP→List Int→AAS→Int→AAr→AAv→AAs→AAk→Bool→Int→Int→Bool→List Int→AAP→List Int→AAS→AAr→AAv→AAs→AAk→Int→Int→Bool→List Int→AAP→List Int→AAS→AAr→AAv→AAs→AAk→Option EI
abbrev G6:Type:=AAv→Int→Int→List Int→Int→AAP→List Int→AAS→Int→AAr→AAv→AAs→AAk→Bool→Int→Int→Bool→List Int→AAP→List Int→AAS→AAr→AAv→AAs→AAk→Int→Int→Bool→List Int→AAP→List Int→AAS→AAr→AAv→AAs→AAk→Option EI
abbrev G7:Type:=AAs→Int→Int→List Int→Int→AAP→List Int→AAS→Int→AAr→AAv→AAs→AAk→Bool→Int→Int→Bool→List Int→AAP→List Int→AAS→AAr→AAv→AAs→AAk→Int→Int→Bool→List Int→AAP→List Int→AAS→AAr→AAv→AAs→AAk→Option EI
def UN(R3:Hv)(R8:Hq)(R13:G6)(R18:G7)(t25:AAP)(t26 t27:Int)(AU:AAO)(AG:Int)(Aq:AAP)(Ck:AAO)(DJ:AAS)(AW:Int)(DH:AAr)(DC:AAv)(DD:AAs)(EU:AAk)(AL:Bool)(Bj D9:Int)(E5:Bool)(b2:AAO)(b3:AAP)(b4:AAO)(b5:AAS)(b6:AAr)(b7:AAv)(b8:AAs)(b9:AAk)(DM D7:Int)(Cf:Bool)(FV:AAO)(Di:AAP)(GF:AAO)(GG:AAS)(D8:AAr)(EZ:AAv)(FD:AAs)(Q0:AAk):Option EI:=
 cond (decide (t27<t26))
  (if(0:Int)≤t27∧t27<(t25.length:Int)then(
  (C7 ((t25.getD (t27.toNat) ([],[],0,())).1,(t25.getD (t27.toNat) ([],[],0,())).2.1,(t25.getD (t27.toNat) ([],[],0,())).2.2.1,())).bind fun u15=>
  if Di.length+1≤Dr then(
  R3 t25 t26 (AZ (t27+1)) AU AG Aq Ck DJ AW DH DC DD EU AL Bj D9 E5 b2 b3 b4 b5 b6 b7 b8 b9 DM D7 Cf FV (Di++[(u15.2.1,u15.2.2.1,u15.1.1.2.2.1,())]) GF GG D8 EZ FD Q0)else none)else none)
 (R8 DH (DH.length:Int) 0 AU AG Aq Ck DJ AW DH DC DD EU AL Bj D9 E5 b2 b3 b4 b5 b6 b7 b8 b9 DM D7 Cf FV Di GF GG D8 EZ FD Q0)
def Ud(R3:Hv)(R8:Hq)(R13:G6)(R18:G7)(t40:AAr)(t41 t42:Int)(AU:AAO)(AG:Int)(Aq:AAP)(Ck:AAO)(DJ:AAS)(AW:Int)(DH:AAr)(DC:AAv)(DD:AAs)(EU:AAk)(AL:Bool)(Bj D9:Int)(E5:Bool)(b2:AAO)(b3:AAP)(b4:AAO)(b5:AAS)(b6:AAr)(b7:AAv)(b8:AAs)(b9:AAk)(DM D7:Int)(Cf:Bool)(FV:AAO)(Di:AAP)(GF:AAO)(GG:AAS)(D8:AAr)(EZ:AAv)(FD:AAs)(Q0:AAk):Option EI:=
 cond (decide (t42<t41))
  (if(0:Int)≤t42∧t42<(t40.length:Int)then(
  (Fh ((t40.getD (t42.toNat) (0,[],())).1,(t40.getD (t42.toNat) (0,[],())).2.1,())).bind fun SV=>
  if D8.length+1≤Dr then(
  R8 t40 t41 (AZ (t42+1)) AU AG Aq Ck DJ AW DH DC DD EU AL Bj D9 E5 b2 b3 b4 b5 b6 b7 b8 b9 DM D7 Cf FV Di GF GG (D8++[(SV.1.1.1,SV.2.1,())]) EZ FD Q0)else none)else none)
 (R13 DC (DC.length:Int) 0 AU AG Aq Ck DJ AW DH DC DD EU AL Bj D9 E5 b2 b3 b4 b5 b6 b7 b8 b9 DM D7 Cf FV Di GF GG D8 EZ FD Q0)
def Sz(R3:Hv)(R8:Hq)(R13:G6)(R18:G7)(t55:AAv)(t56 t57:Int)(AU:AAO)(AG:Int)(Aq:AAP)(Ck:AAO)(DJ:AAS)(AW:Int)(DH:AAr)(DC:AAv)(DD:AAs)(EU:AAk)(AL:Bool)(Bj D9:Int)(E5:Bool)(b2:AAO)(b3:AAP)(b4:AAO)(b5:AAS)(b6:AAr)(b7:AAv)(b8:AAs)(b9:AAk)(DM D7:Int)(Cf:Bool)(FV:AAO)(Di:AAP)(GF:AAO)(GG:AAS)(D8:AAr)(EZ:AAv)(FD:AAs)(Q0:AAk):Option EI:=
 cond (decide (t57<t56))
  (if(0:Int)≤t57∧t57<(t55.length:Int)then(
  (GN ((t55.getD (t57.toNat) (0,0,[],[],false,[],())).1,(t55.getD (t57.toNat) (0,0,[],[],false,[],())).2.1,(t55.getD (t57.toNat) (0,0,[],[],false,[],())).2.2.1,(t55.getD (t57.toNat) (0,0,[],[],false,[],())).2.2.2.1,(t55.getD (t57.toNat) (0,0,[],[],false,[],())).2.2.2.2.1,(t55.getD (t57.toNat) (0,0,[],[],false,[],())).2.2.2.2.2.1,())).bind fun fP=>
  if EZ.length+1≤Dr then(
  R13 t55 t56 (AZ (t57+1)) AU AG Aq Ck DJ AW DH DC DD EU AL Bj D9 E5 b2 b3 b4 b5 b6 b7 b8 b9 DM D7 Cf FV Di GF GG D8 (EZ++[(fP.1.1.1,fP.1.1.2.1,fP.2.1,fP.2.2.1,fP.1.1.2.2.2.2.1,fP.2.2.2.1,())]) FD Q0)else none)else none)
 (R18 DD (DD.length:Int) 0 AU AG Aq Ck DJ AW DH DC DD EU AL Bj D9 E5 b2 b3 b4 b5 b6 b7 b8 b9 DM D7 Cf FV Di GF GG D8 EZ FD Q0)
def Sq(R3:Hv)(R8:Hq)(R13:G6)(R18:G7)(t70:AAs)(t71 t72:Int)(AU:AAO)(AG:Int)(Aq:AAP)(Ck:AAO)(DJ:AAS)(AW:Int)(DH:AAr)(DC:AAv)(DD:AAs)(EU:AAk)(AL:Bool)(Bj D9:Int)(E5:Bool)(b2:AAO)(b3:AAP)(b4:AAO)(b5:AAS)(b6:AAr)(b7:AAv)(b8:AAs)(b9:AAk)(DM D7:Int)(Cf:Bool)(FV:AAO)(Di:AAP)(GF:AAO)(GG:AAS)(D8:AAr)(EZ:AAv)(FD:AAs)(Q0:AAk):Option EI:=
 cond (decide (t72<t71))
  (if(0:Int)≤t72∧t72<(t70.length:Int)then(
  (MU ((t70.getD (t72.toNat) (0,0,[],())).1,(t70.getD (t72.toNat) (0,0,[],())).2.1,(t70.getD (t72.toNat) (0,0,[],())).2.2.1,())).bind fun nJ=>
  if FD.length+1≤Dr then(
  R18 t70 t71 (AZ (t72+1)) AU AG Aq Ck DJ AW DH DC DD EU AL Bj D9 E5 b2 b3 b4 b5 b6 b7 b8 b9 DM D7 Cf FV Di GF GG D8 EZ (FD++[(nJ.1.1.1,nJ.1.1.2.1,nJ.2.1,())]) Q0)else none)else none)
 (if 0+EU.length≤Dr then(
 some ((((),DM,(),(),(),D7,(),(),(),(),Cf,()),()),(FV,Di,GF,GG,D8,EZ,FD,EU,())))else none)
mutual
def FQ:Nat→Hv
 |0=>fun _ _ _ _ _ _ _ _ _ _ _ _ _ _ _ _ _ _ _ _ _ _ _ _ _ _ _ _ _ _ _ _ _ _ _ _=>none
 |n+1=>UN (FQ n) (FN n) (Eu n) (Ej n)
def FN:Nat→Hq
 |0=>fun _ _ _ _ _ _ _ _ _ _ _ _ _ _ _ _ _ _ _ _ _ _ _ _ _ _ _ _ _ _ _ _ _ _ _ _=>none
 |n+1=>Ud (FQ n) (FN n) (Eu n) (Ej n)
def Eu:Nat→G6
 |0=>fun _ _ _ _ _ _ _ _ _ _ _ _ _ _ _ _ _ _ _ _ _ _ _ _ _ _ _ _ _ _ _ _ _ _ _ _=>none
 |n+1=>Sz (FQ n) (FN n) (Eu n) (Ej n)
def Ej:Nat→G7
 |0=>fun _ _ _ _ _ _ _ _ _ _ _ _ _ _ _ _ _ _ _ _ _ _ _ _ _ _ _ _ _ _ _ _ _ _ _ _=>none
 |n+1=>Sq (FQ n) (FN n) (Eu n) (Ej n)
end
def UK(R3:Hv)(R8:Hq)(R13:G6)(R18:G7)(p0:ABF):Option EI:=
 (Po (p0.1,p0.2.1,())).bind fun u2=>
 (DB p0.2.2.2.1).bind fun u3=>
 (EW (p0.2.2.2.2.1,p0.2.2.2.2.2.1,())).bind fun u4=>
 R3 p0.2.2.1 (p0.2.2.1.length:Int) 0 p0.1 p0.2.1 p0.2.2.1 p0.2.2.2.1 p0.2.2.2.2.1 p0.2.2.2.2.2.1 p0.2.2.2.2.2.2.1 p0.2.2.2.2.2.2.2.1 p0.2.2.2.2.2.2.2.2.1 p0.2.2.2.2.2.2.2.2.2.1 p0.2.2.2.2.2.2.2.2.2.2.1 0 0 false [] [] [] [] [] [] [] [] u2.1.1.2.1 u4.1.1.2.1 p0.2.2.2.2.2.2.2.2.2.2.1 u2.2.1 [] u3.2.1 u4.2.1 [] [] [] []
def LI(p0:ABF):Option EI:=UK (FQ Ae) (FN Ae) (Eu Ae) (Ej Ae) p0
abbrev K7:Type:=AEH×Unit
def Dl(p0 p1:Int):Option K7:=
 (HT p0).bind fun u1=>
 cond (!u1.1.1)
  (some (((0,false,()),()),()))
 ((Wf p1).bind fun u2=>
 cond (!u2.1.1)
  (some (((0,false,()),()),()))
 (some (((AZ ((AZ (4294967296*p0))+p1),true,()),()),())))
abbrev HG:Type:=ACW×ACj
abbrev Rm:Type:=Int→Int→List Int→Option HG
def UI(R5:Rm)(t0 t10:Int)(b0:AAO):Option HG:=
 cond (decide (t10<8))
  (if t10<0 then none else(
  cond (((cP .i64 (t0.fdiv (2^(min t10.toNat 64))) 1)==1))
   (if b0.length+1≤Dr then(
   R5 t0 (AZ (t10+1)) (b0++[t10]))else none)
  (R5 t0 (AZ (t10+1)) b0)))
 (some (((),()),(b0,())))
def KF:Nat→Rm
 |0=>fun _ _ _=>none
 |n+1=>UI (KF n)
def Uk(R5:Rm)(p0:Int):Option HG:=
 (A5 p0 0 255).bind fun u1=>
 cond (!u1.1.1)
  (some (((),()),([],())))
 (R5 p0 0 [])
def Hc(p0:Int):Option HG:=Uk (KF Ae) p0
abbrev ky:Type:=ABN×Unit
def SJ(p0:AC9)(p1:Int):Option ky:=
 cond (decide (p0.1<p1))
  (some (((-1),()),()))
 (cond (decide (p0.1>p1))
  (some ((1,()),()))
 (some ((0,()),())))
abbrev BU:Type:=AEH×Unit
abbrev B5:Type:=AAw→Int→Int→Int→Int→Option BU
def Co(R3:B5)(t0:AAw)(t1 t8 t9 t10:Int):Option BU:=
 cond (decide (t9<t10))
  (let x2:Int:=AZ ((IntKind.wrap .u64 (AZ (t9+t10))).fdiv (2^1))
  if(0:Int)≤x2∧x2<(t0.length:Int)then(
  (SJ ((t0.getD (x2.toNat) (0,0,false,[],())).1,(t0.getD (x2.toNat) (0,0,false,[],())).2.1,(t0.getD (x2.toNat) (0,0,false,[],())).2.2.1,(t0.getD (x2.toNat) (0,0,false,[],())).2.2.2.1,()) t1).bind fun u3=>
  cond (decide (u3.1.1<0))
   (R3 t0 t1 t8 (AZ (x2+1)) t10)
  (R3 t0 t1 t8 t9 x2))else none)
 (cond (decide (t9<t8))
  (if(0:Int)≤t9∧t9<(t0.length:Int)then(
  (SJ ((t0.getD (t9.toNat) (0,0,false,[],())).1,(t0.getD (t9.toNat) (0,0,false,[],())).2.1,(t0.getD (t9.toNat) (0,0,false,[],())).2.2.1,(t0.getD (t9.toNat) (0,0,false,[],())).2.2.2.1,()) t1).bind fun u4=>
  some (((t9,u4.1.1==0,()),()),()))else none)
 (some (((t9,false,()),()),())))
def A4:Nat→B5
 |0=>fun _ _ _ _ _=>none
 |n+1=>Co (A4 n)
def Cn(R3:B5)(p0:AAw)(p1:Int):Option BU:=
 R3 p0 p1 (p0.length:Int) 0 (p0.length:Int)
def CC(p0:AAw)(p1:Int):Option BU:=Cn (A4 Ae) p0 p1
abbrev qT:Type:=AEH×Unit
def SU(p0:AAw)(p1:Int):Option qT:=
 (CC p0 p1).bind fun u1=>
 some (((u1.1.1.1,u1.1.1.2.1,()),()),())
abbrev Me:Type:=AFY×Unit
def GQ(p0:ACN)(p1:Int):Option Me:=
 (FC (p0.1,p0.2.1,p0.2.2.1,())).bind fun u1=>
 cond (!u1.1.1)
  (some ((((0,0,false,[],()),false,()),()),()))
 ((SU p0.1 p1).bind fun u2=>
 cond (!u2.1.1.2.1)
  (some ((((0,0,false,[],()),false,()),()),()))
 (if(0:Int)≤u2.1.1.1∧u2.1.1.1<(p0.1.length:Int)then(
 some (((((p0.1.getD (u2.1.1.1.toNat) (0,0,false,[],())).1,(p0.1.getD (u2.1.1.1.toNat) (0,0,false,[],())).2.1,(p0.1.getD (u2.1.1.1.toNat) (0,0,false,[],())).2.2.1,(p0.1.getD (u2.1.1.1.toNat) (0,0,false,[],())).2.2.2.1,()),true,()),()),()))else none))
abbrev NV:Type:=ABN×Unit
abbrev QA:Type:=ACA→Int→Int→Int→ACA→Option NV
def Sa(R2:QA)(t6:ACA)(t7 t8 AU:Int)(AG:ACA):Option NV:=
 cond (decide (t8<t7))
  (if(0:Int)≤t8∧t8<(t6.length:Int)then(
  cond (!((t6.getD (t8.toNat) ([],[],false,())).2.2.1))
   (some ((t8,()),()))
  (R2 t6 t7 (AZ (t8+1)) AU AG))else none)
 (some (((AG.length:Int),()),()))
def JF:Nat→QA
 |0=>fun _ _ _ _ _=>none
 |n+1=>Sa (JF n)
def Sg(R2:QA)(p0:ACF):Option NV:=
 R2 p0.2.1 (p0.2.1.length:Int) 0 p0.1 p0.2.1
def Pm(p0:ACF):Option NV:=Sg (JF Ae) p0
abbrev Mz:Type:=ABN×Unit
abbrev XA:Type:=Int→AAr→Int→Int→Option Mz
def Ys(R2:XA)(t1:Int)(t8:AAr)(t9 t10:Int):Option Mz:=
 cond (decide (t10<t9))
  (if(0:Int)≤t10∧t10<(t8.length:Int)then(
  cond (((t8.getD (t10.toNat) (0,[],())).1)==t1)
   ((Pm ((t8.getD (t10.toNat) (0,[],())).1,(t8.getD (t10.toNat) (0,[],())).2.1,())).bind fun u3=>
   some ((u3.1.1,()),()))
  (R2 t1 t8 t9 (AZ (t10+1))))else none)
 (some ((0,()),()))
def OS:Nat→XA
 |0=>fun _ _ _ _=>none
 |n+1=>Ys (OS n)
def X9(R2:XA)(p0:ABF)(p1:Int):Option Mz:=
 R2 p1 p0.2.2.2.2.2.2.1 (p0.2.2.2.2.2.2.1.length:Int) 0
def Qi(p0:ABF)(p1:Int):Option Mz:=X9 (OS Ae) p0 p1
abbrev Ri:Type:=ACW×ACj
abbrev Uz:Type:=ACx→Int→Int→List Int→Option Ri
def XI(R3:Uz)(t7:ACx)(t8 t9:Int)(b0:AAO):Option Ri:=
 cond (decide (t9<t8))
  (if(0:Int)≤t9∧t9<(t7.length:Int)then(
  if b0.length+1≤Dr then(
  R3 t7 t8 (AZ (t9+1)) (b0++[((t7.getD (t9.toNat) (0,false,0,0,false,[],())).1)]))else none)else none)
 (some (((),()),(b0,())))
def Mj:Nat→Uz
 |0=>fun _ _ _ _=>none
 |n+1=>XI (Mj n)
def Xd(R3:Uz)(p0:ACx):Option Ri:=
 R3 p0 (p0.length:Int) 0 []
def Od(p0:ACx):Option Ri:=Xd (Mj Ae) p0
abbrev pT:Type:=ABG×Unit
def KQ(p0:Int)(p1:AC8):Option pT:=
 (E7 p0).bind fun u1=>
 cond ((decide (u1.1.1<p1.1)))
  (some ((true,()),()))
 (cond (u1.1.1==p1.1)
  ((TH p0).bind fun u3=>
  some (((decide (u3.1.1<p1.2.1)),()),()))
 (some ((false,()),())))
abbrev gK:Type:=ACW×AGJ
def E9(p1:AFj)(AU AG:Int)(b1:ADC):Option gK:=
 if b1.length+1≤Dr then(
 some (((()),()),((AU,AG,(),()),(),(b1++[(p1.1,p1.2.1,p1.2.2.1,())]),())))else none
abbrev YA:Type:=ACW×ACj
abbrev aQ:Type:=List Int→List Int→Int→Int→List Int→Option YA
def cA(R5:aQ)(t2 t22:AAO)(t23 t24:Int)(b0:AAO):Option YA:=
 cond (decide (t24<t23))
  (if(0:Int)≤t24∧t24<(t22.length:Int)then(
  let x3:Int:=(t22.getD (t24.toNat) 0)
  (Bn t2 x3).bind fun u4=>
  cond (!u4.1.1)
   (if b0.length+1≤Dr then(
   R5 t2 t22 t23 (AZ (t24+1)) (b0++[x3]))else none)
  (R5 t2 t22 t23 (AZ (t24+1)) b0))else none)
 (some (((),()),(b0,())))
def RH:Nat→aQ
 |0=>fun _ _ _ _ _=>none
 |n+1=>cA (RH n)
def bh(R5:aQ)(p0:AA9)(p1 p2:AAO):Option YA:=
 (D3 (p0.1,p0.2.1,()) p1).bind fun u1=>
 cond (!u1.1.1)
  (some (((),()),([],())))
 ((D3 (p0.1,p0.2.1,()) p2).bind fun u2=>
 cond (!u2.1.1)
  (some (((),()),([],())))
 (R5 p2 p1 (p1.length:Int) 0 []))
def eF(p0:AA9)(p1 p2:AAO):Option YA:=bh (RH Ae) p0 p1 p2
abbrev rW:Type:=ABG×Unit
def Gw(p0:AA9)(p1 p2:AAO):Option rW:=
 (D3 (p0.1,p0.2.1,()) p2).bind fun u1=>
 cond (!u1.1.1)
  (some ((false,()),()))
 ((Gh (p0.1,p0.2.1,()) p1).bind fun u2=>
 cond (!u2.1.1)
  (some ((false,()),()))
 ((Mp p2 p1).bind fun u3=>
 cond (((u3.2.1.length:Int) !=(p2.length:Int)))
  (some ((false,()),()))
 ((eF (p0.1,p0.2.1,()) p1 p2).bind fun u6=>
 (Gh (p0.1,p0.2.1,()) u6.2.1).bind fun u7=>
 some ((!u7.1.1,()),()))))
abbrev rP:Type:=(AC9×Unit)×Unit
def Qq(p0 p1:AC9):Option rP:=
 cond ((decide (p1.2.1>p0.2.1)))
  (some (((p1.1,p1.2.1,p1.2.2.1,p1.2.2.2.1,()),()),()))
 (some (((p0.1,p0.2.1,p0.2.2.1,p0.2.2.2.1,()),()),()))
abbrev Tc:Type:=AFY×Unit
abbrev XU:Type:=List Int→Int→Bool→ACx→Int→Int→Int→Int→Bool→List UInt8→Int→Int→Bool→List UInt8→Option Tc
def Yp(R3:XU)(t1:AAO)(t2:Int)(t9:Bool)(t13:ACx)(t14 t15 AU AG:Int)(Aq:Bool)(Ck:ACC)(Cj Bj:Int)(El:Bool)(Gq:ACC):Option Tc:=
 cond (decide (t15<t14))
  (if(0:Int)≤t15∧t15<(t13.length:Int)then(
  cond (!((t13.getD (t15.toNat) (0,false,0,0,false,[],())).2.1))
   (R3 t1 t2 t9 t13 t14 (AZ (t15+1)) AU AG Aq Ck Cj Bj El Gq)
  ((Bn t1 ((t13.getD (t15.toNat) (0,false,0,0,false,[],())).1)).bind fun u3=>
  cond (!u3.1.1)
   (R3 t1 t2 t9 t13 t14 (AZ (t15+1)) AU AG Aq Ck Cj Bj El Gq)
  ((Ly ((t13.getD (t15.toNat) (0,false,0,0,false,[],())).2.2.1,(t13.getD (t15.toNat) (0,false,0,0,false,[],())).2.2.2.1,(t13.getD (t15.toNat) (0,false,0,0,false,[],())).2.2.2.2.1,(t13.getD (t15.toNat) (0,false,0,0,false,[],())).2.2.2.2.2.1,())).bind fun u4=>
  cond (!u4.1.1)
   (R3 t1 t2 t9 t13 t14 (AZ (t15+1)) AU AG Aq Ck Cj Bj El Gq)
  (cond (((t13.getD (t15.toNat) (0,false,0,0,false,[],())).2.2.1) !=t2)
   (R3 t1 t2 t9 t13 t14 (AZ (t15+1)) AU AG Aq Ck Cj Bj El Gq)
  (cond (!t9)
   ((Qq ((t13.getD (t15.toNat) (0,false,0,0,false,[],())).2.2.1,(t13.getD (t15.toNat) (0,false,0,0,false,[],())).2.2.2.1,(t13.getD (t15.toNat) (0,false,0,0,false,[],())).2.2.2.2.1,(t13.getD (t15.toNat) (0,false,0,0,false,[],())).2.2.2.2.2.1,()) ((t13.getD (t15.toNat) (0,false,0,0,false,[],())).2.2.1,(t13.getD (t15.toNat) (0,false,0,0,false,[],())).2.2.2.1,(t13.getD (t15.toNat) (0,false,0,0,false,[],())).2.2.2.2.1,(t13.getD (t15.toNat) (0,false,0,0,false,[],())).2.2.2.2.2.1,())).bind fun u6=>
   R3 t1 t2 true t13 t14 (AZ (t15+1)) AU AG Aq Ck u6.1.1.1 u6.1.1.2.1 u6.1.1.2.2.1 u6.1.1.2.2.2.1)
  ((Qq (Cj,Bj,El,Gq,()) ((t13.getD (t15.toNat) (0,false,0,0,false,[],())).2.2.1,(t13.getD (t15.toNat) (0,false,0,0,false,[],())).2.2.2.1,(t13.getD (t15.toNat) (0,false,0,0,false,[],())).2.2.2.2.1,(t13.getD (t15.toNat) (0,false,0,0,false,[],())).2.2.2.2.2.1,())).bind fun u7=>
  R3 t1 t2 true t13 t14 (AZ (t15+1)) AU AG Aq Ck u7.1.1.1 u7.1.1.2.1 u7.1.1.2.2.1 u7.1.1.2.2.2.1))))))else none)
 (some ((((Cj,Bj,El,Gq,()),t9,()),()),()))
def N7:Nat→XU
 |0=>fun _ _ _ _ _ _ _ _ _ _ _ _ _ _=>none
 |n+1=>Yp (N7 n)
def Yw(R3:XU)(p0:ACx)(p1:AAO)(p2:Int):Option Tc:=
 R3 p1 p2 false p0 (p0.length:Int) 0 0 0 false [] 0 0 false []
def X3(p0:ACx)(p1:AAO)(p2:Int):Option Tc:=Yw (N7 Ae) p0 p1 p2
abbrev ec:Type:=ACW×AGJ
def C1(p1:ACx)(p2:AAO)(AU AG:Int)(b1:ADC):Option ec:=
 (Dl AU AG).bind fun u1=>
 (X3 p1 p2 u1.1.1.1).bind fun u2=>
 cond (!u2.1.1.2.1)
  ((E9 (3,u1.1.1.1,[],()) AU AG b1).bind fun u3=>
  some (((()),()),((u3.2.1.1,AZ (u3.2.1.2.1+1),(),()),(),u3.2.2.2.1,())))
 (cond (u2.1.1.1.2.2.1)
  ((E9 (2,u1.1.1.1,[],()) AU AG b1).bind fun u4=>
  some (((()),()),((u4.2.1.1,AZ (u4.2.1.2.1+1),(),()),(),u4.2.2.2.1,())))
 ((E9 (1,u1.1.1.1,u2.1.1.1.2.2.2.1,()) AU AG b1).bind fun u5=>
 some (((()),()),((u5.2.1.1,AZ (u5.2.1.2.1+1),(),()),(),u5.2.2.2.1,()))))
abbrev J_:Type:=(AGK×Unit)×AFJ
def Jp(p0:AA9)(p1:ABr)(p2:Int)(p3:AC8)(p4:ACx):Option J_:=
 (Ke (p0.1,p0.2.1,()) (p1.1,p1.2.1,())).bind fun u1=>
 cond (!u1.1.1)
  (some ((((0,0,(),()),1,()),()),([],())))
 ((Tk (p3.1,p3.2.1,p3.2.2.1,())).bind fun u2=>
 cond (!u2.1.1)
  (some ((((0,0,(),()),1,()),()),([],())))
 ((Od p4).bind fun u3=>
 (D3 (p0.1,p0.2.1,()) u3.2.1).bind fun u4=>
 cond (!u4.1.1)
  (some ((((0,0,(),()),1,()),()),([],())))
 ((MU (p3.1,p3.2.1,p3.2.2.1,())).bind fun u5=>
 cond ((decide (p3.1>(p1.1.length:Int))))
  (some ((((u5.1.1.1,u5.1.1.2.1,(),()),2,()),()),(u5.2.1,())))
 (cond ((p3.2.2.1.length:Int)==120)
  (some ((((u5.1.1.1,u5.1.1.2.1,(),()),2,()),()),(u5.2.1,())))
 (cond (decide (p1.2.1>0))
  ((KQ p1.2.1 (p3.1,p3.2.1,p3.2.2.1,())).bind fun u8=>
  cond (!u8.1.1)
   ((E9 (5,p1.2.1,[],()) u5.1.1.1 u5.1.1.2.1 u5.2.1).bind fun u9=>
   (E7 p1.2.1).bind fun ED=>
   (TH p1.2.1).bind fun N9=>
   some ((((ED.1.1,AZ (N9.1.1+1),(),()),0,()),()),(u9.2.2.2.1,())))
  (if(0:Int)≤AZ (p3.1-1)∧AZ (p3.1-1)<(p1.1.length:Int)then(
  (Od p4).bind fun aL=>
  (Mp aL.2.1 ((p1.1.getD ((AZ (p3.1-1)).toNat) ([],false,0,())).1)).bind fun WL=>
  cond (((p1.1.getD ((AZ (p3.1-1)).toNat) ([],false,0,())).2.1))
   (cond ((decide (p3.2.1>((p1.1.getD ((AZ (p3.1-1)).toNat) ([],false,0,())).2.2.1))))
    ((E9 (4,AZ (p3.1+1),[],()) u5.1.1.1 u5.1.1.2.1 u5.2.1).bind fun jg=>
    some ((((AZ (p3.1+1),1,(),()),0,()),()),(jg.2.2.2.1,())))
   (cond (!((p1.1.getD ((AZ (p3.1-1)).toNat) ([],false,0,())).2.1))
    (cond (decide (p3.2.1>p2))
     (some ((((u5.1.1.1,u5.1.1.2.1,(),()),2,()),()),(u5.2.1,())))
    (cond (decide (p3.2.1>60))
     (some ((((u5.1.1.1,u5.1.1.2.1,(),()),2,()),()),(u5.2.1,())))
    ((Gw (p0.1,p0.2.1,()) ((p1.1.getD ((AZ (p3.1-1)).toNat) ([],false,0,())).1) WL.2.1).bind fun j5=>
    cond (!j5.1.1)
     (some ((((u5.1.1.1,u5.1.1.2.1,(),()),3,()),()),(u5.2.1,())))
    ((C1 p4 WL.2.1 u5.1.1.1 u5.1.1.2.1 u5.2.1).bind fun SV=>
    some ((((SV.2.1.1,SV.2.1.2.1,(),()),0,()),()),(SV.2.2.2.1,()))))))
   (cond (decide (p3.2.1>60))
    (some ((((u5.1.1.1,u5.1.1.2.1,(),()),2,()),()),(u5.2.1,())))
   ((Gw (p0.1,p0.2.1,()) ((p1.1.getD ((AZ (p3.1-1)).toNat) ([],false,0,())).1) WL.2.1).bind fun lj=>
   cond (!lj.1.1)
    (some ((((u5.1.1.1,u5.1.1.2.1,(),()),3,()),()),(u5.2.1,())))
   ((C1 p4 WL.2.1 u5.1.1.1 u5.1.1.2.1 u5.2.1).bind fun u22=>
   some ((((u22.2.1.1,u22.2.1.2.1,(),()),0,()),()),(u22.2.2.2.1,())))))))
  (cond (!((p1.1.getD ((AZ (p3.1-1)).toNat) ([],false,0,())).2.1))
   (cond (decide (p3.2.1>p2))
    (some ((((u5.1.1.1,u5.1.1.2.1,(),()),2,()),()),(u5.2.1,())))
   (cond (decide (p3.2.1>60))
    (some ((((u5.1.1.1,u5.1.1.2.1,(),()),2,()),()),(u5.2.1,())))
   ((Gw (p0.1,p0.2.1,()) ((p1.1.getD ((AZ (p3.1-1)).toNat) ([],false,0,())).1) WL.2.1).bind fun Xj=>
   cond (!Xj.1.1)
    (some ((((u5.1.1.1,u5.1.1.2.1,(),()),3,()),()),(u5.2.1,())))
   ((C1 p4 WL.2.1 u5.1.1.1 u5.1.1.2.1 u5.2.1).bind fun fP=>
   some ((((fP.2.1.1,fP.2.1.2.1,(),()),0,()),()),(fP.2.2.2.1,()))))))
  (cond (decide (p3.2.1>60))
   (some ((((u5.1.1.1,u5.1.1.2.1,(),()),2,()),()),(u5.2.1,())))
  ((Gw (p0.1,p0.2.1,()) ((p1.1.getD ((AZ (p3.1-1)).toNat) ([],false,0,())).1) WL.2.1).bind fun nU=>
  cond (!nU.1.1)
   (some ((((u5.1.1.1,u5.1.1.2.1,(),()),3,()),()),(u5.2.1,())))
  ((C1 p4 WL.2.1 u5.1.1.1 u5.1.1.2.1 u5.2.1).bind fun vS=>
  some ((((vS.2.1.1,vS.2.1.2.1,(),()),0,()),()),(vS.2.2.2.1,())))))))else none))
 (if(0:Int)≤AZ (p3.1-1)∧AZ (p3.1-1)<(p1.1.length:Int)then(
 (Od p4).bind fun Xh=>
 (Mp Xh.2.1 ((p1.1.getD ((AZ (p3.1-1)).toNat) ([],false,0,())).1)).bind fun sI=>
 cond (((p1.1.getD ((AZ (p3.1-1)).toNat) ([],false,0,())).2.1))
  (cond ((decide (p3.2.1>((p1.1.getD ((AZ (p3.1-1)).toNat) ([],false,0,())).2.2.1))))
   ((E9 (4,AZ (p3.1+1),[],()) u5.1.1.1 u5.1.1.2.1 u5.2.1).bind fun ld=>
   some ((((AZ (p3.1+1),1,(),()),0,()),()),(ld.2.2.2.1,())))
  (cond (!((p1.1.getD ((AZ (p3.1-1)).toNat) ([],false,0,())).2.1))
   (cond (decide (p3.2.1>p2))
    (some ((((u5.1.1.1,u5.1.1.2.1,(),()),2,()),()),(u5.2.1,())))
   (cond (decide (p3.2.1>60))
    (some ((((u5.1.1.1,u5.1.1.2.1,(),()),2,()),()),(u5.2.1,())))
   ((Gw (p0.1,p0.2.1,()) ((p1.1.getD ((AZ (p3.1-1)).toNat) ([],false,0,())).1) sI.2.1).bind fun u35=>
   cond (!u35.1.1)
    (some ((((u5.1.1.1,u5.1.1.2.1,(),()),3,()),()),(u5.2.1,())))
   ((C1 p4 sI.2.1 u5.1.1.1 u5.1.1.2.1 u5.2.1).bind fun u36=>
   some ((((u36.2.1.1,u36.2.1.2.1,(),()),0,()),()),(u36.2.2.2.1,()))))))
  (cond (decide (p3.2.1>60))
   (some ((((u5.1.1.1,u5.1.1.2.1,(),()),2,()),()),(u5.2.1,())))
  ((Gw (p0.1,p0.2.1,()) ((p1.1.getD ((AZ (p3.1-1)).toNat) ([],false,0,())).1) sI.2.1).bind fun mC=>
  cond (!mC.1.1)
   (some ((((u5.1.1.1,u5.1.1.2.1,(),()),3,()),()),(u5.2.1,())))
  ((C1 p4 sI.2.1 u5.1.1.1 u5.1.1.2.1 u5.2.1).bind fun u38=>
  some ((((u38.2.1.1,u38.2.1.2.1,(),()),0,()),()),(u38.2.2.2.1,())))))))
 (cond (!((p1.1.getD ((AZ (p3.1-1)).toNat) ([],false,0,())).2.1))
  (cond (decide (p3.2.1>p2))
   (some ((((u5.1.1.1,u5.1.1.2.1,(),()),2,()),()),(u5.2.1,())))
  (cond (decide (p3.2.1>60))
   (some ((((u5.1.1.1,u5.1.1.2.1,(),()),2,()),()),(u5.2.1,())))
  ((Gw (p0.1,p0.2.1,()) ((p1.1.getD ((AZ (p3.1-1)).toNat) ([],false,0,())).1) sI.2.1).bind fun u40=>
  cond (!u40.1.1)
   (some ((((u5.1.1.1,u5.1.1.2.1,(),()),3,()),()),(u5.2.1,())))
  ((C1 p4 sI.2.1 u5.1.1.1 u5.1.1.2.1 u5.2.1).bind fun u41=>
  some ((((u41.2.1.1,u41.2.1.2.1,(),()),0,()),()),(u41.2.2.2.1,()))))))
 (cond (decide (p3.2.1>60))
  (some ((((u5.1.1.1,u5.1.1.2.1,(),()),2,()),()),(u5.2.1,())))
 ((Gw (p0.1,p0.2.1,()) ((p1.1.getD ((AZ (p3.1-1)).toNat) ([],false,0,())).1) sI.2.1).bind fun u42=>
 cond (!u42.1.1)
  (some ((((u5.1.1.1,u5.1.1.2.1,(),()),3,()),()),(u5.2.1,())))
 ((C1 p4 sI.2.1 u5.1.1.1 u5.1.1.2.1 u5.2.1).bind fun u43=>
 some ((((u43.2.1.1,u43.2.1.2.1,(),()),0,()),()),(u43.2.2.2.1,())))))))else none))))))
abbrev KC:Type:=ABN×ADI
abbrev QJ:Type:=Int→Int→Int→Int→Int→Int→Bool→List Int→AAP→List Int→AAS→AAr→AAv→AAs→AAk→Int→Int→ADC→ACx→List Int→Option KC
def NA(R7:QJ)(t1 t8 t44 t45 AG AW:Int)(AL:Bool)(b1:AAO)(b2:AAP)(b3:AAO)(b4:AAS)(b5:AAr)(b6:AAv)(b7:AAs)(b8:AAk)(iG Dx:Int)(dq:ADC)(Jc:ACx)(FV:AAO):Option KC:=
 cond (decide (t45<t44))
  (if(0:Int)≤t45∧t45<(FV.length:Int)then(
  let x8:Int:=(FV.getD (t45.toNat) 0)
  cond ((decide (x8<(b2.length:Int))))
   ((C3 (b1,AG,b2,b3,b4,AW,b5,b6,b7,b8,AL,()) x8).bind fun ED=>
   cond (!ED.1.1)
    (if(0:Int)≤x8∧x8<(b2.length:Int)then(
    (GQ ((b2.getD (x8.toNat) ([],[],0,())).1,(b2.getD (x8.toNat) ([],[],0,())).2.1,(b2.getD (x8.toNat) ([],[],0,())).2.2.1,()) t8).bind fun N9=>
    if Jc.length+1≤Dr then(
    R7 t1 t8 t44 (AZ (t45+1)) AG AW AL b1 b2 b3 b4 b5 b6 b7 b8 iG Dx dq (Jc++[(x8,N9.1.1.2.1,N9.1.1.1.1,N9.1.1.1.2.1,N9.1.1.1.2.2.1,N9.1.1.1.2.2.2.1,())]) FV)else none)else none)
   (R7 t1 t8 t44 (AZ (t45+1)) AG AW AL b1 b2 b3 b4 b5 b6 b7 b8 iG Dx dq Jc FV))
  (R7 t1 t8 t44 (AZ (t45+1)) AG AW AL b1 b2 b3 b4 b5 b6 b7 b8 iG Dx dq Jc FV))else none)
 ((Qi (b1,AG,b2,b3,b4,AW,b5,b6,b7,b8,AL,()) iG).bind fun WL=>
 (Jp (b1,AG,()) (b4,AW,()) WL.1.1 (iG,Dx,dq,()) Jc).bind fun VH=>
 cond (VH.1.1.2.1 !=0)
  (some ((5,()),(((),AG,(),(),(),AW,(),(),(),(),AL,()),b1,b2,b3,b4,b5,b6,b7,b8,())))
 (if(0:Int)≤t1∧t1<(b7.length:Int)then(
 some ((0,()),(((),AG,(),(),(),AW,(),(),(),(),AL,()),b1,b2,b3,b4,b5,b6,(b7.set (t1.toNat) (VH.1.1.1.1,VH.1.1.1.2.1,VH.2.1,())),b8,())))else none))
def C5:Nat→QJ
 |0=>fun _ _ _ _ _ _ _ _ _ _ _ _ _ _ _ _ _ _ _ _=>none
 |n+1=>NA (C5 n)
def M5(R7:QJ)(p1 p2 AG AW:Int)(AL:Bool)(b1:AAO)(b2:AAP)(b3:AAO)(b4:AAS)(b5:AAr)(b6:AAv)(b7:AAs)(b8:AAk):Option KC:=
 (A5 p1 0 (AZ ((b7.length:Int)-1))).bind fun u2=>
 cond (!u2.1.1)
  (some ((2,()),(((),AG,(),(),(),AW,(),(),(),(),AL,()),b1,b2,b3,b4,b5,b6,b7,b8,())))
 (if(0:Int)≤p1∧p1<(b7.length:Int)then(
 (Dl ((b7.getD (p1.toNat) (0,0,[],())).1) ((b7.getD (p1.toNat) (0,0,[],())).2.1)).bind fun u5=>
 (Hc p2).bind fun u6=>
 R7 p1 u5.1.1.1 (u6.2.1.length:Int) 0 AG AW AL b1 b2 b3 b4 b5 b6 b7 b8 ((b7.getD (p1.toNat) (0,0,[],())).1) ((b7.getD (p1.toNat) (0,0,[],())).2.1) ((b7.getD (p1.toNat) (0,0,[],())).2.2.1) [] u6.2.1)else none)
def MW(p1 p2 AG AW:Int)(AL:Bool)(b1:AAO)(b2:AAP)(b3:AAO)(b4:AAS)(b5:AAr)(b6:AAv)(b7:AAs)(b8:AAk):Option KC:=M5 (C5 Ae) p1 p2 AG AW AL b1 b2 b3 b4 b5 b6 b7 b8
abbrev YD:Type:=((List UInt8×Bool×Unit)×Unit)×Unit
abbrev bH:Type:=Int→ADC→Int→Int→Option YD
def bl(R2:bH)(t1:Int)(t9:ADC)(t10 t11:Int):Option YD:=
 cond (decide (t11<t10))
  (if(0:Int)≤t11∧t11<(t9.length:Int)then(
  cond (((t9.getD (t11.toNat) (0,0,[],())).1)==1)
   (cond (((t9.getD (t11.toNat) (0,0,[],())).2.1)==t1)
    (some (((((t9.getD (t11.toNat) (0,0,[],())).2.2.1),true,()),()),()))
   (R2 t1 t9 t10 (AZ (t11+1))))
  (R2 t1 t9 t10 (AZ (t11+1))))else none)
 (some ((([],false,()),()),()))
def RQ:Nat→bH
 |0=>fun _ _ _ _=>none
 |n+1=>bl (RQ n)
def bj(R2:bH)(p0:AC8)(p1:Int):Option YD:=
 R2 p1 p0.2.2.1 (p0.2.2.1.length:Int) 0
def aF(p0:AC8)(p1:Int):Option YD:=bj (RQ Ae) p0 p1
abbrev F6:Type:=ABG×Unit
abbrev NX:Type:=AAs→Int→Int→List Int→Int→AAP→List Int→AAS→Int→AAr→AAv→AAs→AAk→Bool→Option F6
abbrev NW:Type:=AAs→Int→Int→ADC→Int→Int→List Int→Int→AAP→List Int→AAS→Int→AAr→AAv→AAs→AAk→Bool→Option F6
def OV(R4:NX)(R7:NW)(t22:AAs)(t23 t24:Int)(AU:AAO)(AG:Int)(Aq:AAP)(Ck:AAO)(DJ:AAS)(AW:Int)(DH:AAr)(DC:AAv)(DD:AAs)(EU:AAk)(AL:Bool):Option F6:=
 cond (decide (t24<t23))
  (if(0:Int)≤t24∧t24<(t22.length:Int)then(
  R7 t22 t23 t24 ((t22.getD (t24.toNat) (0,0,[],())).2.2.1) (((t22.getD (t24.toNat) (0,0,[],())).2.2.1).length:Int) 0 AU AG Aq Ck DJ AW DH DC DD EU AL)else none)
 (some ((true,()),()))
def Ns(R4:NX)(R7:NW)(t22:AAs)(t23 t24:Int)(t29:ADC)(t30 t31:Int)(AU:AAO)(AG:Int)(Aq:AAP)(Ck:AAO)(DJ:AAS)(AW:Int)(DH:AAr)(DC:AAv)(DD:AAs)(EU:AAk)(AL:Bool):Option F6:=
 cond (decide (t31<t30))
  (if(0:Int)≤t31∧t31<(t29.length:Int)then(
  (Dh ((t29.getD (t31.toNat) (0,0,[],())).2.1)).bind fun u8=>
  cond (u8.1.1)
   (if(0:Int)≤(0:Int)∧(0:Int)<(DD.length:Int)then(
   (KQ ((t29.getD (t31.toNat) (0,0,[],())).2.1) ((DD.getD 0 (0,0,[],())).1,(DD.getD 0 (0,0,[],())).2.1,(DD.getD 0 (0,0,[],())).2.2.1,())).bind fun ED=>
   cond (ED.1.1)
    (if(0:Int)≤(1:Int)∧(1:Int)<(DD.length:Int)then(
    (KQ ((t29.getD (t31.toNat) (0,0,[],())).2.1) ((DD.getD 1 (0,0,[],())).1,(DD.getD 1 (0,0,[],())).2.1,(DD.getD 1 (0,0,[],())).2.2.1,())).bind fun aL=>
    cond (((t29.getD (t31.toNat) (0,0,[],())).1) !=1)
     (R7 t22 t23 t24 t29 t30 (AZ (t31+1)) AU AG Aq Ck DJ AW DH DC DD EU AL)
    (cond (decide (((t29.getD (t31.toNat) (0,0,[],())).2.1)≤AW))
     (R7 t22 t23 t24 t29 t30 (AZ (t31+1)) AU AG Aq Ck DJ AW DH DC DD EU AL)
    (cond (!aL.1.1)
     (R7 t22 t23 t24 t29 t30 (AZ (t31+1)) AU AG Aq Ck DJ AW DH DC DD EU AL)
    (if(0:Int)≤(0:Int)∧(0:Int)<(DD.length:Int)then(
    (aF ((DD.getD 0 (0,0,[],())).1,(DD.getD 0 (0,0,[],())).2.1,(DD.getD 0 (0,0,[],())).2.2.1,()) ((t29.getD (t31.toNat) (0,0,[],())).2.1)).bind fun u16=>
    if(0:Int)≤(1:Int)∧(1:Int)<(DD.length:Int)then(
    (aF ((DD.getD 1 (0,0,[],())).1,(DD.getD 1 (0,0,[],())).2.1,(DD.getD 1 (0,0,[],())).2.2.1,()) ((t29.getD (t31.toNat) (0,0,[],())).2.1)).bind fun nf=>
    cond ((u16.1.1.2.1 !=nf.1.1.2.1))
     (some ((false,()),()))
    (cond ((!(u16.1.1.1==nf.1.1.1)))
     (some ((false,()),()))
    (R7 t22 t23 t24 t29 t30 (AZ (t31+1)) AU AG Aq Ck DJ AW DH DC DD EU AL)))else none)else none))))else none)
   (cond (((t29.getD (t31.toNat) (0,0,[],())).1) !=1)
    (R7 t22 t23 t24 t29 t30 (AZ (t31+1)) AU AG Aq Ck DJ AW DH DC DD EU AL)
   (cond (decide (((t29.getD (t31.toNat) (0,0,[],())).2.1)≤AW))
    (R7 t22 t23 t24 t29 t30 (AZ (t31+1)) AU AG Aq Ck DJ AW DH DC DD EU AL)
   (R7 t22 t23 t24 t29 t30 (AZ (t31+1)) AU AG Aq Ck DJ AW DH DC DD EU AL))))else none)
  (cond (((t29.getD (t31.toNat) (0,0,[],())).1) !=1)
   (R7 t22 t23 t24 t29 t30 (AZ (t31+1)) AU AG Aq Ck DJ AW DH DC DD EU AL)
  (cond (decide (((t29.getD (t31.toNat) (0,0,[],())).2.1)≤AW))
   (R7 t22 t23 t24 t29 t30 (AZ (t31+1)) AU AG Aq Ck DJ AW DH DC DD EU AL)
  (R7 t22 t23 t24 t29 t30 (AZ (t31+1)) AU AG Aq Ck DJ AW DH DC DD EU AL))))else none)
 (R4 t22 t23 (AZ (t24+1)) AU AG Aq Ck DJ AW DH DC DD EU AL)
mutual
def FO:Nat→NX
 |0=>fun _ _ _ _ _ _ _ _ _ _ _ _ _ _=>none
 |n+1=>OV (FO n) (Gl n)
def Gl:Nat→NW
 |0=>fun _ _ _ _ _ _ _ _ _ _ _ _ _ _ _ _ _=>none
 |n+1=>Ns (FO n) (Gl n)
end
def UX(R4:NX)(R7:NW)(p0:ABF):Option F6:=
 (IP (p0.1,p0.2.1,p0.2.2.1,p0.2.2.2.1,p0.2.2.2.2.1,p0.2.2.2.2.2.1,p0.2.2.2.2.2.2.1,p0.2.2.2.2.2.2.2.1,p0.2.2.2.2.2.2.2.2.1,p0.2.2.2.2.2.2.2.2.2.1,p0.2.2.2.2.2.2.2.2.2.2.1,())).bind fun u1=>
 cond (!u1.1.1)
  ((IP (p0.1,p0.2.1,p0.2.2.1,p0.2.2.2.1,p0.2.2.2.2.1,p0.2.2.2.2.2.1,p0.2.2.2.2.2.2.1,p0.2.2.2.2.2.2.2.1,p0.2.2.2.2.2.2.2.2.1,p0.2.2.2.2.2.2.2.2.2.1,p0.2.2.2.2.2.2.2.2.2.2.1,())).bind fun u2=>
  some ((u2.1.1,()),()))
 (cond (p0.2.2.2.2.2.2.2.2.2.2.1)
  ((IP (p0.1,p0.2.1,p0.2.2.1,p0.2.2.2.1,p0.2.2.2.2.1,p0.2.2.2.2.2.1,p0.2.2.2.2.2.2.1,p0.2.2.2.2.2.2.2.1,p0.2.2.2.2.2.2.2.2.1,p0.2.2.2.2.2.2.2.2.2.1,p0.2.2.2.2.2.2.2.2.2.2.1,())).bind fun u4=>
  some ((u4.1.1,()),()))
 (R4 p0.2.2.2.2.2.2.2.2.1 (p0.2.2.2.2.2.2.2.2.1.length:Int) 0 p0.1 p0.2.1 p0.2.2.1 p0.2.2.2.1 p0.2.2.2.2.1 p0.2.2.2.2.2.1 p0.2.2.2.2.2.2.1 p0.2.2.2.2.2.2.2.1 p0.2.2.2.2.2.2.2.2.1 p0.2.2.2.2.2.2.2.2.2.1 p0.2.2.2.2.2.2.2.2.2.2.1))
def K4(p0:ABF):Option F6:=UX (FO Ae) (Gl Ae) p0
abbrev qz:Type:=ABN×Unit
def Yt(p0:AAO)(p1 p2:Int):Option qz:=
 let x1:Int:=AZ ((p0.length:Int).tdiv 4)
 cond ((decide ((AZ (p1+x1))>p2)))
  (some ((p2,()),()))
 (some ((AZ (p1+x1),()),()))
abbrev Vn:Type:=ABG×Unit
abbrev ZY:Type:=List Int→Int→Int→Int→Option Vn
def TE(R2:ZY)(t0:AAO)(t1 t2 t7:Int):Option Vn:=
 cond ((decide (t7<(t0.length:Int))))
  (if(0:Int)≤t7∧t7<(t0.length:Int)then(
  (CG (t0.getD (t7.toNat) 0) t1 t2).bind fun u3=>
  cond (!u3.1.1)
   (some ((false,()),()))
  (cond (decide (t7>0))
   (if(0:Int)≤AZ (t7-1)∧AZ (t7-1)<(t0.length:Int)then(
   if(0:Int)≤t7∧t7<(t0.length:Int)then(
   cond (decide ((t0.getD ((AZ (t7-1)).toNat) 0)≥(t0.getD (t7.toNat) 0)))
    (some ((false,()),()))
   (R2 t0 t1 t2 (AZ (t7+1))))else none)else none)
  (R2 t0 t1 t2 (AZ (t7+1)))))else none)
 (some ((true,()),()))
def Mx:Nat→ZY
 |0=>fun _ _ _ _=>none
 |n+1=>TE (Mx n)
def Z0(R2:ZY)(p0:AAO)(p1 p2:Int):Option Vn:=
 R2 p0 p1 p2 0
def XC(p0:AAO)(p1 p2:Int):Option Vn:=Z0 (Mx Ae) p0 p1 p2
abbrev oF:Type:=ABG×Unit
def GY(p0:AA9)(p1:AAO):Option oF:=
 (GO (p0.1,p0.2.1,())).bind fun u1=>
 cond (u1.1.1)
  ((XC p1 0 (AZ ((p0.1.length:Int)-1))).bind fun u3=>
  some ((u3.1.1,()),()))
 (some ((false,()),()))
abbrev Th:Type:=ABN×Unit
abbrev Wi:Type:=List Int→Int→Int→List Int→Int→List Bool→Option Th
def YR(R4:Wi)(t1:AAO)(t6 t7:Int)(AU:AAO)(AG:Int)(b1:List Bool):Option Th:=
 cond ((decide (t7<(t1.length:Int))))
  (if(0:Int)≤t7∧t7<(t1.length:Int)then(
  let x3:Int:=(t1.getD (t7.toNat) 0)
  if(0:Int)≤x3∧x3<(AU.length:Int)then(
  let x4:Int:=(AU.getD (x3.toNat) 0)
  if(0:Int)≤x4∧x4<(b1.length:Int)then(
  cond (!(b1.getD (x4.toNat) false))
   (if(0:Int)≤x4∧x4<(b1.length:Int)then(
   R4 t1 (AZ (t6+1)) (AZ (t7+1)) AU AG (b1.set (x4.toNat) true))else none)
  (R4 t1 t6 (AZ (t7+1)) AU AG b1))else none)else none)else none)
 (some ((t6,()),()))
def OA:Nat→Wi
 |0=>fun _ _ _ _ _ _=>none
 |n+1=>YR (OA n)
def X1(R4:Wi)(p0:AA9)(p1:AAO):Option Th:=
 R4 p1 0 0 p0.1 p0.2.1 (List.replicate 8 false)
def T9(p0:AA9)(p1:AAO):Option Th:=X1 (OA Ae) p0 p1
abbrev jE:Type:=ABG×Unit
def FL(p0:AA9)(p1:AAO):Option jE:=
 (GY (p0.1,p0.2.1,()) p1).bind fun u1=>
 cond (u1.1.1)
  ((T9 (p0.1,p0.2.1,()) p1).bind fun u2=>
  some (((decide (u2.1.1≥p0.2.1)),()),()))
 (some ((false,()),()))
abbrev j4:Type:=AF6×AFJ
def XO:Option j4:=
 some (((1,1,(),()),()),([],()))
abbrev mT:Type:=((ADJ×Bool×Unit)×Unit)×ADD
def HP(p0:AA9):Option mT:=
 (GO (p0.1,p0.2.1,())).bind fun u1=>
 cond (!u1.1.1)
  (some (((((),0,(),(),(),0,(),(),(),(),false,()),false,()),()),([],[],[],[],[],[],[],[],())))
 (if 0+p0.1.length≤Dr then(
 if(0:Int)≤(p0.1.length:Int)∧(p0.1.length:Int)≤(p0.1.length:Int)∧(p0.1.length:Int)≤(Dr:Int)then(
 (XO).bind fun u3=>
 (XO).bind fun u4=>
 some (((((),p0.2.1,(),(),(),0,(),(),(),(),false,()),true,()),()),(p0.1,(List.replicate ((p0.1.length:Int).toNat) ([],[],0,())),[],[],[],[],[(u3.1.1.1,u3.1.1.2.1,u3.2.1,()),(u4.1.1.1,u4.1.1.2.1,u4.2.1,())],[],())))else none)else none)
abbrev vL:Type:=ABN×Unit
def MP(p0 p1:Int):Option vL:=
 cond (decide (p0>p1))
  (some ((p0,()),()))
 (some ((p1,()),()))
abbrev Gg:Type:=ABG×Unit
abbrev Yy:Type:=List Int→Int→Int→Option Gg
def Zw(R2:Yy)(t0:AAO)(t1 t5:Int):Option Gg:=
 cond ((decide (t5<(t0.length:Int))))
  (if(0:Int)≤t5∧t5<(t0.length:Int)then(
  cond ((t0.getD (t5.toNat) 0)==t1)
   (some ((true,()),()))
  (R2 t0 t1 (AZ (t5+1))))else none)
 (some ((false,()),()))
def PW:Nat→Yy
 |0=>fun _ _ _=>none
 |n+1=>Zw (PW n)
def Zu(R2:Yy)(p0:AAO)(p1:Int):Option Gg:=
 R2 p0 p1 0
def DG(p0:AAO)(p1:Int):Option Gg:=Zu (PW Ae) p0 p1
abbrev V5:Type:=ACW×ACj
abbrev ZU:Type:=List Int→Int→Bool→Int→List Int→Option V5
def S6(R4:ZU)(t0:AAO)(t1:Int)(t6:Bool)(t7:Int)(b0:AAO):Option V5:=
 cond ((decide (t7<(t0.length:Int))))
  (cond (!t6)
   (if(0:Int)≤t7∧t7<(t0.length:Int)then(
   cond (decide ((t0.getD (t7.toNat) 0)>t1))
    (if b0.length+1≤Dr then(
    if(0:Int)≤t7∧t7<(t0.length:Int)then(
    if(b0++[t1]).length+1≤Dr then(
    R4 t0 t1 true (AZ (t7+1)) ((b0++[t1])++[(t0.getD (t7.toNat) 0)]))else none)else none)else none)
   (if(0:Int)≤t7∧t7<(t0.length:Int)then(
   if b0.length+1≤Dr then(
   R4 t0 t1 t6 (AZ (t7+1)) (b0++[(t0.getD (t7.toNat) 0)]))else none)else none))else none)
  (if(0:Int)≤t7∧t7<(t0.length:Int)then(
  if b0.length+1≤Dr then(
  R4 t0 t1 t6 (AZ (t7+1)) (b0++[(t0.getD (t7.toNat) 0)]))else none)else none))
 (cond (!t6)
  (if b0.length+1≤Dr then(
  some (((),()),(b0++[t1],())))else none)
 (some (((),()),(b0,()))))
def Kc:Nat→ZU
 |0=>fun _ _ _ _ _=>none
 |n+1=>S6 (Kc n)
def Zo(R4:ZU)(p0:AAO)(p1:Int):Option V5:=
 (DG p0 p1).bind fun u1=>
 R4 p0 p1 u1.1.1 0 []
def Lu(p0:AAO)(p1:Int):Option V5:=Zo (Kc Ae) p0 p1
abbrev Lw:Type:=ACW×AF_
abbrev PQ:Type:=Int→Int→List Int→Int→Int→List Int→Int→List Int→Option Lw
def RJ(R4:PQ)(t6 t7:Int)(AU:AAO)(AG Aq:Int)(Cj:AAO)(Bj:Int)(b2:AAO):Option Lw:=
 cond (decide (t7<t6))
  ((MP (Cj.length:Int) 1).bind fun u3=>
  (Ak u3.1.1 AU AG Aq).bind fun u4=>
  (Lu b2 u4.1.1).bind fun u5=>
  R4 t6 (AZ (t7+1)) u4.2.1.1 u4.2.1.2.1 u4.2.1.2.2.1 Cj Bj u5.2.1)
 ((B4 20 AU AG Aq).bind fun u6=>
 cond (u6.1.1)
  ((OB [(-1),0,(Cj.length:Int)] u6.2.1.1 u6.2.1.2.1 u6.2.1.2.2.1).bind fun u7=>
  if b2.length+1≤Dr then(
  some (((),()),((u7.2.1.1,u7.2.1.2.1,u7.2.1.2.2.1,()),b2++[u7.1.1],())))else none)
 (some (((),()),((u6.2.1.1,u6.2.1.2.1,u6.2.1.2.2.1,()),b2,()))))
def IF:Nat→PQ
 |0=>fun _ _ _ _ _ _ _ _=>none
 |n+1=>RJ (IF n)
def RO(R4:PQ)(p1:AA9)(AU:AAO)(AG Aq:Int):Option Lw:=
 (Ak (AZ ((p1.1.length:Int)+2)) AU AG Aq).bind fun u2=>
 R4 u2.1.1 0 u2.2.1.1 u2.2.1.2.1 u2.2.1.2.2.1 p1.1 p1.2.1 []
def Om(p1:AA9)(AU:AAO)(AG Aq:Int):Option Lw:=RO (IF Ae) p1 AU AG Aq
abbrev O8:Type:=ACW×AF_
abbrev Ru:Type:=Int→List Int→Int→Int→List Int→Int→List Int→Option O8
def UW(R3:Ru)(t6:Int)(AU:AAO)(AG Aq:Int)(Cj:AAO)(Bj:Int)(b2:AAO):Option O8:=
 cond ((decide (t6<(Cj.length:Int))))
  ((FL (Cj,Bj,()) b2).bind fun u3=>
  cond (!u3.1.1)
   ((Lu b2 t6).bind fun u4=>
   R3 (AZ (t6+1)) AU AG Aq Cj Bj u4.2.1)
  (some (((),()),((AU,AG,Aq,()),b2,()))))
 (some (((),()),((AU,AG,Aq,()),b2,())))
def J9:Nat→Ru
 |0=>fun _ _ _ _ _ _ _=>none
 |n+1=>UW (J9 n)
def UL(R3:Ru)(p1:AA9)(AU:AAO)(AG Aq:Int):Option O8:=
 (Om (p1.1,p1.2.1,()) AU AG Aq).bind fun u1=>
 R3 0 u1.2.1.1 u1.2.1.2.1 u1.2.1.2.2.1 p1.1 p1.2.1 u1.2.2.1
def Ll(p1:AA9)(AU:AAO)(AG Aq:Int):Option O8:=UL (J9 Ae) p1 AU AG Aq
abbrev O9:Type:=ABN×Unit
abbrev RP:Type:=List Int→Int→Int→Option O9
def Uq(R5:RP)(t0:AAO)(t3 t4:Int):Option O9:=
 cond ((decide (t4<(t0.length:Int))))
  (if(0:Int)≤t4∧t4<(t0.length:Int)then(
  let x3:Int:=(t0.getD (t4.toNat) 0)
  if x3<0 then none else(
  R5 t0 (bOr .i64 t3 (AZ (1*2^(min x3.toNat 64)))) (AZ (t4+1))))else none)
 (some ((t3,()),()))
def KB:Nat→RP
 |0=>fun _ _ _=>none
 |n+1=>Uq (KB n)
def T8(R5:RP)(p0:AAO):Option O9:=
 (XC p0 0 7).bind fun u1=>
 cond (!u1.1.1)
  (some (((-1),()),()))
 (R5 p0 0 0)
def K0(p0:AAO):Option O9:=T8 (KB Ae) p0
abbrev O_:Type:=ABN×Unit
abbrev RD:Type:=Int→AAS→Int→Option O_
def OE(R2:RD)(t3:Int)(AU:AAS)(AG:Int):Option O_:=
 cond ((decide (t3<(AU.length:Int))))
  (if(0:Int)≤t3∧t3<(AU.length:Int)then(
  cond (!((AU.getD (t3.toNat) ([],false,0,())).2.1))
   (some ((AZ (t3+1),()),()))
  (R2 (AZ (t3+1)) AU AG))else none)
 (some ((0,()),()))
def Hy:Nat→RD
 |0=>fun _ _ _=>none
 |n+1=>OE (Hy n)
def UR(R2:RD)(p0:ABr):Option O_:=
 R2 0 p0.1 p0.2.1
def I7(p0:ABr):Option O_:=UR (Hy Ae) p0
abbrev Gu:Type:=ACW×ACj
def CW(p0:ABr)(p1:Int):Option Gu:=
 (CG p1 1 (p0.1.length:Int)).bind fun u1=>
 cond (!u1.1.1)
  (some (((),()),([],())))
 (if(0:Int)≤AZ (p1-1)∧AZ (p1-1)<(p0.1.length:Int)then(
 if 0+((p0.1.getD ((AZ (p1-1)).toNat) ([],false,0,())).1).length≤Dr then(
 some (((),()),(((p0.1.getD ((AZ (p1-1)).toNat) ([],false,0,())).1),())))else none)else none)
abbrev L_:Type:=AF8×ADl
abbrev Nu:Type:=Int→Int→Int→List Int→Int→Int→List Int→Int→AAP→List Int→AAS→Int→AAr→AAv→AAs→AAk→Bool→Int→Int→Int→Int→List UInt8→Int→Int→List Int→AAw→Bool→List AAO→Option L_
def Qr(R16:Nu)(t7 t8 t9:Int)(AU:AAO)(AG Aq:Int)(Cj:AAO)(Bj:Int)(El:AAP)(Gq:AAO)(MF:AAS)(D9:Int)(AP9:AAr)(AQ4:AAv)(ASa:AAs)(ASK:AAk)(E5:Bool)(Zz mh APD AS3:Int)(tf:ACC)(AC6 ux:Int)(AP6:AAO)(AQn:AAw)(ARL:Bool)(ABn:List AAO):Option L_:=
 cond ((decide (t9<(ABn.length:Int))))
  (if(0:Int)≤t9∧t9<(ABn.length:Int)then(
  (FL (Cj,Bj,()) (ABn.getD (t9.toNat) [])).bind fun u22=>
  cond (!u22.1.1)
   ((B4 3 AU AG Aq).bind fun ZH=>
   cond (!ZH.1.1)
    (R16 t7 (AZ (t9+1)) (AZ (t9+1)) ZH.2.1.1 ZH.2.1.2.1 ZH.2.1.2.2.1 Cj Bj El Gq MF D9 AP9 AQ4 ASa ASK E5 Zz mh APD AS3 tf AC6 ux AP6 AQn ARL ABn)
   (R16 t7 t8 (AZ (t9+1)) ZH.2.1.1 ZH.2.1.2.1 ZH.2.1.2.2.1 Cj Bj El Gq MF D9 AP9 AQ4 ASa ASK E5 Zz mh APD AS3 tf AC6 ux AP6 AQn ARL ABn))
  (R16 t7 t8 (AZ (t9+1)) AU AG Aq Cj Bj El Gq MF D9 AP9 AQ4 ASa ASK E5 Zz mh APD AS3 tf AC6 ux AP6 AQn ARL ABn))else none)
 (some (((11,0,t8,t7,[],()),()),((AU,AG,Aq,()),())))
def GC:Nat→Nu
 |0=>fun _ _ _ _ _ _ _ _ _ _ _ _ _ _ _ _ _ _ _ _ _ _ _ _ _ _ _ _=>none
 |n+1=>Qr (GC n)
def RM(R16:Nu)(p1:ABF)(AU:AAO)(AG Aq:Int):Option L_:=
 cond ((p1.2.2.2.2.2.2.2.1.length:Int)==0)
  (some (((8,0,0,0,[],()),()),((AU,AG,Aq,()),())))
 (if(0:Int)≤(0:Int)∧(0:Int)<(p1.2.2.2.2.2.2.2.1.length:Int)then(
 (CW (p1.2.2.2.2.1,p1.2.2.2.2.2.1,()) ((p1.2.2.2.2.2.2.2.1.getD 0 (0,0,[],[],false,[],())).2.1)).bind fun u3=>
 (Ak (u3.2.1.length:Int) AU AG Aq).bind fun u5=>
 if(0:Int)≤u5.1.1∧u5.1.1<(u3.2.1.length:Int)then(
 let x6:Int:=(u3.2.1.getD (u5.1.1.toNat) 0)
 cond (!((p1.2.2.2.2.2.2.2.1.getD 0 (0,0,[],[],false,[],())).2.2.2.2.1))
  ((B4 4 u5.2.1.1 u5.2.1.2.1 u5.2.1.2.2.1).bind fun u8=>
  cond (u8.1.1)
   (some (((10,0,0,0,[],()),()),((u8.2.1.1,u8.2.1.2.1,u8.2.1.2.2.1,()),())))
  (cond (!((p1.2.2.2.2.2.2.2.1.getD 0 (0,0,[],[],false,[],())).2.2.2.2.1))
   (some (((9,x6,0,0,[],()),()),((u8.2.1.1,u8.2.1.2.1,u8.2.1.2.2.1,()),())))
  ((B4 6 u8.2.1.1 u8.2.1.2.1 u8.2.1.2.2.1).bind fun ED=>
  cond (ED.1.1)
   (some (((12,0,0,0,[],()),()),((ED.2.1.1,ED.2.1.2.1,ED.2.1.2.2.1,()),())))
  ((B4 3 ED.2.1.1 ED.2.1.2.1 ED.2.1.2.2.1).bind fun N9=>
  cond (N9.1.1)
   (some (((4,x6,0,0,[],()),()),((N9.2.1.1,N9.2.1.2.1,N9.2.1.2.2.1,()),())))
  ((MP (((p1.2.2.2.2.2.2.2.1.getD 0 (0,0,[],[],false,[],())).2.2.2.2.2.1).length:Int) 1).bind fun WL=>
  (Ak WL.1.1 N9.2.1.1 N9.2.1.2.1 N9.2.1.2.2.1).bind fun VH=>
  R16 x6 (AZ (1+VH.1.1)) 0 VH.2.1.1 VH.2.1.2.1 VH.2.1.2.2.1 p1.1 p1.2.1 p1.2.2.1 p1.2.2.2.1 p1.2.2.2.2.1 p1.2.2.2.2.2.1 p1.2.2.2.2.2.2.1 p1.2.2.2.2.2.2.2.1 p1.2.2.2.2.2.2.2.2.1 p1.2.2.2.2.2.2.2.2.2.1 p1.2.2.2.2.2.2.2.2.2.2.1 0 0 0 0 [] ((p1.2.2.2.2.2.2.2.1.getD 0 (0,0,[],[],false,[],())).1) ((p1.2.2.2.2.2.2.2.1.getD 0 (0,0,[],[],false,[],())).2.1) ((p1.2.2.2.2.2.2.2.1.getD 0 (0,0,[],[],false,[],())).2.2.1) ((p1.2.2.2.2.2.2.2.1.getD 0 (0,0,[],[],false,[],())).2.2.2.1) ((p1.2.2.2.2.2.2.2.1.getD 0 (0,0,[],[],false,[],())).2.2.2.2.1) ((p1.2.2.2.2.2.2.2.1.getD 0 (0,0,[],[],false,[],())).2.2.2.2.2.1))))))
 (cond (!((p1.2.2.2.2.2.2.2.1.getD 0 (0,0,[],[],false,[],())).2.2.2.2.1))
  (some (((9,x6,0,0,[],()),()),((u5.2.1.1,u5.2.1.2.1,u5.2.1.2.2.1,()),())))
 ((B4 6 u5.2.1.1 u5.2.1.2.1 u5.2.1.2.2.1).bind fun u16=>
 cond (u16.1.1)
  (some (((12,0,0,0,[],()),()),((u16.2.1.1,u16.2.1.2.1,u16.2.1.2.2.1,()),())))
 ((B4 3 u16.2.1.1 u16.2.1.2.1 u16.2.1.2.2.1).bind fun jg=>
 cond (jg.1.1)
  (some (((4,x6,0,0,[],()),()),((jg.2.1.1,jg.2.1.2.1,jg.2.1.2.2.1,()),())))
 ((MP (((p1.2.2.2.2.2.2.2.1.getD 0 (0,0,[],[],false,[],())).2.2.2.2.2.1).length:Int) 1).bind fun j5=>
 (Ak j5.1.1 jg.2.1.1 jg.2.1.2.1 jg.2.1.2.2.1).bind fun SV=>
 R16 x6 (AZ (1+SV.1.1)) 0 SV.2.1.1 SV.2.1.2.1 SV.2.1.2.2.1 p1.1 p1.2.1 p1.2.2.1 p1.2.2.2.1 p1.2.2.2.2.1 p1.2.2.2.2.2.1 p1.2.2.2.2.2.2.1 p1.2.2.2.2.2.2.2.1 p1.2.2.2.2.2.2.2.2.1 p1.2.2.2.2.2.2.2.2.2.1 p1.2.2.2.2.2.2.2.2.2.2.1 0 0 0 0 [] ((p1.2.2.2.2.2.2.2.1.getD 0 (0,0,[],[],false,[],())).1) ((p1.2.2.2.2.2.2.2.1.getD 0 (0,0,[],[],false,[],())).2.1) ((p1.2.2.2.2.2.2.2.1.getD 0 (0,0,[],[],false,[],())).2.2.1) ((p1.2.2.2.2.2.2.2.1.getD 0 (0,0,[],[],false,[],())).2.2.2.1) ((p1.2.2.2.2.2.2.2.1.getD 0 (0,0,[],[],false,[],())).2.2.2.2.1) ((p1.2.2.2.2.2.2.2.1.getD 0 (0,0,[],[],false,[],())).2.2.2.2.2.1))))))else none)else none)
def Ky(p1:ABF)(AU:AAO)(AG Aq:Int):Option L_:=RM (GC Ae) p1 AU AG Aq
abbrev rq:Type:=AGB×ADl
def Ii(p1:List ACC)(AU:AAO)(AG Aq:Int):Option rq:=
 (Ak (p1.length:Int) AU AG Aq).bind fun u1=>
 if(0:Int)≤u1.1.1∧u1.1.1<(p1.length:Int)then(
 some (((p1.getD (u1.1.1.toNat) []),()),((u1.2.1.1,u1.2.1.2.1,u1.2.1.2.2.1,()),())))else none
abbrev uJ:Type:=ABN×Unit
def S3(p0 p1:Int):Option uJ:=
 cond (decide (p0<p1))
  (some ((p0,()),()))
 (some ((p1,()),()))
abbrev ef:Type:=AF8×ADl
def Ga(p1:ABF)(AU:AAO)(AG Aq:Int):Option ef:=
 (Ak (p1.2.2.2.2.2.2.1.length:Int) AU AG Aq).bind fun u2=>
 (B4 3 u2.2.1.1 u2.2.1.2.1 u2.2.1.2.2.1).bind fun u3=>
 cond (!u3.1.1)
  (let x4:Int:=(p1.2.2.2.2.2.2.1.length:Int)
  if(0:Int)≤AZ (x4-1)∧AZ (x4-1)<(p1.2.2.2.2.2.2.1.length:Int)then(
  (CW (p1.2.2.2.2.1,p1.2.2.2.2.2.1,()) ((p1.2.2.2.2.2.2.1.getD ((AZ (x4-1)).toNat) (0,[],())).1)).bind fun u6=>
  (Ak (u6.2.1.length:Int) u3.2.1.1 u3.2.1.2.1 u3.2.1.2.2.1).bind fun u8=>
  if(0:Int)≤u8.1.1∧u8.1.1<(u6.2.1.length:Int)then(
  let x9:Int:=(u6.2.1.getD (u8.1.1.toNat) 0)
  let x10:Int:=(((p1.2.2.2.2.2.2.1.getD ((AZ (x4-1)).toNat) (0,[],())).2.1).length:Int)
  cond (x10==0)
   ((Ii [[],[97],[98,99],[100]] u8.2.1.1 u8.2.1.2.1 u8.2.1.2.2.1).bind fun N9=>
   some (((2,AZ (x4-1),0,0,N9.1.1,()),()),((N9.2.1.1,N9.2.1.2.1,N9.2.1.2.2.1,()),())))
  ((B4 7 u8.2.1.1 u8.2.1.2.1 u8.2.1.2.2.1).bind fun aL=>
  cond (aL.1.1)
   ((Ii [[],[97],[98,99],[100]] aL.2.1.1 aL.2.1.2.1 aL.2.1.2.2.1).bind fun WL=>
   some (((2,AZ (x4-1),0,0,WL.1.1,()),()),((WL.2.1.1,WL.2.1.2.1,WL.2.1.2.2.1,()),())))
  ((B4 3 aL.2.1.1 aL.2.1.2.1 aL.2.1.2.2.1).bind fun VH=>
  cond (VH.1.1)
   (some (((4,x9,0,0,[],()),()),((VH.2.1.1,VH.2.1.2.1,VH.2.1.2.2.1,()),())))
  ((S3 x10 3).bind fun u15=>
  (Ak u15.1.1 VH.2.1.1 VH.2.1.2.1 VH.2.1.2.2.1).bind fun u16=>
  some (((3,AZ (x4-1),AZ (x10-u16.1.1),x9,[],()),()),((u16.2.1.1,u16.2.1.2.1,u16.2.1.2.2.1,()),()))))))else none)else none)
 (if(0:Int)≤u2.1.1∧u2.1.1<(p1.2.2.2.2.2.2.1.length:Int)then(
 (CW (p1.2.2.2.2.1,p1.2.2.2.2.2.1,()) ((p1.2.2.2.2.2.2.1.getD (u2.1.1.toNat) (0,[],())).1)).bind fun nf=>
 (Ak (nf.2.1.length:Int) u3.2.1.1 u3.2.1.2.1 u3.2.1.2.2.1).bind fun SV=>
 if(0:Int)≤SV.1.1∧SV.1.1<(nf.2.1.length:Int)then(
 let x21:Int:=(nf.2.1.getD (SV.1.1.toNat) 0)
 let x22:Int:=(((p1.2.2.2.2.2.2.1.getD (u2.1.1.toNat) (0,[],())).2.1).length:Int)
 cond (x22==0)
  ((Ii [[],[97],[98,99],[100]] SV.2.1.1 SV.2.1.2.1 SV.2.1.2.2.1).bind fun ZH=>
  some (((2,u2.1.1,0,0,ZH.1.1,()),()),((ZH.2.1.1,ZH.2.1.2.1,ZH.2.1.2.2.1,()),())))
 ((B4 7 SV.2.1.1 SV.2.1.2.1 SV.2.1.2.2.1).bind fun Xj=>
 cond (Xj.1.1)
  ((Ii [[],[97],[98,99],[100]] Xj.2.1.1 Xj.2.1.2.1 Xj.2.1.2.2.1).bind fun fP=>
  some (((2,u2.1.1,0,0,fP.1.1,()),()),((fP.2.1.1,fP.2.1.2.1,fP.2.1.2.2.1,()),())))
 ((B4 3 Xj.2.1.1 Xj.2.1.2.1 Xj.2.1.2.2.1).bind fun nU=>
 cond (nU.1.1)
  (some (((4,x21,0,0,[],()),()),((nU.2.1.1,nU.2.1.2.1,nU.2.1.2.2.1,()),())))
 ((S3 x22 3).bind fun vS=>
 (Ak vS.1.1 nU.2.1.1 nU.2.1.2.1 nU.2.1.2.2.1).bind fun Xh=>
 some (((3,u2.1.1,AZ (x22-Xh.1.1),x21,[],()),()),((Xh.2.1.1,Xh.2.1.2.1,Xh.2.1.2.2.1,()),()))))))else none)else none)
abbrev gE:Type:=AF8×ADl
def Of(p1:ABF)(AU:AAO)(AG Aq:Int):Option gE:=
 cond ((p1.2.2.2.2.2.2.1.length:Int)==0)
  ((Ll (p1.1,p1.2.1,()) AU AG Aq).bind fun u3=>
  (K0 u3.2.2.1).bind fun u4=>
  some (((1,u4.1.1,0,0,[],()),()),((u3.2.1.1,u3.2.1.2.1,u3.2.1.2.2.1,()),())))
 ((B4 30 AU AG Aq).bind fun u5=>
 cond (u5.1.1)
  ((Ll (p1.1,p1.2.1,()) u5.2.1.1 u5.2.1.2.1 u5.2.1.2.2.1).bind fun u6=>
  (K0 u6.2.2.1).bind fun u7=>
  some (((1,u7.1.1,0,0,[],()),()),((u6.2.1.1,u6.2.1.2.1,u6.2.1.2.2.1,()),())))
 ((Ak (p1.2.2.1.length:Int) u5.2.1.1 u5.2.1.2.1 u5.2.1.2.2.1).bind fun u8=>
 (Ak 44 u8.2.1.1 u8.2.1.2.1 u8.2.1.2.2.1).bind fun u9=>
 cond (u9.1.1==0)
  ((Ak 16 u9.2.1.1 u9.2.1.2.1 u9.2.1.2.2.1).bind fun ED=>
  some (((5,u8.1.1,ED.1.1,0,[],()),()),((ED.2.1.1,ED.2.1.2.1,ED.2.1.2.2.1,()),())))
 (cond (u9.1.1==1)
  (cond ((p1.2.2.2.1.length:Int)==0)
   (some (((6,u8.1.1,0,0,[],()),()),((u9.2.1.1,u9.2.1.2.1,u9.2.1.2.2.1,()),())))
  ((B4 12 u9.2.1.1 u9.2.1.2.1 u9.2.1.2.2.1).bind fun aL=>
  cond (aL.1.1)
   (some (((6,u8.1.1,0,0,[],()),()),((aL.2.1.1,aL.2.1.2.1,aL.2.1.2.2.1,()),())))
  (if(0:Int)≤(0:Int)∧(0:Int)<(p1.2.2.2.1.length:Int)then(
  some (((7,(p1.2.2.2.1.getD 0 0),0,0,[],()),()),((aL.2.1.1,aL.2.1.2.1,aL.2.1.2.2.1,()),())))else none)))
 (cond (u9.1.1==2)
  ((Ak (p1.2.2.2.2.2.2.1.length:Int) u9.2.1.1 u9.2.1.2.1 u9.2.1.2.2.1).bind fun u15=>
  some (((15,u15.1.1,0,0,[],()),()),((u15.2.1.1,u15.2.1.2.1,u15.2.1.2.2.1,()),())))
 (cond (u9.1.1==3)
  ((B4 3 u9.2.1.1 u9.2.1.2.1 u9.2.1.2.2.1).bind fun u16=>
  cond (u16.1.1)
   (cond (decide ((p1.2.2.2.2.2.2.2.2.2.1.length:Int)>0))
    ((Ak (p1.2.2.2.2.2.2.2.2.2.1.length:Int) u16.2.1.1 u16.2.1.2.1 u16.2.1.2.2.1).bind fun j5=>
    if(0:Int)≤j5.1.1∧j5.1.1<(p1.2.2.2.2.2.2.2.2.2.1.length:Int)then(
    some (((13,((p1.2.2.2.2.2.2.2.2.2.1.getD (j5.1.1.toNat) (0,[],false,())).1),0,0,[],()),()),((j5.2.1.1,j5.2.1.2.1,j5.2.1.2.2.1,()),())))else none)
   (some (((16,u8.1.1,0,0,[],()),()),((u16.2.1.1,u16.2.1.2.1,u16.2.1.2.2.1,()),()))))
  (some (((16,u8.1.1,0,0,[],()),()),((u16.2.1.1,u16.2.1.2.1,u16.2.1.2.2.1,()),()))))
 (cond (u9.1.1==4)
  ((B4 2 u9.2.1.1 u9.2.1.2.1 u9.2.1.2.2.1).bind fun lj=>
  cond (lj.1.1)
   ((Ak 256 lj.2.1.1 lj.2.1.2.1 lj.2.1.2.2.1).bind fun u22=>
   (Ak 2 u22.2.1.1 u22.2.1.2.1 u22.2.1.2.2.1).bind fun ZH=>
   some (((14,ZH.1.1,u22.1.1,0,[],()),()),((ZH.2.1.1,ZH.2.1.2.1,ZH.2.1.2.2.1,()),())))
  ((Ak 2 lj.2.1.1 lj.2.1.2.1 lj.2.1.2.2.1).bind fun Xj=>
  some (((14,Xj.1.1,255,0,[],()),()),((Xj.2.1.1,Xj.2.1.2.1,Xj.2.1.2.2.1,()),()))))
 (cond (u9.1.1==5)
  ((B4 2 u9.2.1.1 u9.2.1.2.1 u9.2.1.2.2.1).bind fun fP=>
  cond (fP.1.1)
   ((Ak 256 fP.2.1.1 fP.2.1.2.1 fP.2.1.2.2.1).bind fun nU=>
   (Ak 2 nU.2.1.1 nU.2.1.2.1 nU.2.1.2.2.1).bind fun vS=>
   some (((14,vS.1.1,nU.1.1,0,[],()),()),((vS.2.1.1,vS.2.1.2.1,vS.2.1.2.2.1,()),())))
  ((Ak 2 fP.2.1.1 fP.2.1.2.1 fP.2.1.2.2.1).bind fun Xh=>
  some (((14,Xh.1.1,255,0,[],()),()),((Xh.2.1.1,Xh.2.1.2.1,Xh.2.1.2.2.1,()),()))))
 (cond (u9.1.1==6)
  ((B4 2 u9.2.1.1 u9.2.1.2.1 u9.2.1.2.2.1).bind fun sI=>
  cond (sI.1.1)
   ((Ak 256 sI.2.1.1 sI.2.1.2.1 sI.2.1.2.2.1).bind fun nJ=>
   (Ak 2 nJ.2.1.1 nJ.2.1.2.1 nJ.2.1.2.2.1).bind fun xe=>
   some (((14,xe.1.1,nJ.1.1,0,[],()),()),((xe.2.1.1,xe.2.1.2.1,xe.2.1.2.2.1,()),())))
  ((Ak 2 sI.2.1.1 sI.2.1.2.1 sI.2.1.2.2.1).bind fun u32=>
  some (((14,u32.1.1,255,0,[],()),()),((u32.2.1.1,u32.2.1.2.1,u32.2.1.2.2.1,()),()))))
 (cond (u9.1.1==7)
  ((B4 2 u9.2.1.1 u9.2.1.2.1 u9.2.1.2.2.1).bind fun ld=>
  cond (ld.1.1)
   ((Ak 256 ld.2.1.1 ld.2.1.2.1 ld.2.1.2.2.1).bind fun uN=>
   (Ak 2 uN.2.1.1 uN.2.1.2.1 uN.2.1.2.2.1).bind fun u35=>
   some (((14,u35.1.1,uN.1.1,0,[],()),()),((u35.2.1.1,u35.2.1.2.1,u35.2.1.2.2.1,()),())))
  ((Ak 2 ld.2.1.1 ld.2.1.2.1 ld.2.1.2.2.1).bind fun u36=>
  some (((14,u36.1.1,255,0,[],()),()),((u36.2.1.1,u36.2.1.2.1,u36.2.1.2.2.1,()),()))))
 (cond (u9.1.1==8)
  ((B4 2 u9.2.1.1 u9.2.1.2.1 u9.2.1.2.2.1).bind fun mC=>
  cond (mC.1.1)
   ((Ak 256 mC.2.1.1 mC.2.1.2.1 mC.2.1.2.2.1).bind fun u38=>
   (Ak 2 u38.2.1.1 u38.2.1.2.1 u38.2.1.2.2.1).bind fun u39=>
   some (((14,u39.1.1,u38.1.1,0,[],()),()),((u39.2.1.1,u39.2.1.2.1,u39.2.1.2.2.1,()),())))
  ((Ak 2 mC.2.1.1 mC.2.1.2.1 mC.2.1.2.2.1).bind fun u40=>
  some (((14,u40.1.1,255,0,[],()),()),((u40.2.1.1,u40.2.1.2.1,u40.2.1.2.2.1,()),()))))
 (cond (decide ((p1.2.2.2.2.1.length:Int)>1))
  ((I7 (p1.2.2.2.2.1,p1.2.2.2.2.2.1,())).bind fun u43=>
  cond ((decide (u43.1.1<(p1.2.2.2.2.1.length:Int))))
   ((B4 3 u9.2.1.1 u9.2.1.2.1 u9.2.1.2.2.1).bind fun u45=>
   cond (!u45.1.1)
    ((Ky (p1.1,p1.2.1,p1.2.2.1,p1.2.2.2.1,p1.2.2.2.2.1,p1.2.2.2.2.2.1,p1.2.2.2.2.2.2.1,p1.2.2.2.2.2.2.2.1,p1.2.2.2.2.2.2.2.2.1,p1.2.2.2.2.2.2.2.2.2.1,p1.2.2.2.2.2.2.2.2.2.2.1,()) u45.2.1.1 u45.2.1.2.1 u45.2.1.2.2.1).bind fun rE=>
    some (((rE.1.1.1,rE.1.1.2.1,rE.1.1.2.2.1,rE.1.1.2.2.2.1,rE.1.1.2.2.2.2.1,()),()),((rE.2.1.1,rE.2.1.2.1,rE.2.1.2.2.1,()),())))
   ((Ga (p1.1,p1.2.1,p1.2.2.1,p1.2.2.2.1,p1.2.2.2.2.1,p1.2.2.2.2.2.1,p1.2.2.2.2.2.2.1,p1.2.2.2.2.2.2.2.1,p1.2.2.2.2.2.2.2.2.1,p1.2.2.2.2.2.2.2.2.2.1,p1.2.2.2.2.2.2.2.2.2.2.1,()) u45.2.1.1 u45.2.1.2.1 u45.2.1.2.2.1).bind fun ly=>
   some (((ly.1.1.1,ly.1.1.2.1,ly.1.1.2.2.1,ly.1.1.2.2.2.1,ly.1.1.2.2.2.2.1,()),()),((ly.2.1.1,ly.2.1.2.1,ly.2.1.2.2.1,()),()))))
  ((Ga (p1.1,p1.2.1,p1.2.2.1,p1.2.2.2.1,p1.2.2.2.2.1,p1.2.2.2.2.2.1,p1.2.2.2.2.2.2.1,p1.2.2.2.2.2.2.2.1,p1.2.2.2.2.2.2.2.2.1,p1.2.2.2.2.2.2.2.2.2.1,p1.2.2.2.2.2.2.2.2.2.2.1,()) u9.2.1.1 u9.2.1.2.1 u9.2.1.2.2.1).bind fun u48=>
  some (((u48.1.1.1,u48.1.1.2.1,u48.1.1.2.2.1,u48.1.1.2.2.2.1,u48.1.1.2.2.2.2.1,()),()),((u48.2.1.1,u48.2.1.2.1,u48.2.1.2.2.1,()),()))))
 ((Ga (p1.1,p1.2.1,p1.2.2.1,p1.2.2.2.1,p1.2.2.2.2.1,p1.2.2.2.2.2.1,p1.2.2.2.2.2.2.1,p1.2.2.2.2.2.2.2.1,p1.2.2.2.2.2.2.2.2.1,p1.2.2.2.2.2.2.2.2.2.1,p1.2.2.2.2.2.2.2.2.2.2.1,()) u9.2.1.1 u9.2.1.2.1 u9.2.1.2.2.1).bind fun rK=>
 some (((rK.1.1.1,rK.1.1.2.1,rK.1.1.2.2.1,rK.1.1.2.2.2.1,rK.1.1.2.2.2.2.1,()),()),((rK.2.1.1,rK.2.1.2.1,rK.2.1.2.2.1,()),()))))))))))))))
abbrev ot:Type:=ABG×Unit
def HM(p0:Int):Option ot:=
 cond (decide (p0>0))
  ((CG (AZ (p0.tdiv 4294967296)) 1 30).bind fun u2=>
  cond (u2.1.1)
   ((CG (p0.tmod 4294967296) 1 60).bind fun u3=>
   some ((u3.1.1,()),()))
  (some ((false,()),())))
 (some ((false,()),()))
abbrev Hg:Type:=ABN×Unit
def Cr(p0:Int):Option Hg:=
 (HM p0).bind fun u1=>
 cond (!u1.1.1)
  (some ((0,()),()))
 (some (((AZ (p0.tdiv 4294967296)),()),()))
abbrev qa:Type:=ABG×Unit
def L0(p0:AC9):Option qa:=
 (HM p0.1).bind fun u1=>
 cond (!u1.1.1)
  (some ((false,()),()))
 ((CG p0.2.1 0 30).bind fun u2=>
 cond (!u2.1.1)
  (some ((false,()),()))
 (cond (decide (p0.2.1>0))
  ((Cr p0.1).bind fun u3=>
  cond ((decide (p0.2.1≤u3.1.1)))
   (some ((false,()),()))
  (cond (decide ((p0.2.2.2.1.length:Int)>40))
   (some ((false,()),()))
  (cond (!p0.2.2.1)
   (some ((true,()),()))
  (cond (decide (p0.2.1>0))
   (some ((p0.2.2.2.1==[],()),()))
  (some ((false,()),()))))))
 (cond (decide ((p0.2.2.2.1.length:Int)>40))
  (some ((false,()),()))
 (cond (!p0.2.2.1)
  (some ((true,()),()))
 (cond (decide (p0.2.1>0))
  (some ((p0.2.2.2.1==[],()),()))
 (some ((false,()),())))))))
abbrev Tf:Type:=ABG×Unit
abbrev Wl:Type:=AAw→Int→Option Tf
def R_(R4:Wl)(t0:AAw)(t5:Int):Option Tf:=
 cond ((decide (t5<(t0.length:Int))))
  (if(0:Int)≤t5∧t5<(t0.length:Int)then(
  (L0 ((t0.getD (t5.toNat) (0,0,false,[],())).1,(t0.getD (t5.toNat) (0,0,false,[],())).2.1,(t0.getD (t5.toNat) (0,0,false,[],())).2.2.1,(t0.getD (t5.toNat) (0,0,false,[],())).2.2.2.1,())).bind fun u3=>
  cond (!u3.1.1)
   (some ((false,()),()))
  (R4 t0 (AZ (t5+1))))else none)
 (some ((true,()),()))
def LB:Nat→Wl
 |0=>fun _ _=>none
 |n+1=>R_ (LB n)
def Xv(R4:Wl)(p0:AAw)(p1:Int):Option Tf:=
 cond ((decide ((p0.length:Int)>p1)))
  (some ((false,()),()))
 (R4 p0 0)
def Un(p0:AAw)(p1:Int):Option Tf:=Xv (LB Ae) p0 p1
abbrev Vt:Type:=ABG×Unit
abbrev ZQ:Type:=AAw→Int→Option Vt
def O7(R2:ZQ)(t0:AAw)(t3:Int):Option Vt:=
 cond ((decide (t3<(t0.length:Int))))
  (if(0:Int)≤AZ (t3-1)∧AZ (t3-1)<(t0.length:Int)then(
  if(0:Int)≤t3∧t3<(t0.length:Int)then(
  cond (decide (((t0.getD ((AZ (t3-1)).toNat) (0,0,false,[],())).1)≥((t0.getD (t3.toNat) (0,0,false,[],())).1)))
   (some ((false,()),()))
  (R2 t0 (AZ (t3+1))))else none)else none)
 (some ((true,()),()))
def GM:Nat→ZQ
 |0=>fun _ _=>none
 |n+1=>O7 (GM n)
def aH(R2:ZQ)(p0:AAw):Option Vt:=
 R2 p0 1
def W8(p0:AAw):Option Vt:=aH (GM Ae) p0
abbrev oy:Type:=ABG×Unit
def Gk(p0:ACN):Option oy:=
 (Un p0.1 200).bind fun u1=>
 cond (u1.1.1)
  ((Un p0.2.1 20).bind fun u2=>
  cond (u2.1.1)
   ((W8 p0.1).bind fun u3=>
   cond (u3.1.1)
    ((CG p0.2.2.1 0 30).bind fun u4=>
    some ((u4.1.1,()),()))
   (some ((false,()),())))
  (some ((false,()),())))
 (some ((false,()),()))
abbrev qg:Type:=ABG×Unit
def al(p0:ACN):Option qg:=
 cond (((p0.1.length:Int)==0))
  (cond ((p0.2.1.length:Int)==0)
   (some ((p0.2.2.1==0,()),()))
  (some ((false,()),())))
 (some ((false,()),()))
abbrev P1:Type:=ABG×Unit
abbrev S7:Type:=Int→List Int→Int→AAP→List Int→AAS→Int→AAr→AAv→AAs→AAk→Bool→Option P1
def PL(R4:S7)(t3:Int)(AU:AAO)(AG:Int)(Aq:AAP)(Ck:AAO)(DJ:AAS)(AW:Int)(DH:AAr)(DC:AAv)(DD:AAs)(EU:AAk)(AL:Bool):Option P1:=
 cond ((decide (t3<(Aq.length:Int))))
  (if(0:Int)≤t3∧t3<(Aq.length:Int)then(
  (Gk ((Aq.getD (t3.toNat) ([],[],0,())).1,(Aq.getD (t3.toNat) ([],[],0,())).2.1,(Aq.getD (t3.toNat) ([],[],0,())).2.2.1,())).bind fun u8=>
  cond (!u8.1.1)
   (some ((false,()),()))
  ((DG Ck t3).bind fun u9=>
  cond (u9.1.1)
   (if(0:Int)≤t3∧t3<(Aq.length:Int)then(
   (al ((Aq.getD (t3.toNat) ([],[],0,())).1,(Aq.getD (t3.toNat) ([],[],0,())).2.1,(Aq.getD (t3.toNat) ([],[],0,())).2.2.1,())).bind fun ED=>
   cond (!ED.1.1)
    (some ((false,()),()))
   (R4 (AZ (t3+1)) AU AG Aq Ck DJ AW DH DC DD EU AL))else none)
  (R4 (AZ (t3+1)) AU AG Aq Ck DJ AW DH DC DD EU AL)))else none)
 (some ((true,()),()))
def Ix:Nat→S7
 |0=>fun _ _ _ _ _ _ _ _ _ _ _ _=>none
 |n+1=>PL (Ix n)
def VY(R4:S7)(p0:ABF):Option P1:=
 (GO (p0.1,p0.2.1,())).bind fun u1=>
 cond (!u1.1.1)
  (some ((false,()),()))
 (cond (((p0.2.2.1.length:Int) !=(p0.1.length:Int)))
  (some ((false,()),()))
 ((GY (p0.1,p0.2.1,()) p0.2.2.2.1).bind fun u4=>
 cond (!u4.1.1)
  (some ((false,()),()))
 ((FL (p0.1,p0.2.1,()) p0.2.2.2.1).bind fun u5=>
 cond (u5.1.1)
  (cond (!p0.2.2.2.2.2.2.2.2.2.2.1)
   (some ((false,()),()))
  (R4 0 p0.1 p0.2.1 p0.2.2.1 p0.2.2.2.1 p0.2.2.2.2.1 p0.2.2.2.2.2.1 p0.2.2.2.2.2.2.1 p0.2.2.2.2.2.2.2.1 p0.2.2.2.2.2.2.2.2.1 p0.2.2.2.2.2.2.2.2.2.1 p0.2.2.2.2.2.2.2.2.2.2.1))
 (R4 0 p0.1 p0.2.1 p0.2.2.1 p0.2.2.2.1 p0.2.2.2.2.1 p0.2.2.2.2.2.1 p0.2.2.2.2.2.2.1 p0.2.2.2.2.2.2.2.1 p0.2.2.2.2.2.2.2.2.1 p0.2.2.2.2.2.2.2.2.2.1 p0.2.2.2.2.2.2.2.2.2.2.1))))
def Tx(p0:ABF):Option P1:=VY (Ix Ae) p0
abbrev Ry:Type:=ABG×Unit
abbrev ZF:Type:=Int→Int→List Int→Int→AAS→Int→Option Ry
def TJ(R5:ZF)(t5 t6:Int)(AU:AAO)(AG:Int)(Cj:AAS)(Bj:Int):Option Ry:=
 cond (decide (t6<t5))
  (if(0:Int)≤t6∧t6<(Cj.length:Int)then(
  (FL (AU,AG,()) ((Cj.getD (t6.toNat) ([],false,0,())).1)).bind fun u6=>
  cond (!u6.1.1)
   (some ((false,()),()))
  ((CG ((Cj.getD (t6.toNat) ([],false,0,())).2.2.1) 0 60).bind fun u8=>
  cond (!u8.1.1)
   (some ((false,()),()))
  (cond (!((Cj.getD (t6.toNat) ([],false,0,())).2.1))
   (cond (((Cj.getD (t6.toNat) ([],false,0,())).2.2.1) !=0)
    (some ((false,()),()))
   (cond (((Cj.getD (t6.toNat) ([],false,0,())).2.1))
    (cond (t6==(AZ (t5-1)))
     (some ((false,()),()))
    (cond (decide (t6>0))
     (if(0:Int)≤AZ (t6-1)∧AZ (t6-1)<(Cj.length:Int)then(
     cond (!((Cj.getD ((AZ (t6-1)).toNat) ([],false,0,())).2.1))
      (some ((false,()),()))
     (R5 t5 (AZ (t6+1)) AU AG Cj Bj))else none)
    (R5 t5 (AZ (t6+1)) AU AG Cj Bj)))
   (R5 t5 (AZ (t6+1)) AU AG Cj Bj)))
  (cond (((Cj.getD (t6.toNat) ([],false,0,())).2.1))
   (cond (t6==(AZ (t5-1)))
    (some ((false,()),()))
   (cond (decide (t6>0))
    (if(0:Int)≤AZ (t6-1)∧AZ (t6-1)<(Cj.length:Int)then(
    cond (!((Cj.getD ((AZ (t6-1)).toNat) ([],false,0,())).2.1))
     (some ((false,()),()))
    (R5 t5 (AZ (t6+1)) AU AG Cj Bj))else none)
   (R5 t5 (AZ (t6+1)) AU AG Cj Bj)))
  (R5 t5 (AZ (t6+1)) AU AG Cj Bj)))))else none)
 (some ((true,()),()))
def Kb:Nat→ZF
 |0=>fun _ _ _ _ _ _=>none
 |n+1=>TJ (Kb n)
def aC(R5:ZF)(p0:AA9)(p1:ABr):Option Ry:=
 (GO (p0.1,p0.2.1,())).bind fun u1=>
 cond (!u1.1.1)
  (some ((false,()),()))
 (cond ((decide ((p1.1.length:Int)>30)))
  (some ((false,()),()))
 (cond (p1.2.1 !=0)
  ((HM p1.2.1).bind fun u3=>
  cond (!u3.1.1)
   (some ((false,()),()))
  ((Cr p1.2.1).bind fun u4=>
  cond ((decide (u4.1.1>(p1.1.length:Int))))
   (some ((false,()),()))
  (R5 (p1.1.length:Int) 0 p0.1 p0.2.1 p1.1 p1.2.1)))
 (R5 (p1.1.length:Int) 0 p0.1 p0.2.1 p1.1 p1.2.1)))
def MQ(p0:AA9)(p1:ABr):Option Ry:=aC (Kb Ae) p0 p1
abbrev Mf:Type:=ABG×Unit
abbrev TQ:Type:=Int→Int→List Int→Int→Int→ACA→Option Mf
def VG(R5:TQ)(t5 t6:Int)(AU:AAO)(AG Cj:Int)(Bj:ACA):Option Mf:=
 cond ((decide (t6<(Bj.length:Int))))
  (if(0:Int)≤t6∧t6<(Bj.length:Int)then(
  cond ((decide ((((Bj.getD (t6.toNat) ([],[],false,())).1).length:Int)>40)))
   (some ((false,()),()))
  ((GY (AU,AG,()) ((Bj.getD (t6.toNat) ([],[],false,())).2.1)).bind fun u7=>
  cond (!u7.1.1)
   (some ((false,()),()))
  ((FL (AU,AG,()) ((Bj.getD (t6.toNat) ([],[],false,())).2.1)).bind fun u9=>
  cond (u9.1.1 !=((Bj.getD (t6.toNat) ([],[],false,())).2.2.1))
   (some ((false,()),()))
  (cond (!((Bj.getD (t6.toNat) ([],[],false,())).2.2.1))
   (R5 (AZ (t5+1)) (AZ (t6+1)) AU AG Cj Bj)
  (R5 t5 (AZ (t6+1)) AU AG Cj Bj)))))else none)
 (some ((decide (t5≤6),()),()))
def K5:Nat→TQ
 |0=>fun _ _ _ _ _ _=>none
 |n+1=>VG (K5 n)
def VM(R5:TQ)(p0:AA9)(p1:ACF):Option Mf:=
 (GO (p0.1,p0.2.1,())).bind fun u1=>
 cond (!u1.1.1)
  (some ((false,()),()))
 ((CG p1.1 1 30).bind fun u2=>
 cond (!u2.1.1)
  (some ((false,()),()))
 (cond (decide ((p1.2.1.length:Int)>60))
  (some ((false,()),()))
 (R5 0 0 p0.1 p0.2.1 p1.1 p1.2.1)))
def HS(p0:AA9)(p1:ACF):Option Mf:=VM (K5 Ae) p0 p1
abbrev J5:Type:=ABN×Unit
def HD(p0:Int):Option J5:=
 (HM p0).bind fun u1=>
 cond (!u1.1.1)
  (some ((0,()),()))
 (some ((p0.tmod 4294967296,()),()))
abbrev rX:Type:=ABN×Unit
def Qn(p0:ABH):Option rX:=
 cond ((p0.2.2.2.1.length:Int)==0)
  (some ((0,()),()))
 (let x2:Int:=(p0.2.2.2.1.length:Int)
 if(0:Int)≤AZ (x2-1)∧AZ (x2-1)<(p0.2.2.2.1.length:Int)then(
 (HD ((p0.2.2.2.1.getD ((AZ (x2-1)).toNat) (0,0,false,[],())).1)).bind fun u4=>
 some ((u4.1.1,()),()))else none)
abbrev Mq:Type:=ABG×Unit
abbrev Q7:Type:=Int→List Int→Int→Int→Int→List Int→AAw→Bool→List AAO→Option Mq
abbrev Rv:Type:=Int→List Int→Int→Int→Int→List Int→AAw→Bool→List AAO→Option Mq
def RE(R4:Q7)(R9:Rv)(t5:Int)(AU:AAO)(AG Cj Bj:Int)(El:AAO)(Gq:AAw)(MF:Bool)(D9:List AAO):Option Mq:=
 cond ((decide (t5<(Gq.length:Int))))
  (if(0:Int)≤t5∧t5<(Gq.length:Int)then(
  (L0 ((Gq.getD (t5.toNat) (0,0,false,[],())).1,(Gq.getD (t5.toNat) (0,0,false,[],())).2.1,(Gq.getD (t5.toNat) (0,0,false,[],())).2.2.1,(Gq.getD (t5.toNat) (0,0,false,[],())).2.2.2.1,())).bind fun u7=>
  cond (!u7.1.1)
   (some ((false,()),()))
  (if(0:Int)≤t5∧t5<(Gq.length:Int)then(
  (Cr ((Gq.getD (t5.toNat) (0,0,false,[],())).1)).bind fun u9=>
  cond (u9.1.1 !=Bj)
   (some ((false,()),()))
  (if(0:Int)≤t5∧t5<(Gq.length:Int)then(
  cond (decide (((Gq.getD (t5.toNat) (0,0,false,[],())).2.1)≥Cj))
   (some ((false,()),()))
  (R4 (AZ (t5+1)) AU AG Cj Bj El Gq MF D9))else none))else none))else none)
 (R9 0 AU AG Cj Bj El Gq MF D9)
def Rc(R4:Q7)(R9:Rv)(t6:Int)(AU:AAO)(AG Cj Bj:Int)(El:AAO)(Gq:AAw)(MF:Bool)(D9:List AAO):Option Mq:=
 cond ((decide (t6<(D9.length:Int))))
  (if(0:Int)≤t6∧t6<(D9.length:Int)then(
  (GY (AU,AG,()) (D9.getD (t6.toNat) [])).bind fun aL=>
  cond (!aL.1.1)
   (some ((false,()),()))
  (R9 (AZ (t6+1)) AU AG Cj Bj El Gq MF D9))else none)
 (cond (!MF)
  (some ((((D9.length:Int)==0),()),()))
 ((Qn (Cj,Bj,El,Gq,MF,D9,())).bind fun VH=>
 some ((((D9.length:Int)==VH.1.1),()),())))
mutual
def I5:Nat→Q7
 |0=>fun _ _ _ _ _ _ _ _ _=>none
 |n+1=>RE (I5 n) (HU n)
def HU:Nat→Rv
 |0=>fun _ _ _ _ _ _ _ _ _=>none
 |n+1=>Rc (I5 n) (HU n)
end
def YL(R4:Q7)(R9:Rv)(p0:AA9)(p1:ABH):Option Mq:=
 (GO (p0.1,p0.2.1,())).bind fun u1=>
 cond (!u1.1.1)
  (some ((false,()),()))
 ((CG p1.2.1 1 30).bind fun u2=>
 cond (!u2.1.1)
  (some ((false,()),()))
 ((CG p1.1 (AZ (p1.2.1+1)) 30).bind fun u3=>
 cond (!u3.1.1)
  (some ((false,()),()))
 ((GY (p0.1,p0.2.1,()) p1.2.2.1).bind fun u4=>
 cond (!u4.1.1)
  (some ((false,()),()))
 ((W8 p1.2.2.2.1).bind fun u5=>
 cond (!u5.1.1)
  (some ((false,()),()))
 (R4 0 p0.1 p0.2.1 p1.1 p1.2.1 p1.2.2.1 p1.2.2.2.1 p1.2.2.2.2.1 p1.2.2.2.2.2.1)))))
def Ig(p0:AA9)(p1:ABH):Option Mq:=YL (I5 Ae) (HU Ae) p0 p1
abbrev Iy:Type:=ABG×Unit
abbrev NM:Type:=Int→Int→List Int→Int→AAP→List Int→AAS→Int→AAr→AAv→AAs→AAk→Bool→Option Iy
abbrev MA:Type:=Int→Int→List Int→Int→AAP→List Int→AAS→Int→AAr→AAv→AAs→AAk→Bool→Option Iy
def N1(R5:NM)(R10:MA)(t3 t4:Int)(AU:AAO)(AG:Int)(Aq:AAP)(Ck:AAO)(DJ:AAS)(AW:Int)(DH:AAr)(DC:AAv)(DD:AAs)(EU:AAk)(AL:Bool):Option Iy:=
 cond ((decide (t4<(DH.length:Int))))
  (if(0:Int)≤t4∧t4<(DH.length:Int)then(
  (HS (AU,AG,()) ((DH.getD (t4.toNat) (0,[],())).1,(DH.getD (t4.toNat) (0,[],())).2.1,())).bind fun u6=>
  cond (!u6.1.1)
   (some ((false,()),()))
  (if(0:Int)≤t4∧t4<(DH.length:Int)then(
  cond (decide (((DH.getD (t4.toNat) (0,[],())).1)>t3))
   (some ((false,()),()))
  (cond (decide (t4>0))
   (if(0:Int)≤AZ (t4-1)∧AZ (t4-1)<(DH.length:Int)then(
   if(0:Int)≤t4∧t4<(DH.length:Int)then(
   cond (decide (((DH.getD ((AZ (t4-1)).toNat) (0,[],())).1)≥((DH.getD (t4.toNat) (0,[],())).1)))
    (some ((false,()),()))
   (R5 t3 (AZ (t4+1)) AU AG Aq Ck DJ AW DH DC DD EU AL))else none)else none)
  (R5 t3 (AZ (t4+1)) AU AG Aq Ck DJ AW DH DC DD EU AL)))else none))else none)
 (R10 t3 0 AU AG Aq Ck DJ AW DH DC DD EU AL)
def M1(R5:NM)(R10:MA)(t3 t5:Int)(AU:AAO)(AG:Int)(Aq:AAP)(Ck:AAO)(DJ:AAS)(AW:Int)(DH:AAr)(DC:AAv)(DD:AAs)(EU:AAk)(AL:Bool):Option Iy:=
 cond ((decide (t5<(DC.length:Int))))
  (if(0:Int)≤t5∧t5<(DC.length:Int)then(
  (Ig (AU,AG,()) ((DC.getD (t5.toNat) (0,0,[],[],false,[],())).1,(DC.getD (t5.toNat) (0,0,[],[],false,[],())).2.1,(DC.getD (t5.toNat) (0,0,[],[],false,[],())).2.2.1,(DC.getD (t5.toNat) (0,0,[],[],false,[],())).2.2.2.1,(DC.getD (t5.toNat) (0,0,[],[],false,[],())).2.2.2.2.1,(DC.getD (t5.toNat) (0,0,[],[],false,[],())).2.2.2.2.2.1,())).bind fun N9=>
  cond (!N9.1.1)
   (some ((false,()),()))
  (cond (((DC.getD (t5.toNat) (0,0,[],[],false,[],())).1) !=t3)
   (some ((false,()),()))
  ((I7 (DJ,AW,())).bind fun VH=>
  cond (((DC.getD (t5.toNat) (0,0,[],[],false,[],())).2.1) !=VH.1.1)
   (some ((false,()),()))
  (R10 t3 (AZ (t5+1)) AU AG Aq Ck DJ AW DH DC DD EU AL))))else none)
 (some ((true,()),()))
mutual
def Gf:Nat→NM
 |0=>fun _ _ _ _ _ _ _ _ _ _ _ _ _=>none
 |n+1=>N1 (Gf n) (Er n)
def Er:Nat→MA
 |0=>fun _ _ _ _ _ _ _ _ _ _ _ _ _=>none
 |n+1=>M1 (Gf n) (Er n)
end
def UA(R5:NM)(R10:MA)(p0:ABF):Option Iy:=
 (MQ (p0.1,p0.2.1,()) (p0.2.2.2.2.1,p0.2.2.2.2.2.1,())).bind fun u2=>
 cond (!u2.1.1)
  (some ((false,()),()))
 (cond (decide ((p0.2.2.2.2.2.2.1.length:Int)>4))
  (some ((false,()),()))
 (cond (decide ((p0.2.2.2.2.2.2.2.1.length:Int)>1))
  (some ((false,()),()))
 (R5 (p0.2.2.2.2.1.length:Int) 0 p0.1 p0.2.1 p0.2.2.1 p0.2.2.2.1 p0.2.2.2.2.1 p0.2.2.2.2.2.1 p0.2.2.2.2.2.2.1 p0.2.2.2.2.2.2.2.1 p0.2.2.2.2.2.2.2.2.1 p0.2.2.2.2.2.2.2.2.2.1 p0.2.2.2.2.2.2.2.2.2.2.1)))
def Rf(p0:ABF):Option Iy:=UA (Gf Ae) (Er Ae) p0
abbrev mj:Type:=ABG×Unit
def Mt(p0:AC8):Option mj:=
 (CG p0.1 1 31).bind fun u1=>
 cond (u1.1.1)
  ((CG p0.2.1 1 61).bind fun u2=>
  cond (u2.1.1)
   (some ((decide ((p0.2.2.1.length:Int)≤120),()),()))
  (some ((false,()),())))
 (some ((false,()),()))
abbrev SL:Type:=ABG×Unit
abbrev Ur:Type:=Int→List Int→Int→AAP→List Int→AAS→Int→AAr→AAv→AAs→AAk→Bool→Option SL
def QB(R4:Ur)(t3:Int)(AU:AAO)(AG:Int)(Aq:AAP)(Ck:AAO)(DJ:AAS)(AW:Int)(DH:AAr)(DC:AAv)(DD:AAs)(EU:AAk)(AL:Bool):Option SL:=
 cond ((decide (t3<(EU.length:Int))))
  (if(0:Int)≤t3∧t3<(EU.length:Int)then(
  (HM ((EU.getD (t3.toNat) (0,[],false,())).1)).bind fun u4=>
  cond (!u4.1.1)
   (some ((false,()),()))
  ((Cr ((EU.getD (t3.toNat) (0,[],false,())).1)).bind fun u6=>
  cond ((decide (u6.1.1>(DJ.length:Int))))
   (some ((false,()),()))
  (cond ((decide ((((EU.getD (t3.toNat) (0,[],false,())).2.1).length:Int)>40)))
   (some ((false,()),()))
  (cond (decide (t3>0))
   (if(0:Int)≤AZ (t3-1)∧AZ (t3-1)<(EU.length:Int)then(
   cond (decide (((EU.getD ((AZ (t3-1)).toNat) (0,[],false,())).1)≥((EU.getD (t3.toNat) (0,[],false,())).1)))
    (some ((false,()),()))
   (R4 (AZ (t3+1)) AU AG Aq Ck DJ AW DH DC DD EU AL))else none)
  (R4 (AZ (t3+1)) AU AG Aq Ck DJ AW DH DC DD EU AL)))))else none)
 (some ((true,()),()))
def Jn:Nat→Ur
 |0=>fun _ _ _ _ _ _ _ _ _ _ _ _=>none
 |n+1=>QB (Jn n)
def Wt(R4:Ur)(p0:ABF):Option SL:=
 cond (decide ((p0.2.2.2.2.2.2.2.2.2.1.length:Int)>120))
  (some ((false,()),()))
 (R4 0 p0.1 p0.2.1 p0.2.2.1 p0.2.2.2.1 p0.2.2.2.2.1 p0.2.2.2.2.2.1 p0.2.2.2.2.2.2.1 p0.2.2.2.2.2.2.2.1 p0.2.2.2.2.2.2.2.2.1 p0.2.2.2.2.2.2.2.2.2.1 p0.2.2.2.2.2.2.2.2.2.2.1)
def V9(p0:ABF):Option SL:=Wt (Jn Ae) p0
abbrev qL:Type:=ABG×Unit
def Q9(p0:ABF):Option qL:=
 (Tx (p0.1,p0.2.1,p0.2.2.1,p0.2.2.2.1,p0.2.2.2.2.1,p0.2.2.2.2.2.1,p0.2.2.2.2.2.2.1,p0.2.2.2.2.2.2.2.1,p0.2.2.2.2.2.2.2.2.1,p0.2.2.2.2.2.2.2.2.2.1,p0.2.2.2.2.2.2.2.2.2.2.1,())).bind fun u1=>
 cond (u1.1.1)
  ((Rf (p0.1,p0.2.1,p0.2.2.1,p0.2.2.2.1,p0.2.2.2.2.1,p0.2.2.2.2.2.1,p0.2.2.2.2.2.2.1,p0.2.2.2.2.2.2.2.1,p0.2.2.2.2.2.2.2.2.1,p0.2.2.2.2.2.2.2.2.2.1,p0.2.2.2.2.2.2.2.2.2.2.1,())).bind fun u2=>
  cond (u2.1.1)
   (cond ((p0.2.2.2.2.2.2.2.2.1.length:Int)==2)
    (if(0:Int)≤(0:Int)∧(0:Int)<(p0.2.2.2.2.2.2.2.2.1.length:Int)then(
    (Mt ((p0.2.2.2.2.2.2.2.2.1.getD 0 (0,0,[],())).1,(p0.2.2.2.2.2.2.2.2.1.getD 0 (0,0,[],())).2.1,(p0.2.2.2.2.2.2.2.2.1.getD 0 (0,0,[],())).2.2.1,())).bind fun u4=>
    cond (u4.1.1)
     (if(0:Int)≤(1:Int)∧(1:Int)<(p0.2.2.2.2.2.2.2.2.1.length:Int)then(
     (Mt ((p0.2.2.2.2.2.2.2.2.1.getD 1 (0,0,[],())).1,(p0.2.2.2.2.2.2.2.2.1.getD 1 (0,0,[],())).2.1,(p0.2.2.2.2.2.2.2.2.1.getD 1 (0,0,[],())).2.2.1,())).bind fun u5=>
     cond (u5.1.1)
      ((V9 (p0.1,p0.2.1,p0.2.2.1,p0.2.2.2.1,p0.2.2.2.2.1,p0.2.2.2.2.2.1,p0.2.2.2.2.2.2.1,p0.2.2.2.2.2.2.2.1,p0.2.2.2.2.2.2.2.2.1,p0.2.2.2.2.2.2.2.2.2.1,p0.2.2.2.2.2.2.2.2.2.2.1,())).bind fun u6=>
      some ((u6.1.1,()),()))
     (some ((false,()),())))else none)
    (some ((false,()),())))else none)
   (some ((false,()),())))
  (some ((false,()),())))
 (some ((false,()),()))
abbrev mV:Type:=AF8×Unit
def ZA(p0:AC3):Option mV:=
 cond (p0.1==1)
  (some (((p0.1,p0.2.1,0,0,[],()),()),()))
 (cond (p0.1==4)
  (some (((p0.1,p0.2.1,0,0,[],()),()),()))
 (cond (p0.1==6)
  (some (((p0.1,p0.2.1,0,0,[],()),()),()))
 (cond (p0.1==7)
  (some (((p0.1,p0.2.1,0,0,[],()),()),()))
 (cond (p0.1==9)
  (some (((p0.1,p0.2.1,0,0,[],()),()),()))
 (cond (p0.1==13)
  (some (((p0.1,p0.2.1,0,0,[],()),()),()))
 (cond (p0.1==15)
  (some (((p0.1,p0.2.1,0,0,[],()),()),()))
 (cond (p0.1==16)
  (some (((p0.1,p0.2.1,0,0,[],()),()),()))
 (cond (p0.1==2)
  (some (((p0.1,p0.2.1,0,0,p0.2.2.2.2.1,()),()),()))
 (cond (p0.1==3)
  (some (((p0.1,p0.2.1,p0.2.2.1,p0.2.2.2.1,[],()),()),()))
 (cond (p0.1==5)
  (some (((p0.1,p0.2.1,p0.2.2.1,0,[],()),()),()))
 (cond (p0.1==14)
  (some (((p0.1,p0.2.1,p0.2.2.1,0,[],()),()),()))
 (cond (p0.1==11)
  (some (((p0.1,0,p0.2.2.1,p0.2.2.2.1,[],()),()),()))
 (some (((p0.1,0,0,0,[],()),()),()))))))))))))))
abbrev rk:Type:=ABG×Unit
def Xw(p0:AC3):Option rk:=
 (CG p0.1 1 16).bind fun u1=>
 cond (u1.1.1)
  ((ZA (p0.1,p0.2.1,p0.2.2.1,p0.2.2.2.1,p0.2.2.2.2.1,())).bind fun u2=>
  cond (((p0.1==u2.1.1.1)&&((p0.2.1==u2.1.1.2.1)&&((p0.2.2.1==u2.1.1.2.2.1)&&((p0.2.2.2.1==u2.1.1.2.2.2.1)&&((p0.2.2.2.2.1==u2.1.1.2.2.2.2.1)&&true))))))
   (some ((decide ((p0.2.2.2.2.1.length:Int)≤40),()),()))
  (some ((false,()),())))
 (some ((false,()),()))
abbrev Fe:Type:=AFP×ADs
abbrev XY:Type:=Int→AAS→Int→Int→AAS→Int→AAS→Option Fe
def Yb(R3:XY)(t4:Int)(AU:AAS)(AG Bj:Int)(b2:AAS)(ux:Int)(b4:AAS):Option Fe:=
 cond ((decide (t4<(AU.length:Int))))
  (if(0:Int)≤t4∧t4<(AU.length:Int)then(
  if 0+((AU.getD (t4.toNat) ([],false,0,())).1).length≤Dr then(
  if b4.length+1≤Dr then(
  R3 (AZ (t4+1)) AU AG Bj b2 ux (b4++[(((AU.getD (t4.toNat) ([],false,0,())).1),(AU.getD (t4.toNat) ([],false,0,())).2.1,(AU.getD (t4.toNat) ([],false,0,())).2.2.1,())]))else none)else none)else none)
 (some ((((),ux,()),()),(b4,())))
def OQ:Nat→XY
 |0=>fun _ _ _ _ _ _ _=>none
 |n+1=>Yb (OQ n)
def YC(R3:XY)(p0:ABr):Option Fe:=
 R3 0 p0.1 p0.2.1 0 [] p0.2.1 []
def GA(p0:ABr):Option Fe:=YC (OQ Ae) p0
abbrev KT:Type:=AGC×ADF
def Em(p0:ACN):Option KT:=
 if 0+p0.1.length≤Dr then(
 if 0+p0.2.1.length≤Dr then(
 some ((((),(),p0.2.2.1,()),()),(p0.1,p0.2.1,())))else none)else none
abbrev Fc:Type:=AGD×ADw
abbrev WU:Type:=Int→Int→ACA→Int→ACA→Int→ACA→Option Fc
def YX(R3:WU)(t4 AU:Int)(AG:ACA)(Cj:Int)(b2:ACA)(AC6:Int)(b4:ACA):Option Fc:=
 cond ((decide (t4<(AG.length:Int))))
  (if(0:Int)≤t4∧t4<(AG.length:Int)then(
  if 0+((AG.getD (t4.toNat) ([],[],false,())).2.1).length≤Dr then(
  if b4.length+1≤Dr then(
  R3 (AZ (t4+1)) AU AG Cj b2 AC6 (b4++[((AG.getD (t4.toNat) ([],[],false,())).1,((AG.getD (t4.toNat) ([],[],false,())).2.1),(AG.getD (t4.toNat) ([],[],false,())).2.2.1,())]))else none)else none)else none)
 (some (((AC6,(),()),()),(b4,())))
def OU:Nat→WU
 |0=>fun _ _ _ _ _ _ _=>none
 |n+1=>YX (OU n)
def Yj(R3:WU)(p0:ACF):Option Fc:=
 R3 0 p0.1 p0.2.1 0 [] p0.1 []
def FP(p0:ACF):Option Fc:=Yj (OU Ae) p0
abbrev GL:Type:=AFW×ADG
abbrev WW:Type:=Int→Int→Int→List Int→AAw→Bool→List AAO→Int→Int→Bool→List Int→AAw→List AAO→Int→Int→Bool→List Int→AAw→List AAO→Option GL
def R0(R3:WW)(t4 AU AG:Int)(Aq:AAO)(Ck:AAw)(DJ:Bool)(AW:List AAO)(Cj Bj:Int)(MF:Bool)(b2:AAO)(b3:AAw)(b4:List AAO)(AEl AFl:Int)(ADk:Bool)(b6:AAO)(b7:AAw)(b8:List AAO):Option GL:=
 cond ((decide (t4<(AW.length:Int))))
  (if(0:Int)≤t4∧t4<(AW.length:Int)then(
  if 0+(AW.getD (t4.toNat) []).length≤Dr then(
  if b8.length+1≤Dr then(
  R3 (AZ (t4+1)) AU AG Aq Ck DJ AW Cj Bj MF b2 b3 b4 AEl AFl ADk b6 b7 (b8++[(AW.getD (t4.toNat) [])]))else none)else none)else none)
 (some (((AEl,AFl,(),(),ADk,(),()),()),(b6,b7,b8,())))
def Hd:Nat→WW
 |0=>fun _ _ _ _ _ _ _ _ _ _ _ _ _ _ _ _ _ _ _=>none
 |n+1=>R0 (Hd n)
def NL(R3:WW)(p0:ABH):Option GL:=
 if 0+p0.2.2.1.length≤Dr then(
 if 0+p0.2.2.2.1.length≤Dr then(
 R3 0 p0.1 p0.2.1 p0.2.2.1 p0.2.2.2.1 p0.2.2.2.2.1 p0.2.2.2.2.2.1 0 0 false [] [] [] p0.1 p0.2.1 p0.2.2.2.2.1 p0.2.2.1 p0.2.2.2.1 [])else none)else none
def EM(p0:ABH):Option GL:=NL (Hd Ae) p0
abbrev JP:Type:=AF6×AFJ
def CK(p0:AC8):Option JP:=
 if 0+p0.2.2.1.length≤Dr then(
 some (((p0.1,p0.2.1,(),()),()),(p0.2.2.1,())))else none
abbrev Fb:Type:=AF7×ADD
abbrev Jl:Type:=Int→List Int→Int→AAP→List Int→AAS→Int→AAr→AAv→AAs→AAk→Bool→Int→Int→Bool→List Int→AAP→List Int→AAS→AAr→AAv→AAs→AAk→Int→Int→Bool→List Int→AAP→List Int→AAS→AAr→AAv→AAs→AAk→Option Fb
abbrev Jx:Type:=Int→List Int→Int→AAP→List Int→AAS→Int→AAr→AAv→AAs→AAk→Bool→Int→Int→Bool→List Int→AAP→List Int→AAS→AAr→AAv→AAs→AAk→Int→Int→Bool→List Int→AAP→List Int→AAS→AAr→AAv→AAs→AAk→Option Fb
abbrev Ip:Type:=Int→List Int→Int→AAP→List Int→AAS→Int→AAr→AAv→AAs→AAk→Bool→Int→Int→Bool→List Int→AAP→List Int→AAS→AAr→AAv→AAs→AAk→Int→Int→Bool→List Int→AAP→List Int→AAS→AAr→AAv→AAs→AAk→Option Fb
abbrev Im:Type:=Int→List Int→Int→AAP→List Int→AAS→Int→AAr→AAv→AAs→AAk→Bool→Int→Int→Bool→List Int→AAP→List Int→AAS→AAr→AAv→AAs→AAk→Int→Int→Bool→List Int→AAP→List Int→AAS→AAr→AAv→AAs→AAk→Option Fb
def QG(R3:Jl)(R7:Jx)(xw:Ip)(p8:Im)(t4:Int)(AU:AAO)(AG:Int)(Aq:AAP)(Ck:AAO)(DJ:AAS)(AW:Int)(DH:AAr)(DC:AAv)(DD:AAs)(EU:AAk)(AL:Bool)(Bj D9:Int)(E5:Bool)(b2:AAO)(b3:AAP)(b4:AAO)(b5:AAS)(b6:AAr)(b7:AAv)(b8:AAs)(b9:AAk)(DM D7:Int)(Cf:Bool)(FV:AAO)(Di:AAP)(GF:AAO)(GG:AAS)(D8:AAr)(EZ:AAv)(FD:AAs)(Q0:AAk):Option Fb:=
 cond ((decide (t4<(Aq.length:Int))))
  (if(0:Int)≤t4∧t4<(Aq.length:Int)then(
  (Em ((Aq.getD (t4.toNat) ([],[],0,())).1,(Aq.getD (t4.toNat) ([],[],0,())).2.1,(Aq.getD (t4.toNat) ([],[],0,())).2.2.1,())).bind fun zf=>
  if Di.length+1≤Dr then(
  R3 (AZ (t4+1)) AU AG Aq Ck DJ AW DH DC DD EU AL Bj D9 E5 b2 b3 b4 b5 b6 b7 b8 b9 DM D7 Cf FV (Di++[(zf.2.1,zf.2.2.1,zf.1.1.2.2.1,())]) GF GG D8 EZ FD Q0)else none)else none)
 (R7 0 AU AG Aq Ck DJ AW DH DC DD EU AL Bj D9 E5 b2 b3 b4 b5 b6 b7 b8 b9 DM D7 Cf FV Di GF GG D8 EZ FD Q0)
def QN(R3:Jl)(R7:Jx)(xw:Ip)(p8:Im)(t5:Int)(AU:AAO)(AG:Int)(Aq:AAP)(Ck:AAO)(DJ:AAS)(AW:Int)(DH:AAr)(DC:AAv)(DD:AAs)(EU:AAk)(AL:Bool)(Bj D9:Int)(E5:Bool)(b2:AAO)(b3:AAP)(b4:AAO)(b5:AAS)(b6:AAr)(b7:AAv)(b8:AAs)(b9:AAk)(DM D7:Int)(Cf:Bool)(FV:AAO)(Di:AAP)(GF:AAO)(GG:AAS)(D8:AAr)(EZ:AAv)(FD:AAs)(Q0:AAk):Option Fb:=
 cond ((decide (t5<(DH.length:Int))))
  (if(0:Int)≤t5∧t5<(DH.length:Int)then(
  (FP ((DH.getD (t5.toNat) (0,[],())).1,(DH.getD (t5.toNat) (0,[],())).2.1,())).bind fun AE1=>
  if D8.length+1≤Dr then(
  R7 (AZ (t5+1)) AU AG Aq Ck DJ AW DH DC DD EU AL Bj D9 E5 b2 b3 b4 b5 b6 b7 b8 b9 DM D7 Cf FV Di GF GG (D8++[(AE1.1.1.1,AE1.2.1,())]) EZ FD Q0)else none)else none)
 (xw 0 AU AG Aq Ck DJ AW DH DC DD EU AL Bj D9 E5 b2 b3 b4 b5 b6 b7 b8 b9 DM D7 Cf FV Di GF GG D8 EZ FD Q0)
def PF(R3:Jl)(R7:Jx)(xw:Ip)(p8:Im)(t6:Int)(AU:AAO)(AG:Int)(Aq:AAP)(Ck:AAO)(DJ:AAS)(AW:Int)(DH:AAr)(DC:AAv)(DD:AAs)(EU:AAk)(AL:Bool)(Bj D9:Int)(E5:Bool)(b2:AAO)(b3:AAP)(b4:AAO)(b5:AAS)(b6:AAr)(b7:AAv)(b8:AAs)(b9:AAk)(DM D7:Int)(Cf:Bool)(FV:AAO)(Di:AAP)(GF:AAO)(GG:AAS)(D8:AAr)(EZ:AAv)(FD:AAs)(Q0:AAk):Option Fb:=
 cond ((decide (t6<(DC.length:Int))))
  (if(0:Int)≤t6∧t6<(DC.length:Int)then(
  (EM ((DC.getD (t6.toNat) (0,0,[],[],false,[],())).1,(DC.getD (t6.toNat) (0,0,[],[],false,[],())).2.1,(DC.getD (t6.toNat) (0,0,[],[],false,[],())).2.2.1,(DC.getD (t6.toNat) (0,0,[],[],false,[],())).2.2.2.1,(DC.getD (t6.toNat) (0,0,[],[],false,[],())).2.2.2.2.1,(DC.getD (t6.toNat) (0,0,[],[],false,[],())).2.2.2.2.2.1,())).bind fun jt=>
  if EZ.length+1≤Dr then(
  xw (AZ (t6+1)) AU AG Aq Ck DJ AW DH DC DD EU AL Bj D9 E5 b2 b3 b4 b5 b6 b7 b8 b9 DM D7 Cf FV Di GF GG D8 (EZ++[(jt.1.1.1,jt.1.1.2.1,jt.2.1,jt.2.2.1,jt.1.1.2.2.2.2.1,jt.2.2.2.1,())]) FD Q0)else none)else none)
 (p8 0 AU AG Aq Ck DJ AW DH DC DD EU AL Bj D9 E5 b2 b3 b4 b5 b6 b7 b8 b9 DM D7 Cf FV Di GF GG D8 EZ FD Q0)
def PJ(R3:Jl)(R7:Jx)(xw:Ip)(p8:Im)(t7:Int)(AU:AAO)(AG:Int)(Aq:AAP)(Ck:AAO)(DJ:AAS)(AW:Int)(DH:AAr)(DC:AAv)(DD:AAs)(EU:AAk)(AL:Bool)(Bj D9:Int)(E5:Bool)(b2:AAO)(b3:AAP)(b4:AAO)(b5:AAS)(b6:AAr)(b7:AAv)(b8:AAs)(b9:AAk)(DM D7:Int)(Cf:Bool)(FV:AAO)(Di:AAP)(GF:AAO)(GG:AAS)(D8:AAr)(EZ:AAv)(FD:AAs)(Q0:AAk):Option Fb:=
 cond ((decide (t7<(DD.length:Int))))
  (if(0:Int)≤t7∧t7<(DD.length:Int)then(
  (CK ((DD.getD (t7.toNat) (0,0,[],())).1,(DD.getD (t7.toNat) (0,0,[],())).2.1,(DD.getD (t7.toNat) (0,0,[],())).2.2.1,())).bind fun zZ=>
  if FD.length+1≤Dr then(
  p8 (AZ (t7+1)) AU AG Aq Ck DJ AW DH DC DD EU AL Bj D9 E5 b2 b3 b4 b5 b6 b7 b8 b9 DM D7 Cf FV Di GF GG D8 EZ (FD++[(zZ.1.1.1,zZ.1.1.2.1,zZ.2.1,())]) Q0)else none)else none)
 (some ((((),DM,(),(),(),D7,(),(),(),(),Cf,()),()),(FV,Di,GF,GG,D8,EZ,FD,Q0,())))
mutual
def CU:Nat→Jl
 |0=>fun _ _ _ _ _ _ _ _ _ _ _ _ _ _ _ _ _ _ _ _ _ _ _ _ _ _ _ _ _ _ _ _ _ _=>none
 |n+1=>QG (CU n) (Cm n) (CR n) (CS n)
def Cm:Nat→Jx
 |0=>fun _ _ _ _ _ _ _ _ _ _ _ _ _ _ _ _ _ _ _ _ _ _ _ _ _ _ _ _ _ _ _ _ _ _=>none
 |n+1=>QN (CU n) (Cm n) (CR n) (CS n)
def CR:Nat→Ip
 |0=>fun _ _ _ _ _ _ _ _ _ _ _ _ _ _ _ _ _ _ _ _ _ _ _ _ _ _ _ _ _ _ _ _ _ _=>none
 |n+1=>PF (CU n) (Cm n) (CR n) (CS n)
def CS:Nat→Im
 |0=>fun _ _ _ _ _ _ _ _ _ _ _ _ _ _ _ _ _ _ _ _ _ _ _ _ _ _ _ _ _ _ _ _ _ _=>none
 |n+1=>PJ (CU n) (Cm n) (CR n) (CS n)
end
def QP(R3:Jl)(R7:Jx)(xw:Ip)(p8:Im)(p0:ABF):Option Fb:=
 if 0+p0.1.length≤Dr then(
 if 0+p0.2.2.2.1.length≤Dr then(
 (GA (p0.2.2.2.2.1,p0.2.2.2.2.2.1,())).bind fun u2=>
 if 0+p0.2.2.2.2.2.2.2.2.2.1.length≤Dr then(
 R3 0 p0.1 p0.2.1 p0.2.2.1 p0.2.2.2.1 p0.2.2.2.2.1 p0.2.2.2.2.2.1 p0.2.2.2.2.2.2.1 p0.2.2.2.2.2.2.2.1 p0.2.2.2.2.2.2.2.2.1 p0.2.2.2.2.2.2.2.2.2.1 p0.2.2.2.2.2.2.2.2.2.2.1 0 0 false [] [] [] [] [] [] [] [] p0.2.1 u2.1.1.2.1 p0.2.2.2.2.2.2.2.2.2.2.1 p0.1 [] p0.2.2.2.1 u2.2.1 [] [] [] p0.2.2.2.2.2.2.2.2.2.1)else none)else none)else none
def L8(p0:ABF):Option Fb:=QP (CU Ae) (Cm Ae) (CR Ae) (CS Ae) p0
abbrev Ol:Type:=ACW×ACj
abbrev RV:Type:=Int→Int→List Int→Option Ol
def Nh(R3:RV)(t0 t4:Int)(b0:AAO):Option Ol:=
 cond (decide (t4<8))
  ((CG t0 0 255).bind fun u1=>
  cond (u1.1.1)
   (if t4<0 then none else(
   cond (((cP .i64 (t0.fdiv (2^(min t4.toNat 64))) 1)==1))
    (if b0.length+1≤Dr then(
    R3 t0 (AZ (t4+1)) (b0++[t4]))else none)
   (R3 t0 (AZ (t4+1)) b0)))
  (some (((),()),(b0,()))))
 (some (((),()),(b0,())))
def Hn:Nat→RV
 |0=>fun _ _ _=>none
 |n+1=>Nh (Hn n)
def UD(R3:RV)(p0:Int):Option Ol:=
 R3 p0 0 []
def N4(p0:Int):Option Ol:=UD (Hn Ae) p0
abbrev qC:Type:=(AGL×Unit)×ADs
def OZ(p0:AA9)(p1:ABr)(p2:AAO):Option qC:=
 (MQ (p0.1,p0.2.1,()) (p1.1,p1.2.1,())).bind fun u1=>
 cond (!u1.1.1)
  (some (((((),0,()),0,false,()),()),([],())))
 ((GA (p1.1,p1.2.1,())).bind fun u2=>
 (FL (p0.1,p0.2.1,()) p2).bind fun u3=>
 cond (!u3.1.1)
  (some (((((),u2.1.1.2.1,()),0,false,()),()),(u2.2.1,())))
 (cond (((p1.1.length:Int)==30))
  (some (((((),u2.1.1.2.1,()),0,false,()),()),(u2.2.1,())))
 (if 0+p2.length≤Dr then(
 if u2.2.1.length+1≤Dr then(
 let x5:AAS:=u2.2.1++[(p2,false,0,())]
 some (((((),u2.1.1.2.1,()),(x5.length:Int),true,()),()),(x5,())))else none)else none)))
abbrev dN:Type:=ADA×(List Int×AAP×List Int×Unit×Unit×Unit×AAs×AAk×AAS×AAr×AAv×Unit)
def Vm(CI CL:Int)(BS:Bool)(p1:AC3)(b0:AAO)(b1:AAP)(b2:AAO)(b3:AAS)(b4:AAr)(b5:AAv)(b6:AAs)(b7:AAk):Option dN:=
 cond (((b4.length:Int)==4))
  (some (((((),CI,(),(),(),CL,(),(),(),(),BS,()),4,()),()),(b0,b1,b2,(),(),(),b6,b7,b3,b4,b5,())))
 ((N4 p1.2.1).bind fun u2=>
 (OZ (b0,CI,()) (b3,CL,()) u2.2.1).bind fun u3=>
 cond (!u3.1.1.2.2.1)
  (some (((((),CI,(),(),(),CL,(),(),(),(),BS,()),4,()),()),(b0,b1,b2,(),(),(),b6,b7,b3,b4,b5,())))
 (if b4.length+1≤Dr then(
 some (((((),CI,(),(),(),u3.1.1.1.2.1,(),(),(),(),BS,()),0,()),()),(b0,b1,b2,(),(),(),b6,b7,u3.2.1,(b4++[(u3.1.1.2.1,[],())]),[],())))else none))
abbrev kh:Type:=ABG×Unit
def LC(p0:ABF)(p1:Int):Option kh:=
 (CG p1 0 (AZ ((p0.2.2.2.2.2.2.1.length:Int)-1))).bind fun u2=>
 some ((u2.1.1,()),())
abbrev lA:Type:=(AGM×Unit)×ADw
def K_(p0:AA9)(p1:ACF)(p2:ACC):Option lA:=
 (HS (p0.1,p0.2.1,()) (p1.1,p1.2.1,())).bind fun u1=>
 cond (!u1.1.1)
  (some ((((0,(),()),0,false,()),()),([],())))
 ((FP (p1.1,p1.2.1,())).bind fun u2=>
 if u2.2.1.length+1≤Dr then(
 let x3:ACA:=u2.2.1++[(p2,[],false,())]
 (HS (p0.1,p0.2.1,()) (u2.1.1.1,x3,())).bind fun u4=>
 cond (!u4.1.1)
  ((FP (p1.1,p1.2.1,())).bind fun u5=>
  some ((((u5.1.1.1,(),()),0,false,()),()),(u5.2.1,())))
 (some ((((u2.1.1.1,(),()),(x3.length:Int),true,()),()),(x3,()))))else none)
abbrev Hb:Type:=ABN×Unit
def ES(p0 p1:Int):Option Hb:=
 some ((AZ ((AZ (4294967296*p0))+p1),()),())
abbrev KW:Type:=ADA×(List Int×AAP×List Int×AAS×AAr×AAv×AAs×Unit×AAk×Unit)
abbrev Rw:Type:=Int→List Int→AAP→List Int→AAS→AAr→AAv→AAs→AAk→Int→Int→Bool→Int→Int→Bool→List Int→AAP→List Int→AAS→AAr→AAv→AAs→AAk→Int→List UInt8→Bool→Option KW
abbrev Pt:Type:=Bool→Int→List Int→AAP→List Int→AAS→AAr→AAv→AAs→AAk→Int→Int→Bool→Int→Int→Bool→List Int→AAP→List Int→AAS→AAr→AAv→AAs→AAk→Int→List UInt8→Bool→AAk→Option KW
def YH(R9:Rw)(R16:Pt)(t10:Int)(b0:AAO)(b1:AAP)(b2:AAO)(b3:AAS)(b4:AAr)(b5:AAv)(b6:AAs)(b7:AAk)(Dc Dq:Int)(CH:Bool)(Dx FT:Int)(Cq:Bool)(Jc:AAO)(FV:AAP)(Di:AAO)(GF:AAS)(GG:AAr)(D8:AAv)(EZ:AAs)(FD:AAk)(Ca:Int)(C2:ACC)(Cc:Bool):Option KW:=
 cond ((decide (t10<(b7.length:Int))))
  (if(0:Int)≤t10∧t10<(b7.length:Int)then(
  cond (((b7.getD (t10.toNat) (0,[],false,())).1)==Ca)
   (some (((((),Dc,(),(),(),Dq,(),(),(),(),CH,()),4,()),()),(b0,b1,b2,b3,b4,b5,b6,(),b7,())))
  (R9 (AZ (t10+1)) b0 b1 b2 b3 b4 b5 b6 b7 Dc Dq CH Dx FT Cq Jc FV Di GF GG D8 EZ FD Ca C2 Cc))else none)
 (R16 false 0 b0 b1 b2 b3 b4 b5 b6 b7 Dc Dq CH Dx FT Cq Jc FV Di GF GG D8 EZ FD Ca C2 Cc [])
def Wz(R9:Rw)(R16:Pt)(t12:Bool)(t13:Int)(b0:AAO)(b1:AAP)(b2:AAO)(b3:AAS)(b4:AAr)(b5:AAv)(b6:AAs)(b7:AAk)(Dc Dq:Int)(CH:Bool)(Dx FT:Int)(Cq:Bool)(Jc:AAO)(FV:AAP)(Di:AAO)(GF:AAS)(GG:AAr)(D8:AAv)(EZ:AAs)(FD:AAk)(Ca:Int)(C2:ACC)(Cc:Bool)(ub:AAk):Option KW:=
 cond ((decide (t13<(b7.length:Int))))
  (cond (!t12)
   (if(0:Int)≤t13∧t13<(b7.length:Int)then(
   cond (decide (((b7.getD (t13.toNat) (0,[],false,())).1)>Ca))
    (if ub.length+1≤Dr then(
    let x18:AAk:=ub++[(Ca,C2,Cc,())]
    if(0:Int)≤t13∧t13<(b7.length:Int)then(
    if x18.length+1≤Dr then(
    R16 true (AZ (t13+1)) b0 b1 b2 b3 b4 b5 b6 b7 Dc Dq CH Dx FT Cq Jc FV Di GF GG D8 EZ FD Ca C2 Cc (x18++[((b7.getD (t13.toNat) (0,[],false,())).1,(b7.getD (t13.toNat) (0,[],false,())).2.1,(b7.getD (t13.toNat) (0,[],false,())).2.2.1,())]))else none)else none)else none)
   (if(0:Int)≤t13∧t13<(b7.length:Int)then(
   if ub.length+1≤Dr then(
   R16 t12 (AZ (t13+1)) b0 b1 b2 b3 b4 b5 b6 b7 Dc Dq CH Dx FT Cq Jc FV Di GF GG D8 EZ FD Ca C2 Cc (ub++[((b7.getD (t13.toNat) (0,[],false,())).1,(b7.getD (t13.toNat) (0,[],false,())).2.1,(b7.getD (t13.toNat) (0,[],false,())).2.2.1,())]))else none)else none))else none)
  (if(0:Int)≤t13∧t13<(b7.length:Int)then(
  if ub.length+1≤Dr then(
  R16 t12 (AZ (t13+1)) b0 b1 b2 b3 b4 b5 b6 b7 Dc Dq CH Dx FT Cq Jc FV Di GF GG D8 EZ FD Ca C2 Cc (ub++[((b7.getD (t13.toNat) (0,[],false,())).1,(b7.getD (t13.toNat) (0,[],false,())).2.1,(b7.getD (t13.toNat) (0,[],false,())).2.2.1,())]))else none)else none))
 (cond (!t12)
  (if ub.length+1≤Dr then(
  some (((((),Dc,(),(),(),Dq,(),(),(),(),CH,()),0,()),()),(b0,b1,b2,b3,b4,b5,b6,(),(ub++[(Ca,C2,Cc,())]),())))else none)
 (some (((((),Dc,(),(),(),Dq,(),(),(),(),CH,()),0,()),()),(b0,b1,b2,b3,b4,b5,b6,(),ub,()))))
mutual
def Lo:Nat→Rw
 |0=>fun _ _ _ _ _ _ _ _ _ _ _ _ _ _ _ _ _ _ _ _ _ _ _ _ _ _=>none
 |n+1=>YH (Lo n) (Jr n)
def Jr:Nat→Pt
 |0=>fun _ _ _ _ _ _ _ _ _ _ _ _ _ _ _ _ _ _ _ _ _ _ _ _ _ _ _ _=>none
 |n+1=>Wz (Lo n) (Jr n)
end
def Yk(R9:Rw)(R16:Pt)(CI CL:Int)(BS:Bool)(p1:AC3)(b0:AAO)(b1:AAP)(b2:AAO)(b3:AAS)(b4:AAr)(b5:AAv)(b6:AAs)(b7:AAk):Option KW:=
 (LC (b0,CI,b1,b2,b3,CL,b4,b5,b6,b7,BS,()) p1.2.1).bind fun u1=>
 cond (!u1.1.1)
  (some (((((),CI,(),(),(),CL,(),(),(),(),BS,()),2,()),()),(b0,b1,b2,b3,b4,b5,b6,(),b7,())))
 (if(0:Int)≤p1.2.1∧p1.2.1<(b4.length:Int)then(
 (K_ (b0,CI,()) ((b4.getD (p1.2.1.toNat) (0,[],())).1,(b4.getD (p1.2.1.toNat) (0,[],())).2.1,()) p1.2.2.2.2.1).bind fun u2=>
 cond (!u2.1.1.2.2.1)
  (some (((((),CI,(),(),(),CL,(),(),(),(),BS,()),4,()),()),(b0,b1,b2,b3,b4,b5,b6,(),b7,())))
 (cond (((b7.length:Int)==120))
  (some (((((),CI,(),(),(),CL,(),(),(),(),BS,()),4,()),()),(b0,b1,b2,b3,b4,b5,b6,(),b7,())))
 (if(0:Int)≤p1.2.1∧p1.2.1<(b4.length:Int)then(
 (ES u2.1.1.1.1 u2.1.1.2.1).bind fun u5=>
 R9 0 b0 b1 b2 b3 (b4.set (p1.2.1.toNat) (u2.1.1.1.1,u2.2.1,())) b5 b6 b7 CI CL BS 0 0 false [] [] [] [] [] [] [] [] u5.1.1 p1.2.2.2.2.1 false)else none)))else none)
def X8(CI CL:Int)(BS:Bool)(p1:AC3)(b0:AAO)(b1:AAP)(b2:AAO)(b3:AAS)(b4:AAr)(b5:AAv)(b6:AAs)(b7:AAk):Option KW:=Yk (Lo Ae) (Jr Ae) CI CL BS p1 b0 b1 b2 b3 b4 b5 b6 b7
abbrev pL:Type:=ABN×Unit
def HN(p0:ABF)(p1:Int):Option pL:=
 (CG p1 0 (AZ ((p0.2.2.1.length:Int)-1))).bind fun u2=>
 cond (!u2.1.1)
  (some ((2,()),()))
 ((DG p0.2.2.2.1 p1).bind fun u3=>
 cond (u3.1.1)
  (some ((3,()),()))
 (some ((0,()),())))
abbrev nv:Type:=ABG×Unit
def V_(p0:ACN)(p1:AC9):Option nv:=
 cond (p1.2.1==0)
  ((Cr p1.1).bind fun u1=>
  some (((decide (u1.1.1>p0.2.2.1)),()),()))
 (some (((decide (p1.2.1>p0.2.2.1)),()),()))
abbrev mw:Type:=ADH×ADF
def Pg(p0:ACN)(p1:AC9):Option mw:=
 (Gk (p0.1,p0.2.1,p0.2.2.1,())).bind fun u1=>
 cond (!u1.1.1)
  (some (((((),(),0,()),false,()),()),([],[],())))
 ((Em (p0.1,p0.2.1,p0.2.2.1,())).bind fun u2=>
 (L0 (p1.1,p1.2.1,p1.2.2.1,p1.2.2.2.1,())).bind fun u3=>
 cond (!u3.1.1)
  (some (((((),(),u2.1.1.2.2.1,()),false,()),()),(u2.2.1,u2.2.2.1,())))
 ((V_ (p0.1,p0.2.1,p0.2.2.1,()) (p1.1,p1.2.1,p1.2.2.1,p1.2.2.2.1,())).bind fun u4=>
 cond (!u4.1.1)
  (some (((((),(),u2.1.1.2.2.1,()),false,()),()),(u2.2.1,u2.2.2.1,())))
 (cond ((p0.2.1.length:Int)==20)
  (some (((((),(),u2.1.1.2.2.1,()),false,()),()),(u2.2.1,u2.2.2.1,())))
 (if u2.2.2.1.length+1≤Dr then(
 some (((((),(),u2.1.1.2.2.1,()),true,()),()),(u2.2.1,(u2.2.2.1++[(p1.1,p1.2.1,p1.2.2.1,p1.2.2.2.1,())]),())))else none))))
abbrev ba:Type:=ADA×ADD
def Tr(CI CL:Int)(BS:Bool)(p1:AC3)(b0:AAO)(b1:AAP)(b2:AAO)(b3:AAS)(b4:AAr)(b5:AAv)(b6:AAs)(b7:AAk):Option ba:=
 (LC (b0,CI,b1,b2,b3,CL,b4,b5,b6,b7,BS,()) p1.2.1).bind fun u1=>
 cond (!u1.1.1)
  (some (((((),CI,(),(),(),CL,(),(),(),(),BS,()),2,()),()),(b0,b1,b2,b3,b4,b5,b6,b7,())))
 (if(0:Int)≤p1.2.1∧p1.2.1<(b4.length:Int)then(
 (CG p1.2.2.1 1 (((b4.getD (p1.2.1.toNat) (0,[],())).2.1).length:Int)).bind fun u3=>
 cond (!u3.1.1)
  (some (((((),CI,(),(),(),CL,(),(),(),(),BS,()),2,()),()),(b0,b1,b2,b3,b4,b5,b6,b7,())))
 ((HN (b0,CI,b1,b2,b3,CL,b4,b5,b6,b7,BS,()) p1.2.2.2.1).bind fun u4=>
 cond (u4.1.1 !=0)
  (some (((((),CI,(),(),(),CL,(),(),(),(),BS,()),u4.1.1,()),()),(b0,b1,b2,b3,b4,b5,b6,b7,())))
 ((CW (b3,CL,()) ((b4.getD (p1.2.1.toNat) (0,[],())).1)).bind fun u6=>
 (DG u6.2.1 p1.2.2.2.1).bind fun u7=>
 cond (!u7.1.1)
  (some (((((),CI,(),(),(),CL,(),(),(),(),BS,()),2,()),()),(b0,b1,b2,b3,b4,b5,b6,b7,())))
 (if(0:Int)≤p1.2.2.2.1∧p1.2.2.2.1<(b1.length:Int)then(
 if(0:Int)≤AZ (p1.2.2.1-1)∧AZ (p1.2.2.1-1)<(((b4.getD (p1.2.1.toNat) (0,[],())).2.1).length:Int)then(
 (ES ((b4.getD (p1.2.1.toNat) (0,[],())).1) p1.2.2.1).bind fun ED=>
 (Pg ((b1.getD (p1.2.2.2.1.toNat) ([],[],0,())).1,(b1.getD (p1.2.2.2.1.toNat) ([],[],0,())).2.1,(b1.getD (p1.2.2.2.1.toNat) ([],[],0,())).2.2.1,()) (ED.1.1,0,false,((((b4.getD (p1.2.1.toNat) (0,[],())).2.1).getD ((AZ (p1.2.2.1-1)).toNat) ([],[],false,())).1),())).bind fun N9=>
 cond (!N9.1.1.2.1)
  (some (((((),CI,(),(),(),CL,(),(),(),(),BS,()),4,()),()),(b0,b1,b2,b3,b4,b5,b6,b7,())))
 (if(0:Int)≤p1.2.2.2.1∧p1.2.2.2.1<(b1.length:Int)then(
 some (((((),CI,(),(),(),CL,(),(),(),(),BS,()),0,()),()),(b0,(b1.set (p1.2.2.2.1.toNat) (N9.2.1,N9.2.2.1,N9.1.1.1.2.2.1,())),b2,b3,b4,b5,b6,b7,())))else none))else none)else none))))else none)
abbrev qx:Type:=(AC9×Unit)×Unit
def Qg(p0 p1:AC9):Option qx:=
 cond ((decide (p1.2.1>p0.2.1)))
  (some (((p1.1,p1.2.1,p1.2.2.1,p1.2.2.2.1,()),()),()))
 (some (((p0.1,p0.2.1,p0.2.2.1,p0.2.2.2.1,()),()),()))
abbrev T3:Type:=ACW×AFH
abbrev Wv:Type:=AAw→Bool→Int→Int→Int→Bool→List UInt8→AAw→Option T3
def Rt(R4:Wv)(t0:AAw)(t6:Bool)(t7 AU AG:Int)(Aq:Bool)(Ck:ACC)(b1:AAw):Option T3:=
 cond ((decide (t7<(t0.length:Int))))
  (cond (!t6)
   (if(0:Int)≤t7∧t7<(t0.length:Int)then(
   cond (((t0.getD (t7.toNat) (0,0,false,[],())).1)==AU)
    (if(0:Int)≤t7∧t7<(t0.length:Int)then(
    (Qg ((t0.getD (t7.toNat) (0,0,false,[],())).1,(t0.getD (t7.toNat) (0,0,false,[],())).2.1,(t0.getD (t7.toNat) (0,0,false,[],())).2.2.1,(t0.getD (t7.toNat) (0,0,false,[],())).2.2.2.1,()) (AU,AG,Aq,Ck,())).bind fun u3=>
    if b1.length+1≤Dr then(
    R4 t0 true (AZ (t7+1)) AU AG Aq Ck (b1++[(u3.1.1.1,u3.1.1.2.1,u3.1.1.2.2.1,u3.1.1.2.2.2.1,())]))else none)else none)
   (cond (!t6)
    (if(0:Int)≤t7∧t7<(t0.length:Int)then(
    cond (decide (((t0.getD (t7.toNat) (0,0,false,[],())).1)>AU))
     (if b1.length+1≤Dr then(
     let x6:AAw:=b1++[(AU,AG,Aq,Ck,())]
     if(0:Int)≤t7∧t7<(t0.length:Int)then(
     if x6.length+1≤Dr then(
     R4 t0 true (AZ (t7+1)) AU AG Aq Ck (x6++[((t0.getD (t7.toNat) (0,0,false,[],())).1,(t0.getD (t7.toNat) (0,0,false,[],())).2.1,(t0.getD (t7.toNat) (0,0,false,[],())).2.2.1,(t0.getD (t7.toNat) (0,0,false,[],())).2.2.2.1,())]))else none)else none)else none)
    (if(0:Int)≤t7∧t7<(t0.length:Int)then(
    if b1.length+1≤Dr then(
    R4 t0 t6 (AZ (t7+1)) AU AG Aq Ck (b1++[((t0.getD (t7.toNat) (0,0,false,[],())).1,(t0.getD (t7.toNat) (0,0,false,[],())).2.1,(t0.getD (t7.toNat) (0,0,false,[],())).2.2.1,(t0.getD (t7.toNat) (0,0,false,[],())).2.2.2.1,())]))else none)else none))else none)
   (if(0:Int)≤t7∧t7<(t0.length:Int)then(
   if b1.length+1≤Dr then(
   R4 t0 t6 (AZ (t7+1)) AU AG Aq Ck (b1++[((t0.getD (t7.toNat) (0,0,false,[],())).1,(t0.getD (t7.toNat) (0,0,false,[],())).2.1,(t0.getD (t7.toNat) (0,0,false,[],())).2.2.1,(t0.getD (t7.toNat) (0,0,false,[],())).2.2.2.1,())]))else none)else none)))else none)
  (cond (!t6)
   (if(0:Int)≤t7∧t7<(t0.length:Int)then(
   cond (decide (((t0.getD (t7.toNat) (0,0,false,[],())).1)>AU))
    (if b1.length+1≤Dr then(
    let x11:AAw:=b1++[(AU,AG,Aq,Ck,())]
    if(0:Int)≤t7∧t7<(t0.length:Int)then(
    if x11.length+1≤Dr then(
    R4 t0 true (AZ (t7+1)) AU AG Aq Ck (x11++[((t0.getD (t7.toNat) (0,0,false,[],())).1,(t0.getD (t7.toNat) (0,0,false,[],())).2.1,(t0.getD (t7.toNat) (0,0,false,[],())).2.2.1,(t0.getD (t7.toNat) (0,0,false,[],())).2.2.2.1,())]))else none)else none)else none)
   (if(0:Int)≤t7∧t7<(t0.length:Int)then(
   if b1.length+1≤Dr then(
   R4 t0 t6 (AZ (t7+1)) AU AG Aq Ck (b1++[((t0.getD (t7.toNat) (0,0,false,[],())).1,(t0.getD (t7.toNat) (0,0,false,[],())).2.1,(t0.getD (t7.toNat) (0,0,false,[],())).2.2.1,(t0.getD (t7.toNat) (0,0,false,[],())).2.2.2.1,())]))else none)else none))else none)
  (if(0:Int)≤t7∧t7<(t0.length:Int)then(
  if b1.length+1≤Dr then(
  R4 t0 t6 (AZ (t7+1)) AU AG Aq Ck (b1++[((t0.getD (t7.toNat) (0,0,false,[],())).1,(t0.getD (t7.toNat) (0,0,false,[],())).2.1,(t0.getD (t7.toNat) (0,0,false,[],())).2.2.1,(t0.getD (t7.toNat) (0,0,false,[],())).2.2.2.1,())]))else none)else none)))
 (cond (!t6)
  (if b1.length+1≤Dr then(
  some (((),()),((b1++[(AU,AG,Aq,Ck,())]),())))else none)
 (some (((),()),(b1,()))))
def JJ:Nat→Wv
 |0=>fun _ _ _ _ _ _ _ _=>none
 |n+1=>Rt (JJ n)
def YU(R4:Wv)(p0:AAw)(p1:AC9):Option T3:=
 R4 p0 false 0 p1.1 p1.2.1 p1.2.2.1 p1.2.2.2.1 []
def Qd(p0:AAw)(p1:AC9):Option T3:=YU (JJ Ae) p0 p1
abbrev NO:Type:=ADH×ADF
abbrev QR:Type:=Int→Int→AAw→AAw→Int→Int→AAw→AAw→Int→AAw→AAw→Option NO
def Sw(R5:QR)(t1 t7:Int)(AU AG:AAw)(Aq El:Int)(b2 b3:AAw)(aZ:Int)(b5 b6:AAw):Option NO:=
 cond ((decide (t7<(AG.length:Int))))
  (if t7<0 then none else(
  cond (((cP .i64 (t1.fdiv (2^(min t7.toNat 64))) 1)==1))
   (if(0:Int)≤t7∧t7<(AG.length:Int)then(
   (Qd b5 ((AG.getD (t7.toNat) (0,0,false,[],())).1,(AG.getD (t7.toNat) (0,0,false,[],())).2.1,(AG.getD (t7.toNat) (0,0,false,[],())).2.2.1,(AG.getD (t7.toNat) (0,0,false,[],())).2.2.2.1,())).bind fun u5=>
   R5 t1 (AZ (t7+1)) AU AG Aq El b2 b3 aZ u5.2.1 b6)else none)
  (R5 t1 (AZ (t7+1)) AU AG Aq El b2 b3 aZ b5 b6)))
 ((CG t1 0 1048575).bind fun u6=>
 cond (!u6.1.1)
  ((Em (AU,AG,Aq,())).bind fun u7=>
  some (((((),(),u7.1.1.2.2.1,()),false,()),()),(u7.2.1,u7.2.2.1,())))
 (cond ((decide ((b5.length:Int)>200)))
  ((Em (AU,AG,Aq,())).bind fun u9=>
  some (((((),(),u9.1.1.2.2.1,()),false,()),()),(u9.2.1,u9.2.2.1,())))
 (some (((((),(),aZ,()),true,()),()),(b5,b6,())))))
def I8:Nat→QR
 |0=>fun _ _ _ _ _ _ _ _ _ _ _=>none
 |n+1=>Sw (I8 n)
def Sb(R5:QR)(p0:ACN)(p1:Int):Option NO:=
 (Gk (p0.1,p0.2.1,p0.2.2.1,())).bind fun u1=>
 cond (!u1.1.1)
  (some (((((),(),0,()),false,()),()),([],[],())))
 (if 0+p0.1.length≤Dr then(
 R5 p1 0 p0.1 p0.2.1 p0.2.2.1 0 [] [] p0.2.2.1 p0.1 [])else none)
def MY(p0:ACN)(p1:Int):Option NO:=Sb (I8 Ae) p0 p1
abbrev lF:Type:=ADH×ADF
def N_(p0:ACN):Option lF:=
 (MY (p0.1,p0.2.1,p0.2.2.1,()) 1048575).bind fun u1=>
 some (((((),(),u1.1.1.1.2.2.1,()),u1.1.1.2.1,()),()),(u1.2.1,u1.2.2.1,()))
abbrev Gc:Type:=AFY×Unit
abbrev ZV:Type:=AAw→Int→Int→Int→Int→Bool→List UInt8→Option Gc
def Zy(R2:ZV)(t0:AAw)(t1 t6 AU AG:Int)(Aq:Bool)(Ck:ACC):Option Gc:=
 cond ((decide (t6<(t0.length:Int))))
  (if(0:Int)≤t6∧t6<(t0.length:Int)then(
  cond (((t0.getD (t6.toNat) (0,0,false,[],())).1)==t1)
   (if(0:Int)≤t6∧t6<(t0.length:Int)then(
   some (((((t0.getD (t6.toNat) (0,0,false,[],())).1,(t0.getD (t6.toNat) (0,0,false,[],())).2.1,(t0.getD (t6.toNat) (0,0,false,[],())).2.2.1,(t0.getD (t6.toNat) (0,0,false,[],())).2.2.2.1,()),true,()),()),()))else none)
  (R2 t0 t1 (AZ (t6+1)) AU AG Aq Ck))else none)
 (some ((((0,0,false,[],()),false,()),()),()))
def Pb:Nat→ZV
 |0=>fun _ _ _ _ _ _ _=>none
 |n+1=>Zy (Pb n)
def Z1(R2:ZV)(p0:AAw)(p1:Int):Option Gc:=
 R2 p0 p1 0 0 0 false []
def HJ(p0:AAw)(p1:Int):Option Gc:=Z1 (Pb Ae) p0 p1
abbrev F_:Type:=AFn×ADw
def FZ(p0:AA9)(p1:ACF)(p2 p3:Int):Option F_:=
 (HS (p0.1,p0.2.1,()) (p1.1,p1.2.1,())).bind fun u1=>
 cond (!u1.1.1)
  (some ((((0,(),()),false,()),()),([],())))
 ((FP (p1.1,p1.2.1,())).bind fun u2=>
 (CG p2 1 (p1.2.1.length:Int)).bind fun u4=>
 cond (!u4.1.1)
  (some ((((u2.1.1.1,(),()),false,()),()),(u2.2.1,())))
 ((CG p3 0 (AZ ((p0.1.length:Int)-1))).bind fun u6=>
 cond (!u6.1.1)
  (some ((((u2.1.1.1,(),()),false,()),()),(u2.2.1,())))
 (if(0:Int)≤AZ (p2-1)∧AZ (p2-1)<(p1.2.1.length:Int)then(
 cond (((p1.2.1.getD ((AZ (p2-1)).toNat) ([],[],false,())).2.2.1))
  (some ((((u2.1.1.1,(),()),false,()),()),(u2.2.1,())))
 (if(0:Int)≤AZ (p2-1)∧AZ (p2-1)<(u2.2.1.length:Int)then(
 (Lu ((u2.2.1.getD ((AZ (p2-1)).toNat) ([],[],false,())).2.1) p3).bind fun u8=>
 if(0:Int)≤AZ (p2-1)∧AZ (p2-1)<(u2.2.1.length:Int)then(
 let x9:ACA:=(u2.2.1.set ((AZ (p2-1)).toNat) ((u2.2.1.getD ((AZ (p2-1)).toNat) ([],[],false,())).1,u8.2.1,(u2.2.1.getD ((AZ (p2-1)).toNat) ([],[],false,())).2.2.1,()))
 if(0:Int)≤AZ (p2-1)∧AZ (p2-1)<(x9.length:Int)then(
 (FL (p0.1,p0.2.1,()) ((x9.getD ((AZ (p2-1)).toNat) ([],[],false,())).2.1)).bind fun ED=>
 if(0:Int)≤AZ (p2-1)∧AZ (p2-1)<(x9.length:Int)then(
 some ((((u2.1.1.1,(),()),true,()),()),((x9.set ((AZ (p2-1)).toNat) ((x9.getD ((AZ (p2-1)).toNat) ([],[],false,())).1,(x9.getD ((AZ (p2-1)).toNat) ([],[],false,())).2.1,ED.1.1,())),())))else none)else none)else none)else none))else none)))
abbrev lO:Type:=AEH×Unit
def RZ(p0 p1:Int):Option lO:=
 (CG p0 1 30).bind fun u1=>
 cond (!u1.1.1)
  (some (((0,false,()),()),()))
 ((CG p1 1 60).bind fun u2=>
 cond (!u2.1.1)
  (some (((0,false,()),()),()))
 (some (((AZ ((AZ (4294967296*p0))+p1),true,()),()),())))
abbrev Fq:Type:=AFY×Unit
def Eg(p0:ABH)(p1:Int):Option Fq:=
 (RZ p0.2.1 p1).bind fun u1=>
 cond (!p0.2.2.2.2.1)
  (some ((((0,0,false,[],()),false,()),()),()))
 (cond (!u1.1.1.2.1)
  (some ((((0,0,false,[],()),false,()),()),()))
 (cond (decide (p1>(p0.2.2.2.2.2.1.length:Int)))
  (some ((((0,0,false,[],()),false,()),()),()))
 ((HJ p0.2.2.2.1 u1.1.1.1).bind fun u3=>
 cond (u3.1.1.2.1)
  (some ((((u1.1.1.1,p0.1,u3.1.1.1.2.2.1,u3.1.1.1.2.2.2.1,()),true,()),()),()))
 (some ((((u1.1.1.1,p0.1,true,[],()),true,()),()),())))))
abbrev Hi:Type:=ADz×ADG
def HL(p0:AA9)(p1:ABH)(p2 p3:Int):Option Hi:=
 (Ig (p0.1,p0.2.1,()) (p1.1,p1.2.1,p1.2.2.1,p1.2.2.2.1,p1.2.2.2.2.1,p1.2.2.2.2.2.1,())).bind fun u1=>
 cond (!u1.1.1)
  (some ((((0,0,(),(),false,(),()),false,()),()),([],[],[],())))
 ((EM (p1.1,p1.2.1,p1.2.2.1,p1.2.2.2.1,p1.2.2.2.2.1,p1.2.2.2.2.2.1,())).bind fun u2=>
 (CG p2 1 (p1.2.2.2.2.2.1.length:Int)).bind fun u4=>
 cond (!u4.1.1)
  (some ((((u2.1.1.1,u2.1.1.2.1,(),(),u2.1.1.2.2.2.2.1,(),()),false,()),()),(u2.2.1,u2.2.2.1,u2.2.2.2.1,())))
 ((CG p3 0 (AZ ((p0.1.length:Int)-1))).bind fun u6=>
 cond (!u6.1.1)
  (some ((((u2.1.1.1,u2.1.1.2.1,(),(),u2.1.1.2.2.2.2.1,(),()),false,()),()),(u2.2.1,u2.2.2.1,u2.2.2.2.1,())))
 (if(0:Int)≤AZ (p2-1)∧AZ (p2-1)<(u2.2.2.2.1.length:Int)then(
 (Lu (u2.2.2.2.1.getD ((AZ (p2-1)).toNat) []) p3).bind fun u7=>
 if(0:Int)≤AZ (p2-1)∧AZ (p2-1)<(u2.2.2.2.1.length:Int)then(
 some ((((u2.1.1.1,u2.1.1.2.1,(),(),u2.1.1.2.2.2.2.1,(),()),true,()),()),(u2.2.1,u2.2.2.1,(u2.2.2.2.1.set ((AZ (p2-1)).toNat) u7.2.1),())))else none)else none)))
abbrev Bw:Type:=AF7×ADD
abbrev H6:Type:=Int→Int→List Int→AAP→List Int→AAS→AAr→AAv→AAs→AAk→Int→Int→Bool→Int→Int→Bool→List Int→AAP→List Int→AAS→AAr→AAv→AAs→AAk→AAw→AAw→Int→Option Bw
abbrev H3:Type:=Int→Int→Int→Int→Int→Bool→List Int→AAP→List Int→AAS→AAr→AAv→AAs→AAk→Int→Int→Bool→Int→Int→Bool→List Int→AAP→List Int→AAS→AAr→AAv→AAs→AAk→AAw→AAw→Int→Int→ACA→Option Bw
abbrev G8:Type:=Int→Int→Int→Int→Int→Bool→List Int→AAP→List Int→AAS→AAr→AAv→AAs→AAk→Int→Int→Bool→Int→Int→Bool→List Int→AAP→List Int→AAS→AAr→AAv→AAs→AAk→AAw→AAw→Int→Int→ACA→Option Bw
abbrev HH:Type:=Int→Int→List Int→AAP→List Int→AAS→AAr→AAv→AAs→AAk→Int→Int→Bool→Int→Int→Bool→List Int→AAP→List Int→AAS→AAr→AAv→AAs→AAk→AAw→AAw→Int→Option Bw
abbrev HA:Type:=Int→Int→Int→List Int→AAP→List Int→AAS→AAr→AAv→AAs→AAk→Int→Int→Bool→Int→Int→Bool→List Int→AAP→List Int→AAS→AAr→AAv→AAs→AAk→AAw→AAw→Int→Int→Int→List Int→AAw→Bool→List AAO→Option Bw
def L3(R3:H6)(R8:H3)(p8:G8)(R21:HH)(R25:HA)(t1 t6:Int)(b0:AAO)(b1:AAP)(b2:AAO)(b3:AAS)(b4:AAr)(b5:AAv)(b6:AAs)(b7:AAk)(Dc Dq:Int)(CH:Bool)(Dx FT:Int)(Cq:Bool)(Jc:AAO)(FV:AAP)(Di:AAO)(GF:AAS)(GG:AAr)(D8:AAv)(EZ:AAs)(FD:AAk)(Ca C2:AAw)(Cc:Int):Option Bw:=
 cond ((decide (t6<(b4.length:Int))))
  (if(0:Int)≤t6∧t6<(b4.length:Int)then(
  (CW (b3,Dq,()) ((b4.getD (t6.toNat) (0,[],())).1)).bind fun u3=>
  (DG u3.2.1 t1).bind fun u4=>
  cond (!u4.1.1)
   (R3 t1 (AZ (t6+1)) b0 b1 b2 b3 b4 b5 b6 b7 Dc Dq CH Dx FT Cq Jc FV Di GF GG D8 EZ FD Ca C2 Cc)
  (let x5:Int:=(b4.getD (t6.toNat) (0,[],())).1
  cond (decide (Cc≥x5))
   (R3 t1 (AZ (t6+1)) b0 b1 b2 b3 b4 b5 b6 b7 Dc Dq CH Dx FT Cq Jc FV Di GF GG D8 EZ FD Ca C2 Cc)
  (R8 t1 t6 1 Cc x5 (decide (Cc≥x5)) b0 b1 b2 b3 b4 b5 b6 b7 Dc Dq CH Dx FT Cq Jc FV Di GF GG D8 EZ FD Ca C2 Cc ((b4.getD (t6.toNat) (0,[],())).1) ((b4.getD (t6.toNat) (0,[],())).2.1))))else none)
 (R21 t1 0 b0 b1 b2 b3 b4 b5 b6 b7 Dc Dq CH Dx FT Cq Jc FV Di GF GG D8 EZ FD Ca C2 Cc)
def L9(R3:H6)(R8:H3)(p8:G8)(R21:HH)(R25:HA)(t1 t6 t8 t47 t49:Int)(t50:Bool)(b0:AAO)(b1:AAP)(b2:AAO)(b3:AAS)(b4:AAr)(b5:AAv)(b6:AAs)(b7:AAk)(Dc Dq:Int)(CH:Bool)(Dx FT:Int)(Cq:Bool)(Jc:AAO)(FV:AAP)(Di:AAO)(GF:AAS)(GG:AAr)(D8:AAv)(EZ:AAs)(FD:AAk)(Ca C2:AAw)(Cc DS:Int)(CP:ACA):Option Bw:=
 cond ((decide (t8≤(CP.length:Int))))
  ((ES DS t8).bind fun u7=>
  (HJ Ca u7.1.1).bind fun u8=>
  cond (!u8.1.1.2.1)
   (R8 t1 t6 (AZ (t8+1)) t47 t49 t50 b0 b1 b2 b3 b4 b5 b6 b7 Dc Dq CH Dx FT Cq Jc FV Di GF GG D8 EZ FD Ca C2 Cc DS CP)
  (cond (u8.1.1.1.2.1 !=0)
   (R8 t1 t6 (AZ (t8+1)) t47 t49 t50 b0 b1 b2 b3 b4 b5 b6 b7 Dc Dq CH Dx FT Cq Jc FV Di GF GG D8 EZ FD Ca C2 Cc DS CP)
  (if(0:Int)≤AZ (t8-1)∧AZ (t8-1)<(CP.length:Int)then(
  cond (((CP.getD ((AZ (t8-1)).toNat) ([],[],false,())).2.2.1))
   (R8 t1 t6 (AZ (t8+1)) t47 t49 t50 b0 b1 b2 b3 b4 b5 b6 b7 Dc Dq CH Dx FT Cq Jc FV Di GF GG D8 EZ FD Ca C2 Cc DS CP)
  ((FZ (b0,Dc,()) (DS,CP,()) t8 t1).bind fun ED=>
  R8 t1 t6 (AZ (t8+1)) t47 t49 t50 b0 b1 b2 b3 b4 b5 b6 b7 Dc Dq CH Dx FT Cq Jc FV Di GF GG D8 EZ FD Ca C2 Cc ED.1.1.1.1 ED.2.1))else none)))
 (if(0:Int)≤t6∧t6<(b4.length:Int)then(
 p8 t1 t6 0 t47 t49 t50 b0 b1 b2 b3 (b4.set (t6.toNat) (DS,CP,())) b5 b6 b7 Dc Dq CH Dx FT Cq Jc FV Di GF GG D8 EZ FD Ca C2 Cc DS CP)else none)
def Ks(R3:H6)(R8:H3)(p8:G8)(R21:HH)(R25:HA)(t1 t6 t11 t47 t49:Int)(t50:Bool)(b0:AAO)(b1:AAP)(b2:AAO)(b3:AAS)(b4:AAr)(b5:AAv)(b6:AAs)(b7:AAk)(Dc Dq:Int)(CH:Bool)(Dx FT:Int)(Cq:Bool)(Jc:AAO)(FV:AAP)(Di:AAO)(GF:AAS)(GG:AAr)(D8:AAv)(EZ:AAs)(FD:AAk)(Ca C2:AAw)(Cc DS:Int)(CP:ACA):Option Bw:=
 cond ((decide (t11<(b7.length:Int))))
  (if(0:Int)≤t11∧t11<(b7.length:Int)then(
  let x65:Int:=(b7.getD (t11.toNat) (0,[],false,())).1
  (Cr x65).bind fun u66=>
  cond (u66.1.1==DS)
   ((HD x65).bind fun u67=>
   cond ((decide (u67.1.1≤(CP.length:Int))))
    ((HD x65).bind fun u69=>
    if(0:Int)≤AZ (u69.1.1-1)∧AZ (u69.1.1-1)<(CP.length:Int)then(
    cond (((CP.getD ((AZ (u69.1.1-1)).toNat) ([],[],false,())).2.2.1))
     (if(0:Int)≤t11∧t11<(b7.length:Int)then(
     p8 t1 t6 (AZ (t11+1)) t47 t49 t50 b0 b1 b2 b3 b4 b5 b6 (b7.set (t11.toNat) ((b7.getD (t11.toNat) (0,[],false,())).1,(b7.getD (t11.toNat) (0,[],false,())).2.1,true,())) Dc Dq CH Dx FT Cq Jc FV Di GF GG D8 EZ FD Ca C2 Cc DS CP)else none)
    (p8 t1 t6 (AZ (t11+1)) t47 t49 t50 b0 b1 b2 b3 b4 b5 b6 b7 Dc Dq CH Dx FT Cq Jc FV Di GF GG D8 EZ FD Ca C2 Cc DS CP))else none)
   (p8 t1 t6 (AZ (t11+1)) t47 t49 t50 b0 b1 b2 b3 b4 b5 b6 b7 Dc Dq CH Dx FT Cq Jc FV Di GF GG D8 EZ FD Ca C2 Cc DS CP))
  (p8 t1 t6 (AZ (t11+1)) t47 t49 t50 b0 b1 b2 b3 b4 b5 b6 b7 Dc Dq CH Dx FT Cq Jc FV Di GF GG D8 EZ FD Ca C2 Cc DS CP))else none)
 (R3 t1 (AZ (t6+1)) b0 b1 b2 b3 b4 b5 b6 b7 Dc Dq CH Dx FT Cq Jc FV Di GF GG D8 EZ FD Ca C2 Cc)
def Kq(R3:H6)(R8:H3)(p8:G8)(R21:HH)(R25:HA)(t1 t13:Int)(b0:AAO)(b1:AAP)(b2:AAO)(b3:AAS)(b4:AAr)(b5:AAv)(b6:AAs)(b7:AAk)(Dc Dq:Int)(CH:Bool)(Dx FT:Int)(Cq:Bool)(Jc:AAO)(FV:AAP)(Di:AAO)(GF:AAS)(GG:AAr)(D8:AAv)(EZ:AAs)(FD:AAk)(Ca C2:AAw)(Cc:Int):Option Bw:=
 cond ((decide (t13<(b5.length:Int))))
  (if(0:Int)≤t13∧t13<(b5.length:Int)then(
  R25 t1 t13 1 b0 b1 b2 b3 b4 b5 b6 b7 Dc Dq CH Dx FT Cq Jc FV Di GF GG D8 EZ FD Ca C2 Cc ((b5.getD (t13.toNat) (0,0,[],[],false,[],())).1) ((b5.getD (t13.toNat) (0,0,[],[],false,[],())).2.1) ((b5.getD (t13.toNat) (0,0,[],[],false,[],())).2.2.1) ((b5.getD (t13.toNat) (0,0,[],[],false,[],())).2.2.2.1) ((b5.getD (t13.toNat) (0,0,[],[],false,[],())).2.2.2.2.1) ((b5.getD (t13.toNat) (0,0,[],[],false,[],())).2.2.2.2.2.1))else none)
 (some ((((),Dc,(),(),(),Dq,(),(),(),(),CH,()),()),(b0,b1,b2,b3,b4,b5,b6,b7,())))
def ID(R3:H6)(R8:H3)(p8:G8)(R21:HH)(R25:HA)(t1 t13 t15:Int)(b0:AAO)(b1:AAP)(b2:AAO)(b3:AAS)(b4:AAr)(b5:AAv)(b6:AAs)(b7:AAk)(Dc Dq:Int)(CH:Bool)(Dx FT:Int)(Cq:Bool)(Jc:AAO)(FV:AAP)(Di:AAO)(GF:AAS)(GG:AAr)(D8:AAv)(EZ:AAs)(FD:AAk)(Ca C2:AAw)(Cc DS CP:Int)(UG:AAO)(Ui:AAw)(UT:Bool)(UF:List AAO):Option Bw:=
 if(0:Int)≤t13∧t13<(b5.length:Int)then(
 cond (decide (t15≤(((b5.getD (t13.toNat) (0,0,[],[],false,[],())).2.2.2.2.2.1).length:Int)))
  ((CW (b3,Dq,()) CP).bind fun u74=>
  (DG u74.2.1 t1).bind fun u75=>
  cond (u75.1.1)
   ((Eg (DS,CP,UG,Ui,UT,UF,()) t15).bind fun u76=>
   (HJ Ca u76.1.1.1.1).bind fun u77=>
   cond (u77.1.1.2.1)
    (cond (((u77.1.1.1.1==u76.1.1.1.1)&&((u77.1.1.1.2.1==u76.1.1.1.2.1)&&((u77.1.1.1.2.2.1==u76.1.1.1.2.2.1)&&((u77.1.1.1.2.2.2.1==u76.1.1.1.2.2.2.1)&&true)))))
     ((HL (b0,Dc,()) (DS,CP,UG,Ui,UT,UF,()) t15 t1).bind fun u79=>
     R25 t1 t13 (AZ (t15+1)) b0 b1 b2 b3 b4 b5 b6 b7 Dc Dq CH Dx FT Cq Jc FV Di GF GG D8 EZ FD Ca C2 Cc u79.1.1.1.1 u79.1.1.1.2.1 u79.2.1 u79.2.2.1 u79.1.1.1.2.2.2.2.1 u79.2.2.2.1)
    (R25 t1 t13 (AZ (t15+1)) b0 b1 b2 b3 b4 b5 b6 b7 Dc Dq CH Dx FT Cq Jc FV Di GF GG D8 EZ FD Ca C2 Cc DS CP UG Ui UT UF))
   (R25 t1 t13 (AZ (t15+1)) b0 b1 b2 b3 b4 b5 b6 b7 Dc Dq CH Dx FT Cq Jc FV Di GF GG D8 EZ FD Ca C2 Cc DS CP UG Ui UT UF))
  (if(0:Int)≤t13∧t13<(b5.length:Int)then(
  R21 t1 (AZ (t13+1)) b0 b1 b2 b3 b4 (b5.set (t13.toNat) (DS,CP,UG,Ui,UT,UF,())) b6 b7 Dc Dq CH Dx FT Cq Jc FV Di GF GG D8 EZ FD Ca C2 Cc)else none))
 (if(0:Int)≤t13∧t13<(b5.length:Int)then(
 R21 t1 (AZ (t13+1)) b0 b1 b2 b3 b4 (b5.set (t13.toNat) (DS,CP,UG,Ui,UT,UF,())) b6 b7 Dc Dq CH Dx FT Cq Jc FV Di GF GG D8 EZ FD Ca C2 Cc)else none))else none
mutual
def Be:Nat→H6
 |0=>fun _ _ _ _ _ _ _ _ _ _ _ _ _ _ _ _ _ _ _ _ _ _ _ _ _ _ _=>none
 |n+1=>L3 (Be n) (BD n) (BF n) (Bg n) (Bb n)
def BD:Nat→H3
 |0=>fun _ _ _ _ _ _ _ _ _ _ _ _ _ _ _ _ _ _ _ _ _ _ _ _ _ _ _ _ _ _ _ _ _=>none
 |n+1=>L9 (Be n) (BD n) (BF n) (Bg n) (Bb n)
def BF:Nat→G8
 |0=>fun _ _ _ _ _ _ _ _ _ _ _ _ _ _ _ _ _ _ _ _ _ _ _ _ _ _ _ _ _ _ _ _ _=>none
 |n+1=>Ks (Be n) (BD n) (BF n) (Bg n) (Bb n)
def Bg:Nat→HH
 |0=>fun _ _ _ _ _ _ _ _ _ _ _ _ _ _ _ _ _ _ _ _ _ _ _ _ _ _ _=>none
 |n+1=>Kq (Be n) (BD n) (BF n) (Bg n) (Bb n)
def Bb:Nat→HA
 |0=>fun _ _ _ _ _ _ _ _ _ _ _ _ _ _ _ _ _ _ _ _ _ _ _ _ _ _ _ _ _ _ _ _ _ _=>none
 |n+1=>ID (Be n) (BD n) (BF n) (Bg n) (Bb n)
end
def QK(R3:H6)(R8:H3)(p8:G8)(R21:HH)(R25:HA)(CI CL:Int)(BS:Bool)(p1:Int)(b0:AAO)(b1:AAP)(b2:AAO)(b3:AAS)(b4:AAr)(b5:AAv)(b6:AAs)(b7:AAk):Option Bw:=
 if(0:Int)≤p1∧p1<(b1.length:Int)then(
 R3 p1 0 b0 b1 b2 b3 b4 b5 b6 b7 CI CL BS 0 0 false [] [] [] [] [] [] [] [] ((b1.getD (p1.toNat) ([],[],0,())).1) ((b1.getD (p1.toNat) ([],[],0,())).2.1) ((b1.getD (p1.toNat) ([],[],0,())).2.2.1))else none
def V7(CI CL:Int)(BS:Bool)(p1:Int)(b0:AAO)(b1:AAP)(b2:AAO)(b3:AAS)(b4:AAr)(b5:AAv)(b6:AAs)(b7:AAk):Option Bw:=QK (Be Ae) (BD Ae) (BF Ae) (Bg Ae) (Bb Ae) CI CL BS p1 b0 b1 b2 b3 b4 b5 b6 b7
abbrev oX:Type:=ADA×ADD
def WC(CI CL:Int)(BS:Bool)(p1:AC3)(b0:AAO)(b1:AAP)(b2:AAO)(b3:AAS)(b4:AAr)(b5:AAv)(b6:AAs)(b7:AAk):Option oX:=
 (HN (b0,CI,b1,b2,b3,CL,b4,b5,b6,b7,BS,()) p1.2.1).bind fun u1=>
 cond (u1.1.1 !=0)
  (some (((((),CI,(),(),(),CL,(),(),(),(),BS,()),u1.1.1,()),()),(b0,b1,b2,b3,b4,b5,b6,b7,())))
 (if(0:Int)≤p1.2.1∧p1.2.1<(b1.length:Int)then(
 (N_ ((b1.getD (p1.2.1.toNat) ([],[],0,())).1,(b1.getD (p1.2.1.toNat) ([],[],0,())).2.1,(b1.getD (p1.2.1.toNat) ([],[],0,())).2.2.1,())).bind fun u2=>
 cond (!u2.1.1.2.1)
  (some (((((),CI,(),(),(),CL,(),(),(),(),BS,()),4,()),()),(b0,b1,b2,b3,b4,b5,b6,b7,())))
 (if(0:Int)≤p1.2.1∧p1.2.1<(b1.length:Int)then(
 (V7 CI CL BS p1.2.1 b0 (b1.set (p1.2.1.toNat) (u2.2.1,u2.2.2.1,u2.1.1.1.2.2.1,())) b2 b3 b4 b5 b6 b7).bind fun u4=>
 some (((((),u4.1.1.2.1,(),(),(),u4.1.1.2.2.2.2.2.1,(),(),(),(),u4.1.1.2.2.2.2.2.2.2.2.2.2.1,()),0,()),()),(u4.2.1,u4.2.2.1,u4.2.2.2.1,u4.2.2.2.2.1,u4.2.2.2.2.2.1,u4.2.2.2.2.2.2.1,u4.2.2.2.2.2.2.2.1,u4.2.2.2.2.2.2.2.2.1,())))else none))else none)
abbrev Tn:Type:=ACW×ACj
abbrev Wb:Type:=List Int→List Int→Int→List Int→Option Tn
def Yi(R3:Wb)(t0 t1:AAO)(t6:Int)(b0:AAO):Option Tn:=
 cond ((decide (t6<(t0.length:Int))))
  (if(0:Int)≤t6∧t6<(t0.length:Int)then(
  (DG t1 (t0.getD (t6.toNat) 0)).bind fun u3=>
  cond (!u3.1.1)
   (if(0:Int)≤t6∧t6<(t0.length:Int)then(
   if b0.length+1≤Dr then(
   R3 t0 t1 (AZ (t6+1)) (b0++[(t0.getD (t6.toNat) 0)]))else none)else none)
  (R3 t0 t1 (AZ (t6+1)) b0))else none)
 (some (((),()),(b0,())))
def OG:Nat→Wb
 |0=>fun _ _ _ _=>none
 |n+1=>Yi (OG n)
def Yq(R3:Wb)(p0 p1:AAO):Option Tn:=
 R3 p0 p1 0 []
def Ia(p0 p1:AAO):Option Tn:=Yq (OG Ae) p0 p1
abbrev Ko:Type:=AFn×ADw
abbrev OI:Type:=Int→Int→Int→ACA→Int→ACA→Option Ko
def Q2(R5:OI)(t2 t9 AU:Int)(b1:ACA)(Zz:Int)(b3:ACA):Option Ko:=
 cond ((decide (t9<(b3.length:Int))))
  (if(0:Int)≤t9∧t9<(b3.length:Int)then(
  cond (!((b3.getD (t9.toNat) ([],[],false,())).2.2.1))
   (if(0:Int)≤t9∧t9<(b3.length:Int)then(
   (Ia ((b3.getD (t9.toNat) ([],[],false,())).2.1) [t2]).bind fun u5=>
   if(0:Int)≤t9∧t9<(b3.length:Int)then(
   R5 t2 (AZ (t9+1)) AU b1 Zz (b3.set (t9.toNat) ((b3.getD (t9.toNat) ([],[],false,())).1,u5.2.1,(b3.getD (t9.toNat) ([],[],false,())).2.2.1,())))else none)else none)
  (R5 t2 (AZ (t9+1)) AU b1 Zz b3))else none)
 (some ((((Zz,(),()),true,()),()),(b3,())))
def HW:Nat→OI
 |0=>fun _ _ _ _ _ _=>none
 |n+1=>Q2 (HW n)
def Qh(R5:OI)(p0:AA9)(p1:ACF)(p2:Int):Option Ko:=
 (HS (p0.1,p0.2.1,()) (p1.1,p1.2.1,())).bind fun u1=>
 cond (!u1.1.1)
  (some ((((0,(),()),false,()),()),([],())))
 ((FP (p1.1,p1.2.1,())).bind fun u2=>
 R5 p2 0 0 [] u2.1.1.1 u2.2.1)
def NH(p0:AA9)(p1:ACF)(p2:Int):Option Ko:=Qh (HW Ae) p0 p1 p2
abbrev NR:Type:=ADz×ADG
abbrev QI:Type:=Int→Int→Int→Int→Bool→List Int→AAw→List AAO→Int→Int→Bool→List Int→AAw→List AAO→Option NR
def Sn(R5:QI)(t2 t9 AU AG:Int)(DJ:Bool)(b1:AAO)(b2:AAw)(b3:List AAO)(wB vf:Int)(xA:Bool)(b5:AAO)(b6:AAw)(b7:List AAO):Option NR:=
 cond ((decide (t9<(b7.length:Int))))
  (if(0:Int)≤t9∧t9<(b7.length:Int)then(
  (Ia (b7.getD (t9.toNat) []) [t2]).bind fun u4=>
  if(0:Int)≤t9∧t9<(b7.length:Int)then(
  R5 t2 (AZ (t9+1)) AU AG DJ b1 b2 b3 wB vf xA b5 b6 (b7.set (t9.toNat) u4.2.1))else none)else none)
 (some ((((wB,vf,(),(),xA,(),()),true,()),()),(b5,b6,b7,())))
def JL:Nat→QI
 |0=>fun _ _ _ _ _ _ _ _ _ _ _ _ _ _=>none
 |n+1=>Sn (JL n)
def Sh(R5:QI)(p0:AA9)(p1:ABH)(p2:Int):Option NR:=
 (Ig (p0.1,p0.2.1,()) (p1.1,p1.2.1,p1.2.2.1,p1.2.2.2.1,p1.2.2.2.2.1,p1.2.2.2.2.2.1,())).bind fun u1=>
 cond (!u1.1.1)
  (some ((((0,0,(),(),false,(),()),false,()),()),([],[],[],())))
 ((EM (p1.1,p1.2.1,p1.2.2.1,p1.2.2.2.1,p1.2.2.2.2.1,p1.2.2.2.2.2.1,())).bind fun u2=>
 R5 p2 0 0 0 false [] [] [] u2.1.1.1 u2.1.1.2.1 u2.1.1.2.2.2.2.1 u2.2.1 u2.2.2.1 u2.2.2.2.1)
def P0(p0:AA9)(p1:ABH)(p2:Int):Option NR:=Sh (JL Ae) p0 p1 p2
abbrev JB:Type:=ADA×AGN
abbrev Pz:Type:=Int→List Int→AAP→List Int→AAS→AAr→AAv→AAs→AAk→Int→Int→Bool→List Int→Int→Int→Int→Int→List UInt8→Int→Int→Bool→List Int→AAP→List Int→AAS→AAr→AAv→AAs→AAk→Option JB
abbrev O1:Type:=Int→List Int→AAP→List Int→AAS→AAr→AAv→AAs→AAk→Int→Int→Bool→List Int→Int→Int→Int→Int→List UInt8→Int→Int→Bool→List Int→AAP→List Int→AAS→AAr→AAv→AAs→AAk→Option JB
def WX(R7:Pz)(xw:O1)(t7:Int)(b0:AAO)(b1:AAP)(b2:AAO)(b3:AAS)(b4:AAr)(b5:AAv)(b6:AAs)(b7:AAk)(Dc Dq:Int)(CH:Bool)(b9:AAO)(ABB DM zu ABC:Int)(AAY:ACC)(AAN AAz:Int)(tq:Bool)(Di:AAO)(GF:AAP)(GG:AAO)(D8:AAS)(EZ:AAr)(FD:AAv)(Q0:AAs)(ub:AAk):Option JB:=
 cond ((decide (t7<(b4.length:Int))))
  (if(0:Int)≤t7∧t7<(b4.length:Int)then(
  (NH (b0,Dc,()) ((b4.getD (t7.toNat) (0,[],())).1,(b4.getD (t7.toNat) (0,[],())).2.1,()) DM).bind fun u5=>
  if(0:Int)≤t7∧t7<(b4.length:Int)then(
  R7 (AZ (t7+1)) b0 b1 b2 b3 (b4.set (t7.toNat) (u5.1.1.1.1,u5.2.1,())) b5 b6 b7 Dc Dq CH b9 ABB DM zu ABC AAY AAN AAz tq Di GF GG D8 EZ FD Q0 ub)else none)else none)
 (xw 0 b0 b1 b2 b3 b4 b5 b6 b7 Dc Dq CH b9 ABB DM zu ABC AAY AAN AAz tq Di GF GG D8 EZ FD Q0 ub)
def Vi(R7:Pz)(xw:O1)(t8:Int)(b0:AAO)(b1:AAP)(b2:AAO)(b3:AAS)(b4:AAr)(b5:AAv)(b6:AAs)(b7:AAk)(Dc Dq:Int)(CH:Bool)(b9:AAO)(ABB DM zu ABC:Int)(AAY:ACC)(AAN AAz:Int)(tq:Bool)(Di:AAO)(GF:AAP)(GG:AAO)(D8:AAS)(EZ:AAr)(FD:AAv)(Q0:AAs)(ub:AAk):Option JB:=
 cond ((decide (t8<(b5.length:Int))))
  (if(0:Int)≤t8∧t8<(b5.length:Int)then(
  (P0 (b0,Dc,()) ((b5.getD (t8.toNat) (0,0,[],[],false,[],())).1,(b5.getD (t8.toNat) (0,0,[],[],false,[],())).2.1,(b5.getD (t8.toNat) (0,0,[],[],false,[],())).2.2.1,(b5.getD (t8.toNat) (0,0,[],[],false,[],())).2.2.2.1,(b5.getD (t8.toNat) (0,0,[],[],false,[],())).2.2.2.2.1,(b5.getD (t8.toNat) (0,0,[],[],false,[],())).2.2.2.2.2.1,()) DM).bind fun u8=>
  if(0:Int)≤t8∧t8<(b5.length:Int)then(
  xw (AZ (t8+1)) b0 b1 b2 b3 b4 (b5.set (t8.toNat) (u8.1.1.1.1,u8.1.1.1.2.1,u8.2.1,u8.2.2.1,u8.1.1.1.2.2.2.2.1,u8.2.2.2.1,())) b6 b7 Dc Dq CH b9 ABB DM zu ABC AAY AAN AAz tq Di GF GG D8 EZ FD Q0 ub)else none)else none)
 (cond (CH)
  (some (((((),Dc,(),(),(),Dq,(),(),(),(),true,()),0,()),()),(b0,b1,(),b3,b4,b5,b6,b7,b9,())))
 ((FL (b0,Dc,()) b9).bind fun ED=>
 some (((((),Dc,(),(),(),Dq,(),(),(),(),ED.1.1,()),0,()),()),(b0,b1,(),b3,b4,b5,b6,b7,b9,()))))
mutual
def J3:Nat→Pz
 |0=>fun _ _ _ _ _ _ _ _ _ _ _ _ _ _ _ _ _ _ _ _ _ _ _ _ _ _ _ _ _=>none
 |n+1=>WX (J3 n) (Ir n)
def Ir:Nat→O1
 |0=>fun _ _ _ _ _ _ _ _ _ _ _ _ _ _ _ _ _ _ _ _ _ _ _ _ _ _ _ _ _=>none
 |n+1=>Vi (J3 n) (Ir n)
end
def Wc(R7:Pz)(xw:O1)(CI CL:Int)(BS:Bool)(p1:AC3)(b0:AAO)(b1:AAP)(b2:AAO)(b3:AAS)(b4:AAr)(b5:AAv)(b6:AAs)(b7:AAk):Option JB:=
 (HN (b0,CI,b1,b2,b3,CL,b4,b5,b6,b7,BS,()) p1.2.1).bind fun u1=>
 cond (u1.1.1 !=0)
  (some (((((),CI,(),(),(),CL,(),(),(),(),BS,()),u1.1.1,()),()),(b0,b1,(),b3,b4,b5,b6,b7,b2,())))
 (if(0:Int)≤p1.2.1∧p1.2.1<(b1.length:Int)then(
 (Lu b2 p1.2.1).bind fun u3=>
 R7 0 b0 (b1.set (p1.2.1.toNat) ([],[],0,())) b2 b3 b4 b5 b6 b7 CI CL BS u3.2.1 p1.1 p1.2.1 p1.2.2.1 p1.2.2.2.1 p1.2.2.2.2.1 0 0 false [] [] [] [] [] [] [] [])else none)
def V4(CI CL:Int)(BS:Bool)(p1:AC3)(b0:AAO)(b1:AAP)(b2:AAO)(b3:AAS)(b4:AAr)(b5:AAv)(b6:AAs)(b7:AAk):Option JB:=Wc (J3 Ae) (Ir Ae) CI CL BS p1 b0 b1 b2 b3 b4 b5 b6 b7
abbrev rR:Type:=ABG×Unit
def Yg(p0:AA9)(p1:AAO):Option rR:=
 (GY (p0.1,p0.2.1,()) p1).bind fun u1=>
 cond (u1.1.1)
  ((FL (p0.1,p0.2.1,()) p1).bind fun u2=>
  some ((!u2.1.1,()),()))
 (some ((false,()),()))
abbrev Jk:Type:=ACW×AFH
abbrev Oe:Type:=AAP→Int→AAw→Option Jk
abbrev O5:Type:=AAP→Int→Int→AAw→Option Jk
def Vk(R3:Oe)(R6:O5)(t0:AAP)(t4:Int)(b0:AAw):Option Jk:=
 cond ((decide (t4<(t0.length:Int))))
  (R6 t0 t4 0 b0)
 (some (((),()),(b0,())))
def VJ(R3:Oe)(R6:O5)(t0:AAP)(t4 t5:Int)(b0:AAw):Option Jk:=
 if(0:Int)≤t4∧t4<(t0.length:Int)then(
 cond (decide (t5<(((t0.getD (t4.toNat) ([],[],0,())).1).length:Int)))
  (if(0:Int)≤t4∧t4<(t0.length:Int)then(
  if(0:Int)≤t5∧t5<(((t0.getD (t4.toNat) ([],[],0,())).1).length:Int)then(
  (Qd b0 ((((t0.getD (t4.toNat) ([],[],0,())).1).getD (t5.toNat) (0,0,false,[],())).1,(((t0.getD (t4.toNat) ([],[],0,())).1).getD (t5.toNat) (0,0,false,[],())).2.1,(((t0.getD (t4.toNat) ([],[],0,())).1).getD (t5.toNat) (0,0,false,[],())).2.2.1,(((t0.getD (t4.toNat) ([],[],0,())).1).getD (t5.toNat) (0,0,false,[],())).2.2.2.1,())).bind fun u3=>
  R6 t0 t4 (AZ (t5+1)) u3.2.1)else none)else none)
 (R3 t0 (AZ (t4+1)) b0))else none
mutual
def Iq:Nat→Oe
 |0=>fun _ _ _=>none
 |n+1=>Vk (Iq n) (It n)
def It:Nat→O5
 |0=>fun _ _ _ _=>none
 |n+1=>VJ (Iq n) (It n)
end
def eT(R3:Oe)(R6:O5)(p0:AAP):Option Jk:=
 R3 p0 0 []
def ZG(p0:AAP):Option Jk:=eT (Iq Ae) (It Ae) p0
abbrev Ni:Type:=ADH×AGO
abbrev V1:Type:=List Int→Int→Int→AAP→Int→AAw→AAw→Int→AAw→AAw→AAP→Option Ni
abbrev Tm:Type:=Int→Int→AAP→Int→AAw→AAw→Int→AAw→AAw→AAP→Option Ni
def bX(R6:V1)(xw:Tm)(t2:AAO)(t4 t14:Int)(b0:AAP)(El:Int)(b2 b3:AAw)(aZ:Int)(b5 b6:AAw)(b7:AAP):Option Ni:=
 cond ((decide (t14<(b0.length:Int))))
  ((DG t2 t14).bind fun u6=>
  cond (!u6.1.1)
   (if(0:Int)≤t14∧t14<(b0.length:Int)then(
   if b7.length+1≤Dr then(
   R6 t2 t4 (AZ (t14+1)) b0 El b2 b3 aZ b5 b6 (b7++[((b0.getD (t14.toNat) ([],[],0,())).1,(b0.getD (t14.toNat) ([],[],0,())).2.1,(b0.getD (t14.toNat) ([],[],0,())).2.2.1,())]))else none)else none)
  (R6 t2 t4 (AZ (t14+1)) b0 El b2 b3 aZ b5 b6 b7))
 (xw t4 0 b0 El b2 b3 aZ b5 b6 b7)
def aA(R6:V1)(xw:Tm)(t4 t15:Int)(b0:AAP)(El:Int)(b2 b3:AAw)(aZ:Int)(b5 b6:AAw)(b7:AAP):Option Ni:=
 cond ((decide (t15<(b7.length:Int))))
  (if(0:Int)≤t15∧t15<(b7.length:Int)then(
  (Gk ((b7.getD (t15.toNat) ([],[],0,())).1,(b7.getD (t15.toNat) ([],[],0,())).2.1,(b7.getD (t15.toNat) ([],[],0,())).2.2.1,())).bind fun u9=>
  cond (!u9.1.1)
   (some (((((),(),aZ,()),false,()),()),(b0,b5,b6,())))
  (xw t4 (AZ (t15+1)) b0 El b2 b3 aZ b5 b6 b7))else none)
 ((ZG b7).bind fun ED=>
 (Gk (ED.2.1,[],t4,())).bind fun N9=>
 cond (!N9.1.1)
  (some (((((),(),aZ,()),false,()),()),(b0,b5,b6,())))
 (some (((((),(),t4,()),true,()),()),(b0,ED.2.1,[],()))))
mutual
def Ob:Nat→V1
 |0=>fun _ _ _ _ _ _ _ _ _ _ _=>none
 |n+1=>bX (Ob n) (Ml n)
def Ml:Nat→Tm
 |0=>fun _ _ _ _ _ _ _ _ _ _=>none
 |n+1=>aA (Ob n) (Ml n)
end
def bf(R6:V1)(xw:Tm)(p0:AA9)(p2:AAO)(p3 p4:Int)(b0:AAP):Option Ni:=
 (GO (p0.1,p0.2.1,())).bind fun u1=>
 cond (!u1.1.1)
  (some (((((),(),0,()),false,()),()),(b0,[],[],())))
 (cond (((b0.length:Int) !=(p0.1.length:Int)))
  (some (((((),(),0,()),false,()),()),(b0,[],[],())))
 ((Yg (p0.1,p0.2.1,()) p2).bind fun u3=>
 cond (!u3.1.1)
  (some (((((),(),0,()),false,()),()),(b0,[],[],())))
 ((DG p2 p3).bind fun u4=>
 cond (!u4.1.1)
  (some (((((),(),0,()),false,()),()),(b0,[],[],())))
 (R6 p2 p4 0 b0 0 [] [] 0 [] [] []))))
def eO(p0:AA9)(p2:AAO)(p3 p4:Int)(b0:AAP):Option Ni:=bf (Ob Ae) (Ml Ae) p0 p2 p3 p4 b0
abbrev nt:Type:=ADA×AGN
def WG(CI CL:Int)(BS:Bool)(p1:AC3)(b0:AAO)(b1:AAP)(b2:AAO)(b3:AAS)(b4:AAr)(b5:AAv)(b6:AAs)(b7:AAk):Option nt:=
 (DG b2 p1.2.1).bind fun u1=>
 cond (!u1.1.1)
  (some (((((),CI,(),(),(),CL,(),(),(),(),BS,()),2,()),()),(b0,b1,(),b3,b4,b5,b6,b7,b2,())))
 ((MP (AZ ((b3.length:Int)-1)) 0).bind fun u3=>
 (eO (b0,CI,()) b2 p1.2.1 u3.1.1 b1).bind fun u4=>
 cond (!u4.1.1.2.1)
  (some (((((),CI,(),(),(),CL,(),(),(),(),BS,()),4,()),()),(b0,u4.2.1,(),b3,b4,b5,b6,b7,b2,())))
 (if(0:Int)≤p1.2.1∧p1.2.1<(u4.2.1.length:Int)then(
 (Ia b2 [p1.2.1]).bind fun u6=>
 some (((((),CI,(),(),(),CL,(),(),(),(),BS,()),0,()),()),(b0,(u4.2.1.set (p1.2.1.toNat) (u4.2.2.1,u4.2.2.2.1,u4.1.1.1.2.2.1,())),(),b3,b4,b5,b6,b7,u6.2.1,())))else none))
abbrev pC:Type:=AFW×ADG
def jf(p0 p1:Int):Option pC:=
 some (((p1,p0,(),(),false,(),()),()),([],[],[],()))
abbrev dE:Type:=ADA×(List Int×AAP×List Int×AAS×AAr×Unit×AAs×AAk×AAv×Unit)
def Vv(CI CL:Int)(BS:Bool)(b0:AAO)(b1:AAP)(b2:AAO)(b3:AAS)(b4:AAr)(b5:AAv)(b6:AAs)(b7:AAk):Option dE:=
 (I7 (b3,CL,())).bind fun u1=>
 cond ((decide ((b3.length:Int)<2)))
  (some (((((),CI,(),(),(),CL,(),(),(),(),BS,()),2,()),()),(b0,b1,b2,b3,b4,(),b6,b7,b5,())))
 (cond ((u1.1.1==(b3.length:Int)))
  (some (((((),CI,(),(),(),CL,(),(),(),(),BS,()),2,()),()),(b0,b1,b2,b3,b4,(),b6,b7,b5,())))
 (cond ((decide ((b5.length:Int)>0)))
  (some (((((),CI,(),(),(),CL,(),(),(),(),BS,()),4,()),()),(b0,b1,b2,b3,b4,(),b6,b7,b5,())))
 ((jf u1.1.1 (b3.length:Int)).bind fun u5=>
 some (((((),CI,(),(),(),CL,(),(),(),(),BS,()),0,()),()),(b0,b1,b2,b3,b4,(),b6,b7,[(u5.1.1.1,u5.1.1.2.1,u5.2.1,u5.2.2.1,u5.1.1.2.2.2.2.1,u5.2.2.2.1,())],())))))
abbrev lI:Type:=ADH×ADF
def Rk(p0:ACN)(p1:Int):Option lI:=
 (Gk (p0.1,p0.2.1,p0.2.2.1,())).bind fun u1=>
 cond (!u1.1.1)
  (some (((((),(),0,()),false,()),()),([],[],())))
 ((N_ (p0.1,p0.2.1,p0.2.2.1,())).bind fun u2=>
 cond (!u2.1.1.2.1)
  ((Em (p0.1,p0.2.1,p0.2.2.1,())).bind fun u3=>
  some (((((),(),u3.1.1.2.2.1,()),false,()),()),(u3.2.1,u3.2.2.1,())))
 ((CG p1 0 30).bind fun u4=>
 cond (!u4.1.1)
  ((Em (p0.1,p0.2.1,p0.2.2.1,())).bind fun u5=>
  some (((((),(),u5.1.1.2.2.1,()),false,()),()),(u5.2.1,u5.2.2.1,())))
 ((MP u2.1.1.1.2.2.1 p1).bind fun u6=>
 some (((((),(),u6.1.1,()),true,()),()),(u2.2.1,u2.2.2.1,())))))
abbrev P6:Type:=ACW×AFH
abbrev S5:Type:=Int→Int→AAw→AAw→Int→AAw→Option P6
def PR(R3:S5)(t1 t6:Int)(AU AG:AAw)(Aq:Int)(b1:AAw):Option P6:=
 cond ((decide (t6<(AU.length:Int))))
  ((Gk (AU,AG,Aq,())).bind fun u2=>
  cond (u2.1.1)
   (if(0:Int)≤t6∧t6<(AU.length:Int)then(
   (Cr ((AU.getD (t6.toNat) (0,0,false,[],())).1)).bind fun u4=>
   cond (u4.1.1==t1)
    (if(0:Int)≤t6∧t6<(AU.length:Int)then(
    if b1.length+1≤Dr then(
    R3 t1 (AZ (t6+1)) AU AG Aq (b1++[((AU.getD (t6.toNat) (0,0,false,[],())).1,(AU.getD (t6.toNat) (0,0,false,[],())).2.1,(AU.getD (t6.toNat) (0,0,false,[],())).2.2.1,(AU.getD (t6.toNat) (0,0,false,[],())).2.2.2.1,())]))else none)else none)
   (R3 t1 (AZ (t6+1)) AU AG Aq b1))else none)
  (some (((),()),(b1,()))))
 (some (((),()),(b1,())))
def Is:Nat→S5
 |0=>fun _ _ _ _ _ _=>none
 |n+1=>PR (Is n)
def VK(R3:S5)(p0:ACN)(p1:Int):Option P6:=
 R3 p1 0 p0.1 p0.2.1 p0.2.2.1 []
def Tp(p0:ACN)(p1:Int):Option P6:=VK (Is Ae) p0 p1
abbrev Pu:Type:=ADz×ADG
abbrev S4:Type:=AAw→Int→List Int→Int→Int→Int→List Int→AAw→Bool→List AAO→Int→Int→Bool→List Int→AAw→List AAO→Int→Int→Bool→List Int→AAw→List AAO→Option Pu
def VT(R6:S4)(t3:AAw)(t11:Int)(AU:AAO)(AG Cj Bj:Int)(El:AAO)(Gq:AAw)(MF:Bool)(D9:List AAO)(Zz mh:Int)(tf:Bool)(b3:AAO)(b4:AAw)(b5:List AAO)(vP uT:Int)(vI:Bool)(b7:AAO)(b8:AAw)(b9:List AAO):Option Pu:=
 cond ((decide (t11<(t3.length:Int))))
  (if(0:Int)≤t11∧t11<(t3.length:Int)then(
  (Cr ((t3.getD (t11.toNat) (0,0,false,[],())).1)).bind fun u6=>
  cond (u6.1.1==Bj)
   (if(0:Int)≤t11∧t11<(t3.length:Int)then(
   (Qd b8 ((t3.getD (t11.toNat) (0,0,false,[],())).1,(t3.getD (t11.toNat) (0,0,false,[],())).2.1,(t3.getD (t11.toNat) (0,0,false,[],())).2.2.1,(t3.getD (t11.toNat) (0,0,false,[],())).2.2.2.1,())).bind fun u7=>
   R6 t3 (AZ (t11+1)) AU AG Cj Bj El Gq MF D9 Zz mh tf b3 b4 b5 vP uT vI b7 u7.2.1 b9)else none)
  (R6 t3 (AZ (t11+1)) AU AG Cj Bj El Gq MF D9 Zz mh tf b3 b4 b5 vP uT vI b7 b8 b9))else none)
 (cond (MF)
  ((EM (Cj,Bj,El,Gq,MF,D9,())).bind fun u8=>
  some ((((u8.1.1.1,u8.1.1.2.1,(),(),u8.1.1.2.2.2.2.1,(),()),false,()),()),(u8.2.1,u8.2.2.1,u8.2.2.2.1,())))
 ((Ig (AU,AG,()) (vP,uT,b7,b8,vI,b9,())).bind fun u9=>
 cond (!u9.1.1)
  ((EM (Cj,Bj,El,Gq,MF,D9,())).bind fun ED=>
  some ((((ED.1.1.1,ED.1.1.2.1,(),(),ED.1.1.2.2.2.2.1,(),()),false,()),()),(ED.2.1,ED.2.2.1,ED.2.2.2.1,())))
 (some ((((vP,uT,(),(),vI,(),()),true,()),()),(b7,b8,b9,())))))
def K6:Nat→S4
 |0=>fun _ _ _ _ _ _ _ _ _ _ _ _ _ _ _ _ _ _ _ _ _ _=>none
 |n+1=>VT (K6 n)
def VE(R6:S4)(p0:AA9)(p1:ABH)(p2:Int)(p3:AAw):Option Pu:=
 (Ig (p0.1,p0.2.1,()) (p1.1,p1.2.1,p1.2.2.1,p1.2.2.2.1,p1.2.2.2.2.1,p1.2.2.2.2.2.1,())).bind fun u1=>
 cond (!u1.1.1)
  (some ((((0,0,(),(),false,(),()),false,()),()),([],[],[],())))
 ((EM (p1.1,p1.2.1,p1.2.2.1,p1.2.2.2.1,p1.2.2.2.2.1,p1.2.2.2.2.2.1,())).bind fun u2=>
 (Lu u2.2.1 p2).bind fun u3=>
 R6 p3 0 p0.1 p0.2.1 p1.1 p1.2.1 p1.2.2.1 p1.2.2.2.1 p1.2.2.2.2.1 p1.2.2.2.2.2.1 0 0 false [] [] [] u2.1.1.1 u2.1.1.2.1 u2.1.1.2.2.2.2.1 u3.2.1 u2.2.2.1 u2.2.2.2.1)
def Tv(p0:AA9)(p1:ABH)(p2:Int)(p3:AAw):Option Pu:=VE (K6 Ae) p0 p1 p2 p3
abbrev pN:Type:=ADA×ADD
def WE(CI CL:Int)(BS:Bool)(p1:AC3)(b0:AAO)(b1:AAP)(b2:AAO)(b3:AAS)(b4:AAr)(b5:AAv)(b6:AAs)(b7:AAk):Option pN:=
 cond (((b5.length:Int)==0))
  (some (((((),CI,(),(),(),CL,(),(),(),(),BS,()),2,()),()),(b0,b1,b2,b3,b4,b5,b6,b7,())))
 (if(0:Int)≤(0:Int)∧(0:Int)<(b5.length:Int)then(
 (HN (b0,CI,b1,b2,b3,CL,b4,b5,b6,b7,BS,()) p1.2.1).bind fun u2=>
 cond (u2.1.1 !=0)
  (some (((((),CI,(),(),(),CL,(),(),(),(),BS,()),u2.1.1,()),()),(b0,b1,b2,b3,b4,b5,b6,b7,())))
 ((CW (b3,CL,()) ((b5.getD 0 (0,0,[],[],false,[],())).2.1)).bind fun u4=>
 (DG u4.2.1 p1.2.1).bind fun u5=>
 cond (!u5.1.1)
  (some (((((),CI,(),(),(),CL,(),(),(),(),BS,()),2,()),()),(b0,b1,b2,b3,b4,b5,b6,b7,())))
 (if(0:Int)≤p1.2.1∧p1.2.1<(b1.length:Int)then(
 (Rk ((b1.getD (p1.2.1.toNat) ([],[],0,())).1,(b1.getD (p1.2.1.toNat) ([],[],0,())).2.1,(b1.getD (p1.2.1.toNat) ([],[],0,())).2.2.1,()) (AZ (((b5.getD 0 (0,0,[],[],false,[],())).1)-1))).bind fun u7=>
 (Tp (u7.2.1,u7.2.2.1,u7.1.1.1.2.2.1,()) ((b5.getD 0 (0,0,[],[],false,[],())).2.1)).bind fun u9=>
 (Tv (b0,CI,()) ((b5.getD 0 (0,0,[],[],false,[],())).1,(b5.getD 0 (0,0,[],[],false,[],())).2.1,(b5.getD 0 (0,0,[],[],false,[],())).2.2.1,(b5.getD 0 (0,0,[],[],false,[],())).2.2.2.1,(b5.getD 0 (0,0,[],[],false,[],())).2.2.2.2.1,(b5.getD 0 (0,0,[],[],false,[],())).2.2.2.2.2.1,()) p1.2.1 u9.2.1).bind fun ED=>
 cond (!u7.1.1.2.1)
  (some (((((),CI,(),(),(),CL,(),(),(),(),BS,()),4,()),()),(b0,b1,b2,b3,b4,b5,b6,b7,())))
 (cond (!ED.1.1.2.1)
  (some (((((),CI,(),(),(),CL,(),(),(),(),BS,()),4,()),()),(b0,b1,b2,b3,b4,b5,b6,b7,())))
 (if(0:Int)≤p1.2.1∧p1.2.1<(b1.length:Int)then(
 if(0:Int)≤(0:Int)∧(0:Int)<(b5.length:Int)then(
 some (((((),CI,(),(),(),CL,(),(),(),(),BS,()),0,()),()),(b0,(b1.set (p1.2.1.toNat) (u7.2.1,u7.2.2.1,u7.1.1.1.2.2.1,())),b2,b3,b4,(b5.set 0 (ED.1.1.1.1,ED.1.1.1.2.1,ED.2.1,ED.2.2.1,ED.1.1.1.2.2.2.2.1,ED.2.2.2.1,())),b6,b7,())))else none)else none)))else none)))else none)
abbrev rG:Type:=ACW×ACj
def J7(p0 p1:AAO):Option rG:=
 (Ia p0 p1).bind fun u1=>
 (Ia p0 u1.2.1).bind fun u2=>
 some (((),()),(u2.2.1,()))
abbrev rH:Type:=ABG×Unit
def KG(p0:AA9)(p1 p2:AAO):Option rH:=
 (FL (p0.1,p0.2.1,()) p1).bind fun u1=>
 cond (!u1.1.1)
  (some ((false,()),()))
 ((GY (p0.1,p0.2.1,()) p2).bind fun u2=>
 cond (!u2.1.1)
  (some ((false,()),()))
 ((Ia p2 p1).bind fun u3=>
 cond (decide ((u3.2.1.length:Int)>0))
  (some ((false,()),()))
 ((Ia p1 p2).bind fun u5=>
 (T9 (p0.1,p0.2.1,()) u5.2.1).bind fun u6=>
 some (((decide (u6.1.1<p0.2.1)),()),()))))
abbrev P3:Type:=ADz×ADG
abbrev Ta:Type:=Int→Int→Int→List Int→AAw→Bool→List AAO→Int→Int→Bool→List Int→AAw→List AAO→Int→Int→Bool→List Int→AAw→List AAO→Option P3
def VX(R8:Ta)(t9 AU AG:Int)(Aq:AAO)(Ck:AAw)(DJ:Bool)(AW:List AAO)(Cj Bj:Int)(MF:Bool)(b2:AAO)(b3:AAw)(b4:List AAO)(AEl AFl:Int)(ADk:Bool)(b6:AAO)(b7:AAw)(b8:List AAO):Option P3:=
 (Qn (AU,AG,Aq,Ck,DJ,AW,())).bind fun u5=>
 cond (decide (t9<u5.1.1))
  (if b8.length+1≤Dr then(
  R8 (AZ (t9+1)) AU AG Aq Ck DJ AW Cj Bj MF b2 b3 b4 AEl AFl ADk b6 b7 (b8++[[]]))else none)
 (some ((((AEl,AFl,(),(),ADk,(),()),true,()),()),(b6,b7,b8,())))
def LA:Nat→Ta
 |0=>fun _ _ _ _ _ _ _ _ _ _ _ _ _ _ _ _ _ _ _=>none
 |n+1=>VX (LA n)
def VD(R8:Ta)(p0:AA9)(p1:ABH)(p2:AAO):Option P3:=
 (Ig (p0.1,p0.2.1,()) (p1.1,p1.2.1,p1.2.2.1,p1.2.2.2.1,p1.2.2.2.2.1,p1.2.2.2.2.2.1,())).bind fun u1=>
 cond (!u1.1.1)
  (some ((((0,0,(),(),false,(),()),false,()),()),([],[],[],())))
 ((EM (p1.1,p1.2.1,p1.2.2.1,p1.2.2.2.1,p1.2.2.2.2.1,p1.2.2.2.2.2.1,())).bind fun u2=>
 cond (p1.2.2.2.2.1)
  (some ((((u2.1.1.1,u2.1.1.2.1,(),(),u2.1.1.2.2.2.2.1,(),()),false,()),()),(u2.2.1,u2.2.2.1,u2.2.2.2.1,())))
 ((J7 p1.2.2.1 p2).bind fun u3=>
 (KG (p0.1,p0.2.1,()) p2 u3.2.1).bind fun u4=>
 cond (!u4.1.1)
  (some ((((u2.1.1.1,u2.1.1.2.1,(),(),u2.1.1.2.2.2.2.1,(),()),false,()),()),(u2.2.1,u2.2.2.1,u2.2.2.2.1,())))
 (R8 0 p1.1 p1.2.1 p1.2.2.1 p1.2.2.2.1 p1.2.2.2.2.1 p1.2.2.2.2.2.1 0 0 false [] [] [] u2.1.1.1 u2.1.1.2.1 true u2.2.1 u2.2.2.1 u2.2.2.2.1)))
def T4(p0:AA9)(p1:ABH)(p2:AAO):Option P3:=VD (LA Ae) p0 p1 p2
abbrev qO:Type:=ADA×ADD
def Vs(CI CL:Int)(BS:Bool)(b0:AAO)(b1:AAP)(b2:AAO)(b3:AAS)(b4:AAr)(b5:AAv)(b6:AAs)(b7:AAk):Option qO:=
 cond (((b5.length:Int)==0))
  (some (((((),CI,(),(),(),CL,(),(),(),(),BS,()),2,()),()),(b0,b1,b2,b3,b4,b5,b6,b7,())))
 (if(0:Int)≤(0:Int)∧(0:Int)<(b5.length:Int)then(
 if(0:Int)≤(0:Int)∧(0:Int)<(b5.length:Int)then(
 (CW (b3,CL,()) ((b5.getD 0 (0,0,[],[],false,[],())).2.1)).bind fun u3=>
 (T4 (b0,CI,()) ((b5.getD 0 (0,0,[],[],false,[],())).1,(b5.getD 0 (0,0,[],[],false,[],())).2.1,(b5.getD 0 (0,0,[],[],false,[],())).2.2.1,(b5.getD 0 (0,0,[],[],false,[],())).2.2.2.1,(b5.getD 0 (0,0,[],[],false,[],())).2.2.2.2.1,(b5.getD 0 (0,0,[],[],false,[],())).2.2.2.2.2.1,()) u3.2.1).bind fun u4=>
 cond (!u4.1.1.2.1)
  (some (((((),CI,(),(),(),CL,(),(),(),(),BS,()),4,()),()),(b0,b1,b2,b3,b4,b5,b6,b7,())))
 (if(0:Int)≤(0:Int)∧(0:Int)<(b5.length:Int)then(
 some (((((),CI,(),(),(),CL,(),(),(),(),BS,()),0,()),()),(b0,b1,b2,b3,b4,(b5.set 0 (u4.1.1.1.1,u4.1.1.1.2.1,u4.2.1,u4.2.2.1,u4.1.1.1.2.2.2.2.1,u4.2.2.2.1,())),b6,b7,())))else none))else none)else none)
abbrev rZ:Type:=ADA×ADD
def X7(CI CL:Int)(BS:Bool)(p1:AC3)(b0:AAO)(b1:AAP)(b2:AAO)(b3:AAS)(b4:AAr)(b5:AAv)(b6:AAs)(b7:AAk):Option rZ:=
 cond (((b5.length:Int)==0))
  (some (((((),CI,(),(),(),CL,(),(),(),(),BS,()),2,()),()),(b0,b1,b2,b3,b4,b5,b6,b7,())))
 (if(0:Int)≤(0:Int)∧(0:Int)<(b5.length:Int)then(
 (Eg ((b5.getD 0 (0,0,[],[],false,[],())).1,(b5.getD 0 (0,0,[],[],false,[],())).2.1,(b5.getD 0 (0,0,[],[],false,[],())).2.2.1,(b5.getD 0 (0,0,[],[],false,[],())).2.2.2.1,(b5.getD 0 (0,0,[],[],false,[],())).2.2.2.2.1,(b5.getD 0 (0,0,[],[],false,[],())).2.2.2.2.2.1,()) p1.2.2.1).bind fun u2=>
 cond (!u2.1.1.2.1)
  (some (((((),CI,(),(),(),CL,(),(),(),(),BS,()),2,()),()),(b0,b1,b2,b3,b4,b5,b6,b7,())))
 ((HN (b0,CI,b1,b2,b3,CL,b4,b5,b6,b7,BS,()) p1.2.2.2.1).bind fun u3=>
 cond (u3.1.1 !=0)
  (some (((((),CI,(),(),(),CL,(),(),(),(),BS,()),u3.1.1,()),()),(b0,b1,b2,b3,b4,b5,b6,b7,())))
 (if(0:Int)≤(0:Int)∧(0:Int)<(b5.length:Int)then(
 (CW (b3,CL,()) ((b5.getD 0 (0,0,[],[],false,[],())).2.1)).bind fun u5=>
 (DG u5.2.1 p1.2.2.2.1).bind fun u6=>
 cond (!u6.1.1)
  (some (((((),CI,(),(),(),CL,(),(),(),(),BS,()),2,()),()),(b0,b1,b2,b3,b4,b5,b6,b7,())))
 (if(0:Int)≤p1.2.2.2.1∧p1.2.2.2.1<(b1.length:Int)then(
 (Pg ((b1.getD (p1.2.2.2.1.toNat) ([],[],0,())).1,(b1.getD (p1.2.2.2.1.toNat) ([],[],0,())).2.1,(b1.getD (p1.2.2.2.1.toNat) ([],[],0,())).2.2.1,()) (u2.1.1.1.1,u2.1.1.1.2.1,u2.1.1.1.2.2.1,u2.1.1.1.2.2.2.1,())).bind fun u7=>
 cond (!u7.1.1.2.1)
  (some (((((),CI,(),(),(),CL,(),(),(),(),BS,()),4,()),()),(b0,b1,b2,b3,b4,b5,b6,b7,())))
 (if(0:Int)≤p1.2.2.2.1∧p1.2.2.2.1<(b1.length:Int)then(
 some (((((),CI,(),(),(),CL,(),(),(),(),BS,()),0,()),()),(b0,(b1.set (p1.2.2.2.1.toNat) (u7.2.1,u7.2.2.1,u7.1.1.1.2.2.1,())),b2,b3,b4,b5,b6,b7,())))else none))else none))else none)))else none)
abbrev Oq:Type:=ABG×Unit
abbrev SB:Type:=Int→List Int→Int→Int→Int→List Int→AAw→Bool→List AAO→Option Oq
def UC(R4:SB)(t5:Int)(AU:AAO)(AG Cj Bj:Int)(El:AAO)(Gq:AAw)(MF:Bool)(D9:List AAO):Option Oq:=
 cond ((decide (t5<(D9.length:Int))))
  (if(0:Int)≤t5∧t5<(D9.length:Int)then(
  (FL (AU,AG,()) (D9.getD (t5.toNat) [])).bind fun u3=>
  cond (!u3.1.1)
   (some ((false,()),()))
  (R4 (AZ (t5+1)) AU AG Cj Bj El Gq MF D9))else none)
 (some ((true,()),()))
def KR:Nat→SB
 |0=>fun _ _ _ _ _ _ _ _ _=>none
 |n+1=>UC (KR n)
def UU(R4:SB)(p0:AA9)(p1:ABH):Option Oq:=
 (Ig (p0.1,p0.2.1,()) (p1.1,p1.2.1,p1.2.2.1,p1.2.2.2.1,p1.2.2.2.2.1,p1.2.2.2.2.2.1,())).bind fun u1=>
 cond (!u1.1.1)
  (some ((false,()),()))
 (cond (!p1.2.2.2.2.1)
  (some ((false,()),()))
 (R4 0 p0.1 p0.2.1 p1.1 p1.2.1 p1.2.2.1 p1.2.2.2.1 p1.2.2.2.2.1 p1.2.2.2.2.2.1))
def SK(p0:AA9)(p1:ABH):Option Oq:=UU (KR Ae) p0 p1
abbrev mo:Type:=AFt×ADs
def Ti(p0:AA9)(p1:ABr)(p2 p3:Int):Option mo:=
 (MQ (p0.1,p0.2.1,()) (p1.1,p1.2.1,())).bind fun u1=>
 cond (!u1.1.1)
  (some (((((),0,()),false,()),()),([],())))
 ((GA (p1.1,p1.2.1,())).bind fun u2=>
 (I7 (p1.1,p1.2.1,())).bind fun u3=>
 cond ((p2 !=(p1.1.length:Int)))
  (some (((((),u2.1.1.2.1,()),false,()),()),(u2.2.1,())))
 (cond (u3.1.1==0)
  (some (((((),u2.1.1.2.1,()),false,()),()),(u2.2.1,())))
 (cond (p2==u3.1.1)
  (some (((((),u2.1.1.2.1,()),false,()),()),(u2.2.1,())))
 ((CG p3 0 60).bind fun u5=>
 cond (!u5.1.1)
  (some (((((),u2.1.1.2.1,()),false,()),()),(u2.2.1,())))
 (if(0:Int)≤AZ (u3.1.1-1)∧AZ (u3.1.1-1)<(u2.2.1.length:Int)then(
 let x6:AAS:=(u2.2.1.set ((AZ (u3.1.1-1)).toNat) ((u2.2.1.getD ((AZ (u3.1.1-1)).toNat) ([],false,0,())).1,true,(u2.2.1.getD ((AZ (u3.1.1-1)).toNat) ([],false,0,())).2.2.1,()))
 if(0:Int)≤AZ (u3.1.1-1)∧AZ (u3.1.1-1)<(x6.length:Int)then(
 some (((((),u2.1.1.2.1,()),true,()),()),((x6.set ((AZ (u3.1.1-1)).toNat) ((x6.getD ((AZ (u3.1.1-1)).toNat) ([],false,0,())).1,(x6.getD ((AZ (u3.1.1-1)).toNat) ([],false,0,())).2.1,p3,())),())))else none)else none)))))
abbrev cB:Type:=ADA×(List Int×AAP×List Int×Unit×AAr×Unit×AAs×AAk×AAS×AAv×Unit)
def T1(CI CL:Int)(BS:Bool)(b0:AAO)(b1:AAP)(b2:AAO)(b3:AAS)(b4:AAr)(b5:AAv)(b6:AAs)(b7:AAk):Option cB:=
 cond (((b5.length:Int)==0))
  (some (((((),CI,(),(),(),CL,(),(),(),(),BS,()),2,()),()),(b0,b1,b2,(),b4,(),b6,b7,b3,b5,())))
 (if(0:Int)≤(0:Int)∧(0:Int)<(b5.length:Int)then(
 (SK (b0,CI,()) ((b5.getD 0 (0,0,[],[],false,[],())).1,(b5.getD 0 (0,0,[],[],false,[],())).2.1,(b5.getD 0 (0,0,[],[],false,[],())).2.2.1,(b5.getD 0 (0,0,[],[],false,[],())).2.2.2.1,(b5.getD 0 (0,0,[],[],false,[],())).2.2.2.2.1,(b5.getD 0 (0,0,[],[],false,[],())).2.2.2.2.2.1,())).bind fun u2=>
 cond (!u2.1.1)
  (some (((((),CI,(),(),(),CL,(),(),(),(),BS,()),5,()),()),(b0,b1,b2,(),b4,(),b6,b7,b3,b5,())))
 (if(0:Int)≤(0:Int)∧(0:Int)<(b5.length:Int)then(
 if(0:Int)≤(0:Int)∧(0:Int)<(b5.length:Int)then(
 (Ti (b0,CI,()) (b3,CL,()) ((b5.getD 0 (0,0,[],[],false,[],())).1) (((b5.getD 0 (0,0,[],[],false,[],())).2.2.2.2.2.1).length:Int)).bind fun u5=>
 cond (!u5.1.1.2.1)
  (some (((((),CI,(),(),(),CL,(),(),(),(),BS,()),4,()),()),(b0,b1,b2,(),b4,(),b6,b7,b3,b5,())))
 (some (((((),CI,(),(),(),u5.1.1.1.2.1,(),(),(),(),BS,()),0,()),()),(b0,b1,b2,(),b4,(),b6,b7,u5.2.1,[],()))))else none)else none))else none)
abbrev oB:Type:=AFt×ADs
def WB(p0:AA9)(p1:ABr)(p2:Int):Option oB:=
 (MQ (p0.1,p0.2.1,()) (p1.1,p1.2.1,())).bind fun u1=>
 cond (!u1.1.1)
  (some (((((),0,()),false,()),()),([],())))
 ((GA (p1.1,p1.2.1,())).bind fun u2=>
 (HM p2).bind fun u3=>
 cond (!u3.1.1)
  (some (((((),u2.1.1.2.1,()),false,()),()),(u2.2.1,())))
 ((Cr p2).bind fun u4=>
 cond ((decide (u4.1.1>(p1.1.length:Int))))
  (some (((((),u2.1.1.2.1,()),false,()),()),(u2.2.1,())))
 ((MP u2.1.1.2.1 p2).bind fun u6=>
 some (((((),u6.1.1,()),true,()),()),(u2.2.1,())))))
abbrev NS:Type:=ABN×Unit
abbrev P8:Type:=Int→Int→ACA→Option NS
def Se(R2:P8)(t3 AU:Int)(AG:ACA):Option NS:=
 cond ((decide (t3<(AG.length:Int))))
  (if(0:Int)≤t3∧t3<(AG.length:Int)then(
  cond (((AG.getD (t3.toNat) ([],[],false,())).2.2.1))
   (R2 (AZ (t3+1)) AU AG)
  (some ((t3,()),())))else none)
 (some ((t3,()),()))
def JE:Nat→P8
 |0=>fun _ _ _=>none
 |n+1=>Se (JE n)
def cQ(R2:P8)(p0:ACF):Option NS:=
 R2 0 p0.1 p0.2.1
def Uw(p0:ACF):Option NS:=cQ (JE Ae) p0
abbrev Tj:Type:=ABN×Unit
abbrev Wn:Type:=Int→Int→List Int→Int→AAP→List Int→AAS→Int→AAr→AAv→AAs→AAk→Bool→Option Tj
def Yu(R2:Wn)(t1 t5:Int)(AU:AAO)(AG:Int)(Aq:AAP)(Ck:AAO)(DJ:AAS)(AW:Int)(DH:AAr)(DC:AAv)(DD:AAs)(EU:AAk)(AL:Bool):Option Tj:=
 cond ((decide (t5<(DH.length:Int))))
  (if(0:Int)≤t5∧t5<(DH.length:Int)then(
  cond (((DH.getD (t5.toNat) (0,[],())).1)==t1)
   (if(0:Int)≤t5∧t5<(DH.length:Int)then(
   (Uw ((DH.getD (t5.toNat) (0,[],())).1,(DH.getD (t5.toNat) (0,[],())).2.1,())).bind fun u3=>
   some ((u3.1.1,()),()))else none)
  (R2 t1 (AZ (t5+1)) AU AG Aq Ck DJ AW DH DC DD EU AL))else none)
 (some ((0,()),()))
def Nc:Nat→Wn
 |0=>fun _ _ _ _ _ _ _ _ _ _ _ _ _=>none
 |n+1=>Yu (Nc n)
def jO(R2:Wn)(p0:ABF)(p1:Int):Option Tj:=
 R2 p1 0 p0.1 p0.2.1 p0.2.2.1 p0.2.2.2.1 p0.2.2.2.2.1 p0.2.2.2.2.2.1 p0.2.2.2.2.2.2.1 p0.2.2.2.2.2.2.2.1 p0.2.2.2.2.2.2.2.2.1 p0.2.2.2.2.2.2.2.2.2.1 p0.2.2.2.2.2.2.2.2.2.2.1
def c_(p0:ABF)(p1:Int):Option Tj:=jO (Nc Ae) p0 p1
abbrev NP:Type:=ACW×(ACx×Unit)
abbrev P9:Type:=Int→List Int→Int→AAP→List Int→AAS→Int→AAr→AAv→AAs→AAk→Bool→Int→Int→ADC→ACx→List Int→Option NP
def S1(R4:P9)(t9:Int)(AU:AAO)(AG:Int)(Aq:AAP)(Ck:AAO)(DJ:AAS)(AW:Int)(DH:AAr)(DC:AAv)(DD:AAs)(EU:AAk)(AL:Bool)(Cj Bj:Int)(El:ADC)(b2:ACx)(b3:AAO):Option NP:=
 cond ((decide (t9<(b3.length:Int))))
  (if(0:Int)≤t9∧t9<(b3.length:Int)then(
  (HN (AU,AG,Aq,Ck,DJ,AW,DH,DC,DD,EU,AL,()) (b3.getD (t9.toNat) 0)).bind fun u4=>
  cond (u4.1.1 !=0)
   (R4 (AZ (t9+1)) AU AG Aq Ck DJ AW DH DC DD EU AL Cj Bj El b2 b3)
  (if(0:Int)≤t9∧t9<(b3.length:Int)then(
  let x5:Int:=(b3.getD (t9.toNat) 0)
  if(0:Int)≤x5∧x5<(Aq.length:Int)then(
  (ES Cj Bj).bind fun u6=>
  (HJ ((Aq.getD (x5.toNat) ([],[],0,())).1) u6.1.1).bind fun u7=>
  if(0:Int)≤t9∧t9<(b3.length:Int)then(
  if b2.length+1≤Dr then(
  R4 (AZ (t9+1)) AU AG Aq Ck DJ AW DH DC DD EU AL Cj Bj El (b2++[((b3.getD (t9.toNat) 0),u7.1.1.2.1,u7.1.1.1.1,u7.1.1.1.2.1,u7.1.1.1.2.2.1,u7.1.1.1.2.2.2.1,())]) b3)else none)else none)else none)else none))else none)
 (some (((),()),(b2,())))
def JH:Nat→P9
 |0=>fun _ _ _ _ _ _ _ _ _ _ _ _ _ _ _ _ _=>none
 |n+1=>S1 (JH n)
def Sc(R4:P9)(p0:ABF)(p1:AC8)(p2:Int):Option NP:=
 (N4 p2).bind fun u1=>
 R4 0 p0.1 p0.2.1 p0.2.2.1 p0.2.2.2.1 p0.2.2.2.2.1 p0.2.2.2.2.2.1 p0.2.2.2.2.2.2.1 p0.2.2.2.2.2.2.2.1 p0.2.2.2.2.2.2.2.2.1 p0.2.2.2.2.2.2.2.2.2.1 p0.2.2.2.2.2.2.2.2.2.2.1 p1.1 p1.2.1 p1.2.2.1 [] u1.2.1
def Pv(p0:ABF)(p1:AC8)(p2:Int):Option NP:=Sc (JH Ae) p0 p1 p2
abbrev Pq:Type:=((Unit×Bool×Unit)×Unit)×ACj
abbrev Tb:Type:=ACx→Int→List Int→Int→List Int→Option Pq
def VI(R3:Tb)(t1:ACx)(t7:Int)(AU:AAO)(AG:Int)(b1:AAO):Option Pq:=
 cond ((decide (t7<(t1.length:Int))))
  (if(0:Int)≤t7∧t7<(t1.length:Int)then(
  if b1.length+1≤Dr then(
  R3 t1 (AZ (t7+1)) AU AG (b1++[((t1.getD (t7.toNat) (0,false,0,0,false,[],())).1)]))else none)else none)
 ((GY (AU,AG,()) b1).bind fun u3=>
 some ((((),u3.1.1,()),()),(b1,())))
def Lj:Nat→Tb
 |0=>fun _ _ _ _ _=>none
 |n+1=>VI (Lj n)
def ed(R3:Tb)(p0:AA9)(p1:ACx):Option Pq:=
 R3 p1 0 p0.1 p0.2.1 []
def ZJ(p0:AA9)(p1:ACx):Option Pq:=ed (Lj Ae) p0 p1
abbrev qH:Type:=AF6×AFJ
def IZ(p0:AC8)(p1:AFj)(p2 p3:Int):Option qH:=
 (CK (p0.1,p0.2.1,p0.2.2.1,())).bind fun u1=>
 if u1.2.1.length+1≤Dr then(
 some (((p2,p3,(),()),()),((u1.2.1++[(p1.1,p1.2.1,p1.2.2.1,())]),())))else none
abbrev SG:Type:=(AFj×Unit)×Unit
abbrev U5:Type:=List Int→Int→ACx→Bool→Int→Int→Int→List UInt8→Int→Int→Bool→List UInt8→Option SG
def Wu(R4:U5)(t0:AAO)(t1:Int)(t2:ACx)(t8:Bool)(t9 AU AG:Int)(Aq:ACC)(Cj Bj:Int)(El:Bool)(Gq:ACC):Option SG:=
 cond ((decide (t9<(t2.length:Int))))
  (if(0:Int)≤t9∧t9<(t2.length:Int)then(
  cond (!((t2.getD (t9.toNat) (0,false,0,0,false,[],())).2.1))
   (R4 t0 t1 t2 t8 (AZ (t9+1)) AU AG Aq Cj Bj El Gq)
  ((DG t0 ((t2.getD (t9.toNat) (0,false,0,0,false,[],())).1)).bind fun u4=>
  cond (!u4.1.1)
   (R4 t0 t1 t2 t8 (AZ (t9+1)) AU AG Aq Cj Bj El Gq)
  ((L0 ((t2.getD (t9.toNat) (0,false,0,0,false,[],())).2.2.1,(t2.getD (t9.toNat) (0,false,0,0,false,[],())).2.2.2.1,(t2.getD (t9.toNat) (0,false,0,0,false,[],())).2.2.2.2.1,(t2.getD (t9.toNat) (0,false,0,0,false,[],())).2.2.2.2.2.1,())).bind fun u5=>
  cond (!u5.1.1)
   (R4 t0 t1 t2 t8 (AZ (t9+1)) AU AG Aq Cj Bj El Gq)
  (cond (((t2.getD (t9.toNat) (0,false,0,0,false,[],())).2.2.1) !=t1)
   (R4 t0 t1 t2 t8 (AZ (t9+1)) AU AG Aq Cj Bj El Gq)
  (cond (!t8)
   ((Qg ((t2.getD (t9.toNat) (0,false,0,0,false,[],())).2.2.1,(t2.getD (t9.toNat) (0,false,0,0,false,[],())).2.2.2.1,(t2.getD (t9.toNat) (0,false,0,0,false,[],())).2.2.2.2.1,(t2.getD (t9.toNat) (0,false,0,0,false,[],())).2.2.2.2.2.1,()) ((t2.getD (t9.toNat) (0,false,0,0,false,[],())).2.2.1,(t2.getD (t9.toNat) (0,false,0,0,false,[],())).2.2.2.1,(t2.getD (t9.toNat) (0,false,0,0,false,[],())).2.2.2.2.1,(t2.getD (t9.toNat) (0,false,0,0,false,[],())).2.2.2.2.2.1,())).bind fun u7=>
   R4 t0 t1 t2 true (AZ (t9+1)) AU AG Aq u7.1.1.1 u7.1.1.2.1 u7.1.1.2.2.1 u7.1.1.2.2.2.1)
  ((Qg (Cj,Bj,El,Gq,()) ((t2.getD (t9.toNat) (0,false,0,0,false,[],())).2.2.1,(t2.getD (t9.toNat) (0,false,0,0,false,[],())).2.2.2.1,(t2.getD (t9.toNat) (0,false,0,0,false,[],())).2.2.2.2.1,(t2.getD (t9.toNat) (0,false,0,0,false,[],())).2.2.2.2.2.1,())).bind fun u8=>
  R4 t0 t1 t2 true (AZ (t9+1)) AU AG Aq u8.1.1.1 u8.1.1.2.1 u8.1.1.2.2.1 u8.1.1.2.2.2.1))))))else none)
 (cond (!t8)
  (some (((3,t1,[],()),()),()))
 (cond (El)
  (some (((2,t1,[],()),()),()))
 (some (((1,t1,Gq,()),()),()))))
def Mg:Nat→U5
 |0=>fun _ _ _ _ _ _ _ _ _ _ _ _=>none
 |n+1=>Wu (Mg n)
def gj(R4:U5)(p0:AAO)(p1:Int)(p2:ACx):Option SG:=
 R4 p0 p1 p2 false 0 0 0 [] 0 0 false []
def MK(p0:AAO)(p1:Int)(p2:ACx):Option SG:=gj (Mg Ae) p0 p1 p2
abbrev YE:Type:=(AGK×Unit)×AFJ
def Pn(p0:AA9)(p1:ABr)(p2:Int)(p3:AC8)(p4:ACx):Option YE:=
 (ZJ (p0.1,p0.2.1,()) p4).bind fun u1=>
 (MQ (p0.1,p0.2.1,()) (p1.1,p1.2.1,())).bind fun u2=>
 cond (!u2.1.1)
  (some ((((0,0,(),()),1,()),()),([],())))
 ((Mt (p3.1,p3.2.1,p3.2.2.1,())).bind fun u3=>
 cond (!u3.1.1)
  (some ((((0,0,(),()),1,()),()),([],())))
 (cond (!u1.1.1.2.1)
  (some ((((0,0,(),()),1,()),()),([],())))
 (cond ((decide (p3.1>(p1.1.length:Int))))
  ((CK (p3.1,p3.2.1,p3.2.2.1,())).bind fun u5=>
  some ((((u5.1.1.1,u5.1.1.2.1,(),()),2,()),()),(u5.2.1,())))
 (cond ((p3.2.2.1.length:Int)==120)
  ((CK (p3.1,p3.2.1,p3.2.2.1,())).bind fun u7=>
  some ((((u7.1.1.1,u7.1.1.2.1,(),()),2,()),()),(u7.2.1,())))
 (if(0:Int)≤AZ (p3.1-1)∧AZ (p3.1-1)<(p1.1.length:Int)then(
 (ES p3.1 p3.2.1).bind fun u8=>
 cond ((decide (p1.2.1≥u8.1.1)))
  ((Cr p1.2.1).bind fun ED=>
  (HD p1.2.1).bind fun N9=>
  (IZ (p3.1,p3.2.1,p3.2.2.1,()) (5,p1.2.1,[],()) ED.1.1 (AZ (N9.1.1+1))).bind fun aL=>
  some ((((aL.1.1.1,aL.1.1.2.1,(),()),0,()),()),(aL.2.1,())))
 (cond (((p1.1.getD ((AZ (p3.1-1)).toNat) ([],false,0,())).2.1))
  (cond ((decide (p3.2.1>((p1.1.getD ((AZ (p3.1-1)).toNat) ([],false,0,())).2.2.1))))
   ((IZ (p3.1,p3.2.1,p3.2.2.1,()) (4,AZ (p3.1+1),[],()) (AZ (p3.1+1)) 1).bind fun u16=>
   some ((((u16.1.1.1,u16.1.1.2.1,(),()),0,()),()),(u16.2.1,())))
  (cond (!((p1.1.getD ((AZ (p3.1-1)).toNat) ([],false,0,())).2.1))
   (cond (decide (p3.2.1>p2))
    ((CK (p3.1,p3.2.1,p3.2.2.1,())).bind fun nf=>
    some ((((nf.1.1.1,nf.1.1.2.1,(),()),2,()),()),(nf.2.1,())))
   (cond (decide (p3.2.1>60))
    ((CK (p3.1,p3.2.1,p3.2.2.1,())).bind fun j5=>
    some ((((j5.1.1.1,j5.1.1.2.1,(),()),2,()),()),(j5.2.1,())))
   ((J7 u1.2.1 ((p1.1.getD ((AZ (p3.1-1)).toNat) ([],false,0,())).1)).bind fun SV=>
   (KG (p0.1,p0.2.1,()) ((p1.1.getD ((AZ (p3.1-1)).toNat) ([],false,0,())).1) SV.2.1).bind fun lj=>
   cond (!lj.1.1)
    ((CK (p3.1,p3.2.1,p3.2.2.1,())).bind fun u22=>
    some ((((u22.1.1.1,u22.1.1.2.1,(),()),3,()),()),(u22.2.1,())))
   ((MK ((p1.1.getD ((AZ (p3.1-1)).toNat) ([],false,0,())).1) u8.1.1 p4).bind fun ZH=>
   (IZ (p3.1,p3.2.1,p3.2.2.1,()) (ZH.1.1.1,ZH.1.1.2.1,ZH.1.1.2.2.1,()) p3.1 (AZ (p3.2.1+1))).bind fun Xj=>
   some ((((Xj.1.1.1,Xj.1.1.2.1,(),()),0,()),()),(Xj.2.1,()))))))
  (cond (decide (p3.2.1>60))
   ((CK (p3.1,p3.2.1,p3.2.2.1,())).bind fun fP=>
   some ((((fP.1.1.1,fP.1.1.2.1,(),()),2,()),()),(fP.2.1,())))
  ((J7 u1.2.1 ((p1.1.getD ((AZ (p3.1-1)).toNat) ([],false,0,())).1)).bind fun nU=>
  (KG (p0.1,p0.2.1,()) ((p1.1.getD ((AZ (p3.1-1)).toNat) ([],false,0,())).1) nU.2.1).bind fun vS=>
  cond (!vS.1.1)
   ((CK (p3.1,p3.2.1,p3.2.2.1,())).bind fun Xh=>
   some ((((Xh.1.1.1,Xh.1.1.2.1,(),()),3,()),()),(Xh.2.1,())))
  ((MK ((p1.1.getD ((AZ (p3.1-1)).toNat) ([],false,0,())).1) u8.1.1 p4).bind fun sI=>
  (IZ (p3.1,p3.2.1,p3.2.2.1,()) (sI.1.1.1,sI.1.1.2.1,sI.1.1.2.2.1,()) p3.1 (AZ (p3.2.1+1))).bind fun nJ=>
  some ((((nJ.1.1.1,nJ.1.1.2.1,(),()),0,()),()),(nJ.2.1,())))))))
 (cond (!((p1.1.getD ((AZ (p3.1-1)).toNat) ([],false,0,())).2.1))
  (cond (decide (p3.2.1>p2))
   ((CK (p3.1,p3.2.1,p3.2.2.1,())).bind fun u32=>
   some ((((u32.1.1.1,u32.1.1.2.1,(),()),2,()),()),(u32.2.1,())))
  (cond (decide (p3.2.1>60))
   ((CK (p3.1,p3.2.1,p3.2.2.1,())).bind fun ld=>
   some ((((ld.1.1.1,ld.1.1.2.1,(),()),2,()),()),(ld.2.1,())))
  ((J7 u1.2.1 ((p1.1.getD ((AZ (p3.1-1)).toNat) ([],false,0,())).1)).bind fun uN=>
  (KG (p0.1,p0.2.1,()) ((p1.1.getD ((AZ (p3.1-1)).toNat) ([],false,0,())).1) uN.2.1).bind fun u35=>
  cond (!u35.1.1)
   ((CK (p3.1,p3.2.1,p3.2.2.1,())).bind fun u36=>
   some ((((u36.1.1.1,u36.1.1.2.1,(),()),3,()),()),(u36.2.1,())))
  ((MK ((p1.1.getD ((AZ (p3.1-1)).toNat) ([],false,0,())).1) u8.1.1 p4).bind fun mC=>
  (IZ (p3.1,p3.2.1,p3.2.2.1,()) (mC.1.1.1,mC.1.1.2.1,mC.1.1.2.2.1,()) p3.1 (AZ (p3.2.1+1))).bind fun u38=>
  some ((((u38.1.1.1,u38.1.1.2.1,(),()),0,()),()),(u38.2.1,()))))))
 (cond (decide (p3.2.1>60))
  ((CK (p3.1,p3.2.1,p3.2.2.1,())).bind fun u39=>
  some ((((u39.1.1.1,u39.1.1.2.1,(),()),2,()),()),(u39.2.1,())))
 ((J7 u1.2.1 ((p1.1.getD ((AZ (p3.1-1)).toNat) ([],false,0,())).1)).bind fun u40=>
 (KG (p0.1,p0.2.1,()) ((p1.1.getD ((AZ (p3.1-1)).toNat) ([],false,0,())).1) u40.2.1).bind fun u41=>
 cond (!u41.1.1)
  ((CK (p3.1,p3.2.1,p3.2.2.1,())).bind fun u42=>
  some ((((u42.1.1.1,u42.1.1.2.1,(),()),3,()),()),(u42.2.1,())))
 ((MK ((p1.1.getD ((AZ (p3.1-1)).toNat) ([],false,0,())).1) u8.1.1 p4).bind fun u43=>
 (IZ (p3.1,p3.2.1,p3.2.2.1,()) (u43.1.1.1,u43.1.1.2.1,u43.1.1.2.2.1,()) p3.1 (AZ (p3.2.1+1))).bind fun u44=>
 some ((((u44.1.1.1,u44.1.1.2.1,(),()),0,()),()),(u44.2.1,()))))))))else none)))))
abbrev ow:Type:=ADA×ADD
def Vu(CI CL:Int)(BS:Bool)(p1:AC3)(b0:AAO)(b1:AAP)(b2:AAO)(b3:AAS)(b4:AAr)(b5:AAv)(b6:AAs)(b7:AAk):Option ow:=
 (CG p1.2.1 0 1).bind fun u1=>
 cond (!u1.1.1)
  (some (((((),CI,(),(),(),CL,(),(),(),(),BS,()),2,()),()),(b0,b1,b2,b3,b4,b5,b6,b7,())))
 (if(0:Int)≤p1.2.1∧p1.2.1<(b6.length:Int)then(
 if(0:Int)≤p1.2.1∧p1.2.1<(b6.length:Int)then(
 if(0:Int)≤p1.2.1∧p1.2.1<(b6.length:Int)then(
 (c_ (b0,CI,b1,b2,b3,CL,b4,b5,b6,b7,BS,()) ((b6.getD (p1.2.1.toNat) (0,0,[],())).1)).bind fun u3=>
 (Pv (b0,CI,b1,b2,b3,CL,b4,b5,b6,b7,BS,()) ((b6.getD (p1.2.1.toNat) (0,0,[],())).1,(b6.getD (p1.2.1.toNat) (0,0,[],())).2.1,(b6.getD (p1.2.1.toNat) (0,0,[],())).2.2.1,()) p1.2.2.1).bind fun u4=>
 (Pn (b0,CI,()) (b3,CL,()) u3.1.1 ((b6.getD (p1.2.1.toNat) (0,0,[],())).1,(b6.getD (p1.2.1.toNat) (0,0,[],())).2.1,(b6.getD (p1.2.1.toNat) (0,0,[],())).2.2.1,()) u4.2.1).bind fun u5=>
 cond (u5.1.1.2.1 !=0)
  (some (((((),CI,(),(),(),CL,(),(),(),(),BS,()),5,()),()),(b0,b1,b2,b3,b4,b5,b6,b7,())))
 (if(0:Int)≤p1.2.1∧p1.2.1<(b6.length:Int)then(
 some (((((),CI,(),(),(),CL,(),(),(),(),BS,()),0,()),()),(b0,b1,b2,b3,b4,b5,(b6.set (p1.2.1.toNat) (u5.1.1.1.1,u5.1.1.1.2.1,u5.2.1,())),b7,())))else none))else none)else none)else none)
abbrev Nw:Type:=ADA×(List Int×AAP×List Int×AAS×Unit×AAv×AAs×AAk×AAr×Unit)
abbrev U2:Type:=Int→List Int→AAP→List Int→AAS→AAr→AAv→AAs→AAk→Int→Int→Bool→Int→Int→Int→Int→List UInt8→Int→Int→Bool→List Int→AAP→List Int→AAS→AAr→AAv→AAs→AAk→AAr→Option Nw
def XN(R5:U2)(t7:Int)(b0:AAO)(b1:AAP)(b2:AAO)(b3:AAS)(b4:AAr)(b5:AAv)(b6:AAs)(b7:AAk)(Dc Dq:Int)(CH:Bool)(iG Dx dq ATk:Int)(AWI:ACC)(DM D7:Int)(Cf:Bool)(FV:AAO)(Di:AAP)(GF:AAO)(GG:AAS)(D8:AAr)(EZ:AAv)(FD:AAs)(Q0:AAk)(ub:AAr):Option Nw:=
 cond ((decide (t7<(b4.length:Int))))
  (cond (t7 !=Dx)
   (if(0:Int)≤t7∧t7<(b4.length:Int)then(
   if ub.length+1≤Dr then(
   R5 (AZ (t7+1)) b0 b1 b2 b3 b4 b5 b6 b7 Dc Dq CH iG Dx dq ATk AWI DM D7 Cf FV Di GF GG D8 EZ FD Q0 (ub++[((b4.getD (t7.toNat) (0,[],())).1,(b4.getD (t7.toNat) (0,[],())).2.1,())]))else none)else none)
  (R5 (AZ (t7+1)) b0 b1 b2 b3 b4 b5 b6 b7 Dc Dq CH iG Dx dq ATk AWI DM D7 Cf FV Di GF GG D8 EZ FD Q0 ub))
 (some (((((),Dc,(),(),(),Dq,(),(),(),(),CH,()),0,()),()),(b0,b1,b2,b3,(),b5,b6,b7,ub,())))
def MV:Nat→U2
 |0=>fun _ _ _ _ _ _ _ _ _ _ _ _ _ _ _ _ _ _ _ _ _ _ _ _ _ _ _ _ _=>none
 |n+1=>XN (MV n)
def Wh(R5:U2)(CI CL:Int)(BS:Bool)(p1:AC3)(b0:AAO)(b1:AAP)(b2:AAO)(b3:AAS)(b4:AAr)(b5:AAv)(b6:AAs)(b7:AAk):Option Nw:=
 (LC (b0,CI,b1,b2,b3,CL,b4,b5,b6,b7,BS,()) p1.2.1).bind fun u1=>
 cond (!u1.1.1)
  (some (((((),CI,(),(),(),CL,(),(),(),(),BS,()),2,()),()),(b0,b1,b2,b3,(),b5,b6,b7,b4,())))
 (R5 0 b0 b1 b2 b3 b4 b5 b6 b7 CI CL BS p1.1 p1.2.1 p1.2.2.1 p1.2.2.2.1 p1.2.2.2.2.1 0 0 false [] [] [] [] [] [] [] [] [])
def WH(CI CL:Int)(BS:Bool)(p1:AC3)(b0:AAO)(b1:AAP)(b2:AAO)(b3:AAS)(b4:AAr)(b5:AAv)(b6:AAs)(b7:AAk):Option Nw:=Wh (MV Ae) CI CL BS p1 b0 b1 b2 b3 b4 b5 b6 b7
abbrev Ot:Type:=ADH×ADF
abbrev Rj:Type:=Int→Int→AAw→AAw→Int→Int→AAw→AAw→Int→AAw→AAw→Option Ot
def UJ(R8:Rj)(t1 t7:Int)(AU AG:AAw)(Aq El:Int)(b2 b3:AAw)(aZ:Int)(b5 b6:AAw):Option Ot:=
 cond ((decide (t7<(AU.length:Int))))
  (if(0:Int)≤t7∧t7<(AU.length:Int)then(
  cond (decide (((AU.getD (t7.toNat) (0,0,false,[],())).1)>t1))
   (if(0:Int)≤t7∧t7<(AU.length:Int)then(
   if b5.length+1≤Dr then(
   R8 t1 (AZ (t7+1)) AU AG Aq El b2 b3 aZ (b5++[((AU.getD (t7.toNat) (0,0,false,[],())).1,(AU.getD (t7.toNat) (0,0,false,[],())).2.1,(AU.getD (t7.toNat) (0,0,false,[],())).2.2.1,(AU.getD (t7.toNat) (0,0,false,[],())).2.2.2.1,())]) b6)else none)else none)
  (R8 t1 (AZ (t7+1)) AU AG Aq El b2 b3 aZ b5 b6))else none)
 (some (((((),(),aZ,()),true,()),()),(b5,b6,())))
def KD:Nat→Rj
 |0=>fun _ _ _ _ _ _ _ _ _ _ _=>none
 |n+1=>UJ (KD n)
def UB(R8:Rj)(p0:ACN)(p1:Int):Option Ot:=
 (Gk (p0.1,p0.2.1,p0.2.2.1,())).bind fun u1=>
 cond (!u1.1.1)
  (some (((((),(),0,()),false,()),()),([],[],())))
 ((Em (p0.1,p0.2.1,p0.2.2.1,())).bind fun u2=>
 (HM p1).bind fun u3=>
 cond (!u3.1.1)
  (some (((((),(),u2.1.1.2.2.1,()),false,()),()),(u2.2.1,u2.2.2.1,())))
 (R8 p1 0 p0.1 p0.2.1 p0.2.2.1 0 [] [] u2.1.1.2.2.1 [] u2.2.2.1))
def Q8(p0:ACN)(p1:Int):Option Ot:=UB (KD Ae) p0 p1
abbrev mY:Type:=ADA×ADD
def Td(CI CL:Int)(BS:Bool)(p1:AC3)(b0:AAO)(b1:AAP)(b2:AAO)(b3:AAS)(b4:AAr)(b5:AAv)(b6:AAs)(b7:AAk):Option mY:=
 (HN (b0,CI,b1,b2,b3,CL,b4,b5,b6,b7,BS,()) p1.2.1).bind fun u1=>
 cond (u1.1.1 !=0)
  (some (((((),CI,(),(),(),CL,(),(),(),(),BS,()),u1.1.1,()),()),(b0,b1,b2,b3,b4,b5,b6,b7,())))
 (if(0:Int)≤p1.2.1∧p1.2.1<(b1.length:Int)then(
 (MY ((b1.getD (p1.2.1.toNat) ([],[],0,())).1,(b1.getD (p1.2.1.toNat) ([],[],0,())).2.1,(b1.getD (p1.2.1.toNat) ([],[],0,())).2.2.1,()) p1.2.2.1).bind fun u2=>
 cond (p1.1==16)
  (if(0:Int)≤p1.2.1∧p1.2.1<(b1.length:Int)then(
  (Q8 ((b1.getD (p1.2.1.toNat) ([],[],0,())).1,(b1.getD (p1.2.1.toNat) ([],[],0,())).2.1,(b1.getD (p1.2.1.toNat) ([],[],0,())).2.2.1,()) CL).bind fun u3=>
  cond (!u3.1.1.2.1)
   (some (((((),CI,(),(),(),CL,(),(),(),(),BS,()),4,()),()),(b0,b1,b2,b3,b4,b5,b6,b7,())))
  (if(0:Int)≤p1.2.1∧p1.2.1<(b1.length:Int)then(
  some (((((),CI,(),(),(),CL,(),(),(),(),BS,()),0,()),()),(b0,(b1.set (p1.2.1.toNat) (u3.2.1,u3.2.2.1,u3.1.1.1.2.2.1,())),b2,b3,b4,b5,b6,b7,())))else none))else none)
 (cond (!u2.1.1.2.1)
  (some (((((),CI,(),(),(),CL,(),(),(),(),BS,()),4,()),()),(b0,b1,b2,b3,b4,b5,b6,b7,())))
 (if(0:Int)≤p1.2.1∧p1.2.1<(b1.length:Int)then(
 some (((((),CI,(),(),(),CL,(),(),(),(),BS,()),0,()),()),(b0,(b1.set (p1.2.1.toNat) (u2.2.1,u2.2.2.1,u2.1.1.1.2.2.1,())),b2,b3,b4,b5,b6,b7,())))else none)))else none)
abbrev h_:Type:=ADA×(List Int×AAP×Unit×Unit×Unit×Unit×AAs×Unit×List Int×AAS×AAr×AAv×AAk×Unit)
def bI(CI CL:Int)(BS:Bool)(p1:AC3)(b0:AAO)(b1:AAP)(b2:AAO)(b3:AAS)(b4:AAr)(b5:AAv)(b6:AAs)(b7:AAk):Option h_:=
 cond (p1.1==1)
  ((Vm CI CL BS (p1.1,p1.2.1,p1.2.2.1,p1.2.2.2.1,p1.2.2.2.2.1,()) b0 b1 b2 b3 b4 b5 b6 b7).bind fun u1=>
  some (((((),u1.1.1.1.2.1,(),(),(),u1.1.1.1.2.2.2.2.2.1,(),(),(),(),u1.1.1.1.2.2.2.2.2.2.2.2.2.2.1,()),u1.1.1.2.1,()),()),(u1.2.1,u1.2.2.1,(),(),(),(),u1.2.2.2.2.2.2.2.1,(),u1.2.2.2.1,u1.2.2.2.2.2.2.2.2.2.1,u1.2.2.2.2.2.2.2.2.2.2.1,u1.2.2.2.2.2.2.2.2.2.2.2.1,u1.2.2.2.2.2.2.2.2.1,())))
 (cond (p1.1==2)
  ((X8 CI CL BS (p1.1,p1.2.1,p1.2.2.1,p1.2.2.2.1,p1.2.2.2.2.1,()) b0 b1 b2 b3 b4 b5 b6 b7).bind fun u5=>
  some (((((),u5.1.1.1.2.1,(),(),(),u5.1.1.1.2.2.2.2.2.1,(),(),(),(),u5.1.1.1.2.2.2.2.2.2.2.2.2.2.1,()),u5.1.1.2.1,()),()),(u5.2.1,u5.2.2.1,(),(),(),(),u5.2.2.2.2.2.2.2.1,(),u5.2.2.2.1,u5.2.2.2.2.1,u5.2.2.2.2.2.1,u5.2.2.2.2.2.2.1,u5.2.2.2.2.2.2.2.2.2.1,())))
 (cond (p1.1==3)
  ((Tr CI CL BS (p1.1,p1.2.1,p1.2.2.1,p1.2.2.2.1,p1.2.2.2.2.1,()) b0 b1 b2 b3 b4 b5 b6 b7).bind fun u7=>
  some (((((),u7.1.1.1.2.1,(),(),(),u7.1.1.1.2.2.2.2.2.1,(),(),(),(),u7.1.1.1.2.2.2.2.2.2.2.2.2.2.1,()),u7.1.1.2.1,()),()),(u7.2.1,u7.2.2.1,(),(),(),(),u7.2.2.2.2.2.2.2.1,(),u7.2.2.2.1,u7.2.2.2.2.1,u7.2.2.2.2.2.1,u7.2.2.2.2.2.2.1,u7.2.2.2.2.2.2.2.2.1,())))
 (cond (p1.1==4)
  ((WC CI CL BS (p1.1,p1.2.1,p1.2.2.1,p1.2.2.2.1,p1.2.2.2.2.1,()) b0 b1 b2 b3 b4 b5 b6 b7).bind fun u8=>
  some (((((),u8.1.1.1.2.1,(),(),(),u8.1.1.1.2.2.2.2.2.1,(),(),(),(),u8.1.1.1.2.2.2.2.2.2.2.2.2.2.1,()),u8.1.1.2.1,()),()),(u8.2.1,u8.2.2.1,(),(),(),(),u8.2.2.2.2.2.2.2.1,(),u8.2.2.2.1,u8.2.2.2.2.1,u8.2.2.2.2.2.1,u8.2.2.2.2.2.2.1,u8.2.2.2.2.2.2.2.2.1,())))
 (cond (p1.1==6)
  ((V4 CI CL BS (p1.1,p1.2.1,p1.2.2.1,p1.2.2.2.1,p1.2.2.2.2.1,()) b0 b1 b2 b3 b4 b5 b6 b7).bind fun u9=>
  some (((((),u9.1.1.1.2.1,(),(),(),u9.1.1.1.2.2.2.2.2.1,(),(),(),(),u9.1.1.1.2.2.2.2.2.2.2.2.2.2.1,()),u9.1.1.2.1,()),()),(u9.2.1,u9.2.2.1,(),(),(),(),u9.2.2.2.2.2.2.2.1,(),u9.2.2.2.2.2.2.2.2.2.1,u9.2.2.2.2.1,u9.2.2.2.2.2.1,u9.2.2.2.2.2.2.1,u9.2.2.2.2.2.2.2.2.1,())))
 (cond (p1.1==7)
  ((WG CI CL BS (p1.1,p1.2.1,p1.2.2.1,p1.2.2.2.1,p1.2.2.2.2.1,()) b0 b1 b2 b3 b4 b5 b6 b7).bind fun N9=>
  some (((((),N9.1.1.1.2.1,(),(),(),N9.1.1.1.2.2.2.2.2.1,(),(),(),(),N9.1.1.1.2.2.2.2.2.2.2.2.2.2.1,()),N9.1.1.2.1,()),()),(N9.2.1,N9.2.2.1,(),(),(),(),N9.2.2.2.2.2.2.2.1,(),N9.2.2.2.2.2.2.2.2.2.1,N9.2.2.2.2.1,N9.2.2.2.2.2.1,N9.2.2.2.2.2.2.1,N9.2.2.2.2.2.2.2.2.1,())))
 (cond (p1.1==8)
  ((Vv CI CL BS b0 b1 b2 b3 b4 b5 b6 b7).bind fun VH=>
  some (((((),VH.1.1.1.2.1,(),(),(),VH.1.1.1.2.2.2.2.2.1,(),(),(),(),VH.1.1.1.2.2.2.2.2.2.2.2.2.2.1,()),VH.1.1.2.1,()),()),(VH.2.1,VH.2.2.1,(),(),(),(),VH.2.2.2.2.2.2.2.1,(),VH.2.2.2.1,VH.2.2.2.2.1,VH.2.2.2.2.2.1,VH.2.2.2.2.2.2.2.2.2.1,VH.2.2.2.2.2.2.2.2.1,())))
 (cond (p1.1==9)
  ((WE CI CL BS (p1.1,p1.2.1,p1.2.2.1,p1.2.2.2.1,p1.2.2.2.2.1,()) b0 b1 b2 b3 b4 b5 b6 b7).bind fun jg=>
  some (((((),jg.1.1.1.2.1,(),(),(),jg.1.1.1.2.2.2.2.2.1,(),(),(),(),jg.1.1.1.2.2.2.2.2.2.2.2.2.2.1,()),jg.1.1.2.1,()),()),(jg.2.1,jg.2.2.1,(),(),(),(),jg.2.2.2.2.2.2.2.1,(),jg.2.2.2.1,jg.2.2.2.2.1,jg.2.2.2.2.2.1,jg.2.2.2.2.2.2.1,jg.2.2.2.2.2.2.2.2.1,())))
 (cond (p1.1==10)
  ((Vs CI CL BS b0 b1 b2 b3 b4 b5 b6 b7).bind fun j5=>
  some (((((),j5.1.1.1.2.1,(),(),(),j5.1.1.1.2.2.2.2.2.1,(),(),(),(),j5.1.1.1.2.2.2.2.2.2.2.2.2.2.1,()),j5.1.1.2.1,()),()),(j5.2.1,j5.2.2.1,(),(),(),(),j5.2.2.2.2.2.2.2.1,(),j5.2.2.2.1,j5.2.2.2.2.1,j5.2.2.2.2.2.1,j5.2.2.2.2.2.2.1,j5.2.2.2.2.2.2.2.2.1,())))
 (cond (p1.1==11)
  ((X7 CI CL BS (p1.1,p1.2.1,p1.2.2.1,p1.2.2.2.1,p1.2.2.2.2.1,()) b0 b1 b2 b3 b4 b5 b6 b7).bind fun lj=>
  some (((((),lj.1.1.1.2.1,(),(),(),lj.1.1.1.2.2.2.2.2.1,(),(),(),(),lj.1.1.1.2.2.2.2.2.2.2.2.2.2.1,()),lj.1.1.2.1,()),()),(lj.2.1,lj.2.2.1,(),(),(),(),lj.2.2.2.2.2.2.2.1,(),lj.2.2.2.1,lj.2.2.2.2.1,lj.2.2.2.2.2.1,lj.2.2.2.2.2.2.1,lj.2.2.2.2.2.2.2.2.1,())))
 (cond (p1.1==12)
  ((T1 CI CL BS b0 b1 b2 b3 b4 b5 b6 b7).bind fun ZH=>
  some (((((),ZH.1.1.1.2.1,(),(),(),ZH.1.1.1.2.2.2.2.2.1,(),(),(),(),ZH.1.1.1.2.2.2.2.2.2.2.2.2.2.1,()),ZH.1.1.2.1,()),()),(ZH.2.1,ZH.2.2.1,(),(),(),(),ZH.2.2.2.2.2.2.2.1,(),ZH.2.2.2.1,ZH.2.2.2.2.2.2.2.2.2.1,ZH.2.2.2.2.2.1,ZH.2.2.2.2.2.2.2.2.2.2.1,ZH.2.2.2.2.2.2.2.2.1,())))
 (cond (p1.1==13)
  ((WB (b0,CI,()) (b3,CL,()) p1.2.1).bind fun vS=>
  cond (!vS.1.1.2.1)
   (some (((((),CI,(),(),(),CL,(),(),(),(),BS,()),4,()),()),(b0,b1,(),(),(),(),b6,(),b2,b3,b4,b5,b7,())))
  (some (((((),CI,(),(),(),vS.1.1.1.2.1,(),(),(),(),BS,()),0,()),()),(b0,b1,(),(),(),(),b6,(),b2,vS.2.1,b4,b5,b7,()))))
 (cond (p1.1==14)
  ((Vu CI CL BS (p1.1,p1.2.1,p1.2.2.1,p1.2.2.2.1,p1.2.2.2.2.1,()) b0 b1 b2 b3 b4 b5 b6 b7).bind fun Xh=>
  some (((((),Xh.1.1.1.2.1,(),(),(),Xh.1.1.1.2.2.2.2.2.1,(),(),(),(),Xh.1.1.1.2.2.2.2.2.2.2.2.2.2.1,()),Xh.1.1.2.1,()),()),(Xh.2.1,Xh.2.2.1,(),(),(),(),Xh.2.2.2.2.2.2.2.1,(),Xh.2.2.2.1,Xh.2.2.2.2.1,Xh.2.2.2.2.2.1,Xh.2.2.2.2.2.2.1,Xh.2.2.2.2.2.2.2.2.1,())))
 (cond (p1.1==15)
  ((WH CI CL BS (p1.1,p1.2.1,p1.2.2.1,p1.2.2.2.1,p1.2.2.2.2.1,()) b0 b1 b2 b3 b4 b5 b6 b7).bind fun nJ=>
  some (((((),nJ.1.1.1.2.1,(),(),(),nJ.1.1.1.2.2.2.2.2.1,(),(),(),(),nJ.1.1.1.2.2.2.2.2.2.2.2.2.2.1,()),nJ.1.1.2.1,()),()),(nJ.2.1,nJ.2.2.1,(),(),(),(),nJ.2.2.2.2.2.2.2.1,(),nJ.2.2.2.1,nJ.2.2.2.2.1,nJ.2.2.2.2.2.2.2.2.2.1,nJ.2.2.2.2.2.2.1,nJ.2.2.2.2.2.2.2.2.1,())))
 ((Td CI CL BS (p1.1,p1.2.1,p1.2.2.1,p1.2.2.2.1,p1.2.2.2.2.1,()) b0 b1 b2 b3 b4 b5 b6 b7).bind fun ld=>
 some (((((),ld.1.1.1.2.1,(),(),(),ld.1.1.1.2.2.2.2.2.1,(),(),(),(),ld.1.1.1.2.2.2.2.2.2.2.2.2.2.1,()),ld.1.1.2.1,()),()),(ld.2.1,ld.2.2.1,(),(),(),(),ld.2.2.2.2.2.2.2.1,(),ld.2.2.2.1,ld.2.2.2.2.1,ld.2.2.2.2.2.1,ld.2.2.2.2.2.2.1,ld.2.2.2.2.2.2.2.2.1,()))))))))))))))))
abbrev qK:Type:=ADA×ADD
def SE(p0:ABF)(p1:AC3):Option qK:=
 (Q9 (p0.1,p0.2.1,p0.2.2.1,p0.2.2.2.1,p0.2.2.2.2.1,p0.2.2.2.2.2.1,p0.2.2.2.2.2.2.1,p0.2.2.2.2.2.2.2.1,p0.2.2.2.2.2.2.2.2.1,p0.2.2.2.2.2.2.2.2.2.1,p0.2.2.2.2.2.2.2.2.2.2.1,())).bind fun u1=>
 cond (!u1.1.1)
  (some (((((),0,(),(),(),0,(),(),(),(),false,()),1,()),()),([],[],[],[],[],[],[],[],())))
 ((Xw (p1.1,p1.2.1,p1.2.2.1,p1.2.2.2.1,p1.2.2.2.2.1,())).bind fun u2=>
 cond (!u2.1.1)
  (some (((((),0,(),(),(),0,(),(),(),(),false,()),1,()),()),([],[],[],[],[],[],[],[],())))
 ((L8 (p0.1,p0.2.1,p0.2.2.1,p0.2.2.2.1,p0.2.2.2.2.1,p0.2.2.2.2.2.1,p0.2.2.2.2.2.2.1,p0.2.2.2.2.2.2.2.1,p0.2.2.2.2.2.2.2.2.1,p0.2.2.2.2.2.2.2.2.2.1,p0.2.2.2.2.2.2.2.2.2.2.1,())).bind fun u3=>
 (bI u3.1.1.2.1 u3.1.1.2.2.2.2.2.1 u3.1.1.2.2.2.2.2.2.2.2.2.2.1 (p1.1,p1.2.1,p1.2.2.1,p1.2.2.2.1,p1.2.2.2.2.1,()) u3.2.1 u3.2.2.1 u3.2.2.2.1 u3.2.2.2.2.1 u3.2.2.2.2.2.1 u3.2.2.2.2.2.2.1 u3.2.2.2.2.2.2.2.1 u3.2.2.2.2.2.2.2.2.1).bind fun u4=>
 cond (u4.1.1.2.1 !=0)
  ((L8 (p0.1,p0.2.1,p0.2.2.1,p0.2.2.2.1,p0.2.2.2.2.1,p0.2.2.2.2.2.1,p0.2.2.2.2.2.2.1,p0.2.2.2.2.2.2.2.1,p0.2.2.2.2.2.2.2.2.1,p0.2.2.2.2.2.2.2.2.2.1,p0.2.2.2.2.2.2.2.2.2.2.1,())).bind fun ED=>
  some (((((),ED.1.1.2.1,(),(),(),ED.1.1.2.2.2.2.2.1,(),(),(),(),ED.1.1.2.2.2.2.2.2.2.2.2.2.1,()),u4.1.1.2.1,()),()),(ED.2.1,ED.2.2.1,ED.2.2.2.1,ED.2.2.2.2.1,ED.2.2.2.2.2.1,ED.2.2.2.2.2.2.1,ED.2.2.2.2.2.2.2.1,ED.2.2.2.2.2.2.2.2.1,())))
 (some (((((),u4.1.1.1.2.1,(),(),(),u4.1.1.1.2.2.2.2.2.1,(),(),(),(),u4.1.1.1.2.2.2.2.2.2.2.2.2.2.1,()),u4.1.1.2.1,()),()),(u4.2.1,u4.2.2.1,u4.2.2.2.2.2.2.2.2.2.1,u4.2.2.2.2.2.2.2.2.2.2.1,u4.2.2.2.2.2.2.2.2.2.2.2.1,u4.2.2.2.2.2.2.2.2.2.2.2.2.1,u4.2.2.2.2.2.2.2.1,u4.2.2.2.2.2.2.2.2.2.2.2.2.2.1,())))))
abbrev Np:Type:=AF7×ADD
abbrev Mu:Type:=ACW×(AAk×Unit)
abbrev Wp:Type:=ADC→Int→Int→AAk→Option Mu
def YO(R5:Wp)(t27:ADC)(t28 t29:Int)(b0:AAk):Option Mu:=
 cond (decide (t29<t28))
  (if(0:Int)≤t29∧t29<(t27.length:Int)then(
  cond (((t27.getD (t29.toNat) (0,0,[],())).1)==1)
   (if b0.length+1≤Dr then(
   R5 t27 t28 (AZ (t29+1)) (b0++[(((t27.getD (t29.toNat) (0,0,[],())).2.1),((t27.getD (t29.toNat) (0,0,[],())).2.2.1),true,())]))else none)
  (R5 t27 t28 (AZ (t29+1)) b0))else none)
 (some (((),()),(b0,())))
def Lb:Nat→Wp
 |0=>fun _ _ _ _=>none
 |n+1=>YO (Lb n)
def Yn(R5:Wp)(p0:ABF)(p1:Int):Option Mu:=
 (IP (p0.1,p0.2.1,p0.2.2.1,p0.2.2.2.1,p0.2.2.2.2.1,p0.2.2.2.2.2.1,p0.2.2.2.2.2.2.1,p0.2.2.2.2.2.2.2.1,p0.2.2.2.2.2.2.2.2.1,p0.2.2.2.2.2.2.2.2.2.1,p0.2.2.2.2.2.2.2.2.2.2.1,())).bind fun u1=>
 cond (!u1.1.1)
  (some (((),()),([],())))
 ((A5 p1 0 (AZ ((p0.2.2.2.2.2.2.2.2.1.length:Int)-1))).bind fun u3=>
 cond (!u3.1.1)
  (some (((),()),([],())))
 (if(0:Int)≤p1∧p1<(p0.2.2.2.2.2.2.2.2.1.length:Int)then(
 R5 ((p0.2.2.2.2.2.2.2.2.1.getD (p1.toNat) (0,0,[],())).2.2.1) (((p0.2.2.2.2.2.2.2.2.1.getD (p1.toNat) (0,0,[],())).2.2.1).length:Int) 0 [])else none))
def Nt(p0:ABF)(p1:Int):Option Mu:=Yn (Lb Ae) p0 p1
abbrev bV:Type:=AFP×ADs
def EF(p0:AA9)(p1:ABr):Option bV:=
 (Ke (p0.1,p0.2.1,()) (p1.1,p1.2.1,())).bind fun u1=>
 cond (!u1.1.1)
  (some ((((),0,()),()),([],())))
 ((EW (p1.1,p1.2.1,())).bind fun u2=>
 some ((((),u2.1.1.2.1,()),()),(u2.2.1,())))
abbrev cr:Type:=(AGL×Unit)×ADs
def MG(p0:AA9)(p1:ABr)(p2:AAO):Option cr:=
 (Ke (p0.1,p0.2.1,()) (p1.1,p1.2.1,())).bind fun u1=>
 cond (!u1.1.1)
  ((EF (p0.1,p0.2.1,()) (p1.1,p1.2.1,())).bind fun u2=>
  some (((((),u2.1.1.2.1,()),0,false,()),()),(u2.2.1,())))
 ((Gh (p0.1,p0.2.1,()) p2).bind fun u3=>
 cond (!u3.1.1)
  ((EF (p0.1,p0.2.1,()) (p1.1,p1.2.1,())).bind fun u4=>
  some (((((),u4.1.1.2.1,()),0,false,()),()),(u4.2.1,())))
 (cond (((p1.1.length:Int)==30))
  ((EF (p0.1,p0.2.1,()) (p1.1,p1.2.1,())).bind fun u6=>
  some (((((),u6.1.1.2.1,()),0,false,()),()),(u6.2.1,())))
 ((EW (p1.1,p1.2.1,())).bind fun u7=>
 (DB p2).bind fun u8=>
 if u7.2.1.length+1≤Dr then(
 let x9:AAS:=u7.2.1++[(u8.2.1,false,0,())]
 some (((((),u7.1.1.2.1,()),(x9.length:Int),true,()),()),(x9,())))else none)))
abbrev YP:Type:=ABN×(ADJ×List Int×AAP×List Int×Unit×Unit×Unit×AAs×AAk×AAS×AAr×AAv×Unit)
def Jy(p1 AG AW:Int)(AL:Bool)(b1:AAO)(b2:AAP)(b3:AAO)(b4:AAS)(b5:AAr)(b6:AAv)(b7:AAs)(b8:AAk):Option YP:=
 cond (((b5.length:Int)==4))
  (some ((4,()),(((),AG,(),(),(),AW,(),(),(),(),AL,()),b1,b2,b3,(),(),(),b7,b8,b4,b5,b6,())))
 ((Hc p1).bind fun u2=>
 (MG (b1,AG,()) (b4,AW,()) u2.2.1).bind fun u3=>
 cond (!u3.1.1.2.2.1)
  (some ((4,()),(((),AG,(),(),(),AW,(),(),(),(),AL,()),b1,b2,b3,(),(),(),b7,b8,b4,b5,b6,())))
 (if b5.length+1≤Dr then(
 some ((0,()),(((),AG,(),(),(),u3.1.1.1.2.1,(),(),(),(),AL,()),b1,b2,b3,(),(),(),b7,b8,u3.2.1,(b5++[(u3.1.1.2.1,[],())]),[],())))else none))
abbrev XE:Type:=AGD×ADw
def EJ(p0:AA9)(p1:ACF):Option XE:=
 (GP (p0.1,p0.2.1,()) (p1.1,p1.2.1,())).bind fun u1=>
 cond (!u1.1.1)
  (some (((0,(),()),()),([],())))
 ((Fh (p1.1,p1.2.1,())).bind fun u2=>
 some (((u2.1.1.1,(),()),()),(u2.2.1,())))
abbrev Z2:Type:=(AGM×Unit)×ADw
def I9(p0:AA9)(p1:ACF)(p2:ACC):Option Z2:=
 (Fh (p1.1,p1.2.1,())).bind fun u1=>
 if u1.2.1.length+1≤Dr then(
 let x2:ACA:=u1.2.1++[(p2,[],false,())]
 (GP (p0.1,p0.2.1,()) (p1.1,p1.2.1,())).bind fun u3=>
 cond (!u3.1.1)
  ((EJ (p0.1,p0.2.1,()) (p1.1,p1.2.1,())).bind fun u4=>
  some ((((u4.1.1.1,(),()),0,false,()),()),(u4.2.1,())))
 ((GP (p0.1,p0.2.1,()) (u1.1.1.1,x2,())).bind fun u5=>
 cond (!u5.1.1)
  ((EJ (p0.1,p0.2.1,()) (p1.1,p1.2.1,())).bind fun u6=>
  some ((((u6.1.1.1,(),()),0,false,()),()),(u6.2.1,())))
 (some ((((u1.1.1.1,(),()),(x2.length:Int),true,()),()),(x2,())))))else none
abbrev cN:Type:=ABN×Unit
def Kk(p0:AEe)(p1:Int):Option cN:=
 some ((AZ (p0.1-p1),()),())
abbrev BL:Type:=AEH×Unit
abbrev Bo:Type:=AAk→Int→Int→Int→Int→Option BL
def Cd(R3:Bo)(t0:AAk)(t1 t8 t9 t10:Int):Option BL:=
 cond (decide (t9<t10))
  (let x2:Int:=AZ ((IntKind.wrap .u64 (AZ (t9+t10))).fdiv (2^1))
  if(0:Int)≤x2∧x2<(t0.length:Int)then(
  (Kk ((t0.getD (x2.toNat) (0,[],false,())).1,(t0.getD (x2.toNat) (0,[],false,())).2.1,(t0.getD (x2.toNat) (0,[],false,())).2.2.1,()) t1).bind fun u3=>
  cond (decide (u3.1.1<0))
   (R3 t0 t1 t8 (AZ (x2+1)) t10)
  (R3 t0 t1 t8 t9 x2))else none)
 (cond (decide (t9<t8))
  (if(0:Int)≤t9∧t9<(t0.length:Int)then(
  (Kk ((t0.getD (t9.toNat) (0,[],false,())).1,(t0.getD (t9.toNat) (0,[],false,())).2.1,(t0.getD (t9.toNat) (0,[],false,())).2.2.1,()) t1).bind fun u4=>
  some (((t9,u4.1.1==0,()),()),()))else none)
 (some (((t9,false,()),()),())))
def Aw:Nat→Bo
 |0=>fun _ _ _ _ _=>none
 |n+1=>Cd (Aw n)
def Ce(R3:Bo)(p0:AAk)(p1:Int):Option BL:=
 R3 p0 p1 (p0.length:Int) 0 (p0.length:Int)
def BQ(p0:AAk)(p1:Int):Option BL:=Ce (Aw Ae) p0 p1
abbrev VZ:Type:=AEH×Unit
def Hm(p0:ABF)(p1:Int):Option VZ:=
 (BQ p0.2.2.2.2.2.2.2.2.2.1 p1).bind fun u1=>
 some (((u1.1.1.1,u1.1.1.2.1,()),()),())
abbrev Ic:Type:=ACW×(Unit×AAk×Unit)
def EE(p1:Int)(p2 b0:AAk):Option Ic:=(vY p1 p2 b0).map fun l=>(((),()),((),l,()))
abbrev Zl:Type:=ABN×(ADJ×List Int×AAP×List Int×AAS×AAr×AAv×AAs×Unit×AAk×Unit)
def LV(p1:Int)(p2:ACC)(AG AW:Int)(AL:Bool)(b1:AAO)(b2:AAP)(b3:AAO)(b4:AAS)(b5:AAr)(b6:AAv)(b7:AAs)(b8:AAk):Option Zl:=
 (A5 p1 0 (AZ ((b5.length:Int)-1))).bind fun u2=>
 cond (!u2.1.1)
  (some ((2,()),(((),AG,(),(),(),AW,(),(),(),(),AL,()),b1,b2,b3,b4,b5,b6,b7,(),b8,())))
 (if(0:Int)≤p1∧p1<(b5.length:Int)then(
 (I9 (b1,AG,()) ((b5.getD (p1.toNat) (0,[],())).1,(b5.getD (p1.toNat) (0,[],())).2.1,()) p2).bind fun u3=>
 (Dl u3.1.1.1.1 u3.1.1.2.1).bind fun u4=>
 (Hm (b1,AG,b2,b3,b4,AW,b5,b6,b7,b8,AL,()) u4.1.1.1).bind fun u5=>
 cond (!u3.1.1.2.2.1)
  (some ((4,()),(((),AG,(),(),(),AW,(),(),(),(),AL,()),b1,b2,b3,b4,b5,b6,b7,(),b8,())))
 (cond (((b8.length:Int)==120))
  (some ((4,()),(((),AG,(),(),(),AW,(),(),(),(),AL,()),b1,b2,b3,b4,b5,b6,b7,(),b8,())))
 (cond (u5.1.1.2.1)
  (some ((4,()),(((),AG,(),(),(),AW,(),(),(),(),AL,()),b1,b2,b3,b4,b5,b6,b7,(),b8,())))
 (if(0:Int)≤p1∧p1<(b5.length:Int)then(
 (EE u5.1.1.1 [(u4.1.1.1,p2,false,())] b8).bind fun u8=>
 some ((0,()),(((),AG,(),(),(),AW,(),(),(),(),AL,()),b1,b2,b3,b4,(b5.set (p1.toNat) (u3.1.1.1.1,u3.2.1,())),b6,b7,(),u8.2.2.1,())))else none))))else none)
abbrev cM:Type:=ABN×Unit
def EN(p0:ABF)(p1:Int):Option cM:=
 (A5 p1 0 (AZ ((p0.2.2.1.length:Int)-1))).bind fun u2=>
 cond (!u2.1.1)
  (some ((2,()),()))
 ((C3 p0 p1).bind fun u3=>
 cond (u3.1.1)
  (some ((3,()),()))
 (some ((0,()),())))
abbrev bt:Type:=ACW×ACj
def Ik(p0:ABr)(p1:Int):Option bt:=
 (A5 p1 1 (p0.1.length:Int)).bind fun u1=>
 cond (!u1.1.1)
  (some (((),()),([],())))
 (if(0:Int)≤AZ (p1-1)∧AZ (p1-1)<(p0.1.length:Int)then(
 (DB ((p0.1.getD ((AZ (p1-1)).toNat) ([],false,0,())).1)).bind fun u2=>
 some (((),()),(u2.2.1,())))else none)
abbrev Hs:Type:=ABN×Unit
def De(p0:ABF)(p1 p2:Int):Option Hs:=
 (EN p0 p1).bind fun u1=>
 cond (u1.1.1==0)
  ((Ik (p0.2.2.2.2.1,p0.2.2.2.2.2.1,()) p2).bind fun u2=>
  (Bn u2.2.1 p1).bind fun u3=>
  cond (!u3.1.1)
   (some ((2,()),()))
  (some ((u1.1.1,()),())))
 (some ((u1.1.1,()),()))
abbrev jQ:Type:=AGC×ADF
def Dj(p0:ACN):Option jQ:=
 (FC (p0.1,p0.2.1,p0.2.2.1,())).bind fun u1=>
 cond (!u1.1.1)
  (some ((((),(),0,()),()),([],[],())))
 ((C7 (p0.1,p0.2.1,p0.2.2.1,())).bind fun u2=>
 some ((((),(),u2.1.1.2.2.1,()),()),(u2.2.1,u2.2.2.1,())))
abbrev mz:Type:=ADH×ADF
def T5(p0:ACN)(p1:AC9):Option mz:=
 (FC (p0.1,p0.2.1,p0.2.2.1,())).bind fun u1=>
 cond (!u1.1.1)
  ((Dj (p0.1,p0.2.1,p0.2.2.1,())).bind fun u2=>
  some (((((),(),u2.1.1.2.2.1,()),false,()),()),(u2.2.1,u2.2.2.1,())))
 ((Ly (p1.1,p1.2.1,p1.2.2.1,p1.2.2.2.1,())).bind fun u3=>
 cond (!u3.1.1)
  ((Dj (p0.1,p0.2.1,p0.2.2.1,())).bind fun u4=>
  some (((((),(),u4.1.1.2.2.1,()),false,()),()),(u4.2.1,u4.2.2.1,())))
 (cond ((p0.2.1.length:Int)==20)
  ((Dj (p0.1,p0.2.1,p0.2.2.1,())).bind fun u6=>
  some (((((),(),u6.1.1.2.2.1,()),false,()),()),(u6.2.1,u6.2.2.1,())))
 (cond (p1.2.1==0)
  ((E7 p1.1).bind fun u7=>
  cond ((decide (u7.1.1≤p0.2.2.1)))
   ((C7 (p0.1,p0.2.1,p0.2.2.1,())).bind fun u9=>
   some (((((),(),u9.1.1.2.2.1,()),false,()),()),(u9.2.1,u9.2.2.1,())))
  (cond (decide (p1.2.1>0))
   (cond ((decide (p1.2.1≤p0.2.2.1)))
    ((C7 (p0.1,p0.2.1,p0.2.2.1,())).bind fun N9=>
    some (((((),(),N9.1.1.2.2.1,()),false,()),()),(N9.2.1,N9.2.2.1,())))
   ((C7 (p0.1,p0.2.1,p0.2.2.1,())).bind fun aL=>
   if aL.2.2.1.length+1≤Dr then(
   some (((((),(),aL.1.1.2.2.1,()),true,()),()),(aL.2.1,(aL.2.2.1++[(p1.1,p1.2.1,p1.2.2.1,p1.2.2.2.1,())]),())))else none))
  ((C7 (p0.1,p0.2.1,p0.2.2.1,())).bind fun VH=>
  if VH.2.2.1.length+1≤Dr then(
  some (((((),(),VH.1.1.2.2.1,()),true,()),()),(VH.2.1,(VH.2.2.1++[(p1.1,p1.2.1,p1.2.2.1,p1.2.2.2.1,())]),())))else none)))
 (cond (decide (p1.2.1>0))
  (cond ((decide (p1.2.1≤p0.2.2.1)))
   ((C7 (p0.1,p0.2.1,p0.2.2.1,())).bind fun jg=>
   some (((((),(),jg.1.1.2.2.1,()),false,()),()),(jg.2.1,jg.2.2.1,())))
  ((C7 (p0.1,p0.2.1,p0.2.2.1,())).bind fun nf=>
  if nf.2.2.1.length+1≤Dr then(
  some (((((),(),nf.1.1.2.2.1,()),true,()),()),(nf.2.1,(nf.2.2.1++[(p1.1,p1.2.1,p1.2.2.1,p1.2.2.2.1,())]),())))else none))
 ((C7 (p0.1,p0.2.1,p0.2.2.1,())).bind fun SV=>
 if SV.2.2.1.length+1≤Dr then(
 some (((((),(),SV.1.1.2.2.1,()),true,()),()),(SV.2.1,(SV.2.2.1++[(p1.1,p1.2.1,p1.2.2.1,p1.2.2.2.1,())]),())))else none)))))
abbrev di:Type:=ABN×Unit
def Jw(p0:Bool):Option di:=
 cond (p0)
  (some ((0,()),()))
 (some ((4,()),()))
abbrev Z9:Type:=ABN×ADI
def LU(p1:Int)(p2:AC9)(AG AW:Int)(AL:Bool)(b1:AAO)(b2:AAP)(b3:AAO)(b4:AAS)(b5:AAr)(b6:AAv)(b7:AAs)(b8:AAk):Option Z9:=
 if(0:Int)≤p1∧p1<(b2.length:Int)then(
 (T5 ((b2.getD (p1.toNat) ([],[],0,())).1,(b2.getD (p1.toNat) ([],[],0,())).2.1,(b2.getD (p1.toNat) ([],[],0,())).2.2.1,()) (p2.1,p2.2.1,p2.2.2.1,p2.2.2.2.1,())).bind fun u1=>
 cond (u1.1.1.2.1)
  (if(0:Int)≤p1∧p1<(b2.length:Int)then(
  (Jw u1.1.1.2.1).bind fun u3=>
  some ((u3.1.1,()),(((),AG,(),(),(),AW,(),(),(),(),AL,()),b1,(b2.set (p1.toNat) (u1.2.1,u1.2.2.1,u1.1.1.1.2.2.1,())),b3,b4,b5,b6,b7,b8,())))else none)
 ((Jw u1.1.1.2.1).bind fun u4=>
 some ((u4.1.1,()),(((),AG,(),(),(),AW,(),(),(),(),AL,()),b1,b2,b3,b4,b5,b6,b7,b8,()))))else none
abbrev ga:Type:=ABN×ADI
def I0(p1:AC3)(AG AW:Int)(AL:Bool)(b1:AAO)(b2:AAP)(b3:AAO)(b4:AAS)(b5:AAr)(b6:AAv)(b7:AAs)(b8:AAk):Option ga:=
 (A5 p1.2.1 0 (AZ ((b5.length:Int)-1))).bind fun u2=>
 cond (!u2.1.1)
  (some ((2,()),(((),AG,(),(),(),AW,(),(),(),(),AL,()),b1,b2,b3,b4,b5,b6,b7,b8,())))
 (if(0:Int)≤p1.2.1∧p1.2.1<(b5.length:Int)then(
 (A5 p1.2.2.1 1 (((b5.getD (p1.2.1.toNat) (0,[],())).2.1).length:Int)).bind fun u4=>
 cond (!u4.1.1)
  (some ((2,()),(((),AG,(),(),(),AW,(),(),(),(),AL,()),b1,b2,b3,b4,b5,b6,b7,b8,())))
 ((De (b1,AG,b2,b3,b4,AW,b5,b6,b7,b8,AL,()) p1.2.2.2.1 ((b5.getD (p1.2.1.toNat) (0,[],())).1)).bind fun u6=>
 cond (u6.1.1 !=0)
  (some ((u6.1.1,()),(((),AG,(),(),(),AW,(),(),(),(),AL,()),b1,b2,b3,b4,b5,b6,b7,b8,())))
 ((Dl ((b5.getD (p1.2.1.toNat) (0,[],())).1) p1.2.2.1).bind fun u8=>
 if(0:Int)≤AZ (p1.2.2.1-1)∧AZ (p1.2.2.1-1)<(((b5.getD (p1.2.1.toNat) (0,[],())).2.1).length:Int)then(
 (LU p1.2.2.2.1 (u8.1.1.1,0,false,((((b5.getD (p1.2.1.toNat) (0,[],())).2.1).getD ((AZ (p1.2.2.1-1)).toNat) ([],[],false,())).1),()) AG AW AL b1 b2 b3 b4 b5 b6 b7 b8).bind fun ED=>
 some ((ED.1.1,()),(((),ED.2.1.2.1,(),(),(),ED.2.1.2.2.2.2.2.1,(),(),(),(),ED.2.1.2.2.2.2.2.2.2.2.2.2.1,()),ED.2.2.1,ED.2.2.2.1,ED.2.2.2.2.1,ED.2.2.2.2.2.1,ED.2.2.2.2.2.2.1,ED.2.2.2.2.2.2.2.1,ED.2.2.2.2.2.2.2.2.1,ED.2.2.2.2.2.2.2.2.2.1,())))else none)))else none)
abbrev Oi:Type:=ACW×AGE
def Ds(p1:Int)(p2 b0:AAw):Option Oi:=(vY p1 p2 b0).map fun l=>(((),()),((),l,()))
abbrev xR:Type:=ACW×AGE
def WK(p1:AC9)(b0:AAw):Option xR:=
 (SU b0 p1.1).bind fun u1=>
 cond (!u1.1.1.2.1)
  ((Ds u1.1.1.1 [(p1.1,p1.2.1,p1.2.2.1,p1.2.2.2.1,())] b0).bind fun u2=>
  some (((),()),((),u2.2.2.1,())))
 (if(0:Int)≤u1.1.1.1∧u1.1.1.1<(b0.length:Int)then(
 (Qq ((b0.getD (u1.1.1.1.toNat) (0,0,false,[],())).1,(b0.getD (u1.1.1.1.toNat) (0,0,false,[],())).2.1,(b0.getD (u1.1.1.1.toNat) (0,0,false,[],())).2.2.1,(b0.getD (u1.1.1.1.toNat) (0,0,false,[],())).2.2.2.1,()) (p1.1,p1.2.1,p1.2.2.1,p1.2.2.2.1,())).bind fun u3=>
 if(0:Int)≤u1.1.1.1∧u1.1.1.1<(b0.length:Int)then(
 some (((),()),((),(b0.set (u1.1.1.1.toNat) (u3.1.1.1,u3.1.1.2.1,u3.1.1.2.2.1,u3.1.1.2.2.2.1,())),())))else none)else none)
abbrev NG:Type:=ADH×ADF
abbrev QL:Type:=Int→AAw→Int→Int→AAw→AAw→Int→Int→AAw→AAw→Int→AAw→AAw→Option NG
def S2(R6:QL)(t1:Int)(t23:AAw)(t24 t25:Int)(AU AG:AAw)(Aq El:Int)(b2 b3:AAw)(aZ:Int)(b5 b6:AAw):Option NG:=
 cond (decide (t25<t24))
  (if(0:Int)≤t25∧t25<(t23.length:Int)then(
  if t25<0 then none else(
  cond (((cP .i64 (t1.fdiv (2^(min t25.toNat 64))) 1)==1))
   ((WK ((t23.getD (t25.toNat) (0,0,false,[],())).1,(t23.getD (t25.toNat) (0,0,false,[],())).2.1,(t23.getD (t25.toNat) (0,0,false,[],())).2.2.1,(t23.getD (t25.toNat) (0,0,false,[],())).2.2.2.1,()) b5).bind fun u9=>
   R6 t1 t23 t24 (AZ (t25+1)) AU AG Aq El b2 b3 aZ u9.2.2.1 b6)
  (R6 t1 t23 t24 (AZ (t25+1)) AU AG Aq El b2 b3 aZ b5 b6)))else none)
 (cond ((decide ((b5.length:Int)>200)))
  ((C7 (AU,AG,Aq,())).bind fun N9=>
  some (((((),(),N9.1.1.2.2.1,()),false,()),()),(N9.2.1,N9.2.2.1,())))
 (some (((((),(),aZ,()),true,()),()),(b5,b6,()))))
def I_:Nat→QL
 |0=>fun _ _ _ _ _ _ _ _ _ _ _ _ _=>none
 |n+1=>S2 (I_ n)
def Si(R6:QL)(p0:ACN)(p1:Int):Option NG:=
 (FC (p0.1,p0.2.1,p0.2.2.1,())).bind fun u1=>
 cond (!u1.1.1)
  ((Dj (p0.1,p0.2.1,p0.2.2.1,())).bind fun u2=>
  some (((((),(),u2.1.1.2.2.1,()),false,()),()),(u2.2.1,u2.2.2.1,())))
 ((A5 p1 0 1048575).bind fun u3=>
 cond (!u3.1.1)
  ((Dj (p0.1,p0.2.1,p0.2.2.1,())).bind fun u4=>
  some (((((),(),u4.1.1.2.2.1,()),false,()),()),(u4.2.1,u4.2.2.1,())))
 ((C7 (p0.1,p0.2.1,p0.2.2.1,())).bind fun u5=>
 R6 p1 p0.2.1 (p0.2.1.length:Int) 0 p0.1 p0.2.1 p0.2.2.1 0 [] [] u5.1.1.2.2.1 u5.2.1 []))
def Ma(p0:ACN)(p1:Int):Option NG:=Si (I_ Ae) p0 p1
abbrev lM:Type:=ADH×ADF
def Nj(p0:ACN):Option lM:=
 (Ma (p0.1,p0.2.1,p0.2.2.1,()) 1048575).bind fun u1=>
 some (((((),(),u1.1.1.1.2.2.1,()),u1.1.1.2.1,()),()),(u1.2.1,u1.2.2.1,()))
abbrev nL:Type:=ABG×Unit
def cmp_isNaN_int(p0:Int):Option nL:=
 some ((p0 !=p0,()),())
abbrev oO:Type:=ABG×Unit
def cmp_Less_int(p0 p1:Int):Option oO:=
 (cmp_isNaN_int p0).bind fun u1=>
 cond (u1.1.1)
  ((cmp_isNaN_int p1).bind fun u2=>
  cond (!u2.1.1)
   (some ((true,()),()))
  (some ((decide (p0<p1),()),())))
 (some ((decide (p0<p1),()),()))
abbrev fg:Type:=ABG×Unit
def Ou(p0:Int):Option fg:=
 some ((p0 !=p0,()),())
abbrev FR:Type:=AEH×Unit
abbrev G_:Type:=List Int→Int→Int→Int→Int→Option FR
def Jf(R3:G_)(t0:AAO)(t1 t6 t7 t8:Int):Option FR:=
 cond (decide (t7<t8))
  (let x2:Int:=AZ ((IntKind.wrap .u64 (AZ (t7+t8))).fdiv (2^1))
  if(0:Int)≤x2∧x2<(t0.length:Int)then(
  (cmp_Less_int (t0.getD (x2.toNat) 0) t1).bind fun u4=>
  cond (u4.1.1)
   (R3 t0 t1 t6 (AZ (x2+1)) t8)
  (R3 t0 t1 t6 t7 x2))else none)
 (cond (decide (t7<t6))
  (if(0:Int)≤t7∧t7<(t0.length:Int)then(
  cond ((t0.getD (t7.toNat) 0)==t1)
   (some (((t7,true,()),()),()))
  (if(0:Int)≤t7∧t7<(t0.length:Int)then(
  (Ou (t0.getD (t7.toNat) 0)).bind fun u7=>
  cond (u7.1.1)
   ((Ou t1).bind fun u8=>
   some (((t7,u8.1.1,()),()),()))
  (some (((t7,false,()),()),())))else none))else none)
 (some (((t7,false,()),()),())))
def Dm:Nat→G_
 |0=>fun _ _ _ _ _=>none
 |n+1=>Jf (Dm n)
def Je(R3:G_)(p0:AAO)(p1:Int):Option FR:=
 R3 p0 p1 (p0.length:Int) 0 (p0.length:Int)
def GI(p0:AAO)(p1:Int):Option FR:=Je (Dm Ae) p0 p1
abbrev Zm:Type:=ACW×AGA
def JW(p1:Int)(p2 b0:AAO):Option Zm:=(vY p1 p2 b0).map fun l=>(((),()),((),l,()))
abbrev mb:Type:=ACW×ACj
def KU(p0:AAO)(p1:Int):Option mb:=
 (DB p0).bind fun u1=>
 (GI u1.2.1 p1).bind fun u2=>
 cond (!u2.1.1.2.1)
  ((JW u2.1.1.1 [p1] u1.2.1).bind fun u3=>
  some (((),()),(u3.2.2.1,())))
 (some (((),()),(u1.2.1,())))
abbrev kj:Type:=AFn×ADw
def SO(p0:AA9)(p1:ACF)(p2 p3:Int):Option kj:=
 (GP (p0.1,p0.2.1,()) (p1.1,p1.2.1,())).bind fun u1=>
 cond (!u1.1.1)
  ((EJ (p0.1,p0.2.1,()) (p1.1,p1.2.1,())).bind fun u2=>
  some ((((u2.1.1.1,(),()),false,()),()),(u2.2.1,())))
 ((A5 p2 1 (p1.2.1.length:Int)).bind fun u4=>
 cond (!u4.1.1)
  ((EJ (p0.1,p0.2.1,()) (p1.1,p1.2.1,())).bind fun u5=>
  some ((((u5.1.1.1,(),()),false,()),()),(u5.2.1,())))
 (if(0:Int)≤AZ (p2-1)∧AZ (p2-1)<(p1.2.1.length:Int)then(
 cond (((p1.2.1.getD ((AZ (p2-1)).toNat) ([],[],false,())).2.2.1))
  ((EJ (p0.1,p0.2.1,()) (p1.1,p1.2.1,())).bind fun u7=>
  some ((((u7.1.1.1,(),()),false,()),()),(u7.2.1,())))
 ((A5 p3 0 (AZ ((p0.1.length:Int)-1))).bind fun u9=>
 cond (!u9.1.1)
  ((EJ (p0.1,p0.2.1,()) (p1.1,p1.2.1,())).bind fun ED=>
  some ((((ED.1.1.1,(),()),false,()),()),(ED.2.1,())))
 ((Fh (p1.1,p1.2.1,())).bind fun N9=>
 if(0:Int)≤AZ (p2-1)∧AZ (p2-1)<(N9.2.1.length:Int)then(
 (KU ((N9.2.1.getD ((AZ (p2-1)).toNat) ([],[],false,())).2.1) p3).bind fun aL=>
 let x13:ACA:=(N9.2.1.set ((AZ (p2-1)).toNat) ((N9.2.1.getD ((AZ (p2-1)).toNat) ([],[],false,())).1,aL.2.1,(N9.2.1.getD ((AZ (p2-1)).toNat) ([],[],false,())).2.2.1,()))
 (Gh (p0.1,p0.2.1,()) ((x13.getD ((AZ (p2-1)).toNat) ([],[],false,())).2.1)).bind fun VH=>
 some ((((N9.1.1.1,(),()),true,()),()),((x13.set ((AZ (p2-1)).toNat) ((x13.getD ((AZ (p2-1)).toNat) ([],[],false,())).1,(x13.getD ((AZ (p2-1)).toNat) ([],[],false,())).2.1,VH.1.1,())),())))else none)))else none))
abbrev Fz:Type:=ACW×ADI
abbrev KZ:Type:=Int→Int→Int→Int→Int→Bool→List Int→AAP→List Int→AAS→AAr→AAv→AAs→AAk→Option Fz
def IY(R1:KZ)(t1 t2 t6 AG AW:Int)(AL:Bool)(b1:AAO)(b2:AAP)(b3:AAO)(b4:AAS)(b5:AAr)(b6:AAv)(b7:AAs)(b8:AAk):Option Fz:=
 if(0:Int)≤t1∧t1<(b5.length:Int)then(
 cond (decide (t6≤(((b5.getD (t1.toNat) (0,[],())).2.1).length:Int)))
  (if(0:Int)≤t1∧t1<(b5.length:Int)then(
  (Dl ((b5.getD (t1.toNat) (0,[],())).1) t6).bind fun u3=>
  if(0:Int)≤t2∧t2<(b2.length:Int)then(
  (GQ ((b2.getD (t2.toNat) ([],[],0,())).1,(b2.getD (t2.toNat) ([],[],0,())).2.1,(b2.getD (t2.toNat) ([],[],0,())).2.2.1,()) u3.1.1.1).bind fun u4=>
  if(0:Int)≤t1∧t1<(b5.length:Int)then(
  if(0:Int)≤AZ (t6-1)∧AZ (t6-1)<(((b5.getD (t1.toNat) (0,[],())).2.1).length:Int)then(
  cond (((((b5.getD (t1.toNat) (0,[],())).2.1).getD ((AZ (t6-1)).toNat) ([],[],false,())).2.2.1))
   (R1 t1 t2 (AZ (t6+1)) AG AW AL b1 b2 b3 b4 b5 b6 b7 b8)
  (cond (!u4.1.1.2.1)
   (R1 t1 t2 (AZ (t6+1)) AG AW AL b1 b2 b3 b4 b5 b6 b7 b8)
  (cond (u4.1.1.1.2.1 !=0)
   (R1 t1 t2 (AZ (t6+1)) AG AW AL b1 b2 b3 b4 b5 b6 b7 b8)
  (if(0:Int)≤t1∧t1<(b5.length:Int)then(
  (SO (b1,AG,()) ((b5.getD (t1.toNat) (0,[],())).1,(b5.getD (t1.toNat) (0,[],())).2.1,()) t6 t2).bind fun u6=>
  if(0:Int)≤t1∧t1<(b5.length:Int)then(
  let x7:AAr:=(b5.set (t1.toNat) (u6.1.1.1.1,u6.2.1,()))
  (Hm (b1,AG,b2,b3,b4,AW,x7,b6,b7,b8,AL,()) u3.1.1.1).bind fun u8=>
  cond (u8.1.1.2.1)
   (if(0:Int)≤t1∧t1<(x7.length:Int)then(
   if(0:Int)≤AZ (t6-1)∧AZ (t6-1)<(((x7.getD (t1.toNat) (0,[],())).2.1).length:Int)then(
   cond (((((x7.getD (t1.toNat) (0,[],())).2.1).getD ((AZ (t6-1)).toNat) ([],[],false,())).2.2.1))
    (if(0:Int)≤u8.1.1.1∧u8.1.1.1<(b8.length:Int)then(
    R1 t1 t2 (AZ (t6+1)) AG AW AL b1 b2 b3 b4 x7 b6 b7 (b8.set (u8.1.1.1.toNat) ((b8.getD (u8.1.1.1.toNat) (0,[],false,())).1,(b8.getD (u8.1.1.1.toNat) (0,[],false,())).2.1,true,())))else none)
   (R1 t1 t2 (AZ (t6+1)) AG AW AL b1 b2 b3 b4 x7 b6 b7 b8))else none)else none)
  (R1 t1 t2 (AZ (t6+1)) AG AW AL b1 b2 b3 b4 x7 b6 b7 b8))else none)else none))))else none)else none)else none)else none)
 (some (((()),()),(((),AG,(),(),(),AW,(),(),(),(),AL,()),b1,b2,b3,b4,b5,b6,b7,b8,()))))else none
def Cx:Nat→KZ
 |0=>fun _ _ _ _ _ _ _ _ _ _ _ _ _ _=>none
 |n+1=>IY (Cx n)
def NK(R1:KZ)(p1 p2 AG AW:Int)(AL:Bool)(b1:AAO)(b2:AAP)(b3:AAO)(b4:AAS)(b5:AAr)(b6:AAv)(b7:AAs)(b8:AAk):Option Fz:=
 R1 p1 p2 1 AG AW AL b1 b2 b3 b4 b5 b6 b7 b8
def M3(p1 p2 AG AW:Int)(AL:Bool)(b1:AAO)(b2:AAP)(b3:AAO)(b4:AAS)(b5:AAr)(b6:AAv)(b7:AAs)(b8:AAk):Option Fz:=NK (Cx Ae) p1 p2 AG AW AL b1 b2 b3 b4 b5 b6 b7 b8
abbrev I1:Type:=AFY×Unit
abbrev RI:Type:=Int→AAw→Int→Int→Int→Int→List Int→AAw→Bool→List AAO→Int→Int→Bool→List UInt8→Option I1
def Uf(R5:RI)(t6:Int)(t33:AAw)(t34 t35 AU AG:Int)(Aq:AAO)(Ck:AAw)(DJ:Bool)(AW:List AAO)(Cj Bj:Int)(El:Bool)(Gq:ACC):Option I1:=
 cond (decide (t35<t34))
  (if(0:Int)≤t35∧t35<(t33.length:Int)then(
  cond (((t33.getD (t35.toNat) (0,0,false,[],())).1)==t6)
   (some ((((t6,AU,((t33.getD (t35.toNat) (0,0,false,[],())).2.2.1),((t33.getD (t35.toNat) (0,0,false,[],())).2.2.2.1),()),true,()),()),()))
  (R5 t6 t33 t34 (AZ (t35+1)) AU AG Aq Ck DJ AW Cj Bj El Gq))else none)
 (some ((((t6,AU,true,[],()),true,()),()),()))
def KA:Nat→RI
 |0=>fun _ _ _ _ _ _ _ _ _ _ _ _ _ _=>none
 |n+1=>Uf (KA n)
def Ub(R5:RI)(p0:ABH)(p1:Int):Option I1:=
 (Dl p0.2.1 p1).bind fun u1=>
 cond (!u1.1.1.2.1)
  (some ((((0,0,false,[],()),false,()),()),()))
 (cond (!p0.2.2.2.2.1)
  (some ((((0,0,false,[],()),false,()),()),()))
 (cond (decide (p1>(p0.2.2.2.2.2.1.length:Int)))
  (some ((((0,0,false,[],()),false,()),()),()))
 (R5 u1.1.1.1 p0.2.2.2.1 (p0.2.2.2.1.length:Int) 0 p0.1 p0.2.1 p0.2.2.1 p0.2.2.2.1 p0.2.2.2.2.1 p0.2.2.2.2.2.1 0 0 false [])))
def I6(p0:ABH)(p1:Int):Option I1:=Ub (KA Ae) p0 p1
abbrev kI:Type:=AFW×ADG
def Ep(p0:AA9)(p1:ABH):Option kI:=
 (Ha (p0.1,p0.2.1,()) (p1.1,p1.2.1,p1.2.2.1,p1.2.2.2.1,p1.2.2.2.2.1,p1.2.2.2.2.2.1,())).bind fun u1=>
 cond (!u1.1.1)
  (some (((0,0,(),(),false,(),()),()),([],[],[],())))
 ((GN (p1.1,p1.2.1,p1.2.2.1,p1.2.2.2.1,p1.2.2.2.2.1,p1.2.2.2.2.2.1,())).bind fun u2=>
 some (((u2.1.1.1,u2.1.1.2.1,(),(),u2.1.1.2.2.2.2.1,(),()),()),(u2.2.1,u2.2.2.1,u2.2.2.2.1,())))
abbrev W4:Type:=ADz×ADG
def Oh(p0:AA9)(p1:ABH)(p2 p3:Int):Option W4:=
 (Ha (p0.1,p0.2.1,()) (p1.1,p1.2.1,p1.2.2.1,p1.2.2.2.1,p1.2.2.2.2.1,p1.2.2.2.2.2.1,())).bind fun u1=>
 cond (!u1.1.1)
  ((Ep (p0.1,p0.2.1,()) (p1.1,p1.2.1,p1.2.2.1,p1.2.2.2.1,p1.2.2.2.2.1,p1.2.2.2.2.2.1,())).bind fun u2=>
  some ((((u2.1.1.1,u2.1.1.2.1,(),(),u2.1.1.2.2.2.2.1,(),()),false,()),()),(u2.2.1,u2.2.2.1,u2.2.2.2.1,())))
 ((A5 p2 1 (p1.2.2.2.2.2.1.length:Int)).bind fun u4=>
 cond (!u4.1.1)
  ((Ep (p0.1,p0.2.1,()) (p1.1,p1.2.1,p1.2.2.1,p1.2.2.2.1,p1.2.2.2.2.1,p1.2.2.2.2.2.1,())).bind fun u5=>
  some ((((u5.1.1.1,u5.1.1.2.1,(),(),u5.1.1.2.2.2.2.1,(),()),false,()),()),(u5.2.1,u5.2.2.1,u5.2.2.2.1,())))
 ((A5 p3 0 (AZ ((p0.1.length:Int)-1))).bind fun u7=>
 cond (!u7.1.1)
  ((Ep (p0.1,p0.2.1,()) (p1.1,p1.2.1,p1.2.2.1,p1.2.2.2.1,p1.2.2.2.2.1,p1.2.2.2.2.2.1,())).bind fun u8=>
  some ((((u8.1.1.1,u8.1.1.2.1,(),(),u8.1.1.2.2.2.2.1,(),()),false,()),()),(u8.2.1,u8.2.2.1,u8.2.2.2.1,())))
 ((GN (p1.1,p1.2.1,p1.2.2.1,p1.2.2.2.1,p1.2.2.2.2.1,p1.2.2.2.2.2.1,())).bind fun u9=>
 if(0:Int)≤AZ (p2-1)∧AZ (p2-1)<(u9.2.2.2.1.length:Int)then(
 (KU (u9.2.2.2.1.getD ((AZ (p2-1)).toNat) []) p3).bind fun ED=>
 if(0:Int)≤AZ (p2-1)∧AZ (p2-1)<(u9.2.2.2.1.length:Int)then(
 some ((((u9.1.1.1,u9.1.1.2.1,(),(),u9.1.1.2.2.2.2.1,(),()),true,()),()),(u9.2.1,u9.2.2.1,(u9.2.2.2.1.set ((AZ (p2-1)).toNat) ED.2.1),())))else none)else none)))
abbrev JZ:Type:=ACW×ADI
abbrev ME:Type:=Int→Int→Int→Int→Int→Bool→List Int→AAP→List Int→AAS→AAr→AAv→AAs→AAk→Option JZ
def Gz(R1:ME)(t1 t2 t6 AG AW:Int)(AL:Bool)(b1:AAO)(b2:AAP)(b3:AAO)(b4:AAS)(b5:AAr)(b6:AAv)(b7:AAs)(b8:AAk):Option JZ:=
 if(0:Int)≤t1∧t1<(b6.length:Int)then(
 cond (decide (t6≤(((b6.getD (t1.toNat) (0,0,[],[],false,[],())).2.2.2.2.2.1).length:Int)))
  (if(0:Int)≤t1∧t1<(b6.length:Int)then(
  (I6 ((b6.getD (t1.toNat) (0,0,[],[],false,[],())).1,(b6.getD (t1.toNat) (0,0,[],[],false,[],())).2.1,(b6.getD (t1.toNat) (0,0,[],[],false,[],())).2.2.1,(b6.getD (t1.toNat) (0,0,[],[],false,[],())).2.2.2.1,(b6.getD (t1.toNat) (0,0,[],[],false,[],())).2.2.2.2.1,(b6.getD (t1.toNat) (0,0,[],[],false,[],())).2.2.2.2.2.1,()) t6).bind fun u2=>
  if(0:Int)≤t2∧t2<(b2.length:Int)then(
  (GQ ((b2.getD (t2.toNat) ([],[],0,())).1,(b2.getD (t2.toNat) ([],[],0,())).2.1,(b2.getD (t2.toNat) ([],[],0,())).2.2.1,()) u2.1.1.1.1).bind fun u3=>
  cond (u2.1.1.2.1)
   (cond (u3.1.1.2.1)
    (cond (((u3.1.1.1.1==u2.1.1.1.1)&&((u3.1.1.1.2.1==u2.1.1.1.2.1)&&((u3.1.1.1.2.2.1==u2.1.1.1.2.2.1)&&((u3.1.1.1.2.2.2.1==u2.1.1.1.2.2.2.1)&&true)))))
     (if(0:Int)≤t1∧t1<(b6.length:Int)then(
     (Oh (b1,AG,()) ((b6.getD (t1.toNat) (0,0,[],[],false,[],())).1,(b6.getD (t1.toNat) (0,0,[],[],false,[],())).2.1,(b6.getD (t1.toNat) (0,0,[],[],false,[],())).2.2.1,(b6.getD (t1.toNat) (0,0,[],[],false,[],())).2.2.2.1,(b6.getD (t1.toNat) (0,0,[],[],false,[],())).2.2.2.2.1,(b6.getD (t1.toNat) (0,0,[],[],false,[],())).2.2.2.2.2.1,()) t6 t2).bind fun u5=>
     if(0:Int)≤t1∧t1<(b6.length:Int)then(
     R1 t1 t2 (AZ (t6+1)) AG AW AL b1 b2 b3 b4 b5 (b6.set (t1.toNat) (u5.1.1.1.1,u5.1.1.1.2.1,u5.2.1,u5.2.2.1,u5.1.1.1.2.2.2.2.1,u5.2.2.2.1,())) b7 b8)else none)else none)
    (R1 t1 t2 (AZ (t6+1)) AG AW AL b1 b2 b3 b4 b5 b6 b7 b8))
   (R1 t1 t2 (AZ (t6+1)) AG AW AL b1 b2 b3 b4 b5 b6 b7 b8))
  (R1 t1 t2 (AZ (t6+1)) AG AW AL b1 b2 b3 b4 b5 b6 b7 b8))else none)else none)
 (some (((()),()),(((),AG,(),(),(),AW,(),(),(),(),AL,()),b1,b2,b3,b4,b5,b6,b7,b8,()))))else none
def BV:Nat→ME
 |0=>fun _ _ _ _ _ _ _ _ _ _ _ _ _ _=>none
 |n+1=>Gz (BV n)
def Ji(R1:ME)(p1 p2 AG AW:Int)(AL:Bool)(b1:AAO)(b2:AAP)(b3:AAO)(b4:AAS)(b5:AAr)(b6:AAv)(b7:AAs)(b8:AAk):Option JZ:=
 R1 p1 p2 1 AG AW AL b1 b2 b3 b4 b5 b6 b7 b8
def Kh(p1 p2 AG AW:Int)(AL:Bool)(b1:AAO)(b2:AAP)(b3:AAO)(b4:AAS)(b5:AAr)(b6:AAv)(b7:AAs)(b8:AAk):Option JZ:=Ji (BV Ae) p1 p2 AG AW AL b1 b2 b3 b4 b5 b6 b7 b8
abbrev Hr:Type:=ABN×ADI
abbrev L1:Type:=Int→Int→Int→Int→Int→Bool→List Int→AAP→List Int→AAS→AAr→AAv→AAs→AAk→Int→Option Hr
abbrev Kp:Type:=Int→Int→Int→Int→Int→Bool→List Int→AAP→List Int→AAS→AAr→AAv→AAs→AAk→Option Hr
def M4(R9:L1)(p8:Kp)(t1 t42 t43 AG AW:Int)(AL:Bool)(b1:AAO)(b2:AAP)(b3:AAO)(b4:AAS)(b5:AAr)(b6:AAv)(b7:AAs)(b8:AAk)(dq:Int):Option Hr:=
 cond (decide (t43<t42))
  (if(0:Int)≤t43∧t43<(b5.length:Int)then(
  cond (decide (((b5.getD (t43.toNat) (0,[],())).1)>dq))
   ((Ik (b4,AW,()) ((b5.getD (t43.toNat) (0,[],())).1)).bind fun u6=>
   (Bn u6.2.1 t1).bind fun u7=>
   cond (u7.1.1)
    ((M3 t43 t1 AG AW AL b1 b2 b3 b4 b5 b6 b7 b8).bind fun u8=>
    R9 t1 t42 (AZ (t43+1)) u8.2.1.2.1 u8.2.1.2.2.2.2.2.1 u8.2.1.2.2.2.2.2.2.2.2.2.2.1 u8.2.2.1 u8.2.2.2.1 u8.2.2.2.2.1 u8.2.2.2.2.2.1 u8.2.2.2.2.2.2.1 u8.2.2.2.2.2.2.2.1 u8.2.2.2.2.2.2.2.2.1 u8.2.2.2.2.2.2.2.2.2.1 dq)
   (R9 t1 t42 (AZ (t43+1)) AG AW AL b1 b2 b3 b4 b5 b6 b7 b8 dq))
  (R9 t1 t42 (AZ (t43+1)) AG AW AL b1 b2 b3 b4 b5 b6 b7 b8 dq))else none)
 (p8 t1 (b6.length:Int) 0 AG AW AL b1 b2 b3 b4 b5 b6 b7 b8)
def L6(R9:L1)(p8:Kp)(t1 t73 t74 AG AW:Int)(AL:Bool)(b1:AAO)(b2:AAP)(b3:AAO)(b4:AAS)(b5:AAr)(b6:AAv)(b7:AAs)(b8:AAk):Option Hr:=
 cond (decide (t74<t73))
  (if(0:Int)≤t74∧t74<(b6.length:Int)then(
  (Ik (b4,AW,()) ((b6.getD (t74.toNat) (0,0,[],[],false,[],())).2.1)).bind fun N9=>
  (Bn N9.2.1 t1).bind fun aL=>
  cond (aL.1.1)
   ((Kh t74 t1 AG AW AL b1 b2 b3 b4 b5 b6 b7 b8).bind fun WL=>
   p8 t1 t73 (AZ (t74+1)) WL.2.1.2.1 WL.2.1.2.2.2.2.2.1 WL.2.1.2.2.2.2.2.2.2.2.2.2.1 WL.2.2.1 WL.2.2.2.1 WL.2.2.2.2.1 WL.2.2.2.2.2.1 WL.2.2.2.2.2.2.1 WL.2.2.2.2.2.2.2.1 WL.2.2.2.2.2.2.2.2.1 WL.2.2.2.2.2.2.2.2.2.1)
  (p8 t1 t73 (AZ (t74+1)) AG AW AL b1 b2 b3 b4 b5 b6 b7 b8))else none)
 (some ((0,()),(((),AG,(),(),(),AW,(),(),(),(),AL,()),b1,b2,b3,b4,b5,b6,b7,b8,())))
mutual
def Ei:Nat→L1
 |0=>fun _ _ _ _ _ _ _ _ _ _ _ _ _ _ _=>none
 |n+1=>M4 (Ei n) (FJ n)
def FJ:Nat→Kp
 |0=>fun _ _ _ _ _ _ _ _ _ _ _ _ _ _=>none
 |n+1=>L6 (Ei n) (FJ n)
end
def Sx(R9:L1)(p8:Kp)(p1 AG AW:Int)(AL:Bool)(b1:AAO)(b2:AAP)(b3:AAO)(b4:AAS)(b5:AAr)(b6:AAv)(b7:AAs)(b8:AAk):Option Hr:=
 (EN (b1,AG,b2,b3,b4,AW,b5,b6,b7,b8,AL,()) p1).bind fun u1=>
 cond (u1.1.1 !=0)
  (some ((u1.1.1,()),(((),AG,(),(),(),AW,(),(),(),(),AL,()),b1,b2,b3,b4,b5,b6,b7,b8,())))
 (if(0:Int)≤p1∧p1<(b2.length:Int)then(
 (Nj ((b2.getD (p1.toNat) ([],[],0,())).1,(b2.getD (p1.toNat) ([],[],0,())).2.1,(b2.getD (p1.toNat) ([],[],0,())).2.2.1,())).bind fun u2=>
 cond (!u2.1.1.2.1)
  (some ((4,()),(((),AG,(),(),(),AW,(),(),(),(),AL,()),b1,b2,b3,b4,b5,b6,b7,b8,())))
 (if(0:Int)≤p1∧p1<(b2.length:Int)then(
 R9 p1 (b5.length:Int) 0 AG AW AL b1 (b2.set (p1.toNat) (u2.2.1,u2.2.2.1,u2.1.1.1.2.2.1,())) b3 b4 b5 b6 b7 b8 u2.1.1.1.2.2.1)else none))else none)
def Pr(p1 AG AW:Int)(AL:Bool)(b1:AAO)(b2:AAP)(b3:AAO)(b4:AAS)(b5:AAr)(b6:AAv)(b7:AAs)(b8:AAk):Option Hr:=Sx (Ei Ae) (FJ Ae) p1 AG AW AL b1 b2 b3 b4 b5 b6 b7 b8
abbrev fi:Type:=ABN×ADI
def Oc(p1 p2 AG AW:Int)(AL:Bool)(b1:AAO)(b2:AAP)(b3:AAO)(b4:AAS)(b5:AAr)(b6:AAv)(b7:AAs)(b8:AAk):Option fi:=
 (EN (b1,AG,b2,b3,b4,AW,b5,b6,b7,b8,AL,()) p1).bind fun u1=>
 cond (u1.1.1 !=0)
  (some ((u1.1.1,()),(((),AG,(),(),(),AW,(),(),(),(),AL,()),b1,b2,b3,b4,b5,b6,b7,b8,())))
 (if(0:Int)≤p1∧p1<(b2.length:Int)then(
 (Ma ((b2.getD (p1.toNat) ([],[],0,())).1,(b2.getD (p1.toNat) ([],[],0,())).2.1,(b2.getD (p1.toNat) ([],[],0,())).2.2.1,()) p2).bind fun u2=>
 if(0:Int)≤p1∧p1<(b2.length:Int)then(
 (Jw u2.1.1.2.1).bind fun u4=>
 some ((u4.1.1,()),(((),AG,(),(),(),AW,(),(),(),(),AL,()),b1,(b2.set (p1.toNat) (u2.2.1,u2.2.2.1,u2.1.1.1.2.2.1,())),b3,b4,b5,b6,b7,b8,())))else none)else none)
abbrev dW:Type:=ABG×Unit
def MN(p0:Int)(p1:ABN):Option dW:=
 some ((p0==p1.1,()),())
abbrev Cb:Type:=ABN×Unit
abbrev DW:Type:=List Int→AC_→Int→Int→Option Cb
def E6(R2:DW)(t0:AAO)(t1:AC_)(t7 t8:Int):Option Cb:=
 cond (decide (t8<t7))
  (if(0:Int)≤t8∧t8<(t0.length:Int)then(
  (MN (t0.getD (t8.toNat) 0) t1.1).bind fun u2=>
  cond (u2.1.1)
   (some ((t8,()),()))
  (R2 t0 (t1.1,()) t7 (AZ (t8+1))))else none)
 (some (((-1),()),()))
def Bv:Nat→DW
 |0=>fun _ _ _ _=>none
 |n+1=>E6 (Bv n)
def E4(R2:DW)(p0:AAO)(p1:AC_):Option Cb:=
 R2 p0 (p1.1,()) (p0.length:Int) 0
def Dv(p0:AAO)(p1:AC_):Option Cb:=E4 (Bv Ae) p0 p1
abbrev CV:Type:=ACW×AGA
abbrev DK:Type:=AC_→Int→Int→List Int→Option CV
def Eh(R5:DK)(t1:AC_)(t5 t6:Int)(b0:AAO):Option CV:=
 cond ((decide (t6<(b0.length:Int))))
  (if(0:Int)≤t6∧t6<(b0.length:Int)then(
  let x3:Int:=(b0.getD (t6.toNat) 0)
  (MN x3 t1.1).bind fun u4=>
  cond (!u4.1.1)
   (if(0:Int)≤t5∧t5<(b0.length:Int)then(
   R5 (t1.1,()) (AZ (t5+1)) (AZ (t6+1)) (b0.set (t5.toNat) x3))else none)
  (R5 (t1.1,()) t5 (AZ (t6+1)) b0))else none)
 (if(0:Int)≤t5∧t5≤(b0.length:Int)∧(b0.length:Int)≤(b0.length:Int)then(
 let x6:AAO:=(b0.take (t5.toNat)++List.replicate (((b0.length:Int).toNat)-(t5.toNat)) 0++b0.drop ((t5.toNat)+(((b0.length:Int).toNat)-(t5.toNat))))
 if(0:Int)≤(0:Int)∧(0:Int)≤t5∧t5≤(x6.length:Int)then(
 some (((),()),((),((x6.drop 0).take ((t5.toNat)-0)),())))else none)else none)
def Bp:Nat→DK
 |0=>fun _ _ _ _=>none
 |n+1=>Eh (Bp n)
def Ed(R5:DK)(p1:AC_)(b0:AAO):Option CV:=
 (Dv b0 (p1.1,())).bind fun u1=>
 cond (u1.1.1==(-1))
  (some (((),()),((),b0,())))
 (R5 (p1.1,()) u1.1.1 (AZ (u1.1.1+1)) b0)
def Ci(p1:AC_)(b0:AAO):Option CV:=Ed (Bp Ae) p1 b0
abbrev Wa:Type:=ACW×ACj
def HK(p0:AAO)(p1:Int):Option Wa:=
 (DB p0).bind fun u1=>
 (Ci ((p1,()),()) u1.2.1).bind fun u2=>
 some (((),()),(u2.2.2.1,()))
abbrev Kl:Type:=AFn×ADw
abbrev Nx:Type:=Int→ACA→Int→Int→Int→ACA→Int→ACA→Option Kl
def QW(R5:Nx)(t2:Int)(t19:ACA)(t20 t21 AU:Int)(b1:ACA)(Zz:Int)(b3:ACA):Option Kl:=
 cond (decide (t21<t20))
  (if(0:Int)≤t21∧t21<(t19.length:Int)then(
  cond (!((t19.getD (t21.toNat) ([],[],false,())).2.2.1))
   ((HK ((t19.getD (t21.toNat) ([],[],false,())).2.1) t2).bind fun u5=>
   if(0:Int)≤t21∧t21<(b3.length:Int)then(
   R5 t2 t19 t20 (AZ (t21+1)) AU b1 Zz (b3.set (t21.toNat) ((b3.getD (t21.toNat) ([],[],false,())).1,u5.2.1,(b3.getD (t21.toNat) ([],[],false,())).2.2.1,())))else none)
  (R5 t2 t19 t20 (AZ (t21+1)) AU b1 Zz b3))else none)
 (some ((((Zz,(),()),true,()),()),(b3,())))
def Hf:Nat→Nx
 |0=>fun _ _ _ _ _ _ _ _=>none
 |n+1=>QW (Hf n)
def Qt(R5:Nx)(p0:AA9)(p1:ACF)(p2:Int):Option Kl:=
 (GP (p0.1,p0.2.1,()) (p1.1,p1.2.1,())).bind fun u1=>
 cond (!u1.1.1)
  (some ((((0,(),()),false,()),()),([],())))
 ((Fh (p1.1,p1.2.1,())).bind fun u2=>
 R5 p2 p1.2.1 (p1.2.1.length:Int) 0 0 [] u2.1.1.1 u2.2.1)
def NI(p0:AA9)(p1:ACF)(p2:Int):Option Kl:=Qt (Hf Ae) p0 p1 p2
abbrev ND:Type:=ADz×ADG
abbrev QQ:Type:=Int→List AAO→Int→Int→Int→Int→Bool→List Int→AAw→List AAO→Int→Int→Bool→List Int→AAw→List AAO→Option ND
def Ss(R5:QQ)(t2:Int)(t19:List AAO)(t20 t21 AU AG:Int)(DJ:Bool)(b1:AAO)(b2:AAw)(b3:List AAO)(wB vf:Int)(xA:Bool)(b5:AAO)(b6:AAw)(b7:List AAO):Option ND:=
 cond (decide (t21<t20))
  (if(0:Int)≤t21∧t21<(t19.length:Int)then(
  (HK (t19.getD (t21.toNat) []) t2).bind fun u4=>
  if(0:Int)≤t21∧t21<(b7.length:Int)then(
  R5 t2 t19 t20 (AZ (t21+1)) AU AG DJ b1 b2 b3 wB vf xA b5 b6 (b7.set (t21.toNat) u4.2.1))else none)else none)
 (some ((((wB,vf,(),(),xA,(),()),true,()),()),(b5,b6,b7,())))
def JA:Nat→QQ
 |0=>fun _ _ _ _ _ _ _ _ _ _ _ _ _ _ _ _=>none
 |n+1=>Ss (JA n)
def Sr(R5:QQ)(p0:AA9)(p1:ABH)(p2:Int):Option ND:=
 (Ha (p0.1,p0.2.1,()) (p1.1,p1.2.1,p1.2.2.1,p1.2.2.2.1,p1.2.2.2.2.1,p1.2.2.2.2.2.1,())).bind fun u1=>
 cond (!u1.1.1)
  (some ((((0,0,(),(),false,(),()),false,()),()),([],[],[],())))
 ((GN (p1.1,p1.2.1,p1.2.2.1,p1.2.2.2.1,p1.2.2.2.2.1,p1.2.2.2.2.2.1,())).bind fun u2=>
 R5 p2 p1.2.2.2.2.2.1 (p1.2.2.2.2.2.1.length:Int) 0 0 0 false [] [] [] u2.1.1.1 u2.1.1.2.1 u2.1.1.2.2.2.2.1 u2.2.1 u2.2.2.1 u2.2.2.2.1)
def Ps(p0:AA9)(p1:ABH)(p2:Int):Option ND:=Sr (JA Ae) p0 p1 p2
abbrev Ge:Type:=ABN×AGT
abbrev MM:Type:=Int→Int→Int→Int→Int→Bool→List Int→AAP→List Int→AAS→AAr→AAv→AAs→AAk→List Int→Option Ge
abbrev Km:Type:=Int→Int→Int→Int→Int→Bool→List Int→AAP→List Int→AAS→AAr→AAv→AAs→AAk→List Int→Option Ge
def Sy(R7:MM)(R12:Km)(t1 t36 t37 AG AW:Int)(AL:Bool)(b1:AAO)(b2:AAP)(b3:AAO)(b4:AAS)(b5:AAr)(b6:AAv)(b7:AAs)(b8:AAk)(b9:AAO):Option Ge:=
 cond (decide (t37<t36))
  (if(0:Int)≤t37∧t37<(b5.length:Int)then(
  (NI (b1,AG,()) ((b5.getD (t37.toNat) (0,[],())).1,(b5.getD (t37.toNat) (0,[],())).2.1,()) t1).bind fun u4=>
  if(0:Int)≤t37∧t37<(b5.length:Int)then(
  R7 t1 t36 (AZ (t37+1)) AG AW AL b1 b2 b3 b4 (b5.set (t37.toNat) (u4.1.1.1.1,u4.2.1,())) b6 b7 b8 b9)else none)else none)
 (R12 t1 (b6.length:Int) 0 AG AW AL b1 b2 b3 b4 b5 b6 b7 b8 b9)
def RF(R7:MM)(R12:Km)(t1 t63 t64 AG AW:Int)(AL:Bool)(b1:AAO)(b2:AAP)(b3:AAO)(b4:AAS)(b5:AAr)(b6:AAv)(b7:AAs)(b8:AAk)(b9:AAO):Option Ge:=
 cond (decide (t64<t63))
  (if(0:Int)≤t64∧t64<(b6.length:Int)then(
  (Ps (b1,AG,()) ((b6.getD (t64.toNat) (0,0,[],[],false,[],())).1,(b6.getD (t64.toNat) (0,0,[],[],false,[],())).2.1,(b6.getD (t64.toNat) (0,0,[],[],false,[],())).2.2.1,(b6.getD (t64.toNat) (0,0,[],[],false,[],())).2.2.2.1,(b6.getD (t64.toNat) (0,0,[],[],false,[],())).2.2.2.2.1,(b6.getD (t64.toNat) (0,0,[],[],false,[],())).2.2.2.2.2.1,()) t1).bind fun u6=>
  if(0:Int)≤t64∧t64<(b6.length:Int)then(
  R12 t1 t63 (AZ (t64+1)) AG AW AL b1 b2 b3 b4 b5 (b6.set (t64.toNat) (u6.1.1.1.1,u6.1.1.1.2.1,u6.2.1,u6.2.2.1,u6.1.1.1.2.2.2.2.1,u6.2.2.2.1,())) b7 b8 b9)else none)else none)
 (cond (AL)
  (some ((0,()),(((),AG,(),(),(),AW,(),(),(),(),true,()),b1,b2,(),b4,b5,b6,b7,b8,b9,())))
 ((Gh (b1,AG,()) b9).bind fun u8=>
 some ((0,()),(((),AG,(),(),(),AW,(),(),(),(),u8.1.1,()),b1,b2,(),b4,b5,b6,b7,b8,b9,()))))
mutual
def HE:Nat→MM
 |0=>fun _ _ _ _ _ _ _ _ _ _ _ _ _ _ _=>none
 |n+1=>Sy (HE n) (Gm n)
def Gm:Nat→Km
 |0=>fun _ _ _ _ _ _ _ _ _ _ _ _ _ _ _=>none
 |n+1=>RF (HE n) (Gm n)
end
def Sv(R7:MM)(R12:Km)(p1 AG AW:Int)(AL:Bool)(b1:AAO)(b2:AAP)(b3:AAO)(b4:AAS)(b5:AAr)(b6:AAv)(b7:AAs)(b8:AAk):Option Ge:=
 (EN (b1,AG,b2,b3,b4,AW,b5,b6,b7,b8,AL,()) p1).bind fun u1=>
 cond (u1.1.1 !=0)
  (some ((u1.1.1,()),(((),AG,(),(),(),AW,(),(),(),(),AL,()),b1,b2,(),b4,b5,b6,b7,b8,b3,())))
 (if(0:Int)≤p1∧p1<(b2.length:Int)then(
 (KU b3 p1).bind fun u3=>
 R7 p1 (b5.length:Int) 0 AG AW AL b1 (b2.set (p1.toNat) ([],[],0,())) b3 b4 b5 b6 b7 b8 u3.2.1)else none)
def P5(p1 AG AW:Int)(AL:Bool)(b1:AAO)(b2:AAP)(b3:AAO)(b4:AAS)(b5:AAr)(b6:AAv)(b7:AAs)(b8:AAk):Option Ge:=Sv (HE Ae) (Gm Ae) p1 AG AW AL b1 b2 b3 b4 b5 b6 b7 b8
abbrev rf:Type:=ABG×Unit
def Xx(p0:AA9)(p1:AAO):Option rf:=
 (D3 (p0.1,p0.2.1,()) p1).bind fun u1=>
 cond (u1.1.1)
  ((Gh (p0.1,p0.2.1,()) p1).bind fun u2=>
  some ((!u2.1.1,()),()))
 (some ((false,()),()))
abbrev O2:Type:=ACW×AFH
abbrev Ts:Type:=AAP→Int→Int→AAw→Option O2
abbrev Tt:Type:=AAP→Int→Int→AAw→Int→Int→AAw→Option O2
def Z5(R3:Ts)(R8:Tt)(t9:AAP)(t10 t11:Int)(b0:AAw):Option O2:=
 cond (decide (t11<t10))
  (if(0:Int)≤t11∧t11<(t9.length:Int)then(
  (FC ((t9.getD (t11.toNat) ([],[],0,())).1,(t9.getD (t11.toNat) ([],[],0,())).2.1,(t9.getD (t11.toNat) ([],[],0,())).2.2.1,())).bind fun u1=>
  cond (!u1.1.1)
   (some (((),()),([],())))
  (R8 t9 t10 t11 ((t9.getD (t11.toNat) ([],[],0,())).1) (((t9.getD (t11.toNat) ([],[],0,())).1).length:Int) 0 b0))else none)
 (some (((),()),(b0,())))
def Zx(R3:Ts)(R8:Tt)(t9:AAP)(t10 t11:Int)(t19:AAw)(t20 t21:Int)(b0:AAw):Option O2:=
 cond (decide (t21<t20))
  (if(0:Int)≤t21∧t21<(t19.length:Int)then(
  (WK ((t19.getD (t21.toNat) (0,0,false,[],())).1,(t19.getD (t21.toNat) (0,0,false,[],())).2.1,(t19.getD (t21.toNat) (0,0,false,[],())).2.2.1,(t19.getD (t21.toNat) (0,0,false,[],())).2.2.2.1,()) b0).bind fun u3=>
  R8 t9 t10 t11 t19 t20 (AZ (t21+1)) u3.2.2.1)else none)
 (R3 t9 t10 (AZ (t11+1)) b0)
mutual
def M0:Nat→Ts
 |0=>fun _ _ _ _=>none
 |n+1=>Z5 (M0 n) (Mm n)
def Mm:Nat→Tt
 |0=>fun _ _ _ _ _ _ _=>none
 |n+1=>Zx (M0 n) (Mm n)
end
def kt(R3:Ts)(R8:Tt)(p0:AAP):Option O2:=
 R3 p0 (p0.length:Int) 0 []
def gL(p0:AAP):Option O2:=kt (M0 Ae) (Mm Ae) p0
abbrev UO:Type:=ADH×AGO
abbrev bF:Type:=List Int→Int→Int→Int→AAP→Int→AAw→AAw→AAP→Option UO
def bc(R5:bF)(t2:AAO)(t4 t37 t38:Int)(b0:AAP)(El:Int)(b2 b3:AAw)(b4:AAP):Option UO:=
 cond (decide (t38<t37))
  (if(0:Int)≤t38∧t38<(b0.length:Int)then(
  (Bn t2 t38).bind fun u4=>
  cond (u4.1.1)
   (R5 t2 t4 t37 (AZ (t38+1)) b0 El b2 b3 b4)
  ((FC ((b0.getD (t38.toNat) ([],[],0,())).1,(b0.getD (t38.toNat) ([],[],0,())).2.1,(b0.getD (t38.toNat) ([],[],0,())).2.2.1,())).bind fun u5=>
  cond (!u5.1.1)
   (some (((((),(),0,()),false,()),()),(b0,[],[],())))
  (if b4.length+1≤Dr then(
  R5 t2 t4 t37 (AZ (t38+1)) b0 El b2 b3 (b4++[((b0.getD (t38.toNat) ([],[],0,())).1,(b0.getD (t38.toNat) ([],[],0,())).2.1,(b0.getD (t38.toNat) ([],[],0,())).2.2.1,())]))else none)))else none)
 ((gL b4).bind fun u7=>
 (FC (u7.2.1,[],t4,())).bind fun u8=>
 cond (!u8.1.1)
  (some (((((),(),0,()),false,()),()),(b0,[],[],())))
 (some (((((),(),t4,()),true,()),()),(b0,u7.2.1,[],()))))
def RR:Nat→bF
 |0=>fun _ _ _ _ _ _ _ _ _=>none
 |n+1=>bc (RR n)
def cH(R5:bF)(p0:AA9)(p2:AAO)(p3 p4:Int)(b0:AAP):Option UO:=
 cond (((b0.length:Int) !=(p0.1.length:Int)))
  (some (((((),(),0,()),false,()),()),(b0,[],[],())))
 ((Xx (p0.1,p0.2.1,()) p2).bind fun u2=>
 cond (!u2.1.1)
  (some (((((),(),0,()),false,()),()),(b0,[],[],())))
 ((Bn p2 p3).bind fun u3=>
 cond (!u3.1.1)
  (some (((((),(),0,()),false,()),()),(b0,[],[],())))
 (R5 p2 p4 (b0.length:Int) 0 b0 0 [] [] [])))
def Z3(p0:AA9)(p2:AAO)(p3 p4:Int)(b0:AAP):Option UO:=cH (RR Ae) p0 p2 p3 p4 b0
abbrev im:Type:=ABN×AGT
def J0(p1 AG AW:Int)(AL:Bool)(b1:AAO)(b2:AAP)(b3:AAO)(b4:AAS)(b5:AAr)(b6:AAv)(b7:AAs)(b8:AAk):Option im:=
 (A5 p1 0 (AZ ((b2.length:Int)-1))).bind fun u2=>
 cond (!u2.1.1)
  (some ((2,()),(((),AG,(),(),(),AW,(),(),(),(),AL,()),b1,b2,(),b4,b5,b6,b7,b8,b3,())))
 ((C3 (b1,AG,b2,b3,b4,AW,b5,b6,b7,b8,AL,()) p1).bind fun u3=>
 cond (!u3.1.1)
  (some ((2,()),(((),AG,(),(),(),AW,(),(),(),(),AL,()),b1,b2,(),b4,b5,b6,b7,b8,b3,())))
 (let x4:Int:=AZ ((b4.length:Int)-1)
 (Z3 (b1,AG,()) b3 p1 (if 0>x4 then 0 else x4) b2).bind fun u6=>
 cond (!u6.1.1.2.1)
  (some ((4,()),(((),AG,(),(),(),AW,(),(),(),(),AL,()),b1,u6.2.1,(),b4,b5,b6,b7,b8,b3,())))
 (if(0:Int)≤p1∧p1<(u6.2.1.length:Int)then(
 (HK b3 p1).bind fun u8=>
 some ((0,()),(((),AG,(),(),(),AW,(),(),(),(),AL,()),b1,(u6.2.1.set (p1.toNat) (u6.2.2.1,u6.2.2.2.1,u6.1.1.1.2.2.1,())),(),b4,b5,b6,b7,b8,u8.2.1,())))else none)))
abbrev pU:Type:=AFW×ADG
def jN(p0 p1:Int):Option pU:=
 some (((p1,p0,(),(),false,(),()),()),([],[],[],()))
abbrev YY:Type:=ABN×(ADJ×List Int×AAP×List Int×AAS×AAr×Unit×AAs×AAk×AAv×Unit)
def Py(AG AW:Int)(AL:Bool)(b1:AAO)(b2:AAP)(b3:AAO)(b4:AAS)(b5:AAr)(b6:AAv)(b7:AAs)(b8:AAk):Option YY:=
 (LY (b4,AW,())).bind fun u1=>
 cond ((decide ((b4.length:Int)<2)))
  (some ((2,()),(((),AG,(),(),(),AW,(),(),(),(),AL,()),b1,b2,b3,b4,b5,(),b7,b8,b6,())))
 (cond ((u1.1.1==(b4.length:Int)))
  (some ((2,()),(((),AG,(),(),(),AW,(),(),(),(),AL,()),b1,b2,b3,b4,b5,(),b7,b8,b6,())))
 (cond ((decide ((b6.length:Int)>0)))
  (some ((4,()),(((),AG,(),(),(),AW,(),(),(),(),AL,()),b1,b2,b3,b4,b5,(),b7,b8,b6,())))
 ((jN u1.1.1 (b4.length:Int)).bind fun u5=>
 some ((0,()),(((),AG,(),(),(),AW,(),(),(),(),AL,()),b1,b2,b3,b4,b5,(),b7,b8,[(u5.1.1.1,u5.1.1.2.1,u5.2.1,u5.2.2.1,u5.1.1.2.2.2.2.1,u5.2.2.2.1,())],())))))
abbrev TX:Type:=ADH×ADF
def N5(p0:ACN)(p1:Int):Option TX:=
 (Nj (p0.1,p0.2.1,p0.2.2.1,())).bind fun u1=>
 cond (!u1.1.1.2.1)
  ((Dj (p0.1,p0.2.1,p0.2.2.1,())).bind fun u2=>
  some (((((),(),u2.1.1.2.2.1,()),false,()),()),(u2.2.1,u2.2.2.1,())))
 ((A5 p1 0 30).bind fun u3=>
 cond (!u3.1.1)
  ((Dj (p0.1,p0.2.1,p0.2.2.1,())).bind fun u4=>
  some (((((),(),u4.1.1.2.2.1,()),false,()),()),(u4.2.1,u4.2.2.1,())))
 (some (((((),(),(if p1>u1.1.1.1.2.2.1 then p1 else u1.1.1.1.2.2.1),()),true,()),()),(u1.2.1,u1.2.2.1,()))))
abbrev Js:Type:=ACW×AFH
abbrev TK:Type:=Int→AAw→Int→Int→AAw→Option Js
def Vg(R5:TK)(t1:Int)(t14:AAw)(t15 t16:Int)(b0:AAw):Option Js:=
 cond (decide (t16<t15))
  (if(0:Int)≤t16∧t16<(t14.length:Int)then(
  (E7 ((t14.getD (t16.toNat) (0,0,false,[],())).1)).bind fun u3=>
  cond (u3.1.1==t1)
   (if b0.length+1≤Dr then(
   R5 t1 t14 t15 (AZ (t16+1)) (b0++[((t14.getD (t16.toNat) (0,0,false,[],())).1,(t14.getD (t16.toNat) (0,0,false,[],())).2.1,(t14.getD (t16.toNat) (0,0,false,[],())).2.2.1,(t14.getD (t16.toNat) (0,0,false,[],())).2.2.2.1,())]))else none)
  (R5 t1 t14 t15 (AZ (t16+1)) b0))else none)
 (some (((),()),(b0,())))
def Kv:Nat→TK
 |0=>fun _ _ _ _ _=>none
 |n+1=>Vg (Kv n)
def VU(R5:TK)(p0:ACN)(p1:Int):Option Js:=
 (FC (p0.1,p0.2.1,p0.2.2.1,())).bind fun u1=>
 cond (!u1.1.1)
  (some (((),()),([],())))
 (R5 p1 p0.1 (p0.1.length:Int) 0 [])
def PU(p0:ACN)(p1:Int):Option Js:=VU (Kv Ae) p0 p1
abbrev Jo:Type:=ADz×ADG
abbrev TV:Type:=AAw→Int→Int→List Int→Int→Int→Int→List Int→AAw→Bool→List AAO→Int→Int→Bool→List Int→AAw→List AAO→Int→Int→Bool→List Int→AAw→List AAO→Option Jo
def VQ(R6:TV)(t31:AAw)(t32 t33:Int)(AU:AAO)(AG Cj Bj:Int)(El:AAO)(Gq:AAw)(MF:Bool)(D9:List AAO)(Zz mh:Int)(tf:Bool)(b3:AAO)(b4:AAw)(b5:List AAO)(vP uT:Int)(vI:Bool)(b7:AAO)(b8:AAw)(b9:List AAO):Option Jo:=
 cond (decide (t33<t32))
  (if(0:Int)≤t33∧t33<(t31.length:Int)then(
  (E7 ((t31.getD (t33.toNat) (0,0,false,[],())).1)).bind fun u7=>
  cond (u7.1.1==Bj)
   ((WK ((t31.getD (t33.toNat) (0,0,false,[],())).1,(t31.getD (t33.toNat) (0,0,false,[],())).2.1,(t31.getD (t33.toNat) (0,0,false,[],())).2.2.1,(t31.getD (t33.toNat) (0,0,false,[],())).2.2.2.1,()) b8).bind fun u8=>
   R6 t31 t32 (AZ (t33+1)) AU AG Cj Bj El Gq MF D9 Zz mh tf b3 b4 b5 vP uT vI b7 u8.2.2.1 b9)
  (R6 t31 t32 (AZ (t33+1)) AU AG Cj Bj El Gq MF D9 Zz mh tf b3 b4 b5 vP uT vI b7 b8 b9))else none)
 ((Ha (AU,AG,()) (vP,uT,b7,b8,vI,b9,())).bind fun u9=>
 cond (!u9.1.1)
  ((GN (Cj,Bj,El,Gq,MF,D9,())).bind fun ED=>
  some ((((ED.1.1.1,ED.1.1.2.1,(),(),ED.1.1.2.2.2.2.1,(),()),false,()),()),(ED.2.1,ED.2.2.1,ED.2.2.2.1,())))
 (some ((((vP,uT,(),(),vI,(),()),true,()),()),(b7,b8,b9,()))))
def LD:Nat→TV
 |0=>fun _ _ _ _ _ _ _ _ _ _ _ _ _ _ _ _ _ _ _ _ _ _ _=>none
 |n+1=>VQ (LD n)
def Vj(R6:TV)(p0:AA9)(p1:ABH)(p2:Int)(p3:AAw):Option Jo:=
 (Ha (p0.1,p0.2.1,()) (p1.1,p1.2.1,p1.2.2.1,p1.2.2.2.1,p1.2.2.2.2.1,p1.2.2.2.2.2.1,())).bind fun u1=>
 cond (!u1.1.1)
  ((Ep (p0.1,p0.2.1,()) (p1.1,p1.2.1,p1.2.2.1,p1.2.2.2.1,p1.2.2.2.2.1,p1.2.2.2.2.2.1,())).bind fun u2=>
  some ((((u2.1.1.1,u2.1.1.2.1,(),(),u2.1.1.2.2.2.2.1,(),()),false,()),()),(u2.2.1,u2.2.2.1,u2.2.2.2.1,())))
 (cond (p1.2.2.2.2.1)
  ((Ep (p0.1,p0.2.1,()) (p1.1,p1.2.1,p1.2.2.1,p1.2.2.2.1,p1.2.2.2.2.1,p1.2.2.2.2.2.1,())).bind fun u3=>
  some ((((u3.1.1.1,u3.1.1.2.1,(),(),u3.1.1.2.2.2.2.1,(),()),false,()),()),(u3.2.1,u3.2.2.1,u3.2.2.2.1,())))
 ((GN (p1.1,p1.2.1,p1.2.2.1,p1.2.2.2.1,p1.2.2.2.2.1,p1.2.2.2.2.2.1,())).bind fun u4=>
 (KU u4.2.1 p2).bind fun u5=>
 R6 p3 (p3.length:Int) 0 p0.1 p0.2.1 p1.1 p1.2.1 p1.2.2.1 p1.2.2.2.1 p1.2.2.2.2.1 p1.2.2.2.2.2.1 0 0 false [] [] [] u4.1.1.1 u4.1.1.2.1 u4.1.1.2.2.2.2.1 u5.2.1 u4.2.2.1 u4.2.2.2.1))
def Pc(p0:AA9)(p1:ABH)(p2:Int)(p3:AAw):Option Jo:=Vj (LD Ae) p0 p1 p2 p3
abbrev ix:Type:=ABN×ADI
def Jv(p1 AG AW:Int)(AL:Bool)(b1:AAO)(b2:AAP)(b3:AAO)(b4:AAS)(b5:AAr)(b6:AAv)(b7:AAs)(b8:AAk):Option ix:=
 cond (((b6.length:Int)==0))
  (some ((2,()),(((),AG,(),(),(),AW,(),(),(),(),AL,()),b1,b2,b3,b4,b5,b6,b7,b8,())))
 (if(0:Int)≤(0:Int)∧(0:Int)<(b6.length:Int)then(
 (De (b1,AG,b2,b3,b4,AW,b5,b6,b7,b8,AL,()) p1 ((b6.getD 0 (0,0,[],[],false,[],())).2.1)).bind fun u3=>
 cond (u3.1.1 !=0)
  (some ((u3.1.1,()),(((),AG,(),(),(),AW,(),(),(),(),AL,()),b1,b2,b3,b4,b5,b6,b7,b8,())))
 (if(0:Int)≤p1∧p1<(b2.length:Int)then(
 (N5 ((b2.getD (p1.toNat) ([],[],0,())).1,(b2.getD (p1.toNat) ([],[],0,())).2.1,(b2.getD (p1.toNat) ([],[],0,())).2.2.1,()) (AZ (((b6.getD 0 (0,0,[],[],false,[],())).1)-1))).bind fun u5=>
 (PU (u5.2.1,u5.2.2.1,u5.1.1.1.2.2.1,()) ((b6.getD 0 (0,0,[],[],false,[],())).2.1)).bind fun u7=>
 (Pc (b1,AG,()) ((b6.getD 0 (0,0,[],[],false,[],())).1,(b6.getD 0 (0,0,[],[],false,[],())).2.1,(b6.getD 0 (0,0,[],[],false,[],())).2.2.1,(b6.getD 0 (0,0,[],[],false,[],())).2.2.2.1,(b6.getD 0 (0,0,[],[],false,[],())).2.2.2.2.1,(b6.getD 0 (0,0,[],[],false,[],())).2.2.2.2.2.1,()) p1 u7.2.1).bind fun u8=>
 cond (!u5.1.1.2.1)
  (some ((4,()),(((),AG,(),(),(),AW,(),(),(),(),AL,()),b1,b2,b3,b4,b5,b6,b7,b8,())))
 (cond (!u8.1.1.2.1)
  (some ((4,()),(((),AG,(),(),(),AW,(),(),(),(),AL,()),b1,b2,b3,b4,b5,b6,b7,b8,())))
 (if(0:Int)≤p1∧p1<(b2.length:Int)then(
 if(0:Int)≤(0:Int)∧(0:Int)<(b6.length:Int)then(
 some ((0,()),(((),AG,(),(),(),AW,(),(),(),(),AL,()),b1,(b2.set (p1.toNat) (u5.2.1,u5.2.2.1,u5.1.1.1.2.2.1,())),b3,b4,b5,(b6.set 0 (u8.1.1.1.1,u8.1.1.1.2.1,u8.2.1,u8.2.2.1,u8.1.1.1.2.2.2.2.1,u8.2.2.2.1,())),b7,b8,())))else none)else none)))else none))else none)
abbrev cE:Type:=ADz×ADG
def PV(p0:AA9)(p1:ABH)(p2:AAO):Option cE:=
 (Ha (p0.1,p0.2.1,()) (p1.1,p1.2.1,p1.2.2.1,p1.2.2.2.1,p1.2.2.2.2.1,p1.2.2.2.2.2.1,())).bind fun u1=>
 cond (!u1.1.1)
  ((Ep (p0.1,p0.2.1,()) (p1.1,p1.2.1,p1.2.2.1,p1.2.2.2.1,p1.2.2.2.2.1,p1.2.2.2.2.2.1,())).bind fun u2=>
  some ((((u2.1.1.1,u2.1.1.2.1,(),(),u2.1.1.2.2.2.2.1,(),()),false,()),()),(u2.2.1,u2.2.2.1,u2.2.2.2.1,())))
 (cond (p1.2.2.2.2.1)
  ((Ep (p0.1,p0.2.1,()) (p1.1,p1.2.1,p1.2.2.1,p1.2.2.2.1,p1.2.2.2.2.1,p1.2.2.2.2.2.1,())).bind fun u3=>
  some ((((u3.1.1.1,u3.1.1.2.1,(),(),u3.1.1.2.2.2.2.1,(),()),false,()),()),(u3.2.1,u3.2.2.1,u3.2.2.2.1,())))
 ((Mp p1.2.2.1 p2).bind fun u4=>
 (Gw (p0.1,p0.2.1,()) p2 u4.2.1).bind fun u5=>
 cond (!u5.1.1)
  ((Ep (p0.1,p0.2.1,()) (p1.1,p1.2.1,p1.2.2.1,p1.2.2.2.1,p1.2.2.2.2.1,p1.2.2.2.2.2.1,())).bind fun u6=>
  some ((((u6.1.1.1,u6.1.1.2.1,(),(),u6.1.1.2.2.2.2.1,(),()),false,()),()),(u6.2.1,u6.2.2.1,u6.2.2.2.1,())))
 ((GN (p1.1,p1.2.1,p1.2.2.1,p1.2.2.2.1,p1.2.2.2.2.1,p1.2.2.2.2.2.1,())).bind fun u7=>
 (SH (p1.1,p1.2.1,p1.2.2.1,p1.2.2.2.1,p1.2.2.2.2.1,p1.2.2.2.2.2.1,())).bind fun u8=>
 if(0:Int)≤u8.1.1∧u8.1.1≤u8.1.1∧u8.1.1≤(Dr:Int)then(
 some ((((u7.1.1.1,u7.1.1.2.1,(),(),true,(),()),true,()),()),(u7.2.1,u7.2.2.1,(List.replicate (u8.1.1.toNat) []),())))else none)))
abbrev iD:Type:=ABN×ADI
def Ju(AG AW:Int)(AL:Bool)(b1:AAO)(b2:AAP)(b3:AAO)(b4:AAS)(b5:AAr)(b6:AAv)(b7:AAs)(b8:AAk):Option iD:=
 cond (((b6.length:Int)==0))
  (some ((2,()),(((),AG,(),(),(),AW,(),(),(),(),AL,()),b1,b2,b3,b4,b5,b6,b7,b8,())))
 (if(0:Int)≤(0:Int)∧(0:Int)<(b6.length:Int)then(
 if(0:Int)≤(0:Int)∧(0:Int)<(b6.length:Int)then(
 (Ik (b4,AW,()) ((b6.getD 0 (0,0,[],[],false,[],())).2.1)).bind fun u3=>
 (PV (b1,AG,()) ((b6.getD 0 (0,0,[],[],false,[],())).1,(b6.getD 0 (0,0,[],[],false,[],())).2.1,(b6.getD 0 (0,0,[],[],false,[],())).2.2.1,(b6.getD 0 (0,0,[],[],false,[],())).2.2.2.1,(b6.getD 0 (0,0,[],[],false,[],())).2.2.2.2.1,(b6.getD 0 (0,0,[],[],false,[],())).2.2.2.2.2.1,()) u3.2.1).bind fun u4=>
 if(0:Int)≤(0:Int)∧(0:Int)<(b6.length:Int)then(
 (Jw u4.1.1.2.1).bind fun u6=>
 some ((u6.1.1,()),(((),AG,(),(),(),AW,(),(),(),(),AL,()),b1,b2,b3,b4,b5,(b6.set 0 (u4.1.1.1.1,u4.1.1.1.2.1,u4.2.1,u4.2.2.1,u4.1.1.1.2.2.2.2.1,u4.2.2.2.1,())),b7,b8,())))else none)else none)else none)
abbrev kZ:Type:=ABN×ADI
def SR(p1 p2 AG AW:Int)(AL:Bool)(b1:AAO)(b2:AAP)(b3:AAO)(b4:AAS)(b5:AAr)(b6:AAv)(b7:AAs)(b8:AAk):Option kZ:=
 cond (((b6.length:Int)==0))
  (some ((2,()),(((),AG,(),(),(),AW,(),(),(),(),AL,()),b1,b2,b3,b4,b5,b6,b7,b8,())))
 (if(0:Int)≤(0:Int)∧(0:Int)<(b6.length:Int)then(
 (I6 ((b6.getD 0 (0,0,[],[],false,[],())).1,(b6.getD 0 (0,0,[],[],false,[],())).2.1,(b6.getD 0 (0,0,[],[],false,[],())).2.2.1,(b6.getD 0 (0,0,[],[],false,[],())).2.2.2.1,(b6.getD 0 (0,0,[],[],false,[],())).2.2.2.2.1,(b6.getD 0 (0,0,[],[],false,[],())).2.2.2.2.2.1,()) p1).bind fun u2=>
 cond (!u2.1.1.2.1)
  (some ((2,()),(((),AG,(),(),(),AW,(),(),(),(),AL,()),b1,b2,b3,b4,b5,b6,b7,b8,())))
 (if(0:Int)≤(0:Int)∧(0:Int)<(b6.length:Int)then(
 (De (b1,AG,b2,b3,b4,AW,b5,b6,b7,b8,AL,()) p2 ((b6.getD 0 (0,0,[],[],false,[],())).2.1)).bind fun u4=>
 cond (u4.1.1 !=0)
  (some ((u4.1.1,()),(((),AG,(),(),(),AW,(),(),(),(),AL,()),b1,b2,b3,b4,b5,b6,b7,b8,())))
 ((LU p2 (u2.1.1.1.1,u2.1.1.1.2.1,u2.1.1.1.2.2.1,u2.1.1.1.2.2.2.1,()) AG AW AL b1 b2 b3 b4 b5 b6 b7 b8).bind fun u5=>
 some ((u5.1.1,()),(((),u5.2.1.2.1,(),(),(),u5.2.1.2.2.2.2.2.1,(),(),(),(),u5.2.1.2.2.2.2.2.2.2.2.2.2.1,()),u5.2.2.1,u5.2.2.2.1,u5.2.2.2.2.1,u5.2.2.2.2.2.1,u5.2.2.2.2.2.2.1,u5.2.2.2.2.2.2.2.1,u5.2.2.2.2.2.2.2.2.1,u5.2.2.2.2.2.2.2.2.2.1,()))))else none))else none)
abbrev K9:Type:=ABG×Unit
abbrev Rn:Type:=List AAO→Int→Int→List Int→Int→Option K9
def Uc(R4:Rn)(t17:List AAO)(t18 t19:Int)(AU:AAO)(AG:Int):Option K9:=
 cond (decide (t19<t18))
  (if(0:Int)≤t19∧t19<(t17.length:Int)then(
  (Gh (AU,AG,()) (t17.getD (t19.toNat) [])).bind fun u3=>
  cond (!u3.1.1)
   (some ((false,()),()))
  (R4 t17 t18 (AZ (t19+1)) AU AG))else none)
 (some ((true,()),()))
def KL:Nat→Rn
 |0=>fun _ _ _ _ _=>none
 |n+1=>Uc (KL n)
def Ue(R4:Rn)(p0:AA9)(p1:ABH):Option K9:=
 (Ha (p0.1,p0.2.1,()) (p1.1,p1.2.1,p1.2.2.1,p1.2.2.2.1,p1.2.2.2.2.1,p1.2.2.2.2.2.1,())).bind fun u1=>
 cond (!u1.1.1)
  (some ((false,()),()))
 (cond (!p1.2.2.2.2.1)
  (some ((false,()),()))
 (R4 p1.2.2.2.2.2.1 (p1.2.2.2.2.2.1.length:Int) 0 p0.1 p0.2.1))
def OL(p0:AA9)(p1:ABH):Option K9:=Ue (KL Ae) p0 p1
abbrev bu:Type:=AFt×ADs
def Pk(p0:AA9)(p1:ABr)(p2 p3:Int):Option bu:=
 (LY (p1.1,p1.2.1,())).bind fun u1=>
 (Ke (p0.1,p0.2.1,()) (p1.1,p1.2.1,())).bind fun u2=>
 cond (!u2.1.1)
  ((EF (p0.1,p0.2.1,()) (p1.1,p1.2.1,())).bind fun u3=>
  some (((((),u3.1.1.2.1,()),false,()),()),(u3.2.1,())))
 (cond ((p2 !=(p1.1.length:Int)))
  ((EF (p0.1,p0.2.1,()) (p1.1,p1.2.1,())).bind fun u5=>
  some (((((),u5.1.1.2.1,()),false,()),()),(u5.2.1,())))
 (cond (u1.1.1==p2)
  ((EF (p0.1,p0.2.1,()) (p1.1,p1.2.1,())).bind fun u6=>
  some (((((),u6.1.1.2.1,()),false,()),()),(u6.2.1,())))
 ((A5 p3 0 60).bind fun u7=>
 cond (!u7.1.1)
  ((EF (p0.1,p0.2.1,()) (p1.1,p1.2.1,())).bind fun u8=>
  some (((((),u8.1.1.2.1,()),false,()),()),(u8.2.1,())))
 ((EW (p1.1,p1.2.1,())).bind fun u9=>
 if(0:Int)≤AZ (u1.1.1-1)∧AZ (u1.1.1-1)<(u9.2.1.length:Int)then(
 let x10:AAS:=(u9.2.1.set ((AZ (u1.1.1-1)).toNat) ((u9.2.1.getD ((AZ (u1.1.1-1)).toNat) ([],false,0,())).1,true,(u9.2.1.getD ((AZ (u1.1.1-1)).toNat) ([],false,0,())).2.2.1,()))
 if(0:Int)≤AZ (u1.1.1-1)∧AZ (u1.1.1-1)<(x10.length:Int)then(
 some (((((),u9.1.1.2.1,()),true,()),()),((x10.set ((AZ (u1.1.1-1)).toNat) ((x10.getD ((AZ (u1.1.1-1)).toNat) ([],false,0,())).1,(x10.getD ((AZ (u1.1.1-1)).toNat) ([],false,0,())).2.1,p3,())),())))else none)else none))))
abbrev We:Type:=ABN×(ADJ×List Int×AAP×List Int×Unit×AAr×Unit×AAs×AAk×AAS×AAv×Unit)
def Iw(AG AW:Int)(AL:Bool)(b1:AAO)(b2:AAP)(b3:AAO)(b4:AAS)(b5:AAr)(b6:AAv)(b7:AAs)(b8:AAk):Option We:=
 cond (((b6.length:Int)==0))
  (some ((2,()),(((),AG,(),(),(),AW,(),(),(),(),AL,()),b1,b2,b3,(),b5,(),b7,b8,b4,b6,())))
 (if(0:Int)≤(0:Int)∧(0:Int)<(b6.length:Int)then(
 (OL (b1,AG,()) ((b6.getD 0 (0,0,[],[],false,[],())).1,(b6.getD 0 (0,0,[],[],false,[],())).2.1,(b6.getD 0 (0,0,[],[],false,[],())).2.2.1,(b6.getD 0 (0,0,[],[],false,[],())).2.2.2.1,(b6.getD 0 (0,0,[],[],false,[],())).2.2.2.2.1,(b6.getD 0 (0,0,[],[],false,[],())).2.2.2.2.2.1,())).bind fun u2=>
 cond (!u2.1.1)
  (some ((5,()),(((),AG,(),(),(),AW,(),(),(),(),AL,()),b1,b2,b3,(),b5,(),b7,b8,b4,b6,())))
 (if(0:Int)≤(0:Int)∧(0:Int)<(b6.length:Int)then(
 if(0:Int)≤(0:Int)∧(0:Int)<(b6.length:Int)then(
 (Pk (b1,AG,()) (b4,AW,()) ((b6.getD 0 (0,0,[],[],false,[],())).1) (((b6.getD 0 (0,0,[],[],false,[],())).2.2.2.2.2.1).length:Int)).bind fun u5=>
 cond (u5.1.1.2.1)
  ((Jw u5.1.1.2.1).bind fun u6=>
  some ((u6.1.1,()),(((),AG,(),(),(),u5.1.1.1.2.1,(),(),(),(),AL,()),b1,b2,b3,(),b5,(),b7,b8,u5.2.1,[],())))
 ((Jw u5.1.1.2.1).bind fun u7=>
 some ((u7.1.1,()),(((),AG,(),(),(),AW,(),(),(),(),AL,()),b1,b2,b3,(),b5,(),b7,b8,b4,b6,()))))else none)else none))else none)
abbrev oD:Type:=AFt×ADs
def Vx(p0:AA9)(p1:ABr)(p2:Int):Option oD:=
 (Ke (p0.1,p0.2.1,()) (p1.1,p1.2.1,())).bind fun u1=>
 cond (!u1.1.1)
  ((EF (p0.1,p0.2.1,()) (p1.1,p1.2.1,())).bind fun u2=>
  some (((((),u2.1.1.2.1,()),false,()),()),(u2.2.1,())))
 ((E7 p2).bind fun u3=>
 (A5 u3.1.1 1 (p1.1.length:Int)).bind fun u4=>
 cond (!u4.1.1)
  ((EF (p0.1,p0.2.1,()) (p1.1,p1.2.1,())).bind fun u5=>
  some (((((),u5.1.1.2.1,()),false,()),()),(u5.2.1,())))
 ((EW (p1.1,p1.2.1,())).bind fun u6=>
 some (((((),(if p2>u6.1.1.2.1 then p2 else u6.1.1.2.1),()),true,()),()),(u6.2.1,()))))
abbrev gC:Type:=ABG×Unit
def O3(p0:AC9)(p1:ABN):Option gC:=
 some ((decide (p0.1≤p1.1),()),())
abbrev Bm:Type:=ABN×Unit
abbrev CQ:Type:=AAw→AC_→Int→Int→Option Bm
def DU(R2:CQ)(t0:AAw)(t1:AC_)(t7 t8:Int):Option Bm:=
 cond (decide (t8<t7))
  (if(0:Int)≤t8∧t8<(t0.length:Int)then(
  (O3 ((t0.getD (t8.toNat) (0,0,false,[],())).1,(t0.getD (t8.toNat) (0,0,false,[],())).2.1,(t0.getD (t8.toNat) (0,0,false,[],())).2.2.1,(t0.getD (t8.toNat) (0,0,false,[],())).2.2.2.1,()) t1.1).bind fun u1=>
  cond (u1.1.1)
   (some ((t8,()),()))
  (R2 t0 (t1.1,()) t7 (AZ (t8+1))))else none)
 (some (((-1),()),()))
def BK:Nat→CQ
 |0=>fun _ _ _ _=>none
 |n+1=>DU (BK n)
def DV(R2:CQ)(p0:AAw)(p1:AC_):Option Bm:=
 R2 p0 (p1.1,()) (p0.length:Int) 0
def Cg(p0:AAw)(p1:AC_):Option Bm:=DV (BK Ae) p0 p1
abbrev Bk:Type:=ACW×AGE
abbrev CM:Type:=AC_→Int→Int→AAw→Option Bk
def DL(R5:CM)(t1:AC_)(t5 t6:Int)(b0:AAw):Option Bk:=
 cond ((decide (t6<(b0.length:Int))))
  (if(0:Int)≤t6∧t6<(b0.length:Int)then(
  (O3 ((b0.getD (t6.toNat) (0,0,false,[],())).1,(b0.getD (t6.toNat) (0,0,false,[],())).2.1,(b0.getD (t6.toNat) (0,0,false,[],())).2.2.1,(b0.getD (t6.toNat) (0,0,false,[],())).2.2.2.1,()) t1.1).bind fun u3=>
  cond (!u3.1.1)
   (if(0:Int)≤t5∧t5<(b0.length:Int)then(
   R5 (t1.1,()) (AZ (t5+1)) (AZ (t6+1)) (b0.set (t5.toNat) ((b0.getD (t6.toNat) (0,0,false,[],())).1,(b0.getD (t6.toNat) (0,0,false,[],())).2.1,(b0.getD (t6.toNat) (0,0,false,[],())).2.2.1,(b0.getD (t6.toNat) (0,0,false,[],())).2.2.2.1,())))else none)
  (R5 (t1.1,()) t5 (AZ (t6+1)) b0))else none)
 (if(0:Int)≤t5∧t5≤(b0.length:Int)∧(b0.length:Int)≤(b0.length:Int)then(
 let x5:AAw:=(b0.take (t5.toNat)++List.replicate (((b0.length:Int).toNat)-(t5.toNat)) (0,0,false,[],())++b0.drop ((t5.toNat)+(((b0.length:Int).toNat)-(t5.toNat))))
 if(0:Int)≤(0:Int)∧(0:Int)≤t5∧t5≤(x5.length:Int)then(
 some (((),()),((),((x5.drop 0).take ((t5.toNat)-0)),())))else none)else none)
def BH:Nat→CM
 |0=>fun _ _ _ _=>none
 |n+1=>DL (BH n)
def DO(R5:CM)(p1:AC_)(b0:AAw):Option Bk:=
 (Cg b0 (p1.1,())).bind fun u1=>
 cond (u1.1.1==(-1))
  (some (((),()),((),b0,())))
 (R5 (p1.1,()) u1.1.1 (AZ (u1.1.1+1)) b0)
def Bq(p1:AC_)(b0:AAw):Option Bk:=DO (BH Ae) p1 b0
abbrev jl:Type:=ADH×ADF
def SI(p0:ACN)(p1:Int):Option jl:=
 (FC (p0.1,p0.2.1,p0.2.2.1,())).bind fun u1=>
 cond (!u1.1.1)
  ((Dj (p0.1,p0.2.1,p0.2.2.1,())).bind fun u2=>
  some (((((),(),u2.1.1.2.2.1,()),false,()),()),(u2.2.1,u2.2.2.1,())))
 ((Dh p1).bind fun u3=>
 cond (!u3.1.1)
  ((Dj (p0.1,p0.2.1,p0.2.2.1,())).bind fun u4=>
  some (((((),(),u4.1.1.2.2.1,()),false,()),()),(u4.2.1,u4.2.2.1,())))
 ((C7 (p0.1,p0.2.1,p0.2.2.1,())).bind fun u5=>
 (Bq ((p1,()),()) u5.2.1).bind fun u6=>
 some (((((),(),u5.1.1.2.2.1,()),true,()),()),(u6.2.2.1,u5.2.2.1,()))))
abbrev fx:Type:=ABN×ADI
def Oj(p1 AG AW:Int)(AL:Bool)(b1:AAO)(b2:AAP)(b3:AAO)(b4:AAS)(b5:AAr)(b6:AAv)(b7:AAs)(b8:AAk):Option fx:=
 (EN (b1,AG,b2,b3,b4,AW,b5,b6,b7,b8,AL,()) p1).bind fun u1=>
 cond (u1.1.1 !=0)
  (some ((u1.1.1,()),(((),AG,(),(),(),AW,(),(),(),(),AL,()),b1,b2,b3,b4,b5,b6,b7,b8,())))
 (if(0:Int)≤p1∧p1<(b2.length:Int)then(
 (SI ((b2.getD (p1.toNat) ([],[],0,())).1,(b2.getD (p1.toNat) ([],[],0,())).2.1,(b2.getD (p1.toNat) ([],[],0,())).2.2.1,()) AW).bind fun u2=>
 if(0:Int)≤p1∧p1<(b2.length:Int)then(
 (Jw u2.1.1.2.1).bind fun u4=>
 some ((u4.1.1,()),(((),AG,(),(),(),AW,(),(),(),(),AL,()),b1,(b2.set (p1.toNat) (u2.2.1,u2.2.2.1,u2.1.1.1.2.2.1,())),b3,b4,b5,b6,b7,b8,())))else none)else none)
abbrev Na:Type:=ACW×(Unit×AAr×Unit)
def FB(p1 p2:Int)(b0:AAr):Option Na:=(AEh p1 p2 b0).map fun l=>(((),()),((),l,()))
abbrev bz:Type:=ABN×(ADJ×List Int×AAP×Unit×Unit×Unit×Unit×AAs×Unit×List Int×AAS×AAr×AAv×AAk×Unit)
def Tl(p1:AC3)(AG AW:Int)(AL:Bool)(b1:AAO)(b2:AAP)(b3:AAO)(b4:AAS)(b5:AAr)(b6:AAv)(b7:AAs)(b8:AAk):Option bz:=
 cond (p1.1==1)
  ((Jy p1.2.1 AG AW AL b1 b2 b3 b4 b5 b6 b7 b8).bind fun u1=>
  some ((u1.1.1,()),(((),u1.2.1.2.1,(),(),(),u1.2.1.2.2.2.2.2.1,(),(),(),(),u1.2.1.2.2.2.2.2.2.2.2.2.2.1,()),u1.2.2.1,u1.2.2.2.1,(),(),(),(),u1.2.2.2.2.2.2.2.2.1,(),u1.2.2.2.2.1,u1.2.2.2.2.2.2.2.2.2.2.1,u1.2.2.2.2.2.2.2.2.2.2.2.1,u1.2.2.2.2.2.2.2.2.2.2.2.2.1,u1.2.2.2.2.2.2.2.2.2.1,())))
 (cond (p1.1==2)
  ((LV p1.2.1 p1.2.2.2.2.1 AG AW AL b1 b2 b3 b4 b5 b6 b7 b8).bind fun u6=>
  some ((u6.1.1,()),(((),u6.2.1.2.1,(),(),(),u6.2.1.2.2.2.2.2.1,(),(),(),(),u6.2.1.2.2.2.2.2.2.2.2.2.2.1,()),u6.2.2.1,u6.2.2.2.1,(),(),(),(),u6.2.2.2.2.2.2.2.2.1,(),u6.2.2.2.2.1,u6.2.2.2.2.2.1,u6.2.2.2.2.2.2.1,u6.2.2.2.2.2.2.2.1,u6.2.2.2.2.2.2.2.2.2.2.1,())))
 (cond (p1.1==3)
  ((I0 (p1.1,p1.2.1,p1.2.2.1,p1.2.2.2.1,p1.2.2.2.2.1,()) AG AW AL b1 b2 b3 b4 b5 b6 b7 b8).bind fun u8=>
  some ((u8.1.1,()),(((),u8.2.1.2.1,(),(),(),u8.2.1.2.2.2.2.2.1,(),(),(),(),u8.2.1.2.2.2.2.2.2.2.2.2.2.1,()),u8.2.2.1,u8.2.2.2.1,(),(),(),(),u8.2.2.2.2.2.2.2.2.1,(),u8.2.2.2.2.1,u8.2.2.2.2.2.1,u8.2.2.2.2.2.2.1,u8.2.2.2.2.2.2.2.1,u8.2.2.2.2.2.2.2.2.2.1,())))
 (cond (p1.1==4)
  ((Pr p1.2.1 AG AW AL b1 b2 b3 b4 b5 b6 b7 b8).bind fun ED=>
  some ((ED.1.1,()),(((),ED.2.1.2.1,(),(),(),ED.2.1.2.2.2.2.2.1,(),(),(),(),ED.2.1.2.2.2.2.2.2.2.2.2.2.1,()),ED.2.2.1,ED.2.2.2.1,(),(),(),(),ED.2.2.2.2.2.2.2.2.1,(),ED.2.2.2.2.1,ED.2.2.2.2.2.1,ED.2.2.2.2.2.2.1,ED.2.2.2.2.2.2.2.1,ED.2.2.2.2.2.2.2.2.2.1,())))
 (cond (p1.1==5)
  ((Oc p1.2.1 p1.2.2.1 AG AW AL b1 b2 b3 b4 b5 b6 b7 b8).bind fun WL=>
  some ((WL.1.1,()),(((),WL.2.1.2.1,(),(),(),WL.2.1.2.2.2.2.2.1,(),(),(),(),WL.2.1.2.2.2.2.2.2.2.2.2.2.1,()),WL.2.2.1,WL.2.2.2.1,(),(),(),(),WL.2.2.2.2.2.2.2.2.1,(),WL.2.2.2.2.1,WL.2.2.2.2.2.1,WL.2.2.2.2.2.2.1,WL.2.2.2.2.2.2.2.1,WL.2.2.2.2.2.2.2.2.2.1,())))
 (cond (p1.1==6)
  ((P5 p1.2.1 AG AW AL b1 b2 b3 b4 b5 b6 b7 b8).bind fun u16=>
  some ((u16.1.1,()),(((),u16.2.1.2.1,(),(),(),u16.2.1.2.2.2.2.2.1,(),(),(),(),u16.2.1.2.2.2.2.2.2.2.2.2.2.1,()),u16.2.2.1,u16.2.2.2.1,(),(),(),(),u16.2.2.2.2.2.2.2.2.1,(),u16.2.2.2.2.2.2.2.2.2.2.1,u16.2.2.2.2.2.1,u16.2.2.2.2.2.2.1,u16.2.2.2.2.2.2.2.1,u16.2.2.2.2.2.2.2.2.2.1,())))
 (cond (p1.1==7)
  ((J0 p1.2.1 AG AW AL b1 b2 b3 b4 b5 b6 b7 b8).bind fun SV=>
  some ((SV.1.1,()),(((),SV.2.1.2.1,(),(),(),SV.2.1.2.2.2.2.2.1,(),(),(),(),SV.2.1.2.2.2.2.2.2.2.2.2.2.1,()),SV.2.2.1,SV.2.2.2.1,(),(),(),(),SV.2.2.2.2.2.2.2.2.1,(),SV.2.2.2.2.2.2.2.2.2.2.1,SV.2.2.2.2.2.1,SV.2.2.2.2.2.2.1,SV.2.2.2.2.2.2.2.1,SV.2.2.2.2.2.2.2.2.2.1,())))
 (cond (p1.1==8)
  ((Py AG AW AL b1 b2 b3 b4 b5 b6 b7 b8).bind fun Xj=>
  some ((Xj.1.1,()),(((),Xj.2.1.2.1,(),(),(),Xj.2.1.2.2.2.2.2.1,(),(),(),(),Xj.2.1.2.2.2.2.2.2.2.2.2.2.1,()),Xj.2.2.1,Xj.2.2.2.1,(),(),(),(),Xj.2.2.2.2.2.2.2.2.1,(),Xj.2.2.2.2.1,Xj.2.2.2.2.2.1,Xj.2.2.2.2.2.2.1,Xj.2.2.2.2.2.2.2.2.2.2.1,Xj.2.2.2.2.2.2.2.2.2.1,())))
 (cond (p1.1==9)
  ((Jv p1.2.1 AG AW AL b1 b2 b3 b4 b5 b6 b7 b8).bind fun Xh=>
  some ((Xh.1.1,()),(((),Xh.2.1.2.1,(),(),(),Xh.2.1.2.2.2.2.2.1,(),(),(),(),Xh.2.1.2.2.2.2.2.2.2.2.2.2.1,()),Xh.2.2.1,Xh.2.2.2.1,(),(),(),(),Xh.2.2.2.2.2.2.2.2.1,(),Xh.2.2.2.2.1,Xh.2.2.2.2.2.1,Xh.2.2.2.2.2.2.1,Xh.2.2.2.2.2.2.2.1,Xh.2.2.2.2.2.2.2.2.2.1,())))
 (cond (p1.1==10)
  ((Ju AG AW AL b1 b2 b3 b4 b5 b6 b7 b8).bind fun xe=>
  some ((xe.1.1,()),(((),xe.2.1.2.1,(),(),(),xe.2.1.2.2.2.2.2.1,(),(),(),(),xe.2.1.2.2.2.2.2.2.2.2.2.2.1,()),xe.2.2.1,xe.2.2.2.1,(),(),(),(),xe.2.2.2.2.2.2.2.2.1,(),xe.2.2.2.2.1,xe.2.2.2.2.2.1,xe.2.2.2.2.2.2.1,xe.2.2.2.2.2.2.2.1,xe.2.2.2.2.2.2.2.2.2.1,())))
 (cond (p1.1==11)
  ((SR p1.2.2.1 p1.2.2.2.1 AG AW AL b1 b2 b3 b4 b5 b6 b7 b8).bind fun uN=>
  some ((uN.1.1,()),(((),uN.2.1.2.1,(),(),(),uN.2.1.2.2.2.2.2.1,(),(),(),(),uN.2.1.2.2.2.2.2.2.2.2.2.2.1,()),uN.2.2.1,uN.2.2.2.1,(),(),(),(),uN.2.2.2.2.2.2.2.2.1,(),uN.2.2.2.2.1,uN.2.2.2.2.2.1,uN.2.2.2.2.2.2.1,uN.2.2.2.2.2.2.2.1,uN.2.2.2.2.2.2.2.2.2.1,())))
 (cond (p1.1==12)
  ((Iw AG AW AL b1 b2 b3 b4 b5 b6 b7 b8).bind fun mC=>
  some ((mC.1.1,()),(((),mC.2.1.2.1,(),(),(),mC.2.1.2.2.2.2.2.1,(),(),(),(),mC.2.1.2.2.2.2.2.2.2.2.2.2.1,()),mC.2.2.1,mC.2.2.2.1,(),(),(),(),mC.2.2.2.2.2.2.2.2.1,(),mC.2.2.2.2.1,mC.2.2.2.2.2.2.2.2.2.2.1,mC.2.2.2.2.2.2.1,mC.2.2.2.2.2.2.2.2.2.2.2.1,mC.2.2.2.2.2.2.2.2.2.1,())))
 (cond (p1.1==13)
  ((Vx (b1,AG,()) (b4,AW,()) p1.2.1).bind fun u42=>
  (Jw u42.1.1.2.1).bind fun u43=>
  some ((u43.1.1,()),(((),AG,(),(),(),u42.1.1.1.2.1,(),(),(),(),AL,()),b1,b2,(),(),(),(),b7,(),b3,u42.2.1,b5,b6,b8,())))
 (cond (p1.1==14)
  ((MW p1.2.1 p1.2.2.1 AG AW AL b1 b2 b3 b4 b5 b6 b7 b8).bind fun rE=>
  some ((rE.1.1,()),(((),rE.2.1.2.1,(),(),(),rE.2.1.2.2.2.2.2.1,(),(),(),(),rE.2.1.2.2.2.2.2.2.2.2.2.2.1,()),rE.2.2.1,rE.2.2.2.1,(),(),(),(),rE.2.2.2.2.2.2.2.2.1,(),rE.2.2.2.2.1,rE.2.2.2.2.2.1,rE.2.2.2.2.2.2.1,rE.2.2.2.2.2.2.2.1,rE.2.2.2.2.2.2.2.2.2.1,())))
 (cond (p1.1==16)
  ((Oj p1.2.1 AG AW AL b1 b2 b3 b4 b5 b6 b7 b8).bind fun rK=>
  some ((rK.1.1,()),(((),rK.2.1.2.1,(),(),(),rK.2.1.2.2.2.2.2.1,(),(),(),(),rK.2.1.2.2.2.2.2.2.2.2.2.2.1,()),rK.2.2.1,rK.2.2.2.1,(),(),(),(),rK.2.2.2.2.2.2.2.2.1,(),rK.2.2.2.2.1,rK.2.2.2.2.2.1,rK.2.2.2.2.2.2.1,rK.2.2.2.2.2.2.2.1,rK.2.2.2.2.2.2.2.2.2.1,())))
 ((A5 p1.2.1 0 (AZ ((b5.length:Int)-1))).bind fun u53=>
 cond (!u53.1.1)
  (some ((2,()),(((),AG,(),(),(),AW,(),(),(),(),AL,()),b1,b2,(),(),(),(),b7,(),b3,b4,b5,b6,b8,())))
 ((FB p1.2.1 (AZ (p1.2.1+1)) b5).bind fun u54=>
 some ((0,()),(((),AG,(),(),(),AW,(),(),(),(),AL,()),b1,b2,(),(),(),(),b7,(),b3,b4,u54.2.2.1,b6,b8,()))))))))))))))))))
abbrev oM:Type:=ADA×ADD
def PB(p0:ABF)(p1:AC3):Option oM:=
 (IP (p0.1,p0.2.1,p0.2.2.1,p0.2.2.2.1,p0.2.2.2.2.1,p0.2.2.2.2.2.1,p0.2.2.2.2.2.2.1,p0.2.2.2.2.2.2.2.1,p0.2.2.2.2.2.2.2.2.1,p0.2.2.2.2.2.2.2.2.2.1,p0.2.2.2.2.2.2.2.2.2.2.1,())).bind fun u1=>
 cond (!u1.1.1)
  (some (((((),0,(),(),(),0,(),(),(),(),false,()),1,()),()),([],[],[],[],[],[],[],[],())))
 ((Yh (p1.1,p1.2.1,p1.2.2.1,p1.2.2.2.1,p1.2.2.2.2.1,())).bind fun u2=>
 cond (!u2.1.1)
  (some (((((),0,(),(),(),0,(),(),(),(),false,()),1,()),()),([],[],[],[],[],[],[],[],())))
 ((LI (p0.1,p0.2.1,p0.2.2.1,p0.2.2.2.1,p0.2.2.2.2.1,p0.2.2.2.2.2.1,p0.2.2.2.2.2.2.1,p0.2.2.2.2.2.2.2.1,p0.2.2.2.2.2.2.2.2.1,p0.2.2.2.2.2.2.2.2.2.1,p0.2.2.2.2.2.2.2.2.2.2.1,())).bind fun u3=>
 (Tl (p1.1,p1.2.1,p1.2.2.1,p1.2.2.2.1,p1.2.2.2.2.1,()) u3.1.1.2.1 u3.1.1.2.2.2.2.2.1 u3.1.1.2.2.2.2.2.2.2.2.2.2.1 u3.2.1 u3.2.2.1 u3.2.2.2.1 u3.2.2.2.2.1 u3.2.2.2.2.2.1 u3.2.2.2.2.2.2.1 u3.2.2.2.2.2.2.2.1 u3.2.2.2.2.2.2.2.2.1).bind fun u4=>
 cond (u4.1.1 !=0)
  ((LI (p0.1,p0.2.1,p0.2.2.1,p0.2.2.2.1,p0.2.2.2.2.1,p0.2.2.2.2.2.1,p0.2.2.2.2.2.2.1,p0.2.2.2.2.2.2.2.1,p0.2.2.2.2.2.2.2.2.1,p0.2.2.2.2.2.2.2.2.2.1,p0.2.2.2.2.2.2.2.2.2.2.1,())).bind fun ED=>
  some (((((),ED.1.1.2.1,(),(),(),ED.1.1.2.2.2.2.2.1,(),(),(),(),ED.1.1.2.2.2.2.2.2.2.2.2.2.1,()),u4.1.1,()),()),(ED.2.1,ED.2.2.1,ED.2.2.2.1,ED.2.2.2.2.1,ED.2.2.2.2.2.1,ED.2.2.2.2.2.2.1,ED.2.2.2.2.2.2.2.1,ED.2.2.2.2.2.2.2.2.1,())))
 (some (((((),u4.2.1.2.1,(),(),(),u4.2.1.2.2.2.2.2.1,(),(),(),(),u4.2.1.2.2.2.2.2.2.2.2.2.2.1,()),0,()),()),(u4.2.2.1,u4.2.2.2.1,u4.2.2.2.2.2.2.2.2.2.2.1,u4.2.2.2.2.2.2.2.2.2.2.2.1,u4.2.2.2.2.2.2.2.2.2.2.2.2.1,u4.2.2.2.2.2.2.2.2.2.2.2.2.2.1,u4.2.2.2.2.2.2.2.2.1,u4.2.2.2.2.2.2.2.2.2.2.2.2.2.2.1,())))))
abbrev EL:Type:=((AGF×Unit×AGF×Unit)×Unit)×(ADE×ADB×Unit)
abbrev Hh:Type:=Int→Int→List Int→Int→Int→Int→Int→Bool→List Int→AAP→List Int→AAS→AAr→AAv→AAs→AAk→Int→Int→Bool→List Int→AAP→List Int→AAS→AAr→AAv→AAs→AAk→Int→List Int→List Int→Option EL
abbrev HZ:Type:=Int→List Int→List Int→Int→Int→Int→Int→Bool→List Int→AAP→List Int→AAS→AAr→AAv→AAs→AAk→Int→Int→Bool→List Int→AAP→List Int→AAS→AAr→AAv→AAs→AAk→List Int→Int→Option EL
abbrev G5:Type:=Int→Int→List Int→Int→Int→Int→Int→Bool→List Int→AAP→List Int→AAS→AAr→AAv→AAs→AAk→Int→Int→Bool→List Int→AAP→List Int→AAS→AAr→AAv→AAs→AAk→List Int→Int→AAP→List Int→AAS→Int→AAr→AAv→AAs→AAk→Bool→List Int→Int→AAP→List Int→AAS→Int→AAr→AAv→AAs→AAk→Bool→ADB→Option EL
def Qw(R4:Hh)(R7:HZ)(R14:G5)(t1 t9:Int)(AU:AAO)(AG Aq Bj D9:Int)(E5:Bool)(b2:AAO)(b3:AAP)(b4:AAO)(b5:AAS)(b6:AAr)(b7:AAv)(b8:AAs)(b9:AAk)(DM D7:Int)(Cf:Bool)(FV:AAO)(Di:AAP)(GF:AAO)(GG:AAS)(D8:AAr)(EZ:AAv)(FD:AAs)(Q0:AAk)(CP:Int)(b20 b21:AAO):Option EL:=
 cond ((decide (t9<(b20.length:Int))))
  (if b21.length+1≤Dr then(
  R4 t1 (AZ (t9+1)) AU AG Aq Bj D9 E5 b2 b3 b4 b5 b6 b7 b8 b9 DM D7 Cf FV Di GF GG D8 EZ FD Q0 CP b20 (b21++[t9]))else none)
 (R7 t1 b21 AU AG Aq Bj D9 E5 b2 b3 b4 b5 b6 b7 b8 b9 DM D7 Cf FV Di GF GG D8 EZ FD Q0 b20 CP)
def QY(R4:Hh)(R7:HZ)(R14:G5)(t1:Int)(t8 AU:AAO)(AG Aq Bj D9:Int)(E5:Bool)(b2:AAO)(b3:AAP)(b4:AAO)(b5:AAS)(b6:AAr)(b7:AAv)(b8:AAs)(b9:AAk)(DM D7:Int)(Cf:Bool)(FV:AAO)(Di:AAP)(GF:AAO)(GG:AAS)(D8:AAr)(EZ:AAv)(FD:AAs)(Q0:AAk)(DS:AAO)(CP:Int):Option EL:=
 cond (decide (CP>1))
  ((FL (DS,CP,()) t8).bind fun u3=>
  cond (!u3.1.1)
   (R7 t1 t8 AU AG Aq Bj D9 E5 b2 b3 b4 b5 b6 b7 b8 b9 DM D7 Cf FV Di GF GG D8 EZ FD Q0 DS (AZ (CP-1)))
  ((HP (DS,CP,())).bind fun u4=>
  (Ak (AZ (t1+1)) AU AG Aq).bind fun u5=>
  R14 u5.1.1 0 u5.2.1.1 u5.2.1.2.1 u5.2.1.2.2.1 Bj D9 E5 b2 b3 b4 b5 b6 b7 b8 b9 DM D7 Cf FV Di GF GG D8 EZ FD Q0 u4.2.1 u4.1.1.1.2.1 u4.2.2.1 u4.2.2.2.1 u4.2.2.2.2.1 u4.1.1.1.2.2.2.2.2.1 u4.2.2.2.2.2.1 u4.2.2.2.2.2.2.1 u4.2.2.2.2.2.2.2.1 u4.2.2.2.2.2.2.2.2.1 u4.1.1.1.2.2.2.2.2.2.2.2.2.2.1 u4.2.1 u4.1.1.1.2.1 u4.2.2.1 u4.2.2.2.1 u4.2.2.2.2.1 u4.1.1.1.2.2.2.2.2.1 u4.2.2.2.2.2.1 u4.2.2.2.2.2.2.1 u4.2.2.2.2.2.2.2.1 u4.2.2.2.2.2.2.2.2.1 u4.1.1.1.2.2.2.2.2.2.2.2.2.2.1 []))
 ((HP (DS,CP,())).bind fun u6=>
 (Ak (AZ (t1+1)) AU AG Aq).bind fun u7=>
 R14 u7.1.1 0 u7.2.1.1 u7.2.1.2.1 u7.2.1.2.2.1 Bj D9 E5 b2 b3 b4 b5 b6 b7 b8 b9 DM D7 Cf FV Di GF GG D8 EZ FD Q0 u6.2.1 u6.1.1.1.2.1 u6.2.2.1 u6.2.2.2.1 u6.2.2.2.2.1 u6.1.1.1.2.2.2.2.2.1 u6.2.2.2.2.2.1 u6.2.2.2.2.2.2.1 u6.2.2.2.2.2.2.2.1 u6.2.2.2.2.2.2.2.2.1 u6.1.1.1.2.2.2.2.2.2.2.2.2.2.1 u6.2.1 u6.1.1.1.2.1 u6.2.2.1 u6.2.2.2.1 u6.2.2.2.2.1 u6.1.1.1.2.2.2.2.2.1 u6.2.2.2.2.2.1 u6.2.2.2.2.2.2.1 u6.2.2.2.2.2.2.2.1 u6.2.2.2.2.2.2.2.2.1 u6.1.1.1.2.2.2.2.2.2.2.2.2.2.1 [])
def Pd(R4:Hh)(R7:HZ)(R14:G5)(t14 t15:Int)(AU:AAO)(AG Aq Bj D9:Int)(E5:Bool)(b2:AAO)(b3:AAP)(b4:AAO)(b5:AAS)(b6:AAr)(b7:AAv)(b8:AAs)(b9:AAk)(DM D7:Int)(Cf:Bool)(FV:AAO)(Di:AAP)(GF:AAO)(GG:AAS)(D8:AAr)(EZ:AAv)(FD:AAs)(Q0:AAk)(DS:AAO)(CP:Int)(UG:AAP)(Ui:AAO)(UT:AAS)(UF:Int)(AFO:AAr)(ADf:AAv)(AEz:AAs)(AFv:AAk)(zA:Bool)(AA1:AAO)(AAZ:Int)(AAn:AAP)(ABA:AAO)(AAi:AAS)(zx:Int)(AAg:AAr)(AAb:AAv)(AAG:AAs)(AAm:AAk)(tc:Bool)(b21:ADB):Option EL:=
 cond (decide (t15<t14))
  ((Of (AA1,AAZ,AAn,ABA,AAi,zx,AAg,AAb,AAG,AAm,tc,()) AU AG Aq).bind fun u8=>
  if b21.length+1≤Dr then(
  let x9:ADB:=b21++[(u8.1.1.1,u8.1.1.2.1,u8.1.1.2.2.1,u8.1.1.2.2.2.1,u8.1.1.2.2.2.2.1,())]
  (SE (AA1,AAZ,AAn,ABA,AAi,zx,AAg,AAb,AAG,AAm,tc,()) (u8.1.1.1,u8.1.1.2.1,u8.1.1.2.2.1,u8.1.1.2.2.2.1,u8.1.1.2.2.2.2.1,())).bind fun ED=>
  cond (ED.1.1.2.1==0)
   (R14 t14 (AZ (t15+1)) u8.2.1.1 u8.2.1.2.1 u8.2.1.2.2.1 Bj D9 E5 b2 b3 b4 b5 b6 b7 b8 b9 DM D7 Cf FV Di GF GG D8 EZ FD Q0 DS CP UG Ui UT UF AFO ADf AEz AFv zA ED.2.1 ED.1.1.1.2.1 ED.2.2.1 ED.2.2.2.1 ED.2.2.2.2.1 ED.1.1.1.2.2.2.2.2.1 ED.2.2.2.2.2.1 ED.2.2.2.2.2.2.1 ED.2.2.2.2.2.2.2.1 ED.2.2.2.2.2.2.2.2.1 ED.1.1.1.2.2.2.2.2.2.2.2.2.2.1 x9)
  (R14 t14 (AZ (t15+1)) u8.2.1.1 u8.2.1.2.1 u8.2.1.2.2.1 Bj D9 E5 b2 b3 b4 b5 b6 b7 b8 b9 DM D7 Cf FV Di GF GG D8 EZ FD Q0 DS CP UG Ui UT UF AFO ADf AEz AFv zA AA1 AAZ AAn ABA AAi zx AAg AAb AAG AAm tc x9))else none)
 (some ((((DS,CP,UG,Ui,UT,UF,AFO,ADf,AEz,AFv,zA,()),(),(AA1,AAZ,AAn,ABA,AAi,zx,AAg,AAb,AAG,AAm,tc,()),()),()),((AU,AG,Aq,()),b21,())))
mutual
def Et:Nat→Hh
 |0=>fun _ _ _ _ _ _ _ _ _ _ _ _ _ _ _ _ _ _ _ _ _ _ _ _ _ _ _ _ _ _=>none
 |n+1=>Qw (Et n) (Ef n) (Df n)
def Ef:Nat→HZ
 |0=>fun _ _ _ _ _ _ _ _ _ _ _ _ _ _ _ _ _ _ _ _ _ _ _ _ _ _ _ _ _=>none
 |n+1=>QY (Et n) (Ef n) (Df n)
def Df:Nat→G5
 |0=>fun _ _ _ _ _ _ _ _ _ _ _ _ _ _ _ _ _ _ _ _ _ _ _ _ _ _ _ _ _ _ _ _ _ _ _ _ _ _ _ _ _ _ _ _ _ _ _ _ _ _=>none
 |n+1=>Pd (Et n) (Ef n) (Df n)
end
def Q3(R4:Hh)(R7:HZ)(R14:G5)(p1:Int)(AU:AAO)(AG Aq:Int):Option EL:=
 (Oo AU AG Aq).bind fun u1=>
 R4 p1 0 u1.2.1.1 u1.2.1.2.1 u1.2.1.2.2.1 0 0 false [] [] [] [] [] [] [] [] 0 0 false [] [] [] [] [] [] [] [] u1.1.1.2.1 u1.2.2.1 []
def NY(p1:Int)(AU:AAO)(AG Aq:Int):Option EL:=Q3 (Et Ae) (Ef Ae) (Df Ae) p1 AU AG Aq
abbrev NF:Type:=((AGF×Unit×Unit)×Unit)×(ADB×Unit)
def Jz(p0:AAO):Option NF:=
 (bG p0).bind fun u1=>
 (Yt p0 100 190).bind fun u2=>
 (NY u2.1.1 u1.2.1.1 u1.2.1.2.1 u1.2.1.2.2.1).bind fun u3=>
 some ((((u3.1.1.1.1,u3.1.1.1.2.1,u3.1.1.1.2.2.1,u3.1.1.1.2.2.2.1,u3.1.1.1.2.2.2.2.1,u3.1.1.1.2.2.2.2.2.1,u3.1.1.1.2.2.2.2.2.2.1,u3.1.1.1.2.2.2.2.2.2.2.1,u3.1.1.1.2.2.2.2.2.2.2.2.1,u3.1.1.1.2.2.2.2.2.2.2.2.2.1,u3.1.1.1.2.2.2.2.2.2.2.2.2.2.1,()),(),()),()),(u3.2.2.1,()))
abbrev H9:Type:=(AHL×Unit)×AHN
abbrev TU:Type:=ADB→Int→Int→Int→Int→Bool→List Int→AAP→List Int→AAS→AAr→AAv→AAs→AAk→Int→Int→Bool→List Int→AAP→List Int→AAS→AAr→AAv→AAs→AAk→List Int→Option H9
def VF(R6:TU)(t25:ADB)(t26 t27 AG AW:Int)(AL:Bool)(b1:AAO)(b2:AAP)(b3:AAO)(b4:AAS)(b5:AAr)(b6:AAv)(b7:AAs)(b8:AAk)(Dx FT:Int)(Cq:Bool)(Jc:AAO)(FV:AAP)(Di:AAO)(GF:AAS)(GG:AAr)(D8:AAv)(EZ:AAs)(FD:AAk)(Q0:AAO):Option H9:=
 cond (decide (t27<t26))
  (if(0:Int)≤t27∧t27<(t25.length:Int)then(
  (PB (Jc,Dx,FV,Di,GF,FT,GG,D8,EZ,FD,Cq,()) ((t25.getD (t27.toNat) (0,0,0,0,[],())).1,(t25.getD (t27.toNat) (0,0,0,0,[],())).2.1,(t25.getD (t27.toNat) (0,0,0,0,[],())).2.2.1,(t25.getD (t27.toNat) (0,0,0,0,[],())).2.2.2.1,(t25.getD (t27.toNat) (0,0,0,0,[],())).2.2.2.2.1,())).bind fun u4=>
  cond (u4.1.1.2.1==0)
   (if Q0.length+1≤Dr then(
   R6 t25 t26 (AZ (t27+1)) AG AW AL b1 b2 b3 b4 b5 b6 b7 b8 u4.1.1.1.2.1 u4.1.1.1.2.2.2.2.2.1 u4.1.1.1.2.2.2.2.2.2.2.2.2.2.1 u4.2.1 u4.2.2.1 u4.2.2.2.1 u4.2.2.2.2.1 u4.2.2.2.2.2.1 u4.2.2.2.2.2.2.1 u4.2.2.2.2.2.2.2.1 u4.2.2.2.2.2.2.2.2.1 (Q0++[u4.1.1.2.1]))else none)
  (if Q0.length+1≤Dr then(
  R6 t25 t26 (AZ (t27+1)) AG AW AL b1 b2 b3 b4 b5 b6 b7 b8 Dx FT Cq Jc FV Di GF GG D8 EZ FD (Q0++[u4.1.1.2.1]))else none))else none)
 (some (((((),Dx,(),(),(),FT,(),(),(),(),Cq,()),(),()),()),(Jc,FV,Di,GF,GG,D8,EZ,FD,Q0,())))
def La:Nat→TU
 |0=>fun _ _ _ _ _ _ _ _ _ _ _ _ _ _ _ _ _ _ _ _ _ _ _ _ _ _=>none
 |n+1=>VF (La n)
def Vl(R6:TU)(p0:ABF)(p1:ADB):Option H9:=
 (LI (p0.1,p0.2.1,p0.2.2.1,p0.2.2.2.1,p0.2.2.2.2.1,p0.2.2.2.2.2.1,p0.2.2.2.2.2.2.1,p0.2.2.2.2.2.2.2.1,p0.2.2.2.2.2.2.2.2.1,p0.2.2.2.2.2.2.2.2.2.1,p0.2.2.2.2.2.2.2.2.2.2.1,())).bind fun u1=>
 cond ((decide ((p1.length:Int)>200)))
  (some (((((),u1.1.1.2.1,(),(),(),u1.1.1.2.2.2.2.2.1,(),(),(),(),u1.1.1.2.2.2.2.2.2.2.2.2.2.1,()),(),()),()),(u1.2.1,u1.2.2.1,u1.2.2.2.1,u1.2.2.2.2.1,u1.2.2.2.2.2.1,u1.2.2.2.2.2.2.1,u1.2.2.2.2.2.2.2.1,u1.2.2.2.2.2.2.2.2.1,[],())))
 ((IP (p0.1,p0.2.1,p0.2.2.1,p0.2.2.2.1,p0.2.2.2.2.1,p0.2.2.2.2.2.1,p0.2.2.2.2.2.2.1,p0.2.2.2.2.2.2.2.1,p0.2.2.2.2.2.2.2.2.1,p0.2.2.2.2.2.2.2.2.2.1,p0.2.2.2.2.2.2.2.2.2.2.1,())).bind fun u3=>
 cond (!u3.1.1)
  (some (((((),u1.1.1.2.1,(),(),(),u1.1.1.2.2.2.2.2.1,(),(),(),(),u1.1.1.2.2.2.2.2.2.2.2.2.2.1,()),(),()),()),(u1.2.1,u1.2.2.1,u1.2.2.2.1,u1.2.2.2.2.1,u1.2.2.2.2.2.1,u1.2.2.2.2.2.2.1,u1.2.2.2.2.2.2.2.1,u1.2.2.2.2.2.2.2.2.1,[],())))
 (R6 p1 (p1.length:Int) 0 0 0 false [] [] [] [] [] [] [] [] u1.1.1.2.1 u1.1.1.2.2.2.2.2.1 u1.1.1.2.2.2.2.2.2.2.2.2.2.1 u1.2.1 u1.2.2.1 u1.2.2.2.1 u1.2.2.2.2.1 u1.2.2.2.2.2.1 u1.2.2.2.2.2.2.1 u1.2.2.2.2.2.2.2.1 u1.2.2.2.2.2.2.2.2.1 []))
def Mv(p0:ABF)(p1:ADB):Option H9:=Vl (La Ae) p0 p1
abbrev H4:Type:=(AHL×Unit)×AHN
abbrev TC:Type:=ADB→Int→Int→Int→Bool→List Int→AAP→List Int→AAS→AAr→AAv→AAs→AAk→List Int→Int→Int→Bool→List Int→AAP→List Int→AAS→AAr→AAv→AAs→AAk→Option H4
def VP(R6:TC)(t1:ADB)(t8 AG AW:Int)(AL:Bool)(b1:AAO)(b2:AAP)(b3:AAO)(b4:AAS)(b5:AAr)(b6:AAv)(b7:AAs)(b8:AAk)(b9:AAO)(DM D7:Int)(Cf:Bool)(FV:AAO)(Di:AAP)(GF:AAO)(GG:AAS)(D8:AAr)(EZ:AAv)(FD:AAs)(Q0:AAk):Option H4:=
 cond ((decide (t8<(t1.length:Int))))
  (if(0:Int)≤t8∧t8<(t1.length:Int)then(
  (SE (FV,DM,Di,GF,GG,D7,D8,EZ,FD,Q0,Cf,()) ((t1.getD (t8.toNat) (0,0,0,0,[],())).1,(t1.getD (t8.toNat) (0,0,0,0,[],())).2.1,(t1.getD (t8.toNat) (0,0,0,0,[],())).2.2.1,(t1.getD (t8.toNat) (0,0,0,0,[],())).2.2.2.1,(t1.getD (t8.toNat) (0,0,0,0,[],())).2.2.2.2.1,())).bind fun u5=>
  if b9.length+1≤Dr then(
  cond (u5.1.1.2.1==0)
   (R6 t1 (AZ (t8+1)) AG AW AL b1 b2 b3 b4 b5 b6 b7 b8 (b9++[u5.1.1.2.1]) u5.1.1.1.2.1 u5.1.1.1.2.2.2.2.2.1 u5.1.1.1.2.2.2.2.2.2.2.2.2.2.1 u5.2.1 u5.2.2.1 u5.2.2.2.1 u5.2.2.2.2.1 u5.2.2.2.2.2.1 u5.2.2.2.2.2.2.1 u5.2.2.2.2.2.2.2.1 u5.2.2.2.2.2.2.2.2.1)
  (R6 t1 (AZ (t8+1)) AG AW AL b1 b2 b3 b4 b5 b6 b7 b8 (b9++[u5.1.1.2.1]) DM D7 Cf FV Di GF GG D8 EZ FD Q0))else none)else none)
 (some (((((),DM,(),(),(),D7,(),(),(),(),Cf,()),(),()),()),(FV,Di,GF,GG,D8,EZ,FD,Q0,b9,())))
def LK:Nat→TC
 |0=>fun _ _ _ _ _ _ _ _ _ _ _ _ _ _ _ _ _ _ _ _ _ _ _ _ _=>none
 |n+1=>VP (LK n)
def VV(R6:TC)(p0:ABF)(p1:ADB):Option H4:=
 (L8 (p0.1,p0.2.1,p0.2.2.1,p0.2.2.2.1,p0.2.2.2.2.1,p0.2.2.2.2.2.1,p0.2.2.2.2.2.2.1,p0.2.2.2.2.2.2.2.1,p0.2.2.2.2.2.2.2.2.1,p0.2.2.2.2.2.2.2.2.2.1,p0.2.2.2.2.2.2.2.2.2.2.1,())).bind fun u1=>
 (Q9 (p0.1,p0.2.1,p0.2.2.1,p0.2.2.2.1,p0.2.2.2.2.1,p0.2.2.2.2.2.1,p0.2.2.2.2.2.2.1,p0.2.2.2.2.2.2.2.1,p0.2.2.2.2.2.2.2.2.1,p0.2.2.2.2.2.2.2.2.2.1,p0.2.2.2.2.2.2.2.2.2.2.1,())).bind fun u2=>
 cond (!u2.1.1)
  (some (((((),u1.1.1.2.1,(),(),(),u1.1.1.2.2.2.2.2.1,(),(),(),(),u1.1.1.2.2.2.2.2.2.2.2.2.2.1,()),(),()),()),(u1.2.1,u1.2.2.1,u1.2.2.2.1,u1.2.2.2.2.1,u1.2.2.2.2.2.1,u1.2.2.2.2.2.2.1,u1.2.2.2.2.2.2.2.1,u1.2.2.2.2.2.2.2.2.1,[],())))
 (cond ((decide ((p1.length:Int)>200)))
  (some (((((),u1.1.1.2.1,(),(),(),u1.1.1.2.2.2.2.2.1,(),(),(),(),u1.1.1.2.2.2.2.2.2.2.2.2.2.1,()),(),()),()),(u1.2.1,u1.2.2.1,u1.2.2.2.1,u1.2.2.2.2.1,u1.2.2.2.2.2.1,u1.2.2.2.2.2.2.1,u1.2.2.2.2.2.2.2.1,u1.2.2.2.2.2.2.2.2.1,[],())))
 (R6 p1 0 0 0 false [] [] [] [] [] [] [] [] [] u1.1.1.2.1 u1.1.1.2.2.2.2.2.1 u1.1.1.2.2.2.2.2.2.2.2.2.2.1 u1.2.1 u1.2.2.1 u1.2.2.2.1 u1.2.2.2.2.1 u1.2.2.2.2.2.1 u1.2.2.2.2.2.2.1 u1.2.2.2.2.2.2.2.1 u1.2.2.2.2.2.2.2.2.1))
def Mr(p0:ABF)(p1:ADB):Option H4:=VV (LK Ae) p0 p1
abbrev Jt:Type:=ABG×Unit
abbrev TS:Type:=List Int→List Int→Int→Option Jt
def VS(R4:TS)(t0 t1:AAO)(t5:Int):Option Jt:=
 cond ((decide (t5<(t0.length:Int))))
  (if(0:Int)≤t5∧t5<(t0.length:Int)then(
  if(0:Int)≤t5∧t5<(t1.length:Int)then(
  cond ((t0.getD (t5.toNat) 0) !=(t1.getD (t5.toNat) 0))
   (some ((false,()),()))
  (R4 t0 t1 (AZ (t5+1))))else none)else none)
 (some ((true,()),()))
def LP:Nat→TS
 |0=>fun _ _ _=>none
 |n+1=>VS (LP n)
def Va(R4:TS)(p0 p1:AAO):Option Jt:=
 cond (((p0.length:Int) !=(p1.length:Int)))
  (some ((false,()),()))
 (R4 p0 p1 0)
def Ms(p0 p1:AAO):Option Jt:=Va (LP Ae) p0 p1
abbrev Ht:Type:=ABG×Unit
abbrev QE:Type:=AAk→Int→Int→List UInt8→Bool→Option Ht
def Sl(R2:QE)(t0:AAk)(t5 AU:Int)(AG:ACC)(Aq:Bool):Option Ht:=
 cond ((decide (t5<(t0.length:Int))))
  (if(0:Int)≤t5∧t5<(t0.length:Int)then(
  cond (((((t0.getD (t5.toNat) (0,[],false,())).1)==AU)&&((((t0.getD (t5.toNat) (0,[],false,())).2.1)==AG)&&((((t0.getD (t5.toNat) (0,[],false,())).2.2.1)==Aq)&&true))))
   (some ((true,()),()))
  (R2 t0 (AZ (t5+1)) AU AG Aq))else none)
 (some ((false,()),()))
def I3:Nat→QE
 |0=>fun _ _ _ _ _=>none
 |n+1=>Sl (I3 n)
def Sd(R2:QE)(p0:AAk)(p1:AEe):Option Ht:=
 R2 p0 0 p1.1 p1.2.1 p1.2.2.1
def Jq(p0:AAk)(p1:AEe):Option Ht:=Sd (I3 Ae) p0 p1
abbrev T0:Type:=ABG×Unit
abbrev U6:Type:=Int→Int→Int→Bool→List Int→AAP→List Int→AAS→AAr→AAv→AAs→AAk→AAk→AAk→Option T0
def P_(R10:U6)(t11 AG AW:Int)(AL:Bool)(b1:AAO)(b2:AAP)(b3:AAO)(b4:AAS)(b5:AAr)(b6:AAv)(b7:AAs)(b8 b9 Jc:AAk):Option T0:=
 cond ((decide (t11<(b9.length:Int))))
  (cond (!AL)
   (if(0:Int)≤t11∧t11<(b9.length:Int)then(
   cond (decide (((b9.getD (t11.toNat) (0,[],false,())).1)>AW))
    (if(0:Int)≤(1:Int)∧(1:Int)<(b7.length:Int)then(
    if(0:Int)≤(1:Int)∧(1:Int)<(b7.length:Int)then(
    if(0:Int)≤t11∧t11<(b9.length:Int)then(
    cond ((decide ((AZ ((AZ (4294967296*((b7.getD 1 (0,0,[],())).1)))+((b7.getD 1 (0,0,[],())).2.1)))>((b9.getD (t11.toNat) (0,[],false,())).1))))
     (if(0:Int)≤t11∧t11<(b9.length:Int)then(
     (Jq Jc ((b9.getD (t11.toNat) (0,[],false,())).1,(b9.getD (t11.toNat) (0,[],false,())).2.1,(b9.getD (t11.toNat) (0,[],false,())).2.2.1,())).bind fun nf=>
     cond (!nf.1.1)
      (some ((false,()),()))
     (R10 (AZ (t11+1)) AG AW AL b1 b2 b3 b4 b5 b6 b7 b8 b9 Jc))else none)
    (R10 (AZ (t11+1)) AG AW AL b1 b2 b3 b4 b5 b6 b7 b8 b9 Jc))else none)else none)else none)
   (R10 (AZ (t11+1)) AG AW AL b1 b2 b3 b4 b5 b6 b7 b8 b9 Jc))else none)
  (some ((true,()),())))
 (some ((true,()),()))
def D_:Nat→U6
 |0=>fun _ _ _ _ _ _ _ _ _ _ _ _ _ _=>none
 |n+1=>P_ (D_ n)
def SC(R10:U6)(p0:AAO):Option T0:=
 (de p0).bind fun u1=>
 cond (u1.1.1)
  (some ((true,()),()))
 ((Jz p0).bind fun u2=>
 (Mv (u2.1.1.1.1,u2.1.1.1.2.1,u2.1.1.1.2.2.1,u2.1.1.1.2.2.2.1,u2.1.1.1.2.2.2.2.1,u2.1.1.1.2.2.2.2.2.1,u2.1.1.1.2.2.2.2.2.2.1,u2.1.1.1.2.2.2.2.2.2.2.1,u2.1.1.1.2.2.2.2.2.2.2.2.1,u2.1.1.1.2.2.2.2.2.2.2.2.2.1,u2.1.1.1.2.2.2.2.2.2.2.2.2.2.1,()) u2.2.1).bind fun u3=>
 (Mr (u2.1.1.1.1,u2.1.1.1.2.1,u2.1.1.1.2.2.1,u2.1.1.1.2.2.2.1,u2.1.1.1.2.2.2.2.1,u2.1.1.1.2.2.2.2.2.1,u2.1.1.1.2.2.2.2.2.2.1,u2.1.1.1.2.2.2.2.2.2.2.1,u2.1.1.1.2.2.2.2.2.2.2.2.1,u2.1.1.1.2.2.2.2.2.2.2.2.2.1,u2.1.1.1.2.2.2.2.2.2.2.2.2.2.1,()) u2.2.1).bind fun u5=>
 (Ms u3.2.2.2.2.2.2.2.2.2.1 u5.2.2.2.2.2.2.2.2.2.1).bind fun u7=>
 cond (!u7.1.1)
  (some ((false,()),()))
 ((K4 (u3.2.1,u3.1.1.1.2.1,u3.2.2.1,u3.2.2.2.1,u3.2.2.2.2.1,u3.1.1.1.2.2.2.2.2.1,u3.2.2.2.2.2.1,u3.2.2.2.2.2.2.1,u3.2.2.2.2.2.2.2.1,u3.2.2.2.2.2.2.2.2.1,u3.1.1.1.2.2.2.2.2.2.2.2.2.2.1,())).bind fun u8=>
 cond (!u8.1.1)
  (some ((false,()),()))
 ((Nt (u3.2.1,u3.1.1.1.2.1,u3.2.2.1,u3.2.2.2.1,u3.2.2.2.2.1,u3.1.1.1.2.2.2.2.2.1,u3.2.2.2.2.2.1,u3.2.2.2.2.2.2.1,u3.2.2.2.2.2.2.2.1,u3.2.2.2.2.2.2.2.2.1,u3.1.1.1.2.2.2.2.2.2.2.2.2.2.1,()) 0).bind fun u9=>
 (Nt (u3.2.1,u3.1.1.1.2.1,u3.2.2.1,u3.2.2.2.1,u3.2.2.2.2.1,u3.1.1.1.2.2.2.2.2.1,u3.2.2.2.2.2.1,u3.2.2.2.2.2.2.1,u3.2.2.2.2.2.2.2.1,u3.2.2.2.2.2.2.2.2.1,u3.1.1.1.2.2.2.2.2.2.2.2.2.2.1,()) 1).bind fun ED=>
 R10 0 u3.1.1.1.2.1 u3.1.1.1.2.2.2.2.2.1 u3.1.1.1.2.2.2.2.2.2.2.2.2.2.1 u3.2.1 u3.2.2.1 u3.2.2.2.1 u3.2.2.2.2.1 u3.2.2.2.2.2.1 u3.2.2.2.2.2.2.1 u3.2.2.2.2.2.2.2.1 u3.2.2.2.2.2.2.2.2.1 u9.2.1 ED.2.1)))
def Qv(p0:AAO):Option T0:=SC (D_ Ae) p0
end
end Go.M
