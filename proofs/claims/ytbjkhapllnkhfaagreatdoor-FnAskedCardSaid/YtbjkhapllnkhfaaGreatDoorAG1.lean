/- What each function computes, printed by a program out of the translation; what is printed is checked in the equations. -/
import Derived.Test.YtbjkhapllnkhfaaGreatDoorAG0
set_option linter.unusedVariables false
set_option linter.unusedSimpArgs false
set_option linter.unusedSectionVars false
set_option synthInstance.maxSize 4000
set_option synthInstance.maxHeartbeats 400000
namespace Go.M
open Go.Fw
noncomputable section
abbrev xz:Type:=AGK×AE2
def oh(p0 p1:Int):Option xz:=
 some (((p1,p0,(),(),false,(),()),()),([],[],[],()))
abbrev eN:Type:=ACJ×(AFB×List Int×AAZ×List Int×AAP×AAw×Unit×AAp×AAr×AAx×Unit)
def Sp(AF Ai:Int)(AN:Bool)(b1:AAO)(b2:AAZ)(b3:AAO)(b4:AAP)(b5:AAw)(b6:AAx)(b7:AAp)(b8:AAr):Option eN:=
 (Mk (b4,Ai,())).bind fun u1=>
 cond ((decide ((b4.length:Int)<2)))
  (some ((2,()),(((),AF,(),(),(),Ai,(),(),(),(),AN,()),b1,b2,b3,b4,b5,(),b7,b8,b6,())))
 (cond ((u1.1.1==(b4.length:Int)))
  (some ((2,()),(((),AF,(),(),(),Ai,(),(),(),(),AN,()),b1,b2,b3,b4,b5,(),b7,b8,b6,())))
 (cond ((decide ((b6.length:Int)>0)))
  (some ((4,()),(((),AF,(),(),(),Ai,(),(),(),(),AN,()),b1,b2,b3,b4,b5,(),b7,b8,b6,())))
 ((oh u1.1.1 (b4.length:Int)).bind fun u5=>
 some ((0,()),(((),AF,(),(),(),Ai,(),(),(),(),AN,()),b1,b2,b3,b4,b5,(),b7,b8,[(u5.1.1.1,u5.1.1.2.1,u5.2.1,u5.2.2.1,u5.1.1.2.2.2.2.1,u5.2.2.2.1,())],())))))
abbrev XQ:Type:=AFG×AEC
def QP(p0:ACo)(p1:Int):Option XQ:=
 (Qf (p0.1,p0.2.1,p0.2.2.1,())).bind fun u1=>
 cond (!u1.1.1.2.1)
  ((D4 (p0.1,p0.2.1,p0.2.2.1,())).bind fun u2=>
  some (((((),(),u2.1.1.2.2.1,()),false,()),()),(u2.2.1,u2.2.2.1,())))
 ((BE p1 0 30).bind fun u3=>
 cond (!u3.1.1)
  ((D4 (p0.1,p0.2.1,p0.2.2.1,())).bind fun u4=>
  some (((((),(),u4.1.1.2.2.1,()),false,()),()),(u4.2.1,u4.2.2.1,())))
 (some (((((),(),(if p1>u1.1.1.1.2.2.1 then p1 else u1.1.1.1.2.2.1),()),true,()),()),(u1.2.1,u1.2.2.1,()))))
abbrev Oc:Type:=ADC×AGg
abbrev Wy:Type:=Int->AAj->Int->Int->AAj->Option Oc
def Zz(R5:Wy)(t1:Int)(t14:AAj)(t15 t16:Int)(b0:AAj):Option Oc:=
 cond (decide (t16<t15))
  (if(0:Int)<=t16/\t16<(t14.length:Int)then(
  (Es ((t14.getD (t16.toNat) (0,0,false,[],())).1)).bind fun u3=>
  cond (u3.1.1==t1)
   (if b0.length+1<=C7 then(
   R5 t1 t14 t15 (AQ (t16+1)) (b0++[((t14.getD (t16.toNat) (0,0,false,[],())).1,(t14.getD (t16.toNat) (0,0,false,[],())).2.1,(t14.getD (t16.toNat) (0,0,false,[],())).2.2.1,(t14.getD (t16.toNat) (0,0,false,[],())).2.2.2.1,())]))else none)
  (R5 t1 t14 t15 (AQ (t16+1)) b0))else none)
 (some (((),()),(b0,())))
def MM:Nat->Wy
 |0=>default
 |n+1=>Zz (MM n)
def aA(R5:Wy)(p0:ACo)(p1:Int):Option Oc:=
 (Fq (p0.1,p0.2.1,p0.2.2.1,())).bind fun u1=>
 cond (!u1.1.1)
  (some (((),()),([],())))
 (R5 p1 p0.1 (p0.1.length:Int) 0 [])
def SG:=aA (MM AU)
abbrev OO:Type:=AGM×AE2
abbrev XH:Type:=AAj->Int->Int->List Int->Int->Int->Int->List Int->AAj->Bool->List AAO->Int->Int->Bool->List Int->AAj->List AAO->Int->Int->Bool->List Int->AAj->List AAO->Option OO
def Zs(R6:XH)(t31:AAj)(t32 t33:Int)(AG:AAO)(AF BM A_:Int)(Bq:AAO)(Ed:AAj)(Ho:Bool)(F6:List AAO)(L9 Pv:Int)(kO:Bool)(b3:AAO)(b4:AAj)(b5:List AAO)(gM fO:Int)(gI:Bool)(b7:AAO)(b8:AAj)(b9:List AAO):Option OO:=
 cond (decide (t33<t32))
  (if(0:Int)<=t33/\t33<(t31.length:Int)then(
  (Es ((t31.getD (t33.toNat) (0,0,false,[],())).1)).bind fun u7=>
  cond (u7.1.1==A_)
   ((az ((t31.getD (t33.toNat) (0,0,false,[],())).1,(t31.getD (t33.toNat) (0,0,false,[],())).2.1,(t31.getD (t33.toNat) (0,0,false,[],())).2.2.1,(t31.getD (t33.toNat) (0,0,false,[],())).2.2.2.1,()) b8).bind fun u8=>
   R6 t31 t32 (AQ (t33+1)) AG AF BM A_ Bq Ed Ho F6 L9 Pv kO b3 b4 b5 gM fO gI b7 u8.2.2.1 b9)
  (R6 t31 t32 (AQ (t33+1)) AG AF BM A_ Bq Ed Ho F6 L9 Pv kO b3 b4 b5 gM fO gI b7 b8 b9))else none)
 ((Im (AG,AF,()) (gM,fO,b7,b8,gI,b9,())).bind fun u9=>
 cond (!u9.1.1)
  ((G_ (BM,A_,Bq,Ed,Ho,F6,())).bind fun EJ=>
  some ((((EJ.1.1.1,EJ.1.1.2.1,(),(),EJ.1.1.2.2.2.2.1,(),()),false,()),()),(EJ.2.1,EJ.2.2.1,EJ.2.2.2.1,())))
 (some ((((gM,fO,(),(),gI,(),()),true,()),()),(b7,b8,b9,()))))
def MZ:Nat->XH
 |0=>default
 |n+1=>Zs (MZ n)
def Zv(R6:XH)(p0:ABt)(p1:ABv)(p2:Int)(p3:AAj):Option OO:=
 (Im (p0.1,p0.2.1,()) (p1.1,p1.2.1,p1.2.2.1,p1.2.2.2.1,p1.2.2.2.2.1,p1.2.2.2.2.2.1,())).bind fun u1=>
 cond (!u1.1.1)
  ((FJ (p0.1,p0.2.1,()) (p1.1,p1.2.1,p1.2.2.1,p1.2.2.2.1,p1.2.2.2.2.1,p1.2.2.2.2.2.1,())).bind fun u2=>
  some ((((u2.1.1.1,u2.1.1.2.1,(),(),u2.1.1.2.2.2.2.1,(),()),false,()),()),(u2.2.1,u2.2.2.1,u2.2.2.2.1,())))
 (cond (p1.2.2.2.2.1)
  ((FJ (p0.1,p0.2.1,()) (p1.1,p1.2.1,p1.2.2.1,p1.2.2.2.1,p1.2.2.2.2.1,p1.2.2.2.2.2.1,())).bind fun u3=>
  some ((((u3.1.1.1,u3.1.1.2.1,(),(),u3.1.1.2.2.2.2.1,(),()),false,()),()),(u3.2.1,u3.2.2.1,u3.2.2.2.1,())))
 ((G_ (p1.1,p1.2.1,p1.2.2.1,p1.2.2.2.1,p1.2.2.2.2.1,p1.2.2.2.2.2.1,())).bind fun u4=>
 (Lx u4.2.1 p2).bind fun u5=>
 R6 p3 (p3.length:Int) 0 p0.1 p0.2.1 p1.1 p1.2.1 p1.2.2.1 p1.2.2.2.1 p1.2.2.2.2.1 p1.2.2.2.2.2.1 0 0 false [] [] [] u4.1.1.1 u4.1.1.2.1 u4.1.1.2.2.2.2.1 u5.2.1 u4.2.2.1 u4.2.2.2.1))
def SJ:=Zv (MZ AU)
abbrev oX:Type:=ACJ×AFh
def Ug(ABT:ABx->Int->Int->Option Gy)(AM0:ACo->Int->Option XQ)(ANB:ABt->ABv->Int->AAj->Option OO)(ANt:ACo->Int->Option Oc)(p1 AF Ai:Int)(AN:Bool)(b1:AAO)(b2:AAZ)(b3:AAO)(b4:AAP)(b5:AAw)(b6:AAx)(b7:AAp)(b8:AAr):Option oX:=
 cond (((b6.length:Int)==0))
  (some ((2,()),(((),AF,(),(),(),Ai,(),(),(),(),AN,()),b1,b2,b3,b4,b5,b6,b7,b8,())))
 (if(0:Int)<=(0:Int)/\(0:Int)<(b6.length:Int)then(
 (ABT (b1,AF,b2,b3,b4,Ai,b5,b6,b7,b8,AN,()) p1 ((b6.getD 0 (0,0,[],[],false,[],())).2.1)).bind fun u3=>
 cond (u3.1.1 !=0)
  (some ((u3.1.1,()),(((),AF,(),(),(),Ai,(),(),(),(),AN,()),b1,b2,b3,b4,b5,b6,b7,b8,())))
 (if(0:Int)<=p1/\p1<(b2.length:Int)then(
 (AM0 ((b2.getD (p1.toNat) ([],[],0,())).1,(b2.getD (p1.toNat) ([],[],0,())).2.1,(b2.getD (p1.toNat) ([],[],0,())).2.2.1,()) (AQ (((b6.getD 0 (0,0,[],[],false,[],())).1)-1))).bind fun u5=>
 (ANt (u5.2.1,u5.2.2.1,u5.1.1.1.2.2.1,()) ((b6.getD 0 (0,0,[],[],false,[],())).2.1)).bind fun u7=>
 (ANB (b1,AF,()) ((b6.getD 0 (0,0,[],[],false,[],())).1,(b6.getD 0 (0,0,[],[],false,[],())).2.1,(b6.getD 0 (0,0,[],[],false,[],())).2.2.1,(b6.getD 0 (0,0,[],[],false,[],())).2.2.2.1,(b6.getD 0 (0,0,[],[],false,[],())).2.2.2.2.1,(b6.getD 0 (0,0,[],[],false,[],())).2.2.2.2.2.1,()) p1 u7.2.1).bind fun u8=>
 cond (!u5.1.1.2.1)
  (some ((4,()),(((),AF,(),(),(),Ai,(),(),(),(),AN,()),b1,b2,b3,b4,b5,b6,b7,b8,())))
 (cond (!u8.1.1.2.1)
  (some ((4,()),(((),AF,(),(),(),Ai,(),(),(),(),AN,()),b1,b2,b3,b4,b5,b6,b7,b8,())))
 (if(0:Int)<=p1/\p1<(b2.length:Int)then(
 if(0:Int)<=(0:Int)/\(0:Int)<(b6.length:Int)then(
 some ((0,()),(((),AF,(),(),(),Ai,(),(),(),(),AN,()),b1,(b2.set (p1.toNat) (u5.2.1,u5.2.2.1,u5.1.1.1.2.2.1,())),b3,b4,b5,(b6.set 0 (u8.1.1.1.1,u8.1.1.1.2.1,u8.2.1,u8.2.2.1,u8.1.1.1.2.2.2.2.1,u8.2.2.2.1,())),b7,b8,())))else none)else none)))else none))else none)
def LI:=Ug Dx QP SJ SG
abbrev Zd:Type:=AGM×AE2
def Rw(p0:ABt)(p1:ABv)(p2:AAO):Option Zd:=
 (Im (p0.1,p0.2.1,()) (p1.1,p1.2.1,p1.2.2.1,p1.2.2.2.1,p1.2.2.2.2.1,p1.2.2.2.2.2.1,())).bind fun u1=>
 cond (!u1.1.1)
  ((FJ (p0.1,p0.2.1,()) (p1.1,p1.2.1,p1.2.2.1,p1.2.2.2.1,p1.2.2.2.2.1,p1.2.2.2.2.2.1,())).bind fun u2=>
  some ((((u2.1.1.1,u2.1.1.2.1,(),(),u2.1.1.2.2.2.2.1,(),()),false,()),()),(u2.2.1,u2.2.2.1,u2.2.2.2.1,())))
 (cond (p1.2.2.2.2.1)
  ((FJ (p0.1,p0.2.1,()) (p1.1,p1.2.1,p1.2.2.1,p1.2.2.2.1,p1.2.2.2.2.1,p1.2.2.2.2.2.1,())).bind fun u3=>
  some ((((u3.1.1.1,u3.1.1.2.1,(),(),u3.1.1.2.2.2.2.1,(),()),false,()),()),(u3.2.1,u3.2.2.1,u3.2.2.2.1,())))
 ((Oj p1.2.2.1 p2).bind fun u4=>
 (Hh (p0.1,p0.2.1,()) p2 u4.2.1).bind fun u5=>
 cond (!u5.1.1)
  ((FJ (p0.1,p0.2.1,()) (p1.1,p1.2.1,p1.2.2.1,p1.2.2.2.1,p1.2.2.2.2.1,p1.2.2.2.2.2.1,())).bind fun u6=>
  some ((((u6.1.1.1,u6.1.1.2.1,(),(),u6.1.1.2.2.2.2.1,(),()),false,()),()),(u6.2.1,u6.2.2.1,u6.2.2.2.1,())))
 ((G_ (p1.1,p1.2.1,p1.2.2.1,p1.2.2.2.1,p1.2.2.2.2.1,p1.2.2.2.2.2.1,())).bind fun u7=>
 (U5 (p1.1,p1.2.1,p1.2.2.1,p1.2.2.2.1,p1.2.2.2.2.1,p1.2.2.2.2.2.1,())).bind fun u8=>
 if(0:Int)<=u8.1.1/\u8.1.1<=u8.1.1/\u8.1.1<=(C7:Int)then(
 some ((((u7.1.1.1,u7.1.1.2.1,(),(),true,(),()),true,()),()),(u7.2.1,u7.2.2.1,(List.replicate (u8.1.1.toNat) []),())))else none)))
abbrev oN:Type:=ACJ×AFh
def U1(zI:Bool->Option YG)(ANU:AB_->Int->Option Yx)(ANn:ABt->ABv->List Int->Option Zd)(AF Ai:Int)(AN:Bool)(b1:AAO)(b2:AAZ)(b3:AAO)(b4:AAP)(b5:AAw)(b6:AAx)(b7:AAp)(b8:AAr):Option oN:=
 cond (((b6.length:Int)==0))
  (some ((2,()),(((),AF,(),(),(),Ai,(),(),(),(),AN,()),b1,b2,b3,b4,b5,b6,b7,b8,())))
 (if(0:Int)<=(0:Int)/\(0:Int)<(b6.length:Int)then(
 if(0:Int)<=(0:Int)/\(0:Int)<(b6.length:Int)then(
 (ANU (b4,Ai,()) ((b6.getD 0 (0,0,[],[],false,[],())).2.1)).bind fun u3=>
 (ANn (b1,AF,()) ((b6.getD 0 (0,0,[],[],false,[],())).1,(b6.getD 0 (0,0,[],[],false,[],())).2.1,(b6.getD 0 (0,0,[],[],false,[],())).2.2.1,(b6.getD 0 (0,0,[],[],false,[],())).2.2.2.1,(b6.getD 0 (0,0,[],[],false,[],())).2.2.2.2.1,(b6.getD 0 (0,0,[],[],false,[],())).2.2.2.2.2.1,()) u3.2.1).bind fun u4=>
 if(0:Int)<=(0:Int)/\(0:Int)<(b6.length:Int)then(
 (zI u4.1.1.2.1).bind fun u6=>
 some ((u6.1.1,()),(((),AF,(),(),(),Ai,(),(),(),(),AN,()),b1,b2,b3,b4,b5,(b6.set 0 (u4.1.1.1.1,u4.1.1.1.2.1,u4.2.1,u4.2.2.1,u4.1.1.1.2.2.2.2.1,u4.2.2.2.1,())),b7,b8,())))else none)else none)else none)
def LC:=U1 Mt Jt Rw
abbrev rP:Type:=ACJ×AFh
def Um(p1 p2 AF Ai:Int)(AN:Bool)(b1:AAO)(b2:AAZ)(b3:AAO)(b4:AAP)(b5:AAw)(b6:AAx)(b7:AAp)(b8:AAr):Option rP:=
 cond (((b6.length:Int)==0))
  (some ((2,()),(((),AF,(),(),(),Ai,(),(),(),(),AN,()),b1,b2,b3,b4,b5,b6,b7,b8,())))
 (if(0:Int)<=(0:Int)/\(0:Int)<(b6.length:Int)then(
 (IZ ((b6.getD 0 (0,0,[],[],false,[],())).1,(b6.getD 0 (0,0,[],[],false,[],())).2.1,(b6.getD 0 (0,0,[],[],false,[],())).2.2.1,(b6.getD 0 (0,0,[],[],false,[],())).2.2.2.1,(b6.getD 0 (0,0,[],[],false,[],())).2.2.2.2.1,(b6.getD 0 (0,0,[],[],false,[],())).2.2.2.2.2.1,()) p1).bind fun u2=>
 cond (!u2.1.1.2.1)
  (some ((2,()),(((),AF,(),(),(),Ai,(),(),(),(),AN,()),b1,b2,b3,b4,b5,b6,b7,b8,())))
 (if(0:Int)<=(0:Int)/\(0:Int)<(b6.length:Int)then(
 (Dx (b1,AF,b2,b3,b4,Ai,b5,b6,b7,b8,AN,()) p2 ((b6.getD 0 (0,0,[],[],false,[],())).2.1)).bind fun u4=>
 cond (u4.1.1 !=0)
  (some ((u4.1.1,()),(((),AF,(),(),(),Ai,(),(),(),(),AN,()),b1,b2,b3,b4,b5,b6,b7,b8,())))
 ((NJ p2 (u2.1.1.1.1,u2.1.1.1.2.1,u2.1.1.1.2.2.1,u2.1.1.1.2.2.2.1,()) AF Ai AN b1 b2 b3 b4 b5 b6 b7 b8).bind fun u5=>
 some ((u5.1.1,()),(((),u5.2.1.2.1,(),(),(),u5.2.1.2.2.2.2.2.1,(),(),(),(),u5.2.1.2.2.2.2.2.2.2.2.2.2.1,()),u5.2.2.1,u5.2.2.2.1,u5.2.2.2.2.1,u5.2.2.2.2.2.1,u5.2.2.2.2.2.2.1,u5.2.2.2.2.2.2.2.1,u5.2.2.2.2.2.2.2.2.1,u5.2.2.2.2.2.2.2.2.2.1,()))))else none))else none)
abbrev NL:Type:=ABw×Unit
abbrev Vr:Type:=List AAO->Int->Int->List Int->Int->Option NL
def Yd(R4:Vr)(t17:List AAO)(t18 t19:Int)(AG:AAO)(AF:Int):Option NL:=
 cond (decide (t19<t18))
  (if(0:Int)<=t19/\t19<(t17.length:Int)then(
  (HP (AG,AF,()) (t17.getD (t19.toNat) [])).bind fun u3=>
  cond (!u3.1.1)
   (some ((false,()),()))
  (R4 t17 t18 (AQ (t19+1)) AG AF))else none)
 (some ((true,()),()))
def LU:Nat->Vr
 |0=>default
 |n+1=>Yd (LU n)
def X_(R4:Vr)(p0:ABt)(p1:ABv):Option NL:=
 (Im (p0.1,p0.2.1,()) (p1.1,p1.2.1,p1.2.2.1,p1.2.2.2.1,p1.2.2.2.2.1,p1.2.2.2.2.2.1,())).bind fun u1=>
 cond (!u1.1.1)
  (some ((false,()),()))
 (cond (!p1.2.2.2.2.1)
  (some ((false,()),()))
 (R4 p1.2.2.2.2.2.1 (p1.2.2.2.2.2.1.length:Int) 0 p0.1 p0.2.1))
def QL:=X_ (LU AU)
abbrev ZT:Type:=AH2×AF7
def SB(p0:ABt)(p1:AB_)(p2 p3:Int):Option ZT:=
 (Mk (p1.1,p1.2.1,())).bind fun u1=>
 (L3 (p0.1,p0.2.1,()) (p1.1,p1.2.1,())).bind fun u2=>
 cond (!u2.1.1)
  ((GN (p0.1,p0.2.1,()) (p1.1,p1.2.1,())).bind fun u3=>
  some (((((),u3.1.1.2.1,()),false,()),()),(u3.2.1,())))
 (cond ((p2 !=(p1.1.length:Int)))
  ((GN (p0.1,p0.2.1,()) (p1.1,p1.2.1,())).bind fun u5=>
  some (((((),u5.1.1.2.1,()),false,()),()),(u5.2.1,())))
 (cond (u1.1.1==p2)
  ((GN (p0.1,p0.2.1,()) (p1.1,p1.2.1,())).bind fun u6=>
  some (((((),u6.1.1.2.1,()),false,()),()),(u6.2.1,())))
 ((BE p3 0 60).bind fun u7=>
 cond (!u7.1.1)
  ((GN (p0.1,p0.2.1,()) (p1.1,p1.2.1,())).bind fun u8=>
  some (((((),u8.1.1.2.1,()),false,()),()),(u8.2.1,())))
 ((Ep (p1.1,p1.2.1,())).bind fun u9=>
 if(0:Int)<=AQ (u1.1.1-1)/\AQ (u1.1.1-1)<(u9.2.1.length:Int)then(
 let wx:AAP:=(u9.2.1.set ((AQ (u1.1.1-1)).toNat) ((u9.2.1.getD ((AQ (u1.1.1-1)).toNat) ([],false,0,())).1,true,(u9.2.1.getD ((AQ (u1.1.1-1)).toNat) ([],false,0,())).2.2.1,()))
 if(0:Int)<=AQ (u1.1.1-1)/\AQ (u1.1.1-1)<(wx.length:Int)then(
 some (((((),u9.1.1.2.1,()),true,()),()),((wx.set ((AQ (u1.1.1-1)).toNat) ((wx.getD ((AQ (u1.1.1-1)).toNat) ([],false,0,())).1,(wx.getD ((AQ (u1.1.1-1)).toNat) ([],false,0,())).2.1,p3,())),())))else none)else none))))
abbrev cc:Type:=ACJ×(AFB×List Int×AAZ×List Int×Unit×AAw×Unit×AAp×AAr×AAP×AAx×Unit)
def TC(zI:Bool->Option YG)(ALw:ABt->ABv->Option NL)(ANp:ABt->AB_->Int->Int->Option ZT)(AF Ai:Int)(AN:Bool)(b1:AAO)(b2:AAZ)(b3:AAO)(b4:AAP)(b5:AAw)(b6:AAx)(b7:AAp)(b8:AAr):Option cc:=
 cond (((b6.length:Int)==0))
  (some ((2,()),(((),AF,(),(),(),Ai,(),(),(),(),AN,()),b1,b2,b3,(),b5,(),b7,b8,b4,b6,())))
 (if(0:Int)<=(0:Int)/\(0:Int)<(b6.length:Int)then(
 (ALw (b1,AF,()) ((b6.getD 0 (0,0,[],[],false,[],())).1,(b6.getD 0 (0,0,[],[],false,[],())).2.1,(b6.getD 0 (0,0,[],[],false,[],())).2.2.1,(b6.getD 0 (0,0,[],[],false,[],())).2.2.2.1,(b6.getD 0 (0,0,[],[],false,[],())).2.2.2.2.1,(b6.getD 0 (0,0,[],[],false,[],())).2.2.2.2.2.1,())).bind fun u2=>
 cond (!u2.1.1)
  (some ((5,()),(((),AF,(),(),(),Ai,(),(),(),(),AN,()),b1,b2,b3,(),b5,(),b7,b8,b4,b6,())))
 (if(0:Int)<=(0:Int)/\(0:Int)<(b6.length:Int)then(
 if(0:Int)<=(0:Int)/\(0:Int)<(b6.length:Int)then(
 (ANp (b1,AF,()) (b4,Ai,()) ((b6.getD 0 (0,0,[],[],false,[],())).1) (((b6.getD 0 (0,0,[],[],false,[],())).2.2.2.2.2.1).length:Int)).bind fun u5=>
 cond (u5.1.1.2.1)
  ((zI u5.1.1.2.1).bind fun u6=>
  some ((u6.1.1,()),(((),AF,(),(),(),u5.1.1.1.2.1,(),(),(),(),AN,()),b1,b2,b3,(),b5,(),b7,b8,u5.2.1,[],())))
 ((zI u5.1.1.2.1).bind fun u7=>
 some ((u7.1.1,()),(((),AF,(),(),(),Ai,(),(),(),(),AN,()),b1,b2,b3,(),b5,(),b7,b8,b4,b6,()))))else none)else none))else none)
def KI:=TC Mt QL SB
abbrev wa:Type:=AH2×AF7
def aF(p0:ABt)(p1:AB_)(p2:Int):Option wa:=
 (L3 (p0.1,p0.2.1,()) (p1.1,p1.2.1,())).bind fun u1=>
 cond (!u1.1.1)
  ((GN (p0.1,p0.2.1,()) (p1.1,p1.2.1,())).bind fun u2=>
  some (((((),u2.1.1.2.1,()),false,()),()),(u2.2.1,())))
 ((Es p2).bind fun u3=>
 (BE u3.1.1 1 (p1.1.length:Int)).bind fun u4=>
 cond (!u4.1.1)
  ((GN (p0.1,p0.2.1,()) (p1.1,p1.2.1,())).bind fun u5=>
  some (((((),u5.1.1.2.1,()),false,()),()),(u5.2.1,())))
 ((Ep (p1.1,p1.2.1,())).bind fun u6=>
 some (((((),(if p2>u6.1.1.2.1 then p2 else u6.1.1.2.1),()),true,()),()),(u6.2.1,()))))
abbrev nO:Type:=ABw×Unit
def Qx(p0:AD4)(p1:ACJ):Option nO:=
 some ((decide (p0.1<=p1.1),()),())
abbrev Ct:Type:=ACJ×Unit
abbrev Cp:Type:=AAj->AD9->Int->Int->Option Ct
def Di(R2:Cp)(t0:AAj)(t1:AD9)(t7 t8:Int):Option Ct:=
 cond (decide (t8<t7))
  (if(0:Int)<=t8/\t8<(t0.length:Int)then(
  (Qx ((t0.getD (t8.toNat) (0,0,false,[],())).1,(t0.getD (t8.toNat) (0,0,false,[],())).2.1,(t0.getD (t8.toNat) (0,0,false,[],())).2.2.1,(t0.getD (t8.toNat) (0,0,false,[],())).2.2.2.1,()) t1.1).bind fun u1=>
  cond (u1.1.1)
   (some ((t8,()),()))
  (R2 t0 (t1.1,()) t7 (AQ (t8+1))))else none)
 (some (((-1),()),()))
def BW:Nat->Cp
 |0=>default
 |n+1=>Di (BW n)
def Dj(R2:Cp)(p0:AAj)(p1:AD9):Option Ct:=
 R2 p0 (p1.1,()) (p0.length:Int) 0
def C1:=Dj (BW AU)
abbrev Cm:Type:=ADC×AId
abbrev Ci:Type:=AD9->Int->Int->AAj->Option Cm
def Dc(R5:Ci)(t1:AD9)(t5 t6:Int)(b0:AAj):Option Cm:=
 cond ((decide (t6<(b0.length:Int))))
  (if(0:Int)<=t6/\t6<(b0.length:Int)then(
  (Qx ((b0.getD (t6.toNat) (0,0,false,[],())).1,(b0.getD (t6.toNat) (0,0,false,[],())).2.1,(b0.getD (t6.toNat) (0,0,false,[],())).2.2.1,(b0.getD (t6.toNat) (0,0,false,[],())).2.2.2.1,()) t1.1).bind fun u3=>
  cond (!u3.1.1)
   (if(0:Int)<=t5/\t5<(b0.length:Int)then(
   R5 (t1.1,()) (AQ (t5+1)) (AQ (t6+1)) (b0.set (t5.toNat) ((b0.getD (t6.toNat) (0,0,false,[],())).1,(b0.getD (t6.toNat) (0,0,false,[],())).2.1,(b0.getD (t6.toNat) (0,0,false,[],())).2.2.1,(b0.getD (t6.toNat) (0,0,false,[],())).2.2.2.1,())))else none)
  (R5 (t1.1,()) t5 (AQ (t6+1)) b0))else none)
 (if(0:Int)<=t5/\t5<=(b0.length:Int)/\(b0.length:Int)<=(b0.length:Int)then(
 let x5:AAj:=(b0.take (t5.toNat)++List.replicate (((b0.length:Int).toNat)-(t5.toNat)) (0,0,false,[],())++b0.drop ((t5.toNat)+(((b0.length:Int).toNat)-(t5.toNat))))
 if(0:Int)<=(0:Int)/\(0:Int)<=t5/\t5<=(x5.length:Int)then(
 some (((),()),((),((x5.drop 0).take ((t5.toNat)-0)),())))else none)else none)
def BR:Nat->Ci
 |0=>default
 |n+1=>Dc (BR n)
def Dd(R5:Ci)(p1:AD9)(b0:AAj):Option Cm:=
 (C1 b0 (p1.1,())).bind fun u1=>
 cond (u1.1.1==(-1))
  (some (((),()),((),b0,())))
 (R5 (p1.1,()) u1.1.1 (AQ (u1.1.1+1)) b0)
def Bw:=Dd (BR AU)
abbrev ql:Type:=AFG×AEC
def UO(p0:ACo)(p1:Int):Option ql:=
 (Fq (p0.1,p0.2.1,p0.2.2.1,())).bind fun u1=>
 cond (!u1.1.1)
  ((D4 (p0.1,p0.2.1,p0.2.2.1,())).bind fun u2=>
  some (((((),(),u2.1.1.2.2.1,()),false,()),()),(u2.2.1,u2.2.2.1,())))
 ((DO p1).bind fun u3=>
 cond (!u3.1.1)
  ((D4 (p0.1,p0.2.1,p0.2.2.1,())).bind fun u4=>
  some (((((),(),u4.1.1.2.2.1,()),false,()),()),(u4.2.1,u4.2.2.1,())))
 ((DN (p0.1,p0.2.1,p0.2.2.1,())).bind fun u5=>
 (Bw ((p1,()),()) u5.2.1).bind fun u6=>
 some (((((),(),u5.1.1.2.2.1,()),true,()),()),(u6.2.2.1,u5.2.2.1,()))))
abbrev nv:Type:=ACJ×AFh
def Q5(p1 AF Ai:Int)(AN:Bool)(b1:AAO)(b2:AAZ)(b3:AAO)(b4:AAP)(b5:AAw)(b6:AAx)(b7:AAp)(b8:AAr):Option nv:=
 (Eh (b1,AF,b2,b3,b4,Ai,b5,b6,b7,b8,AN,()) p1).bind fun u1=>
 cond (u1.1.1 !=0)
  (some ((u1.1.1,()),(((),AF,(),(),(),Ai,(),(),(),(),AN,()),b1,b2,b3,b4,b5,b6,b7,b8,())))
 (if(0:Int)<=p1/\p1<(b2.length:Int)then(
 (UO ((b2.getD (p1.toNat) ([],[],0,())).1,(b2.getD (p1.toNat) ([],[],0,())).2.1,(b2.getD (p1.toNat) ([],[],0,())).2.2.1,()) Ai).bind fun u2=>
 if(0:Int)<=p1/\p1<(b2.length:Int)then(
 (Mt u2.1.1.2.1).bind fun u4=>
 some ((u4.1.1,()),(((),AF,(),(),(),Ai,(),(),(),(),AN,()),b1,(b2.set (p1.toNat) (u2.2.1,u2.2.2.1,u2.1.1.1.2.2.1,())),b3,b4,b5,b6,b7,b8,())))else none)else none)
abbrev Py:Type:=ADC×(Unit×AAw×Unit)
def Fj(p1 p2:Int)(b0:AAw):Option Py:=(AJ_ p1 p2 b0).map fun l=>(((),()),((),l,()))
abbrev iz:Type:=ACJ×(AFB×List Int×AAZ×Unit×Unit×Unit×Unit×AAp×Unit×List Int×AAP×AAw×AAx×AAr×Unit)
def Xg(p1:ADq)(AF Ai:Int)(AN:Bool)(b1:AAO)(b2:AAZ)(b3:AAO)(b4:AAP)(b5:AAw)(b6:AAx)(b7:AAp)(b8:AAr):Option iz:=
 cond (p1.1==1)
  ((LA p1.2.1 AF Ai AN b1 b2 b3 b4 b5 b6 b7 b8).bind fun u1=>
  some ((u1.1.1,()),(((),u1.2.1.2.1,(),(),(),u1.2.1.2.2.2.2.2.1,(),(),(),(),u1.2.1.2.2.2.2.2.2.2.2.2.2.1,()),u1.2.2.1,u1.2.2.2.1,(),(),(),(),u1.2.2.2.2.2.2.2.2.1,(),u1.2.2.2.2.1,u1.2.2.2.2.2.2.2.2.2.2.1,u1.2.2.2.2.2.2.2.2.2.2.2.1,u1.2.2.2.2.2.2.2.2.2.2.2.2.1,u1.2.2.2.2.2.2.2.2.2.1,())))
 (cond (p1.1==2)
  ((MS p1.2.1 p1.2.2.2.2.1 AF Ai AN b1 b2 b3 b4 b5 b6 b7 b8).bind fun u6=>
  some ((u6.1.1,()),(((),u6.2.1.2.1,(),(),(),u6.2.1.2.2.2.2.2.1,(),(),(),(),u6.2.1.2.2.2.2.2.2.2.2.2.2.1,()),u6.2.2.1,u6.2.2.2.1,(),(),(),(),u6.2.2.2.2.2.2.2.2.1,(),u6.2.2.2.2.1,u6.2.2.2.2.2.1,u6.2.2.2.2.2.2.1,u6.2.2.2.2.2.2.2.1,u6.2.2.2.2.2.2.2.2.2.2.1,())))
 (cond (p1.1==3)
  ((KG (p1.1,p1.2.1,p1.2.2.1,p1.2.2.2.1,p1.2.2.2.2.1,()) AF Ai AN b1 b2 b3 b4 b5 b6 b7 b8).bind fun u8=>
  some ((u8.1.1,()),(((),u8.2.1.2.1,(),(),(),u8.2.1.2.2.2.2.2.1,(),(),(),(),u8.2.1.2.2.2.2.2.2.2.2.2.2.1,()),u8.2.2.1,u8.2.2.2.1,(),(),(),(),u8.2.2.2.2.2.2.2.2.1,(),u8.2.2.2.2.1,u8.2.2.2.2.2.1,u8.2.2.2.2.2.2.1,u8.2.2.2.2.2.2.2.1,u8.2.2.2.2.2.2.2.2.2.1,())))
 (cond (p1.1==4)
  ((Se p1.2.1 AF Ai AN b1 b2 b3 b4 b5 b6 b7 b8).bind fun EJ=>
  some ((EJ.1.1,()),(((),EJ.2.1.2.1,(),(),(),EJ.2.1.2.2.2.2.2.1,(),(),(),(),EJ.2.1.2.2.2.2.2.2.2.2.2.2.1,()),EJ.2.2.1,EJ.2.2.2.1,(),(),(),(),EJ.2.2.2.2.2.2.2.2.1,(),EJ.2.2.2.2.1,EJ.2.2.2.2.2.1,EJ.2.2.2.2.2.2.1,EJ.2.2.2.2.2.2.2.1,EJ.2.2.2.2.2.2.2.2.2.1,())))
 (cond (p1.1==5)
  ((RL p1.2.1 p1.2.2.1 AF Ai AN b1 b2 b3 b4 b5 b6 b7 b8).bind fun L0=>
  some ((L0.1.1,()),(((),L0.2.1.2.1,(),(),(),L0.2.1.2.2.2.2.2.1,(),(),(),(),L0.2.1.2.2.2.2.2.2.2.2.2.2.1,()),L0.2.2.1,L0.2.2.2.1,(),(),(),(),L0.2.2.2.2.2.2.2.2.1,(),L0.2.2.2.2.1,L0.2.2.2.2.2.1,L0.2.2.2.2.2.2.1,L0.2.2.2.2.2.2.2.1,L0.2.2.2.2.2.2.2.2.2.1,())))
 (cond (p1.1==6)
  ((Sd p1.2.1 AF Ai AN b1 b2 b3 b4 b5 b6 b7 b8).bind fun u16=>
  some ((u16.1.1,()),(((),u16.2.1.2.1,(),(),(),u16.2.1.2.2.2.2.2.1,(),(),(),(),u16.2.1.2.2.2.2.2.2.2.2.2.2.1,()),u16.2.2.1,u16.2.2.2.1,(),(),(),(),u16.2.2.2.2.2.2.2.2.1,(),u16.2.2.2.2.2.2.2.2.2.2.1,u16.2.2.2.2.2.1,u16.2.2.2.2.2.2.1,u16.2.2.2.2.2.2.2.1,u16.2.2.2.2.2.2.2.2.2.1,())))
 (cond (p1.1==7)
  ((LH p1.2.1 AF Ai AN b1 b2 b3 b4 b5 b6 b7 b8).bind fun Ru=>
  some ((Ru.1.1,()),(((),Ru.2.1.2.1,(),(),(),Ru.2.1.2.2.2.2.2.1,(),(),(),(),Ru.2.1.2.2.2.2.2.2.2.2.2.2.1,()),Ru.2.2.1,Ru.2.2.2.1,(),(),(),(),Ru.2.2.2.2.2.2.2.2.1,(),Ru.2.2.2.2.2.2.2.2.2.2.1,Ru.2.2.2.2.2.1,Ru.2.2.2.2.2.2.1,Ru.2.2.2.2.2.2.2.1,Ru.2.2.2.2.2.2.2.2.2.1,())))
 (cond (p1.1==8)
  ((Sp AF Ai AN b1 b2 b3 b4 b5 b6 b7 b8).bind fun Sc=>
  some ((Sc.1.1,()),(((),Sc.2.1.2.1,(),(),(),Sc.2.1.2.2.2.2.2.1,(),(),(),(),Sc.2.1.2.2.2.2.2.2.2.2.2.2.1,()),Sc.2.2.1,Sc.2.2.2.1,(),(),(),(),Sc.2.2.2.2.2.2.2.2.1,(),Sc.2.2.2.2.1,Sc.2.2.2.2.2.1,Sc.2.2.2.2.2.2.1,Sc.2.2.2.2.2.2.2.2.2.2.1,Sc.2.2.2.2.2.2.2.2.2.1,())))
 (cond (p1.1==9)
  ((LI p1.2.1 AF Ai AN b1 b2 b3 b4 b5 b6 b7 b8).bind fun XZ=>
  some ((XZ.1.1,()),(((),XZ.2.1.2.1,(),(),(),XZ.2.1.2.2.2.2.2.1,(),(),(),(),XZ.2.1.2.2.2.2.2.2.2.2.2.2.1,()),XZ.2.2.1,XZ.2.2.2.1,(),(),(),(),XZ.2.2.2.2.2.2.2.2.1,(),XZ.2.2.2.2.1,XZ.2.2.2.2.2.1,XZ.2.2.2.2.2.2.1,XZ.2.2.2.2.2.2.2.1,XZ.2.2.2.2.2.2.2.2.2.1,())))
 (cond (p1.1==10)
  ((LC AF Ai AN b1 b2 b3 b4 b5 b6 b7 b8).bind fun qI=>
  some ((qI.1.1,()),(((),qI.2.1.2.1,(),(),(),qI.2.1.2.2.2.2.2.1,(),(),(),(),qI.2.1.2.2.2.2.2.2.2.2.2.2.1,()),qI.2.2.1,qI.2.2.2.1,(),(),(),(),qI.2.2.2.2.2.2.2.2.1,(),qI.2.2.2.2.1,qI.2.2.2.2.2.1,qI.2.2.2.2.2.2.1,qI.2.2.2.2.2.2.2.1,qI.2.2.2.2.2.2.2.2.2.1,())))
 (cond (p1.1==11)
  ((Um p1.2.2.1 p1.2.2.2.1 AF Ai AN b1 b2 b3 b4 b5 b6 b7 b8).bind fun u34=>
  some ((u34.1.1,()),(((),u34.2.1.2.1,(),(),(),u34.2.1.2.2.2.2.2.1,(),(),(),(),u34.2.1.2.2.2.2.2.2.2.2.2.2.1,()),u34.2.2.1,u34.2.2.2.1,(),(),(),(),u34.2.2.2.2.2.2.2.2.1,(),u34.2.2.2.2.1,u34.2.2.2.2.2.1,u34.2.2.2.2.2.2.1,u34.2.2.2.2.2.2.2.1,u34.2.2.2.2.2.2.2.2.2.1,())))
 (cond (p1.1==12)
  ((KI AF Ai AN b1 b2 b3 b4 b5 b6 b7 b8).bind fun tb=>
  some ((tb.1.1,()),(((),tb.2.1.2.1,(),(),(),tb.2.1.2.2.2.2.2.1,(),(),(),(),tb.2.1.2.2.2.2.2.2.2.2.2.2.1,()),tb.2.2.1,tb.2.2.2.1,(),(),(),(),tb.2.2.2.2.2.2.2.2.1,(),tb.2.2.2.2.1,tb.2.2.2.2.2.2.2.2.2.2.1,tb.2.2.2.2.2.2.1,tb.2.2.2.2.2.2.2.2.2.2.2.1,tb.2.2.2.2.2.2.2.2.2.1,())))
 (cond (p1.1==13)
  ((aF (b1,AF,()) (b4,Ai,()) p1.2.1).bind fun u42=>
  (Mt u42.1.1.2.1).bind fun u43=>
  some ((u43.1.1,()),(((),AF,(),(),(),u42.1.1.1.2.1,(),(),(),(),AN,()),b1,b2,(),(),(),(),b7,(),b3,u42.2.1,b5,b6,b8,())))
 (cond (p1.1==14)
  ((OL p1.2.1 p1.2.2.1 AF Ai AN b1 b2 b3 b4 b5 b6 b7 b8).bind fun yv=>
  some ((yv.1.1,()),(((),yv.2.1.2.1,(),(),(),yv.2.1.2.2.2.2.2.1,(),(),(),(),yv.2.1.2.2.2.2.2.2.2.2.2.2.1,()),yv.2.2.1,yv.2.2.2.1,(),(),(),(),yv.2.2.2.2.2.2.2.2.1,(),yv.2.2.2.2.1,yv.2.2.2.2.2.1,yv.2.2.2.2.2.2.1,yv.2.2.2.2.2.2.2.1,yv.2.2.2.2.2.2.2.2.2.1,())))
 (cond (p1.1==16)
  ((Q5 p1.2.1 AF Ai AN b1 b2 b3 b4 b5 b6 b7 b8).bind fun yz=>
  some ((yz.1.1,()),(((),yz.2.1.2.1,(),(),(),yz.2.1.2.2.2.2.2.1,(),(),(),(),yz.2.1.2.2.2.2.2.2.2.2.2.2.1,()),yz.2.2.1,yz.2.2.2.1,(),(),(),(),yz.2.2.2.2.2.2.2.2.1,(),yz.2.2.2.2.1,yz.2.2.2.2.2.1,yz.2.2.2.2.2.2.1,yz.2.2.2.2.2.2.2.1,yz.2.2.2.2.2.2.2.2.2.1,())))
 ((BE p1.2.1 0 (AQ ((b5.length:Int)-1))).bind fun u53=>
 cond (!u53.1.1)
  (some ((2,()),(((),AF,(),(),(),Ai,(),(),(),(),AN,()),b1,b2,(),(),(),(),b7,(),b3,b4,b5,b6,b8,())))
 ((Fj p1.2.1 (AQ (p1.2.1+1)) b5).bind fun u54=>
 some ((0,()),(((),AF,(),(),(),Ai,(),(),(),(),AN,()),b1,b2,(),(),(),(),b7,(),b3,b4,u54.2.2.1,b6,b8,()))))))))))))))))))
abbrev v_:Type:=AD7×AD8
def Nq(p0:ABx)(p1:ADq):Option v_:=
 (D3 (p0.1,p0.2.1,p0.2.2.1,p0.2.2.2.1,p0.2.2.2.2.1,p0.2.2.2.2.2.1,p0.2.2.2.2.2.2.1,p0.2.2.2.2.2.2.2.1,p0.2.2.2.2.2.2.2.2.1,p0.2.2.2.2.2.2.2.2.2.1,p0.2.2.2.2.2.2.2.2.2.2.1,())).bind fun u1=>
 cond (!u1.1.1)
  (some (((((),0,(),(),(),0,(),(),(),(),false,()),1,()),()),([],[],[],[],[],[],[],[],())))
 ((Yn (p1.1,p1.2.1,p1.2.2.1,p1.2.2.2.1,p1.2.2.2.2.1,())).bind fun u2=>
 cond (!u2.1.1)
  (some (((((),0,(),(),(),0,(),(),(),(),false,()),1,()),()),([],[],[],[],[],[],[],[],())))
 ((EC (p0.1,p0.2.1,p0.2.2.1,p0.2.2.2.1,p0.2.2.2.2.1,p0.2.2.2.2.2.1,p0.2.2.2.2.2.2.1,p0.2.2.2.2.2.2.2.1,p0.2.2.2.2.2.2.2.2.1,p0.2.2.2.2.2.2.2.2.2.1,p0.2.2.2.2.2.2.2.2.2.2.1,())).bind fun u3=>
 (Xg (p1.1,p1.2.1,p1.2.2.1,p1.2.2.2.1,p1.2.2.2.2.1,()) u3.1.1.2.1 u3.1.1.2.2.2.2.2.1 u3.1.1.2.2.2.2.2.2.2.2.2.2.1 u3.2.1 u3.2.2.1 u3.2.2.2.1 u3.2.2.2.2.1 u3.2.2.2.2.2.1 u3.2.2.2.2.2.2.1 u3.2.2.2.2.2.2.2.1 u3.2.2.2.2.2.2.2.2.1).bind fun u4=>
 cond (u4.1.1 !=0)
  ((EC (p0.1,p0.2.1,p0.2.2.1,p0.2.2.2.1,p0.2.2.2.2.1,p0.2.2.2.2.2.1,p0.2.2.2.2.2.2.1,p0.2.2.2.2.2.2.2.1,p0.2.2.2.2.2.2.2.2.1,p0.2.2.2.2.2.2.2.2.2.1,p0.2.2.2.2.2.2.2.2.2.2.1,())).bind fun EJ=>
  some (((((),EJ.1.1.2.1,(),(),(),EJ.1.1.2.2.2.2.2.1,(),(),(),(),EJ.1.1.2.2.2.2.2.2.2.2.2.2.1,()),u4.1.1,()),()),(EJ.2.1,EJ.2.2.1,EJ.2.2.2.1,EJ.2.2.2.2.1,EJ.2.2.2.2.2.1,EJ.2.2.2.2.2.2.1,EJ.2.2.2.2.2.2.2.1,EJ.2.2.2.2.2.2.2.2.1,())))
 (some (((((),u4.2.1.2.1,(),(),(),u4.2.1.2.2.2.2.2.1,(),(),(),(),u4.2.1.2.2.2.2.2.2.2.2.2.2.1,()),0,()),()),(u4.2.2.1,u4.2.2.2.1,u4.2.2.2.2.2.2.2.2.2.2.1,u4.2.2.2.2.2.2.2.2.2.2.2.1,u4.2.2.2.2.2.2.2.2.2.2.2.2.1,u4.2.2.2.2.2.2.2.2.2.2.2.2.2.1,u4.2.2.2.2.2.2.2.2.1,u4.2.2.2.2.2.2.2.2.2.2.2.2.2.2.1,())))))
abbrev uU:Type:=ABw×Unit
def XS(p0:ABx):Option uU:=
 (Sa (p0.1,p0.2.1,p0.2.2.1,p0.2.2.2.1,p0.2.2.2.2.1,p0.2.2.2.2.2.1,p0.2.2.2.2.2.2.1,p0.2.2.2.2.2.2.2.1,p0.2.2.2.2.2.2.2.2.1,p0.2.2.2.2.2.2.2.2.2.1,p0.2.2.2.2.2.2.2.2.2.2.1,())).bind fun u1=>
 cond (u1.1.1)
  ((Uz (p0.1,p0.2.1,p0.2.2.1,p0.2.2.2.1,p0.2.2.2.2.1,p0.2.2.2.2.2.1,p0.2.2.2.2.2.2.1,p0.2.2.2.2.2.2.2.1,p0.2.2.2.2.2.2.2.2.1,p0.2.2.2.2.2.2.2.2.2.1,p0.2.2.2.2.2.2.2.2.2.2.1,())).bind fun u2=>
  cond (u2.1.1)
   ((VY (p0.1,p0.2.1,p0.2.2.1,p0.2.2.2.1,p0.2.2.2.2.1,p0.2.2.2.2.2.1,p0.2.2.2.2.2.2.1,p0.2.2.2.2.2.2.2.1,p0.2.2.2.2.2.2.2.2.1,p0.2.2.2.2.2.2.2.2.2.1,p0.2.2.2.2.2.2.2.2.2.2.1,())).bind fun u3=>
   cond (u3.1.1)
    ((Sr (p0.1,p0.2.1,p0.2.2.1,p0.2.2.2.1,p0.2.2.2.2.1,p0.2.2.2.2.2.1,p0.2.2.2.2.2.2.1,p0.2.2.2.2.2.2.2.1,p0.2.2.2.2.2.2.2.2.1,p0.2.2.2.2.2.2.2.2.2.1,p0.2.2.2.2.2.2.2.2.2.2.1,())).bind fun u4=>
    cond (u4.1.1)
     ((VJ (p0.1,p0.2.1,p0.2.2.1,p0.2.2.2.1,p0.2.2.2.2.1,p0.2.2.2.2.2.1,p0.2.2.2.2.2.2.1,p0.2.2.2.2.2.2.2.1,p0.2.2.2.2.2.2.2.2.1,p0.2.2.2.2.2.2.2.2.2.1,p0.2.2.2.2.2.2.2.2.2.2.1,())).bind fun u5=>
     some ((u5.1.1,()),()))
    (some ((false,()),())))
   (some ((false,()),())))
  (some ((false,()),())))
 (some ((false,()),()))
abbrev iN:Type:=AD5×Unit
abbrev fN:Type:=Int->List UInt8->Option iN
def Wl(R4:fN)(t0:Int)(t3:ABG):Option iN:=
 cond (decide (t0>0))
  (let x2:ABG:=([w8 ((AQ (48+(t0.tmod 10))))].map fun n:Int=>UInt8.ofNat n.toNat)
  if x2.length+t3.length<=C7 then(
  R4 (AQ (t0.tdiv 10)) (x2++t3))else none)
 (some ((t3,()),()))
def SW:Nat->fN
 |0=>default
 |n+1=>Wl (SW n)
def gO(R4:fN)(p0:Int):Option iN:=
 cond (decide (p0<=0))
  (some (([48],()),()))
 (R4 p0 [])
def QC:=gO (SW AU)
abbrev rN:Type:=AD5×Unit
def GS(p0:Int):Option rN:=
 (Ft p0).bind fun u1=>
 cond (!u1.1.1)
  (some (([],()),()))
 ((B3 p0).bind fun u2=>
 (QC u2.1.1).bind fun u3=>
 if 1+u3.1.1.length<=C7 then(
 if([101]++u3.1.1).length+1<=C7 then(
 let x4:ABG:=([101]++u3.1.1)++[46]
 (Ek p0).bind fun u5=>
 (QC u5.1.1).bind fun u6=>
 if x4.length+u6.1.1.length<=C7 then(
 some ((x4++u6.1.1,()),()))else none)else none)else none)
abbrev rC:Type:=AD5×Unit
def It(p0:AF2):Option rC:=
 cond (p0.1==1)
  (cond (p0.2.2.1==[])
   ((GS p0.2.1).bind fun u1=>
   if 5+u1.1.1.length<=C7 then(
   some ((([100,97,116,97,32]++u1.1.1),()),()))else none)
  ((GS p0.2.1).bind fun u3=>
  if 5+u3.1.1.length<=C7 then(
  let x4:ABG:=[100,97,116,97,32]++u3.1.1
  if x4.length+1<=C7 then(
  if(x4++[32]).length+p0.2.2.1.length<=C7 then(
  some ((((x4++[32])++p0.2.2.1),()),()))else none)else none)else none))
 (cond (p0.1==2)
  ((GS p0.2.1).bind fun u6=>
  if 5+u6.1.1.length<=C7 then(
  some ((([104,111,108,101,32]++u6.1.1),()),()))else none)
 (cond (p0.1==3)
  ((GS p0.2.1).bind fun u8=>
  if 5+u8.1.1.length<=C7 then(
  some ((([108,111,115,115,32]++u8.1.1),()),()))else none)
 (cond (p0.1==4)
  ((QC p0.2.1).bind fun EJ=>
  if 4+EJ.1.1.length<=C7 then(
  some ((([101,114,97,32]++EJ.1.1),()),()))else none)
 (cond (p0.1==5)
  ((GS p0.2.1).bind fun Jq=>
  if 5+Jq.1.1.length<=C7 then(
  some ((([116,114,105,109,32]++Jq.1.1),()),()))else none)
 (some (([],()),()))))))
abbrev mP:Type:=AD5×Unit
def km(p0:ABx)(p1:ABG):Option mP:=
 cond ((p1==[106,117,100,103,101]))
  ((XS (p0.1,p0.2.1,p0.2.2.1,p0.2.2.2.1,p0.2.2.2.2.1,p0.2.2.2.2.2.1,p0.2.2.2.2.2.2.1,p0.2.2.2.2.2.2.2.1,p0.2.2.2.2.2.2.2.2.1,p0.2.2.2.2.2.2.2.2.2.1,p0.2.2.2.2.2.2.2.2.2.2.1,())).bind fun u2=>
  cond (u2.1.1)
   (some (([121,101,115],()),()))
  (some (([110,111],()),())))
 (cond ((p1==[111,117,116,32,48]))
  (if(0:Int)<=(4:Int)/\(4:Int)<(p1.length:Int)then(
  let x5:Int:=AQ ((AQ (((p1.getD 4 0).toNat:Int)))-48)
  if(0:Int)<=x5/\x5<(p0.2.2.2.2.2.2.2.2.1.length:Int)then(
  cond ((((p0.2.2.2.2.2.2.2.2.1.getD (x5.toNat) (0,0,[],())).2.2.1).length:Int)==0)
   (some (([110,111,110,101],()),()))
  (let x7:Int:=(((p0.2.2.2.2.2.2.2.2.1.getD (x5.toNat) (0,0,[],())).2.2.1).length:Int)
  if(0:Int)<=AQ (x7-1)/\AQ (x7-1)<(((p0.2.2.2.2.2.2.2.2.1.getD (x5.toNat) (0,0,[],())).2.2.1).length:Int)then(
  (It ((((p0.2.2.2.2.2.2.2.2.1.getD (x5.toNat) (0,0,[],())).2.2.1).getD ((AQ (x7-1)).toNat) (0,0,[],())).1,(((p0.2.2.2.2.2.2.2.2.1.getD (x5.toNat) (0,0,[],())).2.2.1).getD ((AQ (x7-1)).toNat) (0,0,[],())).2.1,(((p0.2.2.2.2.2.2.2.2.1.getD (x5.toNat) (0,0,[],())).2.2.1).getD ((AQ (x7-1)).toNat) (0,0,[],())).2.2.1,())).bind fun u8=>
  some ((u8.1.1,()),()))else none))else none)else none)
 (cond ((p1==[111,117,116,32,49]))
  (if(0:Int)<=(4:Int)/\(4:Int)<(p1.length:Int)then(
  let x15:Int:=AQ ((AQ (((p1.getD 4 0).toNat:Int)))-48)
  if(0:Int)<=x15/\x15<(p0.2.2.2.2.2.2.2.2.1.length:Int)then(
  cond ((((p0.2.2.2.2.2.2.2.2.1.getD (x15.toNat) (0,0,[],())).2.2.1).length:Int)==0)
   (some (([110,111,110,101],()),()))
  (let x17:Int:=(((p0.2.2.2.2.2.2.2.2.1.getD (x15.toNat) (0,0,[],())).2.2.1).length:Int)
  if(0:Int)<=AQ (x17-1)/\AQ (x17-1)<(((p0.2.2.2.2.2.2.2.2.1.getD (x15.toNat) (0,0,[],())).2.2.1).length:Int)then(
  (It ((((p0.2.2.2.2.2.2.2.2.1.getD (x15.toNat) (0,0,[],())).2.2.1).getD ((AQ (x17-1)).toNat) (0,0,[],())).1,(((p0.2.2.2.2.2.2.2.2.1.getD (x15.toNat) (0,0,[],())).2.2.1).getD ((AQ (x17-1)).toNat) (0,0,[],())).2.1,(((p0.2.2.2.2.2.2.2.2.1.getD (x15.toNat) (0,0,[],())).2.2.1).getD ((AQ (x17-1)).toNat) (0,0,[],())).2.2.1,())).bind fun en=>
  some ((en.1.1,()),()))else none))else none)else none)
 (some (([],()),()))))
abbrev yD:Type:=AD5×Unit
def VV(p0:Int):Option yD:=
 if(0:Int)<=p0/\p0<17 then(
 some ((([[],[111,112,101,110],[97,100,100],[115,116,111,114,101],[115,121,110,99],[99,114,97,115,104],[108,111,115,101],[102,105,108,108],[109,101,110,100],[115,101,97,108],[112,108,97,110],[102,105,120],[99,108,111,115,101],[116,114,105,109],[114,101,97,100],[100,114,111,112],[112,114,117,110,101]].getD (p0.toNat) []),()),()))else none
abbrev wV:Type:=ADC×ADn
def Uq(p0:ADq):Option wV:=
 cond (p0.1==8)
  (some (((),()),([],())))
 (cond (p0.1==10)
  (some (((),()),([],())))
 (cond (p0.1==12)
  (some (((),()),([],())))
 (cond (p0.1==13)
  (some (((),()),([],())))
 (cond (p0.1==3)
  (some (((),()),([p0.2.1,p0.2.2.1,p0.2.2.2.1],())))
 (cond (p0.1==5)
  (some (((),()),([p0.2.1,p0.2.2.1],())))
 (cond (p0.1==14)
  (some (((),()),([p0.2.1,p0.2.2.1],())))
 (cond (p0.1==11)
  (some (((),()),([p0.2.2.1,p0.2.2.2.1],())))
 (some (((),()),([p0.2.1],()))))))))))
abbrev Xt:Type:=((Int×Int×Unit)×Unit)×Unit
abbrev Vg:Type:=List UInt8->Int->Int->Int->Option Xt
def UW(R3:Vg)(t0:ABG)(t1 t6 t7:Int):Option Xt:=
 cond ((decide (t1<(t0.length:Int))))
  (if(0:Int)<=t1/\t1<(t0.length:Int)then(
  cond (decide (((t0.getD (t1.toNat) 0).toNat:Int)>=48))
   (if(0:Int)<=t1/\t1<(t0.length:Int)then(
   cond (decide (((t0.getD (t1.toNat) 0).toNat:Int)<=57))
    (cond ((decide ((AQ (t1-t6))<11)))
     (if(0:Int)<=t1/\t1<(t0.length:Int)then(
     R3 t0 (AQ (t1+1)) t6 (AQ ((AQ ((AQ (10*t7))+(AQ (((t0.getD (t1.toNat) 0).toNat:Int)))))-48)))else none)
    (cond (t1==t6)
     (some ((((-1),t1,()),()),()))
    (cond ((decide ((AQ (t1-t6))>10)))
     (some ((((-1),t1,()),()),()))
    (some (((t7,t1,()),()),())))))
   (cond (t1==t6)
    (some ((((-1),t1,()),()),()))
   (cond ((decide ((AQ (t1-t6))>10)))
    (some ((((-1),t1,()),()),()))
   (some (((t7,t1,()),()),())))))else none)
  (cond (t1==t6)
   (some ((((-1),t1,()),()),()))
  (cond ((decide ((AQ (t1-t6))>10)))
   (some ((((-1),t1,()),()),()))
  (some (((t7,t1,()),()),())))))else none)
 (cond (t1==t6)
  (some ((((-1),t1,()),()),()))
 (cond ((decide ((AQ (t1-t6))>10)))
  (some ((((-1),t1,()),()),()))
 (some (((t7,t1,()),()),()))))
def M4:Nat->Vg
 |0=>default
 |n+1=>UW (M4 n)
def og(R3:Vg)(p0:ABG)(p1:Int):Option Xt:=
 R3 p0 p1 p1 0
def Xu:=og (M4 AU)
abbrev AAu:Type:=AHn×Unit
def hY(p0:Int)(p1:AAO):Option AAu:=
 cond (p0==11)
  (if(0:Int)<=(0:Int)/\(0:Int)<(p1.length:Int)then(
  if(0:Int)<=(1:Int)/\(1:Int)<(p1.length:Int)then(
  some (((p0,0,(p1.getD 0 0),(p1.getD 1 0),[],()),()),()))else none)else none)
 (cond ((decide ((p1.length:Int)>0)))
  (if(0:Int)<=(0:Int)/\(0:Int)<(p1.length:Int)then(
  cond ((decide ((p1.length:Int)>1)))
   (if(0:Int)<=(1:Int)/\(1:Int)<(p1.length:Int)then(
   cond ((decide ((p1.length:Int)>2)))
    (if(0:Int)<=(2:Int)/\(2:Int)<(p1.length:Int)then(
    some (((p0,(p1.getD 0 0),(p1.getD 1 0),(p1.getD 2 0),[],()),()),()))else none)
   (some (((p0,(p1.getD 0 0),(p1.getD 1 0),0,[],()),()),())))else none)
  (cond ((decide ((p1.length:Int)>2)))
   (if(0:Int)<=(2:Int)/\(2:Int)<(p1.length:Int)then(
   some (((p0,(p1.getD 0 0),0,(p1.getD 2 0),[],()),()),()))else none)
  (some (((p0,(p1.getD 0 0),0,0,[],()),()),()))))else none)
 (some (((p0,0,0,0,[],()),()),())))
abbrev OZ:Type:=AHk×Unit
abbrev Q2:Type:=Int->Int->Int->Int->Int->List UInt8->Option OZ
abbrev PN:Type:=List UInt8->Int->Int->Int->Int->Int->List UInt8->List Int->Option OZ
def JW(R4:Q2)(oI:PN)(t4 AG AF AW BT:Int)(Be:ABG):Option OZ:=
 cond ((decide (t4<(Be.length:Int))))
  (if(0:Int)<=t4/\t4<(Be.length:Int)then(
  cond (((Be.getD (t4.toNat) 0).toNat:Int)==10)
   (some ((([],false,()),()),()))
  (R4 (AQ (t4+1)) AG AF AW BT Be))else none)
 ((VV AG).bind fun u5=>
 (Uq (AG,AF,AW,BT,Be,())).bind fun u6=>
 oI u5.1.1 0 AG AF AW BT Be u6.2.1)
def Ip(R4:Q2)(oI:PN)(t5:ABG)(t7 AG AF AW BT:Int)(Be:ABG)(b1:AAO):Option OZ:=
 cond ((decide (t7<(b1.length:Int))))
  (if(0:Int)<=t7/\t7<(b1.length:Int)then(
  (CR (b1.getD (t7.toNat) 0) 0 9999999999).bind fun u9=>
  cond (!u9.1.1)
   (some ((([],false,()),()),()))
  (if t5.length+1<=C7 then(
  if(0:Int)<=t7/\t7<(b1.length:Int)then(
  (QC (b1.getD (t7.toNat) 0)).bind fun FY=>
  if(t5++[32]).length+FY.1.1.length<=C7 then(
  oI ((t5++[32])++FY.1.1) (AQ (t7+1)) AG AF AW BT Be b1)else none)else none)else none))else none)
 (cond (AG==2)
  (if t5.length+1<=C7 then(
  if(t5++[32]).length+Be.length<=C7 then(
  some ((((t5++[32])++Be,true,()),()),()))else none)else none)
 (cond (AG==13)
  (if t5.length+1<=C7 then(
  (GS AF).bind fun L0=>
  if(t5++[32]).length+L0.1.1.length<=C7 then(
  some (((((t5++[32])++L0.1.1),true,()),()),()))else none)else none)
 (some (((t5,true,()),()),()))))
mutual
def Fy:Nat->Q2
 |0=>default
 |n+1=>JW (Fy n) (Eo n)
def Eo:Nat->PN
 |0=>default
 |n+1=>Ip (Fy n) (Eo n)
end
def Z1(R4:Q2)(oI:PN)(p0:ADq):Option OZ:=
 (YP (p0.1,p0.2.1,p0.2.2.1,p0.2.2.2.1,p0.2.2.2.2.1,())).bind fun u1=>
 cond (!u1.1.1)
  (some ((([],false,()),()),()))
 (cond (p0.1==13)
  ((Ft p0.2.1).bind fun u2=>
  cond (!u2.1.1)
   (some ((([],false,()),()),()))
  (R4 0 p0.1 p0.2.1 p0.2.2.1 p0.2.2.2.1 p0.2.2.2.2.1))
 (R4 0 p0.1 p0.2.1 p0.2.2.1 p0.2.2.2.1 p0.2.2.2.2.1))
def Jr:=Z1 (Fy AU) (Eo AU)
abbrev rG:Type:=AF1×Unit
def VC(p0:ABG):Option rG:=
 cond ((decide ((p0.length:Int)<4)))
  (some (((0,false,()),()),()))
 ((Xu p0 1).bind fun u2=>
 (Xu p0 (AQ (u2.1.1.2.1+1))).bind fun u3=>
 (Qr u2.1.1.1 u3.1.1.1).bind fun u4=>
 cond (!u4.1.1.2.1)
  (some (((0,false,()),()),()))
 ((GS u4.1.1.1).bind fun u5=>
 cond (!(u5.1.1==p0))
  (some (((0,false,()),()),()))
 (some (((u4.1.1.1,true,()),()),()))))
abbrev J4:Type:=(AKK×Unit)×Unit
abbrev PW:Type:=List UInt8->Int->Int->Int->Int->Int->List UInt8->Int->Int->Int->Int->List UInt8->Option J4
abbrev Nf:Type:=List UInt8->Int->Int->Int->Int->Int->Int->Int->Int->List UInt8->Int->Int->Int->Int->List UInt8->List Int->Option J4
def Ic(R3:PW)(oI:Nf)(t0:ABG)(t5 AG AF AW BT:Int)(Be:ABG)(BM A_ Bq Ed:Int)(Ho:ABG):Option J4:=
 cond (decide (t5<=16))
  ((VV t5).bind fun u1=>
  cond ((decide ((t0.length:Int)<(u1.1.1.length:Int))))
   (R3 t0 (AQ (t5+1)) AG AF AW BT Be BM A_ Bq Ed Ho)
  (let x4:Int:=(u1.1.1.length:Int)
  if(0:Int)<=(0:Int)/\(0:Int)<=x4/\x4<=(t0.length:Int)then(
  cond (!(((t0.drop 0).take ((x4.toNat)-0))==u1.1.1))
   (R3 t0 (AQ (t5+1)) AG AF AW BT Be BM A_ Bq Ed Ho)
  ((Uq (t5,0,0,0,[],())).bind fun u6=>
  oI t0 t5 (u6.2.1.length:Int) (u1.1.1.length:Int) 0 AG AF AW BT Be BM A_ Bq Ed Ho []))else none))
 (some ((((BM,A_,Bq,Ed,Ho,()),false,()),()),()))
def Hw(R3:PW)(oI:Nf)(t0:ABG)(t5 t7 t8 t10 AG AF AW BT:Int)(Be:ABG)(BM A_ Bq Ed:Int)(Ho:ABG)(b2:AAO):Option J4:=
 cond (decide (t10<t7))
  ((Xu t0 (AQ (t8+1))).bind fun u9=>
  cond ((decide (u9.1.1.1<0)))
   (some ((((BM,A_,Bq,Ed,Ho,()),false,()),()),()))
  (if b2.length+1<=C7 then(
  oI t0 t5 t7 u9.1.1.2.1 (AQ (t10+1)) AG AF AW BT Be BM A_ Bq Ed Ho (b2++[u9.1.1.1]))else none))
 ((hY t5 b2).bind fun FY=>
 cond (t5==2)
  ((N1 (AQ (t8+1)) (t0.length:Int)).bind fun Jq=>
  if(0:Int)<=Jq.1.1/\Jq.1.1<=(t0.length:Int)/\(t0.length:Int)<=(t0.length:Int)then(
  let x13:ABG:=((t0.drop (Jq.1.1.toNat)).take (((t0.length:Int).toNat)-(Jq.1.1.toNat)))
  (Jr (FY.1.1.1,FY.1.1.2.1,FY.1.1.2.2.1,FY.1.1.2.2.2.1,x13,())).bind fun Oq=>
  cond (!Oq.1.1.2.1)
   (some ((((BM,A_,Bq,Ed,Ho,()),false,()),()),()))
  (cond (!(Oq.1.1.1==t0))
   (some ((((BM,A_,Bq,Ed,Ho,()),false,()),()),()))
  (some ((((FY.1.1.1,FY.1.1.2.1,FY.1.1.2.2.1,FY.1.1.2.2.2.1,x13,()),true,()),()),()))))else none)
 (cond (t5==13)
  ((N1 (AQ (t8+1)) (t0.length:Int)).bind fun jR=>
  if(0:Int)<=jR.1.1/\jR.1.1<=(t0.length:Int)/\(t0.length:Int)<=(t0.length:Int)then(
  (VC ((t0.drop (jR.1.1.toNat)).take (((t0.length:Int).toNat)-(jR.1.1.toNat)))).bind fun hO=>
  (Jr (FY.1.1.1,hO.1.1.1,FY.1.1.2.2.1,FY.1.1.2.2.2.1,FY.1.1.2.2.2.2.1,())).bind fun en=>
  cond (!en.1.1.2.1)
   (some ((((BM,A_,Bq,Ed,Ho,()),false,()),()),()))
  (cond (!(en.1.1.1==t0))
   (some ((((BM,A_,Bq,Ed,Ho,()),false,()),()),()))
  (some ((((FY.1.1.1,hO.1.1.1,FY.1.1.2.2.1,FY.1.1.2.2.2.1,FY.1.1.2.2.2.2.1,()),true,()),()),()))))else none)
 ((Jr (FY.1.1.1,FY.1.1.2.1,FY.1.1.2.2.1,FY.1.1.2.2.2.1,FY.1.1.2.2.2.2.1,())).bind fun cz=>
 cond (!cz.1.1.2.1)
  (some ((((BM,A_,Bq,Ed,Ho,()),false,()),()),()))
 (cond (!(cz.1.1.1==t0))
  (some ((((BM,A_,Bq,Ed,Ho,()),false,()),()),()))
 (some ((((FY.1.1.1,FY.1.1.2.1,FY.1.1.2.2.1,FY.1.1.2.2.2.1,FY.1.1.2.2.2.2.1,()),true,()),()),()))))))
mutual
def EF:Nat->PW
 |0=>default
 |n+1=>Ic (EF n) (ET n)
def ET:Nat->Nf
 |0=>default
 |n+1=>Hw (EF n) (ET n)
end
def Xw(R3:PW)(oI:Nf)(p0:ABG):Option J4:=
 R3 p0 1 0 0 0 0 [] 0 0 0 0 []
def VK:=Xw (EF AU) (ET AU)
abbrev qy:Type:=AIe×AD8
def My(p0:ABx)(p1:ABG):Option qy:=
 (NU (p0.1,p0.2.1,p0.2.2.1,p0.2.2.2.1,p0.2.2.2.2.1,p0.2.2.2.2.2.1,p0.2.2.2.2.2.2.1,p0.2.2.2.2.2.2.2.1,p0.2.2.2.2.2.2.2.2.1,p0.2.2.2.2.2.2.2.2.2.1,p0.2.2.2.2.2.2.2.2.2.2.1,())).bind fun u1=>
 (GZ (p0.1,p0.2.1,p0.2.2.1,p0.2.2.2.1,p0.2.2.2.2.1,p0.2.2.2.2.2.1,p0.2.2.2.2.2.2.1,p0.2.2.2.2.2.2.2.1,p0.2.2.2.2.2.2.2.2.1,p0.2.2.2.2.2.2.2.2.2.1,p0.2.2.2.2.2.2.2.2.2.2.1,())).bind fun u2=>
 cond (!u2.1.1)
  (some (((((),u1.1.1.2.1,(),(),(),u1.1.1.2.2.2.2.2.1,(),(),(),(),u1.1.1.2.2.2.2.2.2.2.2.2.2.1,()),[98,97,100],()),()),(u1.2.1,u1.2.2.1,u1.2.2.2.1,u1.2.2.2.2.1,u1.2.2.2.2.2.1,u1.2.2.2.2.2.2.1,u1.2.2.2.2.2.2.2.1,u1.2.2.2.2.2.2.2.2.1,())))
 (cond (p1==[])
  (some (((((),u1.1.1.2.1,(),(),(),u1.1.1.2.2.2.2.2.1,(),(),(),(),u1.1.1.2.2.2.2.2.2.2.2.2.2.1,()),[],()),()),(u1.2.1,u1.2.2.1,u1.2.2.2.1,u1.2.2.2.2.1,u1.2.2.2.2.2.1,u1.2.2.2.2.2.2.1,u1.2.2.2.2.2.2.2.1,u1.2.2.2.2.2.2.2.2.1,())))
 (if(0:Int)<=(0:Int)/\(0:Int)<(p1.length:Int)then(
 cond (((p1.getD 0 0).toNat:Int)==35)
  (some (((((),u1.1.1.2.1,(),(),(),u1.1.1.2.2.2.2.2.1,(),(),(),(),u1.1.1.2.2.2.2.2.2.2.2.2.2.1,()),[],()),()),(u1.2.1,u1.2.2.1,u1.2.2.2.1,u1.2.2.2.2.1,u1.2.2.2.2.2.1,u1.2.2.2.2.2.2.1,u1.2.2.2.2.2.2.2.1,u1.2.2.2.2.2.2.2.2.1,())))
 ((km (p0.1,p0.2.1,p0.2.2.1,p0.2.2.2.1,p0.2.2.2.2.1,p0.2.2.2.2.2.1,p0.2.2.2.2.2.2.1,p0.2.2.2.2.2.2.2.1,p0.2.2.2.2.2.2.2.2.1,p0.2.2.2.2.2.2.2.2.2.1,p0.2.2.2.2.2.2.2.2.2.2.1,()) p1).bind fun u4=>
 cond (!(u4.1.1==[]))
  (some (((((),u1.1.1.2.1,(),(),(),u1.1.1.2.2.2.2.2.1,(),(),(),(),u1.1.1.2.2.2.2.2.2.2.2.2.2.1,()),u4.1.1,()),()),(u1.2.1,u1.2.2.1,u1.2.2.2.1,u1.2.2.2.2.1,u1.2.2.2.2.2.1,u1.2.2.2.2.2.2.1,u1.2.2.2.2.2.2.2.1,u1.2.2.2.2.2.2.2.2.1,())))
 (cond ((p1==[111,117,116,32,48]))
  (some (((((),u1.1.1.2.1,(),(),(),u1.1.1.2.2.2.2.2.1,(),(),(),(),u1.1.1.2.2.2.2.2.2.2.2.2.2.1,()),u4.1.1,()),()),(u1.2.1,u1.2.2.1,u1.2.2.2.1,u1.2.2.2.2.1,u1.2.2.2.2.2.1,u1.2.2.2.2.2.2.1,u1.2.2.2.2.2.2.2.1,u1.2.2.2.2.2.2.2.2.1,())))
 (cond ((p1==[111,117,116,32,49]))
  (some (((((),u1.1.1.2.1,(),(),(),u1.1.1.2.2.2.2.2.1,(),(),(),(),u1.1.1.2.2.2.2.2.2.2.2.2.2.1,()),u4.1.1,()),()),(u1.2.1,u1.2.2.1,u1.2.2.2.1,u1.2.2.2.2.1,u1.2.2.2.2.2.1,u1.2.2.2.2.2.2.1,u1.2.2.2.2.2.2.2.1,u1.2.2.2.2.2.2.2.2.1,())))
 ((VK p1).bind fun u7=>
 cond (!u7.1.1.2.1)
  (some (((((),u1.1.1.2.1,(),(),(),u1.1.1.2.2.2.2.2.1,(),(),(),(),u1.1.1.2.2.2.2.2.2.2.2.2.2.1,()),[119,104,97,116],()),()),(u1.2.1,u1.2.2.1,u1.2.2.2.1,u1.2.2.2.2.1,u1.2.2.2.2.2.1,u1.2.2.2.2.2.2.1,u1.2.2.2.2.2.2.2.1,u1.2.2.2.2.2.2.2.2.1,())))
 ((Q1 (p0.1,p0.2.1,p0.2.2.1,p0.2.2.2.1,p0.2.2.2.2.1,p0.2.2.2.2.2.1,p0.2.2.2.2.2.2.1,p0.2.2.2.2.2.2.2.1,p0.2.2.2.2.2.2.2.2.1,p0.2.2.2.2.2.2.2.2.2.1,p0.2.2.2.2.2.2.2.2.2.2.1,()) (u7.1.1.1.1,u7.1.1.1.2.1,u7.1.1.1.2.2.1,u7.1.1.1.2.2.2.1,u7.1.1.1.2.2.2.2.1,())).bind fun u8=>
 if(0:Int)<=u8.1.1.2.1/\u8.1.1.2.1<6 then(
 some (((((),u8.1.1.1.2.1,(),(),(),u8.1.1.1.2.2.2.2.2.1,(),(),(),(),u8.1.1.1.2.2.2.2.2.2.2.2.2.2.1,()),([[111,107],[98,97,100],[110,111,110,101],[108,111,115,116],[114,101,102,117,115,101,100],[119,97,105,116]].getD (u8.1.1.2.1.toNat) []),()),()),(u8.2.1,u8.2.2.1,u8.2.2.2.1,u8.2.2.2.2.1,u8.2.2.2.2.2.1,u8.2.2.2.2.2.2.1,u8.2.2.2.2.2.2.2.1,u8.2.2.2.2.2.2.2.2.1,())))else none))))))else none))
abbrev vX:Type:=AD5×Unit
def strconv_Itoa(p0:Int):Option vX:=(AGP p0).map fun l=>((l,()),())
abbrev yX:Type:=AD5×Unit
def Hj(p0:Int):Option yX:=
 (strconv_Itoa p0).bind fun u1=>
 some ((u1.1.1,()),())
abbrev rI:Type:=AD5×Unit
def FD(p0:Int):Option rI:=
 (DO p0).bind fun u1=>
 cond (!u1.1.1)
  (some (([],()),()))
 ((Es p0).bind fun u2=>
 (Hj u2.1.1).bind fun u3=>
 if 1+u3.1.1.length<=C7 then(
 if([101]++u3.1.1).length+1<=C7 then(
 let x4:ABG:=([101]++u3.1.1)++[46]
 (TU p0).bind fun u5=>
 (Hj u5.1.1).bind fun u6=>
 if x4.length+u6.1.1.length<=C7 then(
 some ((x4++u6.1.1,()),()))else none)else none)else none)
abbrev rX:Type:=AD5×Unit
def EX(p0:AF2):Option rX:=
 cond (p0.1==1)
  (cond (p0.2.2.1==[])
   ((FD p0.2.1).bind fun u1=>
   if 5+u1.1.1.length<=C7 then(
   some ((([100,97,116,97,32]++u1.1.1),()),()))else none)
  ((FD p0.2.1).bind fun u3=>
  if 5+u3.1.1.length<=C7 then(
  let x4:ABG:=[100,97,116,97,32]++u3.1.1
  if x4.length+1<=C7 then(
  if(x4++[32]).length+p0.2.2.1.length<=C7 then(
  some ((((x4++[32])++p0.2.2.1),()),()))else none)else none)else none))
 (cond (p0.1==2)
  ((FD p0.2.1).bind fun u6=>
  if 5+u6.1.1.length<=C7 then(
  some ((([104,111,108,101,32]++u6.1.1),()),()))else none)
 (cond (p0.1==3)
  ((FD p0.2.1).bind fun u8=>
  if 5+u8.1.1.length<=C7 then(
  some ((([108,111,115,115,32]++u8.1.1),()),()))else none)
 (cond (p0.1==4)
  ((Hj (if 0>p0.2.1 then 0 else p0.2.1)).bind fun FY=>
  if 4+FY.1.1.length<=C7 then(
  some ((([101,114,97,32]++FY.1.1),()),()))else none)
 (cond (p0.1==5)
  ((FD p0.2.1).bind fun L0=>
  if 5+L0.1.1.length<=C7 then(
  some ((([116,114,105,109,32]++L0.1.1),()),()))else none)
 (some (([],()),()))))))
abbrev uW:Type:=AD5×Unit
def Lt(p0:ADk):Option uW:=
 cond ((p0.2.2.1.length:Int)==0)
  (some (([110,111,110,101],()),()))
 (let x2:Int:=(p0.2.2.1.length:Int)
 if(0:Int)<=AQ (x2-1)/\AQ (x2-1)<(p0.2.2.1.length:Int)then(
 (EX ((p0.2.2.1.getD ((AQ (x2-1)).toNat) (0,0,[],())).1,(p0.2.2.1.getD ((AQ (x2-1)).toNat) (0,0,[],())).2.1,(p0.2.2.1.getD ((AQ (x2-1)).toNat) (0,0,[],())).2.2.1,())).bind fun u3=>
 some ((u3.1.1,()),()))else none)
abbrev mM:Type:=((List UInt8×List UInt8×Bool×Unit)×Unit)×Unit
def strings_Cut(p0:ABG)(p1:ABG):Option mM:=(ALv p0 p1).map fun l=>(((l.1,l.2.1,l.2.2,()),()),())
abbrev r6:Type:=ADC×(List ABG×Unit)
def QU:Option r6:=
 some (((),()),([[111,112,101,110],[97,100,100],[115,116,111,114,101],[115,121,110,99],[99,114,97,115,104],[108,111,115,101],[102,105,108,108],[109,101,110,100],[115,101,97,108],[112,108,97,110],[102,105,120],[99,108,111,115,101],[116,114,105,109],[114,101,97,100],[100,114,111,112],[112,114,117,110,101]],()))
abbrev ZO:Type:=ACJ×Unit
def Kk(p0:List ABG)(p1:ABG):Option ZO:=(ABg p0 p1).map fun l=>((l,()),())
abbrev o6:Type:=AF1×Unit
def LG(p0:ABG)(p1:Int):Option o6:=(FL p0 p1).map fun l=>(((l.1,l.2,()),()),())
abbrev kC:Type:=AD5×Unit
def strings_TrimPrefix(p0:ABG)(p1:ABG):Option kC:=(s6 p0 p1).map fun l=>((l,()),())
abbrev fl:Type:=AF1×Unit
def Qb(p0:ABG):Option fl:=
 (strings_TrimPrefix p0 [101]).bind fun u1=>
 (strings_Cut u1.1.1 [46]).bind fun u2=>
 (LG u2.1.1.1 2).bind fun u3=>
 (LG u2.1.1.2.1 2).bind fun u4=>
 (DL u3.1.1.1 u4.1.1.1).bind fun u5=>
 cond (!u3.1.1.2.1)
  (some (((0,false,()),()),()))
 (cond (!u4.1.1.2.1)
  (some (((0,false,()),()),()))
 (cond (!u5.1.1.2.1)
  (some (((0,false,()),()),()))
 ((FD u5.1.1.1).bind fun u6=>
 cond (!(u6.1.1==p0))
  (some (((0,false,()),()),()))
 (some (((u5.1.1.1,true,()),()),())))))
abbrev kX:Type:=AD5×AHn
def N2(p1:Int)(p2:ABG)(AG AF AW BT:Int)(Be:ABG):Option kX:=
 cond (p1==84)
  (some (([],()),((AG,AF,AW,BT,p2,()),())))
 ((strings_Cut p2 [32]).bind fun u1=>
 (LG u1.1.1.1 10).bind fun u2=>
 cond (p1==65)
  (some ((u1.1.1.2.1,()),((AG,u2.1.1.1,AW,BT,Be,()),())))
 (cond (p1==66)
  (some ((u1.1.1.2.1,()),((AG,AF,u2.1.1.1,BT,Be,()),())))
 (cond (p1==67)
  (some ((u1.1.1.2.1,()),((AG,AF,AW,u2.1.1.1,Be,()),())))
 (cond (p1==80)
  ((Qb u1.1.1.1).bind fun u3=>
  some ((u1.1.1.2.1,()),((AG,u3.1.1.1,AW,BT,Be,()),())))
 (some ((u1.1.1.2.1,()),((AG,AF,AW,BT,Be,()),())))))))
abbrev nR:Type:=ABw×Unit
def strings_Contains(p0:ABG)(p1:ABG):Option nR:=(lz p0 p1).map fun l=>((l,()),())
abbrev gB:Type:=AHk×Unit
def UL(p0:ADq)(p1:Int):Option gB:=
 cond (p1==84)
  ((strings_Contains p0.2.2.2.2.1 [10]).bind fun u1=>
  some (((p0.2.2.2.2.1,!u1.1.1,()),()),()))
 (cond (p1==80)
  ((FD p0.2.1).bind fun u2=>
  (DO p0.2.1).bind fun u3=>
  some (((u2.1.1,u3.1.1,()),()),()))
 (cond (p1==66)
  ((Hj p0.2.2.1).bind fun u4=>
  cond ((decide (p0.2.2.1>=0)))
   (some (((u4.1.1,decide ((u4.1.1.length:Int)<=10),()),()),()))
  (some (((u4.1.1,false,()),()),())))
 (cond (p1==67)
  ((Hj p0.2.2.2.1).bind fun u7=>
  cond ((decide (p0.2.2.2.1>=0)))
   (some (((u7.1.1,decide ((u7.1.1.length:Int)<=10),()),()),()))
  (some (((u7.1.1,false,()),()),())))
 ((Hj p0.2.1).bind fun EJ=>
 cond (decide (p0.2.1>=0))
  (some (((EJ.1.1,decide ((EJ.1.1.length:Int)<=10),()),()),()))
 (some (((EJ.1.1,false,()),()),()))))))
abbrev ZU:Type:=AHk×Unit
abbrev Wc:Type:=List UInt8->Int->Int->Int->Int->Int->Int->List UInt8->List Int->Option ZU
def JS(R5:Wc)(t4:ABG)(t22 t23 AG AF AW BT:Int)(Be:ABG)(b1:AAO):Option ZU:=
 cond (decide (t23<t22))
  (if(0:Int)<=t23/\t23<(b1.length:Int)then(
  (UL (AG,AF,AW,BT,Be,()) (b1.getD (t23.toNat) 0)).bind fun u7=>
  cond (!u7.1.1.2.1)
   (some ((([],false,()),()),()))
  (if 1+u7.1.1.1.length<=C7 then(
  if t4.length+([32]++u7.1.1.1).length<=C7 then(
  R5 (t4++([32]++u7.1.1.1)) t22 (AQ (t23+1)) AG AF AW BT Be b1)else none)else none))else none)
 (some (((t4,true,()),()),()))
def KA:Nat->Wc
 |0=>default
 |n+1=>JS (KA n)
def Zp(R5:Wc)(p0:ADq):Option ZU:=
 (Yn (p0.1,p0.2.1,p0.2.2.1,p0.2.2.2.1,p0.2.2.2.2.1,())).bind fun u1=>
 cond (!u1.1.1)
  (some ((([],false,()),()),()))
 ((QU).bind fun u2=>
 if(0:Int)<=AQ (p0.1-1)/\AQ (p0.1-1)<(u2.2.1.length:Int)then(
 (Q0 p0.1).bind fun u4=>
 if u4.1.1.length<=C7 then(
 let x5:AAO:=(u4.1.1.map fun c=>(c.toNat:Int))
 R5 (u2.2.1.getD ((AQ (p0.1-1)).toNat) []) (x5.length:Int) 0 p0.1 p0.2.1 p0.2.2.1 p0.2.2.2.1 p0.2.2.2.2.1 x5)else none)else none)
def Xl:=Zp (KA AU)
abbrev XI:Type:=(AKK×Unit)×Unit
abbrev Uk:Type:=List UInt8->List UInt8->Int->Int->Int->Int->Int->Int->List UInt8->Int->Int->Int->Int->List UInt8->List Int->Option XI
def Iq(R6:Uk)(t0 t5:ABG)(t31 t32 AG AF AW BT:Int)(Be:ABG)(BM A_ Bq Ed:Int)(Ho:ABG)(b2:AAO):Option XI:=
 cond (decide (t32<t31))
  (if(0:Int)<=t32/\t32<(b2.length:Int)then(
  (N2 (b2.getD (t32.toNat) 0) t5 BM A_ Bq Ed Ho).bind fun u8=>
  R6 t0 u8.1.1 t31 (AQ (t32+1)) AG AF AW BT Be u8.2.1.1 u8.2.1.2.1 u8.2.1.2.2.1 u8.2.1.2.2.2.1 u8.2.1.2.2.2.2.1 b2)else none)
 ((Xl (BM,A_,Bq,Ed,Ho,())).bind fun u9=>
 cond (!u9.1.1.2.1)
  (some ((((0,0,0,0,[],()),false,()),()),()))
 (cond (!(u9.1.1.1==t0))
  (some ((((0,0,0,0,[],()),false,()),()),()))
 (some ((((BM,A_,Bq,Ed,Ho,()),true,()),()),()))))
def I1:Nat->Uk
 |0=>default
 |n+1=>Iq (I1 n)
def Yb(R6:Uk)(p0:ABG):Option XI:=
 (strings_Cut p0 [32]).bind fun u1=>
 (QU).bind fun u2=>
 (Kk u2.2.1 u1.1.1.1).bind fun u3=>
 cond (((AQ (1+u3.1.1))==0))
  (some ((((0,0,0,0,[],()),false,()),()),()))
 ((Q0 (AQ (1+u3.1.1))).bind fun u5=>
 if u5.1.1.length<=C7 then(
 let x6:AAO:=(u5.1.1.map fun c=>(c.toNat:Int))
 R6 p0 u1.1.1.2.1 (x6.length:Int) 0 0 0 0 0 [] (AQ (1+u3.1.1)) 0 0 0 [] x6)else none)
def UQ:=Yb (I1 AU)
abbrev fu:Type:=AIe×AD8
def DB(p0:ABx)(p1:ABG):Option fu:=
 (D3 (p0.1,p0.2.1,p0.2.2.1,p0.2.2.2.1,p0.2.2.2.2.1,p0.2.2.2.2.2.1,p0.2.2.2.2.2.2.1,p0.2.2.2.2.2.2.2.1,p0.2.2.2.2.2.2.2.2.1,p0.2.2.2.2.2.2.2.2.2.1,p0.2.2.2.2.2.2.2.2.2.2.1,())).bind fun u1=>
 cond (!u1.1.1)
  ((EC (p0.1,p0.2.1,p0.2.2.1,p0.2.2.2.1,p0.2.2.2.2.1,p0.2.2.2.2.2.1,p0.2.2.2.2.2.2.1,p0.2.2.2.2.2.2.2.1,p0.2.2.2.2.2.2.2.2.1,p0.2.2.2.2.2.2.2.2.2.1,p0.2.2.2.2.2.2.2.2.2.2.1,())).bind fun u2=>
  some (((((),u2.1.1.2.1,(),(),(),u2.1.1.2.2.2.2.2.1,(),(),(),(),u2.1.1.2.2.2.2.2.2.2.2.2.2.1,()),[98,97,100],()),()),(u2.2.1,u2.2.2.1,u2.2.2.2.1,u2.2.2.2.2.1,u2.2.2.2.2.2.1,u2.2.2.2.2.2.2.1,u2.2.2.2.2.2.2.2.1,u2.2.2.2.2.2.2.2.2.1,())))
 (cond (p1==[])
  ((EC (p0.1,p0.2.1,p0.2.2.1,p0.2.2.2.1,p0.2.2.2.2.1,p0.2.2.2.2.2.1,p0.2.2.2.2.2.2.1,p0.2.2.2.2.2.2.2.1,p0.2.2.2.2.2.2.2.2.1,p0.2.2.2.2.2.2.2.2.2.1,p0.2.2.2.2.2.2.2.2.2.2.1,())).bind fun u3=>
  some (((((),u3.1.1.2.1,(),(),(),u3.1.1.2.2.2.2.2.1,(),(),(),(),u3.1.1.2.2.2.2.2.2.2.2.2.2.1,()),[],()),()),(u3.2.1,u3.2.2.1,u3.2.2.2.1,u3.2.2.2.2.1,u3.2.2.2.2.2.1,u3.2.2.2.2.2.2.1,u3.2.2.2.2.2.2.2.1,u3.2.2.2.2.2.2.2.2.1,())))
 (if(0:Int)<=(0:Int)/\(0:Int)<(p1.length:Int)then(
 cond (((p1.getD 0 0).toNat:Int)==35)
  ((EC (p0.1,p0.2.1,p0.2.2.1,p0.2.2.2.1,p0.2.2.2.2.1,p0.2.2.2.2.2.1,p0.2.2.2.2.2.2.1,p0.2.2.2.2.2.2.2.1,p0.2.2.2.2.2.2.2.2.1,p0.2.2.2.2.2.2.2.2.2.1,p0.2.2.2.2.2.2.2.2.2.2.1,())).bind fun u5=>
  some (((((),u5.1.1.2.1,(),(),(),u5.1.1.2.2.2.2.2.1,(),(),(),(),u5.1.1.2.2.2.2.2.2.2.2.2.2.1,()),[],()),()),(u5.2.1,u5.2.2.1,u5.2.2.2.1,u5.2.2.2.2.1,u5.2.2.2.2.2.1,u5.2.2.2.2.2.2.1,u5.2.2.2.2.2.2.2.1,u5.2.2.2.2.2.2.2.2.1,())))
 (cond ((p1==[106,117,100,103,101]))
  ((L5 (p0.1,p0.2.1,p0.2.2.1,p0.2.2.2.1,p0.2.2.2.2.1,p0.2.2.2.2.2.1,p0.2.2.2.2.2.2.1,p0.2.2.2.2.2.2.2.1,p0.2.2.2.2.2.2.2.2.1,p0.2.2.2.2.2.2.2.2.2.1,p0.2.2.2.2.2.2.2.2.2.2.1,())).bind fun u7=>
  cond (u7.1.1)
   ((EC (p0.1,p0.2.1,p0.2.2.1,p0.2.2.2.1,p0.2.2.2.2.1,p0.2.2.2.2.2.1,p0.2.2.2.2.2.2.1,p0.2.2.2.2.2.2.2.1,p0.2.2.2.2.2.2.2.2.1,p0.2.2.2.2.2.2.2.2.2.1,p0.2.2.2.2.2.2.2.2.2.2.1,())).bind fun u8=>
   some (((((),u8.1.1.2.1,(),(),(),u8.1.1.2.2.2.2.2.1,(),(),(),(),u8.1.1.2.2.2.2.2.2.2.2.2.2.1,()),[121,101,115],()),()),(u8.2.1,u8.2.2.1,u8.2.2.2.1,u8.2.2.2.2.1,u8.2.2.2.2.2.1,u8.2.2.2.2.2.2.1,u8.2.2.2.2.2.2.2.1,u8.2.2.2.2.2.2.2.2.1,())))
  ((EC (p0.1,p0.2.1,p0.2.2.1,p0.2.2.2.1,p0.2.2.2.2.1,p0.2.2.2.2.2.1,p0.2.2.2.2.2.2.1,p0.2.2.2.2.2.2.2.1,p0.2.2.2.2.2.2.2.2.1,p0.2.2.2.2.2.2.2.2.2.1,p0.2.2.2.2.2.2.2.2.2.2.1,())).bind fun u9=>
  some (((((),u9.1.1.2.1,(),(),(),u9.1.1.2.2.2.2.2.1,(),(),(),(),u9.1.1.2.2.2.2.2.2.2.2.2.2.1,()),[110,111],()),()),(u9.2.1,u9.2.2.1,u9.2.2.2.1,u9.2.2.2.2.1,u9.2.2.2.2.2.1,u9.2.2.2.2.2.2.1,u9.2.2.2.2.2.2.2.1,u9.2.2.2.2.2.2.2.2.1,()))))
 (cond ((p1==[111,117,116,32,48]))
  (if(0:Int)<=(0:Int)/\(0:Int)<(p0.2.2.2.2.2.2.2.2.1.length:Int)then(
  (EC (p0.1,p0.2.1,p0.2.2.1,p0.2.2.2.1,p0.2.2.2.2.1,p0.2.2.2.2.2.1,p0.2.2.2.2.2.2.1,p0.2.2.2.2.2.2.2.1,p0.2.2.2.2.2.2.2.2.1,p0.2.2.2.2.2.2.2.2.2.1,p0.2.2.2.2.2.2.2.2.2.2.1,())).bind fun FY=>
  (Lt ((p0.2.2.2.2.2.2.2.2.1.getD 0 (0,0,[],())).1,(p0.2.2.2.2.2.2.2.2.1.getD 0 (0,0,[],())).2.1,(p0.2.2.2.2.2.2.2.2.1.getD 0 (0,0,[],())).2.2.1,())).bind fun L0=>
  some (((((),FY.1.1.2.1,(),(),(),FY.1.1.2.2.2.2.2.1,(),(),(),(),FY.1.1.2.2.2.2.2.2.2.2.2.2.1,()),L0.1.1,()),()),(FY.2.1,FY.2.2.1,FY.2.2.2.1,FY.2.2.2.2.1,FY.2.2.2.2.2.1,FY.2.2.2.2.2.2.1,FY.2.2.2.2.2.2.2.1,FY.2.2.2.2.2.2.2.2.1,())))else none)
 (cond ((p1==[111,117,116,32,49]))
  (if(0:Int)<=(1:Int)/\(1:Int)<(p0.2.2.2.2.2.2.2.2.1.length:Int)then(
  (EC (p0.1,p0.2.1,p0.2.2.1,p0.2.2.2.1,p0.2.2.2.2.1,p0.2.2.2.2.2.1,p0.2.2.2.2.2.2.1,p0.2.2.2.2.2.2.2.1,p0.2.2.2.2.2.2.2.2.1,p0.2.2.2.2.2.2.2.2.2.1,p0.2.2.2.2.2.2.2.2.2.2.1,())).bind fun jR=>
  (Lt ((p0.2.2.2.2.2.2.2.2.1.getD 1 (0,0,[],())).1,(p0.2.2.2.2.2.2.2.2.1.getD 1 (0,0,[],())).2.1,(p0.2.2.2.2.2.2.2.2.1.getD 1 (0,0,[],())).2.2.1,())).bind fun hO=>
  some (((((),jR.1.1.2.1,(),(),(),jR.1.1.2.2.2.2.2.1,(),(),(),(),jR.1.1.2.2.2.2.2.2.2.2.2.2.1,()),hO.1.1,()),()),(jR.2.1,jR.2.2.1,jR.2.2.2.1,jR.2.2.2.2.1,jR.2.2.2.2.2.1,jR.2.2.2.2.2.2.1,jR.2.2.2.2.2.2.2.1,jR.2.2.2.2.2.2.2.2.1,())))else none)
 ((UQ p1).bind fun en=>
 cond (!en.1.1.2.1)
  ((EC (p0.1,p0.2.1,p0.2.2.1,p0.2.2.2.1,p0.2.2.2.2.1,p0.2.2.2.2.2.1,p0.2.2.2.2.2.2.1,p0.2.2.2.2.2.2.2.1,p0.2.2.2.2.2.2.2.2.1,p0.2.2.2.2.2.2.2.2.2.1,p0.2.2.2.2.2.2.2.2.2.2.1,())).bind fun cz=>
  some (((((),cz.1.1.2.1,(),(),(),cz.1.1.2.2.2.2.2.1,(),(),(),(),cz.1.1.2.2.2.2.2.2.2.2.2.2.1,()),[119,104,97,116],()),()),(cz.2.1,cz.2.2.1,cz.2.2.2.1,cz.2.2.2.2.1,cz.2.2.2.2.2.1,cz.2.2.2.2.2.2.1,cz.2.2.2.2.2.2.2.1,cz.2.2.2.2.2.2.2.2.1,())))
 ((Nq (p0.1,p0.2.1,p0.2.2.1,p0.2.2.2.1,p0.2.2.2.2.1,p0.2.2.2.2.2.1,p0.2.2.2.2.2.2.1,p0.2.2.2.2.2.2.2.1,p0.2.2.2.2.2.2.2.2.1,p0.2.2.2.2.2.2.2.2.2.1,p0.2.2.2.2.2.2.2.2.2.2.1,()) (en.1.1.1.1,en.1.1.1.2.1,en.1.1.1.2.2.1,en.1.1.1.2.2.2.1,en.1.1.1.2.2.2.2.1,())).bind fun et=>
 if(0:Int)<=et.1.1.2.1/\et.1.1.2.1<6 then(
 some (((((),et.1.1.1.2.1,(),(),(),et.1.1.1.2.2.2.2.2.1,(),(),(),(),et.1.1.1.2.2.2.2.2.2.2.2.2.2.1,()),([[111,107],[98,97,100],[110,111,110,101],[108,111,115,116],[114,101,102,117,115,101,100],[119,97,105,116]].getD (et.1.1.2.1.toNat) []),()),()),(et.2.1,et.2.2.1,et.2.2.2.1,et.2.2.2.2.1,et.2.2.2.2.2.1,et.2.2.2.2.2.2.1,et.2.2.2.2.2.2.2.1,et.2.2.2.2.2.2.2.2.1,())))else none))))))else none))
abbrev yo:Type:=AD5×AD_
def NR(p1:ABG)(p2:List ABG)(AG:AAO)(AF AW:Int):Option yo:=
 (AJ (AQ ((p1.length:Int)+1)) AG AF AW).bind fun u2=>
 (AJ 3 u2.2.1.1 u2.2.1.2.1 u2.2.1.2.2.1).bind fun u3=>
 cond (u3.1.1==0)
  (if(0:Int)<=(0:Int)/\(0:Int)<=u2.1.1/\u2.1.1<=(p1.length:Int)then(
  some ((((p1.drop 0).take ((u2.1.1.toNat)-0)),()),((u3.2.1.1,u3.2.1.2.1,u3.2.1.2.2.1,()),())))else none)
 (cond (u3.1.1==1)
  (if(0:Int)<=(0:Int)/\(0:Int)<=u2.1.1/\u2.1.1<=(p1.length:Int)then(
  let x5:ABG:=((p1.drop 0).take ((u2.1.1.toNat)-0))
  (Ei p2 u3.2.1.1 u3.2.1.2.1 u3.2.1.2.2.1).bind fun u6=>
  if x5.length+u6.1.1.length<=C7 then(
  (N1 (AQ (u2.1.1+1)) (p1.length:Int)).bind fun u7=>
  if(0:Int)<=u7.1.1/\u7.1.1<=(p1.length:Int)/\(p1.length:Int)<=(p1.length:Int)then(
  let x8:ABG:=((p1.drop (u7.1.1.toNat)).take (((p1.length:Int).toNat)-(u7.1.1.toNat)))
  if(x5++u6.1.1).length+x8.length<=C7 then(
  some (((x5++u6.1.1)++x8,()),((u6.2.1.1,u6.2.1.2.1,u6.2.1.2.2.1,()),())))else none)else none)else none)else none)
 (if(0:Int)<=(0:Int)/\(0:Int)<=u2.1.1/\u2.1.1<=(p1.length:Int)then(
 let x9:ABG:=((p1.drop 0).take ((u2.1.1.toNat)-0))
 if(0:Int)<=u2.1.1/\u2.1.1<=(p1.length:Int)/\(p1.length:Int)<=(p1.length:Int)then(
 let wx:ABG:=((p1.drop (u2.1.1.toNat)).take (((p1.length:Int).toNat)-(u2.1.1.toNat)))
 (Ei p2 u3.2.1.1 u3.2.1.2.1 u3.2.1.2.2.1).bind fun FY=>
 if x9.length+FY.1.1.length<=C7 then(
 if(x9++FY.1.1).length+wx.length<=C7 then(
 some ((((x9++FY.1.1)++wx),()),((FY.2.1.1,FY.2.1.2.1,FY.2.1.2.2.1,()),())))else none)else none)else none)else none))
abbrev mw:Type:=AD5×AD_
def RJ(p1:ABx)(AG:AAO)(AF AW:Int):Option mw:=
 (Ei [[106,117,100,103,101],[111,117,116,32,48],[111,117,116,32,49],[],[35],[104,101,108,112],[111,117,116,32,50],[109,101,110,100,32],[116,114,105,109,32,101,49,46,49],[112,108,97,110]] AG AF AW).bind fun u1=>
 (Av 4 u1.2.1.1 u1.2.1.2.1 u1.2.1.2.2.1).bind fun u2=>
 cond (!u2.1.1)
  ((GZ (p1.1,p1.2.1,p1.2.2.1,p1.2.2.2.1,p1.2.2.2.2.1,p1.2.2.2.2.2.1,p1.2.2.2.2.2.2.1,p1.2.2.2.2.2.2.2.1,p1.2.2.2.2.2.2.2.2.1,p1.2.2.2.2.2.2.2.2.2.1,p1.2.2.2.2.2.2.2.2.2.2.1,())).bind fun u3=>
  cond (u3.1.1)
   ((Mw (p1.1,p1.2.1,p1.2.2.1,p1.2.2.2.1,p1.2.2.2.2.1,p1.2.2.2.2.2.1,p1.2.2.2.2.2.2.1,p1.2.2.2.2.2.2.2.1,p1.2.2.2.2.2.2.2.2.1,p1.2.2.2.2.2.2.2.2.2.1,p1.2.2.2.2.2.2.2.2.2.2.1,()) u2.2.1.1 u2.2.1.2.1 u2.2.1.2.2.1).bind fun u4=>
   (Jr (u4.1.1.1,u4.1.1.2.1,u4.1.1.2.2.1,u4.1.1.2.2.2.1,u4.1.1.2.2.2.2.1,())).bind fun u5=>
   cond (u5.1.1.2.1)
    ((Av 12 u4.2.1.1 u4.2.1.2.1 u4.2.1.2.2.1).bind fun u6=>
    cond (u6.1.1)
     ((NR u5.1.1.1 [[32],[48],[120],[57],[35],[97,100,100],[101,49,46,49]] u6.2.1.1 u6.2.1.2.1 u6.2.1.2.2.1).bind fun u7=>
     some ((u7.1.1,()),((u7.2.1.1,u7.2.1.2.1,u7.2.1.2.2.1,()),())))
    (some ((u5.1.1.1,()),((u6.2.1.1,u6.2.1.2.1,u6.2.1.2.2.1,()),()))))
   ((Av 12 u4.2.1.1 u4.2.1.2.1 u4.2.1.2.2.1).bind fun u8=>
   cond (u8.1.1)
    ((NR u1.1.1 [[32],[48],[120],[57],[35],[97,100,100],[101,49,46,49]] u8.2.1.1 u8.2.1.2.1 u8.2.1.2.2.1).bind fun u9=>
    some ((u9.1.1,()),((u9.2.1.1,u9.2.1.2.1,u9.2.1.2.2.1,()),())))
   (some ((u1.1.1,()),((u8.2.1.1,u8.2.1.2.1,u8.2.1.2.2.1,()),())))))
  ((Av 12 u2.2.1.1 u2.2.1.2.1 u2.2.1.2.2.1).bind fun EJ=>
  cond (EJ.1.1)
   ((NR u1.1.1 [[32],[48],[120],[57],[35],[97,100,100],[101,49,46,49]] EJ.2.1.1 EJ.2.1.2.1 EJ.2.1.2.2.1).bind fun FY=>
   some ((FY.1.1,()),((FY.2.1.1,FY.2.1.2.1,FY.2.1.2.2.1,()),())))
  (some ((u1.1.1,()),((EJ.2.1.1,EJ.2.1.2.1,EJ.2.1.2.2.1,()),())))))
 ((Av 12 u2.2.1.1 u2.2.1.2.1 u2.2.1.2.2.1).bind fun Jq=>
 cond (Jq.1.1)
  ((NR u1.1.1 [[32],[48],[120],[57],[35],[97,100,100],[101,49,46,49]] Jq.2.1.1 Jq.2.1.2.1 Jq.2.1.2.2.1).bind fun L0=>
  some ((L0.1.1,()),((L0.2.1.1,L0.2.1.2.1,L0.2.1.2.2.1,()),())))
 (some ((u1.1.1,()),((Jq.2.1.1,Jq.2.1.2.1,Jq.2.1.2.2.1,()),()))))
abbrev lN:Type:=AIe×AD8
def N7(p0:AAO):Option lN:=
 (iM p0).bind fun u1=>
 (I9 p0 u1.2.1.1 u1.2.1.2.1 u1.2.1.2.2.1).bind fun u2=>
 let x3:AAr:=u2.2.2.2.2.2.2.2.2.2.1
 (RJ (u2.2.2.1,u2.1.1.2.1,u2.2.2.2.1,u2.2.2.2.2.1,u2.2.2.2.2.2.1,u2.1.1.2.2.2.2.2.1,u2.2.2.2.2.2.2.1,u2.2.2.2.2.2.2.2.1,u2.2.2.2.2.2.2.2.2.1,x3,u2.1.1.2.2.2.2.2.2.2.2.2.2.1,()) u2.2.1.1 u2.2.1.2.1 u2.2.1.2.2.1).bind fun u4=>
 some (((((),u2.1.1.2.1,(),(),(),u2.1.1.2.2.2.2.2.1,(),(),(),(),u2.1.1.2.2.2.2.2.2.2.2.2.2.1,()),u4.1.1,()),()),(u2.2.2.1,u2.2.2.2.1,u2.2.2.2.2.1,u2.2.2.2.2.2.1,u2.2.2.2.2.2.2.1,u2.2.2.2.2.2.2.2.1,u2.2.2.2.2.2.2.2.2.1,x3,()))
abbrev ZI:Type:=ABw×Unit
abbrev WZ:Type:=List Int->List Int->Int->Option ZI
def Zi(R4:WZ)(t0 t1:AAO)(t5:Int):Option ZI:=
 cond ((decide (t5<(t0.length:Int))))
  (if(0:Int)<=t5/\t5<(t0.length:Int)then(
  if(0:Int)<=t5/\t5<(t1.length:Int)then(
  cond ((t0.getD (t5.toNat) 0) !=(t1.getD (t5.toNat) 0))
   (some ((false,()),()))
  (R4 t0 t1 (AQ (t5+1))))else none)else none)
 (some ((true,()),()))
def M_:Nat->WZ
 |0=>default
 |n+1=>Zi (M_ n)
def Z6(R4:WZ)(p0 p1:AAO):Option ZI:=
 cond (((p0.length:Int) !=(p1.length:Int)))
  (some ((false,()),()))
 (R4 p0 p1 0)
def Xn:=Z6 (M_ AU)
abbrev VO:Type:=ABw×Unit
abbrev S2:Type:=ADi->ADi->Int->Option VO
def WL(R4:S2)(t0 t1:ADi)(t5:Int):Option VO:=
 cond ((decide (t5<(t0.length:Int))))
  (if(0:Int)<=t5/\t5<(t0.length:Int)then(
  if(0:Int)<=t5/\t5<(t1.length:Int)then(
  cond ((!((((t0.getD (t5.toNat) (0,0,[],())).1)==((t1.getD (t5.toNat) (0,0,[],())).1))&&((((t0.getD (t5.toNat) (0,0,[],())).2.1)==((t1.getD (t5.toNat) (0,0,[],())).2.1))&&((((t0.getD (t5.toNat) (0,0,[],())).2.2.1)==((t1.getD (t5.toNat) (0,0,[],())).2.2.1))&&true)))))
   (some ((false,()),()))
  (R4 t0 t1 (AQ (t5+1))))else none)else none)
 (some ((true,()),()))
def Kf:Nat->S2
 |0=>default
 |n+1=>WL (Kf n)
def WA(R4:S2)(p0 p1:ADi):Option VO:=
 cond (((p0.length:Int) !=(p1.length:Int)))
  (some ((false,()),()))
 (R4 p0 p1 0)
def Od:=WA (Kf AU)
abbrev kp:Type:=ABw×Unit
def VH(p0:AAO):Option kp:=
 (xg p0).bind fun u1=>
 cond (u1.1.1)
  (some ((true,()),()))
 ((N7 p0).bind fun u2=>
 (DB (u2.2.1,u2.1.1.1.2.1,u2.2.2.1,u2.2.2.2.1,u2.2.2.2.2.1,u2.1.1.1.2.2.2.2.2.1,u2.2.2.2.2.2.1,u2.2.2.2.2.2.2.1,u2.2.2.2.2.2.2.2.1,u2.2.2.2.2.2.2.2.2.1,u2.1.1.1.2.2.2.2.2.2.2.2.2.2.1,()) u2.1.1.2.1).bind fun u3=>
 (My (u2.2.1,u2.1.1.1.2.1,u2.2.2.1,u2.2.2.2.1,u2.2.2.2.2.1,u2.1.1.1.2.2.2.2.2.1,u2.2.2.2.2.2.1,u2.2.2.2.2.2.2.1,u2.2.2.2.2.2.2.2.1,u2.2.2.2.2.2.2.2.2.1,u2.1.1.1.2.2.2.2.2.2.2.2.2.2.1,()) u2.1.1.2.1).bind fun u4=>
 cond ((!(u3.1.1.2.1==u4.1.1.2.1)))
  (some ((false,()),()))
 ((GZ (u2.2.1,u2.1.1.1.2.1,u2.2.2.1,u2.2.2.2.1,u2.2.2.2.2.1,u2.1.1.1.2.2.2.2.2.1,u2.2.2.2.2.2.1,u2.2.2.2.2.2.2.1,u2.2.2.2.2.2.2.2.1,u2.2.2.2.2.2.2.2.2.1,u2.1.1.1.2.2.2.2.2.2.2.2.2.2.1,())).bind fun u6=>
 cond (!u6.1.1)
  (some (((u3.1.1.2.1==[98,97,100]),()),()))
 (cond ((!(u3.1.1.2.1==[111,107])))
  (cond ((u3.2.2.2.2.2.2.2.2.1.length:Int) !=(u2.2.2.2.2.2.2.2.2.1.length:Int))
   (some ((false,()),()))
  ((Xn u3.2.2.2.1 u2.2.2.2.1).bind fun FY=>
  cond (!FY.1.1)
   (some ((false,()),()))
  (if(0:Int)<=(0:Int)/\(0:Int)<(u3.2.2.2.2.2.2.2.1.length:Int)then(
  if(0:Int)<=(0:Int)/\(0:Int)<(u2.2.2.2.2.2.2.2.1.length:Int)then(
  (Od ((u3.2.2.2.2.2.2.2.1.getD 0 (0,0,[],())).2.2.1) ((u2.2.2.2.2.2.2.2.1.getD 0 (0,0,[],())).2.2.1)).bind fun Jq=>
  cond (!Jq.1.1)
   (some ((false,()),()))
  ((DB (u2.2.1,u2.1.1.1.2.1,u2.2.2.1,u2.2.2.2.1,u2.2.2.2.2.1,u2.1.1.1.2.2.2.2.2.1,u2.2.2.2.2.2.1,u2.2.2.2.2.2.2.1,u2.2.2.2.2.2.2.2.1,u2.2.2.2.2.2.2.2.2.1,u2.1.1.1.2.2.2.2.2.2.2.2.2.2.1,()) [111,117,116,32,48]).bind fun L0=>
  (DB (u2.2.1,u2.1.1.1.2.1,u2.2.2.1,u2.2.2.2.1,u2.2.2.2.2.1,u2.1.1.1.2.2.2.2.2.1,u2.2.2.2.2.2.1,u2.2.2.2.2.2.2.1,u2.2.2.2.2.2.2.2.1,u2.2.2.2.2.2.2.2.2.1,u2.1.1.1.2.2.2.2.2.2.2.2.2.2.1,()) [106,117,100,103,101]).bind fun jR=>
  if(0:Int)<=(0:Int)/\(0:Int)<(u2.2.2.2.2.2.2.2.1.length:Int)then(
  let x17:Int:=(((u2.2.2.2.2.2.2.2.1.getD 0 (0,0,[],())).2.2.1).length:Int)
  (L5 (u2.2.1,u2.1.1.1.2.1,u2.2.2.1,u2.2.2.2.1,u2.2.2.2.2.1,u2.1.1.1.2.2.2.2.2.1,u2.2.2.2.2.2.1,u2.2.2.2.2.2.2.1,u2.2.2.2.2.2.2.2.1,u2.2.2.2.2.2.2.2.2.1,u2.1.1.1.2.2.2.2.2.2.2.2.2.2.1,())).bind fun cz=>
  cond ((jR.1.1.2.1==[121,101,115])==cz.1.1)
   (cond (x17==0)
    (cond ((L0.1.1.2.1==[110,111,110,101]))
     (some ((true,()),()))
    (cond (decide (x17>0))
     (if(0:Int)<=(0:Int)/\(0:Int)<(u2.2.2.2.2.2.2.2.1.length:Int)then(
     if(0:Int)<=AQ (x17-1)/\AQ (x17-1)<(((u2.2.2.2.2.2.2.2.1.getD 0 (0,0,[],())).2.2.1).length:Int)then(
     (EX ((((u2.2.2.2.2.2.2.2.1.getD 0 (0,0,[],())).2.2.1).getD ((AQ (x17-1)).toNat) (0,0,[],())).1,(((u2.2.2.2.2.2.2.2.1.getD 0 (0,0,[],())).2.2.1).getD ((AQ (x17-1)).toNat) (0,0,[],())).2.1,(((u2.2.2.2.2.2.2.2.1.getD 0 (0,0,[],())).2.2.1).getD ((AQ (x17-1)).toNat) (0,0,[],())).2.2.1,())).bind fun et=>
     some (((L0.1.1.2.1==et.1.1),()),()))else none)else none)
    (some ((false,()),()))))
   (cond (decide (x17>0))
    (if(0:Int)<=(0:Int)/\(0:Int)<(u2.2.2.2.2.2.2.2.1.length:Int)then(
    if(0:Int)<=AQ (x17-1)/\AQ (x17-1)<(((u2.2.2.2.2.2.2.2.1.getD 0 (0,0,[],())).2.2.1).length:Int)then(
    (EX ((((u2.2.2.2.2.2.2.2.1.getD 0 (0,0,[],())).2.2.1).getD ((AQ (x17-1)).toNat) (0,0,[],())).1,(((u2.2.2.2.2.2.2.2.1.getD 0 (0,0,[],())).2.2.1).getD ((AQ (x17-1)).toNat) (0,0,[],())).2.1,(((u2.2.2.2.2.2.2.2.1.getD 0 (0,0,[],())).2.2.1).getD ((AQ (x17-1)).toNat) (0,0,[],())).2.2.1,())).bind fun dD=>
    some (((L0.1.1.2.1==dD.1.1),()),()))else none)else none)
   (some ((false,()),()))))
  (some ((false,()),())))else none))else none)else none)))
 ((DB (u2.2.1,u2.1.1.1.2.1,u2.2.2.1,u2.2.2.2.1,u2.2.2.2.2.1,u2.1.1.1.2.2.2.2.2.1,u2.2.2.2.2.2.1,u2.2.2.2.2.2.2.1,u2.2.2.2.2.2.2.2.1,u2.2.2.2.2.2.2.2.2.1,u2.1.1.1.2.2.2.2.2.2.2.2.2.2.1,()) [111,117,116,32,48]).bind fun bA=>
 (DB (u2.2.1,u2.1.1.1.2.1,u2.2.2.1,u2.2.2.2.1,u2.2.2.2.2.1,u2.1.1.1.2.2.2.2.2.1,u2.2.2.2.2.2.1,u2.2.2.2.2.2.2.1,u2.2.2.2.2.2.2.2.1,u2.2.2.2.2.2.2.2.2.1,u2.1.1.1.2.2.2.2.2.2.2.2.2.2.1,()) [106,117,100,103,101]).bind fun qO=>
 if(0:Int)<=(0:Int)/\(0:Int)<(u2.2.2.2.2.2.2.2.1.length:Int)then(
 let nL:Int:=(((u2.2.2.2.2.2.2.2.1.getD 0 (0,0,[],())).2.2.1).length:Int)
 (L5 (u2.2.1,u2.1.1.1.2.1,u2.2.2.1,u2.2.2.2.1,u2.2.2.2.2.1,u2.1.1.1.2.2.2.2.2.1,u2.2.2.2.2.2.1,u2.2.2.2.2.2.2.1,u2.2.2.2.2.2.2.2.1,u2.2.2.2.2.2.2.2.2.1,u2.1.1.1.2.2.2.2.2.2.2.2.2.2.1,())).bind fun qI=>
 cond ((qO.1.1.2.1==[121,101,115])==qI.1.1)
  (cond (nL==0)
   (cond ((bA.1.1.2.1==[110,111,110,101]))
    (some ((true,()),()))
   (cond (decide (nL>0))
    (if(0:Int)<=(0:Int)/\(0:Int)<(u2.2.2.2.2.2.2.2.1.length:Int)then(
    if(0:Int)<=AQ (nL-1)/\AQ (nL-1)<(((u2.2.2.2.2.2.2.2.1.getD 0 (0,0,[],())).2.2.1).length:Int)then(
    (EX ((((u2.2.2.2.2.2.2.2.1.getD 0 (0,0,[],())).2.2.1).getD ((AQ (nL-1)).toNat) (0,0,[],())).1,(((u2.2.2.2.2.2.2.2.1.getD 0 (0,0,[],())).2.2.1).getD ((AQ (nL-1)).toNat) (0,0,[],())).2.1,(((u2.2.2.2.2.2.2.2.1.getD 0 (0,0,[],())).2.2.1).getD ((AQ (nL-1)).toNat) (0,0,[],())).2.2.1,())).bind fun ks=>
    some (((bA.1.1.2.1==ks.1.1),()),()))else none)else none)
   (some ((false,()),()))))
  (cond (decide (nL>0))
   (if(0:Int)<=(0:Int)/\(0:Int)<(u2.2.2.2.2.2.2.2.1.length:Int)then(
   if(0:Int)<=AQ (nL-1)/\AQ (nL-1)<(((u2.2.2.2.2.2.2.2.1.getD 0 (0,0,[],())).2.2.1).length:Int)then(
   (EX ((((u2.2.2.2.2.2.2.2.1.getD 0 (0,0,[],())).2.2.1).getD ((AQ (nL-1)).toNat) (0,0,[],())).1,(((u2.2.2.2.2.2.2.2.1.getD 0 (0,0,[],())).2.2.1).getD ((AQ (nL-1)).toNat) (0,0,[],())).2.1,(((u2.2.2.2.2.2.2.2.1.getD 0 (0,0,[],())).2.2.1).getD ((AQ (nL-1)).toNat) (0,0,[],())).2.2.1,())).bind fun u35=>
   some (((bA.1.1.2.1==u35.1.1),()),()))else none)else none)
  (some ((false,()),()))))
 (some ((false,()),())))else none))))
end
end Go.M
