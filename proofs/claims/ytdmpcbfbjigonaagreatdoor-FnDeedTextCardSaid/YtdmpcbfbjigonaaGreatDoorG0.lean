/- What each function computes, printed by a program out of the translation; what is printed is checked in the equations. -/
import Derived.Test.YtdmpcbfbjigonaaGreatDoorF1
set_option linter.unusedVariables false
set_option linter.unusedSimpArgs false
set_option linter.unusedSectionVars false
namespace Go.M
open Go.Fw
noncomputable section
abbrev iI:Type:=ABH×Unit
def aa(p0:AAQ):Option iI:=
 some (((decide ((p0.length:Int)>1048576)),()),())
abbrev Nn:Type:=ABQ×ABU
abbrev QU:Type:=List Int→Int→Int→Option Nn
def Qv(R3:QU)(t0:AAQ)(t3 t4:Int):Option Nn:=
 cond ((decide (t4<(t0.length:Int))))
  (cond (decide (t4<4000))
   (if(0:Int)≤t4∧t4<(t0.length:Int)then(
   R3 t0 (T4 .i64 (AX ((AX ((AX (t3*131))+(AX ((t0.getD (t4.toNat) 0)))))+7)) 1073741823) (AX (t4+1)))else none)
  (some (((),()),((t0,0,t3,()),()))))
 (some (((),()),((t0,0,t3,()),())))
def JZ:Nat→QU
 |0=>fun _ _ _=>none
 |n+1=>Qv (JZ n)
def Q0(R3:QU)(p0:AAQ):Option Nn:=
 R3 p0 (AX (17817+(p0.length:Int))) 0
def Ob(p0:AAQ):Option Nn:=Q0 (JZ Ar) p0
abbrev bQ:Type:=ABO×ABU
def HE(AM:AAQ)(AO AU:Int):Option bQ:=
 let x2:Int:=AX ((AX (AU*6364136223846793005))+1442695040888963407)
 let x3:Int:=wv .i64 (x2.fdiv (2^33)) (x2.fdiv (2^45))
 cond ((decide (AO<(AM.length:Int))))
  (if(0:Int)≤AO∧AO<(AM.length:Int)then(
  some ((T4 .i64 (AX ((T4 .i64 x3 255)+(AX ((AM.getD (AO.toNat) 0))))) 255,()),((AM,AX (AO+1),x2,()),())))else none)
 (some ((T4 .i64 x3 255,()),((AM,AO,x2,()),())))
abbrev ZD:Type:=ABO×ABU
def AL(p1:Int)(AM:AAQ)(AO AU:Int):Option ZD:=
 cond (decide (p1≤0))
  (some ((0,()),((AM,AO,AU,()),())))
 (cond (decide (p1≤256))
  ((HE AM AO AU).bind fun u1=>
  if p1=0 then none else(
  some ((u1.1.1.tmod p1,()),((u1.2.1.1,u1.2.1.2.1,u1.2.1.2.2.1,()),()))))
 ((HE AM AO AU).bind fun u2=>
 (HE u2.2.1.1 u2.2.1.2.1 u2.2.1.2.2.1).bind fun u3=>
 (HE u3.2.1.1 u3.2.1.2.1 u3.2.1.2.2.1).bind fun u4=>
 (HE u4.2.1.1 u4.2.1.2.1 u4.2.1.2.2.1).bind fun u5=>
 if p1=0 then none else(
 some ((((AX ((AX ((AX ((AX (u2.1.1*16777216))+(AX (u3.1.1*65536))))+(AX (u4.1.1*256))))+u5.1.1)).tmod p1),()),((u5.2.1.1,u5.2.1.2.1,u5.2.1.2.2.1,()),())))))
abbrev bJ:Type:=ABH×ABU
def Al(p1:Int)(AM:AAQ)(AO AU:Int):Option bJ:=
 (AL p1 AM AO AU).bind fun u1=>
 some ((u1.1.1==0,()),((u1.2.1.1,u1.2.1.2.1,u1.2.1.2.2.1,()),()))
abbrev HX:Type:=(AB8×Unit)×ACe
abbrev JS:Type:=Int→Int→List Int→Int→Int→Int→List Int→Int→List Int→Option HX
def LO(R4:JS)(t4 t5:Int)(AM:AAQ)(AO AU BK:Int)(b2:AAQ)(dL:Int)(b4:AAQ):Option HX:=
 cond (decide (t5<t4))
  ((AL 5 AM AO AU).bind fun u3=>
  if b4.length+1≤Cg then(
  R4 t4 (AX (t5+1)) u3.2.1.1 u3.2.1.2.1 u3.2.1.2.2.1 BK b2 dL (b4++[u3.1.1]))else none)
 ((Al 2 AM AO AU).bind fun u5=>
 cond (u5.1.1)
  (some ((((),2,()),()),((u5.2.1.1,u5.2.1.2.1,u5.2.1.2.2.1,()),b4,())))
 (some ((((),dL,()),()),((u5.2.1.1,u5.2.1.2.1,u5.2.1.2.2.1,()),b4,()))))
def El:Nat→JS
 |0=>fun _ _ _ _ _ _ _ _ _=>none
 |n+1=>LO (El n)
def LG(R4:JS)(AM:AAQ)(AO AU:Int):Option HX:=
 (AL 3 AM AO AU).bind fun u1=>
 (AL 5 u1.2.1.1 u1.2.1.2.1 u1.2.1.2.2.1).bind fun u2=>
 R4 (AX (3+u2.1.1)) 0 u2.2.1.1 u2.2.1.2.1 u2.2.1.2.2.1 0 [] (AX (1+u1.1.1)) []
def JK(AM:AAQ)(AO AU:Int):Option HX:=LG (El Ar) AM AO AU
abbrev W5:Type:=ABO×ABU
def Ca(p1 AM:AAQ)(AO AU:Int):Option W5:=
 (AL (p1.length:Int) AM AO AU).bind fun u1=>
 if(0:Int)≤u1.1.1∧u1.1.1<(p1.length:Int)then(
 some (((p1.getD (u1.1.1.toNat) 0),()),((u1.2.1.1,u1.2.1.2.1,u1.2.1.2.2.1,()),())))else none
abbrev bZ:Type:=ABH×Unit
def KL(p0 p1 p2:Int):Option bZ:=
 cond (decide (p0≥p1))
  (some ((decide (p0≤p2),()),()))
 (some ((false,()),()))
abbrev Yz:Type:=ABH×Unit
def Kj(p0:Int):Option Yz:=
 (KL p0 1 30).bind fun u1=>
 some ((u1.1.1,()),())
abbrev dx:Type:=ABH×Unit
def Oi(p0:Int):Option dx:=
 (KL p0 1 60).bind fun u1=>
 some ((u1.1.1,()),())
abbrev ZB:Type:=ABH×Unit
def HT(p0:Int):Option ZB:=
 (Kj (AX (p0.tdiv 4294967296))).bind fun u2=>
 cond (u2.1.1)
  ((Oi (p0.tmod 4294967296)).bind fun u3=>
  some ((u3.1.1,()),()))
 (some ((false,()),()))
abbrev bL:Type:=ABH×Unit
def Pl(p0:AAh):Option bL:=
 some (((decide ((p0.length:Int)≤40)),()),())
abbrev ZE:Type:=ABO×Unit
def OB(p0:Int):Option ZE:=
 (HT p0).bind fun u1=>
 cond (!u1.1.1)
  (some ((0,()),()))
 (some (((AX (p0.tdiv 4294967296)),()),()))
abbrev dB:Type:=ABO×Unit
def Rt(p0:Int):Option dB:=
 (HT p0).bind fun u1=>
 cond (!u1.1.1)
  (some ((0,()),()))
 (some ((p0.tmod 4294967296,()),()))
abbrev e_:Type:=ABH×Unit
def BE(p0 p1 p2:Int):Option e_:=
 cond (decide (p0≥p1))
  (some ((decide (p0≤p2),()),()))
 (some ((false,()),()))
abbrev Jw:Type:=ABH×Unit
abbrev L8:Type:=Int→List Int→Int→Option Jw
def Nf(R4:L8)(t3:Int)(AM:AAQ)(AO:Int):Option Jw:=
 cond ((decide (t3<(AM.length:Int))))
  (if(0:Int)≤t3∧t3<(AM.length:Int)then(
  (BE (AM.getD (t3.toNat) 0) 0 7).bind fun u5=>
  cond (!u5.1.1)
   (some ((false,()),()))
  (R4 (AX (t3+1)) AM AO))else none)
 (some ((true,()),()))
def HA:Nat→L8
 |0=>fun _ _ _=>none
 |n+1=>Nf (HA n)
def Na(R4:L8)(p0:ABD):Option Jw:=
 (BE (p0.1.length:Int) 1 8).bind fun u1=>
 cond (!u1.1.1)
  (some ((false,()),()))
 ((BE p0.2.1 1 4).bind fun u2=>
 cond (!u2.1.1)
  (some ((false,()),()))
 (R4 0 p0.1 p0.2.1))
def DT(p0:ABD):Option Jw:=Na (HA Ar) p0
abbrev Z8:Type:=ABR×Unit
def I1(p0:Int):Option Z8:=
 cond (p0==8)
  (some (([],()),()))
 (cond (p0==10)
  (some (([],()),()))
 (cond (p0==12)
  (some (([],()),()))
 (cond (p0==2)
  (some (([65,84],()),()))
 (cond (p0==3)
  (some (([65,66,67],()),()))
 (cond (p0==5)
  (some (([65,66],()),()))
 (cond (p0==14)
  (some (([65,66],()),()))
 (cond (p0==11)
  (some (([66,67],()),()))
 (cond (p0==13)
  (some (([80],()),()))
 (some (([65],()),()))))))))))
abbrev Jh:Type:=ABH×Unit
abbrev PO:Type:=Int→Int→Int→Int→Int→Int→List UInt8→Int→Int→Int→Int→List UInt8→List Int→Option Jh
def Bw(R4:PO)(t12 t13 AM AO AU Bz:Int)(CB:AAh)(B4 BK DB Dj:Int)(FO:AAh)(b2:AAQ):Option Jh:=
 cond (decide (t13<t12))
  (if(0:Int)≤t13∧t13<(b2.length:Int)then(
  let x3:Int:=(b2.getD (t13.toNat) 0)
  cond (x3==65)
   (R4 t12 (AX (t13+1)) AM AO AU Bz CB B4 0 DB Dj FO b2)
  (cond (x3==80)
   (R4 t12 (AX (t13+1)) AM AO AU Bz CB B4 0 DB Dj FO b2)
  (cond (x3==66)
   (R4 t12 (AX (t13+1)) AM AO AU Bz CB B4 BK 0 Dj FO b2)
  (cond (x3==67)
   (R4 t12 (AX (t13+1)) AM AO AU Bz CB B4 BK DB 0 FO b2)
  (cond (x3==84)
   (R4 t12 (AX (t13+1)) AM AO AU Bz CB B4 BK DB Dj [] b2)
  (R4 t12 (AX (t13+1)) AM AO AU Bz CB B4 BK DB Dj FO b2))))))else none)
 ((KL AM 1 16).bind fun u4=>
 cond (u4.1.1)
  (cond (((B4==0)&&((BK==0)&&((DB==0)&&((Dj==0)&&((FO==[])&&true))))))
   ((Pl CB).bind fun u6=>
   some ((u6.1.1,()),()))
  (some ((false,()),())))
 (some ((false,()),())))
def CD:Nat→PO
 |0=>fun _ _ _ _ _ _ _ _ _ _ _ _ _=>none
 |n+1=>Bw (CD n)
def PU(R4:PO)(p0:ABJ):Option Jh:=
 (I1 p0.1).bind fun u1=>
 if u1.1.1.length≤Cg then(
 let x2:AAQ:=(u1.1.1.map fun c=>(c.toNat:Int))
 R4 (x2.length:Int) 0 p0.1 p0.2.1 p0.2.2.1 p0.2.2.2.1 p0.2.2.2.2.1 0 p0.2.1 p0.2.2.1 p0.2.2.2.1 p0.2.2.2.2.1 x2)else none
def Mn(p0:ABJ):Option Jh:=PU (CD Ar) p0
abbrev WH:Type:=ABv×Unit
def K_(p0 p1:Int):Option WH:=
 (Kj p0).bind fun u1=>
 cond (!u1.1.1)
  (some (((0,false,()),()),()))
 ((Oi p1).bind fun u2=>
 cond (!u2.1.1)
  (some (((0,false,()),()),()))
 (some (((AX ((AX (4294967296*p0))+p1),true,()),()),())))
abbrev N1:Type:=ABH×Unit
abbrev QO:Type:=List Int→Int→Int→Int→Option N1
def L_(R2:QO)(t0:AAQ)(t1 t2 t7:Int):Option N1:=
 cond ((decide (t7<(t0.length:Int))))
  (if(0:Int)≤t7∧t7<(t0.length:Int)then(
  (BE (t0.getD (t7.toNat) 0) t1 t2).bind fun u3=>
  cond (!u3.1.1)
   (some ((false,()),()))
  (cond (decide (t7>0))
   (if(0:Int)≤AX (t7-1)∧AX (t7-1)<(t0.length:Int)then(
   if(0:Int)≤t7∧t7<(t0.length:Int)then(
   cond (decide ((t0.getD ((AX (t7-1)).toNat) 0)≥(t0.getD (t7.toNat) 0)))
    (some ((false,()),()))
   (R2 t0 t1 t2 (AX (t7+1))))else none)else none)
  (R2 t0 t1 t2 (AX (t7+1)))))else none)
 (some ((true,()),()))
def Hq:Nat→QO
 |0=>fun _ _ _ _=>none
 |n+1=>L_ (Hq n)
def Q9(R2:QO)(p0:AAQ)(p1 p2:Int):Option N1:=
 R2 p0 p1 p2 0
def On(p0:AAQ)(p1 p2:Int):Option N1:=Q9 (Hq Ar) p0 p1 p2
abbrev ZF:Type:=ABH×Unit
def DX(p0:ABD)(p1:AAQ):Option ZF:=
 (DT (p0.1,p0.2.1,())).bind fun u1=>
 cond (u1.1.1)
  ((On p1 0 (AX ((p0.1.length:Int)-1))).bind fun u3=>
  some ((u3.1.1,()),()))
 (some ((false,()),()))
abbrev MH:Type:=ABO×Unit
abbrev O2:Type:=List Int→Int→Int→List Int→Int→List Bool→Option MH
def P7(R4:O2)(t1:AAQ)(t6 t7:Int)(AM:AAQ)(AO:Int)(b1:List Bool):Option MH:=
 cond ((decide (t7<(t1.length:Int))))
  (if(0:Int)≤t7∧t7<(t1.length:Int)then(
  let x3:Int:=(t1.getD (t7.toNat) 0)
  if(0:Int)≤x3∧x3<(AM.length:Int)then(
  let x4:Int:=(AM.getD (x3.toNat) 0)
  if(0:Int)≤x4∧x4<(b1.length:Int)then(
  cond (!(b1.getD (x4.toNat) false))
   (if(0:Int)≤x4∧x4<(b1.length:Int)then(
   R4 t1 (AX (t6+1)) (AX (t7+1)) AM AO (b1.set (x4.toNat) true))else none)
  (R4 t1 t6 (AX (t7+1)) AM AO b1))else none)else none)else none)
 (some ((t6,()),()))
def Iw:Nat→O2
 |0=>fun _ _ _ _ _ _=>none
 |n+1=>P7 (Iw n)
def Pz(R4:O2)(p0:ABD)(p1:AAQ):Option MH:=
 R4 p1 0 0 p0.1 p0.2.1 (List.replicate 8 false)
def Me(p0:ABD)(p1:AAQ):Option MH:=Pz (Iw Ar) p0 p1
abbrev V6:Type:=ABH×Unit
def Cr(p0:ABD)(p1:AAQ):Option V6:=
 (DX (p0.1,p0.2.1,()) p1).bind fun u1=>
 cond (u1.1.1)
  ((Me (p0.1,p0.2.1,()) p1).bind fun u2=>
  some (((decide (u2.1.1≥p0.2.1)),()),()))
 (some ((false,()),()))
abbrev WK:Type:=ACj×ACE
def Oh:Option WK:=
 some (((1,1,(),()),()),([],()))
abbrev YL:Type:=((AB0×Bool×Unit)×Unit)×ABV
def D9(p0:ABD):Option YL:=
 (DT (p0.1,p0.2.1,())).bind fun u1=>
 cond (!u1.1.1)
  (some (((((),0,(),(),(),0,(),(),(),(),false,()),false,()),()),([],[],[],[],[],[],[],[],())))
 (if 0+p0.1.length≤Cg then(
 if(0:Int)≤(p0.1.length:Int)∧(p0.1.length:Int)≤(p0.1.length:Int)∧(p0.1.length:Int)≤(Cg:Int)then(
 (Oh).bind fun u3=>
 (Oh).bind fun u4=>
 some (((((),p0.2.1,(),(),(),0,(),(),(),(),false,()),true,()),()),(p0.1,(List.replicate ((p0.1.length:Int).toNat) ([],[],0,())),[],[],[],[],[(u3.1.1.1,u3.1.1.2.1,u3.2.1,()),(u4.1.1.1,u4.1.1.2.1,u4.2.1,())],[],())))else none)else none)
abbrev dY:Type:=ABO×Unit
def HM(p0 p1:Int):Option dY:=
 cond (decide (p0>p1))
  (some ((p0,()),()))
 (some ((p1,()),()))
abbrev DW:Type:=ABH×Unit
abbrev QW:Type:=List Int→Int→Int→Option DW
def Q5(R2:QW)(t0:AAQ)(t1 t5:Int):Option DW:=
 cond ((decide (t5<(t0.length:Int))))
  (if(0:Int)≤t5∧t5<(t0.length:Int)then(
  cond ((t0.getD (t5.toNat) 0)==t1)
   (some ((true,()),()))
  (R2 t0 t1 (AX (t5+1))))else none)
 (some ((false,()),()))
def Ja:Nat→QW
 |0=>fun _ _ _=>none
 |n+1=>Q5 (Ja n)
def Qg(R2:QW)(p0:AAQ)(p1:Int):Option DW:=
 R2 p0 p1 0
def Bu(p0:AAQ)(p1:Int):Option DW:=Qg (Ja Ar) p0 p1
abbrev Nw:Type:=ABQ×ABd
abbrev QR:Type:=List Int→Int→Bool→Int→List Int→Option Nw
def Lw(R4:QR)(t0:AAQ)(t1:Int)(t6:Bool)(t7:Int)(b0:AAQ):Option Nw:=
 cond ((decide (t7<(t0.length:Int))))
  (cond (!t6)
   (if(0:Int)≤t7∧t7<(t0.length:Int)then(
   cond (decide ((t0.getD (t7.toNat) 0)>t1))
    (if b0.length+1≤Cg then(
    if(0:Int)≤t7∧t7<(t0.length:Int)then(
    if(b0++[t1]).length+1≤Cg then(
    R4 t0 t1 true (AX (t7+1)) ((b0++[t1])++[(t0.getD (t7.toNat) 0)]))else none)else none)else none)
   (if(0:Int)≤t7∧t7<(t0.length:Int)then(
   if b0.length+1≤Cg then(
   R4 t0 t1 t6 (AX (t7+1)) (b0++[(t0.getD (t7.toNat) 0)]))else none)else none))else none)
  (if(0:Int)≤t7∧t7<(t0.length:Int)then(
  if b0.length+1≤Cg then(
  R4 t0 t1 t6 (AX (t7+1)) (b0++[(t0.getD (t7.toNat) 0)]))else none)else none))
 (cond (!t6)
  (if b0.length+1≤Cg then(
  some (((),()),(b0++[t1],())))else none)
 (some (((),()),(b0,()))))
def Ge:Nat→QR
 |0=>fun _ _ _ _ _=>none
 |n+1=>Lw (Ge n)
def Q6(R4:QR)(p0:AAQ)(p1:Int):Option Nw:=
 (Bu p0 p1).bind fun u1=>
 R4 p0 p1 u1.1.1 0 []
def HP(p0:AAQ)(p1:Int):Option Nw:=Q6 (Ge Ar) p0 p1
abbrev Hf:Type:=ABQ×ACe
abbrev JR:Type:=Int→Int→List Int→Int→Int→List Int→Int→List Int→Option Hf
def K0(R4:JR)(t6 t7:Int)(AM:AAQ)(AO AU:Int)(B4:AAQ)(BK:Int)(b2:AAQ):Option Hf:=
 cond (decide (t7<t6))
  ((HM (B4.length:Int) 1).bind fun u3=>
  (AL u3.1.1 AM AO AU).bind fun u4=>
  (HP b2 u4.1.1).bind fun u5=>
  R4 t6 (AX (t7+1)) u4.2.1.1 u4.2.1.2.1 u4.2.1.2.2.1 B4 BK u5.2.1)
 ((Al 20 AM AO AU).bind fun u6=>
 cond (u6.1.1)
  ((Ca [(-1),0,(B4.length:Int)] u6.2.1.1 u6.2.1.2.1 u6.2.1.2.2.1).bind fun u7=>
  if b2.length+1≤Cg then(
  some (((),()),((u7.2.1.1,u7.2.1.2.1,u7.2.1.2.2.1,()),b2++[u7.1.1],())))else none)
 (some (((),()),((u6.2.1.1,u6.2.1.2.1,u6.2.1.2.2.1,()),b2,()))))
def Eo:Nat→JR
 |0=>fun _ _ _ _ _ _ _ _=>none
 |n+1=>K0 (Eo n)
def Kl(R4:JR)(p1:ABD)(AM:AAQ)(AO AU:Int):Option Hf:=
 (AL (AX ((p1.1.length:Int)+2)) AM AO AU).bind fun u2=>
 R4 u2.1.1 0 u2.2.1.1 u2.2.1.2.1 u2.2.1.2.2.1 p1.1 p1.2.1 []
def JC(p1:ABD)(AM:AAQ)(AO AU:Int):Option Hf:=Kl (Eo Ar) p1 AM AO AU
abbrev I9:Type:=ABQ×ACe
abbrev Kb:Type:=Int→List Int→Int→Int→List Int→Int→List Int→Option I9
def Mo(R3:Kb)(t6:Int)(AM:AAQ)(AO AU:Int)(B4:AAQ)(BK:Int)(b2:AAQ):Option I9:=
 cond ((decide (t6<(B4.length:Int))))
  ((Cr (B4,BK,()) b2).bind fun u3=>
  cond (!u3.1.1)
   ((HP b2 t6).bind fun u4=>
   R3 (AX (t6+1)) AM AO AU B4 BK u4.2.1)
  (some (((),()),((AM,AO,AU,()),b2,()))))
 (some (((),()),((AM,AO,AU,()),b2,())))
def GO:Nat→Kb
 |0=>fun _ _ _ _ _ _ _=>none
 |n+1=>Mo (GO n)
def Mh(R3:Kb)(p1:ABD)(AM:AAQ)(AO AU:Int):Option I9:=
 (JC (p1.1,p1.2.1,()) AM AO AU).bind fun u1=>
 R3 0 u1.2.1.1 u1.2.1.2.1 u1.2.1.2.2.1 p1.1 p1.2.1 u1.2.2.1
def Gy(p1:ABD)(AM:AAQ)(AO AU:Int):Option I9:=Mh (GO Ar) p1 AM AO AU
abbrev JG:Type:=ABO×Unit
abbrev LS:Type:=List Int→Int→Int→Option JG
def M1(R5:LS)(t0:AAQ)(t3 t4:Int):Option JG:=
 cond ((decide (t4<(t0.length:Int))))
  (if(0:Int)≤t4∧t4<(t0.length:Int)then(
  let x3:Int:=(t0.getD (t4.toNat) 0)
  if x3<0 then none else(
  R5 t0 (bOr .i64 t3 (AX (1*2^(min x3.toNat 64)))) (AX (t4+1))))else none)
 (some ((t3,()),()))
def GC:Nat→LS
 |0=>fun _ _ _=>none
 |n+1=>M1 (GC n)
def Ms(R5:LS)(p0:AAQ):Option JG:=
 (On p0 0 7).bind fun u1=>
 cond (!u1.1.1)
  (some (((-1),()),()))
 (R5 p0 0 0)
def Gq(p0:AAQ):Option JG:=Ms (GC Ar) p0
abbrev I4:Type:=ABO×Unit
abbrev K7:Type:=Int→AAY→Int→Option I4
def Iu(R2:K7)(t3:Int)(AM:AAY)(AO:Int):Option I4:=
 cond ((decide (t3<(AM.length:Int))))
  (if(0:Int)≤t3∧t3<(AM.length:Int)then(
  cond (!((AM.getD (t3.toNat) ([],false,0,())).2.1))
   (some ((AX (t3+1),()),()))
  (R2 (AX (t3+1)) AM AO))else none)
 (some ((0,()),()))
def EU:Nat→K7
 |0=>fun _ _ _=>none
 |n+1=>Iu (EU n)
def Mj(R2:K7)(p0:ABK):Option I4:=
 R2 0 p0.1 p0.2.1
def FY(p0:ABK):Option I4:=Mj (EU Ar) p0
abbrev Dp:Type:=ABQ×ABd
def BW(p0:ABK)(p1:Int):Option Dp:=
 (BE p1 1 (p0.1.length:Int)).bind fun u1=>
 cond (!u1.1.1)
  (some (((),()),([],())))
 (if(0:Int)≤AX (p1-1)∧AX (p1-1)<(p0.1.length:Int)then(
 if 0+((p0.1.getD ((AX (p1-1)).toNat) ([],false,0,())).1).length≤Cg then(
 some (((),()),(((p0.1.getD ((AX (p1-1)).toNat) ([],false,0,())).1),())))else none)else none)
abbrev HO:Type:=ABh×ABU
abbrev Is:Type:=Int→Int→Int→List Int→Int→Int→List Int→Int→AAX→List Int→AAY→Int→AA9→AA_→ABA→AA8→Bool→Int→Int→Int→Int→List UInt8→Int→Int→List Int→ABB→Bool→List AAQ→Option HO
def KV(ks:Is)(t7 t8 t9:Int)(AM:AAQ)(AO AU:Int)(B4:AAQ)(BK:Int)(DB:AAX)(Dj:AAQ)(FO:AAY)(Ds:Int)(vh:AA9)(yQ:AA_)(zT:ABA)(wV:AA8)(EJ:Bool)(ay kN yV vn:Int)(j5:AAh)(lT dL:Int)(xM:AAQ)(xl:ABB)(zE:Bool)(lR:List AAQ):Option HO:=
 cond ((decide (t9<(lR.length:Int))))
  (if(0:Int)≤t9∧t9<(lR.length:Int)then(
  (Cr (B4,BK,()) (lR.getD (t9.toNat) [])).bind fun oE=>
  cond (!oE.1.1)
   ((Al 3 AM AO AU).bind fun QX=>
   cond (!QX.1.1)
    (ks t7 (AX (t9+1)) (AX (t9+1)) QX.2.1.1 QX.2.1.2.1 QX.2.1.2.2.1 B4 BK DB Dj FO Ds vh yQ zT wV EJ ay kN yV vn j5 lT dL xM xl zE lR)
   (ks t7 t8 (AX (t9+1)) QX.2.1.1 QX.2.1.2.1 QX.2.1.2.2.1 B4 BK DB Dj FO Ds vh yQ zT wV EJ ay kN yV vn j5 lT dL xM xl zE lR))
  (ks t7 t8 (AX (t9+1)) AM AO AU B4 BK DB Dj FO Ds vh yQ zT wV EJ ay kN yV vn j5 lT dL xM xl zE lR))else none)
 (some (((11,0,t8,t7,[],()),()),((AM,AO,AU,()),())))
def DH:Nat→Is
 |0=>fun _ _ _ _ _ _ _ _ _ _ _ _ _ _ _ _ _ _ _ _ _ _ _ _ _ _ _ _=>none
 |n+1=>KV (DH n)
def Kv(ks:Is)(p1:List Int×Int×List ABG×List Int×List ABL×Int×List ABF×List ABE×List ABI×List ABN×Bool×Unit)(AM:AAQ)(AO AU:Int):Option HO:=
 cond ((p1.2.2.2.2.2.2.2.1.length:Int)==0)
  (some (((8,0,0,0,[],()),()),((AM,AO,AU,()),())))
 (if(0:Int)≤(0:Int)∧(0:Int)<(p1.2.2.2.2.2.2.2.1.length:Int)then(
 (BW (p1.2.2.2.2.1,p1.2.2.2.2.2.1,()) ((p1.2.2.2.2.2.2.2.1.getD 0 (0,0,[],[],false,[],())).2.1)).bind fun u3=>
 (AL (u3.2.1.length:Int) AM AO AU).bind fun u5=>
 if(0:Int)≤u5.1.1∧u5.1.1<(u3.2.1.length:Int)then(
 let x6:Int:=(u3.2.1.getD (u5.1.1.toNat) 0)
 cond (!((p1.2.2.2.2.2.2.2.1.getD 0 (0,0,[],[],false,[],())).2.2.2.2.1))
  ((Al 4 u5.2.1.1 u5.2.1.2.1 u5.2.1.2.2.1).bind fun u8=>
  cond (u8.1.1)
   (some (((10,0,0,0,[],()),()),((u8.2.1.1,u8.2.1.2.1,u8.2.1.2.2.1,()),())))
  (cond (!((p1.2.2.2.2.2.2.2.1.getD 0 (0,0,[],[],false,[],())).2.2.2.2.1))
   (some (((9,x6,0,0,[],()),()),((u8.2.1.1,u8.2.1.2.1,u8.2.1.2.2.1,()),())))
  ((Al 6 u8.2.1.1 u8.2.1.2.1 u8.2.1.2.2.1).bind fun Ft=>
  cond (Ft.1.1)
   (some (((12,0,0,0,[],()),()),((Ft.2.1.1,Ft.2.1.2.1,Ft.2.1.2.2.1,()),())))
  ((Al 3 Ft.2.1.1 Ft.2.1.2.1 Ft.2.1.2.2.1).bind fun Fm=>
  cond (Fm.1.1)
   (some (((4,x6,0,0,[],()),()),((Fm.2.1.1,Fm.2.1.2.1,Fm.2.1.2.2.1,()),())))
  ((HM (((p1.2.2.2.2.2.2.2.1.getD 0 (0,0,[],[],false,[],())).2.2.2.2.2.1).length:Int) 1).bind fun T5=>
  (AL T5.1.1 Fm.2.1.1 Fm.2.1.2.1 Fm.2.1.2.2.1).bind fun NM=>
  ks x6 (AX (1+NM.1.1)) 0 NM.2.1.1 NM.2.1.2.1 NM.2.1.2.2.1 p1.1 p1.2.1 p1.2.2.1 p1.2.2.2.1 p1.2.2.2.2.1 p1.2.2.2.2.2.1 p1.2.2.2.2.2.2.1 p1.2.2.2.2.2.2.2.1 p1.2.2.2.2.2.2.2.2.1 p1.2.2.2.2.2.2.2.2.2.1 p1.2.2.2.2.2.2.2.2.2.2.1 0 0 0 0 [] ((p1.2.2.2.2.2.2.2.1.getD 0 (0,0,[],[],false,[],())).1) ((p1.2.2.2.2.2.2.2.1.getD 0 (0,0,[],[],false,[],())).2.1) ((p1.2.2.2.2.2.2.2.1.getD 0 (0,0,[],[],false,[],())).2.2.1) ((p1.2.2.2.2.2.2.2.1.getD 0 (0,0,[],[],false,[],())).2.2.2.1) ((p1.2.2.2.2.2.2.2.1.getD 0 (0,0,[],[],false,[],())).2.2.2.2.1) ((p1.2.2.2.2.2.2.2.1.getD 0 (0,0,[],[],false,[],())).2.2.2.2.2.1))))))
 (cond (!((p1.2.2.2.2.2.2.2.1.getD 0 (0,0,[],[],false,[],())).2.2.2.2.1))
  (some (((9,x6,0,0,[],()),()),((u5.2.1.1,u5.2.1.2.1,u5.2.1.2.2.1,()),())))
 ((Al 6 u5.2.1.1 u5.2.1.2.1 u5.2.1.2.2.1).bind fun u16=>
 cond (u16.1.1)
  (some (((12,0,0,0,[],()),()),((u16.2.1.1,u16.2.1.2.1,u16.2.1.2.2.1,()),())))
 ((Al 3 u16.2.1.1 u16.2.1.2.1 u16.2.1.2.2.1).bind fun RG=>
 cond (RG.1.1)
  (some (((4,x6,0,0,[],()),()),((RG.2.1.1,RG.2.1.2.1,RG.2.1.2.2.1,()),())))
 ((HM (((p1.2.2.2.2.2.2.2.1.getD 0 (0,0,[],[],false,[],())).2.2.2.2.2.1).length:Int) 1).bind fun WA=>
 (AL WA.1.1 RG.2.1.1 RG.2.1.2.1 RG.2.1.2.2.1).bind fun Tv=>
 ks x6 (AX (1+Tv.1.1)) 0 Tv.2.1.1 Tv.2.1.2.1 Tv.2.1.2.2.1 p1.1 p1.2.1 p1.2.2.1 p1.2.2.2.1 p1.2.2.2.2.1 p1.2.2.2.2.2.1 p1.2.2.2.2.2.2.1 p1.2.2.2.2.2.2.2.1 p1.2.2.2.2.2.2.2.2.1 p1.2.2.2.2.2.2.2.2.2.1 p1.2.2.2.2.2.2.2.2.2.2.1 0 0 0 0 [] ((p1.2.2.2.2.2.2.2.1.getD 0 (0,0,[],[],false,[],())).1) ((p1.2.2.2.2.2.2.2.1.getD 0 (0,0,[],[],false,[],())).2.1) ((p1.2.2.2.2.2.2.2.1.getD 0 (0,0,[],[],false,[],())).2.2.1) ((p1.2.2.2.2.2.2.2.1.getD 0 (0,0,[],[],false,[],())).2.2.2.1) ((p1.2.2.2.2.2.2.2.1.getD 0 (0,0,[],[],false,[],())).2.2.2.2.1) ((p1.2.2.2.2.2.2.2.1.getD 0 (0,0,[],[],false,[],())).2.2.2.2.2.1))))))else none)else none)
def G4(p1:List Int×Int×List ABG×List Int×List ABL×Int×List ABF×List ABE×List ABI×List ABN×Bool×Unit)(AM:AAQ)(AO AU:Int):Option HO:=Kv (DH Ar) p1 AM AO AU
abbrev bS:Type:=ABR×ABU
def DI(p1:List AAh)(AM:AAQ)(AO AU:Int):Option bS:=
 (AL (p1.length:Int) AM AO AU).bind fun u1=>
 if(0:Int)≤u1.1.1∧u1.1.1<(p1.length:Int)then(
 some (((p1.getD (u1.1.1.toNat) []),()),((u1.2.1.1,u1.2.1.2.1,u1.2.1.2.2.1,()),())))else none
abbrev dS:Type:=ABO×Unit
def HV(p0 p1:Int):Option dS:=
 cond (decide (p0<p1))
  (some ((p0,()),()))
 (some ((p1,()),()))
abbrev T7:Type:=ABh×ABU
def Da(p1:List Int×Int×List ABG×List Int×List ABL×Int×List ABF×List ABE×List ABI×List ABN×Bool×Unit)(AM:AAQ)(AO AU:Int):Option T7:=
 (AL (p1.2.2.2.2.2.2.1.length:Int) AM AO AU).bind fun u2=>
 (Al 3 u2.2.1.1 u2.2.1.2.1 u2.2.1.2.2.1).bind fun u3=>
 cond (!u3.1.1)
  (let x4:Int:=(p1.2.2.2.2.2.2.1.length:Int)
  if(0:Int)≤AX (x4-1)∧AX (x4-1)<(p1.2.2.2.2.2.2.1.length:Int)then(
  (BW (p1.2.2.2.2.1,p1.2.2.2.2.2.1,()) ((p1.2.2.2.2.2.2.1.getD ((AX (x4-1)).toNat) (0,[],())).1)).bind fun u6=>
  (AL (u6.2.1.length:Int) u3.2.1.1 u3.2.1.2.1 u3.2.1.2.2.1).bind fun u8=>
  if(0:Int)≤u8.1.1∧u8.1.1<(u6.2.1.length:Int)then(
  let x9:Int:=(u6.2.1.getD (u8.1.1.toNat) 0)
  let x10:Int:=(((p1.2.2.2.2.2.2.1.getD ((AX (x4-1)).toNat) (0,[],())).2.1).length:Int)
  cond (x10==0)
   ((DI [[],[97],[98,99],[100]] u8.2.1.1 u8.2.1.2.1 u8.2.1.2.2.1).bind fun Fm=>
   some (((2,AX (x4-1),0,0,Fm.1.1,()),()),((Fm.2.1.1,Fm.2.1.2.1,Fm.2.1.2.2.1,()),())))
  ((Al 7 u8.2.1.1 u8.2.1.2.1 u8.2.1.2.2.1).bind fun Ox=>
  cond (Ox.1.1)
   ((DI [[],[97],[98,99],[100]] Ox.2.1.1 Ox.2.1.2.1 Ox.2.1.2.2.1).bind fun T5=>
   some (((2,AX (x4-1),0,0,T5.1.1,()),()),((T5.2.1.1,T5.2.1.2.1,T5.2.1.2.2.1,()),())))
  ((Al 3 Ox.2.1.1 Ox.2.1.2.1 Ox.2.1.2.2.1).bind fun NM=>
  cond (NM.1.1)
   (some (((4,x9,0,0,[],()),()),((NM.2.1.1,NM.2.1.2.1,NM.2.1.2.2.1,()),())))
  ((HV x10 3).bind fun mh=>
  (AL mh.1.1 NM.2.1.1 NM.2.1.2.1 NM.2.1.2.2.1).bind fun u16=>
  some (((3,AX (x4-1),AX (x10-u16.1.1),x9,[],()),()),((u16.2.1.1,u16.2.1.2.1,u16.2.1.2.2.1,()),()))))))else none)else none)
 (if(0:Int)≤u2.1.1∧u2.1.1<(p1.2.2.2.2.2.2.1.length:Int)then(
 (BW (p1.2.2.2.2.1,p1.2.2.2.2.2.1,()) ((p1.2.2.2.2.2.2.1.getD (u2.1.1.toNat) (0,[],())).1)).bind fun fA=>
 (AL (fA.2.1.length:Int) u3.2.1.1 u3.2.1.2.1 u3.2.1.2.2.1).bind fun Tv=>
 if(0:Int)≤Tv.1.1∧Tv.1.1<(fA.2.1.length:Int)then(
 let x21:Int:=(fA.2.1.getD (Tv.1.1.toNat) 0)
 let x22:Int:=(((p1.2.2.2.2.2.2.1.getD (u2.1.1.toNat) (0,[],())).2.1).length:Int)
 cond (x22==0)
  ((DI [[],[97],[98,99],[100]] Tv.2.1.1 Tv.2.1.2.1 Tv.2.1.2.2.1).bind fun QX=>
  some (((2,u2.1.1,0,0,QX.1.1,()),()),((QX.2.1.1,QX.2.1.2.1,QX.2.1.2.2.1,()),())))
 ((Al 7 Tv.2.1.1 Tv.2.1.2.1 Tv.2.1.2.2.1).bind fun YY=>
 cond (YY.1.1)
  ((DI [[],[97],[98,99],[100]] YY.2.1.1 YY.2.1.2.1 YY.2.1.2.2.1).bind fun bG=>
  some (((2,u2.1.1,0,0,bG.1.1,()),()),((bG.2.1.1,bG.2.1.2.1,bG.2.1.2.2.1,()),())))
 ((Al 3 YY.2.1.1 YY.2.1.2.1 YY.2.1.2.2.1).bind fun ai=>
 cond (ai.1.1)
  (some (((4,x21,0,0,[],()),()),((ai.2.1.1,ai.2.1.2.1,ai.2.1.2.2.1,()),())))
 ((HV x22 3).bind fun jN=>
 (AL jN.1.1 ai.2.1.1 ai.2.1.2.1 ai.2.1.2.2.1).bind fun UY=>
 some (((3,u2.1.1,AX (x22-UY.1.1),x21,[],()),()),((UY.2.1.1,UY.2.1.2.1,UY.2.1.2.2.1,()),()))))))else none)else none)
abbrev Uk:Type:=ABh×ABU
def FK(p1:List Int×Int×List ABG×List Int×List ABL×Int×List ABF×List ABE×List ABI×List ABN×Bool×Unit)(AM:AAQ)(AO AU:Int):Option Uk:=
 cond ((p1.2.2.2.2.2.2.1.length:Int)==0)
  ((Gy (p1.1,p1.2.1,()) AM AO AU).bind fun u3=>
  (Gq u3.2.2.1).bind fun u4=>
  some (((1,u4.1.1,0,0,[],()),()),((u3.2.1.1,u3.2.1.2.1,u3.2.1.2.2.1,()),())))
 ((Al 30 AM AO AU).bind fun u5=>
 cond (u5.1.1)
  ((Gy (p1.1,p1.2.1,()) u5.2.1.1 u5.2.1.2.1 u5.2.1.2.2.1).bind fun u6=>
  (Gq u6.2.2.1).bind fun u7=>
  some (((1,u7.1.1,0,0,[],()),()),((u6.2.1.1,u6.2.1.2.1,u6.2.1.2.2.1,()),())))
 ((AL (p1.2.2.1.length:Int) u5.2.1.1 u5.2.1.2.1 u5.2.1.2.2.1).bind fun u8=>
 (AL 44 u8.2.1.1 u8.2.1.2.1 u8.2.1.2.2.1).bind fun u9=>
 cond (u9.1.1==0)
  ((AL 16 u9.2.1.1 u9.2.1.2.1 u9.2.1.2.2.1).bind fun Ft=>
  some (((5,u8.1.1,Ft.1.1,0,[],()),()),((Ft.2.1.1,Ft.2.1.2.1,Ft.2.1.2.2.1,()),())))
 (cond (u9.1.1==1)
  (cond ((p1.2.2.2.1.length:Int)==0)
   (some (((6,u8.1.1,0,0,[],()),()),((u9.2.1.1,u9.2.1.2.1,u9.2.1.2.2.1,()),())))
  ((Al 12 u9.2.1.1 u9.2.1.2.1 u9.2.1.2.2.1).bind fun Ox=>
  cond (Ox.1.1)
   (some (((6,u8.1.1,0,0,[],()),()),((Ox.2.1.1,Ox.2.1.2.1,Ox.2.1.2.2.1,()),())))
  (if(0:Int)≤(0:Int)∧(0:Int)<(p1.2.2.2.1.length:Int)then(
  some (((7,(p1.2.2.2.1.getD 0 0),0,0,[],()),()),((Ox.2.1.1,Ox.2.1.2.1,Ox.2.1.2.2.1,()),())))else none)))
 (cond (u9.1.1==2)
  ((AL (p1.2.2.2.2.2.2.1.length:Int) u9.2.1.1 u9.2.1.2.1 u9.2.1.2.2.1).bind fun mh=>
  some (((15,mh.1.1,0,0,[],()),()),((mh.2.1.1,mh.2.1.2.1,mh.2.1.2.2.1,()),())))
 (cond (u9.1.1==3)
  ((Al 3 u9.2.1.1 u9.2.1.2.1 u9.2.1.2.2.1).bind fun u16=>
  cond (u16.1.1)
   (cond (decide ((p1.2.2.2.2.2.2.2.2.2.1.length:Int)>0))
    ((AL (p1.2.2.2.2.2.2.2.2.2.1.length:Int) u16.2.1.1 u16.2.1.2.1 u16.2.1.2.2.1).bind fun WA=>
    if(0:Int)≤WA.1.1∧WA.1.1<(p1.2.2.2.2.2.2.2.2.2.1.length:Int)then(
    some (((13,((p1.2.2.2.2.2.2.2.2.2.1.getD (WA.1.1.toNat) (0,[],false,())).1),0,0,[],()),()),((WA.2.1.1,WA.2.1.2.1,WA.2.1.2.2.1,()),())))else none)
   (some (((16,u8.1.1,0,0,[],()),()),((u16.2.1.1,u16.2.1.2.1,u16.2.1.2.2.1,()),()))))
  (some (((16,u8.1.1,0,0,[],()),()),((u16.2.1.1,u16.2.1.2.1,u16.2.1.2.2.1,()),()))))
 (cond (u9.1.1==4)
  ((Al 2 u9.2.1.1 u9.2.1.2.1 u9.2.1.2.2.1).bind fun Yh=>
  cond (Yh.1.1)
   ((AL 256 Yh.2.1.1 Yh.2.1.2.1 Yh.2.1.2.2.1).bind fun oE=>
   (AL 2 oE.2.1.1 oE.2.1.2.1 oE.2.1.2.2.1).bind fun QX=>
   some (((14,QX.1.1,oE.1.1,0,[],()),()),((QX.2.1.1,QX.2.1.2.1,QX.2.1.2.2.1,()),())))
  ((AL 2 Yh.2.1.1 Yh.2.1.2.1 Yh.2.1.2.2.1).bind fun YY=>
  some (((14,YY.1.1,255,0,[],()),()),((YY.2.1.1,YY.2.1.2.1,YY.2.1.2.2.1,()),()))))
 (cond (u9.1.1==5)
  ((Al 2 u9.2.1.1 u9.2.1.2.1 u9.2.1.2.2.1).bind fun bG=>
  cond (bG.1.1)
   ((AL 256 bG.2.1.1 bG.2.1.2.1 bG.2.1.2.2.1).bind fun ai=>
   (AL 2 ai.2.1.1 ai.2.1.2.1 ai.2.1.2.2.1).bind fun jN=>
   some (((14,jN.1.1,ai.1.1,0,[],()),()),((jN.2.1.1,jN.2.1.2.1,jN.2.1.2.2.1,()),())))
  ((AL 2 bG.2.1.1 bG.2.1.2.1 bG.2.1.2.2.1).bind fun UY=>
  some (((14,UY.1.1,255,0,[],()),()),((UY.2.1.1,UY.2.1.2.1,UY.2.1.2.2.1,()),()))))
 (cond (u9.1.1==6)
  ((Al 2 u9.2.1.1 u9.2.1.2.1 u9.2.1.2.2.1).bind fun lx=>
  cond (lx.1.1)
   ((AL 256 lx.2.1.1 lx.2.1.2.1 lx.2.1.2.2.1).bind fun bK=>
   (AL 2 bK.2.1.1 bK.2.1.2.1 bK.2.1.2.2.1).bind fun u31=>
   some (((14,u31.1.1,bK.1.1,0,[],()),()),((u31.2.1.1,u31.2.1.2.1,u31.2.1.2.2.1,()),())))
  ((AL 2 lx.2.1.1 lx.2.1.2.1 lx.2.1.2.2.1).bind fun u32=>
  some (((14,u32.1.1,255,0,[],()),()),((u32.2.1.1,u32.2.1.2.1,u32.2.1.2.2.1,()),()))))
 (cond (u9.1.1==7)
  ((Al 2 u9.2.1.1 u9.2.1.2.1 u9.2.1.2.2.1).bind fun Yb=>
  cond (Yb.1.1)
   ((AL 256 Yb.2.1.1 Yb.2.1.2.1 Yb.2.1.2.2.1).bind fun u34=>
   (AL 2 u34.2.1.1 u34.2.1.2.1 u34.2.1.2.2.1).bind fun u35=>
   some (((14,u35.1.1,u34.1.1,0,[],()),()),((u35.2.1.1,u35.2.1.2.1,u35.2.1.2.2.1,()),())))
  ((AL 2 Yb.2.1.1 Yb.2.1.2.1 Yb.2.1.2.2.1).bind fun vP=>
  some (((14,vP.1.1,255,0,[],()),()),((vP.2.1.1,vP.2.1.2.1,vP.2.1.2.2.1,()),()))))
 (cond (u9.1.1==8)
  ((Al 2 u9.2.1.1 u9.2.1.2.1 u9.2.1.2.2.1).bind fun lu=>
  cond (lu.1.1)
   ((AL 256 lu.2.1.1 lu.2.1.2.1 lu.2.1.2.2.1).bind fun vT=>
   (AL 2 vT.2.1.1 vT.2.1.2.1 vT.2.1.2.2.1).bind fun vK=>
   some (((14,vK.1.1,vT.1.1,0,[],()),()),((vK.2.1.1,vK.2.1.2.1,vK.2.1.2.2.1,()),())))
  ((AL 2 lu.2.1.1 lu.2.1.2.1 lu.2.1.2.2.1).bind fun u40=>
  some (((14,u40.1.1,255,0,[],()),()),((u40.2.1.1,u40.2.1.2.1,u40.2.1.2.2.1,()),()))))
 (cond (decide ((p1.2.2.2.2.1.length:Int)>1))
  ((FY (p1.2.2.2.2.1,p1.2.2.2.2.2.1,())).bind fun u43=>
  cond ((decide (u43.1.1<(p1.2.2.2.2.1.length:Int))))
   ((Al 3 u9.2.1.1 u9.2.1.2.1 u9.2.1.2.2.1).bind fun yw=>
   cond (!yw.1.1)
    ((G4 (p1.1,p1.2.1,p1.2.2.1,p1.2.2.2.1,p1.2.2.2.2.1,p1.2.2.2.2.2.1,p1.2.2.2.2.2.2.1,p1.2.2.2.2.2.2.2.1,p1.2.2.2.2.2.2.2.2.1,p1.2.2.2.2.2.2.2.2.2.1,p1.2.2.2.2.2.2.2.2.2.2.1,()) yw.2.1.1 yw.2.1.2.1 yw.2.1.2.2.1).bind fun um=>
    some (((um.1.1.1,um.1.1.2.1,um.1.1.2.2.1,um.1.1.2.2.2.1,um.1.1.2.2.2.2.1,()),()),((um.2.1.1,um.2.1.2.1,um.2.1.2.2.1,()),())))
   ((Da (p1.1,p1.2.1,p1.2.2.1,p1.2.2.2.1,p1.2.2.2.2.1,p1.2.2.2.2.2.1,p1.2.2.2.2.2.2.1,p1.2.2.2.2.2.2.2.1,p1.2.2.2.2.2.2.2.2.1,p1.2.2.2.2.2.2.2.2.2.1,p1.2.2.2.2.2.2.2.2.2.2.1,()) yw.2.1.1 yw.2.1.2.1 yw.2.1.2.2.1).bind fun XM=>
   some (((XM.1.1.1,XM.1.1.2.1,XM.1.1.2.2.1,XM.1.1.2.2.2.1,XM.1.1.2.2.2.2.1,()),()),((XM.2.1.1,XM.2.1.2.1,XM.2.1.2.2.1,()),()))))
  ((Da (p1.1,p1.2.1,p1.2.2.1,p1.2.2.2.1,p1.2.2.2.2.1,p1.2.2.2.2.2.1,p1.2.2.2.2.2.2.1,p1.2.2.2.2.2.2.2.1,p1.2.2.2.2.2.2.2.2.1,p1.2.2.2.2.2.2.2.2.2.1,p1.2.2.2.2.2.2.2.2.2.2.1,()) u9.2.1.1 u9.2.1.2.1 u9.2.1.2.2.1).bind fun vV=>
  some (((vV.1.1.1,vV.1.1.2.1,vV.1.1.2.2.1,vV.1.1.2.2.2.1,vV.1.1.2.2.2.2.1,()),()),((vV.2.1.1,vV.2.1.2.1,vV.2.1.2.2.1,()),()))))
 ((Da (p1.1,p1.2.1,p1.2.2.1,p1.2.2.2.1,p1.2.2.2.2.1,p1.2.2.2.2.2.1,p1.2.2.2.2.2.2.1,p1.2.2.2.2.2.2.2.1,p1.2.2.2.2.2.2.2.2.1,p1.2.2.2.2.2.2.2.2.2.1,p1.2.2.2.2.2.2.2.2.2.2.1,()) u9.2.1.1 u9.2.1.2.1 u9.2.1.2.2.1).bind fun uu=>
 some (((uu.1.1.1,uu.1.1.2.1,uu.1.1.2.2.1,uu.1.1.2.2.2.1,uu.1.1.2.2.2.2.1,()),()),((uu.2.1.1,uu.2.1.2.1,uu.2.1.2.2.1,()),()))))))))))))))
abbrev aX:Type:=ABH×Unit
def C8(p0:Int):Option aX:=
 cond (decide (p0>0))
  ((BE (AX (p0.tdiv 4294967296)) 1 30).bind fun u2=>
  cond (u2.1.1)
   ((BE (p0.tmod 4294967296) 1 60).bind fun u3=>
   some ((u3.1.1,()),()))
  (some ((false,()),())))
 (some ((false,()),()))
abbrev EG:Type:=ABO×Unit
def Bd(p0:Int):Option EG:=
 (C8 p0).bind fun u1=>
 cond (!u1.1.1)
  (some ((0,()),()))
 (some (((AX (p0.tdiv 4294967296)),()),()))
abbrev ZQ:Type:=ABH×Unit
def HQ(p0:ABW):Option ZQ:=
 (C8 p0.1).bind fun u1=>
 cond (!u1.1.1)
  (some ((false,()),()))
 ((BE p0.2.1 0 30).bind fun u2=>
 cond (!u2.1.1)
  (some ((false,()),()))
 (cond (decide (p0.2.1>0))
  ((Bd p0.1).bind fun u3=>
  cond ((decide (p0.2.1≤u3.1.1)))
   (some ((false,()),()))
  (cond (decide ((p0.2.2.2.1.length:Int)>40))
   (some ((false,()),()))
  (cond (!p0.2.2.1)
   (some ((true,()),()))
  (cond (decide (p0.2.1>0))
   (some ((p0.2.2.2.1==[],()),()))
  (some ((false,()),()))))))
 (cond (decide ((p0.2.2.2.1.length:Int)>40))
  (some ((false,()),()))
 (cond (!p0.2.2.1)
  (some ((true,()),()))
 (cond (decide (p0.2.1>0))
  (some ((p0.2.2.2.1==[],()),()))
 (some ((false,()),())))))))
abbrev MD:Type:=ABH×Unit
abbrev PN:Type:=ABB→Int→Option MD
def LK(R4:PN)(t0:ABB)(t5:Int):Option MD:=
 cond ((decide (t5<(t0.length:Int))))
  (if(0:Int)≤t5∧t5<(t0.length:Int)then(
  (HQ ((t0.getD (t5.toNat) (0,0,false,[],())).1,(t0.getD (t5.toNat) (0,0,false,[],())).2.1,(t0.getD (t5.toNat) (0,0,false,[],())).2.2.1,(t0.getD (t5.toNat) (0,0,false,[],())).2.2.2.1,())).bind fun u3=>
  cond (!u3.1.1)
   (some ((false,()),()))
  (R4 t0 (AX (t5+1))))else none)
 (some ((true,()),()))
def Gt:Nat→PN
 |0=>fun _ _=>none
 |n+1=>LK (Gt n)
def P_(R4:PN)(p0:ABB)(p1:Int):Option MD:=
 cond ((decide ((p0.length:Int)>p1)))
  (some ((false,()),()))
 (R4 p0 0)
def Mf(p0:ABB)(p1:Int):Option MD:=P_ (Gt Ar) p0 p1
abbrev N4:Type:=ABH×Unit
abbrev QJ:Type:=ABB→Int→Option N4
def I5(R2:QJ)(t0:ABB)(t3:Int):Option N4:=
 cond ((decide (t3<(t0.length:Int))))
  (if(0:Int)≤AX (t3-1)∧AX (t3-1)<(t0.length:Int)then(
  if(0:Int)≤t3∧t3<(t0.length:Int)then(
  cond (decide (((t0.getD ((AX (t3-1)).toNat) (0,0,false,[],())).1)≥((t0.getD (t3.toNat) (0,0,false,[],())).1)))
   (some ((false,()),()))
  (R2 t0 (AX (t3+1))))else none)else none)
 (some ((true,()),()))
def DU:Nat→QJ
 |0=>fun _ _=>none
 |n+1=>I5 (DU n)
def Qo(R2:QJ)(p0:ABB):Option N4:=
 R2 p0 1
def Oz(p0:ABB):Option N4:=Qo (DU Ar) p0
abbrev Z1:Type:=ABH×Unit
def De(p0:ABG):Option Z1:=
 (Mf p0.1 200).bind fun u1=>
 cond (u1.1.1)
  ((Mf p0.2.1 20).bind fun u2=>
  cond (u2.1.1)
   ((Oz p0.1).bind fun u3=>
   cond (u3.1.1)
    ((BE p0.2.2.1 0 30).bind fun u4=>
    some ((u4.1.1,()),()))
   (some ((false,()),())))
  (some ((false,()),())))
 (some ((false,()),()))
abbrev Zk:Type:=ABH×Unit
def Rn(p0:ABG):Option Zk:=
 cond (((p0.1.length:Int)==0))
  (cond ((p0.2.1.length:Int)==0)
   (some ((p0.2.2.1==0,()),()))
  (some ((false,()),())))
 (some ((false,()),()))
abbrev Jo:Type:=ABH×Unit
abbrev MC:Type:=Int→List Int→Int→AAX→List Int→AAY→Int→AA9→AA_→ABA→AA8→Bool→Option Jo
def JV(R4:MC)(t3:Int)(AM:AAQ)(AO:Int)(AU:AAX)(Bz:AAQ)(CB:AAY)(Et:Int)(DD:AA9)(C4:AA_)(Ez:ABA)(FW:AA8)(DV:Bool):Option Jo:=
 cond ((decide (t3<(AU.length:Int))))
  (if(0:Int)≤t3∧t3<(AU.length:Int)then(
  (De ((AU.getD (t3.toNat) ([],[],0,())).1,(AU.getD (t3.toNat) ([],[],0,())).2.1,(AU.getD (t3.toNat) ([],[],0,())).2.2.1,())).bind fun u8=>
  cond (!u8.1.1)
   (some ((false,()),()))
  ((Bu Bz t3).bind fun u9=>
  cond (u9.1.1)
   (if(0:Int)≤t3∧t3<(AU.length:Int)then(
   (Rn ((AU.getD (t3.toNat) ([],[],0,())).1,(AU.getD (t3.toNat) ([],[],0,())).2.1,(AU.getD (t3.toNat) ([],[],0,())).2.2.1,())).bind fun Ft=>
   cond (!Ft.1.1)
    (some ((false,()),()))
   (R4 (AX (t3+1)) AM AO AU Bz CB Et DD C4 Ez FW DV))else none)
  (R4 (AX (t3+1)) AM AO AU Bz CB Et DD C4 Ez FW DV)))else none)
 (some ((true,()),()))
def FJ:Nat→MC
 |0=>fun _ _ _ _ _ _ _ _ _ _ _ _=>none
 |n+1=>JV (FJ n)
def NT(R4:MC)(p0:List Int×Int×List ABG×List Int×List ABL×Int×List ABF×List ABE×List ABI×List ABN×Bool×Unit):Option Jo:=
 (DT (p0.1,p0.2.1,())).bind fun u1=>
 cond (!u1.1.1)
  (some ((false,()),()))
 (cond (((p0.2.2.1.length:Int) !=(p0.1.length:Int)))
  (some ((false,()),()))
 ((DX (p0.1,p0.2.1,()) p0.2.2.2.1).bind fun u4=>
 cond (!u4.1.1)
  (some ((false,()),()))
 ((Cr (p0.1,p0.2.1,()) p0.2.2.2.1).bind fun u5=>
 cond (u5.1.1)
  (cond (!p0.2.2.2.2.2.2.2.2.2.2.1)
   (some ((false,()),()))
  (R4 0 p0.1 p0.2.1 p0.2.2.1 p0.2.2.2.1 p0.2.2.2.2.1 p0.2.2.2.2.2.1 p0.2.2.2.2.2.2.1 p0.2.2.2.2.2.2.2.1 p0.2.2.2.2.2.2.2.2.1 p0.2.2.2.2.2.2.2.2.2.1 p0.2.2.2.2.2.2.2.2.2.2.1))
 (R4 0 p0.1 p0.2.1 p0.2.2.1 p0.2.2.2.1 p0.2.2.2.2.1 p0.2.2.2.2.2.1 p0.2.2.2.2.2.2.1 p0.2.2.2.2.2.2.2.1 p0.2.2.2.2.2.2.2.2.1 p0.2.2.2.2.2.2.2.2.2.1 p0.2.2.2.2.2.2.2.2.2.2.1))))
def MI(p0:List Int×Int×List ABG×List Int×List ABL×Int×List ABF×List ABE×List ABI×List ABN×Bool×Unit):Option Jo:=NT (FJ Ar) p0
abbrev Km:Type:=ABH×Unit
abbrev QD:Type:=Int→Int→List Int→Int→AAY→Int→Option Km
def L0(R5:QD)(t5 t6:Int)(AM:AAQ)(AO:Int)(B4:AAY)(BK:Int):Option Km:=
 cond (decide (t6<t5))
  (if(0:Int)≤t6∧t6<(B4.length:Int)then(
  (Cr (AM,AO,()) ((B4.getD (t6.toNat) ([],false,0,())).1)).bind fun u6=>
  cond (!u6.1.1)
   (some ((false,()),()))
  ((BE ((B4.getD (t6.toNat) ([],false,0,())).2.2.1) 0 60).bind fun u8=>
  cond (!u8.1.1)
   (some ((false,()),()))
  (cond (!((B4.getD (t6.toNat) ([],false,0,())).2.1))
   (cond (((B4.getD (t6.toNat) ([],false,0,())).2.2.1) !=0)
    (some ((false,()),()))
   (cond (((B4.getD (t6.toNat) ([],false,0,())).2.1))
    (cond (t6==(AX (t5-1)))
     (some ((false,()),()))
    (cond (decide (t6>0))
     (if(0:Int)≤AX (t6-1)∧AX (t6-1)<(B4.length:Int)then(
     cond (!((B4.getD ((AX (t6-1)).toNat) ([],false,0,())).2.1))
      (some ((false,()),()))
     (R5 t5 (AX (t6+1)) AM AO B4 BK))else none)
    (R5 t5 (AX (t6+1)) AM AO B4 BK)))
   (R5 t5 (AX (t6+1)) AM AO B4 BK)))
  (cond (((B4.getD (t6.toNat) ([],false,0,())).2.1))
   (cond (t6==(AX (t5-1)))
    (some ((false,()),()))
   (cond (decide (t6>0))
    (if(0:Int)≤AX (t6-1)∧AX (t6-1)<(B4.length:Int)then(
    cond (!((B4.getD ((AX (t6-1)).toNat) ([],false,0,())).2.1))
     (some ((false,()),()))
    (R5 t5 (AX (t6+1)) AM AO B4 BK))else none)
   (R5 t5 (AX (t6+1)) AM AO B4 BK)))
  (R5 t5 (AX (t6+1)) AM AO B4 BK)))))else none)
 (some ((true,()),()))
def GX:Nat→QD
 |0=>fun _ _ _ _ _ _=>none
 |n+1=>L0 (GX n)
def Qs(R5:QD)(p0:ABD)(p1:ABK):Option Km:=
 (DT (p0.1,p0.2.1,())).bind fun u1=>
 cond (!u1.1.1)
  (some ((false,()),()))
 (cond ((decide ((p1.1.length:Int)>30)))
  (some ((false,()),()))
 (cond (p1.2.1 !=0)
  ((C8 p1.2.1).bind fun u3=>
  cond (!u3.1.1)
   (some ((false,()),()))
  ((Bd p1.2.1).bind fun u4=>
  cond ((decide (u4.1.1>(p1.1.length:Int))))
   (some ((false,()),()))
  (R5 (p1.1.length:Int) 0 p0.1 p0.2.1 p1.1 p1.2.1)))
 (R5 (p1.1.length:Int) 0 p0.1 p0.2.1 p1.1 p1.2.1)))
def HI(p0:ABD)(p1:ABK):Option Km:=Qs (GX Ar) p0 p1
abbrev Hk:Type:=ABH×Unit
abbrev L3:Type:=Int→Int→List Int→Int→Int→ABM→Option Hk
def NZ(R5:L3)(t5 t6:Int)(AM:AAQ)(AO B4:Int)(BK:ABM):Option Hk:=
 cond ((decide (t6<(BK.length:Int))))
  (if(0:Int)≤t6∧t6<(BK.length:Int)then(
  cond ((decide ((((BK.getD (t6.toNat) ([],[],false,())).1).length:Int)>40)))
   (some ((false,()),()))
  ((DX (AM,AO,()) ((BK.getD (t6.toNat) ([],[],false,())).2.1)).bind fun u7=>
  cond (!u7.1.1)
   (some ((false,()),()))
  ((Cr (AM,AO,()) ((BK.getD (t6.toNat) ([],[],false,())).2.1)).bind fun u9=>
  cond (u9.1.1 !=((BK.getD (t6.toNat) ([],[],false,())).2.2.1))
   (some ((false,()),()))
  (cond (!((BK.getD (t6.toNat) ([],[],false,())).2.2.1))
   (R5 (AX (t5+1)) (AX (t6+1)) AM AO B4 BK)
  (R5 t5 (AX (t6+1)) AM AO B4 BK)))))else none)
 (some ((decide (t5≤6),()),()))
def G5:Nat→L3
 |0=>fun _ _ _ _ _ _=>none
 |n+1=>NZ (G5 n)
def NU(R5:L3)(p0:ABD)(p1:ABF):Option Hk:=
 (DT (p0.1,p0.2.1,())).bind fun u1=>
 cond (!u1.1.1)
  (some ((false,()),()))
 ((BE p1.1 1 30).bind fun u2=>
 cond (!u2.1.1)
  (some ((false,()),()))
 (cond (decide ((p1.2.1.length:Int)>60))
  (some ((false,()),()))
 (R5 0 0 p0.1 p0.2.1 p1.1 p1.2.1)))
def D7(p0:ABD)(p1:ABF):Option Hk:=NU (G5 Ar) p0 p1
abbrev GN:Type:=ABO×Unit
def DY(p0:Int):Option GN:=
 (C8 p0).bind fun u1=>
 cond (!u1.1.1)
  (some ((0,()),()))
 (some ((p0.tmod 4294967296,()),()))
abbrev au:Type:=ABO×Unit
def KA(p0:ABE):Option au:=
 cond ((p0.2.2.2.1.length:Int)==0)
  (some ((0,()),()))
 (let x2:Int:=(p0.2.2.2.1.length:Int)
 if(0:Int)≤AX (x2-1)∧AX (x2-1)<(p0.2.2.2.1.length:Int)then(
 (DY ((p0.2.2.2.1.getD ((AX (x2-1)).toNat) (0,0,false,[],())).1)).bind fun u4=>
 some ((u4.1.1,()),()))else none)
abbrev Hu:Type:=ABH×Unit
abbrev LW:Type:=Int→List Int→Int→Int→Int→List Int→ABB→Bool→List AAQ→Option Hu
abbrev Kz:Type:=Int→List Int→Int→Int→Int→List Int→ABB→Bool→List AAQ→Option Hu
def K4(R4:LW)(R9:Kz)(t5:Int)(AM:AAQ)(AO B4 BK:Int)(DB:AAQ)(Dj:ABB)(FO:Bool)(Ds:List AAQ):Option Hu:=
 cond ((decide (t5<(Dj.length:Int))))
  (if(0:Int)≤t5∧t5<(Dj.length:Int)then(
  (HQ ((Dj.getD (t5.toNat) (0,0,false,[],())).1,(Dj.getD (t5.toNat) (0,0,false,[],())).2.1,(Dj.getD (t5.toNat) (0,0,false,[],())).2.2.1,(Dj.getD (t5.toNat) (0,0,false,[],())).2.2.2.1,())).bind fun u7=>
  cond (!u7.1.1)
   (some ((false,()),()))
  (if(0:Int)≤t5∧t5<(Dj.length:Int)then(
  (Bd ((Dj.getD (t5.toNat) (0,0,false,[],())).1)).bind fun u9=>
  cond (u9.1.1 !=BK)
   (some ((false,()),()))
  (if(0:Int)≤t5∧t5<(Dj.length:Int)then(
  cond (decide (((Dj.getD (t5.toNat) (0,0,false,[],())).2.1)≥B4))
   (some ((false,()),()))
  (R4 (AX (t5+1)) AM AO B4 BK DB Dj FO Ds))else none))else none))else none)
 (R9 0 AM AO B4 BK DB Dj FO Ds)
def LL(R4:LW)(R9:Kz)(t6:Int)(AM:AAQ)(AO B4 BK:Int)(DB:AAQ)(Dj:ABB)(FO:Bool)(Ds:List AAQ):Option Hu:=
 cond ((decide (t6<(Ds.length:Int))))
  (if(0:Int)≤t6∧t6<(Ds.length:Int)then(
  (DX (AM,AO,()) (Ds.getD (t6.toNat) [])).bind fun Ox=>
  cond (!Ox.1.1)
   (some ((false,()),()))
  (R9 (AX (t6+1)) AM AO B4 BK DB Dj FO Ds))else none)
 (cond (!FO)
  (some ((((Ds.length:Int)==0),()),()))
 ((KA (B4,BK,DB,Dj,FO,Ds,())).bind fun NM=>
 some ((((Ds.length:Int)==NM.1.1),()),())))
mutual
def Fa:Nat→LW
 |0=>fun _ _ _ _ _ _ _ _ _=>none
 |n+1=>K4 (Fa n) (EK n)
def EK:Nat→Kz
 |0=>fun _ _ _ _ _ _ _ _ _=>none
 |n+1=>LL (Fa n) (EK n)
end
def P1(R4:LW)(R9:Kz)(p0:ABD)(p1:ABE):Option Hu:=
 (DT (p0.1,p0.2.1,())).bind fun u1=>
 cond (!u1.1.1)
  (some ((false,()),()))
 ((BE p1.2.1 1 30).bind fun u2=>
 cond (!u2.1.1)
  (some ((false,()),()))
 ((BE p1.1 (AX (p1.2.1+1)) 30).bind fun u3=>
 cond (!u3.1.1)
  (some ((false,()),()))
 ((DX (p0.1,p0.2.1,()) p1.2.2.1).bind fun u4=>
 cond (!u4.1.1)
  (some ((false,()),()))
 ((Oz p1.2.2.2.1).bind fun u5=>
 cond (!u5.1.1)
  (some ((false,()),()))
 (R4 0 p0.1 p0.2.1 p1.1 p1.2.1 p1.2.2.1 p1.2.2.2.1 p1.2.2.2.2.1 p1.2.2.2.2.2.1)))))
def E8(p0:ABD)(p1:ABE):Option Hu:=P1 (Fa Ar) (EK Ar) p0 p1
abbrev FF:Type:=ABH×Unit
abbrev H_:Type:=Int→Int→List Int→Int→AAX→List Int→AAY→Int→AA9→AA_→ABA→AA8→Bool→Option FF
abbrev HN:Type:=Int→Int→List Int→Int→AAX→List Int→AAY→Int→AA9→AA_→ABA→AA8→Bool→Option FF
def Ie(R5:H_)(R10:HN)(t3 t4:Int)(AM:AAQ)(AO:Int)(AU:AAX)(Bz:AAQ)(CB:AAY)(Et:Int)(DD:AA9)(C4:AA_)(Ez:ABA)(FW:AA8)(DV:Bool):Option FF:=
 cond ((decide (t4<(DD.length:Int))))
  (if(0:Int)≤t4∧t4<(DD.length:Int)then(
  (D7 (AM,AO,()) ((DD.getD (t4.toNat) (0,[],())).1,(DD.getD (t4.toNat) (0,[],())).2.1,())).bind fun u6=>
  cond (!u6.1.1)
   (some ((false,()),()))
  (if(0:Int)≤t4∧t4<(DD.length:Int)then(
  cond (decide (((DD.getD (t4.toNat) (0,[],())).1)>t3))
   (some ((false,()),()))
  (cond (decide (t4>0))
   (if(0:Int)≤AX (t4-1)∧AX (t4-1)<(DD.length:Int)then(
   if(0:Int)≤t4∧t4<(DD.length:Int)then(
   cond (decide (((DD.getD ((AX (t4-1)).toNat) (0,[],())).1)≥((DD.getD (t4.toNat) (0,[],())).1)))
    (some ((false,()),()))
   (R5 t3 (AX (t4+1)) AM AO AU Bz CB Et DD C4 Ez FW DV))else none)else none)
  (R5 t3 (AX (t4+1)) AM AO AU Bz CB Et DD C4 Ez FW DV)))else none))else none)
 (R10 t3 0 AM AO AU Bz CB Et DD C4 Ez FW DV)
def H4(R5:H_)(R10:HN)(t3 t5:Int)(AM:AAQ)(AO:Int)(AU:AAX)(Bz:AAQ)(CB:AAY)(Et:Int)(DD:AA9)(C4:AA_)(Ez:ABA)(FW:AA8)(DV:Bool):Option FF:=
 cond ((decide (t5<(C4.length:Int))))
  (if(0:Int)≤t5∧t5<(C4.length:Int)then(
  (E8 (AM,AO,()) ((C4.getD (t5.toNat) (0,0,[],[],false,[],())).1,(C4.getD (t5.toNat) (0,0,[],[],false,[],())).2.1,(C4.getD (t5.toNat) (0,0,[],[],false,[],())).2.2.1,(C4.getD (t5.toNat) (0,0,[],[],false,[],())).2.2.2.1,(C4.getD (t5.toNat) (0,0,[],[],false,[],())).2.2.2.2.1,(C4.getD (t5.toNat) (0,0,[],[],false,[],())).2.2.2.2.2.1,())).bind fun Fm=>
  cond (!Fm.1.1)
   (some ((false,()),()))
  (cond (((C4.getD (t5.toNat) (0,0,[],[],false,[],())).1) !=t3)
   (some ((false,()),()))
  ((FY (CB,Et,())).bind fun NM=>
  cond (((C4.getD (t5.toNat) (0,0,[],[],false,[],())).2.1) !=NM.1.1)
   (some ((false,()),()))
  (R10 t3 (AX (t5+1)) AM AO AU Bz CB Et DD C4 Ez FW DV))))else none)
 (some ((true,()),()))
mutual
def DZ:Nat→H_
 |0=>fun _ _ _ _ _ _ _ _ _ _ _ _ _=>none
 |n+1=>Ie (DZ n) (CZ n)
def CZ:Nat→HN
 |0=>fun _ _ _ _ _ _ _ _ _ _ _ _ _=>none
 |n+1=>H4 (DZ n) (CZ n)
end
def M6(R5:H_)(R10:HN)(p0:List Int×Int×List ABG×List Int×List ABL×Int×List ABF×List ABE×List ABI×List ABN×Bool×Unit):Option FF:=
 (HI (p0.1,p0.2.1,()) (p0.2.2.2.2.1,p0.2.2.2.2.2.1,())).bind fun u2=>
 cond (!u2.1.1)
  (some ((false,()),()))
 (cond (decide ((p0.2.2.2.2.2.2.1.length:Int)>4))
  (some ((false,()),()))
 (cond (decide ((p0.2.2.2.2.2.2.2.1.length:Int)>1))
  (some ((false,()),()))
 (R5 (p0.2.2.2.2.1.length:Int) 0 p0.1 p0.2.1 p0.2.2.1 p0.2.2.2.1 p0.2.2.2.2.1 p0.2.2.2.2.2.1 p0.2.2.2.2.2.2.1 p0.2.2.2.2.2.2.2.1 p0.2.2.2.2.2.2.2.2.1 p0.2.2.2.2.2.2.2.2.2.1 p0.2.2.2.2.2.2.2.2.2.2.1)))
def Kd(p0:List Int×Int×List ABG×List Int×List ABL×Int×List ABF×List ABE×List ABI×List ABN×Bool×Unit):Option FF:=M6 (DZ Ar) (CZ Ar) p0
abbrev YS:Type:=ABH×Unit
def Ho(p0:ABI):Option YS:=
 (BE p0.1 1 31).bind fun u1=>
 cond (u1.1.1)
  ((BE p0.2.1 1 61).bind fun u2=>
  cond (u2.1.1)
   (some ((decide ((p0.2.2.1.length:Int)≤120),()),()))
  (some ((false,()),())))
 (some ((false,()),()))
abbrev Ky:Type:=ABH×Unit
abbrev NI:Type:=Int→List Int→Int→AAX→List Int→AAY→Int→AA9→AA_→ABA→AA8→Bool→Option Ky
def J5(R4:NI)(t3:Int)(AM:AAQ)(AO:Int)(AU:AAX)(Bz:AAQ)(CB:AAY)(Et:Int)(DD:AA9)(C4:AA_)(Ez:ABA)(FW:AA8)(DV:Bool):Option Ky:=
 cond ((decide (t3<(FW.length:Int))))
  (if(0:Int)≤t3∧t3<(FW.length:Int)then(
  (C8 ((FW.getD (t3.toNat) (0,[],false,())).1)).bind fun u4=>
  cond (!u4.1.1)
   (some ((false,()),()))
  ((Bd ((FW.getD (t3.toNat) (0,[],false,())).1)).bind fun u6=>
  cond ((decide (u6.1.1>(CB.length:Int))))
   (some ((false,()),()))
  (cond ((decide ((((FW.getD (t3.toNat) (0,[],false,())).2.1).length:Int)>40)))
   (some ((false,()),()))
  (cond (decide (t3>0))
   (if(0:Int)≤AX (t3-1)∧AX (t3-1)<(FW.length:Int)then(
   cond (decide (((FW.getD ((AX (t3-1)).toNat) (0,[],false,())).1)≥((FW.getD (t3.toNat) (0,[],false,())).1)))
    (some ((false,()),()))
   (R4 (AX (t3+1)) AM AO AU Bz CB Et DD C4 Ez FW DV))else none)
  (R4 (AX (t3+1)) AM AO AU Bz CB Et DD C4 Ez FW DV)))))else none)
 (some ((true,()),()))
def F6:Nat→NI
 |0=>fun _ _ _ _ _ _ _ _ _ _ _ _=>none
 |n+1=>J5 (F6 n)
def OX(R4:NI)(p0:List Int×Int×List ABG×List Int×List ABL×Int×List ABF×List ABE×List ABI×List ABN×Bool×Unit):Option Ky:=
 cond (decide ((p0.2.2.2.2.2.2.2.2.2.1.length:Int)>120))
  (some ((false,()),()))
 (R4 0 p0.1 p0.2.1 p0.2.2.1 p0.2.2.2.1 p0.2.2.2.2.1 p0.2.2.2.2.2.1 p0.2.2.2.2.2.2.1 p0.2.2.2.2.2.2.2.1 p0.2.2.2.2.2.2.2.2.1 p0.2.2.2.2.2.2.2.2.2.1 p0.2.2.2.2.2.2.2.2.2.2.1)
def OH(p0:List Int×Int×List ABG×List Int×List ABL×Int×List ABF×List ABE×List ABI×List ABN×Bool×Unit):Option Ky:=OX (F6 Ar) p0
abbrev Zt:Type:=ABH×Unit
def Lb(p0:List Int×Int×List ABG×List Int×List ABL×Int×List ABF×List ABE×List ABI×List ABN×Bool×Unit):Option Zt:=
 (MI (p0.1,p0.2.1,p0.2.2.1,p0.2.2.2.1,p0.2.2.2.2.1,p0.2.2.2.2.2.1,p0.2.2.2.2.2.2.1,p0.2.2.2.2.2.2.2.1,p0.2.2.2.2.2.2.2.2.1,p0.2.2.2.2.2.2.2.2.2.1,p0.2.2.2.2.2.2.2.2.2.2.1,())).bind fun u1=>
 cond (u1.1.1)
  ((Kd (p0.1,p0.2.1,p0.2.2.1,p0.2.2.2.1,p0.2.2.2.2.1,p0.2.2.2.2.2.1,p0.2.2.2.2.2.2.1,p0.2.2.2.2.2.2.2.1,p0.2.2.2.2.2.2.2.2.1,p0.2.2.2.2.2.2.2.2.2.1,p0.2.2.2.2.2.2.2.2.2.2.1,())).bind fun u2=>
  cond (u2.1.1)
   (cond ((p0.2.2.2.2.2.2.2.2.1.length:Int)==2)
    (if(0:Int)≤(0:Int)∧(0:Int)<(p0.2.2.2.2.2.2.2.2.1.length:Int)then(
    (Ho ((p0.2.2.2.2.2.2.2.2.1.getD 0 (0,0,[],())).1,(p0.2.2.2.2.2.2.2.2.1.getD 0 (0,0,[],())).2.1,(p0.2.2.2.2.2.2.2.2.1.getD 0 (0,0,[],())).2.2.1,())).bind fun u4=>
    cond (u4.1.1)
     (if(0:Int)≤(1:Int)∧(1:Int)<(p0.2.2.2.2.2.2.2.2.1.length:Int)then(
     (Ho ((p0.2.2.2.2.2.2.2.2.1.getD 1 (0,0,[],())).1,(p0.2.2.2.2.2.2.2.2.1.getD 1 (0,0,[],())).2.1,(p0.2.2.2.2.2.2.2.2.1.getD 1 (0,0,[],())).2.2.1,())).bind fun u5=>
     cond (u5.1.1)
      ((OH (p0.1,p0.2.1,p0.2.2.1,p0.2.2.2.1,p0.2.2.2.2.1,p0.2.2.2.2.2.1,p0.2.2.2.2.2.2.1,p0.2.2.2.2.2.2.2.1,p0.2.2.2.2.2.2.2.2.1,p0.2.2.2.2.2.2.2.2.2.1,p0.2.2.2.2.2.2.2.2.2.2.1,())).bind fun u6=>
      some ((u6.1.1,()),()))
     (some ((false,()),())))else none)
    (some ((false,()),())))else none)
   (some ((false,()),())))
  (some ((false,()),())))
 (some ((false,()),()))
abbrev YR:Type:=ABh×Unit
def QH(p0:ABJ):Option YR:=
 cond (p0.1==1)
  (some (((p0.1,p0.2.1,0,0,[],()),()),()))
 (cond (p0.1==4)
  (some (((p0.1,p0.2.1,0,0,[],()),()),()))
 (cond (p0.1==6)
  (some (((p0.1,p0.2.1,0,0,[],()),()),()))
 (cond (p0.1==7)
  (some (((p0.1,p0.2.1,0,0,[],()),()),()))
 (cond (p0.1==9)
  (some (((p0.1,p0.2.1,0,0,[],()),()),()))
 (cond (p0.1==13)
  (some (((p0.1,p0.2.1,0,0,[],()),()),()))
 (cond (p0.1==15)
  (some (((p0.1,p0.2.1,0,0,[],()),()),()))
 (cond (p0.1==16)
  (some (((p0.1,p0.2.1,0,0,[],()),()),()))
 (cond (p0.1==2)
  (some (((p0.1,p0.2.1,0,0,p0.2.2.2.2.1,()),()),()))
 (cond (p0.1==3)
  (some (((p0.1,p0.2.1,p0.2.2.1,p0.2.2.2.1,[],()),()),()))
 (cond (p0.1==5)
  (some (((p0.1,p0.2.1,p0.2.2.1,0,[],()),()),()))
 (cond (p0.1==14)
  (some (((p0.1,p0.2.1,p0.2.2.1,0,[],()),()),()))
 (cond (p0.1==11)
  (some (((p0.1,0,p0.2.2.1,p0.2.2.2.1,[],()),()),()))
 (some (((p0.1,0,0,0,[],()),()),()))))))))))))))
abbrev bD:Type:=ABH×Unit
def KQ(p0:ABJ):Option bD:=
 (BE p0.1 1 16).bind fun u1=>
 cond (u1.1.1)
  ((QH (p0.1,p0.2.1,p0.2.2.1,p0.2.2.2.1,p0.2.2.2.2.1,())).bind fun u2=>
  cond (((p0.1==u2.1.1.1)&&((p0.2.1==u2.1.1.2.1)&&((p0.2.2.1==u2.1.1.2.2.1)&&((p0.2.2.2.1==u2.1.1.2.2.2.1)&&((p0.2.2.2.2.1==u2.1.1.2.2.2.2.1)&&true))))))
   (some ((decide ((p0.2.2.2.2.1.length:Int)≤40),()),()))
  (some ((false,()),())))
 (some ((false,()),()))
abbrev C0:Type:=(AB8×Unit)×ACP
abbrev Oe:Type:=Int→AAY→Int→Int→AAY→Int→AAY→Option C0
def PZ(R3:Oe)(t4:Int)(AM:AAY)(AO BK:Int)(b2:AAY)(dL:Int)(b4:AAY):Option C0:=
 cond ((decide (t4<(AM.length:Int))))
  (if(0:Int)≤t4∧t4<(AM.length:Int)then(
  if 0+((AM.getD (t4.toNat) ([],false,0,())).1).length≤Cg then(
  if b4.length+1≤Cg then(
  R3 (AX (t4+1)) AM AO BK b2 dL (b4++[(((AM.getD (t4.toNat) ([],false,0,())).1),(AM.getD (t4.toNat) ([],false,0,())).2.1,(AM.getD (t4.toNat) ([],false,0,())).2.2.1,())]))else none)else none)else none)
 (some ((((),dL,()),()),(b4,())))
def Iy:Nat→Oe
 |0=>fun _ _ _ _ _ _ _=>none
 |n+1=>PZ (Iy n)
def Po(R3:Oe)(p0:ABK):Option C0:=
 R3 0 p0.1 p0.2.1 0 [] p0.2.1 []
def DK(p0:ABK):Option C0:=Po (Iy Ar) p0
abbrev GU:Type:=(ADI×Unit)×ABo
def Cc(p0:ABG):Option GU:=
 if 0+p0.1.length≤Cg then(
 if 0+p0.2.1.length≤Cg then(
 some ((((),(),p0.2.2.1,()),()),(p0.1,p0.2.1,())))else none)else none
abbrev C3:Type:=(ACm×Unit)×ACR
abbrev O0:Type:=Int→Int→ABM→Int→ABM→Int→ABM→Option C3
def Pe(R3:O0)(t4 AM:Int)(AO:ABM)(B4:Int)(b2:ABM)(lT:Int)(b4:ABM):Option C3:=
 cond ((decide (t4<(AO.length:Int))))
  (if(0:Int)≤t4∧t4<(AO.length:Int)then(
  if 0+((AO.getD (t4.toNat) ([],[],false,())).2.1).length≤Cg then(
  if b4.length+1≤Cg then(
  R3 (AX (t4+1)) AM AO B4 b2 lT (b4++[((AO.getD (t4.toNat) ([],[],false,())).1,((AO.getD (t4.toNat) ([],[],false,())).2.1),(AO.getD (t4.toNat) ([],[],false,())).2.2.1,())]))else none)else none)else none)
 (some (((lT,(),()),()),(b4,())))
def Iq:Nat→O0
 |0=>fun _ _ _ _ _ _ _=>none
 |n+1=>Pe (Iq n)
def QB(R3:O0)(p0:ABF):Option C3:=
 R3 0 p0.1 p0.2.1 0 [] p0.1 []
def Ct(p0:ABF):Option C3:=QB (Iq Ar) p0
abbrev DS:Type:=(ACu×Unit)×ABt
abbrev PG:Type:=Int→Int→Int→List Int→ABB→Bool→List AAQ→Int→Int→Bool→List Int→ABB→List AAQ→Int→Int→Bool→List Int→ABB→List AAQ→Option DS
def La(R3:PG)(t4 AM AO:Int)(AU:AAQ)(Bz:ABB)(CB:Bool)(Et:List AAQ)(B4 BK:Int)(FO:Bool)(b2:AAQ)(b3:ABB)(b4:List AAQ)(nw nA:Int)(mN:Bool)(b6:AAQ)(b7:ABB)(b8:List AAQ):Option DS:=
 cond ((decide (t4<(Et.length:Int))))
  (if(0:Int)≤t4∧t4<(Et.length:Int)then(
  if 0+(Et.getD (t4.toNat) []).length≤Cg then(
  if b8.length+1≤Cg then(
  R3 (AX (t4+1)) AM AO AU Bz CB Et B4 BK FO b2 b3 b4 nw nA mN b6 b7 (b8++[(Et.getD (t4.toNat) [])]))else none)else none)else none)
 (some (((nw,nA,(),(),mN,(),()),()),(b6,b7,b8,())))
def EF:Nat→PG
 |0=>fun _ _ _ _ _ _ _ _ _ _ _ _ _ _ _ _ _ _ _=>none
 |n+1=>La (EF n)
def IB(R3:PG)(p0:ABE):Option DS:=
 if 0+p0.2.2.1.length≤Cg then(
 if 0+p0.2.2.2.1.length≤Cg then(
 R3 0 p0.1 p0.2.1 p0.2.2.1 p0.2.2.2.1 p0.2.2.2.2.1 p0.2.2.2.2.2.1 0 0 false [] [] [] p0.1 p0.2.1 p0.2.2.2.2.1 p0.2.2.1 p0.2.2.2.1 [])else none)else none
def CP(p0:ABE):Option DS:=IB (EF Ar) p0
abbrev FQ:Type:=ACj×ACE
def BN(p0:ABI):Option FQ:=
 if 0+p0.2.2.1.length≤Cg then(
 some (((p0.1,p0.2.1,(),()),()),(p0.2.2.1,())))else none
abbrev Cz:Type:=ACx×ABV
abbrev F_:Type:=Int→List Int→Int→AAX→List Int→AAY→Int→AA9→AA_→ABA→AA8→Bool→Int→Int→Bool→List Int→AAX→List Int→AAY→AA9→AA_→ABA→AA8→Int→Int→Bool→List Int→AAX→List Int→AAY→AA9→AA_→ABA→AA8→Option Cz
abbrev Fz:Type:=Int→List Int→Int→AAX→List Int→AAY→Int→AA9→AA_→ABA→AA8→Bool→Int→Int→Bool→List Int→AAX→List Int→AAY→AA9→AA_→ABA→AA8→Int→Int→Bool→List Int→AAX→List Int→AAY→AA9→AA_→ABA→AA8→Option Cz
abbrev FH:Type:=Int→List Int→Int→AAX→List Int→AAY→Int→AA9→AA_→ABA→AA8→Bool→Int→Int→Bool→List Int→AAX→List Int→AAY→AA9→AA_→ABA→AA8→Int→Int→Bool→List Int→AAX→List Int→AAY→AA9→AA_→ABA→AA8→Option Cz
abbrev FI:Type:=Int→List Int→Int→AAX→List Int→AAY→Int→AA9→AA_→ABA→AA8→Bool→Int→Int→Bool→List Int→AAX→List Int→AAY→AA9→AA_→ABA→AA8→Int→Int→Bool→List Int→AAX→List Int→AAY→AA9→AA_→ABA→AA8→Option Cz
def J7(R3:F_)(R7:Fz)(XZ:FH)(fY:FI)(t4:Int)(AM:AAQ)(AO:Int)(AU:AAX)(Bz:AAQ)(CB:AAY)(Et:Int)(DD:AA9)(C4:AA_)(Ez:ABA)(FW:AA8)(DV:Bool)(BK Ds:Int)(EJ:Bool)(b2:AAQ)(b3:AAX)(b4:AAQ)(b5:AAY)(b6:AA9)(b7:AA_)(b8:ABA)(b9:AA8)(C5 D6:Int)(CU:Bool)(Ex:AAQ)(DA:AAX)(EV:AAQ)(Ec:AAY)(DQ:AA9)(Di:AA_)(Dx:ABA)(Qu:AA8):Option Cz:=
 cond ((decide (t4<(AU.length:Int))))
  (if(0:Int)≤t4∧t4<(AU.length:Int)then(
  (Cc ((AU.getD (t4.toNat) ([],[],0,())).1,(AU.getD (t4.toNat) ([],[],0,())).2.1,(AU.getD (t4.toNat) ([],[],0,())).2.2.1,())).bind fun ik=>
  if DA.length+1≤Cg then(
  R3 (AX (t4+1)) AM AO AU Bz CB Et DD C4 Ez FW DV BK Ds EJ b2 b3 b4 b5 b6 b7 b8 b9 C5 D6 CU Ex (DA++[(ik.2.1,ik.2.2.1,ik.1.1.2.2.1,())]) EV Ec DQ Di Dx Qu)else none)else none)
 (R7 0 AM AO AU Bz CB Et DD C4 Ez FW DV BK Ds EJ b2 b3 b4 b5 b6 b7 b8 b9 C5 D6 CU Ex DA EV Ec DQ Di Dx Qu)
def J1(R3:F_)(R7:Fz)(XZ:FH)(fY:FI)(t5:Int)(AM:AAQ)(AO:Int)(AU:AAX)(Bz:AAQ)(CB:AAY)(Et:Int)(DD:AA9)(C4:AA_)(Ez:ABA)(FW:AA8)(DV:Bool)(BK Ds:Int)(EJ:Bool)(b2:AAQ)(b3:AAX)(b4:AAQ)(b5:AAY)(b6:AA9)(b7:AA_)(b8:ABA)(b9:AA8)(C5 D6:Int)(CU:Bool)(Ex:AAQ)(DA:AAX)(EV:AAQ)(Ec:AAY)(DQ:AA9)(Di:AA_)(Dx:ABA)(Qu:AA8):Option Cz:=
 cond ((decide (t5<(DD.length:Int))))
  (if(0:Int)≤t5∧t5<(DD.length:Int)then(
  (Ct ((DD.getD (t5.toNat) (0,[],())).1,(DD.getD (t5.toNat) (0,[],())).2.1,())).bind fun m_=>
  if DQ.length+1≤Cg then(
  R7 (AX (t5+1)) AM AO AU Bz CB Et DD C4 Ez FW DV BK Ds EJ b2 b3 b4 b5 b6 b7 b8 b9 C5 D6 CU Ex DA EV Ec (DQ++[(m_.1.1.1,m_.2.1,())]) Di Dx Qu)else none)else none)
 (XZ 0 AM AO AU Bz CB Et DD C4 Ez FW DV BK Ds EJ b2 b3 b4 b5 b6 b7 b8 b9 C5 D6 CU Ex DA EV Ec DQ Di Dx Qu)
def JO(R3:F_)(R7:Fz)(XZ:FH)(fY:FI)(t6:Int)(AM:AAQ)(AO:Int)(AU:AAX)(Bz:AAQ)(CB:AAY)(Et:Int)(DD:AA9)(C4:AA_)(Ez:ABA)(FW:AA8)(DV:Bool)(BK Ds:Int)(EJ:Bool)(b2:AAQ)(b3:AAX)(b4:AAQ)(b5:AAY)(b6:AA9)(b7:AA_)(b8:ABA)(b9:AA8)(C5 D6:Int)(CU:Bool)(Ex:AAQ)(DA:AAX)(EV:AAQ)(Ec:AAY)(DQ:AA9)(Di:AA_)(Dx:ABA)(Qu:AA8):Option Cz:=
 cond ((decide (t6<(C4.length:Int))))
  (if(0:Int)≤t6∧t6<(C4.length:Int)then(
  (CP ((C4.getD (t6.toNat) (0,0,[],[],false,[],())).1,(C4.getD (t6.toNat) (0,0,[],[],false,[],())).2.1,(C4.getD (t6.toNat) (0,0,[],[],false,[],())).2.2.1,(C4.getD (t6.toNat) (0,0,[],[],false,[],())).2.2.2.1,(C4.getD (t6.toNat) (0,0,[],[],false,[],())).2.2.2.2.1,(C4.getD (t6.toNat) (0,0,[],[],false,[],())).2.2.2.2.2.1,())).bind fun Wq=>
  if Di.length+1≤Cg then(
  XZ (AX (t6+1)) AM AO AU Bz CB Et DD C4 Ez FW DV BK Ds EJ b2 b3 b4 b5 b6 b7 b8 b9 C5 D6 CU Ex DA EV Ec DQ (Di++[(Wq.1.1.1,Wq.1.1.2.1,Wq.2.1,Wq.2.2.1,Wq.1.1.2.2.2.2.1,Wq.2.2.2.1,())]) Dx Qu)else none)else none)
 (fY 0 AM AO AU Bz CB Et DD C4 Ez FW DV BK Ds EJ b2 b3 b4 b5 b6 b7 b8 b9 C5 D6 CU Ex DA EV Ec DQ Di Dx Qu)
def JU(R3:F_)(R7:Fz)(XZ:FH)(fY:FI)(t7:Int)(AM:AAQ)(AO:Int)(AU:AAX)(Bz:AAQ)(CB:AAY)(Et:Int)(DD:AA9)(C4:AA_)(Ez:ABA)(FW:AA8)(DV:Bool)(BK Ds:Int)(EJ:Bool)(b2:AAQ)(b3:AAX)(b4:AAQ)(b5:AAY)(b6:AA9)(b7:AA_)(b8:ABA)(b9:AA8)(C5 D6:Int)(CU:Bool)(Ex:AAQ)(DA:AAX)(EV:AAQ)(Ec:AAY)(DQ:AA9)(Di:AA_)(Dx:ABA)(Qu:AA8):Option Cz:=
 cond ((decide (t7<(Ez.length:Int))))
  (if(0:Int)≤t7∧t7<(Ez.length:Int)then(
  (BN ((Ez.getD (t7.toNat) (0,0,[],())).1,(Ez.getD (t7.toNat) (0,0,[],())).2.1,(Ez.getD (t7.toNat) (0,0,[],())).2.2.1,())).bind fun gq=>
  if Dx.length+1≤Cg then(
  fY (AX (t7+1)) AM AO AU Bz CB Et DD C4 Ez FW DV BK Ds EJ b2 b3 b4 b5 b6 b7 b8 b9 C5 D6 CU Ex DA EV Ec DQ Di (Dx++[(gq.1.1.1,gq.1.1.2.1,gq.2.1,())]) Qu)else none)else none)
 (some ((((),C5,(),(),(),D6,(),(),(),(),CU,()),()),(Ex,DA,EV,Ec,DQ,Di,Dx,Qu,())))
mutual
def BV:Nat→F_
 |0=>fun _ _ _ _ _ _ _ _ _ _ _ _ _ _ _ _ _ _ _ _ _ _ _ _ _ _ _ _ _ _ _ _ _ _=>none
 |n+1=>J7 (BV n) (Be n) (BS n) (BT n)
def Be:Nat→Fz
 |0=>fun _ _ _ _ _ _ _ _ _ _ _ _ _ _ _ _ _ _ _ _ _ _ _ _ _ _ _ _ _ _ _ _ _ _=>none
 |n+1=>J1 (BV n) (Be n) (BS n) (BT n)
def BS:Nat→FH
 |0=>fun _ _ _ _ _ _ _ _ _ _ _ _ _ _ _ _ _ _ _ _ _ _ _ _ _ _ _ _ _ _ _ _ _ _=>none
 |n+1=>JO (BV n) (Be n) (BS n) (BT n)
def BT:Nat→FI
 |0=>fun _ _ _ _ _ _ _ _ _ _ _ _ _ _ _ _ _ _ _ _ _ _ _ _ _ _ _ _ _ _ _ _ _ _=>none
 |n+1=>JU (BV n) (Be n) (BS n) (BT n)
end
def J4(R3:F_)(R7:Fz)(XZ:FH)(fY:FI)(p0:List Int×Int×List ABG×List Int×List ABL×Int×List ABF×List ABE×List ABI×List ABN×Bool×Unit):Option Cz:=
 if 0+p0.1.length≤Cg then(
 if 0+p0.2.2.2.1.length≤Cg then(
 (DK (p0.2.2.2.2.1,p0.2.2.2.2.2.1,())).bind fun u2=>
 if 0+p0.2.2.2.2.2.2.2.2.2.1.length≤Cg then(
 R3 0 p0.1 p0.2.1 p0.2.2.1 p0.2.2.2.1 p0.2.2.2.2.1 p0.2.2.2.2.2.1 p0.2.2.2.2.2.2.1 p0.2.2.2.2.2.2.2.1 p0.2.2.2.2.2.2.2.2.1 p0.2.2.2.2.2.2.2.2.2.1 p0.2.2.2.2.2.2.2.2.2.2.1 0 0 false [] [] [] [] [] [] [] [] p0.2.1 u2.1.1.2.1 p0.2.2.2.2.2.2.2.2.2.2.1 p0.1 [] p0.2.2.2.1 u2.2.1 [] [] [] p0.2.2.2.2.2.2.2.2.2.1)else none)else none)else none
def JB(p0:List Int×Int×List ABG×List Int×List ABL×Int×List ABF×List ABE×List ABI×List ABN×Bool×Unit):Option Cz:=J4 (BV Ar) (Be Ar) (BS Ar) (BT Ar) p0
abbrev JF:Type:=ABQ×ABd
abbrev Ki:Type:=Int→Int→List Int→Option JF
def Io(R3:Ki)(t0 t4:Int)(b0:AAQ):Option JF:=
 cond (decide (t4<8))
  ((BE t0 0 255).bind fun u1=>
  cond (u1.1.1)
   (if t4<0 then none else(
   cond (((T4 .i64 (t0.fdiv (2^(min t4.toNat 64))) 1)==1))
    (if b0.length+1≤Cg then(
    R3 t0 (AX (t4+1)) (b0++[t4]))else none)
   (R3 t0 (AX (t4+1)) b0)))
  (some (((),()),(b0,()))))
 (some (((),()),(b0,())))
def EW:Nat→Ki
 |0=>fun _ _ _=>none
 |n+1=>Io (EW n)
def Mi(R3:Ki)(p0:Int):Option JF:=
 R3 p0 0 []
def IP(p0:Int):Option JF:=Mi (EW Ar) p0
abbrev Z4:Type:=((AB8×Int×Bool×Unit)×Unit)×ACP
def I3(p0:ABD)(p1:ABK)(p2:AAQ):Option Z4:=
 (HI (p0.1,p0.2.1,()) (p1.1,p1.2.1,())).bind fun u1=>
 cond (!u1.1.1)
  (some (((((),0,()),0,false,()),()),([],())))
 ((DK (p1.1,p1.2.1,())).bind fun u2=>
 (Cr (p0.1,p0.2.1,()) p2).bind fun u3=>
 cond (!u3.1.1)
  (some (((((),u2.1.1.2.1,()),0,false,()),()),(u2.2.1,())))
 (cond (((p1.1.length:Int)==30))
  (some (((((),u2.1.1.2.1,()),0,false,()),()),(u2.2.1,())))
 (if 0+p2.length≤Cg then(
 if u2.2.1.length+1≤Cg then(
 let x5:AAY:=u2.2.1++[(p2,false,0,())]
 some (((((),u2.1.1.2.1,()),(x5.length:Int),true,()),()),(x5,())))else none)else none)))
abbrev TS:Type:=ABS×(List Int×AAX×List Int×Unit×Unit×Unit×ABA×AA8×AAY×AA9×AA_×Unit)
def N7(BH BM:Int)(Ak:Bool)(p1:ABJ)(b0:AAQ)(b1:AAX)(b2:AAQ)(b3:AAY)(b4:AA9)(b5:AA_)(b6:ABA)(b7:AA8):Option TS:=
 cond (((b4.length:Int)==4))
  (some (((((),BH,(),(),(),BM,(),(),(),(),Ak,()),4,()),()),(b0,b1,b2,(),(),(),b6,b7,b3,b4,b5,())))
 ((IP p1.2.1).bind fun u2=>
 (I3 (b0,BH,()) (b3,BM,()) u2.2.1).bind fun u3=>
 cond (!u3.1.1.2.2.1)
  (some (((((),BH,(),(),(),BM,(),(),(),(),Ak,()),4,()),()),(b0,b1,b2,(),(),(),b6,b7,b3,b4,b5,())))
 (if b4.length+1≤Cg then(
 some (((((),BH,(),(),(),u3.1.1.1.2.1,(),(),(),(),Ak,()),0,()),()),(b0,b1,b2,(),(),(),b6,b7,u3.2.1,(b4++[(u3.1.1.2.1,[],())]),[],())))else none))
abbrev Wc:Type:=ABH×Unit
def G6(p0:List Int×Int×List ABG×List Int×List ABL×Int×List ABF×List ABE×List ABI×List ABN×Bool×Unit)(p1:Int):Option Wc:=
 (BE p1 0 (AX ((p0.2.2.2.2.2.2.1.length:Int)-1))).bind fun u2=>
 some ((u2.1.1,()),())
abbrev XF:Type:=((ACm×Int×Bool×Unit)×Unit)×ACR
def G1(p0:ABD)(p1:ABF)(p2:AAh):Option XF:=
 (D7 (p0.1,p0.2.1,()) (p1.1,p1.2.1,())).bind fun u1=>
 cond (!u1.1.1)
  (some ((((0,(),()),0,false,()),()),([],())))
 ((Ct (p1.1,p1.2.1,())).bind fun u2=>
 if u2.2.1.length+1≤Cg then(
 let x3:ABM:=u2.2.1++[(p2,[],false,())]
 (D7 (p0.1,p0.2.1,()) (u2.1.1.1,x3,())).bind fun u4=>
 cond (!u4.1.1)
  ((Ct (p1.1,p1.2.1,())).bind fun u5=>
  some ((((u5.1.1.1,(),()),0,false,()),()),(u5.2.1,())))
 (some ((((u2.1.1.1,(),()),(x3.length:Int),true,()),()),(x3,()))))else none)
abbrev ED:Type:=ABO×Unit
def Bv(p0 p1:Int):Option ED:=
 some ((AX ((AX (4294967296*p0))+p1),()),())
abbrev GZ:Type:=ABS×(List Int×AAX×List Int×AAY×AA9×AA_×ABA×Unit×AA8×Unit)
abbrev K9:Type:=Int→List Int→AAX→List Int→AAY→AA9→AA_→ABA→AA8→Int→Int→Bool→Int→Int→Bool→List Int→AAX→List Int→AAY→AA9→AA_→ABA→AA8→Int→List UInt8→Bool→Option GZ
abbrev Jt:Type:=Bool→Int→List Int→AAX→List Int→AAY→AA9→AA_→ABA→AA8→Int→Int→Bool→Int→Int→Bool→List Int→AAX→List Int→AAY→AA9→AA_→ABA→AA8→Int→List UInt8→Bool→AA8→Option GZ
def P6(R9:K9)(ks:Jt)(t10:Int)(b0:AAQ)(b1:AAX)(b2:AAQ)(b3:AAY)(b4:AA9)(b5:AA_)(b6:ABA)(b7:AA8)(B9 CF:Int)(BI:Bool)(Cw DJ:Int)(Bo:Bool)(KB:AAQ)(Ex:AAX)(DA:AAQ)(EV:AAY)(Ec:AA9)(DQ:AA_)(Di:ABA)(Dx:AA8)(Ba:Int)(Bl:AAh)(Bc:Bool):Option GZ:=
 cond ((decide (t10<(b7.length:Int))))
  (if(0:Int)≤t10∧t10<(b7.length:Int)then(
  cond (((b7.getD (t10.toNat) (0,[],false,())).1)==Ba)
   (some (((((),B9,(),(),(),CF,(),(),(),(),BI,()),4,()),()),(b0,b1,b2,b3,b4,b5,b6,(),b7,())))
  (R9 (AX (t10+1)) b0 b1 b2 b3 b4 b5 b6 b7 B9 CF BI Cw DJ Bo KB Ex DA EV Ec DQ Di Dx Ba Bl Bc))else none)
 (ks false 0 b0 b1 b2 b3 b4 b5 b6 b7 B9 CF BI Cw DJ Bo KB Ex DA EV Ec DQ Di Dx Ba Bl Bc [])
def PD(R9:K9)(ks:Jt)(t12:Bool)(t13:Int)(b0:AAQ)(b1:AAX)(b2:AAQ)(b3:AAY)(b4:AA9)(b5:AA_)(b6:ABA)(b7:AA8)(B9 CF:Int)(BI:Bool)(Cw DJ:Int)(Bo:Bool)(KB:AAQ)(Ex:AAX)(DA:AAQ)(EV:AAY)(Ec:AA9)(DQ:AA_)(Di:ABA)(Dx:AA8)(Ba:Int)(Bl:AAh)(Bc:Bool)(dk:AA8):Option GZ:=
 cond ((decide (t13<(b7.length:Int))))
  (cond (!t12)
   (if(0:Int)≤t13∧t13<(b7.length:Int)then(
   cond (decide (((b7.getD (t13.toNat) (0,[],false,())).1)>Ba))
    (if dk.length+1≤Cg then(
    let x18:AA8:=dk++[(Ba,Bl,Bc,())]
    if(0:Int)≤t13∧t13<(b7.length:Int)then(
    if x18.length+1≤Cg then(
    ks true (AX (t13+1)) b0 b1 b2 b3 b4 b5 b6 b7 B9 CF BI Cw DJ Bo KB Ex DA EV Ec DQ Di Dx Ba Bl Bc (x18++[((b7.getD (t13.toNat) (0,[],false,())).1,(b7.getD (t13.toNat) (0,[],false,())).2.1,(b7.getD (t13.toNat) (0,[],false,())).2.2.1,())]))else none)else none)else none)
   (if(0:Int)≤t13∧t13<(b7.length:Int)then(
   if dk.length+1≤Cg then(
   ks t12 (AX (t13+1)) b0 b1 b2 b3 b4 b5 b6 b7 B9 CF BI Cw DJ Bo KB Ex DA EV Ec DQ Di Dx Ba Bl Bc (dk++[((b7.getD (t13.toNat) (0,[],false,())).1,(b7.getD (t13.toNat) (0,[],false,())).2.1,(b7.getD (t13.toNat) (0,[],false,())).2.2.1,())]))else none)else none))else none)
  (if(0:Int)≤t13∧t13<(b7.length:Int)then(
  if dk.length+1≤Cg then(
  ks t12 (AX (t13+1)) b0 b1 b2 b3 b4 b5 b6 b7 B9 CF BI Cw DJ Bo KB Ex DA EV Ec DQ Di Dx Ba Bl Bc (dk++[((b7.getD (t13.toNat) (0,[],false,())).1,(b7.getD (t13.toNat) (0,[],false,())).2.1,(b7.getD (t13.toNat) (0,[],false,())).2.2.1,())]))else none)else none))
 (cond (!t12)
  (if dk.length+1≤Cg then(
  some (((((),B9,(),(),(),CF,(),(),(),(),BI,()),0,()),()),(b0,b1,b2,b3,b4,b5,b6,(),(dk++[(Ba,Bl,Bc,())]),())))else none)
 (some (((((),B9,(),(),(),CF,(),(),(),(),BI,()),0,()),()),(b0,b1,b2,b3,b4,b5,b6,(),dk,()))))
mutual
def Gz:Nat→K9
 |0=>fun _ _ _ _ _ _ _ _ _ _ _ _ _ _ _ _ _ _ _ _ _ _ _ _ _ _=>none
 |n+1=>P6 (Gz n) (GA n)
def GA:Nat→Jt
 |0=>fun _ _ _ _ _ _ _ _ _ _ _ _ _ _ _ _ _ _ _ _ _ _ _ _ _ _ _ _=>none
 |n+1=>PD (Gz n) (GA n)
end
def Pu(R9:K9)(ks:Jt)(BH BM:Int)(Ak:Bool)(p1:ABJ)(b0:AAQ)(b1:AAX)(b2:AAQ)(b3:AAY)(b4:AA9)(b5:AA_)(b6:ABA)(b7:AA8):Option GZ:=
 (G6 (b0,BH,b1,b2,b3,BM,b4,b5,b6,b7,Ak,()) p1.2.1).bind fun u1=>
 cond (!u1.1.1)
  (some (((((),BH,(),(),(),BM,(),(),(),(),Ak,()),2,()),()),(b0,b1,b2,b3,b4,b5,b6,(),b7,())))
 (if(0:Int)≤p1.2.1∧p1.2.1<(b4.length:Int)then(
 (G1 (b0,BH,()) ((b4.getD (p1.2.1.toNat) (0,[],())).1,(b4.getD (p1.2.1.toNat) (0,[],())).2.1,()) p1.2.2.2.2.1).bind fun u2=>
 cond (!u2.1.1.2.2.1)
  (some (((((),BH,(),(),(),BM,(),(),(),(),Ak,()),4,()),()),(b0,b1,b2,b3,b4,b5,b6,(),b7,())))
 (cond (((b7.length:Int)==120))
  (some (((((),BH,(),(),(),BM,(),(),(),(),Ak,()),4,()),()),(b0,b1,b2,b3,b4,b5,b6,(),b7,())))
 (if(0:Int)≤p1.2.1∧p1.2.1<(b4.length:Int)then(
 (Bv u2.1.1.1.1 u2.1.1.2.1).bind fun u5=>
 R9 0 b0 b1 b2 b3 (b4.set (p1.2.1.toNat) (u2.1.1.1.1,u2.2.1,())) b5 b6 b7 BH BM Ak 0 0 false [] [] [] [] [] [] [] [] u5.1.1 p1.2.2.2.2.1 false)else none)))else none)
def Pb(BH BM:Int)(Ak:Bool)(p1:ABJ)(b0:AAQ)(b1:AAX)(b2:AAQ)(b3:AAY)(b4:AA9)(b5:AA_)(b6:ABA)(b7:AA8):Option GZ:=Pu (Gz Ar) (GA Ar) BH BM Ak p1 b0 b1 b2 b3 b4 b5 b6 b7
abbrev ZR:Type:=ABO×Unit
def EA(p0:List Int×Int×List ABG×List Int×List ABL×Int×List ABF×List ABE×List ABI×List ABN×Bool×Unit)(p1:Int):Option ZR:=
 (BE p1 0 (AX ((p0.2.2.1.length:Int)-1))).bind fun u2=>
 cond (!u2.1.1)
  (some ((2,()),()))
 ((Bu p0.2.2.2.1 p1).bind fun u3=>
 cond (u3.1.1)
  (some ((3,()),()))
 (some ((0,()),())))
abbrev aY:Type:=ABH×Unit
def OL(p0:ABG)(p1:ABW):Option aY:=
 cond (p1.2.1==0)
  ((Bd p1.1).bind fun u1=>
  some (((decide (u1.1.1>p0.2.2.1)),()),()))
 (some (((decide (p1.2.1>p0.2.2.1)),()),()))
abbrev X7:Type:=ABj×ABo
def Ji(p0:ABG)(p1:ABW):Option X7:=
 (De (p0.1,p0.2.1,p0.2.2.1,())).bind fun u1=>
 cond (!u1.1.1)
  (some (((((),(),0,()),false,()),()),([],[],())))
 ((Cc (p0.1,p0.2.1,p0.2.2.1,())).bind fun u2=>
 (HQ (p1.1,p1.2.1,p1.2.2.1,p1.2.2.2.1,())).bind fun u3=>
 cond (!u3.1.1)
  (some (((((),(),u2.1.1.2.2.1,()),false,()),()),(u2.2.1,u2.2.2.1,())))
 ((OL (p0.1,p0.2.1,p0.2.2.1,()) (p1.1,p1.2.1,p1.2.2.1,p1.2.2.2.1,())).bind fun u4=>
 cond (!u4.1.1)
  (some (((((),(),u2.1.1.2.2.1,()),false,()),()),(u2.2.1,u2.2.2.1,())))
 (cond ((p0.2.1.length:Int)==20)
  (some (((((),(),u2.1.1.2.2.1,()),false,()),()),(u2.2.1,u2.2.2.1,())))
 (if u2.2.2.1.length+1≤Cg then(
 some (((((),(),u2.1.1.2.2.1,()),true,()),()),(u2.2.1,(u2.2.2.1++[(p1.1,p1.2.1,p1.2.2.1,p1.2.2.2.1,())]),())))else none))))
abbrev SI:Type:=ABS×ABV
def MQ(BH BM:Int)(Ak:Bool)(p1:ABJ)(b0:AAQ)(b1:AAX)(b2:AAQ)(b3:AAY)(b4:AA9)(b5:AA_)(b6:ABA)(b7:AA8):Option SI:=
 (G6 (b0,BH,b1,b2,b3,BM,b4,b5,b6,b7,Ak,()) p1.2.1).bind fun u1=>
 cond (!u1.1.1)
  (some (((((),BH,(),(),(),BM,(),(),(),(),Ak,()),2,()),()),(b0,b1,b2,b3,b4,b5,b6,b7,())))
 (if(0:Int)≤p1.2.1∧p1.2.1<(b4.length:Int)then(
 (BE p1.2.2.1 1 (((b4.getD (p1.2.1.toNat) (0,[],())).2.1).length:Int)).bind fun u3=>
 cond (!u3.1.1)
  (some (((((),BH,(),(),(),BM,(),(),(),(),Ak,()),2,()),()),(b0,b1,b2,b3,b4,b5,b6,b7,())))
 ((EA (b0,BH,b1,b2,b3,BM,b4,b5,b6,b7,Ak,()) p1.2.2.2.1).bind fun u4=>
 cond (u4.1.1 !=0)
  (some (((((),BH,(),(),(),BM,(),(),(),(),Ak,()),u4.1.1,()),()),(b0,b1,b2,b3,b4,b5,b6,b7,())))
 ((BW (b3,BM,()) ((b4.getD (p1.2.1.toNat) (0,[],())).1)).bind fun u6=>
 (Bu u6.2.1 p1.2.2.2.1).bind fun u7=>
 cond (!u7.1.1)
  (some (((((),BH,(),(),(),BM,(),(),(),(),Ak,()),2,()),()),(b0,b1,b2,b3,b4,b5,b6,b7,())))
 (if(0:Int)≤p1.2.2.2.1∧p1.2.2.2.1<(b1.length:Int)then(
 if(0:Int)≤AX (p1.2.2.1-1)∧AX (p1.2.2.1-1)<(((b4.getD (p1.2.1.toNat) (0,[],())).2.1).length:Int)then(
 (Bv ((b4.getD (p1.2.1.toNat) (0,[],())).1) p1.2.2.1).bind fun Ft=>
 (Ji ((b1.getD (p1.2.2.2.1.toNat) ([],[],0,())).1,(b1.getD (p1.2.2.2.1.toNat) ([],[],0,())).2.1,(b1.getD (p1.2.2.2.1.toNat) ([],[],0,())).2.2.1,()) (Ft.1.1,0,false,((((b4.getD (p1.2.1.toNat) (0,[],())).2.1).getD ((AX (p1.2.2.1-1)).toNat) ([],[],false,())).1),())).bind fun Fm=>
 cond (!Fm.1.1.2.1)
  (some (((((),BH,(),(),(),BM,(),(),(),(),Ak,()),4,()),()),(b0,b1,b2,b3,b4,b5,b6,b7,())))
 (if(0:Int)≤p1.2.2.2.1∧p1.2.2.2.1<(b1.length:Int)then(
 some (((((),BH,(),(),(),BM,(),(),(),(),Ak,()),0,()),()),(b0,(b1.set (p1.2.2.2.1.toNat) (Fm.2.1,Fm.2.2.1,Fm.1.1.1.2.2.1,())),b2,b3,b4,b5,b6,b7,())))else none))else none)else none))))else none)
abbrev bC:Type:=(ABW×Unit)×Unit
def KE(p0 p1:ABW):Option bC:=
 cond ((decide (p1.2.1>p0.2.1)))
  (some (((p1.1,p1.2.1,p1.2.2.1,p1.2.2.2.1,()),()),()))
 (some (((p0.1,p0.2.1,p0.2.2.1,p0.2.2.2.1,()),()),()))
abbrev MX:Type:=ABQ×AC7
abbrev Ot:Type:=ABB→Bool→Int→Int→Int→Bool→List UInt8→ABB→Option MX
def LP(R4:Ot)(t0:ABB)(t6:Bool)(t7 AM AO:Int)(AU:Bool)(Bz:AAh)(b1:ABB):Option MX:=
 cond ((decide (t7<(t0.length:Int))))
  (cond (!t6)
   (if(0:Int)≤t7∧t7<(t0.length:Int)then(
   cond (((t0.getD (t7.toNat) (0,0,false,[],())).1)==AM)
    (if(0:Int)≤t7∧t7<(t0.length:Int)then(
    (KE ((t0.getD (t7.toNat) (0,0,false,[],())).1,(t0.getD (t7.toNat) (0,0,false,[],())).2.1,(t0.getD (t7.toNat) (0,0,false,[],())).2.2.1,(t0.getD (t7.toNat) (0,0,false,[],())).2.2.2.1,()) (AM,AO,AU,Bz,())).bind fun u3=>
    if b1.length+1≤Cg then(
    R4 t0 true (AX (t7+1)) AM AO AU Bz (b1++[(u3.1.1.1,u3.1.1.2.1,u3.1.1.2.2.1,u3.1.1.2.2.2.1,())]))else none)else none)
   (cond (!t6)
    (if(0:Int)≤t7∧t7<(t0.length:Int)then(
    cond (decide (((t0.getD (t7.toNat) (0,0,false,[],())).1)>AM))
     (if b1.length+1≤Cg then(
     let x6:ABB:=b1++[(AM,AO,AU,Bz,())]
     if(0:Int)≤t7∧t7<(t0.length:Int)then(
     if x6.length+1≤Cg then(
     R4 t0 true (AX (t7+1)) AM AO AU Bz (x6++[((t0.getD (t7.toNat) (0,0,false,[],())).1,(t0.getD (t7.toNat) (0,0,false,[],())).2.1,(t0.getD (t7.toNat) (0,0,false,[],())).2.2.1,(t0.getD (t7.toNat) (0,0,false,[],())).2.2.2.1,())]))else none)else none)else none)
    (if(0:Int)≤t7∧t7<(t0.length:Int)then(
    if b1.length+1≤Cg then(
    R4 t0 t6 (AX (t7+1)) AM AO AU Bz (b1++[((t0.getD (t7.toNat) (0,0,false,[],())).1,(t0.getD (t7.toNat) (0,0,false,[],())).2.1,(t0.getD (t7.toNat) (0,0,false,[],())).2.2.1,(t0.getD (t7.toNat) (0,0,false,[],())).2.2.2.1,())]))else none)else none))else none)
   (if(0:Int)≤t7∧t7<(t0.length:Int)then(
   if b1.length+1≤Cg then(
   R4 t0 t6 (AX (t7+1)) AM AO AU Bz (b1++[((t0.getD (t7.toNat) (0,0,false,[],())).1,(t0.getD (t7.toNat) (0,0,false,[],())).2.1,(t0.getD (t7.toNat) (0,0,false,[],())).2.2.1,(t0.getD (t7.toNat) (0,0,false,[],())).2.2.2.1,())]))else none)else none)))else none)
  (cond (!t6)
   (if(0:Int)≤t7∧t7<(t0.length:Int)then(
   cond (decide (((t0.getD (t7.toNat) (0,0,false,[],())).1)>AM))
    (if b1.length+1≤Cg then(
    let x11:ABB:=b1++[(AM,AO,AU,Bz,())]
    if(0:Int)≤t7∧t7<(t0.length:Int)then(
    if x11.length+1≤Cg then(
    R4 t0 true (AX (t7+1)) AM AO AU Bz (x11++[((t0.getD (t7.toNat) (0,0,false,[],())).1,(t0.getD (t7.toNat) (0,0,false,[],())).2.1,(t0.getD (t7.toNat) (0,0,false,[],())).2.2.1,(t0.getD (t7.toNat) (0,0,false,[],())).2.2.2.1,())]))else none)else none)else none)
   (if(0:Int)≤t7∧t7<(t0.length:Int)then(
   if b1.length+1≤Cg then(
   R4 t0 t6 (AX (t7+1)) AM AO AU Bz (b1++[((t0.getD (t7.toNat) (0,0,false,[],())).1,(t0.getD (t7.toNat) (0,0,false,[],())).2.1,(t0.getD (t7.toNat) (0,0,false,[],())).2.2.1,(t0.getD (t7.toNat) (0,0,false,[],())).2.2.2.1,())]))else none)else none))else none)
  (if(0:Int)≤t7∧t7<(t0.length:Int)then(
  if b1.length+1≤Cg then(
  R4 t0 t6 (AX (t7+1)) AM AO AU Bz (b1++[((t0.getD (t7.toNat) (0,0,false,[],())).1,(t0.getD (t7.toNat) (0,0,false,[],())).2.1,(t0.getD (t7.toNat) (0,0,false,[],())).2.2.1,(t0.getD (t7.toNat) (0,0,false,[],())).2.2.2.1,())]))else none)else none)))
 (cond (!t6)
  (if b1.length+1≤Cg then(
  some (((),()),((b1++[(AM,AO,AU,Bz,())]),())))else none)
 (some (((),()),(b1,()))))
def FX:Nat→Ot
 |0=>fun _ _ _ _ _ _ _ _=>none
 |n+1=>LP (FX n)
def Pp(R4:Ot)(p0:ABB)(p1:ABW):Option MX:=
 R4 p0 false 0 p1.1 p1.2.1 p1.2.2.1 p1.2.2.2.1 []
def KH(p0:ABB)(p1:ABW):Option MX:=Pp (FX Ar) p0 p1
abbrev IF:Type:=ABj×ABo
abbrev J_:Type:=Int→Int→ABB→ABB→Int→Int→ABB→ABB→Int→ABB→ABB→Option IF
def Lf(R5:J_)(t1 t7:Int)(AM AO:ABB)(AU DB:Int)(b2 b3:ABB)(Un:Int)(b5 b6:ABB):Option IF:=
 cond ((decide (t7<(AO.length:Int))))
  (if t7<0 then none else(
  cond (((T4 .i64 (t1.fdiv (2^(min t7.toNat 64))) 1)==1))
   (if(0:Int)≤t7∧t7<(AO.length:Int)then(
   (KH b5 ((AO.getD (t7.toNat) (0,0,false,[],())).1,(AO.getD (t7.toNat) (0,0,false,[],())).2.1,(AO.getD (t7.toNat) (0,0,false,[],())).2.2.1,(AO.getD (t7.toNat) (0,0,false,[],())).2.2.2.1,())).bind fun u5=>
   R5 t1 (AX (t7+1)) AM AO AU DB b2 b3 Un u5.2.1 b6)else none)
  (R5 t1 (AX (t7+1)) AM AO AU DB b2 b3 Un b5 b6)))
 ((BE t1 0 1048575).bind fun u6=>
 cond (!u6.1.1)
  ((Cc (AM,AO,AU,())).bind fun u7=>
  some (((((),(),u7.1.1.2.2.1,()),false,()),()),(u7.2.1,u7.2.2.1,())))
 (cond ((decide ((b5.length:Int)>200)))
  ((Cc (AM,AO,AU,())).bind fun u9=>
  some (((((),(),u9.1.1.2.2.1,()),false,()),()),(u9.2.1,u9.2.2.1,())))
 (some (((((),(),Un,()),true,()),()),(b5,b6,())))))
def FR:Nat→J_
 |0=>fun _ _ _ _ _ _ _ _ _ _ _=>none
 |n+1=>Lf (FR n)
def Ll(R5:J_)(p0:ABG)(p1:Int):Option IF:=
 (De (p0.1,p0.2.1,p0.2.2.1,())).bind fun u1=>
 cond (!u1.1.1)
  (some (((((),(),0,()),false,()),()),([],[],())))
 (if 0+p0.1.length≤Cg then(
 R5 p1 0 p0.1 p0.2.1 p0.2.2.1 0 [] [] p0.2.2.1 p0.1 [])else none)
def Hg(p0:ABG)(p1:Int):Option IF:=Ll (FR Ar) p0 p1
abbrev WN:Type:=ABj×ABo
def Il(p0:ABG):Option WN:=
 (Hg (p0.1,p0.2.1,p0.2.2.1,()) 1048575).bind fun u1=>
 some (((((),(),u1.1.1.1.2.2.1,()),u1.1.1.2.1,()),()),(u1.2.1,u1.2.2.1,()))
abbrev Df:Type:=(ADJ×Unit)×Unit
abbrev QY:Type:=ABB→Int→Int→Int→Int→Bool→List UInt8→Option Df
def Ql(R2:QY)(t0:ABB)(t1 t6 AM AO:Int)(AU:Bool)(Bz:AAh):Option Df:=
 cond ((decide (t6<(t0.length:Int))))
  (if(0:Int)≤t6∧t6<(t0.length:Int)then(
  cond (((t0.getD (t6.toNat) (0,0,false,[],())).1)==t1)
   (if(0:Int)≤t6∧t6<(t0.length:Int)then(
   some (((((t0.getD (t6.toNat) (0,0,false,[],())).1,(t0.getD (t6.toNat) (0,0,false,[],())).2.1,(t0.getD (t6.toNat) (0,0,false,[],())).2.2.1,(t0.getD (t6.toNat) (0,0,false,[],())).2.2.2.1,()),true,()),()),()))else none)
  (R2 t0 t1 (AX (t6+1)) AM AO AU Bz))else none)
 (some ((((0,0,false,[],()),false,()),()),()))
def Jg:Nat→QY
 |0=>fun _ _ _ _ _ _ _=>none
 |n+1=>Ql (Jg n)
def RC(R2:QY)(p0:ABB)(p1:Int):Option Df:=
 R2 p0 p1 0 0 0 false []
def D3(p0:ABB)(p1:Int):Option Df:=RC (Jg Ar) p0 p1
abbrev DF:Type:=AC9×ACR
def Cy(p0:ABD)(p1:ABF)(p2 p3:Int):Option DF:=
 (D7 (p0.1,p0.2.1,()) (p1.1,p1.2.1,())).bind fun u1=>
 cond (!u1.1.1)
  (some ((((0,(),()),false,()),()),([],())))
 ((Ct (p1.1,p1.2.1,())).bind fun u2=>
 (BE p2 1 (p1.2.1.length:Int)).bind fun u4=>
 cond (!u4.1.1)
  (some ((((u2.1.1.1,(),()),false,()),()),(u2.2.1,())))
 ((BE p3 0 (AX ((p0.1.length:Int)-1))).bind fun u6=>
 cond (!u6.1.1)
  (some ((((u2.1.1.1,(),()),false,()),()),(u2.2.1,())))
 (if(0:Int)≤AX (p2-1)∧AX (p2-1)<(p1.2.1.length:Int)then(
 cond (((p1.2.1.getD ((AX (p2-1)).toNat) ([],[],false,())).2.2.1))
  (some ((((u2.1.1.1,(),()),false,()),()),(u2.2.1,())))
 (if(0:Int)≤AX (p2-1)∧AX (p2-1)<(u2.2.1.length:Int)then(
 (HP ((u2.2.1.getD ((AX (p2-1)).toNat) ([],[],false,())).2.1) p3).bind fun u8=>
 if(0:Int)≤AX (p2-1)∧AX (p2-1)<(u2.2.1.length:Int)then(
 let x9:ABM:=(u2.2.1.set ((AX (p2-1)).toNat) ((u2.2.1.getD ((AX (p2-1)).toNat) ([],[],false,())).1,u8.2.1,(u2.2.1.getD ((AX (p2-1)).toNat) ([],[],false,())).2.2.1,()))
 if(0:Int)≤AX (p2-1)∧AX (p2-1)<(x9.length:Int)then(
 (Cr (p0.1,p0.2.1,()) ((x9.getD ((AX (p2-1)).toNat) ([],[],false,())).2.1)).bind fun Ft=>
 if(0:Int)≤AX (p2-1)∧AX (p2-1)<(x9.length:Int)then(
 some ((((u2.1.1.1,(),()),true,()),()),((x9.set ((AX (p2-1)).toNat) ((x9.getD ((AX (p2-1)).toNat) ([],[],false,())).1,(x9.getD ((AX (p2-1)).toNat) ([],[],false,())).2.1,Ft.1.1,())),())))else none)else none)else none)else none))else none)))
abbrev Wn:Type:=ABv×Unit
def IQ(p0 p1:Int):Option Wn:=
 (BE p0 1 30).bind fun u1=>
 cond (!u1.1.1)
  (some (((0,false,()),()),()))
 ((BE p1 1 60).bind fun u2=>
 cond (!u2.1.1)
  (some (((0,false,()),()),()))
 (some (((AX ((AX (4294967296*p0))+p1),true,()),()),())))
abbrev DG:Type:=(ADJ×Unit)×Unit
def CX(p0:ABE)(p1:Int):Option DG:=
 (IQ p0.2.1 p1).bind fun u1=>
 cond (!p0.2.2.2.2.1)
  (some ((((0,0,false,[],()),false,()),()),()))
 (cond (!u1.1.1.2.1)
  (some ((((0,0,false,[],()),false,()),()),()))
 (cond (decide (p1>(p0.2.2.2.2.2.1.length:Int)))
  (some ((((0,0,false,[],()),false,()),()),()))
 ((D3 p0.2.2.2.1 u1.1.1.1).bind fun u3=>
 cond (u3.1.1.2.1)
  (some ((((u1.1.1.1,p0.1,u3.1.1.1.2.2.1,u3.1.1.1.2.2.2.1,()),true,()),()),()))
 (some ((((u1.1.1.1,p0.1,true,[],()),true,()),()),())))))
abbrev EP:Type:=AB4×ABt
def D_(p0:ABD)(p1:ABE)(p2 p3:Int):Option EP:=
 (E8 (p0.1,p0.2.1,()) (p1.1,p1.2.1,p1.2.2.1,p1.2.2.2.1,p1.2.2.2.2.1,p1.2.2.2.2.2.1,())).bind fun u1=>
 cond (!u1.1.1)
  (some ((((0,0,(),(),false,(),()),false,()),()),([],[],[],())))
 ((CP (p1.1,p1.2.1,p1.2.2.1,p1.2.2.2.1,p1.2.2.2.2.1,p1.2.2.2.2.2.1,())).bind fun u2=>
 (BE p2 1 (p1.2.2.2.2.2.1.length:Int)).bind fun u4=>
 cond (!u4.1.1)
  (some ((((u2.1.1.1,u2.1.1.2.1,(),(),u2.1.1.2.2.2.2.1,(),()),false,()),()),(u2.2.1,u2.2.2.1,u2.2.2.2.1,())))
 ((BE p3 0 (AX ((p0.1.length:Int)-1))).bind fun u6=>
 cond (!u6.1.1)
  (some ((((u2.1.1.1,u2.1.1.2.1,(),(),u2.1.1.2.2.2.2.1,(),()),false,()),()),(u2.2.1,u2.2.2.1,u2.2.2.2.1,())))
 (if(0:Int)≤AX (p2-1)∧AX (p2-1)<(u2.2.2.2.1.length:Int)then(
 (HP (u2.2.2.2.1.getD ((AX (p2-1)).toNat) []) p3).bind fun u7=>
 if(0:Int)≤AX (p2-1)∧AX (p2-1)<(u2.2.2.2.1.length:Int)then(
 some ((((u2.1.1.1,u2.1.1.2.1,(),(),u2.1.1.2.2.2.2.1,(),()),true,()),()),(u2.2.1,u2.2.2.1,(u2.2.2.2.1.set ((AX (p2-1)).toNat) u7.2.1),())))else none)else none)))
abbrev A8:Type:=ACx×ABV
abbrev Eh:Type:=Int→Int→List Int→AAX→List Int→AAY→AA9→AA_→ABA→AA8→Int→Int→Bool→Int→Int→Bool→List Int→AAX→List Int→AAY→AA9→AA_→ABA→AA8→ABB→ABB→Int→Option A8
abbrev Ee:Type:=Int→Int→Int→Int→Int→Bool→List Int→AAX→List Int→AAY→AA9→AA_→ABA→AA8→Int→Int→Bool→Int→Int→Bool→List Int→AAX→List Int→AAY→AA9→AA_→ABA→AA8→ABB→ABB→Int→Int→ABM→Option A8
abbrev Dz:Type:=Int→Int→Int→Int→Int→Bool→List Int→AAX→List Int→AAY→AA9→AA_→ABA→AA8→Int→Int→Bool→Int→Int→Bool→List Int→AAX→List Int→AAY→AA9→AA_→ABA→AA8→ABB→ABB→Int→Int→ABM→Option A8
abbrev D4:Type:=Int→Int→List Int→AAX→List Int→AAY→AA9→AA_→ABA→AA8→Int→Int→Bool→Int→Int→Bool→List Int→AAX→List Int→AAY→AA9→AA_→ABA→AA8→ABB→ABB→Int→Option A8
abbrev D2:Type:=Int→Int→Int→List Int→AAX→List Int→AAY→AA9→AA_→ABA→AA8→Int→Int→Bool→Int→Int→Bool→List Int→AAX→List Int→AAY→AA9→AA_→ABA→AA8→ABB→ABB→Int→Int→Int→List Int→ABB→Bool→List AAQ→Option A8
def HW(R3:Eh)(R8:Ee)(fY:Dz)(vL:D4)(rz:D2)(t1 t6:Int)(b0:AAQ)(b1:AAX)(b2:AAQ)(b3:AAY)(b4:AA9)(b5:AA_)(b6:ABA)(b7:AA8)(B9 CF:Int)(BI:Bool)(Cw DJ:Int)(Bo:Bool)(KB:AAQ)(Ex:AAX)(DA:AAQ)(EV:AAY)(Ec:AA9)(DQ:AA_)(Di:ABA)(Dx:AA8)(Ba Bl:ABB)(Bc:Int):Option A8:=
 cond ((decide (t6<(b4.length:Int))))
  (if(0:Int)≤t6∧t6<(b4.length:Int)then(
  (BW (b3,CF,()) ((b4.getD (t6.toNat) (0,[],())).1)).bind fun u3=>
  (Bu u3.2.1 t1).bind fun u4=>
  cond (!u4.1.1)
   (R3 t1 (AX (t6+1)) b0 b1 b2 b3 b4 b5 b6 b7 B9 CF BI Cw DJ Bo KB Ex DA EV Ec DQ Di Dx Ba Bl Bc)
  (let x5:Int:=(b4.getD (t6.toNat) (0,[],())).1
  cond (decide (Bc≥x5))
   (R3 t1 (AX (t6+1)) b0 b1 b2 b3 b4 b5 b6 b7 B9 CF BI Cw DJ Bo KB Ex DA EV Ec DQ Di Dx Ba Bl Bc)
  (R8 t1 t6 1 Bc x5 (decide (Bc≥x5)) b0 b1 b2 b3 b4 b5 b6 b7 B9 CF BI Cw DJ Bo KB Ex DA EV Ec DQ Di Dx Ba Bl Bc ((b4.getD (t6.toNat) (0,[],())).1) ((b4.getD (t6.toNat) (0,[],())).2.1))))else none)
 (vL t1 0 b0 b1 b2 b3 b4 b5 b6 b7 B9 CF BI Cw DJ Bo KB Ex DA EV Ec DQ Di Dx Ba Bl Bc)
def HF(R3:Eh)(R8:Ee)(fY:Dz)(vL:D4)(rz:D2)(t1 t6 t8 t47 t49:Int)(t50:Bool)(b0:AAQ)(b1:AAX)(b2:AAQ)(b3:AAY)(b4:AA9)(b5:AA_)(b6:ABA)(b7:AA8)(B9 CF:Int)(BI:Bool)(Cw DJ:Int)(Bo:Bool)(KB:AAQ)(Ex:AAX)(DA:AAQ)(EV:AAY)(Ec:AA9)(DQ:AA_)(Di:ABA)(Dx:AA8)(Ba Bl:ABB)(Bc CR:Int)(BR:ABM):Option A8:=
 cond ((decide (t8≤(BR.length:Int))))
  ((Bv CR t8).bind fun u7=>
  (D3 Ba u7.1.1).bind fun u8=>
  cond (!u8.1.1.2.1)
   (R8 t1 t6 (AX (t8+1)) t47 t49 t50 b0 b1 b2 b3 b4 b5 b6 b7 B9 CF BI Cw DJ Bo KB Ex DA EV Ec DQ Di Dx Ba Bl Bc CR BR)
  (cond (u8.1.1.1.2.1 !=0)
   (R8 t1 t6 (AX (t8+1)) t47 t49 t50 b0 b1 b2 b3 b4 b5 b6 b7 B9 CF BI Cw DJ Bo KB Ex DA EV Ec DQ Di Dx Ba Bl Bc CR BR)
  (if(0:Int)≤AX (t8-1)∧AX (t8-1)<(BR.length:Int)then(
  cond (((BR.getD ((AX (t8-1)).toNat) ([],[],false,())).2.2.1))
   (R8 t1 t6 (AX (t8+1)) t47 t49 t50 b0 b1 b2 b3 b4 b5 b6 b7 B9 CF BI Cw DJ Bo KB Ex DA EV Ec DQ Di Dx Ba Bl Bc CR BR)
  ((Cy (b0,B9,()) (CR,BR,()) t8 t1).bind fun Ft=>
  R8 t1 t6 (AX (t8+1)) t47 t49 t50 b0 b1 b2 b3 b4 b5 b6 b7 B9 CF BI Cw DJ Bo KB Ex DA EV Ec DQ Di Dx Ba Bl Bc Ft.1.1.1.1 Ft.2.1))else none)))
 (if(0:Int)≤t6∧t6<(b4.length:Int)then(
 fY t1 t6 0 t47 t49 t50 b0 b1 b2 b3 (b4.set (t6.toNat) (CR,BR,())) b5 b6 b7 B9 CF BI Cw DJ Bo KB Ex DA EV Ec DQ Di Dx Ba Bl Bc CR BR)else none)
def Gi(R3:Eh)(R8:Ee)(fY:Dz)(vL:D4)(rz:D2)(t1 t6 t11 t47 t49:Int)(t50:Bool)(b0:AAQ)(b1:AAX)(b2:AAQ)(b3:AAY)(b4:AA9)(b5:AA_)(b6:ABA)(b7:AA8)(B9 CF:Int)(BI:Bool)(Cw DJ:Int)(Bo:Bool)(KB:AAQ)(Ex:AAX)(DA:AAQ)(EV:AAY)(Ec:AA9)(DQ:AA_)(Di:ABA)(Dx:AA8)(Ba Bl:ABB)(Bc CR:Int)(BR:ABM):Option A8:=
 cond ((decide (t11<(b7.length:Int))))
  (if(0:Int)≤t11∧t11<(b7.length:Int)then(
  let zp:Int:=(b7.getD (t11.toNat) (0,[],false,())).1
  (Bd zp).bind fun u66=>
  cond (u66.1.1==CR)
   ((DY zp).bind fun u67=>
   cond ((decide (u67.1.1≤(BR.length:Int))))
    ((DY zp).bind fun xX=>
    if(0:Int)≤AX (xX.1.1-1)∧AX (xX.1.1-1)<(BR.length:Int)then(
    cond (((BR.getD ((AX (xX.1.1-1)).toNat) ([],[],false,())).2.2.1))
     (if(0:Int)≤t11∧t11<(b7.length:Int)then(
     fY t1 t6 (AX (t11+1)) t47 t49 t50 b0 b1 b2 b3 b4 b5 b6 (b7.set (t11.toNat) ((b7.getD (t11.toNat) (0,[],false,())).1,(b7.getD (t11.toNat) (0,[],false,())).2.1,true,())) B9 CF BI Cw DJ Bo KB Ex DA EV Ec DQ Di Dx Ba Bl Bc CR BR)else none)
    (fY t1 t6 (AX (t11+1)) t47 t49 t50 b0 b1 b2 b3 b4 b5 b6 b7 B9 CF BI Cw DJ Bo KB Ex DA EV Ec DQ Di Dx Ba Bl Bc CR BR))else none)
   (fY t1 t6 (AX (t11+1)) t47 t49 t50 b0 b1 b2 b3 b4 b5 b6 b7 B9 CF BI Cw DJ Bo KB Ex DA EV Ec DQ Di Dx Ba Bl Bc CR BR))
  (fY t1 t6 (AX (t11+1)) t47 t49 t50 b0 b1 b2 b3 b4 b5 b6 b7 B9 CF BI Cw DJ Bo KB Ex DA EV Ec DQ Di Dx Ba Bl Bc CR BR))else none)
 (R3 t1 (AX (t6+1)) b0 b1 b2 b3 b4 b5 b6 b7 B9 CF BI Cw DJ Bo KB Ex DA EV Ec DQ Di Dx Ba Bl Bc)
def Gk(R3:Eh)(R8:Ee)(fY:Dz)(vL:D4)(rz:D2)(t1 t13:Int)(b0:AAQ)(b1:AAX)(b2:AAQ)(b3:AAY)(b4:AA9)(b5:AA_)(b6:ABA)(b7:AA8)(B9 CF:Int)(BI:Bool)(Cw DJ:Int)(Bo:Bool)(KB:AAQ)(Ex:AAX)(DA:AAQ)(EV:AAY)(Ec:AA9)(DQ:AA_)(Di:ABA)(Dx:AA8)(Ba Bl:ABB)(Bc:Int):Option A8:=
 cond ((decide (t13<(b5.length:Int))))
  (if(0:Int)≤t13∧t13<(b5.length:Int)then(
  rz t1 t13 1 b0 b1 b2 b3 b4 b5 b6 b7 B9 CF BI Cw DJ Bo KB Ex DA EV Ec DQ Di Dx Ba Bl Bc ((b5.getD (t13.toNat) (0,0,[],[],false,[],())).1) ((b5.getD (t13.toNat) (0,0,[],[],false,[],())).2.1) ((b5.getD (t13.toNat) (0,0,[],[],false,[],())).2.2.1) ((b5.getD (t13.toNat) (0,0,[],[],false,[],())).2.2.2.1) ((b5.getD (t13.toNat) (0,0,[],[],false,[],())).2.2.2.2.1) ((b5.getD (t13.toNat) (0,0,[],[],false,[],())).2.2.2.2.2.1))else none)
 (some ((((),B9,(),(),(),CF,(),(),(),(),BI,()),()),(b0,b1,b2,b3,b4,b5,b6,b7,())))
def Es(R3:Eh)(R8:Ee)(fY:Dz)(vL:D4)(rz:D2)(t1 t13 t15:Int)(b0:AAQ)(b1:AAX)(b2:AAQ)(b3:AAY)(b4:AA9)(b5:AA_)(b6:ABA)(b7:AA8)(B9 CF:Int)(BI:Bool)(Cw DJ:Int)(Bo:Bool)(KB:AAQ)(Ex:AAX)(DA:AAQ)(EV:AAY)(Ec:AA9)(DQ:AA_)(Di:ABA)(Dx:AA8)(Ba Bl:ABB)(Bc CR BR:Int)(Q2:AAQ)(Q8:ABB)(Q7:Bool)(Mg:List AAQ):Option A8:=
 if(0:Int)≤t13∧t13<(b5.length:Int)then(
 cond (decide (t15≤(((b5.getD (t13.toNat) (0,0,[],[],false,[],())).2.2.2.2.2.1).length:Int)))
  ((BW (b3,CF,()) BR).bind fun u74=>
  (Bu u74.2.1 t1).bind fun u75=>
  cond (u75.1.1)
   ((CX (CR,BR,Q2,Q8,Q7,Mg,()) t15).bind fun nO=>
   (D3 Ba nO.1.1.1.1).bind fun mH=>
   cond (mH.1.1.2.1)
    (cond (((mH.1.1.1.1==nO.1.1.1.1)&&((mH.1.1.1.2.1==nO.1.1.1.2.1)&&((mH.1.1.1.2.2.1==nO.1.1.1.2.2.1)&&((mH.1.1.1.2.2.2.1==nO.1.1.1.2.2.2.1)&&true)))))
     ((D_ (b0,B9,()) (CR,BR,Q2,Q8,Q7,Mg,()) t15 t1).bind fun j7=>
     rz t1 t13 (AX (t15+1)) b0 b1 b2 b3 b4 b5 b6 b7 B9 CF BI Cw DJ Bo KB Ex DA EV Ec DQ Di Dx Ba Bl Bc j7.1.1.1.1 j7.1.1.1.2.1 j7.2.1 j7.2.2.1 j7.1.1.1.2.2.2.2.1 j7.2.2.2.1)
    (rz t1 t13 (AX (t15+1)) b0 b1 b2 b3 b4 b5 b6 b7 B9 CF BI Cw DJ Bo KB Ex DA EV Ec DQ Di Dx Ba Bl Bc CR BR Q2 Q8 Q7 Mg))
   (rz t1 t13 (AX (t15+1)) b0 b1 b2 b3 b4 b5 b6 b7 B9 CF BI Cw DJ Bo KB Ex DA EV Ec DQ Di Dx Ba Bl Bc CR BR Q2 Q8 Q7 Mg))
  (if(0:Int)≤t13∧t13<(b5.length:Int)then(
  vL t1 (AX (t13+1)) b0 b1 b2 b3 b4 (b5.set (t13.toNat) (CR,BR,Q2,Q8,Q7,Mg,())) b6 b7 B9 CF BI Cw DJ Bo KB Ex DA EV Ec DQ Di Dx Ba Bl Bc)else none))
 (if(0:Int)≤t13∧t13<(b5.length:Int)then(
 vL t1 (AX (t13+1)) b0 b1 b2 b3 b4 (b5.set (t13.toNat) (CR,BR,Q2,Q8,Q7,Mg,())) b6 b7 B9 CF BI Cw DJ Bo KB Ex DA EV Ec DQ Di Dx Ba Bl Bc)else none))else none
mutual
def Aq:Nat→Eh
 |0=>fun _ _ _ _ _ _ _ _ _ _ _ _ _ _ _ _ _ _ _ _ _ _ _ _ _ _ _=>none
 |n+1=>HW (Aq n) (AZ n) (Ab n) (Au n) (Ap n)
def AZ:Nat→Ee
 |0=>fun _ _ _ _ _ _ _ _ _ _ _ _ _ _ _ _ _ _ _ _ _ _ _ _ _ _ _ _ _ _ _ _ _=>none
 |n+1=>HF (Aq n) (AZ n) (Ab n) (Au n) (Ap n)
def Ab:Nat→Dz
 |0=>fun _ _ _ _ _ _ _ _ _ _ _ _ _ _ _ _ _ _ _ _ _ _ _ _ _ _ _ _ _ _ _ _ _=>none
 |n+1=>Gi (Aq n) (AZ n) (Ab n) (Au n) (Ap n)
def Au:Nat→D4
 |0=>fun _ _ _ _ _ _ _ _ _ _ _ _ _ _ _ _ _ _ _ _ _ _ _ _ _ _ _=>none
 |n+1=>Gk (Aq n) (AZ n) (Ab n) (Au n) (Ap n)
def Ap:Nat→D2
 |0=>fun _ _ _ _ _ _ _ _ _ _ _ _ _ _ _ _ _ _ _ _ _ _ _ _ _ _ _ _ _ _ _ _ _ _=>none
 |n+1=>Es (Aq n) (AZ n) (Ab n) (Au n) (Ap n)
end
def J8(R3:Eh)(R8:Ee)(fY:Dz)(vL:D4)(rz:D2)(BH BM:Int)(Ak:Bool)(p1:Int)(b0:AAQ)(b1:AAX)(b2:AAQ)(b3:AAY)(b4:AA9)(b5:AA_)(b6:ABA)(b7:AA8):Option A8:=
 if(0:Int)≤p1∧p1<(b1.length:Int)then(
 R3 p1 0 b0 b1 b2 b3 b4 b5 b6 b7 BH BM Ak 0 0 false [] [] [] [] [] [] [] [] ((b1.getD (p1.toNat) ([],[],0,())).1) ((b1.getD (p1.toNat) ([],[],0,())).2.1) ((b1.getD (p1.toNat) ([],[],0,())).2.2.1))else none
def Nh(BH BM:Int)(Ak:Bool)(p1:Int)(b0:AAQ)(b1:AAX)(b2:AAQ)(b3:AAY)(b4:AA9)(b5:AA_)(b6:ABA)(b7:AA8):Option A8:=J8 (Aq Ar) (AZ Ar) (Ab Ar) (Au Ar) (Ap Ar) BH BM Ak p1 b0 b1 b2 b3 b4 b5 b6 b7
abbrev Zc:Type:=ABS×ABV
def N8(BH BM:Int)(Ak:Bool)(p1:ABJ)(b0:AAQ)(b1:AAX)(b2:AAQ)(b3:AAY)(b4:AA9)(b5:AA_)(b6:ABA)(b7:AA8):Option Zc:=
 (EA (b0,BH,b1,b2,b3,BM,b4,b5,b6,b7,Ak,()) p1.2.1).bind fun u1=>
 cond (u1.1.1 !=0)
  (some (((((),BH,(),(),(),BM,(),(),(),(),Ak,()),u1.1.1,()),()),(b0,b1,b2,b3,b4,b5,b6,b7,())))
 (if(0:Int)≤p1.2.1∧p1.2.1<(b1.length:Int)then(
 (Il ((b1.getD (p1.2.1.toNat) ([],[],0,())).1,(b1.getD (p1.2.1.toNat) ([],[],0,())).2.1,(b1.getD (p1.2.1.toNat) ([],[],0,())).2.2.1,())).bind fun u2=>
 cond (!u2.1.1.2.1)
  (some (((((),BH,(),(),(),BM,(),(),(),(),Ak,()),4,()),()),(b0,b1,b2,b3,b4,b5,b6,b7,())))
 (if(0:Int)≤p1.2.1∧p1.2.1<(b1.length:Int)then(
 (Nh BH BM Ak p1.2.1 b0 (b1.set (p1.2.1.toNat) (u2.2.1,u2.2.2.1,u2.1.1.1.2.2.1,())) b2 b3 b4 b5 b6 b7).bind fun u4=>
 some (((((),u4.1.1.2.1,(),(),(),u4.1.1.2.2.2.2.2.1,(),(),(),(),u4.1.1.2.2.2.2.2.2.2.2.2.2.1,()),0,()),()),(u4.2.1,u4.2.2.1,u4.2.2.2.1,u4.2.2.2.2.1,u4.2.2.2.2.2.1,u4.2.2.2.2.2.2.1,u4.2.2.2.2.2.2.2.1,u4.2.2.2.2.2.2.2.2.1,())))else none))else none)
abbrev MN:Type:=ABQ×ABd
abbrev PB:Type:=List Int→List Int→Int→List Int→Option MN
def Px(R3:PB)(t0 t1:AAQ)(t6:Int)(b0:AAQ):Option MN:=
 cond ((decide (t6<(t0.length:Int))))
  (if(0:Int)≤t6∧t6<(t0.length:Int)then(
  (Bu t1 (t0.getD (t6.toNat) 0)).bind fun u3=>
  cond (!u3.1.1)
   (if(0:Int)≤t6∧t6<(t0.length:Int)then(
   if b0.length+1≤Cg then(
   R3 t0 t1 (AX (t6+1)) (b0++[(t0.getD (t6.toNat) 0)]))else none)else none)
  (R3 t0 t1 (AX (t6+1)) b0))else none)
 (some (((),()),(b0,())))
def Ii:Nat→PB
 |0=>fun _ _ _ _=>none
 |n+1=>Px (Ii n)
def PX(R3:PB)(p0 p1:AAQ):Option MN:=
 R3 p0 p1 0 []
def E7(p0 p1:AAQ):Option MN:=PX (Ii Ar) p0 p1
abbrev Gh:Type:=AC9×ACR
abbrev Ia:Type:=Int→Int→Int→ABM→Int→ABM→Option Gh
def KI(R5:Ia)(t2 t9 AM:Int)(b1:ABM)(ay:Int)(b3:ABM):Option Gh:=
 cond ((decide (t9<(b3.length:Int))))
  (if(0:Int)≤t9∧t9<(b3.length:Int)then(
  cond (!((b3.getD (t9.toNat) ([],[],false,())).2.2.1))
   (if(0:Int)≤t9∧t9<(b3.length:Int)then(
   (E7 ((b3.getD (t9.toNat) ([],[],false,())).2.1) [t2]).bind fun u5=>
   if(0:Int)≤t9∧t9<(b3.length:Int)then(
   R5 t2 (AX (t9+1)) AM b1 ay (b3.set (t9.toNat) ((b3.getD (t9.toNat) ([],[],false,())).1,u5.2.1,(b3.getD (t9.toNat) ([],[],false,())).2.2.1,())))else none)else none)
  (R5 t2 (AX (t9+1)) AM b1 ay b3))else none)
 (some ((((ay,(),()),true,()),()),(b3,())))
def EM:Nat→Ia
 |0=>fun _ _ _ _ _ _=>none
 |n+1=>KI (EM n)
def KM(R5:Ia)(p0:ABD)(p1:ABF)(p2:Int):Option Gh:=
 (D7 (p0.1,p0.2.1,()) (p1.1,p1.2.1,())).bind fun u1=>
 cond (!u1.1.1)
  (some ((((0,(),()),false,()),()),([],())))
 ((Ct (p1.1,p1.2.1,())).bind fun u2=>
 R5 p2 0 0 [] u2.1.1.1 u2.2.1)
def H7(p0:ABD)(p1:ABF)(p2:Int):Option Gh:=KM (EM Ar) p0 p1 p2
abbrev IE:Type:=AB4×ABt
abbrev J3:Type:=Int→Int→Int→Int→Bool→List Int→ABB→List AAQ→Int→Int→Bool→List Int→ABB→List AAQ→Option IE
def Lh(R5:J3)(t2 t9 AM AO:Int)(CB:Bool)(b1:AAQ)(b2:ABB)(b3:List AAQ)(ADC ABb:Int)(ADO:Bool)(b5:AAQ)(b6:ABB)(b7:List AAQ):Option IE:=
 cond ((decide (t9<(b7.length:Int))))
  (if(0:Int)≤t9∧t9<(b7.length:Int)then(
  (E7 (b7.getD (t9.toNat) []) [t2]).bind fun u4=>
  if(0:Int)≤t9∧t9<(b7.length:Int)then(
  R5 t2 (AX (t9+1)) AM AO CB b1 b2 b3 ADC ABb ADO b5 b6 (b7.set (t9.toNat) u4.2.1))else none)else none)
 (some ((((ADC,ABb,(),(),ADO,(),()),true,()),()),(b5,b6,b7,())))
def FU:Nat→J3
 |0=>fun _ _ _ _ _ _ _ _ _ _ _ _ _ _=>none
 |n+1=>Lh (FU n)
def Lj(R5:J3)(p0:ABD)(p1:ABE)(p2:Int):Option IE:=
 (E8 (p0.1,p0.2.1,()) (p1.1,p1.2.1,p1.2.2.1,p1.2.2.2.1,p1.2.2.2.2.1,p1.2.2.2.2.2.1,())).bind fun u1=>
 cond (!u1.1.1)
  (some ((((0,0,(),(),false,(),()),false,()),()),([],[],[],())))
 ((CP (p1.1,p1.2.1,p1.2.2.1,p1.2.2.2.1,p1.2.2.2.2.1,p1.2.2.2.2.2.1,())).bind fun u2=>
 R5 p2 0 0 0 false [] [] [] u2.1.1.1 u2.1.1.2.1 u2.1.1.2.2.2.2.1 u2.2.1 u2.2.2.1 u2.2.2.2.1)
def Ju(p0:ABD)(p1:ABE)(p2:Int):Option IE:=Lj (FU Ar) p0 p1 p2
abbrev Fc:Type:=ABS×ADN
abbrev Js:Type:=Int→List Int→AAX→List Int→AAY→AA9→AA_→ABA→AA8→Int→Int→Bool→List Int→Int→Int→Int→Int→List UInt8→Int→Int→Bool→List Int→AAX→List Int→AAY→AA9→AA_→ABA→AA8→Option Fc
abbrev JD:Type:=Int→List Int→AAX→List Int→AAY→AA9→AA_→ABA→AA8→Int→Int→Bool→List Int→Int→Int→Int→Int→List UInt8→Int→Int→Bool→List Int→AAX→List Int→AAY→AA9→AA_→ABA→AA8→Option Fc
def O4(R7:Js)(XZ:JD)(t7:Int)(b0:AAQ)(b1:AAX)(b2:AAQ)(b3:AAY)(b4:AA9)(b5:AA_)(b6:ABA)(b7:AA8)(B9 CF:Int)(BI:Bool)(b9:AAQ)(jc C5 jo jS:Int)(ju:AAh)(js jD:Int)(cr:Bool)(DA:AAQ)(EV:AAX)(Ec:AAQ)(DQ:AAY)(Di:AA9)(Dx:AA_)(Qu:ABA)(dk:AA8):Option Fc:=
 cond ((decide (t7<(b4.length:Int))))
  (if(0:Int)≤t7∧t7<(b4.length:Int)then(
  (H7 (b0,B9,()) ((b4.getD (t7.toNat) (0,[],())).1,(b4.getD (t7.toNat) (0,[],())).2.1,()) C5).bind fun u5=>
  if(0:Int)≤t7∧t7<(b4.length:Int)then(
  R7 (AX (t7+1)) b0 b1 b2 b3 (b4.set (t7.toNat) (u5.1.1.1.1,u5.2.1,())) b5 b6 b7 B9 CF BI b9 jc C5 jo jS ju js jD cr DA EV Ec DQ Di Dx Qu dk)else none)else none)
 (XZ 0 b0 b1 b2 b3 b4 b5 b6 b7 B9 CF BI b9 jc C5 jo jS ju js jD cr DA EV Ec DQ Di Dx Qu dk)
def Nd(R7:Js)(XZ:JD)(t8:Int)(b0:AAQ)(b1:AAX)(b2:AAQ)(b3:AAY)(b4:AA9)(b5:AA_)(b6:ABA)(b7:AA8)(B9 CF:Int)(BI:Bool)(b9:AAQ)(jc C5 jo jS:Int)(ju:AAh)(js jD:Int)(cr:Bool)(DA:AAQ)(EV:AAX)(Ec:AAQ)(DQ:AAY)(Di:AA9)(Dx:AA_)(Qu:ABA)(dk:AA8):Option Fc:=
 cond ((decide (t8<(b5.length:Int))))
  (if(0:Int)≤t8∧t8<(b5.length:Int)then(
  (Ju (b0,B9,()) ((b5.getD (t8.toNat) (0,0,[],[],false,[],())).1,(b5.getD (t8.toNat) (0,0,[],[],false,[],())).2.1,(b5.getD (t8.toNat) (0,0,[],[],false,[],())).2.2.1,(b5.getD (t8.toNat) (0,0,[],[],false,[],())).2.2.2.1,(b5.getD (t8.toNat) (0,0,[],[],false,[],())).2.2.2.2.1,(b5.getD (t8.toNat) (0,0,[],[],false,[],())).2.2.2.2.2.1,()) C5).bind fun u8=>
  if(0:Int)≤t8∧t8<(b5.length:Int)then(
  XZ (AX (t8+1)) b0 b1 b2 b3 b4 (b5.set (t8.toNat) (u8.1.1.1.1,u8.1.1.1.2.1,u8.2.1,u8.2.2.1,u8.1.1.1.2.2.2.2.1,u8.2.2.2.1,())) b6 b7 B9 CF BI b9 jc C5 jo jS ju js jD cr DA EV Ec DQ Di Dx Qu dk)else none)else none)
 (cond (BI)
  (some (((((),B9,(),(),(),CF,(),(),(),(),true,()),0,()),()),(b0,b1,(),b3,b4,b5,b6,b7,b9,())))
 ((Cr (b0,B9,()) b9).bind fun Ft=>
 some (((((),B9,(),(),(),CF,(),(),(),(),Ft.1.1,()),0,()),()),(b0,b1,(),b3,b4,b5,b6,b7,b9,()))))
mutual
def F7:Nat→Js
 |0=>fun _ _ _ _ _ _ _ _ _ _ _ _ _ _ _ _ _ _ _ _ _ _ _ _ _ _ _ _ _=>none
 |n+1=>O4 (F7 n) (FC n)
def FC:Nat→JD
 |0=>fun _ _ _ _ _ _ _ _ _ _ _ _ _ _ _ _ _ _ _ _ _ _ _ _ _ _ _ _ _=>none
 |n+1=>Nd (F7 n) (FC n)
end
def O3(R7:Js)(XZ:JD)(BH BM:Int)(Ak:Bool)(p1:ABJ)(b0:AAQ)(b1:AAX)(b2:AAQ)(b3:AAY)(b4:AA9)(b5:AA_)(b6:ABA)(b7:AA8):Option Fc:=
 (EA (b0,BH,b1,b2,b3,BM,b4,b5,b6,b7,Ak,()) p1.2.1).bind fun u1=>
 cond (u1.1.1 !=0)
  (some (((((),BH,(),(),(),BM,(),(),(),(),Ak,()),u1.1.1,()),()),(b0,b1,(),b3,b4,b5,b6,b7,b2,())))
 (if(0:Int)≤p1.2.1∧p1.2.1<(b1.length:Int)then(
 (HP b2 p1.2.1).bind fun u3=>
 R7 0 b0 (b1.set (p1.2.1.toNat) ([],[],0,())) b2 b3 b4 b5 b6 b7 BH BM Ak u3.2.1 p1.1 p1.2.1 p1.2.2.1 p1.2.2.2.1 p1.2.2.2.2.1 0 0 false [] [] [] [] [] [] [] [])else none)
def OD(BH BM:Int)(Ak:Bool)(p1:ABJ)(b0:AAQ)(b1:AAX)(b2:AAQ)(b3:AAY)(b4:AA9)(b5:AA_)(b6:ABA)(b7:AA8):Option Fc:=O3 (F7 Ar) (FC Ar) BH BM Ak p1 b0 b1 b2 b3 b4 b5 b6 b7
abbrev ba:Type:=ABH×Unit
def Pw(p0:ABD)(p1:AAQ):Option ba:=
 (DX (p0.1,p0.2.1,()) p1).bind fun u1=>
 cond (u1.1.1)
  ((Cr (p0.1,p0.2.1,()) p1).bind fun u2=>
  some ((!u2.1.1,()),()))
 (some ((false,()),()))
abbrev Fy:Type:=ABQ×AC7
abbrev JA:Type:=AAX→Int→ABB→Option Fy
abbrev I8:Type:=AAX→Int→Int→ABB→Option Fy
def NQ(R3:JA)(R6:I8)(t0:AAX)(t4:Int)(b0:ABB):Option Fy:=
 cond ((decide (t4<(t0.length:Int))))
  (R6 t0 t4 0 b0)
 (some (((),()),(b0,())))
def NS(R3:JA)(R6:I8)(t0:AAX)(t4 t5:Int)(b0:ABB):Option Fy:=
 if(0:Int)≤t4∧t4<(t0.length:Int)then(
 cond (decide (t5<(((t0.getD (t4.toNat) ([],[],0,())).1).length:Int)))
  (if(0:Int)≤t4∧t4<(t0.length:Int)then(
  if(0:Int)≤t5∧t5<(((t0.getD (t4.toNat) ([],[],0,())).1).length:Int)then(
  (KH b0 ((((t0.getD (t4.toNat) ([],[],0,())).1).getD (t5.toNat) (0,0,false,[],())).1,(((t0.getD (t4.toNat) ([],[],0,())).1).getD (t5.toNat) (0,0,false,[],())).2.1,(((t0.getD (t4.toNat) ([],[],0,())).1).getD (t5.toNat) (0,0,false,[],())).2.2.1,(((t0.getD (t4.toNat) ([],[],0,())).1).getD (t5.toNat) (0,0,false,[],())).2.2.2.1,())).bind fun u3=>
  R6 t0 t4 (AX (t5+1)) u3.2.1)else none)else none)
 (R3 t0 (AX (t4+1)) b0))else none
mutual
def FB:Nat→JA
 |0=>fun _ _ _=>none
 |n+1=>NQ (FB n) (FE n)
def FE:Nat→I8
 |0=>fun _ _ _ _=>none
 |n+1=>NS (FB n) (FE n)
end
def T0(R3:JA)(R6:I8)(p0:AAX):Option Fy:=
 R3 p0 0 []
def Qa(p0:AAX):Option Fy:=T0 (FB Ar) (FE Ar) p0
abbrev Ib:Type:=ABj×(AAX×ABB×ABB×Unit)
abbrev ON:Type:=List Int→Int→Int→AAX→Int→ABB→ABB→Int→ABB→ABB→AAX→Option Ib
abbrev MM:Type:=Int→Int→AAX→Int→ABB→ABB→Int→ABB→ABB→AAX→Option Ib
def SZ(R6:ON)(XZ:MM)(t2:AAQ)(t4 t14:Int)(b0:AAX)(DB:Int)(b2 b3:ABB)(Un:Int)(b5 b6:ABB)(b7:AAX):Option Ib:=
 cond ((decide (t14<(b0.length:Int))))
  ((Bu t2 t14).bind fun u6=>
  cond (!u6.1.1)
   (if(0:Int)≤t14∧t14<(b0.length:Int)then(
   if b7.length+1≤Cg then(
   R6 t2 t4 (AX (t14+1)) b0 DB b2 b3 Un b5 b6 (b7++[((b0.getD (t14.toNat) ([],[],0,())).1,(b0.getD (t14.toNat) ([],[],0,())).2.1,(b0.getD (t14.toNat) ([],[],0,())).2.2.1,())]))else none)else none)
  (R6 t2 t4 (AX (t14+1)) b0 DB b2 b3 Un b5 b6 b7))
 (XZ t4 0 b0 DB b2 b3 Un b5 b6 b7)
def Qr(R6:ON)(XZ:MM)(t4 t15:Int)(b0:AAX)(DB:Int)(b2 b3:ABB)(Un:Int)(b5 b6:ABB)(b7:AAX):Option Ib:=
 cond ((decide (t15<(b7.length:Int))))
  (if(0:Int)≤t15∧t15<(b7.length:Int)then(
  (De ((b7.getD (t15.toNat) ([],[],0,())).1,(b7.getD (t15.toNat) ([],[],0,())).2.1,(b7.getD (t15.toNat) ([],[],0,())).2.2.1,())).bind fun u9=>
  cond (!u9.1.1)
   (some (((((),(),Un,()),false,()),()),(b0,b5,b6,())))
  (XZ t4 (AX (t15+1)) b0 DB b2 b3 Un b5 b6 b7))else none)
 ((Qa b7).bind fun Ft=>
 (De (Ft.2.1,[],t4,())).bind fun Fm=>
 cond (!Fm.1.1)
  (some (((((),(),Un,()),false,()),()),(b0,b5,b6,())))
 (some (((((),(),t4,()),true,()),()),(b0,Ft.2.1,[],()))))
mutual
def JE:Nat→ON
 |0=>fun _ _ _ _ _ _ _ _ _ _ _=>none
 |n+1=>SZ (JE n) (Ht n)
def Ht:Nat→MM
 |0=>fun _ _ _ _ _ _ _ _ _ _=>none
 |n+1=>Qr (JE n) (Ht n)
end
def SC(R6:ON)(XZ:MM)(p0:ABD)(p2:AAQ)(p3 p4:Int)(b0:AAX):Option Ib:=
 (DT (p0.1,p0.2.1,())).bind fun u1=>
 cond (!u1.1.1)
  (some (((((),(),0,()),false,()),()),(b0,[],[],())))
 (cond (((b0.length:Int) !=(p0.1.length:Int)))
  (some (((((),(),0,()),false,()),()),(b0,[],[],())))
 ((Pw (p0.1,p0.2.1,()) p2).bind fun u3=>
 cond (!u3.1.1)
  (some (((((),(),0,()),false,()),()),(b0,[],[],())))
 ((Bu p2 p3).bind fun u4=>
 cond (!u4.1.1)
  (some (((((),(),0,()),false,()),()),(b0,[],[],())))
 (R6 p2 p4 0 b0 0 [] [] 0 [] [] []))))
def Ts(p0:ABD)(p2:AAQ)(p3 p4:Int)(b0:AAX):Option Ib:=SC (JE Ar) (Ht Ar) p0 p2 p3 p4 b0
abbrev Yw:Type:=ABS×ADN
def OA(BH BM:Int)(Ak:Bool)(p1:ABJ)(b0:AAQ)(b1:AAX)(b2:AAQ)(b3:AAY)(b4:AA9)(b5:AA_)(b6:ABA)(b7:AA8):Option Yw:=
 (Bu b2 p1.2.1).bind fun u1=>
 cond (!u1.1.1)
  (some (((((),BH,(),(),(),BM,(),(),(),(),Ak,()),2,()),()),(b0,b1,(),b3,b4,b5,b6,b7,b2,())))
 ((HM (AX ((b3.length:Int)-1)) 0).bind fun u3=>
 (Ts (b0,BH,()) b2 p1.2.1 u3.1.1 b1).bind fun u4=>
 cond (!u4.1.1.2.1)
  (some (((((),BH,(),(),(),BM,(),(),(),(),Ak,()),4,()),()),(b0,u4.2.1,(),b3,b4,b5,b6,b7,b2,())))
 (if(0:Int)≤p1.2.1∧p1.2.1<(u4.2.1.length:Int)then(
 (E7 b2 [p1.2.1]).bind fun u6=>
 some (((((),BH,(),(),(),BM,(),(),(),(),Ak,()),0,()),()),(b0,(u4.2.1.set (p1.2.1.toNat) (u4.2.2.1,u4.2.2.2.1,u4.1.1.1.2.2.1,())),(),b3,b4,b5,b6,b7,u6.2.1,())))else none))
abbrev Zv:Type:=(ACu×Unit)×ABt
def VY(p0 p1:Int):Option Zv:=
 some (((p1,p0,(),(),false,(),()),()),([],[],[],()))
abbrev Tc:Type:=ABS×(List Int×AAX×List Int×AAY×AA9×Unit×ABA×AA8×AA_×Unit)
def N6(BH BM:Int)(Ak:Bool)(b0:AAQ)(b1:AAX)(b2:AAQ)(b3:AAY)(b4:AA9)(b5:AA_)(b6:ABA)(b7:AA8):Option Tc:=
 (FY (b3,BM,())).bind fun u1=>
 cond ((decide ((b3.length:Int)<2)))
  (some (((((),BH,(),(),(),BM,(),(),(),(),Ak,()),2,()),()),(b0,b1,b2,b3,b4,(),b6,b7,b5,())))
 (cond ((u1.1.1==(b3.length:Int)))
  (some (((((),BH,(),(),(),BM,(),(),(),(),Ak,()),2,()),()),(b0,b1,b2,b3,b4,(),b6,b7,b5,())))
 (cond ((decide ((b5.length:Int)>0)))
  (some (((((),BH,(),(),(),BM,(),(),(),(),Ak,()),4,()),()),(b0,b1,b2,b3,b4,(),b6,b7,b5,())))
 ((VY u1.1.1 (b3.length:Int)).bind fun u5=>
 some (((((),BH,(),(),(),BM,(),(),(),(),Ak,()),0,()),()),(b0,b1,b2,b3,b4,(),b6,b7,[(u5.1.1.1,u5.1.1.2.1,u5.2.1,u5.2.2.1,u5.1.1.2.2.2.2.1,u5.2.2.2.1,())],())))))
abbrev Wj:Type:=ABj×ABo
def LX(p0:ABG)(p1:Int):Option Wj:=
 (De (p0.1,p0.2.1,p0.2.2.1,())).bind fun u1=>
 cond (!u1.1.1)
  (some (((((),(),0,()),false,()),()),([],[],())))
 ((Il (p0.1,p0.2.1,p0.2.2.1,())).bind fun u2=>
 cond (!u2.1.1.2.1)
  ((Cc (p0.1,p0.2.1,p0.2.2.1,())).bind fun u3=>
  some (((((),(),u3.1.1.2.2.1,()),false,()),()),(u3.2.1,u3.2.2.1,())))
 ((BE p1 0 30).bind fun u4=>
 cond (!u4.1.1)
  ((Cc (p0.1,p0.2.1,p0.2.2.1,())).bind fun u5=>
  some (((((),(),u5.1.1.2.2.1,()),false,()),()),(u5.2.1,u5.2.2.1,())))
 ((HM u2.1.1.1.2.2.1 p1).bind fun u6=>
 some (((((),(),u6.1.1,()),true,()),()),(u2.2.1,u2.2.2.1,())))))
abbrev Jn:Type:=ABQ×AC7
abbrev L1:Type:=Int→Int→ABB→ABB→Int→ABB→Option Jn
def JT(R3:L1)(t1 t6:Int)(AM AO:ABB)(AU:Int)(b1:ABB):Option Jn:=
 cond ((decide (t6<(AM.length:Int))))
  ((De (AM,AO,AU,())).bind fun u2=>
  cond (u2.1.1)
   (if(0:Int)≤t6∧t6<(AM.length:Int)then(
   (Bd ((AM.getD (t6.toNat) (0,0,false,[],())).1)).bind fun u4=>
   cond (u4.1.1==t1)
    (if(0:Int)≤t6∧t6<(AM.length:Int)then(
    if b1.length+1≤Cg then(
    R3 t1 (AX (t6+1)) AM AO AU (b1++[((AM.getD (t6.toNat) (0,0,false,[],())).1,(AM.getD (t6.toNat) (0,0,false,[],())).2.1,(AM.getD (t6.toNat) (0,0,false,[],())).2.2.1,(AM.getD (t6.toNat) (0,0,false,[],())).2.2.2.1,())]))else none)else none)
   (R3 t1 (AX (t6+1)) AM AO AU b1))else none)
  (some (((),()),(b1,()))))
 (some (((),()),(b1,())))
def FD:Nat→L1
 |0=>fun _ _ _ _ _ _=>none
 |n+1=>JT (FD n)
def NP(R3:L1)(p0:ABG)(p1:Int):Option Jn:=
 R3 p1 0 p0.1 p0.2.1 p0.2.2.1 []
def MW(p0:ABG)(p1:Int):Option Jn:=NP (FD Ar) p0 p1
abbrev Jq:Type:=AB4×ABt
abbrev MA:Type:=ABB→Int→List Int→Int→Int→Int→List Int→ABB→Bool→List AAQ→Int→Int→Bool→List Int→ABB→List AAQ→Int→Int→Bool→List Int→ABB→List AAQ→Option Jq
def NW(R6:MA)(t3:ABB)(t11:Int)(AM:AAQ)(AO B4 BK:Int)(DB:AAQ)(Dj:ABB)(FO:Bool)(Ds:List AAQ)(ay kN:Int)(j5:Bool)(b3:AAQ)(b4:ABB)(b5:List AAQ)(sN tX:Int)(tb:Bool)(b7:AAQ)(b8:ABB)(b9:List AAQ):Option Jq:=
 cond ((decide (t11<(t3.length:Int))))
  (if(0:Int)≤t11∧t11<(t3.length:Int)then(
  (Bd ((t3.getD (t11.toNat) (0,0,false,[],())).1)).bind fun u6=>
  cond (u6.1.1==BK)
   (if(0:Int)≤t11∧t11<(t3.length:Int)then(
   (KH b8 ((t3.getD (t11.toNat) (0,0,false,[],())).1,(t3.getD (t11.toNat) (0,0,false,[],())).2.1,(t3.getD (t11.toNat) (0,0,false,[],())).2.2.1,(t3.getD (t11.toNat) (0,0,false,[],())).2.2.2.1,())).bind fun u7=>
   R6 t3 (AX (t11+1)) AM AO B4 BK DB Dj FO Ds ay kN j5 b3 b4 b5 sN tX tb b7 u7.2.1 b9)else none)
  (R6 t3 (AX (t11+1)) AM AO B4 BK DB Dj FO Ds ay kN j5 b3 b4 b5 sN tX tb b7 b8 b9))else none)
 (cond (FO)
  ((CP (B4,BK,DB,Dj,FO,Ds,())).bind fun u8=>
  some ((((u8.1.1.1,u8.1.1.2.1,(),(),u8.1.1.2.2.2.2.1,(),()),false,()),()),(u8.2.1,u8.2.2.1,u8.2.2.2.1,())))
 ((E8 (AM,AO,()) (sN,tX,b7,b8,tb,b9,())).bind fun u9=>
 cond (!u9.1.1)
  ((CP (B4,BK,DB,Dj,FO,Ds,())).bind fun Ft=>
  some ((((Ft.1.1.1,Ft.1.1.2.1,(),(),Ft.1.1.2.2.2.2.1,(),()),false,()),()),(Ft.2.1,Ft.2.2.1,Ft.2.2.2.1,())))
 (some ((((sN,tX,(),(),tb,(),()),true,()),()),(b7,b8,b9,())))))
def Gx:Nat→MA
 |0=>fun _ _ _ _ _ _ _ _ _ _ _ _ _ _ _ _ _ _ _ _ _ _=>none
 |n+1=>NW (Gx n)
def NR(R6:MA)(p0:ABD)(p1:ABE)(p2:Int)(p3:ABB):Option Jq:=
 (E8 (p0.1,p0.2.1,()) (p1.1,p1.2.1,p1.2.2.1,p1.2.2.2.1,p1.2.2.2.2.1,p1.2.2.2.2.2.1,())).bind fun u1=>
 cond (!u1.1.1)
  (some ((((0,0,(),(),false,(),()),false,()),()),([],[],[],())))
 ((CP (p1.1,p1.2.1,p1.2.2.1,p1.2.2.2.1,p1.2.2.2.2.1,p1.2.2.2.2.2.1,())).bind fun u2=>
 (HP u2.2.1 p2).bind fun u3=>
 R6 p3 0 p0.1 p0.2.1 p1.1 p1.2.1 p1.2.2.1 p1.2.2.2.1 p1.2.2.2.2.1 p1.2.2.2.2.2.1 0 0 false [] [] [] u2.1.1.1 u2.1.1.2.1 u2.1.1.2.2.2.2.1 u3.2.1 u2.2.2.1 u2.2.2.2.1)
def MJ(p0:ABD)(p1:ABE)(p2:Int)(p3:ABB):Option Jq:=NR (Gx Ar) p0 p1 p2 p3
abbrev Yx:Type:=ABS×ABV
def Nk(BH BM:Int)(Ak:Bool)(p1:ABJ)(b0:AAQ)(b1:AAX)(b2:AAQ)(b3:AAY)(b4:AA9)(b5:AA_)(b6:ABA)(b7:AA8):Option Yx:=
 cond (((b5.length:Int)==0))
  (some (((((),BH,(),(),(),BM,(),(),(),(),Ak,()),2,()),()),(b0,b1,b2,b3,b4,b5,b6,b7,())))
 (if(0:Int)≤(0:Int)∧(0:Int)<(b5.length:Int)then(
 (EA (b0,BH,b1,b2,b3,BM,b4,b5,b6,b7,Ak,()) p1.2.1).bind fun u2=>
 cond (u2.1.1 !=0)
  (some (((((),BH,(),(),(),BM,(),(),(),(),Ak,()),u2.1.1,()),()),(b0,b1,b2,b3,b4,b5,b6,b7,())))
 ((BW (b3,BM,()) ((b5.getD 0 (0,0,[],[],false,[],())).2.1)).bind fun u4=>
 (Bu u4.2.1 p1.2.1).bind fun u5=>
 cond (!u5.1.1)
  (some (((((),BH,(),(),(),BM,(),(),(),(),Ak,()),2,()),()),(b0,b1,b2,b3,b4,b5,b6,b7,())))
 (if(0:Int)≤p1.2.1∧p1.2.1<(b1.length:Int)then(
 (LX ((b1.getD (p1.2.1.toNat) ([],[],0,())).1,(b1.getD (p1.2.1.toNat) ([],[],0,())).2.1,(b1.getD (p1.2.1.toNat) ([],[],0,())).2.2.1,()) (AX (((b5.getD 0 (0,0,[],[],false,[],())).1)-1))).bind fun u7=>
 (MW (u7.2.1,u7.2.2.1,u7.1.1.1.2.2.1,()) ((b5.getD 0 (0,0,[],[],false,[],())).2.1)).bind fun u9=>
 (MJ (b0,BH,()) ((b5.getD 0 (0,0,[],[],false,[],())).1,(b5.getD 0 (0,0,[],[],false,[],())).2.1,(b5.getD 0 (0,0,[],[],false,[],())).2.2.1,(b5.getD 0 (0,0,[],[],false,[],())).2.2.2.1,(b5.getD 0 (0,0,[],[],false,[],())).2.2.2.2.1,(b5.getD 0 (0,0,[],[],false,[],())).2.2.2.2.2.1,()) p1.2.1 u9.2.1).bind fun Ft=>
 cond (!u7.1.1.2.1)
  (some (((((),BH,(),(),(),BM,(),(),(),(),Ak,()),4,()),()),(b0,b1,b2,b3,b4,b5,b6,b7,())))
 (cond (!Ft.1.1.2.1)
  (some (((((),BH,(),(),(),BM,(),(),(),(),Ak,()),4,()),()),(b0,b1,b2,b3,b4,b5,b6,b7,())))
 (if(0:Int)≤p1.2.1∧p1.2.1<(b1.length:Int)then(
 if(0:Int)≤(0:Int)∧(0:Int)<(b5.length:Int)then(
 some (((((),BH,(),(),(),BM,(),(),(),(),Ak,()),0,()),()),(b0,(b1.set (p1.2.1.toNat) (u7.2.1,u7.2.2.1,u7.1.1.1.2.2.1,())),b2,b3,b4,(b5.set 0 (Ft.1.1.1.1,Ft.1.1.1.2.1,Ft.2.1,Ft.2.2.1,Ft.1.1.1.2.2.2.2.1,Ft.2.2.2.1,())),b6,b7,())))else none)else none)))else none)))else none)
abbrev bH:Type:=ABQ×ABd
def GQ(p0 p1:AAQ):Option bH:=
 (E7 p0 p1).bind fun u1=>
 (E7 p0 u1.2.1).bind fun u2=>
 some (((),()),(u2.2.1,()))
abbrev az:Type:=ABH×Unit
def GH(p0:ABD)(p1 p2:AAQ):Option az:=
 (Cr (p0.1,p0.2.1,()) p1).bind fun u1=>
 cond (!u1.1.1)
  (some ((false,()),()))
 ((DX (p0.1,p0.2.1,()) p2).bind fun u2=>
 cond (!u2.1.1)
  (some ((false,()),()))
 ((E7 p2 p1).bind fun u3=>
 cond (decide ((u3.2.1.length:Int)>0))
  (some ((false,()),()))
 ((E7 p1 p2).bind fun u5=>
 (Me (p0.1,p0.2.1,()) u5.2.1).bind fun u6=>
 some (((decide (u6.1.1<p0.2.1)),()),()))))
abbrev Jv:Type:=AB4×ABt
abbrev Lv:Type:=Int→Int→Int→List Int→ABB→Bool→List AAQ→Int→Int→Bool→List Int→ABB→List AAQ→Int→Int→Bool→List Int→ABB→List AAQ→Option Jv
def Nb(R8:Lv)(t9 AM AO:Int)(AU:AAQ)(Bz:ABB)(CB:Bool)(Et:List AAQ)(B4 BK:Int)(FO:Bool)(b2:AAQ)(b3:ABB)(b4:List AAQ)(nw nA:Int)(mN:Bool)(b6:AAQ)(b7:ABB)(b8:List AAQ):Option Jv:=
 (KA (AM,AO,AU,Bz,CB,Et,())).bind fun u5=>
 cond (decide (t9<u5.1.1))
  (if b8.length+1≤Cg then(
  R8 (AX (t9+1)) AM AO AU Bz CB Et B4 BK FO b2 b3 b4 nw nA mN b6 b7 (b8++[[]]))else none)
 (some ((((nw,nA,(),(),mN,(),()),true,()),()),(b6,b7,b8,())))
def HC:Nat→Lv
 |0=>fun _ _ _ _ _ _ _ _ _ _ _ _ _ _ _ _ _ _ _=>none
 |n+1=>Nb (HC n)
def NO(R8:Lv)(p0:ABD)(p1:ABE)(p2:AAQ):Option Jv:=
 (E8 (p0.1,p0.2.1,()) (p1.1,p1.2.1,p1.2.2.1,p1.2.2.2.1,p1.2.2.2.2.1,p1.2.2.2.2.2.1,())).bind fun u1=>
 cond (!u1.1.1)
  (some ((((0,0,(),(),false,(),()),false,()),()),([],[],[],())))
 ((CP (p1.1,p1.2.1,p1.2.2.1,p1.2.2.2.1,p1.2.2.2.2.1,p1.2.2.2.2.2.1,())).bind fun u2=>
 cond (p1.2.2.2.2.1)
  (some ((((u2.1.1.1,u2.1.1.2.1,(),(),u2.1.1.2.2.2.2.1,(),()),false,()),()),(u2.2.1,u2.2.2.1,u2.2.2.2.1,())))
 ((GQ p1.2.2.1 p2).bind fun u3=>
 (GH (p0.1,p0.2.1,()) p2 u3.2.1).bind fun u4=>
 cond (!u4.1.1)
  (some ((((u2.1.1.1,u2.1.1.2.1,(),(),u2.1.1.2.2.2.2.1,(),()),false,()),()),(u2.2.1,u2.2.2.1,u2.2.2.2.1,())))
 (R8 0 p1.1 p1.2.1 p1.2.2.1 p1.2.2.2.1 p1.2.2.2.2.1 p1.2.2.2.2.2.1 0 0 false [] [] [] u2.1.1.1 u2.1.1.2.1 true u2.2.1 u2.2.2.1 u2.2.2.2.1)))
def MU(p0:ABD)(p1:ABE)(p2:AAQ):Option Jv:=NO (HC Ar) p0 p1 p2
abbrev ZV:Type:=ABS×ABV
def Nq(BH BM:Int)(Ak:Bool)(b0:AAQ)(b1:AAX)(b2:AAQ)(b3:AAY)(b4:AA9)(b5:AA_)(b6:ABA)(b7:AA8):Option ZV:=
 cond (((b5.length:Int)==0))
  (some (((((),BH,(),(),(),BM,(),(),(),(),Ak,()),2,()),()),(b0,b1,b2,b3,b4,b5,b6,b7,())))
 (if(0:Int)≤(0:Int)∧(0:Int)<(b5.length:Int)then(
 if(0:Int)≤(0:Int)∧(0:Int)<(b5.length:Int)then(
 (BW (b3,BM,()) ((b5.getD 0 (0,0,[],[],false,[],())).2.1)).bind fun u3=>
 (MU (b0,BH,()) ((b5.getD 0 (0,0,[],[],false,[],())).1,(b5.getD 0 (0,0,[],[],false,[],())).2.1,(b5.getD 0 (0,0,[],[],false,[],())).2.2.1,(b5.getD 0 (0,0,[],[],false,[],())).2.2.2.1,(b5.getD 0 (0,0,[],[],false,[],())).2.2.2.2.1,(b5.getD 0 (0,0,[],[],false,[],())).2.2.2.2.2.1,()) u3.2.1).bind fun u4=>
 cond (!u4.1.1.2.1)
  (some (((((),BH,(),(),(),BM,(),(),(),(),Ak,()),4,()),()),(b0,b1,b2,b3,b4,b5,b6,b7,())))
 (if(0:Int)≤(0:Int)∧(0:Int)<(b5.length:Int)then(
 some (((((),BH,(),(),(),BM,(),(),(),(),Ak,()),0,()),()),(b0,b1,b2,b3,b4,(b5.set 0 (u4.1.1.1.1,u4.1.1.1.2.1,u4.2.1,u4.2.2.1,u4.1.1.1.2.2.2.2.1,u4.2.2.2.1,())),b6,b7,())))else none))else none)else none)
abbrev bY:Type:=ABS×ABV
def P2(BH BM:Int)(Ak:Bool)(p1:ABJ)(b0:AAQ)(b1:AAX)(b2:AAQ)(b3:AAY)(b4:AA9)(b5:AA_)(b6:ABA)(b7:AA8):Option bY:=
 cond (((b5.length:Int)==0))
  (some (((((),BH,(),(),(),BM,(),(),(),(),Ak,()),2,()),()),(b0,b1,b2,b3,b4,b5,b6,b7,())))
 (if(0:Int)≤(0:Int)∧(0:Int)<(b5.length:Int)then(
 (CX ((b5.getD 0 (0,0,[],[],false,[],())).1,(b5.getD 0 (0,0,[],[],false,[],())).2.1,(b5.getD 0 (0,0,[],[],false,[],())).2.2.1,(b5.getD 0 (0,0,[],[],false,[],())).2.2.2.1,(b5.getD 0 (0,0,[],[],false,[],())).2.2.2.2.1,(b5.getD 0 (0,0,[],[],false,[],())).2.2.2.2.2.1,()) p1.2.2.1).bind fun u2=>
 cond (!u2.1.1.2.1)
  (some (((((),BH,(),(),(),BM,(),(),(),(),Ak,()),2,()),()),(b0,b1,b2,b3,b4,b5,b6,b7,())))
 ((EA (b0,BH,b1,b2,b3,BM,b4,b5,b6,b7,Ak,()) p1.2.2.2.1).bind fun u3=>
 cond (u3.1.1 !=0)
  (some (((((),BH,(),(),(),BM,(),(),(),(),Ak,()),u3.1.1,()),()),(b0,b1,b2,b3,b4,b5,b6,b7,())))
 (if(0:Int)≤(0:Int)∧(0:Int)<(b5.length:Int)then(
 (BW (b3,BM,()) ((b5.getD 0 (0,0,[],[],false,[],())).2.1)).bind fun u5=>
 (Bu u5.2.1 p1.2.2.2.1).bind fun u6=>
 cond (!u6.1.1)
  (some (((((),BH,(),(),(),BM,(),(),(),(),Ak,()),2,()),()),(b0,b1,b2,b3,b4,b5,b6,b7,())))
 (if(0:Int)≤p1.2.2.2.1∧p1.2.2.2.1<(b1.length:Int)then(
 (Ji ((b1.getD (p1.2.2.2.1.toNat) ([],[],0,())).1,(b1.getD (p1.2.2.2.1.toNat) ([],[],0,())).2.1,(b1.getD (p1.2.2.2.1.toNat) ([],[],0,())).2.2.1,()) (u2.1.1.1.1,u2.1.1.1.2.1,u2.1.1.1.2.2.1,u2.1.1.1.2.2.2.1,())).bind fun u7=>
 cond (!u7.1.1.2.1)
  (some (((((),BH,(),(),(),BM,(),(),(),(),Ak,()),4,()),()),(b0,b1,b2,b3,b4,b5,b6,b7,())))
 (if(0:Int)≤p1.2.2.2.1∧p1.2.2.2.1<(b1.length:Int)then(
 some (((((),BH,(),(),(),BM,(),(),(),(),Ak,()),0,()),()),(b0,(b1.set (p1.2.2.2.1.toNat) (u7.2.1,u7.2.2.1,u7.1.1.1.2.2.1,())),b2,b3,b4,b5,b6,b7,())))else none))else none))else none)))else none)
abbrev I7:Type:=ABH×Unit
abbrev LV:Type:=Int→List Int→Int→Int→Int→List Int→ABB→Bool→List AAQ→Option I7
def Mk(R4:LV)(t5:Int)(AM:AAQ)(AO B4 BK:Int)(DB:AAQ)(Dj:ABB)(FO:Bool)(Ds:List AAQ):Option I7:=
 cond ((decide (t5<(Ds.length:Int))))
  (if(0:Int)≤t5∧t5<(Ds.length:Int)then(
  (Cr (AM,AO,()) (Ds.getD (t5.toNat) [])).bind fun u3=>
  cond (!u3.1.1)
   (some ((false,()),()))
  (R4 (AX (t5+1)) AM AO B4 BK DB Dj FO Ds))else none)
 (some ((true,()),()))
def GG:Nat→LV
 |0=>fun _ _ _ _ _ _ _ _ _=>none
 |n+1=>Mk (GG n)
def Mu(R4:LV)(p0:ABD)(p1:ABE):Option I7:=
 (E8 (p0.1,p0.2.1,()) (p1.1,p1.2.1,p1.2.2.1,p1.2.2.2.1,p1.2.2.2.2.1,p1.2.2.2.2.2.1,())).bind fun u1=>
 cond (!u1.1.1)
  (some ((false,()),()))
 (cond (!p1.2.2.2.2.1)
  (some ((false,()),()))
 (R4 0 p0.1 p0.2.1 p1.1 p1.2.1 p1.2.2.1 p1.2.2.2.1 p1.2.2.2.2.1 p1.2.2.2.2.2.1))
def LA(p0:ABD)(p1:ABE):Option I7:=Mu (GG Ar) p0 p1
abbrev Xu:Type:=AC_×ACP
def MR(p0:ABD)(p1:ABK)(p2 p3:Int):Option Xu:=
 (HI (p0.1,p0.2.1,()) (p1.1,p1.2.1,())).bind fun u1=>
 cond (!u1.1.1)
  (some (((((),0,()),false,()),()),([],())))
 ((DK (p1.1,p1.2.1,())).bind fun u2=>
 (FY (p1.1,p1.2.1,())).bind fun u3=>
 cond ((p2 !=(p1.1.length:Int)))
  (some (((((),u2.1.1.2.1,()),false,()),()),(u2.2.1,())))
 (cond (u3.1.1==0)
  (some (((((),u2.1.1.2.1,()),false,()),()),(u2.2.1,())))
 (cond (p2==u3.1.1)
  (some (((((),u2.1.1.2.1,()),false,()),()),(u2.2.1,())))
 ((BE p3 0 60).bind fun u5=>
 cond (!u5.1.1)
  (some (((((),u2.1.1.2.1,()),false,()),()),(u2.2.1,())))
 (if(0:Int)≤AX (u3.1.1-1)∧AX (u3.1.1-1)<(u2.2.1.length:Int)then(
 let x6:AAY:=(u2.2.1.set ((AX (u3.1.1-1)).toNat) ((u2.2.1.getD ((AX (u3.1.1-1)).toNat) ([],false,0,())).1,true,(u2.2.1.getD ((AX (u3.1.1-1)).toNat) ([],false,0,())).2.2.1,()))
 if(0:Int)≤AX (u3.1.1-1)∧AX (u3.1.1-1)<(x6.length:Int)then(
 some (((((),u2.1.1.2.1,()),true,()),()),((x6.set ((AX (u3.1.1-1)).toNat) ((x6.getD ((AX (u3.1.1-1)).toNat) ([],false,0,())).1,(x6.getD ((AX (u3.1.1-1)).toNat) ([],false,0,())).2.1,p3,())),())))else none)else none)))))
abbrev SE:Type:=ABS×(List Int×AAX×List Int×Unit×AA9×Unit×ABA×AA8×AAY×AA_×Unit)
def MG(BH BM:Int)(Ak:Bool)(b0:AAQ)(b1:AAX)(b2:AAQ)(b3:AAY)(b4:AA9)(b5:AA_)(b6:ABA)(b7:AA8):Option SE:=
 cond (((b5.length:Int)==0))
  (some (((((),BH,(),(),(),BM,(),(),(),(),Ak,()),2,()),()),(b0,b1,b2,(),b4,(),b6,b7,b3,b5,())))
 (if(0:Int)≤(0:Int)∧(0:Int)<(b5.length:Int)then(
 (LA (b0,BH,()) ((b5.getD 0 (0,0,[],[],false,[],())).1,(b5.getD 0 (0,0,[],[],false,[],())).2.1,(b5.getD 0 (0,0,[],[],false,[],())).2.2.1,(b5.getD 0 (0,0,[],[],false,[],())).2.2.2.1,(b5.getD 0 (0,0,[],[],false,[],())).2.2.2.2.1,(b5.getD 0 (0,0,[],[],false,[],())).2.2.2.2.2.1,())).bind fun u2=>
 cond (!u2.1.1)
  (some (((((),BH,(),(),(),BM,(),(),(),(),Ak,()),5,()),()),(b0,b1,b2,(),b4,(),b6,b7,b3,b5,())))
 (if(0:Int)≤(0:Int)∧(0:Int)<(b5.length:Int)then(
 if(0:Int)≤(0:Int)∧(0:Int)<(b5.length:Int)then(
 (MR (b0,BH,()) (b3,BM,()) ((b5.getD 0 (0,0,[],[],false,[],())).1) (((b5.getD 0 (0,0,[],[],false,[],())).2.2.2.2.2.1).length:Int)).bind fun u5=>
 cond (!u5.1.1.2.1)
  (some (((((),BH,(),(),(),BM,(),(),(),(),Ak,()),4,()),()),(b0,b1,b2,(),b4,(),b6,b7,b3,b5,())))
 (some (((((),BH,(),(),(),u5.1.1.1.2.1,(),(),(),(),Ak,()),0,()),()),(b0,b1,b2,(),b4,(),b6,b7,u5.2.1,[],()))))else none)else none))else none)
abbrev Yv:Type:=AC_×ACP
def Ns(p0:ABD)(p1:ABK)(p2:Int):Option Yv:=
 (HI (p0.1,p0.2.1,()) (p1.1,p1.2.1,())).bind fun u1=>
 cond (!u1.1.1)
  (some (((((),0,()),false,()),()),([],())))
 ((DK (p1.1,p1.2.1,())).bind fun u2=>
 (C8 p2).bind fun u3=>
 cond (!u3.1.1)
  (some (((((),u2.1.1.2.1,()),false,()),()),(u2.2.1,())))
 ((Bd p2).bind fun u4=>
 cond ((decide (u4.1.1>(p1.1.length:Int))))
  (some (((((),u2.1.1.2.1,()),false,()),()),(u2.2.1,())))
 ((HM u2.1.1.2.1 p2).bind fun u6=>
 some (((((),u6.1.1,()),true,()),()),(u2.2.1,())))))
abbrev H5:Type:=ABO×Unit
abbrev J2:Type:=Int→Int→ABM→Option H5
def Lk(R2:J2)(t3 AM:Int)(AO:ABM):Option H5:=
 cond ((decide (t3<(AO.length:Int))))
  (if(0:Int)≤t3∧t3<(AO.length:Int)then(
  cond (((AO.getD (t3.toNat) ([],[],false,())).2.2.1))
   (R2 (AX (t3+1)) AM AO)
  (some ((t3,()),())))else none)
 (some ((t3,()),()))
def Fh:Nat→J2
 |0=>fun _ _ _=>none
 |n+1=>Lk (Fh n)
def Sg(R2:J2)(p0:ABF):Option H5:=
 R2 0 p0.1 p0.2.1
def M9(p0:ABF):Option H5:=Sg (Fh Ar) p0
abbrev ML:Type:=ABO×Unit
abbrev PE:Type:=Int→Int→List Int→Int→AAX→List Int→AAY→Int→AA9→AA_→ABA→AA8→Bool→Option ML
def P8(R2:PE)(t1 t5:Int)(AM:AAQ)(AO:Int)(AU:AAX)(Bz:AAQ)(CB:AAY)(Et:Int)(DD:AA9)(C4:AA_)(Ez:ABA)(FW:AA8)(DV:Bool):Option ML:=
 cond ((decide (t5<(DD.length:Int))))
  (if(0:Int)≤t5∧t5<(DD.length:Int)then(
  cond (((DD.getD (t5.toNat) (0,[],())).1)==t1)
   (if(0:Int)≤t5∧t5<(DD.length:Int)then(
   (M9 ((DD.getD (t5.toNat) (0,[],())).1,(DD.getD (t5.toNat) (0,[],())).2.1,())).bind fun u3=>
   some ((u3.1.1,()),()))else none)
  (R2 t1 (AX (t5+1)) AM AO AU Bz CB Et DD C4 Ez FW DV))else none)
 (some ((0,()),()))
def IW:Nat→PE
 |0=>fun _ _ _ _ _ _ _ _ _ _ _ _ _=>none
 |n+1=>P8 (IW n)
def Vr(R2:PE)(p0:List Int×Int×List ABG×List Int×List ABL×Int×List ABF×List ABE×List ABI×List ABN×Bool×Unit)(p1:Int):Option ML:=
 R2 p1 0 p0.1 p0.2.1 p0.2.2.1 p0.2.2.2.1 p0.2.2.2.2.1 p0.2.2.2.2.2.1 p0.2.2.2.2.2.2.1 p0.2.2.2.2.2.2.2.1 p0.2.2.2.2.2.2.2.2.1 p0.2.2.2.2.2.2.2.2.2.1 p0.2.2.2.2.2.2.2.2.2.2.1
def TH(p0:List Int×Int×List ABG×List Int×List ABL×Int×List ABF×List ABE×List ABI×List ABN×Bool×Unit)(p1:Int):Option ML:=Vr (IW Ar) p0 p1
abbrev IH:Type:=ABQ×(ABX×Unit)
abbrev J9:Type:=Int→List Int→Int→AAX→List Int→AAY→Int→AA9→AA_→ABA→AA8→Bool→Int→Int→ADF→ABX→List Int→Option IH
def Lm(R4:J9)(t9:Int)(AM:AAQ)(AO:Int)(AU:AAX)(Bz:AAQ)(CB:AAY)(Et:Int)(DD:AA9)(C4:AA_)(Ez:ABA)(FW:AA8)(DV:Bool)(B4 BK:Int)(DB:ADF)(b2:ABX)(b3:AAQ):Option IH:=
 cond ((decide (t9<(b3.length:Int))))
  (if(0:Int)≤t9∧t9<(b3.length:Int)then(
  (EA (AM,AO,AU,Bz,CB,Et,DD,C4,Ez,FW,DV,()) (b3.getD (t9.toNat) 0)).bind fun u4=>
  cond (u4.1.1 !=0)
   (R4 (AX (t9+1)) AM AO AU Bz CB Et DD C4 Ez FW DV B4 BK DB b2 b3)
  (if(0:Int)≤t9∧t9<(b3.length:Int)then(
  let x5:Int:=(b3.getD (t9.toNat) 0)
  if(0:Int)≤x5∧x5<(AU.length:Int)then(
  (Bv B4 BK).bind fun u6=>
  (D3 ((AU.getD (x5.toNat) ([],[],0,())).1) u6.1.1).bind fun u7=>
  if(0:Int)≤t9∧t9<(b3.length:Int)then(
  if b2.length+1≤Cg then(
  R4 (AX (t9+1)) AM AO AU Bz CB Et DD C4 Ez FW DV B4 BK DB (b2++[((b3.getD (t9.toNat) 0),u7.1.1.2.1,u7.1.1.1.1,u7.1.1.1.2.1,u7.1.1.1.2.2.1,u7.1.1.1.2.2.2.1,())]) b3)else none)else none)else none)else none))else none)
 (some (((),()),(b2,())))
def Fg:Nat→J9
 |0=>fun _ _ _ _ _ _ _ _ _ _ _ _ _ _ _ _ _=>none
 |n+1=>Lm (Fg n)
def Li(R4:J9)(p0:List Int×Int×List ABG×List Int×List ABL×Int×List ABF×List ABE×List ABI×List ABN×Bool×Unit)(p1:ABI)(p2:Int):Option IH:=
 (IP p2).bind fun u1=>
 R4 0 p0.1 p0.2.1 p0.2.2.1 p0.2.2.2.1 p0.2.2.2.2.1 p0.2.2.2.2.2.1 p0.2.2.2.2.2.2.1 p0.2.2.2.2.2.2.2.1 p0.2.2.2.2.2.2.2.2.1 p0.2.2.2.2.2.2.2.2.2.1 p0.2.2.2.2.2.2.2.2.2.2.1 p1.1 p1.2.1 p1.2.2.1 [] u1.2.1
def Jj(p0:List Int×Int×List ABG×List Int×List ABL×Int×List ABF×List ABE×List ABI×List ABN×Bool×Unit)(p1:ABI)(p2:Int):Option IH:=Li (Fg Ar) p0 p1 p2
abbrev Jl:Type:=((Unit×Bool×Unit)×Unit)×ABd
abbrev Ln:Type:=ABX→Int→List Int→Int→List Int→Option Jl
def NV(R3:Ln)(t1:ABX)(t7:Int)(AM:AAQ)(AO:Int)(b1:AAQ):Option Jl:=
 cond ((decide (t7<(t1.length:Int))))
  (if(0:Int)≤t7∧t7<(t1.length:Int)then(
  if b1.length+1≤Cg then(
  R3 t1 (AX (t7+1)) AM AO (b1++[((t1.getD (t7.toNat) (0,false,0,0,false,[],())).1)]))else none)else none)
 ((DX (AM,AO,()) b1).bind fun u3=>
 some ((((),u3.1.1,()),()),(b1,())))
def G9:Nat→Ln
 |0=>fun _ _ _ _ _=>none
 |n+1=>NV (G9 n)
def T9(R3:Ln)(p0:ABD)(p1:ABX):Option Jl:=
 R3 p1 0 p0.1 p0.2.1 []
def QE(p0:ABD)(p1:ABX):Option Jl:=T9 (G9 Ar) p0 p1
abbrev Za:Type:=ACj×ACE
def Ey(p0:ABI)(p1:ACW)(p2 p3:Int):Option Za:=
 (BN (p0.1,p0.2.1,p0.2.2.1,())).bind fun u1=>
 if u1.2.1.length+1≤Cg then(
 some (((p2,p3,(),()),()),((u1.2.1++[(p1.1,p1.2.1,p1.2.2.1,())]),())))else none
abbrev Ko:Type:=(ACW×Unit)×Unit
abbrev NA:Type:=List Int→Int→ABX→Bool→Int→Int→Int→List UInt8→Int→Int→Bool→List UInt8→Option Ko
def Om(R4:NA)(t0:AAQ)(t1:Int)(t2:ABX)(t8:Bool)(t9 AM AO:Int)(AU:AAh)(B4 BK:Int)(DB:Bool)(Dj:AAh):Option Ko:=
 cond ((decide (t9<(t2.length:Int))))
  (if(0:Int)≤t9∧t9<(t2.length:Int)then(
  cond (!((t2.getD (t9.toNat) (0,false,0,0,false,[],())).2.1))
   (R4 t0 t1 t2 t8 (AX (t9+1)) AM AO AU B4 BK DB Dj)
  ((Bu t0 ((t2.getD (t9.toNat) (0,false,0,0,false,[],())).1)).bind fun u4=>
  cond (!u4.1.1)
   (R4 t0 t1 t2 t8 (AX (t9+1)) AM AO AU B4 BK DB Dj)
  ((HQ ((t2.getD (t9.toNat) (0,false,0,0,false,[],())).2.2.1,(t2.getD (t9.toNat) (0,false,0,0,false,[],())).2.2.2.1,(t2.getD (t9.toNat) (0,false,0,0,false,[],())).2.2.2.2.1,(t2.getD (t9.toNat) (0,false,0,0,false,[],())).2.2.2.2.2.1,())).bind fun u5=>
  cond (!u5.1.1)
   (R4 t0 t1 t2 t8 (AX (t9+1)) AM AO AU B4 BK DB Dj)
  (cond (((t2.getD (t9.toNat) (0,false,0,0,false,[],())).2.2.1) !=t1)
   (R4 t0 t1 t2 t8 (AX (t9+1)) AM AO AU B4 BK DB Dj)
  (cond (!t8)
   ((KE ((t2.getD (t9.toNat) (0,false,0,0,false,[],())).2.2.1,(t2.getD (t9.toNat) (0,false,0,0,false,[],())).2.2.2.1,(t2.getD (t9.toNat) (0,false,0,0,false,[],())).2.2.2.2.1,(t2.getD (t9.toNat) (0,false,0,0,false,[],())).2.2.2.2.2.1,()) ((t2.getD (t9.toNat) (0,false,0,0,false,[],())).2.2.1,(t2.getD (t9.toNat) (0,false,0,0,false,[],())).2.2.2.1,(t2.getD (t9.toNat) (0,false,0,0,false,[],())).2.2.2.2.1,(t2.getD (t9.toNat) (0,false,0,0,false,[],())).2.2.2.2.2.1,())).bind fun u7=>
   R4 t0 t1 t2 true (AX (t9+1)) AM AO AU u7.1.1.1 u7.1.1.2.1 u7.1.1.2.2.1 u7.1.1.2.2.2.1)
  ((KE (B4,BK,DB,Dj,()) ((t2.getD (t9.toNat) (0,false,0,0,false,[],())).2.2.1,(t2.getD (t9.toNat) (0,false,0,0,false,[],())).2.2.2.1,(t2.getD (t9.toNat) (0,false,0,0,false,[],())).2.2.2.2.1,(t2.getD (t9.toNat) (0,false,0,0,false,[],())).2.2.2.2.2.1,())).bind fun u8=>
  R4 t0 t1 t2 true (AX (t9+1)) AM AO AU u8.1.1.1 u8.1.1.2.1 u8.1.1.2.2.1 u8.1.1.2.2.2.1))))))else none)
 (cond (!t8)
  (some (((3,t1,[],()),()),()))
 (cond (DB)
  (some (((2,t1,[],()),()),()))
 (some (((1,t1,Dj,()),()),()))))
def Hj:Nat→NA
 |0=>fun _ _ _ _ _ _ _ _ _ _ _ _=>none
 |n+1=>Om (Hj n)
def Uj(R4:NA)(p0:AAQ)(p1:Int)(p2:ABX):Option Ko:=
 R4 p0 p1 p2 false 0 0 0 [] 0 0 false []
def Hb(p0:AAQ)(p1:Int)(p2:ABX):Option Ko:=Uj (Hj Ar) p0 p1 p2
abbrev Pm:Type:=((ADQ×Int×Unit)×Unit)×ACE
def Jx(p0:ABD)(p1:ABK)(p2:Int)(p3:ABI)(p4:ABX):Option Pm:=
 (QE (p0.1,p0.2.1,()) p4).bind fun u1=>
 (HI (p0.1,p0.2.1,()) (p1.1,p1.2.1,())).bind fun u2=>
 cond (!u2.1.1)
  (some ((((0,0,(),()),1,()),()),([],())))
 ((Ho (p3.1,p3.2.1,p3.2.2.1,())).bind fun u3=>
 cond (!u3.1.1)
  (some ((((0,0,(),()),1,()),()),([],())))
 (cond (!u1.1.1.2.1)
  (some ((((0,0,(),()),1,()),()),([],())))
 (cond ((decide (p3.1>(p1.1.length:Int))))
  ((BN (p3.1,p3.2.1,p3.2.2.1,())).bind fun u5=>
  some ((((u5.1.1.1,u5.1.1.2.1,(),()),2,()),()),(u5.2.1,())))
 (cond ((p3.2.2.1.length:Int)==120)
  ((BN (p3.1,p3.2.1,p3.2.2.1,())).bind fun u7=>
  some ((((u7.1.1.1,u7.1.1.2.1,(),()),2,()),()),(u7.2.1,())))
 (if(0:Int)≤AX (p3.1-1)∧AX (p3.1-1)<(p1.1.length:Int)then(
 (Bv p3.1 p3.2.1).bind fun u8=>
 cond ((decide (p1.2.1≥u8.1.1)))
  ((Bd p1.2.1).bind fun Ft=>
  (DY p1.2.1).bind fun Fm=>
  (Ey (p3.1,p3.2.1,p3.2.2.1,()) (5,p1.2.1,[],()) Ft.1.1 (AX (Fm.1.1+1))).bind fun Ox=>
  some ((((Ox.1.1.1,Ox.1.1.2.1,(),()),0,()),()),(Ox.2.1,())))
 (cond (((p1.1.getD ((AX (p3.1-1)).toNat) ([],false,0,())).2.1))
  (cond ((decide (p3.2.1>((p1.1.getD ((AX (p3.1-1)).toNat) ([],false,0,())).2.2.1))))
   ((Ey (p3.1,p3.2.1,p3.2.2.1,()) (4,AX (p3.1+1),[],()) (AX (p3.1+1)) 1).bind fun u16=>
   some ((((u16.1.1.1,u16.1.1.2.1,(),()),0,()),()),(u16.2.1,())))
  (cond (!((p1.1.getD ((AX (p3.1-1)).toNat) ([],false,0,())).2.1))
   (cond (decide (p3.2.1>p2))
    ((BN (p3.1,p3.2.1,p3.2.2.1,())).bind fun fA=>
    some ((((fA.1.1.1,fA.1.1.2.1,(),()),2,()),()),(fA.2.1,())))
   (cond (decide (p3.2.1>60))
    ((BN (p3.1,p3.2.1,p3.2.2.1,())).bind fun WA=>
    some ((((WA.1.1.1,WA.1.1.2.1,(),()),2,()),()),(WA.2.1,())))
   ((GQ u1.2.1 ((p1.1.getD ((AX (p3.1-1)).toNat) ([],false,0,())).1)).bind fun Tv=>
   (GH (p0.1,p0.2.1,()) ((p1.1.getD ((AX (p3.1-1)).toNat) ([],false,0,())).1) Tv.2.1).bind fun Yh=>
   cond (!Yh.1.1)
    ((BN (p3.1,p3.2.1,p3.2.2.1,())).bind fun oE=>
    some ((((oE.1.1.1,oE.1.1.2.1,(),()),3,()),()),(oE.2.1,())))
   ((Hb ((p1.1.getD ((AX (p3.1-1)).toNat) ([],false,0,())).1) u8.1.1 p4).bind fun QX=>
   (Ey (p3.1,p3.2.1,p3.2.2.1,()) (QX.1.1.1,QX.1.1.2.1,QX.1.1.2.2.1,()) p3.1 (AX (p3.2.1+1))).bind fun YY=>
   some ((((YY.1.1.1,YY.1.1.2.1,(),()),0,()),()),(YY.2.1,()))))))
  (cond (decide (p3.2.1>60))
   ((BN (p3.1,p3.2.1,p3.2.2.1,())).bind fun bG=>
   some ((((bG.1.1.1,bG.1.1.2.1,(),()),2,()),()),(bG.2.1,())))
  ((GQ u1.2.1 ((p1.1.getD ((AX (p3.1-1)).toNat) ([],false,0,())).1)).bind fun ai=>
  (GH (p0.1,p0.2.1,()) ((p1.1.getD ((AX (p3.1-1)).toNat) ([],false,0,())).1) ai.2.1).bind fun jN=>
  cond (!jN.1.1)
   ((BN (p3.1,p3.2.1,p3.2.2.1,())).bind fun UY=>
   some ((((UY.1.1.1,UY.1.1.2.1,(),()),3,()),()),(UY.2.1,())))
  ((Hb ((p1.1.getD ((AX (p3.1-1)).toNat) ([],false,0,())).1) u8.1.1 p4).bind fun lx=>
  (Ey (p3.1,p3.2.1,p3.2.2.1,()) (lx.1.1.1,lx.1.1.2.1,lx.1.1.2.2.1,()) p3.1 (AX (p3.2.1+1))).bind fun bK=>
  some ((((bK.1.1.1,bK.1.1.2.1,(),()),0,()),()),(bK.2.1,())))))))
 (cond (!((p1.1.getD ((AX (p3.1-1)).toNat) ([],false,0,())).2.1))
  (cond (decide (p3.2.1>p2))
   ((BN (p3.1,p3.2.1,p3.2.2.1,())).bind fun u32=>
   some ((((u32.1.1.1,u32.1.1.2.1,(),()),2,()),()),(u32.2.1,())))
  (cond (decide (p3.2.1>60))
   ((BN (p3.1,p3.2.1,p3.2.2.1,())).bind fun Yb=>
   some ((((Yb.1.1.1,Yb.1.1.2.1,(),()),2,()),()),(Yb.2.1,())))
  ((GQ u1.2.1 ((p1.1.getD ((AX (p3.1-1)).toNat) ([],false,0,())).1)).bind fun u34=>
  (GH (p0.1,p0.2.1,()) ((p1.1.getD ((AX (p3.1-1)).toNat) ([],false,0,())).1) u34.2.1).bind fun u35=>
  cond (!u35.1.1)
   ((BN (p3.1,p3.2.1,p3.2.2.1,())).bind fun vP=>
   some ((((vP.1.1.1,vP.1.1.2.1,(),()),3,()),()),(vP.2.1,())))
  ((Hb ((p1.1.getD ((AX (p3.1-1)).toNat) ([],false,0,())).1) u8.1.1 p4).bind fun lu=>
  (Ey (p3.1,p3.2.1,p3.2.2.1,()) (lu.1.1.1,lu.1.1.2.1,lu.1.1.2.2.1,()) p3.1 (AX (p3.2.1+1))).bind fun vT=>
  some ((((vT.1.1.1,vT.1.1.2.1,(),()),0,()),()),(vT.2.1,()))))))
 (cond (decide (p3.2.1>60))
  ((BN (p3.1,p3.2.1,p3.2.2.1,())).bind fun vK=>
  some ((((vK.1.1.1,vK.1.1.2.1,(),()),2,()),()),(vK.2.1,())))
 ((GQ u1.2.1 ((p1.1.getD ((AX (p3.1-1)).toNat) ([],false,0,())).1)).bind fun u40=>
 (GH (p0.1,p0.2.1,()) ((p1.1.getD ((AX (p3.1-1)).toNat) ([],false,0,())).1) u40.2.1).bind fun u41=>
 cond (!u41.1.1)
  ((BN (p3.1,p3.2.1,p3.2.2.1,())).bind fun u42=>
  some ((((u42.1.1.1,u42.1.1.2.1,(),()),3,()),()),(u42.2.1,())))
 ((Hb ((p1.1.getD ((AX (p3.1-1)).toNat) ([],false,0,())).1) u8.1.1 p4).bind fun u43=>
 (Ey (p3.1,p3.2.1,p3.2.2.1,()) (u43.1.1.1,u43.1.1.2.1,u43.1.1.2.2.1,()) p3.1 (AX (p3.2.1+1))).bind fun u44=>
 some ((((u44.1.1.1,u44.1.1.2.1,(),()),0,()),()),(u44.2.1,()))))))))else none)))))
abbrev ZJ:Type:=ABS×ABV
def OG(BH BM:Int)(Ak:Bool)(p1:ABJ)(b0:AAQ)(b1:AAX)(b2:AAQ)(b3:AAY)(b4:AA9)(b5:AA_)(b6:ABA)(b7:AA8):Option ZJ:=
 (BE p1.2.1 0 1).bind fun u1=>
 cond (!u1.1.1)
  (some (((((),BH,(),(),(),BM,(),(),(),(),Ak,()),2,()),()),(b0,b1,b2,b3,b4,b5,b6,b7,())))
 (if(0:Int)≤p1.2.1∧p1.2.1<(b6.length:Int)then(
 if(0:Int)≤p1.2.1∧p1.2.1<(b6.length:Int)then(
 if(0:Int)≤p1.2.1∧p1.2.1<(b6.length:Int)then(
 (TH (b0,BH,b1,b2,b3,BM,b4,b5,b6,b7,Ak,()) ((b6.getD (p1.2.1.toNat) (0,0,[],())).1)).bind fun u3=>
 (Jj (b0,BH,b1,b2,b3,BM,b4,b5,b6,b7,Ak,()) ((b6.getD (p1.2.1.toNat) (0,0,[],())).1,(b6.getD (p1.2.1.toNat) (0,0,[],())).2.1,(b6.getD (p1.2.1.toNat) (0,0,[],())).2.2.1,()) p1.2.2.1).bind fun u4=>
 (Jx (b0,BH,()) (b3,BM,()) u3.1.1 ((b6.getD (p1.2.1.toNat) (0,0,[],())).1,(b6.getD (p1.2.1.toNat) (0,0,[],())).2.1,(b6.getD (p1.2.1.toNat) (0,0,[],())).2.2.1,()) u4.2.1).bind fun u5=>
 cond (u5.1.1.2.1 !=0)
  (some (((((),BH,(),(),(),BM,(),(),(),(),Ak,()),5,()),()),(b0,b1,b2,b3,b4,b5,b6,b7,())))
 (if(0:Int)≤p1.2.1∧p1.2.1<(b6.length:Int)then(
 some (((((),BH,(),(),(),BM,(),(),(),(),Ak,()),0,()),()),(b0,b1,b2,b3,b4,b5,(b6.set (p1.2.1.toNat) (u5.1.1.1.1,u5.1.1.1.2.1,u5.2.1,())),b7,())))else none))else none)else none)else none)
abbrev IV:Type:=ABS×(List Int×AAX×List Int×AAY×Unit×AA_×ABA×AA8×AA9×Unit)
abbrev NB:Type:=Int→List Int→AAX→List Int→AAY→AA9→AA_→ABA→AA8→Int→Int→Bool→Int→Int→Int→Int→List UInt8→Int→Int→Bool→List Int→AAX→List Int→AAY→AA9→AA_→ABA→AA8→AA9→Option IV
def Oc(R5:NB)(t7:Int)(b0:AAQ)(b1:AAX)(b2:AAQ)(b3:AAY)(b4:AA9)(b5:AA_)(b6:ABA)(b7:AA8)(B9 CF:Int)(BI:Bool)(AB2 Cw ACv ACn:Int)(AC0:AAh)(C5 D6:Int)(CU:Bool)(Ex:AAQ)(DA:AAX)(EV:AAQ)(Ec:AAY)(DQ:AA9)(Di:AA_)(Dx:ABA)(Qu:AA8)(dk:AA9):Option IV:=
 cond ((decide (t7<(b4.length:Int))))
  (cond (t7 !=Cw)
   (if(0:Int)≤t7∧t7<(b4.length:Int)then(
   if dk.length+1≤Cg then(
   R5 (AX (t7+1)) b0 b1 b2 b3 b4 b5 b6 b7 B9 CF BI AB2 Cw ACv ACn AC0 C5 D6 CU Ex DA EV Ec DQ Di Dx Qu (dk++[((b4.getD (t7.toNat) (0,[],())).1,(b4.getD (t7.toNat) (0,[],())).2.1,())]))else none)else none)
  (R5 (AX (t7+1)) b0 b1 b2 b3 b4 b5 b6 b7 B9 CF BI AB2 Cw ACv ACn AC0 C5 D6 CU Ex DA EV Ec DQ Di Dx Qu dk))
 (some (((((),B9,(),(),(),CF,(),(),(),(),BI,()),0,()),()),(b0,b1,b2,b3,(),b5,b6,b7,dk,())))
def Hi:Nat→NB
 |0=>fun _ _ _ _ _ _ _ _ _ _ _ _ _ _ _ _ _ _ _ _ _ _ _ _ _ _ _ _ _=>none
 |n+1=>Oc (Hi n)
def OY(R5:NB)(BH BM:Int)(Ak:Bool)(p1:ABJ)(b0:AAQ)(b1:AAX)(b2:AAQ)(b3:AAY)(b4:AA9)(b5:AA_)(b6:ABA)(b7:AA8):Option IV:=
 (G6 (b0,BH,b1,b2,b3,BM,b4,b5,b6,b7,Ak,()) p1.2.1).bind fun u1=>
 cond (!u1.1.1)
  (some (((((),BH,(),(),(),BM,(),(),(),(),Ak,()),2,()),()),(b0,b1,b2,b3,(),b5,b6,b7,b4,())))
 (R5 0 b0 b1 b2 b3 b4 b5 b6 b7 BH BM Ak p1.1 p1.2.1 p1.2.2.1 p1.2.2.2.1 p1.2.2.2.2.1 0 0 false [] [] [] [] [] [] [] [] [])
def OE(BH BM:Int)(Ak:Bool)(p1:ABJ)(b0:AAQ)(b1:AAX)(b2:AAQ)(b3:AAY)(b4:AA9)(b5:AA_)(b6:ABA)(b7:AA8):Option IV:=OY (Hi Ar) BH BM Ak p1 b0 b1 b2 b3 b4 b5 b6 b7
abbrev I6:Type:=ABj×ABo
abbrev K6:Type:=Int→Int→ABB→ABB→Int→Int→ABB→ABB→Int→ABB→ABB→Option I6
def M5(R8:K6)(t1 t7:Int)(AM AO:ABB)(AU DB:Int)(b2 b3:ABB)(Un:Int)(b5 b6:ABB):Option I6:=
 cond ((decide (t7<(AM.length:Int))))
  (if(0:Int)≤t7∧t7<(AM.length:Int)then(
  cond (decide (((AM.getD (t7.toNat) (0,0,false,[],())).1)>t1))
   (if(0:Int)≤t7∧t7<(AM.length:Int)then(
   if b5.length+1≤Cg then(
   R8 t1 (AX (t7+1)) AM AO AU DB b2 b3 Un (b5++[((AM.getD (t7.toNat) (0,0,false,[],())).1,(AM.getD (t7.toNat) (0,0,false,[],())).2.1,(AM.getD (t7.toNat) (0,0,false,[],())).2.2.1,(AM.getD (t7.toNat) (0,0,false,[],())).2.2.2.1,())]) b6)else none)else none)
  (R8 t1 (AX (t7+1)) AM AO AU DB b2 b3 Un b5 b6))else none)
 (some (((((),(),Un,()),true,()),()),(b5,b6,())))
def GR:Nat→K6
 |0=>fun _ _ _ _ _ _ _ _ _ _ _=>none
 |n+1=>M5 (GR n)
def Mr(R8:K6)(p0:ABG)(p1:Int):Option I6:=
 (De (p0.1,p0.2.1,p0.2.2.1,())).bind fun u1=>
 cond (!u1.1.1)
  (some (((((),(),0,()),false,()),()),([],[],())))
 ((Cc (p0.1,p0.2.1,p0.2.2.1,())).bind fun u2=>
 (C8 p1).bind fun u3=>
 cond (!u3.1.1)
  (some (((((),(),u2.1.1.2.2.1,()),false,()),()),(u2.2.1,u2.2.2.1,())))
 (R8 p1 0 p0.1 p0.2.1 p0.2.2.1 0 [] [] u2.1.1.2.2.1 [] u2.2.2.1))
def LQ(p0:ABG)(p1:Int):Option I6:=Mr (GR Ar) p0 p1
abbrev YG:Type:=ABS×ABV
def MY(BH BM:Int)(Ak:Bool)(p1:ABJ)(b0:AAQ)(b1:AAX)(b2:AAQ)(b3:AAY)(b4:AA9)(b5:AA_)(b6:ABA)(b7:AA8):Option YG:=
 (EA (b0,BH,b1,b2,b3,BM,b4,b5,b6,b7,Ak,()) p1.2.1).bind fun u1=>
 cond (u1.1.1 !=0)
  (some (((((),BH,(),(),(),BM,(),(),(),(),Ak,()),u1.1.1,()),()),(b0,b1,b2,b3,b4,b5,b6,b7,())))
 (if(0:Int)≤p1.2.1∧p1.2.1<(b1.length:Int)then(
 (Hg ((b1.getD (p1.2.1.toNat) ([],[],0,())).1,(b1.getD (p1.2.1.toNat) ([],[],0,())).2.1,(b1.getD (p1.2.1.toNat) ([],[],0,())).2.2.1,()) p1.2.2.1).bind fun u2=>
 cond (p1.1==16)
  (if(0:Int)≤p1.2.1∧p1.2.1<(b1.length:Int)then(
  (LQ ((b1.getD (p1.2.1.toNat) ([],[],0,())).1,(b1.getD (p1.2.1.toNat) ([],[],0,())).2.1,(b1.getD (p1.2.1.toNat) ([],[],0,())).2.2.1,()) BM).bind fun u3=>
  cond (!u3.1.1.2.1)
   (some (((((),BH,(),(),(),BM,(),(),(),(),Ak,()),4,()),()),(b0,b1,b2,b3,b4,b5,b6,b7,())))
  (if(0:Int)≤p1.2.1∧p1.2.1<(b1.length:Int)then(
  some (((((),BH,(),(),(),BM,(),(),(),(),Ak,()),0,()),()),(b0,(b1.set (p1.2.1.toNat) (u3.2.1,u3.2.2.1,u3.1.1.1.2.2.1,())),b2,b3,b4,b5,b6,b7,())))else none))else none)
 (cond (!u2.1.1.2.1)
  (some (((((),BH,(),(),(),BM,(),(),(),(),Ak,()),4,()),()),(b0,b1,b2,b3,b4,b5,b6,b7,())))
 (if(0:Int)≤p1.2.1∧p1.2.1<(b1.length:Int)then(
 some (((((),BH,(),(),(),BM,(),(),(),(),Ak,()),0,()),()),(b0,(b1.set (p1.2.1.toNat) (u2.2.1,u2.2.2.1,u2.1.1.1.2.2.1,())),b2,b3,b4,b5,b6,b7,())))else none)))else none)
abbrev Vk:Type:=ABS×(List Int×AAX×Unit×Unit×Unit×Unit×ABA×Unit×List Int×AAY×AA9×AA_×AA8×Unit)
def Rj(BH BM:Int)(Ak:Bool)(p1:ABJ)(b0:AAQ)(b1:AAX)(b2:AAQ)(b3:AAY)(b4:AA9)(b5:AA_)(b6:ABA)(b7:AA8):Option Vk:=
 cond (p1.1==1)
  ((N7 BH BM Ak (p1.1,p1.2.1,p1.2.2.1,p1.2.2.2.1,p1.2.2.2.2.1,()) b0 b1 b2 b3 b4 b5 b6 b7).bind fun u1=>
  some (((((),u1.1.1.1.2.1,(),(),(),u1.1.1.1.2.2.2.2.2.1,(),(),(),(),u1.1.1.1.2.2.2.2.2.2.2.2.2.2.1,()),u1.1.1.2.1,()),()),(u1.2.1,u1.2.2.1,(),(),(),(),u1.2.2.2.2.2.2.2.1,(),u1.2.2.2.1,u1.2.2.2.2.2.2.2.2.2.1,u1.2.2.2.2.2.2.2.2.2.2.1,u1.2.2.2.2.2.2.2.2.2.2.2.1,u1.2.2.2.2.2.2.2.2.1,())))
 (cond (p1.1==2)
  ((Pb BH BM Ak (p1.1,p1.2.1,p1.2.2.1,p1.2.2.2.1,p1.2.2.2.2.1,()) b0 b1 b2 b3 b4 b5 b6 b7).bind fun u5=>
  some (((((),u5.1.1.1.2.1,(),(),(),u5.1.1.1.2.2.2.2.2.1,(),(),(),(),u5.1.1.1.2.2.2.2.2.2.2.2.2.2.1,()),u5.1.1.2.1,()),()),(u5.2.1,u5.2.2.1,(),(),(),(),u5.2.2.2.2.2.2.2.1,(),u5.2.2.2.1,u5.2.2.2.2.1,u5.2.2.2.2.2.1,u5.2.2.2.2.2.2.1,u5.2.2.2.2.2.2.2.2.2.1,())))
 (cond (p1.1==3)
  ((MQ BH BM Ak (p1.1,p1.2.1,p1.2.2.1,p1.2.2.2.1,p1.2.2.2.2.1,()) b0 b1 b2 b3 b4 b5 b6 b7).bind fun u7=>
  some (((((),u7.1.1.1.2.1,(),(),(),u7.1.1.1.2.2.2.2.2.1,(),(),(),(),u7.1.1.1.2.2.2.2.2.2.2.2.2.2.1,()),u7.1.1.2.1,()),()),(u7.2.1,u7.2.2.1,(),(),(),(),u7.2.2.2.2.2.2.2.1,(),u7.2.2.2.1,u7.2.2.2.2.1,u7.2.2.2.2.2.1,u7.2.2.2.2.2.2.1,u7.2.2.2.2.2.2.2.2.1,())))
 (cond (p1.1==4)
  ((N8 BH BM Ak (p1.1,p1.2.1,p1.2.2.1,p1.2.2.2.1,p1.2.2.2.2.1,()) b0 b1 b2 b3 b4 b5 b6 b7).bind fun u8=>
  some (((((),u8.1.1.1.2.1,(),(),(),u8.1.1.1.2.2.2.2.2.1,(),(),(),(),u8.1.1.1.2.2.2.2.2.2.2.2.2.2.1,()),u8.1.1.2.1,()),()),(u8.2.1,u8.2.2.1,(),(),(),(),u8.2.2.2.2.2.2.2.1,(),u8.2.2.2.1,u8.2.2.2.2.1,u8.2.2.2.2.2.1,u8.2.2.2.2.2.2.1,u8.2.2.2.2.2.2.2.2.1,())))
 (cond (p1.1==6)
  ((OD BH BM Ak (p1.1,p1.2.1,p1.2.2.1,p1.2.2.2.1,p1.2.2.2.2.1,()) b0 b1 b2 b3 b4 b5 b6 b7).bind fun u9=>
  some (((((),u9.1.1.1.2.1,(),(),(),u9.1.1.1.2.2.2.2.2.1,(),(),(),(),u9.1.1.1.2.2.2.2.2.2.2.2.2.2.1,()),u9.1.1.2.1,()),()),(u9.2.1,u9.2.2.1,(),(),(),(),u9.2.2.2.2.2.2.2.1,(),u9.2.2.2.2.2.2.2.2.2.1,u9.2.2.2.2.1,u9.2.2.2.2.2.1,u9.2.2.2.2.2.2.1,u9.2.2.2.2.2.2.2.2.1,())))
 (cond (p1.1==7)
  ((OA BH BM Ak (p1.1,p1.2.1,p1.2.2.1,p1.2.2.2.1,p1.2.2.2.2.1,()) b0 b1 b2 b3 b4 b5 b6 b7).bind fun Fm=>
  some (((((),Fm.1.1.1.2.1,(),(),(),Fm.1.1.1.2.2.2.2.2.1,(),(),(),(),Fm.1.1.1.2.2.2.2.2.2.2.2.2.2.1,()),Fm.1.1.2.1,()),()),(Fm.2.1,Fm.2.2.1,(),(),(),(),Fm.2.2.2.2.2.2.2.1,(),Fm.2.2.2.2.2.2.2.2.2.1,Fm.2.2.2.2.1,Fm.2.2.2.2.2.1,Fm.2.2.2.2.2.2.1,Fm.2.2.2.2.2.2.2.2.1,())))
 (cond (p1.1==8)
  ((N6 BH BM Ak b0 b1 b2 b3 b4 b5 b6 b7).bind fun NM=>
  some (((((),NM.1.1.1.2.1,(),(),(),NM.1.1.1.2.2.2.2.2.1,(),(),(),(),NM.1.1.1.2.2.2.2.2.2.2.2.2.2.1,()),NM.1.1.2.1,()),()),(NM.2.1,NM.2.2.1,(),(),(),(),NM.2.2.2.2.2.2.2.1,(),NM.2.2.2.1,NM.2.2.2.2.1,NM.2.2.2.2.2.1,NM.2.2.2.2.2.2.2.2.2.1,NM.2.2.2.2.2.2.2.2.1,())))
 (cond (p1.1==9)
  ((Nk BH BM Ak (p1.1,p1.2.1,p1.2.2.1,p1.2.2.2.1,p1.2.2.2.2.1,()) b0 b1 b2 b3 b4 b5 b6 b7).bind fun RG=>
  some (((((),RG.1.1.1.2.1,(),(),(),RG.1.1.1.2.2.2.2.2.1,(),(),(),(),RG.1.1.1.2.2.2.2.2.2.2.2.2.2.1,()),RG.1.1.2.1,()),()),(RG.2.1,RG.2.2.1,(),(),(),(),RG.2.2.2.2.2.2.2.1,(),RG.2.2.2.1,RG.2.2.2.2.1,RG.2.2.2.2.2.1,RG.2.2.2.2.2.2.1,RG.2.2.2.2.2.2.2.2.1,())))
 (cond (p1.1==10)
  ((Nq BH BM Ak b0 b1 b2 b3 b4 b5 b6 b7).bind fun WA=>
  some (((((),WA.1.1.1.2.1,(),(),(),WA.1.1.1.2.2.2.2.2.1,(),(),(),(),WA.1.1.1.2.2.2.2.2.2.2.2.2.2.1,()),WA.1.1.2.1,()),()),(WA.2.1,WA.2.2.1,(),(),(),(),WA.2.2.2.2.2.2.2.1,(),WA.2.2.2.1,WA.2.2.2.2.1,WA.2.2.2.2.2.1,WA.2.2.2.2.2.2.1,WA.2.2.2.2.2.2.2.2.1,())))
 (cond (p1.1==11)
  ((P2 BH BM Ak (p1.1,p1.2.1,p1.2.2.1,p1.2.2.2.1,p1.2.2.2.2.1,()) b0 b1 b2 b3 b4 b5 b6 b7).bind fun Yh=>
  some (((((),Yh.1.1.1.2.1,(),(),(),Yh.1.1.1.2.2.2.2.2.1,(),(),(),(),Yh.1.1.1.2.2.2.2.2.2.2.2.2.2.1,()),Yh.1.1.2.1,()),()),(Yh.2.1,Yh.2.2.1,(),(),(),(),Yh.2.2.2.2.2.2.2.1,(),Yh.2.2.2.1,Yh.2.2.2.2.1,Yh.2.2.2.2.2.1,Yh.2.2.2.2.2.2.1,Yh.2.2.2.2.2.2.2.2.1,())))
 (cond (p1.1==12)
  ((MG BH BM Ak b0 b1 b2 b3 b4 b5 b6 b7).bind fun QX=>
  some (((((),QX.1.1.1.2.1,(),(),(),QX.1.1.1.2.2.2.2.2.1,(),(),(),(),QX.1.1.1.2.2.2.2.2.2.2.2.2.2.1,()),QX.1.1.2.1,()),()),(QX.2.1,QX.2.2.1,(),(),(),(),QX.2.2.2.2.2.2.2.1,(),QX.2.2.2.1,QX.2.2.2.2.2.2.2.2.2.1,QX.2.2.2.2.2.1,QX.2.2.2.2.2.2.2.2.2.2.1,QX.2.2.2.2.2.2.2.2.1,())))
 (cond (p1.1==13)
  ((Ns (b0,BH,()) (b3,BM,()) p1.2.1).bind fun jN=>
  cond (!jN.1.1.2.1)
   (some (((((),BH,(),(),(),BM,(),(),(),(),Ak,()),4,()),()),(b0,b1,(),(),(),(),b6,(),b2,b3,b4,b5,b7,())))
  (some (((((),BH,(),(),(),jN.1.1.1.2.1,(),(),(),(),Ak,()),0,()),()),(b0,b1,(),(),(),(),b6,(),b2,jN.2.1,b4,b5,b7,()))))
 (cond (p1.1==14)
  ((OG BH BM Ak (p1.1,p1.2.1,p1.2.2.1,p1.2.2.2.1,p1.2.2.2.2.1,()) b0 b1 b2 b3 b4 b5 b6 b7).bind fun UY=>
  some (((((),UY.1.1.1.2.1,(),(),(),UY.1.1.1.2.2.2.2.2.1,(),(),(),(),UY.1.1.1.2.2.2.2.2.2.2.2.2.2.1,()),UY.1.1.2.1,()),()),(UY.2.1,UY.2.2.1,(),(),(),(),UY.2.2.2.2.2.2.2.1,(),UY.2.2.2.1,UY.2.2.2.2.1,UY.2.2.2.2.2.1,UY.2.2.2.2.2.2.1,UY.2.2.2.2.2.2.2.2.1,())))
 (cond (p1.1==15)
  ((OE BH BM Ak (p1.1,p1.2.1,p1.2.2.1,p1.2.2.2.1,p1.2.2.2.2.1,()) b0 b1 b2 b3 b4 b5 b6 b7).bind fun bK=>
  some (((((),bK.1.1.1.2.1,(),(),(),bK.1.1.1.2.2.2.2.2.1,(),(),(),(),bK.1.1.1.2.2.2.2.2.2.2.2.2.2.1,()),bK.1.1.2.1,()),()),(bK.2.1,bK.2.2.1,(),(),(),(),bK.2.2.2.2.2.2.2.1,(),bK.2.2.2.1,bK.2.2.2.2.1,bK.2.2.2.2.2.2.2.2.2.1,bK.2.2.2.2.2.2.1,bK.2.2.2.2.2.2.2.2.1,())))
 ((MY BH BM Ak (p1.1,p1.2.1,p1.2.2.1,p1.2.2.2.1,p1.2.2.2.2.1,()) b0 b1 b2 b3 b4 b5 b6 b7).bind fun Yb=>
 some (((((),Yb.1.1.1.2.1,(),(),(),Yb.1.1.1.2.2.2.2.2.1,(),(),(),(),Yb.1.1.1.2.2.2.2.2.2.2.2.2.2.1,()),Yb.1.1.2.1,()),()),(Yb.2.1,Yb.2.2.1,(),(),(),(),Yb.2.2.2.2.2.2.2.1,(),Yb.2.2.2.1,Yb.2.2.2.2.1,Yb.2.2.2.2.2.1,Yb.2.2.2.2.2.2.1,Yb.2.2.2.2.2.2.2.2.1,()))))))))))))))))
abbrev Z_:Type:=ABS×ABV
def Np(p0:List Int×Int×List ABG×List Int×List ABL×Int×List ABF×List ABE×List ABI×List ABN×Bool×Unit)(p1:ABJ):Option Z_:=
 (Lb (p0.1,p0.2.1,p0.2.2.1,p0.2.2.2.1,p0.2.2.2.2.1,p0.2.2.2.2.2.1,p0.2.2.2.2.2.2.1,p0.2.2.2.2.2.2.2.1,p0.2.2.2.2.2.2.2.2.1,p0.2.2.2.2.2.2.2.2.2.1,p0.2.2.2.2.2.2.2.2.2.2.1,())).bind fun u1=>
 cond (!u1.1.1)
  (some (((((),0,(),(),(),0,(),(),(),(),false,()),1,()),()),([],[],[],[],[],[],[],[],())))
 ((KQ (p1.1,p1.2.1,p1.2.2.1,p1.2.2.2.1,p1.2.2.2.2.1,())).bind fun u2=>
 cond (!u2.1.1)
  (some (((((),0,(),(),(),0,(),(),(),(),false,()),1,()),()),([],[],[],[],[],[],[],[],())))
 ((JB (p0.1,p0.2.1,p0.2.2.1,p0.2.2.2.1,p0.2.2.2.2.1,p0.2.2.2.2.2.1,p0.2.2.2.2.2.2.1,p0.2.2.2.2.2.2.2.1,p0.2.2.2.2.2.2.2.2.1,p0.2.2.2.2.2.2.2.2.2.1,p0.2.2.2.2.2.2.2.2.2.2.1,())).bind fun u3=>
 (Rj u3.1.1.2.1 u3.1.1.2.2.2.2.2.1 u3.1.1.2.2.2.2.2.2.2.2.2.2.1 (p1.1,p1.2.1,p1.2.2.1,p1.2.2.2.1,p1.2.2.2.2.1,()) u3.2.1 u3.2.2.1 u3.2.2.2.1 u3.2.2.2.2.1 u3.2.2.2.2.2.1 u3.2.2.2.2.2.2.1 u3.2.2.2.2.2.2.2.1 u3.2.2.2.2.2.2.2.2.1).bind fun u4=>
 cond (u4.1.1.2.1 !=0)
  ((JB (p0.1,p0.2.1,p0.2.2.1,p0.2.2.2.1,p0.2.2.2.2.1,p0.2.2.2.2.2.1,p0.2.2.2.2.2.2.1,p0.2.2.2.2.2.2.2.1,p0.2.2.2.2.2.2.2.2.1,p0.2.2.2.2.2.2.2.2.2.1,p0.2.2.2.2.2.2.2.2.2.2.1,())).bind fun Ft=>
  some (((((),Ft.1.1.2.1,(),(),(),Ft.1.1.2.2.2.2.2.1,(),(),(),(),Ft.1.1.2.2.2.2.2.2.2.2.2.2.1,()),u4.1.1.2.1,()),()),(Ft.2.1,Ft.2.2.1,Ft.2.2.2.1,Ft.2.2.2.2.1,Ft.2.2.2.2.2.1,Ft.2.2.2.2.2.2.1,Ft.2.2.2.2.2.2.2.1,Ft.2.2.2.2.2.2.2.2.1,())))
 (some (((((),u4.1.1.1.2.1,(),(),(),u4.1.1.1.2.2.2.2.2.1,(),(),(),(),u4.1.1.1.2.2.2.2.2.2.2.2.2.2.1,()),u4.1.1.2.1,()),()),(u4.2.1,u4.2.2.1,u4.2.2.2.2.2.2.2.2.2.1,u4.2.2.2.2.2.2.2.2.2.2.1,u4.2.2.2.2.2.2.2.2.2.2.2.1,u4.2.2.2.2.2.2.2.2.2.2.2.2.1,u4.2.2.2.2.2.2.2.1,u4.2.2.2.2.2.2.2.2.2.2.2.2.2.1,())))))
abbrev CQ:Type:=(ADs×Unit)×(ABT×Unit×Unit×Unit×Unit×Unit×Unit×Unit×Unit×(List ABJ)×List Int×AAX×List Int×AAY×AA9×AA_×ABA×AA8×Unit)
abbrev EE:Type:=Int→Int→List Int→Int→Int→Int→Int→Bool→List Int→AAX→List Int→AAY→AA9→AA_→ABA→AA8→Int→Int→Bool→List Int→AAX→List Int→AAY→AA9→AA_→ABA→AA8→Int→List Int→List Int→Option CQ
abbrev EI:Type:=Int→List Int→Int→Int→Int→Int→Bool→List Int→AAX→List Int→AAY→AA9→AA_→ABA→AA8→Int→Int→Bool→List Int→AAX→List Int→AAY→AA9→AA_→ABA→AA8→Int→List Int→List Int→Option CQ
abbrev Dt:Type:=Int→Int→List Int→Int→Int→Int→Int→Bool→List Int→AAX→List Int→AAY→AA9→AA_→ABA→AA8→Int→Int→Bool→List Int→AAX→List Int→AAY→AA9→AA_→ABA→AA8→Int→Int→Bool→Int→Int→Bool→List Int→AAX→List Int→AAY→AA9→AA_→ABA→AA8→(List ABJ)→Option CQ
def KT(R4:EE)(R7:EI)(wZ:Dt)(t1 t9:Int)(AM:AAQ)(AO AU BK Ds:Int)(EJ:Bool)(b2:AAQ)(b3:AAX)(b4:AAQ)(b5:AAY)(b6:AA9)(b7:AA_)(b8:ABA)(b9:AA8)(C5 D6:Int)(CU:Bool)(Ex:AAQ)(DA:AAX)(EV:AAQ)(Ec:AAY)(DQ:AA9)(Di:AA_)(Dx:ABA)(Qu:AA8)(BR:Int)(vW tw:AAQ):Option CQ:=
 cond ((decide (t9<(vW.length:Int))))
  (if tw.length+1≤Cg then(
  R4 t1 (AX (t9+1)) AM AO AU BK Ds EJ b2 b3 b4 b5 b6 b7 b8 b9 C5 D6 CU Ex DA EV Ec DQ Di Dx Qu BR vW (tw++[t9]))else none)
 (R7 t1 AM AO AU BK Ds EJ b2 b3 b4 b5 b6 b7 b8 b9 C5 D6 CU Ex DA EV Ec DQ Di Dx Qu BR vW tw)
def KO(R4:EE)(R7:EI)(wZ:Dt)(t1:Int)(AM:AAQ)(AO AU BK Ds:Int)(EJ:Bool)(b2:AAQ)(b3:AAX)(b4:AAQ)(b5:AAY)(b6:AA9)(b7:AA_)(b8:ABA)(b9:AA8)(C5 D6:Int)(CU:Bool)(Ex:AAQ)(DA:AAX)(EV:AAQ)(Ec:AAY)(DQ:AA9)(Di:AA_)(Dx:ABA)(Qu:AA8)(BR:Int)(vW tw:AAQ):Option CQ:=
 cond (decide (BR>1))
  ((Cr (vW,BR,()) tw).bind fun u3=>
  cond (!u3.1.1)
   (R7 t1 AM AO AU BK Ds EJ b2 b3 b4 b5 b6 b7 b8 b9 C5 D6 CU Ex DA EV Ec DQ Di Dx Qu (AX (BR-1)) vW tw)
  ((D9 (vW,BR,())).bind fun u4=>
  (AL (AX (t1+1)) AM AO AU).bind fun u5=>
  wZ u5.1.1 0 u5.2.1.1 u5.2.1.2.1 u5.2.1.2.2.1 BK Ds EJ b2 b3 b4 b5 b6 b7 b8 b9 C5 D6 CU Ex DA EV Ec DQ Di Dx Qu u4.1.1.1.2.1 u4.1.1.1.2.2.2.2.2.1 u4.1.1.1.2.2.2.2.2.2.2.2.2.2.1 u4.1.1.1.2.1 u4.1.1.1.2.2.2.2.2.1 u4.1.1.1.2.2.2.2.2.2.2.2.2.2.1 u4.2.1 u4.2.2.1 u4.2.2.2.1 u4.2.2.2.2.1 u4.2.2.2.2.2.1 u4.2.2.2.2.2.2.1 u4.2.2.2.2.2.2.2.1 u4.2.2.2.2.2.2.2.2.1 []))
 ((D9 (vW,BR,())).bind fun u6=>
 (AL (AX (t1+1)) AM AO AU).bind fun u7=>
 wZ u7.1.1 0 u7.2.1.1 u7.2.1.2.1 u7.2.1.2.2.1 BK Ds EJ b2 b3 b4 b5 b6 b7 b8 b9 C5 D6 CU Ex DA EV Ec DQ Di Dx Qu u6.1.1.1.2.1 u6.1.1.1.2.2.2.2.2.1 u6.1.1.1.2.2.2.2.2.2.2.2.2.2.1 u6.1.1.1.2.1 u6.1.1.1.2.2.2.2.2.1 u6.1.1.1.2.2.2.2.2.2.2.2.2.2.1 u6.2.1 u6.2.2.1 u6.2.2.2.1 u6.2.2.2.2.1 u6.2.2.2.2.2.1 u6.2.2.2.2.2.2.1 u6.2.2.2.2.2.2.2.1 u6.2.2.2.2.2.2.2.2.1 [])
def JW(R4:EE)(R7:EI)(wZ:Dt)(t14 t15:Int)(AM:AAQ)(AO AU BK Ds:Int)(EJ:Bool)(b2:AAQ)(b3:AAX)(b4:AAQ)(b5:AAY)(b6:AA9)(b7:AA_)(b8:ABA)(b9:AA8)(C5 D6:Int)(CU:Bool)(Ex:AAQ)(DA:AAX)(EV:AAQ)(Ec:AAY)(DQ:AA9)(Di:AA_)(Dx:ABA)(Qu:AA8)(BR Mg:Int)(iG:Bool)(jI jZ:Int)(ct:Bool)(wh:AAQ)(b30:AAX)(b31:AAQ)(b32:AAY)(b33:AA9)(b34:AA_)(b35:ABA)(b36:AA8)(b37:List ABJ):Option CQ:=
 cond (decide (t15<t14))
  ((FK (wh,jI,b30,b31,b32,jZ,b33,b34,b35,b36,ct,()) AM AO AU).bind fun u8=>
  if b37.length+1≤Cg then(
  let x9:List ABJ:=b37++[(u8.1.1.1,u8.1.1.2.1,u8.1.1.2.2.1,u8.1.1.2.2.2.1,u8.1.1.2.2.2.2.1,())]
  (Np (wh,jI,b30,b31,b32,jZ,b33,b34,b35,b36,ct,()) (u8.1.1.1,u8.1.1.2.1,u8.1.1.2.2.1,u8.1.1.2.2.2.1,u8.1.1.2.2.2.2.1,())).bind fun Ft=>
  cond (Ft.1.1.2.1==0)
   (wZ t14 (AX (t15+1)) u8.2.1.1 u8.2.1.2.1 u8.2.1.2.2.1 BK Ds EJ b2 b3 b4 b5 b6 b7 b8 b9 C5 D6 CU Ex DA EV Ec DQ Di Dx Qu BR Mg iG Ft.1.1.1.2.1 Ft.1.1.1.2.2.2.2.2.1 Ft.1.1.1.2.2.2.2.2.2.2.2.2.2.1 Ft.2.1 Ft.2.2.1 Ft.2.2.2.1 Ft.2.2.2.2.1 Ft.2.2.2.2.2.1 Ft.2.2.2.2.2.2.1 Ft.2.2.2.2.2.2.2.1 Ft.2.2.2.2.2.2.2.2.1 x9)
  (wZ t14 (AX (t15+1)) u8.2.1.1 u8.2.1.2.1 u8.2.1.2.2.1 BK Ds EJ b2 b3 b4 b5 b6 b7 b8 b9 C5 D6 CU Ex DA EV Ec DQ Di Dx Qu BR Mg iG jI jZ ct wh b30 b31 b32 b33 b34 b35 b36 x9))else none)
 (some (((((),BR,(),(),(),Mg,(),(),(),(),iG,()),(),((),jI,(),(),(),jZ,(),(),(),(),ct,()),()),()),((AM,AO,AU,()),(),(),(),(),(),(),(),(),b37,wh,b30,b31,b32,b33,b34,b35,b36,())))
mutual
def Cd:Nat→EE
 |0=>fun _ _ _ _ _ _ _ _ _ _ _ _ _ _ _ _ _ _ _ _ _ _ _ _ _ _ _ _ _ _=>none
 |n+1=>KT (Cd n) (Cb n) (CA n)
def Cb:Nat→EI
 |0=>fun _ _ _ _ _ _ _ _ _ _ _ _ _ _ _ _ _ _ _ _ _ _ _ _ _ _ _ _ _=>none
 |n+1=>KO (Cd n) (Cb n) (CA n)
def CA:Nat→Dt
 |0=>fun _ _ _ _ _ _ _ _ _ _ _ _ _ _ _ _ _ _ _ _ _ _ _ _ _ _ _ _ _ _ _ _ _ _ _ _ _ _ _ _ _ _=>none
 |n+1=>JW (Cd n) (Cb n) (CA n)
end
def KK(R4:EE)(R7:EI)(wZ:Dt)(p1:Int)(AM:AAQ)(AO AU:Int):Option CQ:=
 (JK AM AO AU).bind fun u1=>
 R4 p1 0 u1.2.1.1 u1.2.1.2.1 u1.2.1.2.2.1 0 0 false [] [] [] [] [] [] [] [] 0 0 false [] [] [] [] [] [] [] [] u1.1.1.2.1 u1.2.2.1 []
def GK(p1:Int)(AM:AAQ)(AO AU:Int):Option CQ:=KK (Cd Ar) (Cb Ar) (CA Ar) p1 AM AO AU
abbrev Uy:Type:=ABO×ABU
def G7(AM:AAQ)(AO AU:Int):Option Uy:=
 (AL 3 AM AO AU).bind fun u1=>
 (AL 6 u1.2.1.1 u1.2.1.2.1 u1.2.1.2.2.1).bind fun u2=>
 (Bv (AX (1+u1.1.1)) (AX (1+u2.1.1))).bind fun u3=>
 (AL 15 u2.2.1.1 u2.2.1.2.1 u2.2.1.2.2.1).bind fun u4=>
 cond (u4.1.1==0)
  ((Ca [0,(-1),4294967296,4294967297,9223372036854775807,(-9223372036854775808)] u4.2.1.1 u4.2.1.2.1 u4.2.1.2.2.1).bind fun u5=>
  some ((u5.1.1,()),((u5.2.1.1,u5.2.1.2.1,u5.2.1.2.2.1,()),())))
 (cond (u4.1.1==1)
  ((Ca [0,30,31] u4.2.1.1 u4.2.1.2.1 u4.2.1.2.2.1).bind fun u6=>
  (Ca [0,60,61] u6.2.1.1 u6.2.1.2.1 u6.2.1.2.2.1).bind fun u7=>
  (Bv u6.1.1 u7.1.1).bind fun u8=>
  some ((u8.1.1,()),((u7.2.1.1,u7.2.1.2.1,u7.2.1.2.2.1,()),())))
 (some ((u3.1.1,()),((u4.2.1.1,u4.2.1.2.1,u4.2.1.2.2.1,()),()))))
abbrev IZ:Type:=ACx×ABV
abbrev YP:Type:=ABh×ABU
def ME(p1:ABJ)(AM:AAQ)(AO AU:Int):Option YP:=
 (AL 20 AM AO AU).bind fun u1=>
 cond (u1.1.1==0)
  ((AL 18 u1.2.1.1 u1.2.1.2.1 u1.2.1.2.2.1).bind fun u2=>
  some (((u2.1.1,p1.2.1,p1.2.2.1,p1.2.2.2.1,p1.2.2.2.2.1,()),()),((u2.2.1.1,u2.2.1.2.1,u2.2.1.2.2.1,()),())))
 (cond (u1.1.1==1)
  ((Ca [(-1),8,9223372036854775807,0,1048576] u1.2.1.1 u1.2.1.2.1 u1.2.1.2.2.1).bind fun u3=>
  some (((p1.1,u3.1.1,p1.2.2.1,p1.2.2.2.1,p1.2.2.2.2.1,()),()),((u3.2.1.1,u3.2.1.2.1,u3.2.1.2.2.1,()),())))
 (cond (u1.1.1==2)
  ((Ca [(-1),0,61,1048576] u1.2.1.1 u1.2.1.2.1 u1.2.1.2.2.1).bind fun u4=>
  some (((p1.1,p1.2.1,u4.1.1,p1.2.2.2.1,p1.2.2.2.2.1,()),()),((u4.2.1.1,u4.2.1.2.1,u4.2.1.2.2.1,()),())))
 (cond (u1.1.1==3)
  (some (((p1.1,p1.2.1,p1.2.2.1,AX (p1.2.2.2.1+1),p1.2.2.2.2.1,()),()),((u1.2.1.1,u1.2.1.2.1,u1.2.1.2.2.1,()),())))
 (cond (u1.1.1==4)
  ((AL 2 u1.2.1.1 u1.2.1.2.1 u1.2.1.2.2.1).bind fun u5=>
  if(0:Int)≤(AX (40+u5.1.1))∧(AX (40+u5.1.1))≤(AX (40+u5.1.1))∧(AX (40+u5.1.1))≤(Cg:Int)then(
  some (((p1.1,p1.2.1,p1.2.2.1,p1.2.2.2.1,((List.replicate ((AX (40+u5.1.1)).toNat) 0).map fun n:Int=>UInt8.ofNat n.toNat),()),()),((u5.2.1.1,u5.2.1.2.1,u5.2.1.2.2.1,()),())))else none)
 (some (((p1.1,p1.2.1,p1.2.2.1,p1.2.2.2.1,p1.2.2.2.2.1,()),()),((u1.2.1.1,u1.2.1.2.1,u1.2.1.2.2.1,()),())))))))
abbrev T6:Type:=ABh×Unit
def IA(p0:AAQ):Option T6:=
 (Ob p0).bind fun u1=>
 (GK 20 u1.2.1.1 u1.2.1.2.1 u1.2.1.2.2.1).bind fun u2=>
 (FK (u2.2.2.2.2.2.2.2.2.2.2.2.1,u2.1.1.2.2.1.2.1,u2.2.2.2.2.2.2.2.2.2.2.2.2.1,u2.2.2.2.2.2.2.2.2.2.2.2.2.2.1,u2.2.2.2.2.2.2.2.2.2.2.2.2.2.2.1,u2.1.1.2.2.1.2.2.2.2.2.1,u2.2.2.2.2.2.2.2.2.2.2.2.2.2.2.2.1,u2.2.2.2.2.2.2.2.2.2.2.2.2.2.2.2.2.1,u2.2.2.2.2.2.2.2.2.2.2.2.2.2.2.2.2.2.1,u2.2.2.2.2.2.2.2.2.2.2.2.2.2.2.2.2.2.2.1,u2.1.1.2.2.1.2.2.2.2.2.2.2.2.2.2.1,()) u2.2.1.1 u2.2.1.2.1 u2.2.1.2.2.1).bind fun Ox=>
 (ME (Ox.1.1.1,Ox.1.1.2.1,Ox.1.1.2.2.1,Ox.1.1.2.2.2.1,Ox.1.1.2.2.2.2.1,()) Ox.2.1.1 Ox.2.1.2.1 Ox.2.1.2.2.1).bind fun T5=>
 (AL 20 T5.2.1.1 T5.2.1.2.1 T5.2.1.2.2.1).bind fun NM=>
 cond (NM.1.1==0)
  (if T5.1.1.2.2.2.2.1.length+1≤Cg then(
  some (((T5.1.1.1,T5.1.1.2.1,T5.1.1.2.2.1,T5.1.1.2.2.2.1,(T5.1.1.2.2.2.2.1++[10]),()),()),()))else none)
 (cond (NM.1.1==1)
  ((Ca [9999999999,10000000000] NM.2.1.1 NM.2.1.2.1 NM.2.1.2.2.1).bind fun u16=>
  some (((T5.1.1.1,u16.1.1,T5.1.1.2.2.1,T5.1.1.2.2.2.1,T5.1.1.2.2.2.2.1,()),()),()))
 (cond (NM.1.1==2)
  ((G7 NM.2.1.1 NM.2.1.2.1 NM.2.1.2.2.1).bind fun RG=>
  some (((13,RG.1.1,0,0,[],()),()),()))
 (some (((T5.1.1.1,T5.1.1.2.1,T5.1.1.2.2.1,T5.1.1.2.2.2.1,T5.1.1.2.2.2.2.1,()),()),()))))
abbrev W9:Type:=ABQ×(List AAh×Unit)
def Ik:Option W9:=
 some (((),()),([[111,112,101,110],[97,100,100],[115,116,111,114,101],[115,121,110,99],[99,114,97,115,104],[108,111,115,101],[102,105,108,108],[109,101,110,100],[115,101,97,108],[112,108,97,110],[102,105,120],[99,108,111,115,101],[116,114,105,109],[114,101,97,100],[100,114,111,112],[112,114,117,110,101]],()))
abbrev Ut:Type:=ABH×Unit
def strings_Contains(p0:AAh)(p1:AAh):Option Ut:=(Tj p0 p1).map fun l=>((l,()),())
abbrev aA:Type:=ABR×Unit
def strconv_Itoa(p0:Int):Option aA:=(jH p0).map fun l=>((l,()),())
abbrev bA:Type:=ABR×Unit
def FA(p0:Int):Option bA:=
 (strconv_Itoa p0).bind fun u1=>
 some ((u1.1.1,()),())
abbrev W_:Type:=ABR×Unit
def Gp(p0:Int):Option W_:=
 (HT p0).bind fun u1=>
 cond (!u1.1.1)
  (some (([],()),()))
 ((OB p0).bind fun u2=>
 (FA u2.1.1).bind fun u3=>
 if 1+u3.1.1.length≤Cg then(
 if([101]++u3.1.1).length+1≤Cg then(
 let x4:AAh:=([101]++u3.1.1)++[46]
 (Rt p0).bind fun u5=>
 (FA u5.1.1).bind fun u6=>
 if x4.length+u6.1.1.length≤Cg then(
 some ((x4++u6.1.1,()),()))else none)else none)else none)
abbrev Q1:Type:=ADH×Unit
def LF(p0:ABJ)(p1:Int):Option Q1:=
 cond (p1==84)
  ((strings_Contains p0.2.2.2.2.1 [10]).bind fun u1=>
  some (((p0.2.2.2.2.1,!u1.1.1,()),()),()))
 (cond (p1==80)
  ((Gp p0.2.1).bind fun u2=>
  (HT p0.2.1).bind fun u3=>
  some (((u2.1.1,u3.1.1,()),()),()))
 (cond (p1==66)
  ((FA p0.2.2.1).bind fun u4=>
  cond ((decide (p0.2.2.1≥0)))
   (some (((u4.1.1,decide ((u4.1.1.length:Int)≤10),()),()),()))
  (some (((u4.1.1,false,()),()),())))
 (cond (p1==67)
  ((FA p0.2.2.2.1).bind fun u7=>
  cond ((decide (p0.2.2.2.1≥0)))
   (some (((u7.1.1,decide ((u7.1.1.length:Int)≤10),()),()),()))
  (some (((u7.1.1,false,()),()),())))
 ((FA p0.2.1).bind fun Ft=>
 cond (decide (p0.2.1≥0))
  (some (((Ft.1.1,decide ((Ft.1.1.length:Int)≤10),()),()),()))
 (some (((Ft.1.1,false,()),()),()))))))
abbrev Jp:Type:=ADH×Unit
abbrev L4:Type:=List UInt8→Int→Int→Int→Int→Int→Int→List UInt8→List Int→Option Jp
def En(R5:L4)(t4:AAh)(t22 t23 AM AO AU Bz:Int)(CB:AAh)(b1:AAQ):Option Jp:=
 cond (decide (t23<t22))
  (if(0:Int)≤t23∧t23<(b1.length:Int)then(
  (LF (AM,AO,AU,Bz,CB,()) (b1.getD (t23.toNat) 0)).bind fun u7=>
  cond (!u7.1.1.2.1)
   (some ((([],false,()),()),()))
  (if 1+u7.1.1.1.length≤Cg then(
  if t4.length+([32]++u7.1.1.1).length≤Cg then(
  R5 (t4++([32]++u7.1.1.1)) t22 (AX (t23+1)) AM AO AU Bz CB b1)else none)else none))else none)
 (some (((t4,true,()),()),()))
def FN:Nat→L4
 |0=>fun _ _ _ _ _ _ _ _ _=>none
 |n+1=>En (FN n)
def Nc(R5:L4)(p0:ABJ):Option Jp:=
 (Mn (p0.1,p0.2.1,p0.2.2.1,p0.2.2.2.1,p0.2.2.2.2.1,())).bind fun u1=>
 cond (!u1.1.1)
  (some ((([],false,()),()),()))
 ((Ik).bind fun u2=>
 if(0:Int)≤AX (p0.1-1)∧AX (p0.1-1)<(u2.2.1.length:Int)then(
 (I1 p0.1).bind fun u4=>
 if u4.1.1.length≤Cg then(
 let x5:AAQ:=(u4.1.1.map fun c=>(c.toNat:Int))
 R5 (u2.2.1.getD ((AX (p0.1-1)).toNat) []) (x5.length:Int) 0 p0.1 p0.2.1 p0.2.2.1 p0.2.2.2.1 p0.2.2.2.2.1 x5)else none)else none)
def Ga(p0:ABJ):Option Jp:=Nc (FN Ar) p0
abbrev aV:Type:=ABR×Unit
def K5(p0:Int):Option aV:=
 if(0:Int)≤p0∧p0<17 then(
 some ((([[],[111,112,101,110],[97,100,100],[115,116,111,114,101],[115,121,110,99],[99,114,97,115,104],[108,111,115,101],[102,105,108,108],[109,101,110,100],[115,101,97,108],[112,108,97,110],[102,105,120],[99,108,111,115,101],[116,114,105,109],[114,101,97,100],[100,114,111,112],[112,114,117,110,101]].getD (p0.toNat) []),()),()))else none
abbrev Zx:Type:=ABQ×ABd
def Ku(p0:ABJ):Option Zx:=
 cond (p0.1==8)
  (some (((),()),([],())))
 (cond (p0.1==10)
  (some (((),()),([],())))
 (cond (p0.1==12)
  (some (((),()),([],())))
 (cond (p0.1==13)
  (some (((),()),([],())))
 (cond (p0.1==3)
  (some (((),()),([p0.2.1,p0.2.2.1,p0.2.2.2.1],())))
 (cond (p0.1==5)
  (some (((),()),([p0.2.1,p0.2.2.1],())))
 (cond (p0.1==14)
  (some (((),()),([p0.2.1,p0.2.2.1],())))
 (cond (p0.1==11)
  (some (((),()),([p0.2.2.1,p0.2.2.2.1],())))
 (some (((),()),([p0.2.1],()))))))))))
abbrev OO:Type:=ABR×Unit
abbrev QM:Type:=Int→List UInt8→Option OO
def Gn(R4:QM)(t0:Int)(t3:AAh):Option OO:=
 cond (decide (t0>0))
  (let x2:AAh:=([w8 ((AX (48+(t0.tmod 10))))].map fun n:Int=>UInt8.ofNat n.toNat)
  if x2.length+t3.length≤Cg then(
  R4 (AX (t0.tdiv 10)) (x2++t3))else none)
 (some ((t3,()),()))
def Hr:Nat→QM
 |0=>fun _ _=>none
 |n+1=>Gn (Hr n)
def Qf(R4:QM)(p0:Int):Option OO:=
 cond (decide (p0≤0))
  (some (([48],()),()))
 (R4 p0 [])
def Ly(p0:Int):Option OO:=Qf (Hr Ar) p0
abbrev WQ:Type:=ABR×Unit
def IX(p0:Int):Option WQ:=
 (C8 p0).bind fun u1=>
 cond (!u1.1.1)
  (some (([],()),()))
 ((Bd p0).bind fun u2=>
 (Ly u2.1.1).bind fun u3=>
 if 1+u3.1.1.length≤Cg then(
 if([101]++u3.1.1).length+1≤Cg then(
 let x4:AAh:=([101]++u3.1.1)++[46]
 (DY p0).bind fun u5=>
 (Ly u5.1.1).bind fun u6=>
 if x4.length+u6.1.1.length≤Cg then(
 some ((x4++u6.1.1,()),()))else none)else none)else none)
abbrev F5:Type:=ADH×Unit
abbrev I_:Type:=Int→Int→Int→Int→Int→List UInt8→Option F5
abbrev H8:Type:=List UInt8→Int→Int→Int→Int→Int→List UInt8→List Int→Option F5
def Ep(R4:I_)(XZ:H8)(t4 AM AO AU Bz:Int)(CB:AAh):Option F5:=
 cond ((decide (t4<(CB.length:Int))))
  (if(0:Int)≤t4∧t4<(CB.length:Int)then(
  cond (((CB.getD (t4.toNat) 0).toNat:Int)==10)
   (some ((([],false,()),()),()))
  (R4 (AX (t4+1)) AM AO AU Bz CB))else none)
 ((K5 AM).bind fun u5=>
 (Ku (AM,AO,AU,Bz,CB,())).bind fun u6=>
 XZ u5.1.1 0 AM AO AU Bz CB u6.2.1)
def ER(R4:I_)(XZ:H8)(t5:AAh)(t7 AM AO AU Bz:Int)(CB:AAh)(b1:AAQ):Option F5:=
 cond ((decide (t7<(b1.length:Int))))
  (if(0:Int)≤t7∧t7<(b1.length:Int)then(
  (BE (b1.getD (t7.toNat) 0) 0 9999999999).bind fun u9=>
  cond (!u9.1.1)
   (some ((([],false,()),()),()))
  (if t5.length+1≤Cg then(
  if(0:Int)≤t7∧t7<(b1.length:Int)then(
  (Ly (b1.getD (t7.toNat) 0)).bind fun Fm=>
  if(t5++[32]).length+Fm.1.1.length≤Cg then(
  XZ ((t5++[32])++Fm.1.1) (AX (t7+1)) AM AO AU Bz CB b1)else none)else none)else none))else none)
 (cond (AM==2)
  (if t5.length+1≤Cg then(
  if(t5++[32]).length+CB.length≤Cg then(
  some ((((t5++[32])++CB,true,()),()),()))else none)else none)
 (cond (AM==13)
  (if t5.length+1≤Cg then(
  (IX AO).bind fun T5=>
  if(t5++[32]).length+T5.1.1.length≤Cg then(
  some (((((t5++[32])++T5.1.1),true,()),()),()))else none)else none)
 (some (((t5,true,()),()),()))))
mutual
def Cl:Nat→I_
 |0=>fun _ _ _ _ _ _=>none
 |n+1=>Ep (Cl n) (CS n)
def CS:Nat→H8
 |0=>fun _ _ _ _ _ _ _ _=>none
 |n+1=>ER (Cl n) (CS n)
end
def NN(R4:I_)(XZ:H8)(p0:ABJ):Option F5:=
 (KQ (p0.1,p0.2.1,p0.2.2.1,p0.2.2.2.1,p0.2.2.2.2.1,())).bind fun u1=>
 cond (!u1.1.1)
  (some ((([],false,()),()),()))
 (cond (p0.1==13)
  ((C8 p0.2.1).bind fun u2=>
  cond (!u2.1.1)
   (some ((([],false,()),()),()))
  (R4 0 p0.1 p0.2.1 p0.2.2.1 p0.2.2.2.1 p0.2.2.2.2.1))
 (R4 0 p0.1 p0.2.1 p0.2.2.1 p0.2.2.2.1 p0.2.2.2.2.1))
def EB(p0:ABJ):Option F5:=NN (Cl Ar) (CS Ar) p0
abbrev UF:Type:=((List UInt8×List UInt8×Bool×Unit)×Unit)×Unit
def strings_Cut(p0:AAh)(p1:AAh):Option UF:=(su p0 p1).map fun l=>(((l.1,l.2.1,l.2.2,()),()),())
abbrev NH:Type:=ABO×Unit
def FT(p0:List AAh)(p1:AAh):Option NH:=(dC p0 p1).map fun l=>((l,()),())
abbrev Vy:Type:=ABv×Unit
def GB(p0:AAh)(p1:Int):Option Vy:=(CW p0 p1).map fun l=>(((l.1,l.2,()),()),())
abbrev Sz:Type:=ABR×Unit
def strings_TrimPrefix(p0:AAh)(p1:AAh):Option Sz:=(XN p0 p1).map fun l=>((l,()),())
abbrev Qw:Type:=ABv×Unit
def Ic(p0:AAh):Option Qw:=
 (strings_TrimPrefix p0 [101]).bind fun u1=>
 (strings_Cut u1.1.1 [46]).bind fun u2=>
 (GB u2.1.1.1 2).bind fun u3=>
 (GB u2.1.1.2.1 2).bind fun u4=>
 (K_ u3.1.1.1 u4.1.1.1).bind fun u5=>
 cond (!u3.1.1.2.1)
  (some (((0,false,()),()),()))
 (cond (!u4.1.1.2.1)
  (some (((0,false,()),()),()))
 (cond (!u5.1.1.2.1)
  (some (((0,false,()),()),()))
 ((Gp u5.1.1.1).bind fun u6=>
 cond (!(u6.1.1==p0))
  (some (((0,false,()),()),()))
 (some (((u5.1.1.1,true,()),()),())))))
abbrev TW:Type:=ABR×ABh
def HZ(p1:Int)(p2:AAh)(AM AO AU Bz:Int)(CB:AAh):Option TW:=
 cond (p1==84)
  (some (([],()),((AM,AO,AU,Bz,p2,()),())))
 ((strings_Cut p2 [32]).bind fun u1=>
 (GB u1.1.1.1 10).bind fun u2=>
 cond (p1==65)
  (some ((u1.1.1.2.1,()),((AM,u2.1.1.1,AU,Bz,CB,()),())))
 (cond (p1==66)
  (some ((u1.1.1.2.1,()),((AM,AO,u2.1.1.1,Bz,CB,()),())))
 (cond (p1==67)
  (some ((u1.1.1.2.1,()),((AM,AO,AU,u2.1.1.1,CB,()),())))
 (cond (p1==80)
  ((Ic u1.1.1.1).bind fun u3=>
  some ((u1.1.1.2.1,()),((AM,u3.1.1.1,AU,Bz,CB,()),())))
 (some ((u1.1.1.2.1,()),((AM,AO,AU,Bz,CB,()),())))))))
abbrev JJ:Type:=(ADt×Unit)×Unit
abbrev Kp:Type:=List UInt8→List UInt8→Int→Int→Int→Int→Int→Int→List UInt8→Int→Int→Int→Int→List UInt8→List Int→Option JJ
def EH(R6:Kp)(t0 t5:AAh)(t31 t32 AM AO AU Bz:Int)(CB:AAh)(B4 BK DB Dj:Int)(FO:AAh)(b2:AAQ):Option JJ:=
 cond (decide (t32<t31))
  (if(0:Int)≤t32∧t32<(b2.length:Int)then(
  (HZ (b2.getD (t32.toNat) 0) t5 B4 BK DB Dj FO).bind fun u8=>
  R6 t0 u8.1.1 t31 (AX (t32+1)) AM AO AU Bz CB u8.2.1.1 u8.2.1.2.1 u8.2.1.2.2.1 u8.2.1.2.2.2.1 u8.2.1.2.2.2.2.1 b2)else none)
 ((Ga (B4,BK,DB,Dj,FO,())).bind fun u9=>
 cond (!u9.1.1.2.1)
  (some ((((0,0,0,0,[],()),false,()),()),()))
 (cond (!(u9.1.1.1==t0))
  (some ((((0,0,0,0,[],()),false,()),()),()))
 (some ((((B4,BK,DB,Dj,FO,()),true,()),()),()))))
def EX:Nat→Kp
 |0=>fun _ _ _ _ _ _ _ _ _ _ _ _ _ _ _=>none
 |n+1=>EH (EX n)
def Mm(R6:Kp)(p0:AAh):Option JJ:=
 (strings_Cut p0 [32]).bind fun u1=>
 (Ik).bind fun u2=>
 (FT u2.2.1 u1.1.1.1).bind fun u3=>
 cond (((AX (1+u3.1.1))==0))
  (some ((((0,0,0,0,[],()),false,()),()),()))
 ((I1 (AX (1+u3.1.1))).bind fun u5=>
 if u5.1.1.length≤Cg then(
 let x6:AAQ:=(u5.1.1.map fun c=>(c.toNat:Int))
 R6 p0 u1.1.1.2.1 (x6.length:Int) 0 0 0 0 0 [] (AX (1+u3.1.1)) 0 0 0 [] x6)else none)
def Gv(p0:AAh):Option JJ:=Mm (EX Ar) p0
abbrev aq:Type:=ABR×ABU
def HD(p1:AAh)(p2:List AAh)(AM:AAQ)(AO AU:Int):Option aq:=
 (AL (AX ((p1.length:Int)+1)) AM AO AU).bind fun u2=>
 (AL 3 u2.2.1.1 u2.2.1.2.1 u2.2.1.2.2.1).bind fun u3=>
 cond (u3.1.1==0)
  (if(0:Int)≤(0:Int)∧(0:Int)≤u2.1.1∧u2.1.1≤(p1.length:Int)then(
  some ((((p1.drop 0).take ((u2.1.1.toNat)-0)),()),((u3.2.1.1,u3.2.1.2.1,u3.2.1.2.2.1,()),())))else none)
 (cond (u3.1.1==1)
  (if(0:Int)≤(0:Int)∧(0:Int)≤u2.1.1∧u2.1.1≤(p1.length:Int)then(
  let x5:AAh:=((p1.drop 0).take ((u2.1.1.toNat)-0))
  (DI p2 u3.2.1.1 u3.2.1.2.1 u3.2.1.2.2.1).bind fun u6=>
  if x5.length+u6.1.1.length≤Cg then(
  (HV (AX (u2.1.1+1)) (p1.length:Int)).bind fun u7=>
  if(0:Int)≤u7.1.1∧u7.1.1≤(p1.length:Int)∧(p1.length:Int)≤(p1.length:Int)then(
  let x8:AAh:=((p1.drop (u7.1.1.toNat)).take (((p1.length:Int).toNat)-(u7.1.1.toNat)))
  if(x5++u6.1.1).length+x8.length≤Cg then(
  some (((x5++u6.1.1)++x8,()),((u6.2.1.1,u6.2.1.2.1,u6.2.1.2.2.1,()),())))else none)else none)else none)else none)
 (if(0:Int)≤(0:Int)∧(0:Int)≤u2.1.1∧u2.1.1≤(p1.length:Int)then(
 let x9:AAh:=((p1.drop 0).take ((u2.1.1.toNat)-0))
 if(0:Int)≤u2.1.1∧u2.1.1≤(p1.length:Int)∧(p1.length:Int)≤(p1.length:Int)then(
 let x10:AAh:=((p1.drop (u2.1.1.toNat)).take (((p1.length:Int).toNat)-(u2.1.1.toNat)))
 (DI p2 u3.2.1.1 u3.2.1.2.1 u3.2.1.2.2.1).bind fun Fm=>
 if x9.length+Fm.1.1.length≤Cg then(
 if(x9++Fm.1.1).length+x10.length≤Cg then(
 some ((((x9++Fm.1.1)++x10),()),((Fm.2.1.1,Fm.2.1.2.1,Fm.2.1.2.2.1,()),())))else none)else none)else none)else none))
abbrev Ud:Type:=ABR×ABU
def I0(p1:List Int×Int×List ABG×List Int×List ABL×Int×List ABF×List ABE×List ABI×List ABN×Bool×Unit)(AM:AAQ)(AO AU:Int):Option Ud:=
 (DI [[106,117,100,103,101],[111,117,116,32,48],[111,117,116,32,49],[],[35],[104,101,108,112],[111,117,116,32,50],[109,101,110,100,32],[116,114,105,109,32,101,49,46,49],[112,108,97,110]] AM AO AU).bind fun u1=>
 (Al 4 u1.2.1.1 u1.2.1.2.1 u1.2.1.2.2.1).bind fun u2=>
 cond (!u2.1.1)
  ((Lb (p1.1,p1.2.1,p1.2.2.1,p1.2.2.2.1,p1.2.2.2.2.1,p1.2.2.2.2.2.1,p1.2.2.2.2.2.2.1,p1.2.2.2.2.2.2.2.1,p1.2.2.2.2.2.2.2.2.1,p1.2.2.2.2.2.2.2.2.2.1,p1.2.2.2.2.2.2.2.2.2.2.1,())).bind fun u3=>
  cond (u3.1.1)
   ((FK (p1.1,p1.2.1,p1.2.2.1,p1.2.2.2.1,p1.2.2.2.2.1,p1.2.2.2.2.2.1,p1.2.2.2.2.2.2.1,p1.2.2.2.2.2.2.2.1,p1.2.2.2.2.2.2.2.2.1,p1.2.2.2.2.2.2.2.2.2.1,p1.2.2.2.2.2.2.2.2.2.2.1,()) u2.2.1.1 u2.2.1.2.1 u2.2.1.2.2.1).bind fun u4=>
   (EB (u4.1.1.1,u4.1.1.2.1,u4.1.1.2.2.1,u4.1.1.2.2.2.1,u4.1.1.2.2.2.2.1,())).bind fun u5=>
   cond (u5.1.1.2.1)
    ((Al 12 u4.2.1.1 u4.2.1.2.1 u4.2.1.2.2.1).bind fun u6=>
    cond (u6.1.1)
     ((HD u5.1.1.1 [[32],[48],[120],[57],[35],[97,100,100],[101,49,46,49]] u6.2.1.1 u6.2.1.2.1 u6.2.1.2.2.1).bind fun u7=>
     some ((u7.1.1,()),((u7.2.1.1,u7.2.1.2.1,u7.2.1.2.2.1,()),())))
    (some ((u5.1.1.1,()),((u6.2.1.1,u6.2.1.2.1,u6.2.1.2.2.1,()),()))))
   ((Al 12 u4.2.1.1 u4.2.1.2.1 u4.2.1.2.2.1).bind fun u8=>
   cond (u8.1.1)
    ((HD u1.1.1 [[32],[48],[120],[57],[35],[97,100,100],[101,49,46,49]] u8.2.1.1 u8.2.1.2.1 u8.2.1.2.2.1).bind fun u9=>
    some ((u9.1.1,()),((u9.2.1.1,u9.2.1.2.1,u9.2.1.2.2.1,()),())))
   (some ((u1.1.1,()),((u8.2.1.1,u8.2.1.2.1,u8.2.1.2.2.1,()),())))))
  ((Al 12 u2.2.1.1 u2.2.1.2.1 u2.2.1.2.2.1).bind fun Ft=>
  cond (Ft.1.1)
   ((HD u1.1.1 [[32],[48],[120],[57],[35],[97,100,100],[101,49,46,49]] Ft.2.1.1 Ft.2.1.2.1 Ft.2.1.2.2.1).bind fun Fm=>
   some ((Fm.1.1,()),((Fm.2.1.1,Fm.2.1.2.1,Fm.2.1.2.2.1,()),())))
  (some ((u1.1.1,()),((Ft.2.1.1,Ft.2.1.2.1,Ft.2.1.2.2.1,()),())))))
 ((Al 12 u2.2.1.1 u2.2.1.2.1 u2.2.1.2.2.1).bind fun Ox=>
 cond (Ox.1.1)
  ((HD u1.1.1 [[32],[48],[120],[57],[35],[97,100,100],[101,49,46,49]] Ox.2.1.1 Ox.2.1.2.1 Ox.2.1.2.2.1).bind fun T5=>
  some ((T5.1.1,()),((T5.2.1.1,T5.2.1.2.1,T5.2.1.2.2.1,()),())))
 (some ((u1.1.1,()),((Ox.2.1.1,Ox.2.1.2.1,Ox.2.1.2.2.1,()),()))))
abbrev TQ:Type:=ABR×Unit
def FZ(p0:AAQ):Option TQ:=
 (Ob p0).bind fun u1=>
 (GK 20 u1.2.1.1 u1.2.1.2.1 u1.2.1.2.2.1).bind fun u2=>
 (I0 (u2.2.2.2.2.2.2.2.2.2.2.2.1,u2.1.1.2.2.1.2.1,u2.2.2.2.2.2.2.2.2.2.2.2.2.1,u2.2.2.2.2.2.2.2.2.2.2.2.2.2.1,u2.2.2.2.2.2.2.2.2.2.2.2.2.2.2.1,u2.1.1.2.2.1.2.2.2.2.2.1,u2.2.2.2.2.2.2.2.2.2.2.2.2.2.2.2.1,u2.2.2.2.2.2.2.2.2.2.2.2.2.2.2.2.2.1,u2.2.2.2.2.2.2.2.2.2.2.2.2.2.2.2.2.2.1,u2.2.2.2.2.2.2.2.2.2.2.2.2.2.2.2.2.2.2.1,u2.1.1.2.2.1.2.2.2.2.2.2.2.2.2.2.1,()) u2.2.1.1 u2.2.1.2.1 u2.2.1.2.2.1).bind fun Ox=>
 some ((Ox.1.1,()),())
abbrev Jf:Type:=((Int×Int×Unit)×Unit)×Unit
abbrev LU:Type:=List UInt8→Int→Int→Int→Option Jf
def K8(R3:LU)(t0:AAh)(t1 t6 t7:Int):Option Jf:=
 cond ((decide (t1<(t0.length:Int))))
  (if(0:Int)≤t1∧t1<(t0.length:Int)then(
  cond (decide (((t0.getD (t1.toNat) 0).toNat:Int)≥48))
   (if(0:Int)≤t1∧t1<(t0.length:Int)then(
   cond (decide (((t0.getD (t1.toNat) 0).toNat:Int)≤57))
    (cond ((decide ((AX (t1-t6))<11)))
     (if(0:Int)≤t1∧t1<(t0.length:Int)then(
     R3 t0 (AX (t1+1)) t6 (AX ((AX ((AX (10*t7))+(AX (((t0.getD (t1.toNat) 0).toNat:Int)))))-48)))else none)
    (cond (t1==t6)
     (some ((((-1),t1,()),()),()))
    (cond ((decide ((AX (t1-t6))>10)))
     (some ((((-1),t1,()),()),()))
    (some (((t7,t1,()),()),())))))
   (cond (t1==t6)
    (some ((((-1),t1,()),()),()))
   (cond ((decide ((AX (t1-t6))>10)))
    (some ((((-1),t1,()),()),()))
   (some (((t7,t1,()),()),())))))else none)
  (cond (t1==t6)
   (some ((((-1),t1,()),()),()))
  (cond ((decide ((AX (t1-t6))>10)))
   (some ((((-1),t1,()),()),()))
  (some (((t7,t1,()),()),())))))else none)
 (cond (t1==t6)
  (some ((((-1),t1,()),()),()))
 (cond ((decide ((AX (t1-t6))>10)))
  (some ((((-1),t1,()),()),()))
 (some (((t7,t1,()),()),()))))
def HB:Nat→LU
 |0=>fun _ _ _ _=>none
 |n+1=>K8 (HB n)
def U9(R3:LU)(p0:AAh)(p1:Int):Option Jf:=
 R3 p0 p1 p1 0
def Ma(p0:AAh)(p1:Int):Option Jf:=U9 (HB Ar) p0 p1
abbrev de:Type:=ABh×Unit
def Rg(p0:Int)(p1:AAQ):Option de:=
 cond (p0==11)
  (if(0:Int)≤(0:Int)∧(0:Int)<(p1.length:Int)then(
  if(0:Int)≤(1:Int)∧(1:Int)<(p1.length:Int)then(
  some (((p0,0,(p1.getD 0 0),(p1.getD 1 0),[],()),()),()))else none)else none)
 (cond ((decide ((p1.length:Int)>0)))
  (if(0:Int)≤(0:Int)∧(0:Int)<(p1.length:Int)then(
  cond ((decide ((p1.length:Int)>1)))
   (if(0:Int)≤(1:Int)∧(1:Int)<(p1.length:Int)then(
   cond ((decide ((p1.length:Int)>2)))
    (if(0:Int)≤(2:Int)∧(2:Int)<(p1.length:Int)then(
    some (((p0,(p1.getD 0 0),(p1.getD 1 0),(p1.getD 2 0),[],()),()),()))else none)
   (some (((p0,(p1.getD 0 0),(p1.getD 1 0),0,[],()),()),())))else none)
  (cond ((decide ((p1.length:Int)>2)))
   (if(0:Int)≤(2:Int)∧(2:Int)<(p1.length:Int)then(
   some (((p0,(p1.getD 0 0),0,(p1.getD 2 0),[],()),()),()))else none)
  (some (((p0,(p1.getD 0 0),0,0,[],()),()),()))))else none)
 (some (((p0,0,0,0,[],()),()),())))
abbrev WR:Type:=ABv×Unit
def Kk(p0:AAh):Option WR:=
 cond ((decide ((p0.length:Int)<4)))
  (some (((0,false,()),()),()))
 ((Ma p0 1).bind fun u2=>
 (Ma p0 (AX (u2.1.1.2.1+1))).bind fun u3=>
 (IQ u2.1.1.1 u3.1.1.1).bind fun u4=>
 cond (!u4.1.1.2.1)
  (some (((0,false,()),()),()))
 ((IX u4.1.1.1).bind fun u5=>
 cond (!(u5.1.1==p0))
  (some (((0,false,()),()),()))
 (some (((u4.1.1.1,true,()),()),()))))
abbrev D5:Type:=(ADt×Unit)×Unit
abbrev IC:Type:=List UInt8→Int→Int→Int→Int→Int→List UInt8→Int→Int→Int→Int→List UInt8→Option D5
abbrev HU:Type:=List UInt8→Int→Int→Int→Int→Int→Int→Int→Int→List UInt8→Int→Int→Int→Int→List UInt8→List Int→Option D5
def EO(R3:IC)(XZ:HU)(t0:AAh)(t5 AM AO AU Bz:Int)(CB:AAh)(B4 BK DB Dj:Int)(FO:AAh):Option D5:=
 cond (decide (t5≤16))
  ((K5 t5).bind fun u1=>
  cond ((decide ((t0.length:Int)<(u1.1.1.length:Int))))
   (R3 t0 (AX (t5+1)) AM AO AU Bz CB B4 BK DB Dj FO)
  (let x4:Int:=(u1.1.1.length:Int)
  if(0:Int)≤(0:Int)∧(0:Int)≤x4∧x4≤(t0.length:Int)then(
  cond (!(((t0.drop 0).take ((x4.toNat)-0))==u1.1.1))
   (R3 t0 (AX (t5+1)) AM AO AU Bz CB B4 BK DB Dj FO)
  ((Ku (t5,0,0,0,[],())).bind fun u6=>
  XZ t0 t5 (u6.2.1.length:Int) (u1.1.1.length:Int) 0 AM AO AU Bz CB B4 BK DB Dj FO []))else none))
 (some ((((B4,BK,DB,Dj,FO,()),false,()),()),()))
def Dw(R3:IC)(XZ:HU)(t0:AAh)(t5 t7 t8 t10 AM AO AU Bz:Int)(CB:AAh)(B4 BK DB Dj:Int)(FO:AAh)(b2:AAQ):Option D5:=
 cond (decide (t10<t7))
  ((Ma t0 (AX (t8+1))).bind fun u9=>
  cond ((decide (u9.1.1.1<0)))
   (some ((((B4,BK,DB,Dj,FO,()),false,()),()),()))
  (if b2.length+1≤Cg then(
  XZ t0 t5 t7 u9.1.1.2.1 (AX (t10+1)) AM AO AU Bz CB B4 BK DB Dj FO (b2++[u9.1.1.1]))else none))
 ((Rg t5 b2).bind fun Fm=>
 cond (t5==2)
  ((HV (AX (t8+1)) (t0.length:Int)).bind fun Ox=>
  if(0:Int)≤Ox.1.1∧Ox.1.1≤(t0.length:Int)∧(t0.length:Int)≤(t0.length:Int)then(
  let x13:AAh:=((t0.drop (Ox.1.1.toNat)).take (((t0.length:Int).toNat)-(Ox.1.1.toNat)))
  (EB (Fm.1.1.1,Fm.1.1.2.1,Fm.1.1.2.2.1,Fm.1.1.2.2.2.1,x13,())).bind fun NM=>
  cond (!NM.1.1.2.1)
   (some ((((B4,BK,DB,Dj,FO,()),false,()),()),()))
  (cond (!(NM.1.1.1==t0))
   (some ((((B4,BK,DB,Dj,FO,()),false,()),()),()))
  (some ((((Fm.1.1.1,Fm.1.1.2.1,Fm.1.1.2.2.1,Fm.1.1.2.2.2.1,x13,()),true,()),()),()))))else none)
 (cond (t5==13)
  ((HV (AX (t8+1)) (t0.length:Int)).bind fun mh=>
  if(0:Int)≤mh.1.1∧mh.1.1≤(t0.length:Int)∧(t0.length:Int)≤(t0.length:Int)then(
  (Kk ((t0.drop (mh.1.1.toNat)).take (((t0.length:Int).toNat)-(mh.1.1.toNat)))).bind fun RG=>
  (EB (Fm.1.1.1,RG.1.1.1,Fm.1.1.2.2.1,Fm.1.1.2.2.2.1,Fm.1.1.2.2.2.2.1,())).bind fun fA=>
  cond (!fA.1.1.2.1)
   (some ((((B4,BK,DB,Dj,FO,()),false,()),()),()))
  (cond (!(fA.1.1.1==t0))
   (some ((((B4,BK,DB,Dj,FO,()),false,()),()),()))
  (some ((((Fm.1.1.1,RG.1.1.1,Fm.1.1.2.2.1,Fm.1.1.2.2.2.1,Fm.1.1.2.2.2.2.1,()),true,()),()),()))))else none)
 ((EB (Fm.1.1.1,Fm.1.1.2.1,Fm.1.1.2.2.1,Fm.1.1.2.2.2.1,Fm.1.1.2.2.2.2.1,())).bind fun WA=>
 cond (!WA.1.1.2.1)
  (some ((((B4,BK,DB,Dj,FO,()),false,()),()),()))
 (cond (!(WA.1.1.1==t0))
  (some ((((B4,BK,DB,Dj,FO,()),false,()),()),()))
 (some ((((Fm.1.1.1,Fm.1.1.2.1,Fm.1.1.2.2.1,Fm.1.1.2.2.2.1,Fm.1.1.2.2.2.2.1,()),true,()),()),()))))))
mutual
def CG:Nat→IC
 |0=>fun _ _ _ _ _ _ _ _ _ _ _ _=>none
 |n+1=>EO (CG n) (CM n)
def CM:Nat→HU
 |0=>fun _ _ _ _ _ _ _ _ _ _ _ _ _ _ _ _=>none
 |n+1=>Dw (CG n) (CM n)
end
def Mb(R3:IC)(XZ:HU)(p0:AAh):Option D5:=
 R3 p0 1 0 0 0 0 [] 0 0 0 0 []
def Ig(p0:AAh):Option D5:=Mb (CG Ar) (CM Ar) p0
abbrev Pk:Type:=ABH×Unit
def Hh(p0:AAQ):Option Pk:=
 (aa p0).bind fun u1=>
 cond (u1.1.1)
  (some ((true,()),()))
 ((IA p0).bind fun u2=>
 (Ga (u2.1.1.1,u2.1.1.2.1,u2.1.1.2.2.1,u2.1.1.2.2.2.1,u2.1.1.2.2.2.2.1,())).bind fun u3=>
 (EB (u2.1.1.1,u2.1.1.2.1,u2.1.1.2.2.1,u2.1.1.2.2.2.1,u2.1.1.2.2.2.2.1,())).bind fun u4=>
 cond ((u3.1.1.2.1 !=u4.1.1.2.1))
  (some ((false,()),()))
 ((Mn (u2.1.1.1,u2.1.1.2.1,u2.1.1.2.2.1,u2.1.1.2.2.2.1,u2.1.1.2.2.2.2.1,())).bind fun u6=>
 (KQ (u2.1.1.1,u2.1.1.2.1,u2.1.1.2.2.1,u2.1.1.2.2.2.1,u2.1.1.2.2.2.2.1,())).bind fun u7=>
 cond (u6.1.1 !=u7.1.1)
  (some ((false,()),()))
 (cond (u3.1.1.2.1)
  ((Gv u3.1.1.1).bind fun u8=>
  cond (!u8.1.1.2.1)
   (some ((false,()),()))
  (cond ((!((u8.1.1.1.1==u2.1.1.1)&&((u8.1.1.1.2.1==u2.1.1.2.1)&&((u8.1.1.1.2.2.1==u2.1.1.2.2.1)&&((u8.1.1.1.2.2.2.1==u2.1.1.2.2.2.1)&&((u8.1.1.1.2.2.2.2.1==u2.1.1.2.2.2.2.1)&&true)))))))
   (some ((false,()),()))
  ((FZ p0).bind fun Ft=>
  (Gv Ft.1.1).bind fun Fm=>
  (Ig Ft.1.1).bind fun Ox=>
  cond ((Fm.1.1.2.1 !=Ox.1.1.2.1))
   (some ((false,()),()))
  ((Ga (Fm.1.1.1.1,Fm.1.1.1.2.1,Fm.1.1.1.2.2.1,Fm.1.1.1.2.2.2.1,Fm.1.1.1.2.2.2.2.1,())).bind fun NM=>
  cond (!Fm.1.1.2.1)
   (cond (((Fm.1.1.1.1==0)&&((Fm.1.1.1.2.1==0)&&((Fm.1.1.1.2.2.1==0)&&((Fm.1.1.1.2.2.2.1==0)&&((Fm.1.1.1.2.2.2.2.1==[])&&true))))))
    (some ((true,()),()))
   (cond (Fm.1.1.2.1)
    (cond (NM.1.1.2.1)
     (some ((NM.1.1.1==Ft.1.1,()),()))
    (some ((false,()),())))
   (some ((false,()),()))))
  (cond (Fm.1.1.2.1)
   (cond (NM.1.1.2.1)
    (some ((NM.1.1.1==Ft.1.1,()),()))
   (some ((false,()),())))
  (some ((false,()),())))))))
 ((FZ p0).bind fun u16=>
 (Gv u16.1.1).bind fun RG=>
 (Ig u16.1.1).bind fun fA=>
 cond ((RG.1.1.2.1 !=fA.1.1.2.1))
  (some ((false,()),()))
 ((Ga (RG.1.1.1.1,RG.1.1.1.2.1,RG.1.1.1.2.2.1,RG.1.1.1.2.2.2.1,RG.1.1.1.2.2.2.2.1,())).bind fun Tv=>
 cond (!RG.1.1.2.1)
  (cond (((RG.1.1.1.1==0)&&((RG.1.1.1.2.1==0)&&((RG.1.1.1.2.2.1==0)&&((RG.1.1.1.2.2.2.1==0)&&((RG.1.1.1.2.2.2.2.1==[])&&true))))))
   (some ((true,()),()))
  (cond (RG.1.1.2.1)
   (cond (Tv.1.1.2.1)
    (some ((Tv.1.1.1==u16.1.1,()),()))
   (some ((false,()),())))
  (some ((false,()),()))))
 (cond (RG.1.1.2.1)
  (cond (Tv.1.1.2.1)
   (some ((Tv.1.1.1==u16.1.1,()),()))
  (some ((false,()),())))
 (some ((false,()),()))))))))
end
end Go.M
