/- What each function computes, printed by a program out of the translation; what is printed is checked in the equations. -/
import Derived.Test.YtgaopeilfepjmaaGreatF1
set_option linter.unusedVariables false
set_option linter.unusedSimpArgs false
set_option linter.unusedSectionVars false
namespace Go.M
noncomputable section
abbrev jZ:Type:=ABS×Unit
def bc(p0:AAG):Option jZ:=
 some (((decide ((p0.length:Int)>1048576)),()),())
abbrev O1:Type:=ABW×ADZ
abbrev RE:Type:=List Int→Int→Int→Option O1
def Rr(R3:RE)(t0:AAG)(t3 t4:Int):Option O1:=
 cond ((decide (t4<(t0.length:Int))))
  (cond (decide (t4<4000))
   (if(0:Int)≤t4∧t4<(t0.length:Int)then(
   R3 t0 (ZY .i64 (A6 ((A6 ((A6 (t3*131))+(A6 ((t0.getD (t4.toNat) 0)))))+7)) 1073741823) (A6 (t4+1)))else none)
  (some (((),()),((t0,0,t3,()),()))))
 (some (((),()),((t0,0,t3,()),())))
def Kk:Nat→RE
 |0=>fun _ _ _=>none
 |n+1=>Rr (Kk n)
def RR(R3:RE)(p0:AAG):Option O1:=
 R3 p0 (A6 (17817+(p0.length:Int))) 0
def Sc(p0:AAG):Option O1:=RR (Kk Aq) p0
abbrev cy:Type:=ABV×ADZ
def IW(BF:AAG)(AJ EE:Int):Option cy:=
 let x2:Int:=A6 ((A6 (EE*6364136223846793005))+1442695040888963407)
 let x3:Int:=wX .i64 (x2.fdiv (2^33)) (x2.fdiv (2^45))
 cond ((decide (AJ<(BF.length:Int))))
  (if(0:Int)≤AJ∧AJ<(BF.length:Int)then(
  some ((ZY .i64 (A6 ((ZY .i64 x3 255)+(A6 ((BF.getD (AJ.toNat) 0))))) 255,()),((BF,A6 (AJ+1),x2,()),())))else none)
 (some ((ZY .i64 x3 255,()),((BF,AJ,x2,()),())))
abbrev bN:Type:=ABV×ADZ
def Fo(p1:Int)(BF:AAG)(AJ EE:Int):Option bN:=
 cond (decide (p1≤0))
  (some ((0,()),((BF,AJ,EE,()),())))
 (cond (decide (p1≤256))
  ((IW BF AJ EE).bind fun u1=>
  if p1=0 then none else(
  some ((u1.1.1.tmod p1,()),((u1.2.1.1,u1.2.1.2.1,u1.2.1.2.2.1,()),()))))
 ((IW BF AJ EE).bind fun u2=>
 (IW u2.2.1.1 u2.2.1.2.1 u2.2.1.2.2.1).bind fun u3=>
 (IW u3.2.1.1 u3.2.1.2.1 u3.2.1.2.2.1).bind fun u4=>
 (IW u4.2.1.1 u4.2.1.2.1 u4.2.1.2.2.1).bind fun u5=>
 if p1=0 then none else(
 some ((((A6 ((A6 ((A6 ((A6 (u2.1.1*16777216))+(A6 (u3.1.1*65536))))+(A6 (u4.1.1*256))))+u5.1.1)).tmod p1),()),((u5.2.1.1,u5.2.1.2.1,u5.2.1.2.2.1,()),())))))
abbrev cu:Type:=ABS×ADZ
def QQ(p1:Int)(BF:AAG)(AJ EE:Int):Option cu:=
 (Fo p1 BF AJ EE).bind fun u1=>
 some ((u1.1.1==0,()),((u1.2.1.1,u1.2.1.2.1,u1.2.1.2.2.1,()),()))
abbrev IZ:Type:=ADT×ADv
abbrev KZ:Type:=Int→Int→List Int→Int→Int→Int→List Int→Int→List Int→Option IZ
def MX(R4:KZ)(t4 t5:Int)(BF:AAG)(AJ EE Ey:Int)(b2:AAG)(ACA:Int)(b4:AAG):Option IZ:=
 cond (decide (t5<t4))
  ((Fo 5 BF AJ EE).bind fun u3=>
  if b4.length+1≤IQ then(
  R4 t4 (A6 (t5+1)) u3.2.1.1 u3.2.1.2.1 u3.2.1.2.2.1 Ey b2 ACA (b4++[u3.1.1]))else none)
 ((QQ 2 BF AJ EE).bind fun u5=>
 cond (u5.1.1)
  (some ((((),2,()),()),((u5.2.1.1,u5.2.1.2.1,u5.2.1.2.2.1,()),b4,())))
 (some ((((),ACA,()),()),((u5.2.1.1,u5.2.1.2.1,u5.2.1.2.2.1,()),b4,()))))
def Fe:Nat→KZ
 |0=>fun _ _ _ _ _ _ _ _ _=>none
 |n+1=>MX (Fe n)
def MB(R4:KZ)(BF:AAG)(AJ EE:Int):Option IZ:=
 (Fo 3 BF AJ EE).bind fun u1=>
 (Fo 5 u1.2.1.1 u1.2.1.2.1 u1.2.1.2.2.1).bind fun u2=>
 R4 (A6 (3+u2.1.1)) 0 u2.2.1.1 u2.2.1.2.1 u2.2.1.2.2.1 0 [] (A6 (1+u1.1.1)) []
def J_(BF:AAG)(AJ EE:Int):Option IZ:=MB (Fe Aq) BF AJ EE
abbrev Xv:Type:=ABV×ADZ
def H5(p1 BF:AAG)(AJ EE:Int):Option Xv:=
 (Fo (p1.length:Int) BF AJ EE).bind fun u1=>
 if(0:Int)≤u1.1.1∧u1.1.1<(p1.length:Int)then(
 some (((p1.getD (u1.1.1.toNat) 0),()),((u1.2.1.1,u1.2.1.2.1,u1.2.1.2.2.1,()),())))else none
abbrev c_:Type:=ADT×ADv
def Ng(BF:AAG)(AJ EE:Int):Option c_:=
 (J_ BF AJ EE).bind fun u1=>
 (Fo 20 u1.2.1.1 u1.2.1.2.1 u1.2.1.2.2.1).bind fun u2=>
 cond (u2.1.1==0)
  ((H5 [0,4,5] u2.2.1.1 u2.2.1.2.1 u2.2.1.2.2.1).bind fun u3=>
  some ((((),u3.1.1,()),()),((u3.2.1.1,u3.2.1.2.1,u3.2.1.2.2.1,()),u1.2.2.1,())))
 (cond (u2.1.1==1)
  ((H5 [(-1),7,8] u2.2.1.1 u2.2.1.2.1 u2.2.1.2.2.1).bind fun u4=>
  if(0:Int)≤(0:Int)∧(0:Int)<(u1.2.2.1.length:Int)then(
  some ((((),u1.1.1.2.1,()),()),((u4.2.1.1,u4.2.1.2.1,u4.2.1.2.2.1,()),(u1.2.2.1.set 0 u4.1.1),())))else none)
 (cond (u2.1.1==2)
  ((H5 [0,8,9] u2.2.1.1 u2.2.1.2.1 u2.2.1.2.2.1).bind fun u6=>
  if(0:Int)≤u6.1.1∧u6.1.1≤u6.1.1∧u6.1.1≤(IQ:Int)then(
  some ((((),u1.1.1.2.1,()),()),((u6.2.1.1,u6.2.1.2.1,u6.2.1.2.2.1,()),(List.replicate (u6.1.1.toNat) 0),())))else none)
 (some ((((),u1.1.1.2.1,()),()),((u2.2.1.1,u2.2.1.2.1,u2.2.1.2.2.1,()),u1.2.2.1,())))))
abbrev Uq:Type:=ADT×ACQ
def L4(p0:AAG):Option Uq:=
 (Sc p0).bind fun u1=>
 (Ng u1.2.1.1 u1.2.1.2.1 u1.2.1.2.2.1).bind fun u2=>
 some ((((),u2.1.1.2.1,()),()),(u2.2.2.1,()))
abbrev TF:Type:=ABW×ACQ
def CL(p0:AAG):Option TF:=
 if 0+p0.length≤IQ then(
 some (((),()),(p0,())))else none
abbrev W4:Type:=ADT×ACQ
def Fb(p0:AA8):Option W4:=
 (CL p0.1).bind fun u1=>
 some ((((),p0.2.1,()),()),(u1.2.1,()))
abbrev Xt:Type:=(ADe×Unit)×ADf
def Hu:Option Xt:=
 some (((1,1,(),()),()),([],()))
abbrev I_:Type:=ABS×Unit
def Aj(p0 p1 p2:Int):Option I_:=
 cond (decide (p0≥p1))
  (some ((decide (p0≤p2),()),()))
 (some ((false,()),()))
abbrev K3:Type:=ABS×Unit
abbrev M8:Type:=List Int→Int→Int→List Int→Int→Option K3
def OX(R2:M8)(t6:AAG)(t7 t8:Int)(BF:AAG)(AJ:Int):Option K3:=
 cond (decide (t8<t7))
  (if(0:Int)≤t8∧t8<(t6.length:Int)then(
  (Aj (t6.getD (t8.toNat) 0) 0 7).bind fun u2=>
  cond (!u2.1.1)
   (some ((false,()),()))
  (R2 t6 t7 (A6 (t8+1)) BF AJ))else none)
 ((Aj (BF.length:Int) 1 8).bind fun u3=>
 cond (u3.1.1)
  ((Aj AJ 1 4).bind fun u4=>
  some ((u4.1.1,()),()))
 (some ((false,()),())))
def H0:Nat→M8
 |0=>fun _ _ _ _ _=>none
 |n+1=>OX (H0 n)
def OP(R2:M8)(p0:AA8):Option K3:=
 R2 p0.1 (p0.1.length:Int) 0 p0.1 p0.2.1
def De(p0:AA8):Option K3:=OP (H0 Aq) p0
abbrev Lv:Type:=ABS×Unit
abbrev OH:Type:=List Int→Int→List Int→Int→Int→Option Lv
def K8(R2:OH)(t0:AAG)(t1:Int)(t7:AAG)(t8 t9:Int):Option Lv:=
 cond (decide (t9<t8))
  (if(0:Int)≤t9∧t9<(t7.length:Int)then(
  let x1:Int:=(t7.getD (t9.toNat) 0)
  (Aj x1 0 t1).bind fun u2=>
  cond (!u2.1.1)
   (some ((false,()),()))
  (cond (decide (t9>0))
   (if(0:Int)≤A6 (t9-1)∧A6 (t9-1)<(t0.length:Int)then(
   cond (decide ((t0.getD ((A6 (t9-1)).toNat) 0)≥x1))
    (some ((false,()),()))
   (R2 t0 t1 t7 t8 (A6 (t9+1))))else none)
  (R2 t0 t1 t7 t8 (A6 (t9+1)))))else none)
 (some ((true,()),()))
def G1:Nat→OH
 |0=>fun _ _ _ _ _=>none
 |n+1=>K8 (G1 n)
def P1(R2:OH)(p0:AAG)(p1:Int):Option Lv:=
 R2 p0 p1 p0 (p0.length:Int) 0
def L9(p0:AAG)(p1:Int):Option Lv:=P1 (G1 Aq) p0 p1
abbrev aY:Type:=ABS×Unit
def C1(p0:AA8)(p1:AAG):Option aY:=
 (De (p0.1,p0.2.1,())).bind fun u1=>
 cond (u1.1.1)
  ((L9 p1 (A6 ((p0.1.length:Int)-1))).bind fun u3=>
  some ((u3.1.1,()),()))
 (some ((false,()),()))
abbrev Z8:Type:=ABS×Unit
def E5(p0:Int):Option Z8:=
 (Aj p0 1 30).bind fun u1=>
 some ((u1.1.1,()),())
abbrev eo:Type:=ABS×Unit
def Pd(p0:Int):Option eo:=
 (Aj p0 1 60).bind fun u1=>
 some ((u1.1.1,()),())
abbrev bq:Type:=ABS×Unit
def Cy(p0:Int):Option bq:=
 (E5 (A6 (p0.tdiv 4294967296))).bind fun u2=>
 cond (u2.1.1)
  ((Pd (p0.tmod 4294967296)).bind fun u3=>
  some ((u3.1.1,()),()))
 (some ((false,()),()))
abbrev cZ:Type:=ABS×Unit
def EL(p0:List UInt8):Option cZ:=
 some (((decide ((p0.length:Int)≤40)),()),())
abbrev bl:Type:=ABV×Unit
def Dj(p0:Int):Option bl:=
 (Cy p0).bind fun u1=>
 cond (!u1.1.1)
  (some ((0,()),()))
 (some (((A6 (p0.tdiv 4294967296)),()),()))
abbrev ba:Type:=ABS×Unit
def Ie(p0:ACs):Option ba:=
 (Aj p0.2.1 0 30).bind fun u1=>
 cond (u1.1.1)
  (cond (p0.2.1==0)
   (cond (!p0.2.2.1)
    ((Cy p0.1).bind fun u2=>
    cond (u2.1.1)
     ((EL p0.2.2.2.1).bind fun u3=>
     some ((u3.1.1,()),()))
    (some ((false,()),())))
   (cond (decide (p0.2.1>0))
    ((Cy p0.1).bind fun u4=>
    cond (u4.1.1)
     (cond (p0.2.2.2.1==[])
      ((EL p0.2.2.2.1).bind fun u5=>
      some ((u5.1.1,()),()))
     (some ((false,()),())))
    (some ((false,()),())))
   ((Cy p0.1).bind fun u6=>
   cond (u6.1.1)
    (some ((false,()),()))
   (some ((false,()),())))))
  ((Dj p0.1).bind fun u7=>
  let x8:Bool:=decide (p0.2.1>u7.1.1)
  cond (!p0.2.2.1)
   ((Cy p0.1).bind fun u9=>
   cond (u9.1.1)
    (cond (x8)
     ((EL p0.2.2.2.1).bind fun Io=>
     some ((Io.1.1,()),()))
    (some ((false,()),())))
   (some ((false,()),())))
  (cond (decide (p0.2.1>0))
   ((Cy p0.1).bind fun Rk=>
   cond (Rk.1.1)
    (cond (x8)
     (cond (p0.2.2.2.1==[])
      ((EL p0.2.2.2.1).bind fun Q4=>
      some ((Q4.1.1,()),()))
     (some ((false,()),())))
    (some ((false,()),())))
   (some ((false,()),())))
  ((Cy p0.1).bind fun Nc=>
  cond (Nc.1.1)
   (cond (x8)
    (some ((false,()),()))
   (some ((false,()),())))
  (some ((false,()),()))))))
 (cond (!p0.2.2.1)
  ((Cy p0.1).bind fun cK=>
  cond (cK.1.1)
   (some ((false,()),()))
  (some ((false,()),())))
 (cond (decide (p0.2.1>0))
  ((Cy p0.1).bind fun Uu=>
  cond (Uu.1.1)
   (some ((false,()),()))
  (some ((false,()),())))
 ((Cy p0.1).bind fun u16=>
 cond (u16.1.1)
  (some ((false,()),()))
 (some ((false,()),())))))
abbrev KE:Type:=ABS×Unit
abbrev L1:Type:=AA5→Int→Int→Option KE
def Jy(R2:L1)(t5:AA5)(t6 t7:Int):Option KE:=
 cond (decide (t7<t6))
  (if(0:Int)≤t7∧t7<(t5.length:Int)then(
  (Ie ((t5.getD (t7.toNat) (0,0,false,[],())).1,(t5.getD (t7.toNat) (0,0,false,[],())).2.1,(t5.getD (t7.toNat) (0,0,false,[],())).2.2.1,(t5.getD (t7.toNat) (0,0,false,[],())).2.2.2.1,())).bind fun u1=>
  cond (!u1.1.1)
   (some ((false,()),()))
  (R2 t5 t6 (A6 (t7+1))))else none)
 (some ((true,()),()))
def FN:Nat→L1
 |0=>fun _ _ _=>none
 |n+1=>Jy (FN n)
def N8(R2:L1)(p0:AA5):Option KE:=
 R2 p0 (p0.length:Int) 0
def J3(p0:AA5):Option KE:=N8 (FN Aq) p0
abbrev HU:Type:=ABS×Unit
abbrev Jf:Type:=AA5→AA5→Int→Int→Option HU
def IG(R2:Jf)(t0 t5:AA5)(t6 t7:Int):Option HU:=
 cond (decide (t7<t6))
  (if(0:Int)≤t7∧t7<(t5.length:Int)then(
  cond (decide (t7>0))
   (if(0:Int)≤A6 (t7-1)∧A6 (t7-1)<(t0.length:Int)then(
   cond (decide (((t0.getD ((A6 (t7-1)).toNat) (0,0,false,[],())).1)≥((t5.getD (t7.toNat) (0,0,false,[],())).1)))
    (some ((false,()),()))
   (R2 t0 t5 t6 (A6 (t7+1))))else none)
  (R2 t0 t5 t6 (A6 (t7+1))))else none)
 (some ((true,()),()))
def EI:Nat→Jf
 |0=>fun _ _ _ _=>none
 |n+1=>IG (EI n)
def LV(R2:Jf)(p0:AA5):Option HU:=
 R2 p0 p0 (p0.length:Int) 0
def G4(p0:AA5):Option HU:=LV (EI Aq) p0
abbrev bp:Type:=ABS×Unit
def Dn(p0:ACS):Option bp:=
 cond ((decide ((p0.1.length:Int)>200)))
  (some ((false,()),()))
 (cond (decide ((p0.2.1.length:Int)>20))
  (some ((false,()),()))
 ((J3 p0.1).bind fun u3=>
 cond (u3.1.1)
  ((J3 p0.2.1).bind fun u4=>
  cond (u4.1.1)
   ((G4 p0.1).bind fun u5=>
   cond (u5.1.1)
    ((Aj p0.2.2.1 0 30).bind fun u6=>
    some ((u6.1.1,()),()))
   (some ((false,()),())))
  (some ((false,()),())))
 (some ((false,()),()))))
abbrev Fl:Type:=ABV×Unit
abbrev Hp:Type:=List Int→Int→Int→Int→Option Fl
def Ju(R2:Hp)(t0:AAG)(t1 t7 t8:Int):Option Fl:=
 cond (decide (t8<t7))
  (if(0:Int)≤t8∧t8<(t0.length:Int)then(
  cond (t1==(t0.getD (t8.toNat) 0))
   (some ((t8,()),()))
  (R2 t0 t1 t7 (A6 (t8+1))))else none)
 (some (((-1),()),()))
def EH:Nat→Hp
 |0=>fun _ _ _ _=>none
 |n+1=>Ju (EH n)
def J6(R2:Hp)(p0:AAG)(p1:Int):Option Fl:=
 R2 p0 p1 (p0.length:Int) 0
def Jn(p0:AAG)(p1:Int):Option Fl:=J6 (EH Aq) p0 p1
abbrev QC:Type:=ABS×Unit
def BH(p0:AAG)(p1:Int):Option QC:=
 (Jn p0 p1).bind fun u1=>
 some ((decide (u1.1.1≥0),()),())
abbrev cW:Type:=ABS×Unit
def LZ(p0:Int)(p1:ACQ):Option cW:=
 (BH p1.1 p0).bind fun u1=>
 some ((!u1.1.1,()),())
abbrev CW:Type:=ABV×Unit
abbrev DM:Type:=List Int→(ACQ×Unit)→Int→Int→Option CW
def Cz(R2:DM)(t0:AAG)(t1:ACQ×Unit)(t7 t8:Int):Option CW:=
 cond (decide (t8<t7))
  (if(0:Int)≤t8∧t8<(t0.length:Int)then(
  (LZ (t0.getD (t8.toNat) 0) t1.1).bind fun u2=>
  cond (u2.1.1)
   (some ((t8,()),()))
  (R2 t0 (t1.1,()) t7 (A6 (t8+1))))else none)
 (some (((-1),()),()))
def BT:Nat→DM
 |0=>fun _ _ _ _=>none
 |n+1=>Cz (BT n)
def C0(R2:DM)(p0:AAG)(p1:ACQ×Unit):Option CW:=
 R2 p0 (p1.1,()) (p0.length:Int) 0
def Ch(p0:AAG)(p1:ACQ×Unit):Option CW:=C0 (BT Aq) p0 p1
abbrev CN:Type:=ABW×ADj
abbrev DG:Type:=(ACQ×Unit)→Int→Int→List Int→Option CN
def Cq(R5:DG)(t1:ACQ×Unit)(t5 t6:Int)(b0:AAG):Option CN:=
 cond ((decide (t6<(b0.length:Int))))
  (if(0:Int)≤t6∧t6<(b0.length:Int)then(
  let x3:Int:=(b0.getD (t6.toNat) 0)
  (LZ x3 t1.1).bind fun u4=>
  cond (!u4.1.1)
   (if(0:Int)≤t5∧t5<(b0.length:Int)then(
   R5 (t1.1,()) (A6 (t5+1)) (A6 (t6+1)) (b0.set (t5.toNat) x3))else none)
  (R5 (t1.1,()) t5 (A6 (t6+1)) b0))else none)
 (if(0:Int)≤t5∧t5≤(b0.length:Int)∧(b0.length:Int)≤(b0.length:Int)then(
 let x6:AAG:=(b0.take (t5.toNat)++List.replicate (((b0.length:Int).toNat)-(t5.toNat)) 0++b0.drop ((t5.toNat)+(((b0.length:Int).toNat)-(t5.toNat))))
 if(0:Int)≤(0:Int)∧(0:Int)≤t5∧t5≤(x6.length:Int)then(
 some (((),()),((),((x6.drop 0).take ((t5.toNat)-0)),())))else none)else none)
def BO:Nat→DG
 |0=>fun _ _ _ _=>none
 |n+1=>Cq (BO n)
def Cs(R5:DG)(p1:ACQ×Unit)(b0:AAG):Option CN:=
 (Ch b0 (p1.1,())).bind fun u1=>
 cond (u1.1.1==(-1))
  (some (((),()),((),b0,())))
 (R5 (p1.1,()) u1.1.1 (A6 (u1.1.1+1)) b0)
def Bq(p1:ACQ×Unit)(b0:AAG):Option CN:=Cs (BO Aq) p1 b0
abbrev iZ:Type:=ABW×ACQ
def I7(p0 p1:AAG):Option iZ:=
 (CL p0).bind fun u1=>
 (Bq ((p1,()),()) u1.2.1).bind fun u2=>
 some (((),()),(u2.2.2.1,()))
abbrev Hg:Type:=ABS×Unit
def CA(p0:ABH)(p1:Int):Option Hg:=
 (I7 [p1] p0.2.2.2.1).bind fun u1=>
 some ((decide ((u1.2.1.length:Int)>0),()),())
abbrev NO:Type:=ABV×Unit
abbrev PK:Type:=List Int→Int→Int→List Int→Int→List Int→Option NO
def QH(R5:PK)(t13:AAG)(t14 t15:Int)(BF:AAG)(AJ:Int)(b1:AAG):Option NO:=
 cond (decide (t15<t14))
  (if(0:Int)≤t15∧t15<(t13.length:Int)then(
  let x2:Int:=(t13.getD (t15.toNat) 0)
  if(0:Int)≤x2∧x2<(BF.length:Int)then(
  (BH b1 (BF.getD (x2.toNat) 0)).bind fun u4=>
  cond (!u4.1.1)
   (if(0:Int)≤x2∧x2<(BF.length:Int)then(
   if b1.length+1≤IQ then(
   R5 t13 t14 (A6 (t15+1)) BF AJ (b1++[(BF.getD (x2.toNat) 0)]))else none)else none)
  (R5 t13 t14 (A6 (t15+1)) BF AJ b1))else none)else none)
 (some (((b1.length:Int),()),()))
def Js:Nat→PK
 |0=>fun _ _ _ _ _ _=>none
 |n+1=>QH (Js n)
def QI(R5:PK)(p0:AA8)(p1:AAG):Option NO:=
 (C1 (p0.1,p0.2.1,()) p1).bind fun u1=>
 cond (!u1.1.1)
  (some (((-1),()),()))
 (R5 p1 (p1.length:Int) 0 p0.1 p0.2.1 [])
def Qb(p0:AA8)(p1:AAG):Option NO:=QI (Js Aq) p0 p1
abbrev XK:Type:=ABS×Unit
def DT(p0:AA8)(p1:AAG):Option XK:=
 (C1 (p0.1,p0.2.1,()) p1).bind fun u1=>
 cond (u1.1.1)
  ((Qb (p0.1,p0.2.1,()) p1).bind fun u2=>
  some (((decide (u2.1.1≥p0.2.1)),()),()))
 (some ((false,()),()))
abbrev Gd:Type:=ABS×Unit
abbrev Ic:Type:=ABH→AAN→Int→Int→Option Gd
def Gk(R4:Ic)(t0:ABH)(t32:AAN)(t33 t34:Int):Option Gd:=
 cond (decide (t34<t33))
  (if(0:Int)≤t34∧t34<(t32.length:Int)then(
  (Dn ((t32.getD (t34.toNat) ([],[],0,())).1,(t32.getD (t34.toNat) ([],[],0,())).2.1,(t32.getD (t34.toNat) ([],[],0,())).2.2.1,())).bind fun u5=>
  cond (!u5.1.1)
   (some ((false,()),()))
  ((CA t0 t34).bind fun u6=>
  cond (u6.1.1)
   (cond (decide ((A6 ((A6 ((((t32.getD (t34.toNat) ([],[],0,())).1).length:Int)+(((t32.getD (t34.toNat) ([],[],0,())).2.1).length:Int)))+((t32.getD (t34.toNat) ([],[],0,())).2.2.1)))>0))
    (some ((false,()),()))
   (R4 t0 t32 t33 (A6 (t34+1))))
  (R4 t0 t32 t33 (A6 (t34+1)))))else none)
 (cond (t0.2.2.2.2.2.2.2.2.2.2.1)
  (some ((true,()),()))
 ((DT (t0.1,t0.2.1,()) t0.2.2.2.1).bind fun Q4=>
 some ((!Q4.1.1,()),())))
def Dt:Nat→Ic
 |0=>fun _ _ _ _=>none
 |n+1=>Gk (Dt n)
def KV(R4:Ic)(p0:ABH):Option Gd:=
 cond (((p0.2.2.1.length:Int) !=(p0.1.length:Int)))
  (some ((false,()),()))
 ((C1 (p0.1,p0.2.1,()) p0.2.2.2.1).bind fun u3=>
 cond (!u3.1.1)
  (some ((false,()),()))
 (R4 p0 p0.2.2.1 (p0.2.2.1.length:Int) 0))
def Hd(p0:ABH):Option Gd:=KV (Dt Aq) p0
abbrev fx:Type:=ABS×Unit
def Sn(p0:AA8)(p1:ADg):Option fx:=
 (DT (p0.1,p0.2.1,()) p1.1).bind fun u1=>
 cond (u1.1.1)
  ((Aj p1.2.2.1 0 60).bind fun u2=>
  cond (u2.1.1)
   (cond (p1.2.1)
    (some ((true,()),()))
   (some ((p1.2.2.1==0,()),())))
  (some ((false,()),())))
 (some ((false,()),()))
abbrev MH:Type:=ABS×Unit
abbrev Q_:Type:=AAS→Int→Int→List Int→Int→AAS→Int→Option MH
def NI(R2:Q_)(t9:AAS)(t10 t11:Int)(BF:AAG)(AJ:Int)(IP:AAS)(Ey:Int):Option MH:=
 cond (decide (t11<t10))
  (if(0:Int)≤t11∧t11<(t9.length:Int)then(
  (Sn (BF,AJ,()) ((t9.getD (t11.toNat) ([],false,0,())).1,(t9.getD (t11.toNat) ([],false,0,())).2.1,(t9.getD (t11.toNat) ([],false,0,())).2.2.1,())).bind fun u1=>
  cond (!u1.1.1)
   (some ((false,()),()))
  (cond (((t9.getD (t11.toNat) ([],false,0,())).2.1))
   (cond (t11==(A6 ((IP.length:Int)-1)))
    (some ((false,()),()))
   (cond (decide (t11>0))
    (if(0:Int)≤A6 (t11-1)∧A6 (t11-1)<(IP.length:Int)then(
    cond (!((IP.getD ((A6 (t11-1)).toNat) ([],false,0,())).2.1))
     (some ((false,()),()))
    (R2 t9 t10 (A6 (t11+1)) BF AJ IP Ey))else none)
   (R2 t9 t10 (A6 (t11+1)) BF AJ IP Ey)))
  (R2 t9 t10 (A6 (t11+1)) BF AJ IP Ey)))else none)
 (cond (Ey==0)
  ((De (BF,AJ,())).bind fun u5=>
  cond (u5.1.1)
   (cond ((decide ((IP.length:Int)≤30)))
    (some ((true,()),()))
   (some ((false,()),())))
  (some ((false,()),())))
 ((Dj Ey).bind fun u7=>
 (Aj u7.1.1 1 (IP.length:Int)).bind fun u8=>
 (De (BF,AJ,())).bind fun u9=>
 cond (u9.1.1)
  (cond ((decide ((IP.length:Int)≤30)))
   (some ((u8.1.1,()),()))
  (some ((false,()),())))
 (some ((false,()),()))))
def HQ:Nat→Q_
 |0=>fun _ _ _ _ _ _ _=>none
 |n+1=>NI (HQ n)
def Rc(R2:Q_)(p0:AA8)(p1:ACX):Option MH:=
 R2 p1.1 (p1.1.length:Int) 0 p0.1 p0.2.1 p1.1 p1.2.1
def HR(p0:AA8)(p1:ACX):Option MH:=Rc (HQ Aq) p0 p1
abbrev br:Type:=ABV×Unit
def R_(p0:Bool):Option br:=
 cond (p0)
  (some ((1,()),()))
 (some ((0,()),()))
abbrev I0:Type:=ABS×Unit
abbrev M3:Type:=Int→AB7→Int→Int→List Int→Int→Int→AB7→Option I0
def Oc(R3:M3)(t5:Int)(t9:AB7)(t10 t11:Int)(BF:AAG)(AJ IP:Int)(Ey:AB7):Option I0:=
 cond (decide (t11<t10))
  (if(0:Int)≤t11∧t11<(t9.length:Int)then(
  (EL ((t9.getD (t11.toNat) ([],[],false,())).1)).bind fun u3=>
  cond (!u3.1.1)
   (some ((false,()),()))
  ((C1 (BF,AJ,()) ((t9.getD (t11.toNat) ([],[],false,())).2.1)).bind fun u4=>
  cond (!u4.1.1)
   (some ((false,()),()))
  ((DT (BF,AJ,()) ((t9.getD (t11.toNat) ([],[],false,())).2.1)).bind fun u6=>
  cond (((t9.getD (t11.toNat) ([],[],false,())).2.2.1) !=u6.1.1)
   (some ((false,()),()))
  ((R_ (!((t9.getD (t11.toNat) ([],[],false,())).2.2.1))).bind fun u8=>
  R3 (A6 (t5+u8.1.1)) t9 t10 (A6 (t11+1)) BF AJ IP Ey))))else none)
 ((De (BF,AJ,())).bind fun u9=>
 cond (u9.1.1)
  ((E5 IP).bind fun Io=>
  cond (Io.1.1)
   (cond ((decide ((Ey.length:Int)≤60)))
    (some ((decide (t5≤6),()),()))
   (some ((false,()),())))
  (some ((false,()),())))
 (some ((false,()),())))
def H4:Nat→M3
 |0=>fun _ _ _ _ _ _ _ _=>none
 |n+1=>Oc (H4 n)
def OW(R3:M3)(p0:AA8)(p1:ACe):Option I0:=
 R3 0 p1.2.1 (p1.2.1.length:Int) 0 p0.1 p0.2.1 p1.1 p1.2.1
def EU(p0:AA8)(p1:ACe):Option I0:=OW (H4 Aq) p0 p1
abbrev Tq:Type:=ABS×Unit
def GI(p0:ABH)(p1:Int):Option Tq:=
 (Aj p1 1 (p0.2.2.2.2.1.length:Int)).bind fun u2=>
 some ((u2.1.1,()),())
abbrev Fu:Type:=ABS×Unit
abbrev Hj:Type:=ABH→AAX→Int→Int→Option Fu
def GO(R2:Hj)(t0:ABH)(t8:AAX)(t9 t10:Int):Option Fu:=
 cond (decide (t10<t9))
  (if(0:Int)≤t10∧t10<(t8.length:Int)then(
  (EU (t0.1,t0.2.1,()) ((t8.getD (t10.toNat) (0,[],())).1,(t8.getD (t10.toNat) (0,[],())).2.1,())).bind fun u2=>
  cond (!u2.1.1)
   (some ((false,()),()))
  ((GI t0 ((t8.getD (t10.toNat) (0,[],())).1)).bind fun u4=>
  cond (!u4.1.1)
   (some ((false,()),()))
  (cond (decide (t10>0))
   (if(0:Int)≤A6 (t10-1)∧A6 (t10-1)<(t0.2.2.2.2.2.2.1.length:Int)then(
   cond (decide (((t0.2.2.2.2.2.2.1.getD ((A6 (t10-1)).toNat) (0,[],())).1)≥((t8.getD (t10.toNat) (0,[],())).1)))
    (some ((false,()),()))
   (R2 t0 t8 t9 (A6 (t10+1))))else none)
  (R2 t0 t8 t9 (A6 (t10+1))))))else none)
 (some ((decide ((t0.2.2.2.2.2.2.1.length:Int)≤4),()),()))
def DP:Nat→Hj
 |0=>fun _ _ _ _=>none
 |n+1=>GO (DP n)
def Jp(R2:Hj)(p0:ABH):Option Fu:=
 R2 p0 p0.2.2.2.2.2.2.1 (p0.2.2.2.2.2.2.1.length:Int) 0
def HE(p0:ABH):Option Fu:=Jp (DP Aq) p0
abbrev ef:Type:=ABV×Unit
def LF(p0:Int):Option ef:=
 (Cy p0).bind fun u1=>
 cond (!u1.1.1)
  (some ((0,()),()))
 (some ((p0.tmod 4294967296,()),()))
abbrev ax:Type:=ABV×Unit
def ML(p0:ABj):Option ax:=
 cond ((p0.2.2.2.1.length:Int)==0)
  (some ((0,()),()))
 (let x2:Int:=(p0.2.2.2.1.length:Int)
 if(0:Int)≤A6 (x2-1)∧A6 (x2-1)<(p0.2.2.2.1.length:Int)then(
 (LF ((p0.2.2.2.1.getD ((A6 (x2-1)).toNat) (0,0,false,[],())).1)).bind fun u4=>
 some ((u4.1.1,()),()))else none)
abbrev NQ:Type:=ABS×Unit
abbrev Pw:Type:=AA5→Int→Int→Int→Int→List Int→AA5→Bool→List AAG→Option NQ
def L8(R2:Pw)(t6:AA5)(t7 t8 BF AJ:Int)(EE:AAG)(IC:AA5)(Ix:Bool)(AS:List AAG):Option NQ:=
 cond (decide (t8<t7))
  (if(0:Int)≤t8∧t8<(t6.length:Int)then(
  (Ie ((t6.getD (t8.toNat) (0,0,false,[],())).1,(t6.getD (t8.toNat) (0,0,false,[],())).2.1,(t6.getD (t8.toNat) (0,0,false,[],())).2.2.1,(t6.getD (t8.toNat) (0,0,false,[],())).2.2.2.1,())).bind fun u2=>
  cond (!u2.1.1)
   (some ((false,()),()))
  ((Dj ((t6.getD (t8.toNat) (0,0,false,[],())).1)).bind fun u4=>
  cond (u4.1.1 !=AJ)
   (some ((false,()),()))
  (cond (decide (((t6.getD (t8.toNat) (0,0,false,[],())).2.1)≥BF))
   (some ((false,()),()))
  (R2 t6 t7 (A6 (t8+1)) BF AJ EE IC Ix AS))))else none)
 ((G4 IC).bind fun u6=>
 some ((u6.1.1,()),()))
def IJ:Nat→Pw
 |0=>fun _ _ _ _ _ _ _ _ _=>none
 |n+1=>L8 (IJ n)
def QK(R2:Pw)(p0:ABj):Option NQ:=
 R2 p0.2.2.2.1 (p0.2.2.2.1.length:Int) 0 p0.1 p0.2.1 p0.2.2.1 p0.2.2.2.1 p0.2.2.2.2.1 p0.2.2.2.2.2.1
def N1(p0:ABj):Option NQ:=QK (IJ Aq) p0
abbrev NX:Type:=ABS×Unit
abbrev PR:Type:=List AAG→Int→Int→List Int→Int→Int→Int→List Int→AA5→Bool→List AAG→Option NX
def L0(R2:PR)(t10:List AAG)(t11 t12:Int)(BF:AAG)(AJ IP Ey:Int)(Kp:AAG)(Ol:AA5)(Ut:Bool)(OC:List AAG):Option NX:=
 cond (decide (t12<t11))
  (if(0:Int)≤t12∧t12<(t10.length:Int)then(
  (C1 (BF,AJ,()) (t10.getD (t12.toNat) [])).bind fun u2=>
  cond (!u2.1.1)
   (some ((false,()),()))
  (R2 t10 t11 (A6 (t12+1)) BF AJ IP Ey Kp Ol Ut OC))else none)
 (cond (Ut)
  ((ML (IP,Ey,Kp,Ol,Ut,OC,())).bind fun u3=>
  (E5 Ey).bind fun u4=>
  cond (u4.1.1)
   ((Aj IP (A6 (Ey+1)) 30).bind fun u5=>
   (De (BF,AJ,())).bind fun u6=>
   cond (u6.1.1)
    (cond (u5.1.1)
     ((C1 (BF,AJ,()) Kp).bind fun u7=>
     cond (u7.1.1)
      ((N1 (IP,Ey,Kp,Ol,Ut,OC,())).bind fun u8=>
      cond (u8.1.1)
       (some ((((OC.length:Int)==u3.1.1),()),()))
      (some ((false,()),())))
     (some ((false,()),())))
    (some ((false,()),())))
   (some ((false,()),())))
  ((De (BF,AJ,())).bind fun Io=>
  cond (Io.1.1)
   (some ((false,()),()))
  (some ((false,()),()))))
 ((E5 Ey).bind fun Rk=>
 cond (Rk.1.1)
  ((Aj IP (A6 (Ey+1)) 30).bind fun Q4=>
  (De (BF,AJ,())).bind fun Nc=>
  cond (Nc.1.1)
   (cond (Q4.1.1)
    ((C1 (BF,AJ,()) Kp).bind fun cK=>
    cond (cK.1.1)
     ((N1 (IP,Ey,Kp,Ol,Ut,OC,())).bind fun Uu=>
     cond (Uu.1.1)
      (some ((((OC.length:Int)==0),()),()))
     (some ((false,()),())))
    (some ((false,()),())))
   (some ((false,()),())))
  (some ((false,()),())))
 ((De (BF,AJ,())).bind fun dw=>
 cond (dw.1.1)
  (some ((false,()),()))
 (some ((false,()),())))))
def Hk:Nat→PR
 |0=>fun _ _ _ _ _ _ _ _ _ _ _=>none
 |n+1=>L0 (Hk n)
def Qp(R2:PR)(p0:AA8)(p1:ABj):Option NX:=
 R2 p1.2.2.2.2.2.1 (p1.2.2.2.2.2.1.length:Int) 0 p0.1 p0.2.1 p1.1 p1.2.1 p1.2.2.1 p1.2.2.2.1 p1.2.2.2.2.1 p1.2.2.2.2.2.1
def FB(p0:AA8)(p1:ABj):Option NX:=Qp (Hk Aq) p0 p1
abbrev KR:Type:=ABV×Unit
abbrev Lx:Type:=AAS→Int→Int→Option KR
def Jw(R2:Lx)(t6:AAS)(t7 t8:Int):Option KR:=
 cond (decide (t8<t7))
  (if(0:Int)≤t8∧t8<(t6.length:Int)then(
  cond (!((t6.getD (t8.toNat) ([],false,0,())).2.1))
   (some ((A6 (t8+1),()),()))
  (R2 t6 t7 (A6 (t8+1))))else none)
 (some ((0,()),()))
def FU:Nat→Lx
 |0=>fun _ _ _=>none
 |n+1=>Jw (FU n)
def Nn(R2:Lx)(p0:ACX):Option KR:=
 R2 p0.1 (p0.1.length:Int) 0
def IL(p0:ACX):Option KR:=Nn (FU Aq) p0
abbrev HL:Type:=ABS×Unit
abbrev JK:Type:=ABH→AAw→Int→Int→Option HL
def HO(R2:JK)(t0:ABH)(t8:AAw)(t9 t10:Int):Option HL:=
 cond (decide (t10<t9))
  (if(0:Int)≤t10∧t10<(t8.length:Int)then(
  (FB (t0.1,t0.2.1,()) ((t8.getD (t10.toNat) (0,0,[],[],false,[],())).1,(t8.getD (t10.toNat) (0,0,[],[],false,[],())).2.1,(t8.getD (t10.toNat) (0,0,[],[],false,[],())).2.2.1,(t8.getD (t10.toNat) (0,0,[],[],false,[],())).2.2.2.1,(t8.getD (t10.toNat) (0,0,[],[],false,[],())).2.2.2.2.1,(t8.getD (t10.toNat) (0,0,[],[],false,[],())).2.2.2.2.2.1,())).bind fun u2=>
  cond (!u2.1.1)
   (some ((false,()),()))
  (cond (((t8.getD (t10.toNat) (0,0,[],[],false,[],())).1) !=(t0.2.2.2.2.1.length:Int))
   (some ((false,()),()))
  ((IL (t0.2.2.2.2.1,t0.2.2.2.2.2.1,())).bind fun u6=>
  cond (((t8.getD (t10.toNat) (0,0,[],[],false,[],())).2.1) !=u6.1.1)
   (some ((false,()),()))
  (R2 t0 t8 t9 (A6 (t10+1))))))else none)
 (some ((decide ((t0.2.2.2.2.2.2.2.1.length:Int)≤1),()),()))
def D4:Nat→JK
 |0=>fun _ _ _ _=>none
 |n+1=>HO (D4 n)
def Kc(R2:JK)(p0:ABH):Option HL:=
 R2 p0 p0.2.2.2.2.2.2.2.1 (p0.2.2.2.2.2.2.2.1.length:Int) 0
def IX(p0:ABH):Option HL:=Kc (D4 Aq) p0
abbrev ZK:Type:=ABS×Unit
def NW(p0:ADP):Option ZK:=
 (Aj p0.1 1 31).bind fun u1=>
 cond (u1.1.1)
  ((Aj p0.2.1 1 61).bind fun u2=>
  cond (u2.1.1)
   (some ((decide ((p0.2.2.1.length:Int)≤120),()),()))
  (some ((false,()),())))
 (some ((false,()),()))
abbrev Fm:Type:=ABS×Unit
abbrev Hl:Type:=ABH→AA2→Int→Int→Option Fm
def GV(R2:Hl)(t0:ABH)(t8:AA2)(t9 t10:Int):Option Fm:=
 cond (decide (t10<t9))
  (if(0:Int)≤t10∧t10<(t8.length:Int)then(
  (NW ((t8.getD (t10.toNat) (0,0,[],())).1,(t8.getD (t10.toNat) (0,0,[],())).2.1,(t8.getD (t10.toNat) (0,0,[],())).2.2.1,())).bind fun u2=>
  cond (!u2.1.1)
   (some ((false,()),()))
  (R2 t0 t8 t9 (A6 (t10+1))))else none)
 (some (((t0.2.2.2.2.2.2.2.2.1.length:Int)==2,()),()))
def DN:Nat→Hl
 |0=>fun _ _ _ _=>none
 |n+1=>GV (DN n)
def Jt(R2:Hl)(p0:ABH):Option Fm:=
 R2 p0 p0.2.2.2.2.2.2.2.2.1 (p0.2.2.2.2.2.2.2.2.1.length:Int) 0
def HJ(p0:ABH):Option Fm:=Jt (DN Aq) p0
abbrev HW:Type:=ABS×Unit
abbrev Jx:Type:=ABH→AAJ→Int→Int→Option HW
def Hn(R2:Jx)(t0:ABH)(t8:AAJ)(t9 t10:Int):Option HW:=
 cond (decide (t10<t9))
  (if(0:Int)≤t10∧t10<(t8.length:Int)then(
  (Dj ((t8.getD (t10.toNat) (0,[],false,())).1)).bind fun u3=>
  (GI t0 u3.1.1).bind fun u4=>
  cond (!u4.1.1)
   (some ((false,()),()))
  ((EL ((t8.getD (t10.toNat) (0,[],false,())).2.1)).bind fun u6=>
  cond (!u6.1.1)
   (some ((false,()),()))
  (cond (decide (t10>0))
   (if(0:Int)≤A6 (t10-1)∧A6 (t10-1)<(t0.2.2.2.2.2.2.2.2.2.1.length:Int)then(
   cond (decide (((t0.2.2.2.2.2.2.2.2.2.1.getD ((A6 (t10-1)).toNat) (0,[],false,())).1)≥((t8.getD (t10.toNat) (0,[],false,())).1)))
    (some ((false,()),()))
   (R2 t0 t8 t9 (A6 (t10+1))))else none)
  (R2 t0 t8 t9 (A6 (t10+1))))))else none)
 (some ((decide ((t0.2.2.2.2.2.2.2.2.2.1.length:Int)≤120),()),()))
def EK:Nat→Jx
 |0=>fun _ _ _ _=>none
 |n+1=>Hn (EK n)
def LQ(R2:Jx)(p0:ABH):Option HW:=
 R2 p0 p0.2.2.2.2.2.2.2.2.2.1 (p0.2.2.2.2.2.2.2.2.2.1.length:Int) 0
def JZ(p0:ABH):Option HW:=LQ (EK Aq) p0
abbrev aD:Type:=ABS×Unit
def D9(p0:ABH):Option aD:=
 (De (p0.1,p0.2.1,())).bind fun u1=>
 cond (u1.1.1)
  ((Hd (p0.1,p0.2.1,p0.2.2.1,p0.2.2.2.1,p0.2.2.2.2.1,p0.2.2.2.2.2.1,p0.2.2.2.2.2.2.1,p0.2.2.2.2.2.2.2.1,p0.2.2.2.2.2.2.2.2.1,p0.2.2.2.2.2.2.2.2.2.1,p0.2.2.2.2.2.2.2.2.2.2.1,())).bind fun u2=>
  cond (u2.1.1)
   ((HR (p0.1,p0.2.1,()) (p0.2.2.2.2.1,p0.2.2.2.2.2.1,())).bind fun u3=>
   cond (u3.1.1)
    ((HE (p0.1,p0.2.1,p0.2.2.1,p0.2.2.2.1,p0.2.2.2.2.1,p0.2.2.2.2.2.1,p0.2.2.2.2.2.2.1,p0.2.2.2.2.2.2.2.1,p0.2.2.2.2.2.2.2.2.1,p0.2.2.2.2.2.2.2.2.2.1,p0.2.2.2.2.2.2.2.2.2.2.1,())).bind fun u4=>
    cond (u4.1.1)
     ((IX (p0.1,p0.2.1,p0.2.2.1,p0.2.2.2.1,p0.2.2.2.2.1,p0.2.2.2.2.2.1,p0.2.2.2.2.2.2.1,p0.2.2.2.2.2.2.2.1,p0.2.2.2.2.2.2.2.2.1,p0.2.2.2.2.2.2.2.2.2.1,p0.2.2.2.2.2.2.2.2.2.2.1,())).bind fun u5=>
     cond (u5.1.1)
      ((HJ (p0.1,p0.2.1,p0.2.2.1,p0.2.2.2.1,p0.2.2.2.2.1,p0.2.2.2.2.2.1,p0.2.2.2.2.2.2.1,p0.2.2.2.2.2.2.2.1,p0.2.2.2.2.2.2.2.2.1,p0.2.2.2.2.2.2.2.2.2.1,p0.2.2.2.2.2.2.2.2.2.2.1,())).bind fun u6=>
      cond (u6.1.1)
       ((JZ (p0.1,p0.2.1,p0.2.2.1,p0.2.2.2.1,p0.2.2.2.2.1,p0.2.2.2.2.2.1,p0.2.2.2.2.2.2.1,p0.2.2.2.2.2.2.2.1,p0.2.2.2.2.2.2.2.2.1,p0.2.2.2.2.2.2.2.2.2.1,p0.2.2.2.2.2.2.2.2.2.2.1,())).bind fun u7=>
       some ((u7.1.1,()),()))
      (some ((false,()),())))
     (some ((false,()),())))
    (some ((false,()),())))
   (some ((false,()),())))
  (some ((false,()),())))
 (some ((false,()),()))
abbrev TA:Type:=ADh×ADR
def Ez(p0:AA8):Option TA:=
 (Fb (p0.1,p0.2.1,())).bind fun u1=>
 if(0:Int)≤(p0.1.length:Int)∧(p0.1.length:Int)≤(p0.1.length:Int)∧(p0.1.length:Int)≤(IQ:Int)then(
 let x2:AAN:=(List.replicate ((p0.1.length:Int).toNat) ([],[],0,()))
 (Hu).bind fun u3=>
 (Hu).bind fun u4=>
 (D9 (u1.2.1,u1.1.1.2.1,x2,[],[],0,[],[],[(u3.1.1.1,u3.1.1.2.1,u3.2.1,()),(u4.1.1.1,u4.1.1.2.1,u4.2.1,())],[],false,())).bind fun u5=>
 cond (!u5.1.1)
  (some (((((),0,(),(),(),0,(),(),(),(),false,()),false,()),()),([],[],[],[],[],[],[],[],())))
 (some (((((),u1.1.1.2.1,(),(),(),0,(),(),(),(),false,()),true,()),()),(u1.2.1,x2,[],[],[],[],[(u3.1.1.1,u3.1.1.2.1,u3.2.1,()),(u4.1.1.1,u4.1.1.2.1,u4.2.1,())],[],()))))else none
abbrev gl:Type:=ABS×Unit
def KD(p0 p1 p2:Int):Option gl:=
 cond (decide (p0≥p1))
  (some ((decide (p0≤p2),()),()))
 (some ((false,()),()))
abbrev Kt:Type:=ABS×Unit
abbrev My:Type:=Int→List Int→Int→Option Kt
def OS(R4:My)(t3:Int)(BF:AAG)(AJ:Int):Option Kt:=
 cond ((decide (t3<(BF.length:Int))))
  (if(0:Int)≤t3∧t3<(BF.length:Int)then(
  (KD (BF.getD (t3.toNat) 0) 0 7).bind fun u5=>
  cond (!u5.1.1)
   (some ((false,()),()))
  (R4 (A6 (t3+1)) BF AJ))else none)
 (some ((true,()),()))
def IM:Nat→My
 |0=>fun _ _ _=>none
 |n+1=>OS (IM n)
def OO(R4:My)(p0:AA8):Option Kt:=
 (KD (p0.1.length:Int) 1 8).bind fun u1=>
 cond (!u1.1.1)
  (some ((false,()),()))
 ((KD p0.2.1 1 4).bind fun u2=>
 cond (!u2.1.1)
  (some ((false,()),()))
 (R4 0 p0.1 p0.2.1))
def I5(p0:AA8):Option Kt:=OO (IM Aq) p0
abbrev mK:Type:=ABV×Unit
def Zc(p0:AAG)(p1:Int):Option mK:=
 cond ((decide (p1<(p0.length:Int))))
  (if(0:Int)≤p1∧p1<(p0.length:Int)then(
  some ((A6 ((p0.getD (p1.toNat) 0)),()),()))else none)
 (some (((A6 ((A6 (p1*7))+(p0.length:Int))).tmod 256,()),()))
abbrev bz:Type:=(List UInt8×Unit)×Unit
def Si(p0:Int):Option bz:=
 cond (p0==8)
  (some (([],()),()))
 (cond (p0==10)
  (some (([],()),()))
 (cond (p0==12)
  (some (([],()),()))
 (cond (p0==2)
  (some (([65,84],()),()))
 (cond (p0==3)
  (some (([65,66,67],()),()))
 (cond (p0==5)
  (some (([65,66],()),()))
 (cond (p0==14)
  (some (([65,66],()),()))
 (cond (p0==11)
  (some (([66,67],()),()))
 (cond (p0==13)
  (some (([80],()),()))
 (some (([65],()),()))))))))))
abbrev Ka:Type:=ABS×Unit
abbrev P5:Type:=Int→Int→Int→Int→Int→Int→List UInt8→Int→Int→Int→Int→List UInt8→List Int→Option Ka
def Ca(R4:P5)(t12 t13 BF AJ EE IC:Int)(Ix:List UInt8)(IP Ey Kp Ol:Int)(Ut:List UInt8)(b2:AAG):Option Ka:=
 cond (decide (t13<t12))
  (if(0:Int)≤t13∧t13<(b2.length:Int)then(
  let x3:Int:=(b2.getD (t13.toNat) 0)
  cond (x3==65)
   (R4 t12 (A6 (t13+1)) BF AJ EE IC Ix IP 0 Kp Ol Ut b2)
  (cond (x3==80)
   (R4 t12 (A6 (t13+1)) BF AJ EE IC Ix IP 0 Kp Ol Ut b2)
  (cond (x3==66)
   (R4 t12 (A6 (t13+1)) BF AJ EE IC Ix IP Ey 0 Ol Ut b2)
  (cond (x3==67)
   (R4 t12 (A6 (t13+1)) BF AJ EE IC Ix IP Ey Kp 0 Ut b2)
  (cond (x3==84)
   (R4 t12 (A6 (t13+1)) BF AJ EE IC Ix IP Ey Kp Ol [] b2)
  (R4 t12 (A6 (t13+1)) BF AJ EE IC Ix IP Ey Kp Ol Ut b2))))))else none)
 ((Aj BF 1 16).bind fun u4=>
 cond (u4.1.1)
  (cond (((IP==0)&&((Ey==0)&&((Kp==0)&&((Ol==0)&&((Ut==[])&&true))))))
   ((EL Ix).bind fun u6=>
   some ((u6.1.1,()),()))
  (some ((false,()),())))
 (some ((false,()),())))
def Cm:Nat→P5
 |0=>fun _ _ _ _ _ _ _ _ _ _ _ _ _=>none
 |n+1=>Ca (Cm n)
def QT(R4:P5)(p0:ADU):Option Ka:=
 (Si p0.1).bind fun u1=>
 if u1.1.1.length≤IQ then(
 let x2:AAG:=(u1.1.1.map fun c=>(c.toNat:Int))
 R4 (x2.length:Int) 0 p0.1 p0.2.1 p0.2.2.1 p0.2.2.2.1 p0.2.2.2.2.1 0 p0.2.1 p0.2.2.1 p0.2.2.2.1 p0.2.2.2.2.1 x2)else none
def QG(p0:ADU):Option Ka:=QT (Cm Aq) p0
abbrev Fh:Type:=ADT×ADa
abbrev Jk:Type:=AAS→Int→Int→Int→AAS→Int→AAS→Option Fh
def LU(R3:Jk)(t10:AAS)(t11 t12 AJ:Int)(b1:AAS)(iW:Int)(b3:AAS):Option Fh:=
 cond (decide (t12<t11))
  (if(0:Int)≤t12∧t12<(t10.length:Int)then(
  (CL ((t10.getD (t12.toNat) ([],false,0,())).1)).bind fun u1=>
  if b3.length+1≤IQ then(
  R3 t10 t11 (A6 (t12+1)) AJ b1 iW (b3++[(u1.2.1,(t10.getD (t12.toNat) ([],false,0,())).2.1,(t10.getD (t12.toNat) ([],false,0,())).2.2.1,())]))else none)else none)
 (some ((((),iW,()),()),(b3,())))
def E9:Nat→Jk
 |0=>fun _ _ _ _ _ _ _=>none
 |n+1=>LU (E9 n)
def LY(R3:Jk)(p0:ACX):Option Fh:=
 R3 p0.1 (p0.1.length:Int) 0 0 [] p0.2.1 []
def DL(p0:ACX):Option Fh:=LY (E9 Aq) p0
abbrev V1:Type:=ABW×ADk
def F8(p0:AA5):Option V1:=
 if 0+p0.length≤IQ then(
 some (((),()),(p0,())))else none
abbrev Xa:Type:=(ADl×Unit)×ADV
def CG(p0:ACS):Option Xa:=
 (F8 p0.1).bind fun u1=>
 (F8 p0.2.1).bind fun u2=>
 some ((((),(),p0.2.2.1,()),()),(u1.2.1,u2.2.1,()))
abbrev HA:Type:=(ADi×Unit)×ADb
abbrev K7:Type:=AB7→Int→Int→Int→AB7→Int→AB7→Option HA
def Mc(R3:K7)(t10:AB7)(t11 t12 BF:Int)(b1:AB7)(gB:Int)(b3:AB7):Option HA:=
 cond (decide (t12<t11))
  (if(0:Int)≤t12∧t12<(t10.length:Int)then(
  (CL ((t10.getD (t12.toNat) ([],[],false,())).2.1)).bind fun u2=>
  if b3.length+1≤IQ then(
  R3 t10 t11 (A6 (t12+1)) BF b1 gB (b3++[((t10.getD (t12.toNat) ([],[],false,())).1,u2.2.1,(t10.getD (t12.toNat) ([],[],false,())).2.2.1,())]))else none)else none)
 (some (((gB,(),()),()),(b3,())))
def GY:Nat→K7
 |0=>fun _ _ _ _ _ _ _=>none
 |n+1=>Mc (GY n)
def Mg(R3:K7)(p0:ACe):Option HA:=
 R3 p0.2.1 (p0.2.1.length:Int) 0 0 [] p0.1 []
def D_(p0:ACe):Option HA:=Mg (GY Aq) p0
abbrev Kv:Type:=ADm×ADW
abbrev NB:Type:=List AAG→Int→Int→Int→Int→Bool→List Int→AA5→List AAG→Int→Int→Bool→List Int→AA5→List AAG→Option Kv
def OV(R4:NB)(t17:List AAG)(t18 t19 BF AJ:Int)(Ix:Bool)(b1:AAG)(b2:AA5)(b3:List AAG)(rS p9:Int)(qg:Bool)(b5:AAG)(b6:AA5)(b7:List AAG):Option Kv:=
 cond (decide (t19<t18))
  (if(0:Int)≤t19∧t19<(t17.length:Int)then(
  (CL (t17.getD (t19.toNat) [])).bind fun u4=>
  if b7.length+1≤IQ then(
  R4 t17 t18 (A6 (t19+1)) BF AJ Ix b1 b2 b3 rS p9 qg b5 b6 (b7++[u4.2.1]))else none)else none)
 (some (((rS,p9,(),(),qg,(),()),()),(b5,b6,b7,())))
def IB:Nat→NB
 |0=>fun _ _ _ _ _ _ _ _ _ _ _ _ _ _ _=>none
 |n+1=>OV (IB n)
def OU(R4:NB)(p0:ABj):Option Kv:=
 (CL p0.2.2.1).bind fun u1=>
 (F8 p0.2.2.2.1).bind fun u2=>
 R4 p0.2.2.2.2.2.1 (p0.2.2.2.2.2.1.length:Int) 0 0 0 false [] [] [] p0.1 p0.2.1 p0.2.2.2.2.1 u1.2.1 u2.2.1 []
def ET(p0:ABj):Option Kv:=OU (IB Aq) p0
abbrev XQ:Type:=(ADe×Unit)×ADf
def Iz(p0:ADP):Option XQ:=
 if 0+p0.2.2.1.length≤IQ then(
 some (((p0.1,p0.2.1,(),()),()),(p0.2.2.1,())))else none
abbrev DB:Type:=(AC1×Unit)×ADR
abbrev FJ:Type:=AAN→Int→Int→List Int→Int→AAN→List Int→AAS→Int→AAX→AAw→AA2→AAJ→Bool→Int→Int→Bool→List Int→AAN→List Int→AAS→AAX→AAw→AA2→AAJ→Int→Int→Bool→List Int→AAN→List Int→AAS→AAX→AAw→AA2→AAJ→Option DB
abbrev FK:Type:=AAX→Int→Int→List Int→Int→AAN→List Int→AAS→Int→AAX→AAw→AA2→AAJ→Bool→Int→Int→Bool→List Int→AAN→List Int→AAS→AAX→AAw→AA2→AAJ→Int→Int→Bool→List Int→AAN→List Int→AAS→AAX→AAw→AA2→AAJ→Option DB
abbrev Eo:Type:=AAw→Int→Int→List Int→Int→AAN→List Int→AAS→Int→AAX→AAw→AA2→AAJ→Bool→Int→Int→Bool→List Int→AAN→List Int→AAS→AAX→AAw→AA2→AAJ→Int→Int→Bool→List Int→AAN→List Int→AAS→AAX→AAw→AA2→AAJ→Option DB
abbrev Et:Type:=AA2→Int→Int→List Int→Int→AAN→List Int→AAS→Int→AAX→AAw→AA2→AAJ→Bool→Int→Int→Bool→List Int→AAN→List Int→AAS→AAX→AAw→AA2→AAJ→Int→Int→Bool→List Int→AAN→List Int→AAS→AAX→AAw→AA2→AAJ→Option DB
def N6(R3:FJ)(R8:FK)(zR:Eo)(zD:Et)(t25:AAN)(t26 t27:Int)(BF:AAG)(AJ:Int)(EE:AAN)(IC:AAG)(Ix:AAS)(AS:Int)(Ov:AAX)(Oi:AAw)(Oy:AA2)(Oz:AAJ)(AK:Bool)(Ey OC:Int)(Ql:Bool)(b2:AAG)(b3:AAN)(b4:AAG)(b5:AAS)(b6:AAX)(b7:AAw)(b8:AA2)(b9:AAJ)(Mf Mx:Int)(JE:Bool)(QA:AAG)(QB:AAN)(Zt:AAG)(Zr:AAS)(R0:AAX)(Tx:AAw)(X1:AA2)(dC:AAJ):Option DB:=
 cond (decide (t27<t26))
  (if(0:Int)≤t27∧t27<(t25.length:Int)then(
  (CG ((t25.getD (t27.toNat) ([],[],0,())).1,(t25.getD (t27.toNat) ([],[],0,())).2.1,(t25.getD (t27.toNat) ([],[],0,())).2.2.1,())).bind fun Uu=>
  if QB.length+1≤IQ then(
  R3 t25 t26 (A6 (t27+1)) BF AJ EE IC Ix AS Ov Oi Oy Oz AK Ey OC Ql b2 b3 b4 b5 b6 b7 b8 b9 Mf Mx JE QA (QB++[(Uu.2.1,Uu.2.2.1,Uu.1.1.2.2.1,())]) Zt Zr R0 Tx X1 dC)else none)else none)
 (R8 Ov (Ov.length:Int) 0 BF AJ EE IC Ix AS Ov Oi Oy Oz AK Ey OC Ql b2 b3 b4 b5 b6 b7 b8 b9 Mf Mx JE QA QB Zt Zr R0 Tx X1 dC)
def Nh(R3:FJ)(R8:FK)(zR:Eo)(zD:Et)(t40:AAX)(t41 t42:Int)(BF:AAG)(AJ:Int)(EE:AAN)(IC:AAG)(Ix:AAS)(AS:Int)(Ov:AAX)(Oi:AAw)(Oy:AA2)(Oz:AAJ)(AK:Bool)(Ey OC:Int)(Ql:Bool)(b2:AAG)(b3:AAN)(b4:AAG)(b5:AAS)(b6:AAX)(b7:AAw)(b8:AA2)(b9:AAJ)(Mf Mx:Int)(JE:Bool)(QA:AAG)(QB:AAN)(Zt:AAG)(Zr:AAS)(R0:AAX)(Tx:AAw)(X1:AA2)(dC:AAJ):Option DB:=
 cond (decide (t42<t41))
  (if(0:Int)≤t42∧t42<(t40.length:Int)then(
  (D_ ((t40.getD (t42.toNat) (0,[],())).1,(t40.getD (t42.toNat) (0,[],())).2.1,())).bind fun V7=>
  if R0.length+1≤IQ then(
  R8 t40 t41 (A6 (t42+1)) BF AJ EE IC Ix AS Ov Oi Oy Oz AK Ey OC Ql b2 b3 b4 b5 b6 b7 b8 b9 Mf Mx JE QA QB Zt Zr (R0++[(V7.1.1.1,V7.2.1,())]) Tx X1 dC)else none)else none)
 (zR Oi (Oi.length:Int) 0 BF AJ EE IC Ix AS Ov Oi Oy Oz AK Ey OC Ql b2 b3 b4 b5 b6 b7 b8 b9 Mf Mx JE QA QB Zt Zr R0 Tx X1 dC)
def Mn(R3:FJ)(R8:FK)(zR:Eo)(zD:Et)(t55:AAw)(t56 t57:Int)(BF:AAG)(AJ:Int)(EE:AAN)(IC:AAG)(Ix:AAS)(AS:Int)(Ov:AAX)(Oi:AAw)(Oy:AA2)(Oz:AAJ)(AK:Bool)(Ey OC:Int)(Ql:Bool)(b2:AAG)(b3:AAN)(b4:AAG)(b5:AAS)(b6:AAX)(b7:AAw)(b8:AA2)(b9:AAJ)(Mf Mx:Int)(JE:Bool)(QA:AAG)(QB:AAN)(Zt:AAG)(Zr:AAS)(R0:AAX)(Tx:AAw)(X1:AA2)(dC:AAJ):Option DB:=
 cond (decide (t57<t56))
  (if(0:Int)≤t57∧t57<(t55.length:Int)then(
  (ET ((t55.getD (t57.toNat) (0,0,[],[],false,[],())).1,(t55.getD (t57.toNat) (0,0,[],[],false,[],())).2.1,(t55.getD (t57.toNat) (0,0,[],[],false,[],())).2.2.1,(t55.getD (t57.toNat) (0,0,[],[],false,[],())).2.2.2.1,(t55.getD (t57.toNat) (0,0,[],[],false,[],())).2.2.2.2.1,(t55.getD (t57.toNat) (0,0,[],[],false,[],())).2.2.2.2.2.1,())).bind fun mO=>
  if Tx.length+1≤IQ then(
  zR t55 t56 (A6 (t57+1)) BF AJ EE IC Ix AS Ov Oi Oy Oz AK Ey OC Ql b2 b3 b4 b5 b6 b7 b8 b9 Mf Mx JE QA QB Zt Zr R0 (Tx++[(mO.1.1.1,mO.1.1.2.1,mO.2.1,mO.2.2.1,mO.1.1.2.2.2.2.1,mO.2.2.2.1,())]) X1 dC)else none)else none)
 (zD Oy (Oy.length:Int) 0 BF AJ EE IC Ix AS Ov Oi Oy Oz AK Ey OC Ql b2 b3 b4 b5 b6 b7 b8 b9 Mf Mx JE QA QB Zt Zr R0 Tx X1 dC)
def Mp(R3:FJ)(R8:FK)(zR:Eo)(zD:Et)(t70:AA2)(t71 t72:Int)(BF:AAG)(AJ:Int)(EE:AAN)(IC:AAG)(Ix:AAS)(AS:Int)(Ov:AAX)(Oi:AAw)(Oy:AA2)(Oz:AAJ)(AK:Bool)(Ey OC:Int)(Ql:Bool)(b2:AAG)(b3:AAN)(b4:AAG)(b5:AAS)(b6:AAX)(b7:AAw)(b8:AA2)(b9:AAJ)(Mf Mx:Int)(JE:Bool)(QA:AAG)(QB:AAN)(Zt:AAG)(Zr:AAS)(R0:AAX)(Tx:AAw)(X1:AA2)(dC:AAJ):Option DB:=
 cond (decide (t72<t71))
  (if(0:Int)≤t72∧t72<(t70.length:Int)then(
  (Iz ((t70.getD (t72.toNat) (0,0,[],())).1,(t70.getD (t72.toNat) (0,0,[],())).2.1,(t70.getD (t72.toNat) (0,0,[],())).2.2.1,())).bind fun u30=>
  if X1.length+1≤IQ then(
  zD t70 t71 (A6 (t72+1)) BF AJ EE IC Ix AS Ov Oi Oy Oz AK Ey OC Ql b2 b3 b4 b5 b6 b7 b8 b9 Mf Mx JE QA QB Zt Zr R0 Tx (X1++[(u30.1.1.1,u30.1.1.2.1,u30.2.1,())]) dC)else none)else none)
 (if 0+Oz.length≤IQ then(
 some ((((),Mf,(),(),(),Mx,(),(),(),(),JE,()),()),(QA,QB,Zt,Zr,R0,Tx,X1,Oz,())))else none)
mutual
def Dz:Nat→FJ
 |0=>fun _ _ _ _ _ _ _ _ _ _ _ _ _ _ _ _ _ _ _ _ _ _ _ _ _ _ _ _ _ _ _ _ _ _ _ _=>none
 |n+1=>N6 (Dz n) (D1 n) (DR n) (DW n)
def D1:Nat→FK
 |0=>fun _ _ _ _ _ _ _ _ _ _ _ _ _ _ _ _ _ _ _ _ _ _ _ _ _ _ _ _ _ _ _ _ _ _ _ _=>none
 |n+1=>Nh (Dz n) (D1 n) (DR n) (DW n)
def DR:Nat→Eo
 |0=>fun _ _ _ _ _ _ _ _ _ _ _ _ _ _ _ _ _ _ _ _ _ _ _ _ _ _ _ _ _ _ _ _ _ _ _ _=>none
 |n+1=>Mn (Dz n) (D1 n) (DR n) (DW n)
def DW:Nat→Et
 |0=>fun _ _ _ _ _ _ _ _ _ _ _ _ _ _ _ _ _ _ _ _ _ _ _ _ _ _ _ _ _ _ _ _ _ _ _ _=>none
 |n+1=>Mp (Dz n) (D1 n) (DR n) (DW n)
end
def Np(R3:FJ)(R8:FK)(zR:Eo)(zD:Et)(p0:ABH):Option DB:=
 (Fb (p0.1,p0.2.1,())).bind fun u2=>
 (CL p0.2.2.2.1).bind fun u3=>
 (DL (p0.2.2.2.2.1,p0.2.2.2.2.2.1,())).bind fun u4=>
 R3 p0.2.2.1 (p0.2.2.1.length:Int) 0 p0.1 p0.2.1 p0.2.2.1 p0.2.2.2.1 p0.2.2.2.2.1 p0.2.2.2.2.2.1 p0.2.2.2.2.2.2.1 p0.2.2.2.2.2.2.2.1 p0.2.2.2.2.2.2.2.2.1 p0.2.2.2.2.2.2.2.2.2.1 p0.2.2.2.2.2.2.2.2.2.2.1 0 0 false [] [] [] [] [] [] [] [] u2.1.1.2.1 u4.1.1.2.1 p0.2.2.2.2.2.2.2.2.2.2.1 u2.2.1 [] u3.2.1 u4.2.1 [] [] [] []
def C6(p0:ABH):Option DB:=Np (Dz Aq) (D1 Aq) (DR Aq) (DW Aq) p0
abbrev Hv:Type:=ADY×Unit
def CV(p0 p1:Int):Option Hv:=
 (E5 p0).bind fun u1=>
 cond (!u1.1.1)
  (some (((0,false,()),()),()))
 ((Pd p1).bind fun u2=>
 cond (!u2.1.1)
  (some (((0,false,()),()),()))
 (some (((A6 ((A6 (4294967296*p0))+p1),true,()),()),())))
abbrev Er:Type:=ABW×ACQ
abbrev MD:Type:=Int→Int→List Int→Option Er
def Nu(R5:MD)(t0 t10:Int)(b0:AAG):Option Er:=
 cond (decide (t10<8))
  (if t10<0 then none else(
  cond (((ZY .i64 (t0.fdiv (2^(min t10.toNat 64))) 1)==1))
   (if b0.length+1≤IQ then(
   R5 t0 (A6 (t10+1)) (b0++[t10]))else none)
  (R5 t0 (A6 (t10+1)) b0)))
 (some (((),()),(b0,())))
def G5:Nat→MD
 |0=>fun _ _ _=>none
 |n+1=>Nu (G5 n)
def Nd(R5:MD)(p0:Int):Option Er:=
 (Aj p0 0 255).bind fun u1=>
 cond (!u1.1.1)
  (some (((),()),([],())))
 (R5 p0 0 [])
def FC(p0:Int):Option Er:=Nd (G5 Aq) p0
abbrev XT:Type:=ABV×Unit
def Lr(p0:ACs)(p1:Int):Option XT:=
 cond (decide (p0.1<p1))
  (some (((-1),()),()))
 (cond (decide (p0.1>p1))
  (some ((1,()),()))
 (some ((0,()),())))
abbrev A4:Type:=ADY×Unit
abbrev BR:Type:=AA5→Int→Int→Int→Int→Option A4
def Bw(R3:BR)(t0:AA5)(t1 t8 t9 t10:Int):Option A4:=
 cond (decide (t9<t10))
  (let x2:Int:=A6 ((IntKind.wrap .u64 (A6 (t9+t10))).fdiv (2^1))
  if(0:Int)≤x2∧x2<(t0.length:Int)then(
  (Lr ((t0.getD (x2.toNat) (0,0,false,[],())).1,(t0.getD (x2.toNat) (0,0,false,[],())).2.1,(t0.getD (x2.toNat) (0,0,false,[],())).2.2.1,(t0.getD (x2.toNat) (0,0,false,[],())).2.2.2.1,()) t1).bind fun u3=>
  cond (decide (u3.1.1<0))
   (R3 t0 t1 t8 (A6 (x2+1)) t10)
  (R3 t0 t1 t8 t9 x2))else none)
 (cond (decide (t9<t8))
  (if(0:Int)≤t9∧t9<(t0.length:Int)then(
  (Lr ((t0.getD (t9.toNat) (0,0,false,[],())).1,(t0.getD (t9.toNat) (0,0,false,[],())).2.1,(t0.getD (t9.toNat) (0,0,false,[],())).2.2.1,(t0.getD (t9.toNat) (0,0,false,[],())).2.2.2.1,()) t1).bind fun u4=>
  some (((t9,u4.1.1==0,()),()),()))else none)
 (some (((t9,false,()),()),())))
def Ai:Nat→BR
 |0=>fun _ _ _ _ _=>none
 |n+1=>Bw (Ai n)
def Bz(R3:BR)(p0:AA5)(p1:Int):Option A4:=
 R3 p0 p1 (p0.length:Int) 0 (p0.length:Int)
def Ba(p0:AA5)(p1:Int):Option A4:=Bz (Ai Aq) p0 p1
abbrev bU:Type:=ADY×Unit
def MK(p0:AA5)(p1:Int):Option bU:=
 (Ba p0 p1).bind fun u1=>
 some (((u1.1.1.1,u1.1.1.2.1,()),()),())
abbrev Iu:Type:=ADn×Unit
def EV(p0:ACS)(p1:Int):Option Iu:=
 (Dn (p0.1,p0.2.1,p0.2.2.1,())).bind fun u1=>
 cond (!u1.1.1)
  (some ((((0,0,false,[],()),false,()),()),()))
 ((MK p0.1 p1).bind fun u2=>
 cond (!u2.1.1.2.1)
  (some ((((0,0,false,[],()),false,()),()),()))
 (if(0:Int)≤u2.1.1.1∧u2.1.1.1<(p0.1.length:Int)then(
 some (((((p0.1.getD (u2.1.1.1.toNat) (0,0,false,[],())).1,(p0.1.getD (u2.1.1.1.toNat) (0,0,false,[],())).2.1,(p0.1.getD (u2.1.1.1.toNat) (0,0,false,[],())).2.2.1,(p0.1.getD (u2.1.1.1.toNat) (0,0,false,[],())).2.2.2.1,()),true,()),()),()))else none))
abbrev JV:Type:=ABV×Unit
abbrev K6:Type:=AB7→Int→Int→Int→AB7→Option JV
def Mk(R2:K6)(t6:AB7)(t7 t8 BF:Int)(AJ:AB7):Option JV:=
 cond (decide (t8<t7))
  (if(0:Int)≤t8∧t8<(t6.length:Int)then(
  cond (!((t6.getD (t8.toNat) ([],[],false,())).2.2.1))
   (some ((t8,()),()))
  (R2 t6 t7 (A6 (t8+1)) BF AJ))else none)
 (some (((AJ.length:Int),()),()))
def GN:Nat→K6
 |0=>fun _ _ _ _ _=>none
 |n+1=>Mk (GN n)
def Mq(R2:K6)(p0:ACe):Option JV:=
 R2 p0.2.1 (p0.2.1.length:Int) 0 p0.1 p0.2.1
def Ku(p0:ACe):Option JV:=Mq (GN Aq) p0
abbrev I8:Type:=ABV×Unit
abbrev PO:Type:=Int→AAX→Int→Int→Option I8
def QY(R2:PO)(t1:Int)(t8:AAX)(t9 t10:Int):Option I8:=
 cond (decide (t10<t9))
  (if(0:Int)≤t10∧t10<(t8.length:Int)then(
  cond (((t8.getD (t10.toNat) (0,[],())).1)==t1)
   ((Ku ((t8.getD (t10.toNat) (0,[],())).1,(t8.getD (t10.toNat) (0,[],())).2.1,())).bind fun u3=>
   some ((u3.1.1,()),()))
  (R2 t1 t8 t9 (A6 (t10+1))))else none)
 (some ((0,()),()))
def Jg:Nat→PO
 |0=>fun _ _ _ _=>none
 |n+1=>QY (Jg n)
def QU(R2:PO)(p0:ABH)(p1:Int):Option I8:=
 R2 p1 p0.2.2.2.2.2.2.1 (p0.2.2.2.2.2.2.1.length:Int) 0
def LW(p0:ABH)(p1:Int):Option I8:=QU (Jg Aq) p0 p1
abbrev L_:Type:=ABW×ACQ
abbrev OJ:Type:=ACq→Int→Int→List Int→Option L_
def PY(R3:OJ)(t7:ACq)(t8 t9:Int)(b0:AAG):Option L_:=
 cond (decide (t9<t8))
  (if(0:Int)≤t9∧t9<(t7.length:Int)then(
  if b0.length+1≤IQ then(
  R3 t7 t8 (A6 (t9+1)) (b0++[((t7.getD (t9.toNat) (0,false,0,0,false,[],())).1)]))else none)else none)
 (some (((),()),(b0,())))
def Ir:Nat→OJ
 |0=>fun _ _ _ _=>none
 |n+1=>PY (Ir n)
def Pb(R3:OJ)(p0:ACq):Option L_:=
 R3 p0 (p0.length:Int) 0 []
def KL(p0:ACq):Option L_:=Pb (Ir Aq) p0
abbrev ag:Type:=ABS×Unit
def O5(p0:Int)(p1:ADP):Option ag:=
 (Dj p0).bind fun u1=>
 cond ((decide (u1.1.1<p1.1)))
  (some ((true,()),()))
 (cond (u1.1.1==p1.1)
  ((LF p0).bind fun u3=>
  some (((decide (u3.1.1<p1.2.1)),()),()))
 (some ((false,()),())))
abbrev Vt:Type:=ABW×ADw
def Ds(p1:ADo)(BF AJ:Int)(b1:ADQ):Option Vt:=
 if b1.length+1≤IQ then(
 some (((()),()),((BF,AJ,(),()),(),(b1++[(p1.1,p1.2.1,p1.2.2.1,())]),())))else none
abbrev Qn:Type:=ABW×ACQ
abbrev SG:Type:=List Int→List Int→Int→Int→List Int→Option Qn
def TE(R5:SG)(t2 t22:AAG)(t23 t24:Int)(b0:AAG):Option Qn:=
 cond (decide (t24<t23))
  (if(0:Int)≤t24∧t24<(t22.length:Int)then(
  let x3:Int:=(t22.getD (t24.toNat) 0)
  (BH t2 x3).bind fun u4=>
  cond (!u4.1.1)
   (if b0.length+1≤IQ then(
   R5 t2 t22 t23 (A6 (t24+1)) (b0++[x3]))else none)
  (R5 t2 t22 t23 (A6 (t24+1)) b0))else none)
 (some (((),()),(b0,())))
def MA:Nat→SG
 |0=>fun _ _ _ _ _=>none
 |n+1=>TE (MA n)
def S9(R5:SG)(p0:AA8)(p1 p2:AAG):Option Qn:=
 (C1 (p0.1,p0.2.1,()) p1).bind fun u1=>
 cond (!u1.1.1)
  (some (((),()),([],())))
 ((C1 (p0.1,p0.2.1,()) p2).bind fun u2=>
 cond (!u2.1.1)
  (some (((),()),([],())))
 (R5 p2 p1 (p1.length:Int) 0 []))
def Uf(p0:AA8)(p1 p2:AAG):Option Qn:=S9 (MA Aq) p0 p1 p2
abbrev cQ:Type:=ABS×Unit
def Eg(p0:AA8)(p1 p2:AAG):Option cQ:=
 (C1 (p0.1,p0.2.1,()) p2).bind fun u1=>
 cond (!u1.1.1)
  (some ((false,()),()))
 ((DT (p0.1,p0.2.1,()) p1).bind fun u2=>
 cond (!u2.1.1)
  (some ((false,()),()))
 ((I7 p2 p1).bind fun u3=>
 cond (((u3.2.1.length:Int) !=(p2.length:Int)))
  (some ((false,()),()))
 ((Uf (p0.1,p0.2.1,()) p1 p2).bind fun u6=>
 (DT (p0.1,p0.2.1,()) u6.2.1).bind fun u7=>
 some ((!u7.1.1,()),()))))
abbrev cg:Type:=(ACs×Unit)×Unit
def LP(p0 p1:ACs):Option cg:=
 cond ((decide (p1.2.1>p0.2.1)))
  (some (((p1.1,p1.2.1,p1.2.2.1,p1.2.2.2.1,()),()),()))
 (some (((p0.1,p0.2.1,p0.2.2.1,p0.2.2.2.1,()),()),()))
abbrev NP:Type:=ADn×Unit
abbrev Pr:Type:=List Int→Int→Bool→ACq→Int→Int→Int→Int→Bool→List UInt8→Int→Int→Bool→List UInt8→Option NP
def QF(R3:Pr)(t1:AAG)(t2:Int)(t9:Bool)(t13:ACq)(t14 t15 BF AJ:Int)(EE:Bool)(IC:List UInt8)(IP Ey:Int)(Kp:Bool)(Ol:List UInt8):Option NP:=
 cond (decide (t15<t14))
  (if(0:Int)≤t15∧t15<(t13.length:Int)then(
  cond (!((t13.getD (t15.toNat) (0,false,0,0,false,[],())).2.1))
   (R3 t1 t2 t9 t13 t14 (A6 (t15+1)) BF AJ EE IC IP Ey Kp Ol)
  ((BH t1 ((t13.getD (t15.toNat) (0,false,0,0,false,[],())).1)).bind fun u3=>
  cond (!u3.1.1)
   (R3 t1 t2 t9 t13 t14 (A6 (t15+1)) BF AJ EE IC IP Ey Kp Ol)
  ((Ie ((t13.getD (t15.toNat) (0,false,0,0,false,[],())).2.2.1,(t13.getD (t15.toNat) (0,false,0,0,false,[],())).2.2.2.1,(t13.getD (t15.toNat) (0,false,0,0,false,[],())).2.2.2.2.1,(t13.getD (t15.toNat) (0,false,0,0,false,[],())).2.2.2.2.2.1,())).bind fun u4=>
  cond (!u4.1.1)
   (R3 t1 t2 t9 t13 t14 (A6 (t15+1)) BF AJ EE IC IP Ey Kp Ol)
  (cond (((t13.getD (t15.toNat) (0,false,0,0,false,[],())).2.2.1) !=t2)
   (R3 t1 t2 t9 t13 t14 (A6 (t15+1)) BF AJ EE IC IP Ey Kp Ol)
  (cond (!t9)
   ((LP ((t13.getD (t15.toNat) (0,false,0,0,false,[],())).2.2.1,(t13.getD (t15.toNat) (0,false,0,0,false,[],())).2.2.2.1,(t13.getD (t15.toNat) (0,false,0,0,false,[],())).2.2.2.2.1,(t13.getD (t15.toNat) (0,false,0,0,false,[],())).2.2.2.2.2.1,()) ((t13.getD (t15.toNat) (0,false,0,0,false,[],())).2.2.1,(t13.getD (t15.toNat) (0,false,0,0,false,[],())).2.2.2.1,(t13.getD (t15.toNat) (0,false,0,0,false,[],())).2.2.2.2.1,(t13.getD (t15.toNat) (0,false,0,0,false,[],())).2.2.2.2.2.1,())).bind fun u6=>
   R3 t1 t2 true t13 t14 (A6 (t15+1)) BF AJ EE IC u6.1.1.1 u6.1.1.2.1 u6.1.1.2.2.1 u6.1.1.2.2.2.1)
  ((LP (IP,Ey,Kp,Ol,()) ((t13.getD (t15.toNat) (0,false,0,0,false,[],())).2.2.1,(t13.getD (t15.toNat) (0,false,0,0,false,[],())).2.2.2.1,(t13.getD (t15.toNat) (0,false,0,0,false,[],())).2.2.2.2.1,(t13.getD (t15.toNat) (0,false,0,0,false,[],())).2.2.2.2.2.1,())).bind fun u7=>
  R3 t1 t2 true t13 t14 (A6 (t15+1)) BF AJ EE IC u7.1.1.1 u7.1.1.2.1 u7.1.1.2.2.1 u7.1.1.2.2.2.1))))))else none)
 (some ((((IP,Ey,Kp,Ol,()),t9,()),()),()))
def Jm:Nat→Pr
 |0=>fun _ _ _ _ _ _ _ _ _ _ _ _ _ _=>none
 |n+1=>QF (Jm n)
def Qi(R3:Pr)(p0:ACq)(p1:AAG)(p2:Int):Option NP:=
 R3 p1 p2 false p0 (p0.length:Int) 0 0 0 false [] 0 0 false []
def QZ(p0:ACq)(p1:AAG)(p2:Int):Option NP:=Qi (Jm Aq) p0 p1 p2
abbrev Uy:Type:=ABW×ADw
def CB(p1:ACq)(p2:AAG)(BF AJ:Int)(b1:ADQ):Option Uy:=
 (CV BF AJ).bind fun u1=>
 (QZ p1 p2 u1.1.1.1).bind fun u2=>
 cond (!u2.1.1.2.1)
  ((Ds (3,u1.1.1.1,[],()) BF AJ b1).bind fun u3=>
  some (((()),()),((u3.2.1.1,A6 (u3.2.1.2.1+1),(),()),(),u3.2.2.2.1,())))
 (cond (u2.1.1.1.2.2.1)
  ((Ds (2,u1.1.1.1,[],()) BF AJ b1).bind fun u4=>
  some (((()),()),((u4.2.1.1,A6 (u4.2.1.2.1+1),(),()),(),u4.2.2.2.1,())))
 ((Ds (1,u1.1.1.1,u2.1.1.1.2.2.2.1,()) BF AJ b1).bind fun u5=>
 some (((()),()),((u5.2.1.1,A6 (u5.2.1.2.1+1),(),()),(),u5.2.2.2.1,()))))
abbrev HB:Type:=(ADx×Unit)×ADf
def Gz(p0:AA8)(p1:ACX)(p2:Int)(p3:ADP)(p4:ACq):Option HB:=
 (HR (p0.1,p0.2.1,()) (p1.1,p1.2.1,())).bind fun u1=>
 cond (!u1.1.1)
  (some ((((0,0,(),()),1,()),()),([],())))
 ((NW (p3.1,p3.2.1,p3.2.2.1,())).bind fun u2=>
 cond (!u2.1.1)
  (some ((((0,0,(),()),1,()),()),([],())))
 ((KL p4).bind fun u3=>
 (C1 (p0.1,p0.2.1,()) u3.2.1).bind fun u4=>
 cond (!u4.1.1)
  (some ((((0,0,(),()),1,()),()),([],())))
 ((Iz (p3.1,p3.2.1,p3.2.2.1,())).bind fun u5=>
 cond ((decide (p3.1>(p1.1.length:Int))))
  (some ((((u5.1.1.1,u5.1.1.2.1,(),()),2,()),()),(u5.2.1,())))
 (cond ((p3.2.2.1.length:Int)==120)
  (some ((((u5.1.1.1,u5.1.1.2.1,(),()),2,()),()),(u5.2.1,())))
 (cond (decide (p1.2.1>0))
  ((O5 p1.2.1 (p3.1,p3.2.1,p3.2.2.1,())).bind fun u8=>
  cond (!u8.1.1)
   ((Ds (5,p1.2.1,[],()) u5.1.1.1 u5.1.1.2.1 u5.2.1).bind fun u9=>
   (Dj p1.2.1).bind fun Io=>
   (LF p1.2.1).bind fun Rk=>
   some ((((Io.1.1,A6 (Rk.1.1+1),(),()),0,()),()),(u9.2.2.2.1,())))
  (if(0:Int)≤A6 (p3.1-1)∧A6 (p3.1-1)<(p1.1.length:Int)then(
  (KL p4).bind fun Q4=>
  (I7 Q4.2.1 ((p1.1.getD ((A6 (p3.1-1)).toNat) ([],false,0,())).1)).bind fun Nc=>
  cond (((p1.1.getD ((A6 (p3.1-1)).toNat) ([],false,0,())).2.1))
   (cond ((decide (p3.2.1>((p1.1.getD ((A6 (p3.1-1)).toNat) ([],false,0,())).2.2.1))))
    ((Ds (4,A6 (p3.1+1),[],()) u5.1.1.1 u5.1.1.2.1 u5.2.1).bind fun dw=>
    some ((((A6 (p3.1+1),1,(),()),0,()),()),(dw.2.2.2.1,())))
   (cond (!((p1.1.getD ((A6 (p3.1-1)).toNat) ([],false,0,())).2.1))
    (cond (decide (p3.2.1>p2))
     (some ((((u5.1.1.1,u5.1.1.2.1,(),()),2,()),()),(u5.2.1,())))
    (cond (decide (p3.2.1>60))
     (some ((((u5.1.1.1,u5.1.1.2.1,(),()),2,()),()),(u5.2.1,())))
    ((Eg (p0.1,p0.2.1,()) ((p1.1.getD ((A6 (p3.1-1)).toNat) ([],false,0,())).1) Nc.2.1).bind fun mA=>
    cond (!mA.1.1)
     (some ((((u5.1.1.1,u5.1.1.2.1,(),()),3,()),()),(u5.2.1,())))
    ((CB p4 Nc.2.1 u5.1.1.1 u5.1.1.2.1 u5.2.1).bind fun V7=>
    some ((((V7.2.1.1,V7.2.1.2.1,(),()),0,()),()),(V7.2.2.2.1,()))))))
   (cond (decide (p3.2.1>60))
    (some ((((u5.1.1.1,u5.1.1.2.1,(),()),2,()),()),(u5.2.1,())))
   ((Eg (p0.1,p0.2.1,()) ((p1.1.getD ((A6 (p3.1-1)).toNat) ([],false,0,())).1) Nc.2.1).bind fun Yg=>
   cond (!Yg.1.1)
    (some ((((u5.1.1.1,u5.1.1.2.1,(),()),3,()),()),(u5.2.1,())))
   ((CB p4 Nc.2.1 u5.1.1.1 u5.1.1.2.1 u5.2.1).bind fun u22=>
   some ((((u22.2.1.1,u22.2.1.2.1,(),()),0,()),()),(u22.2.2.2.1,())))))))
  (cond (!((p1.1.getD ((A6 (p3.1-1)).toNat) ([],false,0,())).2.1))
   (cond (decide (p3.2.1>p2))
    (some ((((u5.1.1.1,u5.1.1.2.1,(),()),2,()),()),(u5.2.1,())))
   (cond (decide (p3.2.1>60))
    (some ((((u5.1.1.1,u5.1.1.2.1,(),()),2,()),()),(u5.2.1,())))
   ((Eg (p0.1,p0.2.1,()) ((p1.1.getD ((A6 (p3.1-1)).toNat) ([],false,0,())).1) Nc.2.1).bind fun Ze=>
   cond (!Ze.1.1)
    (some ((((u5.1.1.1,u5.1.1.2.1,(),()),3,()),()),(u5.2.1,())))
   ((CB p4 Nc.2.1 u5.1.1.1 u5.1.1.2.1 u5.2.1).bind fun mO=>
   some ((((mO.2.1.1,mO.2.1.2.1,(),()),0,()),()),(mO.2.2.2.1,()))))))
  (cond (decide (p3.2.1>60))
   (some ((((u5.1.1.1,u5.1.1.2.1,(),()),2,()),()),(u5.2.1,())))
  ((Eg (p0.1,p0.2.1,()) ((p1.1.getD ((A6 (p3.1-1)).toNat) ([],false,0,())).1) Nc.2.1).bind fun u26=>
  cond (!u26.1.1)
   (some ((((u5.1.1.1,u5.1.1.2.1,(),()),3,()),()),(u5.2.1,())))
  ((CB p4 Nc.2.1 u5.1.1.1 u5.1.1.2.1 u5.2.1).bind fun u27=>
  some ((((u27.2.1.1,u27.2.1.2.1,(),()),0,()),()),(u27.2.2.2.1,())))))))else none))
 (if(0:Int)≤A6 (p3.1-1)∧A6 (p3.1-1)<(p1.1.length:Int)then(
 (KL p4).bind fun lx=>
 (I7 lx.2.1 ((p1.1.getD ((A6 (p3.1-1)).toNat) ([],false,0,())).1)).bind fun ck=>
 cond (((p1.1.getD ((A6 (p3.1-1)).toNat) ([],false,0,())).2.1))
  (cond ((decide (p3.2.1>((p1.1.getD ((A6 (p3.1-1)).toNat) ([],false,0,())).2.2.1))))
   ((Ds (4,A6 (p3.1+1),[],()) u5.1.1.1 u5.1.1.2.1 u5.2.1).bind fun u33=>
   some ((((A6 (p3.1+1),1,(),()),0,()),()),(u33.2.2.2.1,())))
  (cond (!((p1.1.getD ((A6 (p3.1-1)).toNat) ([],false,0,())).2.1))
   (cond (decide (p3.2.1>p2))
    (some ((((u5.1.1.1,u5.1.1.2.1,(),()),2,()),()),(u5.2.1,())))
   (cond (decide (p3.2.1>60))
    (some ((((u5.1.1.1,u5.1.1.2.1,(),()),2,()),()),(u5.2.1,())))
   ((Eg (p0.1,p0.2.1,()) ((p1.1.getD ((A6 (p3.1-1)).toNat) ([],false,0,())).1) ck.2.1).bind fun u35=>
   cond (!u35.1.1)
    (some ((((u5.1.1.1,u5.1.1.2.1,(),()),3,()),()),(u5.2.1,())))
   ((CB p4 ck.2.1 u5.1.1.1 u5.1.1.2.1 u5.2.1).bind fun u36=>
   some ((((u36.2.1.1,u36.2.1.2.1,(),()),0,()),()),(u36.2.2.2.1,()))))))
  (cond (decide (p3.2.1>60))
   (some ((((u5.1.1.1,u5.1.1.2.1,(),()),2,()),()),(u5.2.1,())))
  ((Eg (p0.1,p0.2.1,()) ((p1.1.getD ((A6 (p3.1-1)).toNat) ([],false,0,())).1) ck.2.1).bind fun lP=>
  cond (!lP.1.1)
   (some ((((u5.1.1.1,u5.1.1.2.1,(),()),3,()),()),(u5.2.1,())))
  ((CB p4 ck.2.1 u5.1.1.1 u5.1.1.2.1 u5.2.1).bind fun kY=>
  some ((((kY.2.1.1,kY.2.1.2.1,(),()),0,()),()),(kY.2.2.2.1,())))))))
 (cond (!((p1.1.getD ((A6 (p3.1-1)).toNat) ([],false,0,())).2.1))
  (cond (decide (p3.2.1>p2))
   (some ((((u5.1.1.1,u5.1.1.2.1,(),()),2,()),()),(u5.2.1,())))
  (cond (decide (p3.2.1>60))
   (some ((((u5.1.1.1,u5.1.1.2.1,(),()),2,()),()),(u5.2.1,())))
  ((Eg (p0.1,p0.2.1,()) ((p1.1.getD ((A6 (p3.1-1)).toNat) ([],false,0,())).1) ck.2.1).bind fun u40=>
  cond (!u40.1.1)
   (some ((((u5.1.1.1,u5.1.1.2.1,(),()),3,()),()),(u5.2.1,())))
  ((CB p4 ck.2.1 u5.1.1.1 u5.1.1.2.1 u5.2.1).bind fun u41=>
  some ((((u41.2.1.1,u41.2.1.2.1,(),()),0,()),()),(u41.2.2.2.1,()))))))
 (cond (decide (p3.2.1>60))
  (some ((((u5.1.1.1,u5.1.1.2.1,(),()),2,()),()),(u5.2.1,())))
 ((Eg (p0.1,p0.2.1,()) ((p1.1.getD ((A6 (p3.1-1)).toNat) ([],false,0,())).1) ck.2.1).bind fun gW=>
 cond (!gW.1.1)
  (some ((((u5.1.1.1,u5.1.1.2.1,(),()),3,()),()),(u5.2.1,())))
 ((CB p4 ck.2.1 u5.1.1.1 u5.1.1.2.1 u5.2.1).bind fun u43=>
 some ((((u43.2.1.1,u43.2.1.2.1,(),()),0,()),()),(u43.2.2.2.1,())))))))else none))))))
abbrev HG:Type:=ABV×ADC
abbrev LH:Type:=Int→Int→Int→Int→Int→Int→Bool→List Int→AAN→List Int→AAS→AAX→AAw→AA2→AAJ→Int→Int→ADQ→ACq→List Int→Option HG
def JN(R7:LH)(t1 t8 t44 t45 AJ AS:Int)(AK:Bool)(b1:AAG)(b2:AAN)(b3:AAG)(b4:AAS)(b5:AAX)(b6:AAw)(b7:AA2)(b8:AAJ)(a_ ZQ:Int)(W9:ADQ)(Yr:ACq)(QA:AAG):Option HG:=
 cond (decide (t45<t44))
  (if(0:Int)≤t45∧t45<(QA.length:Int)then(
  let x8:Int:=(QA.getD (t45.toNat) 0)
  cond ((decide (x8<(b2.length:Int))))
   ((CA (b1,AJ,b2,b3,b4,AS,b5,b6,b7,b8,AK,()) x8).bind fun Io=>
   cond (!Io.1.1)
    (if(0:Int)≤x8∧x8<(b2.length:Int)then(
    (EV ((b2.getD (x8.toNat) ([],[],0,())).1,(b2.getD (x8.toNat) ([],[],0,())).2.1,(b2.getD (x8.toNat) ([],[],0,())).2.2.1,()) t8).bind fun Rk=>
    if Yr.length+1≤IQ then(
    R7 t1 t8 t44 (A6 (t45+1)) AJ AS AK b1 b2 b3 b4 b5 b6 b7 b8 a_ ZQ W9 (Yr++[(x8,Rk.1.1.2.1,Rk.1.1.1.1,Rk.1.1.1.2.1,Rk.1.1.1.2.2.1,Rk.1.1.1.2.2.2.1,())]) QA)else none)else none)
   (R7 t1 t8 t44 (A6 (t45+1)) AJ AS AK b1 b2 b3 b4 b5 b6 b7 b8 a_ ZQ W9 Yr QA))
  (R7 t1 t8 t44 (A6 (t45+1)) AJ AS AK b1 b2 b3 b4 b5 b6 b7 b8 a_ ZQ W9 Yr QA))else none)
 ((LW (b1,AJ,b2,b3,b4,AS,b5,b6,b7,b8,AK,()) a_).bind fun Nc=>
 (Gz (b1,AJ,()) (b4,AS,()) Nc.1.1 (a_,ZQ,W9,()) Yr).bind fun cK=>
 cond (cK.1.1.2.1 !=0)
  (some ((5,()),(((),AJ,(),(),(),AS,(),(),(),(),AK,()),b1,b2,b3,b4,b5,b6,b7,b8,())))
 (if(0:Int)≤t1∧t1<(b7.length:Int)then(
 some ((0,()),(((),AJ,(),(),(),AS,(),(),(),(),AK,()),b1,b2,b3,b4,b5,b6,(b7.set (t1.toNat) (cK.1.1.1.1,cK.1.1.1.2.1,cK.2.1,())),b8,())))else none))
def CF:Nat→LH
 |0=>fun _ _ _ _ _ _ _ _ _ _ _ _ _ _ _ _ _ _ _ _=>none
 |n+1=>JN (CF n)
def JD(R7:LH)(p1 p2 AJ AS:Int)(AK:Bool)(b1:AAG)(b2:AAN)(b3:AAG)(b4:AAS)(b5:AAX)(b6:AAw)(b7:AA2)(b8:AAJ):Option HG:=
 (Aj p1 0 (A6 ((b7.length:Int)-1))).bind fun u2=>
 cond (!u2.1.1)
  (some ((2,()),(((),AJ,(),(),(),AS,(),(),(),(),AK,()),b1,b2,b3,b4,b5,b6,b7,b8,())))
 (if(0:Int)≤p1∧p1<(b7.length:Int)then(
 (CV ((b7.getD (p1.toNat) (0,0,[],())).1) ((b7.getD (p1.toNat) (0,0,[],())).2.1)).bind fun u5=>
 (FC p2).bind fun u6=>
 R7 p1 u5.1.1.1 (u6.2.1.length:Int) 0 AJ AS AK b1 b2 b3 b4 b5 b6 b7 b8 ((b7.getD (p1.toNat) (0,0,[],())).1) ((b7.getD (p1.toNat) (0,0,[],())).2.1) ((b7.getD (p1.toNat) (0,0,[],())).2.2.1) [] u6.2.1)else none)
def I1(p1 p2 AJ AS:Int)(AK:Bool)(b1:AAG)(b2:AAN)(b3:AAG)(b4:AAS)(b5:AAX)(b6:AAw)(b7:AA2)(b8:AAJ):Option HG:=JD (CF Aq) p1 p2 AJ AS AK b1 b2 b3 b4 b5 b6 b7 b8
abbrev Oo:Type:=ABS×Unit
abbrev Qx:Type:=List Int→Int→Int→Int→Option Oo
def NL(R2:Qx)(t0:AAG)(t1 t2 t7:Int):Option Oo:=
 cond ((decide (t7<(t0.length:Int))))
  (if(0:Int)≤t7∧t7<(t0.length:Int)then(
  (KD (t0.getD (t7.toNat) 0) t1 t2).bind fun u3=>
  cond (!u3.1.1)
   (some ((false,()),()))
  (cond (decide (t7>0))
   (if(0:Int)≤A6 (t7-1)∧A6 (t7-1)<(t0.length:Int)then(
   if(0:Int)≤t7∧t7<(t0.length:Int)then(
   cond (decide ((t0.getD ((A6 (t7-1)).toNat) 0)≥(t0.getD (t7.toNat) 0)))
    (some ((false,()),()))
   (R2 t0 t1 t2 (A6 (t7+1))))else none)else none)
  (R2 t0 t1 t2 (A6 (t7+1)))))else none)
 (some ((true,()),()))
def I9:Nat→Qx
 |0=>fun _ _ _ _=>none
 |n+1=>NL (I9 n)
def RO(R2:Qx)(p0:AAG)(p1 p2:Int):Option Oo:=
 R2 p0 p1 p2 0
def SV(p0:AAG)(p1 p2:Int):Option Oo:=RO (I9 Aq) p0 p1 p2
abbrev cF:Type:=ABS×Unit
def Of(p0:AA8)(p1:AAG):Option cF:=
 (I5 (p0.1,p0.2.1,())).bind fun u1=>
 cond (u1.1.1)
  ((SV p1 0 (A6 ((p0.1.length:Int)-1))).bind fun u3=>
  some ((u3.1.1,()),()))
 (some ((false,()),()))
abbrev NZ:Type:=ABV×Unit
abbrev Pt:Type:=List Int→Int→Int→List Int→Int→List Bool→Option NZ
def QJ(R4:Pt)(t1:AAG)(t6 t7:Int)(BF:AAG)(AJ:Int)(b1:List Bool):Option NZ:=
 cond ((decide (t7<(t1.length:Int))))
  (if(0:Int)≤t7∧t7<(t1.length:Int)then(
  let x3:Int:=(t1.getD (t7.toNat) 0)
  if(0:Int)≤x3∧x3<(BF.length:Int)then(
  let x4:Int:=(BF.getD (x3.toNat) 0)
  if(0:Int)≤x4∧x4<(b1.length:Int)then(
  cond (!(b1.getD (x4.toNat) false))
   (if(0:Int)≤x4∧x4<(b1.length:Int)then(
   R4 t1 (A6 (t6+1)) (A6 (t7+1)) BF AJ (b1.set (x4.toNat) true))else none)
  (R4 t1 t6 (A6 (t7+1)) BF AJ b1))else none)else none)else none)
 (some ((t6,()),()))
def Jq:Nat→Pt
 |0=>fun _ _ _ _ _ _=>none
 |n+1=>QJ (Jq n)
def Qk(R4:Pt)(p0:AA8)(p1:AAG):Option NZ:=
 R4 p1 0 0 p0.1 p0.2.1 (List.replicate 8 false)
def Qv(p0:AA8)(p1:AAG):Option NZ:=Qk (Jq Aq) p0 p1
abbrev fq:Type:=ABS×Unit
def PZ(p0:AA8)(p1:AAG):Option fq:=
 (Of (p0.1,p0.2.1,()) p1).bind fun u1=>
 cond (u1.1.1)
  ((Qv (p0.1,p0.2.1,()) p1).bind fun u2=>
  some (((decide (u2.1.1≥p0.2.1)),()),()))
 (some ((false,()),()))
abbrev ZG:Type:=ABS×Unit
def U_(p0:ADP):Option ZG:=
 (KD p0.1 1 31).bind fun u1=>
 cond (u1.1.1)
  ((KD p0.2.1 1 61).bind fun u2=>
  cond (u2.1.1)
   (some ((decide ((p0.2.2.1.length:Int)≤120),()),()))
  (some ((false,()),())))
 (some ((false,()),()))
abbrev ZW:Type:=ADp×ADR
abbrev ib:Type:=ADS×ADy
abbrev W6:Type:=(ADx×Unit)×ADf
abbrev NR:Type:=ABW×(AAJ×Unit)
abbrev Pu:Type:=ADQ→Int→Int→AAJ→Option NR
def QE(R5:Pu)(t27:ADQ)(t28 t29:Int)(b0:AAJ):Option NR:=
 cond (decide (t29<t28))
  (if(0:Int)≤t29∧t29<(t27.length:Int)then(
  cond (((t27.getD (t29.toNat) (0,0,[],())).1)==1)
   (if b0.length+1≤IQ then(
   R5 t27 t28 (A6 (t29+1)) (b0++[(((t27.getD (t29.toNat) (0,0,[],())).2.1),((t27.getD (t29.toNat) (0,0,[],())).2.2.1),true,())]))else none)
  (R5 t27 t28 (A6 (t29+1)) b0))else none)
 (some (((),()),(b0,())))
def Hq:Nat→Pu
 |0=>fun _ _ _ _=>none
 |n+1=>QE (Hq n)
def QX(R5:Pu)(p0:ABH)(p1:Int):Option NR:=
 (D9 (p0.1,p0.2.1,p0.2.2.1,p0.2.2.2.1,p0.2.2.2.2.1,p0.2.2.2.2.2.1,p0.2.2.2.2.2.2.1,p0.2.2.2.2.2.2.2.1,p0.2.2.2.2.2.2.2.2.1,p0.2.2.2.2.2.2.2.2.2.1,p0.2.2.2.2.2.2.2.2.2.2.1,())).bind fun u1=>
 cond (!u1.1.1)
  (some (((),()),([],())))
 ((Aj p1 0 (A6 ((p0.2.2.2.2.2.2.2.2.1.length:Int)-1))).bind fun u3=>
 cond (!u3.1.1)
  (some (((),()),([],())))
 (if(0:Int)≤p1∧p1<(p0.2.2.2.2.2.2.2.2.1.length:Int)then(
 R5 ((p0.2.2.2.2.2.2.2.2.1.getD (p1.toNat) (0,0,[],())).2.2.1) (((p0.2.2.2.2.2.2.2.2.1.getD (p1.toNat) (0,0,[],())).2.2.1).length:Int) 0 [])else none))
def Qu(p0:ABH)(p1:Int):Option NR:=QX (Hq Aq) p0 p1
abbrev Oj:Type:=ABW×(AAJ×Unit)
abbrev Q3:Type:=AAJ→Int→Int→List Int→Int→AAN→List Int→AAS→Int→AAX→AAw→AA2→AAJ→Bool→AAJ→Option Oj
def RV(R5:Q3)(t12:AAJ)(t13 t14:Int)(BF:AAG)(AJ:Int)(EE:AAN)(IC:AAG)(Ix:AAS)(AS:Int)(Ov:AAX)(Oi:AAw)(Oy:AA2)(Oz:AAJ)(AK:Bool)(b1:AAJ):Option Oj:=
 cond (decide (t14<t13))
  (if(0:Int)≤t14∧t14<(t12.length:Int)then(
  cond (((t12.getD (t14.toNat) (0,[],false,())).2.2.1))
   (cond (decide (((t12.getD (t14.toNat) (0,[],false,())).1)>AS))
    (if b1.length+1≤IQ then(
    R5 t12 t13 (A6 (t14+1)) BF AJ EE IC Ix AS Ov Oi Oy Oz AK (b1++[((t12.getD (t14.toNat) (0,[],false,())).1,(t12.getD (t14.toNat) (0,[],false,())).2.1,(t12.getD (t14.toNat) (0,[],false,())).2.2.1,())]))else none)
   (R5 t12 t13 (A6 (t14+1)) BF AJ EE IC Ix AS Ov Oi Oy Oz AK b1))
  (R5 t12 t13 (A6 (t14+1)) BF AJ EE IC Ix AS Ov Oi Oy Oz AK b1))else none)
 (some (((),()),(b1,())))
def Kj:Nat→Q3
 |0=>fun _ _ _ _ _ _ _ _ _ _ _ _ _ _ _=>none
 |n+1=>RV (Kj n)
def Rm(R5:Q3)(p0:ABH):Option Oj:=
 (D9 (p0.1,p0.2.1,p0.2.2.1,p0.2.2.2.1,p0.2.2.2.2.1,p0.2.2.2.2.2.1,p0.2.2.2.2.2.2.1,p0.2.2.2.2.2.2.2.1,p0.2.2.2.2.2.2.2.2.1,p0.2.2.2.2.2.2.2.2.2.1,p0.2.2.2.2.2.2.2.2.2.2.1,())).bind fun u1=>
 cond (!u1.1.1)
  (some (((),()),([],())))
 (R5 p0.2.2.2.2.2.2.2.2.2.1 (p0.2.2.2.2.2.2.2.2.2.1.length:Int) 0 p0.1 p0.2.1 p0.2.2.1 p0.2.2.2.1 p0.2.2.2.2.1 p0.2.2.2.2.2.1 p0.2.2.2.2.2.2.1 p0.2.2.2.2.2.2.2.1 p0.2.2.2.2.2.2.2.2.1 p0.2.2.2.2.2.2.2.2.2.1 p0.2.2.2.2.2.2.2.2.2.2.1 [])
def Ps(p0:ABH):Option Oj:=Rm (Kj Aq) p0
abbrev O2:Type:=((List UInt8×Bool×Unit)×Unit)×Unit
abbrev Q8:Type:=Int→Int→Int→AAJ→Option O2
def Rh(R2:Q8)(t1 t10 t11:Int)(b0:AAJ):Option O2:=
 cond (decide (t11<t10))
  (if(0:Int)≤t11∧t11<(b0.length:Int)then(
  cond (((b0.getD (t11.toNat) (0,[],false,())).1)==t1)
   (some (((((b0.getD (t11.toNat) (0,[],false,())).2.1),true,()),()),()))
  (R2 t1 t10 (A6 (t11+1)) b0))else none)
 (some ((([],false,()),()),()))
def Kn:Nat→Q8
 |0=>fun _ _ _ _=>none
 |n+1=>Rh (Kn n)
def RU(R2:Q8)(p0:ABH)(p1:Int):Option O2:=
 (Ps (p0.1,p0.2.1,p0.2.2.1,p0.2.2.2.1,p0.2.2.2.2.1,p0.2.2.2.2.2.1,p0.2.2.2.2.2.2.1,p0.2.2.2.2.2.2.2.1,p0.2.2.2.2.2.2.2.2.1,p0.2.2.2.2.2.2.2.2.2.1,p0.2.2.2.2.2.2.2.2.2.2.1,())).bind fun u1=>
 R2 p1 (u1.2.1.length:Int) 0 u1.2.1
def Sr(p0:ABH)(p1:Int):Option O2:=RU (Kn Aq) p0 p1
abbrev S4:Type:=ADT×ADa
def C_(p0:AA8)(p1:ACX):Option S4:=
 (HR (p0.1,p0.2.1,()) (p1.1,p1.2.1,())).bind fun u1=>
 cond (!u1.1.1)
  (some ((((),0,()),()),([],())))
 ((DL (p1.1,p1.2.1,())).bind fun u2=>
 some ((((),u2.1.1.2.1,()),()),(u2.2.1,())))
abbrev Tf:Type:=((ADq×Int×Bool×Unit)×Unit)×ADa
def Ii(p0:AA8)(p1:ACX)(p2:AAG):Option Tf:=
 (HR (p0.1,p0.2.1,()) (p1.1,p1.2.1,())).bind fun u1=>
 cond (!u1.1.1)
  ((C_ (p0.1,p0.2.1,()) (p1.1,p1.2.1,())).bind fun u2=>
  some (((((),u2.1.1.2.1,()),0,false,()),()),(u2.2.1,())))
 ((DT (p0.1,p0.2.1,()) p2).bind fun u3=>
 cond (!u3.1.1)
  ((C_ (p0.1,p0.2.1,()) (p1.1,p1.2.1,())).bind fun u4=>
  some (((((),u4.1.1.2.1,()),0,false,()),()),(u4.2.1,())))
 (cond (((p1.1.length:Int)==30))
  ((C_ (p0.1,p0.2.1,()) (p1.1,p1.2.1,())).bind fun u6=>
  some (((((),u6.1.1.2.1,()),0,false,()),()),(u6.2.1,())))
 ((DL (p1.1,p1.2.1,())).bind fun u7=>
 (CL p2).bind fun u8=>
 if u7.2.1.length+1≤IQ then(
 let x9:AAS:=u7.2.1++[(u8.2.1,false,0,())]
 some (((((),u7.1.1.2.1,()),(x9.length:Int),true,()),()),(x9,())))else none)))
abbrev Qj:Type:=ABV×(AC1×List Int×AAN×List Int×Unit×Unit×Unit×AA2×AAJ×AAS×AAX×AAw×Unit)
def Gp(p1 AJ AS:Int)(AK:Bool)(b1:AAG)(b2:AAN)(b3:AAG)(b4:AAS)(b5:AAX)(b6:AAw)(b7:AA2)(b8:AAJ):Option Qj:=
 cond (((b5.length:Int)==4))
  (some ((4,()),(((),AJ,(),(),(),AS,(),(),(),(),AK,()),b1,b2,b3,(),(),(),b7,b8,b4,b5,b6,())))
 ((FC p1).bind fun u2=>
 (Ii (b1,AJ,()) (b4,AS,()) u2.2.1).bind fun u3=>
 cond (!u3.1.1.2.2.1)
  (some ((4,()),(((),AJ,(),(),(),AS,(),(),(),(),AK,()),b1,b2,b3,(),(),(),b7,b8,b4,b5,b6,())))
 (if b5.length+1≤IQ then(
 some ((0,()),(((),AJ,(),(),(),u3.1.1.1.2.1,(),(),(),(),AK,()),b1,b2,b3,(),(),(),b7,b8,u3.2.1,(b5++[(u3.1.1.2.1,[],())]),[],())))else none))
abbrev Pk:Type:=(ADi×Unit)×ADb
def DA(p0:AA8)(p1:ACe):Option Pk:=
 (EU (p0.1,p0.2.1,()) (p1.1,p1.2.1,())).bind fun u1=>
 cond (!u1.1.1)
  (some (((0,(),()),()),([],())))
 ((D_ (p1.1,p1.2.1,())).bind fun u2=>
 some (((u2.1.1.1,(),()),()),(u2.2.1,())))
abbrev RY:Type:=((ADi×Int×Bool×Unit)×Unit)×ADb
def GR(p0:AA8)(p1:ACe)(p2:List UInt8):Option RY:=
 (D_ (p1.1,p1.2.1,())).bind fun u1=>
 if u1.2.1.length+1≤IQ then(
 let x2:AB7:=u1.2.1++[(p2,[],false,())]
 (EU (p0.1,p0.2.1,()) (p1.1,p1.2.1,())).bind fun u3=>
 cond (!u3.1.1)
  ((DA (p0.1,p0.2.1,()) (p1.1,p1.2.1,())).bind fun u4=>
  some ((((u4.1.1.1,(),()),0,false,()),()),(u4.2.1,())))
 ((EU (p0.1,p0.2.1,()) (u1.1.1.1,x2,())).bind fun u5=>
 cond (!u5.1.1)
  ((DA (p0.1,p0.2.1,()) (p1.1,p1.2.1,())).bind fun u6=>
  some ((((u6.1.1.1,(),()),0,false,()),()),(u6.2.1,())))
 (some ((((u1.1.1.1,(),()),(x2.length:Int),true,()),()),(x2,())))))else none
abbrev TM:Type:=ABV×Unit
def Hc(p0:ADr)(p1:Int):Option TM:=
 some ((A6 (p0.1-p1),()),())
abbrev Ax:Type:=ADY×Unit
abbrev BI:Type:=AAJ→Int→Int→Int→Int→Option Ax
def Bm(R3:BI)(t0:AAJ)(t1 t8 t9 t10:Int):Option Ax:=
 cond (decide (t9<t10))
  (let x2:Int:=A6 ((IntKind.wrap .u64 (A6 (t9+t10))).fdiv (2^1))
  if(0:Int)≤x2∧x2<(t0.length:Int)then(
  (Hc ((t0.getD (x2.toNat) (0,[],false,())).1,(t0.getD (x2.toNat) (0,[],false,())).2.1,(t0.getD (x2.toNat) (0,[],false,())).2.2.1,()) t1).bind fun u3=>
  cond (decide (u3.1.1<0))
   (R3 t0 t1 t8 (A6 (x2+1)) t10)
  (R3 t0 t1 t8 t9 x2))else none)
 (cond (decide (t9<t8))
  (if(0:Int)≤t9∧t9<(t0.length:Int)then(
  (Hc ((t0.getD (t9.toNat) (0,[],false,())).1,(t0.getD (t9.toNat) (0,[],false,())).2.1,(t0.getD (t9.toNat) (0,[],false,())).2.2.1,()) t1).bind fun u4=>
  some (((t9,u4.1.1==0,()),()),()))else none)
 (some (((t9,false,()),()),())))
def Ae:Nat→BI
 |0=>fun _ _ _ _ _=>none
 |n+1=>Bm (Ae n)
def Bn(R3:BI)(p0:AAJ)(p1:Int):Option Ax:=
 R3 p0 p1 (p0.length:Int) 0 (p0.length:Int)
def A0(p0:AAJ)(p1:Int):Option Ax:=Bn (Ae Aq) p0 p1
abbrev OZ:Type:=ADY×Unit
def DH(p0:ABH)(p1:Int):Option OZ:=
 (A0 p0.2.2.2.2.2.2.2.2.2.1 p1).bind fun u1=>
 some (((u1.1.1.1,u1.1.1.2.1,()),()),())
abbrev F5:Type:=ABW×(Unit×AAJ×Unit)
def C9(p1:Int)(p2 b0:AAJ):Option F5:=(iD p1 p2 b0).map fun l=>(((),()),((),l,()))
abbrev Ri:Type:=ABV×(AC1×List Int×AAN×List Int×AAS×AAX×AAw×AA2×Unit×AAJ×Unit)
def Hz(p1:Int)(p2:List UInt8)(AJ AS:Int)(AK:Bool)(b1:AAG)(b2:AAN)(b3:AAG)(b4:AAS)(b5:AAX)(b6:AAw)(b7:AA2)(b8:AAJ):Option Ri:=
 (Aj p1 0 (A6 ((b5.length:Int)-1))).bind fun u2=>
 cond (!u2.1.1)
  (some ((2,()),(((),AJ,(),(),(),AS,(),(),(),(),AK,()),b1,b2,b3,b4,b5,b6,b7,(),b8,())))
 (if(0:Int)≤p1∧p1<(b5.length:Int)then(
 (GR (b1,AJ,()) ((b5.getD (p1.toNat) (0,[],())).1,(b5.getD (p1.toNat) (0,[],())).2.1,()) p2).bind fun u3=>
 (CV u3.1.1.1.1 u3.1.1.2.1).bind fun u4=>
 (DH (b1,AJ,b2,b3,b4,AS,b5,b6,b7,b8,AK,()) u4.1.1.1).bind fun u5=>
 cond (!u3.1.1.2.2.1)
  (some ((4,()),(((),AJ,(),(),(),AS,(),(),(),(),AK,()),b1,b2,b3,b4,b5,b6,b7,(),b8,())))
 (cond (((b8.length:Int)==120))
  (some ((4,()),(((),AJ,(),(),(),AS,(),(),(),(),AK,()),b1,b2,b3,b4,b5,b6,b7,(),b8,())))
 (cond (u5.1.1.2.1)
  (some ((4,()),(((),AJ,(),(),(),AS,(),(),(),(),AK,()),b1,b2,b3,b4,b5,b6,b7,(),b8,())))
 (if(0:Int)≤p1∧p1<(b5.length:Int)then(
 (C9 u5.1.1.1 [(u4.1.1.1,p2,false,())] b8).bind fun u8=>
 some ((0,()),(((),AJ,(),(),(),AS,(),(),(),(),AK,()),b1,b2,b3,b4,(b5.set (p1.toNat) (u3.1.1.1.1,u3.2.1,())),b6,b7,(),u8.2.2.1,())))else none))))else none)
abbrev TP:Type:=ABV×Unit
def DC(p0:ABH)(p1:Int):Option TP:=
 (Aj p1 0 (A6 ((p0.2.2.1.length:Int)-1))).bind fun u2=>
 cond (!u2.1.1)
  (some ((2,()),()))
 ((CA p0 p1).bind fun u3=>
 cond (u3.1.1)
  (some ((3,()),()))
 (some ((0,()),())))
abbrev TJ:Type:=ABW×ACQ
def Ex(p0:ACX)(p1:Int):Option TJ:=
 (Aj p1 1 (p0.1.length:Int)).bind fun u1=>
 cond (!u1.1.1)
  (some (((),()),([],())))
 (if(0:Int)≤A6 (p1-1)∧A6 (p1-1)<(p0.1.length:Int)then(
 (CL ((p0.1.getD ((A6 (p1-1)).toNat) ([],false,0,())).1)).bind fun u2=>
 some (((),()),(u2.2.1,())))else none)
abbrev FR:Type:=ABV×Unit
def Cg(p0:ABH)(p1 p2:Int):Option FR:=
 (DC p0 p1).bind fun u1=>
 cond (u1.1.1==0)
  ((Ex (p0.2.2.2.2.1,p0.2.2.2.2.2.1,()) p2).bind fun u2=>
  (BH u2.2.1 p1).bind fun u3=>
  cond (!u3.1.1)
   (some ((2,()),()))
  (some ((u1.1.1,()),())))
 (some ((u1.1.1,()),()))
abbrev WR:Type:=(ADl×Unit)×ADV
def Ci(p0:ACS):Option WR:=
 (Dn (p0.1,p0.2.1,p0.2.2.1,())).bind fun u1=>
 cond (!u1.1.1)
  (some ((((),(),0,()),()),([],[],())))
 ((CG (p0.1,p0.2.1,p0.2.2.1,())).bind fun u2=>
 some ((((),(),u2.1.1.2.2.1,()),()),(u2.2.1,u2.2.2.1,())))
abbrev ZB:Type:=ADS×ADV
def NV(p0:ACS)(p1:ACs):Option ZB:=
 (Dn (p0.1,p0.2.1,p0.2.2.1,())).bind fun u1=>
 cond (!u1.1.1)
  ((Ci (p0.1,p0.2.1,p0.2.2.1,())).bind fun u2=>
  some (((((),(),u2.1.1.2.2.1,()),false,()),()),(u2.2.1,u2.2.2.1,())))
 ((Ie (p1.1,p1.2.1,p1.2.2.1,p1.2.2.2.1,())).bind fun u3=>
 cond (!u3.1.1)
  ((Ci (p0.1,p0.2.1,p0.2.2.1,())).bind fun u4=>
  some (((((),(),u4.1.1.2.2.1,()),false,()),()),(u4.2.1,u4.2.2.1,())))
 (cond ((p0.2.1.length:Int)==20)
  ((Ci (p0.1,p0.2.1,p0.2.2.1,())).bind fun u6=>
  some (((((),(),u6.1.1.2.2.1,()),false,()),()),(u6.2.1,u6.2.2.1,())))
 (cond (p1.2.1==0)
  ((Dj p1.1).bind fun u7=>
  cond ((decide (u7.1.1≤p0.2.2.1)))
   ((CG (p0.1,p0.2.1,p0.2.2.1,())).bind fun u9=>
   some (((((),(),u9.1.1.2.2.1,()),false,()),()),(u9.2.1,u9.2.2.1,())))
  (cond (decide (p1.2.1>0))
   (cond ((decide (p1.2.1≤p0.2.2.1)))
    ((CG (p0.1,p0.2.1,p0.2.2.1,())).bind fun Rk=>
    some (((((),(),Rk.1.1.2.2.1,()),false,()),()),(Rk.2.1,Rk.2.2.1,())))
   ((CG (p0.1,p0.2.1,p0.2.2.1,())).bind fun Q4=>
   if Q4.2.2.1.length+1≤IQ then(
   some (((((),(),Q4.1.1.2.2.1,()),true,()),()),(Q4.2.1,(Q4.2.2.1++[(p1.1,p1.2.1,p1.2.2.1,p1.2.2.2.1,())]),())))else none))
  ((CG (p0.1,p0.2.1,p0.2.2.1,())).bind fun cK=>
  if cK.2.2.1.length+1≤IQ then(
  some (((((),(),cK.1.1.2.2.1,()),true,()),()),(cK.2.1,(cK.2.2.1++[(p1.1,p1.2.1,p1.2.2.1,p1.2.2.2.1,())]),())))else none)))
 (cond (decide (p1.2.1>0))
  (cond ((decide (p1.2.1≤p0.2.2.1)))
   ((CG (p0.1,p0.2.1,p0.2.2.1,())).bind fun dw=>
   some (((((),(),dw.1.1.2.2.1,()),false,()),()),(dw.2.1,dw.2.2.1,())))
  ((CG (p0.1,p0.2.1,p0.2.2.1,())).bind fun x_=>
  if x_.2.2.1.length+1≤IQ then(
  some (((((),(),x_.1.1.2.2.1,()),true,()),()),(x_.2.1,(x_.2.2.1++[(p1.1,p1.2.1,p1.2.2.1,p1.2.2.2.1,())]),())))else none))
 ((CG (p0.1,p0.2.1,p0.2.2.1,())).bind fun V7=>
 if V7.2.2.1.length+1≤IQ then(
 some (((((),(),V7.1.1.2.2.1,()),true,()),()),(V7.2.1,(V7.2.2.1++[(p1.1,p1.2.1,p1.2.2.1,p1.2.2.2.1,())]),())))else none)))))
abbrev UR:Type:=ABV×Unit
def Gt(p0:Bool):Option UR:=
 cond (p0)
  (some ((0,()),()))
 (some ((4,()),()))
abbrev Rw:Type:=ABV×ADC
def Hw(p1:Int)(p2:ACs)(AJ AS:Int)(AK:Bool)(b1:AAG)(b2:AAN)(b3:AAG)(b4:AAS)(b5:AAX)(b6:AAw)(b7:AA2)(b8:AAJ):Option Rw:=
 if(0:Int)≤p1∧p1<(b2.length:Int)then(
 (NV ((b2.getD (p1.toNat) ([],[],0,())).1,(b2.getD (p1.toNat) ([],[],0,())).2.1,(b2.getD (p1.toNat) ([],[],0,())).2.2.1,()) (p2.1,p2.2.1,p2.2.2.1,p2.2.2.2.1,())).bind fun u1=>
 cond (u1.1.1.2.1)
  (if(0:Int)≤p1∧p1<(b2.length:Int)then(
  (Gt u1.1.1.2.1).bind fun u3=>
  some ((u3.1.1,()),(((),AJ,(),(),(),AS,(),(),(),(),AK,()),b1,(b2.set (p1.toNat) (u1.2.1,u1.2.2.1,u1.1.1.1.2.2.1,())),b3,b4,b5,b6,b7,b8,())))else none)
 ((Gt u1.1.1.2.1).bind fun u4=>
 some ((u4.1.1,()),(((),AJ,(),(),(),AS,(),(),(),(),AK,()),b1,b2,b3,b4,b5,b6,b7,b8,()))))else none
abbrev VS:Type:=ABV×ADC
def F9(p1:ADU)(AJ AS:Int)(AK:Bool)(b1:AAG)(b2:AAN)(b3:AAG)(b4:AAS)(b5:AAX)(b6:AAw)(b7:AA2)(b8:AAJ):Option VS:=
 (Aj p1.2.1 0 (A6 ((b5.length:Int)-1))).bind fun u2=>
 cond (!u2.1.1)
  (some ((2,()),(((),AJ,(),(),(),AS,(),(),(),(),AK,()),b1,b2,b3,b4,b5,b6,b7,b8,())))
 (if(0:Int)≤p1.2.1∧p1.2.1<(b5.length:Int)then(
 (Aj p1.2.2.1 1 (((b5.getD (p1.2.1.toNat) (0,[],())).2.1).length:Int)).bind fun u4=>
 cond (!u4.1.1)
  (some ((2,()),(((),AJ,(),(),(),AS,(),(),(),(),AK,()),b1,b2,b3,b4,b5,b6,b7,b8,())))
 ((Cg (b1,AJ,b2,b3,b4,AS,b5,b6,b7,b8,AK,()) p1.2.2.2.1 ((b5.getD (p1.2.1.toNat) (0,[],())).1)).bind fun u6=>
 cond (u6.1.1 !=0)
  (some ((u6.1.1,()),(((),AJ,(),(),(),AS,(),(),(),(),AK,()),b1,b2,b3,b4,b5,b6,b7,b8,())))
 ((CV ((b5.getD (p1.2.1.toNat) (0,[],())).1) p1.2.2.1).bind fun u8=>
 if(0:Int)≤A6 (p1.2.2.1-1)∧A6 (p1.2.2.1-1)<(((b5.getD (p1.2.1.toNat) (0,[],())).2.1).length:Int)then(
 (Hw p1.2.2.2.1 (u8.1.1.1,0,false,((((b5.getD (p1.2.1.toNat) (0,[],())).2.1).getD ((A6 (p1.2.2.1-1)).toNat) ([],[],false,())).1),()) AJ AS AK b1 b2 b3 b4 b5 b6 b7 b8).bind fun Io=>
 some ((Io.1.1,()),(((),Io.2.1.2.1,(),(),(),Io.2.1.2.2.2.2.2.1,(),(),(),(),Io.2.1.2.2.2.2.2.2.2.2.2.2.1,()),Io.2.2.1,Io.2.2.2.1,Io.2.2.2.2.1,Io.2.2.2.2.2.1,Io.2.2.2.2.2.2.1,Io.2.2.2.2.2.2.2.1,Io.2.2.2.2.2.2.2.2.1,Io.2.2.2.2.2.2.2.2.2.1,())))else none)))else none)
abbrev KJ:Type:=ABW×ADs
def Cn(p1:Int)(p2 b0:AA5):Option KJ:=(iD p1 p2 b0).map fun l=>(((),()),((),l,()))
abbrev iM:Type:=ABW×ADs
def O9(p1:ACs)(b0:AA5):Option iM:=
 (MK b0 p1.1).bind fun u1=>
 cond (!u1.1.1.2.1)
  ((Cn u1.1.1.1 [(p1.1,p1.2.1,p1.2.2.1,p1.2.2.2.1,())] b0).bind fun u2=>
  some (((),()),((),u2.2.2.1,())))
 (if(0:Int)≤u1.1.1.1∧u1.1.1.1<(b0.length:Int)then(
 (LP ((b0.getD (u1.1.1.1.toNat) (0,0,false,[],())).1,(b0.getD (u1.1.1.1.toNat) (0,0,false,[],())).2.1,(b0.getD (u1.1.1.1.toNat) (0,0,false,[],())).2.2.1,(b0.getD (u1.1.1.1.toNat) (0,0,false,[],())).2.2.2.1,()) (p1.1,p1.2.1,p1.2.2.1,p1.2.2.2.1,())).bind fun u3=>
 if(0:Int)≤u1.1.1.1∧u1.1.1.1<(b0.length:Int)then(
 some (((),()),((),(b0.set (u1.1.1.1.toNat) (u3.1.1.1,u3.1.1.2.1,u3.1.1.2.2.1,u3.1.1.2.2.2.1,())),())))else none)else none)
abbrev JR:Type:=ADS×ADV
abbrev LG:Type:=Int→AA5→Int→Int→AA5→AA5→Int→Int→AA5→AA5→Int→AA5→AA5→Option JR
def Mh(R6:LG)(t1:Int)(t23:AA5)(t24 t25:Int)(BF AJ:AA5)(EE Kp:Int)(b2 b3:AA5)(yd:Int)(b5 b6:AA5):Option JR:=
 cond (decide (t25<t24))
  (if(0:Int)≤t25∧t25<(t23.length:Int)then(
  if t25<0 then none else(
  cond (((ZY .i64 (t1.fdiv (2^(min t25.toNat 64))) 1)==1))
   ((O9 ((t23.getD (t25.toNat) (0,0,false,[],())).1,(t23.getD (t25.toNat) (0,0,false,[],())).2.1,(t23.getD (t25.toNat) (0,0,false,[],())).2.2.1,(t23.getD (t25.toNat) (0,0,false,[],())).2.2.2.1,()) b5).bind fun u9=>
   R6 t1 t23 t24 (A6 (t25+1)) BF AJ EE Kp b2 b3 yd u9.2.2.1 b6)
  (R6 t1 t23 t24 (A6 (t25+1)) BF AJ EE Kp b2 b3 yd b5 b6)))else none)
 (cond ((decide ((b5.length:Int)>200)))
  ((CG (BF,AJ,EE,())).bind fun Rk=>
  some (((((),(),Rk.1.1.2.2.1,()),false,()),()),(Rk.2.1,Rk.2.2.1,())))
 (some (((((),(),yd,()),true,()),()),(b5,b6,()))))
def GL:Nat→LG
 |0=>fun _ _ _ _ _ _ _ _ _ _ _ _ _=>none
 |n+1=>Mh (GL n)
def Ml(R6:LG)(p0:ACS)(p1:Int):Option JR:=
 (Dn (p0.1,p0.2.1,p0.2.2.1,())).bind fun u1=>
 cond (!u1.1.1)
  ((Ci (p0.1,p0.2.1,p0.2.2.1,())).bind fun u2=>
  some (((((),(),u2.1.1.2.2.1,()),false,()),()),(u2.2.1,u2.2.2.1,())))
 ((Aj p1 0 1048575).bind fun u3=>
 cond (!u3.1.1)
  ((Ci (p0.1,p0.2.1,p0.2.2.1,())).bind fun u4=>
  some (((((),(),u4.1.1.2.2.1,()),false,()),()),(u4.2.1,u4.2.2.1,())))
 ((CG (p0.1,p0.2.1,p0.2.2.1,())).bind fun u5=>
 R6 p1 p0.2.1 (p0.2.1.length:Int) 0 p0.1 p0.2.1 p0.2.2.1 0 [] [] u5.1.1.2.2.1 u5.2.1 []))
def Ip(p0:ACS)(p1:Int):Option JR:=Ml (GL Aq) p0 p1
abbrev Xn:Type:=ADS×ADV
def J0(p0:ACS):Option Xn:=
 (Ip (p0.1,p0.2.1,p0.2.2.1,()) 1048575).bind fun u1=>
 some (((((),(),u1.1.1.1.2.2.1,()),u1.1.1.2.1,()),()),(u1.2.1,u1.2.2.1,()))
abbrev ZV:Type:=ABS×Unit
def cmp_isNaN_int(p0:Int):Option ZV:=
 some ((p0 !=p0,()),())
abbrev aS:Type:=ABS×Unit
def cmp_Less_int(p0 p1:Int):Option aS:=
 (cmp_isNaN_int p0).bind fun u1=>
 cond (u1.1.1)
  ((cmp_isNaN_int p1).bind fun u2=>
  cond (!u2.1.1)
   (some ((true,()),()))
  (some ((decide (p0<p1),()),())))
 (some ((decide (p0<p1),()),()))
abbrev Vs:Type:=ABS×Unit
def KO(p0:Int):Option Vs:=
 some ((p0 !=p0,()),())
abbrev Dy:Type:=ADY×Unit
abbrev Eu:Type:=List Int→Int→Int→Int→Int→Option Dy
def Gg(R3:Eu)(t0:AAG)(t1 t6 t7 t8:Int):Option Dy:=
 cond (decide (t7<t8))
  (let x2:Int:=A6 ((IntKind.wrap .u64 (A6 (t7+t8))).fdiv (2^1))
  if(0:Int)≤x2∧x2<(t0.length:Int)then(
  (cmp_Less_int (t0.getD (x2.toNat) 0) t1).bind fun u4=>
  cond (u4.1.1)
   (R3 t0 t1 t6 (A6 (x2+1)) t8)
  (R3 t0 t1 t6 t7 x2))else none)
 (cond (decide (t7<t6))
  (if(0:Int)≤t7∧t7<(t0.length:Int)then(
  cond ((t0.getD (t7.toNat) 0)==t1)
   (some (((t7,true,()),()),()))
  (if(0:Int)≤t7∧t7<(t0.length:Int)then(
  (KO (t0.getD (t7.toNat) 0)).bind fun u7=>
  cond (u7.1.1)
   ((KO t1).bind fun u8=>
   some (((t7,u8.1.1,()),()),()))
  (some (((t7,false,()),()),())))else none))else none)
 (some (((t7,false,()),()),())))
def Cj:Nat→Eu
 |0=>fun _ _ _ _ _=>none
 |n+1=>Gg (Cj n)
def Gi(R3:Eu)(p0:AAG)(p1:Int):Option Dy:=
 R3 p0 p1 (p0.length:Int) 0 (p0.length:Int)
def ER(p0:AAG)(p1:Int):Option Dy:=Gi (Cj Aq) p0 p1
abbrev Rf:Type:=ABW×ADj
def Ge(p1:Int)(p2 b0:AAG):Option Rf:=(iD p1 p2 b0).map fun l=>(((),()),((),l,()))
abbrev ZM:Type:=ABW×ACQ
def HM(p0:AAG)(p1:Int):Option ZM:=
 (CL p0).bind fun u1=>
 (ER u1.2.1 p1).bind fun u2=>
 cond (!u2.1.1.2.1)
  ((Ge u2.1.1.1 [p1] u1.2.1).bind fun u3=>
  some (((),()),(u3.2.2.1,())))
 (some (((),()),(u1.2.1,())))
abbrev Xh:Type:=ADt×ADb
def MQ(p0:AA8)(p1:ACe)(p2 p3:Int):Option Xh:=
 (EU (p0.1,p0.2.1,()) (p1.1,p1.2.1,())).bind fun u1=>
 cond (!u1.1.1)
  ((DA (p0.1,p0.2.1,()) (p1.1,p1.2.1,())).bind fun u2=>
  some ((((u2.1.1.1,(),()),false,()),()),(u2.2.1,())))
 ((Aj p2 1 (p1.2.1.length:Int)).bind fun u4=>
 cond (!u4.1.1)
  ((DA (p0.1,p0.2.1,()) (p1.1,p1.2.1,())).bind fun u5=>
  some ((((u5.1.1.1,(),()),false,()),()),(u5.2.1,())))
 (if(0:Int)≤A6 (p2-1)∧A6 (p2-1)<(p1.2.1.length:Int)then(
 cond (((p1.2.1.getD ((A6 (p2-1)).toNat) ([],[],false,())).2.2.1))
  ((DA (p0.1,p0.2.1,()) (p1.1,p1.2.1,())).bind fun u7=>
  some ((((u7.1.1.1,(),()),false,()),()),(u7.2.1,())))
 ((Aj p3 0 (A6 ((p0.1.length:Int)-1))).bind fun u9=>
 cond (!u9.1.1)
  ((DA (p0.1,p0.2.1,()) (p1.1,p1.2.1,())).bind fun Io=>
  some ((((Io.1.1.1,(),()),false,()),()),(Io.2.1,())))
 ((D_ (p1.1,p1.2.1,())).bind fun Rk=>
 if(0:Int)≤A6 (p2-1)∧A6 (p2-1)<(Rk.2.1.length:Int)then(
 (HM ((Rk.2.1.getD ((A6 (p2-1)).toNat) ([],[],false,())).2.1) p3).bind fun Q4=>
 let x13:AB7:=(Rk.2.1.set ((A6 (p2-1)).toNat) ((Rk.2.1.getD ((A6 (p2-1)).toNat) ([],[],false,())).1,Q4.2.1,(Rk.2.1.getD ((A6 (p2-1)).toNat) ([],[],false,())).2.2.1,()))
 (DT (p0.1,p0.2.1,()) ((x13.getD ((A6 (p2-1)).toNat) ([],[],false,())).2.1)).bind fun cK=>
 some ((((Rk.1.1.1,(),()),true,()),()),((x13.set ((A6 (p2-1)).toNat) ((x13.getD ((A6 (p2-1)).toNat) ([],[],false,())).1,(x13.getD ((A6 (p2-1)).toNat) ([],[],false,())).2.1,cK.1.1,())),())))else none)))else none))
abbrev EJ:Type:=ABW×ADC
abbrev HP:Type:=Int→Int→Int→Int→Int→Bool→List Int→AAN→List Int→AAS→AAX→AAw→AA2→AAJ→Option EJ
def Fv(R1:HP)(t1 t2 t6 AJ AS:Int)(AK:Bool)(b1:AAG)(b2:AAN)(b3:AAG)(b4:AAS)(b5:AAX)(b6:AAw)(b7:AA2)(b8:AAJ):Option EJ:=
 if(0:Int)≤t1∧t1<(b5.length:Int)then(
 cond (decide (t6≤(((b5.getD (t1.toNat) (0,[],())).2.1).length:Int)))
  (if(0:Int)≤t1∧t1<(b5.length:Int)then(
  (CV ((b5.getD (t1.toNat) (0,[],())).1) t6).bind fun u3=>
  if(0:Int)≤t2∧t2<(b2.length:Int)then(
  (EV ((b2.getD (t2.toNat) ([],[],0,())).1,(b2.getD (t2.toNat) ([],[],0,())).2.1,(b2.getD (t2.toNat) ([],[],0,())).2.2.1,()) u3.1.1.1).bind fun u4=>
  if(0:Int)≤t1∧t1<(b5.length:Int)then(
  if(0:Int)≤A6 (t6-1)∧A6 (t6-1)<(((b5.getD (t1.toNat) (0,[],())).2.1).length:Int)then(
  cond (((((b5.getD (t1.toNat) (0,[],())).2.1).getD ((A6 (t6-1)).toNat) ([],[],false,())).2.2.1))
   (R1 t1 t2 (A6 (t6+1)) AJ AS AK b1 b2 b3 b4 b5 b6 b7 b8)
  (cond (!u4.1.1.2.1)
   (R1 t1 t2 (A6 (t6+1)) AJ AS AK b1 b2 b3 b4 b5 b6 b7 b8)
  (cond (u4.1.1.1.2.1 !=0)
   (R1 t1 t2 (A6 (t6+1)) AJ AS AK b1 b2 b3 b4 b5 b6 b7 b8)
  (if(0:Int)≤t1∧t1<(b5.length:Int)then(
  (MQ (b1,AJ,()) ((b5.getD (t1.toNat) (0,[],())).1,(b5.getD (t1.toNat) (0,[],())).2.1,()) t6 t2).bind fun u6=>
  if(0:Int)≤t1∧t1<(b5.length:Int)then(
  let x7:AAX:=(b5.set (t1.toNat) (u6.1.1.1.1,u6.2.1,()))
  (DH (b1,AJ,b2,b3,b4,AS,x7,b6,b7,b8,AK,()) u3.1.1.1).bind fun u8=>
  cond (u8.1.1.2.1)
   (if(0:Int)≤t1∧t1<(x7.length:Int)then(
   if(0:Int)≤A6 (t6-1)∧A6 (t6-1)<(((x7.getD (t1.toNat) (0,[],())).2.1).length:Int)then(
   cond (((((x7.getD (t1.toNat) (0,[],())).2.1).getD ((A6 (t6-1)).toNat) ([],[],false,())).2.2.1))
    (if(0:Int)≤u8.1.1.1∧u8.1.1.1<(b8.length:Int)then(
    R1 t1 t2 (A6 (t6+1)) AJ AS AK b1 b2 b3 b4 x7 b6 b7 (b8.set (u8.1.1.1.toNat) ((b8.getD (u8.1.1.1.toNat) (0,[],false,())).1,(b8.getD (u8.1.1.1.toNat) (0,[],false,())).2.1,true,())))else none)
   (R1 t1 t2 (A6 (t6+1)) AJ AS AK b1 b2 b3 b4 x7 b6 b7 b8))else none)else none)
  (R1 t1 t2 (A6 (t6+1)) AJ AS AK b1 b2 b3 b4 x7 b6 b7 b8))else none)else none))))else none)else none)else none)else none)
 (some (((()),()),(((),AJ,(),(),(),AS,(),(),(),(),AK,()),b1,b2,b3,b4,b5,b6,b7,b8,()))))else none
def B9:Nat→HP
 |0=>fun _ _ _ _ _ _ _ _ _ _ _ _ _ _=>none
 |n+1=>Fv (B9 n)
def JW(R1:HP)(p1 p2 AJ AS:Int)(AK:Bool)(b1:AAG)(b2:AAN)(b3:AAG)(b4:AAS)(b5:AAX)(b6:AAw)(b7:AA2)(b8:AAJ):Option EJ:=
 R1 p1 p2 1 AJ AS AK b1 b2 b3 b4 b5 b6 b7 b8
def JJ(p1 p2 AJ AS:Int)(AK:Bool)(b1:AAG)(b2:AAN)(b3:AAG)(b4:AAS)(b5:AAX)(b6:AAw)(b7:AA2)(b8:AAJ):Option EJ:=JW (B9 Aq) p1 p2 AJ AS AK b1 b2 b3 b4 b5 b6 b7 b8
abbrev F_:Type:=ADn×Unit
abbrev Ln:Type:=Int→AA5→Int→Int→Int→Int→List Int→AA5→Bool→List AAG→Int→Int→Bool→List UInt8→Option F_
def N4(R5:Ln)(t6:Int)(t33:AA5)(t34 t35 BF AJ:Int)(EE:AAG)(IC:AA5)(Ix:Bool)(AS:List AAG)(IP Ey:Int)(Kp:Bool)(Ol:List UInt8):Option F_:=
 cond (decide (t35<t34))
  (if(0:Int)≤t35∧t35<(t33.length:Int)then(
  cond (((t33.getD (t35.toNat) (0,0,false,[],())).1)==t6)
   (some ((((t6,BF,((t33.getD (t35.toNat) (0,0,false,[],())).2.2.1),((t33.getD (t35.toNat) (0,0,false,[],())).2.2.2.1),()),true,()),()),()))
  (R5 t6 t33 t34 (A6 (t35+1)) BF AJ EE IC Ix AS IP Ey Kp Ol))else none)
 (some ((((t6,BF,true,[],()),true,()),()),()))
def HD:Nat→Ln
 |0=>fun _ _ _ _ _ _ _ _ _ _ _ _ _ _=>none
 |n+1=>N4 (HD n)
def Ni(R5:Ln)(p0:ABj)(p1:Int):Option F_:=
 (CV p0.2.1 p1).bind fun u1=>
 cond (!u1.1.1.2.1)
  (some ((((0,0,false,[],()),false,()),()),()))
 (cond (!p0.2.2.2.2.1)
  (some ((((0,0,false,[],()),false,()),()),()))
 (cond (decide (p1>(p0.2.2.2.2.2.1.length:Int)))
  (some ((((0,0,false,[],()),false,()),()),()))
 (R5 u1.1.1.1 p0.2.2.2.1 (p0.2.2.2.1.length:Int) 0 p0.1 p0.2.1 p0.2.2.1 p0.2.2.2.1 p0.2.2.2.2.1 p0.2.2.2.2.2.1 0 0 false [])))
def GK(p0:ABj)(p1:Int):Option F_:=Ni (HD Aq) p0 p1
abbrev Xz:Type:=ADm×ADW
def DX(p0:AA8)(p1:ABj):Option Xz:=
 (FB (p0.1,p0.2.1,()) (p1.1,p1.2.1,p1.2.2.1,p1.2.2.2.1,p1.2.2.2.2.1,p1.2.2.2.2.2.1,())).bind fun u1=>
 cond (!u1.1.1)
  (some (((0,0,(),(),false,(),()),()),([],[],[],())))
 ((ET (p1.1,p1.2.1,p1.2.2.1,p1.2.2.2.1,p1.2.2.2.2.1,p1.2.2.2.2.2.1,())).bind fun u2=>
 some (((u2.1.1.1,u2.1.1.2.1,(),(),u2.1.1.2.2.2.2.1,(),()),()),(u2.2.1,u2.2.2.1,u2.2.2.2.1,())))
abbrev PQ:Type:=ADc×ADW
def KG(p0:AA8)(p1:ABj)(p2 p3:Int):Option PQ:=
 (FB (p0.1,p0.2.1,()) (p1.1,p1.2.1,p1.2.2.1,p1.2.2.2.1,p1.2.2.2.2.1,p1.2.2.2.2.2.1,())).bind fun u1=>
 cond (!u1.1.1)
  ((DX (p0.1,p0.2.1,()) (p1.1,p1.2.1,p1.2.2.1,p1.2.2.2.1,p1.2.2.2.2.1,p1.2.2.2.2.2.1,())).bind fun u2=>
  some ((((u2.1.1.1,u2.1.1.2.1,(),(),u2.1.1.2.2.2.2.1,(),()),false,()),()),(u2.2.1,u2.2.2.1,u2.2.2.2.1,())))
 ((Aj p2 1 (p1.2.2.2.2.2.1.length:Int)).bind fun u4=>
 cond (!u4.1.1)
  ((DX (p0.1,p0.2.1,()) (p1.1,p1.2.1,p1.2.2.1,p1.2.2.2.1,p1.2.2.2.2.1,p1.2.2.2.2.2.1,())).bind fun u5=>
  some ((((u5.1.1.1,u5.1.1.2.1,(),(),u5.1.1.2.2.2.2.1,(),()),false,()),()),(u5.2.1,u5.2.2.1,u5.2.2.2.1,())))
 ((Aj p3 0 (A6 ((p0.1.length:Int)-1))).bind fun u7=>
 cond (!u7.1.1)
  ((DX (p0.1,p0.2.1,()) (p1.1,p1.2.1,p1.2.2.1,p1.2.2.2.1,p1.2.2.2.2.1,p1.2.2.2.2.2.1,())).bind fun u8=>
  some ((((u8.1.1.1,u8.1.1.2.1,(),(),u8.1.1.2.2.2.2.1,(),()),false,()),()),(u8.2.1,u8.2.2.1,u8.2.2.2.1,())))
 ((ET (p1.1,p1.2.1,p1.2.2.1,p1.2.2.2.1,p1.2.2.2.2.1,p1.2.2.2.2.2.1,())).bind fun u9=>
 if(0:Int)≤A6 (p2-1)∧A6 (p2-1)<(u9.2.2.2.1.length:Int)then(
 (HM (u9.2.2.2.1.getD ((A6 (p2-1)).toNat) []) p3).bind fun Io=>
 if(0:Int)≤A6 (p2-1)∧A6 (p2-1)<(u9.2.2.2.1.length:Int)then(
 some ((((u9.1.1.1,u9.1.1.2.1,(),(),u9.1.1.2.2.2.2.1,(),()),true,()),()),(u9.2.1,u9.2.2.1,(u9.2.2.2.1.set ((A6 (p2-1)).toNat) Io.2.1),())))else none)else none)))
abbrev Gc:Type:=ABW×ADC
abbrev Im:Type:=Int→Int→Int→Int→Int→Bool→List Int→AAN→List Int→AAS→AAX→AAw→AA2→AAJ→Option Gc
def Ej(R1:Im)(t1 t2 t6 AJ AS:Int)(AK:Bool)(b1:AAG)(b2:AAN)(b3:AAG)(b4:AAS)(b5:AAX)(b6:AAw)(b7:AA2)(b8:AAJ):Option Gc:=
 if(0:Int)≤t1∧t1<(b6.length:Int)then(
 cond (decide (t6≤(((b6.getD (t1.toNat) (0,0,[],[],false,[],())).2.2.2.2.2.1).length:Int)))
  (if(0:Int)≤t1∧t1<(b6.length:Int)then(
  (GK ((b6.getD (t1.toNat) (0,0,[],[],false,[],())).1,(b6.getD (t1.toNat) (0,0,[],[],false,[],())).2.1,(b6.getD (t1.toNat) (0,0,[],[],false,[],())).2.2.1,(b6.getD (t1.toNat) (0,0,[],[],false,[],())).2.2.2.1,(b6.getD (t1.toNat) (0,0,[],[],false,[],())).2.2.2.2.1,(b6.getD (t1.toNat) (0,0,[],[],false,[],())).2.2.2.2.2.1,()) t6).bind fun u2=>
  if(0:Int)≤t2∧t2<(b2.length:Int)then(
  (EV ((b2.getD (t2.toNat) ([],[],0,())).1,(b2.getD (t2.toNat) ([],[],0,())).2.1,(b2.getD (t2.toNat) ([],[],0,())).2.2.1,()) u2.1.1.1.1).bind fun u3=>
  cond (u2.1.1.2.1)
   (cond (u3.1.1.2.1)
    (cond (((u3.1.1.1.1==u2.1.1.1.1)&&((u3.1.1.1.2.1==u2.1.1.1.2.1)&&((u3.1.1.1.2.2.1==u2.1.1.1.2.2.1)&&((u3.1.1.1.2.2.2.1==u2.1.1.1.2.2.2.1)&&true)))))
     (if(0:Int)≤t1∧t1<(b6.length:Int)then(
     (KG (b1,AJ,()) ((b6.getD (t1.toNat) (0,0,[],[],false,[],())).1,(b6.getD (t1.toNat) (0,0,[],[],false,[],())).2.1,(b6.getD (t1.toNat) (0,0,[],[],false,[],())).2.2.1,(b6.getD (t1.toNat) (0,0,[],[],false,[],())).2.2.2.1,(b6.getD (t1.toNat) (0,0,[],[],false,[],())).2.2.2.2.1,(b6.getD (t1.toNat) (0,0,[],[],false,[],())).2.2.2.2.2.1,()) t6 t2).bind fun u5=>
     if(0:Int)≤t1∧t1<(b6.length:Int)then(
     R1 t1 t2 (A6 (t6+1)) AJ AS AK b1 b2 b3 b4 b5 (b6.set (t1.toNat) (u5.1.1.1.1,u5.1.1.1.2.1,u5.2.1,u5.2.2.1,u5.1.1.1.2.2.2.2.1,u5.2.2.2.1,())) b7 b8)else none)else none)
    (R1 t1 t2 (A6 (t6+1)) AJ AS AK b1 b2 b3 b4 b5 b6 b7 b8))
   (R1 t1 t2 (A6 (t6+1)) AJ AS AK b1 b2 b3 b4 b5 b6 b7 b8))
  (R1 t1 t2 (A6 (t6+1)) AJ AS AK b1 b2 b3 b4 b5 b6 b7 b8))else none)else none)
 (some (((()),()),(((),AJ,(),(),(),AS,(),(),(),(),AK,()),b1,b2,b3,b4,b5,b6,b7,b8,()))))else none
def A5:Nat→Im
 |0=>fun _ _ _ _ _ _ _ _ _ _ _ _ _ _=>none
 |n+1=>Ej (A5 n)
def Gm(R1:Im)(p1 p2 AJ AS:Int)(AK:Bool)(b1:AAG)(b2:AAN)(b3:AAG)(b4:AAS)(b5:AAX)(b6:AAw)(b7:AA2)(b8:AAJ):Option Gc:=
 R1 p1 p2 1 AJ AS AK b1 b2 b3 b4 b5 b6 b7 b8
def Ha(p1 p2 AJ AS:Int)(AK:Bool)(b1:AAG)(b2:AAN)(b3:AAG)(b4:AAS)(b5:AAX)(b6:AAw)(b7:AA2)(b8:AAJ):Option Gc:=Gm (A5 Aq) p1 p2 AJ AS AK b1 b2 b3 b4 b5 b6 b7 b8
abbrev FT:Type:=ABV×ADC
abbrev Ig:Type:=Int→Int→Int→Int→Int→Bool→List Int→AAN→List Int→AAS→AAX→AAw→AA2→AAJ→Int→Option FT
abbrev Hb:Type:=Int→Int→Int→Int→Int→Bool→List Int→AAN→List Int→AAS→AAX→AAw→AA2→AAJ→Option FT
def JM(R9:Ig)(R15:Hb)(t1 t42 t43 AJ AS:Int)(AK:Bool)(b1:AAG)(b2:AAN)(b3:AAG)(b4:AAS)(b5:AAX)(b6:AAw)(b7:AA2)(b8:AAJ)(W9:Int):Option FT:=
 cond (decide (t43<t42))
  (if(0:Int)≤t43∧t43<(b5.length:Int)then(
  cond (decide (((b5.getD (t43.toNat) (0,[],())).1)>W9))
   ((Ex (b4,AS,()) ((b5.getD (t43.toNat) (0,[],())).1)).bind fun u6=>
   (BH u6.2.1 t1).bind fun u7=>
   cond (u7.1.1)
    ((JJ t43 t1 AJ AS AK b1 b2 b3 b4 b5 b6 b7 b8).bind fun u8=>
    R9 t1 t42 (A6 (t43+1)) u8.2.1.2.1 u8.2.1.2.2.2.2.2.1 u8.2.1.2.2.2.2.2.2.2.2.2.2.1 u8.2.2.1 u8.2.2.2.1 u8.2.2.2.2.1 u8.2.2.2.2.2.1 u8.2.2.2.2.2.2.1 u8.2.2.2.2.2.2.2.1 u8.2.2.2.2.2.2.2.2.1 u8.2.2.2.2.2.2.2.2.2.1 W9)
   (R9 t1 t42 (A6 (t43+1)) AJ AS AK b1 b2 b3 b4 b5 b6 b7 b8 W9))
  (R9 t1 t42 (A6 (t43+1)) AJ AS AK b1 b2 b3 b4 b5 b6 b7 b8 W9))else none)
 (R15 t1 (b6.length:Int) 0 AJ AS AK b1 b2 b3 b4 b5 b6 b7 b8)
def Ih(R9:Ig)(R15:Hb)(t1 t73 t74 AJ AS:Int)(AK:Bool)(b1:AAG)(b2:AAN)(b3:AAG)(b4:AAS)(b5:AAX)(b6:AAw)(b7:AA2)(b8:AAJ):Option FT:=
 cond (decide (t74<t73))
  (if(0:Int)≤t74∧t74<(b6.length:Int)then(
  (Ex (b4,AS,()) ((b6.getD (t74.toNat) (0,0,[],[],false,[],())).2.1)).bind fun Rk=>
  (BH Rk.2.1 t1).bind fun Q4=>
  cond (Q4.1.1)
   ((Ha t74 t1 AJ AS AK b1 b2 b3 b4 b5 b6 b7 b8).bind fun Nc=>
   R15 t1 t73 (A6 (t74+1)) Nc.2.1.2.1 Nc.2.1.2.2.2.2.2.1 Nc.2.1.2.2.2.2.2.2.2.2.2.2.1 Nc.2.2.1 Nc.2.2.2.1 Nc.2.2.2.2.1 Nc.2.2.2.2.2.1 Nc.2.2.2.2.2.2.1 Nc.2.2.2.2.2.2.2.1 Nc.2.2.2.2.2.2.2.2.1 Nc.2.2.2.2.2.2.2.2.2.1)
  (R15 t1 t73 (A6 (t74+1)) AJ AS AK b1 b2 b3 b4 b5 b6 b7 b8))else none)
 (some ((0,()),(((),AJ,(),(),(),AS,(),(),(),(),AK,()),b1,b2,b3,b4,b5,b6,b7,b8,())))
mutual
def DY:Nat→Ig
 |0=>fun _ _ _ _ _ _ _ _ _ _ _ _ _ _ _=>none
 |n+1=>JM (DY n) (Dv n)
def Dv:Nat→Hb
 |0=>fun _ _ _ _ _ _ _ _ _ _ _ _ _ _=>none
 |n+1=>Ih (DY n) (Dv n)
end
def Ms(R9:Ig)(R15:Hb)(p1 AJ AS:Int)(AK:Bool)(b1:AAG)(b2:AAN)(b3:AAG)(b4:AAS)(b5:AAX)(b6:AAw)(b7:AA2)(b8:AAJ):Option FT:=
 (DC (b1,AJ,b2,b3,b4,AS,b5,b6,b7,b8,AK,()) p1).bind fun u1=>
 cond (u1.1.1 !=0)
  (some ((u1.1.1,()),(((),AJ,(),(),(),AS,(),(),(),(),AK,()),b1,b2,b3,b4,b5,b6,b7,b8,())))
 (if(0:Int)≤p1∧p1<(b2.length:Int)then(
 (J0 ((b2.getD (p1.toNat) ([],[],0,())).1,(b2.getD (p1.toNat) ([],[],0,())).2.1,(b2.getD (p1.toNat) ([],[],0,())).2.2.1,())).bind fun u2=>
 cond (!u2.1.1.2.1)
  (some ((4,()),(((),AJ,(),(),(),AS,(),(),(),(),AK,()),b1,b2,b3,b4,b5,b6,b7,b8,())))
 (if(0:Int)≤p1∧p1<(b2.length:Int)then(
 R9 p1 (b5.length:Int) 0 AJ AS AK b1 (b2.set (p1.toNat) (u2.2.1,u2.2.2.1,u2.1.1.1.2.2.1,())) b3 b4 b5 b6 b7 b8 u2.1.1.1.2.2.1)else none))else none)
def Ks(p1 AJ AS:Int)(AK:Bool)(b1:AAG)(b2:AAN)(b3:AAG)(b4:AAS)(b5:AAX)(b6:AAw)(b7:AA2)(b8:AAJ):Option FT:=Ms (DY Aq) (Dv Aq) p1 AJ AS AK b1 b2 b3 b4 b5 b6 b7 b8
abbrev V5:Type:=ABV×ADC
def KQ(p1 p2 AJ AS:Int)(AK:Bool)(b1:AAG)(b2:AAN)(b3:AAG)(b4:AAS)(b5:AAX)(b6:AAw)(b7:AA2)(b8:AAJ):Option V5:=
 (DC (b1,AJ,b2,b3,b4,AS,b5,b6,b7,b8,AK,()) p1).bind fun u1=>
 cond (u1.1.1 !=0)
  (some ((u1.1.1,()),(((),AJ,(),(),(),AS,(),(),(),(),AK,()),b1,b2,b3,b4,b5,b6,b7,b8,())))
 (if(0:Int)≤p1∧p1<(b2.length:Int)then(
 (Ip ((b2.getD (p1.toNat) ([],[],0,())).1,(b2.getD (p1.toNat) ([],[],0,())).2.1,(b2.getD (p1.toNat) ([],[],0,())).2.2.1,()) p2).bind fun u2=>
 if(0:Int)≤p1∧p1<(b2.length:Int)then(
 (Gt u2.1.1.2.1).bind fun u4=>
 some ((u4.1.1,()),(((),AJ,(),(),(),AS,(),(),(),(),AK,()),b1,(b2.set (p1.toNat) (u2.2.1,u2.2.2.1,u2.1.1.1.2.2.1,())),b3,b4,b5,b6,b7,b8,())))else none)else none)
abbrev Te:Type:=ABS×Unit
def Ib(p0:Int)(p1:ABV):Option Te:=
 some ((p0==p1.1,()),())
abbrev Bl:Type:=ABV×Unit
abbrev Ce:Type:=List Int→ACY→Int→Int→Option Bl
def Di(R2:Ce)(t0:AAG)(t1:ACY)(t7 t8:Int):Option Bl:=
 cond (decide (t8<t7))
  (if(0:Int)≤t8∧t8<(t0.length:Int)then(
  (Ib (t0.getD (t8.toNat) 0) t1.1).bind fun u2=>
  cond (u2.1.1)
   (some ((t8,()),()))
  (R2 t0 (t1.1,()) t7 (A6 (t8+1))))else none)
 (some (((-1),()),()))
def BQ:Nat→Ce
 |0=>fun _ _ _ _=>none
 |n+1=>Di (BQ n)
def Dh(R2:Ce)(p0:AAG)(p1:ACY):Option Bl:=
 R2 p0 (p1.1,()) (p0.length:Int) 0
def Cr(p0:AAG)(p1:ACY):Option Bl:=Dh (BQ Aq) p0 p1
abbrev Bi:Type:=ABW×ADj
abbrev CU:Type:=ACY→Int→Int→List Int→Option Bi
def DV(R5:CU)(t1:ACY)(t5 t6:Int)(b0:AAG):Option Bi:=
 cond ((decide (t6<(b0.length:Int))))
  (if(0:Int)≤t6∧t6<(b0.length:Int)then(
  let x3:Int:=(b0.getD (t6.toNat) 0)
  (Ib x3 t1.1).bind fun u4=>
  cond (!u4.1.1)
   (if(0:Int)≤t5∧t5<(b0.length:Int)then(
   R5 (t1.1,()) (A6 (t5+1)) (A6 (t6+1)) (b0.set (t5.toNat) x3))else none)
  (R5 (t1.1,()) t5 (A6 (t6+1)) b0))else none)
 (if(0:Int)≤t5∧t5≤(b0.length:Int)∧(b0.length:Int)≤(b0.length:Int)then(
 let x6:AAG:=(b0.take (t5.toNat)++List.replicate (((b0.length:Int).toNat)-(t5.toNat)) 0++b0.drop ((t5.toNat)+(((b0.length:Int).toNat)-(t5.toNat))))
 if(0:Int)≤(0:Int)∧(0:Int)≤t5∧t5≤(x6.length:Int)then(
 some (((),()),((),((x6.drop 0).take ((t5.toNat)-0)),())))else none)else none)
def BL:Nat→CU
 |0=>fun _ _ _ _=>none
 |n+1=>DV (BL n)
def DU(R5:CU)(p1:ACY)(b0:AAG):Option Bi:=
 (Cr b0 (p1.1,())).bind fun u1=>
 cond (u1.1.1==(-1))
  (some (((),()),((),b0,())))
 (R5 (p1.1,()) u1.1.1 (A6 (u1.1.1+1)) b0)
def Br(p1:ACY)(b0:AAG):Option Bi:=DU (BL Aq) p1 b0
abbrev Py:Type:=ABW×ACQ
def EM(p0:AAG)(p1:Int):Option Py:=
 (CL p0).bind fun u1=>
 (Br ((p1,()),()) u1.2.1).bind fun u2=>
 some (((),()),(u2.2.2.1,()))
abbrev HY:Type:=ADt×ADb
abbrev J5:Type:=Int→AB7→Int→Int→Int→AB7→Int→AB7→Option HY
def Ld(R5:J5)(t2:Int)(t19:AB7)(t20 t21 BF:Int)(b1:AB7)(gB:Int)(b3:AB7):Option HY:=
 cond (decide (t21<t20))
  (if(0:Int)≤t21∧t21<(t19.length:Int)then(
  cond (!((t19.getD (t21.toNat) ([],[],false,())).2.2.1))
   ((EM ((t19.getD (t21.toNat) ([],[],false,())).2.1) t2).bind fun u5=>
   if(0:Int)≤t21∧t21<(b3.length:Int)then(
   R5 t2 t19 t20 (A6 (t21+1)) BF b1 gB (b3.set (t21.toNat) ((b3.getD (t21.toNat) ([],[],false,())).1,u5.2.1,(b3.getD (t21.toNat) ([],[],false,())).2.2.1,())))else none)
  (R5 t2 t19 t20 (A6 (t21+1)) BF b1 gB b3))else none)
 (some ((((gB,(),()),true,()),()),(b3,())))
def FE:Nat→J5
 |0=>fun _ _ _ _ _ _ _ _=>none
 |n+1=>Ld (FE n)
def LO(R5:J5)(p0:AA8)(p1:ACe)(p2:Int):Option HY:=
 (EU (p0.1,p0.2.1,()) (p1.1,p1.2.1,())).bind fun u1=>
 cond (!u1.1.1)
  (some ((((0,(),()),false,()),()),([],())))
 ((D_ (p1.1,p1.2.1,())).bind fun u2=>
 R5 p2 p1.2.1 (p1.2.1.length:Int) 0 0 [] u2.1.1.1 u2.2.1)
def JS(p0:AA8)(p1:ACe)(p2:Int):Option HY:=LO (FE Aq) p0 p1 p2
abbrev JT:Type:=ADc×ADW
abbrev LB:Type:=Int→List AAG→Int→Int→Int→Int→Bool→List Int→AA5→List AAG→Int→Int→Bool→List Int→AA5→List AAG→Option JT
def Mv(R5:LB)(t2:Int)(t19:List AAG)(t20 t21 BF AJ:Int)(Ix:Bool)(b1:AAG)(b2:AA5)(b3:List AAG)(rS p9:Int)(qg:Bool)(b5:AAG)(b6:AA5)(b7:List AAG):Option JT:=
 cond (decide (t21<t20))
  (if(0:Int)≤t21∧t21<(t19.length:Int)then(
  (EM (t19.getD (t21.toNat) []) t2).bind fun u4=>
  if(0:Int)≤t21∧t21<(b7.length:Int)then(
  R5 t2 t19 t20 (A6 (t21+1)) BF AJ Ix b1 b2 b3 rS p9 qg b5 b6 (b7.set (t21.toNat) u4.2.1))else none)else none)
 (some ((((rS,p9,(),(),qg,(),()),true,()),()),(b5,b6,b7,())))
def GS:Nat→LB
 |0=>fun _ _ _ _ _ _ _ _ _ _ _ _ _ _ _ _=>none
 |n+1=>Mv (GS n)
def Mo(R5:LB)(p0:AA8)(p1:ABj)(p2:Int):Option JT:=
 (FB (p0.1,p0.2.1,()) (p1.1,p1.2.1,p1.2.2.1,p1.2.2.2.1,p1.2.2.2.2.1,p1.2.2.2.2.2.1,())).bind fun u1=>
 cond (!u1.1.1)
  (some ((((0,0,(),(),false,(),()),false,()),()),([],[],[],())))
 ((ET (p1.1,p1.2.1,p1.2.2.1,p1.2.2.2.1,p1.2.2.2.2.1,p1.2.2.2.2.2.1,())).bind fun u2=>
 R5 p2 p1.2.2.2.2.2.1 (p1.2.2.2.2.2.1.length:Int) 0 0 0 false [] [] [] u2.1.1.1 u2.1.1.2.1 u2.1.1.2.2.2.2.1 u2.2.1 u2.2.2.1 u2.2.2.2.1)
def K4(p0:AA8)(p1:ABj)(p2:Int):Option JT:=Mo (GS Aq) p0 p1 p2
abbrev EZ:Type:=ABV×ADz
abbrev Ij:Type:=Int→Int→Int→Int→Int→Bool→List Int→AAN→List Int→AAS→AAX→AAw→AA2→AAJ→List Int→Option EZ
abbrev HZ:Type:=Int→Int→Int→Int→Int→Bool→List Int→AAN→List Int→AAS→AAX→AAw→AA2→AAJ→List Int→Option EZ
def Mm(R7:Ij)(R12:HZ)(t1 t36 t37 AJ AS:Int)(AK:Bool)(b1:AAG)(b2:AAN)(b3:AAG)(b4:AAS)(b5:AAX)(b6:AAw)(b7:AA2)(b8:AAJ)(b9:AAG):Option EZ:=
 cond (decide (t37<t36))
  (if(0:Int)≤t37∧t37<(b5.length:Int)then(
  (JS (b1,AJ,()) ((b5.getD (t37.toNat) (0,[],())).1,(b5.getD (t37.toNat) (0,[],())).2.1,()) t1).bind fun u4=>
  if(0:Int)≤t37∧t37<(b5.length:Int)then(
  R7 t1 t36 (A6 (t37+1)) AJ AS AK b1 b2 b3 b4 (b5.set (t37.toNat) (u4.1.1.1.1,u4.2.1,())) b6 b7 b8 b9)else none)else none)
 (R12 t1 (b6.length:Int) 0 AJ AS AK b1 b2 b3 b4 b5 b6 b7 b8 b9)
def MT(R7:Ij)(R12:HZ)(t1 t63 t64 AJ AS:Int)(AK:Bool)(b1:AAG)(b2:AAN)(b3:AAG)(b4:AAS)(b5:AAX)(b6:AAw)(b7:AA2)(b8:AAJ)(b9:AAG):Option EZ:=
 cond (decide (t64<t63))
  (if(0:Int)≤t64∧t64<(b6.length:Int)then(
  (K4 (b1,AJ,()) ((b6.getD (t64.toNat) (0,0,[],[],false,[],())).1,(b6.getD (t64.toNat) (0,0,[],[],false,[],())).2.1,(b6.getD (t64.toNat) (0,0,[],[],false,[],())).2.2.1,(b6.getD (t64.toNat) (0,0,[],[],false,[],())).2.2.2.1,(b6.getD (t64.toNat) (0,0,[],[],false,[],())).2.2.2.2.1,(b6.getD (t64.toNat) (0,0,[],[],false,[],())).2.2.2.2.2.1,()) t1).bind fun u6=>
  if(0:Int)≤t64∧t64<(b6.length:Int)then(
  R12 t1 t63 (A6 (t64+1)) AJ AS AK b1 b2 b3 b4 b5 (b6.set (t64.toNat) (u6.1.1.1.1,u6.1.1.1.2.1,u6.2.1,u6.2.2.1,u6.1.1.1.2.2.2.2.1,u6.2.2.2.1,())) b7 b8 b9)else none)else none)
 (cond (AK)
  (some ((0,()),(((),AJ,(),(),(),AS,(),(),(),(),true,()),b1,b2,(),b4,b5,b6,b7,b8,b9,())))
 ((DT (b1,AJ,()) b9).bind fun u8=>
 some ((0,()),(((),AJ,(),(),(),AS,(),(),(),(),u8.1.1,()),b1,b2,(),b4,b5,b6,b7,b8,b9,()))))
mutual
def Ep:Nat→Ij
 |0=>fun _ _ _ _ _ _ _ _ _ _ _ _ _ _ _=>none
 |n+1=>Mm (Ep n) (Ec n)
def Ec:Nat→HZ
 |0=>fun _ _ _ _ _ _ _ _ _ _ _ _ _ _ _=>none
 |n+1=>MT (Ep n) (Ec n)
end
def Mr(R7:Ij)(R12:HZ)(p1 AJ AS:Int)(AK:Bool)(b1:AAG)(b2:AAN)(b3:AAG)(b4:AAS)(b5:AAX)(b6:AAw)(b7:AA2)(b8:AAJ):Option EZ:=
 (DC (b1,AJ,b2,b3,b4,AS,b5,b6,b7,b8,AK,()) p1).bind fun u1=>
 cond (u1.1.1 !=0)
  (some ((u1.1.1,()),(((),AJ,(),(),(),AS,(),(),(),(),AK,()),b1,b2,(),b4,b5,b6,b7,b8,b3,())))
 (if(0:Int)≤p1∧p1<(b2.length:Int)then(
 (HM b3 p1).bind fun u3=>
 R7 p1 (b5.length:Int) 0 AJ AS AK b1 (b2.set (p1.toNat) ([],[],0,())) b3 b4 b5 b6 b7 b8 u3.2.1)else none)
def Kz(p1 AJ AS:Int)(AK:Bool)(b1:AAG)(b2:AAN)(b3:AAG)(b4:AAS)(b5:AAX)(b6:AAw)(b7:AA2)(b8:AAJ):Option EZ:=Mr (Ep Aq) (Ec Aq) p1 AJ AS AK b1 b2 b3 b4 b5 b6 b7 b8
abbrev cX:Type:=ABS×Unit
def Qf(p0:AA8)(p1:AAG):Option cX:=
 (C1 (p0.1,p0.2.1,()) p1).bind fun u1=>
 cond (u1.1.1)
  ((DT (p0.1,p0.2.1,()) p1).bind fun u2=>
  some ((!u2.1.1,()),()))
 (some ((false,()),()))
abbrev J8:Type:=ABW×ADk
abbrev NM:Type:=AAN→Int→Int→AA5→Option J8
abbrev Na:Type:=AAN→Int→Int→AA5→Int→Int→AA5→Option J8
def Rn(R3:NM)(R8:Na)(t9:AAN)(t10 t11:Int)(b0:AA5):Option J8:=
 cond (decide (t11<t10))
  (if(0:Int)≤t11∧t11<(t9.length:Int)then(
  (Dn ((t9.getD (t11.toNat) ([],[],0,())).1,(t9.getD (t11.toNat) ([],[],0,())).2.1,(t9.getD (t11.toNat) ([],[],0,())).2.2.1,())).bind fun u1=>
  cond (!u1.1.1)
   (some (((),()),([],())))
  (R8 t9 t10 t11 ((t9.getD (t11.toNat) ([],[],0,())).1) (((t9.getD (t11.toNat) ([],[],0,())).1).length:Int) 0 b0))else none)
 (some (((),()),(b0,())))
def RT(R3:NM)(R8:Na)(t9:AAN)(t10 t11:Int)(t19:AA5)(t20 t21:Int)(b0:AA5):Option J8:=
 cond (decide (t21<t20))
  (if(0:Int)≤t21∧t21<(t19.length:Int)then(
  (O9 ((t19.getD (t21.toNat) (0,0,false,[],())).1,(t19.getD (t21.toNat) (0,0,false,[],())).2.1,(t19.getD (t21.toNat) (0,0,false,[],())).2.2.1,(t19.getD (t21.toNat) (0,0,false,[],())).2.2.2.1,()) b0).bind fun u3=>
  R8 t9 t10 t11 t19 t20 (A6 (t21+1)) u3.2.2.1)else none)
 (R3 t9 t10 (A6 (t11+1)) b0)
mutual
def I4:Nat→NM
 |0=>fun _ _ _ _=>none
 |n+1=>Rn (I4 n) (JA n)
def JA:Nat→Na
 |0=>fun _ _ _ _ _ _ _=>none
 |n+1=>RT (I4 n) (JA n)
end
def YG(R3:NM)(R8:Na)(p0:AAN):Option J8:=
 R3 p0 (p0.length:Int) 0 []
def Vv(p0:AAN):Option J8:=YG (I4 Aq) (JA Aq) p0
abbrev Ns:Type:=ADS×ADy
abbrev Sp:Type:=List Int→Int→Int→Int→AAN→Int→AA5→AA5→AAN→Option Ns
def Sy(R5:Sp)(t2:AAG)(t4 t37 t38:Int)(b0:AAN)(Kp:Int)(b2 b3:AA5)(b4:AAN):Option Ns:=
 cond (decide (t38<t37))
  (if(0:Int)≤t38∧t38<(b0.length:Int)then(
  (BH t2 t38).bind fun u4=>
  cond (u4.1.1)
   (R5 t2 t4 t37 (A6 (t38+1)) b0 Kp b2 b3 b4)
  ((Dn ((b0.getD (t38.toNat) ([],[],0,())).1,(b0.getD (t38.toNat) ([],[],0,())).2.1,(b0.getD (t38.toNat) ([],[],0,())).2.2.1,())).bind fun u5=>
  cond (!u5.1.1)
   (some (((((),(),0,()),false,()),()),(b0,[],[],())))
  (if b4.length+1≤IQ then(
  R5 t2 t4 t37 (A6 (t38+1)) b0 Kp b2 b3 (b4++[((b0.getD (t38.toNat) ([],[],0,())).1,(b0.getD (t38.toNat) ([],[],0,())).2.1,(b0.getD (t38.toNat) ([],[],0,())).2.2.1,())]))else none)))else none)
 ((Vv b4).bind fun u7=>
 (Dn (u7.2.1,[],t4,())).bind fun u8=>
 cond (!u8.1.1)
  (some (((((),(),0,()),false,()),()),(b0,[],[],())))
 (some (((((),(),t4,()),true,()),()),(b0,u7.2.1,[],()))))
def MY:Nat→Sp
 |0=>fun _ _ _ _ _ _ _ _ _=>none
 |n+1=>Sy (MY n)
def S_(R5:Sp)(p0:AA8)(p2:AAG)(p3 p4:Int)(b0:AAN):Option Ns:=
 cond (((b0.length:Int) !=(p0.1.length:Int)))
  (some (((((),(),0,()),false,()),()),(b0,[],[],())))
 ((Qf (p0.1,p0.2.1,()) p2).bind fun u2=>
 cond (!u2.1.1)
  (some (((((),(),0,()),false,()),()),(b0,[],[],())))
 ((BH p2 p3).bind fun u3=>
 cond (!u3.1.1)
  (some (((((),(),0,()),false,()),()),(b0,[],[],())))
 (R5 p2 p4 (b0.length:Int) 0 b0 0 [] [] [])))
def Rt(p0:AA8)(p2:AAG)(p3 p4:Int)(b0:AAN):Option Ns:=S_ (MY Aq) p0 p2 p3 p4 b0
abbrev Wj:Type:=ABV×ADz
def Gn(p1 AJ AS:Int)(AK:Bool)(b1:AAG)(b2:AAN)(b3:AAG)(b4:AAS)(b5:AAX)(b6:AAw)(b7:AA2)(b8:AAJ):Option Wj:=
 (Aj p1 0 (A6 ((b2.length:Int)-1))).bind fun u2=>
 cond (!u2.1.1)
  (some ((2,()),(((),AJ,(),(),(),AS,(),(),(),(),AK,()),b1,b2,(),b4,b5,b6,b7,b8,b3,())))
 ((CA (b1,AJ,b2,b3,b4,AS,b5,b6,b7,b8,AK,()) p1).bind fun u3=>
 cond (!u3.1.1)
  (some ((2,()),(((),AJ,(),(),(),AS,(),(),(),(),AK,()),b1,b2,(),b4,b5,b6,b7,b8,b3,())))
 (let x4:Int:=A6 ((b4.length:Int)-1)
 (Rt (b1,AJ,()) b3 p1 (if 0>x4 then 0 else x4) b2).bind fun u6=>
 cond (!u6.1.1.2.1)
  (some ((4,()),(((),AJ,(),(),(),AS,(),(),(),(),AK,()),b1,u6.2.1,(),b4,b5,b6,b7,b8,b3,())))
 (if(0:Int)≤p1∧p1<(u6.2.1.length:Int)then(
 (EM b3 p1).bind fun u8=>
 some ((0,()),(((),AJ,(),(),(),AS,(),(),(),(),AK,()),b1,(u6.2.1.set (p1.toNat) (u6.2.2.1,u6.2.2.2.1,u6.1.1.1.2.2.1,())),(),b4,b5,b6,b7,b8,u8.2.1,())))else none)))
abbrev bo:Type:=ADm×ADW
def WB(p0 p1:Int):Option bo:=
 some (((p1,p0,(),(),false,(),()),()),([],[],[],()))
abbrev Qg:Type:=ABV×(AC1×List Int×AAN×List Int×AAS×AAX×Unit×AA2×AAJ×AAw×Unit)
def Kw(AJ AS:Int)(AK:Bool)(b1:AAG)(b2:AAN)(b3:AAG)(b4:AAS)(b5:AAX)(b6:AAw)(b7:AA2)(b8:AAJ):Option Qg:=
 (IL (b4,AS,())).bind fun u1=>
 cond ((decide ((b4.length:Int)<2)))
  (some ((2,()),(((),AJ,(),(),(),AS,(),(),(),(),AK,()),b1,b2,b3,b4,b5,(),b7,b8,b6,())))
 (cond ((u1.1.1==(b4.length:Int)))
  (some ((2,()),(((),AJ,(),(),(),AS,(),(),(),(),AK,()),b1,b2,b3,b4,b5,(),b7,b8,b6,())))
 (cond ((decide ((b6.length:Int)>0)))
  (some ((4,()),(((),AJ,(),(),(),AS,(),(),(),(),AK,()),b1,b2,b3,b4,b5,(),b7,b8,b6,())))
 ((WB u1.1.1 (b4.length:Int)).bind fun u5=>
 some ((0,()),(((),AJ,(),(),(),AS,(),(),(),(),AK,()),b1,b2,b3,b4,b5,(),b7,b8,[(u5.1.1.1,u5.1.1.2.1,u5.2.1,u5.2.2.1,u5.1.1.2.2.2.2.1,u5.2.2.2.1,())],())))))
abbrev NC:Type:=ADS×ADV
def Ji(p0:ACS)(p1:Int):Option NC:=
 (J0 (p0.1,p0.2.1,p0.2.2.1,())).bind fun u1=>
 cond (!u1.1.1.2.1)
  ((Ci (p0.1,p0.2.1,p0.2.2.1,())).bind fun u2=>
  some (((((),(),u2.1.1.2.2.1,()),false,()),()),(u2.2.1,u2.2.2.1,())))
 ((Aj p1 0 30).bind fun u3=>
 cond (!u3.1.1)
  ((Ci (p0.1,p0.2.1,p0.2.2.1,())).bind fun u4=>
  some (((((),(),u4.1.1.2.2.1,()),false,()),()),(u4.2.1,u4.2.2.1,())))
 (some (((((),(),(if p1>u1.1.1.1.2.2.1 then p1 else u1.1.1.1.2.2.1),()),true,()),()),(u1.2.1,u1.2.2.1,()))))
abbrev Gu:Type:=ABW×ADk
abbrev NH:Type:=Int→AA5→Int→Int→AA5→Option Gu
def Oe(R5:NH)(t1:Int)(t14:AA5)(t15 t16:Int)(b0:AA5):Option Gu:=
 cond (decide (t16<t15))
  (if(0:Int)≤t16∧t16<(t14.length:Int)then(
  (Dj ((t14.getD (t16.toNat) (0,0,false,[],())).1)).bind fun u3=>
  cond (u3.1.1==t1)
   (if b0.length+1≤IQ then(
   R5 t1 t14 t15 (A6 (t16+1)) (b0++[((t14.getD (t16.toNat) (0,0,false,[],())).1,(t14.getD (t16.toNat) (0,0,false,[],())).2.1,(t14.getD (t16.toNat) (0,0,false,[],())).2.2.1,(t14.getD (t16.toNat) (0,0,false,[],())).2.2.2.1,())]))else none)
  (R5 t1 t14 t15 (A6 (t16+1)) b0))else none)
 (some (((),()),(b0,())))
def H_:Nat→NH
 |0=>fun _ _ _ _ _=>none
 |n+1=>Oe (H_ n)
def OY(R5:NH)(p0:ACS)(p1:Int):Option Gu:=
 (Dn (p0.1,p0.2.1,p0.2.2.1,())).bind fun u1=>
 cond (!u1.1.1)
  (some (((),()),([],())))
 (R5 p1 p0.1 (p0.1.length:Int) 0 [])
def Ke(p0:ACS)(p1:Int):Option Gu:=OY (H_ Aq) p0 p1
abbrev Gr:Type:=ADc×ADW
abbrev NG:Type:=AA5→Int→Int→List Int→Int→Int→Int→List Int→AA5→Bool→List AAG→Int→Int→Bool→List Int→AA5→List AAG→Int→Int→Bool→List Int→AA5→List AAG→Option Gr
def Ob(R6:NG)(t31:AA5)(t32 t33:Int)(BF:AAG)(AJ IP Ey:Int)(Kp:AAG)(Ol:AA5)(Ut:Bool)(OC:List AAG)(gB iW:Int)(AAa:Bool)(b3:AAG)(b4:AA5)(b5:List AAG)(uu uy:Int)(uY:Bool)(b7:AAG)(b8:AA5)(b9:List AAG):Option Gr:=
 cond (decide (t33<t32))
  (if(0:Int)≤t33∧t33<(t31.length:Int)then(
  (Dj ((t31.getD (t33.toNat) (0,0,false,[],())).1)).bind fun u7=>
  cond (u7.1.1==Ey)
   ((O9 ((t31.getD (t33.toNat) (0,0,false,[],())).1,(t31.getD (t33.toNat) (0,0,false,[],())).2.1,(t31.getD (t33.toNat) (0,0,false,[],())).2.2.1,(t31.getD (t33.toNat) (0,0,false,[],())).2.2.2.1,()) b8).bind fun u8=>
   R6 t31 t32 (A6 (t33+1)) BF AJ IP Ey Kp Ol Ut OC gB iW AAa b3 b4 b5 uu uy uY b7 u8.2.2.1 b9)
  (R6 t31 t32 (A6 (t33+1)) BF AJ IP Ey Kp Ol Ut OC gB iW AAa b3 b4 b5 uu uy uY b7 b8 b9))else none)
 ((FB (BF,AJ,()) (uu,uy,b7,b8,uY,b9,())).bind fun u9=>
 cond (!u9.1.1)
  ((ET (IP,Ey,Kp,Ol,Ut,OC,())).bind fun Io=>
  some ((((Io.1.1.1,Io.1.1.2.1,(),(),Io.1.1.2.2.2.2.1,(),()),false,()),()),(Io.2.1,Io.2.2.1,Io.2.2.2.1,())))
 (some ((((uu,uy,(),(),uY,(),()),true,()),()),(b7,b8,b9,()))))
def IE:Nat→NG
 |0=>fun _ _ _ _ _ _ _ _ _ _ _ _ _ _ _ _ _ _ _ _ _ _ _=>none
 |n+1=>Ob (IE n)
def ON(R6:NG)(p0:AA8)(p1:ABj)(p2:Int)(p3:AA5):Option Gr:=
 (FB (p0.1,p0.2.1,()) (p1.1,p1.2.1,p1.2.2.1,p1.2.2.2.1,p1.2.2.2.2.1,p1.2.2.2.2.2.1,())).bind fun u1=>
 cond (!u1.1.1)
  ((DX (p0.1,p0.2.1,()) (p1.1,p1.2.1,p1.2.2.1,p1.2.2.2.1,p1.2.2.2.2.1,p1.2.2.2.2.2.1,())).bind fun u2=>
  some ((((u2.1.1.1,u2.1.1.2.1,(),(),u2.1.1.2.2.2.2.1,(),()),false,()),()),(u2.2.1,u2.2.2.1,u2.2.2.2.1,())))
 (cond (p1.2.2.2.2.1)
  ((DX (p0.1,p0.2.1,()) (p1.1,p1.2.1,p1.2.2.1,p1.2.2.2.1,p1.2.2.2.2.1,p1.2.2.2.2.2.1,())).bind fun u3=>
  some ((((u3.1.1.1,u3.1.1.2.1,(),(),u3.1.1.2.2.2.2.1,(),()),false,()),()),(u3.2.1,u3.2.2.1,u3.2.2.2.1,())))
 ((ET (p1.1,p1.2.1,p1.2.2.1,p1.2.2.2.1,p1.2.2.2.2.1,p1.2.2.2.2.2.1,())).bind fun u4=>
 (HM u4.2.1 p2).bind fun u5=>
 R6 p3 (p3.length:Int) 0 p0.1 p0.2.1 p1.1 p1.2.1 p1.2.2.1 p1.2.2.2.1 p1.2.2.2.2.1 p1.2.2.2.2.2.1 0 0 false [] [] [] u4.1.1.1 u4.1.1.2.1 u4.1.1.2.2.2.2.1 u5.2.1 u4.2.2.1 u4.2.2.2.1))
def Kr(p0:AA8)(p1:ABj)(p2:Int)(p3:AA5):Option Gr:=ON (IE Aq) p0 p1 p2 p3
abbrev V9:Type:=ABV×ADC
def Gy(p1 AJ AS:Int)(AK:Bool)(b1:AAG)(b2:AAN)(b3:AAG)(b4:AAS)(b5:AAX)(b6:AAw)(b7:AA2)(b8:AAJ):Option V9:=
 cond (((b6.length:Int)==0))
  (some ((2,()),(((),AJ,(),(),(),AS,(),(),(),(),AK,()),b1,b2,b3,b4,b5,b6,b7,b8,())))
 (if(0:Int)≤(0:Int)∧(0:Int)<(b6.length:Int)then(
 (Cg (b1,AJ,b2,b3,b4,AS,b5,b6,b7,b8,AK,()) p1 ((b6.getD 0 (0,0,[],[],false,[],())).2.1)).bind fun u3=>
 cond (u3.1.1 !=0)
  (some ((u3.1.1,()),(((),AJ,(),(),(),AS,(),(),(),(),AK,()),b1,b2,b3,b4,b5,b6,b7,b8,())))
 (if(0:Int)≤p1∧p1<(b2.length:Int)then(
 (Ji ((b2.getD (p1.toNat) ([],[],0,())).1,(b2.getD (p1.toNat) ([],[],0,())).2.1,(b2.getD (p1.toNat) ([],[],0,())).2.2.1,()) (A6 (((b6.getD 0 (0,0,[],[],false,[],())).1)-1))).bind fun u5=>
 (Ke (u5.2.1,u5.2.2.1,u5.1.1.1.2.2.1,()) ((b6.getD 0 (0,0,[],[],false,[],())).2.1)).bind fun u7=>
 (Kr (b1,AJ,()) ((b6.getD 0 (0,0,[],[],false,[],())).1,(b6.getD 0 (0,0,[],[],false,[],())).2.1,(b6.getD 0 (0,0,[],[],false,[],())).2.2.1,(b6.getD 0 (0,0,[],[],false,[],())).2.2.2.1,(b6.getD 0 (0,0,[],[],false,[],())).2.2.2.2.1,(b6.getD 0 (0,0,[],[],false,[],())).2.2.2.2.2.1,()) p1 u7.2.1).bind fun u8=>
 cond (!u5.1.1.2.1)
  (some ((4,()),(((),AJ,(),(),(),AS,(),(),(),(),AK,()),b1,b2,b3,b4,b5,b6,b7,b8,())))
 (cond (!u8.1.1.2.1)
  (some ((4,()),(((),AJ,(),(),(),AS,(),(),(),(),AK,()),b1,b2,b3,b4,b5,b6,b7,b8,())))
 (if(0:Int)≤p1∧p1<(b2.length:Int)then(
 if(0:Int)≤(0:Int)∧(0:Int)<(b6.length:Int)then(
 some ((0,()),(((),AJ,(),(),(),AS,(),(),(),(),AK,()),b1,(b2.set (p1.toNat) (u5.2.1,u5.2.2.1,u5.1.1.1.2.2.1,())),b3,b4,b5,(b6.set 0 (u8.1.1.1.1,u8.1.1.1.2.1,u8.2.1,u8.2.2.1,u8.1.1.1.2.2.2.2.1,u8.2.2.2.1,())),b7,b8,())))else none)else none)))else none))else none)
abbrev S7:Type:=ADc×ADW
def Kl(p0:AA8)(p1:ABj)(p2:AAG):Option S7:=
 (FB (p0.1,p0.2.1,()) (p1.1,p1.2.1,p1.2.2.1,p1.2.2.2.1,p1.2.2.2.2.1,p1.2.2.2.2.2.1,())).bind fun u1=>
 cond (!u1.1.1)
  ((DX (p0.1,p0.2.1,()) (p1.1,p1.2.1,p1.2.2.1,p1.2.2.2.1,p1.2.2.2.2.1,p1.2.2.2.2.2.1,())).bind fun u2=>
  some ((((u2.1.1.1,u2.1.1.2.1,(),(),u2.1.1.2.2.2.2.1,(),()),false,()),()),(u2.2.1,u2.2.2.1,u2.2.2.2.1,())))
 (cond (p1.2.2.2.2.1)
  ((DX (p0.1,p0.2.1,()) (p1.1,p1.2.1,p1.2.2.1,p1.2.2.2.1,p1.2.2.2.2.1,p1.2.2.2.2.2.1,())).bind fun u3=>
  some ((((u3.1.1.1,u3.1.1.2.1,(),(),u3.1.1.2.2.2.2.1,(),()),false,()),()),(u3.2.1,u3.2.2.1,u3.2.2.2.1,())))
 ((I7 p1.2.2.1 p2).bind fun u4=>
 (Eg (p0.1,p0.2.1,()) p2 u4.2.1).bind fun u5=>
 cond (!u5.1.1)
  ((DX (p0.1,p0.2.1,()) (p1.1,p1.2.1,p1.2.2.1,p1.2.2.2.1,p1.2.2.2.2.1,p1.2.2.2.2.2.1,())).bind fun u6=>
  some ((((u6.1.1.1,u6.1.1.2.1,(),(),u6.1.1.2.2.2.2.1,(),()),false,()),()),(u6.2.1,u6.2.2.1,u6.2.2.2.1,())))
 ((ET (p1.1,p1.2.1,p1.2.2.1,p1.2.2.2.1,p1.2.2.2.2.1,p1.2.2.2.2.2.1,())).bind fun u7=>
 (ML (p1.1,p1.2.1,p1.2.2.1,p1.2.2.2.1,p1.2.2.2.2.1,p1.2.2.2.2.2.1,())).bind fun u8=>
 if(0:Int)≤u8.1.1∧u8.1.1≤u8.1.1∧u8.1.1≤(IQ:Int)then(
 some ((((u7.1.1.1,u7.1.1.2.1,(),(),true,(),()),true,()),()),(u7.2.1,u7.2.2.1,(List.replicate (u8.1.1.toNat) []),())))else none)))
abbrev V_:Type:=ABV×ADC
def Gw(AJ AS:Int)(AK:Bool)(b1:AAG)(b2:AAN)(b3:AAG)(b4:AAS)(b5:AAX)(b6:AAw)(b7:AA2)(b8:AAJ):Option V_:=
 cond (((b6.length:Int)==0))
  (some ((2,()),(((),AJ,(),(),(),AS,(),(),(),(),AK,()),b1,b2,b3,b4,b5,b6,b7,b8,())))
 (if(0:Int)≤(0:Int)∧(0:Int)<(b6.length:Int)then(
 if(0:Int)≤(0:Int)∧(0:Int)<(b6.length:Int)then(
 (Ex (b4,AS,()) ((b6.getD 0 (0,0,[],[],false,[],())).2.1)).bind fun u3=>
 (Kl (b1,AJ,()) ((b6.getD 0 (0,0,[],[],false,[],())).1,(b6.getD 0 (0,0,[],[],false,[],())).2.1,(b6.getD 0 (0,0,[],[],false,[],())).2.2.1,(b6.getD 0 (0,0,[],[],false,[],())).2.2.2.1,(b6.getD 0 (0,0,[],[],false,[],())).2.2.2.2.1,(b6.getD 0 (0,0,[],[],false,[],())).2.2.2.2.2.1,()) u3.2.1).bind fun u4=>
 if(0:Int)≤(0:Int)∧(0:Int)<(b6.length:Int)then(
 (Gt u4.1.1.2.1).bind fun u6=>
 some ((u6.1.1,()),(((),AJ,(),(),(),AS,(),(),(),(),AK,()),b1,b2,b3,b4,b5,(b6.set 0 (u4.1.1.1.1,u4.1.1.1.2.1,u4.2.1,u4.2.2.1,u4.1.1.1.2.2.2.2.1,u4.2.2.2.1,())),b7,b8,())))else none)else none)else none)
abbrev Xk:Type:=ABV×ADC
def L6(p1 p2 AJ AS:Int)(AK:Bool)(b1:AAG)(b2:AAN)(b3:AAG)(b4:AAS)(b5:AAX)(b6:AAw)(b7:AA2)(b8:AAJ):Option Xk:=
 cond (((b6.length:Int)==0))
  (some ((2,()),(((),AJ,(),(),(),AS,(),(),(),(),AK,()),b1,b2,b3,b4,b5,b6,b7,b8,())))
 (if(0:Int)≤(0:Int)∧(0:Int)<(b6.length:Int)then(
 (GK ((b6.getD 0 (0,0,[],[],false,[],())).1,(b6.getD 0 (0,0,[],[],false,[],())).2.1,(b6.getD 0 (0,0,[],[],false,[],())).2.2.1,(b6.getD 0 (0,0,[],[],false,[],())).2.2.2.1,(b6.getD 0 (0,0,[],[],false,[],())).2.2.2.2.1,(b6.getD 0 (0,0,[],[],false,[],())).2.2.2.2.2.1,()) p1).bind fun u2=>
 cond (!u2.1.1.2.1)
  (some ((2,()),(((),AJ,(),(),(),AS,(),(),(),(),AK,()),b1,b2,b3,b4,b5,b6,b7,b8,())))
 (if(0:Int)≤(0:Int)∧(0:Int)<(b6.length:Int)then(
 (Cg (b1,AJ,b2,b3,b4,AS,b5,b6,b7,b8,AK,()) p2 ((b6.getD 0 (0,0,[],[],false,[],())).2.1)).bind fun u4=>
 cond (u4.1.1 !=0)
  (some ((u4.1.1,()),(((),AJ,(),(),(),AS,(),(),(),(),AK,()),b1,b2,b3,b4,b5,b6,b7,b8,())))
 ((Hw p2 (u2.1.1.1.1,u2.1.1.1.2.1,u2.1.1.1.2.2.1,u2.1.1.1.2.2.2.1,()) AJ AS AK b1 b2 b3 b4 b5 b6 b7 b8).bind fun u5=>
 some ((u5.1.1,()),(((),u5.2.1.2.1,(),(),(),u5.2.1.2.2.2.2.2.1,(),(),(),(),u5.2.1.2.2.2.2.2.2.2.2.2.2.1,()),u5.2.2.1,u5.2.2.2.1,u5.2.2.2.2.1,u5.2.2.2.2.2.1,u5.2.2.2.2.2.2.1,u5.2.2.2.2.2.2.2.1,u5.2.2.2.2.2.2.2.2.1,u5.2.2.2.2.2.2.2.2.2.1,()))))else none))else none)
abbrev IH:Type:=ABS×Unit
abbrev MV:Type:=List AAG→Int→Int→List Int→Int→Option IH
def Nz(R4:MV)(t17:List AAG)(t18 t19:Int)(BF:AAG)(AJ:Int):Option IH:=
 cond (decide (t19<t18))
  (if(0:Int)≤t19∧t19<(t17.length:Int)then(
  (DT (BF,AJ,()) (t17.getD (t19.toNat) [])).bind fun u3=>
  cond (!u3.1.1)
   (some ((false,()),()))
  (R4 t17 t18 (A6 (t19+1)) BF AJ))else none)
 (some ((true,()),()))
def G7:Nat→MV
 |0=>fun _ _ _ _ _=>none
 |n+1=>Nz (G7 n)
def Ny(R4:MV)(p0:AA8)(p1:ABj):Option IH:=
 (FB (p0.1,p0.2.1,()) (p1.1,p1.2.1,p1.2.2.1,p1.2.2.2.1,p1.2.2.2.2.1,p1.2.2.2.2.2.1,())).bind fun u1=>
 cond (!u1.1.1)
  (some ((false,()),()))
 (cond (!p1.2.2.2.2.1)
  (some ((false,()),()))
 (R4 p1.2.2.2.2.2.1 (p1.2.2.2.2.2.1.length:Int) 0 p0.1 p0.2.1))
def J4(p0:AA8)(p1:ABj):Option IH:=Ny (G7 Aq) p0 p1
abbrev Sw:Type:=ADu×ADa
def Ki(p0:AA8)(p1:ACX)(p2 p3:Int):Option Sw:=
 (IL (p1.1,p1.2.1,())).bind fun u1=>
 (HR (p0.1,p0.2.1,()) (p1.1,p1.2.1,())).bind fun u2=>
 cond (!u2.1.1)
  ((C_ (p0.1,p0.2.1,()) (p1.1,p1.2.1,())).bind fun u3=>
  some (((((),u3.1.1.2.1,()),false,()),()),(u3.2.1,())))
 (cond ((p2 !=(p1.1.length:Int)))
  ((C_ (p0.1,p0.2.1,()) (p1.1,p1.2.1,())).bind fun u5=>
  some (((((),u5.1.1.2.1,()),false,()),()),(u5.2.1,())))
 (cond (u1.1.1==p2)
  ((C_ (p0.1,p0.2.1,()) (p1.1,p1.2.1,())).bind fun u6=>
  some (((((),u6.1.1.2.1,()),false,()),()),(u6.2.1,())))
 ((Aj p3 0 60).bind fun u7=>
 cond (!u7.1.1)
  ((C_ (p0.1,p0.2.1,()) (p1.1,p1.2.1,())).bind fun u8=>
  some (((((),u8.1.1.2.1,()),false,()),()),(u8.2.1,())))
 ((DL (p1.1,p1.2.1,())).bind fun u9=>
 if(0:Int)≤A6 (u1.1.1-1)∧A6 (u1.1.1-1)<(u9.2.1.length:Int)then(
 let x10:AAS:=(u9.2.1.set ((A6 (u1.1.1-1)).toNat) ((u9.2.1.getD ((A6 (u1.1.1-1)).toNat) ([],false,0,())).1,true,(u9.2.1.getD ((A6 (u1.1.1-1)).toNat) ([],false,0,())).2.2.1,()))
 if(0:Int)≤A6 (u1.1.1-1)∧A6 (u1.1.1-1)<(x10.length:Int)then(
 some (((((),u9.1.1.2.1,()),true,()),()),((x10.set ((A6 (u1.1.1-1)).toNat) ((x10.getD ((A6 (u1.1.1-1)).toNat) ([],false,0,())).1,(x10.getD ((A6 (u1.1.1-1)).toNat) ([],false,0,())).2.1,p3,())),())))else none)else none))))
abbrev Pm:Type:=ABV×(AC1×List Int×AAN×List Int×Unit×AAX×Unit×AA2×AAJ×AAS×AAw×Unit)
def GC(AJ AS:Int)(AK:Bool)(b1:AAG)(b2:AAN)(b3:AAG)(b4:AAS)(b5:AAX)(b6:AAw)(b7:AA2)(b8:AAJ):Option Pm:=
 cond (((b6.length:Int)==0))
  (some ((2,()),(((),AJ,(),(),(),AS,(),(),(),(),AK,()),b1,b2,b3,(),b5,(),b7,b8,b4,b6,())))
 (if(0:Int)≤(0:Int)∧(0:Int)<(b6.length:Int)then(
 (J4 (b1,AJ,()) ((b6.getD 0 (0,0,[],[],false,[],())).1,(b6.getD 0 (0,0,[],[],false,[],())).2.1,(b6.getD 0 (0,0,[],[],false,[],())).2.2.1,(b6.getD 0 (0,0,[],[],false,[],())).2.2.2.1,(b6.getD 0 (0,0,[],[],false,[],())).2.2.2.2.1,(b6.getD 0 (0,0,[],[],false,[],())).2.2.2.2.2.1,())).bind fun u2=>
 cond (!u2.1.1)
  (some ((5,()),(((),AJ,(),(),(),AS,(),(),(),(),AK,()),b1,b2,b3,(),b5,(),b7,b8,b4,b6,())))
 (if(0:Int)≤(0:Int)∧(0:Int)<(b6.length:Int)then(
 if(0:Int)≤(0:Int)∧(0:Int)<(b6.length:Int)then(
 (Ki (b1,AJ,()) (b4,AS,()) ((b6.getD 0 (0,0,[],[],false,[],())).1) (((b6.getD 0 (0,0,[],[],false,[],())).2.2.2.2.2.1).length:Int)).bind fun u5=>
 cond (u5.1.1.2.1)
  ((Gt u5.1.1.2.1).bind fun u6=>
  some ((u6.1.1,()),(((),AJ,(),(),(),u5.1.1.1.2.1,(),(),(),(),AK,()),b1,b2,b3,(),b5,(),b7,b8,u5.2.1,[],())))
 ((Gt u5.1.1.2.1).bind fun u7=>
 some ((u7.1.1,()),(((),AJ,(),(),(),AS,(),(),(),(),AK,()),b1,b2,b3,(),b5,(),b7,b8,b4,b6,()))))else none)else none))else none)
abbrev ai:Type:=ADu×ADa
def O3(p0:AA8)(p1:ACX)(p2:Int):Option ai:=
 (HR (p0.1,p0.2.1,()) (p1.1,p1.2.1,())).bind fun u1=>
 cond (!u1.1.1)
  ((C_ (p0.1,p0.2.1,()) (p1.1,p1.2.1,())).bind fun u2=>
  some (((((),u2.1.1.2.1,()),false,()),()),(u2.2.1,())))
 ((Dj p2).bind fun u3=>
 (Aj u3.1.1 1 (p1.1.length:Int)).bind fun u4=>
 cond (!u4.1.1)
  ((C_ (p0.1,p0.2.1,()) (p1.1,p1.2.1,())).bind fun u5=>
  some (((((),u5.1.1.2.1,()),false,()),()),(u5.2.1,())))
 ((DL (p1.1,p1.2.1,())).bind fun u6=>
 some (((((),(if p2>u6.1.1.2.1 then p2 else u6.1.1.2.1),()),true,()),()),(u6.2.1,()))))
abbrev VW:Type:=ABS×Unit
def KA(p0:ACs)(p1:ABV):Option VW:=
 some ((decide (p0.1≤p1.1),()),())
abbrev BG:Type:=ABV×Unit
abbrev Bf:Type:=AA5→ACY→Int→Int→Option BG
def Cd(R2:Bf)(t0:AA5)(t1:ACY)(t7 t8:Int):Option BG:=
 cond (decide (t8<t7))
  (if(0:Int)≤t8∧t8<(t0.length:Int)then(
  (KA ((t0.getD (t8.toNat) (0,0,false,[],())).1,(t0.getD (t8.toNat) (0,0,false,[],())).2.1,(t0.getD (t8.toNat) (0,0,false,[],())).2.2.1,(t0.getD (t8.toNat) (0,0,false,[],())).2.2.2.1,()) t1.1).bind fun u1=>
  cond (u1.1.1)
   (some ((t8,()),()))
  (R2 t0 (t1.1,()) t7 (A6 (t8+1))))else none)
 (some (((-1),()),()))
def Av:Nat→Bf
 |0=>fun _ _ _ _=>none
 |n+1=>Cd (Av n)
def Cc(R2:Bf)(p0:AA5)(p1:ACY):Option BG:=
 R2 p0 (p1.1,()) (p0.length:Int) 0
def Bo(p0:AA5)(p1:ACY):Option BG:=Cc (Av Aq) p0 p1
abbrev BE:Type:=ABW×ADs
abbrev Be:Type:=ACY→Int→Int→AA5→Option BE
def CY(R5:Be)(t1:ACY)(t5 t6:Int)(b0:AA5):Option BE:=
 cond ((decide (t6<(b0.length:Int))))
  (if(0:Int)≤t6∧t6<(b0.length:Int)then(
  (KA ((b0.getD (t6.toNat) (0,0,false,[],())).1,(b0.getD (t6.toNat) (0,0,false,[],())).2.1,(b0.getD (t6.toNat) (0,0,false,[],())).2.2.1,(b0.getD (t6.toNat) (0,0,false,[],())).2.2.2.1,()) t1.1).bind fun u3=>
  cond (!u3.1.1)
   (if(0:Int)≤t5∧t5<(b0.length:Int)then(
   R5 (t1.1,()) (A6 (t5+1)) (A6 (t6+1)) (b0.set (t5.toNat) ((b0.getD (t6.toNat) (0,0,false,[],())).1,(b0.getD (t6.toNat) (0,0,false,[],())).2.1,(b0.getD (t6.toNat) (0,0,false,[],())).2.2.1,(b0.getD (t6.toNat) (0,0,false,[],())).2.2.2.1,())))else none)
  (R5 (t1.1,()) t5 (A6 (t6+1)) b0))else none)
 (if(0:Int)≤t5∧t5≤(b0.length:Int)∧(b0.length:Int)≤(b0.length:Int)then(
 let x5:AA5:=(b0.take (t5.toNat)++List.replicate (((b0.length:Int).toNat)-(t5.toNat)) (0,0,false,[],())++b0.drop ((t5.toNat)+(((b0.length:Int).toNat)-(t5.toNat))))
 if(0:Int)≤(0:Int)∧(0:Int)≤t5∧t5≤(x5.length:Int)then(
 some (((),()),((),((x5.drop 0).take ((t5.toNat)-0)),())))else none)else none)
def Au:Nat→Be
 |0=>fun _ _ _ _=>none
 |n+1=>CY (Au n)
def CZ(R5:Be)(p1:ACY)(b0:AA5):Option BE:=
 (Bo b0 (p1.1,())).bind fun u1=>
 cond (u1.1.1==(-1))
  (some (((),()),((),b0,())))
 (R5 (p1.1,()) u1.1.1 (A6 (u1.1.1+1)) b0)
def BM(p1:ACY)(b0:AA5):Option BE:=CZ (Au Aq) p1 b0
abbrev Xy:Type:=ADS×ADV
def MF(p0:ACS)(p1:Int):Option Xy:=
 (Dn (p0.1,p0.2.1,p0.2.2.1,())).bind fun u1=>
 cond (!u1.1.1)
  ((Ci (p0.1,p0.2.1,p0.2.2.1,())).bind fun u2=>
  some (((((),(),u2.1.1.2.2.1,()),false,()),()),(u2.2.1,u2.2.2.1,())))
 ((Cy p1).bind fun u3=>
 cond (!u3.1.1)
  ((Ci (p0.1,p0.2.1,p0.2.2.1,())).bind fun u4=>
  some (((((),(),u4.1.1.2.2.1,()),false,()),()),(u4.2.1,u4.2.2.1,())))
 ((CG (p0.1,p0.2.1,p0.2.2.1,())).bind fun u5=>
 (BM ((p1,()),()) u5.2.1).bind fun u6=>
 some (((((),(),u5.1.1.2.2.1,()),true,()),()),(u6.2.2.1,u5.2.2.1,()))))
abbrev V3:Type:=ABV×ADC
def KM(p1 AJ AS:Int)(AK:Bool)(b1:AAG)(b2:AAN)(b3:AAG)(b4:AAS)(b5:AAX)(b6:AAw)(b7:AA2)(b8:AAJ):Option V3:=
 (DC (b1,AJ,b2,b3,b4,AS,b5,b6,b7,b8,AK,()) p1).bind fun u1=>
 cond (u1.1.1 !=0)
  (some ((u1.1.1,()),(((),AJ,(),(),(),AS,(),(),(),(),AK,()),b1,b2,b3,b4,b5,b6,b7,b8,())))
 (if(0:Int)≤p1∧p1<(b2.length:Int)then(
 (MF ((b2.getD (p1.toNat) ([],[],0,())).1,(b2.getD (p1.toNat) ([],[],0,())).2.1,(b2.getD (p1.toNat) ([],[],0,())).2.2.1,()) AS).bind fun u2=>
 if(0:Int)≤p1∧p1<(b2.length:Int)then(
 (Gt u2.1.1.2.1).bind fun u4=>
 some ((u4.1.1,()),(((),AJ,(),(),(),AS,(),(),(),(),AK,()),b1,(b2.set (p1.toNat) (u2.2.1,u2.2.2.1,u2.1.1.1.2.2.1,())),b3,b4,b5,b6,b7,b8,())))else none)else none)
abbrev Jc:Type:=ABW×(Unit×AAX×Unit)
def Dq(p1 p2:Int)(b0:AAX):Option Jc:=(pv p1 p2 b0).map fun l=>(((),()),((),l,()))
abbrev S5:Type:=ABV×(AC1×List Int×AAN×Unit×Unit×Unit×Unit×AA2×Unit×List Int×AAS×AAX×AAw×AAJ×Unit)
def NT(p1:ADU)(AJ AS:Int)(AK:Bool)(b1:AAG)(b2:AAN)(b3:AAG)(b4:AAS)(b5:AAX)(b6:AAw)(b7:AA2)(b8:AAJ):Option S5:=
 cond (p1.1==1)
  ((Gp p1.2.1 AJ AS AK b1 b2 b3 b4 b5 b6 b7 b8).bind fun u1=>
  some ((u1.1.1,()),(((),u1.2.1.2.1,(),(),(),u1.2.1.2.2.2.2.2.1,(),(),(),(),u1.2.1.2.2.2.2.2.2.2.2.2.2.1,()),u1.2.2.1,u1.2.2.2.1,(),(),(),(),u1.2.2.2.2.2.2.2.2.1,(),u1.2.2.2.2.1,u1.2.2.2.2.2.2.2.2.2.2.1,u1.2.2.2.2.2.2.2.2.2.2.2.1,u1.2.2.2.2.2.2.2.2.2.2.2.2.1,u1.2.2.2.2.2.2.2.2.2.1,())))
 (cond (p1.1==2)
  ((Hz p1.2.1 p1.2.2.2.2.1 AJ AS AK b1 b2 b3 b4 b5 b6 b7 b8).bind fun u6=>
  some ((u6.1.1,()),(((),u6.2.1.2.1,(),(),(),u6.2.1.2.2.2.2.2.1,(),(),(),(),u6.2.1.2.2.2.2.2.2.2.2.2.2.1,()),u6.2.2.1,u6.2.2.2.1,(),(),(),(),u6.2.2.2.2.2.2.2.2.1,(),u6.2.2.2.2.1,u6.2.2.2.2.2.1,u6.2.2.2.2.2.2.1,u6.2.2.2.2.2.2.2.1,u6.2.2.2.2.2.2.2.2.2.2.1,())))
 (cond (p1.1==3)
  ((F9 (p1.1,p1.2.1,p1.2.2.1,p1.2.2.2.1,p1.2.2.2.2.1,()) AJ AS AK b1 b2 b3 b4 b5 b6 b7 b8).bind fun u8=>
  some ((u8.1.1,()),(((),u8.2.1.2.1,(),(),(),u8.2.1.2.2.2.2.2.1,(),(),(),(),u8.2.1.2.2.2.2.2.2.2.2.2.2.1,()),u8.2.2.1,u8.2.2.2.1,(),(),(),(),u8.2.2.2.2.2.2.2.2.1,(),u8.2.2.2.2.1,u8.2.2.2.2.2.1,u8.2.2.2.2.2.2.1,u8.2.2.2.2.2.2.2.1,u8.2.2.2.2.2.2.2.2.2.1,())))
 (cond (p1.1==4)
  ((Ks p1.2.1 AJ AS AK b1 b2 b3 b4 b5 b6 b7 b8).bind fun Io=>
  some ((Io.1.1,()),(((),Io.2.1.2.1,(),(),(),Io.2.1.2.2.2.2.2.1,(),(),(),(),Io.2.1.2.2.2.2.2.2.2.2.2.2.1,()),Io.2.2.1,Io.2.2.2.1,(),(),(),(),Io.2.2.2.2.2.2.2.2.1,(),Io.2.2.2.2.1,Io.2.2.2.2.2.1,Io.2.2.2.2.2.2.1,Io.2.2.2.2.2.2.2.1,Io.2.2.2.2.2.2.2.2.2.1,())))
 (cond (p1.1==5)
  ((KQ p1.2.1 p1.2.2.1 AJ AS AK b1 b2 b3 b4 b5 b6 b7 b8).bind fun Nc=>
  some ((Nc.1.1,()),(((),Nc.2.1.2.1,(),(),(),Nc.2.1.2.2.2.2.2.1,(),(),(),(),Nc.2.1.2.2.2.2.2.2.2.2.2.2.1,()),Nc.2.2.1,Nc.2.2.2.1,(),(),(),(),Nc.2.2.2.2.2.2.2.2.1,(),Nc.2.2.2.2.1,Nc.2.2.2.2.2.1,Nc.2.2.2.2.2.2.1,Nc.2.2.2.2.2.2.2.1,Nc.2.2.2.2.2.2.2.2.2.1,())))
 (cond (p1.1==6)
  ((Kz p1.2.1 AJ AS AK b1 b2 b3 b4 b5 b6 b7 b8).bind fun u16=>
  some ((u16.1.1,()),(((),u16.2.1.2.1,(),(),(),u16.2.1.2.2.2.2.2.1,(),(),(),(),u16.2.1.2.2.2.2.2.2.2.2.2.2.1,()),u16.2.2.1,u16.2.2.2.1,(),(),(),(),u16.2.2.2.2.2.2.2.2.1,(),u16.2.2.2.2.2.2.2.2.2.2.1,u16.2.2.2.2.2.1,u16.2.2.2.2.2.2.1,u16.2.2.2.2.2.2.2.1,u16.2.2.2.2.2.2.2.2.2.1,())))
 (cond (p1.1==7)
  ((Gn p1.2.1 AJ AS AK b1 b2 b3 b4 b5 b6 b7 b8).bind fun V7=>
  some ((V7.1.1,()),(((),V7.2.1.2.1,(),(),(),V7.2.1.2.2.2.2.2.1,(),(),(),(),V7.2.1.2.2.2.2.2.2.2.2.2.2.1,()),V7.2.2.1,V7.2.2.2.1,(),(),(),(),V7.2.2.2.2.2.2.2.2.1,(),V7.2.2.2.2.2.2.2.2.2.2.1,V7.2.2.2.2.2.1,V7.2.2.2.2.2.2.1,V7.2.2.2.2.2.2.2.1,V7.2.2.2.2.2.2.2.2.2.1,())))
 (cond (p1.1==8)
  ((Kw AJ AS AK b1 b2 b3 b4 b5 b6 b7 b8).bind fun Ze=>
  some ((Ze.1.1,()),(((),Ze.2.1.2.1,(),(),(),Ze.2.1.2.2.2.2.2.1,(),(),(),(),Ze.2.1.2.2.2.2.2.2.2.2.2.2.1,()),Ze.2.2.1,Ze.2.2.2.1,(),(),(),(),Ze.2.2.2.2.2.2.2.2.1,(),Ze.2.2.2.2.1,Ze.2.2.2.2.2.1,Ze.2.2.2.2.2.2.1,Ze.2.2.2.2.2.2.2.2.2.2.1,Ze.2.2.2.2.2.2.2.2.2.1,())))
 (cond (p1.1==9)
  ((Gy p1.2.1 AJ AS AK b1 b2 b3 b4 b5 b6 b7 b8).bind fun lx=>
  some ((lx.1.1,()),(((),lx.2.1.2.1,(),(),(),lx.2.1.2.2.2.2.2.1,(),(),(),(),lx.2.1.2.2.2.2.2.2.2.2.2.2.1,()),lx.2.2.1,lx.2.2.2.1,(),(),(),(),lx.2.2.2.2.2.2.2.2.1,(),lx.2.2.2.2.1,lx.2.2.2.2.2.1,lx.2.2.2.2.2.2.1,lx.2.2.2.2.2.2.2.1,lx.2.2.2.2.2.2.2.2.2.1,())))
 (cond (p1.1==10)
  ((Gw AJ AS AK b1 b2 b3 b4 b5 b6 b7 b8).bind fun jb=>
  some ((jb.1.1,()),(((),jb.2.1.2.1,(),(),(),jb.2.1.2.2.2.2.2.1,(),(),(),(),jb.2.1.2.2.2.2.2.2.2.2.2.2.1,()),jb.2.2.1,jb.2.2.2.1,(),(),(),(),jb.2.2.2.2.2.2.2.2.1,(),jb.2.2.2.2.1,jb.2.2.2.2.2.1,jb.2.2.2.2.2.2.1,jb.2.2.2.2.2.2.2.1,jb.2.2.2.2.2.2.2.2.2.1,())))
 (cond (p1.1==11)
  ((L6 p1.2.2.1 p1.2.2.2.1 AJ AS AK b1 b2 b3 b4 b5 b6 b7 b8).bind fun nr=>
  some ((nr.1.1,()),(((),nr.2.1.2.1,(),(),(),nr.2.1.2.2.2.2.2.1,(),(),(),(),nr.2.1.2.2.2.2.2.2.2.2.2.2.1,()),nr.2.2.1,nr.2.2.2.1,(),(),(),(),nr.2.2.2.2.2.2.2.2.1,(),nr.2.2.2.2.1,nr.2.2.2.2.2.1,nr.2.2.2.2.2.2.1,nr.2.2.2.2.2.2.2.1,nr.2.2.2.2.2.2.2.2.2.1,())))
 (cond (p1.1==12)
  ((GC AJ AS AK b1 b2 b3 b4 b5 b6 b7 b8).bind fun lP=>
  some ((lP.1.1,()),(((),lP.2.1.2.1,(),(),(),lP.2.1.2.2.2.2.2.1,(),(),(),(),lP.2.1.2.2.2.2.2.2.2.2.2.2.1,()),lP.2.2.1,lP.2.2.2.1,(),(),(),(),lP.2.2.2.2.2.2.2.2.1,(),lP.2.2.2.2.1,lP.2.2.2.2.2.2.2.2.2.2.1,lP.2.2.2.2.2.2.1,lP.2.2.2.2.2.2.2.2.2.2.2.1,lP.2.2.2.2.2.2.2.2.2.1,())))
 (cond (p1.1==13)
  ((O3 (b1,AJ,()) (b4,AS,()) p1.2.1).bind fun gW=>
  (Gt gW.1.1.2.1).bind fun u43=>
  some ((u43.1.1,()),(((),AJ,(),(),(),gW.1.1.1.2.1,(),(),(),(),AK,()),b1,b2,(),(),(),(),b7,(),b3,gW.2.1,b5,b6,b8,())))
 (cond (p1.1==14)
  ((I1 p1.2.1 p1.2.2.1 AJ AS AK b1 b2 b3 b4 b5 b6 b7 b8).bind fun nt=>
  some ((nt.1.1,()),(((),nt.2.1.2.1,(),(),(),nt.2.1.2.2.2.2.2.1,(),(),(),(),nt.2.1.2.2.2.2.2.2.2.2.2.2.1,()),nt.2.2.1,nt.2.2.2.1,(),(),(),(),nt.2.2.2.2.2.2.2.2.1,(),nt.2.2.2.2.1,nt.2.2.2.2.2.1,nt.2.2.2.2.2.2.1,nt.2.2.2.2.2.2.2.1,nt.2.2.2.2.2.2.2.2.2.1,())))
 (cond (p1.1==16)
  ((KM p1.2.1 AJ AS AK b1 b2 b3 b4 b5 b6 b7 b8).bind fun nv=>
  some ((nv.1.1,()),(((),nv.2.1.2.1,(),(),(),nv.2.1.2.2.2.2.2.1,(),(),(),(),nv.2.1.2.2.2.2.2.2.2.2.2.2.1,()),nv.2.2.1,nv.2.2.2.1,(),(),(),(),nv.2.2.2.2.2.2.2.2.1,(),nv.2.2.2.2.1,nv.2.2.2.2.2.1,nv.2.2.2.2.2.2.1,nv.2.2.2.2.2.2.2.1,nv.2.2.2.2.2.2.2.2.2.1,())))
 ((Aj p1.2.1 0 (A6 ((b5.length:Int)-1))).bind fun u53=>
 cond (!u53.1.1)
  (some ((2,()),(((),AJ,(),(),(),AS,(),(),(),(),AK,()),b1,b2,(),(),(),(),b7,(),b3,b4,b5,b6,b8,())))
 ((Dq p1.2.1 (A6 (p1.2.1+1)) b5).bind fun u54=>
 some ((0,()),(((),AJ,(),(),(),AS,(),(),(),(),AK,()),b1,b2,(),(),(),(),b7,(),b3,b4,u54.2.2.1,b6,b8,()))))))))))))))))))
abbrev aH:Type:=ADp×ADR
def EA(p0:ABH)(p1:ADU):Option aH:=
 (D9 (p0.1,p0.2.1,p0.2.2.1,p0.2.2.2.1,p0.2.2.2.2.1,p0.2.2.2.2.2.1,p0.2.2.2.2.2.2.1,p0.2.2.2.2.2.2.2.1,p0.2.2.2.2.2.2.2.2.1,p0.2.2.2.2.2.2.2.2.2.1,p0.2.2.2.2.2.2.2.2.2.2.1,())).bind fun u1=>
 cond (!u1.1.1)
  (some (((((),0,(),(),(),0,(),(),(),(),false,()),1,()),()),([],[],[],[],[],[],[],[],())))
 ((QG (p1.1,p1.2.1,p1.2.2.1,p1.2.2.2.1,p1.2.2.2.2.1,())).bind fun u2=>
 cond (!u2.1.1)
  (some (((((),0,(),(),(),0,(),(),(),(),false,()),1,()),()),([],[],[],[],[],[],[],[],())))
 ((C6 (p0.1,p0.2.1,p0.2.2.1,p0.2.2.2.1,p0.2.2.2.2.1,p0.2.2.2.2.2.1,p0.2.2.2.2.2.2.1,p0.2.2.2.2.2.2.2.1,p0.2.2.2.2.2.2.2.2.1,p0.2.2.2.2.2.2.2.2.2.1,p0.2.2.2.2.2.2.2.2.2.2.1,())).bind fun u3=>
 (NT (p1.1,p1.2.1,p1.2.2.1,p1.2.2.2.1,p1.2.2.2.2.1,()) u3.1.1.2.1 u3.1.1.2.2.2.2.2.1 u3.1.1.2.2.2.2.2.2.2.2.2.2.1 u3.2.1 u3.2.2.1 u3.2.2.2.1 u3.2.2.2.2.1 u3.2.2.2.2.2.1 u3.2.2.2.2.2.2.1 u3.2.2.2.2.2.2.2.1 u3.2.2.2.2.2.2.2.2.1).bind fun u4=>
 cond (u4.1.1 !=0)
  ((C6 (p0.1,p0.2.1,p0.2.2.1,p0.2.2.2.1,p0.2.2.2.2.1,p0.2.2.2.2.2.1,p0.2.2.2.2.2.2.1,p0.2.2.2.2.2.2.2.1,p0.2.2.2.2.2.2.2.2.1,p0.2.2.2.2.2.2.2.2.2.1,p0.2.2.2.2.2.2.2.2.2.2.1,())).bind fun Io=>
  some (((((),Io.1.1.2.1,(),(),(),Io.1.1.2.2.2.2.2.1,(),(),(),(),Io.1.1.2.2.2.2.2.2.2.2.2.2.1,()),u4.1.1,()),()),(Io.2.1,Io.2.2.1,Io.2.2.2.1,Io.2.2.2.2.1,Io.2.2.2.2.2.1,Io.2.2.2.2.2.2.1,Io.2.2.2.2.2.2.2.1,Io.2.2.2.2.2.2.2.2.1,())))
 (some (((((),u4.2.1.2.1,(),(),(),u4.2.1.2.2.2.2.2.1,(),(),(),(),u4.2.1.2.2.2.2.2.2.2.2.2.2.1,()),0,()),()),(u4.2.2.1,u4.2.2.2.1,u4.2.2.2.2.2.2.2.2.2.2.1,u4.2.2.2.2.2.2.2.2.2.2.2.1,u4.2.2.2.2.2.2.2.2.2.2.2.2.1,u4.2.2.2.2.2.2.2.2.2.2.2.2.2.1,u4.2.2.2.2.2.2.2.2.1,u4.2.2.2.2.2.2.2.2.2.2.2.2.2.2.1,())))))
abbrev Wm:Type:=(AC1×Unit)×ADR
def FY(p0:ABH):Option Wm:=
 (D9 (p0.1,p0.2.1,p0.2.2.1,p0.2.2.2.1,p0.2.2.2.2.1,p0.2.2.2.2.2.1,p0.2.2.2.2.2.2.1,p0.2.2.2.2.2.2.2.1,p0.2.2.2.2.2.2.2.2.1,p0.2.2.2.2.2.2.2.2.2.1,p0.2.2.2.2.2.2.2.2.2.2.1,())).bind fun u1=>
 cond (!u1.1.1)
  (some ((((),0,(),(),(),0,(),(),(),(),false,()),()),([],[],[],[],[],[],[],[],())))
 ((C6 (p0.1,p0.2.1,p0.2.2.1,p0.2.2.2.1,p0.2.2.2.2.1,p0.2.2.2.2.2.1,p0.2.2.2.2.2.2.1,p0.2.2.2.2.2.2.2.1,p0.2.2.2.2.2.2.2.2.1,p0.2.2.2.2.2.2.2.2.2.1,p0.2.2.2.2.2.2.2.2.2.2.1,())).bind fun u2=>
 some ((((),u2.1.1.2.1,(),(),(),u2.1.1.2.2.2.2.2.1,(),(),(),(),u2.1.1.2.2.2.2.2.2.2.2.2.2.1,()),()),(u2.2.1,u2.2.2.1,u2.2.2.2.1,u2.2.2.2.2.1,u2.2.2.2.2.2.1,u2.2.2.2.2.2.2.1,u2.2.2.2.2.2.2.2.1,u2.2.2.2.2.2.2.2.2.1,())))
abbrev JO:Type:=ABW×ACQ
abbrev LM:Type:=List Int→Int→Int→List Int→Option JO
def JH(R3:LM)(t13:AAG)(t14 t15:Int)(b0:AAG):Option JO:=
 cond (decide (t15<t14))
  (if(0:Int)≤t15∧t15<(t13.length:Int)then(
  (EM b0 (t13.getD (t15.toNat) 0)).bind fun u4=>
  R3 t13 t14 (A6 (t15+1)) u4.2.1)else none)
 (some (((),()),(b0,())))
def Ew:Nat→LM
 |0=>fun _ _ _ _=>none
 |n+1=>JH (Ew n)
def Mj(R3:LM)(p0:ABH)(p1:Int):Option JO:=
 (Ex (p0.2.2.2.2.1,p0.2.2.2.2.2.1,()) p1).bind fun u1=>
 R3 p0.2.2.2.1 (p0.2.2.2.1.length:Int) 0 u1.2.1
def Gv(p0:ABH)(p1:Int):Option JO:=Mj (Ew Aq) p0 p1
abbrev H9:Type:=ADh×ADR
abbrev ME:Type:=Int→Int→Int→Int→List Int→Int→AAN→List Int→AAS→Int→AAX→AAw→AA2→AAJ→Bool→Int→Int→Bool→List Int→AAN→List Int→AAS→AAX→AAw→AA2→AAJ→Int→Int→Bool→List Int→AAN→List Int→AAS→AAX→AAw→AA2→AAJ→Int→List Int→Option H9
def Jr(R7:ME)(t1 t11 t42 t43:Int)(BF:AAG)(AJ:Int)(EE:AAN)(IC:AAG)(Ix:AAS)(AS:Int)(Ov:AAX)(Oi:AAw)(Oy:AA2)(Oz:AAJ)(AK:Bool)(Ey OC:Int)(Ql:Bool)(b2:AAG)(b3:AAN)(b4:AAG)(b5:AAS)(b6:AAX)(b7:AAw)(b8:AA2)(b9:AAJ)(Mf Mx:Int)(JE:Bool)(QA:AAG)(QB:AAN)(Zt:AAG)(Zr:AAS)(R0:AAX)(Tx:AAw)(X1:AA2)(dC:AAJ)(vY:Int)(rj:AAG):Option H9:=
 cond (decide (t43<t42))
  (if(0:Int)≤t43∧t43<(rj.length:Int)then(
  let x7:Int:=(rj.getD (t43.toNat) 0)
  (EA (QA,Mf,QB,Zt,Zr,Mx,R0,Tx,X1,dC,JE,()) (3,t1,t11,x7,[],())).bind fun u8=>
  (EA (u8.2.1,u8.1.1.1.2.1,u8.2.2.1,u8.2.2.2.1,u8.2.2.2.2.1,u8.1.1.1.2.2.2.2.2.1,u8.2.2.2.2.2.1,u8.2.2.2.2.2.2.1,u8.2.2.2.2.2.2.2.1,u8.2.2.2.2.2.2.2.2.1,u8.1.1.1.2.2.2.2.2.2.2.2.2.2.1,()) (4,x7,0,0,[],())).bind fun u9=>
  R7 t1 t11 t42 (A6 (t43+1)) BF AJ EE IC Ix AS Ov Oi Oy Oz AK Ey OC Ql b2 b3 b4 b5 b6 b7 b8 b9 u9.1.1.1.2.1 u9.1.1.1.2.2.2.2.2.1 u9.1.1.1.2.2.2.2.2.2.2.2.2.2.1 u9.2.1 u9.2.2.1 u9.2.2.2.1 u9.2.2.2.2.1 u9.2.2.2.2.2.1 u9.2.2.2.2.2.2.1 u9.2.2.2.2.2.2.2.1 u9.2.2.2.2.2.2.2.2.1 vY rj)else none)
 ((CV vY t11).bind fun Io=>
 (DH (QA,Mf,QB,Zt,Zr,Mx,R0,Tx,X1,dC,JE,()) Io.1.1.1).bind fun Rk=>
 cond (!Rk.1.1.2.1)
  ((C6 (BF,AJ,EE,IC,Ix,AS,Ov,Oi,Oy,Oz,AK,())).bind fun Q4=>
  some (((((),Q4.1.1.2.1,(),(),(),Q4.1.1.2.2.2.2.2.1,(),(),(),(),Q4.1.1.2.2.2.2.2.2.2.2.2.2.1,()),false,()),()),(Q4.2.1,Q4.2.2.1,Q4.2.2.2.1,Q4.2.2.2.2.1,Q4.2.2.2.2.2.1,Q4.2.2.2.2.2.2.1,Q4.2.2.2.2.2.2.2.1,Q4.2.2.2.2.2.2.2.2.1,())))
 (if(0:Int)≤Rk.1.1.1∧Rk.1.1.1<(dC.length:Int)then(
 cond (!((dC.getD (Rk.1.1.1.toNat) (0,[],false,())).2.2.1))
  ((C6 (BF,AJ,EE,IC,Ix,AS,Ov,Oi,Oy,Oz,AK,())).bind fun Uu=>
  some (((((),Uu.1.1.2.1,(),(),(),Uu.1.1.2.2.2.2.2.1,(),(),(),(),Uu.1.1.2.2.2.2.2.2.2.2.2.2.1,()),false,()),()),(Uu.2.1,Uu.2.2.1,Uu.2.2.2.1,Uu.2.2.2.2.1,Uu.2.2.2.2.2.1,Uu.2.2.2.2.2.2.1,Uu.2.2.2.2.2.2.2.1,Uu.2.2.2.2.2.2.2.2.1,())))
 (some (((((),Mf,(),(),(),Mx,(),(),(),(),JE,()),true,()),()),(QA,QB,Zt,Zr,R0,Tx,X1,dC,()))))else none))
def FL:Nat→ME
 |0=>fun _ _ _ _ _ _ _ _ _ _ _ _ _ _ _ _ _ _ _ _ _ _ _ _ _ _ _ _ _ _ _ _ _ _ _ _ _ _ _=>none
 |n+1=>Jr (FL n)
def N9(R7:ME)(p0:ABH)(p1:Int)(p2:List UInt8):Option H9:=
 (EA (p0.1,p0.2.1,p0.2.2.1,p0.2.2.2.1,p0.2.2.2.2.1,p0.2.2.2.2.2.1,p0.2.2.2.2.2.2.1,p0.2.2.2.2.2.2.2.1,p0.2.2.2.2.2.2.2.2.1,p0.2.2.2.2.2.2.2.2.2.1,p0.2.2.2.2.2.2.2.2.2.2.1,()) (2,p1,0,0,p2,())).bind fun u1=>
 cond (u1.1.1.2.1 !=0)
  ((FY (p0.1,p0.2.1,p0.2.2.1,p0.2.2.2.1,p0.2.2.2.2.1,p0.2.2.2.2.2.1,p0.2.2.2.2.2.2.1,p0.2.2.2.2.2.2.2.1,p0.2.2.2.2.2.2.2.2.1,p0.2.2.2.2.2.2.2.2.2.1,p0.2.2.2.2.2.2.2.2.2.2.1,())).bind fun u2=>
  some (((((),u2.1.1.2.1,(),(),(),u2.1.1.2.2.2.2.2.1,(),(),(),(),u2.1.1.2.2.2.2.2.2.2.2.2.2.1,()),false,()),()),(u2.2.1,u2.2.2.1,u2.2.2.2.1,u2.2.2.2.2.1,u2.2.2.2.2.2.1,u2.2.2.2.2.2.2.1,u2.2.2.2.2.2.2.2.1,u2.2.2.2.2.2.2.2.2.1,())))
 (if(0:Int)≤p1∧p1<(u1.2.2.2.2.2.1.length:Int)then(
 (Gv (u1.2.1,u1.1.1.1.2.1,u1.2.2.1,u1.2.2.2.1,u1.2.2.2.2.1,u1.1.1.1.2.2.2.2.2.1,u1.2.2.2.2.2.1,u1.2.2.2.2.2.2.1,u1.2.2.2.2.2.2.2.1,u1.2.2.2.2.2.2.2.2.1,u1.1.1.1.2.2.2.2.2.2.2.2.2.2.1,()) ((u1.2.2.2.2.2.1.getD (p1.toNat) (0,[],())).1)).bind fun u5=>
 R7 p1 (((u1.2.2.2.2.2.1.getD (p1.toNat) (0,[],())).2.1).length:Int) (u5.2.1.length:Int) 0 p0.1 p0.2.1 p0.2.2.1 p0.2.2.2.1 p0.2.2.2.2.1 p0.2.2.2.2.2.1 p0.2.2.2.2.2.2.1 p0.2.2.2.2.2.2.2.1 p0.2.2.2.2.2.2.2.2.1 p0.2.2.2.2.2.2.2.2.2.1 p0.2.2.2.2.2.2.2.2.2.2.1 0 0 false [] [] [] [] [] [] [] [] u1.1.1.1.2.1 u1.1.1.1.2.2.2.2.2.1 u1.1.1.1.2.2.2.2.2.2.2.2.2.2.1 u1.2.1 u1.2.2.1 u1.2.2.2.1 u1.2.2.2.2.1 u1.2.2.2.2.2.1 u1.2.2.2.2.2.2.1 u1.2.2.2.2.2.2.2.1 u1.2.2.2.2.2.2.2.2.1 ((u1.2.2.2.2.2.1.getD (p1.toNat) (0,[],())).1) u5.2.1)else none)
def MO(p0:ABH)(p1:Int)(p2:List UInt8):Option H9:=N9 (FL Aq) p0 p1 p2
abbrev Ly:Type:=ADh×(Unit×Unit×Unit×Unit×Unit×Unit×Unit×Unit×List Int×AAN×List Int×AAS×AAX×AAw×AA2×AAJ×Unit)
abbrev RC:Type:=ADO→Int→Int→Int→Int→Bool→List Int→AAN→List Int→AAS→AAX→AAw→AA2→AAJ→Int→Int→Bool→List Int→AAN→List Int→AAS→AAX→AAw→AA2→AAJ→Option Ly
def KP(R2:RC)(t10:ADO)(t11 t12 ABP ABi:Int)(vy:Bool)(b9:AAG)(Yr:AAN)(QA:AAG)(QB:AAS)(Zt:AAX)(Zr:AAw)(R0:AA2)(Tx:AAJ)(AAx AA7:Int)(yM:Bool)(dC:AAG)(zO:AAN)(rj:AAG)(b21:AAS)(b22:AAX)(b23:AAw)(b24:AA2)(b25:AAJ):Option Ly:=
 cond (decide (t12<t11))
  (if(0:Int)≤t12∧t12<(t10.length:Int)then(
  (EA (b9,ABP,Yr,QA,QB,ABi,Zt,Zr,R0,Tx,vy,()) ((t10.getD (t12.toNat) (0,0,0,0,[],())).1,(t10.getD (t12.toNat) (0,0,0,0,[],())).2.1,(t10.getD (t12.toNat) (0,0,0,0,[],())).2.2.1,(t10.getD (t12.toNat) (0,0,0,0,[],())).2.2.2.1,(t10.getD (t12.toNat) (0,0,0,0,[],())).2.2.2.2.1,())).bind fun u1=>
  cond (u1.1.1.2.1 !=0)
   (some (((((),0,(),(),(),0,(),(),(),(),false,()),false,()),()),((),(),(),(),(),(),(),(),[],[],[],[],[],[],[],[],())))
  (R2 t10 t11 (A6 (t12+1)) u1.1.1.1.2.1 u1.1.1.1.2.2.2.2.2.1 u1.1.1.1.2.2.2.2.2.2.2.2.2.2.1 u1.2.1 u1.2.2.1 u1.2.2.2.1 u1.2.2.2.2.1 u1.2.2.2.2.2.1 u1.2.2.2.2.2.2.1 u1.2.2.2.2.2.2.2.1 u1.2.2.2.2.2.2.2.2.1 AAx AA7 yM dC zO rj b21 b22 b23 b24 b25))else none)
 (some (((((),ABP,(),(),(),ABi,(),(),(),(),vy,()),true,()),()),((),(),(),(),(),(),(),(),b9,Yr,QA,QB,Zt,Zr,R0,Tx,())))
def HN:Nat→RC
 |0=>fun _ _ _ _ _ _ _ _ _ _ _ _ _ _ _ _ _ _ _ _ _ _ _ _ _=>none
 |n+1=>KP (HN n)
def Rs(R2:RC)(w7 wo:Int)(rD:Bool)(p1:ADO)(b0:AAG)(b1:AAN)(b2:AAG)(b3:AAS)(b4:AAX)(b5:AAw)(b6:AA2)(b7:AAJ):Option Ly:=
 R2 p1 (p1.length:Int) 0 w7 wo rD b0 b1 b2 b3 b4 b5 b6 b7 0 0 false [] [] [] [] [] [] [] []
def LN(w7 wo:Int)(rD:Bool)(p1:ADO)(b0:AAG)(b1:AAN)(b2:AAG)(b3:AAS)(b4:AAX)(b5:AAw)(b6:AA2)(b7:AAJ):Option Ly:=Rs (HN Aq) w7 wo rD p1 b0 b1 b2 b3 b4 b5 b6 b7
abbrev GA:Type:=ABW×(ADO×Unit)
abbrev Ja:Type:=Int→List Int→Int→ADO→Option GA
abbrev JP:Type:=Int→List Int→Int→List Int→Int→Int→ADO→Option GA
def Je(R3:Ja)(R6:JP)(t0:Int)(t1:AAG)(t6:Int)(b0:ADO):Option GA:=
 cond (decide (t6≤t0))
  (R6 t0 t1 t6 t1 (t1.length:Int) 0 b0)
 (if b0.length+1≤IQ then(
 some (((),()),((b0++[(12,0,0,0,[],())]),())))else none)
def G_(R3:Ja)(R6:JP)(t0:Int)(t1:AAG)(t6:Int)(t15:AAG)(t16 t17:Int)(b0:ADO):Option GA:=
 cond (decide (t17<t16))
  (if(0:Int)≤t17∧t17<(t15.length:Int)then(
  let x2:Int:=(t15.getD (t17.toNat) 0)
  if b0.length+2≤IQ then(
  R6 t0 t1 t6 t15 t16 (A6 (t17+1)) (b0++[(11,0,t6,x2,[],()),(4,x2,0,0,[],())]))else none)else none)
 (R3 t0 t1 (A6 (t6+1)) b0)
mutual
def DI:Nat→Ja
 |0=>fun _ _ _ _=>none
 |n+1=>Je (DI n) (EW n)
def EW:Nat→JP
 |0=>fun _ _ _ _ _ _ _=>none
 |n+1=>G_ (DI n) (EW n)
end
def TX(R3:Ja)(R6:JP)(p0:Int)(p1:AAG):Option GA:=
 R3 p0 p1 1 []
def P6(p0:Int)(p1:AAG):Option GA:=TX (DI Aq) (EW Aq) p0 p1
abbrev JY:Type:=ADh×ADR
abbrev LL:Type:=Int→Int→List Int→Int→AAN→List Int→AAS→Int→AAX→AAw→AA2→AAJ→Bool→Int→Int→Bool→List Int→AAN→List Int→AAS→AAX→AAw→AA2→AAJ→Int→Int→Bool→List Int→AAN→List Int→AAS→AAX→AAw→AA2→AAJ→List Int→ADO→Option JY
def DD(R9:LL)(t41 t42:Int)(BF:AAG)(AJ:Int)(EE:AAN)(IC:AAG)(Ix:AAS)(AS:Int)(Ov:AAX)(Oi:AAw)(Oy:AA2)(Oz:AAJ)(AK:Bool)(Ey OC:Int)(Ql:Bool)(b2:AAG)(b3:AAN)(b4:AAG)(b5:AAS)(b6:AAX)(b7:AAw)(b8:AA2)(b9:AAJ)(Mf Mx:Int)(JE:Bool)(QA:AAG)(QB:AAN)(Zt:AAG)(Zr:AAS)(R0:AAX)(Tx:AAw)(X1:AA2)(dC:AAJ)(zO:AAG)(rj:ADO):Option JY:=
 cond (decide (t42<t41))
  (if(0:Int)≤t42∧t42<(zO.length:Int)then(
  if rj.length+1≤IQ then(
  R9 t41 (A6 (t42+1)) BF AJ EE IC Ix AS Ov Oi Oy Oz AK Ey OC Ql b2 b3 b4 b5 b6 b7 b8 b9 Mf Mx JE QA QB Zt Zr R0 Tx X1 dC zO (rj++[(9,(zO.getD (t42.toNat) 0),0,0,[],())]))else none)else none)
 (if rj.length+1≤IQ then(
 (LN Mf Mx JE (rj++[(10,0,0,0,[],())]) QA QB Zt Zr R0 Tx X1 dC).bind fun ck=>
 let x35:AAw:=ck.2.2.2.2.2.2.2.2.2.2.2.2.2.2.1
 cond (!ck.1.1.2.1)
  ((C6 (BF,AJ,EE,IC,Ix,AS,Ov,Oi,Oy,Oz,AK,())).bind fun kY=>
  some (((((),kY.1.1.2.1,(),(),(),kY.1.1.2.2.2.2.2.1,(),(),(),(),kY.1.1.2.2.2.2.2.2.2.2.2.2.1,()),false,()),()),(kY.2.1,kY.2.2.1,kY.2.2.2.1,kY.2.2.2.2.1,kY.2.2.2.2.2.1,kY.2.2.2.2.2.2.1,kY.2.2.2.2.2.2.2.1,kY.2.2.2.2.2.2.2.2.1,())))
 (if(0:Int)≤(0:Int)∧(0:Int)<(x35.length:Int)then(
 (P6 (((x35.getD 0 (0,0,[],[],false,[],())).2.2.2.2.2.1).length:Int) zO).bind fun u41=>
 (LN ck.1.1.1.2.1 ck.1.1.1.2.2.2.2.2.1 ck.1.1.1.2.2.2.2.2.2.2.2.2.2.1 u41.2.1 ck.2.2.2.2.2.2.2.2.2.1 ck.2.2.2.2.2.2.2.2.2.2.1 ck.2.2.2.2.2.2.2.2.2.2.2.1 ck.2.2.2.2.2.2.2.2.2.2.2.2.1 ck.2.2.2.2.2.2.2.2.2.2.2.2.2.1 x35 ck.2.2.2.2.2.2.2.2.2.2.2.2.2.2.2.1 ck.2.2.2.2.2.2.2.2.2.2.2.2.2.2.2.2.1).bind fun gW=>
 cond (!gW.1.1.2.1)
  ((C6 (BF,AJ,EE,IC,Ix,AS,Ov,Oi,Oy,Oz,AK,())).bind fun qc=>
  some (((((),qc.1.1.2.1,(),(),(),qc.1.1.2.2.2.2.2.1,(),(),(),(),qc.1.1.2.2.2.2.2.2.2.2.2.2.1,()),false,()),()),(qc.2.1,qc.2.2.1,qc.2.2.2.1,qc.2.2.2.2.1,qc.2.2.2.2.2.1,qc.2.2.2.2.2.2.1,qc.2.2.2.2.2.2.2.1,qc.2.2.2.2.2.2.2.2.1,())))
 (some (((((),gW.1.1.1.2.1,(),(),(),gW.1.1.1.2.2.2.2.2.1,(),(),(),(),gW.1.1.1.2.2.2.2.2.2.2.2.2.2.1,()),true,()),()),(gW.2.2.2.2.2.2.2.2.2.1,gW.2.2.2.2.2.2.2.2.2.2.1,gW.2.2.2.2.2.2.2.2.2.2.2.1,gW.2.2.2.2.2.2.2.2.2.2.2.2.1,gW.2.2.2.2.2.2.2.2.2.2.2.2.2.1,gW.2.2.2.2.2.2.2.2.2.2.2.2.2.2.1,gW.2.2.2.2.2.2.2.2.2.2.2.2.2.2.2.1,gW.2.2.2.2.2.2.2.2.2.2.2.2.2.2.2.2.1,()))))else none))else none)
def Bv:Nat→LL
 |0=>fun _ _ _ _ _ _ _ _ _ _ _ _ _ _ _ _ _ _ _ _ _ _ _ _ _ _ _ _ _ _ _ _ _ _ _ _ _=>none
 |n+1=>DD (Bv n)
def JG(R9:LL)(p0:ABH):Option JY:=
 (C6 (p0.1,p0.2.1,p0.2.2.1,p0.2.2.2.1,p0.2.2.2.2.1,p0.2.2.2.2.2.1,p0.2.2.2.2.2.2.1,p0.2.2.2.2.2.2.2.1,p0.2.2.2.2.2.2.2.2.1,p0.2.2.2.2.2.2.2.2.2.1,p0.2.2.2.2.2.2.2.2.2.2.1,())).bind fun u1=>
 cond ((p0.2.2.2.2.2.2.2.1.length:Int)==0)
  ((LN u1.1.1.2.1 u1.1.1.2.2.2.2.2.1 u1.1.1.2.2.2.2.2.2.2.2.2.2.1 [(8,0,0,0,[],())] u1.2.1 u1.2.2.1 u1.2.2.2.1 u1.2.2.2.2.1 u1.2.2.2.2.2.1 u1.2.2.2.2.2.2.1 u1.2.2.2.2.2.2.2.1 u1.2.2.2.2.2.2.2.2.1).bind fun u3=>
  let x4:AAG:=u3.2.2.2.2.2.2.2.2.2.1
  let x5:AAN:=u3.2.2.2.2.2.2.2.2.2.2.1
  let x6:AAG:=u3.2.2.2.2.2.2.2.2.2.2.2.1
  let x7:AAS:=u3.2.2.2.2.2.2.2.2.2.2.2.2.1
  let x8:AAX:=u3.2.2.2.2.2.2.2.2.2.2.2.2.2.1
  let x9:AAw:=u3.2.2.2.2.2.2.2.2.2.2.2.2.2.2.1
  let x10:AA2:=u3.2.2.2.2.2.2.2.2.2.2.2.2.2.2.2.1
  let x11:AAJ:=u3.2.2.2.2.2.2.2.2.2.2.2.2.2.2.2.2.1
  cond (!u3.1.1.2.1)
   ((FY (p0.1,p0.2.1,p0.2.2.1,p0.2.2.2.1,p0.2.2.2.2.1,p0.2.2.2.2.2.1,p0.2.2.2.2.2.2.1,p0.2.2.2.2.2.2.2.1,p0.2.2.2.2.2.2.2.2.1,p0.2.2.2.2.2.2.2.2.2.1,p0.2.2.2.2.2.2.2.2.2.2.1,())).bind fun Q4=>
   some (((((),Q4.1.1.2.1,(),(),(),Q4.1.1.2.2.2.2.2.1,(),(),(),(),Q4.1.1.2.2.2.2.2.2.2.2.2.2.1,()),false,()),()),(Q4.2.1,Q4.2.2.1,Q4.2.2.2.1,Q4.2.2.2.2.1,Q4.2.2.2.2.2.1,Q4.2.2.2.2.2.2.1,Q4.2.2.2.2.2.2.2.1,Q4.2.2.2.2.2.2.2.2.1,())))
  ((D9 (x4,u3.1.1.1.2.1,x5,x6,x7,u3.1.1.1.2.2.2.2.2.1,x8,x9,x10,x11,u3.1.1.1.2.2.2.2.2.2.2.2.2.2.1,())).bind fun cK=>
  cond (!cK.1.1)
   ((FY (p0.1,p0.2.1,p0.2.2.1,p0.2.2.2.1,p0.2.2.2.2.1,p0.2.2.2.2.2.1,p0.2.2.2.2.2.2.1,p0.2.2.2.2.2.2.2.1,p0.2.2.2.2.2.2.2.2.1,p0.2.2.2.2.2.2.2.2.2.1,p0.2.2.2.2.2.2.2.2.2.2.1,())).bind fun Uu=>
   some (((((),Uu.1.1.2.1,(),(),(),Uu.1.1.2.2.2.2.2.1,(),(),(),(),Uu.1.1.2.2.2.2.2.2.2.2.2.2.1,()),false,()),()),(Uu.2.1,Uu.2.2.1,Uu.2.2.2.1,Uu.2.2.2.2.1,Uu.2.2.2.2.2.1,Uu.2.2.2.2.2.2.1,Uu.2.2.2.2.2.2.2.1,Uu.2.2.2.2.2.2.2.2.1,())))
  (if(0:Int)≤(0:Int)∧(0:Int)<(x9.length:Int)then(
  (Gv (x4,u3.1.1.1.2.1,x5,x6,x7,u3.1.1.1.2.2.2.2.2.1,x8,x9,x10,x11,u3.1.1.1.2.2.2.2.2.2.2.2.2.2.1,()) ((x9.getD 0 (0,0,[],[],false,[],())).2.1)).bind fun x_=>
  R9 (x_.2.1.length:Int) 0 p0.1 p0.2.1 p0.2.2.1 p0.2.2.2.1 p0.2.2.2.2.1 p0.2.2.2.2.2.1 p0.2.2.2.2.2.2.1 p0.2.2.2.2.2.2.2.1 p0.2.2.2.2.2.2.2.2.1 p0.2.2.2.2.2.2.2.2.2.1 p0.2.2.2.2.2.2.2.2.2.2.1 0 0 false [] [] [] [] [] [] [] [] u3.1.1.1.2.1 u3.1.1.1.2.2.2.2.2.1 u3.1.1.1.2.2.2.2.2.2.2.2.2.2.1 x4 x5 x6 x7 x8 x9 x10 x11 x_.2.1 [])else none)))
 ((D9 (u1.2.1,u1.1.1.2.1,u1.2.2.1,u1.2.2.2.1,u1.2.2.2.2.1,u1.1.1.2.2.2.2.2.1,u1.2.2.2.2.2.1,u1.2.2.2.2.2.2.1,u1.2.2.2.2.2.2.2.1,u1.2.2.2.2.2.2.2.2.1,u1.1.1.2.2.2.2.2.2.2.2.2.2.1,())).bind fun V7=>
 cond (!V7.1.1)
  ((FY (p0.1,p0.2.1,p0.2.2.1,p0.2.2.2.1,p0.2.2.2.2.1,p0.2.2.2.2.2.1,p0.2.2.2.2.2.2.1,p0.2.2.2.2.2.2.2.1,p0.2.2.2.2.2.2.2.2.1,p0.2.2.2.2.2.2.2.2.2.1,p0.2.2.2.2.2.2.2.2.2.2.1,())).bind fun Yg=>
  some (((((),Yg.1.1.2.1,(),(),(),Yg.1.1.2.2.2.2.2.1,(),(),(),(),Yg.1.1.2.2.2.2.2.2.2.2.2.2.1,()),false,()),()),(Yg.2.1,Yg.2.2.1,Yg.2.2.2.1,Yg.2.2.2.2.1,Yg.2.2.2.2.2.1,Yg.2.2.2.2.2.2.1,Yg.2.2.2.2.2.2.2.1,Yg.2.2.2.2.2.2.2.2.1,())))
 (if(0:Int)≤(0:Int)∧(0:Int)<(u1.2.2.2.2.2.2.1.length:Int)then(
 (Gv (u1.2.1,u1.1.1.2.1,u1.2.2.1,u1.2.2.2.1,u1.2.2.2.2.1,u1.1.1.2.2.2.2.2.1,u1.2.2.2.2.2.1,u1.2.2.2.2.2.2.1,u1.2.2.2.2.2.2.2.1,u1.2.2.2.2.2.2.2.2.1,u1.1.1.2.2.2.2.2.2.2.2.2.2.1,()) ((u1.2.2.2.2.2.2.1.getD 0 (0,0,[],[],false,[],())).2.1)).bind fun Ze=>
 R9 (Ze.2.1.length:Int) 0 p0.1 p0.2.1 p0.2.2.1 p0.2.2.2.1 p0.2.2.2.2.1 p0.2.2.2.2.2.1 p0.2.2.2.2.2.2.1 p0.2.2.2.2.2.2.2.1 p0.2.2.2.2.2.2.2.2.1 p0.2.2.2.2.2.2.2.2.2.1 p0.2.2.2.2.2.2.2.2.2.2.1 0 0 false [] [] [] [] [] [] [] [] u1.1.1.2.1 u1.1.1.2.2.2.2.2.1 u1.1.1.2.2.2.2.2.2.2.2.2.2.1 u1.2.1 u1.2.2.1 u1.2.2.2.1 u1.2.2.2.2.1 u1.2.2.2.2.2.1 u1.2.2.2.2.2.2.1 u1.2.2.2.2.2.2.2.1 u1.2.2.2.2.2.2.2.2.1 Ze.2.1 [])else none))
def Iy(p0:ABH):Option JY:=JG (Bv Aq) p0
abbrev J9:Type:=ABV×Unit
abbrev L5:Type:=Int→List Int→Int→Int→Option J9
def Jj(R5:L5)(t3:Int)(t9:AAG)(t10 t11:Int):Option J9:=
 cond (decide (t11<t10))
  (if(0:Int)≤t11∧t11<(t9.length:Int)then(
  let x2:Int:=(t9.getD (t11.toNat) 0)
  if x2<0 then none else(
  R5 (bOr .i64 t3 (A6 (1*2^(min x2.toNat 64)))) t9 t10 (A6 (t11+1))))else none)
 (some ((t3,()),()))
def FP:Nat→L5
 |0=>fun _ _ _ _=>none
 |n+1=>Jj (FP n)
def Nr(R5:L5)(p0:AAG):Option J9:=
 (L9 p0 7).bind fun u1=>
 cond (!u1.1.1)
  (some (((-1),()),()))
 (R5 0 p0 (p0.length:Int) 0)
def L3(p0:AAG):Option J9:=Nr (FP Aq) p0
abbrev G9:Type:=ADp×ADR
abbrev LI:Type:=Int→Int→Int→Int→Bool→List Int→AAN→List Int→AAS→AAX→AAw→AA2→AAJ→Int→Int→Bool→List Int→AAN→List Int→AAS→AAX→AAw→AA2→AAJ→Option G9
def JL(R5:LI)(t1 t7 AJ AS:Int)(AK:Bool)(b1:AAG)(b2:AAN)(b3:AAG)(b4:AAS)(b5:AAX)(b6:AAw)(b7:AA2)(b8:AAJ)(ZQ ACu:Int)(vu:Bool)(Yr:AAG)(QA:AAN)(QB:AAG)(Zt:AAS)(Zr:AAX)(R0:AAw)(Tx:AA2)(X1:AAJ):Option G9:=
 (EA (Yr,ZQ,QA,QB,Zt,ACu,Zr,R0,Tx,X1,vu,()) (14,t1,255,0,[],())).bind fun u3=>
 cond (u3.1.1.2.1 !=0)
  (some (((((),ZQ,(),(),(),ACu,(),(),(),(),vu,()),t7,()),()),(Yr,QA,QB,Zt,Zr,R0,Tx,X1,())))
 (R5 t1 (A6 (t7+1)) AJ AS AK b1 b2 b3 b4 b5 b6 b7 b8 u3.1.1.1.2.1 u3.1.1.1.2.2.2.2.2.1 u3.1.1.1.2.2.2.2.2.2.2.2.2.2.1 u3.2.1 u3.2.2.1 u3.2.2.2.1 u3.2.2.2.2.1 u3.2.2.2.2.2.1 u3.2.2.2.2.2.2.1 u3.2.2.2.2.2.2.2.1 u3.2.2.2.2.2.2.2.2.1)
def GF:Nat→LI
 |0=>fun _ _ _ _ _ _ _ _ _ _ _ _ _ _ _ _ _ _ _ _ _ _ _ _=>none
 |n+1=>JL (GF n)
def Mi(R5:LI)(p0:ABH)(p1:Int):Option G9:=
 (D9 (p0.1,p0.2.1,p0.2.2.1,p0.2.2.2.1,p0.2.2.2.2.1,p0.2.2.2.2.2.1,p0.2.2.2.2.2.2.1,p0.2.2.2.2.2.2.2.1,p0.2.2.2.2.2.2.2.2.1,p0.2.2.2.2.2.2.2.2.2.1,p0.2.2.2.2.2.2.2.2.2.2.1,())).bind fun u1=>
 cond (!u1.1.1)
  (some (((((),0,(),(),(),0,(),(),(),(),false,()),0,()),()),([],[],[],[],[],[],[],[],())))
 ((C6 (p0.1,p0.2.1,p0.2.2.1,p0.2.2.2.1,p0.2.2.2.2.1,p0.2.2.2.2.2.1,p0.2.2.2.2.2.2.1,p0.2.2.2.2.2.2.2.1,p0.2.2.2.2.2.2.2.2.1,p0.2.2.2.2.2.2.2.2.2.1,p0.2.2.2.2.2.2.2.2.2.2.1,())).bind fun u2=>
 R5 p1 0 0 0 false [] [] [] [] [] [] [] [] u2.1.1.2.1 u2.1.1.2.2.2.2.2.1 u2.1.1.2.2.2.2.2.2.2.2.2.2.1 u2.2.1 u2.2.2.1 u2.2.2.2.1 u2.2.2.2.2.1 u2.2.2.2.2.2.1 u2.2.2.2.2.2.2.1 u2.2.2.2.2.2.2.2.1 u2.2.2.2.2.2.2.2.2.1)
def Ky(p0:ABH)(p1:Int):Option G9:=Mi (GF Aq) p0 p1
abbrev Da:Type:=ABS×Unit
abbrev It:Type:=List Int→Bool→Int→Int→List Int→Int→Int→Bool→List Int→AAN→List Int→AAS→AAX→AAw→AA2→AAJ→List Int→Option Da
abbrev H8:Type:=Int→Int→Int→Int→Int→Int→Bool→List Int→AAN→List Int→AAS→AAX→AAw→AA2→AAJ→Option Da
abbrev Hm:Type:=Int→Int→Int→Int→Bool→List Int→AAN→List Int→AAS→AAX→AAw→AA2→AAJ→AAJ→AAJ→Option Da
def GU(R7:It)(R16:H8)(zr:Hm)(t0:AAG)(t5:Bool)(t7 AJ:Int)(b1:AAG)(iW ACf:Int)(wI:Bool)(b3:AAG)(b4:AAN)(b5:AAG)(b6:AAS)(b7:AAX)(b8:AAw)(b9:AA2)(Yr:AAJ)(QA:AAG):Option Da:=
 cond ((decide (t7<(b1.length:Int))))
  (if QA.length+1≤IQ then(
  R7 t0 t5 (A6 (t7+1)) AJ b1 iW ACf wI b3 b4 b5 b6 b7 b8 b9 Yr (QA++[t7]))else none)
 (cond (!t5)
  ((I5 (b1,AJ,())).bind fun u5=>
  cond (t5==u5.1.1)
   ((DT (b1,AJ,()) QA).bind fun u6=>
   (PZ (b1,AJ,()) QA).bind fun u7=>
   some ((u6.1.1==u7.1.1,()),()))
  (some ((false,()),())))
 ((DT (b1,AJ,()) QA).bind fun u8=>
 cond (!u8.1.1)
  ((I5 (b1,AJ,())).bind fun u9=>
  cond (t5==u9.1.1)
   ((DT (b1,AJ,()) QA).bind fun Io=>
   (PZ (b1,AJ,()) QA).bind fun Rk=>
   some ((Io.1.1==Rk.1.1,()),()))
  (some ((false,()),())))
 ((L3 QA).bind fun Q4=>
 (EA (b3,iW,b4,b5,b6,ACf,b7,b8,b9,Yr,wI,()) (1,Q4.1.1,0,0,[],())).bind fun Nc=>
 (Zc t0 1).bind fun Uu=>
 R16 Q4.1.1 Nc.1.1.2.1 (Uu.1.1.tmod 5) 0 Nc.1.1.1.2.1 Nc.1.1.1.2.2.2.2.2.1 Nc.1.1.1.2.2.2.2.2.2.2.2.2.2.1 Nc.2.1 Nc.2.2.1 Nc.2.2.2.1 Nc.2.2.2.2.1 Nc.2.2.2.2.2.1 Nc.2.2.2.2.2.2.1 Nc.2.2.2.2.2.2.2.1 Nc.2.2.2.2.2.2.2.2.1)))
def Hh(R7:It)(R16:H8)(zr:Hm)(t8 t9 t10 t11 AJ AS:Int)(AK:Bool)(b1:AAG)(b2:AAN)(b3:AAG)(b4:AAS)(b5:AAX)(b6:AAw)(b7:AA2)(b8:AAJ):Option Da:=
 cond (decide (t11<t10))
  ((MO (b1,AJ,b2,b3,b4,AS,b5,b6,b7,b8,AK,()) 0 ([w8 (A6 (97+t11))].map fun n:Int=>UInt8.ofNat n.toNat)).bind fun dw=>
  cond (!dw.1.1.2.1)
   (some ((false,()),()))
  (R16 t8 t9 t10 (A6 (t11+1)) dw.1.1.1.2.1 dw.1.1.1.2.2.2.2.2.1 dw.1.1.1.2.2.2.2.2.2.2.2.2.2.1 dw.2.1 dw.2.2.1 dw.2.2.2.1 dw.2.2.2.2.1 dw.2.2.2.2.2.1 dw.2.2.2.2.2.2.1 dw.2.2.2.2.2.2.2.1 dw.2.2.2.2.2.2.2.2.1))
 ((EA (b1,AJ,b2,b3,b4,AS,b5,b6,b7,b8,AK,()) (1,t8,0,0,[],())).bind fun mA=>
 (Iy (mA.2.1,mA.1.1.1.2.1,mA.2.2.1,mA.2.2.2.1,mA.2.2.2.2.1,mA.1.1.1.2.2.2.2.2.1,mA.2.2.2.2.2.1,mA.2.2.2.2.2.2.1,mA.2.2.2.2.2.2.2.1,mA.2.2.2.2.2.2.2.2.1,mA.1.1.1.2.2.2.2.2.2.2.2.2.2.1,())).bind fun Yg=>
 (Ky (Yg.2.1,Yg.1.1.1.2.1,Yg.2.2.1,Yg.2.2.2.1,Yg.2.2.2.2.1,Yg.1.1.1.2.2.2.2.2.1,Yg.2.2.2.2.2.1,Yg.2.2.2.2.2.2.1,Yg.2.2.2.2.2.2.2.1,Yg.2.2.2.2.2.2.2.2.1,Yg.1.1.1.2.2.2.2.2.2.2.2.2.2.1,()) 0).bind fun VF=>
 let x24:AAJ:=VF.2.2.2.2.2.2.2.2.1
 (Qu (VF.2.1,VF.1.1.1.2.1,VF.2.2.1,VF.2.2.2.1,VF.2.2.2.2.1,VF.1.1.1.2.2.2.2.2.1,VF.2.2.2.2.2.1,VF.2.2.2.2.2.2.1,VF.2.2.2.2.2.2.2.1,x24,VF.1.1.1.2.2.2.2.2.2.2.2.2.2.1,()) 0).bind fun mO=>
 (Ps (VF.2.1,VF.1.1.1.2.1,VF.2.2.1,VF.2.2.2.1,VF.2.2.2.2.1,VF.1.1.1.2.2.2.2.2.1,VF.2.2.2.2.2.1,VF.2.2.2.2.2.2.1,VF.2.2.2.2.2.2.2.1,x24,VF.1.1.1.2.2.2.2.2.2.2.2.2.2.1,())).bind fun u26=>
 cond (t9 !=0)
  (some ((false,()),()))
 (cond (mA.1.1.2.1 !=0)
  (some ((false,()),()))
 (cond (!Yg.1.1.2.1)
  (some ((false,()),()))
 (cond ((VF.1.1.2.1 !=(A6 (t10+1))))
  (some ((false,()),()))
 (cond ((mO.2.1.length:Int) !=t10)
  (some ((false,()),()))
 (cond ((u26.2.1.length:Int) !=t10)
  (some ((false,()),()))
 (zr t10 0 VF.1.1.1.2.1 VF.1.1.1.2.2.2.2.2.1 VF.1.1.1.2.2.2.2.2.2.2.2.2.2.1 VF.2.1 VF.2.2.1 VF.2.2.2.1 VF.2.2.2.2.1 VF.2.2.2.2.2.1 VF.2.2.2.2.2.2.1 VF.2.2.2.2.2.2.2.1 x24 mO.2.1 u26.2.1)))))))
def He(R7:It)(R16:H8)(zr:Hm)(t10 t19 AJ AS:Int)(AK:Bool)(b1:AAG)(b2:AAN)(b3:AAG)(b4:AAS)(b5:AAX)(b6:AAw)(b7:AA2)(b8 b9 Yr:AAJ):Option Da:=
 cond (decide (t19<t10))
  (if(0:Int)≤t19∧t19<(b9.length:Int)then(
  (Sr (b1,AJ,b2,b3,b4,AS,b5,b6,b7,b8,AK,()) ((b9.getD (t19.toNat) (0,[],false,())).1)).bind fun jb=>
  if(0:Int)≤t19∧t19<(b9.length:Int)then(
  if(0:Int)≤t19∧t19<(Yr.length:Int)then(
  cond ((!((((b9.getD (t19.toNat) (0,[],false,())).1)==((Yr.getD (t19.toNat) (0,[],false,())).1))&&((((b9.getD (t19.toNat) (0,[],false,())).2.1)==((Yr.getD (t19.toNat) (0,[],false,())).2.1))&&((((b9.getD (t19.toNat) (0,[],false,())).2.2.1)==((Yr.getD (t19.toNat) (0,[],false,())).2.2.1))&&true)))))
   (some ((false,()),()))
  (cond (!jb.1.1.2.1)
   (some ((false,()),()))
  (cond (!(jb.1.1.1==([w8 (A6 (97+t19))].map fun n:Int=>UInt8.ofNat n.toNat)))
   (some ((false,()),()))
  (if(0:Int)≤t19∧t19<(b9.length:Int)then(
  (LF ((b9.getD (t19.toNat) (0,[],false,())).1)).bind fun u35=>
  cond ((u35.1.1 !=(A6 (t19+1))))
   (some ((false,()),()))
  (zr t10 (A6 (t19+1)) AJ AS AK b1 b2 b3 b4 b5 b6 b7 b8 b9 Yr))else none))))else none)else none)else none)
 (if(0:Int)≤(0:Int)∧(0:Int)<(b7.length:Int)then(
 cond (((b7.getD 0 (0,0,[],())).1)==2)
  (if(0:Int)≤(0:Int)∧(0:Int)<(b7.length:Int)then(
  some ((((b7.getD 0 (0,0,[],())).2.1)==1,()),()))else none)
 (some ((false,()),())))else none)
mutual
def EB:Nat→It
 |0=>fun _ _ _ _ _ _ _ _ _ _ _ _ _ _ _ _ _=>none
 |n+1=>GU (EB n) (Dk n) (Dp n)
def Dk:Nat→H8
 |0=>fun _ _ _ _ _ _ _ _ _ _ _ _ _ _ _=>none
 |n+1=>Hh (EB n) (Dk n) (Dp n)
def Dp:Nat→Hm
 |0=>fun _ _ _ _ _ _ _ _ _ _ _ _ _ _ _=>none
 |n+1=>He (EB n) (Dk n) (Dp n)
end
def PV(R7:It)(R16:H8)(zr:Hm)(p0:AAG):Option Da:=
 (bc p0).bind fun u1=>
 cond (u1.1.1)
  (some ((true,()),()))
 ((L4 p0).bind fun u2=>
 (Ez (u2.2.1,u2.1.1.2.1,())).bind fun u3=>
 R7 p0 u3.1.1.2.1 0 u2.1.1.2.1 u2.2.1 u3.1.1.1.2.1 u3.1.1.1.2.2.2.2.2.1 u3.1.1.1.2.2.2.2.2.2.2.2.2.2.1 u3.2.1 u3.2.2.1 u3.2.2.2.1 u3.2.2.2.2.1 u3.2.2.2.2.2.1 u3.2.2.2.2.2.2.1 u3.2.2.2.2.2.2.2.1 u3.2.2.2.2.2.2.2.2.1 [])
def Ls(p0:AAG):Option Da:=PV (EB Aq) (Dk Aq) (Dp Aq) p0
end
end Go.M
