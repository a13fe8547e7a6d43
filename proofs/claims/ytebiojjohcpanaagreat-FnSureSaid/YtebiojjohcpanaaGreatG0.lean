/- What each function computes, printed by a program out of the translation; what is printed is checked in the equations. -/
import Derived.Test.YtebiojjohcpanaaGreatF1
set_option linter.unusedVariables false
set_option linter.unusedSimpArgs false
set_option linter.unusedSectionVars false
namespace Go.M
noncomputable section
abbrev QM:Type:=ABZ×Unit
def US(p0:AAH):Option QM:=
 some (((decide ((p0.length:Int)>1048576)),()),())
abbrev Vb:Type:=ACL×ACs
abbrev ZC:Type:=List Int→Int→Int→Option Vb
def Zz(R3:ZC)(t0:AAH)(t3 t4:Int):Option Vb:=
 cond ((decide (t4<(t0.length:Int))))
  (cond (decide (t4<4000))
   (if(0:Int)≤t4∧t4<(t0.length:Int)then(
   R3 t0 (br .i64 (AX ((AX ((AX (t3*131))+(AX ((t0.getD (t4.toNat) 0)))))+7)) 1073741823) (AX (t4+1)))else none)
  (some (((),()),((t0,0,t3,()),()))))
 (some (((),()),((t0,0,t3,()),())))
def PT:Nat→ZC
 |0=>fun _ _ _=>none
 |n+1=>Zz (PT n)
def Zg(R3:ZC)(p0:AAH):Option Vb:=
 R3 p0 (AX (17817+(p0.length:Int))) 0
def au(p0:AAH):Option Vb:=Zg (PT Ae) p0
abbrev q7:Type:=ABp×ACs
def Lv(AR:AAH)(AE Ah:Int):Option q7:=
 let x2:Int:=AX ((AX (Ah*6364136223846793005))+1442695040888963407)
 let x3:Int:=AOI .i64 (x2.fdiv (2^33)) (x2.fdiv (2^45))
 cond ((decide (AE<(AR.length:Int))))
  (if(0:Int)≤AE∧AE<(AR.length:Int)then(
  some ((br .i64 (AX ((br .i64 x3 255)+(AX ((AR.getD (AE.toNat) 0))))) 255,()),((AR,AX (AE+1),x2,()),())))else none)
 (some ((br .i64 x3 255,()),((AR,AE,x2,()),())))
abbrev nX:Type:=ABp×ACs
def Am(p1:Int)(AR:AAH)(AE Ah:Int):Option nX:=
 cond (decide (p1≤0))
  (some ((0,()),((AR,AE,Ah,()),())))
 (cond (decide (p1≤256))
  ((Lv AR AE Ah).bind fun u1=>
  if p1=0 then none else(
  some ((u1.1.1.tmod p1,()),((u1.2.1.1,u1.2.1.2.1,u1.2.1.2.2.1,()),()))))
 ((Lv AR AE Ah).bind fun u2=>
 (Lv u2.2.1.1 u2.2.1.2.1 u2.2.1.2.2.1).bind fun u3=>
 (Lv u3.2.1.1 u3.2.1.2.1 u3.2.1.2.2.1).bind fun u4=>
 (Lv u4.2.1.1 u4.2.1.2.1 u4.2.1.2.2.1).bind fun u5=>
 if p1=0 then none else(
 some ((((AX ((AX ((AX ((AX (u2.1.1*16777216))+(AX (u3.1.1*65536))))+(AX (u4.1.1*256))))+u5.1.1)).tmod p1),()),((u5.2.1.1,u5.2.1.2.1,u5.2.1.2.2.1,()),())))))
abbrev qt:Type:=ABZ×ACs
def B8(p1:Int)(AR:AAH)(AE Ah:Int):Option qt:=
 (Am p1 AR AE Ah).bind fun u1=>
 some ((u1.1.1==0,()),((u1.2.1.1,u1.2.1.2.1,u1.2.1.2.2.1,()),()))
abbrev MP:Type:=AEX×AFd
abbrev PM:Type:=Int→Int→List Int→Int→Int→Int→List Int→Int→List Int→Option MP
def Rc(R4:PM)(t4 t5:Int)(AR:AAH)(AE Ah Bj:Int)(b2:AAH)(sg:Int)(b4:AAH):Option MP:=
 cond (decide (t5<t4))
  ((Am 5 AR AE Ah).bind fun u3=>
  if b4.length+1≤Ds then(
  R4 t4 (AX (t5+1)) u3.2.1.1 u3.2.1.2.1 u3.2.1.2.2.1 Bj b2 sg (b4++[u3.1.1]))else none)
 ((B8 2 AR AE Ah).bind fun u5=>
 cond (u5.1.1)
  (some ((((),2,()),()),((u5.2.1.1,u5.2.1.2.1,u5.2.1.2.2.1,()),b4,())))
 (some ((((),sg,()),()),((u5.2.1.1,u5.2.1.2.1,u5.2.1.2.2.1,()),b4,()))))
def IL:Nat→PM
 |0=>fun _ _ _ _ _ _ _ _ _=>none
 |n+1=>Rc (IL n)
def RD(R4:PM)(AR:AAH)(AE Ah:Int):Option MP:=
 (Am 3 AR AE Ah).bind fun u1=>
 (Am 5 u1.2.1.1 u1.2.1.2.1 u1.2.1.2.2.1).bind fun u2=>
 R4 (AX (3+u2.1.1)) 0 u2.2.1.1 u2.2.1.2.1 u2.2.1.2.2.1 0 [] (AX (1+u1.1.1)) []
def Om(AR:AAH)(AE Ah:Int):Option MP:=RD (IL Ae) AR AE Ah
abbrev kL:Type:=ABp×ACs
def OP(p1 AR:AAH)(AE Ah:Int):Option kL:=
 (Am (p1.length:Int) AR AE Ah).bind fun u1=>
 if(0:Int)≤u1.1.1∧u1.1.1<(p1.length:Int)then(
 some (((p1.getD (u1.1.1.toNat) 0),()),((u1.2.1.1,u1.2.1.2.1,u1.2.1.2.2.1,()),())))else none
abbrev bl:Type:=ACL×ACb
def DG(p0:AAH):Option bl:=
 if 0+p0.length≤Ds then(
 some (((),()),(p0,())))else none
abbrev gr:Type:=AEX×ACb
def Py(p0:ABO):Option gr:=
 (DG p0.1).bind fun u1=>
 some ((((),p0.2.1,()),()),(u1.2.1,()))
abbrev Mt:Type:=ABZ×Unit
def A4(p0 p1 p2:Int):Option Mt:=
 cond (decide (p0≥p1))
  (some ((decide (p0≤p2),()),()))
 (some ((false,()),()))
abbrev Pr:Type:=ABZ×Unit
abbrev Sz:Type:=List Int→Int→Int→List Int→Int→Option Pr
def VD(R2:Sz)(t6:AAH)(t7 t8:Int)(AR:AAH)(AE:Int):Option Pr:=
 cond (decide (t8<t7))
  (if(0:Int)≤t8∧t8<(t6.length:Int)then(
  (A4 (t6.getD (t8.toNat) 0) 0 7).bind fun u2=>
  cond (!u2.1.1)
   (some ((false,()),()))
  (R2 t6 t7 (AX (t8+1)) AR AE))else none)
 ((A4 (AR.length:Int) 1 8).bind fun u3=>
 cond (u3.1.1)
  ((A4 AE 1 4).bind fun u4=>
  some ((u4.1.1,()),()))
 (some ((false,()),())))
def LA:Nat→Sz
 |0=>fun _ _ _ _ _=>none
 |n+1=>VD (LA n)
def VS(R2:Sz)(p0:ABO):Option Pr:=
 R2 p0.1 (p0.1.length:Int) 0 p0.1 p0.2.1
def Ez(p0:ABO):Option Pr:=VS (LA Ae) p0
abbrev SJ:Type:=ABZ×Unit
abbrev U0:Type:=List Int→Int→List Int→Int→Int→Option SJ
def QJ(R2:U0)(t0:AAH)(t1:Int)(t7:AAH)(t8 t9:Int):Option SJ:=
 cond (decide (t9<t8))
  (if(0:Int)≤t9∧t9<(t7.length:Int)then(
  let x1:Int:=(t7.getD (t9.toNat) 0)
  (A4 x1 0 t1).bind fun u2=>
  cond (!u2.1.1)
   (some ((false,()),()))
  (cond (decide (t9>0))
   (if(0:Int)≤AX (t9-1)∧AX (t9-1)<(t0.length:Int)then(
   cond (decide ((t0.getD ((AX (t9-1)).toNat) 0)≥x1))
    (some ((false,()),()))
   (R2 t0 t1 t7 t8 (AX (t9+1))))else none)
  (R2 t0 t1 t7 t8 (AX (t9+1)))))else none)
 (some ((true,()),()))
def Jv:Nat→U0
 |0=>fun _ _ _ _ _=>none
 |n+1=>QJ (Jv n)
def XC(R2:U0)(p0:AAH)(p1:Int):Option SJ:=
 R2 p0 p1 p0 (p0.length:Int) 0
def Vs(p0:AAH)(p1:Int):Option SJ:=XC (Jv Ae) p0 p1
abbrev nM:Type:=ABZ×Unit
def D7(p0:ABO)(p1:AAH):Option nM:=
 (Ez (p0.1,p0.2.1,())).bind fun u1=>
 cond (u1.1.1)
  ((Vs p1 (AX ((p0.1.length:Int)-1))).bind fun u3=>
  some ((u3.1.1,()),()))
 (some ((false,()),()))
abbrev pv:Type:=ABZ×Unit
def HS(p0:Int):Option pv:=
 (A4 p0 1 30).bind fun u1=>
 some ((u1.1.1,()),())
abbrev sd:Type:=ABZ×Unit
def XD(p0:Int):Option sd:=
 (A4 p0 1 60).bind fun u1=>
 some ((u1.1.1,()),())
abbrev pM:Type:=ABZ×Unit
def D6(p0:Int):Option pM:=
 (HS (AX (p0.tdiv 4294967296))).bind fun u2=>
 cond (u2.1.1)
  ((XD (p0.tmod 4294967296)).bind fun u3=>
  some ((u3.1.1,()),()))
 (some ((false,()),()))
abbrev q9:Type:=ABZ×Unit
def F7(p0:ABs):Option q9:=
 some (((decide ((p0.length:Int)≤40)),()),())
abbrev pf:Type:=ABp×Unit
def FB(p0:Int):Option pf:=
 (D6 p0).bind fun u1=>
 cond (!u1.1.1)
  (some ((0,()),()))
 (some (((AX (p0.tdiv 4294967296)),()),()))
abbrev nV:Type:=ABZ×Unit
def Lw(p0:ACg):Option nV:=
 (A4 p0.2.1 0 30).bind fun u1=>
 cond (u1.1.1)
  (cond (p0.2.1==0)
   (cond (!p0.2.2.1)
    ((D6 p0.1).bind fun u2=>
    cond (u2.1.1)
     ((F7 p0.2.2.2.1).bind fun u3=>
     some ((u3.1.1,()),()))
    (some ((false,()),())))
   (cond (decide (p0.2.1>0))
    ((D6 p0.1).bind fun u4=>
    cond (u4.1.1)
     (cond (p0.2.2.2.1==[])
      ((F7 p0.2.2.2.1).bind fun u5=>
      some ((u5.1.1,()),()))
     (some ((false,()),())))
    (some ((false,()),())))
   ((D6 p0.1).bind fun u6=>
   cond (u6.1.1)
    (some ((false,()),()))
   (some ((false,()),())))))
  ((FB p0.1).bind fun u7=>
  let x8:Bool:=decide (p0.2.1>u7.1.1)
  cond (!p0.2.2.1)
   ((D6 p0.1).bind fun u9=>
   cond (u9.1.1)
    (cond (x8)
     ((F7 p0.2.2.2.1).bind fun EW=>
     some ((EW.1.1,()),()))
    (some ((false,()),())))
   (some ((false,()),())))
  (cond (decide (p0.2.1>0))
   ((D6 p0.1).bind fun Nq=>
   cond (Nq.1.1)
    (cond (x8)
     (cond (p0.2.2.2.1==[])
      ((F7 p0.2.2.2.1).bind fun bS=>
      some ((bS.1.1,()),()))
     (some ((false,()),())))
    (some ((false,()),())))
   (some ((false,()),())))
  ((D6 p0.1).bind fun V5=>
  cond (V5.1.1)
   (cond (x8)
    (some ((false,()),()))
   (some ((false,()),())))
  (some ((false,()),()))))))
 (cond (!p0.2.2.1)
  ((D6 p0.1).bind fun VO=>
  cond (VO.1.1)
   (some ((false,()),()))
  (some ((false,()),())))
 (cond (decide (p0.2.1>0))
  ((D6 p0.1).bind fun zd=>
  cond (zd.1.1)
   (some ((false,()),()))
  (some ((false,()),())))
 ((D6 p0.1).bind fun u16=>
 cond (u16.1.1)
  (some ((false,()),()))
 (some ((false,()),())))))
abbrev OW:Type:=ABZ×Unit
abbrev Rn:Type:=AA_→Int→Int→Option OW
def OO(R2:Rn)(t5:AA_)(t6 t7:Int):Option OW:=
 cond (decide (t7<t6))
  (if(0:Int)≤t7∧t7<(t5.length:Int)then(
  (Lw ((t5.getD (t7.toNat) (0,0,false,[],())).1,(t5.getD (t7.toNat) (0,0,false,[],())).2.1,(t5.getD (t7.toNat) (0,0,false,[],())).2.2.1,(t5.getD (t7.toNat) (0,0,false,[],())).2.2.2.1,())).bind fun u1=>
  cond (!u1.1.1)
   (some ((false,()),()))
  (R2 t5 t6 (AX (t7+1))))else none)
 (some ((true,()),()))
def Hz:Nat→Rn
 |0=>fun _ _ _=>none
 |n+1=>OO (Hz n)
def Ue(R2:Rn)(p0:AA_):Option OW:=
 R2 p0 (p0.length:Int) 0
def N6(p0:AA_):Option OW:=Ue (Hz Ae) p0
abbrev Ku:Type:=ABZ×Unit
abbrev Nz:Type:=AA_→AA_→Int→Int→Option Ku
def Lb(R2:Nz)(t0 t5:AA_)(t6 t7:Int):Option Ku:=
 cond (decide (t7<t6))
  (if(0:Int)≤t7∧t7<(t5.length:Int)then(
  cond (decide (t7>0))
   (if(0:Int)≤AX (t7-1)∧AX (t7-1)<(t0.length:Int)then(
   cond (decide (((t0.getD ((AX (t7-1)).toNat) (0,0,false,[],())).1)≥((t5.getD (t7.toNat) (0,0,false,[],())).1)))
    (some ((false,()),()))
   (R2 t0 t5 t6 (AX (t7+1))))else none)
  (R2 t0 t5 t6 (AX (t7+1))))else none)
 (some ((true,()),()))
def GF:Nat→Nz
 |0=>fun _ _ _ _=>none
 |n+1=>Lb (GF n)
def Qe(R2:Nz)(p0:AA_):Option Ku:=
 R2 p0 p0 (p0.length:Int) 0
def KF(p0:AA_):Option Ku:=Qe (GF Ae) p0
abbrev qC:Type:=ABZ×Unit
def FD(p0:ACP):Option qC:=
 cond ((decide ((p0.1.length:Int)>200)))
  (some ((false,()),()))
 (cond (decide ((p0.2.1.length:Int)>20))
  (some ((false,()),()))
 ((N6 p0.1).bind fun u3=>
 cond (u3.1.1)
  ((N6 p0.2.1).bind fun u4=>
  cond (u4.1.1)
   ((KF p0.1).bind fun u5=>
   cond (u5.1.1)
    ((A4 p0.2.2.1 0 30).bind fun u6=>
    some ((u6.1.1,()),()))
   (some ((false,()),())))
  (some ((false,()),())))
 (some ((false,()),()))))
abbrev IV:Type:=ABp×Unit
abbrev LQ:Type:=List Int→Int→Int→Int→Option IV
def Ns(R2:LQ)(t0:AAH)(t1 t7 t8:Int):Option IV:=
 cond (decide (t8<t7))
  (if(0:Int)≤t8∧t8<(t0.length:Int)then(
  cond (t1==(t0.getD (t8.toNat) 0))
   (some ((t8,()),()))
  (R2 t0 t1 t7 (AX (t8+1))))else none)
 (some (((-1),()),()))
def GI:Nat→LQ
 |0=>fun _ _ _ _=>none
 |n+1=>Ns (GI n)
def N4(R2:LQ)(p0:AAH)(p1:Int):Option IV:=
 R2 p0 p1 (p0.length:Int) 0
def Nl(p0:AAH)(p1:Int):Option IV:=N4 (GI Ae) p0 p1
abbrev Xc:Type:=ABZ×Unit
def Bt(p0:AAH)(p1:Int):Option Xc:=
 (Nl p0 p1).bind fun u1=>
 some ((decide (u1.1.1≥0),()),())
abbrev rG:Type:=ABZ×Unit
def Q5(p0:Int)(p1:ACb):Option rG:=
 (Bt p1.1 p0).bind fun u1=>
 some ((!u1.1.1,()),())
abbrev DK:Type:=ABp×Unit
abbrev EZ:Type:=List Int→(ACb×Unit)→Int→Int→Option DK
def D4(R2:EZ)(t0:AAH)(t1:ACb×Unit)(t7 t8:Int):Option DK:=
 cond (decide (t8<t7))
  (if(0:Int)≤t8∧t8<(t0.length:Int)then(
  (Q5 (t0.getD (t8.toNat) 0) t1.1).bind fun u2=>
  cond (u2.1.1)
   (some ((t8,()),()))
  (R2 t0 (t1.1,()) t7 (AX (t8+1))))else none)
 (some (((-1),()),()))
def CA:Nat→EZ
 |0=>fun _ _ _ _=>none
 |n+1=>D4 (CA n)
def D8(R2:EZ)(p0:AAH)(p1:ACb×Unit):Option DK:=
 R2 p0 (p1.1,()) (p0.length:Int) 0
def Di(p0:AAH)(p1:ACb×Unit):Option DK:=D8 (CA Ae) p0 p1
abbrev DH:Type:=ACL×AFe
abbrev EP:Type:=(ACb×Unit)→Int→Int→List Int→Option DH
def Dw(R5:EP)(t1:ACb×Unit)(t5 t6:Int)(b0:AAH):Option DH:=
 cond ((decide (t6<(b0.length:Int))))
  (if(0:Int)≤t6∧t6<(b0.length:Int)then(
  let x3:Int:=(b0.getD (t6.toNat) 0)
  (Q5 x3 t1.1).bind fun u4=>
  cond (!u4.1.1)
   (if(0:Int)≤t5∧t5<(b0.length:Int)then(
   R5 (t1.1,()) (AX (t5+1)) (AX (t6+1)) (b0.set (t5.toNat) x3))else none)
  (R5 (t1.1,()) t5 (AX (t6+1)) b0))else none)
 (if(0:Int)≤t5∧t5≤(b0.length:Int)∧(b0.length:Int)≤(b0.length:Int)then(
 let x6:AAH:=(b0.take (t5.toNat)++List.replicate (((b0.length:Int).toNat)-(t5.toNat)) 0++b0.drop ((t5.toNat)+(((b0.length:Int).toNat)-(t5.toNat))))
 if(0:Int)≤(0:Int)∧(0:Int)≤t5∧t5≤(x6.length:Int)then(
 some (((),()),((),((x6.drop 0).take ((t5.toNat)-0)),())))else none)else none)
def B3:Nat→EP
 |0=>fun _ _ _ _=>none
 |n+1=>Dw (B3 n)
def Dy(R5:EP)(p1:ACb×Unit)(b0:AAH):Option DH:=
 (Di b0 (p1.1,())).bind fun u1=>
 cond (u1.1.1==(-1))
  (some (((),()),((),b0,())))
 (R5 (p1.1,()) u1.1.1 (AX (u1.1.1+1)) b0)
def Cq(p1:ACb×Unit)(b0:AAH):Option DH:=Dy (B3 Ae) p1 b0
abbrev vi:Type:=ACL×ACb
def Mx(p0 p1:AAH):Option vi:=
 (DG p0).bind fun u1=>
 (Cq ((p1,()),()) u1.2.1).bind fun u2=>
 some (((),()),(u2.2.2.1,()))
abbrev Ks:Type:=ABZ×Unit
def C8(p0:ABS)(p1:Int):Option Ks:=
 (Mx [p1] p0.2.2.2.1).bind fun u1=>
 some ((decide ((u1.2.1.length:Int)>0),()),())
abbrev Tu:Type:=ABp×Unit
abbrev Wy:Type:=List Int→Int→Int→List Int→Int→List Int→Option Tu
def Xe(R5:Wy)(t13:AAH)(t14 t15:Int)(AR:AAH)(AE:Int)(b1:AAH):Option Tu:=
 cond (decide (t15<t14))
  (if(0:Int)≤t15∧t15<(t13.length:Int)then(
  let x2:Int:=(t13.getD (t15.toNat) 0)
  if(0:Int)≤x2∧x2<(AR.length:Int)then(
  (Bt b1 (AR.getD (x2.toNat) 0)).bind fun u4=>
  cond (!u4.1.1)
   (if(0:Int)≤x2∧x2<(AR.length:Int)then(
   if b1.length+1≤Ds then(
   R5 t13 t14 (AX (t15+1)) AR AE (b1++[(AR.getD (x2.toNat) 0)]))else none)else none)
  (R5 t13 t14 (AX (t15+1)) AR AE b1))else none)else none)
 (some (((b1.length:Int),()),()))
def Nt:Nat→Wy
 |0=>fun _ _ _ _ _ _=>none
 |n+1=>Xe (Nt n)
def YR(R5:Wy)(p0:ABO)(p1:AAH):Option Tu:=
 (D7 (p0.1,p0.2.1,()) p1).bind fun u1=>
 cond (!u1.1.1)
  (some (((-1),()),()))
 (R5 p1 (p1.length:Int) 0 p0.1 p0.2.1 [])
def Xn(p0:ABO)(p1:AAH):Option Tu:=YR (Nt Ae) p0 p1
abbrev iw:Type:=ABZ×Unit
def Ge(p0:ABO)(p1:AAH):Option iw:=
 (D7 (p0.1,p0.2.1,()) p1).bind fun u1=>
 cond (u1.1.1)
  ((Xn (p0.1,p0.2.1,()) p1).bind fun u2=>
  some (((decide (u2.1.1≥p0.2.1)),()),()))
 (some ((false,()),()))
abbrev Jf:Type:=ABZ×Unit
abbrev MN:Type:=ABS→AAQ→Int→Int→Option Jf
def Jp(R4:MN)(t0:ABS)(t32:AAQ)(t33 t34:Int):Option Jf:=
 cond (decide (t34<t33))
  (if(0:Int)≤t34∧t34<(t32.length:Int)then(
  (FD ((t32.getD (t34.toNat) ([],[],0,())).1,(t32.getD (t34.toNat) ([],[],0,())).2.1,(t32.getD (t34.toNat) ([],[],0,())).2.2.1,())).bind fun u5=>
  cond (!u5.1.1)
   (some ((false,()),()))
  ((C8 t0 t34).bind fun u6=>
  cond (u6.1.1)
   (cond (decide ((AX ((AX ((((t32.getD (t34.toNat) ([],[],0,())).1).length:Int)+(((t32.getD (t34.toNat) ([],[],0,())).2.1).length:Int)))+((t32.getD (t34.toNat) ([],[],0,())).2.2.1)))>0))
    (some ((false,()),()))
   (R4 t0 t32 t33 (AX (t34+1))))
  (R4 t0 t32 t33 (AX (t34+1)))))else none)
 (cond (t0.2.2.2.2.2.2.2.2.2.2.1)
  (some ((true,()),()))
 ((Ge (t0.1,t0.2.1,()) t0.2.2.2.1).bind fun bS=>
 some ((!bS.1.1,()),())))
def FE:Nat→MN
 |0=>fun _ _ _ _=>none
 |n+1=>Jp (FE n)
def PA(R4:MN)(p0:ABS):Option Jf:=
 cond (((p0.2.2.1.length:Int) !=(p0.1.length:Int)))
  (some ((false,()),()))
 ((D7 (p0.1,p0.2.1,()) p0.2.2.2.1).bind fun u3=>
 cond (!u3.1.1)
  (some ((false,()),()))
 (R4 p0 p0.2.2.1 (p0.2.2.1.length:Int) 0))
def Kt(p0:ABS):Option Jf:=PA (FE Ae) p0
abbrev uX:Type:=ABZ×Unit
def ae(p0:ABO)(p1:AE7):Option uX:=
 (Ge (p0.1,p0.2.1,()) p1.1).bind fun u1=>
 cond (u1.1.1)
  ((A4 p1.2.2.1 0 60).bind fun u2=>
  cond (u2.1.1)
   (cond (p1.2.1)
    (some ((true,()),()))
   (some ((p1.2.2.1==0,()),())))
  (some ((false,()),())))
 (some ((false,()),()))
abbrev RZ:Type:=ABZ×Unit
abbrev Yq:Type:=AAk→Int→Int→List Int→Int→AAk→Int→Option RZ
def TE(R2:Yq)(t9:AAk)(t10 t11:Int)(AR:AAH)(AE:Int)(Co:AAk)(Bj:Int):Option RZ:=
 cond (decide (t11<t10))
  (if(0:Int)≤t11∧t11<(t9.length:Int)then(
  (ae (AR,AE,()) ((t9.getD (t11.toNat) ([],false,0,())).1,(t9.getD (t11.toNat) ([],false,0,())).2.1,(t9.getD (t11.toNat) ([],false,0,())).2.2.1,())).bind fun u1=>
  cond (!u1.1.1)
   (some ((false,()),()))
  (cond (((t9.getD (t11.toNat) ([],false,0,())).2.1))
   (cond (t11==(AX ((Co.length:Int)-1)))
    (some ((false,()),()))
   (cond (decide (t11>0))
    (if(0:Int)≤AX (t11-1)∧AX (t11-1)<(Co.length:Int)then(
    cond (!((Co.getD ((AX (t11-1)).toNat) ([],false,0,())).2.1))
     (some ((false,()),()))
    (R2 t9 t10 (AX (t11+1)) AR AE Co Bj))else none)
   (R2 t9 t10 (AX (t11+1)) AR AE Co Bj)))
  (R2 t9 t10 (AX (t11+1)) AR AE Co Bj)))else none)
 (cond (Bj==0)
  ((Ez (AR,AE,())).bind fun u5=>
  cond (u5.1.1)
   (cond ((decide ((Co.length:Int)≤30)))
    (some ((true,()),()))
   (some ((false,()),())))
  (some ((false,()),())))
 ((FB Bj).bind fun u7=>
 (A4 u7.1.1 1 (Co.length:Int)).bind fun u8=>
 (Ez (AR,AE,())).bind fun u9=>
 cond (u9.1.1)
  (cond ((decide ((Co.length:Int)≤30)))
   (some ((u8.1.1,()),()))
  (some ((false,()),())))
 (some ((false,()),()))))
def Ke:Nat→Yq
 |0=>fun _ _ _ _ _ _ _=>none
 |n+1=>TE (Ke n)
def Z0(R2:Yq)(p0:ABO)(p1:ACC):Option RZ:=
 R2 p1.1 (p1.1.length:Int) 0 p0.1 p0.2.1 p1.1 p1.2.1
def Kc(p0:ABO)(p1:ACC):Option RZ:=Z0 (Ke Ae) p0 p1
abbrev qG:Type:=ABp×Unit
def aR(p0:Bool):Option qG:=
 cond (p0)
  (some ((1,()),()))
 (some ((0,()),()))
abbrev Mo:Type:=ABZ×Unit
abbrev TB:Type:=Int→ACH→Int→Int→List Int→Int→Int→ACH→Option Mo
def VV(R3:TB)(t5:Int)(t9:ACH)(t10 t11:Int)(AR:AAH)(AE Co:Int)(Bj:ACH):Option Mo:=
 cond (decide (t11<t10))
  (if(0:Int)≤t11∧t11<(t9.length:Int)then(
  (F7 ((t9.getD (t11.toNat) ([],[],false,())).1)).bind fun u3=>
  cond (!u3.1.1)
   (some ((false,()),()))
  ((D7 (AR,AE,()) ((t9.getD (t11.toNat) ([],[],false,())).2.1)).bind fun u4=>
  cond (!u4.1.1)
   (some ((false,()),()))
  ((Ge (AR,AE,()) ((t9.getD (t11.toNat) ([],[],false,())).2.1)).bind fun u6=>
  cond (((t9.getD (t11.toNat) ([],[],false,())).2.2.1) !=u6.1.1)
   (some ((false,()),()))
  ((aR (!((t9.getD (t11.toNat) ([],[],false,())).2.2.1))).bind fun u8=>
  R3 (AX (t5+u8.1.1)) t9 t10 (AX (t11+1)) AR AE Co Bj))))else none)
 ((Ez (AR,AE,())).bind fun u9=>
 cond (u9.1.1)
  ((HS Co).bind fun EW=>
  cond (EW.1.1)
   (cond ((decide ((Bj.length:Int)≤60)))
    (some ((decide (t5≤6),()),()))
   (some ((false,()),())))
  (some ((false,()),())))
 (some ((false,()),())))
def LH:Nat→TB
 |0=>fun _ _ _ _ _ _ _ _=>none
 |n+1=>VV (LH n)
def U8(R3:TB)(p0:ABO)(p1:ACJ):Option Mo:=
 R3 0 p1.2.1 (p1.2.1.length:Int) 0 p0.1 p0.2.1 p1.1 p1.2.1
def GR(p0:ABO)(p1:ACJ):Option Mo:=U8 (LH Ae) p0 p1
abbrev cZ:Type:=ABZ×Unit
def JE(p0:ABS)(p1:Int):Option cZ:=
 (A4 p1 1 (p0.2.2.2.2.1.length:Int)).bind fun u2=>
 some ((u2.1.1,()),())
abbrev IX:Type:=ABZ×Unit
abbrev LI:Type:=ABS→AAt→Int→Int→Option IX
def JN(R2:LI)(t0:ABS)(t8:AAt)(t9 t10:Int):Option IX:=
 cond (decide (t10<t9))
  (if(0:Int)≤t10∧t10<(t8.length:Int)then(
  (GR (t0.1,t0.2.1,()) ((t8.getD (t10.toNat) (0,[],())).1,(t8.getD (t10.toNat) (0,[],())).2.1,())).bind fun u2=>
  cond (!u2.1.1)
   (some ((false,()),()))
  ((JE t0 ((t8.getD (t10.toNat) (0,[],())).1)).bind fun u4=>
  cond (!u4.1.1)
   (some ((false,()),()))
  (cond (decide (t10>0))
   (if(0:Int)≤AX (t10-1)∧AX (t10-1)<(t0.2.2.2.2.2.2.1.length:Int)then(
   cond (decide (((t0.2.2.2.2.2.2.1.getD ((AX (t10-1)).toNat) (0,[],())).1)≥((t8.getD (t10.toNat) (0,[],())).1)))
    (some ((false,()),()))
   (R2 t0 t8 t9 (AX (t10+1))))else none)
  (R2 t0 t8 t9 (AX (t10+1))))))else none)
 (some ((decide ((t0.2.2.2.2.2.2.1.length:Int)≤4),()),()))
def Ec:Nat→LI
 |0=>fun _ _ _ _=>none
 |n+1=>JN (Ec n)
def OL(R2:LI)(p0:ABS):Option IX:=
 R2 p0 p0.2.2.2.2.2.2.1 (p0.2.2.2.2.2.2.1.length:Int) 0
def KC(p0:ABS):Option IX:=OL (Ec Ae) p0
abbrev tz:Type:=ABp×Unit
def TA(p0:Int):Option tz:=
 (D6 p0).bind fun u1=>
 cond (!u1.1.1)
  (some ((0,()),()))
 (some ((p0.tmod 4294967296,()),()))
abbrev ov:Type:=ABp×Unit
def Rs(p0:ABi):Option ov:=
 cond ((p0.2.2.2.1.length:Int)==0)
  (some ((0,()),()))
 (let x2:Int:=(p0.2.2.2.1.length:Int)
 if(0:Int)≤AX (x2-1)∧AX (x2-1)<(p0.2.2.2.1.length:Int)then(
 (TA ((p0.2.2.2.1.getD ((AX (x2-1)).toNat) (0,0,false,[],())).1)).bind fun u4=>
 some ((u4.1.1,()),()))else none)
abbrev TW:Type:=ABZ×Unit
abbrev WU:Type:=AA_→Int→Int→Int→Int→List Int→AA_→Bool→List AAH→Option TW
def Q8(R2:WU)(t6:AA_)(t7 t8 AR AE:Int)(Ah:AAH)(Bc:AA_)(Br:Bool)(AU:List AAH):Option TW:=
 cond (decide (t8<t7))
  (if(0:Int)≤t8∧t8<(t6.length:Int)then(
  (Lw ((t6.getD (t8.toNat) (0,0,false,[],())).1,(t6.getD (t8.toNat) (0,0,false,[],())).2.1,(t6.getD (t8.toNat) (0,0,false,[],())).2.2.1,(t6.getD (t8.toNat) (0,0,false,[],())).2.2.2.1,())).bind fun u2=>
  cond (!u2.1.1)
   (some ((false,()),()))
  ((FB ((t6.getD (t8.toNat) (0,0,false,[],())).1)).bind fun u4=>
  cond (u4.1.1 !=AE)
   (some ((false,()),()))
  (cond (decide (((t6.getD (t8.toNat) (0,0,false,[],())).2.1)≥AR))
   (some ((false,()),()))
  (R2 t6 t7 (AX (t8+1)) AR AE Ah Bc Br AU))))else none)
 ((KF Bc).bind fun u6=>
 some ((u6.1.1,()),()))
def Ln:Nat→WU
 |0=>fun _ _ _ _ _ _ _ _ _=>none
 |n+1=>Q8 (Ln n)
def Xl(R2:WU)(p0:ABi):Option TW:=
 R2 p0.2.2.2.1 (p0.2.2.2.1.length:Int) 0 p0.1 p0.2.1 p0.2.2.1 p0.2.2.2.1 p0.2.2.2.2.1 p0.2.2.2.2.2.1
def UX(p0:ABi):Option TW:=Xl (Ln Ae) p0
abbrev TV:Type:=ABZ×Unit
abbrev WZ:Type:=List AAH→Int→Int→List Int→Int→Int→Int→List Int→AA_→Bool→List AAH→Option TV
def Ry(R2:WZ)(t10:List AAH)(t11 t12:Int)(AR:AAH)(AE Co Bj:Int)(Ee:AAH)(Gt:AA_)(MQ:Bool)(D_:List AAH):Option TV:=
 cond (decide (t12<t11))
  (if(0:Int)≤t12∧t12<(t10.length:Int)then(
  (D7 (AR,AE,()) (t10.getD (t12.toNat) [])).bind fun u2=>
  cond (!u2.1.1)
   (some ((false,()),()))
  (R2 t10 t11 (AX (t12+1)) AR AE Co Bj Ee Gt MQ D_))else none)
 (cond (MQ)
  ((Rs (Co,Bj,Ee,Gt,MQ,D_,())).bind fun u3=>
  (HS Bj).bind fun u4=>
  cond (u4.1.1)
   ((A4 Co (AX (Bj+1)) 30).bind fun u5=>
   (Ez (AR,AE,())).bind fun u6=>
   cond (u6.1.1)
    (cond (u5.1.1)
     ((D7 (AR,AE,()) Ee).bind fun u7=>
     cond (u7.1.1)
      ((UX (Co,Bj,Ee,Gt,MQ,D_,())).bind fun u8=>
      cond (u8.1.1)
       (some ((((D_.length:Int)==u3.1.1),()),()))
      (some ((false,()),())))
     (some ((false,()),())))
    (some ((false,()),())))
   (some ((false,()),())))
  ((Ez (AR,AE,())).bind fun EW=>
  cond (EW.1.1)
   (some ((false,()),()))
  (some ((false,()),()))))
 ((HS Bj).bind fun Nq=>
 cond (Nq.1.1)
  ((A4 Co (AX (Bj+1)) 30).bind fun bS=>
  (Ez (AR,AE,())).bind fun V5=>
  cond (V5.1.1)
   (cond (bS.1.1)
    ((D7 (AR,AE,()) Ee).bind fun VO=>
    cond (VO.1.1)
     ((UX (Co,Bj,Ee,Gt,MQ,D_,())).bind fun zd=>
     cond (zd.1.1)
      (some ((((D_.length:Int)==0),()),()))
     (some ((false,()),())))
    (some ((false,()),())))
   (some ((false,()),())))
  (some ((false,()),())))
 ((Ez (AR,AE,())).bind fun dm=>
 cond (dm.1.1)
  (some ((false,()),()))
 (some ((false,()),())))))
def Lc:Nat→WZ
 |0=>fun _ _ _ _ _ _ _ _ _ _ _=>none
 |n+1=>Ry (Lc n)
def YP(R2:WZ)(p0:ABO)(p1:ABi):Option TV:=
 R2 p1.2.2.2.2.2.1 (p1.2.2.2.2.2.1.length:Int) 0 p0.1 p0.2.1 p1.1 p1.2.1 p1.2.2.1 p1.2.2.2.1 p1.2.2.2.2.1 p1.2.2.2.2.2.1
def Hj(p0:ABO)(p1:ABi):Option TV:=YP (Lc Ae) p0 p1
abbrev Od:Type:=ABp×Unit
abbrev Ra:Type:=AAk→Int→Int→Option Od
def N_(R2:Ra)(t6:AAk)(t7 t8:Int):Option Od:=
 cond (decide (t8<t7))
  (if(0:Int)≤t8∧t8<(t6.length:Int)then(
  cond (!((t6.getD (t8.toNat) ([],false,0,())).2.1))
   (some ((AX (t8+1),()),()))
  (R2 t6 t7 (AX (t8+1))))else none)
 (some ((0,()),()))
def H0:Nat→Ra
 |0=>fun _ _ _=>none
 |n+1=>N_ (H0 n)
def Uf(R2:Ra)(p0:ACC):Option Od:=
 R2 p0.1 (p0.1.length:Int) 0
def La(p0:ACC):Option Od:=Uf (H0 Ae) p0
abbrev KQ:Type:=ABZ×Unit
abbrev M_:Type:=ABS→AAu→Int→Int→Option KQ
def Kd(R2:M_)(t0:ABS)(t8:AAu)(t9 t10:Int):Option KQ:=
 cond (decide (t10<t9))
  (if(0:Int)≤t10∧t10<(t8.length:Int)then(
  (Hj (t0.1,t0.2.1,()) ((t8.getD (t10.toNat) (0,0,[],[],false,[],())).1,(t8.getD (t10.toNat) (0,0,[],[],false,[],())).2.1,(t8.getD (t10.toNat) (0,0,[],[],false,[],())).2.2.1,(t8.getD (t10.toNat) (0,0,[],[],false,[],())).2.2.2.1,(t8.getD (t10.toNat) (0,0,[],[],false,[],())).2.2.2.2.1,(t8.getD (t10.toNat) (0,0,[],[],false,[],())).2.2.2.2.2.1,())).bind fun u2=>
  cond (!u2.1.1)
   (some ((false,()),()))
  (cond (((t8.getD (t10.toNat) (0,0,[],[],false,[],())).1) !=(t0.2.2.2.2.1.length:Int))
   (some ((false,()),()))
  ((La (t0.2.2.2.2.1,t0.2.2.2.2.2.1,())).bind fun u6=>
  cond (((t8.getD (t10.toNat) (0,0,[],[],false,[],())).2.1) !=u6.1.1)
   (some ((false,()),()))
  (R2 t0 t8 t9 (AX (t10+1))))))else none)
 (some ((decide ((t0.2.2.2.2.2.2.2.1.length:Int)≤1),()),()))
def FU:Nat→M_
 |0=>fun _ _ _ _=>none
 |n+1=>Kd (FU n)
def Pj(R2:M_)(p0:ABS):Option KQ:=
 R2 p0 p0.2.2.2.2.2.2.2.1 (p0.2.2.2.2.2.2.2.1.length:Int) 0
def L2(p0:ABS):Option KQ:=Pj (FU Ae) p0
abbrev l8:Type:=ABZ×Unit
def TY(p0:ACh):Option l8:=
 (A4 p0.1 1 31).bind fun u1=>
 cond (u1.1.1)
  ((A4 p0.2.1 1 61).bind fun u2=>
  cond (u2.1.1)
   (some ((decide ((p0.2.2.1.length:Int)≤120),()),()))
  (some ((false,()),())))
 (some ((false,()),()))
abbrev IP:Type:=ABZ×Unit
abbrev LY:Type:=ABS→AA2→Int→Int→Option IP
def JG(R2:LY)(t0:ABS)(t8:AA2)(t9 t10:Int):Option IP:=
 cond (decide (t10<t9))
  (if(0:Int)≤t10∧t10<(t8.length:Int)then(
  (TY ((t8.getD (t10.toNat) (0,0,[],())).1,(t8.getD (t10.toNat) (0,0,[],())).2.1,(t8.getD (t10.toNat) (0,0,[],())).2.2.1,())).bind fun u2=>
  cond (!u2.1.1)
   (some ((false,()),()))
  (R2 t0 t8 t9 (AX (t10+1))))else none)
 (some (((t0.2.2.2.2.2.2.2.2.1.length:Int)==2,()),()))
def Ea:Nat→LY
 |0=>fun _ _ _ _=>none
 |n+1=>JG (Ea n)
def OA(R2:LY)(p0:ABS):Option IP:=
 R2 p0 p0.2.2.2.2.2.2.2.2.1 (p0.2.2.2.2.2.2.2.2.1.length:Int) 0
def KB(p0:ABS):Option IP:=OA (Ea Ae) p0
abbrev Kr:Type:=ABZ×Unit
abbrev OM:Type:=ABS→AAs→Int→Int→Option Kr
def Lq(R2:OM)(t0:ABS)(t8:AAs)(t9 t10:Int):Option Kr:=
 cond (decide (t10<t9))
  (if(0:Int)≤t10∧t10<(t8.length:Int)then(
  (FB ((t8.getD (t10.toNat) (0,[],false,())).1)).bind fun u3=>
  (JE t0 u3.1.1).bind fun u4=>
  cond (!u4.1.1)
   (some ((false,()),()))
  ((F7 ((t8.getD (t10.toNat) (0,[],false,())).2.1)).bind fun u6=>
  cond (!u6.1.1)
   (some ((false,()),()))
  (cond (decide (t10>0))
   (if(0:Int)≤AX (t10-1)∧AX (t10-1)<(t0.2.2.2.2.2.2.2.2.2.1.length:Int)then(
   cond (decide (((t0.2.2.2.2.2.2.2.2.2.1.getD ((AX (t10-1)).toNat) (0,[],false,())).1)≥((t8.getD (t10.toNat) (0,[],false,())).1)))
    (some ((false,()),()))
   (R2 t0 t8 t9 (AX (t10+1))))else none)
  (R2 t0 t8 t9 (AX (t10+1))))))else none)
 (some ((decide ((t0.2.2.2.2.2.2.2.2.2.1.length:Int)≤120),()),()))
def F5:Nat→OM
 |0=>fun _ _ _ _=>none
 |n+1=>Lq (F5 n)
def Qw(R2:OM)(p0:ABS):Option Kr:=
 R2 p0 p0.2.2.2.2.2.2.2.2.2.1 (p0.2.2.2.2.2.2.2.2.2.1.length:Int) 0
def NK(p0:ABS):Option Kr:=Qw (F5 Ae) p0
abbrev JW:Type:=ABZ×Unit
def Fm(p0:ABS):Option JW:=
 (Ez (p0.1,p0.2.1,())).bind fun u1=>
 cond (u1.1.1)
  ((Kt (p0.1,p0.2.1,p0.2.2.1,p0.2.2.2.1,p0.2.2.2.2.1,p0.2.2.2.2.2.1,p0.2.2.2.2.2.2.1,p0.2.2.2.2.2.2.2.1,p0.2.2.2.2.2.2.2.2.1,p0.2.2.2.2.2.2.2.2.2.1,p0.2.2.2.2.2.2.2.2.2.2.1,())).bind fun u2=>
  cond (u2.1.1)
   ((Kc (p0.1,p0.2.1,()) (p0.2.2.2.2.1,p0.2.2.2.2.2.1,())).bind fun u3=>
   cond (u3.1.1)
    ((KC (p0.1,p0.2.1,p0.2.2.1,p0.2.2.2.1,p0.2.2.2.2.1,p0.2.2.2.2.2.1,p0.2.2.2.2.2.2.1,p0.2.2.2.2.2.2.2.1,p0.2.2.2.2.2.2.2.2.1,p0.2.2.2.2.2.2.2.2.2.1,p0.2.2.2.2.2.2.2.2.2.2.1,())).bind fun u4=>
    cond (u4.1.1)
     ((L2 (p0.1,p0.2.1,p0.2.2.1,p0.2.2.2.1,p0.2.2.2.2.1,p0.2.2.2.2.2.1,p0.2.2.2.2.2.2.1,p0.2.2.2.2.2.2.2.1,p0.2.2.2.2.2.2.2.2.1,p0.2.2.2.2.2.2.2.2.2.1,p0.2.2.2.2.2.2.2.2.2.2.1,())).bind fun u5=>
     cond (u5.1.1)
      ((KB (p0.1,p0.2.1,p0.2.2.1,p0.2.2.2.1,p0.2.2.2.2.1,p0.2.2.2.2.2.1,p0.2.2.2.2.2.2.1,p0.2.2.2.2.2.2.2.1,p0.2.2.2.2.2.2.2.2.1,p0.2.2.2.2.2.2.2.2.2.1,p0.2.2.2.2.2.2.2.2.2.2.1,())).bind fun u6=>
      cond (u6.1.1)
       ((NK (p0.1,p0.2.1,p0.2.2.1,p0.2.2.2.1,p0.2.2.2.2.1,p0.2.2.2.2.2.1,p0.2.2.2.2.2.2.1,p0.2.2.2.2.2.2.2.1,p0.2.2.2.2.2.2.2.2.1,p0.2.2.2.2.2.2.2.2.2.1,p0.2.2.2.2.2.2.2.2.2.2.1,())).bind fun u7=>
       some ((u7.1.1,()),()))
      (some ((false,()),())))
     (some ((false,()),())))
    (some ((false,()),())))
   (some ((false,()),())))
  (some ((false,()),())))
 (some ((false,()),()))
abbrev wP:Type:=ABZ×Unit
def CN(p0 p1 p2:Int):Option wP:=
 cond (decide (p0≥p1))
  (some ((decide (p0≤p2),()),()))
 (some ((false,()),()))
abbrev P7:Type:=ABZ×Unit
abbrev TP:Type:=Int→List Int→Int→Option P7
def VA(R4:TP)(t3:Int)(AR:AAH)(AE:Int):Option P7:=
 cond ((decide (t3<(AR.length:Int))))
  (if(0:Int)≤t3∧t3<(AR.length:Int)then(
  (CN (AR.getD (t3.toNat) 0) 0 7).bind fun u5=>
  cond (!u5.1.1)
   (some ((false,()),()))
  (R4 (AX (t3+1)) AR AE))else none)
 (some ((true,()),()))
def LC:Nat→TP
 |0=>fun _ _ _=>none
 |n+1=>VA (LC n)
def VM(R4:TP)(p0:ABO):Option P7:=
 (CN (p0.1.length:Int) 1 8).bind fun u1=>
 cond (!u1.1.1)
  (some ((false,()),()))
 ((CN p0.2.1 1 4).bind fun u2=>
 cond (!u2.1.1)
  (some ((false,()),()))
 (R4 0 p0.1 p0.2.1))
def GP(p0:ABO):Option P7:=VM (LC Ae) p0
abbrev oX:Type:=AFf×Unit
def aU(p0:Int):Option oX:=
 cond (p0==8)
  (some (([],()),()))
 (cond (p0==10)
  (some (([],()),()))
 (cond (p0==12)
  (some (([],()),()))
 (cond (p0==2)
  (some (([65,84],()),()))
 (cond (p0==3)
  (some (([65,66,67],()),()))
 (cond (p0==5)
  (some (([65,66],()),()))
 (cond (p0==14)
  (some (([65,66],()),()))
 (cond (p0==11)
  (some (([66,67],()),()))
 (cond (p0==13)
  (some (([80],()),()))
 (some (([65],()),()))))))))))
abbrev PS:Type:=ABZ×Unit
abbrev WV:Type:=Int→Int→Int→Int→Int→Int→List UInt8→Int→Int→Int→Int→List UInt8→List Int→Option PS
def DS(R4:WV)(t12 t13 AR AE Ah Bc:Int)(Br:ABs)(Co Bj Ee Gt:Int)(MQ:ABs)(b2:AAH):Option PS:=
 cond (decide (t13<t12))
  (if(0:Int)≤t13∧t13<(b2.length:Int)then(
  let x3:Int:=(b2.getD (t13.toNat) 0)
  cond (x3==65)
   (R4 t12 (AX (t13+1)) AR AE Ah Bc Br Co 0 Ee Gt MQ b2)
  (cond (x3==80)
   (R4 t12 (AX (t13+1)) AR AE Ah Bc Br Co 0 Ee Gt MQ b2)
  (cond (x3==66)
   (R4 t12 (AX (t13+1)) AR AE Ah Bc Br Co Bj 0 Gt MQ b2)
  (cond (x3==67)
   (R4 t12 (AX (t13+1)) AR AE Ah Bc Br Co Bj Ee 0 MQ b2)
  (cond (x3==84)
   (R4 t12 (AX (t13+1)) AR AE Ah Bc Br Co Bj Ee Gt [] b2)
  (R4 t12 (AX (t13+1)) AR AE Ah Bc Br Co Bj Ee Gt MQ b2))))))else none)
 ((A4 AR 1 16).bind fun u4=>
 cond (u4.1.1)
  (cond (((Co==0)&&((Bj==0)&&((Ee==0)&&((Gt==0)&&((MQ==[])&&true))))))
   ((F7 Br).bind fun u6=>
   some ((u6.1.1,()),()))
  (some ((false,()),())))
 (some ((false,()),())))
def Dl:Nat→WV
 |0=>fun _ _ _ _ _ _ _ _ _ _ _ _ _=>none
 |n+1=>DS (Dl n)
def Xr(R4:WV)(p0:ACa):Option PS:=
 (aU p0.1).bind fun u1=>
 if u1.1.1.length≤Ds then(
 let x2:AAH:=(u1.1.1.map fun c=>(c.toNat:Int))
 R4 (x2.length:Int) 0 p0.1 p0.2.1 p0.2.2.1 p0.2.2.2.1 p0.2.2.2.2.1 0 p0.2.1 p0.2.2.1 p0.2.2.2.1 p0.2.2.2.2.1 x2)else none
def Xs(p0:ACa):Option PS:=Xr (Dl Ae) p0
abbrev IJ:Type:=AEX×ACt
abbrev OT:Type:=AAk→Int→Int→Int→AAk→Int→AAk→Option IJ
def Qc(R3:OT)(t10:AAk)(t11 t12 AE:Int)(b1:AAk)(PO:Int)(b3:AAk):Option IJ:=
 cond (decide (t12<t11))
  (if(0:Int)≤t12∧t12<(t10.length:Int)then(
  (DG ((t10.getD (t12.toNat) ([],false,0,())).1)).bind fun u1=>
  if b3.length+1≤Ds then(
  R3 t10 t11 (AX (t12+1)) AE b1 PO (b3++[(u1.2.1,(t10.getD (t12.toNat) ([],false,0,())).2.1,(t10.getD (t12.toNat) ([],false,0,())).2.2.1,())]))else none)else none)
 (some ((((),PO,()),()),(b3,())))
def Hp:Nat→OT
 |0=>fun _ _ _ _ _ _ _=>none
 |n+1=>Qc (Hp n)
def Q0(R3:OT)(p0:ACC):Option IJ:=
 R3 p0.1 (p0.1.length:Int) 0 0 [] p0.2.1 []
def ET(p0:ACC):Option IJ:=Q0 (Hp Ae) p0
abbrev fQ:Type:=ACL×AD5
def I6(p0:AA_):Option fQ:=
 if 0+p0.length≤Ds then(
 some (((),()),(p0,())))else none
abbrev jm:Type:=AFg×ACl
def C9(p0:ACP):Option jm:=
 (I6 p0.1).bind fun u1=>
 (I6 p0.2.1).bind fun u2=>
 some ((((),(),p0.2.2.1,()),()),(u1.2.1,u2.2.1,()))
abbrev KY:Type:=AFh×ACv
abbrev QK:Type:=ACH→Int→Int→Int→ACH→Int→ACH→Option KY
def Sc(R3:QK)(t10:ACH)(t11 t12 AR:Int)(b1:ACH)(Zj:Int)(b3:ACH):Option KY:=
 cond (decide (t12<t11))
  (if(0:Int)≤t12∧t12<(t10.length:Int)then(
  (DG ((t10.getD (t12.toNat) ([],[],false,())).2.1)).bind fun u2=>
  if b3.length+1≤Ds then(
  R3 t10 t11 (AX (t12+1)) AR b1 Zj (b3++[((t10.getD (t12.toNat) ([],[],false,())).1,u2.2.1,(t10.getD (t12.toNat) ([],[],false,())).2.2.1,())]))else none)else none)
 (some (((Zj,(),()),()),(b3,())))
def Jc:Nat→QK
 |0=>fun _ _ _ _ _ _ _=>none
 |n+1=>Sc (Jc n)
def Sq(R3:QK)(p0:ACJ):Option KY:=
 R3 p0.2.1 (p0.2.1.length:Int) 0 0 [] p0.1 []
def Fo(p0:ACJ):Option KY:=Sq (Jc Ae) p0
abbrev Pw:Type:=AEY×ACm
abbrev TS:Type:=List AAH→Int→Int→Int→Int→Bool→List Int→AA_→List AAH→Int→Int→Bool→List Int→AA_→List AAH→Option Pw
def VE(R4:TS)(t17:List AAH)(t18 t19 AR AE:Int)(Br:Bool)(b1:AAH)(b2:AA_)(b3:List AAH)(wt vK:Int)(uo:Bool)(b5:AAH)(b6:AA_)(b7:List AAH):Option Pw:=
 cond (decide (t19<t18))
  (if(0:Int)≤t19∧t19<(t17.length:Int)then(
  (DG (t17.getD (t19.toNat) [])).bind fun u4=>
  if b7.length+1≤Ds then(
  R4 t17 t18 (AX (t19+1)) AR AE Br b1 b2 b3 wt vK uo b5 b6 (b7++[u4.2.1]))else none)else none)
 (some (((wt,vK,(),(),uo,(),()),()),(b5,b6,b7,())))
def LS:Nat→TS
 |0=>fun _ _ _ _ _ _ _ _ _ _ _ _ _ _ _=>none
 |n+1=>VE (LS n)
def U6(R4:TS)(p0:ABi):Option Pw:=
 (DG p0.2.2.1).bind fun u1=>
 (I6 p0.2.2.2.1).bind fun u2=>
 R4 p0.2.2.2.2.2.1 (p0.2.2.2.2.2.1.length:Int) 0 0 0 false [] [] [] p0.1 p0.2.1 p0.2.2.2.2.1 u1.2.1 u2.2.1 []
def GQ(p0:ABi):Option Pw:=U6 (LS Ae) p0
abbrev gu:Type:=AFJ×AEL
def Mr(p0:ACh):Option gu:=
 if 0+p0.2.2.1.length≤Ds then(
 some (((p0.1,p0.2.1,(),()),()),(p0.2.2.1,())))else none
abbrev EE:Type:=AFi×ACn
abbrev Hv:Type:=AAQ→Int→Int→List Int→Int→AAQ→List Int→AAk→Int→AAt→AAu→AA2→AAs→Bool→Int→Int→Bool→List Int→AAQ→List Int→AAk→AAt→AAu→AA2→AAs→Int→Int→Bool→List Int→AAQ→List Int→AAk→AAt→AAu→AA2→AAs→Option EE
abbrev H_:Type:=AAt→Int→Int→List Int→Int→AAQ→List Int→AAk→Int→AAt→AAu→AA2→AAs→Bool→Int→Int→Bool→List Int→AAQ→List Int→AAk→AAt→AAu→AA2→AAs→Int→Int→Bool→List Int→AAQ→List Int→AAk→AAt→AAu→AA2→AAs→Option EE
abbrev HR:Type:=AAu→Int→Int→List Int→Int→AAQ→List Int→AAk→Int→AAt→AAu→AA2→AAs→Bool→Int→Int→Bool→List Int→AAQ→List Int→AAk→AAt→AAu→AA2→AAs→Int→Int→Bool→List Int→AAQ→List Int→AAk→AAt→AAu→AA2→AAs→Option EE
abbrev HF:Type:=AA2→Int→Int→List Int→Int→AAQ→List Int→AAk→Int→AAt→AAu→AA2→AAs→Bool→Int→Int→Bool→List Int→AAQ→List Int→AAk→AAt→AAu→AA2→AAs→Int→Int→Bool→List Int→AAQ→List Int→AAk→AAt→AAu→AA2→AAs→Option EE
def UY(R3:Hv)(R8:H_)(R13:HR)(R18:HF)(t25:AAQ)(t26 t27:Int)(AR:AAH)(AE:Int)(Ah:AAQ)(Bc:AAH)(Br:AAk)(AU:Int)(Bp:AAt)(Bm:AAu)(CG:AA2)(Bk:AAs)(AK:Bool)(Bj D_:Int)(E5:Bool)(b2:AAH)(b3:AAQ)(b4:AAH)(b5:AAk)(b6:AAt)(b7:AAu)(b8:AA2)(b9:AAs)(Dr Eb:Int)(C4:Bool)(GM:AAH)(D2:AAQ)(Gv:AAH)(Gz:AAk)(ER:AAt)(E8:AAu)(Fh:AA2)(Ui:AAs):Option EE:=
 cond (decide (t27<t26))
  (if(0:Int)≤t27∧t27<(t25.length:Int)then(
  (C9 ((t25.getD (t27.toNat) ([],[],0,())).1,(t25.getD (t27.toNat) ([],[],0,())).2.1,(t25.getD (t27.toNat) ([],[],0,())).2.2.1,())).bind fun zd=>
  if D2.length+1≤Ds then(
  R3 t25 t26 (AX (t27+1)) AR AE Ah Bc Br AU Bp Bm CG Bk AK Bj D_ E5 b2 b3 b4 b5 b6 b7 b8 b9 Dr Eb C4 GM (D2++[(zd.2.1,zd.2.2.1,zd.1.1.2.2.1,())]) Gv Gz ER E8 Fh Ui)else none)else none)
 (R8 Bp (Bp.length:Int) 0 AR AE Ah Bc Br AU Bp Bm CG Bk AK Bj D_ E5 b2 b3 b4 b5 b6 b7 b8 b9 Dr Eb C4 GM D2 Gv Gz ER E8 Fh Ui)
def T2(R3:Hv)(R8:H_)(R13:HR)(R18:HF)(t40:AAt)(t41 t42:Int)(AR:AAH)(AE:Int)(Ah:AAQ)(Bc:AAH)(Br:AAk)(AU:Int)(Bp:AAt)(Bm:AAu)(CG:AA2)(Bk:AAs)(AK:Bool)(Bj D_:Int)(E5:Bool)(b2:AAH)(b3:AAQ)(b4:AAH)(b5:AAk)(b6:AAt)(b7:AAu)(b8:AA2)(b9:AAs)(Dr Eb:Int)(C4:Bool)(GM:AAH)(D2:AAQ)(Gv:AAH)(Gz:AAk)(ER:AAt)(E8:AAu)(Fh:AA2)(Ui:AAs):Option EE:=
 cond (decide (t42<t41))
  (if(0:Int)≤t42∧t42<(t40.length:Int)then(
  (Fo ((t40.getD (t42.toNat) (0,[],())).1,(t40.getD (t42.toNat) (0,[],())).2.1,())).bind fun SO=>
  if ER.length+1≤Ds then(
  R8 t40 t41 (AX (t42+1)) AR AE Ah Bc Br AU Bp Bm CG Bk AK Bj D_ E5 b2 b3 b4 b5 b6 b7 b8 b9 Dr Eb C4 GM D2 Gv Gz (ER++[(SO.1.1.1,SO.2.1,())]) E8 Fh Ui)else none)else none)
 (R13 Bm (Bm.length:Int) 0 AR AE Ah Bc Br AU Bp Bm CG Bk AK Bj D_ E5 b2 b3 b4 b5 b6 b7 b8 b9 Dr Eb C4 GM D2 Gv Gz ER E8 Fh Ui)
def Sk(R3:Hv)(R8:H_)(R13:HR)(R18:HF)(t55:AAu)(t56 t57:Int)(AR:AAH)(AE:Int)(Ah:AAQ)(Bc:AAH)(Br:AAk)(AU:Int)(Bp:AAt)(Bm:AAu)(CG:AA2)(Bk:AAs)(AK:Bool)(Bj D_:Int)(E5:Bool)(b2:AAH)(b3:AAQ)(b4:AAH)(b5:AAk)(b6:AAt)(b7:AAu)(b8:AA2)(b9:AAs)(Dr Eb:Int)(C4:Bool)(GM:AAH)(D2:AAQ)(Gv:AAH)(Gz:AAk)(ER:AAt)(E8:AAu)(Fh:AA2)(Ui:AAs):Option EE:=
 cond (decide (t57<t56))
  (if(0:Int)≤t57∧t57<(t55.length:Int)then(
  (GQ ((t55.getD (t57.toNat) (0,0,[],[],false,[],())).1,(t55.getD (t57.toNat) (0,0,[],[],false,[],())).2.1,(t55.getD (t57.toNat) (0,0,[],[],false,[],())).2.2.1,(t55.getD (t57.toNat) (0,0,[],[],false,[],())).2.2.2.1,(t55.getD (t57.toNat) (0,0,[],[],false,[],())).2.2.2.2.1,(t55.getD (t57.toNat) (0,0,[],[],false,[],())).2.2.2.2.2.1,())).bind fun fC=>
  if E8.length+1≤Ds then(
  R13 t55 t56 (AX (t57+1)) AR AE Ah Bc Br AU Bp Bm CG Bk AK Bj D_ E5 b2 b3 b4 b5 b6 b7 b8 b9 Dr Eb C4 GM D2 Gv Gz ER (E8++[(fC.1.1.1,fC.1.1.2.1,fC.2.1,fC.2.2.1,fC.1.1.2.2.2.2.1,fC.2.2.2.1,())]) Fh Ui)else none)else none)
 (R18 CG (CG.length:Int) 0 AR AE Ah Bc Br AU Bp Bm CG Bk AK Bj D_ E5 b2 b3 b4 b5 b6 b7 b8 b9 Dr Eb C4 GM D2 Gv Gz ER E8 Fh Ui)
def Sl(R3:Hv)(R8:H_)(R13:HR)(R18:HF)(t70:AA2)(t71 t72:Int)(AR:AAH)(AE:Int)(Ah:AAQ)(Bc:AAH)(Br:AAk)(AU:Int)(Bp:AAt)(Bm:AAu)(CG:AA2)(Bk:AAs)(AK:Bool)(Bj D_:Int)(E5:Bool)(b2:AAH)(b3:AAQ)(b4:AAH)(b5:AAk)(b6:AAt)(b7:AAu)(b8:AA2)(b9:AAs)(Dr Eb:Int)(C4:Bool)(GM:AAH)(D2:AAQ)(Gv:AAH)(Gz:AAk)(ER:AAt)(E8:AAu)(Fh:AA2)(Ui:AAs):Option EE:=
 cond (decide (t72<t71))
  (if(0:Int)≤t72∧t72<(t70.length:Int)then(
  (Mr ((t70.getD (t72.toNat) (0,0,[],())).1,(t70.getD (t72.toNat) (0,0,[],())).2.1,(t70.getD (t72.toNat) (0,0,[],())).2.2.1,())).bind fun mj=>
  if Fh.length+1≤Ds then(
  R18 t70 t71 (AX (t72+1)) AR AE Ah Bc Br AU Bp Bm CG Bk AK Bj D_ E5 b2 b3 b4 b5 b6 b7 b8 b9 Dr Eb C4 GM D2 Gv Gz ER E8 (Fh++[(mj.1.1.1,mj.1.1.2.1,mj.2.1,())]) Ui)else none)else none)
 (if 0+Bk.length≤Ds then(
 some ((((),Dr,(),(),(),Eb,(),(),(),(),C4,()),()),(GM,D2,Gv,Gz,ER,E8,Fh,Bk,())))else none)
mutual
def FP:Nat→Hv
 |0=>fun _ _ _ _ _ _ _ _ _ _ _ _ _ _ _ _ _ _ _ _ _ _ _ _ _ _ _ _ _ _ _ _ _ _ _ _=>none
 |n+1=>UY (FP n) (FO n) (Ej n) (Eu n)
def FO:Nat→H_
 |0=>fun _ _ _ _ _ _ _ _ _ _ _ _ _ _ _ _ _ _ _ _ _ _ _ _ _ _ _ _ _ _ _ _ _ _ _ _=>none
 |n+1=>T2 (FP n) (FO n) (Ej n) (Eu n)
def Ej:Nat→HR
 |0=>fun _ _ _ _ _ _ _ _ _ _ _ _ _ _ _ _ _ _ _ _ _ _ _ _ _ _ _ _ _ _ _ _ _ _ _ _=>none
 |n+1=>Sk (FP n) (FO n) (Ej n) (Eu n)
def Eu:Nat→HF
 |0=>fun _ _ _ _ _ _ _ _ _ _ _ _ _ _ _ _ _ _ _ _ _ _ _ _ _ _ _ _ _ _ _ _ _ _ _ _=>none
 |n+1=>Sl (FP n) (FO n) (Ej n) (Eu n)
end
def UA(R3:Hv)(R8:H_)(R13:HR)(R18:HF)(p0:ABS):Option EE:=
 (Py (p0.1,p0.2.1,())).bind fun u2=>
 (DG p0.2.2.2.1).bind fun u3=>
 (ET (p0.2.2.2.2.1,p0.2.2.2.2.2.1,())).bind fun u4=>
 R3 p0.2.2.1 (p0.2.2.1.length:Int) 0 p0.1 p0.2.1 p0.2.2.1 p0.2.2.2.1 p0.2.2.2.2.1 p0.2.2.2.2.2.1 p0.2.2.2.2.2.2.1 p0.2.2.2.2.2.2.2.1 p0.2.2.2.2.2.2.2.2.1 p0.2.2.2.2.2.2.2.2.2.1 p0.2.2.2.2.2.2.2.2.2.2.1 0 0 false [] [] [] [] [] [] [] [] u2.1.1.2.1 u4.1.1.2.1 p0.2.2.2.2.2.2.2.2.2.2.1 u2.2.1 [] u3.2.1 u4.2.1 [] [] [] []
def N2(p0:ABS):Option EE:=UA (FP Ae) (FO Ae) (Ej Ae) (Eu Ae) p0
abbrev LP:Type:=ADw×Unit
def Dn(p0 p1:Int):Option LP:=
 (HS p0).bind fun u1=>
 cond (!u1.1.1)
  (some (((0,false,()),()),()))
 ((XD p1).bind fun u2=>
 cond (!u2.1.1)
  (some (((0,false,()),()),()))
 (some (((AX ((AX (4294967296*p0))+p1),true,()),()),())))
abbrev HC:Type:=ACL×ACb
abbrev SA:Type:=Int→Int→List Int→Option HC
def T9(R5:SA)(t0 t10:Int)(b0:AAH):Option HC:=
 cond (decide (t10<8))
  (if t10<0 then none else(
  cond (((br .i64 (t0.fdiv (2^(min t10.toNat 64))) 1)==1))
   (if b0.length+1≤Ds then(
   R5 t0 (AX (t10+1)) (b0++[t10]))else none)
  (R5 t0 (AX (t10+1)) b0)))
 (some (((),()),(b0,())))
def KP:Nat→SA
 |0=>fun _ _ _=>none
 |n+1=>T9 (KP n)
def UI(R5:SA)(p0:Int):Option HC:=
 (A4 p0 0 255).bind fun u1=>
 cond (!u1.1.1)
  (some (((),()),([],())))
 (R5 p0 0 [])
def He(p0:Int):Option HC:=UI (KP Ae) p0
abbrev kG:Type:=ABp×Unit
def SI(p0:ACg)(p1:Int):Option kG:=
 cond (decide (p0.1<p1))
  (some (((-1),()),()))
 (cond (decide (p0.1>p1))
  (some ((1,()),()))
 (some ((0,()),())))
abbrev BS:Type:=ADw×Unit
abbrev B9:Type:=AA_→Int→Int→Int→Int→Option BS
def Cv(R3:B9)(t0:AA_)(t1 t8 t9 t10:Int):Option BS:=
 cond (decide (t9<t10))
  (let x2:Int:=AX ((IntKind.wrap .u64 (AX (t9+t10))).fdiv (2^1))
  if(0:Int)≤x2∧x2<(t0.length:Int)then(
  (SI ((t0.getD (x2.toNat) (0,0,false,[],())).1,(t0.getD (x2.toNat) (0,0,false,[],())).2.1,(t0.getD (x2.toNat) (0,0,false,[],())).2.2.1,(t0.getD (x2.toNat) (0,0,false,[],())).2.2.2.1,()) t1).bind fun u3=>
  cond (decide (u3.1.1<0))
   (R3 t0 t1 t8 (AX (x2+1)) t10)
  (R3 t0 t1 t8 t9 x2))else none)
 (cond (decide (t9<t8))
  (if(0:Int)≤t9∧t9<(t0.length:Int)then(
  (SI ((t0.getD (t9.toNat) (0,0,false,[],())).1,(t0.getD (t9.toNat) (0,0,false,[],())).2.1,(t0.getD (t9.toNat) (0,0,false,[],())).2.2.1,(t0.getD (t9.toNat) (0,0,false,[],())).2.2.2.1,()) t1).bind fun u4=>
  some (((t9,u4.1.1==0,()),()),()))else none)
 (some (((t9,false,()),()),())))
def A0:Nat→B9
 |0=>fun _ _ _ _ _=>none
 |n+1=>Cv (A0 n)
def Ct(R3:B9)(p0:AA_)(p1:Int):Option BS:=
 R3 p0 p1 (p0.length:Int) 0 (p0.length:Int)
def CF(p0:AA_)(p1:Int):Option BS:=Ct (A0 Ae) p0 p1
abbrev pZ:Type:=ADw×Unit
def Ru(p0:AA_)(p1:Int):Option pZ:=
 (CF p0 p1).bind fun u1=>
 some (((u1.1.1.1,u1.1.1.2.1,()),()),())
abbrev Mi:Type:=AEc×Unit
def Fb(p0:ACP)(p1:Int):Option Mi:=
 (FD (p0.1,p0.2.1,p0.2.2.1,())).bind fun u1=>
 cond (!u1.1.1)
  (some ((((0,0,false,[],()),false,()),()),()))
 ((Ru p0.1 p1).bind fun u2=>
 cond (!u2.1.1.2.1)
  (some ((((0,0,false,[],()),false,()),()),()))
 (if(0:Int)≤u2.1.1.1∧u2.1.1.1<(p0.1.length:Int)then(
 some (((((p0.1.getD (u2.1.1.1.toNat) (0,0,false,[],())).1,(p0.1.getD (u2.1.1.1.toNat) (0,0,false,[],())).2.1,(p0.1.getD (u2.1.1.1.toNat) (0,0,false,[],())).2.2.1,(p0.1.getD (u2.1.1.1.toNat) (0,0,false,[],())).2.2.2.1,()),true,()),()),()))else none))
abbrev NM:Type:=ABp×Unit
abbrev QF:Type:=ACH→Int→Int→Int→ACH→Option NM
def Sd(R2:QF)(t6:ACH)(t7 t8 AR:Int)(AE:ACH):Option NM:=
 cond (decide (t8<t7))
  (if(0:Int)≤t8∧t8<(t6.length:Int)then(
  cond (!((t6.getD (t8.toNat) ([],[],false,())).2.2.1))
   (some ((t8,()),()))
  (R2 t6 t7 (AX (t8+1)) AR AE))else none)
 (some (((AE.length:Int),()),()))
def JP:Nat→QF
 |0=>fun _ _ _ _ _=>none
 |n+1=>Sd (JP n)
def Sv(R2:QF)(p0:ACJ):Option NM:=
 R2 p0.2.1 (p0.2.1.length:Int) 0 p0.1 p0.2.1
def P3(p0:ACJ):Option NM:=Sv (JP Ae) p0
abbrev Ms:Type:=ABp×Unit
abbrev Wz:Type:=Int→AAt→Int→Int→Option Ms
def YC(R2:Wz)(t1:Int)(t8:AAt)(t9 t10:Int):Option Ms:=
 cond (decide (t10<t9))
  (if(0:Int)≤t10∧t10<(t8.length:Int)then(
  cond (((t8.getD (t10.toNat) (0,[],())).1)==t1)
   ((P3 ((t8.getD (t10.toNat) (0,[],())).1,(t8.getD (t10.toNat) (0,[],())).2.1,())).bind fun u3=>
   some ((u3.1.1,()),()))
  (R2 t1 t8 t9 (AX (t10+1))))else none)
 (some ((0,()),()))
def N5:Nat→Wz
 |0=>fun _ _ _ _=>none
 |n+1=>YC (N5 n)
def YO(R2:Wz)(p0:ABS)(p1:Int):Option Ms:=
 R2 p1 p0.2.2.2.2.2.2.1 (p0.2.2.2.2.2.2.1.length:Int) 0
def Qm(p0:ABS)(p1:Int):Option Ms:=YO (N5 Ae) p0 p1
abbrev Rv:Type:=ACL×ACb
abbrev Uk:Type:=ACe→Int→Int→List Int→Option Rv
def XA(R3:Uk)(t7:ACe)(t8 t9:Int)(b0:AAH):Option Rv:=
 cond (decide (t9<t8))
  (if(0:Int)≤t9∧t9<(t7.length:Int)then(
  if b0.length+1≤Ds then(
  R3 t7 t8 (AX (t9+1)) (b0++[((t7.getD (t9.toNat) (0,false,0,0,false,[],())).1)]))else none)else none)
 (some (((),()),(b0,())))
def Mf:Nat→Uk
 |0=>fun _ _ _ _=>none
 |n+1=>XA (Mf n)
def Wi(R3:Uk)(p0:ACe):Option Rv:=
 R3 p0 (p0.length:Int) 0 []
def Of(p0:ACe):Option Rv:=Wi (Mf Ae) p0
abbrev qI:Type:=ABZ×Unit
def Vm(p0:Int)(p1:ACh):Option qI:=
 (FB p0).bind fun u1=>
 cond ((decide (u1.1.1<p1.1)))
  (some ((true,()),()))
 (cond (u1.1.1==p1.1)
  ((TA p0).bind fun u3=>
  some (((decide (u3.1.1<p1.2.1)),()),()))
 (some ((false,()),())))
abbrev fK:Type:=ACL×AFp
def E_(p1:AEo)(AR AE:Int)(b1:ADU):Option fK:=
 if b1.length+1≤Ds then(
 some (((()),()),((AR,AE,(),()),(),(b1++[(p1.1,p1.2.1,p1.2.2.1,())]),())))else none
abbrev YQ:Type:=ACL×ACb
abbrev az:Type:=List Int→List Int→Int→Int→List Int→Option YQ
def bm(R5:az)(t2 t22:AAH)(t23 t24:Int)(b0:AAH):Option YQ:=
 cond (decide (t24<t23))
  (if(0:Int)≤t24∧t24<(t22.length:Int)then(
  let x3:Int:=(t22.getD (t24.toNat) 0)
  (Bt t2 x3).bind fun u4=>
  cond (!u4.1.1)
   (if b0.length+1≤Ds then(
   R5 t2 t22 t23 (AX (t24+1)) (b0++[x3]))else none)
  (R5 t2 t22 t23 (AX (t24+1)) b0))else none)
 (some (((),()),(b0,())))
def SH:Nat→az
 |0=>fun _ _ _ _ _=>none
 |n+1=>bm (SH n)
def bh(R5:az)(p0:ABO)(p1 p2:AAH):Option YQ:=
 (D7 (p0.1,p0.2.1,()) p1).bind fun u1=>
 cond (!u1.1.1)
  (some (((),()),([],())))
 ((D7 (p0.1,p0.2.1,()) p2).bind fun u2=>
 cond (!u2.1.1)
  (some (((),()),([],())))
 (R5 p2 p1 (p1.length:Int) 0 []))
def dd(p0:ABO)(p1 p2:AAH):Option YQ:=bh (SH Ae) p0 p1 p2
abbrev qw:Type:=ABZ×Unit
def G1(p0:ABO)(p1 p2:AAH):Option qw:=
 (D7 (p0.1,p0.2.1,()) p2).bind fun u1=>
 cond (!u1.1.1)
  (some ((false,()),()))
 ((Ge (p0.1,p0.2.1,()) p1).bind fun u2=>
 cond (!u2.1.1)
  (some ((false,()),()))
 ((Mx p2 p1).bind fun u3=>
 cond (((u3.2.1.length:Int) !=(p2.length:Int)))
  (some ((false,()),()))
 ((dd (p0.1,p0.2.1,()) p1 p2).bind fun u6=>
 (Ge (p0.1,p0.2.1,()) u6.2.1).bind fun u7=>
 some ((!u7.1.1,()),()))))
abbrev q6:Type:=(ACg×Unit)×Unit
def Q2(p0 p1:ACg):Option q6:=
 cond ((decide (p1.2.1>p0.2.1)))
  (some (((p1.1,p1.2.1,p1.2.2.1,p1.2.2.2.1,()),()),()))
 (some (((p0.1,p0.2.1,p0.2.2.1,p0.2.2.2.1,()),()),()))
abbrev Te:Type:=AEc×Unit
abbrev XM:Type:=List Int→Int→Bool→ACe→Int→Int→Int→Int→Bool→List UInt8→Int→Int→Bool→List UInt8→Option Te
def X9(R3:XM)(t1:AAH)(t2:Int)(t9:Bool)(t13:ACe)(t14 t15 AR AE:Int)(Ah:Bool)(Bc:ABs)(Co Bj:Int)(Ee:Bool)(Gt:ABs):Option Te:=
 cond (decide (t15<t14))
  (if(0:Int)≤t15∧t15<(t13.length:Int)then(
  cond (!((t13.getD (t15.toNat) (0,false,0,0,false,[],())).2.1))
   (R3 t1 t2 t9 t13 t14 (AX (t15+1)) AR AE Ah Bc Co Bj Ee Gt)
  ((Bt t1 ((t13.getD (t15.toNat) (0,false,0,0,false,[],())).1)).bind fun u3=>
  cond (!u3.1.1)
   (R3 t1 t2 t9 t13 t14 (AX (t15+1)) AR AE Ah Bc Co Bj Ee Gt)
  ((Lw ((t13.getD (t15.toNat) (0,false,0,0,false,[],())).2.2.1,(t13.getD (t15.toNat) (0,false,0,0,false,[],())).2.2.2.1,(t13.getD (t15.toNat) (0,false,0,0,false,[],())).2.2.2.2.1,(t13.getD (t15.toNat) (0,false,0,0,false,[],())).2.2.2.2.2.1,())).bind fun u4=>
  cond (!u4.1.1)
   (R3 t1 t2 t9 t13 t14 (AX (t15+1)) AR AE Ah Bc Co Bj Ee Gt)
  (cond (((t13.getD (t15.toNat) (0,false,0,0,false,[],())).2.2.1) !=t2)
   (R3 t1 t2 t9 t13 t14 (AX (t15+1)) AR AE Ah Bc Co Bj Ee Gt)
  (cond (!t9)
   ((Q2 ((t13.getD (t15.toNat) (0,false,0,0,false,[],())).2.2.1,(t13.getD (t15.toNat) (0,false,0,0,false,[],())).2.2.2.1,(t13.getD (t15.toNat) (0,false,0,0,false,[],())).2.2.2.2.1,(t13.getD (t15.toNat) (0,false,0,0,false,[],())).2.2.2.2.2.1,()) ((t13.getD (t15.toNat) (0,false,0,0,false,[],())).2.2.1,(t13.getD (t15.toNat) (0,false,0,0,false,[],())).2.2.2.1,(t13.getD (t15.toNat) (0,false,0,0,false,[],())).2.2.2.2.1,(t13.getD (t15.toNat) (0,false,0,0,false,[],())).2.2.2.2.2.1,())).bind fun u6=>
   R3 t1 t2 true t13 t14 (AX (t15+1)) AR AE Ah Bc u6.1.1.1 u6.1.1.2.1 u6.1.1.2.2.1 u6.1.1.2.2.2.1)
  ((Q2 (Co,Bj,Ee,Gt,()) ((t13.getD (t15.toNat) (0,false,0,0,false,[],())).2.2.1,(t13.getD (t15.toNat) (0,false,0,0,false,[],())).2.2.2.1,(t13.getD (t15.toNat) (0,false,0,0,false,[],())).2.2.2.2.1,(t13.getD (t15.toNat) (0,false,0,0,false,[],())).2.2.2.2.2.1,())).bind fun u7=>
  R3 t1 t2 true t13 t14 (AX (t15+1)) AR AE Ah Bc u7.1.1.1 u7.1.1.2.1 u7.1.1.2.2.1 u7.1.1.2.2.2.1))))))else none)
 (some ((((Co,Bj,Ee,Gt,()),t9,()),()),()))
def OQ:Nat→XM
 |0=>fun _ _ _ _ _ _ _ _ _ _ _ _ _ _=>none
 |n+1=>X9 (OQ n)
def X1(R3:XM)(p0:ACe)(p1:AAH)(p2:Int):Option Te:=
 R3 p1 p2 false p0 (p0.length:Int) 0 0 0 false [] 0 0 false []
def X2(p0:ACe)(p1:AAH)(p2:Int):Option Te:=X1 (OQ Ae) p0 p1 p2
abbrev eH:Type:=ACL×AFp
def C7(p1:ACe)(p2:AAH)(AR AE:Int)(b1:ADU):Option eH:=
 (Dn AR AE).bind fun u1=>
 (X2 p1 p2 u1.1.1.1).bind fun u2=>
 cond (!u2.1.1.2.1)
  ((E_ (3,u1.1.1.1,[],()) AR AE b1).bind fun u3=>
  some (((()),()),((u3.2.1.1,AX (u3.2.1.2.1+1),(),()),(),u3.2.2.2.1,())))
 (cond (u2.1.1.1.2.2.1)
  ((E_ (2,u1.1.1.1,[],()) AR AE b1).bind fun u4=>
  some (((()),()),((u4.2.1.1,AX (u4.2.1.2.1+1),(),()),(),u4.2.2.2.1,())))
 ((E_ (1,u1.1.1.1,u2.1.1.1.2.2.2.1,()) AR AE b1).bind fun u5=>
 some (((()),()),((u5.2.1.1,AX (u5.2.1.2.1+1),(),()),(),u5.2.2.2.1,()))))
abbrev KT:Type:=(AFq×Unit)×AEL
def Jz(p0:ABO)(p1:ACC)(p2:Int)(p3:ACh)(p4:ACe):Option KT:=
 (Kc (p0.1,p0.2.1,()) (p1.1,p1.2.1,())).bind fun u1=>
 cond (!u1.1.1)
  (some ((((0,0,(),()),1,()),()),([],())))
 ((TY (p3.1,p3.2.1,p3.2.2.1,())).bind fun u2=>
 cond (!u2.1.1)
  (some ((((0,0,(),()),1,()),()),([],())))
 ((Of p4).bind fun u3=>
 (D7 (p0.1,p0.2.1,()) u3.2.1).bind fun u4=>
 cond (!u4.1.1)
  (some ((((0,0,(),()),1,()),()),([],())))
 ((Mr (p3.1,p3.2.1,p3.2.2.1,())).bind fun u5=>
 cond ((decide (p3.1>(p1.1.length:Int))))
  (some ((((u5.1.1.1,u5.1.1.2.1,(),()),2,()),()),(u5.2.1,())))
 (cond ((p3.2.2.1.length:Int)==120)
  (some ((((u5.1.1.1,u5.1.1.2.1,(),()),2,()),()),(u5.2.1,())))
 (cond (decide (p1.2.1>0))
  ((Vm p1.2.1 (p3.1,p3.2.1,p3.2.2.1,())).bind fun u8=>
  cond (!u8.1.1)
   ((E_ (5,p1.2.1,[],()) u5.1.1.1 u5.1.1.2.1 u5.2.1).bind fun u9=>
   (FB p1.2.1).bind fun EW=>
   (TA p1.2.1).bind fun Nq=>
   some ((((EW.1.1,AX (Nq.1.1+1),(),()),0,()),()),(u9.2.2.2.1,())))
  (if(0:Int)≤AX (p3.1-1)∧AX (p3.1-1)<(p1.1.length:Int)then(
  (Of p4).bind fun bS=>
  (Mx bS.2.1 ((p1.1.getD ((AX (p3.1-1)).toNat) ([],false,0,())).1)).bind fun V5=>
  cond (((p1.1.getD ((AX (p3.1-1)).toNat) ([],false,0,())).2.1))
   (cond ((decide (p3.2.1>((p1.1.getD ((AX (p3.1-1)).toNat) ([],false,0,())).2.2.1))))
    ((E_ (4,AX (p3.1+1),[],()) u5.1.1.1 u5.1.1.2.1 u5.2.1).bind fun dm=>
    some ((((AX (p3.1+1),1,(),()),0,()),()),(dm.2.2.2.1,())))
   (cond (!((p1.1.getD ((AX (p3.1-1)).toNat) ([],false,0,())).2.1))
    (cond (decide (p3.2.1>p2))
     (some ((((u5.1.1.1,u5.1.1.2.1,(),()),2,()),()),(u5.2.1,())))
    (cond (decide (p3.2.1>60))
     (some ((((u5.1.1.1,u5.1.1.2.1,(),()),2,()),()),(u5.2.1,())))
    ((G1 (p0.1,p0.2.1,()) ((p1.1.getD ((AX (p3.1-1)).toNat) ([],false,0,())).1) V5.2.1).bind fun kZ=>
    cond (!kZ.1.1)
     (some ((((u5.1.1.1,u5.1.1.2.1,(),()),3,()),()),(u5.2.1,())))
    ((C7 p4 V5.2.1 u5.1.1.1 u5.1.1.2.1 u5.2.1).bind fun SO=>
    some ((((SO.2.1.1,SO.2.1.2.1,(),()),0,()),()),(SO.2.2.2.1,()))))))
   (cond (decide (p3.2.1>60))
    (some ((((u5.1.1.1,u5.1.1.2.1,(),()),2,()),()),(u5.2.1,())))
   ((G1 (p0.1,p0.2.1,()) ((p1.1.getD ((AX (p3.1-1)).toNat) ([],false,0,())).1) V5.2.1).bind fun lR=>
   cond (!lR.1.1)
    (some ((((u5.1.1.1,u5.1.1.2.1,(),()),3,()),()),(u5.2.1,())))
   ((C7 p4 V5.2.1 u5.1.1.1 u5.1.1.2.1 u5.2.1).bind fun zz=>
   some ((((zz.2.1.1,zz.2.1.2.1,(),()),0,()),()),(zz.2.2.2.1,())))))))
  (cond (!((p1.1.getD ((AX (p3.1-1)).toNat) ([],false,0,())).2.1))
   (cond (decide (p3.2.1>p2))
    (some ((((u5.1.1.1,u5.1.1.2.1,(),()),2,()),()),(u5.2.1,())))
   (cond (decide (p3.2.1>60))
    (some ((((u5.1.1.1,u5.1.1.2.1,(),()),2,()),()),(u5.2.1,())))
   ((G1 (p0.1,p0.2.1,()) ((p1.1.getD ((AX (p3.1-1)).toNat) ([],false,0,())).1) V5.2.1).bind fun XY=>
   cond (!XY.1.1)
    (some ((((u5.1.1.1,u5.1.1.2.1,(),()),3,()),()),(u5.2.1,())))
   ((C7 p4 V5.2.1 u5.1.1.1 u5.1.1.2.1 u5.2.1).bind fun fC=>
   some ((((fC.2.1.1,fC.2.1.2.1,(),()),0,()),()),(fC.2.2.2.1,()))))))
  (cond (decide (p3.2.1>60))
   (some ((((u5.1.1.1,u5.1.1.2.1,(),()),2,()),()),(u5.2.1,())))
  ((G1 (p0.1,p0.2.1,()) ((p1.1.getD ((AX (p3.1-1)).toNat) ([],false,0,())).1) V5.2.1).bind fun m_=>
  cond (!m_.1.1)
   (some ((((u5.1.1.1,u5.1.1.2.1,(),()),3,()),()),(u5.2.1,())))
  ((C7 p4 V5.2.1 u5.1.1.1 u5.1.1.2.1 u5.2.1).bind fun uh=>
  some ((((uh.2.1.1,uh.2.1.2.1,(),()),0,()),()),(uh.2.2.2.1,())))))))else none))
 (if(0:Int)≤AX (p3.1-1)∧AX (p3.1-1)<(p1.1.length:Int)then(
 (Of p4).bind fun XX=>
 (Mx XX.2.1 ((p1.1.getD ((AX (p3.1-1)).toNat) ([],false,0,())).1)).bind fun rm=>
 cond (((p1.1.getD ((AX (p3.1-1)).toNat) ([],false,0,())).2.1))
  (cond ((decide (p3.2.1>((p1.1.getD ((AX (p3.1-1)).toNat) ([],false,0,())).2.2.1))))
   ((E_ (4,AX (p3.1+1),[],()) u5.1.1.1 u5.1.1.2.1 u5.2.1).bind fun lQ=>
   some ((((AX (p3.1+1),1,(),()),0,()),()),(lQ.2.2.2.1,())))
  (cond (!((p1.1.getD ((AX (p3.1-1)).toNat) ([],false,0,())).2.1))
   (cond (decide (p3.2.1>p2))
    (some ((((u5.1.1.1,u5.1.1.2.1,(),()),2,()),()),(u5.2.1,())))
   (cond (decide (p3.2.1>60))
    (some ((((u5.1.1.1,u5.1.1.2.1,(),()),2,()),()),(u5.2.1,())))
   ((G1 (p0.1,p0.2.1,()) ((p1.1.getD ((AX (p3.1-1)).toNat) ([],false,0,())).1) rm.2.1).bind fun u35=>
   cond (!u35.1.1)
    (some ((((u5.1.1.1,u5.1.1.2.1,(),()),3,()),()),(u5.2.1,())))
   ((C7 p4 rm.2.1 u5.1.1.1 u5.1.1.2.1 u5.2.1).bind fun xR=>
   some ((((xR.2.1.1,xR.2.1.2.1,(),()),0,()),()),(xR.2.2.2.1,()))))))
  (cond (decide (p3.2.1>60))
   (some ((((u5.1.1.1,u5.1.1.2.1,(),()),2,()),()),(u5.2.1,())))
  ((G1 (p0.1,p0.2.1,()) ((p1.1.getD ((AX (p3.1-1)).toNat) ([],false,0,())).1) rm.2.1).bind fun lF=>
  cond (!lF.1.1)
   (some ((((u5.1.1.1,u5.1.1.2.1,(),()),3,()),()),(u5.2.1,())))
  ((C7 p4 rm.2.1 u5.1.1.1 u5.1.1.2.1 u5.2.1).bind fun u38=>
  some ((((u38.2.1.1,u38.2.1.2.1,(),()),0,()),()),(u38.2.2.2.1,())))))))
 (cond (!((p1.1.getD ((AX (p3.1-1)).toNat) ([],false,0,())).2.1))
  (cond (decide (p3.2.1>p2))
   (some ((((u5.1.1.1,u5.1.1.2.1,(),()),2,()),()),(u5.2.1,())))
  (cond (decide (p3.2.1>60))
   (some ((((u5.1.1.1,u5.1.1.2.1,(),()),2,()),()),(u5.2.1,())))
  ((G1 (p0.1,p0.2.1,()) ((p1.1.getD ((AX (p3.1-1)).toNat) ([],false,0,())).1) rm.2.1).bind fun u40=>
  cond (!u40.1.1)
   (some ((((u5.1.1.1,u5.1.1.2.1,(),()),3,()),()),(u5.2.1,())))
  ((C7 p4 rm.2.1 u5.1.1.1 u5.1.1.2.1 u5.2.1).bind fun u41=>
  some ((((u41.2.1.1,u41.2.1.2.1,(),()),0,()),()),(u41.2.2.2.1,()))))))
 (cond (decide (p3.2.1>60))
  (some ((((u5.1.1.1,u5.1.1.2.1,(),()),2,()),()),(u5.2.1,())))
 ((G1 (p0.1,p0.2.1,()) ((p1.1.getD ((AX (p3.1-1)).toNat) ([],false,0,())).1) rm.2.1).bind fun u42=>
 cond (!u42.1.1)
  (some ((((u5.1.1.1,u5.1.1.2.1,(),()),3,()),()),(u5.2.1,())))
 ((C7 p4 rm.2.1 u5.1.1.1 u5.1.1.2.1 u5.2.1).bind fun u43=>
 some ((((u43.2.1.1,u43.2.1.2.1,(),()),0,()),()),(u43.2.2.2.1,())))))))else none))))))
abbrev KR:Type:=ABp×ACq
abbrev QC:Type:=Int→Int→Int→Int→Int→Int→Bool→List Int→AAQ→List Int→AAk→AAt→AAu→AA2→AAs→Int→Int→ADU→ACe→List Int→Option KR
def NB(R7:QC)(t1 t8 t44 t45 AE AU:Int)(AK:Bool)(b1:AAH)(b2:AAQ)(b3:AAH)(b4:AAk)(b5:AAt)(b6:AAu)(b7:AA2)(b8:AAs)(iv EJ:Int)(cS:ADU)(HU:ACe)(GM:AAH):Option KR:=
 cond (decide (t45<t44))
  (if(0:Int)≤t45∧t45<(GM.length:Int)then(
  let x8:Int:=(GM.getD (t45.toNat) 0)
  cond ((decide (x8<(b2.length:Int))))
   ((C8 (b1,AE,b2,b3,b4,AU,b5,b6,b7,b8,AK,()) x8).bind fun EW=>
   cond (!EW.1.1)
    (if(0:Int)≤x8∧x8<(b2.length:Int)then(
    (Fb ((b2.getD (x8.toNat) ([],[],0,())).1,(b2.getD (x8.toNat) ([],[],0,())).2.1,(b2.getD (x8.toNat) ([],[],0,())).2.2.1,()) t8).bind fun Nq=>
    if HU.length+1≤Ds then(
    R7 t1 t8 t44 (AX (t45+1)) AE AU AK b1 b2 b3 b4 b5 b6 b7 b8 iv EJ cS (HU++[(x8,Nq.1.1.2.1,Nq.1.1.1.1,Nq.1.1.1.2.1,Nq.1.1.1.2.2.1,Nq.1.1.1.2.2.2.1,())]) GM)else none)else none)
   (R7 t1 t8 t44 (AX (t45+1)) AE AU AK b1 b2 b3 b4 b5 b6 b7 b8 iv EJ cS HU GM))
  (R7 t1 t8 t44 (AX (t45+1)) AE AU AK b1 b2 b3 b4 b5 b6 b7 b8 iv EJ cS HU GM))else none)
 ((Qm (b1,AE,b2,b3,b4,AU,b5,b6,b7,b8,AK,()) iv).bind fun V5=>
 (Jz (b1,AE,()) (b4,AU,()) V5.1.1 (iv,EJ,cS,()) HU).bind fun VO=>
 cond (VO.1.1.2.1 !=0)
  (some ((5,()),(((),AE,(),(),(),AU,(),(),(),(),AK,()),b1,b2,b3,b4,b5,b6,b7,b8,())))
 (if(0:Int)≤t1∧t1<(b7.length:Int)then(
 some ((0,()),(((),AE,(),(),(),AU,(),(),(),(),AK,()),b1,b2,b3,b4,b5,b6,(b7.set (t1.toNat) (VO.1.1.1.1,VO.1.1.1.2.1,VO.2.1,())),b8,())))else none))
def DA:Nat→QC
 |0=>fun _ _ _ _ _ _ _ _ _ _ _ _ _ _ _ _ _ _ _ _=>none
 |n+1=>NB (DA n)
def M6(R7:QC)(p1 p2 AE AU:Int)(AK:Bool)(b1:AAH)(b2:AAQ)(b3:AAH)(b4:AAk)(b5:AAt)(b6:AAu)(b7:AA2)(b8:AAs):Option KR:=
 (A4 p1 0 (AX ((b7.length:Int)-1))).bind fun u2=>
 cond (!u2.1.1)
  (some ((2,()),(((),AE,(),(),(),AU,(),(),(),(),AK,()),b1,b2,b3,b4,b5,b6,b7,b8,())))
 (if(0:Int)≤p1∧p1<(b7.length:Int)then(
 (Dn ((b7.getD (p1.toNat) (0,0,[],())).1) ((b7.getD (p1.toNat) (0,0,[],())).2.1)).bind fun u5=>
 (He p2).bind fun u6=>
 R7 p1 u5.1.1.1 (u6.2.1.length:Int) 0 AE AU AK b1 b2 b3 b4 b5 b6 b7 b8 ((b7.getD (p1.toNat) (0,0,[],())).1) ((b7.getD (p1.toNat) (0,0,[],())).2.1) ((b7.getD (p1.toNat) (0,0,[],())).2.2.1) [] u6.2.1)else none)
def Mj(p1 p2 AE AU:Int)(AK:Bool)(b1:AAH)(b2:AAQ)(b3:AAH)(b4:AAk)(b5:AAt)(b6:AAu)(b7:AA2)(b8:AAs):Option KR:=M6 (DA Ae) p1 p2 AE AU AK b1 b2 b3 b4 b5 b6 b7 b8
abbrev rD:Type:=ABp×Unit
def YB(p0:AAH)(p1 p2:Int):Option rD:=
 let x1:Int:=AX ((p0.length:Int).tdiv 4)
 cond ((decide ((AX (p1+x1))>p2)))
  (some ((p2,()),()))
 (some ((AX (p1+x1),()),()))
abbrev Vp:Type:=ABZ×Unit
abbrev ZI:Type:=List Int→Int→Int→Int→Option Vp
def Sx(R2:ZI)(t0:AAH)(t1 t2 t7:Int):Option Vp:=
 cond ((decide (t7<(t0.length:Int))))
  (if(0:Int)≤t7∧t7<(t0.length:Int)then(
  (CN (t0.getD (t7.toNat) 0) t1 t2).bind fun u3=>
  cond (!u3.1.1)
   (some ((false,()),()))
  (cond (decide (t7>0))
   (if(0:Int)≤AX (t7-1)∧AX (t7-1)<(t0.length:Int)then(
   if(0:Int)≤t7∧t7<(t0.length:Int)then(
   cond (decide ((t0.getD ((AX (t7-1)).toNat) 0)≥(t0.getD (t7.toNat) 0)))
    (some ((false,()),()))
   (R2 t0 t1 t2 (AX (t7+1))))else none)else none)
  (R2 t0 t1 t2 (AX (t7+1)))))else none)
 (some ((true,()),()))
def M0:Nat→ZI
 |0=>fun _ _ _ _=>none
 |n+1=>Sx (M0 n)
def Zs(R2:ZI)(p0:AAH)(p1 p2:Int):Option Vp:=
 R2 p0 p1 p2 0
def Ww(p0:AAH)(p1 p2:Int):Option Vp:=Zs (M0 Ae) p0 p1 p2
abbrev nr:Type:=ABZ×Unit
def Gg(p0:ABO)(p1:AAH):Option nr:=
 (GP (p0.1,p0.2.1,())).bind fun u1=>
 cond (u1.1.1)
  ((Ww p1 0 (AX ((p0.1.length:Int)-1))).bind fun u3=>
  some ((u3.1.1,()),()))
 (some ((false,()),()))
abbrev Tr:Type:=ABp×Unit
abbrev Wt:Type:=List Int→Int→Int→List Int→Int→List Bool→Option Tr
def Xw(R4:Wt)(t1:AAH)(t6 t7:Int)(AR:AAH)(AE:Int)(b1:List Bool):Option Tr:=
 cond ((decide (t7<(t1.length:Int))))
  (if(0:Int)≤t7∧t7<(t1.length:Int)then(
  let x3:Int:=(t1.getD (t7.toNat) 0)
  if(0:Int)≤x3∧x3<(AR.length:Int)then(
  let x4:Int:=(AR.getD (x3.toNat) 0)
  if(0:Int)≤x4∧x4<(b1.length:Int)then(
  cond (!(b1.getD (x4.toNat) false))
   (if(0:Int)≤x4∧x4<(b1.length:Int)then(
   R4 t1 (AX (t6+1)) (AX (t7+1)) AR AE (b1.set (x4.toNat) true))else none)
  (R4 t1 t6 (AX (t7+1)) AR AE b1))else none)else none)else none)
 (some ((t6,()),()))
def OI:Nat→Wt
 |0=>fun _ _ _ _ _ _=>none
 |n+1=>Xw (OI n)
def X_(R4:Wt)(p0:ABO)(p1:AAH):Option Tr:=
 R4 p1 0 0 p0.1 p0.2.1 (List.replicate 8 false)
def UW(p0:ABO)(p1:AAH):Option Tr:=X_ (OI Ae) p0 p1
abbrev hO:Type:=ABZ×Unit
def FK(p0:ABO)(p1:AAH):Option hO:=
 (Gg (p0.1,p0.2.1,()) p1).bind fun u1=>
 cond (u1.1.1)
  ((UW (p0.1,p0.2.1,()) p1).bind fun u2=>
  some (((decide (u2.1.1≥p0.2.1)),()),()))
 (some ((false,()),()))
abbrev kQ:Type:=AFJ×AEL
def Wn:Option kQ:=
 some (((1,1,(),()),()),([],()))
abbrev mr:Type:=((ACr×Bool×Unit)×Unit)×ACn
def HZ(p0:ABO):Option mr:=
 (GP (p0.1,p0.2.1,())).bind fun u1=>
 cond (!u1.1.1)
  (some (((((),0,(),(),(),0,(),(),(),(),false,()),false,()),()),([],[],[],[],[],[],[],[],())))
 (if 0+p0.1.length≤Ds then(
 if(0:Int)≤(p0.1.length:Int)∧(p0.1.length:Int)≤(p0.1.length:Int)∧(p0.1.length:Int)≤(Ds:Int)then(
 (Wn).bind fun u3=>
 (Wn).bind fun u4=>
 some (((((),p0.2.1,(),(),(),0,(),(),(),(),false,()),true,()),()),(p0.1,(List.replicate ((p0.1.length:Int).toNat) ([],[],0,())),[],[],[],[],[(u3.1.1.1,u3.1.1.2.1,u3.2.1,()),(u4.1.1.1,u4.1.1.2.1,u4.2.1,())],[],())))else none)else none)
abbrev uR:Type:=ABp×Unit
def MB(p0 p1:Int):Option uR:=
 cond (decide (p0>p1))
  (some ((p0,()),()))
 (some ((p1,()),()))
abbrev Gh:Type:=ABZ×Unit
abbrev ZA:Type:=List Int→Int→Int→Option Gh
def Zi(R2:ZA)(t0:AAH)(t1 t5:Int):Option Gh:=
 cond ((decide (t5<(t0.length:Int))))
  (if(0:Int)≤t5∧t5<(t0.length:Int)then(
  cond ((t0.getD (t5.toNat) 0)==t1)
   (some ((true,()),()))
  (R2 t0 t1 (AX (t5+1))))else none)
 (some ((false,()),()))
def PZ:Nat→ZA
 |0=>fun _ _ _=>none
 |n+1=>Zi (PZ n)
def Zu(R2:ZA)(p0:AAH)(p1:Int):Option Gh:=
 R2 p0 p1 0
def DI(p0:AAH)(p1:Int):Option Gh:=Zu (PZ Ae) p0 p1
abbrev Vi:Type:=ACL×ACb
abbrev Yy:Type:=List Int→Int→Bool→Int→List Int→Option Vi
def S7(R4:Yy)(t0:AAH)(t1:Int)(t6:Bool)(t7:Int)(b0:AAH):Option Vi:=
 cond ((decide (t7<(t0.length:Int))))
  (cond (!t6)
   (if(0:Int)≤t7∧t7<(t0.length:Int)then(
   cond (decide ((t0.getD (t7.toNat) 0)>t1))
    (if b0.length+1≤Ds then(
    if(0:Int)≤t7∧t7<(t0.length:Int)then(
    if(b0++[t1]).length+1≤Ds then(
    R4 t0 t1 true (AX (t7+1)) ((b0++[t1])++[(t0.getD (t7.toNat) 0)]))else none)else none)else none)
   (if(0:Int)≤t7∧t7<(t0.length:Int)then(
   if b0.length+1≤Ds then(
   R4 t0 t1 t6 (AX (t7+1)) (b0++[(t0.getD (t7.toNat) 0)]))else none)else none))else none)
  (if(0:Int)≤t7∧t7<(t0.length:Int)then(
  if b0.length+1≤Ds then(
  R4 t0 t1 t6 (AX (t7+1)) (b0++[(t0.getD (t7.toNat) 0)]))else none)else none))
 (cond (!t6)
  (if b0.length+1≤Ds then(
  some (((),()),(b0++[t1],())))else none)
 (some (((),()),(b0,()))))
def Kb:Nat→Yy
 |0=>fun _ _ _ _ _=>none
 |n+1=>S7 (Kb n)
def Za(R4:Yy)(p0:AAH)(p1:Int):Option Vi:=
 (DI p0 p1).bind fun u1=>
 R4 p0 p1 u1.1.1 0 []
def MU(p0:AAH)(p1:Int):Option Vi:=Za (Kb Ae) p0 p1
abbrev MG:Type:=ACL×AFd
abbrev PL:Type:=Int→Int→List Int→Int→Int→List Int→Int→List Int→Option MG
def SM(R4:PL)(t6 t7:Int)(AR:AAH)(AE Ah:Int)(Co:AAH)(Bj:Int)(b2:AAH):Option MG:=
 cond (decide (t7<t6))
  ((MB (Co.length:Int) 1).bind fun u3=>
  (Am u3.1.1 AR AE Ah).bind fun u4=>
  (MU b2 u4.1.1).bind fun u5=>
  R4 t6 (AX (t7+1)) u4.2.1.1 u4.2.1.2.1 u4.2.1.2.2.1 Co Bj u5.2.1)
 ((B8 20 AR AE Ah).bind fun u6=>
 cond (u6.1.1)
  ((OP [(-1),0,(Co.length:Int)] u6.2.1.1 u6.2.1.2.1 u6.2.1.2.2.1).bind fun u7=>
  if b2.length+1≤Ds then(
  some (((),()),((u7.2.1.1,u7.2.1.2.1,u7.2.1.2.2.1,()),b2++[u7.1.1],())))else none)
 (some (((),()),((u6.2.1.1,u6.2.1.2.1,u6.2.1.2.2.1,()),b2,()))))
def IK:Nat→PL
 |0=>fun _ _ _ _ _ _ _ _=>none
 |n+1=>SM (IK n)
def RS(R4:PL)(p1:ABO)(AR:AAH)(AE Ah:Int):Option MG:=
 (Am (AX ((p1.1.length:Int)+2)) AR AE Ah).bind fun u2=>
 R4 u2.1.1 0 u2.2.1.1 u2.2.1.2.1 u2.2.1.2.2.1 p1.1 p1.2.1 []
def O2(p1:ABO)(AR:AAH)(AE Ah:Int):Option MG:=RS (IK Ae) p1 AR AE Ah
abbrev Oh:Type:=ACL×AFd
abbrev SE:Type:=Int→List Int→Int→Int→List Int→Int→List Int→Option Oh
def UR(R3:SE)(t6:Int)(AR:AAH)(AE Ah:Int)(Co:AAH)(Bj:Int)(b2:AAH):Option Oh:=
 cond ((decide (t6<(Co.length:Int))))
  ((FK (Co,Bj,()) b2).bind fun u3=>
  cond (!u3.1.1)
   ((MU b2 t6).bind fun u4=>
   R3 (AX (t6+1)) AR AE Ah Co Bj u4.2.1)
  (some (((),()),((AR,AE,Ah,()),b2,()))))
 (some (((),()),((AR,AE,Ah,()),b2,())))
def KO:Nat→SE
 |0=>fun _ _ _ _ _ _ _=>none
 |n+1=>UR (KO n)
def UE(R3:SE)(p1:ABO)(AR:AAH)(AE Ah:Int):Option Oh:=
 (O2 (p1.1,p1.2.1,()) AR AE Ah).bind fun u1=>
 R3 0 u1.2.1.1 u1.2.1.2.1 u1.2.1.2.2.1 p1.1 p1.2.1 u1.2.2.1
def LR(p1:ABO)(AR:AAH)(AE Ah:Int):Option Oh:=UE (KO Ae) p1 AR AE Ah
abbrev O6:Type:=ABp×Unit
abbrev RO:Type:=List Int→Int→Int→Option O6
def T0(R5:RO)(t0:AAH)(t3 t4:Int):Option O6:=
 cond ((decide (t4<(t0.length:Int))))
  (if(0:Int)≤t4∧t4<(t0.length:Int)then(
  let x3:Int:=(t0.getD (t4.toNat) 0)
  if x3<0 then none else(
  R5 t0 (bOr .i64 t3 (AX (1*2^(min x3.toNat 64)))) (AX (t4+1))))else none)
 (some ((t3,()),()))
def KH:Nat→RO
 |0=>fun _ _ _=>none
 |n+1=>T0 (KH n)
def UG(R5:RO)(p0:AAH):Option O6:=
 (Ww p0 0 7).bind fun u1=>
 cond (!u1.1.1)
  (some (((-1),()),()))
 (R5 p0 0 0)
def LG(p0:AAH):Option O6:=UG (KH Ae) p0
abbrev Oa:Type:=ABp×Unit
abbrev SG:Type:=Int→AAk→Int→Option Oa
def OG(R2:SG)(t3:Int)(AR:AAk)(AE:Int):Option Oa:=
 cond ((decide (t3<(AR.length:Int))))
  (if(0:Int)≤t3∧t3<(AR.length:Int)then(
  cond (!((AR.getD (t3.toNat) ([],false,0,())).2.1))
   (some ((AX (t3+1),()),()))
  (R2 (AX (t3+1)) AR AE))else none)
 (some ((0,()),()))
def H5:Nat→SG
 |0=>fun _ _ _=>none
 |n+1=>OG (H5 n)
def Tz(R2:SG)(p0:ACC):Option Oa:=
 R2 0 p0.1 p0.2.1
def JZ(p0:ACC):Option Oa:=Tz (H5 Ae) p0
abbrev Gy:Type:=ACL×ACb
def Cd(p0:ACC)(p1:Int):Option Gy:=
 (CN p1 1 (p0.1.length:Int)).bind fun u1=>
 cond (!u1.1.1)
  (some (((),()),([],())))
 (if(0:Int)≤AX (p1-1)∧AX (p1-1)<(p0.1.length:Int)then(
 if 0+((p0.1.getD ((AX (p1-1)).toNat) ([],false,0,())).1).length≤Ds then(
 some (((),()),(((p0.1.getD ((AX (p1-1)).toNat) ([],false,0,())).1),())))else none)else none)
abbrev Ly:Type:=AFU×ACs
abbrev Nc:Type:=Int→Int→Int→List Int→Int→Int→List Int→Int→AAQ→List Int→AAk→Int→AAt→AAu→AA2→AAs→Bool→Int→Int→Int→Int→List UInt8→Int→Int→List Int→AA_→Bool→List AAH→Option Ly
def Qh(R16:Nc)(t7 t8 t9:Int)(AR:AAH)(AE Ah:Int)(Co:AAH)(Bj:Int)(Ee:AAQ)(Gt:AAH)(MQ:AAk)(D_:Int)(AQz:AAt)(AOF:AAu)(ANt:AA2)(AOW:AAs)(E5:Bool)(Zj PO ASc AP8:Int)(tN:ABs)(AA3 sg:Int)(ANx:AAH)(ARk:AA_)(ANe:Bool)(AB9:List AAH):Option Ly:=
 cond ((decide (t9<(AB9.length:Int))))
  (if(0:Int)≤t9∧t9<(AB9.length:Int)then(
  (FK (Co,Bj,()) (AB9.getD (t9.toNat) [])).bind fun zz=>
  cond (!zz.1.1)
   ((B8 3 AR AE Ah).bind fun Y_=>
   cond (!Y_.1.1)
    (R16 t7 (AX (t9+1)) (AX (t9+1)) Y_.2.1.1 Y_.2.1.2.1 Y_.2.1.2.2.1 Co Bj Ee Gt MQ D_ AQz AOF ANt AOW E5 Zj PO ASc AP8 tN AA3 sg ANx ARk ANe AB9)
   (R16 t7 t8 (AX (t9+1)) Y_.2.1.1 Y_.2.1.2.1 Y_.2.1.2.2.1 Co Bj Ee Gt MQ D_ AQz AOF ANt AOW E5 Zj PO ASc AP8 tN AA3 sg ANx ARk ANe AB9))
  (R16 t7 t8 (AX (t9+1)) AR AE Ah Co Bj Ee Gt MQ D_ AQz AOF ANt AOW E5 Zj PO ASc AP8 tN AA3 sg ANx ARk ANe AB9))else none)
 (some (((11,0,t8,t7,[],()),()),((AR,AE,Ah,()),())))
def Fz:Nat→Nc
 |0=>fun _ _ _ _ _ _ _ _ _ _ _ _ _ _ _ _ _ _ _ _ _ _ _ _ _ _ _ _=>none
 |n+1=>Qh (Fz n)
def Rh(R16:Nc)(p1:ABS)(AR:AAH)(AE Ah:Int):Option Ly:=
 cond ((p1.2.2.2.2.2.2.2.1.length:Int)==0)
  (some (((8,0,0,0,[],()),()),((AR,AE,Ah,()),())))
 (if(0:Int)≤(0:Int)∧(0:Int)<(p1.2.2.2.2.2.2.2.1.length:Int)then(
 (Cd (p1.2.2.2.2.1,p1.2.2.2.2.2.1,()) ((p1.2.2.2.2.2.2.2.1.getD 0 (0,0,[],[],false,[],())).2.1)).bind fun u3=>
 (Am (u3.2.1.length:Int) AR AE Ah).bind fun u5=>
 if(0:Int)≤u5.1.1∧u5.1.1<(u3.2.1.length:Int)then(
 let x6:Int:=(u3.2.1.getD (u5.1.1.toNat) 0)
 cond (!((p1.2.2.2.2.2.2.2.1.getD 0 (0,0,[],[],false,[],())).2.2.2.2.1))
  ((B8 4 u5.2.1.1 u5.2.1.2.1 u5.2.1.2.2.1).bind fun u8=>
  cond (u8.1.1)
   (some (((10,0,0,0,[],()),()),((u8.2.1.1,u8.2.1.2.1,u8.2.1.2.2.1,()),())))
  (cond (!((p1.2.2.2.2.2.2.2.1.getD 0 (0,0,[],[],false,[],())).2.2.2.2.1))
   (some (((9,x6,0,0,[],()),()),((u8.2.1.1,u8.2.1.2.1,u8.2.1.2.2.1,()),())))
  ((B8 6 u8.2.1.1 u8.2.1.2.1 u8.2.1.2.2.1).bind fun EW=>
  cond (EW.1.1)
   (some (((12,0,0,0,[],()),()),((EW.2.1.1,EW.2.1.2.1,EW.2.1.2.2.1,()),())))
  ((B8 3 EW.2.1.1 EW.2.1.2.1 EW.2.1.2.2.1).bind fun Nq=>
  cond (Nq.1.1)
   (some (((4,x6,0,0,[],()),()),((Nq.2.1.1,Nq.2.1.2.1,Nq.2.1.2.2.1,()),())))
  ((MB (((p1.2.2.2.2.2.2.2.1.getD 0 (0,0,[],[],false,[],())).2.2.2.2.2.1).length:Int) 1).bind fun V5=>
  (Am V5.1.1 Nq.2.1.1 Nq.2.1.2.1 Nq.2.1.2.2.1).bind fun VO=>
  R16 x6 (AX (1+VO.1.1)) 0 VO.2.1.1 VO.2.1.2.1 VO.2.1.2.2.1 p1.1 p1.2.1 p1.2.2.1 p1.2.2.2.1 p1.2.2.2.2.1 p1.2.2.2.2.2.1 p1.2.2.2.2.2.2.1 p1.2.2.2.2.2.2.2.1 p1.2.2.2.2.2.2.2.2.1 p1.2.2.2.2.2.2.2.2.2.1 p1.2.2.2.2.2.2.2.2.2.2.1 0 0 0 0 [] ((p1.2.2.2.2.2.2.2.1.getD 0 (0,0,[],[],false,[],())).1) ((p1.2.2.2.2.2.2.2.1.getD 0 (0,0,[],[],false,[],())).2.1) ((p1.2.2.2.2.2.2.2.1.getD 0 (0,0,[],[],false,[],())).2.2.1) ((p1.2.2.2.2.2.2.2.1.getD 0 (0,0,[],[],false,[],())).2.2.2.1) ((p1.2.2.2.2.2.2.2.1.getD 0 (0,0,[],[],false,[],())).2.2.2.2.1) ((p1.2.2.2.2.2.2.2.1.getD 0 (0,0,[],[],false,[],())).2.2.2.2.2.1))))))
 (cond (!((p1.2.2.2.2.2.2.2.1.getD 0 (0,0,[],[],false,[],())).2.2.2.2.1))
  (some (((9,x6,0,0,[],()),()),((u5.2.1.1,u5.2.1.2.1,u5.2.1.2.2.1,()),())))
 ((B8 6 u5.2.1.1 u5.2.1.2.1 u5.2.1.2.2.1).bind fun u16=>
 cond (u16.1.1)
  (some (((12,0,0,0,[],()),()),((u16.2.1.1,u16.2.1.2.1,u16.2.1.2.2.1,()),())))
 ((B8 3 u16.2.1.1 u16.2.1.2.1 u16.2.1.2.2.1).bind fun dm=>
 cond (dm.1.1)
  (some (((4,x6,0,0,[],()),()),((dm.2.1.1,dm.2.1.2.1,dm.2.1.2.2.1,()),())))
 ((MB (((p1.2.2.2.2.2.2.2.1.getD 0 (0,0,[],[],false,[],())).2.2.2.2.2.1).length:Int) 1).bind fun kZ=>
 (Am kZ.1.1 dm.2.1.1 dm.2.1.2.1 dm.2.1.2.2.1).bind fun SO=>
 R16 x6 (AX (1+SO.1.1)) 0 SO.2.1.1 SO.2.1.2.1 SO.2.1.2.2.1 p1.1 p1.2.1 p1.2.2.1 p1.2.2.2.1 p1.2.2.2.2.1 p1.2.2.2.2.2.1 p1.2.2.2.2.2.2.1 p1.2.2.2.2.2.2.2.1 p1.2.2.2.2.2.2.2.2.1 p1.2.2.2.2.2.2.2.2.2.1 p1.2.2.2.2.2.2.2.2.2.2.1 0 0 0 0 [] ((p1.2.2.2.2.2.2.2.1.getD 0 (0,0,[],[],false,[],())).1) ((p1.2.2.2.2.2.2.2.1.getD 0 (0,0,[],[],false,[],())).2.1) ((p1.2.2.2.2.2.2.2.1.getD 0 (0,0,[],[],false,[],())).2.2.1) ((p1.2.2.2.2.2.2.2.1.getD 0 (0,0,[],[],false,[],())).2.2.2.1) ((p1.2.2.2.2.2.2.2.1.getD 0 (0,0,[],[],false,[],())).2.2.2.2.1) ((p1.2.2.2.2.2.2.2.1.getD 0 (0,0,[],[],false,[],())).2.2.2.2.2.1))))))else none)else none)
def LB(p1:ABS)(AR:AAH)(AE Ah:Int):Option Ly:=Rh (Fz Ae) p1 AR AE Ah
abbrev qn:Type:=AFf×ACs
def Is(p1:List ABs)(AR:AAH)(AE Ah:Int):Option qn:=
 (Am (p1.length:Int) AR AE Ah).bind fun u1=>
 if(0:Int)≤u1.1.1∧u1.1.1<(p1.length:Int)then(
 some (((p1.getD (u1.1.1.toNat) []),()),((u1.2.1.1,u1.2.1.2.1,u1.2.1.2.2.1,()),())))else none
abbrev uM:Type:=ABp×Unit
def TJ(p0 p1:Int):Option uM:=
 cond (decide (p0<p1))
  (some ((p0,()),()))
 (some ((p1,()),()))
abbrev d_:Type:=AFU×ACs
def Gc(p1:ABS)(AR:AAH)(AE Ah:Int):Option d_:=
 (Am (p1.2.2.2.2.2.2.1.length:Int) AR AE Ah).bind fun u2=>
 (B8 3 u2.2.1.1 u2.2.1.2.1 u2.2.1.2.2.1).bind fun u3=>
 cond (!u3.1.1)
  (let x4:Int:=(p1.2.2.2.2.2.2.1.length:Int)
  if(0:Int)≤AX (x4-1)∧AX (x4-1)<(p1.2.2.2.2.2.2.1.length:Int)then(
  (Cd (p1.2.2.2.2.1,p1.2.2.2.2.2.1,()) ((p1.2.2.2.2.2.2.1.getD ((AX (x4-1)).toNat) (0,[],())).1)).bind fun u6=>
  (Am (u6.2.1.length:Int) u3.2.1.1 u3.2.1.2.1 u3.2.1.2.2.1).bind fun u8=>
  if(0:Int)≤u8.1.1∧u8.1.1<(u6.2.1.length:Int)then(
  let x9:Int:=(u6.2.1.getD (u8.1.1.toNat) 0)
  let x10:Int:=(((p1.2.2.2.2.2.2.1.getD ((AX (x4-1)).toNat) (0,[],())).2.1).length:Int)
  cond (x10==0)
   ((Is [[],[97],[98,99],[100]] u8.2.1.1 u8.2.1.2.1 u8.2.1.2.2.1).bind fun Nq=>
   some (((2,AX (x4-1),0,0,Nq.1.1,()),()),((Nq.2.1.1,Nq.2.1.2.1,Nq.2.1.2.2.1,()),())))
  ((B8 7 u8.2.1.1 u8.2.1.2.1 u8.2.1.2.2.1).bind fun bS=>
  cond (bS.1.1)
   ((Is [[],[97],[98,99],[100]] bS.2.1.1 bS.2.1.2.1 bS.2.1.2.2.1).bind fun V5=>
   some (((2,AX (x4-1),0,0,V5.1.1,()),()),((V5.2.1.1,V5.2.1.2.1,V5.2.1.2.2.1,()),())))
  ((B8 3 bS.2.1.1 bS.2.1.2.1 bS.2.1.2.2.1).bind fun VO=>
  cond (VO.1.1)
   (some (((4,x9,0,0,[],()),()),((VO.2.1.1,VO.2.1.2.1,VO.2.1.2.2.1,()),())))
  ((TJ x10 3).bind fun zd=>
  (Am zd.1.1 VO.2.1.1 VO.2.1.2.1 VO.2.1.2.2.1).bind fun u16=>
  some (((3,AX (x4-1),AX (x10-u16.1.1),x9,[],()),()),((u16.2.1.1,u16.2.1.2.1,u16.2.1.2.2.1,()),()))))))else none)else none)
 (if(0:Int)≤u2.1.1∧u2.1.1<(p1.2.2.2.2.2.2.1.length:Int)then(
 (Cd (p1.2.2.2.2.1,p1.2.2.2.2.2.1,()) ((p1.2.2.2.2.2.2.1.getD (u2.1.1.toNat) (0,[],())).1)).bind fun wZ=>
 (Am (wZ.2.1.length:Int) u3.2.1.1 u3.2.1.2.1 u3.2.1.2.2.1).bind fun SO=>
 if(0:Int)≤SO.1.1∧SO.1.1<(wZ.2.1.length:Int)then(
 let x21:Int:=(wZ.2.1.getD (SO.1.1.toNat) 0)
 let x22:Int:=(((p1.2.2.2.2.2.2.1.getD (u2.1.1.toNat) (0,[],())).2.1).length:Int)
 cond (x22==0)
  ((Is [[],[97],[98,99],[100]] SO.2.1.1 SO.2.1.2.1 SO.2.1.2.2.1).bind fun Y_=>
  some (((2,u2.1.1,0,0,Y_.1.1,()),()),((Y_.2.1.1,Y_.2.1.2.1,Y_.2.1.2.2.1,()),())))
 ((B8 7 SO.2.1.1 SO.2.1.2.1 SO.2.1.2.2.1).bind fun XY=>
 cond (XY.1.1)
  ((Is [[],[97],[98,99],[100]] XY.2.1.1 XY.2.1.2.1 XY.2.1.2.2.1).bind fun fC=>
  some (((2,u2.1.1,0,0,fC.1.1,()),()),((fC.2.1.1,fC.2.1.2.1,fC.2.1.2.2.1,()),())))
 ((B8 3 XY.2.1.1 XY.2.1.2.1 XY.2.1.2.2.1).bind fun m_=>
 cond (m_.1.1)
  (some (((4,x21,0,0,[],()),()),((m_.2.1.1,m_.2.1.2.1,m_.2.1.2.2.1,()),())))
 ((TJ x22 3).bind fun uh=>
 (Am uh.1.1 m_.2.1.1 m_.2.1.2.1 m_.2.1.2.2.1).bind fun XX=>
 some (((3,u2.1.1,AX (x22-XX.1.1),x21,[],()),()),((XX.2.1.1,XX.2.1.2.1,XX.2.1.2.2.1,()),()))))))else none)else none)
abbrev fb:Type:=AFU×ACs
def Ol(p1:ABS)(AR:AAH)(AE Ah:Int):Option fb:=
 cond ((p1.2.2.2.2.2.2.1.length:Int)==0)
  ((LR (p1.1,p1.2.1,()) AR AE Ah).bind fun u3=>
  (LG u3.2.2.1).bind fun u4=>
  some (((1,u4.1.1,0,0,[],()),()),((u3.2.1.1,u3.2.1.2.1,u3.2.1.2.2.1,()),())))
 ((B8 30 AR AE Ah).bind fun u5=>
 cond (u5.1.1)
  ((LR (p1.1,p1.2.1,()) u5.2.1.1 u5.2.1.2.1 u5.2.1.2.2.1).bind fun u6=>
  (LG u6.2.2.1).bind fun u7=>
  some (((1,u7.1.1,0,0,[],()),()),((u6.2.1.1,u6.2.1.2.1,u6.2.1.2.2.1,()),())))
 ((Am (p1.2.2.1.length:Int) u5.2.1.1 u5.2.1.2.1 u5.2.1.2.2.1).bind fun u8=>
 (Am 44 u8.2.1.1 u8.2.1.2.1 u8.2.1.2.2.1).bind fun u9=>
 cond (u9.1.1==0)
  ((Am 16 u9.2.1.1 u9.2.1.2.1 u9.2.1.2.2.1).bind fun EW=>
  some (((5,u8.1.1,EW.1.1,0,[],()),()),((EW.2.1.1,EW.2.1.2.1,EW.2.1.2.2.1,()),())))
 (cond (u9.1.1==1)
  (cond ((p1.2.2.2.1.length:Int)==0)
   (some (((6,u8.1.1,0,0,[],()),()),((u9.2.1.1,u9.2.1.2.1,u9.2.1.2.2.1,()),())))
  ((B8 12 u9.2.1.1 u9.2.1.2.1 u9.2.1.2.2.1).bind fun bS=>
  cond (bS.1.1)
   (some (((6,u8.1.1,0,0,[],()),()),((bS.2.1.1,bS.2.1.2.1,bS.2.1.2.2.1,()),())))
  (if(0:Int)≤(0:Int)∧(0:Int)<(p1.2.2.2.1.length:Int)then(
  some (((7,(p1.2.2.2.1.getD 0 0),0,0,[],()),()),((bS.2.1.1,bS.2.1.2.1,bS.2.1.2.2.1,()),())))else none)))
 (cond (u9.1.1==2)
  ((Am (p1.2.2.2.2.2.2.1.length:Int) u9.2.1.1 u9.2.1.2.1 u9.2.1.2.2.1).bind fun zd=>
  some (((15,zd.1.1,0,0,[],()),()),((zd.2.1.1,zd.2.1.2.1,zd.2.1.2.2.1,()),())))
 (cond (u9.1.1==3)
  ((B8 3 u9.2.1.1 u9.2.1.2.1 u9.2.1.2.2.1).bind fun u16=>
  cond (u16.1.1)
   (cond (decide ((p1.2.2.2.2.2.2.2.2.2.1.length:Int)>0))
    ((Am (p1.2.2.2.2.2.2.2.2.2.1.length:Int) u16.2.1.1 u16.2.1.2.1 u16.2.1.2.2.1).bind fun kZ=>
    if(0:Int)≤kZ.1.1∧kZ.1.1<(p1.2.2.2.2.2.2.2.2.2.1.length:Int)then(
    some (((13,((p1.2.2.2.2.2.2.2.2.2.1.getD (kZ.1.1.toNat) (0,[],false,())).1),0,0,[],()),()),((kZ.2.1.1,kZ.2.1.2.1,kZ.2.1.2.2.1,()),())))else none)
   (some (((16,u8.1.1,0,0,[],()),()),((u16.2.1.1,u16.2.1.2.1,u16.2.1.2.2.1,()),()))))
  (some (((16,u8.1.1,0,0,[],()),()),((u16.2.1.1,u16.2.1.2.1,u16.2.1.2.2.1,()),()))))
 (cond (u9.1.1==4)
  ((B8 2 u9.2.1.1 u9.2.1.2.1 u9.2.1.2.2.1).bind fun lR=>
  cond (lR.1.1)
   ((Am 256 lR.2.1.1 lR.2.1.2.1 lR.2.1.2.2.1).bind fun zz=>
   (Am 2 zz.2.1.1 zz.2.1.2.1 zz.2.1.2.2.1).bind fun Y_=>
   some (((14,Y_.1.1,zz.1.1,0,[],()),()),((Y_.2.1.1,Y_.2.1.2.1,Y_.2.1.2.2.1,()),())))
  ((Am 2 lR.2.1.1 lR.2.1.2.1 lR.2.1.2.2.1).bind fun XY=>
  some (((14,XY.1.1,255,0,[],()),()),((XY.2.1.1,XY.2.1.2.1,XY.2.1.2.2.1,()),()))))
 (cond (u9.1.1==5)
  ((B8 2 u9.2.1.1 u9.2.1.2.1 u9.2.1.2.2.1).bind fun fC=>
  cond (fC.1.1)
   ((Am 256 fC.2.1.1 fC.2.1.2.1 fC.2.1.2.2.1).bind fun m_=>
   (Am 2 m_.2.1.1 m_.2.1.2.1 m_.2.1.2.2.1).bind fun uh=>
   some (((14,uh.1.1,m_.1.1,0,[],()),()),((uh.2.1.1,uh.2.1.2.1,uh.2.1.2.2.1,()),())))
  ((Am 2 fC.2.1.1 fC.2.1.2.1 fC.2.1.2.2.1).bind fun XX=>
  some (((14,XX.1.1,255,0,[],()),()),((XX.2.1.1,XX.2.1.2.1,XX.2.1.2.2.1,()),()))))
 (cond (u9.1.1==6)
  ((B8 2 u9.2.1.1 u9.2.1.2.1 u9.2.1.2.2.1).bind fun rm=>
  cond (rm.1.1)
   ((Am 256 rm.2.1.1 rm.2.1.2.1 rm.2.1.2.2.1).bind fun mj=>
   (Am 2 mj.2.1.1 mj.2.1.2.1 mj.2.1.2.2.1).bind fun w8=>
   some (((14,w8.1.1,mj.1.1,0,[],()),()),((w8.2.1.1,w8.2.1.2.1,w8.2.1.2.2.1,()),())))
  ((Am 2 rm.2.1.1 rm.2.1.2.1 rm.2.1.2.2.1).bind fun u32=>
  some (((14,u32.1.1,255,0,[],()),()),((u32.2.1.1,u32.2.1.2.1,u32.2.1.2.2.1,()),()))))
 (cond (u9.1.1==7)
  ((B8 2 u9.2.1.1 u9.2.1.2.1 u9.2.1.2.2.1).bind fun lQ=>
  cond (lQ.1.1)
   ((Am 256 lQ.2.1.1 lQ.2.1.2.1 lQ.2.1.2.2.1).bind fun nY=>
   (Am 2 nY.2.1.1 nY.2.1.2.1 nY.2.1.2.2.1).bind fun u35=>
   some (((14,u35.1.1,nY.1.1,0,[],()),()),((u35.2.1.1,u35.2.1.2.1,u35.2.1.2.2.1,()),())))
  ((Am 2 lQ.2.1.1 lQ.2.1.2.1 lQ.2.1.2.2.1).bind fun xR=>
  some (((14,xR.1.1,255,0,[],()),()),((xR.2.1.1,xR.2.1.2.1,xR.2.1.2.2.1,()),()))))
 (cond (u9.1.1==8)
  ((B8 2 u9.2.1.1 u9.2.1.2.1 u9.2.1.2.2.1).bind fun lF=>
  cond (lF.1.1)
   ((Am 256 lF.2.1.1 lF.2.1.2.1 lF.2.1.2.2.1).bind fun u38=>
   (Am 2 u38.2.1.1 u38.2.1.2.1 u38.2.1.2.2.1).bind fun u39=>
   some (((14,u39.1.1,u38.1.1,0,[],()),()),((u39.2.1.1,u39.2.1.2.1,u39.2.1.2.2.1,()),())))
  ((Am 2 lF.2.1.1 lF.2.1.2.1 lF.2.1.2.2.1).bind fun u40=>
  some (((14,u40.1.1,255,0,[],()),()),((u40.2.1.1,u40.2.1.2.1,u40.2.1.2.2.1,()),()))))
 (cond (decide ((p1.2.2.2.2.1.length:Int)>1))
  ((JZ (p1.2.2.2.2.1,p1.2.2.2.2.2.1,())).bind fun u43=>
  cond ((decide (u43.1.1<(p1.2.2.2.2.1.length:Int))))
   ((B8 3 u9.2.1.1 u9.2.1.2.1 u9.2.1.2.2.1).bind fun u45=>
   cond (!u45.1.1)
    ((LB (p1.1,p1.2.1,p1.2.2.1,p1.2.2.2.1,p1.2.2.2.2.1,p1.2.2.2.2.2.1,p1.2.2.2.2.2.2.1,p1.2.2.2.2.2.2.2.1,p1.2.2.2.2.2.2.2.2.1,p1.2.2.2.2.2.2.2.2.2.1,p1.2.2.2.2.2.2.2.2.2.2.1,()) u45.2.1.1 u45.2.1.2.1 u45.2.1.2.2.1).bind fun qZ=>
    some (((qZ.1.1.1,qZ.1.1.2.1,qZ.1.1.2.2.1,qZ.1.1.2.2.2.1,qZ.1.1.2.2.2.2.1,()),()),((qZ.2.1.1,qZ.2.1.2.1,qZ.2.1.2.2.1,()),())))
   ((Gc (p1.1,p1.2.1,p1.2.2.1,p1.2.2.2.1,p1.2.2.2.2.1,p1.2.2.2.2.2.1,p1.2.2.2.2.2.2.1,p1.2.2.2.2.2.2.2.1,p1.2.2.2.2.2.2.2.2.1,p1.2.2.2.2.2.2.2.2.2.1,p1.2.2.2.2.2.2.2.2.2.2.1,()) u45.2.1.1 u45.2.1.2.1 u45.2.1.2.2.1).bind fun lP=>
   some (((lP.1.1.1,lP.1.1.2.1,lP.1.1.2.2.1,lP.1.1.2.2.2.1,lP.1.1.2.2.2.2.1,()),()),((lP.2.1.1,lP.2.1.2.1,lP.2.1.2.2.1,()),()))))
  ((Gc (p1.1,p1.2.1,p1.2.2.1,p1.2.2.2.1,p1.2.2.2.2.1,p1.2.2.2.2.2.1,p1.2.2.2.2.2.2.1,p1.2.2.2.2.2.2.2.1,p1.2.2.2.2.2.2.2.2.1,p1.2.2.2.2.2.2.2.2.2.1,p1.2.2.2.2.2.2.2.2.2.2.1,()) u9.2.1.1 u9.2.1.2.1 u9.2.1.2.2.1).bind fun u48=>
  some (((u48.1.1.1,u48.1.1.2.1,u48.1.1.2.2.1,u48.1.1.2.2.2.1,u48.1.1.2.2.2.2.1,()),()),((u48.2.1.1,u48.2.1.2.1,u48.2.1.2.2.1,()),()))))
 ((Gc (p1.1,p1.2.1,p1.2.2.1,p1.2.2.2.1,p1.2.2.2.2.1,p1.2.2.2.2.2.1,p1.2.2.2.2.2.2.1,p1.2.2.2.2.2.2.2.1,p1.2.2.2.2.2.2.2.2.1,p1.2.2.2.2.2.2.2.2.2.1,p1.2.2.2.2.2.2.2.2.2.2.1,()) u9.2.1.1 u9.2.1.2.1 u9.2.1.2.2.1).bind fun rA=>
 some (((rA.1.1.1,rA.1.1.2.1,rA.1.1.2.2.1,rA.1.1.2.2.2.1,rA.1.1.2.2.2.2.1,()),()),((rA.2.1.1,rA.2.1.2.1,rA.2.1.2.2.1,()),()))))))))))))))
abbrev nR:Type:=ABZ×Unit
def HT(p0:Int):Option nR:=
 cond (decide (p0>0))
  ((CN (AX (p0.tdiv 4294967296)) 1 30).bind fun u2=>
  cond (u2.1.1)
   ((CN (p0.tmod 4294967296) 1 60).bind fun u3=>
   some ((u3.1.1,()),()))
  (some ((false,()),())))
 (some ((false,()),()))
abbrev Hm:Type:=ABp×Unit
def C0(p0:Int):Option Hm:=
 (HT p0).bind fun u1=>
 cond (!u1.1.1)
  (some ((0,()),()))
 (some (((AX (p0.tdiv 4294967296)),()),()))
abbrev qF:Type:=ABZ×Unit
def L4(p0:ACg):Option qF:=
 (HT p0.1).bind fun u1=>
 cond (!u1.1.1)
  (some ((false,()),()))
 ((CN p0.2.1 0 30).bind fun u2=>
 cond (!u2.1.1)
  (some ((false,()),()))
 (cond (decide (p0.2.1>0))
  ((C0 p0.1).bind fun u3=>
  cond ((decide (p0.2.1≤u3.1.1)))
   (some ((false,()),()))
  (cond (decide ((p0.2.2.2.1.length:Int)>40))
   (some ((false,()),()))
  (cond (!p0.2.2.1)
   (some ((true,()),()))
  (cond (decide (p0.2.1>0))
   (some ((p0.2.2.2.1==[],()),()))
  (some ((false,()),()))))))
 (cond (decide ((p0.2.2.2.1.length:Int)>40))
  (some ((false,()),()))
 (cond (!p0.2.2.1)
  (some ((true,()),()))
 (cond (decide (p0.2.1>0))
  (some ((p0.2.2.2.1==[],()),()))
 (some ((false,()),())))))))
abbrev Tm:Type:=ABZ×Unit
abbrev XT:Type:=AA_→Int→Option Tm
def Rr(R4:XT)(t0:AA_)(t5:Int):Option Tm:=
 cond ((decide (t5<(t0.length:Int))))
  (if(0:Int)≤t5∧t5<(t0.length:Int)then(
  (L4 ((t0.getD (t5.toNat) (0,0,false,[],())).1,(t0.getD (t5.toNat) (0,0,false,[],())).2.1,(t0.getD (t5.toNat) (0,0,false,[],())).2.2.1,(t0.getD (t5.toNat) (0,0,false,[],())).2.2.2.1,())).bind fun u3=>
  cond (!u3.1.1)
   (some ((false,()),()))
  (R4 t0 (AX (t5+1))))else none)
 (some ((true,()),()))
def LX:Nat→XT
 |0=>fun _ _=>none
 |n+1=>Rr (LX n)
def Xm(R4:XT)(p0:AA_)(p1:Int):Option Tm:=
 cond ((decide ((p0.length:Int)>p1)))
  (some ((false,()),()))
 (R4 p0 0)
def Ug(p0:AA_)(p1:Int):Option Tm:=Xm (LX Ae) p0 p1
abbrev Vk:Type:=ABZ×Unit
abbrev Yu:Type:=AA_→Int→Option Vk
def Ox(R2:Yu)(t0:AA_)(t3:Int):Option Vk:=
 cond ((decide (t3<(t0.length:Int))))
  (if(0:Int)≤AX (t3-1)∧AX (t3-1)<(t0.length:Int)then(
  if(0:Int)≤t3∧t3<(t0.length:Int)then(
  cond (decide (((t0.getD ((AX (t3-1)).toNat) (0,0,false,[],())).1)≥((t0.getD (t3.toNat) (0,0,false,[],())).1)))
   (some ((false,()),()))
  (R2 t0 (AX (t3+1))))else none)else none)
 (some ((true,()),()))
def GS:Nat→Yu
 |0=>fun _ _=>none
 |n+1=>Ox (GS n)
def Zn(R2:Yu)(p0:AA_):Option Vk:=
 R2 p0 1
def W9(p0:AA_):Option Vk:=Zn (GS Ae) p0
abbrev pC:Type:=ABZ×Unit
def Gn(p0:ACP):Option pC:=
 (Ug p0.1 200).bind fun u1=>
 cond (u1.1.1)
  ((Ug p0.2.1 20).bind fun u2=>
  cond (u2.1.1)
   ((W9 p0.1).bind fun u3=>
   cond (u3.1.1)
    ((CN p0.2.2.1 0 30).bind fun u4=>
    some ((u4.1.1,()),()))
   (some ((false,()),())))
  (some ((false,()),())))
 (some ((false,()),()))
abbrev oh:Type:=ABZ×Unit
def al(p0:ACP):Option oh:=
 cond (((p0.1.length:Int)==0))
  (cond ((p0.2.1.length:Int)==0)
   (some ((p0.2.2.1==0,()),()))
  (some ((false,()),())))
 (some ((false,()),()))
abbrev Po:Type:=ABZ×Unit
abbrev TH:Type:=Int→List Int→Int→AAQ→List Int→AAk→Int→AAt→AAu→AA2→AAs→Bool→Option Po
def PH(R4:TH)(t3:Int)(AR:AAH)(AE:Int)(Ah:AAQ)(Bc:AAH)(Br:AAk)(AU:Int)(Bp:AAt)(Bm:AAu)(CG:AA2)(Bk:AAs)(AK:Bool):Option Po:=
 cond ((decide (t3<(Ah.length:Int))))
  (if(0:Int)≤t3∧t3<(Ah.length:Int)then(
  (Gn ((Ah.getD (t3.toNat) ([],[],0,())).1,(Ah.getD (t3.toNat) ([],[],0,())).2.1,(Ah.getD (t3.toNat) ([],[],0,())).2.2.1,())).bind fun u8=>
  cond (!u8.1.1)
   (some ((false,()),()))
  ((DI Bc t3).bind fun u9=>
  cond (u9.1.1)
   (if(0:Int)≤t3∧t3<(Ah.length:Int)then(
   (al ((Ah.getD (t3.toNat) ([],[],0,())).1,(Ah.getD (t3.toNat) ([],[],0,())).2.1,(Ah.getD (t3.toNat) ([],[],0,())).2.2.1,())).bind fun EW=>
   cond (!EW.1.1)
    (some ((false,()),()))
   (R4 (AX (t3+1)) AR AE Ah Bc Br AU Bp Bm CG Bk AK))else none)
  (R4 (AX (t3+1)) AR AE Ah Bc Br AU Bp Bm CG Bk AK)))else none)
 (some ((true,()),()))
def Iv:Nat→TH
 |0=>fun _ _ _ _ _ _ _ _ _ _ _ _=>none
 |n+1=>PH (Iv n)
def U3(R4:TH)(p0:ABS):Option Po:=
 (GP (p0.1,p0.2.1,())).bind fun u1=>
 cond (!u1.1.1)
  (some ((false,()),()))
 (cond (((p0.2.2.1.length:Int) !=(p0.1.length:Int)))
  (some ((false,()),()))
 ((Gg (p0.1,p0.2.1,()) p0.2.2.2.1).bind fun u4=>
 cond (!u4.1.1)
  (some ((false,()),()))
 ((FK (p0.1,p0.2.1,()) p0.2.2.2.1).bind fun u5=>
 cond (u5.1.1)
  (cond (!p0.2.2.2.2.2.2.2.2.2.2.1)
   (some ((false,()),()))
  (R4 0 p0.1 p0.2.1 p0.2.2.1 p0.2.2.2.1 p0.2.2.2.2.1 p0.2.2.2.2.2.1 p0.2.2.2.2.2.2.1 p0.2.2.2.2.2.2.2.1 p0.2.2.2.2.2.2.2.2.1 p0.2.2.2.2.2.2.2.2.2.1 p0.2.2.2.2.2.2.2.2.2.2.1))
 (R4 0 p0.1 p0.2.1 p0.2.2.1 p0.2.2.2.1 p0.2.2.2.2.1 p0.2.2.2.2.2.1 p0.2.2.2.2.2.2.1 p0.2.2.2.2.2.2.2.1 p0.2.2.2.2.2.2.2.2.1 p0.2.2.2.2.2.2.2.2.2.1 p0.2.2.2.2.2.2.2.2.2.2.1))))
def Tf(p0:ABS):Option Po:=U3 (Iv Ae) p0
abbrev Rl:Type:=ABZ×Unit
abbrev Ym:Type:=Int→Int→List Int→Int→AAk→Int→Option Rl
def TL(R5:Ym)(t5 t6:Int)(AR:AAH)(AE:Int)(Co:AAk)(Bj:Int):Option Rl:=
 cond (decide (t6<t5))
  (if(0:Int)≤t6∧t6<(Co.length:Int)then(
  (FK (AR,AE,()) ((Co.getD (t6.toNat) ([],false,0,())).1)).bind fun u6=>
  cond (!u6.1.1)
   (some ((false,()),()))
  ((CN ((Co.getD (t6.toNat) ([],false,0,())).2.2.1) 0 60).bind fun u8=>
  cond (!u8.1.1)
   (some ((false,()),()))
  (cond (!((Co.getD (t6.toNat) ([],false,0,())).2.1))
   (cond (((Co.getD (t6.toNat) ([],false,0,())).2.2.1) !=0)
    (some ((false,()),()))
   (cond (((Co.getD (t6.toNat) ([],false,0,())).2.1))
    (cond (t6==(AX (t5-1)))
     (some ((false,()),()))
    (cond (decide (t6>0))
     (if(0:Int)≤AX (t6-1)∧AX (t6-1)<(Co.length:Int)then(
     cond (!((Co.getD ((AX (t6-1)).toNat) ([],false,0,())).2.1))
      (some ((false,()),()))
     (R5 t5 (AX (t6+1)) AR AE Co Bj))else none)
    (R5 t5 (AX (t6+1)) AR AE Co Bj)))
   (R5 t5 (AX (t6+1)) AR AE Co Bj)))
  (cond (((Co.getD (t6.toNat) ([],false,0,())).2.1))
   (cond (t6==(AX (t5-1)))
    (some ((false,()),()))
   (cond (decide (t6>0))
    (if(0:Int)≤AX (t6-1)∧AX (t6-1)<(Co.length:Int)then(
    cond (!((Co.getD ((AX (t6-1)).toNat) ([],false,0,())).2.1))
     (some ((false,()),()))
    (R5 t5 (AX (t6+1)) AR AE Co Bj))else none)
   (R5 t5 (AX (t6+1)) AR AE Co Bj)))
  (R5 t5 (AX (t6+1)) AR AE Co Bj)))))else none)
 (some ((true,()),()))
def Kh:Nat→Ym
 |0=>fun _ _ _ _ _ _=>none
 |n+1=>TL (Kh n)
def ZM(R5:Ym)(p0:ABO)(p1:ACC):Option Rl:=
 (GP (p0.1,p0.2.1,())).bind fun u1=>
 cond (!u1.1.1)
  (some ((false,()),()))
 (cond ((decide ((p1.1.length:Int)>30)))
  (some ((false,()),()))
 (cond (p1.2.1 !=0)
  ((HT p1.2.1).bind fun u3=>
  cond (!u3.1.1)
   (some ((false,()),()))
  ((C0 p1.2.1).bind fun u4=>
  cond ((decide (u4.1.1>(p1.1.length:Int))))
   (some ((false,()),()))
  (R5 (p1.1.length:Int) 0 p0.1 p0.2.1 p1.1 p1.2.1)))
 (R5 (p1.1.length:Int) 0 p0.1 p0.2.1 p1.1 p1.2.1)))
def MA(p0:ABO)(p1:ACC):Option Rl:=ZM (Kh Ae) p0 p1
abbrev MV:Type:=ABZ×Unit
abbrev S6:Type:=Int→Int→List Int→Int→Int→ACH→Option MV
def VL(R5:S6)(t5 t6:Int)(AR:AAH)(AE Co:Int)(Bj:ACH):Option MV:=
 cond ((decide (t6<(Bj.length:Int))))
  (if(0:Int)≤t6∧t6<(Bj.length:Int)then(
  cond ((decide ((((Bj.getD (t6.toNat) ([],[],false,())).1).length:Int)>40)))
   (some ((false,()),()))
  ((Gg (AR,AE,()) ((Bj.getD (t6.toNat) ([],[],false,())).2.1)).bind fun u7=>
  cond (!u7.1.1)
   (some ((false,()),()))
  ((FK (AR,AE,()) ((Bj.getD (t6.toNat) ([],[],false,())).2.1)).bind fun u9=>
  cond (u9.1.1 !=((Bj.getD (t6.toNat) ([],[],false,())).2.2.1))
   (some ((false,()),()))
  (cond (!((Bj.getD (t6.toNat) ([],[],false,())).2.2.1))
   (R5 (AX (t5+1)) (AX (t6+1)) AR AE Co Bj)
  (R5 t5 (AX (t6+1)) AR AE Co Bj)))))else none)
 (some ((decide (t5≤6),()),()))
def LV:Nat→S6
 |0=>fun _ _ _ _ _ _=>none
 |n+1=>VL (LV n)
def VP(R5:S6)(p0:ABO)(p1:ACJ):Option MV:=
 (GP (p0.1,p0.2.1,())).bind fun u1=>
 cond (!u1.1.1)
  (some ((false,()),()))
 ((CN p1.1 1 30).bind fun u2=>
 cond (!u2.1.1)
  (some ((false,()),()))
 (cond (decide ((p1.2.1.length:Int)>60))
  (some ((false,()),()))
 (R5 0 0 p0.1 p0.2.1 p1.1 p1.2.1)))
def HW(p0:ABO)(p1:ACJ):Option MV:=VP (LV Ae) p0 p1
abbrev KE:Type:=ABp×Unit
def HG(p0:Int):Option KE:=
 (HT p0).bind fun u1=>
 cond (!u1.1.1)
  (some ((0,()),()))
 (some ((p0.tmod 4294967296,()),()))
abbrev qd:Type:=ABp×Unit
def Qr(p0:ABi):Option qd:=
 cond ((p0.2.2.2.1.length:Int)==0)
  (some ((0,()),()))
 (let x2:Int:=(p0.2.2.2.1.length:Int)
 if(0:Int)≤AX (x2-1)∧AX (x2-1)<(p0.2.2.2.1.length:Int)then(
 (HG ((p0.2.2.2.1.getD ((AX (x2-1)).toNat) (0,0,false,[],())).1)).bind fun u4=>
 some ((u4.1.1,()),()))else none)
abbrev M5:Type:=ABZ×Unit
abbrev RH:Type:=Int→List Int→Int→Int→Int→List Int→AA_→Bool→List AAH→Option M5
abbrev RT:Type:=Int→List Int→Int→Int→Int→List Int→AA_→Bool→List AAH→Option M5
def SF(R4:RH)(R9:RT)(t5:Int)(AR:AAH)(AE Co Bj:Int)(Ee:AAH)(Gt:AA_)(MQ:Bool)(D_:List AAH):Option M5:=
 cond ((decide (t5<(Gt.length:Int))))
  (if(0:Int)≤t5∧t5<(Gt.length:Int)then(
  (L4 ((Gt.getD (t5.toNat) (0,0,false,[],())).1,(Gt.getD (t5.toNat) (0,0,false,[],())).2.1,(Gt.getD (t5.toNat) (0,0,false,[],())).2.2.1,(Gt.getD (t5.toNat) (0,0,false,[],())).2.2.2.1,())).bind fun u7=>
  cond (!u7.1.1)
   (some ((false,()),()))
  (if(0:Int)≤t5∧t5<(Gt.length:Int)then(
  (C0 ((Gt.getD (t5.toNat) (0,0,false,[],())).1)).bind fun u9=>
  cond (u9.1.1 !=Bj)
   (some ((false,()),()))
  (if(0:Int)≤t5∧t5<(Gt.length:Int)then(
  cond (decide (((Gt.getD (t5.toNat) (0,0,false,[],())).2.1)≥Co))
   (some ((false,()),()))
  (R4 (AX (t5+1)) AR AE Co Bj Ee Gt MQ D_))else none))else none))else none)
 (R9 0 AR AE Co Bj Ee Gt MQ D_)
def SL(R4:RH)(R9:RT)(t6:Int)(AR:AAH)(AE Co Bj:Int)(Ee:AAH)(Gt:AA_)(MQ:Bool)(D_:List AAH):Option M5:=
 cond ((decide (t6<(D_.length:Int))))
  (if(0:Int)≤t6∧t6<(D_.length:Int)then(
  (Gg (AR,AE,()) (D_.getD (t6.toNat) [])).bind fun bS=>
  cond (!bS.1.1)
   (some ((false,()),()))
  (R9 (AX (t6+1)) AR AE Co Bj Ee Gt MQ D_))else none)
 (cond (!MQ)
  (some ((((D_.length:Int)==0),()),()))
 ((Qr (Co,Bj,Ee,Gt,MQ,D_,())).bind fun VO=>
 some ((((D_.length:Int)==VO.1.1),()),())))
mutual
def JT:Nat→RH
 |0=>fun _ _ _ _ _ _ _ _ _=>none
 |n+1=>SF (JT n) (Hf n)
def Hf:Nat→RT
 |0=>fun _ _ _ _ _ _ _ _ _=>none
 |n+1=>SL (JT n) (Hf n)
end
def YV(R4:RH)(R9:RT)(p0:ABO)(p1:ABi):Option M5:=
 (GP (p0.1,p0.2.1,())).bind fun u1=>
 cond (!u1.1.1)
  (some ((false,()),()))
 ((CN p1.2.1 1 30).bind fun u2=>
 cond (!u2.1.1)
  (some ((false,()),()))
 ((CN p1.1 (AX (p1.2.1+1)) 30).bind fun u3=>
 cond (!u3.1.1)
  (some ((false,()),()))
 ((Gg (p0.1,p0.2.1,()) p1.2.2.1).bind fun u4=>
 cond (!u4.1.1)
  (some ((false,()),()))
 ((W9 p1.2.2.2.1).bind fun u5=>
 cond (!u5.1.1)
  (some ((false,()),()))
 (R4 0 p0.1 p0.2.1 p1.1 p1.2.1 p1.2.2.1 p1.2.2.2.1 p1.2.2.2.2.1 p1.2.2.2.2.2.1)))))
def Ip(p0:ABO)(p1:ABi):Option M5:=YV (JT Ae) (Hf Ae) p0 p1
abbrev I0:Type:=ABZ×Unit
abbrev NJ:Type:=Int→Int→List Int→Int→AAQ→List Int→AAk→Int→AAt→AAu→AA2→AAs→Bool→Option I0
abbrev L_:Type:=Int→Int→List Int→Int→AAQ→List Int→AAk→Int→AAt→AAu→AA2→AAs→Bool→Option I0
def OB(R5:NJ)(R10:L_)(t3 t4:Int)(AR:AAH)(AE:Int)(Ah:AAQ)(Bc:AAH)(Br:AAk)(AU:Int)(Bp:AAt)(Bm:AAu)(CG:AA2)(Bk:AAs)(AK:Bool):Option I0:=
 cond ((decide (t4<(Bp.length:Int))))
  (if(0:Int)≤t4∧t4<(Bp.length:Int)then(
  (HW (AR,AE,()) ((Bp.getD (t4.toNat) (0,[],())).1,(Bp.getD (t4.toNat) (0,[],())).2.1,())).bind fun u6=>
  cond (!u6.1.1)
   (some ((false,()),()))
  (if(0:Int)≤t4∧t4<(Bp.length:Int)then(
  cond (decide (((Bp.getD (t4.toNat) (0,[],())).1)>t3))
   (some ((false,()),()))
  (cond (decide (t4>0))
   (if(0:Int)≤AX (t4-1)∧AX (t4-1)<(Bp.length:Int)then(
   if(0:Int)≤t4∧t4<(Bp.length:Int)then(
   cond (decide (((Bp.getD ((AX (t4-1)).toNat) (0,[],())).1)≥((Bp.getD (t4.toNat) (0,[],())).1)))
    (some ((false,()),()))
   (R5 t3 (AX (t4+1)) AR AE Ah Bc Br AU Bp Bm CG Bk AK))else none)else none)
  (R5 t3 (AX (t4+1)) AR AE Ah Bc Br AU Bp Bm CG Bk AK)))else none))else none)
 (R10 t3 0 AR AE Ah Bc Br AU Bp Bm CG Bk AK)
def M8(R5:NJ)(R10:L_)(t3 t5:Int)(AR:AAH)(AE:Int)(Ah:AAQ)(Bc:AAH)(Br:AAk)(AU:Int)(Bp:AAt)(Bm:AAu)(CG:AA2)(Bk:AAs)(AK:Bool):Option I0:=
 cond ((decide (t5<(Bm.length:Int))))
  (if(0:Int)≤t5∧t5<(Bm.length:Int)then(
  (Ip (AR,AE,()) ((Bm.getD (t5.toNat) (0,0,[],[],false,[],())).1,(Bm.getD (t5.toNat) (0,0,[],[],false,[],())).2.1,(Bm.getD (t5.toNat) (0,0,[],[],false,[],())).2.2.1,(Bm.getD (t5.toNat) (0,0,[],[],false,[],())).2.2.2.1,(Bm.getD (t5.toNat) (0,0,[],[],false,[],())).2.2.2.2.1,(Bm.getD (t5.toNat) (0,0,[],[],false,[],())).2.2.2.2.2.1,())).bind fun Nq=>
  cond (!Nq.1.1)
   (some ((false,()),()))
  (cond (((Bm.getD (t5.toNat) (0,0,[],[],false,[],())).1) !=t3)
   (some ((false,()),()))
  ((JZ (Br,AU,())).bind fun VO=>
  cond (((Bm.getD (t5.toNat) (0,0,[],[],false,[],())).2.1) !=VO.1.1)
   (some ((false,()),()))
  (R10 t3 (AX (t5+1)) AR AE Ah Bc Br AU Bp Bm CG Bk AK))))else none)
 (some ((true,()),()))
mutual
def Gk:Nat→NJ
 |0=>fun _ _ _ _ _ _ _ _ _ _ _ _ _=>none
 |n+1=>OB (Gk n) (Ep n)
def Ep:Nat→L_
 |0=>fun _ _ _ _ _ _ _ _ _ _ _ _ _=>none
 |n+1=>M8 (Gk n) (Ep n)
end
def T3(R5:NJ)(R10:L_)(p0:ABS):Option I0:=
 (MA (p0.1,p0.2.1,()) (p0.2.2.2.2.1,p0.2.2.2.2.2.1,())).bind fun u2=>
 cond (!u2.1.1)
  (some ((false,()),()))
 (cond (decide ((p0.2.2.2.2.2.2.1.length:Int)>4))
  (some ((false,()),()))
 (cond (decide ((p0.2.2.2.2.2.2.2.1.length:Int)>1))
  (some ((false,()),()))
 (R5 (p0.2.2.2.2.1.length:Int) 0 p0.1 p0.2.1 p0.2.2.1 p0.2.2.2.1 p0.2.2.2.2.1 p0.2.2.2.2.2.1 p0.2.2.2.2.2.2.1 p0.2.2.2.2.2.2.2.1 p0.2.2.2.2.2.2.2.2.1 p0.2.2.2.2.2.2.2.2.2.1 p0.2.2.2.2.2.2.2.2.2.2.1)))
def Rp(p0:ABS):Option I0:=T3 (Gk Ae) (Ep Ae) p0
abbrev mc:Type:=ABZ×Unit
def Mw(p0:ACh):Option mc:=
 (CN p0.1 1 31).bind fun u1=>
 cond (u1.1.1)
  ((CN p0.2.1 1 61).bind fun u2=>
  cond (u2.1.1)
   (some ((decide ((p0.2.2.1.length:Int)≤120),()),()))
  (some ((false,()),())))
 (some ((false,()),()))
abbrev RC:Type:=ABZ×Unit
abbrev Um:Type:=Int→List Int→Int→AAQ→List Int→AAk→Int→AAt→AAu→AA2→AAs→Bool→Option RC
def QH(R4:Um)(t3:Int)(AR:AAH)(AE:Int)(Ah:AAQ)(Bc:AAH)(Br:AAk)(AU:Int)(Bp:AAt)(Bm:AAu)(CG:AA2)(Bk:AAs)(AK:Bool):Option RC:=
 cond ((decide (t3<(Bk.length:Int))))
  (if(0:Int)≤t3∧t3<(Bk.length:Int)then(
  (HT ((Bk.getD (t3.toNat) (0,[],false,())).1)).bind fun u4=>
  cond (!u4.1.1)
   (some ((false,()),()))
  ((C0 ((Bk.getD (t3.toNat) (0,[],false,())).1)).bind fun u6=>
  cond ((decide (u6.1.1>(Br.length:Int))))
   (some ((false,()),()))
  (cond ((decide ((((Bk.getD (t3.toNat) (0,[],false,())).2.1).length:Int)>40)))
   (some ((false,()),()))
  (cond (decide (t3>0))
   (if(0:Int)≤AX (t3-1)∧AX (t3-1)<(Bk.length:Int)then(
   cond (decide (((Bk.getD ((AX (t3-1)).toNat) (0,[],false,())).1)≥((Bk.getD (t3.toNat) (0,[],false,())).1)))
    (some ((false,()),()))
   (R4 (AX (t3+1)) AR AE Ah Bc Br AU Bp Bm CG Bk AK))else none)
  (R4 (AX (t3+1)) AR AE Ah Bc Br AU Bp Bm CG Bk AK)))))else none)
 (some ((true,()),()))
def J1:Nat→Um
 |0=>fun _ _ _ _ _ _ _ _ _ _ _ _=>none
 |n+1=>QH (J1 n)
def Wx(R4:Um)(p0:ABS):Option RC:=
 cond (decide ((p0.2.2.2.2.2.2.2.2.2.1.length:Int)>120))
  (some ((false,()),()))
 (R4 0 p0.1 p0.2.1 p0.2.2.1 p0.2.2.2.1 p0.2.2.2.2.1 p0.2.2.2.2.2.1 p0.2.2.2.2.2.2.1 p0.2.2.2.2.2.2.2.1 p0.2.2.2.2.2.2.2.2.1 p0.2.2.2.2.2.2.2.2.2.1 p0.2.2.2.2.2.2.2.2.2.2.1)
def Vl(p0:ABS):Option RC:=Wx (J1 Ae) p0
abbrev qH:Type:=ABZ×Unit
def Rm(p0:ABS):Option qH:=
 (Tf (p0.1,p0.2.1,p0.2.2.1,p0.2.2.2.1,p0.2.2.2.2.1,p0.2.2.2.2.2.1,p0.2.2.2.2.2.2.1,p0.2.2.2.2.2.2.2.1,p0.2.2.2.2.2.2.2.2.1,p0.2.2.2.2.2.2.2.2.2.1,p0.2.2.2.2.2.2.2.2.2.2.1,())).bind fun u1=>
 cond (u1.1.1)
  ((Rp (p0.1,p0.2.1,p0.2.2.1,p0.2.2.2.1,p0.2.2.2.2.1,p0.2.2.2.2.2.1,p0.2.2.2.2.2.2.1,p0.2.2.2.2.2.2.2.1,p0.2.2.2.2.2.2.2.2.1,p0.2.2.2.2.2.2.2.2.2.1,p0.2.2.2.2.2.2.2.2.2.2.1,())).bind fun u2=>
  cond (u2.1.1)
   (cond ((p0.2.2.2.2.2.2.2.2.1.length:Int)==2)
    (if(0:Int)≤(0:Int)∧(0:Int)<(p0.2.2.2.2.2.2.2.2.1.length:Int)then(
    (Mw ((p0.2.2.2.2.2.2.2.2.1.getD 0 (0,0,[],())).1,(p0.2.2.2.2.2.2.2.2.1.getD 0 (0,0,[],())).2.1,(p0.2.2.2.2.2.2.2.2.1.getD 0 (0,0,[],())).2.2.1,())).bind fun u4=>
    cond (u4.1.1)
     (if(0:Int)≤(1:Int)∧(1:Int)<(p0.2.2.2.2.2.2.2.2.1.length:Int)then(
     (Mw ((p0.2.2.2.2.2.2.2.2.1.getD 1 (0,0,[],())).1,(p0.2.2.2.2.2.2.2.2.1.getD 1 (0,0,[],())).2.1,(p0.2.2.2.2.2.2.2.2.1.getD 1 (0,0,[],())).2.2.1,())).bind fun u5=>
     cond (u5.1.1)
      ((Vl (p0.1,p0.2.1,p0.2.2.1,p0.2.2.2.1,p0.2.2.2.2.1,p0.2.2.2.2.2.1,p0.2.2.2.2.2.2.1,p0.2.2.2.2.2.2.2.1,p0.2.2.2.2.2.2.2.2.1,p0.2.2.2.2.2.2.2.2.2.1,p0.2.2.2.2.2.2.2.2.2.2.1,())).bind fun u6=>
      some ((u6.1.1,()),()))
     (some ((false,()),())))else none)
    (some ((false,()),())))else none)
   (some ((false,()),())))
  (some ((false,()),())))
 (some ((false,()),()))
abbrev mP:Type:=AFU×Unit
def Ye(p0:ACa):Option mP:=
 cond (p0.1==1)
  (some (((p0.1,p0.2.1,0,0,[],()),()),()))
 (cond (p0.1==4)
  (some (((p0.1,p0.2.1,0,0,[],()),()),()))
 (cond (p0.1==6)
  (some (((p0.1,p0.2.1,0,0,[],()),()),()))
 (cond (p0.1==7)
  (some (((p0.1,p0.2.1,0,0,[],()),()),()))
 (cond (p0.1==9)
  (some (((p0.1,p0.2.1,0,0,[],()),()),()))
 (cond (p0.1==13)
  (some (((p0.1,p0.2.1,0,0,[],()),()),()))
 (cond (p0.1==15)
  (some (((p0.1,p0.2.1,0,0,[],()),()),()))
 (cond (p0.1==16)
  (some (((p0.1,p0.2.1,0,0,[],()),()),()))
 (cond (p0.1==2)
  (some (((p0.1,p0.2.1,0,0,p0.2.2.2.2.1,()),()),()))
 (cond (p0.1==3)
  (some (((p0.1,p0.2.1,p0.2.2.1,p0.2.2.2.1,[],()),()),()))
 (cond (p0.1==5)
  (some (((p0.1,p0.2.1,p0.2.2.1,0,[],()),()),()))
 (cond (p0.1==14)
  (some (((p0.1,p0.2.1,p0.2.2.1,0,[],()),()),()))
 (cond (p0.1==11)
  (some (((p0.1,0,p0.2.2.1,p0.2.2.2.1,[],()),()),()))
 (some (((p0.1,0,0,0,[],()),()),()))))))))))))))
abbrev qX:Type:=ABZ×Unit
def YN(p0:ACa):Option qX:=
 (CN p0.1 1 16).bind fun u1=>
 cond (u1.1.1)
  ((Ye (p0.1,p0.2.1,p0.2.2.1,p0.2.2.2.1,p0.2.2.2.2.1,())).bind fun u2=>
  cond (((p0.1==u2.1.1.1)&&((p0.2.1==u2.1.1.2.1)&&((p0.2.2.1==u2.1.1.2.2.1)&&((p0.2.2.2.1==u2.1.1.2.2.2.1)&&((p0.2.2.2.2.1==u2.1.1.2.2.2.2.1)&&true))))))
   (some ((decide ((p0.2.2.2.2.1.length:Int)≤40),()),()))
  (some ((false,()),())))
 (some ((false,()),()))
abbrev FZ:Type:=AEX×ACt
abbrev XO:Type:=Int→AAk→Int→Int→AAk→Int→AAk→Option FZ
def Xg(R3:XO)(t4:Int)(AR:AAk)(AE Bj:Int)(b2:AAk)(sg:Int)(b4:AAk):Option FZ:=
 cond ((decide (t4<(AR.length:Int))))
  (if(0:Int)≤t4∧t4<(AR.length:Int)then(
  if 0+((AR.getD (t4.toNat) ([],false,0,())).1).length≤Ds then(
  if b4.length+1≤Ds then(
  R3 (AX (t4+1)) AR AE Bj b2 sg (b4++[(((AR.getD (t4.toNat) ([],false,0,())).1),(AR.getD (t4.toNat) ([],false,0,())).2.1,(AR.getD (t4.toNat) ([],false,0,())).2.2.1,())]))else none)else none)else none)
 (some ((((),sg,()),()),(b4,())))
def Nu:Nat→XO
 |0=>fun _ _ _ _ _ _ _=>none
 |n+1=>Xg (Nu n)
def Xj(R3:XO)(p0:ACC):Option FZ:=
 R3 0 p0.1 p0.2.1 0 [] p0.2.1 []
def F6(p0:ACC):Option FZ:=Xj (Nu Ae) p0
abbrev Kk:Type:=AFg×ACl
def El(p0:ACP):Option Kk:=
 if 0+p0.1.length≤Ds then(
 if 0+p0.2.1.length≤Ds then(
 some ((((),(),p0.2.2.1,()),()),(p0.1,p0.2.1,())))else none)else none
abbrev FX:Type:=AFh×ACv
abbrev Wc:Type:=Int→Int→ACH→Int→ACH→Int→ACH→Option FX
def Xh(R3:Wc)(t4 AR:Int)(AE:ACH)(Co:Int)(b2:ACH)(AA3:Int)(b4:ACH):Option FX:=
 cond ((decide (t4<(AE.length:Int))))
  (if(0:Int)≤t4∧t4<(AE.length:Int)then(
  if 0+((AE.getD (t4.toNat) ([],[],false,())).2.1).length≤Ds then(
  if b4.length+1≤Ds then(
  R3 (AX (t4+1)) AR AE Co b2 AA3 (b4++[((AE.getD (t4.toNat) ([],[],false,())).1,((AE.getD (t4.toNat) ([],[],false,())).2.1),(AE.getD (t4.toNat) ([],[],false,())).2.2.1,())]))else none)else none)else none)
 (some (((AA3,(),()),()),(b4,())))
def OC:Nat→Wc
 |0=>fun _ _ _ _ _ _ _=>none
 |n+1=>Xh (OC n)
def X5(R3:Wc)(p0:ACJ):Option FX:=
 R3 0 p0.1 p0.2.1 0 [] p0.1 []
def FQ(p0:ACJ):Option FX:=X5 (OC Ae) p0
abbrev GU:Type:=AEY×ACm
abbrev W0:Type:=Int→Int→Int→List Int→AA_→Bool→List AAH→Int→Int→Bool→List Int→AA_→List AAH→Int→Int→Bool→List Int→AA_→List AAH→Option GU
def R_(R3:W0)(t4 AR AE:Int)(Ah:AAH)(Bc:AA_)(Br:Bool)(AU:List AAH)(Co Bj:Int)(MQ:Bool)(b2:AAH)(b3:AA_)(b4:List AAH)(AC3 ADZ:Int)(AC9:Bool)(b6:AAH)(b7:AA_)(b8:List AAH):Option GU:=
 cond ((decide (t4<(AU.length:Int))))
  (if(0:Int)≤t4∧t4<(AU.length:Int)then(
  if 0+(AU.getD (t4.toNat) []).length≤Ds then(
  if b8.length+1≤Ds then(
  R3 (AX (t4+1)) AR AE Ah Bc Br AU Co Bj MQ b2 b3 b4 AC3 ADZ AC9 b6 b7 (b8++[(AU.getD (t4.toNat) [])]))else none)else none)else none)
 (some (((AC3,ADZ,(),(),AC9,(),()),()),(b6,b7,b8,())))
def Hs:Nat→W0
 |0=>fun _ _ _ _ _ _ _ _ _ _ _ _ _ _ _ _ _ _ _=>none
 |n+1=>R_ (Hs n)
def NI(R3:W0)(p0:ABi):Option GU:=
 if 0+p0.2.2.1.length≤Ds then(
 if 0+p0.2.2.2.1.length≤Ds then(
 R3 0 p0.1 p0.2.1 p0.2.2.1 p0.2.2.2.1 p0.2.2.2.2.1 p0.2.2.2.2.2.1 0 0 false [] [] [] p0.1 p0.2.1 p0.2.2.2.2.1 p0.2.2.1 p0.2.2.2.1 [])else none)else none
def EL(p0:ABi):Option GU:=NI (Hs Ae) p0
abbrev Ja:Type:=AFJ×AEL
def CS(p0:ACh):Option Ja:=
 if 0+p0.2.2.1.length≤Ds then(
 some (((p0.1,p0.2.1,(),()),()),(p0.2.2.1,())))else none
abbrev FV:Type:=AFi×ACn
abbrev Ju:Type:=Int→List Int→Int→AAQ→List Int→AAk→Int→AAt→AAu→AA2→AAs→Bool→Int→Int→Bool→List Int→AAQ→List Int→AAk→AAt→AAu→AA2→AAs→Int→Int→Bool→List Int→AAQ→List Int→AAk→AAt→AAu→AA2→AAs→Option FV
abbrev Jy:Type:=Int→List Int→Int→AAQ→List Int→AAk→Int→AAt→AAu→AA2→AAs→Bool→Int→Int→Bool→List Int→AAQ→List Int→AAk→AAt→AAu→AA2→AAs→Int→Int→Bool→List Int→AAQ→List Int→AAk→AAt→AAu→AA2→AAs→Option FV
abbrev Ix:Type:=Int→List Int→Int→AAQ→List Int→AAk→Int→AAt→AAu→AA2→AAs→Bool→Int→Int→Bool→List Int→AAQ→List Int→AAk→AAt→AAu→AA2→AAs→Int→Int→Bool→List Int→AAQ→List Int→AAk→AAt→AAu→AA2→AAs→Option FV
abbrev Iw:Type:=Int→List Int→Int→AAQ→List Int→AAk→Int→AAt→AAu→AA2→AAs→Bool→Int→Int→Bool→List Int→AAQ→List Int→AAk→AAt→AAu→AA2→AAs→Int→Int→Bool→List Int→AAQ→List Int→AAk→AAt→AAu→AA2→AAs→Option FV
def QT(R3:Ju)(R7:Jy)(xG:Ix)(oR:Iw)(t4:Int)(AR:AAH)(AE:Int)(Ah:AAQ)(Bc:AAH)(Br:AAk)(AU:Int)(Bp:AAt)(Bm:AAu)(CG:AA2)(Bk:AAs)(AK:Bool)(Bj D_:Int)(E5:Bool)(b2:AAH)(b3:AAQ)(b4:AAH)(b5:AAk)(b6:AAt)(b7:AAu)(b8:AA2)(b9:AAs)(Dr Eb:Int)(C4:Bool)(GM:AAH)(D2:AAQ)(Gv:AAH)(Gz:AAk)(ER:AAt)(E8:AAu)(Fh:AA2)(Ui:AAs):Option FV:=
 cond ((decide (t4<(Ah.length:Int))))
  (if(0:Int)≤t4∧t4<(Ah.length:Int)then(
  (El ((Ah.getD (t4.toNat) ([],[],0,())).1,(Ah.getD (t4.toNat) ([],[],0,())).2.1,(Ah.getD (t4.toNat) ([],[],0,())).2.2.1,())).bind fun yU=>
  if D2.length+1≤Ds then(
  R3 (AX (t4+1)) AR AE Ah Bc Br AU Bp Bm CG Bk AK Bj D_ E5 b2 b3 b4 b5 b6 b7 b8 b9 Dr Eb C4 GM (D2++[(yU.2.1,yU.2.2.1,yU.1.1.2.2.1,())]) Gv Gz ER E8 Fh Ui)else none)else none)
 (R7 0 AR AE Ah Bc Br AU Bp Bm CG Bk AK Bj D_ E5 b2 b3 b4 b5 b6 b7 b8 b9 Dr Eb C4 GM D2 Gv Gz ER E8 Fh Ui)
def QV(R3:Ju)(R7:Jy)(xG:Ix)(oR:Iw)(t5:Int)(AR:AAH)(AE:Int)(Ah:AAQ)(Bc:AAH)(Br:AAk)(AU:Int)(Bp:AAt)(Bm:AAu)(CG:AA2)(Bk:AAs)(AK:Bool)(Bj D_:Int)(E5:Bool)(b2:AAH)(b3:AAQ)(b4:AAH)(b5:AAk)(b6:AAt)(b7:AAu)(b8:AA2)(b9:AAs)(Dr Eb:Int)(C4:Bool)(GM:AAH)(D2:AAQ)(Gv:AAH)(Gz:AAk)(ER:AAt)(E8:AAu)(Fh:AA2)(Ui:AAs):Option FV:=
 cond ((decide (t5<(Bp.length:Int))))
  (if(0:Int)≤t5∧t5<(Bp.length:Int)then(
  (FQ ((Bp.getD (t5.toNat) (0,[],())).1,(Bp.getD (t5.toNat) (0,[],())).2.1,())).bind fun AC0=>
  if ER.length+1≤Ds then(
  R7 (AX (t5+1)) AR AE Ah Bc Br AU Bp Bm CG Bk AK Bj D_ E5 b2 b3 b4 b5 b6 b7 b8 b9 Dr Eb C4 GM D2 Gv Gz (ER++[(AC0.1.1.1,AC0.2.1,())]) E8 Fh Ui)else none)else none)
 (xG 0 AR AE Ah Bc Br AU Bp Bm CG Bk AK Bj D_ E5 b2 b3 b4 b5 b6 b7 b8 b9 Dr Eb C4 GM D2 Gv Gz ER E8 Fh Ui)
def PE(R3:Ju)(R7:Jy)(xG:Ix)(oR:Iw)(t6:Int)(AR:AAH)(AE:Int)(Ah:AAQ)(Bc:AAH)(Br:AAk)(AU:Int)(Bp:AAt)(Bm:AAu)(CG:AA2)(Bk:AAs)(AK:Bool)(Bj D_:Int)(E5:Bool)(b2:AAH)(b3:AAQ)(b4:AAH)(b5:AAk)(b6:AAt)(b7:AAu)(b8:AA2)(b9:AAs)(Dr Eb:Int)(C4:Bool)(GM:AAH)(D2:AAQ)(Gv:AAH)(Gz:AAk)(ER:AAt)(E8:AAu)(Fh:AA2)(Ui:AAs):Option FV:=
 cond ((decide (t6<(Bm.length:Int))))
  (if(0:Int)≤t6∧t6<(Bm.length:Int)then(
  (EL ((Bm.getD (t6.toNat) (0,0,[],[],false,[],())).1,(Bm.getD (t6.toNat) (0,0,[],[],false,[],())).2.1,(Bm.getD (t6.toNat) (0,0,[],[],false,[],())).2.2.1,(Bm.getD (t6.toNat) (0,0,[],[],false,[],())).2.2.2.1,(Bm.getD (t6.toNat) (0,0,[],[],false,[],())).2.2.2.2.1,(Bm.getD (t6.toNat) (0,0,[],[],false,[],())).2.2.2.2.2.1,())).bind fun kc=>
  if E8.length+1≤Ds then(
  xG (AX (t6+1)) AR AE Ah Bc Br AU Bp Bm CG Bk AK Bj D_ E5 b2 b3 b4 b5 b6 b7 b8 b9 Dr Eb C4 GM D2 Gv Gz ER (E8++[(kc.1.1.1,kc.1.1.2.1,kc.2.1,kc.2.2.1,kc.1.1.2.2.2.2.1,kc.2.2.2.1,())]) Fh Ui)else none)else none)
 (oR 0 AR AE Ah Bc Br AU Bp Bm CG Bk AK Bj D_ E5 b2 b3 b4 b5 b6 b7 b8 b9 Dr Eb C4 GM D2 Gv Gz ER E8 Fh Ui)
def PF(R3:Ju)(R7:Jy)(xG:Ix)(oR:Iw)(t7:Int)(AR:AAH)(AE:Int)(Ah:AAQ)(Bc:AAH)(Br:AAk)(AU:Int)(Bp:AAt)(Bm:AAu)(CG:AA2)(Bk:AAs)(AK:Bool)(Bj D_:Int)(E5:Bool)(b2:AAH)(b3:AAQ)(b4:AAH)(b5:AAk)(b6:AAt)(b7:AAu)(b8:AA2)(b9:AAs)(Dr Eb:Int)(C4:Bool)(GM:AAH)(D2:AAQ)(Gv:AAH)(Gz:AAk)(ER:AAt)(E8:AAu)(Fh:AA2)(Ui:AAs):Option FV:=
 cond ((decide (t7<(CG.length:Int))))
  (if(0:Int)≤t7∧t7<(CG.length:Int)then(
  (CS ((CG.getD (t7.toNat) (0,0,[],())).1,(CG.getD (t7.toNat) (0,0,[],())).2.1,(CG.getD (t7.toNat) (0,0,[],())).2.2.1,())).bind fun xq=>
  if Fh.length+1≤Ds then(
  oR (AX (t7+1)) AR AE Ah Bc Br AU Bp Bm CG Bk AK Bj D_ E5 b2 b3 b4 b5 b6 b7 b8 b9 Dr Eb C4 GM D2 Gv Gz ER E8 (Fh++[(xq.1.1.1,xq.1.1.2.1,xq.2.1,())]) Ui)else none)else none)
 (some ((((),Dr,(),(),(),Eb,(),(),(),(),C4,()),()),(GM,D2,Gv,Gz,ER,E8,Fh,Ui,())))
mutual
def Cc:Nat→Ju
 |0=>fun _ _ _ _ _ _ _ _ _ _ _ _ _ _ _ _ _ _ _ _ _ _ _ _ _ _ _ _ _ _ _ _ _ _=>none
 |n+1=>QT (Cc n) (Cs n) (CY n) (CW n)
def Cs:Nat→Jy
 |0=>fun _ _ _ _ _ _ _ _ _ _ _ _ _ _ _ _ _ _ _ _ _ _ _ _ _ _ _ _ _ _ _ _ _ _=>none
 |n+1=>QV (Cc n) (Cs n) (CY n) (CW n)
def CY:Nat→Ix
 |0=>fun _ _ _ _ _ _ _ _ _ _ _ _ _ _ _ _ _ _ _ _ _ _ _ _ _ _ _ _ _ _ _ _ _ _=>none
 |n+1=>PE (Cc n) (Cs n) (CY n) (CW n)
def CW:Nat→Iw
 |0=>fun _ _ _ _ _ _ _ _ _ _ _ _ _ _ _ _ _ _ _ _ _ _ _ _ _ _ _ _ _ _ _ _ _ _=>none
 |n+1=>PF (Cc n) (Cs n) (CY n) (CW n)
end
def QL(R3:Ju)(R7:Jy)(xG:Ix)(oR:Iw)(p0:ABS):Option FV:=
 if 0+p0.1.length≤Ds then(
 if 0+p0.2.2.2.1.length≤Ds then(
 (F6 (p0.2.2.2.2.1,p0.2.2.2.2.2.1,())).bind fun u2=>
 if 0+p0.2.2.2.2.2.2.2.2.2.1.length≤Ds then(
 R3 0 p0.1 p0.2.1 p0.2.2.1 p0.2.2.2.1 p0.2.2.2.2.1 p0.2.2.2.2.2.1 p0.2.2.2.2.2.2.1 p0.2.2.2.2.2.2.2.1 p0.2.2.2.2.2.2.2.2.1 p0.2.2.2.2.2.2.2.2.2.1 p0.2.2.2.2.2.2.2.2.2.2.1 0 0 false [] [] [] [] [] [] [] [] p0.2.1 u2.1.1.2.1 p0.2.2.2.2.2.2.2.2.2.2.1 p0.1 [] p0.2.2.2.1 u2.2.1 [] [] [] p0.2.2.2.2.2.2.2.2.2.1)else none)else none)else none
def Og(p0:ABS):Option FV:=QL (Cc Ae) (Cs Ae) (CY Ae) (CW Ae) p0
abbrev Oi:Type:=ACL×ACb
abbrev Rj:Type:=Int→Int→List Int→Option Oi
def Ng(R3:Rj)(t0 t4:Int)(b0:AAH):Option Oi:=
 cond (decide (t4<8))
  ((CN t0 0 255).bind fun u1=>
  cond (u1.1.1)
   (if t4<0 then none else(
   cond (((br .i64 (t0.fdiv (2^(min t4.toNat 64))) 1)==1))
    (if b0.length+1≤Ds then(
    R3 t0 (AX (t4+1)) (b0++[t4]))else none)
   (R3 t0 (AX (t4+1)) b0)))
  (some (((),()),(b0,()))))
 (some (((),()),(b0,())))
def Hw:Nat→Rj
 |0=>fun _ _ _=>none
 |n+1=>Ng (Hw n)
def Uc(R3:Rj)(p0:Int):Option Oi:=
 R3 p0 0 []
def Nh(p0:Int):Option Oi:=Uc (Hw Ae) p0
abbrev pz:Type:=(AFr×Unit)×ACt
def O5(p0:ABO)(p1:ACC)(p2:AAH):Option pz:=
 (MA (p0.1,p0.2.1,()) (p1.1,p1.2.1,())).bind fun u1=>
 cond (!u1.1.1)
  (some (((((),0,()),0,false,()),()),([],())))
 ((F6 (p1.1,p1.2.1,())).bind fun u2=>
 (FK (p0.1,p0.2.1,()) p2).bind fun u3=>
 cond (!u3.1.1)
  (some (((((),u2.1.1.2.1,()),0,false,()),()),(u2.2.1,())))
 (cond (((p1.1.length:Int)==30))
  (some (((((),u2.1.1.2.1,()),0,false,()),()),(u2.2.1,())))
 (if 0+p2.length≤Ds then(
 if u2.2.1.length+1≤Ds then(
 let x5:AAk:=u2.2.1++[(p2,false,0,())]
 some (((((),u2.1.1.2.1,()),(x5.length:Int),true,()),()),(x5,())))else none)else none)))
abbrev cF:Type:=ACj×(List Int×AAQ×List Int×Unit×Unit×Unit×AA2×AAs×AAk×AAt×AAu×Unit)
def Vv(CP CT:Int)(BQ:Bool)(p1:ACa)(b0:AAH)(b1:AAQ)(b2:AAH)(b3:AAk)(b4:AAt)(b5:AAu)(b6:AA2)(b7:AAs):Option cF:=
 cond (((b4.length:Int)==4))
  (some (((((),CP,(),(),(),CT,(),(),(),(),BQ,()),4,()),()),(b0,b1,b2,(),(),(),b6,b7,b3,b4,b5,())))
 ((Nh p1.2.1).bind fun u2=>
 (O5 (b0,CP,()) (b3,CT,()) u2.2.1).bind fun u3=>
 cond (!u3.1.1.2.2.1)
  (some (((((),CP,(),(),(),CT,(),(),(),(),BQ,()),4,()),()),(b0,b1,b2,(),(),(),b6,b7,b3,b4,b5,())))
 (if b4.length+1≤Ds then(
 some (((((),CP,(),(),(),u3.1.1.1.2.1,(),(),(),(),BQ,()),0,()),()),(b0,b1,b2,(),(),(),b6,b7,u3.2.1,(b4++[(u3.1.1.2.1,[],())]),[],())))else none))
abbrev kX:Type:=ABZ×Unit
def K7(p0:ABS)(p1:Int):Option kX:=
 (CN p1 0 (AX ((p0.2.2.2.2.2.2.1.length:Int)-1))).bind fun u2=>
 some ((u2.1.1,()),())
abbrev jh:Type:=(AFs×Unit)×ACv
def K8(p0:ABO)(p1:ACJ)(p2:ABs):Option jh:=
 (HW (p0.1,p0.2.1,()) (p1.1,p1.2.1,())).bind fun u1=>
 cond (!u1.1.1)
  (some ((((0,(),()),0,false,()),()),([],())))
 ((FQ (p1.1,p1.2.1,())).bind fun u2=>
 if u2.2.1.length+1≤Ds then(
 let x3:ACH:=u2.2.1++[(p2,[],false,())]
 (HW (p0.1,p0.2.1,()) (u2.1.1.1,x3,())).bind fun u4=>
 cond (!u4.1.1)
  ((FQ (p1.1,p1.2.1,())).bind fun u5=>
  some ((((u5.1.1.1,(),()),0,false,()),()),(u5.2.1,())))
 (some ((((u2.1.1.1,(),()),(x3.length:Int),true,()),()),(x3,()))))else none)
abbrev Hl:Type:=ABp×Unit
def EX(p0 p1:Int):Option Hl:=
 some ((AX ((AX (4294967296*p0))+p1),()),())
abbrev Ki:Type:=ACj×(List Int×AAQ×List Int×AAk×AAt×AAu×AA2×Unit×AAs×Unit)
abbrev SK:Type:=Int→List Int→AAQ→List Int→AAk→AAt→AAu→AA2→AAs→Int→Int→Bool→Int→Int→Bool→List Int→AAQ→List Int→AAk→AAt→AAu→AA2→AAs→Int→List UInt8→Bool→Option Ki
abbrev P4:Type:=Bool→Int→List Int→AAQ→List Int→AAk→AAt→AAu→AA2→AAs→Int→Int→Bool→Int→Int→Bool→List Int→AAQ→List Int→AAk→AAt→AAu→AA2→AAs→Int→List UInt8→Bool→AAs→Option Ki
def YJ(R9:SK)(R16:P4)(t10:Int)(b0:AAH)(b1:AAQ)(b2:AAH)(b3:AAk)(b4:AAt)(b5:AAu)(b6:AA2)(b7:AAs)(Dd Dt:Int)(CQ:Bool)(EJ GC:Int)(DD:Bool)(HU:AAH)(GM:AAQ)(D2:AAH)(Gv:AAk)(Gz:AAt)(ER:AAu)(E8:AA2)(Fh:AAs)(Cg:Int)(C5:ABs)(Cl:Bool):Option Ki:=
 cond ((decide (t10<(b7.length:Int))))
  (if(0:Int)≤t10∧t10<(b7.length:Int)then(
  cond (((b7.getD (t10.toNat) (0,[],false,())).1)==Cg)
   (some (((((),Dd,(),(),(),Dt,(),(),(),(),CQ,()),4,()),()),(b0,b1,b2,b3,b4,b5,b6,(),b7,())))
  (R9 (AX (t10+1)) b0 b1 b2 b3 b4 b5 b6 b7 Dd Dt CQ EJ GC DD HU GM D2 Gv Gz ER E8 Fh Cg C5 Cl))else none)
 (R16 false 0 b0 b1 b2 b3 b4 b5 b6 b7 Dd Dt CQ EJ GC DD HU GM D2 Gv Gz ER E8 Fh Cg C5 Cl [])
def WY(R9:SK)(R16:P4)(t12:Bool)(t13:Int)(b0:AAH)(b1:AAQ)(b2:AAH)(b3:AAk)(b4:AAt)(b5:AAu)(b6:AA2)(b7:AAs)(Dd Dt:Int)(CQ:Bool)(EJ GC:Int)(DD:Bool)(HU:AAH)(GM:AAQ)(D2:AAH)(Gv:AAk)(Gz:AAt)(ER:AAu)(E8:AA2)(Fh:AAs)(Cg:Int)(C5:ABs)(Cl:Bool)(uW:AAs):Option Ki:=
 cond ((decide (t13<(b7.length:Int))))
  (cond (!t12)
   (if(0:Int)≤t13∧t13<(b7.length:Int)then(
   cond (decide (((b7.getD (t13.toNat) (0,[],false,())).1)>Cg))
    (if uW.length+1≤Ds then(
    let x18:AAs:=uW++[(Cg,C5,Cl,())]
    if(0:Int)≤t13∧t13<(b7.length:Int)then(
    if x18.length+1≤Ds then(
    R16 true (AX (t13+1)) b0 b1 b2 b3 b4 b5 b6 b7 Dd Dt CQ EJ GC DD HU GM D2 Gv Gz ER E8 Fh Cg C5 Cl (x18++[((b7.getD (t13.toNat) (0,[],false,())).1,(b7.getD (t13.toNat) (0,[],false,())).2.1,(b7.getD (t13.toNat) (0,[],false,())).2.2.1,())]))else none)else none)else none)
   (if(0:Int)≤t13∧t13<(b7.length:Int)then(
   if uW.length+1≤Ds then(
   R16 t12 (AX (t13+1)) b0 b1 b2 b3 b4 b5 b6 b7 Dd Dt CQ EJ GC DD HU GM D2 Gv Gz ER E8 Fh Cg C5 Cl (uW++[((b7.getD (t13.toNat) (0,[],false,())).1,(b7.getD (t13.toNat) (0,[],false,())).2.1,(b7.getD (t13.toNat) (0,[],false,())).2.2.1,())]))else none)else none))else none)
  (if(0:Int)≤t13∧t13<(b7.length:Int)then(
  if uW.length+1≤Ds then(
  R16 t12 (AX (t13+1)) b0 b1 b2 b3 b4 b5 b6 b7 Dd Dt CQ EJ GC DD HU GM D2 Gv Gz ER E8 Fh Cg C5 Cl (uW++[((b7.getD (t13.toNat) (0,[],false,())).1,(b7.getD (t13.toNat) (0,[],false,())).2.1,(b7.getD (t13.toNat) (0,[],false,())).2.2.1,())]))else none)else none))
 (cond (!t12)
  (if uW.length+1≤Ds then(
  some (((((),Dd,(),(),(),Dt,(),(),(),(),CQ,()),0,()),()),(b0,b1,b2,b3,b4,b5,b6,(),(uW++[(Cg,C5,Cl,())]),())))else none)
 (some (((((),Dd,(),(),(),Dt,(),(),(),(),CQ,()),0,()),()),(b0,b1,b2,b3,b4,b5,b6,(),uW,()))))
mutual
def LL:Nat→SK
 |0=>fun _ _ _ _ _ _ _ _ _ _ _ _ _ _ _ _ _ _ _ _ _ _ _ _ _ _=>none
 |n+1=>YJ (LL n) (J9 n)
def J9:Nat→P4
 |0=>fun _ _ _ _ _ _ _ _ _ _ _ _ _ _ _ _ _ _ _ _ _ _ _ _ _ _ _ _=>none
 |n+1=>WY (LL n) (J9 n)
end
def YM(R9:SK)(R16:P4)(CP CT:Int)(BQ:Bool)(p1:ACa)(b0:AAH)(b1:AAQ)(b2:AAH)(b3:AAk)(b4:AAt)(b5:AAu)(b6:AA2)(b7:AAs):Option Ki:=
 (K7 (b0,CP,b1,b2,b3,CT,b4,b5,b6,b7,BQ,()) p1.2.1).bind fun u1=>
 cond (!u1.1.1)
  (some (((((),CP,(),(),(),CT,(),(),(),(),BQ,()),2,()),()),(b0,b1,b2,b3,b4,b5,b6,(),b7,())))
 (if(0:Int)≤p1.2.1∧p1.2.1<(b4.length:Int)then(
 (K8 (b0,CP,()) ((b4.getD (p1.2.1.toNat) (0,[],())).1,(b4.getD (p1.2.1.toNat) (0,[],())).2.1,()) p1.2.2.2.2.1).bind fun u2=>
 cond (!u2.1.1.2.2.1)
  (some (((((),CP,(),(),(),CT,(),(),(),(),BQ,()),4,()),()),(b0,b1,b2,b3,b4,b5,b6,(),b7,())))
 (cond (((b7.length:Int)==120))
  (some (((((),CP,(),(),(),CT,(),(),(),(),BQ,()),4,()),()),(b0,b1,b2,b3,b4,b5,b6,(),b7,())))
 (if(0:Int)≤p1.2.1∧p1.2.1<(b4.length:Int)then(
 (EX u2.1.1.1.1 u2.1.1.2.1).bind fun u5=>
 R9 0 b0 b1 b2 b3 (b4.set (p1.2.1.toNat) (u2.1.1.1.1,u2.2.1,())) b5 b6 b7 CP CT BQ 0 0 false [] [] [] [] [] [] [] [] u5.1.1 p1.2.2.2.2.1 false)else none)))else none)
def Xo(CP CT:Int)(BQ:Bool)(p1:ACa)(b0:AAH)(b1:AAQ)(b2:AAH)(b3:AAk)(b4:AAt)(b5:AAu)(b6:AA2)(b7:AAs):Option Ki:=YM (LL Ae) (J9 Ae) CP CT BQ p1 b0 b1 b2 b3 b4 b5 b6 b7
abbrev pE:Type:=ABp×Unit
def Hb(p0:ABS)(p1:Int):Option pE:=
 (CN p1 0 (AX ((p0.2.2.1.length:Int)-1))).bind fun u2=>
 cond (!u2.1.1)
  (some ((2,()),()))
 ((DI p0.2.2.2.1 p1).bind fun u3=>
 cond (u3.1.1)
  (some ((3,()),()))
 (some ((0,()),())))
abbrev pH:Type:=ABZ×Unit
def VZ(p0:ACP)(p1:ACg):Option pH:=
 cond (p1.2.1==0)
  ((C0 p1.1).bind fun u1=>
  some (((decide (u1.1.1>p0.2.2.1)),()),()))
 (some (((decide (p1.2.1>p0.2.2.1)),()),()))
abbrev mM:Type:=ACo×ACl
def PR(p0:ACP)(p1:ACg):Option mM:=
 (Gn (p0.1,p0.2.1,p0.2.2.1,())).bind fun u1=>
 cond (!u1.1.1)
  (some (((((),(),0,()),false,()),()),([],[],())))
 ((El (p0.1,p0.2.1,p0.2.2.1,())).bind fun u2=>
 (L4 (p1.1,p1.2.1,p1.2.2.1,p1.2.2.2.1,())).bind fun u3=>
 cond (!u3.1.1)
  (some (((((),(),u2.1.1.2.2.1,()),false,()),()),(u2.2.1,u2.2.2.1,())))
 ((VZ (p0.1,p0.2.1,p0.2.2.1,()) (p1.1,p1.2.1,p1.2.2.1,p1.2.2.2.1,())).bind fun u4=>
 cond (!u4.1.1)
  (some (((((),(),u2.1.1.2.2.1,()),false,()),()),(u2.2.1,u2.2.2.1,())))
 (cond ((p0.2.1.length:Int)==20)
  (some (((((),(),u2.1.1.2.2.1,()),false,()),()),(u2.2.1,u2.2.2.1,())))
 (if u2.2.2.1.length+1≤Ds then(
 some (((((),(),u2.1.1.2.2.1,()),true,()),()),(u2.2.1,(u2.2.2.1++[(p1.1,p1.2.1,p1.2.2.1,p1.2.2.2.1,())]),())))else none))))
abbrev bN:Type:=ACj×ACn
def Tn(CP CT:Int)(BQ:Bool)(p1:ACa)(b0:AAH)(b1:AAQ)(b2:AAH)(b3:AAk)(b4:AAt)(b5:AAu)(b6:AA2)(b7:AAs):Option bN:=
 (K7 (b0,CP,b1,b2,b3,CT,b4,b5,b6,b7,BQ,()) p1.2.1).bind fun u1=>
 cond (!u1.1.1)
  (some (((((),CP,(),(),(),CT,(),(),(),(),BQ,()),2,()),()),(b0,b1,b2,b3,b4,b5,b6,b7,())))
 (if(0:Int)≤p1.2.1∧p1.2.1<(b4.length:Int)then(
 (CN p1.2.2.1 1 (((b4.getD (p1.2.1.toNat) (0,[],())).2.1).length:Int)).bind fun u3=>
 cond (!u3.1.1)
  (some (((((),CP,(),(),(),CT,(),(),(),(),BQ,()),2,()),()),(b0,b1,b2,b3,b4,b5,b6,b7,())))
 ((Hb (b0,CP,b1,b2,b3,CT,b4,b5,b6,b7,BQ,()) p1.2.2.2.1).bind fun u4=>
 cond (u4.1.1 !=0)
  (some (((((),CP,(),(),(),CT,(),(),(),(),BQ,()),u4.1.1,()),()),(b0,b1,b2,b3,b4,b5,b6,b7,())))
 ((Cd (b3,CT,()) ((b4.getD (p1.2.1.toNat) (0,[],())).1)).bind fun u6=>
 (DI u6.2.1 p1.2.2.2.1).bind fun u7=>
 cond (!u7.1.1)
  (some (((((),CP,(),(),(),CT,(),(),(),(),BQ,()),2,()),()),(b0,b1,b2,b3,b4,b5,b6,b7,())))
 (if(0:Int)≤p1.2.2.2.1∧p1.2.2.2.1<(b1.length:Int)then(
 if(0:Int)≤AX (p1.2.2.1-1)∧AX (p1.2.2.1-1)<(((b4.getD (p1.2.1.toNat) (0,[],())).2.1).length:Int)then(
 (EX ((b4.getD (p1.2.1.toNat) (0,[],())).1) p1.2.2.1).bind fun EW=>
 (PR ((b1.getD (p1.2.2.2.1.toNat) ([],[],0,())).1,(b1.getD (p1.2.2.2.1.toNat) ([],[],0,())).2.1,(b1.getD (p1.2.2.2.1.toNat) ([],[],0,())).2.2.1,()) (EW.1.1,0,false,((((b4.getD (p1.2.1.toNat) (0,[],())).2.1).getD ((AX (p1.2.2.1-1)).toNat) ([],[],false,())).1),())).bind fun Nq=>
 cond (!Nq.1.1.2.1)
  (some (((((),CP,(),(),(),CT,(),(),(),(),BQ,()),4,()),()),(b0,b1,b2,b3,b4,b5,b6,b7,())))
 (if(0:Int)≤p1.2.2.2.1∧p1.2.2.2.1<(b1.length:Int)then(
 some (((((),CP,(),(),(),CT,(),(),(),(),BQ,()),0,()),()),(b0,(b1.set (p1.2.2.2.1.toNat) (Nq.2.1,Nq.2.2.1,Nq.1.1.1.2.2.1,())),b2,b3,b4,b5,b6,b7,())))else none))else none)else none))))else none)
abbrev rB:Type:=(ACg×Unit)×Unit
def Qa(p0 p1:ACg):Option rB:=
 cond ((decide (p1.2.1>p0.2.1)))
  (some (((p1.1,p1.2.1,p1.2.2.1,p1.2.2.2.1,()),()),()))
 (some (((p0.1,p0.2.1,p0.2.2.1,p0.2.2.2.1,()),()),()))
abbrev Tk:Type:=ACL×AD5
abbrev XI:Type:=AA_→Bool→Int→Int→Int→Bool→List UInt8→AA_→Option Tk
def Rw(R4:XI)(t0:AA_)(t6:Bool)(t7 AR AE:Int)(Ah:Bool)(Bc:ABs)(b1:AA_):Option Tk:=
 cond ((decide (t7<(t0.length:Int))))
  (cond (!t6)
   (if(0:Int)≤t7∧t7<(t0.length:Int)then(
   cond (((t0.getD (t7.toNat) (0,0,false,[],())).1)==AR)
    (if(0:Int)≤t7∧t7<(t0.length:Int)then(
    (Qa ((t0.getD (t7.toNat) (0,0,false,[],())).1,(t0.getD (t7.toNat) (0,0,false,[],())).2.1,(t0.getD (t7.toNat) (0,0,false,[],())).2.2.1,(t0.getD (t7.toNat) (0,0,false,[],())).2.2.2.1,()) (AR,AE,Ah,Bc,())).bind fun u3=>
    if b1.length+1≤Ds then(
    R4 t0 true (AX (t7+1)) AR AE Ah Bc (b1++[(u3.1.1.1,u3.1.1.2.1,u3.1.1.2.2.1,u3.1.1.2.2.2.1,())]))else none)else none)
   (cond (!t6)
    (if(0:Int)≤t7∧t7<(t0.length:Int)then(
    cond (decide (((t0.getD (t7.toNat) (0,0,false,[],())).1)>AR))
     (if b1.length+1≤Ds then(
     let x6:AA_:=b1++[(AR,AE,Ah,Bc,())]
     if(0:Int)≤t7∧t7<(t0.length:Int)then(
     if x6.length+1≤Ds then(
     R4 t0 true (AX (t7+1)) AR AE Ah Bc (x6++[((t0.getD (t7.toNat) (0,0,false,[],())).1,(t0.getD (t7.toNat) (0,0,false,[],())).2.1,(t0.getD (t7.toNat) (0,0,false,[],())).2.2.1,(t0.getD (t7.toNat) (0,0,false,[],())).2.2.2.1,())]))else none)else none)else none)
    (if(0:Int)≤t7∧t7<(t0.length:Int)then(
    if b1.length+1≤Ds then(
    R4 t0 t6 (AX (t7+1)) AR AE Ah Bc (b1++[((t0.getD (t7.toNat) (0,0,false,[],())).1,(t0.getD (t7.toNat) (0,0,false,[],())).2.1,(t0.getD (t7.toNat) (0,0,false,[],())).2.2.1,(t0.getD (t7.toNat) (0,0,false,[],())).2.2.2.1,())]))else none)else none))else none)
   (if(0:Int)≤t7∧t7<(t0.length:Int)then(
   if b1.length+1≤Ds then(
   R4 t0 t6 (AX (t7+1)) AR AE Ah Bc (b1++[((t0.getD (t7.toNat) (0,0,false,[],())).1,(t0.getD (t7.toNat) (0,0,false,[],())).2.1,(t0.getD (t7.toNat) (0,0,false,[],())).2.2.1,(t0.getD (t7.toNat) (0,0,false,[],())).2.2.2.1,())]))else none)else none)))else none)
  (cond (!t6)
   (if(0:Int)≤t7∧t7<(t0.length:Int)then(
   cond (decide (((t0.getD (t7.toNat) (0,0,false,[],())).1)>AR))
    (if b1.length+1≤Ds then(
    let x11:AA_:=b1++[(AR,AE,Ah,Bc,())]
    if(0:Int)≤t7∧t7<(t0.length:Int)then(
    if x11.length+1≤Ds then(
    R4 t0 true (AX (t7+1)) AR AE Ah Bc (x11++[((t0.getD (t7.toNat) (0,0,false,[],())).1,(t0.getD (t7.toNat) (0,0,false,[],())).2.1,(t0.getD (t7.toNat) (0,0,false,[],())).2.2.1,(t0.getD (t7.toNat) (0,0,false,[],())).2.2.2.1,())]))else none)else none)else none)
   (if(0:Int)≤t7∧t7<(t0.length:Int)then(
   if b1.length+1≤Ds then(
   R4 t0 t6 (AX (t7+1)) AR AE Ah Bc (b1++[((t0.getD (t7.toNat) (0,0,false,[],())).1,(t0.getD (t7.toNat) (0,0,false,[],())).2.1,(t0.getD (t7.toNat) (0,0,false,[],())).2.2.1,(t0.getD (t7.toNat) (0,0,false,[],())).2.2.2.1,())]))else none)else none))else none)
  (if(0:Int)≤t7∧t7<(t0.length:Int)then(
  if b1.length+1≤Ds then(
  R4 t0 t6 (AX (t7+1)) AR AE Ah Bc (b1++[((t0.getD (t7.toNat) (0,0,false,[],())).1,(t0.getD (t7.toNat) (0,0,false,[],())).2.1,(t0.getD (t7.toNat) (0,0,false,[],())).2.2.1,(t0.getD (t7.toNat) (0,0,false,[],())).2.2.2.1,())]))else none)else none)))
 (cond (!t6)
  (if b1.length+1≤Ds then(
  some (((),()),((b1++[(AR,AE,Ah,Bc,())]),())))else none)
 (some (((),()),(b1,()))))
def JI:Nat→XI
 |0=>fun _ _ _ _ _ _ _ _=>none
 |n+1=>Rw (JI n)
def Xz(R4:XI)(p0:AA_)(p1:ACg):Option Tk:=
 R4 p0 false 0 p1.1 p1.2.1 p1.2.2.1 p1.2.2.2.1 []
def Qd(p0:AA_)(p1:ACg):Option Tk:=Xz (JI Ae) p0 p1
abbrev NH:Type:=ACo×ACl
abbrev QO:Type:=Int→Int→AA_→AA_→Int→Int→AA_→AA_→Int→AA_→AA_→Option NH
def Ss(R5:QO)(t1 t7:Int)(AR AE:AA_)(Ah Ee:Int)(b2 b3:AA_)(ag:Int)(b5 b6:AA_):Option NH:=
 cond ((decide (t7<(AE.length:Int))))
  (if t7<0 then none else(
  cond (((br .i64 (t1.fdiv (2^(min t7.toNat 64))) 1)==1))
   (if(0:Int)≤t7∧t7<(AE.length:Int)then(
   (Qd b5 ((AE.getD (t7.toNat) (0,0,false,[],())).1,(AE.getD (t7.toNat) (0,0,false,[],())).2.1,(AE.getD (t7.toNat) (0,0,false,[],())).2.2.1,(AE.getD (t7.toNat) (0,0,false,[],())).2.2.2.1,())).bind fun u5=>
   R5 t1 (AX (t7+1)) AR AE Ah Ee b2 b3 ag u5.2.1 b6)else none)
  (R5 t1 (AX (t7+1)) AR AE Ah Ee b2 b3 ag b5 b6)))
 ((CN t1 0 1048575).bind fun u6=>
 cond (!u6.1.1)
  ((El (AR,AE,Ah,())).bind fun u7=>
  some (((((),(),u7.1.1.2.2.1,()),false,()),()),(u7.2.1,u7.2.2.1,())))
 (cond ((decide ((b5.length:Int)>200)))
  ((El (AR,AE,Ah,())).bind fun u9=>
  some (((((),(),u9.1.1.2.2.1,()),false,()),()),(u9.2.1,u9.2.2.1,())))
 (some (((((),(),ag,()),true,()),()),(b5,b6,())))))
def JY:Nat→QO
 |0=>fun _ _ _ _ _ _ _ _ _ _ _=>none
 |n+1=>Ss (JY n)
def Sb(R5:QO)(p0:ACP)(p1:Int):Option NH:=
 (Gn (p0.1,p0.2.1,p0.2.2.1,())).bind fun u1=>
 cond (!u1.1.1)
  (some (((((),(),0,()),false,()),()),([],[],())))
 (if 0+p0.1.length≤Ds then(
 R5 p1 0 p0.1 p0.2.1 p0.2.2.1 0 [] [] p0.2.2.1 p0.1 [])else none)
def Mq(p0:ACP)(p1:Int):Option NH:=Sb (JY Ae) p0 p1
abbrev jV:Type:=ACo×ACl
def OH(p0:ACP):Option jV:=
 (Mq (p0.1,p0.2.1,p0.2.2.1,()) 1048575).bind fun u1=>
 some (((((),(),u1.1.1.1.2.2.1,()),u1.1.1.2.1,()),()),(u1.2.1,u1.2.2.1,()))
abbrev GY:Type:=AEc×Unit
abbrev Yf:Type:=AA_→Int→Int→Int→Int→Bool→List UInt8→Option GY
def Zc(R2:Yf)(t0:AA_)(t1 t6 AR AE:Int)(Ah:Bool)(Bc:ABs):Option GY:=
 cond ((decide (t6<(t0.length:Int))))
  (if(0:Int)≤t6∧t6<(t0.length:Int)then(
  cond (((t0.getD (t6.toNat) (0,0,false,[],())).1)==t1)
   (if(0:Int)≤t6∧t6<(t0.length:Int)then(
   some (((((t0.getD (t6.toNat) (0,0,false,[],())).1,(t0.getD (t6.toNat) (0,0,false,[],())).2.1,(t0.getD (t6.toNat) (0,0,false,[],())).2.2.1,(t0.getD (t6.toNat) (0,0,false,[],())).2.2.2.1,()),true,()),()),()))else none)
  (R2 t0 t1 (AX (t6+1)) AR AE Ah Bc))else none)
 (some ((((0,0,false,[],()),false,()),()),()))
def Pc:Nat→Yf
 |0=>fun _ _ _ _ _ _ _=>none
 |n+1=>Zc (Pc n)
def ZS(R2:Yf)(p0:AA_)(p1:Int):Option GY:=
 R2 p0 p1 0 0 0 false []
def HO(p0:AA_)(p1:Int):Option GY:=ZS (Pc Ae) p0 p1
abbrev GG:Type:=AEz×ACv
def Fa(p0:ABO)(p1:ACJ)(p2 p3:Int):Option GG:=
 (HW (p0.1,p0.2.1,()) (p1.1,p1.2.1,())).bind fun u1=>
 cond (!u1.1.1)
  (some ((((0,(),()),false,()),()),([],())))
 ((FQ (p1.1,p1.2.1,())).bind fun u2=>
 (CN p2 1 (p1.2.1.length:Int)).bind fun u4=>
 cond (!u4.1.1)
  (some ((((u2.1.1.1,(),()),false,()),()),(u2.2.1,())))
 ((CN p3 0 (AX ((p0.1.length:Int)-1))).bind fun u6=>
 cond (!u6.1.1)
  (some ((((u2.1.1.1,(),()),false,()),()),(u2.2.1,())))
 (if(0:Int)≤AX (p2-1)∧AX (p2-1)<(p1.2.1.length:Int)then(
 cond (((p1.2.1.getD ((AX (p2-1)).toNat) ([],[],false,())).2.2.1))
  (some ((((u2.1.1.1,(),()),false,()),()),(u2.2.1,())))
 (if(0:Int)≤AX (p2-1)∧AX (p2-1)<(u2.2.1.length:Int)then(
 (MU ((u2.2.1.getD ((AX (p2-1)).toNat) ([],[],false,())).2.1) p3).bind fun u8=>
 if(0:Int)≤AX (p2-1)∧AX (p2-1)<(u2.2.1.length:Int)then(
 let x9:ACH:=(u2.2.1.set ((AX (p2-1)).toNat) ((u2.2.1.getD ((AX (p2-1)).toNat) ([],[],false,())).1,u8.2.1,(u2.2.1.getD ((AX (p2-1)).toNat) ([],[],false,())).2.2.1,()))
 if(0:Int)≤AX (p2-1)∧AX (p2-1)<(x9.length:Int)then(
 (FK (p0.1,p0.2.1,()) ((x9.getD ((AX (p2-1)).toNat) ([],[],false,())).2.1)).bind fun EW=>
 if(0:Int)≤AX (p2-1)∧AX (p2-1)<(x9.length:Int)then(
 some ((((u2.1.1.1,(),()),true,()),()),((x9.set ((AX (p2-1)).toNat) ((x9.getD ((AX (p2-1)).toNat) ([],[],false,())).1,(x9.getD ((AX (p2-1)).toNat) ([],[],false,())).2.1,EW.1.1,())),())))else none)else none)else none)else none))else none)))
abbrev ki:Type:=ADw×Unit
def RW(p0 p1:Int):Option ki:=
 (CN p0 1 30).bind fun u1=>
 cond (!u1.1.1)
  (some (((0,false,()),()),()))
 ((CN p1 1 60).bind fun u2=>
 cond (!u2.1.1)
  (some (((0,false,()),()),()))
 (some (((AX ((AX (4294967296*p0))+p1),true,()),()),())))
abbrev F4:Type:=AEc×Unit
def Ek(p0:ABi)(p1:Int):Option F4:=
 (RW p0.2.1 p1).bind fun u1=>
 cond (!p0.2.2.2.2.1)
  (some ((((0,0,false,[],()),false,()),()),()))
 (cond (!u1.1.1.2.1)
  (some ((((0,0,false,[],()),false,()),()),()))
 (cond (decide (p1>(p0.2.2.2.2.2.1.length:Int)))
  (some ((((0,0,false,[],()),false,()),()),()))
 ((HO p0.2.2.2.1 u1.1.1.1).bind fun u3=>
 cond (u3.1.1.2.1)
  (some ((((u1.1.1.1,p0.1,u3.1.1.1.2.2.1,u3.1.1.1.2.2.2.1,()),true,()),()),()))
 (some ((((u1.1.1.1,p0.1,true,[],()),true,()),()),())))))
abbrev Hg:Type:=ADu×ACm
def Hc(p0:ABO)(p1:ABi)(p2 p3:Int):Option Hg:=
 (Ip (p0.1,p0.2.1,()) (p1.1,p1.2.1,p1.2.2.1,p1.2.2.2.1,p1.2.2.2.2.1,p1.2.2.2.2.2.1,())).bind fun u1=>
 cond (!u1.1.1)
  (some ((((0,0,(),(),false,(),()),false,()),()),([],[],[],())))
 ((EL (p1.1,p1.2.1,p1.2.2.1,p1.2.2.2.1,p1.2.2.2.2.1,p1.2.2.2.2.2.1,())).bind fun u2=>
 (CN p2 1 (p1.2.2.2.2.2.1.length:Int)).bind fun u4=>
 cond (!u4.1.1)
  (some ((((u2.1.1.1,u2.1.1.2.1,(),(),u2.1.1.2.2.2.2.1,(),()),false,()),()),(u2.2.1,u2.2.2.1,u2.2.2.2.1,())))
 ((CN p3 0 (AX ((p0.1.length:Int)-1))).bind fun u6=>
 cond (!u6.1.1)
  (some ((((u2.1.1.1,u2.1.1.2.1,(),(),u2.1.1.2.2.2.2.1,(),()),false,()),()),(u2.2.1,u2.2.2.1,u2.2.2.2.1,())))
 (if(0:Int)≤AX (p2-1)∧AX (p2-1)<(u2.2.2.2.1.length:Int)then(
 (MU (u2.2.2.2.1.getD ((AX (p2-1)).toNat) []) p3).bind fun u7=>
 if(0:Int)≤AX (p2-1)∧AX (p2-1)<(u2.2.2.2.1.length:Int)then(
 some ((((u2.1.1.1,u2.1.1.2.1,(),(),u2.1.1.2.2.2.2.1,(),()),true,()),()),(u2.2.1,u2.2.2.1,(u2.2.2.2.1.set ((AX (p2-1)).toNat) u7.2.1),())))else none)else none)))
abbrev B5:Type:=AFi×ACn
abbrev IB:Type:=Int→Int→List Int→AAQ→List Int→AAk→AAt→AAu→AA2→AAs→Int→Int→Bool→Int→Int→Bool→List Int→AAQ→List Int→AAk→AAt→AAu→AA2→AAs→AA_→AA_→Int→Option B5
abbrev IC:Type:=Int→Int→Int→Int→Int→Bool→List Int→AAQ→List Int→AAk→AAt→AAu→AA2→AAs→Int→Int→Bool→Int→Int→Bool→List Int→AAQ→List Int→AAk→AAt→AAu→AA2→AAs→AA_→AA_→Int→Int→ACH→Option B5
abbrev HM:Type:=Int→Int→Int→Int→Int→Bool→List Int→AAQ→List Int→AAk→AAt→AAu→AA2→AAs→Int→Int→Bool→Int→Int→Bool→List Int→AAQ→List Int→AAk→AAt→AAu→AA2→AAs→AA_→AA_→Int→Int→ACH→Option B5
abbrev HD:Type:=Int→Int→List Int→AAQ→List Int→AAk→AAt→AAu→AA2→AAs→Int→Int→Bool→Int→Int→Bool→List Int→AAQ→List Int→AAk→AAt→AAu→AA2→AAs→AA_→AA_→Int→Option B5
abbrev HI:Type:=Int→Int→Int→List Int→AAQ→List Int→AAk→AAt→AAu→AA2→AAs→Int→Int→Bool→Int→Int→Bool→List Int→AAQ→List Int→AAk→AAt→AAu→AA2→AAs→AA_→AA_→Int→Int→Int→List Int→AA_→Bool→List AAH→Option B5
def MR(R3:IB)(R8:IC)(oR:HM)(R21:HD)(R25:HI)(t1 t6:Int)(b0:AAH)(b1:AAQ)(b2:AAH)(b3:AAk)(b4:AAt)(b5:AAu)(b6:AA2)(b7:AAs)(Dd Dt:Int)(CQ:Bool)(EJ GC:Int)(DD:Bool)(HU:AAH)(GM:AAQ)(D2:AAH)(Gv:AAk)(Gz:AAt)(ER:AAu)(E8:AA2)(Fh:AAs)(Cg C5:AA_)(Cl:Int):Option B5:=
 cond ((decide (t6<(b4.length:Int))))
  (if(0:Int)≤t6∧t6<(b4.length:Int)then(
  (Cd (b3,Dt,()) ((b4.getD (t6.toNat) (0,[],())).1)).bind fun u3=>
  (DI u3.2.1 t1).bind fun u4=>
  cond (!u4.1.1)
   (R3 t1 (AX (t6+1)) b0 b1 b2 b3 b4 b5 b6 b7 Dd Dt CQ EJ GC DD HU GM D2 Gv Gz ER E8 Fh Cg C5 Cl)
  (let x5:Int:=(b4.getD (t6.toNat) (0,[],())).1
  cond (decide (Cl≥x5))
   (R3 t1 (AX (t6+1)) b0 b1 b2 b3 b4 b5 b6 b7 Dd Dt CQ EJ GC DD HU GM D2 Gv Gz ER E8 Fh Cg C5 Cl)
  (R8 t1 t6 1 Cl x5 (decide (Cl≥x5)) b0 b1 b2 b3 b4 b5 b6 b7 Dd Dt CQ EJ GC DD HU GM D2 Gv Gz ER E8 Fh Cg C5 Cl ((b4.getD (t6.toNat) (0,[],())).1) ((b4.getD (t6.toNat) (0,[],())).2.1))))else none)
 (R21 t1 0 b0 b1 b2 b3 b4 b5 b6 b7 Dd Dt CQ EJ GC DD HU GM D2 Gv Gz ER E8 Fh Cg C5 Cl)
def MF(R3:IB)(R8:IC)(oR:HM)(R21:HD)(R25:HI)(t1 t6 t8 t47 t49:Int)(t50:Bool)(b0:AAH)(b1:AAQ)(b2:AAH)(b3:AAk)(b4:AAt)(b5:AAu)(b6:AA2)(b7:AAs)(Dd Dt:Int)(CQ:Bool)(EJ GC:Int)(DD:Bool)(HU:AAH)(GM:AAQ)(D2:AAH)(Gv:AAk)(Gz:AAt)(ER:AAu)(E8:AA2)(Fh:AAs)(Cg C5:AA_)(Cl DV:Int)(CV:ACH):Option B5:=
 cond ((decide (t8≤(CV.length:Int))))
  ((EX DV t8).bind fun u7=>
  (HO Cg u7.1.1).bind fun u8=>
  cond (!u8.1.1.2.1)
   (R8 t1 t6 (AX (t8+1)) t47 t49 t50 b0 b1 b2 b3 b4 b5 b6 b7 Dd Dt CQ EJ GC DD HU GM D2 Gv Gz ER E8 Fh Cg C5 Cl DV CV)
  (cond (u8.1.1.1.2.1 !=0)
   (R8 t1 t6 (AX (t8+1)) t47 t49 t50 b0 b1 b2 b3 b4 b5 b6 b7 Dd Dt CQ EJ GC DD HU GM D2 Gv Gz ER E8 Fh Cg C5 Cl DV CV)
  (if(0:Int)≤AX (t8-1)∧AX (t8-1)<(CV.length:Int)then(
  cond (((CV.getD ((AX (t8-1)).toNat) ([],[],false,())).2.2.1))
   (R8 t1 t6 (AX (t8+1)) t47 t49 t50 b0 b1 b2 b3 b4 b5 b6 b7 Dd Dt CQ EJ GC DD HU GM D2 Gv Gz ER E8 Fh Cg C5 Cl DV CV)
  ((Fa (b0,Dd,()) (DV,CV,()) t8 t1).bind fun EW=>
  R8 t1 t6 (AX (t8+1)) t47 t49 t50 b0 b1 b2 b3 b4 b5 b6 b7 Dd Dt CQ EJ GC DD HU GM D2 Gv Gz ER E8 Fh Cg C5 Cl EW.1.1.1.1 EW.2.1))else none)))
 (if(0:Int)≤t6∧t6<(b4.length:Int)then(
 oR t1 t6 0 t47 t49 t50 b0 b1 b2 b3 (b4.set (t6.toNat) (DV,CV,())) b5 b6 b7 Dd Dt CQ EJ GC DD HU GM D2 Gv Gz ER E8 Fh Cg C5 Cl DV CV)else none)
def Kq(R3:IB)(R8:IC)(oR:HM)(R21:HD)(R25:HI)(t1 t6 t11 t47 t49:Int)(t50:Bool)(b0:AAH)(b1:AAQ)(b2:AAH)(b3:AAk)(b4:AAt)(b5:AAu)(b6:AA2)(b7:AAs)(Dd Dt:Int)(CQ:Bool)(EJ GC:Int)(DD:Bool)(HU:AAH)(GM:AAQ)(D2:AAH)(Gv:AAk)(Gz:AAt)(ER:AAu)(E8:AA2)(Fh:AAs)(Cg C5:AA_)(Cl DV:Int)(CV:ACH):Option B5:=
 cond ((decide (t11<(b7.length:Int))))
  (if(0:Int)≤t11∧t11<(b7.length:Int)then(
  let x65:Int:=(b7.getD (t11.toNat) (0,[],false,())).1
  (C0 x65).bind fun u66=>
  cond (u66.1.1==DV)
   ((HG x65).bind fun u67=>
   cond ((decide (u67.1.1≤(CV.length:Int))))
    ((HG x65).bind fun u69=>
    if(0:Int)≤AX (u69.1.1-1)∧AX (u69.1.1-1)<(CV.length:Int)then(
    cond (((CV.getD ((AX (u69.1.1-1)).toNat) ([],[],false,())).2.2.1))
     (if(0:Int)≤t11∧t11<(b7.length:Int)then(
     oR t1 t6 (AX (t11+1)) t47 t49 t50 b0 b1 b2 b3 b4 b5 b6 (b7.set (t11.toNat) ((b7.getD (t11.toNat) (0,[],false,())).1,(b7.getD (t11.toNat) (0,[],false,())).2.1,true,())) Dd Dt CQ EJ GC DD HU GM D2 Gv Gz ER E8 Fh Cg C5 Cl DV CV)else none)
    (oR t1 t6 (AX (t11+1)) t47 t49 t50 b0 b1 b2 b3 b4 b5 b6 b7 Dd Dt CQ EJ GC DD HU GM D2 Gv Gz ER E8 Fh Cg C5 Cl DV CV))else none)
   (oR t1 t6 (AX (t11+1)) t47 t49 t50 b0 b1 b2 b3 b4 b5 b6 b7 Dd Dt CQ EJ GC DD HU GM D2 Gv Gz ER E8 Fh Cg C5 Cl DV CV))
  (oR t1 t6 (AX (t11+1)) t47 t49 t50 b0 b1 b2 b3 b4 b5 b6 b7 Dd Dt CQ EJ GC DD HU GM D2 Gv Gz ER E8 Fh Cg C5 Cl DV CV))else none)
 (R3 t1 (AX (t6+1)) b0 b1 b2 b3 b4 b5 b6 b7 Dd Dt CQ EJ GC DD HU GM D2 Gv Gz ER E8 Fh Cg C5 Cl)
def Kp(R3:IB)(R8:IC)(oR:HM)(R21:HD)(R25:HI)(t1 t13:Int)(b0:AAH)(b1:AAQ)(b2:AAH)(b3:AAk)(b4:AAt)(b5:AAu)(b6:AA2)(b7:AAs)(Dd Dt:Int)(CQ:Bool)(EJ GC:Int)(DD:Bool)(HU:AAH)(GM:AAQ)(D2:AAH)(Gv:AAk)(Gz:AAt)(ER:AAu)(E8:AA2)(Fh:AAs)(Cg C5:AA_)(Cl:Int):Option B5:=
 cond ((decide (t13<(b5.length:Int))))
  (if(0:Int)≤t13∧t13<(b5.length:Int)then(
  R25 t1 t13 1 b0 b1 b2 b3 b4 b5 b6 b7 Dd Dt CQ EJ GC DD HU GM D2 Gv Gz ER E8 Fh Cg C5 Cl ((b5.getD (t13.toNat) (0,0,[],[],false,[],())).1) ((b5.getD (t13.toNat) (0,0,[],[],false,[],())).2.1) ((b5.getD (t13.toNat) (0,0,[],[],false,[],())).2.2.1) ((b5.getD (t13.toNat) (0,0,[],[],false,[],())).2.2.2.1) ((b5.getD (t13.toNat) (0,0,[],[],false,[],())).2.2.2.2.1) ((b5.getD (t13.toNat) (0,0,[],[],false,[],())).2.2.2.2.2.1))else none)
 (some ((((),Dd,(),(),(),Dt,(),(),(),(),CQ,()),()),(b0,b1,b2,b3,b4,b5,b6,b7,())))
def IF(R3:IB)(R8:IC)(oR:HM)(R21:HD)(R25:HI)(t1 t13 t15:Int)(b0:AAH)(b1:AAQ)(b2:AAH)(b3:AAk)(b4:AAt)(b5:AAu)(b6:AA2)(b7:AAs)(Dd Dt:Int)(CQ:Bool)(EJ GC:Int)(DD:Bool)(HU:AAH)(GM:AAQ)(D2:AAH)(Gv:AAk)(Gz:AAt)(ER:AAu)(E8:AA2)(Fh:AAs)(Cg C5:AA_)(Cl DV CV:Int)(Ud:AAH)(Tx:AA_)(UF:Bool)(UQ:List AAH):Option B5:=
 if(0:Int)≤t13∧t13<(b5.length:Int)then(
 cond (decide (t15≤(((b5.getD (t13.toNat) (0,0,[],[],false,[],())).2.2.2.2.2.1).length:Int)))
  ((Cd (b3,Dt,()) CV).bind fun u74=>
  (DI u74.2.1 t1).bind fun u75=>
  cond (u75.1.1)
   ((Ek (DV,CV,Ud,Tx,UF,UQ,()) t15).bind fun u76=>
   (HO Cg u76.1.1.1.1).bind fun u77=>
   cond (u77.1.1.2.1)
    (cond (((u77.1.1.1.1==u76.1.1.1.1)&&((u77.1.1.1.2.1==u76.1.1.1.2.1)&&((u77.1.1.1.2.2.1==u76.1.1.1.2.2.1)&&((u77.1.1.1.2.2.2.1==u76.1.1.1.2.2.2.1)&&true)))))
     ((Hc (b0,Dd,()) (DV,CV,Ud,Tx,UF,UQ,()) t15 t1).bind fun u79=>
     R25 t1 t13 (AX (t15+1)) b0 b1 b2 b3 b4 b5 b6 b7 Dd Dt CQ EJ GC DD HU GM D2 Gv Gz ER E8 Fh Cg C5 Cl u79.1.1.1.1 u79.1.1.1.2.1 u79.2.1 u79.2.2.1 u79.1.1.1.2.2.2.2.1 u79.2.2.2.1)
    (R25 t1 t13 (AX (t15+1)) b0 b1 b2 b3 b4 b5 b6 b7 Dd Dt CQ EJ GC DD HU GM D2 Gv Gz ER E8 Fh Cg C5 Cl DV CV Ud Tx UF UQ))
   (R25 t1 t13 (AX (t15+1)) b0 b1 b2 b3 b4 b5 b6 b7 Dd Dt CQ EJ GC DD HU GM D2 Gv Gz ER E8 Fh Cg C5 Cl DV CV Ud Tx UF UQ))
  (if(0:Int)≤t13∧t13<(b5.length:Int)then(
  R21 t1 (AX (t13+1)) b0 b1 b2 b3 b4 (b5.set (t13.toNat) (DV,CV,Ud,Tx,UF,UQ,())) b6 b7 Dd Dt CQ EJ GC DD HU GM D2 Gv Gz ER E8 Fh Cg C5 Cl)else none))
 (if(0:Int)≤t13∧t13<(b5.length:Int)then(
 R21 t1 (AX (t13+1)) b0 b1 b2 b3 b4 (b5.set (t13.toNat) (DV,CV,Ud,Tx,UF,UQ,())) b6 b7 Dd Dt CQ EJ GC DD HU GM D2 Gv Gz ER E8 Fh Cg C5 Cl)else none))else none
mutual
def Be:Nat→IB
 |0=>fun _ _ _ _ _ _ _ _ _ _ _ _ _ _ _ _ _ _ _ _ _ _ _ _ _ _ _=>none
 |n+1=>MR (Be n) (BA n) (BC n) (Bh n) (Ba n)
def BA:Nat→IC
 |0=>fun _ _ _ _ _ _ _ _ _ _ _ _ _ _ _ _ _ _ _ _ _ _ _ _ _ _ _ _ _ _ _ _ _=>none
 |n+1=>MF (Be n) (BA n) (BC n) (Bh n) (Ba n)
def BC:Nat→HM
 |0=>fun _ _ _ _ _ _ _ _ _ _ _ _ _ _ _ _ _ _ _ _ _ _ _ _ _ _ _ _ _ _ _ _ _=>none
 |n+1=>Kq (Be n) (BA n) (BC n) (Bh n) (Ba n)
def Bh:Nat→HD
 |0=>fun _ _ _ _ _ _ _ _ _ _ _ _ _ _ _ _ _ _ _ _ _ _ _ _ _ _ _=>none
 |n+1=>Kp (Be n) (BA n) (BC n) (Bh n) (Ba n)
def Ba:Nat→HI
 |0=>fun _ _ _ _ _ _ _ _ _ _ _ _ _ _ _ _ _ _ _ _ _ _ _ _ _ _ _ _ _ _ _ _ _ _=>none
 |n+1=>IF (Be n) (BA n) (BC n) (Bh n) (Ba n)
end
def QN(R3:IB)(R8:IC)(oR:HM)(R21:HD)(R25:HI)(CP CT:Int)(BQ:Bool)(p1:Int)(b0:AAH)(b1:AAQ)(b2:AAH)(b3:AAk)(b4:AAt)(b5:AAu)(b6:AA2)(b7:AAs):Option B5:=
 if(0:Int)≤p1∧p1<(b1.length:Int)then(
 R3 p1 0 b0 b1 b2 b3 b4 b5 b6 b7 CP CT BQ 0 0 false [] [] [] [] [] [] [] [] ((b1.getD (p1.toNat) ([],[],0,())).1) ((b1.getD (p1.toNat) ([],[],0,())).2.1) ((b1.getD (p1.toNat) ([],[],0,())).2.2.1))else none
def V2(CP CT:Int)(BQ:Bool)(p1:Int)(b0:AAH)(b1:AAQ)(b2:AAH)(b3:AAk)(b4:AAt)(b5:AAu)(b6:AA2)(b7:AAs):Option B5:=QN (Be Ae) (BA Ae) (BC Ae) (Bh Ae) (Ba Ae) CP CT BQ p1 b0 b1 b2 b3 b4 b5 b6 b7
abbrev oc:Type:=ACj×ACn
def Ve(CP CT:Int)(BQ:Bool)(p1:ACa)(b0:AAH)(b1:AAQ)(b2:AAH)(b3:AAk)(b4:AAt)(b5:AAu)(b6:AA2)(b7:AAs):Option oc:=
 (Hb (b0,CP,b1,b2,b3,CT,b4,b5,b6,b7,BQ,()) p1.2.1).bind fun u1=>
 cond (u1.1.1 !=0)
  (some (((((),CP,(),(),(),CT,(),(),(),(),BQ,()),u1.1.1,()),()),(b0,b1,b2,b3,b4,b5,b6,b7,())))
 (if(0:Int)≤p1.2.1∧p1.2.1<(b1.length:Int)then(
 (OH ((b1.getD (p1.2.1.toNat) ([],[],0,())).1,(b1.getD (p1.2.1.toNat) ([],[],0,())).2.1,(b1.getD (p1.2.1.toNat) ([],[],0,())).2.2.1,())).bind fun u2=>
 cond (!u2.1.1.2.1)
  (some (((((),CP,(),(),(),CT,(),(),(),(),BQ,()),4,()),()),(b0,b1,b2,b3,b4,b5,b6,b7,())))
 (if(0:Int)≤p1.2.1∧p1.2.1<(b1.length:Int)then(
 (V2 CP CT BQ p1.2.1 b0 (b1.set (p1.2.1.toNat) (u2.2.1,u2.2.2.1,u2.1.1.1.2.2.1,())) b2 b3 b4 b5 b6 b7).bind fun u4=>
 some (((((),u4.1.1.2.1,(),(),(),u4.1.1.2.2.2.2.2.1,(),(),(),(),u4.1.1.2.2.2.2.2.2.2.2.2.2.1,()),0,()),()),(u4.2.1,u4.2.2.1,u4.2.2.2.1,u4.2.2.2.2.1,u4.2.2.2.2.2.1,u4.2.2.2.2.2.2.1,u4.2.2.2.2.2.2.2.1,u4.2.2.2.2.2.2.2.2.1,())))else none))else none)
abbrev Tt:Type:=ACL×ACb
abbrev Wf:Type:=List Int→List Int→Int→List Int→Option Tt
def YU(R3:Wf)(t0 t1:AAH)(t6:Int)(b0:AAH):Option Tt:=
 cond ((decide (t6<(t0.length:Int))))
  (if(0:Int)≤t6∧t6<(t0.length:Int)then(
  (DI t1 (t0.getD (t6.toNat) 0)).bind fun u3=>
  cond (!u3.1.1)
   (if(0:Int)≤t6∧t6<(t0.length:Int)then(
   if b0.length+1≤Ds then(
   R3 t0 t1 (AX (t6+1)) (b0++[(t0.getD (t6.toNat) 0)]))else none)else none)
  (R3 t0 t1 (AX (t6+1)) b0))else none)
 (some (((),()),(b0,())))
def N3:Nat→Wf
 |0=>fun _ _ _ _=>none
 |n+1=>YU (N3 n)
def Xu(R3:Wf)(p0 p1:AAH):Option Tt:=
 R3 p0 p1 0 []
def Iq(p0 p1:AAH):Option Tt:=Xu (N3 Ae) p0 p1
abbrev Kz:Type:=AEz×ACv
abbrev N9:Type:=Int→Int→Int→ACH→Int→ACH→Option Kz
def Qp(R5:N9)(t2 t9 AR:Int)(b1:ACH)(Zj:Int)(b3:ACH):Option Kz:=
 cond ((decide (t9<(b3.length:Int))))
  (if(0:Int)≤t9∧t9<(b3.length:Int)then(
  cond (!((b3.getD (t9.toNat) ([],[],false,())).2.2.1))
   (if(0:Int)≤t9∧t9<(b3.length:Int)then(
   (Iq ((b3.getD (t9.toNat) ([],[],false,())).2.1) [t2]).bind fun u5=>
   if(0:Int)≤t9∧t9<(b3.length:Int)then(
   R5 t2 (AX (t9+1)) AR b1 Zj (b3.set (t9.toNat) ((b3.getD (t9.toNat) ([],[],false,())).1,u5.2.1,(b3.getD (t9.toNat) ([],[],false,())).2.2.1,())))else none)else none)
  (R5 t2 (AX (t9+1)) AR b1 Zj b3))else none)
 (some ((((Zj,(),()),true,()),()),(b3,())))
def Hi:Nat→N9
 |0=>fun _ _ _ _ _ _=>none
 |n+1=>Qp (Hi n)
def Qo(R5:N9)(p0:ABO)(p1:ACJ)(p2:Int):Option Kz:=
 (HW (p0.1,p0.2.1,()) (p1.1,p1.2.1,())).bind fun u1=>
 cond (!u1.1.1)
  (some ((((0,(),()),false,()),()),([],())))
 ((FQ (p1.1,p1.2.1,())).bind fun u2=>
 R5 p2 0 0 [] u2.1.1.1 u2.2.1)
def NQ(p0:ABO)(p1:ACJ)(p2:Int):Option Kz:=Qo (Hi Ae) p0 p1 p2
abbrev NX:Type:=ADu×ACm
abbrev P_:Type:=Int→Int→Int→Int→Bool→List Int→AA_→List AAH→Int→Int→Bool→List Int→AA_→List AAH→Option NX
def Sr(R5:P_)(t2 t9 AR AE:Int)(Br:Bool)(b1:AAH)(b2:AA_)(b3:List AAH)(wt vK:Int)(uo:Bool)(b5:AAH)(b6:AA_)(b7:List AAH):Option NX:=
 cond ((decide (t9<(b7.length:Int))))
  (if(0:Int)≤t9∧t9<(b7.length:Int)then(
  (Iq (b7.getD (t9.toNat) []) [t2]).bind fun u4=>
  if(0:Int)≤t9∧t9<(b7.length:Int)then(
  R5 t2 (AX (t9+1)) AR AE Br b1 b2 b3 wt vK uo b5 b6 (b7.set (t9.toNat) u4.2.1))else none)else none)
 (some ((((wt,vK,(),(),uo,(),()),true,()),()),(b5,b6,b7,())))
def JH:Nat→P_
 |0=>fun _ _ _ _ _ _ _ _ _ _ _ _ _ _=>none
 |n+1=>Sr (JH n)
def SW(R5:P_)(p0:ABO)(p1:ABi)(p2:Int):Option NX:=
 (Ip (p0.1,p0.2.1,()) (p1.1,p1.2.1,p1.2.2.1,p1.2.2.2.1,p1.2.2.2.2.1,p1.2.2.2.2.2.1,())).bind fun u1=>
 cond (!u1.1.1)
  (some ((((0,0,(),(),false,(),()),false,()),()),([],[],[],())))
 ((EL (p1.1,p1.2.1,p1.2.2.1,p1.2.2.2.1,p1.2.2.2.2.1,p1.2.2.2.2.2.1,())).bind fun u2=>
 R5 p2 0 0 0 false [] [] [] u2.1.1.1 u2.1.1.2.1 u2.1.1.2.2.2.2.1 u2.2.1 u2.2.2.1 u2.2.2.2.1)
def P9(p0:ABO)(p1:ABi)(p2:Int):Option NX:=SW (JH Ae) p0 p1 p2
abbrev JL:Type:=ACj×AFt
abbrev Pm:Type:=Int→List Int→AAQ→List Int→AAk→AAt→AAu→AA2→AAs→Int→Int→Bool→List Int→Int→Int→Int→Int→List UInt8→Int→Int→Bool→List Int→AAQ→List Int→AAk→AAt→AAu→AA2→AAs→Option JL
abbrev On:Type:=Int→List Int→AAQ→List Int→AAk→AAt→AAu→AA2→AAs→Int→Int→Bool→List Int→Int→Int→Int→Int→List UInt8→Int→Int→Bool→List Int→AAQ→List Int→AAk→AAt→AAu→AA2→AAs→Option JL
def Wq(R7:Pm)(xG:On)(t7:Int)(b0:AAH)(b1:AAQ)(b2:AAH)(b3:AAk)(b4:AAt)(b5:AAu)(b6:AA2)(b7:AAs)(Dd Dt:Int)(CQ:Bool)(b9:AAH)(zR Dr z_ AAV:Int)(zo:ABs)(AAf zX:Int)(s7:Bool)(D2:AAH)(Gv:AAQ)(Gz:AAH)(ER:AAk)(E8:AAt)(Fh:AAu)(Ui:AA2)(uW:AAs):Option JL:=
 cond ((decide (t7<(b4.length:Int))))
  (if(0:Int)≤t7∧t7<(b4.length:Int)then(
  (NQ (b0,Dd,()) ((b4.getD (t7.toNat) (0,[],())).1,(b4.getD (t7.toNat) (0,[],())).2.1,()) Dr).bind fun u5=>
  if(0:Int)≤t7∧t7<(b4.length:Int)then(
  R7 (AX (t7+1)) b0 b1 b2 b3 (b4.set (t7.toNat) (u5.1.1.1.1,u5.2.1,())) b5 b6 b7 Dd Dt CQ b9 zR Dr z_ AAV zo AAf zX s7 D2 Gv Gz ER E8 Fh Ui uW)else none)else none)
 (xG 0 b0 b1 b2 b3 b4 b5 b6 b7 Dd Dt CQ b9 zR Dr z_ AAV zo AAf zX s7 D2 Gv Gz ER E8 Fh Ui uW)
def U9(R7:Pm)(xG:On)(t8:Int)(b0:AAH)(b1:AAQ)(b2:AAH)(b3:AAk)(b4:AAt)(b5:AAu)(b6:AA2)(b7:AAs)(Dd Dt:Int)(CQ:Bool)(b9:AAH)(zR Dr z_ AAV:Int)(zo:ABs)(AAf zX:Int)(s7:Bool)(D2:AAH)(Gv:AAQ)(Gz:AAH)(ER:AAk)(E8:AAt)(Fh:AAu)(Ui:AA2)(uW:AAs):Option JL:=
 cond ((decide (t8<(b5.length:Int))))
  (if(0:Int)≤t8∧t8<(b5.length:Int)then(
  (P9 (b0,Dd,()) ((b5.getD (t8.toNat) (0,0,[],[],false,[],())).1,(b5.getD (t8.toNat) (0,0,[],[],false,[],())).2.1,(b5.getD (t8.toNat) (0,0,[],[],false,[],())).2.2.1,(b5.getD (t8.toNat) (0,0,[],[],false,[],())).2.2.2.1,(b5.getD (t8.toNat) (0,0,[],[],false,[],())).2.2.2.2.1,(b5.getD (t8.toNat) (0,0,[],[],false,[],())).2.2.2.2.2.1,()) Dr).bind fun u8=>
  if(0:Int)≤t8∧t8<(b5.length:Int)then(
  xG (AX (t8+1)) b0 b1 b2 b3 b4 (b5.set (t8.toNat) (u8.1.1.1.1,u8.1.1.1.2.1,u8.2.1,u8.2.2.1,u8.1.1.1.2.2.2.2.1,u8.2.2.2.1,())) b6 b7 Dd Dt CQ b9 zR Dr z_ AAV zo AAf zX s7 D2 Gv Gz ER E8 Fh Ui uW)else none)else none)
 (cond (CQ)
  (some (((((),Dd,(),(),(),Dt,(),(),(),(),true,()),0,()),()),(b0,b1,(),b3,b4,b5,b6,b7,b9,())))
 ((FK (b0,Dd,()) b9).bind fun EW=>
 some (((((),Dd,(),(),(),Dt,(),(),(),(),EW.1.1,()),0,()),()),(b0,b1,(),b3,b4,b5,b6,b7,b9,()))))
mutual
def J6:Nat→Pm
 |0=>fun _ _ _ _ _ _ _ _ _ _ _ _ _ _ _ _ _ _ _ _ _ _ _ _ _ _ _ _ _=>none
 |n+1=>Wq (J6 n) (I9 n)
def I9:Nat→On
 |0=>fun _ _ _ _ _ _ _ _ _ _ _ _ _ _ _ _ _ _ _ _ _ _ _ _ _ _ _ _ _=>none
 |n+1=>U9 (J6 n) (I9 n)
end
def W4(R7:Pm)(xG:On)(CP CT:Int)(BQ:Bool)(p1:ACa)(b0:AAH)(b1:AAQ)(b2:AAH)(b3:AAk)(b4:AAt)(b5:AAu)(b6:AA2)(b7:AAs):Option JL:=
 (Hb (b0,CP,b1,b2,b3,CT,b4,b5,b6,b7,BQ,()) p1.2.1).bind fun u1=>
 cond (u1.1.1 !=0)
  (some (((((),CP,(),(),(),CT,(),(),(),(),BQ,()),u1.1.1,()),()),(b0,b1,(),b3,b4,b5,b6,b7,b2,())))
 (if(0:Int)≤p1.2.1∧p1.2.1<(b1.length:Int)then(
 (MU b2 p1.2.1).bind fun u3=>
 R7 0 b0 (b1.set (p1.2.1.toNat) ([],[],0,())) b2 b3 b4 b5 b6 b7 CP CT BQ u3.2.1 p1.1 p1.2.1 p1.2.2.1 p1.2.2.2.1 p1.2.2.2.2.1 0 0 false [] [] [] [] [] [] [] [])else none)
def Vg(CP CT:Int)(BQ:Bool)(p1:ACa)(b0:AAH)(b1:AAQ)(b2:AAH)(b3:AAk)(b4:AAt)(b5:AAu)(b6:AA2)(b7:AAs):Option JL:=W4 (J6 Ae) (I9 Ae) CP CT BQ p1 b0 b1 b2 b3 b4 b5 b6 b7
abbrev qe:Type:=ABZ×Unit
def YF(p0:ABO)(p1:AAH):Option qe:=
 (Gg (p0.1,p0.2.1,()) p1).bind fun u1=>
 cond (u1.1.1)
  ((FK (p0.1,p0.2.1,()) p1).bind fun u2=>
  some ((!u2.1.1,()),()))
 (some ((false,()),()))
abbrev Jx:Type:=ACL×AD5
abbrev Ov:Type:=AAQ→Int→AA_→Option Jx
abbrev OY:Type:=AAQ→Int→Int→AA_→Option Jx
def VT(R3:Ov)(R6:OY)(t0:AAQ)(t4:Int)(b0:AA_):Option Jx:=
 cond ((decide (t4<(t0.length:Int))))
  (R6 t0 t4 0 b0)
 (some (((),()),(b0,())))
def VW(R3:Ov)(R6:OY)(t0:AAQ)(t4 t5:Int)(b0:AA_):Option Jx:=
 if(0:Int)≤t4∧t4<(t0.length:Int)then(
 cond (decide (t5<(((t0.getD (t4.toNat) ([],[],0,())).1).length:Int)))
  (if(0:Int)≤t4∧t4<(t0.length:Int)then(
  if(0:Int)≤t5∧t5<(((t0.getD (t4.toNat) ([],[],0,())).1).length:Int)then(
  (Qd b0 ((((t0.getD (t4.toNat) ([],[],0,())).1).getD (t5.toNat) (0,0,false,[],())).1,(((t0.getD (t4.toNat) ([],[],0,())).1).getD (t5.toNat) (0,0,false,[],())).2.1,(((t0.getD (t4.toNat) ([],[],0,())).1).getD (t5.toNat) (0,0,false,[],())).2.2.1,(((t0.getD (t4.toNat) ([],[],0,())).1).getD (t5.toNat) (0,0,false,[],())).2.2.2.1,())).bind fun u3=>
  R6 t0 t4 (AX (t5+1)) u3.2.1)else none)else none)
 (R3 t0 (AX (t4+1)) b0))else none
mutual
def Iy:Nat→Ov
 |0=>fun _ _ _=>none
 |n+1=>VT (Iy n) (I8 n)
def I8:Nat→OY
 |0=>fun _ _ _ _=>none
 |n+1=>VW (Iy n) (I8 n)
end
def eN(R3:Ov)(R6:OY)(p0:AAQ):Option Jx:=
 R3 p0 0 []
def Yd(p0:AAQ):Option Jx:=eN (Iy Ae) (I8 Ae) p0
abbrev OE:Type:=ACo×AGg
abbrev VX:Type:=List Int→Int→Int→AAQ→Int→AA_→AA_→Int→AA_→AA_→AAQ→Option OE
abbrev Tv:Type:=Int→Int→AAQ→Int→AA_→AA_→Int→AA_→AA_→AAQ→Option OE
def bU(R6:VX)(xG:Tv)(t2:AAH)(t4 t14:Int)(b0:AAQ)(Ee:Int)(b2 b3:AA_)(ag:Int)(b5 b6:AA_)(b7:AAQ):Option OE:=
 cond ((decide (t14<(b0.length:Int))))
  ((DI t2 t14).bind fun u6=>
  cond (!u6.1.1)
   (if(0:Int)≤t14∧t14<(b0.length:Int)then(
   if b7.length+1≤Ds then(
   R6 t2 t4 (AX (t14+1)) b0 Ee b2 b3 ag b5 b6 (b7++[((b0.getD (t14.toNat) ([],[],0,())).1,(b0.getD (t14.toNat) ([],[],0,())).2.1,(b0.getD (t14.toNat) ([],[],0,())).2.2.1,())]))else none)else none)
  (R6 t2 t4 (AX (t14+1)) b0 Ee b2 b3 ag b5 b6 b7))
 (xG t4 0 b0 Ee b2 b3 ag b5 b6 b7)
def ZU(R6:VX)(xG:Tv)(t4 t15:Int)(b0:AAQ)(Ee:Int)(b2 b3:AA_)(ag:Int)(b5 b6:AA_)(b7:AAQ):Option OE:=
 cond ((decide (t15<(b7.length:Int))))
  (if(0:Int)≤t15∧t15<(b7.length:Int)then(
  (Gn ((b7.getD (t15.toNat) ([],[],0,())).1,(b7.getD (t15.toNat) ([],[],0,())).2.1,(b7.getD (t15.toNat) ([],[],0,())).2.2.1,())).bind fun u9=>
  cond (!u9.1.1)
   (some (((((),(),ag,()),false,()),()),(b0,b5,b6,())))
  (xG t4 (AX (t15+1)) b0 Ee b2 b3 ag b5 b6 b7))else none)
 ((Yd b7).bind fun EW=>
 (Gn (EW.2.1,[],t4,())).bind fun Nq=>
 cond (!Nq.1.1)
  (some (((((),(),ag,()),false,()),()),(b0,b5,b6,())))
 (some (((((),(),t4,()),true,()),()),(b0,EW.2.1,[],()))))
mutual
def O3:Nat→VX
 |0=>fun _ _ _ _ _ _ _ _ _ _ _=>none
 |n+1=>bU (O3 n) (Mz n)
def Mz:Nat→Tv
 |0=>fun _ _ _ _ _ _ _ _ _ _=>none
 |n+1=>ZU (O3 n) (Mz n)
end
def bZ(R6:VX)(xG:Tv)(p0:ABO)(p2:AAH)(p3 p4:Int)(b0:AAQ):Option OE:=
 (GP (p0.1,p0.2.1,())).bind fun u1=>
 cond (!u1.1.1)
  (some (((((),(),0,()),false,()),()),(b0,[],[],())))
 (cond (((b0.length:Int) !=(p0.1.length:Int)))
  (some (((((),(),0,()),false,()),()),(b0,[],[],())))
 ((YF (p0.1,p0.2.1,()) p2).bind fun u3=>
 cond (!u3.1.1)
  (some (((((),(),0,()),false,()),()),(b0,[],[],())))
 ((DI p2 p3).bind fun u4=>
 cond (!u4.1.1)
  (some (((((),(),0,()),false,()),()),(b0,[],[],())))
 (R6 p2 p4 0 b0 0 [] [] 0 [] [] []))))
def dW(p0:ABO)(p2:AAH)(p3 p4:Int)(b0:AAQ):Option OE:=bZ (O3 Ae) (Mz Ae) p0 p2 p3 p4 b0
abbrev nW:Type:=ACj×AFt
def V1(CP CT:Int)(BQ:Bool)(p1:ACa)(b0:AAH)(b1:AAQ)(b2:AAH)(b3:AAk)(b4:AAt)(b5:AAu)(b6:AA2)(b7:AAs):Option nW:=
 (DI b2 p1.2.1).bind fun u1=>
 cond (!u1.1.1)
  (some (((((),CP,(),(),(),CT,(),(),(),(),BQ,()),2,()),()),(b0,b1,(),b3,b4,b5,b6,b7,b2,())))
 ((MB (AX ((b3.length:Int)-1)) 0).bind fun u3=>
 (dW (b0,CP,()) b2 p1.2.1 u3.1.1 b1).bind fun u4=>
 cond (!u4.1.1.2.1)
  (some (((((),CP,(),(),(),CT,(),(),(),(),BQ,()),4,()),()),(b0,u4.2.1,(),b3,b4,b5,b6,b7,b2,())))
 (if(0:Int)≤p1.2.1∧p1.2.1<(u4.2.1.length:Int)then(
 (Iq b2 [p1.2.1]).bind fun u6=>
 some (((((),CP,(),(),(),CT,(),(),(),(),BQ,()),0,()),()),(b0,(u4.2.1.set (p1.2.1.toNat) (u4.2.2.1,u4.2.2.2.1,u4.1.1.1.2.2.1,())),(),b3,b4,b5,b6,b7,u6.2.1,())))else none))
abbrev p9:Type:=AEY×ACm
def gv(p0 p1:Int):Option p9:=
 some (((p1,p0,(),(),false,(),()),()),([],[],[],()))
abbrev dE:Type:=ACj×(List Int×AAQ×List Int×AAk×AAt×Unit×AA2×AAs×AAu×Unit)
def Vw(CP CT:Int)(BQ:Bool)(b0:AAH)(b1:AAQ)(b2:AAH)(b3:AAk)(b4:AAt)(b5:AAu)(b6:AA2)(b7:AAs):Option dE:=
 (JZ (b3,CT,())).bind fun u1=>
 cond ((decide ((b3.length:Int)<2)))
  (some (((((),CP,(),(),(),CT,(),(),(),(),BQ,()),2,()),()),(b0,b1,b2,b3,b4,(),b6,b7,b5,())))
 (cond ((u1.1.1==(b3.length:Int)))
  (some (((((),CP,(),(),(),CT,(),(),(),(),BQ,()),2,()),()),(b0,b1,b2,b3,b4,(),b6,b7,b5,())))
 (cond ((decide ((b5.length:Int)>0)))
  (some (((((),CP,(),(),(),CT,(),(),(),(),BQ,()),4,()),()),(b0,b1,b2,b3,b4,(),b6,b7,b5,())))
 ((gv u1.1.1 (b3.length:Int)).bind fun u5=>
 some (((((),CP,(),(),(),CT,(),(),(),(),BQ,()),0,()),()),(b0,b1,b2,b3,b4,(),b6,b7,[(u5.1.1.1,u5.1.1.2.1,u5.2.1,u5.2.2.1,u5.1.1.2.2.2.2.1,u5.2.2.2.1,())],())))))
abbrev jg:Type:=ACo×ACl
def RE(p0:ACP)(p1:Int):Option jg:=
 (Gn (p0.1,p0.2.1,p0.2.2.1,())).bind fun u1=>
 cond (!u1.1.1)
  (some (((((),(),0,()),false,()),()),([],[],())))
 ((OH (p0.1,p0.2.1,p0.2.2.1,())).bind fun u2=>
 cond (!u2.1.1.2.1)
  ((El (p0.1,p0.2.1,p0.2.2.1,())).bind fun u3=>
  some (((((),(),u3.1.1.2.2.1,()),false,()),()),(u3.2.1,u3.2.2.1,())))
 ((CN p1 0 30).bind fun u4=>
 cond (!u4.1.1)
  ((El (p0.1,p0.2.1,p0.2.2.1,())).bind fun u5=>
  some (((((),(),u5.1.1.2.2.1,()),false,()),()),(u5.2.1,u5.2.2.1,())))
 ((MB u2.1.1.1.2.2.1 p1).bind fun u6=>
 some (((((),(),u6.1.1,()),true,()),()),(u2.2.1,u2.2.2.1,())))))
abbrev P6:Type:=ACL×AD5
abbrev S1:Type:=Int→Int→AA_→AA_→Int→AA_→Option P6
def PN(R3:S1)(t1 t6:Int)(AR AE:AA_)(Ah:Int)(b1:AA_):Option P6:=
 cond ((decide (t6<(AR.length:Int))))
  ((Gn (AR,AE,Ah,())).bind fun u2=>
  cond (u2.1.1)
   (if(0:Int)≤t6∧t6<(AR.length:Int)then(
   (C0 ((AR.getD (t6.toNat) (0,0,false,[],())).1)).bind fun u4=>
   cond (u4.1.1==t1)
    (if(0:Int)≤t6∧t6<(AR.length:Int)then(
    if b1.length+1≤Ds then(
    R3 t1 (AX (t6+1)) AR AE Ah (b1++[((AR.getD (t6.toNat) (0,0,false,[],())).1,(AR.getD (t6.toNat) (0,0,false,[],())).2.1,(AR.getD (t6.toNat) (0,0,false,[],())).2.2.1,(AR.getD (t6.toNat) (0,0,false,[],())).2.2.2.1,())]))else none)else none)
   (R3 t1 (AX (t6+1)) AR AE Ah b1))else none)
  (some (((),()),(b1,()))))
 (some (((),()),(b1,())))
def Iu:Nat→S1
 |0=>fun _ _ _ _ _ _=>none
 |n+1=>PN (Iu n)
def U7(R3:S1)(p0:ACP)(p1:Int):Option P6:=
 R3 p1 0 p0.1 p0.2.1 p0.2.2.1 []
def To(p0:ACP)(p1:Int):Option P6:=U7 (Iu Ae) p0 p1
abbrev P8:Type:=ADu×ACm
abbrev TN:Type:=AA_→Int→List Int→Int→Int→Int→List Int→AA_→Bool→List AAH→Int→Int→Bool→List Int→AA_→List AAH→Int→Int→Bool→List Int→AA_→List AAH→Option P8
def VF(R6:TN)(t3:AA_)(t11:Int)(AR:AAH)(AE Co Bj:Int)(Ee:AAH)(Gt:AA_)(MQ:Bool)(D_:List AAH)(Zj PO:Int)(tN:Bool)(b3:AAH)(b4:AA_)(b5:List AAH)(td tQ:Int)(uS:Bool)(b7:AAH)(b8:AA_)(b9:List AAH):Option P8:=
 cond ((decide (t11<(t3.length:Int))))
  (if(0:Int)≤t11∧t11<(t3.length:Int)then(
  (C0 ((t3.getD (t11.toNat) (0,0,false,[],())).1)).bind fun u6=>
  cond (u6.1.1==Bj)
   (if(0:Int)≤t11∧t11<(t3.length:Int)then(
   (Qd b8 ((t3.getD (t11.toNat) (0,0,false,[],())).1,(t3.getD (t11.toNat) (0,0,false,[],())).2.1,(t3.getD (t11.toNat) (0,0,false,[],())).2.2.1,(t3.getD (t11.toNat) (0,0,false,[],())).2.2.2.1,())).bind fun u7=>
   R6 t3 (AX (t11+1)) AR AE Co Bj Ee Gt MQ D_ Zj PO tN b3 b4 b5 td tQ uS b7 u7.2.1 b9)else none)
  (R6 t3 (AX (t11+1)) AR AE Co Bj Ee Gt MQ D_ Zj PO tN b3 b4 b5 td tQ uS b7 b8 b9))else none)
 (cond (MQ)
  ((EL (Co,Bj,Ee,Gt,MQ,D_,())).bind fun u8=>
  some ((((u8.1.1.1,u8.1.1.2.1,(),(),u8.1.1.2.2.2.2.1,(),()),false,()),()),(u8.2.1,u8.2.2.1,u8.2.2.2.1,())))
 ((Ip (AR,AE,()) (td,tQ,b7,b8,uS,b9,())).bind fun u9=>
 cond (!u9.1.1)
  ((EL (Co,Bj,Ee,Gt,MQ,D_,())).bind fun EW=>
  some ((((EW.1.1.1,EW.1.1.2.1,(),(),EW.1.1.2.2.2.2.1,(),()),false,()),()),(EW.2.1,EW.2.2.1,EW.2.2.2.1,())))
 (some ((((td,tQ,(),(),uS,(),()),true,()),()),(b7,b8,b9,())))))
def Lg:Nat→TN
 |0=>fun _ _ _ _ _ _ _ _ _ _ _ _ _ _ _ _ _ _ _ _ _ _=>none
 |n+1=>VF (Lg n)
def VJ(R6:TN)(p0:ABO)(p1:ABi)(p2:Int)(p3:AA_):Option P8:=
 (Ip (p0.1,p0.2.1,()) (p1.1,p1.2.1,p1.2.2.1,p1.2.2.2.1,p1.2.2.2.2.1,p1.2.2.2.2.2.1,())).bind fun u1=>
 cond (!u1.1.1)
  (some ((((0,0,(),(),false,(),()),false,()),()),([],[],[],())))
 ((EL (p1.1,p1.2.1,p1.2.2.1,p1.2.2.2.1,p1.2.2.2.2.1,p1.2.2.2.2.2.1,())).bind fun u2=>
 (MU u2.2.1 p2).bind fun u3=>
 R6 p3 0 p0.1 p0.2.1 p1.1 p1.2.1 p1.2.2.1 p1.2.2.2.1 p1.2.2.2.2.1 p1.2.2.2.2.2.1 0 0 false [] [] [] u2.1.1.1 u2.1.1.2.1 u2.1.1.2.2.2.2.1 u3.2.1 u2.2.2.1 u2.2.2.2.1)
def Tb(p0:ABO)(p1:ABi)(p2:Int)(p3:AA_):Option P8:=VJ (Lg Ae) p0 p1 p2 p3
abbrev pd:Type:=ACj×ACn
def Vy(CP CT:Int)(BQ:Bool)(p1:ACa)(b0:AAH)(b1:AAQ)(b2:AAH)(b3:AAk)(b4:AAt)(b5:AAu)(b6:AA2)(b7:AAs):Option pd:=
 cond (((b5.length:Int)==0))
  (some (((((),CP,(),(),(),CT,(),(),(),(),BQ,()),2,()),()),(b0,b1,b2,b3,b4,b5,b6,b7,())))
 (if(0:Int)≤(0:Int)∧(0:Int)<(b5.length:Int)then(
 (Hb (b0,CP,b1,b2,b3,CT,b4,b5,b6,b7,BQ,()) p1.2.1).bind fun u2=>
 cond (u2.1.1 !=0)
  (some (((((),CP,(),(),(),CT,(),(),(),(),BQ,()),u2.1.1,()),()),(b0,b1,b2,b3,b4,b5,b6,b7,())))
 ((Cd (b3,CT,()) ((b5.getD 0 (0,0,[],[],false,[],())).2.1)).bind fun u4=>
 (DI u4.2.1 p1.2.1).bind fun u5=>
 cond (!u5.1.1)
  (some (((((),CP,(),(),(),CT,(),(),(),(),BQ,()),2,()),()),(b0,b1,b2,b3,b4,b5,b6,b7,())))
 (if(0:Int)≤p1.2.1∧p1.2.1<(b1.length:Int)then(
 (RE ((b1.getD (p1.2.1.toNat) ([],[],0,())).1,(b1.getD (p1.2.1.toNat) ([],[],0,())).2.1,(b1.getD (p1.2.1.toNat) ([],[],0,())).2.2.1,()) (AX (((b5.getD 0 (0,0,[],[],false,[],())).1)-1))).bind fun u7=>
 (To (u7.2.1,u7.2.2.1,u7.1.1.1.2.2.1,()) ((b5.getD 0 (0,0,[],[],false,[],())).2.1)).bind fun u9=>
 (Tb (b0,CP,()) ((b5.getD 0 (0,0,[],[],false,[],())).1,(b5.getD 0 (0,0,[],[],false,[],())).2.1,(b5.getD 0 (0,0,[],[],false,[],())).2.2.1,(b5.getD 0 (0,0,[],[],false,[],())).2.2.2.1,(b5.getD 0 (0,0,[],[],false,[],())).2.2.2.2.1,(b5.getD 0 (0,0,[],[],false,[],())).2.2.2.2.2.1,()) p1.2.1 u9.2.1).bind fun EW=>
 cond (!u7.1.1.2.1)
  (some (((((),CP,(),(),(),CT,(),(),(),(),BQ,()),4,()),()),(b0,b1,b2,b3,b4,b5,b6,b7,())))
 (cond (!EW.1.1.2.1)
  (some (((((),CP,(),(),(),CT,(),(),(),(),BQ,()),4,()),()),(b0,b1,b2,b3,b4,b5,b6,b7,())))
 (if(0:Int)≤p1.2.1∧p1.2.1<(b1.length:Int)then(
 if(0:Int)≤(0:Int)∧(0:Int)<(b5.length:Int)then(
 some (((((),CP,(),(),(),CT,(),(),(),(),BQ,()),0,()),()),(b0,(b1.set (p1.2.1.toNat) (u7.2.1,u7.2.2.1,u7.1.1.1.2.2.1,())),b2,b3,b4,(b5.set 0 (EW.1.1.1.1,EW.1.1.1.2.1,EW.2.1,EW.2.2.1,EW.1.1.1.2.2.2.2.1,EW.2.2.2.1,())),b6,b7,())))else none)else none)))else none)))else none)
abbrev qV:Type:=ACL×ACb
def KW(p0 p1:AAH):Option qV:=
 (Iq p0 p1).bind fun u1=>
 (Iq p0 u1.2.1).bind fun u2=>
 some (((),()),(u2.2.1,()))
abbrev qf:Type:=ABZ×Unit
def KK(p0:ABO)(p1 p2:AAH):Option qf:=
 (FK (p0.1,p0.2.1,()) p1).bind fun u1=>
 cond (!u1.1.1)
  (some ((false,()),()))
 ((Gg (p0.1,p0.2.1,()) p2).bind fun u2=>
 cond (!u2.1.1)
  (some ((false,()),()))
 ((Iq p2 p1).bind fun u3=>
 cond (decide ((u3.2.1.length:Int)>0))
  (some ((false,()),()))
 ((Iq p1 p2).bind fun u5=>
 (UW (p0.1,p0.2.1,()) u5.2.1).bind fun u6=>
 some (((decide (u6.1.1<p0.2.1)),()),()))))
abbrev Pv:Type:=ADu×ACm
abbrev S2:Type:=Int→Int→Int→List Int→AA_→Bool→List AAH→Int→Int→Bool→List Int→AA_→List AAH→Int→Int→Bool→List Int→AA_→List AAH→Option Pv
def U4(R8:S2)(t9 AR AE:Int)(Ah:AAH)(Bc:AA_)(Br:Bool)(AU:List AAH)(Co Bj:Int)(MQ:Bool)(b2:AAH)(b3:AA_)(b4:List AAH)(AC3 ADZ:Int)(AC9:Bool)(b6:AAH)(b7:AA_)(b8:List AAH):Option Pv:=
 (Qr (AR,AE,Ah,Bc,Br,AU,())).bind fun u5=>
 cond (decide (t9<u5.1.1))
  (if b8.length+1≤Ds then(
  R8 (AX (t9+1)) AR AE Ah Bc Br AU Co Bj MQ b2 b3 b4 AC3 ADZ AC9 b6 b7 (b8++[[]]))else none)
 (some ((((AC3,ADZ,(),(),AC9,(),()),true,()),()),(b6,b7,b8,())))
def Lh:Nat→S2
 |0=>fun _ _ _ _ _ _ _ _ _ _ _ _ _ _ _ _ _ _ _=>none
 |n+1=>U4 (Lh n)
def VU(R8:S2)(p0:ABO)(p1:ABi)(p2:AAH):Option Pv:=
 (Ip (p0.1,p0.2.1,()) (p1.1,p1.2.1,p1.2.2.1,p1.2.2.2.1,p1.2.2.2.2.1,p1.2.2.2.2.2.1,())).bind fun u1=>
 cond (!u1.1.1)
  (some ((((0,0,(),(),false,(),()),false,()),()),([],[],[],())))
 ((EL (p1.1,p1.2.1,p1.2.2.1,p1.2.2.2.1,p1.2.2.2.2.1,p1.2.2.2.2.2.1,())).bind fun u2=>
 cond (p1.2.2.2.2.1)
  (some ((((u2.1.1.1,u2.1.1.2.1,(),(),u2.1.1.2.2.2.2.1,(),()),false,()),()),(u2.2.1,u2.2.2.1,u2.2.2.2.1,())))
 ((KW p1.2.2.1 p2).bind fun u3=>
 (KK (p0.1,p0.2.1,()) p2 u3.2.1).bind fun u4=>
 cond (!u4.1.1)
  (some ((((u2.1.1.1,u2.1.1.2.1,(),(),u2.1.1.2.2.2.2.1,(),()),false,()),()),(u2.2.1,u2.2.2.1,u2.2.2.2.1,())))
 (R8 0 p1.1 p1.2.1 p1.2.2.1 p1.2.2.2.1 p1.2.2.2.2.1 p1.2.2.2.2.2.1 0 0 false [] [] [] u2.1.1.1 u2.1.1.2.1 true u2.2.1 u2.2.2.1 u2.2.2.2.1)))
def TZ(p0:ABO)(p1:ABi)(p2:AAH):Option Pv:=VU (Lh Ae) p0 p1 p2
abbrev oA:Type:=ACj×ACn
def Vu(CP CT:Int)(BQ:Bool)(b0:AAH)(b1:AAQ)(b2:AAH)(b3:AAk)(b4:AAt)(b5:AAu)(b6:AA2)(b7:AAs):Option oA:=
 cond (((b5.length:Int)==0))
  (some (((((),CP,(),(),(),CT,(),(),(),(),BQ,()),2,()),()),(b0,b1,b2,b3,b4,b5,b6,b7,())))
 (if(0:Int)≤(0:Int)∧(0:Int)<(b5.length:Int)then(
 if(0:Int)≤(0:Int)∧(0:Int)<(b5.length:Int)then(
 (Cd (b3,CT,()) ((b5.getD 0 (0,0,[],[],false,[],())).2.1)).bind fun u3=>
 (TZ (b0,CP,()) ((b5.getD 0 (0,0,[],[],false,[],())).1,(b5.getD 0 (0,0,[],[],false,[],())).2.1,(b5.getD 0 (0,0,[],[],false,[],())).2.2.1,(b5.getD 0 (0,0,[],[],false,[],())).2.2.2.1,(b5.getD 0 (0,0,[],[],false,[],())).2.2.2.2.1,(b5.getD 0 (0,0,[],[],false,[],())).2.2.2.2.2.1,()) u3.2.1).bind fun u4=>
 cond (!u4.1.1.2.1)
  (some (((((),CP,(),(),(),CT,(),(),(),(),BQ,()),4,()),()),(b0,b1,b2,b3,b4,b5,b6,b7,())))
 (if(0:Int)≤(0:Int)∧(0:Int)<(b5.length:Int)then(
 some (((((),CP,(),(),(),CT,(),(),(),(),BQ,()),0,()),()),(b0,b1,b2,b3,b4,(b5.set 0 (u4.1.1.1.1,u4.1.1.1.2.1,u4.2.1,u4.2.2.1,u4.1.1.1.2.2.2.2.1,u4.2.2.2.1,())),b6,b7,())))else none))else none)else none)
abbrev qp:Type:=ACj×ACn
def YZ(CP CT:Int)(BQ:Bool)(p1:ACa)(b0:AAH)(b1:AAQ)(b2:AAH)(b3:AAk)(b4:AAt)(b5:AAu)(b6:AA2)(b7:AAs):Option qp:=
 cond (((b5.length:Int)==0))
  (some (((((),CP,(),(),(),CT,(),(),(),(),BQ,()),2,()),()),(b0,b1,b2,b3,b4,b5,b6,b7,())))
 (if(0:Int)≤(0:Int)∧(0:Int)<(b5.length:Int)then(
 (Ek ((b5.getD 0 (0,0,[],[],false,[],())).1,(b5.getD 0 (0,0,[],[],false,[],())).2.1,(b5.getD 0 (0,0,[],[],false,[],())).2.2.1,(b5.getD 0 (0,0,[],[],false,[],())).2.2.2.1,(b5.getD 0 (0,0,[],[],false,[],())).2.2.2.2.1,(b5.getD 0 (0,0,[],[],false,[],())).2.2.2.2.2.1,()) p1.2.2.1).bind fun u2=>
 cond (!u2.1.1.2.1)
  (some (((((),CP,(),(),(),CT,(),(),(),(),BQ,()),2,()),()),(b0,b1,b2,b3,b4,b5,b6,b7,())))
 ((Hb (b0,CP,b1,b2,b3,CT,b4,b5,b6,b7,BQ,()) p1.2.2.2.1).bind fun u3=>
 cond (u3.1.1 !=0)
  (some (((((),CP,(),(),(),CT,(),(),(),(),BQ,()),u3.1.1,()),()),(b0,b1,b2,b3,b4,b5,b6,b7,())))
 (if(0:Int)≤(0:Int)∧(0:Int)<(b5.length:Int)then(
 (Cd (b3,CT,()) ((b5.getD 0 (0,0,[],[],false,[],())).2.1)).bind fun u5=>
 (DI u5.2.1 p1.2.2.2.1).bind fun u6=>
 cond (!u6.1.1)
  (some (((((),CP,(),(),(),CT,(),(),(),(),BQ,()),2,()),()),(b0,b1,b2,b3,b4,b5,b6,b7,())))
 (if(0:Int)≤p1.2.2.2.1∧p1.2.2.2.1<(b1.length:Int)then(
 (PR ((b1.getD (p1.2.2.2.1.toNat) ([],[],0,())).1,(b1.getD (p1.2.2.2.1.toNat) ([],[],0,())).2.1,(b1.getD (p1.2.2.2.1.toNat) ([],[],0,())).2.2.1,()) (u2.1.1.1.1,u2.1.1.1.2.1,u2.1.1.1.2.2.1,u2.1.1.1.2.2.2.1,())).bind fun u7=>
 cond (!u7.1.1.2.1)
  (some (((((),CP,(),(),(),CT,(),(),(),(),BQ,()),4,()),()),(b0,b1,b2,b3,b4,b5,b6,b7,())))
 (if(0:Int)≤p1.2.2.2.1∧p1.2.2.2.1<(b1.length:Int)then(
 some (((((),CP,(),(),(),CT,(),(),(),(),BQ,()),0,()),()),(b0,(b1.set (p1.2.2.2.1.toNat) (u7.2.1,u7.2.2.1,u7.1.1.1.2.2.1,())),b2,b3,b4,b5,b6,b7,())))else none))else none))else none)))else none)
abbrev Oz:Type:=ABZ×Unit
abbrev Ro:Type:=Int→List Int→Int→Int→Int→List Int→AA_→Bool→List AAH→Option Oz
def T7(R4:Ro)(t5:Int)(AR:AAH)(AE Co Bj:Int)(Ee:AAH)(Gt:AA_)(MQ:Bool)(D_:List AAH):Option Oz:=
 cond ((decide (t5<(D_.length:Int))))
  (if(0:Int)≤t5∧t5<(D_.length:Int)then(
  (FK (AR,AE,()) (D_.getD (t5.toNat) [])).bind fun u3=>
  cond (!u3.1.1)
   (some ((false,()),()))
  (R4 (AX (t5+1)) AR AE Co Bj Ee Gt MQ D_))else none)
 (some ((true,()),()))
def KS:Nat→Ro
 |0=>fun _ _ _ _ _ _ _ _ _=>none
 |n+1=>T7 (KS n)
def UZ(R4:Ro)(p0:ABO)(p1:ABi):Option Oz:=
 (Ip (p0.1,p0.2.1,()) (p1.1,p1.2.1,p1.2.2.1,p1.2.2.2.1,p1.2.2.2.2.1,p1.2.2.2.2.2.1,())).bind fun u1=>
 cond (!u1.1.1)
  (some ((false,()),()))
 (cond (!p1.2.2.2.2.1)
  (some ((false,()),()))
 (R4 0 p0.1 p0.2.1 p1.1 p1.2.1 p1.2.2.1 p1.2.2.2.1 p1.2.2.2.2.1 p1.2.2.2.2.2.1))
def RU(p0:ABO)(p1:ABi):Option Oz:=UZ (KS Ae) p0 p1
abbrev mU:Type:=AE6×ACt
def Ti(p0:ABO)(p1:ACC)(p2 p3:Int):Option mU:=
 (MA (p0.1,p0.2.1,()) (p1.1,p1.2.1,())).bind fun u1=>
 cond (!u1.1.1)
  (some (((((),0,()),false,()),()),([],())))
 ((F6 (p1.1,p1.2.1,())).bind fun u2=>
 (JZ (p1.1,p1.2.1,())).bind fun u3=>
 cond ((p2 !=(p1.1.length:Int)))
  (some (((((),u2.1.1.2.1,()),false,()),()),(u2.2.1,())))
 (cond (u3.1.1==0)
  (some (((((),u2.1.1.2.1,()),false,()),()),(u2.2.1,())))
 (cond (p2==u3.1.1)
  (some (((((),u2.1.1.2.1,()),false,()),()),(u2.2.1,())))
 ((CN p3 0 60).bind fun u5=>
 cond (!u5.1.1)
  (some (((((),u2.1.1.2.1,()),false,()),()),(u2.2.1,())))
 (if(0:Int)≤AX (u3.1.1-1)∧AX (u3.1.1-1)<(u2.2.1.length:Int)then(
 let x6:AAk:=(u2.2.1.set ((AX (u3.1.1-1)).toNat) ((u2.2.1.getD ((AX (u3.1.1-1)).toNat) ([],false,0,())).1,true,(u2.2.1.getD ((AX (u3.1.1-1)).toNat) ([],false,0,())).2.2.1,()))
 if(0:Int)≤AX (u3.1.1-1)∧AX (u3.1.1-1)<(x6.length:Int)then(
 some (((((),u2.1.1.2.1,()),true,()),()),((x6.set ((AX (u3.1.1-1)).toNat) ((x6.getD ((AX (u3.1.1-1)).toNat) ([],false,0,())).1,(x6.getD ((AX (u3.1.1-1)).toNat) ([],false,0,())).2.1,p3,())),())))else none)else none)))))
abbrev ba:Type:=ACj×(List Int×AAQ×List Int×Unit×AAt×Unit×AA2×AAs×AAk×AAu×Unit)
def Tq(CP CT:Int)(BQ:Bool)(b0:AAH)(b1:AAQ)(b2:AAH)(b3:AAk)(b4:AAt)(b5:AAu)(b6:AA2)(b7:AAs):Option ba:=
 cond (((b5.length:Int)==0))
  (some (((((),CP,(),(),(),CT,(),(),(),(),BQ,()),2,()),()),(b0,b1,b2,(),b4,(),b6,b7,b3,b5,())))
 (if(0:Int)≤(0:Int)∧(0:Int)<(b5.length:Int)then(
 (RU (b0,CP,()) ((b5.getD 0 (0,0,[],[],false,[],())).1,(b5.getD 0 (0,0,[],[],false,[],())).2.1,(b5.getD 0 (0,0,[],[],false,[],())).2.2.1,(b5.getD 0 (0,0,[],[],false,[],())).2.2.2.1,(b5.getD 0 (0,0,[],[],false,[],())).2.2.2.2.1,(b5.getD 0 (0,0,[],[],false,[],())).2.2.2.2.2.1,())).bind fun u2=>
 cond (!u2.1.1)
  (some (((((),CP,(),(),(),CT,(),(),(),(),BQ,()),5,()),()),(b0,b1,b2,(),b4,(),b6,b7,b3,b5,())))
 (if(0:Int)≤(0:Int)∧(0:Int)<(b5.length:Int)then(
 if(0:Int)≤(0:Int)∧(0:Int)<(b5.length:Int)then(
 (Ti (b0,CP,()) (b3,CT,()) ((b5.getD 0 (0,0,[],[],false,[],())).1) (((b5.getD 0 (0,0,[],[],false,[],())).2.2.2.2.2.1).length:Int)).bind fun u5=>
 cond (!u5.1.1.2.1)
  (some (((((),CP,(),(),(),CT,(),(),(),(),BQ,()),4,()),()),(b0,b1,b2,(),b4,(),b6,b7,b3,b5,())))
 (some (((((),CP,(),(),(),u5.1.1.1.2.1,(),(),(),(),BQ,()),0,()),()),(b0,b1,b2,(),b4,(),b6,b7,u5.2.1,[],()))))else none)else none))else none)
abbrev pt:Type:=AE6×ACt
def Vn(p0:ABO)(p1:ACC)(p2:Int):Option pt:=
 (MA (p0.1,p0.2.1,()) (p1.1,p1.2.1,())).bind fun u1=>
 cond (!u1.1.1)
  (some (((((),0,()),false,()),()),([],())))
 ((F6 (p1.1,p1.2.1,())).bind fun u2=>
 (HT p2).bind fun u3=>
 cond (!u3.1.1)
  (some (((((),u2.1.1.2.1,()),false,()),()),(u2.2.1,())))
 ((C0 p2).bind fun u4=>
 cond ((decide (u4.1.1>(p1.1.length:Int))))
  (some (((((),u2.1.1.2.1,()),false,()),()),(u2.2.1,())))
 ((MB u2.1.1.2.1 p2).bind fun u6=>
 some (((((),u6.1.1,()),true,()),()),(u2.2.1,())))))
abbrev NZ:Type:=ABp×Unit
abbrev QQ:Type:=Int→Int→ACH→Option NZ
def Sj(R2:QQ)(t3 AR:Int)(AE:ACH):Option NZ:=
 cond ((decide (t3<(AE.length:Int))))
  (if(0:Int)≤t3∧t3<(AE.length:Int)then(
  cond (((AE.getD (t3.toNat) ([],[],false,())).2.2.1))
   (R2 (AX (t3+1)) AR AE)
  (some ((t3,()),())))else none)
 (some ((t3,()),()))
def JK:Nat→QQ
 |0=>fun _ _ _=>none
 |n+1=>Sj (JK n)
def b_(R2:QQ)(p0:ACJ):Option NZ:=
 R2 0 p0.1 p0.2.1
def Ux(p0:ACJ):Option NZ:=b_ (JK Ae) p0
abbrev Td:Type:=ABp×Unit
abbrev XQ:Type:=Int→Int→List Int→Int→AAQ→List Int→AAk→Int→AAt→AAu→AA2→AAs→Bool→Option Td
def Yb(R2:XQ)(t1 t5:Int)(AR:AAH)(AE:Int)(Ah:AAQ)(Bc:AAH)(Br:AAk)(AU:Int)(Bp:AAt)(Bm:AAu)(CG:AA2)(Bk:AAs)(AK:Bool):Option Td:=
 cond ((decide (t5<(Bp.length:Int))))
  (if(0:Int)≤t5∧t5<(Bp.length:Int)then(
  cond (((Bp.getD (t5.toNat) (0,[],())).1)==t1)
   (if(0:Int)≤t5∧t5<(Bp.length:Int)then(
   (Ux ((Bp.getD (t5.toNat) (0,[],())).1,(Bp.getD (t5.toNat) (0,[],())).2.1,())).bind fun u3=>
   some ((u3.1.1,()),()))else none)
  (R2 t1 (AX (t5+1)) AR AE Ah Bc Br AU Bp Bm CG Bk AK))else none)
 (some ((0,()),()))
def OS:Nat→XQ
 |0=>fun _ _ _ _ _ _ _ _ _ _ _ _ _=>none
 |n+1=>Yb (OS n)
def jL(R2:XQ)(p0:ABS)(p1:Int):Option Td:=
 R2 p1 0 p0.1 p0.2.1 p0.2.2.1 p0.2.2.2.1 p0.2.2.2.2.1 p0.2.2.2.2.2.1 p0.2.2.2.2.2.2.1 p0.2.2.2.2.2.2.2.1 p0.2.2.2.2.2.2.2.2.1 p0.2.2.2.2.2.2.2.2.2.1 p0.2.2.2.2.2.2.2.2.2.2.1
def cU(p0:ABS)(p1:Int):Option Td:=jL (OS Ae) p0 p1
abbrev NS:Type:=ACL×(ACe×Unit)
abbrev QS:Type:=Int→List Int→Int→AAQ→List Int→AAk→Int→AAt→AAu→AA2→AAs→Bool→Int→Int→ADU→ACe→List Int→Option NS
def SZ(R4:QS)(t9:Int)(AR:AAH)(AE:Int)(Ah:AAQ)(Bc:AAH)(Br:AAk)(AU:Int)(Bp:AAt)(Bm:AAu)(CG:AA2)(Bk:AAs)(AK:Bool)(Co Bj:Int)(Ee:ADU)(b2:ACe)(b3:AAH):Option NS:=
 cond ((decide (t9<(b3.length:Int))))
  (if(0:Int)≤t9∧t9<(b3.length:Int)then(
  (Hb (AR,AE,Ah,Bc,Br,AU,Bp,Bm,CG,Bk,AK,()) (b3.getD (t9.toNat) 0)).bind fun u4=>
  cond (u4.1.1 !=0)
   (R4 (AX (t9+1)) AR AE Ah Bc Br AU Bp Bm CG Bk AK Co Bj Ee b2 b3)
  (if(0:Int)≤t9∧t9<(b3.length:Int)then(
  let x5:Int:=(b3.getD (t9.toNat) 0)
  if(0:Int)≤x5∧x5<(Ah.length:Int)then(
  (EX Co Bj).bind fun u6=>
  (HO ((Ah.getD (x5.toNat) ([],[],0,())).1) u6.1.1).bind fun u7=>
  if(0:Int)≤t9∧t9<(b3.length:Int)then(
  if b2.length+1≤Ds then(
  R4 (AX (t9+1)) AR AE Ah Bc Br AU Bp Bm CG Bk AK Co Bj Ee (b2++[((b3.getD (t9.toNat) 0),u7.1.1.2.1,u7.1.1.1.1,u7.1.1.1.2.1,u7.1.1.1.2.2.1,u7.1.1.1.2.2.2.1,())]) b3)else none)else none)else none)else none))else none)
 (some (((),()),(b2,())))
def JU:Nat→QS
 |0=>fun _ _ _ _ _ _ _ _ _ _ _ _ _ _ _ _ _=>none
 |n+1=>SZ (JU n)
def Sh(R4:QS)(p0:ABS)(p1:ACh)(p2:Int):Option NS:=
 (Nh p2).bind fun u1=>
 R4 0 p0.1 p0.2.1 p0.2.2.1 p0.2.2.2.1 p0.2.2.2.2.1 p0.2.2.2.2.2.1 p0.2.2.2.2.2.2.1 p0.2.2.2.2.2.2.2.1 p0.2.2.2.2.2.2.2.2.1 p0.2.2.2.2.2.2.2.2.2.1 p0.2.2.2.2.2.2.2.2.2.2.1 p1.1 p1.2.1 p1.2.2.1 [] u1.2.1
def P5(p0:ABS)(p1:ACh)(p2:Int):Option NS:=Sh (JU Ae) p0 p1 p2
abbrev Pn:Type:=((Unit×Bool×Unit)×Unit)×ACb
abbrev S3:Type:=ACe→Int→List Int→Int→List Int→Option Pn
def VH(R3:S3)(t1:ACe)(t7:Int)(AR:AAH)(AE:Int)(b1:AAH):Option Pn:=
 cond ((decide (t7<(t1.length:Int))))
  (if(0:Int)≤t7∧t7<(t1.length:Int)then(
  if b1.length+1≤Ds then(
  R3 t1 (AX (t7+1)) AR AE (b1++[((t1.getD (t7.toNat) (0,false,0,0,false,[],())).1)]))else none)else none)
 ((Gg (AR,AE,()) b1).bind fun u3=>
 some ((((),u3.1.1,()),()),(b1,())))
def LF:Nat→S3
 |0=>fun _ _ _ _ _=>none
 |n+1=>VH (LF n)
def eF(R3:S3)(p0:ABO)(p1:ACe):Option Pn:=
 R3 p1 0 p0.1 p0.2.1 []
def Yp(p0:ABO)(p1:ACe):Option Pn:=eF (LF Ae) p0 p1
abbrev nw:Type:=AFJ×AEL
def Ia(p0:ACh)(p1:AEo)(p2 p3:Int):Option nw:=
 (CS (p0.1,p0.2.1,p0.2.2.1,())).bind fun u1=>
 if u1.2.1.length+1≤Ds then(
 some (((p2,p3,(),()),()),((u1.2.1++[(p1.1,p1.2.1,p1.2.2.1,())]),())))else none
abbrev RQ:Type:=(AEo×Unit)×Unit
abbrev Un:Type:=List Int→Int→ACe→Bool→Int→Int→Int→List UInt8→Int→Int→Bool→List UInt8→Option RQ
def W6(R4:Un)(t0:AAH)(t1:Int)(t2:ACe)(t8:Bool)(t9 AR AE:Int)(Ah:ABs)(Co Bj:Int)(Ee:Bool)(Gt:ABs):Option RQ:=
 cond ((decide (t9<(t2.length:Int))))
  (if(0:Int)≤t9∧t9<(t2.length:Int)then(
  cond (!((t2.getD (t9.toNat) (0,false,0,0,false,[],())).2.1))
   (R4 t0 t1 t2 t8 (AX (t9+1)) AR AE Ah Co Bj Ee Gt)
  ((DI t0 ((t2.getD (t9.toNat) (0,false,0,0,false,[],())).1)).bind fun u4=>
  cond (!u4.1.1)
   (R4 t0 t1 t2 t8 (AX (t9+1)) AR AE Ah Co Bj Ee Gt)
  ((L4 ((t2.getD (t9.toNat) (0,false,0,0,false,[],())).2.2.1,(t2.getD (t9.toNat) (0,false,0,0,false,[],())).2.2.2.1,(t2.getD (t9.toNat) (0,false,0,0,false,[],())).2.2.2.2.1,(t2.getD (t9.toNat) (0,false,0,0,false,[],())).2.2.2.2.2.1,())).bind fun u5=>
  cond (!u5.1.1)
   (R4 t0 t1 t2 t8 (AX (t9+1)) AR AE Ah Co Bj Ee Gt)
  (cond (((t2.getD (t9.toNat) (0,false,0,0,false,[],())).2.2.1) !=t1)
   (R4 t0 t1 t2 t8 (AX (t9+1)) AR AE Ah Co Bj Ee Gt)
  (cond (!t8)
   ((Qa ((t2.getD (t9.toNat) (0,false,0,0,false,[],())).2.2.1,(t2.getD (t9.toNat) (0,false,0,0,false,[],())).2.2.2.1,(t2.getD (t9.toNat) (0,false,0,0,false,[],())).2.2.2.2.1,(t2.getD (t9.toNat) (0,false,0,0,false,[],())).2.2.2.2.2.1,()) ((t2.getD (t9.toNat) (0,false,0,0,false,[],())).2.2.1,(t2.getD (t9.toNat) (0,false,0,0,false,[],())).2.2.2.1,(t2.getD (t9.toNat) (0,false,0,0,false,[],())).2.2.2.2.1,(t2.getD (t9.toNat) (0,false,0,0,false,[],())).2.2.2.2.2.1,())).bind fun u7=>
   R4 t0 t1 t2 true (AX (t9+1)) AR AE Ah u7.1.1.1 u7.1.1.2.1 u7.1.1.2.2.1 u7.1.1.2.2.2.1)
  ((Qa (Co,Bj,Ee,Gt,()) ((t2.getD (t9.toNat) (0,false,0,0,false,[],())).2.2.1,(t2.getD (t9.toNat) (0,false,0,0,false,[],())).2.2.2.1,(t2.getD (t9.toNat) (0,false,0,0,false,[],())).2.2.2.2.1,(t2.getD (t9.toNat) (0,false,0,0,false,[],())).2.2.2.2.2.1,())).bind fun u8=>
  R4 t0 t1 t2 true (AX (t9+1)) AR AE Ah u8.1.1.1 u8.1.1.2.1 u8.1.1.2.2.1 u8.1.1.2.2.2.1))))))else none)
 (cond (!t8)
  (some (((3,t1,[],()),()),()))
 (cond (Ee)
  (some (((2,t1,[],()),()),()))
 (some (((1,t1,Gt,()),()),()))))
def Mm:Nat→Un
 |0=>fun _ _ _ _ _ _ _ _ _ _ _ _=>none
 |n+1=>W6 (Mm n)
def gK(R4:Un)(p0:AAH)(p1:Int)(p2:ACe):Option RQ:=
 R4 p0 p1 p2 false 0 0 0 [] 0 0 false []
def L1(p0:AAH)(p1:Int)(p2:ACe):Option RQ:=gK (Mm Ae) p0 p1 p2
abbrev X8:Type:=(AFq×Unit)×AEL
def Px(p0:ABO)(p1:ACC)(p2:Int)(p3:ACh)(p4:ACe):Option X8:=
 (Yp (p0.1,p0.2.1,()) p4).bind fun u1=>
 (MA (p0.1,p0.2.1,()) (p1.1,p1.2.1,())).bind fun u2=>
 cond (!u2.1.1)
  (some ((((0,0,(),()),1,()),()),([],())))
 ((Mw (p3.1,p3.2.1,p3.2.2.1,())).bind fun u3=>
 cond (!u3.1.1)
  (some ((((0,0,(),()),1,()),()),([],())))
 (cond (!u1.1.1.2.1)
  (some ((((0,0,(),()),1,()),()),([],())))
 (cond ((decide (p3.1>(p1.1.length:Int))))
  ((CS (p3.1,p3.2.1,p3.2.2.1,())).bind fun u5=>
  some ((((u5.1.1.1,u5.1.1.2.1,(),()),2,()),()),(u5.2.1,())))
 (cond ((p3.2.2.1.length:Int)==120)
  ((CS (p3.1,p3.2.1,p3.2.2.1,())).bind fun u7=>
  some ((((u7.1.1.1,u7.1.1.2.1,(),()),2,()),()),(u7.2.1,())))
 (if(0:Int)≤AX (p3.1-1)∧AX (p3.1-1)<(p1.1.length:Int)then(
 (EX p3.1 p3.2.1).bind fun u8=>
 cond ((decide (p1.2.1≥u8.1.1)))
  ((C0 p1.2.1).bind fun EW=>
  (HG p1.2.1).bind fun Nq=>
  (Ia (p3.1,p3.2.1,p3.2.2.1,()) (5,p1.2.1,[],()) EW.1.1 (AX (Nq.1.1+1))).bind fun bS=>
  some ((((bS.1.1.1,bS.1.1.2.1,(),()),0,()),()),(bS.2.1,())))
 (cond (((p1.1.getD ((AX (p3.1-1)).toNat) ([],false,0,())).2.1))
  (cond ((decide (p3.2.1>((p1.1.getD ((AX (p3.1-1)).toNat) ([],false,0,())).2.2.1))))
   ((Ia (p3.1,p3.2.1,p3.2.2.1,()) (4,AX (p3.1+1),[],()) (AX (p3.1+1)) 1).bind fun u16=>
   some ((((u16.1.1.1,u16.1.1.2.1,(),()),0,()),()),(u16.2.1,())))
  (cond (!((p1.1.getD ((AX (p3.1-1)).toNat) ([],false,0,())).2.1))
   (cond (decide (p3.2.1>p2))
    ((CS (p3.1,p3.2.1,p3.2.2.1,())).bind fun wZ=>
    some ((((wZ.1.1.1,wZ.1.1.2.1,(),()),2,()),()),(wZ.2.1,())))
   (cond (decide (p3.2.1>60))
    ((CS (p3.1,p3.2.1,p3.2.2.1,())).bind fun kZ=>
    some ((((kZ.1.1.1,kZ.1.1.2.1,(),()),2,()),()),(kZ.2.1,())))
   ((KW u1.2.1 ((p1.1.getD ((AX (p3.1-1)).toNat) ([],false,0,())).1)).bind fun SO=>
   (KK (p0.1,p0.2.1,()) ((p1.1.getD ((AX (p3.1-1)).toNat) ([],false,0,())).1) SO.2.1).bind fun lR=>
   cond (!lR.1.1)
    ((CS (p3.1,p3.2.1,p3.2.2.1,())).bind fun zz=>
    some ((((zz.1.1.1,zz.1.1.2.1,(),()),3,()),()),(zz.2.1,())))
   ((L1 ((p1.1.getD ((AX (p3.1-1)).toNat) ([],false,0,())).1) u8.1.1 p4).bind fun Y_=>
   (Ia (p3.1,p3.2.1,p3.2.2.1,()) (Y_.1.1.1,Y_.1.1.2.1,Y_.1.1.2.2.1,()) p3.1 (AX (p3.2.1+1))).bind fun XY=>
   some ((((XY.1.1.1,XY.1.1.2.1,(),()),0,()),()),(XY.2.1,()))))))
  (cond (decide (p3.2.1>60))
   ((CS (p3.1,p3.2.1,p3.2.2.1,())).bind fun fC=>
   some ((((fC.1.1.1,fC.1.1.2.1,(),()),2,()),()),(fC.2.1,())))
  ((KW u1.2.1 ((p1.1.getD ((AX (p3.1-1)).toNat) ([],false,0,())).1)).bind fun m_=>
  (KK (p0.1,p0.2.1,()) ((p1.1.getD ((AX (p3.1-1)).toNat) ([],false,0,())).1) m_.2.1).bind fun uh=>
  cond (!uh.1.1)
   ((CS (p3.1,p3.2.1,p3.2.2.1,())).bind fun XX=>
   some ((((XX.1.1.1,XX.1.1.2.1,(),()),3,()),()),(XX.2.1,())))
  ((L1 ((p1.1.getD ((AX (p3.1-1)).toNat) ([],false,0,())).1) u8.1.1 p4).bind fun rm=>
  (Ia (p3.1,p3.2.1,p3.2.2.1,()) (rm.1.1.1,rm.1.1.2.1,rm.1.1.2.2.1,()) p3.1 (AX (p3.2.1+1))).bind fun mj=>
  some ((((mj.1.1.1,mj.1.1.2.1,(),()),0,()),()),(mj.2.1,())))))))
 (cond (!((p1.1.getD ((AX (p3.1-1)).toNat) ([],false,0,())).2.1))
  (cond (decide (p3.2.1>p2))
   ((CS (p3.1,p3.2.1,p3.2.2.1,())).bind fun u32=>
   some ((((u32.1.1.1,u32.1.1.2.1,(),()),2,()),()),(u32.2.1,())))
  (cond (decide (p3.2.1>60))
   ((CS (p3.1,p3.2.1,p3.2.2.1,())).bind fun lQ=>
   some ((((lQ.1.1.1,lQ.1.1.2.1,(),()),2,()),()),(lQ.2.1,())))
  ((KW u1.2.1 ((p1.1.getD ((AX (p3.1-1)).toNat) ([],false,0,())).1)).bind fun nY=>
  (KK (p0.1,p0.2.1,()) ((p1.1.getD ((AX (p3.1-1)).toNat) ([],false,0,())).1) nY.2.1).bind fun u35=>
  cond (!u35.1.1)
   ((CS (p3.1,p3.2.1,p3.2.2.1,())).bind fun xR=>
   some ((((xR.1.1.1,xR.1.1.2.1,(),()),3,()),()),(xR.2.1,())))
  ((L1 ((p1.1.getD ((AX (p3.1-1)).toNat) ([],false,0,())).1) u8.1.1 p4).bind fun lF=>
  (Ia (p3.1,p3.2.1,p3.2.2.1,()) (lF.1.1.1,lF.1.1.2.1,lF.1.1.2.2.1,()) p3.1 (AX (p3.2.1+1))).bind fun u38=>
  some ((((u38.1.1.1,u38.1.1.2.1,(),()),0,()),()),(u38.2.1,()))))))
 (cond (decide (p3.2.1>60))
  ((CS (p3.1,p3.2.1,p3.2.2.1,())).bind fun u39=>
  some ((((u39.1.1.1,u39.1.1.2.1,(),()),2,()),()),(u39.2.1,())))
 ((KW u1.2.1 ((p1.1.getD ((AX (p3.1-1)).toNat) ([],false,0,())).1)).bind fun u40=>
 (KK (p0.1,p0.2.1,()) ((p1.1.getD ((AX (p3.1-1)).toNat) ([],false,0,())).1) u40.2.1).bind fun u41=>
 cond (!u41.1.1)
  ((CS (p3.1,p3.2.1,p3.2.2.1,())).bind fun u42=>
  some ((((u42.1.1.1,u42.1.1.2.1,(),()),3,()),()),(u42.2.1,())))
 ((L1 ((p1.1.getD ((AX (p3.1-1)).toNat) ([],false,0,())).1) u8.1.1 p4).bind fun u43=>
 (Ia (p3.1,p3.2.1,p3.2.2.1,()) (u43.1.1.1,u43.1.1.2.1,u43.1.1.2.2.1,()) p3.1 (AX (p3.2.1+1))).bind fun u44=>
 some ((((u44.1.1.1,u44.1.1.2.1,(),()),0,()),()),(u44.2.1,()))))))))else none)))))
abbrev nc:Type:=ACj×ACn
def Vj(CP CT:Int)(BQ:Bool)(p1:ACa)(b0:AAH)(b1:AAQ)(b2:AAH)(b3:AAk)(b4:AAt)(b5:AAu)(b6:AA2)(b7:AAs):Option nc:=
 (CN p1.2.1 0 1).bind fun u1=>
 cond (!u1.1.1)
  (some (((((),CP,(),(),(),CT,(),(),(),(),BQ,()),2,()),()),(b0,b1,b2,b3,b4,b5,b6,b7,())))
 (if(0:Int)≤p1.2.1∧p1.2.1<(b6.length:Int)then(
 if(0:Int)≤p1.2.1∧p1.2.1<(b6.length:Int)then(
 if(0:Int)≤p1.2.1∧p1.2.1<(b6.length:Int)then(
 (cU (b0,CP,b1,b2,b3,CT,b4,b5,b6,b7,BQ,()) ((b6.getD (p1.2.1.toNat) (0,0,[],())).1)).bind fun u3=>
 (P5 (b0,CP,b1,b2,b3,CT,b4,b5,b6,b7,BQ,()) ((b6.getD (p1.2.1.toNat) (0,0,[],())).1,(b6.getD (p1.2.1.toNat) (0,0,[],())).2.1,(b6.getD (p1.2.1.toNat) (0,0,[],())).2.2.1,()) p1.2.2.1).bind fun u4=>
 (Px (b0,CP,()) (b3,CT,()) u3.1.1 ((b6.getD (p1.2.1.toNat) (0,0,[],())).1,(b6.getD (p1.2.1.toNat) (0,0,[],())).2.1,(b6.getD (p1.2.1.toNat) (0,0,[],())).2.2.1,()) u4.2.1).bind fun u5=>
 cond (u5.1.1.2.1 !=0)
  (some (((((),CP,(),(),(),CT,(),(),(),(),BQ,()),5,()),()),(b0,b1,b2,b3,b4,b5,b6,b7,())))
 (if(0:Int)≤p1.2.1∧p1.2.1<(b6.length:Int)then(
 some (((((),CP,(),(),(),CT,(),(),(),(),BQ,()),0,()),()),(b0,b1,b2,b3,b4,b5,(b6.set (p1.2.1.toNat) (u5.1.1.1.1,u5.1.1.1.2.1,u5.2.1,())),b7,())))else none))else none)else none)else none)
abbrev Nj:Type:=ACj×(List Int×AAQ×List Int×AAk×Unit×AAu×AA2×AAs×AAt×Unit)
abbrev Ut:Type:=Int→List Int→AAQ→List Int→AAk→AAt→AAu→AA2→AAs→Int→Int→Bool→Int→Int→Int→Int→List UInt8→Int→Int→Bool→List Int→AAQ→List Int→AAk→AAt→AAu→AA2→AAs→AAt→Option Nj
def XN(R5:Ut)(t7:Int)(b0:AAH)(b1:AAQ)(b2:AAH)(b3:AAk)(b4:AAt)(b5:AAu)(b6:AA2)(b7:AAs)(Dd Dt:Int)(CQ:Bool)(iv EJ cS AVh:Int)(AVE:ABs)(Dr Eb:Int)(C4:Bool)(GM:AAH)(D2:AAQ)(Gv:AAH)(Gz:AAk)(ER:AAt)(E8:AAu)(Fh:AA2)(Ui:AAs)(uW:AAt):Option Nj:=
 cond ((decide (t7<(b4.length:Int))))
  (cond (t7 !=EJ)
   (if(0:Int)≤t7∧t7<(b4.length:Int)then(
   if uW.length+1≤Ds then(
   R5 (AX (t7+1)) b0 b1 b2 b3 b4 b5 b6 b7 Dd Dt CQ iv EJ cS AVh AVE Dr Eb C4 GM D2 Gv Gz ER E8 Fh Ui (uW++[((b4.getD (t7.toNat) (0,[],())).1,(b4.getD (t7.toNat) (0,[],())).2.1,())]))else none)else none)
  (R5 (AX (t7+1)) b0 b1 b2 b3 b4 b5 b6 b7 Dd Dt CQ iv EJ cS AVh AVE Dr Eb C4 GM D2 Gv Gz ER E8 Fh Ui uW))
 (some (((((),Dd,(),(),(),Dt,(),(),(),(),CQ,()),0,()),()),(b0,b1,b2,b3,(),b5,b6,b7,uW,())))
def MZ:Nat→Ut
 |0=>fun _ _ _ _ _ _ _ _ _ _ _ _ _ _ _ _ _ _ _ _ _ _ _ _ _ _ _ _ _=>none
 |n+1=>XN (MZ n)
def Wj(R5:Ut)(CP CT:Int)(BQ:Bool)(p1:ACa)(b0:AAH)(b1:AAQ)(b2:AAH)(b3:AAk)(b4:AAt)(b5:AAu)(b6:AA2)(b7:AAs):Option Nj:=
 (K7 (b0,CP,b1,b2,b3,CT,b4,b5,b6,b7,BQ,()) p1.2.1).bind fun u1=>
 cond (!u1.1.1)
  (some (((((),CP,(),(),(),CT,(),(),(),(),BQ,()),2,()),()),(b0,b1,b2,b3,(),b5,b6,b7,b4,())))
 (R5 0 b0 b1 b2 b3 b4 b5 b6 b7 CP CT BQ p1.1 p1.2.1 p1.2.2.1 p1.2.2.2.1 p1.2.2.2.2.1 0 0 false [] [] [] [] [] [] [] [] [])
def V4(CP CT:Int)(BQ:Bool)(p1:ACa)(b0:AAH)(b1:AAQ)(b2:AAH)(b3:AAk)(b4:AAt)(b5:AAu)(b6:AA2)(b7:AAs):Option Nj:=Wj (MZ Ae) CP CT BQ p1 b0 b1 b2 b3 b4 b5 b6 b7
abbrev Ou:Type:=ACo×ACl
abbrev Rz:Type:=Int→Int→AA_→AA_→Int→Int→AA_→AA_→Int→AA_→AA_→Option Ou
def UP(R8:Rz)(t1 t7:Int)(AR AE:AA_)(Ah Ee:Int)(b2 b3:AA_)(ag:Int)(b5 b6:AA_):Option Ou:=
 cond ((decide (t7<(AR.length:Int))))
  (if(0:Int)≤t7∧t7<(AR.length:Int)then(
  cond (decide (((AR.getD (t7.toNat) (0,0,false,[],())).1)>t1))
   (if(0:Int)≤t7∧t7<(AR.length:Int)then(
   if b5.length+1≤Ds then(
   R8 t1 (AX (t7+1)) AR AE Ah Ee b2 b3 ag (b5++[((AR.getD (t7.toNat) (0,0,false,[],())).1,(AR.getD (t7.toNat) (0,0,false,[],())).2.1,(AR.getD (t7.toNat) (0,0,false,[],())).2.2.1,(AR.getD (t7.toNat) (0,0,false,[],())).2.2.2.1,())]) b6)else none)else none)
  (R8 t1 (AX (t7+1)) AR AE Ah Ee b2 b3 ag b5 b6))else none)
 (some (((((),(),ag,()),true,()),()),(b5,b6,())))
def KV:Nat→Rz
 |0=>fun _ _ _ _ _ _ _ _ _ _ _=>none
 |n+1=>UP (KV n)
def UD(R8:Rz)(p0:ACP)(p1:Int):Option Ou:=
 (Gn (p0.1,p0.2.1,p0.2.2.1,())).bind fun u1=>
 cond (!u1.1.1)
  (some (((((),(),0,()),false,()),()),([],[],())))
 ((El (p0.1,p0.2.1,p0.2.2.1,())).bind fun u2=>
 (HT p1).bind fun u3=>
 cond (!u3.1.1)
  (some (((((),(),u2.1.1.2.2.1,()),false,()),()),(u2.2.1,u2.2.2.1,())))
 (R8 p1 0 p0.1 p0.2.1 p0.2.2.1 0 [] [] u2.1.1.2.2.1 [] u2.2.2.1))
def SC(p0:ACP)(p1:Int):Option Ou:=UD (KV Ae) p0 p1
abbrev mh:Type:=ACj×ACn
def Th(CP CT:Int)(BQ:Bool)(p1:ACa)(b0:AAH)(b1:AAQ)(b2:AAH)(b3:AAk)(b4:AAt)(b5:AAu)(b6:AA2)(b7:AAs):Option mh:=
 (Hb (b0,CP,b1,b2,b3,CT,b4,b5,b6,b7,BQ,()) p1.2.1).bind fun u1=>
 cond (u1.1.1 !=0)
  (some (((((),CP,(),(),(),CT,(),(),(),(),BQ,()),u1.1.1,()),()),(b0,b1,b2,b3,b4,b5,b6,b7,())))
 (if(0:Int)≤p1.2.1∧p1.2.1<(b1.length:Int)then(
 (Mq ((b1.getD (p1.2.1.toNat) ([],[],0,())).1,(b1.getD (p1.2.1.toNat) ([],[],0,())).2.1,(b1.getD (p1.2.1.toNat) ([],[],0,())).2.2.1,()) p1.2.2.1).bind fun u2=>
 cond (p1.1==16)
  (if(0:Int)≤p1.2.1∧p1.2.1<(b1.length:Int)then(
  (SC ((b1.getD (p1.2.1.toNat) ([],[],0,())).1,(b1.getD (p1.2.1.toNat) ([],[],0,())).2.1,(b1.getD (p1.2.1.toNat) ([],[],0,())).2.2.1,()) CT).bind fun u3=>
  cond (!u3.1.1.2.1)
   (some (((((),CP,(),(),(),CT,(),(),(),(),BQ,()),4,()),()),(b0,b1,b2,b3,b4,b5,b6,b7,())))
  (if(0:Int)≤p1.2.1∧p1.2.1<(b1.length:Int)then(
  some (((((),CP,(),(),(),CT,(),(),(),(),BQ,()),0,()),()),(b0,(b1.set (p1.2.1.toNat) (u3.2.1,u3.2.2.1,u3.1.1.1.2.2.1,())),b2,b3,b4,b5,b6,b7,())))else none))else none)
 (cond (!u2.1.1.2.1)
  (some (((((),CP,(),(),(),CT,(),(),(),(),BQ,()),4,()),()),(b0,b1,b2,b3,b4,b5,b6,b7,())))
 (if(0:Int)≤p1.2.1∧p1.2.1<(b1.length:Int)then(
 some (((((),CP,(),(),(),CT,(),(),(),(),BQ,()),0,()),()),(b0,(b1.set (p1.2.1.toNat) (u2.2.1,u2.2.2.1,u2.1.1.1.2.2.1,())),b2,b3,b4,b5,b6,b7,())))else none)))else none)
abbrev ie:Type:=ACj×(List Int×AAQ×Unit×Unit×Unit×Unit×AA2×Unit×List Int×AAk×AAt×AAu×AAs×Unit)
def aX(CP CT:Int)(BQ:Bool)(p1:ACa)(b0:AAH)(b1:AAQ)(b2:AAH)(b3:AAk)(b4:AAt)(b5:AAu)(b6:AA2)(b7:AAs):Option ie:=
 cond (p1.1==1)
  ((Vv CP CT BQ (p1.1,p1.2.1,p1.2.2.1,p1.2.2.2.1,p1.2.2.2.2.1,()) b0 b1 b2 b3 b4 b5 b6 b7).bind fun u1=>
  some (((((),u1.1.1.1.2.1,(),(),(),u1.1.1.1.2.2.2.2.2.1,(),(),(),(),u1.1.1.1.2.2.2.2.2.2.2.2.2.2.1,()),u1.1.1.2.1,()),()),(u1.2.1,u1.2.2.1,(),(),(),(),u1.2.2.2.2.2.2.2.1,(),u1.2.2.2.1,u1.2.2.2.2.2.2.2.2.2.1,u1.2.2.2.2.2.2.2.2.2.2.1,u1.2.2.2.2.2.2.2.2.2.2.2.1,u1.2.2.2.2.2.2.2.2.1,())))
 (cond (p1.1==2)
  ((Xo CP CT BQ (p1.1,p1.2.1,p1.2.2.1,p1.2.2.2.1,p1.2.2.2.2.1,()) b0 b1 b2 b3 b4 b5 b6 b7).bind fun u5=>
  some (((((),u5.1.1.1.2.1,(),(),(),u5.1.1.1.2.2.2.2.2.1,(),(),(),(),u5.1.1.1.2.2.2.2.2.2.2.2.2.2.1,()),u5.1.1.2.1,()),()),(u5.2.1,u5.2.2.1,(),(),(),(),u5.2.2.2.2.2.2.2.1,(),u5.2.2.2.1,u5.2.2.2.2.1,u5.2.2.2.2.2.1,u5.2.2.2.2.2.2.1,u5.2.2.2.2.2.2.2.2.2.1,())))
 (cond (p1.1==3)
  ((Tn CP CT BQ (p1.1,p1.2.1,p1.2.2.1,p1.2.2.2.1,p1.2.2.2.2.1,()) b0 b1 b2 b3 b4 b5 b6 b7).bind fun u7=>
  some (((((),u7.1.1.1.2.1,(),(),(),u7.1.1.1.2.2.2.2.2.1,(),(),(),(),u7.1.1.1.2.2.2.2.2.2.2.2.2.2.1,()),u7.1.1.2.1,()),()),(u7.2.1,u7.2.2.1,(),(),(),(),u7.2.2.2.2.2.2.2.1,(),u7.2.2.2.1,u7.2.2.2.2.1,u7.2.2.2.2.2.1,u7.2.2.2.2.2.2.1,u7.2.2.2.2.2.2.2.2.1,())))
 (cond (p1.1==4)
  ((Ve CP CT BQ (p1.1,p1.2.1,p1.2.2.1,p1.2.2.2.1,p1.2.2.2.2.1,()) b0 b1 b2 b3 b4 b5 b6 b7).bind fun u8=>
  some (((((),u8.1.1.1.2.1,(),(),(),u8.1.1.1.2.2.2.2.2.1,(),(),(),(),u8.1.1.1.2.2.2.2.2.2.2.2.2.2.1,()),u8.1.1.2.1,()),()),(u8.2.1,u8.2.2.1,(),(),(),(),u8.2.2.2.2.2.2.2.1,(),u8.2.2.2.1,u8.2.2.2.2.1,u8.2.2.2.2.2.1,u8.2.2.2.2.2.2.1,u8.2.2.2.2.2.2.2.2.1,())))
 (cond (p1.1==6)
  ((Vg CP CT BQ (p1.1,p1.2.1,p1.2.2.1,p1.2.2.2.1,p1.2.2.2.2.1,()) b0 b1 b2 b3 b4 b5 b6 b7).bind fun u9=>
  some (((((),u9.1.1.1.2.1,(),(),(),u9.1.1.1.2.2.2.2.2.1,(),(),(),(),u9.1.1.1.2.2.2.2.2.2.2.2.2.2.1,()),u9.1.1.2.1,()),()),(u9.2.1,u9.2.2.1,(),(),(),(),u9.2.2.2.2.2.2.2.1,(),u9.2.2.2.2.2.2.2.2.2.1,u9.2.2.2.2.1,u9.2.2.2.2.2.1,u9.2.2.2.2.2.2.1,u9.2.2.2.2.2.2.2.2.1,())))
 (cond (p1.1==7)
  ((V1 CP CT BQ (p1.1,p1.2.1,p1.2.2.1,p1.2.2.2.1,p1.2.2.2.2.1,()) b0 b1 b2 b3 b4 b5 b6 b7).bind fun Nq=>
  some (((((),Nq.1.1.1.2.1,(),(),(),Nq.1.1.1.2.2.2.2.2.1,(),(),(),(),Nq.1.1.1.2.2.2.2.2.2.2.2.2.2.1,()),Nq.1.1.2.1,()),()),(Nq.2.1,Nq.2.2.1,(),(),(),(),Nq.2.2.2.2.2.2.2.1,(),Nq.2.2.2.2.2.2.2.2.2.1,Nq.2.2.2.2.1,Nq.2.2.2.2.2.1,Nq.2.2.2.2.2.2.1,Nq.2.2.2.2.2.2.2.2.1,())))
 (cond (p1.1==8)
  ((Vw CP CT BQ b0 b1 b2 b3 b4 b5 b6 b7).bind fun VO=>
  some (((((),VO.1.1.1.2.1,(),(),(),VO.1.1.1.2.2.2.2.2.1,(),(),(),(),VO.1.1.1.2.2.2.2.2.2.2.2.2.2.1,()),VO.1.1.2.1,()),()),(VO.2.1,VO.2.2.1,(),(),(),(),VO.2.2.2.2.2.2.2.1,(),VO.2.2.2.1,VO.2.2.2.2.1,VO.2.2.2.2.2.1,VO.2.2.2.2.2.2.2.2.2.1,VO.2.2.2.2.2.2.2.2.1,())))
 (cond (p1.1==9)
  ((Vy CP CT BQ (p1.1,p1.2.1,p1.2.2.1,p1.2.2.2.1,p1.2.2.2.2.1,()) b0 b1 b2 b3 b4 b5 b6 b7).bind fun dm=>
  some (((((),dm.1.1.1.2.1,(),(),(),dm.1.1.1.2.2.2.2.2.1,(),(),(),(),dm.1.1.1.2.2.2.2.2.2.2.2.2.2.1,()),dm.1.1.2.1,()),()),(dm.2.1,dm.2.2.1,(),(),(),(),dm.2.2.2.2.2.2.2.1,(),dm.2.2.2.1,dm.2.2.2.2.1,dm.2.2.2.2.2.1,dm.2.2.2.2.2.2.1,dm.2.2.2.2.2.2.2.2.1,())))
 (cond (p1.1==10)
  ((Vu CP CT BQ b0 b1 b2 b3 b4 b5 b6 b7).bind fun kZ=>
  some (((((),kZ.1.1.1.2.1,(),(),(),kZ.1.1.1.2.2.2.2.2.1,(),(),(),(),kZ.1.1.1.2.2.2.2.2.2.2.2.2.2.1,()),kZ.1.1.2.1,()),()),(kZ.2.1,kZ.2.2.1,(),(),(),(),kZ.2.2.2.2.2.2.2.1,(),kZ.2.2.2.1,kZ.2.2.2.2.1,kZ.2.2.2.2.2.1,kZ.2.2.2.2.2.2.1,kZ.2.2.2.2.2.2.2.2.1,())))
 (cond (p1.1==11)
  ((YZ CP CT BQ (p1.1,p1.2.1,p1.2.2.1,p1.2.2.2.1,p1.2.2.2.2.1,()) b0 b1 b2 b3 b4 b5 b6 b7).bind fun lR=>
  some (((((),lR.1.1.1.2.1,(),(),(),lR.1.1.1.2.2.2.2.2.1,(),(),(),(),lR.1.1.1.2.2.2.2.2.2.2.2.2.2.1,()),lR.1.1.2.1,()),()),(lR.2.1,lR.2.2.1,(),(),(),(),lR.2.2.2.2.2.2.2.1,(),lR.2.2.2.1,lR.2.2.2.2.1,lR.2.2.2.2.2.1,lR.2.2.2.2.2.2.1,lR.2.2.2.2.2.2.2.2.1,())))
 (cond (p1.1==12)
  ((Tq CP CT BQ b0 b1 b2 b3 b4 b5 b6 b7).bind fun Y_=>
  some (((((),Y_.1.1.1.2.1,(),(),(),Y_.1.1.1.2.2.2.2.2.1,(),(),(),(),Y_.1.1.1.2.2.2.2.2.2.2.2.2.2.1,()),Y_.1.1.2.1,()),()),(Y_.2.1,Y_.2.2.1,(),(),(),(),Y_.2.2.2.2.2.2.2.1,(),Y_.2.2.2.1,Y_.2.2.2.2.2.2.2.2.2.1,Y_.2.2.2.2.2.1,Y_.2.2.2.2.2.2.2.2.2.2.1,Y_.2.2.2.2.2.2.2.2.1,())))
 (cond (p1.1==13)
  ((Vn (b0,CP,()) (b3,CT,()) p1.2.1).bind fun uh=>
  cond (!uh.1.1.2.1)
   (some (((((),CP,(),(),(),CT,(),(),(),(),BQ,()),4,()),()),(b0,b1,(),(),(),(),b6,(),b2,b3,b4,b5,b7,())))
  (some (((((),CP,(),(),(),uh.1.1.1.2.1,(),(),(),(),BQ,()),0,()),()),(b0,b1,(),(),(),(),b6,(),b2,uh.2.1,b4,b5,b7,()))))
 (cond (p1.1==14)
  ((Vj CP CT BQ (p1.1,p1.2.1,p1.2.2.1,p1.2.2.2.1,p1.2.2.2.2.1,()) b0 b1 b2 b3 b4 b5 b6 b7).bind fun XX=>
  some (((((),XX.1.1.1.2.1,(),(),(),XX.1.1.1.2.2.2.2.2.1,(),(),(),(),XX.1.1.1.2.2.2.2.2.2.2.2.2.2.1,()),XX.1.1.2.1,()),()),(XX.2.1,XX.2.2.1,(),(),(),(),XX.2.2.2.2.2.2.2.1,(),XX.2.2.2.1,XX.2.2.2.2.1,XX.2.2.2.2.2.1,XX.2.2.2.2.2.2.1,XX.2.2.2.2.2.2.2.2.1,())))
 (cond (p1.1==15)
  ((V4 CP CT BQ (p1.1,p1.2.1,p1.2.2.1,p1.2.2.2.1,p1.2.2.2.2.1,()) b0 b1 b2 b3 b4 b5 b6 b7).bind fun mj=>
  some (((((),mj.1.1.1.2.1,(),(),(),mj.1.1.1.2.2.2.2.2.1,(),(),(),(),mj.1.1.1.2.2.2.2.2.2.2.2.2.2.1,()),mj.1.1.2.1,()),()),(mj.2.1,mj.2.2.1,(),(),(),(),mj.2.2.2.2.2.2.2.1,(),mj.2.2.2.1,mj.2.2.2.2.1,mj.2.2.2.2.2.2.2.2.2.1,mj.2.2.2.2.2.2.1,mj.2.2.2.2.2.2.2.2.1,())))
 ((Th CP CT BQ (p1.1,p1.2.1,p1.2.2.1,p1.2.2.2.1,p1.2.2.2.2.1,()) b0 b1 b2 b3 b4 b5 b6 b7).bind fun lQ=>
 some (((((),lQ.1.1.1.2.1,(),(),(),lQ.1.1.1.2.2.2.2.2.1,(),(),(),(),lQ.1.1.1.2.2.2.2.2.2.2.2.2.2.1,()),lQ.1.1.2.1,()),()),(lQ.2.1,lQ.2.2.1,(),(),(),(),lQ.2.2.2.2.2.2.2.1,(),lQ.2.2.2.1,lQ.2.2.2.2.1,lQ.2.2.2.2.2.1,lQ.2.2.2.2.2.2.1,lQ.2.2.2.2.2.2.2.2.1,()))))))))))))))))
abbrev JF:Type:=ACj×ACn
def HY(p0:ABS)(p1:ACa):Option JF:=
 (Rm (p0.1,p0.2.1,p0.2.2.1,p0.2.2.2.1,p0.2.2.2.2.1,p0.2.2.2.2.2.1,p0.2.2.2.2.2.2.1,p0.2.2.2.2.2.2.2.1,p0.2.2.2.2.2.2.2.2.1,p0.2.2.2.2.2.2.2.2.2.1,p0.2.2.2.2.2.2.2.2.2.2.1,())).bind fun u1=>
 cond (!u1.1.1)
  (some (((((),0,(),(),(),0,(),(),(),(),false,()),1,()),()),([],[],[],[],[],[],[],[],())))
 ((YN (p1.1,p1.2.1,p1.2.2.1,p1.2.2.2.1,p1.2.2.2.2.1,())).bind fun u2=>
 cond (!u2.1.1)
  (some (((((),0,(),(),(),0,(),(),(),(),false,()),1,()),()),([],[],[],[],[],[],[],[],())))
 ((Og (p0.1,p0.2.1,p0.2.2.1,p0.2.2.2.1,p0.2.2.2.2.1,p0.2.2.2.2.2.1,p0.2.2.2.2.2.2.1,p0.2.2.2.2.2.2.2.1,p0.2.2.2.2.2.2.2.2.1,p0.2.2.2.2.2.2.2.2.2.1,p0.2.2.2.2.2.2.2.2.2.2.1,())).bind fun u3=>
 (aX u3.1.1.2.1 u3.1.1.2.2.2.2.2.1 u3.1.1.2.2.2.2.2.2.2.2.2.2.1 (p1.1,p1.2.1,p1.2.2.1,p1.2.2.2.1,p1.2.2.2.2.1,()) u3.2.1 u3.2.2.1 u3.2.2.2.1 u3.2.2.2.2.1 u3.2.2.2.2.2.1 u3.2.2.2.2.2.2.1 u3.2.2.2.2.2.2.2.1 u3.2.2.2.2.2.2.2.2.1).bind fun u4=>
 cond (u4.1.1.2.1 !=0)
  ((Og (p0.1,p0.2.1,p0.2.2.1,p0.2.2.2.1,p0.2.2.2.2.1,p0.2.2.2.2.2.1,p0.2.2.2.2.2.2.1,p0.2.2.2.2.2.2.2.1,p0.2.2.2.2.2.2.2.2.1,p0.2.2.2.2.2.2.2.2.2.1,p0.2.2.2.2.2.2.2.2.2.2.1,())).bind fun EW=>
  some (((((),EW.1.1.2.1,(),(),(),EW.1.1.2.2.2.2.2.1,(),(),(),(),EW.1.1.2.2.2.2.2.2.2.2.2.2.1,()),u4.1.1.2.1,()),()),(EW.2.1,EW.2.2.1,EW.2.2.2.1,EW.2.2.2.2.1,EW.2.2.2.2.2.1,EW.2.2.2.2.2.2.1,EW.2.2.2.2.2.2.2.1,EW.2.2.2.2.2.2.2.2.1,())))
 (some (((((),u4.1.1.1.2.1,(),(),(),u4.1.1.1.2.2.2.2.2.1,(),(),(),(),u4.1.1.1.2.2.2.2.2.2.2.2.2.2.1,()),u4.1.1.2.1,()),()),(u4.2.1,u4.2.2.1,u4.2.2.2.2.2.2.2.2.2.1,u4.2.2.2.2.2.2.2.2.2.2.1,u4.2.2.2.2.2.2.2.2.2.2.2.1,u4.2.2.2.2.2.2.2.2.2.2.2.2.1,u4.2.2.2.2.2.2.2.1,u4.2.2.2.2.2.2.2.2.2.2.2.2.2.1,())))))
abbrev Ha:Type:=ACL×(AAs×Unit)
abbrev Ys:Type:=AAs→Int→Int→List Int→Int→AAQ→List Int→AAk→Int→AAt→AAu→AA2→AAs→Bool→AAs→Option Ha
def Zm(R5:Ys)(t12:AAs)(t13 t14:Int)(AR:AAH)(AE:Int)(Ah:AAQ)(Bc:AAH)(Br:AAk)(AU:Int)(Bp:AAt)(Bm:AAu)(CG:AA2)(Bk:AAs)(AK:Bool)(b1:AAs):Option Ha:=
 cond (decide (t14<t13))
  (if(0:Int)≤t14∧t14<(t12.length:Int)then(
  cond (((t12.getD (t14.toNat) (0,[],false,())).2.2.1))
   (cond (decide (((t12.getD (t14.toNat) (0,[],false,())).1)>AU))
    (if b1.length+1≤Ds then(
    R5 t12 t13 (AX (t14+1)) AR AE Ah Bc Br AU Bp Bm CG Bk AK (b1++[((t12.getD (t14.toNat) (0,[],false,())).1,(t12.getD (t14.toNat) (0,[],false,())).2.1,(t12.getD (t14.toNat) (0,[],false,())).2.2.1,())]))else none)
   (R5 t12 t13 (AX (t14+1)) AR AE Ah Bc Br AU Bp Bm CG Bk AK b1))
  (R5 t12 t13 (AX (t14+1)) AR AE Ah Bc Br AU Bp Bm CG Bk AK b1))else none)
 (some (((),()),(b1,())))
def PY:Nat→Ys
 |0=>fun _ _ _ _ _ _ _ _ _ _ _ _ _ _ _=>none
 |n+1=>Zm (PY n)
def Z8(R5:Ys)(p0:ABS):Option Ha:=
 (Fm (p0.1,p0.2.1,p0.2.2.1,p0.2.2.2.1,p0.2.2.2.2.1,p0.2.2.2.2.2.1,p0.2.2.2.2.2.2.1,p0.2.2.2.2.2.2.2.1,p0.2.2.2.2.2.2.2.2.1,p0.2.2.2.2.2.2.2.2.2.1,p0.2.2.2.2.2.2.2.2.2.2.1,())).bind fun u1=>
 cond (!u1.1.1)
  (some (((),()),([],())))
 (R5 p0.2.2.2.2.2.2.2.2.2.1 (p0.2.2.2.2.2.2.2.2.2.1.length:Int) 0 p0.1 p0.2.1 p0.2.2.1 p0.2.2.2.1 p0.2.2.2.2.1 p0.2.2.2.2.2.1 p0.2.2.2.2.2.2.1 p0.2.2.2.2.2.2.2.1 p0.2.2.2.2.2.2.2.2.1 p0.2.2.2.2.2.2.2.2.2.1 p0.2.2.2.2.2.2.2.2.2.2.1 [])
def L0(p0:ABS):Option Ha:=Z8 (PY Ae) p0
abbrev HX:Type:=ACL×(AAs×Unit)
abbrev Yt:Type:=Int→List Int→Int→AAQ→List Int→AAk→Int→AAt→AAu→AA2→AAs→Bool→AAs→Option HX
def TQ(R3:Yt)(t4:Int)(AR:AAH)(AE:Int)(Ah:AAQ)(Bc:AAH)(Br:AAk)(AU:Int)(Bp:AAt)(Bm:AAu)(CG:AA2)(Bk:AAs)(AK:Bool)(b1:AAs):Option HX:=
 cond ((decide (t4<(Bk.length:Int))))
  ((Rm (AR,AE,Ah,Bc,Br,AU,Bp,Bm,CG,Bk,AK,())).bind fun u2=>
  cond (u2.1.1)
   (if(0:Int)≤t4∧t4<(Bk.length:Int)then(
   cond (((Bk.getD (t4.toNat) (0,[],false,())).2.2.1))
    (if(0:Int)≤t4∧t4<(Bk.length:Int)then(
    cond (decide (((Bk.getD (t4.toNat) (0,[],false,())).1)>AU))
     (if(0:Int)≤t4∧t4<(Bk.length:Int)then(
     if b1.length+1≤Ds then(
     R3 (AX (t4+1)) AR AE Ah Bc Br AU Bp Bm CG Bk AK (b1++[((Bk.getD (t4.toNat) (0,[],false,())).1,(Bk.getD (t4.toNat) (0,[],false,())).2.1,(Bk.getD (t4.toNat) (0,[],false,())).2.2.1,())]))else none)else none)
    (R3 (AX (t4+1)) AR AE Ah Bc Br AU Bp Bm CG Bk AK b1))else none)
   (R3 (AX (t4+1)) AR AE Ah Bc Br AU Bp Bm CG Bk AK b1))else none)
  (some (((),()),(b1,()))))
 (some (((),()),(b1,())))
def M3:Nat→Yt
 |0=>fun _ _ _ _ _ _ _ _ _ _ _ _ _=>none
 |n+1=>TQ (M3 n)
def ZV(R3:Yt)(p0:ABS):Option HX:=
 R3 0 p0.1 p0.2.1 p0.2.2.1 p0.2.2.2.1 p0.2.2.2.2.1 p0.2.2.2.2.2.1 p0.2.2.2.2.2.2.1 p0.2.2.2.2.2.2.2.1 p0.2.2.2.2.2.2.2.2.1 p0.2.2.2.2.2.2.2.2.2.1 p0.2.2.2.2.2.2.2.2.2.2.1 []
def Kg(p0:ABS):Option HX:=ZV (M3 Ae) p0
abbrev bp:Type:=AEX×ACt
def EK(p0:ABO)(p1:ACC):Option bp:=
 (Kc (p0.1,p0.2.1,()) (p1.1,p1.2.1,())).bind fun u1=>
 cond (!u1.1.1)
  (some ((((),0,()),()),([],())))
 ((ET (p1.1,p1.2.1,())).bind fun u2=>
 some ((((),u2.1.1.2.1,()),()),(u2.2.1,())))
abbrev cr:Type:=(AFr×Unit)×ACt
def MO(p0:ABO)(p1:ACC)(p2:AAH):Option cr:=
 (Kc (p0.1,p0.2.1,()) (p1.1,p1.2.1,())).bind fun u1=>
 cond (!u1.1.1)
  ((EK (p0.1,p0.2.1,()) (p1.1,p1.2.1,())).bind fun u2=>
  some (((((),u2.1.1.2.1,()),0,false,()),()),(u2.2.1,())))
 ((Ge (p0.1,p0.2.1,()) p2).bind fun u3=>
 cond (!u3.1.1)
  ((EK (p0.1,p0.2.1,()) (p1.1,p1.2.1,())).bind fun u4=>
  some (((((),u4.1.1.2.1,()),0,false,()),()),(u4.2.1,())))
 (cond (((p1.1.length:Int)==30))
  ((EK (p0.1,p0.2.1,()) (p1.1,p1.2.1,())).bind fun u6=>
  some (((((),u6.1.1.2.1,()),0,false,()),()),(u6.2.1,())))
 ((ET (p1.1,p1.2.1,())).bind fun u7=>
 (DG p2).bind fun u8=>
 if u7.2.1.length+1≤Ds then(
 let x9:AAk:=u7.2.1++[(u8.2.1,false,0,())]
 some (((((),u7.1.1.2.1,()),(x9.length:Int),true,()),()),(x9,())))else none)))
abbrev YD:Type:=ABp×(ACr×List Int×AAQ×List Int×Unit×Unit×Unit×AA2×AAs×AAk×AAt×AAu×Unit)
def J5(p1 AE AU:Int)(AK:Bool)(b1:AAH)(b2:AAQ)(b3:AAH)(b4:AAk)(b5:AAt)(b6:AAu)(b7:AA2)(b8:AAs):Option YD:=
 cond (((b5.length:Int)==4))
  (some ((4,()),(((),AE,(),(),(),AU,(),(),(),(),AK,()),b1,b2,b3,(),(),(),b7,b8,b4,b5,b6,())))
 ((He p1).bind fun u2=>
 (MO (b1,AE,()) (b4,AU,()) u2.2.1).bind fun u3=>
 cond (!u3.1.1.2.2.1)
  (some ((4,()),(((),AE,(),(),(),AU,(),(),(),(),AK,()),b1,b2,b3,(),(),(),b7,b8,b4,b5,b6,())))
 (if b5.length+1≤Ds then(
 some ((0,()),(((),AE,(),(),(),u3.1.1.1.2.1,(),(),(),(),AK,()),b1,b2,b3,(),(),(),b7,b8,u3.2.1,(b5++[(u3.1.1.2.1,[],())]),[],())))else none))
abbrev W3:Type:=AFh×ACv
def EG(p0:ABO)(p1:ACJ):Option W3:=
 (GR (p0.1,p0.2.1,()) (p1.1,p1.2.1,())).bind fun u1=>
 cond (!u1.1.1)
  (some (((0,(),()),()),([],())))
 ((Fo (p1.1,p1.2.1,())).bind fun u2=>
 some (((u2.1.1.1,(),()),()),(u2.2.1,())))
abbrev ZY:Type:=(AFs×Unit)×ACv
def JD(p0:ABO)(p1:ACJ)(p2:ABs):Option ZY:=
 (Fo (p1.1,p1.2.1,())).bind fun u1=>
 if u1.2.1.length+1≤Ds then(
 let x2:ACH:=u1.2.1++[(p2,[],false,())]
 (GR (p0.1,p0.2.1,()) (p1.1,p1.2.1,())).bind fun u3=>
 cond (!u3.1.1)
  ((EG (p0.1,p0.2.1,()) (p1.1,p1.2.1,())).bind fun u4=>
  some ((((u4.1.1.1,(),()),0,false,()),()),(u4.2.1,())))
 ((GR (p0.1,p0.2.1,()) (u1.1.1.1,x2,())).bind fun u5=>
 cond (!u5.1.1)
  ((EG (p0.1,p0.2.1,()) (p1.1,p1.2.1,())).bind fun u6=>
  some ((((u6.1.1.1,(),()),0,false,()),()),(u6.2.1,())))
 (some ((((u1.1.1.1,(),()),(x2.length:Int),true,()),()),(x2,())))))else none
abbrev bt:Type:=ABp×Unit
def Kw(p0:AFj)(p1:Int):Option bt:=
 some ((AX (p0.1-p1),()),())
abbrev BI:Type:=ADw×Unit
abbrev Bu:Type:=AAs→Int→Int→Int→Int→Option BI
def Cm(R3:Bu)(t0:AAs)(t1 t8 t9 t10:Int):Option BI:=
 cond (decide (t9<t10))
  (let x2:Int:=AX ((IntKind.wrap .u64 (AX (t9+t10))).fdiv (2^1))
  if(0:Int)≤x2∧x2<(t0.length:Int)then(
  (Kw ((t0.getD (x2.toNat) (0,[],false,())).1,(t0.getD (x2.toNat) (0,[],false,())).2.1,(t0.getD (x2.toNat) (0,[],false,())).2.2.1,()) t1).bind fun u3=>
  cond (decide (u3.1.1<0))
   (R3 t0 t1 t8 (AX (x2+1)) t10)
  (R3 t0 t1 t8 t9 x2))else none)
 (cond (decide (t9<t8))
  (if(0:Int)≤t9∧t9<(t0.length:Int)then(
  (Kw ((t0.getD (t9.toNat) (0,[],false,())).1,(t0.getD (t9.toNat) (0,[],false,())).2.1,(t0.getD (t9.toNat) (0,[],false,())).2.2.1,()) t1).bind fun u4=>
  some (((t9,u4.1.1==0,()),()),()))else none)
 (some (((t9,false,()),()),())))
def Av:Nat→Bu
 |0=>fun _ _ _ _ _=>none
 |n+1=>Cm (Av n)
def Ck(R3:Bu)(p0:AAs)(p1:Int):Option BI:=
 R3 p0 p1 (p0.length:Int) 0 (p0.length:Int)
def BM(p0:AAs)(p1:Int):Option BI:=Ck (Av Ae) p0 p1
abbrev U2:Type:=ADw×Unit
def H4(p0:ABS)(p1:Int):Option U2:=
 (BM p0.2.2.2.2.2.2.2.2.2.1 p1).bind fun u1=>
 some (((u1.1.1.1,u1.1.1.2.1,()),()),())
abbrev Io:Type:=ACL×(Unit×AAs×Unit)
def ED(p1:Int)(p2 b0:AAs):Option Io:=(wj p1 p2 b0).map fun l=>(((),()),((),l,()))
abbrev Ze:Type:=ABp×(ACr×List Int×AAQ×List Int×AAk×AAt×AAu×AA2×Unit×AAs×Unit)
def Lo(p1:Int)(p2:ABs)(AE AU:Int)(AK:Bool)(b1:AAH)(b2:AAQ)(b3:AAH)(b4:AAk)(b5:AAt)(b6:AAu)(b7:AA2)(b8:AAs):Option Ze:=
 (A4 p1 0 (AX ((b5.length:Int)-1))).bind fun u2=>
 cond (!u2.1.1)
  (some ((2,()),(((),AE,(),(),(),AU,(),(),(),(),AK,()),b1,b2,b3,b4,b5,b6,b7,(),b8,())))
 (if(0:Int)≤p1∧p1<(b5.length:Int)then(
 (JD (b1,AE,()) ((b5.getD (p1.toNat) (0,[],())).1,(b5.getD (p1.toNat) (0,[],())).2.1,()) p2).bind fun u3=>
 (Dn u3.1.1.1.1 u3.1.1.2.1).bind fun u4=>
 (H4 (b1,AE,b2,b3,b4,AU,b5,b6,b7,b8,AK,()) u4.1.1.1).bind fun u5=>
 cond (!u3.1.1.2.2.1)
  (some ((4,()),(((),AE,(),(),(),AU,(),(),(),(),AK,()),b1,b2,b3,b4,b5,b6,b7,(),b8,())))
 (cond (((b8.length:Int)==120))
  (some ((4,()),(((),AE,(),(),(),AU,(),(),(),(),AK,()),b1,b2,b3,b4,b5,b6,b7,(),b8,())))
 (cond (u5.1.1.2.1)
  (some ((4,()),(((),AE,(),(),(),AU,(),(),(),(),AK,()),b1,b2,b3,b4,b5,b6,b7,(),b8,())))
 (if(0:Int)≤p1∧p1<(b5.length:Int)then(
 (ED u5.1.1.1 [(u4.1.1.1,p2,false,())] b8).bind fun u8=>
 some ((0,()),(((),AE,(),(),(),AU,(),(),(),(),AK,()),b1,b2,b3,b4,(b5.set (p1.toNat) (u3.1.1.1.1,u3.2.1,())),b6,b7,(),u8.2.2.1,())))else none))))else none)
abbrev bz:Type:=ABp×Unit
def EM(p0:ABS)(p1:Int):Option bz:=
 (A4 p1 0 (AX ((p0.2.2.1.length:Int)-1))).bind fun u2=>
 cond (!u2.1.1)
  (some ((2,()),()))
 ((C8 p0 p1).bind fun u3=>
 cond (u3.1.1)
  (some ((3,()),()))
 (some ((0,()),())))
abbrev bL:Type:=ACL×ACb
def Il(p0:ACC)(p1:Int):Option bL:=
 (A4 p1 1 (p0.1.length:Int)).bind fun u1=>
 cond (!u1.1.1)
  (some (((),()),([],())))
 (if(0:Int)≤AX (p1-1)∧AX (p1-1)<(p0.1.length:Int)then(
 (DG ((p0.1.getD ((AX (p1-1)).toNat) ([],false,0,())).1)).bind fun u2=>
 some (((),()),(u2.2.1,())))else none)
abbrev H6:Type:=ABp×Unit
def Dg(p0:ABS)(p1 p2:Int):Option H6:=
 (EM p0 p1).bind fun u1=>
 cond (u1.1.1==0)
  ((Il (p0.2.2.2.2.1,p0.2.2.2.2.2.1,()) p2).bind fun u2=>
  (Bt u2.2.1 p1).bind fun u3=>
  cond (!u3.1.1)
   (some ((2,()),()))
  (some ((u1.1.1,()),())))
 (some ((u1.1.1,()),()))
abbrev iK:Type:=AFg×ACl
def Dk(p0:ACP):Option iK:=
 (FD (p0.1,p0.2.1,p0.2.2.1,())).bind fun u1=>
 cond (!u1.1.1)
  (some ((((),(),0,()),()),([],[],())))
 ((C9 (p0.1,p0.2.1,p0.2.2.1,())).bind fun u2=>
 some ((((),(),u2.1.1.2.2.1,()),()),(u2.2.1,u2.2.2.1,())))
abbrev mm:Type:=ACo×ACl
def Tc(p0:ACP)(p1:ACg):Option mm:=
 (FD (p0.1,p0.2.1,p0.2.2.1,())).bind fun u1=>
 cond (!u1.1.1)
  ((Dk (p0.1,p0.2.1,p0.2.2.1,())).bind fun u2=>
  some (((((),(),u2.1.1.2.2.1,()),false,()),()),(u2.2.1,u2.2.2.1,())))
 ((Lw (p1.1,p1.2.1,p1.2.2.1,p1.2.2.2.1,())).bind fun u3=>
 cond (!u3.1.1)
  ((Dk (p0.1,p0.2.1,p0.2.2.1,())).bind fun u4=>
  some (((((),(),u4.1.1.2.2.1,()),false,()),()),(u4.2.1,u4.2.2.1,())))
 (cond ((p0.2.1.length:Int)==20)
  ((Dk (p0.1,p0.2.1,p0.2.2.1,())).bind fun u6=>
  some (((((),(),u6.1.1.2.2.1,()),false,()),()),(u6.2.1,u6.2.2.1,())))
 (cond (p1.2.1==0)
  ((FB p1.1).bind fun u7=>
  cond ((decide (u7.1.1≤p0.2.2.1)))
   ((C9 (p0.1,p0.2.1,p0.2.2.1,())).bind fun u9=>
   some (((((),(),u9.1.1.2.2.1,()),false,()),()),(u9.2.1,u9.2.2.1,())))
  (cond (decide (p1.2.1>0))
   (cond ((decide (p1.2.1≤p0.2.2.1)))
    ((C9 (p0.1,p0.2.1,p0.2.2.1,())).bind fun Nq=>
    some (((((),(),Nq.1.1.2.2.1,()),false,()),()),(Nq.2.1,Nq.2.2.1,())))
   ((C9 (p0.1,p0.2.1,p0.2.2.1,())).bind fun bS=>
   if bS.2.2.1.length+1≤Ds then(
   some (((((),(),bS.1.1.2.2.1,()),true,()),()),(bS.2.1,(bS.2.2.1++[(p1.1,p1.2.1,p1.2.2.1,p1.2.2.2.1,())]),())))else none))
  ((C9 (p0.1,p0.2.1,p0.2.2.1,())).bind fun VO=>
  if VO.2.2.1.length+1≤Ds then(
  some (((((),(),VO.1.1.2.2.1,()),true,()),()),(VO.2.1,(VO.2.2.1++[(p1.1,p1.2.1,p1.2.2.1,p1.2.2.2.1,())]),())))else none)))
 (cond (decide (p1.2.1>0))
  (cond ((decide (p1.2.1≤p0.2.2.1)))
   ((C9 (p0.1,p0.2.1,p0.2.2.1,())).bind fun dm=>
   some (((((),(),dm.1.1.2.2.1,()),false,()),()),(dm.2.1,dm.2.2.1,())))
  ((C9 (p0.1,p0.2.1,p0.2.2.1,())).bind fun wZ=>
  if wZ.2.2.1.length+1≤Ds then(
  some (((((),(),wZ.1.1.2.2.1,()),true,()),()),(wZ.2.1,(wZ.2.2.1++[(p1.1,p1.2.1,p1.2.2.1,p1.2.2.2.1,())]),())))else none))
 ((C9 (p0.1,p0.2.1,p0.2.2.1,())).bind fun SO=>
 if SO.2.2.1.length+1≤Ds then(
 some (((((),(),SO.1.1.2.2.1,()),true,()),()),(SO.2.1,(SO.2.2.1++[(p1.1,p1.2.1,p1.2.2.1,p1.2.2.2.1,())]),())))else none)))))
abbrev cK:Type:=ABp×Unit
def J0(p0:Bool):Option cK:=
 cond (p0)
  (some ((0,()),()))
 (some ((4,()),()))
abbrev Z4:Type:=ABp×ACq
def Lj(p1:Int)(p2:ACg)(AE AU:Int)(AK:Bool)(b1:AAH)(b2:AAQ)(b3:AAH)(b4:AAk)(b5:AAt)(b6:AAu)(b7:AA2)(b8:AAs):Option Z4:=
 if(0:Int)≤p1∧p1<(b2.length:Int)then(
 (Tc ((b2.getD (p1.toNat) ([],[],0,())).1,(b2.getD (p1.toNat) ([],[],0,())).2.1,(b2.getD (p1.toNat) ([],[],0,())).2.2.1,()) (p2.1,p2.2.1,p2.2.2.1,p2.2.2.2.1,())).bind fun u1=>
 cond (u1.1.1.2.1)
  (if(0:Int)≤p1∧p1<(b2.length:Int)then(
  (J0 u1.1.1.2.1).bind fun u3=>
  some ((u3.1.1,()),(((),AE,(),(),(),AU,(),(),(),(),AK,()),b1,(b2.set (p1.toNat) (u1.2.1,u1.2.2.1,u1.1.1.1.2.2.1,())),b3,b4,b5,b6,b7,b8,())))else none)
 ((J0 u1.1.1.2.1).bind fun u4=>
 some ((u4.1.1,()),(((),AE,(),(),(),AU,(),(),(),(),AK,()),b1,b2,b3,b4,b5,b6,b7,b8,()))))else none
abbrev fi:Type:=ABp×ACq
def I2(p1:ACa)(AE AU:Int)(AK:Bool)(b1:AAH)(b2:AAQ)(b3:AAH)(b4:AAk)(b5:AAt)(b6:AAu)(b7:AA2)(b8:AAs):Option fi:=
 (A4 p1.2.1 0 (AX ((b5.length:Int)-1))).bind fun u2=>
 cond (!u2.1.1)
  (some ((2,()),(((),AE,(),(),(),AU,(),(),(),(),AK,()),b1,b2,b3,b4,b5,b6,b7,b8,())))
 (if(0:Int)≤p1.2.1∧p1.2.1<(b5.length:Int)then(
 (A4 p1.2.2.1 1 (((b5.getD (p1.2.1.toNat) (0,[],())).2.1).length:Int)).bind fun u4=>
 cond (!u4.1.1)
  (some ((2,()),(((),AE,(),(),(),AU,(),(),(),(),AK,()),b1,b2,b3,b4,b5,b6,b7,b8,())))
 ((Dg (b1,AE,b2,b3,b4,AU,b5,b6,b7,b8,AK,()) p1.2.2.2.1 ((b5.getD (p1.2.1.toNat) (0,[],())).1)).bind fun u6=>
 cond (u6.1.1 !=0)
  (some ((u6.1.1,()),(((),AE,(),(),(),AU,(),(),(),(),AK,()),b1,b2,b3,b4,b5,b6,b7,b8,())))
 ((Dn ((b5.getD (p1.2.1.toNat) (0,[],())).1) p1.2.2.1).bind fun u8=>
 if(0:Int)≤AX (p1.2.2.1-1)∧AX (p1.2.2.1-1)<(((b5.getD (p1.2.1.toNat) (0,[],())).2.1).length:Int)then(
 (Lj p1.2.2.2.1 (u8.1.1.1,0,false,((((b5.getD (p1.2.1.toNat) (0,[],())).2.1).getD ((AX (p1.2.2.1-1)).toNat) ([],[],false,())).1),()) AE AU AK b1 b2 b3 b4 b5 b6 b7 b8).bind fun EW=>
 some ((EW.1.1,()),(((),EW.2.1.2.1,(),(),(),EW.2.1.2.2.2.2.2.1,(),(),(),(),EW.2.1.2.2.2.2.2.2.2.2.2.2.1,()),EW.2.2.1,EW.2.2.2.1,EW.2.2.2.2.1,EW.2.2.2.2.2.1,EW.2.2.2.2.2.2.1,EW.2.2.2.2.2.2.2.1,EW.2.2.2.2.2.2.2.2.1,EW.2.2.2.2.2.2.2.2.2.1,())))else none)))else none)
abbrev O4:Type:=ACL×AFk
def Du(p1:Int)(p2 b0:AA_):Option O4:=(wj p1 p2 b0).map fun l=>(((),()),((),l,()))
abbrev wD:Type:=ACL×AFk
def WA(p1:ACg)(b0:AA_):Option wD:=
 (Ru b0 p1.1).bind fun u1=>
 cond (!u1.1.1.2.1)
  ((Du u1.1.1.1 [(p1.1,p1.2.1,p1.2.2.1,p1.2.2.2.1,())] b0).bind fun u2=>
  some (((),()),((),u2.2.2.1,())))
 (if(0:Int)≤u1.1.1.1∧u1.1.1.1<(b0.length:Int)then(
 (Q2 ((b0.getD (u1.1.1.1.toNat) (0,0,false,[],())).1,(b0.getD (u1.1.1.1.toNat) (0,0,false,[],())).2.1,(b0.getD (u1.1.1.1.toNat) (0,0,false,[],())).2.2.1,(b0.getD (u1.1.1.1.toNat) (0,0,false,[],())).2.2.2.1,()) (p1.1,p1.2.1,p1.2.2.1,p1.2.2.2.1,())).bind fun u3=>
 if(0:Int)≤u1.1.1.1∧u1.1.1.1<(b0.length:Int)then(
 some (((),()),((),(b0.set (u1.1.1.1.toNat) (u3.1.1.1,u3.1.1.2.1,u3.1.1.2.2.1,u3.1.1.2.2.2.1,())),())))else none)else none)
abbrev NV:Type:=ACo×ACl
abbrev QG:Type:=Int→AA_→Int→Int→AA_→AA_→Int→Int→AA_→AA_→Int→AA_→AA_→Option NV
def Si(R6:QG)(t1:Int)(t23:AA_)(t24 t25:Int)(AR AE:AA_)(Ah Ee:Int)(b2 b3:AA_)(ag:Int)(b5 b6:AA_):Option NV:=
 cond (decide (t25<t24))
  (if(0:Int)≤t25∧t25<(t23.length:Int)then(
  if t25<0 then none else(
  cond (((br .i64 (t1.fdiv (2^(min t25.toNat 64))) 1)==1))
   ((WA ((t23.getD (t25.toNat) (0,0,false,[],())).1,(t23.getD (t25.toNat) (0,0,false,[],())).2.1,(t23.getD (t25.toNat) (0,0,false,[],())).2.2.1,(t23.getD (t25.toNat) (0,0,false,[],())).2.2.2.1,()) b5).bind fun u9=>
   R6 t1 t23 t24 (AX (t25+1)) AR AE Ah Ee b2 b3 ag u9.2.2.1 b6)
  (R6 t1 t23 t24 (AX (t25+1)) AR AE Ah Ee b2 b3 ag b5 b6)))else none)
 (cond ((decide ((b5.length:Int)>200)))
  ((C9 (AR,AE,Ah,())).bind fun Nq=>
  some (((((),(),Nq.1.1.2.2.1,()),false,()),()),(Nq.2.1,Nq.2.2.1,())))
 (some (((((),(),ag,()),true,()),()),(b5,b6,()))))
def JV:Nat→QG
 |0=>fun _ _ _ _ _ _ _ _ _ _ _ _ _=>none
 |n+1=>Si (JV n)
def SX(R6:QG)(p0:ACP)(p1:Int):Option NV:=
 (FD (p0.1,p0.2.1,p0.2.2.1,())).bind fun u1=>
 cond (!u1.1.1)
  ((Dk (p0.1,p0.2.1,p0.2.2.1,())).bind fun u2=>
  some (((((),(),u2.1.1.2.2.1,()),false,()),()),(u2.2.1,u2.2.2.1,())))
 ((A4 p1 0 1048575).bind fun u3=>
 cond (!u3.1.1)
  ((Dk (p0.1,p0.2.1,p0.2.2.1,())).bind fun u4=>
  some (((((),(),u4.1.1.2.2.1,()),false,()),()),(u4.2.1,u4.2.2.1,())))
 ((C9 (p0.1,p0.2.1,p0.2.2.1,())).bind fun u5=>
 R6 p1 p0.2.1 (p0.2.1.length:Int) 0 p0.1 p0.2.1 p0.2.2.1 0 [] [] u5.1.1.2.2.1 u5.2.1 []))
def MY(p0:ACP)(p1:Int):Option NV:=SX (JV Ae) p0 p1
abbrev j_:Type:=ACo×ACl
def Ni(p0:ACP):Option j_:=
 (MY (p0.1,p0.2.1,p0.2.2.1,()) 1048575).bind fun u1=>
 some (((((),(),u1.1.1.1.2.2.1,()),u1.1.1.2.1,()),()),(u1.2.1,u1.2.2.1,()))
abbrev mB:Type:=ABZ×Unit
def cmp_isNaN_int(p0:Int):Option mB:=
 some ((p0 !=p0,()),())
abbrev o4:Type:=ABZ×Unit
def cmp_Less_int(p0 p1:Int):Option o4:=
 (cmp_isNaN_int p0).bind fun u1=>
 cond (u1.1.1)
  ((cmp_isNaN_int p1).bind fun u2=>
  cond (!u2.1.1)
   (some ((true,()),()))
  (some ((decide (p0<p1),()),())))
 (some ((decide (p0<p1),()),()))
abbrev f_:Type:=ABZ×Unit
def O8(p0:Int):Option f_:=
 some ((p0 !=p0,()),())
abbrev FN:Type:=ADw×Unit
abbrev HN:Type:=List Int→Int→Int→Int→Int→Option FN
def Jm(R3:HN)(t0:AAH)(t1 t6 t7 t8:Int):Option FN:=
 cond (decide (t7<t8))
  (let x2:Int:=AX ((IntKind.wrap .u64 (AX (t7+t8))).fdiv (2^1))
  if(0:Int)≤x2∧x2<(t0.length:Int)then(
  (cmp_Less_int (t0.getD (x2.toNat) 0) t1).bind fun u4=>
  cond (u4.1.1)
   (R3 t0 t1 t6 (AX (x2+1)) t8)
  (R3 t0 t1 t6 t7 x2))else none)
 (cond (decide (t7<t6))
  (if(0:Int)≤t7∧t7<(t0.length:Int)then(
  cond ((t0.getD (t7.toNat) 0)==t1)
   (some (((t7,true,()),()),()))
  (if(0:Int)≤t7∧t7<(t0.length:Int)then(
  (O8 (t0.getD (t7.toNat) 0)).bind fun u7=>
  cond (u7.1.1)
   ((O8 t1).bind fun u8=>
   some (((t7,u8.1.1,()),()),()))
  (some (((t7,false,()),()),())))else none))else none)
 (some (((t7,false,()),()),())))
def Dp:Nat→HN
 |0=>fun _ _ _ _ _=>none
 |n+1=>Jm (Dp n)
def Jl(R3:HN)(p0:AAH)(p1:Int):Option FN:=
 R3 p0 p1 (p0.length:Int) 0 (p0.length:Int)
def GJ(p0:AAH)(p1:Int):Option FN:=Jl (Dp Ae) p0 p1
abbrev Zr:Type:=ACL×AFe
def Ji(p1:Int)(p2 b0:AAH):Option Zr:=(wj p1 p2 b0).map fun l=>(((),()),((),l,()))
abbrev mJ:Type:=ACL×ACb
def Kl(p0:AAH)(p1:Int):Option mJ:=
 (DG p0).bind fun u1=>
 (GJ u1.2.1 p1).bind fun u2=>
 cond (!u2.1.1.2.1)
  ((Ji u2.1.1.1 [p1] u1.2.1).bind fun u3=>
  some (((),()),(u3.2.2.1,())))
 (some (((),()),(u1.2.1,())))
abbrev jj:Type:=AEz×ACv
def SD(p0:ABO)(p1:ACJ)(p2 p3:Int):Option jj:=
 (GR (p0.1,p0.2.1,()) (p1.1,p1.2.1,())).bind fun u1=>
 cond (!u1.1.1)
  ((EG (p0.1,p0.2.1,()) (p1.1,p1.2.1,())).bind fun u2=>
  some ((((u2.1.1.1,(),()),false,()),()),(u2.2.1,())))
 ((A4 p2 1 (p1.2.1.length:Int)).bind fun u4=>
 cond (!u4.1.1)
  ((EG (p0.1,p0.2.1,()) (p1.1,p1.2.1,())).bind fun u5=>
  some ((((u5.1.1.1,(),()),false,()),()),(u5.2.1,())))
 (if(0:Int)≤AX (p2-1)∧AX (p2-1)<(p1.2.1.length:Int)then(
 cond (((p1.2.1.getD ((AX (p2-1)).toNat) ([],[],false,())).2.2.1))
  ((EG (p0.1,p0.2.1,()) (p1.1,p1.2.1,())).bind fun u7=>
  some ((((u7.1.1.1,(),()),false,()),()),(u7.2.1,())))
 ((A4 p3 0 (AX ((p0.1.length:Int)-1))).bind fun u9=>
 cond (!u9.1.1)
  ((EG (p0.1,p0.2.1,()) (p1.1,p1.2.1,())).bind fun EW=>
  some ((((EW.1.1.1,(),()),false,()),()),(EW.2.1,())))
 ((Fo (p1.1,p1.2.1,())).bind fun Nq=>
 if(0:Int)≤AX (p2-1)∧AX (p2-1)<(Nq.2.1.length:Int)then(
 (Kl ((Nq.2.1.getD ((AX (p2-1)).toNat) ([],[],false,())).2.1) p3).bind fun bS=>
 let x13:ACH:=(Nq.2.1.set ((AX (p2-1)).toNat) ((Nq.2.1.getD ((AX (p2-1)).toNat) ([],[],false,())).1,bS.2.1,(Nq.2.1.getD ((AX (p2-1)).toNat) ([],[],false,())).2.2.1,()))
 (Ge (p0.1,p0.2.1,()) ((x13.getD ((AX (p2-1)).toNat) ([],[],false,())).2.1)).bind fun VO=>
 some ((((Nq.1.1.1,(),()),true,()),()),((x13.set ((AX (p2-1)).toNat) ((x13.getD ((AX (p2-1)).toNat) ([],[],false,())).1,(x13.getD ((AX (p2-1)).toNat) ([],[],false,())).2.1,VO.1.1,())),())))else none)))else none))
abbrev F8:Type:=ACL×ACq
abbrev Kf:Type:=Int→Int→Int→Int→Int→Bool→List Int→AAQ→List Int→AAk→AAt→AAu→AA2→AAs→Option F8
def IZ(R1:Kf)(t1 t2 t6 AE AU:Int)(AK:Bool)(b1:AAH)(b2:AAQ)(b3:AAH)(b4:AAk)(b5:AAt)(b6:AAu)(b7:AA2)(b8:AAs):Option F8:=
 if(0:Int)≤t1∧t1<(b5.length:Int)then(
 cond (decide (t6≤(((b5.getD (t1.toNat) (0,[],())).2.1).length:Int)))
  (if(0:Int)≤t1∧t1<(b5.length:Int)then(
  (Dn ((b5.getD (t1.toNat) (0,[],())).1) t6).bind fun u3=>
  if(0:Int)≤t2∧t2<(b2.length:Int)then(
  (Fb ((b2.getD (t2.toNat) ([],[],0,())).1,(b2.getD (t2.toNat) ([],[],0,())).2.1,(b2.getD (t2.toNat) ([],[],0,())).2.2.1,()) u3.1.1.1).bind fun u4=>
  if(0:Int)≤t1∧t1<(b5.length:Int)then(
  if(0:Int)≤AX (t6-1)∧AX (t6-1)<(((b5.getD (t1.toNat) (0,[],())).2.1).length:Int)then(
  cond (((((b5.getD (t1.toNat) (0,[],())).2.1).getD ((AX (t6-1)).toNat) ([],[],false,())).2.2.1))
   (R1 t1 t2 (AX (t6+1)) AE AU AK b1 b2 b3 b4 b5 b6 b7 b8)
  (cond (!u4.1.1.2.1)
   (R1 t1 t2 (AX (t6+1)) AE AU AK b1 b2 b3 b4 b5 b6 b7 b8)
  (cond (u4.1.1.1.2.1 !=0)
   (R1 t1 t2 (AX (t6+1)) AE AU AK b1 b2 b3 b4 b5 b6 b7 b8)
  (if(0:Int)≤t1∧t1<(b5.length:Int)then(
  (SD (b1,AE,()) ((b5.getD (t1.toNat) (0,[],())).1,(b5.getD (t1.toNat) (0,[],())).2.1,()) t6 t2).bind fun u6=>
  if(0:Int)≤t1∧t1<(b5.length:Int)then(
  let x7:AAt:=(b5.set (t1.toNat) (u6.1.1.1.1,u6.2.1,()))
  (H4 (b1,AE,b2,b3,b4,AU,x7,b6,b7,b8,AK,()) u3.1.1.1).bind fun u8=>
  cond (u8.1.1.2.1)
   (if(0:Int)≤t1∧t1<(x7.length:Int)then(
   if(0:Int)≤AX (t6-1)∧AX (t6-1)<(((x7.getD (t1.toNat) (0,[],())).2.1).length:Int)then(
   cond (((((x7.getD (t1.toNat) (0,[],())).2.1).getD ((AX (t6-1)).toNat) ([],[],false,())).2.2.1))
    (if(0:Int)≤u8.1.1.1∧u8.1.1.1<(b8.length:Int)then(
    R1 t1 t2 (AX (t6+1)) AE AU AK b1 b2 b3 b4 x7 b6 b7 (b8.set (u8.1.1.1.toNat) ((b8.getD (u8.1.1.1.toNat) (0,[],false,())).1,(b8.getD (u8.1.1.1.toNat) (0,[],false,())).2.1,true,())))else none)
   (R1 t1 t2 (AX (t6+1)) AE AU AK b1 b2 b3 b4 x7 b6 b7 b8))else none)else none)
  (R1 t1 t2 (AX (t6+1)) AE AU AK b1 b2 b3 b4 x7 b6 b7 b8))else none)else none))))else none)else none)else none)else none)
 (some (((()),()),(((),AE,(),(),(),AU,(),(),(),(),AK,()),b1,b2,b3,b4,b5,b6,b7,b8,()))))else none
def C3:Nat→Kf
 |0=>fun _ _ _ _ _ _ _ _ _ _ _ _ _ _=>none
 |n+1=>IZ (C3 n)
def NP(R1:Kf)(p1 p2 AE AU:Int)(AK:Bool)(b1:AAH)(b2:AAQ)(b3:AAH)(b4:AAk)(b5:AAt)(b6:AAu)(b7:AA2)(b8:AAs):Option F8:=
 R1 p1 p2 1 AE AU AK b1 b2 b3 b4 b5 b6 b7 b8
def M7(p1 p2 AE AU:Int)(AK:Bool)(b1:AAH)(b2:AAQ)(b3:AAH)(b4:AAk)(b5:AAt)(b6:AAu)(b7:AA2)(b8:AAs):Option F8:=NP (C3 Ae) p1 p2 AE AU AK b1 b2 b3 b4 b5 b6 b7 b8
abbrev I5:Type:=AEc×Unit
abbrev RL:Type:=Int→AA_→Int→Int→Int→Int→List Int→AA_→Bool→List AAH→Int→Int→Bool→List UInt8→Option I5
def UB(R5:RL)(t6:Int)(t33:AA_)(t34 t35 AR AE:Int)(Ah:AAH)(Bc:AA_)(Br:Bool)(AU:List AAH)(Co Bj:Int)(Ee:Bool)(Gt:ABs):Option I5:=
 cond (decide (t35<t34))
  (if(0:Int)≤t35∧t35<(t33.length:Int)then(
  cond (((t33.getD (t35.toNat) (0,0,false,[],())).1)==t6)
   (some ((((t6,AR,((t33.getD (t35.toNat) (0,0,false,[],())).2.2.1),((t33.getD (t35.toNat) (0,0,false,[],())).2.2.2.1),()),true,()),()),()))
  (R5 t6 t33 t34 (AX (t35+1)) AR AE Ah Bc Br AU Co Bj Ee Gt))else none)
 (some ((((t6,AR,true,[],()),true,()),()),()))
def KU:Nat→RL
 |0=>fun _ _ _ _ _ _ _ _ _ _ _ _ _ _=>none
 |n+1=>UB (KU n)
def UM(R5:RL)(p0:ABi)(p1:Int):Option I5:=
 (Dn p0.2.1 p1).bind fun u1=>
 cond (!u1.1.1.2.1)
  (some ((((0,0,false,[],()),false,()),()),()))
 (cond (!p0.2.2.2.2.1)
  (some ((((0,0,false,[],()),false,()),()),()))
 (cond (decide (p1>(p0.2.2.2.2.2.1.length:Int)))
  (some ((((0,0,false,[],()),false,()),()),()))
 (R5 u1.1.1.1 p0.2.2.2.1 (p0.2.2.2.1.length:Int) 0 p0.1 p0.2.1 p0.2.2.1 p0.2.2.2.1 p0.2.2.2.2.1 p0.2.2.2.2.2.1 0 0 false [])))
def JS(p0:ABi)(p1:Int):Option I5:=UM (KU Ae) p0 p1
abbrev kt:Type:=AEY×ACm
def En(p0:ABO)(p1:ABi):Option kt:=
 (Hj (p0.1,p0.2.1,()) (p1.1,p1.2.1,p1.2.2.1,p1.2.2.2.1,p1.2.2.2.2.1,p1.2.2.2.2.2.1,())).bind fun u1=>
 cond (!u1.1.1)
  (some (((0,0,(),(),false,(),()),()),([],[],[],())))
 ((GQ (p1.1,p1.2.1,p1.2.2.1,p1.2.2.2.1,p1.2.2.2.2.1,p1.2.2.2.2.2.1,())).bind fun u2=>
 some (((u2.1.1.1,u2.1.1.2.1,(),(),u2.1.1.2.2.2.2.1,(),()),()),(u2.2.1,u2.2.2.1,u2.2.2.2.1,())))
abbrev WW:Type:=ADu×ACm
def O0(p0:ABO)(p1:ABi)(p2 p3:Int):Option WW:=
 (Hj (p0.1,p0.2.1,()) (p1.1,p1.2.1,p1.2.2.1,p1.2.2.2.1,p1.2.2.2.2.1,p1.2.2.2.2.2.1,())).bind fun u1=>
 cond (!u1.1.1)
  ((En (p0.1,p0.2.1,()) (p1.1,p1.2.1,p1.2.2.1,p1.2.2.2.1,p1.2.2.2.2.1,p1.2.2.2.2.2.1,())).bind fun u2=>
  some ((((u2.1.1.1,u2.1.1.2.1,(),(),u2.1.1.2.2.2.2.1,(),()),false,()),()),(u2.2.1,u2.2.2.1,u2.2.2.2.1,())))
 ((A4 p2 1 (p1.2.2.2.2.2.1.length:Int)).bind fun u4=>
 cond (!u4.1.1)
  ((En (p0.1,p0.2.1,()) (p1.1,p1.2.1,p1.2.2.1,p1.2.2.2.1,p1.2.2.2.2.1,p1.2.2.2.2.2.1,())).bind fun u5=>
  some ((((u5.1.1.1,u5.1.1.2.1,(),(),u5.1.1.2.2.2.2.1,(),()),false,()),()),(u5.2.1,u5.2.2.1,u5.2.2.2.1,())))
 ((A4 p3 0 (AX ((p0.1.length:Int)-1))).bind fun u7=>
 cond (!u7.1.1)
  ((En (p0.1,p0.2.1,()) (p1.1,p1.2.1,p1.2.2.1,p1.2.2.2.1,p1.2.2.2.2.1,p1.2.2.2.2.2.1,())).bind fun u8=>
  some ((((u8.1.1.1,u8.1.1.2.1,(),(),u8.1.1.2.2.2.2.1,(),()),false,()),()),(u8.2.1,u8.2.2.1,u8.2.2.2.1,())))
 ((GQ (p1.1,p1.2.1,p1.2.2.1,p1.2.2.2.1,p1.2.2.2.2.1,p1.2.2.2.2.2.1,())).bind fun u9=>
 if(0:Int)≤AX (p2-1)∧AX (p2-1)<(u9.2.2.2.1.length:Int)then(
 (Kl (u9.2.2.2.1.getD ((AX (p2-1)).toNat) []) p3).bind fun EW=>
 if(0:Int)≤AX (p2-1)∧AX (p2-1)<(u9.2.2.2.1.length:Int)then(
 some ((((u9.1.1.1,u9.1.1.2.1,(),(),u9.1.1.2.2.2.2.1,(),()),true,()),()),(u9.2.1,u9.2.2.1,(u9.2.2.2.1.set ((AX (p2-1)).toNat) EW.2.1),())))else none)else none)))
abbrev Je:Type:=ACL×ACq
abbrev MS:Type:=Int→Int→Int→Int→Int→Bool→List Int→AAQ→List Int→AAk→AAt→AAu→AA2→AAs→Option Je
def G6(R1:MS)(t1 t2 t6 AE AU:Int)(AK:Bool)(b1:AAH)(b2:AAQ)(b3:AAH)(b4:AAk)(b5:AAt)(b6:AAu)(b7:AA2)(b8:AAs):Option Je:=
 if(0:Int)≤t1∧t1<(b6.length:Int)then(
 cond (decide (t6≤(((b6.getD (t1.toNat) (0,0,[],[],false,[],())).2.2.2.2.2.1).length:Int)))
  (if(0:Int)≤t1∧t1<(b6.length:Int)then(
  (JS ((b6.getD (t1.toNat) (0,0,[],[],false,[],())).1,(b6.getD (t1.toNat) (0,0,[],[],false,[],())).2.1,(b6.getD (t1.toNat) (0,0,[],[],false,[],())).2.2.1,(b6.getD (t1.toNat) (0,0,[],[],false,[],())).2.2.2.1,(b6.getD (t1.toNat) (0,0,[],[],false,[],())).2.2.2.2.1,(b6.getD (t1.toNat) (0,0,[],[],false,[],())).2.2.2.2.2.1,()) t6).bind fun u2=>
  if(0:Int)≤t2∧t2<(b2.length:Int)then(
  (Fb ((b2.getD (t2.toNat) ([],[],0,())).1,(b2.getD (t2.toNat) ([],[],0,())).2.1,(b2.getD (t2.toNat) ([],[],0,())).2.2.1,()) u2.1.1.1.1).bind fun u3=>
  cond (u2.1.1.2.1)
   (cond (u3.1.1.2.1)
    (cond (((u3.1.1.1.1==u2.1.1.1.1)&&((u3.1.1.1.2.1==u2.1.1.1.2.1)&&((u3.1.1.1.2.2.1==u2.1.1.1.2.2.1)&&((u3.1.1.1.2.2.2.1==u2.1.1.1.2.2.2.1)&&true)))))
     (if(0:Int)≤t1∧t1<(b6.length:Int)then(
     (O0 (b1,AE,()) ((b6.getD (t1.toNat) (0,0,[],[],false,[],())).1,(b6.getD (t1.toNat) (0,0,[],[],false,[],())).2.1,(b6.getD (t1.toNat) (0,0,[],[],false,[],())).2.2.1,(b6.getD (t1.toNat) (0,0,[],[],false,[],())).2.2.2.1,(b6.getD (t1.toNat) (0,0,[],[],false,[],())).2.2.2.2.1,(b6.getD (t1.toNat) (0,0,[],[],false,[],())).2.2.2.2.2.1,()) t6 t2).bind fun u5=>
     if(0:Int)≤t1∧t1<(b6.length:Int)then(
     R1 t1 t2 (AX (t6+1)) AE AU AK b1 b2 b3 b4 b5 (b6.set (t1.toNat) (u5.1.1.1.1,u5.1.1.1.2.1,u5.2.1,u5.2.2.1,u5.1.1.1.2.2.2.2.1,u5.2.2.2.1,())) b7 b8)else none)else none)
    (R1 t1 t2 (AX (t6+1)) AE AU AK b1 b2 b3 b4 b5 b6 b7 b8))
   (R1 t1 t2 (AX (t6+1)) AE AU AK b1 b2 b3 b4 b5 b6 b7 b8))
  (R1 t1 t2 (AX (t6+1)) AE AU AK b1 b2 b3 b4 b5 b6 b7 b8))else none)else none)
 (some (((()),()),(((),AE,(),(),(),AU,(),(),(),(),AK,()),b1,b2,b3,b4,b5,b6,b7,b8,()))))else none
def BR:Nat→MS
 |0=>fun _ _ _ _ _ _ _ _ _ _ _ _ _ _=>none
 |n+1=>G6 (BR n)
def Jo(R1:MS)(p1 p2 AE AU:Int)(AK:Bool)(b1:AAH)(b2:AAQ)(b3:AAH)(b4:AAk)(b5:AAt)(b6:AAu)(b7:AA2)(b8:AAs):Option Je:=
 R1 p1 p2 1 AE AU AK b1 b2 b3 b4 b5 b6 b7 b8
def Kv(p1 p2 AE AU:Int)(AK:Bool)(b1:AAH)(b2:AAQ)(b3:AAH)(b4:AAk)(b5:AAt)(b6:AAu)(b7:AA2)(b8:AAs):Option Je:=Jo (BR Ae) p1 p2 AE AU AK b1 b2 b3 b4 b5 b6 b7 b8
abbrev IA:Type:=ABp×ACq
abbrev MM:Type:=Int→Int→Int→Int→Int→Bool→List Int→AAQ→List Int→AAk→AAt→AAu→AA2→AAs→Int→Option IA
abbrev Ko:Type:=Int→Int→Int→Int→Int→Bool→List Int→AAQ→List Int→AAk→AAt→AAu→AA2→AAs→Option IA
def NG(R9:MM)(oR:Ko)(t1 t42 t43 AE AU:Int)(AK:Bool)(b1:AAH)(b2:AAQ)(b3:AAH)(b4:AAk)(b5:AAt)(b6:AAu)(b7:AA2)(b8:AAs)(cS:Int):Option IA:=
 cond (decide (t43<t42))
  (if(0:Int)≤t43∧t43<(b5.length:Int)then(
  cond (decide (((b5.getD (t43.toNat) (0,[],())).1)>cS))
   ((Il (b4,AU,()) ((b5.getD (t43.toNat) (0,[],())).1)).bind fun u6=>
   (Bt u6.2.1 t1).bind fun u7=>
   cond (u7.1.1)
    ((M7 t43 t1 AE AU AK b1 b2 b3 b4 b5 b6 b7 b8).bind fun u8=>
    R9 t1 t42 (AX (t43+1)) u8.2.1.2.1 u8.2.1.2.2.2.2.2.1 u8.2.1.2.2.2.2.2.2.2.2.2.2.1 u8.2.2.1 u8.2.2.2.1 u8.2.2.2.2.1 u8.2.2.2.2.2.1 u8.2.2.2.2.2.2.1 u8.2.2.2.2.2.2.2.1 u8.2.2.2.2.2.2.2.2.1 u8.2.2.2.2.2.2.2.2.2.1 cS)
   (R9 t1 t42 (AX (t43+1)) AE AU AK b1 b2 b3 b4 b5 b6 b7 b8 cS))
  (R9 t1 t42 (AX (t43+1)) AE AU AK b1 b2 b3 b4 b5 b6 b7 b8 cS))else none)
 (oR t1 (b6.length:Int) 0 AE AU AK b1 b2 b3 b4 b5 b6 b7 b8)
def MD(R9:MM)(oR:Ko)(t1 t73 t74 AE AU:Int)(AK:Bool)(b1:AAH)(b2:AAQ)(b3:AAH)(b4:AAk)(b5:AAt)(b6:AAu)(b7:AA2)(b8:AAs):Option IA:=
 cond (decide (t74<t73))
  (if(0:Int)≤t74∧t74<(b6.length:Int)then(
  (Il (b4,AU,()) ((b6.getD (t74.toNat) (0,0,[],[],false,[],())).2.1)).bind fun Nq=>
  (Bt Nq.2.1 t1).bind fun bS=>
  cond (bS.1.1)
   ((Kv t74 t1 AE AU AK b1 b2 b3 b4 b5 b6 b7 b8).bind fun V5=>
   oR t1 t73 (AX (t74+1)) V5.2.1.2.1 V5.2.1.2.2.2.2.2.1 V5.2.1.2.2.2.2.2.2.2.2.2.2.1 V5.2.2.1 V5.2.2.2.1 V5.2.2.2.2.1 V5.2.2.2.2.2.1 V5.2.2.2.2.2.2.1 V5.2.2.2.2.2.2.2.1 V5.2.2.2.2.2.2.2.2.1 V5.2.2.2.2.2.2.2.2.2.1)
  (oR t1 t73 (AX (t74+1)) AE AU AK b1 b2 b3 b4 b5 b6 b7 b8))else none)
 (some ((0,()),(((),AE,(),(),(),AU,(),(),(),(),AK,()),b1,b2,b3,b4,b5,b6,b7,b8,())))
mutual
def Eo:Nat→MM
 |0=>fun _ _ _ _ _ _ _ _ _ _ _ _ _ _ _=>none
 |n+1=>NG (Eo n) (FJ n)
def FJ:Nat→Ko
 |0=>fun _ _ _ _ _ _ _ _ _ _ _ _ _ _=>none
 |n+1=>MD (Eo n) (FJ n)
end
def Sp(R9:MM)(oR:Ko)(p1 AE AU:Int)(AK:Bool)(b1:AAH)(b2:AAQ)(b3:AAH)(b4:AAk)(b5:AAt)(b6:AAu)(b7:AA2)(b8:AAs):Option IA:=
 (EM (b1,AE,b2,b3,b4,AU,b5,b6,b7,b8,AK,()) p1).bind fun u1=>
 cond (u1.1.1 !=0)
  (some ((u1.1.1,()),(((),AE,(),(),(),AU,(),(),(),(),AK,()),b1,b2,b3,b4,b5,b6,b7,b8,())))
 (if(0:Int)≤p1∧p1<(b2.length:Int)then(
 (Ni ((b2.getD (p1.toNat) ([],[],0,())).1,(b2.getD (p1.toNat) ([],[],0,())).2.1,(b2.getD (p1.toNat) ([],[],0,())).2.2.1,())).bind fun u2=>
 cond (!u2.1.1.2.1)
  (some ((4,()),(((),AE,(),(),(),AU,(),(),(),(),AK,()),b1,b2,b3,b4,b5,b6,b7,b8,())))
 (if(0:Int)≤p1∧p1<(b2.length:Int)then(
 R9 p1 (b5.length:Int) 0 AE AU AK b1 (b2.set (p1.toNat) (u2.2.1,u2.2.2.1,u2.1.1.1.2.2.1,())) b3 b4 b5 b6 b7 b8 u2.1.1.1.2.2.1)else none))else none)
def Pp(p1 AE AU:Int)(AK:Bool)(b1:AAH)(b2:AAQ)(b3:AAH)(b4:AAk)(b5:AAt)(b6:AAu)(b7:AA2)(b8:AAs):Option IA:=Sp (Eo Ae) (FJ Ae) p1 AE AU AK b1 b2 b3 b4 b5 b6 b7 b8
abbrev fu:Type:=ABp×ACq
def O7(p1 p2 AE AU:Int)(AK:Bool)(b1:AAH)(b2:AAQ)(b3:AAH)(b4:AAk)(b5:AAt)(b6:AAu)(b7:AA2)(b8:AAs):Option fu:=
 (EM (b1,AE,b2,b3,b4,AU,b5,b6,b7,b8,AK,()) p1).bind fun u1=>
 cond (u1.1.1 !=0)
  (some ((u1.1.1,()),(((),AE,(),(),(),AU,(),(),(),(),AK,()),b1,b2,b3,b4,b5,b6,b7,b8,())))
 (if(0:Int)≤p1∧p1<(b2.length:Int)then(
 (MY ((b2.getD (p1.toNat) ([],[],0,())).1,(b2.getD (p1.toNat) ([],[],0,())).2.1,(b2.getD (p1.toNat) ([],[],0,())).2.2.1,()) p2).bind fun u2=>
 if(0:Int)≤p1∧p1<(b2.length:Int)then(
 (J0 u2.1.1.2.1).bind fun u4=>
 some ((u4.1.1,()),(((),AE,(),(),(),AU,(),(),(),(),AK,()),b1,(b2.set (p1.toNat) (u2.2.1,u2.2.2.1,u2.1.1.1.2.2.1,())),b3,b4,b5,b6,b7,b8,())))else none)else none)
abbrev dI:Type:=ABZ×Unit
def ML(p0:Int)(p1:ABp):Option dI:=
 some ((p0==p1.1,()),())
abbrev Cj:Type:=ABp×Unit
abbrev Da:Type:=List Int→ACi→Int→Int→Option Cj
def E9(R2:Da)(t0:AAH)(t1:ACi)(t7 t8:Int):Option Cj:=
 cond (decide (t8<t7))
  (if(0:Int)≤t8∧t8<(t0.length:Int)then(
  (ML (t0.getD (t8.toNat) 0) t1.1).bind fun u2=>
  cond (u2.1.1)
   (some ((t8,()),()))
  (R2 t0 (t1.1,()) t7 (AX (t8+1))))else none)
 (some (((-1),()),()))
def B6:Nat→Da
 |0=>fun _ _ _ _=>none
 |n+1=>E9 (B6 n)
def E7(R2:Da)(p0:AAH)(p1:ACi):Option Cj:=
 R2 p0 (p1.1,()) (p0.length:Int) 0
def Dx(p0:AAH)(p1:ACi):Option Cj:=E7 (B6 Ae) p0 p1
abbrev Ce:Type:=ACL×AFe
abbrev DQ:Type:=ACi→Int→Int→List Int→Option Ce
def Eg(R5:DQ)(t1:ACi)(t5 t6:Int)(b0:AAH):Option Ce:=
 cond ((decide (t6<(b0.length:Int))))
  (if(0:Int)≤t6∧t6<(b0.length:Int)then(
  let x3:Int:=(b0.getD (t6.toNat) 0)
  (ML x3 t1.1).bind fun u4=>
  cond (!u4.1.1)
   (if(0:Int)≤t5∧t5<(b0.length:Int)then(
   R5 (t1.1,()) (AX (t5+1)) (AX (t6+1)) (b0.set (t5.toNat) x3))else none)
  (R5 (t1.1,()) t5 (AX (t6+1)) b0))else none)
 (if(0:Int)≤t5∧t5≤(b0.length:Int)∧(b0.length:Int)≤(b0.length:Int)then(
 let x6:AAH:=(b0.take (t5.toNat)++List.replicate (((b0.length:Int).toNat)-(t5.toNat)) 0++b0.drop ((t5.toNat)+(((b0.length:Int).toNat)-(t5.toNat))))
 if(0:Int)≤(0:Int)∧(0:Int)≤t5∧t5≤(x6.length:Int)then(
 some (((),()),((),((x6.drop 0).take ((t5.toNat)-0)),())))else none)else none)
def Bw:Nat→DQ
 |0=>fun _ _ _ _=>none
 |n+1=>Eg (Bw n)
def Er(R5:DQ)(p1:ACi)(b0:AAH):Option Ce:=
 (Dx b0 (p1.1,())).bind fun u1=>
 cond (u1.1.1==(-1))
  (some (((),()),((),b0,())))
 (R5 (p1.1,()) u1.1.1 (AX (u1.1.1+1)) b0)
def Cp(p1:ACi)(b0:AAH):Option Ce:=Er (Bw Ae) p1 b0
abbrev WR:Type:=ACL×ACb
def HP(p0:AAH)(p1:Int):Option WR:=
 (DG p0).bind fun u1=>
 (Cp ((p1,()),()) u1.2.1).bind fun u2=>
 some (((),()),(u2.2.2.1,()))
abbrev Ky:Type:=AEz×ACv
abbrev Nf:Type:=Int→ACH→Int→Int→Int→ACH→Int→ACH→Option Ky
def Qj(R5:Nf)(t2:Int)(t19:ACH)(t20 t21 AR:Int)(b1:ACH)(Zj:Int)(b3:ACH):Option Ky:=
 cond (decide (t21<t20))
  (if(0:Int)≤t21∧t21<(t19.length:Int)then(
  cond (!((t19.getD (t21.toNat) ([],[],false,())).2.2.1))
   ((HP ((t19.getD (t21.toNat) ([],[],false,())).2.1) t2).bind fun u5=>
   if(0:Int)≤t21∧t21<(b3.length:Int)then(
   R5 t2 t19 t20 (AX (t21+1)) AR b1 Zj (b3.set (t21.toNat) ((b3.getD (t21.toNat) ([],[],false,())).1,u5.2.1,(b3.getD (t21.toNat) ([],[],false,())).2.2.1,())))else none)
  (R5 t2 t19 t20 (AX (t21+1)) AR b1 Zj b3))else none)
 (some ((((Zj,(),()),true,()),()),(b3,())))
def Hh:Nat→Nf
 |0=>fun _ _ _ _ _ _ _ _=>none
 |n+1=>Qj (Hh n)
def Qt(R5:Nf)(p0:ABO)(p1:ACJ)(p2:Int):Option Ky:=
 (GR (p0.1,p0.2.1,()) (p1.1,p1.2.1,())).bind fun u1=>
 cond (!u1.1.1)
  (some ((((0,(),()),false,()),()),([],())))
 ((Fo (p1.1,p1.2.1,())).bind fun u2=>
 R5 p2 p1.2.1 (p1.2.1.length:Int) 0 0 [] u2.1.1.1 u2.2.1)
def NL(p0:ABO)(p1:ACJ)(p2:Int):Option Ky:=Qt (Hh Ae) p0 p1 p2
abbrev NW:Type:=ADu×ACm
abbrev QE:Type:=Int→List AAH→Int→Int→Int→Int→Bool→List Int→AA_→List AAH→Int→Int→Bool→List Int→AA_→List AAH→Option NW
def Se(R5:QE)(t2:Int)(t19:List AAH)(t20 t21 AR AE:Int)(Br:Bool)(b1:AAH)(b2:AA_)(b3:List AAH)(wt vK:Int)(uo:Bool)(b5:AAH)(b6:AA_)(b7:List AAH):Option NW:=
 cond (decide (t21<t20))
  (if(0:Int)≤t21∧t21<(t19.length:Int)then(
  (HP (t19.getD (t21.toNat) []) t2).bind fun u4=>
  if(0:Int)≤t21∧t21<(b7.length:Int)then(
  R5 t2 t19 t20 (AX (t21+1)) AR AE Br b1 b2 b3 wt vK uo b5 b6 (b7.set (t21.toNat) u4.2.1))else none)else none)
 (some ((((wt,vK,(),(),uo,(),()),true,()),()),(b5,b6,b7,())))
def JM:Nat→QE
 |0=>fun _ _ _ _ _ _ _ _ _ _ _ _ _ _ _ _=>none
 |n+1=>Se (JM n)
def Sa(R5:QE)(p0:ABO)(p1:ABi)(p2:Int):Option NW:=
 (Hj (p0.1,p0.2.1,()) (p1.1,p1.2.1,p1.2.2.1,p1.2.2.2.1,p1.2.2.2.2.1,p1.2.2.2.2.2.1,())).bind fun u1=>
 cond (!u1.1.1)
  (some ((((0,0,(),(),false,(),()),false,()),()),([],[],[],())))
 ((GQ (p1.1,p1.2.1,p1.2.2.1,p1.2.2.2.1,p1.2.2.2.2.1,p1.2.2.2.2.2.1,())).bind fun u2=>
 R5 p2 p1.2.2.2.2.2.1 (p1.2.2.2.2.2.1.length:Int) 0 0 0 false [] [] [] u2.1.1.1 u2.1.1.2.1 u2.1.1.2.2.2.2.1 u2.2.1 u2.2.2.1 u2.2.2.2.1)
def Pu(p0:ABO)(p1:ABi)(p2:Int):Option NW:=Sa (JM Ae) p0 p1 p2
abbrev GX:Type:=ABp×AGp
abbrev L7:Type:=Int→Int→Int→Int→Int→Bool→List Int→AAQ→List Int→AAk→AAt→AAu→AA2→AAs→List Int→Option GX
abbrev Kx:Type:=Int→Int→Int→Int→Int→Bool→List Int→AAQ→List Int→AAk→AAt→AAu→AA2→AAs→List Int→Option GX
def Sn(R7:L7)(R12:Kx)(t1 t36 t37 AE AU:Int)(AK:Bool)(b1:AAH)(b2:AAQ)(b3:AAH)(b4:AAk)(b5:AAt)(b6:AAu)(b7:AA2)(b8:AAs)(b9:AAH):Option GX:=
 cond (decide (t37<t36))
  (if(0:Int)≤t37∧t37<(b5.length:Int)then(
  (NL (b1,AE,()) ((b5.getD (t37.toNat) (0,[],())).1,(b5.getD (t37.toNat) (0,[],())).2.1,()) t1).bind fun u4=>
  if(0:Int)≤t37∧t37<(b5.length:Int)then(
  R7 t1 t36 (AX (t37+1)) AE AU AK b1 b2 b3 b4 (b5.set (t37.toNat) (u4.1.1.1.1,u4.2.1,())) b6 b7 b8 b9)else none)else none)
 (R12 t1 (b6.length:Int) 0 AE AU AK b1 b2 b3 b4 b5 b6 b7 b8 b9)
def Rg(R7:L7)(R12:Kx)(t1 t63 t64 AE AU:Int)(AK:Bool)(b1:AAH)(b2:AAQ)(b3:AAH)(b4:AAk)(b5:AAt)(b6:AAu)(b7:AA2)(b8:AAs)(b9:AAH):Option GX:=
 cond (decide (t64<t63))
  (if(0:Int)≤t64∧t64<(b6.length:Int)then(
  (Pu (b1,AE,()) ((b6.getD (t64.toNat) (0,0,[],[],false,[],())).1,(b6.getD (t64.toNat) (0,0,[],[],false,[],())).2.1,(b6.getD (t64.toNat) (0,0,[],[],false,[],())).2.2.1,(b6.getD (t64.toNat) (0,0,[],[],false,[],())).2.2.2.1,(b6.getD (t64.toNat) (0,0,[],[],false,[],())).2.2.2.2.1,(b6.getD (t64.toNat) (0,0,[],[],false,[],())).2.2.2.2.2.1,()) t1).bind fun u6=>
  if(0:Int)≤t64∧t64<(b6.length:Int)then(
  R12 t1 t63 (AX (t64+1)) AE AU AK b1 b2 b3 b4 b5 (b6.set (t64.toNat) (u6.1.1.1.1,u6.1.1.1.2.1,u6.2.1,u6.2.2.1,u6.1.1.1.2.2.2.2.1,u6.2.2.2.1,())) b7 b8 b9)else none)else none)
 (cond (AK)
  (some ((0,()),(((),AE,(),(),(),AU,(),(),(),(),true,()),b1,b2,(),b4,b5,b6,b7,b8,b9,())))
 ((Ge (b1,AE,()) b9).bind fun u8=>
 some ((0,()),(((),AE,(),(),(),AU,(),(),(),(),u8.1.1,()),b1,b2,(),b4,b5,b6,b7,b8,b9,()))))
mutual
def HB:Nat→L7
 |0=>fun _ _ _ _ _ _ _ _ _ _ _ _ _ _ _=>none
 |n+1=>Sn (HB n) (Gq n)
def Gq:Nat→Kx
 |0=>fun _ _ _ _ _ _ _ _ _ _ _ _ _ _ _=>none
 |n+1=>Rg (HB n) (Gq n)
end
def SY(R7:L7)(R12:Kx)(p1 AE AU:Int)(AK:Bool)(b1:AAH)(b2:AAQ)(b3:AAH)(b4:AAk)(b5:AAt)(b6:AAu)(b7:AA2)(b8:AAs):Option GX:=
 (EM (b1,AE,b2,b3,b4,AU,b5,b6,b7,b8,AK,()) p1).bind fun u1=>
 cond (u1.1.1 !=0)
  (some ((u1.1.1,()),(((),AE,(),(),(),AU,(),(),(),(),AK,()),b1,b2,(),b4,b5,b6,b7,b8,b3,())))
 (if(0:Int)≤p1∧p1<(b2.length:Int)then(
 (Kl b3 p1).bind fun u3=>
 R7 p1 (b5.length:Int) 0 AE AU AK b1 (b2.set (p1.toNat) ([],[],0,())) b3 b4 b5 b6 b7 b8 u3.2.1)else none)
def P2(p1 AE AU:Int)(AK:Bool)(b1:AAH)(b2:AAQ)(b3:AAH)(b4:AAk)(b5:AAt)(b6:AAu)(b7:AA2)(b8:AAs):Option GX:=SY (HB Ae) (Gq Ae) p1 AE AU AK b1 b2 b3 b4 b5 b6 b7 b8
abbrev rC:Type:=ABZ×Unit
def YG(p0:ABO)(p1:AAH):Option rC:=
 (D7 (p0.1,p0.2.1,()) p1).bind fun u1=>
 cond (u1.1.1)
  ((Ge (p0.1,p0.2.1,()) p1).bind fun u2=>
  some ((!u2.1.1,()),()))
 (some ((false,()),()))
abbrev OX:Type:=ACL×AD5
abbrev Tj:Type:=AAQ→Int→Int→AA_→Option OX
abbrev Ta:Type:=AAQ→Int→Int→AA_→Int→Int→AA_→Option OX
def Zt(R3:Tj)(R8:Ta)(t9:AAQ)(t10 t11:Int)(b0:AA_):Option OX:=
 cond (decide (t11<t10))
  (if(0:Int)≤t11∧t11<(t9.length:Int)then(
  (FD ((t9.getD (t11.toNat) ([],[],0,())).1,(t9.getD (t11.toNat) ([],[],0,())).2.1,(t9.getD (t11.toNat) ([],[],0,())).2.2.1,())).bind fun u1=>
  cond (!u1.1.1)
   (some (((),()),([],())))
  (R8 t9 t10 t11 ((t9.getD (t11.toNat) ([],[],0,())).1) (((t9.getD (t11.toNat) ([],[],0,())).1).length:Int) 0 b0))else none)
 (some (((),()),(b0,())))
def Z5(R3:Tj)(R8:Ta)(t9:AAQ)(t10 t11:Int)(t19:AA_)(t20 t21:Int)(b0:AA_):Option OX:=
 cond (decide (t21<t20))
  (if(0:Int)≤t21∧t21<(t19.length:Int)then(
  (WA ((t19.getD (t21.toNat) (0,0,false,[],())).1,(t19.getD (t21.toNat) (0,0,false,[],())).2.1,(t19.getD (t21.toNat) (0,0,false,[],())).2.2.1,(t19.getD (t21.toNat) (0,0,false,[],())).2.2.2.1,()) b0).bind fun u3=>
  R8 t9 t10 t11 t19 t20 (AX (t21+1)) u3.2.2.1)else none)
 (R3 t9 t10 (AX (t11+1)) b0)
mutual
def M4:Nat→Tj
 |0=>fun _ _ _ _=>none
 |n+1=>Zt (M4 n) (Mv n)
def Mv:Nat→Ta
 |0=>fun _ _ _ _ _ _ _=>none
 |n+1=>Z5 (M4 n) (Mv n)
end
def jf(R3:Tj)(R8:Ta)(p0:AAQ):Option OX:=
 R3 p0 (p0.length:Int) 0 []
def fP(p0:AAQ):Option OX:=jf (M4 Ae) (Mv Ae) p0
abbrev UU:Type:=ACo×AGg
abbrev an:Type:=List Int→Int→Int→Int→AAQ→Int→AA_→AA_→AAQ→Option UU
def bO(R5:an)(t2:AAH)(t4 t37 t38:Int)(b0:AAQ)(Ee:Int)(b2 b3:AA_)(b4:AAQ):Option UU:=
 cond (decide (t38<t37))
  (if(0:Int)≤t38∧t38<(b0.length:Int)then(
  (Bt t2 t38).bind fun u4=>
  cond (u4.1.1)
   (R5 t2 t4 t37 (AX (t38+1)) b0 Ee b2 b3 b4)
  ((FD ((b0.getD (t38.toNat) ([],[],0,())).1,(b0.getD (t38.toNat) ([],[],0,())).2.1,(b0.getD (t38.toNat) ([],[],0,())).2.2.1,())).bind fun u5=>
  cond (!u5.1.1)
   (some (((((),(),0,()),false,()),()),(b0,[],[],())))
  (if b4.length+1≤Ds then(
  R5 t2 t4 t37 (AX (t38+1)) b0 Ee b2 b3 (b4++[((b0.getD (t38.toNat) ([],[],0,())).1,(b0.getD (t38.toNat) ([],[],0,())).2.1,(b0.getD (t38.toNat) ([],[],0,())).2.2.1,())]))else none)))else none)
 ((fP b4).bind fun u7=>
 (FD (u7.2.1,[],t4,())).bind fun u8=>
 cond (!u8.1.1)
  (some (((((),(),0,()),false,()),()),(b0,[],[],())))
 (some (((((),(),t4,()),true,()),()),(b0,u7.2.1,[],()))))
def RP:Nat→an
 |0=>fun _ _ _ _ _ _ _ _ _=>none
 |n+1=>bO (RP n)
def bg(R5:an)(p0:ABO)(p2:AAH)(p3 p4:Int)(b0:AAQ):Option UU:=
 cond (((b0.length:Int) !=(p0.1.length:Int)))
  (some (((((),(),0,()),false,()),()),(b0,[],[],())))
 ((YG (p0.1,p0.2.1,()) p2).bind fun u2=>
 cond (!u2.1.1)
  (some (((((),(),0,()),false,()),()),(b0,[],[],())))
 ((Bt p2 p3).bind fun u3=>
 cond (!u3.1.1)
  (some (((((),(),0,()),false,()),()),(b0,[],[],())))
 (R5 p2 p4 (b0.length:Int) 0 b0 0 [] [] [])))
def Z3(p0:ABO)(p2:AAH)(p3 p4:Int)(b0:AAQ):Option UU:=bg (RP Ae) p0 p2 p3 p4 b0
abbrev iB:Type:=ABp×AGp
def Js(p1 AE AU:Int)(AK:Bool)(b1:AAH)(b2:AAQ)(b3:AAH)(b4:AAk)(b5:AAt)(b6:AAu)(b7:AA2)(b8:AAs):Option iB:=
 (A4 p1 0 (AX ((b2.length:Int)-1))).bind fun u2=>
 cond (!u2.1.1)
  (some ((2,()),(((),AE,(),(),(),AU,(),(),(),(),AK,()),b1,b2,(),b4,b5,b6,b7,b8,b3,())))
 ((C8 (b1,AE,b2,b3,b4,AU,b5,b6,b7,b8,AK,()) p1).bind fun u3=>
 cond (!u3.1.1)
  (some ((2,()),(((),AE,(),(),(),AU,(),(),(),(),AK,()),b1,b2,(),b4,b5,b6,b7,b8,b3,())))
 (let x4:Int:=AX ((b4.length:Int)-1)
 (Z3 (b1,AE,()) b3 p1 (if 0>x4 then 0 else x4) b2).bind fun u6=>
 cond (!u6.1.1.2.1)
  (some ((4,()),(((),AE,(),(),(),AU,(),(),(),(),AK,()),b1,u6.2.1,(),b4,b5,b6,b7,b8,b3,())))
 (if(0:Int)≤p1∧p1<(u6.2.1.length:Int)then(
 (HP b3 p1).bind fun u8=>
 some ((0,()),(((),AE,(),(),(),AU,(),(),(),(),AK,()),b1,(u6.2.1.set (p1.toNat) (u6.2.2.1,u6.2.2.2.1,u6.1.1.1.2.2.1,())),(),b4,b5,b6,b7,b8,u8.2.1,())))else none)))
abbrev pN:Type:=AEY×ACm
def iJ(p0 p1:Int):Option pN:=
 some (((p1,p0,(),(),false,(),()),()),([],[],[],()))
abbrev YE:Type:=ABp×(ACr×List Int×AAQ×List Int×AAk×AAt×Unit×AA2×AAs×AAu×Unit)
def P0(AE AU:Int)(AK:Bool)(b1:AAH)(b2:AAQ)(b3:AAH)(b4:AAk)(b5:AAt)(b6:AAu)(b7:AA2)(b8:AAs):Option YE:=
 (La (b4,AU,())).bind fun u1=>
 cond ((decide ((b4.length:Int)<2)))
  (some ((2,()),(((),AE,(),(),(),AU,(),(),(),(),AK,()),b1,b2,b3,b4,b5,(),b7,b8,b6,())))
 (cond ((u1.1.1==(b4.length:Int)))
  (some ((2,()),(((),AE,(),(),(),AU,(),(),(),(),AK,()),b1,b2,b3,b4,b5,(),b7,b8,b6,())))
 (cond ((decide ((b6.length:Int)>0)))
  (some ((4,()),(((),AE,(),(),(),AU,(),(),(),(),AK,()),b1,b2,b3,b4,b5,(),b7,b8,b6,())))
 ((iJ u1.1.1 (b4.length:Int)).bind fun u5=>
 some ((0,()),(((),AE,(),(),(),AU,(),(),(),(),AK,()),b1,b2,b3,b4,b5,(),b7,b8,[(u5.1.1.1,u5.1.1.2.1,u5.2.1,u5.2.2.1,u5.1.1.2.2.2.2.1,u5.2.2.2.1,())],())))))
abbrev S_:Type:=ACo×ACl
def Np(p0:ACP)(p1:Int):Option S_:=
 (Ni (p0.1,p0.2.1,p0.2.2.1,())).bind fun u1=>
 cond (!u1.1.1.2.1)
  ((Dk (p0.1,p0.2.1,p0.2.2.1,())).bind fun u2=>
  some (((((),(),u2.1.1.2.2.1,()),false,()),()),(u2.2.1,u2.2.2.1,())))
 ((A4 p1 0 30).bind fun u3=>
 cond (!u3.1.1)
  ((Dk (p0.1,p0.2.1,p0.2.2.1,())).bind fun u4=>
  some (((((),(),u4.1.1.2.2.1,()),false,()),()),(u4.2.1,u4.2.2.1,())))
 (some (((((),(),(if p1>u1.1.1.1.2.2.1 then p1 else u1.1.1.1.2.2.1),()),true,()),()),(u1.2.1,u1.2.2.1,()))))
abbrev Jw:Type:=ACL×AD5
abbrev Sy:Type:=Int→AA_→Int→Int→AA_→Option Jw
def VB(R5:Sy)(t1:Int)(t14:AA_)(t15 t16:Int)(b0:AA_):Option Jw:=
 cond (decide (t16<t15))
  (if(0:Int)≤t16∧t16<(t14.length:Int)then(
  (FB ((t14.getD (t16.toNat) (0,0,false,[],())).1)).bind fun u3=>
  cond (u3.1.1==t1)
   (if b0.length+1≤Ds then(
   R5 t1 t14 t15 (AX (t16+1)) (b0++[((t14.getD (t16.toNat) (0,0,false,[],())).1,(t14.getD (t16.toNat) (0,0,false,[],())).2.1,(t14.getD (t16.toNat) (0,0,false,[],())).2.2.1,(t14.getD (t16.toNat) (0,0,false,[],())).2.2.2.1,())]))else none)
  (R5 t1 t14 t15 (AX (t16+1)) b0))else none)
 (some (((),()),(b0,())))
def Lf:Nat→Sy
 |0=>fun _ _ _ _ _=>none
 |n+1=>VB (Lf n)
def VN(R5:Sy)(p0:ACP)(p1:Int):Option Jw:=
 (FD (p0.1,p0.2.1,p0.2.2.1,())).bind fun u1=>
 cond (!u1.1.1)
  (some (((),()),([],())))
 (R5 p1 p0.1 (p0.1.length:Int) 0 [])
def Ph(p0:ACP)(p1:Int):Option Jw:=VN (Lf Ae) p0 p1
abbrev J3:Type:=ADu×ACm
abbrev TG:Type:=AA_→Int→Int→List Int→Int→Int→Int→List Int→AA_→Bool→List AAH→Int→Int→Bool→List Int→AA_→List AAH→Int→Int→Bool→List Int→AA_→List AAH→Option J3
def VC(R6:TG)(t31:AA_)(t32 t33:Int)(AR:AAH)(AE Co Bj:Int)(Ee:AAH)(Gt:AA_)(MQ:Bool)(D_:List AAH)(Zj PO:Int)(tN:Bool)(b3:AAH)(b4:AA_)(b5:List AAH)(td tQ:Int)(uS:Bool)(b7:AAH)(b8:AA_)(b9:List AAH):Option J3:=
 cond (decide (t33<t32))
  (if(0:Int)≤t33∧t33<(t31.length:Int)then(
  (FB ((t31.getD (t33.toNat) (0,0,false,[],())).1)).bind fun u7=>
  cond (u7.1.1==Bj)
   ((WA ((t31.getD (t33.toNat) (0,0,false,[],())).1,(t31.getD (t33.toNat) (0,0,false,[],())).2.1,(t31.getD (t33.toNat) (0,0,false,[],())).2.2.1,(t31.getD (t33.toNat) (0,0,false,[],())).2.2.2.1,()) b8).bind fun u8=>
   R6 t31 t32 (AX (t33+1)) AR AE Co Bj Ee Gt MQ D_ Zj PO tN b3 b4 b5 td tQ uS b7 u8.2.2.1 b9)
  (R6 t31 t32 (AX (t33+1)) AR AE Co Bj Ee Gt MQ D_ Zj PO tN b3 b4 b5 td tQ uS b7 b8 b9))else none)
 ((Hj (AR,AE,()) (td,tQ,b7,b8,uS,b9,())).bind fun u9=>
 cond (!u9.1.1)
  ((GQ (Co,Bj,Ee,Gt,MQ,D_,())).bind fun EW=>
  some ((((EW.1.1.1,EW.1.1.2.1,(),(),EW.1.1.2.2.2.2.1,(),()),false,()),()),(EW.2.1,EW.2.2.1,EW.2.2.2.1,())))
 (some ((((td,tQ,(),(),uS,(),()),true,()),()),(b7,b8,b9,()))))
def Ll:Nat→TG
 |0=>fun _ _ _ _ _ _ _ _ _ _ _ _ _ _ _ _ _ _ _ _ _ _ _=>none
 |n+1=>VC (Ll n)
def U_(R6:TG)(p0:ABO)(p1:ABi)(p2:Int)(p3:AA_):Option J3:=
 (Hj (p0.1,p0.2.1,()) (p1.1,p1.2.1,p1.2.2.1,p1.2.2.2.1,p1.2.2.2.2.1,p1.2.2.2.2.2.1,())).bind fun u1=>
 cond (!u1.1.1)
  ((En (p0.1,p0.2.1,()) (p1.1,p1.2.1,p1.2.2.1,p1.2.2.2.1,p1.2.2.2.2.1,p1.2.2.2.2.2.1,())).bind fun u2=>
  some ((((u2.1.1.1,u2.1.1.2.1,(),(),u2.1.1.2.2.2.2.1,(),()),false,()),()),(u2.2.1,u2.2.2.1,u2.2.2.2.1,())))
 (cond (p1.2.2.2.2.1)
  ((En (p0.1,p0.2.1,()) (p1.1,p1.2.1,p1.2.2.1,p1.2.2.2.1,p1.2.2.2.2.1,p1.2.2.2.2.2.1,())).bind fun u3=>
  some ((((u3.1.1.1,u3.1.1.2.1,(),(),u3.1.1.2.2.2.2.1,(),()),false,()),()),(u3.2.1,u3.2.2.1,u3.2.2.2.1,())))
 ((GQ (p1.1,p1.2.1,p1.2.2.1,p1.2.2.2.1,p1.2.2.2.2.1,p1.2.2.2.2.2.1,())).bind fun u4=>
 (Kl u4.2.1 p2).bind fun u5=>
 R6 p3 (p3.length:Int) 0 p0.1 p0.2.1 p1.1 p1.2.1 p1.2.2.1 p1.2.2.2.1 p1.2.2.2.2.1 p1.2.2.2.2.2.1 0 0 false [] [] [] u4.1.1.1 u4.1.1.2.1 u4.1.1.2.2.2.2.1 u5.2.1 u4.2.2.1 u4.2.2.2.1))
def PX(p0:ABO)(p1:ABi)(p2:Int)(p3:AA_):Option J3:=U_ (Ll Ae) p0 p1 p2 p3
abbrev iY:Type:=ABp×ACq
def Jr(p1 AE AU:Int)(AK:Bool)(b1:AAH)(b2:AAQ)(b3:AAH)(b4:AAk)(b5:AAt)(b6:AAu)(b7:AA2)(b8:AAs):Option iY:=
 cond (((b6.length:Int)==0))
  (some ((2,()),(((),AE,(),(),(),AU,(),(),(),(),AK,()),b1,b2,b3,b4,b5,b6,b7,b8,())))
 (if(0:Int)≤(0:Int)∧(0:Int)<(b6.length:Int)then(
 (Dg (b1,AE,b2,b3,b4,AU,b5,b6,b7,b8,AK,()) p1 ((b6.getD 0 (0,0,[],[],false,[],())).2.1)).bind fun u3=>
 cond (u3.1.1 !=0)
  (some ((u3.1.1,()),(((),AE,(),(),(),AU,(),(),(),(),AK,()),b1,b2,b3,b4,b5,b6,b7,b8,())))
 (if(0:Int)≤p1∧p1<(b2.length:Int)then(
 (Np ((b2.getD (p1.toNat) ([],[],0,())).1,(b2.getD (p1.toNat) ([],[],0,())).2.1,(b2.getD (p1.toNat) ([],[],0,())).2.2.1,()) (AX (((b6.getD 0 (0,0,[],[],false,[],())).1)-1))).bind fun u5=>
 (Ph (u5.2.1,u5.2.2.1,u5.1.1.1.2.2.1,()) ((b6.getD 0 (0,0,[],[],false,[],())).2.1)).bind fun u7=>
 (PX (b1,AE,()) ((b6.getD 0 (0,0,[],[],false,[],())).1,(b6.getD 0 (0,0,[],[],false,[],())).2.1,(b6.getD 0 (0,0,[],[],false,[],())).2.2.1,(b6.getD 0 (0,0,[],[],false,[],())).2.2.2.1,(b6.getD 0 (0,0,[],[],false,[],())).2.2.2.2.1,(b6.getD 0 (0,0,[],[],false,[],())).2.2.2.2.2.1,()) p1 u7.2.1).bind fun u8=>
 cond (!u5.1.1.2.1)
  (some ((4,()),(((),AE,(),(),(),AU,(),(),(),(),AK,()),b1,b2,b3,b4,b5,b6,b7,b8,())))
 (cond (!u8.1.1.2.1)
  (some ((4,()),(((),AE,(),(),(),AU,(),(),(),(),AK,()),b1,b2,b3,b4,b5,b6,b7,b8,())))
 (if(0:Int)≤p1∧p1<(b2.length:Int)then(
 if(0:Int)≤(0:Int)∧(0:Int)<(b6.length:Int)then(
 some ((0,()),(((),AE,(),(),(),AU,(),(),(),(),AK,()),b1,(b2.set (p1.toNat) (u5.2.1,u5.2.2.1,u5.1.1.1.2.2.1,())),b3,b4,b5,(b6.set 0 (u8.1.1.1.1,u8.1.1.1.2.1,u8.2.1,u8.2.2.1,u8.1.1.1.2.2.2.2.1,u8.2.2.2.1,())),b7,b8,())))else none)else none)))else none))else none)
abbrev bj:Type:=ADu×ACm
def Pb(p0:ABO)(p1:ABi)(p2:AAH):Option bj:=
 (Hj (p0.1,p0.2.1,()) (p1.1,p1.2.1,p1.2.2.1,p1.2.2.2.1,p1.2.2.2.2.1,p1.2.2.2.2.2.1,())).bind fun u1=>
 cond (!u1.1.1)
  ((En (p0.1,p0.2.1,()) (p1.1,p1.2.1,p1.2.2.1,p1.2.2.2.1,p1.2.2.2.2.1,p1.2.2.2.2.2.1,())).bind fun u2=>
  some ((((u2.1.1.1,u2.1.1.2.1,(),(),u2.1.1.2.2.2.2.1,(),()),false,()),()),(u2.2.1,u2.2.2.1,u2.2.2.2.1,())))
 (cond (p1.2.2.2.2.1)
  ((En (p0.1,p0.2.1,()) (p1.1,p1.2.1,p1.2.2.1,p1.2.2.2.1,p1.2.2.2.2.1,p1.2.2.2.2.2.1,())).bind fun u3=>
  some ((((u3.1.1.1,u3.1.1.2.1,(),(),u3.1.1.2.2.2.2.1,(),()),false,()),()),(u3.2.1,u3.2.2.1,u3.2.2.2.1,())))
 ((Mx p1.2.2.1 p2).bind fun u4=>
 (G1 (p0.1,p0.2.1,()) p2 u4.2.1).bind fun u5=>
 cond (!u5.1.1)
  ((En (p0.1,p0.2.1,()) (p1.1,p1.2.1,p1.2.2.1,p1.2.2.2.1,p1.2.2.2.2.1,p1.2.2.2.2.2.1,())).bind fun u6=>
  some ((((u6.1.1.1,u6.1.1.2.1,(),(),u6.1.1.2.2.2.2.1,(),()),false,()),()),(u6.2.1,u6.2.2.1,u6.2.2.2.1,())))
 ((GQ (p1.1,p1.2.1,p1.2.2.1,p1.2.2.2.1,p1.2.2.2.2.1,p1.2.2.2.2.2.1,())).bind fun u7=>
 (Rs (p1.1,p1.2.1,p1.2.2.1,p1.2.2.2.1,p1.2.2.2.2.1,p1.2.2.2.2.2.1,())).bind fun u8=>
 if(0:Int)≤u8.1.1∧u8.1.1≤u8.1.1∧u8.1.1≤(Ds:Int)then(
 some ((((u7.1.1.1,u7.1.1.2.1,(),(),true,(),()),true,()),()),(u7.2.1,u7.2.2.1,(List.replicate (u8.1.1.toNat) []),())))else none)))
abbrev gh:Type:=ABp×ACq
def Jt(AE AU:Int)(AK:Bool)(b1:AAH)(b2:AAQ)(b3:AAH)(b4:AAk)(b5:AAt)(b6:AAu)(b7:AA2)(b8:AAs):Option gh:=
 cond (((b6.length:Int)==0))
  (some ((2,()),(((),AE,(),(),(),AU,(),(),(),(),AK,()),b1,b2,b3,b4,b5,b6,b7,b8,())))
 (if(0:Int)≤(0:Int)∧(0:Int)<(b6.length:Int)then(
 if(0:Int)≤(0:Int)∧(0:Int)<(b6.length:Int)then(
 (Il (b4,AU,()) ((b6.getD 0 (0,0,[],[],false,[],())).2.1)).bind fun u3=>
 (Pb (b1,AE,()) ((b6.getD 0 (0,0,[],[],false,[],())).1,(b6.getD 0 (0,0,[],[],false,[],())).2.1,(b6.getD 0 (0,0,[],[],false,[],())).2.2.1,(b6.getD 0 (0,0,[],[],false,[],())).2.2.2.1,(b6.getD 0 (0,0,[],[],false,[],())).2.2.2.2.1,(b6.getD 0 (0,0,[],[],false,[],())).2.2.2.2.2.1,()) u3.2.1).bind fun u4=>
 if(0:Int)≤(0:Int)∧(0:Int)<(b6.length:Int)then(
 (J0 u4.1.1.2.1).bind fun u6=>
 some ((u6.1.1,()),(((),AE,(),(),(),AU,(),(),(),(),AK,()),b1,b2,b3,b4,b5,(b6.set 0 (u4.1.1.1.1,u4.1.1.1.2.1,u4.2.1,u4.2.2.1,u4.1.1.1.2.2.2.2.1,u4.2.2.2.1,())),b7,b8,())))else none)else none)else none)
abbrev je:Type:=ABp×ACq
def RF(p1 p2 AE AU:Int)(AK:Bool)(b1:AAH)(b2:AAQ)(b3:AAH)(b4:AAk)(b5:AAt)(b6:AAu)(b7:AA2)(b8:AAs):Option je:=
 cond (((b6.length:Int)==0))
  (some ((2,()),(((),AE,(),(),(),AU,(),(),(),(),AK,()),b1,b2,b3,b4,b5,b6,b7,b8,())))
 (if(0:Int)≤(0:Int)∧(0:Int)<(b6.length:Int)then(
 (JS ((b6.getD 0 (0,0,[],[],false,[],())).1,(b6.getD 0 (0,0,[],[],false,[],())).2.1,(b6.getD 0 (0,0,[],[],false,[],())).2.2.1,(b6.getD 0 (0,0,[],[],false,[],())).2.2.2.1,(b6.getD 0 (0,0,[],[],false,[],())).2.2.2.2.1,(b6.getD 0 (0,0,[],[],false,[],())).2.2.2.2.2.1,()) p1).bind fun u2=>
 cond (!u2.1.1.2.1)
  (some ((2,()),(((),AE,(),(),(),AU,(),(),(),(),AK,()),b1,b2,b3,b4,b5,b6,b7,b8,())))
 (if(0:Int)≤(0:Int)∧(0:Int)<(b6.length:Int)then(
 (Dg (b1,AE,b2,b3,b4,AU,b5,b6,b7,b8,AK,()) p2 ((b6.getD 0 (0,0,[],[],false,[],())).2.1)).bind fun u4=>
 cond (u4.1.1 !=0)
  (some ((u4.1.1,()),(((),AE,(),(),(),AU,(),(),(),(),AK,()),b1,b2,b3,b4,b5,b6,b7,b8,())))
 ((Lj p2 (u2.1.1.1.1,u2.1.1.1.2.1,u2.1.1.1.2.2.1,u2.1.1.1.2.2.2.1,()) AE AU AK b1 b2 b3 b4 b5 b6 b7 b8).bind fun u5=>
 some ((u5.1.1,()),(((),u5.2.1.2.1,(),(),(),u5.2.1.2.2.2.2.2.1,(),(),(),(),u5.2.1.2.2.2.2.2.2.2.2.2.2.1,()),u5.2.2.1,u5.2.2.2.1,u5.2.2.2.2.1,u5.2.2.2.2.2.1,u5.2.2.2.2.2.2.1,u5.2.2.2.2.2.2.2.1,u5.2.2.2.2.2.2.2.2.1,u5.2.2.2.2.2.2.2.2.2.1,()))))else none))else none)
abbrev LJ:Type:=ABZ×Unit
abbrev Rk:Type:=List AAH→Int→Int→List Int→Int→Option LJ
def Uh(R4:Rk)(t17:List AAH)(t18 t19:Int)(AR:AAH)(AE:Int):Option LJ:=
 cond (decide (t19<t18))
  (if(0:Int)≤t19∧t19<(t17.length:Int)then(
  (Ge (AR,AE,()) (t17.getD (t19.toNat) [])).bind fun u3=>
  cond (!u3.1.1)
   (some ((false,()),()))
  (R4 t17 t18 (AX (t19+1)) AR AE))else none)
 (some ((true,()),()))
def KL:Nat→Rk
 |0=>fun _ _ _ _ _=>none
 |n+1=>Uh (KL n)
def UK(R4:Rk)(p0:ABO)(p1:ABi):Option LJ:=
 (Hj (p0.1,p0.2.1,()) (p1.1,p1.2.1,p1.2.2.1,p1.2.2.2.1,p1.2.2.2.2.1,p1.2.2.2.2.2.1,())).bind fun u1=>
 cond (!u1.1.1)
  (some ((false,()),()))
 (cond (!p1.2.2.2.2.1)
  (some ((false,()),()))
 (R4 p1.2.2.2.2.2.1 (p1.2.2.2.2.2.1.length:Int) 0 p0.1 p0.2.1))
def Nk(p0:ABO)(p1:ABi):Option LJ:=UK (KL Ae) p0 p1
abbrev bJ:Type:=AE6×ACt
def Pd(p0:ABO)(p1:ACC)(p2 p3:Int):Option bJ:=
 (La (p1.1,p1.2.1,())).bind fun u1=>
 (Kc (p0.1,p0.2.1,()) (p1.1,p1.2.1,())).bind fun u2=>
 cond (!u2.1.1)
  ((EK (p0.1,p0.2.1,()) (p1.1,p1.2.1,())).bind fun u3=>
  some (((((),u3.1.1.2.1,()),false,()),()),(u3.2.1,())))
 (cond ((p2 !=(p1.1.length:Int)))
  ((EK (p0.1,p0.2.1,()) (p1.1,p1.2.1,())).bind fun u5=>
  some (((((),u5.1.1.2.1,()),false,()),()),(u5.2.1,())))
 (cond (u1.1.1==p2)
  ((EK (p0.1,p0.2.1,()) (p1.1,p1.2.1,())).bind fun u6=>
  some (((((),u6.1.1.2.1,()),false,()),()),(u6.2.1,())))
 ((A4 p3 0 60).bind fun u7=>
 cond (!u7.1.1)
  ((EK (p0.1,p0.2.1,()) (p1.1,p1.2.1,())).bind fun u8=>
  some (((((),u8.1.1.2.1,()),false,()),()),(u8.2.1,())))
 ((ET (p1.1,p1.2.1,())).bind fun u9=>
 if(0:Int)≤AX (u1.1.1-1)∧AX (u1.1.1-1)<(u9.2.1.length:Int)then(
 let x10:AAk:=(u9.2.1.set ((AX (u1.1.1-1)).toNat) ((u9.2.1.getD ((AX (u1.1.1-1)).toNat) ([],false,0,())).1,true,(u9.2.1.getD ((AX (u1.1.1-1)).toNat) ([],false,0,())).2.2.1,()))
 if(0:Int)≤AX (u1.1.1-1)∧AX (u1.1.1-1)<(x10.length:Int)then(
 some (((((),u9.1.1.2.1,()),true,()),()),((x10.set ((AX (u1.1.1-1)).toNat) ((x10.getD ((AX (u1.1.1-1)).toNat) ([],false,0,())).1,(x10.getD ((AX (u1.1.1-1)).toNat) ([],false,0,())).2.1,p3,())),())))else none)else none))))
abbrev Wr:Type:=ABp×(ACr×List Int×AAQ×List Int×Unit×AAt×Unit×AA2×AAs×AAk×AAu×Unit)
def I3(AE AU:Int)(AK:Bool)(b1:AAH)(b2:AAQ)(b3:AAH)(b4:AAk)(b5:AAt)(b6:AAu)(b7:AA2)(b8:AAs):Option Wr:=
 cond (((b6.length:Int)==0))
  (some ((2,()),(((),AE,(),(),(),AU,(),(),(),(),AK,()),b1,b2,b3,(),b5,(),b7,b8,b4,b6,())))
 (if(0:Int)≤(0:Int)∧(0:Int)<(b6.length:Int)then(
 (Nk (b1,AE,()) ((b6.getD 0 (0,0,[],[],false,[],())).1,(b6.getD 0 (0,0,[],[],false,[],())).2.1,(b6.getD 0 (0,0,[],[],false,[],())).2.2.1,(b6.getD 0 (0,0,[],[],false,[],())).2.2.2.1,(b6.getD 0 (0,0,[],[],false,[],())).2.2.2.2.1,(b6.getD 0 (0,0,[],[],false,[],())).2.2.2.2.2.1,())).bind fun u2=>
 cond (!u2.1.1)
  (some ((5,()),(((),AE,(),(),(),AU,(),(),(),(),AK,()),b1,b2,b3,(),b5,(),b7,b8,b4,b6,())))
 (if(0:Int)≤(0:Int)∧(0:Int)<(b6.length:Int)then(
 if(0:Int)≤(0:Int)∧(0:Int)<(b6.length:Int)then(
 (Pd (b1,AE,()) (b4,AU,()) ((b6.getD 0 (0,0,[],[],false,[],())).1) (((b6.getD 0 (0,0,[],[],false,[],())).2.2.2.2.2.1).length:Int)).bind fun u5=>
 cond (u5.1.1.2.1)
  ((J0 u5.1.1.2.1).bind fun u6=>
  some ((u6.1.1,()),(((),AE,(),(),(),u5.1.1.1.2.1,(),(),(),(),AK,()),b1,b2,b3,(),b5,(),b7,b8,u5.2.1,[],())))
 ((J0 u5.1.1.2.1).bind fun u7=>
 some ((u7.1.1,()),(((),AE,(),(),(),AU,(),(),(),(),AK,()),b1,b2,b3,(),b5,(),b7,b8,b4,b6,()))))else none)else none))else none)
abbrev qK:Type:=AE6×ACt
def Vf(p0:ABO)(p1:ACC)(p2:Int):Option qK:=
 (Kc (p0.1,p0.2.1,()) (p1.1,p1.2.1,())).bind fun u1=>
 cond (!u1.1.1)
  ((EK (p0.1,p0.2.1,()) (p1.1,p1.2.1,())).bind fun u2=>
  some (((((),u2.1.1.2.1,()),false,()),()),(u2.2.1,())))
 ((FB p2).bind fun u3=>
 (A4 u3.1.1 1 (p1.1.length:Int)).bind fun u4=>
 cond (!u4.1.1)
  ((EK (p0.1,p0.2.1,()) (p1.1,p1.2.1,())).bind fun u5=>
  some (((((),u5.1.1.2.1,()),false,()),()),(u5.2.1,())))
 ((ET (p1.1,p1.2.1,())).bind fun u6=>
 some (((((),(if p2>u6.1.1.2.1 then p2 else u6.1.1.2.1),()),true,()),()),(u6.2.1,()))))
abbrev gY:Type:=ABZ×Unit
def Oj(p0:ACg)(p1:ABp):Option gY:=
 some ((decide (p0.1≤p1.1),()),())
abbrev Bq:Type:=ABp×Unit
abbrev CZ:Type:=AA_→ACi→Int→Int→Option Bq
def DX(R2:CZ)(t0:AA_)(t1:ACi)(t7 t8:Int):Option Bq:=
 cond (decide (t8<t7))
  (if(0:Int)≤t8∧t8<(t0.length:Int)then(
  (Oj ((t0.getD (t8.toNat) (0,0,false,[],())).1,(t0.getD (t8.toNat) (0,0,false,[],())).2.1,(t0.getD (t8.toNat) (0,0,false,[],())).2.2.1,(t0.getD (t8.toNat) (0,0,false,[],())).2.2.2.1,()) t1.1).bind fun u1=>
  cond (u1.1.1)
   (some ((t8,()),()))
  (R2 t0 (t1.1,()) t7 (AX (t8+1))))else none)
 (some (((-1),()),()))
def BH:Nat→CZ
 |0=>fun _ _ _ _=>none
 |n+1=>DX (BH n)
def DW(R2:CZ)(p0:AA_)(p1:ACi):Option Bq:=
 R2 p0 (p1.1,()) (p0.length:Int) 0
def Cn(p0:AA_)(p1:ACi):Option Bq:=DW (BH Ae) p0 p1
abbrev Bn:Type:=ACL×AFk
abbrev CU:Type:=ACi→Int→Int→AA_→Option Bn
def DO(R5:CU)(t1:ACi)(t5 t6:Int)(b0:AA_):Option Bn:=
 cond ((decide (t6<(b0.length:Int))))
  (if(0:Int)≤t6∧t6<(b0.length:Int)then(
  (Oj ((b0.getD (t6.toNat) (0,0,false,[],())).1,(b0.getD (t6.toNat) (0,0,false,[],())).2.1,(b0.getD (t6.toNat) (0,0,false,[],())).2.2.1,(b0.getD (t6.toNat) (0,0,false,[],())).2.2.2.1,()) t1.1).bind fun u3=>
  cond (!u3.1.1)
   (if(0:Int)≤t5∧t5<(b0.length:Int)then(
   R5 (t1.1,()) (AX (t5+1)) (AX (t6+1)) (b0.set (t5.toNat) ((b0.getD (t6.toNat) (0,0,false,[],())).1,(b0.getD (t6.toNat) (0,0,false,[],())).2.1,(b0.getD (t6.toNat) (0,0,false,[],())).2.2.1,(b0.getD (t6.toNat) (0,0,false,[],())).2.2.2.1,())))else none)
  (R5 (t1.1,()) t5 (AX (t6+1)) b0))else none)
 (if(0:Int)≤t5∧t5≤(b0.length:Int)∧(b0.length:Int)≤(b0.length:Int)then(
 let x5:AA_:=(b0.take (t5.toNat)++List.replicate (((b0.length:Int).toNat)-(t5.toNat)) (0,0,false,[],())++b0.drop ((t5.toNat)+(((b0.length:Int).toNat)-(t5.toNat))))
 if(0:Int)≤(0:Int)∧(0:Int)≤t5∧t5≤(x5.length:Int)then(
 some (((),()),((),((x5.drop 0).take ((t5.toNat)-0)),())))else none)else none)
def BE:Nat→CU
 |0=>fun _ _ _ _=>none
 |n+1=>DO (BE n)
def DM(R5:CU)(p1:ACi)(b0:AA_):Option Bn:=
 (Cn b0 (p1.1,())).bind fun u1=>
 cond (u1.1.1==(-1))
  (some (((),()),((),b0,())))
 (R5 (p1.1,()) u1.1.1 (AX (u1.1.1+1)) b0)
def Bv(p1:ACi)(b0:AA_):Option Bn:=DM (BE Ae) p1 b0
abbrev kg:Type:=ACo×ACl
def RN(p0:ACP)(p1:Int):Option kg:=
 (FD (p0.1,p0.2.1,p0.2.2.1,())).bind fun u1=>
 cond (!u1.1.1)
  ((Dk (p0.1,p0.2.1,p0.2.2.1,())).bind fun u2=>
  some (((((),(),u2.1.1.2.2.1,()),false,()),()),(u2.2.1,u2.2.2.1,())))
 ((D6 p1).bind fun u3=>
 cond (!u3.1.1)
  ((Dk (p0.1,p0.2.1,p0.2.2.1,())).bind fun u4=>
  some (((((),(),u4.1.1.2.2.1,()),false,()),()),(u4.2.1,u4.2.2.1,())))
 ((C9 (p0.1,p0.2.1,p0.2.2.1,())).bind fun u5=>
 (Bv ((p1,()),()) u5.2.1).bind fun u6=>
 some (((((),(),u5.1.1.2.2.1,()),true,()),()),(u6.2.2.1,u5.2.2.1,()))))
abbrev fo:Type:=ABp×ACq
def Oq(p1 AE AU:Int)(AK:Bool)(b1:AAH)(b2:AAQ)(b3:AAH)(b4:AAk)(b5:AAt)(b6:AAu)(b7:AA2)(b8:AAs):Option fo:=
 (EM (b1,AE,b2,b3,b4,AU,b5,b6,b7,b8,AK,()) p1).bind fun u1=>
 cond (u1.1.1 !=0)
  (some ((u1.1.1,()),(((),AE,(),(),(),AU,(),(),(),(),AK,()),b1,b2,b3,b4,b5,b6,b7,b8,())))
 (if(0:Int)≤p1∧p1<(b2.length:Int)then(
 (RN ((b2.getD (p1.toNat) ([],[],0,())).1,(b2.getD (p1.toNat) ([],[],0,())).2.1,(b2.getD (p1.toNat) ([],[],0,())).2.2.1,()) AU).bind fun u2=>
 if(0:Int)≤p1∧p1<(b2.length:Int)then(
 (J0 u2.1.1.2.1).bind fun u4=>
 some ((u4.1.1,()),(((),AE,(),(),(),AU,(),(),(),(),AK,()),b1,(b2.set (p1.toNat) (u2.2.1,u2.2.2.1,u2.1.1.1.2.2.1,())),b3,b4,b5,b6,b7,b8,())))else none)else none)
abbrev Nb:Type:=ACL×(Unit×AAt×Unit)
def FC(p1 p2:Int)(b0:AAt):Option Nb:=(ADx p1 p2 b0).map fun l=>(((),()),((),l,()))
abbrev bI:Type:=ABp×(ACr×List Int×AAQ×Unit×Unit×Unit×Unit×AA2×Unit×List Int×AAk×AAt×AAu×AAs×Unit)
def Tp(p1:ACa)(AE AU:Int)(AK:Bool)(b1:AAH)(b2:AAQ)(b3:AAH)(b4:AAk)(b5:AAt)(b6:AAu)(b7:AA2)(b8:AAs):Option bI:=
 cond (p1.1==1)
  ((J5 p1.2.1 AE AU AK b1 b2 b3 b4 b5 b6 b7 b8).bind fun u1=>
  some ((u1.1.1,()),(((),u1.2.1.2.1,(),(),(),u1.2.1.2.2.2.2.2.1,(),(),(),(),u1.2.1.2.2.2.2.2.2.2.2.2.2.1,()),u1.2.2.1,u1.2.2.2.1,(),(),(),(),u1.2.2.2.2.2.2.2.2.1,(),u1.2.2.2.2.1,u1.2.2.2.2.2.2.2.2.2.2.1,u1.2.2.2.2.2.2.2.2.2.2.2.1,u1.2.2.2.2.2.2.2.2.2.2.2.2.1,u1.2.2.2.2.2.2.2.2.2.1,())))
 (cond (p1.1==2)
  ((Lo p1.2.1 p1.2.2.2.2.1 AE AU AK b1 b2 b3 b4 b5 b6 b7 b8).bind fun u6=>
  some ((u6.1.1,()),(((),u6.2.1.2.1,(),(),(),u6.2.1.2.2.2.2.2.1,(),(),(),(),u6.2.1.2.2.2.2.2.2.2.2.2.2.1,()),u6.2.2.1,u6.2.2.2.1,(),(),(),(),u6.2.2.2.2.2.2.2.2.1,(),u6.2.2.2.2.1,u6.2.2.2.2.2.1,u6.2.2.2.2.2.2.1,u6.2.2.2.2.2.2.2.1,u6.2.2.2.2.2.2.2.2.2.2.1,())))
 (cond (p1.1==3)
  ((I2 (p1.1,p1.2.1,p1.2.2.1,p1.2.2.2.1,p1.2.2.2.2.1,()) AE AU AK b1 b2 b3 b4 b5 b6 b7 b8).bind fun u8=>
  some ((u8.1.1,()),(((),u8.2.1.2.1,(),(),(),u8.2.1.2.2.2.2.2.1,(),(),(),(),u8.2.1.2.2.2.2.2.2.2.2.2.2.1,()),u8.2.2.1,u8.2.2.2.1,(),(),(),(),u8.2.2.2.2.2.2.2.2.1,(),u8.2.2.2.2.1,u8.2.2.2.2.2.1,u8.2.2.2.2.2.2.1,u8.2.2.2.2.2.2.2.1,u8.2.2.2.2.2.2.2.2.2.1,())))
 (cond (p1.1==4)
  ((Pp p1.2.1 AE AU AK b1 b2 b3 b4 b5 b6 b7 b8).bind fun EW=>
  some ((EW.1.1,()),(((),EW.2.1.2.1,(),(),(),EW.2.1.2.2.2.2.2.1,(),(),(),(),EW.2.1.2.2.2.2.2.2.2.2.2.2.1,()),EW.2.2.1,EW.2.2.2.1,(),(),(),(),EW.2.2.2.2.2.2.2.2.1,(),EW.2.2.2.2.1,EW.2.2.2.2.2.1,EW.2.2.2.2.2.2.1,EW.2.2.2.2.2.2.2.1,EW.2.2.2.2.2.2.2.2.2.1,())))
 (cond (p1.1==5)
  ((O7 p1.2.1 p1.2.2.1 AE AU AK b1 b2 b3 b4 b5 b6 b7 b8).bind fun V5=>
  some ((V5.1.1,()),(((),V5.2.1.2.1,(),(),(),V5.2.1.2.2.2.2.2.1,(),(),(),(),V5.2.1.2.2.2.2.2.2.2.2.2.2.1,()),V5.2.2.1,V5.2.2.2.1,(),(),(),(),V5.2.2.2.2.2.2.2.2.1,(),V5.2.2.2.2.1,V5.2.2.2.2.2.1,V5.2.2.2.2.2.2.1,V5.2.2.2.2.2.2.2.1,V5.2.2.2.2.2.2.2.2.2.1,())))
 (cond (p1.1==6)
  ((P2 p1.2.1 AE AU AK b1 b2 b3 b4 b5 b6 b7 b8).bind fun u16=>
  some ((u16.1.1,()),(((),u16.2.1.2.1,(),(),(),u16.2.1.2.2.2.2.2.1,(),(),(),(),u16.2.1.2.2.2.2.2.2.2.2.2.2.1,()),u16.2.2.1,u16.2.2.2.1,(),(),(),(),u16.2.2.2.2.2.2.2.2.1,(),u16.2.2.2.2.2.2.2.2.2.2.1,u16.2.2.2.2.2.1,u16.2.2.2.2.2.2.1,u16.2.2.2.2.2.2.2.1,u16.2.2.2.2.2.2.2.2.2.1,())))
 (cond (p1.1==7)
  ((Js p1.2.1 AE AU AK b1 b2 b3 b4 b5 b6 b7 b8).bind fun SO=>
  some ((SO.1.1,()),(((),SO.2.1.2.1,(),(),(),SO.2.1.2.2.2.2.2.1,(),(),(),(),SO.2.1.2.2.2.2.2.2.2.2.2.2.1,()),SO.2.2.1,SO.2.2.2.1,(),(),(),(),SO.2.2.2.2.2.2.2.2.1,(),SO.2.2.2.2.2.2.2.2.2.2.1,SO.2.2.2.2.2.1,SO.2.2.2.2.2.2.1,SO.2.2.2.2.2.2.2.1,SO.2.2.2.2.2.2.2.2.2.1,())))
 (cond (p1.1==8)
  ((P0 AE AU AK b1 b2 b3 b4 b5 b6 b7 b8).bind fun XY=>
  some ((XY.1.1,()),(((),XY.2.1.2.1,(),(),(),XY.2.1.2.2.2.2.2.1,(),(),(),(),XY.2.1.2.2.2.2.2.2.2.2.2.2.1,()),XY.2.2.1,XY.2.2.2.1,(),(),(),(),XY.2.2.2.2.2.2.2.2.1,(),XY.2.2.2.2.1,XY.2.2.2.2.2.1,XY.2.2.2.2.2.2.1,XY.2.2.2.2.2.2.2.2.2.2.1,XY.2.2.2.2.2.2.2.2.2.1,())))
 (cond (p1.1==9)
  ((Jr p1.2.1 AE AU AK b1 b2 b3 b4 b5 b6 b7 b8).bind fun XX=>
  some ((XX.1.1,()),(((),XX.2.1.2.1,(),(),(),XX.2.1.2.2.2.2.2.1,(),(),(),(),XX.2.1.2.2.2.2.2.2.2.2.2.2.1,()),XX.2.2.1,XX.2.2.2.1,(),(),(),(),XX.2.2.2.2.2.2.2.2.1,(),XX.2.2.2.2.1,XX.2.2.2.2.2.1,XX.2.2.2.2.2.2.1,XX.2.2.2.2.2.2.2.1,XX.2.2.2.2.2.2.2.2.2.1,())))
 (cond (p1.1==10)
  ((Jt AE AU AK b1 b2 b3 b4 b5 b6 b7 b8).bind fun w8=>
  some ((w8.1.1,()),(((),w8.2.1.2.1,(),(),(),w8.2.1.2.2.2.2.2.1,(),(),(),(),w8.2.1.2.2.2.2.2.2.2.2.2.2.1,()),w8.2.2.1,w8.2.2.2.1,(),(),(),(),w8.2.2.2.2.2.2.2.2.1,(),w8.2.2.2.2.1,w8.2.2.2.2.2.1,w8.2.2.2.2.2.2.1,w8.2.2.2.2.2.2.2.1,w8.2.2.2.2.2.2.2.2.2.1,())))
 (cond (p1.1==11)
  ((RF p1.2.2.1 p1.2.2.2.1 AE AU AK b1 b2 b3 b4 b5 b6 b7 b8).bind fun nY=>
  some ((nY.1.1,()),(((),nY.2.1.2.1,(),(),(),nY.2.1.2.2.2.2.2.1,(),(),(),(),nY.2.1.2.2.2.2.2.2.2.2.2.2.1,()),nY.2.2.1,nY.2.2.2.1,(),(),(),(),nY.2.2.2.2.2.2.2.2.1,(),nY.2.2.2.2.1,nY.2.2.2.2.2.1,nY.2.2.2.2.2.2.1,nY.2.2.2.2.2.2.2.1,nY.2.2.2.2.2.2.2.2.2.1,())))
 (cond (p1.1==12)
  ((I3 AE AU AK b1 b2 b3 b4 b5 b6 b7 b8).bind fun lF=>
  some ((lF.1.1,()),(((),lF.2.1.2.1,(),(),(),lF.2.1.2.2.2.2.2.1,(),(),(),(),lF.2.1.2.2.2.2.2.2.2.2.2.2.1,()),lF.2.2.1,lF.2.2.2.1,(),(),(),(),lF.2.2.2.2.2.2.2.2.1,(),lF.2.2.2.2.1,lF.2.2.2.2.2.2.2.2.2.2.1,lF.2.2.2.2.2.2.1,lF.2.2.2.2.2.2.2.2.2.2.2.1,lF.2.2.2.2.2.2.2.2.2.1,())))
 (cond (p1.1==13)
  ((Vf (b1,AE,()) (b4,AU,()) p1.2.1).bind fun u42=>
  (J0 u42.1.1.2.1).bind fun u43=>
  some ((u43.1.1,()),(((),AE,(),(),(),u42.1.1.1.2.1,(),(),(),(),AK,()),b1,b2,(),(),(),(),b7,(),b3,u42.2.1,b5,b6,b8,())))
 (cond (p1.1==14)
  ((Mj p1.2.1 p1.2.2.1 AE AU AK b1 b2 b3 b4 b5 b6 b7 b8).bind fun qZ=>
  some ((qZ.1.1,()),(((),qZ.2.1.2.1,(),(),(),qZ.2.1.2.2.2.2.2.1,(),(),(),(),qZ.2.1.2.2.2.2.2.2.2.2.2.2.1,()),qZ.2.2.1,qZ.2.2.2.1,(),(),(),(),qZ.2.2.2.2.2.2.2.2.1,(),qZ.2.2.2.2.1,qZ.2.2.2.2.2.1,qZ.2.2.2.2.2.2.1,qZ.2.2.2.2.2.2.2.1,qZ.2.2.2.2.2.2.2.2.2.1,())))
 (cond (p1.1==16)
  ((Oq p1.2.1 AE AU AK b1 b2 b3 b4 b5 b6 b7 b8).bind fun rA=>
  some ((rA.1.1,()),(((),rA.2.1.2.1,(),(),(),rA.2.1.2.2.2.2.2.1,(),(),(),(),rA.2.1.2.2.2.2.2.2.2.2.2.2.1,()),rA.2.2.1,rA.2.2.2.1,(),(),(),(),rA.2.2.2.2.2.2.2.2.1,(),rA.2.2.2.2.1,rA.2.2.2.2.2.1,rA.2.2.2.2.2.2.1,rA.2.2.2.2.2.2.2.1,rA.2.2.2.2.2.2.2.2.2.1,())))
 ((A4 p1.2.1 0 (AX ((b5.length:Int)-1))).bind fun u53=>
 cond (!u53.1.1)
  (some ((2,()),(((),AE,(),(),(),AU,(),(),(),(),AK,()),b1,b2,(),(),(),(),b7,(),b3,b4,b5,b6,b8,())))
 ((FC p1.2.1 (AX (p1.2.1+1)) b5).bind fun u54=>
 some ((0,()),(((),AE,(),(),(),AU,(),(),(),(),AK,()),b1,b2,(),(),(),(),b7,(),b3,b4,u54.2.2.1,b6,b8,()))))))))))))))))))
abbrev Jb:Type:=ACj×ACn
def Gi(p0:ABS)(p1:ACa):Option Jb:=
 (Fm (p0.1,p0.2.1,p0.2.2.1,p0.2.2.2.1,p0.2.2.2.2.1,p0.2.2.2.2.2.1,p0.2.2.2.2.2.2.1,p0.2.2.2.2.2.2.2.1,p0.2.2.2.2.2.2.2.2.1,p0.2.2.2.2.2.2.2.2.2.1,p0.2.2.2.2.2.2.2.2.2.2.1,())).bind fun u1=>
 cond (!u1.1.1)
  (some (((((),0,(),(),(),0,(),(),(),(),false,()),1,()),()),([],[],[],[],[],[],[],[],())))
 ((Xs (p1.1,p1.2.1,p1.2.2.1,p1.2.2.2.1,p1.2.2.2.2.1,())).bind fun u2=>
 cond (!u2.1.1)
  (some (((((),0,(),(),(),0,(),(),(),(),false,()),1,()),()),([],[],[],[],[],[],[],[],())))
 ((N2 (p0.1,p0.2.1,p0.2.2.1,p0.2.2.2.1,p0.2.2.2.2.1,p0.2.2.2.2.2.1,p0.2.2.2.2.2.2.1,p0.2.2.2.2.2.2.2.1,p0.2.2.2.2.2.2.2.2.1,p0.2.2.2.2.2.2.2.2.2.1,p0.2.2.2.2.2.2.2.2.2.2.1,())).bind fun u3=>
 (Tp (p1.1,p1.2.1,p1.2.2.1,p1.2.2.2.1,p1.2.2.2.2.1,()) u3.1.1.2.1 u3.1.1.2.2.2.2.2.1 u3.1.1.2.2.2.2.2.2.2.2.2.2.1 u3.2.1 u3.2.2.1 u3.2.2.2.1 u3.2.2.2.2.1 u3.2.2.2.2.2.1 u3.2.2.2.2.2.2.1 u3.2.2.2.2.2.2.2.1 u3.2.2.2.2.2.2.2.2.1).bind fun u4=>
 cond (u4.1.1 !=0)
  ((N2 (p0.1,p0.2.1,p0.2.2.1,p0.2.2.2.1,p0.2.2.2.2.1,p0.2.2.2.2.2.1,p0.2.2.2.2.2.2.1,p0.2.2.2.2.2.2.2.1,p0.2.2.2.2.2.2.2.2.1,p0.2.2.2.2.2.2.2.2.2.1,p0.2.2.2.2.2.2.2.2.2.2.1,())).bind fun EW=>
  some (((((),EW.1.1.2.1,(),(),(),EW.1.1.2.2.2.2.2.1,(),(),(),(),EW.1.1.2.2.2.2.2.2.2.2.2.2.1,()),u4.1.1,()),()),(EW.2.1,EW.2.2.1,EW.2.2.2.1,EW.2.2.2.2.1,EW.2.2.2.2.2.1,EW.2.2.2.2.2.2.1,EW.2.2.2.2.2.2.2.1,EW.2.2.2.2.2.2.2.2.1,())))
 (some (((((),u4.2.1.2.1,(),(),(),u4.2.1.2.2.2.2.2.1,(),(),(),(),u4.2.1.2.2.2.2.2.2.2.2.2.2.1,()),0,()),()),(u4.2.2.1,u4.2.2.2.1,u4.2.2.2.2.2.2.2.2.2.2.1,u4.2.2.2.2.2.2.2.2.2.2.2.1,u4.2.2.2.2.2.2.2.2.2.2.2.2.1,u4.2.2.2.2.2.2.2.2.2.2.2.2.2.1,u4.2.2.2.2.2.2.2.2.1,u4.2.2.2.2.2.2.2.2.2.2.2.2.2.2.1,())))))
abbrev EO:Type:=((AFl×Unit×AFl×Unit)×Unit)×(ACp×ACk×Unit)
abbrev Ho:Type:=Int→Int→List Int→Int→Int→Int→Int→Bool→List Int→AAQ→List Int→AAk→AAt→AAu→AA2→AAs→Int→Int→Bool→List Int→AAQ→List Int→AAk→AAt→AAu→AA2→AAs→Int→List Int→List Int→Option EO
abbrev Hd:Type:=Int→List Int→List Int→Int→Int→Int→Int→Bool→List Int→AAQ→List Int→AAk→AAt→AAu→AA2→AAs→Int→Int→Bool→List Int→AAQ→List Int→AAk→AAt→AAu→AA2→AAs→List Int→Int→Option EO
abbrev G7:Type:=Int→Int→List Int→Int→Int→Int→Int→Bool→List Int→AAQ→List Int→AAk→AAt→AAu→AA2→AAs→Int→Int→Bool→List Int→AAQ→List Int→AAk→AAt→AAu→AA2→AAs→List Int→Int→AAQ→List Int→AAk→Int→AAt→AAu→AA2→AAs→Bool→List Int→Int→AAQ→List Int→AAk→Int→AAt→AAu→AA2→AAs→Bool→ACk→Option EO
def Qi(R4:Ho)(R7:Hd)(R14:G7)(t1 t9:Int)(AR:AAH)(AE Ah Bj D_:Int)(E5:Bool)(b2:AAH)(b3:AAQ)(b4:AAH)(b5:AAk)(b6:AAt)(b7:AAu)(b8:AA2)(b9:AAs)(Dr Eb:Int)(C4:Bool)(GM:AAH)(D2:AAQ)(Gv:AAH)(Gz:AAk)(ER:AAt)(E8:AAu)(Fh:AA2)(Ui:AAs)(CV:Int)(b20 b21:AAH):Option EO:=
 cond ((decide (t9<(b20.length:Int))))
  (if b21.length+1≤Ds then(
  R4 t1 (AX (t9+1)) AR AE Ah Bj D_ E5 b2 b3 b4 b5 b6 b7 b8 b9 Dr Eb C4 GM D2 Gv Gz ER E8 Fh Ui CV b20 (b21++[t9]))else none)
 (R7 t1 b21 AR AE Ah Bj D_ E5 b2 b3 b4 b5 b6 b7 b8 b9 Dr Eb C4 GM D2 Gv Gz ER E8 Fh Ui b20 CV)
def Qq(R4:Ho)(R7:Hd)(R14:G7)(t1:Int)(t8 AR:AAH)(AE Ah Bj D_:Int)(E5:Bool)(b2:AAH)(b3:AAQ)(b4:AAH)(b5:AAk)(b6:AAt)(b7:AAu)(b8:AA2)(b9:AAs)(Dr Eb:Int)(C4:Bool)(GM:AAH)(D2:AAQ)(Gv:AAH)(Gz:AAk)(ER:AAt)(E8:AAu)(Fh:AA2)(Ui:AAs)(DV:AAH)(CV:Int):Option EO:=
 cond (decide (CV>1))
  ((FK (DV,CV,()) t8).bind fun u3=>
  cond (!u3.1.1)
   (R7 t1 t8 AR AE Ah Bj D_ E5 b2 b3 b4 b5 b6 b7 b8 b9 Dr Eb C4 GM D2 Gv Gz ER E8 Fh Ui DV (AX (CV-1)))
  ((HZ (DV,CV,())).bind fun u4=>
  (Am (AX (t1+1)) AR AE Ah).bind fun u5=>
  R14 u5.1.1 0 u5.2.1.1 u5.2.1.2.1 u5.2.1.2.2.1 Bj D_ E5 b2 b3 b4 b5 b6 b7 b8 b9 Dr Eb C4 GM D2 Gv Gz ER E8 Fh Ui u4.2.1 u4.1.1.1.2.1 u4.2.2.1 u4.2.2.2.1 u4.2.2.2.2.1 u4.1.1.1.2.2.2.2.2.1 u4.2.2.2.2.2.1 u4.2.2.2.2.2.2.1 u4.2.2.2.2.2.2.2.1 u4.2.2.2.2.2.2.2.2.1 u4.1.1.1.2.2.2.2.2.2.2.2.2.2.1 u4.2.1 u4.1.1.1.2.1 u4.2.2.1 u4.2.2.2.1 u4.2.2.2.2.1 u4.1.1.1.2.2.2.2.2.1 u4.2.2.2.2.2.1 u4.2.2.2.2.2.2.1 u4.2.2.2.2.2.2.2.1 u4.2.2.2.2.2.2.2.2.1 u4.1.1.1.2.2.2.2.2.2.2.2.2.2.1 []))
 ((HZ (DV,CV,())).bind fun u6=>
 (Am (AX (t1+1)) AR AE Ah).bind fun u7=>
 R14 u7.1.1 0 u7.2.1.1 u7.2.1.2.1 u7.2.1.2.2.1 Bj D_ E5 b2 b3 b4 b5 b6 b7 b8 b9 Dr Eb C4 GM D2 Gv Gz ER E8 Fh Ui u6.2.1 u6.1.1.1.2.1 u6.2.2.1 u6.2.2.2.1 u6.2.2.2.2.1 u6.1.1.1.2.2.2.2.2.1 u6.2.2.2.2.2.1 u6.2.2.2.2.2.2.1 u6.2.2.2.2.2.2.2.1 u6.2.2.2.2.2.2.2.2.1 u6.1.1.1.2.2.2.2.2.2.2.2.2.2.1 u6.2.1 u6.1.1.1.2.1 u6.2.2.1 u6.2.2.2.1 u6.2.2.2.2.1 u6.1.1.1.2.2.2.2.2.1 u6.2.2.2.2.2.1 u6.2.2.2.2.2.2.1 u6.2.2.2.2.2.2.2.1 u6.2.2.2.2.2.2.2.2.1 u6.1.1.1.2.2.2.2.2.2.2.2.2.2.1 [])
def PV(R4:Ho)(R7:Hd)(R14:G7)(t14 t15:Int)(AR:AAH)(AE Ah Bj D_:Int)(E5:Bool)(b2:AAH)(b3:AAQ)(b4:AAH)(b5:AAk)(b6:AAt)(b7:AAu)(b8:AA2)(b9:AAs)(Dr Eb:Int)(C4:Bool)(GM:AAH)(D2:AAQ)(Gv:AAH)(Gz:AAk)(ER:AAt)(E8:AAu)(Fh:AA2)(Ui:AAs)(DV:AAH)(CV:Int)(Ud:AAQ)(Tx:AAH)(UF:AAk)(UQ:Int)(ADY:AAt)(AEJ:AAu)(AFA:AA2)(AEU:AAs)(yo:Bool)(AAD:AAH)(AAG:Int)(zm:AAQ)(AAL:AAH)(zt:AAk)(AAI:Int)(zu:AAt)(AAJ:AAu)(AAO:AA2)(AAh:AAs)(sx:Bool)(b21:ACk):Option EO:=
 cond (decide (t15<t14))
  ((Ol (AAD,AAG,zm,AAL,zt,AAI,zu,AAJ,AAO,AAh,sx,()) AR AE Ah).bind fun u8=>
  if b21.length+1≤Ds then(
  let x9:ACk:=b21++[(u8.1.1.1,u8.1.1.2.1,u8.1.1.2.2.1,u8.1.1.2.2.2.1,u8.1.1.2.2.2.2.1,())]
  (HY (AAD,AAG,zm,AAL,zt,AAI,zu,AAJ,AAO,AAh,sx,()) (u8.1.1.1,u8.1.1.2.1,u8.1.1.2.2.1,u8.1.1.2.2.2.1,u8.1.1.2.2.2.2.1,())).bind fun EW=>
  cond (EW.1.1.2.1==0)
   (R14 t14 (AX (t15+1)) u8.2.1.1 u8.2.1.2.1 u8.2.1.2.2.1 Bj D_ E5 b2 b3 b4 b5 b6 b7 b8 b9 Dr Eb C4 GM D2 Gv Gz ER E8 Fh Ui DV CV Ud Tx UF UQ ADY AEJ AFA AEU yo EW.2.1 EW.1.1.1.2.1 EW.2.2.1 EW.2.2.2.1 EW.2.2.2.2.1 EW.1.1.1.2.2.2.2.2.1 EW.2.2.2.2.2.1 EW.2.2.2.2.2.2.1 EW.2.2.2.2.2.2.2.1 EW.2.2.2.2.2.2.2.2.1 EW.1.1.1.2.2.2.2.2.2.2.2.2.2.1 x9)
  (R14 t14 (AX (t15+1)) u8.2.1.1 u8.2.1.2.1 u8.2.1.2.2.1 Bj D_ E5 b2 b3 b4 b5 b6 b7 b8 b9 Dr Eb C4 GM D2 Gv Gz ER E8 Fh Ui DV CV Ud Tx UF UQ ADY AEJ AFA AEU yo AAD AAG zm AAL zt AAI zu AAJ AAO AAh sx x9))else none)
 (some ((((DV,CV,Ud,Tx,UF,UQ,ADY,AEJ,AFA,AEU,yo,()),(),(AAD,AAG,zm,AAL,zt,AAI,zu,AAJ,AAO,AAh,sx,()),()),()),((AR,AE,Ah,()),b21,())))
mutual
def Ei:Nat→Ho
 |0=>fun _ _ _ _ _ _ _ _ _ _ _ _ _ _ _ _ _ _ _ _ _ _ _ _ _ _ _ _ _ _=>none
 |n+1=>Qi (Ei n) (Et n) (Dh n)
def Et:Nat→Hd
 |0=>fun _ _ _ _ _ _ _ _ _ _ _ _ _ _ _ _ _ _ _ _ _ _ _ _ _ _ _ _ _=>none
 |n+1=>Qq (Ei n) (Et n) (Dh n)
def Dh:Nat→G7
 |0=>fun _ _ _ _ _ _ _ _ _ _ _ _ _ _ _ _ _ _ _ _ _ _ _ _ _ _ _ _ _ _ _ _ _ _ _ _ _ _ _ _ _ _ _ _ _ _ _ _ _ _=>none
 |n+1=>PV (Ei n) (Et n) (Dh n)
end
def Qk(R4:Ho)(R7:Hd)(R14:G7)(p1:Int)(AR:AAH)(AE Ah:Int):Option EO:=
 (Om AR AE Ah).bind fun u1=>
 R4 p1 0 u1.2.1.1 u1.2.1.2.1 u1.2.1.2.2.1 0 0 false [] [] [] [] [] [] [] [] 0 0 false [] [] [] [] [] [] [] [] u1.1.1.2.1 u1.2.2.1 []
def NY(p1:Int)(AR:AAH)(AE Ah:Int):Option EO:=Qk (Ei Ae) (Et Ae) (Dh Ae) p1 AR AE Ah
abbrev FT:Type:=((AFl×Unit×Unit)×Unit)×(ACk×Unit)
def Fi(p0:AAH):Option FT:=
 (au p0).bind fun u1=>
 (YB p0 100 190).bind fun u2=>
 (NY u2.1.1 u1.2.1.1 u1.2.1.2.1 u1.2.1.2.2.1).bind fun u3=>
 some ((((u3.1.1.1.1,u3.1.1.1.2.1,u3.1.1.1.2.2.1,u3.1.1.1.2.2.2.1,u3.1.1.1.2.2.2.2.1,u3.1.1.1.2.2.2.2.2.1,u3.1.1.1.2.2.2.2.2.2.1,u3.1.1.1.2.2.2.2.2.2.2.1,u3.1.1.1.2.2.2.2.2.2.2.2.1,u3.1.1.1.2.2.2.2.2.2.2.2.2.1,u3.1.1.1.2.2.2.2.2.2.2.2.2.2.1,()),(),()),()),(u3.2.2.1,()))
abbrev EF:Type:=ACL×ACb
abbrev RV:Type:=Int→AAQ→Int→Int→List Int→Option EF
def OU(R5:RV)(t1:Int)(t16:AAQ)(t17 t18:Int)(b0:AAH):Option EF:=
 cond (decide (t18<t17))
  (if(0:Int)≤t18∧t18<(t16.length:Int)then(
  (Fb ((t16.getD (t18.toNat) ([],[],0,())).1,(t16.getD (t18.toNat) ([],[],0,())).2.1,(t16.getD (t18.toNat) ([],[],0,())).2.2.1,()) t1).bind fun u3=>
  cond (u3.1.1.2.1)
   (if b0.length+1≤Ds then(
   R5 t1 t16 t17 (AX (t18+1)) (b0++[t18]))else none)
  (R5 t1 t16 t17 (AX (t18+1)) b0))else none)
 (some (((),()),(b0,())))
def H7:Nat→RV
 |0=>fun _ _ _ _ _=>none
 |n+1=>OU (H7 n)
def UH(R5:RV)(p0:ABS)(p1:Int):Option EF:=
 (Fm (p0.1,p0.2.1,p0.2.2.1,p0.2.2.2.1,p0.2.2.2.2.1,p0.2.2.2.2.2.1,p0.2.2.2.2.2.2.1,p0.2.2.2.2.2.2.2.1,p0.2.2.2.2.2.2.2.2.1,p0.2.2.2.2.2.2.2.2.2.1,p0.2.2.2.2.2.2.2.2.2.2.1,())).bind fun u1=>
 cond (!u1.1.1)
  (some (((),()),([],())))
 (R5 p1 p0.2.2.1 (p0.2.2.1.length:Int) 0 [])
def Gf(p0:ABS)(p1:Int):Option EF:=UH (H7 Ae) p0 p1
abbrev GV:Type:=ABZ×Unit
abbrev LM:Type:=Int→List Int→Int→AAQ→List Int→AAk→Int→AAt→AAu→AA2→AAs→Bool→ACk→Option GV
abbrev J_:Type:=Int→Int→List Int→Int→AAQ→List Int→AAk→Int→AAt→AAu→AA2→AAs→Bool→ACk→Int→Int→Bool→List Int→AAQ→List Int→AAk→AAt→AAu→AA2→AAs→Option GV
abbrev J7:Type:=Int→Int→Bool→Int→List Int→Int→AAQ→List Int→AAk→Int→AAt→AAu→AA2→AAs→Bool→ACk→Int→Int→Bool→List Int→AAQ→List Int→AAk→AAt→AAu→AA2→AAs→Option GV
abbrev J2:Type:=Int→List Int→Int→AAQ→List Int→AAk→Int→AAt→AAu→AA2→AAs→Bool→AAs→Option GV
def NR(R5:LM)(R13:J_)(R17:J7)(R28:J2)(t5:Int)(AR:AAH)(AE:Int)(Ah:AAQ)(Bc:AAH)(Br:AAk)(AU:Int)(Bp:AAt)(Bm:AAu)(CG:AA2)(Bk:AAs)(AK:Bool)(b1:ACk):Option GV:=
 cond ((decide (t5<(b1.length:Int))))
  (if(0:Int)≤t5∧t5<(b1.length:Int)then(
  (Gi (AR,AE,Ah,Bc,Br,AU,Bp,Bm,CG,Bk,AK,()) ((b1.getD (t5.toNat) (0,0,0,0,[],())).1,(b1.getD (t5.toNat) (0,0,0,0,[],())).2.1,(b1.getD (t5.toNat) (0,0,0,0,[],())).2.2.1,(b1.getD (t5.toNat) (0,0,0,0,[],())).2.2.2.1,(b1.getD (t5.toNat) (0,0,0,0,[],())).2.2.2.2.1,())).bind fun u4=>
  if(0:Int)≤t5∧t5<(b1.length:Int)then(
  (HY (AR,AE,Ah,Bc,Br,AU,Bp,Bm,CG,Bk,AK,()) ((b1.getD (t5.toNat) (0,0,0,0,[],())).1,(b1.getD (t5.toNat) (0,0,0,0,[],())).2.1,(b1.getD (t5.toNat) (0,0,0,0,[],())).2.2.1,(b1.getD (t5.toNat) (0,0,0,0,[],())).2.2.2.1,(b1.getD (t5.toNat) (0,0,0,0,[],())).2.2.2.2.1,())).bind fun u5=>
  cond ((u4.1.1.2.1 !=u5.1.1.2.1))
   (some ((false,()),()))
  (cond (u4.1.1.2.1 !=0)
   (R5 (AX (t5+1)) AR AE Ah Bc Br AU Bp Bm CG Bk AK b1)
  (R13 t5 0 AR AE Ah Bc Br AU Bp Bm CG Bk AK b1 u4.1.1.1.2.1 u4.1.1.1.2.2.2.2.2.1 u4.1.1.1.2.2.2.2.2.2.2.2.2.2.1 u4.2.1 u4.2.2.1 u4.2.2.2.1 u4.2.2.2.2.1 u4.2.2.2.2.2.1 u4.2.2.2.2.2.2.1 u4.2.2.2.2.2.2.2.1 u4.2.2.2.2.2.2.2.2.1)))else none)else none)
 ((Fm (AR,AE,Ah,Bc,Br,AU,Bp,Bm,CG,Bk,AK,())).bind fun u16=>
 cond (!u16.1.1)
  (some ((false,()),()))
 ((L0 (AR,AE,Ah,Bc,Br,AU,Bp,Bm,CG,Bk,AK,())).bind fun dm=>
 R28 0 AR AE Ah Bc Br AU Bp Bm CG Bk AK dm.2.1))
def L9(R5:LM)(R13:J_)(R17:J7)(R28:J2)(t5 t10:Int)(AR:AAH)(AE:Int)(Ah:AAQ)(Bc:AAH)(Br:AAk)(AU:Int)(Bp:AAt)(Bm:AAu)(CG:AA2)(Bk:AAs)(AK:Bool)(b1:ACk)(PO ar:Int)(Q_:Bool)(b3:AAH)(b4:AAQ)(b5:AAH)(b6:AAk)(b7:AAt)(b8:AAu)(b9:AA2)(HU:AAs):Option GV:=
 cond ((decide (t10<(Bk.length:Int))))
  (R17 t5 t10 false 0 AR AE Ah Bc Br AU Bp Bm CG Bk AK b1 PO ar Q_ b3 b4 b5 b6 b7 b8 b9 HU)
 (R5 (AX (t5+1)) b3 PO b4 b5 b6 ar b7 b8 b9 HU Q_ b1)
def QU(R5:LM)(R13:J_)(R17:J7)(R28:J2)(t5 t10:Int)(t11:Bool)(t12:Int)(AR:AAH)(AE:Int)(Ah:AAQ)(Bc:AAH)(Br:AAk)(AU:Int)(Bp:AAt)(Bm:AAu)(CG:AA2)(Bk:AAs)(AK:Bool)(b1:ACk)(PO ar:Int)(Q_:Bool)(b3:AAH)(b4:AAQ)(b5:AAH)(b6:AAk)(b7:AAt)(b8:AAu)(b9:AA2)(HU:AAs):Option GV:=
 cond ((decide (t12<(HU.length:Int))))
  (if(0:Int)≤t10∧t10<(Bk.length:Int)then(
  if(0:Int)≤t12∧t12<(HU.length:Int)then(
  cond (t11)
   (R17 t5 t10 true (AX (t12+1)) AR AE Ah Bc Br AU Bp Bm CG Bk AK b1 PO ar Q_ b3 b4 b5 b6 b7 b8 b9 HU)
  (cond (((Bk.getD (t10.toNat) (0,[],false,())).1)==((HU.getD (t12.toNat) (0,[],false,())).1))
   (cond (((Bk.getD (t10.toNat) (0,[],false,())).2.1)==((HU.getD (t12.toNat) (0,[],false,())).2.1))
    (cond (!((Bk.getD (t10.toNat) (0,[],false,())).2.2.1))
     (R17 t5 t10 true (AX (t12+1)) AR AE Ah Bc Br AU Bp Bm CG Bk AK b1 PO ar Q_ b3 b4 b5 b6 b7 b8 b9 HU)
    (R17 t5 t10 ((HU.getD (t12.toNat) (0,[],false,())).2.2.1) (AX (t12+1)) AR AE Ah Bc Br AU Bp Bm CG Bk AK b1 PO ar Q_ b3 b4 b5 b6 b7 b8 b9 HU))
   (R17 t5 t10 false (AX (t12+1)) AR AE Ah Bc Br AU Bp Bm CG Bk AK b1 PO ar Q_ b3 b4 b5 b6 b7 b8 b9 HU))
  (R17 t5 t10 false (AX (t12+1)) AR AE Ah Bc Br AU Bp Bm CG Bk AK b1 PO ar Q_ b3 b4 b5 b6 b7 b8 b9 HU)))else none)else none)
 (cond (!t11)
  (some ((false,()),()))
 (R13 t5 (AX (t10+1)) AR AE Ah Bc Br AU Bp Bm CG Bk AK b1 PO ar Q_ b3 b4 b5 b6 b7 b8 b9 HU))
def MI(R5:LM)(R13:J_)(R17:J7)(R28:J2)(t16:Int)(AR:AAH)(AE:Int)(Ah:AAQ)(Bc:AAH)(Br:AAk)(AU:Int)(Bp:AAt)(Bm:AAu)(CG:AA2)(Bk:AAs)(AK:Bool)(b1:AAs):Option GV:=
 cond ((decide (t16<(b1.length:Int))))
  (cond (!AK)
   (if(0:Int)≤t16∧t16<(b1.length:Int)then(
   (Gf (AR,AE,Ah,Bc,Br,AU,Bp,Bm,CG,Bk,AK,()) ((b1.getD (t16.toNat) (0,[],false,())).1)).bind fun nY=>
   cond ((nY.2.1.length:Int)==0)
    (some ((false,()),()))
   (R28 (AX (t16+1)) AR AE Ah Bc Br AU Bp Bm CG Bk AK b1))else none)
  ((Kg (AR,AE,Ah,Bc,Br,AU,Bp,Bm,CG,Bk,AK,())).bind fun xR=>
  some ((((b1.length:Int)==(xR.2.1.length:Int)),()),())))
 ((Kg (AR,AE,Ah,Bc,Br,AU,Bp,Bm,CG,Bk,AK,())).bind fun u39=>
 some ((((b1.length:Int)==(u39.2.1.length:Int)),()),()))
mutual
def CM:Nat→LM
 |0=>fun _ _ _ _ _ _ _ _ _ _ _ _ _=>none
 |n+1=>NR (CM n) (CH n) (B_ n) (CR n)
def CH:Nat→J_
 |0=>fun _ _ _ _ _ _ _ _ _ _ _ _ _ _ _ _ _ _ _ _ _ _ _ _ _=>none
 |n+1=>L9 (CM n) (CH n) (B_ n) (CR n)
def B_:Nat→J7
 |0=>fun _ _ _ _ _ _ _ _ _ _ _ _ _ _ _ _ _ _ _ _ _ _ _ _ _ _ _=>none
 |n+1=>QU (CM n) (CH n) (B_ n) (CR n)
def CR:Nat→J2
 |0=>fun _ _ _ _ _ _ _ _ _ _ _ _ _=>none
 |n+1=>MI (CM n) (CH n) (B_ n) (CR n)
end
def Q7(R5:LM)(R13:J_)(R17:J7)(R28:J2)(p0:AAH):Option GV:=
 (US p0).bind fun u1=>
 cond (u1.1.1)
  (some ((true,()),()))
 ((Fi p0).bind fun u2=>
 R5 0 u2.1.1.1.1 u2.1.1.1.2.1 u2.1.1.1.2.2.1 u2.1.1.1.2.2.2.1 u2.1.1.1.2.2.2.2.1 u2.1.1.1.2.2.2.2.2.1 u2.1.1.1.2.2.2.2.2.2.1 u2.1.1.1.2.2.2.2.2.2.2.1 u2.1.1.1.2.2.2.2.2.2.2.2.1 u2.1.1.1.2.2.2.2.2.2.2.2.2.1 u2.1.1.1.2.2.2.2.2.2.2.2.2.2.1 u2.2.1)
def QZ(p0:AAH):Option GV:=Q7 (CM Ae) (CH Ae) (B_ Ae) (CR Ae) p0
end
end Go.M
