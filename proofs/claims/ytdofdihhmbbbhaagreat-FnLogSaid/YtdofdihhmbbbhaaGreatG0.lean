/- What each function computes, printed by a program out of the translation; what is printed is checked in the equations. -/
import Derived.Test.YtdofdihhmbbbhaaGreatF1
set_option linter.unusedVariables false
set_option linter.unusedSimpArgs false
set_option linter.unusedSectionVars false
namespace Go.M
noncomputable section
abbrev ly:Type:=AA4×Unit
def cY(p0:AAg):Option ly:=
 some (((decide ((p0.length:Int)>1048576)),()),())
abbrev Qf:Type:=ABK×ABr
abbrev TX:Type:=List Int→Int→Int→Option Qf
def Te(R3:TX)(t0:AAg)(t3 t4:Int):Option Qf:=
 cond ((decide (t4<(t0.length:Int))))
  (cond (decide (t4<4000))
   (if(0:Int)≤t4∧t4<(t0.length:Int)then(
   R3 t0 (W8 .i64 (AX ((AX ((AX (t3*131))+(AX ((t0.getD (t4.toNat) 0)))))+7)) 1073741823) (AX (t4+1)))else none)
  (some (((),()),((t0,0,t3,()),()))))
 (some (((),()),((t0,0,t3,()),())))
def LY:Nat→TX
 |0=>fun _ _ _=>none
 |n+1=>Te (LY n)
def UG(R3:TX)(p0:AAg):Option Qf:=
 R3 p0 (AX (17817+(p0.length:Int))) 0
def RX(p0:AAg):Option Qf:=UG (LY Aa) p0
abbrev fj:Type:=ABD×ABr
def Ii(AH:AAg)(AJ AR:Int):Option fj:=
 let x2:Int:=AX ((AX (AR*6364136223846793005))+1442695040888963407)
 let x3:Int:=AEM .i64 (x2.fdiv (2^33)) (x2.fdiv (2^45))
 cond ((decide (AJ<(AH.length:Int))))
  (if(0:Int)≤AJ∧AJ<(AH.length:Int)then(
  some ((W8 .i64 (AX ((W8 .i64 x3 255)+(AX ((AH.getD (AJ.toNat) 0))))) 255,()),((AH,AX (AJ+1),x2,()),())))else none)
 (some ((W8 .i64 x3 255,()),((AH,AJ,x2,()),())))
abbrev FJ:Type:=ABD×ABr
def AF(p1:Int)(AH:AAg)(AJ AR:Int):Option FJ:=
 cond (decide (p1≤0))
  (some ((0,()),((AH,AJ,AR,()),())))
 (cond (decide (p1≤256))
  ((Ii AH AJ AR).bind fun u1=>
  if p1=0 then none else(
  some ((u1.1.1.tmod p1,()),((u1.2.1.1,u1.2.1.2.1,u1.2.1.2.2.1,()),()))))
 ((Ii AH AJ AR).bind fun u2=>
 (Ii u2.2.1.1 u2.2.1.2.1 u2.2.1.2.2.1).bind fun u3=>
 (Ii u3.2.1.1 u3.2.1.2.1 u3.2.1.2.2.1).bind fun u4=>
 (Ii u4.2.1.1 u4.2.1.2.1 u4.2.1.2.2.1).bind fun u5=>
 if p1=0 then none else(
 some ((((AX ((AX ((AX ((AX (u2.1.1*16777216))+(AX (u3.1.1*65536))))+(AX (u4.1.1*256))))+u5.1.1)).tmod p1),()),((u5.2.1.1,u5.2.1.2.1,u5.2.1.2.2.1,()),())))))
abbrev JK:Type:=AA4×ABr
def Aj(p1:Int)(AH:AAg)(AJ AR:Int):Option JK:=
 (AF p1 AH AJ AR).bind fun u1=>
 some ((u1.1.1==0,()),((u1.2.1.1,u1.2.1.2.1,u1.2.1.2.2.1,()),()))
abbrev Ir:Type:=ACj×AD_
abbrev LC:Type:=Int→Int→List Int→Int→Int→Int→List Int→Int→List Int→Option Ir
def Mc(R4:LC)(t4 t5:Int)(AH:AAg)(AJ AR Aq:Int)(b2:AAg)(WK:Int)(b4:AAg):Option Ir:=
 cond (decide (t5<t4))
  ((AF 5 AH AJ AR).bind fun u3=>
  if b4.length+1≤DH then(
  R4 t4 (AX (t5+1)) u3.2.1.1 u3.2.1.2.1 u3.2.1.2.2.1 Aq b2 WK (b4++[u3.1.1]))else none)
 ((Aj 2 AH AJ AR).bind fun u5=>
 cond (u5.1.1)
  (some ((((),2,()),()),((u5.2.1.1,u5.2.1.2.1,u5.2.1.2.2.1,()),b4,())))
 (some ((((),WK,()),()),((u5.2.1.1,u5.2.1.2.1,u5.2.1.2.2.1,()),b4,()))))
def Fy:Nat→LC
 |0=>fun _ _ _ _ _ _ _ _ _=>none
 |n+1=>Mc (Fy n)
def NT(R4:LC)(AH:AAg)(AJ AR:Int):Option Ir:=
 (AF 3 AH AJ AR).bind fun u1=>
 (AF 5 u1.2.1.1 u1.2.1.2.1 u1.2.1.2.2.1).bind fun u2=>
 R4 (AX (3+u2.1.1)) 0 u2.2.1.1 u2.2.1.2.1 u2.2.1.2.2.1 0 [] (AX (1+u1.1.1)) []
def II(AH:AAg)(AJ AR:Int):Option Ir:=NT (Fy Aa) AH AJ AR
abbrev Zl:Type:=ABD×ABr
def Ba(p1 AH:AAg)(AJ AR:Int):Option Zl:=
 (AF (p1.length:Int) AH AJ AR).bind fun u1=>
 if(0:Int)≤u1.1.1∧u1.1.1<(p1.length:Int)then(
 some (((p1.getD (u1.1.1.toNat) 0),()),((u1.2.1.1,u1.2.1.2.1,u1.2.1.2.2.1,()),())))else none
abbrev S4:Type:=ACj×AD_
def MT(AH:AAg)(AJ AR:Int):Option S4:=
 (II AH AJ AR).bind fun u1=>
 (AF 20 u1.2.1.1 u1.2.1.2.1 u1.2.1.2.2.1).bind fun u2=>
 cond (u2.1.1==0)
  ((Ba [0,4,5] u2.2.1.1 u2.2.1.2.1 u2.2.1.2.2.1).bind fun u3=>
  some ((((),u3.1.1,()),()),((u3.2.1.1,u3.2.1.2.1,u3.2.1.2.2.1,()),u1.2.2.1,())))
 (cond (u2.1.1==1)
  ((Ba [(-1),7,8] u2.2.1.1 u2.2.1.2.1 u2.2.1.2.2.1).bind fun u4=>
  if(0:Int)≤(0:Int)∧(0:Int)<(u1.2.2.1.length:Int)then(
  some ((((),u1.1.1.2.1,()),()),((u4.2.1.1,u4.2.1.2.1,u4.2.1.2.2.1,()),(u1.2.2.1.set 0 u4.1.1),())))else none)
 (cond (u2.1.1==2)
  ((Ba [0,8,9] u2.2.1.1 u2.2.1.2.1 u2.2.1.2.2.1).bind fun u6=>
  if(0:Int)≤u6.1.1∧u6.1.1≤u6.1.1∧u6.1.1≤(DH:Int)then(
  some ((((),u1.1.1.2.1,()),()),((u6.2.1.1,u6.2.1.2.1,u6.2.1.2.2.1,()),(List.replicate (u6.1.1.toNat) 0),())))else none)
 (some ((((),u1.1.1.2.1,()),()),((u2.2.1.1,u2.2.1.2.1,u2.2.1.2.2.1,()),u1.2.2.1,())))))
abbrev bR:Type:=ABK×ABL
def Ta(p0:AAg):Option bR:=
 if 0+p0.length≤DH then(
 some (((),()),(p0,())))else none
abbrev gO:Type:=AA4×Unit
def Cd(p0 p1 p2:Int):Option gO:=
 cond (decide (p0≥p1))
  (some ((decide (p0≤p2),()),()))
 (some ((false,()),()))
abbrev Lk:Type:=AA4×Unit
abbrev OS:Type:=List Int→Int→Int→List Int→Int→Option Lk
def Py(R2:OS)(t6:AAg)(t7 t8:Int)(AH:AAg)(AJ:Int):Option Lk:=
 cond (decide (t8<t7))
  (if(0:Int)≤t8∧t8<(t6.length:Int)then(
  (Cd (t6.getD (t8.toNat) 0) 0 7).bind fun u2=>
  cond (!u2.1.1)
   (some ((false,()),()))
  (R2 t6 t7 (AX (t8+1)) AH AJ))else none)
 ((Cd (AH.length:Int) 1 8).bind fun u3=>
 cond (u3.1.1)
  ((Cd AJ 1 4).bind fun u4=>
  some ((u4.1.1,()),()))
 (some ((false,()),())))
def IZ:Nat→OS
 |0=>fun _ _ _ _ _=>none
 |n+1=>Py (IZ n)
def Pu(R2:OS)(p0:AAw):Option Lk:=
 R2 p0.1 (p0.1.length:Int) 0 p0.1 p0.2.1
def DI(p0:AAw):Option Lk:=Pu (IZ Aa) p0
abbrev NK:Type:=AA4×Unit
abbrev Pb:Type:=List Int→Int→List Int→Int→Int→Option NK
def L5(R2:Pb)(t0:AAg)(t1:Int)(t7:AAg)(t8 t9:Int):Option NK:=
 cond (decide (t9<t8))
  (if(0:Int)≤t9∧t9<(t7.length:Int)then(
  let x1:Int:=(t7.getD (t9.toNat) 0)
  (Cd x1 0 t1).bind fun u2=>
  cond (!u2.1.1)
   (some ((false,()),()))
  (cond (decide (t9>0))
   (if(0:Int)≤AX (t9-1)∧AX (t9-1)<(t0.length:Int)then(
   cond (decide ((t0.getD ((AX (t9-1)).toNat) 0)≥x1))
    (some ((false,()),()))
   (R2 t0 t1 t7 t8 (AX (t9+1))))else none)
  (R2 t0 t1 t7 t8 (AX (t9+1)))))else none)
 (some ((true,()),()))
def HE:Nat→Pb
 |0=>fun _ _ _ _ _=>none
 |n+1=>L5 (HE n)
def Re(R2:Pb)(p0:AAg)(p1:Int):Option NK:=
 R2 p0 p1 p0 (p0.length:Int) 0
def QC(p0:AAg)(p1:Int):Option NK:=Re (HE Aa) p0 p1
abbrev dZ:Type:=AA4×Unit
def FB(p0:AAw)(p1:AAg):Option dZ:=
 (DI (p0.1,p0.2.1,())).bind fun u1=>
 cond (u1.1.1)
  ((QC p1 (AX ((p0.1.length:Int)-1))).bind fun u3=>
  some ((u3.1.1,()),()))
 (some ((false,()),()))
abbrev fM:Type:=AA4×Unit
def HZ(p0:Int):Option fM:=
 (Cd p0 1 30).bind fun u1=>
 some ((u1.1.1,()),())
abbrev jA:Type:=AA4×Unit
def Xp(p0:Int):Option jA:=
 (Cd p0 1 60).bind fun u1=>
 some ((u1.1.1,()),())
abbrev dp:Type:=AA4×Unit
def Cv(p0:Int):Option dp:=
 (HZ (AX (p0.tdiv 4294967296))).bind fun u2=>
 cond (u2.1.1)
  ((Xp (p0.tmod 4294967296)).bind fun u3=>
  some ((u3.1.1,()),()))
 (some ((false,()),()))
abbrev fY:Type:=AA4×Unit
def GG(p0:AA_):Option fY:=
 some (((decide ((p0.length:Int)≤40)),()),())
abbrev cc:Type:=ABD×Unit
def It(p0:Int):Option cc:=
 (Cv p0).bind fun u1=>
 cond (!u1.1.1)
  (some ((0,()),()))
 (some (((AX (p0.tdiv 4294967296)),()),()))
abbrev dC:Type:=AA4×Unit
def Mm(p0:ACF):Option dC:=
 (Cd p0.2.1 0 30).bind fun u1=>
 cond (u1.1.1)
  (cond (p0.2.1==0)
   (cond (!p0.2.2.1)
    ((Cv p0.1).bind fun u2=>
    cond (u2.1.1)
     ((GG p0.2.2.2.1).bind fun u3=>
     some ((u3.1.1,()),()))
    (some ((false,()),())))
   (cond (decide (p0.2.1>0))
    ((Cv p0.1).bind fun u4=>
    cond (u4.1.1)
     (cond (p0.2.2.2.1==[])
      ((GG p0.2.2.2.1).bind fun u5=>
      some ((u5.1.1,()),()))
     (some ((false,()),())))
    (some ((false,()),())))
   ((Cv p0.1).bind fun u6=>
   cond (u6.1.1)
    (some ((false,()),()))
   (some ((false,()),())))))
  ((It p0.1).bind fun u7=>
  let x8:Bool:=decide (p0.2.1>u7.1.1)
  cond (!p0.2.2.1)
   ((Cv p0.1).bind fun u9=>
   cond (u9.1.1)
    (cond (x8)
     ((GG p0.2.2.2.1).bind fun HK=>
     some ((HK.1.1,()),()))
    (some ((false,()),())))
   (some ((false,()),())))
  (cond (decide (p0.2.1>0))
   ((Cv p0.1).bind fun Qp=>
   cond (Qp.1.1)
    (cond (x8)
     (cond (p0.2.2.2.1==[])
      ((GG p0.2.2.2.1).bind fun Cj=>
      some ((Cj.1.1,()),()))
     (some ((false,()),())))
    (some ((false,()),())))
   (some ((false,()),())))
  ((Cv p0.1).bind fun Th=>
  cond (Th.1.1)
   (cond (x8)
    (some ((false,()),()))
   (some ((false,()),())))
  (some ((false,()),()))))))
 (cond (!p0.2.2.1)
  ((Cv p0.1).bind fun Jw=>
  cond (Jw.1.1)
   (some ((false,()),()))
  (some ((false,()),())))
 (cond (decide (p0.2.1>0))
  ((Cv p0.1).bind fun jr=>
  cond (jr.1.1)
   (some ((false,()),()))
  (some ((false,()),())))
 ((Cv p0.1).bind fun u16=>
 cond (u16.1.1)
  (some ((false,()),()))
 (some ((false,()),())))))
abbrev Kd:Type:=AA4×Unit
abbrev Mz:Type:=AAh→Int→Int→Option Kd
def KP(R2:Mz)(t5:AAh)(t6 t7:Int):Option Kd:=
 cond (decide (t7<t6))
  (if(0:Int)≤t7∧t7<(t5.length:Int)then(
  (Mm ((t5.getD (t7.toNat) (0,0,false,[],())).1,(t5.getD (t7.toNat) (0,0,false,[],())).2.1,(t5.getD (t7.toNat) (0,0,false,[],())).2.2.1,(t5.getD (t7.toNat) (0,0,false,[],())).2.2.2.1,())).bind fun u1=>
  cond (!u1.1.1)
   (some ((false,()),()))
  (R2 t5 t6 (AX (t7+1))))else none)
 (some ((true,()),()))
def Fg:Nat→Mz
 |0=>fun _ _ _=>none
 |n+1=>KP (Fg n)
def O9(R2:Mz)(p0:AAh):Option Kd:=
 R2 p0 (p0.length:Int) 0
def Jz(p0:AAh):Option Kd:=O9 (Fg Aa) p0
abbrev Ht:Type:=AA4×Unit
abbrev J7:Type:=AAh→AAh→Int→Int→Option Ht
def Ic(R2:J7)(t0 t5:AAh)(t6 t7:Int):Option Ht:=
 cond (decide (t7<t6))
  (if(0:Int)≤t7∧t7<(t5.length:Int)then(
  cond (decide (t7>0))
   (if(0:Int)≤AX (t7-1)∧AX (t7-1)<(t0.length:Int)then(
   cond (decide (((t0.getD ((AX (t7-1)).toNat) (0,0,false,[],())).1)≥((t5.getD (t7.toNat) (0,0,false,[],())).1)))
    (some ((false,()),()))
   (R2 t0 t5 t6 (AX (t7+1))))else none)
  (R2 t0 t5 t6 (AX (t7+1))))else none)
 (some ((true,()),()))
def Dz:Nat→J7
 |0=>fun _ _ _ _=>none
 |n+1=>Ic (Dz n)
def MR(R2:J7)(p0:AAh):Option Ht:=
 R2 p0 p0 (p0.length:Int) 0
def HL(p0:AAh):Option Ht:=MR (Dz Aa) p0
abbrev c0:Type:=AA4×Unit
def P8(p0:ABG):Option c0:=
 cond ((decide ((p0.1.length:Int)>200)))
  (some ((false,()),()))
 (cond (decide ((p0.2.1.length:Int)>20))
  (some ((false,()),()))
 ((Jz p0.1).bind fun u3=>
 cond (u3.1.1)
  ((Jz p0.2.1).bind fun u4=>
  cond (u4.1.1)
   ((HL p0.1).bind fun u5=>
   cond (u5.1.1)
    ((Cd p0.2.2.1 0 30).bind fun u6=>
    some ((u6.1.1,()),()))
   (some ((false,()),())))
  (some ((false,()),())))
 (some ((false,()),()))))
abbrev GC:Type:=ABD×Unit
abbrev IC:Type:=List Int→Int→Int→Int→Option GC
def KA(R2:IC)(t0:AAg)(t1 t7 t8:Int):Option GC:=
 cond (decide (t8<t7))
  (if(0:Int)≤t8∧t8<(t0.length:Int)then(
  cond (t1==(t0.getD (t8.toNat) 0))
   (some ((t8,()),()))
  (R2 t0 t1 t7 (AX (t8+1))))else none)
 (some (((-1),()),()))
def D9:Nat→IC
 |0=>fun _ _ _ _=>none
 |n+1=>KA (D9 n)
def J3(R2:IC)(p0:AAg)(p1:Int):Option GC:=
 R2 p0 p1 (p0.length:Int) 0
def KO(p0:AAg)(p1:Int):Option GC:=J3 (D9 Aa) p0 p1
abbrev Rx:Type:=AA4×Unit
def Dw(p0:AAg)(p1:Int):Option Rx:=
 (KO p0 p1).bind fun u1=>
 some ((decide (u1.1.1≥0),()),())
abbrev gC:Type:=AA4×Unit
def SD(p0:Int)(p1:ABL):Option gC:=
 (Dw p1.1 p0).bind fun u1=>
 some ((!u1.1.1,()),())
abbrev CL:Type:=ABD×Unit
abbrev Cx:Type:=List Int→(ABL×Unit)→Int→Int→Option CL
def EX(R2:Cx)(t0:AAg)(t1:ABL×Unit)(t7 t8:Int):Option CL:=
 cond (decide (t8<t7))
  (if(0:Int)≤t8∧t8<(t0.length:Int)then(
  (SD (t0.getD (t8.toNat) 0) t1.1).bind fun u2=>
  cond (u2.1.1)
   (some ((t8,()),()))
  (R2 t0 (t1.1,()) t7 (AX (t8+1))))else none)
 (some (((-1),()),()))
def CF:Nat→Cx
 |0=>fun _ _ _ _=>none
 |n+1=>EX (CF n)
def EM(R2:Cx)(p0:AAg)(p1:ABL×Unit):Option CL:=
 R2 p0 (p1.1,()) (p0.length:Int) 0
def DT(p0:AAg)(p1:ABL×Unit):Option CL:=EM (CF Aa) p0 p1
abbrev CG:Type:=ABK×(Unit×List Int×Unit)
abbrev Cp:Type:=(ABL×Unit)→Int→Int→List Int→Option CG
def EC(R5:Cp)(t1:ABL×Unit)(t5 t6:Int)(b0:AAg):Option CG:=
 cond ((decide (t6<(b0.length:Int))))
  (if(0:Int)≤t6∧t6<(b0.length:Int)then(
  let x3:Int:=(b0.getD (t6.toNat) 0)
  (SD x3 t1.1).bind fun u4=>
  cond (!u4.1.1)
   (if(0:Int)≤t5∧t5<(b0.length:Int)then(
   R5 (t1.1,()) (AX (t5+1)) (AX (t6+1)) (b0.set (t5.toNat) x3))else none)
  (R5 (t1.1,()) t5 (AX (t6+1)) b0))else none)
 (if(0:Int)≤t5∧t5≤(b0.length:Int)∧(b0.length:Int)≤(b0.length:Int)then(
 let x6:AAg:=(b0.take (t5.toNat)++List.replicate (((b0.length:Int).toNat)-(t5.toNat)) 0++b0.drop ((t5.toNat)+(((b0.length:Int).toNat)-(t5.toNat))))
 if(0:Int)≤(0:Int)∧(0:Int)≤t5∧t5≤(x6.length:Int)then(
 some (((),()),((),((x6.drop 0).take ((t5.toNat)-0)),())))else none)else none)
def CA:Nat→Cp
 |0=>fun _ _ _ _=>none
 |n+1=>EC (CA n)
def EE(R5:Cp)(p1:ABL×Unit)(b0:AAg):Option CG:=
 (DT b0 (p1.1,())).bind fun u1=>
 cond (u1.1.1==(-1))
  (some (((),()),((),b0,())))
 (R5 (p1.1,()) u1.1.1 (AX (u1.1.1+1)) b0)
def DL(p1:ABL×Unit)(b0:AAg):Option CG:=EE (CA Aa) p1 b0
abbrev lN:Type:=ABK×ABL
def WX(p0 p1:AAg):Option lN:=
 (Ta p0).bind fun u1=>
 (DL ((p1,()),()) u1.2.1).bind fun u2=>
 some (((),()),(u2.2.2.1,()))
abbrev W3:Type:=AA4×Unit
def Jj(p0:AA7)(p1:Int):Option W3:=
 (WX [p1] p0.2.2.2.1).bind fun u1=>
 some ((decide ((u1.2.1.length:Int)>0),()),())
abbrev Oh:Type:=ABD×Unit
abbrev Rf:Type:=List Int→Int→Int→List Int→Int→List Int→Option Oh
def Sq(R5:Rf)(t13:AAg)(t14 t15:Int)(AH:AAg)(AJ:Int)(b1:AAg):Option Oh:=
 cond (decide (t15<t14))
  (if(0:Int)≤t15∧t15<(t13.length:Int)then(
  let x2:Int:=(t13.getD (t15.toNat) 0)
  if(0:Int)≤x2∧x2<(AH.length:Int)then(
  (Dw b1 (AH.getD (x2.toNat) 0)).bind fun u4=>
  cond (!u4.1.1)
   (if(0:Int)≤x2∧x2<(AH.length:Int)then(
   if b1.length+1≤DH then(
   R5 t13 t14 (AX (t15+1)) AH AJ (b1++[(AH.getD (x2.toNat) 0)]))else none)else none)
  (R5 t13 t14 (AX (t15+1)) AH AJ b1))else none)else none)
 (some (((b1.length:Int),()),()))
def J6:Nat→Rf
 |0=>fun _ _ _ _ _ _=>none
 |n+1=>Sq (J6 n)
def SC(R5:Rf)(p0:AAw)(p1:AAg):Option Oh:=
 (FB (p0.1,p0.2.1,()) p1).bind fun u1=>
 cond (!u1.1.1)
  (some (((-1),()),()))
 (R5 p1 (p1.length:Int) 0 p0.1 p0.2.1 [])
def R0(p0:AAw)(p1:AAg):Option Oh:=SC (J6 Aa) p0 p1
abbrev jO:Type:=AA4×Unit
def OJ(p0:AAw)(p1:AAg):Option jO:=
 (FB (p0.1,p0.2.1,()) p1).bind fun u1=>
 cond (u1.1.1)
  ((R0 (p0.1,p0.2.1,()) p1).bind fun u2=>
  some (((decide (u2.1.1≥p0.2.1)),()),()))
 (some ((false,()),()))
abbrev G1:Type:=AA4×Unit
abbrev I0:Type:=AA7→AAj→Int→Int→Option G1
def G7(R4:I0)(t0:AA7)(t32:AAj)(t33 t34:Int):Option G1:=
 cond (decide (t34<t33))
  (if(0:Int)≤t34∧t34<(t32.length:Int)then(
  (P8 ((t32.getD (t34.toNat) ([],[],0,())).1,(t32.getD (t34.toNat) ([],[],0,())).2.1,(t32.getD (t34.toNat) ([],[],0,())).2.2.1,())).bind fun u5=>
  cond (!u5.1.1)
   (some ((false,()),()))
  ((Jj t0 t34).bind fun u6=>
  cond (u6.1.1)
   (cond (decide ((AX ((AX ((((t32.getD (t34.toNat) ([],[],0,())).1).length:Int)+(((t32.getD (t34.toNat) ([],[],0,())).2.1).length:Int)))+((t32.getD (t34.toNat) ([],[],0,())).2.2.1)))>0))
    (some ((false,()),()))
   (R4 t0 t32 t33 (AX (t34+1))))
  (R4 t0 t32 t33 (AX (t34+1)))))else none)
 (cond (t0.2.2.2.2.2.2.2.2.2.2.1)
  (some ((true,()),()))
 ((OJ (t0.1,t0.2.1,()) t0.2.2.2.1).bind fun Cj=>
 some ((!Cj.1.1,()),())))
def DO:Nat→I0
 |0=>fun _ _ _ _=>none
 |n+1=>G7 (DO n)
def K0(R4:I0)(p0:AA7):Option G1:=
 cond (((p0.2.2.1.length:Int) !=(p0.1.length:Int)))
  (some ((false,()),()))
 ((FB (p0.1,p0.2.1,()) p0.2.2.2.1).bind fun u3=>
 cond (!u3.1.1)
  (some ((false,()),()))
 (R4 p0 p0.2.2.1 (p0.2.2.1.length:Int) 0))
def Hw(p0:AA7):Option G1:=K0 (DO Aa) p0
abbrev iG:Type:=AA4×Unit
def Ub(p0:AAw)(p1:AEE):Option iG:=
 (OJ (p0.1,p0.2.1,()) p1.1).bind fun u1=>
 cond (u1.1.1)
  ((Cd p1.2.2.1 0 60).bind fun u2=>
  cond (u2.1.1)
   (cond (p1.2.1)
    (some ((true,()),()))
   (some ((p1.2.2.1==0,()),())))
  (some ((false,()),())))
 (some ((false,()),()))
abbrev QT:Type:=AA4×Unit
abbrev S8:Type:=AAi→Int→Int→List Int→Int→AAi→Int→Option QT
def OP(R2:S8)(t9:AAi)(t10 t11:Int)(AH:AAg)(AJ:Int)(A7:AAi)(Aq:Int):Option QT:=
 cond (decide (t11<t10))
  (if(0:Int)≤t11∧t11<(t9.length:Int)then(
  (Ub (AH,AJ,()) ((t9.getD (t11.toNat) ([],false,0,())).1,(t9.getD (t11.toNat) ([],false,0,())).2.1,(t9.getD (t11.toNat) ([],false,0,())).2.2.1,())).bind fun u1=>
  cond (!u1.1.1)
   (some ((false,()),()))
  (cond (((t9.getD (t11.toNat) ([],false,0,())).2.1))
   (cond (t11==(AX ((A7.length:Int)-1)))
    (some ((false,()),()))
   (cond (decide (t11>0))
    (if(0:Int)≤AX (t11-1)∧AX (t11-1)<(A7.length:Int)then(
    cond (!((A7.getD ((AX (t11-1)).toNat) ([],false,0,())).2.1))
     (some ((false,()),()))
    (R2 t9 t10 (AX (t11+1)) AH AJ A7 Aq))else none)
   (R2 t9 t10 (AX (t11+1)) AH AJ A7 Aq)))
  (R2 t9 t10 (AX (t11+1)) AH AJ A7 Aq)))else none)
 (cond (Aq==0)
  ((DI (AH,AJ,())).bind fun u5=>
  cond (u5.1.1)
   (cond ((decide ((A7.length:Int)≤30)))
    (some ((true,()),()))
   (some ((false,()),())))
  (some ((false,()),())))
 ((It Aq).bind fun u7=>
 (Cd u7.1.1 1 (A7.length:Int)).bind fun u8=>
 (DI (AH,AJ,())).bind fun u9=>
 cond (u9.1.1)
  (cond ((decide ((A7.length:Int)≤30)))
   (some ((u8.1.1,()),()))
  (some ((false,()),())))
 (some ((false,()),()))))
def Hi:Nat→S8
 |0=>fun _ _ _ _ _ _ _=>none
 |n+1=>OP (Hi n)
def Ti(R2:S8)(p0:AAw)(p1:ABB):Option QT:=
 R2 p1.1 (p1.1.length:Int) 0 p0.1 p0.2.1 p1.1 p1.2.1
def UY(p0:AAw)(p1:ABB):Option QT:=Ti (Hi Aa) p0 p1
abbrev fG:Type:=ABD×Unit
def U0(p0:Bool):Option fG:=
 cond (p0)
  (some ((1,()),()))
 (some ((0,()),()))
abbrev Lb:Type:=AA4×Unit
abbrev ON:Type:=Int→AA9→Int→Int→List Int→Int→Int→AA9→Option Lb
def Pp(R3:ON)(t5:Int)(t9:AA9)(t10 t11:Int)(AH:AAg)(AJ A7:Int)(Aq:AA9):Option Lb:=
 cond (decide (t11<t10))
  (if(0:Int)≤t11∧t11<(t9.length:Int)then(
  (GG ((t9.getD (t11.toNat) ([],[],false,())).1)).bind fun u3=>
  cond (!u3.1.1)
   (some ((false,()),()))
  ((FB (AH,AJ,()) ((t9.getD (t11.toNat) ([],[],false,())).2.1)).bind fun u4=>
  cond (!u4.1.1)
   (some ((false,()),()))
  ((OJ (AH,AJ,()) ((t9.getD (t11.toNat) ([],[],false,())).2.1)).bind fun u6=>
  cond (((t9.getD (t11.toNat) ([],[],false,())).2.2.1) !=u6.1.1)
   (some ((false,()),()))
  ((U0 (!((t9.getD (t11.toNat) ([],[],false,())).2.2.1))).bind fun u8=>
  R3 (AX (t5+u8.1.1)) t9 t10 (AX (t11+1)) AH AJ A7 Aq))))else none)
 ((DI (AH,AJ,())).bind fun u9=>
 cond (u9.1.1)
  ((HZ A7).bind fun HK=>
  cond (HK.1.1)
   (cond ((decide ((Aq.length:Int)≤60)))
    (some ((decide (t5≤6),()),()))
   (some ((false,()),())))
  (some ((false,()),())))
 (some ((false,()),())))
def IL:Nat→ON
 |0=>fun _ _ _ _ _ _ _ _=>none
 |n+1=>Pp (IL n)
def Pr(R3:ON)(p0:AAw)(p1:ABE):Option Lb:=
 R3 0 p1.2.1 (p1.2.1.length:Int) 0 p0.1 p0.2.1 p1.1 p1.2.1
def OX(p0:AAw)(p1:ABE):Option Lb:=Pr (IL Aa) p0 p1
abbrev WG:Type:=AA4×Unit
def Gw(p0:AA7)(p1:Int):Option WG:=
 (Cd p1 1 (p0.2.2.2.2.1.length:Int)).bind fun u2=>
 some ((u2.1.1,()),())
abbrev F8:Type:=AA4×Unit
abbrev IJ:Type:=AA7→AAn→Int→Int→Option F8
def Gr(R2:IJ)(t0:AA7)(t8:AAn)(t9 t10:Int):Option F8:=
 cond (decide (t10<t9))
  (if(0:Int)≤t10∧t10<(t8.length:Int)then(
  (OX (t0.1,t0.2.1,()) ((t8.getD (t10.toNat) (0,[],())).1,(t8.getD (t10.toNat) (0,[],())).2.1,())).bind fun u2=>
  cond (!u2.1.1)
   (some ((false,()),()))
  ((Gw t0 ((t8.getD (t10.toNat) (0,[],())).1)).bind fun u4=>
  cond (!u4.1.1)
   (some ((false,()),()))
  (cond (decide (t10>0))
   (if(0:Int)≤AX (t10-1)∧AX (t10-1)<(t0.2.2.2.2.2.2.1.length:Int)then(
   cond (decide (((t0.2.2.2.2.2.2.1.getD ((AX (t10-1)).toNat) (0,[],())).1)≥((t8.getD (t10.toNat) (0,[],())).1)))
    (some ((false,()),()))
   (R2 t0 t8 t9 (AX (t10+1))))else none)
  (R2 t0 t8 t9 (AX (t10+1))))))else none)
 (some ((decide ((t0.2.2.2.2.2.2.1.length:Int)≤4),()),()))
def C2:Nat→IJ
 |0=>fun _ _ _ _=>none
 |n+1=>Gr (C2 n)
def Jy(R2:IJ)(p0:AA7):Option F8:=
 R2 p0 p0.2.2.2.2.2.2.1 (p0.2.2.2.2.2.2.1.length:Int) 0
def He(p0:AA7):Option F8:=Jy (C2 Aa) p0
abbrev iy:Type:=ABD×Unit
def Uu(p0:Int):Option iy:=
 (Cv p0).bind fun u1=>
 cond (!u1.1.1)
  (some ((0,()),()))
 (some ((p0.tmod 4294967296,()),()))
abbrev fJ:Type:=ABD×Unit
def QH(p0:AA2):Option fJ:=
 cond ((p0.2.2.2.1.length:Int)==0)
  (some ((0,()),()))
 (let x2:Int:=(p0.2.2.2.1.length:Int)
 if(0:Int)≤AX (x2-1)∧AX (x2-1)<(p0.2.2.2.1.length:Int)then(
 (Uu ((p0.2.2.2.1.getD ((AX (x2-1)).toNat) (0,0,false,[],())).1)).bind fun u4=>
 some ((u4.1.1,()),()))else none)
abbrev Of:Type:=AA4×Unit
abbrev Rq:Type:=AAh→Int→Int→Int→Int→List Int→AAh→Bool→List AAg→Option Of
def Mr(R2:Rq)(t6:AAh)(t7 t8 AH AJ:Int)(AR:AAg)(DD:AAh)(EN:Bool)(Cz:List AAg):Option Of:=
 cond (decide (t8<t7))
  (if(0:Int)≤t8∧t8<(t6.length:Int)then(
  (Mm ((t6.getD (t8.toNat) (0,0,false,[],())).1,(t6.getD (t8.toNat) (0,0,false,[],())).2.1,(t6.getD (t8.toNat) (0,0,false,[],())).2.2.1,(t6.getD (t8.toNat) (0,0,false,[],())).2.2.2.1,())).bind fun u2=>
  cond (!u2.1.1)
   (some ((false,()),()))
  ((It ((t6.getD (t8.toNat) (0,0,false,[],())).1)).bind fun u4=>
  cond (u4.1.1 !=AJ)
   (some ((false,()),()))
  (cond (decide (((t6.getD (t8.toNat) (0,0,false,[],())).2.1)≥AH))
   (some ((false,()),()))
  (R2 t6 t7 (AX (t8+1)) AH AJ AR DD EN Cz))))else none)
 ((HL DD).bind fun u6=>
 some ((u6.1.1,()),()))
def IB:Nat→Rq
 |0=>fun _ _ _ _ _ _ _ _ _=>none
 |n+1=>Mr (IB n)
def Sp(R2:Rq)(p0:AA2):Option Of:=
 R2 p0.2.2.2.1 (p0.2.2.2.1.length:Int) 0 p0.1 p0.2.1 p0.2.2.1 p0.2.2.2.1 p0.2.2.2.2.1 p0.2.2.2.2.2.1
def Ov(p0:AA2):Option Of:=Sp (IB Aa) p0
abbrev Oc:Type:=AA4×Unit
abbrev RG:Type:=List AAg→Int→Int→List Int→Int→Int→Int→List Int→AAh→Bool→List AAg→Option Oc
def ND(R2:RG)(t10:List AAg)(t11 t12:Int)(AH:AAg)(AJ A7 Aq:Int)(Dn:AAg)(JF:AAh)(Nn:Bool)(Du:List AAg):Option Oc:=
 cond (decide (t12<t11))
  (if(0:Int)≤t12∧t12<(t10.length:Int)then(
  (FB (AH,AJ,()) (t10.getD (t12.toNat) [])).bind fun u2=>
  cond (!u2.1.1)
   (some ((false,()),()))
  (R2 t10 t11 (AX (t12+1)) AH AJ A7 Aq Dn JF Nn Du))else none)
 (cond (Nn)
  ((QH (A7,Aq,Dn,JF,Nn,Du,())).bind fun u3=>
  (HZ Aq).bind fun u4=>
  cond (u4.1.1)
   ((Cd A7 (AX (Aq+1)) 30).bind fun u5=>
   (DI (AH,AJ,())).bind fun u6=>
   cond (u6.1.1)
    (cond (u5.1.1)
     ((FB (AH,AJ,()) Dn).bind fun u7=>
     cond (u7.1.1)
      ((Ov (A7,Aq,Dn,JF,Nn,Du,())).bind fun u8=>
      cond (u8.1.1)
       (some ((((Du.length:Int)==u3.1.1),()),()))
      (some ((false,()),())))
     (some ((false,()),())))
    (some ((false,()),())))
   (some ((false,()),())))
  ((DI (AH,AJ,())).bind fun HK=>
  cond (HK.1.1)
   (some ((false,()),()))
  (some ((false,()),()))))
 ((HZ Aq).bind fun Qp=>
 cond (Qp.1.1)
  ((Cd A7 (AX (Aq+1)) 30).bind fun Cj=>
  (DI (AH,AJ,())).bind fun Th=>
  cond (Th.1.1)
   (cond (Cj.1.1)
    ((FB (AH,AJ,()) Dn).bind fun Jw=>
    cond (Jw.1.1)
     ((Ov (A7,Aq,Dn,JF,Nn,Du,())).bind fun jr=>
     cond (jr.1.1)
      (some ((((Du.length:Int)==0),()),()))
     (some ((false,()),())))
    (some ((false,()),())))
   (some ((false,()),())))
  (some ((false,()),())))
 ((DI (AH,AJ,())).bind fun UM=>
 cond (UM.1.1)
  (some ((false,()),()))
 (some ((false,()),())))))
def IV:Nat→RG
 |0=>fun _ _ _ _ _ _ _ _ _ _ _=>none
 |n+1=>ND (IV n)
def Sv(R2:RG)(p0:AAw)(p1:AA2):Option Oc:=
 R2 p1.2.2.2.2.2.1 (p1.2.2.2.2.2.1.length:Int) 0 p0.1 p0.2.1 p1.1 p1.2.1 p1.2.2.1 p1.2.2.2.1 p1.2.2.2.2.1 p1.2.2.2.2.2.1
def SN(p0:AAw)(p1:AA2):Option Oc:=Sv (IV Aa) p0 p1
abbrev KY:Type:=ABD×Unit
abbrev My:Type:=AAi→Int→Int→Option KY
def KQ(R2:My)(t6:AAi)(t7 t8:Int):Option KY:=
 cond (decide (t8<t7))
  (if(0:Int)≤t8∧t8<(t6.length:Int)then(
  cond (!((t6.getD (t8.toNat) ([],false,0,())).2.1))
   (some ((AX (t8+1),()),()))
  (R2 t6 t7 (AX (t8+1))))else none)
 (some ((0,()),()))
def FX:Nat→My
 |0=>fun _ _ _=>none
 |n+1=>KQ (FX n)
def Oz(R2:My)(p0:ABB):Option KY:=
 R2 p0.1 (p0.1.length:Int) 0
def NI(p0:ABB):Option KY:=Oz (FX Aa) p0
abbrev HN:Type:=AA4×Unit
abbrev Jb:Type:=AA7→AAt→Int→Int→Option HN
def Hh(R2:Jb)(t0:AA7)(t8:AAt)(t9 t10:Int):Option HN:=
 cond (decide (t10<t9))
  (if(0:Int)≤t10∧t10<(t8.length:Int)then(
  (SN (t0.1,t0.2.1,()) ((t8.getD (t10.toNat) (0,0,[],[],false,[],())).1,(t8.getD (t10.toNat) (0,0,[],[],false,[],())).2.1,(t8.getD (t10.toNat) (0,0,[],[],false,[],())).2.2.1,(t8.getD (t10.toNat) (0,0,[],[],false,[],())).2.2.2.1,(t8.getD (t10.toNat) (0,0,[],[],false,[],())).2.2.2.2.1,(t8.getD (t10.toNat) (0,0,[],[],false,[],())).2.2.2.2.2.1,())).bind fun u2=>
  cond (!u2.1.1)
   (some ((false,()),()))
  (cond (((t8.getD (t10.toNat) (0,0,[],[],false,[],())).1) !=(t0.2.2.2.2.1.length:Int))
   (some ((false,()),()))
  ((NI (t0.2.2.2.2.1,t0.2.2.2.2.2.1,())).bind fun u6=>
  cond (((t8.getD (t10.toNat) (0,0,[],[],false,[],())).2.1) !=u6.1.1)
   (some ((false,()),()))
  (R2 t0 t8 t9 (AX (t10+1))))))else none)
 (some ((decide ((t0.2.2.2.2.2.2.2.1.length:Int)≤1),()),()))
def DZ:Nat→Jb
 |0=>fun _ _ _ _=>none
 |n+1=>Hh (DZ n)
def LW(R2:Jb)(p0:AA7):Option HN:=
 R2 p0 p0.2.2.2.2.2.2.2.1 (p0.2.2.2.2.2.2.2.1.length:Int) 0
def Im(p0:AA7):Option HN:=LW (DZ Aa) p0
abbrev bT:Type:=AA4×Unit
def TQ(p0:ABk):Option bT:=
 (Cd p0.1 1 31).bind fun u1=>
 cond (u1.1.1)
  ((Cd p0.2.1 1 61).bind fun u2=>
  cond (u2.1.1)
   (some ((decide ((p0.2.2.1.length:Int)≤120),()),()))
  (some ((false,()),())))
 (some ((false,()),()))
abbrev F_:Type:=AA4×Unit
abbrev IX:Type:=AA7→AAv→Int→Int→Option F_
def Gv(R2:IX)(t0:AA7)(t8:AAv)(t9 t10:Int):Option F_:=
 cond (decide (t10<t9))
  (if(0:Int)≤t10∧t10<(t8.length:Int)then(
  (TQ ((t8.getD (t10.toNat) (0,0,[],())).1,(t8.getD (t10.toNat) (0,0,[],())).2.1,(t8.getD (t10.toNat) (0,0,[],())).2.2.1,())).bind fun u2=>
  cond (!u2.1.1)
   (some ((false,()),()))
  (R2 t0 t8 t9 (AX (t10+1))))else none)
 (some (((t0.2.2.2.2.2.2.2.2.1.length:Int)==2,()),()))
def C1:Nat→IX
 |0=>fun _ _ _ _=>none
 |n+1=>Gv (C1 n)
def J8(R2:IX)(p0:AA7):Option F_:=
 R2 p0 p0.2.2.2.2.2.2.2.2.1 (p0.2.2.2.2.2.2.2.2.1.length:Int) 0
def HO(p0:AA7):Option F_:=J8 (C1 Aa) p0
abbrev Hz:Type:=AA4×Unit
abbrev KF:Type:=AA7→AAm→Int→Int→Option Hz
def H3(R2:KF)(t0:AA7)(t8:AAm)(t9 t10:Int):Option Hz:=
 cond (decide (t10<t9))
  (if(0:Int)≤t10∧t10<(t8.length:Int)then(
  (It ((t8.getD (t10.toNat) (0,[],false,())).1)).bind fun u3=>
  (Gw t0 u3.1.1).bind fun u4=>
  cond (!u4.1.1)
   (some ((false,()),()))
  ((GG ((t8.getD (t10.toNat) (0,[],false,())).2.1)).bind fun u6=>
  cond (!u6.1.1)
   (some ((false,()),()))
  (cond (decide (t10>0))
   (if(0:Int)≤AX (t10-1)∧AX (t10-1)<(t0.2.2.2.2.2.2.2.2.2.1.length:Int)then(
   cond (decide (((t0.2.2.2.2.2.2.2.2.2.1.getD ((AX (t10-1)).toNat) (0,[],false,())).1)≥((t8.getD (t10.toNat) (0,[],false,())).1)))
    (some ((false,()),()))
   (R2 t0 t8 t9 (AX (t10+1))))else none)
  (R2 t0 t8 t9 (AX (t10+1))))))else none)
 (some ((decide ((t0.2.2.2.2.2.2.2.2.2.1.length:Int)≤120),()),()))
def D3:Nat→KF
 |0=>fun _ _ _ _=>none
 |n+1=>H3 (D3 n)
def L8(R2:KF)(p0:AA7):Option Hz:=
 R2 p0 p0.2.2.2.2.2.2.2.2.2.1 (p0.2.2.2.2.2.2.2.2.2.1.length:Int) 0
def Ji(p0:AA7):Option Hz:=L8 (D3 Aa) p0
abbrev eJ:Type:=AA4×Unit
def QY(p0:AA7):Option eJ:=
 (DI (p0.1,p0.2.1,())).bind fun u1=>
 cond (u1.1.1)
  ((Hw (p0.1,p0.2.1,p0.2.2.1,p0.2.2.2.1,p0.2.2.2.2.1,p0.2.2.2.2.2.1,p0.2.2.2.2.2.2.1,p0.2.2.2.2.2.2.2.1,p0.2.2.2.2.2.2.2.2.1,p0.2.2.2.2.2.2.2.2.2.1,p0.2.2.2.2.2.2.2.2.2.2.1,())).bind fun u2=>
  cond (u2.1.1)
   ((UY (p0.1,p0.2.1,()) (p0.2.2.2.2.1,p0.2.2.2.2.2.1,())).bind fun u3=>
   cond (u3.1.1)
    ((He (p0.1,p0.2.1,p0.2.2.1,p0.2.2.2.1,p0.2.2.2.2.1,p0.2.2.2.2.2.1,p0.2.2.2.2.2.2.1,p0.2.2.2.2.2.2.2.1,p0.2.2.2.2.2.2.2.2.1,p0.2.2.2.2.2.2.2.2.2.1,p0.2.2.2.2.2.2.2.2.2.2.1,())).bind fun u4=>
    cond (u4.1.1)
     ((Im (p0.1,p0.2.1,p0.2.2.1,p0.2.2.2.1,p0.2.2.2.2.1,p0.2.2.2.2.2.1,p0.2.2.2.2.2.2.1,p0.2.2.2.2.2.2.2.1,p0.2.2.2.2.2.2.2.2.1,p0.2.2.2.2.2.2.2.2.2.1,p0.2.2.2.2.2.2.2.2.2.2.1,())).bind fun u5=>
     cond (u5.1.1)
      ((HO (p0.1,p0.2.1,p0.2.2.1,p0.2.2.2.1,p0.2.2.2.2.1,p0.2.2.2.2.2.1,p0.2.2.2.2.2.2.1,p0.2.2.2.2.2.2.2.1,p0.2.2.2.2.2.2.2.2.1,p0.2.2.2.2.2.2.2.2.2.1,p0.2.2.2.2.2.2.2.2.2.2.1,())).bind fun u6=>
      cond (u6.1.1)
       ((Ji (p0.1,p0.2.1,p0.2.2.1,p0.2.2.2.1,p0.2.2.2.2.1,p0.2.2.2.2.2.1,p0.2.2.2.2.2.2.1,p0.2.2.2.2.2.2.2.1,p0.2.2.2.2.2.2.2.2.1,p0.2.2.2.2.2.2.2.2.2.1,p0.2.2.2.2.2.2.2.2.2.2.1,())).bind fun u7=>
       some ((u7.1.1,()),()))
      (some ((false,()),())))
     (some ((false,()),())))
    (some ((false,()),())))
   (some ((false,()),())))
  (some ((false,()),())))
 (some ((false,()),()))
abbrev kG:Type:=AA4×Unit
def BT(p0 p1 p2:Int):Option kG:=
 cond (decide (p0≥p1))
  (some ((decide (p0≤p2),()),()))
 (some ((false,()),()))
abbrev Lh:Type:=AA4×Unit
abbrev N3:Type:=Int→List Int→Int→Option Lh
def Pt(R4:N3)(t3:Int)(AH:AAg)(AJ:Int):Option Lh:=
 cond ((decide (t3<(AH.length:Int))))
  (if(0:Int)≤t3∧t3<(AH.length:Int)then(
  (BT (AH.getD (t3.toNat) 0) 0 7).bind fun u5=>
  cond (!u5.1.1)
   (some ((false,()),()))
  (R4 (AX (t3+1)) AH AJ))else none)
 (some ((true,()),()))
def H9:Nat→N3
 |0=>fun _ _ _=>none
 |n+1=>Pt (H9 n)
def P2(R4:N3)(p0:AAw):Option Lh:=
 (BT (p0.1.length:Int) 1 8).bind fun u1=>
 cond (!u1.1.1)
  (some ((false,()),()))
 ((BT p0.2.1 1 4).bind fun u2=>
 cond (!u2.1.1)
  (some ((false,()),()))
 (R4 0 p0.1 p0.2.1))
def EJ(p0:AAw):Option Lh:=P2 (H9 Aa) p0
abbrev S_:Type:=ABD×Unit
def O8(p0:AAg)(p1 p2:Int):Option S_:=
 let x1:Int:=AX ((p0.length:Int).tdiv 4)
 cond ((decide ((AX (p1+x1))>p2)))
  (some ((p2,()),()))
 (some ((AX (p1+x1),()),()))
abbrev QV:Type:=AA4×Unit
abbrev TZ:Type:=List Int→Int→Int→Int→Option QV
def N2(R2:TZ)(t0:AAg)(t1 t2 t7:Int):Option QV:=
 cond ((decide (t7<(t0.length:Int))))
  (if(0:Int)≤t7∧t7<(t0.length:Int)then(
  (BT (t0.getD (t7.toNat) 0) t1 t2).bind fun u3=>
  cond (!u3.1.1)
   (some ((false,()),()))
  (cond (decide (t7>0))
   (if(0:Int)≤AX (t7-1)∧AX (t7-1)<(t0.length:Int)then(
   if(0:Int)≤t7∧t7<(t0.length:Int)then(
   cond (decide ((t0.getD ((AX (t7-1)).toNat) 0)≥(t0.getD (t7.toNat) 0)))
    (some ((false,()),()))
   (R2 t0 t1 t2 (AX (t7+1))))else none)else none)
  (R2 t0 t1 t2 (AX (t7+1)))))else none)
 (some ((true,()),()))
def JP:Nat→TZ
 |0=>fun _ _ _ _=>none
 |n+1=>N2 (JP n)
def UC(R2:TZ)(p0:AAg)(p1 p2:Int):Option QV:=
 R2 p0 p1 p2 0
def Qv(p0:AAg)(p1 p2:Int):Option QV:=UC (JP Aa) p0 p1 p2
abbrev cy:Type:=AA4×Unit
def ES(p0:AAw)(p1:AAg):Option cy:=
 (EJ (p0.1,p0.2.1,())).bind fun u1=>
 cond (u1.1.1)
  ((Qv p1 0 (AX ((p0.1.length:Int)-1))).bind fun u3=>
  some ((u3.1.1,()),()))
 (some ((false,()),()))
abbrev Og:Type:=ABD×Unit
abbrev RR:Type:=List Int→Int→Int→List Int→Int→List Bool→Option Og
def SI(R4:RR)(t1:AAg)(t6 t7:Int)(AH:AAg)(AJ:Int)(b1:List Bool):Option Og:=
 cond ((decide (t7<(t1.length:Int))))
  (if(0:Int)≤t7∧t7<(t1.length:Int)then(
  let x3:Int:=(t1.getD (t7.toNat) 0)
  if(0:Int)≤x3∧x3<(AH.length:Int)then(
  let x4:Int:=(AH.getD (x3.toNat) 0)
  if(0:Int)≤x4∧x4<(b1.length:Int)then(
  cond (!(b1.getD (x4.toNat) false))
   (if(0:Int)≤x4∧x4<(b1.length:Int)then(
   R4 t1 (AX (t6+1)) (AX (t7+1)) AH AJ (b1.set (x4.toNat) true))else none)
  (R4 t1 t6 (AX (t7+1)) AH AJ b1))else none)else none)else none)
 (some ((t6,()),()))
def KU:Nat→RR
 |0=>fun _ _ _ _ _ _=>none
 |n+1=>SI (KU n)
def Se(R4:RR)(p0:AAw)(p1:AAg):Option Og:=
 R4 p1 0 0 p0.1 p0.2.1 (List.replicate 8 false)
def Oq(p0:AAw)(p1:AAg):Option Og:=Se (KU Aa) p0 p1
abbrev Yz:Type:=AA4×Unit
def C7(p0:AAw)(p1:AAg):Option Yz:=
 (ES (p0.1,p0.2.1,()) p1).bind fun u1=>
 cond (u1.1.1)
  ((Oq (p0.1,p0.2.1,()) p1).bind fun u2=>
  some (((decide (u2.1.1≥p0.2.1)),()),()))
 (some ((false,()),()))
abbrev aO:Type:=ADj×AEP
def RT:Option aO:=
 some (((1,1,(),()),()),([],()))
abbrev bX:Type:=((ADk×Bool×Unit)×Unit)×ACL
def FA(p0:AAw):Option bX:=
 (EJ (p0.1,p0.2.1,())).bind fun u1=>
 cond (!u1.1.1)
  (some (((((),0,(),(),(),0,(),(),(),(),false,()),false,()),()),([],[],[],[],[],[],[],[],())))
 (if 0+p0.1.length≤DH then(
 if(0:Int)≤(p0.1.length:Int)∧(p0.1.length:Int)≤(p0.1.length:Int)∧(p0.1.length:Int)≤(DH:Int)then(
 (RT).bind fun u3=>
 (RT).bind fun u4=>
 some (((((),p0.2.1,(),(),(),0,(),(),(),(),false,()),true,()),()),(p0.1,(List.replicate ((p0.1.length:Int).toNat) ([],[],0,())),[],[],[],[],[(u3.1.1.1,u3.1.1.2.1,u3.2.1,()),(u4.1.1.1,u4.1.1.2.1,u4.2.1,())],[],())))else none)else none)
abbrev Kw:Type:=ABD×Unit
def DR(p0 p1:Int):Option Kw:=
 cond (decide (p0>p1))
  (some ((p0,()),()))
 (some ((p1,()),()))
abbrev EP:Type:=AA4×Unit
abbrev TS:Type:=List Int→Int→Int→Option EP
def Nz(R2:TS)(t0:AAg)(t1 t5:Int):Option EP:=
 cond ((decide (t5<(t0.length:Int))))
  (if(0:Int)≤t5∧t5<(t0.length:Int)then(
  cond ((t0.getD (t5.toNat) 0)==t1)
   (some ((true,()),()))
  (R2 t0 t1 (AX (t5+1))))else none)
 (some ((false,()),()))
def Hl:Nat→TS
 |0=>fun _ _ _=>none
 |n+1=>Nz (Hl n)
def N5(R2:TS)(p0:AAg)(p1:Int):Option EP:=
 R2 p0 p1 0
def B4(p0:AAg)(p1:Int):Option EP:=N5 (Hl Aa) p0 p1
abbrev QJ:Type:=ABK×ABL
abbrev TH:Type:=List Int→Int→Bool→Int→List Int→Option QJ
def Kp(R4:TH)(t0:AAg)(t1:Int)(t6:Bool)(t7:Int)(b0:AAg):Option QJ:=
 cond ((decide (t7<(t0.length:Int))))
  (cond (!t6)
   (if(0:Int)≤t7∧t7<(t0.length:Int)then(
   cond (decide ((t0.getD (t7.toNat) 0)>t1))
    (if b0.length+1≤DH then(
    if(0:Int)≤t7∧t7<(t0.length:Int)then(
    if(b0++[t1]).length+1≤DH then(
    R4 t0 t1 true (AX (t7+1)) ((b0++[t1])++[(t0.getD (t7.toNat) 0)]))else none)else none)else none)
   (if(0:Int)≤t7∧t7<(t0.length:Int)then(
   if b0.length+1≤DH then(
   R4 t0 t1 t6 (AX (t7+1)) (b0++[(t0.getD (t7.toNat) 0)]))else none)else none))else none)
  (if(0:Int)≤t7∧t7<(t0.length:Int)then(
  if b0.length+1≤DH then(
  R4 t0 t1 t6 (AX (t7+1)) (b0++[(t0.getD (t7.toNat) 0)]))else none)else none))
 (cond (!t6)
  (if b0.length+1≤DH then(
  some (((),()),(b0++[t1],())))else none)
 (some (((),()),(b0,()))))
def FC:Nat→TH
 |0=>fun _ _ _ _ _=>none
 |n+1=>Kp (FC n)
def N_(R4:TH)(p0:AAg)(p1:Int):Option QJ:=
 (B4 p0 p1).bind fun u1=>
 R4 p0 p1 u1.1.1 0 []
def Fj(p0:AAg)(p1:Int):Option QJ:=N_ (FC Aa) p0 p1
abbrev Et:Type:=ABK×AD_
abbrev K9:Type:=Int→Int→List Int→Int→Int→List Int→Int→List Int→Option Et
def NA(R4:K9)(t6 t7:Int)(AH:AAg)(AJ AR:Int)(A7:AAg)(Aq:Int)(b2:AAg):Option Et:=
 cond (decide (t7<t6))
  ((DR (A7.length:Int) 1).bind fun u3=>
  (AF u3.1.1 AH AJ AR).bind fun u4=>
  (Fj b2 u4.1.1).bind fun u5=>
  R4 t6 (AX (t7+1)) u4.2.1.1 u4.2.1.2.1 u4.2.1.2.2.1 A7 Aq u5.2.1)
 ((Aj 20 AH AJ AR).bind fun u6=>
 cond (u6.1.1)
  ((Ba [(-1),0,(A7.length:Int)] u6.2.1.1 u6.2.1.2.1 u6.2.1.2.2.1).bind fun u7=>
  if b2.length+1≤DH then(
  some (((),()),((u7.2.1.1,u7.2.1.2.1,u7.2.1.2.2.1,()),b2++[u7.1.1],())))else none)
 (some (((),()),((u6.2.1.1,u6.2.1.2.1,u6.2.1.2.2.1,()),b2,()))))
def F5:Nat→K9
 |0=>fun _ _ _ _ _ _ _ _=>none
 |n+1=>NA (F5 n)
def NX(R4:K9)(p1:AAw)(AH:AAg)(AJ AR:Int):Option Et:=
 (AF (AX ((p1.1.length:Int)+2)) AH AJ AR).bind fun u2=>
 R4 u2.1.1 0 u2.2.1.1 u2.2.1.2.1 u2.2.1.2.2.1 p1.1 p1.2.1 []
def DK(p1:AAw)(AH:AAg)(AJ AR:Int):Option Et:=NX (F5 Aa) p1 AH AJ AR
abbrev Ks:Type:=ABK×AD_
abbrev Nd:Type:=Int→List Int→Int→Int→List Int→Int→List Int→Option Ks
def PF(R3:Nd)(t6:Int)(AH:AAg)(AJ AR:Int)(A7:AAg)(Aq:Int)(b2:AAg):Option Ks:=
 cond ((decide (t6<(A7.length:Int))))
  ((C7 (A7,Aq,()) b2).bind fun u3=>
  cond (!u3.1.1)
   ((Fj b2 t6).bind fun u4=>
   R3 (AX (t6+1)) AH AJ AR A7 Aq u4.2.1)
  (some (((),()),((AH,AJ,AR,()),b2,()))))
 (some (((),()),((AH,AJ,AR,()),b2,())))
def HV:Nat→Nd
 |0=>fun _ _ _ _ _ _ _=>none
 |n+1=>PF (HV n)
def PH(R3:Nd)(p1:AAw)(AH:AAg)(AJ AR:Int):Option Ks:=
 (DK (p1.1,p1.2.1,()) AH AJ AR).bind fun u1=>
 R3 0 u1.2.1.1 u1.2.1.2.1 u1.2.1.2.2.1 p1.1 p1.2.1 u1.2.2.1
def FF(p1:AAw)(AH:AAg)(AJ AR:Int):Option Ks:=PH (HV Aa) p1 AH AJ AR
abbrev Kh:Type:=ABD×Unit
abbrev Mj:Type:=List Int→Int→Int→Option Kh
def Ou(R5:Mj)(t0:AAg)(t3 t4:Int):Option Kh:=
 cond ((decide (t4<(t0.length:Int))))
  (if(0:Int)≤t4∧t4<(t0.length:Int)then(
  let x3:Int:=(t0.getD (t4.toNat) 0)
  if x3<0 then none else(
  R5 t0 (bOr .i64 t3 (AX (1*2^(min x3.toNat 64)))) (AX (t4+1))))else none)
 (some ((t3,()),()))
def HY:Nat→Mj
 |0=>fun _ _ _=>none
 |n+1=>Ou (HY n)
def PT(R5:Mj)(p0:AAg):Option Kh:=
 (Qv p0 0 7).bind fun u1=>
 cond (!u1.1.1)
  (some (((-1),()),()))
 (R5 p0 0 0)
def H7(p0:AAg):Option Kh:=PT (HY Aa) p0
abbrev Ka:Type:=ABD×Unit
abbrev NR:Type:=Int→AAi→Int→Option Ka
def J4(R2:NR)(t3:Int)(AH:AAi)(AJ:Int):Option Ka:=
 cond ((decide (t3<(AH.length:Int))))
  (if(0:Int)≤t3∧t3<(AH.length:Int)then(
  cond (!((AH.getD (t3.toNat) ([],false,0,())).2.1))
   (some ((AX (t3+1),()),()))
  (R2 (AX (t3+1)) AH AJ))else none)
 (some ((0,()),()))
def FZ:Nat→NR
 |0=>fun _ _ _=>none
 |n+1=>J4 (FZ n)
def PB(R2:NR)(p0:ABB):Option Ka:=
 R2 0 p0.1 p0.2.1
def Gn(p0:ABB):Option Ka:=PB (FZ Aa) p0
abbrev Ei:Type:=ABK×ABL
def Bk(p0:ABB)(p1:Int):Option Ei:=
 (BT p1 1 (p0.1.length:Int)).bind fun u1=>
 cond (!u1.1.1)
  (some (((),()),([],())))
 (if(0:Int)≤AX (p1-1)∧AX (p1-1)<(p0.1.length:Int)then(
 if 0+((p0.1.getD ((AX (p1-1)).toNat) ([],false,0,())).1).length≤DH then(
 some (((),()),(((p0.1.getD ((AX (p1-1)).toNat) ([],false,0,())).1),())))else none)else none)
abbrev Iq:Type:=AFC×ABr
abbrev KL:Type:=Int→Int→Int→List Int→Int→Int→List Int→Int→AAj→List Int→AAi→Int→AAn→AAt→AAv→AAm→Bool→Int→Int→Int→Int→List UInt8→Int→Int→List Int→AAh→Bool→List AAg→Option Iq
def MN(oE:KL)(t7 t8 t9:Int)(AH:AAg)(AJ AR:Int)(A7:AAg)(Aq:Int)(Dn:AAj)(JF:AAg)(Nn:AAi)(Du:Int)(AEH:AAn)(AEz:AAt)(AFM:AAv)(ADw:AAm)(FI:Bool)(Iy JX AC_ ABZ:Int)(MZ:AA_)(Xa WK:Int)(AEI:AAg)(AEB:AAh)(AEj:Bool)(pj:List AAg):Option Iq:=
 cond ((decide (t9<(pj.length:Int))))
  (if(0:Int)≤t9∧t9<(pj.length:Int)then(
  (C7 (A7,Aq,()) (pj.getD (t9.toNat) [])).bind fun s_=>
  cond (!s_.1.1)
   ((Aj 3 AH AJ AR).bind fun S7=>
   cond (!S7.1.1)
    (oE t7 (AX (t9+1)) (AX (t9+1)) S7.2.1.1 S7.2.1.2.1 S7.2.1.2.2.1 A7 Aq Dn JF Nn Du AEH AEz AFM ADw FI Iy JX AC_ ABZ MZ Xa WK AEI AEB AEj pj)
   (oE t7 t8 (AX (t9+1)) S7.2.1.1 S7.2.1.2.1 S7.2.1.2.2.1 A7 Aq Dn JF Nn Du AEH AEz AFM ADw FI Iy JX AC_ ABZ MZ Xa WK AEI AEB AEj pj))
  (oE t7 t8 (AX (t9+1)) AH AJ AR A7 Aq Dn JF Nn Du AEH AEz AFM ADw FI Iy JX AC_ ABZ MZ Xa WK AEI AEB AEj pj))else none)
 (some (((11,0,t8,t7,[],()),()),((AH,AJ,AR,()),())))
def D6:Nat→KL
 |0=>fun _ _ _ _ _ _ _ _ _ _ _ _ _ _ _ _ _ _ _ _ _ _ _ _ _ _ _ _=>none
 |n+1=>MN (D6 n)
def M3(oE:KL)(p1:AA7)(AH:AAg)(AJ AR:Int):Option Iq:=
 cond ((p1.2.2.2.2.2.2.2.1.length:Int)==0)
  (some (((8,0,0,0,[],()),()),((AH,AJ,AR,()),())))
 (if(0:Int)≤(0:Int)∧(0:Int)<(p1.2.2.2.2.2.2.2.1.length:Int)then(
 (Bk (p1.2.2.2.2.1,p1.2.2.2.2.2.1,()) ((p1.2.2.2.2.2.2.2.1.getD 0 (0,0,[],[],false,[],())).2.1)).bind fun u3=>
 (AF (u3.2.1.length:Int) AH AJ AR).bind fun u5=>
 if(0:Int)≤u5.1.1∧u5.1.1<(u3.2.1.length:Int)then(
 let x6:Int:=(u3.2.1.getD (u5.1.1.toNat) 0)
 cond (!((p1.2.2.2.2.2.2.2.1.getD 0 (0,0,[],[],false,[],())).2.2.2.2.1))
  ((Aj 4 u5.2.1.1 u5.2.1.2.1 u5.2.1.2.2.1).bind fun u8=>
  cond (u8.1.1)
   (some (((10,0,0,0,[],()),()),((u8.2.1.1,u8.2.1.2.1,u8.2.1.2.2.1,()),())))
  (cond (!((p1.2.2.2.2.2.2.2.1.getD 0 (0,0,[],[],false,[],())).2.2.2.2.1))
   (some (((9,x6,0,0,[],()),()),((u8.2.1.1,u8.2.1.2.1,u8.2.1.2.2.1,()),())))
  ((Aj 6 u8.2.1.1 u8.2.1.2.1 u8.2.1.2.2.1).bind fun HK=>
  cond (HK.1.1)
   (some (((12,0,0,0,[],()),()),((HK.2.1.1,HK.2.1.2.1,HK.2.1.2.2.1,()),())))
  ((Aj 3 HK.2.1.1 HK.2.1.2.1 HK.2.1.2.2.1).bind fun Qp=>
  cond (Qp.1.1)
   (some (((4,x6,0,0,[],()),()),((Qp.2.1.1,Qp.2.1.2.1,Qp.2.1.2.2.1,()),())))
  ((DR (((p1.2.2.2.2.2.2.2.1.getD 0 (0,0,[],[],false,[],())).2.2.2.2.2.1).length:Int) 1).bind fun Th=>
  (AF Th.1.1 Qp.2.1.1 Qp.2.1.2.1 Qp.2.1.2.2.1).bind fun Jw=>
  oE x6 (AX (1+Jw.1.1)) 0 Jw.2.1.1 Jw.2.1.2.1 Jw.2.1.2.2.1 p1.1 p1.2.1 p1.2.2.1 p1.2.2.2.1 p1.2.2.2.2.1 p1.2.2.2.2.2.1 p1.2.2.2.2.2.2.1 p1.2.2.2.2.2.2.2.1 p1.2.2.2.2.2.2.2.2.1 p1.2.2.2.2.2.2.2.2.2.1 p1.2.2.2.2.2.2.2.2.2.2.1 0 0 0 0 [] ((p1.2.2.2.2.2.2.2.1.getD 0 (0,0,[],[],false,[],())).1) ((p1.2.2.2.2.2.2.2.1.getD 0 (0,0,[],[],false,[],())).2.1) ((p1.2.2.2.2.2.2.2.1.getD 0 (0,0,[],[],false,[],())).2.2.1) ((p1.2.2.2.2.2.2.2.1.getD 0 (0,0,[],[],false,[],())).2.2.2.1) ((p1.2.2.2.2.2.2.2.1.getD 0 (0,0,[],[],false,[],())).2.2.2.2.1) ((p1.2.2.2.2.2.2.2.1.getD 0 (0,0,[],[],false,[],())).2.2.2.2.2.1))))))
 (cond (!((p1.2.2.2.2.2.2.2.1.getD 0 (0,0,[],[],false,[],())).2.2.2.2.1))
  (some (((9,x6,0,0,[],()),()),((u5.2.1.1,u5.2.1.2.1,u5.2.1.2.2.1,()),())))
 ((Aj 6 u5.2.1.1 u5.2.1.2.1 u5.2.1.2.2.1).bind fun u16=>
 cond (u16.1.1)
  (some (((12,0,0,0,[],()),()),((u16.2.1.1,u16.2.1.2.1,u16.2.1.2.2.1,()),())))
 ((Aj 3 u16.2.1.1 u16.2.1.2.1 u16.2.1.2.2.1).bind fun UM=>
 cond (UM.1.1)
  (some (((4,x6,0,0,[],()),()),((UM.2.1.1,UM.2.1.2.1,UM.2.1.2.2.1,()),())))
 ((DR (((p1.2.2.2.2.2.2.2.1.getD 0 (0,0,[],[],false,[],())).2.2.2.2.2.1).length:Int) 1).bind fun X1=>
 (AF X1.1.1 UM.2.1.1 UM.2.1.2.1 UM.2.1.2.2.1).bind fun Ot=>
 oE x6 (AX (1+Ot.1.1)) 0 Ot.2.1.1 Ot.2.1.2.1 Ot.2.1.2.2.1 p1.1 p1.2.1 p1.2.2.1 p1.2.2.2.1 p1.2.2.2.2.1 p1.2.2.2.2.2.1 p1.2.2.2.2.2.2.1 p1.2.2.2.2.2.2.2.1 p1.2.2.2.2.2.2.2.2.1 p1.2.2.2.2.2.2.2.2.2.1 p1.2.2.2.2.2.2.2.2.2.2.1 0 0 0 0 [] ((p1.2.2.2.2.2.2.2.1.getD 0 (0,0,[],[],false,[],())).1) ((p1.2.2.2.2.2.2.2.1.getD 0 (0,0,[],[],false,[],())).2.1) ((p1.2.2.2.2.2.2.2.1.getD 0 (0,0,[],[],false,[],())).2.2.1) ((p1.2.2.2.2.2.2.2.1.getD 0 (0,0,[],[],false,[],())).2.2.2.1) ((p1.2.2.2.2.2.2.2.1.getD 0 (0,0,[],[],false,[],())).2.2.2.2.1) ((p1.2.2.2.2.2.2.2.1.getD 0 (0,0,[],[],false,[],())).2.2.2.2.2.1))))))else none)else none)
def IK(p1:AA7)(AH:AAg)(AJ AR:Int):Option Iq:=M3 (D6 Aa) p1 AH AJ AR
abbrev fz:Type:=(List UInt8×Unit)×ABr
def Eg(p1:List AA_)(AH:AAg)(AJ AR:Int):Option fz:=
 (AF (p1.length:Int) AH AJ AR).bind fun u1=>
 if(0:Int)≤u1.1.1∧u1.1.1<(p1.length:Int)then(
 some (((p1.getD (u1.1.1.toNat) []),()),((u1.2.1.1,u1.2.1.2.1,u1.2.1.2.2.1,()),())))else none
abbrev jW:Type:=ABD×Unit
def OB(p0 p1:Int):Option jW:=
 cond (decide (p0<p1))
  (some ((p0,()),()))
 (some ((p1,()),()))
abbrev W_:Type:=AFC×ABr
def EW(p1:AA7)(AH:AAg)(AJ AR:Int):Option W_:=
 (AF (p1.2.2.2.2.2.2.1.length:Int) AH AJ AR).bind fun u2=>
 (Aj 3 u2.2.1.1 u2.2.1.2.1 u2.2.1.2.2.1).bind fun u3=>
 cond (!u3.1.1)
  (let x4:Int:=(p1.2.2.2.2.2.2.1.length:Int)
  if(0:Int)≤AX (x4-1)∧AX (x4-1)<(p1.2.2.2.2.2.2.1.length:Int)then(
  (Bk (p1.2.2.2.2.1,p1.2.2.2.2.2.1,()) ((p1.2.2.2.2.2.2.1.getD ((AX (x4-1)).toNat) (0,[],())).1)).bind fun u6=>
  (AF (u6.2.1.length:Int) u3.2.1.1 u3.2.1.2.1 u3.2.1.2.2.1).bind fun u8=>
  if(0:Int)≤u8.1.1∧u8.1.1<(u6.2.1.length:Int)then(
  let x9:Int:=(u6.2.1.getD (u8.1.1.toNat) 0)
  let x10:Int:=(((p1.2.2.2.2.2.2.1.getD ((AX (x4-1)).toNat) (0,[],())).2.1).length:Int)
  cond (x10==0)
   ((Eg [[],[97],[98,99],[100]] u8.2.1.1 u8.2.1.2.1 u8.2.1.2.2.1).bind fun Qp=>
   some (((2,AX (x4-1),0,0,Qp.1.1,()),()),((Qp.2.1.1,Qp.2.1.2.1,Qp.2.1.2.2.1,()),())))
  ((Aj 7 u8.2.1.1 u8.2.1.2.1 u8.2.1.2.2.1).bind fun Cj=>
  cond (Cj.1.1)
   ((Eg [[],[97],[98,99],[100]] Cj.2.1.1 Cj.2.1.2.1 Cj.2.1.2.2.1).bind fun Th=>
   some (((2,AX (x4-1),0,0,Th.1.1,()),()),((Th.2.1.1,Th.2.1.2.1,Th.2.1.2.2.1,()),())))
  ((Aj 3 Cj.2.1.1 Cj.2.1.2.1 Cj.2.1.2.2.1).bind fun Jw=>
  cond (Jw.1.1)
   (some (((4,x9,0,0,[],()),()),((Jw.2.1.1,Jw.2.1.2.1,Jw.2.1.2.2.1,()),())))
  ((OB x10 3).bind fun jr=>
  (AF jr.1.1 Jw.2.1.1 Jw.2.1.2.1 Jw.2.1.2.2.1).bind fun u16=>
  some (((3,AX (x4-1),AX (x10-u16.1.1),x9,[],()),()),((u16.2.1.1,u16.2.1.2.1,u16.2.1.2.2.1,()),()))))))else none)else none)
 (if(0:Int)≤u2.1.1∧u2.1.1<(p1.2.2.2.2.2.2.1.length:Int)then(
 (Bk (p1.2.2.2.2.1,p1.2.2.2.2.2.1,()) ((p1.2.2.2.2.2.2.1.getD (u2.1.1.toNat) (0,[],())).1)).bind fun Ru=>
 (AF (Ru.2.1.length:Int) u3.2.1.1 u3.2.1.2.1 u3.2.1.2.2.1).bind fun Ot=>
 if(0:Int)≤Ot.1.1∧Ot.1.1<(Ru.2.1.length:Int)then(
 let x21:Int:=(Ru.2.1.getD (Ot.1.1.toNat) 0)
 let x22:Int:=(((p1.2.2.2.2.2.2.1.getD (u2.1.1.toNat) (0,[],())).2.1).length:Int)
 cond (x22==0)
  ((Eg [[],[97],[98,99],[100]] Ot.2.1.1 Ot.2.1.2.1 Ot.2.1.2.2.1).bind fun S7=>
  some (((2,u2.1.1,0,0,S7.1.1,()),()),((S7.2.1.1,S7.2.1.2.1,S7.2.1.2.2.1,()),())))
 ((Aj 7 Ot.2.1.1 Ot.2.1.2.1 Ot.2.1.2.2.1).bind fun I_=>
 cond (I_.1.1)
  ((Eg [[],[97],[98,99],[100]] I_.2.1.1 I_.2.1.2.1 I_.2.1.2.2.1).bind fun Yf=>
  some (((2,u2.1.1,0,0,Yf.1.1,()),()),((Yf.2.1.1,Yf.2.1.2.1,Yf.2.1.2.2.1,()),())))
 ((Aj 3 I_.2.1.1 I_.2.1.2.1 I_.2.1.2.2.1).bind fun YI=>
 cond (YI.1.1)
  (some (((4,x21,0,0,[],()),()),((YI.2.1.1,YI.2.1.2.1,YI.2.1.2.2.1,()),())))
 ((OB x22 3).bind fun Yx=>
 (AF Yx.1.1 YI.2.1.1 YI.2.1.2.1 YI.2.1.2.2.1).bind fun OH=>
 some (((3,u2.1.1,AX (x22-OH.1.1),x21,[],()),()),((OH.2.1.1,OH.2.1.2.1,OH.2.1.2.2.1,()),()))))))else none)else none)
abbrev Xk:Type:=AFC×ABr
def Ku(p1:AA7)(AH:AAg)(AJ AR:Int):Option Xk:=
 cond ((p1.2.2.2.2.2.2.1.length:Int)==0)
  ((FF (p1.1,p1.2.1,()) AH AJ AR).bind fun u3=>
  (H7 u3.2.2.1).bind fun u4=>
  some (((1,u4.1.1,0,0,[],()),()),((u3.2.1.1,u3.2.1.2.1,u3.2.1.2.2.1,()),())))
 ((Aj 30 AH AJ AR).bind fun u5=>
 cond (u5.1.1)
  ((FF (p1.1,p1.2.1,()) u5.2.1.1 u5.2.1.2.1 u5.2.1.2.2.1).bind fun u6=>
  (H7 u6.2.2.1).bind fun u7=>
  some (((1,u7.1.1,0,0,[],()),()),((u6.2.1.1,u6.2.1.2.1,u6.2.1.2.2.1,()),())))
 ((AF (p1.2.2.1.length:Int) u5.2.1.1 u5.2.1.2.1 u5.2.1.2.2.1).bind fun u8=>
 (AF 44 u8.2.1.1 u8.2.1.2.1 u8.2.1.2.2.1).bind fun u9=>
 cond (u9.1.1==0)
  ((AF 16 u9.2.1.1 u9.2.1.2.1 u9.2.1.2.2.1).bind fun HK=>
  some (((5,u8.1.1,HK.1.1,0,[],()),()),((HK.2.1.1,HK.2.1.2.1,HK.2.1.2.2.1,()),())))
 (cond (u9.1.1==1)
  (cond ((p1.2.2.2.1.length:Int)==0)
   (some (((6,u8.1.1,0,0,[],()),()),((u9.2.1.1,u9.2.1.2.1,u9.2.1.2.2.1,()),())))
  ((Aj 12 u9.2.1.1 u9.2.1.2.1 u9.2.1.2.2.1).bind fun Cj=>
  cond (Cj.1.1)
   (some (((6,u8.1.1,0,0,[],()),()),((Cj.2.1.1,Cj.2.1.2.1,Cj.2.1.2.2.1,()),())))
  (if(0:Int)≤(0:Int)∧(0:Int)<(p1.2.2.2.1.length:Int)then(
  some (((7,(p1.2.2.2.1.getD 0 0),0,0,[],()),()),((Cj.2.1.1,Cj.2.1.2.1,Cj.2.1.2.2.1,()),())))else none)))
 (cond (u9.1.1==2)
  ((AF (p1.2.2.2.2.2.2.1.length:Int) u9.2.1.1 u9.2.1.2.1 u9.2.1.2.2.1).bind fun jr=>
  some (((15,jr.1.1,0,0,[],()),()),((jr.2.1.1,jr.2.1.2.1,jr.2.1.2.2.1,()),())))
 (cond (u9.1.1==3)
  ((Aj 3 u9.2.1.1 u9.2.1.2.1 u9.2.1.2.2.1).bind fun u16=>
  cond (u16.1.1)
   (cond (decide ((p1.2.2.2.2.2.2.2.2.2.1.length:Int)>0))
    ((AF (p1.2.2.2.2.2.2.2.2.2.1.length:Int) u16.2.1.1 u16.2.1.2.1 u16.2.1.2.2.1).bind fun X1=>
    if(0:Int)≤X1.1.1∧X1.1.1<(p1.2.2.2.2.2.2.2.2.2.1.length:Int)then(
    some (((13,((p1.2.2.2.2.2.2.2.2.2.1.getD (X1.1.1.toNat) (0,[],false,())).1),0,0,[],()),()),((X1.2.1.1,X1.2.1.2.1,X1.2.1.2.2.1,()),())))else none)
   (some (((16,u8.1.1,0,0,[],()),()),((u16.2.1.1,u16.2.1.2.1,u16.2.1.2.2.1,()),()))))
  (some (((16,u8.1.1,0,0,[],()),()),((u16.2.1.1,u16.2.1.2.1,u16.2.1.2.2.1,()),()))))
 (cond (u9.1.1==4)
  ((Aj 2 u9.2.1.1 u9.2.1.2.1 u9.2.1.2.2.1).bind fun cI=>
  cond (cI.1.1)
   ((AF 256 cI.2.1.1 cI.2.1.2.1 cI.2.1.2.2.1).bind fun s_=>
   (AF 2 s_.2.1.1 s_.2.1.2.1 s_.2.1.2.2.1).bind fun S7=>
   some (((14,S7.1.1,s_.1.1,0,[],()),()),((S7.2.1.1,S7.2.1.2.1,S7.2.1.2.2.1,()),())))
  ((AF 2 cI.2.1.1 cI.2.1.2.1 cI.2.1.2.2.1).bind fun I_=>
  some (((14,I_.1.1,255,0,[],()),()),((I_.2.1.1,I_.2.1.2.1,I_.2.1.2.2.1,()),()))))
 (cond (u9.1.1==5)
  ((Aj 2 u9.2.1.1 u9.2.1.2.1 u9.2.1.2.2.1).bind fun Yf=>
  cond (Yf.1.1)
   ((AF 256 Yf.2.1.1 Yf.2.1.2.1 Yf.2.1.2.2.1).bind fun YI=>
   (AF 2 YI.2.1.1 YI.2.1.2.1 YI.2.1.2.2.1).bind fun Yx=>
   some (((14,Yx.1.1,YI.1.1,0,[],()),()),((Yx.2.1.1,Yx.2.1.2.1,Yx.2.1.2.2.1,()),())))
  ((AF 2 Yf.2.1.1 Yf.2.1.2.1 Yf.2.1.2.2.1).bind fun OH=>
  some (((14,OH.1.1,255,0,[],()),()),((OH.2.1.1,OH.2.1.2.1,OH.2.1.2.2.1,()),()))))
 (cond (u9.1.1==6)
  ((Aj 2 u9.2.1.1 u9.2.1.2.1 u9.2.1.2.2.1).bind fun V6=>
  cond (V6.1.1)
   ((AF 256 V6.2.1.1 V6.2.1.2.1 V6.2.1.2.2.1).bind fun fq=>
   (AF 2 fq.2.1.1 fq.2.1.2.1 fq.2.1.2.2.1).bind fun bU=>
   some (((14,bU.1.1,fq.1.1,0,[],()),()),((bU.2.1.1,bU.2.1.2.1,bU.2.1.2.2.1,()),())))
  ((AF 2 V6.2.1.1 V6.2.1.2.1 V6.2.1.2.2.1).bind fun u32=>
  some (((14,u32.1.1,255,0,[],()),()),((u32.2.1.1,u32.2.1.2.1,u32.2.1.2.2.1,()),()))))
 (cond (u9.1.1==7)
  ((Aj 2 u9.2.1.1 u9.2.1.2.1 u9.2.1.2.2.1).bind fun U5=>
  cond (U5.1.1)
   ((AF 256 U5.2.1.1 U5.2.1.2.1 U5.2.1.2.2.1).bind fun u34=>
   (AF 2 u34.2.1.1 u34.2.1.2.1 u34.2.1.2.2.1).bind fun u35=>
   some (((14,u35.1.1,u34.1.1,0,[],()),()),((u35.2.1.1,u35.2.1.2.1,u35.2.1.2.2.1,()),())))
  ((AF 2 U5.2.1.1 U5.2.1.2.1 U5.2.1.2.2.1).bind fun u36=>
  some (((14,u36.1.1,255,0,[],()),()),((u36.2.1.1,u36.2.1.2.1,u36.2.1.2.2.1,()),()))))
 (cond (u9.1.1==8)
  ((Aj 2 u9.2.1.1 u9.2.1.2.1 u9.2.1.2.2.1).bind fun q_=>
  cond (q_.1.1)
   ((AF 256 q_.2.1.1 q_.2.1.2.1 q_.2.1.2.2.1).bind fun u38=>
   (AF 2 u38.2.1.1 u38.2.1.2.1 u38.2.1.2.2.1).bind fun ae=>
   some (((14,ae.1.1,u38.1.1,0,[],()),()),((ae.2.1.1,ae.2.1.2.1,ae.2.1.2.2.1,()),())))
  ((AF 2 q_.2.1.1 q_.2.1.2.1 q_.2.1.2.2.1).bind fun u40=>
  some (((14,u40.1.1,255,0,[],()),()),((u40.2.1.1,u40.2.1.2.1,u40.2.1.2.2.1,()),()))))
 (cond (decide ((p1.2.2.2.2.1.length:Int)>1))
  ((Gn (p1.2.2.2.2.1,p1.2.2.2.2.2.1,())).bind fun u43=>
  cond ((decide (u43.1.1<(p1.2.2.2.2.1.length:Int))))
   ((Aj 3 u9.2.1.1 u9.2.1.2.1 u9.2.1.2.2.1).bind fun u45=>
   cond (!u45.1.1)
    ((IK (p1.1,p1.2.1,p1.2.2.1,p1.2.2.2.1,p1.2.2.2.2.1,p1.2.2.2.2.2.1,p1.2.2.2.2.2.2.1,p1.2.2.2.2.2.2.2.1,p1.2.2.2.2.2.2.2.2.1,p1.2.2.2.2.2.2.2.2.2.1,p1.2.2.2.2.2.2.2.2.2.2.1,()) u45.2.1.1 u45.2.1.2.1 u45.2.1.2.2.1).bind fun u46=>
    some (((u46.1.1.1,u46.1.1.2.1,u46.1.1.2.2.1,u46.1.1.2.2.2.1,u46.1.1.2.2.2.2.1,()),()),((u46.2.1.1,u46.2.1.2.1,u46.2.1.2.2.1,()),())))
   ((EW (p1.1,p1.2.1,p1.2.2.1,p1.2.2.2.1,p1.2.2.2.2.1,p1.2.2.2.2.2.1,p1.2.2.2.2.2.2.1,p1.2.2.2.2.2.2.2.1,p1.2.2.2.2.2.2.2.2.1,p1.2.2.2.2.2.2.2.2.2.1,p1.2.2.2.2.2.2.2.2.2.2.1,()) u45.2.1.1 u45.2.1.2.1 u45.2.1.2.2.1).bind fun bC=>
   some (((bC.1.1.1,bC.1.1.2.1,bC.1.1.2.2.1,bC.1.1.2.2.2.1,bC.1.1.2.2.2.2.1,()),()),((bC.2.1.1,bC.2.1.2.1,bC.2.1.2.2.1,()),()))))
  ((EW (p1.1,p1.2.1,p1.2.2.1,p1.2.2.2.1,p1.2.2.2.2.1,p1.2.2.2.2.2.1,p1.2.2.2.2.2.2.1,p1.2.2.2.2.2.2.2.1,p1.2.2.2.2.2.2.2.2.1,p1.2.2.2.2.2.2.2.2.2.1,p1.2.2.2.2.2.2.2.2.2.2.1,()) u9.2.1.1 u9.2.1.2.1 u9.2.1.2.2.1).bind fun u48=>
  some (((u48.1.1.1,u48.1.1.2.1,u48.1.1.2.2.1,u48.1.1.2.2.2.1,u48.1.1.2.2.2.2.1,()),()),((u48.2.1.1,u48.2.1.2.1,u48.2.1.2.2.1,()),()))))
 ((EW (p1.1,p1.2.1,p1.2.2.1,p1.2.2.2.1,p1.2.2.2.2.1,p1.2.2.2.2.2.1,p1.2.2.2.2.2.2.1,p1.2.2.2.2.2.2.2.1,p1.2.2.2.2.2.2.2.2.1,p1.2.2.2.2.2.2.2.2.2.1,p1.2.2.2.2.2.2.2.2.2.2.1,()) u9.2.1.1 u9.2.1.2.1 u9.2.1.2.2.1).bind fun u49=>
 some (((u49.1.1.1,u49.1.1.2.1,u49.1.1.2.2.1,u49.1.1.2.2.2.1,u49.1.1.2.2.2.2.1,()),()),((u49.2.1.1,u49.2.1.2.1,u49.2.1.2.2.1,()),()))))))))))))))
abbrev dQ:Type:=AA4×Unit
def E8(p0:Int):Option dQ:=
 cond (decide (p0>0))
  ((BT (AX (p0.tdiv 4294967296)) 1 30).bind fun u2=>
  cond (u2.1.1)
   ((BT (p0.tmod 4294967296) 1 60).bind fun u3=>
   some ((u3.1.1,()),()))
  (some ((false,()),())))
 (some ((false,()),()))
abbrev FU:Type:=ABD×Unit
def Bu(p0:Int):Option FU:=
 (E8 p0).bind fun u1=>
 cond (!u1.1.1)
  (some ((0,()),()))
 (some (((AX (p0.tdiv 4294967296)),()),()))
abbrev cZ:Type:=AA4×Unit
def Ix(p0:ACF):Option cZ:=
 (E8 p0.1).bind fun u1=>
 cond (!u1.1.1)
  (some ((false,()),()))
 ((BT p0.2.1 0 30).bind fun u2=>
 cond (!u2.1.1)
  (some ((false,()),()))
 (cond (decide (p0.2.1>0))
  ((Bu p0.1).bind fun u3=>
  cond ((decide (p0.2.1≤u3.1.1)))
   (some ((false,()),()))
  (cond (decide ((p0.2.2.2.1.length:Int)>40))
   (some ((false,()),()))
  (cond (!p0.2.2.1)
   (some ((true,()),()))
  (cond (decide (p0.2.1>0))
   (some ((p0.2.2.2.1==[],()),()))
  (some ((false,()),()))))))
 (cond (decide ((p0.2.2.2.1.length:Int)>40))
  (some ((false,()),()))
 (cond (!p0.2.2.1)
  (some ((true,()),()))
 (cond (decide (p0.2.1>0))
  (some ((p0.2.2.2.1==[],()),()))
 (some ((false,()),())))))))
abbrev OZ:Type:=AA4×Unit
abbrev RN:Type:=AAh→Int→Option OZ
def Nf(R4:RN)(t0:AAh)(t5:Int):Option OZ:=
 cond ((decide (t5<(t0.length:Int))))
  (if(0:Int)≤t5∧t5<(t0.length:Int)then(
  (Ix ((t0.getD (t5.toNat) (0,0,false,[],())).1,(t0.getD (t5.toNat) (0,0,false,[],())).2.1,(t0.getD (t5.toNat) (0,0,false,[],())).2.2.1,(t0.getD (t5.toNat) (0,0,false,[],())).2.2.2.1,())).bind fun u3=>
  cond (!u3.1.1)
   (some ((false,()),()))
  (R4 t0 (AX (t5+1))))else none)
 (some ((true,()),()))
def IM:Nat→RN
 |0=>fun _ _=>none
 |n+1=>Nf (IM n)
def Sg(R4:RN)(p0:AAh)(p1:Int):Option OZ:=
 cond ((decide ((p0.length:Int)>p1)))
  (some ((false,()),()))
 (R4 p0 0)
def PK(p0:AAh)(p1:Int):Option OZ:=Sg (IM Aa) p0 p1
abbrev Qi:Type:=AA4×Unit
abbrev TB:Type:=AAh→Int→Option Qi
def Kx(R2:TB)(t0:AAh)(t3:Int):Option Qi:=
 cond ((decide (t3<(t0.length:Int))))
  (if(0:Int)≤AX (t3-1)∧AX (t3-1)<(t0.length:Int)then(
  if(0:Int)≤t3∧t3<(t0.length:Int)then(
  cond (decide (((t0.getD ((AX (t3-1)).toNat) (0,0,false,[],())).1)≥((t0.getD (t3.toNat) (0,0,false,[],())).1)))
   (some ((false,()),()))
  (R2 t0 (AX (t3+1))))else none)else none)
 (some ((true,()),()))
def EI:Nat→TB
 |0=>fun _ _=>none
 |n+1=>Kx (EI n)
def Tq(R2:TB)(p0:AAh):Option Qi:=
 R2 p0 1
def Rr(p0:AAh):Option Qi:=Tq (EI Aa) p0
abbrev eX:Type:=AA4×Unit
def EO(p0:ABG):Option eX:=
 (PK p0.1 200).bind fun u1=>
 cond (u1.1.1)
  ((PK p0.2.1 20).bind fun u2=>
  cond (u2.1.1)
   ((Rr p0.1).bind fun u3=>
   cond (u3.1.1)
    ((BT p0.2.2.1 0 30).bind fun u4=>
    some ((u4.1.1,()),()))
   (some ((false,()),())))
  (some ((false,()),())))
 (some ((false,()),()))
abbrev eH:Type:=AA4×Unit
def U7(p0:ABG):Option eH:=
 cond (((p0.1.length:Int)==0))
  (cond ((p0.2.1.length:Int)==0)
   (some ((p0.2.2.1==0,()),()))
  (some ((false,()),())))
 (some ((false,()),()))
abbrev LZ:Type:=AA4×Unit
abbrev OI:Type:=Int→List Int→Int→AAj→List Int→AAi→Int→AAn→AAt→AAv→AAm→Bool→Option LZ
def K7(R4:OI)(t3:Int)(AH:AAg)(AJ:Int)(AR:AAj)(DD:AAg)(EN:AAi)(Cz:Int)(C3:AAn)(Cq:AAt)(Ea:AAv)(Db:AAm)(CS:Bool):Option LZ:=
 cond ((decide (t3<(AR.length:Int))))
  (if(0:Int)≤t3∧t3<(AR.length:Int)then(
  (EO ((AR.getD (t3.toNat) ([],[],0,())).1,(AR.getD (t3.toNat) ([],[],0,())).2.1,(AR.getD (t3.toNat) ([],[],0,())).2.2.1,())).bind fun u8=>
  cond (!u8.1.1)
   (some ((false,()),()))
  ((B4 DD t3).bind fun u9=>
  cond (u9.1.1)
   (if(0:Int)≤t3∧t3<(AR.length:Int)then(
   (U7 ((AR.getD (t3.toNat) ([],[],0,())).1,(AR.getD (t3.toNat) ([],[],0,())).2.1,(AR.getD (t3.toNat) ([],[],0,())).2.2.1,())).bind fun HK=>
   cond (!HK.1.1)
    (some ((false,()),()))
   (R4 (AX (t3+1)) AH AJ AR DD EN Cz C3 Cq Ea Db CS))else none)
  (R4 (AX (t3+1)) AH AJ AR DD EN Cz C3 Cq Ea Db CS)))else none)
 (some ((true,()),()))
def GX:Nat→OI
 |0=>fun _ _ _ _ _ _ _ _ _ _ _ _=>none
 |n+1=>K7 (GX n)
def Pz(R4:OI)(p0:AA7):Option LZ:=
 (EJ (p0.1,p0.2.1,())).bind fun u1=>
 cond (!u1.1.1)
  (some ((false,()),()))
 (cond (((p0.2.2.1.length:Int) !=(p0.1.length:Int)))
  (some ((false,()),()))
 ((ES (p0.1,p0.2.1,()) p0.2.2.2.1).bind fun u4=>
 cond (!u4.1.1)
  (some ((false,()),()))
 ((C7 (p0.1,p0.2.1,()) p0.2.2.2.1).bind fun u5=>
 cond (u5.1.1)
  (cond (!p0.2.2.2.2.2.2.2.2.2.2.1)
   (some ((false,()),()))
  (R4 0 p0.1 p0.2.1 p0.2.2.1 p0.2.2.2.1 p0.2.2.2.2.1 p0.2.2.2.2.2.1 p0.2.2.2.2.2.2.1 p0.2.2.2.2.2.2.2.1 p0.2.2.2.2.2.2.2.2.1 p0.2.2.2.2.2.2.2.2.2.1 p0.2.2.2.2.2.2.2.2.2.2.1))
 (R4 0 p0.1 p0.2.1 p0.2.2.1 p0.2.2.2.1 p0.2.2.2.2.1 p0.2.2.2.2.2.1 p0.2.2.2.2.2.2.1 p0.2.2.2.2.2.2.2.1 p0.2.2.2.2.2.2.2.2.1 p0.2.2.2.2.2.2.2.2.2.1 p0.2.2.2.2.2.2.2.2.2.2.1))))
def Oi(p0:AA7):Option LZ:=Pz (GX Aa) p0
abbrev M5:Type:=AA4×Unit
abbrev TY:Type:=Int→Int→List Int→Int→AAi→Int→Option M5
def OV(R5:TY)(t5 t6:Int)(AH:AAg)(AJ:Int)(A7:AAi)(Aq:Int):Option M5:=
 cond (decide (t6<t5))
  (if(0:Int)≤t6∧t6<(A7.length:Int)then(
  (C7 (AH,AJ,()) ((A7.getD (t6.toNat) ([],false,0,())).1)).bind fun u6=>
  cond (!u6.1.1)
   (some ((false,()),()))
  ((BT ((A7.getD (t6.toNat) ([],false,0,())).2.2.1) 0 60).bind fun u8=>
  cond (!u8.1.1)
   (some ((false,()),()))
  (cond (!((A7.getD (t6.toNat) ([],false,0,())).2.1))
   (cond (((A7.getD (t6.toNat) ([],false,0,())).2.2.1) !=0)
    (some ((false,()),()))
   (cond (((A7.getD (t6.toNat) ([],false,0,())).2.1))
    (cond (t6==(AX (t5-1)))
     (some ((false,()),()))
    (cond (decide (t6>0))
     (if(0:Int)≤AX (t6-1)∧AX (t6-1)<(A7.length:Int)then(
     cond (!((A7.getD ((AX (t6-1)).toNat) ([],false,0,())).2.1))
      (some ((false,()),()))
     (R5 t5 (AX (t6+1)) AH AJ A7 Aq))else none)
    (R5 t5 (AX (t6+1)) AH AJ A7 Aq)))
   (R5 t5 (AX (t6+1)) AH AJ A7 Aq)))
  (cond (((A7.getD (t6.toNat) ([],false,0,())).2.1))
   (cond (t6==(AX (t5-1)))
    (some ((false,()),()))
   (cond (decide (t6>0))
    (if(0:Int)≤AX (t6-1)∧AX (t6-1)<(A7.length:Int)then(
    cond (!((A7.getD ((AX (t6-1)).toNat) ([],false,0,())).2.1))
     (some ((false,()),()))
    (R5 t5 (AX (t6+1)) AH AJ A7 Aq))else none)
   (R5 t5 (AX (t6+1)) AH AJ A7 Aq)))
  (R5 t5 (AX (t6+1)) AH AJ A7 Aq)))))else none)
 (some ((true,()),()))
def Hn:Nat→TY
 |0=>fun _ _ _ _ _ _=>none
 |n+1=>OV (Hn n)
def Tw(R5:TY)(p0:AAw)(p1:ABB):Option M5:=
 (EJ (p0.1,p0.2.1,())).bind fun u1=>
 cond (!u1.1.1)
  (some ((false,()),()))
 (cond ((decide ((p1.1.length:Int)>30)))
  (some ((false,()),()))
 (cond (p1.2.1 !=0)
  ((E8 p1.2.1).bind fun u3=>
  cond (!u3.1.1)
   (some ((false,()),()))
  ((Bu p1.2.1).bind fun u4=>
  cond ((decide (u4.1.1>(p1.1.length:Int))))
   (some ((false,()),()))
  (R5 (p1.1.length:Int) 0 p0.1 p0.2.1 p1.1 p1.2.1)))
 (R5 (p1.1.length:Int) 0 p0.1 p0.2.1 p1.1 p1.2.1)))
def I9(p0:AAw)(p1:ABB):Option M5:=Tw (Hn Aa) p0 p1
abbrev JJ:Type:=AA4×Unit
abbrev OQ:Type:=Int→Int→List Int→Int→Int→AA9→Option JJ
def Pq(R5:OQ)(t5 t6:Int)(AH:AAg)(AJ A7:Int)(Aq:AA9):Option JJ:=
 cond ((decide (t6<(Aq.length:Int))))
  (if(0:Int)≤t6∧t6<(Aq.length:Int)then(
  cond ((decide ((((Aq.getD (t6.toNat) ([],[],false,())).1).length:Int)>40)))
   (some ((false,()),()))
  ((ES (AH,AJ,()) ((Aq.getD (t6.toNat) ([],[],false,())).2.1)).bind fun u7=>
  cond (!u7.1.1)
   (some ((false,()),()))
  ((C7 (AH,AJ,()) ((Aq.getD (t6.toNat) ([],[],false,())).2.1)).bind fun u9=>
  cond (u9.1.1 !=((Aq.getD (t6.toNat) ([],[],false,())).2.2.1))
   (some ((false,()),()))
  (cond (!((Aq.getD (t6.toNat) ([],[],false,())).2.2.1))
   (R5 (AX (t5+1)) (AX (t6+1)) AH AJ A7 Aq)
  (R5 t5 (AX (t6+1)) AH AJ A7 Aq)))))else none)
 (some ((decide (t5≤6),()),()))
def IF:Nat→OQ
 |0=>fun _ _ _ _ _ _=>none
 |n+1=>Pq (IF n)
def P7(R5:OQ)(p0:AAw)(p1:ABE):Option JJ:=
 (EJ (p0.1,p0.2.1,())).bind fun u1=>
 cond (!u1.1.1)
  (some ((false,()),()))
 ((BT p1.1 1 30).bind fun u2=>
 cond (!u2.1.1)
  (some ((false,()),()))
 (cond (decide ((p1.2.1.length:Int)>60))
  (some ((false,()),()))
 (R5 0 0 p0.1 p0.2.1 p1.1 p1.2.1)))
def E_(p0:AAw)(p1:ABE):Option JJ:=P7 (IF Aa) p0 p1
abbrev Ha:Type:=ABD×Unit
def Ez(p0:Int):Option Ha:=
 (E8 p0).bind fun u1=>
 cond (!u1.1.1)
  (some ((0,()),()))
 (some ((p0.tmod 4294967296,()),()))
abbrev gM:Type:=ABD×Unit
def MI(p0:AA2):Option gM:=
 cond ((p0.2.2.2.1.length:Int)==0)
  (some ((0,()),()))
 (let x2:Int:=(p0.2.2.2.1.length:Int)
 if(0:Int)≤AX (x2-1)∧AX (x2-1)<(p0.2.2.2.1.length:Int)then(
 (Ez ((p0.2.2.2.1.getD ((AX (x2-1)).toNat) (0,0,false,[],())).1)).bind fun u4=>
 some ((u4.1.1,()),()))else none)
abbrev JM:Type:=AA4×Unit
abbrev M8:Type:=Int→List Int→Int→Int→Int→List Int→AAh→Bool→List AAg→Option JM
abbrev M9:Type:=Int→List Int→Int→Int→Int→List Int→AAh→Bool→List AAg→Option JM
def NO(R4:M8)(R9:M9)(t5:Int)(AH:AAg)(AJ A7 Aq:Int)(Dn:AAg)(JF:AAh)(Nn:Bool)(Du:List AAg):Option JM:=
 cond ((decide (t5<(JF.length:Int))))
  (if(0:Int)≤t5∧t5<(JF.length:Int)then(
  (Ix ((JF.getD (t5.toNat) (0,0,false,[],())).1,(JF.getD (t5.toNat) (0,0,false,[],())).2.1,(JF.getD (t5.toNat) (0,0,false,[],())).2.2.1,(JF.getD (t5.toNat) (0,0,false,[],())).2.2.2.1,())).bind fun u7=>
  cond (!u7.1.1)
   (some ((false,()),()))
  (if(0:Int)≤t5∧t5<(JF.length:Int)then(
  (Bu ((JF.getD (t5.toNat) (0,0,false,[],())).1)).bind fun u9=>
  cond (u9.1.1 !=Aq)
   (some ((false,()),()))
  (if(0:Int)≤t5∧t5<(JF.length:Int)then(
  cond (decide (((JF.getD (t5.toNat) (0,0,false,[],())).2.1)≥A7))
   (some ((false,()),()))
  (R4 (AX (t5+1)) AH AJ A7 Aq Dn JF Nn Du))else none))else none))else none)
 (R9 0 AH AJ A7 Aq Dn JF Nn Du)
def Mf(R4:M8)(R9:M9)(t6:Int)(AH:AAg)(AJ A7 Aq:Int)(Dn:AAg)(JF:AAh)(Nn:Bool)(Du:List AAg):Option JM:=
 cond ((decide (t6<(Du.length:Int))))
  (if(0:Int)≤t6∧t6<(Du.length:Int)then(
  (ES (AH,AJ,()) (Du.getD (t6.toNat) [])).bind fun Cj=>
  cond (!Cj.1.1)
   (some ((false,()),()))
  (R9 (AX (t6+1)) AH AJ A7 Aq Dn JF Nn Du))else none)
 (cond (!Nn)
  (some ((((Du.length:Int)==0),()),()))
 ((MI (A7,Aq,Dn,JF,Nn,Du,())).bind fun Jw=>
 some ((((Du.length:Int)==Jw.1.1),()),())))
mutual
def Gp:Nat→M8
 |0=>fun _ _ _ _ _ _ _ _ _=>none
 |n+1=>NO (Gp n) (FN n)
def FN:Nat→M9
 |0=>fun _ _ _ _ _ _ _ _ _=>none
 |n+1=>Mf (Gp n) (FN n)
end
def Ss(R4:M8)(R9:M9)(p0:AAw)(p1:AA2):Option JM:=
 (EJ (p0.1,p0.2.1,())).bind fun u1=>
 cond (!u1.1.1)
  (some ((false,()),()))
 ((BT p1.2.1 1 30).bind fun u2=>
 cond (!u2.1.1)
  (some ((false,()),()))
 ((BT p1.1 (AX (p1.2.1+1)) 30).bind fun u3=>
 cond (!u3.1.1)
  (some ((false,()),()))
 ((ES (p0.1,p0.2.1,()) p1.2.2.1).bind fun u4=>
 cond (!u4.1.1)
  (some ((false,()),()))
 ((Rr p1.2.2.2.1).bind fun u5=>
 cond (!u5.1.1)
  (some ((false,()),()))
 (R4 0 p0.1 p0.2.1 p1.1 p1.2.1 p1.2.2.1 p1.2.2.2.1 p1.2.2.2.2.1 p1.2.2.2.2.2.1)))))
def GL(p0:AAw)(p1:AA2):Option JM:=Ss (Gp Aa) (FN Aa) p0 p1
abbrev GR:Type:=AA4×Unit
abbrev Jf:Type:=Int→Int→List Int→Int→AAj→List Int→AAi→Int→AAn→AAt→AAv→AAm→Bool→Option GR
abbrev I1:Type:=Int→Int→List Int→Int→AAj→List Int→AAi→Int→AAn→AAt→AAv→AAm→Bool→Option GR
def J5(R5:Jf)(R10:I1)(t3 t4:Int)(AH:AAg)(AJ:Int)(AR:AAj)(DD:AAg)(EN:AAi)(Cz:Int)(C3:AAn)(Cq:AAt)(Ea:AAv)(Db:AAm)(CS:Bool):Option GR:=
 cond ((decide (t4<(C3.length:Int))))
  (if(0:Int)≤t4∧t4<(C3.length:Int)then(
  (E_ (AH,AJ,()) ((C3.getD (t4.toNat) (0,[],())).1,(C3.getD (t4.toNat) (0,[],())).2.1,())).bind fun u6=>
  cond (!u6.1.1)
   (some ((false,()),()))
  (if(0:Int)≤t4∧t4<(C3.length:Int)then(
  cond (decide (((C3.getD (t4.toNat) (0,[],())).1)>t3))
   (some ((false,()),()))
  (cond (decide (t4>0))
   (if(0:Int)≤AX (t4-1)∧AX (t4-1)<(C3.length:Int)then(
   if(0:Int)≤t4∧t4<(C3.length:Int)then(
   cond (decide (((C3.getD ((AX (t4-1)).toNat) (0,[],())).1)≥((C3.getD (t4.toNat) (0,[],())).1)))
    (some ((false,()),()))
   (R5 t3 (AX (t4+1)) AH AJ AR DD EN Cz C3 Cq Ea Db CS))else none)else none)
  (R5 t3 (AX (t4+1)) AH AJ AR DD EN Cz C3 Cq Ea Db CS)))else none))else none)
 (R10 t3 0 AH AJ AR DD EN Cz C3 Cq Ea Db CS)
def JW(R5:Jf)(R10:I1)(t3 t5:Int)(AH:AAg)(AJ:Int)(AR:AAj)(DD:AAg)(EN:AAi)(Cz:Int)(C3:AAn)(Cq:AAt)(Ea:AAv)(Db:AAm)(CS:Bool):Option GR:=
 cond ((decide (t5<(Cq.length:Int))))
  (if(0:Int)≤t5∧t5<(Cq.length:Int)then(
  (GL (AH,AJ,()) ((Cq.getD (t5.toNat) (0,0,[],[],false,[],())).1,(Cq.getD (t5.toNat) (0,0,[],[],false,[],())).2.1,(Cq.getD (t5.toNat) (0,0,[],[],false,[],())).2.2.1,(Cq.getD (t5.toNat) (0,0,[],[],false,[],())).2.2.2.1,(Cq.getD (t5.toNat) (0,0,[],[],false,[],())).2.2.2.2.1,(Cq.getD (t5.toNat) (0,0,[],[],false,[],())).2.2.2.2.2.1,())).bind fun Qp=>
  cond (!Qp.1.1)
   (some ((false,()),()))
  (cond (((Cq.getD (t5.toNat) (0,0,[],[],false,[],())).1) !=t3)
   (some ((false,()),()))
  ((Gn (EN,Cz,())).bind fun Jw=>
  cond (((Cq.getD (t5.toNat) (0,0,[],[],false,[],())).2.1) !=Jw.1.1)
   (some ((false,()),()))
  (R10 t3 (AX (t5+1)) AH AJ AR DD EN Cz C3 Cq Ea Db CS))))else none)
 (some ((true,()),()))
mutual
def EU:Nat→Jf
 |0=>fun _ _ _ _ _ _ _ _ _ _ _ _ _=>none
 |n+1=>J5 (EU n) (C_ n)
def C_:Nat→I1
 |0=>fun _ _ _ _ _ _ _ _ _ _ _ _ _=>none
 |n+1=>JW (EU n) (C_ n)
end
def O_(R5:Jf)(R10:I1)(p0:AA7):Option GR:=
 (I9 (p0.1,p0.2.1,()) (p0.2.2.2.2.1,p0.2.2.2.2.2.1,())).bind fun u2=>
 cond (!u2.1.1)
  (some ((false,()),()))
 (cond (decide ((p0.2.2.2.2.2.2.1.length:Int)>4))
  (some ((false,()),()))
 (cond (decide ((p0.2.2.2.2.2.2.2.1.length:Int)>1))
  (some ((false,()),()))
 (R5 (p0.2.2.2.2.1.length:Int) 0 p0.1 p0.2.1 p0.2.2.1 p0.2.2.2.1 p0.2.2.2.2.1 p0.2.2.2.2.2.1 p0.2.2.2.2.2.2.1 p0.2.2.2.2.2.2.2.1 p0.2.2.2.2.2.2.2.2.1 p0.2.2.2.2.2.2.2.2.2.1 p0.2.2.2.2.2.2.2.2.2.2.1)))
def NP(p0:AA7):Option GR:=O_ (EU Aa) (C_ Aa) p0
abbrev bL:Type:=AA4×Unit
def JO(p0:ABk):Option bL:=
 (BT p0.1 1 31).bind fun u1=>
 cond (u1.1.1)
  ((BT p0.2.1 1 61).bind fun u2=>
  cond (u2.1.1)
   (some ((decide ((p0.2.2.1.length:Int)≤120),()),()))
  (some ((false,()),())))
 (some ((false,()),()))
abbrev Na:Type:=AA4×Unit
abbrev PU:Type:=Int→List Int→Int→AAj→List Int→AAi→Int→AAn→AAt→AAv→AAm→Bool→Option Na
def Lu(R4:PU)(t3:Int)(AH:AAg)(AJ:Int)(AR:AAj)(DD:AAg)(EN:AAi)(Cz:Int)(C3:AAn)(Cq:AAt)(Ea:AAv)(Db:AAm)(CS:Bool):Option Na:=
 cond ((decide (t3<(Db.length:Int))))
  (if(0:Int)≤t3∧t3<(Db.length:Int)then(
  (E8 ((Db.getD (t3.toNat) (0,[],false,())).1)).bind fun u4=>
  cond (!u4.1.1)
   (some ((false,()),()))
  ((Bu ((Db.getD (t3.toNat) (0,[],false,())).1)).bind fun u6=>
  cond ((decide (u6.1.1>(EN.length:Int))))
   (some ((false,()),()))
  (cond ((decide ((((Db.getD (t3.toNat) (0,[],false,())).2.1).length:Int)>40)))
   (some ((false,()),()))
  (cond (decide (t3>0))
   (if(0:Int)≤AX (t3-1)∧AX (t3-1)<(Db.length:Int)then(
   cond (decide (((Db.getD ((AX (t3-1)).toNat) (0,[],false,())).1)≥((Db.getD (t3.toNat) (0,[],false,())).1)))
    (some ((false,()),()))
   (R4 (AX (t3+1)) AH AJ AR DD EN Cz C3 Cq Ea Db CS))else none)
  (R4 (AX (t3+1)) AH AJ AR DD EN Cz C3 Cq Ea Db CS)))))else none)
 (some ((true,()),()))
def G9:Nat→PU
 |0=>fun _ _ _ _ _ _ _ _ _ _ _ _=>none
 |n+1=>Lu (G9 n)
def Q3(R4:PU)(p0:AA7):Option Na:=
 cond (decide ((p0.2.2.2.2.2.2.2.2.2.1.length:Int)>120))
  (some ((false,()),()))
 (R4 0 p0.1 p0.2.1 p0.2.2.1 p0.2.2.2.1 p0.2.2.2.2.1 p0.2.2.2.2.2.1 p0.2.2.2.2.2.2.1 p0.2.2.2.2.2.2.2.1 p0.2.2.2.2.2.2.2.2.1 p0.2.2.2.2.2.2.2.2.2.1 p0.2.2.2.2.2.2.2.2.2.2.1)
def Qm(p0:AA7):Option Na:=Q3 (G9 Aa) p0
abbrev da:Type:=AA4×Unit
def Kr(p0:AA7):Option da:=
 (Oi (p0.1,p0.2.1,p0.2.2.1,p0.2.2.2.1,p0.2.2.2.2.1,p0.2.2.2.2.2.1,p0.2.2.2.2.2.2.1,p0.2.2.2.2.2.2.2.1,p0.2.2.2.2.2.2.2.2.1,p0.2.2.2.2.2.2.2.2.2.1,p0.2.2.2.2.2.2.2.2.2.2.1,())).bind fun u1=>
 cond (u1.1.1)
  ((NP (p0.1,p0.2.1,p0.2.2.1,p0.2.2.2.1,p0.2.2.2.2.1,p0.2.2.2.2.2.1,p0.2.2.2.2.2.2.1,p0.2.2.2.2.2.2.2.1,p0.2.2.2.2.2.2.2.2.1,p0.2.2.2.2.2.2.2.2.2.1,p0.2.2.2.2.2.2.2.2.2.2.1,())).bind fun u2=>
  cond (u2.1.1)
   (cond ((p0.2.2.2.2.2.2.2.2.1.length:Int)==2)
    (if(0:Int)≤(0:Int)∧(0:Int)<(p0.2.2.2.2.2.2.2.2.1.length:Int)then(
    (JO ((p0.2.2.2.2.2.2.2.2.1.getD 0 (0,0,[],())).1,(p0.2.2.2.2.2.2.2.2.1.getD 0 (0,0,[],())).2.1,(p0.2.2.2.2.2.2.2.2.1.getD 0 (0,0,[],())).2.2.1,())).bind fun u4=>
    cond (u4.1.1)
     (if(0:Int)≤(1:Int)∧(1:Int)<(p0.2.2.2.2.2.2.2.2.1.length:Int)then(
     (JO ((p0.2.2.2.2.2.2.2.2.1.getD 1 (0,0,[],())).1,(p0.2.2.2.2.2.2.2.2.1.getD 1 (0,0,[],())).2.1,(p0.2.2.2.2.2.2.2.2.1.getD 1 (0,0,[],())).2.2.1,())).bind fun u5=>
     cond (u5.1.1)
      ((Qm (p0.1,p0.2.1,p0.2.2.1,p0.2.2.2.1,p0.2.2.2.2.1,p0.2.2.2.2.2.1,p0.2.2.2.2.2.2.1,p0.2.2.2.2.2.2.2.1,p0.2.2.2.2.2.2.2.2.1,p0.2.2.2.2.2.2.2.2.2.1,p0.2.2.2.2.2.2.2.2.2.2.1,())).bind fun u6=>
      some ((u6.1.1,()),()))
     (some ((false,()),())))else none)
    (some ((false,()),())))else none)
   (some ((false,()),())))
  (some ((false,()),())))
 (some ((false,()),()))
abbrev bh:Type:=AFC×Unit
def S3(p0:ABI):Option bh:=
 cond (p0.1==1)
  (some (((p0.1,p0.2.1,0,0,[],()),()),()))
 (cond (p0.1==4)
  (some (((p0.1,p0.2.1,0,0,[],()),()),()))
 (cond (p0.1==6)
  (some (((p0.1,p0.2.1,0,0,[],()),()),()))
 (cond (p0.1==7)
  (some (((p0.1,p0.2.1,0,0,[],()),()),()))
 (cond (p0.1==9)
  (some (((p0.1,p0.2.1,0,0,[],()),()),()))
 (cond (p0.1==13)
  (some (((p0.1,p0.2.1,0,0,[],()),()),()))
 (cond (p0.1==15)
  (some (((p0.1,p0.2.1,0,0,[],()),()),()))
 (cond (p0.1==16)
  (some (((p0.1,p0.2.1,0,0,[],()),()),()))
 (cond (p0.1==2)
  (some (((p0.1,p0.2.1,0,0,p0.2.2.2.2.1,()),()),()))
 (cond (p0.1==3)
  (some (((p0.1,p0.2.1,p0.2.2.1,p0.2.2.2.1,[],()),()),()))
 (cond (p0.1==5)
  (some (((p0.1,p0.2.1,p0.2.2.1,0,[],()),()),()))
 (cond (p0.1==14)
  (some (((p0.1,p0.2.1,p0.2.2.1,0,[],()),()),()))
 (cond (p0.1==11)
  (some (((p0.1,0,p0.2.2.1,p0.2.2.2.1,[],()),()),()))
 (some (((p0.1,0,0,0,[],()),()),()))))))))))))))
abbrev fX:Type:=AA4×Unit
def R_(p0:ABI):Option fX:=
 (BT p0.1 1 16).bind fun u1=>
 cond (u1.1.1)
  ((S3 (p0.1,p0.2.1,p0.2.2.1,p0.2.2.2.1,p0.2.2.2.2.1,())).bind fun u2=>
  cond (((p0.1==u2.1.1.1)&&((p0.2.1==u2.1.1.2.1)&&((p0.2.2.1==u2.1.1.2.2.1)&&((p0.2.2.2.1==u2.1.1.2.2.2.1)&&((p0.2.2.2.2.1==u2.1.1.2.2.2.2.1)&&true))))))
   (some ((decide ((p0.2.2.2.2.1.length:Int)≤40),()),()))
  (some ((false,()),())))
 (some ((false,()),()))
abbrev Dc:Type:=ACj×AFF
abbrev Ra:Type:=Int→AAi→Int→Int→AAi→Int→AAi→Option Dc
def Si(R3:Ra)(t4:Int)(AH:AAi)(AJ Aq:Int)(b2:AAi)(WK:Int)(b4:AAi):Option Dc:=
 cond ((decide (t4<(AH.length:Int))))
  (if(0:Int)≤t4∧t4<(AH.length:Int)then(
  if 0+((AH.getD (t4.toNat) ([],false,0,())).1).length≤DH then(
  if b4.length+1≤DH then(
  R3 (AX (t4+1)) AH AJ Aq b2 WK (b4++[(((AH.getD (t4.toNat) ([],false,0,())).1),(AH.getD (t4.toNat) ([],false,0,())).2.1,(AH.getD (t4.toNat) ([],false,0,())).2.2.1,())]))else none)else none)else none)
 (some ((((),WK,()),()),(b4,())))
def KG:Nat→Ra
 |0=>fun _ _ _ _ _ _ _=>none
 |n+1=>Si (KG n)
def SX(R3:Ra)(p0:ABB):Option Dc:=
 R3 0 p0.1 p0.2.1 0 [] p0.2.1 []
def Dx(p0:ABB):Option Dc:=SX (KG Aa) p0
abbrev Hm:Type:=ADt×AC2
def DF(p0:ABG):Option Hm:=
 if 0+p0.1.length≤DH then(
 if 0+p0.2.1.length≤DH then(
 some ((((),(),p0.2.2.1,()),()),(p0.1,p0.2.1,())))else none)else none
abbrev Da:Type:=AFR×AFg
abbrev RV:Type:=Int→Int→AA9→Int→AA9→Int→AA9→Option Da
def M4(R3:RV)(t4 AH:Int)(AJ:AA9)(A7:Int)(b2:AA9)(Xa:Int)(b4:AA9):Option Da:=
 cond ((decide (t4<(AJ.length:Int))))
  (if(0:Int)≤t4∧t4<(AJ.length:Int)then(
  if 0+((AJ.getD (t4.toNat) ([],[],false,())).2.1).length≤DH then(
  if b4.length+1≤DH then(
  R3 (AX (t4+1)) AH AJ A7 b2 Xa (b4++[((AJ.getD (t4.toNat) ([],[],false,())).1,((AJ.getD (t4.toNat) ([],[],false,())).2.1),(AJ.getD (t4.toNat) ([],[],false,())).2.2.1,())]))else none)else none)else none)
 (some (((Xa,(),()),()),(b4,())))
def Gy:Nat→RV
 |0=>fun _ _ _ _ _ _ _=>none
 |n+1=>M4 (Gy n)
def M_(R3:RV)(p0:ABE):Option Da:=
 R3 0 p0.1 p0.2.1 0 [] p0.1 []
def Cl(p0:ABE):Option Da:=M_ (Gy Aa) p0
abbrev EH:Type:=ADY×ADd
abbrev Rp:Type:=Int→Int→Int→List Int→AAh→Bool→List AAg→Int→Int→Bool→List Int→AAh→List AAg→Int→Int→Bool→List Int→AAh→List AAg→Option EH
def Me(R3:Rp)(t4 AH AJ:Int)(AR:AAg)(DD:AAh)(EN:Bool)(Cz:List AAg)(A7 Aq:Int)(Nn:Bool)(b2:AAg)(b3:AAh)(b4:List AAg)(qm qh:Int)(rE:Bool)(b6:AAg)(b7:AAh)(b8:List AAg):Option EH:=
 cond ((decide (t4<(Cz.length:Int))))
  (if(0:Int)≤t4∧t4<(Cz.length:Int)then(
  if 0+(Cz.getD (t4.toNat) []).length≤DH then(
  if b8.length+1≤DH then(
  R3 (AX (t4+1)) AH AJ AR DD EN Cz A7 Aq Nn b2 b3 b4 qm qh rE b6 b7 (b8++[(Cz.getD (t4.toNat) [])]))else none)else none)else none)
 (some (((qm,qh,(),(),rE,(),()),()),(b6,b7,b8,())))
def FO:Nat→Rp
 |0=>fun _ _ _ _ _ _ _ _ _ _ _ _ _ _ _ _ _ _ _=>none
 |n+1=>Me (FO n)
def Jm(R3:Rp)(p0:AA2):Option EH:=
 if 0+p0.2.2.1.length≤DH then(
 if 0+p0.2.2.2.1.length≤DH then(
 R3 0 p0.1 p0.2.1 p0.2.2.1 p0.2.2.2.1 p0.2.2.2.2.1 p0.2.2.2.2.2.1 0 0 false [] [] [] p0.1 p0.2.1 p0.2.2.2.2.1 p0.2.2.1 p0.2.2.2.1 [])else none)else none
def Ck(p0:AA2):Option EH:=Jm (FO Aa) p0
abbrev Gq:Type:=ADj×AEP
def BZ(p0:ABk):Option Gq:=
 if 0+p0.2.2.1.length≤DH then(
 some (((p0.1,p0.2.1,(),()),()),(p0.2.2.1,())))else none
abbrev Dh:Type:=AD1×ACL
abbrev G_:Type:=Int→List Int→Int→AAj→List Int→AAi→Int→AAn→AAt→AAv→AAm→Bool→Int→Int→Bool→List Int→AAj→List Int→AAi→AAn→AAt→AAv→AAm→Int→Int→Bool→List Int→AAj→List Int→AAi→AAn→AAt→AAv→AAm→Option Dh
abbrev HA:Type:=Int→List Int→Int→AAj→List Int→AAi→Int→AAn→AAt→AAv→AAm→Bool→Int→Int→Bool→List Int→AAj→List Int→AAi→AAn→AAt→AAv→AAm→Int→Int→Bool→List Int→AAj→List Int→AAi→AAn→AAt→AAv→AAm→Option Dh
abbrev GQ:Type:=Int→List Int→Int→AAj→List Int→AAi→Int→AAn→AAt→AAv→AAm→Bool→Int→Int→Bool→List Int→AAj→List Int→AAi→AAn→AAt→AAv→AAm→Int→Int→Bool→List Int→AAj→List Int→AAi→AAn→AAt→AAv→AAm→Option Dh
abbrev GY:Type:=Int→List Int→Int→AAj→List Int→AAi→Int→AAn→AAt→AAv→AAm→Bool→Int→Int→Bool→List Int→AAj→List Int→AAi→AAn→AAt→AAv→AAm→Int→Int→Bool→List Int→AAj→List Int→AAi→AAn→AAt→AAv→AAm→Option Dh
def Ly(R3:G_)(R7:HA)(ZA:GQ)(cJ:GY)(t4:Int)(AH:AAg)(AJ:Int)(AR:AAj)(DD:AAg)(EN:AAi)(Cz:Int)(C3:AAn)(Cq:AAt)(Ea:AAv)(Db:AAm)(CS:Bool)(Aq Du:Int)(FI:Bool)(b2:AAg)(b3:AAj)(b4:AAg)(b5:AAi)(b6:AAn)(b7:AAt)(b8:AAv)(b9:AAm)(De E6:Int)(Cy:Bool)(F9:AAg)(Df:AAj)(Fh:AAg)(Fb:AAi)(D_:AAn)(ET:AAt)(Eo:AAv)(Td:AAm):Option Dh:=
 cond ((decide (t4<(AR.length:Int))))
  (if(0:Int)≤t4∧t4<(AR.length:Int)then(
  (DF ((AR.getD (t4.toNat) ([],[],0,())).1,(AR.getD (t4.toNat) ([],[],0,())).2.1,(AR.getD (t4.toNat) ([],[],0,())).2.2.1,())).bind fun lU=>
  if Df.length+1≤DH then(
  R3 (AX (t4+1)) AH AJ AR DD EN Cz C3 Cq Ea Db CS Aq Du FI b2 b3 b4 b5 b6 b7 b8 b9 De E6 Cy F9 (Df++[(lU.2.1,lU.2.2.1,lU.1.1.2.2.1,())]) Fh Fb D_ ET Eo Td)else none)else none)
 (R7 0 AH AJ AR DD EN Cz C3 Cq Ea Db CS Aq Du FI b2 b3 b4 b5 b6 b7 b8 b9 De E6 Cy F9 Df Fh Fb D_ ET Eo Td)
def Lv(R3:G_)(R7:HA)(ZA:GQ)(cJ:GY)(t5:Int)(AH:AAg)(AJ:Int)(AR:AAj)(DD:AAg)(EN:AAi)(Cz:Int)(C3:AAn)(Cq:AAt)(Ea:AAv)(Db:AAm)(CS:Bool)(Aq Du:Int)(FI:Bool)(b2:AAg)(b3:AAj)(b4:AAg)(b5:AAi)(b6:AAn)(b7:AAt)(b8:AAv)(b9:AAm)(De E6:Int)(Cy:Bool)(F9:AAg)(Df:AAj)(Fh:AAg)(Fb:AAi)(D_:AAn)(ET:AAt)(Eo:AAv)(Td:AAm):Option Dh:=
 cond ((decide (t5<(C3.length:Int))))
  (if(0:Int)≤t5∧t5<(C3.length:Int)then(
  (Cl ((C3.getD (t5.toNat) (0,[],())).1,(C3.getD (t5.toNat) (0,[],())).2.1,())).bind fun rY=>
  if D_.length+1≤DH then(
  R7 (AX (t5+1)) AH AJ AR DD EN Cz C3 Cq Ea Db CS Aq Du FI b2 b3 b4 b5 b6 b7 b8 b9 De E6 Cy F9 Df Fh Fb (D_++[(rY.1.1.1,rY.2.1,())]) ET Eo Td)else none)else none)
 (ZA 0 AH AJ AR DD EN Cz C3 Cq Ea Db CS Aq Du FI b2 b3 b4 b5 b6 b7 b8 b9 De E6 Cy F9 Df Fh Fb D_ ET Eo Td)
def K5(R3:G_)(R7:HA)(ZA:GQ)(cJ:GY)(t6:Int)(AH:AAg)(AJ:Int)(AR:AAj)(DD:AAg)(EN:AAi)(Cz:Int)(C3:AAn)(Cq:AAt)(Ea:AAv)(Db:AAm)(CS:Bool)(Aq Du:Int)(FI:Bool)(b2:AAg)(b3:AAj)(b4:AAg)(b5:AAi)(b6:AAn)(b7:AAt)(b8:AAv)(b9:AAm)(De E6:Int)(Cy:Bool)(F9:AAg)(Df:AAj)(Fh:AAg)(Fb:AAi)(D_:AAn)(ET:AAt)(Eo:AAv)(Td:AAm):Option Dh:=
 cond ((decide (t6<(Cq.length:Int))))
  (if(0:Int)≤t6∧t6<(Cq.length:Int)then(
  (Ck ((Cq.getD (t6.toNat) (0,0,[],[],false,[],())).1,(Cq.getD (t6.toNat) (0,0,[],[],false,[],())).2.1,(Cq.getD (t6.toNat) (0,0,[],[],false,[],())).2.2.1,(Cq.getD (t6.toNat) (0,0,[],[],false,[],())).2.2.2.1,(Cq.getD (t6.toNat) (0,0,[],[],false,[],())).2.2.2.2.1,(Cq.getD (t6.toNat) (0,0,[],[],false,[],())).2.2.2.2.2.1,())).bind fun ZV=>
  if ET.length+1≤DH then(
  ZA (AX (t6+1)) AH AJ AR DD EN Cz C3 Cq Ea Db CS Aq Du FI b2 b3 b4 b5 b6 b7 b8 b9 De E6 Cy F9 Df Fh Fb D_ (ET++[(ZV.1.1.1,ZV.1.1.2.1,ZV.2.1,ZV.2.2.1,ZV.1.1.2.2.2.2.1,ZV.2.2.2.1,())]) Eo Td)else none)else none)
 (cJ 0 AH AJ AR DD EN Cz C3 Cq Ea Db CS Aq Du FI b2 b3 b4 b5 b6 b7 b8 b9 De E6 Cy F9 Df Fh Fb D_ ET Eo Td)
def K_(R3:G_)(R7:HA)(ZA:GQ)(cJ:GY)(t7:Int)(AH:AAg)(AJ:Int)(AR:AAj)(DD:AAg)(EN:AAi)(Cz:Int)(C3:AAn)(Cq:AAt)(Ea:AAv)(Db:AAm)(CS:Bool)(Aq Du:Int)(FI:Bool)(b2:AAg)(b3:AAj)(b4:AAg)(b5:AAi)(b6:AAn)(b7:AAt)(b8:AAv)(b9:AAm)(De E6:Int)(Cy:Bool)(F9:AAg)(Df:AAj)(Fh:AAg)(Fb:AAi)(D_:AAn)(ET:AAt)(Eo:AAv)(Td:AAm):Option Dh:=
 cond ((decide (t7<(Ea.length:Int))))
  (if(0:Int)≤t7∧t7<(Ea.length:Int)then(
  (BZ ((Ea.getD (t7.toNat) (0,0,[],())).1,(Ea.getD (t7.toNat) (0,0,[],())).2.1,(Ea.getD (t7.toNat) (0,0,[],())).2.2.1,())).bind fun l7=>
  if Eo.length+1≤DH then(
  cJ (AX (t7+1)) AH AJ AR DD EN Cz C3 Cq Ea Db CS Aq Du FI b2 b3 b4 b5 b6 b7 b8 b9 De E6 Cy F9 Df Fh Fb D_ ET (Eo++[(l7.1.1.1,l7.1.1.2.1,l7.2.1,())]) Td)else none)else none)
 (some ((((),De,(),(),(),E6,(),(),(),(),Cy,()),()),(F9,Df,Fh,Fb,D_,ET,Eo,Td,())))
mutual
def Bj:Nat→G_
 |0=>fun _ _ _ _ _ _ _ _ _ _ _ _ _ _ _ _ _ _ _ _ _ _ _ _ _ _ _ _ _ _ _ _ _ _=>none
 |n+1=>Ly (Bj n) (Bv n) (Be n) (Bf n)
def Bv:Nat→HA
 |0=>fun _ _ _ _ _ _ _ _ _ _ _ _ _ _ _ _ _ _ _ _ _ _ _ _ _ _ _ _ _ _ _ _ _ _=>none
 |n+1=>Lv (Bj n) (Bv n) (Be n) (Bf n)
def Be:Nat→GQ
 |0=>fun _ _ _ _ _ _ _ _ _ _ _ _ _ _ _ _ _ _ _ _ _ _ _ _ _ _ _ _ _ _ _ _ _ _=>none
 |n+1=>K5 (Bj n) (Bv n) (Be n) (Bf n)
def Bf:Nat→GY
 |0=>fun _ _ _ _ _ _ _ _ _ _ _ _ _ _ _ _ _ _ _ _ _ _ _ _ _ _ _ _ _ _ _ _ _ _=>none
 |n+1=>K_ (Bj n) (Bv n) (Be n) (Bf n)
end
def L4(R3:G_)(R7:HA)(ZA:GQ)(cJ:GY)(p0:AA7):Option Dh:=
 if 0+p0.1.length≤DH then(
 if 0+p0.2.2.2.1.length≤DH then(
 (Dx (p0.2.2.2.2.1,p0.2.2.2.2.2.1,())).bind fun u2=>
 if 0+p0.2.2.2.2.2.2.2.2.2.1.length≤DH then(
 R3 0 p0.1 p0.2.1 p0.2.2.1 p0.2.2.2.1 p0.2.2.2.2.1 p0.2.2.2.2.2.1 p0.2.2.2.2.2.2.1 p0.2.2.2.2.2.2.2.1 p0.2.2.2.2.2.2.2.2.1 p0.2.2.2.2.2.2.2.2.2.1 p0.2.2.2.2.2.2.2.2.2.2.1 0 0 false [] [] [] [] [] [] [] [] p0.2.1 u2.1.1.2.1 p0.2.2.2.2.2.2.2.2.2.2.1 p0.1 [] p0.2.2.2.1 u2.2.1 [] [] [] p0.2.2.2.2.2.2.2.2.2.1)else none)else none)else none
def Ko(p0:AA7):Option Dh:=L4 (Bj Aa) (Bv Aa) (Be Aa) (Bf Aa) p0
abbrev Kn:Type:=ABK×ABL
abbrev Mq:Type:=Int→Int→List Int→Option Kn
def KD(R3:Mq)(t0 t4:Int)(b0:AAg):Option Kn:=
 cond (decide (t4<8))
  ((BT t0 0 255).bind fun u1=>
  cond (u1.1.1)
   (if t4<0 then none else(
   cond (((W8 .i64 (t0.fdiv (2^(min t4.toNat 64))) 1)==1))
    (if b0.length+1≤DH then(
    R3 t0 (AX (t4+1)) (b0++[t4]))else none)
   (R3 t0 (AX (t4+1)) b0)))
  (some (((),()),(b0,()))))
 (some (((),()),(b0,())))
def Fi:Nat→Mq
 |0=>fun _ _ _=>none
 |n+1=>KD (Fi n)
def PA(R3:Mq)(p0:Int):Option Kn:=
 R3 p0 0 []
def KK(p0:Int):Option Kn:=PA (Fi Aa) p0
abbrev ez:Type:=((AFs×Int×Bool×Unit)×Unit)×AFF
def Ij(p0:AAw)(p1:ABB)(p2:AAg):Option ez:=
 (I9 (p0.1,p0.2.1,()) (p1.1,p1.2.1,())).bind fun u1=>
 cond (!u1.1.1)
  (some (((((),0,()),0,false,()),()),([],())))
 ((Dx (p1.1,p1.2.1,())).bind fun u2=>
 (C7 (p0.1,p0.2.1,()) p2).bind fun u3=>
 cond (!u3.1.1)
  (some (((((),u2.1.1.2.1,()),0,false,()),()),(u2.2.1,())))
 (cond (((p1.1.length:Int)==30))
  (some (((((),u2.1.1.2.1,()),0,false,()),()),(u2.2.1,())))
 (if 0+p2.length≤DH then(
 if u2.2.1.length+1≤DH then(
 let x5:AAi:=u2.2.1++[(p2,false,0,())]
 some (((((),u2.1.1.2.1,()),(x5.length:Int),true,()),()),(x5,())))else none)else none)))
abbrev WH:Type:=ABU×(List Int×AAj×List Int×Unit×Unit×Unit×AAv×AAm×AAi×AAn×AAt×Unit)
def Qg(BW BX:Int)(As:Bool)(p1:ABI)(b0:AAg)(b1:AAj)(b2:AAg)(b3:AAi)(b4:AAn)(b5:AAt)(b6:AAv)(b7:AAm):Option WH:=
 cond (((b4.length:Int)==4))
  (some (((((),BW,(),(),(),BX,(),(),(),(),As,()),4,()),()),(b0,b1,b2,(),(),(),b6,b7,b3,b4,b5,())))
 ((KK p1.2.1).bind fun u2=>
 (Ij (b0,BW,()) (b3,BX,()) u2.2.1).bind fun u3=>
 cond (!u3.1.1.2.2.1)
  (some (((((),BW,(),(),(),BX,(),(),(),(),As,()),4,()),()),(b0,b1,b2,(),(),(),b6,b7,b3,b4,b5,())))
 (if b4.length+1≤DH then(
 some (((((),BW,(),(),(),u3.1.1.1.2.1,(),(),(),(),As,()),0,()),()),(b0,b1,b2,(),(),(),b6,b7,u3.2.1,(b4++[(u3.1.1.2.1,[],())]),[],())))else none))
abbrev Z6:Type:=AA4×Unit
def IG(p0:AA7)(p1:Int):Option Z6:=
 (BT p1 0 (AX ((p0.2.2.2.2.2.2.1.length:Int)-1))).bind fun u2=>
 some ((u2.1.1,()),())
abbrev Z5:Type:=((AFu×Int×Bool×Unit)×Unit)×AFg
def ER(p0:AAw)(p1:ABE)(p2:AA_):Option Z5:=
 (E_ (p0.1,p0.2.1,()) (p1.1,p1.2.1,())).bind fun u1=>
 cond (!u1.1.1)
  (some ((((0,(),()),0,false,()),()),([],())))
 ((Cl (p1.1,p1.2.1,())).bind fun u2=>
 if u2.2.1.length+1≤DH then(
 let x3:AA9:=u2.2.1++[(p2,[],false,())]
 (E_ (p0.1,p0.2.1,()) (u2.1.1.1,x3,())).bind fun u4=>
 cond (!u4.1.1)
  ((Cl (p1.1,p1.2.1,())).bind fun u5=>
  some ((((u5.1.1.1,(),()),0,false,()),()),(u5.2.1,())))
 (some ((((u2.1.1.1,(),()),(x3.length:Int),true,()),()),(x3,()))))else none)
abbrev FK:Type:=ABD×Unit
def Bl(p0 p1:Int):Option FK:=
 some ((AX ((AX (4294967296*p0))+p1),()),())
abbrev Hg:Type:=ABU×(List Int×AAj×List Int×AAi×AAn×AAt×AAv×Unit×AAm×Unit)
abbrev Mp:Type:=Int→List Int→AAj→List Int→AAi→AAn→AAt→AAv→AAm→Int→Int→Bool→Int→Int→Bool→List Int→AAj→List Int→AAi→AAn→AAt→AAv→AAm→Int→List UInt8→Bool→Option Hg
abbrev Lj:Type:=Bool→Int→List Int→AAj→List Int→AAi→AAn→AAt→AAv→AAm→Int→Int→Bool→Int→Int→Bool→List Int→AAj→List Int→AAi→AAn→AAt→AAv→AAm→Int→List UInt8→Bool→AAm→Option Hg
def Sd(R9:Mp)(oE:Lj)(t10:Int)(b0:AAg)(b1:AAj)(b2:AAg)(b3:AAi)(b4:AAn)(b5:AAt)(b6:AAv)(b7:AAm)(CQ CY:Int)(BV:Bool)(DX Dv:Int)(CC:Bool)(MD:AAg)(F9:AAj)(Df:AAg)(Fh:AAi)(Fb:AAn)(D_:AAt)(ET:AAv)(Eo:AAm)(Bo:Int)(B_:AA_)(Bq:Bool):Option Hg:=
 cond ((decide (t10<(b7.length:Int))))
  (if(0:Int)≤t10∧t10<(b7.length:Int)then(
  cond (((b7.getD (t10.toNat) (0,[],false,())).1)==Bo)
   (some (((((),CQ,(),(),(),CY,(),(),(),(),BV,()),4,()),()),(b0,b1,b2,b3,b4,b5,b6,(),b7,())))
  (R9 (AX (t10+1)) b0 b1 b2 b3 b4 b5 b6 b7 CQ CY BV DX Dv CC MD F9 Df Fh Fb D_ ET Eo Bo B_ Bq))else none)
 (oE false 0 b0 b1 b2 b3 b4 b5 b6 b7 CQ CY BV DX Dv CC MD F9 Df Fh Fb D_ ET Eo Bo B_ Bq [])
def RZ(R9:Mp)(oE:Lj)(t12:Bool)(t13:Int)(b0:AAg)(b1:AAj)(b2:AAg)(b3:AAi)(b4:AAn)(b5:AAt)(b6:AAv)(b7:AAm)(CQ CY:Int)(BV:Bool)(DX Dv:Int)(CC:Bool)(MD:AAg)(F9:AAj)(Df:AAg)(Fh:AAi)(Fb:AAn)(D_:AAt)(ET:AAv)(Eo:AAm)(Bo:Int)(B_:AA_)(Bq:Bool)(jN:AAm):Option Hg:=
 cond ((decide (t13<(b7.length:Int))))
  (cond (!t12)
   (if(0:Int)≤t13∧t13<(b7.length:Int)then(
   cond (decide (((b7.getD (t13.toNat) (0,[],false,())).1)>Bo))
    (if jN.length+1≤DH then(
    let x18:AAm:=jN++[(Bo,B_,Bq,())]
    if(0:Int)≤t13∧t13<(b7.length:Int)then(
    if x18.length+1≤DH then(
    oE true (AX (t13+1)) b0 b1 b2 b3 b4 b5 b6 b7 CQ CY BV DX Dv CC MD F9 Df Fh Fb D_ ET Eo Bo B_ Bq (x18++[((b7.getD (t13.toNat) (0,[],false,())).1,(b7.getD (t13.toNat) (0,[],false,())).2.1,(b7.getD (t13.toNat) (0,[],false,())).2.2.1,())]))else none)else none)else none)
   (if(0:Int)≤t13∧t13<(b7.length:Int)then(
   if jN.length+1≤DH then(
   oE t12 (AX (t13+1)) b0 b1 b2 b3 b4 b5 b6 b7 CQ CY BV DX Dv CC MD F9 Df Fh Fb D_ ET Eo Bo B_ Bq (jN++[((b7.getD (t13.toNat) (0,[],false,())).1,(b7.getD (t13.toNat) (0,[],false,())).2.1,(b7.getD (t13.toNat) (0,[],false,())).2.2.1,())]))else none)else none))else none)
  (if(0:Int)≤t13∧t13<(b7.length:Int)then(
  if jN.length+1≤DH then(
  oE t12 (AX (t13+1)) b0 b1 b2 b3 b4 b5 b6 b7 CQ CY BV DX Dv CC MD F9 Df Fh Fb D_ ET Eo Bo B_ Bq (jN++[((b7.getD (t13.toNat) (0,[],false,())).1,(b7.getD (t13.toNat) (0,[],false,())).2.1,(b7.getD (t13.toNat) (0,[],false,())).2.2.1,())]))else none)else none))
 (cond (!t12)
  (if jN.length+1≤DH then(
  some (((((),CQ,(),(),(),CY,(),(),(),(),BV,()),0,()),()),(b0,b1,b2,b3,b4,b5,b6,(),(jN++[(Bo,B_,Bq,())]),())))else none)
 (some (((((),CQ,(),(),(),CY,(),(),(),(),BV,()),0,()),()),(b0,b1,b2,b3,b4,b5,b6,(),jN,()))))
mutual
def H4:Nat→Mp
 |0=>fun _ _ _ _ _ _ _ _ _ _ _ _ _ _ _ _ _ _ _ _ _ _ _ _ _ _=>none
 |n+1=>Sd (H4 n) (HD n)
def HD:Nat→Lj
 |0=>fun _ _ _ _ _ _ _ _ _ _ _ _ _ _ _ _ _ _ _ _ _ _ _ _ _ _ _ _=>none
 |n+1=>RZ (H4 n) (HD n)
end
def SO(R9:Mp)(oE:Lj)(BW BX:Int)(As:Bool)(p1:ABI)(b0:AAg)(b1:AAj)(b2:AAg)(b3:AAi)(b4:AAn)(b5:AAt)(b6:AAv)(b7:AAm):Option Hg:=
 (IG (b0,BW,b1,b2,b3,BX,b4,b5,b6,b7,As,()) p1.2.1).bind fun u1=>
 cond (!u1.1.1)
  (some (((((),BW,(),(),(),BX,(),(),(),(),As,()),2,()),()),(b0,b1,b2,b3,b4,b5,b6,(),b7,())))
 (if(0:Int)≤p1.2.1∧p1.2.1<(b4.length:Int)then(
 (ER (b0,BW,()) ((b4.getD (p1.2.1.toNat) (0,[],())).1,(b4.getD (p1.2.1.toNat) (0,[],())).2.1,()) p1.2.2.2.2.1).bind fun u2=>
 cond (!u2.1.1.2.2.1)
  (some (((((),BW,(),(),(),BX,(),(),(),(),As,()),4,()),()),(b0,b1,b2,b3,b4,b5,b6,(),b7,())))
 (cond (((b7.length:Int)==120))
  (some (((((),BW,(),(),(),BX,(),(),(),(),As,()),4,()),()),(b0,b1,b2,b3,b4,b5,b6,(),b7,())))
 (if(0:Int)≤p1.2.1∧p1.2.1<(b4.length:Int)then(
 (Bl u2.1.1.1.1 u2.1.1.2.1).bind fun u5=>
 R9 0 b0 b1 b2 b3 (b4.set (p1.2.1.toNat) (u2.1.1.1.1,u2.2.1,())) b5 b6 b7 BW BX As 0 0 false [] [] [] [] [] [] [] [] u5.1.1 p1.2.2.2.2.1 false)else none)))else none)
def Sb(BW BX:Int)(As:Bool)(p1:ABI)(b0:AAg)(b1:AAj)(b2:AAg)(b3:AAi)(b4:AAn)(b5:AAt)(b6:AAv)(b7:AAm):Option Hg:=SO (H4 Aa) (HD Aa) BW BX As p1 b0 b1 b2 b3 b4 b5 b6 b7
abbrev dJ:Type:=ABD×Unit
def FD(p0:AA7)(p1:Int):Option dJ:=
 (BT p1 0 (AX ((p0.2.2.1.length:Int)-1))).bind fun u2=>
 cond (!u2.1.1)
  (some ((2,()),()))
 ((B4 p0.2.2.2.1 p1).bind fun u3=>
 cond (u3.1.1)
  (some ((3,()),()))
 (some ((0,()),())))
abbrev ca:Type:=AA4×Unit
def QR(p0:ABG)(p1:ACF):Option ca:=
 cond (p1.2.1==0)
  ((Bu p1.1).bind fun u1=>
  some (((decide (u1.1.1>p0.2.2.1)),()),()))
 (some (((decide (p1.2.1>p0.2.2.1)),()),()))
abbrev bJ:Type:=ACn×AC2
def JT(p0:ABG)(p1:ACF):Option bJ:=
 (EO (p0.1,p0.2.1,p0.2.2.1,())).bind fun u1=>
 cond (!u1.1.1)
  (some (((((),(),0,()),false,()),()),([],[],())))
 ((DF (p0.1,p0.2.1,p0.2.2.1,())).bind fun u2=>
 (Ix (p1.1,p1.2.1,p1.2.2.1,p1.2.2.2.1,())).bind fun u3=>
 cond (!u3.1.1)
  (some (((((),(),u2.1.1.2.2.1,()),false,()),()),(u2.2.1,u2.2.2.1,())))
 ((QR (p0.1,p0.2.1,p0.2.2.1,()) (p1.1,p1.2.1,p1.2.2.1,p1.2.2.2.1,())).bind fun u4=>
 cond (!u4.1.1)
  (some (((((),(),u2.1.1.2.2.1,()),false,()),()),(u2.2.1,u2.2.2.1,())))
 (cond ((p0.2.1.length:Int)==20)
  (some (((((),(),u2.1.1.2.2.1,()),false,()),()),(u2.2.1,u2.2.2.1,())))
 (if u2.2.2.1.length+1≤DH then(
 some (((((),(),u2.1.1.2.2.1,()),true,()),()),(u2.2.1,(u2.2.2.1++[(p1.1,p1.2.1,p1.2.2.1,p1.2.2.2.1,())]),())))else none))))
abbrev VX:Type:=ABU×ACL
def Ol(BW BX:Int)(As:Bool)(p1:ABI)(b0:AAg)(b1:AAj)(b2:AAg)(b3:AAi)(b4:AAn)(b5:AAt)(b6:AAv)(b7:AAm):Option VX:=
 (IG (b0,BW,b1,b2,b3,BX,b4,b5,b6,b7,As,()) p1.2.1).bind fun u1=>
 cond (!u1.1.1)
  (some (((((),BW,(),(),(),BX,(),(),(),(),As,()),2,()),()),(b0,b1,b2,b3,b4,b5,b6,b7,())))
 (if(0:Int)≤p1.2.1∧p1.2.1<(b4.length:Int)then(
 (BT p1.2.2.1 1 (((b4.getD (p1.2.1.toNat) (0,[],())).2.1).length:Int)).bind fun u3=>
 cond (!u3.1.1)
  (some (((((),BW,(),(),(),BX,(),(),(),(),As,()),2,()),()),(b0,b1,b2,b3,b4,b5,b6,b7,())))
 ((FD (b0,BW,b1,b2,b3,BX,b4,b5,b6,b7,As,()) p1.2.2.2.1).bind fun u4=>
 cond (u4.1.1 !=0)
  (some (((((),BW,(),(),(),BX,(),(),(),(),As,()),u4.1.1,()),()),(b0,b1,b2,b3,b4,b5,b6,b7,())))
 ((Bk (b3,BX,()) ((b4.getD (p1.2.1.toNat) (0,[],())).1)).bind fun u6=>
 (B4 u6.2.1 p1.2.2.2.1).bind fun u7=>
 cond (!u7.1.1)
  (some (((((),BW,(),(),(),BX,(),(),(),(),As,()),2,()),()),(b0,b1,b2,b3,b4,b5,b6,b7,())))
 (if(0:Int)≤p1.2.2.2.1∧p1.2.2.2.1<(b1.length:Int)then(
 if(0:Int)≤AX (p1.2.2.1-1)∧AX (p1.2.2.1-1)<(((b4.getD (p1.2.1.toNat) (0,[],())).2.1).length:Int)then(
 (Bl ((b4.getD (p1.2.1.toNat) (0,[],())).1) p1.2.2.1).bind fun HK=>
 (JT ((b1.getD (p1.2.2.2.1.toNat) ([],[],0,())).1,(b1.getD (p1.2.2.2.1.toNat) ([],[],0,())).2.1,(b1.getD (p1.2.2.2.1.toNat) ([],[],0,())).2.2.1,()) (HK.1.1,0,false,((((b4.getD (p1.2.1.toNat) (0,[],())).2.1).getD ((AX (p1.2.2.1-1)).toNat) ([],[],false,())).1),())).bind fun Qp=>
 cond (!Qp.1.1.2.1)
  (some (((((),BW,(),(),(),BX,(),(),(),(),As,()),4,()),()),(b0,b1,b2,b3,b4,b5,b6,b7,())))
 (if(0:Int)≤p1.2.2.2.1∧p1.2.2.2.1<(b1.length:Int)then(
 some (((((),BW,(),(),(),BX,(),(),(),(),As,()),0,()),()),(b0,(b1.set (p1.2.2.2.1.toNat) (Qp.2.1,Qp.2.2.1,Qp.1.1.1.2.2.1,())),b2,b3,b4,b5,b6,b7,())))else none))else none)else none))))else none)
abbrev fc:Type:=AFv×Unit
def MJ(p0 p1:ACF):Option fc:=
 cond ((decide (p1.2.1>p0.2.1)))
  (some (((p1.1,p1.2.1,p1.2.2.1,p1.2.2.2.1,()),()),()))
 (some (((p0.1,p0.2.1,p0.2.2.1,p0.2.2.2.1,()),()),()))
abbrev OY:Type:=ABK×AFw
abbrev RO:Type:=AAh→Bool→Int→Int→Int→Bool→List UInt8→AAh→Option OY
def NN(R4:RO)(t0:AAh)(t6:Bool)(t7 AH AJ:Int)(AR:Bool)(DD:AA_)(b1:AAh):Option OY:=
 cond ((decide (t7<(t0.length:Int))))
  (cond (!t6)
   (if(0:Int)≤t7∧t7<(t0.length:Int)then(
   cond (((t0.getD (t7.toNat) (0,0,false,[],())).1)==AH)
    (if(0:Int)≤t7∧t7<(t0.length:Int)then(
    (MJ ((t0.getD (t7.toNat) (0,0,false,[],())).1,(t0.getD (t7.toNat) (0,0,false,[],())).2.1,(t0.getD (t7.toNat) (0,0,false,[],())).2.2.1,(t0.getD (t7.toNat) (0,0,false,[],())).2.2.2.1,()) (AH,AJ,AR,DD,())).bind fun u3=>
    if b1.length+1≤DH then(
    R4 t0 true (AX (t7+1)) AH AJ AR DD (b1++[(u3.1.1.1,u3.1.1.2.1,u3.1.1.2.2.1,u3.1.1.2.2.2.1,())]))else none)else none)
   (cond (!t6)
    (if(0:Int)≤t7∧t7<(t0.length:Int)then(
    cond (decide (((t0.getD (t7.toNat) (0,0,false,[],())).1)>AH))
     (if b1.length+1≤DH then(
     let x6:AAh:=b1++[(AH,AJ,AR,DD,())]
     if(0:Int)≤t7∧t7<(t0.length:Int)then(
     if x6.length+1≤DH then(
     R4 t0 true (AX (t7+1)) AH AJ AR DD (x6++[((t0.getD (t7.toNat) (0,0,false,[],())).1,(t0.getD (t7.toNat) (0,0,false,[],())).2.1,(t0.getD (t7.toNat) (0,0,false,[],())).2.2.1,(t0.getD (t7.toNat) (0,0,false,[],())).2.2.2.1,())]))else none)else none)else none)
    (if(0:Int)≤t7∧t7<(t0.length:Int)then(
    if b1.length+1≤DH then(
    R4 t0 t6 (AX (t7+1)) AH AJ AR DD (b1++[((t0.getD (t7.toNat) (0,0,false,[],())).1,(t0.getD (t7.toNat) (0,0,false,[],())).2.1,(t0.getD (t7.toNat) (0,0,false,[],())).2.2.1,(t0.getD (t7.toNat) (0,0,false,[],())).2.2.2.1,())]))else none)else none))else none)
   (if(0:Int)≤t7∧t7<(t0.length:Int)then(
   if b1.length+1≤DH then(
   R4 t0 t6 (AX (t7+1)) AH AJ AR DD (b1++[((t0.getD (t7.toNat) (0,0,false,[],())).1,(t0.getD (t7.toNat) (0,0,false,[],())).2.1,(t0.getD (t7.toNat) (0,0,false,[],())).2.2.1,(t0.getD (t7.toNat) (0,0,false,[],())).2.2.2.1,())]))else none)else none)))else none)
  (cond (!t6)
   (if(0:Int)≤t7∧t7<(t0.length:Int)then(
   cond (decide (((t0.getD (t7.toNat) (0,0,false,[],())).1)>AH))
    (if b1.length+1≤DH then(
    let VQ:AAh:=b1++[(AH,AJ,AR,DD,())]
    if(0:Int)≤t7∧t7<(t0.length:Int)then(
    if VQ.length+1≤DH then(
    R4 t0 true (AX (t7+1)) AH AJ AR DD (VQ++[((t0.getD (t7.toNat) (0,0,false,[],())).1,(t0.getD (t7.toNat) (0,0,false,[],())).2.1,(t0.getD (t7.toNat) (0,0,false,[],())).2.2.1,(t0.getD (t7.toNat) (0,0,false,[],())).2.2.2.1,())]))else none)else none)else none)
   (if(0:Int)≤t7∧t7<(t0.length:Int)then(
   if b1.length+1≤DH then(
   R4 t0 t6 (AX (t7+1)) AH AJ AR DD (b1++[((t0.getD (t7.toNat) (0,0,false,[],())).1,(t0.getD (t7.toNat) (0,0,false,[],())).2.1,(t0.getD (t7.toNat) (0,0,false,[],())).2.2.1,(t0.getD (t7.toNat) (0,0,false,[],())).2.2.2.1,())]))else none)else none))else none)
  (if(0:Int)≤t7∧t7<(t0.length:Int)then(
  if b1.length+1≤DH then(
  R4 t0 t6 (AX (t7+1)) AH AJ AR DD (b1++[((t0.getD (t7.toNat) (0,0,false,[],())).1,(t0.getD (t7.toNat) (0,0,false,[],())).2.1,(t0.getD (t7.toNat) (0,0,false,[],())).2.2.1,(t0.getD (t7.toNat) (0,0,false,[],())).2.2.2.1,())]))else none)else none)))
 (cond (!t6)
  (if b1.length+1≤DH then(
  some (((),()),((b1++[(AH,AJ,AR,DD,())]),())))else none)
 (some (((),()),(b1,()))))
def Gj:Nat→RO
 |0=>fun _ _ _ _ _ _ _ _=>none
 |n+1=>NN (Gj n)
def Sh(R4:RO)(p0:AAh)(p1:ACF):Option OY:=
 R4 p0 false 0 p1.1 p1.2.1 p1.2.2.1 p1.2.2.2.1 []
def MU(p0:AAh)(p1:ACF):Option OY:=Sh (Gj Aa) p0 p1
abbrev Jh:Type:=ACn×AC2
abbrev L3:Type:=Int→Int→AAh→AAh→Int→Int→AAh→AAh→Int→AAh→AAh→Option Jh
def Nu(R5:L3)(t1 t7:Int)(AH AJ:AAh)(AR Dn:Int)(b2 b3:AAh)(Jx:Int)(b5 b6:AAh):Option Jh:=
 cond ((decide (t7<(AJ.length:Int))))
  (if t7<0 then none else(
  cond (((W8 .i64 (t1.fdiv (2^(min t7.toNat 64))) 1)==1))
   (if(0:Int)≤t7∧t7<(AJ.length:Int)then(
   (MU b5 ((AJ.getD (t7.toNat) (0,0,false,[],())).1,(AJ.getD (t7.toNat) (0,0,false,[],())).2.1,(AJ.getD (t7.toNat) (0,0,false,[],())).2.2.1,(AJ.getD (t7.toNat) (0,0,false,[],())).2.2.2.1,())).bind fun u5=>
   R5 t1 (AX (t7+1)) AH AJ AR Dn b2 b3 Jx u5.2.1 b6)else none)
  (R5 t1 (AX (t7+1)) AH AJ AR Dn b2 b3 Jx b5 b6)))
 ((BT t1 0 1048575).bind fun u6=>
 cond (!u6.1.1)
  ((DF (AH,AJ,AR,())).bind fun u7=>
  some (((((),(),u7.1.1.2.2.1,()),false,()),()),(u7.2.1,u7.2.2.1,())))
 (cond ((decide ((b5.length:Int)>200)))
  ((DF (AH,AJ,AR,())).bind fun u9=>
  some (((((),(),u9.1.1.2.2.1,()),false,()),()),(u9.2.1,u9.2.2.1,())))
 (some (((((),(),Jx,()),true,()),()),(b5,b6,())))))
def Ge:Nat→L3
 |0=>fun _ _ _ _ _ _ _ _ _ _ _=>none
 |n+1=>Nu (Ge n)
def Nx(R5:L3)(p0:ABG)(p1:Int):Option Jh:=
 (EO (p0.1,p0.2.1,p0.2.2.1,())).bind fun u1=>
 cond (!u1.1.1)
  (some (((((),(),0,()),false,()),()),([],[],())))
 (if 0+p0.1.length≤DH then(
 R5 p1 0 p0.1 p0.2.1 p0.2.2.1 0 [] [] p0.2.2.1 p0.1 [])else none)
def JD(p0:ABG)(p1:Int):Option Jh:=Nx (Ge Aa) p0 p1
abbrev Zf:Type:=ACn×AC2
def Gx(p0:ABG):Option Zf:=
 (JD (p0.1,p0.2.1,p0.2.2.1,()) 1048575).bind fun u1=>
 some (((((),(),u1.1.1.1.2.2.1,()),u1.1.1.2.1,()),()),(u1.2.1,u1.2.2.1,()))
abbrev EK:Type:=(AF0×Unit)×Unit
abbrev Sz:Type:=AAh→Int→Int→Int→Int→Bool→List UInt8→Option EK
def Tl(R2:Sz)(t0:AAh)(t1 t6 AH AJ:Int)(AR:Bool)(DD:AA_):Option EK:=
 cond ((decide (t6<(t0.length:Int))))
  (if(0:Int)≤t6∧t6<(t0.length:Int)then(
  cond (((t0.getD (t6.toNat) (0,0,false,[],())).1)==t1)
   (if(0:Int)≤t6∧t6<(t0.length:Int)then(
   some (((((t0.getD (t6.toNat) (0,0,false,[],())).1,(t0.getD (t6.toNat) (0,0,false,[],())).2.1,(t0.getD (t6.toNat) (0,0,false,[],())).2.2.1,(t0.getD (t6.toNat) (0,0,false,[],())).2.2.2.1,()),true,()),()),()))else none)
  (R2 t0 t1 (AX (t6+1)) AH AJ AR DD))else none)
 (some ((((0,0,false,[],()),false,()),()),()))
def LP:Nat→Sz
 |0=>fun _ _ _ _ _ _ _=>none
 |n+1=>Tl (LP n)
def T2(R2:Sz)(p0:AAh)(p1:Int):Option EK:=
 R2 p0 p1 0 0 0 false []
def E4(p0:AAh)(p1:Int):Option EK:=T2 (LP Aa) p0 p1
abbrev D2:Type:=AFx×AFg
def CX(p0:AAw)(p1:ABE)(p2 p3:Int):Option D2:=
 (E_ (p0.1,p0.2.1,()) (p1.1,p1.2.1,())).bind fun u1=>
 cond (!u1.1.1)
  (some ((((0,(),()),false,()),()),([],())))
 ((Cl (p1.1,p1.2.1,())).bind fun u2=>
 (BT p2 1 (p1.2.1.length:Int)).bind fun u4=>
 cond (!u4.1.1)
  (some ((((u2.1.1.1,(),()),false,()),()),(u2.2.1,())))
 ((BT p3 0 (AX ((p0.1.length:Int)-1))).bind fun u6=>
 cond (!u6.1.1)
  (some ((((u2.1.1.1,(),()),false,()),()),(u2.2.1,())))
 (if(0:Int)≤AX (p2-1)∧AX (p2-1)<(p1.2.1.length:Int)then(
 cond (((p1.2.1.getD ((AX (p2-1)).toNat) ([],[],false,())).2.2.1))
  (some ((((u2.1.1.1,(),()),false,()),()),(u2.2.1,())))
 (if(0:Int)≤AX (p2-1)∧AX (p2-1)<(u2.2.1.length:Int)then(
 (Fj ((u2.2.1.getD ((AX (p2-1)).toNat) ([],[],false,())).2.1) p3).bind fun u8=>
 if(0:Int)≤AX (p2-1)∧AX (p2-1)<(u2.2.1.length:Int)then(
 let x9:AA9:=(u2.2.1.set ((AX (p2-1)).toNat) ((u2.2.1.getD ((AX (p2-1)).toNat) ([],[],false,())).1,u8.2.1,(u2.2.1.getD ((AX (p2-1)).toNat) ([],[],false,())).2.2.1,()))
 if(0:Int)≤AX (p2-1)∧AX (p2-1)<(x9.length:Int)then(
 (C7 (p0.1,p0.2.1,()) ((x9.getD ((AX (p2-1)).toNat) ([],[],false,())).2.1)).bind fun HK=>
 if(0:Int)≤AX (p2-1)∧AX (p2-1)<(x9.length:Int)then(
 some ((((u2.1.1.1,(),()),true,()),()),((x9.set ((AX (p2-1)).toNat) ((x9.getD ((AX (p2-1)).toNat) ([],[],false,())).1,(x9.getD ((AX (p2-1)).toNat) ([],[],false,())).2.1,HK.1.1,())),())))else none)else none)else none)else none))else none)))
abbrev aN:Type:=((Int×Bool×Unit)×Unit)×Unit
def Mk(p0 p1:Int):Option aN:=
 (BT p0 1 30).bind fun u1=>
 cond (!u1.1.1)
  (some (((0,false,()),()),()))
 ((BT p1 1 60).bind fun u2=>
 cond (!u2.1.1)
  (some (((0,false,()),()),()))
 (some (((AX ((AX (4294967296*p0))+p1),true,()),()),())))
abbrev D8:Type:=(AF0×Unit)×Unit
def C8(p0:AA2)(p1:Int):Option D8:=
 (Mk p0.2.1 p1).bind fun u1=>
 cond (!p0.2.2.2.2.1)
  (some ((((0,0,false,[],()),false,()),()),()))
 (cond (!u1.1.1.2.1)
  (some ((((0,0,false,[],()),false,()),()),()))
 (cond (decide (p1>(p0.2.2.2.2.2.1.length:Int)))
  (some ((((0,0,false,[],()),false,()),()),()))
 ((E4 p0.2.2.2.1 u1.1.1.1).bind fun u3=>
 cond (u3.1.1.2.1)
  (some ((((u1.1.1.1,p0.1,u3.1.1.1.2.2.1,u3.1.1.1.2.2.2.1,()),true,()),()),()))
 (some ((((u1.1.1.1,p0.1,true,[],()),true,()),()),())))))
abbrev CU:Type:=AD5×ADd
def Ct(p0:AAw)(p1:AA2)(p2 p3:Int):Option CU:=
 (GL (p0.1,p0.2.1,()) (p1.1,p1.2.1,p1.2.2.1,p1.2.2.2.1,p1.2.2.2.2.1,p1.2.2.2.2.2.1,())).bind fun u1=>
 cond (!u1.1.1)
  (some ((((0,0,(),(),false,(),()),false,()),()),([],[],[],())))
 ((Ck (p1.1,p1.2.1,p1.2.2.1,p1.2.2.2.1,p1.2.2.2.2.1,p1.2.2.2.2.2.1,())).bind fun u2=>
 (BT p2 1 (p1.2.2.2.2.2.1.length:Int)).bind fun u4=>
 cond (!u4.1.1)
  (some ((((u2.1.1.1,u2.1.1.2.1,(),(),u2.1.1.2.2.2.2.1,(),()),false,()),()),(u2.2.1,u2.2.2.1,u2.2.2.2.1,())))
 ((BT p3 0 (AX ((p0.1.length:Int)-1))).bind fun u6=>
 cond (!u6.1.1)
  (some ((((u2.1.1.1,u2.1.1.2.1,(),(),u2.1.1.2.2.2.2.1,(),()),false,()),()),(u2.2.1,u2.2.2.1,u2.2.2.2.1,())))
 (if(0:Int)≤AX (p2-1)∧AX (p2-1)<(u2.2.2.2.1.length:Int)then(
 (Fj (u2.2.2.2.1.getD ((AX (p2-1)).toNat) []) p3).bind fun u7=>
 if(0:Int)≤AX (p2-1)∧AX (p2-1)<(u2.2.2.2.1.length:Int)then(
 some ((((u2.1.1.1,u2.1.1.2.1,(),(),u2.1.1.2.2.2.2.1,(),()),true,()),()),(u2.2.1,u2.2.2.1,(u2.2.2.2.1.set ((AX (p2-1)).toNat) u7.2.1),())))else none)else none)))
abbrev BJ:Type:=AD1×ACL
abbrev Fq:Type:=Int→Int→List Int→AAj→List Int→AAi→AAn→AAt→AAv→AAm→Int→Int→Bool→Int→Int→Bool→List Int→AAj→List Int→AAi→AAn→AAt→AAv→AAm→AAh→AAh→Int→Option BJ
abbrev Fp:Type:=Int→Int→Int→Int→Int→Bool→List Int→AAj→List Int→AAi→AAn→AAt→AAv→AAm→Int→Int→Bool→Int→Int→Bool→List Int→AAj→List Int→AAi→AAn→AAt→AAv→AAm→AAh→AAh→Int→Int→AA9→Option BJ
abbrev Ew:Type:=Int→Int→Int→Int→Int→Bool→List Int→AAj→List Int→AAi→AAn→AAt→AAv→AAm→Int→Int→Bool→Int→Int→Bool→List Int→AAj→List Int→AAi→AAn→AAt→AAv→AAm→AAh→AAh→Int→Int→AA9→Option BJ
abbrev Ey:Type:=Int→Int→List Int→AAj→List Int→AAi→AAn→AAt→AAv→AAm→Int→Int→Bool→Int→Int→Bool→List Int→AAj→List Int→AAi→AAn→AAt→AAv→AAm→AAh→AAh→Int→Option BJ
abbrev Er:Type:=Int→Int→Int→List Int→AAj→List Int→AAi→AAn→AAt→AAv→AAm→Int→Int→Bool→Int→Int→Bool→List Int→AAj→List Int→AAi→AAn→AAt→AAv→AAm→AAh→AAh→Int→Int→Int→List Int→AAh→Bool→List AAg→Option BJ
def Iv(R3:Fq)(R8:Fp)(cJ:Ew)(R21:Ey)(vG:Er)(t1 t6:Int)(b0:AAg)(b1:AAj)(b2:AAg)(b3:AAi)(b4:AAn)(b5:AAt)(b6:AAv)(b7:AAm)(CQ CY:Int)(BV:Bool)(DX Dv:Int)(CC:Bool)(MD:AAg)(F9:AAj)(Df:AAg)(Fh:AAi)(Fb:AAn)(D_:AAt)(ET:AAv)(Eo:AAm)(Bo B_:AAh)(Bq:Int):Option BJ:=
 cond ((decide (t6<(b4.length:Int))))
  (if(0:Int)≤t6∧t6<(b4.length:Int)then(
  (Bk (b3,CY,()) ((b4.getD (t6.toNat) (0,[],())).1)).bind fun u3=>
  (B4 u3.2.1 t1).bind fun u4=>
  cond (!u4.1.1)
   (R3 t1 (AX (t6+1)) b0 b1 b2 b3 b4 b5 b6 b7 CQ CY BV DX Dv CC MD F9 Df Fh Fb D_ ET Eo Bo B_ Bq)
  (let x5:Int:=(b4.getD (t6.toNat) (0,[],())).1
  cond (decide (Bq≥x5))
   (R3 t1 (AX (t6+1)) b0 b1 b2 b3 b4 b5 b6 b7 CQ CY BV DX Dv CC MD F9 Df Fh Fb D_ ET Eo Bo B_ Bq)
  (R8 t1 t6 1 Bq x5 (decide (Bq≥x5)) b0 b1 b2 b3 b4 b5 b6 b7 CQ CY BV DX Dv CC MD F9 Df Fh Fb D_ ET Eo Bo B_ Bq ((b4.getD (t6.toNat) (0,[],())).1) ((b4.getD (t6.toNat) (0,[],())).2.1))))else none)
 (R21 t1 0 b0 b1 b2 b3 b4 b5 b6 b7 CQ CY BV DX Dv CC MD F9 Df Fh Fb D_ ET Eo Bo B_ Bq)
def Io(R3:Fq)(R8:Fp)(cJ:Ew)(R21:Ey)(vG:Er)(t1 t6 t8 t47 t49:Int)(t50:Bool)(b0:AAg)(b1:AAj)(b2:AAg)(b3:AAi)(b4:AAn)(b5:AAt)(b6:AAv)(b7:AAm)(CQ CY:Int)(BV:Bool)(DX Dv:Int)(CC:Bool)(MD:AAg)(F9:AAj)(Df:AAg)(Fh:AAi)(Fb:AAn)(D_:AAt)(ET:AAv)(Eo:AAm)(Bo B_:AAh)(Bq Cs:Int)(Bc:AA9):Option BJ:=
 cond ((decide (t8≤(Bc.length:Int))))
  ((Bl Cs t8).bind fun u7=>
  (E4 Bo u7.1.1).bind fun u8=>
  cond (!u8.1.1.2.1)
   (R8 t1 t6 (AX (t8+1)) t47 t49 t50 b0 b1 b2 b3 b4 b5 b6 b7 CQ CY BV DX Dv CC MD F9 Df Fh Fb D_ ET Eo Bo B_ Bq Cs Bc)
  (cond (u8.1.1.1.2.1 !=0)
   (R8 t1 t6 (AX (t8+1)) t47 t49 t50 b0 b1 b2 b3 b4 b5 b6 b7 CQ CY BV DX Dv CC MD F9 Df Fh Fb D_ ET Eo Bo B_ Bq Cs Bc)
  (if(0:Int)≤AX (t8-1)∧AX (t8-1)<(Bc.length:Int)then(
  cond (((Bc.getD ((AX (t8-1)).toNat) ([],[],false,())).2.2.1))
   (R8 t1 t6 (AX (t8+1)) t47 t49 t50 b0 b1 b2 b3 b4 b5 b6 b7 CQ CY BV DX Dv CC MD F9 Df Fh Fb D_ ET Eo Bo B_ Bq Cs Bc)
  ((CX (b0,CQ,()) (Cs,Bc,()) t8 t1).bind fun HK=>
  R8 t1 t6 (AX (t8+1)) t47 t49 t50 b0 b1 b2 b3 b4 b5 b6 b7 CQ CY BV DX Dv CC MD F9 Df Fh Fb D_ ET Eo Bo B_ Bq HK.1.1.1.1 HK.2.1))else none)))
 (if(0:Int)≤t6∧t6<(b4.length:Int)then(
 cJ t1 t6 0 t47 t49 t50 b0 b1 b2 b3 (b4.set (t6.toNat) (Cs,Bc,())) b5 b6 b7 CQ CY BV DX Dv CC MD F9 Df Fh Fb D_ ET Eo Bo B_ Bq Cs Bc)else none)
def Hr(R3:Fq)(R8:Fp)(cJ:Ew)(R21:Ey)(vG:Er)(t1 t6 t11 t47 t49:Int)(t50:Bool)(b0:AAg)(b1:AAj)(b2:AAg)(b3:AAi)(b4:AAn)(b5:AAt)(b6:AAv)(b7:AAm)(CQ CY:Int)(BV:Bool)(DX Dv:Int)(CC:Bool)(MD:AAg)(F9:AAj)(Df:AAg)(Fh:AAi)(Fb:AAn)(D_:AAt)(ET:AAv)(Eo:AAm)(Bo B_:AAh)(Bq Cs:Int)(Bc:AA9):Option BJ:=
 cond ((decide (t11<(b7.length:Int))))
  (if(0:Int)≤t11∧t11<(b7.length:Int)then(
  let x65:Int:=(b7.getD (t11.toNat) (0,[],false,())).1
  (Bu x65).bind fun u66=>
  cond (u66.1.1==Cs)
   ((Ez x65).bind fun u67=>
   cond ((decide (u67.1.1≤(Bc.length:Int))))
    ((Ez x65).bind fun u69=>
    if(0:Int)≤AX (u69.1.1-1)∧AX (u69.1.1-1)<(Bc.length:Int)then(
    cond (((Bc.getD ((AX (u69.1.1-1)).toNat) ([],[],false,())).2.2.1))
     (if(0:Int)≤t11∧t11<(b7.length:Int)then(
     cJ t1 t6 (AX (t11+1)) t47 t49 t50 b0 b1 b2 b3 b4 b5 b6 (b7.set (t11.toNat) ((b7.getD (t11.toNat) (0,[],false,())).1,(b7.getD (t11.toNat) (0,[],false,())).2.1,true,())) CQ CY BV DX Dv CC MD F9 Df Fh Fb D_ ET Eo Bo B_ Bq Cs Bc)else none)
    (cJ t1 t6 (AX (t11+1)) t47 t49 t50 b0 b1 b2 b3 b4 b5 b6 b7 CQ CY BV DX Dv CC MD F9 Df Fh Fb D_ ET Eo Bo B_ Bq Cs Bc))else none)
   (cJ t1 t6 (AX (t11+1)) t47 t49 t50 b0 b1 b2 b3 b4 b5 b6 b7 CQ CY BV DX Dv CC MD F9 Df Fh Fb D_ ET Eo Bo B_ Bq Cs Bc))
  (cJ t1 t6 (AX (t11+1)) t47 t49 t50 b0 b1 b2 b3 b4 b5 b6 b7 CQ CY BV DX Dv CC MD F9 Df Fh Fb D_ ET Eo Bo B_ Bq Cs Bc))else none)
 (R3 t1 (AX (t6+1)) b0 b1 b2 b3 b4 b5 b6 b7 CQ CY BV DX Dv CC MD F9 Df Fh Fb D_ ET Eo Bo B_ Bq)
def Hu(R3:Fq)(R8:Fp)(cJ:Ew)(R21:Ey)(vG:Er)(t1 t13:Int)(b0:AAg)(b1:AAj)(b2:AAg)(b3:AAi)(b4:AAn)(b5:AAt)(b6:AAv)(b7:AAm)(CQ CY:Int)(BV:Bool)(DX Dv:Int)(CC:Bool)(MD:AAg)(F9:AAj)(Df:AAg)(Fh:AAi)(Fb:AAn)(D_:AAt)(ET:AAv)(Eo:AAm)(Bo B_:AAh)(Bq:Int):Option BJ:=
 cond ((decide (t13<(b5.length:Int))))
  (if(0:Int)≤t13∧t13<(b5.length:Int)then(
  vG t1 t13 1 b0 b1 b2 b3 b4 b5 b6 b7 CQ CY BV DX Dv CC MD F9 Df Fh Fb D_ ET Eo Bo B_ Bq ((b5.getD (t13.toNat) (0,0,[],[],false,[],())).1) ((b5.getD (t13.toNat) (0,0,[],[],false,[],())).2.1) ((b5.getD (t13.toNat) (0,0,[],[],false,[],())).2.2.1) ((b5.getD (t13.toNat) (0,0,[],[],false,[],())).2.2.2.1) ((b5.getD (t13.toNat) (0,0,[],[],false,[],())).2.2.2.2.1) ((b5.getD (t13.toNat) (0,0,[],[],false,[],())).2.2.2.2.2.1))else none)
 (some ((((),CQ,(),(),(),CY,(),(),(),(),BV,()),()),(b0,b1,b2,b3,b4,b5,b6,b7,())))
def Fz(R3:Fq)(R8:Fp)(cJ:Ew)(R21:Ey)(vG:Er)(t1 t13 t15:Int)(b0:AAg)(b1:AAj)(b2:AAg)(b3:AAi)(b4:AAn)(b5:AAt)(b6:AAv)(b7:AAm)(CQ CY:Int)(BV:Bool)(DX Dv:Int)(CC:Bool)(MD:AAg)(F9:AAj)(Df:AAg)(Fh:AAi)(Fb:AAn)(D_:AAt)(ET:AAv)(Eo:AAm)(Bo B_:AAh)(Bq Cs Bc:Int)(T3:AAg)(UH:AAh)(Tm:Bool)(PC:List AAg):Option BJ:=
 if(0:Int)≤t13∧t13<(b5.length:Int)then(
 cond (decide (t15≤(((b5.getD (t13.toNat) (0,0,[],[],false,[],())).2.2.2.2.2.1).length:Int)))
  ((Bk (b3,CY,()) Bc).bind fun u74=>
  (B4 u74.2.1 t1).bind fun u75=>
  cond (u75.1.1)
   ((C8 (Cs,Bc,T3,UH,Tm,PC,()) t15).bind fun qv=>
   (E4 Bo qv.1.1.1.1).bind fun sJ=>
   cond (sJ.1.1.2.1)
    (cond (((sJ.1.1.1.1==qv.1.1.1.1)&&((sJ.1.1.1.2.1==qv.1.1.1.2.1)&&((sJ.1.1.1.2.2.1==qv.1.1.1.2.2.1)&&((sJ.1.1.1.2.2.2.1==qv.1.1.1.2.2.2.1)&&true)))))
     ((Ct (b0,CQ,()) (Cs,Bc,T3,UH,Tm,PC,()) t15 t1).bind fun oN=>
     vG t1 t13 (AX (t15+1)) b0 b1 b2 b3 b4 b5 b6 b7 CQ CY BV DX Dv CC MD F9 Df Fh Fb D_ ET Eo Bo B_ Bq oN.1.1.1.1 oN.1.1.1.2.1 oN.2.1 oN.2.2.1 oN.1.1.1.2.2.2.2.1 oN.2.2.2.1)
    (vG t1 t13 (AX (t15+1)) b0 b1 b2 b3 b4 b5 b6 b7 CQ CY BV DX Dv CC MD F9 Df Fh Fb D_ ET Eo Bo B_ Bq Cs Bc T3 UH Tm PC))
   (vG t1 t13 (AX (t15+1)) b0 b1 b2 b3 b4 b5 b6 b7 CQ CY BV DX Dv CC MD F9 Df Fh Fb D_ ET Eo Bo B_ Bq Cs Bc T3 UH Tm PC))
  (if(0:Int)≤t13∧t13<(b5.length:Int)then(
  R21 t1 (AX (t13+1)) b0 b1 b2 b3 b4 (b5.set (t13.toNat) (Cs,Bc,T3,UH,Tm,PC,())) b6 b7 CQ CY BV DX Dv CC MD F9 Df Fh Fb D_ ET Eo Bo B_ Bq)else none))
 (if(0:Int)≤t13∧t13<(b5.length:Int)then(
 R21 t1 (AX (t13+1)) b0 b1 b2 b3 b4 (b5.set (t13.toNat) (Cs,Bc,T3,UH,Tm,PC,())) b6 b7 CQ CY BV DX Dv CC MD F9 Df Fh Fb D_ ET Eo Bo B_ Bq)else none))else none
mutual
def A6:Nat→Fq
 |0=>fun _ _ _ _ _ _ _ _ _ _ _ _ _ _ _ _ _ _ _ _ _ _ _ _ _ _ _=>none
 |n+1=>Iv (A6 n) (Ak n) (Al n) (A9 n) (A0 n)
def Ak:Nat→Fp
 |0=>fun _ _ _ _ _ _ _ _ _ _ _ _ _ _ _ _ _ _ _ _ _ _ _ _ _ _ _ _ _ _ _ _ _=>none
 |n+1=>Io (A6 n) (Ak n) (Al n) (A9 n) (A0 n)
def Al:Nat→Ew
 |0=>fun _ _ _ _ _ _ _ _ _ _ _ _ _ _ _ _ _ _ _ _ _ _ _ _ _ _ _ _ _ _ _ _ _=>none
 |n+1=>Hr (A6 n) (Ak n) (Al n) (A9 n) (A0 n)
def A9:Nat→Ey
 |0=>fun _ _ _ _ _ _ _ _ _ _ _ _ _ _ _ _ _ _ _ _ _ _ _ _ _ _ _=>none
 |n+1=>Hu (A6 n) (Ak n) (Al n) (A9 n) (A0 n)
def A0:Nat→Er
 |0=>fun _ _ _ _ _ _ _ _ _ _ _ _ _ _ _ _ _ _ _ _ _ _ _ _ _ _ _ _ _ _ _ _ _ _=>none
 |n+1=>Fz (A6 n) (Ak n) (Al n) (A9 n) (A0 n)
end
def L6(R3:Fq)(R8:Fp)(cJ:Ew)(R21:Ey)(vG:Er)(BW BX:Int)(As:Bool)(p1:Int)(b0:AAg)(b1:AAj)(b2:AAg)(b3:AAi)(b4:AAn)(b5:AAt)(b6:AAv)(b7:AAm):Option BJ:=
 if(0:Int)≤p1∧p1<(b1.length:Int)then(
 R3 p1 0 b0 b1 b2 b3 b4 b5 b6 b7 BW BX As 0 0 false [] [] [] [] [] [] [] [] ((b1.getD (p1.toNat) ([],[],0,())).1) ((b1.getD (p1.toNat) ([],[],0,())).2.1) ((b1.getD (p1.toNat) ([],[],0,())).2.2.1))else none
def QP(BW BX:Int)(As:Bool)(p1:Int)(b0:AAg)(b1:AAj)(b2:AAg)(b3:AAi)(b4:AAn)(b5:AAt)(b6:AAv)(b7:AAm):Option BJ:=L6 (A6 Aa) (Ak Aa) (Al Aa) (A9 Aa) (A0 Aa) BW BX As p1 b0 b1 b2 b3 b4 b5 b6 b7
abbrev cb:Type:=ABU×ACL
def QL(BW BX:Int)(As:Bool)(p1:ABI)(b0:AAg)(b1:AAj)(b2:AAg)(b3:AAi)(b4:AAn)(b5:AAt)(b6:AAv)(b7:AAm):Option cb:=
 (FD (b0,BW,b1,b2,b3,BX,b4,b5,b6,b7,As,()) p1.2.1).bind fun u1=>
 cond (u1.1.1 !=0)
  (some (((((),BW,(),(),(),BX,(),(),(),(),As,()),u1.1.1,()),()),(b0,b1,b2,b3,b4,b5,b6,b7,())))
 (if(0:Int)≤p1.2.1∧p1.2.1<(b1.length:Int)then(
 (Gx ((b1.getD (p1.2.1.toNat) ([],[],0,())).1,(b1.getD (p1.2.1.toNat) ([],[],0,())).2.1,(b1.getD (p1.2.1.toNat) ([],[],0,())).2.2.1,())).bind fun u2=>
 cond (!u2.1.1.2.1)
  (some (((((),BW,(),(),(),BX,(),(),(),(),As,()),4,()),()),(b0,b1,b2,b3,b4,b5,b6,b7,())))
 (if(0:Int)≤p1.2.1∧p1.2.1<(b1.length:Int)then(
 (QP BW BX As p1.2.1 b0 (b1.set (p1.2.1.toNat) (u2.2.1,u2.2.2.1,u2.1.1.1.2.2.1,())) b2 b3 b4 b5 b6 b7).bind fun u4=>
 some (((((),u4.1.1.2.1,(),(),(),u4.1.1.2.2.2.2.2.1,(),(),(),(),u4.1.1.2.2.2.2.2.2.2.2.2.2.1,()),0,()),()),(u4.2.1,u4.2.2.1,u4.2.2.2.1,u4.2.2.2.2.1,u4.2.2.2.2.2.1,u4.2.2.2.2.2.2.1,u4.2.2.2.2.2.2.2.1,u4.2.2.2.2.2.2.2.2.1,())))else none))else none)
abbrev OW:Type:=ABK×ABL
abbrev Q0:Type:=List Int→List Int→Int→List Int→Option OW
def Sa(R3:Q0)(t0 t1:AAg)(t6:Int)(b0:AAg):Option OW:=
 cond ((decide (t6<(t0.length:Int))))
  (if(0:Int)≤t6∧t6<(t0.length:Int)then(
  (B4 t1 (t0.getD (t6.toNat) 0)).bind fun u3=>
  cond (!u3.1.1)
   (if(0:Int)≤t6∧t6<(t0.length:Int)then(
   if b0.length+1≤DH then(
   R3 t0 t1 (AX (t6+1)) (b0++[(t0.getD (t6.toNat) 0)]))else none)else none)
  (R3 t0 t1 (AX (t6+1)) b0))else none)
 (some (((),()),(b0,())))
def J_:Nat→Q0
 |0=>fun _ _ _ _=>none
 |n+1=>Sa (J_ n)
def SB(R3:Q0)(p0 p1:AAg):Option OW:=
 R3 p0 p1 0 []
def GM(p0 p1:AAg):Option OW:=SB (J_ Aa) p0 p1
abbrev Hs:Type:=AFx×AFg
abbrev J9:Type:=Int→Int→Int→AA9→Int→AA9→Option Hs
def MX(R5:J9)(t2 t9 AH:Int)(b1:AA9)(Iy:Int)(b3:AA9):Option Hs:=
 cond ((decide (t9<(b3.length:Int))))
  (if(0:Int)≤t9∧t9<(b3.length:Int)then(
  cond (!((b3.getD (t9.toNat) ([],[],false,())).2.2.1))
   (if(0:Int)≤t9∧t9<(b3.length:Int)then(
   (GM ((b3.getD (t9.toNat) ([],[],false,())).2.1) [t2]).bind fun u5=>
   if(0:Int)≤t9∧t9<(b3.length:Int)then(
   R5 t2 (AX (t9+1)) AH b1 Iy (b3.set (t9.toNat) ((b3.getD (t9.toNat) ([],[],false,())).1,u5.2.1,(b3.getD (t9.toNat) ([],[],false,())).2.2.1,())))else none)else none)
  (R5 t2 (AX (t9+1)) AH b1 Iy b3))else none)
 (some ((((Iy,(),()),true,()),()),(b3,())))
def FV:Nat→J9
 |0=>fun _ _ _ _ _ _=>none
 |n+1=>MX (FV n)
def MP(R5:J9)(p0:AAw)(p1:ABE)(p2:Int):Option Hs:=
 (E_ (p0.1,p0.2.1,()) (p1.1,p1.2.1,())).bind fun u1=>
 cond (!u1.1.1)
  (some ((((0,(),()),false,()),()),([],())))
 ((Cl (p1.1,p1.2.1,())).bind fun u2=>
 R5 p2 0 0 [] u2.1.1.1 u2.2.1)
def Jn(p0:AAw)(p1:ABE)(p2:Int):Option Hs:=MP (FV Aa) p0 p1 p2
abbrev Jl:Type:=AD5×ADd
abbrev Lt:Type:=Int→Int→Int→Int→Bool→List Int→AAh→List AAg→Int→Int→Bool→List Int→AAh→List AAg→Option Jl
def Nq(R5:Lt)(t2 t9 AH AJ:Int)(EN:Bool)(b1:AAg)(b2:AAh)(b3:List AAg)(kL gL:Int)(AHO:Bool)(b5:AAg)(b6:AAh)(b7:List AAg):Option Jl:=
 cond ((decide (t9<(b7.length:Int))))
  (if(0:Int)≤t9∧t9<(b7.length:Int)then(
  (GM (b7.getD (t9.toNat) []) [t2]).bind fun u4=>
  if(0:Int)≤t9∧t9<(b7.length:Int)then(
  R5 t2 (AX (t9+1)) AH AJ EN b1 b2 b3 kL gL AHO b5 b6 (b7.set (t9.toNat) u4.2.1))else none)else none)
 (some ((((kL,gL,(),(),AHO,(),()),true,()),()),(b5,b6,b7,())))
def Gk:Nat→Lt
 |0=>fun _ _ _ _ _ _ _ _ _ _ _ _ _ _=>none
 |n+1=>Nq (Gk n)
def Nt(R5:Lt)(p0:AAw)(p1:AA2)(p2:Int):Option Jl:=
 (GL (p0.1,p0.2.1,()) (p1.1,p1.2.1,p1.2.2.1,p1.2.2.2.1,p1.2.2.2.2.1,p1.2.2.2.2.2.1,())).bind fun u1=>
 cond (!u1.1.1)
  (some ((((0,0,(),(),false,(),()),false,()),()),([],[],[],())))
 ((Ck (p1.1,p1.2.1,p1.2.2.1,p1.2.2.2.1,p1.2.2.2.2.1,p1.2.2.2.2.2.1,())).bind fun u2=>
 R5 p2 0 0 0 false [] [] [] u2.1.1.1 u2.1.1.2.1 u2.1.1.2.2.2.2.1 u2.2.1 u2.2.2.1 u2.2.2.2.1)
def Li(p0:AAw)(p1:AA2)(p2:Int):Option Jl:=Nt (Gk Aa) p0 p1 p2
abbrev Gf:Type:=ABU×AF1
abbrev Lc:Type:=Int→List Int→AAj→List Int→AAi→AAn→AAt→AAv→AAm→Int→Int→Bool→List Int→Int→Int→Int→Int→List UInt8→Int→Int→Bool→List Int→AAj→List Int→AAi→AAn→AAt→AAv→AAm→Option Gf
abbrev Kb:Type:=Int→List Int→AAj→List Int→AAi→AAn→AAt→AAv→AAm→Int→Int→Bool→List Int→Int→Int→Int→Int→List UInt8→Int→Int→Bool→List Int→AAj→List Int→AAi→AAn→AAt→AAv→AAm→Option Gf
def RY(R7:Lc)(ZA:Kb)(t7:Int)(b0:AAg)(b1:AAj)(b2:AAg)(b3:AAi)(b4:AAn)(b5:AAt)(b6:AAv)(b7:AAm)(CQ CY:Int)(BV:Bool)(b9:AAg)(ny De nN nn:Int)(nH:AA_)(nh nx:Int)(i_:Bool)(Df:AAg)(Fh:AAj)(Fb:AAg)(D_:AAi)(ET:AAn)(Eo:AAt)(Td:AAv)(jN:AAm):Option Gf:=
 cond ((decide (t7<(b4.length:Int))))
  (if(0:Int)≤t7∧t7<(b4.length:Int)then(
  (Jn (b0,CQ,()) ((b4.getD (t7.toNat) (0,[],())).1,(b4.getD (t7.toNat) (0,[],())).2.1,()) De).bind fun u5=>
  if(0:Int)≤t7∧t7<(b4.length:Int)then(
  R7 (AX (t7+1)) b0 b1 b2 b3 (b4.set (t7.toNat) (u5.1.1.1.1,u5.2.1,())) b5 b6 b7 CQ CY BV b9 ny De nN nn nH nh nx i_ Df Fh Fb D_ ET Eo Td jN)else none)else none)
 (ZA 0 b0 b1 b2 b3 b4 b5 b6 b7 CQ CY BV b9 ny De nN nn nH nh nx i_ Df Fh Fb D_ ET Eo Td jN)
def Px(R7:Lc)(ZA:Kb)(t8:Int)(b0:AAg)(b1:AAj)(b2:AAg)(b3:AAi)(b4:AAn)(b5:AAt)(b6:AAv)(b7:AAm)(CQ CY:Int)(BV:Bool)(b9:AAg)(ny De nN nn:Int)(nH:AA_)(nh nx:Int)(i_:Bool)(Df:AAg)(Fh:AAj)(Fb:AAg)(D_:AAi)(ET:AAn)(Eo:AAt)(Td:AAv)(jN:AAm):Option Gf:=
 cond ((decide (t8<(b5.length:Int))))
  (if(0:Int)≤t8∧t8<(b5.length:Int)then(
  (Li (b0,CQ,()) ((b5.getD (t8.toNat) (0,0,[],[],false,[],())).1,(b5.getD (t8.toNat) (0,0,[],[],false,[],())).2.1,(b5.getD (t8.toNat) (0,0,[],[],false,[],())).2.2.1,(b5.getD (t8.toNat) (0,0,[],[],false,[],())).2.2.2.1,(b5.getD (t8.toNat) (0,0,[],[],false,[],())).2.2.2.2.1,(b5.getD (t8.toNat) (0,0,[],[],false,[],())).2.2.2.2.2.1,()) De).bind fun u8=>
  if(0:Int)≤t8∧t8<(b5.length:Int)then(
  ZA (AX (t8+1)) b0 b1 b2 b3 b4 (b5.set (t8.toNat) (u8.1.1.1.1,u8.1.1.1.2.1,u8.2.1,u8.2.2.1,u8.1.1.1.2.2.2.2.1,u8.2.2.2.1,())) b6 b7 CQ CY BV b9 ny De nN nn nH nh nx i_ Df Fh Fb D_ ET Eo Td jN)else none)else none)
 (cond (BV)
  (some (((((),CQ,(),(),(),CY,(),(),(),(),true,()),0,()),()),(b0,b1,(),b3,b4,b5,b6,b7,b9,())))
 ((C7 (b0,CQ,()) b9).bind fun HK=>
 some (((((),CQ,(),(),(),CY,(),(),(),(),HK.1.1,()),0,()),()),(b0,b1,(),b3,b4,b5,b6,b7,b9,()))))
mutual
def HJ:Nat→Lc
 |0=>fun _ _ _ _ _ _ _ _ _ _ _ _ _ _ _ _ _ _ _ _ _ _ _ _ _ _ _ _ _=>none
 |n+1=>RY (HJ n) (GS n)
def GS:Nat→Kb
 |0=>fun _ _ _ _ _ _ _ _ _ _ _ _ _ _ _ _ _ _ _ _ _ _ _ _ _ _ _ _ _=>none
 |n+1=>Px (HJ n) (GS n)
end
def Q_(R7:Lc)(ZA:Kb)(BW BX:Int)(As:Bool)(p1:ABI)(b0:AAg)(b1:AAj)(b2:AAg)(b3:AAi)(b4:AAn)(b5:AAt)(b6:AAv)(b7:AAm):Option Gf:=
 (FD (b0,BW,b1,b2,b3,BX,b4,b5,b6,b7,As,()) p1.2.1).bind fun u1=>
 cond (u1.1.1 !=0)
  (some (((((),BW,(),(),(),BX,(),(),(),(),As,()),u1.1.1,()),()),(b0,b1,(),b3,b4,b5,b6,b7,b2,())))
 (if(0:Int)≤p1.2.1∧p1.2.1<(b1.length:Int)then(
 (Fj b2 p1.2.1).bind fun u3=>
 R7 0 b0 (b1.set (p1.2.1.toNat) ([],[],0,())) b2 b3 b4 b5 b6 b7 BW BX As u3.2.1 p1.1 p1.2.1 p1.2.2.1 p1.2.2.2.1 p1.2.2.2.2.1 0 0 false [] [] [] [] [] [] [] [])else none)
def Qk(BW BX:Int)(As:Bool)(p1:ABI)(b0:AAg)(b1:AAj)(b2:AAg)(b3:AAi)(b4:AAn)(b5:AAt)(b6:AAv)(b7:AAm):Option Gf:=Q_ (HJ Aa) (GS Aa) BW BX As p1 b0 b1 b2 b3 b4 b5 b6 b7
abbrev gR:Type:=AA4×Unit
def SL(p0:AAw)(p1:AAg):Option gR:=
 (ES (p0.1,p0.2.1,()) p1).bind fun u1=>
 cond (u1.1.1)
  ((C7 (p0.1,p0.2.1,()) p1).bind fun u2=>
  some ((!u2.1.1,()),()))
 (some ((false,()),()))
abbrev HI:Type:=ABK×AFw
abbrev Kg:Type:=AAj→Int→AAh→Option HI
abbrev Kq:Type:=AAj→Int→Int→AAh→Option HI
def Pw(R3:Kg)(R6:Kq)(t0:AAj)(t4:Int)(b0:AAh):Option HI:=
 cond ((decide (t4<(t0.length:Int))))
  (R6 t0 t4 0 b0)
 (some (((),()),(b0,())))
def P0(R3:Kg)(R6:Kq)(t0:AAj)(t4 t5:Int)(b0:AAh):Option HI:=
 if(0:Int)≤t4∧t4<(t0.length:Int)then(
 cond (decide (t5<(((t0.getD (t4.toNat) ([],[],0,())).1).length:Int)))
  (if(0:Int)≤t4∧t4<(t0.length:Int)then(
  if(0:Int)≤t5∧t5<(((t0.getD (t4.toNat) ([],[],0,())).1).length:Int)then(
  (MU b0 ((((t0.getD (t4.toNat) ([],[],0,())).1).getD (t5.toNat) (0,0,false,[],())).1,(((t0.getD (t4.toNat) ([],[],0,())).1).getD (t5.toNat) (0,0,false,[],())).2.1,(((t0.getD (t4.toNat) ([],[],0,())).1).getD (t5.toNat) (0,0,false,[],())).2.2.1,(((t0.getD (t4.toNat) ([],[],0,())).1).getD (t5.toNat) (0,0,false,[],())).2.2.2.1,())).bind fun u3=>
  R6 t0 t4 (AX (t5+1)) u3.2.1)else none)else none)
 (R3 t0 (AX (t4+1)) b0))else none
mutual
def GV:Nat→Kg
 |0=>fun _ _ _=>none
 |n+1=>Pw (GV n) (GU n)
def GU:Nat→Kq
 |0=>fun _ _ _ _=>none
 |n+1=>P0 (GV n) (GU n)
end
def W5(R3:Kg)(R6:Kq)(p0:AAj):Option HI:=
 R3 p0 0 []
def TF(p0:AAj):Option HI:=W5 (GV Aa) (GU Aa) p0
abbrev J1:Type:=ACn×(AAj×AAh×AAh×Unit)
abbrev Qo:Type:=List Int→Int→Int→AAj→Int→AAh→AAh→Int→AAh→AAh→AAj→Option J1
abbrev Ob:Type:=Int→Int→AAj→Int→AAh→AAh→Int→AAh→AAh→AAj→Option J1
def VK(R6:Qo)(ZA:Ob)(t2:AAg)(t4 t14:Int)(b0:AAj)(Dn:Int)(b2 b3:AAh)(Jx:Int)(b5 b6:AAh)(b7:AAj):Option J1:=
 cond ((decide (t14<(b0.length:Int))))
  ((B4 t2 t14).bind fun u6=>
  cond (!u6.1.1)
   (if(0:Int)≤t14∧t14<(b0.length:Int)then(
   if b7.length+1≤DH then(
   R6 t2 t4 (AX (t14+1)) b0 Dn b2 b3 Jx b5 b6 (b7++[((b0.getD (t14.toNat) ([],[],0,())).1,(b0.getD (t14.toNat) ([],[],0,())).2.1,(b0.getD (t14.toNat) ([],[],0,())).2.2.1,())]))else none)else none)
  (R6 t2 t4 (AX (t14+1)) b0 Dn b2 b3 Jx b5 b6 b7))
 (ZA t4 0 b0 Dn b2 b3 Jx b5 b6 b7)
def T8(R6:Qo)(ZA:Ob)(t4 t15:Int)(b0:AAj)(Dn:Int)(b2 b3:AAh)(Jx:Int)(b5 b6:AAh)(b7:AAj):Option J1:=
 cond ((decide (t15<(b7.length:Int))))
  (if(0:Int)≤t15∧t15<(b7.length:Int)then(
  (EO ((b7.getD (t15.toNat) ([],[],0,())).1,(b7.getD (t15.toNat) ([],[],0,())).2.1,(b7.getD (t15.toNat) ([],[],0,())).2.2.1,())).bind fun u9=>
  cond (!u9.1.1)
   (some (((((),(),Jx,()),false,()),()),(b0,b5,b6,())))
  (ZA t4 (AX (t15+1)) b0 Dn b2 b3 Jx b5 b6 b7))else none)
 ((TF b7).bind fun HK=>
 (EO (HK.2.1,[],t4,())).bind fun Qp=>
 cond (!Qp.1.1)
  (some (((((),(),Jx,()),false,()),()),(b0,b5,b6,())))
 (some (((((),(),t4,()),true,()),()),(b0,HK.2.1,[],()))))
mutual
def KW:Nat→Qo
 |0=>fun _ _ _ _ _ _ _ _ _ _ _=>none
 |n+1=>VK (KW n) (JQ n)
def JQ:Nat→Ob
 |0=>fun _ _ _ _ _ _ _ _ _ _=>none
 |n+1=>T8 (KW n) (JQ n)
end
def VF(R6:Qo)(ZA:Ob)(p0:AAw)(p2:AAg)(p3 p4:Int)(b0:AAj):Option J1:=
 (EJ (p0.1,p0.2.1,())).bind fun u1=>
 cond (!u1.1.1)
  (some (((((),(),0,()),false,()),()),(b0,[],[],())))
 (cond (((b0.length:Int) !=(p0.1.length:Int)))
  (some (((((),(),0,()),false,()),()),(b0,[],[],())))
 ((SL (p0.1,p0.2.1,()) p2).bind fun u3=>
 cond (!u3.1.1)
  (some (((((),(),0,()),false,()),()),(b0,[],[],())))
 ((B4 p2 p3).bind fun u4=>
 cond (!u4.1.1)
  (some (((((),(),0,()),false,()),()),(b0,[],[],())))
 (R6 p2 p4 0 b0 0 [] [] 0 [] [] []))))
def Wf(p0:AAw)(p2:AAg)(p3 p4:Int)(b0:AAj):Option J1:=VF (KW Aa) (JQ Aa) p0 p2 p3 p4 b0
abbrev dT:Type:=ABU×AF1
def QA(BW BX:Int)(As:Bool)(p1:ABI)(b0:AAg)(b1:AAj)(b2:AAg)(b3:AAi)(b4:AAn)(b5:AAt)(b6:AAv)(b7:AAm):Option dT:=
 (B4 b2 p1.2.1).bind fun u1=>
 cond (!u1.1.1)
  (some (((((),BW,(),(),(),BX,(),(),(),(),As,()),2,()),()),(b0,b1,(),b3,b4,b5,b6,b7,b2,())))
 ((DR (AX ((b3.length:Int)-1)) 0).bind fun u3=>
 (Wf (b0,BW,()) b2 p1.2.1 u3.1.1 b1).bind fun u4=>
 cond (!u4.1.1.2.1)
  (some (((((),BW,(),(),(),BX,(),(),(),(),As,()),4,()),()),(b0,u4.2.1,(),b3,b4,b5,b6,b7,b2,())))
 (if(0:Int)≤p1.2.1∧p1.2.1<(u4.2.1.length:Int)then(
 (GM b2 [p1.2.1]).bind fun u6=>
 some (((((),BW,(),(),(),BX,(),(),(),(),As,()),0,()),()),(b0,(u4.2.1.set (p1.2.1.toNat) (u4.2.2.1,u4.2.2.2.1,u4.1.1.1.2.2.1,())),(),b3,b4,b5,b6,b7,u6.2.1,())))else none))
abbrev IP:Type:=ADY×ADd
def I2(p0 p1:Int):Option IP:=
 some (((p1,p0,(),(),false,(),()),()),([],[],[],()))
abbrev Vr:Type:=ABU×(List Int×AAj×List Int×AAi×AAn×Unit×AAv×AAm×AAt×Unit)
def Qd(BW BX:Int)(As:Bool)(b0:AAg)(b1:AAj)(b2:AAg)(b3:AAi)(b4:AAn)(b5:AAt)(b6:AAv)(b7:AAm):Option Vr:=
 (Gn (b3,BX,())).bind fun u1=>
 cond ((decide ((b3.length:Int)<2)))
  (some (((((),BW,(),(),(),BX,(),(),(),(),As,()),2,()),()),(b0,b1,b2,b3,b4,(),b6,b7,b5,())))
 (cond ((u1.1.1==(b3.length:Int)))
  (some (((((),BW,(),(),(),BX,(),(),(),(),As,()),2,()),()),(b0,b1,b2,b3,b4,(),b6,b7,b5,())))
 (cond ((decide ((b5.length:Int)>0)))
  (some (((((),BW,(),(),(),BX,(),(),(),(),As,()),4,()),()),(b0,b1,b2,b3,b4,(),b6,b7,b5,())))
 ((I2 u1.1.1 (b3.length:Int)).bind fun u5=>
 some (((((),BW,(),(),(),BX,(),(),(),(),As,()),0,()),()),(b0,b1,b2,b3,b4,(),b6,b7,[(u5.1.1.1,u5.1.1.2.1,u5.2.1,u5.2.2.1,u5.1.1.2.2.2.2.1,u5.2.2.2.1,())],())))))
abbrev Zx:Type:=ACn×AC2
def KH(p0:ABG)(p1:Int):Option Zx:=
 (EO (p0.1,p0.2.1,p0.2.2.1,())).bind fun u1=>
 cond (!u1.1.1)
  (some (((((),(),0,()),false,()),()),([],[],())))
 ((Gx (p0.1,p0.2.1,p0.2.2.1,())).bind fun u2=>
 cond (!u2.1.1.2.1)
  ((DF (p0.1,p0.2.1,p0.2.2.1,())).bind fun u3=>
  some (((((),(),u3.1.1.2.2.1,()),false,()),()),(u3.2.1,u3.2.2.1,())))
 ((BT p1 0 30).bind fun u4=>
 cond (!u4.1.1)
  ((DF (p0.1,p0.2.1,p0.2.2.1,())).bind fun u5=>
  some (((((),(),u5.1.1.2.2.1,()),false,()),()),(u5.2.1,u5.2.2.1,())))
 ((DR u2.1.1.1.2.2.1 p1).bind fun u6=>
 some (((((),(),u6.1.1,()),true,()),()),(u2.2.1,u2.2.2.1,())))))
abbrev Dm:Type:=ABK×AFw
abbrev Ny:Type:=Int→Int→AAh→AAh→Int→AAh→Option Dm
def K3(R3:Ny)(t1 t6:Int)(AH AJ:AAh)(AR:Int)(b1:AAh):Option Dm:=
 cond ((decide (t6<(AH.length:Int))))
  ((EO (AH,AJ,AR,())).bind fun u2=>
  cond (u2.1.1)
   (if(0:Int)≤t6∧t6<(AH.length:Int)then(
   (Bu ((AH.getD (t6.toNat) (0,0,false,[],())).1)).bind fun u4=>
   cond (u4.1.1==t1)
    (if(0:Int)≤t6∧t6<(AH.length:Int)then(
    if b1.length+1≤DH then(
    R3 t1 (AX (t6+1)) AH AJ AR (b1++[((AH.getD (t6.toNat) (0,0,false,[],())).1,(AH.getD (t6.toNat) (0,0,false,[],())).2.1,(AH.getD (t6.toNat) (0,0,false,[],())).2.2.1,(AH.getD (t6.toNat) (0,0,false,[],())).2.2.2.1,())]))else none)else none)
   (R3 t1 (AX (t6+1)) AH AJ AR b1))else none)
  (some (((),()),(b1,()))))
 (some (((),()),(b1,())))
def GP:Nat→Ny
 |0=>fun _ _ _ _ _ _=>none
 |n+1=>K3 (GP n)
def P3(R3:Ny)(p0:ABG)(p1:Int):Option Dm:=
 R3 p1 0 p0.1 p0.2.1 p0.2.2.1 []
def GD(p0:ABG)(p1:Int):Option Dm:=P3 (GP Aa) p0 p1
abbrev Dp:Type:=AD5×ADd
abbrev OU:Type:=AAh→Int→List Int→Int→Int→Int→List Int→AAh→Bool→List AAg→Int→Int→Bool→List Int→AAh→List AAg→Int→Int→Bool→List Int→AAh→List AAg→Option Dp
def P4(R6:OU)(t3:AAh)(t11:Int)(AH:AAg)(AJ A7 Aq:Int)(Dn:AAg)(JF:AAh)(Nn:Bool)(Du:List AAg)(Iy JX:Int)(MZ:Bool)(b3:AAg)(b4:AAh)(b5:List AAg)(JZ Ig:Int)(Ja:Bool)(b7:AAg)(b8:AAh)(b9:List AAg):Option Dp:=
 cond ((decide (t11<(t3.length:Int))))
  (if(0:Int)≤t11∧t11<(t3.length:Int)then(
  (Bu ((t3.getD (t11.toNat) (0,0,false,[],())).1)).bind fun u6=>
  cond (u6.1.1==Aq)
   (if(0:Int)≤t11∧t11<(t3.length:Int)then(
   (MU b8 ((t3.getD (t11.toNat) (0,0,false,[],())).1,(t3.getD (t11.toNat) (0,0,false,[],())).2.1,(t3.getD (t11.toNat) (0,0,false,[],())).2.2.1,(t3.getD (t11.toNat) (0,0,false,[],())).2.2.2.1,())).bind fun u7=>
   R6 t3 (AX (t11+1)) AH AJ A7 Aq Dn JF Nn Du Iy JX MZ b3 b4 b5 JZ Ig Ja b7 u7.2.1 b9)else none)
  (R6 t3 (AX (t11+1)) AH AJ A7 Aq Dn JF Nn Du Iy JX MZ b3 b4 b5 JZ Ig Ja b7 b8 b9))else none)
 (cond (Nn)
  ((Ck (A7,Aq,Dn,JF,Nn,Du,())).bind fun u8=>
  some ((((u8.1.1.1,u8.1.1.2.1,(),(),u8.1.1.2.2.2.2.1,(),()),false,()),()),(u8.2.1,u8.2.2.1,u8.2.2.2.1,())))
 ((GL (AH,AJ,()) (JZ,Ig,b7,b8,Ja,b9,())).bind fun u9=>
 cond (!u9.1.1)
  ((Ck (A7,Aq,Dn,JF,Nn,Du,())).bind fun HK=>
  some ((((HK.1.1.1,HK.1.1.2.1,(),(),HK.1.1.2.2.2.2.1,(),()),false,()),()),(HK.2.1,HK.2.2.1,HK.2.2.2.1,())))
 (some ((((JZ,Ig,(),(),Ja,(),()),true,()),()),(b7,b8,b9,())))))
def H5:Nat→OU
 |0=>fun _ _ _ _ _ _ _ _ _ _ _ _ _ _ _ _ _ _ _ _ _ _=>none
 |n+1=>P4 (H5 n)
def Ps(R6:OU)(p0:AAw)(p1:AA2)(p2:Int)(p3:AAh):Option Dp:=
 (GL (p0.1,p0.2.1,()) (p1.1,p1.2.1,p1.2.2.1,p1.2.2.2.1,p1.2.2.2.2.1,p1.2.2.2.2.2.1,())).bind fun u1=>
 cond (!u1.1.1)
  (some ((((0,0,(),(),false,(),()),false,()),()),([],[],[],())))
 ((Ck (p1.1,p1.2.1,p1.2.2.1,p1.2.2.2.1,p1.2.2.2.2.1,p1.2.2.2.2.2.1,())).bind fun u2=>
 (Fj u2.2.1 p2).bind fun u3=>
 R6 p3 0 p0.1 p0.2.1 p1.1 p1.2.1 p1.2.2.1 p1.2.2.2.1 p1.2.2.2.2.1 p1.2.2.2.2.2.1 0 0 false [] [] [] u2.1.1.1 u2.1.1.2.1 u2.1.1.2.2.2.2.1 u3.2.1 u2.2.2.1 u2.2.2.2.1)
def GI(p0:AAw)(p1:AA2)(p2:Int)(p3:AAh):Option Dp:=Ps (H5 Aa) p0 p1 p2 p3
abbrev fB:Type:=ABU×ACL
def QM(BW BX:Int)(As:Bool)(p1:ABI)(b0:AAg)(b1:AAj)(b2:AAg)(b3:AAi)(b4:AAn)(b5:AAt)(b6:AAv)(b7:AAm):Option fB:=
 cond (((b5.length:Int)==0))
  (some (((((),BW,(),(),(),BX,(),(),(),(),As,()),2,()),()),(b0,b1,b2,b3,b4,b5,b6,b7,())))
 (if(0:Int)≤(0:Int)∧(0:Int)<(b5.length:Int)then(
 (FD (b0,BW,b1,b2,b3,BX,b4,b5,b6,b7,As,()) p1.2.1).bind fun u2=>
 cond (u2.1.1 !=0)
  (some (((((),BW,(),(),(),BX,(),(),(),(),As,()),u2.1.1,()),()),(b0,b1,b2,b3,b4,b5,b6,b7,())))
 ((Bk (b3,BX,()) ((b5.getD 0 (0,0,[],[],false,[],())).2.1)).bind fun u4=>
 (B4 u4.2.1 p1.2.1).bind fun u5=>
 cond (!u5.1.1)
  (some (((((),BW,(),(),(),BX,(),(),(),(),As,()),2,()),()),(b0,b1,b2,b3,b4,b5,b6,b7,())))
 (if(0:Int)≤p1.2.1∧p1.2.1<(b1.length:Int)then(
 (KH ((b1.getD (p1.2.1.toNat) ([],[],0,())).1,(b1.getD (p1.2.1.toNat) ([],[],0,())).2.1,(b1.getD (p1.2.1.toNat) ([],[],0,())).2.2.1,()) (AX (((b5.getD 0 (0,0,[],[],false,[],())).1)-1))).bind fun u7=>
 (GD (u7.2.1,u7.2.2.1,u7.1.1.1.2.2.1,()) ((b5.getD 0 (0,0,[],[],false,[],())).2.1)).bind fun u9=>
 (GI (b0,BW,()) ((b5.getD 0 (0,0,[],[],false,[],())).1,(b5.getD 0 (0,0,[],[],false,[],())).2.1,(b5.getD 0 (0,0,[],[],false,[],())).2.2.1,(b5.getD 0 (0,0,[],[],false,[],())).2.2.2.1,(b5.getD 0 (0,0,[],[],false,[],())).2.2.2.2.1,(b5.getD 0 (0,0,[],[],false,[],())).2.2.2.2.2.1,()) p1.2.1 u9.2.1).bind fun HK=>
 cond (!u7.1.1.2.1)
  (some (((((),BW,(),(),(),BX,(),(),(),(),As,()),4,()),()),(b0,b1,b2,b3,b4,b5,b6,b7,())))
 (cond (!HK.1.1.2.1)
  (some (((((),BW,(),(),(),BX,(),(),(),(),As,()),4,()),()),(b0,b1,b2,b3,b4,b5,b6,b7,())))
 (if(0:Int)≤p1.2.1∧p1.2.1<(b1.length:Int)then(
 if(0:Int)≤(0:Int)∧(0:Int)<(b5.length:Int)then(
 some (((((),BW,(),(),(),BX,(),(),(),(),As,()),0,()),()),(b0,(b1.set (p1.2.1.toNat) (u7.2.1,u7.2.2.1,u7.1.1.1.2.2.1,())),b2,b3,b4,(b5.set 0 (HK.1.1.1.1,HK.1.1.1.2.1,HK.2.1,HK.2.2.1,HK.1.1.1.2.2.2.2.1,HK.2.2.2.1,())),b6,b7,())))else none)else none)))else none)))else none)
abbrev gS:Type:=ABK×ABL
def HS(p0 p1:AAg):Option gS:=
 (GM p0 p1).bind fun u1=>
 (GM p0 u1.2.1).bind fun u2=>
 some (((),()),(u2.2.1,()))
abbrev fa:Type:=AA4×Unit
def Hd(p0:AAw)(p1 p2:AAg):Option fa:=
 (C7 (p0.1,p0.2.1,()) p1).bind fun u1=>
 cond (!u1.1.1)
  (some ((false,()),()))
 ((ES (p0.1,p0.2.1,()) p2).bind fun u2=>
 cond (!u2.1.1)
  (some ((false,()),()))
 ((GM p2 p1).bind fun u3=>
 cond (decide ((u3.2.1.length:Int)>0))
  (some ((false,()),()))
 ((GM p1 p2).bind fun u5=>
 (Oq (p0.1,p0.2.1,()) u5.2.1).bind fun u6=>
 some (((decide (u6.1.1<p0.2.1)),()),()))))
abbrev Dj:Type:=AD5×ADd
abbrev OA:Type:=Int→Int→Int→List Int→AAh→Bool→List AAg→Int→Int→Bool→List Int→AAh→List AAg→Int→Int→Bool→List Int→AAh→List AAg→Option Dj
def Po(R8:OA)(t9 AH AJ:Int)(AR:AAg)(DD:AAh)(EN:Bool)(Cz:List AAg)(A7 Aq:Int)(Nn:Bool)(b2:AAg)(b3:AAh)(b4:List AAg)(qm qh:Int)(rE:Bool)(b6:AAg)(b7:AAh)(b8:List AAg):Option Dj:=
 (MI (AH,AJ,AR,DD,EN,Cz,())).bind fun u5=>
 cond (decide (t9<u5.1.1))
  (if b8.length+1≤DH then(
  R8 (AX (t9+1)) AH AJ AR DD EN Cz A7 Aq Nn b2 b3 b4 qm qh rE b6 b7 (b8++[[]]))else none)
 (some ((((qm,qh,(),(),rE,(),()),true,()),()),(b6,b7,b8,())))
def IW:Nat→OA
 |0=>fun _ _ _ _ _ _ _ _ _ _ _ _ _ _ _ _ _ _ _=>none
 |n+1=>Po (IW n)
def P1(R8:OA)(p0:AAw)(p1:AA2)(p2:AAg):Option Dj:=
 (GL (p0.1,p0.2.1,()) (p1.1,p1.2.1,p1.2.2.1,p1.2.2.2.1,p1.2.2.2.2.1,p1.2.2.2.2.2.1,())).bind fun u1=>
 cond (!u1.1.1)
  (some ((((0,0,(),(),false,(),()),false,()),()),([],[],[],())))
 ((Ck (p1.1,p1.2.1,p1.2.2.1,p1.2.2.2.1,p1.2.2.2.2.1,p1.2.2.2.2.2.1,())).bind fun u2=>
 cond (p1.2.2.2.2.1)
  (some ((((u2.1.1.1,u2.1.1.2.1,(),(),u2.1.1.2.2.2.2.1,(),()),false,()),()),(u2.2.1,u2.2.2.1,u2.2.2.2.1,())))
 ((HS p1.2.2.1 p2).bind fun u3=>
 (Hd (p0.1,p0.2.1,()) p2 u3.2.1).bind fun u4=>
 cond (!u4.1.1)
  (some ((((u2.1.1.1,u2.1.1.2.1,(),(),u2.1.1.2.2.2.2.1,(),()),false,()),()),(u2.2.1,u2.2.2.1,u2.2.2.2.1,())))
 (R8 0 p1.1 p1.2.1 p1.2.2.1 p1.2.2.2.1 p1.2.2.2.2.1 p1.2.2.2.2.2.1 0 0 false [] [] [] u2.1.1.1 u2.1.1.2.1 true u2.2.1 u2.2.2.1 u2.2.2.2.1)))
def GK(p0:AAw)(p1:AA2)(p2:AAg):Option Dj:=P1 (IW Aa) p0 p1 p2
abbrev cv:Type:=ABU×ACL
def Ql(BW BX:Int)(As:Bool)(b0:AAg)(b1:AAj)(b2:AAg)(b3:AAi)(b4:AAn)(b5:AAt)(b6:AAv)(b7:AAm):Option cv:=
 cond (((b5.length:Int)==0))
  (some (((((),BW,(),(),(),BX,(),(),(),(),As,()),2,()),()),(b0,b1,b2,b3,b4,b5,b6,b7,())))
 (if(0:Int)≤(0:Int)∧(0:Int)<(b5.length:Int)then(
 if(0:Int)≤(0:Int)∧(0:Int)<(b5.length:Int)then(
 (Bk (b3,BX,()) ((b5.getD 0 (0,0,[],[],false,[],())).2.1)).bind fun u3=>
 (GK (b0,BW,()) ((b5.getD 0 (0,0,[],[],false,[],())).1,(b5.getD 0 (0,0,[],[],false,[],())).2.1,(b5.getD 0 (0,0,[],[],false,[],())).2.2.1,(b5.getD 0 (0,0,[],[],false,[],())).2.2.2.1,(b5.getD 0 (0,0,[],[],false,[],())).2.2.2.2.1,(b5.getD 0 (0,0,[],[],false,[],())).2.2.2.2.2.1,()) u3.2.1).bind fun u4=>
 cond (!u4.1.1.2.1)
  (some (((((),BW,(),(),(),BX,(),(),(),(),As,()),4,()),()),(b0,b1,b2,b3,b4,b5,b6,b7,())))
 (if(0:Int)≤(0:Int)∧(0:Int)<(b5.length:Int)then(
 some (((((),BW,(),(),(),BX,(),(),(),(),As,()),0,()),()),(b0,b1,b2,b3,b4,(b5.set 0 (u4.1.1.1.1,u4.1.1.1.2.1,u4.2.1,u4.2.2.1,u4.1.1.1.2.2.2.2.1,u4.2.2.2.1,())),b6,b7,())))else none))else none)else none)
abbrev ft:Type:=ABU×ACL
def Sn(BW BX:Int)(As:Bool)(p1:ABI)(b0:AAg)(b1:AAj)(b2:AAg)(b3:AAi)(b4:AAn)(b5:AAt)(b6:AAv)(b7:AAm):Option ft:=
 cond (((b5.length:Int)==0))
  (some (((((),BW,(),(),(),BX,(),(),(),(),As,()),2,()),()),(b0,b1,b2,b3,b4,b5,b6,b7,())))
 (if(0:Int)≤(0:Int)∧(0:Int)<(b5.length:Int)then(
 (C8 ((b5.getD 0 (0,0,[],[],false,[],())).1,(b5.getD 0 (0,0,[],[],false,[],())).2.1,(b5.getD 0 (0,0,[],[],false,[],())).2.2.1,(b5.getD 0 (0,0,[],[],false,[],())).2.2.2.1,(b5.getD 0 (0,0,[],[],false,[],())).2.2.2.2.1,(b5.getD 0 (0,0,[],[],false,[],())).2.2.2.2.2.1,()) p1.2.2.1).bind fun u2=>
 cond (!u2.1.1.2.1)
  (some (((((),BW,(),(),(),BX,(),(),(),(),As,()),2,()),()),(b0,b1,b2,b3,b4,b5,b6,b7,())))
 ((FD (b0,BW,b1,b2,b3,BX,b4,b5,b6,b7,As,()) p1.2.2.2.1).bind fun u3=>
 cond (u3.1.1 !=0)
  (some (((((),BW,(),(),(),BX,(),(),(),(),As,()),u3.1.1,()),()),(b0,b1,b2,b3,b4,b5,b6,b7,())))
 (if(0:Int)≤(0:Int)∧(0:Int)<(b5.length:Int)then(
 (Bk (b3,BX,()) ((b5.getD 0 (0,0,[],[],false,[],())).2.1)).bind fun u5=>
 (B4 u5.2.1 p1.2.2.2.1).bind fun u6=>
 cond (!u6.1.1)
  (some (((((),BW,(),(),(),BX,(),(),(),(),As,()),2,()),()),(b0,b1,b2,b3,b4,b5,b6,b7,())))
 (if(0:Int)≤p1.2.2.2.1∧p1.2.2.2.1<(b1.length:Int)then(
 (JT ((b1.getD (p1.2.2.2.1.toNat) ([],[],0,())).1,(b1.getD (p1.2.2.2.1.toNat) ([],[],0,())).2.1,(b1.getD (p1.2.2.2.1.toNat) ([],[],0,())).2.2.1,()) (u2.1.1.1.1,u2.1.1.1.2.1,u2.1.1.1.2.2.1,u2.1.1.1.2.2.2.1,())).bind fun u7=>
 cond (!u7.1.1.2.1)
  (some (((((),BW,(),(),(),BX,(),(),(),(),As,()),4,()),()),(b0,b1,b2,b3,b4,b5,b6,b7,())))
 (if(0:Int)≤p1.2.2.2.1∧p1.2.2.2.1<(b1.length:Int)then(
 some (((((),BW,(),(),(),BX,(),(),(),(),As,()),0,()),()),(b0,(b1.set (p1.2.2.2.1.toNat) (u7.2.1,u7.2.2.1,u7.1.1.1.2.2.1,())),b2,b3,b4,b5,b6,b7,())))else none))else none))else none)))else none)
abbrev KV:Type:=AA4×Unit
abbrev Nb:Type:=Int→List Int→Int→Int→Int→List Int→AAh→Bool→List AAg→Option KV
def PN(R4:Nb)(t5:Int)(AH:AAg)(AJ A7 Aq:Int)(Dn:AAg)(JF:AAh)(Nn:Bool)(Du:List AAg):Option KV:=
 cond ((decide (t5<(Du.length:Int))))
  (if(0:Int)≤t5∧t5<(Du.length:Int)then(
  (C7 (AH,AJ,()) (Du.getD (t5.toNat) [])).bind fun u3=>
  cond (!u3.1.1)
   (some ((false,()),()))
  (R4 (AX (t5+1)) AH AJ A7 Aq Dn JF Nn Du))else none)
 (some ((true,()),()))
def HU:Nat→Nb
 |0=>fun _ _ _ _ _ _ _ _ _=>none
 |n+1=>PN (HU n)
def O0(R4:Nb)(p0:AAw)(p1:AA2):Option KV:=
 (GL (p0.1,p0.2.1,()) (p1.1,p1.2.1,p1.2.2.1,p1.2.2.2.1,p1.2.2.2.2.1,p1.2.2.2.2.2.1,())).bind fun u1=>
 cond (!u1.1.1)
  (some ((false,()),()))
 (cond (!p1.2.2.2.2.1)
  (some ((false,()),()))
 (R4 0 p0.1 p0.2.1 p1.1 p1.2.1 p1.2.2.1 p1.2.2.2.1 p1.2.2.2.2.1 p1.2.2.2.2.2.1))
def NC(p0:AAw)(p1:AA2):Option KV:=O0 (HU Aa) p0 p1
abbrev bn:Type:=AFy×AFF
def LO(p0:AAw)(p1:ABB)(p2 p3:Int):Option bn:=
 (I9 (p0.1,p0.2.1,()) (p1.1,p1.2.1,())).bind fun u1=>
 cond (!u1.1.1)
  (some (((((),0,()),false,()),()),([],())))
 ((Dx (p1.1,p1.2.1,())).bind fun u2=>
 (Gn (p1.1,p1.2.1,())).bind fun u3=>
 cond ((p2 !=(p1.1.length:Int)))
  (some (((((),u2.1.1.2.1,()),false,()),()),(u2.2.1,())))
 (cond (u3.1.1==0)
  (some (((((),u2.1.1.2.1,()),false,()),()),(u2.2.1,())))
 (cond (p2==u3.1.1)
  (some (((((),u2.1.1.2.1,()),false,()),()),(u2.2.1,())))
 ((BT p3 0 60).bind fun u5=>
 cond (!u5.1.1)
  (some (((((),u2.1.1.2.1,()),false,()),()),(u2.2.1,())))
 (if(0:Int)≤AX (u3.1.1-1)∧AX (u3.1.1-1)<(u2.2.1.length:Int)then(
 let x6:AAi:=(u2.2.1.set ((AX (u3.1.1-1)).toNat) ((u2.2.1.getD ((AX (u3.1.1-1)).toNat) ([],false,0,())).1,true,(u2.2.1.getD ((AX (u3.1.1-1)).toNat) ([],false,0,())).2.2.1,()))
 if(0:Int)≤AX (u3.1.1-1)∧AX (u3.1.1-1)<(x6.length:Int)then(
 some (((((),u2.1.1.2.1,()),true,()),()),((x6.set ((AX (u3.1.1-1)).toNat) ((x6.getD ((AX (u3.1.1-1)).toNat) ([],false,0,())).1,(x6.getD ((AX (u3.1.1-1)).toNat) ([],false,0,())).2.1,p3,())),())))else none)else none)))))
abbrev VU:Type:=ABU×(List Int×AAj×List Int×Unit×AAn×Unit×AAv×AAm×AAi×AAt×Unit)
def On(BW BX:Int)(As:Bool)(b0:AAg)(b1:AAj)(b2:AAg)(b3:AAi)(b4:AAn)(b5:AAt)(b6:AAv)(b7:AAm):Option VU:=
 cond (((b5.length:Int)==0))
  (some (((((),BW,(),(),(),BX,(),(),(),(),As,()),2,()),()),(b0,b1,b2,(),b4,(),b6,b7,b3,b5,())))
 (if(0:Int)≤(0:Int)∧(0:Int)<(b5.length:Int)then(
 (NC (b0,BW,()) ((b5.getD 0 (0,0,[],[],false,[],())).1,(b5.getD 0 (0,0,[],[],false,[],())).2.1,(b5.getD 0 (0,0,[],[],false,[],())).2.2.1,(b5.getD 0 (0,0,[],[],false,[],())).2.2.2.1,(b5.getD 0 (0,0,[],[],false,[],())).2.2.2.2.1,(b5.getD 0 (0,0,[],[],false,[],())).2.2.2.2.2.1,())).bind fun u2=>
 cond (!u2.1.1)
  (some (((((),BW,(),(),(),BX,(),(),(),(),As,()),5,()),()),(b0,b1,b2,(),b4,(),b6,b7,b3,b5,())))
 (if(0:Int)≤(0:Int)∧(0:Int)<(b5.length:Int)then(
 if(0:Int)≤(0:Int)∧(0:Int)<(b5.length:Int)then(
 (LO (b0,BW,()) (b3,BX,()) ((b5.getD 0 (0,0,[],[],false,[],())).1) (((b5.getD 0 (0,0,[],[],false,[],())).2.2.2.2.2.1).length:Int)).bind fun u5=>
 cond (!u5.1.1.2.1)
  (some (((((),BW,(),(),(),BX,(),(),(),(),As,()),4,()),()),(b0,b1,b2,(),b4,(),b6,b7,b3,b5,())))
 (some (((((),BW,(),(),(),u5.1.1.1.2.1,(),(),(),(),As,()),0,()),()),(b0,b1,b2,(),b4,(),b6,b7,u5.2.1,[],()))))else none)else none))else none)
abbrev eQ:Type:=AFy×AFF
def Mh(p0:AAw)(p1:ABB)(p2:Int):Option eQ:=
 (I9 (p0.1,p0.2.1,()) (p1.1,p1.2.1,())).bind fun u1=>
 cond (!u1.1.1)
  (some (((((),0,()),false,()),()),([],())))
 ((Dx (p1.1,p1.2.1,())).bind fun u2=>
 (E8 p2).bind fun u3=>
 cond (!u3.1.1)
  (some (((((),u2.1.1.2.1,()),false,()),()),(u2.2.1,())))
 ((Bu p2).bind fun u4=>
 cond ((decide (u4.1.1>(p1.1.length:Int))))
  (some (((((),u2.1.1.2.1,()),false,()),()),(u2.2.1,())))
 ((DR u2.1.1.2.1 p2).bind fun u6=>
 some (((((),u6.1.1,()),true,()),()),(u2.2.1,())))))
abbrev Jk:Type:=ABD×Unit
abbrev Lo:Type:=Int→Int→AA9→Option Jk
def Nv(R2:Lo)(t3 AH:Int)(AJ:AA9):Option Jk:=
 cond ((decide (t3<(AJ.length:Int))))
  (if(0:Int)≤t3∧t3<(AJ.length:Int)then(
  cond (((AJ.getD (t3.toNat) ([],[],false,())).2.2.1))
   (R2 (AX (t3+1)) AH AJ)
  (some ((t3,()),())))else none)
 (some ((t3,()),()))
def Gg:Nat→Lo
 |0=>fun _ _ _=>none
 |n+1=>Nv (Gg n)
def Vb(R2:Lo)(p0:ABE):Option Jk:=
 R2 0 p0.1 p0.2.1
def Pe(p0:ABE):Option Jk:=Vb (Gg Aa) p0
abbrev Oj:Type:=ABD×Unit
abbrev Q6:Type:=Int→Int→List Int→Int→AAj→List Int→AAi→Int→AAn→AAt→AAv→AAm→Bool→Option Oj
def SA(R2:Q6)(t1 t5:Int)(AH:AAg)(AJ:Int)(AR:AAj)(DD:AAg)(EN:AAi)(Cz:Int)(C3:AAn)(Cq:AAt)(Ea:AAv)(Db:AAm)(CS:Bool):Option Oj:=
 cond ((decide (t5<(C3.length:Int))))
  (if(0:Int)≤t5∧t5<(C3.length:Int)then(
  cond (((C3.getD (t5.toNat) (0,[],())).1)==t1)
   (if(0:Int)≤t5∧t5<(C3.length:Int)then(
   (Pe ((C3.getD (t5.toNat) (0,[],())).1,(C3.getD (t5.toNat) (0,[],())).2.1,())).bind fun u3=>
   some ((u3.1.1,()),()))else none)
  (R2 t1 (AX (t5+1)) AH AJ AR DD EN Cz C3 Cq Ea Db CS))else none)
 (some ((0,()),()))
def KJ:Nat→Q6
 |0=>fun _ _ _ _ _ _ _ _ _ _ _ _ _=>none
 |n+1=>SA (KJ n)
def Yw(R2:Q6)(p0:AA7)(p1:Int):Option Oj:=
 R2 p1 0 p0.1 p0.2.1 p0.2.2.1 p0.2.2.2.1 p0.2.2.2.2.1 p0.2.2.2.2.2.1 p0.2.2.2.2.2.2.1 p0.2.2.2.2.2.2.2.1 p0.2.2.2.2.2.2.2.2.1 p0.2.2.2.2.2.2.2.2.2.1 p0.2.2.2.2.2.2.2.2.2.2.1
def Vn(p0:AA7)(p1:Int):Option Oj:=Yw (KJ Aa) p0 p1
abbrev Jq:Type:=ABK×(ACh×Unit)
abbrev Lw:Type:=Int→List Int→Int→AAj→List Int→AAi→Int→AAn→AAt→AAv→AAm→Bool→Int→Int→ACm→ACh→List Int→Option Jq
def Nw(R4:Lw)(t9:Int)(AH:AAg)(AJ:Int)(AR:AAj)(DD:AAg)(EN:AAi)(Cz:Int)(C3:AAn)(Cq:AAt)(Ea:AAv)(Db:AAm)(CS:Bool)(A7 Aq:Int)(Dn:ACm)(b2:ACh)(b3:AAg):Option Jq:=
 cond ((decide (t9<(b3.length:Int))))
  (if(0:Int)≤t9∧t9<(b3.length:Int)then(
  (FD (AH,AJ,AR,DD,EN,Cz,C3,Cq,Ea,Db,CS,()) (b3.getD (t9.toNat) 0)).bind fun u4=>
  cond (u4.1.1 !=0)
   (R4 (AX (t9+1)) AH AJ AR DD EN Cz C3 Cq Ea Db CS A7 Aq Dn b2 b3)
  (if(0:Int)≤t9∧t9<(b3.length:Int)then(
  let x5:Int:=(b3.getD (t9.toNat) 0)
  if(0:Int)≤x5∧x5<(AR.length:Int)then(
  (Bl A7 Aq).bind fun u6=>
  (E4 ((AR.getD (x5.toNat) ([],[],0,())).1) u6.1.1).bind fun u7=>
  if(0:Int)≤t9∧t9<(b3.length:Int)then(
  if b2.length+1≤DH then(
  R4 (AX (t9+1)) AH AJ AR DD EN Cz C3 Cq Ea Db CS A7 Aq Dn (b2++[((b3.getD (t9.toNat) 0),u7.1.1.2.1,u7.1.1.1.1,u7.1.1.1.2.1,u7.1.1.1.2.2.1,u7.1.1.1.2.2.2.1,())]) b3)else none)else none)else none)else none))else none)
 (some (((),()),(b2,())))
def Gl:Nat→Lw
 |0=>fun _ _ _ _ _ _ _ _ _ _ _ _ _ _ _ _ _=>none
 |n+1=>Nw (Gl n)
def Nr(R4:Lw)(p0:AA7)(p1:ABk)(p2:Int):Option Jq:=
 (KK p2).bind fun u1=>
 R4 0 p0.1 p0.2.1 p0.2.2.1 p0.2.2.2.1 p0.2.2.2.2.1 p0.2.2.2.2.2.1 p0.2.2.2.2.2.2.1 p0.2.2.2.2.2.2.2.1 p0.2.2.2.2.2.2.2.2.1 p0.2.2.2.2.2.2.2.2.2.1 p0.2.2.2.2.2.2.2.2.2.2.1 p1.1 p1.2.1 p1.2.2.1 [] u1.2.1
def Ll(p0:AA7)(p1:ABk)(p2:Int):Option Jq:=Nr (Gl Aa) p0 p1 p2
abbrev Ld:Type:=((Unit×Bool×Unit)×Unit)×ABL
abbrev N6:Type:=ACh→Int→List Int→Int→List Int→Option Ld
def Pv(R3:N6)(t1:ACh)(t7:Int)(AH:AAg)(AJ:Int)(b1:AAg):Option Ld:=
 cond ((decide (t7<(t1.length:Int))))
  (if(0:Int)≤t7∧t7<(t1.length:Int)then(
  if b1.length+1≤DH then(
  R3 t1 (AX (t7+1)) AH AJ (b1++[((t1.getD (t7.toNat) (0,false,0,0,false,[],())).1)]))else none)else none)
 ((ES (AH,AJ,()) b1).bind fun u3=>
 some ((((),u3.1.1,()),()),(b1,())))
def ID:Nat→N6
 |0=>fun _ _ _ _ _=>none
 |n+1=>Pv (ID n)
def W6(R3:N6)(p0:AAw)(p1:ACh):Option Ld:=
 R3 p1 0 p0.1 p0.2.1 []
def S2(p0:AAw)(p1:ACh):Option Ld:=W6 (ID Aa) p0 p1
abbrev dU:Type:=ADj×AEP
def GB(p0:ABk)(p1:AFk)(p2 p3:Int):Option dU:=
 (BZ (p0.1,p0.2.1,p0.2.2.1,())).bind fun u1=>
 if u1.2.1.length+1≤DH then(
 some (((p2,p3,(),()),()),((u1.2.1++[(p1.1,p1.2.1,p1.2.2.1,())]),())))else none
abbrev NG:Type:=(AFk×Unit)×Unit
abbrev Pk:Type:=List Int→Int→ACh→Bool→Int→Int→Int→List UInt8→Int→Int→Bool→List UInt8→Option NG
def Rj(R4:Pk)(t0:AAg)(t1:Int)(t2:ACh)(t8:Bool)(t9 AH AJ:Int)(AR:AA_)(A7 Aq:Int)(Dn:Bool)(JF:AA_):Option NG:=
 cond ((decide (t9<(t2.length:Int))))
  (if(0:Int)≤t9∧t9<(t2.length:Int)then(
  cond (!((t2.getD (t9.toNat) (0,false,0,0,false,[],())).2.1))
   (R4 t0 t1 t2 t8 (AX (t9+1)) AH AJ AR A7 Aq Dn JF)
  ((B4 t0 ((t2.getD (t9.toNat) (0,false,0,0,false,[],())).1)).bind fun u4=>
  cond (!u4.1.1)
   (R4 t0 t1 t2 t8 (AX (t9+1)) AH AJ AR A7 Aq Dn JF)
  ((Ix ((t2.getD (t9.toNat) (0,false,0,0,false,[],())).2.2.1,(t2.getD (t9.toNat) (0,false,0,0,false,[],())).2.2.2.1,(t2.getD (t9.toNat) (0,false,0,0,false,[],())).2.2.2.2.1,(t2.getD (t9.toNat) (0,false,0,0,false,[],())).2.2.2.2.2.1,())).bind fun u5=>
  cond (!u5.1.1)
   (R4 t0 t1 t2 t8 (AX (t9+1)) AH AJ AR A7 Aq Dn JF)
  (cond (((t2.getD (t9.toNat) (0,false,0,0,false,[],())).2.2.1) !=t1)
   (R4 t0 t1 t2 t8 (AX (t9+1)) AH AJ AR A7 Aq Dn JF)
  (cond (!t8)
   ((MJ ((t2.getD (t9.toNat) (0,false,0,0,false,[],())).2.2.1,(t2.getD (t9.toNat) (0,false,0,0,false,[],())).2.2.2.1,(t2.getD (t9.toNat) (0,false,0,0,false,[],())).2.2.2.2.1,(t2.getD (t9.toNat) (0,false,0,0,false,[],())).2.2.2.2.2.1,()) ((t2.getD (t9.toNat) (0,false,0,0,false,[],())).2.2.1,(t2.getD (t9.toNat) (0,false,0,0,false,[],())).2.2.2.1,(t2.getD (t9.toNat) (0,false,0,0,false,[],())).2.2.2.2.1,(t2.getD (t9.toNat) (0,false,0,0,false,[],())).2.2.2.2.2.1,())).bind fun u7=>
   R4 t0 t1 t2 true (AX (t9+1)) AH AJ AR u7.1.1.1 u7.1.1.2.1 u7.1.1.2.2.1 u7.1.1.2.2.2.1)
  ((MJ (A7,Aq,Dn,JF,()) ((t2.getD (t9.toNat) (0,false,0,0,false,[],())).2.2.1,(t2.getD (t9.toNat) (0,false,0,0,false,[],())).2.2.2.1,(t2.getD (t9.toNat) (0,false,0,0,false,[],())).2.2.2.2.1,(t2.getD (t9.toNat) (0,false,0,0,false,[],())).2.2.2.2.2.1,())).bind fun u8=>
  R4 t0 t1 t2 true (AX (t9+1)) AH AJ AR u8.1.1.1 u8.1.1.2.1 u8.1.1.2.2.1 u8.1.1.2.2.2.1))))))else none)
 (cond (!t8)
  (some (((3,t1,[],()),()),()))
 (cond (Dn)
  (some (((2,t1,[],()),()),()))
 (some (((1,t1,JF,()),()),()))))
def JI:Nat→Pk
 |0=>fun _ _ _ _ _ _ _ _ _ _ _ _=>none
 |n+1=>Rj (JI n)
def YA(R4:Pk)(p0:AAg)(p1:Int)(p2:ACh):Option NG:=
 R4 p0 p1 p2 false 0 0 0 [] 0 0 false []
def Iu(p0:AAg)(p1:Int)(p2:ACh):Option NG:=YA (JI Aa) p0 p1 p2
abbrev Rz:Type:=((AF2×Int×Unit)×Unit)×AEP
def Lg(p0:AAw)(p1:ABB)(p2:Int)(p3:ABk)(p4:ACh):Option Rz:=
 (S2 (p0.1,p0.2.1,()) p4).bind fun u1=>
 (I9 (p0.1,p0.2.1,()) (p1.1,p1.2.1,())).bind fun u2=>
 cond (!u2.1.1)
  (some ((((0,0,(),()),1,()),()),([],())))
 ((JO (p3.1,p3.2.1,p3.2.2.1,())).bind fun u3=>
 cond (!u3.1.1)
  (some ((((0,0,(),()),1,()),()),([],())))
 (cond (!u1.1.1.2.1)
  (some ((((0,0,(),()),1,()),()),([],())))
 (cond ((decide (p3.1>(p1.1.length:Int))))
  ((BZ (p3.1,p3.2.1,p3.2.2.1,())).bind fun u5=>
  some ((((u5.1.1.1,u5.1.1.2.1,(),()),2,()),()),(u5.2.1,())))
 (cond ((p3.2.2.1.length:Int)==120)
  ((BZ (p3.1,p3.2.1,p3.2.2.1,())).bind fun u7=>
  some ((((u7.1.1.1,u7.1.1.2.1,(),()),2,()),()),(u7.2.1,())))
 (if(0:Int)≤AX (p3.1-1)∧AX (p3.1-1)<(p1.1.length:Int)then(
 (Bl p3.1 p3.2.1).bind fun u8=>
 cond ((decide (p1.2.1≥u8.1.1)))
  ((Bu p1.2.1).bind fun HK=>
  (Ez p1.2.1).bind fun Qp=>
  (GB (p3.1,p3.2.1,p3.2.2.1,()) (5,p1.2.1,[],()) HK.1.1 (AX (Qp.1.1+1))).bind fun Cj=>
  some ((((Cj.1.1.1,Cj.1.1.2.1,(),()),0,()),()),(Cj.2.1,())))
 (cond (((p1.1.getD ((AX (p3.1-1)).toNat) ([],false,0,())).2.1))
  (cond ((decide (p3.2.1>((p1.1.getD ((AX (p3.1-1)).toNat) ([],false,0,())).2.2.1))))
   ((GB (p3.1,p3.2.1,p3.2.2.1,()) (4,AX (p3.1+1),[],()) (AX (p3.1+1)) 1).bind fun u16=>
   some ((((u16.1.1.1,u16.1.1.2.1,(),()),0,()),()),(u16.2.1,())))
  (cond (!((p1.1.getD ((AX (p3.1-1)).toNat) ([],false,0,())).2.1))
   (cond (decide (p3.2.1>p2))
    ((BZ (p3.1,p3.2.1,p3.2.2.1,())).bind fun Ru=>
    some ((((Ru.1.1.1,Ru.1.1.2.1,(),()),2,()),()),(Ru.2.1,())))
   (cond (decide (p3.2.1>60))
    ((BZ (p3.1,p3.2.1,p3.2.2.1,())).bind fun X1=>
    some ((((X1.1.1.1,X1.1.1.2.1,(),()),2,()),()),(X1.2.1,())))
   ((HS u1.2.1 ((p1.1.getD ((AX (p3.1-1)).toNat) ([],false,0,())).1)).bind fun Ot=>
   (Hd (p0.1,p0.2.1,()) ((p1.1.getD ((AX (p3.1-1)).toNat) ([],false,0,())).1) Ot.2.1).bind fun cI=>
   cond (!cI.1.1)
    ((BZ (p3.1,p3.2.1,p3.2.2.1,())).bind fun s_=>
    some ((((s_.1.1.1,s_.1.1.2.1,(),()),3,()),()),(s_.2.1,())))
   ((Iu ((p1.1.getD ((AX (p3.1-1)).toNat) ([],false,0,())).1) u8.1.1 p4).bind fun S7=>
   (GB (p3.1,p3.2.1,p3.2.2.1,()) (S7.1.1.1,S7.1.1.2.1,S7.1.1.2.2.1,()) p3.1 (AX (p3.2.1+1))).bind fun I_=>
   some ((((I_.1.1.1,I_.1.1.2.1,(),()),0,()),()),(I_.2.1,()))))))
  (cond (decide (p3.2.1>60))
   ((BZ (p3.1,p3.2.1,p3.2.2.1,())).bind fun Yf=>
   some ((((Yf.1.1.1,Yf.1.1.2.1,(),()),2,()),()),(Yf.2.1,())))
  ((HS u1.2.1 ((p1.1.getD ((AX (p3.1-1)).toNat) ([],false,0,())).1)).bind fun YI=>
  (Hd (p0.1,p0.2.1,()) ((p1.1.getD ((AX (p3.1-1)).toNat) ([],false,0,())).1) YI.2.1).bind fun Yx=>
  cond (!Yx.1.1)
   ((BZ (p3.1,p3.2.1,p3.2.2.1,())).bind fun OH=>
   some ((((OH.1.1.1,OH.1.1.2.1,(),()),3,()),()),(OH.2.1,())))
  ((Iu ((p1.1.getD ((AX (p3.1-1)).toNat) ([],false,0,())).1) u8.1.1 p4).bind fun V6=>
  (GB (p3.1,p3.2.1,p3.2.2.1,()) (V6.1.1.1,V6.1.1.2.1,V6.1.1.2.2.1,()) p3.1 (AX (p3.2.1+1))).bind fun fq=>
  some ((((fq.1.1.1,fq.1.1.2.1,(),()),0,()),()),(fq.2.1,())))))))
 (cond (!((p1.1.getD ((AX (p3.1-1)).toNat) ([],false,0,())).2.1))
  (cond (decide (p3.2.1>p2))
   ((BZ (p3.1,p3.2.1,p3.2.2.1,())).bind fun u32=>
   some ((((u32.1.1.1,u32.1.1.2.1,(),()),2,()),()),(u32.2.1,())))
  (cond (decide (p3.2.1>60))
   ((BZ (p3.1,p3.2.1,p3.2.2.1,())).bind fun U5=>
   some ((((U5.1.1.1,U5.1.1.2.1,(),()),2,()),()),(U5.2.1,())))
  ((HS u1.2.1 ((p1.1.getD ((AX (p3.1-1)).toNat) ([],false,0,())).1)).bind fun u34=>
  (Hd (p0.1,p0.2.1,()) ((p1.1.getD ((AX (p3.1-1)).toNat) ([],false,0,())).1) u34.2.1).bind fun u35=>
  cond (!u35.1.1)
   ((BZ (p3.1,p3.2.1,p3.2.2.1,())).bind fun u36=>
   some ((((u36.1.1.1,u36.1.1.2.1,(),()),3,()),()),(u36.2.1,())))
  ((Iu ((p1.1.getD ((AX (p3.1-1)).toNat) ([],false,0,())).1) u8.1.1 p4).bind fun q_=>
  (GB (p3.1,p3.2.1,p3.2.2.1,()) (q_.1.1.1,q_.1.1.2.1,q_.1.1.2.2.1,()) p3.1 (AX (p3.2.1+1))).bind fun u38=>
  some ((((u38.1.1.1,u38.1.1.2.1,(),()),0,()),()),(u38.2.1,()))))))
 (cond (decide (p3.2.1>60))
  ((BZ (p3.1,p3.2.1,p3.2.2.1,())).bind fun ae=>
  some ((((ae.1.1.1,ae.1.1.2.1,(),()),2,()),()),(ae.2.1,())))
 ((HS u1.2.1 ((p1.1.getD ((AX (p3.1-1)).toNat) ([],false,0,())).1)).bind fun u40=>
 (Hd (p0.1,p0.2.1,()) ((p1.1.getD ((AX (p3.1-1)).toNat) ([],false,0,())).1) u40.2.1).bind fun u41=>
 cond (!u41.1.1)
  ((BZ (p3.1,p3.2.1,p3.2.2.1,())).bind fun u42=>
  some ((((u42.1.1.1,u42.1.1.2.1,(),()),3,()),()),(u42.2.1,())))
 ((Iu ((p1.1.getD ((AX (p3.1-1)).toNat) ([],false,0,())).1) u8.1.1 p4).bind fun u43=>
 (GB (p3.1,p3.2.1,p3.2.2.1,()) (u43.1.1.1,u43.1.1.2.1,u43.1.1.2.2.1,()) p3.1 (AX (p3.2.1+1))).bind fun u44=>
 some ((((u44.1.1.1,u44.1.1.2.1,(),()),0,()),()),(u44.2.1,()))))))))else none)))))
abbrev dy:Type:=ABU×ACL
def QI(BW BX:Int)(As:Bool)(p1:ABI)(b0:AAg)(b1:AAj)(b2:AAg)(b3:AAi)(b4:AAn)(b5:AAt)(b6:AAv)(b7:AAm):Option dy:=
 (BT p1.2.1 0 1).bind fun u1=>
 cond (!u1.1.1)
  (some (((((),BW,(),(),(),BX,(),(),(),(),As,()),2,()),()),(b0,b1,b2,b3,b4,b5,b6,b7,())))
 (if(0:Int)≤p1.2.1∧p1.2.1<(b6.length:Int)then(
 if(0:Int)≤p1.2.1∧p1.2.1<(b6.length:Int)then(
 if(0:Int)≤p1.2.1∧p1.2.1<(b6.length:Int)then(
 (Vn (b0,BW,b1,b2,b3,BX,b4,b5,b6,b7,As,()) ((b6.getD (p1.2.1.toNat) (0,0,[],())).1)).bind fun u3=>
 (Ll (b0,BW,b1,b2,b3,BX,b4,b5,b6,b7,As,()) ((b6.getD (p1.2.1.toNat) (0,0,[],())).1,(b6.getD (p1.2.1.toNat) (0,0,[],())).2.1,(b6.getD (p1.2.1.toNat) (0,0,[],())).2.2.1,()) p1.2.2.1).bind fun u4=>
 (Lg (b0,BW,()) (b3,BX,()) u3.1.1 ((b6.getD (p1.2.1.toNat) (0,0,[],())).1,(b6.getD (p1.2.1.toNat) (0,0,[],())).2.1,(b6.getD (p1.2.1.toNat) (0,0,[],())).2.2.1,()) u4.2.1).bind fun u5=>
 cond (u5.1.1.2.1 !=0)
  (some (((((),BW,(),(),(),BX,(),(),(),(),As,()),5,()),()),(b0,b1,b2,b3,b4,b5,b6,b7,())))
 (if(0:Int)≤p1.2.1∧p1.2.1<(b6.length:Int)then(
 some (((((),BW,(),(),(),BX,(),(),(),(),As,()),0,()),()),(b0,b1,b2,b3,b4,b5,(b6.set (p1.2.1.toNat) (u5.1.1.1.1,u5.1.1.1.2.1,u5.2.1,())),b7,())))else none))else none)else none)else none)
abbrev KM:Type:=ABU×(List Int×AAj×List Int×AAi×Unit×AAt×AAv×AAm×AAn×Unit)
abbrev Pl:Type:=Int→List Int→AAj→List Int→AAi→AAn→AAt→AAv→AAm→Int→Int→Bool→Int→Int→Int→Int→List UInt8→Int→Int→Bool→List Int→AAj→List Int→AAi→AAn→AAt→AAv→AAm→AAn→Option KM
def Qz(R5:Pl)(t7:Int)(b0:AAg)(b1:AAj)(b2:AAg)(b3:AAi)(b4:AAn)(b5:AAt)(b6:AAv)(b7:AAm)(CQ CY:Int)(BV:Bool)(AHg DX AIn AIP:Int)(AGG:AA_)(De E6:Int)(Cy:Bool)(F9:AAg)(Df:AAj)(Fh:AAg)(Fb:AAi)(D_:AAn)(ET:AAt)(Eo:AAv)(Td:AAm)(jN:AAn):Option KM:=
 cond ((decide (t7<(b4.length:Int))))
  (cond (t7 !=DX)
   (if(0:Int)≤t7∧t7<(b4.length:Int)then(
   if jN.length+1≤DH then(
   R5 (AX (t7+1)) b0 b1 b2 b3 b4 b5 b6 b7 CQ CY BV AHg DX AIn AIP AGG De E6 Cy F9 Df Fh Fb D_ ET Eo Td (jN++[((b4.getD (t7.toNat) (0,[],())).1,(b4.getD (t7.toNat) (0,[],())).2.1,())]))else none)else none)
  (R5 (AX (t7+1)) b0 b1 b2 b3 b4 b5 b6 b7 CQ CY BV AHg DX AIn AIP AGG De E6 Cy F9 Df Fh Fb D_ ET Eo Td jN))
 (some (((((),CQ,(),(),(),CY,(),(),(),(),BV,()),0,()),()),(b0,b1,b2,b3,(),b5,b6,b7,jN,())))
def JB:Nat→Pl
 |0=>fun _ _ _ _ _ _ _ _ _ _ _ _ _ _ _ _ _ _ _ _ _ _ _ _ _ _ _ _ _=>none
 |n+1=>Qz (JB n)
def RC(R5:Pl)(BW BX:Int)(As:Bool)(p1:ABI)(b0:AAg)(b1:AAj)(b2:AAg)(b3:AAi)(b4:AAn)(b5:AAt)(b6:AAv)(b7:AAm):Option KM:=
 (IG (b0,BW,b1,b2,b3,BX,b4,b5,b6,b7,As,()) p1.2.1).bind fun u1=>
 cond (!u1.1.1)
  (some (((((),BW,(),(),(),BX,(),(),(),(),As,()),2,()),()),(b0,b1,b2,b3,(),b5,b6,b7,b4,())))
 (R5 0 b0 b1 b2 b3 b4 b5 b6 b7 BW BX As p1.1 p1.2.1 p1.2.2.1 p1.2.2.2.1 p1.2.2.2.2.1 0 0 false [] [] [] [] [] [] [] [] [])
def QS(BW BX:Int)(As:Bool)(p1:ABI)(b0:AAg)(b1:AAj)(b2:AAg)(b3:AAi)(b4:AAn)(b5:AAt)(b6:AAv)(b7:AAm):Option KM:=RC (JB Aa) BW BX As p1 b0 b1 b2 b3 b4 b5 b6 b7
abbrev KX:Type:=ACn×AC2
abbrev Mu:Type:=Int→Int→AAh→AAh→Int→Int→AAh→AAh→Int→AAh→AAh→Option KX
def PJ(R8:Mu)(t1 t7:Int)(AH AJ:AAh)(AR Dn:Int)(b2 b3:AAh)(Jx:Int)(b5 b6:AAh):Option KX:=
 cond ((decide (t7<(AH.length:Int))))
  (if(0:Int)≤t7∧t7<(AH.length:Int)then(
  cond (decide (((AH.getD (t7.toNat) (0,0,false,[],())).1)>t1))
   (if(0:Int)≤t7∧t7<(AH.length:Int)then(
   if b5.length+1≤DH then(
   R8 t1 (AX (t7+1)) AH AJ AR Dn b2 b3 Jx (b5++[((AH.getD (t7.toNat) (0,0,false,[],())).1,(AH.getD (t7.toNat) (0,0,false,[],())).2.1,(AH.getD (t7.toNat) (0,0,false,[],())).2.2.1,(AH.getD (t7.toNat) (0,0,false,[],())).2.2.2.1,())]) b6)else none)else none)
  (R8 t1 (AX (t7+1)) AH AJ AR Dn b2 b3 Jx b5 b6))else none)
 (some (((((),(),Jx,()),true,()),()),(b5,b6,())))
def HX:Nat→Mu
 |0=>fun _ _ _ _ _ _ _ _ _ _ _=>none
 |n+1=>PJ (HX n)
def PI(R8:Mu)(p0:ABG)(p1:Int):Option KX:=
 (EO (p0.1,p0.2.1,p0.2.2.1,())).bind fun u1=>
 cond (!u1.1.1)
  (some (((((),(),0,()),false,()),()),([],[],())))
 ((DF (p0.1,p0.2.1,p0.2.2.1,())).bind fun u2=>
 (E8 p1).bind fun u3=>
 cond (!u3.1.1)
  (some (((((),(),u2.1.1.2.2.1,()),false,()),()),(u2.2.1,u2.2.2.1,())))
 (R8 p1 0 p0.1 p0.2.1 p0.2.2.1 0 [] [] u2.1.1.2.2.1 [] u2.2.2.1))
def M0(p0:ABG)(p1:Int):Option KX:=PI (HX Aa) p0 p1
abbrev bo:Type:=ABU×ACL
def Oe(BW BX:Int)(As:Bool)(p1:ABI)(b0:AAg)(b1:AAj)(b2:AAg)(b3:AAi)(b4:AAn)(b5:AAt)(b6:AAv)(b7:AAm):Option bo:=
 (FD (b0,BW,b1,b2,b3,BX,b4,b5,b6,b7,As,()) p1.2.1).bind fun u1=>
 cond (u1.1.1 !=0)
  (some (((((),BW,(),(),(),BX,(),(),(),(),As,()),u1.1.1,()),()),(b0,b1,b2,b3,b4,b5,b6,b7,())))
 (if(0:Int)≤p1.2.1∧p1.2.1<(b1.length:Int)then(
 (JD ((b1.getD (p1.2.1.toNat) ([],[],0,())).1,(b1.getD (p1.2.1.toNat) ([],[],0,())).2.1,(b1.getD (p1.2.1.toNat) ([],[],0,())).2.2.1,()) p1.2.2.1).bind fun u2=>
 cond (p1.1==16)
  (if(0:Int)≤p1.2.1∧p1.2.1<(b1.length:Int)then(
  (M0 ((b1.getD (p1.2.1.toNat) ([],[],0,())).1,(b1.getD (p1.2.1.toNat) ([],[],0,())).2.1,(b1.getD (p1.2.1.toNat) ([],[],0,())).2.2.1,()) BX).bind fun u3=>
  cond (!u3.1.1.2.1)
   (some (((((),BW,(),(),(),BX,(),(),(),(),As,()),4,()),()),(b0,b1,b2,b3,b4,b5,b6,b7,())))
  (if(0:Int)≤p1.2.1∧p1.2.1<(b1.length:Int)then(
  some (((((),BW,(),(),(),BX,(),(),(),(),As,()),0,()),()),(b0,(b1.set (p1.2.1.toNat) (u3.2.1,u3.2.2.1,u3.1.1.1.2.2.1,())),b2,b3,b4,b5,b6,b7,())))else none))else none)
 (cond (!u2.1.1.2.1)
  (some (((((),BW,(),(),(),BX,(),(),(),(),As,()),4,()),()),(b0,b1,b2,b3,b4,b5,b6,b7,())))
 (if(0:Int)≤p1.2.1∧p1.2.1<(b1.length:Int)then(
 some (((((),BW,(),(),(),BX,(),(),(),(),As,()),0,()),()),(b0,(b1.set (p1.2.1.toNat) (u2.2.1,u2.2.2.1,u2.1.1.1.2.2.1,())),b2,b3,b4,b5,b6,b7,())))else none)))else none)
abbrev Yp:Type:=ABU×(List Int×AAj×Unit×Unit×Unit×Unit×AAv×Unit×List Int×AAi×AAn×AAt×AAm×Unit)
def US(BW BX:Int)(As:Bool)(p1:ABI)(b0:AAg)(b1:AAj)(b2:AAg)(b3:AAi)(b4:AAn)(b5:AAt)(b6:AAv)(b7:AAm):Option Yp:=
 cond (p1.1==1)
  ((Qg BW BX As (p1.1,p1.2.1,p1.2.2.1,p1.2.2.2.1,p1.2.2.2.2.1,()) b0 b1 b2 b3 b4 b5 b6 b7).bind fun u1=>
  some (((((),u1.1.1.1.2.1,(),(),(),u1.1.1.1.2.2.2.2.2.1,(),(),(),(),u1.1.1.1.2.2.2.2.2.2.2.2.2.2.1,()),u1.1.1.2.1,()),()),(u1.2.1,u1.2.2.1,(),(),(),(),u1.2.2.2.2.2.2.2.1,(),u1.2.2.2.1,u1.2.2.2.2.2.2.2.2.2.1,u1.2.2.2.2.2.2.2.2.2.2.1,u1.2.2.2.2.2.2.2.2.2.2.2.1,u1.2.2.2.2.2.2.2.2.1,())))
 (cond (p1.1==2)
  ((Sb BW BX As (p1.1,p1.2.1,p1.2.2.1,p1.2.2.2.1,p1.2.2.2.2.1,()) b0 b1 b2 b3 b4 b5 b6 b7).bind fun u5=>
  some (((((),u5.1.1.1.2.1,(),(),(),u5.1.1.1.2.2.2.2.2.1,(),(),(),(),u5.1.1.1.2.2.2.2.2.2.2.2.2.2.1,()),u5.1.1.2.1,()),()),(u5.2.1,u5.2.2.1,(),(),(),(),u5.2.2.2.2.2.2.2.1,(),u5.2.2.2.1,u5.2.2.2.2.1,u5.2.2.2.2.2.1,u5.2.2.2.2.2.2.1,u5.2.2.2.2.2.2.2.2.2.1,())))
 (cond (p1.1==3)
  ((Ol BW BX As (p1.1,p1.2.1,p1.2.2.1,p1.2.2.2.1,p1.2.2.2.2.1,()) b0 b1 b2 b3 b4 b5 b6 b7).bind fun u7=>
  some (((((),u7.1.1.1.2.1,(),(),(),u7.1.1.1.2.2.2.2.2.1,(),(),(),(),u7.1.1.1.2.2.2.2.2.2.2.2.2.2.1,()),u7.1.1.2.1,()),()),(u7.2.1,u7.2.2.1,(),(),(),(),u7.2.2.2.2.2.2.2.1,(),u7.2.2.2.1,u7.2.2.2.2.1,u7.2.2.2.2.2.1,u7.2.2.2.2.2.2.1,u7.2.2.2.2.2.2.2.2.1,())))
 (cond (p1.1==4)
  ((QL BW BX As (p1.1,p1.2.1,p1.2.2.1,p1.2.2.2.1,p1.2.2.2.2.1,()) b0 b1 b2 b3 b4 b5 b6 b7).bind fun u8=>
  some (((((),u8.1.1.1.2.1,(),(),(),u8.1.1.1.2.2.2.2.2.1,(),(),(),(),u8.1.1.1.2.2.2.2.2.2.2.2.2.2.1,()),u8.1.1.2.1,()),()),(u8.2.1,u8.2.2.1,(),(),(),(),u8.2.2.2.2.2.2.2.1,(),u8.2.2.2.1,u8.2.2.2.2.1,u8.2.2.2.2.2.1,u8.2.2.2.2.2.2.1,u8.2.2.2.2.2.2.2.2.1,())))
 (cond (p1.1==6)
  ((Qk BW BX As (p1.1,p1.2.1,p1.2.2.1,p1.2.2.2.1,p1.2.2.2.2.1,()) b0 b1 b2 b3 b4 b5 b6 b7).bind fun u9=>
  some (((((),u9.1.1.1.2.1,(),(),(),u9.1.1.1.2.2.2.2.2.1,(),(),(),(),u9.1.1.1.2.2.2.2.2.2.2.2.2.2.1,()),u9.1.1.2.1,()),()),(u9.2.1,u9.2.2.1,(),(),(),(),u9.2.2.2.2.2.2.2.1,(),u9.2.2.2.2.2.2.2.2.2.1,u9.2.2.2.2.1,u9.2.2.2.2.2.1,u9.2.2.2.2.2.2.1,u9.2.2.2.2.2.2.2.2.1,())))
 (cond (p1.1==7)
  ((QA BW BX As (p1.1,p1.2.1,p1.2.2.1,p1.2.2.2.1,p1.2.2.2.2.1,()) b0 b1 b2 b3 b4 b5 b6 b7).bind fun Qp=>
  some (((((),Qp.1.1.1.2.1,(),(),(),Qp.1.1.1.2.2.2.2.2.1,(),(),(),(),Qp.1.1.1.2.2.2.2.2.2.2.2.2.2.1,()),Qp.1.1.2.1,()),()),(Qp.2.1,Qp.2.2.1,(),(),(),(),Qp.2.2.2.2.2.2.2.1,(),Qp.2.2.2.2.2.2.2.2.2.1,Qp.2.2.2.2.1,Qp.2.2.2.2.2.1,Qp.2.2.2.2.2.2.1,Qp.2.2.2.2.2.2.2.2.1,())))
 (cond (p1.1==8)
  ((Qd BW BX As b0 b1 b2 b3 b4 b5 b6 b7).bind fun Jw=>
  some (((((),Jw.1.1.1.2.1,(),(),(),Jw.1.1.1.2.2.2.2.2.1,(),(),(),(),Jw.1.1.1.2.2.2.2.2.2.2.2.2.2.1,()),Jw.1.1.2.1,()),()),(Jw.2.1,Jw.2.2.1,(),(),(),(),Jw.2.2.2.2.2.2.2.1,(),Jw.2.2.2.1,Jw.2.2.2.2.1,Jw.2.2.2.2.2.1,Jw.2.2.2.2.2.2.2.2.2.1,Jw.2.2.2.2.2.2.2.2.1,())))
 (cond (p1.1==9)
  ((QM BW BX As (p1.1,p1.2.1,p1.2.2.1,p1.2.2.2.1,p1.2.2.2.2.1,()) b0 b1 b2 b3 b4 b5 b6 b7).bind fun UM=>
  some (((((),UM.1.1.1.2.1,(),(),(),UM.1.1.1.2.2.2.2.2.1,(),(),(),(),UM.1.1.1.2.2.2.2.2.2.2.2.2.2.1,()),UM.1.1.2.1,()),()),(UM.2.1,UM.2.2.1,(),(),(),(),UM.2.2.2.2.2.2.2.1,(),UM.2.2.2.1,UM.2.2.2.2.1,UM.2.2.2.2.2.1,UM.2.2.2.2.2.2.1,UM.2.2.2.2.2.2.2.2.1,())))
 (cond (p1.1==10)
  ((Ql BW BX As b0 b1 b2 b3 b4 b5 b6 b7).bind fun X1=>
  some (((((),X1.1.1.1.2.1,(),(),(),X1.1.1.1.2.2.2.2.2.1,(),(),(),(),X1.1.1.1.2.2.2.2.2.2.2.2.2.2.1,()),X1.1.1.2.1,()),()),(X1.2.1,X1.2.2.1,(),(),(),(),X1.2.2.2.2.2.2.2.1,(),X1.2.2.2.1,X1.2.2.2.2.1,X1.2.2.2.2.2.1,X1.2.2.2.2.2.2.1,X1.2.2.2.2.2.2.2.2.1,())))
 (cond (p1.1==11)
  ((Sn BW BX As (p1.1,p1.2.1,p1.2.2.1,p1.2.2.2.1,p1.2.2.2.2.1,()) b0 b1 b2 b3 b4 b5 b6 b7).bind fun cI=>
  some (((((),cI.1.1.1.2.1,(),(),(),cI.1.1.1.2.2.2.2.2.1,(),(),(),(),cI.1.1.1.2.2.2.2.2.2.2.2.2.2.1,()),cI.1.1.2.1,()),()),(cI.2.1,cI.2.2.1,(),(),(),(),cI.2.2.2.2.2.2.2.1,(),cI.2.2.2.1,cI.2.2.2.2.1,cI.2.2.2.2.2.1,cI.2.2.2.2.2.2.1,cI.2.2.2.2.2.2.2.2.1,())))
 (cond (p1.1==12)
  ((On BW BX As b0 b1 b2 b3 b4 b5 b6 b7).bind fun S7=>
  some (((((),S7.1.1.1.2.1,(),(),(),S7.1.1.1.2.2.2.2.2.1,(),(),(),(),S7.1.1.1.2.2.2.2.2.2.2.2.2.2.1,()),S7.1.1.2.1,()),()),(S7.2.1,S7.2.2.1,(),(),(),(),S7.2.2.2.2.2.2.2.1,(),S7.2.2.2.1,S7.2.2.2.2.2.2.2.2.2.1,S7.2.2.2.2.2.1,S7.2.2.2.2.2.2.2.2.2.2.1,S7.2.2.2.2.2.2.2.2.1,())))
 (cond (p1.1==13)
  ((Mh (b0,BW,()) (b3,BX,()) p1.2.1).bind fun Yx=>
  cond (!Yx.1.1.2.1)
   (some (((((),BW,(),(),(),BX,(),(),(),(),As,()),4,()),()),(b0,b1,(),(),(),(),b6,(),b2,b3,b4,b5,b7,())))
  (some (((((),BW,(),(),(),Yx.1.1.1.2.1,(),(),(),(),As,()),0,()),()),(b0,b1,(),(),(),(),b6,(),b2,Yx.2.1,b4,b5,b7,()))))
 (cond (p1.1==14)
  ((QI BW BX As (p1.1,p1.2.1,p1.2.2.1,p1.2.2.2.1,p1.2.2.2.2.1,()) b0 b1 b2 b3 b4 b5 b6 b7).bind fun OH=>
  some (((((),OH.1.1.1.2.1,(),(),(),OH.1.1.1.2.2.2.2.2.1,(),(),(),(),OH.1.1.1.2.2.2.2.2.2.2.2.2.2.1,()),OH.1.1.2.1,()),()),(OH.2.1,OH.2.2.1,(),(),(),(),OH.2.2.2.2.2.2.2.1,(),OH.2.2.2.1,OH.2.2.2.2.1,OH.2.2.2.2.2.1,OH.2.2.2.2.2.2.1,OH.2.2.2.2.2.2.2.2.1,())))
 (cond (p1.1==15)
  ((QS BW BX As (p1.1,p1.2.1,p1.2.2.1,p1.2.2.2.1,p1.2.2.2.2.1,()) b0 b1 b2 b3 b4 b5 b6 b7).bind fun fq=>
  some (((((),fq.1.1.1.2.1,(),(),(),fq.1.1.1.2.2.2.2.2.1,(),(),(),(),fq.1.1.1.2.2.2.2.2.2.2.2.2.2.1,()),fq.1.1.2.1,()),()),(fq.2.1,fq.2.2.1,(),(),(),(),fq.2.2.2.2.2.2.2.1,(),fq.2.2.2.1,fq.2.2.2.2.1,fq.2.2.2.2.2.2.2.2.2.1,fq.2.2.2.2.2.2.1,fq.2.2.2.2.2.2.2.2.1,())))
 ((Oe BW BX As (p1.1,p1.2.1,p1.2.2.1,p1.2.2.2.1,p1.2.2.2.2.1,()) b0 b1 b2 b3 b4 b5 b6 b7).bind fun U5=>
 some (((((),U5.1.1.1.2.1,(),(),(),U5.1.1.1.2.2.2.2.2.1,(),(),(),(),U5.1.1.1.2.2.2.2.2.2.2.2.2.2.1,()),U5.1.1.2.1,()),()),(U5.2.1,U5.2.2.1,(),(),(),(),U5.2.2.2.2.2.2.2.1,(),U5.2.2.2.1,U5.2.2.2.2.1,U5.2.2.2.2.2.1,U5.2.2.2.2.2.2.1,U5.2.2.2.2.2.2.2.2.1,()))))))))))))))))
abbrev e_:Type:=ABU×ACL
def Qe(p0:AA7)(p1:ABI):Option e_:=
 (Kr (p0.1,p0.2.1,p0.2.2.1,p0.2.2.2.1,p0.2.2.2.2.1,p0.2.2.2.2.2.1,p0.2.2.2.2.2.2.1,p0.2.2.2.2.2.2.2.1,p0.2.2.2.2.2.2.2.2.1,p0.2.2.2.2.2.2.2.2.2.1,p0.2.2.2.2.2.2.2.2.2.2.1,())).bind fun u1=>
 cond (!u1.1.1)
  (some (((((),0,(),(),(),0,(),(),(),(),false,()),1,()),()),([],[],[],[],[],[],[],[],())))
 ((R_ (p1.1,p1.2.1,p1.2.2.1,p1.2.2.2.1,p1.2.2.2.2.1,())).bind fun u2=>
 cond (!u2.1.1)
  (some (((((),0,(),(),(),0,(),(),(),(),false,()),1,()),()),([],[],[],[],[],[],[],[],())))
 ((Ko (p0.1,p0.2.1,p0.2.2.1,p0.2.2.2.1,p0.2.2.2.2.1,p0.2.2.2.2.2.1,p0.2.2.2.2.2.2.1,p0.2.2.2.2.2.2.2.1,p0.2.2.2.2.2.2.2.2.1,p0.2.2.2.2.2.2.2.2.2.1,p0.2.2.2.2.2.2.2.2.2.2.1,())).bind fun u3=>
 (US u3.1.1.2.1 u3.1.1.2.2.2.2.2.1 u3.1.1.2.2.2.2.2.2.2.2.2.2.1 (p1.1,p1.2.1,p1.2.2.1,p1.2.2.2.1,p1.2.2.2.2.1,()) u3.2.1 u3.2.2.1 u3.2.2.2.1 u3.2.2.2.2.1 u3.2.2.2.2.2.1 u3.2.2.2.2.2.2.1 u3.2.2.2.2.2.2.2.1 u3.2.2.2.2.2.2.2.2.1).bind fun u4=>
 cond (u4.1.1.2.1 !=0)
  ((Ko (p0.1,p0.2.1,p0.2.2.1,p0.2.2.2.1,p0.2.2.2.2.1,p0.2.2.2.2.2.1,p0.2.2.2.2.2.2.1,p0.2.2.2.2.2.2.2.1,p0.2.2.2.2.2.2.2.2.1,p0.2.2.2.2.2.2.2.2.2.1,p0.2.2.2.2.2.2.2.2.2.2.1,())).bind fun HK=>
  some (((((),HK.1.1.2.1,(),(),(),HK.1.1.2.2.2.2.2.1,(),(),(),(),HK.1.1.2.2.2.2.2.2.2.2.2.2.1,()),u4.1.1.2.1,()),()),(HK.2.1,HK.2.2.1,HK.2.2.2.1,HK.2.2.2.2.1,HK.2.2.2.2.2.1,HK.2.2.2.2.2.2.1,HK.2.2.2.2.2.2.2.1,HK.2.2.2.2.2.2.2.2.1,())))
 (some (((((),u4.1.1.1.2.1,(),(),(),u4.1.1.1.2.2.2.2.2.1,(),(),(),(),u4.1.1.1.2.2.2.2.2.2.2.2.2.2.1,()),u4.1.1.2.1,()),()),(u4.2.1,u4.2.2.1,u4.2.2.2.2.2.2.2.2.2.1,u4.2.2.2.2.2.2.2.2.2.2.1,u4.2.2.2.2.2.2.2.2.2.2.2.1,u4.2.2.2.2.2.2.2.2.2.2.2.2.1,u4.2.2.2.2.2.2.2.1,u4.2.2.2.2.2.2.2.2.2.2.2.2.2.1,())))))
abbrev CE:Type:=(AF3×Unit)×(ABP×Unit×Unit×Unit×Unit×Unit×Unit×Unit×Unit×(List ABI)×List Int×AAj×List Int×AAi×AAn×AAt×AAv×AAm×Unit)
abbrev FH:Type:=Int→Int→List Int→Int→Int→Int→Int→Bool→List Int→AAj→List Int→AAi→AAn→AAt→AAv→AAm→Int→Int→Bool→List Int→AAj→List Int→AAi→AAn→AAt→AAv→AAm→Int→List Int→List Int→Option CE
abbrev FP:Type:=Int→List Int→Int→Int→Int→Int→Bool→List Int→AAj→List Int→AAi→AAn→AAt→AAv→AAm→Int→Int→Bool→List Int→AAj→List Int→AAi→AAn→AAt→AAv→AAm→Int→List Int→List Int→Option CE
abbrev Em:Type:=Int→Int→List Int→Int→Int→Int→Int→Bool→List Int→AAj→List Int→AAi→AAn→AAt→AAv→AAm→Int→Int→Bool→List Int→AAj→List Int→AAi→AAn→AAt→AAv→AAm→Int→Int→Bool→Int→Int→Bool→List Int→AAj→List Int→AAi→AAn→AAt→AAv→AAm→(List ABI)→Option CE
def MH(R4:FH)(R7:FP)(R14:Em)(t1 t9:Int)(AH:AAg)(AJ AR Aq Du:Int)(FI:Bool)(b2:AAg)(b3:AAj)(b4:AAg)(b5:AAi)(b6:AAn)(b7:AAt)(b8:AAv)(b9:AAm)(De E6:Int)(Cy:Bool)(F9:AAg)(Df:AAj)(Fh:AAg)(Fb:AAi)(D_:AAn)(ET:AAt)(Eo:AAv)(Td:AAm)(Bc:Int)(b20 wj:AAg):Option CE:=
 cond ((decide (t9<(b20.length:Int))))
  (if wj.length+1≤DH then(
  R4 t1 (AX (t9+1)) AH AJ AR Aq Du FI b2 b3 b4 b5 b6 b7 b8 b9 De E6 Cy F9 Df Fh Fb D_ ET Eo Td Bc b20 (wj++[t9]))else none)
 (R7 t1 AH AJ AR Aq Du FI b2 b3 b4 b5 b6 b7 b8 b9 De E6 Cy F9 Df Fh Fb D_ ET Eo Td Bc b20 wj)
def MF(R4:FH)(R7:FP)(R14:Em)(t1:Int)(AH:AAg)(AJ AR Aq Du:Int)(FI:Bool)(b2:AAg)(b3:AAj)(b4:AAg)(b5:AAi)(b6:AAn)(b7:AAt)(b8:AAv)(b9:AAm)(De E6:Int)(Cy:Bool)(F9:AAg)(Df:AAj)(Fh:AAg)(Fb:AAi)(D_:AAn)(ET:AAt)(Eo:AAv)(Td:AAm)(Bc:Int)(b20 wj:AAg):Option CE:=
 cond (decide (Bc>1))
  ((C7 (b20,Bc,()) wj).bind fun u3=>
  cond (!u3.1.1)
   (R7 t1 AH AJ AR Aq Du FI b2 b3 b4 b5 b6 b7 b8 b9 De E6 Cy F9 Df Fh Fb D_ ET Eo Td (AX (Bc-1)) b20 wj)
  ((FA (b20,Bc,())).bind fun u4=>
  (AF (AX (t1+1)) AH AJ AR).bind fun u5=>
  R14 u5.1.1 0 u5.2.1.1 u5.2.1.2.1 u5.2.1.2.2.1 Aq Du FI b2 b3 b4 b5 b6 b7 b8 b9 De E6 Cy F9 Df Fh Fb D_ ET Eo Td u4.1.1.1.2.1 u4.1.1.1.2.2.2.2.2.1 u4.1.1.1.2.2.2.2.2.2.2.2.2.2.1 u4.1.1.1.2.1 u4.1.1.1.2.2.2.2.2.1 u4.1.1.1.2.2.2.2.2.2.2.2.2.2.1 u4.2.1 u4.2.2.1 u4.2.2.2.1 u4.2.2.2.2.1 u4.2.2.2.2.2.1 u4.2.2.2.2.2.2.1 u4.2.2.2.2.2.2.2.1 u4.2.2.2.2.2.2.2.2.1 []))
 ((FA (b20,Bc,())).bind fun u6=>
 (AF (AX (t1+1)) AH AJ AR).bind fun u7=>
 R14 u7.1.1 0 u7.2.1.1 u7.2.1.2.1 u7.2.1.2.2.1 Aq Du FI b2 b3 b4 b5 b6 b7 b8 b9 De E6 Cy F9 Df Fh Fb D_ ET Eo Td u6.1.1.1.2.1 u6.1.1.1.2.2.2.2.2.1 u6.1.1.1.2.2.2.2.2.2.2.2.2.2.1 u6.1.1.1.2.1 u6.1.1.1.2.2.2.2.2.1 u6.1.1.1.2.2.2.2.2.2.2.2.2.2.1 u6.2.1 u6.2.2.1 u6.2.2.2.1 u6.2.2.2.2.1 u6.2.2.2.2.2.1 u6.2.2.2.2.2.2.1 u6.2.2.2.2.2.2.2.1 u6.2.2.2.2.2.2.2.2.1 [])
def LK(R4:FH)(R7:FP)(R14:Em)(t14 t15:Int)(AH:AAg)(AJ AR Aq Du:Int)(FI:Bool)(b2:AAg)(b3:AAj)(b4:AAg)(b5:AAi)(b6:AAn)(b7:AAt)(b8:AAv)(b9:AAm)(De E6:Int)(Cy:Bool)(F9:AAg)(Df:AAj)(Fh:AAg)(Fb:AAi)(D_:AAn)(ET:AAt)(Eo:AAv)(Td:AAm)(Bc PC:Int)(mv:Bool)(nQ n_:Int)(iV:Bool)(b29:AAg)(b30:AAj)(b31:AAg)(b32:AAi)(b33:AAn)(b34:AAt)(b35:AAv)(b36:AAm)(b37:List ABI):Option CE:=
 cond (decide (t15<t14))
  ((Ku (b29,nQ,b30,b31,b32,n_,b33,b34,b35,b36,iV,()) AH AJ AR).bind fun u8=>
  if b37.length+1≤DH then(
  let x9:List ABI:=b37++[(u8.1.1.1,u8.1.1.2.1,u8.1.1.2.2.1,u8.1.1.2.2.2.1,u8.1.1.2.2.2.2.1,())]
  (Qe (b29,nQ,b30,b31,b32,n_,b33,b34,b35,b36,iV,()) (u8.1.1.1,u8.1.1.2.1,u8.1.1.2.2.1,u8.1.1.2.2.2.1,u8.1.1.2.2.2.2.1,())).bind fun HK=>
  cond (HK.1.1.2.1==0)
   (R14 t14 (AX (t15+1)) u8.2.1.1 u8.2.1.2.1 u8.2.1.2.2.1 Aq Du FI b2 b3 b4 b5 b6 b7 b8 b9 De E6 Cy F9 Df Fh Fb D_ ET Eo Td Bc PC mv HK.1.1.1.2.1 HK.1.1.1.2.2.2.2.2.1 HK.1.1.1.2.2.2.2.2.2.2.2.2.2.1 HK.2.1 HK.2.2.1 HK.2.2.2.1 HK.2.2.2.2.1 HK.2.2.2.2.2.1 HK.2.2.2.2.2.2.1 HK.2.2.2.2.2.2.2.1 HK.2.2.2.2.2.2.2.2.1 x9)
  (R14 t14 (AX (t15+1)) u8.2.1.1 u8.2.1.2.1 u8.2.1.2.2.1 Aq Du FI b2 b3 b4 b5 b6 b7 b8 b9 De E6 Cy F9 Df Fh Fb D_ ET Eo Td Bc PC mv nQ n_ iV b29 b30 b31 b32 b33 b34 b35 b36 x9))else none)
 (some (((((),Bc,(),(),(),PC,(),(),(),(),mv,()),(),((),nQ,(),(),(),n_,(),(),(),(),iV,()),()),()),((AH,AJ,AR,()),(),(),(),(),(),(),(),(),b37,b29,b30,b31,b32,b33,b34,b35,b36,())))
mutual
def C9:Nat→FH
 |0=>fun _ _ _ _ _ _ _ _ _ _ _ _ _ _ _ _ _ _ _ _ _ _ _ _ _ _ _ _ _ _=>none
 |n+1=>MH (C9 n) (DE n) (CT n)
def DE:Nat→FP
 |0=>fun _ _ _ _ _ _ _ _ _ _ _ _ _ _ _ _ _ _ _ _ _ _ _ _ _ _ _ _ _=>none
 |n+1=>MF (C9 n) (DE n) (CT n)
def CT:Nat→Em
 |0=>fun _ _ _ _ _ _ _ _ _ _ _ _ _ _ _ _ _ _ _ _ _ _ _ _ _ _ _ _ _ _ _ _ _ _ _ _ _ _ _ _ _ _=>none
 |n+1=>LK (C9 n) (DE n) (CT n)
end
def MQ(R4:FH)(R7:FP)(R14:Em)(p1:Int)(AH:AAg)(AJ AR:Int):Option CE:=
 (II AH AJ AR).bind fun u1=>
 R4 p1 0 u1.2.1.1 u1.2.1.2.1 u1.2.1.2.2.1 0 0 false [] [] [] [] [] [] [] [] 0 0 false [] [] [] [] [] [] [] [] u1.1.1.2.1 u1.2.2.1 []
def HM(p1:Int)(AH:AAg)(AJ AR:Int):Option CE:=MQ (C9 Aa) (DE Aa) (CT Aa) p1 AH AJ AR
abbrev Xw:Type:=AFv×ABr
def Ia(AH:AAg)(AJ AR:Int):Option Xw:=
 (AF 3 AH AJ AR).bind fun u1=>
 (AF 6 u1.2.1.1 u1.2.1.2.1 u1.2.1.2.2.1).bind fun u2=>
 (Bl (AX (1+u1.1.1)) (AX (1+u2.1.1))).bind fun u3=>
 (Eg [[],[97],[98,99],[0],[119,111,114,100]] u2.2.1.1 u2.2.1.2.1 u2.2.1.2.2.1).bind fun u4=>
 (Aj 3 u4.2.1.1 u4.2.1.2.1 u4.2.1.2.2.1).bind fun u5=>
 cond (u5.1.1)
  ((Bu u3.1.1).bind fun u6=>
  (AF 3 u5.2.1.1 u5.2.1.2.1 u5.2.1.2.2.1).bind fun u7=>
  let x8:Int:=AX ((AX (u6.1.1+1))+u7.1.1)
  (Aj 2 u7.2.1.1 u7.2.1.2.1 u7.2.1.2.2.1).bind fun u9=>
  cond (u9.1.1)
   (some (((u3.1.1,x8,true,[],()),()),((u9.2.1.1,u9.2.1.2.1,u9.2.1.2.2.1,()),())))
  (some (((u3.1.1,x8,false,u4.1.1,()),()),((u9.2.1.1,u9.2.1.2.1,u9.2.1.2.2.1,()),()))))
 (some (((u3.1.1,0,false,u4.1.1,()),()),((u5.2.1.1,u5.2.1.2.1,u5.2.1.2.2.1,()),())))
abbrev Bg:Type:=ADt×AF4
abbrev F4:Type:=Int→Int→List Int→Int→Int→Int→AAh→AAh→Int→AAh→AAh→Option Bg
abbrev FL:Type:=Int→List Int→Int→Int→Int→AAh→AAh→Int→AAh→AAh→Option Bg
abbrev FM:Type:=Int→Int→List Int→Int→Int→Int→AAh→AAh→Int→AAh→AAh→Option Bg
def NQ(R4:F4)(R20:FL)(R23:FM)(t4 t5:Int)(AH:AAg)(AJ AR Dn:Int)(b2 b3:AAh)(Jx:Int)(b5 b6:AAh):Option Bg:=
 cond (decide (t5<t4))
  ((Ia AH AJ AR).bind fun u2=>
  (JT (b5,b6,Jx,()) (u2.1.1.1,u2.1.1.2.1,u2.1.1.2.2.1,u2.1.1.2.2.2.1,())).bind fun u3=>
  (AF 6 u2.2.1.1 u2.2.1.2.1 u2.2.1.2.2.1).bind fun u4=>
  cond (u4.1.1==0)
   ((Gx (b5,b6,Jx,())).bind fun u5=>
   cond (u5.1.1.2.1)
    (R4 t4 (AX (t5+1)) u4.2.1.1 u4.2.1.2.1 u4.2.1.2.2.1 Dn b2 b3 u5.1.1.1.2.2.1 u5.2.1 u5.2.2.1)
   (R4 t4 (AX (t5+1)) u4.2.1.1 u4.2.1.2.1 u4.2.1.2.2.1 Dn b2 b3 Jx b5 b6))
  (cond (u4.1.1==1)
   ((Gx (u3.2.1,u3.2.2.1,u3.1.1.1.2.2.1,())).bind fun u6=>
   cond (u6.1.1.2.1)
    (R4 t4 (AX (t5+1)) u4.2.1.1 u4.2.1.2.1 u4.2.1.2.2.1 Dn b2 b3 u6.1.1.1.2.2.1 u6.2.1 u6.2.2.1)
   (R4 t4 (AX (t5+1)) u4.2.1.1 u4.2.1.2.1 u4.2.1.2.2.1 Dn b2 b3 Jx b5 b6))
  (cond (u4.1.1==2)
   ((Aj 3 u4.2.1.1 u4.2.1.2.1 u4.2.1.2.2.1).bind fun u7=>
   cond (u7.1.1)
    ((AF 4 u7.2.1.1 u7.2.1.2.1 u7.2.1.2.2.1).bind fun u8=>
    (KH (b5,b6,Jx,()) u8.1.1).bind fun u9=>
    cond (u9.1.1.2.1)
     (R4 t4 (AX (t5+1)) u8.2.1.1 u8.2.1.2.1 u8.2.1.2.2.1 Dn b2 b3 u9.1.1.1.2.2.1 u9.2.1 u9.2.2.1)
    (R4 t4 (AX (t5+1)) u8.2.1.1 u8.2.1.2.1 u8.2.1.2.2.1 Dn b2 b3 Jx b5 b6))
   (cond (u3.1.1.2.1)
    (R4 t4 (AX (t5+1)) u7.2.1.1 u7.2.1.2.1 u7.2.1.2.2.1 Dn b2 b3 u3.1.1.1.2.2.1 u3.2.1 u3.2.2.1)
   (R4 t4 (AX (t5+1)) u7.2.1.1 u7.2.1.2.1 u7.2.1.2.2.1 Dn b2 b3 Jx b5 b6)))
  (cond (u3.1.1.2.1)
   (R4 t4 (AX (t5+1)) u4.2.1.1 u4.2.1.2.1 u4.2.1.2.2.1 Dn b2 b3 u3.1.1.1.2.2.1 u3.2.1 u3.2.2.1)
  (R4 t4 (AX (t5+1)) u4.2.1.1 u4.2.1.2.1 u4.2.1.2.2.1 Dn b2 b3 Jx b5 b6)))))
 ((Aj 40 AH AJ AR).bind fun Yf=>
 cond (Yf.1.1)
  (R20 1 Yf.2.1.1 Yf.2.1.2.1 Yf.2.1.2.2.1 Dn b2 b3 Jx [] b6)
 (some ((((),(),Jx,()),()),((Yf.2.1.1,Yf.2.1.2.1,Yf.2.1.2.2.1,()),b5,b6,()))))
def L7(R4:F4)(R20:FL)(R23:FM)(t8:Int)(AH:AAg)(AJ AR Dn:Int)(b2 b3:AAh)(Jx:Int)(b5 b6:AAh):Option Bg:=
 cond (decide (t8≤4))
  (R23 t8 1 AH AJ AR Dn b2 b3 Jx b5 b6)
 (some ((((),(),Jx,()),()),((AH,AJ,AR,()),b5,b6,())))
def MK(R4:F4)(R20:FL)(R23:FM)(t8 t9:Int)(AH:AAg)(AJ AR Dn:Int)(b2 b3:AAh)(Jx:Int)(b5 b6:AAh):Option Bg:=
 cond (decide (t9≤50))
  ((Bl t8 t9).bind fun YI=>
  if b5.length+1≤DH then(
  R23 t8 (AX (t9+1)) AH AJ AR Dn b2 b3 Jx (b5++[(YI.1.1,0,false,[],())]) b6)else none)
 (R20 (AX (t8+1)) AH AJ AR Dn b2 b3 Jx b5 b6)
mutual
def Cm:Nat→F4
 |0=>fun _ _ _ _ _ _ _ _ _ _ _=>none
 |n+1=>NQ (Cm n) (C5 n) (DC n)
def C5:Nat→FL
 |0=>fun _ _ _ _ _ _ _ _ _ _=>none
 |n+1=>L7 (Cm n) (C5 n) (DC n)
def DC:Nat→FM
 |0=>fun _ _ _ _ _ _ _ _ _ _ _=>none
 |n+1=>MK (Cm n) (C5 n) (DC n)
end
def Mi(R4:F4)(R20:FL)(R23:FM)(AH:AAg)(AJ AR:Int):Option Bg:=
 (AF 8 AH AJ AR).bind fun u1=>
 R4 u1.1.1 0 u1.2.1.1 u1.2.1.2.1 u1.2.1.2.2.1 0 [] [] 0 [] []
def D4(AH:AAg)(AJ AR:Int):Option Bg:=Mi (Cm Aa) (C5 Aa) (DC Aa) AH AJ AR
abbrev Lx:Type:=ABD×ABr
def CV(AH:AAg)(AJ AR:Int):Option Lx:=
 (AF 3 AH AJ AR).bind fun u1=>
 (AF 6 u1.2.1.1 u1.2.1.2.1 u1.2.1.2.2.1).bind fun u2=>
 (Bl (AX (1+u1.1.1)) (AX (1+u2.1.1))).bind fun u3=>
 (AF 15 u2.2.1.1 u2.2.1.2.1 u2.2.1.2.2.1).bind fun u4=>
 cond (u4.1.1==0)
  ((Ba [0,(-1),4294967296,4294967297,9223372036854775807,(-9223372036854775808)] u4.2.1.1 u4.2.1.2.1 u4.2.1.2.2.1).bind fun u5=>
  some ((u5.1.1,()),((u5.2.1.1,u5.2.1.2.1,u5.2.1.2.2.1,()),())))
 (cond (u4.1.1==1)
  ((Ba [0,30,31] u4.2.1.1 u4.2.1.2.1 u4.2.1.2.2.1).bind fun u6=>
  (Ba [0,60,61] u6.2.1.1 u6.2.1.2.1 u6.2.1.2.2.1).bind fun u7=>
  (Bl u6.1.1 u7.1.1).bind fun u8=>
  some ((u8.1.1,()),((u7.2.1.1,u7.2.1.2.1,u7.2.1.2.2.1,()),())))
 (some ((u3.1.1,()),((u4.2.1.1,u4.2.1.2.1,u4.2.1.2.2.1,()),()))))
abbrev fZ:Type:=AFv×ABr
def MY(AH:AAg)(AJ AR:Int):Option fZ:=
 (Ia AH AJ AR).bind fun u1=>
 (AF 15 u1.2.1.1 u1.2.1.2.1 u1.2.1.2.2.1).bind fun u2=>
 cond (u2.1.1==0)
  ((CV u2.2.1.1 u2.2.1.2.1 u2.2.1.2.2.1).bind fun u3=>
  some (((u3.1.1,u1.1.1.2.1,u1.1.1.2.2.1,u1.1.1.2.2.2.1,()),()),((u3.2.1.1,u3.2.1.2.1,u3.2.1.2.2.1,()),())))
 (cond (u2.1.1==1)
  ((Ba [(-1),1,30,31] u2.2.1.1 u2.2.1.2.1 u2.2.1.2.2.1).bind fun u4=>
  some (((u1.1.1.1,u4.1.1,u1.1.1.2.2.1,u1.1.1.2.2.2.1,()),()),((u4.2.1.1,u4.2.1.2.1,u4.2.1.2.2.1,()),())))
 (cond (u2.1.1==2)
  (some (((u1.1.1.1,u1.1.1.2.1,true,u1.1.1.2.2.2.1,()),()),((u2.2.1.1,u2.2.1.2.1,u2.2.1.2.2.1,()),())))
 (cond (u2.1.1==3)
  ((AF 2 u2.2.1.1 u2.2.1.2.1 u2.2.1.2.2.1).bind fun u5=>
  if(0:Int)≤(AX (40+u5.1.1))∧(AX (40+u5.1.1))≤(AX (40+u5.1.1))∧(AX (40+u5.1.1))≤(DH:Int)then(
  some (((u1.1.1.1,u1.1.1.2.1,u1.1.1.2.2.1,((List.replicate ((AX (40+u5.1.1)).toNat) 0).map fun n:Int=>UInt8.ofNat n.toNat),()),()),((u5.2.1.1,u5.2.1.2.1,u5.2.1.2.2.1,()),())))else none)
 (some (((u1.1.1.1,u1.1.1.2.1,u1.1.1.2.2.1,u1.1.1.2.2.2.1,()),()),((u2.2.1.1,u2.2.1.2.1,u2.2.1.2.2.1,()),()))))))
abbrev JL:Type:=ADt×AF4
abbrev Pc:Type:=List Int→Int→Int→Int→AAh→AAh→Int→AAh→AAh→Option JL
def RE(R10:Pc)(AH:AAg)(AJ AR Dn:Int)(b2 b3:AAh)(Jx:Int)(b5 b6:AAh):Option JL:=
 (AF 2 AH AJ AR).bind fun Jw=>
 cond ((decide ((b6.length:Int)<(AX (20+Jw.1.1)))))
  ((Bl 5 1).bind fun u16=>
  if b6.length+1≤DH then(
  R10 Jw.2.1.1 Jw.2.1.2.1 Jw.2.1.2.2.1 Dn b2 b3 Jx b5 (b6++[(u16.1.1,0,false,[],())]))else none)
 (some ((((),(),Jx,()),()),((Jw.2.1.1,Jw.2.1.2.1,Jw.2.1.2.2.1,()),b5,b6,())))
def JE:Nat→Pc
 |0=>fun _ _ _ _ _ _ _ _ _=>none
 |n+1=>RE (JE n)
def Sf(R10:Pc)(AH:AAg)(AJ AR:Int):Option JL:=
 (D4 AH AJ AR).bind fun u1=>
 (AF 25 u1.2.1.1 u1.2.1.2.1 u1.2.1.2.2.1).bind fun u2=>
 cond (u2.1.1==0)
  ((Ba [(-1),30,31] u2.2.1.1 u2.2.1.2.1 u2.2.1.2.2.1).bind fun u3=>
  some ((((),(),u3.1.1,()),()),((u3.2.1.1,u3.2.1.2.1,u3.2.1.2.2.1,()),u1.2.2.1,u1.2.2.2.1,())))
 (cond (u2.1.1==1)
  ((MY u2.2.1.1 u2.2.1.2.1 u2.2.1.2.2.1).bind fun u4=>
  if u1.2.2.1.length+1≤DH then(
  some ((((),(),u1.1.1.2.2.1,()),()),((u4.2.1.1,u4.2.1.2.1,u4.2.1.2.2.1,()),(u1.2.2.1++[(u4.1.1.1,u4.1.1.2.1,u4.1.1.2.2.1,u4.1.1.2.2.2.1,())]),u1.2.2.2.1,())))else none)
 (cond (u2.1.1==2)
  ((MY u2.2.1.1 u2.2.1.2.1 u2.2.1.2.2.1).bind fun u9=>
  if u1.2.2.2.1.length+1≤DH then(
  some ((((),(),u1.1.1.2.2.1,()),()),((u9.2.1.1,u9.2.1.2.1,u9.2.1.2.2.1,()),u1.2.2.1,(u1.2.2.2.1++[(u9.1.1.1,u9.1.1.2.1,u9.1.1.2.2.1,u9.1.1.2.2.2.1,())]),())))else none)
 (cond (u2.1.1==3)
  (R10 u2.2.1.1 u2.2.1.2.1 u2.2.1.2.2.1 0 [] [] u1.1.1.2.2.1 u1.2.2.1 u1.2.2.2.1)
 (some ((((),(),u1.1.1.2.2.1,()),()),((u2.2.1.1,u2.2.1.2.1,u2.2.1.2.2.1,()),u1.2.2.1,u1.2.2.2.1,()))))))
def PD(AH:AAg)(AJ AR:Int):Option JL:=Sf (JE Aa) AH AJ AR
abbrev I3:Type:=ACj×AF5
abbrev LA:Type:=Int→List Int→Int→Int→List Int→Int→Int→AAi→Int→AAi→Option I3
def Mo(R3:LA)(t6:Int)(AH:AAg)(AJ AR:Int)(A7:AAg)(Aq JX:Int)(b3:AAi)(gL:Int)(b5:AAi):Option I3:=
 (AF 7 AH AJ AR).bind fun u1=>
 cond (decide (t6<u1.1.1))
  ((FF (A7,Aq,()) u1.2.1.1 u1.2.1.2.1 u1.2.1.2.2.1).bind fun u2=>
  (Ij (A7,Aq,()) (b5,gL,()) u2.2.2.1).bind fun u3=>
  (AF 4 u2.2.1.1 u2.2.1.2.1 u2.2.1.2.2.1).bind fun u4=>
  cond (u4.1.1==0)
   ((AF 5 u4.2.1.1 u4.2.1.2.1 u4.2.1.2.2.1).bind fun u5=>
   (LO (A7,Aq,()) (b5,gL,()) (b5.length:Int) u5.1.1).bind fun u6=>
   cond (u6.1.1.2.1)
    (R3 (AX (t6+1)) u5.2.1.1 u5.2.1.2.1 u5.2.1.2.2.1 A7 Aq JX b3 u6.1.1.1.2.1 u6.2.1)
   (R3 (AX (t6+1)) u5.2.1.1 u5.2.1.2.1 u5.2.1.2.2.1 A7 Aq JX b3 gL b5))
  (cond (u4.1.1==1)
   ((AF 2 u4.2.1.1 u4.2.1.2.1 u4.2.1.2.2.1).bind fun u7=>
   (AF 4 u7.2.1.1 u7.2.1.2.1 u7.2.1.2.2.1).bind fun u8=>
   (Bl (AX (1+u7.1.1)) (AX (1+u8.1.1))).bind fun u9=>
   (Mh (A7,Aq,()) (b5,gL,()) u9.1.1).bind fun HK=>
   cond (HK.1.1.2.1)
    (R3 (AX (t6+1)) u8.2.1.1 u8.2.1.2.1 u8.2.1.2.2.1 A7 Aq JX b3 HK.1.1.1.2.1 HK.2.1)
   (R3 (AX (t6+1)) u8.2.1.1 u8.2.1.2.1 u8.2.1.2.2.1 A7 Aq JX b3 gL b5))
  (cond (u3.1.1.2.2.1)
   (R3 (AX (t6+1)) u4.2.1.1 u4.2.1.2.1 u4.2.1.2.2.1 A7 Aq JX b3 u3.1.1.1.2.1 u3.2.1)
  (R3 (AX (t6+1)) u4.2.1.1 u4.2.1.2.1 u4.2.1.2.2.1 A7 Aq JX b3 gL b5))))
 (some ((((),gL,()),()),((u1.2.1.1,u1.2.1.2.1,u1.2.1.2.2.1,()),b5,())))
def EZ:Nat→LA
 |0=>fun _ _ _ _ _ _ _ _ _ _=>none
 |n+1=>Mo (EZ n)
def M6(R3:LA)(p1:AAw)(AH:AAg)(AJ AR:Int):Option I3:=
 R3 0 AH AJ AR p1.1 p1.2.1 0 [] 0 []
def Ke(p1:AAw)(AH:AAg)(AJ AR:Int):Option I3:=M6 (EZ Aa) p1 AH AJ AR
abbrev JN:Type:=ACj×AF5
abbrev PX:Type:=List Int→List Int→Int→Int→Int→AAi→Int→AAi→Option JN
def Rl(R17:PX)(t7 AH:AAg)(AJ AR Aq:Int)(b2:AAi)(WK:Int)(b4:AAi):Option JN:=
 (AF 2 AH AJ AR).bind fun Qp=>
 cond ((decide ((b4.length:Int)<(AX (30+Qp.1.1)))))
  (if b4.length+1≤DH then(
  R17 t7 Qp.2.1.1 Qp.2.1.2.1 Qp.2.1.2.2.1 Aq b2 WK (b4++[(t7,false,0,())]))else none)
 (some ((((),WK,()),()),((Qp.2.1.1,Qp.2.1.2.1,Qp.2.1.2.2.1,()),b4,())))
def JA:Nat→PX
 |0=>fun _ _ _ _ _ _ _ _=>none
 |n+1=>Rl (JA n)
def SY(R17:PX)(p1:AAw)(AH:AAg)(AJ AR:Int):Option JN:=
 (Ke (p1.1,p1.2.1,()) AH AJ AR).bind fun u1=>
 let x2:Int:=(u1.2.2.1.length:Int)
 (AF 25 u1.2.1.1 u1.2.1.2.1 u1.2.1.2.2.1).bind fun u3=>
 cond (u3.1.1==0)
  ((CV u3.2.1.1 u3.2.1.2.1 u3.2.1.2.2.1).bind fun u4=>
  some ((((),u4.1.1,()),()),((u4.2.1.1,u4.2.1.2.1,u4.2.1.2.2.1,()),u1.2.2.1,())))
 (cond (u3.1.1==1)
  (cond (decide (x2>0))
   (if(0:Int)≤AX (x2-1)∧AX (x2-1)<(u1.2.2.1.length:Int)then(
   some ((((),u1.1.1.2.1,()),()),((u3.2.1.1,u3.2.1.2.1,u3.2.1.2.2.1,()),(u1.2.2.1.set ((AX (x2-1)).toNat) ((u1.2.2.1.getD ((AX (x2-1)).toNat) ([],false,0,())).1,true,(u1.2.2.1.getD ((AX (x2-1)).toNat) ([],false,0,())).2.2.1,())),())))else none)
  (some ((((),u1.1.1.2.1,()),()),((u3.2.1.1,u3.2.1.2.1,u3.2.1.2.2.1,()),u1.2.2.1,()))))
 (cond (u3.1.1==2)
  (cond (decide (x2>0))
   ((Ba [(-1),1,60,61] u3.2.1.1 u3.2.1.2.1 u3.2.1.2.2.1).bind fun u6=>
   if(0:Int)≤(0:Int)∧(0:Int)<(u1.2.2.1.length:Int)then(
   some ((((),u1.1.1.2.1,()),()),((u6.2.1.1,u6.2.1.2.1,u6.2.1.2.2.1,()),(u1.2.2.1.set 0 ((u1.2.2.1.getD 0 ([],false,0,())).1,(u1.2.2.1.getD 0 ([],false,0,())).2.1,u6.1.1,())),())))else none)
  (some ((((),u1.1.1.2.1,()),()),((u3.2.1.1,u3.2.1.2.1,u3.2.1.2.2.1,()),u1.2.2.1,()))))
 (cond (u3.1.1==3)
  (cond (decide (x2>0))
   ((DK (p1.1,p1.2.1,()) u3.2.1.1 u3.2.1.2.1 u3.2.1.2.2.1).bind fun u8=>
   if(0:Int)≤(0:Int)∧(0:Int)<(u1.2.2.1.length:Int)then(
   some ((((),u1.1.1.2.1,()),()),((u8.2.1.1,u8.2.1.2.1,u8.2.1.2.2.1,()),(u1.2.2.1.set 0 (u8.2.2.1,(u1.2.2.1.getD 0 ([],false,0,())).2.1,(u1.2.2.1.getD 0 ([],false,0,())).2.2.1,())),())))else none)
  (some ((((),u1.1.1.2.1,()),()),((u3.2.1.1,u3.2.1.2.1,u3.2.1.2.2.1,()),u1.2.2.1,()))))
 (cond (u3.1.1==4)
  ((FF (p1.1,p1.2.1,()) u3.2.1.1 u3.2.1.2.1 u3.2.1.2.2.1).bind fun HK=>
  R17 HK.2.2.1 HK.2.1.1 HK.2.1.2.1 HK.2.1.2.2.1 0 [] u1.1.1.2.1 u1.2.2.1)
 (some ((((),u1.1.1.2.1,()),()),((u3.2.1.1,u3.2.1.2.1,u3.2.1.2.2.1,()),u1.2.2.1,())))))))
def O7(p1:AAw)(AH:AAg)(AJ AR:Int):Option JN:=SY (JA Aa) p1 AH AJ AR
abbrev I5:Type:=AFR×AF6
abbrev K8:Type:=Int→List Int→Int→Int→List Int→Int→Int→AA9→Int→AA9→Option I5
def NH(R3:K8)(t6:Int)(AH:AAg)(AJ AR:Int)(A7:AAg)(Aq Iy:Int)(b3:AA9)(kL:Int)(b5:AA9):Option I5:=
 (AF 14 AH AJ AR).bind fun u2=>
 cond (decide (t6<u2.1.1))
  ((Eg [[],[97],[98,99]] u2.2.1.1 u2.2.1.2.1 u2.2.1.2.2.1).bind fun u3=>
  (ER (A7,Aq,()) (kL,b5,()) u3.1.1).bind fun u4=>
  (Aj 2 u3.2.1.1 u3.2.1.2.1 u3.2.1.2.2.1).bind fun u5=>
  cond (u5.1.1)
   ((DR (b5.length:Int) 1).bind fun u6=>
   (AF u6.1.1 u5.2.1.1 u5.2.1.2.1 u5.2.1.2.2.1).bind fun u7=>
   (AF (A7.length:Int) u7.2.1.1 u7.2.1.2.1 u7.2.1.2.2.1).bind fun u8=>
   (CX (A7,Aq,()) (kL,b5,()) (AX (1+u7.1.1)) u8.1.1).bind fun u9=>
   cond (u9.1.1.2.1)
    (R3 (AX (t6+1)) u8.2.1.1 u8.2.1.2.1 u8.2.1.2.2.1 A7 Aq Iy b3 u9.1.1.1.1 u9.2.1)
   (R3 (AX (t6+1)) u8.2.1.1 u8.2.1.2.1 u8.2.1.2.2.1 A7 Aq Iy b3 kL b5))
  (cond (u4.1.1.2.2.1)
   (R3 (AX (t6+1)) u5.2.1.1 u5.2.1.2.1 u5.2.1.2.2.1 A7 Aq Iy b3 u4.1.1.1.1 u4.2.1)
  (R3 (AX (t6+1)) u5.2.1.1 u5.2.1.2.1 u5.2.1.2.2.1 A7 Aq Iy b3 kL b5)))
 (some (((kL,(),()),()),((u2.2.1.1,u2.2.1.2.1,u2.2.1.2.2.1,()),b5,())))
def Fv:Nat→K8
 |0=>fun _ _ _ _ _ _ _ _ _ _=>none
 |n+1=>NH (Fv n)
def Ms(R3:K8)(p1:AAw)(AH:AAg)(AJ AR:Int):Option I5:=
 (AF 4 AH AJ AR).bind fun u1=>
 R3 0 u1.2.1.1 u1.2.1.2.1 u1.2.1.2.2.1 p1.1 p1.2.1 0 [] (AX (1+u1.1.1)) []
def Kk(p1:AAw)(AH:AAg)(AJ AR:Int):Option I5:=Ms (Fv Aa) p1 AH AJ AR
abbrev JR:Type:=AFR×AF6
abbrev Pf:Type:=List Int→Int→Int→Int→AA9→Int→AA9→Option JR
def L2(ZA:Pf)(AH:AAg)(AJ AR A7:Int)(b2:AA9)(Xa:Int)(b4:AA9):Option JR:=
 cond ((decide ((b4.length:Int)<60)))
  (cond ((decide ((b4.length:Int)>0)))
   (if(0:Int)≤(0:Int)∧(0:Int)<(b4.length:Int)then(
   if b4.length+1≤DH then(
   ZA AH AJ AR A7 b2 Xa (b4++[((b4.getD 0 ([],[],false,())).1,(b4.getD 0 ([],[],false,())).2.1,(b4.getD 0 ([],[],false,())).2.2.1,())]))else none)else none)
  (some (((Xa,(),()),()),((AH,AJ,AR,()),b4,()))))
 (some (((Xa,(),()),()),((AH,AJ,AR,()),b4,())))
def Ef:Nat→Pf
 |0=>fun _ _ _ _ _ _ _=>none
 |n+1=>L2 (Ef n)
def Jt(ZA:Pf)(p1:AAw)(AH:AAg)(AJ AR:Int):Option JR:=
 (Kk (p1.1,p1.2.1,()) AH AJ AR).bind fun u1=>
 (AF 25 u1.2.1.1 u1.2.1.2.1 u1.2.1.2.2.1).bind fun u2=>
 cond (u2.1.1==0)
  ((Ba [0,30,31] u2.2.1.1 u2.2.1.2.1 u2.2.1.2.2.1).bind fun u3=>
  some (((u3.1.1,(),()),()),((u3.2.1.1,u3.2.1.2.1,u3.2.1.2.2.1,()),u1.2.2.1,())))
 (cond (u2.1.1==1)
  (cond (decide ((u1.2.2.1.length:Int)>0))
   (if(0:Int)≤(0:Int)∧(0:Int)<(u1.2.2.1.length:Int)then(
   if(0:Int)≤(0:Int)∧(0:Int)<(u1.2.2.1.length:Int)then(
   some (((u1.1.1.1,(),()),()),((u2.2.1.1,u2.2.1.2.1,u2.2.1.2.2.1,()),(u1.2.2.1.set 0 ((u1.2.2.1.getD 0 ([],[],false,())).1,(u1.2.2.1.getD 0 ([],[],false,())).2.1,!((u1.2.2.1.getD 0 ([],[],false,())).2.2.1),())),())))else none)else none)
  (some (((u1.1.1.1,(),()),()),((u2.2.1.1,u2.2.1.2.1,u2.2.1.2.2.1,()),u1.2.2.1,()))))
 (cond (u2.1.1==2)
  ((AF 2 u2.2.1.1 u2.2.1.2.1 u2.2.1.2.2.1).bind fun u7=>
  if(0:Int)≤(AX (40+u7.1.1))∧(AX (40+u7.1.1))≤(AX (40+u7.1.1))∧(AX (40+u7.1.1))≤(DH:Int)then(
  if u1.2.2.1.length+1≤DH then(
  some (((u1.1.1.1,(),()),()),((u7.2.1.1,u7.2.1.2.1,u7.2.1.2.2.1,()),(u1.2.2.1++[(((List.replicate ((AX (40+u7.1.1)).toNat) 0).map fun n:Int=>UInt8.ofNat n.toNat),[],false,())]),())))else none)else none)
 (cond (u2.1.1==3)
  (ZA u2.2.1.1 u2.2.1.2.1 u2.2.1.2.2.1 0 [] u1.1.1.1 u1.2.2.1)
 (some (((u1.1.1.1,(),()),()),((u2.2.1.1,u2.2.1.2.1,u2.2.1.2.2.1,()),u1.2.2.1,()))))))
def J0(p1:AAw)(AH:AAg)(AJ AR:Int):Option JR:=Jt (Ef Aa) p1 AH AJ AR
abbrev EV:Type:=ABK×ABL
abbrev Pj:Type:=Int→List Int→Int→List Int→Option EV
def Ro(R3:Pj)(t6:Int)(AH:AAg)(AJ:Int)(b1:AAg):Option EV:=
 cond ((decide (t6<(AH.length:Int))))
  ((C7 (AH,AJ,()) b1).bind fun u2=>
  cond (!u2.1.1)
   ((Fj b1 t6).bind fun u3=>
   R3 (AX (t6+1)) AH AJ u3.2.1)
  (some (((),()),(b1,()))))
 (some (((),()),(b1,())))
def JG:Nat→Pj
 |0=>fun _ _ _ _=>none
 |n+1=>Ro (JG n)
def Q2(R3:Pj)(p0:AAw)(p1:AA2):Option EV:=
 if 0+p1.2.2.1.length≤DH then(
 R3 0 p0.1 p0.2.1 p1.2.2.1)else none
def Is(p0:AAw)(p1:AA2):Option EV:=Q2 (JG Aa) p0 p1
abbrev Es:Type:=ADY×AF7
abbrev Hv:Type:=Int→Int→List Int→Int→Int→List Int→Int→Int→Int→Bool→List Int→AAh→List AAg→Int→Int→Bool→List Int→AAh→List AAg→Option Es
abbrev HP:Type:=Int→List Int→Int→Int→List Int→Int→Int→Int→Bool→List Int→AAh→List AAg→Int→Int→Bool→List Int→AAh→List AAg→Option Es
def Ip(R4:Hv)(cJ:HP)(t6 t7:Int)(AH:AAg)(AJ AR:Int)(A7:AAg)(Aq Iy JX:Int)(MZ:Bool)(b3:AAg)(b4:AAh)(b5:List AAg)(JZ Ig:Int)(Ja:Bool)(b7:AAg)(b8:AAh)(b9:List AAg):Option Es:=
 cond (decide (t7<t6))
  ((AF (A7.length:Int) AH AJ AR).bind fun u4=>
  (D4 u4.2.1.1 u4.2.1.2.1 u4.2.1.2.2.1).bind fun u5=>
  (GD (u5.2.2.1,u5.2.2.2.1,u5.1.1.2.2.1,()) Ig).bind fun u6=>
  (GI (A7,Aq,()) (JZ,Ig,b7,b8,Ja,b9,()) u4.1.1 u6.2.1).bind fun u7=>
  cond (u7.1.1.2.1)
   (R4 t6 (AX (t7+1)) u5.2.1.1 u5.2.1.2.1 u5.2.1.2.2.1 A7 Aq Iy JX MZ b3 b4 b5 u7.1.1.1.1 u7.1.1.1.2.1 u7.1.1.1.2.2.2.2.1 u7.2.1 u7.2.2.1 u7.2.2.2.1)
  (R4 t6 (AX (t7+1)) u5.2.1.1 u5.2.1.2.1 u5.2.1.2.2.1 A7 Aq Iy JX MZ b3 b4 b5 JZ Ig Ja b7 b8 b9))
 ((Aj 3 AH AJ AR).bind fun Ru=>
 cond (Ru.1.1)
  (some (((JZ,Ig,(),(),Ja,(),()),()),((Ru.2.1.1,Ru.2.1.2.1,Ru.2.1.2.2.1,()),b7,b8,b9,())))
 ((Is (A7,Aq,()) (JZ,Ig,b7,b8,Ja,b9,())).bind fun X1=>
 (GK (A7,Aq,()) (JZ,Ig,b7,b8,Ja,b9,()) X1.2.1).bind fun Ot=>
 cond (Ot.1.1.2.1)
  (cJ 0 Ru.2.1.1 Ru.2.1.2.1 Ru.2.1.2.2.1 A7 Aq Iy JX MZ b3 b4 b5 Ot.1.1.1.1 Ot.1.1.1.2.1 Ot.1.1.1.2.2.2.2.1 Ot.2.1 Ot.2.2.1 Ot.2.2.2.1)
 (cJ 0 Ru.2.1.1 Ru.2.1.2.1 Ru.2.1.2.2.1 A7 Aq Iy JX MZ b3 b4 b5 JZ Ig Ja b7 b8 b9)))
def IY(R4:Hv)(cJ:HP)(t12:Int)(AH:AAg)(AJ AR:Int)(A7:AAg)(Aq Iy JX:Int)(MZ:Bool)(b3:AAg)(b4:AAh)(b5:List AAg)(JZ Ig:Int)(Ja:Bool)(b7:AAg)(b8:AAh)(b9:List AAg):Option Es:=
 (AF 9 AH AJ AR).bind fun I_=>
 cond ((decide (t12<I_.1.1)))
  ((DR (b9.length:Int) 1).bind fun YI=>
  (AF YI.1.1 I_.2.1.1 I_.2.1.2.1 I_.2.1.2.2.1).bind fun Yx=>
  (AF (A7.length:Int) Yx.2.1.1 Yx.2.1.2.1 Yx.2.1.2.2.1).bind fun OH=>
  (Ct (A7,Aq,()) (JZ,Ig,b7,b8,Ja,b9,()) (AX (1+Yx.1.1)) OH.1.1).bind fun V6=>
  cond (V6.1.1.2.1)
   (cJ (AX (t12+1)) OH.2.1.1 OH.2.1.2.1 OH.2.1.2.2.1 A7 Aq Iy JX MZ b3 b4 b5 V6.1.1.1.1 V6.1.1.1.2.1 V6.1.1.1.2.2.2.2.1 V6.2.1 V6.2.2.1 V6.2.2.2.1)
  (cJ (AX (t12+1)) OH.2.1.1 OH.2.1.2.1 OH.2.1.2.2.1 A7 Aq Iy JX MZ b3 b4 b5 JZ Ig Ja b7 b8 b9))
 (some (((JZ,Ig,(),(),Ja,(),()),()),((I_.2.1.1,I_.2.1.2.1,I_.2.1.2.2.1,()),b7,b8,b9,())))
mutual
def BL:Nat→Hv
 |0=>fun _ _ _ _ _ _ _ _ _ _ _ _ _ _ _ _ _ _ _=>none
 |n+1=>Ip (BL n) (Ar n)
def Ar:Nat→HP
 |0=>fun _ _ _ _ _ _ _ _ _ _ _ _ _ _ _ _ _ _=>none
 |n+1=>IY (BL n) (Ar n)
end
def I6(R4:Hv)(cJ:HP)(p1:AAw)(AH:AAg)(AJ AR:Int):Option Es:=
 (AF 2 AH AJ AR).bind fun u1=>
 (I2 (AX (1+u1.1.1)) 4).bind fun u2=>
 (AF 5 u1.2.1.1 u1.2.1.2.1 u1.2.1.2.2.1).bind fun u3=>
 R4 u3.1.1 0 u3.2.1.1 u3.2.1.2.1 u3.2.1.2.2.1 p1.1 p1.2.1 0 0 false [] [] [] u2.1.1.1 u2.1.1.2.1 u2.1.1.2.2.2.2.1 u2.2.1 u2.2.2.1 u2.2.2.2.1
def IE(p1:AAw)(AH:AAg)(AJ AR:Int):Option Es:=I6 (BL Aa) (Ar Aa) p1 AH AJ AR
abbrev TC:Type:=ADY×AF7
def Ox(p1:AAw)(AH:AAg)(AJ AR:Int):Option TC:=
 (IE (p1.1,p1.2.1,()) AH AJ AR).bind fun u1=>
 (AF 25 u1.2.1.1 u1.2.1.2.1 u1.2.1.2.2.1).bind fun u2=>
 cond (u2.1.1==0)
  ((Ba [u1.1.1.2.1,30,31] u2.2.1.1 u2.2.1.2.1 u2.2.1.2.2.1).bind fun u3=>
  some (((u3.1.1,u1.1.1.2.1,(),(),u1.1.1.2.2.2.2.1,(),()),()),((u3.2.1.1,u3.2.1.2.1,u3.2.1.2.2.1,()),u1.2.2.1,u1.2.2.2.1,u1.2.2.2.2.1,())))
 (cond (u2.1.1==1)
  (some (((u1.1.1.1,u1.1.1.2.1,(),(),!u1.1.1.2.2.2.2.1,(),()),()),((u2.2.1.1,u2.2.1.2.1,u2.2.1.2.2.1,()),u1.2.2.1,u1.2.2.2.1,u1.2.2.2.2.1,())))
 (cond (u2.1.1==2)
  ((DK (p1.1,p1.2.1,()) u2.2.1.1 u2.2.1.2.1 u2.2.1.2.2.1).bind fun u4=>
  if u1.2.2.2.2.1.length+1≤DH then(
  some (((u1.1.1.1,u1.1.1.2.1,(),(),u1.1.1.2.2.2.2.1,(),()),()),((u4.2.1.1,u4.2.1.2.1,u4.2.1.2.2.1,()),u1.2.2.1,u1.2.2.2.1,(u1.2.2.2.2.1++[u4.2.2.1]),())))else none)
 (cond (u2.1.1==3)
  ((MY u2.2.1.1 u2.2.1.2.1 u2.2.1.2.2.1).bind fun u9=>
  if u1.2.2.2.1.length+1≤DH then(
  some (((u1.1.1.1,u1.1.1.2.1,(),(),u1.1.1.2.2.2.2.1,(),()),()),((u9.2.1.1,u9.2.1.2.1,u9.2.1.2.2.1,()),u1.2.2.1,(u1.2.2.2.1++[(u9.1.1.1,u9.1.1.2.1,u9.1.1.2.2.1,u9.1.1.2.2.2.1,())]),u1.2.2.2.2.1,())))else none)
 (cond (u2.1.1==4)
  ((DK (p1.1,p1.2.1,()) u2.2.1.1 u2.2.1.2.1 u2.2.1.2.2.1).bind fun Jw=>
  some (((u1.1.1.1,u1.1.1.2.1,(),(),u1.1.1.2.2.2.2.1,(),()),()),((Jw.2.1.1,Jw.2.1.2.1,Jw.2.1.2.2.1,()),Jw.2.2.1,u1.2.2.2.1,u1.2.2.2.2.1,())))
 (some (((u1.1.1.1,u1.1.1.2.1,(),(),u1.1.1.2.2.2.2.1,(),()),()),((u2.2.1.1,u2.2.1.2.1,u2.2.1.2.2.1,()),u1.2.2.1,u1.2.2.2.1,u1.2.2.2.2.1,())))))))
abbrev D7:Type:=ADj×(ABP×ACm×Unit)
abbrev JY:Type:=Int→List Int→Int→Int→Int→Int→ACm→Int→Int→ACm→Option D7
def LN(R3:JY)(t4:Int)(AH:AAg)(AJ AR A7 Aq:Int)(b2:ACm)(Xa WK:Int)(b4:ACm):Option D7:=
 (AF 4 AH AJ AR).bind fun u3=>
 cond (decide (t4<u3.1.1))
  ((AF 5 u3.2.1.1 u3.2.1.2.1 u3.2.1.2.2.1).bind fun u4=>
  (CV u4.2.1.1 u4.2.1.2.1 u4.2.1.2.2.1).bind fun u5=>
  if b4.length+1≤DH then(
  R3 (AX (t4+1)) u5.2.1.1 u5.2.1.2.1 u5.2.1.2.2.1 A7 Aq b2 Xa WK (b4++[(AX (1+u4.1.1),u5.1.1,[],())]))else none)
 ((AF 25 u3.2.1.1 u3.2.1.2.1 u3.2.1.2.2.1).bind fun Th=>
 cond (Th.1.1==0)
  ((Ba [0,31,32] Th.2.1.1 Th.2.1.2.1 Th.2.1.2.2.1).bind fun Jw=>
  some (((Jw.1.1,WK,(),()),()),((Jw.2.1.1,Jw.2.1.2.1,Jw.2.1.2.2.1,()),b4,())))
 (cond (Th.1.1==1)
  ((Ba [0,60,61,62] Th.2.1.1 Th.2.1.2.1 Th.2.1.2.2.1).bind fun jr=>
  some (((Xa,jr.1.1,(),()),()),((jr.2.1.1,jr.2.1.2.1,jr.2.1.2.2.1,()),b4,())))
 (cond (Th.1.1==2)
  ((AF 2 Th.2.1.1 Th.2.1.2.1 Th.2.1.2.2.1).bind fun u16=>
  if(0:Int)≤(AX (120+u16.1.1))∧(AX (120+u16.1.1))≤(AX (120+u16.1.1))∧(AX (120+u16.1.1))≤(DH:Int)then(
  some (((Xa,WK,(),()),()),((u16.2.1.1,u16.2.1.2.1,u16.2.1.2.2.1,()),(List.replicate ((AX (120+u16.1.1)).toNat) (0,0,[],())),())))else none)
 (some (((Xa,WK,(),()),()),((Th.2.1.1,Th.2.1.2.1,Th.2.1.2.2.1,()),b4,()))))))
def El:Nat→JY
 |0=>fun _ _ _ _ _ _ _ _ _ _=>none
 |n+1=>LN (El n)
def LH(R3:JY)(AH:AAg)(AJ AR:Int):Option D7:=
 (AF 3 AH AJ AR).bind fun u1=>
 (AF 5 u1.2.1.1 u1.2.1.2.1 u1.2.1.2.2.1).bind fun u2=>
 R3 0 u2.2.1.1 u2.2.1.2.1 u2.2.1.2.2.1 0 0 [] (AX (1+u1.1.1)) (AX (1+u2.1.1)) []
def Ga(AH:AAg)(AJ AR:Int):Option D7:=LH (El Aa) AH AJ AR
abbrev Ww:Type:=AD1×(ABP×List Int×AAj×List Int×AAi×AAn×AAt×AAv×AAm×Unit)
def Fc(p1 AH:AAg)(AJ AR:Int):Option Ww:=
 (O8 p1 40 90).bind fun u1=>
 (HM u1.1.1 AH AJ AR).bind fun u2=>
 let x4:AAg:=u2.2.2.2.2.2.2.2.2.2.2.2.1
 let x5:AAj:=u2.2.2.2.2.2.2.2.2.2.2.2.2.1
 let x6:AAg:=u2.2.2.2.2.2.2.2.2.2.2.2.2.2.1
 let x7:AAi:=u2.2.2.2.2.2.2.2.2.2.2.2.2.2.2.1
 let x8:AAn:=u2.2.2.2.2.2.2.2.2.2.2.2.2.2.2.2.1
 let x9:AAt:=u2.2.2.2.2.2.2.2.2.2.2.2.2.2.2.2.2.1
 let x10:AAv:=u2.2.2.2.2.2.2.2.2.2.2.2.2.2.2.2.2.2.1
 let VQ:AAm:=u2.2.2.2.2.2.2.2.2.2.2.2.2.2.2.2.2.2.2.1
 (AF 40 u2.2.1.1 u2.2.1.2.1 u2.2.1.2.2.1).bind fun Cj=>
 cond (Cj.1.1==0)
  ((DK (x4,u2.1.1.2.2.1.2.1,()) Cj.2.1.1 Cj.2.1.2.1 Cj.2.1.2.2.1).bind fun Th=>
  some ((((),u2.1.1.2.2.1.2.1,(),(),(),u2.1.1.2.2.1.2.2.2.2.2.1,(),(),(),(),u2.1.1.2.2.1.2.2.2.2.2.2.2.2.2.2.1,()),()),((Th.2.1.1,Th.2.1.2.1,Th.2.1.2.2.1,()),x4,x5,Th.2.2.1,x7,x8,x9,x10,VQ,())))
 (cond (Cj.1.1==1)
  ((PD Cj.2.1.1 Cj.2.1.2.1 Cj.2.1.2.2.1).bind fun Jw=>
  if(0:Int)≤(0:Int)∧(0:Int)<(x5.length:Int)then(
  some ((((),u2.1.1.2.2.1.2.1,(),(),(),u2.1.1.2.2.1.2.2.2.2.2.1,(),(),(),(),u2.1.1.2.2.1.2.2.2.2.2.2.2.2.2.2.1,()),()),((Jw.2.1.1,Jw.2.1.2.1,Jw.2.1.2.2.1,()),x4,(x5.set 0 (Jw.2.2.1,Jw.2.2.2.1,Jw.1.1.2.2.1,())),x6,x7,x8,x9,x10,VQ,())))else none)
 (cond (Cj.1.1==2)
  ((O7 (x4,u2.1.1.2.2.1.2.1,()) Cj.2.1.1 Cj.2.1.2.1 Cj.2.1.2.2.1).bind fun u16=>
  some ((((),u2.1.1.2.2.1.2.1,(),(),(),u16.1.1.2.1,(),(),(),(),u2.1.1.2.2.1.2.2.2.2.2.2.2.2.2.2.1,()),()),((u16.2.1.1,u16.2.1.2.1,u16.2.1.2.2.1,()),x4,x5,x6,u16.2.2.1,x8,x9,x10,VQ,())))
 (cond (Cj.1.1==3)
  ((J0 (x4,u2.1.1.2.2.1.2.1,()) Cj.2.1.1 Cj.2.1.2.1 Cj.2.1.2.2.1).bind fun UM=>
  if x8.length+1≤DH then(
  some ((((),u2.1.1.2.2.1.2.1,(),(),(),u2.1.1.2.2.1.2.2.2.2.2.1,(),(),(),(),u2.1.1.2.2.1.2.2.2.2.2.2.2.2.2.2.1,()),()),((UM.2.1.1,UM.2.1.2.1,UM.2.1.2.2.1,()),x4,x5,x6,x7,(x8++[(UM.1.1.1,UM.2.2.1,())]),x9,x10,VQ,())))else none)
 (cond (Cj.1.1==4)
  ((Ox (x4,u2.1.1.2.2.1.2.1,()) Cj.2.1.1 Cj.2.1.2.1 Cj.2.1.2.2.1).bind fun I_=>
  if x9.length+1≤DH then(
  some ((((),u2.1.1.2.2.1.2.1,(),(),(),u2.1.1.2.2.1.2.2.2.2.2.1,(),(),(),(),u2.1.1.2.2.1.2.2.2.2.2.2.2.2.2.2.1,()),()),((I_.2.1.1,I_.2.1.2.1,I_.2.1.2.2.1,()),x4,x5,x6,x7,x8,(x9++[(I_.1.1.1,I_.1.1.2.1,I_.2.2.1,I_.2.2.2.1,I_.1.1.2.2.2.2.1,I_.2.2.2.2.1,())]),x10,VQ,())))else none)
 (cond (Cj.1.1==5)
  ((Ga Cj.2.1.1 Cj.2.1.2.1 Cj.2.1.2.2.1).bind fun bU=>
  if(0:Int)≤(0:Int)∧(0:Int)<(x10.length:Int)then(
  some ((((),u2.1.1.2.2.1.2.1,(),(),(),u2.1.1.2.2.1.2.2.2.2.2.1,(),(),(),(),u2.1.1.2.2.1.2.2.2.2.2.2.2.2.2.2.1,()),()),((bU.2.1.1,bU.2.1.2.1,bU.2.1.2.2.1,()),x4,x5,x6,x7,x8,x9,(x10.set 0 (bU.1.1.1,bU.1.1.2.1,bU.2.2.1,())),VQ,())))else none)
 (cond (Cj.1.1==6)
  ((CV Cj.2.1.1 Cj.2.1.2.1 Cj.2.1.2.2.1).bind fun U5=>
  if VQ.length+1≤DH then(
  some ((((),u2.1.1.2.2.1.2.1,(),(),(),u2.1.1.2.2.1.2.2.2.2.2.1,(),(),(),(),u2.1.1.2.2.1.2.2.2.2.2.2.2.2.2.2.1,()),()),((U5.2.1.1,U5.2.1.2.1,U5.2.1.2.2.1,()),x4,x5,x6,x7,x8,x9,x10,(VQ++[(U5.1.1,[],false,())]),())))else none)
 (cond (Cj.1.1==7)
  (some ((((),u2.1.1.2.2.1.2.1,(),(),(),u2.1.1.2.2.1.2.2.2.2.2.1,(),(),(),(),!u2.1.1.2.2.1.2.2.2.2.2.2.2.2.2.2.1,()),()),((Cj.2.1.1,Cj.2.1.2.1,Cj.2.1.2.2.1,()),x4,x5,x6,x7,x8,x9,x10,VQ,())))
 (cond (Cj.1.1==8)
  ((MT Cj.2.1.1 Cj.2.1.2.1 Cj.2.1.2.2.1).bind fun ae=>
  some ((((),ae.1.1.2.1,(),(),(),u2.1.1.2.2.1.2.2.2.2.2.1,(),(),(),(),u2.1.1.2.2.1.2.2.2.2.2.2.2.2.2.2.1,()),()),((ae.2.1.1,ae.2.1.2.1,ae.2.1.2.2.1,()),ae.2.2.1,x5,x6,x7,x8,x9,x10,VQ,())))
 (some ((((),u2.1.1.2.2.1.2.1,(),(),(),u2.1.1.2.2.1.2.2.2.2.2.1,(),(),(),(),u2.1.1.2.2.1.2.2.2.2.2.2.2.2.2.2.1,()),()),((Cj.2.1.1,Cj.2.1.2.1,Cj.2.1.2.2.1,()),x4,x5,x6,x7,x8,x9,x10,VQ,())))))))))))
abbrev Wu:Type:=ABD×ABr
def HT(p1:AA7)(AH:AAg)(AJ AR:Int):Option Wu:=
 cond (decide ((p1.2.2.2.2.2.2.2.2.2.1.length:Int)>0))
  ((Aj 4 AH AJ AR).bind fun u2=>
  cond (!u2.1.1)
   ((AF (p1.2.2.2.2.2.2.2.2.2.1.length:Int) u2.2.1.1 u2.2.1.2.1 u2.2.1.2.2.1).bind fun u4=>
   if(0:Int)≤u4.1.1∧u4.1.1<(p1.2.2.2.2.2.2.2.2.2.1.length:Int)then(
   some ((((p1.2.2.2.2.2.2.2.2.2.1.getD (u4.1.1.toNat) (0,[],false,())).1),()),((u4.2.1.1,u4.2.1.2.1,u4.2.1.2.2.1,()),())))else none)
  ((CV u2.2.1.1 u2.2.1.2.1 u2.2.1.2.2.1).bind fun u6=>
  some ((u6.1.1,()),((u6.2.1.1,u6.2.1.2.1,u6.2.1.2.2.1,()),()))))
 ((CV AH AJ AR).bind fun u7=>
 some ((u7.1.1,()),((u7.2.1.1,u7.2.1.2.1,u7.2.1.2.2.1,()),())))
abbrev H8:Type:=AD1×ACL
def QO(p0:AAg):Option H8:=
 (RX p0).bind fun u1=>
 (Fc p0 u1.2.1.1 u1.2.1.2.1 u1.2.1.2.2.1).bind fun u2=>
 let x3:AAm:=u2.2.2.2.2.2.2.2.2.2.1
 (Kr (u2.2.2.1,u2.1.1.2.1,u2.2.2.2.1,u2.2.2.2.2.1,u2.2.2.2.2.2.1,u2.1.1.2.2.2.2.2.1,u2.2.2.2.2.2.2.1,u2.2.2.2.2.2.2.2.1,u2.2.2.2.2.2.2.2.2.1,x3,u2.1.1.2.2.2.2.2.2.2.2.2.2.1,())).bind fun u4=>
 cond (!u4.1.1)
  (some ((((),u2.1.1.2.1,(),(),(),u2.1.1.2.2.2.2.2.1,(),(),(),(),u2.1.1.2.2.2.2.2.2.2.2.2.2.1,()),()),(u2.2.2.1,u2.2.2.2.1,u2.2.2.2.2.1,u2.2.2.2.2.2.1,u2.2.2.2.2.2.2.1,u2.2.2.2.2.2.2.2.1,u2.2.2.2.2.2.2.2.2.1,x3,())))
 ((AF 2 u2.2.1.1 u2.2.1.2.1 u2.2.1.2.2.1).bind fun u5=>
 if(0:Int)≤u5.1.1∧u5.1.1<(u2.2.2.2.2.2.2.2.2.1.length:Int)then(
 let x6:Int:=(((u2.2.2.2.2.2.2.2.2.1.getD (u5.1.1.toNat) (0,0,[],())).2.2.1).length:Int)
 cond (x6==0)
  (some ((((),u2.1.1.2.1,(),(),(),u2.1.1.2.2.2.2.2.1,(),(),(),(),u2.1.1.2.2.2.2.2.2.2.2.2.2.1,()),()),(u2.2.2.1,u2.2.2.2.1,u2.2.2.2.2.1,u2.2.2.2.2.2.1,u2.2.2.2.2.2.2.1,u2.2.2.2.2.2.2.2.1,u2.2.2.2.2.2.2.2.2.1,x3,())))
 ((AF x6 u5.2.1.1 u5.2.1.2.1 u5.2.1.2.2.1).bind fun u7=>
 (AF 9 u7.2.1.1 u7.2.1.2.1 u7.2.1.2.2.1).bind fun u8=>
 cond (u8.1.1==0)
  (if(0:Int)≤u5.1.1∧u5.1.1<(u2.2.2.2.2.2.2.2.2.1.length:Int)then(
  (AF 5 u8.2.1.1 u8.2.1.2.1 u8.2.1.2.2.1).bind fun u9=>
  if(0:Int)≤u7.1.1∧u7.1.1<(((u2.2.2.2.2.2.2.2.2.1.getD (u5.1.1.toNat) (0,0,[],())).2.2.1).length:Int)then(
  some ((((),u2.1.1.2.1,(),(),(),u2.1.1.2.2.2.2.2.1,(),(),(),(),u2.1.1.2.2.2.2.2.2.2.2.2.2.1,()),()),(u2.2.2.1,u2.2.2.2.1,u2.2.2.2.2.1,u2.2.2.2.2.2.1,u2.2.2.2.2.2.2.1,u2.2.2.2.2.2.2.2.1,(u2.2.2.2.2.2.2.2.2.1.set (u5.1.1.toNat) ((u2.2.2.2.2.2.2.2.2.1.getD (u5.1.1.toNat) (0,0,[],())).1,(u2.2.2.2.2.2.2.2.2.1.getD (u5.1.1.toNat) (0,0,[],())).2.1,(((u2.2.2.2.2.2.2.2.2.1.getD (u5.1.1.toNat) (0,0,[],())).2.2.1).set (u7.1.1.toNat) (AX (1+u9.1.1),(((u2.2.2.2.2.2.2.2.2.1.getD (u5.1.1.toNat) (0,0,[],())).2.2.1).getD (u7.1.1.toNat) (0,0,[],())).2.1,(((u2.2.2.2.2.2.2.2.2.1.getD (u5.1.1.toNat) (0,0,[],())).2.2.1).getD (u7.1.1.toNat) (0,0,[],())).2.2.1,())),())),x3,())))else none)else none)
 (cond (u8.1.1==1)
  (if(0:Int)≤u5.1.1∧u5.1.1<(u2.2.2.2.2.2.2.2.2.1.length:Int)then(
  if(0:Int)≤u7.1.1∧u7.1.1<(((u2.2.2.2.2.2.2.2.2.1.getD (u5.1.1.toNat) (0,0,[],())).2.2.1).length:Int)then(
  some ((((),u2.1.1.2.1,(),(),(),u2.1.1.2.2.2.2.2.1,(),(),(),(),u2.1.1.2.2.2.2.2.2.2.2.2.2.1,()),()),(u2.2.2.1,u2.2.2.2.1,u2.2.2.2.2.1,u2.2.2.2.2.2.1,u2.2.2.2.2.2.2.1,u2.2.2.2.2.2.2.2.1,(u2.2.2.2.2.2.2.2.2.1.set (u5.1.1.toNat) ((u2.2.2.2.2.2.2.2.2.1.getD (u5.1.1.toNat) (0,0,[],())).1,(u2.2.2.2.2.2.2.2.2.1.getD (u5.1.1.toNat) (0,0,[],())).2.1,(((u2.2.2.2.2.2.2.2.2.1.getD (u5.1.1.toNat) (0,0,[],())).2.2.1).set (u7.1.1.toNat) ((((u2.2.2.2.2.2.2.2.2.1.getD (u5.1.1.toNat) (0,0,[],())).2.2.1).getD (u7.1.1.toNat) (0,0,[],())).1,(((u2.2.2.2.2.2.2.2.2.1.getD (u5.1.1.toNat) (0,0,[],())).2.2.1).getD (u7.1.1.toNat) (0,0,[],())).2.1,[122],())),())),x3,())))else none)else none)
 (cond (u8.1.1==2)
  (if(0:Int)≤u5.1.1∧u5.1.1<(u2.2.2.2.2.2.2.2.2.1.length:Int)then(
  if(0:Int)≤(0:Int)∧(0:Int)≤AX (x6-1)∧AX (x6-1)≤(((u2.2.2.2.2.2.2.2.2.1.getD (u5.1.1.toNat) (0,0,[],())).2.2.1).length:Int)then(
  if(0:Int)≤u5.1.1∧u5.1.1<(u2.2.2.2.2.2.2.2.2.1.length:Int)then(
  some ((((),u2.1.1.2.1,(),(),(),u2.1.1.2.2.2.2.2.1,(),(),(),(),u2.1.1.2.2.2.2.2.2.2.2.2.2.1,()),()),(u2.2.2.1,u2.2.2.2.1,u2.2.2.2.2.1,u2.2.2.2.2.2.1,u2.2.2.2.2.2.2.1,u2.2.2.2.2.2.2.2.1,(u2.2.2.2.2.2.2.2.2.1.set (u5.1.1.toNat) ((u2.2.2.2.2.2.2.2.2.1.getD (u5.1.1.toNat) (0,0,[],())).1,(u2.2.2.2.2.2.2.2.2.1.getD (u5.1.1.toNat) (0,0,[],())).2.1,((((u2.2.2.2.2.2.2.2.2.1.getD (u5.1.1.toNat) (0,0,[],())).2.2.1).drop 0).take (((AX (x6-1)).toNat)-0)),())),x3,())))else none)else none)else none)
 (cond (u8.1.1==3)
  (if(0:Int)≤u5.1.1∧u5.1.1<(u2.2.2.2.2.2.2.2.2.1.length:Int)then(
  (HT (u2.2.2.1,u2.1.1.2.1,u2.2.2.2.1,u2.2.2.2.2.1,u2.2.2.2.2.2.1,u2.1.1.2.2.2.2.2.1,u2.2.2.2.2.2.2.1,u2.2.2.2.2.2.2.2.1,u2.2.2.2.2.2.2.2.2.1,x3,u2.1.1.2.2.2.2.2.2.2.2.2.2.1,()) u8.2.1.1 u8.2.1.2.1 u8.2.1.2.2.1).bind fun jr=>
  if(0:Int)≤u7.1.1∧u7.1.1<(((u2.2.2.2.2.2.2.2.2.1.getD (u5.1.1.toNat) (0,0,[],())).2.2.1).length:Int)then(
  some ((((),u2.1.1.2.1,(),(),(),u2.1.1.2.2.2.2.2.1,(),(),(),(),u2.1.1.2.2.2.2.2.2.2.2.2.2.1,()),()),(u2.2.2.1,u2.2.2.2.1,u2.2.2.2.2.1,u2.2.2.2.2.2.1,u2.2.2.2.2.2.2.1,u2.2.2.2.2.2.2.2.1,(u2.2.2.2.2.2.2.2.2.1.set (u5.1.1.toNat) ((u2.2.2.2.2.2.2.2.2.1.getD (u5.1.1.toNat) (0,0,[],())).1,(u2.2.2.2.2.2.2.2.2.1.getD (u5.1.1.toNat) (0,0,[],())).2.1,(((u2.2.2.2.2.2.2.2.2.1.getD (u5.1.1.toNat) (0,0,[],())).2.2.1).set (u7.1.1.toNat) ((((u2.2.2.2.2.2.2.2.2.1.getD (u5.1.1.toNat) (0,0,[],())).2.2.1).getD (u7.1.1.toNat) (0,0,[],())).1,jr.1.1,(((u2.2.2.2.2.2.2.2.2.1.getD (u5.1.1.toNat) (0,0,[],())).2.2.1).getD (u7.1.1.toNat) (0,0,[],())).2.2.1,())),())),x3,())))else none)else none)
 (some ((((),u2.1.1.2.1,(),(),(),u2.1.1.2.2.2.2.2.1,(),(),(),(),u2.1.1.2.2.2.2.2.2.2.2.2.2.1,()),()),(u2.2.2.1,u2.2.2.2.1,u2.2.2.2.2.1,u2.2.2.2.2.2.1,u2.2.2.2.2.2.2.1,u2.2.2.2.2.2.2.2.1,u2.2.2.2.2.2.2.2.2.1,x3,()))))))))else none)
abbrev Zd:Type:=ABU×ACL
def NY(p0:AAg):Option Zd:=
 (QO p0).bind fun u1=>
 (RX p0).bind fun u2=>
 (HT (u1.2.1,u1.1.1.2.1,u1.2.2.1,u1.2.2.2.1,u1.2.2.2.2.1,u1.1.1.2.2.2.2.2.1,u1.2.2.2.2.2.1,u1.2.2.2.2.2.2.1,u1.2.2.2.2.2.2.2.1,u1.2.2.2.2.2.2.2.2.1,u1.1.1.2.2.2.2.2.2.2.2.2.2.1,()) u2.2.1.1 u2.2.1.2.1 u2.2.1.2.2.1).bind fun u3=>
 some (((((),u1.1.1.2.1,(),(),(),u1.1.1.2.2.2.2.2.1,(),(),(),(),u1.1.1.2.2.2.2.2.2.2.2.2.2.1,()),u3.1.1,()),()),(u1.2.1,u1.2.2.1,u1.2.2.2.1,u1.2.2.2.2.1,u1.2.2.2.2.2.1,u1.2.2.2.2.2.2.1,u1.2.2.2.2.2.2.2.1,u1.2.2.2.2.2.2.2.2.1,()))
abbrev Qj:Type:=ABK×(AAm×Unit)
abbrev TV:Type:=AAm→Int→Int→List Int→Int→AAj→List Int→AAi→Int→AAn→AAt→AAv→AAm→Bool→AAm→Option Qj
def Tf(R5:TV)(t12:AAm)(t13 t14:Int)(AH:AAg)(AJ:Int)(AR:AAj)(DD:AAg)(EN:AAi)(Cz:Int)(C3:AAn)(Cq:AAt)(Ea:AAv)(Db:AAm)(CS:Bool)(b1:AAm):Option Qj:=
 cond (decide (t14<t13))
  (if(0:Int)≤t14∧t14<(t12.length:Int)then(
  cond (((t12.getD (t14.toNat) (0,[],false,())).2.2.1))
   (cond (decide (((t12.getD (t14.toNat) (0,[],false,())).1)>Cz))
    (if b1.length+1≤DH then(
    R5 t12 t13 (AX (t14+1)) AH AJ AR DD EN Cz C3 Cq Ea Db CS (b1++[((t12.getD (t14.toNat) (0,[],false,())).1,(t12.getD (t14.toNat) (0,[],false,())).2.1,(t12.getD (t14.toNat) (0,[],false,())).2.2.1,())]))else none)
   (R5 t12 t13 (AX (t14+1)) AH AJ AR DD EN Cz C3 Cq Ea Db CS b1))
  (R5 t12 t13 (AX (t14+1)) AH AJ AR DD EN Cz C3 Cq Ea Db CS b1))else none)
 (some (((),()),(b1,())))
def LU:Nat→TV
 |0=>fun _ _ _ _ _ _ _ _ _ _ _ _ _ _ _=>none
 |n+1=>Tf (LU n)
def Tx(R5:TV)(p0:AA7):Option Qj:=
 (QY (p0.1,p0.2.1,p0.2.2.1,p0.2.2.2.1,p0.2.2.2.2.1,p0.2.2.2.2.2.1,p0.2.2.2.2.2.2.1,p0.2.2.2.2.2.2.2.1,p0.2.2.2.2.2.2.2.2.1,p0.2.2.2.2.2.2.2.2.2.1,p0.2.2.2.2.2.2.2.2.2.2.1,())).bind fun u1=>
 cond (!u1.1.1)
  (some (((),()),([],())))
 (R5 p0.2.2.2.2.2.2.2.2.2.1 (p0.2.2.2.2.2.2.2.2.2.1.length:Int) 0 p0.1 p0.2.1 p0.2.2.1 p0.2.2.2.1 p0.2.2.2.2.1 p0.2.2.2.2.2.1 p0.2.2.2.2.2.2.1 p0.2.2.2.2.2.2.2.1 p0.2.2.2.2.2.2.2.2.1 p0.2.2.2.2.2.2.2.2.2.1 p0.2.2.2.2.2.2.2.2.2.2.1 [])
def Rc(p0:AA7):Option Qj:=Tx (LU Aa) p0
abbrev QD:Type:=(AF8×Unit)×Unit
abbrev TA:Type:=Int→Int→Int→AAm→Option QD
def T9(R2:TA)(t1 t10 t11:Int)(b0:AAm):Option QD:=
 cond (decide (t11<t10))
  (if(0:Int)≤t11∧t11<(b0.length:Int)then(
  cond (((b0.getD (t11.toNat) (0,[],false,())).1)==t1)
   (some (((((b0.getD (t11.toNat) (0,[],false,())).2.1),true,()),()),()))
  (R2 t1 t10 (AX (t11+1)) b0))else none)
 (some ((([],false,()),()),()))
def LX:Nat→TA
 |0=>fun _ _ _ _=>none
 |n+1=>T9 (LX n)
def T_(R2:TA)(p0:AA7)(p1:Int):Option QD:=
 (Rc (p0.1,p0.2.1,p0.2.2.1,p0.2.2.2.1,p0.2.2.2.2.1,p0.2.2.2.2.2.1,p0.2.2.2.2.2.2.1,p0.2.2.2.2.2.2.2.1,p0.2.2.2.2.2.2.2.2.1,p0.2.2.2.2.2.2.2.2.2.1,p0.2.2.2.2.2.2.2.2.2.2.1,())).bind fun u1=>
 R2 p1 (u1.2.1.length:Int) 0 u1.2.1
def Qy(p0:AA7)(p1:Int):Option QD:=T_ (LX Aa) p0 p1
abbrev QG:Type:=ABK×(AAm×Unit)
abbrev S6:Type:=Int→List Int→Int→AAj→List Int→AAi→Int→AAn→AAt→AAv→AAm→Bool→AAm→Option QG
def OE(R3:S6)(t4:Int)(AH:AAg)(AJ:Int)(AR:AAj)(DD:AAg)(EN:AAi)(Cz:Int)(C3:AAn)(Cq:AAt)(Ea:AAv)(Db:AAm)(CS:Bool)(b1:AAm):Option QG:=
 cond ((decide (t4<(Db.length:Int))))
  ((Kr (AH,AJ,AR,DD,EN,Cz,C3,Cq,Ea,Db,CS,())).bind fun u2=>
  cond (u2.1.1)
   (if(0:Int)≤t4∧t4<(Db.length:Int)then(
   cond (((Db.getD (t4.toNat) (0,[],false,())).2.2.1))
    (if(0:Int)≤t4∧t4<(Db.length:Int)then(
    cond (decide (((Db.getD (t4.toNat) (0,[],false,())).1)>Cz))
     (if(0:Int)≤t4∧t4<(Db.length:Int)then(
     if b1.length+1≤DH then(
     R3 (AX (t4+1)) AH AJ AR DD EN Cz C3 Cq Ea Db CS (b1++[((Db.getD (t4.toNat) (0,[],false,())).1,(Db.getD (t4.toNat) (0,[],false,())).2.1,(Db.getD (t4.toNat) (0,[],false,())).2.2.1,())]))else none)else none)
    (R3 (AX (t4+1)) AH AJ AR DD EN Cz C3 Cq Ea Db CS b1))else none)
   (R3 (AX (t4+1)) AH AJ AR DD EN Cz C3 Cq Ea Db CS b1))else none)
  (some (((),()),(b1,()))))
 (some (((),()),(b1,())))
def JU:Nat→S6
 |0=>fun _ _ _ _ _ _ _ _ _ _ _ _ _=>none
 |n+1=>OE (JU n)
def Tz(R3:S6)(p0:AA7):Option QG:=
 R3 0 p0.1 p0.2.1 p0.2.2.1 p0.2.2.2.1 p0.2.2.2.2.1 p0.2.2.2.2.2.1 p0.2.2.2.2.2.2.1 p0.2.2.2.2.2.2.2.1 p0.2.2.2.2.2.2.2.2.1 p0.2.2.2.2.2.2.2.2.2.1 p0.2.2.2.2.2.2.2.2.2.2.1 []
def Q5(p0:AA7):Option QG:=Tz (JU Aa) p0
abbrev P_:Type:=(AF8×Unit)×Unit
abbrev S5:Type:=Int→Int→AAm→Option P_
def UB(R3:S5)(t1 t7:Int)(b0:AAm):Option P_:=
 cond ((decide (t7<(b0.length:Int))))
  (if(0:Int)≤t7∧t7<(b0.length:Int)then(
  cond (((b0.getD (t7.toNat) (0,[],false,())).1)==t1)
   (if(0:Int)≤t7∧t7<(b0.length:Int)then(
   some (((((b0.getD (t7.toNat) (0,[],false,())).2.1),true,()),()),()))else none)
  (R3 t1 (AX (t7+1)) b0))else none)
 (some ((([],false,()),()),()))
def LD:Nat→S5
 |0=>fun _ _ _=>none
 |n+1=>UB (LD n)
def UE(R3:S5)(p0:AA7)(p1:Int):Option P_:=
 (Q5 (p0.1,p0.2.1,p0.2.2.1,p0.2.2.2.1,p0.2.2.2.2.1,p0.2.2.2.2.2.1,p0.2.2.2.2.2.2.1,p0.2.2.2.2.2.2.2.1,p0.2.2.2.2.2.2.2.2.1,p0.2.2.2.2.2.2.2.2.2.1,p0.2.2.2.2.2.2.2.2.2.2.1,())).bind fun u1=>
 R3 p1 0 u1.2.1
def U2(p0:AA7)(p1:Int):Option P_:=UE (LD Aa) p0 p1
abbrev Mt:Type:=AA4×Unit
abbrev RF:Type:=Int→List UInt8→Bool→Bool→Int→Int→Int→Bool→List Int→AAj→List Int→AAi→AAn→AAt→AAv→AAm→AAm→Option Mt
def SW(ZA:RF)(t4:Int)(t6:AA_)(t7 t10:Bool)(t11 AJ Cz:Int)(CS:Bool)(b1:AAg)(b2:AAj)(b3:AAg)(b4:AAi)(b5:AAn)(b6:AAt)(b7:AAv)(b8 b9:AAm):Option Mt:=
 cond ((decide (t11<(b9.length:Int))))
  (if(0:Int)≤t11∧t11<(b9.length:Int)then(
  (Qy (b1,AJ,b2,b3,b4,Cz,b5,b6,b7,b8,CS,()) ((b9.getD (t11.toNat) (0,[],false,())).1)).bind fun Cj=>
  cond (t10)
   (cond (!Cj.1.1.2.1)
    (some ((false,()),()))
   (if(0:Int)≤t11∧t11<(b9.length:Int)then(
   cond (!(Cj.1.1.1==((b9.getD (t11.toNat) (0,[],false,())).2.1)))
    (some ((false,()),()))
   (if(0:Int)≤t11∧t11<(b9.length:Int)then(
   cond (!((b9.getD (t11.toNat) (0,[],false,())).2.2.1))
    (some ((false,()),()))
   (if(0:Int)≤t11∧t11<(b9.length:Int)then(
   cond (decide (((b9.getD (t11.toNat) (0,[],false,())).1)≤Cz))
    (some ((false,()),()))
   (cond (decide (t11>0))
    (if(0:Int)≤AX (t11-1)∧AX (t11-1)<(b9.length:Int)then(
    if(0:Int)≤t11∧t11<(b9.length:Int)then(
    cond (decide (((b9.getD ((AX (t11-1)).toNat) (0,[],false,())).1)≥((b9.getD (t11.toNat) (0,[],false,())).1)))
     (some ((false,()),()))
    (ZA t4 t6 t7 true (AX (t11+1)) AJ Cz CS b1 b2 b3 b4 b5 b6 b7 b8 b9))else none)else none)
   (ZA t4 t6 t7 true (AX (t11+1)) AJ Cz CS b1 b2 b3 b4 b5 b6 b7 b8 b9)))else none))else none))else none))
  (if(0:Int)≤t11∧t11<(b9.length:Int)then(
  cond (((b9.getD (t11.toNat) (0,[],false,())).1)==t4)
   (if(0:Int)≤t11∧t11<(b9.length:Int)then(
   let x19:AA_:=(b9.getD (t11.toNat) (0,[],false,())).2.1
   cond (!Cj.1.1.2.1)
    (some ((false,()),()))
   (if(0:Int)≤t11∧t11<(b9.length:Int)then(
   cond (!(Cj.1.1.1==((b9.getD (t11.toNat) (0,[],false,())).2.1)))
    (some ((false,()),()))
   (if(0:Int)≤t11∧t11<(b9.length:Int)then(
   cond (!((b9.getD (t11.toNat) (0,[],false,())).2.2.1))
    (some ((false,()),()))
   (if(0:Int)≤t11∧t11<(b9.length:Int)then(
   cond (decide (((b9.getD (t11.toNat) (0,[],false,())).1)≤Cz))
    (some ((false,()),()))
   (cond (decide (t11>0))
    (if(0:Int)≤AX (t11-1)∧AX (t11-1)<(b9.length:Int)then(
    if(0:Int)≤t11∧t11<(b9.length:Int)then(
    cond (decide (((b9.getD ((AX (t11-1)).toNat) (0,[],false,())).1)≥((b9.getD (t11.toNat) (0,[],false,())).1)))
     (some ((false,()),()))
    (ZA t4 t6 t7 (x19==t6) (AX (t11+1)) AJ Cz CS b1 b2 b3 b4 b5 b6 b7 b8 b9))else none)else none)
   (ZA t4 t6 t7 (x19==t6) (AX (t11+1)) AJ Cz CS b1 b2 b3 b4 b5 b6 b7 b8 b9)))else none))else none))else none))else none)
  (cond (!Cj.1.1.2.1)
   (some ((false,()),()))
  (if(0:Int)≤t11∧t11<(b9.length:Int)then(
  cond (!(Cj.1.1.1==((b9.getD (t11.toNat) (0,[],false,())).2.1)))
   (some ((false,()),()))
  (if(0:Int)≤t11∧t11<(b9.length:Int)then(
  cond (!((b9.getD (t11.toNat) (0,[],false,())).2.2.1))
   (some ((false,()),()))
  (if(0:Int)≤t11∧t11<(b9.length:Int)then(
  cond (decide (((b9.getD (t11.toNat) (0,[],false,())).1)≤Cz))
   (some ((false,()),()))
  (cond (decide (t11>0))
   (if(0:Int)≤AX (t11-1)∧AX (t11-1)<(b9.length:Int)then(
   if(0:Int)≤t11∧t11<(b9.length:Int)then(
   cond (decide (((b9.getD ((AX (t11-1)).toNat) (0,[],false,())).1)≥((b9.getD (t11.toNat) (0,[],false,())).1)))
    (some ((false,()),()))
   (ZA t4 t6 t7 false (AX (t11+1)) AJ Cz CS b1 b2 b3 b4 b5 b6 b7 b8 b9))else none)else none)
  (ZA t4 t6 t7 false (AX (t11+1)) AJ Cz CS b1 b2 b3 b4 b5 b6 b7 b8 b9)))else none))else none))else none)))else none))else none)
 (cond (t10==t7)
  (cond (t7)
   (some ((true,()),()))
  (some ((t6==[],()),())))
 (some ((false,()),())))
def KE:Nat→RF
 |0=>fun _ _ _ _ _ _ _ _ _ _ _ _ _ _ _ _ _=>none
 |n+1=>SW (KE n)
def UA(ZA:RF)(p0:AAg):Option Mt:=
 (cY p0).bind fun u1=>
 cond (u1.1.1)
  (some ((true,()),()))
 ((NY p0).bind fun u2=>
 (Rc (u2.2.1,u2.1.1.1.2.1,u2.2.2.1,u2.2.2.2.1,u2.2.2.2.2.1,u2.1.1.1.2.2.2.2.2.1,u2.2.2.2.2.2.1,u2.2.2.2.2.2.2.1,u2.2.2.2.2.2.2.2.1,u2.2.2.2.2.2.2.2.2.1,u2.1.1.1.2.2.2.2.2.2.2.2.2.2.1,())).bind fun u3=>
 (Qy (u2.2.1,u2.1.1.1.2.1,u2.2.2.1,u2.2.2.2.1,u2.2.2.2.2.1,u2.1.1.1.2.2.2.2.2.1,u2.2.2.2.2.2.1,u2.2.2.2.2.2.2.1,u2.2.2.2.2.2.2.2.1,u2.2.2.2.2.2.2.2.2.1,u2.1.1.1.2.2.2.2.2.2.2.2.2.2.1,()) u2.1.1.2.1).bind fun u4=>
 (U2 (u2.2.1,u2.1.1.1.2.1,u2.2.2.1,u2.2.2.2.1,u2.2.2.2.2.1,u2.1.1.1.2.2.2.2.2.1,u2.2.2.2.2.2.1,u2.2.2.2.2.2.2.1,u2.2.2.2.2.2.2.2.1,u2.2.2.2.2.2.2.2.2.1,u2.1.1.1.2.2.2.2.2.2.2.2.2.2.1,()) u2.1.1.2.1).bind fun u5=>
 cond ((u4.1.1.2.1 !=u5.1.1.2.1))
  (some ((false,()),()))
 ((Q5 (u2.2.1,u2.1.1.1.2.1,u2.2.2.1,u2.2.2.2.1,u2.2.2.2.2.1,u2.1.1.1.2.2.2.2.2.1,u2.2.2.2.2.2.1,u2.2.2.2.2.2.2.1,u2.2.2.2.2.2.2.2.1,u2.2.2.2.2.2.2.2.2.1,u2.1.1.1.2.2.2.2.2.2.2.2.2.2.1,())).bind fun u8=>
 cond ((u3.2.1.length:Int) !=(u8.2.1.length:Int))
  (some ((false,()),()))
 (ZA u2.1.1.2.1 u4.1.1.1 u4.1.1.2.1 false 0 u2.1.1.1.2.1 u2.1.1.1.2.2.2.2.2.1 u2.1.1.1.2.2.2.2.2.2.2.2.2.2.1 u2.2.1 u2.2.2.1 u2.2.2.2.1 u2.2.2.2.2.1 u2.2.2.2.2.2.1 u2.2.2.2.2.2.2.1 u2.2.2.2.2.2.2.2.1 u2.2.2.2.2.2.2.2.2.1 u3.2.1)))
def RD(p0:AAg):Option Mt:=UA (KE Aa) p0
end
end Go.M
