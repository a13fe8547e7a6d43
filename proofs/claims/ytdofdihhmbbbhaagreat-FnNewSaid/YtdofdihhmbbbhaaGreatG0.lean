/- What each function computes, printed by a program out of the translation; what is printed is checked in the equations. -/
import Derived.Test.YtdofdihhmbbbhaaGreatF1
set_option linter.unusedVariables false
set_option linter.unusedSimpArgs false
set_option linter.unusedSectionVars false
namespace Go.M
noncomputable section
abbrev Vm:Type:=m8×Unit
def Qm (p0:mr):Option Vm:=
 some (((decide ((p0.length:Int)>1048576)),()),())
abbrev JQ:Type:=nH×nP
abbrev Ky:Type:=List Int→Int→Int→Option JQ
def K6 (R3:Ky) (t0:mr) (t3 t4:Int):Option JQ:=
 cond ((decide (t4<(t0.length:Int))))
  (cond (decide (t4<4000))
   (if (0:Int)≤t4∧t4<(t0.length:Int) then (
   R3 t0 (RM .i64 (As ((As ((As (t3*131))+(As ((t0.getD (t4.toNat) 0)))))+7)) 1073741823) (As (t4+1))) else none)
  (some (((),()),((t0,0,t3,()),()))))
 (some (((),()),((t0,0,t3,()),())))
def GU:Nat→Ky
 |0=>fun _ _ _=>none
 |n+1=>K6 (GU n)
def LK (R3:Ky) (p0:mr):Option JQ:=
 R3 p0 (As (17817+(p0.length:Int))) 0
def Li (p0:mr):Option JQ:=LK (GU Ao) p0
abbrev R9:Type:=nD×nP
def Eg (AW:mr) (AL BM:Int):Option R9:=
 let x2:Int:=As ((As (BM*6364136223846793005))+1442695040888963407)
 let x3:Int:=dH .i64 (x2.fdiv (2^33)) (x2.fdiv (2^45))
 cond ((decide (AL<(AW.length:Int))))
  (if (0:Int)≤AL∧AL<(AW.length:Int) then (
  some ((RM .i64 (As ((RM .i64 x3 255)+(As ((AW.getD (AL.toNat) 0))))) 255,()),((AW,As (AL+1),x2,()),()))) else none)
 (some ((RM .i64 x3 255,()),((AW,AL,x2,()),())))
abbrev Qb:Type:=nD×nP
def DL (p1:Int) (AW:mr) (AL BM:Int):Option Qb:=
 cond (decide (p1≤0))
  (some ((0,()),((AW,AL,BM,()),())))
 (cond (decide (p1≤256))
  ((Eg AW AL BM).bind fun u1=>
  if p1=0 then none else (
  some ((u1.1.1.tmod p1,()),((u1.2.1.1,u1.2.1.2.1,u1.2.1.2.2.1,()),()))))
 ((Eg AW AL BM).bind fun u2=>
 (Eg u2.2.1.1 u2.2.1.2.1 u2.2.1.2.2.1).bind fun u3=>
 (Eg u3.2.1.1 u3.2.1.2.1 u3.2.1.2.2.1).bind fun u4=>
 (Eg u4.2.1.1 u4.2.1.2.1 u4.2.1.2.2.1).bind fun u5=>
 if p1=0 then none else (
 some ((((As ((As ((As ((As (u2.1.1*16777216))+(As (u3.1.1*65536))))+(As (u4.1.1*256))))+u5.1.1)).tmod p1),()),((u5.2.1.1,u5.2.1.2.1,u5.2.1.2.2.1,()),())))))
abbrev SF:Type:=m8×nP
def Kf (p1:Int) (AW:mr) (AL BM:Int):Option SF:=
 (DL p1 AW AL BM).bind fun u1=>
 some ((u1.1.1==0,()),((u1.2.1.1,u1.2.1.2.1,u1.2.1.2.2.1,()),()))
abbrev Ek:Type:=nO×nY
abbrev GH:Type:=Int→Int→List Int→Int→Int→Int→List Int→Int→List Int→Option Ek
def HX (R4:GH) (t4 t5:Int) (AW:mr) (AL BM DF:Int) (b2:mr) (d6:Int) (b4:mr):Option Ek:=
 cond (decide (t5<t4))
  ((DL 5 AW AL BM).bind fun u3=>
  if b4.length+1≤I8 then (
  R4 t4 (As (t5+1)) u3.2.1.1 u3.2.1.2.1 u3.2.1.2.2.1 DF b2 d6 (b4++[u3.1.1])) else none)
 ((Kf 2 AW AL BM).bind fun u5=>
 cond (u5.1.1)
  (some ((((),2,()),()),((u5.2.1.1,u5.2.1.2.1,u5.2.1.2.2.1,()),b4,())))
 (some ((((),d6,()),()),((u5.2.1.1,u5.2.1.2.1,u5.2.1.2.2.1,()),b4,()))))
def DE:Nat→GH
 |0=>fun _ _ _ _ _ _ _ _ _=>none
 |n+1=>HX (DE n)
def HH (R4:GH) (AW:mr) (AL BM:Int):Option Ek:=
 (DL 3 AW AL BM).bind fun u1=>
 (DL 5 u1.2.1.1 u1.2.1.2.1 u1.2.1.2.2.1).bind fun u2=>
 R4 (As (3+u2.1.1)) 0 u2.2.1.1 u2.2.1.2.1 u2.2.1.2.2.1 0 [] (As (1+u1.1.1)) []
def F9 (AW:mr) (AL BM:Int):Option Ek:=HH (DE Ao) AW AL BM
abbrev PE:Type:=nD×nP
def EN (p1 AW:mr) (AL BM:Int):Option PE:=
 (DL (p1.length:Int) AW AL BM).bind fun u1=>
 if (0:Int)≤u1.1.1∧u1.1.1<(p1.length:Int) then (
 some (((p1.getD (u1.1.1.toNat) 0),()),((u1.2.1.1,u1.2.1.2.1,u1.2.1.2.2.1,()),()))) else none
abbrev SN:Type:=nO×nY
def Is (AW:mr) (AL BM:Int):Option SN:=
 (F9 AW AL BM).bind fun u1=>
 (DL 20 u1.2.1.1 u1.2.1.2.1 u1.2.1.2.2.1).bind fun u2=>
 cond (u2.1.1==0)
  ((EN [0,4,5] u2.2.1.1 u2.2.1.2.1 u2.2.1.2.2.1).bind fun u3=>
  some ((((),u3.1.1,()),()),((u3.2.1.1,u3.2.1.2.1,u3.2.1.2.2.1,()),u1.2.2.1,())))
 (cond (u2.1.1==1)
  ((EN [(-1),7,8] u2.2.1.1 u2.2.1.2.1 u2.2.1.2.2.1).bind fun u4=>
  if (0:Int)≤(0:Int)∧(0:Int)<(u1.2.2.1.length:Int) then (
  some ((((),u1.1.1.2.1,()),()),((u4.2.1.1,u4.2.1.2.1,u4.2.1.2.2.1,()),(u1.2.2.1.set 0 u4.1.1),()))) else none)
 (cond (u2.1.1==2)
  ((EN [0,8,9] u2.2.1.1 u2.2.1.2.1 u2.2.1.2.2.1).bind fun u6=>
  if (0:Int)≤u6.1.1∧u6.1.1≤u6.1.1∧u6.1.1≤(I8:Int) then (
  some ((((),u1.1.1.2.1,()),()),((u6.2.1.1,u6.2.1.2.1,u6.2.1.2.2.1,()),(List.replicate (u6.1.1.toNat) 0),()))) else none)
 (some ((((),u1.1.1.2.1,()),()),((u2.2.1.1,u2.2.1.2.1,u2.2.1.2.2.1,()),u1.2.2.1,())))))
abbrev M_:Type:=nO×nC
def Ha (p0:mr):Option M_:=
 (Li p0).bind fun u1=>
 (Is u1.2.1.1 u1.2.1.2.1 u1.2.1.2.2.1).bind fun u2=>
 some ((((),u2.1.1.2.1,()),()),(u2.2.2.1,()))
abbrev Pt:Type:=nH×nC
def CC (p0:mr):Option Pt:=
 if 0+p0.length≤I8 then (
 some (((),()),(p0,()))) else none
abbrev Od:Type:=nO×nC
def C_ (p0:m9):Option Od:=
 (CC p0.1).bind fun u1=>
 some ((((),p0.2.1,()),()),(u1.2.1,()))
abbrev PK:Type:=(nT×Unit)×nU
def Ea:Option PK:=
 some (((1,1,(),()),()),([],()))
abbrev IX:Type:=m8×Unit
def Ah (p0 p1 p2:Int):Option IX:=
 cond (decide (p0≥p1))
  (some ((decide (p0≤p2),()),()))
 (some ((false,()),()))
abbrev Gi:Type:=m8×Unit
abbrev H7:Type:=List Int→Int→Int→List Int→Int→Option Gi
def JA (R2:H7) (t6:mr) (t7 t8:Int) (AW:mr) (AL:Int):Option Gi:=
 cond (decide (t8<t7))
  (if (0:Int)≤t8∧t8<(t6.length:Int) then (
  (Ah (t6.getD (t8.toNat) 0) 0 7).bind fun u2=>
  cond (!u2.1.1)
   (some ((false,()),()))
  (R2 t6 t7 (As (t8+1)) AW AL)) else none)
 ((Ah (AW.length:Int) 1 8).bind fun u3=>
 cond (u3.1.1)
  ((Ah AL 1 4).bind fun u4=>
  some ((u4.1.1,()),()))
 (some ((false,()),())))
def EX:Nat→H7
 |0=>fun _ _ _ _ _=>none
 |n+1=>JA (EX n)
def JH (R2:H7) (p0:m9):Option Gi:=
 R2 p0.1 (p0.1.length:Int) 0 p0.1 p0.2.1
def Ba (p0:m9):Option Gi:=JH (EX Ao) p0
abbrev HR:Type:=m8×Unit
abbrev I7:Type:=List Int→Int→List Int→Int→Int→Option HR
def Gj (R2:I7) (t0:mr) (t1:Int) (t7:mr) (t8 t9:Int):Option HR:=
 cond (decide (t9<t8))
  (if (0:Int)≤t9∧t9<(t7.length:Int) then (
  let x1:Int:=(t7.getD (t9.toNat) 0)
  (Ah x1 0 t1).bind fun u2=>
  cond (!u2.1.1)
   (some ((false,()),()))
  (cond (decide (t9>0))
   (if (0:Int)≤As (t9-1)∧As (t9-1)<(t0.length:Int) then (
   cond (decide ((t0.getD ((As (t9-1)).toNat) 0)≥x1))
    (some ((false,()),()))
   (R2 t0 t1 t7 t8 (As (t9+1)))) else none)
  (R2 t0 t1 t7 t8 (As (t9+1))))) else none)
 (some ((true,()),()))
def Du:Nat→I7
 |0=>fun _ _ _ _ _=>none
 |n+1=>Gj (Du n)
def J3 (R2:I7) (p0:mr) (p1:Int):Option HR:=
 R2 p0 p1 p0 (p0.length:Int) 0
def JO (p0:mr) (p1:Int):Option HR:=J3 (Du Ao) p0 p1
abbrev Ra:Type:=m8×Unit
def Bg (p0:m9) (p1:mr):Option Ra:=
 (Ba (p0.1,p0.2.1,())).bind fun u1=>
 cond (u1.1.1)
  ((JO p1 (As ((p0.1.length:Int)-1))).bind fun u3=>
  some ((u3.1.1,()),()))
 (some ((false,()),()))
abbrev RJ:Type:=m8×Unit
def Cp (p0:Int):Option RJ:=
 (Ah p0 1 30).bind fun u1=>
 some ((u1.1.1,()),())
abbrev TT:Type:=m8×Unit
def Jz (p0:Int):Option TT:=
 (Ah p0 1 60).bind fun u1=>
 some ((u1.1.1,()),())
abbrev RU:Type:=m8×Unit
def BX (p0:Int):Option RU:=
 (Cp (As (p0.tdiv 4294967296))).bind fun u2=>
 cond (u2.1.1)
  ((Jz (p0.tmod 4294967296)).bind fun u3=>
  some ((u3.1.1,()),()))
 (some ((false,()),()))
abbrev SB:Type:=m8×Unit
def CM (p0:List UInt8):Option SB:=
 some (((decide ((p0.length:Int)≤40)),()),())
abbrev Qs:Type:=nD×Unit
def DJ (p0:Int):Option Qs:=
 (BX p0).bind fun u1=>
 cond (!u1.1.1)
  (some ((0,()),()))
 (some (((As (p0.tdiv 4294967296)),()),()))
abbrev Q1:Type:=m8×Unit
def GB (p0:nJ):Option Q1:=
 (Ah p0.2.1 0 30).bind fun u1=>
 cond (u1.1.1)
  (cond (p0.2.1==0)
   (cond (!p0.2.2.1)
    ((BX p0.1).bind fun u2=>
    cond (u2.1.1)
     ((CM p0.2.2.2.1).bind fun u3=>
     some ((u3.1.1,()),()))
    (some ((false,()),())))
   (cond (decide (p0.2.1>0))
    ((BX p0.1).bind fun u4=>
    cond (u4.1.1)
     (cond (p0.2.2.2.1==[])
      ((CM p0.2.2.2.1).bind fun u5=>
      some ((u5.1.1,()),()))
     (some ((false,()),())))
    (some ((false,()),())))
   ((BX p0.1).bind fun u6=>
   cond (u6.1.1)
    (some ((false,()),()))
   (some ((false,()),())))))
  ((DJ p0.1).bind fun u7=>
  let x8:Bool:=decide (p0.2.1>u7.1.1)
  cond (!p0.2.2.1)
   ((BX p0.1).bind fun u9=>
   cond (u9.1.1)
    (cond (x8)
     ((CM p0.2.2.2.1).bind fun Uv=>
     some ((Uv.1.1,()),()))
    (some ((false,()),())))
   (some ((false,()),())))
  (cond (decide (p0.2.1>0))
   ((BX p0.1).bind fun P0=>
   cond (P0.1.1)
    (cond (x8)
     (cond (p0.2.2.2.1==[])
      ((CM p0.2.2.2.1).bind fun ZX=>
      some ((ZX.1.1,()),()))
     (some ((false,()),())))
    (some ((false,()),())))
   (some ((false,()),())))
  ((BX p0.1).bind fun Si=>
  cond (Si.1.1)
   (cond (x8)
    (some ((false,()),()))
   (some ((false,()),())))
  (some ((false,()),()))))))
 (cond (!p0.2.2.1)
  ((BX p0.1).bind fun T2=>
  cond (T2.1.1)
   (some ((false,()),()))
  (some ((false,()),())))
 (cond (decide (p0.2.1>0))
  ((BX p0.1).bind fun c6=>
  cond (c6.1.1)
   (some ((false,()),()))
  (some ((false,()),())))
 ((BX p0.1).bind fun u16=>
 cond (u16.1.1)
  (some ((false,()),()))
 (some ((false,()),())))))
abbrev F7:Type:=m8×Unit
abbrev HC:Type:=m_→Int→Int→Option F7
def Fq (R2:HC) (t5:m_) (t6 t7:Int):Option F7:=
 cond (decide (t7<t6))
  (if (0:Int)≤t7∧t7<(t5.length:Int) then (
  (GB ((t5.getD (t7.toNat) (0,0,false,[],())).1,(t5.getD (t7.toNat) (0,0,false,[],())).2.1,(t5.getD (t7.toNat) (0,0,false,[],())).2.2.1,(t5.getD (t7.toNat) (0,0,false,[],())).2.2.2.1,())).bind fun u1=>
  cond (!u1.1.1)
   (some ((false,()),()))
  (R2 t5 t6 (As (t7+1)))) else none)
 (some ((true,()),()))
def C0:Nat→HC
 |0=>fun _ _ _=>none
 |n+1=>Fq (C0 n)
def Iz (R2:HC) (p0:m_):Option F7:=
 R2 p0 (p0.length:Int) 0
def FX (p0:m_):Option F7:=Iz (C0 Ao) p0
abbrev EG:Type:=m8×Unit
abbrev F4:Type:=m_→m_→Int→Int→Option EG
def EP (R2:F4) (t0 t5:m_) (t6 t7:Int):Option EG:=
 cond (decide (t7<t6))
  (if (0:Int)≤t7∧t7<(t5.length:Int) then (
  cond (decide (t7>0))
   (if (0:Int)≤As (t7-1)∧As (t7-1)<(t0.length:Int) then (
   cond (decide (((t0.getD ((As (t7-1)).toNat) (0,0,false,[],())).1)≥((t5.getD (t7.toNat) (0,0,false,[],())).1)))
    (some ((false,()),()))
   (R2 t0 t5 t6 (As (t7+1)))) else none)
  (R2 t0 t5 t6 (As (t7+1)))) else none)
 (some ((true,()),()))
def CN:Nat→F4
 |0=>fun _ _ _ _=>none
 |n+1=>EP (CN n)
def Gy (R2:F4) (p0:m_):Option EG:=
 R2 p0 p0 (p0.length:Int) 0
def Dy (p0:m_):Option EG:=Gy (CN Ao) p0
abbrev Qw:Type:=m8×Unit
def HG (p0:nM):Option Qw:=
 cond ((decide ((p0.1.length:Int)>200)))
  (some ((false,()),()))
 (cond (decide ((p0.2.1.length:Int)>20))
  (some ((false,()),()))
 ((FX p0.1).bind fun u3=>
 cond (u3.1.1)
  ((FX p0.2.1).bind fun u4=>
  cond (u4.1.1)
   ((Dy p0.1).bind fun u5=>
   cond (u5.1.1)
    ((Ah p0.2.2.1 0 30).bind fun u6=>
    some ((u6.1.1,()),()))
   (some ((false,()),())))
  (some ((false,()),())))
 (some ((false,()),()))))
abbrev DI:Type:=nD×Unit
abbrev EO:Type:=List Int→Int→Int→Int→Option DI
def FY (R2:EO) (t0:mr) (t1 t7 t8:Int):Option DI:=
 cond (decide (t8<t7))
  (if (0:Int)≤t8∧t8<(t0.length:Int) then (
  cond (t1==(t0.getD (t8.toNat) 0))
   (some ((t8,()),()))
  (R2 t0 t1 t7 (As (t8+1)))) else none)
 (some (((-1),()),()))
def CP:Nat→EO
 |0=>fun _ _ _ _=>none
 |n+1=>FY (CP n)
def Fz (R2:EO) (p0:mr) (p1:Int):Option DI:=
 R2 p0 p1 (p0.length:Int) 0
def FQ (p0:mr) (p1:Int):Option DI:=Fz (CP Ao) p0 p1
abbrev KF:Type:=m8×Unit
def BQ (p0:mr) (p1:Int):Option KF:=
 (FQ p0 p1).bind fun u1=>
 some ((decide (u1.1.1≥0),()),())
abbrev SS:Type:=m8×Unit
def Gu (p0:Int) (p1:nC):Option SS:=
 (BQ p1.1 p0).bind fun u1=>
 some ((!u1.1.1,()),())
abbrev BE:Type:=nD×Unit
abbrev Bh:Type:=List Int→(nC×Unit)→Int→Int→Option BE
def BW (R2:Bh) (t0:mr) (t1:nC×Unit) (t7 t8:Int):Option BE:=
 cond (decide (t8<t7))
  (if (0:Int)≤t8∧t8<(t0.length:Int) then (
  (Gu (t0.getD (t8.toNat) 0) t1.1).bind fun u2=>
  cond (u2.1.1)
   (some ((t8,()),()))
  (R2 t0 (t1.1,()) t7 (As (t8+1)))) else none)
 (some (((-1),()),()))
def Ab:Nat→Bh
 |0=>fun _ _ _ _=>none
 |n+1=>BW (Ab n)
def BU (R2:Bh) (p0:mr) (p1:nC×Unit):Option BE:=
 R2 p0 (p1.1,()) (p0.length:Int) 0
def BL (p0:mr) (p1:nC×Unit):Option BE:=BU (Ab Ao) p0 p1
abbrev A8:Type:=nH×(Unit×List Int×Unit)
abbrev Bc:Type:=(nC×Unit)→Int→Int→List Int→Option A8
def BS (R5:Bc) (t1:nC×Unit) (t5 t6:Int) (b0:mr):Option A8:=
 cond ((decide (t6<(b0.length:Int))))
  (if (0:Int)≤t6∧t6<(b0.length:Int) then (
  let x3:Int:=(b0.getD (t6.toNat) 0)
  (Gu x3 t1.1).bind fun u4=>
  cond (!u4.1.1)
   (if (0:Int)≤t5∧t5<(b0.length:Int) then (
   R5 (t1.1,()) (As (t5+1)) (As (t6+1)) (b0.set (t5.toNat) x3)) else none)
  (R5 (t1.1,()) t5 (As (t6+1)) b0)) else none)
 (if (0:Int)≤t5∧t5≤(b0.length:Int)∧(b0.length:Int)≤(b0.length:Int) then (
 let x6:mr:=(b0.take (t5.toNat)++List.replicate (((b0.length:Int).toNat)-(t5.toNat)) 0++b0.drop ((t5.toNat)+(((b0.length:Int).toNat)-(t5.toNat))))
 if (0:Int)≤(0:Int)∧(0:Int)≤t5∧t5≤(x6.length:Int) then (
 some (((),()),((),((x6.drop 0).take ((t5.toNat)-0)),()))) else none) else none)
def AX:Nat→Bc
 |0=>fun _ _ _ _=>none
 |n+1=>BS (AX n)
def BT (R5:Bc) (p1:nC×Unit) (b0:mr):Option A8:=
 (BL b0 (p1.1,())).bind fun u1=>
 cond (u1.1.1==(-1))
  (some (((),()),((),b0,())))
 (R5 (p1.1,()) u1.1.1 (As (u1.1.1+1)) b0)
def Ap (p1:nC×Unit) (b0:mr):Option A8:=BT (AX Ao) p1 b0
abbrev Uh:Type:=nH×nC
def GC (p0 p1:mr):Option Uh:=
 (CC p0).bind fun u1=>
 (Ap ((p1,()),()) u1.2.1).bind fun u2=>
 some (((),()),(u2.2.2.1,()))
abbrev EF:Type:=m8×Unit
def CX (p0:m7) (p1:Int):Option EF:=
 (GC [p1] p0.2.2.2.1).bind fun u1=>
 some ((decide ((u1.2.1.length:Int)>0),()),())
abbrev IV:Type:=nD×Unit
abbrev Jr:Type:=List Int→Int→Int→List Int→Int→List Int→Option IV
def KZ (R5:Jr) (Kz:mr) (X4 Mn:Int) (AW:mr) (AL:Int) (b1:mr):Option IV:=
 cond (decide (Mn<X4))
  (if (0:Int)≤Mn∧Mn<(Kz.length:Int) then (
  let x2:Int:=(Kz.getD (Mn.toNat) 0)
  if (0:Int)≤x2∧x2<(AW.length:Int) then (
  (BQ b1 (AW.getD (x2.toNat) 0)).bind fun u4=>
  cond (!u4.1.1)
   (if (0:Int)≤x2∧x2<(AW.length:Int) then (
   if b1.length+1≤I8 then (
   R5 Kz X4 (As (Mn+1)) AW AL (b1++[(AW.getD (x2.toNat) 0)])) else none) else none)
  (R5 Kz X4 (As (Mn+1)) AW AL b1)) else none) else none)
 (some (((b1.length:Int),()),()))
def Fg:Nat→Jr
 |0=>fun _ _ _ _ _ _=>none
 |n+1=>KZ (Fg n)
def KT (R5:Jr) (p0:m9) (p1:mr):Option IV:=
 (Bg (p0.1,p0.2.1,()) p1).bind fun u1=>
 cond (!u1.1.1)
  (some (((-1),()),()))
 (R5 p1 (p1.length:Int) 0 p0.1 p0.2.1 [])
def KW (p0:m9) (p1:mr):Option IV:=KT (Fg Ao) p0 p1
abbrev TG:Type:=m8×Unit
def Fu (p0:m9) (p1:mr):Option TG:=
 (Bg (p0.1,p0.2.1,()) p1).bind fun u1=>
 cond (u1.1.1)
  ((KW (p0.1,p0.2.1,()) p1).bind fun u2=>
  some (((decide (u2.1.1≥p0.2.1)),()),()))
 (some ((false,()),()))
abbrev Dl:Type:=m8×Unit
abbrev En:Type:=m7→my→Int→Int→Option Dl
def Dq (R4:En) (t0:m7) (aH:my) (iI Xo:Int):Option Dl:=
 cond (decide (Xo<iI))
  (if (0:Int)≤Xo∧Xo<(aH.length:Int) then (
  (HG ((aH.getD (Xo.toNat) ([],[],0,())).1,(aH.getD (Xo.toNat) ([],[],0,())).2.1,(aH.getD (Xo.toNat) ([],[],0,())).2.2.1,())).bind fun u5=>
  cond (!u5.1.1)
   (some ((false,()),()))
  ((CX t0 Xo).bind fun u6=>
  cond (u6.1.1)
   (cond (decide ((As ((As ((((aH.getD (Xo.toNat) ([],[],0,())).1).length:Int)+(((aH.getD (Xo.toNat) ([],[],0,())).2.1).length:Int)))+((aH.getD (Xo.toNat) ([],[],0,())).2.2.1)))>0))
    (some ((false,()),()))
   (R4 t0 aH iI (As (Xo+1))))
  (R4 t0 aH iI (As (Xo+1))))) else none)
 (cond (t0.2.2.2.2.2.2.2.2.2.2.1)
  (some ((true,()),()))
 ((Fu (t0.1,t0.2.1,()) t0.2.2.2.1).bind fun ZX=>
 some ((!ZX.1.1,()),())))
def Bq:Nat→En
 |0=>fun _ _ _ _=>none
 |n+1=>Dq (Bq n)
def GF (R4:En) (p0:m7):Option Dl:=
 cond (((p0.2.2.1.length:Int) !=(p0.1.length:Int)))
  (some ((false,()),()))
 ((Bg (p0.1,p0.2.1,()) p0.2.2.2.1).bind fun u3=>
 cond (!u3.1.1)
  (some ((false,()),()))
 (R4 p0 p0.2.2.1 (p0.2.2.1.length:Int) 0))
def EI (p0:m7):Option Dl:=GF (Bq Ao) p0
abbrev Tz:Type:=m8×Unit
def LW (p0:m9) (p1:nV):Option Tz:=
 (Fu (p0.1,p0.2.1,()) p1.1).bind fun u1=>
 cond (u1.1.1)
  ((Ah p1.2.2.1 0 60).bind fun u2=>
  cond (u2.1.1)
   (cond (p1.2.1)
    (some ((true,()),()))
   (some ((p1.2.2.1==0,()),())))
  (some ((false,()),())))
 (some ((false,()),()))
abbrev JT:Type:=m8×Unit
abbrev Kx:Type:=mw→Int→Int→List Int→Int→mw→Int→Option JT
def Hu (R2:Kx) (t9:mw) (Ce GQ:Int) (AW:mr) (AL:Int) (Eb:mw) (DF:Int):Option JT:=
 cond (decide (GQ<Ce))
  (if (0:Int)≤GQ∧GQ<(t9.length:Int) then (
  (LW (AW,AL,()) ((t9.getD (GQ.toNat) ([],false,0,())).1,(t9.getD (GQ.toNat) ([],false,0,())).2.1,(t9.getD (GQ.toNat) ([],false,0,())).2.2.1,())).bind fun u1=>
  cond (!u1.1.1)
   (some ((false,()),()))
  (cond (((t9.getD (GQ.toNat) ([],false,0,())).2.1))
   (cond (GQ==(As ((Eb.length:Int)-1)))
    (some ((false,()),()))
   (cond (decide (GQ>0))
    (if (0:Int)≤As (GQ-1)∧As (GQ-1)<(Eb.length:Int) then (
    cond (!((Eb.getD ((As (GQ-1)).toNat) ([],false,0,())).2.1))
     (some ((false,()),()))
    (R2 t9 Ce (As (GQ+1)) AW AL Eb DF)) else none)
   (R2 t9 Ce (As (GQ+1)) AW AL Eb DF)))
  (R2 t9 Ce (As (GQ+1)) AW AL Eb DF))) else none)
 (cond (DF==0)
  ((Ba (AW,AL,())).bind fun u5=>
  cond (u5.1.1)
   (cond ((decide ((Eb.length:Int)≤30)))
    (some ((true,()),()))
   (some ((false,()),())))
  (some ((false,()),())))
 ((DJ DF).bind fun u7=>
 (Ah u7.1.1 1 (Eb.length:Int)).bind fun u8=>
 (Ba (AW,AL,())).bind fun u9=>
 cond (u9.1.1)
  (cond ((decide ((Eb.length:Int)≤30)))
   (some ((u8.1.1,()),()))
  (some ((false,()),())))
 (some ((false,()),()))))
def EA:Nat→Kx
 |0=>fun _ _ _ _ _ _ _=>none
 |n+1=>Hu (EA n)
def LA (R2:Kx) (p0:m9) (p1:nI):Option JT:=
 R2 p1.1 (p1.1.length:Int) 0 p0.1 p0.2.1 p1.1 p1.2.1
def KB (p0:m9) (p1:nI):Option JT:=LA (EA Ao) p0 p1
abbrev QX:Type:=nD×Unit
def Lb (p0:Bool):Option QX:=
 cond (p0)
  (some ((1,()),()))
 (some ((0,()),()))
abbrev Gf:Type:=m8×Unit
abbrev H3:Type:=Int→nF→Int→Int→List Int→Int→Int→nF→Option Gf
def JE (R3:H3) (t5:Int) (t9:nF) (Ce GQ:Int) (AW:mr) (AL Eb:Int) (DF:nF):Option Gf:=
 cond (decide (GQ<Ce))
  (if (0:Int)≤GQ∧GQ<(t9.length:Int) then (
  (CM ((t9.getD (GQ.toNat) ([],[],false,())).1)).bind fun u3=>
  cond (!u3.1.1)
   (some ((false,()),()))
  ((Bg (AW,AL,()) ((t9.getD (GQ.toNat) ([],[],false,())).2.1)).bind fun u4=>
  cond (!u4.1.1)
   (some ((false,()),()))
  ((Fu (AW,AL,()) ((t9.getD (GQ.toNat) ([],[],false,())).2.1)).bind fun u6=>
  cond (((t9.getD (GQ.toNat) ([],[],false,())).2.2.1) !=u6.1.1)
   (some ((false,()),()))
  ((Lb (!((t9.getD (GQ.toNat) ([],[],false,())).2.2.1))).bind fun u8=>
  R3 (As (t5+u8.1.1)) t9 Ce (As (GQ+1)) AW AL Eb DF)))) else none)
 ((Ba (AW,AL,())).bind fun u9=>
 cond (u9.1.1)
  ((Cp Eb).bind fun Uv=>
  cond (Uv.1.1)
   (cond ((decide ((DF.length:Int)≤60)))
    (some ((decide (t5≤6),()),()))
   (some ((false,()),())))
  (some ((false,()),())))
 (some ((false,()),())))
def Ed:Nat→H3
 |0=>fun _ _ _ _ _ _ _ _=>none
 |n+1=>JE (Ed n)
def JC (R3:H3) (p0:m9) (p1:nN):Option Gf:=
 R3 0 p1.2.1 (p1.2.1.length:Int) 0 p0.1 p0.2.1 p1.1 p1.2.1
def IU (p0:m9) (p1:nN):Option Gf:=JC (Ed Ao) p0 p1
abbrev MS:Type:=m8×Unit
def Dd (p0:m7) (p1:Int):Option MS:=
 (Ah p1 1 (p0.2.2.2.2.1.length:Int)).bind fun u2=>
 some ((u2.1.1,()),())
abbrev DO:Type:=m8×Unit
abbrev Ec:Type:=m7→mz→Int→Int→Option DO
def De (R2:Ec) (t0:m7) (t8:mz) (t9 Ce:Int):Option DO:=
 cond (decide (Ce<t9))
  (if (0:Int)≤Ce∧Ce<(t8.length:Int) then (
  (IU (t0.1,t0.2.1,()) ((t8.getD (Ce.toNat) (0,[],())).1,(t8.getD (Ce.toNat) (0,[],())).2.1,())).bind fun u2=>
  cond (!u2.1.1)
   (some ((false,()),()))
  ((Dd t0 ((t8.getD (Ce.toNat) (0,[],())).1)).bind fun u4=>
  cond (!u4.1.1)
   (some ((false,()),()))
  (cond (decide (Ce>0))
   (if (0:Int)≤As (Ce-1)∧As (Ce-1)<(t0.2.2.2.2.2.2.1.length:Int) then (
   cond (decide (((t0.2.2.2.2.2.2.1.getD ((As (Ce-1)).toNat) (0,[],())).1)≥((t8.getD (Ce.toNat) (0,[],())).1)))
    (some ((false,()),()))
   (R2 t0 t8 t9 (As (Ce+1)))) else none)
  (R2 t0 t8 t9 (As (Ce+1)))))) else none)
 (some ((decide ((t0.2.2.2.2.2.2.1.length:Int)≤4),()),()))
def Bj:Nat→Ec
 |0=>fun _ _ _ _=>none
 |n+1=>De (Bj n)
def FR (R2:Ec) (p0:m7):Option DO:=
 R2 p0 p0.2.2.2.2.2.2.1 (p0.2.2.2.2.2.2.1.length:Int) 0
def D2 (p0:m7):Option DO:=FR (Bj Ao) p0
abbrev S9:Type:=nD×Unit
def H9 (p0:Int):Option S9:=
 (BX p0).bind fun u1=>
 cond (!u1.1.1)
  (some ((0,()),()))
 (some ((p0.tmod 4294967296,()),()))
abbrev RC:Type:=nD×Unit
def JM (p0:nK):Option RC:=
 cond ((p0.2.2.2.1.length:Int)==0)
  (some ((0,()),()))
 (let x2:Int:=(p0.2.2.2.1.length:Int)
 if (0:Int)≤As (x2-1)∧As (x2-1)<(p0.2.2.2.1.length:Int) then (
 (H9 ((p0.2.2.2.1.getD ((As (x2-1)).toNat) (0,0,false,[],())).1)).bind fun u4=>
 some ((u4.1.1,()),())) else none)
abbrev IQ:Type:=m8×Unit
abbrev Jk:Type:=m_→Int→Int→Int→Int→List Int→m_→Bool→List mr→Option IQ
def Hb (R2:Jk) (t6:m_) (t7 t8 AW AL:Int) (BM:mr) (CD:m_) (CV:Bool) (A7:List mr):Option IQ:=
 cond (decide (t8<t7))
  (if (0:Int)≤t8∧t8<(t6.length:Int) then (
  (GB ((t6.getD (t8.toNat) (0,0,false,[],())).1,(t6.getD (t8.toNat) (0,0,false,[],())).2.1,(t6.getD (t8.toNat) (0,0,false,[],())).2.2.1,(t6.getD (t8.toNat) (0,0,false,[],())).2.2.2.1,())).bind fun u2=>
  cond (!u2.1.1)
   (some ((false,()),()))
  ((DJ ((t6.getD (t8.toNat) (0,0,false,[],())).1)).bind fun u4=>
  cond (u4.1.1 !=AL)
   (some ((false,()),()))
  (cond (decide (((t6.getD (t8.toNat) (0,0,false,[],())).2.1)≥AW))
   (some ((false,()),()))
  (R2 t6 t7 (As (t8+1)) AW AL BM CD CV A7)))) else none)
 ((Dy CD).bind fun u6=>
 some ((u6.1.1,()),()))
def EY:Nat→Jk
 |0=>fun _ _ _ _ _ _ _ _ _=>none
 |n+1=>Hb (EY n)
def KJ (R2:Jk) (p0:nK):Option IQ:=
 R2 p0.2.2.2.1 (p0.2.2.2.1.length:Int) 0 p0.1 p0.2.1 p0.2.2.1 p0.2.2.2.1 p0.2.2.2.2.1 p0.2.2.2.2.2.1
def Iu (p0:nK):Option IQ:=KJ (EY Ao) p0
abbrev Ib:Type:=m8×Unit
abbrev J7:Type:=List mr→Int→Int→List Int→Int→Int→Int→List Int→m_→Bool→List mr→Option Ib
def HA (R2:J7) (Ce:List mr) (GQ I2:Int) (AW:mr) (AL Eb DF:Int) (IF:mr) (ME:m_) (P8:Bool) (MT:List mr):Option Ib:=
 cond (decide (I2<GQ))
  (if (0:Int)≤I2∧I2<(Ce.length:Int) then (
  (Bg (AW,AL,()) (Ce.getD (I2.toNat) [])).bind fun u2=>
  cond (!u2.1.1)
   (some ((false,()),()))
  (R2 Ce GQ (As (I2+1)) AW AL Eb DF IF ME P8 MT)) else none)
 (cond (P8)
  ((JM (Eb,DF,IF,ME,P8,MT,())).bind fun u3=>
  (Cp DF).bind fun u4=>
  cond (u4.1.1)
   ((Ah Eb (As (DF+1)) 30).bind fun u5=>
   (Ba (AW,AL,())).bind fun u6=>
   cond (u6.1.1)
    (cond (u5.1.1)
     ((Bg (AW,AL,()) IF).bind fun u7=>
     cond (u7.1.1)
      ((Iu (Eb,DF,IF,ME,P8,MT,())).bind fun u8=>
      cond (u8.1.1)
       (some ((((MT.length:Int)==u3.1.1),()),()))
      (some ((false,()),())))
     (some ((false,()),())))
    (some ((false,()),())))
   (some ((false,()),())))
  ((Ba (AW,AL,())).bind fun Uv=>
  cond (Uv.1.1)
   (some ((false,()),()))
  (some ((false,()),()))))
 ((Cp DF).bind fun P0=>
 cond (P0.1.1)
  ((Ah Eb (As (DF+1)) 30).bind fun ZX=>
  (Ba (AW,AL,())).bind fun Si=>
  cond (Si.1.1)
   (cond (ZX.1.1)
    ((Bg (AW,AL,()) IF).bind fun T2=>
    cond (T2.1.1)
     ((Iu (Eb,DF,IF,ME,P8,MT,())).bind fun c6=>
     cond (c6.1.1)
      (some ((((MT.length:Int)==0),()),()))
     (some ((false,()),())))
    (some ((false,()),())))
   (some ((false,()),())))
  (some ((false,()),())))
 ((Ba (AW,AL,())).bind fun iW=>
 cond (iW.1.1)
  (some ((false,()),()))
 (some ((false,()),())))))
def ES:Nat→J7
 |0=>fun _ _ _ _ _ _ _ _ _ _ _=>none
 |n+1=>HA (ES n)
def Kk (R2:J7) (p0:m9) (p1:nK):Option Ib:=
 R2 p1.2.2.2.2.2.1 (p1.2.2.2.2.2.1.length:Int) 0 p0.1 p0.2.1 p1.1 p1.2.1 p1.2.2.1 p1.2.2.2.1 p1.2.2.2.2.1 p1.2.2.2.2.2.1
def Ka (p0:m9) (p1:nK):Option Ib:=Kk (ES Ao) p0 p1
abbrev F6:Type:=nD×Unit
abbrev HN:Type:=mw→Int→Int→Option F6
def Fy (R2:HN) (t6:mw) (t7 t8:Int):Option F6:=
 cond (decide (t8<t7))
  (if (0:Int)≤t8∧t8<(t6.length:Int) then (
  cond (!((t6.getD (t8.toNat) ([],false,0,())).2.1))
   (some ((As (t8+1),()),()))
  (R2 t6 t7 (As (t8+1)))) else none)
 (some ((0,()),()))
def C8:Nat→HN
 |0=>fun _ _ _=>none
 |n+1=>Fy (C8 n)
def Ix (R2:HN) (p0:nI):Option F6:=
 R2 p0.1 (p0.1.length:Int) 0
def HT (p0:nI):Option F6:=Ix (C8 Ao) p0
abbrev D3:Type:=m8×Unit
abbrev Ez:Type:=m7→m6→Int→Int→Option D3
def D_ (R2:Ez) (t0:m7) (t8:m6) (t9 Ce:Int):Option D3:=
 cond (decide (Ce<t9))
  (if (0:Int)≤Ce∧Ce<(t8.length:Int) then (
  (Ka (t0.1,t0.2.1,()) ((t8.getD (Ce.toNat) (0,0,[],[],false,[],())).1,(t8.getD (Ce.toNat) (0,0,[],[],false,[],())).2.1,(t8.getD (Ce.toNat) (0,0,[],[],false,[],())).2.2.1,(t8.getD (Ce.toNat) (0,0,[],[],false,[],())).2.2.2.1,(t8.getD (Ce.toNat) (0,0,[],[],false,[],())).2.2.2.2.1,(t8.getD (Ce.toNat) (0,0,[],[],false,[],())).2.2.2.2.2.1,())).bind fun u2=>
  cond (!u2.1.1)
   (some ((false,()),()))
  (cond (((t8.getD (Ce.toNat) (0,0,[],[],false,[],())).1) !=(t0.2.2.2.2.1.length:Int))
   (some ((false,()),()))
  ((HT (t0.2.2.2.2.1,t0.2.2.2.2.2.1,())).bind fun u6=>
  cond (((t8.getD (Ce.toNat) (0,0,[],[],false,[],())).2.1) !=u6.1.1)
   (some ((false,()),()))
  (R2 t0 t8 t9 (As (Ce+1)))))) else none)
 (some ((decide ((t0.2.2.2.2.2.2.2.1.length:Int)≤1),()),()))
def CA:Nat→Ez
 |0=>fun _ _ _ _=>none
 |n+1=>D_ (CA n)
def GV (R2:Ez) (p0:m7):Option D3:=
 R2 p0 p0.2.2.2.2.2.2.2.1 (p0.2.2.2.2.2.2.2.1.length:Int) 0
def Em (p0:m7):Option D3:=GV (CA Ao) p0
abbrev Px:Type:=m8×Unit
def IZ (p0:nG):Option Px:=
 (Ah p0.1 1 31).bind fun u1=>
 cond (u1.1.1)
  ((Ah p0.2.1 1 61).bind fun u2=>
  cond (u2.1.1)
   (some ((decide ((p0.2.2.1.length:Int)≤120),()),()))
  (some ((false,()),())))
 (some ((false,()),()))
abbrev DH:Type:=m8×Unit
abbrev EJ:Type:=m7→mv→Int→Int→Option DH
def DZ (R2:EJ) (t0:m7) (t8:mv) (t9 Ce:Int):Option DH:=
 cond (decide (Ce<t9))
  (if (0:Int)≤Ce∧Ce<(t8.length:Int) then (
  (IZ ((t8.getD (Ce.toNat) (0,0,[],())).1,(t8.getD (Ce.toNat) (0,0,[],())).2.1,(t8.getD (Ce.toNat) (0,0,[],())).2.2.1,())).bind fun u2=>
  cond (!u2.1.1)
   (some ((false,()),()))
  (R2 t0 t8 t9 (As (Ce+1)))) else none)
 (some (((t0.2.2.2.2.2.2.2.2.1.length:Int)==2,()),()))
def Bi:Nat→EJ
 |0=>fun _ _ _ _=>none
 |n+1=>DZ (Bi n)
def FV (R2:EJ) (p0:m7):Option DH:=
 R2 p0 p0.2.2.2.2.2.2.2.2.1 (p0.2.2.2.2.2.2.2.2.1.length:Int) 0
def D6 (p0:m7):Option DH:=FV (Bi Ao) p0
abbrev ED:Type:=m8×Unit
abbrev Fi:Type:=m7→m5→Int→Int→Option ED
def EK (R2:Fi) (t0:m7) (t8:m5) (t9 Ce:Int):Option ED:=
 cond (decide (Ce<t9))
  (if (0:Int)≤Ce∧Ce<(t8.length:Int) then (
  (DJ ((t8.getD (Ce.toNat) (0,[],false,())).1)).bind fun u3=>
  (Dd t0 u3.1.1).bind fun u4=>
  cond (!u4.1.1)
   (some ((false,()),()))
  ((CM ((t8.getD (Ce.toNat) (0,[],false,())).2.1)).bind fun u6=>
  cond (!u6.1.1)
   (some ((false,()),()))
  (cond (decide (Ce>0))
   (if (0:Int)≤As (Ce-1)∧As (Ce-1)<(t0.2.2.2.2.2.2.2.2.2.1.length:Int) then (
   cond (decide (((t0.2.2.2.2.2.2.2.2.2.1.getD ((As (Ce-1)).toNat) (0,[],false,())).1)≥((t8.getD (Ce.toNat) (0,[],false,())).1)))
    (some ((false,()),()))
   (R2 t0 t8 t9 (As (Ce+1)))) else none)
  (R2 t0 t8 t9 (As (Ce+1)))))) else none)
 (some ((decide ((t0.2.2.2.2.2.2.2.2.2.1.length:Int)≤120),()),()))
def CO:Nat→Fi
 |0=>fun _ _ _ _=>none
 |n+1=>EK (CO n)
def G3 (R2:Fi) (p0:m7):Option ED:=
 R2 p0 p0.2.2.2.2.2.2.2.2.2.1 (p0.2.2.2.2.2.2.2.2.2.1.length:Int) 0
def FJ (p0:m7):Option ED:=G3 (CO Ao) p0
abbrev Ro:Type:=m8×Unit
def A3 (p0:m7):Option Ro:=
 (Ba (p0.1,p0.2.1,())).bind fun u1=>
 cond (u1.1.1)
  ((EI (p0.1,p0.2.1,p0.2.2.1,p0.2.2.2.1,p0.2.2.2.2.1,p0.2.2.2.2.2.1,p0.2.2.2.2.2.2.1,p0.2.2.2.2.2.2.2.1,p0.2.2.2.2.2.2.2.2.1,p0.2.2.2.2.2.2.2.2.2.1,p0.2.2.2.2.2.2.2.2.2.2.1,())).bind fun u2=>
  cond (u2.1.1)
   ((KB (p0.1,p0.2.1,()) (p0.2.2.2.2.1,p0.2.2.2.2.2.1,())).bind fun u3=>
   cond (u3.1.1)
    ((D2 (p0.1,p0.2.1,p0.2.2.1,p0.2.2.2.1,p0.2.2.2.2.1,p0.2.2.2.2.2.1,p0.2.2.2.2.2.2.1,p0.2.2.2.2.2.2.2.1,p0.2.2.2.2.2.2.2.2.1,p0.2.2.2.2.2.2.2.2.2.1,p0.2.2.2.2.2.2.2.2.2.2.1,())).bind fun u4=>
    cond (u4.1.1)
     ((Em (p0.1,p0.2.1,p0.2.2.1,p0.2.2.2.1,p0.2.2.2.2.1,p0.2.2.2.2.2.1,p0.2.2.2.2.2.2.1,p0.2.2.2.2.2.2.2.1,p0.2.2.2.2.2.2.2.2.1,p0.2.2.2.2.2.2.2.2.2.1,p0.2.2.2.2.2.2.2.2.2.2.1,())).bind fun u5=>
     cond (u5.1.1)
      ((D6 (p0.1,p0.2.1,p0.2.2.1,p0.2.2.2.1,p0.2.2.2.2.1,p0.2.2.2.2.2.1,p0.2.2.2.2.2.2.1,p0.2.2.2.2.2.2.2.1,p0.2.2.2.2.2.2.2.2.1,p0.2.2.2.2.2.2.2.2.2.1,p0.2.2.2.2.2.2.2.2.2.2.1,())).bind fun u6=>
      cond (u6.1.1)
       ((FJ (p0.1,p0.2.1,p0.2.2.1,p0.2.2.2.1,p0.2.2.2.2.1,p0.2.2.2.2.2.1,p0.2.2.2.2.2.2.1,p0.2.2.2.2.2.2.2.1,p0.2.2.2.2.2.2.2.2.1,p0.2.2.2.2.2.2.2.2.2.1,p0.2.2.2.2.2.2.2.2.2.2.1,())).bind fun u7=>
       some ((u7.1.1,()),()))
      (some ((false,()),())))
     (some ((false,()),())))
    (some ((false,()),())))
   (some ((false,()),())))
  (some ((false,()),())))
 (some ((false,()),()))
abbrev Lx:Type:=((nQ×Bool×Unit)×Unit)×nR
def Cn (p0:m9):Option Lx:=
 (C_ (p0.1,p0.2.1,())).bind fun u1=>
 if (0:Int)≤(p0.1.length:Int)∧(p0.1.length:Int)≤(p0.1.length:Int)∧(p0.1.length:Int)≤(I8:Int) then (
 let x2:my:=(List.replicate ((p0.1.length:Int).toNat) ([],[],0,()))
 (Ea).bind fun u3=>
 (Ea).bind fun u4=>
 (A3 (u1.2.1,u1.1.1.2.1,x2,[],[],0,[],[],[(u3.1.1.1,u3.1.1.2.1,u3.2.1,()),(u4.1.1.1,u4.1.1.2.1,u4.2.1,())],[],false,())).bind fun u5=>
 cond (!u5.1.1)
  (some (((((),0,(),(),(),0,(),(),(),(),false,()),false,()),()),([],[],[],[],[],[],[],[],())))
 (some (((((),u1.1.1.2.1,(),(),(),0,(),(),(),(),false,()),true,()),()),(u1.2.1,x2,[],[],[],[],[(u3.1.1.1,u3.1.1.2.1,u3.2.1,()),(u4.1.1.1,u4.1.1.2.1,u4.2.1,())],[],())))) else none
abbrev UZ:Type:=m8×Unit
def Gt (p0 p1 p2:Int):Option UZ:=
 cond (decide (p0≥p1))
  (some ((decide (p0≤p2),()),()))
 (some ((false,()),()))
abbrev Ge:Type:=m8×Unit
abbrev H_:Type:=Int→List Int→Int→Option Ge
def JJ (R4:H_) (t3:Int) (AW:mr) (AL:Int):Option Ge:=
 cond ((decide (t3<(AW.length:Int))))
  (if (0:Int)≤t3∧t3<(AW.length:Int) then (
  (Gt (AW.getD (t3.toNat) 0) 0 7).bind fun u5=>
  cond (!u5.1.1)
   (some ((false,()),()))
  (R4 (As (t3+1)) AW AL)) else none)
 (some ((true,()),()))
def ER:Nat→H_
 |0=>fun _ _ _=>none
 |n+1=>JJ (ER n)
def JG (R4:H_) (p0:m9):Option Ge:=
 (Gt (p0.1.length:Int) 1 8).bind fun u1=>
 cond (!u1.1.1)
  (some ((false,()),()))
 ((Gt p0.2.1 1 4).bind fun u2=>
 cond (!u2.1.1)
  (some ((false,()),()))
 (R4 0 p0.1 p0.2.1))
def IJ (p0:m9):Option Ge:=JG (ER Ao) p0
abbrev Wj:Type:=nD×Unit
def QQ (p0:mr) (p1:Int):Option Wj:=
 cond ((decide (p1<(p0.length:Int))))
  (if (0:Int)≤p1∧p1<(p0.length:Int) then (
  some ((As ((p0.getD (p1.toNat) 0)),()),())) else none)
 (some (((As ((As (p1*7))+(p0.length:Int))).tmod 256,()),()))
abbrev RO:Type:=(List UInt8×Unit)×Unit
def LS (p0:Int):Option RO:=
 cond (p0==8)
  (some (([],()),()))
 (cond (p0==10)
  (some (([],()),()))
 (cond (p0==12)
  (some (([],()),()))
 (cond (p0==2)
  (some (([65,84],()),()))
 (cond (p0==3)
  (some (([65,66,67],()),()))
 (cond (p0==5)
  (some (([65,66],()),()))
 (cond (p0==14)
  (some (([65,66],()),()))
 (cond (p0==11)
  (some (([66,67],()),()))
 (cond (p0==13)
  (some (([80],()),()))
 (some (([65],()),()))))))))))
abbrev GR:Type:=m8×Unit
abbrev J8:Type:=Int→Int→Int→Int→Int→Int→List UInt8→Int→Int→Int→Int→List UInt8→List Int→Option GR
def BH (R4:J8) (I2 Kz AW AL BM CD:Int) (CV:List UInt8) (Eb DF IF ME:Int) (P8:List UInt8) (b2:mr):Option GR:=
 cond (decide (Kz<I2))
  (if (0:Int)≤Kz∧Kz<(b2.length:Int) then (
  let x3:Int:=(b2.getD (Kz.toNat) 0)
  cond (x3==65)
   (R4 I2 (As (Kz+1)) AW AL BM CD CV Eb 0 IF ME P8 b2)
  (cond (x3==80)
   (R4 I2 (As (Kz+1)) AW AL BM CD CV Eb 0 IF ME P8 b2)
  (cond (x3==66)
   (R4 I2 (As (Kz+1)) AW AL BM CD CV Eb DF 0 ME P8 b2)
  (cond (x3==67)
   (R4 I2 (As (Kz+1)) AW AL BM CD CV Eb DF IF 0 P8 b2)
  (cond (x3==84)
   (R4 I2 (As (Kz+1)) AW AL BM CD CV Eb DF IF ME [] b2)
  (R4 I2 (As (Kz+1)) AW AL BM CD CV Eb DF IF ME P8 b2)))))) else none)
 ((Ah AW 1 16).bind fun u4=>
 cond (u4.1.1)
  (cond (((Eb==0)&&((DF==0)&&((IF==0)&&((ME==0)&&((P8==[])&&true))))))
   ((CM CV).bind fun u6=>
   some ((u6.1.1,()),()))
  (some ((false,()),())))
 (some ((false,()),())))
def BN:Nat→J8
 |0=>fun _ _ _ _ _ _ _ _ _ _ _ _ _=>none
 |n+1=>BH (BN n)
def KI (R4:J8) (p0:Int×Int×Int×Int×List UInt8×Unit):Option GR:=
 (LS p0.1).bind fun u1=>
 if u1.1.1.length≤I8 then (
 let x2:mr:=(u1.1.1.map fun c=>(c.toNat:Int))
 R4 (x2.length:Int) 0 p0.1 p0.2.1 p0.2.2.1 p0.2.2.2.1 p0.2.2.2.2.1 0 p0.2.1 p0.2.2.1 p0.2.2.2.1 p0.2.2.2.2.1 x2) else none
def Ke (p0:Int×Int×Int×Int×List UInt8×Unit):Option GR:=KI (BN Ao) p0
abbrev EH:Type:=nO×(mw×Unit)
abbrev Fv:Type:=mw→Int→Int→Int→mw→Int→mw→Option EH
def Gz (R3:Fv) (Ce:mw) (GQ I2 AL:Int) (b1:mw) (eG:Int) (b3:mw):Option EH:=
 cond (decide (I2<GQ))
  (if (0:Int)≤I2∧I2<(Ce.length:Int) then (
  (CC ((Ce.getD (I2.toNat) ([],false,0,())).1)).bind fun u1=>
  if b3.length+1≤I8 then (
  R3 Ce GQ (As (I2+1)) AL b1 eG (b3++[(u1.2.1,(Ce.getD (I2.toNat) ([],false,0,())).2.1,(Ce.getD (I2.toNat) ([],false,0,())).2.2.1,())])) else none) else none)
 (some ((((),eG,()),()),(b3,())))
def Ct:Nat→Fv
 |0=>fun _ _ _ _ _ _ _=>none
 |n+1=>Gz (Ct n)
def G4 (R3:Fv) (p0:nI):Option EH:=
 R3 p0.1 (p0.1.length:Int) 0 0 [] p0.2.1 []
def FI (p0:nI):Option EH:=G4 (Ct Ao) p0
abbrev Nr:Type:=nH×(m_×Unit)
def DV (p0:m_):Option Nr:=
 if 0+p0.length≤I8 then (
 some (((),()),(p0,()))) else none
abbrev PB:Type:=((Unit×Unit×Int×Unit)×Unit)×(m_×m_×Unit)
def HF (p0:nM):Option PB:=
 (DV p0.1).bind fun u1=>
 (DV p0.2.1).bind fun u2=>
 some ((((),(),p0.2.2.1,()),()),(u1.2.1,u2.2.1,()))
abbrev FE:Type:=((Int×Unit×Unit)×Unit)×(nF×Unit)
abbrev Gl:Type:=nF→Int→Int→Int→nF→Int→nF→Option FE
def Hr (R3:Gl) (Ce:nF) (GQ I2 AW:Int) (b1:nF) (eU:Int) (b3:nF):Option FE:=
 cond (decide (I2<GQ))
  (if (0:Int)≤I2∧I2<(Ce.length:Int) then (
  (CC ((Ce.getD (I2.toNat) ([],[],false,())).2.1)).bind fun u2=>
  if b3.length+1≤I8 then (
  R3 Ce GQ (As (I2+1)) AW b1 eU (b3++[((Ce.getD (I2.toNat) ([],[],false,())).1,u2.2.1,(Ce.getD (I2.toNat) ([],[],false,())).2.2.1,())])) else none) else none)
 (some (((eU,(),()),()),(b3,())))
def Dg:Nat→Gl
 |0=>fun _ _ _ _ _ _ _=>none
 |n+1=>Hr (Dg n)
def Hm (R3:Gl) (p0:nN):Option FE:=
 R3 p0.2.1 (p0.2.1.length:Int) 0 0 [] p0.1 []
def GX (p0:nN):Option FE:=Hm (Dg Ao) p0
abbrev Gg:Type:=((Int×Int×Unit×Unit×Bool×Unit×Unit)×Unit)×(List Int×m_×List mr×Unit)
abbrev Ht:Type:=List mr→Int→Int→Int→Int→Bool→List Int→m_→List mr→Int→Int→Bool→List Int→m_→List mr→Option Gg
def I_ (R4:Ht) (OB:List mr) (Ug JR AW AL:Int) (CV:Bool) (b1:mr) (b2:m_) (b3:List mr) (fE dq:Int) (fZ:Bool) (b5:mr) (b6:m_) (b7:List mr):Option Gg:=
 cond (decide (JR<Ug))
  (if (0:Int)≤JR∧JR<(OB.length:Int) then (
  (CC (OB.getD (JR.toNat) [])).bind fun u4=>
  if b7.length+1≤I8 then (
  R4 OB Ug (As (JR+1)) AW AL CV b1 b2 b3 fE dq fZ b5 b6 (b7++[u4.2.1])) else none) else none)
 (some (((fE,dq,(),(),fZ,(),()),()),(b5,b6,b7,())))
def EM:Nat→Ht
 |0=>fun _ _ _ _ _ _ _ _ _ _ _ _ _ _ _=>none
 |n+1=>I_ (EM n)
def JF (R4:Ht) (p0:nK):Option Gg:=
 (CC p0.2.2.1).bind fun u1=>
 (DV p0.2.2.2.1).bind fun u2=>
 R4 p0.2.2.2.2.2.1 (p0.2.2.2.2.2.1.length:Int) 0 0 0 false [] [] [] p0.1 p0.2.1 p0.2.2.2.2.1 u1.2.1 u2.2.1 []
def IY (p0:nK):Option Gg:=JF (EM Ao) p0
abbrev OY:Type:=(nT×Unit)×nU
def Ep (p0:nG):Option OY:=
 if 0+p0.2.2.1.length≤I8 then (
 some (((p0.1,p0.2.1,(),()),()),(p0.2.2.1,()))) else none
abbrev BZ:Type:=(nQ×Unit)×nR
abbrev Cz:Type:=my→Int→Int→List Int→Int→my→List Int→mw→Int→mz→m6→mv→m5→Bool→Int→Int→Bool→List Int→my→List Int→mw→mz→m6→mv→m5→Int→Int→Bool→List Int→my→List Int→mw→mz→m6→mv→m5→Option BZ
abbrev C4:Type:=mz→Int→Int→List Int→Int→my→List Int→mw→Int→mz→m6→mv→m5→Bool→Int→Int→Bool→List Int→my→List Int→mw→mz→m6→mv→m5→Int→Int→Bool→List Int→my→List Int→mw→mz→m6→mv→m5→Option BZ
abbrev Cl:Type:=m6→Int→Int→List Int→Int→my→List Int→mw→Int→mz→m6→mv→m5→Bool→Int→Int→Bool→List Int→my→List Int→mw→mz→m6→mv→m5→Int→Int→Bool→List Int→my→List Int→mw→mz→m6→mv→m5→Option BZ
abbrev Ci:Type:=mv→Int→Int→List Int→Int→my→List Int→mw→Int→mz→m6→mv→m5→Bool→Int→Int→Bool→List Int→my→List Int→mw→mz→m6→mv→m5→Int→Int→Bool→List Int→my→List Int→mw→mz→m6→mv→m5→Option BZ
def It (R3:Cz) (R8:C4) (dV:Cl) (da:Ci) (aS:my) (T3 XA:Int) (AW:mr) (AL:Int) (BM:my) (CD:mr) (CV:mw) (A7:Int) (DC:mz) (DD:m6) (B_:mv) (Cy:m5) (Ac:Bool) (DF MT:Int) (NO:Bool) (b2:mr) (b3:my) (b4:mr) (b5:mw) (b6:mz) (b7:m6) (b8:mv) (b9:m5) (Mb MK:Int) (J5:Bool) (OI:mr) (MG:my) (YS:mr) (YM:mw) (Ny:mz) (QL:m6) (T1:mv) (ZO:m5):Option BZ:=
 cond (decide (XA<T3))
  (if (0:Int)≤XA∧XA<(aS.length:Int) then (
  (HF ((aS.getD (XA.toNat) ([],[],0,())).1,(aS.getD (XA.toNat) ([],[],0,())).2.1,(aS.getD (XA.toNat) ([],[],0,())).2.2.1,())).bind fun c6=>
  if MG.length+1≤I8 then (
  R3 aS T3 (As (XA+1)) AW AL BM CD CV A7 DC DD B_ Cy Ac DF MT NO b2 b3 b4 b5 b6 b7 b8 b9 Mb MK J5 OI (MG++[(c6.2.1,c6.2.2.1,c6.1.1.2.2.1,())]) YS YM Ny QL T1 ZO) else none) else none)
 (R8 DC (DC.length:Int) 0 AW AL BM CD CV A7 DC DD B_ Cy Ac DF MT NO b2 b3 b4 b5 b6 b7 b8 b9 Mb MK J5 OI MG YS YM Ny QL T1 ZO)
def I1 (R3:Cz) (R8:C4) (dV:Cl) (da:Ci) (gW:mz) (jz dm:Int) (AW:mr) (AL:Int) (BM:my) (CD:mr) (CV:mw) (A7:Int) (DC:mz) (DD:m6) (B_:mv) (Cy:m5) (Ac:Bool) (DF MT:Int) (NO:Bool) (b2:mr) (b3:my) (b4:mr) (b5:mw) (b6:mz) (b7:m6) (b8:mv) (b9:m5) (Mb MK:Int) (J5:Bool) (OI:mr) (MG:my) (YS:mr) (YM:mw) (Ny:mz) (QL:m6) (T1:mv) (ZO:m5):Option BZ:=
 cond (decide (dm<jz))
  (if (0:Int)≤dm∧dm<(gW.length:Int) then (
  (GX ((gW.getD (dm.toNat) (0,[],())).1,(gW.getD (dm.toNat) (0,[],())).2.1,())).bind fun ZV=>
  if Ny.length+1≤I8 then (
  R8 gW jz (As (dm+1)) AW AL BM CD CV A7 DC DD B_ Cy Ac DF MT NO b2 b3 b4 b5 b6 b7 b8 b9 Mb MK J5 OI MG YS YM (Ny++[(ZV.1.1.1,ZV.2.1,())]) QL T1 ZO) else none) else none)
 (dV DD (DD.length:Int) 0 AW AL BM CD CV A7 DC DD B_ Cy Ac DF MT NO b2 b3 b4 b5 b6 b7 b8 b9 Mb MK J5 OI MG YS YM Ny QL T1 ZO)
def Hn (R3:Cz) (R8:C4) (dV:Cl) (da:Ci) (al:m6) (jm ZP:Int) (AW:mr) (AL:Int) (BM:my) (CD:mr) (CV:mw) (A7:Int) (DC:mz) (DD:m6) (B_:mv) (Cy:m5) (Ac:Bool) (DF MT:Int) (NO:Bool) (b2:mr) (b3:my) (b4:mr) (b5:mw) (b6:mz) (b7:m6) (b8:mv) (b9:m5) (Mb MK:Int) (J5:Bool) (OI:mr) (MG:my) (YS:mr) (YM:mw) (Ny:mz) (QL:m6) (T1:mv) (ZO:m5):Option BZ:=
 cond (decide (ZP<jm))
  (if (0:Int)≤ZP∧ZP<(al.length:Int) then (
  (IY ((al.getD (ZP.toNat) (0,0,[],[],false,[],())).1,(al.getD (ZP.toNat) (0,0,[],[],false,[],())).2.1,(al.getD (ZP.toNat) (0,0,[],[],false,[],())).2.2.1,(al.getD (ZP.toNat) (0,0,[],[],false,[],())).2.2.2.1,(al.getD (ZP.toNat) (0,0,[],[],false,[],())).2.2.2.2.1,(al.getD (ZP.toNat) (0,0,[],[],false,[],())).2.2.2.2.2.1,())).bind fun ZT=>
  if QL.length+1≤I8 then (
  dV al jm (As (ZP+1)) AW AL BM CD CV A7 DC DD B_ Cy Ac DF MT NO b2 b3 b4 b5 b6 b7 b8 b9 Mb MK J5 OI MG YS YM Ny (QL++[(ZT.1.1.1,ZT.1.1.2.1,ZT.2.1,ZT.2.2.1,ZT.1.1.2.2.2.2.1,ZT.2.2.2.1,())]) T1 ZO) else none) else none)
 (da B_ (B_.length:Int) 0 AW AL BM CD CV A7 DC DD B_ Cy Ac DF MT NO b2 b3 b4 b5 b6 b7 b8 b9 Mb MK J5 OI MG YS YM Ny QL T1 ZO)
def Hq (R3:Cz) (R8:C4) (dV:Cl) (da:Ci) (ef:mv) (ju a8:Int) (AW:mr) (AL:Int) (BM:my) (CD:mr) (CV:mw) (A7:Int) (DC:mz) (DD:m6) (B_:mv) (Cy:m5) (Ac:Bool) (DF MT:Int) (NO:Bool) (b2:mr) (b3:my) (b4:mr) (b5:mw) (b6:mz) (b7:m6) (b8:mv) (b9:m5) (Mb MK:Int) (J5:Bool) (OI:mr) (MG:my) (YS:mr) (YM:mw) (Ny:mz) (QL:m6) (T1:mv) (ZO:m5):Option BZ:=
 cond (decide (a8<ju))
  (if (0:Int)≤a8∧a8<(ef.length:Int) then (
  (Ep ((ef.getD (a8.toNat) (0,0,[],())).1,(ef.getD (a8.toNat) (0,0,[],())).2.1,(ef.getD (a8.toNat) (0,0,[],())).2.2.1,())).bind fun iR=>
  if T1.length+1≤I8 then (
  da ef ju (As (a8+1)) AW AL BM CD CV A7 DC DD B_ Cy Ac DF MT NO b2 b3 b4 b5 b6 b7 b8 b9 Mb MK J5 OI MG YS YM Ny QL (T1++[(iR.1.1.1,iR.1.1.2.1,iR.2.1,())]) ZO) else none) else none)
 (if 0+Cy.length≤I8 then (
 some ((((),Mb,(),(),(),MK,(),(),(),(),J5,()),()),(OI,MG,YS,YM,Ny,QL,T1,Cy,()))) else none)
mutual
def B5:Nat→Cz
 |0=>fun _ _ _ _ _ _ _ _ _ _ _ _ _ _ _ _ _ _ _ _ _ _ _ _ _ _ _ _ _ _ _ _ _ _ _ _=>none
 |n+1=>It (B5 n) (B3 n) (Bl n) (Bn n)
def B3:Nat→C4
 |0=>fun _ _ _ _ _ _ _ _ _ _ _ _ _ _ _ _ _ _ _ _ _ _ _ _ _ _ _ _ _ _ _ _ _ _ _ _=>none
 |n+1=>I1 (B5 n) (B3 n) (Bl n) (Bn n)
def Bl:Nat→Cl
 |0=>fun _ _ _ _ _ _ _ _ _ _ _ _ _ _ _ _ _ _ _ _ _ _ _ _ _ _ _ _ _ _ _ _ _ _ _ _=>none
 |n+1=>Hn (B5 n) (B3 n) (Bl n) (Bn n)
def Bn:Nat→Ci
 |0=>fun _ _ _ _ _ _ _ _ _ _ _ _ _ _ _ _ _ _ _ _ _ _ _ _ _ _ _ _ _ _ _ _ _ _ _ _=>none
 |n+1=>Hq (B5 n) (B3 n) (Bl n) (Bn n)
end
def Ie (R3:Cz) (R8:C4) (dV:Cl) (da:Ci) (p0:m7):Option BZ:=
 (C_ (p0.1,p0.2.1,())).bind fun u2=>
 (CC p0.2.2.2.1).bind fun u3=>
 (FI (p0.2.2.2.2.1,p0.2.2.2.2.2.1,())).bind fun u4=>
 R3 p0.2.2.1 (p0.2.2.1.length:Int) 0 p0.1 p0.2.1 p0.2.2.1 p0.2.2.2.1 p0.2.2.2.2.1 p0.2.2.2.2.2.1 p0.2.2.2.2.2.2.1 p0.2.2.2.2.2.2.2.1 p0.2.2.2.2.2.2.2.2.1 p0.2.2.2.2.2.2.2.2.2.1 p0.2.2.2.2.2.2.2.2.2.2.1 0 0 false [] [] [] [] [] [] [] [] u2.1.1.2.1 u4.1.1.2.1 p0.2.2.2.2.2.2.2.2.2.2.1 u2.2.1 [] u3.2.1 u4.2.1 [] [] [] []
def FZ (p0:m7):Option BZ:=Ie (B5 Ao) (B3 Ao) (Bl Ao) (Bn Ao) p0
abbrev Cm:Type:=nH×nC
abbrev HS:Type:=Int→Int→List Int→Option Cm
def Iy (R5:HS) (t0 Ce:Int) (b0:mr):Option Cm:=
 cond (decide (Ce<8))
  (if Ce<0 then none else (
  cond (((RM .i64 (t0.fdiv (2^(min Ce.toNat 64))) 1)==1))
   (if b0.length+1≤I8 then (
   R5 t0 (As (Ce+1)) (b0++[Ce])) else none)
  (R5 t0 (As (Ce+1)) b0)))
 (some (((),()),(b0,())))
def D5:Nat→HS
 |0=>fun _ _ _=>none
 |n+1=>Iy (D5 n)
def I0 (R5:HS) (p0:Int):Option Cm:=
 (Ah p0 0 255).bind fun u1=>
 cond (!u1.1.1)
  (some (((),()),([],())))
 (R5 p0 0 [])
def EZ (p0:Int):Option Cm:=I0 (D5 Ao) p0
abbrev F8:Type:=nX×Unit
def Db (p0 p1:Int):Option F8:=
 (Cp p0).bind fun u1=>
 cond (!u1.1.1)
  (some (((0,false,()),()),()))
 ((Jz p1).bind fun u2=>
 cond (!u2.1.1)
  (some (((0,false,()),()),()))
 (some (((As ((As (4294967296*p0))+p1),true,()),()),())))
abbrev Oz:Type:=nD×Unit
def Hd (p0:nJ) (p1:Int):Option Oz:=
 cond (decide (p0.1<p1))
  (some (((-1),()),()))
 (cond (decide (p0.1>p1))
  (some ((1,()),()))
 (some ((0,()),())))
abbrev AN:Type:=nX×Unit
abbrev Aa:Type:=m_→Int→Int→Int→Int→Option AN
def Au (R3:Aa) (t0:m_) (t1 t8 t9 Ce:Int):Option AN:=
 cond (decide (t9<Ce))
  (let x2:Int:=As ((IntKind.wrap .u64 (As (t9+Ce))).fdiv (2^1))
  if (0:Int)≤x2∧x2<(t0.length:Int) then (
  (Hd ((t0.getD (x2.toNat) (0,0,false,[],())).1,(t0.getD (x2.toNat) (0,0,false,[],())).2.1,(t0.getD (x2.toNat) (0,0,false,[],())).2.2.1,(t0.getD (x2.toNat) (0,0,false,[],())).2.2.2.1,()) t1).bind fun u3=>
  cond (decide (u3.1.1<0))
   (R3 t0 t1 t8 (As (x2+1)) Ce)
  (R3 t0 t1 t8 t9 x2)) else none)
 (cond (decide (t9<t8))
  (if (0:Int)≤t9∧t9<(t0.length:Int) then (
  (Hd ((t0.getD (t9.toNat) (0,0,false,[],())).1,(t0.getD (t9.toNat) (0,0,false,[],())).2.1,(t0.getD (t9.toNat) (0,0,false,[],())).2.2.1,(t0.getD (t9.toNat) (0,0,false,[],())).2.2.2.1,()) t1).bind fun u4=>
  some (((t9,u4.1.1==0,()),()),())) else none)
 (some (((t9,false,()),()),())))
def AG:Nat→Aa
 |0=>fun _ _ _ _ _=>none
 |n+1=>Au (AG n)
def Ar (R3:Aa) (p0:m_) (p1:Int):Option AN:=
 R3 p0 p1 (p0.length:Int) 0 (p0.length:Int)
def Ae (p0:m_) (p1:Int):Option AN:=Ar (AG Ao) p0 p1
abbrev Qy:Type:=nX×Unit
def JN (p0:m_) (p1:Int):Option Qy:=
 (Ae p0 p1).bind fun u1=>
 some (((u1.1.1.1,u1.1.1.2.1,()),()),())
abbrev SW:Type:=(nJ×Unit)×Unit
def Ir (p0 p1:nJ):Option SW:=
 cond ((decide (p1.2.1>p0.2.1)))
  (some (((p1.1,p1.2.1,p1.2.2.1,p1.2.2.2.1,()),()),()))
 (some (((p0.1,p0.2.1,p0.2.2.1,p0.2.2.2.1,()),()),()))
abbrev Gd:Type:=(nZ×Unit)×Unit
def Ey (p0:nM) (p1:Int):Option Gd:=
 (HG (p0.1,p0.2.1,p0.2.2.1,())).bind fun u1=>
 cond (!u1.1.1)
  (some ((((0,0,false,[],()),false,()),()),()))
 ((JN p0.1 p1).bind fun u2=>
 cond (!u2.1.1.2.1)
  (some ((((0,0,false,[],()),false,()),()),()))
 (if (0:Int)≤u2.1.1.1∧u2.1.1.1<(p0.1.length:Int) then (
 some (((((p0.1.getD (u2.1.1.1.toNat) (0,0,false,[],())).1,(p0.1.getD (u2.1.1.1.toNat) (0,0,false,[],())).2.1,(p0.1.getD (u2.1.1.1.toNat) (0,0,false,[],())).2.2.1,(p0.1.getD (u2.1.1.1.toNat) (0,0,false,[],())).2.2.2.1,()),true,()),()),())) else none))
abbrev FK:Type:=nD×Unit
abbrev Gn:Type:=nF→Int→Int→Int→nF→Option FK
def Hk (R2:Gn) (t6:nF) (t7 t8 AW:Int) (AL:nF):Option FK:=
 cond (decide (t8<t7))
  (if (0:Int)≤t8∧t8<(t6.length:Int) then (
  cond (!((t6.getD (t8.toNat) ([],[],false,())).2.2.1))
   (some ((t8,()),()))
  (R2 t6 t7 (As (t8+1)) AW AL)) else none)
 (some (((AL.length:Int),()),()))
def Da:Nat→Gn
 |0=>fun _ _ _ _ _=>none
 |n+1=>Hk (Da n)
def Ho (R2:Gn) (p0:nN):Option FK:=
 R2 p0.2.1 (p0.2.1.length:Int) 0 p0.1 p0.2.1
def Gh (p0:nN):Option FK:=Ho (Da Ao) p0
abbrev D7:Type:=nD×Unit
abbrev J_:Type:=Int→mz→Int→Int→Option D7
def KQ (R2:J_) (t1:Int) (t8:mz) (t9 Ce:Int):Option D7:=
 cond (decide (Ce<t9))
  (if (0:Int)≤Ce∧Ce<(t8.length:Int) then (
  cond (((t8.getD (Ce.toNat) (0,[],())).1)==t1)
   ((Gh ((t8.getD (Ce.toNat) (0,[],())).1,(t8.getD (Ce.toNat) (0,[],())).2.1,())).bind fun u3=>
   some ((u3.1.1,()),()))
  (R2 t1 t8 t9 (As (Ce+1)))) else none)
 (some ((0,()),()))
def Fm:Nat→J_
 |0=>fun _ _ _ _=>none
 |n+1=>KQ (Fm n)
def Kc (R2:J_) (p0:m7) (p1:Int):Option D7:=
 R2 p1 p0.2.2.2.2.2.2.1 (p0.2.2.2.2.2.2.1.length:Int) 0
def Fa (p0:m7) (p1:Int):Option D7:=Kc (Fm Ao) p0 p1
abbrev HP:Type:=nH×nC
abbrev I9:Type:=nE→Int→Int→List Int→Option HP
def J2 (R3:I9) (t7:nE) (t8 t9:Int) (b0:mr):Option HP:=
 cond (decide (t9<t8))
  (if (0:Int)≤t9∧t9<(t7.length:Int) then (
  if b0.length+1≤I8 then (
  R3 t7 t8 (As (t9+1)) (b0++[((t7.getD (t9.toNat) (0,false,0,0,false,[],())).1)])) else none) else none)
 (some (((),()),(b0,())))
def Er:Nat→I9
 |0=>fun _ _ _ _=>none
 |n+1=>J2 (Er n)
def Jw (R3:I9) (p0:nE):Option HP:=
 R3 p0 (p0.length:Int) 0 []
def F_ (p0:nE):Option HP:=Jw (Er Ao) p0
abbrev Qd:Type:=m8×Unit
def DN (p0:Int) (p1:nG):Option Qd:=
 (DJ p0).bind fun u1=>
 cond ((decide (u1.1.1<p1.1)))
  (some ((true,()),()))
 (cond (u1.1.1==p1.1)
  ((H9 p0).bind fun u3=>
  some (((decide (u3.1.1<p1.2.1)),()),()))
 (some ((false,()),())))
abbrev Nd:Type:=nH×nc
def Bp (p1:nW) (AW AL:Int) (b1:nA):Option Nd:=
 if b1.length+1≤I8 then (
 some (((()),()),((AW,AL,(),()),(),(b1++[(p1.1,p1.2.1,p1.2.2.1,())]),()))) else none
abbrev Kj:Type:=nH×nC
abbrev Lm:Type:=List Int→List Int→Int→Int→List Int→Option Kj
def MC (R5:Lm) (t2 SR:mr) (T4 OJ:Int) (b0:mr):Option Kj:=
 cond (decide (OJ<T4))
  (if (0:Int)≤OJ∧OJ<(SR.length:Int) then (
  let x3:Int:=(SR.getD (OJ.toNat) 0)
  (BQ t2 x3).bind fun u4=>
  cond (!u4.1.1)
   (if b0.length+1≤I8 then (
   R5 t2 SR T4 (As (OJ+1)) (b0++[x3])) else none)
  (R5 t2 SR T4 (As (OJ+1)) b0)) else none)
 (some (((),()),(b0,())))
def HI:Nat→Lm
 |0=>fun _ _ _ _ _=>none
 |n+1=>MC (HI n)
def L_ (R5:Lm) (p0:m9) (p1 p2:mr):Option Kj:=
 (Bg (p0.1,p0.2.1,()) p1).bind fun u1=>
 cond (!u1.1.1)
  (some (((),()),([],())))
 ((Bg (p0.1,p0.2.1,()) p2).bind fun u2=>
 cond (!u2.1.1)
  (some (((),()),([],())))
 (R5 p2 p1 (p1.length:Int) 0 []))
def Mx (p0:m9) (p1 p2:mr):Option Kj:=L_ (HI Ao) p0 p1 p2
abbrev R_:Type:=m8×Unit
def Cr (p0:m9) (p1 p2:mr):Option R_:=
 (Bg (p0.1,p0.2.1,()) p2).bind fun u1=>
 cond (!u1.1.1)
  (some ((false,()),()))
 ((Fu (p0.1,p0.2.1,()) p1).bind fun u2=>
 cond (!u2.1.1)
  (some ((false,()),()))
 ((GC p2 p1).bind fun u3=>
 cond (((u3.2.1.length:Int) !=(p2.length:Int)))
  (some ((false,()),()))
 ((Mx (p0.1,p0.2.1,()) p1 p2).bind fun u6=>
 (Fu (p0.1,p0.2.1,()) u6.2.1).bind fun u7=>
 some ((!u7.1.1,()),()))))
abbrev Ia:Type:=(nZ×Unit)×Unit
abbrev KA:Type:=List Int→Int→Bool→nE→Int→Int→Int→Int→Bool→List UInt8→Int→Int→Bool→List UInt8→Option Ia
def KS (R3:KA) (t1:mr) (t2:Int) (t9:Bool) (Kz:nE) (X4 Mn AW AL:Int) (BM:Bool) (CD:List UInt8) (Eb DF:Int) (IF:Bool) (ME:List UInt8):Option Ia:=
 cond (decide (Mn<X4))
  (if (0:Int)≤Mn∧Mn<(Kz.length:Int) then (
  cond (!((Kz.getD (Mn.toNat) (0,false,0,0,false,[],())).2.1))
   (R3 t1 t2 t9 Kz X4 (As (Mn+1)) AW AL BM CD Eb DF IF ME)
  ((BQ t1 ((Kz.getD (Mn.toNat) (0,false,0,0,false,[],())).1)).bind fun u3=>
  cond (!u3.1.1)
   (R3 t1 t2 t9 Kz X4 (As (Mn+1)) AW AL BM CD Eb DF IF ME)
  ((GB ((Kz.getD (Mn.toNat) (0,false,0,0,false,[],())).2.2.1,(Kz.getD (Mn.toNat) (0,false,0,0,false,[],())).2.2.2.1,(Kz.getD (Mn.toNat) (0,false,0,0,false,[],())).2.2.2.2.1,(Kz.getD (Mn.toNat) (0,false,0,0,false,[],())).2.2.2.2.2.1,())).bind fun u4=>
  cond (!u4.1.1)
   (R3 t1 t2 t9 Kz X4 (As (Mn+1)) AW AL BM CD Eb DF IF ME)
  (cond (((Kz.getD (Mn.toNat) (0,false,0,0,false,[],())).2.2.1) !=t2)
   (R3 t1 t2 t9 Kz X4 (As (Mn+1)) AW AL BM CD Eb DF IF ME)
  (cond (!t9)
   ((Ir ((Kz.getD (Mn.toNat) (0,false,0,0,false,[],())).2.2.1,(Kz.getD (Mn.toNat) (0,false,0,0,false,[],())).2.2.2.1,(Kz.getD (Mn.toNat) (0,false,0,0,false,[],())).2.2.2.2.1,(Kz.getD (Mn.toNat) (0,false,0,0,false,[],())).2.2.2.2.2.1,()) ((Kz.getD (Mn.toNat) (0,false,0,0,false,[],())).2.2.1,(Kz.getD (Mn.toNat) (0,false,0,0,false,[],())).2.2.2.1,(Kz.getD (Mn.toNat) (0,false,0,0,false,[],())).2.2.2.2.1,(Kz.getD (Mn.toNat) (0,false,0,0,false,[],())).2.2.2.2.2.1,())).bind fun u6=>
   R3 t1 t2 true Kz X4 (As (Mn+1)) AW AL BM CD u6.1.1.1 u6.1.1.2.1 u6.1.1.2.2.1 u6.1.1.2.2.2.1)
  ((Ir (Eb,DF,IF,ME,()) ((Kz.getD (Mn.toNat) (0,false,0,0,false,[],())).2.2.1,(Kz.getD (Mn.toNat) (0,false,0,0,false,[],())).2.2.2.1,(Kz.getD (Mn.toNat) (0,false,0,0,false,[],())).2.2.2.2.1,(Kz.getD (Mn.toNat) (0,false,0,0,false,[],())).2.2.2.2.2.1,())).bind fun u7=>
  R3 t1 t2 true Kz X4 (As (Mn+1)) AW AL BM CD u7.1.1.1 u7.1.1.2.1 u7.1.1.2.2.1 u7.1.1.2.2.2.1)))))) else none)
 (some ((((Eb,DF,IF,ME,()),t9,()),()),()))
def Fh:Nat→KA
 |0=>fun _ _ _ _ _ _ _ _ _ _ _ _ _ _=>none
 |n+1=>KS (Fh n)
def Kh (R3:KA) (p0:nE) (p1:mr) (p2:Int):Option Ia:=
 R3 p1 p2 false p0 (p0.length:Int) 0 0 0 false [] 0 0 false []
def KV (p0:nE) (p1:mr) (p2:Int):Option Ia:=Kh (Fh Ao) p0 p1 p2
abbrev NC:Type:=nH×nc
def A0 (p1:nE) (p2:mr) (AW AL:Int) (b1:nA):Option NC:=
 (Db AW AL).bind fun u1=>
 (KV p1 p2 u1.1.1.1).bind fun u2=>
 cond (!u2.1.1.2.1)
  ((Bp (3,u1.1.1.1,[],()) AW AL b1).bind fun u3=>
  some (((()),()),((u3.2.1.1,As (u3.2.1.2.1+1),(),()),(),u3.2.2.2.1,())))
 (cond (u2.1.1.1.2.2.1)
  ((Bp (2,u1.1.1.1,[],()) AW AL b1).bind fun u4=>
  some (((()),()),((u4.2.1.1,As (u4.2.1.2.1+1),(),()),(),u4.2.2.2.1,())))
 ((Bp (1,u1.1.1.1,u2.1.1.1.2.2.2.1,()) AW AL b1).bind fun u5=>
 some (((()),()),((u5.2.1.1,As (u5.2.1.2.1+1),(),()),(),u5.2.2.2.1,()))))
abbrev C9:Type:=(nf×Unit)×nU
def Dt (p0:m9) (p1:nI) (p2:Int) (p3:nG) (p4:nE):Option C9:=
 (KB (p0.1,p0.2.1,()) (p1.1,p1.2.1,())).bind fun u1=>
 cond (!u1.1.1)
  (some ((((0,0,(),()),1,()),()),([],())))
 ((IZ (p3.1,p3.2.1,p3.2.2.1,())).bind fun u2=>
 cond (!u2.1.1)
  (some ((((0,0,(),()),1,()),()),([],())))
 ((F_ p4).bind fun u3=>
 (Bg (p0.1,p0.2.1,()) u3.2.1).bind fun u4=>
 cond (!u4.1.1)
  (some ((((0,0,(),()),1,()),()),([],())))
 ((Ep (p3.1,p3.2.1,p3.2.2.1,())).bind fun u5=>
 cond ((decide (p3.1>(p1.1.length:Int))))
  (some ((((u5.1.1.1,u5.1.1.2.1,(),()),2,()),()),(u5.2.1,())))
 (cond ((p3.2.2.1.length:Int)==120)
  (some ((((u5.1.1.1,u5.1.1.2.1,(),()),2,()),()),(u5.2.1,())))
 (cond (decide (p1.2.1>0))
  ((DN p1.2.1 (p3.1,p3.2.1,p3.2.2.1,())).bind fun u8=>
  cond (!u8.1.1)
   ((Bp (5,p1.2.1,[],()) u5.1.1.1 u5.1.1.2.1 u5.2.1).bind fun u9=>
   (DJ p1.2.1).bind fun Uv=>
   (H9 p1.2.1).bind fun P0=>
   some ((((Uv.1.1,As (P0.1.1+1),(),()),0,()),()),(u9.2.2.2.1,())))
  (if (0:Int)≤As (p3.1-1)∧As (p3.1-1)<(p1.1.length:Int) then (
  (F_ p4).bind fun ZX=>
  (GC ZX.2.1 ((p1.1.getD ((As (p3.1-1)).toNat) ([],false,0,())).1)).bind fun Si=>
  cond (((p1.1.getD ((As (p3.1-1)).toNat) ([],false,0,())).2.1))
   (cond ((decide (p3.2.1>((p1.1.getD ((As (p3.1-1)).toNat) ([],false,0,())).2.2.1))))
    ((Bp (4,As (p3.1+1),[],()) u5.1.1.1 u5.1.1.2.1 u5.2.1).bind fun iW=>
    some ((((As (p3.1+1),1,(),()),0,()),()),(iW.2.2.2.1,())))
   (cond (!((p1.1.getD ((As (p3.1-1)).toNat) ([],false,0,())).2.1))
    (cond (decide (p3.2.1>p2))
     (some ((((u5.1.1.1,u5.1.1.2.1,(),()),2,()),()),(u5.2.1,())))
    (cond (decide (p3.2.1>60))
     (some ((((u5.1.1.1,u5.1.1.2.1,(),()),2,()),()),(u5.2.1,())))
    ((Cr (p0.1,p0.2.1,()) ((p1.1.getD ((As (p3.1-1)).toNat) ([],false,0,())).1) Si.2.1).bind fun lU=>
    cond (!lU.1.1)
     (some ((((u5.1.1.1,u5.1.1.2.1,(),()),3,()),()),(u5.2.1,())))
    ((A0 p4 Si.2.1 u5.1.1.1 u5.1.1.2.1 u5.2.1).bind fun ZV=>
    some ((((ZV.2.1.1,ZV.2.1.2.1,(),()),0,()),()),(ZV.2.2.2.1,()))))))
   (cond (decide (p3.2.1>60))
    (some ((((u5.1.1.1,u5.1.1.2.1,(),()),2,()),()),(u5.2.1,())))
   ((Cr (p0.1,p0.2.1,()) ((p1.1.getD ((As (p3.1-1)).toNat) ([],false,0,())).1) Si.2.1).bind fun lV=>
   cond (!lV.1.1)
    (some ((((u5.1.1.1,u5.1.1.2.1,(),()),3,()),()),(u5.2.1,())))
   ((A0 p4 Si.2.1 u5.1.1.1 u5.1.1.2.1 u5.2.1).bind fun jK=>
   some ((((jK.2.1.1,jK.2.1.2.1,(),()),0,()),()),(jK.2.2.2.1,())))))))
  (cond (!((p1.1.getD ((As (p3.1-1)).toNat) ([],false,0,())).2.1))
   (cond (decide (p3.2.1>p2))
    (some ((((u5.1.1.1,u5.1.1.2.1,(),()),2,()),()),(u5.2.1,())))
   (cond (decide (p3.2.1>60))
    (some ((((u5.1.1.1,u5.1.1.2.1,(),()),2,()),()),(u5.2.1,())))
   ((Cr (p0.1,p0.2.1,()) ((p1.1.getD ((As (p3.1-1)).toNat) ([],false,0,())).1) Si.2.1).bind fun kg=>
   cond (!kg.1.1)
    (some ((((u5.1.1.1,u5.1.1.2.1,(),()),3,()),()),(u5.2.1,())))
   ((A0 p4 Si.2.1 u5.1.1.1 u5.1.1.2.1 u5.2.1).bind fun ZT=>
   some ((((ZT.2.1.1,ZT.2.1.2.1,(),()),0,()),()),(ZT.2.2.2.1,()))))))
  (cond (decide (p3.2.1>60))
   (some ((((u5.1.1.1,u5.1.1.2.1,(),()),2,()),()),(u5.2.1,())))
  ((Cr (p0.1,p0.2.1,()) ((p1.1.getD ((As (p3.1-1)).toNat) ([],false,0,())).1) Si.2.1).bind fun kk=>
  cond (!kk.1.1)
   (some ((((u5.1.1.1,u5.1.1.2.1,(),()),3,()),()),(u5.2.1,())))
  ((A0 p4 Si.2.1 u5.1.1.1 u5.1.1.2.1 u5.2.1).bind fun iP=>
  some ((((iP.2.1.1,iP.2.1.2.1,(),()),0,()),()),(iP.2.2.2.1,()))))))) else none))
 (if (0:Int)≤As (p3.1-1)∧As (p3.1-1)<(p1.1.length:Int) then (
 (F_ p4).bind fun lL=>
 (GC lL.2.1 ((p1.1.getD ((As (p3.1-1)).toNat) ([],false,0,())).1)).bind fun aX=>
 cond (((p1.1.getD ((As (p3.1-1)).toNat) ([],false,0,())).2.1))
  (cond ((decide (p3.2.1>((p1.1.getD ((As (p3.1-1)).toNat) ([],false,0,())).2.2.1))))
   ((Bp (4,As (p3.1+1),[],()) u5.1.1.1 u5.1.1.2.1 u5.2.1).bind fun kV=>
   some ((((As (p3.1+1),1,(),()),0,()),()),(kV.2.2.2.1,())))
  (cond (!((p1.1.getD ((As (p3.1-1)).toNat) ([],false,0,())).2.1))
   (cond (decide (p3.2.1>p2))
    (some ((((u5.1.1.1,u5.1.1.2.1,(),()),2,()),()),(u5.2.1,())))
   (cond (decide (p3.2.1>60))
    (some ((((u5.1.1.1,u5.1.1.2.1,(),()),2,()),()),(u5.2.1,())))
   ((Cr (p0.1,p0.2.1,()) ((p1.1.getD ((As (p3.1-1)).toNat) ([],false,0,())).1) aX.2.1).bind fun lA=>
   cond (!lA.1.1)
    (some ((((u5.1.1.1,u5.1.1.2.1,(),()),3,()),()),(u5.2.1,())))
   ((A0 p4 aX.2.1 u5.1.1.1 u5.1.1.2.1 u5.2.1).bind fun iU=>
   some ((((iU.2.1.1,iU.2.1.2.1,(),()),0,()),()),(iU.2.2.2.1,()))))))
  (cond (decide (p3.2.1>60))
   (some ((((u5.1.1.1,u5.1.1.2.1,(),()),2,()),()),(u5.2.1,())))
  ((Cr (p0.1,p0.2.1,()) ((p1.1.getD ((As (p3.1-1)).toNat) ([],false,0,())).1) aX.2.1).bind fun mS=>
  cond (!mS.1.1)
   (some ((((u5.1.1.1,u5.1.1.2.1,(),()),3,()),()),(u5.2.1,())))
  ((A0 p4 aX.2.1 u5.1.1.1 u5.1.1.2.1 u5.2.1).bind fun iK=>
  some ((((iK.2.1.1,iK.2.1.2.1,(),()),0,()),()),(iK.2.2.2.1,())))))))
 (cond (!((p1.1.getD ((As (p3.1-1)).toNat) ([],false,0,())).2.1))
  (cond (decide (p3.2.1>p2))
   (some ((((u5.1.1.1,u5.1.1.2.1,(),()),2,()),()),(u5.2.1,())))
  (cond (decide (p3.2.1>60))
   (some ((((u5.1.1.1,u5.1.1.2.1,(),()),2,()),()),(u5.2.1,())))
  ((Cr (p0.1,p0.2.1,()) ((p1.1.getD ((As (p3.1-1)).toNat) ([],false,0,())).1) aX.2.1).bind fun mR=>
  cond (!mR.1.1)
   (some ((((u5.1.1.1,u5.1.1.2.1,(),()),3,()),()),(u5.2.1,())))
  ((A0 p4 aX.2.1 u5.1.1.1 u5.1.1.2.1 u5.2.1).bind fun iV=>
  some ((((iV.2.1.1,iV.2.1.2.1,(),()),0,()),()),(iV.2.2.2.1,()))))))
 (cond (decide (p3.2.1>60))
  (some ((((u5.1.1.1,u5.1.1.2.1,(),()),2,()),()),(u5.2.1,())))
 ((Cr (p0.1,p0.2.1,()) ((p1.1.getD ((As (p3.1-1)).toNat) ([],false,0,())).1) aX.2.1).bind fun lF=>
 cond (!lF.1.1)
  (some ((((u5.1.1.1,u5.1.1.2.1,(),()),3,()),()),(u5.2.1,())))
 ((A0 p4 aX.2.1 u5.1.1.1 u5.1.1.2.1 u5.2.1).bind fun g_=>
 some ((((g_.2.1.1,g_.2.1.2.1,(),()),0,()),()),(g_.2.2.2.1,()))))))) else none))))))
abbrev D1:Type:=nD×ng
abbrev Gp:Type:=Int→Int→Int→Int→Int→Int→Bool→List Int→my→List Int→mw→mz→m6→mv→m5→Int→Int→nA→nE→List Int→Option D1
def FB (R7:Gp) (t1 t8 WC Rn AL A7:Int) (Ac:Bool) (b1:mr) (b2:my) (b3:mr) (b4:mw) (b5:mz) (b6:m6) (b7:mv) (b8:m5) (Mu Ob:Int) (OA:nA) (UO:nE) (OI:mr):Option D1:=
 cond (decide (Rn<WC))
  (if (0:Int)≤Rn∧Rn<(OI.length:Int) then (
  let x8:Int:=(OI.getD (Rn.toNat) 0)
  cond ((decide (x8<(b2.length:Int))))
   ((CX (b1,AL,b2,b3,b4,A7,b5,b6,b7,b8,Ac,()) x8).bind fun Uv=>
   cond (!Uv.1.1)
    (if (0:Int)≤x8∧x8<(b2.length:Int) then (
    (Ey ((b2.getD (x8.toNat) ([],[],0,())).1,(b2.getD (x8.toNat) ([],[],0,())).2.1,(b2.getD (x8.toNat) ([],[],0,())).2.2.1,()) t8).bind fun P0=>
    if UO.length+1≤I8 then (
    R7 t1 t8 WC (As (Rn+1)) AL A7 Ac b1 b2 b3 b4 b5 b6 b7 b8 Mu Ob OA (UO++[(x8,P0.1.1.2.1,P0.1.1.1.1,P0.1.1.1.2.1,P0.1.1.1.2.2.1,P0.1.1.1.2.2.2.1,())]) OI) else none) else none)
   (R7 t1 t8 WC (As (Rn+1)) AL A7 Ac b1 b2 b3 b4 b5 b6 b7 b8 Mu Ob OA UO OI))
  (R7 t1 t8 WC (As (Rn+1)) AL A7 Ac b1 b2 b3 b4 b5 b6 b7 b8 Mu Ob OA UO OI)) else none)
 ((Fa (b1,AL,b2,b3,b4,A7,b5,b6,b7,b8,Ac,()) Mu).bind fun Si=>
 (Dt (b1,AL,()) (b4,A7,()) Si.1.1 (Mu,Ob,OA,()) UO).bind fun T2=>
 cond (T2.1.1.2.1 !=0)
  (some ((5,()),(((),AL,(),(),(),A7,(),(),(),(),Ac,()),b1,b2,b3,b4,b5,b6,b7,b8,())))
 (if (0:Int)≤t1∧t1<(b7.length:Int) then (
 some ((0,()),(((),AL,(),(),(),A7,(),(),(),(),Ac,()),b1,b2,b3,b4,b5,b6,(b7.set (t1.toNat) (T2.1.1.1.1,T2.1.1.1.2.1,T2.2.1,())),b8,()))) else none))
def Ag:Nat→Gp
 |0=>fun _ _ _ _ _ _ _ _ _ _ _ _ _ _ _ _ _ _ _ _=>none
 |n+1=>FB (Ag n)
def E5 (R7:Gp) (p1 p2 AL A7:Int) (Ac:Bool) (b1:mr) (b2:my) (b3:mr) (b4:mw) (b5:mz) (b6:m6) (b7:mv) (b8:m5):Option D1:=
 (Ah p1 0 (As ((b7.length:Int)-1))).bind fun u2=>
 cond (!u2.1.1)
  (some ((2,()),(((),AL,(),(),(),A7,(),(),(),(),Ac,()),b1,b2,b3,b4,b5,b6,b7,b8,())))
 (if (0:Int)≤p1∧p1<(b7.length:Int) then (
 (Db ((b7.getD (p1.toNat) (0,0,[],())).1) ((b7.getD (p1.toNat) (0,0,[],())).2.1)).bind fun u5=>
 (EZ p2).bind fun u6=>
 R7 p1 u5.1.1.1 (u6.2.1.length:Int) 0 AL A7 Ac b1 b2 b3 b4 b5 b6 b7 b8 ((b7.getD (p1.toNat) (0,0,[],())).1) ((b7.getD (p1.toNat) (0,0,[],())).2.1) ((b7.getD (p1.toNat) (0,0,[],())).2.2.1) [] u6.2.1) else none)
def Es (p1 p2 AL A7:Int) (Ac:Bool) (b1:mr) (b2:my) (b3:mr) (b4:mw) (b5:mz) (b6:m6) (b7:mv) (b8:m5):Option D1:=E5 (Ag Ao) p1 p2 AL A7 Ac b1 b2 b3 b4 b5 b6 b7 b8
abbrev P1:Type:=m8×Unit
def IP (p0:nW):Option P1:=
 cond (p0.1==1)
  (some ((true,()),()))
 (cond (p0.1==2)
  (some ((true,()),()))
 (some ((p0.1==3,()),())))
abbrev C1:Type:=m8×Unit
abbrev Eo:Type:=mv→Int→Int→List Int→Int→my→List Int→mw→Int→mz→m6→mv→m5→Bool→Option C1
abbrev Ej:Type:=Int→Bool→mv→Int→Int→nA→Int→Int→List Int→Int→my→List Int→mw→Int→mz→m6→mv→m5→Bool→Option C1
def E9 (R2:Eo) (R6:Ej) (Ce:mv) (GQ I2:Int) (AW:mr) (AL:Int) (BM:my) (CD:mr) (CV:mw) (A7:Int) (DC:mz) (DD:m6) (B_:mv) (Cy:m5) (Ac:Bool):Option C1:=
 cond (decide (I2<GQ))
  (if (0:Int)≤I2∧I2<(Ce.length:Int) then (
  R6 0 false Ce GQ I2 ((Ce.getD (I2.toNat) (0,0,[],())).2.2.1) (((Ce.getD (I2.toNat) (0,0,[],())).2.2.1).length:Int) 0 AW AL BM CD CV A7 DC DD B_ Cy Ac) else none)
 ((A3 (AW,AL,BM,CD,CV,A7,DC,DD,B_,Cy,Ac,())).bind fun u3=>
 some ((u3.1.1,()),()))
def Hs (R2:Eo) (R6:Ej) (t5:Int) (t6:Bool) (Ce:mv) (GQ I2:Int) (OB:nA) (Ug JR:Int) (AW:mr) (AL:Int) (BM:my) (CD:mr) (CV:mw) (A7:Int) (DC:mz) (DD:m6) (B_:mv) (Cy:m5) (Ac:Bool):Option C1:=
 cond (decide (JR<Ug))
  (if (0:Int)≤JR∧JR<(OB.length:Int) then (
  (IP ((OB.getD (JR.toNat) (0,0,[],())).1,(OB.getD (JR.toNat) (0,0,[],())).2.1,(OB.getD (JR.toNat) (0,0,[],())).2.2.1,())).bind fun u4=>
  cond (!u4.1.1)
   (R6 t5 t6 Ce GQ I2 OB Ug (As (JR+1)) AW AL BM CD CV A7 DC DD B_ Cy Ac)
  (cond (t6)
   (cond (decide (((OB.getD (JR.toNat) (0,0,[],())).2.1)≤t5))
    (some ((false,()),()))
   (R6 ((OB.getD (JR.toNat) (0,0,[],())).2.1) true Ce GQ I2 OB Ug (As (JR+1)) AW AL BM CD CV A7 DC DD B_ Cy Ac))
  (R6 ((OB.getD (JR.toNat) (0,0,[],())).2.1) true Ce GQ I2 OB Ug (As (JR+1)) AW AL BM CD CV A7 DC DD B_ Cy Ac))) else none)
 (R2 Ce GQ (As (I2+1)) AW AL BM CD CV A7 DC DD B_ Cy Ac)
mutual
def Bm:Nat→Eo
 |0=>fun _ _ _ _ _ _ _ _ _ _ _ _ _ _=>none
 |n+1=>E9 (Bm n) (Ck n)
def Ck:Nat→Ej
 |0=>fun _ _ _ _ _ _ _ _ _ _ _ _ _ _ _ _ _ _ _=>none
 |n+1=>Hs (Bm n) (Ck n)
end
def Hl (R2:Eo) (R6:Ej) (p0:m7):Option C1:=
 R2 p0.2.2.2.2.2.2.2.2.1 (p0.2.2.2.2.2.2.2.2.1.length:Int) 0 p0.1 p0.2.1 p0.2.2.1 p0.2.2.2.1 p0.2.2.2.2.1 p0.2.2.2.2.2.1 p0.2.2.2.2.2.2.1 p0.2.2.2.2.2.2.2.1 p0.2.2.2.2.2.2.2.2.1 p0.2.2.2.2.2.2.2.2.2.1 p0.2.2.2.2.2.2.2.2.2.2.1
def GY (p0:m7):Option C1:=Hl (Bm Ao) (Ck Ao) p0
abbrev IM:Type:=(nh×Unit)×Unit
abbrev J1:Type:=Int→m5→Int→Int→Option IM
def Kb (R2:J1) (t1:Int) (t9:m5) (Ce GQ:Int):Option IM:=
 cond (decide (GQ<Ce))
  (if (0:Int)≤GQ∧GQ<(t9.length:Int) then (
  cond (((t9.getD (GQ.toNat) (0,[],false,())).1)==t1)
   (some (((((t9.getD (GQ.toNat) (0,[],false,())).2.1),true,()),()),()))
  (R2 t1 t9 Ce (As (GQ+1)))) else none)
 (some ((([],false,()),()),()))
def Fj:Nat→J1
 |0=>fun _ _ _ _=>none
 |n+1=>Kb (Fj n)
def Kd (R2:J1) (p0:m7) (p1:Int):Option IM:=
 R2 p1 p0.2.2.2.2.2.2.2.2.2.1 (p0.2.2.2.2.2.2.2.2.2.1.length:Int) 0
def KY (p0:m7) (p1:Int):Option IM:=Kd (Fj Ao) p0 p1
abbrev DT:Type:=m8×Unit
abbrev FG:Type:=mv→Int→Int→List Int→Int→my→List Int→mw→Int→mz→m6→mv→m5→Bool→Option DT
abbrev FC:Type:=mv→Int→Int→nA→Int→Int→List Int→Int→my→List Int→mw→Int→mz→m6→mv→m5→Bool→Option DT
def FP (R2:FG) (R5:FC) (Ce:mv) (GQ I2:Int) (AW:mr) (AL:Int) (BM:my) (CD:mr) (CV:mw) (A7:Int) (DC:mz) (DD:m6) (B_:mv) (Cy:m5) (Ac:Bool):Option DT:=
 cond (decide (I2<GQ))
  (if (0:Int)≤I2∧I2<(Ce.length:Int) then (
  R5 Ce GQ I2 ((Ce.getD (I2.toNat) (0,0,[],())).2.2.1) (((Ce.getD (I2.toNat) (0,0,[],())).2.2.1).length:Int) 0 AW AL BM CD CV A7 DC DD B_ Cy Ac) else none)
 ((A3 (AW,AL,BM,CD,CV,A7,DC,DD,B_,Cy,Ac,())).bind fun u3=>
 some ((u3.1.1,()),()))
def Ff (R2:FG) (R5:FC) (Ce:mv) (GQ I2:Int) (OB:nA) (Ug JR:Int) (AW:mr) (AL:Int) (BM:my) (CD:mr) (CV:mw) (A7:Int) (DC:mz) (DD:m6) (B_:mv) (Cy:m5) (Ac:Bool):Option DT:=
 cond (decide (JR<Ug))
  (if (0:Int)≤JR∧JR<(OB.length:Int) then (
  (KY (AW,AL,BM,CD,CV,A7,DC,DD,B_,Cy,Ac,()) ((OB.getD (JR.toNat) (0,0,[],())).2.1)).bind fun u5=>
  cond (((OB.getD (JR.toNat) (0,0,[],())).1)==1)
   (cond (!u5.1.1.2.1)
    (some ((false,()),()))
   (cond (!(u5.1.1.1==((OB.getD (JR.toNat) (0,0,[],())).2.2.1)))
    (some ((false,()),()))
   (R5 Ce GQ I2 OB Ug (As (JR+1)) AW AL BM CD CV A7 DC DD B_ Cy Ac)))
  (R5 Ce GQ I2 OB Ug (As (JR+1)) AW AL BM CD CV A7 DC DD B_ Cy Ac)) else none)
 (R2 Ce GQ (As (I2+1)) AW AL BM CD CV A7 DC DD B_ Cy Ac)
mutual
def B8:Nat→FG
 |0=>fun _ _ _ _ _ _ _ _ _ _ _ _ _ _=>none
 |n+1=>FP (B8 n) (CZ n)
def CZ:Nat→FC
 |0=>fun _ _ _ _ _ _ _ _ _ _ _ _ _ _ _ _ _=>none
 |n+1=>Ff (B8 n) (CZ n)
end
def Ip (R2:FG) (R5:FC) (p0:m7):Option DT:=
 R2 p0.2.2.2.2.2.2.2.2.1 (p0.2.2.2.2.2.2.2.2.1.length:Int) 0 p0.1 p0.2.1 p0.2.2.1 p0.2.2.2.1 p0.2.2.2.2.1 p0.2.2.2.2.2.1 p0.2.2.2.2.2.2.1 p0.2.2.2.2.2.2.2.1 p0.2.2.2.2.2.2.2.2.1 p0.2.2.2.2.2.2.2.2.2.1 p0.2.2.2.2.2.2.2.2.2.2.1
def HJ (p0:m7):Option DT:=Ip (B8 Ao) (CZ Ao) p0
abbrev Kg:Type:=(nh×Unit)×Unit
abbrev Lc:Type:=Int→nA→Int→Int→Option Kg
def Ly (R2:Lc) (t1:Int) (t9:nA) (Ce GQ:Int):Option Kg:=
 cond (decide (GQ<Ce))
  (if (0:Int)≤GQ∧GQ<(t9.length:Int) then (
  cond (((t9.getD (GQ.toNat) (0,0,[],())).1)==1)
   (cond (((t9.getD (GQ.toNat) (0,0,[],())).2.1)==t1)
    (some (((((t9.getD (GQ.toNat) (0,0,[],())).2.2.1),true,()),()),()))
   (R2 t1 t9 Ce (As (GQ+1))))
  (R2 t1 t9 Ce (As (GQ+1)))) else none)
 (some ((([],false,()),()),()))
def Hc:Nat→Lc
 |0=>fun _ _ _ _=>none
 |n+1=>Ly (Hc n)
def MA (R2:Lc) (p0:nG) (p1:Int):Option Kg:=
 R2 p1 p0.2.2.1 (p0.2.2.1.length:Int) 0
def H5 (p0:nG) (p1:Int):Option Kg:=MA (Hc Ao) p0 p1
abbrev DU:Type:=m8×Unit
abbrev FN:Type:=mv→Int→Int→List Int→Int→my→List Int→mw→Int→mz→m6→mv→m5→Bool→Option DU
abbrev FD:Type:=mv→Int→Int→m5→Int→Int→List Int→Int→my→List Int→mw→Int→mz→m6→mv→m5→Bool→Int→Int→nA→Option DU
def Ft (R4:FN) (R7:FD) (JR:mv) (ai XL:Int) (AW:mr) (AL:Int) (BM:my) (CD:mr) (CV:mw) (A7:Int) (DC:mz) (DD:m6) (B_:mv) (Cy:m5) (Ac:Bool):Option DU:=
 cond (decide (XL<ai))
  (if (0:Int)≤XL∧XL<(JR.length:Int) then (
  R7 JR ai XL Cy (Cy.length:Int) 0 AW AL BM CD CV A7 DC DD B_ Cy Ac ((JR.getD (XL.toNat) (0,0,[],())).1) ((JR.getD (XL.toNat) (0,0,[],())).2.1) ((JR.getD (XL.toNat) (0,0,[],())).2.2.1)) else none)
 (some ((true,()),()))
def Fl (R4:FN) (R7:FD) (JR:mv) (ai XL:Int) (T3:m5) (XA ZA:Int) (AW:mr) (AL:Int) (BM:my) (CD:mr) (CV:mw) (A7:Int) (DC:mz) (DD:m6) (B_:mv) (Cy:m5) (Ac:Bool) (Eb DF:Int) (IF:nA):Option DU:=
 cond (decide (ZA<XA))
  (if (0:Int)≤ZA∧ZA<(T3.length:Int) then (
  (H5 (Eb,DF,IF,()) ((T3.getD (ZA.toNat) (0,[],false,())).1)).bind fun u7=>
  cond (((T3.getD (ZA.toNat) (0,[],false,())).2.2.1))
   (cond (decide (((T3.getD (ZA.toNat) (0,[],false,())).1)>A7))
    ((DN ((T3.getD (ZA.toNat) (0,[],false,())).1) (Eb,DF,IF,())).bind fun P0=>
    cond (P0.1.1)
     (cond (!u7.1.1.2.1)
      (some ((false,()),()))
     (R7 JR ai XL T3 XA (As (ZA+1)) AW AL BM CD CV A7 DC DD B_ Cy Ac Eb DF IF))
    (R7 JR ai XL T3 XA (As (ZA+1)) AW AL BM CD CV A7 DC DD B_ Cy Ac Eb DF IF))
   (R7 JR ai XL T3 XA (As (ZA+1)) AW AL BM CD CV A7 DC DD B_ Cy Ac Eb DF IF))
  (R7 JR ai XL T3 XA (As (ZA+1)) AW AL BM CD CV A7 DC DD B_ Cy Ac Eb DF IF)) else none)
 (R4 JR ai (As (XL+1)) AW AL BM CD CV A7 DC DD B_ Cy Ac)
mutual
def B4:Nat→FN
 |0=>fun _ _ _ _ _ _ _ _ _ _ _ _ _ _=>none
 |n+1=>Ft (B4 n) (CW n)
def CW:Nat→FD
 |0=>fun _ _ _ _ _ _ _ _ _ _ _ _ _ _ _ _ _ _ _ _=>none
 |n+1=>Fl (B4 n) (CW n)
end
def Ik (R4:FN) (R7:FD) (p0:m7):Option DU:=
 (A3 (p0.1,p0.2.1,p0.2.2.1,p0.2.2.2.1,p0.2.2.2.2.1,p0.2.2.2.2.2.1,p0.2.2.2.2.2.2.1,p0.2.2.2.2.2.2.2.1,p0.2.2.2.2.2.2.2.2.1,p0.2.2.2.2.2.2.2.2.2.1,p0.2.2.2.2.2.2.2.2.2.2.1,())).bind fun u1=>
 cond (!u1.1.1)
  ((A3 (p0.1,p0.2.1,p0.2.2.1,p0.2.2.2.1,p0.2.2.2.2.1,p0.2.2.2.2.2.1,p0.2.2.2.2.2.2.1,p0.2.2.2.2.2.2.2.1,p0.2.2.2.2.2.2.2.2.1,p0.2.2.2.2.2.2.2.2.2.1,p0.2.2.2.2.2.2.2.2.2.2.1,())).bind fun u2=>
  some ((u2.1.1,()),()))
 (cond (p0.2.2.2.2.2.2.2.2.2.2.1)
  ((A3 (p0.1,p0.2.1,p0.2.2.1,p0.2.2.2.1,p0.2.2.2.2.1,p0.2.2.2.2.2.1,p0.2.2.2.2.2.2.1,p0.2.2.2.2.2.2.2.1,p0.2.2.2.2.2.2.2.2.1,p0.2.2.2.2.2.2.2.2.2.1,p0.2.2.2.2.2.2.2.2.2.2.1,())).bind fun u4=>
  some ((u4.1.1,()),()))
 (R4 p0.2.2.2.2.2.2.2.2.1 (p0.2.2.2.2.2.2.2.2.1.length:Int) 0 p0.1 p0.2.1 p0.2.2.1 p0.2.2.2.1 p0.2.2.2.2.1 p0.2.2.2.2.2.1 p0.2.2.2.2.2.2.1 p0.2.2.2.2.2.2.2.1 p0.2.2.2.2.2.2.2.2.1 p0.2.2.2.2.2.2.2.2.2.1 p0.2.2.2.2.2.2.2.2.2.2.1))
def HK (p0:m7):Option DU:=Ik (B4 Ao) (CW Ao) p0
abbrev C6:Type:=m8×Unit
abbrev El:Type:=mv→Int→Int→Option C6
abbrev Eh:Type:=mv→Int→Int→nA→Int→Int→Option C6
def E7 (R4:El) (R7:Eh) (OB:mv) (Ug JR:Int):Option C6:=
 cond (decide (JR<Ug))
  (if (0:Int)≤JR∧JR<(OB.length:Int) then (
  R7 OB Ug JR ((OB.getD (JR.toNat) (0,0,[],())).2.2.1) (((OB.getD (JR.toNat) (0,0,[],())).2.2.1).length:Int) 0) else none)
 (some ((true,()),()))
def FA (R4:El) (R7:Eh) (OB:mv) (Ug JR:Int) (OJ:nA) (aS T3:Int):Option C6:=
 cond (decide (T3<aS))
  (if (0:Int)≤T3∧T3<(OJ.length:Int) then (
  cond (((OJ.getD (T3.toNat) (0,0,[],())).1)==3)
   (some ((false,()),()))
  (R7 OB Ug JR OJ aS (As (T3+1)))) else none)
 (R4 OB Ug (As (JR+1)))
mutual
def BK:Nat→El
 |0=>fun _ _ _=>none
 |n+1=>E7 (BK n) (CI n)
def CI:Nat→Eh
 |0=>fun _ _ _ _ _ _=>none
 |n+1=>FA (BK n) (CI n)
end
def Hp (R4:El) (R7:Eh) (p0:m7):Option C6:=
 (A3 (p0.1,p0.2.1,p0.2.2.1,p0.2.2.2.1,p0.2.2.2.2.1,p0.2.2.2.2.2.1,p0.2.2.2.2.2.2.1,p0.2.2.2.2.2.2.2.1,p0.2.2.2.2.2.2.2.2.1,p0.2.2.2.2.2.2.2.2.2.1,p0.2.2.2.2.2.2.2.2.2.2.1,())).bind fun u1=>
 cond (!u1.1.1)
  ((A3 (p0.1,p0.2.1,p0.2.2.1,p0.2.2.2.1,p0.2.2.2.2.1,p0.2.2.2.2.2.1,p0.2.2.2.2.2.2.1,p0.2.2.2.2.2.2.2.1,p0.2.2.2.2.2.2.2.2.1,p0.2.2.2.2.2.2.2.2.2.1,p0.2.2.2.2.2.2.2.2.2.2.1,())).bind fun u2=>
  some ((u2.1.1,()),()))
 (cond (p0.2.2.2.2.2.2.2.2.2.2.1)
  ((A3 (p0.1,p0.2.1,p0.2.2.1,p0.2.2.2.1,p0.2.2.2.2.1,p0.2.2.2.2.2.1,p0.2.2.2.2.2.2.1,p0.2.2.2.2.2.2.2.1,p0.2.2.2.2.2.2.2.2.1,p0.2.2.2.2.2.2.2.2.2.1,p0.2.2.2.2.2.2.2.2.2.2.1,())).bind fun u4=>
  some ((u4.1.1,()),()))
 (R4 p0.2.2.2.2.2.2.2.2.1 (p0.2.2.2.2.2.2.2.2.1.length:Int) 0))
def Gc (p0:m7):Option C6:=Hp (BK Ao) (CI Ao) p0
abbrev DW:Type:=m8×Unit
abbrev FM:Type:=mv→Int→Int→List Int→Int→my→List Int→mw→Int→mz→m6→mv→m5→Bool→Option DW
abbrev FH:Type:=mv→Int→Int→nA→Int→Int→List Int→Int→my→List Int→mw→Int→mz→m6→mv→m5→Bool→Option DW
def Fp (R4:FM) (R7:FH) (SR:mv) (T4 OJ:Int) (AW:mr) (AL:Int) (BM:my) (CD:mr) (CV:mw) (A7:Int) (DC:mz) (DD:m6) (B_:mv) (Cy:m5) (Ac:Bool):Option DW:=
 cond (decide (OJ<T4))
  (if (0:Int)≤OJ∧OJ<(SR.length:Int) then (
  R7 SR T4 OJ ((SR.getD (OJ.toNat) (0,0,[],())).2.2.1) (((SR.getD (OJ.toNat) (0,0,[],())).2.2.1).length:Int) 0 AW AL BM CD CV A7 DC DD B_ Cy Ac) else none)
 (some ((true,()),()))
def Fo (R4:FM) (R7:FH) (SR:mv) (T4 OJ:Int) (Rs:nA) (Yq QR:Int) (AW:mr) (AL:Int) (BM:my) (CD:mr) (CV:mw) (A7:Int) (DC:mz) (DD:m6) (B_:mv) (Cy:m5) (Ac:Bool):Option DW:=
 cond (decide (QR<Yq))
  (if (0:Int)≤QR∧QR<(Rs.length:Int) then (
  (BX ((Rs.getD (QR.toNat) (0,0,[],())).2.1)).bind fun u8=>
  cond (u8.1.1)
   (if (0:Int)≤(0:Int)∧(0:Int)<(B_.length:Int) then (
   (DN ((Rs.getD (QR.toNat) (0,0,[],())).2.1) ((B_.getD 0 (0,0,[],())).1,(B_.getD 0 (0,0,[],())).2.1,(B_.getD 0 (0,0,[],())).2.2.1,())).bind fun Uv=>
   cond (Uv.1.1)
    (if (0:Int)≤(1:Int)∧(1:Int)<(B_.length:Int) then (
    (DN ((Rs.getD (QR.toNat) (0,0,[],())).2.1) ((B_.getD 1 (0,0,[],())).1,(B_.getD 1 (0,0,[],())).2.1,(B_.getD 1 (0,0,[],())).2.2.1,())).bind fun ZX=>
    cond (((Rs.getD (QR.toNat) (0,0,[],())).1) !=1)
     (R7 SR T4 OJ Rs Yq (As (QR+1)) AW AL BM CD CV A7 DC DD B_ Cy Ac)
    (cond (decide (((Rs.getD (QR.toNat) (0,0,[],())).2.1)≤A7))
     (R7 SR T4 OJ Rs Yq (As (QR+1)) AW AL BM CD CV A7 DC DD B_ Cy Ac)
    (cond (!ZX.1.1)
     (R7 SR T4 OJ Rs Yq (As (QR+1)) AW AL BM CD CV A7 DC DD B_ Cy Ac)
    (if (0:Int)≤(0:Int)∧(0:Int)<(B_.length:Int) then (
    (H5 ((B_.getD 0 (0,0,[],())).1,(B_.getD 0 (0,0,[],())).2.1,(B_.getD 0 (0,0,[],())).2.2.1,()) ((Rs.getD (QR.toNat) (0,0,[],())).2.1)).bind fun u16=>
    if (0:Int)≤(1:Int)∧(1:Int)<(B_.length:Int) then (
    (H5 ((B_.getD 1 (0,0,[],())).1,(B_.getD 1 (0,0,[],())).2.1,(B_.getD 1 (0,0,[],())).2.2.1,()) ((Rs.getD (QR.toNat) (0,0,[],())).2.1)).bind fun jn=>
    cond ((u16.1.1.2.1 !=jn.1.1.2.1))
     (some ((false,()),()))
    (cond ((!(u16.1.1.1==jn.1.1.1)))
     (some ((false,()),()))
    (R7 SR T4 OJ Rs Yq (As (QR+1)) AW AL BM CD CV A7 DC DD B_ Cy Ac))) else none) else none)))) else none)
   (cond (((Rs.getD (QR.toNat) (0,0,[],())).1) !=1)
    (R7 SR T4 OJ Rs Yq (As (QR+1)) AW AL BM CD CV A7 DC DD B_ Cy Ac)
   (cond (decide (((Rs.getD (QR.toNat) (0,0,[],())).2.1)≤A7))
    (R7 SR T4 OJ Rs Yq (As (QR+1)) AW AL BM CD CV A7 DC DD B_ Cy Ac)
   (R7 SR T4 OJ Rs Yq (As (QR+1)) AW AL BM CD CV A7 DC DD B_ Cy Ac)))) else none)
  (cond (((Rs.getD (QR.toNat) (0,0,[],())).1) !=1)
   (R7 SR T4 OJ Rs Yq (As (QR+1)) AW AL BM CD CV A7 DC DD B_ Cy Ac)
  (cond (decide (((Rs.getD (QR.toNat) (0,0,[],())).2.1)≤A7))
   (R7 SR T4 OJ Rs Yq (As (QR+1)) AW AL BM CD CV A7 DC DD B_ Cy Ac)
  (R7 SR T4 OJ Rs Yq (As (QR+1)) AW AL BM CD CV A7 DC DD B_ Cy Ac)))) else none)
 (R4 SR T4 (As (OJ+1)) AW AL BM CD CV A7 DC DD B_ Cy Ac)
mutual
def B9:Nat→FM
 |0=>fun _ _ _ _ _ _ _ _ _ _ _ _ _ _=>none
 |n+1=>Fp (B9 n) (CY n)
def CY:Nat→FH
 |0=>fun _ _ _ _ _ _ _ _ _ _ _ _ _ _ _ _ _=>none
 |n+1=>Fo (B9 n) (CY n)
end
def Iw (R4:FM) (R7:FH) (p0:m7):Option DW:=
 (A3 (p0.1,p0.2.1,p0.2.2.1,p0.2.2.2.1,p0.2.2.2.2.1,p0.2.2.2.2.2.1,p0.2.2.2.2.2.2.1,p0.2.2.2.2.2.2.2.1,p0.2.2.2.2.2.2.2.2.1,p0.2.2.2.2.2.2.2.2.2.1,p0.2.2.2.2.2.2.2.2.2.2.1,())).bind fun u1=>
 cond (!u1.1.1)
  ((A3 (p0.1,p0.2.1,p0.2.2.1,p0.2.2.2.1,p0.2.2.2.2.1,p0.2.2.2.2.2.1,p0.2.2.2.2.2.2.1,p0.2.2.2.2.2.2.2.1,p0.2.2.2.2.2.2.2.2.1,p0.2.2.2.2.2.2.2.2.2.1,p0.2.2.2.2.2.2.2.2.2.2.1,())).bind fun u2=>
  some ((u2.1.1,()),()))
 (cond (p0.2.2.2.2.2.2.2.2.2.2.1)
  ((A3 (p0.1,p0.2.1,p0.2.2.1,p0.2.2.2.1,p0.2.2.2.2.1,p0.2.2.2.2.2.1,p0.2.2.2.2.2.2.1,p0.2.2.2.2.2.2.2.1,p0.2.2.2.2.2.2.2.2.1,p0.2.2.2.2.2.2.2.2.2.1,p0.2.2.2.2.2.2.2.2.2.2.1,())).bind fun u4=>
  some ((u4.1.1,()),()))
 (R4 p0.2.2.2.2.2.2.2.2.1 (p0.2.2.2.2.2.2.2.2.1.length:Int) 0 p0.1 p0.2.1 p0.2.2.1 p0.2.2.2.1 p0.2.2.2.2.1 p0.2.2.2.2.2.1 p0.2.2.2.2.2.2.1 p0.2.2.2.2.2.2.2.1 p0.2.2.2.2.2.2.2.2.1 p0.2.2.2.2.2.2.2.2.2.1 p0.2.2.2.2.2.2.2.2.2.2.1))
def HZ (p0:m7):Option DW:=Iw (B9 Ao) (CY Ao) p0
abbrev P6:Type:=m8×Unit
def IL (p0:m7):Option P6:=
 (GY (p0.1,p0.2.1,p0.2.2.1,p0.2.2.2.1,p0.2.2.2.2.1,p0.2.2.2.2.2.1,p0.2.2.2.2.2.2.1,p0.2.2.2.2.2.2.2.1,p0.2.2.2.2.2.2.2.2.1,p0.2.2.2.2.2.2.2.2.2.1,p0.2.2.2.2.2.2.2.2.2.2.1,())).bind fun u1=>
 cond (u1.1.1)
  ((HJ (p0.1,p0.2.1,p0.2.2.1,p0.2.2.2.1,p0.2.2.2.2.1,p0.2.2.2.2.2.1,p0.2.2.2.2.2.2.1,p0.2.2.2.2.2.2.2.1,p0.2.2.2.2.2.2.2.2.1,p0.2.2.2.2.2.2.2.2.2.1,p0.2.2.2.2.2.2.2.2.2.2.1,())).bind fun u2=>
  cond (u2.1.1)
   ((HK (p0.1,p0.2.1,p0.2.2.1,p0.2.2.2.1,p0.2.2.2.2.1,p0.2.2.2.2.2.1,p0.2.2.2.2.2.2.1,p0.2.2.2.2.2.2.2.1,p0.2.2.2.2.2.2.2.2.1,p0.2.2.2.2.2.2.2.2.2.1,p0.2.2.2.2.2.2.2.2.2.2.1,())).bind fun u3=>
   cond (u3.1.1)
    ((Gc (p0.1,p0.2.1,p0.2.2.1,p0.2.2.2.1,p0.2.2.2.2.1,p0.2.2.2.2.2.1,p0.2.2.2.2.2.2.1,p0.2.2.2.2.2.2.2.1,p0.2.2.2.2.2.2.2.2.1,p0.2.2.2.2.2.2.2.2.2.1,p0.2.2.2.2.2.2.2.2.2.2.1,())).bind fun u4=>
    cond (u4.1.1)
     ((HZ (p0.1,p0.2.1,p0.2.2.1,p0.2.2.2.1,p0.2.2.2.2.1,p0.2.2.2.2.2.1,p0.2.2.2.2.2.2.1,p0.2.2.2.2.2.2.2.1,p0.2.2.2.2.2.2.2.2.1,p0.2.2.2.2.2.2.2.2.2.1,p0.2.2.2.2.2.2.2.2.2.2.1,())).bind fun u5=>
     some ((u5.1.1,()),()))
    (some ((false,()),())))
   (some ((false,()),())))
  (some ((false,()),())))
 (some ((false,()),()))
abbrev QC:Type:=m8×Unit
def NF (p0:nG):Option QC:=
 (Gt p0.1 1 31).bind fun u1=>
 cond (u1.1.1)
  ((Gt p0.2.1 1 61).bind fun u2=>
  cond (u2.1.1)
   (some ((decide ((p0.2.2.1.length:Int)≤120),()),()))
  (some ((false,()),())))
 (some ((false,()),()))
abbrev Pu:Type:=(ni×Unit)×nR
abbrev OZ:Type:=(nf×Unit)×nU
abbrev J4:Type:=(nQ×Unit)×nR
abbrev Nb:Type:=nD×ng
def H4 (p1:Int×Int×Int×Int×List UInt8×Unit) (AL A7:Int) (Ac:Bool) (b1:mr) (b2:my) (b3:mr) (b4:mw) (b5:mz) (b6:m6) (b7:mv) (b8:m5):Option Nb:=
 cond (p1.1==1)
  (none)
 (cond (p1.1==2)
  (none)
 (cond (p1.1==3)
  (none)
 (cond (p1.1==4)
  (none)
 (cond (p1.1==5)
  (none)
 (cond (p1.1==6)
  (none)
 (cond (p1.1==7)
  (none)
 (cond (p1.1==8)
  (none)
 (cond (p1.1==9)
  (none)
 (cond (p1.1==10)
  (none)
 (cond (p1.1==11)
  (none)
 (cond (p1.1==12)
  (none)
 (cond (p1.1==13)
  (none)
 (cond (p1.1==14)
  ((Es p1.2.1 p1.2.2.1 AL A7 Ac b1 b2 b3 b4 b5 b6 b7 b8).bind fun u1=>
  some ((u1.1.1,()),(((),u1.2.1.2.1,(),(),(),u1.2.1.2.2.2.2.2.1,(),(),(),(),u1.2.1.2.2.2.2.2.2.2.2.2.2.1,()),u1.2.2.1,u1.2.2.2.1,u1.2.2.2.2.1,u1.2.2.2.2.2.1,u1.2.2.2.2.2.2.1,u1.2.2.2.2.2.2.2.1,u1.2.2.2.2.2.2.2.2.1,u1.2.2.2.2.2.2.2.2.2.1,())))
 (cond (p1.1==16)
  (none)
 ((Ah p1.2.1 0 (As ((b5.length:Int)-1))).bind fun u4=>
 cond (!u4.1.1)
  (some ((2,()),(((),AL,(),(),(),A7,(),(),(),(),Ac,()),b1,b2,b3,b4,b5,b6,b7,b8,())))
 (none))))))))))))))))
abbrev N3:Type:=(ni×Unit)×nR
def Ga (p0:m7) (p1:Int×Int×Int×Int×List UInt8×Unit):Option N3:=
 (A3 (p0.1,p0.2.1,p0.2.2.1,p0.2.2.2.1,p0.2.2.2.2.1,p0.2.2.2.2.2.1,p0.2.2.2.2.2.2.1,p0.2.2.2.2.2.2.2.1,p0.2.2.2.2.2.2.2.2.1,p0.2.2.2.2.2.2.2.2.2.1,p0.2.2.2.2.2.2.2.2.2.2.1,())).bind fun u1=>
 cond (!u1.1.1)
  (some (((((),0,(),(),(),0,(),(),(),(),false,()),1,()),()),([],[],[],[],[],[],[],[],())))
 ((Ke (p1.1,p1.2.1,p1.2.2.1,p1.2.2.2.1,p1.2.2.2.2.1,())).bind fun u2=>
 cond (!u2.1.1)
  (some (((((),0,(),(),(),0,(),(),(),(),false,()),1,()),()),([],[],[],[],[],[],[],[],())))
 ((FZ (p0.1,p0.2.1,p0.2.2.1,p0.2.2.2.1,p0.2.2.2.2.1,p0.2.2.2.2.2.1,p0.2.2.2.2.2.2.1,p0.2.2.2.2.2.2.2.1,p0.2.2.2.2.2.2.2.2.1,p0.2.2.2.2.2.2.2.2.2.1,p0.2.2.2.2.2.2.2.2.2.2.1,())).bind fun u3=>
 (H4 (p1.1,p1.2.1,p1.2.2.1,p1.2.2.2.1,p1.2.2.2.2.1,()) u3.1.1.2.1 u3.1.1.2.2.2.2.2.1 u3.1.1.2.2.2.2.2.2.2.2.2.2.1 u3.2.1 u3.2.2.1 u3.2.2.2.1 u3.2.2.2.2.1 u3.2.2.2.2.2.1 u3.2.2.2.2.2.2.1 u3.2.2.2.2.2.2.2.1 u3.2.2.2.2.2.2.2.2.1).bind fun u4=>
 cond (u4.1.1 !=0)
  ((FZ (p0.1,p0.2.1,p0.2.2.1,p0.2.2.2.1,p0.2.2.2.2.1,p0.2.2.2.2.2.1,p0.2.2.2.2.2.2.1,p0.2.2.2.2.2.2.2.1,p0.2.2.2.2.2.2.2.2.1,p0.2.2.2.2.2.2.2.2.2.1,p0.2.2.2.2.2.2.2.2.2.2.1,())).bind fun u6=>
  some (((((),u6.1.1.2.1,(),(),(),u6.1.1.2.2.2.2.2.1,(),(),(),(),u6.1.1.2.2.2.2.2.2.2.2.2.2.1,()),u4.1.1,()),()),(u6.2.1,u6.2.2.1,u6.2.2.2.1,u6.2.2.2.2.1,u6.2.2.2.2.2.1,u6.2.2.2.2.2.2.1,u6.2.2.2.2.2.2.2.1,u6.2.2.2.2.2.2.2.2.1,())))
 (some (((((),u4.2.1.2.1,(),(),(),u4.2.1.2.2.2.2.2.1,(),(),(),(),u4.2.1.2.2.2.2.2.2.2.2.2.2.1,()),0,()),()),(u4.2.2.1,u4.2.2.2.1,u4.2.2.2.2.1,u4.2.2.2.2.2.1,u4.2.2.2.2.2.2.1,u4.2.2.2.2.2.2.2.1,u4.2.2.2.2.2.2.2.2.1,u4.2.2.2.2.2.2.2.2.2.1,())))))
abbrev Ta:Type:=m8×Unit
def Jg (p0:mr):Option Ta:=
 (Qm p0).bind fun u1=>
 cond (u1.1.1)
  (some ((true,()),()))
 ((Ha p0).bind fun u2=>
 (Cn (u2.2.1,u2.1.1.2.1,())).bind fun u3=>
 (IJ (u2.2.1,u2.1.1.2.1,())).bind fun u4=>
 cond (u3.1.1.2.1 !=u4.1.1)
  (some ((false,()),()))
 ((Ba (u2.2.1,u2.1.1.2.1,())).bind fun u5=>
 cond (u5.1.1 !=u3.1.1.2.1)
  (some ((false,()),()))
 (cond (!u3.1.1.2.1)
  (some (((u3.2.2.1.length:Int)==0,()),()))
 ((QQ p0 1).bind fun u7=>
 (Ga (u3.2.1,u3.1.1.1.2.1,u3.2.2.1,u3.2.2.2.1,u3.2.2.2.2.1,u3.1.1.1.2.2.2.2.2.1,u3.2.2.2.2.2.1,u3.2.2.2.2.2.2.1,u3.2.2.2.2.2.2.2.1,u3.2.2.2.2.2.2.2.2.1,u3.1.1.1.2.2.2.2.2.2.2.2.2.2.1,()) (14,u7.1.1.tmod 2,255,0,[],())).bind fun u8=>
 (A3 (u3.2.1,u3.1.1.1.2.1,u3.2.2.1,u3.2.2.2.1,u3.2.2.2.2.1,u3.1.1.1.2.2.2.2.2.1,u3.2.2.2.2.2.1,u3.2.2.2.2.2.2.1,u3.2.2.2.2.2.2.2.1,u3.2.2.2.2.2.2.2.2.1,u3.1.1.1.2.2.2.2.2.2.2.2.2.2.1,())).bind fun u9=>
 cond (u9.1.1)
  ((IL (u3.2.1,u3.1.1.1.2.1,u3.2.2.1,u3.2.2.2.1,u3.2.2.2.2.1,u3.1.1.1.2.2.2.2.2.1,u3.2.2.2.2.2.1,u3.2.2.2.2.2.2.1,u3.2.2.2.2.2.2.2.1,u3.2.2.2.2.2.2.2.2.1,u3.1.1.1.2.2.2.2.2.2.2.2.2.2.1,())).bind fun Uv=>
  cond (Uv.1.1)
   (cond (u8.1.1.2.1==5)
    (cond ((u3.2.2.1.length:Int)==(u2.2.1.length:Int))
     ((Fa (u3.2.1,u3.1.1.1.2.1,u3.2.2.1,u3.2.2.2.1,u3.2.2.2.2.1,u3.1.1.1.2.2.2.2.2.1,u3.2.2.2.2.2.1,u3.2.2.2.2.2.2.1,u3.2.2.2.2.2.2.2.1,u3.2.2.2.2.2.2.2.2.1,u3.1.1.1.2.2.2.2.2.2.2.2.2.2.1,()) 1).bind fun Si=>
     some ((Si.1.1==0,()),()))
    (some ((false,()),())))
   (some ((false,()),())))
  (some ((false,()),())))
 (some ((false,()),()))))))
end
end Go.M
