/- What each function computes, printed by a program out of the translation; what is printed is checked in the equations. -/
import Derived.Test.YtdofdihhmbbbhaaGreatF1
set_option linter.unusedVariables false
set_option linter.unusedSimpArgs false
set_option linter.unusedSectionVars false
namespace Go.M
noncomputable section
abbrev l_:Type:=AAa×Unit
def cg(p0:AAD):Option l_:=
 some (((decide ((p0.length:Int)>1048576)),()),())
abbrev Qg:Type:=AAu×ABd
abbrev TT:Type:=List Int→Int→Int→Option Qg
def Tj(R3:TT)(t0:AAD)(t3 t4:Int):Option Qg:=
 cond ((decide (t4<(t0.length:Int))))
  (cond (decide (t4<4000))
   (if(0:Int)≤t4∧t4<(t0.length:Int)then(
   R3 t0 (Wi .i64 (AX ((AX ((AX (t3*131))+(AX ((t0.getD (t4.toNat) 0)))))+7)) 1073741823) (AX (t4+1)))else none)
  (some (((),()),((t0,0,t3,()),()))))
 (some (((),()),((t0,0,t3,()),())))
def LF:Nat→TT
 |0=>fun _ _ _=>none
 |n+1=>Tj (LF n)
def Th(R3:TT)(p0:AAD):Option Qg:=
 R3 p0 (AX (17817+(p0.length:Int))) 0
def Rf(p0:AAD):Option Qg:=Th (LF Ac) p0
abbrev fG:Type:=AAl×ABd
def Ij(AH:AAD)(AL AU:Int):Option fG:=
 let x2:Int:=AX ((AX (AU*6364136223846793005))+1442695040888963407)
 let x3:Int:=ADh .i64 (x2.fdiv (2^33)) (x2.fdiv (2^45))
 cond ((decide (AL<(AH.length:Int))))
  (if(0:Int)≤AL∧AL<(AH.length:Int)then(
  some ((Wi .i64 (AX ((Wi .i64 x3 255)+(AX ((AH.getD (AL.toNat) 0))))) 255,()),((AH,AX (AL+1),x2,()),())))else none)
 (some ((Wi .i64 x3 255,()),((AH,AL,x2,()),())))
abbrev FT:Type:=AAl×ABd
def AF(p1:Int)(AH:AAD)(AL AU:Int):Option FT:=
 cond (decide (p1≤0))
  (some ((0,()),((AH,AL,AU,()),())))
 (cond (decide (p1≤256))
  ((Ij AH AL AU).bind fun u1=>
  if p1=0 then none else(
  some ((u1.1.1.tmod p1,()),((u1.2.1.1,u1.2.1.2.1,u1.2.1.2.2.1,()),()))))
 ((Ij AH AL AU).bind fun u2=>
 (Ij u2.2.1.1 u2.2.1.2.1 u2.2.1.2.2.1).bind fun u3=>
 (Ij u3.2.1.1 u3.2.1.2.1 u3.2.1.2.2.1).bind fun u4=>
 (Ij u4.2.1.1 u4.2.1.2.1 u4.2.1.2.2.1).bind fun u5=>
 if p1=0 then none else(
 some ((((AX ((AX ((AX ((AX (u2.1.1*16777216))+(AX (u3.1.1*65536))))+(AX (u4.1.1*256))))+u5.1.1)).tmod p1),()),((u5.2.1.1,u5.2.1.2.1,u5.2.1.2.2.1,()),())))))
abbrev JQ:Type:=AAa×ABd
def Aj(p1:Int)(AH:AAD)(AL AU:Int):Option JQ:=
 (AF p1 AH AL AU).bind fun u1=>
 some ((u1.1.1==0,()),((u1.2.1.1,u1.2.1.2.1,u1.2.1.2.2.1,()),()))
abbrev Il:Type:=ACh×AER
abbrev LC:Type:=Int→Int→List Int→Int→Int→Int→List Int→Int→List Int→Option Il
def M3(R4:LC)(t4 t5:Int)(AH:AAD)(AL AU Aq:Int)(b2:AAD)(V6:Int)(b4:AAD):Option Il:=
 cond (decide (t5<t4))
  ((AF 5 AH AL AU).bind fun u3=>
  if b4.length+1≤DE then(
  R4 t4 (AX (t5+1)) u3.2.1.1 u3.2.1.2.1 u3.2.1.2.2.1 Aq b2 V6 (b4++[u3.1.1]))else none)
 ((Aj 2 AH AL AU).bind fun u5=>
 cond (u5.1.1)
  (some ((((),2,()),()),((u5.2.1.1,u5.2.1.2.1,u5.2.1.2.2.1,()),b4,())))
 (some ((((),V6,()),()),((u5.2.1.1,u5.2.1.2.1,u5.2.1.2.2.1,()),b4,()))))
def Fv:Nat→LC
 |0=>fun _ _ _ _ _ _ _ _ _=>none
 |n+1=>M3 (Fv n)
def NT(R4:LC)(AH:AAD)(AL AU:Int):Option Il:=
 (AF 3 AH AL AU).bind fun u1=>
 (AF 5 u1.2.1.1 u1.2.1.2.1 u1.2.1.2.2.1).bind fun u2=>
 R4 (AX (3+u2.1.1)) 0 u2.2.1.1 u2.2.1.2.1 u2.2.1.2.2.1 0 [] (AX (1+u1.1.1)) []
def IH(AH:AAD)(AL AU:Int):Option Il:=NT (Fv Ac) AH AL AU
abbrev Z6:Type:=AAl×ABd
def Bc(p1 AH:AAD)(AL AU:Int):Option Z6:=
 (AF (p1.length:Int) AH AL AU).bind fun u1=>
 if(0:Int)≤u1.1.1∧u1.1.1<(p1.length:Int)then(
 some (((p1.getD (u1.1.1.toNat) 0),()),((u1.2.1.1,u1.2.1.2.1,u1.2.1.2.2.1,()),())))else none
abbrev Sz:Type:=ACh×AER
def MU(AH:AAD)(AL AU:Int):Option Sz:=
 (IH AH AL AU).bind fun u1=>
 (AF 20 u1.2.1.1 u1.2.1.2.1 u1.2.1.2.2.1).bind fun u2=>
 cond (u2.1.1==0)
  ((Bc [0,4,5] u2.2.1.1 u2.2.1.2.1 u2.2.1.2.2.1).bind fun u3=>
  some ((((),u3.1.1,()),()),((u3.2.1.1,u3.2.1.2.1,u3.2.1.2.2.1,()),u1.2.2.1,())))
 (cond (u2.1.1==1)
  ((Bc [(-1),7,8] u2.2.1.1 u2.2.1.2.1 u2.2.1.2.2.1).bind fun u4=>
  if(0:Int)≤(0:Int)∧(0:Int)<(u1.2.2.1.length:Int)then(
  some ((((),u1.1.1.2.1,()),()),((u4.2.1.1,u4.2.1.2.1,u4.2.1.2.2.1,()),(u1.2.2.1.set 0 u4.1.1),())))else none)
 (cond (u2.1.1==2)
  ((Bc [0,8,9] u2.2.1.1 u2.2.1.2.1 u2.2.1.2.2.1).bind fun u6=>
  if(0:Int)≤u6.1.1∧u6.1.1≤u6.1.1∧u6.1.1≤(DE:Int)then(
  some ((((),u1.1.1.2.1,()),()),((u6.2.1.1,u6.2.1.2.1,u6.2.1.2.2.1,()),(List.replicate (u6.1.1.toNat) 0),())))else none)
 (some ((((),u1.1.1.2.1,()),()),((u2.2.1.1,u2.2.1.2.1,u2.2.1.2.2.1,()),u1.2.2.1,())))))
abbrev bD:Type:=AAu×AAv
def S8(p0:AAD):Option bD:=
 if 0+p0.length≤DE then(
 some (((),()),(p0,())))else none
abbrev fK:Type:=AAa×Unit
def CT(p0 p1 p2:Int):Option fK:=
 cond (decide (p0≥p1))
  (some ((decide (p0≤p2),()),()))
 (some ((false,()),()))
abbrev Lh:Type:=AAa×Unit
abbrev N1:Type:=List Int→Int→Int→List Int→Int→Option Lh
def Pr(R2:N1)(t6:AAD)(t7 t8:Int)(AH:AAD)(AL:Int):Option Lh:=
 cond (decide (t8<t7))
  (if(0:Int)≤t8∧t8<(t6.length:Int)then(
  (CT (t6.getD (t8.toNat) 0) 0 7).bind fun u2=>
  cond (!u2.1.1)
   (some ((false,()),()))
  (R2 t6 t7 (AX (t8+1)) AH AL))else none)
 ((CT (AH.length:Int) 1 8).bind fun u3=>
 cond (u3.1.1)
  ((CT AL 1 4).bind fun u4=>
  some ((u4.1.1,()),()))
 (some ((false,()),())))
def IG:Nat→N1
 |0=>fun _ _ _ _ _=>none
 |n+1=>Pr (IG n)
def Ps(R2:N1)(p0:AAT):Option Lh:=
 R2 p0.1 (p0.1.length:Int) 0 p0.1 p0.2.1
def DD(p0:AAT):Option Lh:=Ps (IG Ac) p0
abbrev NS:Type:=AAa×Unit
abbrev Pm:Type:=List Int→Int→List Int→Int→Int→Option NS
def Lu(R2:Pm)(t0:AAD)(t1:Int)(t7:AAD)(t8 t9:Int):Option NS:=
 cond (decide (t9<t8))
  (if(0:Int)≤t9∧t9<(t7.length:Int)then(
  let x1:Int:=(t7.getD (t9.toNat) 0)
  (CT x1 0 t1).bind fun u2=>
  cond (!u2.1.1)
   (some ((false,()),()))
  (cond (decide (t9>0))
   (if(0:Int)≤AX (t9-1)∧AX (t9-1)<(t0.length:Int)then(
   cond (decide ((t0.getD ((AX (t9-1)).toNat) 0)≥x1))
    (some ((false,()),()))
   (R2 t0 t1 t7 t8 (AX (t9+1))))else none)
  (R2 t0 t1 t7 t8 (AX (t9+1)))))else none)
 (some ((true,()),()))
def HA:Nat→Pm
 |0=>fun _ _ _ _ _=>none
 |n+1=>Lu (HA n)
def RY(R2:Pm)(p0:AAD)(p1:Int):Option NS:=
 R2 p0 p1 p0 (p0.length:Int) 0
def Qe(p0:AAD)(p1:Int):Option NS:=RY (HA Ac) p0 p1
abbrev cZ:Type:=AAa×Unit
def FA(p0:AAT)(p1:AAD):Option cZ:=
 (DD (p0.1,p0.2.1,())).bind fun u1=>
 cond (u1.1.1)
  ((Qe p1 (AX ((p0.1.length:Int)-1))).bind fun u3=>
  some ((u3.1.1,()),()))
 (some ((false,()),()))
abbrev ca:Type:=AAa×Unit
def HZ(p0:Int):Option ca:=
 (CT p0 1 30).bind fun u1=>
 some ((u1.1.1,()),())
abbrev hU:Type:=AAa×Unit
def XY(p0:Int):Option hU:=
 (CT p0 1 60).bind fun u1=>
 some ((u1.1.1,()),())
abbrev dL:Type:=AAa×Unit
def Cs(p0:Int):Option dL:=
 (HZ (AX (p0.tdiv 4294967296))).bind fun u2=>
 cond (u2.1.1)
  ((XY (p0.tmod 4294967296)).bind fun u3=>
  some ((u3.1.1,()),()))
 (some ((false,()),()))
abbrev fb:Type:=AAa×Unit
def GD(p0:AAg):Option fb:=
 some (((decide ((p0.length:Int)≤40)),()),())
abbrev cW:Type:=AAl×Unit
def Ip(p0:Int):Option cW:=
 (Cs p0).bind fun u1=>
 cond (!u1.1.1)
  (some ((0,()),()))
 (some (((AX (p0.tdiv 4294967296)),()),()))
abbrev dW:Type:=AAa×Unit
def Ma(p0:ABs):Option dW:=
 (CT p0.2.1 0 30).bind fun u1=>
 cond (u1.1.1)
  (cond (p0.2.1==0)
   (cond (!p0.2.2.1)
    ((Cs p0.1).bind fun u2=>
    cond (u2.1.1)
     ((GD p0.2.2.2.1).bind fun u3=>
     some ((u3.1.1,()),()))
    (some ((false,()),())))
   (cond (decide (p0.2.1>0))
    ((Cs p0.1).bind fun u4=>
    cond (u4.1.1)
     (cond (p0.2.2.2.1==[])
      ((GD p0.2.2.2.1).bind fun u5=>
      some ((u5.1.1,()),()))
     (some ((false,()),())))
    (some ((false,()),())))
   ((Cs p0.1).bind fun u6=>
   cond (u6.1.1)
    (some ((false,()),()))
   (some ((false,()),())))))
  ((Ip p0.1).bind fun u7=>
  let x8:Bool:=decide (p0.2.1>u7.1.1)
  cond (!p0.2.2.1)
   ((Cs p0.1).bind fun u9=>
   cond (u9.1.1)
    (cond (x8)
     ((GD p0.2.2.2.1).bind fun HW=>
     some ((HW.1.1,()),()))
    (some ((false,()),())))
   (some ((false,()),())))
  (cond (decide (p0.2.1>0))
   ((Cs p0.1).bind fun Qo=>
   cond (Qo.1.1)
    (cond (x8)
     (cond (p0.2.2.2.1==[])
      ((GD p0.2.2.2.1).bind fun Ct=>
      some ((Ct.1.1,()),()))
     (some ((false,()),())))
    (some ((false,()),())))
   (some ((false,()),())))
  ((Cs p0.1).bind fun T5=>
  cond (T5.1.1)
   (cond (x8)
    (some ((false,()),()))
   (some ((false,()),())))
  (some ((false,()),()))))))
 (cond (!p0.2.2.1)
  ((Cs p0.1).bind fun Jx=>
  cond (Jx.1.1)
   (some ((false,()),()))
  (some ((false,()),())))
 (cond (decide (p0.2.1>0))
  ((Cs p0.1).bind fun kA=>
  cond (kA.1.1)
   (some ((false,()),()))
  (some ((false,()),())))
 ((Cs p0.1).bind fun u16=>
 cond (u16.1.1)
  (some ((false,()),()))
 (some ((false,()),())))))
abbrev Kb:Type:=AAa×Unit
abbrev Mn:Type:=AAF→Int→Int→Option Kb
def KL(R2:Mn)(t5:AAF)(t6 t7:Int):Option Kb:=
 cond (decide (t7<t6))
  (if(0:Int)≤t7∧t7<(t5.length:Int)then(
  (Ma ((t5.getD (t7.toNat) (0,0,false,[],())).1,(t5.getD (t7.toNat) (0,0,false,[],())).2.1,(t5.getD (t7.toNat) (0,0,false,[],())).2.2.1,(t5.getD (t7.toNat) (0,0,false,[],())).2.2.2.1,())).bind fun u1=>
  cond (!u1.1.1)
   (some ((false,()),()))
  (R2 t5 t6 (AX (t7+1))))else none)
 (some ((true,()),()))
def FX:Nat→Mn
 |0=>fun _ _ _=>none
 |n+1=>KL (FX n)
def Oy(R2:Mn)(p0:AAF):Option Kb:=
 R2 p0 (p0.length:Int) 0
def J3(p0:AAF):Option Kb:=Oy (FX Ac) p0
abbrev Hs:Type:=AAa×Unit
abbrev KS:Type:=AAF→AAF→Int→Int→Option Hs
def IE(R2:KS)(t0 t5:AAF)(t6 t7:Int):Option Hs:=
 cond (decide (t7<t6))
  (if(0:Int)≤t7∧t7<(t5.length:Int)then(
  cond (decide (t7>0))
   (if(0:Int)≤AX (t7-1)∧AX (t7-1)<(t0.length:Int)then(
   cond (decide (((t0.getD ((AX (t7-1)).toNat) (0,0,false,[],())).1)≥((t5.getD (t7.toNat) (0,0,false,[],())).1)))
    (some ((false,()),()))
   (R2 t0 t5 t6 (AX (t7+1))))else none)
  (R2 t0 t5 t6 (AX (t7+1))))else none)
 (some ((true,()),()))
def D4:Nat→KS
 |0=>fun _ _ _ _=>none
 |n+1=>IE (D4 n)
def L7(R2:KS)(p0:AAF):Option Hs:=
 R2 p0 p0 (p0.length:Int) 0
def HY(p0:AAF):Option Hs:=L7 (D4 Ac) p0
abbrev cT:Type:=AAa×Unit
def Qc(p0:AAq):Option cT:=
 cond ((decide ((p0.1.length:Int)>200)))
  (some ((false,()),()))
 (cond (decide ((p0.2.1.length:Int)>20))
  (some ((false,()),()))
 ((J3 p0.1).bind fun u3=>
 cond (u3.1.1)
  ((J3 p0.2.1).bind fun u4=>
  cond (u4.1.1)
   ((HY p0.1).bind fun u5=>
   cond (u5.1.1)
    ((CT p0.2.2.1 0 30).bind fun u6=>
    some ((u6.1.1,()),()))
   (some ((false,()),())))
  (some ((false,()),())))
 (some ((false,()),()))))
abbrev F9:Type:=AAl×Unit
abbrev ID:Type:=List Int→Int→Int→Int→Option F9
def J2(R2:ID)(t0:AAD)(t1 t7 t8:Int):Option F9:=
 cond (decide (t8<t7))
  (if(0:Int)≤t8∧t8<(t0.length:Int)then(
  cond (t1==(t0.getD (t8.toNat) 0))
   (some ((t8,()),()))
  (R2 t0 t1 t7 (AX (t8+1))))else none)
 (some (((-1),()),()))
def D1:Nat→ID
 |0=>fun _ _ _ _=>none
 |n+1=>J2 (D1 n)
def KB(R2:ID)(p0:AAD)(p1:Int):Option F9:=
 R2 p0 p1 (p0.length:Int) 0
def KT(p0:AAD)(p1:Int):Option F9:=KB (D1 Ac) p0 p1
abbrev Rp:Type:=AAa×Unit
def D2(p0:AAD)(p1:Int):Option Rp:=
 (KT p0 p1).bind fun u1=>
 some ((decide (u1.1.1≥0),()),())
abbrev fE:Type:=AAa×Unit
def SR(p0:Int)(p1:AAv):Option fE:=
 (D2 p1.1 p0).bind fun u1=>
 some ((!u1.1.1,()),())
abbrev CM:Type:=AAl×Unit
abbrev Cx:Type:=List Int→(AAv×Unit)→Int→Int→Option CM
def ET(R2:Cx)(t0:AAD)(t1:AAv×Unit)(t7 t8:Int):Option CM:=
 cond (decide (t8<t7))
  (if(0:Int)≤t8∧t8<(t0.length:Int)then(
  (SR (t0.getD (t8.toNat) 0) t1.1).bind fun u2=>
  cond (u2.1.1)
   (some ((t8,()),()))
  (R2 t0 (t1.1,()) t7 (AX (t8+1))))else none)
 (some (((-1),()),()))
def CG:Nat→Cx
 |0=>fun _ _ _ _=>none
 |n+1=>ET (CG n)
def EU(R2:Cx)(p0:AAD)(p1:AAv×Unit):Option CM:=
 R2 p0 (p1.1,()) (p0.length:Int) 0
def DP(p0:AAD)(p1:AAv×Unit):Option CM:=EU (CG Ac) p0 p1
abbrev CI:Type:=AAu×(Unit×List Int×Unit)
abbrev Co:Type:=(AAv×Unit)→Int→Int→List Int→Option CI
def EB(R5:Co)(t1:AAv×Unit)(t5 t6:Int)(b0:AAD):Option CI:=
 cond ((decide (t6<(b0.length:Int))))
  (if(0:Int)≤t6∧t6<(b0.length:Int)then(
  let x3:Int:=(b0.getD (t6.toNat) 0)
  (SR x3 t1.1).bind fun u4=>
  cond (!u4.1.1)
   (if(0:Int)≤t5∧t5<(b0.length:Int)then(
   R5 (t1.1,()) (AX (t5+1)) (AX (t6+1)) (b0.set (t5.toNat) x3))else none)
  (R5 (t1.1,()) t5 (AX (t6+1)) b0))else none)
 (if(0:Int)≤t5∧t5≤(b0.length:Int)∧(b0.length:Int)≤(b0.length:Int)then(
 let x6:AAD:=(b0.take (t5.toNat)++List.replicate (((b0.length:Int).toNat)-(t5.toNat)) 0++b0.drop ((t5.toNat)+(((b0.length:Int).toNat)-(t5.toNat))))
 if(0:Int)≤(0:Int)∧(0:Int)≤t5∧t5≤(x6.length:Int)then(
 some (((),()),((),((x6.drop 0).take ((t5.toNat)-0)),())))else none)else none)
def CB:Nat→Co
 |0=>fun _ _ _ _=>none
 |n+1=>EB (CB n)
def EC(R5:Co)(p1:AAv×Unit)(b0:AAD):Option CI:=
 (DP b0 (p1.1,())).bind fun u1=>
 cond (u1.1.1==(-1))
  (some (((),()),((),b0,())))
 (R5 (p1.1,()) u1.1.1 (AX (u1.1.1+1)) b0)
def DH(p1:AAv×Unit)(b0:AAD):Option CI:=EC (CB Ac) p1 b0
abbrev jW:Type:=AAu×AAv
def WX(p0 p1:AAD):Option jW:=
 (S8 p0).bind fun u1=>
 (DH ((p1,()),()) u1.2.1).bind fun u2=>
 some (((),()),(u2.2.2.1,()))
abbrev Wq:Type:=AAa×Unit
def Jp(p0:AAd)(p1:Int):Option Wq:=
 (WX [p1] p0.2.2.2.1).bind fun u1=>
 some ((decide ((u1.2.1.length:Int)>0),()),())
abbrev Oj:Type:=AAl×Unit
abbrev Q2:Type:=List Int→Int→Int→List Int→Int→List Int→Option Oj
def Sh(R5:Q2)(t13:AAD)(t14 t15:Int)(AH:AAD)(AL:Int)(b1:AAD):Option Oj:=
 cond (decide (t15<t14))
  (if(0:Int)≤t15∧t15<(t13.length:Int)then(
  let x2:Int:=(t13.getD (t15.toNat) 0)
  if(0:Int)≤x2∧x2<(AH.length:Int)then(
  (D2 b1 (AH.getD (x2.toNat) 0)).bind fun u4=>
  cond (!u4.1.1)
   (if(0:Int)≤x2∧x2<(AH.length:Int)then(
   if b1.length+1≤DE then(
   R5 t13 t14 (AX (t15+1)) AH AL (b1++[(AH.getD (x2.toNat) 0)]))else none)else none)
  (R5 t13 t14 (AX (t15+1)) AH AL b1))else none)else none)
 (some (((b1.length:Int),()),()))
def KW:Nat→Q2
 |0=>fun _ _ _ _ _ _=>none
 |n+1=>Sh (KW n)
def Ru(R5:Q2)(p0:AAT)(p1:AAD):Option Oj:=
 (FA (p0.1,p0.2.1,()) p1).bind fun u1=>
 cond (!u1.1.1)
  (some (((-1),()),()))
 (R5 p1 (p1.length:Int) 0 p0.1 p0.2.1 [])
def SX(p0:AAT)(p1:AAD):Option Oj:=Ru (KW Ac) p0 p1
abbrev jD:Type:=AAa×Unit
def N9(p0:AAT)(p1:AAD):Option jD:=
 (FA (p0.1,p0.2.1,()) p1).bind fun u1=>
 cond (u1.1.1)
  ((SX (p0.1,p0.2.1,()) p1).bind fun u2=>
  some (((decide (u2.1.1≥p0.2.1)),()),()))
 (some ((false,()),()))
abbrev Gz:Type:=AAa×Unit
abbrev Ik:Type:=AAd→AAH→Int→Int→Option Gz
def G7(R4:Ik)(t0:AAd)(t32:AAH)(t33 t34:Int):Option Gz:=
 cond (decide (t34<t33))
  (if(0:Int)≤t34∧t34<(t32.length:Int)then(
  (Qc ((t32.getD (t34.toNat) ([],[],0,())).1,(t32.getD (t34.toNat) ([],[],0,())).2.1,(t32.getD (t34.toNat) ([],[],0,())).2.2.1,())).bind fun u5=>
  cond (!u5.1.1)
   (some ((false,()),()))
  ((Jp t0 t34).bind fun u6=>
  cond (u6.1.1)
   (cond (decide ((AX ((AX ((((t32.getD (t34.toNat) ([],[],0,())).1).length:Int)+(((t32.getD (t34.toNat) ([],[],0,())).2.1).length:Int)))+((t32.getD (t34.toNat) ([],[],0,())).2.2.1)))>0))
    (some ((false,()),()))
   (R4 t0 t32 t33 (AX (t34+1))))
  (R4 t0 t32 t33 (AX (t34+1)))))else none)
 (cond (t0.2.2.2.2.2.2.2.2.2.2.1)
  (some ((true,()),()))
 ((N9 (t0.1,t0.2.1,()) t0.2.2.2.1).bind fun Ct=>
 some ((!Ct.1.1,()),())))
def DK:Nat→Ik
 |0=>fun _ _ _ _=>none
 |n+1=>G7 (DK n)
def K0(R4:Ik)(p0:AAd):Option Gz:=
 cond (((p0.2.2.1.length:Int) !=(p0.1.length:Int)))
  (some ((false,()),()))
 ((FA (p0.1,p0.2.1,()) p0.2.2.2.1).bind fun u3=>
 cond (!u3.1.1)
  (some ((false,()),()))
 (R4 p0 p0.2.2.1 (p0.2.2.1.length:Int) 0))
def Hr(p0:AAd):Option Gz:=K0 (DK Ac) p0
abbrev iV:Type:=AAa×Unit
def UC(p0:AAT)(p1:AEh):Option iV:=
 (N9 (p0.1,p0.2.1,()) p1.1).bind fun u1=>
 cond (u1.1.1)
  ((CT p1.2.2.1 0 60).bind fun u2=>
  cond (u2.1.1)
   (cond (p1.2.1)
    (some ((true,()),()))
   (some ((p1.2.2.1==0,()),())))
  (some ((false,()),())))
 (some ((false,()),()))
abbrev QJ:Type:=AAa×Unit
abbrev S5:Type:=AAG→Int→Int→List Int→Int→AAG→Int→Option QJ
def Nv(R2:S5)(t9:AAG)(t10 t11:Int)(AH:AAD)(AL:Int)(A6:AAG)(Aq:Int):Option QJ:=
 cond (decide (t11<t10))
  (if(0:Int)≤t11∧t11<(t9.length:Int)then(
  (UC (AH,AL,()) ((t9.getD (t11.toNat) ([],false,0,())).1,(t9.getD (t11.toNat) ([],false,0,())).2.1,(t9.getD (t11.toNat) ([],false,0,())).2.2.1,())).bind fun u1=>
  cond (!u1.1.1)
   (some ((false,()),()))
  (cond (((t9.getD (t11.toNat) ([],false,0,())).2.1))
   (cond (t11==(AX ((A6.length:Int)-1)))
    (some ((false,()),()))
   (cond (decide (t11>0))
    (if(0:Int)≤AX (t11-1)∧AX (t11-1)<(A6.length:Int)then(
    cond (!((A6.getD ((AX (t11-1)).toNat) ([],false,0,())).2.1))
     (some ((false,()),()))
    (R2 t9 t10 (AX (t11+1)) AH AL A6 Aq))else none)
   (R2 t9 t10 (AX (t11+1)) AH AL A6 Aq)))
  (R2 t9 t10 (AX (t11+1)) AH AL A6 Aq)))else none)
 (cond (Aq==0)
  ((DD (AH,AL,())).bind fun u5=>
  cond (u5.1.1)
   (cond ((decide ((A6.length:Int)≤30)))
    (some ((true,()),()))
   (some ((false,()),())))
  (some ((false,()),())))
 ((Ip Aq).bind fun u7=>
 (CT u7.1.1 1 (A6.length:Int)).bind fun u8=>
 (DD (AH,AL,())).bind fun u9=>
 cond (u9.1.1)
  (cond ((decide ((A6.length:Int)≤30)))
   (some ((u8.1.1,()),()))
  (some ((false,()),())))
 (some ((false,()),()))))
def Hl:Nat→S5
 |0=>fun _ _ _ _ _ _ _=>none
 |n+1=>Nv (Hl n)
def TY(R2:S5)(p0:AAT)(p1:AAj):Option QJ:=
 R2 p1.1 (p1.1.length:Int) 0 p0.1 p0.2.1 p1.1 p1.2.1
def Uq(p0:AAT)(p1:AAj):Option QJ:=TY (Hl Ac) p0 p1
abbrev ck:Type:=AAl×Unit
def UM(p0:Bool):Option ck:=
 cond (p0)
  (some ((1,()),()))
 (some ((0,()),()))
abbrev Li:Type:=AAa×Unit
abbrev OJ:Type:=Int→AAf→Int→Int→List Int→Int→Int→AAf→Option Li
def Pp(R3:OJ)(t5:Int)(t9:AAf)(t10 t11:Int)(AH:AAD)(AL A6:Int)(Aq:AAf):Option Li:=
 cond (decide (t11<t10))
  (if(0:Int)≤t11∧t11<(t9.length:Int)then(
  (GD ((t9.getD (t11.toNat) ([],[],false,())).1)).bind fun u3=>
  cond (!u3.1.1)
   (some ((false,()),()))
  ((FA (AH,AL,()) ((t9.getD (t11.toNat) ([],[],false,())).2.1)).bind fun u4=>
  cond (!u4.1.1)
   (some ((false,()),()))
  ((N9 (AH,AL,()) ((t9.getD (t11.toNat) ([],[],false,())).2.1)).bind fun u6=>
  cond (((t9.getD (t11.toNat) ([],[],false,())).2.2.1) !=u6.1.1)
   (some ((false,()),()))
  ((UM (!((t9.getD (t11.toNat) ([],[],false,())).2.2.1))).bind fun u8=>
  R3 (AX (t5+u8.1.1)) t9 t10 (AX (t11+1)) AH AL A6 Aq))))else none)
 ((DD (AH,AL,())).bind fun u9=>
 cond (u9.1.1)
  ((HZ A6).bind fun HW=>
  cond (HW.1.1)
   (cond ((decide ((Aq.length:Int)≤60)))
    (some ((decide (t5≤6),()),()))
   (some ((false,()),())))
  (some ((false,()),())))
 (some ((false,()),())))
def IU:Nat→OJ
 |0=>fun _ _ _ _ _ _ _ _=>none
 |n+1=>Pp (IU n)
def P0(R3:OJ)(p0:AAT)(p1:AAn):Option Li:=
 R3 0 p1.2.1 (p1.2.1.length:Int) 0 p0.1 p0.2.1 p1.1 p1.2.1
def OU(p0:AAT)(p1:AAn):Option Li:=P0 (IU Ac) p0 p1
abbrev Vg:Type:=AAa×Unit
def Gv(p0:AAd)(p1:Int):Option Vg:=
 (CT p1 1 (p0.2.2.2.2.1.length:Int)).bind fun u2=>
 some ((u2.1.1,()),())
abbrev F8:Type:=AAa×Unit
abbrev II:Type:=AAd→AAP→Int→Int→Option F8
def Gx(R2:II)(t0:AAd)(t8:AAP)(t9 t10:Int):Option F8:=
 cond (decide (t10<t9))
  (if(0:Int)≤t10∧t10<(t8.length:Int)then(
  (OU (t0.1,t0.2.1,()) ((t8.getD (t10.toNat) (0,[],())).1,(t8.getD (t10.toNat) (0,[],())).2.1,())).bind fun u2=>
  cond (!u2.1.1)
   (some ((false,()),()))
  ((Gv t0 ((t8.getD (t10.toNat) (0,[],())).1)).bind fun u4=>
  cond (!u4.1.1)
   (some ((false,()),()))
  (cond (decide (t10>0))
   (if(0:Int)≤AX (t10-1)∧AX (t10-1)<(t0.2.2.2.2.2.2.1.length:Int)then(
   cond (decide (((t0.2.2.2.2.2.2.1.getD ((AX (t10-1)).toNat) (0,[],())).1)≥((t8.getD (t10.toNat) (0,[],())).1)))
    (some ((false,()),()))
   (R2 t0 t8 t9 (AX (t10+1))))else none)
  (R2 t0 t8 t9 (AX (t10+1))))))else none)
 (some ((decide ((t0.2.2.2.2.2.2.1.length:Int)≤4),()),()))
def C0:Nat→II
 |0=>fun _ _ _ _=>none
 |n+1=>Gx (C0 n)
def J6(R2:II)(p0:AAd):Option F8:=
 R2 p0 p0.2.2.2.2.2.2.1 (p0.2.2.2.2.2.2.1.length:Int) 0
def Ha(p0:AAd):Option F8:=J6 (C0 Ac) p0
abbrev gz:Type:=AAl×Unit
def UI(p0:Int):Option gz:=
 (Cs p0).bind fun u1=>
 cond (!u1.1.1)
  (some ((0,()),()))
 (some ((p0.tmod 4294967296,()),()))
abbrev cP:Type:=AAl×Unit
def Qh(p0:AAY):Option cP:=
 cond ((p0.2.2.2.1.length:Int)==0)
  (some ((0,()),()))
 (let x2:Int:=(p0.2.2.2.1.length:Int)
 if(0:Int)≤AX (x2-1)∧AX (x2-1)<(p0.2.2.2.1.length:Int)then(
 (UI ((p0.2.2.2.1.getD ((AX (x2-1)).toNat) (0,0,false,[],())).1)).bind fun u4=>
 some ((u4.1.1,()),()))else none)
abbrev Oc:Type:=AAa×Unit
abbrev Qr:Type:=AAF→Int→Int→Int→Int→List Int→AAF→Bool→List AAD→Option Oc
def Me(R2:Qr)(t6:AAF)(t7 t8 AH AL:Int)(AU:AAD)(Df:AAF)(FK:Bool)(Eh:List AAD):Option Oc:=
 cond (decide (t8<t7))
  (if(0:Int)≤t8∧t8<(t6.length:Int)then(
  (Ma ((t6.getD (t8.toNat) (0,0,false,[],())).1,(t6.getD (t8.toNat) (0,0,false,[],())).2.1,(t6.getD (t8.toNat) (0,0,false,[],())).2.2.1,(t6.getD (t8.toNat) (0,0,false,[],())).2.2.2.1,())).bind fun u2=>
  cond (!u2.1.1)
   (some ((false,()),()))
  ((Ip ((t6.getD (t8.toNat) (0,0,false,[],())).1)).bind fun u4=>
  cond (u4.1.1 !=AL)
   (some ((false,()),()))
  (cond (decide (((t6.getD (t8.toNat) (0,0,false,[],())).2.1)≥AH))
   (some ((false,()),()))
  (R2 t6 t7 (AX (t8+1)) AH AL AU Df FK Eh))))else none)
 ((HY Df).bind fun u6=>
 some ((u6.1.1,()),()))
def H5:Nat→Qr
 |0=>fun _ _ _ _ _ _ _ _ _=>none
 |n+1=>Me (H5 n)
def Sg(R2:Qr)(p0:AAY):Option Oc:=
 R2 p0.2.2.2.1 (p0.2.2.2.1.length:Int) 0 p0.1 p0.2.1 p0.2.2.1 p0.2.2.2.1 p0.2.2.2.2.1 p0.2.2.2.2.2.1
def Ox(p0:AAY):Option Oc:=Sg (H5 Ac) p0
abbrev OT:Type:=AAa×Unit
abbrev RK:Type:=List AAD→Int→Int→List Int→Int→Int→Int→List Int→AAF→Bool→List AAD→Option OT
def NA(R2:RK)(t10:List AAD)(t11 t12:Int)(AH:AAD)(AL A6 Aq:Int)(Dk:AAD)(JI:AAF)(Nj:Bool)(Ds:List AAD):Option OT:=
 cond (decide (t12<t11))
  (if(0:Int)≤t12∧t12<(t10.length:Int)then(
  (FA (AH,AL,()) (t10.getD (t12.toNat) [])).bind fun u2=>
  cond (!u2.1.1)
   (some ((false,()),()))
  (R2 t10 t11 (AX (t12+1)) AH AL A6 Aq Dk JI Nj Ds))else none)
 (cond (Nj)
  ((Qh (A6,Aq,Dk,JI,Nj,Ds,())).bind fun u3=>
  (HZ Aq).bind fun u4=>
  cond (u4.1.1)
   ((CT A6 (AX (Aq+1)) 30).bind fun u5=>
   (DD (AH,AL,())).bind fun u6=>
   cond (u6.1.1)
    (cond (u5.1.1)
     ((FA (AH,AL,()) Dk).bind fun u7=>
     cond (u7.1.1)
      ((Ox (A6,Aq,Dk,JI,Nj,Ds,())).bind fun u8=>
      cond (u8.1.1)
       (some ((((Ds.length:Int)==u3.1.1),()),()))
      (some ((false,()),())))
     (some ((false,()),())))
    (some ((false,()),())))
   (some ((false,()),())))
  ((DD (AH,AL,())).bind fun HW=>
  cond (HW.1.1)
   (some ((false,()),()))
  (some ((false,()),()))))
 ((HZ Aq).bind fun Qo=>
 cond (Qo.1.1)
  ((CT A6 (AX (Aq+1)) 30).bind fun Ct=>
  (DD (AH,AL,())).bind fun T5=>
  cond (T5.1.1)
   (cond (Ct.1.1)
    ((FA (AH,AL,()) Dk).bind fun Jx=>
    cond (Jx.1.1)
     ((Ox (A6,Aq,Dk,JI,Nj,Ds,())).bind fun kA=>
     cond (kA.1.1)
      (some ((((Ds.length:Int)==0),()),()))
     (some ((false,()),())))
    (some ((false,()),())))
   (some ((false,()),())))
  (some ((false,()),())))
 ((DD (AH,AL,())).bind fun T_=>
 cond (T_.1.1)
  (some ((false,()),()))
 (some ((false,()),())))))
def H0:Nat→RK
 |0=>fun _ _ _ _ _ _ _ _ _ _ _=>none
 |n+1=>NA (H0 n)
def Sv(R2:RK)(p0:AAT)(p1:AAY):Option OT:=
 R2 p1.2.2.2.2.2.1 (p1.2.2.2.2.2.1.length:Int) 0 p0.1 p0.2.1 p1.1 p1.2.1 p1.2.2.1 p1.2.2.2.1 p1.2.2.2.2.1 p1.2.2.2.2.2.1
def SK(p0:AAT)(p1:AAY):Option OT:=Sv (H0 Ac) p0 p1
abbrev Kt:Type:=AAl×Unit
abbrev Mv:Type:=AAG→Int→Int→Option Kt
def KR(R2:Mv)(t6:AAG)(t7 t8:Int):Option Kt:=
 cond (decide (t8<t7))
  (if(0:Int)≤t8∧t8<(t6.length:Int)then(
  cond (!((t6.getD (t8.toNat) ([],false,0,())).2.1))
   (some ((AX (t8+1),()),()))
  (R2 t6 t7 (AX (t8+1))))else none)
 (some ((0,()),()))
def Fe:Nat→Mv
 |0=>fun _ _ _=>none
 |n+1=>KR (Fe n)
def O1(R2:Mv)(p0:AAj):Option Kt:=
 R2 p0.1 (p0.1.length:Int) 0
def M7(p0:AAj):Option Kt:=O1 (Fe Ac) p0
abbrev HV:Type:=AAa×Unit
abbrev Jb:Type:=AAd→AAQ→Int→Int→Option HV
def Ho(R2:Jb)(t0:AAd)(t8:AAQ)(t9 t10:Int):Option HV:=
 cond (decide (t10<t9))
  (if(0:Int)≤t10∧t10<(t8.length:Int)then(
  (SK (t0.1,t0.2.1,()) ((t8.getD (t10.toNat) (0,0,[],[],false,[],())).1,(t8.getD (t10.toNat) (0,0,[],[],false,[],())).2.1,(t8.getD (t10.toNat) (0,0,[],[],false,[],())).2.2.1,(t8.getD (t10.toNat) (0,0,[],[],false,[],())).2.2.2.1,(t8.getD (t10.toNat) (0,0,[],[],false,[],())).2.2.2.2.1,(t8.getD (t10.toNat) (0,0,[],[],false,[],())).2.2.2.2.2.1,())).bind fun u2=>
  cond (!u2.1.1)
   (some ((false,()),()))
  (cond (((t8.getD (t10.toNat) (0,0,[],[],false,[],())).1) !=(t0.2.2.2.2.1.length:Int))
   (some ((false,()),()))
  ((M7 (t0.2.2.2.2.1,t0.2.2.2.2.2.1,())).bind fun u6=>
  cond (((t8.getD (t10.toNat) (0,0,[],[],false,[],())).2.1) !=u6.1.1)
   (some ((false,()),()))
  (R2 t0 t8 t9 (AX (t10+1))))))else none)
 (some ((decide ((t0.2.2.2.2.2.2.2.1.length:Int)≤1),()),()))
def DX:Nat→Jb
 |0=>fun _ _ _ _=>none
 |n+1=>Ho (DX n)
def LO(R2:Jb)(p0:AAd):Option HV:=
 R2 p0 p0.2.2.2.2.2.2.2.1 (p0.2.2.2.2.2.2.2.1.length:Int) 0
def Is(p0:AAd):Option HV:=LO (DX Ac) p0
abbrev ak:Type:=AAa×Unit
def TS(p0:ABc):Option ak:=
 (CT p0.1 1 31).bind fun u1=>
 cond (u1.1.1)
  ((CT p0.2.1 1 61).bind fun u2=>
  cond (u2.1.1)
   (some ((decide ((p0.2.2.1.length:Int)≤120),()),()))
  (some ((false,()),())))
 (some ((false,()),()))
abbrev F7:Type:=AAa×Unit
abbrev IQ:Type:=AAd→AAS→Int→Int→Option F7
def GZ(R2:IQ)(t0:AAd)(t8:AAS)(t9 t10:Int):Option F7:=
 cond (decide (t10<t9))
  (if(0:Int)≤t10∧t10<(t8.length:Int)then(
  (TS ((t8.getD (t10.toNat) (0,0,[],())).1,(t8.getD (t10.toNat) (0,0,[],())).2.1,(t8.getD (t10.toNat) (0,0,[],())).2.2.1,())).bind fun u2=>
  cond (!u2.1.1)
   (some ((false,()),()))
  (R2 t0 t8 t9 (AX (t10+1))))else none)
 (some (((t0.2.2.2.2.2.2.2.2.1.length:Int)==2,()),()))
def Cz:Nat→IQ
 |0=>fun _ _ _ _=>none
 |n+1=>GZ (Cz n)
def KD(R2:IQ)(p0:AAd):Option F7:=
 R2 p0 p0.2.2.2.2.2.2.2.2.1 (p0.2.2.2.2.2.2.2.2.1.length:Int) 0
def HX(p0:AAd):Option F7:=KD (Cz Ac) p0
abbrev Hv:Type:=AAa×Unit
abbrev J5:Type:=AAd→AAL→Int→Int→Option Hv
def IY(R2:J5)(t0:AAd)(t8:AAL)(t9 t10:Int):Option Hv:=
 cond (decide (t10<t9))
  (if(0:Int)≤t10∧t10<(t8.length:Int)then(
  (Ip ((t8.getD (t10.toNat) (0,[],false,())).1)).bind fun u3=>
  (Gv t0 u3.1.1).bind fun u4=>
  cond (!u4.1.1)
   (some ((false,()),()))
  ((GD ((t8.getD (t10.toNat) (0,[],false,())).2.1)).bind fun u6=>
  cond (!u6.1.1)
   (some ((false,()),()))
  (cond (decide (t10>0))
   (if(0:Int)≤AX (t10-1)∧AX (t10-1)<(t0.2.2.2.2.2.2.2.2.2.1.length:Int)then(
   cond (decide (((t0.2.2.2.2.2.2.2.2.2.1.getD ((AX (t10-1)).toNat) (0,[],false,())).1)≥((t8.getD (t10.toNat) (0,[],false,())).1)))
    (some ((false,()),()))
   (R2 t0 t8 t9 (AX (t10+1))))else none)
  (R2 t0 t8 t9 (AX (t10+1))))))else none)
 (some ((decide ((t0.2.2.2.2.2.2.2.2.2.1.length:Int)≤120),()),()))
def D6:Nat→J5
 |0=>fun _ _ _ _=>none
 |n+1=>IY (D6 n)
def MC(R2:J5)(p0:AAd):Option Hv:=
 R2 p0 p0.2.2.2.2.2.2.2.2.2.1 (p0.2.2.2.2.2.2.2.2.2.1.length:Int) 0
def Jt(p0:AAd):Option Hv:=MC (D6 Ac) p0
abbrev eE:Type:=AAa×Unit
def NK(p0:AAd):Option eE:=
 (DD (p0.1,p0.2.1,())).bind fun u1=>
 cond (u1.1.1)
  ((Hr (p0.1,p0.2.1,p0.2.2.1,p0.2.2.2.1,p0.2.2.2.2.1,p0.2.2.2.2.2.1,p0.2.2.2.2.2.2.1,p0.2.2.2.2.2.2.2.1,p0.2.2.2.2.2.2.2.2.1,p0.2.2.2.2.2.2.2.2.2.1,p0.2.2.2.2.2.2.2.2.2.2.1,())).bind fun u2=>
  cond (u2.1.1)
   ((Uq (p0.1,p0.2.1,()) (p0.2.2.2.2.1,p0.2.2.2.2.2.1,())).bind fun u3=>
   cond (u3.1.1)
    ((Ha (p0.1,p0.2.1,p0.2.2.1,p0.2.2.2.1,p0.2.2.2.2.1,p0.2.2.2.2.2.1,p0.2.2.2.2.2.2.1,p0.2.2.2.2.2.2.2.1,p0.2.2.2.2.2.2.2.2.1,p0.2.2.2.2.2.2.2.2.2.1,p0.2.2.2.2.2.2.2.2.2.2.1,())).bind fun u4=>
    cond (u4.1.1)
     ((Is (p0.1,p0.2.1,p0.2.2.1,p0.2.2.2.1,p0.2.2.2.2.1,p0.2.2.2.2.2.1,p0.2.2.2.2.2.2.1,p0.2.2.2.2.2.2.2.1,p0.2.2.2.2.2.2.2.2.1,p0.2.2.2.2.2.2.2.2.2.1,p0.2.2.2.2.2.2.2.2.2.2.1,())).bind fun u5=>
     cond (u5.1.1)
      ((HX (p0.1,p0.2.1,p0.2.2.1,p0.2.2.2.1,p0.2.2.2.2.1,p0.2.2.2.2.2.1,p0.2.2.2.2.2.2.1,p0.2.2.2.2.2.2.2.1,p0.2.2.2.2.2.2.2.2.1,p0.2.2.2.2.2.2.2.2.2.1,p0.2.2.2.2.2.2.2.2.2.2.1,())).bind fun u6=>
      cond (u6.1.1)
       ((Jt (p0.1,p0.2.1,p0.2.2.1,p0.2.2.2.1,p0.2.2.2.2.1,p0.2.2.2.2.2.1,p0.2.2.2.2.2.2.1,p0.2.2.2.2.2.2.2.1,p0.2.2.2.2.2.2.2.2.1,p0.2.2.2.2.2.2.2.2.2.1,p0.2.2.2.2.2.2.2.2.2.2.1,())).bind fun u7=>
       some ((u7.1.1,()),()))
      (some ((false,()),())))
     (some ((false,()),())))
    (some ((false,()),())))
   (some ((false,()),())))
  (some ((false,()),())))
 (some ((false,()),()))
abbrev jN:Type:=AAa×Unit
def BR(p0 p1 p2:Int):Option jN:=
 cond (decide (p0≥p1))
  (some ((decide (p0≤p2),()),()))
 (some ((false,()),()))
abbrev Lm:Type:=AAa×Unit
abbrev N5:Type:=Int→List Int→Int→Option Lm
def Py(R4:N5)(t3:Int)(AH:AAD)(AL:Int):Option Lm:=
 cond ((decide (t3<(AH.length:Int))))
  (if(0:Int)≤t3∧t3<(AH.length:Int)then(
  (BR (AH.getD (t3.toNat) 0) 0 7).bind fun u5=>
  cond (!u5.1.1)
   (some ((false,()),()))
  (R4 (AX (t3+1)) AH AL))else none)
 (some ((true,()),()))
def IV:Nat→N5
 |0=>fun _ _ _=>none
 |n+1=>Py (IV n)
def P6(R4:N5)(p0:AAT):Option Lm:=
 (BR (p0.1.length:Int) 1 8).bind fun u1=>
 cond (!u1.1.1)
  (some ((false,()),()))
 ((BR p0.2.1 1 4).bind fun u2=>
 cond (!u2.1.1)
  (some ((false,()),()))
 (R4 0 p0.1 p0.2.1))
def EH(p0:AAT):Option Lm:=P6 (IV Ac) p0
abbrev TK:Type:=AAl×Unit
def Ov(p0:AAD)(p1 p2:Int):Option TK:=
 let x1:Int:=AX ((p0.length:Int).tdiv 4)
 cond ((decide ((AX (p1+x1))>p2)))
  (some ((p2,()),()))
 (some ((AX (p1+x1),()),()))
abbrev QE:Type:=AAa×Unit
abbrev S1:Type:=List Int→Int→Int→Int→Option QE
def Nz(R2:S1)(t0:AAD)(t1 t2 t7:Int):Option QE:=
 cond ((decide (t7<(t0.length:Int))))
  (if(0:Int)≤t7∧t7<(t0.length:Int)then(
  (BR (t0.getD (t7.toNat) 0) t1 t2).bind fun u3=>
  cond (!u3.1.1)
   (some ((false,()),()))
  (cond (decide (t7>0))
   (if(0:Int)≤AX (t7-1)∧AX (t7-1)<(t0.length:Int)then(
   if(0:Int)≤t7∧t7<(t0.length:Int)then(
   cond (decide ((t0.getD ((AX (t7-1)).toNat) 0)≥(t0.getD (t7.toNat) 0)))
    (some ((false,()),()))
   (R2 t0 t1 t2 (AX (t7+1))))else none)else none)
  (R2 t0 t1 t2 (AX (t7+1)))))else none)
 (some ((true,()),()))
def JR:Nat→S1
 |0=>fun _ _ _ _=>none
 |n+1=>Nz (JR n)
def T6(R2:S1)(p0:AAD)(p1 p2:Int):Option QE:=
 R2 p0 p1 p2 0
def Qw(p0:AAD)(p1 p2:Int):Option QE:=T6 (JR Ac) p0 p1 p2
abbrev cU:Type:=AAa×Unit
def EM(p0:AAT)(p1:AAD):Option cU:=
 (EH (p0.1,p0.2.1,())).bind fun u1=>
 cond (u1.1.1)
  ((Qw p1 0 (AX ((p0.1.length:Int)-1))).bind fun u3=>
  some ((u3.1.1,()),()))
 (some ((false,()),()))
abbrev Of:Type:=AAl×Unit
abbrev Rm:Type:=List Int→Int→Int→List Int→Int→List Bool→Option Of
def Sf(R4:Rm)(t1:AAD)(t6 t7:Int)(AH:AAD)(AL:Int)(b1:List Bool):Option Of:=
 cond ((decide (t7<(t1.length:Int))))
  (if(0:Int)≤t7∧t7<(t1.length:Int)then(
  let x3:Int:=(t1.getD (t7.toNat) 0)
  if(0:Int)≤x3∧x3<(AH.length:Int)then(
  let x4:Int:=(AH.getD (x3.toNat) 0)
  if(0:Int)≤x4∧x4<(b1.length:Int)then(
  cond (!(b1.getD (x4.toNat) false))
   (if(0:Int)≤x4∧x4<(b1.length:Int)then(
   R4 t1 (AX (t6+1)) (AX (t7+1)) AH AL (b1.set (x4.toNat) true))else none)
  (R4 t1 t6 (AX (t7+1)) AH AL b1))else none)else none)else none)
 (some ((t6,()),()))
def KP:Nat→Rm
 |0=>fun _ _ _ _ _ _=>none
 |n+1=>Sf (KP n)
def SV(R4:Rm)(p0:AAT)(p1:AAD):Option Of:=
 R4 p1 0 0 p0.1 p0.2.1 (List.replicate 8 false)
def O8(p0:AAT)(p1:AAD):Option Of:=SV (KP Ac) p0 p1
abbrev YF:Type:=AAa×Unit
def C_(p0:AAT)(p1:AAD):Option YF:=
 (EM (p0.1,p0.2.1,()) p1).bind fun u1=>
 cond (u1.1.1)
  ((O8 (p0.1,p0.2.1,()) p1).bind fun u2=>
  some (((decide (u2.1.1≥p0.2.1)),()),()))
 (some ((false,()),()))
abbrev Z1:Type:=ADs×AEi
def Q7:Option Z1:=
 some (((1,1,(),()),()),([],()))
abbrev bY:Type:=((ADx×Bool×Unit)×Unit)×ACH
def E8(p0:AAT):Option bY:=
 (EH (p0.1,p0.2.1,())).bind fun u1=>
 cond (!u1.1.1)
  (some (((((),0,(),(),(),0,(),(),(),(),false,()),false,()),()),([],[],[],[],[],[],[],[],())))
 (if 0+p0.1.length≤DE then(
 if(0:Int)≤(p0.1.length:Int)∧(p0.1.length:Int)≤(p0.1.length:Int)∧(p0.1.length:Int)≤(DE:Int)then(
 (Q7).bind fun u3=>
 (Q7).bind fun u4=>
 some (((((),p0.2.1,(),(),(),0,(),(),(),(),false,()),true,()),()),(p0.1,(List.replicate ((p0.1.length:Int).toNat) ([],[],0,())),[],[],[],[],[(u3.1.1.1,u3.1.1.2.1,u3.2.1,()),(u4.1.1.1,u4.1.1.2.1,u4.2.1,())],[],())))else none)else none)
abbrev Kk:Type:=AAl×Unit
def DR(p0 p1:Int):Option Kk:=
 cond (decide (p0>p1))
  (some ((p0,()),()))
 (some ((p1,()),()))
abbrev EV:Type:=AAa×Unit
abbrev TQ:Type:=List Int→Int→Int→Option EV
def N4(R2:TQ)(t0:AAD)(t1 t5:Int):Option EV:=
 cond ((decide (t5<(t0.length:Int))))
  (if(0:Int)≤t5∧t5<(t0.length:Int)then(
  cond ((t0.getD (t5.toNat) 0)==t1)
   (some ((true,()),()))
  (R2 t0 t1 (AX (t5+1))))else none)
 (some ((false,()),()))
def Hh:Nat→TQ
 |0=>fun _ _ _=>none
 |n+1=>N4 (Hh n)
def OB(R2:TQ)(p0:AAD)(p1:Int):Option EV:=
 R2 p0 p1 0
def B6(p0:AAD)(p1:Int):Option EV:=OB (Hh Ac) p0 p1
abbrev QP:Type:=AAu×AAv
abbrev TL:Type:=List Int→Int→Bool→Int→List Int→Option QP
def Kc(R4:TL)(t0:AAD)(t1:Int)(t6:Bool)(t7:Int)(b0:AAD):Option QP:=
 cond ((decide (t7<(t0.length:Int))))
  (cond (!t6)
   (if(0:Int)≤t7∧t7<(t0.length:Int)then(
   cond (decide ((t0.getD (t7.toNat) 0)>t1))
    (if b0.length+1≤DE then(
    if(0:Int)≤t7∧t7<(t0.length:Int)then(
    if(b0++[t1]).length+1≤DE then(
    R4 t0 t1 true (AX (t7+1)) ((b0++[t1])++[(t0.getD (t7.toNat) 0)]))else none)else none)else none)
   (if(0:Int)≤t7∧t7<(t0.length:Int)then(
   if b0.length+1≤DE then(
   R4 t0 t1 t6 (AX (t7+1)) (b0++[(t0.getD (t7.toNat) 0)]))else none)else none))else none)
  (if(0:Int)≤t7∧t7<(t0.length:Int)then(
  if b0.length+1≤DE then(
  R4 t0 t1 t6 (AX (t7+1)) (b0++[(t0.getD (t7.toNat) 0)]))else none)else none))
 (cond (!t6)
  (if b0.length+1≤DE then(
  some (((),()),(b0++[t1],())))else none)
 (some (((),()),(b0,()))))
def E_:Nat→TL
 |0=>fun _ _ _ _ _=>none
 |n+1=>Kc (E_ n)
def OH(R4:TL)(p0:AAD)(p1:Int):Option QP:=
 (B6 p0 p1).bind fun u1=>
 R4 p0 p1 u1.1.1 0 []
def Fp(p0:AAD)(p1:Int):Option QP:=OH (E_ Ac) p0 p1
abbrev Eu:Type:=AAu×AER
abbrev K4:Type:=Int→Int→List Int→Int→Int→List Int→Int→List Int→Option Eu
def My(R4:K4)(t6 t7:Int)(AH:AAD)(AL AU:Int)(A6:AAD)(Aq:Int)(b2:AAD):Option Eu:=
 cond (decide (t7<t6))
  ((DR (A6.length:Int) 1).bind fun u3=>
  (AF u3.1.1 AH AL AU).bind fun u4=>
  (Fp b2 u4.1.1).bind fun u5=>
  R4 t6 (AX (t7+1)) u4.2.1.1 u4.2.1.2.1 u4.2.1.2.2.1 A6 Aq u5.2.1)
 ((Aj 20 AH AL AU).bind fun u6=>
 cond (u6.1.1)
  ((Bc [(-1),0,(A6.length:Int)] u6.2.1.1 u6.2.1.2.1 u6.2.1.2.2.1).bind fun u7=>
  if b2.length+1≤DE then(
  some (((),()),((u7.2.1.1,u7.2.1.2.1,u7.2.1.2.2.1,()),b2++[u7.1.1],())))else none)
 (some (((),()),((u6.2.1.1,u6.2.1.2.1,u6.2.1.2.2.1,()),b2,()))))
def Fy:Nat→K4
 |0=>fun _ _ _ _ _ _ _ _=>none
 |n+1=>My (Fy n)
def Mx(R4:K4)(p1:AAT)(AH:AAD)(AL AU:Int):Option Eu:=
 (AF (AX ((p1.1.length:Int)+2)) AH AL AU).bind fun u2=>
 R4 u2.1.1 0 u2.2.1.1 u2.2.1.2.1 u2.2.1.2.2.1 p1.1 p1.2.1 []
def DG(p1:AAT)(AH:AAD)(AL AU:Int):Option Eu:=Mx (Fy Ac) p1 AH AL AU
abbrev Kf:Type:=AAu×AER
abbrev Mg:Type:=Int→List Int→Int→Int→List Int→Int→List Int→Option Kf
def PH(R3:Mg)(t6:Int)(AH:AAD)(AL AU:Int)(A6:AAD)(Aq:Int)(b2:AAD):Option Kf:=
 cond ((decide (t6<(A6.length:Int))))
  ((C_ (A6,Aq,()) b2).bind fun u3=>
  cond (!u3.1.1)
   ((Fp b2 t6).bind fun u4=>
   R3 (AX (t6+1)) AH AL AU A6 Aq u4.2.1)
  (some (((),()),((AH,AL,AU,()),b2,()))))
 (some (((),()),((AH,AL,AU,()),b2,())))
def HL:Nat→Mg
 |0=>fun _ _ _ _ _ _ _=>none
 |n+1=>PH (HL n)
def PD(R3:Mg)(p1:AAT)(AH:AAD)(AL AU:Int):Option Kf:=
 (DG (p1.1,p1.2.1,()) AH AL AU).bind fun u1=>
 R3 0 u1.2.1.1 u1.2.1.2.1 u1.2.1.2.2.1 p1.1 p1.2.1 u1.2.2.1
def FD(p1:AAT)(AH:AAD)(AL AU:Int):Option Kf:=PD (HL Ac) p1 AH AL AU
abbrev Kp:Type:=AAl×Unit
abbrev Mp:Type:=List Int→Int→Int→Option Kp
def O4(R5:Mp)(t0:AAD)(t3 t4:Int):Option Kp:=
 cond ((decide (t4<(t0.length:Int))))
  (if(0:Int)≤t4∧t4<(t0.length:Int)then(
  let x3:Int:=(t0.getD (t4.toNat) 0)
  if x3<0 then none else(
  R5 t0 (bOr .i64 t3 (AX (1*2^(min x3.toNat 64)))) (AX (t4+1))))else none)
 (some ((t3,()),()))
def HT:Nat→Mp
 |0=>fun _ _ _=>none
 |n+1=>O4 (HT n)
def O_(R5:Mp)(p0:AAD):Option Kp:=
 (Qw p0 0 7).bind fun u1=>
 cond (!u1.1.1)
  (some (((-1),()),()))
 (R5 p0 0 0)
def H_(p0:AAD):Option Kp:=O_ (HT Ac) p0
abbrev Kd:Type:=AAl×Unit
abbrev Mf:Type:=Int→AAG→Int→Option Kd
def J7(R2:Mf)(t3:Int)(AH:AAG)(AL:Int):Option Kd:=
 cond ((decide (t3<(AH.length:Int))))
  (if(0:Int)≤t3∧t3<(AH.length:Int)then(
  cond (!((AH.getD (t3.toNat) ([],false,0,())).2.1))
   (some ((AX (t3+1),()),()))
  (R2 (AX (t3+1)) AH AL))else none)
 (some ((0,()),()))
def Fa:Nat→Mf
 |0=>fun _ _ _=>none
 |n+1=>J7 (Fa n)
def PI(R2:Mf)(p0:AAj):Option Kd:=
 R2 0 p0.1 p0.2.1
def Gi(p0:AAj):Option Kd:=PI (Fa Ac) p0
abbrev Ef:Type:=AAu×AAv
def Bm(p0:AAj)(p1:Int):Option Ef:=
 (BR p1 1 (p0.1.length:Int)).bind fun u1=>
 cond (!u1.1.1)
  (some (((),()),([],())))
 (if(0:Int)≤AX (p1-1)∧AX (p1-1)<(p0.1.length:Int)then(
 if 0+((p0.1.getD ((AX (p1-1)).toNat) ([],false,0,())).1).length≤DE then(
 some (((),()),(((p0.1.getD ((AX (p1-1)).toNat) ([],false,0,())).1),())))else none)else none)
abbrev Iq:Type:=AEl×ABd
abbrev J1:Type:=Int→Int→Int→List Int→Int→Int→List Int→Int→AAH→List Int→AAG→Int→AAP→AAQ→AAS→AAL→Bool→Int→Int→Int→Int→List UInt8→Int→Int→List Int→AAF→Bool→List AAD→Option Iq
def ML(oq:J1)(t7 t8 t9:Int)(AH:AAD)(AL AU:Int)(A6:AAD)(Aq:Int)(Dk:AAH)(JI:AAD)(Nj:AAG)(Ds:Int)(AA6:AAP)(ADn:AAQ)(ACu:AAS)(ACo:AAL)(FL:Bool)(Ix Je ACO ADY:Int)(MX:AAg)(Xt V6:Int)(AEP:AAD)(ABF:AAF)(AEN:Bool)(oC:List AAD):Option Iq:=
 cond ((decide (t9<(oC.length:Int))))
  (if(0:Int)≤t9∧t9<(oC.length:Int)then(
  (C_ (A6,Aq,()) (oC.getD (t9.toNat) [])).bind fun sV=>
  cond (!sV.1.1)
   ((Aj 3 AH AL AU).bind fun S6=>
   cond (!S6.1.1)
    (oq t7 (AX (t9+1)) (AX (t9+1)) S6.2.1.1 S6.2.1.2.1 S6.2.1.2.2.1 A6 Aq Dk JI Nj Ds AA6 ADn ACu ACo FL Ix Je ACO ADY MX Xt V6 AEP ABF AEN oC)
   (oq t7 t8 (AX (t9+1)) S6.2.1.1 S6.2.1.2.1 S6.2.1.2.2.1 A6 Aq Dk JI Nj Ds AA6 ADn ACu ACo FL Ix Je ACO ADY MX Xt V6 AEP ABF AEN oC))
  (oq t7 t8 (AX (t9+1)) AH AL AU A6 Aq Dk JI Nj Ds AA6 ADn ACu ACo FL Ix Je ACO ADY MX Xt V6 AEP ABF AEN oC))else none)
 (some (((11,0,t8,t7,[],()),()),((AH,AL,AU,()),())))
def D3:Nat→J1
 |0=>fun _ _ _ _ _ _ _ _ _ _ _ _ _ _ _ _ _ _ _ _ _ _ _ _ _ _ _ _=>none
 |n+1=>ML (D3 n)
def Mj(oq:J1)(p1:AAd)(AH:AAD)(AL AU:Int):Option Iq:=
 cond ((p1.2.2.2.2.2.2.2.1.length:Int)==0)
  (some (((8,0,0,0,[],()),()),((AH,AL,AU,()),())))
 (if(0:Int)≤(0:Int)∧(0:Int)<(p1.2.2.2.2.2.2.2.1.length:Int)then(
 (Bm (p1.2.2.2.2.1,p1.2.2.2.2.2.1,()) ((p1.2.2.2.2.2.2.2.1.getD 0 (0,0,[],[],false,[],())).2.1)).bind fun u3=>
 (AF (u3.2.1.length:Int) AH AL AU).bind fun u5=>
 if(0:Int)≤u5.1.1∧u5.1.1<(u3.2.1.length:Int)then(
 let x6:Int:=(u3.2.1.getD (u5.1.1.toNat) 0)
 cond (!((p1.2.2.2.2.2.2.2.1.getD 0 (0,0,[],[],false,[],())).2.2.2.2.1))
  ((Aj 4 u5.2.1.1 u5.2.1.2.1 u5.2.1.2.2.1).bind fun u8=>
  cond (u8.1.1)
   (some (((10,0,0,0,[],()),()),((u8.2.1.1,u8.2.1.2.1,u8.2.1.2.2.1,()),())))
  (cond (!((p1.2.2.2.2.2.2.2.1.getD 0 (0,0,[],[],false,[],())).2.2.2.2.1))
   (some (((9,x6,0,0,[],()),()),((u8.2.1.1,u8.2.1.2.1,u8.2.1.2.2.1,()),())))
  ((Aj 6 u8.2.1.1 u8.2.1.2.1 u8.2.1.2.2.1).bind fun HW=>
  cond (HW.1.1)
   (some (((12,0,0,0,[],()),()),((HW.2.1.1,HW.2.1.2.1,HW.2.1.2.2.1,()),())))
  ((Aj 3 HW.2.1.1 HW.2.1.2.1 HW.2.1.2.2.1).bind fun Qo=>
  cond (Qo.1.1)
   (some (((4,x6,0,0,[],()),()),((Qo.2.1.1,Qo.2.1.2.1,Qo.2.1.2.2.1,()),())))
  ((DR (((p1.2.2.2.2.2.2.2.1.getD 0 (0,0,[],[],false,[],())).2.2.2.2.2.1).length:Int) 1).bind fun T5=>
  (AF T5.1.1 Qo.2.1.1 Qo.2.1.2.1 Qo.2.1.2.2.1).bind fun Jx=>
  oq x6 (AX (1+Jx.1.1)) 0 Jx.2.1.1 Jx.2.1.2.1 Jx.2.1.2.2.1 p1.1 p1.2.1 p1.2.2.1 p1.2.2.2.1 p1.2.2.2.2.1 p1.2.2.2.2.2.1 p1.2.2.2.2.2.2.1 p1.2.2.2.2.2.2.2.1 p1.2.2.2.2.2.2.2.2.1 p1.2.2.2.2.2.2.2.2.2.1 p1.2.2.2.2.2.2.2.2.2.2.1 0 0 0 0 [] ((p1.2.2.2.2.2.2.2.1.getD 0 (0,0,[],[],false,[],())).1) ((p1.2.2.2.2.2.2.2.1.getD 0 (0,0,[],[],false,[],())).2.1) ((p1.2.2.2.2.2.2.2.1.getD 0 (0,0,[],[],false,[],())).2.2.1) ((p1.2.2.2.2.2.2.2.1.getD 0 (0,0,[],[],false,[],())).2.2.2.1) ((p1.2.2.2.2.2.2.2.1.getD 0 (0,0,[],[],false,[],())).2.2.2.2.1) ((p1.2.2.2.2.2.2.2.1.getD 0 (0,0,[],[],false,[],())).2.2.2.2.2.1))))))
 (cond (!((p1.2.2.2.2.2.2.2.1.getD 0 (0,0,[],[],false,[],())).2.2.2.2.1))
  (some (((9,x6,0,0,[],()),()),((u5.2.1.1,u5.2.1.2.1,u5.2.1.2.2.1,()),())))
 ((Aj 6 u5.2.1.1 u5.2.1.2.1 u5.2.1.2.2.1).bind fun u16=>
 cond (u16.1.1)
  (some (((12,0,0,0,[],()),()),((u16.2.1.1,u16.2.1.2.1,u16.2.1.2.2.1,()),())))
 ((Aj 3 u16.2.1.1 u16.2.1.2.1 u16.2.1.2.2.1).bind fun T_=>
 cond (T_.1.1)
  (some (((4,x6,0,0,[],()),()),((T_.2.1.1,T_.2.1.2.1,T_.2.1.2.2.1,()),())))
 ((DR (((p1.2.2.2.2.2.2.2.1.getD 0 (0,0,[],[],false,[],())).2.2.2.2.2.1).length:Int) 1).bind fun XO=>
 (AF XO.1.1 T_.2.1.1 T_.2.1.2.1 T_.2.1.2.2.1).bind fun PB=>
 oq x6 (AX (1+PB.1.1)) 0 PB.2.1.1 PB.2.1.2.1 PB.2.1.2.2.1 p1.1 p1.2.1 p1.2.2.1 p1.2.2.2.1 p1.2.2.2.2.1 p1.2.2.2.2.2.1 p1.2.2.2.2.2.2.1 p1.2.2.2.2.2.2.2.1 p1.2.2.2.2.2.2.2.2.1 p1.2.2.2.2.2.2.2.2.2.1 p1.2.2.2.2.2.2.2.2.2.2.1 0 0 0 0 [] ((p1.2.2.2.2.2.2.2.1.getD 0 (0,0,[],[],false,[],())).1) ((p1.2.2.2.2.2.2.2.1.getD 0 (0,0,[],[],false,[],())).2.1) ((p1.2.2.2.2.2.2.2.1.getD 0 (0,0,[],[],false,[],())).2.2.1) ((p1.2.2.2.2.2.2.2.1.getD 0 (0,0,[],[],false,[],())).2.2.2.1) ((p1.2.2.2.2.2.2.2.1.getD 0 (0,0,[],[],false,[],())).2.2.2.2.1) ((p1.2.2.2.2.2.2.2.1.getD 0 (0,0,[],[],false,[],())).2.2.2.2.2.1))))))else none)else none)
def Ib(p1:AAd)(AH:AAD)(AL AU:Int):Option Iq:=Mj (D3 Ac) p1 AH AL AU
abbrev fj:Type:=(List UInt8×Unit)×ABd
def Ee(p1:List AAg)(AH:AAD)(AL AU:Int):Option fj:=
 (AF (p1.length:Int) AH AL AU).bind fun u1=>
 if(0:Int)≤u1.1.1∧u1.1.1<(p1.length:Int)then(
 some (((p1.getD (u1.1.1.toNat) []),()),((u1.2.1.1,u1.2.1.2.1,u1.2.1.2.2.1,()),())))else none
abbrev iH:Type:=AAl×Unit
def Nu(p0 p1:Int):Option iH:=
 cond (decide (p0<p1))
  (some ((p0,()),()))
 (some ((p1,()),()))
abbrev Wb:Type:=AEl×ABd
def EJ(p1:AAd)(AH:AAD)(AL AU:Int):Option Wb:=
 (AF (p1.2.2.2.2.2.2.1.length:Int) AH AL AU).bind fun u2=>
 (Aj 3 u2.2.1.1 u2.2.1.2.1 u2.2.1.2.2.1).bind fun u3=>
 cond (!u3.1.1)
  (let x4:Int:=(p1.2.2.2.2.2.2.1.length:Int)
  if(0:Int)≤AX (x4-1)∧AX (x4-1)<(p1.2.2.2.2.2.2.1.length:Int)then(
  (Bm (p1.2.2.2.2.1,p1.2.2.2.2.2.1,()) ((p1.2.2.2.2.2.2.1.getD ((AX (x4-1)).toNat) (0,[],())).1)).bind fun u6=>
  (AF (u6.2.1.length:Int) u3.2.1.1 u3.2.1.2.1 u3.2.1.2.2.1).bind fun u8=>
  if(0:Int)≤u8.1.1∧u8.1.1<(u6.2.1.length:Int)then(
  let x9:Int:=(u6.2.1.getD (u8.1.1.toNat) 0)
  let Ub:Int:=(((p1.2.2.2.2.2.2.1.getD ((AX (x4-1)).toNat) (0,[],())).2.1).length:Int)
  cond (Ub==0)
   ((Ee [[],[97],[98,99],[100]] u8.2.1.1 u8.2.1.2.1 u8.2.1.2.2.1).bind fun Qo=>
   some (((2,AX (x4-1),0,0,Qo.1.1,()),()),((Qo.2.1.1,Qo.2.1.2.1,Qo.2.1.2.2.1,()),())))
  ((Aj 7 u8.2.1.1 u8.2.1.2.1 u8.2.1.2.2.1).bind fun Ct=>
  cond (Ct.1.1)
   ((Ee [[],[97],[98,99],[100]] Ct.2.1.1 Ct.2.1.2.1 Ct.2.1.2.2.1).bind fun T5=>
   some (((2,AX (x4-1),0,0,T5.1.1,()),()),((T5.2.1.1,T5.2.1.2.1,T5.2.1.2.2.1,()),())))
  ((Aj 3 Ct.2.1.1 Ct.2.1.2.1 Ct.2.1.2.2.1).bind fun Jx=>
  cond (Jx.1.1)
   (some (((4,x9,0,0,[],()),()),((Jx.2.1.1,Jx.2.1.2.1,Jx.2.1.2.2.1,()),())))
  ((Nu Ub 3).bind fun kA=>
  (AF kA.1.1 Jx.2.1.1 Jx.2.1.2.1 Jx.2.1.2.2.1).bind fun u16=>
  some (((3,AX (x4-1),AX (Ub-u16.1.1),x9,[],()),()),((u16.2.1.1,u16.2.1.2.1,u16.2.1.2.2.1,()),()))))))else none)else none)
 (if(0:Int)≤u2.1.1∧u2.1.1<(p1.2.2.2.2.2.2.1.length:Int)then(
 (Bm (p1.2.2.2.2.1,p1.2.2.2.2.2.1,()) ((p1.2.2.2.2.2.2.1.getD (u2.1.1.toNat) (0,[],())).1)).bind fun Rr=>
 (AF (Rr.2.1.length:Int) u3.2.1.1 u3.2.1.2.1 u3.2.1.2.2.1).bind fun PB=>
 if(0:Int)≤PB.1.1∧PB.1.1<(Rr.2.1.length:Int)then(
 let x21:Int:=(Rr.2.1.getD (PB.1.1.toNat) 0)
 let x22:Int:=(((p1.2.2.2.2.2.2.1.getD (u2.1.1.toNat) (0,[],())).2.1).length:Int)
 cond (x22==0)
  ((Ee [[],[97],[98,99],[100]] PB.2.1.1 PB.2.1.2.1 PB.2.1.2.2.1).bind fun S6=>
  some (((2,u2.1.1,0,0,S6.1.1,()),()),((S6.2.1.1,S6.2.1.2.1,S6.2.1.2.2.1,()),())))
 ((Aj 7 PB.2.1.1 PB.2.1.2.1 PB.2.1.2.2.1).bind fun JA=>
 cond (JA.1.1)
  ((Ee [[],[97],[98,99],[100]] JA.2.1.1 JA.2.1.2.1 JA.2.1.2.2.1).bind fun YH=>
  some (((2,u2.1.1,0,0,YH.1.1,()),()),((YH.2.1.1,YH.2.1.2.1,YH.2.1.2.2.1,()),())))
 ((Aj 3 JA.2.1.1 JA.2.1.2.1 JA.2.1.2.2.1).bind fun X2=>
 cond (X2.1.1)
  (some (((4,x21,0,0,[],()),()),((X2.2.1.1,X2.2.1.2.1,X2.2.1.2.2.1,()),())))
 ((Nu x22 3).bind fun Yf=>
 (AF Yf.1.1 X2.2.1.1 X2.2.1.2.1 X2.2.1.2.2.1).bind fun OL=>
 some (((3,u2.1.1,AX (x22-OL.1.1),x21,[],()),()),((OL.2.1.1,OL.2.1.2.1,OL.2.1.2.2.1,()),()))))))else none)else none)
abbrev Xs:Type:=AEl×ABd
def Kg(p1:AAd)(AH:AAD)(AL AU:Int):Option Xs:=
 cond ((p1.2.2.2.2.2.2.1.length:Int)==0)
  ((FD (p1.1,p1.2.1,()) AH AL AU).bind fun u3=>
  (H_ u3.2.2.1).bind fun u4=>
  some (((1,u4.1.1,0,0,[],()),()),((u3.2.1.1,u3.2.1.2.1,u3.2.1.2.2.1,()),())))
 ((Aj 30 AH AL AU).bind fun u5=>
 cond (u5.1.1)
  ((FD (p1.1,p1.2.1,()) u5.2.1.1 u5.2.1.2.1 u5.2.1.2.2.1).bind fun u6=>
  (H_ u6.2.2.1).bind fun u7=>
  some (((1,u7.1.1,0,0,[],()),()),((u6.2.1.1,u6.2.1.2.1,u6.2.1.2.2.1,()),())))
 ((AF (p1.2.2.1.length:Int) u5.2.1.1 u5.2.1.2.1 u5.2.1.2.2.1).bind fun u8=>
 (AF 44 u8.2.1.1 u8.2.1.2.1 u8.2.1.2.2.1).bind fun u9=>
 cond (u9.1.1==0)
  ((AF 16 u9.2.1.1 u9.2.1.2.1 u9.2.1.2.2.1).bind fun HW=>
  some (((5,u8.1.1,HW.1.1,0,[],()),()),((HW.2.1.1,HW.2.1.2.1,HW.2.1.2.2.1,()),())))
 (cond (u9.1.1==1)
  (cond ((p1.2.2.2.1.length:Int)==0)
   (some (((6,u8.1.1,0,0,[],()),()),((u9.2.1.1,u9.2.1.2.1,u9.2.1.2.2.1,()),())))
  ((Aj 12 u9.2.1.1 u9.2.1.2.1 u9.2.1.2.2.1).bind fun Ct=>
  cond (Ct.1.1)
   (some (((6,u8.1.1,0,0,[],()),()),((Ct.2.1.1,Ct.2.1.2.1,Ct.2.1.2.2.1,()),())))
  (if(0:Int)≤(0:Int)∧(0:Int)<(p1.2.2.2.1.length:Int)then(
  some (((7,(p1.2.2.2.1.getD 0 0),0,0,[],()),()),((Ct.2.1.1,Ct.2.1.2.1,Ct.2.1.2.2.1,()),())))else none)))
 (cond (u9.1.1==2)
  ((AF (p1.2.2.2.2.2.2.1.length:Int) u9.2.1.1 u9.2.1.2.1 u9.2.1.2.2.1).bind fun kA=>
  some (((15,kA.1.1,0,0,[],()),()),((kA.2.1.1,kA.2.1.2.1,kA.2.1.2.2.1,()),())))
 (cond (u9.1.1==3)
  ((Aj 3 u9.2.1.1 u9.2.1.2.1 u9.2.1.2.2.1).bind fun u16=>
  cond (u16.1.1)
   (cond (decide ((p1.2.2.2.2.2.2.2.2.2.1.length:Int)>0))
    ((AF (p1.2.2.2.2.2.2.2.2.2.1.length:Int) u16.2.1.1 u16.2.1.2.1 u16.2.1.2.2.1).bind fun XO=>
    if(0:Int)≤XO.1.1∧XO.1.1<(p1.2.2.2.2.2.2.2.2.2.1.length:Int)then(
    some (((13,((p1.2.2.2.2.2.2.2.2.2.1.getD (XO.1.1.toNat) (0,[],false,())).1),0,0,[],()),()),((XO.2.1.1,XO.2.1.2.1,XO.2.1.2.2.1,()),())))else none)
   (some (((16,u8.1.1,0,0,[],()),()),((u16.2.1.1,u16.2.1.2.1,u16.2.1.2.2.1,()),()))))
  (some (((16,u8.1.1,0,0,[],()),()),((u16.2.1.1,u16.2.1.2.1,u16.2.1.2.2.1,()),()))))
 (cond (u9.1.1==4)
  ((Aj 2 u9.2.1.1 u9.2.1.2.1 u9.2.1.2.2.1).bind fun bw=>
  cond (bw.1.1)
   ((AF 256 bw.2.1.1 bw.2.1.2.1 bw.2.1.2.2.1).bind fun sV=>
   (AF 2 sV.2.1.1 sV.2.1.2.1 sV.2.1.2.2.1).bind fun S6=>
   some (((14,S6.1.1,sV.1.1,0,[],()),()),((S6.2.1.1,S6.2.1.2.1,S6.2.1.2.2.1,()),())))
  ((AF 2 bw.2.1.1 bw.2.1.2.1 bw.2.1.2.2.1).bind fun JA=>
  some (((14,JA.1.1,255,0,[],()),()),((JA.2.1.1,JA.2.1.2.1,JA.2.1.2.2.1,()),()))))
 (cond (u9.1.1==5)
  ((Aj 2 u9.2.1.1 u9.2.1.2.1 u9.2.1.2.2.1).bind fun YH=>
  cond (YH.1.1)
   ((AF 256 YH.2.1.1 YH.2.1.2.1 YH.2.1.2.2.1).bind fun X2=>
   (AF 2 X2.2.1.1 X2.2.1.2.1 X2.2.1.2.2.1).bind fun Yf=>
   some (((14,Yf.1.1,X2.1.1,0,[],()),()),((Yf.2.1.1,Yf.2.1.2.1,Yf.2.1.2.2.1,()),())))
  ((AF 2 YH.2.1.1 YH.2.1.2.1 YH.2.1.2.2.1).bind fun OL=>
  some (((14,OL.1.1,255,0,[],()),()),((OL.2.1.1,OL.2.1.2.1,OL.2.1.2.2.1,()),()))))
 (cond (u9.1.1==6)
  ((Aj 2 u9.2.1.1 u9.2.1.2.1 u9.2.1.2.2.1).bind fun Vc=>
  cond (Vc.1.1)
   ((AF 256 Vc.2.1.1 Vc.2.1.2.1 Vc.2.1.2.2.1).bind fun fL=>
   (AF 2 fL.2.1.1 fL.2.1.2.1 fL.2.1.2.2.1).bind fun bZ=>
   some (((14,bZ.1.1,fL.1.1,0,[],()),()),((bZ.2.1.1,bZ.2.1.2.1,bZ.2.1.2.2.1,()),())))
  ((AF 2 Vc.2.1.1 Vc.2.1.2.1 Vc.2.1.2.2.1).bind fun u32=>
  some (((14,u32.1.1,255,0,[],()),()),((u32.2.1.1,u32.2.1.2.1,u32.2.1.2.2.1,()),()))))
 (cond (u9.1.1==7)
  ((Aj 2 u9.2.1.1 u9.2.1.2.1 u9.2.1.2.2.1).bind fun Ux=>
  cond (Ux.1.1)
   ((AF 256 Ux.2.1.1 Ux.2.1.2.1 Ux.2.1.2.2.1).bind fun u34=>
   (AF 2 u34.2.1.1 u34.2.1.2.1 u34.2.1.2.2.1).bind fun u35=>
   some (((14,u35.1.1,u34.1.1,0,[],()),()),((u35.2.1.1,u35.2.1.2.1,u35.2.1.2.2.1,()),())))
  ((AF 2 Ux.2.1.1 Ux.2.1.2.1 Ux.2.1.2.2.1).bind fun u36=>
  some (((14,u36.1.1,255,0,[],()),()),((u36.2.1.1,u36.2.1.2.1,u36.2.1.2.2.1,()),()))))
 (cond (u9.1.1==8)
  ((Aj 2 u9.2.1.1 u9.2.1.2.1 u9.2.1.2.2.1).bind fun rH=>
  cond (rH.1.1)
   ((AF 256 rH.2.1.1 rH.2.1.2.1 rH.2.1.2.2.1).bind fun u38=>
   (AF 2 u38.2.1.1 u38.2.1.2.1 u38.2.1.2.2.1).bind fun aM=>
   some (((14,aM.1.1,u38.1.1,0,[],()),()),((aM.2.1.1,aM.2.1.2.1,aM.2.1.2.2.1,()),())))
  ((AF 2 rH.2.1.1 rH.2.1.2.1 rH.2.1.2.2.1).bind fun u40=>
  some (((14,u40.1.1,255,0,[],()),()),((u40.2.1.1,u40.2.1.2.1,u40.2.1.2.2.1,()),()))))
 (cond (decide ((p1.2.2.2.2.1.length:Int)>1))
  ((Gi (p1.2.2.2.2.1,p1.2.2.2.2.2.1,())).bind fun u43=>
  cond ((decide (u43.1.1<(p1.2.2.2.2.1.length:Int))))
   ((Aj 3 u9.2.1.1 u9.2.1.2.1 u9.2.1.2.2.1).bind fun u45=>
   cond (!u45.1.1)
    ((Ib (p1.1,p1.2.1,p1.2.2.1,p1.2.2.2.1,p1.2.2.2.2.1,p1.2.2.2.2.2.1,p1.2.2.2.2.2.2.1,p1.2.2.2.2.2.2.2.1,p1.2.2.2.2.2.2.2.2.1,p1.2.2.2.2.2.2.2.2.2.1,p1.2.2.2.2.2.2.2.2.2.2.1,()) u45.2.1.1 u45.2.1.2.1 u45.2.1.2.2.1).bind fun u46=>
    some (((u46.1.1.1,u46.1.1.2.1,u46.1.1.2.2.1,u46.1.1.2.2.2.1,u46.1.1.2.2.2.2.1,()),()),((u46.2.1.1,u46.2.1.2.1,u46.2.1.2.2.1,()),())))
   ((EJ (p1.1,p1.2.1,p1.2.2.1,p1.2.2.2.1,p1.2.2.2.2.1,p1.2.2.2.2.2.1,p1.2.2.2.2.2.2.1,p1.2.2.2.2.2.2.2.1,p1.2.2.2.2.2.2.2.2.1,p1.2.2.2.2.2.2.2.2.2.1,p1.2.2.2.2.2.2.2.2.2.2.1,()) u45.2.1.1 u45.2.1.2.1 u45.2.1.2.2.1).bind fun ah=>
   some (((ah.1.1.1,ah.1.1.2.1,ah.1.1.2.2.1,ah.1.1.2.2.2.1,ah.1.1.2.2.2.2.1,()),()),((ah.2.1.1,ah.2.1.2.1,ah.2.1.2.2.1,()),()))))
  ((EJ (p1.1,p1.2.1,p1.2.2.1,p1.2.2.2.1,p1.2.2.2.2.1,p1.2.2.2.2.2.1,p1.2.2.2.2.2.2.1,p1.2.2.2.2.2.2.2.1,p1.2.2.2.2.2.2.2.2.1,p1.2.2.2.2.2.2.2.2.2.1,p1.2.2.2.2.2.2.2.2.2.2.1,()) u9.2.1.1 u9.2.1.2.1 u9.2.1.2.2.1).bind fun u48=>
  some (((u48.1.1.1,u48.1.1.2.1,u48.1.1.2.2.1,u48.1.1.2.2.2.1,u48.1.1.2.2.2.2.1,()),()),((u48.2.1.1,u48.2.1.2.1,u48.2.1.2.2.1,()),()))))
 ((EJ (p1.1,p1.2.1,p1.2.2.1,p1.2.2.2.1,p1.2.2.2.2.1,p1.2.2.2.2.2.1,p1.2.2.2.2.2.2.1,p1.2.2.2.2.2.2.2.1,p1.2.2.2.2.2.2.2.2.1,p1.2.2.2.2.2.2.2.2.2.1,p1.2.2.2.2.2.2.2.2.2.2.1,()) u9.2.1.1 u9.2.1.2.1 u9.2.1.2.2.1).bind fun u49=>
 some (((u49.1.1.1,u49.1.1.2.1,u49.1.1.2.2.1,u49.1.1.2.2.2.1,u49.1.1.2.2.2.2.1,()),()),((u49.2.1.1,u49.2.1.2.1,u49.2.1.2.2.1,()),()))))))))))))))
abbrev eT:Type:=AAa×Unit
def E6(p0:Int):Option eT:=
 cond (decide (p0>0))
  ((BR (AX (p0.tdiv 4294967296)) 1 30).bind fun u2=>
  cond (u2.1.1)
   ((BR (p0.tmod 4294967296) 1 60).bind fun u3=>
   some ((u3.1.1,()),()))
  (some ((false,()),())))
 (some ((false,()),()))
abbrev FP:Type:=AAl×Unit
def Bu(p0:Int):Option FP:=
 (E6 p0).bind fun u1=>
 cond (!u1.1.1)
  (some ((0,()),()))
 (some (((AX (p0.tdiv 4294967296)),()),()))
abbrev dm:Type:=AAa×Unit
def I_(p0:ABs):Option dm:=
 (E6 p0.1).bind fun u1=>
 cond (!u1.1.1)
  (some ((false,()),()))
 ((BR p0.2.1 0 30).bind fun u2=>
 cond (!u2.1.1)
  (some ((false,()),()))
 (cond (decide (p0.2.1>0))
  ((Bu p0.1).bind fun u3=>
  cond ((decide (p0.2.1≤u3.1.1)))
   (some ((false,()),()))
  (cond (decide ((p0.2.2.2.1.length:Int)>40))
   (some ((false,()),()))
  (cond (!p0.2.2.1)
   (some ((true,()),()))
  (cond (decide (p0.2.1>0))
   (some ((p0.2.2.2.1==[],()),()))
  (some ((false,()),()))))))
 (cond (decide ((p0.2.2.2.1.length:Int)>40))
  (some ((false,()),()))
 (cond (!p0.2.2.1)
  (some ((true,()),()))
 (cond (decide (p0.2.1>0))
  (some ((p0.2.2.2.1==[],()),()))
 (some ((false,()),())))))))
abbrev Ol:Type:=AAa×Unit
abbrev Q_:Type:=AAF→Int→Option Ol
def M4(R4:Q_)(t0:AAF)(t5:Int):Option Ol:=
 cond ((decide (t5<(t0.length:Int))))
  (if(0:Int)≤t5∧t5<(t0.length:Int)then(
  (I_ ((t0.getD (t5.toNat) (0,0,false,[],())).1,(t0.getD (t5.toNat) (0,0,false,[],())).2.1,(t0.getD (t5.toNat) (0,0,false,[],())).2.2.1,(t0.getD (t5.toNat) (0,0,false,[],())).2.2.2.1,())).bind fun u3=>
  cond (!u3.1.1)
   (some ((false,()),()))
  (R4 t0 (AX (t5+1))))else none)
 (some ((true,()),()))
def IP:Nat→Q_
 |0=>fun _ _=>none
 |n+1=>M4 (IP n)
def SA(R4:Q_)(p0:AAF)(p1:Int):Option Ol:=
 cond ((decide ((p0.length:Int)>p1)))
  (some ((false,()),()))
 (R4 p0 0)
def O5(p0:AAF)(p1:Int):Option Ol:=SA (IP Ac) p0 p1
abbrev QF:Type:=AAa×Unit
abbrev TE:Type:=AAF→Int→Option QF
def Ko(R2:TE)(t0:AAF)(t3:Int):Option QF:=
 cond ((decide (t3<(t0.length:Int))))
  (if(0:Int)≤AX (t3-1)∧AX (t3-1)<(t0.length:Int)then(
  if(0:Int)≤t3∧t3<(t0.length:Int)then(
  cond (decide (((t0.getD ((AX (t3-1)).toNat) (0,0,false,[],())).1)≥((t0.getD (t3.toNat) (0,0,false,[],())).1)))
   (some ((false,()),()))
  (R2 t0 (AX (t3+1))))else none)else none)
 (some ((true,()),()))
def EF:Nat→TE
 |0=>fun _ _=>none
 |n+1=>Ko (EF n)
def Ta(R2:TE)(p0:AAF):Option QF:=
 R2 p0 1
def Ri(p0:AAF):Option QF:=Ta (EF Ac) p0
abbrev dv:Type:=AAa×Unit
def EO(p0:AAq):Option dv:=
 (O5 p0.1 200).bind fun u1=>
 cond (u1.1.1)
  ((O5 p0.2.1 20).bind fun u2=>
  cond (u2.1.1)
   ((Ri p0.1).bind fun u3=>
   cond (u3.1.1)
    ((BR p0.2.2.1 0 30).bind fun u4=>
    some ((u4.1.1,()),()))
   (some ((false,()),())))
  (some ((false,()),())))
 (some ((false,()),()))
abbrev cc:Type:=AAa×Unit
def UR(p0:AAq):Option cc:=
 cond (((p0.1.length:Int)==0))
  (cond ((p0.2.1.length:Int)==0)
   (some ((p0.2.2.1==0,()),()))
  (some ((false,()),())))
 (some ((false,()),()))
abbrev LX:Type:=AAa×Unit
abbrev Nx:Type:=Int→List Int→Int→AAH→List Int→AAG→Int→AAP→AAQ→AAS→AAL→Bool→Option LX
def K7(R4:Nx)(t3:Int)(AH:AAD)(AL:Int)(AU:AAH)(Df:AAD)(FK:AAG)(Eh:Int)(DU:AAP)(DN:AAQ)(EK:AAS)(Ft:AAL)(DL:Bool):Option LX:=
 cond ((decide (t3<(AU.length:Int))))
  (if(0:Int)≤t3∧t3<(AU.length:Int)then(
  (EO ((AU.getD (t3.toNat) ([],[],0,())).1,(AU.getD (t3.toNat) ([],[],0,())).2.1,(AU.getD (t3.toNat) ([],[],0,())).2.2.1,())).bind fun u8=>
  cond (!u8.1.1)
   (some ((false,()),()))
  ((B6 Df t3).bind fun u9=>
  cond (u9.1.1)
   (if(0:Int)≤t3∧t3<(AU.length:Int)then(
   (UR ((AU.getD (t3.toNat) ([],[],0,())).1,(AU.getD (t3.toNat) ([],[],0,())).2.1,(AU.getD (t3.toNat) ([],[],0,())).2.2.1,())).bind fun HW=>
   cond (!HW.1.1)
    (some ((false,()),()))
   (R4 (AX (t3+1)) AH AL AU Df FK Eh DU DN EK Ft DL))else none)
  (R4 (AX (t3+1)) AH AL AU Df FK Eh DU DN EK Ft DL)))else none)
 (some ((true,()),()))
def GR:Nat→Nx
 |0=>fun _ _ _ _ _ _ _ _ _ _ _ _=>none
 |n+1=>K7 (GR n)
def Pt(R4:Nx)(p0:AAd):Option LX:=
 (EH (p0.1,p0.2.1,())).bind fun u1=>
 cond (!u1.1.1)
  (some ((false,()),()))
 (cond (((p0.2.2.1.length:Int) !=(p0.1.length:Int)))
  (some ((false,()),()))
 ((EM (p0.1,p0.2.1,()) p0.2.2.2.1).bind fun u4=>
 cond (!u4.1.1)
  (some ((false,()),()))
 ((C_ (p0.1,p0.2.1,()) p0.2.2.2.1).bind fun u5=>
 cond (u5.1.1)
  (cond (!p0.2.2.2.2.2.2.2.2.2.2.1)
   (some ((false,()),()))
  (R4 0 p0.1 p0.2.1 p0.2.2.1 p0.2.2.2.1 p0.2.2.2.2.1 p0.2.2.2.2.2.1 p0.2.2.2.2.2.2.1 p0.2.2.2.2.2.2.2.1 p0.2.2.2.2.2.2.2.2.1 p0.2.2.2.2.2.2.2.2.2.1 p0.2.2.2.2.2.2.2.2.2.2.1))
 (R4 0 p0.1 p0.2.1 p0.2.2.1 p0.2.2.2.1 p0.2.2.2.2.1 p0.2.2.2.2.2.1 p0.2.2.2.2.2.2.1 p0.2.2.2.2.2.2.2.1 p0.2.2.2.2.2.2.2.2.1 p0.2.2.2.2.2.2.2.2.2.1 p0.2.2.2.2.2.2.2.2.2.2.1))))
def OQ(p0:AAd):Option LX:=Pt (GR Ac) p0
abbrev Mt:Type:=AAa×Unit
abbrev Sy:Type:=Int→Int→List Int→Int→AAG→Int→Option Mt
def OG(R5:Sy)(t5 t6:Int)(AH:AAD)(AL:Int)(A6:AAG)(Aq:Int):Option Mt:=
 cond (decide (t6<t5))
  (if(0:Int)≤t6∧t6<(A6.length:Int)then(
  (C_ (AH,AL,()) ((A6.getD (t6.toNat) ([],false,0,())).1)).bind fun u6=>
  cond (!u6.1.1)
   (some ((false,()),()))
  ((BR ((A6.getD (t6.toNat) ([],false,0,())).2.2.1) 0 60).bind fun u8=>
  cond (!u8.1.1)
   (some ((false,()),()))
  (cond (!((A6.getD (t6.toNat) ([],false,0,())).2.1))
   (cond (((A6.getD (t6.toNat) ([],false,0,())).2.2.1) !=0)
    (some ((false,()),()))
   (cond (((A6.getD (t6.toNat) ([],false,0,())).2.1))
    (cond (t6==(AX (t5-1)))
     (some ((false,()),()))
    (cond (decide (t6>0))
     (if(0:Int)≤AX (t6-1)∧AX (t6-1)<(A6.length:Int)then(
     cond (!((A6.getD ((AX (t6-1)).toNat) ([],false,0,())).2.1))
      (some ((false,()),()))
     (R5 t5 (AX (t6+1)) AH AL A6 Aq))else none)
    (R5 t5 (AX (t6+1)) AH AL A6 Aq)))
   (R5 t5 (AX (t6+1)) AH AL A6 Aq)))
  (cond (((A6.getD (t6.toNat) ([],false,0,())).2.1))
   (cond (t6==(AX (t5-1)))
    (some ((false,()),()))
   (cond (decide (t6>0))
    (if(0:Int)≤AX (t6-1)∧AX (t6-1)<(A6.length:Int)then(
    cond (!((A6.getD ((AX (t6-1)).toNat) ([],false,0,())).2.1))
     (some ((false,()),()))
    (R5 t5 (AX (t6+1)) AH AL A6 Aq))else none)
   (R5 t5 (AX (t6+1)) AH AL A6 Aq)))
  (R5 t5 (AX (t6+1)) AH AL A6 Aq)))))else none)
 (some ((true,()),()))
def Hp:Nat→Sy
 |0=>fun _ _ _ _ _ _=>none
 |n+1=>OG (Hp n)
def T2(R5:Sy)(p0:AAT)(p1:AAj):Option Mt:=
 (EH (p0.1,p0.2.1,())).bind fun u1=>
 cond (!u1.1.1)
  (some ((false,()),()))
 (cond ((decide ((p1.1.length:Int)>30)))
  (some ((false,()),()))
 (cond (p1.2.1 !=0)
  ((E6 p1.2.1).bind fun u3=>
  cond (!u3.1.1)
   (some ((false,()),()))
  ((Bu p1.2.1).bind fun u4=>
  cond ((decide (u4.1.1>(p1.1.length:Int))))
   (some ((false,()),()))
  (R5 (p1.1.length:Int) 0 p0.1 p0.2.1 p1.1 p1.2.1)))
 (R5 (p1.1.length:Int) 0 p0.1 p0.2.1 p1.1 p1.2.1)))
def I5(p0:AAT)(p1:AAj):Option Mt:=T2 (Hp Ac) p0 p1
abbrev JD:Type:=AAa×Unit
abbrev N2:Type:=Int→Int→List Int→Int→Int→AAf→Option JD
def P3(R5:N2)(t5 t6:Int)(AH:AAD)(AL A6:Int)(Aq:AAf):Option JD:=
 cond ((decide (t6<(Aq.length:Int))))
  (if(0:Int)≤t6∧t6<(Aq.length:Int)then(
  cond ((decide ((((Aq.getD (t6.toNat) ([],[],false,())).1).length:Int)>40)))
   (some ((false,()),()))
  ((EM (AH,AL,()) ((Aq.getD (t6.toNat) ([],[],false,())).2.1)).bind fun u7=>
  cond (!u7.1.1)
   (some ((false,()),()))
  ((C_ (AH,AL,()) ((Aq.getD (t6.toNat) ([],[],false,())).2.1)).bind fun u9=>
  cond (u9.1.1 !=((Aq.getD (t6.toNat) ([],[],false,())).2.2.1))
   (some ((false,()),()))
  (cond (!((Aq.getD (t6.toNat) ([],[],false,())).2.2.1))
   (R5 (AX (t5+1)) (AX (t6+1)) AH AL A6 Aq)
  (R5 t5 (AX (t6+1)) AH AL A6 Aq)))))else none)
 (some ((decide (t5≤6),()),()))
def IB:Nat→N2
 |0=>fun _ _ _ _ _ _=>none
 |n+1=>P3 (IB n)
def P7(R5:N2)(p0:AAT)(p1:AAn):Option JD:=
 (EH (p0.1,p0.2.1,())).bind fun u1=>
 cond (!u1.1.1)
  (some ((false,()),()))
 ((BR p1.1 1 30).bind fun u2=>
 cond (!u2.1.1)
  (some ((false,()),()))
 (cond (decide ((p1.2.1.length:Int)>60))
  (some ((false,()),()))
 (R5 0 0 p0.1 p0.2.1 p1.1 p1.2.1)))
def E9(p0:AAT)(p1:AAn):Option JD:=P7 (IB Ac) p0 p1
abbrev HO:Type:=AAl×Unit
def Ep(p0:Int):Option HO:=
 (E6 p0).bind fun u1=>
 cond (!u1.1.1)
  (some ((0,()),()))
 (some ((p0.tmod 4294967296,()),()))
abbrev fo:Type:=AAl×Unit
def L6(p0:AAY):Option fo:=
 cond ((p0.2.2.2.1.length:Int)==0)
  (some ((0,()),()))
 (let x2:Int:=(p0.2.2.2.1.length:Int)
 if(0:Int)≤AX (x2-1)∧AX (x2-1)<(p0.2.2.2.1.length:Int)then(
 (Ep ((p0.2.2.2.1.getD ((AX (x2-1)).toNat) (0,0,false,[],())).1)).bind fun u4=>
 some ((u4.1.1,()),()))else none)
abbrev JN:Type:=AAa×Unit
abbrev Nd:Type:=Int→List Int→Int→Int→Int→List Int→AAF→Bool→List AAD→Option JN
abbrev NI:Type:=Int→List Int→Int→Int→Int→List Int→AAF→Bool→List AAD→Option JN
def NF(R4:Nd)(R9:NI)(t5:Int)(AH:AAD)(AL A6 Aq:Int)(Dk:AAD)(JI:AAF)(Nj:Bool)(Ds:List AAD):Option JN:=
 cond ((decide (t5<(JI.length:Int))))
  (if(0:Int)≤t5∧t5<(JI.length:Int)then(
  (I_ ((JI.getD (t5.toNat) (0,0,false,[],())).1,(JI.getD (t5.toNat) (0,0,false,[],())).2.1,(JI.getD (t5.toNat) (0,0,false,[],())).2.2.1,(JI.getD (t5.toNat) (0,0,false,[],())).2.2.2.1,())).bind fun u7=>
  cond (!u7.1.1)
   (some ((false,()),()))
  (if(0:Int)≤t5∧t5<(JI.length:Int)then(
  (Bu ((JI.getD (t5.toNat) (0,0,false,[],())).1)).bind fun u9=>
  cond (u9.1.1 !=Aq)
   (some ((false,()),()))
  (if(0:Int)≤t5∧t5<(JI.length:Int)then(
  cond (decide (((JI.getD (t5.toNat) (0,0,false,[],())).2.1)≥A6))
   (some ((false,()),()))
  (R4 (AX (t5+1)) AH AL A6 Aq Dk JI Nj Ds))else none))else none))else none)
 (R9 0 AH AL A6 Aq Dk JI Nj Ds)
def NV(R4:Nd)(R9:NI)(t6:Int)(AH:AAD)(AL A6 Aq:Int)(Dk:AAD)(JI:AAF)(Nj:Bool)(Ds:List AAD):Option JN:=
 cond ((decide (t6<(Ds.length:Int))))
  (if(0:Int)≤t6∧t6<(Ds.length:Int)then(
  (EM (AH,AL,()) (Ds.getD (t6.toNat) [])).bind fun Ct=>
  cond (!Ct.1.1)
   (some ((false,()),()))
  (R9 (AX (t6+1)) AH AL A6 Aq Dk JI Nj Ds))else none)
 (cond (!Nj)
  (some ((((Ds.length:Int)==0),()),()))
 ((L6 (A6,Aq,Dk,JI,Nj,Ds,())).bind fun Jx=>
 some ((((Ds.length:Int)==Jx.1.1),()),())))
mutual
def Gf:Nat→Nd
 |0=>fun _ _ _ _ _ _ _ _ _=>none
 |n+1=>NF (Gf n) (FM n)
def FM:Nat→NI
 |0=>fun _ _ _ _ _ _ _ _ _=>none
 |n+1=>NV (Gf n) (FM n)
end
def SI(R4:Nd)(R9:NI)(p0:AAT)(p1:AAY):Option JN:=
 (EH (p0.1,p0.2.1,())).bind fun u1=>
 cond (!u1.1.1)
  (some ((false,()),()))
 ((BR p1.2.1 1 30).bind fun u2=>
 cond (!u2.1.1)
  (some ((false,()),()))
 ((BR p1.1 (AX (p1.2.1+1)) 30).bind fun u3=>
 cond (!u3.1.1)
  (some ((false,()),()))
 ((EM (p0.1,p0.2.1,()) p1.2.2.1).bind fun u4=>
 cond (!u4.1.1)
  (some ((false,()),()))
 ((Ri p1.2.2.2.1).bind fun u5=>
 cond (!u5.1.1)
  (some ((false,()),()))
 (R4 0 p0.1 p0.2.1 p1.1 p1.2.1 p1.2.2.1 p1.2.2.2.1 p1.2.2.2.2.1 p1.2.2.2.2.2.1)))))
def GG(p0:AAT)(p1:AAY):Option JN:=SI (Gf Ac) (FM Ac) p0 p1
abbrev GP:Type:=AAa×Unit
abbrev Jh:Type:=Int→Int→List Int→Int→AAH→List Int→AAG→Int→AAP→AAQ→AAS→AAL→Bool→Option GP
abbrev I0:Type:=Int→Int→List Int→Int→AAH→List Int→AAG→Int→AAP→AAQ→AAS→AAL→Bool→Option GP
def KH(R5:Jh)(R10:I0)(t3 t4:Int)(AH:AAD)(AL:Int)(AU:AAH)(Df:AAD)(FK:AAG)(Eh:Int)(DU:AAP)(DN:AAQ)(EK:AAS)(Ft:AAL)(DL:Bool):Option GP:=
 cond ((decide (t4<(DU.length:Int))))
  (if(0:Int)≤t4∧t4<(DU.length:Int)then(
  (E9 (AH,AL,()) ((DU.getD (t4.toNat) (0,[],())).1,(DU.getD (t4.toNat) (0,[],())).2.1,())).bind fun u6=>
  cond (!u6.1.1)
   (some ((false,()),()))
  (if(0:Int)≤t4∧t4<(DU.length:Int)then(
  cond (decide (((DU.getD (t4.toNat) (0,[],())).1)>t3))
   (some ((false,()),()))
  (cond (decide (t4>0))
   (if(0:Int)≤AX (t4-1)∧AX (t4-1)<(DU.length:Int)then(
   if(0:Int)≤t4∧t4<(DU.length:Int)then(
   cond (decide (((DU.getD ((AX (t4-1)).toNat) (0,[],())).1)≥((DU.getD (t4.toNat) (0,[],())).1)))
    (some ((false,()),()))
   (R5 t3 (AX (t4+1)) AH AL AU Df FK Eh DU DN EK Ft DL))else none)else none)
  (R5 t3 (AX (t4+1)) AH AL AU Df FK Eh DU DN EK Ft DL)))else none))else none)
 (R10 t3 0 AH AL AU Df FK Eh DU DN EK Ft DL)
def JY(R5:Jh)(R10:I0)(t3 t5:Int)(AH:AAD)(AL:Int)(AU:AAH)(Df:AAD)(FK:AAG)(Eh:Int)(DU:AAP)(DN:AAQ)(EK:AAS)(Ft:AAL)(DL:Bool):Option GP:=
 cond ((decide (t5<(DN.length:Int))))
  (if(0:Int)≤t5∧t5<(DN.length:Int)then(
  (GG (AH,AL,()) ((DN.getD (t5.toNat) (0,0,[],[],false,[],())).1,(DN.getD (t5.toNat) (0,0,[],[],false,[],())).2.1,(DN.getD (t5.toNat) (0,0,[],[],false,[],())).2.2.1,(DN.getD (t5.toNat) (0,0,[],[],false,[],())).2.2.2.1,(DN.getD (t5.toNat) (0,0,[],[],false,[],())).2.2.2.2.1,(DN.getD (t5.toNat) (0,0,[],[],false,[],())).2.2.2.2.2.1,())).bind fun Qo=>
  cond (!Qo.1.1)
   (some ((false,()),()))
  (cond (((DN.getD (t5.toNat) (0,0,[],[],false,[],())).1) !=t3)
   (some ((false,()),()))
  ((Gi (FK,Eh,())).bind fun Jx=>
  cond (((DN.getD (t5.toNat) (0,0,[],[],false,[],())).2.1) !=Jx.1.1)
   (some ((false,()),()))
  (R10 t3 (AX (t5+1)) AH AL AU Df FK Eh DU DN EK Ft DL))))else none)
 (some ((true,()),()))
mutual
def EN:Nat→Jh
 |0=>fun _ _ _ _ _ _ _ _ _ _ _ _ _=>none
 |n+1=>KH (EN n) (DB n)
def DB:Nat→I0
 |0=>fun _ _ _ _ _ _ _ _ _ _ _ _ _=>none
 |n+1=>JY (EN n) (DB n)
end
def Ou(R5:Jh)(R10:I0)(p0:AAd):Option GP:=
 (I5 (p0.1,p0.2.1,()) (p0.2.2.2.2.1,p0.2.2.2.2.2.1,())).bind fun u2=>
 cond (!u2.1.1)
  (some ((false,()),()))
 (cond (decide ((p0.2.2.2.2.2.2.1.length:Int)>4))
  (some ((false,()),()))
 (cond (decide ((p0.2.2.2.2.2.2.2.1.length:Int)>1))
  (some ((false,()),()))
 (R5 (p0.2.2.2.2.1.length:Int) 0 p0.1 p0.2.1 p0.2.2.1 p0.2.2.2.1 p0.2.2.2.2.1 p0.2.2.2.2.2.1 p0.2.2.2.2.2.2.1 p0.2.2.2.2.2.2.2.1 p0.2.2.2.2.2.2.2.2.1 p0.2.2.2.2.2.2.2.2.2.1 p0.2.2.2.2.2.2.2.2.2.2.1)))
def NU(p0:AAd):Option GP:=Ou (EN Ac) (DB Ac) p0
abbrev bS:Type:=AAa×Unit
def JU(p0:ABc):Option bS:=
 (BR p0.1 1 31).bind fun u1=>
 cond (u1.1.1)
  ((BR p0.2.1 1 61).bind fun u2=>
  cond (u2.1.1)
   (some ((decide ((p0.2.2.1.length:Int)≤120),()),()))
  (some ((false,()),())))
 (some ((false,()),()))
abbrev Mh:Type:=AAa×Unit
abbrev PU:Type:=Int→List Int→Int→AAH→List Int→AAG→Int→AAP→AAQ→AAS→AAL→Bool→Option Mh
def Lo(R4:PU)(t3:Int)(AH:AAD)(AL:Int)(AU:AAH)(Df:AAD)(FK:AAG)(Eh:Int)(DU:AAP)(DN:AAQ)(EK:AAS)(Ft:AAL)(DL:Bool):Option Mh:=
 cond ((decide (t3<(Ft.length:Int))))
  (if(0:Int)≤t3∧t3<(Ft.length:Int)then(
  (E6 ((Ft.getD (t3.toNat) (0,[],false,())).1)).bind fun u4=>
  cond (!u4.1.1)
   (some ((false,()),()))
  ((Bu ((Ft.getD (t3.toNat) (0,[],false,())).1)).bind fun u6=>
  cond ((decide (u6.1.1>(FK.length:Int))))
   (some ((false,()),()))
  (cond ((decide ((((Ft.getD (t3.toNat) (0,[],false,())).2.1).length:Int)>40)))
   (some ((false,()),()))
  (cond (decide (t3>0))
   (if(0:Int)≤AX (t3-1)∧AX (t3-1)<(Ft.length:Int)then(
   cond (decide (((Ft.getD ((AX (t3-1)).toNat) (0,[],false,())).1)≥((Ft.getD (t3.toNat) (0,[],false,())).1)))
    (some ((false,()),()))
   (R4 (AX (t3+1)) AH AL AU Df FK Eh DU DN EK Ft DL))else none)
  (R4 (AX (t3+1)) AH AL AU Df FK Eh DU DN EK Ft DL)))))else none)
 (some ((true,()),()))
def G9:Nat→PU
 |0=>fun _ _ _ _ _ _ _ _ _ _ _ _=>none
 |n+1=>Lo (G9 n)
def Rb(R4:PU)(p0:AAd):Option Mh:=
 cond (decide ((p0.2.2.2.2.2.2.2.2.2.1.length:Int)>120))
  (some ((false,()),()))
 (R4 0 p0.1 p0.2.1 p0.2.2.1 p0.2.2.2.1 p0.2.2.2.2.1 p0.2.2.2.2.2.1 p0.2.2.2.2.2.2.1 p0.2.2.2.2.2.2.2.1 p0.2.2.2.2.2.2.2.2.1 p0.2.2.2.2.2.2.2.2.2.1 p0.2.2.2.2.2.2.2.2.2.2.1)
def QT(p0:AAd):Option Mh:=Rb (G9 Ac) p0
abbrev eQ:Type:=AAa×Unit
def HQ(p0:AAd):Option eQ:=
 (OQ (p0.1,p0.2.1,p0.2.2.1,p0.2.2.2.1,p0.2.2.2.2.1,p0.2.2.2.2.2.1,p0.2.2.2.2.2.2.1,p0.2.2.2.2.2.2.2.1,p0.2.2.2.2.2.2.2.2.1,p0.2.2.2.2.2.2.2.2.2.1,p0.2.2.2.2.2.2.2.2.2.2.1,())).bind fun u1=>
 cond (u1.1.1)
  ((NU (p0.1,p0.2.1,p0.2.2.1,p0.2.2.2.1,p0.2.2.2.2.1,p0.2.2.2.2.2.1,p0.2.2.2.2.2.2.1,p0.2.2.2.2.2.2.2.1,p0.2.2.2.2.2.2.2.2.1,p0.2.2.2.2.2.2.2.2.2.1,p0.2.2.2.2.2.2.2.2.2.2.1,())).bind fun u2=>
  cond (u2.1.1)
   (cond ((p0.2.2.2.2.2.2.2.2.1.length:Int)==2)
    (if(0:Int)≤(0:Int)∧(0:Int)<(p0.2.2.2.2.2.2.2.2.1.length:Int)then(
    (JU ((p0.2.2.2.2.2.2.2.2.1.getD 0 (0,0,[],())).1,(p0.2.2.2.2.2.2.2.2.1.getD 0 (0,0,[],())).2.1,(p0.2.2.2.2.2.2.2.2.1.getD 0 (0,0,[],())).2.2.1,())).bind fun u4=>
    cond (u4.1.1)
     (if(0:Int)≤(1:Int)∧(1:Int)<(p0.2.2.2.2.2.2.2.2.1.length:Int)then(
     (JU ((p0.2.2.2.2.2.2.2.2.1.getD 1 (0,0,[],())).1,(p0.2.2.2.2.2.2.2.2.1.getD 1 (0,0,[],())).2.1,(p0.2.2.2.2.2.2.2.2.1.getD 1 (0,0,[],())).2.2.1,())).bind fun u5=>
     cond (u5.1.1)
      ((QT (p0.1,p0.2.1,p0.2.2.1,p0.2.2.2.1,p0.2.2.2.2.1,p0.2.2.2.2.2.1,p0.2.2.2.2.2.2.1,p0.2.2.2.2.2.2.2.1,p0.2.2.2.2.2.2.2.2.1,p0.2.2.2.2.2.2.2.2.2.1,p0.2.2.2.2.2.2.2.2.2.2.1,())).bind fun u6=>
      some ((u6.1.1,()),()))
     (some ((false,()),())))else none)
    (some ((false,()),())))else none)
   (some ((false,()),())))
  (some ((false,()),())))
 (some ((false,()),()))
abbrev av:Type:=AEl×Unit
def Sx(p0:AAt):Option av:=
 cond (p0.1==1)
  (some (((p0.1,p0.2.1,0,0,[],()),()),()))
 (cond (p0.1==4)
  (some (((p0.1,p0.2.1,0,0,[],()),()),()))
 (cond (p0.1==6)
  (some (((p0.1,p0.2.1,0,0,[],()),()),()))
 (cond (p0.1==7)
  (some (((p0.1,p0.2.1,0,0,[],()),()),()))
 (cond (p0.1==9)
  (some (((p0.1,p0.2.1,0,0,[],()),()),()))
 (cond (p0.1==13)
  (some (((p0.1,p0.2.1,0,0,[],()),()),()))
 (cond (p0.1==15)
  (some (((p0.1,p0.2.1,0,0,[],()),()),()))
 (cond (p0.1==16)
  (some (((p0.1,p0.2.1,0,0,[],()),()),()))
 (cond (p0.1==2)
  (some (((p0.1,p0.2.1,0,0,p0.2.2.2.2.1,()),()),()))
 (cond (p0.1==3)
  (some (((p0.1,p0.2.1,p0.2.2.1,p0.2.2.2.1,[],()),()),()))
 (cond (p0.1==5)
  (some (((p0.1,p0.2.1,p0.2.2.1,0,[],()),()),()))
 (cond (p0.1==14)
  (some (((p0.1,p0.2.1,p0.2.2.1,0,[],()),()),()))
 (cond (p0.1==11)
  (some (((p0.1,0,p0.2.2.1,p0.2.2.2.1,[],()),()),()))
 (some (((p0.1,0,0,0,[],()),()),()))))))))))))))
abbrev fH:Type:=AAa×Unit
def Rx(p0:AAt):Option fH:=
 (BR p0.1 1 16).bind fun u1=>
 cond (u1.1.1)
  ((Sx (p0.1,p0.2.1,p0.2.2.1,p0.2.2.2.1,p0.2.2.2.2.1,())).bind fun u2=>
  cond (((p0.1==u2.1.1.1)&&((p0.2.1==u2.1.1.2.1)&&((p0.2.2.1==u2.1.1.2.2.1)&&((p0.2.2.2.1==u2.1.1.2.2.2.1)&&((p0.2.2.2.2.1==u2.1.1.2.2.2.2.1)&&true))))))
   (some ((decide ((p0.2.2.2.2.1.length:Int)≤40),()),()))
  (some ((false,()),())))
 (some ((false,()),()))
abbrev Dg:Type:=ACh×AEm
abbrev RT:Type:=Int→AAG→Int→Int→AAG→Int→AAG→Option Dg
def Si(R3:RT)(t4:Int)(AH:AAG)(AL Aq:Int)(b2:AAG)(V6:Int)(b4:AAG):Option Dg:=
 cond ((decide (t4<(AH.length:Int))))
  (if(0:Int)≤t4∧t4<(AH.length:Int)then(
  if 0+((AH.getD (t4.toNat) ([],false,0,())).1).length≤DE then(
  if b4.length+1≤DE then(
  R3 (AX (t4+1)) AH AL Aq b2 V6 (b4++[(((AH.getD (t4.toNat) ([],false,0,())).1),(AH.getD (t4.toNat) ([],false,0,())).2.1,(AH.getD (t4.toNat) ([],false,0,())).2.2.1,())]))else none)else none)else none)
 (some ((((),V6,()),()),(b4,())))
def Jz:Nat→RT
 |0=>fun _ _ _ _ _ _ _=>none
 |n+1=>Si (Jz n)
def Su(R3:RT)(p0:AAj):Option Dg:=
 R3 0 p0.1 p0.2.1 0 [] p0.2.1 []
def D7(p0:AAj):Option Dg:=Su (Jz Ac) p0
abbrev Hn:Type:=ADy×ADX
def C4(p0:AAq):Option Hn:=
 if 0+p0.1.length≤DE then(
 if 0+p0.2.1.length≤DE then(
 some ((((),(),p0.2.2.1,()),()),(p0.1,p0.2.1,())))else none)else none
abbrev DZ:Type:=AEw×AE8
abbrev Qq:Type:=Int→Int→AAf→Int→AAf→Int→AAf→Option DZ
def M0(R3:Qq)(t4 AH:Int)(AL:AAf)(A6:Int)(b2:AAf)(Xt:Int)(b4:AAf):Option DZ:=
 cond ((decide (t4<(AL.length:Int))))
  (if(0:Int)≤t4∧t4<(AL.length:Int)then(
  if 0+((AL.getD (t4.toNat) ([],[],false,())).2.1).length≤DE then(
  if b4.length+1≤DE then(
  R3 (AX (t4+1)) AH AL A6 b2 Xt (b4++[((AL.getD (t4.toNat) ([],[],false,())).1,((AL.getD (t4.toNat) ([],[],false,())).2.1),(AL.getD (t4.toNat) ([],[],false,())).2.2.1,())]))else none)else none)else none)
 (some (((Xt,(),()),()),(b4,())))
def Gl:Nat→Qq
 |0=>fun _ _ _ _ _ _ _=>none
 |n+1=>M0 (Gl n)
def Na(R3:Qq)(p0:AAn):Option DZ:=
 R3 0 p0.1 p0.2.1 0 [] p0.1 []
def Cj(p0:AAn):Option DZ:=Na (Gl Ac) p0
abbrev EG:Type:=ADd×ADq
abbrev RR:Type:=Int→Int→Int→List Int→AAF→Bool→List AAD→Int→Int→Bool→List Int→AAF→List AAD→Int→Int→Bool→List Int→AAF→List AAD→Option EG
def NC(R3:RR)(t4 AH AL:Int)(AU:AAD)(Df:AAF)(FK:Bool)(Eh:List AAD)(A6 Aq:Int)(Nj:Bool)(b2:AAD)(b3:AAF)(b4:List AAD)(rv sJ:Int)(pv:Bool)(b6:AAD)(b7:AAF)(b8:List AAD):Option EG:=
 cond ((decide (t4<(Eh.length:Int))))
  (if(0:Int)≤t4∧t4<(Eh.length:Int)then(
  if 0+(Eh.getD (t4.toNat) []).length≤DE then(
  if b8.length+1≤DE then(
  R3 (AX (t4+1)) AH AL AU Df FK Eh A6 Aq Nj b2 b3 b4 rv sJ pv b6 b7 (b8++[(Eh.getD (t4.toNat) [])]))else none)else none)else none)
 (some (((rv,sJ,(),(),pv,(),()),()),(b6,b7,b8,())))
def FN:Nat→RR
 |0=>fun _ _ _ _ _ _ _ _ _ _ _ _ _ _ _ _ _ _ _=>none
 |n+1=>NC (FN n)
def Jk(R3:RR)(p0:AAY):Option EG:=
 if 0+p0.2.2.1.length≤DE then(
 if 0+p0.2.2.2.1.length≤DE then(
 R3 0 p0.1 p0.2.1 p0.2.2.1 p0.2.2.2.1 p0.2.2.2.2.1 p0.2.2.2.2.2.1 0 0 false [] [] [] p0.1 p0.2.1 p0.2.2.2.2.1 p0.2.2.1 p0.2.2.2.1 [])else none)else none
def Ck(p0:AAY):Option EG:=Jk (FN Ac) p0
abbrev Gh:Type:=ADs×AEi
def Bb(p0:ABc):Option Gh:=
 if 0+p0.2.2.1.length≤DE then(
 some (((p0.1,p0.2.1,(),()),()),(p0.2.2.1,())))else none
abbrev De:Type:=AD1×ACH
abbrev HG:Type:=Int→List Int→Int→AAH→List Int→AAG→Int→AAP→AAQ→AAS→AAL→Bool→Int→Int→Bool→List Int→AAH→List Int→AAG→AAP→AAQ→AAS→AAL→Int→Int→Bool→List Int→AAH→List Int→AAG→AAP→AAQ→AAS→AAL→Option De
abbrev HD:Type:=Int→List Int→Int→AAH→List Int→AAG→Int→AAP→AAQ→AAS→AAL→Bool→Int→Int→Bool→List Int→AAH→List Int→AAG→AAP→AAQ→AAS→AAL→Int→Int→Bool→List Int→AAH→List Int→AAG→AAP→AAQ→AAS→AAL→Option De
abbrev GX:Type:=Int→List Int→Int→AAH→List Int→AAG→Int→AAP→AAQ→AAS→AAL→Bool→Int→Int→Bool→List Int→AAH→List Int→AAG→AAP→AAQ→AAS→AAL→Int→Int→Bool→List Int→AAH→List Int→AAG→AAP→AAQ→AAS→AAL→Option De
abbrev GQ:Type:=Int→List Int→Int→AAH→List Int→AAG→Int→AAP→AAQ→AAS→AAL→Bool→Int→Int→Bool→List Int→AAH→List Int→AAG→AAP→AAQ→AAS→AAL→Int→Int→Bool→List Int→AAH→List Int→AAG→AAP→AAQ→AAS→AAL→Option De
def L1(R3:HG)(R7:HD)(gJ:GX)(bn:GQ)(t4:Int)(AH:AAD)(AL:Int)(AU:AAH)(Df:AAD)(FK:AAG)(Eh:Int)(DU:AAP)(DN:AAQ)(EK:AAS)(Ft:AAL)(DL:Bool)(Aq Ds:Int)(FL:Bool)(b2:AAD)(b3:AAH)(b4:AAD)(b5:AAG)(b6:AAP)(b7:AAQ)(b8:AAS)(b9:AAL)(Da Ez:Int)(Cv:Bool)(F6:AAD)(Db:AAH)(Fg:AAD)(FV:AAG)(D8:AAP)(ER:AAQ)(Em:AAS)(T0:AAL):Option De:=
 cond ((decide (t4<(AU.length:Int))))
  (if(0:Int)≤t4∧t4<(AU.length:Int)then(
  (C4 ((AU.getD (t4.toNat) ([],[],0,())).1,(AU.getD (t4.toNat) ([],[],0,())).2.1,(AU.getD (t4.toNat) ([],[],0,())).2.2.1,())).bind fun mG=>
  if Db.length+1≤DE then(
  R3 (AX (t4+1)) AH AL AU Df FK Eh DU DN EK Ft DL Aq Ds FL b2 b3 b4 b5 b6 b7 b8 b9 Da Ez Cv F6 (Db++[(mG.2.1,mG.2.2.1,mG.1.1.2.2.1,())]) Fg FV D8 ER Em T0)else none)else none)
 (R7 0 AH AL AU Df FK Eh DU DN EK Ft DL Aq Ds FL b2 b3 b4 b5 b6 b7 b8 b9 Da Ez Cv F6 Db Fg FV D8 ER Em T0)
def Lv(R3:HG)(R7:HD)(gJ:GX)(bn:GQ)(t5:Int)(AH:AAD)(AL:Int)(AU:AAH)(Df:AAD)(FK:AAG)(Eh:Int)(DU:AAP)(DN:AAQ)(EK:AAS)(Ft:AAL)(DL:Bool)(Aq Ds:Int)(FL:Bool)(b2:AAD)(b3:AAH)(b4:AAD)(b5:AAG)(b6:AAP)(b7:AAQ)(b8:AAS)(b9:AAL)(Da Ez:Int)(Cv:Bool)(F6:AAD)(Db:AAH)(Fg:AAD)(FV:AAG)(D8:AAP)(ER:AAQ)(Em:AAS)(T0:AAL):Option De:=
 cond ((decide (t5<(DU.length:Int))))
  (if(0:Int)≤t5∧t5<(DU.length:Int)then(
  (Cj ((DU.getD (t5.toNat) (0,[],())).1,(DU.getD (t5.toNat) (0,[],())).2.1,())).bind fun qe=>
  if D8.length+1≤DE then(
  R7 (AX (t5+1)) AH AL AU Df FK Eh DU DN EK Ft DL Aq Ds FL b2 b3 b4 b5 b6 b7 b8 b9 Da Ez Cv F6 Db Fg FV (D8++[(qe.1.1.1,qe.2.1,())]) ER Em T0)else none)else none)
 (gJ 0 AH AL AU Df FK Eh DU DN EK Ft DL Aq Ds FL b2 b3 b4 b5 b6 b7 b8 b9 Da Ez Cv F6 Db Fg FV D8 ER Em T0)
def LA(R3:HG)(R7:HD)(gJ:GX)(bn:GQ)(t6:Int)(AH:AAD)(AL:Int)(AU:AAH)(Df:AAD)(FK:AAG)(Eh:Int)(DU:AAP)(DN:AAQ)(EK:AAS)(Ft:AAL)(DL:Bool)(Aq Ds:Int)(FL:Bool)(b2:AAD)(b3:AAH)(b4:AAD)(b5:AAG)(b6:AAP)(b7:AAQ)(b8:AAS)(b9:AAL)(Da Ez:Int)(Cv:Bool)(F6:AAD)(Db:AAH)(Fg:AAD)(FV:AAG)(D8:AAP)(ER:AAQ)(Em:AAS)(T0:AAL):Option De:=
 cond ((decide (t6<(DN.length:Int))))
  (if(0:Int)≤t6∧t6<(DN.length:Int)then(
  (Ck ((DN.getD (t6.toNat) (0,0,[],[],false,[],())).1,(DN.getD (t6.toNat) (0,0,[],[],false,[],())).2.1,(DN.getD (t6.toNat) (0,0,[],[],false,[],())).2.2.1,(DN.getD (t6.toNat) (0,0,[],[],false,[],())).2.2.2.1,(DN.getD (t6.toNat) (0,0,[],[],false,[],())).2.2.2.2.1,(DN.getD (t6.toNat) (0,0,[],[],false,[],())).2.2.2.2.2.1,())).bind fun Zp=>
  if ER.length+1≤DE then(
  gJ (AX (t6+1)) AH AL AU Df FK Eh DU DN EK Ft DL Aq Ds FL b2 b3 b4 b5 b6 b7 b8 b9 Da Ez Cv F6 Db Fg FV D8 (ER++[(Zp.1.1.1,Zp.1.1.2.1,Zp.2.1,Zp.2.2.1,Zp.1.1.2.2.2.2.1,Zp.2.2.2.1,())]) Em T0)else none)else none)
 (bn 0 AH AL AU Df FK Eh DU DN EK Ft DL Aq Ds FL b2 b3 b4 b5 b6 b7 b8 b9 Da Ez Cv F6 Db Fg FV D8 ER Em T0)
def K_(R3:HG)(R7:HD)(gJ:GX)(bn:GQ)(t7:Int)(AH:AAD)(AL:Int)(AU:AAH)(Df:AAD)(FK:AAG)(Eh:Int)(DU:AAP)(DN:AAQ)(EK:AAS)(Ft:AAL)(DL:Bool)(Aq Ds:Int)(FL:Bool)(b2:AAD)(b3:AAH)(b4:AAD)(b5:AAG)(b6:AAP)(b7:AAQ)(b8:AAS)(b9:AAL)(Da Ez:Int)(Cv:Bool)(F6:AAD)(Db:AAH)(Fg:AAD)(FV:AAG)(D8:AAP)(ER:AAQ)(Em:AAS)(T0:AAL):Option De:=
 cond ((decide (t7<(EK.length:Int))))
  (if(0:Int)≤t7∧t7<(EK.length:Int)then(
  (Bb ((EK.getD (t7.toNat) (0,0,[],())).1,(EK.getD (t7.toNat) (0,0,[],())).2.1,(EK.getD (t7.toNat) (0,0,[],())).2.2.1,())).bind fun lq=>
  if Em.length+1≤DE then(
  bn (AX (t7+1)) AH AL AU Df FK Eh DU DN EK Ft DL Aq Ds FL b2 b3 b4 b5 b6 b7 b8 b9 Da Ez Cv F6 Db Fg FV D8 ER (Em++[(lq.1.1.1,lq.1.1.2.1,lq.2.1,())]) T0)else none)else none)
 (some ((((),Da,(),(),(),Ez,(),(),(),(),Cv,()),()),(F6,Db,Fg,FV,D8,ER,Em,T0,())))
mutual
def Bk:Nat→HG
 |0=>fun _ _ _ _ _ _ _ _ _ _ _ _ _ _ _ _ _ _ _ _ _ _ _ _ _ _ _ _ _ _ _ _ _ _=>none
 |n+1=>L1 (Bk n) (Bw n) (Bi n) (Bg n)
def Bw:Nat→HD
 |0=>fun _ _ _ _ _ _ _ _ _ _ _ _ _ _ _ _ _ _ _ _ _ _ _ _ _ _ _ _ _ _ _ _ _ _=>none
 |n+1=>Lv (Bk n) (Bw n) (Bi n) (Bg n)
def Bi:Nat→GX
 |0=>fun _ _ _ _ _ _ _ _ _ _ _ _ _ _ _ _ _ _ _ _ _ _ _ _ _ _ _ _ _ _ _ _ _ _=>none
 |n+1=>LA (Bk n) (Bw n) (Bi n) (Bg n)
def Bg:Nat→GQ
 |0=>fun _ _ _ _ _ _ _ _ _ _ _ _ _ _ _ _ _ _ _ _ _ _ _ _ _ _ _ _ _ _ _ _ _ _=>none
 |n+1=>K_ (Bk n) (Bw n) (Bi n) (Bg n)
end
def L3(R3:HG)(R7:HD)(gJ:GX)(bn:GQ)(p0:AAd):Option De:=
 if 0+p0.1.length≤DE then(
 if 0+p0.2.2.2.1.length≤DE then(
 (D7 (p0.2.2.2.2.1,p0.2.2.2.2.2.1,())).bind fun u2=>
 if 0+p0.2.2.2.2.2.2.2.2.2.1.length≤DE then(
 R3 0 p0.1 p0.2.1 p0.2.2.1 p0.2.2.2.1 p0.2.2.2.2.1 p0.2.2.2.2.2.1 p0.2.2.2.2.2.2.1 p0.2.2.2.2.2.2.2.1 p0.2.2.2.2.2.2.2.2.1 p0.2.2.2.2.2.2.2.2.2.1 p0.2.2.2.2.2.2.2.2.2.2.1 0 0 false [] [] [] [] [] [] [] [] p0.2.1 u2.1.1.2.1 p0.2.2.2.2.2.2.2.2.2.2.1 p0.1 [] p0.2.2.2.1 u2.2.1 [] [] [] p0.2.2.2.2.2.2.2.2.2.1)else none)else none)else none
def Ki(p0:AAd):Option De:=L3 (Bk Ac) (Bw Ac) (Bi Ac) (Bg Ac) p0
abbrev Km:Type:=AAu×AAv
abbrev Nf:Type:=Int→Int→List Int→Option Km
def KC(R3:Nf)(t0 t4:Int)(b0:AAD):Option Km:=
 cond (decide (t4<8))
  ((BR t0 0 255).bind fun u1=>
  cond (u1.1.1)
   (if t4<0 then none else(
   cond (((Wi .i64 (t0.fdiv (2^(min t4.toNat 64))) 1)==1))
    (if b0.length+1≤DE then(
    R3 t0 (AX (t4+1)) (b0++[t4]))else none)
   (R3 t0 (AX (t4+1)) b0)))
  (some (((),()),(b0,()))))
 (some (((),()),(b0,())))
def FY:Nat→Nf
 |0=>fun _ _ _=>none
 |n+1=>KC (FY n)
def Ot(R3:Nf)(p0:Int):Option Km:=
 R3 p0 0 []
def J9(p0:Int):Option Km:=Ot (FY Ac) p0
abbrev dB:Type:=((AFL×Int×Bool×Unit)×Unit)×AEm
def I2(p0:AAT)(p1:AAj)(p2:AAD):Option dB:=
 (I5 (p0.1,p0.2.1,()) (p1.1,p1.2.1,())).bind fun u1=>
 cond (!u1.1.1)
  (some (((((),0,()),0,false,()),()),([],())))
 ((D7 (p1.1,p1.2.1,())).bind fun u2=>
 (C_ (p0.1,p0.2.1,()) p2).bind fun u3=>
 cond (!u3.1.1)
  (some (((((),u2.1.1.2.1,()),0,false,()),()),(u2.2.1,())))
 (cond (((p1.1.length:Int)==30))
  (some (((((),u2.1.1.2.1,()),0,false,()),()),(u2.2.1,())))
 (if 0+p2.length≤DE then(
 if u2.2.1.length+1≤DE then(
 let x5:AAG:=u2.2.1++[(p2,false,0,())]
 some (((((),u2.1.1.2.1,()),(x5.length:Int),true,()),()),(x5,())))else none)else none)))
abbrev VV:Type:=ABS×(List Int×AAH×List Int×Unit×Unit×Unit×AAS×AAL×AAG×AAP×AAQ×Unit)
def QH(BU Ba:Int)(Au:Bool)(p1:AAt)(b0:AAD)(b1:AAH)(b2:AAD)(b3:AAG)(b4:AAP)(b5:AAQ)(b6:AAS)(b7:AAL):Option VV:=
 cond (((b4.length:Int)==4))
  (some (((((),BU,(),(),(),Ba,(),(),(),(),Au,()),4,()),()),(b0,b1,b2,(),(),(),b6,b7,b3,b4,b5,())))
 ((J9 p1.2.1).bind fun u2=>
 (I2 (b0,BU,()) (b3,Ba,()) u2.2.1).bind fun u3=>
 cond (!u3.1.1.2.2.1)
  (some (((((),BU,(),(),(),Ba,(),(),(),(),Au,()),4,()),()),(b0,b1,b2,(),(),(),b6,b7,b3,b4,b5,())))
 (if b4.length+1≤DE then(
 some (((((),BU,(),(),(),u3.1.1.1.2.1,(),(),(),(),Au,()),0,()),()),(b0,b1,b2,(),(),(),b6,b7,u3.2.1,(b4++[(u3.1.1.2.1,[],())]),[],())))else none))
abbrev ZN:Type:=AAa×Unit
def Ia(p0:AAd)(p1:Int):Option ZN:=
 (BR p1 0 (AX ((p0.2.2.2.2.2.2.1.length:Int)-1))).bind fun u2=>
 some ((u2.1.1,()),())
abbrev ZD:Type:=((AFM×Int×Bool×Unit)×Unit)×AE8
def ES(p0:AAT)(p1:AAn)(p2:AAg):Option ZD:=
 (E9 (p0.1,p0.2.1,()) (p1.1,p1.2.1,())).bind fun u1=>
 cond (!u1.1.1)
  (some ((((0,(),()),0,false,()),()),([],())))
 ((Cj (p1.1,p1.2.1,())).bind fun u2=>
 if u2.2.1.length+1≤DE then(
 let x3:AAf:=u2.2.1++[(p2,[],false,())]
 (E9 (p0.1,p0.2.1,()) (u2.1.1.1,x3,())).bind fun u4=>
 cond (!u4.1.1)
  ((Cj (p1.1,p1.2.1,())).bind fun u5=>
  some ((((u5.1.1.1,(),()),0,false,()),()),(u5.2.1,())))
 (some ((((u2.1.1.1,(),()),(x3.length:Int),true,()),()),(x3,()))))else none)
abbrev FU:Type:=AAl×Unit
def Bl(p0 p1:Int):Option FU:=
 some ((AX ((AX (4294967296*p0))+p1),()),())
abbrev Hk:Type:=ABS×(List Int×AAH×List Int×AAG×AAP×AAQ×AAS×Unit×AAL×Unit)
abbrev Ms:Type:=Int→List Int→AAH→List Int→AAG→AAP→AAQ→AAS→AAL→Int→Int→Bool→Int→Int→Bool→List Int→AAH→List Int→AAG→AAP→AAQ→AAS→AAL→Int→List UInt8→Bool→Option Hk
abbrev Lg:Type:=Bool→Int→List Int→AAH→List Int→AAG→AAP→AAQ→AAS→AAL→Int→Int→Bool→Int→Int→Bool→List Int→AAH→List Int→AAG→AAP→AAQ→AAS→AAL→Int→List UInt8→Bool→AAL→Option Hk
def Sm(R9:Ms)(oq:Lg)(t10:Int)(b0:AAD)(b1:AAH)(b2:AAD)(b3:AAG)(b4:AAP)(b5:AAQ)(b6:AAS)(b7:AAL)(CR Ca:Int)(BV:Bool)(DV Dw:Int)(CE:Bool)(MF:AAD)(F6:AAH)(Db:AAD)(Fg:AAG)(FV:AAP)(D8:AAQ)(ER:AAS)(Em:AAL)(Bo:Int)(CA:AAg)(Bq:Bool):Option Hk:=
 cond ((decide (t10<(b7.length:Int))))
  (if(0:Int)≤t10∧t10<(b7.length:Int)then(
  cond (((b7.getD (t10.toNat) (0,[],false,())).1)==Bo)
   (some (((((),CR,(),(),(),Ca,(),(),(),(),BV,()),4,()),()),(b0,b1,b2,b3,b4,b5,b6,(),b7,())))
  (R9 (AX (t10+1)) b0 b1 b2 b3 b4 b5 b6 b7 CR Ca BV DV Dw CE MF F6 Db Fg FV D8 ER Em Bo CA Bq))else none)
 (oq false 0 b0 b1 b2 b3 b4 b5 b6 b7 CR Ca BV DV Dw CE MF F6 Db Fg FV D8 ER Em Bo CA Bq [])
def RQ(R9:Ms)(oq:Lg)(t12:Bool)(t13:Int)(b0:AAD)(b1:AAH)(b2:AAD)(b3:AAG)(b4:AAP)(b5:AAQ)(b6:AAS)(b7:AAL)(CR Ca:Int)(BV:Bool)(DV Dw:Int)(CE:Bool)(MF:AAD)(F6:AAH)(Db:AAD)(Fg:AAG)(FV:AAP)(D8:AAQ)(ER:AAS)(Em:AAL)(Bo:Int)(CA:AAg)(Bq:Bool)(jB:AAL):Option Hk:=
 cond ((decide (t13<(b7.length:Int))))
  (cond (!t12)
   (if(0:Int)≤t13∧t13<(b7.length:Int)then(
   cond (decide (((b7.getD (t13.toNat) (0,[],false,())).1)>Bo))
    (if jB.length+1≤DE then(
    let x18:AAL:=jB++[(Bo,CA,Bq,())]
    if(0:Int)≤t13∧t13<(b7.length:Int)then(
    if x18.length+1≤DE then(
    oq true (AX (t13+1)) b0 b1 b2 b3 b4 b5 b6 b7 CR Ca BV DV Dw CE MF F6 Db Fg FV D8 ER Em Bo CA Bq (x18++[((b7.getD (t13.toNat) (0,[],false,())).1,(b7.getD (t13.toNat) (0,[],false,())).2.1,(b7.getD (t13.toNat) (0,[],false,())).2.2.1,())]))else none)else none)else none)
   (if(0:Int)≤t13∧t13<(b7.length:Int)then(
   if jB.length+1≤DE then(
   oq t12 (AX (t13+1)) b0 b1 b2 b3 b4 b5 b6 b7 CR Ca BV DV Dw CE MF F6 Db Fg FV D8 ER Em Bo CA Bq (jB++[((b7.getD (t13.toNat) (0,[],false,())).1,(b7.getD (t13.toNat) (0,[],false,())).2.1,(b7.getD (t13.toNat) (0,[],false,())).2.2.1,())]))else none)else none))else none)
  (if(0:Int)≤t13∧t13<(b7.length:Int)then(
  if jB.length+1≤DE then(
  oq t12 (AX (t13+1)) b0 b1 b2 b3 b4 b5 b6 b7 CR Ca BV DV Dw CE MF F6 Db Fg FV D8 ER Em Bo CA Bq (jB++[((b7.getD (t13.toNat) (0,[],false,())).1,(b7.getD (t13.toNat) (0,[],false,())).2.1,(b7.getD (t13.toNat) (0,[],false,())).2.2.1,())]))else none)else none))
 (cond (!t12)
  (if jB.length+1≤DE then(
  some (((((),CR,(),(),(),Ca,(),(),(),(),BV,()),0,()),()),(b0,b1,b2,b3,b4,b5,b6,(),(jB++[(Bo,CA,Bq,())]),())))else none)
 (some (((((),CR,(),(),(),Ca,(),(),(),(),BV,()),0,()),()),(b0,b1,b2,b3,b4,b5,b6,(),jB,()))))
mutual
def IW:Nat→Ms
 |0=>fun _ _ _ _ _ _ _ _ _ _ _ _ _ _ _ _ _ _ _ _ _ _ _ _ _ _=>none
 |n+1=>Sm (IW n) (G_ n)
def G_:Nat→Lg
 |0=>fun _ _ _ _ _ _ _ _ _ _ _ _ _ _ _ _ _ _ _ _ _ _ _ _ _ _ _ _=>none
 |n+1=>RQ (IW n) (G_ n)
end
def Sr(R9:Ms)(oq:Lg)(BU Ba:Int)(Au:Bool)(p1:AAt)(b0:AAD)(b1:AAH)(b2:AAD)(b3:AAG)(b4:AAP)(b5:AAQ)(b6:AAS)(b7:AAL):Option Hk:=
 (Ia (b0,BU,b1,b2,b3,Ba,b4,b5,b6,b7,Au,()) p1.2.1).bind fun u1=>
 cond (!u1.1.1)
  (some (((((),BU,(),(),(),Ba,(),(),(),(),Au,()),2,()),()),(b0,b1,b2,b3,b4,b5,b6,(),b7,())))
 (if(0:Int)≤p1.2.1∧p1.2.1<(b4.length:Int)then(
 (ES (b0,BU,()) ((b4.getD (p1.2.1.toNat) (0,[],())).1,(b4.getD (p1.2.1.toNat) (0,[],())).2.1,()) p1.2.2.2.2.1).bind fun u2=>
 cond (!u2.1.1.2.2.1)
  (some (((((),BU,(),(),(),Ba,(),(),(),(),Au,()),4,()),()),(b0,b1,b2,b3,b4,b5,b6,(),b7,())))
 (cond (((b7.length:Int)==120))
  (some (((((),BU,(),(),(),Ba,(),(),(),(),Au,()),4,()),()),(b0,b1,b2,b3,b4,b5,b6,(),b7,())))
 (if(0:Int)≤p1.2.1∧p1.2.1<(b4.length:Int)then(
 (Bl u2.1.1.1.1 u2.1.1.2.1).bind fun u5=>
 R9 0 b0 b1 b2 b3 (b4.set (p1.2.1.toNat) (u2.1.1.1.1,u2.2.1,())) b5 b6 b7 BU Ba Au 0 0 false [] [] [] [] [] [] [] [] u5.1.1 p1.2.2.2.2.1 false)else none)))else none)
def SB(BU Ba:Int)(Au:Bool)(p1:AAt)(b0:AAD)(b1:AAH)(b2:AAD)(b3:AAG)(b4:AAP)(b5:AAQ)(b6:AAS)(b7:AAL):Option Hk:=Sr (IW Ac) (G_ Ac) BU Ba Au p1 b0 b1 b2 b3 b4 b5 b6 b7
abbrev ec:Type:=AAl×Unit
def E5(p0:AAd)(p1:Int):Option ec:=
 (BR p1 0 (AX ((p0.2.2.1.length:Int)-1))).bind fun u2=>
 cond (!u2.1.1)
  (some ((2,()),()))
 ((B6 p0.2.2.2.1 p1).bind fun u3=>
 cond (u3.1.1)
  (some ((3,()),()))
 (some ((0,()),())))
abbrev dU:Type:=AAa×Unit
def QL(p0:AAq)(p1:ABs):Option dU:=
 cond (p1.2.1==0)
  ((Bu p1.1).bind fun u1=>
  some (((decide (u1.1.1>p0.2.2.1)),()),()))
 (some (((decide (p1.2.1>p0.2.2.1)),()),()))
abbrev bL:Type:=ADF×ADX
def JV(p0:AAq)(p1:ABs):Option bL:=
 (EO (p0.1,p0.2.1,p0.2.2.1,())).bind fun u1=>
 cond (!u1.1.1)
  (some (((((),(),0,()),false,()),()),([],[],())))
 ((C4 (p0.1,p0.2.1,p0.2.2.1,())).bind fun u2=>
 (I_ (p1.1,p1.2.1,p1.2.2.1,p1.2.2.2.1,())).bind fun u3=>
 cond (!u3.1.1)
  (some (((((),(),u2.1.1.2.2.1,()),false,()),()),(u2.2.1,u2.2.2.1,())))
 ((QL (p0.1,p0.2.1,p0.2.2.1,()) (p1.1,p1.2.1,p1.2.2.1,p1.2.2.2.1,())).bind fun u4=>
 cond (!u4.1.1)
  (some (((((),(),u2.1.1.2.2.1,()),false,()),()),(u2.2.1,u2.2.2.1,())))
 (cond ((p0.2.1.length:Int)==20)
  (some (((((),(),u2.1.1.2.2.1,()),false,()),()),(u2.2.1,u2.2.2.1,())))
 (if u2.2.2.1.length+1≤DE then(
 some (((((),(),u2.1.1.2.2.1,()),true,()),()),(u2.2.1,(u2.2.2.1++[(p1.1,p1.2.1,p1.2.2.1,p1.2.2.2.1,())]),())))else none))))
abbrev U4:Type:=ABS×ACH
def OS(BU Ba:Int)(Au:Bool)(p1:AAt)(b0:AAD)(b1:AAH)(b2:AAD)(b3:AAG)(b4:AAP)(b5:AAQ)(b6:AAS)(b7:AAL):Option U4:=
 (Ia (b0,BU,b1,b2,b3,Ba,b4,b5,b6,b7,Au,()) p1.2.1).bind fun u1=>
 cond (!u1.1.1)
  (some (((((),BU,(),(),(),Ba,(),(),(),(),Au,()),2,()),()),(b0,b1,b2,b3,b4,b5,b6,b7,())))
 (if(0:Int)≤p1.2.1∧p1.2.1<(b4.length:Int)then(
 (BR p1.2.2.1 1 (((b4.getD (p1.2.1.toNat) (0,[],())).2.1).length:Int)).bind fun u3=>
 cond (!u3.1.1)
  (some (((((),BU,(),(),(),Ba,(),(),(),(),Au,()),2,()),()),(b0,b1,b2,b3,b4,b5,b6,b7,())))
 ((E5 (b0,BU,b1,b2,b3,Ba,b4,b5,b6,b7,Au,()) p1.2.2.2.1).bind fun u4=>
 cond (u4.1.1 !=0)
  (some (((((),BU,(),(),(),Ba,(),(),(),(),Au,()),u4.1.1,()),()),(b0,b1,b2,b3,b4,b5,b6,b7,())))
 ((Bm (b3,Ba,()) ((b4.getD (p1.2.1.toNat) (0,[],())).1)).bind fun u6=>
 (B6 u6.2.1 p1.2.2.2.1).bind fun u7=>
 cond (!u7.1.1)
  (some (((((),BU,(),(),(),Ba,(),(),(),(),Au,()),2,()),()),(b0,b1,b2,b3,b4,b5,b6,b7,())))
 (if(0:Int)≤p1.2.2.2.1∧p1.2.2.2.1<(b1.length:Int)then(
 if(0:Int)≤AX (p1.2.2.1-1)∧AX (p1.2.2.1-1)<(((b4.getD (p1.2.1.toNat) (0,[],())).2.1).length:Int)then(
 (Bl ((b4.getD (p1.2.1.toNat) (0,[],())).1) p1.2.2.1).bind fun HW=>
 (JV ((b1.getD (p1.2.2.2.1.toNat) ([],[],0,())).1,(b1.getD (p1.2.2.2.1.toNat) ([],[],0,())).2.1,(b1.getD (p1.2.2.2.1.toNat) ([],[],0,())).2.2.1,()) (HW.1.1,0,false,((((b4.getD (p1.2.1.toNat) (0,[],())).2.1).getD ((AX (p1.2.2.1-1)).toNat) ([],[],false,())).1),())).bind fun Qo=>
 cond (!Qo.1.1.2.1)
  (some (((((),BU,(),(),(),Ba,(),(),(),(),Au,()),4,()),()),(b0,b1,b2,b3,b4,b5,b6,b7,())))
 (if(0:Int)≤p1.2.2.2.1∧p1.2.2.2.1<(b1.length:Int)then(
 some (((((),BU,(),(),(),Ba,(),(),(),(),Au,()),0,()),()),(b0,(b1.set (p1.2.2.2.1.toNat) (Qo.2.1,Qo.2.2.1,Qo.1.1.1.2.2.1,())),b2,b3,b4,b5,b6,b7,())))else none))else none)else none))))else none)
abbrev fR:Type:=AFN×Unit
def MQ(p0 p1:ABs):Option fR:=
 cond ((decide (p1.2.1>p0.2.1)))
  (some (((p1.1,p1.2.1,p1.2.2.1,p1.2.2.2.1,()),()),()))
 (some (((p0.1,p0.2.1,p0.2.2.1,p0.2.2.2.1,()),()),()))
abbrev Oe:Type:=AAu×AFO
abbrev RG:Type:=AAF→Bool→Int→Int→Int→Bool→List UInt8→AAF→Option Oe
def NX(R4:RG)(t0:AAF)(t6:Bool)(t7 AH AL:Int)(AU:Bool)(Df:AAg)(b1:AAF):Option Oe:=
 cond ((decide (t7<(t0.length:Int))))
  (cond (!t6)
   (if(0:Int)≤t7∧t7<(t0.length:Int)then(
   cond (((t0.getD (t7.toNat) (0,0,false,[],())).1)==AH)
    (if(0:Int)≤t7∧t7<(t0.length:Int)then(
    (MQ ((t0.getD (t7.toNat) (0,0,false,[],())).1,(t0.getD (t7.toNat) (0,0,false,[],())).2.1,(t0.getD (t7.toNat) (0,0,false,[],())).2.2.1,(t0.getD (t7.toNat) (0,0,false,[],())).2.2.2.1,()) (AH,AL,AU,Df,())).bind fun u3=>
    if b1.length+1≤DE then(
    R4 t0 true (AX (t7+1)) AH AL AU Df (b1++[(u3.1.1.1,u3.1.1.2.1,u3.1.1.2.2.1,u3.1.1.2.2.2.1,())]))else none)else none)
   (cond (!t6)
    (if(0:Int)≤t7∧t7<(t0.length:Int)then(
    cond (decide (((t0.getD (t7.toNat) (0,0,false,[],())).1)>AH))
     (if b1.length+1≤DE then(
     let x6:AAF:=b1++[(AH,AL,AU,Df,())]
     if(0:Int)≤t7∧t7<(t0.length:Int)then(
     if x6.length+1≤DE then(
     R4 t0 true (AX (t7+1)) AH AL AU Df (x6++[((t0.getD (t7.toNat) (0,0,false,[],())).1,(t0.getD (t7.toNat) (0,0,false,[],())).2.1,(t0.getD (t7.toNat) (0,0,false,[],())).2.2.1,(t0.getD (t7.toNat) (0,0,false,[],())).2.2.2.1,())]))else none)else none)else none)
    (if(0:Int)≤t7∧t7<(t0.length:Int)then(
    if b1.length+1≤DE then(
    R4 t0 t6 (AX (t7+1)) AH AL AU Df (b1++[((t0.getD (t7.toNat) (0,0,false,[],())).1,(t0.getD (t7.toNat) (0,0,false,[],())).2.1,(t0.getD (t7.toNat) (0,0,false,[],())).2.2.1,(t0.getD (t7.toNat) (0,0,false,[],())).2.2.2.1,())]))else none)else none))else none)
   (if(0:Int)≤t7∧t7<(t0.length:Int)then(
   if b1.length+1≤DE then(
   R4 t0 t6 (AX (t7+1)) AH AL AU Df (b1++[((t0.getD (t7.toNat) (0,0,false,[],())).1,(t0.getD (t7.toNat) (0,0,false,[],())).2.1,(t0.getD (t7.toNat) (0,0,false,[],())).2.2.1,(t0.getD (t7.toNat) (0,0,false,[],())).2.2.2.1,())]))else none)else none)))else none)
  (cond (!t6)
   (if(0:Int)≤t7∧t7<(t0.length:Int)then(
   cond (decide (((t0.getD (t7.toNat) (0,0,false,[],())).1)>AH))
    (if b1.length+1≤DE then(
    let U1:AAF:=b1++[(AH,AL,AU,Df,())]
    if(0:Int)≤t7∧t7<(t0.length:Int)then(
    if U1.length+1≤DE then(
    R4 t0 true (AX (t7+1)) AH AL AU Df (U1++[((t0.getD (t7.toNat) (0,0,false,[],())).1,(t0.getD (t7.toNat) (0,0,false,[],())).2.1,(t0.getD (t7.toNat) (0,0,false,[],())).2.2.1,(t0.getD (t7.toNat) (0,0,false,[],())).2.2.2.1,())]))else none)else none)else none)
   (if(0:Int)≤t7∧t7<(t0.length:Int)then(
   if b1.length+1≤DE then(
   R4 t0 t6 (AX (t7+1)) AH AL AU Df (b1++[((t0.getD (t7.toNat) (0,0,false,[],())).1,(t0.getD (t7.toNat) (0,0,false,[],())).2.1,(t0.getD (t7.toNat) (0,0,false,[],())).2.2.1,(t0.getD (t7.toNat) (0,0,false,[],())).2.2.2.1,())]))else none)else none))else none)
  (if(0:Int)≤t7∧t7<(t0.length:Int)then(
  if b1.length+1≤DE then(
  R4 t0 t6 (AX (t7+1)) AH AL AU Df (b1++[((t0.getD (t7.toNat) (0,0,false,[],())).1,(t0.getD (t7.toNat) (0,0,false,[],())).2.1,(t0.getD (t7.toNat) (0,0,false,[],())).2.2.1,(t0.getD (t7.toNat) (0,0,false,[],())).2.2.2.1,())]))else none)else none)))
 (cond (!t6)
  (if b1.length+1≤DE then(
  some (((),()),((b1++[(AH,AL,AU,Df,())]),())))else none)
 (some (((),()),(b1,()))))
def Gm:Nat→RG
 |0=>fun _ _ _ _ _ _ _ _=>none
 |n+1=>NX (Gm n)
def Rv(R4:RG)(p0:AAF)(p1:ABs):Option Oe:=
 R4 p0 false 0 p1.1 p1.2.1 p1.2.2.1 p1.2.2.2.1 []
def MA(p0:AAF)(p1:ABs):Option Oe:=Rv (Gm Ac) p0 p1
abbrev Jl:Type:=ADF×ADX
abbrev Lx:Type:=Int→Int→AAF→AAF→Int→Int→AAF→AAF→Int→AAF→AAF→Option Jl
def Nl(R5:Lx)(t1 t7:Int)(AH AL:AAF)(AU Dk:Int)(b2 b3:AAF)(J_:Int)(b5 b6:AAF):Option Jl:=
 cond ((decide (t7<(AL.length:Int))))
  (if t7<0 then none else(
  cond (((Wi .i64 (t1.fdiv (2^(min t7.toNat 64))) 1)==1))
   (if(0:Int)≤t7∧t7<(AL.length:Int)then(
   (MA b5 ((AL.getD (t7.toNat) (0,0,false,[],())).1,(AL.getD (t7.toNat) (0,0,false,[],())).2.1,(AL.getD (t7.toNat) (0,0,false,[],())).2.2.1,(AL.getD (t7.toNat) (0,0,false,[],())).2.2.2.1,())).bind fun u5=>
   R5 t1 (AX (t7+1)) AH AL AU Dk b2 b3 J_ u5.2.1 b6)else none)
  (R5 t1 (AX (t7+1)) AH AL AU Dk b2 b3 J_ b5 b6)))
 ((BR t1 0 1048575).bind fun u6=>
 cond (!u6.1.1)
  ((C4 (AH,AL,AU,())).bind fun u7=>
  some (((((),(),u7.1.1.2.2.1,()),false,()),()),(u7.2.1,u7.2.2.1,())))
 (cond ((decide ((b5.length:Int)>200)))
  ((C4 (AH,AL,AU,())).bind fun u9=>
  some (((((),(),u9.1.1.2.2.1,()),false,()),()),(u9.2.1,u9.2.2.1,())))
 (some (((((),(),J_,()),true,()),()),(b5,b6,())))))
def Ga:Nat→Lx
 |0=>fun _ _ _ _ _ _ _ _ _ _ _=>none
 |n+1=>Nl (Ga n)
def Nr(R5:Lx)(p0:AAq)(p1:Int):Option Jl:=
 (EO (p0.1,p0.2.1,p0.2.2.1,())).bind fun u1=>
 cond (!u1.1.1)
  (some (((((),(),0,()),false,()),()),([],[],())))
 (if 0+p0.1.length≤DE then(
 R5 p1 0 p0.1 p0.2.1 p0.2.2.1 0 [] [] p0.2.2.1 p0.1 [])else none)
def JJ(p0:AAq)(p1:Int):Option Jl:=Nr (Ga Ac) p0 p1
abbrev Zi:Type:=ADF×ADX
def Gn(p0:AAq):Option Zi:=
 (JJ (p0.1,p0.2.1,p0.2.2.1,()) 1048575).bind fun u1=>
 some (((((),(),u1.1.1.1.2.2.1,()),u1.1.1.2.1,()),()),(u1.2.1,u1.2.2.1,()))
abbrev EI:Type:=(AFS×Unit)×Unit
abbrev TJ:Type:=AAF→Int→Int→Int→Int→Bool→List UInt8→Option EI
def Tc(R2:TJ)(t0:AAF)(t1 t6 AH AL:Int)(AU:Bool)(Df:AAg):Option EI:=
 cond ((decide (t6<(t0.length:Int))))
  (if(0:Int)≤t6∧t6<(t0.length:Int)then(
  cond (((t0.getD (t6.toNat) (0,0,false,[],())).1)==t1)
   (if(0:Int)≤t6∧t6<(t0.length:Int)then(
   some (((((t0.getD (t6.toNat) (0,0,false,[],())).1,(t0.getD (t6.toNat) (0,0,false,[],())).2.1,(t0.getD (t6.toNat) (0,0,false,[],())).2.2.1,(t0.getD (t6.toNat) (0,0,false,[],())).2.2.2.1,()),true,()),()),()))else none)
  (R2 t0 t1 (AX (t6+1)) AH AL AU Df))else none)
 (some ((((0,0,false,[],()),false,()),()),()))
def LJ:Nat→TJ
 |0=>fun _ _ _ _ _ _ _=>none
 |n+1=>Tc (LJ n)
def Tw(R2:TJ)(p0:AAF)(p1:Int):Option EI:=
 R2 p0 p1 0 0 0 false []
def Eo(p0:AAF)(p1:Int):Option EI:=Tw (LJ Ac) p0 p1
abbrev Dx:Type:=AFP×AE8
def CZ(p0:AAT)(p1:AAn)(p2 p3:Int):Option Dx:=
 (E9 (p0.1,p0.2.1,()) (p1.1,p1.2.1,())).bind fun u1=>
 cond (!u1.1.1)
  (some ((((0,(),()),false,()),()),([],())))
 ((Cj (p1.1,p1.2.1,())).bind fun u2=>
 (BR p2 1 (p1.2.1.length:Int)).bind fun u4=>
 cond (!u4.1.1)
  (some ((((u2.1.1.1,(),()),false,()),()),(u2.2.1,())))
 ((BR p3 0 (AX ((p0.1.length:Int)-1))).bind fun u6=>
 cond (!u6.1.1)
  (some ((((u2.1.1.1,(),()),false,()),()),(u2.2.1,())))
 (if(0:Int)≤AX (p2-1)∧AX (p2-1)<(p1.2.1.length:Int)then(
 cond (((p1.2.1.getD ((AX (p2-1)).toNat) ([],[],false,())).2.2.1))
  (some ((((u2.1.1.1,(),()),false,()),()),(u2.2.1,())))
 (if(0:Int)≤AX (p2-1)∧AX (p2-1)<(u2.2.1.length:Int)then(
 (Fp ((u2.2.1.getD ((AX (p2-1)).toNat) ([],[],false,())).2.1) p3).bind fun u8=>
 if(0:Int)≤AX (p2-1)∧AX (p2-1)<(u2.2.1.length:Int)then(
 let x9:AAf:=(u2.2.1.set ((AX (p2-1)).toNat) ((u2.2.1.getD ((AX (p2-1)).toNat) ([],[],false,())).1,u8.2.1,(u2.2.1.getD ((AX (p2-1)).toNat) ([],[],false,())).2.2.1,()))
 if(0:Int)≤AX (p2-1)∧AX (p2-1)<(x9.length:Int)then(
 (C_ (p0.1,p0.2.1,()) ((x9.getD ((AX (p2-1)).toNat) ([],[],false,())).2.1)).bind fun HW=>
 if(0:Int)≤AX (p2-1)∧AX (p2-1)<(x9.length:Int)then(
 some ((((u2.1.1.1,(),()),true,()),()),((x9.set ((AX (p2-1)).toNat) ((x9.getD ((AX (p2-1)).toNat) ([],[],false,())).1,(x9.getD ((AX (p2-1)).toNat) ([],[],false,())).2.1,HW.1.1,())),())))else none)else none)else none)else none))else none)))
abbrev Zc:Type:=((Int×Bool×Unit)×Unit)×Unit
def NJ(p0 p1:Int):Option Zc:=
 (BR p0 1 30).bind fun u1=>
 cond (!u1.1.1)
  (some (((0,false,()),()),()))
 ((BR p1 1 60).bind fun u2=>
 cond (!u2.1.1)
  (some (((0,false,()),()),()))
 (some (((AX ((AX (4294967296*p0))+p1),true,()),()),())))
abbrev Dy:Type:=(AFS×Unit)×Unit
def DC(p0:AAY)(p1:Int):Option Dy:=
 (NJ p0.2.1 p1).bind fun u1=>
 cond (!p0.2.2.2.2.1)
  (some ((((0,0,false,[],()),false,()),()),()))
 (cond (!u1.1.1.2.1)
  (some ((((0,0,false,[],()),false,()),()),()))
 (cond (decide (p1>(p0.2.2.2.2.2.1.length:Int)))
  (some ((((0,0,false,[],()),false,()),()),()))
 ((Eo p0.2.2.2.1 u1.1.1.1).bind fun u3=>
 cond (u3.1.1.2.1)
  (some ((((u1.1.1.1,p0.1,u3.1.1.1.2.2.1,u3.1.1.1.2.2.2.1,()),true,()),()),()))
 (some ((((u1.1.1.1,p0.1,true,[],()),true,()),()),())))))
abbrev CV:Type:=AEG×ADq
def Cr(p0:AAT)(p1:AAY)(p2 p3:Int):Option CV:=
 (GG (p0.1,p0.2.1,()) (p1.1,p1.2.1,p1.2.2.1,p1.2.2.2.1,p1.2.2.2.2.1,p1.2.2.2.2.2.1,())).bind fun u1=>
 cond (!u1.1.1)
  (some ((((0,0,(),(),false,(),()),false,()),()),([],[],[],())))
 ((Ck (p1.1,p1.2.1,p1.2.2.1,p1.2.2.2.1,p1.2.2.2.2.1,p1.2.2.2.2.2.1,())).bind fun u2=>
 (BR p2 1 (p1.2.2.2.2.2.1.length:Int)).bind fun u4=>
 cond (!u4.1.1)
  (some ((((u2.1.1.1,u2.1.1.2.1,(),(),u2.1.1.2.2.2.2.1,(),()),false,()),()),(u2.2.1,u2.2.2.1,u2.2.2.2.1,())))
 ((BR p3 0 (AX ((p0.1.length:Int)-1))).bind fun u6=>
 cond (!u6.1.1)
  (some ((((u2.1.1.1,u2.1.1.2.1,(),(),u2.1.1.2.2.2.2.1,(),()),false,()),()),(u2.2.1,u2.2.2.1,u2.2.2.2.1,())))
 (if(0:Int)≤AX (p2-1)∧AX (p2-1)<(u2.2.2.2.1.length:Int)then(
 (Fp (u2.2.2.2.1.getD ((AX (p2-1)).toNat) []) p3).bind fun u7=>
 if(0:Int)≤AX (p2-1)∧AX (p2-1)<(u2.2.2.2.1.length:Int)then(
 some ((((u2.1.1.1,u2.1.1.2.1,(),(),u2.1.1.2.2.2.2.1,(),()),true,()),()),(u2.2.1,u2.2.2.1,(u2.2.2.2.1.set ((AX (p2-1)).toNat) u7.2.1),())))else none)else none)))
abbrev BK:Type:=AD1×ACH
abbrev Fo:Type:=Int→Int→List Int→AAH→List Int→AAG→AAP→AAQ→AAS→AAL→Int→Int→Bool→Int→Int→Bool→List Int→AAH→List Int→AAG→AAP→AAQ→AAS→AAL→AAF→AAF→Int→Option BK
abbrev Fj:Type:=Int→Int→Int→Int→Int→Bool→List Int→AAH→List Int→AAG→AAP→AAQ→AAS→AAL→Int→Int→Bool→Int→Int→Bool→List Int→AAH→List Int→AAG→AAP→AAQ→AAS→AAL→AAF→AAF→Int→Int→AAf→Option BK
abbrev Ey:Type:=Int→Int→Int→Int→Int→Bool→List Int→AAH→List Int→AAG→AAP→AAQ→AAS→AAL→Int→Int→Bool→Int→Int→Bool→List Int→AAH→List Int→AAG→AAP→AAQ→AAS→AAL→AAF→AAF→Int→Int→AAf→Option BK
abbrev Er:Type:=Int→Int→List Int→AAH→List Int→AAG→AAP→AAQ→AAS→AAL→Int→Int→Bool→Int→Int→Bool→List Int→AAH→List Int→AAG→AAP→AAQ→AAS→AAL→AAF→AAF→Int→Option BK
abbrev Ew:Type:=Int→Int→Int→List Int→AAH→List Int→AAG→AAP→AAQ→AAS→AAL→Int→Int→Bool→Int→Int→Bool→List Int→AAH→List Int→AAG→AAP→AAQ→AAS→AAL→AAF→AAF→Int→Int→Int→List Int→AAF→Bool→List AAD→Option BK
def Iw(R3:Fo)(R8:Fj)(bn:Ey)(R21:Er)(zK:Ew)(t1 t6:Int)(b0:AAD)(b1:AAH)(b2:AAD)(b3:AAG)(b4:AAP)(b5:AAQ)(b6:AAS)(b7:AAL)(CR Ca:Int)(BV:Bool)(DV Dw:Int)(CE:Bool)(MF:AAD)(F6:AAH)(Db:AAD)(Fg:AAG)(FV:AAP)(D8:AAQ)(ER:AAS)(Em:AAL)(Bo CA:AAF)(Bq:Int):Option BK:=
 cond ((decide (t6<(b4.length:Int))))
  (if(0:Int)≤t6∧t6<(b4.length:Int)then(
  (Bm (b3,Ca,()) ((b4.getD (t6.toNat) (0,[],())).1)).bind fun u3=>
  (B6 u3.2.1 t1).bind fun u4=>
  cond (!u4.1.1)
   (R3 t1 (AX (t6+1)) b0 b1 b2 b3 b4 b5 b6 b7 CR Ca BV DV Dw CE MF F6 Db Fg FV D8 ER Em Bo CA Bq)
  (let x5:Int:=(b4.getD (t6.toNat) (0,[],())).1
  cond (decide (Bq≥x5))
   (R3 t1 (AX (t6+1)) b0 b1 b2 b3 b4 b5 b6 b7 CR Ca BV DV Dw CE MF F6 Db Fg FV D8 ER Em Bo CA Bq)
  (R8 t1 t6 1 Bq x5 (decide (Bq≥x5)) b0 b1 b2 b3 b4 b5 b6 b7 CR Ca BV DV Dw CE MF F6 Db Fg FV D8 ER Em Bo CA Bq ((b4.getD (t6.toNat) (0,[],())).1) ((b4.getD (t6.toNat) (0,[],())).2.1))))else none)
 (R21 t1 0 b0 b1 b2 b3 b4 b5 b6 b7 CR Ca BV DV Dw CE MF F6 Db Fg FV D8 ER Em Bo CA Bq)
def Ir(R3:Fo)(R8:Fj)(bn:Ey)(R21:Er)(zK:Ew)(t1 t6 t8 t47 t49:Int)(t50:Bool)(b0:AAD)(b1:AAH)(b2:AAD)(b3:AAG)(b4:AAP)(b5:AAQ)(b6:AAS)(b7:AAL)(CR Ca:Int)(BV:Bool)(DV Dw:Int)(CE:Bool)(MF:AAD)(F6:AAH)(Db:AAD)(Fg:AAG)(FV:AAP)(D8:AAQ)(ER:AAS)(Em:AAL)(Bo CA:AAF)(Bq Cp:Int)(Bf:AAf):Option BK:=
 cond ((decide (t8≤(Bf.length:Int))))
  ((Bl Cp t8).bind fun u7=>
  (Eo Bo u7.1.1).bind fun u8=>
  cond (!u8.1.1.2.1)
   (R8 t1 t6 (AX (t8+1)) t47 t49 t50 b0 b1 b2 b3 b4 b5 b6 b7 CR Ca BV DV Dw CE MF F6 Db Fg FV D8 ER Em Bo CA Bq Cp Bf)
  (cond (u8.1.1.1.2.1 !=0)
   (R8 t1 t6 (AX (t8+1)) t47 t49 t50 b0 b1 b2 b3 b4 b5 b6 b7 CR Ca BV DV Dw CE MF F6 Db Fg FV D8 ER Em Bo CA Bq Cp Bf)
  (if(0:Int)≤AX (t8-1)∧AX (t8-1)<(Bf.length:Int)then(
  cond (((Bf.getD ((AX (t8-1)).toNat) ([],[],false,())).2.2.1))
   (R8 t1 t6 (AX (t8+1)) t47 t49 t50 b0 b1 b2 b3 b4 b5 b6 b7 CR Ca BV DV Dw CE MF F6 Db Fg FV D8 ER Em Bo CA Bq Cp Bf)
  ((CZ (b0,CR,()) (Cp,Bf,()) t8 t1).bind fun HW=>
  R8 t1 t6 (AX (t8+1)) t47 t49 t50 b0 b1 b2 b3 b4 b5 b6 b7 CR Ca BV DV Dw CE MF F6 Db Fg FV D8 ER Em Bo CA Bq HW.1.1.1.1 HW.2.1))else none)))
 (if(0:Int)≤t6∧t6<(b4.length:Int)then(
 bn t1 t6 0 t47 t49 t50 b0 b1 b2 b3 (b4.set (t6.toNat) (Cp,Bf,())) b5 b6 b7 CR Ca BV DV Dw CE MF F6 Db Fg FV D8 ER Em Bo CA Bq Cp Bf)else none)
def Ht(R3:Fo)(R8:Fj)(bn:Ey)(R21:Er)(zK:Ew)(t1 t6 t11 t47 t49:Int)(t50:Bool)(b0:AAD)(b1:AAH)(b2:AAD)(b3:AAG)(b4:AAP)(b5:AAQ)(b6:AAS)(b7:AAL)(CR Ca:Int)(BV:Bool)(DV Dw:Int)(CE:Bool)(MF:AAD)(F6:AAH)(Db:AAD)(Fg:AAG)(FV:AAP)(D8:AAQ)(ER:AAS)(Em:AAL)(Bo CA:AAF)(Bq Cp:Int)(Bf:AAf):Option BK:=
 cond ((decide (t11<(b7.length:Int))))
  (if(0:Int)≤t11∧t11<(b7.length:Int)then(
  let x65:Int:=(b7.getD (t11.toNat) (0,[],false,())).1
  (Bu x65).bind fun u66=>
  cond (u66.1.1==Cp)
   ((Ep x65).bind fun u67=>
   cond ((decide (u67.1.1≤(Bf.length:Int))))
    ((Ep x65).bind fun u69=>
    if(0:Int)≤AX (u69.1.1-1)∧AX (u69.1.1-1)<(Bf.length:Int)then(
    cond (((Bf.getD ((AX (u69.1.1-1)).toNat) ([],[],false,())).2.2.1))
     (if(0:Int)≤t11∧t11<(b7.length:Int)then(
     bn t1 t6 (AX (t11+1)) t47 t49 t50 b0 b1 b2 b3 b4 b5 b6 (b7.set (t11.toNat) ((b7.getD (t11.toNat) (0,[],false,())).1,(b7.getD (t11.toNat) (0,[],false,())).2.1,true,())) CR Ca BV DV Dw CE MF F6 Db Fg FV D8 ER Em Bo CA Bq Cp Bf)else none)
    (bn t1 t6 (AX (t11+1)) t47 t49 t50 b0 b1 b2 b3 b4 b5 b6 b7 CR Ca BV DV Dw CE MF F6 Db Fg FV D8 ER Em Bo CA Bq Cp Bf))else none)
   (bn t1 t6 (AX (t11+1)) t47 t49 t50 b0 b1 b2 b3 b4 b5 b6 b7 CR Ca BV DV Dw CE MF F6 Db Fg FV D8 ER Em Bo CA Bq Cp Bf))
  (bn t1 t6 (AX (t11+1)) t47 t49 t50 b0 b1 b2 b3 b4 b5 b6 b7 CR Ca BV DV Dw CE MF F6 Db Fg FV D8 ER Em Bo CA Bq Cp Bf))else none)
 (R3 t1 (AX (t6+1)) b0 b1 b2 b3 b4 b5 b6 b7 CR Ca BV DV Dw CE MF F6 Db Fg FV D8 ER Em Bo CA Bq)
def Hu(R3:Fo)(R8:Fj)(bn:Ey)(R21:Er)(zK:Ew)(t1 t13:Int)(b0:AAD)(b1:AAH)(b2:AAD)(b3:AAG)(b4:AAP)(b5:AAQ)(b6:AAS)(b7:AAL)(CR Ca:Int)(BV:Bool)(DV Dw:Int)(CE:Bool)(MF:AAD)(F6:AAH)(Db:AAD)(Fg:AAG)(FV:AAP)(D8:AAQ)(ER:AAS)(Em:AAL)(Bo CA:AAF)(Bq:Int):Option BK:=
 cond ((decide (t13<(b5.length:Int))))
  (if(0:Int)≤t13∧t13<(b5.length:Int)then(
  zK t1 t13 1 b0 b1 b2 b3 b4 b5 b6 b7 CR Ca BV DV Dw CE MF F6 Db Fg FV D8 ER Em Bo CA Bq ((b5.getD (t13.toNat) (0,0,[],[],false,[],())).1) ((b5.getD (t13.toNat) (0,0,[],[],false,[],())).2.1) ((b5.getD (t13.toNat) (0,0,[],[],false,[],())).2.2.1) ((b5.getD (t13.toNat) (0,0,[],[],false,[],())).2.2.2.1) ((b5.getD (t13.toNat) (0,0,[],[],false,[],())).2.2.2.2.1) ((b5.getD (t13.toNat) (0,0,[],[],false,[],())).2.2.2.2.2.1))else none)
 (some ((((),CR,(),(),(),Ca,(),(),(),(),BV,()),()),(b0,b1,b2,b3,b4,b5,b6,b7,())))
def Fu(R3:Fo)(R8:Fj)(bn:Ey)(R21:Er)(zK:Ew)(t1 t13 t15:Int)(b0:AAD)(b1:AAH)(b2:AAD)(b3:AAG)(b4:AAP)(b5:AAQ)(b6:AAS)(b7:AAL)(CR Ca:Int)(BV:Bool)(DV Dw:Int)(CE:Bool)(MF:AAD)(F6:AAH)(Db:AAD)(Fg:AAG)(FV:AAP)(D8:AAQ)(ER:AAS)(Em:AAL)(Bo CA:AAF)(Bq Cp Bf:Int)(Tz:AAD)(Tk:AAF)(Tg:Bool)(O6:List AAD):Option BK:=
 if(0:Int)≤t13∧t13<(b5.length:Int)then(
 cond (decide (t15≤(((b5.getD (t13.toNat) (0,0,[],[],false,[],())).2.2.2.2.2.1).length:Int)))
  ((Bm (b3,Ca,()) Bf).bind fun u74=>
  (B6 u74.2.1 t1).bind fun u75=>
  cond (u75.1.1)
   ((DC (Cp,Bf,Tz,Tk,Tg,O6,()) t15).bind fun qk=>
   (Eo Bo qk.1.1.1.1).bind fun qu=>
   cond (qu.1.1.2.1)
    (cond (((qu.1.1.1.1==qk.1.1.1.1)&&((qu.1.1.1.2.1==qk.1.1.1.2.1)&&((qu.1.1.1.2.2.1==qk.1.1.1.2.2.1)&&((qu.1.1.1.2.2.2.1==qk.1.1.1.2.2.2.1)&&true)))))
     ((Cr (b0,CR,()) (Cp,Bf,Tz,Tk,Tg,O6,()) t15 t1).bind fun oh=>
     zK t1 t13 (AX (t15+1)) b0 b1 b2 b3 b4 b5 b6 b7 CR Ca BV DV Dw CE MF F6 Db Fg FV D8 ER Em Bo CA Bq oh.1.1.1.1 oh.1.1.1.2.1 oh.2.1 oh.2.2.1 oh.1.1.1.2.2.2.2.1 oh.2.2.2.1)
    (zK t1 t13 (AX (t15+1)) b0 b1 b2 b3 b4 b5 b6 b7 CR Ca BV DV Dw CE MF F6 Db Fg FV D8 ER Em Bo CA Bq Cp Bf Tz Tk Tg O6))
   (zK t1 t13 (AX (t15+1)) b0 b1 b2 b3 b4 b5 b6 b7 CR Ca BV DV Dw CE MF F6 Db Fg FV D8 ER Em Bo CA Bq Cp Bf Tz Tk Tg O6))
  (if(0:Int)≤t13∧t13<(b5.length:Int)then(
  R21 t1 (AX (t13+1)) b0 b1 b2 b3 b4 (b5.set (t13.toNat) (Cp,Bf,Tz,Tk,Tg,O6,())) b6 b7 CR Ca BV DV Dw CE MF F6 Db Fg FV D8 ER Em Bo CA Bq)else none))
 (if(0:Int)≤t13∧t13<(b5.length:Int)then(
 R21 t1 (AX (t13+1)) b0 b1 b2 b3 b4 (b5.set (t13.toNat) (Cp,Bf,Tz,Tk,Tg,O6,())) b6 b7 CR Ca BV DV Dw CE MF F6 Db Fg FV D8 ER Em Bo CA Bq)else none))else none
mutual
def A5:Nat→Fo
 |0=>fun _ _ _ _ _ _ _ _ _ _ _ _ _ _ _ _ _ _ _ _ _ _ _ _ _ _ _=>none
 |n+1=>Iw (A5 n) (Ai n) (Ak n) (A_ n) (Az n)
def Ai:Nat→Fj
 |0=>fun _ _ _ _ _ _ _ _ _ _ _ _ _ _ _ _ _ _ _ _ _ _ _ _ _ _ _ _ _ _ _ _ _=>none
 |n+1=>Ir (A5 n) (Ai n) (Ak n) (A_ n) (Az n)
def Ak:Nat→Ey
 |0=>fun _ _ _ _ _ _ _ _ _ _ _ _ _ _ _ _ _ _ _ _ _ _ _ _ _ _ _ _ _ _ _ _ _=>none
 |n+1=>Ht (A5 n) (Ai n) (Ak n) (A_ n) (Az n)
def A_:Nat→Er
 |0=>fun _ _ _ _ _ _ _ _ _ _ _ _ _ _ _ _ _ _ _ _ _ _ _ _ _ _ _=>none
 |n+1=>Hu (A5 n) (Ai n) (Ak n) (A_ n) (Az n)
def Az:Nat→Ew
 |0=>fun _ _ _ _ _ _ _ _ _ _ _ _ _ _ _ _ _ _ _ _ _ _ _ _ _ _ _ _ _ _ _ _ _ _=>none
 |n+1=>Fu (A5 n) (Ai n) (Ak n) (A_ n) (Az n)
end
def Ly(R3:Fo)(R8:Fj)(bn:Ey)(R21:Er)(zK:Ew)(BU Ba:Int)(Au:Bool)(p1:Int)(b0:AAD)(b1:AAH)(b2:AAD)(b3:AAG)(b4:AAP)(b5:AAQ)(b6:AAS)(b7:AAL):Option BK:=
 if(0:Int)≤p1∧p1<(b1.length:Int)then(
 R3 p1 0 b0 b1 b2 b3 b4 b5 b6 b7 BU Ba Au 0 0 false [] [] [] [] [] [] [] [] ((b1.getD (p1.toNat) ([],[],0,())).1) ((b1.getD (p1.toNat) ([],[],0,())).2.1) ((b1.getD (p1.toNat) ([],[],0,())).2.2.1))else none
def QQ(BU Ba:Int)(Au:Bool)(p1:Int)(b0:AAD)(b1:AAH)(b2:AAD)(b3:AAG)(b4:AAP)(b5:AAQ)(b6:AAS)(b7:AAL):Option BK:=Ly (A5 Ac) (Ai Ac) (Ak Ac) (A_ Ac) (Az Ac) BU Ba Au p1 b0 b1 b2 b3 b4 b5 b6 b7
abbrev eY:Type:=ABS×ACH
def QR(BU Ba:Int)(Au:Bool)(p1:AAt)(b0:AAD)(b1:AAH)(b2:AAD)(b3:AAG)(b4:AAP)(b5:AAQ)(b6:AAS)(b7:AAL):Option eY:=
 (E5 (b0,BU,b1,b2,b3,Ba,b4,b5,b6,b7,Au,()) p1.2.1).bind fun u1=>
 cond (u1.1.1 !=0)
  (some (((((),BU,(),(),(),Ba,(),(),(),(),Au,()),u1.1.1,()),()),(b0,b1,b2,b3,b4,b5,b6,b7,())))
 (if(0:Int)≤p1.2.1∧p1.2.1<(b1.length:Int)then(
 (Gn ((b1.getD (p1.2.1.toNat) ([],[],0,())).1,(b1.getD (p1.2.1.toNat) ([],[],0,())).2.1,(b1.getD (p1.2.1.toNat) ([],[],0,())).2.2.1,())).bind fun u2=>
 cond (!u2.1.1.2.1)
  (some (((((),BU,(),(),(),Ba,(),(),(),(),Au,()),4,()),()),(b0,b1,b2,b3,b4,b5,b6,b7,())))
 (if(0:Int)≤p1.2.1∧p1.2.1<(b1.length:Int)then(
 (QQ BU Ba Au p1.2.1 b0 (b1.set (p1.2.1.toNat) (u2.2.1,u2.2.2.1,u2.1.1.1.2.2.1,())) b2 b3 b4 b5 b6 b7).bind fun u4=>
 some (((((),u4.1.1.2.1,(),(),(),u4.1.1.2.2.2.2.2.1,(),(),(),(),u4.1.1.2.2.2.2.2.2.2.2.2.2.1,()),0,()),()),(u4.2.1,u4.2.2.1,u4.2.2.2.1,u4.2.2.2.2.1,u4.2.2.2.2.2.1,u4.2.2.2.2.2.2.1,u4.2.2.2.2.2.2.2.1,u4.2.2.2.2.2.2.2.2.1,())))else none))else none)
abbrev Om:Type:=AAu×AAv
abbrev RE:Type:=List Int→List Int→Int→List Int→Option Om
def Rz(R3:RE)(t0 t1:AAD)(t6:Int)(b0:AAD):Option Om:=
 cond ((decide (t6<(t0.length:Int))))
  (if(0:Int)≤t6∧t6<(t0.length:Int)then(
  (B6 t1 (t0.getD (t6.toNat) 0)).bind fun u3=>
  cond (!u3.1.1)
   (if(0:Int)≤t6∧t6<(t0.length:Int)then(
   if b0.length+1≤DE then(
   R3 t0 t1 (AX (t6+1)) (b0++[(t0.getD (t6.toNat) 0)]))else none)else none)
  (R3 t0 t1 (AX (t6+1)) b0))else none)
 (some (((),()),(b0,())))
def J0:Nat→RE
 |0=>fun _ _ _ _=>none
 |n+1=>Rz (J0 n)
def Sj(R3:RE)(p0 p1:AAD):Option Om:=
 R3 p0 p1 0 []
def GK(p0 p1:AAD):Option Om:=Sj (J0 Ac) p0 p1
abbrev Hz:Type:=AFP×AE8
abbrev J8:Type:=Int→Int→Int→AAf→Int→AAf→Option Hz
def MG(R5:J8)(t2 t9 AH:Int)(b1:AAf)(Ix:Int)(b3:AAf):Option Hz:=
 cond ((decide (t9<(b3.length:Int))))
  (if(0:Int)≤t9∧t9<(b3.length:Int)then(
  cond (!((b3.getD (t9.toNat) ([],[],false,())).2.2.1))
   (if(0:Int)≤t9∧t9<(b3.length:Int)then(
   (GK ((b3.getD (t9.toNat) ([],[],false,())).2.1) [t2]).bind fun u5=>
   if(0:Int)≤t9∧t9<(b3.length:Int)then(
   R5 t2 (AX (t9+1)) AH b1 Ix (b3.set (t9.toNat) ((b3.getD (t9.toNat) ([],[],false,())).1,u5.2.1,(b3.getD (t9.toNat) ([],[],false,())).2.2.1,())))else none)else none)
  (R5 t2 (AX (t9+1)) AH b1 Ix b3))else none)
 (some ((((Ix,(),()),true,()),()),(b3,())))
def FG:Nat→J8
 |0=>fun _ _ _ _ _ _=>none
 |n+1=>MG (FG n)
def MN(R5:J8)(p0:AAT)(p1:AAn)(p2:Int):Option Hz:=
 (E9 (p0.1,p0.2.1,()) (p1.1,p1.2.1,())).bind fun u1=>
 cond (!u1.1.1)
  (some ((((0,(),()),false,()),()),([],())))
 ((Cj (p1.1,p1.2.1,())).bind fun u2=>
 R5 p2 0 0 [] u2.1.1.1 u2.2.1)
def Jn(p0:AAT)(p1:AAn)(p2:Int):Option Hz:=MN (FG Ac) p0 p1 p2
abbrev Jr:Type:=AEG×ADq
abbrev Lq:Type:=Int→Int→Int→Int→Bool→List Int→AAF→List AAD→Int→Int→Bool→List Int→AAF→List AAD→Option Jr
def Nq(R5:Lq)(t2 t9 AH AL:Int)(FK:Bool)(b1:AAD)(b2:AAF)(b3:List AAD)(kb fT:Int)(AFv:Bool)(b5:AAD)(b6:AAF)(b7:List AAD):Option Jr:=
 cond ((decide (t9<(b7.length:Int))))
  (if(0:Int)≤t9∧t9<(b7.length:Int)then(
  (GK (b7.getD (t9.toNat) []) [t2]).bind fun u4=>
  if(0:Int)≤t9∧t9<(b7.length:Int)then(
  R5 t2 (AX (t9+1)) AH AL FK b1 b2 b3 kb fT AFv b5 b6 (b7.set (t9.toNat) u4.2.1))else none)else none)
 (some ((((kb,fT,(),(),AFv,(),()),true,()),()),(b5,b6,b7,())))
def Gc:Nat→Lq
 |0=>fun _ _ _ _ _ _ _ _ _ _ _ _ _ _=>none
 |n+1=>Nq (Gc n)
def Ns(R5:Lq)(p0:AAT)(p1:AAY)(p2:Int):Option Jr:=
 (GG (p0.1,p0.2.1,()) (p1.1,p1.2.1,p1.2.2.1,p1.2.2.2.1,p1.2.2.2.2.1,p1.2.2.2.2.2.1,())).bind fun u1=>
 cond (!u1.1.1)
  (some ((((0,0,(),(),false,(),()),false,()),()),([],[],[],())))
 ((Ck (p1.1,p1.2.1,p1.2.2.1,p1.2.2.2.1,p1.2.2.2.2.1,p1.2.2.2.2.2.1,())).bind fun u2=>
 R5 p2 0 0 0 false [] [] [] u2.1.1.1 u2.1.1.2.1 u2.1.1.2.2.2.2.1 u2.2.1 u2.2.2.1 u2.2.2.2.1)
def Lf(p0:AAT)(p1:AAY)(p2:Int):Option Jr:=Ns (Gc Ac) p0 p1 p2
abbrev Gd:Type:=ABS×AFT
abbrev LZ:Type:=Int→List Int→AAH→List Int→AAG→AAP→AAQ→AAS→AAL→Int→Int→Bool→List Int→Int→Int→Int→Int→List UInt8→Int→Int→Bool→List Int→AAH→List Int→AAG→AAP→AAQ→AAS→AAL→Option Gd
abbrev Ks:Type:=Int→List Int→AAH→List Int→AAG→AAP→AAQ→AAS→AAL→Int→Int→Bool→List Int→Int→Int→Int→Int→List UInt8→Int→Int→Bool→List Int→AAH→List Int→AAG→AAP→AAQ→AAS→AAL→Option Gd
def Rk(R7:LZ)(gJ:Ks)(t7:Int)(b0:AAD)(b1:AAH)(b2:AAD)(b3:AAG)(b4:AAP)(b5:AAQ)(b6:AAS)(b7:AAL)(CR Ca:Int)(BV:Bool)(b9:AAD)(m9 Da mV nD:Int)(mc:AAg)(mz my:Int)(il:Bool)(Db:AAD)(Fg:AAH)(FV:AAD)(D8:AAG)(ER:AAP)(Em:AAQ)(T0:AAS)(jB:AAL):Option Gd:=
 cond ((decide (t7<(b4.length:Int))))
  (if(0:Int)≤t7∧t7<(b4.length:Int)then(
  (Jn (b0,CR,()) ((b4.getD (t7.toNat) (0,[],())).1,(b4.getD (t7.toNat) (0,[],())).2.1,()) Da).bind fun u5=>
  if(0:Int)≤t7∧t7<(b4.length:Int)then(
  R7 (AX (t7+1)) b0 b1 b2 b3 (b4.set (t7.toNat) (u5.1.1.1.1,u5.2.1,())) b5 b6 b7 CR Ca BV b9 m9 Da mV nD mc mz my il Db Fg FV D8 ER Em T0 jB)else none)else none)
 (gJ 0 b0 b1 b2 b3 b4 b5 b6 b7 CR Ca BV b9 m9 Da mV nD mc mz my il Db Fg FV D8 ER Em T0 jB)
def P5(R7:LZ)(gJ:Ks)(t8:Int)(b0:AAD)(b1:AAH)(b2:AAD)(b3:AAG)(b4:AAP)(b5:AAQ)(b6:AAS)(b7:AAL)(CR Ca:Int)(BV:Bool)(b9:AAD)(m9 Da mV nD:Int)(mc:AAg)(mz my:Int)(il:Bool)(Db:AAD)(Fg:AAH)(FV:AAD)(D8:AAG)(ER:AAP)(Em:AAQ)(T0:AAS)(jB:AAL):Option Gd:=
 cond ((decide (t8<(b5.length:Int))))
  (if(0:Int)≤t8∧t8<(b5.length:Int)then(
  (Lf (b0,CR,()) ((b5.getD (t8.toNat) (0,0,[],[],false,[],())).1,(b5.getD (t8.toNat) (0,0,[],[],false,[],())).2.1,(b5.getD (t8.toNat) (0,0,[],[],false,[],())).2.2.1,(b5.getD (t8.toNat) (0,0,[],[],false,[],())).2.2.2.1,(b5.getD (t8.toNat) (0,0,[],[],false,[],())).2.2.2.2.1,(b5.getD (t8.toNat) (0,0,[],[],false,[],())).2.2.2.2.2.1,()) Da).bind fun u8=>
  if(0:Int)≤t8∧t8<(b5.length:Int)then(
  gJ (AX (t8+1)) b0 b1 b2 b3 b4 (b5.set (t8.toNat) (u8.1.1.1.1,u8.1.1.1.2.1,u8.2.1,u8.2.2.1,u8.1.1.1.2.2.2.2.1,u8.2.2.2.1,())) b6 b7 CR Ca BV b9 m9 Da mV nD mc mz my il Db Fg FV D8 ER Em T0 jB)else none)else none)
 (cond (BV)
  (some (((((),CR,(),(),(),Ca,(),(),(),(),true,()),0,()),()),(b0,b1,(),b3,b4,b5,b6,b7,b9,())))
 ((C_ (b0,CR,()) b9).bind fun HW=>
 some (((((),CR,(),(),(),Ca,(),(),(),(),HW.1.1,()),0,()),()),(b0,b1,(),b3,b4,b5,b6,b7,b9,()))))
mutual
def HH:Nat→LZ
 |0=>fun _ _ _ _ _ _ _ _ _ _ _ _ _ _ _ _ _ _ _ _ _ _ _ _ _ _ _ _ _=>none
 |n+1=>Rk (HH n) (GS n)
def GS:Nat→Ks
 |0=>fun _ _ _ _ _ _ _ _ _ _ _ _ _ _ _ _ _ _ _ _ _ _ _ _ _ _ _ _ _=>none
 |n+1=>P5 (HH n) (GS n)
end
def Q4(R7:LZ)(gJ:Ks)(BU Ba:Int)(Au:Bool)(p1:AAt)(b0:AAD)(b1:AAH)(b2:AAD)(b3:AAG)(b4:AAP)(b5:AAQ)(b6:AAS)(b7:AAL):Option Gd:=
 (E5 (b0,BU,b1,b2,b3,Ba,b4,b5,b6,b7,Au,()) p1.2.1).bind fun u1=>
 cond (u1.1.1 !=0)
  (some (((((),BU,(),(),(),Ba,(),(),(),(),Au,()),u1.1.1,()),()),(b0,b1,(),b3,b4,b5,b6,b7,b2,())))
 (if(0:Int)≤p1.2.1∧p1.2.1<(b1.length:Int)then(
 (Fp b2 p1.2.1).bind fun u3=>
 R7 0 b0 (b1.set (p1.2.1.toNat) ([],[],0,())) b2 b3 b4 b5 b6 b7 BU Ba Au u3.2.1 p1.1 p1.2.1 p1.2.2.1 p1.2.2.2.1 p1.2.2.2.2.1 0 0 false [] [] [] [] [] [] [] [])else none)
def Qa(BU Ba:Int)(Au:Bool)(p1:AAt)(b0:AAD)(b1:AAH)(b2:AAD)(b3:AAG)(b4:AAP)(b5:AAQ)(b6:AAS)(b7:AAL):Option Gd:=Q4 (HH Ac) (GS Ac) BU Ba Au p1 b0 b1 b2 b3 b4 b5 b6 b7
abbrev fh:Type:=AAa×Unit
def Sd(p0:AAT)(p1:AAD):Option fh:=
 (EM (p0.1,p0.2.1,()) p1).bind fun u1=>
 cond (u1.1.1)
  ((C_ (p0.1,p0.2.1,()) p1).bind fun u2=>
  some ((!u2.1.1,()),()))
 (some ((false,()),()))
abbrev HI:Type:=AAu×AFO
abbrev Ky:Type:=AAH→Int→AAF→Option HI
abbrev Kj:Type:=AAH→Int→Int→AAF→Option HI
def Pv(R3:Ky)(R6:Kj)(t0:AAH)(t4:Int)(b0:AAF):Option HI:=
 cond ((decide (t4<(t0.length:Int))))
  (R6 t0 t4 0 b0)
 (some (((),()),(b0,())))
def Pq(R3:Ky)(R6:Kj)(t0:AAH)(t4 t5:Int)(b0:AAF):Option HI:=
 if(0:Int)≤t4∧t4<(t0.length:Int)then(
 cond (decide (t5<(((t0.getD (t4.toNat) ([],[],0,())).1).length:Int)))
  (if(0:Int)≤t4∧t4<(t0.length:Int)then(
  if(0:Int)≤t5∧t5<(((t0.getD (t4.toNat) ([],[],0,())).1).length:Int)then(
  (MA b0 ((((t0.getD (t4.toNat) ([],[],0,())).1).getD (t5.toNat) (0,0,false,[],())).1,(((t0.getD (t4.toNat) ([],[],0,())).1).getD (t5.toNat) (0,0,false,[],())).2.1,(((t0.getD (t4.toNat) ([],[],0,())).1).getD (t5.toNat) (0,0,false,[],())).2.2.1,(((t0.getD (t4.toNat) ([],[],0,())).1).getD (t5.toNat) (0,0,false,[],())).2.2.2.1,())).bind fun u3=>
  R6 t0 t4 (AX (t5+1)) u3.2.1)else none)else none)
 (R3 t0 (AX (t4+1)) b0))else none
mutual
def GV:Nat→Ky
 |0=>fun _ _ _=>none
 |n+1=>Pv (GV n) (GO n)
def GO:Nat→Kj
 |0=>fun _ _ _ _=>none
 |n+1=>Pq (GV n) (GO n)
end
def Wc(R3:Ky)(R6:Kj)(p0:AAH):Option HI:=
 R3 p0 0 []
def TW(p0:AAH):Option HI:=Wc (GV Ac) (GO Ac) p0
abbrev KV:Type:=ADF×(AAH×AAF×AAF×Unit)
abbrev Qd:Type:=List Int→Int→Int→AAH→Int→AAF→AAF→Int→AAF→AAF→AAH→Option KV
abbrev Ob:Type:=Int→Int→AAH→Int→AAF→AAF→Int→AAF→AAF→AAH→Option KV
def VG(R6:Qd)(gJ:Ob)(t2:AAD)(t4 t14:Int)(b0:AAH)(Dk:Int)(b2 b3:AAF)(J_:Int)(b5 b6:AAF)(b7:AAH):Option KV:=
 cond ((decide (t14<(b0.length:Int))))
  ((B6 t2 t14).bind fun u6=>
  cond (!u6.1.1)
   (if(0:Int)≤t14∧t14<(b0.length:Int)then(
   if b7.length+1≤DE then(
   R6 t2 t4 (AX (t14+1)) b0 Dk b2 b3 J_ b5 b6 (b7++[((b0.getD (t14.toNat) ([],[],0,())).1,(b0.getD (t14.toNat) ([],[],0,())).2.1,(b0.getD (t14.toNat) ([],[],0,())).2.2.1,())]))else none)else none)
  (R6 t2 t4 (AX (t14+1)) b0 Dk b2 b3 J_ b5 b6 b7))
 (gJ t4 0 b0 Dk b2 b3 J_ b5 b6 b7)
def Tb(R6:Qd)(gJ:Ob)(t4 t15:Int)(b0:AAH)(Dk:Int)(b2 b3:AAF)(J_:Int)(b5 b6:AAF)(b7:AAH):Option KV:=
 cond ((decide (t15<(b7.length:Int))))
  (if(0:Int)≤t15∧t15<(b7.length:Int)then(
  (EO ((b7.getD (t15.toNat) ([],[],0,())).1,(b7.getD (t15.toNat) ([],[],0,())).2.1,(b7.getD (t15.toNat) ([],[],0,())).2.2.1,())).bind fun u9=>
  cond (!u9.1.1)
   (some (((((),(),J_,()),false,()),()),(b0,b5,b6,())))
  (gJ t4 (AX (t15+1)) b0 Dk b2 b3 J_ b5 b6 b7))else none)
 ((TW b7).bind fun HW=>
 (EO (HW.2.1,[],t4,())).bind fun Qo=>
 cond (!Qo.1.1)
  (some (((((),(),J_,()),false,()),()),(b0,b5,b6,())))
 (some (((((),(),t4,()),true,()),()),(b0,HW.2.1,[],()))))
mutual
def Kl:Nat→Qd
 |0=>fun _ _ _ _ _ _ _ _ _ _ _=>none
 |n+1=>VG (Kl n) (JT n)
def JT:Nat→Ob
 |0=>fun _ _ _ _ _ _ _ _ _ _=>none
 |n+1=>Tb (Kl n) (JT n)
end
def U9(R6:Qd)(gJ:Ob)(p0:AAT)(p2:AAD)(p3 p4:Int)(b0:AAH):Option KV:=
 (EH (p0.1,p0.2.1,())).bind fun u1=>
 cond (!u1.1.1)
  (some (((((),(),0,()),false,()),()),(b0,[],[],())))
 (cond (((b0.length:Int) !=(p0.1.length:Int)))
  (some (((((),(),0,()),false,()),()),(b0,[],[],())))
 ((Sd (p0.1,p0.2.1,()) p2).bind fun u3=>
 cond (!u3.1.1)
  (some (((((),(),0,()),false,()),()),(b0,[],[],())))
 ((B6 p2 p3).bind fun u4=>
 cond (!u4.1.1)
  (some (((((),(),0,()),false,()),()),(b0,[],[],())))
 (R6 p2 p4 0 b0 0 [] [] 0 [] [] []))))
def WM(p0:AAT)(p2:AAD)(p3 p4:Int)(b0:AAH):Option KV:=U9 (Kl Ac) (JT Ac) p0 p2 p3 p4 b0
abbrev eU:Type:=ABS×AFT
def QU(BU Ba:Int)(Au:Bool)(p1:AAt)(b0:AAD)(b1:AAH)(b2:AAD)(b3:AAG)(b4:AAP)(b5:AAQ)(b6:AAS)(b7:AAL):Option eU:=
 (B6 b2 p1.2.1).bind fun u1=>
 cond (!u1.1.1)
  (some (((((),BU,(),(),(),Ba,(),(),(),(),Au,()),2,()),()),(b0,b1,(),b3,b4,b5,b6,b7,b2,())))
 ((DR (AX ((b3.length:Int)-1)) 0).bind fun u3=>
 (WM (b0,BU,()) b2 p1.2.1 u3.1.1 b1).bind fun u4=>
 cond (!u4.1.1.2.1)
  (some (((((),BU,(),(),(),Ba,(),(),(),(),Au,()),4,()),()),(b0,u4.2.1,(),b3,b4,b5,b6,b7,b2,())))
 (if(0:Int)≤p1.2.1∧p1.2.1<(u4.2.1.length:Int)then(
 (GK b2 [p1.2.1]).bind fun u6=>
 some (((((),BU,(),(),(),Ba,(),(),(),(),Au,()),0,()),()),(b0,(u4.2.1.set (p1.2.1.toNat) (u4.2.2.1,u4.2.2.2.1,u4.1.1.1.2.2.1,())),(),b3,b4,b5,b6,b7,u6.2.1,())))else none))
abbrev H3:Type:=ADd×ADq
def Iu(p0 p1:Int):Option H3:=
 some (((p1,p0,(),(),false,(),()),()),([],[],[],()))
abbrev VX:Type:=ABS×(List Int×AAH×List Int×AAG×AAP×Unit×AAS×AAL×AAQ×Unit)
def QC(BU Ba:Int)(Au:Bool)(b0:AAD)(b1:AAH)(b2:AAD)(b3:AAG)(b4:AAP)(b5:AAQ)(b6:AAS)(b7:AAL):Option VX:=
 (Gi (b3,Ba,())).bind fun u1=>
 cond ((decide ((b3.length:Int)<2)))
  (some (((((),BU,(),(),(),Ba,(),(),(),(),Au,()),2,()),()),(b0,b1,b2,b3,b4,(),b6,b7,b5,())))
 (cond ((u1.1.1==(b3.length:Int)))
  (some (((((),BU,(),(),(),Ba,(),(),(),(),Au,()),2,()),()),(b0,b1,b2,b3,b4,(),b6,b7,b5,())))
 (cond ((decide ((b5.length:Int)>0)))
  (some (((((),BU,(),(),(),Ba,(),(),(),(),Au,()),4,()),()),(b0,b1,b2,b3,b4,(),b6,b7,b5,())))
 ((Iu u1.1.1 (b3.length:Int)).bind fun u5=>
 some (((((),BU,(),(),(),Ba,(),(),(),(),Au,()),0,()),()),(b0,b1,b2,b3,b4,(),b6,b7,[(u5.1.1.1,u5.1.1.2.1,u5.2.1,u5.2.2.1,u5.1.1.2.2.2.2.1,u5.2.2.2.1,())],())))))
abbrev Zj:Type:=ADF×ADX
def KU(p0:AAq)(p1:Int):Option Zj:=
 (EO (p0.1,p0.2.1,p0.2.2.1,())).bind fun u1=>
 cond (!u1.1.1)
  (some (((((),(),0,()),false,()),()),([],[],())))
 ((Gn (p0.1,p0.2.1,p0.2.2.1,())).bind fun u2=>
 cond (!u2.1.1.2.1)
  ((C4 (p0.1,p0.2.1,p0.2.2.1,())).bind fun u3=>
  some (((((),(),u3.1.1.2.2.1,()),false,()),()),(u3.2.1,u3.2.2.1,())))
 ((BR p1 0 30).bind fun u4=>
 cond (!u4.1.1)
  ((C4 (p0.1,p0.2.1,p0.2.2.1,())).bind fun u5=>
  some (((((),(),u5.1.1.2.2.1,()),false,()),()),(u5.2.1,u5.2.2.1,())))
 ((DR u2.1.1.1.2.2.1 p1).bind fun u6=>
 some (((((),(),u6.1.1,()),true,()),()),(u2.2.1,u2.2.2.1,())))))
abbrev Dm:Type:=AAu×AFO
abbrev OE:Type:=Int→Int→AAF→AAF→Int→AAF→Option Dm
def K9(R3:OE)(t1 t6:Int)(AH AL:AAF)(AU:Int)(b1:AAF):Option Dm:=
 cond ((decide (t6<(AH.length:Int))))
  ((EO (AH,AL,AU,())).bind fun u2=>
  cond (u2.1.1)
   (if(0:Int)≤t6∧t6<(AH.length:Int)then(
   (Bu ((AH.getD (t6.toNat) (0,0,false,[],())).1)).bind fun u4=>
   cond (u4.1.1==t1)
    (if(0:Int)≤t6∧t6<(AH.length:Int)then(
    if b1.length+1≤DE then(
    R3 t1 (AX (t6+1)) AH AL AU (b1++[((AH.getD (t6.toNat) (0,0,false,[],())).1,(AH.getD (t6.toNat) (0,0,false,[],())).2.1,(AH.getD (t6.toNat) (0,0,false,[],())).2.2.1,(AH.getD (t6.toNat) (0,0,false,[],())).2.2.2.1,())]))else none)else none)
   (R3 t1 (AX (t6+1)) AH AL AU b1))else none)
  (some (((),()),(b1,()))))
 (some (((),()),(b1,())))
def GW:Nat→OE
 |0=>fun _ _ _ _ _ _=>none
 |n+1=>K9 (GW n)
def Pw(R3:OE)(p0:AAq)(p1:Int):Option Dm:=
 R3 p1 0 p0.1 p0.2.1 p0.2.2.1 []
def GF(p0:AAq)(p1:Int):Option Dm:=Pw (GW Ac) p0 p1
abbrev Dn:Type:=AEG×ADq
abbrev OA:Type:=AAF→Int→List Int→Int→Int→Int→List Int→AAF→Bool→List AAD→Int→Int→Bool→List Int→AAF→List AAD→Int→Int→Bool→List Int→AAF→List AAD→Option Dn
def P2(R6:OA)(t3:AAF)(t11:Int)(AH:AAD)(AL A6 Aq:Int)(Dk:AAD)(JI:AAF)(Nj:Bool)(Ds:List AAD)(Ix Je:Int)(MX:Bool)(b3:AAD)(b4:AAF)(b5:List AAD)(JW Ih:Int)(JZ:Bool)(b7:AAD)(b8:AAF)(b9:List AAD):Option Dn:=
 cond ((decide (t11<(t3.length:Int))))
  (if(0:Int)≤t11∧t11<(t3.length:Int)then(
  (Bu ((t3.getD (t11.toNat) (0,0,false,[],())).1)).bind fun u6=>
  cond (u6.1.1==Aq)
   (if(0:Int)≤t11∧t11<(t3.length:Int)then(
   (MA b8 ((t3.getD (t11.toNat) (0,0,false,[],())).1,(t3.getD (t11.toNat) (0,0,false,[],())).2.1,(t3.getD (t11.toNat) (0,0,false,[],())).2.2.1,(t3.getD (t11.toNat) (0,0,false,[],())).2.2.2.1,())).bind fun u7=>
   R6 t3 (AX (t11+1)) AH AL A6 Aq Dk JI Nj Ds Ix Je MX b3 b4 b5 JW Ih JZ b7 u7.2.1 b9)else none)
  (R6 t3 (AX (t11+1)) AH AL A6 Aq Dk JI Nj Ds Ix Je MX b3 b4 b5 JW Ih JZ b7 b8 b9))else none)
 (cond (Nj)
  ((Ck (A6,Aq,Dk,JI,Nj,Ds,())).bind fun u8=>
  some ((((u8.1.1.1,u8.1.1.2.1,(),(),u8.1.1.2.2.2.2.1,(),()),false,()),()),(u8.2.1,u8.2.2.1,u8.2.2.2.1,())))
 ((GG (AH,AL,()) (JW,Ih,b7,b8,JZ,b9,())).bind fun u9=>
 cond (!u9.1.1)
  ((Ck (A6,Aq,Dk,JI,Nj,Ds,())).bind fun HW=>
  some ((((HW.1.1.1,HW.1.1.2.1,(),(),HW.1.1.2.2.2.2.1,(),()),false,()),()),(HW.2.1,HW.2.2.1,HW.2.2.2.1,())))
 (some ((((JW,Ih,(),(),JZ,(),()),true,()),()),(b7,b8,b9,())))))
def H9:Nat→OA
 |0=>fun _ _ _ _ _ _ _ _ _ _ _ _ _ _ _ _ _ _ _ _ _ _=>none
 |n+1=>P2 (H9 n)
def P1(R6:OA)(p0:AAT)(p1:AAY)(p2:Int)(p3:AAF):Option Dn:=
 (GG (p0.1,p0.2.1,()) (p1.1,p1.2.1,p1.2.2.1,p1.2.2.2.1,p1.2.2.2.2.1,p1.2.2.2.2.2.1,())).bind fun u1=>
 cond (!u1.1.1)
  (some ((((0,0,(),(),false,(),()),false,()),()),([],[],[],())))
 ((Ck (p1.1,p1.2.1,p1.2.2.1,p1.2.2.2.1,p1.2.2.2.2.1,p1.2.2.2.2.2.1,())).bind fun u2=>
 (Fp u2.2.1 p2).bind fun u3=>
 R6 p3 0 p0.1 p0.2.1 p1.1 p1.2.1 p1.2.2.1 p1.2.2.2.1 p1.2.2.2.2.1 p1.2.2.2.2.2.1 0 0 false [] [] [] u2.1.1.1 u2.1.1.2.1 u2.1.1.2.2.2.2.1 u3.2.1 u2.2.2.1 u2.2.2.2.1)
def GC(p0:AAT)(p1:AAY)(p2:Int)(p3:AAF):Option Dn:=P1 (H9 Ac) p0 p1 p2 p3
abbrev cq:Type:=ABS×ACH
def QS(BU Ba:Int)(Au:Bool)(p1:AAt)(b0:AAD)(b1:AAH)(b2:AAD)(b3:AAG)(b4:AAP)(b5:AAQ)(b6:AAS)(b7:AAL):Option cq:=
 cond (((b5.length:Int)==0))
  (some (((((),BU,(),(),(),Ba,(),(),(),(),Au,()),2,()),()),(b0,b1,b2,b3,b4,b5,b6,b7,())))
 (if(0:Int)≤(0:Int)∧(0:Int)<(b5.length:Int)then(
 (E5 (b0,BU,b1,b2,b3,Ba,b4,b5,b6,b7,Au,()) p1.2.1).bind fun u2=>
 cond (u2.1.1 !=0)
  (some (((((),BU,(),(),(),Ba,(),(),(),(),Au,()),u2.1.1,()),()),(b0,b1,b2,b3,b4,b5,b6,b7,())))
 ((Bm (b3,Ba,()) ((b5.getD 0 (0,0,[],[],false,[],())).2.1)).bind fun u4=>
 (B6 u4.2.1 p1.2.1).bind fun u5=>
 cond (!u5.1.1)
  (some (((((),BU,(),(),(),Ba,(),(),(),(),Au,()),2,()),()),(b0,b1,b2,b3,b4,b5,b6,b7,())))
 (if(0:Int)≤p1.2.1∧p1.2.1<(b1.length:Int)then(
 (KU ((b1.getD (p1.2.1.toNat) ([],[],0,())).1,(b1.getD (p1.2.1.toNat) ([],[],0,())).2.1,(b1.getD (p1.2.1.toNat) ([],[],0,())).2.2.1,()) (AX (((b5.getD 0 (0,0,[],[],false,[],())).1)-1))).bind fun u7=>
 (GF (u7.2.1,u7.2.2.1,u7.1.1.1.2.2.1,()) ((b5.getD 0 (0,0,[],[],false,[],())).2.1)).bind fun u9=>
 (GC (b0,BU,()) ((b5.getD 0 (0,0,[],[],false,[],())).1,(b5.getD 0 (0,0,[],[],false,[],())).2.1,(b5.getD 0 (0,0,[],[],false,[],())).2.2.1,(b5.getD 0 (0,0,[],[],false,[],())).2.2.2.1,(b5.getD 0 (0,0,[],[],false,[],())).2.2.2.2.1,(b5.getD 0 (0,0,[],[],false,[],())).2.2.2.2.2.1,()) p1.2.1 u9.2.1).bind fun HW=>
 cond (!u7.1.1.2.1)
  (some (((((),BU,(),(),(),Ba,(),(),(),(),Au,()),4,()),()),(b0,b1,b2,b3,b4,b5,b6,b7,())))
 (cond (!HW.1.1.2.1)
  (some (((((),BU,(),(),(),Ba,(),(),(),(),Au,()),4,()),()),(b0,b1,b2,b3,b4,b5,b6,b7,())))
 (if(0:Int)≤p1.2.1∧p1.2.1<(b1.length:Int)then(
 if(0:Int)≤(0:Int)∧(0:Int)<(b5.length:Int)then(
 some (((((),BU,(),(),(),Ba,(),(),(),(),Au,()),0,()),()),(b0,(b1.set (p1.2.1.toNat) (u7.2.1,u7.2.2.1,u7.1.1.1.2.2.1,())),b2,b3,b4,(b5.set 0 (HW.1.1.1.1,HW.1.1.1.2.1,HW.2.1,HW.2.2.1,HW.1.1.1.2.2.2.2.1,HW.2.2.2.1,())),b6,b7,())))else none)else none)))else none)))else none)
abbrev fa:Type:=AAu×AAv
def HU(p0 p1:AAD):Option fa:=
 (GK p0 p1).bind fun u1=>
 (GK p0 u1.2.1).bind fun u2=>
 some (((),()),(u2.2.1,()))
abbrev fV:Type:=AAa×Unit
def HM(p0:AAT)(p1 p2:AAD):Option fV:=
 (C_ (p0.1,p0.2.1,()) p1).bind fun u1=>
 cond (!u1.1.1)
  (some ((false,()),()))
 ((EM (p0.1,p0.2.1,()) p2).bind fun u2=>
 cond (!u2.1.1)
  (some ((false,()),()))
 ((GK p2 p1).bind fun u3=>
 cond (decide ((u3.2.1.length:Int)>0))
  (some ((false,()),()))
 ((GK p1 p2).bind fun u5=>
 (O8 (p0.1,p0.2.1,()) u5.2.1).bind fun u6=>
 some (((decide (u6.1.1<p0.2.1)),()),()))))
abbrev Di:Type:=AEG×ADq
abbrev Nw:Type:=Int→Int→Int→List Int→AAF→Bool→List AAD→Int→Int→Bool→List Int→AAF→List AAD→Int→Int→Bool→List Int→AAF→List AAD→Option Di
def P4(R8:Nw)(t9 AH AL:Int)(AU:AAD)(Df:AAF)(FK:Bool)(Eh:List AAD)(A6 Aq:Int)(Nj:Bool)(b2:AAD)(b3:AAF)(b4:List AAD)(rv sJ:Int)(pv:Bool)(b6:AAD)(b7:AAF)(b8:List AAD):Option Di:=
 (L6 (AH,AL,AU,Df,FK,Eh,())).bind fun u5=>
 cond (decide (t9<u5.1.1))
  (if b8.length+1≤DE then(
  R8 (AX (t9+1)) AH AL AU Df FK Eh A6 Aq Nj b2 b3 b4 rv sJ pv b6 b7 (b8++[[]]))else none)
 (some ((((rv,sJ,(),(),pv,(),()),true,()),()),(b6,b7,b8,())))
def IL:Nat→Nw
 |0=>fun _ _ _ _ _ _ _ _ _ _ _ _ _ _ _ _ _ _ _=>none
 |n+1=>P4 (IL n)
def Px(R8:Nw)(p0:AAT)(p1:AAY)(p2:AAD):Option Di:=
 (GG (p0.1,p0.2.1,()) (p1.1,p1.2.1,p1.2.2.1,p1.2.2.2.1,p1.2.2.2.2.1,p1.2.2.2.2.2.1,())).bind fun u1=>
 cond (!u1.1.1)
  (some ((((0,0,(),(),false,(),()),false,()),()),([],[],[],())))
 ((Ck (p1.1,p1.2.1,p1.2.2.1,p1.2.2.2.1,p1.2.2.2.2.1,p1.2.2.2.2.2.1,())).bind fun u2=>
 cond (p1.2.2.2.2.1)
  (some ((((u2.1.1.1,u2.1.1.2.1,(),(),u2.1.1.2.2.2.2.1,(),()),false,()),()),(u2.2.1,u2.2.2.1,u2.2.2.2.1,())))
 ((HU p1.2.2.1 p2).bind fun u3=>
 (HM (p0.1,p0.2.1,()) p2 u3.2.1).bind fun u4=>
 cond (!u4.1.1)
  (some ((((u2.1.1.1,u2.1.1.2.1,(),(),u2.1.1.2.2.2.2.1,(),()),false,()),()),(u2.2.1,u2.2.2.1,u2.2.2.2.1,())))
 (R8 0 p1.1 p1.2.1 p1.2.2.1 p1.2.2.2.1 p1.2.2.2.2.1 p1.2.2.2.2.2.1 0 0 false [] [] [] u2.1.1.1 u2.1.1.2.1 true u2.2.1 u2.2.2.1 u2.2.2.2.1)))
def GH(p0:AAT)(p1:AAY)(p2:AAD):Option Di:=Px (IL Ac) p0 p1 p2
abbrev cj:Type:=ABS×ACH
def QB(BU Ba:Int)(Au:Bool)(b0:AAD)(b1:AAH)(b2:AAD)(b3:AAG)(b4:AAP)(b5:AAQ)(b6:AAS)(b7:AAL):Option cj:=
 cond (((b5.length:Int)==0))
  (some (((((),BU,(),(),(),Ba,(),(),(),(),Au,()),2,()),()),(b0,b1,b2,b3,b4,b5,b6,b7,())))
 (if(0:Int)≤(0:Int)∧(0:Int)<(b5.length:Int)then(
 if(0:Int)≤(0:Int)∧(0:Int)<(b5.length:Int)then(
 (Bm (b3,Ba,()) ((b5.getD 0 (0,0,[],[],false,[],())).2.1)).bind fun u3=>
 (GH (b0,BU,()) ((b5.getD 0 (0,0,[],[],false,[],())).1,(b5.getD 0 (0,0,[],[],false,[],())).2.1,(b5.getD 0 (0,0,[],[],false,[],())).2.2.1,(b5.getD 0 (0,0,[],[],false,[],())).2.2.2.1,(b5.getD 0 (0,0,[],[],false,[],())).2.2.2.2.1,(b5.getD 0 (0,0,[],[],false,[],())).2.2.2.2.2.1,()) u3.2.1).bind fun u4=>
 cond (!u4.1.1.2.1)
  (some (((((),BU,(),(),(),Ba,(),(),(),(),Au,()),4,()),()),(b0,b1,b2,b3,b4,b5,b6,b7,())))
 (if(0:Int)≤(0:Int)∧(0:Int)<(b5.length:Int)then(
 some (((((),BU,(),(),(),Ba,(),(),(),(),Au,()),0,()),()),(b0,b1,b2,b3,b4,(b5.set 0 (u4.1.1.1.1,u4.1.1.1.2.1,u4.2.1,u4.2.2.1,u4.1.1.1.2.2.2.2.1,u4.2.2.2.1,())),b6,b7,())))else none))else none)else none)
abbrev fM:Type:=ABS×ACH
def Sb(BU Ba:Int)(Au:Bool)(p1:AAt)(b0:AAD)(b1:AAH)(b2:AAD)(b3:AAG)(b4:AAP)(b5:AAQ)(b6:AAS)(b7:AAL):Option fM:=
 cond (((b5.length:Int)==0))
  (some (((((),BU,(),(),(),Ba,(),(),(),(),Au,()),2,()),()),(b0,b1,b2,b3,b4,b5,b6,b7,())))
 (if(0:Int)≤(0:Int)∧(0:Int)<(b5.length:Int)then(
 (DC ((b5.getD 0 (0,0,[],[],false,[],())).1,(b5.getD 0 (0,0,[],[],false,[],())).2.1,(b5.getD 0 (0,0,[],[],false,[],())).2.2.1,(b5.getD 0 (0,0,[],[],false,[],())).2.2.2.1,(b5.getD 0 (0,0,[],[],false,[],())).2.2.2.2.1,(b5.getD 0 (0,0,[],[],false,[],())).2.2.2.2.2.1,()) p1.2.2.1).bind fun u2=>
 cond (!u2.1.1.2.1)
  (some (((((),BU,(),(),(),Ba,(),(),(),(),Au,()),2,()),()),(b0,b1,b2,b3,b4,b5,b6,b7,())))
 ((E5 (b0,BU,b1,b2,b3,Ba,b4,b5,b6,b7,Au,()) p1.2.2.2.1).bind fun u3=>
 cond (u3.1.1 !=0)
  (some (((((),BU,(),(),(),Ba,(),(),(),(),Au,()),u3.1.1,()),()),(b0,b1,b2,b3,b4,b5,b6,b7,())))
 (if(0:Int)≤(0:Int)∧(0:Int)<(b5.length:Int)then(
 (Bm (b3,Ba,()) ((b5.getD 0 (0,0,[],[],false,[],())).2.1)).bind fun u5=>
 (B6 u5.2.1 p1.2.2.2.1).bind fun u6=>
 cond (!u6.1.1)
  (some (((((),BU,(),(),(),Ba,(),(),(),(),Au,()),2,()),()),(b0,b1,b2,b3,b4,b5,b6,b7,())))
 (if(0:Int)≤p1.2.2.2.1∧p1.2.2.2.1<(b1.length:Int)then(
 (JV ((b1.getD (p1.2.2.2.1.toNat) ([],[],0,())).1,(b1.getD (p1.2.2.2.1.toNat) ([],[],0,())).2.1,(b1.getD (p1.2.2.2.1.toNat) ([],[],0,())).2.2.1,()) (u2.1.1.1.1,u2.1.1.1.2.1,u2.1.1.1.2.2.1,u2.1.1.1.2.2.2.1,())).bind fun u7=>
 cond (!u7.1.1.2.1)
  (some (((((),BU,(),(),(),Ba,(),(),(),(),Au,()),4,()),()),(b0,b1,b2,b3,b4,b5,b6,b7,())))
 (if(0:Int)≤p1.2.2.2.1∧p1.2.2.2.1<(b1.length:Int)then(
 some (((((),BU,(),(),(),Ba,(),(),(),(),Au,()),0,()),()),(b0,(b1.set (p1.2.2.2.1.toNat) (u7.2.1,u7.2.2.1,u7.1.1.1.2.2.1,())),b2,b3,b4,b5,b6,b7,())))else none))else none))else none)))else none)
abbrev Kv:Type:=AAa×Unit
abbrev NW:Type:=Int→List Int→Int→Int→Int→List Int→AAF→Bool→List AAD→Option Kv
def PS(R4:NW)(t5:Int)(AH:AAD)(AL A6 Aq:Int)(Dk:AAD)(JI:AAF)(Nj:Bool)(Ds:List AAD):Option Kv:=
 cond ((decide (t5<(Ds.length:Int))))
  (if(0:Int)≤t5∧t5<(Ds.length:Int)then(
  (C_ (AH,AL,()) (Ds.getD (t5.toNat) [])).bind fun u3=>
  cond (!u3.1.1)
   (some ((false,()),()))
  (R4 (AX (t5+1)) AH AL A6 Aq Dk JI Nj Ds))else none)
 (some ((true,()),()))
def HN:Nat→NW
 |0=>fun _ _ _ _ _ _ _ _ _=>none
 |n+1=>PS (HN n)
def PF(R4:NW)(p0:AAT)(p1:AAY):Option Kv:=
 (GG (p0.1,p0.2.1,()) (p1.1,p1.2.1,p1.2.2.1,p1.2.2.2.1,p1.2.2.2.2.1,p1.2.2.2.2.2.1,())).bind fun u1=>
 cond (!u1.1.1)
  (some ((false,()),()))
 (cond (!p1.2.2.2.2.1)
  (some ((false,()),()))
 (R4 0 p0.1 p0.2.1 p1.1 p1.2.1 p1.2.2.1 p1.2.2.2.1 p1.2.2.2.2.1 p1.2.2.2.2.2.1))
def NY(p0:AAT)(p1:AAY):Option Kv:=PF (HN Ac) p0 p1
abbrev bQ:Type:=AFQ×AEm
def LH(p0:AAT)(p1:AAj)(p2 p3:Int):Option bQ:=
 (I5 (p0.1,p0.2.1,()) (p1.1,p1.2.1,())).bind fun u1=>
 cond (!u1.1.1)
  (some (((((),0,()),false,()),()),([],())))
 ((D7 (p1.1,p1.2.1,())).bind fun u2=>
 (Gi (p1.1,p1.2.1,())).bind fun u3=>
 cond ((p2 !=(p1.1.length:Int)))
  (some (((((),u2.1.1.2.1,()),false,()),()),(u2.2.1,())))
 (cond (u3.1.1==0)
  (some (((((),u2.1.1.2.1,()),false,()),()),(u2.2.1,())))
 (cond (p2==u3.1.1)
  (some (((((),u2.1.1.2.1,()),false,()),()),(u2.2.1,())))
 ((BR p3 0 60).bind fun u5=>
 cond (!u5.1.1)
  (some (((((),u2.1.1.2.1,()),false,()),()),(u2.2.1,())))
 (if(0:Int)≤AX (u3.1.1-1)∧AX (u3.1.1-1)<(u2.2.1.length:Int)then(
 let x6:AAG:=(u2.2.1.set ((AX (u3.1.1-1)).toNat) ((u2.2.1.getD ((AX (u3.1.1-1)).toNat) ([],false,0,())).1,true,(u2.2.1.getD ((AX (u3.1.1-1)).toNat) ([],false,0,())).2.2.1,()))
 if(0:Int)≤AX (u3.1.1-1)∧AX (u3.1.1-1)<(x6.length:Int)then(
 some (((((),u2.1.1.2.1,()),true,()),()),((x6.set ((AX (u3.1.1-1)).toNat) ((x6.getD ((AX (u3.1.1-1)).toNat) ([],false,0,())).1,(x6.getD ((AX (u3.1.1-1)).toNat) ([],false,0,())).2.1,p3,())),())))else none)else none)))))
abbrev U3:Type:=ABS×(List Int×AAH×List Int×Unit×AAP×Unit×AAS×AAL×AAG×AAQ×Unit)
def OV(BU Ba:Int)(Au:Bool)(b0:AAD)(b1:AAH)(b2:AAD)(b3:AAG)(b4:AAP)(b5:AAQ)(b6:AAS)(b7:AAL):Option U3:=
 cond (((b5.length:Int)==0))
  (some (((((),BU,(),(),(),Ba,(),(),(),(),Au,()),2,()),()),(b0,b1,b2,(),b4,(),b6,b7,b3,b5,())))
 (if(0:Int)≤(0:Int)∧(0:Int)<(b5.length:Int)then(
 (NY (b0,BU,()) ((b5.getD 0 (0,0,[],[],false,[],())).1,(b5.getD 0 (0,0,[],[],false,[],())).2.1,(b5.getD 0 (0,0,[],[],false,[],())).2.2.1,(b5.getD 0 (0,0,[],[],false,[],())).2.2.2.1,(b5.getD 0 (0,0,[],[],false,[],())).2.2.2.2.1,(b5.getD 0 (0,0,[],[],false,[],())).2.2.2.2.2.1,())).bind fun u2=>
 cond (!u2.1.1)
  (some (((((),BU,(),(),(),Ba,(),(),(),(),Au,()),5,()),()),(b0,b1,b2,(),b4,(),b6,b7,b3,b5,())))
 (if(0:Int)≤(0:Int)∧(0:Int)<(b5.length:Int)then(
 if(0:Int)≤(0:Int)∧(0:Int)<(b5.length:Int)then(
 (LH (b0,BU,()) (b3,Ba,()) ((b5.getD 0 (0,0,[],[],false,[],())).1) (((b5.getD 0 (0,0,[],[],false,[],())).2.2.2.2.2.1).length:Int)).bind fun u5=>
 cond (!u5.1.1.2.1)
  (some (((((),BU,(),(),(),Ba,(),(),(),(),Au,()),4,()),()),(b0,b1,b2,(),b4,(),b6,b7,b3,b5,())))
 (some (((((),BU,(),(),(),u5.1.1.1.2.1,(),(),(),(),Au,()),0,()),()),(b0,b1,b2,(),b4,(),b6,b7,u5.2.1,[],()))))else none)else none))else none)
abbrev dj:Type:=AFQ×AEm
def Mw(p0:AAT)(p1:AAj)(p2:Int):Option dj:=
 (I5 (p0.1,p0.2.1,()) (p1.1,p1.2.1,())).bind fun u1=>
 cond (!u1.1.1)
  (some (((((),0,()),false,()),()),([],())))
 ((D7 (p1.1,p1.2.1,())).bind fun u2=>
 (E6 p2).bind fun u3=>
 cond (!u3.1.1)
  (some (((((),u2.1.1.2.1,()),false,()),()),(u2.2.1,())))
 ((Bu p2).bind fun u4=>
 cond ((decide (u4.1.1>(p1.1.length:Int))))
  (some (((((),u2.1.1.2.1,()),false,()),()),(u2.2.1,())))
 ((DR u2.1.1.2.1 p2).bind fun u6=>
 some (((((),u6.1.1,()),true,()),()),(u2.2.1,())))))
abbrev Jv:Type:=AAl×Unit
abbrev Lr:Type:=Int→Int→AAf→Option Jv
def Nn(R2:Lr)(t3 AH:Int)(AL:AAf):Option Jv:=
 cond ((decide (t3<(AL.length:Int))))
  (if(0:Int)≤t3∧t3<(AL.length:Int)then(
  cond (((AL.getD (t3.toNat) ([],[],false,())).2.2.1))
   (R2 (AX (t3+1)) AH AL)
  (some ((t3,()),())))else none)
 (some ((t3,()),()))
def Gy:Nat→Lr
 |0=>fun _ _ _=>none
 |n+1=>Nn (Gy n)
def VQ(R2:Lr)(p0:AAn):Option Jv:=
 R2 0 p0.1 p0.2.1
def Po(p0:AAn):Option Jv:=VQ (Gy Ac) p0
abbrev OZ:Type:=AAl×Unit
abbrev Qv:Type:=Int→Int→List Int→Int→AAH→List Int→AAG→Int→AAP→AAQ→AAS→AAL→Bool→Option OZ
def SC(R2:Qv)(t1 t5:Int)(AH:AAD)(AL:Int)(AU:AAH)(Df:AAD)(FK:AAG)(Eh:Int)(DU:AAP)(DN:AAQ)(EK:AAS)(Ft:AAL)(DL:Bool):Option OZ:=
 cond ((decide (t5<(DU.length:Int))))
  (if(0:Int)≤t5∧t5<(DU.length:Int)then(
  cond (((DU.getD (t5.toNat) (0,[],())).1)==t1)
   (if(0:Int)≤t5∧t5<(DU.length:Int)then(
   (Po ((DU.getD (t5.toNat) (0,[],())).1,(DU.getD (t5.toNat) (0,[],())).2.1,())).bind fun u3=>
   some ((u3.1.1,()),()))else none)
  (R2 t1 (AX (t5+1)) AH AL AU Df FK Eh DU DN EK Ft DL))else none)
 (some ((0,()),()))
def KE:Nat→Qv
 |0=>fun _ _ _ _ _ _ _ _ _ _ _ _ _=>none
 |n+1=>SC (KE n)
def Ya(R2:Qv)(p0:AAd)(p1:Int):Option OZ:=
 R2 p1 0 p0.1 p0.2.1 p0.2.2.1 p0.2.2.2.1 p0.2.2.2.2.1 p0.2.2.2.2.2.1 p0.2.2.2.2.2.2.1 p0.2.2.2.2.2.2.2.1 p0.2.2.2.2.2.2.2.2.1 p0.2.2.2.2.2.2.2.2.2.1 p0.2.2.2.2.2.2.2.2.2.2.1
def V2(p0:AAd)(p1:Int):Option OZ:=Ya (KE Ac) p0 p1
abbrev Jo:Type:=AAu×(ACN×Unit)
abbrev Ln:Type:=Int→List Int→Int→AAH→List Int→AAG→Int→AAP→AAQ→AAS→AAL→Bool→Int→Int→ADE→ACN→List Int→Option Jo
def Nt(R4:Ln)(t9:Int)(AH:AAD)(AL:Int)(AU:AAH)(Df:AAD)(FK:AAG)(Eh:Int)(DU:AAP)(DN:AAQ)(EK:AAS)(Ft:AAL)(DL:Bool)(A6 Aq:Int)(Dk:ADE)(b2:ACN)(b3:AAD):Option Jo:=
 cond ((decide (t9<(b3.length:Int))))
  (if(0:Int)≤t9∧t9<(b3.length:Int)then(
  (E5 (AH,AL,AU,Df,FK,Eh,DU,DN,EK,Ft,DL,()) (b3.getD (t9.toNat) 0)).bind fun u4=>
  cond (u4.1.1 !=0)
   (R4 (AX (t9+1)) AH AL AU Df FK Eh DU DN EK Ft DL A6 Aq Dk b2 b3)
  (if(0:Int)≤t9∧t9<(b3.length:Int)then(
  let x5:Int:=(b3.getD (t9.toNat) 0)
  if(0:Int)≤x5∧x5<(AU.length:Int)then(
  (Bl A6 Aq).bind fun u6=>
  (Eo ((AU.getD (x5.toNat) ([],[],0,())).1) u6.1.1).bind fun u7=>
  if(0:Int)≤t9∧t9<(b3.length:Int)then(
  if b2.length+1≤DE then(
  R4 (AX (t9+1)) AH AL AU Df FK Eh DU DN EK Ft DL A6 Aq Dk (b2++[((b3.getD (t9.toNat) 0),u7.1.1.2.1,u7.1.1.1.1,u7.1.1.1.2.1,u7.1.1.1.2.2.1,u7.1.1.1.2.2.2.1,())]) b3)else none)else none)else none)else none))else none)
 (some (((),()),(b2,())))
def Gj:Nat→Ln
 |0=>fun _ _ _ _ _ _ _ _ _ _ _ _ _ _ _ _ _=>none
 |n+1=>Nt (Gj n)
def Np(R4:Ln)(p0:AAd)(p1:ABc)(p2:Int):Option Jo:=
 (J9 p2).bind fun u1=>
 R4 0 p0.1 p0.2.1 p0.2.2.1 p0.2.2.2.1 p0.2.2.2.2.1 p0.2.2.2.2.2.1 p0.2.2.2.2.2.2.1 p0.2.2.2.2.2.2.2.1 p0.2.2.2.2.2.2.2.2.1 p0.2.2.2.2.2.2.2.2.2.1 p0.2.2.2.2.2.2.2.2.2.2.1 p1.1 p1.2.1 p1.2.2.1 [] u1.2.1
def La(p0:AAd)(p1:ABc)(p2:Int):Option Jo:=Np (Gj Ac) p0 p1 p2
abbrev Lb:Type:=((Unit×Bool×Unit)×Unit)×AAv
abbrev N7:Type:=ACN→Int→List Int→Int→List Int→Option Lb
def Pz(R3:N7)(t1:ACN)(t7:Int)(AH:AAD)(AL:Int)(b1:AAD):Option Lb:=
 cond ((decide (t7<(t1.length:Int))))
  (if(0:Int)≤t7∧t7<(t1.length:Int)then(
  if b1.length+1≤DE then(
  R3 t1 (AX (t7+1)) AH AL (b1++[((t1.getD (t7.toNat) (0,false,0,0,false,[],())).1)]))else none)else none)
 ((EM (AH,AL,()) b1).bind fun u3=>
 some ((((),u3.1.1,()),()),(b1,())))
def H4:Nat→N7
 |0=>fun _ _ _ _ _=>none
 |n+1=>Pz (H4 n)
def Wj(R3:N7)(p0:AAT)(p1:ACN):Option Lb:=
 R3 p1 0 p0.1 p0.2.1 []
def TM(p0:AAT)(p1:ACN):Option Lb:=Wj (H4 Ac) p0 p1
abbrev cu:Type:=ADs×AEi
def F_(p0:ABc)(p1:AFG)(p2 p3:Int):Option cu:=
 (Bb (p0.1,p0.2.1,p0.2.2.1,())).bind fun u1=>
 if u1.2.1.length+1≤DE then(
 some (((p2,p3,(),()),()),((u1.2.1++[(p1.1,p1.2.1,p1.2.2.1,())]),())))else none
abbrev M6:Type:=(AFG×Unit)×Unit
abbrev Pf:Type:=List Int→Int→ACN→Bool→Int→Int→Int→List UInt8→Int→Int→Bool→List UInt8→Option M6
def Qs(R4:Pf)(t0:AAD)(t1:Int)(t2:ACN)(t8:Bool)(t9 AH AL:Int)(AU:AAg)(A6 Aq:Int)(Dk:Bool)(JI:AAg):Option M6:=
 cond ((decide (t9<(t2.length:Int))))
  (if(0:Int)≤t9∧t9<(t2.length:Int)then(
  cond (!((t2.getD (t9.toNat) (0,false,0,0,false,[],())).2.1))
   (R4 t0 t1 t2 t8 (AX (t9+1)) AH AL AU A6 Aq Dk JI)
  ((B6 t0 ((t2.getD (t9.toNat) (0,false,0,0,false,[],())).1)).bind fun u4=>
  cond (!u4.1.1)
   (R4 t0 t1 t2 t8 (AX (t9+1)) AH AL AU A6 Aq Dk JI)
  ((I_ ((t2.getD (t9.toNat) (0,false,0,0,false,[],())).2.2.1,(t2.getD (t9.toNat) (0,false,0,0,false,[],())).2.2.2.1,(t2.getD (t9.toNat) (0,false,0,0,false,[],())).2.2.2.2.1,(t2.getD (t9.toNat) (0,false,0,0,false,[],())).2.2.2.2.2.1,())).bind fun u5=>
  cond (!u5.1.1)
   (R4 t0 t1 t2 t8 (AX (t9+1)) AH AL AU A6 Aq Dk JI)
  (cond (((t2.getD (t9.toNat) (0,false,0,0,false,[],())).2.2.1) !=t1)
   (R4 t0 t1 t2 t8 (AX (t9+1)) AH AL AU A6 Aq Dk JI)
  (cond (!t8)
   ((MQ ((t2.getD (t9.toNat) (0,false,0,0,false,[],())).2.2.1,(t2.getD (t9.toNat) (0,false,0,0,false,[],())).2.2.2.1,(t2.getD (t9.toNat) (0,false,0,0,false,[],())).2.2.2.2.1,(t2.getD (t9.toNat) (0,false,0,0,false,[],())).2.2.2.2.2.1,()) ((t2.getD (t9.toNat) (0,false,0,0,false,[],())).2.2.1,(t2.getD (t9.toNat) (0,false,0,0,false,[],())).2.2.2.1,(t2.getD (t9.toNat) (0,false,0,0,false,[],())).2.2.2.2.1,(t2.getD (t9.toNat) (0,false,0,0,false,[],())).2.2.2.2.2.1,())).bind fun u7=>
   R4 t0 t1 t2 true (AX (t9+1)) AH AL AU u7.1.1.1 u7.1.1.2.1 u7.1.1.2.2.1 u7.1.1.2.2.2.1)
  ((MQ (A6,Aq,Dk,JI,()) ((t2.getD (t9.toNat) (0,false,0,0,false,[],())).2.2.1,(t2.getD (t9.toNat) (0,false,0,0,false,[],())).2.2.2.1,(t2.getD (t9.toNat) (0,false,0,0,false,[],())).2.2.2.2.1,(t2.getD (t9.toNat) (0,false,0,0,false,[],())).2.2.2.2.2.1,())).bind fun u8=>
  R4 t0 t1 t2 true (AX (t9+1)) AH AL AU u8.1.1.1 u8.1.1.2.1 u8.1.1.2.2.1 u8.1.1.2.2.2.1))))))else none)
 (cond (!t8)
  (some (((3,t1,[],()),()),()))
 (cond (Dk)
  (some (((2,t1,[],()),()),()))
 (some (((1,t1,JI,()),()),()))))
def JC:Nat→Pf
 |0=>fun _ _ _ _ _ _ _ _ _ _ _ _=>none
 |n+1=>Qs (JC n)
def X0(R4:Pf)(p0:AAD)(p1:Int)(p2:ACN):Option M6:=
 R4 p0 p1 p2 false 0 0 0 [] 0 0 false []
def I1(p0:AAD)(p1:Int)(p2:ACN):Option M6:=X0 (JC Ac) p0 p1 p2
abbrev SW:Type:=((AFU×Int×Unit)×Unit)×AEi
def Ld(p0:AAT)(p1:AAj)(p2:Int)(p3:ABc)(p4:ACN):Option SW:=
 (TM (p0.1,p0.2.1,()) p4).bind fun u1=>
 (I5 (p0.1,p0.2.1,()) (p1.1,p1.2.1,())).bind fun u2=>
 cond (!u2.1.1)
  (some ((((0,0,(),()),1,()),()),([],())))
 ((JU (p3.1,p3.2.1,p3.2.2.1,())).bind fun u3=>
 cond (!u3.1.1)
  (some ((((0,0,(),()),1,()),()),([],())))
 (cond (!u1.1.1.2.1)
  (some ((((0,0,(),()),1,()),()),([],())))
 (cond ((decide (p3.1>(p1.1.length:Int))))
  ((Bb (p3.1,p3.2.1,p3.2.2.1,())).bind fun u5=>
  some ((((u5.1.1.1,u5.1.1.2.1,(),()),2,()),()),(u5.2.1,())))
 (cond ((p3.2.2.1.length:Int)==120)
  ((Bb (p3.1,p3.2.1,p3.2.2.1,())).bind fun u7=>
  some ((((u7.1.1.1,u7.1.1.2.1,(),()),2,()),()),(u7.2.1,())))
 (if(0:Int)≤AX (p3.1-1)∧AX (p3.1-1)<(p1.1.length:Int)then(
 (Bl p3.1 p3.2.1).bind fun u8=>
 cond ((decide (p1.2.1≥u8.1.1)))
  ((Bu p1.2.1).bind fun HW=>
  (Ep p1.2.1).bind fun Qo=>
  (F_ (p3.1,p3.2.1,p3.2.2.1,()) (5,p1.2.1,[],()) HW.1.1 (AX (Qo.1.1+1))).bind fun Ct=>
  some ((((Ct.1.1.1,Ct.1.1.2.1,(),()),0,()),()),(Ct.2.1,())))
 (cond (((p1.1.getD ((AX (p3.1-1)).toNat) ([],false,0,())).2.1))
  (cond ((decide (p3.2.1>((p1.1.getD ((AX (p3.1-1)).toNat) ([],false,0,())).2.2.1))))
   ((F_ (p3.1,p3.2.1,p3.2.2.1,()) (4,AX (p3.1+1),[],()) (AX (p3.1+1)) 1).bind fun u16=>
   some ((((u16.1.1.1,u16.1.1.2.1,(),()),0,()),()),(u16.2.1,())))
  (cond (!((p1.1.getD ((AX (p3.1-1)).toNat) ([],false,0,())).2.1))
   (cond (decide (p3.2.1>p2))
    ((Bb (p3.1,p3.2.1,p3.2.2.1,())).bind fun Rr=>
    some ((((Rr.1.1.1,Rr.1.1.2.1,(),()),2,()),()),(Rr.2.1,())))
   (cond (decide (p3.2.1>60))
    ((Bb (p3.1,p3.2.1,p3.2.2.1,())).bind fun XO=>
    some ((((XO.1.1.1,XO.1.1.2.1,(),()),2,()),()),(XO.2.1,())))
   ((HU u1.2.1 ((p1.1.getD ((AX (p3.1-1)).toNat) ([],false,0,())).1)).bind fun PB=>
   (HM (p0.1,p0.2.1,()) ((p1.1.getD ((AX (p3.1-1)).toNat) ([],false,0,())).1) PB.2.1).bind fun bw=>
   cond (!bw.1.1)
    ((Bb (p3.1,p3.2.1,p3.2.2.1,())).bind fun sV=>
    some ((((sV.1.1.1,sV.1.1.2.1,(),()),3,()),()),(sV.2.1,())))
   ((I1 ((p1.1.getD ((AX (p3.1-1)).toNat) ([],false,0,())).1) u8.1.1 p4).bind fun S6=>
   (F_ (p3.1,p3.2.1,p3.2.2.1,()) (S6.1.1.1,S6.1.1.2.1,S6.1.1.2.2.1,()) p3.1 (AX (p3.2.1+1))).bind fun JA=>
   some ((((JA.1.1.1,JA.1.1.2.1,(),()),0,()),()),(JA.2.1,()))))))
  (cond (decide (p3.2.1>60))
   ((Bb (p3.1,p3.2.1,p3.2.2.1,())).bind fun YH=>
   some ((((YH.1.1.1,YH.1.1.2.1,(),()),2,()),()),(YH.2.1,())))
  ((HU u1.2.1 ((p1.1.getD ((AX (p3.1-1)).toNat) ([],false,0,())).1)).bind fun X2=>
  (HM (p0.1,p0.2.1,()) ((p1.1.getD ((AX (p3.1-1)).toNat) ([],false,0,())).1) X2.2.1).bind fun Yf=>
  cond (!Yf.1.1)
   ((Bb (p3.1,p3.2.1,p3.2.2.1,())).bind fun OL=>
   some ((((OL.1.1.1,OL.1.1.2.1,(),()),3,()),()),(OL.2.1,())))
  ((I1 ((p1.1.getD ((AX (p3.1-1)).toNat) ([],false,0,())).1) u8.1.1 p4).bind fun Vc=>
  (F_ (p3.1,p3.2.1,p3.2.2.1,()) (Vc.1.1.1,Vc.1.1.2.1,Vc.1.1.2.2.1,()) p3.1 (AX (p3.2.1+1))).bind fun fL=>
  some ((((fL.1.1.1,fL.1.1.2.1,(),()),0,()),()),(fL.2.1,())))))))
 (cond (!((p1.1.getD ((AX (p3.1-1)).toNat) ([],false,0,())).2.1))
  (cond (decide (p3.2.1>p2))
   ((Bb (p3.1,p3.2.1,p3.2.2.1,())).bind fun u32=>
   some ((((u32.1.1.1,u32.1.1.2.1,(),()),2,()),()),(u32.2.1,())))
  (cond (decide (p3.2.1>60))
   ((Bb (p3.1,p3.2.1,p3.2.2.1,())).bind fun Ux=>
   some ((((Ux.1.1.1,Ux.1.1.2.1,(),()),2,()),()),(Ux.2.1,())))
  ((HU u1.2.1 ((p1.1.getD ((AX (p3.1-1)).toNat) ([],false,0,())).1)).bind fun u34=>
  (HM (p0.1,p0.2.1,()) ((p1.1.getD ((AX (p3.1-1)).toNat) ([],false,0,())).1) u34.2.1).bind fun u35=>
  cond (!u35.1.1)
   ((Bb (p3.1,p3.2.1,p3.2.2.1,())).bind fun u36=>
   some ((((u36.1.1.1,u36.1.1.2.1,(),()),3,()),()),(u36.2.1,())))
  ((I1 ((p1.1.getD ((AX (p3.1-1)).toNat) ([],false,0,())).1) u8.1.1 p4).bind fun rH=>
  (F_ (p3.1,p3.2.1,p3.2.2.1,()) (rH.1.1.1,rH.1.1.2.1,rH.1.1.2.2.1,()) p3.1 (AX (p3.2.1+1))).bind fun u38=>
  some ((((u38.1.1.1,u38.1.1.2.1,(),()),0,()),()),(u38.2.1,()))))))
 (cond (decide (p3.2.1>60))
  ((Bb (p3.1,p3.2.1,p3.2.2.1,())).bind fun aM=>
  some ((((aM.1.1.1,aM.1.1.2.1,(),()),2,()),()),(aM.2.1,())))
 ((HU u1.2.1 ((p1.1.getD ((AX (p3.1-1)).toNat) ([],false,0,())).1)).bind fun u40=>
 (HM (p0.1,p0.2.1,()) ((p1.1.getD ((AX (p3.1-1)).toNat) ([],false,0,())).1) u40.2.1).bind fun u41=>
 cond (!u41.1.1)
  ((Bb (p3.1,p3.2.1,p3.2.2.1,())).bind fun u42=>
  some ((((u42.1.1.1,u42.1.1.2.1,(),()),3,()),()),(u42.2.1,())))
 ((I1 ((p1.1.getD ((AX (p3.1-1)).toNat) ([],false,0,())).1) u8.1.1 p4).bind fun u43=>
 (F_ (p3.1,p3.2.1,p3.2.2.1,()) (u43.1.1.1,u43.1.1.2.1,u43.1.1.2.2.1,()) p3.1 (AX (p3.2.1+1))).bind fun u44=>
 some ((((u44.1.1.1,u44.1.1.2.1,(),()),0,()),()),(u44.2.1,()))))))))else none)))))
abbrev dI:Type:=ABS×ACH
def QA(BU Ba:Int)(Au:Bool)(p1:AAt)(b0:AAD)(b1:AAH)(b2:AAD)(b3:AAG)(b4:AAP)(b5:AAQ)(b6:AAS)(b7:AAL):Option dI:=
 (BR p1.2.1 0 1).bind fun u1=>
 cond (!u1.1.1)
  (some (((((),BU,(),(),(),Ba,(),(),(),(),Au,()),2,()),()),(b0,b1,b2,b3,b4,b5,b6,b7,())))
 (if(0:Int)≤p1.2.1∧p1.2.1<(b6.length:Int)then(
 if(0:Int)≤p1.2.1∧p1.2.1<(b6.length:Int)then(
 if(0:Int)≤p1.2.1∧p1.2.1<(b6.length:Int)then(
 (V2 (b0,BU,b1,b2,b3,Ba,b4,b5,b6,b7,Au,()) ((b6.getD (p1.2.1.toNat) (0,0,[],())).1)).bind fun u3=>
 (La (b0,BU,b1,b2,b3,Ba,b4,b5,b6,b7,Au,()) ((b6.getD (p1.2.1.toNat) (0,0,[],())).1,(b6.getD (p1.2.1.toNat) (0,0,[],())).2.1,(b6.getD (p1.2.1.toNat) (0,0,[],())).2.2.1,()) p1.2.2.1).bind fun u4=>
 (Ld (b0,BU,()) (b3,Ba,()) u3.1.1 ((b6.getD (p1.2.1.toNat) (0,0,[],())).1,(b6.getD (p1.2.1.toNat) (0,0,[],())).2.1,(b6.getD (p1.2.1.toNat) (0,0,[],())).2.2.1,()) u4.2.1).bind fun u5=>
 cond (u5.1.1.2.1 !=0)
  (some (((((),BU,(),(),(),Ba,(),(),(),(),Au,()),5,()),()),(b0,b1,b2,b3,b4,b5,b6,b7,())))
 (if(0:Int)≤p1.2.1∧p1.2.1<(b6.length:Int)then(
 some (((((),BU,(),(),(),Ba,(),(),(),(),Au,()),0,()),()),(b0,b1,b2,b3,b4,b5,(b6.set (p1.2.1.toNat) (u5.1.1.1.1,u5.1.1.1.2.1,u5.2.1,())),b7,())))else none))else none)else none)else none)
abbrev KF:Type:=ABS×(List Int×AAH×List Int×AAG×Unit×AAQ×AAS×AAL×AAP×Unit)
abbrev Pk:Type:=Int→List Int→AAH→List Int→AAG→AAP→AAQ→AAS→AAL→Int→Int→Bool→Int→Int→Int→Int→List UInt8→Int→Int→Bool→List Int→AAH→List Int→AAG→AAP→AAQ→AAS→AAL→AAP→Option KF
def Qu(R5:Pk)(t7:Int)(b0:AAD)(b1:AAH)(b2:AAD)(b3:AAG)(b4:AAP)(b5:AAQ)(b6:AAS)(b7:AAL)(CR Ca:Int)(BV:Bool)(AHn DV AHN AIK:Int)(AHt:AAg)(Da Ez:Int)(Cv:Bool)(F6:AAD)(Db:AAH)(Fg:AAD)(FV:AAG)(D8:AAP)(ER:AAQ)(Em:AAS)(T0:AAL)(jB:AAP):Option KF:=
 cond ((decide (t7<(b4.length:Int))))
  (cond (t7 !=DV)
   (if(0:Int)≤t7∧t7<(b4.length:Int)then(
   if jB.length+1≤DE then(
   R5 (AX (t7+1)) b0 b1 b2 b3 b4 b5 b6 b7 CR Ca BV AHn DV AHN AIK AHt Da Ez Cv F6 Db Fg FV D8 ER Em T0 (jB++[((b4.getD (t7.toNat) (0,[],())).1,(b4.getD (t7.toNat) (0,[],())).2.1,())]))else none)else none)
  (R5 (AX (t7+1)) b0 b1 b2 b3 b4 b5 b6 b7 CR Ca BV AHn DV AHN AIK AHt Da Ez Cv F6 Db Fg FV D8 ER Em T0 jB))
 (some (((((),CR,(),(),(),Ca,(),(),(),(),BV,()),0,()),()),(b0,b1,b2,b3,(),b5,b6,b7,jB,())))
def JB:Nat→Pk
 |0=>fun _ _ _ _ _ _ _ _ _ _ _ _ _ _ _ _ _ _ _ _ _ _ _ _ _ _ _ _ _=>none
 |n+1=>Qu (JB n)
def RV(R5:Pk)(BU Ba:Int)(Au:Bool)(p1:AAt)(b0:AAD)(b1:AAH)(b2:AAD)(b3:AAG)(b4:AAP)(b5:AAQ)(b6:AAS)(b7:AAL):Option KF:=
 (Ia (b0,BU,b1,b2,b3,Ba,b4,b5,b6,b7,Au,()) p1.2.1).bind fun u1=>
 cond (!u1.1.1)
  (some (((((),BU,(),(),(),Ba,(),(),(),(),Au,()),2,()),()),(b0,b1,b2,b3,(),b5,b6,b7,b4,())))
 (R5 0 b0 b1 b2 b3 b4 b5 b6 b7 BU Ba Au p1.1 p1.2.1 p1.2.2.1 p1.2.2.2.1 p1.2.2.2.2.1 0 0 false [] [] [] [] [] [] [] [] [])
def QI(BU Ba:Int)(Au:Bool)(p1:AAt)(b0:AAD)(b1:AAH)(b2:AAD)(b3:AAG)(b4:AAP)(b5:AAQ)(b6:AAS)(b7:AAL):Option KF:=RV (JB Ac) BU Ba Au p1 b0 b1 b2 b3 b4 b5 b6 b7
abbrev Kx:Type:=ADF×ADX
abbrev NM:Type:=Int→Int→AAF→AAF→Int→Int→AAF→AAF→Int→AAF→AAF→Option Kx
def Oq(R8:NM)(t1 t7:Int)(AH AL:AAF)(AU Dk:Int)(b2 b3:AAF)(J_:Int)(b5 b6:AAF):Option Kx:=
 cond ((decide (t7<(AH.length:Int))))
  (if(0:Int)≤t7∧t7<(AH.length:Int)then(
  cond (decide (((AH.getD (t7.toNat) (0,0,false,[],())).1)>t1))
   (if(0:Int)≤t7∧t7<(AH.length:Int)then(
   if b5.length+1≤DE then(
   R8 t1 (AX (t7+1)) AH AL AU Dk b2 b3 J_ (b5++[((AH.getD (t7.toNat) (0,0,false,[],())).1,(AH.getD (t7.toNat) (0,0,false,[],())).2.1,(AH.getD (t7.toNat) (0,0,false,[],())).2.2.1,(AH.getD (t7.toNat) (0,0,false,[],())).2.2.2.1,())]) b6)else none)else none)
  (R8 t1 (AX (t7+1)) AH AL AU Dk b2 b3 J_ b5 b6))else none)
 (some (((((),(),J_,()),true,()),()),(b5,b6,())))
def Hd:Nat→NM
 |0=>fun _ _ _ _ _ _ _ _ _ _ _=>none
 |n+1=>Oq (Hd n)
def Oz(R8:NM)(p0:AAq)(p1:Int):Option Kx:=
 (EO (p0.1,p0.2.1,p0.2.2.1,())).bind fun u1=>
 cond (!u1.1.1)
  (some (((((),(),0,()),false,()),()),([],[],())))
 ((C4 (p0.1,p0.2.1,p0.2.2.1,())).bind fun u2=>
 (E6 p1).bind fun u3=>
 cond (!u3.1.1)
  (some (((((),(),u2.1.1.2.2.1,()),false,()),()),(u2.2.1,u2.2.2.1,())))
 (R8 p1 0 p0.1 p0.2.1 p0.2.2.1 0 [] [] u2.1.1.2.2.1 [] u2.2.2.1))
def NG(p0:AAq)(p1:Int):Option Kx:=Oz (Hd Ac) p0 p1
abbrev ay:Type:=ABS×ACH
def OW(BU Ba:Int)(Au:Bool)(p1:AAt)(b0:AAD)(b1:AAH)(b2:AAD)(b3:AAG)(b4:AAP)(b5:AAQ)(b6:AAS)(b7:AAL):Option ay:=
 (E5 (b0,BU,b1,b2,b3,Ba,b4,b5,b6,b7,Au,()) p1.2.1).bind fun u1=>
 cond (u1.1.1 !=0)
  (some (((((),BU,(),(),(),Ba,(),(),(),(),Au,()),u1.1.1,()),()),(b0,b1,b2,b3,b4,b5,b6,b7,())))
 (if(0:Int)≤p1.2.1∧p1.2.1<(b1.length:Int)then(
 (JJ ((b1.getD (p1.2.1.toNat) ([],[],0,())).1,(b1.getD (p1.2.1.toNat) ([],[],0,())).2.1,(b1.getD (p1.2.1.toNat) ([],[],0,())).2.2.1,()) p1.2.2.1).bind fun u2=>
 cond (p1.1==16)
  (if(0:Int)≤p1.2.1∧p1.2.1<(b1.length:Int)then(
  (NG ((b1.getD (p1.2.1.toNat) ([],[],0,())).1,(b1.getD (p1.2.1.toNat) ([],[],0,())).2.1,(b1.getD (p1.2.1.toNat) ([],[],0,())).2.2.1,()) Ba).bind fun u3=>
  cond (!u3.1.1.2.1)
   (some (((((),BU,(),(),(),Ba,(),(),(),(),Au,()),4,()),()),(b0,b1,b2,b3,b4,b5,b6,b7,())))
  (if(0:Int)≤p1.2.1∧p1.2.1<(b1.length:Int)then(
  some (((((),BU,(),(),(),Ba,(),(),(),(),Au,()),0,()),()),(b0,(b1.set (p1.2.1.toNat) (u3.2.1,u3.2.2.1,u3.1.1.1.2.2.1,())),b2,b3,b4,b5,b6,b7,())))else none))else none)
 (cond (!u2.1.1.2.1)
  (some (((((),BU,(),(),(),Ba,(),(),(),(),Au,()),4,()),()),(b0,b1,b2,b3,b4,b5,b6,b7,())))
 (if(0:Int)≤p1.2.1∧p1.2.1<(b1.length:Int)then(
 some (((((),BU,(),(),(),Ba,(),(),(),(),Au,()),0,()),()),(b0,(b1.set (p1.2.1.toNat) (u2.2.1,u2.2.2.1,u2.1.1.1.2.2.1,())),b2,b3,b4,b5,b6,b7,())))else none)))else none)
abbrev Yj:Type:=ABS×(List Int×AAH×Unit×Unit×Unit×Unit×AAS×Unit×List Int×AAG×AAP×AAQ×AAL×Unit)
def Uf(BU Ba:Int)(Au:Bool)(p1:AAt)(b0:AAD)(b1:AAH)(b2:AAD)(b3:AAG)(b4:AAP)(b5:AAQ)(b6:AAS)(b7:AAL):Option Yj:=
 cond (p1.1==1)
  ((QH BU Ba Au (p1.1,p1.2.1,p1.2.2.1,p1.2.2.2.1,p1.2.2.2.2.1,()) b0 b1 b2 b3 b4 b5 b6 b7).bind fun u1=>
  some (((((),u1.1.1.1.2.1,(),(),(),u1.1.1.1.2.2.2.2.2.1,(),(),(),(),u1.1.1.1.2.2.2.2.2.2.2.2.2.2.1,()),u1.1.1.2.1,()),()),(u1.2.1,u1.2.2.1,(),(),(),(),u1.2.2.2.2.2.2.2.1,(),u1.2.2.2.1,u1.2.2.2.2.2.2.2.2.2.1,u1.2.2.2.2.2.2.2.2.2.2.1,u1.2.2.2.2.2.2.2.2.2.2.2.1,u1.2.2.2.2.2.2.2.2.1,())))
 (cond (p1.1==2)
  ((SB BU Ba Au (p1.1,p1.2.1,p1.2.2.1,p1.2.2.2.1,p1.2.2.2.2.1,()) b0 b1 b2 b3 b4 b5 b6 b7).bind fun u5=>
  some (((((),u5.1.1.1.2.1,(),(),(),u5.1.1.1.2.2.2.2.2.1,(),(),(),(),u5.1.1.1.2.2.2.2.2.2.2.2.2.2.1,()),u5.1.1.2.1,()),()),(u5.2.1,u5.2.2.1,(),(),(),(),u5.2.2.2.2.2.2.2.1,(),u5.2.2.2.1,u5.2.2.2.2.1,u5.2.2.2.2.2.1,u5.2.2.2.2.2.2.1,u5.2.2.2.2.2.2.2.2.2.1,())))
 (cond (p1.1==3)
  ((OS BU Ba Au (p1.1,p1.2.1,p1.2.2.1,p1.2.2.2.1,p1.2.2.2.2.1,()) b0 b1 b2 b3 b4 b5 b6 b7).bind fun u7=>
  some (((((),u7.1.1.1.2.1,(),(),(),u7.1.1.1.2.2.2.2.2.1,(),(),(),(),u7.1.1.1.2.2.2.2.2.2.2.2.2.2.1,()),u7.1.1.2.1,()),()),(u7.2.1,u7.2.2.1,(),(),(),(),u7.2.2.2.2.2.2.2.1,(),u7.2.2.2.1,u7.2.2.2.2.1,u7.2.2.2.2.2.1,u7.2.2.2.2.2.2.1,u7.2.2.2.2.2.2.2.2.1,())))
 (cond (p1.1==4)
  ((QR BU Ba Au (p1.1,p1.2.1,p1.2.2.1,p1.2.2.2.1,p1.2.2.2.2.1,()) b0 b1 b2 b3 b4 b5 b6 b7).bind fun u8=>
  some (((((),u8.1.1.1.2.1,(),(),(),u8.1.1.1.2.2.2.2.2.1,(),(),(),(),u8.1.1.1.2.2.2.2.2.2.2.2.2.2.1,()),u8.1.1.2.1,()),()),(u8.2.1,u8.2.2.1,(),(),(),(),u8.2.2.2.2.2.2.2.1,(),u8.2.2.2.1,u8.2.2.2.2.1,u8.2.2.2.2.2.1,u8.2.2.2.2.2.2.1,u8.2.2.2.2.2.2.2.2.1,())))
 (cond (p1.1==6)
  ((Qa BU Ba Au (p1.1,p1.2.1,p1.2.2.1,p1.2.2.2.1,p1.2.2.2.2.1,()) b0 b1 b2 b3 b4 b5 b6 b7).bind fun u9=>
  some (((((),u9.1.1.1.2.1,(),(),(),u9.1.1.1.2.2.2.2.2.1,(),(),(),(),u9.1.1.1.2.2.2.2.2.2.2.2.2.2.1,()),u9.1.1.2.1,()),()),(u9.2.1,u9.2.2.1,(),(),(),(),u9.2.2.2.2.2.2.2.1,(),u9.2.2.2.2.2.2.2.2.2.1,u9.2.2.2.2.1,u9.2.2.2.2.2.1,u9.2.2.2.2.2.2.1,u9.2.2.2.2.2.2.2.2.1,())))
 (cond (p1.1==7)
  ((QU BU Ba Au (p1.1,p1.2.1,p1.2.2.1,p1.2.2.2.1,p1.2.2.2.2.1,()) b0 b1 b2 b3 b4 b5 b6 b7).bind fun Qo=>
  some (((((),Qo.1.1.1.2.1,(),(),(),Qo.1.1.1.2.2.2.2.2.1,(),(),(),(),Qo.1.1.1.2.2.2.2.2.2.2.2.2.2.1,()),Qo.1.1.2.1,()),()),(Qo.2.1,Qo.2.2.1,(),(),(),(),Qo.2.2.2.2.2.2.2.1,(),Qo.2.2.2.2.2.2.2.2.2.1,Qo.2.2.2.2.1,Qo.2.2.2.2.2.1,Qo.2.2.2.2.2.2.1,Qo.2.2.2.2.2.2.2.2.1,())))
 (cond (p1.1==8)
  ((QC BU Ba Au b0 b1 b2 b3 b4 b5 b6 b7).bind fun Jx=>
  some (((((),Jx.1.1.1.2.1,(),(),(),Jx.1.1.1.2.2.2.2.2.1,(),(),(),(),Jx.1.1.1.2.2.2.2.2.2.2.2.2.2.1,()),Jx.1.1.2.1,()),()),(Jx.2.1,Jx.2.2.1,(),(),(),(),Jx.2.2.2.2.2.2.2.1,(),Jx.2.2.2.1,Jx.2.2.2.2.1,Jx.2.2.2.2.2.1,Jx.2.2.2.2.2.2.2.2.2.1,Jx.2.2.2.2.2.2.2.2.1,())))
 (cond (p1.1==9)
  ((QS BU Ba Au (p1.1,p1.2.1,p1.2.2.1,p1.2.2.2.1,p1.2.2.2.2.1,()) b0 b1 b2 b3 b4 b5 b6 b7).bind fun T_=>
  some (((((),T_.1.1.1.2.1,(),(),(),T_.1.1.1.2.2.2.2.2.1,(),(),(),(),T_.1.1.1.2.2.2.2.2.2.2.2.2.2.1,()),T_.1.1.2.1,()),()),(T_.2.1,T_.2.2.1,(),(),(),(),T_.2.2.2.2.2.2.2.1,(),T_.2.2.2.1,T_.2.2.2.2.1,T_.2.2.2.2.2.1,T_.2.2.2.2.2.2.1,T_.2.2.2.2.2.2.2.2.1,())))
 (cond (p1.1==10)
  ((QB BU Ba Au b0 b1 b2 b3 b4 b5 b6 b7).bind fun XO=>
  some (((((),XO.1.1.1.2.1,(),(),(),XO.1.1.1.2.2.2.2.2.1,(),(),(),(),XO.1.1.1.2.2.2.2.2.2.2.2.2.2.1,()),XO.1.1.2.1,()),()),(XO.2.1,XO.2.2.1,(),(),(),(),XO.2.2.2.2.2.2.2.1,(),XO.2.2.2.1,XO.2.2.2.2.1,XO.2.2.2.2.2.1,XO.2.2.2.2.2.2.1,XO.2.2.2.2.2.2.2.2.1,())))
 (cond (p1.1==11)
  ((Sb BU Ba Au (p1.1,p1.2.1,p1.2.2.1,p1.2.2.2.1,p1.2.2.2.2.1,()) b0 b1 b2 b3 b4 b5 b6 b7).bind fun bw=>
  some (((((),bw.1.1.1.2.1,(),(),(),bw.1.1.1.2.2.2.2.2.1,(),(),(),(),bw.1.1.1.2.2.2.2.2.2.2.2.2.2.1,()),bw.1.1.2.1,()),()),(bw.2.1,bw.2.2.1,(),(),(),(),bw.2.2.2.2.2.2.2.1,(),bw.2.2.2.1,bw.2.2.2.2.1,bw.2.2.2.2.2.1,bw.2.2.2.2.2.2.1,bw.2.2.2.2.2.2.2.2.1,())))
 (cond (p1.1==12)
  ((OV BU Ba Au b0 b1 b2 b3 b4 b5 b6 b7).bind fun S6=>
  some (((((),S6.1.1.1.2.1,(),(),(),S6.1.1.1.2.2.2.2.2.1,(),(),(),(),S6.1.1.1.2.2.2.2.2.2.2.2.2.2.1,()),S6.1.1.2.1,()),()),(S6.2.1,S6.2.2.1,(),(),(),(),S6.2.2.2.2.2.2.2.1,(),S6.2.2.2.1,S6.2.2.2.2.2.2.2.2.2.1,S6.2.2.2.2.2.1,S6.2.2.2.2.2.2.2.2.2.2.1,S6.2.2.2.2.2.2.2.2.1,())))
 (cond (p1.1==13)
  ((Mw (b0,BU,()) (b3,Ba,()) p1.2.1).bind fun Yf=>
  cond (!Yf.1.1.2.1)
   (some (((((),BU,(),(),(),Ba,(),(),(),(),Au,()),4,()),()),(b0,b1,(),(),(),(),b6,(),b2,b3,b4,b5,b7,())))
  (some (((((),BU,(),(),(),Yf.1.1.1.2.1,(),(),(),(),Au,()),0,()),()),(b0,b1,(),(),(),(),b6,(),b2,Yf.2.1,b4,b5,b7,()))))
 (cond (p1.1==14)
  ((QA BU Ba Au (p1.1,p1.2.1,p1.2.2.1,p1.2.2.2.1,p1.2.2.2.2.1,()) b0 b1 b2 b3 b4 b5 b6 b7).bind fun OL=>
  some (((((),OL.1.1.1.2.1,(),(),(),OL.1.1.1.2.2.2.2.2.1,(),(),(),(),OL.1.1.1.2.2.2.2.2.2.2.2.2.2.1,()),OL.1.1.2.1,()),()),(OL.2.1,OL.2.2.1,(),(),(),(),OL.2.2.2.2.2.2.2.1,(),OL.2.2.2.1,OL.2.2.2.2.1,OL.2.2.2.2.2.1,OL.2.2.2.2.2.2.1,OL.2.2.2.2.2.2.2.2.1,())))
 (cond (p1.1==15)
  ((QI BU Ba Au (p1.1,p1.2.1,p1.2.2.1,p1.2.2.2.1,p1.2.2.2.2.1,()) b0 b1 b2 b3 b4 b5 b6 b7).bind fun fL=>
  some (((((),fL.1.1.1.2.1,(),(),(),fL.1.1.1.2.2.2.2.2.1,(),(),(),(),fL.1.1.1.2.2.2.2.2.2.2.2.2.2.1,()),fL.1.1.2.1,()),()),(fL.2.1,fL.2.2.1,(),(),(),(),fL.2.2.2.2.2.2.2.1,(),fL.2.2.2.1,fL.2.2.2.2.1,fL.2.2.2.2.2.2.2.2.2.1,fL.2.2.2.2.2.2.1,fL.2.2.2.2.2.2.2.2.1,())))
 ((OW BU Ba Au (p1.1,p1.2.1,p1.2.2.1,p1.2.2.2.1,p1.2.2.2.2.1,()) b0 b1 b2 b3 b4 b5 b6 b7).bind fun Ux=>
 some (((((),Ux.1.1.1.2.1,(),(),(),Ux.1.1.1.2.2.2.2.2.1,(),(),(),(),Ux.1.1.1.2.2.2.2.2.2.2.2.2.2.1,()),Ux.1.1.2.1,()),()),(Ux.2.1,Ux.2.2.1,(),(),(),(),Ux.2.2.2.2.2.2.2.1,(),Ux.2.2.2.1,Ux.2.2.2.2.1,Ux.2.2.2.2.2.1,Ux.2.2.2.2.2.2.1,Ux.2.2.2.2.2.2.2.2.1,()))))))))))))))))
abbrev cb:Type:=ABS×ACH
def QD(p0:AAd)(p1:AAt):Option cb:=
 (HQ (p0.1,p0.2.1,p0.2.2.1,p0.2.2.2.1,p0.2.2.2.2.1,p0.2.2.2.2.2.1,p0.2.2.2.2.2.2.1,p0.2.2.2.2.2.2.2.1,p0.2.2.2.2.2.2.2.2.1,p0.2.2.2.2.2.2.2.2.2.1,p0.2.2.2.2.2.2.2.2.2.2.1,())).bind fun u1=>
 cond (!u1.1.1)
  (some (((((),0,(),(),(),0,(),(),(),(),false,()),1,()),()),([],[],[],[],[],[],[],[],())))
 ((Rx (p1.1,p1.2.1,p1.2.2.1,p1.2.2.2.1,p1.2.2.2.2.1,())).bind fun u2=>
 cond (!u2.1.1)
  (some (((((),0,(),(),(),0,(),(),(),(),false,()),1,()),()),([],[],[],[],[],[],[],[],())))
 ((Ki (p0.1,p0.2.1,p0.2.2.1,p0.2.2.2.1,p0.2.2.2.2.1,p0.2.2.2.2.2.1,p0.2.2.2.2.2.2.1,p0.2.2.2.2.2.2.2.1,p0.2.2.2.2.2.2.2.2.1,p0.2.2.2.2.2.2.2.2.2.1,p0.2.2.2.2.2.2.2.2.2.2.1,())).bind fun u3=>
 (Uf u3.1.1.2.1 u3.1.1.2.2.2.2.2.1 u3.1.1.2.2.2.2.2.2.2.2.2.2.1 (p1.1,p1.2.1,p1.2.2.1,p1.2.2.2.1,p1.2.2.2.2.1,()) u3.2.1 u3.2.2.1 u3.2.2.2.1 u3.2.2.2.2.1 u3.2.2.2.2.2.1 u3.2.2.2.2.2.2.1 u3.2.2.2.2.2.2.2.1 u3.2.2.2.2.2.2.2.2.1).bind fun u4=>
 cond (u4.1.1.2.1 !=0)
  ((Ki (p0.1,p0.2.1,p0.2.2.1,p0.2.2.2.1,p0.2.2.2.2.1,p0.2.2.2.2.2.1,p0.2.2.2.2.2.2.1,p0.2.2.2.2.2.2.2.1,p0.2.2.2.2.2.2.2.2.1,p0.2.2.2.2.2.2.2.2.2.1,p0.2.2.2.2.2.2.2.2.2.2.1,())).bind fun HW=>
  some (((((),HW.1.1.2.1,(),(),(),HW.1.1.2.2.2.2.2.1,(),(),(),(),HW.1.1.2.2.2.2.2.2.2.2.2.2.1,()),u4.1.1.2.1,()),()),(HW.2.1,HW.2.2.1,HW.2.2.2.1,HW.2.2.2.2.1,HW.2.2.2.2.2.1,HW.2.2.2.2.2.2.1,HW.2.2.2.2.2.2.2.1,HW.2.2.2.2.2.2.2.2.1,())))
 (some (((((),u4.1.1.1.2.1,(),(),(),u4.1.1.1.2.2.2.2.2.1,(),(),(),(),u4.1.1.1.2.2.2.2.2.2.2.2.2.2.1,()),u4.1.1.2.1,()),()),(u4.2.1,u4.2.2.1,u4.2.2.2.2.2.2.2.2.2.1,u4.2.2.2.2.2.2.2.2.2.2.1,u4.2.2.2.2.2.2.2.2.2.2.2.1,u4.2.2.2.2.2.2.2.2.2.2.2.2.1,u4.2.2.2.2.2.2.2.1,u4.2.2.2.2.2.2.2.2.2.2.2.2.2.1,())))))
abbrev CF:Type:=(AFV×Unit)×(AA8×Unit×Unit×Unit×Unit×Unit×Unit×Unit×Unit×(List AAt)×List Int×AAH×List Int×AAG×AAP×AAQ×AAS×AAL×Unit)
abbrev FJ:Type:=Int→Int→List Int→Int→Int→Int→Int→Bool→List Int→AAH→List Int→AAG→AAP→AAQ→AAS→AAL→Int→Int→Bool→List Int→AAH→List Int→AAG→AAP→AAQ→AAS→AAL→Int→List Int→List Int→Option CF
abbrev FO:Type:=Int→List Int→Int→Int→Int→Int→Bool→List Int→AAH→List Int→AAG→AAP→AAQ→AAS→AAL→Int→Int→Bool→List Int→AAH→List Int→AAG→AAP→AAQ→AAS→AAL→Int→List Int→List Int→Option CF
abbrev En:Type:=Int→Int→List Int→Int→Int→Int→Int→Bool→List Int→AAH→List Int→AAG→AAP→AAQ→AAS→AAL→Int→Int→Bool→List Int→AAH→List Int→AAG→AAP→AAQ→AAS→AAL→Int→Int→Bool→Int→Int→Bool→List Int→AAH→List Int→AAG→AAP→AAQ→AAS→AAL→(List AAt)→Option CF
def MO(R4:FJ)(R7:FO)(R14:En)(t1 t9:Int)(AH:AAD)(AL AU Aq Ds:Int)(FL:Bool)(b2:AAD)(b3:AAH)(b4:AAD)(b5:AAG)(b6:AAP)(b7:AAQ)(b8:AAS)(b9:AAL)(Da Ez:Int)(Cv:Bool)(F6:AAD)(Db:AAH)(Fg:AAD)(FV:AAG)(D8:AAP)(ER:AAQ)(Em:AAS)(T0:AAL)(Bf:Int)(b20 vm:AAD):Option CF:=
 cond ((decide (t9<(b20.length:Int))))
  (if vm.length+1≤DE then(
  R4 t1 (AX (t9+1)) AH AL AU Aq Ds FL b2 b3 b4 b5 b6 b7 b8 b9 Da Ez Cv F6 Db Fg FV D8 ER Em T0 Bf b20 (vm++[t9]))else none)
 (R7 t1 AH AL AU Aq Ds FL b2 b3 b4 b5 b6 b7 b8 b9 Da Ez Cv F6 Db Fg FV D8 ER Em T0 Bf b20 vm)
def MH(R4:FJ)(R7:FO)(R14:En)(t1:Int)(AH:AAD)(AL AU Aq Ds:Int)(FL:Bool)(b2:AAD)(b3:AAH)(b4:AAD)(b5:AAG)(b6:AAP)(b7:AAQ)(b8:AAS)(b9:AAL)(Da Ez:Int)(Cv:Bool)(F6:AAD)(Db:AAH)(Fg:AAD)(FV:AAG)(D8:AAP)(ER:AAQ)(Em:AAS)(T0:AAL)(Bf:Int)(b20 vm:AAD):Option CF:=
 cond (decide (Bf>1))
  ((C_ (b20,Bf,()) vm).bind fun u3=>
  cond (!u3.1.1)
   (R7 t1 AH AL AU Aq Ds FL b2 b3 b4 b5 b6 b7 b8 b9 Da Ez Cv F6 Db Fg FV D8 ER Em T0 (AX (Bf-1)) b20 vm)
  ((E8 (b20,Bf,())).bind fun u4=>
  (AF (AX (t1+1)) AH AL AU).bind fun u5=>
  R14 u5.1.1 0 u5.2.1.1 u5.2.1.2.1 u5.2.1.2.2.1 Aq Ds FL b2 b3 b4 b5 b6 b7 b8 b9 Da Ez Cv F6 Db Fg FV D8 ER Em T0 u4.1.1.1.2.1 u4.1.1.1.2.2.2.2.2.1 u4.1.1.1.2.2.2.2.2.2.2.2.2.2.1 u4.1.1.1.2.1 u4.1.1.1.2.2.2.2.2.1 u4.1.1.1.2.2.2.2.2.2.2.2.2.2.1 u4.2.1 u4.2.2.1 u4.2.2.2.1 u4.2.2.2.2.1 u4.2.2.2.2.2.1 u4.2.2.2.2.2.2.1 u4.2.2.2.2.2.2.2.1 u4.2.2.2.2.2.2.2.2.1 []))
 ((E8 (b20,Bf,())).bind fun u6=>
 (AF (AX (t1+1)) AH AL AU).bind fun u7=>
 R14 u7.1.1 0 u7.2.1.1 u7.2.1.2.1 u7.2.1.2.2.1 Aq Ds FL b2 b3 b4 b5 b6 b7 b8 b9 Da Ez Cv F6 Db Fg FV D8 ER Em T0 u6.1.1.1.2.1 u6.1.1.1.2.2.2.2.2.1 u6.1.1.1.2.2.2.2.2.2.2.2.2.2.1 u6.1.1.1.2.1 u6.1.1.1.2.2.2.2.2.1 u6.1.1.1.2.2.2.2.2.2.2.2.2.2.1 u6.2.1 u6.2.2.1 u6.2.2.2.1 u6.2.2.2.2.1 u6.2.2.2.2.2.1 u6.2.2.2.2.2.2.1 u6.2.2.2.2.2.2.2.1 u6.2.2.2.2.2.2.2.2.1 [])
def LS(R4:FJ)(R7:FO)(R14:En)(t14 t15:Int)(AH:AAD)(AL AU Aq Ds:Int)(FL:Bool)(b2:AAD)(b3:AAH)(b4:AAD)(b5:AAG)(b6:AAP)(b7:AAQ)(b8:AAS)(b9:AAL)(Da Ez:Int)(Cv:Bool)(F6:AAD)(Db:AAH)(Fg:AAD)(FV:AAG)(D8:AAP)(ER:AAQ)(Em:AAS)(T0:AAL)(Bf O6:Int)(lV:Bool)(mm mY:Int)(h_:Bool)(b29:AAD)(b30:AAH)(b31:AAD)(b32:AAG)(b33:AAP)(b34:AAQ)(b35:AAS)(b36:AAL)(b37:List AAt):Option CF:=
 cond (decide (t15<t14))
  ((Kg (b29,mm,b30,b31,b32,mY,b33,b34,b35,b36,h_,()) AH AL AU).bind fun u8=>
  if b37.length+1≤DE then(
  let x9:List AAt:=b37++[(u8.1.1.1,u8.1.1.2.1,u8.1.1.2.2.1,u8.1.1.2.2.2.1,u8.1.1.2.2.2.2.1,())]
  (QD (b29,mm,b30,b31,b32,mY,b33,b34,b35,b36,h_,()) (u8.1.1.1,u8.1.1.2.1,u8.1.1.2.2.1,u8.1.1.2.2.2.1,u8.1.1.2.2.2.2.1,())).bind fun HW=>
  cond (HW.1.1.2.1==0)
   (R14 t14 (AX (t15+1)) u8.2.1.1 u8.2.1.2.1 u8.2.1.2.2.1 Aq Ds FL b2 b3 b4 b5 b6 b7 b8 b9 Da Ez Cv F6 Db Fg FV D8 ER Em T0 Bf O6 lV HW.1.1.1.2.1 HW.1.1.1.2.2.2.2.2.1 HW.1.1.1.2.2.2.2.2.2.2.2.2.2.1 HW.2.1 HW.2.2.1 HW.2.2.2.1 HW.2.2.2.2.1 HW.2.2.2.2.2.1 HW.2.2.2.2.2.2.1 HW.2.2.2.2.2.2.2.1 HW.2.2.2.2.2.2.2.2.1 x9)
  (R14 t14 (AX (t15+1)) u8.2.1.1 u8.2.1.2.1 u8.2.1.2.2.1 Aq Ds FL b2 b3 b4 b5 b6 b7 b8 b9 Da Ez Cv F6 Db Fg FV D8 ER Em T0 Bf O6 lV mm mY h_ b29 b30 b31 b32 b33 b34 b35 b36 x9))else none)
 (some (((((),Bf,(),(),(),O6,(),(),(),(),lV,()),(),((),mm,(),(),(),mY,(),(),(),(),h_,()),()),()),((AH,AL,AU,()),(),(),(),(),(),(),(),(),b37,b29,b30,b31,b32,b33,b34,b35,b36,())))
mutual
def C3:Nat→FJ
 |0=>fun _ _ _ _ _ _ _ _ _ _ _ _ _ _ _ _ _ _ _ _ _ _ _ _ _ _ _ _ _ _=>none
 |n+1=>MO (C3 n) (C7 n) (CS n)
def C7:Nat→FO
 |0=>fun _ _ _ _ _ _ _ _ _ _ _ _ _ _ _ _ _ _ _ _ _ _ _ _ _ _ _ _ _=>none
 |n+1=>MH (C3 n) (C7 n) (CS n)
def CS:Nat→En
 |0=>fun _ _ _ _ _ _ _ _ _ _ _ _ _ _ _ _ _ _ _ _ _ _ _ _ _ _ _ _ _ _ _ _ _ _ _ _ _ _ _ _ _ _=>none
 |n+1=>LS (C3 n) (C7 n) (CS n)
end
def ME(R4:FJ)(R7:FO)(R14:En)(p1:Int)(AH:AAD)(AL AU:Int):Option CF:=
 (IH AH AL AU).bind fun u1=>
 R4 p1 0 u1.2.1.1 u1.2.1.2.1 u1.2.1.2.2.1 0 0 false [] [] [] [] [] [] [] [] 0 0 false [] [] [] [] [] [] [] [] u1.1.1.2.1 u1.2.2.1 []
def HK(p1:Int)(AH:AAD)(AL AU:Int):Option CF:=ME (C3 Ac) (C7 Ac) (CS Ac) p1 AH AL AU
abbrev Xa:Type:=AFN×ABd
def IZ(AH:AAD)(AL AU:Int):Option Xa:=
 (AF 3 AH AL AU).bind fun u1=>
 (AF 6 u1.2.1.1 u1.2.1.2.1 u1.2.1.2.2.1).bind fun u2=>
 (Bl (AX (1+u1.1.1)) (AX (1+u2.1.1))).bind fun u3=>
 (Ee [[],[97],[98,99],[0],[119,111,114,100]] u2.2.1.1 u2.2.1.2.1 u2.2.1.2.2.1).bind fun u4=>
 (Aj 3 u4.2.1.1 u4.2.1.2.1 u4.2.1.2.2.1).bind fun u5=>
 cond (u5.1.1)
  ((Bu u3.1.1).bind fun u6=>
  (AF 3 u5.2.1.1 u5.2.1.2.1 u5.2.1.2.2.1).bind fun u7=>
  let x8:Int:=AX ((AX (u6.1.1+1))+u7.1.1)
  (Aj 2 u7.2.1.1 u7.2.1.2.1 u7.2.1.2.2.1).bind fun u9=>
  cond (u9.1.1)
   (some (((u3.1.1,x8,true,[],()),()),((u9.2.1.1,u9.2.1.2.1,u9.2.1.2.2.1,()),())))
  (some (((u3.1.1,x8,false,u4.1.1,()),()),((u9.2.1.1,u9.2.1.2.1,u9.2.1.2.2.1,()),()))))
 (some (((u3.1.1,0,false,u4.1.1,()),()),((u5.2.1.1,u5.2.1.2.1,u5.2.1.2.2.1,()),())))
abbrev Bh:Type:=ADy×AFW
abbrev Fz:Type:=Int→Int→List Int→Int→Int→Int→AAF→AAF→Int→AAF→AAF→Option Bh
abbrev FF:Type:=Int→List Int→Int→Int→Int→AAF→AAF→Int→AAF→AAF→Option Bh
abbrev FC:Type:=Int→Int→List Int→Int→Int→Int→AAF→AAF→Int→AAF→AAF→Option Bh
def NZ(R4:Fz)(R20:FF)(R23:FC)(t4 t5:Int)(AH:AAD)(AL AU Dk:Int)(b2 b3:AAF)(J_:Int)(b5 b6:AAF):Option Bh:=
 cond (decide (t5<t4))
  ((IZ AH AL AU).bind fun u2=>
  (JV (b5,b6,J_,()) (u2.1.1.1,u2.1.1.2.1,u2.1.1.2.2.1,u2.1.1.2.2.2.1,())).bind fun u3=>
  (AF 6 u2.2.1.1 u2.2.1.2.1 u2.2.1.2.2.1).bind fun u4=>
  cond (u4.1.1==0)
   ((Gn (b5,b6,J_,())).bind fun u5=>
   cond (u5.1.1.2.1)
    (R4 t4 (AX (t5+1)) u4.2.1.1 u4.2.1.2.1 u4.2.1.2.2.1 Dk b2 b3 u5.1.1.1.2.2.1 u5.2.1 u5.2.2.1)
   (R4 t4 (AX (t5+1)) u4.2.1.1 u4.2.1.2.1 u4.2.1.2.2.1 Dk b2 b3 J_ b5 b6))
  (cond (u4.1.1==1)
   ((Gn (u3.2.1,u3.2.2.1,u3.1.1.1.2.2.1,())).bind fun u6=>
   cond (u6.1.1.2.1)
    (R4 t4 (AX (t5+1)) u4.2.1.1 u4.2.1.2.1 u4.2.1.2.2.1 Dk b2 b3 u6.1.1.1.2.2.1 u6.2.1 u6.2.2.1)
   (R4 t4 (AX (t5+1)) u4.2.1.1 u4.2.1.2.1 u4.2.1.2.2.1 Dk b2 b3 J_ b5 b6))
  (cond (u4.1.1==2)
   ((Aj 3 u4.2.1.1 u4.2.1.2.1 u4.2.1.2.2.1).bind fun u7=>
   cond (u7.1.1)
    ((AF 4 u7.2.1.1 u7.2.1.2.1 u7.2.1.2.2.1).bind fun u8=>
    (KU (b5,b6,J_,()) u8.1.1).bind fun u9=>
    cond (u9.1.1.2.1)
     (R4 t4 (AX (t5+1)) u8.2.1.1 u8.2.1.2.1 u8.2.1.2.2.1 Dk b2 b3 u9.1.1.1.2.2.1 u9.2.1 u9.2.2.1)
    (R4 t4 (AX (t5+1)) u8.2.1.1 u8.2.1.2.1 u8.2.1.2.2.1 Dk b2 b3 J_ b5 b6))
   (cond (u3.1.1.2.1)
    (R4 t4 (AX (t5+1)) u7.2.1.1 u7.2.1.2.1 u7.2.1.2.2.1 Dk b2 b3 u3.1.1.1.2.2.1 u3.2.1 u3.2.2.1)
   (R4 t4 (AX (t5+1)) u7.2.1.1 u7.2.1.2.1 u7.2.1.2.2.1 Dk b2 b3 J_ b5 b6)))
  (cond (u3.1.1.2.1)
   (R4 t4 (AX (t5+1)) u4.2.1.1 u4.2.1.2.1 u4.2.1.2.2.1 Dk b2 b3 u3.1.1.1.2.2.1 u3.2.1 u3.2.2.1)
  (R4 t4 (AX (t5+1)) u4.2.1.1 u4.2.1.2.1 u4.2.1.2.2.1 Dk b2 b3 J_ b5 b6)))))
 ((Aj 40 AH AL AU).bind fun YH=>
 cond (YH.1.1)
  (R20 1 YH.2.1.1 YH.2.1.2.1 YH.2.1.2.2.1 Dk b2 b3 J_ [] b6)
 (some ((((),(),J_,()),()),((YH.2.1.1,YH.2.1.2.1,YH.2.1.2.2.1,()),b5,b6,()))))
def MS(R4:Fz)(R20:FF)(R23:FC)(t8:Int)(AH:AAD)(AL AU Dk:Int)(b2 b3:AAF)(J_:Int)(b5 b6:AAF):Option Bh:=
 cond (decide (t8≤4))
  (R23 t8 1 AH AL AU Dk b2 b3 J_ b5 b6)
 (some ((((),(),J_,()),()),((AH,AL,AU,()),b5,b6,())))
def L_(R4:Fz)(R20:FF)(R23:FC)(t8 t9:Int)(AH:AAD)(AL AU Dk:Int)(b2 b3:AAF)(J_:Int)(b5 b6:AAF):Option Bh:=
 cond (decide (t9≤50))
  ((Bl t8 t9).bind fun X2=>
  if b5.length+1≤DE then(
  R23 t8 (AX (t9+1)) AH AL AU Dk b2 b3 J_ (b5++[(X2.1.1,0,false,[],())]) b6)else none)
 (R20 (AX (t8+1)) AH AL AU Dk b2 b3 J_ b5 b6)
mutual
def Cm:Nat→Fz
 |0=>fun _ _ _ _ _ _ _ _ _ _ _=>none
 |n+1=>NZ (Cm n) (DA n) (C8 n)
def DA:Nat→FF
 |0=>fun _ _ _ _ _ _ _ _ _ _=>none
 |n+1=>MS (Cm n) (DA n) (C8 n)
def C8:Nat→FC
 |0=>fun _ _ _ _ _ _ _ _ _ _ _=>none
 |n+1=>L_ (Cm n) (DA n) (C8 n)
end
def M1(R4:Fz)(R20:FF)(R23:FC)(AH:AAD)(AL AU:Int):Option Bh:=
 (AF 8 AH AL AU).bind fun u1=>
 R4 u1.1.1 0 u1.2.1.1 u1.2.1.2.1 u1.2.1.2.2.1 0 [] [] 0 [] []
def Dz(AH:AAD)(AL AU:Int):Option Bh:=M1 (Cm Ac) (DA Ac) (C8 Ac) AH AL AU
abbrev L0:Type:=AAl×ABd
def CY(AH:AAD)(AL AU:Int):Option L0:=
 (AF 3 AH AL AU).bind fun u1=>
 (AF 6 u1.2.1.1 u1.2.1.2.1 u1.2.1.2.2.1).bind fun u2=>
 (Bl (AX (1+u1.1.1)) (AX (1+u2.1.1))).bind fun u3=>
 (AF 15 u2.2.1.1 u2.2.1.2.1 u2.2.1.2.2.1).bind fun u4=>
 cond (u4.1.1==0)
  ((Bc [0,(-1),4294967296,4294967297,9223372036854775807,(-9223372036854775808)] u4.2.1.1 u4.2.1.2.1 u4.2.1.2.2.1).bind fun u5=>
  some ((u5.1.1,()),((u5.2.1.1,u5.2.1.2.1,u5.2.1.2.2.1,()),())))
 (cond (u4.1.1==1)
  ((Bc [0,30,31] u4.2.1.1 u4.2.1.2.1 u4.2.1.2.2.1).bind fun u6=>
  (Bc [0,60,61] u6.2.1.1 u6.2.1.2.1 u6.2.1.2.2.1).bind fun u7=>
  (Bl u6.1.1 u7.1.1).bind fun u8=>
  some ((u8.1.1,()),((u7.2.1.1,u7.2.1.2.1,u7.2.1.2.2.1,()),())))
 (some ((u3.1.1,()),((u4.2.1.1,u4.2.1.2.1,u4.2.1.2.2.1,()),()))))
abbrev fW:Type:=AFN×ABd
def MM(AH:AAD)(AL AU:Int):Option fW:=
 (IZ AH AL AU).bind fun u1=>
 (AF 15 u1.2.1.1 u1.2.1.2.1 u1.2.1.2.2.1).bind fun u2=>
 cond (u2.1.1==0)
  ((CY u2.2.1.1 u2.2.1.2.1 u2.2.1.2.2.1).bind fun u3=>
  some (((u3.1.1,u1.1.1.2.1,u1.1.1.2.2.1,u1.1.1.2.2.2.1,()),()),((u3.2.1.1,u3.2.1.2.1,u3.2.1.2.2.1,()),())))
 (cond (u2.1.1==1)
  ((Bc [(-1),1,30,31] u2.2.1.1 u2.2.1.2.1 u2.2.1.2.2.1).bind fun u4=>
  some (((u1.1.1.1,u4.1.1,u1.1.1.2.2.1,u1.1.1.2.2.2.1,()),()),((u4.2.1.1,u4.2.1.2.1,u4.2.1.2.2.1,()),())))
 (cond (u2.1.1==2)
  (some (((u1.1.1.1,u1.1.1.2.1,true,u1.1.1.2.2.2.1,()),()),((u2.2.1.1,u2.2.1.2.1,u2.2.1.2.2.1,()),())))
 (cond (u2.1.1==3)
  ((AF 2 u2.2.1.1 u2.2.1.2.1 u2.2.1.2.2.1).bind fun u5=>
  if(0:Int)≤(AX (40+u5.1.1))∧(AX (40+u5.1.1))≤(AX (40+u5.1.1))∧(AX (40+u5.1.1))≤(DE:Int)then(
  some (((u1.1.1.1,u1.1.1.2.1,u1.1.1.2.2.1,((List.replicate ((AX (40+u5.1.1)).toNat) 0).map fun n:Int=>UInt8.ofNat n.toNat),()),()),((u5.2.1.1,u5.2.1.2.1,u5.2.1.2.2.1,()),())))else none)
 (some (((u1.1.1.1,u1.1.1.2.1,u1.1.1.2.2.1,u1.1.1.2.2.2.1,()),()),((u2.2.1.1,u2.2.1.2.1,u2.2.1.2.2.1,()),()))))))
abbrev JO:Type:=ADy×AFW
abbrev Pe:Type:=List Int→Int→Int→Int→AAF→AAF→Int→AAF→AAF→Option JO
def RZ(R10:Pe)(AH:AAD)(AL AU Dk:Int)(b2 b3:AAF)(J_:Int)(b5 b6:AAF):Option JO:=
 (AF 2 AH AL AU).bind fun Jx=>
 cond ((decide ((b6.length:Int)<(AX (20+Jx.1.1)))))
  ((Bl 5 1).bind fun u16=>
  if b6.length+1≤DE then(
  R10 Jx.2.1.1 Jx.2.1.2.1 Jx.2.1.2.2.1 Dk b2 b3 J_ b5 (b6++[(u16.1.1,0,false,[],())]))else none)
 (some ((((),(),J_,()),()),((Jx.2.1.1,Jx.2.1.2.1,Jx.2.1.2.2.1,()),b5,b6,())))
def JF:Nat→Pe
 |0=>fun _ _ _ _ _ _ _ _ _=>none
 |n+1=>RZ (JF n)
def SM(R10:Pe)(AH:AAD)(AL AU:Int):Option JO:=
 (Dz AH AL AU).bind fun u1=>
 (AF 25 u1.2.1.1 u1.2.1.2.1 u1.2.1.2.2.1).bind fun u2=>
 cond (u2.1.1==0)
  ((Bc [(-1),30,31] u2.2.1.1 u2.2.1.2.1 u2.2.1.2.2.1).bind fun u3=>
  some ((((),(),u3.1.1,()),()),((u3.2.1.1,u3.2.1.2.1,u3.2.1.2.2.1,()),u1.2.2.1,u1.2.2.2.1,())))
 (cond (u2.1.1==1)
  ((MM u2.2.1.1 u2.2.1.2.1 u2.2.1.2.2.1).bind fun u4=>
  if u1.2.2.1.length+1≤DE then(
  some ((((),(),u1.1.1.2.2.1,()),()),((u4.2.1.1,u4.2.1.2.1,u4.2.1.2.2.1,()),(u1.2.2.1++[(u4.1.1.1,u4.1.1.2.1,u4.1.1.2.2.1,u4.1.1.2.2.2.1,())]),u1.2.2.2.1,())))else none)
 (cond (u2.1.1==2)
  ((MM u2.2.1.1 u2.2.1.2.1 u2.2.1.2.2.1).bind fun u9=>
  if u1.2.2.2.1.length+1≤DE then(
  some ((((),(),u1.1.1.2.2.1,()),()),((u9.2.1.1,u9.2.1.2.1,u9.2.1.2.2.1,()),u1.2.2.1,(u1.2.2.2.1++[(u9.1.1.1,u9.1.1.2.1,u9.1.1.2.2.1,u9.1.1.2.2.2.1,())]),())))else none)
 (cond (u2.1.1==3)
  (R10 u2.2.1.1 u2.2.1.2.1 u2.2.1.2.2.1 0 [] [] u1.1.1.2.2.1 u1.2.2.1 u1.2.2.2.1)
 (some ((((),(),u1.1.1.2.2.1,()),()),((u2.2.1.1,u2.2.1.2.1,u2.2.1.2.2.1,()),u1.2.2.1,u1.2.2.2.1,()))))))
def O9(AH:AAD)(AL AU:Int):Option JO:=SM (JF Ac) AH AL AU
abbrev Io:Type:=ACh×AFX
abbrev K6:Type:=Int→List Int→Int→Int→List Int→Int→Int→AAG→Int→AAG→Option Io
def Mr(R3:K6)(t6:Int)(AH:AAD)(AL AU:Int)(A6:AAD)(Aq Je:Int)(b3:AAG)(fT:Int)(b5:AAG):Option Io:=
 (AF 7 AH AL AU).bind fun u1=>
 cond (decide (t6<u1.1.1))
  ((FD (A6,Aq,()) u1.2.1.1 u1.2.1.2.1 u1.2.1.2.2.1).bind fun u2=>
  (I2 (A6,Aq,()) (b5,fT,()) u2.2.2.1).bind fun u3=>
  (AF 4 u2.2.1.1 u2.2.1.2.1 u2.2.1.2.2.1).bind fun u4=>
  cond (u4.1.1==0)
   ((AF 5 u4.2.1.1 u4.2.1.2.1 u4.2.1.2.2.1).bind fun u5=>
   (LH (A6,Aq,()) (b5,fT,()) (b5.length:Int) u5.1.1).bind fun u6=>
   cond (u6.1.1.2.1)
    (R3 (AX (t6+1)) u5.2.1.1 u5.2.1.2.1 u5.2.1.2.2.1 A6 Aq Je b3 u6.1.1.1.2.1 u6.2.1)
   (R3 (AX (t6+1)) u5.2.1.1 u5.2.1.2.1 u5.2.1.2.2.1 A6 Aq Je b3 fT b5))
  (cond (u4.1.1==1)
   ((AF 2 u4.2.1.1 u4.2.1.2.1 u4.2.1.2.2.1).bind fun u7=>
   (AF 4 u7.2.1.1 u7.2.1.2.1 u7.2.1.2.2.1).bind fun u8=>
   (Bl (AX (1+u7.1.1)) (AX (1+u8.1.1))).bind fun u9=>
   (Mw (A6,Aq,()) (b5,fT,()) u9.1.1).bind fun HW=>
   cond (HW.1.1.2.1)
    (R3 (AX (t6+1)) u8.2.1.1 u8.2.1.2.1 u8.2.1.2.2.1 A6 Aq Je b3 HW.1.1.1.2.1 HW.2.1)
   (R3 (AX (t6+1)) u8.2.1.1 u8.2.1.2.1 u8.2.1.2.2.1 A6 Aq Je b3 fT b5))
  (cond (u3.1.1.2.2.1)
   (R3 (AX (t6+1)) u4.2.1.1 u4.2.1.2.1 u4.2.1.2.2.1 A6 Aq Je b3 u3.1.1.1.2.1 u3.2.1)
  (R3 (AX (t6+1)) u4.2.1.1 u4.2.1.2.1 u4.2.1.2.2.1 A6 Aq Je b3 fT b5))))
 (some ((((),fT,()),()),((u1.2.1.1,u1.2.1.2.1,u1.2.1.2.2.1,()),b5,())))
def EX:Nat→K6
 |0=>fun _ _ _ _ _ _ _ _ _ _=>none
 |n+1=>Mr (EX n)
def NH(R3:K6)(p1:AAT)(AH:AAD)(AL AU:Int):Option Io:=
 R3 0 AH AL AU p1.1 p1.2.1 0 [] 0 []
def Kw(p1:AAT)(AH:AAD)(AL AU:Int):Option Io:=NH (EX Ac) p1 AH AL AU
abbrev JM:Type:=ACh×AFX
abbrev Pl:Type:=List Int→List Int→Int→Int→Int→AAG→Int→AAG→Option JM
def Rh(R17:Pl)(t7 AH:AAD)(AL AU Aq:Int)(b2:AAG)(V6:Int)(b4:AAG):Option JM:=
 (AF 2 AH AL AU).bind fun Qo=>
 cond ((decide ((b4.length:Int)<(AX (30+Qo.1.1)))))
  (if b4.length+1≤DE then(
  R17 t7 Qo.2.1.1 Qo.2.1.2.1 Qo.2.1.2.2.1 Aq b2 V6 (b4++[(t7,false,0,())]))else none)
 (some ((((),V6,()),()),((Qo.2.1.1,Qo.2.1.2.1,Qo.2.1.2.2.1,()),b4,())))
def JL:Nat→Pl
 |0=>fun _ _ _ _ _ _ _ _=>none
 |n+1=>Rh (JL n)
def SJ(R17:Pl)(p1:AAT)(AH:AAD)(AL AU:Int):Option JM:=
 (Kw (p1.1,p1.2.1,()) AH AL AU).bind fun u1=>
 let x2:Int:=(u1.2.2.1.length:Int)
 (AF 25 u1.2.1.1 u1.2.1.2.1 u1.2.1.2.2.1).bind fun u3=>
 cond (u3.1.1==0)
  ((CY u3.2.1.1 u3.2.1.2.1 u3.2.1.2.2.1).bind fun u4=>
  some ((((),u4.1.1,()),()),((u4.2.1.1,u4.2.1.2.1,u4.2.1.2.2.1,()),u1.2.2.1,())))
 (cond (u3.1.1==1)
  (cond (decide (x2>0))
   (if(0:Int)≤AX (x2-1)∧AX (x2-1)<(u1.2.2.1.length:Int)then(
   some ((((),u1.1.1.2.1,()),()),((u3.2.1.1,u3.2.1.2.1,u3.2.1.2.2.1,()),(u1.2.2.1.set ((AX (x2-1)).toNat) ((u1.2.2.1.getD ((AX (x2-1)).toNat) ([],false,0,())).1,true,(u1.2.2.1.getD ((AX (x2-1)).toNat) ([],false,0,())).2.2.1,())),())))else none)
  (some ((((),u1.1.1.2.1,()),()),((u3.2.1.1,u3.2.1.2.1,u3.2.1.2.2.1,()),u1.2.2.1,()))))
 (cond (u3.1.1==2)
  (cond (decide (x2>0))
   ((Bc [(-1),1,60,61] u3.2.1.1 u3.2.1.2.1 u3.2.1.2.2.1).bind fun u6=>
   if(0:Int)≤(0:Int)∧(0:Int)<(u1.2.2.1.length:Int)then(
   some ((((),u1.1.1.2.1,()),()),((u6.2.1.1,u6.2.1.2.1,u6.2.1.2.2.1,()),(u1.2.2.1.set 0 ((u1.2.2.1.getD 0 ([],false,0,())).1,(u1.2.2.1.getD 0 ([],false,0,())).2.1,u6.1.1,())),())))else none)
  (some ((((),u1.1.1.2.1,()),()),((u3.2.1.1,u3.2.1.2.1,u3.2.1.2.2.1,()),u1.2.2.1,()))))
 (cond (u3.1.1==3)
  (cond (decide (x2>0))
   ((DG (p1.1,p1.2.1,()) u3.2.1.1 u3.2.1.2.1 u3.2.1.2.2.1).bind fun u8=>
   if(0:Int)≤(0:Int)∧(0:Int)<(u1.2.2.1.length:Int)then(
   some ((((),u1.1.1.2.1,()),()),((u8.2.1.1,u8.2.1.2.1,u8.2.1.2.2.1,()),(u1.2.2.1.set 0 (u8.2.2.1,(u1.2.2.1.getD 0 ([],false,0,())).2.1,(u1.2.2.1.getD 0 ([],false,0,())).2.2.1,())),())))else none)
  (some ((((),u1.1.1.2.1,()),()),((u3.2.1.1,u3.2.1.2.1,u3.2.1.2.2.1,()),u1.2.2.1,()))))
 (cond (u3.1.1==4)
  ((FD (p1.1,p1.2.1,()) u3.2.1.1 u3.2.1.2.1 u3.2.1.2.2.1).bind fun HW=>
  R17 HW.2.2.1 HW.2.1.1 HW.2.1.2.1 HW.2.1.2.2.1 0 [] u1.1.1.2.1 u1.2.2.1)
 (some ((((),u1.1.1.2.1,()),()),((u3.2.1.1,u3.2.1.2.1,u3.2.1.2.2.1,()),u1.2.2.1,())))))))
def O7(p1:AAT)(AH:AAD)(AL AU:Int):Option JM:=SJ (JL Ac) p1 AH AL AU
abbrev Im:Type:=AEw×AFY
abbrev LD:Type:=Int→List Int→Int→Int→List Int→Int→Int→AAf→Int→AAf→Option Im
def NL(R3:LD)(t6:Int)(AH:AAD)(AL AU:Int)(A6:AAD)(Aq Ix:Int)(b3:AAf)(kb:Int)(b5:AAf):Option Im:=
 (AF 14 AH AL AU).bind fun u2=>
 cond (decide (t6<u2.1.1))
  ((Ee [[],[97],[98,99]] u2.2.1.1 u2.2.1.2.1 u2.2.1.2.2.1).bind fun u3=>
  (ES (A6,Aq,()) (kb,b5,()) u3.1.1).bind fun u4=>
  (Aj 2 u3.2.1.1 u3.2.1.2.1 u3.2.1.2.2.1).bind fun u5=>
  cond (u5.1.1)
   ((DR (b5.length:Int) 1).bind fun u6=>
   (AF u6.1.1 u5.2.1.1 u5.2.1.2.1 u5.2.1.2.2.1).bind fun u7=>
   (AF (A6.length:Int) u7.2.1.1 u7.2.1.2.1 u7.2.1.2.2.1).bind fun u8=>
   (CZ (A6,Aq,()) (kb,b5,()) (AX (1+u7.1.1)) u8.1.1).bind fun u9=>
   cond (u9.1.1.2.1)
    (R3 (AX (t6+1)) u8.2.1.1 u8.2.1.2.1 u8.2.1.2.2.1 A6 Aq Ix b3 u9.1.1.1.1 u9.2.1)
   (R3 (AX (t6+1)) u8.2.1.1 u8.2.1.2.1 u8.2.1.2.2.1 A6 Aq Ix b3 kb b5))
  (cond (u4.1.1.2.2.1)
   (R3 (AX (t6+1)) u5.2.1.1 u5.2.1.2.1 u5.2.1.2.2.1 A6 Aq Ix b3 u4.1.1.1.1 u4.2.1)
  (R3 (AX (t6+1)) u5.2.1.1 u5.2.1.2.1 u5.2.1.2.2.1 A6 Aq Ix b3 kb b5)))
 (some (((kb,(),()),()),((u2.2.1.1,u2.2.1.2.1,u2.2.1.2.2.1,()),b5,())))
def F4:Nat→LD
 |0=>fun _ _ _ _ _ _ _ _ _ _=>none
 |n+1=>NL (F4 n)
def M8(R3:LD)(p1:AAT)(AH:AAD)(AL AU:Int):Option Im:=
 (AF 4 AH AL AU).bind fun u1=>
 R3 0 u1.2.1.1 u1.2.1.2.1 u1.2.1.2.2.1 p1.1 p1.2.1 0 [] (AX (1+u1.1.1)) []
def Ke(p1:AAT)(AH:AAD)(AL AU:Int):Option Im:=M8 (F4 Ac) p1 AH AL AU
abbrev JP:Type:=AEw×AFY
abbrev Pc:Type:=List Int→Int→Int→Int→AAf→Int→AAf→Option JP
def L4(gJ:Pc)(AH:AAD)(AL AU A6:Int)(b2:AAf)(Xt:Int)(b4:AAf):Option JP:=
 cond ((decide ((b4.length:Int)<60)))
  (cond ((decide ((b4.length:Int)>0)))
   (if(0:Int)≤(0:Int)∧(0:Int)<(b4.length:Int)then(
   if b4.length+1≤DE then(
   gJ AH AL AU A6 b2 Xt (b4++[((b4.getD 0 ([],[],false,())).1,(b4.getD 0 ([],[],false,())).2.1,(b4.getD 0 ([],[],false,())).2.2.1,())]))else none)else none)
  (some (((Xt,(),()),()),((AH,AL,AU,()),b4,()))))
 (some (((Xt,(),()),()),((AH,AL,AU,()),b4,())))
def Ed:Nat→Pc
 |0=>fun _ _ _ _ _ _ _=>none
 |n+1=>L4 (Ed n)
def Ji(gJ:Pc)(p1:AAT)(AH:AAD)(AL AU:Int):Option JP:=
 (Ke (p1.1,p1.2.1,()) AH AL AU).bind fun u1=>
 (AF 25 u1.2.1.1 u1.2.1.2.1 u1.2.1.2.2.1).bind fun u2=>
 cond (u2.1.1==0)
  ((Bc [0,30,31] u2.2.1.1 u2.2.1.2.1 u2.2.1.2.2.1).bind fun u3=>
  some (((u3.1.1,(),()),()),((u3.2.1.1,u3.2.1.2.1,u3.2.1.2.2.1,()),u1.2.2.1,())))
 (cond (u2.1.1==1)
  (cond (decide ((u1.2.2.1.length:Int)>0))
   (if(0:Int)≤(0:Int)∧(0:Int)<(u1.2.2.1.length:Int)then(
   if(0:Int)≤(0:Int)∧(0:Int)<(u1.2.2.1.length:Int)then(
   some (((u1.1.1.1,(),()),()),((u2.2.1.1,u2.2.1.2.1,u2.2.1.2.2.1,()),(u1.2.2.1.set 0 ((u1.2.2.1.getD 0 ([],[],false,())).1,(u1.2.2.1.getD 0 ([],[],false,())).2.1,!((u1.2.2.1.getD 0 ([],[],false,())).2.2.1),())),())))else none)else none)
  (some (((u1.1.1.1,(),()),()),((u2.2.1.1,u2.2.1.2.1,u2.2.1.2.2.1,()),u1.2.2.1,()))))
 (cond (u2.1.1==2)
  ((AF 2 u2.2.1.1 u2.2.1.2.1 u2.2.1.2.2.1).bind fun u7=>
  if(0:Int)≤(AX (40+u7.1.1))∧(AX (40+u7.1.1))≤(AX (40+u7.1.1))∧(AX (40+u7.1.1))≤(DE:Int)then(
  if u1.2.2.1.length+1≤DE then(
  some (((u1.1.1.1,(),()),()),((u7.2.1.1,u7.2.1.2.1,u7.2.1.2.2.1,()),(u1.2.2.1++[(((List.replicate ((AX (40+u7.1.1)).toNat) 0).map fun n:Int=>UInt8.ofNat n.toNat),[],false,())]),())))else none)else none)
 (cond (u2.1.1==3)
  (gJ u2.2.1.1 u2.2.1.2.1 u2.2.1.2.2.1 0 [] u1.1.1.1 u1.2.2.1)
 (some (((u1.1.1.1,(),()),()),((u2.2.1.1,u2.2.1.2.1,u2.2.1.2.2.1,()),u1.2.2.1,()))))))
def KJ(p1:AAT)(AH:AAD)(AL AU:Int):Option JP:=Ji (Ed Ac) p1 AH AL AU
abbrev EP:Type:=AAu×AAv
abbrev Pn:Type:=Int→List Int→Int→List Int→Option EP
def Q0(R3:Pn)(t6:Int)(AH:AAD)(AL:Int)(b1:AAD):Option EP:=
 cond ((decide (t6<(AH.length:Int))))
  ((C_ (AH,AL,()) b1).bind fun u2=>
  cond (!u2.1.1)
   ((Fp b1 t6).bind fun u3=>
   R3 (AX (t6+1)) AH AL u3.2.1)
  (some (((),()),(b1,()))))
 (some (((),()),(b1,())))
def JG:Nat→Pn
 |0=>fun _ _ _ _=>none
 |n+1=>Q0 (JG n)
def Ra(R3:Pn)(p0:AAT)(p1:AAY):Option EP:=
 if 0+p1.2.2.1.length≤DE then(
 R3 0 p0.1 p0.2.1 p1.2.2.1)else none
def Iy(p0:AAT)(p1:AAY):Option EP:=Ra (JG Ac) p0 p1
abbrev Et:Type:=ADd×AFZ
abbrev Hy:Type:=Int→Int→List Int→Int→Int→List Int→Int→Int→Int→Bool→List Int→AAF→List AAD→Int→Int→Bool→List Int→AAF→List AAD→Option Et
abbrev He:Type:=Int→List Int→Int→Int→List Int→Int→Int→Int→Bool→List Int→AAF→List AAD→Int→Int→Bool→List Int→AAF→List AAD→Option Et
def I4(R4:Hy)(bn:He)(t6 t7:Int)(AH:AAD)(AL AU:Int)(A6:AAD)(Aq Ix Je:Int)(MX:Bool)(b3:AAD)(b4:AAF)(b5:List AAD)(JW Ih:Int)(JZ:Bool)(b7:AAD)(b8:AAF)(b9:List AAD):Option Et:=
 cond (decide (t7<t6))
  ((AF (A6.length:Int) AH AL AU).bind fun u4=>
  (Dz u4.2.1.1 u4.2.1.2.1 u4.2.1.2.2.1).bind fun u5=>
  (GF (u5.2.2.1,u5.2.2.2.1,u5.1.1.2.2.1,()) Ih).bind fun u6=>
  (GC (A6,Aq,()) (JW,Ih,b7,b8,JZ,b9,()) u4.1.1 u6.2.1).bind fun u7=>
  cond (u7.1.1.2.1)
   (R4 t6 (AX (t7+1)) u5.2.1.1 u5.2.1.2.1 u5.2.1.2.2.1 A6 Aq Ix Je MX b3 b4 b5 u7.1.1.1.1 u7.1.1.1.2.1 u7.1.1.1.2.2.2.2.1 u7.2.1 u7.2.2.1 u7.2.2.2.1)
  (R4 t6 (AX (t7+1)) u5.2.1.1 u5.2.1.2.1 u5.2.1.2.2.1 A6 Aq Ix Je MX b3 b4 b5 JW Ih JZ b7 b8 b9))
 ((Aj 3 AH AL AU).bind fun Rr=>
 cond (Rr.1.1)
  (some (((JW,Ih,(),(),JZ,(),()),()),((Rr.2.1.1,Rr.2.1.2.1,Rr.2.1.2.2.1,()),b7,b8,b9,())))
 ((Iy (A6,Aq,()) (JW,Ih,b7,b8,JZ,b9,())).bind fun XO=>
 (GH (A6,Aq,()) (JW,Ih,b7,b8,JZ,b9,()) XO.2.1).bind fun PB=>
 cond (PB.1.1.2.1)
  (bn 0 Rr.2.1.1 Rr.2.1.2.1 Rr.2.1.2.2.1 A6 Aq Ix Je MX b3 b4 b5 PB.1.1.1.1 PB.1.1.1.2.1 PB.1.1.1.2.2.2.2.1 PB.2.1 PB.2.2.1 PB.2.2.2.1)
 (bn 0 Rr.2.1.1 Rr.2.1.2.1 Rr.2.1.2.2.1 A6 Aq Ix Je MX b3 b4 b5 JW Ih JZ b7 b8 b9)))
def IA(R4:Hy)(bn:He)(t12:Int)(AH:AAD)(AL AU:Int)(A6:AAD)(Aq Ix Je:Int)(MX:Bool)(b3:AAD)(b4:AAF)(b5:List AAD)(JW Ih:Int)(JZ:Bool)(b7:AAD)(b8:AAF)(b9:List AAD):Option Et:=
 (AF 9 AH AL AU).bind fun JA=>
 cond ((decide (t12<JA.1.1)))
  ((DR (b9.length:Int) 1).bind fun X2=>
  (AF X2.1.1 JA.2.1.1 JA.2.1.2.1 JA.2.1.2.2.1).bind fun Yf=>
  (AF (A6.length:Int) Yf.2.1.1 Yf.2.1.2.1 Yf.2.1.2.2.1).bind fun OL=>
  (Cr (A6,Aq,()) (JW,Ih,b7,b8,JZ,b9,()) (AX (1+Yf.1.1)) OL.1.1).bind fun Vc=>
  cond (Vc.1.1.2.1)
   (bn (AX (t12+1)) OL.2.1.1 OL.2.1.2.1 OL.2.1.2.2.1 A6 Aq Ix Je MX b3 b4 b5 Vc.1.1.1.1 Vc.1.1.1.2.1 Vc.1.1.1.2.2.2.2.1 Vc.2.1 Vc.2.2.1 Vc.2.2.2.1)
  (bn (AX (t12+1)) OL.2.1.1 OL.2.1.2.1 OL.2.1.2.2.1 A6 Aq Ix Je MX b3 b4 b5 JW Ih JZ b7 b8 b9))
 (some (((JW,Ih,(),(),JZ,(),()),()),((JA.2.1.1,JA.2.1.2.1,JA.2.1.2.2.1,()),b7,b8,b9,())))
mutual
def BL:Nat→Hy
 |0=>fun _ _ _ _ _ _ _ _ _ _ _ _ _ _ _ _ _ _ _=>none
 |n+1=>I4 (BL n) (As n)
def As:Nat→He
 |0=>fun _ _ _ _ _ _ _ _ _ _ _ _ _ _ _ _ _ _=>none
 |n+1=>IA (BL n) (As n)
end
def I6(R4:Hy)(bn:He)(p1:AAT)(AH:AAD)(AL AU:Int):Option Et:=
 (AF 2 AH AL AU).bind fun u1=>
 (Iu (AX (1+u1.1.1)) 4).bind fun u2=>
 (AF 5 u1.2.1.1 u1.2.1.2.1 u1.2.1.2.2.1).bind fun u3=>
 R4 u3.1.1 0 u3.2.1.1 u3.2.1.2.1 u3.2.1.2.2.1 p1.1 p1.2.1 0 0 false [] [] [] u2.1.1.1 u2.1.1.2.1 u2.1.1.2.2.2.2.1 u2.2.1 u2.2.2.1 u2.2.2.2.1
def IC(p1:AAT)(AH:AAD)(AL AU:Int):Option Et:=I6 (BL Ac) (As Ac) p1 AH AL AU
abbrev TP:Type:=ADd×AFZ
def On(p1:AAT)(AH:AAD)(AL AU:Int):Option TP:=
 (IC (p1.1,p1.2.1,()) AH AL AU).bind fun u1=>
 (AF 25 u1.2.1.1 u1.2.1.2.1 u1.2.1.2.2.1).bind fun u2=>
 cond (u2.1.1==0)
  ((Bc [u1.1.1.2.1,30,31] u2.2.1.1 u2.2.1.2.1 u2.2.1.2.2.1).bind fun u3=>
  some (((u3.1.1,u1.1.1.2.1,(),(),u1.1.1.2.2.2.2.1,(),()),()),((u3.2.1.1,u3.2.1.2.1,u3.2.1.2.2.1,()),u1.2.2.1,u1.2.2.2.1,u1.2.2.2.2.1,())))
 (cond (u2.1.1==1)
  (some (((u1.1.1.1,u1.1.1.2.1,(),(),!u1.1.1.2.2.2.2.1,(),()),()),((u2.2.1.1,u2.2.1.2.1,u2.2.1.2.2.1,()),u1.2.2.1,u1.2.2.2.1,u1.2.2.2.2.1,())))
 (cond (u2.1.1==2)
  ((DG (p1.1,p1.2.1,()) u2.2.1.1 u2.2.1.2.1 u2.2.1.2.2.1).bind fun u4=>
  if u1.2.2.2.2.1.length+1≤DE then(
  some (((u1.1.1.1,u1.1.1.2.1,(),(),u1.1.1.2.2.2.2.1,(),()),()),((u4.2.1.1,u4.2.1.2.1,u4.2.1.2.2.1,()),u1.2.2.1,u1.2.2.2.1,(u1.2.2.2.2.1++[u4.2.2.1]),())))else none)
 (cond (u2.1.1==3)
  ((MM u2.2.1.1 u2.2.1.2.1 u2.2.1.2.2.1).bind fun u9=>
  if u1.2.2.2.1.length+1≤DE then(
  some (((u1.1.1.1,u1.1.1.2.1,(),(),u1.1.1.2.2.2.2.1,(),()),()),((u9.2.1.1,u9.2.1.2.1,u9.2.1.2.2.1,()),u1.2.2.1,(u1.2.2.2.1++[(u9.1.1.1,u9.1.1.2.1,u9.1.1.2.2.1,u9.1.1.2.2.2.1,())]),u1.2.2.2.2.1,())))else none)
 (cond (u2.1.1==4)
  ((DG (p1.1,p1.2.1,()) u2.2.1.1 u2.2.1.2.1 u2.2.1.2.2.1).bind fun Jx=>
  some (((u1.1.1.1,u1.1.1.2.1,(),(),u1.1.1.2.2.2.2.1,(),()),()),((Jx.2.1.1,Jx.2.1.2.1,Jx.2.1.2.2.1,()),Jx.2.2.1,u1.2.2.2.1,u1.2.2.2.2.1,())))
 (some (((u1.1.1.1,u1.1.1.2.1,(),(),u1.1.1.2.2.2.2.1,(),()),()),((u2.2.1.1,u2.2.1.2.1,u2.2.1.2.2.1,()),u1.2.2.1,u1.2.2.2.1,u1.2.2.2.2.1,())))))))
abbrev D9:Type:=ADs×(AA8×ADE×Unit)
abbrev Jd:Type:=Int→List Int→Int→Int→Int→Int→ADE→Int→Int→ADE→Option D9
def LR(R3:Jd)(t4:Int)(AH:AAD)(AL AU A6 Aq:Int)(b2:ADE)(Xt V6:Int)(b4:ADE):Option D9:=
 (AF 4 AH AL AU).bind fun u3=>
 cond (decide (t4<u3.1.1))
  ((AF 5 u3.2.1.1 u3.2.1.2.1 u3.2.1.2.2.1).bind fun u4=>
  (CY u4.2.1.1 u4.2.1.2.1 u4.2.1.2.2.1).bind fun u5=>
  if b4.length+1≤DE then(
  R3 (AX (t4+1)) u5.2.1.1 u5.2.1.2.1 u5.2.1.2.2.1 A6 Aq b2 Xt V6 (b4++[(AX (1+u4.1.1),u5.1.1,[],())]))else none)
 ((AF 25 u3.2.1.1 u3.2.1.2.1 u3.2.1.2.2.1).bind fun T5=>
 cond (T5.1.1==0)
  ((Bc [0,31,32] T5.2.1.1 T5.2.1.2.1 T5.2.1.2.2.1).bind fun Jx=>
  some (((Jx.1.1,V6,(),()),()),((Jx.2.1.1,Jx.2.1.2.1,Jx.2.1.2.2.1,()),b4,())))
 (cond (T5.1.1==1)
  ((Bc [0,60,61,62] T5.2.1.1 T5.2.1.2.1 T5.2.1.2.2.1).bind fun kA=>
  some (((Xt,kA.1.1,(),()),()),((kA.2.1.1,kA.2.1.2.1,kA.2.1.2.2.1,()),b4,())))
 (cond (T5.1.1==2)
  ((AF 2 T5.2.1.1 T5.2.1.2.1 T5.2.1.2.2.1).bind fun u16=>
  if(0:Int)≤(AX (120+u16.1.1))∧(AX (120+u16.1.1))≤(AX (120+u16.1.1))∧(AX (120+u16.1.1))≤(DE:Int)then(
  some (((Xt,V6,(),()),()),((u16.2.1.1,u16.2.1.2.1,u16.2.1.2.2.1,()),(List.replicate ((AX (120+u16.1.1)).toNat) (0,0,[],())),())))else none)
 (some (((Xt,V6,(),()),()),((T5.2.1.1,T5.2.1.2.1,T5.2.1.2.2.1,()),b4,()))))))
def Ej:Nat→Jd
 |0=>fun _ _ _ _ _ _ _ _ _ _=>none
 |n+1=>LR (Ej n)
def LU(R3:Jd)(AH:AAD)(AL AU:Int):Option D9:=
 (AF 3 AH AL AU).bind fun u1=>
 (AF 5 u1.2.1.1 u1.2.1.2.1 u1.2.1.2.2.1).bind fun u2=>
 R3 0 u2.2.1.1 u2.2.1.2.1 u2.2.1.2.2.1 0 0 [] (AX (1+u1.1.1)) (AX (1+u2.1.1)) []
def Gk(AH:AAD)(AL AU:Int):Option D9:=LU (Ej Ac) AH AL AU
abbrev Wf:Type:=AD1×(AA8×List Int×AAH×List Int×AAG×AAP×AAQ×AAS×AAL×Unit)
def Fb(p1 AH:AAD)(AL AU:Int):Option Wf:=
 (Ov p1 40 90).bind fun u1=>
 (HK u1.1.1 AH AL AU).bind fun u2=>
 let x4:AAD:=u2.2.2.2.2.2.2.2.2.2.2.2.1
 let x5:AAH:=u2.2.2.2.2.2.2.2.2.2.2.2.2.1
 let x6:AAD:=u2.2.2.2.2.2.2.2.2.2.2.2.2.2.1
 let x7:AAG:=u2.2.2.2.2.2.2.2.2.2.2.2.2.2.2.1
 let x8:AAP:=u2.2.2.2.2.2.2.2.2.2.2.2.2.2.2.2.1
 let x9:AAQ:=u2.2.2.2.2.2.2.2.2.2.2.2.2.2.2.2.2.1
 let Ub:AAS:=u2.2.2.2.2.2.2.2.2.2.2.2.2.2.2.2.2.2.1
 let U1:AAL:=u2.2.2.2.2.2.2.2.2.2.2.2.2.2.2.2.2.2.2.1
 (AF 40 u2.2.1.1 u2.2.1.2.1 u2.2.1.2.2.1).bind fun Ct=>
 cond (Ct.1.1==0)
  ((DG (x4,u2.1.1.2.2.1.2.1,()) Ct.2.1.1 Ct.2.1.2.1 Ct.2.1.2.2.1).bind fun T5=>
  some ((((),u2.1.1.2.2.1.2.1,(),(),(),u2.1.1.2.2.1.2.2.2.2.2.1,(),(),(),(),u2.1.1.2.2.1.2.2.2.2.2.2.2.2.2.2.1,()),()),((T5.2.1.1,T5.2.1.2.1,T5.2.1.2.2.1,()),x4,x5,T5.2.2.1,x7,x8,x9,Ub,U1,())))
 (cond (Ct.1.1==1)
  ((O9 Ct.2.1.1 Ct.2.1.2.1 Ct.2.1.2.2.1).bind fun Jx=>
  if(0:Int)≤(0:Int)∧(0:Int)<(x5.length:Int)then(
  some ((((),u2.1.1.2.2.1.2.1,(),(),(),u2.1.1.2.2.1.2.2.2.2.2.1,(),(),(),(),u2.1.1.2.2.1.2.2.2.2.2.2.2.2.2.2.1,()),()),((Jx.2.1.1,Jx.2.1.2.1,Jx.2.1.2.2.1,()),x4,(x5.set 0 (Jx.2.2.1,Jx.2.2.2.1,Jx.1.1.2.2.1,())),x6,x7,x8,x9,Ub,U1,())))else none)
 (cond (Ct.1.1==2)
  ((O7 (x4,u2.1.1.2.2.1.2.1,()) Ct.2.1.1 Ct.2.1.2.1 Ct.2.1.2.2.1).bind fun u16=>
  some ((((),u2.1.1.2.2.1.2.1,(),(),(),u16.1.1.2.1,(),(),(),(),u2.1.1.2.2.1.2.2.2.2.2.2.2.2.2.2.1,()),()),((u16.2.1.1,u16.2.1.2.1,u16.2.1.2.2.1,()),x4,x5,x6,u16.2.2.1,x8,x9,Ub,U1,())))
 (cond (Ct.1.1==3)
  ((KJ (x4,u2.1.1.2.2.1.2.1,()) Ct.2.1.1 Ct.2.1.2.1 Ct.2.1.2.2.1).bind fun T_=>
  if x8.length+1≤DE then(
  some ((((),u2.1.1.2.2.1.2.1,(),(),(),u2.1.1.2.2.1.2.2.2.2.2.1,(),(),(),(),u2.1.1.2.2.1.2.2.2.2.2.2.2.2.2.2.1,()),()),((T_.2.1.1,T_.2.1.2.1,T_.2.1.2.2.1,()),x4,x5,x6,x7,(x8++[(T_.1.1.1,T_.2.2.1,())]),x9,Ub,U1,())))else none)
 (cond (Ct.1.1==4)
  ((On (x4,u2.1.1.2.2.1.2.1,()) Ct.2.1.1 Ct.2.1.2.1 Ct.2.1.2.2.1).bind fun JA=>
  if x9.length+1≤DE then(
  some ((((),u2.1.1.2.2.1.2.1,(),(),(),u2.1.1.2.2.1.2.2.2.2.2.1,(),(),(),(),u2.1.1.2.2.1.2.2.2.2.2.2.2.2.2.2.1,()),()),((JA.2.1.1,JA.2.1.2.1,JA.2.1.2.2.1,()),x4,x5,x6,x7,x8,(x9++[(JA.1.1.1,JA.1.1.2.1,JA.2.2.1,JA.2.2.2.1,JA.1.1.2.2.2.2.1,JA.2.2.2.2.1,())]),Ub,U1,())))else none)
 (cond (Ct.1.1==5)
  ((Gk Ct.2.1.1 Ct.2.1.2.1 Ct.2.1.2.2.1).bind fun bZ=>
  if(0:Int)≤(0:Int)∧(0:Int)<(Ub.length:Int)then(
  some ((((),u2.1.1.2.2.1.2.1,(),(),(),u2.1.1.2.2.1.2.2.2.2.2.1,(),(),(),(),u2.1.1.2.2.1.2.2.2.2.2.2.2.2.2.2.1,()),()),((bZ.2.1.1,bZ.2.1.2.1,bZ.2.1.2.2.1,()),x4,x5,x6,x7,x8,x9,(Ub.set 0 (bZ.1.1.1,bZ.1.1.2.1,bZ.2.2.1,())),U1,())))else none)
 (cond (Ct.1.1==6)
  ((CY Ct.2.1.1 Ct.2.1.2.1 Ct.2.1.2.2.1).bind fun Ux=>
  if U1.length+1≤DE then(
  some ((((),u2.1.1.2.2.1.2.1,(),(),(),u2.1.1.2.2.1.2.2.2.2.2.1,(),(),(),(),u2.1.1.2.2.1.2.2.2.2.2.2.2.2.2.2.1,()),()),((Ux.2.1.1,Ux.2.1.2.1,Ux.2.1.2.2.1,()),x4,x5,x6,x7,x8,x9,Ub,(U1++[(Ux.1.1,[],false,())]),())))else none)
 (cond (Ct.1.1==7)
  (some ((((),u2.1.1.2.2.1.2.1,(),(),(),u2.1.1.2.2.1.2.2.2.2.2.1,(),(),(),(),!u2.1.1.2.2.1.2.2.2.2.2.2.2.2.2.2.1,()),()),((Ct.2.1.1,Ct.2.1.2.1,Ct.2.1.2.2.1,()),x4,x5,x6,x7,x8,x9,Ub,U1,())))
 (cond (Ct.1.1==8)
  ((MU Ct.2.1.1 Ct.2.1.2.1 Ct.2.1.2.2.1).bind fun aM=>
  some ((((),aM.1.1.2.1,(),(),(),u2.1.1.2.2.1.2.2.2.2.2.1,(),(),(),(),u2.1.1.2.2.1.2.2.2.2.2.2.2.2.2.2.1,()),()),((aM.2.1.1,aM.2.1.2.1,aM.2.1.2.2.1,()),aM.2.2.1,x5,x6,x7,x8,x9,Ub,U1,())))
 (some ((((),u2.1.1.2.2.1.2.1,(),(),(),u2.1.1.2.2.1.2.2.2.2.2.1,(),(),(),(),u2.1.1.2.2.1.2.2.2.2.2.2.2.2.2.2.1,()),()),((Ct.2.1.1,Ct.2.1.2.1,Ct.2.1.2.2.1,()),x4,x5,x6,x7,x8,x9,Ub,U1,())))))))))))
abbrev Wh:Type:=AAl×ABd
def Jm(p1:AAd)(AH:AAD)(AL AU:Int):Option Wh:=
 cond (decide ((p1.2.2.2.2.2.2.2.2.2.1.length:Int)>0))
  ((Aj 4 AH AL AU).bind fun u2=>
  cond (!u2.1.1)
   ((AF (p1.2.2.2.2.2.2.2.2.2.1.length:Int) u2.2.1.1 u2.2.1.2.1 u2.2.1.2.2.1).bind fun u4=>
   if(0:Int)≤u4.1.1∧u4.1.1<(p1.2.2.2.2.2.2.2.2.2.1.length:Int)then(
   some ((((p1.2.2.2.2.2.2.2.2.2.1.getD (u4.1.1.toNat) (0,[],false,())).1),()),((u4.2.1.1,u4.2.1.2.1,u4.2.1.2.2.1,()),())))else none)
  ((CY u2.2.1.1 u2.2.1.2.1 u2.2.1.2.2.1).bind fun u6=>
  some ((u6.1.1,()),((u6.2.1.1,u6.2.1.2.1,u6.2.1.2.2.1,()),()))))
 ((CY AH AL AU).bind fun u7=>
 some ((u7.1.1,()),((u7.2.1.1,u7.2.1.2.1,u7.2.1.2.2.1,()),())))
abbrev IM:Type:=AD1×ACH
def Qj(p0:AAD):Option IM:=
 (Rf p0).bind fun u1=>
 (Fb p0 u1.2.1.1 u1.2.1.2.1 u1.2.1.2.2.1).bind fun u2=>
 let x3:AAL:=u2.2.2.2.2.2.2.2.2.2.1
 (HQ (u2.2.2.1,u2.1.1.2.1,u2.2.2.2.1,u2.2.2.2.2.1,u2.2.2.2.2.2.1,u2.1.1.2.2.2.2.2.1,u2.2.2.2.2.2.2.1,u2.2.2.2.2.2.2.2.1,u2.2.2.2.2.2.2.2.2.1,x3,u2.1.1.2.2.2.2.2.2.2.2.2.2.1,())).bind fun u4=>
 cond (!u4.1.1)
  (some ((((),u2.1.1.2.1,(),(),(),u2.1.1.2.2.2.2.2.1,(),(),(),(),u2.1.1.2.2.2.2.2.2.2.2.2.2.1,()),()),(u2.2.2.1,u2.2.2.2.1,u2.2.2.2.2.1,u2.2.2.2.2.2.1,u2.2.2.2.2.2.2.1,u2.2.2.2.2.2.2.2.1,u2.2.2.2.2.2.2.2.2.1,x3,())))
 ((AF 2 u2.2.1.1 u2.2.1.2.1 u2.2.1.2.2.1).bind fun u5=>
 if(0:Int)≤u5.1.1∧u5.1.1<(u2.2.2.2.2.2.2.2.2.1.length:Int)then(
 let x6:Int:=(((u2.2.2.2.2.2.2.2.2.1.getD (u5.1.1.toNat) (0,0,[],())).2.2.1).length:Int)
 cond (x6==0)
  (some ((((),u2.1.1.2.1,(),(),(),u2.1.1.2.2.2.2.2.1,(),(),(),(),u2.1.1.2.2.2.2.2.2.2.2.2.2.1,()),()),(u2.2.2.1,u2.2.2.2.1,u2.2.2.2.2.1,u2.2.2.2.2.2.1,u2.2.2.2.2.2.2.1,u2.2.2.2.2.2.2.2.1,u2.2.2.2.2.2.2.2.2.1,x3,())))
 ((AF x6 u5.2.1.1 u5.2.1.2.1 u5.2.1.2.2.1).bind fun u7=>
 (AF 9 u7.2.1.1 u7.2.1.2.1 u7.2.1.2.2.1).bind fun u8=>
 cond (u8.1.1==0)
  (if(0:Int)≤u5.1.1∧u5.1.1<(u2.2.2.2.2.2.2.2.2.1.length:Int)then(
  (AF 5 u8.2.1.1 u8.2.1.2.1 u8.2.1.2.2.1).bind fun u9=>
  if(0:Int)≤u7.1.1∧u7.1.1<(((u2.2.2.2.2.2.2.2.2.1.getD (u5.1.1.toNat) (0,0,[],())).2.2.1).length:Int)then(
  some ((((),u2.1.1.2.1,(),(),(),u2.1.1.2.2.2.2.2.1,(),(),(),(),u2.1.1.2.2.2.2.2.2.2.2.2.2.1,()),()),(u2.2.2.1,u2.2.2.2.1,u2.2.2.2.2.1,u2.2.2.2.2.2.1,u2.2.2.2.2.2.2.1,u2.2.2.2.2.2.2.2.1,(u2.2.2.2.2.2.2.2.2.1.set (u5.1.1.toNat) ((u2.2.2.2.2.2.2.2.2.1.getD (u5.1.1.toNat) (0,0,[],())).1,(u2.2.2.2.2.2.2.2.2.1.getD (u5.1.1.toNat) (0,0,[],())).2.1,(((u2.2.2.2.2.2.2.2.2.1.getD (u5.1.1.toNat) (0,0,[],())).2.2.1).set (u7.1.1.toNat) (AX (1+u9.1.1),(((u2.2.2.2.2.2.2.2.2.1.getD (u5.1.1.toNat) (0,0,[],())).2.2.1).getD (u7.1.1.toNat) (0,0,[],())).2.1,(((u2.2.2.2.2.2.2.2.2.1.getD (u5.1.1.toNat) (0,0,[],())).2.2.1).getD (u7.1.1.toNat) (0,0,[],())).2.2.1,())),())),x3,())))else none)else none)
 (cond (u8.1.1==1)
  (if(0:Int)≤u5.1.1∧u5.1.1<(u2.2.2.2.2.2.2.2.2.1.length:Int)then(
  if(0:Int)≤u7.1.1∧u7.1.1<(((u2.2.2.2.2.2.2.2.2.1.getD (u5.1.1.toNat) (0,0,[],())).2.2.1).length:Int)then(
  some ((((),u2.1.1.2.1,(),(),(),u2.1.1.2.2.2.2.2.1,(),(),(),(),u2.1.1.2.2.2.2.2.2.2.2.2.2.1,()),()),(u2.2.2.1,u2.2.2.2.1,u2.2.2.2.2.1,u2.2.2.2.2.2.1,u2.2.2.2.2.2.2.1,u2.2.2.2.2.2.2.2.1,(u2.2.2.2.2.2.2.2.2.1.set (u5.1.1.toNat) ((u2.2.2.2.2.2.2.2.2.1.getD (u5.1.1.toNat) (0,0,[],())).1,(u2.2.2.2.2.2.2.2.2.1.getD (u5.1.1.toNat) (0,0,[],())).2.1,(((u2.2.2.2.2.2.2.2.2.1.getD (u5.1.1.toNat) (0,0,[],())).2.2.1).set (u7.1.1.toNat) ((((u2.2.2.2.2.2.2.2.2.1.getD (u5.1.1.toNat) (0,0,[],())).2.2.1).getD (u7.1.1.toNat) (0,0,[],())).1,(((u2.2.2.2.2.2.2.2.2.1.getD (u5.1.1.toNat) (0,0,[],())).2.2.1).getD (u7.1.1.toNat) (0,0,[],())).2.1,[122],())),())),x3,())))else none)else none)
 (cond (u8.1.1==2)
  (if(0:Int)≤u5.1.1∧u5.1.1<(u2.2.2.2.2.2.2.2.2.1.length:Int)then(
  if(0:Int)≤(0:Int)∧(0:Int)≤AX (x6-1)∧AX (x6-1)≤(((u2.2.2.2.2.2.2.2.2.1.getD (u5.1.1.toNat) (0,0,[],())).2.2.1).length:Int)then(
  if(0:Int)≤u5.1.1∧u5.1.1<(u2.2.2.2.2.2.2.2.2.1.length:Int)then(
  some ((((),u2.1.1.2.1,(),(),(),u2.1.1.2.2.2.2.2.1,(),(),(),(),u2.1.1.2.2.2.2.2.2.2.2.2.2.1,()),()),(u2.2.2.1,u2.2.2.2.1,u2.2.2.2.2.1,u2.2.2.2.2.2.1,u2.2.2.2.2.2.2.1,u2.2.2.2.2.2.2.2.1,(u2.2.2.2.2.2.2.2.2.1.set (u5.1.1.toNat) ((u2.2.2.2.2.2.2.2.2.1.getD (u5.1.1.toNat) (0,0,[],())).1,(u2.2.2.2.2.2.2.2.2.1.getD (u5.1.1.toNat) (0,0,[],())).2.1,((((u2.2.2.2.2.2.2.2.2.1.getD (u5.1.1.toNat) (0,0,[],())).2.2.1).drop 0).take (((AX (x6-1)).toNat)-0)),())),x3,())))else none)else none)else none)
 (cond (u8.1.1==3)
  (if(0:Int)≤u5.1.1∧u5.1.1<(u2.2.2.2.2.2.2.2.2.1.length:Int)then(
  (Jm (u2.2.2.1,u2.1.1.2.1,u2.2.2.2.1,u2.2.2.2.2.1,u2.2.2.2.2.2.1,u2.1.1.2.2.2.2.2.1,u2.2.2.2.2.2.2.1,u2.2.2.2.2.2.2.2.1,u2.2.2.2.2.2.2.2.2.1,x3,u2.1.1.2.2.2.2.2.2.2.2.2.2.1,()) u8.2.1.1 u8.2.1.2.1 u8.2.1.2.2.1).bind fun kA=>
  if(0:Int)≤u7.1.1∧u7.1.1<(((u2.2.2.2.2.2.2.2.2.1.getD (u5.1.1.toNat) (0,0,[],())).2.2.1).length:Int)then(
  some ((((),u2.1.1.2.1,(),(),(),u2.1.1.2.2.2.2.2.1,(),(),(),(),u2.1.1.2.2.2.2.2.2.2.2.2.2.1,()),()),(u2.2.2.1,u2.2.2.2.1,u2.2.2.2.2.1,u2.2.2.2.2.2.1,u2.2.2.2.2.2.2.1,u2.2.2.2.2.2.2.2.1,(u2.2.2.2.2.2.2.2.2.1.set (u5.1.1.toNat) ((u2.2.2.2.2.2.2.2.2.1.getD (u5.1.1.toNat) (0,0,[],())).1,(u2.2.2.2.2.2.2.2.2.1.getD (u5.1.1.toNat) (0,0,[],())).2.1,(((u2.2.2.2.2.2.2.2.2.1.getD (u5.1.1.toNat) (0,0,[],())).2.2.1).set (u7.1.1.toNat) ((((u2.2.2.2.2.2.2.2.2.1.getD (u5.1.1.toNat) (0,0,[],())).2.2.1).getD (u7.1.1.toNat) (0,0,[],())).1,kA.1.1,(((u2.2.2.2.2.2.2.2.2.1.getD (u5.1.1.toNat) (0,0,[],())).2.2.1).getD (u7.1.1.toNat) (0,0,[],())).2.2.1,())),())),x3,())))else none)else none)
 (some ((((),u2.1.1.2.1,(),(),(),u2.1.1.2.2.2.2.2.1,(),(),(),(),u2.1.1.2.2.2.2.2.2.2.2.2.2.1,()),()),(u2.2.2.1,u2.2.2.2.1,u2.2.2.2.2.1,u2.2.2.2.2.2.1,u2.2.2.2.2.2.2.1,u2.2.2.2.2.2.2.2.1,u2.2.2.2.2.2.2.2.2.1,x3,()))))))))else none)
abbrev YR:Type:=ABS×ACH
def Lc(p0:AAD):Option YR:=
 (Qj p0).bind fun u1=>
 (Rf p0).bind fun u2=>
 (AF 3 u2.2.1.1 u2.2.1.2.1 u2.2.1.2.2.1).bind fun u3=>
 (AF 20 u3.2.1.1 u3.2.1.2.1 u3.2.1.2.2.1).bind fun u4=>
 some (((((),u1.1.1.2.1,(),(),(),u1.1.1.2.2.2.2.2.1,(),(),(),(),u1.1.1.2.2.2.2.2.2.2.2.2.2.1,()),(AX (u3.1.1-(AX (u4.1.1.tdiv 19)))),()),()),(u1.2.1,u1.2.2.1,u1.2.2.2.1,u1.2.2.2.2.1,u1.2.2.2.2.2.1,u1.2.2.2.2.2.2.1,u1.2.2.2.2.2.2.2.1,u1.2.2.2.2.2.2.2.2.1,()))
abbrev Oi:Type:=AAu×(AAL×Unit)
abbrev Q6:Type:=ADE→Int→Int→AAL→Option Oi
def SZ(R5:Q6)(t27:ADE)(t28 t29:Int)(b0:AAL):Option Oi:=
 cond (decide (t29<t28))
  (if(0:Int)≤t29∧t29<(t27.length:Int)then(
  cond (((t27.getD (t29.toNat) (0,0,[],())).1)==1)
   (if b0.length+1≤DE then(
   R5 t27 t28 (AX (t29+1)) (b0++[(((t27.getD (t29.toNat) (0,0,[],())).2.1),((t27.getD (t29.toNat) (0,0,[],())).2.2.1),true,())]))else none)
  (R5 t27 t28 (AX (t29+1)) b0))else none)
 (some (((),()),(b0,())))
def IX:Nat→Q6
 |0=>fun _ _ _ _=>none
 |n+1=>SZ (IX n)
def Rt(R5:Q6)(p0:AAd)(p1:Int):Option Oi:=
 (NK (p0.1,p0.2.1,p0.2.2.1,p0.2.2.2.1,p0.2.2.2.2.1,p0.2.2.2.2.2.1,p0.2.2.2.2.2.2.1,p0.2.2.2.2.2.2.2.1,p0.2.2.2.2.2.2.2.2.1,p0.2.2.2.2.2.2.2.2.2.1,p0.2.2.2.2.2.2.2.2.2.2.1,())).bind fun u1=>
 cond (!u1.1.1)
  (some (((),()),([],())))
 ((CT p1 0 (AX ((p0.2.2.2.2.2.2.2.2.1.length:Int)-1))).bind fun u3=>
 cond (!u3.1.1)
  (some (((),()),([],())))
 (if(0:Int)≤p1∧p1<(p0.2.2.2.2.2.2.2.2.1.length:Int)then(
 R5 ((p0.2.2.2.2.2.2.2.2.1.getD (p1.toNat) (0,0,[],())).2.2.1) (((p0.2.2.2.2.2.2.2.2.1.getD (p1.toNat) (0,0,[],())).2.2.1).length:Int) 0 [])else none))
def R0(p0:AAd)(p1:Int):Option Oi:=Rt (IX Ac) p0 p1
abbrev OX:Type:=AAu×(AAL×Unit)
abbrev RW:Type:=Int→Int→List Int→Int→AAH→List Int→AAG→Int→AAP→AAQ→AAS→AAL→Bool→AAL→Option OX
def Sn(R5:RW)(t1 t6:Int)(AH:AAD)(AL:Int)(AU:AAH)(Df:AAD)(FK:AAG)(Eh:Int)(DU:AAP)(DN:AAQ)(EK:AAS)(Ft:AAL)(DL:Bool)(b1:AAL):Option OX:=
 if(0:Int)≤t1∧t1<(EK.length:Int)then(
 cond (decide (t6<(((EK.getD (t1.toNat) (0,0,[],())).2.2.1).length:Int)))
  (if(0:Int)≤t1∧t1<(EK.length:Int)then(
  if(0:Int)≤t6∧t6<(((EK.getD (t1.toNat) (0,0,[],())).2.2.1).length:Int)then(
  cond (((((EK.getD (t1.toNat) (0,0,[],())).2.2.1).getD (t6.toNat) (0,0,[],())).1)==1)
   (if b1.length+1≤DE then(
   R5 t1 (AX (t6+1)) AH AL AU Df FK Eh DU DN EK Ft DL (b1++[(((((EK.getD (t1.toNat) (0,0,[],())).2.2.1).getD (t6.toNat) (0,0,[],())).2.1),((((EK.getD (t1.toNat) (0,0,[],())).2.2.1).getD (t6.toNat) (0,0,[],())).2.2.1),true,())]))else none)
  (R5 t1 (AX (t6+1)) AH AL AU Df FK Eh DU DN EK Ft DL b1))else none)else none)
 (some (((),()),(b1,()))))else none
def KA:Nat→RW
 |0=>fun _ _ _ _ _ _ _ _ _ _ _ _ _ _=>none
 |n+1=>Sn (KA n)
def SG(R5:RW)(p0:AAd)(p1:Int):Option OX:=
 (HQ (p0.1,p0.2.1,p0.2.2.1,p0.2.2.2.1,p0.2.2.2.2.1,p0.2.2.2.2.2.1,p0.2.2.2.2.2.2.1,p0.2.2.2.2.2.2.2.1,p0.2.2.2.2.2.2.2.2.1,p0.2.2.2.2.2.2.2.2.2.1,p0.2.2.2.2.2.2.2.2.2.2.1,())).bind fun u1=>
 cond (!u1.1.1)
  (some (((),()),([],())))
 ((BR p1 0 1).bind fun u2=>
 cond (!u2.1.1)
  (some (((),()),([],())))
 (R5 p1 0 p0.1 p0.2.1 p0.2.2.1 p0.2.2.2.1 p0.2.2.2.2.1 p0.2.2.2.2.2.1 p0.2.2.2.2.2.2.1 p0.2.2.2.2.2.2.2.1 p0.2.2.2.2.2.2.2.2.1 p0.2.2.2.2.2.2.2.2.2.1 p0.2.2.2.2.2.2.2.2.2.2.1 []))
def Sq(p0:AAd)(p1:Int):Option OX:=SG (KA Ac) p0 p1
abbrev OY:Type:=AAa×Unit
abbrev Ph:Type:=Int→Int→Int→Int→Int→Bool→List Int→AAH→List Int→AAG→AAP→AAQ→AAS→AAL→AAL→Option OY
def RX(R13:Ph)(t4 t7 t8 AL Eh:Int)(DL:Bool)(b1:AAD)(b2:AAH)(b3:AAD)(b4:AAG)(b5:AAP)(b6:AAQ)(b7:AAS)(b8 b9:AAL):Option OY:=
 if(0:Int)≤t4∧t4<(b7.length:Int)then(
 cond (decide (t8<(((b7.getD (t4.toNat) (0,0,[],())).2.2.1).length:Int)))
  (if(0:Int)≤t4∧t4<(b7.length:Int)then(
  if(0:Int)≤t8∧t8<(((b7.getD (t4.toNat) (0,0,[],())).2.2.1).length:Int)then(
  cond (((((b7.getD (t4.toNat) (0,0,[],())).2.2.1).getD (t8.toNat) (0,0,[],())).1)==1)
   (cond ((decide (t7≥(b9.length:Int))))
    (some ((false,()),()))
   (if(0:Int)≤t7∧t7<(b9.length:Int)then(
   cond (((b9.getD (t7.toNat) (0,[],false,())).1) !=((((b7.getD (t4.toNat) (0,0,[],())).2.2.1).getD (t8.toNat) (0,0,[],())).2.1))
    (some ((false,()),()))
   (if(0:Int)≤t7∧t7<(b9.length:Int)then(
   cond (!(((b9.getD (t7.toNat) (0,[],false,())).2.1)==((((b7.getD (t4.toNat) (0,0,[],())).2.2.1).getD (t8.toNat) (0,0,[],())).2.2.1)))
    (some ((false,()),()))
   (if(0:Int)≤t7∧t7<(b9.length:Int)then(
   cond (!((b9.getD (t7.toNat) (0,[],false,())).2.2.1))
    (some ((false,()),()))
   (R13 t4 (AX (t7+1)) (AX (t8+1)) AL Eh DL b1 b2 b3 b4 b5 b6 b7 b8 b9))else none))else none))else none))
  (R13 t4 t7 (AX (t8+1)) AL Eh DL b1 b2 b3 b4 b5 b6 b7 b8 b9))else none)else none)
 (some (((t7==(b9.length:Int)),()),())))else none
def JE:Nat→Ph
 |0=>fun _ _ _ _ _ _ _ _ _ _ _ _ _ _ _=>none
 |n+1=>RX (JE n)
def SD(R13:Ph)(p0:AAD):Option OY:=
 (cg p0).bind fun u1=>
 cond (u1.1.1)
  (some ((true,()),()))
 ((Lc p0).bind fun u2=>
 (NK (u2.2.1,u2.1.1.1.2.1,u2.2.2.1,u2.2.2.2.1,u2.2.2.2.2.1,u2.1.1.1.2.2.2.2.2.1,u2.2.2.2.2.2.1,u2.2.2.2.2.2.2.1,u2.2.2.2.2.2.2.2.1,u2.2.2.2.2.2.2.2.2.1,u2.1.1.1.2.2.2.2.2.2.2.2.2.2.1,())).bind fun u3=>
 (HQ (u2.2.1,u2.1.1.1.2.1,u2.2.2.1,u2.2.2.2.1,u2.2.2.2.2.1,u2.1.1.1.2.2.2.2.2.1,u2.2.2.2.2.2.1,u2.2.2.2.2.2.2.1,u2.2.2.2.2.2.2.2.1,u2.2.2.2.2.2.2.2.2.1,u2.1.1.1.2.2.2.2.2.2.2.2.2.2.1,())).bind fun u4=>
 cond (u3.1.1 !=u4.1.1)
  (some ((false,()),()))
 ((R0 (u2.2.1,u2.1.1.1.2.1,u2.2.2.1,u2.2.2.2.1,u2.2.2.2.2.1,u2.1.1.1.2.2.2.2.2.1,u2.2.2.2.2.2.1,u2.2.2.2.2.2.2.1,u2.2.2.2.2.2.2.2.1,u2.2.2.2.2.2.2.2.2.1,u2.1.1.1.2.2.2.2.2.2.2.2.2.2.1,()) u2.1.1.2.1).bind fun u5=>
 (Sq (u2.2.1,u2.1.1.1.2.1,u2.2.2.1,u2.2.2.2.1,u2.2.2.2.2.1,u2.1.1.1.2.2.2.2.2.1,u2.2.2.2.2.2.1,u2.2.2.2.2.2.2.1,u2.2.2.2.2.2.2.2.1,u2.2.2.2.2.2.2.2.2.1,u2.1.1.1.2.2.2.2.2.2.2.2.2.2.1,()) u2.1.1.2.1).bind fun u6=>
 cond ((u5.2.1.length:Int) !=(u6.2.1.length:Int))
  (some ((false,()),()))
 ((HQ (u2.2.1,u2.1.1.1.2.1,u2.2.2.1,u2.2.2.2.1,u2.2.2.2.2.1,u2.1.1.1.2.2.2.2.2.1,u2.2.2.2.2.2.1,u2.2.2.2.2.2.2.1,u2.2.2.2.2.2.2.2.1,u2.2.2.2.2.2.2.2.2.1,u2.1.1.1.2.2.2.2.2.2.2.2.2.2.1,())).bind fun u9=>
 cond (u9.1.1)
  (cond ((decide (u2.1.1.2.1≥0)))
   (cond ((decide (u2.1.1.2.1≤1)))
    (R13 u2.1.1.2.1 0 0 u2.1.1.1.2.1 u2.1.1.1.2.2.2.2.2.1 u2.1.1.1.2.2.2.2.2.2.2.2.2.2.1 u2.2.1 u2.2.2.1 u2.2.2.2.1 u2.2.2.2.2.1 u2.2.2.2.2.2.1 u2.2.2.2.2.2.2.1 u2.2.2.2.2.2.2.2.1 u2.2.2.2.2.2.2.2.2.1 u5.2.1)
   (some ((0==(u5.2.1.length:Int),()),())))
  (some ((0==(u5.2.1.length:Int),()),())))
 (some ((0==(u5.2.1.length:Int),()),())))))
def O0(p0:AAD):Option OY:=SD (JE Ac) p0
end
end Go.M
